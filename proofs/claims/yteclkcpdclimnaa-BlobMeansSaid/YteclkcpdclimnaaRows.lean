/-
  No cell of these rows narrows 'for every input' (looked for: loops, veiled, ifaces, maps, wideKeys, modest, calm, conditions, laid).
  DERIVED. THE GIVEN ROWS OF THIS SEAT. 3 by the template 'for every input the law returns true; each argument reads behind the call as it read before'; 0 by the template 'total and deterministic' (their statements: YteclkcpdclimnaaTotals.lean).
  GIVEN WITH THE SEED: the statements are not yours to turn. If you find one false, say at which input.
  Laid BY PROGRAM, IN A SANDBOX (cutbox-rows.mjs): the forced cells as the released guide's own fill.sh prints them over the translation 90a3f9536e339184… (all of the seat's roots in one cut). By AI agents, Wed Nov 11 2026. No macro, syntax, notation, axiom, sorry.
-/
import Derived.Test.YteclkcpdclimnaaChecked
import GoSem.Claim
import GoSem.ClaimJoined
import GoSem.ClaimMapViews
import Derived.JoinedTies
import Derived.KernelRfl
namespace Go.Proofs.Yteclkcpdclimnaa
/- THE CELL 'sum', in the pinned program and in every row, IS THE sha256 OF THE DUMP (.gsa) THAT YteclkcpdclimnaaProg.lean LOADS. Nothing in Lean hashes anything: it is a label: what it is worth is what the hold of that sum in a sandbox is worth. -/
noncomputable def Try.pinned : Pinned := { name := "yteclkcpdclimnaa", sum := "90a3f9536e33918454600ab8cd6aaf904fd80ee0586563d413de68a9b434eb13", checked := Try.checked }
namespace Rows
def none {H : Type} : Left H := { results := [], args := [] }

/-- 'anchoritelaw16.BlobMeans': WHATEVER THE INPUT: true; the input reads as it did. -/
def blobMeansSpec : ChangeSpec := { name := "blobMeans", fn := fun _ => fun
  | [d1, d2, d3, d4, d5, d6, d7, d8] => { results := [.lit (.bool true)], args := [d1, d2, d3, d4, d5, d6, d7, d8] }
  | _ => none }
def blobMeansRow : OpenClaim := { program := "yteclkcpdclimnaa", sum := "90a3f9536e33918454600ab8cd6aaf904fd80ee0586563d413de68a9b434eb13", func := "anchorite/anchoritelaw16.BlobMeans", spec := "blobMeans", inPlace := ["math/bits.Add64"], unfollowed := true, recurses := true, plainKeys := false, apart := false }
def BlobMeansSaid : Prop := blobMeansRow.holds Try.pinned (OpenSpec.ofChange blobMeansSpec)

/-- ITS FALSE NEIGHBOUR: 'it returns false'. Refute it at one input. -/
def blobMeansWrong : ChangeSpec := { name := "blobMeans", fn := fun _ => fun
  | [d1, d2, d3, d4, d5, d6, d7, d8] => { results := [.lit (.bool false)], args := [d1, d2, d3, d4, d5, d6, d7, d8] }
  | _ => none }
def BlobMeansWrongFalsely : Prop := blobMeansRow.holds Try.pinned (OpenSpec.ofChange blobMeansWrong)

/-- 'anchoritelaw12.MeasureApart': WHATEVER THE INPUT: true; the input reads as it did. -/
def measureApartSpec : ChangeSpec := { name := "measureApart", fn := fun _ => fun
  | [d1, d2, d3] => { results := [.lit (.bool true)], args := [d1, d2, d3] }
  | _ => none }
def measureApartRow : OpenClaim := { program := "yteclkcpdclimnaa", sum := "90a3f9536e33918454600ab8cd6aaf904fd80ee0586563d413de68a9b434eb13", func := "anchorite/anchoritelaw12.MeasureApart", spec := "measureApart", inPlace := ["math/bits.Add64"], unfollowed := true, recurses := true, plainKeys := false, apart := false }
def MeasureApartSaid : Prop := measureApartRow.holds Try.pinned (OpenSpec.ofChange measureApartSpec)

/-- ITS FALSE NEIGHBOUR: 'it returns false'. Refute it at one input. -/
def measureApartWrong : ChangeSpec := { name := "measureApart", fn := fun _ => fun
  | [d1, d2, d3] => { results := [.lit (.bool false)], args := [d1, d2, d3] }
  | _ => none }
def MeasureApartWrongFalsely : Prop := measureApartRow.holds Try.pinned (OpenSpec.ofChange measureApartWrong)

/-- 'anchoritelaw05.OracleBridge': WHATEVER THE INPUT: true; the input reads as it did. -/
def oracleBridgeSpec : ChangeSpec := { name := "oracleBridge", fn := fun _ => fun
  | [d1, d2] => { results := [.lit (.bool true)], args := [d1, d2] }
  | _ => none }
def oracleBridgeRow : OpenClaim := { program := "yteclkcpdclimnaa", sum := "90a3f9536e33918454600ab8cd6aaf904fd80ee0586563d413de68a9b434eb13", func := "anchorite/anchoritelaw05.OracleBridge", spec := "oracleBridge", inPlace := ["math/bits.Add64"], unfollowed := true, recurses := true, plainKeys := false, apart := false }
def OracleBridgeSaid : Prop := oracleBridgeRow.holds Try.pinned (OpenSpec.ofChange oracleBridgeSpec)

/-- ITS FALSE NEIGHBOUR: 'it returns false'. Refute it at one input. -/
def oracleBridgeWrong : ChangeSpec := { name := "oracleBridge", fn := fun _ => fun
  | [d1, d2] => { results := [.lit (.bool false)], args := [d1, d2] }
  | _ => none }
def OracleBridgeWrongFalsely : Prop := oracleBridgeRow.holds Try.pinned (OpenSpec.ofChange oracleBridgeWrong)

/- THE SECOND FORM. 'bulk': how many values and letters a reading holds, each counted each time it is reached (what is shared counts as often as it is met; a slice's spare places count too). A statement '..UptoSaid' is the law's where the arguments, and the package variables that the reading takes, are together of bulk at most 1048576: NARROWER than '..Said'. Prove '..Said' where nothing that the law and all that it calls make is longer than what came in: it says more and counts as full. Else prove '..UptoSaid'. A law counts once. -/
mutual
def uptoBulk {H : Type} : DataW H → Nat
  | .lit (.string bytes) => bytes.length + 1
  | .lit _ => 1
  | .nil => 1
  | .ptr d => uptoBulk d + 1
  | .slice elems spare => uptoBulkAll elems + uptoBulkAll spare + 1
  | .agg parts => uptoBulkAll parts + 1
  | .iface _ d => uptoBulk d + 1
  | .map entries => uptoBulkEntries entries + 1
  | .held _ => 1
def uptoBulkAll {H : Type} : List (DataW H) → Nat
  | [] => 0
  | d :: r => uptoBulk d + uptoBulkAll r
def uptoBulkEntries {H : Type} : List (Lit × DataW H) → Nat
  | [] => 0
  | x :: r => uptoBulkEntry x + uptoBulkEntries r
def uptoBulkEntry {H : Type} : Lit × DataW H → Nat
  | (.string bytes, d) => bytes.length + uptoBulk d + 1
  | (_, d) => uptoBulk d + 1
 end
def uptoSmall : (H : Type) → List (DataW H) → Bool := fun _ ds => decide (uptoBulkAll ds ≤ 1048576)
def OpenSpec.upto (s : _root_.Go.ChangeSpec) : _root_.Go.OpenSpec := { _root_.Go.OpenSpec.ofChange s with cond := some uptoSmall }

/-- 'anchoritelaw16.BlobMeans', WHERE WHAT IT READS IS OF BULK AT MOST 1048576: true; the input reads as it did. -/
def blobMeansUptoRow : OpenClaim := { program := "yteclkcpdclimnaa", sum := "90a3f9536e33918454600ab8cd6aaf904fd80ee0586563d413de68a9b434eb13", func := "anchorite/anchoritelaw16.BlobMeans", spec := "blobMeans", inPlace := ["math/bits.Add64"], unfollowed := true, recurses := true, plainKeys := false, apart := false, narrowed := true }
def BlobMeansUptoSaid : Prop := blobMeansUptoRow.holds Try.pinned (OpenSpec.upto blobMeansSpec)

/-- 'anchoritelaw12.MeasureApart', WHERE WHAT IT READS IS OF BULK AT MOST 1048576: true; the input reads as it did. -/
def measureApartUptoRow : OpenClaim := { program := "yteclkcpdclimnaa", sum := "90a3f9536e33918454600ab8cd6aaf904fd80ee0586563d413de68a9b434eb13", func := "anchorite/anchoritelaw12.MeasureApart", spec := "measureApart", inPlace := ["math/bits.Add64"], unfollowed := true, recurses := true, plainKeys := false, apart := false, narrowed := true }
def MeasureApartUptoSaid : Prop := measureApartUptoRow.holds Try.pinned (OpenSpec.upto measureApartSpec)

/-- 'anchoritelaw05.OracleBridge', WHERE WHAT IT READS IS OF BULK AT MOST 1048576: true; the input reads as it did. -/
def oracleBridgeUptoRow : OpenClaim := { program := "yteclkcpdclimnaa", sum := "90a3f9536e33918454600ab8cd6aaf904fd80ee0586563d413de68a9b434eb13", func := "anchorite/anchoritelaw05.OracleBridge", spec := "oracleBridge", inPlace := ["math/bits.Add64"], unfollowed := true, recurses := true, plainKeys := false, apart := false, narrowed := true }
def OracleBridgeUptoSaid : Prop := oracleBridgeUptoRow.holds Try.pinned (OpenSpec.upto oracleBridgeSpec)

end Rows
end Go.Proofs.Yteclkcpdclimnaa
