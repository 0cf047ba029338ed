/-
  No cell of these rows narrows 'for every input' (looked for: loops, veiled, ifaces, maps, wideKeys, modest, calm, conditions, laid).
  DERIVED. THE GIVEN ROWS OF THIS SEAT. 7 by the template 'for every input the law returns true; each argument reads behind the call as it read before'; 0 by the template 'total and deterministic' (their statements: YtbldmljbfokobaaTotals.lean).
  GIVEN WITH THE SEED: the statements are not yours to turn. If you find one false, say at which input.
  Laid BY PROGRAM, IN A SANDBOX (cutbox-rows.mjs): the forced cells as the released guide's own fill.sh prints them over the translation aaf2a073bb9be4d0… (all of the seat's roots in one cut). By AI agents, Wed Nov 11 2026. No macro, syntax, notation, axiom, sorry.
-/
import Derived.Test.YtbldmljbfokobaaChecked
import GoSem.Claim
import GoSem.ClaimJoined
import GoSem.ClaimMapViews
import Derived.JoinedTies
import Derived.KernelRfl
namespace Go.Proofs.Ytbldmljbfokobaa
/- THE CELL 'sum', in the pinned program and in every row, IS THE sha256 OF THE DUMP (.gsa) THAT YtbldmljbfokobaaProg.lean LOADS. Nothing in Lean hashes anything: it is a label: what it is worth is what the hold of that sum in a sandbox is worth. -/
noncomputable def Try.pinned : Pinned := { name := "ytbldmljbfokobaa", sum := "aaf2a073bb9be4d03b57f84e4567c64730c7e760989f9ed161c6f6c4597489a1", checked := Try.checked }
namespace Rows
def none {H : Type} : Left H := { results := [], args := [] }

/-- 'anchoritelaw12.MeasureApart': WHATEVER THE INPUT: true; the input reads as it did. -/
def measureApartSpec : ChangeSpec := { name := "measureApart", fn := fun _ => fun
  | [d1, d2, d3] => { results := [.lit (.bool true)], args := [d1, d2, d3] }
  | _ => none }
def measureApartRow : OpenClaim := { program := "ytbldmljbfokobaa", sum := "aaf2a073bb9be4d03b57f84e4567c64730c7e760989f9ed161c6f6c4597489a1", func := "anchorite/anchoritelaw12.MeasureApart", spec := "measureApart", inPlace := ["math/bits.Add64"], unfollowed := true, recurses := true, plainKeys := false, apart := false }
def MeasureApartSaid : Prop := measureApartRow.holds Try.pinned (OpenSpec.ofChange measureApartSpec)

/-- ITS FALSE NEIGHBOUR: 'it returns false'. Refute it at one input. -/
def measureApartWrong : ChangeSpec := { name := "measureApart", fn := fun _ => fun
  | [d1, d2, d3] => { results := [.lit (.bool false)], args := [d1, d2, d3] }
  | _ => none }
def MeasureApartWrongFalsely : Prop := measureApartRow.holds Try.pinned (OpenSpec.ofChange measureApartWrong)

/-- 'anchoritelaw12.MeasureNil': WHATEVER THE INPUT: true; the input reads as it did. -/
def measureNilSpec : ChangeSpec := { name := "measureNil", fn := fun _ => fun
  | [] => { results := [.lit (.bool true)], args := [] }
  | _ => none }
def measureNilRow : OpenClaim := { program := "ytbldmljbfokobaa", sum := "aaf2a073bb9be4d03b57f84e4567c64730c7e760989f9ed161c6f6c4597489a1", func := "anchorite/anchoritelaw12.MeasureNil", spec := "measureNil", inPlace := ["math/bits.Add64"], unfollowed := true, recurses := true, plainKeys := false, apart := false }
def MeasureNilSaid : Prop := measureNilRow.holds Try.pinned (OpenSpec.ofChange measureNilSpec)

/-- ITS FALSE NEIGHBOUR: 'it returns false'. Refute it at one input. -/
def measureNilWrong : ChangeSpec := { name := "measureNil", fn := fun _ => fun
  | [] => { results := [.lit (.bool false)], args := [] }
  | _ => none }
def MeasureNilWrongFalsely : Prop := measureNilRow.holds Try.pinned (OpenSpec.ofChange measureNilWrong)

/-- 'anchoritelaw05.OracleBridge': WHATEVER THE INPUT: true; the input reads as it did. -/
def oracleBridgeSpec : ChangeSpec := { name := "oracleBridge", fn := fun _ => fun
  | [d1, d2] => { results := [.lit (.bool true)], args := [d1, d2] }
  | _ => none }
def oracleBridgeRow : OpenClaim := { program := "ytbldmljbfokobaa", sum := "aaf2a073bb9be4d03b57f84e4567c64730c7e760989f9ed161c6f6c4597489a1", func := "anchorite/anchoritelaw05.OracleBridge", spec := "oracleBridge", inPlace := ["math/bits.Add64"], unfollowed := true, recurses := true, plainKeys := false, apart := false }
def OracleBridgeSaid : Prop := oracleBridgeRow.holds Try.pinned (OpenSpec.ofChange oracleBridgeSpec)

/-- ITS FALSE NEIGHBOUR: 'it returns false'. Refute it at one input. -/
def oracleBridgeWrong : ChangeSpec := { name := "oracleBridge", fn := fun _ => fun
  | [d1, d2] => { results := [.lit (.bool false)], args := [d1, d2] }
  | _ => none }
def OracleBridgeWrongFalsely : Prop := oracleBridgeRow.holds Try.pinned (OpenSpec.ofChange oracleBridgeWrong)

/-- 'anchoritelaw16.BlobMixes': WHATEVER THE INPUT: true; the input reads as it did. -/
def blobMixesSpec : ChangeSpec := { name := "blobMixes", fn := fun _ => fun
  | [d1, d2] => { results := [.lit (.bool true)], args := [d1, d2] }
  | _ => none }
def blobMixesRow : OpenClaim := { program := "ytbldmljbfokobaa", sum := "aaf2a073bb9be4d03b57f84e4567c64730c7e760989f9ed161c6f6c4597489a1", func := "anchorite/anchoritelaw16.BlobMixes", spec := "blobMixes", inPlace := ["math/bits.Add64"], unfollowed := true, recurses := true, plainKeys := false, apart := false }
def BlobMixesSaid : Prop := blobMixesRow.holds Try.pinned (OpenSpec.ofChange blobMixesSpec)

/-- ITS FALSE NEIGHBOUR: 'it returns false'. Refute it at one input. -/
def blobMixesWrong : ChangeSpec := { name := "blobMixes", fn := fun _ => fun
  | [d1, d2] => { results := [.lit (.bool false)], args := [d1, d2] }
  | _ => none }
def BlobMixesWrongFalsely : Prop := blobMixesRow.holds Try.pinned (OpenSpec.ofChange blobMixesWrong)

/-- 'anchoritelaw16.BlobMeans': WHATEVER THE INPUT: true; the input reads as it did. -/
def blobMeansSpec : ChangeSpec := { name := "blobMeans", fn := fun _ => fun
  | [d1, d2, d3, d4, d5, d6, d7, d8] => { results := [.lit (.bool true)], args := [d1, d2, d3, d4, d5, d6, d7, d8] }
  | _ => none }
def blobMeansRow : OpenClaim := { program := "ytbldmljbfokobaa", sum := "aaf2a073bb9be4d03b57f84e4567c64730c7e760989f9ed161c6f6c4597489a1", func := "anchorite/anchoritelaw16.BlobMeans", spec := "blobMeans", inPlace := ["math/bits.Add64"], unfollowed := true, recurses := true, plainKeys := false, apart := false }
def BlobMeansSaid : Prop := blobMeansRow.holds Try.pinned (OpenSpec.ofChange blobMeansSpec)

/-- ITS FALSE NEIGHBOUR: 'it returns false'. Refute it at one input. -/
def blobMeansWrong : ChangeSpec := { name := "blobMeans", fn := fun _ => fun
  | [d1, d2, d3, d4, d5, d6, d7, d8] => { results := [.lit (.bool false)], args := [d1, d2, d3, d4, d5, d6, d7, d8] }
  | _ => none }
def BlobMeansWrongFalsely : Prop := blobMeansRow.holds Try.pinned (OpenSpec.ofChange blobMeansWrong)

/-- 'anchoritelaw16.BlobNil': WHATEVER THE INPUT: true; the input reads as it did. -/
def blobNilSpec : ChangeSpec := { name := "blobNil", fn := fun _ => fun
  | [] => { results := [.lit (.bool true)], args := [] }
  | _ => none }
def blobNilRow : OpenClaim := { program := "ytbldmljbfokobaa", sum := "aaf2a073bb9be4d03b57f84e4567c64730c7e760989f9ed161c6f6c4597489a1", func := "anchorite/anchoritelaw16.BlobNil", spec := "blobNil", inPlace := ["math/bits.Add64"], unfollowed := true, recurses := true, plainKeys := false, apart := false }
def BlobNilSaid : Prop := blobNilRow.holds Try.pinned (OpenSpec.ofChange blobNilSpec)

/-- ITS FALSE NEIGHBOUR: 'it returns false'. Refute it at one input. -/
def blobNilWrong : ChangeSpec := { name := "blobNil", fn := fun _ => fun
  | [] => { results := [.lit (.bool false)], args := [] }
  | _ => none }
def BlobNilWrongFalsely : Prop := blobNilRow.holds Try.pinned (OpenSpec.ofChange blobNilWrong)

/-- 'anchoritelaw05.OracleNil': WHATEVER THE INPUT: true; the input reads as it did. -/
def oracleNilSpec : ChangeSpec := { name := "oracleNil", fn := fun _ => fun
  | [] => { results := [.lit (.bool true)], args := [] }
  | _ => none }
def oracleNilRow : OpenClaim := { program := "ytbldmljbfokobaa", sum := "aaf2a073bb9be4d03b57f84e4567c64730c7e760989f9ed161c6f6c4597489a1", func := "anchorite/anchoritelaw05.OracleNil", spec := "oracleNil", inPlace := ["math/bits.Add64"], unfollowed := true, recurses := true, plainKeys := false, apart := false }
def OracleNilSaid : Prop := oracleNilRow.holds Try.pinned (OpenSpec.ofChange oracleNilSpec)

/-- ITS FALSE NEIGHBOUR: 'it returns false'. Refute it at one input. -/
def oracleNilWrong : ChangeSpec := { name := "oracleNil", fn := fun _ => fun
  | [] => { results := [.lit (.bool false)], args := [] }
  | _ => none }
def OracleNilWrongFalsely : Prop := oracleNilRow.holds Try.pinned (OpenSpec.ofChange oracleNilWrong)

/- THE SECOND FORM. 'bulk': how many values and letters a reading holds, each counted each time it is reached (what is shared counts as often as it is met; a slice's spare places count too). A statement '..UptoSaid' is the law's where the arguments, and the package variables that the reading takes, are together of bulk at most 1048576: NARROWER than '..Said'. Prove '..Said' where nothing that the law and all that it calls make is longer than what came in: it says more and counts as full. Else prove '..UptoSaid'. A law counts once. -/
mutual
def uptoBulk {H : Type} : DataW H → Nat
  | .lit (.string bytes) => bytes.length + 1
  | .lit _ => 1
  | .nil => 1
  | .ptr d => uptoBulk d + 1
  | .slice elems spare => uptoBulkAll elems + uptoBulkAll spare + 1
  | .agg parts => uptoBulkAll parts + 1
  | .iface _ d => uptoBulk d + 1
  | .map entries => uptoBulkEntries entries + 1
  | .held _ => 1
def uptoBulkAll {H : Type} : List (DataW H) → Nat
  | [] => 0
  | d :: r => uptoBulk d + uptoBulkAll r
def uptoBulkEntries {H : Type} : List (Lit × DataW H) → Nat
  | [] => 0
  | x :: r => uptoBulkEntry x + uptoBulkEntries r
def uptoBulkEntry {H : Type} : Lit × DataW H → Nat
  | (.string bytes, d) => bytes.length + uptoBulk d + 1
  | (_, d) => uptoBulk d + 1
 end
def uptoSmall : (H : Type) → List (DataW H) → Bool := fun _ ds => decide (uptoBulkAll ds ≤ 1048576)
def OpenSpec.upto (s : _root_.Go.ChangeSpec) : _root_.Go.OpenSpec := { _root_.Go.OpenSpec.ofChange s with cond := some uptoSmall }

/-- 'anchoritelaw12.MeasureApart', WHERE WHAT IT READS IS OF BULK AT MOST 1048576: true; the input reads as it did. -/
def measureApartUptoRow : OpenClaim := { program := "ytbldmljbfokobaa", sum := "aaf2a073bb9be4d03b57f84e4567c64730c7e760989f9ed161c6f6c4597489a1", func := "anchorite/anchoritelaw12.MeasureApart", spec := "measureApart", inPlace := ["math/bits.Add64"], unfollowed := true, recurses := true, plainKeys := false, apart := false, narrowed := true }
def MeasureApartUptoSaid : Prop := measureApartUptoRow.holds Try.pinned (OpenSpec.upto measureApartSpec)

/-- 'anchoritelaw12.MeasureNil', WHERE WHAT IT READS IS OF BULK AT MOST 1048576: true; the input reads as it did. -/
def measureNilUptoRow : OpenClaim := { program := "ytbldmljbfokobaa", sum := "aaf2a073bb9be4d03b57f84e4567c64730c7e760989f9ed161c6f6c4597489a1", func := "anchorite/anchoritelaw12.MeasureNil", spec := "measureNil", inPlace := ["math/bits.Add64"], unfollowed := true, recurses := true, plainKeys := false, apart := false, narrowed := true }
def MeasureNilUptoSaid : Prop := measureNilUptoRow.holds Try.pinned (OpenSpec.upto measureNilSpec)

/-- 'anchoritelaw05.OracleBridge', WHERE WHAT IT READS IS OF BULK AT MOST 1048576: true; the input reads as it did. -/
def oracleBridgeUptoRow : OpenClaim := { program := "ytbldmljbfokobaa", sum := "aaf2a073bb9be4d03b57f84e4567c64730c7e760989f9ed161c6f6c4597489a1", func := "anchorite/anchoritelaw05.OracleBridge", spec := "oracleBridge", inPlace := ["math/bits.Add64"], unfollowed := true, recurses := true, plainKeys := false, apart := false, narrowed := true }
def OracleBridgeUptoSaid : Prop := oracleBridgeUptoRow.holds Try.pinned (OpenSpec.upto oracleBridgeSpec)

/-- 'anchoritelaw16.BlobMixes', WHERE WHAT IT READS IS OF BULK AT MOST 1048576: true; the input reads as it did. -/
def blobMixesUptoRow : OpenClaim := { program := "ytbldmljbfokobaa", sum := "aaf2a073bb9be4d03b57f84e4567c64730c7e760989f9ed161c6f6c4597489a1", func := "anchorite/anchoritelaw16.BlobMixes", spec := "blobMixes", inPlace := ["math/bits.Add64"], unfollowed := true, recurses := true, plainKeys := false, apart := false, narrowed := true }
def BlobMixesUptoSaid : Prop := blobMixesUptoRow.holds Try.pinned (OpenSpec.upto blobMixesSpec)

/-- 'anchoritelaw16.BlobMeans', WHERE WHAT IT READS IS OF BULK AT MOST 1048576: true; the input reads as it did. -/
def blobMeansUptoRow : OpenClaim := { program := "ytbldmljbfokobaa", sum := "aaf2a073bb9be4d03b57f84e4567c64730c7e760989f9ed161c6f6c4597489a1", func := "anchorite/anchoritelaw16.BlobMeans", spec := "blobMeans", inPlace := ["math/bits.Add64"], unfollowed := true, recurses := true, plainKeys := false, apart := false, narrowed := true }
def BlobMeansUptoSaid : Prop := blobMeansUptoRow.holds Try.pinned (OpenSpec.upto blobMeansSpec)

/-- 'anchoritelaw16.BlobNil', WHERE WHAT IT READS IS OF BULK AT MOST 1048576: true; the input reads as it did. -/
def blobNilUptoRow : OpenClaim := { program := "ytbldmljbfokobaa", sum := "aaf2a073bb9be4d03b57f84e4567c64730c7e760989f9ed161c6f6c4597489a1", func := "anchorite/anchoritelaw16.BlobNil", spec := "blobNil", inPlace := ["math/bits.Add64"], unfollowed := true, recurses := true, plainKeys := false, apart := false, narrowed := true }
def BlobNilUptoSaid : Prop := blobNilUptoRow.holds Try.pinned (OpenSpec.upto blobNilSpec)

/-- 'anchoritelaw05.OracleNil', WHERE WHAT IT READS IS OF BULK AT MOST 1048576: true; the input reads as it did. -/
def oracleNilUptoRow : OpenClaim := { program := "ytbldmljbfokobaa", sum := "aaf2a073bb9be4d03b57f84e4567c64730c7e760989f9ed161c6f6c4597489a1", func := "anchorite/anchoritelaw05.OracleNil", spec := "oracleNil", inPlace := ["math/bits.Add64"], unfollowed := true, recurses := true, plainKeys := false, apart := false, narrowed := true }
def OracleNilUptoSaid : Prop := oracleNilUptoRow.holds Try.pinned (OpenSpec.upto oracleNilSpec)

end Rows
end Go.Proofs.Ytbldmljbfokobaa
