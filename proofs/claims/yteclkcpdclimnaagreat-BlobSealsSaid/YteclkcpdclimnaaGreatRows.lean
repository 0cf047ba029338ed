/-
  No cell of these rows narrows 'for every input' (looked for: loops, veiled, ifaces, maps, wideKeys, modest, calm, conditions, laid).
  DERIVED. THE GIVEN ROWS OF THIS SEAT. 7 by the template 'for every input the law returns true; each argument reads behind the call as it read before'; 0 by the template 'total and deterministic' (their statements: YteclkcpdclimnaaGreatTotals.lean).
  GIVEN WITH THE SEED: the statements are not yours to turn. If you find one false, say at which input.
  Laid BY PROGRAM, IN A SANDBOX (cutbox-rows.mjs): the forced cells as the released guide's own fill.sh prints them over the translation 744cc6792a7b95a7… (all of the seat's roots in one cut). By AI agents, Wed Nov 11 2026. No macro, syntax, notation, axiom, sorry.
-/
import Derived.Test.YteclkcpdclimnaaGreatChecked
import GoSem.Claim
import GoSem.ClaimJoined
import GoSem.ClaimMapViews
import Derived.JoinedTies
import Derived.KernelRfl
namespace Go.Proofs.YteclkcpdclimnaaGreat
/- THE CELL 'sum', in the pinned program and in every row, IS THE sha256 OF THE DUMP (.gsa) THAT YteclkcpdclimnaaGreatProg.lean LOADS. Nothing in Lean hashes anything: it is a label: what it is worth is what the hold of that sum in a sandbox is worth. -/
noncomputable def Tryz.pinned : Pinned := { name := "yteclkcpdclimnaagreat", sum := "744cc6792a7b95a7a82fec9ff43c854036286601a8e8b2118dfafeb084dc1242", checked := Tryz.checked }
namespace Rows
def none {H : Type} : Left H := { results := [], args := [] }

/-- 'anchoritelaw16.BlobLeaves': WHATEVER THE INPUT: true; the input reads as it did. -/
def blobLeavesSpec : ChangeSpec := { name := "blobLeaves", fn := fun _ => fun
  | [d1, d2, d3, d4] => { results := [.lit (.bool true)], args := [d1, d2, d3, d4] }
  | _ => none }
def blobLeavesRow : OpenClaim := { program := "yteclkcpdclimnaagreat", sum := "744cc6792a7b95a7a82fec9ff43c854036286601a8e8b2118dfafeb084dc1242", func := "anchorite/anchoritelaw16.BlobLeaves", spec := "blobLeaves", inPlace := ["math/bits.Add64"], unfollowed := true, recurses := true, plainKeys := false, apart := false }
def BlobLeavesSaid : Prop := blobLeavesRow.holds Tryz.pinned (OpenSpec.ofChange blobLeavesSpec)

/-- ITS FALSE NEIGHBOUR: 'it returns false'. Refute it at one input. -/
def blobLeavesWrong : ChangeSpec := { name := "blobLeaves", fn := fun _ => fun
  | [d1, d2, d3, d4] => { results := [.lit (.bool false)], args := [d1, d2, d3, d4] }
  | _ => none }
def BlobLeavesWrongFalsely : Prop := blobLeavesRow.holds Tryz.pinned (OpenSpec.ofChange blobLeavesWrong)

/-- 'anchoritelaw16.BlobSeals': WHATEVER THE INPUT: true; the input reads as it did. -/
def blobSealsSpec : ChangeSpec := { name := "blobSeals", fn := fun _ => fun
  | [d1, d2, d3, d4, d5] => { results := [.lit (.bool true)], args := [d1, d2, d3, d4, d5] }
  | _ => none }
def blobSealsRow : OpenClaim := { program := "yteclkcpdclimnaagreat", sum := "744cc6792a7b95a7a82fec9ff43c854036286601a8e8b2118dfafeb084dc1242", func := "anchorite/anchoritelaw16.BlobSeals", spec := "blobSeals", inPlace := ["math/bits.Add64"], unfollowed := true, recurses := true, plainKeys := false, apart := false }
def BlobSealsSaid : Prop := blobSealsRow.holds Tryz.pinned (OpenSpec.ofChange blobSealsSpec)

/-- ITS FALSE NEIGHBOUR: 'it returns false'. Refute it at one input. -/
def blobSealsWrong : ChangeSpec := { name := "blobSeals", fn := fun _ => fun
  | [d1, d2, d3, d4, d5] => { results := [.lit (.bool false)], args := [d1, d2, d3, d4, d5] }
  | _ => none }
def BlobSealsWrongFalsely : Prop := blobSealsRow.holds Tryz.pinned (OpenSpec.ofChange blobSealsWrong)

/-- 'anchoritelaw12.MeasureSteps': WHATEVER THE INPUT: true; the input reads as it did. -/
def measureStepsSpec : ChangeSpec := { name := "measureSteps", fn := fun _ => fun
  | [d1, d2, d3, d4, d5, d6, d7] => { results := [.lit (.bool true)], args := [d1, d2, d3, d4, d5, d6, d7] }
  | _ => none }
def measureStepsRow : OpenClaim := { program := "yteclkcpdclimnaagreat", sum := "744cc6792a7b95a7a82fec9ff43c854036286601a8e8b2118dfafeb084dc1242", func := "anchorite/anchoritelaw12.MeasureSteps", spec := "measureSteps", inPlace := ["math/bits.Add64"], unfollowed := true, recurses := true, plainKeys := false, apart := false }
def MeasureStepsSaid : Prop := measureStepsRow.holds Tryz.pinned (OpenSpec.ofChange measureStepsSpec)

/-- ITS FALSE NEIGHBOUR: 'it returns false'. Refute it at one input. -/
def measureStepsWrong : ChangeSpec := { name := "measureSteps", fn := fun _ => fun
  | [d1, d2, d3, d4, d5, d6, d7] => { results := [.lit (.bool false)], args := [d1, d2, d3, d4, d5, d6, d7] }
  | _ => none }
def MeasureStepsWrongFalsely : Prop := measureStepsRow.holds Tryz.pinned (OpenSpec.ofChange measureStepsWrong)

/-- 'anchoritelaw12.MeasureNext': WHATEVER THE INPUT: true; the input reads as it did. -/
def measureNextSpec : ChangeSpec := { name := "measureNext", fn := fun _ => fun
  | [d1, d2, d3, d4] => { results := [.lit (.bool true)], args := [d1, d2, d3, d4] }
  | _ => none }
def measureNextRow : OpenClaim := { program := "yteclkcpdclimnaagreat", sum := "744cc6792a7b95a7a82fec9ff43c854036286601a8e8b2118dfafeb084dc1242", func := "anchorite/anchoritelaw12.MeasureNext", spec := "measureNext", inPlace := ["math/bits.Add64"], unfollowed := true, recurses := true, plainKeys := false, apart := false }
def MeasureNextSaid : Prop := measureNextRow.holds Tryz.pinned (OpenSpec.ofChange measureNextSpec)

/-- ITS FALSE NEIGHBOUR: 'it returns false'. Refute it at one input. -/
def measureNextWrong : ChangeSpec := { name := "measureNext", fn := fun _ => fun
  | [d1, d2, d3, d4] => { results := [.lit (.bool false)], args := [d1, d2, d3, d4] }
  | _ => none }
def MeasureNextWrongFalsely : Prop := measureNextRow.holds Tryz.pinned (OpenSpec.ofChange measureNextWrong)

/-- 'anchoritelaw12.MeasureReplays': WHATEVER THE INPUT: true; the input reads as it did. -/
def measureReplaysSpec : ChangeSpec := { name := "measureReplays", fn := fun _ => fun
  | [d1, d2, d3, d4, d5] => { results := [.lit (.bool true)], args := [d1, d2, d3, d4, d5] }
  | _ => none }
def measureReplaysRow : OpenClaim := { program := "yteclkcpdclimnaagreat", sum := "744cc6792a7b95a7a82fec9ff43c854036286601a8e8b2118dfafeb084dc1242", func := "anchorite/anchoritelaw12.MeasureReplays", spec := "measureReplays", inPlace := ["math/bits.Add64"], unfollowed := true, recurses := true, plainKeys := false, apart := false }
def MeasureReplaysSaid : Prop := measureReplaysRow.holds Tryz.pinned (OpenSpec.ofChange measureReplaysSpec)

/-- ITS FALSE NEIGHBOUR: 'it returns false'. Refute it at one input. -/
def measureReplaysWrong : ChangeSpec := { name := "measureReplays", fn := fun _ => fun
  | [d1, d2, d3, d4, d5] => { results := [.lit (.bool false)], args := [d1, d2, d3, d4, d5] }
  | _ => none }
def MeasureReplaysWrongFalsely : Prop := measureReplaysRow.holds Tryz.pinned (OpenSpec.ofChange measureReplaysWrong)

/-- 'anchoritelaw05.OracleAgain': WHATEVER THE INPUT: true; the input reads as it did. -/
def oracleAgainSpec : ChangeSpec := { name := "oracleAgain", fn := fun _ => fun
  | [d1, d2, d3] => { results := [.lit (.bool true)], args := [d1, d2, d3] }
  | _ => none }
def oracleAgainRow : OpenClaim := { program := "yteclkcpdclimnaagreat", sum := "744cc6792a7b95a7a82fec9ff43c854036286601a8e8b2118dfafeb084dc1242", func := "anchorite/anchoritelaw05.OracleAgain", spec := "oracleAgain", inPlace := ["math/bits.Add64"], unfollowed := true, recurses := true, plainKeys := false, apart := false }
def OracleAgainSaid : Prop := oracleAgainRow.holds Tryz.pinned (OpenSpec.ofChange oracleAgainSpec)

/-- ITS FALSE NEIGHBOUR: 'it returns false'. Refute it at one input. -/
def oracleAgainWrong : ChangeSpec := { name := "oracleAgain", fn := fun _ => fun
  | [d1, d2, d3] => { results := [.lit (.bool false)], args := [d1, d2, d3] }
  | _ => none }
def OracleAgainWrongFalsely : Prop := oracleAgainRow.holds Tryz.pinned (OpenSpec.ofChange oracleAgainWrong)

/-- 'anchoritelaw05.OracleBreaks': WHATEVER THE INPUT: true; the input reads as it did. -/
def oracleBreaksSpec : ChangeSpec := { name := "oracleBreaks", fn := fun _ => fun
  | [d1, d2] => { results := [.lit (.bool true)], args := [d1, d2] }
  | _ => none }
def oracleBreaksRow : OpenClaim := { program := "yteclkcpdclimnaagreat", sum := "744cc6792a7b95a7a82fec9ff43c854036286601a8e8b2118dfafeb084dc1242", func := "anchorite/anchoritelaw05.OracleBreaks", spec := "oracleBreaks", inPlace := ["math/bits.Add64"], unfollowed := true, recurses := true, plainKeys := false, apart := false }
def OracleBreaksSaid : Prop := oracleBreaksRow.holds Tryz.pinned (OpenSpec.ofChange oracleBreaksSpec)

/-- ITS FALSE NEIGHBOUR: 'it returns false'. Refute it at one input. -/
def oracleBreaksWrong : ChangeSpec := { name := "oracleBreaks", fn := fun _ => fun
  | [d1, d2] => { results := [.lit (.bool false)], args := [d1, d2] }
  | _ => none }
def OracleBreaksWrongFalsely : Prop := oracleBreaksRow.holds Tryz.pinned (OpenSpec.ofChange oracleBreaksWrong)

/- THE SECOND FORM. 'bulk': how many values and letters a reading holds, each counted each time it is reached (what is shared counts as often as it is met; a slice's spare places count too). A statement '..UptoSaid' is the law's where the arguments, and the package variables that the reading takes, are together of bulk at most 1048576: NARROWER than '..Said'. Prove '..Said' where nothing that the law and all that it calls make is longer than what came in: it says more and counts as full. Else prove '..UptoSaid'. A law counts once. -/
mutual
def uptoBulk {H : Type} : DataW H → Nat
  | .lit (.string bytes) => bytes.length + 1
  | .lit _ => 1
  | .nil => 1
  | .ptr d => uptoBulk d + 1
  | .slice elems spare => uptoBulkAll elems + uptoBulkAll spare + 1
  | .agg parts => uptoBulkAll parts + 1
  | .iface _ d => uptoBulk d + 1
  | .map entries => uptoBulkEntries entries + 1
  | .held _ => 1
def uptoBulkAll {H : Type} : List (DataW H) → Nat
  | [] => 0
  | d :: r => uptoBulk d + uptoBulkAll r
def uptoBulkEntries {H : Type} : List (Lit × DataW H) → Nat
  | [] => 0
  | x :: r => uptoBulkEntry x + uptoBulkEntries r
def uptoBulkEntry {H : Type} : Lit × DataW H → Nat
  | (.string bytes, d) => bytes.length + uptoBulk d + 1
  | (_, d) => uptoBulk d + 1
 end
def uptoSmall : (H : Type) → List (DataW H) → Bool := fun _ ds => decide (uptoBulkAll ds ≤ 1048576)
def OpenSpec.upto (s : _root_.Go.ChangeSpec) : _root_.Go.OpenSpec := { _root_.Go.OpenSpec.ofChange s with cond := some uptoSmall }

/-- 'anchoritelaw16.BlobLeaves', WHERE WHAT IT READS IS OF BULK AT MOST 1048576: true; the input reads as it did. -/
def blobLeavesUptoRow : OpenClaim := { program := "yteclkcpdclimnaagreat", sum := "744cc6792a7b95a7a82fec9ff43c854036286601a8e8b2118dfafeb084dc1242", func := "anchorite/anchoritelaw16.BlobLeaves", spec := "blobLeaves", inPlace := ["math/bits.Add64"], unfollowed := true, recurses := true, plainKeys := false, apart := false, narrowed := true }
def BlobLeavesUptoSaid : Prop := blobLeavesUptoRow.holds Tryz.pinned (OpenSpec.upto blobLeavesSpec)

/-- 'anchoritelaw16.BlobSeals', WHERE WHAT IT READS IS OF BULK AT MOST 1048576: true; the input reads as it did. -/
def blobSealsUptoRow : OpenClaim := { program := "yteclkcpdclimnaagreat", sum := "744cc6792a7b95a7a82fec9ff43c854036286601a8e8b2118dfafeb084dc1242", func := "anchorite/anchoritelaw16.BlobSeals", spec := "blobSeals", inPlace := ["math/bits.Add64"], unfollowed := true, recurses := true, plainKeys := false, apart := false, narrowed := true }
def BlobSealsUptoSaid : Prop := blobSealsUptoRow.holds Tryz.pinned (OpenSpec.upto blobSealsSpec)

/-- 'anchoritelaw12.MeasureSteps', WHERE WHAT IT READS IS OF BULK AT MOST 1048576: true; the input reads as it did. -/
def measureStepsUptoRow : OpenClaim := { program := "yteclkcpdclimnaagreat", sum := "744cc6792a7b95a7a82fec9ff43c854036286601a8e8b2118dfafeb084dc1242", func := "anchorite/anchoritelaw12.MeasureSteps", spec := "measureSteps", inPlace := ["math/bits.Add64"], unfollowed := true, recurses := true, plainKeys := false, apart := false, narrowed := true }
def MeasureStepsUptoSaid : Prop := measureStepsUptoRow.holds Tryz.pinned (OpenSpec.upto measureStepsSpec)

/-- 'anchoritelaw12.MeasureNext', WHERE WHAT IT READS IS OF BULK AT MOST 1048576: true; the input reads as it did. -/
def measureNextUptoRow : OpenClaim := { program := "yteclkcpdclimnaagreat", sum := "744cc6792a7b95a7a82fec9ff43c854036286601a8e8b2118dfafeb084dc1242", func := "anchorite/anchoritelaw12.MeasureNext", spec := "measureNext", inPlace := ["math/bits.Add64"], unfollowed := true, recurses := true, plainKeys := false, apart := false, narrowed := true }
def MeasureNextUptoSaid : Prop := measureNextUptoRow.holds Tryz.pinned (OpenSpec.upto measureNextSpec)

/-- 'anchoritelaw12.MeasureReplays', WHERE WHAT IT READS IS OF BULK AT MOST 1048576: true; the input reads as it did. -/
def measureReplaysUptoRow : OpenClaim := { program := "yteclkcpdclimnaagreat", sum := "744cc6792a7b95a7a82fec9ff43c854036286601a8e8b2118dfafeb084dc1242", func := "anchorite/anchoritelaw12.MeasureReplays", spec := "measureReplays", inPlace := ["math/bits.Add64"], unfollowed := true, recurses := true, plainKeys := false, apart := false, narrowed := true }
def MeasureReplaysUptoSaid : Prop := measureReplaysUptoRow.holds Tryz.pinned (OpenSpec.upto measureReplaysSpec)

/-- 'anchoritelaw05.OracleAgain', WHERE WHAT IT READS IS OF BULK AT MOST 1048576: true; the input reads as it did. -/
def oracleAgainUptoRow : OpenClaim := { program := "yteclkcpdclimnaagreat", sum := "744cc6792a7b95a7a82fec9ff43c854036286601a8e8b2118dfafeb084dc1242", func := "anchorite/anchoritelaw05.OracleAgain", spec := "oracleAgain", inPlace := ["math/bits.Add64"], unfollowed := true, recurses := true, plainKeys := false, apart := false, narrowed := true }
def OracleAgainUptoSaid : Prop := oracleAgainUptoRow.holds Tryz.pinned (OpenSpec.upto oracleAgainSpec)

/-- 'anchoritelaw05.OracleBreaks', WHERE WHAT IT READS IS OF BULK AT MOST 1048576: true; the input reads as it did. -/
def oracleBreaksUptoRow : OpenClaim := { program := "yteclkcpdclimnaagreat", sum := "744cc6792a7b95a7a82fec9ff43c854036286601a8e8b2118dfafeb084dc1242", func := "anchorite/anchoritelaw05.OracleBreaks", spec := "oracleBreaks", inPlace := ["math/bits.Add64"], unfollowed := true, recurses := true, plainKeys := false, apart := false, narrowed := true }
def OracleBreaksUptoSaid : Prop := oracleBreaksUptoRow.holds Tryz.pinned (OpenSpec.upto oracleBreaksSpec)

end Rows
end Go.Proofs.YteclkcpdclimnaaGreat
