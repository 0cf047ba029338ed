/-
  No cell of these rows narrows 'for every input' (looked for: loops, veiled, ifaces, maps, wideKeys, modest, calm, conditions, laid).
  DERIVED. THE GIVEN ROWS OF THIS SEAT. 8 by the template 'for every input the law returns true; each argument reads behind the call as it read before'; 0 by the template 'total and deterministic' (their statements: YtnhppjimimhlkaaTotals.lean).
  GIVEN WITH THE SEED: the statements are not yours to turn. If you find one false, say at which input.
  Laid BY PROGRAM, IN A SANDBOX (cutbox-rows.mjs): the forced cells as the released guide's own fill.sh prints them over the translation 78580df93283ff4d… (all of the seat's roots in one cut). By AI agents, Wed Nov 11 2026. No macro, syntax, notation, axiom, sorry.
-/
import Derived.Test.YtnhppjimimhlkaaChecked
import GoSem.Claim
import GoSem.ClaimJoined
import GoSem.ClaimMapViews
import Derived.JoinedTies
import Derived.KernelRfl
namespace Go.Proofs.Ytnhppjimimhlkaa
/- THE CELL 'sum', in the pinned program and in every row, IS THE sha256 OF THE DUMP (.gsa) THAT YtnhppjimimhlkaaProg.lean LOADS. Nothing in Lean hashes anything: it is a label: what it is worth is what the hold of that sum in a sandbox is worth. -/
noncomputable def Try.pinned : Pinned := { name := "ytnhppjimimhlkaa", sum := "78580df93283ff4dbcd80051e9ae819bc46a0ca0fa37aaae7061ba67b61dec67", checked := Try.checked }
namespace Rows
def none {H : Type} : Left H := { results := [], args := [] }

/-- 'anchoritelaw19.AttestMeans': WHATEVER THE INPUT: true; the input reads as it did. -/
def attestMeansSpec : ChangeSpec := { name := "attestMeans", fn := fun _ => fun
  | [d1, d2, d3, d4] => { results := [.lit (.bool true)], args := [d1, d2, d3, d4] }
  | _ => none }
def attestMeansRow : OpenClaim := { program := "ytnhppjimimhlkaa", sum := "78580df93283ff4dbcd80051e9ae819bc46a0ca0fa37aaae7061ba67b61dec67", func := "anchorite/anchoritelaw19.AttestMeans", spec := "attestMeans", inPlace := ["math/bits.Add64"], unfollowed := true, recurses := true, plainKeys := false, apart := false }
def AttestMeansSaid : Prop := attestMeansRow.holds Try.pinned (OpenSpec.ofChange attestMeansSpec)

/-- ITS FALSE NEIGHBOUR: 'it returns false'. Refute it at one input. -/
def attestMeansWrong : ChangeSpec := { name := "attestMeans", fn := fun _ => fun
  | [d1, d2, d3, d4] => { results := [.lit (.bool false)], args := [d1, d2, d3, d4] }
  | _ => none }
def AttestMeansWrongFalsely : Prop := attestMeansRow.holds Try.pinned (OpenSpec.ofChange attestMeansWrong)

/-- 'anchoritelaw19.AttestNil': WHATEVER THE INPUT: true; the input reads as it did. -/
def attestNilSpec : ChangeSpec := { name := "attestNil", fn := fun _ => fun
  | [] => { results := [.lit (.bool true)], args := [] }
  | _ => none }
def attestNilRow : OpenClaim := { program := "ytnhppjimimhlkaa", sum := "78580df93283ff4dbcd80051e9ae819bc46a0ca0fa37aaae7061ba67b61dec67", func := "anchorite/anchoritelaw19.AttestNil", spec := "attestNil", inPlace := ["math/bits.Add64"], unfollowed := true, recurses := true, plainKeys := false, apart := false }
def AttestNilSaid : Prop := attestNilRow.holds Try.pinned (OpenSpec.ofChange attestNilSpec)

/-- ITS FALSE NEIGHBOUR: 'it returns false'. Refute it at one input. -/
def attestNilWrong : ChangeSpec := { name := "attestNil", fn := fun _ => fun
  | [] => { results := [.lit (.bool false)], args := [] }
  | _ => none }
def AttestNilWrongFalsely : Prop := attestNilRow.holds Try.pinned (OpenSpec.ofChange attestNilWrong)

/-- 'anchoritelaw19.AttestSplits': WHATEVER THE INPUT: true; the input reads as it did. -/
def attestSplitsSpec : ChangeSpec := { name := "attestSplits", fn := fun _ => fun
  | [d1, d2] => { results := [.lit (.bool true)], args := [d1, d2] }
  | _ => none }
def attestSplitsRow : OpenClaim := { program := "ytnhppjimimhlkaa", sum := "78580df93283ff4dbcd80051e9ae819bc46a0ca0fa37aaae7061ba67b61dec67", func := "anchorite/anchoritelaw19.AttestSplits", spec := "attestSplits", inPlace := ["math/bits.Add64"], unfollowed := true, recurses := true, plainKeys := false, apart := false }
def AttestSplitsSaid : Prop := attestSplitsRow.holds Try.pinned (OpenSpec.ofChange attestSplitsSpec)

/-- ITS FALSE NEIGHBOUR: 'it returns false'. Refute it at one input. -/
def attestSplitsWrong : ChangeSpec := { name := "attestSplits", fn := fun _ => fun
  | [d1, d2] => { results := [.lit (.bool false)], args := [d1, d2] }
  | _ => none }
def AttestSplitsWrongFalsely : Prop := attestSplitsRow.holds Try.pinned (OpenSpec.ofChange attestSplitsWrong)

/-- 'anchoritelaw19.AttestIssues': WHATEVER THE INPUT: true; the input reads as it did. -/
def attestIssuesSpec : ChangeSpec := { name := "attestIssues", fn := fun _ => fun
  | [d1, d2] => { results := [.lit (.bool true)], args := [d1, d2] }
  | _ => none }
def attestIssuesRow : OpenClaim := { program := "ytnhppjimimhlkaa", sum := "78580df93283ff4dbcd80051e9ae819bc46a0ca0fa37aaae7061ba67b61dec67", func := "anchorite/anchoritelaw19.AttestIssues", spec := "attestIssues", inPlace := ["math/bits.Add64"], unfollowed := true, recurses := true, plainKeys := false, apart := false }
def AttestIssuesSaid : Prop := attestIssuesRow.holds Try.pinned (OpenSpec.ofChange attestIssuesSpec)

/-- ITS FALSE NEIGHBOUR: 'it returns false'. Refute it at one input. -/
def attestIssuesWrong : ChangeSpec := { name := "attestIssues", fn := fun _ => fun
  | [d1, d2] => { results := [.lit (.bool false)], args := [d1, d2] }
  | _ => none }
def AttestIssuesWrongFalsely : Prop := attestIssuesRow.holds Try.pinned (OpenSpec.ofChange attestIssuesWrong)

/-- 'anchoritelaw19.AttestVerifies': WHATEVER THE INPUT: true; the input reads as it did. -/
def attestVerifiesSpec : ChangeSpec := { name := "attestVerifies", fn := fun _ => fun
  | [d1, d2] => { results := [.lit (.bool true)], args := [d1, d2] }
  | _ => none }
def attestVerifiesRow : OpenClaim := { program := "ytnhppjimimhlkaa", sum := "78580df93283ff4dbcd80051e9ae819bc46a0ca0fa37aaae7061ba67b61dec67", func := "anchorite/anchoritelaw19.AttestVerifies", spec := "attestVerifies", inPlace := ["math/bits.Add64"], unfollowed := true, recurses := true, plainKeys := false, apart := false }
def AttestVerifiesSaid : Prop := attestVerifiesRow.holds Try.pinned (OpenSpec.ofChange attestVerifiesSpec)

/-- ITS FALSE NEIGHBOUR: 'it returns false'. Refute it at one input. -/
def attestVerifiesWrong : ChangeSpec := { name := "attestVerifies", fn := fun _ => fun
  | [d1, d2] => { results := [.lit (.bool false)], args := [d1, d2] }
  | _ => none }
def AttestVerifiesWrongFalsely : Prop := attestVerifiesRow.holds Try.pinned (OpenSpec.ofChange attestVerifiesWrong)

/-- 'anchoritelaw15.TreeWays': WHATEVER THE INPUT: true; the input reads as it did. -/
def treeWaysSpec : ChangeSpec := { name := "treeWays", fn := fun _ => fun
  | [d] => { results := [.lit (.bool true)], args := [d] }
  | _ => none }
def treeWaysRow : OpenClaim := { program := "ytnhppjimimhlkaa", sum := "78580df93283ff4dbcd80051e9ae819bc46a0ca0fa37aaae7061ba67b61dec67", func := "anchorite/anchoritelaw15.TreeWays", spec := "treeWays", inPlace := ["math/bits.Add64"], unfollowed := true, recurses := true, plainKeys := false, apart := false }
def TreeWaysSaid : Prop := treeWaysRow.holds Try.pinned (OpenSpec.ofChange treeWaysSpec)

/-- ITS FALSE NEIGHBOUR: 'it returns false'. Refute it at one input. -/
def treeWaysWrong : ChangeSpec := { name := "treeWays", fn := fun _ => fun
  | [d] => { results := [.lit (.bool false)], args := [d] }
  | _ => none }
def TreeWaysWrongFalsely : Prop := treeWaysRow.holds Try.pinned (OpenSpec.ofChange treeWaysWrong)

/-- 'anchoritelaw15.TreeNil': WHATEVER THE INPUT: true; the input reads as it did. -/
def treeNilSpec : ChangeSpec := { name := "treeNil", fn := fun _ => fun
  | [] => { results := [.lit (.bool true)], args := [] }
  | _ => none }
def treeNilRow : OpenClaim := { program := "ytnhppjimimhlkaa", sum := "78580df93283ff4dbcd80051e9ae819bc46a0ca0fa37aaae7061ba67b61dec67", func := "anchorite/anchoritelaw15.TreeNil", spec := "treeNil", inPlace := ["math/bits.Add64"], unfollowed := true, recurses := true, plainKeys := false, apart := false }
def TreeNilSaid : Prop := treeNilRow.holds Try.pinned (OpenSpec.ofChange treeNilSpec)

/-- ITS FALSE NEIGHBOUR: 'it returns false'. Refute it at one input. -/
def treeNilWrong : ChangeSpec := { name := "treeNil", fn := fun _ => fun
  | [] => { results := [.lit (.bool false)], args := [] }
  | _ => none }
def TreeNilWrongFalsely : Prop := treeNilRow.holds Try.pinned (OpenSpec.ofChange treeNilWrong)

/-- 'anchoritelaw15.TreeMeans': WHATEVER THE INPUT: true; the input reads as it did. -/
def treeMeansSpec : ChangeSpec := { name := "treeMeans", fn := fun _ => fun
  | [d1, d2, d3, d4] => { results := [.lit (.bool true)], args := [d1, d2, d3, d4] }
  | _ => none }
def treeMeansRow : OpenClaim := { program := "ytnhppjimimhlkaa", sum := "78580df93283ff4dbcd80051e9ae819bc46a0ca0fa37aaae7061ba67b61dec67", func := "anchorite/anchoritelaw15.TreeMeans", spec := "treeMeans", inPlace := ["math/bits.Add64"], unfollowed := true, recurses := true, plainKeys := false, apart := false }
def TreeMeansSaid : Prop := treeMeansRow.holds Try.pinned (OpenSpec.ofChange treeMeansSpec)

/-- ITS FALSE NEIGHBOUR: 'it returns false'. Refute it at one input. -/
def treeMeansWrong : ChangeSpec := { name := "treeMeans", fn := fun _ => fun
  | [d1, d2, d3, d4] => { results := [.lit (.bool false)], args := [d1, d2, d3, d4] }
  | _ => none }
def TreeMeansWrongFalsely : Prop := treeMeansRow.holds Try.pinned (OpenSpec.ofChange treeMeansWrong)

/- THE SECOND FORM. 'bulk': how many values and letters a reading holds, each counted each time it is reached (what is shared counts as often as it is met; a slice's spare places count too). A statement '..UptoSaid' is the law's where the arguments, and the package variables that the reading takes, are together of bulk at most 1048576: NARROWER than '..Said'. Prove '..Said' where nothing that the law and all that it calls make is longer than what came in: it says more and counts as full. Else prove '..UptoSaid'. A law counts once. -/
mutual
def uptoBulk {H : Type} : DataW H → Nat
  | .lit (.string bytes) => bytes.length + 1
  | .lit _ => 1
  | .nil => 1
  | .ptr d => uptoBulk d + 1
  | .slice elems spare => uptoBulkAll elems + uptoBulkAll spare + 1
  | .agg parts => uptoBulkAll parts + 1
  | .iface _ d => uptoBulk d + 1
  | .map entries => uptoBulkEntries entries + 1
  | .held _ => 1
def uptoBulkAll {H : Type} : List (DataW H) → Nat
  | [] => 0
  | d :: r => uptoBulk d + uptoBulkAll r
def uptoBulkEntries {H : Type} : List (Lit × DataW H) → Nat
  | [] => 0
  | x :: r => uptoBulkEntry x + uptoBulkEntries r
def uptoBulkEntry {H : Type} : Lit × DataW H → Nat
  | (.string bytes, d) => bytes.length + uptoBulk d + 1
  | (_, d) => uptoBulk d + 1
 end
def uptoSmall : (H : Type) → List (DataW H) → Bool := fun _ ds => decide (uptoBulkAll ds ≤ 1048576)
def OpenSpec.upto (s : _root_.Go.ChangeSpec) : _root_.Go.OpenSpec := { _root_.Go.OpenSpec.ofChange s with cond := some uptoSmall }

/-- 'anchoritelaw19.AttestMeans', WHERE WHAT IT READS IS OF BULK AT MOST 1048576: true; the input reads as it did. -/
def attestMeansUptoRow : OpenClaim := { program := "ytnhppjimimhlkaa", sum := "78580df93283ff4dbcd80051e9ae819bc46a0ca0fa37aaae7061ba67b61dec67", func := "anchorite/anchoritelaw19.AttestMeans", spec := "attestMeans", inPlace := ["math/bits.Add64"], unfollowed := true, recurses := true, plainKeys := false, apart := false, narrowed := true }
def AttestMeansUptoSaid : Prop := attestMeansUptoRow.holds Try.pinned (OpenSpec.upto attestMeansSpec)

/-- 'anchoritelaw19.AttestNil', WHERE WHAT IT READS IS OF BULK AT MOST 1048576: true; the input reads as it did. -/
def attestNilUptoRow : OpenClaim := { program := "ytnhppjimimhlkaa", sum := "78580df93283ff4dbcd80051e9ae819bc46a0ca0fa37aaae7061ba67b61dec67", func := "anchorite/anchoritelaw19.AttestNil", spec := "attestNil", inPlace := ["math/bits.Add64"], unfollowed := true, recurses := true, plainKeys := false, apart := false, narrowed := true }
def AttestNilUptoSaid : Prop := attestNilUptoRow.holds Try.pinned (OpenSpec.upto attestNilSpec)

/-- 'anchoritelaw19.AttestSplits', WHERE WHAT IT READS IS OF BULK AT MOST 1048576: true; the input reads as it did. -/
def attestSplitsUptoRow : OpenClaim := { program := "ytnhppjimimhlkaa", sum := "78580df93283ff4dbcd80051e9ae819bc46a0ca0fa37aaae7061ba67b61dec67", func := "anchorite/anchoritelaw19.AttestSplits", spec := "attestSplits", inPlace := ["math/bits.Add64"], unfollowed := true, recurses := true, plainKeys := false, apart := false, narrowed := true }
def AttestSplitsUptoSaid : Prop := attestSplitsUptoRow.holds Try.pinned (OpenSpec.upto attestSplitsSpec)

/-- 'anchoritelaw19.AttestIssues', WHERE WHAT IT READS IS OF BULK AT MOST 1048576: true; the input reads as it did. -/
def attestIssuesUptoRow : OpenClaim := { program := "ytnhppjimimhlkaa", sum := "78580df93283ff4dbcd80051e9ae819bc46a0ca0fa37aaae7061ba67b61dec67", func := "anchorite/anchoritelaw19.AttestIssues", spec := "attestIssues", inPlace := ["math/bits.Add64"], unfollowed := true, recurses := true, plainKeys := false, apart := false, narrowed := true }
def AttestIssuesUptoSaid : Prop := attestIssuesUptoRow.holds Try.pinned (OpenSpec.upto attestIssuesSpec)

/-- 'anchoritelaw19.AttestVerifies', WHERE WHAT IT READS IS OF BULK AT MOST 1048576: true; the input reads as it did. -/
def attestVerifiesUptoRow : OpenClaim := { program := "ytnhppjimimhlkaa", sum := "78580df93283ff4dbcd80051e9ae819bc46a0ca0fa37aaae7061ba67b61dec67", func := "anchorite/anchoritelaw19.AttestVerifies", spec := "attestVerifies", inPlace := ["math/bits.Add64"], unfollowed := true, recurses := true, plainKeys := false, apart := false, narrowed := true }
def AttestVerifiesUptoSaid : Prop := attestVerifiesUptoRow.holds Try.pinned (OpenSpec.upto attestVerifiesSpec)

/-- 'anchoritelaw15.TreeWays', WHERE WHAT IT READS IS OF BULK AT MOST 1048576: true; the input reads as it did. -/
def treeWaysUptoRow : OpenClaim := { program := "ytnhppjimimhlkaa", sum := "78580df93283ff4dbcd80051e9ae819bc46a0ca0fa37aaae7061ba67b61dec67", func := "anchorite/anchoritelaw15.TreeWays", spec := "treeWays", inPlace := ["math/bits.Add64"], unfollowed := true, recurses := true, plainKeys := false, apart := false, narrowed := true }
def TreeWaysUptoSaid : Prop := treeWaysUptoRow.holds Try.pinned (OpenSpec.upto treeWaysSpec)

/-- 'anchoritelaw15.TreeNil', WHERE WHAT IT READS IS OF BULK AT MOST 1048576: true; the input reads as it did. -/
def treeNilUptoRow : OpenClaim := { program := "ytnhppjimimhlkaa", sum := "78580df93283ff4dbcd80051e9ae819bc46a0ca0fa37aaae7061ba67b61dec67", func := "anchorite/anchoritelaw15.TreeNil", spec := "treeNil", inPlace := ["math/bits.Add64"], unfollowed := true, recurses := true, plainKeys := false, apart := false, narrowed := true }
def TreeNilUptoSaid : Prop := treeNilUptoRow.holds Try.pinned (OpenSpec.upto treeNilSpec)

/-- 'anchoritelaw15.TreeMeans', WHERE WHAT IT READS IS OF BULK AT MOST 1048576: true; the input reads as it did. -/
def treeMeansUptoRow : OpenClaim := { program := "ytnhppjimimhlkaa", sum := "78580df93283ff4dbcd80051e9ae819bc46a0ca0fa37aaae7061ba67b61dec67", func := "anchorite/anchoritelaw15.TreeMeans", spec := "treeMeans", inPlace := ["math/bits.Add64"], unfollowed := true, recurses := true, plainKeys := false, apart := false, narrowed := true }
def TreeMeansUptoSaid : Prop := treeMeansUptoRow.holds Try.pinned (OpenSpec.upto treeMeansSpec)

end Rows
end Go.Proofs.Ytnhppjimimhlkaa
