/-
  No cell of these rows narrows 'for every input' (looked for: loops, veiled, ifaces, maps, wideKeys, modest, calm, conditions, laid).
  DERIVED. THE GIVEN ROWS OF THIS SEAT. 10 by the template 'for every input the law returns true; each argument reads behind the call as it read before'; 0 by the template 'total and deterministic' (their statements: YthkcekgemanfdaaTotals.lean).
  GIVEN WITH THE SEED: the statements are not yours to turn. If you find one false, say at which input.
  Laid BY PROGRAM, IN A SANDBOX (cutbox-rows.mjs): the forced cells as the released guide's own fill.sh prints them over the translation b40ed2153e2a9db5… (all of the seat's roots in one cut). By AI agents, Wed Nov 11 2026. No macro, syntax, notation, axiom, sorry.
-/
import Derived.Test.YthkcekgemanfdaaChecked
import GoSem.Claim
import GoSem.ClaimJoined
import GoSem.ClaimMapViews
import Derived.JoinedTies
import Derived.KernelRfl
namespace Go.Proofs.Ythkcekgemanfdaa
/- THE CELL 'sum', in the pinned program and in every row, IS THE sha256 OF THE DUMP (.gsa) THAT YthkcekgemanfdaaProg.lean LOADS. Nothing in Lean hashes anything: it is a label: what it is worth is what the hold of that sum in a sandbox is worth. -/
noncomputable def Try.pinned : Pinned := { name := "ythkcekgemanfdaa", sum := "b40ed2153e2a9db52370f5ab138c693366f2bf4e678aa8f1f6024f1929d94711", checked := Try.checked }
namespace Rows
def none {H : Type} : Left H := { results := [], args := [] }

/-- 'anchoritelaw14.RecEnters': WHATEVER THE INPUT: true; the input reads as it did. -/
def recEntersSpec : ChangeSpec := { name := "recEnters", fn := fun _ => fun
  | [d1, d2] => { results := [.lit (.bool true)], args := [d1, d2] }
  | _ => none }
def recEntersRow : OpenClaim := { program := "ythkcekgemanfdaa", sum := "b40ed2153e2a9db52370f5ab138c693366f2bf4e678aa8f1f6024f1929d94711", func := "anchorite/anchoritelaw14.RecEnters", spec := "recEnters", apart := false }
def RecEntersSaid : Prop := recEntersRow.holds Try.pinned (OpenSpec.ofChange recEntersSpec)

/-- ITS FALSE NEIGHBOUR: 'it returns false'. Refute it at one input. -/
def recEntersWrong : ChangeSpec := { name := "recEnters", fn := fun _ => fun
  | [d1, d2] => { results := [.lit (.bool false)], args := [d1, d2] }
  | _ => none }
def RecEntersWrongFalsely : Prop := recEntersRow.holds Try.pinned (OpenSpec.ofChange recEntersWrong)

/-- 'anchoritelaw14.RecLeaves': WHATEVER THE INPUT: true; the input reads as it did. -/
def recLeavesSpec : ChangeSpec := { name := "recLeaves", fn := fun _ => fun
  | [d1, d2, d3] => { results := [.lit (.bool true)], args := [d1, d2, d3] }
  | _ => none }
def recLeavesRow : OpenClaim := { program := "ythkcekgemanfdaa", sum := "b40ed2153e2a9db52370f5ab138c693366f2bf4e678aa8f1f6024f1929d94711", func := "anchorite/anchoritelaw14.RecLeaves", spec := "recLeaves", apart := false }
def RecLeavesSaid : Prop := recLeavesRow.holds Try.pinned (OpenSpec.ofChange recLeavesSpec)

/-- ITS FALSE NEIGHBOUR: 'it returns false'. Refute it at one input. -/
def recLeavesWrong : ChangeSpec := { name := "recLeaves", fn := fun _ => fun
  | [d1, d2, d3] => { results := [.lit (.bool false)], args := [d1, d2, d3] }
  | _ => none }
def RecLeavesWrongFalsely : Prop := recLeavesRow.holds Try.pinned (OpenSpec.ofChange recLeavesWrong)

/-- 'anchoritelaw14.RecNews': WHATEVER THE INPUT: true; the input reads as it did. -/
def recNewsSpec : ChangeSpec := { name := "recNews", fn := fun _ => fun
  | [d1, d2, d3] => { results := [.lit (.bool true)], args := [d1, d2, d3] }
  | _ => none }
def recNewsRow : OpenClaim := { program := "ythkcekgemanfdaa", sum := "b40ed2153e2a9db52370f5ab138c693366f2bf4e678aa8f1f6024f1929d94711", func := "anchorite/anchoritelaw14.RecNews", spec := "recNews", apart := false }
def RecNewsSaid : Prop := recNewsRow.holds Try.pinned (OpenSpec.ofChange recNewsSpec)

/-- ITS FALSE NEIGHBOUR: 'it returns false'. Refute it at one input. -/
def recNewsWrong : ChangeSpec := { name := "recNews", fn := fun _ => fun
  | [d1, d2, d3] => { results := [.lit (.bool false)], args := [d1, d2, d3] }
  | _ => none }
def RecNewsWrongFalsely : Prop := recNewsRow.holds Try.pinned (OpenSpec.ofChange recNewsWrong)

/-- 'anchoritelaw10.ParamsRealms': WHATEVER THE INPUT: true; the input reads as it did. -/
def paramsRealmsSpec : ChangeSpec := { name := "paramsRealms", fn := fun _ => fun
  | [d] => { results := [.lit (.bool true)], args := [d] }
  | _ => none }
def paramsRealmsRow : OpenClaim := { program := "ythkcekgemanfdaa", sum := "b40ed2153e2a9db52370f5ab138c693366f2bf4e678aa8f1f6024f1929d94711", func := "anchorite/anchoritelaw10.ParamsRealms", spec := "paramsRealms", unfollowed := true, recurses := true, apart := false }
def ParamsRealmsSaid : Prop := paramsRealmsRow.holds Try.pinned (OpenSpec.ofChange paramsRealmsSpec)

/-- ITS FALSE NEIGHBOUR: 'it returns false'. Refute it at one input. -/
def paramsRealmsWrong : ChangeSpec := { name := "paramsRealms", fn := fun _ => fun
  | [d] => { results := [.lit (.bool false)], args := [d] }
  | _ => none }
def ParamsRealmsWrongFalsely : Prop := paramsRealmsRow.holds Try.pinned (OpenSpec.ofChange paramsRealmsWrong)

/-- 'anchoritelaw10.ParamsRecs': WHATEVER THE INPUT: true; the input reads as it did. -/
def paramsRecsSpec : ChangeSpec := { name := "paramsRecs", fn := fun _ => fun
  | [d] => { results := [.lit (.bool true)], args := [d] }
  | _ => none }
def paramsRecsRow : OpenClaim := { program := "ythkcekgemanfdaa", sum := "b40ed2153e2a9db52370f5ab138c693366f2bf4e678aa8f1f6024f1929d94711", func := "anchorite/anchoritelaw10.ParamsRecs", spec := "paramsRecs", unfollowed := true, recurses := true, apart := false }
def ParamsRecsSaid : Prop := paramsRecsRow.holds Try.pinned (OpenSpec.ofChange paramsRecsSpec)

/-- ITS FALSE NEIGHBOUR: 'it returns false'. Refute it at one input. -/
def paramsRecsWrong : ChangeSpec := { name := "paramsRecs", fn := fun _ => fun
  | [d] => { results := [.lit (.bool false)], args := [d] }
  | _ => none }
def ParamsRecsWrongFalsely : Prop := paramsRecsRow.holds Try.pinned (OpenSpec.ofChange paramsRecsWrong)

/-- 'anchoritelaw10.ParamsBounds': WHATEVER THE INPUT: true; the input reads as it did. -/
def paramsBoundsSpec : ChangeSpec := { name := "paramsBounds", fn := fun _ => fun
  | [] => { results := [.lit (.bool true)], args := [] }
  | _ => none }
def paramsBoundsRow : OpenClaim := { program := "ythkcekgemanfdaa", sum := "b40ed2153e2a9db52370f5ab138c693366f2bf4e678aa8f1f6024f1929d94711", func := "anchorite/anchoritelaw10.ParamsBounds", spec := "paramsBounds", unfollowed := true, recurses := true, apart := false }
def ParamsBoundsSaid : Prop := paramsBoundsRow.holds Try.pinned (OpenSpec.ofChange paramsBoundsSpec)

/-- ITS FALSE NEIGHBOUR: 'it returns false'. Refute it at one input. -/
def paramsBoundsWrong : ChangeSpec := { name := "paramsBounds", fn := fun _ => fun
  | [] => { results := [.lit (.bool false)], args := [] }
  | _ => none }
def ParamsBoundsWrongFalsely : Prop := paramsBoundsRow.holds Try.pinned (OpenSpec.ofChange paramsBoundsWrong)

/-- 'anchoritelaw14.RecRests': WHATEVER THE INPUT: true; the input reads as it did. -/
def recRestsSpec : ChangeSpec := { name := "recRests", fn := fun _ => fun
  | [d1, d2, d3] => { results := [.lit (.bool true)], args := [d1, d2, d3] }
  | _ => none }
def recRestsRow : OpenClaim := { program := "ythkcekgemanfdaa", sum := "b40ed2153e2a9db52370f5ab138c693366f2bf4e678aa8f1f6024f1929d94711", func := "anchorite/anchoritelaw14.RecRests", spec := "recRests", apart := false }
def RecRestsSaid : Prop := recRestsRow.holds Try.pinned (OpenSpec.ofChange recRestsSpec)

/-- ITS FALSE NEIGHBOUR: 'it returns false'. Refute it at one input. -/
def recRestsWrong : ChangeSpec := { name := "recRests", fn := fun _ => fun
  | [d1, d2, d3] => { results := [.lit (.bool false)], args := [d1, d2, d3] }
  | _ => none }
def RecRestsWrongFalsely : Prop := recRestsRow.holds Try.pinned (OpenSpec.ofChange recRestsWrong)

/-- 'anchoritelaw10.ParamsReads': WHATEVER THE INPUT: true; the input reads as it did. -/
def paramsReadsSpec : ChangeSpec := { name := "paramsReads", fn := fun _ => fun
  | [d] => { results := [.lit (.bool true)], args := [d] }
  | _ => none }
def paramsReadsRow : OpenClaim := { program := "ythkcekgemanfdaa", sum := "b40ed2153e2a9db52370f5ab138c693366f2bf4e678aa8f1f6024f1929d94711", func := "anchorite/anchoritelaw10.ParamsReads", spec := "paramsReads", unfollowed := true, recurses := true, apart := false }
def ParamsReadsSaid : Prop := paramsReadsRow.holds Try.pinned (OpenSpec.ofChange paramsReadsSpec)

/-- ITS FALSE NEIGHBOUR: 'it returns false'. Refute it at one input. -/
def paramsReadsWrong : ChangeSpec := { name := "paramsReads", fn := fun _ => fun
  | [d] => { results := [.lit (.bool false)], args := [d] }
  | _ => none }
def ParamsReadsWrongFalsely : Prop := paramsReadsRow.holds Try.pinned (OpenSpec.ofChange paramsReadsWrong)

/-- 'anchoritelaw10.ParamsBack': WHATEVER THE INPUT: true; the input reads as it did. -/
def paramsBackSpec : ChangeSpec := { name := "paramsBack", fn := fun _ => fun
  | [d1, d2] => { results := [.lit (.bool true)], args := [d1, d2] }
  | _ => none }
def paramsBackRow : OpenClaim := { program := "ythkcekgemanfdaa", sum := "b40ed2153e2a9db52370f5ab138c693366f2bf4e678aa8f1f6024f1929d94711", func := "anchorite/anchoritelaw10.ParamsBack", spec := "paramsBack", unfollowed := true, recurses := true, apart := false }
def ParamsBackSaid : Prop := paramsBackRow.holds Try.pinned (OpenSpec.ofChange paramsBackSpec)

/-- ITS FALSE NEIGHBOUR: 'it returns false'. Refute it at one input. -/
def paramsBackWrong : ChangeSpec := { name := "paramsBack", fn := fun _ => fun
  | [d1, d2] => { results := [.lit (.bool false)], args := [d1, d2] }
  | _ => none }
def ParamsBackWrongFalsely : Prop := paramsBackRow.holds Try.pinned (OpenSpec.ofChange paramsBackWrong)

/-- 'anchoritelaw14.RecForms': WHATEVER THE INPUT: true; the input reads as it did. -/
def recFormsSpec : ChangeSpec := { name := "recForms", fn := fun _ => fun
  | [d1, d2, d3] => { results := [.lit (.bool true)], args := [d1, d2, d3] }
  | _ => none }
def recFormsRow : OpenClaim := { program := "ythkcekgemanfdaa", sum := "b40ed2153e2a9db52370f5ab138c693366f2bf4e678aa8f1f6024f1929d94711", func := "anchorite/anchoritelaw14.RecForms", spec := "recForms", apart := false }
def RecFormsSaid : Prop := recFormsRow.holds Try.pinned (OpenSpec.ofChange recFormsSpec)

/-- ITS FALSE NEIGHBOUR: 'it returns false'. Refute it at one input. -/
def recFormsWrong : ChangeSpec := { name := "recForms", fn := fun _ => fun
  | [d1, d2, d3] => { results := [.lit (.bool false)], args := [d1, d2, d3] }
  | _ => none }
def RecFormsWrongFalsely : Prop := recFormsRow.holds Try.pinned (OpenSpec.ofChange recFormsWrong)

/- THE SECOND FORM. 'bulk': how many values and letters a reading holds, each counted each time it is reached (what is shared counts as often as it is met; a slice's spare places count too). A statement '..UptoSaid' is the law's where the arguments, and the package variables that the reading takes, are together of bulk at most 1048576: NARROWER than '..Said'. Prove '..Said' where nothing that the law and all that it calls make is longer than what came in: it says more and counts as full. Else prove '..UptoSaid'. A law counts once. -/
mutual
def uptoBulk {H : Type} : DataW H → Nat
  | .lit (.string bytes) => bytes.length + 1
  | .lit _ => 1
  | .nil => 1
  | .ptr d => uptoBulk d + 1
  | .slice elems spare => uptoBulkAll elems + uptoBulkAll spare + 1
  | .agg parts => uptoBulkAll parts + 1
  | .iface _ d => uptoBulk d + 1
  | .map entries => uptoBulkEntries entries + 1
  | .held _ => 1
def uptoBulkAll {H : Type} : List (DataW H) → Nat
  | [] => 0
  | d :: r => uptoBulk d + uptoBulkAll r
def uptoBulkEntries {H : Type} : List (Lit × DataW H) → Nat
  | [] => 0
  | x :: r => uptoBulkEntry x + uptoBulkEntries r
def uptoBulkEntry {H : Type} : Lit × DataW H → Nat
  | (.string bytes, d) => bytes.length + uptoBulk d + 1
  | (_, d) => uptoBulk d + 1
 end
def uptoSmall : (H : Type) → List (DataW H) → Bool := fun _ ds => decide (uptoBulkAll ds ≤ 1048576)
def OpenSpec.upto (s : _root_.Go.ChangeSpec) : _root_.Go.OpenSpec := { _root_.Go.OpenSpec.ofChange s with cond := some uptoSmall }

/-- 'anchoritelaw14.RecEnters', WHERE WHAT IT READS IS OF BULK AT MOST 1048576: true; the input reads as it did. -/
def recEntersUptoRow : OpenClaim := { program := "ythkcekgemanfdaa", sum := "b40ed2153e2a9db52370f5ab138c693366f2bf4e678aa8f1f6024f1929d94711", func := "anchorite/anchoritelaw14.RecEnters", spec := "recEnters", apart := false, narrowed := true }
def RecEntersUptoSaid : Prop := recEntersUptoRow.holds Try.pinned (OpenSpec.upto recEntersSpec)

/-- 'anchoritelaw14.RecLeaves', WHERE WHAT IT READS IS OF BULK AT MOST 1048576: true; the input reads as it did. -/
def recLeavesUptoRow : OpenClaim := { program := "ythkcekgemanfdaa", sum := "b40ed2153e2a9db52370f5ab138c693366f2bf4e678aa8f1f6024f1929d94711", func := "anchorite/anchoritelaw14.RecLeaves", spec := "recLeaves", apart := false, narrowed := true }
def RecLeavesUptoSaid : Prop := recLeavesUptoRow.holds Try.pinned (OpenSpec.upto recLeavesSpec)

/-- 'anchoritelaw14.RecNews', WHERE WHAT IT READS IS OF BULK AT MOST 1048576: true; the input reads as it did. -/
def recNewsUptoRow : OpenClaim := { program := "ythkcekgemanfdaa", sum := "b40ed2153e2a9db52370f5ab138c693366f2bf4e678aa8f1f6024f1929d94711", func := "anchorite/anchoritelaw14.RecNews", spec := "recNews", apart := false, narrowed := true }
def RecNewsUptoSaid : Prop := recNewsUptoRow.holds Try.pinned (OpenSpec.upto recNewsSpec)

/-- 'anchoritelaw10.ParamsRealms', WHERE WHAT IT READS IS OF BULK AT MOST 1048576: true; the input reads as it did. -/
def paramsRealmsUptoRow : OpenClaim := { program := "ythkcekgemanfdaa", sum := "b40ed2153e2a9db52370f5ab138c693366f2bf4e678aa8f1f6024f1929d94711", func := "anchorite/anchoritelaw10.ParamsRealms", spec := "paramsRealms", unfollowed := true, recurses := true, apart := false, narrowed := true }
def ParamsRealmsUptoSaid : Prop := paramsRealmsUptoRow.holds Try.pinned (OpenSpec.upto paramsRealmsSpec)

/-- 'anchoritelaw10.ParamsRecs', WHERE WHAT IT READS IS OF BULK AT MOST 1048576: true; the input reads as it did. -/
def paramsRecsUptoRow : OpenClaim := { program := "ythkcekgemanfdaa", sum := "b40ed2153e2a9db52370f5ab138c693366f2bf4e678aa8f1f6024f1929d94711", func := "anchorite/anchoritelaw10.ParamsRecs", spec := "paramsRecs", unfollowed := true, recurses := true, apart := false, narrowed := true }
def ParamsRecsUptoSaid : Prop := paramsRecsUptoRow.holds Try.pinned (OpenSpec.upto paramsRecsSpec)

/-- 'anchoritelaw10.ParamsBounds', WHERE WHAT IT READS IS OF BULK AT MOST 1048576: true; the input reads as it did. -/
def paramsBoundsUptoRow : OpenClaim := { program := "ythkcekgemanfdaa", sum := "b40ed2153e2a9db52370f5ab138c693366f2bf4e678aa8f1f6024f1929d94711", func := "anchorite/anchoritelaw10.ParamsBounds", spec := "paramsBounds", unfollowed := true, recurses := true, apart := false, narrowed := true }
def ParamsBoundsUptoSaid : Prop := paramsBoundsUptoRow.holds Try.pinned (OpenSpec.upto paramsBoundsSpec)

/-- 'anchoritelaw14.RecRests', WHERE WHAT IT READS IS OF BULK AT MOST 1048576: true; the input reads as it did. -/
def recRestsUptoRow : OpenClaim := { program := "ythkcekgemanfdaa", sum := "b40ed2153e2a9db52370f5ab138c693366f2bf4e678aa8f1f6024f1929d94711", func := "anchorite/anchoritelaw14.RecRests", spec := "recRests", apart := false, narrowed := true }
def RecRestsUptoSaid : Prop := recRestsUptoRow.holds Try.pinned (OpenSpec.upto recRestsSpec)

/-- 'anchoritelaw10.ParamsReads', WHERE WHAT IT READS IS OF BULK AT MOST 1048576: true; the input reads as it did. -/
def paramsReadsUptoRow : OpenClaim := { program := "ythkcekgemanfdaa", sum := "b40ed2153e2a9db52370f5ab138c693366f2bf4e678aa8f1f6024f1929d94711", func := "anchorite/anchoritelaw10.ParamsReads", spec := "paramsReads", unfollowed := true, recurses := true, apart := false, narrowed := true }
def ParamsReadsUptoSaid : Prop := paramsReadsUptoRow.holds Try.pinned (OpenSpec.upto paramsReadsSpec)

/-- 'anchoritelaw10.ParamsBack', WHERE WHAT IT READS IS OF BULK AT MOST 1048576: true; the input reads as it did. -/
def paramsBackUptoRow : OpenClaim := { program := "ythkcekgemanfdaa", sum := "b40ed2153e2a9db52370f5ab138c693366f2bf4e678aa8f1f6024f1929d94711", func := "anchorite/anchoritelaw10.ParamsBack", spec := "paramsBack", unfollowed := true, recurses := true, apart := false, narrowed := true }
def ParamsBackUptoSaid : Prop := paramsBackUptoRow.holds Try.pinned (OpenSpec.upto paramsBackSpec)

/-- 'anchoritelaw14.RecForms', WHERE WHAT IT READS IS OF BULK AT MOST 1048576: true; the input reads as it did. -/
def recFormsUptoRow : OpenClaim := { program := "ythkcekgemanfdaa", sum := "b40ed2153e2a9db52370f5ab138c693366f2bf4e678aa8f1f6024f1929d94711", func := "anchorite/anchoritelaw14.RecForms", spec := "recForms", apart := false, narrowed := true }
def RecFormsUptoSaid : Prop := recFormsUptoRow.holds Try.pinned (OpenSpec.upto recFormsSpec)

end Rows
end Go.Proofs.Ythkcekgemanfdaa
