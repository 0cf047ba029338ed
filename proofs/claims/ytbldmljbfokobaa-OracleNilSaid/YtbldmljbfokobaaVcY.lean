/- Parts of a block: rules for walks, proved here for every program of the model. Conditions: none beyond what each theorem states. -/
import Derived.Test.YtbldmljbfokobaaVcX
set_option linter.unusedVariables false
set_option linter.unusedSimpArgs false
namespace Go.Vc
open Go.RowKit
set_option linter.unusedSectionVars false
section
variable {P : Program} {n : Nat} {ops : Array Oper} {Q : Exit → Fr → World → Prop} {rest : List Oper} {F : Fr} {w w' w0 : World} {L L' : List Ent}
variable {ty : TypeId} {pos : String} {after : Array Edge} {dst : Option Tmp} {g : Option (Nat × Bool)}
/-! a slice's array, and parts of a block that are read -/
theorem R.s2ap {a : Option Addr} {k cap m : Nat} {T E : TypeId} {x : Operand} (hx : evO F x = .slice a k cap) (hT : P.underlying T = some (.array m E)) (hle : m ≤ k) :
    (execOp (evO F) ⟨dst, .sliceToArrayPointer T x, ty, pos, after, g⟩).run P w = .ok (.value (.pointer a)) w := by
  have h : ¬ k < m := by omega
  simp [execOp, hx, Instr.arrayAt, run_underlying hT, h]
theorem viewPart {α : Type} {f : α → Value} {l : List α} {B b m T segs off K} (i k : Nat) (he : (Ent.blk b m T segs).ok B w) (hs : Sg (K, l.map f) (K, l.map f) off segs segs) : View w (some ⟨b, off + i, none⟩) (((l.drop i).take k).map f) := by
  have h := ((viewB he hs).drop i).take k
  rw [Option.map_some, addr_add] at h; rw [List.map_take, List.map_drop]; exact h
theorem lenApp {α : Type} {A B : List α} {a b k : Nat} (hA : A.length = a) (hB : B.length = b) (h : a + b = k) : (A ++ B).length = k := by rw [List.length_append, hA, hB, h]
end
end Go.Vc
