/- More rules yet: rules for walks, proved here for every program of the model. Conditions: none beyond what each theorem states. -/
import Derived.Test.YtbldmljbfokobaaVcS
set_option linter.unusedVariables false
set_option linter.unusedSimpArgs false
namespace Go.Vc
open Go.RowKit
set_option linter.unusedSectionVars false
section
variable {P : Program} {n : Nat} {F : Fr} {w w' w0 : World} {L L' : List Ent}
variable {ty : TypeId} {pos : String} {after : Array Edge} {dst : Option Tmp} {g : Option (Nat × Bool)}
theorem R.lenStrL {x : Operand} {l : List UInt8} {m : Nat} {T : TypeId} {ats : Array TypeId} (hx : evO F x = .string (bstr l)) (hT : ats[0]? = some T) (hU : P.underlying T = some .string) (hl : l.length = m) : (execOp (evO F) ⟨dst, .call { callee := .builtin .len, args := #[x], argTypes := ats }, ty, pos, after, g⟩).run P w = .ok (.value (vi m)) w := by
  subst hl
  exact R.lenStr hx hT hU
theorem R.indexStrL {i : Nat} {T : TypeId} {x y : Operand} {l : List UInt8} {kd : IntKind} {iv : Int} (hx : evO F x = .string (bstr l)) (hy : evO F y = .int kd iv) (hi : iv = (i : Int)) (hb : i < l.length)
    (hT : P.underlying T = some .string) : (execOp (evO F) ⟨dst, .index T x y, ty, pos, after, g⟩).run P w = .ok (.value (vu8 (l.getD i 0))) w := by
  refine R.indexStr hx hy hi ?_ hT
  have h1 : i < (bstr l).size := hb
  rw [getElem?_pos (bstr l) i h1]
  congr 1
  simp [bstr, hb]
  rfl
theorem view_sblk {a : Option Addr} {m c : Nat} {l : List UInt8} (hl : l.length = m) : ∀ b ∈ (Ent.view a (l.map vu8)).blocks, b ∈ sblk (.slice a m c) := by
  intro b hb
  cases a with
  | none => simp [Ent.blocks] at hb
  | some ad => cases l with
    | nil => simp [Ent.blocks] at hb
    | cons x r => cases m with
      | zero => simp at hl
      | succ m => simpa [Ent.blocks, sblk] using hb
end
end Go.Vc
