/- Blocks that are read from here on: plain laws. Conditions: those that each theorem states. -/
import Derived.Test.YtbldmljbfokobaaO3
set_option linter.unusedVariables false
set_option linter.unusedSimpArgs false
namespace Go.Orc
open Go.Vc Go.RowKit
section
variable {w w' w0 : World} {L : List Ent}
/-- a block that is read from here on -/
theorem HP_blkView {b k : Nat} {T : TypeId} {cs : List Value} (h : HP w0 w (.blk b .nw T [(k, cs)] :: L)) : HP w0 w (.view (some ⟨b, 0, none⟩) cs :: L) := by
  have hb := h.blk (List.mem_cons_self ..)
  have hv : View w (some ⟨b, 0, none⟩) cs := by
    have := hb.2.view 0
    simpa [flat] using this
  refine h.turn .h (View.arg hv) (fun b' hb' => ?_) (fun hm => by cases hm) rfl rfl
  cases cs with
  | nil => simp [Ent.blocks] at hb'
  | cons x r => simpa [Ent.blocks] using hb'
end
end Go.Orc
