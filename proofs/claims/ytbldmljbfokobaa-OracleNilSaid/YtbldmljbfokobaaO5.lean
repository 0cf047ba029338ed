/- Blocks told in other segments: plain laws. Conditions: those that each theorem states. -/
import Derived.Test.YtbldmljbfokobaaO4
set_option linter.unusedVariables false
set_option linter.unusedSimpArgs false
namespace Go.Orc
open Go.Vc Go.RowKit
/-- a block's cells, told in other segments -/
theorem HP_reseg {w w0 : World} {L L' : List Ent} {b : Nat} {m : Md} {T : TypeId} {segs segs' : List Sgm} (h : HP w0 w L) (hat : At (.blk b m T segs) (.blk b m T segs') L L') (hm : m ≠ .ro) (hf : flat segs = flat segs') (ok : SsOk segs') : HP w0 w L' :=
  h.passed hat hm (Chg.refl _ _) ok (by rw [← hf]; exact (h.ok _ hat.mem).2.1)
theorem cells_ne {xs ys : List Value} {k : IntKind} {i : Nat} {a b : Int} (hx : xs[i]? = some (.int k a)) (hy : ys[i]? = some (.int k b)) (h : a ≠ b) : (xs = ys) = (false = true) := by
  refine propext ⟨fun e => ?_, fun e => by cases e⟩
  rw [e, hy] at hx
  injection hx with h1
  injection h1 with h2 h3
  exact absurd h3.symm h
end Go.Orc
namespace Go.Orc
open Go.Vc Go.RowKit
theorem fill_2 {z : Array Value} (hz : z = ⟨List.replicate 64 (vu8 0)⟩) {a b : List UInt8} (ha : a.length = 32) (hb : b.length = 32) :
    Instr.fill (fun i => some (i * 32, 32)) z [(0, .agg ⟨a.map vu8⟩), (1, .agg ⟨b.map vu8⟩)] = some ⟨(a ++ b).map vu8⟩ := by
  have e : (⟨List.replicate 64 (vu8 0)⟩ : Array Value) = ⟨flat [(32, List.replicate 32 (vu8 0)), (32, List.replicate 32 (vu8 0))]⟩ := rfl
  rw [hz, e]
  have r : ∀ l : List UInt8, l.length = 32 → SsOk [(32, l.map vu8)] := fun l h => SsOk.cons (SOk.u8 h) SsOk.nil
  have z0 : SOk (32, List.replicate 32 (vu8 0)) := SOk.rep rfl
  have h := (fill_of (pl := fun i => some (i * 32, 32)) (parts := [(0, .agg ⟨a.map vu8⟩), (1, .agg ⟨b.map vu8⟩)]) (out := [(32, a.map vu8), (32, b.map vu8)])
    (FillR.cons [] [(32, List.replicate 32 (vu8 0))] [(32, a.map vu8)] [(32, List.replicate 32 (vu8 0))] rfl rfl rfl rfl (r a ha) rfl rfl rfl
    (FillR.cons [(32, a.map vu8)] [(32, List.replicate 32 (vu8 0))] [(32, b.map vu8)] [] rfl rfl rfl rfl (r b hb) rfl rfl rfl FillR.nil))
    (SsOk.cons z0 (SsOk.cons z0 SsOk.nil))).1
  refine h.trans ?_
  simp only [flat, List.map_append]
end Go.Orc
namespace Go.Orc
open Go.Vc Go.RowKit
/-- a block of which the head is read from here on -/
theorem HP_blkView1 {w w0 : World} {L : List Ent} {b k : Nat} {T : TypeId} {cs : List Value} {r : List Sgm} (h : HP w0 w (.blk b .nw T ((k, cs) :: r) :: L)) : HP w0 w (.view (some ⟨b, 0, none⟩) cs :: L) := by
  have hv : View w (some ⟨b, 0, none⟩) cs := viewB (h.ok _ (List.mem_cons_self ..)) Sg.h
  refine h.turn .h (View.arg hv) (fun b' hb' => ?_) (fun hm => by cases hm) rfl rfl
  cases cs with
  | nil => simp [Ent.blocks] at hb'
  | cons x r => simpa [Ent.blocks] using hb'
end Go.Orc
