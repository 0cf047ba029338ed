/- Rows cut from their head: rules for walks, proved here for every program of the model. Conditions: none beyond what each theorem states. -/
import Derived.Test.YtbldmljbfokobaaVcJ
set_option linter.unusedVariables false
set_option linter.unusedSimpArgs false
namespace Go.Vc
open Go.RowKit
set_option linter.unusedSectionVars false
section
variable {P : Program} {n : Nat} {ops : Array Oper} {Q : Exit → Fr → World → Prop} {rest : List Oper} {F : Fr} {w w' w0 : World} {L L' : List Ent}
variable {ty : TypeId} {pos : String} {after : Array Edge} {dst : Option Tmp} {g : Option (Nat × Bool)}
/-! slices of the call's own, cut from their head -/
theorem R.sliceR0 {len cap h s s' B : Nat} {T E E' : TypeId} {x : Operand} {lo hi : Option Operand} {a : Option Addr} {xs : List Value} (hx : evO F x = .slice a len cap) (hlo : EvB F lo 0 0) (hhi : EvB F hi len h) (h2 : h ≤ cap)
    (hT : P.underlying T = some (.slice E)) (hs : ∀ w, (sizeOf E).run P w = .ok s w) (ho : Own B w E' s' a len cap xs) : (execOp (evO F) ⟨dst, .slice T x lo hi none, ty, pos, after, g⟩).run P w = .ok (.value (.slice a h cap)) w := by
  have := R.sliceS (P := P) (F := F) (w := w) (dst := dst) (ty := ty) (pos := pos) (after := after) (g := g) hx hlo hhi (Nat.zero_le h) h2 hT hs
  rw [slA0 ho, Nat.sub_zero, Nat.sub_zero] at this
  exact this
theorem R.sliceR3 {len cap h s s' B : Nat} {T E E' : TypeId} {x hi mx : Operand} {lo : Option Operand} {a : Option Addr} {k k' : IntKind} {ih im : Int} {xs : List Value} (hx : evO F x = .slice a len cap) (hlo : EvB F lo 0 0) (hhi : evO F hi = .int k ih) (hmx : evO F mx = .int k' im) (eh : ih = (h : Int)) (em : im = (h : Int)) (h3 : h ≤ cap)
    (hT : P.underlying T = some (.slice E)) (hs : ∀ w, (sizeOf E).run P w = .ok s w) (ho : Own B w E' s' a len cap xs) : (execOp (evO F) ⟨dst, .slice T x lo (some hi) (some mx), ty, pos, after, g⟩).run P w = .ok (.value (.slice a h h)) w := by
  have := R.sliceS3 (P := P) (F := F) (w := w) (dst := dst) (ty := ty) (pos := pos) (after := after) (g := g) (len := len) (cap := cap) hx hlo hhi hmx eh em (Nat.zero_le h) (Nat.le_refl h) h3 hT hs
  rw [slA0 ho, Nat.sub_zero] at this
  exact this
theorem R.capS {x : Operand} {a : Option Addr} {m c : Nat} {T E : TypeId} {ats : Array TypeId} (hx : evO F x = .slice a m c) (hT : ats[0]? = some T) (hU : P.underlying T = some (.slice E)) : (execOp (evO F) ⟨dst, .call { callee := .builtin .cap, args := #[x], argTypes := ats }, ty, pos, after, g⟩).run P w = .ok (.value (vi c)) w := by
  rw [BigFrame.execOp_builtin, BigFrame.builtin_cap]
  simp [Builtin.cap_, hx, hT, run_underlying hU, goInt]
theorem Own.nil (B : Nat) (w : World) (T : TypeId) (s : Nat) : Own B w T s none 0 0 [] := ⟨by simp, by simp, Nat.le_refl _, by simp [maxLen], .inl ⟨rfl, rfl, rfl⟩⟩
theorem view_none {α : Type} {f : α → Value} {a : Option Addr} {l : List α} (h : a.isNone = true) (hv : View w a (l.map f)) : l = [] := by
  cases l with
  | nil => rfl
  | cons x r =>
    obtain ⟨ad, e, _⟩ := hv 0 _ rfl
    rw [e] at h; cases h
theorem HP.rowCap {k m cap s : Nat} {a : Option Addr} {E : TypeId} {xs ys : List Value} (h : HP w0 w L) (hat : At (.row a m cap E s xs) (.row a k k E s ys) L L') (hk : k ≤ m) (hy : xs.take (k * s) = ys) : HP w0 w L' := by
  subst hy
  obtain ⟨hl, h1s, hn, hc, h5⟩ := h.own hat.mem
  have hks : k * s ≤ m * s := Nat.mul_le_mul_right s hk
  have hks2 : k * s ≤ cap * s := Nat.mul_le_mul_right s (by omega)
  refine h.turn hat ⟨by rw [List.length_take]; omega, fun v hv => h1s v (List.mem_of_mem_take hv), Nat.le_refl _, by omega, ?_⟩ (fun b hb => hb) (fun _ => rfl) rfl rfl
  rcases h5 with ⟨rfl, h0, hc0⟩ | ⟨g, cur, rfl, hg, hcell, hcl, htk⟩
  · exact .inl ⟨rfl, by omega, by omega⟩
  · exact .inr ⟨g, cur, rfl, hg, hcell, by omega, by rw [← htk, List.take_take]; congr 1; omega⟩
/-- a literal of no elements -/
theorem WL.buildSl0 {d s : Nat} {T E : TypeId} (h : HP w0 w L) (hT : P.underlying T = some (.slice E)) (hs : ∀ w, (sizeOf E).run P w = .ok s w) (hd : Nat.blt d n = true)
    (k : ∀ b w', HP w0 w' (.row (some ⟨b, 0, none⟩) 0 0 E s [] :: L) → WL P n ops Q rest (upd F d (.slice (some ⟨b, 0, none⟩) 0 0)) w') : WL P n ops Q (⟨some d, .buildSlice T 0 #[], ty, pos, after, none⟩ :: rest) F w := by
  have hnew : HP w0 (w.alloc (.cells ⟨[]⟩ E)) (.row (some ⟨w.heap.size, 0, none⟩) 0 0 E s [] :: L) := by
    refine h.push (Chg.alloc _ _ _) ⟨by simp, by simp, Nat.le_refl _, by simp [maxLen], .inr ⟨w.heap.size, [], rfl, h.size, ⟨(0, 0), Free.zero _, heap_alloc_new w _⟩, by simp, by simp⟩⟩ rfl (fun b hb => ?_)
    simp only [Ent.blocks, List.mem_singleton] at hb; subst hb; exact Nat.le_refl _
  refine WL.val rfl rfl hd ?_ (k _ _ hnew)
  simp [execOp, Instr.buildSlice, run_underlying hT, hs, newRow]
  have e0 : Array.map (fun _ => (default : Value)) (Array.range 0) = (⟨[]⟩ : Array Value) := by apply Array.ext'; simp
  rw [e0]
  rfl
/-- a row of at least one element: its block -/
theorem Own.open {B m cap : Nat} {T : TypeId} {a : Option Addr} {xs : List Value} (h : Own B w T 1 a m cap xs) (hm : 1 ≤ m) : ∃ g r, a = some ⟨g, 0, none⟩ ∧ B ≤ g ∧ CellsAt w g T (xs ++ r) := by
  obtain ⟨hl, _, hn, _, h5⟩ := h
  rcases h5 with ⟨_, rfl, _⟩ | ⟨g, cur, rfl, hg, hc, hcl, htk⟩
  · omega
  · exact ⟨g, cur.drop (m * 1), rfl, hg, by rw [← htk, List.take_append_drop]; exact hc⟩
/-- an entry is gone: its block has turned to what is not told -/
theorem HP.lose {e : Ent} (h : HP w0 w (e :: L)) (hc : Chg w w' e.blocks) (hm : e.mut = true) (har : e.isAr = false) (hB : ∀ b ∈ e.blocks, w0.heap.size ≤ b) : HP w0 w' L where
  os := hc.os.trans h.os
  tape := hc.tape.trans h.tape
  output := hc.output.trans h.output
  size := Nat.le_trans h.size hc.size
  frame := fun k hk hn => by
    have h1 := (h.drop har).frame k hk hn
    have hkb : k ∉ e.blocks := fun hb => by have := hB k hb; omega
    rw [hc.block k (by have := h.size; omega) hkb, h1]
  ok := fun f hf => by
    have hs : Sep e f := (List.pairwise_cons.1 h.sep).1 f hf
    exact Ent.ok_same (h.ok f (List.mem_cons_of_mem _ hf)) fun b hb => hc.block b (Ent.lt (h.ok f (List.mem_cons_of_mem _ hf)) b hb) (fun hb2 => hs (.inl hm) b hb2 hb)
  sep := (List.pairwise_cons.1 h.sep).2
end
end Go.Vc
