/- A digest on its way, in memory: plain laws. Conditions: those that each theorem states. -/
import Derived.Test.YtelkjcigdhgcoaaH5
set_option linter.unusedVariables false
set_option linter.unusedSimpArgs false
namespace Go.Sh
open Go.Vc
/-- the state behind a message's whole blocks; what is left of it -/
def stH (m : List UInt8) : List UInt32 := hs kL hL m (m.length / 64)
def rsL (m : List UInt8) : List UInt8 := m.drop (64 * (m.length / 64))
theorem stH_len (m : List UInt8) : (stH m).length = 8 := hs_len hL_len _
theorem rsL_len (m : List UInt8) : (rsL m).length = m.length % 64 := by rw [rsL, List.length_drop]; omega
theorem stH_nil : stH [] = hL := rfl
theorem rsL_nil : rsL [] = [] := rfl
/-- block b holds what a digest is that has gone through m; all that it reads besides is new -/
def HashAt (B : Nat) (w : World) (b : Nat) (T : TypeId) (m : List UInt8) : Prop :=
  ∃ (ra : Option Addr) (rn rc : Nat), CellsAt w b T (flat [(64, kL.map vu32), (8, (stH m).map vu32), (1, [.slice ra rn rc]), (1, [vi ((m.length : Nat) : Int)]), (1, [.bool true])]) ∧ View w ra ((rsL m).map vu8) ∧ (rsL m).length = rn ∧ rn ≤ rc ∧ (∀ x ∈ (Ent.view ra ((rsL m).map vu8)).blocks, B ≤ x ∧ x ≠ b)
theorem Sep_off {a : Option Addr} {xs : List Value} {b : Nat} {m : Md} {T : TypeId} {segs : List Sgm} (hm : m ≠ .ro) (h : Sep (.view a xs) (.blk b m T segs)) : ∀ x ∈ (Ent.view a xs).blocks, x ≠ b := by
  intro x hx e
  refine h (.inr ?_) x hx ?_
  · cases m <;> first | rfl | exact absurd rfl hm
  · rw [e]; exact List.mem_singleton.2 rfl
theorem Sep_offRow {a : Option Addr} {xs : List Value} {b k cap s : Nat} {m : Md} {E T : TypeId} {segs : List Sgm} (h : Sep (.row a k cap E s xs) (.blk b m T segs)) : ∀ x ∈ (Ent.view a xs).blocks, x ≠ b := by
  intro x hx e
  refine h (.inl rfl) x (row_view x hx) ?_
  rw [e]; exact List.mem_singleton.2 rfl
theorem off_Sep {a : Option Addr} {xs : List Value} {b : Nat} {m : Md} {T : TypeId} {segs : List Sgm} (h : ∀ x ∈ (Ent.view a xs).blocks, x ≠ b) : Sep (.blk b m T segs) (.view a xs) := by
  intro _ x hx hb
  rw [List.mem_singleton.1 hx] at hb
  exact h b hb rfl
section
variable {w w' w0 : World} {L : List Ent}
/-- ahead of a callee that may write block b, and reads two slices -/
theorem HP_three {b : Nat} {T : TypeId} {segs : List Sgm} {a a2 : Option Addr} {xs ys : List Value} (hb : (Ent.blk b .ar T segs).ok w.heap.size w) (h1 : View w a xs) (h2 : View w a2 ys) (o1 : ∀ x ∈ (Ent.view a xs).blocks, x ≠ b) (o2 : ∀ x ∈ (Ent.view a2 ys).blocks, x ≠ b) : HP w w [.blk b .ar T segs, .view a xs, .view a2 ys] := by
  have e1 := ((HP.init w).oldV (View.arg h2) rfl (fun f hf => by cases hf)).oldV (View.arg h1) rfl (by simp [Ent.mut])
  refine e1.old hb fun f hf => ?_
  rcases List.mem_cons.1 hf with rfl | hf
  · exact off_Sep o1
  · rw [List.mem_singleton] at hf; subst hf; exact off_Sep o2
theorem HP_gotHash {b : Nat} {T : TypeId} {segs : List Sgm} {a : Option Addr} {xs : List Value} (h : HP w0 w L) (hc : Chg w w' []) (hb : w.heap.size ≤ b) (hok : SsOk segs) (hcells : CellsAt w' b T (flat segs)) (hv : View w' a xs) (hf : ∀ x ∈ (Ent.view a xs).blocks, w.heap.size ≤ x ∧ x ≠ b) :
    HP w0 w' (.blk b .nw T segs :: .view a xs :: L) := by
  have h1 := h.push hc (e := .view a xs) (View.arg hv) rfl (fun x hx => (hf x hx).1)
  refine h1.add ⟨hok, hcells, Nat.le_trans h.size hb⟩ rfl fun f hf2 => ?_
  rcases List.mem_cons.1 hf2 with rfl | hf2
  · exact off_Sep fun x hx => (hf x hx).2
  · intro _ x hx hxf
    rw [List.mem_singleton.1 hx] at hxf
    have := Ent.lt (h.ok f hf2) b hxf
    omega
theorem HP_passedHash {b : Nat} {m : Md} {T : TypeId} {segs segs' : List Sgm} {a : Option Addr} {xs : List Value} (h : HP w0 w (.blk b m T segs :: L)) (hm : m ≠ .ro) (hc : Chg w w' [b]) (hok : SsOk segs') (hcells : CellsAt w' b T (flat segs')) (hv : View w' a xs) (hf : ∀ x ∈ (Ent.view a xs).blocks, w.heap.size ≤ x ∧ x ≠ b) :
    HP w0 w' (.view a xs :: .blk b m T segs' :: L) := by
  have h1 := h.passed (segs' := segs') .h hm hc hok hcells
  refine h1.add (View.arg hv) rfl fun f hf2 => ?_
  rcases List.mem_cons.1 hf2 with rfl | hf2
  · intro _ x hx hxb
    exact (hf x hx).2 (List.mem_singleton.1 hxb)
  · intro _ x hx hxf
    have := Ent.lt (h.ok f (List.mem_cons_of_mem _ hf2)) x hxf
    have := (hf x hx).1
    omega
end
/-! what goes through -/
theorem wr_0 (m bs : List UInt8) : stH m = hs kL hL (m ++ bs) (m.length / 64) := (hs_app _ (by omega)).symm
theorem wr_r (m bs : List UInt8) : [rsL m, bs].flatten = (m ++ bs).drop (64 * (m.length / 64)) := by
  rw [rsL, List.drop_append_of_le_length (by omega)]; simp
theorem wr_step {M : List UInt8} {k n : Nat} (hn : n = 64) : pressL kL (hs kL hL M k) (((M.drop (64 * k)).drop 0).take n) = hs kL hL M (k + 1) := by
  subst hn; rw [List.drop_zero]; rfl
theorem wr_drop (M : List UInt8) (k : Nat) : (M.drop (64 * k)).drop 64 = M.drop (64 * (k + 1)) := by
  rw [List.drop_drop]; congr 1
theorem wr_end {M : List UInt8} {k : Nat} (h : 64 * k ≤ M.length) (h2 : M.length < 64 * k + 64) : k = M.length / 64 := by omega
theorem mix_ovr {α : Type} {p h c : List α} {n i k : Nat} (hp : p.length = n) (hc : c = (p.drop i).take k) (hi : i + k ≤ n) : ovr (mix p h i) i c = mix p h (i + k) := by
  have h1 : (p.take i).length = i := by rw [List.length_take]; omega
  have h2 : ((p.drop i).take k).length = k := by rw [List.length_take, List.length_drop]; omega
  subst hc
  rw [ovr, mix, mix, h2, List.take_append_of_le_length (by omega), List.take_take, Nat.min_self, List.drop_append, h1, List.drop_drop]
  have e : (p.take i).drop (i + k) = [] := List.drop_of_length_le (by omega)
  rw [e, List.nil_append, ← List.append_assoc, List.take_add]
  congr 2; omega
theorem dig_ovr {h : List UInt32} {i : Nat} (hi : i < 8) (x : UInt32) (hx : x = h.getD i 0) : ovr (mix (digL h) (List.replicate 32 0) (4 * i)) (4 * i) (leN 4 (UInt64.ofNat x.toNat).toNat).reverse = mix (digL h) (List.replicate 32 0) (4 * (i + 1)) := by
  have hl := x.toNat_lt
  rw [nat64 (by omega), hx]
  exact mix_ovr (digL_len h) (dig_word hi).symm (by omega)
theorem sum_dig (m : List UInt8) : digL (stH (m ++ padL m.length)) = sumL m := rfl
end Go.Sh
