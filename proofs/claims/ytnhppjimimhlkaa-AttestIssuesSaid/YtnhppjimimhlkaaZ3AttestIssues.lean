/- Rules for walks and contracts of the functions that the law reaches, one behind the other. Conditions: none beyond what each theorem states. -/
import Derived.Test.YtnhppjimimhlkaaZ2AttestIssues
set_option linter.unusedVariables false
set_option linter.unusedSimpArgs false
set_option linter.unusedSectionVars false
namespace Go.Sh
open Go.Vc
def stH (m : List UInt8) : List UInt32 := hs kL hL m (m.length / 64)
def rsL (m : List UInt8) : List UInt8 := m.drop (64 * (m.length / 64))
theorem stH_len (m : List UInt8) : (stH m).length = 8 := hs_len hL_len _
theorem rsL_len (m : List UInt8) : (rsL m).length = m.length % 64 := by rw [rsL, List.length_drop]; omega
def HashAt (B : Nat) (w : World) (b : Nat) (T : TypeId) (m : List UInt8) : Prop :=
  ∃ (ra : Option Addr) (rn rc : Nat), CellsAt w b T (flat [(64, kL.map vu32), (8, (stH m).map vu32), (1, [.slice ra rn rc]), (1, [vi ((m.length : Nat) : Int)]), (1, [.bool true])]) ∧ View w ra ((rsL m).map vu8) ∧ (rsL m).length = rn ∧ rn ≤ rc ∧ (∀ x ∈ (Ent.view ra ((rsL m).map vu8)).blocks, B ≤ x ∧ x ≠ b)
theorem Sep_off {a : Option Addr} {xs : List Value} {b : Nat} {m : Md} {T : TypeId} {segs : List Sgm} (hm : m ≠ .ro) (h : Sep (.view a xs) (.blk b m T segs)) : ∀ x ∈ (Ent.view a xs).blocks, x ≠ b := by
  intro x hx e
  refine h (.inr ?_) x hx ?_
  · cases m <;> first | rfl | exact absurd rfl hm
  · rw [e]; exact List.mem_singleton.2 rfl
theorem Sep_offRow {a : Option Addr} {xs : List Value} {b k cap s : Nat} {m : Md} {E T : TypeId} {segs : List Sgm} (h : Sep (.row a k cap E s xs) (.blk b m T segs)) : ∀ x ∈ (Ent.view a xs).blocks, x ≠ b := by
  intro x hx e
  refine h (.inl rfl) x (row_view x hx) ?_
  rw [e]; exact List.mem_singleton.2 rfl
theorem off_Sep {a : Option Addr} {xs : List Value} {b : Nat} {m : Md} {T : TypeId} {segs : List Sgm} (h : ∀ x ∈ (Ent.view a xs).blocks, x ≠ b) : Sep (.blk b m T segs) (.view a xs) := by
  intro _ x hx hb
  rw [List.mem_singleton.1 hx] at hb
  exact h b hb rfl
section
variable {w w' w0 : World} {L : List Ent}
theorem HP_three {b : Nat} {T : TypeId} {segs : List Sgm} {a a2 : Option Addr} {xs ys : List Value} (hb : (Ent.blk b .ar T segs).ok w.heap.size w) (h1 : View w a xs) (h2 : View w a2 ys) (o1 : ∀ x ∈ (Ent.view a xs).blocks, x ≠ b) (o2 : ∀ x ∈ (Ent.view a2 ys).blocks, x ≠ b) : HP w w [.blk b .ar T segs, .view a xs, .view a2 ys] := by
  have e1 := ((HP.init w).oldV (View.arg h2) rfl (fun f hf => by cases hf)).oldV (View.arg h1) rfl (by simp [Ent.mut])
  refine e1.old hb fun f hf => ?_
  rcases List.mem_cons.1 hf with rfl | hf
  · exact off_Sep o1
  · rw [List.mem_singleton] at hf; subst hf; exact off_Sep o2
theorem HP_gotHash {b : Nat} {T : TypeId} {segs : List Sgm} {a : Option Addr} {xs : List Value} (h : HP w0 w L) (hc : Chg w w' []) (hb : w.heap.size ≤ b) (hok : SsOk segs) (hcells : CellsAt w' b T (flat segs)) (hv : View w' a xs) (hf : ∀ x ∈ (Ent.view a xs).blocks, w.heap.size ≤ x ∧ x ≠ b) :
    HP w0 w' (.blk b .nw T segs :: .view a xs :: L) := by
  have h1 := h.push hc (e := .view a xs) (View.arg hv) rfl (fun x hx => (hf x hx).1)
  refine h1.add ⟨hok, hcells, Nat.le_trans h.size hb⟩ rfl fun f hf2 => ?_
  rcases List.mem_cons.1 hf2 with rfl | hf2
  · exact off_Sep fun x hx => (hf x hx).2
  · intro _ x hx hxf
    rw [List.mem_singleton.1 hx] at hxf
    have := Ent.lt (h.ok f hf2) b hxf
    omega
theorem HP_passedHash {b : Nat} {m : Md} {T : TypeId} {segs segs' : List Sgm} {a : Option Addr} {xs : List Value} (h : HP w0 w (.blk b m T segs :: L)) (hm : m ≠ .ro) (hc : Chg w w' [b]) (hok : SsOk segs') (hcells : CellsAt w' b T (flat segs')) (hv : View w' a xs) (hf : ∀ x ∈ (Ent.view a xs).blocks, w.heap.size ≤ x ∧ x ≠ b) :
    HP w0 w' (.view a xs :: .blk b m T segs' :: L) := by
  have h1 := h.passed (segs' := segs') .h hm hc hok hcells
  refine h1.add (View.arg hv) rfl fun f hf2 => ?_
  rcases List.mem_cons.1 hf2 with rfl | hf2
  · intro _ x hx hxb
    exact (hf x hx).2 (List.mem_singleton.1 hxb)
  · intro _ x hx hxf
    have := Ent.lt (h.ok f (List.mem_cons_of_mem _ hf2)) x hxf
    have := (hf x hx).1
    omega
end
theorem wr_0 (m bs : List UInt8) : stH m = hs kL hL (m ++ bs) (m.length / 64) := (hs_app _ (by omega)).symm
theorem wr_r (m bs : List UInt8) : [rsL m, bs].flatten = (m ++ bs).drop (64 * (m.length / 64)) := by
  rw [rsL, List.drop_append_of_le_length (by omega)]; simp
theorem wr_step {M : List UInt8} {k n : Nat} (hn : n = 64) : pressL kL (hs kL hL M k) (((M.drop (64 * k)).drop 0).take n) = hs kL hL M (k + 1) := by
  subst hn; rw [List.drop_zero]; rfl
theorem wr_drop (M : List UInt8) (k : Nat) : (M.drop (64 * k)).drop 64 = M.drop (64 * (k + 1)) := by
  rw [List.drop_drop]; congr 1
theorem mix_ovr {α : Type} {p h c : List α} {n i k : Nat} (hp : p.length = n) (hc : c = (p.drop i).take k) (hi : i + k ≤ n) : ovr (mix p h i) i c = mix p h (i + k) := by
  have h1 : (p.take i).length = i := by rw [List.length_take]; omega
  have h2 : ((p.drop i).take k).length = k := by rw [List.length_take, List.length_drop]; omega
  subst hc
  rw [ovr, mix, mix, h2, List.take_append_of_le_length (by omega), List.take_take, Nat.min_self, List.drop_append, h1, List.drop_drop]
  have e : (p.take i).drop (i + k) = [] := List.drop_of_length_le (by omega)
  rw [e, List.nil_append, ← List.append_assoc, List.take_add]
  congr 2; omega
theorem dig_ovr {h : List UInt32} {i : Nat} (hi : i < 8) (x : UInt32) (hx : x = h.getD i 0) : ovr (mix (digL h) (List.replicate 32 0) (4 * i)) (4 * i) (leN 4 (UInt64.ofNat x.toNat).toNat).reverse = mix (digL h) (List.replicate 32 0) (4 * (i + 1)) := by
  have hl := x.toNat_lt
  rw [nat64 (by omega), hx]
  exact mix_ovr (digL_len h) (dig_word hi).symm (by omega)
theorem sum_dig (m : List UInt8) : digL (stH (m ++ padL m.length)) = sumL m := rfl
end Go.Sh

namespace Go.Proofs.Ytnhppjimimhlkaa
open Go.Vc Go.Sh Go.RowKit
set_option maxRecDepth 20000

theorem c_padding (n : Nat) (hn : n ≤ 1099511627776) (w : World) :
  Cs Try.prog 112 [(vi ((n : Nat) : Int))].toArray w (fun v w1 => ∃ a cap, v = .slice a (padL n).length cap ∧ Chg w w1 [] ∧ Own w.heap.size w1 5 1 a (padL n).length cap ((padL n).map vu8)) := by
 refine Cs.of (n := 23) (args := [(vn n)]) Try.func112 rfl rfl rfl ?_
 have h_0 := HP.init w
 refine WP.seq (WP.reg ?_)
 refine qA (.slice none 0 0) rfl rfl ?_
 refine WL.nil (thn_n (WP.seq (WP.reg ?_)))
 refine WL.buildSl (vs := [(0, (vu8 128))]) (cs := ([128] : List UInt8).map vu8) h_0 Try.underlying37 Try.sizeOf5 (zv Try.typeInfo5 rfl) rfl rfl (by kernel_rfl) rfl (one_u8 _) rfl rfl (fun b_1 w_2 h_3 => ?_)
 refine qM (vn n) rfl rfl (qV rfl (R.bin rfl rfl (bi_rem (c := ((n % 64 : Nat) : Int)) (Int.natCast_nonneg _) (by omega) (by first | omega | rfl))) (qV rfl (R.bin rfl rfl (bi_sub (c := ((119 - (n % 64) : Nat) : Int)) (by omega) (by omega))) (qV rfl (R.bin rfl rfl (bi_rem (c := (((119 - (n % 64)) % 64 : Nat) : Int)) (Int.natCast_nonneg _) (by omega) (by first | omega | rfl))) ?_)))
 have h_4 := HP.blkRow (m := 1) (s := 1) h_3 At.h rfl (by simp only [maxLen]; decide)
 refine WL.appendZ (i := Try.t5) (m := (119 - (n % 64)) % 64) (km := 1 + ((119 - (n % 64)) % 64)) (xs := ([128] : List UInt8).map vu8) (zs := (([128] : List UInt8) ++ List.replicate ((119 - (n % 64)) % 64) (0 : UInt8)).map vu8) h_4 rfl rfl Try.underlying37 Try.underlying3 rfl rfl rfl rfl (by simp only [List.map_append, List.map_replicate, List.map_nil]) (by omega) (by omega) (fun _ _ => At.h) rfl (fun a_5 c_6 w_7 h_8 => ?_)
 refine qA (.slice a_5 (1 + ((119 - (n % 64)) % 64)) c_6) rfl rfl ?_
 refine WL.nil (thn_n (WP.seq (WP.reg ?_)))
 refine qM (vn n) rfl rfl (qV rfl (R.conv (b := ((UInt64.ofNat n) : UInt64).toNat) rfl Try.underlying3 Try.underlying28 (w64_nat n)) (qV rfl (R.bin (v := (vu64 (UInt64.ofNat (n * 8)))) rfl rfl ((b64_mul (UInt64.ofNat n) 8).trans (congrArg (fun x : UInt64 => some (vu64 x)) (mul8 n)))) ?_))
 refine WL.call Try.call76 rfl rfl (c_Put_b (UInt64.ofNat (n * 8)) 8 rfl _) rfl ?_
 rintro _ w_11 ⟨a_9, cap_10, rfl, hc_12, ho_13⟩
 have h_14 := h_8.gotRow hc_12 ho_13
 refine qM (.tuple [(.slice a_9 8 cap_10), (vi 0)].toArray) rfl rfl (qV rfl (R.extract rfl rfl) (qV rfl (R.extract rfl rfl) (qA (.slice a_9 8 cap_10) rfl rfl (qA (vi 0) rfl rfl ?_))))
 refine WL.nil (thn_n (WP.seq (WP.reg ?_)))
 refine qM (.slice a_5 (1 + ((119 - (n % 64)) % 64)) c_6) rfl rfl (qM (.slice a_9 8 cap_10) rfl rfl ?_)
 refine WL.call Try.call113 rfl rfl (c_Turned a_9 8 cap_10 (leN 8 (UInt64.ofNat (n * 8)).toNat) (leN_len ..) (by omega) _ (ownView (h_14.ok _ M0))) rfl ?_
 rintro _ w_17 ⟨a_15, cap_16, rfl, hc_18, ho_19⟩
 have h_20 := h_14.gotRow hc_18 ho_19
 refine WL.append (km := (1 + ((119 - (n % 64)) % 64)) + 8) (xs := (([128] : List UInt8) ++ List.replicate ((119 - (n % 64)) % 64) (0 : UInt8)).map vu8) (ys := ((leN 8 (UInt64.ofNat (n * 8)).toNat).reverse).map vu8) (zs := ((([128] : List UInt8) ++ List.replicate ((119 - (n % 64)) % 64) (0 : UInt8)) ++ ((leN 8 (UInt64.ofNat (n * 8)).toNat).reverse)).map vu8) h_20 rfl rfl el37 (ownView (h_20.ok _ M0)) ((len_map ((List.length_reverse ..).trans (leN_len ..))).trans (Nat.mul_one _).symm) (one_u8 _) (by simp only [List.map_append, List.map_nil]) (by omega) (by omega) (by omega) (fun _ _ => Y2) rfl (fun a_21 c_22 w_23 h_24 => ?_)
 refine qA (.slice a_21 ((1 + ((119 - (n % 64)) % 64)) + 8) c_22) rfl rfl ?_
 refine WL.nil (thn_n (WP.ret ?_))
 refine ret_of Try.results112 (RV.tmp (v := (.slice a_21 ((1 + ((119 - (n % 64)) % 64)) + 8) c_22)) rfl RV.nil) ?_
 have es : (([128] : List UInt8) ++ List.replicate ((119 - (n % 64)) % 64) (0 : UInt8)) ++ ((leN 8 (UInt64.ofNat (n * 8)).toNat).reverse) = padL n := pad_P (by omega)
 have el : (1 + ((119 - (n % 64)) % 64)) + 8 = (padL n).length := by have hq := padL_len n; omega
 have hown := h_24.own M2
 rw [el, es] at hown
 exact ⟨_, _, by rw [el]; rfl, h_24.chgS, hown⟩

theorem c_PadR (a : Option Addr) (n cap : Nat) (bs : List UInt8) (hl : bs.length = n) (hn : n ≤ 1000000000000) (w : World) (hv : View w a (bs.map vu8)) :
  Cs Try.prog 127 [(.slice a n cap)].toArray w (fun v w1 => ∃ a cap, v = .slice a (padded bs).length cap ∧ Chg w w1 [] ∧ Own w.heap.size w1 5 1 a (padded bs).length cap ((padded bs).map vu8)) := by
 refine Cs.of (n := 35) (args := [(.slice a n cap)]) Try.func127 rfl rfl rfl ?_
 have h_0 := HP.init w
 have h_00 := h_0.old (View.arg hv) (fun f hf => by cases hf)
 refine WP.seq (WP.reg ?_)
 refine qA (.slice none 0 0) rfl rfl ?_
 refine WL.nil (thn_n (WP.seq (WP.reg ?_)))
 refine qM (.slice a n cap) rfl rfl ?_
 have h_1 := h_00.rowNil 5 1
 refine WL.append (km := n) (xs := []) (ys := bs.map vu8) (zs := (([] : List UInt8) ++ bs).map vu8) h_1 rfl rfl el37 (viewV (h_1.ok _ M1)) ((len_map hl).trans (Nat.mul_one _).symm) (one_u8 _) (by simp only [List.map_append, List.map_nil]) (by omega) (by omega) (by omega) (fun _ _ => At.h) rfl (fun a_2 c_3 w_4 h_5 => ?_)
 refine WL.buildSl (vs := [(0, (vu8 128))]) (cs := ([128] : List UInt8).map vu8) h_5 Try.underlying37 Try.sizeOf5 (zv Try.typeInfo5 rfl) rfl rfl (by kernel_rfl) rfl (one_u8 _) rfl rfl (fun b_6 w_7 h_8 => ?_)
 refine WL.append (km := n + 1) (xs := (([] : List UInt8) ++ bs).map vu8) (ys := ([128] : List UInt8).map vu8) (zs := ((([] : List UInt8) ++ bs) ++ ([128] : List UInt8)).map vu8) h_8 rfl rfl el37 (viewB (h_8.ok _ M0) Sg.h) ((len_map (rfl : List.length ([128] : List UInt8) = 1)).trans (Nat.mul_one _).symm) (one_u8 _) (by simp only [List.map_append, List.map_nil]) (by omega) (by omega) (by omega) (fun _ _ => Y1) rfl (fun a_9 c_10 w_11 h_12 => ?_)
 refine qA (.slice a_9 (n + 1) c_10) rfl rfl ?_
 refine WL.nil (thn_n (WP.seq (WP.block ?_)))
 have h_13 := h_12.up J1
 refine WP.loopG (G := Nat × Option Addr × Nat) [3, 10, 11, 12, 13, 14, 15, 16] (fun (z, ra, rc) => [(3, (.slice ra (n + 1 + z) rc))]) (fun (z, ra, rc) m w1 => HP w w1 [.row ra (n + 1 + z) rc 5 1 (((bs ++ ([128] : List UInt8)) ++ List.replicate z (0 : UInt8)).map vu8), .blk b_6 .nw 5 [(1, ([128] : List UInt8).map vu8)], .view a (bs.map vu8)] ∧ (z ≤ (119 - n % 64) % 64) ∧ m = 64 - z) ⟨(0, a_9, c_10), _, ⟨rfl, trivial⟩, (by rw [List.replicate_zero, List.append_nil]; exact h_13), (by omega), rfl⟩ ?_
 rintro ⟨z, ra, rc⟩ m_16 J_17 w_14 ⟨h_15, hz, rfl⟩
 refine WP.seq (WP.seq (WP.reg ?_))
 refine qM (.slice ra (n + 1 + z) rc) rfl rfl (qV rfl (R.lenS (a := ra) (m := n + 1 + z) rfl rfl Try.underlying37) (qV rfl (R.bin rfl rfl (bi_rem (c := (((n + 1 + z) % 64 : Nat) : Int)) (Int.natCast_nonneg _) (by omega) (by first | omega | rfl))) (qV rfl (R.bin rfl rfl (bi_neq (r := decide (((((n + 1 + z) % 64 : Nat) : Int) : Int) ≠ 56)) rfl)) ?_)))
 refine WL.nil (thn_n ?_)
 refine WP.cond (b := decide (((((n + 1 + z) % 64 : Nat) : Int) : Int) ≠ 56)) rfl (fun c_18 => ?_) (fun c_18 => ?_)
 ·have p_19 := of_decide_eq_true c_18
  refine WP.skip (thn_n (WP.block (WP.reg ?_)))
  refine qM (.slice ra (n + 1 + z) rc) rfl rfl ?_
  refine WL.buildSl (vs := [(0, (vu8 0))]) (cs := ([0] : List UInt8).map vu8) h_15 Try.underlying37 Try.sizeOf5 (zv Try.typeInfo5 rfl) rfl rfl (by kernel_rfl) rfl (one_u8 _) rfl rfl (fun b_20 w_21 h_22 => ?_)
  refine WL.append (km := n + 1 + z + 1) (xs := ((bs ++ ([128] : List UInt8)) ++ List.replicate z (0 : UInt8)).map vu8) (ys := ([0] : List UInt8).map vu8) (zs := (((bs ++ ([128] : List UInt8)) ++ List.replicate z (0 : UInt8)) ++ ([0] : List UInt8)).map vu8) h_22 rfl rfl el37 (viewB (h_22.ok _ M0) Sg.h) ((len_map (rfl : List.length ([0] : List UInt8) = 1)).trans (Nat.mul_one _).symm) (one_u8 _) (by simp only [List.map_append, List.map_nil]) (by omega) (by omega) (by omega) (fun _ _ => Y1) rfl (fun a_23 c_24 w_25 h_26 => ?_)
  refine qA (.slice a_23 (n + 1 + z + 1) c_24) rfl rfl ?_
  refine WL.nil (inb_n (thn_n ?_))
  have h_30 := (((h_26.drop rfl).up J2).up J2).up J2
  rw [List.append_assoc, zero_snoc] at h_30
  exact ⟨(z + 1, a_23, c_24), _, (by omega), (U4 rfl rfl rfl rfl (U4 rfl rfl rfl rfl (Ag.updL rfl (Ag.mix _ _ _)))), ⟨rfl, trivial⟩, h_30, (by omega), rfl⟩
 ·have p_31 := of_decide_eq_false c_18
  refine WP.exit (thn_x (thn_x (inb_hit (thn_n (WP.seq (WP.reg ?_))))))
  refine qM (.slice a n cap) rfl rfl (qV rfl (R.lenS (a := a) (m := n) rfl rfl Try.underlying37) (qV rfl (R.conv (b := ((UInt64.ofNat n) : UInt64).toNat) rfl Try.underlying3 Try.underlying28 (w64_nat n)) (qV rfl (R.bin (v := (vu64 (UInt64.ofNat (n * 8)))) rfl rfl ((b64_mul (UInt64.ofNat n) 8).trans (congrArg (fun x : UInt64 => some (vu64 x)) (mul8 n)))) (qA (vu64 (UInt64.ofNat (n * 8))) rfl rfl ?_))))
  refine WL.nil (thn_n (WP.seq (WP.seq (WP.reg ?_))))
  refine qA (vi 7) rfl rfl ?_
  refine WL.nil (thn_n (WP.block ?_))
  have hz2 : z = (119 - n % 64) % 64 := by omega
  refine WP.loopG (G := Nat × Option Addr × Nat) [3, 5, 21, 22, 23, 24, 25, 26, 27, 28, 29, 30, 31, 32, 33] (fun (j, ra2, rc2) => [(3, (.slice ra2 (n + 1 + z + j) rc2)), (5, (vi (7 - (j : Int))))]) (fun (j, ra2, rc2) m w1 => HP w w1 [.row ra2 (n + 1 + z + j) rc2 5 1 ((((bs ++ ([128] : List UInt8)) ++ List.replicate z (0 : UInt8)) ++ ((leN 8 (UInt64.ofNat (n * 8)).toNat).reverse).take j).map vu8), .blk b_6 .nw 5 [(1, ([128] : List UInt8).map vu8)], .view a (bs.map vu8)] ∧ (j ≤ 8) ∧ m = 8 - j) ⟨(0, ra, rc), _, ⟨rfl, rfl, trivial⟩, (by rw [List.take_zero, List.append_nil]; exact h_15), (by omega), rfl⟩ ?_
  rintro ⟨j, ra2, rc2⟩ m_34 J_35 w_32 ⟨h_33, hj, rfl⟩
  have ek : j < 8 → (UInt64.ofNat (8 * (7 - j))).toNat = 8 * (7 - j) := fun _ => nat64 (by omega)
  refine WP.seq (WP.seq (WP.reg ?_))
  refine qM (vi (7 - (j : Int))) rfl rfl (qV rfl (R.bin rfl rfl (bi_geq (r := decide ((7 - (j : Int) : Int) ≥ 0)) rfl)) ?_)
  refine WL.nil (thn_n ?_)
  refine WP.cond (b := decide ((7 - (j : Int) : Int) ≥ 0)) rfl (fun c_36 => ?_) (fun c_36 => ?_)
  ·have p_37 := of_decide_eq_true c_36
   refine WP.skip (thn_n (WP.seq (WP.block (WP.reg ?_))))
   refine qM (.slice ra2 (n + 1 + z + j) rc2) rfl rfl (qM (vu64 (UInt64.ofNat (n * 8))) rfl rfl (qV rfl (R.move (v := (vn (7 - j))) (congrArg vi (show (7 : Int) - (j : Int) = ((7 - j : Nat) : Int) by omega))) (qV rfl (R.bin rfl rfl (bi_mul (c := ((8 * (7 - j) : Nat) : Int)) (by omega) (by omega))) (qV rfl (R.conv (b := ((UInt64.ofNat (8 * (7 - j))) : UInt64).toNat) rfl Try.underlying3 Try.underlying168 (w64_nat (8 * (7 - j)))) (qV rfl (R.binR (v := vu64 (shr64 (UInt64.ofNat (n * 8)) ((UInt64.ofNat (8 * (7 - j))).toNat))) rfl rfl (run_shr64 _ _ _ (UInt64.ofNat (n * 8)) _ ((UInt64.ofNat (8 * (7 - j))).toNat))) (qV rfl (R.conv (b := ((UInt8.ofNat ((shr64 (UInt64.ofNat (n * 8)) ((UInt64.ofNat (8 * (7 - j))).toNat)).toNat)) : UInt8).toNat) rfl Try.underlying28 Try.underlying5 (w8_nat ((shr64 (UInt64.ofNat (n * 8)) ((UInt64.ofNat (8 * (7 - j))).toNat)).toNat))) ?_))))))
   refine WL.buildSl (vs := [(0, (vu8 (UInt8.ofNat ((shr64 (UInt64.ofNat (n * 8)) ((UInt64.ofNat (8 * (7 - j))).toNat)).toNat))))]) (cs := ([UInt8.ofNat ((shr64 (UInt64.ofNat (n * 8)) ((UInt64.ofNat (8 * (7 - j))).toNat)).toNat)] : List UInt8).map vu8) h_33 Try.underlying37 Try.sizeOf5 (zv Try.typeInfo5 rfl) rfl rfl (by kernel_rfl) rfl (one_u8 _) rfl rfl (fun b_38 w_39 h_40 => ?_)
   refine WL.append (km := n + 1 + z + j + 1) (xs := (((bs ++ ([128] : List UInt8)) ++ List.replicate z (0 : UInt8)) ++ ((leN 8 (UInt64.ofNat (n * 8)).toNat).reverse).take j).map vu8) (ys := ([UInt8.ofNat ((shr64 (UInt64.ofNat (n * 8)) ((UInt64.ofNat (8 * (7 - j))).toNat)).toNat)] : List UInt8).map vu8) (zs := ((((bs ++ ([128] : List UInt8)) ++ List.replicate z (0 : UInt8)) ++ ((leN 8 (UInt64.ofNat (n * 8)).toNat).reverse).take j) ++ ([UInt8.ofNat ((shr64 (UInt64.ofNat (n * 8)) ((UInt64.ofNat (8 * (7 - j))).toNat)).toNat)] : List UInt8)).map vu8) h_40 rfl rfl el37 (viewB (h_40.ok _ M0) Sg.h) ((len_map (rfl : List.length ([UInt8.ofNat ((shr64 (UInt64.ofNat (n * 8)) ((UInt64.ofNat (8 * (7 - j))).toNat)).toNat)] : List UInt8) = 1)).trans (Nat.mul_one _).symm) (one_u8 _) (by simp only [List.map_append, List.map_nil]) (by omega) (by omega) (by omega) (fun _ _ => Y1) rfl (fun a_41 c_42 w_43 h_44 => ?_)
   refine qA (.slice a_41 (n + 1 + z + j + 1) c_42) rfl rfl ?_
   refine WL.nil (inb_n (thn_n (WP.reg ?_)))
   refine qM (vi (7 - (j : Int))) rfl rfl (qV rfl (R.bin rfl rfl (bi_sub (c := (7 - (j : Int)) - 1) (by omega) (by omega))) (qA (vi ((7 - (j : Int)) - 1)) rfl rfl ?_))
   refine WL.nil (thn_n ?_)
   have h_48 := (((h_44.drop rfl).up J2).up J2).up J2
   rw [ek (by omega), List.append_assoc, rev8_snoc (by omega)] at h_48
   exact ⟨(j + 1, a_41, c_42), _, (by omega), (Ag.upd rfl (U2 rfl rfl (U4 rfl rfl rfl rfl (U4 rfl rfl rfl rfl (U4 rfl rfl rfl rfl (Ag.updL rfl (Ag.mix _ _ _))))))), ⟨rfl, congrArg vi (by omega), trivial⟩, h_48, (by omega), rfl⟩
  ·have p_49 := of_decide_eq_false c_36
   refine WP.exit (thn_x (thn_x (inb_hit (thn_n (WP.seq (WP.reg ?_))))))
   refine qM (.slice ra2 (n + 1 + z + j) rc2) rfl rfl (qA (.slice ra2 (n + 1 + z + j) rc2) rfl rfl ?_)
   refine WL.nil (thn_n (WP.ret ?_))
   refine ret_of Try.results127 (RV.tmp (v := (.slice ra2 (n + 1 + z + j) rc2)) rfl RV.nil) ?_
   have hj8 : j = 8 := by omega
   subst hj8
   have es := pad_R (z := z) hl hz2 (by omega)
   have hp2 := padded_len2 bs
   rw [hl] at hp2
   have el : n + 1 + z + 8 = (padded bs).length := by omega
   have hown := h_33.own M0
   rw [es, el] at hown
   exact ⟨_, _, by rw [el]; rfl, h_33.chgS, hown⟩
end Go.Proofs.Ytnhppjimimhlkaa

namespace Go.Proofs.Ytnhppjimimhlkaa
open Go.Vc Go.Sh Go.RowKit
set_option maxRecDepth 20000
theorem pl176 : ∀ fs, Try.prog.underlying 176 = some (.struct fs) → Places Try.prog fs [(0, 64), (64, 8), (72, 1), (73, 1), (74, 1)] := by
 intro fs h w; rw [Try.underlying176] at h; cases h; simp
theorem c_New  (w : World) :
  Cs Try.prog 97 [].toArray w (fun v w1 => ∃ b, v = .pointer (some ⟨b, 0, none⟩) ∧ Chg w w1 [] ∧ w.heap.size ≤ b ∧ HashAt w.heap.size w1 b 176 []) := by
 refine Cs.of (n := 11) (args := []) Try.func97 rfl rfl rfl ?_
 have h_0 := HP.init w
 refine WP.seq (WP.reg ?_)
 refine qA (.pointer none) rfl rfl ?_
 refine WL.nil (thn_n (WP.seq (WP.reg ?_)))
 refine WL.call Try.call108 rfl rfl (c_tables  _ ) rfl ?_
 rintro _ w_2 ⟨rfl, hc_1⟩
 have h_3 := h_0.same hc_1
 refine qM (.tuple [(.agg ⟨kL.map vu32⟩), (.agg ⟨hL.map vu32⟩)].toArray) rfl rfl (qV rfl (R.extract rfl rfl) (qV rfl (R.extract rfl rfl) ?_))
 refine WL.alloc (segs := [(64, (List.replicate 64 (0 : UInt32)).map vu32)]) h_3 (zv Try.typeInfo171 rfl) rfl (SsOk.cons (SOk.u32 lr) SsOk.nil) rfl (fun b_4 w_5 h_6 => ?_)
 refine WL.alloc (segs := [(8, (List.replicate 8 (0 : UInt32)).map vu32)]) h_6 (zv Try.typeInfo172 rfl) rfl (SsOk.cons (SOk.u32 lr) SsOk.nil) rfl (fun b_7 w_8 h_9 => ?_)
 refine WL.storeA (b := b_4) (off := 0) [] [(64, (List.replicate 64 (0 : UInt32)).map vu32)] [(64, kL.map vu32)] [] (ys := kL.map vu32) h_9 rfl rfl Try.sizeOf171 Y1 (by decide) rfl rfl rfl rfl rfl rfl (SsOk.cons (SOk.u32 kL_len) SsOk.nil) (fun w_10 h_11 => ?_)
 refine WL.storeA (b := b_7) (off := 0) [] [(8, (List.replicate 8 (0 : UInt32)).map vu32)] [(8, hL.map vu32)] [] (ys := hL.map vu32) h_11 rfl rfl Try.sizeOf172 At.h (by decide) rfl rfl rfl rfl rfl rfl (SsOk.cons (SOk.u32 hL_len) SsOk.nil) (fun w_12 h_13 => ?_)
 refine WL.nil (thn_n (WP.seq (WP.reg ?_)))
 refine qV rfl (R.loadA (b := b_4) (off := 0) [] [(64, kL.map vu32)] [] (cs := kL.map vu32) rfl Try.isAgg171 Try.sizeOf171 (h_13.ok _ M1) rfl rfl rfl rfl) (qV rfl (R.loadA (b := b_7) (off := 0) [] [(8, hL.map vu32)] [] (cs := hL.map vu32) rfl Try.isAgg172 Try.sizeOf172 (h_13.ok _ M0) rfl rfl rfl rfl) (qV rfl (R.buildS (pl := [(0, 64), (64, 8), (72, 1), (73, 1), (74, 1)]) (zs := [(64, (List.replicate 64 (0 : UInt32)).map vu32), (8, (List.replicate 8 (0 : UInt32)).map vu32), (1, [(.slice none 0 0)]), (1, [(vi 0)]), (1, [(.bool false)])]) (vs := [(0, (.agg ⟨kL.map vu32⟩)), (1, (.agg ⟨hL.map vu32⟩)), (4, (.bool true))]) (out := [(64, kL.map vu32), (8, hL.map vu32), (1, [(.slice none 0 0)]), (1, [(vi 0)]), (1, [(.bool true)])]) (cs := flat [(64, kL.map vu32), (8, hL.map vu32), (1, [(.slice none 0 0)]), (1, [(vi 0)]), (1, [(.bool true)])]) Try.underlying176 (zv Try.typeInfo176 rfl) rfl (SsOk.cons (SOk.u32 lr) (SsOk.cons (SOk.u32 lr) (SsOk.cons (SOk.v rfl) (SsOk.cons (SOk.v rfl) (SsOk.cons (SOk.v rfl) SsOk.nil))))) (pl176 _ Try.underlying176) rfl (FillR.cons [] [(64, (List.replicate 64 (0 : UInt32)).map vu32)] [(64, kL.map vu32)] [(8, (List.replicate 8 (0 : UInt32)).map vu32), (1, [(.slice none 0 0)]), (1, [(vi 0)]), (1, [(.bool false)])] rfl rfl rfl rfl (SsOk.cons (SOk.u32 kL_len) SsOk.nil) rfl rfl rfl (FillR.cons [(64, kL.map vu32)] [(8, (List.replicate 8 (0 : UInt32)).map vu32)] [(8, hL.map vu32)] [(1, [(.slice none 0 0)]), (1, [(vi 0)]), (1, [(.bool false)])] rfl rfl rfl rfl (SsOk.cons (SOk.u32 hL_len) SsOk.nil) rfl rfl rfl (FillR.cons [(64, kL.map vu32), (8, hL.map vu32), (1, [(.slice none 0 0)]), (1, [(vi 0)])] [(1, [(.bool false)])] [(1, [(.bool true)])] [] rfl rfl rfl rfl (SsOk.cons (SOk.v rfl) SsOk.nil) rfl rfl rfl FillR.nil))) rfl) ?_))
 refine WL.box (v := (.agg ⟨flat [(64, kL.map vu32), (8, hL.map vu32), (1, [(.slice none 0 0)]), (1, [(vi 0)]), (1, [(.bool true)])]⟩)) (segs := [(64, kL.map vu32), (8, hL.map vu32), (1, [(.slice none 0 0)]), (1, [(vi 0)]), (1, [(.bool true)])]) h_13 rfl rfl (SsOk.cons (SOk.u32 kL_len) (SsOk.cons (SOk.u32 hL_len) (SsOk.cons (SOk.v rfl) (SsOk.cons (SOk.v rfl) (SsOk.cons (SOk.v rfl) SsOk.nil))))) rfl (fun b_15 w_16 h_17 => ?_)
 refine qA (pO b_15 0) rfl rfl ?_
 refine WL.nil (thn_n (WP.ret ?_))
 refine ret_of Try.results97 (RV.tmp (v := (pO b_15 0)) rfl RV.nil) ?_
 exact ⟨_, rfl, h_17.chgS, h_17.newB M0, none, 0, 0, h_17.cells M0, View.nil _ _, rfl, Nat.le_refl _, fun x hx => by cases hx⟩

theorem c_there_true (kk hh : List UInt32) (hkk : kk.length = 64) (hhl : hh.length = 8) (ra : Option Addr) (rn rc nn : Nat) (bc : Nat) (w : World) (hcb : (Ent.blk bc .ro 176 [(64, kk.map vu32), (8, hh.map vu32), (1, [(.slice ra rn rc)]), (1, [(vi ((nn : Nat) : Int))]), (1, [(.bool true)])]).ok w.heap.size w) :
  Cs Try.prog 109 [(.pointer (some ⟨bc, 0, none⟩))].toArray w (fun v w1 => v = (.bool true) ∧ Chg w w1 []) := by
 refine Cs.of (n := 11) (args := [(pO bc 0)]) Try.func109 rfl rfl rfl ?_
 have h_0 := HP.init w
 have h_00 := h_0.old hcb (fun f hf => by cases hf)
 refine WP.seq (WP.reg ?_)
 refine qA (.bool false) rfl rfl ?_
 refine WL.nil (thn_n (WP.seq (WP.reg ?_)))
 refine qM (pO bc 0) rfl rfl (qV rfl (R.neNilP rfl rfl Try.underlying159) (qM (.bool true) rfl rfl ?_))
 refine WL.want rfl rfl ?_
 refine qM (pO bc 0) rfl rfl ?_
 refine WL.want rfl rfl ?_
 refine qV rfl (R.nilCheck rfl) ?_
 refine WL.want rfl rfl ?_
 refine qV rfl (R.fieldAddr (b := bc) (off := 0) (off' := 74) rfl Try.underlying176 rfl Try.sizeOf4 rfl rfl) ?_
 refine WL.want rfl rfl ?_
 refine qV rfl (R.load1 (b := bc) (off := 74) (v := (.bool true)) rfl Try.isAgg4 (h_00.ok _ M0) (Sg.t rfl (Sg.t rfl (Sg.t rfl (Sg.t rfl Sg.h))))) (qV rfl (R.pickT (v := (.bool true)) rfl rfl) (qA (.bool true) rfl rfl ?_))
 refine WL.nil (thn_n (WP.ret ?_))
 refine ret_of Try.results109 (RV.tmp (v := (.bool true)) rfl RV.nil) ?_
 exact ⟨rfl, h_00.chgS⟩

theorem c_Copy (mg : List UInt8) (ra : Option Addr) (rn rc : Nat) (hrn : (rsL mg).length = rn) (hrc : rn ≤ rc) (bc : Nat) (hm : mg.length ≤ 1000000000000) (w : World) (hvr : View w ra ((rsL mg).map vu8)) (hcb : (Ent.blk bc .ro 176 [(64, kL.map vu32), (8, (stH mg).map vu32), (1, [(.slice ra rn rc)]), (1, [(vi ((mg.length : Nat) : Int))]), (1, [(.bool true)])]).ok w.heap.size w) :
  Cs Try.prog 111 [(.pointer (some ⟨bc, 0, none⟩))].toArray w (fun v w1 => ∃ b, v = .pointer (some ⟨b, 0, none⟩) ∧ Chg w w1 [] ∧ w.heap.size ≤ b ∧ HashAt w.heap.size w1 b 176 mg) := by
 refine Cs.of (n := 16) (args := [(pO bc 0)]) Try.func111 rfl rfl rfl ?_
 have h_0 := HP.init w
 have h_01 := h_0.oldV (View.arg hvr) rfl (by simp [Ent.mut])
 have h_00 := h_01.oldV hcb rfl (by simp [Ent.mut])
 have hrl := rsL_len mg
 refine WP.seq (WP.reg ?_)
 refine qA (.pointer none) rfl rfl ?_
 refine WL.nil (thn_n (WP.seq (WP.seq (WP.reg ?_))))
 refine qM (pO bc 0) rfl rfl ?_
 refine WL.call Try.call109 rfl rfl (c_there_true kL (stH mg) kL_len (stH_len mg) ra rn rc mg.length bc _ (h_00.argR M0)) rfl ?_
 rintro _ w_2 ⟨rfl, hc_1⟩
 have h_3 := h_00.same hc_1
 refine qV rfl (R.not (b := true) rfl) ?_
 refine WL.nil (thn_n ?_)
 refine WP.condF rfl ?_
 refine WP.skip (thn_n (WP.seq (WP.reg ?_)))
 refine qM (pO bc 0) rfl rfl (qV rfl (R.nilCheck rfl) (qV rfl (R.loadA (b := bc) (off := 0) [] [(64, kL.map vu32), (8, (stH mg).map vu32), (1, [(.slice ra rn rc)]), (1, [(vn (mg.length))]), (1, [(.bool true)])] [] (cs := flat [(64, kL.map vu32), (8, (stH mg).map vu32), (1, [(.slice ra rn rc)]), (1, [(vn (mg.length))]), (1, [(.bool true)])]) rfl Try.isAgg176 Try.sizeOf176 (h_3.ok _ M0) rfl rfl rfl rfl) ?_))
 refine WL.alloc (segs := [(64, (List.replicate 64 (0 : UInt32)).map vu32), (8, (List.replicate 8 (0 : UInt32)).map vu32), (1, [(.slice none 0 0)]), (1, [(vi 0)]), (1, [(.bool false)])]) h_3 (zv Try.typeInfo176 rfl) rfl (SsOk.cons (SOk.u32 lr) (SsOk.cons (SOk.u32 lr) (SsOk.cons (SOk.v rfl) (SsOk.cons (SOk.v rfl) (SsOk.cons (SOk.v rfl) SsOk.nil))))) rfl (fun b_4 w_5 h_6 => ?_)
 refine WL.storeA (b := b_4) (off := 0) [] [(64, (List.replicate 64 (0 : UInt32)).map vu32), (8, (List.replicate 8 (0 : UInt32)).map vu32), (1, [(.slice none 0 0)]), (1, [(vi 0)]), (1, [(.bool false)])] [(64, kL.map vu32), (8, (stH mg).map vu32), (1, [(.slice ra rn rc)]), (1, [(vn (mg.length))]), (1, [(.bool true)])] [] (ys := flat [(64, kL.map vu32), (8, (stH mg).map vu32), (1, [(.slice ra rn rc)]), (1, [(vn (mg.length))]), (1, [(.bool true)])]) h_6 rfl rfl Try.sizeOf176 At.h (by decide) rfl rfl rfl rfl rfl rfl (SsOk.cons (SOk.u32 kL_len) (SsOk.cons (SOk.u32 (stH_len mg)) (SsOk.cons (SOk.v rfl) (SsOk.cons (SOk.v rfl) (SsOk.cons (SOk.v rfl) SsOk.nil))))) (fun w_7 h_8 => ?_)
 refine WL.nil (thn_n (WP.seq (WP.reg ?_)))
 refine qM (pO bc 0) rfl rfl (qV rfl (R.nilCheck rfl) (qV rfl (R.fieldAddr (b := bc) (off := 0) (off' := 72) rfl Try.underlying176 rfl Try.sizeOf37 rfl rfl) (qV rfl (R.load1 (b := bc) (off := 72) (v := (.slice ra rn rc)) rfl Try.isAgg37 (h_8.ok _ M1) (Sg.t rfl (Sg.t rfl Sg.h))) ?_)))
 refine WL.call Try.call58 rfl rfl (c_Clone ra rn rc (rsL mg) hrn (by omega) _ (viewV (h_8.ok _ M2))) rfl ?_
 rintro _ w_11 ⟨a_9, cap_10, rfl, hc_12, ho_13⟩
 have h_14 := h_8.gotRow hc_12 ho_13
 refine qV rfl (R.fieldAddr (b := b_4) (off := 0) (off' := 72) rfl Try.underlying176 rfl Try.sizeOf37 rfl rfl) ?_
 refine WL.store1 (b := b_4) (off := 72) (v := (.slice a_9 rn cap_10)) h_14 rfl rfl Try.sizeOf37 rfl Y1 (by decide) (Sg.t rfl (Sg.t rfl Sg.h)) (fun w_15 h_16 => ?_)
 refine WL.nil (thn_n (WP.seq (WP.reg ?_)))
 refine qA (pO b_4 0) rfl rfl ?_
 refine WL.nil (thn_n (WP.ret ?_))
 refine ret_of Try.results111 (RV.tmp (v := (pO b_4 0)) rfl RV.nil) ?_
 exact ⟨_, rfl, h_16.chgS, h_16.newB M1, _, _, _, h_16.cells M1, Own.view (h_16.own M0), hrn, (h_16.own M0).2.2.1, fun x hx => ⟨Own.blk (h_16.own M0) x hx, Sep_offRow (h_16.ne (i := 0) (j := 1) rfl rfl rfl) x hx⟩⟩

theorem c_Write (mg : List UInt8) (ra : Option Addr) (rn rc : Nat) (hrn : (rsL mg).length = rn) (hrc : rn ≤ rc) (bc : Nat) (hm : mg.length ≤ 1000000000000) (a : Option Addr) (n cap : Nat) (bs : List UInt8) (hl : bs.length = n) (hn : n ≤ 1000000000000) (hcap : n ≤ cap) (w : World) (hvr : View w ra ((rsL mg).map vu8)) (hv : View w a (bs.map vu8)) (hcb : (Ent.blk bc .ar 176 [(64, kL.map vu32), (8, (stH mg).map vu32), (1, [(.slice ra rn rc)]), (1, [(vi ((mg.length : Nat) : Int))]), (1, [(.bool true)])]).ok w.heap.size w) (ho1 : ∀ x ∈ (Ent.view ra ((rsL mg).map vu8)).blocks, x ≠ bc) (ho2 : ∀ x ∈ (Ent.view a (bs.map vu8)).blocks, x ≠ bc) :
  Cs Try.prog 98 [(.pointer (some ⟨bc, 0, none⟩)), (.slice a n cap)].toArray w (fun v w1 => v = vi 0 ∧ Chg w w1 [bc] ∧ HashAt w.heap.size w1 bc 176 (mg ++ bs)) := by
 refine Cs.of (n := 58) (args := [(pO bc 0), (.slice a n cap)]) Try.func98 rfl rfl rfl ?_
 have h_0 := HP.init w
 have h_00 := HP_three hcb hvr hv ho1 ho2
 have hrl := rsL_len mg
 refine WP.seq (WP.reg ?_)
 refine qA (vi 0) rfl rfl ?_
 refine WL.nil (thn_n (WP.seq (WP.seq (WP.reg ?_))))
 refine qM (pO bc 0) rfl rfl ?_
 refine WL.call Try.call109 rfl rfl (c_there_true kL (stH mg) kL_len (stH_len mg) ra rn rc mg.length bc _ (h_00.argR M0)) rfl ?_
 rintro _ w_2 ⟨rfl, hc_1⟩
 have h_3 := h_00.same hc_1
 refine qV rfl (R.not (b := true) rfl) ?_
 refine WL.nil (thn_n ?_)
 refine WP.condF rfl ?_
 refine WP.skip (thn_n (WP.seq (WP.reg ?_)))
 refine qM (pO bc 0) rfl rfl (qV rfl (R.nilCheck rfl) (qV rfl (R.fieldAddr (b := bc) (off := 0) (off' := 73) rfl Try.underlying176 rfl Try.sizeOf3 rfl rfl) (qV rfl (R.load1 (b := bc) (off := 73) (v := (vn (mg.length))) rfl Try.isAgg3 (h_3.ok _ M0) (Sg.t rfl (Sg.t rfl (Sg.t rfl Sg.h)))) (qM (.slice a n cap) rfl rfl (qV rfl (R.lenS (a := a) (m := n) rfl rfl Try.underlying37) (qV rfl (R.bin rfl rfl (bi_add (c := ((mg.length + n : Nat) : Int)) (by omega) (by omega))) (qV rfl (R.nilCheck rfl) (qV rfl (R.fieldAddr (b := bc) (off := 0) (off' := 73) rfl Try.underlying176 rfl Try.sizeOf3 rfl rfl) ?_))))))))
 refine WL.store1 (b := bc) (off := 73) (v := (vn (mg.length + n))) h_3 rfl rfl Try.sizeOf3 rfl At.h (by decide) (Sg.t rfl (Sg.t rfl (Sg.t rfl Sg.h))) (fun w_4 h_5 => ?_)
 refine WL.nil (thn_n (WP.seq (WP.reg ?_)))
 refine qM (pO bc 0) rfl rfl (qM (pO bc 0) rfl rfl (qV rfl (R.nilCheck rfl) (qV rfl (R.fieldAddr (b := bc) (off := 0) (off' := 72) rfl Try.underlying176 rfl Try.sizeOf37 rfl rfl) (qV rfl (R.load1 (b := bc) (off := 72) (v := (.slice ra rn rc)) rfl Try.isAgg37 (h_5.ok _ M0) (Sg.t rfl (Sg.t rfl Sg.h))) (qM (.slice a n cap) rfl rfl ?_)))))
 refine WL.buildSl (vs := [(0, (.slice ra rn rc)), (1, (.slice a n cap))]) (cs := [(.slice ra rn rc), (.slice a n cap)]) h_5 Try.underlying36 Try.sizeOf37 (zv Try.typeInfo37 rfl) rfl rfl (by kernel_rfl) rfl (by simp [Value.oneCell']) rfl rfl (fun b_6 w_7 h_8 => ?_)
 refine WL.call Try.call86 rfl rfl (c_Concat (some ⟨b_6, 0, none⟩) 2 2 [(.slice ra rn rc), (.slice a n cap)] [rsL mg, bs] rfl (by rw [wr_r, List.length_drop, List.length_append]; omega) (by omega) _ (viewB (h_8.ok _ M0) Sg.h) (Sls.cons hrn (by omega) (viewV (h_8.ok _ M2)) (Sls.cons hl (by omega) (viewV (h_8.ok _ M3)) Sls.nil))) rfl ?_
 rintro _ w_11 ⟨a_9, cap_10, rfl, hc_12, ho_13⟩
 have h_14 := h_8.gotRow hc_12 ho_13
 refine qV rfl (R.nilCheck rfl) (qV rfl (R.fieldAddr (b := bc) (off := 0) (off' := 72) rfl Try.underlying176 rfl Try.sizeOf37 rfl rfl) ?_)
 refine WL.store1 (b := bc) (off := 72) (v := (.slice a_9 ([rsL mg, bs].flatten.length) cap_10)) h_14 rfl rfl Try.sizeOf37 rfl Y2 (by decide) (Sg.t rfl (Sg.t rfl Sg.h)) (fun w_15 h_16 => ?_)
 refine WL.nil (thn_n (WP.seq (WP.block ?_)))
 have hf_18 := Own.blk (h_16.own M0)
 have hq_19 := (h_16.own M0).2.2.1
 have h_17 := h_16.rowView
 have h_26 := ((((((h_17.up J1).drop rfl).up J2).drop rfl).up J2).up J1).up J2
 have hbl : (mg ++ bs).length = mg.length + n := by rw [List.length_append, hl]
 rw [wr_0 mg bs, wr_r mg bs] at h_26
 rw [wr_r mg bs] at hf_18 hq_19
 refine WP.loopG (G := Nat × Option Addr × Nat × Nat) [27, 28, 29, 30, 31, 32, 33, 34, 35, 36, 37, 38, 39, 40, 41, 42, 43, 44, 45, 46, 47, 48, 49, 50, 51, 52, 53, 54, 55, 56, 57] (fun (k, xa, xn, xc) => []) (fun (k, xa, xn, xc) m w1 => HP w w1 [.blk bc .ar 176 [(64, kL.map vu32), (8, (hs kL hL (mg ++ bs) k).map vu32), (1, [(.slice xa xn xc)]), (1, [(vn (mg.length + n))]), (1, [(.bool true)])], .view xa (((mg ++ bs).drop (64 * k)).map vu8), .view a (bs.map vu8)] ∧ (((mg ++ bs).drop (64 * k)).length = xn) ∧ (xn ≤ xc) ∧ (64 * k ≤ mg.length + n) ∧ (∀ b ∈ (Ent.view xa (((mg ++ bs).drop (64 * k)).map vu8)).blocks, w.heap.size ≤ b) ∧ m = mg.length + n - 64 * k) ⟨(mg.length / 64, a_9, _, _), _, trivial, h_26, rfl, hq_19, (by omega), hf_18, rfl⟩ ?_
 rintro ⟨k, xa, xn, xc⟩ m_29 J_30 w_27 ⟨h_28, hxn, hxc, hk, hxf, rfl⟩
 have hdl : xn = mg.length + n - 64 * k := by rw [← hxn, List.length_drop, hbl]
 refine WP.seq (WP.seq (WP.reg ?_))
 refine qM (pO bc 0) rfl rfl (qV rfl (R.nilCheck rfl) (qV rfl (R.fieldAddr (b := bc) (off := 0) (off' := 72) rfl Try.underlying176 rfl Try.sizeOf37 rfl rfl) (qV rfl (R.load1 (b := bc) (off := 72) (v := (.slice xa xn xc)) rfl Try.isAgg37 (h_28.ok _ M0) (Sg.t rfl (Sg.t rfl Sg.h))) (qV rfl (R.lenS (a := xa) (m := xn) rfl rfl Try.underlying37) (qV rfl (R.bin rfl rfl (bi_geq (r := decide ((((xn : Nat) : Int) : Int) ≥ 64)) rfl)) ?_)))))
 refine WL.nil (thn_n ?_)
 refine WP.cond (b := decide ((((xn : Nat) : Int) : Int) ≥ 64)) rfl (fun c_31 => ?_) (fun c_31 => ?_)
 ·have p_32 := of_decide_eq_true c_31
  refine WP.skip (thn_n (WP.block (WP.seq ?_)))
  refine WP.cutG (G := Unit) [33, 34, 35, 36, 37, 38, 39, 40, 41, 42, 43, 44, 45, 46, 47, 48, 49] (fun _ => [(33, (pO bc 0)), (34, (pO bc 0)), (35, (pO bc 0)), (36, (pO bc 64)), (38, (pO bc 0)), (39, (pO bc 0)), (40, (pO bc 72)), (43, (pO bc 0)), (44, (pO bc 0)), (45, (pO bc 0)), (37, (.agg ⟨(hs kL hL (mg ++ bs) k).map vu32⟩)), (41, (.slice xa xn xc)), (42, (.slice (slA xa 0 xc 1) 64 xc)), (46, (.agg ⟨kL.map vu32⟩)), (47, (.agg ⟨(pressL kL (hs kL hL (mg ++ bs) k) ((((mg ++ bs).drop (64 * k)).drop 0).take 64)).map vu32⟩)), (48, (pO bc 0)), (49, (pO bc 64))]) (fun _ w1 => HP w w1 [.blk bc .ar 176 [(64, kL.map vu32), (8, (pressL kL (hs kL hL (mg ++ bs) k) ((((mg ++ bs).drop (64 * k)).drop 0).take 64)).map vu32), (1, [(.slice xa xn xc)]), (1, [(vn (mg.length + n))]), (1, [(.bool true)])], .view xa (((mg ++ bs).drop (64 * k)).map vu8), .view a (bs.map vu8)]) ?_ ?_
  ·refine WP.drawT (SL w.heap.size [.view xa (((mg ++ bs).drop (64 * k)).map vu8), .view a (bs.map vu8)]) (.q 0 (.q 1 (.q 2 (.q 3 (.q 5 (.q 6 (.q 7 (.q 10 (.q 11 (.q 12 (.s3 4 8 13 (.s2 8 13 (.q 9 (.s 13 (.s 14 (.q 15 (.q 16 (.s 17 .nil)))))) (.s 8 (.q 9 (.s 14 (.q 15 (.q 16 (.s 17 .nil))))))) (.q 9 (.s2 4 13 (.s 13 (.s 14 (.q 15 (.q 16 (.s 17 .nil))))) (.s 4 (.s 14 (.q 15 (.q 16 (.s 17 .nil))))))) (.s2 4 8 (.s 8 (.q 9 (.s 14 (.q 15 (.q 16 (.s 17 .nil)))))) (.q 9 (.s 4 (.s 14 (.q 15 (.q 16 (.s 17 .nil)))))))))))))))))) (by kernel_rfl) (by kernel_rfl) rfl (by kernel_rfl) (fun w_33 hc_35 => (SL.cons ((h_28.same hc_35).ok _ M1) (SL.cons ((h_28.same hc_35).ok _ M2) (SL.nil _ _)))) (fun w_33 hc_35 => ?_)
   have h_34 := h_28.same hc_35
   refine qT rfl rfl (fun wq hS => R.move (v := (pO bc 0)) rfl) ?_
   refine qT rfl rfl (fun wq hS => R.move (v := (pO bc 0)) rfl) ?_
   refine qT rfl rfl (fun wq hS => R.nilCheck rfl) ?_
   refine qT rfl rfl (fun wq hS => R.fieldAddr (b := bc) (off := 0) (off' := 64) rfl Try.underlying176 rfl Try.sizeOf172 rfl rfl) ?_
   refine qT rfl rfl (fun wq hS => R.move (v := (pO bc 0)) rfl) ?_
   refine qT rfl rfl (fun wq hS => R.nilCheck rfl) ?_
   refine qT rfl rfl (fun wq hS => R.fieldAddr (b := bc) (off := 0) (off' := 72) rfl Try.underlying176 rfl Try.sizeOf37 rfl rfl) ?_
   refine qT rfl rfl (fun wq hS => R.move (v := (pO bc 0)) rfl) ?_
   refine qT rfl rfl (fun wq hS => R.nilCheck rfl) ?_
   refine qT rfl rfl (fun wq hS => R.fieldAddr (b := bc) (off := 0) (off' := 0) rfl Try.underlying176 rfl Try.sizeOf171 rfl rfl) ?_
   refine WT.s3 ?_ ?_ ?_
   ·refine Op1.one rfl (Wn.no rfl) ?_
    refine qV rfl (R.loadA (b := bc) (off := 64) [(64, kL.map vu32)] [(8, (hs kL hL (mg ++ bs) k).map vu32)] [(1, [(.slice xa xn xc)]), (1, [(vn (mg.length + n))]), (1, [(.bool true)])] (cs := (hs kL hL (mg ++ bs) k).map vu32) rfl Try.isAgg172 Try.sizeOf172 (h_34.ok _ M0) rfl rfl rfl rfl) ?_
    refine WL.nil ?_
    refine ⟨(SL.cons (h_34.ok _ M1) (SL.cons (h_34.ok _ M2) (SL.nil _ _))), ?_⟩
    refine WT.s2 ?_ ?_
    ·refine Op1.one rfl (Wn.no rfl) ?_
     refine qV rfl (R.load1 (b := bc) (off := 72) (v := (.slice xa xn xc)) rfl Try.isAgg37 (h_34.ok _ M0) (Sg.t rfl (Sg.t rfl Sg.h))) ?_
     refine WL.nil ?_
     refine ⟨(SL.cons (h_34.ok _ M1) (SL.cons (h_34.ok _ M2) (SL.nil _ _))), ?_⟩
     refine qT rfl rfl (fun wq hS => R.sliceS (a := xa) (len := xn) (l := 0) (h := 64) rfl EvB.dflt (EvB.it (l := 64) rfl rfl) (by decide) (by omega) Try.underlying37 Try.sizeOf5) ?_
     refine WT.s (Op1.one rfl (Wn.no rfl) ?_)
     refine qV rfl (R.loadA (b := bc) (off := 0) [] [(64, kL.map vu32)] [(8, (hs kL hL (mg ++ bs) k).map vu32), (1, [(.slice xa xn xc)]), (1, [(vn (mg.length + n))]), (1, [(.bool true)])] (cs := kL.map vu32) rfl Try.isAgg171 Try.sizeOf171 (h_34.ok _ M0) rfl rfl rfl rfl) ?_
     refine WL.nil ?_
     refine ⟨(SL.cons (h_34.ok _ M1) (SL.cons (h_34.ok _ M2) (SL.nil _ _))), ?_⟩
     refine WT.s (Op1.one rfl (Wn.no rfl) ?_)
     refine WL.call Try.call110 rfl rfl (c_press (hs kL hL (mg ++ bs) k) kL (hs_len hL_len k) kL_len (slA xa 0 xc 1) xc ((((mg ++ bs).drop (64 * k)).drop 0).take 64) (subLen (K := xn) hxn (by omega) : List.length ((((mg ++ bs).drop (64 * k)).drop 0).take 64) = 64) (by omega) _ (View.slM (l := 0) (m := xc) (k := 64) (viewV (h_34.ok _ M1)) (by omega))) rfl ?_
     rintro _ w_37 ⟨rfl, hc_36⟩
     have h_38 := h_34.same hc_36
     refine WL.nil ?_
     refine ⟨(SL.cons (h_38.ok _ M1) (SL.cons (h_38.ok _ M2) (SL.nil _ _))), ?_⟩
     refine qT rfl rfl (fun wq hS => R.nilCheck rfl) ?_
     refine qT rfl rfl (fun wq hS => R.fieldAddr (b := bc) (off := 0) (off' := 64) rfl Try.underlying176 rfl Try.sizeOf172 rfl rfl) ?_
     refine WT.s (Op1.one rfl (Wn.no rfl) ?_)
     refine WL.storeA (b := bc) (off := 64) [(64, kL.map vu32)] [(8, (hs kL hL (mg ++ bs) k).map vu32)] [(8, (pressL kL (hs kL hL (mg ++ bs) k) ((((mg ++ bs).drop (64 * k)).drop 0).take 64)).map vu32)] [(1, [(.slice xa xn xc)]), (1, [(vn (mg.length + n))]), (1, [(.bool true)])] (ys := (pressL kL (hs kL hL (mg ++ bs) k) ((((mg ++ bs).drop (64 * k)).drop 0).take 64)).map vu32) h_38 rfl rfl Try.sizeOf172 At.h (by decide) rfl rfl rfl rfl rfl rfl (SsOk.cons (SOk.u32 (pressL_len ..)) SsOk.nil) (fun w_39 h_40 => ?_)
     refine WL.nil ?_
     refine ⟨(SL.cons (h_40.ok _ M1) (SL.cons (h_40.ok _ M2) (SL.nil _ _))), ?_⟩
     refine WT.nil (thn_n ?_)
     exact ⟨(), (Ag.upd rfl (U4 rfl rfl rfl rfl (U4 rfl rfl rfl rfl (U4 rfl rfl rfl rfl (U4 rfl rfl rfl rfl (Ag.refl _ _)))))), ⟨rfl, rfl, rfl, rfl, rfl, rfl, rfl, rfl, rfl, rfl, rfl, rfl, rfl, rfl, rfl, rfl, rfl, trivial⟩, h_40⟩
    ·refine Op1.one rfl (Wn.no rfl) ?_
     refine qV rfl (R.loadA (b := bc) (off := 0) [] [(64, kL.map vu32)] [(8, (hs kL hL (mg ++ bs) k).map vu32), (1, [(.slice xa xn xc)]), (1, [(vn (mg.length + n))]), (1, [(.bool true)])] (cs := kL.map vu32) rfl Try.isAgg171 Try.sizeOf171 (h_34.ok _ M0) rfl rfl rfl rfl) ?_
     refine WL.nil ?_
     refine ⟨(SL.cons (h_34.ok _ M1) (SL.cons (h_34.ok _ M2) (SL.nil _ _))), ?_⟩
     refine WT.s (Op1.one rfl (Wn.no rfl) ?_)
     refine qV rfl (R.load1 (b := bc) (off := 72) (v := (.slice xa xn xc)) rfl Try.isAgg37 (h_34.ok _ M0) (Sg.t rfl (Sg.t rfl Sg.h))) ?_
     refine WL.nil ?_
     refine ⟨(SL.cons (h_34.ok _ M1) (SL.cons (h_34.ok _ M2) (SL.nil _ _))), ?_⟩
     refine qT rfl rfl (fun wq hS => R.sliceS (a := xa) (len := xn) (l := 0) (h := 64) rfl EvB.dflt (EvB.it (l := 64) rfl rfl) (by decide) (by omega) Try.underlying37 Try.sizeOf5) ?_
     refine WT.s (Op1.one rfl (Wn.no rfl) ?_)
     refine WL.call Try.call110 rfl rfl (c_press (hs kL hL (mg ++ bs) k) kL (hs_len hL_len k) kL_len (slA xa 0 xc 1) xc ((((mg ++ bs).drop (64 * k)).drop 0).take 64) (subLen (K := xn) hxn (by omega) : List.length ((((mg ++ bs).drop (64 * k)).drop 0).take 64) = 64) (by omega) _ (View.slM (l := 0) (m := xc) (k := 64) (viewV (h_34.ok _ M1)) (by omega))) rfl ?_
     rintro _ w_42 ⟨rfl, hc_41⟩
     have h_43 := h_34.same hc_41
     refine WL.nil ?_
     refine ⟨(SL.cons (h_43.ok _ M1) (SL.cons (h_43.ok _ M2) (SL.nil _ _))), ?_⟩
     refine qT rfl rfl (fun wq hS => R.nilCheck rfl) ?_
     refine qT rfl rfl (fun wq hS => R.fieldAddr (b := bc) (off := 0) (off' := 64) rfl Try.underlying176 rfl Try.sizeOf172 rfl rfl) ?_
     refine WT.s (Op1.one rfl (Wn.no rfl) ?_)
     refine WL.storeA (b := bc) (off := 64) [(64, kL.map vu32)] [(8, (hs kL hL (mg ++ bs) k).map vu32)] [(8, (pressL kL (hs kL hL (mg ++ bs) k) ((((mg ++ bs).drop (64 * k)).drop 0).take 64)).map vu32)] [(1, [(.slice xa xn xc)]), (1, [(vn (mg.length + n))]), (1, [(.bool true)])] (ys := (pressL kL (hs kL hL (mg ++ bs) k) ((((mg ++ bs).drop (64 * k)).drop 0).take 64)).map vu32) h_43 rfl rfl Try.sizeOf172 At.h (by decide) rfl rfl rfl rfl rfl rfl (SsOk.cons (SOk.u32 (pressL_len ..)) SsOk.nil) (fun w_44 h_45 => ?_)
     refine WL.nil ?_
     refine ⟨(SL.cons (h_45.ok _ M1) (SL.cons (h_45.ok _ M2) (SL.nil _ _))), ?_⟩
     refine WT.nil (thn_n ?_)
     exact ⟨(), (Ag.upd rfl (U4 rfl rfl rfl rfl (U4 rfl rfl rfl rfl (U4 rfl rfl rfl rfl (U4 rfl rfl rfl rfl (Ag.refl _ _)))))), ⟨rfl, rfl, rfl, rfl, rfl, rfl, rfl, rfl, rfl, rfl, rfl, rfl, rfl, rfl, rfl, rfl, rfl, trivial⟩, h_45⟩
   ·refine Op1.one rfl (Wn.no rfl) ?_
    refine qV rfl (R.load1 (b := bc) (off := 72) (v := (.slice xa xn xc)) rfl Try.isAgg37 (h_34.ok _ M0) (Sg.t rfl (Sg.t rfl Sg.h))) ?_
    refine WL.nil ?_
    refine ⟨(SL.cons (h_34.ok _ M1) (SL.cons (h_34.ok _ M2) (SL.nil _ _))), ?_⟩
    refine qT rfl rfl (fun wq hS => R.sliceS (a := xa) (len := xn) (l := 0) (h := 64) rfl EvB.dflt (EvB.it (l := 64) rfl rfl) (by decide) (by omega) Try.underlying37 Try.sizeOf5) ?_
    refine WT.s2 ?_ ?_
    ·refine Op1.one rfl (Wn.no rfl) ?_
     refine qV rfl (R.loadA (b := bc) (off := 64) [(64, kL.map vu32)] [(8, (hs kL hL (mg ++ bs) k).map vu32)] [(1, [(.slice xa xn xc)]), (1, [(vn (mg.length + n))]), (1, [(.bool true)])] (cs := (hs kL hL (mg ++ bs) k).map vu32) rfl Try.isAgg172 Try.sizeOf172 (h_34.ok _ M0) rfl rfl rfl rfl) ?_
     refine WL.nil ?_
     refine ⟨(SL.cons (h_34.ok _ M1) (SL.cons (h_34.ok _ M2) (SL.nil _ _))), ?_⟩
     refine WT.s (Op1.one rfl (Wn.no rfl) ?_)
     refine qV rfl (R.loadA (b := bc) (off := 0) [] [(64, kL.map vu32)] [(8, (hs kL hL (mg ++ bs) k).map vu32), (1, [(.slice xa xn xc)]), (1, [(vn (mg.length + n))]), (1, [(.bool true)])] (cs := kL.map vu32) rfl Try.isAgg171 Try.sizeOf171 (h_34.ok _ M0) rfl rfl rfl rfl) ?_
     refine WL.nil ?_
     refine ⟨(SL.cons (h_34.ok _ M1) (SL.cons (h_34.ok _ M2) (SL.nil _ _))), ?_⟩
     refine WT.s (Op1.one rfl (Wn.no rfl) ?_)
     refine WL.call Try.call110 rfl rfl (c_press (hs kL hL (mg ++ bs) k) kL (hs_len hL_len k) kL_len (slA xa 0 xc 1) xc ((((mg ++ bs).drop (64 * k)).drop 0).take 64) (subLen (K := xn) hxn (by omega) : List.length ((((mg ++ bs).drop (64 * k)).drop 0).take 64) = 64) (by omega) _ (View.slM (l := 0) (m := xc) (k := 64) (viewV (h_34.ok _ M1)) (by omega))) rfl ?_
     rintro _ w_47 ⟨rfl, hc_46⟩
     have h_48 := h_34.same hc_46
     refine WL.nil ?_
     refine ⟨(SL.cons (h_48.ok _ M1) (SL.cons (h_48.ok _ M2) (SL.nil _ _))), ?_⟩
     refine qT rfl rfl (fun wq hS => R.nilCheck rfl) ?_
     refine qT rfl rfl (fun wq hS => R.fieldAddr (b := bc) (off := 0) (off' := 64) rfl Try.underlying176 rfl Try.sizeOf172 rfl rfl) ?_
     refine WT.s (Op1.one rfl (Wn.no rfl) ?_)
     refine WL.storeA (b := bc) (off := 64) [(64, kL.map vu32)] [(8, (hs kL hL (mg ++ bs) k).map vu32)] [(8, (pressL kL (hs kL hL (mg ++ bs) k) ((((mg ++ bs).drop (64 * k)).drop 0).take 64)).map vu32)] [(1, [(.slice xa xn xc)]), (1, [(vn (mg.length + n))]), (1, [(.bool true)])] (ys := (pressL kL (hs kL hL (mg ++ bs) k) ((((mg ++ bs).drop (64 * k)).drop 0).take 64)).map vu32) h_48 rfl rfl Try.sizeOf172 At.h (by decide) rfl rfl rfl rfl rfl rfl (SsOk.cons (SOk.u32 (pressL_len ..)) SsOk.nil) (fun w_49 h_50 => ?_)
     refine WL.nil ?_
     refine ⟨(SL.cons (h_50.ok _ M1) (SL.cons (h_50.ok _ M2) (SL.nil _ _))), ?_⟩
     refine WT.nil (thn_n ?_)
     exact ⟨(), (Ag.upd rfl (U4 rfl rfl rfl rfl (U4 rfl rfl rfl rfl (U4 rfl rfl rfl rfl (U4 rfl rfl rfl rfl (Ag.refl _ _)))))), ⟨rfl, rfl, rfl, rfl, rfl, rfl, rfl, rfl, rfl, rfl, rfl, rfl, rfl, rfl, rfl, rfl, rfl, trivial⟩, h_50⟩
    ·refine Op1.one rfl (Wn.no rfl) ?_
     refine qV rfl (R.loadA (b := bc) (off := 0) [] [(64, kL.map vu32)] [(8, (hs kL hL (mg ++ bs) k).map vu32), (1, [(.slice xa xn xc)]), (1, [(vn (mg.length + n))]), (1, [(.bool true)])] (cs := kL.map vu32) rfl Try.isAgg171 Try.sizeOf171 (h_34.ok _ M0) rfl rfl rfl rfl) ?_
     refine WL.nil ?_
     refine ⟨(SL.cons (h_34.ok _ M1) (SL.cons (h_34.ok _ M2) (SL.nil _ _))), ?_⟩
     refine WT.s (Op1.one rfl (Wn.no rfl) ?_)
     refine qV rfl (R.loadA (b := bc) (off := 64) [(64, kL.map vu32)] [(8, (hs kL hL (mg ++ bs) k).map vu32)] [(1, [(.slice xa xn xc)]), (1, [(vn (mg.length + n))]), (1, [(.bool true)])] (cs := (hs kL hL (mg ++ bs) k).map vu32) rfl Try.isAgg172 Try.sizeOf172 (h_34.ok _ M0) rfl rfl rfl rfl) ?_
     refine WL.nil ?_
     refine ⟨(SL.cons (h_34.ok _ M1) (SL.cons (h_34.ok _ M2) (SL.nil _ _))), ?_⟩
     refine WT.s (Op1.one rfl (Wn.no rfl) ?_)
     refine WL.call Try.call110 rfl rfl (c_press (hs kL hL (mg ++ bs) k) kL (hs_len hL_len k) kL_len (slA xa 0 xc 1) xc ((((mg ++ bs).drop (64 * k)).drop 0).take 64) (subLen (K := xn) hxn (by omega) : List.length ((((mg ++ bs).drop (64 * k)).drop 0).take 64) = 64) (by omega) _ (View.slM (l := 0) (m := xc) (k := 64) (viewV (h_34.ok _ M1)) (by omega))) rfl ?_
     rintro _ w_52 ⟨rfl, hc_51⟩
     have h_53 := h_34.same hc_51
     refine WL.nil ?_
     refine ⟨(SL.cons (h_53.ok _ M1) (SL.cons (h_53.ok _ M2) (SL.nil _ _))), ?_⟩
     refine qT rfl rfl (fun wq hS => R.nilCheck rfl) ?_
     refine qT rfl rfl (fun wq hS => R.fieldAddr (b := bc) (off := 0) (off' := 64) rfl Try.underlying176 rfl Try.sizeOf172 rfl rfl) ?_
     refine WT.s (Op1.one rfl (Wn.no rfl) ?_)
     refine WL.storeA (b := bc) (off := 64) [(64, kL.map vu32)] [(8, (hs kL hL (mg ++ bs) k).map vu32)] [(8, (pressL kL (hs kL hL (mg ++ bs) k) ((((mg ++ bs).drop (64 * k)).drop 0).take 64)).map vu32)] [(1, [(.slice xa xn xc)]), (1, [(vn (mg.length + n))]), (1, [(.bool true)])] (ys := (pressL kL (hs kL hL (mg ++ bs) k) ((((mg ++ bs).drop (64 * k)).drop 0).take 64)).map vu32) h_53 rfl rfl Try.sizeOf172 At.h (by decide) rfl rfl rfl rfl rfl rfl (SsOk.cons (SOk.u32 (pressL_len ..)) SsOk.nil) (fun w_54 h_55 => ?_)
     refine WL.nil ?_
     refine ⟨(SL.cons (h_55.ok _ M1) (SL.cons (h_55.ok _ M2) (SL.nil _ _))), ?_⟩
     refine WT.nil (thn_n ?_)
     exact ⟨(), (Ag.upd rfl (U4 rfl rfl rfl rfl (U4 rfl rfl rfl rfl (U4 rfl rfl rfl rfl (U4 rfl rfl rfl rfl (Ag.refl _ _)))))), ⟨rfl, rfl, rfl, rfl, rfl, rfl, rfl, rfl, rfl, rfl, rfl, rfl, rfl, rfl, rfl, rfl, rfl, trivial⟩, h_55⟩
   ·refine Op1.one rfl (Wn.no rfl) ?_
    refine qV rfl (R.loadA (b := bc) (off := 0) [] [(64, kL.map vu32)] [(8, (hs kL hL (mg ++ bs) k).map vu32), (1, [(.slice xa xn xc)]), (1, [(vn (mg.length + n))]), (1, [(.bool true)])] (cs := kL.map vu32) rfl Try.isAgg171 Try.sizeOf171 (h_34.ok _ M0) rfl rfl rfl rfl) ?_
    refine WL.nil ?_
    refine ⟨(SL.cons (h_34.ok _ M1) (SL.cons (h_34.ok _ M2) (SL.nil _ _))), ?_⟩
    refine WT.s2 ?_ ?_
    ·refine Op1.one rfl (Wn.no rfl) ?_
     refine qV rfl (R.loadA (b := bc) (off := 64) [(64, kL.map vu32)] [(8, (hs kL hL (mg ++ bs) k).map vu32)] [(1, [(.slice xa xn xc)]), (1, [(vn (mg.length + n))]), (1, [(.bool true)])] (cs := (hs kL hL (mg ++ bs) k).map vu32) rfl Try.isAgg172 Try.sizeOf172 (h_34.ok _ M0) rfl rfl rfl rfl) ?_
     refine WL.nil ?_
     refine ⟨(SL.cons (h_34.ok _ M1) (SL.cons (h_34.ok _ M2) (SL.nil _ _))), ?_⟩
     refine WT.s (Op1.one rfl (Wn.no rfl) ?_)
     refine qV rfl (R.load1 (b := bc) (off := 72) (v := (.slice xa xn xc)) rfl Try.isAgg37 (h_34.ok _ M0) (Sg.t rfl (Sg.t rfl Sg.h))) ?_
     refine WL.nil ?_
     refine ⟨(SL.cons (h_34.ok _ M1) (SL.cons (h_34.ok _ M2) (SL.nil _ _))), ?_⟩
     refine qT rfl rfl (fun wq hS => R.sliceS (a := xa) (len := xn) (l := 0) (h := 64) rfl EvB.dflt (EvB.it (l := 64) rfl rfl) (by decide) (by omega) Try.underlying37 Try.sizeOf5) ?_
     refine WT.s (Op1.one rfl (Wn.no rfl) ?_)
     refine WL.call Try.call110 rfl rfl (c_press (hs kL hL (mg ++ bs) k) kL (hs_len hL_len k) kL_len (slA xa 0 xc 1) xc ((((mg ++ bs).drop (64 * k)).drop 0).take 64) (subLen (K := xn) hxn (by omega) : List.length ((((mg ++ bs).drop (64 * k)).drop 0).take 64) = 64) (by omega) _ (View.slM (l := 0) (m := xc) (k := 64) (viewV (h_34.ok _ M1)) (by omega))) rfl ?_
     rintro _ w_57 ⟨rfl, hc_56⟩
     have h_58 := h_34.same hc_56
     refine WL.nil ?_
     refine ⟨(SL.cons (h_58.ok _ M1) (SL.cons (h_58.ok _ M2) (SL.nil _ _))), ?_⟩
     refine qT rfl rfl (fun wq hS => R.nilCheck rfl) ?_
     refine qT rfl rfl (fun wq hS => R.fieldAddr (b := bc) (off := 0) (off' := 64) rfl Try.underlying176 rfl Try.sizeOf172 rfl rfl) ?_
     refine WT.s (Op1.one rfl (Wn.no rfl) ?_)
     refine WL.storeA (b := bc) (off := 64) [(64, kL.map vu32)] [(8, (hs kL hL (mg ++ bs) k).map vu32)] [(8, (pressL kL (hs kL hL (mg ++ bs) k) ((((mg ++ bs).drop (64 * k)).drop 0).take 64)).map vu32)] [(1, [(.slice xa xn xc)]), (1, [(vn (mg.length + n))]), (1, [(.bool true)])] (ys := (pressL kL (hs kL hL (mg ++ bs) k) ((((mg ++ bs).drop (64 * k)).drop 0).take 64)).map vu32) h_58 rfl rfl Try.sizeOf172 At.h (by decide) rfl rfl rfl rfl rfl rfl (SsOk.cons (SOk.u32 (pressL_len ..)) SsOk.nil) (fun w_59 h_60 => ?_)
     refine WL.nil ?_
     refine ⟨(SL.cons (h_60.ok _ M1) (SL.cons (h_60.ok _ M2) (SL.nil _ _))), ?_⟩
     refine WT.nil (thn_n ?_)
     exact ⟨(), (Ag.upd rfl (U4 rfl rfl rfl rfl (U4 rfl rfl rfl rfl (U4 rfl rfl rfl rfl (U4 rfl rfl rfl rfl (Ag.refl _ _)))))), ⟨rfl, rfl, rfl, rfl, rfl, rfl, rfl, rfl, rfl, rfl, rfl, rfl, rfl, rfl, rfl, rfl, rfl, trivial⟩, h_60⟩
    ·refine Op1.one rfl (Wn.no rfl) ?_
     refine qV rfl (R.load1 (b := bc) (off := 72) (v := (.slice xa xn xc)) rfl Try.isAgg37 (h_34.ok _ M0) (Sg.t rfl (Sg.t rfl Sg.h))) ?_
     refine WL.nil ?_
     refine ⟨(SL.cons (h_34.ok _ M1) (SL.cons (h_34.ok _ M2) (SL.nil _ _))), ?_⟩
     refine qT rfl rfl (fun wq hS => R.sliceS (a := xa) (len := xn) (l := 0) (h := 64) rfl EvB.dflt (EvB.it (l := 64) rfl rfl) (by decide) (by omega) Try.underlying37 Try.sizeOf5) ?_
     refine WT.s (Op1.one rfl (Wn.no rfl) ?_)
     refine qV rfl (R.loadA (b := bc) (off := 64) [(64, kL.map vu32)] [(8, (hs kL hL (mg ++ bs) k).map vu32)] [(1, [(.slice xa xn xc)]), (1, [(vn (mg.length + n))]), (1, [(.bool true)])] (cs := (hs kL hL (mg ++ bs) k).map vu32) rfl Try.isAgg172 Try.sizeOf172 (h_34.ok _ M0) rfl rfl rfl rfl) ?_
     refine WL.nil ?_
     refine ⟨(SL.cons (h_34.ok _ M1) (SL.cons (h_34.ok _ M2) (SL.nil _ _))), ?_⟩
     refine WT.s (Op1.one rfl (Wn.no rfl) ?_)
     refine WL.call Try.call110 rfl rfl (c_press (hs kL hL (mg ++ bs) k) kL (hs_len hL_len k) kL_len (slA xa 0 xc 1) xc ((((mg ++ bs).drop (64 * k)).drop 0).take 64) (subLen (K := xn) hxn (by omega) : List.length ((((mg ++ bs).drop (64 * k)).drop 0).take 64) = 64) (by omega) _ (View.slM (l := 0) (m := xc) (k := 64) (viewV (h_34.ok _ M1)) (by omega))) rfl ?_
     rintro _ w_62 ⟨rfl, hc_61⟩
     have h_63 := h_34.same hc_61
     refine WL.nil ?_
     refine ⟨(SL.cons (h_63.ok _ M1) (SL.cons (h_63.ok _ M2) (SL.nil _ _))), ?_⟩
     refine qT rfl rfl (fun wq hS => R.nilCheck rfl) ?_
     refine qT rfl rfl (fun wq hS => R.fieldAddr (b := bc) (off := 0) (off' := 64) rfl Try.underlying176 rfl Try.sizeOf172 rfl rfl) ?_
     refine WT.s (Op1.one rfl (Wn.no rfl) ?_)
     refine WL.storeA (b := bc) (off := 64) [(64, kL.map vu32)] [(8, (hs kL hL (mg ++ bs) k).map vu32)] [(8, (pressL kL (hs kL hL (mg ++ bs) k) ((((mg ++ bs).drop (64 * k)).drop 0).take 64)).map vu32)] [(1, [(.slice xa xn xc)]), (1, [(vn (mg.length + n))]), (1, [(.bool true)])] (ys := (pressL kL (hs kL hL (mg ++ bs) k) ((((mg ++ bs).drop (64 * k)).drop 0).take 64)).map vu32) h_63 rfl rfl Try.sizeOf172 At.h (by decide) rfl rfl rfl rfl rfl rfl (SsOk.cons (SOk.u32 (pressL_len ..)) SsOk.nil) (fun w_64 h_65 => ?_)
     refine WL.nil ?_
     refine ⟨(SL.cons (h_65.ok _ M1) (SL.cons (h_65.ok _ M2) (SL.nil _ _))), ?_⟩
     refine WT.nil (thn_n ?_)
     exact ⟨(), (Ag.upd rfl (U4 rfl rfl rfl rfl (U4 rfl rfl rfl rfl (U4 rfl rfl rfl rfl (U4 rfl rfl rfl rfl (Ag.refl _ _)))))), ⟨rfl, rfl, rfl, rfl, rfl, rfl, rfl, rfl, rfl, rfl, rfl, rfl, rfl, rfl, rfl, rfl, rfl, trivial⟩, h_65⟩
  ·rintro _ J_66 w_67 h_68
   refine thn_n (WP.reg ?_)
   refine qM (pO bc 0) rfl rfl (qM (pO bc 0) rfl rfl (qV rfl (R.nilCheck rfl) (qV rfl (R.fieldAddr (b := bc) (off := 0) (off' := 72) rfl Try.underlying176 rfl Try.sizeOf37 rfl rfl) (qV rfl (R.load1 (b := bc) (off := 72) (v := (.slice xa xn xc)) rfl Try.isAgg37 (h_68.ok _ M0) (Sg.t rfl (Sg.t rfl Sg.h))) (qV rfl (R.sliceS (a := xa) (len := xn) (l := 64) (h := xn) rfl (EvB.it (l := 64) rfl rfl) EvB.dflt (by omega) (by omega) Try.underlying37 Try.sizeOf5) ?_)))))
   have h_69 := HP.viewDrop (m := 64) (q := xc) h_68 M1 (by omega)
   refine qV rfl (R.nilCheck rfl) (qV rfl (R.fieldAddr (b := bc) (off := 0) (off' := 72) rfl Try.underlying176 rfl Try.sizeOf37 rfl rfl) ?_)
   refine WL.store1 (b := bc) (off := 72) (v := (.slice (slA xa 64 xc 1) (xn - 64) (xc - 64))) h_69 rfl rfl Try.sizeOf37 rfl Y1 (by decide) (Sg.t rfl (Sg.t rfl Sg.h)) (fun w_70 h_71 => ?_)
   refine WL.nil (inb_n (thn_n ?_))
   have h_76 := ((((h_71.up J2).drop rfl).up J2).up J1).up J2
   have es : pressL kL (hs kL hL (mg ++ bs) k) ((((mg ++ bs).drop (64 * k)).drop 0).take 64) = hs kL hL (mg ++ bs) (k + 1) := wr_step rfl
   have ed := wr_drop (mg ++ bs) k
   rw [es, ed] at h_76
   have hxf2 : ∀ b ∈ (Ent.view (slA xa 64 xc 1) (((mg ++ bs).drop (64 * (k + 1))).map vu8)).blocks, w.heap.size ≤ b := fun b hb => hxf b (view_sl_blocks (l := (mg ++ bs).drop (64 * k)) (l' := (mg ++ bs).drop (64 * (k + 1))) (fun h2 e => h2 (by rw [← ed, e]; rfl)) b hb)
   exact ⟨(k + 1, slA xa 64 xc 1, xn - 64, xc - 64), _, (by omega), (U4 rfl rfl rfl rfl (U4 rfl rfl rfl rfl (Ag.updL rfl (Ag.trans (Ag.sub rfl (Ag.mix _ _ _)) (Ag.upd rfl (Ag.upd rfl (Ag.upd rfl (Ag.upd rfl (Ag.upd rfl (Ag.upd rfl (Ag.updL rfl (Ag.mix _ _ _)))))))))))), trivial, h_76, (by rw [List.length_drop, hbl]; omega), (by omega), (by omega), hxf2, rfl⟩
 ·have p_77 := of_decide_eq_false c_31
  refine WP.exit (thn_x (thn_x (inb_hit (thn_n (WP.seq (WP.reg ?_))))))
  refine qA (vi 0) rfl rfl ?_
  refine WL.nil (thn_n (WP.ret ?_))
  refine ret_of Try.results98 (RV.tmp (v := (vi 0)) rfl RV.nil) ?_
  have hdl2 : xn = mg.length + n - 64 * k := by rw [← hxn, List.length_drop, hbl]
  have hk2 : k = (mg ++ bs).length / 64 := by omega
  have hcl := h_28.cells M0
  have hvw := viewV (h_28.ok _ M1)
  rw [hk2] at hxn hxf hvw hcl
  rw [← hbl] at hcl
  exact ⟨rfl, h_28.chgS, xa, xn, xc, hcl, hvw, hxn, hxc, fun x hx => ⟨hxf x hx, fun e => by have h1 := hxf x hx; have h2 := hcb.2.2; rw [e] at h1; exact absurd h1 (Nat.not_le.2 h2)⟩⟩
end Go.Proofs.Ytnhppjimimhlkaa

namespace Go.Proofs.Ytnhppjimimhlkaa
open Go.Vc Go.Sh Go.RowKit
set_option maxRecDepth 20000

theorem c_HSum (mg : List UInt8) (ra : Option Addr) (rn rc : Nat) (hrn : (rsL mg).length = rn) (hrc : rn ≤ rc) (bc : Nat) (hm : mg.length ≤ 1000000000000) (w : World) (hvr : View w ra ((rsL mg).map vu8)) (hcb : (Ent.blk bc .ro 176 [(64, kL.map vu32), (8, (stH mg).map vu32), (1, [(.slice ra rn rc)]), (1, [(vi ((mg.length : Nat) : Int))]), (1, [(.bool true)])]).ok w.heap.size w) :
  Cs Try.prog 99 [(.pointer (some ⟨bc, 0, none⟩))].toArray w (fun v w1 => v = (.tuple [(.agg ⟨(sumL mg).map vu8⟩), (vi 0)].toArray) ∧ Chg w w1 []) := by
 refine Cs.of (n := 44) (args := [(pO bc 0)]) Try.func99 rfl rfl rfl ?_
 have h_0 := HP.init w
 have h_01 := h_0.oldV (View.arg hvr) rfl (by simp [Ent.mut])
 have h_00 := h_01.oldV hcb rfl (by simp [Ent.mut])
 have hrl := rsL_len mg
 have hpl := padL_len mg.length
 refine WP.seq (WP.reg ?_)
 refine WL.alloc (segs := [(32, (List.replicate 32 (0 : UInt8)).map vu8)]) h_00 (zv Try.typeInfo23 rfl) rfl (SsOk.cons (SOk.u8 lr) SsOk.nil) rfl (fun b_1 w_2 h_3 => ?_)
 refine qA (vi 0) rfl rfl ?_
 refine WL.nil (thn_n (WP.seq (WP.reg ?_)))
 refine qM (pO bc 0) rfl rfl ?_
 refine WL.call Try.call111 rfl rfl (c_Copy mg ra rn rc hrn (by omega) bc (by omega) _ (viewV (h_3.ok _ M2)) (h_3.argR M1)) rfl ?_
 rintro _ w_5 ⟨b_4, rfl, hc_6, hb_7, ra_8, rn_9, rc_10, hk_11, hv_12, hn_13, hq_14, hf_15⟩
 have h_16 := HP_gotHash (segs := [(64, kL.map vu32), (8, (stH mg).map vu32), (1, [(.slice ra_8 rn_9 rc_10)]), (1, [(vi ((mg.length : Nat) : Int))]), (1, [(.bool true)])]) h_3 hc_6 hb_7 (SsOk.cons (SOk.u32 kL_len) (SsOk.cons (SOk.u32 (stH_len mg)) (SsOk.cons (SOk.v rfl) (SsOk.cons (SOk.v rfl) (SsOk.cons (SOk.v rfl) SsOk.nil))))) hk_11 hv_12 hf_15
 refine qA (pO b_4 0) rfl rfl ?_
 refine WL.nil (thn_n (WP.seq (WP.seq (WP.reg ?_))))
 refine qM (pO b_4 0) rfl rfl (qV rfl (R.eqNilP rfl rfl Try.underlying159) ?_)
 refine WL.nil (thn_n ?_)
 refine WP.condF rfl ?_
 refine WP.skip (thn_n (WP.seq (WP.reg ?_)))
 refine qM (pO b_4 0) rfl rfl (qM (pO bc 0) rfl rfl (qV rfl (R.nilCheck rfl) (qV rfl (R.fieldAddr (b := bc) (off := 0) (off' := 73) rfl Try.underlying176 rfl Try.sizeOf3 rfl rfl) (qV rfl (R.load1 (b := bc) (off := 73) (v := (vn (mg.length))) rfl Try.isAgg3 (h_16.ok _ M3) (Sg.t rfl (Sg.t rfl (Sg.t rfl Sg.h)))) ?_))))
 refine WL.call Try.call112 rfl rfl (c_padding mg.length (by omega) _) rfl ?_
 rintro _ w_19 ⟨a_17, cap_18, rfl, hc_20, ho_21⟩
 have h_22 := h_16.gotRow hc_20 ho_21
 have h_23 := h_22.up J1
 refine WL.call Try.call98 rfl rfl (c_Write mg ra_8 rn_9 rc_10 hn_13 (by omega) b_4 (by omega) a_17 ((padL mg.length).length) cap_18 (padL mg.length) (rfl : List.length (padL mg.length) = (padL mg.length).length) (by omega) (h_23.own M1).2.2.1 _ (viewV (h_23.ok _ M2)) (ownView (h_23.ok _ M1)) (h_23.arg M0) (Sep_off (m := .nw) (T := 176) (segs := [(64, kL.map vu32), (8, (stH mg).map vu32), (1, [(.slice ra_8 rn_9 rc_10)]), (1, [(vn (mg.length))]), (1, [(.bool true)])]) (by decide) (Sep.view (by decide) (fun h => h) (h_23.ne (i := 0) (j := 2) rfl rfl rfl).symm)) (Sep_off (m := .nw) (T := 176) (segs := [(64, kL.map vu32), (8, (stH mg).map vu32), (1, [(.slice ra_8 rn_9 rc_10)]), (1, [(vn (mg.length))]), (1, [(.bool true)])]) (by decide) (Sep.viewRow (h_23.ne (i := 0) (j := 1) rfl rfl rfl).symm))) rfl ?_
 rintro _ w_24 ⟨rfl, hc_25, ra_26, rn_27, rc_28, hk_29, hv_30, hn_31, hq_32, hf_33⟩
 have h_34 := HP_passedHash (segs' := [(64, kL.map vu32), (8, (stH (mg ++ (padL mg.length))).map vu32), (1, [(.slice ra_26 rn_27 rc_28)]), (1, [(vi (((mg ++ (padL mg.length)).length : Nat) : Int))]), (1, [(.bool true)])]) h_23 (by decide) hc_25 (SsOk.cons (SOk.u32 kL_len) (SsOk.cons (SOk.u32 (stH_len (mg ++ (padL mg.length)))) (SsOk.cons (SOk.v rfl) (SsOk.cons (SOk.v rfl) (SsOk.cons (SOk.v rfl) SsOk.nil))))) hk_29 hv_30 hf_33
 refine WL.nil (thn_n (WP.seq (WP.reg ?_)))
 refine WL.alloc (segs := [(32, (List.replicate 32 (0 : UInt8)).map vu8)]) h_34 (zv Try.typeInfo23 rfl) rfl (SsOk.cons (SOk.u8 lr) SsOk.nil) rfl (fun b_35 w_36 h_37 => ?_)
 refine WL.nil (thn_n (WP.seq (WP.seq (WP.reg ?_))))
 refine qM (pO b_4 0) rfl rfl (qV rfl (R.nilCheck rfl) (qV rfl (R.fieldAddr (b := b_4) (off := 0) (off' := 64) rfl Try.underlying176 rfl Try.sizeOf172 rfl rfl) (qV rfl (R.loadA (b := b_4) (off := 64) [(64, kL.map vu32)] [(8, (stH (mg ++ (padL mg.length))).map vu32)] [(1, [(.slice ra_26 rn_27 rc_28)]), (1, [(vn ((mg ++ (padL mg.length)).length))]), (1, [(.bool true)])] (cs := (stH (mg ++ (padL mg.length))).map vu32) rfl Try.isAgg172 Try.sizeOf172 (h_37.ok _ M2) rfl rfl rfl rfl) (qM (vi 0) rfl rfl ?_))))
 refine WL.nil (thn_n (WP.block ?_))
 refine WP.loopG (G := Nat) [6, 7, 8, 9, 26, 27, 28, 29, 30, 31, 32, 33, 34, 35, 36, 37, 38, 39, 40, 41, 42] (fun i => [(26, (vn i))]) (fun i m w1 => HP w w1 [.blk b_35 .nw 23 [(32, (mix (digL (stH (mg ++ padL mg.length))) (List.replicate 32 0) (4 * i)).map vu8)], .view ra_26 ((rsL (mg ++ (padL mg.length))).map vu8), .blk b_4 .nw 176 [(64, kL.map vu32), (8, (stH (mg ++ (padL mg.length))).map vu32), (1, [(.slice ra_26 rn_27 rc_28)]), (1, [(vn ((mg ++ (padL mg.length)).length))]), (1, [(.bool true)])], .row a_17 ((padL mg.length).length) cap_18 5 1 ((padL mg.length).map vu8), .view ra_8 ((rsL mg).map vu8), .blk b_1 .nw 23 [(32, (List.replicate 32 (0 : UInt8)).map vu8)], .blk bc .ro 176 [(64, kL.map vu32), (8, (stH mg).map vu32), (1, [(.slice ra rn rc)]), (1, [(vn (mg.length))]), (1, [(.bool true)])], .view ra ((rsL mg).map vu8)] ∧ (i ≤ 8) ∧ m = 8 - i) ⟨0, _, ⟨rfl, trivial⟩, (by rw [Nat.mul_zero, mix_0]; exact h_37), (by omega), rfl⟩ ?_
 rintro i m_40 J_41 w_38 ⟨h_39, hi, rfl⟩
 have hx4 : (UInt64.ofNat (((stH (mg ++ padL mg.length))).getD i 0).toNat).toNat < 256 ^ 4 := by have h1 := (((stH (mg ++ padL mg.length))).getD i 0).toNat_lt; rw [nat64 (by omega)]; exact h1
 refine WP.seq (WP.reg ?_)
 refine qV rfl (R.bin rfl rfl (bi_lss (r := decide ((((i : Nat) : Int) : Int) < 8)) rfl)) ?_
 refine WL.nil (thn_n (WP.seq ?_))
 refine WP.cond (b := decide ((((i : Nat) : Int) : Int) < 8)) rfl (fun c_42 => ?_) (fun c_42 => ?_)
 ·have p_43 := of_decide_eq_true c_42
  refine WP.skip (thn_n (WP.seq (WP.block (WP.seq (WP.reg ?_)))))
  refine qM (vn i) rfl rfl (qV rfl (R.indexV (i := i) (cs := (stH (mg ++ (padL mg.length))).map vu32) (v := (vu32 ((stH (mg ++ (padL mg.length))).getD i 0))) rfl rfl rfl (by omega) Try.underlying172 Try.isAgg170 Try.sizeOf170 (get_u32 (lt_len (K := 8) (stH_len (mg ++ (padL mg.length))) (by omega)))) (qA (vn i) rfl rfl (qA (vu32 ((stH (mg ++ (padL mg.length))).getD i 0)) rfl rfl ?_)))
  refine WL.nil (thn_n (WP.seq (WP.reg ?_)))
  refine qM (vu32 ((stH (mg ++ (padL mg.length))).getD i 0)) rfl rfl (qV rfl (R.conv (b := ((UInt64.ofNat (((stH (mg ++ (padL mg.length))).getD i 0).toNat)) : UInt64).toNat) rfl Try.underlying170 Try.underlying28 (w64_nat (((stH (mg ++ (padL mg.length))).getD i 0).toNat))) ?_)
  refine WL.call Try.call76 rfl rfl (c_Put_a (UInt64.ofNat (((stH (mg ++ (padL mg.length))).getD i 0).toNat)) 4 (by decide) (by decide) hx4 _) rfl ?_
  rintro _ w_46 ⟨a_44, cap_45, rfl, hc_47, ho_48⟩
  have h_49 := h_39.gotRow hc_47 ho_48
  refine qM (.tuple [(.slice a_44 4 cap_45), (vi 0)].toArray) rfl rfl (qV rfl (R.extract rfl rfl) (qV rfl (R.extract rfl rfl) (qA (.slice a_44 4 cap_45) rfl rfl (qA (vi 0) rfl rfl ?_))))
  refine WL.nil (thn_n ?_)
  refine WP.drawT (SL w.heap.size [.row a_44 4 cap_45 5 1 ((leN 4 (UInt64.ofNat (((stH (mg ++ (padL mg.length))).getD i 0).toNat)).toNat).map vu8), .view ra_26 ((rsL (mg ++ (padL mg.length))).map vu8), .blk b_4 .nw 176 [(64, kL.map vu32), (8, (stH (mg ++ (padL mg.length))).map vu32), (1, [(.slice ra_26 rn_27 rc_28)]), (1, [(vn ((mg ++ (padL mg.length)).length))]), (1, [(.bool true)])], .row a_17 ((padL mg.length).length) cap_18 5 1 ((padL mg.length).map vu8), .view ra_8 ((rsL mg).map vu8), .blk b_1 .nw 23 [(32, (List.replicate 32 (0 : UInt8)).map vu8)], .blk bc .ro 176 [(64, kL.map vu32), (8, (stH mg).map vu32), (1, [(.slice ra rn rc)]), (1, [(vn (mg.length))]), (1, [(.bool true)])], .view ra ((rsL mg).map vu8)]) (.q 0 (.q 1 (.q 2 (.q 3 (.s 4 (.s 5 .nil)))))) (by kernel_rfl) (by kernel_rfl) rfl (by kernel_rfl) (fun w_50 hc_52 => (SL.cons ((h_49.same hc_52).ok _ M0) (SL.cons ((h_49.same hc_52).ok _ M2) (SL.cons ((h_49.same hc_52).ok _ M3) (SL.cons ((h_49.same hc_52).ok _ M4) (SL.cons ((h_49.same hc_52).ok _ M5) (SL.cons ((h_49.same hc_52).ok _ M6) (SL.cons ((h_49.same hc_52).ok _ M7) (SL.cons ((h_49.same hc_52).ok _ M8) (SL.nil _ _)))))))))) (fun w_50 hc_52 => ?_)
  have h_51 := h_49.same hc_52
  refine qT rfl rfl (fun wq hS => R.move (v := (vn i)) rfl) ?_
  refine qT rfl rfl (fun wq hS => R.bin rfl rfl (bi_mul (c := ((4 * i : Nat) : Int)) (by omega) (by omega))) ?_
  refine qT rfl rfl (fun wq hS => R.sliceA (b := b_35) (off := 0) (off' := (0 + (4 * i))) (l := 4 * i) (h := 32) rfl (EvB.it (l := 4 * i) rfl rfl) EvB.dflt (by omega) (by decide) Try.underlying23 Try.sizeOf5 (by rw [if_neg (by omega), Nat.mul_one])) ?_
  refine qT rfl rfl (fun wq hS => R.move (v := (.slice a_44 4 cap_45)) rfl) ?_
  refine WT.s (Op1.one rfl (Wn.no rfl) ?_)
  refine WL.call Try.call113 rfl rfl (c_Turned a_44 4 cap_45 (leN 4 (UInt64.ofNat (((stH (mg ++ (padL mg.length))).getD i 0).toNat)).toNat) (leN_len ..) (by omega) _ (ownView (h_51.ok _ M0))) rfl ?_
  rintro _ w_55 ⟨a_53, cap_54, rfl, hc_56, ho_57⟩
  have h_58 := h_51.gotRow hc_56 ho_57
  refine WL.nil ?_
  refine ⟨(SL.cons (h_58.ok _ M1) (SL.cons (h_58.ok _ M3) (SL.cons (h_58.ok _ M4) (SL.cons (h_58.ok _ M5) (SL.cons (h_58.ok _ M6) (SL.cons (h_58.ok _ M7) (SL.cons (h_58.ok _ M8) (SL.cons (h_58.ok _ M9) (SL.nil _ _))))))))), ?_⟩
  refine WT.s (Op1.one rfl (Wn.no rfl) ?_)
  refine WL.copy (q := 4) (i := 4 * i) (ys := ((leN 4 (UInt64.ofNat (((stH (mg ++ (padL mg.length))).getD i 0).toNat)).toNat).reverse).map vu8) (cs' := (ovr (mix (digL (stH (mg ++ padL mg.length))) (List.replicate 32 0) (4 * i)) (4 * i) ((leN 4 (UInt64.ofNat (((stH (mg ++ (padL mg.length))).getD i 0).toNat)).toNat).reverse)).map vu8) h_58 rfl rfl Try.underlying37 Try.sizeOf5 (ownView (h_58.ok _ M0)) (len_map ((List.length_reverse ..).trans (leN_len ..))) (one_u8 _) Y2 (by decide) Sg.h rfl (Nat.min_eq_left (by omega)) (by rw [len_map (mix_len (digL_len _) lr)]; omega) (cpOvr ((List.length_reverse ..).trans (leN_len ..))) rfl (fun w_59 h_60 => ?_)
  refine WL.nil ?_
  refine ⟨(SL.cons (h_60.ok _ M1) (SL.cons (h_60.ok _ M3) (SL.cons (h_60.ok _ M4) (SL.cons (h_60.ok _ M5) (SL.cons (h_60.ok _ M6) (SL.cons (h_60.ok _ M7) (SL.cons (h_60.ok _ M8) (SL.cons (h_60.ok _ M9) (SL.nil _ _))))))))), ?_⟩
  refine WT.nil (inb_n (thn_n (WP.reg ?_)))
  refine qV rfl (R.bin rfl rfl (bi_add (c := ((i + 1 : Nat) : Int)) (by omega) (by omega))) (qM (vn (i + 1)) rfl rfl ?_)
  refine WL.nil (thn_n ?_)
  have h_70 := (((((((((h_60.drop rfl).drop rfl).up J7).up J7).up J7).up J7).up J7).up J7).up J7).up J7
  rw [dig_ovr (by omega) _ rfl] at h_70
  exact ⟨i + 1, _, (by omega), (Ag.upd rfl (U4 rfl rfl rfl rfl (U4 rfl rfl rfl rfl (U4 rfl rfl rfl rfl (U4 rfl rfl rfl rfl (U4 rfl rfl rfl rfl (Ag.updL rfl (Ag.mix _ _ _)))))))), ⟨rfl, trivial⟩, h_70, (by omega), rfl⟩
 ·have p_71 := of_decide_eq_false c_42
  refine WP.exit (thn_x (thn_x (inb_hit (thn_n (WP.seq (WP.reg ?_))))))
  refine qV rfl (R.loadA (b := b_35) (off := 0) [] [(32, (mix (digL (stH (mg ++ padL mg.length))) (List.replicate 32 0) (4 * i)).map vu8)] [] (cs := (mix (digL (stH (mg ++ padL mg.length))) (List.replicate 32 0) (4 * i)).map vu8) rfl Try.isAgg23 Try.sizeOf23 (h_39.ok _ M0) rfl rfl rfl rfl) ?_
  refine WL.storeA (b := b_1) (off := 0) [] [(32, (List.replicate 32 (0 : UInt8)).map vu8)] [(32, (mix (digL (stH (mg ++ padL mg.length))) (List.replicate 32 0) (4 * i)).map vu8)] [] (ys := (mix (digL (stH (mg ++ padL mg.length))) (List.replicate 32 0) (4 * i)).map vu8) h_39 rfl rfl Try.sizeOf23 Y5 (by decide) rfl rfl rfl rfl rfl rfl (SsOk.cons (SOk.u8 (mix_len (digL_len _) lr)) SsOk.nil) (fun w_72 h_73 => ?_)
  refine qA (vi 0) rfl rfl ?_
  refine WL.nil (thn_n (WP.ret ?_))
  refine ret_of Try.results99 (RV.cell rfl (h_73.loadA (cs := (mix (digL (stH (mg ++ padL mg.length))) (List.replicate 32 0) (4 * i)).map vu8) Try.isAgg23 Try.sizeOf23 M5 rfl rfl) (RV.tmp (v := (vi 0)) rfl RV.nil)) ?_
  have hi8 : i = 8 := by omega
  subst hi8
  have ed := dig_all (stH (mg ++ padL mg.length))
  exact ⟨by rw [show 4 * 8 = 32 from rfl, ed, sum_dig]; rfl, h_73.chgS⟩

theorem c_Sum (a : Option Addr) (n cap : Nat) (bs : List UInt8) (hl : bs.length = n) (hn : n ≤ 1000000000000) (hcap : n ≤ cap) (w : World) (hv : View w a (bs.map vu8)) :
  Cs Try.prog 81 [(.slice a n cap)].toArray w (fun v w1 => v = (.agg ⟨(sumL bs).map vu8⟩) ∧ Chg w w1 []) := by
 refine Cs.of (n := 16) (args := [(.slice a n cap)]) Try.func81 rfl rfl rfl ?_
 have h_0 := HP.init w
 have h_00 := h_0.old (View.arg hv) (fun f hf => by cases hf)
 refine WP.seq (WP.reg ?_)
 refine WL.alloc (segs := [(32, (List.replicate 32 (0 : UInt8)).map vu8)]) h_00 (zv Try.typeInfo23 rfl) rfl (SsOk.cons (SOk.u8 lr) SsOk.nil) rfl (fun b_1 w_2 h_3 => ?_)
 refine WL.nil (thn_n (WP.seq (WP.reg ?_)))
 refine WL.call Try.call97 rfl rfl (c_New _) rfl ?_
 rintro _ w_5 ⟨b_4, rfl, hc_6, hb_7, ra_8, rn_9, rc_10, hk_11, hv_12, hn_13, hq_14, hf_15⟩
 have h_16 := HP_gotHash (segs := [(64, kL.map vu32), (8, (stH ([] : List UInt8)).map vu32), (1, [(.slice ra_8 rn_9 rc_10)]), (1, [(vi ((([] : List UInt8).length : Nat) : Int))]), (1, [(.bool true)])]) h_3 hc_6 hb_7 (SsOk.cons (SOk.u32 kL_len) (SsOk.cons (SOk.u32 (stH_len ([] : List UInt8))) (SsOk.cons (SOk.v rfl) (SsOk.cons (SOk.v rfl) (SsOk.cons (SOk.v rfl) SsOk.nil))))) hk_11 hv_12 hf_15
 refine qA (pO b_4 0) rfl rfl ?_
 refine WL.nil (thn_n (WP.seq (WP.reg ?_)))
 refine qM (pO b_4 0) rfl rfl (qM (.slice a n cap) rfl rfl ?_)
 refine WL.call Try.call98 rfl rfl (c_Write ([] : List UInt8) ra_8 rn_9 rc_10 hn_13 (by omega) b_4 (by decide) a n cap bs hl (by omega) (by omega) _ (viewV (h_16.ok _ M1)) (viewV (h_16.ok _ M3)) (h_16.arg M0) (Sep_off (m := .nw) (T := 176) (segs := [(64, kL.map vu32), (8, (stH ([] : List UInt8)).map vu32), (1, [(.slice ra_8 rn_9 rc_10)]), (1, [(vn (([] : List UInt8).length))]), (1, [(.bool true)])]) (by decide) (Sep.view (by decide) (fun h => h) (h_16.ne (i := 0) (j := 1) rfl rfl rfl).symm)) (Sep_off (m := .nw) (T := 176) (segs := [(64, kL.map vu32), (8, (stH ([] : List UInt8)).map vu32), (1, [(.slice ra_8 rn_9 rc_10)]), (1, [(vn (([] : List UInt8).length))]), (1, [(.bool true)])]) (by decide) (Sep.view (by decide) (fun h => h) (h_16.ne (i := 0) (j := 3) rfl rfl rfl).symm))) rfl ?_
 rintro _ w_17 ⟨rfl, hc_18, ra_19, rn_20, rc_21, hk_22, hv_23, hn_24, hq_25, hf_26⟩
 have h_27 := HP_passedHash (segs' := [(64, kL.map vu32), (8, (stH bs).map vu32), (1, [(.slice ra_19 rn_20 rc_21)]), (1, [(vi ((bs.length : Nat) : Int))]), (1, [(.bool true)])]) h_16 (by decide) hc_18 (SsOk.cons (SOk.u32 kL_len) (SsOk.cons (SOk.u32 (stH_len bs)) (SsOk.cons (SOk.v rfl) (SsOk.cons (SOk.v rfl) (SsOk.cons (SOk.v rfl) SsOk.nil))))) hk_22 hv_23 hf_26
 refine WL.nil (thn_n (WP.seq (WP.reg ?_)))
 refine qM (pO b_4 0) rfl rfl ?_
 refine WL.call Try.call99 rfl rfl (c_HSum bs ra_19 rn_20 rc_21 hn_24 (by omega) b_4 (by omega) _ (viewV (h_27.ok _ M0)) (h_27.argR M1)) rfl ?_
 rintro _ w_29 ⟨rfl, hc_28⟩
 have h_30 := h_27.same hc_28
 refine qM (.tuple [(.agg ⟨(sumL bs).map vu8⟩), (vi 0)].toArray) rfl rfl (qV rfl (R.extract rfl rfl) (qV rfl (R.extract rfl rfl) ?_))
 refine WL.alloc (segs := [(32, (List.replicate 32 (0 : UInt8)).map vu8)]) h_30 (zv Try.typeInfo23 rfl) rfl (SsOk.cons (SOk.u8 lr) SsOk.nil) rfl (fun b_31 w_32 h_33 => ?_)
 refine WL.storeA (b := b_31) (off := 0) [] [(32, (List.replicate 32 (0 : UInt8)).map vu8)] [(32, (sumL bs).map vu8)] [] (ys := (sumL bs).map vu8) h_33 rfl rfl Try.sizeOf23 At.h (by decide) rfl rfl rfl rfl rfl rfl (SsOk.cons (SOk.u8 (sumL_len _)) SsOk.nil) (fun w_34 h_35 => ?_)
 refine qA (vi 0) rfl rfl ?_
 refine WL.nil (thn_n (WP.seq (WP.reg ?_)))
 refine qV rfl (R.loadA (b := b_31) (off := 0) [] [(32, (sumL bs).map vu8)] [] (cs := (sumL bs).map vu8) rfl Try.isAgg23 Try.sizeOf23 (h_35.ok _ M0) rfl rfl rfl rfl) ?_
 refine WL.storeA (b := b_1) (off := 0) [] [(32, (List.replicate 32 (0 : UInt8)).map vu8)] [(32, (sumL bs).map vu8)] [] (ys := (sumL bs).map vu8) h_35 rfl rfl Try.sizeOf23 Y4 (by decide) rfl rfl rfl rfl rfl rfl (SsOk.cons (SOk.u8 (sumL_len _)) SsOk.nil) (fun w_36 h_37 => ?_)
 refine WL.nil (thn_n (WP.ret ?_))
 refine ret_of Try.results81 (RV.cell rfl (h_37.loadA (cs := (sumL bs).map vu8) Try.isAgg23 Try.sizeOf23 M4 rfl rfl) RV.nil) ?_
 exact ⟨rfl, h_37.chgS⟩
end Go.Proofs.Ytnhppjimimhlkaa

namespace Go.Sh
open Go.Vc
def padK (k : List UInt8) : List UInt8 := k ++ List.replicate (64 - k.length) 0
theorem padK_len {k : List UInt8} {n : Nat} (hl : k.length = n) (h : n ≤ 64) : (padK k).length = 64 := by rw [padK, List.length_append, List.length_replicate]; omega
def xm (m : UInt8) (l : List UInt8) : List UInt8 := l.map fun x => x ^^^ m
theorem xm_len (m : UInt8) (l : List UInt8) : (xm m l).length = l.length := by simp [xm]
theorem xm_get {m : UInt8} {l : List UInt8} {i : Nat} (hi : i < l.length) : (xm m l).getD i 0 = l.getD i 0 ^^^ m := by simp [xm, hi]
theorem xm_snoc {m : UInt8} {l : List UInt8} {j : Nat} (hj : j < l.length) : (xm m l).take j ++ ([l.getD j 0 ^^^ m] : List UInt8) = (xm m l).take (j + 1) := by
  rw [← xm_get hj, ← take_snoc _ _ _ (by rw [xm_len]; exact hj)]
theorem xm_step {m : UInt8} {l : List UInt8} {i n : Nat} (hl : l.length = n) (hi : i < n) : (mix (xm m l) l i).set i ((mix (xm m l) l i).getD i 0 ^^^ m) = mix (xm m l) l (i + 1) := by
  have hx : (xm m l).length = n := by rw [xm_len, hl]
  rw [mix_get hx hi, ← xm_get (by omega)]
  exact mix_set hx hl hi
theorem xm_all {m : UInt8} {l : List UInt8} {n : Nat} (hl : l.length = n) : mix (xm m l) l n = xm m l := mix_all (by rw [xm_len, hl]) hl (Nat.le_refl _)
theorem ovr_pad {k : List UInt8} {n : Nat} (hl : k.length = n) : ovr (List.replicate 64 (0 : UInt8)) 0 k = padK k := by
  rw [ovr, padK, List.take_zero, List.nil_append, Nat.zero_add, List.drop_replicate]
theorem flat2 (a b : List UInt8) : [a, b].flatten = a ++ b := by simp
def tagK (k b : List UInt8) : List UInt8 := sumL (xm 92 (padK k) ++ sumL (xm 54 (padK k) ++ b))
def tagL (key b : List UInt8) : List UInt8 := if 64 < key.length then tagK (sumL key) b else tagK key b
theorem tagK_len (k b : List UInt8) : (tagK k b).length = 32 := sumL_len _
theorem tagL_len (key b : List UInt8) : (tagL key b).length = 32 := by rw [tagL]; split <;> exact tagK_len _ _
theorem tag_s {key b : List UInt8} {n : Nat} (hl : key.length = n) (h : ¬ 64 < n) : tagL key b = tagK key b := if_neg (by omega)
theorem tag_l {key b : List UInt8} {n : Nat} (hl : key.length = n) (h : 64 < n) : tagL key b = tagK (sumL key) b := if_pos (by omega)
theorem pad_z {k : List UInt8} {n z : Nat} (hl : k.length = n) (h : n + z = 64) : k ++ List.replicate z (0 : UInt8) = padK k := by
  rw [padK, show 64 - k.length = z by omega]
def difN (a b : List UInt8) : Nat → UInt8
  | 0 => 0
  | i + 1 => difN a b i ||| (a.getD i 0 ^^^ b.getD i 0)
def deriveL (key l : List UInt8) (x : UInt64) : List UInt8 := tagL key (Go.Wr.packL [l, leN 8 x.toNat])
def kfL (key l : List UInt8) : Nat → List UInt8
  | 0 => []
  | k + 1 => kfL key l k ++ deriveL key l (UInt64.ofNat k)
end Go.Sh
namespace Go.Vc
section
variable {P : Program} {F : Fr} {w : World}
variable {ty : TypeId} {pos : String} {after : Array Edge} {dst : Option Tmp} {g : Option (Nat × Bool)}
end
end Go.Vc
namespace Go.Sh
open Go.Vc
def halfL (d : List UInt8) (c : Nat) : List UInt8 := (d.drop c).take 16
def K11 : List UInt8 := List.replicate 20 11
end Go.Sh

namespace Go.Proofs.Ytnhppjimimhlkaa
open Go.Vc Go.Sh Go.RowKit
set_option maxRecDepth 20000

theorem c_Tag1 (mk : UInt8) (key : List UInt8) (ak : Option Addr) (nk ck : Nat) (hkl : key.length = nk) (hk64 : nk ≤ 64) (bc : Nat) (a2 : Option Addr) (n2 cap2 : Nat) (bs2 : List UInt8) (hl2 : bs2.length = n2) (hcap2 : n2 ≤ cap2) (hn2 : n2 ≤ 100000000000) (w : World) (hvk : View w ak (key.map vu8)) (hcb : (Ent.blk bc .ro 37 [(1, [(.slice ak nk ck)])]).ok w.heap.size w) (hv2 : View w a2 (bs2.map vu8)) :
  Cs Try.prog 100 [(vu8 mk), (.slice a2 n2 cap2), (.pointer (some ⟨bc, 0, none⟩))].toArray w (fun v w1 => v = (.agg ⟨(sumL (xm mk (padK key) ++ bs2)).map vu8⟩) ∧ Chg w w1 []) := by
 refine Cs.of (n := 26) (args := [(vu8 mk), (.slice a2 n2 cap2), (pO bc 0)]) Try.func100 rfl rfl rfl ?_
 have h_0 := HP.init w
 have h_01 := h_0.oldV (View.arg hvk) rfl (by simp [Ent.mut])
 have h_02 := h_01.oldV hcb rfl (by simp [Ent.mut])
 have h_00 := h_02.oldV (View.arg hv2) rfl (by simp [Ent.mut])
 have hfl : ([xm mk (padK key), bs2].flatten).length = 64 + n2 := by rw [flat2, List.length_append, xm_len, (padK_len hkl hk64), hl2]
 refine WP.seq (WP.reg ?_)
 refine WL.alloc (segs := [(32, (List.replicate 32 (0 : UInt8)).map vu8)]) h_00 (zv Try.typeInfo23 rfl) rfl (SsOk.cons (SOk.u8 lr) SsOk.nil) rfl (fun b_1 w_2 h_3 => ?_)
 refine WL.nil (thn_n (WP.seq (WP.reg ?_)))
 refine WL.alloc (segs := [(64, (List.replicate 64 (0 : UInt8)).map vu8)]) h_3 (zv Try.typeInfo163 rfl) rfl (SsOk.cons (SOk.u8 lr) SsOk.nil) rfl (fun b_4 w_5 h_6 => ?_)
 refine WL.nil (thn_n (WP.seq ?_))
 refine WP.drawT (SL w.heap.size [.blk b_1 .nw 23 [(32, (List.replicate 32 (0 : UInt8)).map vu8)], .view a2 (bs2.map vu8), .blk bc .ro 37 [(1, [(.slice ak nk ck)])], .view ak (key.map vu8)]) (.q 0 (.q 1 (.s 2 .nil))) (by kernel_rfl) (by kernel_rfl) rfl (by kernel_rfl) (fun w_7 hc_9 => (SL.cons ((h_6.same hc_9).ok _ M1) (SL.cons ((h_6.same hc_9).ok _ M2) (SL.cons ((h_6.same hc_9).ok _ M3) (SL.cons ((h_6.same hc_9).ok _ M4) (SL.nil _ _)))))) (fun w_7 hc_9 => ?_)
 have h_8 := h_6.same hc_9
 refine qT rfl rfl (fun wq hS => R.sliceA (b := b_4) (off := 0) (off' := 0) (l := 0) (h := 64) rfl EvB.dflt EvB.dflt (by decide) (by decide) Try.underlying163 Try.sizeOf5 rfl) ?_
 refine qT rfl rfl (fun wq hS => R.load1 (b := bc) (off := 0) (v := (.slice ak nk ck)) rfl Try.isAgg37 (hS _ M2) Sg.h) ?_
 refine WT.s (Op1.one rfl (Wn.no rfl) ?_)
 refine WL.copy (q := nk) (i := 0) (ys := key.map vu8) (cs' := (ovr (List.replicate 64 (0 : UInt8)) 0 key).map vu8) h_8 rfl rfl Try.underlying37 Try.sizeOf5 (viewV (h_8.ok _ M4)) (len_map hkl) (one_u8 _) At.h (by decide) Sg.h rfl (Nat.min_eq_left (by omega)) (by rw [len_map lr]; omega) (cpOvr hkl) rfl (fun w_10 h_11 => ?_)
 refine WL.nil ?_
 refine ⟨(SL.cons (h_11.ok _ M1) (SL.cons (h_11.ok _ M2) (SL.cons (h_11.ok _ M3) (SL.cons (h_11.ok _ M4) (SL.nil _ _))))), ?_⟩
 refine WT.nil (thn_n (WP.seq (WP.seq (WP.reg ?_))))
 refine qM (vi 0) rfl rfl ?_
 refine WL.nil (thn_n (WP.block ?_))
 rw [ovr_pad hkl] at h_11
 refine WP.loopG (G := Nat) [7, 11, 12, 13, 14, 15, 16, 17, 18, 19, 20] (fun i => [(11, (vn i))]) (fun i m w1 => HP w w1 [.blk b_4 .nw 163 [(64, (mix (xm mk (padK key)) (padK key) i).map vu8)], .blk b_1 .nw 23 [(32, (List.replicate 32 (0 : UInt8)).map vu8)], .view a2 (bs2.map vu8), .blk bc .ro 37 [(1, [(.slice ak nk ck)])], .view ak (key.map vu8)] ∧ (i ≤ 64) ∧ m = 64 - i) ⟨0, _, ⟨rfl, trivial⟩, (by rw [mix_0]; exact h_11), (by omega), rfl⟩ ?_
 rintro i m_14 J_15 w_12 ⟨h_13, hi, rfl⟩
 refine WP.seq (WP.reg ?_)
 refine qV rfl (R.bin rfl rfl (bi_lss (r := decide ((((i : Nat) : Int) : Int) < 64)) rfl)) ?_
 refine WL.nil (thn_n (WP.seq ?_))
 refine WP.cond (b := decide ((((i : Nat) : Int) : Int) < 64)) rfl (fun c_16 => ?_) (fun c_16 => ?_)
 ·have p_17 := of_decide_eq_true c_16
  refine WP.skip (thn_n (WP.seq (WP.block (WP.seq (WP.reg ?_)))))
  refine qM (vn i) rfl rfl (qA (vn i) rfl rfl ?_)
  refine WL.nil (thn_n (WP.reg ?_))
  refine qM (vn i) rfl rfl (qV rfl (R.indexA (b := b_4) (off := 0) (off' := (0 + i)) (i := i) rfl rfl rfl (by omega) Try.underlying163 Try.sizeOf5 (by rw [Nat.mul_one])) (qV rfl (R.loadE (b := b_4) (off := (0 + i)) (i := i) (v := (vu8 ((mix (xm mk (padK key)) (padK key) i).getD i 0))) rfl Try.isAgg5 (h_13.ok _ M0) Sg.h rfl (get_u8 (lt_len (K := 64) (mix_len ((xm_len _ _).trans (padK_len hkl hk64)) (padK_len hkl hk64)) (by omega)))) (qM (vu8 mk) rfl rfl (qV rfl (R.bin rfl rfl (b8_xor ((mix (xm mk (padK key)) (padK key) i).getD i 0) mk)) (qV rfl (R.indexA (b := b_4) (off := 0) (off' := (0 + i)) (i := i) rfl rfl rfl (by omega) Try.underlying163 Try.sizeOf5 (by rw [Nat.mul_one])) ?_)))))
  refine WL.storeE (b := b_4) (off := (0 + i)) (i := i) (v := (vu8 (((mix (xm mk (padK key)) (padK key) i).getD i 0) ^^^ mk))) (cs' := ((mix (xm mk (padK key)) (padK key) i).set i (((mix (xm mk (padK key)) (padK key) i).getD i 0) ^^^ mk)).map vu8) h_13 rfl rfl Try.sizeOf5 rfl At.h (by decide) Sg.h rfl (lt_len (K := 64) (len_map (mix_len ((xm_len _ _).trans (padK_len hkl hk64)) (padK_len hkl hk64))) (by omega)) (set_u8 _ _ _) (fun w_18 h_19 => ?_)
  refine WL.nil (inb_n (thn_n (WP.reg ?_)))
  refine qV rfl (R.bin rfl rfl (bi_add (c := ((i + 1 : Nat) : Int)) (by omega) (by omega))) (qM (vn (i + 1)) rfl rfl ?_)
  refine WL.nil (thn_n ?_)
  have h_24 := ((((h_19.up J4).up J4).up J4).up J4).up J4
  rw [xm_step (padK_len hkl hk64) (by omega)] at h_24
  exact ⟨i + 1, _, (by omega), (Ag.upd rfl (U2 rfl rfl (U4 rfl rfl rfl rfl (U4 rfl rfl rfl rfl (Ag.updL rfl (Ag.mix _ _ _)))))), ⟨rfl, trivial⟩, h_24, (by omega), rfl⟩
 ·have p_25 := of_decide_eq_false c_16
  refine WP.exit (thn_x (thn_x (inb_hit (thn_n (WP.seq (WP.reg ?_))))))
  have hi64 : i = 64 := by omega
  subst hi64
  rw [xm_all (padK_len hkl hk64)] at h_13
  refine qV rfl (R.sliceA (b := b_4) (off := 0) (off' := 0) (l := 0) (h := 64) rfl EvB.dflt EvB.dflt (by decide) (by decide) Try.underlying163 Try.sizeOf5 rfl) (qM (.slice a2 n2 cap2) rfl rfl ?_)
  refine WL.buildSl (vs := [(0, (.slice (some ⟨b_4, 0, none⟩) 64 64)), (1, (.slice a2 n2 cap2))]) (cs := [(.slice (some ⟨b_4, 0, none⟩) 64 64), (.slice a2 n2 cap2)]) h_13 Try.underlying36 Try.sizeOf37 (zv Try.typeInfo37 rfl) rfl rfl (by kernel_rfl) rfl (by simp [Value.oneCell']) rfl rfl (fun b_26 w_27 h_28 => ?_)
  refine WL.call Try.call101 rfl rfl (c_wJoin (some ⟨b_26, 0, none⟩) 2 2 [(.slice (some ⟨b_4, 0, none⟩) 64 64), (.slice a2 n2 cap2)] [xm mk (padK key), bs2] rfl (by omega) (by omega) _ (viewB (h_28.ok _ M0) Sg.h) (Sls.cons ((xm_len _ _).trans (padK_len hkl hk64)) (by decide) (viewB (h_28.ok _ M1) Sg.h) (Sls.cons hl2 (by omega) (viewV (h_28.ok _ M3)) Sls.nil))) rfl ?_
  rintro _ w_31 ⟨a_29, cap_30, rfl, hc_32, ho_33⟩
  have h_34 := h_28.gotRow hc_32 ho_33
  refine WL.call Try.call81 rfl rfl (c_Sum a_29 ([xm mk (padK key), bs2].flatten.length) cap_30 ([xm mk (padK key), bs2].flatten) (rfl : List.length ([xm mk (padK key), bs2].flatten) = [xm mk (padK key), bs2].flatten.length) (by omega) (h_34.own M0).2.2.1 _ (ownView (h_34.ok _ M0))) rfl ?_
  rintro _ w_36 ⟨rfl, hc_35⟩
  have h_37 := h_34.same hc_35
  refine WL.storeA (b := b_1) (off := 0) [] [(32, (List.replicate 32 (0 : UInt8)).map vu8)] [(32, (sumL ([xm mk (padK key), bs2].flatten)).map vu8)] [] (ys := (sumL ([xm mk (padK key), bs2].flatten)).map vu8) h_37 rfl rfl Try.sizeOf23 Y3 (by decide) rfl rfl rfl rfl rfl rfl (SsOk.cons (SOk.u8 (sumL_len _)) SsOk.nil) (fun w_38 h_39 => ?_)
  refine WL.nil (thn_n (WP.ret ?_))
  refine ret_of Try.results100 (RV.cell rfl (h_39.loadA (cs := (sumL ([xm mk (padK key), bs2].flatten)).map vu8) Try.isAgg23 Try.sizeOf23 M3 rfl rfl) RV.nil) ?_
  exact ⟨by rw [flat2]; rfl, h_39.chgS⟩

theorem c_Tag_s (a : Option Addr) (n cap : Nat) (key : List UInt8) (hl : key.length = n) (hcap : n ≤ cap) (hn : n ≤ 100000000000) (a2 : Option Addr) (n2 cap2 : Nat) (bs2 : List UInt8) (hl2 : bs2.length = n2) (hcap2 : n2 ≤ cap2) (hn2 : n2 ≤ 100000000000) (h : ¬ 64 < n) (w : World) (hv : View w a (key.map vu8)) (hv2 : View w a2 (bs2.map vu8)) :
  Cs Try.prog 83 [(.slice a n cap), (.slice a2 n2 cap2)].toArray w (fun v w1 => v = (.agg ⟨(tagL key bs2).map vu8⟩) ∧ Chg w w1 []) := by
 refine Cs.of (n := 21) (args := [(.slice a n cap), (.slice a2 n2 cap2)]) Try.func83 rfl rfl rfl ?_
 have h_0 := HP.init w
 have h_01 := h_0.oldV (View.arg hv) rfl (by simp [Ent.mut])
 have h_00 := h_01.oldV (View.arg hv2) rfl (by simp [Ent.mut])
 refine WP.seq (WP.reg ?_)
 refine WL.box (v := (.slice a n cap)) (segs := [(1, [(.slice a n cap)])]) h_00 rfl rfl (SsOk.cons (SOk.v rfl) SsOk.nil) rfl (fun b_1 w_2 h_3 => ?_)
 refine WL.alloc (segs := [(32, (List.replicate 32 (0 : UInt8)).map vu8)]) h_3 (zv Try.typeInfo23 rfl) rfl (SsOk.cons (SOk.u8 lr) SsOk.nil) rfl (fun b_4 w_5 h_6 => ?_)
 refine WL.nil (thn_n (WP.seq (WP.seq (WP.reg ?_))))
 refine qV rfl (R.load1 (b := b_1) (off := 0) (v := (.slice a n cap)) rfl Try.isAgg37 (h_6.ok _ M1) Sg.h) (qV rfl (R.lenS (a := a) (m := n) rfl rfl Try.underlying37) (qV rfl (R.bin rfl rfl (bi_gtr (r := decide ((((n : Nat) : Int) : Int) > 64)) rfl)) ?_))
 refine WL.nil (thn_n ?_)
 refine WP.condF (congrArg Value.bool (decide_eq_false (by omega))) ?_
 refine WP.skip (thn_n (WP.seq (WP.reg ?_)))
 refine qV rfl (R.makeFuncL (fi := []) (ca := [(pO b_1 0)]) rfl rfl) (qA (Value.func (Fn.func 100) [].toArray [(Value.pointer (some ⟨b_1, 0, none⟩))].toArray) rfl rfl ?_)
 refine WL.nil (thn_n (WP.seq (WP.reg ?_)))
 refine qM (Value.func (Fn.func 100) [].toArray [(Value.pointer (some ⟨b_1, 0, none⟩))].toArray) rfl rfl (qM (.slice a2 n2 cap2) rfl rfl ?_)
 refine WL.call Try.call100 rfl rfl (c_Tag1 (54 : UInt8) key a n cap hl (by omega) b_1 a2 n2 cap2 bs2 hl2 (by omega) (by omega) _ (viewV (h_6.ok _ M3)) (h_6.argR M1) (viewV (h_6.ok _ M2))) rfl ?_
 rintro _ w_8 ⟨rfl, hc_7⟩
 have h_9 := h_6.same hc_7
 refine WL.alloc (segs := [(32, (List.replicate 32 (0 : UInt8)).map vu8)]) h_9 (zv Try.typeInfo23 rfl) rfl (SsOk.cons (SOk.u8 lr) SsOk.nil) rfl (fun b_10 w_11 h_12 => ?_)
 refine WL.storeA (b := b_10) (off := 0) [] [(32, (List.replicate 32 (0 : UInt8)).map vu8)] [(32, (sumL (xm (54 : UInt8) (padK key) ++ bs2)).map vu8)] [] (ys := (sumL (xm (54 : UInt8) (padK key) ++ bs2)).map vu8) h_12 rfl rfl Try.sizeOf23 At.h (by decide) rfl rfl rfl rfl rfl rfl (SsOk.cons (SOk.u8 (sumL_len _)) SsOk.nil) (fun w_13 h_14 => ?_)
 refine WL.nil (thn_n (WP.seq (WP.reg ?_)))
 refine qM (Value.func (Fn.func 100) [].toArray [(Value.pointer (some ⟨b_1, 0, none⟩))].toArray) rfl rfl (qV rfl (R.sliceA (b := b_10) (off := 0) (off' := 0) (l := 0) (h := 32) rfl EvB.dflt EvB.dflt (by decide) (by decide) Try.underlying23 Try.sizeOf5 rfl) ?_)
 refine WL.call Try.call100 rfl rfl (c_Tag1 (92 : UInt8) key a n cap hl (by omega) b_1 (some ⟨b_10, 0, none⟩) 32 32 (sumL (xm (54 : UInt8) (padK key) ++ bs2)) (sumL_len _) (by decide) (by omega) _ (viewV (h_14.ok _ M4)) (h_14.argR M2) (viewB (h_14.ok _ M0) Sg.h)) rfl ?_
 rintro _ w_16 ⟨rfl, hc_15⟩
 have h_17 := h_14.same hc_15
 refine WL.storeA (b := b_4) (off := 0) [] [(32, (List.replicate 32 (0 : UInt8)).map vu8)] [(32, (sumL (xm (92 : UInt8) (padK key) ++ (sumL (xm (54 : UInt8) (padK key) ++ bs2)))).map vu8)] [] (ys := (sumL (xm (92 : UInt8) (padK key) ++ (sumL (xm (54 : UInt8) (padK key) ++ bs2)))).map vu8) h_17 rfl rfl Try.sizeOf23 Y1 (by decide) rfl rfl rfl rfl rfl rfl (SsOk.cons (SOk.u8 (sumL_len _)) SsOk.nil) (fun w_18 h_19 => ?_)
 refine WL.nil (thn_n (WP.ret ?_))
 refine ret_of Try.results83 (RV.cell rfl (h_19.loadA (cs := (sumL (xm (92 : UInt8) (padK key) ++ (sumL (xm (54 : UInt8) (padK key) ++ bs2)))).map vu8) Try.isAgg23 Try.sizeOf23 M1 rfl rfl) RV.nil) ?_
 exact ⟨by rw [tag_s hl h]; rfl, h_19.chgS⟩

theorem c_Tag_l (a : Option Addr) (n cap : Nat) (key : List UInt8) (hl : key.length = n) (hcap : n ≤ cap) (hn : n ≤ 100000000000) (a2 : Option Addr) (n2 cap2 : Nat) (bs2 : List UInt8) (hl2 : bs2.length = n2) (hcap2 : n2 ≤ cap2) (hn2 : n2 ≤ 100000000000) (h : 64 < n) (w : World) (hv : View w a (key.map vu8)) (hv2 : View w a2 (bs2.map vu8)) :
  Cs Try.prog 83 [(.slice a n cap), (.slice a2 n2 cap2)].toArray w (fun v w1 => v = (.agg ⟨(tagL key bs2).map vu8⟩) ∧ Chg w w1 []) := by
 refine Cs.of (n := 21) (args := [(.slice a n cap), (.slice a2 n2 cap2)]) Try.func83 rfl rfl rfl ?_
 have h_0 := HP.init w
 have h_01 := h_0.oldV (View.arg hv) rfl (by simp [Ent.mut])
 have h_00 := h_01.oldV (View.arg hv2) rfl (by simp [Ent.mut])
 refine WP.seq (WP.reg ?_)
 refine WL.box (v := (.slice a n cap)) (segs := [(1, [(.slice a n cap)])]) h_00 rfl rfl (SsOk.cons (SOk.v rfl) SsOk.nil) rfl (fun b_1 w_2 h_3 => ?_)
 refine WL.alloc (segs := [(32, (List.replicate 32 (0 : UInt8)).map vu8)]) h_3 (zv Try.typeInfo23 rfl) rfl (SsOk.cons (SOk.u8 lr) SsOk.nil) rfl (fun b_4 w_5 h_6 => ?_)
 refine WL.nil (thn_n (WP.seq (WP.seq (WP.reg ?_))))
 refine qV rfl (R.load1 (b := b_1) (off := 0) (v := (.slice a n cap)) rfl Try.isAgg37 (h_6.ok _ M1) Sg.h) (qV rfl (R.lenS (a := a) (m := n) rfl rfl Try.underlying37) (qV rfl (R.bin rfl rfl (bi_gtr (r := decide ((((n : Nat) : Int) : Int) > 64)) rfl)) ?_))
 refine WL.nil (thn_n ?_)
 refine WP.condT (congrArg Value.bool (decide_eq_true (by omega))) ?_
 refine WP.seq (WP.reg ?_)
 refine qV rfl (R.load1 (b := b_1) (off := 0) (v := (.slice a n cap)) rfl Try.isAgg37 (h_6.ok _ M1) Sg.h) ?_
 refine WL.call Try.call81 rfl rfl (c_Sum a n cap key hl (by omega) (by omega) _ (viewV (h_6.ok _ M3))) rfl ?_
 rintro _ w_8 ⟨rfl, hc_7⟩
 have h_9 := h_6.same hc_7
 refine WL.alloc (segs := [(32, (List.replicate 32 (0 : UInt8)).map vu8)]) h_9 (zv Try.typeInfo23 rfl) rfl (SsOk.cons (SOk.u8 lr) SsOk.nil) rfl (fun b_10 w_11 h_12 => ?_)
 refine WL.storeA (b := b_10) (off := 0) [] [(32, (List.replicate 32 (0 : UInt8)).map vu8)] [(32, (sumL key).map vu8)] [] (ys := (sumL key).map vu8) h_12 rfl rfl Try.sizeOf23 At.h (by decide) rfl rfl rfl rfl rfl rfl (SsOk.cons (SOk.u8 (sumL_len _)) SsOk.nil) (fun w_13 h_14 => ?_)
 refine WL.nil (thn_n (WP.reg ?_))
 refine qV rfl (R.sliceA (b := b_10) (off := 0) (off' := 0) (l := 0) (h := 32) rfl EvB.dflt EvB.dflt (by decide) (by decide) Try.underlying23 Try.sizeOf5 rfl) ?_
 refine WL.store1 (b := b_1) (off := 0) (v := (.slice (some ⟨b_10, 0, none⟩) 32 32)) h_14 rfl rfl Try.sizeOf37 rfl Y2 (by decide) Sg.h (fun w_15 h_16 => ?_)
 refine WL.nil (thn_n (WP.seq (WP.reg ?_)))
 refine qV rfl (R.makeFuncL (fi := []) (ca := [(pO b_1 0)]) rfl rfl) (qA (Value.func (Fn.func 100) [].toArray [(Value.pointer (some ⟨b_1, 0, none⟩))].toArray) rfl rfl ?_)
 refine WL.nil (thn_n (WP.seq (WP.reg ?_)))
 refine qM (Value.func (Fn.func 100) [].toArray [(Value.pointer (some ⟨b_1, 0, none⟩))].toArray) rfl rfl (qM (.slice a2 n2 cap2) rfl rfl ?_)
 refine WL.call Try.call100 rfl rfl (c_Tag1 (54 : UInt8) (sumL key) (some ⟨b_10, 0, none⟩) 32 32 (sumL_len _) (by omega) b_1 a2 n2 cap2 bs2 hl2 (by omega) (by omega) _ (viewB (h_16.ok _ M0) Sg.h) (h_16.argR M2) (viewV (h_16.ok _ M3))) rfl ?_
 rintro _ w_18 ⟨rfl, hc_17⟩
 have h_19 := h_16.same hc_17
 refine WL.alloc (segs := [(32, (List.replicate 32 (0 : UInt8)).map vu8)]) h_19 (zv Try.typeInfo23 rfl) rfl (SsOk.cons (SOk.u8 lr) SsOk.nil) rfl (fun b_20 w_21 h_22 => ?_)
 refine WL.storeA (b := b_20) (off := 0) [] [(32, (List.replicate 32 (0 : UInt8)).map vu8)] [(32, (sumL (xm (54 : UInt8) (padK (sumL key)) ++ bs2)).map vu8)] [] (ys := (sumL (xm (54 : UInt8) (padK (sumL key)) ++ bs2)).map vu8) h_22 rfl rfl Try.sizeOf23 At.h (by decide) rfl rfl rfl rfl rfl rfl (SsOk.cons (SOk.u8 (sumL_len _)) SsOk.nil) (fun w_23 h_24 => ?_)
 refine WL.nil (thn_n (WP.seq (WP.reg ?_)))
 refine qM (Value.func (Fn.func 100) [].toArray [(Value.pointer (some ⟨b_1, 0, none⟩))].toArray) rfl rfl (qV rfl (R.sliceA (b := b_20) (off := 0) (off' := 0) (l := 0) (h := 32) rfl EvB.dflt EvB.dflt (by decide) (by decide) Try.underlying23 Try.sizeOf5 rfl) ?_)
 refine WL.call Try.call100 rfl rfl (c_Tag1 (92 : UInt8) (sumL key) (some ⟨b_10, 0, none⟩) 32 32 (sumL_len _) (by omega) b_1 (some ⟨b_20, 0, none⟩) 32 32 (sumL (xm (54 : UInt8) (padK (sumL key)) ++ bs2)) (sumL_len _) (by decide) (by omega) _ (viewB (h_24.ok _ M1) Sg.h) (h_24.argR M3) (viewB (h_24.ok _ M0) Sg.h)) rfl ?_
 rintro _ w_26 ⟨rfl, hc_25⟩
 have h_27 := h_24.same hc_25
 refine WL.storeA (b := b_4) (off := 0) [] [(32, (List.replicate 32 (0 : UInt8)).map vu8)] [(32, (sumL (xm (92 : UInt8) (padK (sumL key)) ++ (sumL (xm (54 : UInt8) (padK (sumL key)) ++ bs2)))).map vu8)] [] (ys := (sumL (xm (92 : UInt8) (padK (sumL key)) ++ (sumL (xm (54 : UInt8) (padK (sumL key)) ++ bs2)))).map vu8) h_27 rfl rfl Try.sizeOf23 Y2 (by decide) rfl rfl rfl rfl rfl rfl (SsOk.cons (SOk.u8 (sumL_len _)) SsOk.nil) (fun w_28 h_29 => ?_)
 refine WL.nil (thn_n (WP.ret ?_))
 refine ret_of Try.results83 (RV.cell rfl (h_29.loadA (cs := (sumL (xm (92 : UInt8) (padK (sumL key)) ++ (sumL (xm (54 : UInt8) (padK (sumL key)) ++ bs2)))).map vu8) Try.isAgg23 Try.sizeOf23 M2 rfl rfl) RV.nil) ?_
 exact ⟨by rw [tag_l hl h]; rfl, h_29.chgS⟩

theorem c_Tag (a : Option Addr) (n cap : Nat) (key : List UInt8) (hl : key.length = n) (hcap : n ≤ cap) (hn : n ≤ 100000000000) (a2 : Option Addr) (n2 cap2 : Nat) (bs2 : List UInt8) (hl2 : bs2.length = n2) (hcap2 : n2 ≤ cap2) (hn2 : n2 ≤ 100000000000) (w : World) (hv : View w a (key.map vu8)) (hv2 : View w a2 (bs2.map vu8)) : Cs Try.prog 83 [.slice a n cap, .slice a2 n2 cap2].toArray w (fun v w1 => v = (.agg ⟨(tagL key bs2).map vu8⟩) ∧ Chg w w1 []) := by
 by_cases h : 64 < n
 ·exact c_Tag_l a n cap key hl hcap hn a2 n2 cap2 bs2 hl2 hcap2 hn2 h w hv hv2
 ·exact c_Tag_s a n cap key hl hcap hn a2 n2 cap2 bs2 hl2 hcap2 hn2 h w hv hv2
end Go.Proofs.Ytnhppjimimhlkaa

namespace Go.Proofs.Ytnhppjimimhlkaa
open Go.Vc Go.Sh Go.RowKit
set_option maxRecDepth 20000
theorem el186 : ElT Try.prog 186 170 1 4 := ElT.mk' Try.underlying186 (i := Try.t170) rfl rfl rfl rfl rfl rfl
theorem c_prime (i : Nat) (hi : i < 64) (w : World) :
  Cs Try.prog 139 [(vi ((i : Nat) : Int))].toArray w (fun v w1 => v = (vu64 (primeL.getD i 0)) ∧ Chg w w1 []) := by
 refine Cs.of (n := 28) (args := [(vn i)]) Try.func139 rfl rfl rfl ?_
 have h_0 := HP.init w
 refine WP.seq (WP.reg ?_)
 refine qA (vu64 0) rfl rfl ?_
 refine WL.nil (thn_n (WP.seq (WP.reg ?_)))
 refine qA (vu64 1) rfl rfl ?_
 refine WL.nil (thn_n (WP.seq (WP.block ?_)))
 refine WP.loopG (G := Nat) [0, 3, 4, 5, 6, 7, 8, 9, 10, 11, 12, 13, 14, 15, 16, 17, 18, 19, 20, 21, 22, 23, 24, 25, 26] (fun q => [(0, (vi ((i : Int) - (cnt q : Int)))), (3, (vu64 (UInt64.ofNat q)))]) (fun q m w1 => HP w w1 [] ∧ (1 ≤ q) ∧ (q ≤ 311) ∧ (cnt q ≤ i + 1) ∧ (cnt q ≤ i ∨ (cnt q = i + 1 ∧ primeL.getD i 0 = UInt64.ofNat q)) ∧ m = 312 - q) ⟨1, _, ⟨by rw [cnt_1]; exact congrArg vi (by omega), rfl, trivial⟩, h_0, (Nat.le_refl 1), (by decide), (by rw [cnt_1]; omega), (.inl (by rw [cnt_1]; omega)), rfl⟩ ?_
 rintro q m_3 J_4 w_1 ⟨h_2, hq1, hq2, hcb, hin, rfl⟩
 have hq3 : (0 : Int) ≤ (i : Int) - (cnt q : Int) → q < 311 := fun h => cnt_lt hi (by omega)
 refine WP.seq (WP.seq (WP.reg ?_))
 refine qM (vi ((i : Int) - (cnt q : Int))) rfl rfl (qV rfl (R.bin rfl rfl (bi_geq (r := decide (((i : Int) - (cnt q : Int) : Int) ≥ 0)) rfl)) ?_)
 refine WL.nil (thn_n ?_)
 refine WP.cond (b := decide (((i : Int) - (cnt q : Int) : Int) ≥ 0)) rfl (fun c_5 => ?_) (fun c_5 => ?_)
 ·have p_6 := of_decide_eq_true c_5
  refine WP.skip (thn_n (WP.block (WP.seq (WP.reg ?_))))
  refine qM (vu64 (UInt64.ofNat q)) rfl rfl (qV rfl (R.bin (v := (vu64 (UInt64.ofNat (q + 1)))) rfl rfl ((b64_add (UInt64.ofNat q) 1).trans (congrArg (fun x : UInt64 => some (vu64 x)) (u64_succ q)))) (qA (vu64 (UInt64.ofNat (q + 1))) rfl rfl ?_))
  refine WL.nil (thn_n (WP.seq (WP.reg ?_)))
  refine qA (.bool true) rfl rfl ?_
  refine WL.nil (thn_n (WP.seq (WP.seq (WP.reg ?_))))
  refine qA (vu64 2) rfl rfl ?_
  refine WL.nil (thn_n (WP.block ?_))
  have hq4 := hq3 (by omega)
  refine WP.loopG (G := Nat) [4, 5, 10, 11, 12, 13, 14, 15, 16, 17, 18, 19, 20, 21, 22, 23] (fun k => [(4, (.bool (isK (q + 1) k))), (5, (vu64 (UInt64.ofNat k)))]) (fun k m w1 => HP w w1 [] ∧ (2 ≤ k) ∧ (k ≤ 18) ∧ (k = 2 ∨ (k - 1) * (k - 1) ≤ q + 1) ∧ m = 20 - k) ⟨2, _, ⟨congrArg Value.bool (isK_2 _).symm, rfl, trivial⟩, h_2, (Nat.le_refl 2), (by decide), (.inl rfl), rfl⟩ ?_
  rintro k m_9 J_10 w_7 ⟨h_8, hk2, hk, hk3, rfl⟩
  refine WP.seq (WP.seq (WP.reg ?_))
  refine qM (vu64 (UInt64.ofNat k)) rfl rfl (qM (vu64 (UInt64.ofNat k)) rfl rfl (qV rfl (R.bin rfl rfl (b64_mul (UInt64.ofNat k) (UInt64.ofNat k))) (qM (vu64 (UInt64.ofNat (q + 1))) rfl rfl (qV rfl (R.bin (v := (.bool (decide (((UInt64.ofNat k) * (UInt64.ofNat k) : UInt64) ≤ (UInt64.ofNat (q + 1)))))) rfl rfl (b64_leq ((UInt64.ofNat k) * (UInt64.ofNat k)) (UInt64.ofNat (q + 1)) (r := decide (((UInt64.ofNat k) * (UInt64.ofNat k) : UInt64) ≤ (UInt64.ofNat (q + 1)))) rfl)) ?_))))
  refine WL.nil (thn_n ?_)
  refine WP.cond (b := decide (((UInt64.ofNat k) * (UInt64.ofNat k) : UInt64) ≤ (UInt64.ofNat (q + 1)))) rfl (fun c_11 => ?_) (fun c_11 => ?_)
  ·have p_12 := of_decide_eq_true c_11
   refine WP.skip (thn_n (WP.seq (WP.block (WP.reg ?_))))
   refine qM (.bool (isK (q + 1) k)) rfl rfl (qM (.bool (isK (q + 1) k)) rfl rfl ?_)
   rcases Bool.eq_false_or_eq_true (isK (q + 1) k) with c_13 | c_13
   ·refine WL.want rfl (congrArg Value.bool c_13) ?_
    refine qM (vu64 (UInt64.ofNat (q + 1))) rfl rfl ?_
    refine WL.want rfl (congrArg Value.bool c_13) ?_
    refine qM (vu64 (UInt64.ofNat k)) rfl rfl ?_
    refine WL.want rfl (congrArg Value.bool c_13) ?_
    refine qV rfl (R.bin (v := (vu64 ((UInt64.ofNat (q + 1)) % (UInt64.ofNat k)))) rfl rfl (b64_rem (UInt64.ofNat (q + 1)) (UInt64.ofNat k) (nz64 hk2 (by omega)))) ?_
    refine WL.want rfl (congrArg Value.bool c_13) ?_
    refine qV rfl (R.bin (v := (.bool (decide (((UInt64.ofNat (q + 1)) % (UInt64.ofNat k) : UInt64) ≠ 0)))) rfl rfl (b64_neq ((UInt64.ofNat (q + 1)) % (UInt64.ofNat k)) 0 (r := decide (((UInt64.ofNat (q + 1)) % (UInt64.ofNat k) : UInt64) ≠ 0)) rfl)) (qV rfl (R.pickT (v := (.bool (decide (((UInt64.ofNat (q + 1)) % (UInt64.ofNat k) : UInt64) ≠ 0)))) (congrArg Value.bool c_13) rfl) (qA (.bool (decide (((UInt64.ofNat (q + 1)) % (UInt64.ofNat k) : UInt64) ≠ 0))) rfl rfl ?_))
    refine WL.nil (inb_n (thn_n (WP.reg ?_)))
    refine qM (vu64 (UInt64.ofNat k)) rfl rfl (qV rfl (R.bin (v := (vu64 (UInt64.ofNat (k + 1)))) rfl rfl ((b64_add (UInt64.ofNat k) 1).trans (congrArg (fun x : UInt64 => some (vu64 x)) (u64_succ k)))) (qA (vu64 (UInt64.ofNat (k + 1))) rfl rfl ?_))
    refine WL.nil (thn_n ?_)
    have hk5 := (sq_le (by omega) (by omega)).1 p_12
    have hk6 := sq_bd hk5 (by omega)
    exact ⟨k + 1, _, (by omega), (U4 rfl rfl rfl rfl (U4 rfl rfl rfl rfl (U4 rfl rfl rfl rfl (U4 rfl rfl rfl rfl (Ag.updL rfl (Ag.mix _ _ _)))))), ⟨congrArg Value.bool (isK_t (by omega) (by omega) hk2 c_13), rfl, trivial⟩, h_8, (by omega), (by omega), (.inr (by rw [Nat.add_sub_cancel]; exact hk5)), rfl⟩
   ·refine WL.skip rfl (congrArg Value.bool c_13) rfl ?_
    refine WL.skip rfl (congrArg Value.bool c_13) rfl ?_
    refine WL.skip rfl (congrArg Value.bool c_13) rfl ?_
    refine WL.skip rfl (congrArg Value.bool c_13) rfl ?_
    refine qV rfl (R.pickF (v := (.bool false)) (congrArg Value.bool c_13) rfl) (qA (.bool false) rfl rfl ?_)
    refine WL.nil (inb_n (thn_n (WP.reg ?_)))
    refine qM (vu64 (UInt64.ofNat k)) rfl rfl (qV rfl (R.bin (v := (vu64 (UInt64.ofNat (k + 1)))) rfl rfl ((b64_add (UInt64.ofNat k) 1).trans (congrArg (fun x : UInt64 => some (vu64 x)) (u64_succ k)))) (qA (vu64 (UInt64.ofNat (k + 1))) rfl rfl ?_))
    refine WL.nil (thn_n ?_)
    have hk5 := (sq_le (by omega) (by omega)).1 p_12
    have hk6 := sq_bd hk5 (by omega)
    exact ⟨k + 1, _, (by omega), (U4 rfl rfl rfl rfl (U4 rfl rfl rfl rfl (U4 rfl rfl rfl rfl (U4 rfl rfl rfl rfl (Ag.updL rfl (Ag.mix _ _ _)))))), ⟨congrArg Value.bool (isK_f hk2 c_13), rfl, trivial⟩, h_8, (by omega), (by omega), (.inr (by rw [Nat.add_sub_cancel]; exact hk5)), rfl⟩
  ·have p_14 := of_decide_eq_false c_11
   refine WP.exit (thn_x (thn_x (inb_hit (thn_n (WP.seq (WP.reg ?_))))))
   refine qM (.bool (isK (q + 1) k)) rfl rfl ?_
   refine WL.nil (thn_n ?_)
   refine WP.cond (b := isK (q + 1) k) rfl (fun c_15 => ?_) (fun c_15 => ?_)
   ·refine WP.reg ?_
    refine qM (vi ((i : Int) - (cnt q : Int))) rfl rfl (qV rfl (R.bin rfl rfl (bi_sub (c := ((i : Int) - (cnt q : Int)) - 1) (by omega) (by omega))) (qA (vi (((i : Int) - (cnt q : Int)) - 1)) rfl rfl ?_))
    refine WL.nil (inb_n (thn_n ?_))
    have hq4 := hq3 (by omega)
    have hk5 := fun h => p_14 ((sq_le (by omega) (by omega)).2 h)
    have he := isK_end (n := q + 1) (by omega) (by omega) hk2 (by omega) hk3 hk5
    rw [he] at c_15
    have hc := cnt_yes hq1 hq4 c_15
    have hin2 : cnt (q + 1) ≤ i ∨ (cnt (q + 1) = i + 1 ∧ primeL.getD i 0 = UInt64.ofNat (q + 1)) := by
     by_cases hci : cnt q < i
     ·exact .inl (by omega)
     ·exact .inr ⟨by omega, by rw [← hc.2, show cnt q = i by omega]⟩
    exact ⟨q + 1, _, (by omega), (Ag.upd rfl (U4 rfl rfl rfl rfl (U4 rfl rfl rfl rfl (Ag.updL rfl (Ag.trans (Ag.sub rfl (Ag.mix _ _ _)) (Ag.upd rfl (Ag.upd rfl (Ag.upd rfl (Ag.upd rfl (Ag.upd rfl (Ag.upd rfl (Ag.upd rfl (Ag.updL rfl (Ag.mix _ _ _)))))))))))))), ⟨congrArg vi (by omega), rfl, trivial⟩, h_8, (by omega), (by omega), (by omega), hin2, rfl⟩
   ·refine WP.skip (inb_n (thn_n ?_))
    have hq4 := hq3 (by omega)
    have hk5 := fun h => p_14 ((sq_le (by omega) (by omega)).2 h)
    have he := isK_end (n := q + 1) (by omega) (by omega) hk2 (by omega) hk3 hk5
    rw [he] at c_15
    have hc := cnt_no hq1 hq4 c_15
    exact ⟨q + 1, _, (by omega), (U2 rfl rfl (U4 rfl rfl rfl rfl (Ag.updL rfl (Ag.trans (Ag.sub rfl (Ag.mix _ _ _)) (Ag.upd rfl (Ag.upd rfl (Ag.upd rfl (Ag.upd rfl (Ag.upd rfl (Ag.upd rfl (Ag.upd rfl (Ag.updL rfl (Ag.mix _ _ _))))))))))))), ⟨congrArg vi (by omega), rfl, trivial⟩, h_8, (by omega), (by omega), (by omega), (.inl (by omega)), rfl⟩
 ·have p_16 := of_decide_eq_false c_5
  refine WP.exit (thn_x (thn_x (inb_hit (thn_n (WP.seq (WP.reg ?_))))))
  refine qM (vu64 (UInt64.ofNat q)) rfl rfl (qA (vu64 (UInt64.ofNat q)) rfl rfl ?_)
  refine WL.nil (thn_n (WP.ret ?_))
  refine ret_of Try.results139 (RV.tmp (v := (vu64 (UInt64.ofNat q))) rfl RV.nil) ?_
  have hx : cnt q = i + 1 := by omega
  have hy : primeL.getD i 0 = UInt64.ofNat q := hin.elim (fun h => by omega) (fun h => h.2)
  exact ⟨by rw [hy]; rfl, h_2.chgS⟩

theorem c_power2 (x p : UInt64) (w : World) :
  Cs Try.prog 146 [(vu64 x), (vi 2), (vu64 p)].toArray w (fun v w1 => v = (.bool (pow2 x p)) ∧ Chg w w1 []) := by
 refine Cs.of (n := 79) (args := [(vu64 x), (vi 2), (vu64 p)]) Try.func146 rfl rfl rfl ?_
 have h_0 := HP.init w
 refine WP.seq (WP.reg ?_)
 refine qA (.bool false) rfl rfl ?_
 refine WL.nil (thn_n (WP.seq (WP.reg ?_)))
 refine qM (vu64 x) rfl rfl (qM (vu64 x) rfl rfl ?_)
 refine WL.call Try.call144 rfl rfl (c_Mul64 x x _ ) rfl ?_
 rintro _ w_2 ⟨rfl, hc_1⟩
 have h_3 := h_0.same hc_1
 refine qM (.tuple [(vu64 (mulHi x x)), (vu64 (x * x))].toArray) rfl rfl (qV rfl (R.extract rfl rfl) (qV rfl (R.extract rfl rfl) (qA (vu64 (mulHi x x)) rfl rfl (qA (vu64 (x * x)) rfl rfl ?_))))
 refine WL.nil (thn_n (WP.seq (WP.seq (WP.reg ?_))))
 refine qM (vi 2) rfl rfl (qV rfl (R.bin rfl rfl (bi_eql (r := true) (by decide))) ?_)
 refine WL.nil (thn_n ?_)
 refine WP.condT rfl ?_
 refine WP.seq (WP.reg ?_)
 refine qM (vu64 (mulHi x x)) rfl rfl (qM (vu64 p) rfl rfl (qV rfl (R.bin (v := (.bool (decide ((mulHi x x : UInt64) < p)))) rfl rfl (b64_lss (mulHi x x) p (r := decide ((mulHi x x : UInt64) < p)) rfl)) (qM (.bool (decide ((mulHi x x : UInt64) < p))) rfl rfl ?_)))
 rcases Bool.eq_false_or_eq_true (decide ((mulHi x x : UInt64) < p)) with c_4 | c_4
 ·have p_5 := of_decide_eq_true c_4
  refine WL.skip rfl (congrArg Value.bool c_4) rfl ?_
  refine WL.skip rfl (congrArg Value.bool c_4) rfl ?_
  refine WL.skip rfl (congrArg Value.bool c_4) rfl ?_
  refine WL.skip rfl (congrArg Value.bool c_4) rfl ?_
  refine WL.skipU rfl rfl rfl ?_
  refine WL.skipU rfl rfl rfl ?_
  refine WL.skip rfl (congrArg Value.bool c_4) rfl ?_
  refine qV rfl (R.pickT (v := (.bool true)) (congrArg Value.bool c_4) rfl) (qA (.bool true) rfl rfl ?_)
  refine WL.nil (thn_n (WP.ret (thn_r ?_)))
  refine ret_of Try.results146 (RV.tmp (v := (.bool true)) rfl RV.nil) ?_
  exact ⟨congrArg Value.bool (by simp only [pow2, c_4]; rfl), h_3.chgS⟩
 ·have p_6 := of_decide_eq_false c_4
  refine WL.want rfl (congrArg Value.bool c_4) ?_
  refine qM (vu64 (mulHi x x)) rfl rfl ?_
  refine WL.want rfl (congrArg Value.bool c_4) ?_
  refine qM (vu64 p) rfl rfl ?_
  refine WL.want rfl (congrArg Value.bool c_4) ?_
  refine qV rfl (R.bin (v := (.bool (decide ((mulHi x x : UInt64) = p)))) rfl rfl (b64_eql (mulHi x x) p (r := decide ((mulHi x x : UInt64) = p)) rfl)) ?_
  refine WL.want rfl (congrArg Value.bool c_4) ?_
  refine qM (.bool (decide ((mulHi x x : UInt64) = p))) rfl rfl ?_
  rcases Bool.eq_false_or_eq_true (decide ((mulHi x x : UInt64) = p)) with c_7 | c_7
  ·have p_8 := of_decide_eq_true c_7
   refine WL.want rfl (congrArg Value.bool c_7) ?_
   refine qM (vu64 (x * x)) rfl rfl ?_
   refine WL.want rfl (congrArg Value.bool c_7) ?_
   refine qV rfl (R.bin (v := (.bool (decide ((x * x : UInt64) = 0)))) rfl rfl (b64_eql (x * x) 0 (r := decide ((x * x : UInt64) = 0)) rfl)) ?_
   refine WL.want rfl (congrArg Value.bool c_4) ?_
   refine qV rfl (R.pickT (v := (.bool (decide ((x * x : UInt64) = 0)))) (congrArg Value.bool c_7) rfl) (qV rfl (R.pickF (v := (.bool (decide ((x * x : UInt64) = 0)))) (congrArg Value.bool c_4) rfl) (qA (.bool (decide ((x * x : UInt64) = 0))) rfl rfl ?_))
   refine WL.nil (thn_n (WP.ret (thn_r ?_)))
   refine ret_of Try.results146 (RV.tmp (v := (.bool (decide ((x * x : UInt64) = 0)))) rfl RV.nil) ?_
   exact ⟨congrArg Value.bool (by simp only [pow2, c_4, c_7]; rfl), h_3.chgS⟩
  ·have p_9 := of_decide_eq_false c_7
   refine WL.skip rfl (congrArg Value.bool c_7) rfl ?_
   refine WL.skip rfl (congrArg Value.bool c_7) rfl ?_
   refine WL.want rfl (congrArg Value.bool c_4) ?_
   refine qV rfl (R.pickF (v := (.bool false)) (congrArg Value.bool c_7) rfl) (qV rfl (R.pickF (v := (.bool false)) (congrArg Value.bool c_4) rfl) (qA (.bool false) rfl rfl ?_))
   refine WL.nil (thn_n (WP.ret (thn_r ?_)))
   refine ret_of Try.results146 (RV.tmp (v := (.bool false)) rfl RV.nil) ?_
   exact ⟨congrArg Value.bool (by simp only [pow2, c_4, c_7]; rfl), h_3.chgS⟩

theorem c_power3 (x p : UInt64) (w : World) :
  Cs Try.prog 146 [(vu64 x), (vi 3), (vu64 p)].toArray w (fun v w1 => v = (.bool (pow3 x p)) ∧ Chg w w1 []) := by
 refine Cs.of (n := 79) (args := [(vu64 x), (vi 3), (vu64 p)]) Try.func146 rfl rfl rfl ?_
 have h_0 := HP.init w
 refine WP.seq (WP.reg ?_)
 refine qA (.bool false) rfl rfl ?_
 refine WL.nil (thn_n (WP.seq (WP.reg ?_)))
 refine qM (vu64 x) rfl rfl (qM (vu64 x) rfl rfl ?_)
 refine WL.call Try.call144 rfl rfl (c_Mul64 x x _ ) rfl ?_
 rintro _ w_2 ⟨rfl, hc_1⟩
 have h_3 := h_0.same hc_1
 refine qM (.tuple [(vu64 (mulHi x x)), (vu64 (x * x))].toArray) rfl rfl (qV rfl (R.extract rfl rfl) (qV rfl (R.extract rfl rfl) (qA (vu64 (mulHi x x)) rfl rfl (qA (vu64 (x * x)) rfl rfl ?_))))
 refine WL.nil (thn_n (WP.seq (WP.seq (WP.reg ?_))))
 refine qM (vi 3) rfl rfl (qV rfl (R.bin rfl rfl (bi_eql (r := false) (by decide))) ?_)
 refine WL.nil (thn_n ?_)
 refine WP.condF rfl ?_
 refine WP.skip (thn_n (WP.seq (WP.reg ?_)))
 refine qM (vu64 (x * x)) rfl rfl (qM (vu64 x) rfl rfl ?_)
 refine WL.call Try.call144 rfl rfl (c_Mul64 (x * x) x _ ) rfl ?_
 rintro _ w_5 ⟨rfl, hc_4⟩
 have h_6 := h_3.same hc_4
 refine qM (.tuple [(vu64 (mulHi (x * x) x)), (vu64 ((x * x) * x))].toArray) rfl rfl (qV rfl (R.extract rfl rfl) (qV rfl (R.extract rfl rfl) (qA (vu64 (mulHi (x * x) x)) rfl rfl (qA (vu64 ((x * x) * x)) rfl rfl ?_))))
 refine WL.nil (thn_n (WP.seq (WP.reg ?_)))
 refine qM (vu64 (mulHi x x)) rfl rfl (qM (vu64 x) rfl rfl ?_)
 refine WL.call Try.call144 rfl rfl (c_Mul64 (mulHi x x) x _ ) rfl ?_
 rintro _ w_8 ⟨rfl, hc_7⟩
 have h_9 := h_6.same hc_7
 refine qM (.tuple [(vu64 (mulHi (mulHi x x) x)), (vu64 ((mulHi x x) * x))].toArray) rfl rfl (qV rfl (R.extract rfl rfl) (qV rfl (R.extract rfl rfl) (qA (vu64 (mulHi (mulHi x x) x)) rfl rfl (qA (vu64 ((mulHi x x) * x)) rfl rfl ?_))))
 refine WL.nil (thn_n (WP.seq (WP.reg ?_)))
 refine qM (vu64 (mulHi (x * x) x)) rfl rfl (qM (vu64 ((mulHi x x) * x)) rfl rfl (qV rfl (R.native (al := [(vu64 (mulHi (x * x) x)), (vu64 ((mulHi x x) * x)), (vu64 0)]) (v := (.tuple [(vu64 ((mulHi (x * x) x) + ((mulHi x x) * x))), (vu64 (cry (mulHi (x * x) x) ((mulHi x x) * x)))].toArray)) rfl rfl (nat_add64 Try.func145 (by kernel_rfl) (by kernel_rfl) (by kernel_rfl) (by kernel_rfl) (mulHi (x * x) x) ((mulHi x x) * x))) (qM (.tuple [(vu64 ((mulHi (x * x) x) + ((mulHi x x) * x))), (vu64 (cry (mulHi (x * x) x) ((mulHi x x) * x)))].toArray) rfl rfl (qV rfl (R.extract rfl rfl) (qV rfl (R.extract rfl rfl) (qA (vu64 ((mulHi (x * x) x) + ((mulHi x x) * x))) rfl rfl (qA (vu64 (cry (mulHi (x * x) x) ((mulHi x x) * x))) rfl rfl ?_)))))))
 refine WL.nil (thn_n (WP.seq (WP.reg ?_)))
 refine qM (vu64 (mulHi (mulHi x x) x)) rfl rfl (qM (vu64 (cry (mulHi (x * x) x) ((mulHi x x) * x))) rfl rfl (qV rfl (R.bin rfl rfl (b64_add (mulHi (mulHi x x) x) (cry (mulHi (x * x) x) ((mulHi x x) * x)))) (qA (vu64 ((mulHi (mulHi x x) x) + (cry (mulHi (x * x) x) ((mulHi x x) * x)))) rfl rfl ?_)))
 refine WL.nil (thn_n (WP.seq (WP.seq (WP.reg ?_))))
 refine qM (vu64 ((mulHi (mulHi x x) x) + (cry (mulHi (x * x) x) ((mulHi x x) * x)))) rfl rfl (qM (vu64 p) rfl rfl (qV rfl (R.binR (v := vu64 (shr64 p 32)) rfl rfl (run_shr64 _ _ _ p _ 32)) (qV rfl (R.bin (v := (.bool (decide (((mulHi (mulHi x x) x) + (cry (mulHi (x * x) x) ((mulHi x x) * x)) : UInt64) ≠ (shr64 p 32))))) rfl rfl (b64_neq ((mulHi (mulHi x x) x) + (cry (mulHi (x * x) x) ((mulHi x x) * x))) (shr64 p 32) (r := decide (((mulHi (mulHi x x) x) + (cry (mulHi (x * x) x) ((mulHi x x) * x)) : UInt64) ≠ (shr64 p 32))) rfl)) ?_)))
 refine WL.nil (thn_n ?_)
 refine WP.cond (b := decide (((mulHi (mulHi x x) x) + (cry (mulHi (x * x) x) ((mulHi x x) * x)) : UInt64) ≠ (shr64 p 32))) rfl (fun c_10 => ?_) (fun c_10 => ?_)
 ·have p_11 := of_decide_eq_true c_10
  refine WP.seq (WP.reg ?_)
  refine qM (vu64 ((mulHi (mulHi x x) x) + (cry (mulHi (x * x) x) ((mulHi x x) * x)))) rfl rfl (qM (vu64 p) rfl rfl (qV rfl (R.binR (v := vu64 (shr64 p 32)) rfl rfl (run_shr64 _ _ _ p _ 32)) (qV rfl (R.bin (v := (.bool (decide (((mulHi (mulHi x x) x) + (cry (mulHi (x * x) x) ((mulHi x x) * x)) : UInt64) < (shr64 p 32))))) rfl rfl (b64_lss ((mulHi (mulHi x x) x) + (cry (mulHi (x * x) x) ((mulHi x x) * x))) (shr64 p 32) (r := decide (((mulHi (mulHi x x) x) + (cry (mulHi (x * x) x) ((mulHi x x) * x)) : UInt64) < (shr64 p 32))) rfl)) (qA (.bool (decide (((mulHi (mulHi x x) x) + (cry (mulHi (x * x) x) ((mulHi x x) * x)) : UInt64) < (shr64 p 32)))) rfl rfl ?_))))
  refine WL.nil (thn_n (WP.ret (thn_r ?_)))
  refine ret_of Try.results146 (RV.tmp (v := (.bool (decide (((mulHi (mulHi x x) x) + (cry (mulHi (x * x) x) ((mulHi x x) * x)) : UInt64) < (shr64 p 32))))) rfl RV.nil) ?_
  exact ⟨congrArg Value.bool (by unfold pow3 cubM cubN; rw [if_pos p_11]), h_9.chgS⟩
 ·have p_12 := of_decide_eq_false c_10
  refine WP.skip (thn_n (WP.seq (WP.reg ?_)))
  refine qM (vu64 ((mulHi (x * x) x) + ((mulHi x x) * x))) rfl rfl (qM (vu64 p) rfl rfl (qV rfl (R.binR (v := vu64 (shl64 p 32)) rfl rfl (run_shl64 _ _ _ p _ 32)) (qV rfl (R.bin (v := (.bool (decide (((mulHi (x * x) x) + ((mulHi x x) * x) : UInt64) < (shl64 p 32))))) rfl rfl (b64_lss ((mulHi (x * x) x) + ((mulHi x x) * x)) (shl64 p 32) (r := decide (((mulHi (x * x) x) + ((mulHi x x) * x) : UInt64) < (shl64 p 32))) rfl)) (qM (.bool (decide (((mulHi (x * x) x) + ((mulHi x x) * x) : UInt64) < (shl64 p 32)))) rfl rfl ?_))))
  rcases Bool.eq_false_or_eq_true (decide (((mulHi (x * x) x) + ((mulHi x x) * x) : UInt64) < (shl64 p 32))) with c_13 | c_13
  ·have p_14 := of_decide_eq_true c_13
   refine WL.skip rfl (congrArg Value.bool c_13) rfl ?_
   refine WL.skip rfl (congrArg Value.bool c_13) rfl ?_
   refine WL.skip rfl (congrArg Value.bool c_13) rfl ?_
   refine WL.skip rfl (congrArg Value.bool c_13) rfl ?_
   refine WL.skip rfl (congrArg Value.bool c_13) rfl ?_
   refine WL.skipU rfl rfl rfl ?_
   refine WL.skipU rfl rfl rfl ?_
   refine WL.skip rfl (congrArg Value.bool c_13) rfl ?_
   refine qV rfl (R.pickT (v := (.bool true)) (congrArg Value.bool c_13) rfl) (qA (.bool true) rfl rfl ?_)
   refine WL.nil (thn_n (WP.ret ?_))
   refine ret_of Try.results146 (RV.tmp (v := (.bool true)) rfl RV.nil) ?_
   exact ⟨congrArg Value.bool (by unfold pow3 cubM cubN; rw [if_neg p_12]; simp only [c_13]; rfl), h_9.chgS⟩
  ·have p_15 := of_decide_eq_false c_13
   refine WL.want rfl (congrArg Value.bool c_13) ?_
   refine qM (vu64 ((mulHi (x * x) x) + ((mulHi x x) * x))) rfl rfl ?_
   refine WL.want rfl (congrArg Value.bool c_13) ?_
   refine qM (vu64 p) rfl rfl ?_
   refine WL.want rfl (congrArg Value.bool c_13) ?_
   refine qV rfl (R.binR (v := vu64 (shl64 p 32)) rfl rfl (run_shl64 _ _ _ p _ 32)) ?_
   refine WL.want rfl (congrArg Value.bool c_13) ?_
   refine qV rfl (R.bin (v := (.bool (decide (((mulHi (x * x) x) + ((mulHi x x) * x) : UInt64) = (shl64 p 32))))) rfl rfl (b64_eql ((mulHi (x * x) x) + ((mulHi x x) * x)) (shl64 p 32) (r := decide (((mulHi (x * x) x) + ((mulHi x x) * x) : UInt64) = (shl64 p 32))) rfl)) ?_
   refine WL.want rfl (congrArg Value.bool c_13) ?_
   refine qM (.bool (decide (((mulHi (x * x) x) + ((mulHi x x) * x) : UInt64) = (shl64 p 32)))) rfl rfl ?_
   rcases Bool.eq_false_or_eq_true (decide (((mulHi (x * x) x) + ((mulHi x x) * x) : UInt64) = (shl64 p 32))) with c_16 | c_16
   ·have p_17 := of_decide_eq_true c_16
    refine WL.want rfl (congrArg Value.bool c_16) ?_
    refine qM (vu64 ((x * x) * x)) rfl rfl ?_
    refine WL.want rfl (congrArg Value.bool c_16) ?_
    refine qV rfl (R.bin (v := (.bool (decide (((x * x) * x : UInt64) = 0)))) rfl rfl (b64_eql ((x * x) * x) 0 (r := decide (((x * x) * x : UInt64) = 0)) rfl)) ?_
    refine WL.want rfl (congrArg Value.bool c_13) ?_
    refine qV rfl (R.pickT (v := (.bool (decide (((x * x) * x : UInt64) = 0)))) (congrArg Value.bool c_16) rfl) (qV rfl (R.pickF (v := (.bool (decide (((x * x) * x : UInt64) = 0)))) (congrArg Value.bool c_13) rfl) (qA (.bool (decide (((x * x) * x : UInt64) = 0))) rfl rfl ?_))
    refine WL.nil (thn_n (WP.ret ?_))
    refine ret_of Try.results146 (RV.tmp (v := (.bool (decide (((x * x) * x : UInt64) = 0)))) rfl RV.nil) ?_
    exact ⟨congrArg Value.bool (by unfold pow3 cubM cubN; rw [if_neg p_12]; simp only [c_13, c_16]; rfl), h_9.chgS⟩
   ·have p_18 := of_decide_eq_false c_16
    refine WL.skip rfl (congrArg Value.bool c_16) rfl ?_
    refine WL.skip rfl (congrArg Value.bool c_16) rfl ?_
    refine WL.want rfl (congrArg Value.bool c_13) ?_
    refine qV rfl (R.pickF (v := (.bool false)) (congrArg Value.bool c_16) rfl) (qV rfl (R.pickF (v := (.bool false)) (congrArg Value.bool c_13) rfl) (qA (.bool false) rfl rfl ?_))
    refine WL.nil (thn_n (WP.ret ?_))
    refine ret_of Try.results146 (RV.tmp (v := (.bool false)) rfl RV.nil) ?_
    exact ⟨congrArg Value.bool (by unfold pow3 cubM cubN; rw [if_neg p_12]; simp only [c_13, c_16]; rfl), h_9.chgS⟩

theorem c_rootR2 (p : UInt64) (w : World) :
  Cs Try.prog 138 [(vu64 p), (vi 2)].toArray w (fun v w1 => v = (vu32 (rootR (fun x => pow2 x p))) ∧ Chg w w1 []) := by
 refine Cs.of (n := 24) (args := [(vu64 p), (vi 2)]) Try.func138 rfl rfl rfl ?_
 have h_0 := HP.init w
 refine WP.seq (WP.reg ?_)
 refine qA (vu32 0) rfl rfl ?_
 refine WL.nil (thn_n (WP.seq (WP.reg ?_)))
 refine qA (vu64 0) rfl rfl ?_
 refine WL.nil (thn_n (WP.seq (WP.seq (WP.reg ?_))))
 refine qA (vi 37) rfl rfl ?_
 refine WL.nil (thn_n (WP.block ?_))
 refine WP.loopG (G := Nat) [5, 6, 7, 8, 9, 10, 11, 12, 13, 14, 15, 16, 17, 18, 19, 20, 21] (fun j => [(5, (vu64 (rgF (fun x => pow2 x p) j))), (6, (vi (37 - (j : Int))))]) (fun j m w1 => HP w w1 [] ∧ (j ≤ 38) ∧ m = 38 - j) ⟨0, _, ⟨rfl, rfl, trivial⟩, h_0, (by omega), rfl⟩ ?_
 rintro j m_3 J_4 w_1 ⟨h_2, hj, rfl⟩
 have ek : j < 38 → (UInt64.ofNat (37 - j)).toNat = 37 - j := fun _ => nat64 (by omega)
 refine WP.seq (WP.seq (WP.reg ?_))
 refine qM (vi (37 - (j : Int))) rfl rfl (qV rfl (R.bin rfl rfl (bi_geq (r := decide ((37 - (j : Int) : Int) ≥ 0)) rfl)) ?_)
 refine WL.nil (thn_n ?_)
 refine WP.cond (b := decide ((37 - (j : Int) : Int) ≥ 0)) rfl (fun c_5 => ?_) (fun c_5 => ?_)
 ·have p_6 := of_decide_eq_true c_5
  refine WP.skip (thn_n (WP.seq (WP.block (WP.seq (WP.reg ?_)))))
  refine qM (vu64 (rgF (fun x => pow2 x p) j)) rfl rfl (qV rfl (R.move (v := (vn (37 - j))) (congrArg vi (show (37 : Int) - (j : Int) = ((37 - j : Nat) : Int) by omega))) (qV rfl (R.conv (b := ((UInt64.ofNat (37 - j)) : UInt64).toNat) rfl Try.underlying3 Try.underlying168 (w64_nat (37 - j))) (qV rfl (R.binR (v := vu64 (shl64 1 ((UInt64.ofNat (37 - j)).toNat))) rfl rfl (run_shl64 _ _ _ 1 _ ((UInt64.ofNat (37 - j)).toNat))) (qV rfl (R.bin rfl rfl (b64_add (rgF (fun x => pow2 x p) j) (shl64 1 ((UInt64.ofNat (37 - j)).toNat)))) (qA (vu64 ((rgF (fun x => pow2 x p) j) + (shl64 1 ((UInt64.ofNat (37 - j)).toNat)))) rfl rfl ?_)))))
  refine WL.nil (thn_n (WP.seq (WP.reg ?_)))
  refine qM (vu64 ((rgF (fun x => pow2 x p) j) + (shl64 1 ((UInt64.ofNat (37 - j)).toNat)))) rfl rfl (qM (vi 2) rfl rfl (qM (vu64 p) rfl rfl ?_))
  refine WL.call Try.call146 rfl rfl (c_power2 ((rgF (fun x => pow2 x p) j) + (shl64 1 ((UInt64.ofNat (37 - j)).toNat))) p _ ) rfl ?_
  rintro _ w_8 ⟨rfl, hc_7⟩
  have h_9 := h_2.same hc_7
  refine WL.nil (thn_n ?_)
  refine WP.cond (b := pow2 ((rgF (fun x => pow2 x p) j) + (shl64 1 ((UInt64.ofNat (37 - j)).toNat))) p) rfl (fun c_10 => ?_) (fun c_10 => ?_)
  ·refine WP.reg ?_
   refine qM (vu64 ((rgF (fun x => pow2 x p) j) + (shl64 1 ((UInt64.ofNat (37 - j)).toNat)))) rfl rfl (qA (vu64 ((rgF (fun x => pow2 x p) j) + (shl64 1 ((UInt64.ofNat (37 - j)).toNat)))) rfl rfl ?_)
   refine WL.nil (inb_n (thn_n (WP.reg ?_)))
   refine qM (vi (37 - (j : Int))) rfl rfl (qV rfl (R.bin rfl rfl (bi_sub (c := (37 - (j : Int)) - 1) (by omega) (by omega))) (qA (vi ((37 - (j : Int)) - 1)) rfl rfl ?_))
   refine WL.nil (thn_n ?_)
   rw [ek (by omega)] at c_10
   exact ⟨j + 1, _, (by omega), (Ag.upd rfl (U4 rfl rfl rfl rfl (U4 rfl rfl rfl rfl (U4 rfl rfl rfl rfl (U4 rfl rfl rfl rfl (Ag.updL rfl (Ag.mix _ _ _))))))), ⟨congrArg (fun x : UInt64 => vu64 x) (by rw [ek (by omega)]; exact rg_yes (f := (fun x => pow2 x p)) c_10), congrArg vi (by omega), trivial⟩, h_9, (by omega), rfl⟩
  ·refine WP.skip (inb_n (thn_n (WP.reg ?_)))
   refine qM (vi (37 - (j : Int))) rfl rfl (qV rfl (R.bin rfl rfl (bi_sub (c := (37 - (j : Int)) - 1) (by omega) (by omega))) (qA (vi ((37 - (j : Int)) - 1)) rfl rfl ?_))
   refine WL.nil (thn_n ?_)
   rw [ek (by omega)] at c_10
   exact ⟨j + 1, _, (by omega), (Ag.upd rfl (U2 rfl rfl (U4 rfl rfl rfl rfl (U4 rfl rfl rfl rfl (U4 rfl rfl rfl rfl (Ag.updL rfl (Ag.mix _ _ _))))))), ⟨congrArg (fun x : UInt64 => vu64 x) (rg_no (f := (fun x => pow2 x p)) c_10), congrArg vi (by omega), trivial⟩, h_9, (by omega), rfl⟩
 ·have p_11 := of_decide_eq_false c_5
  refine WP.exit (thn_x (thn_x (inb_hit (thn_n (WP.seq (WP.reg ?_))))))
  refine qM (vu64 (rgF (fun x => pow2 x p) j)) rfl rfl (qV rfl (R.conv (b := ((UInt32.ofNat ((rgF (fun x => pow2 x p) j).toNat)) : UInt32).toNat) rfl Try.underlying28 Try.underlying170 (w32_nat ((rgF (fun x => pow2 x p) j).toNat))) (qA (vu32 (UInt32.ofNat ((rgF (fun x => pow2 x p) j).toNat))) rfl rfl ?_))
  refine WL.nil (thn_n (WP.ret ?_))
  refine ret_of Try.results138 (RV.tmp (v := (vu32 (UInt32.ofNat ((rgF (fun x => pow2 x p) j).toNat)))) rfl RV.nil) ?_
  have hj38 : j = 38 := by omega
  subst hj38
  exact ⟨rfl, h_2.chgS⟩

theorem c_rootR3 (p : UInt64) (w : World) :
  Cs Try.prog 138 [(vu64 p), (vi 3)].toArray w (fun v w1 => v = (vu32 (rootR (fun x => pow3 x p))) ∧ Chg w w1 []) := by
 refine Cs.of (n := 24) (args := [(vu64 p), (vi 3)]) Try.func138 rfl rfl rfl ?_
 have h_0 := HP.init w
 refine WP.seq (WP.reg ?_)
 refine qA (vu32 0) rfl rfl ?_
 refine WL.nil (thn_n (WP.seq (WP.reg ?_)))
 refine qA (vu64 0) rfl rfl ?_
 refine WL.nil (thn_n (WP.seq (WP.seq (WP.reg ?_))))
 refine qA (vi 37) rfl rfl ?_
 refine WL.nil (thn_n (WP.block ?_))
 refine WP.loopG (G := Nat) [5, 6, 7, 8, 9, 10, 11, 12, 13, 14, 15, 16, 17, 18, 19, 20, 21] (fun j => [(5, (vu64 (rgF (fun x => pow3 x p) j))), (6, (vi (37 - (j : Int))))]) (fun j m w1 => HP w w1 [] ∧ (j ≤ 38) ∧ m = 38 - j) ⟨0, _, ⟨rfl, rfl, trivial⟩, h_0, (by omega), rfl⟩ ?_
 rintro j m_3 J_4 w_1 ⟨h_2, hj, rfl⟩
 have ek : j < 38 → (UInt64.ofNat (37 - j)).toNat = 37 - j := fun _ => nat64 (by omega)
 refine WP.seq (WP.seq (WP.reg ?_))
 refine qM (vi (37 - (j : Int))) rfl rfl (qV rfl (R.bin rfl rfl (bi_geq (r := decide ((37 - (j : Int) : Int) ≥ 0)) rfl)) ?_)
 refine WL.nil (thn_n ?_)
 refine WP.cond (b := decide ((37 - (j : Int) : Int) ≥ 0)) rfl (fun c_5 => ?_) (fun c_5 => ?_)
 ·have p_6 := of_decide_eq_true c_5
  refine WP.skip (thn_n (WP.seq (WP.block (WP.seq (WP.reg ?_)))))
  refine qM (vu64 (rgF (fun x => pow3 x p) j)) rfl rfl (qV rfl (R.move (v := (vn (37 - j))) (congrArg vi (show (37 : Int) - (j : Int) = ((37 - j : Nat) : Int) by omega))) (qV rfl (R.conv (b := ((UInt64.ofNat (37 - j)) : UInt64).toNat) rfl Try.underlying3 Try.underlying168 (w64_nat (37 - j))) (qV rfl (R.binR (v := vu64 (shl64 1 ((UInt64.ofNat (37 - j)).toNat))) rfl rfl (run_shl64 _ _ _ 1 _ ((UInt64.ofNat (37 - j)).toNat))) (qV rfl (R.bin rfl rfl (b64_add (rgF (fun x => pow3 x p) j) (shl64 1 ((UInt64.ofNat (37 - j)).toNat)))) (qA (vu64 ((rgF (fun x => pow3 x p) j) + (shl64 1 ((UInt64.ofNat (37 - j)).toNat)))) rfl rfl ?_)))))
  refine WL.nil (thn_n (WP.seq (WP.reg ?_)))
  refine qM (vu64 ((rgF (fun x => pow3 x p) j) + (shl64 1 ((UInt64.ofNat (37 - j)).toNat)))) rfl rfl (qM (vi 3) rfl rfl (qM (vu64 p) rfl rfl ?_))
  refine WL.call Try.call146 rfl rfl (c_power3 ((rgF (fun x => pow3 x p) j) + (shl64 1 ((UInt64.ofNat (37 - j)).toNat))) p _ ) rfl ?_
  rintro _ w_8 ⟨rfl, hc_7⟩
  have h_9 := h_2.same hc_7
  refine WL.nil (thn_n ?_)
  refine WP.cond (b := pow3 ((rgF (fun x => pow3 x p) j) + (shl64 1 ((UInt64.ofNat (37 - j)).toNat))) p) rfl (fun c_10 => ?_) (fun c_10 => ?_)
  ·refine WP.reg ?_
   refine qM (vu64 ((rgF (fun x => pow3 x p) j) + (shl64 1 ((UInt64.ofNat (37 - j)).toNat)))) rfl rfl (qA (vu64 ((rgF (fun x => pow3 x p) j) + (shl64 1 ((UInt64.ofNat (37 - j)).toNat)))) rfl rfl ?_)
   refine WL.nil (inb_n (thn_n (WP.reg ?_)))
   refine qM (vi (37 - (j : Int))) rfl rfl (qV rfl (R.bin rfl rfl (bi_sub (c := (37 - (j : Int)) - 1) (by omega) (by omega))) (qA (vi ((37 - (j : Int)) - 1)) rfl rfl ?_))
   refine WL.nil (thn_n ?_)
   rw [ek (by omega)] at c_10
   exact ⟨j + 1, _, (by omega), (Ag.upd rfl (U4 rfl rfl rfl rfl (U4 rfl rfl rfl rfl (U4 rfl rfl rfl rfl (U4 rfl rfl rfl rfl (Ag.updL rfl (Ag.mix _ _ _))))))), ⟨congrArg (fun x : UInt64 => vu64 x) (by rw [ek (by omega)]; exact rg_yes (f := (fun x => pow3 x p)) c_10), congrArg vi (by omega), trivial⟩, h_9, (by omega), rfl⟩
  ·refine WP.skip (inb_n (thn_n (WP.reg ?_)))
   refine qM (vi (37 - (j : Int))) rfl rfl (qV rfl (R.bin rfl rfl (bi_sub (c := (37 - (j : Int)) - 1) (by omega) (by omega))) (qA (vi ((37 - (j : Int)) - 1)) rfl rfl ?_))
   refine WL.nil (thn_n ?_)
   rw [ek (by omega)] at c_10
   exact ⟨j + 1, _, (by omega), (Ag.upd rfl (U2 rfl rfl (U4 rfl rfl rfl rfl (U4 rfl rfl rfl rfl (U4 rfl rfl rfl rfl (Ag.updL rfl (Ag.mix _ _ _))))))), ⟨congrArg (fun x : UInt64 => vu64 x) (rg_no (f := (fun x => pow3 x p)) c_10), congrArg vi (by omega), trivial⟩, h_9, (by omega), rfl⟩
 ·have p_11 := of_decide_eq_false c_5
  refine WP.exit (thn_x (thn_x (inb_hit (thn_n (WP.seq (WP.reg ?_))))))
  refine qM (vu64 (rgF (fun x => pow3 x p) j)) rfl rfl (qV rfl (R.conv (b := ((UInt32.ofNat ((rgF (fun x => pow3 x p) j).toNat)) : UInt32).toNat) rfl Try.underlying28 Try.underlying170 (w32_nat ((rgF (fun x => pow3 x p) j).toNat))) (qA (vu32 (UInt32.ofNat ((rgF (fun x => pow3 x p) j).toNat))) rfl rfl ?_))
  refine WL.nil (thn_n (WP.ret ?_))
  refine ret_of Try.results138 (RV.tmp (v := (vu32 (UInt32.ofNat ((rgF (fun x => pow3 x p) j).toNat)))) rfl RV.nil) ?_
  have hj38 : j = 38 := by omega
  subst hj38
  exact ⟨rfl, h_2.chgS⟩

theorem c_ConstantR_lo (i : Int) (h : i < 0) (w : World) :
  Cs Try.prog 140 [(vi i)].toArray w (fun v w1 => v = (vu32 0) ∧ Chg w w1 []) := by
 refine Cs.of (n := 12) (args := [(vi i)]) Try.func140 rfl rfl rfl ?_
 have h_0 := HP.init w
 refine WP.seq (WP.reg ?_)
 refine qA (vu32 0) rfl rfl ?_
 refine WL.nil (thn_n (WP.seq (WP.seq (WP.reg ?_))))
 refine qM (vi i) rfl rfl (qV rfl (R.bin rfl rfl (bi_lss (r := decide ((i : Int) < 0)) rfl)) (qM (.bool (decide ((i : Int) < 0))) rfl rfl ?_))
 refine WL.skip rfl (congrArg Value.bool (decide_eq_true h)) rfl ?_
 refine WL.skip rfl (congrArg Value.bool (decide_eq_true h)) rfl ?_
 refine qV rfl (R.pickT (v := (.bool true)) (congrArg Value.bool (decide_eq_true h)) rfl) ?_
 refine WL.nil (thn_n ?_)
 refine WP.condT rfl ?_
 refine WP.seq (WP.reg ?_)
 refine qA (vu32 0) rfl rfl ?_
 refine WL.nil (thn_n (WP.ret (thn_r ?_)))
 refine ret_of Try.results140 (RV.tmp (v := (vu32 0)) rfl RV.nil) ?_
 exact ⟨rfl, h_0.chgS⟩

theorem c_ConstantR_hi (i : Int) (h : ¬ i < 0) (h2 : 63 < i) (w : World) :
  Cs Try.prog 140 [(vi i)].toArray w (fun v w1 => v = (vu32 0) ∧ Chg w w1 []) := by
 refine Cs.of (n := 12) (args := [(vi i)]) Try.func140 rfl rfl rfl ?_
 have h_0 := HP.init w
 refine WP.seq (WP.reg ?_)
 refine qA (vu32 0) rfl rfl ?_
 refine WL.nil (thn_n (WP.seq (WP.seq (WP.reg ?_))))
 refine qM (vi i) rfl rfl (qV rfl (R.bin rfl rfl (bi_lss (r := decide ((i : Int) < 0)) rfl)) (qM (.bool (decide ((i : Int) < 0))) rfl rfl ?_))
 refine WL.want rfl (congrArg Value.bool (decide_eq_false h)) ?_
 refine qM (vi i) rfl rfl ?_
 refine WL.want rfl (congrArg Value.bool (decide_eq_false h)) ?_
 refine qV rfl (R.bin rfl rfl (bi_gtr (r := decide ((i : Int) > 63)) rfl)) (qV rfl (R.pickF (v := (.bool (decide ((i : Int) > 63)))) (congrArg Value.bool (decide_eq_false h)) rfl) ?_)
 refine WL.nil (thn_n ?_)
 refine WP.condT (congrArg Value.bool (decide_eq_true h2)) ?_
 refine WP.seq (WP.reg ?_)
 refine qA (vu32 0) rfl rfl ?_
 refine WL.nil (thn_n (WP.ret (thn_r ?_)))
 refine ret_of Try.results140 (RV.tmp (v := (vu32 0)) rfl RV.nil) ?_
 exact ⟨rfl, h_0.chgS⟩

theorem c_ConstantR_n (i : Nat) (h : i < 64) (w : World) :
  Cs Try.prog 140 [(vi ((i : Nat) : Int))].toArray w (fun v w1 => v = (vu32 (kL.getD i 0)) ∧ Chg w w1 []) := by
 refine Cs.of (n := 12) (args := [(vn i)]) Try.func140 rfl rfl rfl ?_
 have h_0 := HP.init w
 refine WP.seq (WP.reg ?_)
 refine qA (vu32 0) rfl rfl ?_
 refine WL.nil (thn_n (WP.seq (WP.seq (WP.reg ?_))))
 refine qM (vn i) rfl rfl (qV rfl (R.bin rfl rfl (bi_lss (r := decide ((((i : Nat) : Int) : Int) < 0)) rfl)) (qM (.bool (decide ((((i : Nat) : Int) : Int) < 0))) rfl rfl ?_))
 refine WL.want rfl (congrArg Value.bool (decide_eq_false (by omega))) ?_
 refine qM (vn i) rfl rfl ?_
 refine WL.want rfl (congrArg Value.bool (decide_eq_false (by omega))) ?_
 refine qV rfl (R.bin rfl rfl (bi_gtr (r := decide ((((i : Nat) : Int) : Int) > 63)) rfl)) (qV rfl (R.pickF (v := (.bool (decide ((((i : Nat) : Int) : Int) > 63)))) (congrArg Value.bool (decide_eq_false (by omega))) rfl) ?_)
 refine WL.nil (thn_n ?_)
 refine WP.condF (congrArg Value.bool (decide_eq_false (by omega))) ?_
 refine WP.skip (thn_n (WP.seq (WP.reg ?_)))
 refine qM (vn i) rfl rfl ?_
 refine WL.call Try.call139 rfl rfl (c_prime i (by omega) _ ) rfl ?_
 rintro _ w_2 ⟨rfl, hc_1⟩
 have h_3 := h_0.same hc_1
 refine WL.call Try.call138 rfl rfl (c_rootR3 (primeL.getD i 0) _ ) rfl ?_
 rintro _ w_5 ⟨rfl, hc_4⟩
 have h_6 := h_3.same hc_4
 refine qA (vu32 (rootR (fun x => pow3 x (primeL.getD i 0)))) rfl rfl ?_
 refine WL.nil (thn_n (WP.ret ?_))
 refine ret_of Try.results140 (RV.tmp (v := (vu32 (rootR (fun x => pow3 x (primeL.getD i 0))))) rfl RV.nil) ?_
 exact ⟨congrArg (fun x : UInt32 => vu32 x) (tabKR i h), h_6.chgS⟩

theorem c_ConstantR (i : Int) (w : World) : Cs Try.prog 140 [vi i].toArray w (fun v w1 => v = vu32 (kAt i) ∧ Chg w w1 []) := by
 by_cases h : i < 0
 ·rw [kAt_no (.inl h)]; exact c_ConstantR_lo i h w
 by_cases h2 : 63 < i
 ·rw [kAt_no (.inr h2)]; exact c_ConstantR_hi i h h2 w
 obtain ⟨q, rfl⟩ : ∃ q : Nat, i = (q : Int) := ⟨i.toNat, by omega⟩
 rw [kAt_nat (by omega)]; exact c_ConstantR_n q (by omega) w

theorem c_StartR_lo (i : Int) (h : i < 0) (w : World) :
  Cs Try.prog 125 [(vi i)].toArray w (fun v w1 => v = (vu32 0) ∧ Chg w w1 []) := by
 refine Cs.of (n := 12) (args := [(vi i)]) Try.func125 rfl rfl rfl ?_
 have h_0 := HP.init w
 refine WP.seq (WP.reg ?_)
 refine qA (vu32 0) rfl rfl ?_
 refine WL.nil (thn_n (WP.seq (WP.seq (WP.reg ?_))))
 refine qM (vi i) rfl rfl (qV rfl (R.bin rfl rfl (bi_lss (r := decide ((i : Int) < 0)) rfl)) (qM (.bool (decide ((i : Int) < 0))) rfl rfl ?_))
 refine WL.skip rfl (congrArg Value.bool (decide_eq_true h)) rfl ?_
 refine WL.skip rfl (congrArg Value.bool (decide_eq_true h)) rfl ?_
 refine qV rfl (R.pickT (v := (.bool true)) (congrArg Value.bool (decide_eq_true h)) rfl) ?_
 refine WL.nil (thn_n ?_)
 refine WP.condT rfl ?_
 refine WP.seq (WP.reg ?_)
 refine qA (vu32 0) rfl rfl ?_
 refine WL.nil (thn_n (WP.ret (thn_r ?_)))
 refine ret_of Try.results125 (RV.tmp (v := (vu32 0)) rfl RV.nil) ?_
 exact ⟨rfl, h_0.chgS⟩

theorem c_StartR_hi (i : Int) (h : ¬ i < 0) (h2 : 7 < i) (w : World) :
  Cs Try.prog 125 [(vi i)].toArray w (fun v w1 => v = (vu32 0) ∧ Chg w w1 []) := by
 refine Cs.of (n := 12) (args := [(vi i)]) Try.func125 rfl rfl rfl ?_
 have h_0 := HP.init w
 refine WP.seq (WP.reg ?_)
 refine qA (vu32 0) rfl rfl ?_
 refine WL.nil (thn_n (WP.seq (WP.seq (WP.reg ?_))))
 refine qM (vi i) rfl rfl (qV rfl (R.bin rfl rfl (bi_lss (r := decide ((i : Int) < 0)) rfl)) (qM (.bool (decide ((i : Int) < 0))) rfl rfl ?_))
 refine WL.want rfl (congrArg Value.bool (decide_eq_false h)) ?_
 refine qM (vi i) rfl rfl ?_
 refine WL.want rfl (congrArg Value.bool (decide_eq_false h)) ?_
 refine qV rfl (R.bin rfl rfl (bi_gtr (r := decide ((i : Int) > 7)) rfl)) (qV rfl (R.pickF (v := (.bool (decide ((i : Int) > 7)))) (congrArg Value.bool (decide_eq_false h)) rfl) ?_)
 refine WL.nil (thn_n ?_)
 refine WP.condT (congrArg Value.bool (decide_eq_true h2)) ?_
 refine WP.seq (WP.reg ?_)
 refine qA (vu32 0) rfl rfl ?_
 refine WL.nil (thn_n (WP.ret (thn_r ?_)))
 refine ret_of Try.results125 (RV.tmp (v := (vu32 0)) rfl RV.nil) ?_
 exact ⟨rfl, h_0.chgS⟩

theorem c_StartR_n (i : Nat) (h : i < 8) (w : World) :
  Cs Try.prog 125 [(vi ((i : Nat) : Int))].toArray w (fun v w1 => v = (vu32 (hL.getD i 0)) ∧ Chg w w1 []) := by
 refine Cs.of (n := 12) (args := [(vn i)]) Try.func125 rfl rfl rfl ?_
 have h_0 := HP.init w
 refine WP.seq (WP.reg ?_)
 refine qA (vu32 0) rfl rfl ?_
 refine WL.nil (thn_n (WP.seq (WP.seq (WP.reg ?_))))
 refine qM (vn i) rfl rfl (qV rfl (R.bin rfl rfl (bi_lss (r := decide ((((i : Nat) : Int) : Int) < 0)) rfl)) (qM (.bool (decide ((((i : Nat) : Int) : Int) < 0))) rfl rfl ?_))
 refine WL.want rfl (congrArg Value.bool (decide_eq_false (by omega))) ?_
 refine qM (vn i) rfl rfl ?_
 refine WL.want rfl (congrArg Value.bool (decide_eq_false (by omega))) ?_
 refine qV rfl (R.bin rfl rfl (bi_gtr (r := decide ((((i : Nat) : Int) : Int) > 7)) rfl)) (qV rfl (R.pickF (v := (.bool (decide ((((i : Nat) : Int) : Int) > 7)))) (congrArg Value.bool (decide_eq_false (by omega))) rfl) ?_)
 refine WL.nil (thn_n ?_)
 refine WP.condF (congrArg Value.bool (decide_eq_false (by omega))) ?_
 refine WP.skip (thn_n (WP.seq (WP.reg ?_)))
 refine qM (vn i) rfl rfl ?_
 refine WL.call Try.call139 rfl rfl (c_prime i (by omega) _ ) rfl ?_
 rintro _ w_2 ⟨rfl, hc_1⟩
 have h_3 := h_0.same hc_1
 refine WL.call Try.call138 rfl rfl (c_rootR2 (primeL.getD i 0) _ ) rfl ?_
 rintro _ w_5 ⟨rfl, hc_4⟩
 have h_6 := h_3.same hc_4
 refine qA (vu32 (rootR (fun x => pow2 x (primeL.getD i 0)))) rfl rfl ?_
 refine WL.nil (thn_n (WP.ret ?_))
 refine ret_of Try.results125 (RV.tmp (v := (vu32 (rootR (fun x => pow2 x (primeL.getD i 0))))) rfl RV.nil) ?_
 exact ⟨congrArg (fun x : UInt32 => vu32 x) (tabHR i h), h_6.chgS⟩

theorem c_StartR (i : Int) (w : World) : Cs Try.prog 125 [vi i].toArray w (fun v w1 => v = vu32 (hAt i) ∧ Chg w w1 []) := by
 by_cases h : i < 0
 ·rw [hAt_no (.inl h)]; exact c_StartR_lo i h w
 by_cases h2 : 7 < i
 ·rw [hAt_no (.inr h2)]; exact c_StartR_hi i h h2 w
 obtain ⟨q, rfl⟩ : ∃ q : Nat, i = (q : Int) := ⟨i.toNat, by omega⟩
 rw [hAt_nat (by omega)]; exact c_StartR_n q (by omega) w

theorem c_ConstantsR  (w : World) :
  Cs Try.prog 126 [].toArray w (fun v w1 => ∃ a cap, v = .slice a 64 cap ∧ Chg w w1 [] ∧ Own w.heap.size w1 170 1 a 64 cap ((kL).map vu32)) := by
 refine Cs.of (n := 13) (args := []) Try.func126 rfl rfl rfl ?_
 have h_0 := HP.init w
 refine WP.seq (WP.reg ?_)
 refine qA (.slice none 0 0) rfl rfl ?_
 refine WL.nil (thn_n (WP.seq (WP.reg ?_)))
 refine qA (.slice none 0 0) rfl rfl ?_
 refine WL.nil (thn_n (WP.seq (WP.seq (WP.reg ?_))))
 refine qA (vi 0) rfl rfl ?_
 refine WL.nil (thn_n (WP.block ?_))
 have h_1 := h_0.rowNil 170 1
 refine WP.loopG (G := Nat × Option Addr × Nat) [1, 2, 3, 4, 5, 6, 7, 8, 9, 10, 11] (fun (k, ra, rc) => [(1, (.slice ra k rc)), (2, (vn k))]) (fun (k, ra, rc) m w1 => HP w w1 [.row ra k rc 170 1 ((kL.take k).map vu32)] ∧ (k ≤ 64) ∧ m = 64 - k) ⟨(0, none, 0), _, ⟨rfl, rfl, trivial⟩, h_1, Nat.zero_le _, rfl⟩ ?_
 rintro ⟨k, ra, rc⟩ m_4 J_5 w_2 ⟨h_3, hk, rfl⟩
 refine WP.seq (WP.seq (WP.reg ?_))
 refine qM (vn k) rfl rfl (qV rfl (R.bin rfl rfl (bi_lss (r := decide ((((k : Nat) : Int) : Int) < 64)) rfl)) ?_)
 refine WL.nil (thn_n ?_)
 refine WP.cond (b := decide ((((k : Nat) : Int) : Int) < 64)) rfl (fun c_6 => ?_) (fun c_6 => ?_)
 ·have p_7 := of_decide_eq_true c_6
  refine WP.skip (thn_n (WP.seq (WP.block (WP.reg ?_))))
  refine qM (.slice ra k rc) rfl rfl (qM (vn k) rfl rfl ?_)
  refine WL.call Try.call140 rfl rfl (c_ConstantR ((k : Nat) : Int) _ ) rfl ?_
  rintro _ w_9 ⟨rfl, hc_8⟩
  have h_10 := h_3.same hc_8
  refine WL.buildSl (vs := [(0, (vu32 (kAt ((k : Nat) : Int))))]) (cs := ([kAt ((k : Nat) : Int)] : List UInt32).map vu32) h_10 Try.underlying186 Try.sizeOf170 (zv Try.typeInfo170 rfl) rfl rfl (by kernel_rfl) rfl (one_u32 _) rfl rfl (fun b_11 w_12 h_13 => ?_)
  refine WL.append (km := k + 1) (xs := (kL.take k).map vu32) (ys := ([kAt ((k : Nat) : Int)] : List UInt32).map vu32) (zs := ((kL.take k) ++ ([kAt ((k : Nat) : Int)] : List UInt32)).map vu32) h_13 rfl rfl el186 (viewB (h_13.ok _ M0) Sg.h) ((len_map (rfl : List.length ([kAt ((k : Nat) : Int)] : List UInt32) = 1)).trans (Nat.mul_one _).symm) (one_u32 _) (by simp only [List.map_append, List.map_nil]) (by omega) (by omega) (by omega) (fun _ _ => Y1) rfl (fun a_14 c_15 w_16 h_17 => ?_)
  refine qA (.slice a_14 (k + 1) c_15) rfl rfl ?_
  refine WL.nil (inb_n (thn_n (WP.reg ?_)))
  refine qM (vn k) rfl rfl (qV rfl (R.bin rfl rfl (bi_add (c := ((k + 1 : Nat) : Int)) (by omega) (by omega))) (qA (vn (k + 1)) rfl rfl ?_))
  refine WL.nil (thn_n ?_)
  have h_18 := h_17.drop rfl
  rw [k_snoc (by omega)] at h_18
  exact ⟨(k + 1, a_14, c_15), _, (by omega), (Ag.upd rfl (U2 rfl rfl (U4 rfl rfl rfl rfl (U4 rfl rfl rfl rfl (Ag.updL rfl (Ag.mix _ _ _)))))), ⟨rfl, rfl, trivial⟩, h_18, (by omega), rfl⟩
 ·have p_19 := of_decide_eq_false c_6
  refine WP.exit (thn_x (thn_x (inb_hit (thn_n (WP.seq (WP.reg ?_))))))
  refine qM (.slice ra k rc) rfl rfl (qA (.slice ra k rc) rfl rfl ?_)
  refine WL.nil (thn_n (WP.ret ?_))
  refine ret_of Try.results126 (RV.tmp (v := (.slice ra k rc)) rfl RV.nil) ?_
  have hk64 : k = 64 := by omega
  subst hk64
  exact ⟨_, _, rfl, h_3.chgS, h_3.own M0⟩
end Go.Proofs.Ytnhppjimimhlkaa

namespace Go.Proofs.Ytnhppjimimhlkaa
open Go.Vc Go.Sh Go.RowKit
set_option maxRecDepth 20000

theorem c_PressR (hh ks : List UInt32) (hhl : hh.length = 8) (hkl : ks.length = 64) (bs : List UInt8) (hl : bs.length = 64) (ak : Option Addr) (kc : Nat) (w : World) (hv : View w ak (ks.map vu32)) :
  Cs Try.prog 128 [(.agg ⟨hh.map vu32⟩), (.agg ⟨bs.map vu8⟩), (.slice ak 64 kc)].toArray w (fun v w1 => v = (.agg ⟨(pressL ks hh bs).map vu32⟩) ∧ Chg w w1 []) := by
 refine Cs.of (n := 204) (args := [(.agg ⟨hh.map vu32⟩), (.agg ⟨bs.map vu8⟩), (.slice ak 64 kc)]) Try.func128 rfl rfl rfl ?_
 have h_0 := HP.init w
 have h_00 := h_0.old (View.arg hv) (fun f hf => by cases hf)
 refine WP.seq (WP.reg ?_)
 refine WL.box (v := (.agg ⟨hh.map vu32⟩)) (segs := [(8, hh.map vu32)]) h_00 rfl rfl (SsOk.cons (SOk.u32 hhl) SsOk.nil) rfl (fun b_1 w_2 h_3 => ?_)
 refine WL.box (v := (.agg ⟨bs.map vu8⟩)) (segs := [(64, bs.map vu8)]) h_3 rfl rfl (SsOk.cons (SOk.u8 hl) SsOk.nil) rfl (fun b_4 w_5 h_6 => ?_)
 refine WL.alloc (segs := [(8, (List.replicate 8 (0 : UInt32)).map vu32)]) h_6 (zv Try.typeInfo172 rfl) rfl (SsOk.cons (SOk.u32 lr) SsOk.nil) rfl (fun b_7 w_8 h_9 => ?_)
 refine WL.nil (thn_n (WP.seq (WP.reg ?_)))
 refine qA (.slice none 0 0) rfl rfl ?_
 refine WL.nil (thn_n (WP.seq (WP.seq (WP.reg ?_))))
 refine qA (vi 0) rfl rfl ?_
 refine WL.nil (thn_n (WP.block ?_))
 have h_10 := h_9.rowNil 170 1
 refine WP.loopG (G := Nat × Option Addr × Nat) [7, 8, 25, 26, 27, 28, 29, 30, 31, 32, 33, 34, 35, 36, 37, 38, 39, 40, 41, 42, 43, 44, 45, 46, 47, 48, 49, 50, 51, 52, 53, 54, 55, 56, 57, 58, 59, 60] (fun (i, ra, rc) => [(7, (.slice ra i rc)), (8, (vn i))]) (fun (i, ra, rc) m w1 => HP w w1 [.row ra i rc 170 1 ((wL bs i).map vu32), .blk b_7 .nw 172 [(8, (List.replicate 8 (0 : UInt32)).map vu32)], .blk b_4 .nw 163 [(64, bs.map vu8)], .blk b_1 .nw 172 [(8, hh.map vu32)], .view ak (ks.map vu32)] ∧ (i ≤ 16) ∧ m = 16 - i) ⟨(0, none, 0), _, ⟨rfl, rfl, trivial⟩, h_10, Nat.zero_le _, rfl⟩ ?_
 rintro ⟨i, ra, rc⟩ m_13 J_14 w_11 ⟨h_12, hi, rfl⟩
 refine WP.seq (WP.seq (WP.reg ?_))
 refine qM (vn i) rfl rfl (qV rfl (R.bin rfl rfl (bi_lss (r := decide ((((i : Nat) : Int) : Int) < 16)) rfl)) ?_)
 refine WL.nil (thn_n ?_)
 refine WP.cond (b := decide ((((i : Nat) : Int) : Int) < 16)) rfl (fun c_15 => ?_) (fun c_15 => ?_)
 ·have p_16 := of_decide_eq_true c_15
  refine WP.skip (thn_n (WP.seq (WP.block ?_)))
  refine WP.drawT (SL w.heap.size [.blk b_7 .nw 172 [(8, (List.replicate 8 (0 : UInt32)).map vu32)], .blk b_4 .nw 163 [(64, bs.map vu8)], .blk b_1 .nw 172 [(8, hh.map vu32)], .view ak (ks.map vu32)]) (.q 0 (.q 1 (.q 2 (.q 3 (.q 4 (.q 5 (.q 6 (.q 7 (.q 8 (.q 9 (.q 10 (.q 11 (.q 12 (.q 13 (.q 14 (.q 15 (.q 16 (.q 17 (.q 18 (.q 19 (.q 20 (.q 21 (.q 22 (.q 23 (.q 24 (.q 25 (.q 26 (.q 27 (.q 28 (.q 29 (.s 30 (.s 31 (.q 32 .nil))))))))))))))))))))))))))))))))) (by kernel_rfl) (by kernel_rfl) rfl (by kernel_rfl) (fun w_17 hc_19 => (SL.cons ((h_12.same hc_19).ok _ M1) (SL.cons ((h_12.same hc_19).ok _ M2) (SL.cons ((h_12.same hc_19).ok _ M3) (SL.cons ((h_12.same hc_19).ok _ M4) (SL.nil _ _)))))) (fun w_17 hc_19 => ?_)
  have h_18 := h_12.same hc_19
  refine qT rfl rfl (fun wq hS => R.move (v := (.slice ra i rc)) rfl) ?_
  refine qT rfl rfl (fun wq hS => R.move (v := (vn i)) rfl) ?_
  refine qT rfl rfl (fun wq hS => R.bin rfl rfl (bi_mul (c := ((4 * i : Nat) : Int)) (by omega) (by omega))) ?_
  refine qT rfl rfl (fun wq hS => R.indexA (b := b_4) (off := 0) (off' := (0 + (4 * i))) (i := 4 * i) rfl rfl rfl (by omega) Try.underlying163 Try.sizeOf5 (by rw [Nat.mul_one])) ?_
  refine qT rfl rfl (fun wq hS => R.loadE (b := b_4) (off := (0 + (4 * i))) (i := 4 * i) (v := (vu8 (bs.getD (4 * i) 0))) rfl Try.isAgg5 (hS _ M1) Sg.h rfl (get_u8 (lt_len (K := 64) hl (by omega)))) ?_
  refine qT rfl rfl (fun wq hS => R.conv (b := ((UInt32.ofNat ((bs.getD (4 * i) 0).toNat)) : UInt32).toNat) rfl Try.underlying5 Try.underlying170 (w32_nat ((bs.getD (4 * i) 0).toNat))) ?_
  refine qT rfl rfl (fun wq hS => R.binR (v := vu32 (shl32 (UInt32.ofNat ((bs.getD (4 * i) 0).toNat)) 24)) rfl rfl (run_shl32 _ _ _ (UInt32.ofNat ((bs.getD (4 * i) 0).toNat)) _ 24)) ?_
  refine qT rfl rfl (fun wq hS => R.move (v := (vn i)) rfl) ?_
  refine qT rfl rfl (fun wq hS => R.bin rfl rfl (bi_mul (c := ((4 * i : Nat) : Int)) (by omega) (by omega))) ?_
  refine qT rfl rfl (fun wq hS => R.bin rfl rfl (bi_add (c := ((4 * i + 1 : Nat) : Int)) (by omega) (by omega))) ?_
  refine qT rfl rfl (fun wq hS => R.indexA (b := b_4) (off := 0) (off' := (0 + (4 * i + 1))) (i := 4 * i + 1) rfl rfl rfl (by omega) Try.underlying163 Try.sizeOf5 (by rw [Nat.mul_one])) ?_
  refine qT rfl rfl (fun wq hS => R.loadE (b := b_4) (off := (0 + (4 * i + 1))) (i := 4 * i + 1) (v := (vu8 (bs.getD (4 * i + 1) 0))) rfl Try.isAgg5 (hS _ M1) Sg.h rfl (get_u8 (lt_len (K := 64) hl (by omega)))) ?_
  refine qT rfl rfl (fun wq hS => R.conv (b := ((UInt32.ofNat ((bs.getD (4 * i + 1) 0).toNat)) : UInt32).toNat) rfl Try.underlying5 Try.underlying170 (w32_nat ((bs.getD (4 * i + 1) 0).toNat))) ?_
  refine qT rfl rfl (fun wq hS => R.binR (v := vu32 (shl32 (UInt32.ofNat ((bs.getD (4 * i + 1) 0).toNat)) 16)) rfl rfl (run_shl32 _ _ _ (UInt32.ofNat ((bs.getD (4 * i + 1) 0).toNat)) _ 16)) ?_
  refine qT rfl rfl (fun wq hS => R.bin rfl rfl (b32_add (shl32 (UInt32.ofNat ((bs.getD (4 * i) 0).toNat)) 24) (shl32 (UInt32.ofNat ((bs.getD (4 * i + 1) 0).toNat)) 16))) ?_
  refine qT rfl rfl (fun wq hS => R.move (v := (vn i)) rfl) ?_
  refine qT rfl rfl (fun wq hS => R.bin rfl rfl (bi_mul (c := ((4 * i : Nat) : Int)) (by omega) (by omega))) ?_
  refine qT rfl rfl (fun wq hS => R.bin rfl rfl (bi_add (c := ((4 * i + 2 : Nat) : Int)) (by omega) (by omega))) ?_
  refine qT rfl rfl (fun wq hS => R.indexA (b := b_4) (off := 0) (off' := (0 + (4 * i + 2))) (i := 4 * i + 2) rfl rfl rfl (by omega) Try.underlying163 Try.sizeOf5 (by rw [Nat.mul_one])) ?_
  refine qT rfl rfl (fun wq hS => R.loadE (b := b_4) (off := (0 + (4 * i + 2))) (i := 4 * i + 2) (v := (vu8 (bs.getD (4 * i + 2) 0))) rfl Try.isAgg5 (hS _ M1) Sg.h rfl (get_u8 (lt_len (K := 64) hl (by omega)))) ?_
  refine qT rfl rfl (fun wq hS => R.conv (b := ((UInt32.ofNat ((bs.getD (4 * i + 2) 0).toNat)) : UInt32).toNat) rfl Try.underlying5 Try.underlying170 (w32_nat ((bs.getD (4 * i + 2) 0).toNat))) ?_
  refine qT rfl rfl (fun wq hS => R.binR (v := vu32 (shl32 (UInt32.ofNat ((bs.getD (4 * i + 2) 0).toNat)) 8)) rfl rfl (run_shl32 _ _ _ (UInt32.ofNat ((bs.getD (4 * i + 2) 0).toNat)) _ 8)) ?_
  refine qT rfl rfl (fun wq hS => R.bin rfl rfl (b32_add ((shl32 (UInt32.ofNat ((bs.getD (4 * i) 0).toNat)) 24) + (shl32 (UInt32.ofNat ((bs.getD (4 * i + 1) 0).toNat)) 16)) (shl32 (UInt32.ofNat ((bs.getD (4 * i + 2) 0).toNat)) 8))) ?_
  refine qT rfl rfl (fun wq hS => R.move (v := (vn i)) rfl) ?_
  refine qT rfl rfl (fun wq hS => R.bin rfl rfl (bi_mul (c := ((4 * i : Nat) : Int)) (by omega) (by omega))) ?_
  refine qT rfl rfl (fun wq hS => R.bin rfl rfl (bi_add (c := ((4 * i + 3 : Nat) : Int)) (by omega) (by omega))) ?_
  refine qT rfl rfl (fun wq hS => R.indexA (b := b_4) (off := 0) (off' := (0 + (4 * i + 3))) (i := 4 * i + 3) rfl rfl rfl (by omega) Try.underlying163 Try.sizeOf5 (by rw [Nat.mul_one])) ?_
  refine qT rfl rfl (fun wq hS => R.loadE (b := b_4) (off := (0 + (4 * i + 3))) (i := 4 * i + 3) (v := (vu8 (bs.getD (4 * i + 3) 0))) rfl Try.isAgg5 (hS _ M1) Sg.h rfl (get_u8 (lt_len (K := 64) hl (by omega)))) ?_
  refine qT rfl rfl (fun wq hS => R.conv (b := ((UInt32.ofNat ((bs.getD (4 * i + 3) 0).toNat)) : UInt32).toNat) rfl Try.underlying5 Try.underlying170 (w32_nat ((bs.getD (4 * i + 3) 0).toNat))) ?_
  refine qT rfl rfl (fun wq hS => R.bin rfl rfl (b32_add (((shl32 (UInt32.ofNat ((bs.getD (4 * i) 0).toNat)) 24) + (shl32 (UInt32.ofNat ((bs.getD (4 * i + 1) 0).toNat)) 16)) + (shl32 (UInt32.ofNat ((bs.getD (4 * i + 2) 0).toNat)) 8)) (UInt32.ofNat ((bs.getD (4 * i + 3) 0).toNat)))) ?_
  refine WT.s (Op1.one rfl (Wn.no rfl) ?_)
  refine WL.buildSl (vs := [(0, (vu32 ((((shl32 (UInt32.ofNat ((bs.getD (4 * i) 0).toNat)) 24) + (shl32 (UInt32.ofNat ((bs.getD (4 * i + 1) 0).toNat)) 16)) + (shl32 (UInt32.ofNat ((bs.getD (4 * i + 2) 0).toNat)) 8)) + (UInt32.ofNat ((bs.getD (4 * i + 3) 0).toNat)))))]) (cs := ([(((shl32 (UInt32.ofNat ((bs.getD (4 * i) 0).toNat)) 24) + (shl32 (UInt32.ofNat ((bs.getD (4 * i + 1) 0).toNat)) 16)) + (shl32 (UInt32.ofNat ((bs.getD (4 * i + 2) 0).toNat)) 8)) + (UInt32.ofNat ((bs.getD (4 * i + 3) 0).toNat))] : List UInt32).map vu32) h_18 Try.underlying186 Try.sizeOf170 (zv Try.typeInfo170 rfl) rfl rfl (by kernel_rfl) rfl (one_u32 _) rfl rfl (fun b_20 w_21 h_22 => ?_)
  refine WL.nil ?_
  refine ⟨(SL.cons (h_22.ok _ M2) (SL.cons (h_22.ok _ M3) (SL.cons (h_22.ok _ M4) (SL.cons (h_22.ok _ M5) (SL.nil _ _))))), ?_⟩
  refine WT.s (Op1.one rfl (Wn.no rfl) ?_)
  refine WL.append (km := i + 1) (xs := (wL bs i).map vu32) (ys := ([(((shl32 (UInt32.ofNat ((bs.getD (4 * i) 0).toNat)) 24) + (shl32 (UInt32.ofNat ((bs.getD (4 * i + 1) 0).toNat)) 16)) + (shl32 (UInt32.ofNat ((bs.getD (4 * i + 2) 0).toNat)) 8)) + (UInt32.ofNat ((bs.getD (4 * i + 3) 0).toNat))] : List UInt32).map vu32) (zs := ((wL bs i) ++ ([(((shl32 (UInt32.ofNat ((bs.getD (4 * i) 0).toNat)) 24) + (shl32 (UInt32.ofNat ((bs.getD (4 * i + 1) 0).toNat)) 16)) + (shl32 (UInt32.ofNat ((bs.getD (4 * i + 2) 0).toNat)) 8)) + (UInt32.ofNat ((bs.getD (4 * i + 3) 0).toNat))] : List UInt32)).map vu32) h_22 rfl rfl el186 (viewB (h_22.ok _ M0) Sg.h) ((len_map (rfl : List.length ([(((shl32 (UInt32.ofNat ((bs.getD (4 * i) 0).toNat)) 24) + (shl32 (UInt32.ofNat ((bs.getD (4 * i + 1) 0).toNat)) 16)) + (shl32 (UInt32.ofNat ((bs.getD (4 * i + 2) 0).toNat)) 8)) + (UInt32.ofNat ((bs.getD (4 * i + 3) 0).toNat))] : List UInt32) = 1)).trans (Nat.mul_one _).symm) (one_u32 _) (by simp only [List.map_append, List.map_nil]) (by omega) (by omega) (by omega) (fun _ _ => Y1) rfl (fun a_23 c_24 w_25 h_26 => ?_)
  refine WL.nil ?_
  refine ⟨(SL.cons (h_26.ok _ M2) (SL.cons (h_26.ok _ M3) (SL.cons (h_26.ok _ M4) (SL.cons (h_26.ok _ M5) (SL.nil _ _))))), ?_⟩
  refine qT rfl rfl (fun wq hS => R.assign (v := (.slice a_23 (i + 1) c_24)) rfl) ?_
  refine WT.nil (inb_n (thn_n (WP.reg ?_)))
  refine qM (vn i) rfl rfl (qV rfl (R.bin rfl rfl (bi_add (c := ((i + 1 : Nat) : Int)) (by omega) (by omega))) (qA (vn (i + 1)) rfl rfl ?_))
  refine WL.nil (thn_n ?_)
  have h_32 := (((((h_26.drop rfl).up J4).up J4).up J4).up J4).up J4
  rw [wL_lo4 (i := i) hl (by omega)] at h_32
  exact ⟨(i + 1, a_23, c_24), _, (by omega), (U2 rfl rfl (U4 rfl rfl rfl rfl (U4 rfl rfl rfl rfl (U4 rfl rfl rfl rfl (U4 rfl rfl rfl rfl (U4 rfl rfl rfl rfl (U4 rfl rfl rfl rfl (U4 rfl rfl rfl rfl (U4 rfl rfl rfl rfl (U4 rfl rfl rfl rfl (Ag.updL rfl (Ag.mix _ _ _)))))))))))), ⟨rfl, rfl, trivial⟩, h_32, (by omega), rfl⟩
 ·have p_33 := of_decide_eq_false c_15
  refine WP.exit (thn_x (thn_x (inb_hit (thn_n (WP.seq (WP.seq (WP.reg ?_)))))))
  refine qA (vi 16) rfl rfl ?_
  refine WL.nil (thn_n (WP.block ?_))
  have hi16 : i = 16 := by omega
  subst hi16
  refine WP.loopG (G := Nat × Option Addr × Nat) [7, 9, 10, 11, 12, 13, 61, 62, 63, 64, 65, 66, 67, 68, 69, 70, 71, 72, 73, 74, 75, 76, 77, 78, 79, 80, 81, 82, 83, 84, 85, 86, 87, 88, 89, 90, 91, 92, 93, 94, 95, 96, 97, 98, 99, 100, 101, 102, 103, 104, 105, 106, 107, 108] (fun (j, ra2, rc2) => [(7, (.slice ra2 j rc2)), (9, (vn j))]) (fun (j, ra2, rc2) m w1 => HP w w1 [.row ra2 j rc2 170 1 ((wL bs j).map vu32), .blk b_7 .nw 172 [(8, (List.replicate 8 (0 : UInt32)).map vu32)], .blk b_4 .nw 163 [(64, bs.map vu8)], .blk b_1 .nw 172 [(8, hh.map vu32)], .view ak (ks.map vu32)] ∧ (16 ≤ j) ∧ (j ≤ 64) ∧ m = 64 - j) ⟨(16, ra, rc), _, ⟨rfl, rfl, trivial⟩, h_12, (by omega), (by omega), rfl⟩ ?_
  rintro ⟨j, ra2, rc2⟩ m_36 J_37 w_34 ⟨h_35, hj, hj2, rfl⟩
  refine WP.seq (WP.seq (WP.reg ?_))
  refine qM (vn j) rfl rfl (qV rfl (R.bin rfl rfl (bi_lss (r := decide ((((j : Nat) : Int) : Int) < 64)) rfl)) ?_)
  refine WL.nil (thn_n ?_)
  refine WP.cond (b := decide ((((j : Nat) : Int) : Int) < 64)) rfl (fun c_38 => ?_) (fun c_38 => ?_)
  ·have p_39 := of_decide_eq_true c_38
   refine WP.skip (thn_n (WP.seq (WP.block (WP.seq ?_))))
   refine WP.drawT (SL w.heap.size [.row ra2 j rc2 170 1 ((wL bs j).map vu32), .blk b_7 .nw 172 [(8, (List.replicate 8 (0 : UInt32)).map vu32)], .blk b_4 .nw 163 [(64, bs.map vu8)], .blk b_1 .nw 172 [(8, hh.map vu32)], .view ak (ks.map vu32)]) (.q 0 (.q 1 (.q 2 (.q 3 (.q 4 (.q 5 (.q 6 (.q 7 (.q 8 (.q 9 (.q 10 (.q 11 .nil)))))))))))) (by kernel_rfl) (by kernel_rfl) rfl (by kernel_rfl) (fun w_40 hc_42 => (SL.cons ((h_35.same hc_42).ok _ M0) (SL.cons ((h_35.same hc_42).ok _ M1) (SL.cons ((h_35.same hc_42).ok _ M2) (SL.cons ((h_35.same hc_42).ok _ M3) (SL.cons ((h_35.same hc_42).ok _ M4) (SL.nil _ _))))))) (fun w_40 hc_42 => ?_)
   have h_41 := h_35.same hc_42
   refine qT rfl rfl (fun wq hS => R.move (v := (.slice ra2 j rc2)) rfl) ?_
   refine qT rfl rfl (fun wq hS => R.move (v := (vn j)) rfl) ?_
   refine qT rfl rfl (fun wq hS => R.bin rfl rfl (bi_sub (c := ((j - 15 : Nat) : Int)) (by omega) (by omega))) ?_
   refine qT rfl rfl (fun wq hS => R.indexS (a := ra2) (i := j - 15) (off := j - 15) (xs := (wL bs j).map vu32) rfl rfl rfl (by omega) (ownView (hS _ M0)) (lt_len (K := j) (len_map (wL_len bs j)) (by omega)) Try.underlying186 Try.sizeOf170 (Nat.mul_one _).symm) ?_
   refine qT rfl rfl (fun wq hS => R.loadG (a := ra2) (i := j - 15) (xs := (wL bs j).map vu32) (v := (vu32 ((wL bs j).getD (j - 15) 0))) rfl (ownView (hS _ M0)) Try.isAgg170 (get_u32 (lt_len (K := j) (wL_len bs j) (by omega)))) ?_
   refine qT rfl rfl (fun wq hS => R.move (v := (.slice ra2 j rc2)) rfl) ?_
   refine qT rfl rfl (fun wq hS => R.move (v := (vn j)) rfl) ?_
   refine qT rfl rfl (fun wq hS => R.bin rfl rfl (bi_sub (c := ((j - 2 : Nat) : Int)) (by omega) (by omega))) ?_
   refine qT rfl rfl (fun wq hS => R.indexS (a := ra2) (i := j - 2) (off := j - 2) (xs := (wL bs j).map vu32) rfl rfl rfl (by omega) (ownView (hS _ M0)) (lt_len (K := j) (len_map (wL_len bs j)) (by omega)) Try.underlying186 Try.sizeOf170 (Nat.mul_one _).symm) ?_
   refine qT rfl rfl (fun wq hS => R.loadG (a := ra2) (i := j - 2) (xs := (wL bs j).map vu32) (v := (vu32 ((wL bs j).getD (j - 2) 0))) rfl (ownView (hS _ M0)) Try.isAgg170 (get_u32 (lt_len (K := j) (wL_len bs j) (by omega)))) ?_
   refine qT rfl rfl (fun wq hS => R.assign (v := (vu32 ((wL bs j).getD (j - 15) 0))) rfl) ?_
   refine qT rfl rfl (fun wq hS => R.assign (v := (vu32 ((wL bs j).getD (j - 2) 0))) rfl) ?_
   refine WT.nil (thn_n (WP.seq (WP.reg ?_)))
   refine qM (vu32 ((wL bs j).getD (j - 15) 0)) rfl rfl ?_
   refine WL.call Try.call141 rfl rfl (c_ror7 ((wL bs j).getD (j - 15) 0) _ ) rfl ?_
   rintro _ w_44 ⟨rfl, hc_43⟩
   have h_45 := h_41.same hc_43
   refine qM (vu32 ((wL bs j).getD (j - 15) 0)) rfl rfl ?_
   refine WL.call Try.call141 rfl rfl (c_ror18 ((wL bs j).getD (j - 15) 0) _ ) rfl ?_
   rintro _ w_47 ⟨rfl, hc_46⟩
   have h_48 := h_45.same hc_46
   refine qV rfl (R.bin rfl rfl (b32_xor (rot ((wL bs j).getD (j - 15) 0) 7) (rot ((wL bs j).getD (j - 15) 0) 18))) (qM (vu32 ((wL bs j).getD (j - 15) 0)) rfl rfl (qV rfl (R.binR (v := vu32 (shr32 ((wL bs j).getD (j - 15) 0) 3)) rfl rfl (run_shr32 _ _ _ ((wL bs j).getD (j - 15) 0) _ 3)) (qV rfl (R.bin rfl rfl (b32_xor ((rot ((wL bs j).getD (j - 15) 0) 7) ^^^ (rot ((wL bs j).getD (j - 15) 0) 18)) (shr32 ((wL bs j).getD (j - 15) 0) 3))) (qA (vu32 (((rot ((wL bs j).getD (j - 15) 0) 7) ^^^ (rot ((wL bs j).getD (j - 15) 0) 18)) ^^^ (shr32 ((wL bs j).getD (j - 15) 0) 3))) rfl rfl ?_))))
   refine WL.nil (thn_n (WP.seq (WP.reg ?_)))
   refine qM (vu32 ((wL bs j).getD (j - 2) 0)) rfl rfl ?_
   refine WL.call Try.call141 rfl rfl (c_ror17 ((wL bs j).getD (j - 2) 0) _ ) rfl ?_
   rintro _ w_50 ⟨rfl, hc_49⟩
   have h_51 := h_48.same hc_49
   refine qM (vu32 ((wL bs j).getD (j - 2) 0)) rfl rfl ?_
   refine WL.call Try.call141 rfl rfl (c_ror19 ((wL bs j).getD (j - 2) 0) _ ) rfl ?_
   rintro _ w_53 ⟨rfl, hc_52⟩
   have h_54 := h_51.same hc_52
   refine qV rfl (R.bin rfl rfl (b32_xor (rot ((wL bs j).getD (j - 2) 0) 17) (rot ((wL bs j).getD (j - 2) 0) 19))) (qM (vu32 ((wL bs j).getD (j - 2) 0)) rfl rfl (qV rfl (R.binR (v := vu32 (shr32 ((wL bs j).getD (j - 2) 0) 10)) rfl rfl (run_shr32 _ _ _ ((wL bs j).getD (j - 2) 0) _ 10)) (qV rfl (R.bin rfl rfl (b32_xor ((rot ((wL bs j).getD (j - 2) 0) 17) ^^^ (rot ((wL bs j).getD (j - 2) 0) 19)) (shr32 ((wL bs j).getD (j - 2) 0) 10))) (qA (vu32 (((rot ((wL bs j).getD (j - 2) 0) 17) ^^^ (rot ((wL bs j).getD (j - 2) 0) 19)) ^^^ (shr32 ((wL bs j).getD (j - 2) 0) 10))) rfl rfl ?_))))
   refine WL.nil (thn_n ?_)
   refine WP.cutG (G := Option Addr × Nat × Nat) [7, 91, 92, 93, 94, 95, 96, 97, 98, 99, 100, 101, 102, 103, 104, 105, 106, 107, 108] (fun (aY12Y17Y0Y0, cY12Y17Y0Y0, bY12Y16Y0Y0) => [(7, (.slice aY12Y17Y0Y0 (j + 1) cY12Y17Y0Y0)), (91, (.slice ra2 j rc2)), (92, (.slice ra2 j rc2)), (93, (vn j)), (94, (vn (j - 16))), (97, (vu32 (((rot ((wL bs j).getD (j - 15) 0) 7) ^^^ (rot ((wL bs j).getD (j - 15) 0) 18)) ^^^ (shr32 ((wL bs j).getD (j - 15) 0) 3)))), (99, (.slice ra2 j rc2)), (100, (vn j)), (101, (vn (j - 7))), (105, (vu32 (((rot ((wL bs j).getD (j - 2) 0) 17) ^^^ (rot ((wL bs j).getD (j - 2) 0) 19)) ^^^ (shr32 ((wL bs j).getD (j - 2) 0) 10)))), (95, (.pointer (some (gA ra2 (j - 16))))), (96, (vu32 ((wL bs j).getD (j - 16) 0))), (98, (vu32 (((wL bs j).getD (j - 16) 0) + (((rot ((wL bs j).getD (j - 15) 0) 7) ^^^ (rot ((wL bs j).getD (j - 15) 0) 18)) ^^^ (shr32 ((wL bs j).getD (j - 15) 0) 3))))), (102, (.pointer (some (gA ra2 (j - 7))))), (103, (vu32 ((wL bs j).getD (j - 7) 0))), (104, (vu32 ((((wL bs j).getD (j - 16) 0) + (((rot ((wL bs j).getD (j - 15) 0) 7) ^^^ (rot ((wL bs j).getD (j - 15) 0) 18)) ^^^ (shr32 ((wL bs j).getD (j - 15) 0) 3))) + ((wL bs j).getD (j - 7) 0)))), (106, (vu32 (((((wL bs j).getD (j - 16) 0) + (((rot ((wL bs j).getD (j - 15) 0) 7) ^^^ (rot ((wL bs j).getD (j - 15) 0) 18)) ^^^ (shr32 ((wL bs j).getD (j - 15) 0) 3))) + ((wL bs j).getD (j - 7) 0)) + (((rot ((wL bs j).getD (j - 2) 0) 17) ^^^ (rot ((wL bs j).getD (j - 2) 0) 19)) ^^^ (shr32 ((wL bs j).getD (j - 2) 0) 10))))), (107, (.slice (some ⟨bY12Y16Y0Y0, 0, none⟩) 1 1)), (108, (.slice aY12Y17Y0Y0 (j + 1) cY12Y17Y0Y0))]) (fun (aY12Y17Y0Y0, cY12Y17Y0Y0, bY12Y16Y0Y0) w1 => HP w w1 [.blk bY12Y16Y0Y0 .nw 170 [(1, ([((((wL bs j).getD (j - 16) 0) + (((rot ((wL bs j).getD (j - 15) 0) 7) ^^^ (rot ((wL bs j).getD (j - 15) 0) 18)) ^^^ (shr32 ((wL bs j).getD (j - 15) 0) 3))) + ((wL bs j).getD (j - 7) 0)) + (((rot ((wL bs j).getD (j - 2) 0) 17) ^^^ (rot ((wL bs j).getD (j - 2) 0) 19)) ^^^ (shr32 ((wL bs j).getD (j - 2) 0) 10))] : List UInt32).map vu32)], .row aY12Y17Y0Y0 (j + 1) cY12Y17Y0Y0 170 1 (((wL bs j) ++ ([((((wL bs j).getD (j - 16) 0) + (((rot ((wL bs j).getD (j - 15) 0) 7) ^^^ (rot ((wL bs j).getD (j - 15) 0) 18)) ^^^ (shr32 ((wL bs j).getD (j - 15) 0) 3))) + ((wL bs j).getD (j - 7) 0)) + (((rot ((wL bs j).getD (j - 2) 0) 17) ^^^ (rot ((wL bs j).getD (j - 2) 0) 19)) ^^^ (shr32 ((wL bs j).getD (j - 2) 0) 10))] : List UInt32)).map vu32), .blk b_7 .nw 172 [(8, (List.replicate 8 (0 : UInt32)).map vu32)], .blk b_4 .nw 163 [(64, bs.map vu8)], .blk b_1 .nw 172 [(8, hh.map vu32)], .view ak (ks.map vu32)]) ?_ ?_
   ·refine WP.drawT (SL w.heap.size [.blk b_7 .nw 172 [(8, (List.replicate 8 (0 : UInt32)).map vu32)], .blk b_4 .nw 163 [(64, bs.map vu8)], .blk b_1 .nw 172 [(8, hh.map vu32)], .view ak (ks.map vu32)]) (.q 0 (.q 1 (.q 2 (.q 3 (.q 6 (.q 8 (.q 9 (.q 10 (.q 14 (.s2 4 11 (.s2 5 11 (.q 7 (.s 11 (.s 12 (.q 13 (.q 15 (.s 16 (.s 17 (.q 18 .nil)))))))) (.s2 5 12 (.q 7 (.s 12 (.q 13 (.q 15 (.s 16 (.s 17 (.q 18 .nil))))))) (.s 5 (.q 7 (.q 13 (.q 15 (.s 16 (.s 17 (.q 18 .nil))))))))) (.s2 4 12 (.s2 5 12 (.q 7 (.s 12 (.q 13 (.q 15 (.s 16 (.s 17 (.q 18 .nil))))))) (.s 5 (.q 7 (.q 13 (.q 15 (.s 16 (.s 17 (.q 18 .nil)))))))) (.s 4 (.s 5 (.q 7 (.q 13 (.q 15 (.s 16 (.s 17 (.q 18 .nil))))))))))))))))))) (by kernel_rfl) (by kernel_rfl) rfl (by kernel_rfl) (fun w_55 hc_57 => (SL.cons ((h_54.same hc_57).ok _ M1) (SL.cons ((h_54.same hc_57).ok _ M2) (SL.cons ((h_54.same hc_57).ok _ M3) (SL.cons ((h_54.same hc_57).ok _ M4) (SL.nil _ _)))))) (fun w_55 hc_57 => ?_)
    have h_56 := h_54.same hc_57
    refine qT rfl rfl (fun wq hS => R.move (v := (.slice ra2 j rc2)) rfl) ?_
    refine qT rfl rfl (fun wq hS => R.move (v := (.slice ra2 j rc2)) rfl) ?_
    refine qT rfl rfl (fun wq hS => R.move (v := (vn j)) rfl) ?_
    refine qT rfl rfl (fun wq hS => R.bin rfl rfl (bi_sub (c := ((j - 16 : Nat) : Int)) (by omega) (by omega))) ?_
    refine qT rfl rfl (fun wq hS => R.move (v := (vu32 (((rot ((wL bs j).getD (j - 15) 0) 7) ^^^ (rot ((wL bs j).getD (j - 15) 0) 18)) ^^^ (shr32 ((wL bs j).getD (j - 15) 0) 3)))) rfl) ?_
    refine qT rfl rfl (fun wq hS => R.move (v := (.slice ra2 j rc2)) rfl) ?_
    refine qT rfl rfl (fun wq hS => R.move (v := (vn j)) rfl) ?_
    refine qT rfl rfl (fun wq hS => R.bin rfl rfl (bi_sub (c := ((j - 7 : Nat) : Int)) (by omega) (by omega))) ?_
    refine qT rfl rfl (fun wq hS => R.move (v := (vu32 (((rot ((wL bs j).getD (j - 2) 0) 17) ^^^ (rot ((wL bs j).getD (j - 2) 0) 19)) ^^^ (shr32 ((wL bs j).getD (j - 2) 0) 10)))) rfl) ?_
    refine WT.s2 ?_ ?_
    ·refine Op1.one rfl (Wn.no rfl) ?_
     refine qV rfl (R.indexS (a := ra2) (i := j - 16) (off := j - 16) (xs := (wL bs j).map vu32) rfl rfl rfl (by omega) (ownView (h_56.ok _ M0)) (lt_len (K := j) (len_map (wL_len bs j)) (by omega)) Try.underlying186 Try.sizeOf170 (Nat.mul_one _).symm) ?_
     refine WL.nil ?_
     refine ⟨(SL.cons (h_56.ok _ M1) (SL.cons (h_56.ok _ M2) (SL.cons (h_56.ok _ M3) (SL.cons (h_56.ok _ M4) (SL.nil _ _))))), ?_⟩
     refine WT.s2 ?_ ?_
     ·refine Op1.one rfl (Wn.no rfl) ?_
      refine qV rfl (R.loadG (a := ra2) (i := j - 16) (xs := (wL bs j).map vu32) (v := (vu32 ((wL bs j).getD (j - 16) 0))) rfl (ownView (h_56.ok _ M0)) Try.isAgg170 (get_u32 (lt_len (K := j) (wL_len bs j) (by omega)))) ?_
      refine WL.nil ?_
      refine ⟨(SL.cons (h_56.ok _ M1) (SL.cons (h_56.ok _ M2) (SL.cons (h_56.ok _ M3) (SL.cons (h_56.ok _ M4) (SL.nil _ _))))), ?_⟩
      refine qT rfl rfl (fun wq hS => R.bin rfl rfl (b32_add ((wL bs j).getD (j - 16) 0) (((rot ((wL bs j).getD (j - 15) 0) 7) ^^^ (rot ((wL bs j).getD (j - 15) 0) 18)) ^^^ (shr32 ((wL bs j).getD (j - 15) 0) 3)))) ?_
      refine WT.s (Op1.one rfl (Wn.no rfl) ?_)
      refine qV rfl (R.indexS (a := ra2) (i := j - 7) (off := j - 7) (xs := (wL bs j).map vu32) rfl rfl rfl (by omega) (ownView (h_56.ok _ M0)) (lt_len (K := j) (len_map (wL_len bs j)) (by omega)) Try.underlying186 Try.sizeOf170 (Nat.mul_one _).symm) ?_
      refine WL.nil ?_
      refine ⟨(SL.cons (h_56.ok _ M1) (SL.cons (h_56.ok _ M2) (SL.cons (h_56.ok _ M3) (SL.cons (h_56.ok _ M4) (SL.nil _ _))))), ?_⟩
      refine WT.s (Op1.one rfl (Wn.no rfl) ?_)
      refine qV rfl (R.loadG (a := ra2) (i := j - 7) (xs := (wL bs j).map vu32) (v := (vu32 ((wL bs j).getD (j - 7) 0))) rfl (ownView (h_56.ok _ M0)) Try.isAgg170 (get_u32 (lt_len (K := j) (wL_len bs j) (by omega)))) ?_
      refine WL.nil ?_
      refine ⟨(SL.cons (h_56.ok _ M1) (SL.cons (h_56.ok _ M2) (SL.cons (h_56.ok _ M3) (SL.cons (h_56.ok _ M4) (SL.nil _ _))))), ?_⟩
      refine qT rfl rfl (fun wq hS => R.bin rfl rfl (b32_add (((wL bs j).getD (j - 16) 0) + (((rot ((wL bs j).getD (j - 15) 0) 7) ^^^ (rot ((wL bs j).getD (j - 15) 0) 18)) ^^^ (shr32 ((wL bs j).getD (j - 15) 0) 3))) ((wL bs j).getD (j - 7) 0))) ?_
      refine qT rfl rfl (fun wq hS => R.bin rfl rfl (b32_add ((((wL bs j).getD (j - 16) 0) + (((rot ((wL bs j).getD (j - 15) 0) 7) ^^^ (rot ((wL bs j).getD (j - 15) 0) 18)) ^^^ (shr32 ((wL bs j).getD (j - 15) 0) 3))) + ((wL bs j).getD (j - 7) 0)) (((rot ((wL bs j).getD (j - 2) 0) 17) ^^^ (rot ((wL bs j).getD (j - 2) 0) 19)) ^^^ (shr32 ((wL bs j).getD (j - 2) 0) 10)))) ?_
      refine WT.s (Op1.one rfl (Wn.no rfl) ?_)
      refine WL.buildSl (vs := [(0, (vu32 (((((wL bs j).getD (j - 16) 0) + (((rot ((wL bs j).getD (j - 15) 0) 7) ^^^ (rot ((wL bs j).getD (j - 15) 0) 18)) ^^^ (shr32 ((wL bs j).getD (j - 15) 0) 3))) + ((wL bs j).getD (j - 7) 0)) + (((rot ((wL bs j).getD (j - 2) 0) 17) ^^^ (rot ((wL bs j).getD (j - 2) 0) 19)) ^^^ (shr32 ((wL bs j).getD (j - 2) 0) 10)))))]) (cs := ([((((wL bs j).getD (j - 16) 0) + (((rot ((wL bs j).getD (j - 15) 0) 7) ^^^ (rot ((wL bs j).getD (j - 15) 0) 18)) ^^^ (shr32 ((wL bs j).getD (j - 15) 0) 3))) + ((wL bs j).getD (j - 7) 0)) + (((rot ((wL bs j).getD (j - 2) 0) 17) ^^^ (rot ((wL bs j).getD (j - 2) 0) 19)) ^^^ (shr32 ((wL bs j).getD (j - 2) 0) 10))] : List UInt32).map vu32) h_56 Try.underlying186 Try.sizeOf170 (zv Try.typeInfo170 rfl) rfl rfl (by kernel_rfl) rfl (one_u32 _) rfl rfl (fun b_58 w_59 h_60 => ?_)
      refine WL.nil ?_
      refine ⟨(SL.cons (h_60.ok _ M2) (SL.cons (h_60.ok _ M3) (SL.cons (h_60.ok _ M4) (SL.cons (h_60.ok _ M5) (SL.nil _ _))))), ?_⟩
      refine WT.s (Op1.one rfl (Wn.no rfl) ?_)
      refine WL.append (km := j + 1) (xs := (wL bs j).map vu32) (ys := ([((((wL bs j).getD (j - 16) 0) + (((rot ((wL bs j).getD (j - 15) 0) 7) ^^^ (rot ((wL bs j).getD (j - 15) 0) 18)) ^^^ (shr32 ((wL bs j).getD (j - 15) 0) 3))) + ((wL bs j).getD (j - 7) 0)) + (((rot ((wL bs j).getD (j - 2) 0) 17) ^^^ (rot ((wL bs j).getD (j - 2) 0) 19)) ^^^ (shr32 ((wL bs j).getD (j - 2) 0) 10))] : List UInt32).map vu32) (zs := ((wL bs j) ++ ([((((wL bs j).getD (j - 16) 0) + (((rot ((wL bs j).getD (j - 15) 0) 7) ^^^ (rot ((wL bs j).getD (j - 15) 0) 18)) ^^^ (shr32 ((wL bs j).getD (j - 15) 0) 3))) + ((wL bs j).getD (j - 7) 0)) + (((rot ((wL bs j).getD (j - 2) 0) 17) ^^^ (rot ((wL bs j).getD (j - 2) 0) 19)) ^^^ (shr32 ((wL bs j).getD (j - 2) 0) 10))] : List UInt32)).map vu32) h_60 rfl rfl el186 (viewB (h_60.ok _ M0) Sg.h) ((len_map (rfl : List.length ([((((wL bs j).getD (j - 16) 0) + (((rot ((wL bs j).getD (j - 15) 0) 7) ^^^ (rot ((wL bs j).getD (j - 15) 0) 18)) ^^^ (shr32 ((wL bs j).getD (j - 15) 0) 3))) + ((wL bs j).getD (j - 7) 0)) + (((rot ((wL bs j).getD (j - 2) 0) 17) ^^^ (rot ((wL bs j).getD (j - 2) 0) 19)) ^^^ (shr32 ((wL bs j).getD (j - 2) 0) 10))] : List UInt32) = 1)).trans (Nat.mul_one _).symm) (one_u32 _) (by simp only [List.map_append, List.map_nil]) (by omega) (by omega) (by omega) (fun _ _ => Y1) rfl (fun a_61 c_62 w_63 h_64 => ?_)
      refine WL.nil ?_
      refine ⟨(SL.cons (h_64.ok _ M2) (SL.cons (h_64.ok _ M3) (SL.cons (h_64.ok _ M4) (SL.cons (h_64.ok _ M5) (SL.nil _ _))))), ?_⟩
      refine qT rfl rfl (fun wq hS => R.assign (v := (.slice a_61 (j + 1) c_62)) rfl) ?_
      refine WT.nil (thn_n ?_)
      exact ⟨(a_61, c_62, b_58), (Ag.upd rfl (U2 rfl rfl (U4 rfl rfl rfl rfl (U4 rfl rfl rfl rfl (U4 rfl rfl rfl rfl (U4 rfl rfl rfl rfl (Ag.refl _ _))))))), ⟨rfl, rfl, rfl, rfl, rfl, rfl, rfl, rfl, rfl, rfl, rfl, rfl, rfl, rfl, rfl, rfl, rfl, rfl, rfl, trivial⟩, h_64⟩
     ·refine Op1.one rfl (Wn.no rfl) ?_
      refine qV rfl (R.indexS (a := ra2) (i := j - 7) (off := j - 7) (xs := (wL bs j).map vu32) rfl rfl rfl (by omega) (ownView (h_56.ok _ M0)) (lt_len (K := j) (len_map (wL_len bs j)) (by omega)) Try.underlying186 Try.sizeOf170 (Nat.mul_one _).symm) ?_
      refine WL.nil ?_
      refine ⟨(SL.cons (h_56.ok _ M1) (SL.cons (h_56.ok _ M2) (SL.cons (h_56.ok _ M3) (SL.cons (h_56.ok _ M4) (SL.nil _ _))))), ?_⟩
      refine WT.s2 ?_ ?_
      ·refine Op1.one rfl (Wn.no rfl) ?_
       refine qV rfl (R.loadG (a := ra2) (i := j - 16) (xs := (wL bs j).map vu32) (v := (vu32 ((wL bs j).getD (j - 16) 0))) rfl (ownView (h_56.ok _ M0)) Try.isAgg170 (get_u32 (lt_len (K := j) (wL_len bs j) (by omega)))) ?_
       refine WL.nil ?_
       refine ⟨(SL.cons (h_56.ok _ M1) (SL.cons (h_56.ok _ M2) (SL.cons (h_56.ok _ M3) (SL.cons (h_56.ok _ M4) (SL.nil _ _))))), ?_⟩
       refine qT rfl rfl (fun wq hS => R.bin rfl rfl (b32_add ((wL bs j).getD (j - 16) 0) (((rot ((wL bs j).getD (j - 15) 0) 7) ^^^ (rot ((wL bs j).getD (j - 15) 0) 18)) ^^^ (shr32 ((wL bs j).getD (j - 15) 0) 3)))) ?_
       refine WT.s (Op1.one rfl (Wn.no rfl) ?_)
       refine qV rfl (R.loadG (a := ra2) (i := j - 7) (xs := (wL bs j).map vu32) (v := (vu32 ((wL bs j).getD (j - 7) 0))) rfl (ownView (h_56.ok _ M0)) Try.isAgg170 (get_u32 (lt_len (K := j) (wL_len bs j) (by omega)))) ?_
       refine WL.nil ?_
       refine ⟨(SL.cons (h_56.ok _ M1) (SL.cons (h_56.ok _ M2) (SL.cons (h_56.ok _ M3) (SL.cons (h_56.ok _ M4) (SL.nil _ _))))), ?_⟩
       refine qT rfl rfl (fun wq hS => R.bin rfl rfl (b32_add (((wL bs j).getD (j - 16) 0) + (((rot ((wL bs j).getD (j - 15) 0) 7) ^^^ (rot ((wL bs j).getD (j - 15) 0) 18)) ^^^ (shr32 ((wL bs j).getD (j - 15) 0) 3))) ((wL bs j).getD (j - 7) 0))) ?_
       refine qT rfl rfl (fun wq hS => R.bin rfl rfl (b32_add ((((wL bs j).getD (j - 16) 0) + (((rot ((wL bs j).getD (j - 15) 0) 7) ^^^ (rot ((wL bs j).getD (j - 15) 0) 18)) ^^^ (shr32 ((wL bs j).getD (j - 15) 0) 3))) + ((wL bs j).getD (j - 7) 0)) (((rot ((wL bs j).getD (j - 2) 0) 17) ^^^ (rot ((wL bs j).getD (j - 2) 0) 19)) ^^^ (shr32 ((wL bs j).getD (j - 2) 0) 10)))) ?_
       refine WT.s (Op1.one rfl (Wn.no rfl) ?_)
       refine WL.buildSl (vs := [(0, (vu32 (((((wL bs j).getD (j - 16) 0) + (((rot ((wL bs j).getD (j - 15) 0) 7) ^^^ (rot ((wL bs j).getD (j - 15) 0) 18)) ^^^ (shr32 ((wL bs j).getD (j - 15) 0) 3))) + ((wL bs j).getD (j - 7) 0)) + (((rot ((wL bs j).getD (j - 2) 0) 17) ^^^ (rot ((wL bs j).getD (j - 2) 0) 19)) ^^^ (shr32 ((wL bs j).getD (j - 2) 0) 10)))))]) (cs := ([((((wL bs j).getD (j - 16) 0) + (((rot ((wL bs j).getD (j - 15) 0) 7) ^^^ (rot ((wL bs j).getD (j - 15) 0) 18)) ^^^ (shr32 ((wL bs j).getD (j - 15) 0) 3))) + ((wL bs j).getD (j - 7) 0)) + (((rot ((wL bs j).getD (j - 2) 0) 17) ^^^ (rot ((wL bs j).getD (j - 2) 0) 19)) ^^^ (shr32 ((wL bs j).getD (j - 2) 0) 10))] : List UInt32).map vu32) h_56 Try.underlying186 Try.sizeOf170 (zv Try.typeInfo170 rfl) rfl rfl (by kernel_rfl) rfl (one_u32 _) rfl rfl (fun b_65 w_66 h_67 => ?_)
       refine WL.nil ?_
       refine ⟨(SL.cons (h_67.ok _ M2) (SL.cons (h_67.ok _ M3) (SL.cons (h_67.ok _ M4) (SL.cons (h_67.ok _ M5) (SL.nil _ _))))), ?_⟩
       refine WT.s (Op1.one rfl (Wn.no rfl) ?_)
       refine WL.append (km := j + 1) (xs := (wL bs j).map vu32) (ys := ([((((wL bs j).getD (j - 16) 0) + (((rot ((wL bs j).getD (j - 15) 0) 7) ^^^ (rot ((wL bs j).getD (j - 15) 0) 18)) ^^^ (shr32 ((wL bs j).getD (j - 15) 0) 3))) + ((wL bs j).getD (j - 7) 0)) + (((rot ((wL bs j).getD (j - 2) 0) 17) ^^^ (rot ((wL bs j).getD (j - 2) 0) 19)) ^^^ (shr32 ((wL bs j).getD (j - 2) 0) 10))] : List UInt32).map vu32) (zs := ((wL bs j) ++ ([((((wL bs j).getD (j - 16) 0) + (((rot ((wL bs j).getD (j - 15) 0) 7) ^^^ (rot ((wL bs j).getD (j - 15) 0) 18)) ^^^ (shr32 ((wL bs j).getD (j - 15) 0) 3))) + ((wL bs j).getD (j - 7) 0)) + (((rot ((wL bs j).getD (j - 2) 0) 17) ^^^ (rot ((wL bs j).getD (j - 2) 0) 19)) ^^^ (shr32 ((wL bs j).getD (j - 2) 0) 10))] : List UInt32)).map vu32) h_67 rfl rfl el186 (viewB (h_67.ok _ M0) Sg.h) ((len_map (rfl : List.length ([((((wL bs j).getD (j - 16) 0) + (((rot ((wL bs j).getD (j - 15) 0) 7) ^^^ (rot ((wL bs j).getD (j - 15) 0) 18)) ^^^ (shr32 ((wL bs j).getD (j - 15) 0) 3))) + ((wL bs j).getD (j - 7) 0)) + (((rot ((wL bs j).getD (j - 2) 0) 17) ^^^ (rot ((wL bs j).getD (j - 2) 0) 19)) ^^^ (shr32 ((wL bs j).getD (j - 2) 0) 10))] : List UInt32) = 1)).trans (Nat.mul_one _).symm) (one_u32 _) (by simp only [List.map_append, List.map_nil]) (by omega) (by omega) (by omega) (fun _ _ => Y1) rfl (fun a_68 c_69 w_70 h_71 => ?_)
       refine WL.nil ?_
       refine ⟨(SL.cons (h_71.ok _ M2) (SL.cons (h_71.ok _ M3) (SL.cons (h_71.ok _ M4) (SL.cons (h_71.ok _ M5) (SL.nil _ _))))), ?_⟩
       refine qT rfl rfl (fun wq hS => R.assign (v := (.slice a_68 (j + 1) c_69)) rfl) ?_
       refine WT.nil (thn_n ?_)
       exact ⟨(a_68, c_69, b_65), (Ag.upd rfl (U2 rfl rfl (U4 rfl rfl rfl rfl (U4 rfl rfl rfl rfl (U4 rfl rfl rfl rfl (U4 rfl rfl rfl rfl (Ag.refl _ _))))))), ⟨rfl, rfl, rfl, rfl, rfl, rfl, rfl, rfl, rfl, rfl, rfl, rfl, rfl, rfl, rfl, rfl, rfl, rfl, rfl, trivial⟩, h_71⟩
      ·refine Op1.one rfl (Wn.no rfl) ?_
       refine qV rfl (R.loadG (a := ra2) (i := j - 7) (xs := (wL bs j).map vu32) (v := (vu32 ((wL bs j).getD (j - 7) 0))) rfl (ownView (h_56.ok _ M0)) Try.isAgg170 (get_u32 (lt_len (K := j) (wL_len bs j) (by omega)))) ?_
       refine WL.nil ?_
       refine ⟨(SL.cons (h_56.ok _ M1) (SL.cons (h_56.ok _ M2) (SL.cons (h_56.ok _ M3) (SL.cons (h_56.ok _ M4) (SL.nil _ _))))), ?_⟩
       refine WT.s (Op1.one rfl (Wn.no rfl) ?_)
       refine qV rfl (R.loadG (a := ra2) (i := j - 16) (xs := (wL bs j).map vu32) (v := (vu32 ((wL bs j).getD (j - 16) 0))) rfl (ownView (h_56.ok _ M0)) Try.isAgg170 (get_u32 (lt_len (K := j) (wL_len bs j) (by omega)))) ?_
       refine WL.nil ?_
       refine ⟨(SL.cons (h_56.ok _ M1) (SL.cons (h_56.ok _ M2) (SL.cons (h_56.ok _ M3) (SL.cons (h_56.ok _ M4) (SL.nil _ _))))), ?_⟩
       refine qT rfl rfl (fun wq hS => R.bin rfl rfl (b32_add ((wL bs j).getD (j - 16) 0) (((rot ((wL bs j).getD (j - 15) 0) 7) ^^^ (rot ((wL bs j).getD (j - 15) 0) 18)) ^^^ (shr32 ((wL bs j).getD (j - 15) 0) 3)))) ?_
       refine qT rfl rfl (fun wq hS => R.bin rfl rfl (b32_add (((wL bs j).getD (j - 16) 0) + (((rot ((wL bs j).getD (j - 15) 0) 7) ^^^ (rot ((wL bs j).getD (j - 15) 0) 18)) ^^^ (shr32 ((wL bs j).getD (j - 15) 0) 3))) ((wL bs j).getD (j - 7) 0))) ?_
       refine qT rfl rfl (fun wq hS => R.bin rfl rfl (b32_add ((((wL bs j).getD (j - 16) 0) + (((rot ((wL bs j).getD (j - 15) 0) 7) ^^^ (rot ((wL bs j).getD (j - 15) 0) 18)) ^^^ (shr32 ((wL bs j).getD (j - 15) 0) 3))) + ((wL bs j).getD (j - 7) 0)) (((rot ((wL bs j).getD (j - 2) 0) 17) ^^^ (rot ((wL bs j).getD (j - 2) 0) 19)) ^^^ (shr32 ((wL bs j).getD (j - 2) 0) 10)))) ?_
       refine WT.s (Op1.one rfl (Wn.no rfl) ?_)
       refine WL.buildSl (vs := [(0, (vu32 (((((wL bs j).getD (j - 16) 0) + (((rot ((wL bs j).getD (j - 15) 0) 7) ^^^ (rot ((wL bs j).getD (j - 15) 0) 18)) ^^^ (shr32 ((wL bs j).getD (j - 15) 0) 3))) + ((wL bs j).getD (j - 7) 0)) + (((rot ((wL bs j).getD (j - 2) 0) 17) ^^^ (rot ((wL bs j).getD (j - 2) 0) 19)) ^^^ (shr32 ((wL bs j).getD (j - 2) 0) 10)))))]) (cs := ([((((wL bs j).getD (j - 16) 0) + (((rot ((wL bs j).getD (j - 15) 0) 7) ^^^ (rot ((wL bs j).getD (j - 15) 0) 18)) ^^^ (shr32 ((wL bs j).getD (j - 15) 0) 3))) + ((wL bs j).getD (j - 7) 0)) + (((rot ((wL bs j).getD (j - 2) 0) 17) ^^^ (rot ((wL bs j).getD (j - 2) 0) 19)) ^^^ (shr32 ((wL bs j).getD (j - 2) 0) 10))] : List UInt32).map vu32) h_56 Try.underlying186 Try.sizeOf170 (zv Try.typeInfo170 rfl) rfl rfl (by kernel_rfl) rfl (one_u32 _) rfl rfl (fun b_72 w_73 h_74 => ?_)
       refine WL.nil ?_
       refine ⟨(SL.cons (h_74.ok _ M2) (SL.cons (h_74.ok _ M3) (SL.cons (h_74.ok _ M4) (SL.cons (h_74.ok _ M5) (SL.nil _ _))))), ?_⟩
       refine WT.s (Op1.one rfl (Wn.no rfl) ?_)
       refine WL.append (km := j + 1) (xs := (wL bs j).map vu32) (ys := ([((((wL bs j).getD (j - 16) 0) + (((rot ((wL bs j).getD (j - 15) 0) 7) ^^^ (rot ((wL bs j).getD (j - 15) 0) 18)) ^^^ (shr32 ((wL bs j).getD (j - 15) 0) 3))) + ((wL bs j).getD (j - 7) 0)) + (((rot ((wL bs j).getD (j - 2) 0) 17) ^^^ (rot ((wL bs j).getD (j - 2) 0) 19)) ^^^ (shr32 ((wL bs j).getD (j - 2) 0) 10))] : List UInt32).map vu32) (zs := ((wL bs j) ++ ([((((wL bs j).getD (j - 16) 0) + (((rot ((wL bs j).getD (j - 15) 0) 7) ^^^ (rot ((wL bs j).getD (j - 15) 0) 18)) ^^^ (shr32 ((wL bs j).getD (j - 15) 0) 3))) + ((wL bs j).getD (j - 7) 0)) + (((rot ((wL bs j).getD (j - 2) 0) 17) ^^^ (rot ((wL bs j).getD (j - 2) 0) 19)) ^^^ (shr32 ((wL bs j).getD (j - 2) 0) 10))] : List UInt32)).map vu32) h_74 rfl rfl el186 (viewB (h_74.ok _ M0) Sg.h) ((len_map (rfl : List.length ([((((wL bs j).getD (j - 16) 0) + (((rot ((wL bs j).getD (j - 15) 0) 7) ^^^ (rot ((wL bs j).getD (j - 15) 0) 18)) ^^^ (shr32 ((wL bs j).getD (j - 15) 0) 3))) + ((wL bs j).getD (j - 7) 0)) + (((rot ((wL bs j).getD (j - 2) 0) 17) ^^^ (rot ((wL bs j).getD (j - 2) 0) 19)) ^^^ (shr32 ((wL bs j).getD (j - 2) 0) 10))] : List UInt32) = 1)).trans (Nat.mul_one _).symm) (one_u32 _) (by simp only [List.map_append, List.map_nil]) (by omega) (by omega) (by omega) (fun _ _ => Y1) rfl (fun a_75 c_76 w_77 h_78 => ?_)
       refine WL.nil ?_
       refine ⟨(SL.cons (h_78.ok _ M2) (SL.cons (h_78.ok _ M3) (SL.cons (h_78.ok _ M4) (SL.cons (h_78.ok _ M5) (SL.nil _ _))))), ?_⟩
       refine qT rfl rfl (fun wq hS => R.assign (v := (.slice a_75 (j + 1) c_76)) rfl) ?_
       refine WT.nil (thn_n ?_)
       exact ⟨(a_75, c_76, b_72), (Ag.upd rfl (U2 rfl rfl (U4 rfl rfl rfl rfl (U4 rfl rfl rfl rfl (U4 rfl rfl rfl rfl (U4 rfl rfl rfl rfl (Ag.refl _ _))))))), ⟨rfl, rfl, rfl, rfl, rfl, rfl, rfl, rfl, rfl, rfl, rfl, rfl, rfl, rfl, rfl, rfl, rfl, rfl, rfl, trivial⟩, h_78⟩
    ·refine Op1.one rfl (Wn.no rfl) ?_
     refine qV rfl (R.indexS (a := ra2) (i := j - 7) (off := j - 7) (xs := (wL bs j).map vu32) rfl rfl rfl (by omega) (ownView (h_56.ok _ M0)) (lt_len (K := j) (len_map (wL_len bs j)) (by omega)) Try.underlying186 Try.sizeOf170 (Nat.mul_one _).symm) ?_
     refine WL.nil ?_
     refine ⟨(SL.cons (h_56.ok _ M1) (SL.cons (h_56.ok _ M2) (SL.cons (h_56.ok _ M3) (SL.cons (h_56.ok _ M4) (SL.nil _ _))))), ?_⟩
     refine WT.s2 ?_ ?_
     ·refine Op1.one rfl (Wn.no rfl) ?_
      refine qV rfl (R.indexS (a := ra2) (i := j - 16) (off := j - 16) (xs := (wL bs j).map vu32) rfl rfl rfl (by omega) (ownView (h_56.ok _ M0)) (lt_len (K := j) (len_map (wL_len bs j)) (by omega)) Try.underlying186 Try.sizeOf170 (Nat.mul_one _).symm) ?_
      refine WL.nil ?_
      refine ⟨(SL.cons (h_56.ok _ M1) (SL.cons (h_56.ok _ M2) (SL.cons (h_56.ok _ M3) (SL.cons (h_56.ok _ M4) (SL.nil _ _))))), ?_⟩
      refine WT.s2 ?_ ?_
      ·refine Op1.one rfl (Wn.no rfl) ?_
       refine qV rfl (R.loadG (a := ra2) (i := j - 16) (xs := (wL bs j).map vu32) (v := (vu32 ((wL bs j).getD (j - 16) 0))) rfl (ownView (h_56.ok _ M0)) Try.isAgg170 (get_u32 (lt_len (K := j) (wL_len bs j) (by omega)))) ?_
       refine WL.nil ?_
       refine ⟨(SL.cons (h_56.ok _ M1) (SL.cons (h_56.ok _ M2) (SL.cons (h_56.ok _ M3) (SL.cons (h_56.ok _ M4) (SL.nil _ _))))), ?_⟩
       refine qT rfl rfl (fun wq hS => R.bin rfl rfl (b32_add ((wL bs j).getD (j - 16) 0) (((rot ((wL bs j).getD (j - 15) 0) 7) ^^^ (rot ((wL bs j).getD (j - 15) 0) 18)) ^^^ (shr32 ((wL bs j).getD (j - 15) 0) 3)))) ?_
       refine WT.s (Op1.one rfl (Wn.no rfl) ?_)
       refine qV rfl (R.loadG (a := ra2) (i := j - 7) (xs := (wL bs j).map vu32) (v := (vu32 ((wL bs j).getD (j - 7) 0))) rfl (ownView (h_56.ok _ M0)) Try.isAgg170 (get_u32 (lt_len (K := j) (wL_len bs j) (by omega)))) ?_
       refine WL.nil ?_
       refine ⟨(SL.cons (h_56.ok _ M1) (SL.cons (h_56.ok _ M2) (SL.cons (h_56.ok _ M3) (SL.cons (h_56.ok _ M4) (SL.nil _ _))))), ?_⟩
       refine qT rfl rfl (fun wq hS => R.bin rfl rfl (b32_add (((wL bs j).getD (j - 16) 0) + (((rot ((wL bs j).getD (j - 15) 0) 7) ^^^ (rot ((wL bs j).getD (j - 15) 0) 18)) ^^^ (shr32 ((wL bs j).getD (j - 15) 0) 3))) ((wL bs j).getD (j - 7) 0))) ?_
       refine qT rfl rfl (fun wq hS => R.bin rfl rfl (b32_add ((((wL bs j).getD (j - 16) 0) + (((rot ((wL bs j).getD (j - 15) 0) 7) ^^^ (rot ((wL bs j).getD (j - 15) 0) 18)) ^^^ (shr32 ((wL bs j).getD (j - 15) 0) 3))) + ((wL bs j).getD (j - 7) 0)) (((rot ((wL bs j).getD (j - 2) 0) 17) ^^^ (rot ((wL bs j).getD (j - 2) 0) 19)) ^^^ (shr32 ((wL bs j).getD (j - 2) 0) 10)))) ?_
       refine WT.s (Op1.one rfl (Wn.no rfl) ?_)
       refine WL.buildSl (vs := [(0, (vu32 (((((wL bs j).getD (j - 16) 0) + (((rot ((wL bs j).getD (j - 15) 0) 7) ^^^ (rot ((wL bs j).getD (j - 15) 0) 18)) ^^^ (shr32 ((wL bs j).getD (j - 15) 0) 3))) + ((wL bs j).getD (j - 7) 0)) + (((rot ((wL bs j).getD (j - 2) 0) 17) ^^^ (rot ((wL bs j).getD (j - 2) 0) 19)) ^^^ (shr32 ((wL bs j).getD (j - 2) 0) 10)))))]) (cs := ([((((wL bs j).getD (j - 16) 0) + (((rot ((wL bs j).getD (j - 15) 0) 7) ^^^ (rot ((wL bs j).getD (j - 15) 0) 18)) ^^^ (shr32 ((wL bs j).getD (j - 15) 0) 3))) + ((wL bs j).getD (j - 7) 0)) + (((rot ((wL bs j).getD (j - 2) 0) 17) ^^^ (rot ((wL bs j).getD (j - 2) 0) 19)) ^^^ (shr32 ((wL bs j).getD (j - 2) 0) 10))] : List UInt32).map vu32) h_56 Try.underlying186 Try.sizeOf170 (zv Try.typeInfo170 rfl) rfl rfl (by kernel_rfl) rfl (one_u32 _) rfl rfl (fun b_79 w_80 h_81 => ?_)
       refine WL.nil ?_
       refine ⟨(SL.cons (h_81.ok _ M2) (SL.cons (h_81.ok _ M3) (SL.cons (h_81.ok _ M4) (SL.cons (h_81.ok _ M5) (SL.nil _ _))))), ?_⟩
       refine WT.s (Op1.one rfl (Wn.no rfl) ?_)
       refine WL.append (km := j + 1) (xs := (wL bs j).map vu32) (ys := ([((((wL bs j).getD (j - 16) 0) + (((rot ((wL bs j).getD (j - 15) 0) 7) ^^^ (rot ((wL bs j).getD (j - 15) 0) 18)) ^^^ (shr32 ((wL bs j).getD (j - 15) 0) 3))) + ((wL bs j).getD (j - 7) 0)) + (((rot ((wL bs j).getD (j - 2) 0) 17) ^^^ (rot ((wL bs j).getD (j - 2) 0) 19)) ^^^ (shr32 ((wL bs j).getD (j - 2) 0) 10))] : List UInt32).map vu32) (zs := ((wL bs j) ++ ([((((wL bs j).getD (j - 16) 0) + (((rot ((wL bs j).getD (j - 15) 0) 7) ^^^ (rot ((wL bs j).getD (j - 15) 0) 18)) ^^^ (shr32 ((wL bs j).getD (j - 15) 0) 3))) + ((wL bs j).getD (j - 7) 0)) + (((rot ((wL bs j).getD (j - 2) 0) 17) ^^^ (rot ((wL bs j).getD (j - 2) 0) 19)) ^^^ (shr32 ((wL bs j).getD (j - 2) 0) 10))] : List UInt32)).map vu32) h_81 rfl rfl el186 (viewB (h_81.ok _ M0) Sg.h) ((len_map (rfl : List.length ([((((wL bs j).getD (j - 16) 0) + (((rot ((wL bs j).getD (j - 15) 0) 7) ^^^ (rot ((wL bs j).getD (j - 15) 0) 18)) ^^^ (shr32 ((wL bs j).getD (j - 15) 0) 3))) + ((wL bs j).getD (j - 7) 0)) + (((rot ((wL bs j).getD (j - 2) 0) 17) ^^^ (rot ((wL bs j).getD (j - 2) 0) 19)) ^^^ (shr32 ((wL bs j).getD (j - 2) 0) 10))] : List UInt32) = 1)).trans (Nat.mul_one _).symm) (one_u32 _) (by simp only [List.map_append, List.map_nil]) (by omega) (by omega) (by omega) (fun _ _ => Y1) rfl (fun a_82 c_83 w_84 h_85 => ?_)
       refine WL.nil ?_
       refine ⟨(SL.cons (h_85.ok _ M2) (SL.cons (h_85.ok _ M3) (SL.cons (h_85.ok _ M4) (SL.cons (h_85.ok _ M5) (SL.nil _ _))))), ?_⟩
       refine qT rfl rfl (fun wq hS => R.assign (v := (.slice a_82 (j + 1) c_83)) rfl) ?_
       refine WT.nil (thn_n ?_)
       exact ⟨(a_82, c_83, b_79), (Ag.upd rfl (U2 rfl rfl (U4 rfl rfl rfl rfl (U4 rfl rfl rfl rfl (U4 rfl rfl rfl rfl (U4 rfl rfl rfl rfl (Ag.refl _ _))))))), ⟨rfl, rfl, rfl, rfl, rfl, rfl, rfl, rfl, rfl, rfl, rfl, rfl, rfl, rfl, rfl, rfl, rfl, rfl, rfl, trivial⟩, h_85⟩
      ·refine Op1.one rfl (Wn.no rfl) ?_
       refine qV rfl (R.loadG (a := ra2) (i := j - 7) (xs := (wL bs j).map vu32) (v := (vu32 ((wL bs j).getD (j - 7) 0))) rfl (ownView (h_56.ok _ M0)) Try.isAgg170 (get_u32 (lt_len (K := j) (wL_len bs j) (by omega)))) ?_
       refine WL.nil ?_
       refine ⟨(SL.cons (h_56.ok _ M1) (SL.cons (h_56.ok _ M2) (SL.cons (h_56.ok _ M3) (SL.cons (h_56.ok _ M4) (SL.nil _ _))))), ?_⟩
       refine WT.s (Op1.one rfl (Wn.no rfl) ?_)
       refine qV rfl (R.loadG (a := ra2) (i := j - 16) (xs := (wL bs j).map vu32) (v := (vu32 ((wL bs j).getD (j - 16) 0))) rfl (ownView (h_56.ok _ M0)) Try.isAgg170 (get_u32 (lt_len (K := j) (wL_len bs j) (by omega)))) ?_
       refine WL.nil ?_
       refine ⟨(SL.cons (h_56.ok _ M1) (SL.cons (h_56.ok _ M2) (SL.cons (h_56.ok _ M3) (SL.cons (h_56.ok _ M4) (SL.nil _ _))))), ?_⟩
       refine qT rfl rfl (fun wq hS => R.bin rfl rfl (b32_add ((wL bs j).getD (j - 16) 0) (((rot ((wL bs j).getD (j - 15) 0) 7) ^^^ (rot ((wL bs j).getD (j - 15) 0) 18)) ^^^ (shr32 ((wL bs j).getD (j - 15) 0) 3)))) ?_
       refine qT rfl rfl (fun wq hS => R.bin rfl rfl (b32_add (((wL bs j).getD (j - 16) 0) + (((rot ((wL bs j).getD (j - 15) 0) 7) ^^^ (rot ((wL bs j).getD (j - 15) 0) 18)) ^^^ (shr32 ((wL bs j).getD (j - 15) 0) 3))) ((wL bs j).getD (j - 7) 0))) ?_
       refine qT rfl rfl (fun wq hS => R.bin rfl rfl (b32_add ((((wL bs j).getD (j - 16) 0) + (((rot ((wL bs j).getD (j - 15) 0) 7) ^^^ (rot ((wL bs j).getD (j - 15) 0) 18)) ^^^ (shr32 ((wL bs j).getD (j - 15) 0) 3))) + ((wL bs j).getD (j - 7) 0)) (((rot ((wL bs j).getD (j - 2) 0) 17) ^^^ (rot ((wL bs j).getD (j - 2) 0) 19)) ^^^ (shr32 ((wL bs j).getD (j - 2) 0) 10)))) ?_
       refine WT.s (Op1.one rfl (Wn.no rfl) ?_)
       refine WL.buildSl (vs := [(0, (vu32 (((((wL bs j).getD (j - 16) 0) + (((rot ((wL bs j).getD (j - 15) 0) 7) ^^^ (rot ((wL bs j).getD (j - 15) 0) 18)) ^^^ (shr32 ((wL bs j).getD (j - 15) 0) 3))) + ((wL bs j).getD (j - 7) 0)) + (((rot ((wL bs j).getD (j - 2) 0) 17) ^^^ (rot ((wL bs j).getD (j - 2) 0) 19)) ^^^ (shr32 ((wL bs j).getD (j - 2) 0) 10)))))]) (cs := ([((((wL bs j).getD (j - 16) 0) + (((rot ((wL bs j).getD (j - 15) 0) 7) ^^^ (rot ((wL bs j).getD (j - 15) 0) 18)) ^^^ (shr32 ((wL bs j).getD (j - 15) 0) 3))) + ((wL bs j).getD (j - 7) 0)) + (((rot ((wL bs j).getD (j - 2) 0) 17) ^^^ (rot ((wL bs j).getD (j - 2) 0) 19)) ^^^ (shr32 ((wL bs j).getD (j - 2) 0) 10))] : List UInt32).map vu32) h_56 Try.underlying186 Try.sizeOf170 (zv Try.typeInfo170 rfl) rfl rfl (by kernel_rfl) rfl (one_u32 _) rfl rfl (fun b_86 w_87 h_88 => ?_)
       refine WL.nil ?_
       refine ⟨(SL.cons (h_88.ok _ M2) (SL.cons (h_88.ok _ M3) (SL.cons (h_88.ok _ M4) (SL.cons (h_88.ok _ M5) (SL.nil _ _))))), ?_⟩
       refine WT.s (Op1.one rfl (Wn.no rfl) ?_)
       refine WL.append (km := j + 1) (xs := (wL bs j).map vu32) (ys := ([((((wL bs j).getD (j - 16) 0) + (((rot ((wL bs j).getD (j - 15) 0) 7) ^^^ (rot ((wL bs j).getD (j - 15) 0) 18)) ^^^ (shr32 ((wL bs j).getD (j - 15) 0) 3))) + ((wL bs j).getD (j - 7) 0)) + (((rot ((wL bs j).getD (j - 2) 0) 17) ^^^ (rot ((wL bs j).getD (j - 2) 0) 19)) ^^^ (shr32 ((wL bs j).getD (j - 2) 0) 10))] : List UInt32).map vu32) (zs := ((wL bs j) ++ ([((((wL bs j).getD (j - 16) 0) + (((rot ((wL bs j).getD (j - 15) 0) 7) ^^^ (rot ((wL bs j).getD (j - 15) 0) 18)) ^^^ (shr32 ((wL bs j).getD (j - 15) 0) 3))) + ((wL bs j).getD (j - 7) 0)) + (((rot ((wL bs j).getD (j - 2) 0) 17) ^^^ (rot ((wL bs j).getD (j - 2) 0) 19)) ^^^ (shr32 ((wL bs j).getD (j - 2) 0) 10))] : List UInt32)).map vu32) h_88 rfl rfl el186 (viewB (h_88.ok _ M0) Sg.h) ((len_map (rfl : List.length ([((((wL bs j).getD (j - 16) 0) + (((rot ((wL bs j).getD (j - 15) 0) 7) ^^^ (rot ((wL bs j).getD (j - 15) 0) 18)) ^^^ (shr32 ((wL bs j).getD (j - 15) 0) 3))) + ((wL bs j).getD (j - 7) 0)) + (((rot ((wL bs j).getD (j - 2) 0) 17) ^^^ (rot ((wL bs j).getD (j - 2) 0) 19)) ^^^ (shr32 ((wL bs j).getD (j - 2) 0) 10))] : List UInt32) = 1)).trans (Nat.mul_one _).symm) (one_u32 _) (by simp only [List.map_append, List.map_nil]) (by omega) (by omega) (by omega) (fun _ _ => Y1) rfl (fun a_89 c_90 w_91 h_92 => ?_)
       refine WL.nil ?_
       refine ⟨(SL.cons (h_92.ok _ M2) (SL.cons (h_92.ok _ M3) (SL.cons (h_92.ok _ M4) (SL.cons (h_92.ok _ M5) (SL.nil _ _))))), ?_⟩
       refine qT rfl rfl (fun wq hS => R.assign (v := (.slice a_89 (j + 1) c_90)) rfl) ?_
       refine WT.nil (thn_n ?_)
       exact ⟨(a_89, c_90, b_86), (Ag.upd rfl (U2 rfl rfl (U4 rfl rfl rfl rfl (U4 rfl rfl rfl rfl (U4 rfl rfl rfl rfl (U4 rfl rfl rfl rfl (Ag.refl _ _))))))), ⟨rfl, rfl, rfl, rfl, rfl, rfl, rfl, rfl, rfl, rfl, rfl, rfl, rfl, rfl, rfl, rfl, rfl, rfl, rfl, trivial⟩, h_92⟩
     ·refine Op1.one rfl (Wn.no rfl) ?_
      refine qV rfl (R.loadG (a := ra2) (i := j - 7) (xs := (wL bs j).map vu32) (v := (vu32 ((wL bs j).getD (j - 7) 0))) rfl (ownView (h_56.ok _ M0)) Try.isAgg170 (get_u32 (lt_len (K := j) (wL_len bs j) (by omega)))) ?_
      refine WL.nil ?_
      refine ⟨(SL.cons (h_56.ok _ M1) (SL.cons (h_56.ok _ M2) (SL.cons (h_56.ok _ M3) (SL.cons (h_56.ok _ M4) (SL.nil _ _))))), ?_⟩
      refine WT.s (Op1.one rfl (Wn.no rfl) ?_)
      refine qV rfl (R.indexS (a := ra2) (i := j - 16) (off := j - 16) (xs := (wL bs j).map vu32) rfl rfl rfl (by omega) (ownView (h_56.ok _ M0)) (lt_len (K := j) (len_map (wL_len bs j)) (by omega)) Try.underlying186 Try.sizeOf170 (Nat.mul_one _).symm) ?_
      refine WL.nil ?_
      refine ⟨(SL.cons (h_56.ok _ M1) (SL.cons (h_56.ok _ M2) (SL.cons (h_56.ok _ M3) (SL.cons (h_56.ok _ M4) (SL.nil _ _))))), ?_⟩
      refine WT.s (Op1.one rfl (Wn.no rfl) ?_)
      refine qV rfl (R.loadG (a := ra2) (i := j - 16) (xs := (wL bs j).map vu32) (v := (vu32 ((wL bs j).getD (j - 16) 0))) rfl (ownView (h_56.ok _ M0)) Try.isAgg170 (get_u32 (lt_len (K := j) (wL_len bs j) (by omega)))) ?_
      refine WL.nil ?_
      refine ⟨(SL.cons (h_56.ok _ M1) (SL.cons (h_56.ok _ M2) (SL.cons (h_56.ok _ M3) (SL.cons (h_56.ok _ M4) (SL.nil _ _))))), ?_⟩
      refine qT rfl rfl (fun wq hS => R.bin rfl rfl (b32_add ((wL bs j).getD (j - 16) 0) (((rot ((wL bs j).getD (j - 15) 0) 7) ^^^ (rot ((wL bs j).getD (j - 15) 0) 18)) ^^^ (shr32 ((wL bs j).getD (j - 15) 0) 3)))) ?_
      refine qT rfl rfl (fun wq hS => R.bin rfl rfl (b32_add (((wL bs j).getD (j - 16) 0) + (((rot ((wL bs j).getD (j - 15) 0) 7) ^^^ (rot ((wL bs j).getD (j - 15) 0) 18)) ^^^ (shr32 ((wL bs j).getD (j - 15) 0) 3))) ((wL bs j).getD (j - 7) 0))) ?_
      refine qT rfl rfl (fun wq hS => R.bin rfl rfl (b32_add ((((wL bs j).getD (j - 16) 0) + (((rot ((wL bs j).getD (j - 15) 0) 7) ^^^ (rot ((wL bs j).getD (j - 15) 0) 18)) ^^^ (shr32 ((wL bs j).getD (j - 15) 0) 3))) + ((wL bs j).getD (j - 7) 0)) (((rot ((wL bs j).getD (j - 2) 0) 17) ^^^ (rot ((wL bs j).getD (j - 2) 0) 19)) ^^^ (shr32 ((wL bs j).getD (j - 2) 0) 10)))) ?_
      refine WT.s (Op1.one rfl (Wn.no rfl) ?_)
      refine WL.buildSl (vs := [(0, (vu32 (((((wL bs j).getD (j - 16) 0) + (((rot ((wL bs j).getD (j - 15) 0) 7) ^^^ (rot ((wL bs j).getD (j - 15) 0) 18)) ^^^ (shr32 ((wL bs j).getD (j - 15) 0) 3))) + ((wL bs j).getD (j - 7) 0)) + (((rot ((wL bs j).getD (j - 2) 0) 17) ^^^ (rot ((wL bs j).getD (j - 2) 0) 19)) ^^^ (shr32 ((wL bs j).getD (j - 2) 0) 10)))))]) (cs := ([((((wL bs j).getD (j - 16) 0) + (((rot ((wL bs j).getD (j - 15) 0) 7) ^^^ (rot ((wL bs j).getD (j - 15) 0) 18)) ^^^ (shr32 ((wL bs j).getD (j - 15) 0) 3))) + ((wL bs j).getD (j - 7) 0)) + (((rot ((wL bs j).getD (j - 2) 0) 17) ^^^ (rot ((wL bs j).getD (j - 2) 0) 19)) ^^^ (shr32 ((wL bs j).getD (j - 2) 0) 10))] : List UInt32).map vu32) h_56 Try.underlying186 Try.sizeOf170 (zv Try.typeInfo170 rfl) rfl rfl (by kernel_rfl) rfl (one_u32 _) rfl rfl (fun b_93 w_94 h_95 => ?_)
      refine WL.nil ?_
      refine ⟨(SL.cons (h_95.ok _ M2) (SL.cons (h_95.ok _ M3) (SL.cons (h_95.ok _ M4) (SL.cons (h_95.ok _ M5) (SL.nil _ _))))), ?_⟩
      refine WT.s (Op1.one rfl (Wn.no rfl) ?_)
      refine WL.append (km := j + 1) (xs := (wL bs j).map vu32) (ys := ([((((wL bs j).getD (j - 16) 0) + (((rot ((wL bs j).getD (j - 15) 0) 7) ^^^ (rot ((wL bs j).getD (j - 15) 0) 18)) ^^^ (shr32 ((wL bs j).getD (j - 15) 0) 3))) + ((wL bs j).getD (j - 7) 0)) + (((rot ((wL bs j).getD (j - 2) 0) 17) ^^^ (rot ((wL bs j).getD (j - 2) 0) 19)) ^^^ (shr32 ((wL bs j).getD (j - 2) 0) 10))] : List UInt32).map vu32) (zs := ((wL bs j) ++ ([((((wL bs j).getD (j - 16) 0) + (((rot ((wL bs j).getD (j - 15) 0) 7) ^^^ (rot ((wL bs j).getD (j - 15) 0) 18)) ^^^ (shr32 ((wL bs j).getD (j - 15) 0) 3))) + ((wL bs j).getD (j - 7) 0)) + (((rot ((wL bs j).getD (j - 2) 0) 17) ^^^ (rot ((wL bs j).getD (j - 2) 0) 19)) ^^^ (shr32 ((wL bs j).getD (j - 2) 0) 10))] : List UInt32)).map vu32) h_95 rfl rfl el186 (viewB (h_95.ok _ M0) Sg.h) ((len_map (rfl : List.length ([((((wL bs j).getD (j - 16) 0) + (((rot ((wL bs j).getD (j - 15) 0) 7) ^^^ (rot ((wL bs j).getD (j - 15) 0) 18)) ^^^ (shr32 ((wL bs j).getD (j - 15) 0) 3))) + ((wL bs j).getD (j - 7) 0)) + (((rot ((wL bs j).getD (j - 2) 0) 17) ^^^ (rot ((wL bs j).getD (j - 2) 0) 19)) ^^^ (shr32 ((wL bs j).getD (j - 2) 0) 10))] : List UInt32) = 1)).trans (Nat.mul_one _).symm) (one_u32 _) (by simp only [List.map_append, List.map_nil]) (by omega) (by omega) (by omega) (fun _ _ => Y1) rfl (fun a_96 c_97 w_98 h_99 => ?_)
      refine WL.nil ?_
      refine ⟨(SL.cons (h_99.ok _ M2) (SL.cons (h_99.ok _ M3) (SL.cons (h_99.ok _ M4) (SL.cons (h_99.ok _ M5) (SL.nil _ _))))), ?_⟩
      refine qT rfl rfl (fun wq hS => R.assign (v := (.slice a_96 (j + 1) c_97)) rfl) ?_
      refine WT.nil (thn_n ?_)
      exact ⟨(a_96, c_97, b_93), (Ag.upd rfl (U2 rfl rfl (U4 rfl rfl rfl rfl (U4 rfl rfl rfl rfl (U4 rfl rfl rfl rfl (U4 rfl rfl rfl rfl (Ag.refl _ _))))))), ⟨rfl, rfl, rfl, rfl, rfl, rfl, rfl, rfl, rfl, rfl, rfl, rfl, rfl, rfl, rfl, rfl, rfl, rfl, rfl, trivial⟩, h_99⟩
   ·rintro ⟨a_103, c_104, b_105⟩ J_100 w_101 h_102
    refine inb_n (thn_n (WP.reg ?_))
    refine qM (vn j) rfl rfl (qV rfl (R.bin rfl rfl (bi_add (c := ((j + 1 : Nat) : Int)) (by omega) (by omega))) (qA (vn (j + 1)) rfl rfl ?_))
    refine WL.nil (thn_n ?_)
    have h_111 := (((((h_102.drop rfl).up J4).up J4).up J4).up J4).up J4
    have es : (wL bs j) ++ ([((((wL bs j).getD (j - 16) 0) + (((rot ((wL bs j).getD (j - 15) 0) 7) ^^^ (rot ((wL bs j).getD (j - 15) 0) 18)) ^^^ (shr32 ((wL bs j).getD (j - 15) 0) 3))) + ((wL bs j).getD (j - 7) 0)) + (((rot ((wL bs j).getD (j - 2) 0) 17) ^^^ (rot ((wL bs j).getD (j - 2) 0) 19)) ^^^ (shr32 ((wL bs j).getD (j - 2) 0) 10))] : List UInt32) = wL bs (j + 1) := wL_hi4 (by omega) rfl
    rw [es] at h_111
    exact ⟨(j + 1, a_103, c_104), _, (by omega), (Ag.upd rfl (U2 rfl rfl (Ag.updL rfl (Ag.trans (Ag.sub rfl (Ag.mix _ _ _)) (Ag.upd rfl (Ag.upd rfl (Ag.upd rfl (Ag.upd rfl (Ag.upd rfl (Ag.upd rfl (Ag.upd rfl (Ag.upd rfl (Ag.upd rfl (Ag.upd rfl (Ag.upd rfl (Ag.upd rfl (Ag.upd rfl (Ag.upd rfl (Ag.upd rfl (Ag.upd rfl (Ag.upd rfl (Ag.upd rfl (Ag.upd rfl (Ag.upd rfl (Ag.upd rfl (Ag.upd rfl (Ag.upd rfl (Ag.upd rfl (Ag.upd rfl (Ag.upd rfl (Ag.upd rfl (Ag.upd rfl (Ag.upd rfl (Ag.upd rfl (Ag.upd rfl (Ag.upd rfl (Ag.updL rfl (Ag.mix _ _ _)))))))))))))))))))))))))))))))))))))), ⟨rfl, rfl, trivial⟩, h_111, (by omega), (by omega), rfl⟩
  ·have p_112 := of_decide_eq_false c_38
   refine WP.exit (thn_x (thn_x (inb_hit (thn_n (WP.seq (WP.reg ?_))))))
   refine qV rfl (R.loadA (b := b_1) (off := 0) [] [(8, hh.map vu32)] [] (cs := hh.map vu32) rfl Try.isAgg172 Try.sizeOf172 (h_35.ok _ M3) rfl rfl rfl rfl) ?_
   refine WL.alloc (segs := [(8, (List.replicate 8 (0 : UInt32)).map vu32)]) h_35 (zv Try.typeInfo172 rfl) rfl (SsOk.cons (SOk.u32 lr) SsOk.nil) rfl (fun b_113 w_114 h_115 => ?_)
   refine WL.storeA (b := b_113) (off := 0) [] [(8, (List.replicate 8 (0 : UInt32)).map vu32)] [(8, hh.map vu32)] [] (ys := hh.map vu32) h_115 rfl rfl Try.sizeOf172 At.h (by decide) rfl rfl rfl rfl rfl rfl (SsOk.cons (SOk.u32 hhl) SsOk.nil) (fun w_116 h_117 => ?_)
   refine WL.nil (thn_n (WP.seq (WP.seq (WP.reg ?_))))
   refine qA (vi 0) rfl rfl ?_
   refine WL.nil (thn_n (WP.block ?_))
   have hj64 : j = 64 := by omega
   subst hj64
   have h_118 : HP w w_116 [.blk b_113 .nw 172 [(8, hh.map vu32)], .row ra2 64 rc2 170 1 ((W bs).map vu32), .blk b_7 .nw 172 [(8, (List.replicate 8 (0 : UInt32)).map vu32)], .blk b_4 .nw 163 [(64, bs.map vu8)], .blk b_1 .nw 172 [(8, hh.map vu32)], .view ak (ks.map vu32)] := h_117
   refine WP.loopG (G := Nat) [15, 16, 17, 18, 19, 20, 21, 22, 23, 110, 111, 112, 113, 114, 115, 116, 117, 118, 119, 120, 121, 122, 123, 124, 125, 126, 127, 128, 129, 130, 131, 132, 133, 134, 135, 136, 137, 138, 139, 140, 141, 142, 143, 144, 145, 146, 147, 148, 149, 150, 151, 152, 153, 154, 155, 156, 157, 158, 159, 160, 161, 162, 163, 164, 165, 166, 167, 168, 169, 170, 171, 172, 173, 174, 175, 176, 177, 178, 179, 180, 181, 182, 183, 184, 185, 186, 187, 188, 189] (fun r => [(15, (vn r))]) (fun r m w1 => HP w w1 [.blk b_113 .nw 172 [(8, (stN ks (W bs) hh r).map vu32)], .row ra2 64 rc2 170 1 ((W bs).map vu32), .blk b_7 .nw 172 [(8, (List.replicate 8 (0 : UInt32)).map vu32)], .blk b_4 .nw 163 [(64, bs.map vu8)], .blk b_1 .nw 172 [(8, hh.map vu32)], .view ak (ks.map vu32)] ∧ (r ≤ 64) ∧ m = 64 - r) ⟨0, _, ⟨rfl, trivial⟩, h_118, (by omega), rfl⟩ ?_
   rintro r m_121 J_122 w_119 ⟨h_120, hr, rfl⟩
   refine WP.seq (WP.seq (WP.reg ?_))
   refine qM (vn r) rfl rfl (qV rfl (R.bin rfl rfl (bi_lss (r := decide ((((r : Nat) : Int) : Int) < 64)) rfl)) ?_)
   refine WL.nil (thn_n ?_)
   refine WP.cond (b := decide ((((r : Nat) : Int) : Int) < 64)) rfl (fun c_123 => ?_) (fun c_123 => ?_)
   ·have p_124 := of_decide_eq_true c_123
    refine WP.skip (thn_n (WP.seq (WP.block (WP.seq ?_))))
    refine WP.drawT (SL w.heap.size [.blk b_113 .nw 172 [(8, (stN ks (W bs) hh r).map vu32)], .row ra2 64 rc2 170 1 ((W bs).map vu32), .blk b_7 .nw 172 [(8, (List.replicate 8 (0 : UInt32)).map vu32)], .blk b_4 .nw 163 [(64, bs.map vu8)], .blk b_1 .nw 172 [(8, hh.map vu32)], .view ak (ks.map vu32)]) (.q 0 (.q 1 (.q 2 (.q 3 (.q 4 (.q 5 (.q 6 (.q 7 (.q 8 (.q 9 (.q 10 (.q 11 (.q 12 (.q 13 (.q 14 (.q 15 (.q 16 (.q 17 .nil)))))))))))))))))) (by kernel_rfl) (by kernel_rfl) rfl (by kernel_rfl) (fun w_125 hc_127 => (SL.cons ((h_120.same hc_127).ok _ M0) (SL.cons ((h_120.same hc_127).ok _ M1) (SL.cons ((h_120.same hc_127).ok _ M2) (SL.cons ((h_120.same hc_127).ok _ M3) (SL.cons ((h_120.same hc_127).ok _ M4) (SL.cons ((h_120.same hc_127).ok _ M5) (SL.nil _ _)))))))) (fun w_125 hc_127 => ?_)
    have h_126 := h_120.same hc_127
    refine qT rfl rfl (fun wq hS => R.indexA (b := b_113) (off := 0) (off' := 0) (i := 0) rfl rfl rfl (by decide) Try.underlying172 Try.sizeOf170 rfl) ?_
    refine qT rfl rfl (fun wq hS => R.loadE (b := b_113) (off := 0) (i := 0) (v := (vu32 ((stN ks (W bs) hh r).getD 0 0))) rfl Try.isAgg170 (hS _ M0) Sg.h rfl (get_u32 (lt_len (K := 8) (stN_len hhl r) (by decide)))) ?_
    refine qT rfl rfl (fun wq hS => R.indexA (b := b_113) (off := 0) (off' := 1) (i := 1) rfl rfl rfl (by decide) Try.underlying172 Try.sizeOf170 rfl) ?_
    refine qT rfl rfl (fun wq hS => R.loadE (b := b_113) (off := 1) (i := 1) (v := (vu32 ((stN ks (W bs) hh r).getD 1 0))) rfl Try.isAgg170 (hS _ M0) Sg.h rfl (get_u32 (lt_len (K := 8) (stN_len hhl r) (by decide)))) ?_
    refine qT rfl rfl (fun wq hS => R.indexA (b := b_113) (off := 0) (off' := 2) (i := 2) rfl rfl rfl (by decide) Try.underlying172 Try.sizeOf170 rfl) ?_
    refine qT rfl rfl (fun wq hS => R.loadE (b := b_113) (off := 2) (i := 2) (v := (vu32 ((stN ks (W bs) hh r).getD 2 0))) rfl Try.isAgg170 (hS _ M0) Sg.h rfl (get_u32 (lt_len (K := 8) (stN_len hhl r) (by decide)))) ?_
    refine qT rfl rfl (fun wq hS => R.indexA (b := b_113) (off := 0) (off' := 4) (i := 4) rfl rfl rfl (by decide) Try.underlying172 Try.sizeOf170 rfl) ?_
    refine qT rfl rfl (fun wq hS => R.loadE (b := b_113) (off := 4) (i := 4) (v := (vu32 ((stN ks (W bs) hh r).getD 4 0))) rfl Try.isAgg170 (hS _ M0) Sg.h rfl (get_u32 (lt_len (K := 8) (stN_len hhl r) (by decide)))) ?_
    refine qT rfl rfl (fun wq hS => R.indexA (b := b_113) (off := 0) (off' := 5) (i := 5) rfl rfl rfl (by decide) Try.underlying172 Try.sizeOf170 rfl) ?_
    refine qT rfl rfl (fun wq hS => R.loadE (b := b_113) (off := 5) (i := 5) (v := (vu32 ((stN ks (W bs) hh r).getD 5 0))) rfl Try.isAgg170 (hS _ M0) Sg.h rfl (get_u32 (lt_len (K := 8) (stN_len hhl r) (by decide)))) ?_
    refine qT rfl rfl (fun wq hS => R.indexA (b := b_113) (off := 0) (off' := 6) (i := 6) rfl rfl rfl (by decide) Try.underlying172 Try.sizeOf170 rfl) ?_
    refine qT rfl rfl (fun wq hS => R.loadE (b := b_113) (off := 6) (i := 6) (v := (vu32 ((stN ks (W bs) hh r).getD 6 0))) rfl Try.isAgg170 (hS _ M0) Sg.h rfl (get_u32 (lt_len (K := 8) (stN_len hhl r) (by decide)))) ?_
    refine qT rfl rfl (fun wq hS => R.assign (v := (vu32 ((stN ks (W bs) hh r).getD 0 0))) rfl) ?_
    refine qT rfl rfl (fun wq hS => R.assign (v := (vu32 ((stN ks (W bs) hh r).getD 1 0))) rfl) ?_
    refine qT rfl rfl (fun wq hS => R.assign (v := (vu32 ((stN ks (W bs) hh r).getD 2 0))) rfl) ?_
    refine qT rfl rfl (fun wq hS => R.assign (v := (vu32 ((stN ks (W bs) hh r).getD 4 0))) rfl) ?_
    refine qT rfl rfl (fun wq hS => R.assign (v := (vu32 ((stN ks (W bs) hh r).getD 5 0))) rfl) ?_
    refine qT rfl rfl (fun wq hS => R.assign (v := (vu32 ((stN ks (W bs) hh r).getD 6 0))) rfl) ?_
    refine WT.nil (thn_n (WP.seq ?_))
    refine WP.drawT (SL w.heap.size [.blk b_113 .nw 172 [(8, (stN ks (W bs) hh r).map vu32)], .row ra2 64 rc2 170 1 ((W bs).map vu32), .blk b_7 .nw 172 [(8, (List.replicate 8 (0 : UInt32)).map vu32)], .blk b_4 .nw 163 [(64, bs.map vu8)], .blk b_1 .nw 172 [(8, hh.map vu32)], .view ak (ks.map vu32)]) (.q 0 (.q 1 (.q 2 (.q 4 (.q 7 (.q 11 (.q 12 (.q 13 (.q 14 (.q 15 (.q 16 (.q 17 (.q 18 (.q 20 (.q 21 (.q 22 (.q 23 (.q 25 (.q 26 (.q 27 (.q 28 (.s 3 (.s 5 (.q 6 (.s 8 (.q 9 (.q 10 (.q 19 (.q 24 (.q 29 (.q 30 .nil))))))))))))))))))))))))))))))) (by kernel_rfl) (by kernel_rfl) rfl (by kernel_rfl) (fun w_128 hc_130 => (SL.cons ((h_126.same hc_130).ok _ M0) (SL.cons ((h_126.same hc_130).ok _ M1) (SL.cons ((h_126.same hc_130).ok _ M2) (SL.cons ((h_126.same hc_130).ok _ M3) (SL.cons ((h_126.same hc_130).ok _ M4) (SL.cons ((h_126.same hc_130).ok _ M5) (SL.nil _ _)))))))) (fun w_128 hc_130 => ?_)
    have h_129 := h_126.same hc_130
    refine qT rfl rfl (fun wq hS => R.indexA (b := b_113) (off := 0) (off' := 7) (i := 7) rfl rfl rfl (by decide) Try.underlying172 Try.sizeOf170 rfl) ?_
    refine qT rfl rfl (fun wq hS => R.loadE (b := b_113) (off := 7) (i := 7) (v := (vu32 ((stN ks (W bs) hh r).getD 7 0))) rfl Try.isAgg170 (hS _ M0) Sg.h rfl (get_u32 (lt_len (K := 8) (stN_len hhl r) (by decide)))) ?_
    refine qT rfl rfl (fun wq hS => R.move (v := (vu32 ((stN ks (W bs) hh r).getD 4 0))) rfl) ?_
    refine qT rfl rfl (fun wq hS => R.move (v := (vu32 ((stN ks (W bs) hh r).getD 4 0))) rfl) ?_
    refine qT rfl rfl (fun wq hS => R.move (v := (vu32 ((stN ks (W bs) hh r).getD 4 0))) rfl) ?_
    refine qT rfl rfl (fun wq hS => R.move (v := (vu32 ((stN ks (W bs) hh r).getD 4 0))) rfl) ?_
    refine qT rfl rfl (fun wq hS => R.move (v := (vu32 ((stN ks (W bs) hh r).getD 5 0))) rfl) ?_
    refine qT rfl rfl (fun wq hS => R.bin rfl rfl (b32_and ((stN ks (W bs) hh r).getD 4 0) ((stN ks (W bs) hh r).getD 5 0))) ?_
    refine qT rfl rfl (fun wq hS => R.move (v := (vu32 ((stN ks (W bs) hh r).getD 4 0))) rfl) ?_
    refine qT rfl rfl (fun wq hS => R.un rfl (run_not32 ((stN ks (W bs) hh r).getD 4 0))) ?_
    refine qT rfl rfl (fun wq hS => R.move (v := (vu32 ((stN ks (W bs) hh r).getD 6 0))) rfl) ?_
    refine qT rfl rfl (fun wq hS => R.bin rfl rfl (b32_and (~~~((stN ks (W bs) hh r).getD 4 0)) ((stN ks (W bs) hh r).getD 6 0))) ?_
    refine qT rfl rfl (fun wq hS => R.bin rfl rfl (b32_xor (((stN ks (W bs) hh r).getD 4 0) &&& ((stN ks (W bs) hh r).getD 5 0)) ((~~~((stN ks (W bs) hh r).getD 4 0)) &&& ((stN ks (W bs) hh r).getD 6 0)))) ?_
    refine qT rfl rfl (fun wq hS => R.move (v := (.slice ak 64 kc)) rfl) ?_
    refine qT rfl rfl (fun wq hS => R.move (v := (vn r)) rfl) ?_
    refine qT rfl rfl (fun wq hS => R.indexS (a := ak) (i := r) (off := r) (xs := ks.map vu32) rfl rfl rfl (by omega) (viewV (hS _ M5)) (lt_len (K := 64) (len_map hkl) (by omega)) Try.underlying186 Try.sizeOf170 (Nat.mul_one _).symm) ?_
    refine qT rfl rfl (fun wq hS => R.loadG (a := ak) (i := r) (xs := ks.map vu32) (v := (vu32 (ks.getD r 0))) rfl (viewV (hS _ M5)) Try.isAgg170 (get_u32 (lt_len (K := 64) hkl (by omega)))) ?_
    refine qT rfl rfl (fun wq hS => R.move (v := (.slice ra2 64 rc2)) rfl) ?_
    refine qT rfl rfl (fun wq hS => R.move (v := (vn r)) rfl) ?_
    refine qT rfl rfl (fun wq hS => R.indexS (a := ra2) (i := r) (off := r) (xs := (W bs).map vu32) rfl rfl rfl (by omega) (ownView (hS _ M1)) (lt_len (K := 64) (len_map (W_len bs)) (by omega)) Try.underlying186 Try.sizeOf170 (Nat.mul_one _).symm) ?_
    refine qT rfl rfl (fun wq hS => R.loadG (a := ra2) (i := r) (xs := (W bs).map vu32) (v := (vu32 ((W bs).getD r 0))) rfl (ownView (hS _ M1)) Try.isAgg170 (get_u32 (lt_len (K := 64) (W_len bs) (by omega)))) ?_
    refine WT.s (Op1.one rfl (Wn.no rfl) ?_)
    refine WL.call Try.call141 rfl rfl (c_ror6 ((stN ks (W bs) hh r).getD 4 0) _ ) rfl ?_
    rintro _ w_132 ⟨rfl, hc_131⟩
    have h_133 := h_129.same hc_131
    refine WL.nil ?_
    refine ⟨(SL.cons (h_133.ok _ M0) (SL.cons (h_133.ok _ M1) (SL.cons (h_133.ok _ M2) (SL.cons (h_133.ok _ M3) (SL.cons (h_133.ok _ M4) (SL.cons (h_133.ok _ M5) (SL.nil _ _))))))), ?_⟩
    refine WT.s (Op1.one rfl (Wn.no rfl) ?_)
    refine WL.call Try.call141 rfl rfl (c_ror11 ((stN ks (W bs) hh r).getD 4 0) _ ) rfl ?_
    rintro _ w_135 ⟨rfl, hc_134⟩
    have h_136 := h_133.same hc_134
    refine WL.nil ?_
    refine ⟨(SL.cons (h_136.ok _ M0) (SL.cons (h_136.ok _ M1) (SL.cons (h_136.ok _ M2) (SL.cons (h_136.ok _ M3) (SL.cons (h_136.ok _ M4) (SL.cons (h_136.ok _ M5) (SL.nil _ _))))))), ?_⟩
    refine qT rfl rfl (fun wq hS => R.bin rfl rfl (b32_xor (rot ((stN ks (W bs) hh r).getD 4 0) 6) (rot ((stN ks (W bs) hh r).getD 4 0) 11))) ?_
    refine WT.s (Op1.one rfl (Wn.no rfl) ?_)
    refine WL.call Try.call141 rfl rfl (c_ror25 ((stN ks (W bs) hh r).getD 4 0) _ ) rfl ?_
    rintro _ w_138 ⟨rfl, hc_137⟩
    have h_139 := h_136.same hc_137
    refine WL.nil ?_
    refine ⟨(SL.cons (h_139.ok _ M0) (SL.cons (h_139.ok _ M1) (SL.cons (h_139.ok _ M2) (SL.cons (h_139.ok _ M3) (SL.cons (h_139.ok _ M4) (SL.cons (h_139.ok _ M5) (SL.nil _ _))))))), ?_⟩
    refine qT rfl rfl (fun wq hS => R.bin rfl rfl (b32_xor ((rot ((stN ks (W bs) hh r).getD 4 0) 6) ^^^ (rot ((stN ks (W bs) hh r).getD 4 0) 11)) (rot ((stN ks (W bs) hh r).getD 4 0) 25))) ?_
    refine qT rfl rfl (fun wq hS => R.bin rfl rfl (b32_add ((stN ks (W bs) hh r).getD 7 0) (((rot ((stN ks (W bs) hh r).getD 4 0) 6) ^^^ (rot ((stN ks (W bs) hh r).getD 4 0) 11)) ^^^ (rot ((stN ks (W bs) hh r).getD 4 0) 25)))) ?_
    refine qT rfl rfl (fun wq hS => R.bin rfl rfl (b32_add (((stN ks (W bs) hh r).getD 7 0) + (((rot ((stN ks (W bs) hh r).getD 4 0) 6) ^^^ (rot ((stN ks (W bs) hh r).getD 4 0) 11)) ^^^ (rot ((stN ks (W bs) hh r).getD 4 0) 25))) ((((stN ks (W bs) hh r).getD 4 0) &&& ((stN ks (W bs) hh r).getD 5 0)) ^^^ ((~~~((stN ks (W bs) hh r).getD 4 0)) &&& ((stN ks (W bs) hh r).getD 6 0))))) ?_
    refine qT rfl rfl (fun wq hS => R.bin rfl rfl (b32_add ((((stN ks (W bs) hh r).getD 7 0) + (((rot ((stN ks (W bs) hh r).getD 4 0) 6) ^^^ (rot ((stN ks (W bs) hh r).getD 4 0) 11)) ^^^ (rot ((stN ks (W bs) hh r).getD 4 0) 25))) + ((((stN ks (W bs) hh r).getD 4 0) &&& ((stN ks (W bs) hh r).getD 5 0)) ^^^ ((~~~((stN ks (W bs) hh r).getD 4 0)) &&& ((stN ks (W bs) hh r).getD 6 0)))) (ks.getD r 0))) ?_
    refine qT rfl rfl (fun wq hS => R.bin rfl rfl (b32_add (((((stN ks (W bs) hh r).getD 7 0) + (((rot ((stN ks (W bs) hh r).getD 4 0) 6) ^^^ (rot ((stN ks (W bs) hh r).getD 4 0) 11)) ^^^ (rot ((stN ks (W bs) hh r).getD 4 0) 25))) + ((((stN ks (W bs) hh r).getD 4 0) &&& ((stN ks (W bs) hh r).getD 5 0)) ^^^ ((~~~((stN ks (W bs) hh r).getD 4 0)) &&& ((stN ks (W bs) hh r).getD 6 0)))) + (ks.getD r 0)) ((W bs).getD r 0))) ?_
    refine qT rfl rfl (fun wq hS => R.assign (v := (vu32 ((((((stN ks (W bs) hh r).getD 7 0) + (((rot ((stN ks (W bs) hh r).getD 4 0) 6) ^^^ (rot ((stN ks (W bs) hh r).getD 4 0) 11)) ^^^ (rot ((stN ks (W bs) hh r).getD 4 0) 25))) + ((((stN ks (W bs) hh r).getD 4 0) &&& ((stN ks (W bs) hh r).getD 5 0)) ^^^ ((~~~((stN ks (W bs) hh r).getD 4 0)) &&& ((stN ks (W bs) hh r).getD 6 0)))) + (ks.getD r 0)) + ((W bs).getD r 0)))) rfl) ?_
    refine WT.nil (thn_n (WP.seq (WP.reg ?_)))
    refine qM (vu32 ((stN ks (W bs) hh r).getD 0 0)) rfl rfl ?_
    refine WL.call Try.call141 rfl rfl (c_ror2 ((stN ks (W bs) hh r).getD 0 0) _ ) rfl ?_
    rintro _ w_141 ⟨rfl, hc_140⟩
    have h_142 := h_139.same hc_140
    refine qM (vu32 ((stN ks (W bs) hh r).getD 0 0)) rfl rfl ?_
    refine WL.call Try.call141 rfl rfl (c_ror13 ((stN ks (W bs) hh r).getD 0 0) _ ) rfl ?_
    rintro _ w_144 ⟨rfl, hc_143⟩
    have h_145 := h_142.same hc_143
    refine qV rfl (R.bin rfl rfl (b32_xor (rot ((stN ks (W bs) hh r).getD 0 0) 2) (rot ((stN ks (W bs) hh r).getD 0 0) 13))) (qM (vu32 ((stN ks (W bs) hh r).getD 0 0)) rfl rfl ?_)
    refine WL.call Try.call141 rfl rfl (c_ror22 ((stN ks (W bs) hh r).getD 0 0) _ ) rfl ?_
    rintro _ w_147 ⟨rfl, hc_146⟩
    have h_148 := h_145.same hc_146
    refine qV rfl (R.bin rfl rfl (b32_xor ((rot ((stN ks (W bs) hh r).getD 0 0) 2) ^^^ (rot ((stN ks (W bs) hh r).getD 0 0) 13)) (rot ((stN ks (W bs) hh r).getD 0 0) 22))) (qM (vu32 ((stN ks (W bs) hh r).getD 0 0)) rfl rfl (qM (vu32 ((stN ks (W bs) hh r).getD 1 0)) rfl rfl (qV rfl (R.bin rfl rfl (b32_and ((stN ks (W bs) hh r).getD 0 0) ((stN ks (W bs) hh r).getD 1 0))) (qM (vu32 ((stN ks (W bs) hh r).getD 0 0)) rfl rfl (qM (vu32 ((stN ks (W bs) hh r).getD 2 0)) rfl rfl (qV rfl (R.bin rfl rfl (b32_and ((stN ks (W bs) hh r).getD 0 0) ((stN ks (W bs) hh r).getD 2 0))) (qV rfl (R.bin rfl rfl (b32_xor (((stN ks (W bs) hh r).getD 0 0) &&& ((stN ks (W bs) hh r).getD 1 0)) (((stN ks (W bs) hh r).getD 0 0) &&& ((stN ks (W bs) hh r).getD 2 0)))) (qM (vu32 ((stN ks (W bs) hh r).getD 1 0)) rfl rfl (qM (vu32 ((stN ks (W bs) hh r).getD 2 0)) rfl rfl (qV rfl (R.bin rfl rfl (b32_and ((stN ks (W bs) hh r).getD 1 0) ((stN ks (W bs) hh r).getD 2 0))) (qV rfl (R.bin rfl rfl (b32_xor ((((stN ks (W bs) hh r).getD 0 0) &&& ((stN ks (W bs) hh r).getD 1 0)) ^^^ (((stN ks (W bs) hh r).getD 0 0) &&& ((stN ks (W bs) hh r).getD 2 0))) (((stN ks (W bs) hh r).getD 1 0) &&& ((stN ks (W bs) hh r).getD 2 0)))) ?_)))))))))))
    refine qV rfl (R.bin rfl rfl (b32_add (((rot ((stN ks (W bs) hh r).getD 0 0) 2) ^^^ (rot ((stN ks (W bs) hh r).getD 0 0) 13)) ^^^ (rot ((stN ks (W bs) hh r).getD 0 0) 22)) (((((stN ks (W bs) hh r).getD 0 0) &&& ((stN ks (W bs) hh r).getD 1 0)) ^^^ (((stN ks (W bs) hh r).getD 0 0) &&& ((stN ks (W bs) hh r).getD 2 0))) ^^^ (((stN ks (W bs) hh r).getD 1 0) &&& ((stN ks (W bs) hh r).getD 2 0))))) (qA (vu32 ((((rot ((stN ks (W bs) hh r).getD 0 0) 2) ^^^ (rot ((stN ks (W bs) hh r).getD 0 0) 13)) ^^^ (rot ((stN ks (W bs) hh r).getD 0 0) 22)) + (((((stN ks (W bs) hh r).getD 0 0) &&& ((stN ks (W bs) hh r).getD 1 0)) ^^^ (((stN ks (W bs) hh r).getD 0 0) &&& ((stN ks (W bs) hh r).getD 2 0))) ^^^ (((stN ks (W bs) hh r).getD 1 0) &&& ((stN ks (W bs) hh r).getD 2 0))))) rfl rfl ?_)
    refine WL.nil (thn_n (WP.reg ?_))
    refine qM (vu32 ((((((stN ks (W bs) hh r).getD 7 0) + (((rot ((stN ks (W bs) hh r).getD 4 0) 6) ^^^ (rot ((stN ks (W bs) hh r).getD 4 0) 11)) ^^^ (rot ((stN ks (W bs) hh r).getD 4 0) 25))) + ((((stN ks (W bs) hh r).getD 4 0) &&& ((stN ks (W bs) hh r).getD 5 0)) ^^^ ((~~~((stN ks (W bs) hh r).getD 4 0)) &&& ((stN ks (W bs) hh r).getD 6 0)))) + (ks.getD r 0)) + ((W bs).getD r 0))) rfl rfl (qM (vu32 ((((rot ((stN ks (W bs) hh r).getD 0 0) 2) ^^^ (rot ((stN ks (W bs) hh r).getD 0 0) 13)) ^^^ (rot ((stN ks (W bs) hh r).getD 0 0) 22)) + (((((stN ks (W bs) hh r).getD 0 0) &&& ((stN ks (W bs) hh r).getD 1 0)) ^^^ (((stN ks (W bs) hh r).getD 0 0) &&& ((stN ks (W bs) hh r).getD 2 0))) ^^^ (((stN ks (W bs) hh r).getD 1 0) &&& ((stN ks (W bs) hh r).getD 2 0))))) rfl rfl (qV rfl (R.bin rfl rfl (b32_add ((((((stN ks (W bs) hh r).getD 7 0) + (((rot ((stN ks (W bs) hh r).getD 4 0) 6) ^^^ (rot ((stN ks (W bs) hh r).getD 4 0) 11)) ^^^ (rot ((stN ks (W bs) hh r).getD 4 0) 25))) + ((((stN ks (W bs) hh r).getD 4 0) &&& ((stN ks (W bs) hh r).getD 5 0)) ^^^ ((~~~((stN ks (W bs) hh r).getD 4 0)) &&& ((stN ks (W bs) hh r).getD 6 0)))) + (ks.getD r 0)) + ((W bs).getD r 0)) ((((rot ((stN ks (W bs) hh r).getD 0 0) 2) ^^^ (rot ((stN ks (W bs) hh r).getD 0 0) 13)) ^^^ (rot ((stN ks (W bs) hh r).getD 0 0) 22)) + (((((stN ks (W bs) hh r).getD 0 0) &&& ((stN ks (W bs) hh r).getD 1 0)) ^^^ (((stN ks (W bs) hh r).getD 0 0) &&& ((stN ks (W bs) hh r).getD 2 0))) ^^^ (((stN ks (W bs) hh r).getD 1 0) &&& ((stN ks (W bs) hh r).getD 2 0)))))) (qM (vu32 ((stN ks (W bs) hh r).getD 0 0)) rfl rfl (qM (vu32 ((stN ks (W bs) hh r).getD 1 0)) rfl rfl (qM (vu32 ((stN ks (W bs) hh r).getD 2 0)) rfl rfl (qV rfl (R.indexA (b := b_113) (off := 0) (off' := 3) (i := 3) rfl rfl rfl (by decide) Try.underlying172 Try.sizeOf170 rfl) (qV rfl (R.loadE (b := b_113) (off := 3) (i := 3) (v := (vu32 ((stN ks (W bs) hh r).getD 3 0))) rfl Try.isAgg170 (h_148.ok _ M0) Sg.h rfl (get_u32 (lt_len (K := 8) (stN_len hhl r) (by decide)))) (qM (vu32 ((((((stN ks (W bs) hh r).getD 7 0) + (((rot ((stN ks (W bs) hh r).getD 4 0) 6) ^^^ (rot ((stN ks (W bs) hh r).getD 4 0) 11)) ^^^ (rot ((stN ks (W bs) hh r).getD 4 0) 25))) + ((((stN ks (W bs) hh r).getD 4 0) &&& ((stN ks (W bs) hh r).getD 5 0)) ^^^ ((~~~((stN ks (W bs) hh r).getD 4 0)) &&& ((stN ks (W bs) hh r).getD 6 0)))) + (ks.getD r 0)) + ((W bs).getD r 0))) rfl rfl (qV rfl (R.bin rfl rfl (b32_add ((stN ks (W bs) hh r).getD 3 0) ((((((stN ks (W bs) hh r).getD 7 0) + (((rot ((stN ks (W bs) hh r).getD 4 0) 6) ^^^ (rot ((stN ks (W bs) hh r).getD 4 0) 11)) ^^^ (rot ((stN ks (W bs) hh r).getD 4 0) 25))) + ((((stN ks (W bs) hh r).getD 4 0) &&& ((stN ks (W bs) hh r).getD 5 0)) ^^^ ((~~~((stN ks (W bs) hh r).getD 4 0)) &&& ((stN ks (W bs) hh r).getD 6 0)))) + (ks.getD r 0)) + ((W bs).getD r 0)))) (qM (vu32 ((stN ks (W bs) hh r).getD 4 0)) rfl rfl (qM (vu32 ((stN ks (W bs) hh r).getD 5 0)) rfl rfl ?_)))))))))))
    refine qM (vu32 ((stN ks (W bs) hh r).getD 6 0)) rfl rfl (qV rfl (R.buildA (vs := [(0, (vu32 (((((((stN ks (W bs) hh r).getD 7 0) + (((rot ((stN ks (W bs) hh r).getD 4 0) 6) ^^^ (rot ((stN ks (W bs) hh r).getD 4 0) 11)) ^^^ (rot ((stN ks (W bs) hh r).getD 4 0) 25))) + ((((stN ks (W bs) hh r).getD 4 0) &&& ((stN ks (W bs) hh r).getD 5 0)) ^^^ ((~~~((stN ks (W bs) hh r).getD 4 0)) &&& ((stN ks (W bs) hh r).getD 6 0)))) + (ks.getD r 0)) + ((W bs).getD r 0)) + ((((rot ((stN ks (W bs) hh r).getD 0 0) 2) ^^^ (rot ((stN ks (W bs) hh r).getD 0 0) 13)) ^^^ (rot ((stN ks (W bs) hh r).getD 0 0) 22)) + (((((stN ks (W bs) hh r).getD 0 0) &&& ((stN ks (W bs) hh r).getD 1 0)) ^^^ (((stN ks (W bs) hh r).getD 0 0) &&& ((stN ks (W bs) hh r).getD 2 0))) ^^^ (((stN ks (W bs) hh r).getD 1 0) &&& ((stN ks (W bs) hh r).getD 2 0))))))), (1, (vu32 ((stN ks (W bs) hh r).getD 0 0))), (2, (vu32 ((stN ks (W bs) hh r).getD 1 0))), (3, (vu32 ((stN ks (W bs) hh r).getD 2 0))), (4, (vu32 (((stN ks (W bs) hh r).getD 3 0) + ((((((stN ks (W bs) hh r).getD 7 0) + (((rot ((stN ks (W bs) hh r).getD 4 0) 6) ^^^ (rot ((stN ks (W bs) hh r).getD 4 0) 11)) ^^^ (rot ((stN ks (W bs) hh r).getD 4 0) 25))) + ((((stN ks (W bs) hh r).getD 4 0) &&& ((stN ks (W bs) hh r).getD 5 0)) ^^^ ((~~~((stN ks (W bs) hh r).getD 4 0)) &&& ((stN ks (W bs) hh r).getD 6 0)))) + (ks.getD r 0)) + ((W bs).getD r 0))))), (5, (vu32 ((stN ks (W bs) hh r).getD 4 0))), (6, (vu32 ((stN ks (W bs) hh r).getD 5 0))), (7, (vu32 ((stN ks (W bs) hh r).getD 6 0)))]) (cs := ([((((((stN ks (W bs) hh r).getD 7 0) + (((rot ((stN ks (W bs) hh r).getD 4 0) 6) ^^^ (rot ((stN ks (W bs) hh r).getD 4 0) 11)) ^^^ (rot ((stN ks (W bs) hh r).getD 4 0) 25))) + ((((stN ks (W bs) hh r).getD 4 0) &&& ((stN ks (W bs) hh r).getD 5 0)) ^^^ ((~~~((stN ks (W bs) hh r).getD 4 0)) &&& ((stN ks (W bs) hh r).getD 6 0)))) + (ks.getD r 0)) + ((W bs).getD r 0)) + ((((rot ((stN ks (W bs) hh r).getD 0 0) 2) ^^^ (rot ((stN ks (W bs) hh r).getD 0 0) 13)) ^^^ (rot ((stN ks (W bs) hh r).getD 0 0) 22)) + (((((stN ks (W bs) hh r).getD 0 0) &&& ((stN ks (W bs) hh r).getD 1 0)) ^^^ (((stN ks (W bs) hh r).getD 0 0) &&& ((stN ks (W bs) hh r).getD 2 0))) ^^^ (((stN ks (W bs) hh r).getD 1 0) &&& ((stN ks (W bs) hh r).getD 2 0)))), (stN ks (W bs) hh r).getD 0 0, (stN ks (W bs) hh r).getD 1 0, (stN ks (W bs) hh r).getD 2 0, ((stN ks (W bs) hh r).getD 3 0) + ((((((stN ks (W bs) hh r).getD 7 0) + (((rot ((stN ks (W bs) hh r).getD 4 0) 6) ^^^ (rot ((stN ks (W bs) hh r).getD 4 0) 11)) ^^^ (rot ((stN ks (W bs) hh r).getD 4 0) 25))) + ((((stN ks (W bs) hh r).getD 4 0) &&& ((stN ks (W bs) hh r).getD 5 0)) ^^^ ((~~~((stN ks (W bs) hh r).getD 4 0)) &&& ((stN ks (W bs) hh r).getD 6 0)))) + (ks.getD r 0)) + ((W bs).getD r 0)), (stN ks (W bs) hh r).getD 4 0, (stN ks (W bs) hh r).getD 5 0, (stN ks (W bs) hh r).getD 6 0] : List UInt32).map vu32) Try.underlying172 Try.sizeOf170 (zv Try.typeInfo172 rfl) rfl (fill8 rfl _ _ _ _ _ _ _ _)) ?_)
    refine WL.storeA (b := b_113) (off := 0) [] [(8, (stN ks (W bs) hh r).map vu32)] [(8, ([((((((stN ks (W bs) hh r).getD 7 0) + (((rot ((stN ks (W bs) hh r).getD 4 0) 6) ^^^ (rot ((stN ks (W bs) hh r).getD 4 0) 11)) ^^^ (rot ((stN ks (W bs) hh r).getD 4 0) 25))) + ((((stN ks (W bs) hh r).getD 4 0) &&& ((stN ks (W bs) hh r).getD 5 0)) ^^^ ((~~~((stN ks (W bs) hh r).getD 4 0)) &&& ((stN ks (W bs) hh r).getD 6 0)))) + (ks.getD r 0)) + ((W bs).getD r 0)) + ((((rot ((stN ks (W bs) hh r).getD 0 0) 2) ^^^ (rot ((stN ks (W bs) hh r).getD 0 0) 13)) ^^^ (rot ((stN ks (W bs) hh r).getD 0 0) 22)) + (((((stN ks (W bs) hh r).getD 0 0) &&& ((stN ks (W bs) hh r).getD 1 0)) ^^^ (((stN ks (W bs) hh r).getD 0 0) &&& ((stN ks (W bs) hh r).getD 2 0))) ^^^ (((stN ks (W bs) hh r).getD 1 0) &&& ((stN ks (W bs) hh r).getD 2 0)))), (stN ks (W bs) hh r).getD 0 0, (stN ks (W bs) hh r).getD 1 0, (stN ks (W bs) hh r).getD 2 0, ((stN ks (W bs) hh r).getD 3 0) + ((((((stN ks (W bs) hh r).getD 7 0) + (((rot ((stN ks (W bs) hh r).getD 4 0) 6) ^^^ (rot ((stN ks (W bs) hh r).getD 4 0) 11)) ^^^ (rot ((stN ks (W bs) hh r).getD 4 0) 25))) + ((((stN ks (W bs) hh r).getD 4 0) &&& ((stN ks (W bs) hh r).getD 5 0)) ^^^ ((~~~((stN ks (W bs) hh r).getD 4 0)) &&& ((stN ks (W bs) hh r).getD 6 0)))) + (ks.getD r 0)) + ((W bs).getD r 0)), (stN ks (W bs) hh r).getD 4 0, (stN ks (W bs) hh r).getD 5 0, (stN ks (W bs) hh r).getD 6 0] : List UInt32).map vu32)] [] (ys := ([((((((stN ks (W bs) hh r).getD 7 0) + (((rot ((stN ks (W bs) hh r).getD 4 0) 6) ^^^ (rot ((stN ks (W bs) hh r).getD 4 0) 11)) ^^^ (rot ((stN ks (W bs) hh r).getD 4 0) 25))) + ((((stN ks (W bs) hh r).getD 4 0) &&& ((stN ks (W bs) hh r).getD 5 0)) ^^^ ((~~~((stN ks (W bs) hh r).getD 4 0)) &&& ((stN ks (W bs) hh r).getD 6 0)))) + (ks.getD r 0)) + ((W bs).getD r 0)) + ((((rot ((stN ks (W bs) hh r).getD 0 0) 2) ^^^ (rot ((stN ks (W bs) hh r).getD 0 0) 13)) ^^^ (rot ((stN ks (W bs) hh r).getD 0 0) 22)) + (((((stN ks (W bs) hh r).getD 0 0) &&& ((stN ks (W bs) hh r).getD 1 0)) ^^^ (((stN ks (W bs) hh r).getD 0 0) &&& ((stN ks (W bs) hh r).getD 2 0))) ^^^ (((stN ks (W bs) hh r).getD 1 0) &&& ((stN ks (W bs) hh r).getD 2 0)))), (stN ks (W bs) hh r).getD 0 0, (stN ks (W bs) hh r).getD 1 0, (stN ks (W bs) hh r).getD 2 0, ((stN ks (W bs) hh r).getD 3 0) + ((((((stN ks (W bs) hh r).getD 7 0) + (((rot ((stN ks (W bs) hh r).getD 4 0) 6) ^^^ (rot ((stN ks (W bs) hh r).getD 4 0) 11)) ^^^ (rot ((stN ks (W bs) hh r).getD 4 0) 25))) + ((((stN ks (W bs) hh r).getD 4 0) &&& ((stN ks (W bs) hh r).getD 5 0)) ^^^ ((~~~((stN ks (W bs) hh r).getD 4 0)) &&& ((stN ks (W bs) hh r).getD 6 0)))) + (ks.getD r 0)) + ((W bs).getD r 0)), (stN ks (W bs) hh r).getD 4 0, (stN ks (W bs) hh r).getD 5 0, (stN ks (W bs) hh r).getD 6 0] : List UInt32).map vu32) h_148 rfl rfl Try.sizeOf172 At.h (by decide) rfl rfl rfl rfl rfl rfl (SsOk.cons (SOk.u32 (rfl : List.length ([((((((stN ks (W bs) hh r).getD 7 0) + (((rot ((stN ks (W bs) hh r).getD 4 0) 6) ^^^ (rot ((stN ks (W bs) hh r).getD 4 0) 11)) ^^^ (rot ((stN ks (W bs) hh r).getD 4 0) 25))) + ((((stN ks (W bs) hh r).getD 4 0) &&& ((stN ks (W bs) hh r).getD 5 0)) ^^^ ((~~~((stN ks (W bs) hh r).getD 4 0)) &&& ((stN ks (W bs) hh r).getD 6 0)))) + (ks.getD r 0)) + ((W bs).getD r 0)) + ((((rot ((stN ks (W bs) hh r).getD 0 0) 2) ^^^ (rot ((stN ks (W bs) hh r).getD 0 0) 13)) ^^^ (rot ((stN ks (W bs) hh r).getD 0 0) 22)) + (((((stN ks (W bs) hh r).getD 0 0) &&& ((stN ks (W bs) hh r).getD 1 0)) ^^^ (((stN ks (W bs) hh r).getD 0 0) &&& ((stN ks (W bs) hh r).getD 2 0))) ^^^ (((stN ks (W bs) hh r).getD 1 0) &&& ((stN ks (W bs) hh r).getD 2 0)))), (stN ks (W bs) hh r).getD 0 0, (stN ks (W bs) hh r).getD 1 0, (stN ks (W bs) hh r).getD 2 0, ((stN ks (W bs) hh r).getD 3 0) + ((((((stN ks (W bs) hh r).getD 7 0) + (((rot ((stN ks (W bs) hh r).getD 4 0) 6) ^^^ (rot ((stN ks (W bs) hh r).getD 4 0) 11)) ^^^ (rot ((stN ks (W bs) hh r).getD 4 0) 25))) + ((((stN ks (W bs) hh r).getD 4 0) &&& ((stN ks (W bs) hh r).getD 5 0)) ^^^ ((~~~((stN ks (W bs) hh r).getD 4 0)) &&& ((stN ks (W bs) hh r).getD 6 0)))) + (ks.getD r 0)) + ((W bs).getD r 0)), (stN ks (W bs) hh r).getD 4 0, (stN ks (W bs) hh r).getD 5 0, (stN ks (W bs) hh r).getD 6 0] : List UInt32) = 8)) SsOk.nil) (fun w_149 h_150 => ?_)
    refine WL.nil (inb_n (thn_n (WP.reg ?_)))
    refine qM (vn r) rfl rfl (qV rfl (R.bin rfl rfl (bi_add (c := ((r + 1 : Nat) : Int)) (by omega) (by omega))) (qA (vn (r + 1)) rfl rfl ?_))
    refine WL.nil (thn_n ?_)
    have h_156 := (((((h_150.up J5).up J5).up J5).up J5).up J5).up J5
    have h_157 : HP w w_149 [.blk b_113 .nw 172 [(8, (stN ks (W bs) hh (r + 1)).map vu32)], .row ra2 64 rc2 170 1 ((W bs).map vu32), .blk b_7 .nw 172 [(8, (List.replicate 8 (0 : UInt32)).map vu32)], .blk b_4 .nw 163 [(64, bs.map vu8)], .blk b_1 .nw 172 [(8, hh.map vu32)], .view ak (ks.map vu32)] := h_156
    exact ⟨r + 1, _, (by omega), (Ag.upd rfl (U4 rfl rfl rfl rfl (U4 rfl rfl rfl rfl (U4 rfl rfl rfl rfl (U4 rfl rfl rfl rfl (U4 rfl rfl rfl rfl (U4 rfl rfl rfl rfl (U4 rfl rfl rfl rfl (U4 rfl rfl rfl rfl (U4 rfl rfl rfl rfl (U4 rfl rfl rfl rfl (U4 rfl rfl rfl rfl (U4 rfl rfl rfl rfl (U4 rfl rfl rfl rfl (U4 rfl rfl rfl rfl (U4 rfl rfl rfl rfl (U4 rfl rfl rfl rfl (U4 rfl rfl rfl rfl (U4 rfl rfl rfl rfl (U4 rfl rfl rfl rfl (U4 rfl rfl rfl rfl (U4 rfl rfl rfl rfl (U4 rfl rfl rfl rfl (Ag.updL rfl (Ag.mix _ _ _))))))))))))))))))))))))), ⟨rfl, trivial⟩, h_157, (by omega), rfl⟩
   ·have p_158 := of_decide_eq_false c_123
    refine WP.exit (thn_x (thn_x (inb_hit (thn_n (WP.seq (WP.seq (WP.reg ?_)))))))
    refine qA (vi 0) rfl rfl ?_
    refine WL.nil (thn_n (WP.block ?_))
    have hr64 : r = 64 := by omega
    subst hr64
    refine WP.loopG (G := Nat) [24, 190, 191, 192, 193, 194, 195, 196, 197, 198, 199, 200, 201, 202] (fun q => [(24, (vn q))]) (fun q m w1 => HP w w1 [.blk b_113 .nw 172 [(8, (mix (pressL ks hh bs) (stN ks (W bs) hh 64) q).map vu32)], .row ra2 64 rc2 170 1 ((W bs).map vu32), .blk b_7 .nw 172 [(8, (List.replicate 8 (0 : UInt32)).map vu32)], .blk b_4 .nw 163 [(64, bs.map vu8)], .blk b_1 .nw 172 [(8, hh.map vu32)], .view ak (ks.map vu32)] ∧ (q ≤ 8) ∧ m = 8 - q) ⟨0, _, ⟨rfl, trivial⟩, (by rw [mix_0]; exact h_120), (by omega), rfl⟩ ?_
    rintro q m_161 J_162 w_159 ⟨h_160, hq, rfl⟩
    refine WP.seq (WP.seq (WP.reg ?_))
    refine qM (vn q) rfl rfl (qV rfl (R.bin rfl rfl (bi_lss (r := decide ((((q : Nat) : Int) : Int) < 8)) rfl)) ?_)
    refine WL.nil (thn_n ?_)
    refine WP.cond (b := decide ((((q : Nat) : Int) : Int) < 8)) rfl (fun c_163 => ?_) (fun c_163 => ?_)
    ·have p_164 := of_decide_eq_true c_163
     refine WP.skip (thn_n (WP.seq (WP.block ?_)))
     refine WP.drawZ 9 (SL w.heap.size [.blk b_113 .nw 172 [(8, (mix (pressL ks hh bs) (stN ks (W bs) hh 64) q).map vu32)], .row ra2 64 rc2 170 1 ((W bs).map vu32), .blk b_7 .nw 172 [(8, (List.replicate 8 (0 : UInt32)).map vu32)], .blk b_4 .nw 163 [(64, bs.map vu8)], .blk b_1 .nw 172 [(8, hh.map vu32)], .view ak (ks.map vu32)]) (.q 0 (.q 1 (.q 2 (.q 3 (.q 4 (.q 5 (.q 6 (.q 7 (.q 8 (.s 9 .nil)))))))))) (by kernel_rfl) (by kernel_rfl) rfl (by kernel_rfl) (fun w_165 hc_167 => (SL.cons ((h_160.same hc_167).ok _ M0) (SL.cons ((h_160.same hc_167).ok _ M1) (SL.cons ((h_160.same hc_167).ok _ M2) (SL.cons ((h_160.same hc_167).ok _ M3) (SL.cons ((h_160.same hc_167).ok _ M4) (SL.cons ((h_160.same hc_167).ok _ M5) (SL.nil _ _)))))))) (fun w_165 hc_167 => ?_)
     have h_166 := h_160.same hc_167
     refine ZT.q rfl (Wn.no rfl) rfl rfl (fun wq hS => R.move (v := (vn q)) rfl) ?_
     refine ZT.q rfl (Wn.no rfl) rfl rfl (fun wq hS => R.move (v := (vn q)) rfl) ?_
     refine ZT.q rfl (Wn.no rfl) rfl rfl (fun wq hS => R.indexA (b := b_113) (off := 0) (off' := (0 + q)) (i := q) rfl rfl rfl (by omega) Try.underlying172 Try.sizeOf170 (by rw [Nat.mul_one])) ?_
     refine ZT.q rfl (Wn.no rfl) rfl rfl (fun wq hS => R.loadE (b := b_113) (off := (0 + q)) (i := q) (v := (vu32 ((mix (pressL ks hh bs) (stN ks (W bs) hh 64) q).getD q 0))) rfl Try.isAgg170 (hS _ M0) Sg.h rfl (get_u32 (lt_len (K := 8) (mix_len (pressL_len ..) (stN_len hhl 64)) (by omega)))) ?_
     refine ZT.q rfl (Wn.no rfl) rfl rfl (fun wq hS => R.move (v := (vn q)) rfl) ?_
     refine ZT.q rfl (Wn.no rfl) rfl rfl (fun wq hS => R.indexA (b := b_1) (off := 0) (off' := (0 + q)) (i := q) rfl rfl rfl (by omega) Try.underlying172 Try.sizeOf170 (by rw [Nat.mul_one])) ?_
     refine ZT.q rfl (Wn.no rfl) rfl rfl (fun wq hS => R.loadE (b := b_1) (off := (0 + q)) (i := q) (v := (vu32 (hh.getD q 0))) rfl Try.isAgg170 (hS _ M4) Sg.h rfl (get_u32 (lt_len (K := 8) hhl (by omega)))) ?_
     refine ZT.q rfl (Wn.no rfl) rfl rfl (fun wq hS => R.bin rfl rfl (b32_add ((mix (pressL ks hh bs) (stN ks (W bs) hh 64) q).getD q 0) (hh.getD q 0))) ?_
     refine ZT.q rfl (Wn.no rfl) rfl rfl (fun wq hS => R.indexA (b := b_113) (off := 0) (off' := (0 + q)) (i := q) rfl rfl rfl (by omega) Try.underlying172 Try.sizeOf170 (by rw [Nat.mul_one])) ?_
     refine ZT.s ?_
     refine OpZ.last rfl (Wn.no rfl) ?_
     refine WL.storeE (b := b_113) (off := (0 + q)) (i := q) (v := (vu32 (((mix (pressL ks hh bs) (stN ks (W bs) hh 64) q).getD q 0) + (hh.getD q 0)))) (cs' := ((mix (pressL ks hh bs) (stN ks (W bs) hh 64) q).set q (((mix (pressL ks hh bs) (stN ks (W bs) hh 64) q).getD q 0) + (hh.getD q 0))).map vu32) h_166 rfl rfl Try.sizeOf170 rfl At.h (by decide) Sg.h rfl (lt_len (K := 8) (len_map (mix_len (pressL_len ..) (stN_len hhl 64))) (by omega)) (set_u32 _ _ _) (fun w_168 h_169 => ?_)
     refine WL.nil (ZT.nil (inb_n (thn_n (WP.reg ?_))))
     refine qM (vn q) rfl rfl (qV rfl (R.bin rfl rfl (bi_add (c := ((q + 1 : Nat) : Int)) (by omega) (by omega))) (qA (vn (q + 1)) rfl rfl ?_))
     refine WL.nil (thn_n ?_)
     have h_175 := (((((h_169.up J5).up J5).up J5).up J5).up J5).up J5
     rw [pr_stepR hhl (by omega)] at h_175
     exact ⟨q + 1, _, (by omega), (U2 rfl rfl (U4 rfl rfl rfl rfl (U4 rfl rfl rfl rfl (U4 rfl rfl rfl rfl (Ag.updL rfl (Ag.mix _ _ _)))))), ⟨rfl, trivial⟩, h_175, (by omega), rfl⟩
    ·have p_176 := of_decide_eq_false c_163
     refine WP.exit (thn_x (thn_x (inb_hit (thn_n (WP.seq (WP.reg ?_))))))
     refine qV rfl (R.loadA (b := b_113) (off := 0) [] [(8, (mix (pressL ks hh bs) (stN ks (W bs) hh 64) q).map vu32)] [] (cs := (mix (pressL ks hh bs) (stN ks (W bs) hh 64) q).map vu32) rfl Try.isAgg172 Try.sizeOf172 (h_160.ok _ M0) rfl rfl rfl rfl) ?_
     refine WL.storeA (b := b_7) (off := 0) [] [(8, (List.replicate 8 (0 : UInt32)).map vu32)] [(8, (mix (pressL ks hh bs) (stN ks (W bs) hh 64) q).map vu32)] [] (ys := (mix (pressL ks hh bs) (stN ks (W bs) hh 64) q).map vu32) h_160 rfl rfl Try.sizeOf172 Y2 (by decide) rfl rfl rfl rfl rfl rfl (SsOk.cons (SOk.u32 (mix_len (pressL_len ..) (stN_len hhl 64))) SsOk.nil) (fun w_177 h_178 => ?_)
     refine WL.nil (thn_n (WP.ret ?_))
     refine ret_of Try.results128 (RV.cell rfl (h_178.loadA (cs := (mix (pressL ks hh bs) (stN ks (W bs) hh 64) q).map vu32) Try.isAgg172 Try.sizeOf172 M2 rfl rfl) RV.nil) ?_
     have hq8 : q = 8 := by omega
     subst hq8
     exact ⟨by rw [pr_all (stN_len hhl 64)]; rfl, h_178.chgS⟩
end Go.Proofs.Ytnhppjimimhlkaa

namespace Go.Proofs.Ytnhppjimimhlkaa
open Go.Vc Go.Sh Go.RowKit
set_option maxRecDepth 20000

theorem c_SumR (a : Option Addr) (n cap : Nat) (bs : List UInt8) (hl : bs.length = n) (hn : n ≤ 1000000000000) (w : World) (hv : View w a (bs.map vu8)) :
  Cs Try.prog 115 [(.slice a n cap)].toArray w (fun v w1 => v = (.agg ⟨(sumL bs).map vu8⟩) ∧ Chg w w1 []) := by
 refine Cs.of (n := 57) (args := [(.slice a n cap)]) Try.func115 rfl rfl rfl ?_
 have h_0 := HP.init w
 have h_00 := h_0.old (View.arg hv) (fun f hf => by cases hf)
 refine WP.seq (WP.reg ?_)
 refine WL.alloc (segs := [(32, (List.replicate 32 (0 : UInt8)).map vu8)]) h_00 (zv Try.typeInfo23 rfl) rfl (SsOk.cons (SOk.u8 lr) SsOk.nil) rfl (fun b_1 w_2 h_3 => ?_)
 refine WL.nil (thn_n (WP.seq (WP.reg ?_)))
 refine WL.alloc (segs := [(8, (List.replicate 8 (0 : UInt32)).map vu32)]) h_3 (zv Try.typeInfo172 rfl) rfl (SsOk.cons (SOk.u32 lr) SsOk.nil) rfl (fun b_4 w_5 h_6 => ?_)
 refine WL.nil (thn_n (WP.seq (WP.seq (WP.reg ?_))))
 refine qA (vi 0) rfl rfl ?_
 refine WL.nil (thn_n (WP.block ?_))
 refine WP.loopG (G := Nat) [4, 11, 12, 13, 14, 15, 16, 17, 18] (fun i => [(4, (vn i))]) (fun i m w1 => HP w w1 [.blk b_4 .nw 172 [(8, (mix hL (List.replicate 8 0) i).map vu32)], .blk b_1 .nw 23 [(32, (List.replicate 32 (0 : UInt8)).map vu8)], .view a (bs.map vu8)] ∧ (i ≤ 8) ∧ m = 8 - i) ⟨0, _, ⟨rfl, trivial⟩, (by rw [mix_0]; exact h_6), (by omega), rfl⟩ ?_
 rintro i m_9 J_10 w_7 ⟨h_8, hi, rfl⟩
 refine WP.seq (WP.seq (WP.reg ?_))
 refine qM (vn i) rfl rfl (qV rfl (R.bin rfl rfl (bi_lss (r := decide ((((i : Nat) : Int) : Int) < 8)) rfl)) ?_)
 refine WL.nil (thn_n ?_)
 refine WP.cond (b := decide ((((i : Nat) : Int) : Int) < 8)) rfl (fun c_11 => ?_) (fun c_11 => ?_)
 ·have p_12 := of_decide_eq_true c_11
  refine WP.skip (thn_n (WP.seq (WP.block (WP.reg ?_))))
  refine qM (vn i) rfl rfl (qM (vn i) rfl rfl ?_)
  refine WL.call Try.call125 rfl rfl (c_StartR ((i : Nat) : Int) _ ) rfl ?_
  rintro _ w_14 ⟨rfl, hc_13⟩
  have h_15 := h_8.same hc_13
  refine qV rfl (R.indexA (b := b_4) (off := 0) (off' := (0 + i)) (i := i) rfl rfl rfl (by omega) Try.underlying172 Try.sizeOf170 (by rw [Nat.mul_one])) ?_
  refine WL.storeE (b := b_4) (off := (0 + i)) (i := i) (v := (vu32 (hAt ((i : Nat) : Int)))) (cs' := ((mix hL (List.replicate 8 0) i).set i (hAt ((i : Nat) : Int))).map vu32) h_15 rfl rfl Try.sizeOf170 rfl At.h (by decide) Sg.h rfl (lt_len (K := 8) (len_map (mix_len hL_len lr)) (by omega)) (set_u32 _ _ _) (fun w_16 h_17 => ?_)
  refine WL.nil (inb_n (thn_n (WP.reg ?_)))
  refine qM (vn i) rfl rfl (qV rfl (R.bin rfl rfl (bi_add (c := ((i + 1 : Nat) : Int)) (by omega) (by omega))) (qA (vn (i + 1)) rfl rfl ?_))
  refine WL.nil (thn_n ?_)
  have h_20 := ((h_17.up J2).up J2).up J2
  rw [h_set (by omega)] at h_20
  exact ⟨i + 1, _, (by omega), (Ag.upd rfl (U4 rfl rfl rfl rfl (U4 rfl rfl rfl rfl (Ag.updL rfl (Ag.mix _ _ _))))), ⟨rfl, trivial⟩, h_20, (by omega), rfl⟩
 ·have p_21 := of_decide_eq_false c_11
  refine WP.exit (thn_x (thn_x (inb_hit (thn_n (WP.seq (WP.reg ?_))))))
  refine WL.call Try.call126 rfl rfl (c_ConstantsR _) rfl ?_
  rintro _ w_24 ⟨a_22, cap_23, rfl, hc_25, ho_26⟩
  have h_27 := h_8.gotRow hc_25 ho_26
  refine qA (.slice a_22 64 cap_23) rfl rfl ?_
  refine WL.nil (thn_n (WP.seq (WP.reg ?_)))
  refine qM (.slice a n cap) rfl rfl ?_
  refine WL.call Try.call127 rfl rfl (c_PadR a n cap bs hl (by omega) _ (viewV (h_27.ok _ M3))) rfl ?_
  rintro _ w_30 ⟨a_28, cap_29, rfl, hc_31, ho_32⟩
  have h_33 := h_27.gotRow hc_31 ho_32
  have hq_34 := ho_32.2.2.1
  refine qA (.slice a_28 ((padded bs).length) cap_29) rfl rfl ?_
  refine WL.nil (thn_n (WP.seq (WP.seq (WP.reg ?_))))
  refine qA (vi 0) rfl rfl ?_
  refine WL.nil (thn_n (WP.block ?_))
  have hi8 : i = 8 := by omega
  subst hi8
  have eh : mix hL (List.replicate 8 0) 8 = hL := mix_all hL_len lr (Nat.le_refl _)
  rw [eh] at h_33
  have hpl := padded_len bs
  have hp2 := padded_len2 bs
  rw [hl] at hp2
  refine WP.loopG (G := Nat) [7, 8, 22, 23, 24, 25, 26, 27, 28, 29, 30, 31, 32, 33, 34, 35, 36, 37, 38] (fun k => [(7, (vn (64 * k)))]) (fun k m w1 => HP w w1 [.row a_28 ((padded bs).length) cap_29 5 1 ((padded bs).map vu8), .row a_22 64 cap_23 170 1 (kL.map vu32), .blk b_4 .nw 172 [(8, (hs kL hL (padded bs) k).map vu32)], .blk b_1 .nw 23 [(32, (List.replicate 32 (0 : UInt8)).map vu8)], .view a (bs.map vu8)] ∧ (64 * k ≤ (padded bs).length) ∧ m = (padded bs).length - 64 * k) ⟨0, _, ⟨rfl, trivial⟩, h_33, (by omega), rfl⟩ ?_
  rintro k m_37 J_38 w_35 ⟨h_36, hk, rfl⟩
  refine WP.seq (WP.seq (WP.reg ?_))
  refine qM (vn (64 * k)) rfl rfl (qM (.slice a_28 ((padded bs).length) cap_29) rfl rfl (qV rfl (R.lenS (a := a_28) (m := (padded bs).length) rfl rfl Try.underlying37) (qV rfl (R.bin rfl rfl (bi_lss (r := decide ((((64 * k : Nat) : Int) : Int) < (((padded bs).length : Nat) : Int))) rfl)) ?_)))
  refine WL.nil (thn_n ?_)
  refine WP.cond (b := decide ((((64 * k : Nat) : Int) : Int) < (((padded bs).length : Nat) : Int))) rfl (fun c_39 => ?_) (fun c_39 => ?_)
  ·have p_40 := of_decide_eq_true c_39
   refine WP.skip (thn_n (WP.seq (WP.block (WP.seq (WP.reg ?_)))))
   refine WL.alloc (segs := [(64, (List.replicate 64 (0 : UInt8)).map vu8)]) h_36 (zv Try.typeInfo163 rfl) rfl (SsOk.cons (SOk.u8 lr) SsOk.nil) rfl (fun b_41 w_42 h_43 => ?_)
   refine WL.nil (thn_n (WP.seq ?_))
   refine WP.drawT (SL w.heap.size [.row a_28 ((padded bs).length) cap_29 5 1 ((padded bs).map vu8), .row a_22 64 cap_23 170 1 (kL.map vu32), .blk b_4 .nw 172 [(8, (hs kL hL (padded bs) k).map vu32)], .blk b_1 .nw 23 [(32, (List.replicate 32 (0 : UInt8)).map vu8)], .view a (bs.map vu8)]) (.q 0 (.q 1 (.q 2 (.q 3 (.q 4 (.q 5 (.s 6 .nil))))))) (by kernel_rfl) (by kernel_rfl) rfl (by kernel_rfl) (fun w_44 hc_46 => (SL.cons ((h_43.same hc_46).ok _ M1) (SL.cons ((h_43.same hc_46).ok _ M2) (SL.cons ((h_43.same hc_46).ok _ M3) (SL.cons ((h_43.same hc_46).ok _ M4) (SL.cons ((h_43.same hc_46).ok _ M5) (SL.nil _ _))))))) (fun w_44 hc_46 => ?_)
   have h_45 := h_43.same hc_46
   refine qT rfl rfl (fun wq hS => R.sliceA (b := b_41) (off := 0) (off' := 0) (l := 0) (h := 64) rfl EvB.dflt EvB.dflt (by decide) (by decide) Try.underlying163 Try.sizeOf5 rfl) ?_
   refine qT rfl rfl (fun wq hS => R.move (v := (.slice a_28 ((padded bs).length) cap_29)) rfl) ?_
   refine qT rfl rfl (fun wq hS => R.move (v := (vn (64 * k))) rfl) ?_
   refine qT rfl rfl (fun wq hS => R.move (v := (vn (64 * k))) rfl) ?_
   refine qT rfl rfl (fun wq hS => R.bin rfl rfl (bi_add (c := ((64 * k + 64 : Nat) : Int)) (by omega) (by omega))) ?_
   refine qT rfl rfl (fun wq hS => R.sliceS (a := a_28) (len := (padded bs).length) (l := 64 * k) (h := 64 * k + 64) rfl (EvB.it (l := 64 * k) rfl rfl) (EvB.it (l := 64 * k + 64) rfl rfl) (by omega) (by omega) Try.underlying37 Try.sizeOf5) ?_
   refine WT.s (Op1.one rfl (Wn.no rfl) ?_)
   refine WL.copy (q := 64) (i := 0) (ys := (((padded bs).drop (64 * k)).take 64).map vu8) (cs' := (((padded bs).drop (64 * k)).take 64).map vu8) h_45 rfl (congrArg (fun n => Value.slice (slA a_28 (64 * k) cap_29 1) n (cap_29 - (64 * k))) (show 64 * k + 64 - (64 * k) = 64 from (by omega))) Try.underlying37 Try.sizeOf5 (View.slM (l := 64 * k) (m := cap_29) (k := 64) (ownView (h_45.ok _ M1)) (by omega)) (len_map (subLen (K := (padded bs).length) (rfl : List.length (padded bs) = (padded bs).length) (by omega) : List.length (((padded bs).drop (64 * k)).take 64) = 64)) (one_u8 _) At.h (by decide) Sg.h rfl (by decide) (by rw [len_map lr]; decide) (cpAll (subLen (K := (padded bs).length) (rfl : List.length (padded bs) = (padded bs).length) (by omega) : List.length (((padded bs).drop (64 * k)).take 64) = 64) lr) rfl (fun w_47 h_48 => ?_)
   refine WL.nil ?_
   refine ⟨(SL.cons (h_48.ok _ M1) (SL.cons (h_48.ok _ M2) (SL.cons (h_48.ok _ M3) (SL.cons (h_48.ok _ M4) (SL.cons (h_48.ok _ M5) (SL.nil _ _)))))), ?_⟩
   refine WT.nil (thn_n (WP.reg ?_))
   refine qV rfl (R.loadA (b := b_4) (off := 0) [] [(8, (hs kL hL (padded bs) k).map vu32)] [] (cs := (hs kL hL (padded bs) k).map vu32) rfl Try.isAgg172 Try.sizeOf172 (h_48.ok _ M3) rfl rfl rfl rfl) (qV rfl (R.loadA (b := b_41) (off := 0) [] [(64, (((padded bs).drop (64 * k)).take 64).map vu8)] [] (cs := (((padded bs).drop (64 * k)).take 64).map vu8) rfl Try.isAgg163 Try.sizeOf163 (h_48.ok _ M0) rfl rfl rfl rfl) (qM (.slice a_22 64 cap_23) rfl rfl ?_))
   refine WL.call Try.call128 rfl rfl (c_PressR (hs kL hL (padded bs) k) kL (hs_len hL_len k) kL_len (((padded bs).drop (64 * k)).take 64) (subLen (K := (padded bs).length) (rfl : List.length (padded bs) = (padded bs).length) (by omega) : List.length (((padded bs).drop (64 * k)).take 64) = 64) a_22 cap_23 _ (ownView (h_48.ok _ M2))) rfl ?_
   rintro _ w_50 ⟨rfl, hc_49⟩
   have h_51 := h_48.same hc_49
   refine WL.storeA (b := b_4) (off := 0) [] [(8, (hs kL hL (padded bs) k).map vu32)] [(8, (pressL kL (hs kL hL (padded bs) k) (((padded bs).drop (64 * k)).take 64)).map vu32)] [] (ys := (pressL kL (hs kL hL (padded bs) k) (((padded bs).drop (64 * k)).take 64)).map vu32) h_51 rfl rfl Try.sizeOf172 Y3 (by decide) rfl rfl rfl rfl rfl rfl (SsOk.cons (SOk.u32 (pressL_len ..)) SsOk.nil) (fun w_52 h_53 => ?_)
   refine WL.nil (inb_n (thn_n (WP.reg ?_)))
   refine qM (vn (64 * k)) rfl rfl (qV rfl (R.bin rfl rfl (bi_add (c := ((64 * k + 64 : Nat) : Int)) (by omega) (by omega))) (qA (vn (64 * k + 64)) rfl rfl ?_))
   refine WL.nil (thn_n ?_)
   have h_59 := (((((h_53.drop rfl).up J4).up J4).up J4).up J4).up J4
   have es : pressL kL (hs kL hL (padded bs) k) (((padded bs).drop (64 * k)).take 64) = hs kL hL (padded bs) (k + 1) := rfl
   rw [es] at h_59
   exact ⟨k + 1, _, (by omega), (Ag.upd rfl (U2 rfl rfl (U4 rfl rfl rfl rfl (U4 rfl rfl rfl rfl (U4 rfl rfl rfl rfl (U4 rfl rfl rfl rfl (Ag.updL rfl (Ag.mix _ _ _)))))))), ⟨congrArg vi (by omega), trivial⟩, h_59, (by omega), rfl⟩
  ·have p_60 := of_decide_eq_false c_39
   refine WP.exit (thn_x (thn_x (inb_hit (thn_n (WP.seq (WP.reg ?_))))))
   refine WL.alloc (segs := [(32, (List.replicate 32 (0 : UInt8)).map vu8)]) h_36 (zv Try.typeInfo23 rfl) rfl (SsOk.cons (SOk.u8 lr) SsOk.nil) rfl (fun b_61 w_62 h_63 => ?_)
   refine WL.nil (thn_n (WP.seq (WP.seq (WP.reg ?_))))
   refine qA (vi 0) rfl rfl ?_
   refine WL.nil (thn_n (WP.block ?_))
   have hk2 : k = (padded bs).length / 64 := by omega
   refine WP.loopG (G := Nat) [10, 39, 40, 41, 42, 43, 44, 45, 46, 47, 48, 49, 50, 51, 52, 53, 54, 55] (fun j => [(10, (vn j))]) (fun j m w1 => HP w w1 [.blk b_61 .nw 23 [(32, (mix (digL (hs kL hL (padded bs) k)) (List.replicate 32 0) j).map vu8)], .row a_28 ((padded bs).length) cap_29 5 1 ((padded bs).map vu8), .row a_22 64 cap_23 170 1 (kL.map vu32), .blk b_4 .nw 172 [(8, (hs kL hL (padded bs) k).map vu32)], .blk b_1 .nw 23 [(32, (List.replicate 32 (0 : UInt8)).map vu8)], .view a (bs.map vu8)] ∧ (j ≤ 32) ∧ m = 32 - j) ⟨0, _, ⟨rfl, trivial⟩, (by rw [mix_0]; exact h_63), (by omega), rfl⟩ ?_
   rintro j m_66 J_67 w_64 ⟨h_65, hj, rfl⟩
   have ek : j < 32 → (UInt64.ofNat (24 - 8 * (j % 4))).toNat = 24 - 8 * (j % 4) := fun _ => nat64 (by omega)
   refine WP.seq (WP.seq (WP.reg ?_))
   refine qM (vn j) rfl rfl (qV rfl (R.bin rfl rfl (bi_lss (r := decide ((((j : Nat) : Int) : Int) < 32)) rfl)) ?_)
   refine WL.nil (thn_n ?_)
   refine WP.cond (b := decide ((((j : Nat) : Int) : Int) < 32)) rfl (fun c_68 => ?_) (fun c_68 => ?_)
   ·have p_69 := of_decide_eq_true c_68
    refine WP.skip (thn_n (WP.seq (WP.block (WP.reg ?_))))
    refine qM (vn j) rfl rfl (qM (vn j) rfl rfl (qV rfl (R.bin rfl rfl (bi_quo (c := ((j / 4 : Nat) : Int)) (by first | omega | exact ⟨Int.natCast_nonneg _, by omega⟩) (by omega) (by first | omega | rfl))) (qV rfl (R.indexA (b := b_4) (off := 0) (off' := (0 + (j / 4))) (i := j / 4) rfl rfl rfl (by omega) Try.underlying172 Try.sizeOf170 (by rw [Nat.mul_one])) (qV rfl (R.loadE (b := b_4) (off := (0 + (j / 4))) (i := j / 4) (v := (vu32 ((hs kL hL (padded bs) k).getD (j / 4) 0))) rfl Try.isAgg170 (h_65.ok _ M3) Sg.h rfl (get_u32 (lt_len (K := 8) (hs_len hL_len k) (by omega)))) (qM (vn j) rfl rfl (qV rfl (R.bin rfl rfl (bi_rem (c := ((j % 4 : Nat) : Int)) (Int.natCast_nonneg _) (by omega) (by first | omega | rfl))) (qV rfl (R.bin rfl rfl (bi_mul (c := ((8 * (j % 4) : Nat) : Int)) (by omega) (by omega))) (qV rfl (R.bin rfl rfl (bi_sub (c := ((24 - (8 * (j % 4)) : Nat) : Int)) (by omega) (by omega))) (qV rfl (R.conv (b := ((UInt64.ofNat (24 - (8 * (j % 4)))) : UInt64).toNat) rfl Try.underlying3 Try.underlying168 (w64_nat (24 - (8 * (j % 4))))) (qV rfl (R.binR (v := vu32 (shr32 ((hs kL hL (padded bs) k).getD (j / 4) 0) ((UInt64.ofNat (24 - (8 * (j % 4)))).toNat))) rfl rfl (run_shr32 _ _ _ ((hs kL hL (padded bs) k).getD (j / 4) 0) _ ((UInt64.ofNat (24 - (8 * (j % 4)))).toNat))) (qV rfl (R.conv (b := ((UInt8.ofNat ((shr32 ((hs kL hL (padded bs) k).getD (j / 4) 0) ((UInt64.ofNat (24 - (8 * (j % 4)))).toNat)).toNat)) : UInt8).toNat) rfl Try.underlying170 Try.underlying5 (w8_nat ((shr32 ((hs kL hL (padded bs) k).getD (j / 4) 0) ((UInt64.ofNat (24 - (8 * (j % 4)))).toNat)).toNat))) ?_)))))))))))
    refine qV rfl (R.indexA (b := b_61) (off := 0) (off' := (0 + j)) (i := j) rfl rfl rfl (by omega) Try.underlying23 Try.sizeOf5 (by rw [Nat.mul_one])) ?_
    refine WL.storeE (b := b_61) (off := (0 + j)) (i := j) (v := (vu8 (UInt8.ofNat ((shr32 ((hs kL hL (padded bs) k).getD (j / 4) 0) ((UInt64.ofNat (24 - (8 * (j % 4)))).toNat)).toNat)))) (cs' := ((mix (digL (hs kL hL (padded bs) k)) (List.replicate 32 0) j).set j (UInt8.ofNat ((shr32 ((hs kL hL (padded bs) k).getD (j / 4) 0) ((UInt64.ofNat (24 - (8 * (j % 4)))).toNat)).toNat))).map vu8) h_65 rfl rfl Try.sizeOf5 rfl At.h (by decide) Sg.h rfl (lt_len (K := 32) (len_map (mix_len (digL_len _) lr)) (by omega)) (set_u8 _ _ _) (fun w_70 h_71 => ?_)
    refine WL.nil (inb_n (thn_n (WP.reg ?_)))
    refine qM (vn j) rfl rfl (qV rfl (R.bin rfl rfl (bi_add (c := ((j + 1 : Nat) : Int)) (by omega) (by omega))) (qA (vn (j + 1)) rfl rfl ?_))
    refine WL.nil (thn_n ?_)
    have h_77 := (((((h_71.up J5).up J5).up J5).up J5).up J5).up J5
    rw [ek (by omega), dig_set (by omega)] at h_77
    exact ⟨j + 1, _, (by omega), (U2 rfl rfl (U4 rfl rfl rfl rfl (U4 rfl rfl rfl rfl (U4 rfl rfl rfl rfl (U4 rfl rfl rfl rfl (Ag.updL rfl (Ag.mix _ _ _))))))), ⟨rfl, trivial⟩, h_77, (by omega), rfl⟩
   ·have p_78 := of_decide_eq_false c_68
    refine WP.exit (thn_x (thn_x (inb_hit (thn_n (WP.seq (WP.reg ?_))))))
    refine qV rfl (R.loadA (b := b_61) (off := 0) [] [(32, (mix (digL (hs kL hL (padded bs) k)) (List.replicate 32 0) j).map vu8)] [] (cs := (mix (digL (hs kL hL (padded bs) k)) (List.replicate 32 0) j).map vu8) rfl Try.isAgg23 Try.sizeOf23 (h_65.ok _ M0) rfl rfl rfl rfl) ?_
    refine WL.storeA (b := b_1) (off := 0) [] [(32, (List.replicate 32 (0 : UInt8)).map vu8)] [(32, (mix (digL (hs kL hL (padded bs) k)) (List.replicate 32 0) j).map vu8)] [] (ys := (mix (digL (hs kL hL (padded bs) k)) (List.replicate 32 0) j).map vu8) h_65 rfl rfl Try.sizeOf23 Y4 (by decide) rfl rfl rfl rfl rfl rfl (SsOk.cons (SOk.u8 (mix_len (digL_len _) lr)) SsOk.nil) (fun w_79 h_80 => ?_)
    refine WL.nil (thn_n (WP.ret ?_))
    refine ret_of Try.results115 (RV.cell rfl (h_80.loadA (cs := (mix (digL (hs kL hL (padded bs) k)) (List.replicate 32 0) j).map vu8) Try.isAgg23 Try.sizeOf23 M4 rfl rfl) RV.nil) ?_
    have hj32 : j = 32 := by omega
    subst hj32
    exact ⟨by rw [dig_all, hk2]; rfl, h_80.chgS⟩
end Go.Proofs.Ytnhppjimimhlkaa

namespace Go.Proofs.Ytnhppjimimhlkaa
open Go.Vc Go.Sh Go.RowKit
set_option maxRecDepth 20000

theorem c_TagR_s (a : Option Addr) (n cap : Nat) (key : List UInt8) (hl : key.length = n) (hcap : n ≤ cap) (hn : n ≤ 100000000000) (a2 : Option Addr) (n2 cap2 : Nat) (bs2 : List UInt8) (hl2 : bs2.length = n2) (hcap2 : n2 ≤ cap2) (hn2 : n2 ≤ 100000000000) (h : ¬ 64 < n) (w : World) (hv : View w a (key.map vu8)) (hv2 : View w a2 (bs2.map vu8)) :
  Cs Try.prog 117 [(.slice a n cap), (.slice a2 n2 cap2)].toArray w (fun v w1 => v = (.agg ⟨(tagL key bs2).map vu8⟩) ∧ Chg w w1 []) := by
 refine Cs.of (n := 54) (args := [(.slice a n cap), (.slice a2 n2 cap2)]) Try.func117 rfl rfl rfl ?_
 have h_0 := HP.init w
 have h_01 := h_0.oldV (View.arg hv) rfl (by simp [Ent.mut])
 have h_00 := h_01.oldV (View.arg hv2) rfl (by simp [Ent.mut])
 refine WP.seq (WP.reg ?_)
 refine WL.alloc (segs := [(32, (List.replicate 32 (0 : UInt8)).map vu8)]) h_00 (zv Try.typeInfo23 rfl) rfl (SsOk.cons (SOk.u8 lr) SsOk.nil) rfl (fun b_1 w_2 h_3 => ?_)
 refine WL.nil (thn_n (WP.seq (WP.reg ?_)))
 refine qM (.slice a n cap) rfl rfl ?_
 have h_4 := h_3.rowNil 5 1
 refine WL.append (km := n) (xs := []) (ys := key.map vu8) (zs := key.map vu8) h_4 rfl rfl el37 (viewV (h_4.ok _ M3)) ((len_map hl).trans (Nat.mul_one _).symm) (one_u8 _) rfl (by omega) (by omega) (by omega) (fun _ _ => At.h) rfl (fun a_5 c_6 w_7 h_8 => ?_)
 refine qA (.slice a_5 n c_6) rfl rfl ?_
 refine WL.nil (thn_n (WP.seq (WP.seq (WP.reg ?_))))
 refine qM (.slice a_5 n c_6) rfl rfl (qV rfl (R.lenS (a := a_5) (m := n) rfl rfl Try.underlying37) (qV rfl (R.bin rfl rfl (bi_gtr (r := decide ((((n : Nat) : Int) : Int) > 64)) rfl)) ?_))
 refine WL.nil (thn_n ?_)
 refine WP.condF (congrArg Value.bool (decide_eq_false (by omega))) ?_
 refine WP.skip (thn_n (WP.seq (WP.block ?_)))
 have h_12 := (((h_8.up J3).up J3).up J3).up J3
 refine WP.loopG (G := Nat × Option Addr × Nat) [5, 20, 21, 22, 23, 24, 25] (fun (z, ra, rc) => [(5, (.slice ra (n + z) rc))]) (fun (z, ra, rc) m w1 => HP w w1 [.row ra (n + z) rc 5 1 ((key ++ List.replicate z (0 : UInt8)).map vu8), .blk b_1 .nw 23 [(32, (List.replicate 32 (0 : UInt8)).map vu8)], .view a2 (bs2.map vu8), .view a (key.map vu8)] ∧ (n + z ≤ 64) ∧ m = 64 - z) ⟨(0, a_5, c_6), _, ⟨rfl, trivial⟩, (by rw [List.replicate_zero, List.append_nil]; exact h_12), (by omega), rfl⟩ ?_
 rintro ⟨z, ra, rc⟩ m_15 J_16 w_13 ⟨h_14, hz, rfl⟩
 refine WP.seq (WP.seq (WP.reg ?_))
 refine qM (.slice ra (n + z) rc) rfl rfl (qV rfl (R.lenS (a := ra) (m := n + z) rfl rfl Try.underlying37) (qV rfl (R.bin rfl rfl (bi_lss (r := decide ((((n + z : Nat) : Int) : Int) < 64)) rfl)) ?_))
 refine WL.nil (thn_n ?_)
 refine WP.cond (b := decide ((((n + z : Nat) : Int) : Int) < 64)) rfl (fun c_17 => ?_) (fun c_17 => ?_)
 ·have p_18 := of_decide_eq_true c_17
  refine WP.skip (thn_n (WP.block (WP.reg ?_)))
  refine qM (.slice ra (n + z) rc) rfl rfl ?_
  refine WL.buildSl (vs := [(0, (vu8 0))]) (cs := ([0] : List UInt8).map vu8) h_14 Try.underlying37 Try.sizeOf5 (zv Try.typeInfo5 rfl) rfl rfl (by kernel_rfl) rfl (one_u8 _) rfl rfl (fun b_19 w_20 h_21 => ?_)
  refine WL.append (km := n + z + 1) (xs := (key ++ List.replicate z (0 : UInt8)).map vu8) (ys := ([0] : List UInt8).map vu8) (zs := ((key ++ List.replicate z (0 : UInt8)) ++ ([0] : List UInt8)).map vu8) h_21 rfl rfl el37 (viewB (h_21.ok _ M0) Sg.h) ((len_map (rfl : List.length ([0] : List UInt8) = 1)).trans (Nat.mul_one _).symm) (one_u8 _) (by simp only [List.map_append, List.map_nil]) (by omega) (by omega) (by omega) (fun _ _ => Y1) rfl (fun a_22 c_23 w_24 h_25 => ?_)
  refine qA (.slice a_22 (n + z + 1) c_23) rfl rfl ?_
  refine WL.nil (inb_n (thn_n ?_))
  have h_30 := ((((h_25.drop rfl).up J3).up J3).up J3).up J3
  rw [List.append_assoc, zero_snoc] at h_30
  exact ⟨(z + 1, a_22, c_23), _, (by omega), (Ag.upd rfl (U2 rfl rfl (U4 rfl rfl rfl rfl (Ag.updL rfl (Ag.mix _ _ _))))), ⟨rfl, trivial⟩, h_30, (by omega), rfl⟩
 ·have p_31 := of_decide_eq_false c_17
  refine WP.exit (thn_x (thn_x (inb_hit (thn_n (WP.seq (WP.reg ?_))))))
  refine qA (.slice none 0 0) rfl rfl (qA (.slice none 0 0) rfl rfl ?_)
  refine WL.nil (thn_n (WP.seq (WP.seq (WP.reg ?_))))
  refine qA (vi 0) rfl rfl ?_
  refine WL.nil (thn_n (WP.block ?_))
  have hz64 : n + z = 64 := by omega
  have hpk : (padK key).length = 64 := padK_len hl (by omega)
  rw [pad_z hl hz64, hz64] at h_14
  have h_33 := h_14.rowNil 5 1
  have h_34 := h_33.rowNil 5 1
  refine WP.loopG (G := Nat × Option Addr × Nat × Option Addr × Nat) [7, 8, 9, 26, 27, 28, 29, 30, 31, 32, 33, 34, 35, 36, 37, 38, 39, 40, 41, 42, 43, 44, 45] (fun (j, ia, ic, oa, oc) => [(7, (.slice ia j ic)), (8, (.slice oa j oc)), (9, (vn j))]) (fun (j, ia, ic, oa, oc) m w1 => HP w w1 [.row ia j ic 5 1 (((xm 54 (padK key)).take j).map vu8), .row oa j oc 5 1 (((xm 92 (padK key)).take j).map vu8), .row ra 64 rc 5 1 ((padK key).map vu8), .blk b_1 .nw 23 [(32, (List.replicate 32 (0 : UInt8)).map vu8)], .view a2 (bs2.map vu8), .view a (key.map vu8)] ∧ (j ≤ 64) ∧ m = 64 - j) ⟨(0, none, 0, none, 0), _, ⟨rfl, rfl, rfl, trivial⟩, h_34, Nat.zero_le _, rfl⟩ ?_
  rintro ⟨j, ia, ic, oa, oc⟩ m_37 J_38 w_35 ⟨h_36, hj, rfl⟩
  refine WP.seq (WP.seq (WP.reg ?_))
  refine qM (vn j) rfl rfl (qV rfl (R.bin rfl rfl (bi_lss (r := decide ((((j : Nat) : Int) : Int) < 64)) rfl)) ?_)
  refine WL.nil (thn_n ?_)
  refine WP.cond (b := decide ((((j : Nat) : Int) : Int) < 64)) rfl (fun c_39 => ?_) (fun c_39 => ?_)
  ·have p_40 := of_decide_eq_true c_39
   refine WP.skip (thn_n (WP.seq (WP.block (WP.seq (WP.reg ?_)))))
   refine qM (.slice ia j ic) rfl rfl (qV rfl (R.move (v := (.slice ra 64 rc)) (congrArg (fun n => Value.slice ra n rc) hz64)) (qM (vn j) rfl rfl (qV rfl (R.indexS (a := ra) (i := j) (off := j) (xs := (padK key).map vu8) rfl rfl rfl (by omega) (ownView (h_36.ok _ M2)) (lt_len (K := 64) (len_map hpk) (by omega)) Try.underlying37 Try.sizeOf5 (Nat.mul_one _).symm) (qV rfl (R.loadG (a := ra) (i := j) (xs := (padK key).map vu8) (v := (vu8 ((padK key).getD j 0))) rfl (ownView (h_36.ok _ M2)) Try.isAgg5 (get_u8 (lt_len (K := 64) hpk (by omega)))) (qV rfl (R.bin rfl rfl (b8_xor ((padK key).getD j 0) 54)) ?_)))))
   refine WL.buildSl (vs := [(0, (vu8 (((padK key).getD j 0) ^^^ 54)))]) (cs := ([((padK key).getD j 0) ^^^ 54] : List UInt8).map vu8) h_36 Try.underlying37 Try.sizeOf5 (zv Try.typeInfo5 rfl) rfl rfl (by kernel_rfl) rfl (one_u8 _) rfl rfl (fun b_41 w_42 h_43 => ?_)
   refine WL.append (km := j + 1) (xs := ((xm 54 (padK key)).take j).map vu8) (ys := ([((padK key).getD j 0) ^^^ 54] : List UInt8).map vu8) (zs := (((xm 54 (padK key)).take j) ++ ([((padK key).getD j 0) ^^^ 54] : List UInt8)).map vu8) h_43 rfl rfl el37 (viewB (h_43.ok _ M0) Sg.h) ((len_map (rfl : List.length ([((padK key).getD j 0) ^^^ 54] : List UInt8) = 1)).trans (Nat.mul_one _).symm) (one_u8 _) (by simp only [List.map_append, List.map_nil]) (by omega) (by omega) (by omega) (fun _ _ => Y1) rfl (fun a_44 c_45 w_46 h_47 => ?_)
   refine qA (.slice a_44 (j + 1) c_45) rfl rfl ?_
   refine WL.nil (thn_n (WP.reg ?_))
   refine qM (.slice oa j oc) rfl rfl (qV rfl (R.move (v := (.slice ra 64 rc)) (congrArg (fun n => Value.slice ra n rc) hz64)) (qM (vn j) rfl rfl (qV rfl (R.indexS (a := ra) (i := j) (off := j) (xs := (padK key).map vu8) rfl rfl rfl (by omega) (ownView (h_47.ok _ M3)) (lt_len (K := 64) (len_map hpk) (by omega)) Try.underlying37 Try.sizeOf5 (Nat.mul_one _).symm) (qV rfl (R.loadG (a := ra) (i := j) (xs := (padK key).map vu8) (v := (vu8 ((padK key).getD j 0))) rfl (ownView (h_47.ok _ M3)) Try.isAgg5 (get_u8 (lt_len (K := 64) hpk (by omega)))) (qV rfl (R.bin rfl rfl (b8_xor ((padK key).getD j 0) 92)) ?_)))))
   refine WL.buildSl (vs := [(0, (vu8 (((padK key).getD j 0) ^^^ 92)))]) (cs := ([((padK key).getD j 0) ^^^ 92] : List UInt8).map vu8) h_47 Try.underlying37 Try.sizeOf5 (zv Try.typeInfo5 rfl) rfl rfl (by kernel_rfl) rfl (one_u8 _) rfl rfl (fun b_48 w_49 h_50 => ?_)
   refine WL.append (km := j + 1) (xs := ((xm 92 (padK key)).take j).map vu8) (ys := ([((padK key).getD j 0) ^^^ 92] : List UInt8).map vu8) (zs := (((xm 92 (padK key)).take j) ++ ([((padK key).getD j 0) ^^^ 92] : List UInt8)).map vu8) h_50 rfl rfl el37 (viewB (h_50.ok _ M0) Sg.h) ((len_map (rfl : List.length ([((padK key).getD j 0) ^^^ 92] : List UInt8) = 1)).trans (Nat.mul_one _).symm) (one_u8 _) (by simp only [List.map_append, List.map_nil]) (by omega) (by omega) (by omega) (fun _ _ => Y3) rfl (fun a_51 c_52 w_53 h_54 => ?_)
   refine qA (.slice a_51 (j + 1) c_52) rfl rfl ?_
   refine WL.nil (inb_n (thn_n (WP.reg ?_)))
   refine qM (vn j) rfl rfl (qV rfl (R.bin rfl rfl (bi_add (c := ((j + 1 : Nat) : Int)) (by omega) (by omega))) (qA (vn (j + 1)) rfl rfl ?_))
   refine WL.nil (thn_n ?_)
   have h_62 := (((((((h_54.drop rfl).drop rfl).up J5).up J5).up J5).up J5).up J5).up J5
   rw [xm_snoc (by omega), xm_snoc (by omega)] at h_62
   exact ⟨(j + 1, a_44, c_45, a_51, c_52), _, (by omega), (Ag.upd rfl (U2 rfl rfl (U4 rfl rfl rfl rfl (U4 rfl rfl rfl rfl (U4 rfl rfl rfl rfl (U4 rfl rfl rfl rfl (U4 rfl rfl rfl rfl (Ag.updL rfl (Ag.mix _ _ _))))))))), ⟨rfl, rfl, rfl, trivial⟩, h_62, (by omega), rfl⟩
  ·have p_63 := of_decide_eq_false c_39
   refine WP.exit (thn_x (thn_x (inb_hit (thn_n (WP.seq (WP.reg ?_))))))
   refine qM (.slice ia j ic) rfl rfl (qM (.slice a2 n2 cap2) rfl rfl ?_)
   refine WL.append (km := j + n2) (xs := ((xm 54 (padK key)).take j).map vu8) (ys := bs2.map vu8) (zs := (((xm 54 (padK key)).take j) ++ bs2).map vu8) h_36 rfl rfl el37 (viewV (h_36.ok _ M4)) ((len_map hl2).trans (Nat.mul_one _).symm) (one_u8 _) (by simp only [List.map_append, List.map_nil]) (by omega) (by omega) (by omega) (fun _ _ => At.h) rfl (fun a_64 c_65 w_66 h_67 => ?_)
   refine WL.call Try.call115 rfl rfl (c_SumR a_64 (j + n2) c_65 (((xm 54 (padK key)).take j) ++ bs2) (lenApp (a := j) (b := n2) (by rw [List.length_take, xm_len, hpk]; omega) hl2 (by omega) : List.length (((xm 54 (padK key)).take j) ++ bs2) = j + n2) (by omega) _ (ownView (h_67.ok _ M0))) rfl ?_
   rintro _ w_69 ⟨rfl, hc_68⟩
   have h_70 := h_67.same hc_68
   refine WL.alloc (segs := [(32, (List.replicate 32 (0 : UInt8)).map vu8)]) h_70 (zv Try.typeInfo23 rfl) rfl (SsOk.cons (SOk.u8 lr) SsOk.nil) rfl (fun b_71 w_72 h_73 => ?_)
   refine WL.storeA (b := b_71) (off := 0) [] [(32, (List.replicate 32 (0 : UInt8)).map vu8)] [(32, (sumL (((xm 54 (padK key)).take j) ++ bs2)).map vu8)] [] (ys := (sumL (((xm 54 (padK key)).take j) ++ bs2)).map vu8) h_73 rfl rfl Try.sizeOf23 At.h (by decide) rfl rfl rfl rfl rfl rfl (SsOk.cons (SOk.u8 (sumL_len _)) SsOk.nil) (fun w_74 h_75 => ?_)
   refine WL.nil (thn_n (WP.seq (WP.reg ?_)))
   refine qM (.slice oa j oc) rfl rfl (qV rfl (R.sliceA (b := b_71) (off := 0) (off' := 0) (l := 0) (h := 32) rfl EvB.dflt EvB.dflt (by decide) (by decide) Try.underlying23 Try.sizeOf5 rfl) ?_)
   refine WL.append (km := j + 32) (xs := ((xm 92 (padK key)).take j).map vu8) (ys := (sumL (((xm 54 (padK key)).take j) ++ bs2)).map vu8) (zs := (((xm 92 (padK key)).take j) ++ (sumL (((xm 54 (padK key)).take j) ++ bs2))).map vu8) h_75 rfl rfl el37 (viewB (h_75.ok _ M0) Sg.h) ((len_map (sumL_len _)).trans (Nat.mul_one _).symm) (one_u8 _) (by simp only [List.map_append, List.map_nil]) (by omega) (by omega) (by omega) (fun _ _ => Y2) rfl (fun a_76 c_77 w_78 h_79 => ?_)
   refine WL.call Try.call115 rfl rfl (c_SumR a_76 (j + 32) c_77 (((xm 92 (padK key)).take j) ++ (sumL (((xm 54 (padK key)).take j) ++ bs2))) (lenApp (a := j) (b := 32) (by rw [List.length_take, xm_len, hpk]; omega) (sumL_len _) (by omega) : List.length (((xm 92 (padK key)).take j) ++ (sumL (((xm 54 (padK key)).take j) ++ bs2))) = j + 32) (by omega) _ (ownView (h_79.ok _ M2))) rfl ?_
   rintro _ w_81 ⟨rfl, hc_80⟩
   have h_82 := h_79.same hc_80
   refine WL.storeA (b := b_1) (off := 0) [] [(32, (List.replicate 32 (0 : UInt8)).map vu8)] [(32, (sumL (((xm 92 (padK key)).take j) ++ (sumL (((xm 54 (padK key)).take j) ++ bs2)))).map vu8)] [] (ys := (sumL (((xm 92 (padK key)).take j) ++ (sumL (((xm 54 (padK key)).take j) ++ bs2)))).map vu8) h_82 rfl rfl Try.sizeOf23 Y4 (by decide) rfl rfl rfl rfl rfl rfl (SsOk.cons (SOk.u8 (sumL_len _)) SsOk.nil) (fun w_83 h_84 => ?_)
   refine WL.nil (thn_n (WP.ret ?_))
   refine ret_of Try.results117 (RV.cell rfl (h_84.loadA (cs := (sumL (((xm 92 (padK key)).take j) ++ (sumL (((xm 54 (padK key)).take j) ++ bs2)))).map vu8) Try.isAgg23 Try.sizeOf23 M4 rfl rfl) RV.nil) ?_
   have hj64 : j = 64 := by omega
   have e1 : (xm 54 (padK key)).take j = xm 54 (padK key) := List.take_of_length_le (by rw [xm_len]; omega)
   have e2 : (xm 92 (padK key)).take j = xm 92 (padK key) := List.take_of_length_le (by rw [xm_len]; omega)
   exact ⟨by rw [e1, e2, tag_s hl h]; rfl, h_84.chgS⟩

theorem c_TagR_l (a : Option Addr) (n cap : Nat) (key : List UInt8) (hl : key.length = n) (hcap : n ≤ cap) (hn : n ≤ 100000000000) (a2 : Option Addr) (n2 cap2 : Nat) (bs2 : List UInt8) (hl2 : bs2.length = n2) (hcap2 : n2 ≤ cap2) (hn2 : n2 ≤ 100000000000) (h : 64 < n) (w : World) (hv : View w a (key.map vu8)) (hv2 : View w a2 (bs2.map vu8)) :
  Cs Try.prog 117 [(.slice a n cap), (.slice a2 n2 cap2)].toArray w (fun v w1 => v = (.agg ⟨(tagL key bs2).map vu8⟩) ∧ Chg w w1 []) := by
 refine Cs.of (n := 54) (args := [(.slice a n cap), (.slice a2 n2 cap2)]) Try.func117 rfl rfl rfl ?_
 have h_0 := HP.init w
 have h_01 := h_0.oldV (View.arg hv) rfl (by simp [Ent.mut])
 have h_00 := h_01.oldV (View.arg hv2) rfl (by simp [Ent.mut])
 refine WP.seq (WP.reg ?_)
 refine WL.alloc (segs := [(32, (List.replicate 32 (0 : UInt8)).map vu8)]) h_00 (zv Try.typeInfo23 rfl) rfl (SsOk.cons (SOk.u8 lr) SsOk.nil) rfl (fun b_1 w_2 h_3 => ?_)
 refine WL.nil (thn_n (WP.seq (WP.reg ?_)))
 refine qM (.slice a n cap) rfl rfl ?_
 have h_4 := h_3.rowNil 5 1
 refine WL.append (km := n) (xs := []) (ys := key.map vu8) (zs := key.map vu8) h_4 rfl rfl el37 (viewV (h_4.ok _ M3)) ((len_map hl).trans (Nat.mul_one _).symm) (one_u8 _) rfl (by omega) (by omega) (by omega) (fun _ _ => At.h) rfl (fun a_5 c_6 w_7 h_8 => ?_)
 refine qA (.slice a_5 n c_6) rfl rfl ?_
 refine WL.nil (thn_n (WP.seq (WP.seq (WP.reg ?_))))
 refine qM (.slice a_5 n c_6) rfl rfl (qV rfl (R.lenS (a := a_5) (m := n) rfl rfl Try.underlying37) (qV rfl (R.bin rfl rfl (bi_gtr (r := decide ((((n : Nat) : Int) : Int) > 64)) rfl)) ?_))
 refine WL.nil (thn_n ?_)
 refine WP.condT (congrArg Value.bool (decide_eq_true (by omega))) ?_
 refine WP.seq (WP.reg ?_)
 refine qM (.slice a n cap) rfl rfl ?_
 refine WL.call Try.call115 rfl rfl (c_SumR a n cap key hl (by omega) _ (viewV (h_8.ok _ M3))) rfl ?_
 rintro _ w_10 ⟨rfl, hc_9⟩
 have h_11 := h_8.same hc_9
 refine WL.alloc (segs := [(32, (List.replicate 32 (0 : UInt8)).map vu8)]) h_11 (zv Try.typeInfo23 rfl) rfl (SsOk.cons (SOk.u8 lr) SsOk.nil) rfl (fun b_12 w_13 h_14 => ?_)
 refine WL.storeA (b := b_12) (off := 0) [] [(32, (List.replicate 32 (0 : UInt8)).map vu8)] [(32, (sumL key).map vu8)] [] (ys := (sumL key).map vu8) h_14 rfl rfl Try.sizeOf23 At.h (by decide) rfl rfl rfl rfl rfl rfl (SsOk.cons (SOk.u8 (sumL_len _)) SsOk.nil) (fun w_15 h_16 => ?_)
 refine WL.nil (thn_n (WP.reg ?_))
 refine qV rfl (R.sliceA (b := b_12) (off := 0) (off' := 0) (l := 0) (h := 32) rfl EvB.dflt EvB.dflt (by decide) (by decide) Try.underlying23 Try.sizeOf5 rfl) ?_
 have h_17 := h_16.rowNil 5 1
 refine WL.append (km := 32) (xs := []) (ys := (sumL key).map vu8) (zs := (sumL key).map vu8) h_17 rfl rfl el37 (viewB (h_17.ok _ M1) Sg.h) ((len_map (sumL_len _)).trans (Nat.mul_one _).symm) (one_u8 _) rfl rfl (by omega) (by omega) (fun _ _ => At.h) rfl (fun a_18 c_19 w_20 h_21 => ?_)
 refine qA (.slice a_18 32 c_19) rfl rfl ?_
 refine WL.nil (thn_n (WP.seq (WP.block ?_)))
 have h_29 := (((((((h_21.up J1).drop rfl).up J1).drop rfl).up J3).up J3).up J3).up J3
 refine WP.loopG (G := Nat × Option Addr × Nat) [5, 20, 21, 22, 23, 24, 25] (fun (z, ra, rc) => [(5, (.slice ra (32 + z) rc))]) (fun (z, ra, rc) m w1 => HP w w1 [.row ra (32 + z) rc 5 1 (((sumL key) ++ List.replicate z (0 : UInt8)).map vu8), .blk b_1 .nw 23 [(32, (List.replicate 32 (0 : UInt8)).map vu8)], .view a2 (bs2.map vu8), .view a (key.map vu8)] ∧ (32 + z ≤ 64) ∧ m = 64 - z) ⟨(0, a_18, c_19), _, ⟨rfl, trivial⟩, (by rw [List.replicate_zero, List.append_nil]; exact h_29), (by omega), rfl⟩ ?_
 rintro ⟨z, ra, rc⟩ m_32 J_33 w_30 ⟨h_31, hz, rfl⟩
 refine WP.seq (WP.seq (WP.reg ?_))
 refine qM (.slice ra (32 + z) rc) rfl rfl (qV rfl (R.lenS (a := ra) (m := 32 + z) rfl rfl Try.underlying37) (qV rfl (R.bin rfl rfl (bi_lss (r := decide ((((32 + z : Nat) : Int) : Int) < 64)) rfl)) ?_))
 refine WL.nil (thn_n ?_)
 refine WP.cond (b := decide ((((32 + z : Nat) : Int) : Int) < 64)) rfl (fun c_34 => ?_) (fun c_34 => ?_)
 ·have p_35 := of_decide_eq_true c_34
  refine WP.skip (thn_n (WP.block (WP.reg ?_)))
  refine qM (.slice ra (32 + z) rc) rfl rfl ?_
  refine WL.buildSl (vs := [(0, (vu8 0))]) (cs := ([0] : List UInt8).map vu8) h_31 Try.underlying37 Try.sizeOf5 (zv Try.typeInfo5 rfl) rfl rfl (by kernel_rfl) rfl (one_u8 _) rfl rfl (fun b_36 w_37 h_38 => ?_)
  refine WL.append (km := 32 + z + 1) (xs := ((sumL key) ++ List.replicate z (0 : UInt8)).map vu8) (ys := ([0] : List UInt8).map vu8) (zs := (((sumL key) ++ List.replicate z (0 : UInt8)) ++ ([0] : List UInt8)).map vu8) h_38 rfl rfl el37 (viewB (h_38.ok _ M0) Sg.h) ((len_map (rfl : List.length ([0] : List UInt8) = 1)).trans (Nat.mul_one _).symm) (one_u8 _) (by simp only [List.map_append, List.map_nil]) (by omega) (by omega) (by omega) (fun _ _ => Y1) rfl (fun a_39 c_40 w_41 h_42 => ?_)
  refine qA (.slice a_39 (32 + z + 1) c_40) rfl rfl ?_
  refine WL.nil (inb_n (thn_n ?_))
  have h_47 := ((((h_42.drop rfl).up J3).up J3).up J3).up J3
  rw [List.append_assoc, zero_snoc] at h_47
  exact ⟨(z + 1, a_39, c_40), _, (by omega), (Ag.upd rfl (U2 rfl rfl (U4 rfl rfl rfl rfl (Ag.updL rfl (Ag.mix _ _ _))))), ⟨rfl, trivial⟩, h_47, (by omega), rfl⟩
 ·have p_48 := of_decide_eq_false c_34
  refine WP.exit (thn_x (thn_x (inb_hit (thn_n (WP.seq (WP.reg ?_))))))
  refine qA (.slice none 0 0) rfl rfl (qA (.slice none 0 0) rfl rfl ?_)
  refine WL.nil (thn_n (WP.seq (WP.seq (WP.reg ?_))))
  refine qA (vi 0) rfl rfl ?_
  refine WL.nil (thn_n (WP.block ?_))
  have hz64 : 32 + z = 64 := by omega
  have hpk : (padK (sumL key)).length = 64 := padK_len (sumL_len _) (by omega)
  rw [pad_z (sumL_len _) hz64, hz64] at h_31
  have h_50 := h_31.rowNil 5 1
  have h_51 := h_50.rowNil 5 1
  refine WP.loopG (G := Nat × Option Addr × Nat × Option Addr × Nat) [7, 8, 9, 26, 27, 28, 29, 30, 31, 32, 33, 34, 35, 36, 37, 38, 39, 40, 41, 42, 43, 44, 45] (fun (j, ia, ic, oa, oc) => [(7, (.slice ia j ic)), (8, (.slice oa j oc)), (9, (vn j))]) (fun (j, ia, ic, oa, oc) m w1 => HP w w1 [.row ia j ic 5 1 (((xm 54 (padK (sumL key))).take j).map vu8), .row oa j oc 5 1 (((xm 92 (padK (sumL key))).take j).map vu8), .row ra 64 rc 5 1 ((padK (sumL key)).map vu8), .blk b_1 .nw 23 [(32, (List.replicate 32 (0 : UInt8)).map vu8)], .view a2 (bs2.map vu8), .view a (key.map vu8)] ∧ (j ≤ 64) ∧ m = 64 - j) ⟨(0, none, 0, none, 0), _, ⟨rfl, rfl, rfl, trivial⟩, h_51, Nat.zero_le _, rfl⟩ ?_
  rintro ⟨j, ia, ic, oa, oc⟩ m_54 J_55 w_52 ⟨h_53, hj, rfl⟩
  refine WP.seq (WP.seq (WP.reg ?_))
  refine qM (vn j) rfl rfl (qV rfl (R.bin rfl rfl (bi_lss (r := decide ((((j : Nat) : Int) : Int) < 64)) rfl)) ?_)
  refine WL.nil (thn_n ?_)
  refine WP.cond (b := decide ((((j : Nat) : Int) : Int) < 64)) rfl (fun c_56 => ?_) (fun c_56 => ?_)
  ·have p_57 := of_decide_eq_true c_56
   refine WP.skip (thn_n (WP.seq (WP.block (WP.seq (WP.reg ?_)))))
   refine qM (.slice ia j ic) rfl rfl (qV rfl (R.move (v := (.slice ra 64 rc)) (congrArg (fun n => Value.slice ra n rc) hz64)) (qM (vn j) rfl rfl (qV rfl (R.indexS (a := ra) (i := j) (off := j) (xs := (padK (sumL key)).map vu8) rfl rfl rfl (by omega) (ownView (h_53.ok _ M2)) (lt_len (K := 64) (len_map hpk) (by omega)) Try.underlying37 Try.sizeOf5 (Nat.mul_one _).symm) (qV rfl (R.loadG (a := ra) (i := j) (xs := (padK (sumL key)).map vu8) (v := (vu8 ((padK (sumL key)).getD j 0))) rfl (ownView (h_53.ok _ M2)) Try.isAgg5 (get_u8 (lt_len (K := 64) hpk (by omega)))) (qV rfl (R.bin rfl rfl (b8_xor ((padK (sumL key)).getD j 0) 54)) ?_)))))
   refine WL.buildSl (vs := [(0, (vu8 (((padK (sumL key)).getD j 0) ^^^ 54)))]) (cs := ([((padK (sumL key)).getD j 0) ^^^ 54] : List UInt8).map vu8) h_53 Try.underlying37 Try.sizeOf5 (zv Try.typeInfo5 rfl) rfl rfl (by kernel_rfl) rfl (one_u8 _) rfl rfl (fun b_58 w_59 h_60 => ?_)
   refine WL.append (km := j + 1) (xs := ((xm 54 (padK (sumL key))).take j).map vu8) (ys := ([((padK (sumL key)).getD j 0) ^^^ 54] : List UInt8).map vu8) (zs := (((xm 54 (padK (sumL key))).take j) ++ ([((padK (sumL key)).getD j 0) ^^^ 54] : List UInt8)).map vu8) h_60 rfl rfl el37 (viewB (h_60.ok _ M0) Sg.h) ((len_map (rfl : List.length ([((padK (sumL key)).getD j 0) ^^^ 54] : List UInt8) = 1)).trans (Nat.mul_one _).symm) (one_u8 _) (by simp only [List.map_append, List.map_nil]) (by omega) (by omega) (by omega) (fun _ _ => Y1) rfl (fun a_61 c_62 w_63 h_64 => ?_)
   refine qA (.slice a_61 (j + 1) c_62) rfl rfl ?_
   refine WL.nil (thn_n (WP.reg ?_))
   refine qM (.slice oa j oc) rfl rfl (qV rfl (R.move (v := (.slice ra 64 rc)) (congrArg (fun n => Value.slice ra n rc) hz64)) (qM (vn j) rfl rfl (qV rfl (R.indexS (a := ra) (i := j) (off := j) (xs := (padK (sumL key)).map vu8) rfl rfl rfl (by omega) (ownView (h_64.ok _ M3)) (lt_len (K := 64) (len_map hpk) (by omega)) Try.underlying37 Try.sizeOf5 (Nat.mul_one _).symm) (qV rfl (R.loadG (a := ra) (i := j) (xs := (padK (sumL key)).map vu8) (v := (vu8 ((padK (sumL key)).getD j 0))) rfl (ownView (h_64.ok _ M3)) Try.isAgg5 (get_u8 (lt_len (K := 64) hpk (by omega)))) (qV rfl (R.bin rfl rfl (b8_xor ((padK (sumL key)).getD j 0) 92)) ?_)))))
   refine WL.buildSl (vs := [(0, (vu8 (((padK (sumL key)).getD j 0) ^^^ 92)))]) (cs := ([((padK (sumL key)).getD j 0) ^^^ 92] : List UInt8).map vu8) h_64 Try.underlying37 Try.sizeOf5 (zv Try.typeInfo5 rfl) rfl rfl (by kernel_rfl) rfl (one_u8 _) rfl rfl (fun b_65 w_66 h_67 => ?_)
   refine WL.append (km := j + 1) (xs := ((xm 92 (padK (sumL key))).take j).map vu8) (ys := ([((padK (sumL key)).getD j 0) ^^^ 92] : List UInt8).map vu8) (zs := (((xm 92 (padK (sumL key))).take j) ++ ([((padK (sumL key)).getD j 0) ^^^ 92] : List UInt8)).map vu8) h_67 rfl rfl el37 (viewB (h_67.ok _ M0) Sg.h) ((len_map (rfl : List.length ([((padK (sumL key)).getD j 0) ^^^ 92] : List UInt8) = 1)).trans (Nat.mul_one _).symm) (one_u8 _) (by simp only [List.map_append, List.map_nil]) (by omega) (by omega) (by omega) (fun _ _ => Y3) rfl (fun a_68 c_69 w_70 h_71 => ?_)
   refine qA (.slice a_68 (j + 1) c_69) rfl rfl ?_
   refine WL.nil (inb_n (thn_n (WP.reg ?_)))
   refine qM (vn j) rfl rfl (qV rfl (R.bin rfl rfl (bi_add (c := ((j + 1 : Nat) : Int)) (by omega) (by omega))) (qA (vn (j + 1)) rfl rfl ?_))
   refine WL.nil (thn_n ?_)
   have h_79 := (((((((h_71.drop rfl).drop rfl).up J5).up J5).up J5).up J5).up J5).up J5
   rw [xm_snoc (by omega), xm_snoc (by omega)] at h_79
   exact ⟨(j + 1, a_61, c_62, a_68, c_69), _, (by omega), (Ag.upd rfl (U2 rfl rfl (U4 rfl rfl rfl rfl (U4 rfl rfl rfl rfl (U4 rfl rfl rfl rfl (U4 rfl rfl rfl rfl (U4 rfl rfl rfl rfl (Ag.updL rfl (Ag.mix _ _ _))))))))), ⟨rfl, rfl, rfl, trivial⟩, h_79, (by omega), rfl⟩
  ·have p_80 := of_decide_eq_false c_56
   refine WP.exit (thn_x (thn_x (inb_hit (thn_n (WP.seq (WP.reg ?_))))))
   refine qM (.slice ia j ic) rfl rfl (qM (.slice a2 n2 cap2) rfl rfl ?_)
   refine WL.append (km := j + n2) (xs := ((xm 54 (padK (sumL key))).take j).map vu8) (ys := bs2.map vu8) (zs := (((xm 54 (padK (sumL key))).take j) ++ bs2).map vu8) h_53 rfl rfl el37 (viewV (h_53.ok _ M4)) ((len_map hl2).trans (Nat.mul_one _).symm) (one_u8 _) (by simp only [List.map_append, List.map_nil]) (by omega) (by omega) (by omega) (fun _ _ => At.h) rfl (fun a_81 c_82 w_83 h_84 => ?_)
   refine WL.call Try.call115 rfl rfl (c_SumR a_81 (j + n2) c_82 (((xm 54 (padK (sumL key))).take j) ++ bs2) (lenApp (a := j) (b := n2) (by rw [List.length_take, xm_len, hpk]; omega) hl2 (by omega) : List.length (((xm 54 (padK (sumL key))).take j) ++ bs2) = j + n2) (by omega) _ (ownView (h_84.ok _ M0))) rfl ?_
   rintro _ w_86 ⟨rfl, hc_85⟩
   have h_87 := h_84.same hc_85
   refine WL.alloc (segs := [(32, (List.replicate 32 (0 : UInt8)).map vu8)]) h_87 (zv Try.typeInfo23 rfl) rfl (SsOk.cons (SOk.u8 lr) SsOk.nil) rfl (fun b_88 w_89 h_90 => ?_)
   refine WL.storeA (b := b_88) (off := 0) [] [(32, (List.replicate 32 (0 : UInt8)).map vu8)] [(32, (sumL (((xm 54 (padK (sumL key))).take j) ++ bs2)).map vu8)] [] (ys := (sumL (((xm 54 (padK (sumL key))).take j) ++ bs2)).map vu8) h_90 rfl rfl Try.sizeOf23 At.h (by decide) rfl rfl rfl rfl rfl rfl (SsOk.cons (SOk.u8 (sumL_len _)) SsOk.nil) (fun w_91 h_92 => ?_)
   refine WL.nil (thn_n (WP.seq (WP.reg ?_)))
   refine qM (.slice oa j oc) rfl rfl (qV rfl (R.sliceA (b := b_88) (off := 0) (off' := 0) (l := 0) (h := 32) rfl EvB.dflt EvB.dflt (by decide) (by decide) Try.underlying23 Try.sizeOf5 rfl) ?_)
   refine WL.append (km := j + 32) (xs := ((xm 92 (padK (sumL key))).take j).map vu8) (ys := (sumL (((xm 54 (padK (sumL key))).take j) ++ bs2)).map vu8) (zs := (((xm 92 (padK (sumL key))).take j) ++ (sumL (((xm 54 (padK (sumL key))).take j) ++ bs2))).map vu8) h_92 rfl rfl el37 (viewB (h_92.ok _ M0) Sg.h) ((len_map (sumL_len _)).trans (Nat.mul_one _).symm) (one_u8 _) (by simp only [List.map_append, List.map_nil]) (by omega) (by omega) (by omega) (fun _ _ => Y2) rfl (fun a_93 c_94 w_95 h_96 => ?_)
   refine WL.call Try.call115 rfl rfl (c_SumR a_93 (j + 32) c_94 (((xm 92 (padK (sumL key))).take j) ++ (sumL (((xm 54 (padK (sumL key))).take j) ++ bs2))) (lenApp (a := j) (b := 32) (by rw [List.length_take, xm_len, hpk]; omega) (sumL_len _) (by omega) : List.length (((xm 92 (padK (sumL key))).take j) ++ (sumL (((xm 54 (padK (sumL key))).take j) ++ bs2))) = j + 32) (by omega) _ (ownView (h_96.ok _ M2))) rfl ?_
   rintro _ w_98 ⟨rfl, hc_97⟩
   have h_99 := h_96.same hc_97
   refine WL.storeA (b := b_1) (off := 0) [] [(32, (List.replicate 32 (0 : UInt8)).map vu8)] [(32, (sumL (((xm 92 (padK (sumL key))).take j) ++ (sumL (((xm 54 (padK (sumL key))).take j) ++ bs2)))).map vu8)] [] (ys := (sumL (((xm 92 (padK (sumL key))).take j) ++ (sumL (((xm 54 (padK (sumL key))).take j) ++ bs2)))).map vu8) h_99 rfl rfl Try.sizeOf23 Y4 (by decide) rfl rfl rfl rfl rfl rfl (SsOk.cons (SOk.u8 (sumL_len _)) SsOk.nil) (fun w_100 h_101 => ?_)
   refine WL.nil (thn_n (WP.ret ?_))
   refine ret_of Try.results117 (RV.cell rfl (h_101.loadA (cs := (sumL (((xm 92 (padK (sumL key))).take j) ++ (sumL (((xm 54 (padK (sumL key))).take j) ++ bs2)))).map vu8) Try.isAgg23 Try.sizeOf23 M4 rfl rfl) RV.nil) ?_
   have hj64 : j = 64 := by omega
   have e1 : (xm 54 (padK (sumL key))).take j = xm 54 (padK (sumL key)) := List.take_of_length_le (by rw [xm_len]; omega)
   have e2 : (xm 92 (padK (sumL key))).take j = xm 92 (padK (sumL key)) := List.take_of_length_le (by rw [xm_len]; omega)
   exact ⟨by rw [e1, e2, tag_l hl h]; rfl, h_101.chgS⟩

theorem c_TagR (a : Option Addr) (n cap : Nat) (key : List UInt8) (hl : key.length = n) (hcap : n ≤ cap) (hn : n ≤ 100000000000) (a2 : Option Addr) (n2 cap2 : Nat) (bs2 : List UInt8) (hl2 : bs2.length = n2) (hcap2 : n2 ≤ cap2) (hn2 : n2 ≤ 100000000000) (w : World) (hv : View w a (key.map vu8)) (hv2 : View w a2 (bs2.map vu8)) : Cs Try.prog 117 [.slice a n cap, .slice a2 n2 cap2].toArray w (fun v w1 => v = (.agg ⟨(tagL key bs2).map vu8⟩) ∧ Chg w w1 []) := by
 by_cases h : 64 < n
 ·exact c_TagR_l a n cap key hl hcap hn a2 n2 cap2 bs2 hl2 hcap2 hn2 h w hv hv2
 ·exact c_TagR_s a n cap key hl hcap hn a2 n2 cap2 bs2 hl2 hcap2 hn2 h w hv hv2
end Go.Proofs.Ytnhppjimimhlkaa

namespace Go.Vc
open Go.RowKit Go.WideShapes
section
variable {P : Program} {F : Fr} {w w' w0 : World} {L : List Ent}
variable {ty : TypeId} {pos : String} {after : Array Edge} {dst : Option Tmp} {g : Option (Nat × Bool)}
theorem agg_formed {t : TypeId} {cs : List Value} (hu : aggB P t = true) (hl : cs.length = P.cellsOf t) : (Value.agg ⟨cs⟩).formed P t = true := by
  unfold aggB at hu
  unfold Value.formed
  split at hu <;> simp_all
theorem Ck.agg {K : TypeId} {m h : Nat} {cs : List Value} (hk : P.keyTypeAt m K = true) (hm : Nat.ble m 10000 = true) (hu : aggB P K = true) (t : Typ P h K cs) : Ck P K (.agg ⟨cs⟩) := by
  intro b w
  have hm' := Nat.le_of_ble_eq_true hm
  have := run_checkKey_deep (P := P) b (10000 - m) m K hk w _ (.agg ⟨cs⟩) _ (agg_formed hu t.len) (t.lits h (Nat.le_refl _))
  rwa [show 10000 - m + m = 10000 by omega] at this
def fdx {α : Type} [DecidableEq α] (q : α) : List (α × Value × Nat) → Nat → Option (Nat × Value)
  | [], _ => none
  | e :: r, i => if e.1 = q then some (i, e.2.1) else fdx q r (i + 1)
def ents {α : Type} (kf : α → List Value) (es : List (α × Value × Nat)) : List MapEntry := es.map fun e => { key := .agg ⟨kf e.1⟩, val := e.2.1, born := e.2.2 }
theorem run_asking {α : Type} [DecidableEq α] {kf : α → List Value} {K : TypeId} {m h : Nat} {q : α} (hk : P.keyTypeAt m K = true) (hm : Nat.ble m 10000 = true) (hu : aggB P K = true) (t : Typ P h K (kf q)) (w : World) :
    ∀ (es : List (α × Value × Nat)) (i : Nat), (∀ e ∈ es, Typ P h K (kf e.1) ∧ (kf e.1 = kf q → e.1 = q)) → (Instr.findAsking K (.agg ⟨kf q⟩) (ents kf es) i).run P w = .ok (fdx q es i) w
  | [], i, _ => by simp [ents, Instr.findAsking, fdx]
  | e :: es, i, hall => by
    obtain ⟨te, hinj⟩ := hall e (by simp)
    obtain ⟨r, hr, hiff⟩ := equal_of (w := w) hk (Nat.le_of_ble_eq_true hm) hu t te
    have hr' : (Op.equal K (.agg ⟨kf q⟩) (.agg ⟨kf e.1⟩)).run P w = .ok r w := hr
    by_cases he : e.1 = q
    · have : r = true := hiff.2 (by rw [he])
      subst this
      rw [he] at hr'
      simp [ents, Instr.findAsking, hr', he, fdx]
    · have : r = false := by
        cases r with
        | false => rfl
        | true => exact absurd (hinj (hiff.1 rfl).symm) he
      subst this
      have ih := run_asking hk hm hu t w es (i + 1) (fun y hy => hall y (by simp [hy]))
      simp only [ents] at ih
      simp only [ents, List.map_cons, Instr.findAsking, Sem.run_bind, hr', Result.andThen_ok, Bool.false_eq_true, if_false, ih, fdx, he]
theorem Fk.agg {α : Type} [DecidableEq α] {kf : α → List Value} {K : TypeId} {m h : Nat} {q : α} (hk : P.keyTypeAt m K = true) (hm : Nat.ble m 10000 = true) (hu : aggB P K = true) (t : Typ P h K (kf q)) {es : List (α × Value × Nat)}
    (hall : ∀ e ∈ es, Typ P h K (kf e.1) ∧ (kf e.1 = kf q → e.1 = q)) : Fk P K (.agg ⟨kf q⟩) (ents kf es) (fdx q es 0) := by
  intro w
  rw [run_findKey_eq w hu]
  exact run_asking hk hm hu t w es 0 hall
theorem eq_nilM {T K E : TypeId} {o : Option Nat} (hT : P.underlying T = some (.map K E)) (d : Nat) : (Op.equalIn (d + 1) T (.map o) (.map none)).run P w = .ok o.isNone w := by
  unfold Op.equalIn
  rw [Sem.run_bind, run_underlying hT]
  cases o <;> rfl
theorem R.neNilM {T T' K E : TypeId} {x y : Operand} {o : Option Nat} (hx : evO F x = .map o) (hy : evO F y = .map none) (hT : P.underlying T = some (.map K E)) : (execOp (evO F) ⟨dst, .binOp .neq T x y T', ty, pos, after, g⟩).run P w = .ok (.value (.bool (!o.isNone))) w := R.neOf hx hy rfl (eq_nilM hT) rfl
theorem add_add (a : Addr) (i k : Nat) : (a.add i).add k = a.add (i + k) := by
  unfold Addr.add
  by_cases hi : i = 0
  · subst hi; simp
  · by_cases hk : k = 0
    · subst hk; simp [hi]
    · have : i + k ≠ 0 := by omega
      simp [hi, hk, this, Nat.add_assoc]
theorem gA_add (a : Option Addr) (i k : Nat) : (gA a i).add k = gA a (i + k) := add_add _ _ _
theorem R.fieldG {i off' f z : Nat} {S : TypeId} {x : Operand} {a : Option Addr} {fs : Array Field} {fd : Field} (hx : evO F x = .pointer (some (gA a i))) (hT : P.underlying S = some (.struct fs)) (hf : fs[f]? = some fd)
    (hz : ∀ w, (sizeOf fd.type).run P w = .ok z w) (hz0 : Nat.blt 0 z = true) (hoff : off' = i + fd.offset) : (execOp (evO F) ⟨dst, .fieldAddr S x f, ty, pos, after, g⟩).run P w = .ok (.value (.pointer (some (gA a off')))) w := by
  have hz1 : z ≠ 0 := by rintro rfl; cases hz0
  simp [execOp, hx, Instr.fieldAt, run_underlying hT, hf, Instr.sureAddr, fieldPlace, hz, hz1, gA_add, hoff]
end
end Go.Vc

namespace Go.Orc
open Go.Vc Go.RowKit
abbrev Qn := Int × List UInt8 × Int × List UInt8
abbrev Lg := List (Qn × List UInt8)
def okQ (q : Qn) : Prop := q.2.1.length = 32 ∧ (1 ≤ q.1 ∧ q.1 ≤ 4) ∧ (1 ≤ q.2.2.1 ∧ q.2.2.1 ≤ 16) ∧ q.2.2.2.length ≤ 1000000000
def kC (q : Qn) : List Value := flat [(1, [vi q.1]), (32, q.2.1.map vu8), (1, [vi q.2.2.1]), (1, [.string (bstr q.2.2.2)])]
theorem bstr_inj {a b : List UInt8} (h : bstr a = bstr b) : a = b := by
  have := congrArg ByteArray.toList h
  rwa [bstr_toList, bstr_toList] at this
theorem kC_inj {p q : Qn} (hp : p.2.1.length = 32) (hq : q.2.1.length = 32) (h : kC p = kC q) : p = q := by
  obtain ⟨k, key, d, data⟩ := p
  obtain ⟨k', key', d', data'⟩ := q
  simp only at hp hq
  simp only [kC, flat, List.cons_append, List.nil_append, List.cons.injEq, Value.int.injEq, true_and] at h
  obtain ⟨h1, h2⟩ := h
  obtain ⟨h3, h4⟩ := List.append_inj h2 (by rw [List.length_map, List.length_map, hp, hq])
  simp only [List.cons.injEq, Value.int.injEq, Value.string.injEq, true_and, and_true] at h4
  have e1 : key = key' := by
    have := map_inj_u8 (a := key) (b := key')
    exact this ▸ h3
  rw [h1, e1, h4.1, bstr_inj h4.2]
def mEs : Lg → Nat → List (Qn × Value × Nat)
  | [], _ => []
  | p :: r, i => (p.1, vi (i : Int), i) :: mEs r (i + 1)
theorem mEs_snoc (p : Qn × List UInt8) : ∀ (l : Lg) (i : Nat), mEs (l ++ [p]) i = mEs l i ++ [(p.1, vi ((i + l.length : Nat) : Int), i + l.length)]
  | [], i => by simp [mEs]
  | x :: l, i => by
    rw [List.cons_append, mEs, mEs_snoc p l (i + 1), mEs, List.length_cons, show i + 1 + l.length = i + (l.length + 1) by omega]; rfl
theorem mEs_mem : ∀ {l : Lg} {i : Nat} {e : Qn × Value × Nat}, e ∈ mEs l i → ∃ p ∈ l, e.1 = p.1
  | x :: l, i, e, h => by
    rcases List.mem_cons.1 h with rfl | h
    · exact ⟨x, List.mem_cons_self .., rfl⟩
    · obtain ⟨p, hp, he⟩ := mEs_mem h
      exact ⟨p, List.mem_cons_of_mem _ hp, he⟩
def fdq (q : Qn) : Lg → Nat → Option Nat
  | [], _ => none
  | p :: r, i => if p.1 = q then some i else fdq q r (i + 1)
theorem fdx_fdq (q : Qn) : ∀ (l : Lg) (i : Nat), fdx q (mEs l i) i = (fdq q l i).map fun j : Nat => ((j, vi (j : Int)) : Nat × Value)
  | [], _ => rfl
  | p :: r, i => by
    rw [mEs, fdx, fdq]
    split
    · rfl
    · exact fdx_fdq q r (i + 1)
theorem fdq_lt {q : Qn} : ∀ {l : Lg} {i j : Nat}, fdq q l i = some j → i ≤ j ∧ j < i + l.length
  | p :: r, i, j, h => by
    rw [fdq] at h
    split at h
    · cases h; exact ⟨Nat.le_refl _, by rw [List.length_cons]; omega⟩
    · have := fdq_lt h
      rw [List.length_cons]; omega
def mArr (l : Lg) : Array MapEntry := ⟨ents kC (mEs l 0)⟩
theorem mArr_push (l : Lg) (q : Qn) (d : List UInt8) : mArr (l ++ [(q, d)]) = (mArr l).push { key := .agg ⟨kC q⟩, val := vi (l.length : Int), born := l.length } := by
  apply Array.ext'
  simp [mArr, ents, mEs_snoc]
theorem log_find {P : Program} {K : TypeId} {m h : Nat} {q : Qn} {l : Lg} (hk : P.keyTypeAt m K = true) (hm : Nat.ble m 10000 = true) (hu : aggB P K = true) (hT : ∀ q, okQ q → Typ P h K (kC q)) (hq : okQ q) (hl : ∀ p ∈ l, okQ p.1) :
    Fk P K (.agg ⟨kC q⟩) (mArr l).toList ((fdq q l 0).map fun j : Nat => ((j, vi (j : Int)) : Nat × Value)) := by
  rw [← fdx_fdq]
  refine Fk.agg hk hm hu (hT q hq) fun e he => ?_
  obtain ⟨p, hp, e1⟩ := mEs_mem he
  rw [e1]
  exact ⟨hT _ (hl p hp), fun h => kC_inj (hl p hp).1 hq.1 h⟩
def aC (q : Qn) (s : Value) (d : List UInt8) : List Value := flat [(1, [vi q.1]), (32, q.2.1.map vu8), (1, [vi q.2.2.1]), (1, [s]), (32, d.map vu8)]
theorem aC_len {q : Qn} {s : Value} {d : List UInt8} (h : q.2.1.length = 32) (hd : d.length = 32) : (aC q s d).length = 67 := by simp [aC, flat, h, hd]
inductive Lgs (w : World) : List Value → Lg → Prop
  | nil : Lgs w [] []
  | snoc {a : Option Addr} {n c : Nat} {q : Qn} {d : List UInt8} {xs : List Value} {l : Lg} (r : Lgs w xs l) (hq : okQ q) (hd : d.length = 32) (hl : q.2.2.2.length = n) (hc : n ≤ c) (hv : View w a (q.2.2.2.map vu8)) : Lgs w (xs ++ aC q (.slice a n c) d) (l ++ [(q, d)])
theorem Lgs.len {w : World} {xs : List Value} {l : Lg} (h : Lgs w xs l) : xs.length = l.length * 67 := by
  induction h with
  | nil => rfl
  | snoc r hq hd hl hc hv ih => rw [List.length_append, ih, aC_len hq.1 hd, List.length_append, List.length_cons, List.length_nil]; omega
theorem Lgs.ok {w : World} {xs : List Value} {l : Lg} (h : Lgs w xs l) : ∀ p ∈ l, okQ p.1 := by
  induction h with
  | nil => intro p hp; cases hp
  | snoc r hq hd hl hc hv ih =>
    intro p hp
    rcases List.mem_append.1 hp with hp | hp
    · exact ih p hp
    · rw [List.mem_singleton] at hp; subst hp; exact hq
theorem sblks_u8 : ∀ (l : List UInt8) (b : Nat), b ∉ sblks (l.map vu8)
  | [], b => by simp [sblks]
  | x :: l, b => by
    intro h
    have h' : b ∈ sblk (vu8 x) ++ sblks (l.map vu8) := h
    rcases List.mem_append.1 h' with h | h
    · simp [sblk] at h
    · exact sblks_u8 l b h
theorem sblk_in_view {a : Option Addr} {n c : Nat} {l : List UInt8} (hl : l.length = n) : ∀ b ∈ sblk (.slice a n c), b ∈ (Ent.view a (l.map vu8)).blocks := by
  intro b hb
  cases a with
  | none => simp [sblk] at hb
  | some ad => cases l with
    | nil => simp at hl; subst hl; simp [sblk] at hb
    | cons x r => cases n with
      | zero => simp at hl
      | succ n => simpa [Ent.blocks, sblk] using hb
theorem Lgs.get {w : World} {xs : List Value} {l : Lg} (h : Lgs w xs l) : ∀ {i : Nat} (hi : i < l.length), ∃ a n c, (xs.drop (67 * i)).take 67 = aC (l[i]).1 (.slice a n c) (l[i]).2 ∧ (l[i]).2.length = 32 ∧ (l[i]).1.2.2.2.length = n ∧ n ≤ c ∧ View w a ((l[i]).1.2.2.2.map vu8) ∧ (∀ b ∈ sblk (.slice a n c), b ∈ sblks xs) := by
  induction h with
  | nil => intro i hi; simp at hi
  | @snoc a n c q d xs l r hq hd hl hc hv ih =>
    intro i hi
    have hlen := r.len
    by_cases e : i < l.length
    · obtain ⟨a', n', c', h1, h2, h3, h4, h5, h6⟩ := ih e
      refine ⟨a', n', c', ?_, ?_, ?_, h4, ?_, ?_⟩
      · rw [List.drop_append_of_le_length (by omega), List.take_append_of_le_length (by rw [List.length_drop]; omega), h1, List.getElem_append_left e]
      · rw [List.getElem_append_left e]; exact h2
      · rw [List.getElem_append_left e]; exact h3
      · rw [List.getElem_append_left e]; exact h5
      · intro b hb; rw [sblks_append]; exact List.mem_append.2 (.inl (h6 b hb))
    · have : i = l.length := by rw [List.length_append, List.length_singleton] at hi; omega
      subst this
      have e2 : (l ++ [(q, d)])[l.length] = (q, d) := by simp
      refine ⟨a, n, c, ?_, ?_, ?_, hc, ?_, ?_⟩
      · rw [List.drop_append, List.drop_of_length_le (by omega), List.nil_append, show 67 * l.length - xs.length = 0 by omega, List.drop_zero, List.take_of_length_le (by rw [aC_len hq.1 hd]; exact Nat.le_refl _), e2]
      · rw [e2]; exact hd
      · rw [e2]; exact hl
      · rw [e2]; exact hv
      · intro b hb
        rw [sblks_append]
        refine List.mem_append.2 (.inr ?_)
        simp only [aC, flat, sblks_append]
        refine List.mem_append.2 (.inr (List.mem_append.2 (.inr (List.mem_append.2 (.inr (List.mem_append.2 (.inl ?_)))))))
        simpa [sblks] using hb
end Go.Orc
