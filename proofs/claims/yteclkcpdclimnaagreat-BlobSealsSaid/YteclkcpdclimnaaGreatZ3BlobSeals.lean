/- Rules for walks and contracts of the functions that the law reaches, one behind the other. Conditions: none beyond what each theorem states. -/
import Derived.Test.YteclkcpdclimnaaGreatZ2BlobSeals
set_option linter.unusedVariables false
set_option linter.unusedSimpArgs false
set_option linter.unusedSectionVars false
namespace Go.Proofs.YteclkcpdclimnaaGreat
open Go.Proofs.Tryz
open Go.Vc Go.Sh Go.RowKit
set_option maxRecDepth 20000

theorem c_padding (n : Nat) (hn : n ≤ 1099511627776) (w : World) :
  Cs Tryz.prog 135 [(vi ((n : Nat) : Int))].toArray w (fun v w1 => ∃ a cap, v = .slice a (padL n).length cap ∧ Chg w w1 [] ∧ Own w.heap.size w1 5 1 a (padL n).length cap ((padL n).map vu8)) := by
 refine Cs.of (n := 23) (args := [(vn n)]) Tryz.func135 rfl rfl rfl ?_
 have h_0 := HP.init w
 refine WP.seq (WP.reg ?_)
 refine qA (.slice none 0 0) rfl rfl ?_
 refine WL.nil (thn_n (WP.seq (WP.reg ?_)))
 refine WL.buildSl (vs := [(0, (vu8 128))]) (cs := ([128] : List UInt8).map vu8) h_0 underlying88 sizeOf5 (zv typeInfo5 rfl) rfl rfl (by kernel_rfl) rfl (one_u8 _) rfl rfl (fun b_1 w_2 h_3 => ?_)
 refine qM (vn n) rfl rfl (qV rfl (R.bin rfl rfl (bi_rem (c := ((n % 64 : Nat) : Int)) (Int.natCast_nonneg _) (by omega) (by first | omega | rfl))) (qV rfl (R.bin rfl rfl (bi_sub (c := ((119 - (n % 64) : Nat) : Int)) (by omega) (by omega))) (qV rfl (R.bin rfl rfl (bi_rem (c := (((119 - (n % 64)) % 64 : Nat) : Int)) (Int.natCast_nonneg _) (by omega) (by first | omega | rfl))) ?_)))
 have h_4 := HP.blkRow (m := 1) (s := 1) h_3 At.h rfl (by simp only [maxLen]; decide)
 refine WL.appendZ (i := Tryz.t5) (m := (119 - (n % 64)) % 64) (km := 1 + ((119 - (n % 64)) % 64)) (xs := ([128] : List UInt8).map vu8) (zs := (([128] : List UInt8) ++ List.replicate ((119 - (n % 64)) % 64) (0 : UInt8)).map vu8) h_4 rfl rfl underlying88 underlying3 rfl rfl rfl rfl (by simp only [List.map_append, List.map_replicate, List.map_nil]) (by omega) (by omega) (fun _ _ => At.h) rfl (fun a_5 c_6 w_7 h_8 => ?_)
 refine qA (.slice a_5 (1 + ((119 - (n % 64)) % 64)) c_6) rfl rfl ?_
 refine WL.nil (thn_n (WP.seq (WP.reg ?_)))
 refine qM (vn n) rfl rfl (qV rfl (R.conv (b := ((UInt64.ofNat n) : UInt64).toNat) rfl underlying3 underlying27 (w64_nat n)) (qV rfl (R.bin (v := (vu64 (UInt64.ofNat (n * 8)))) rfl rfl ((b64_mul (UInt64.ofNat n) 8).trans (congrArg (fun x : UInt64 => some (vu64 x)) (mul8 n)))) ?_))
 refine WL.call Tryz.call73 rfl rfl (c_Put_b (UInt64.ofNat (n * 8)) 8 rfl _) rfl ?_
 rintro _ w_11 ⟨a_9, cap_10, rfl, hc_12, ho_13⟩
 have h_14 := h_8.gotRow hc_12 ho_13
 refine qM (.tuple [(.slice a_9 8 cap_10), (vi 0)].toArray) rfl rfl (qV rfl (R.extract rfl rfl) (qV rfl (R.extract rfl rfl) (qA (.slice a_9 8 cap_10) rfl rfl (qA (vi 0) rfl rfl ?_))))
 refine WL.nil (thn_n (WP.seq (WP.reg ?_)))
 refine qM (.slice a_5 (1 + ((119 - (n % 64)) % 64)) c_6) rfl rfl (qM (.slice a_9 8 cap_10) rfl rfl ?_)
 refine WL.call Tryz.call121 rfl rfl (c_Turned a_9 8 cap_10 (leN 8 (UInt64.ofNat (n * 8)).toNat) (leN_len ..) (by omega) _ (ownView (h_14.ok _ M0))) rfl ?_
 rintro _ w_17 ⟨a_15, cap_16, rfl, hc_18, ho_19⟩
 have h_20 := h_14.gotRow hc_18 ho_19
 refine WL.append (km := (1 + ((119 - (n % 64)) % 64)) + 8) (xs := (([128] : List UInt8) ++ List.replicate ((119 - (n % 64)) % 64) (0 : UInt8)).map vu8) (ys := ((leN 8 (UInt64.ofNat (n * 8)).toNat).reverse).map vu8) (zs := ((([128] : List UInt8) ++ List.replicate ((119 - (n % 64)) % 64) (0 : UInt8)) ++ ((leN 8 (UInt64.ofNat (n * 8)).toNat).reverse)).map vu8) h_20 rfl rfl el88 (ownView (h_20.ok _ M0)) ((len_map ((List.length_reverse ..).trans (leN_len ..))).trans (Nat.mul_one _).symm) (one_u8 _) (by simp only [List.map_append, List.map_nil]) (by omega) (by omega) (by omega) (fun _ _ => Y2) rfl (fun a_21 c_22 w_23 h_24 => ?_)
 refine qA (.slice a_21 ((1 + ((119 - (n % 64)) % 64)) + 8) c_22) rfl rfl ?_
 refine WL.nil (thn_n (WP.ret ?_))
 refine ret_of results135 (RV.tmp (v := (.slice a_21 ((1 + ((119 - (n % 64)) % 64)) + 8) c_22)) rfl RV.nil) ?_
 have es : (([128] : List UInt8) ++ List.replicate ((119 - (n % 64)) % 64) (0 : UInt8)) ++ ((leN 8 (UInt64.ofNat (n * 8)).toNat).reverse) = padL n := pad_P (by omega)
 have el : (1 + ((119 - (n % 64)) % 64)) + 8 = (padL n).length := by have hq := padL_len n; omega
 have hown := h_24.own M2
 rw [el, es] at hown
 exact ⟨_, _, by rw [el]; rfl, h_24.chgS, hown⟩

theorem c_PadR (a : Option Addr) (n cap : Nat) (bs : List UInt8) (hl : bs.length = n) (hn : n ≤ 1000000000000) (w : World) (hv : View w a (bs.map vu8)) :
  Cs Tryz.prog 124 [(.slice a n cap)].toArray w (fun v w1 => ∃ a cap, v = .slice a (padded bs).length cap ∧ Chg w w1 [] ∧ Own w.heap.size w1 5 1 a (padded bs).length cap ((padded bs).map vu8)) := by
 refine Cs.of (n := 35) (args := [(.slice a n cap)]) Tryz.func124 rfl rfl rfl ?_
 have h_0 := HP.init w
 have h_00 := h_0.old (View.arg hv) (fun f hf => by cases hf)
 refine WP.seq (WP.reg ?_)
 refine qA (.slice none 0 0) rfl rfl ?_
 refine WL.nil (thn_n (WP.seq (WP.reg ?_)))
 refine qM (.slice a n cap) rfl rfl ?_
 have h_1 := h_00.rowNil 5 1
 refine WL.append (km := n) (xs := []) (ys := bs.map vu8) (zs := (([] : List UInt8) ++ bs).map vu8) h_1 rfl rfl el88 (viewV (h_1.ok _ M1)) ((len_map hl).trans (Nat.mul_one _).symm) (one_u8 _) (by simp only [List.map_append, List.map_nil]) (by omega) (by omega) (by omega) (fun _ _ => At.h) rfl (fun a_2 c_3 w_4 h_5 => ?_)
 refine WL.buildSl (vs := [(0, (vu8 128))]) (cs := ([128] : List UInt8).map vu8) h_5 underlying88 sizeOf5 (zv typeInfo5 rfl) rfl rfl (by kernel_rfl) rfl (one_u8 _) rfl rfl (fun b_6 w_7 h_8 => ?_)
 refine WL.append (km := n + 1) (xs := (([] : List UInt8) ++ bs).map vu8) (ys := ([128] : List UInt8).map vu8) (zs := ((([] : List UInt8) ++ bs) ++ ([128] : List UInt8)).map vu8) h_8 rfl rfl el88 (viewB (h_8.ok _ M0) Sg.h) ((len_map (rfl : List.length ([128] : List UInt8) = 1)).trans (Nat.mul_one _).symm) (one_u8 _) (by simp only [List.map_append, List.map_nil]) (by omega) (by omega) (by omega) (fun _ _ => Y1) rfl (fun a_9 c_10 w_11 h_12 => ?_)
 refine qA (.slice a_9 (n + 1) c_10) rfl rfl ?_
 refine WL.nil (thn_n (WP.seq (WP.block ?_)))
 have h_13 := h_12.up J1
 refine WP.loopG (G := Nat × Option Addr × Nat) [3, 10, 11, 12, 13, 14, 15, 16] (fun (z, ra, rc) => [(3, (.slice ra (n + 1 + z) rc))]) (fun (z, ra, rc) m w1 => HP w w1 [.row ra (n + 1 + z) rc 5 1 (((bs ++ ([128] : List UInt8)) ++ List.replicate z (0 : UInt8)).map vu8), .blk b_6 .nw 5 [(1, ([128] : List UInt8).map vu8)], .view a (bs.map vu8)] ∧ (z ≤ (119 - n % 64) % 64) ∧ m = 64 - z) ⟨(0, a_9, c_10), _, ⟨rfl, trivial⟩, (by rw [List.replicate_zero, List.append_nil]; exact h_13), (by omega), rfl⟩ ?_
 rintro ⟨z, ra, rc⟩ m_16 J_17 w_14 ⟨h_15, hz, rfl⟩
 refine WP.seq (WP.seq (WP.reg ?_))
 refine qM (.slice ra (n + 1 + z) rc) rfl rfl (qV rfl (R.lenS (a := ra) (m := n + 1 + z) rfl rfl underlying88) (qV rfl (R.bin rfl rfl (bi_rem (c := (((n + 1 + z) % 64 : Nat) : Int)) (Int.natCast_nonneg _) (by omega) (by first | omega | rfl))) (qV rfl (R.bin rfl rfl (bi_neq (r := decide (((((n + 1 + z) % 64 : Nat) : Int) : Int) ≠ 56)) rfl)) ?_)))
 refine WL.nil (thn_n ?_)
 refine WP.cond (b := decide (((((n + 1 + z) % 64 : Nat) : Int) : Int) ≠ 56)) rfl (fun c_18 => ?_) (fun c_18 => ?_)
 ·have p_19 := of_decide_eq_true c_18
  refine WP.skip (thn_n (WP.block (WP.reg ?_)))
  refine qM (.slice ra (n + 1 + z) rc) rfl rfl ?_
  refine WL.buildSl (vs := [(0, (vu8 0))]) (cs := ([0] : List UInt8).map vu8) h_15 underlying88 sizeOf5 (zv typeInfo5 rfl) rfl rfl (by kernel_rfl) rfl (one_u8 _) rfl rfl (fun b_20 w_21 h_22 => ?_)
  refine WL.append (km := n + 1 + z + 1) (xs := ((bs ++ ([128] : List UInt8)) ++ List.replicate z (0 : UInt8)).map vu8) (ys := ([0] : List UInt8).map vu8) (zs := (((bs ++ ([128] : List UInt8)) ++ List.replicate z (0 : UInt8)) ++ ([0] : List UInt8)).map vu8) h_22 rfl rfl el88 (viewB (h_22.ok _ M0) Sg.h) ((len_map (rfl : List.length ([0] : List UInt8) = 1)).trans (Nat.mul_one _).symm) (one_u8 _) (by simp only [List.map_append, List.map_nil]) (by omega) (by omega) (by omega) (fun _ _ => Y1) rfl (fun a_23 c_24 w_25 h_26 => ?_)
  refine qA (.slice a_23 (n + 1 + z + 1) c_24) rfl rfl ?_
  refine WL.nil (inb_n (thn_n ?_))
  have h_30 := (((h_26.drop rfl).up J2).up J2).up J2
  rw [List.append_assoc, zero_snoc] at h_30
  exact ⟨(z + 1, a_23, c_24), _, (by omega), (U4 rfl rfl rfl rfl (U4 rfl rfl rfl rfl (Ag.updL rfl (Ag.mix _ _ _)))), ⟨rfl, trivial⟩, h_30, (by omega), rfl⟩
 ·have p_31 := of_decide_eq_false c_18
  refine WP.exit (thn_x (thn_x (inb_hit (thn_n (WP.seq (WP.reg ?_))))))
  refine qM (.slice a n cap) rfl rfl (qV rfl (R.lenS (a := a) (m := n) rfl rfl underlying88) (qV rfl (R.conv (b := ((UInt64.ofNat n) : UInt64).toNat) rfl underlying3 underlying27 (w64_nat n)) (qV rfl (R.bin (v := (vu64 (UInt64.ofNat (n * 8)))) rfl rfl ((b64_mul (UInt64.ofNat n) 8).trans (congrArg (fun x : UInt64 => some (vu64 x)) (mul8 n)))) (qA (vu64 (UInt64.ofNat (n * 8))) rfl rfl ?_))))
  refine WL.nil (thn_n (WP.seq (WP.seq (WP.reg ?_))))
  refine qA (vi 7) rfl rfl ?_
  refine WL.nil (thn_n (WP.block ?_))
  have hz2 : z = (119 - n % 64) % 64 := by omega
  refine WP.loopG (G := Nat × Option Addr × Nat) [3, 5, 21, 22, 23, 24, 25, 26, 27, 28, 29, 30, 31, 32, 33] (fun (j, ra2, rc2) => [(3, (.slice ra2 (n + 1 + z + j) rc2)), (5, (vi (7 - (j : Int))))]) (fun (j, ra2, rc2) m w1 => HP w w1 [.row ra2 (n + 1 + z + j) rc2 5 1 ((((bs ++ ([128] : List UInt8)) ++ List.replicate z (0 : UInt8)) ++ ((leN 8 (UInt64.ofNat (n * 8)).toNat).reverse).take j).map vu8), .blk b_6 .nw 5 [(1, ([128] : List UInt8).map vu8)], .view a (bs.map vu8)] ∧ (j ≤ 8) ∧ m = 8 - j) ⟨(0, ra, rc), _, ⟨rfl, rfl, trivial⟩, (by rw [List.take_zero, List.append_nil]; exact h_15), (by omega), rfl⟩ ?_
  rintro ⟨j, ra2, rc2⟩ m_34 J_35 w_32 ⟨h_33, hj, rfl⟩
  have ek : j < 8 → (UInt64.ofNat (8 * (7 - j))).toNat = 8 * (7 - j) := fun _ => nat64 (by omega)
  refine WP.seq (WP.seq (WP.reg ?_))
  refine qM (vi (7 - (j : Int))) rfl rfl (qV rfl (R.bin rfl rfl (bi_geq (r := decide ((7 - (j : Int) : Int) ≥ 0)) rfl)) ?_)
  refine WL.nil (thn_n ?_)
  refine WP.cond (b := decide ((7 - (j : Int) : Int) ≥ 0)) rfl (fun c_36 => ?_) (fun c_36 => ?_)
  ·have p_37 := of_decide_eq_true c_36
   refine WP.skip (thn_n (WP.seq (WP.block (WP.reg ?_))))
   refine qM (.slice ra2 (n + 1 + z + j) rc2) rfl rfl (qM (vu64 (UInt64.ofNat (n * 8))) rfl rfl (qV rfl (R.move (v := (vn (7 - j))) (congrArg vi (show (7 : Int) - (j : Int) = ((7 - j : Nat) : Int) by omega))) (qV rfl (R.bin rfl rfl (bi_mul (c := ((8 * (7 - j) : Nat) : Int)) (by omega) (by omega))) (qV rfl (R.conv (b := ((UInt64.ofNat (8 * (7 - j))) : UInt64).toNat) rfl underlying3 underlying168 (w64_nat (8 * (7 - j)))) (qV rfl (R.binR (v := vu64 (shr64 (UInt64.ofNat (n * 8)) ((UInt64.ofNat (8 * (7 - j))).toNat))) rfl rfl (run_shr64 _ _ _ (UInt64.ofNat (n * 8)) _ ((UInt64.ofNat (8 * (7 - j))).toNat))) (qV rfl (R.conv (b := ((UInt8.ofNat ((shr64 (UInt64.ofNat (n * 8)) ((UInt64.ofNat (8 * (7 - j))).toNat)).toNat)) : UInt8).toNat) rfl underlying27 underlying5 (w8_nat ((shr64 (UInt64.ofNat (n * 8)) ((UInt64.ofNat (8 * (7 - j))).toNat)).toNat))) ?_))))))
   refine WL.buildSl (vs := [(0, (vu8 (UInt8.ofNat ((shr64 (UInt64.ofNat (n * 8)) ((UInt64.ofNat (8 * (7 - j))).toNat)).toNat))))]) (cs := ([UInt8.ofNat ((shr64 (UInt64.ofNat (n * 8)) ((UInt64.ofNat (8 * (7 - j))).toNat)).toNat)] : List UInt8).map vu8) h_33 underlying88 sizeOf5 (zv typeInfo5 rfl) rfl rfl (by kernel_rfl) rfl (one_u8 _) rfl rfl (fun b_38 w_39 h_40 => ?_)
   refine WL.append (km := n + 1 + z + j + 1) (xs := (((bs ++ ([128] : List UInt8)) ++ List.replicate z (0 : UInt8)) ++ ((leN 8 (UInt64.ofNat (n * 8)).toNat).reverse).take j).map vu8) (ys := ([UInt8.ofNat ((shr64 (UInt64.ofNat (n * 8)) ((UInt64.ofNat (8 * (7 - j))).toNat)).toNat)] : List UInt8).map vu8) (zs := ((((bs ++ ([128] : List UInt8)) ++ List.replicate z (0 : UInt8)) ++ ((leN 8 (UInt64.ofNat (n * 8)).toNat).reverse).take j) ++ ([UInt8.ofNat ((shr64 (UInt64.ofNat (n * 8)) ((UInt64.ofNat (8 * (7 - j))).toNat)).toNat)] : List UInt8)).map vu8) h_40 rfl rfl el88 (viewB (h_40.ok _ M0) Sg.h) ((len_map (rfl : List.length ([UInt8.ofNat ((shr64 (UInt64.ofNat (n * 8)) ((UInt64.ofNat (8 * (7 - j))).toNat)).toNat)] : List UInt8) = 1)).trans (Nat.mul_one _).symm) (one_u8 _) (by simp only [List.map_append, List.map_nil]) (by omega) (by omega) (by omega) (fun _ _ => Y1) rfl (fun a_41 c_42 w_43 h_44 => ?_)
   refine qA (.slice a_41 (n + 1 + z + j + 1) c_42) rfl rfl ?_
   refine WL.nil (inb_n (thn_n (WP.reg ?_)))
   refine qM (vi (7 - (j : Int))) rfl rfl (qV rfl (R.bin rfl rfl (bi_sub (c := (7 - (j : Int)) - 1) (by omega) (by omega))) (qA (vi ((7 - (j : Int)) - 1)) rfl rfl ?_))
   refine WL.nil (thn_n ?_)
   have h_48 := (((h_44.drop rfl).up J2).up J2).up J2
   rw [ek (by omega), List.append_assoc, rev8_snoc (by omega)] at h_48
   exact ⟨(j + 1, a_41, c_42), _, (by omega), (Ag.upd rfl (U2 rfl rfl (U4 rfl rfl rfl rfl (U4 rfl rfl rfl rfl (U4 rfl rfl rfl rfl (Ag.updL rfl (Ag.mix _ _ _))))))), ⟨rfl, congrArg vi (by omega), trivial⟩, h_48, (by omega), rfl⟩
  ·have p_49 := of_decide_eq_false c_36
   refine WP.exit (thn_x (thn_x (inb_hit (thn_n (WP.seq (WP.reg ?_))))))
   refine qM (.slice ra2 (n + 1 + z + j) rc2) rfl rfl (qA (.slice ra2 (n + 1 + z + j) rc2) rfl rfl ?_)
   refine WL.nil (thn_n (WP.ret ?_))
   refine ret_of results124 (RV.tmp (v := (.slice ra2 (n + 1 + z + j) rc2)) rfl RV.nil) ?_
   have hj8 : j = 8 := by omega
   subst hj8
   have es := pad_R (z := z) hl hz2 (by omega)
   have hp2 := padded_len2 bs
   rw [hl] at hp2
   have el : n + 1 + z + 8 = (padded bs).length := by omega
   have hown := h_33.own M0
   rw [es, el] at hown
   exact ⟨_, _, by rw [el]; rfl, h_33.chgS, hown⟩
end Go.Proofs.YteclkcpdclimnaaGreat

namespace Go.Proofs.YteclkcpdclimnaaGreat
open Go.Proofs.Tryz
open Go.Vc Go.Sh Go.RowKit
set_option maxRecDepth 20000
theorem pl185 : ∀ fs, Tryz.prog.underlying 185 = some (.struct fs) → Places Tryz.prog fs [(0, 64), (64, 8), (72, 1), (73, 1), (74, 1)] := by
 intro fs h w; rw [underlying185] at h; cases h; simp
theorem c_New  (w : World) :
  Cs Tryz.prog 114 [].toArray w (fun v w1 => ∃ b, v = .pointer (some ⟨b, 0, none⟩) ∧ Chg w w1 [] ∧ w.heap.size ≤ b ∧ HashAt w.heap.size w1 b 185 []) := by
 refine Cs.of (n := 11) (args := []) Tryz.func114 rfl rfl rfl ?_
 have h_0 := HP.init w
 refine WP.seq (WP.reg ?_)
 refine qA (.pointer none) rfl rfl ?_
 refine WL.nil (thn_n (WP.seq (WP.reg ?_)))
 refine WL.call Tryz.call131 rfl rfl (c_tables  _ ) rfl ?_
 rintro _ w_2 ⟨rfl, hc_1⟩
 have h_3 := h_0.same hc_1
 refine qM (.tuple [(.agg ⟨kL.map vu32⟩), (.agg ⟨hL.map vu32⟩)].toArray) rfl rfl (qV rfl (R.extract rfl rfl) (qV rfl (R.extract rfl rfl) ?_))
 refine WL.alloc (segs := [(64, (zV 64).map vu32)]) h_3 (zv typeInfo181 rfl) rfl (sC (SOk.u32 lr) sN) rfl (fun b_4 w_5 h_6 => ?_)
 refine WL.alloc (segs := [(8, (zV 8).map vu32)]) h_6 (zv typeInfo170 rfl) rfl (sC (SOk.u32 lr) sN) rfl (fun b_7 w_8 h_9 => ?_)
 refine WL.storeA [] [(64, (zV 64).map vu32)] [(64, kL.map vu32)] [] h_9 rfl rfl sizeOf181 Y1 (by decide) rfl rfl rfl rfl rfl rfl (sC (SOk.u32 kL_len) sN) (fun w_10 h_11 => ?_)
 refine WL.storeA [] [(8, (zV 8).map vu32)] [(8, hL.map vu32)] [] h_11 rfl rfl sizeOf170 At.h (by decide) rfl rfl rfl rfl rfl rfl (sC (SOk.u32 hL_len) sN) (fun w_12 h_13 => ?_)
 refine WL.nil (thn_n (WP.seq (WP.reg ?_)))
 refine qV rfl (R.loadA [] [(64, kL.map vu32)] [] (cs := kL.map vu32) rfl isAgg181 sizeOf181 (h_13.ok _ M1) rfl rfl rfl rfl) (qV rfl (R.loadA [] [(8, hL.map vu32)] [] (cs := hL.map vu32) rfl isAgg170 sizeOf170 (h_13.ok _ M0) rfl rfl rfl rfl) (qV rfl (R.buildS (pl := [(0, 64), (64, 8), (72, 1), (73, 1), (74, 1)]) (zs := [(64, (zV 64).map vu32), (8, (zV 8).map vu32), (1, [(.slice none 0 0)]), (1, [(vi 0)]), (1, [(.bool false)])]) (vs := [(0, (.agg ⟨kL.map vu32⟩)), (1, (.agg ⟨hL.map vu32⟩)), (4, (.bool true))]) (out := [(64, kL.map vu32), (8, hL.map vu32), (1, [(.slice none 0 0)]), (1, [(vi 0)]), (1, [(.bool true)])]) underlying185 (zv typeInfo185 rfl) rfl (sC (SOk.u32 lr) (sC (SOk.u32 lr) (sC sV (sC sV (sC sV sN))))) (pl185 _ underlying185) rfl (FillR.cons [] [(64, (zV 64).map vu32)] [(64, kL.map vu32)] [(8, (zV 8).map vu32), (1, [(.slice none 0 0)]), (1, [(vi 0)]), (1, [(.bool false)])] rfl rfl rfl rfl (sC (SOk.u32 kL_len) sN) rfl rfl rfl (FillR.cons [(64, kL.map vu32)] [(8, (zV 8).map vu32)] [(8, hL.map vu32)] [(1, [(.slice none 0 0)]), (1, [(vi 0)]), (1, [(.bool false)])] rfl rfl rfl rfl (sC (SOk.u32 hL_len) sN) rfl rfl rfl (FillR.cons [(64, kL.map vu32), (8, hL.map vu32), (1, [(.slice none 0 0)]), (1, [(vi 0)])] [(1, [(.bool false)])] [(1, [(.bool true)])] [] rfl rfl rfl rfl (sC sV sN) rfl rfl rfl FillR.nil))) rfl) ?_))
 refine WL.box (segs := [(64, kL.map vu32), (8, hL.map vu32), (1, [(.slice none 0 0)]), (1, [(vi 0)]), (1, [(.bool true)])]) h_13 rfl rfl (sC (SOk.u32 kL_len) (sC (SOk.u32 hL_len) (sC sV (sC sV (sC sV sN))))) rfl (fun b_15 w_16 h_17 => ?_)
 refine qA (pO b_15 0) rfl rfl ?_
 refine WL.nil (thn_n (WP.ret ?_))
 refine ret_of results114 (RV.tmp (v := (pO b_15 0)) rfl RV.nil) ?_
 exact ⟨_, rfl, h_17.chgS, h_17.newB M0, none, 0, 0, h_17.cells M0, View.nil _ _, rfl, Nat.le_refl _, fun x hx => by cases hx⟩

theorem c_there_true (kk hh : List UInt32) (hkk : kk.length = 64) (hhl : hh.length = 8) (ra : Option Addr) (rn rc nn : Nat) (bc : Nat) (w : World) (hcb : (Ent.blk bc .ro 185 [(64, kk.map vu32), (8, hh.map vu32), (1, [(.slice ra rn rc)]), (1, [(vi ((nn : Nat) : Int))]), (1, [(.bool true)])]).ok w.heap.size w) :
  Cs Tryz.prog 132 [(.pointer (some ⟨bc, 0, none⟩))].toArray w (fun v w1 => v = (.bool true) ∧ Chg w w1 []) := by
 refine Cs.of (n := 11) (args := [(pO bc 0)]) Tryz.func132 rfl rfl rfl ?_
 have h_0 := HP.init w
 have h_00 := h_0.old hcb (fun f hf => by cases hf)
 refine WP.seq (WP.reg ?_)
 refine qA (.bool false) rfl rfl ?_
 refine WL.nil (thn_n (WP.seq (WP.reg ?_)))
 refine qM (pO bc 0) rfl rfl (qV rfl (R.neNilP rfl rfl underlying159) (qM (.bool true) rfl rfl ?_))
 refine WL.want rfl rfl ?_
 refine qM (pO bc 0) rfl rfl ?_
 refine WL.want rfl rfl ?_
 refine qV rfl (R.nilCheck rfl) ?_
 refine WL.want rfl rfl ?_
 refine qV rfl (R.fieldAddr (off' := 74) rfl underlying185 rfl sizeOf4 rfl rfl) ?_
 refine WL.want rfl rfl ?_
 refine qV rfl (R.load1 rfl isAgg4 (h_00.ok _ M0) (Sg.t rfl (Sg.t rfl (Sg.t rfl (Sg.t rfl Sg.h))))) (qV rfl (R.pickT (v := (.bool true)) rfl rfl) (qA (.bool true) rfl rfl ?_))
 refine WL.nil (thn_n (WP.ret ?_))
 refine ret_of results132 (RV.tmp (v := (.bool true)) rfl RV.nil) ?_
 exact ⟨rfl, h_00.chgS⟩

theorem c_Copy (mg : List UInt8) (ra : Option Addr) (rn rc : Nat) (hrn : (rsL mg).length = rn) (hrc : rn ≤ rc) (bc : Nat) (hm : mg.length ≤ 1000000000000) (w : World) (hvr : View w ra ((rsL mg).map vu8)) (hcb : (Ent.blk bc .ro 185 [(64, kL.map vu32), (8, (stH mg).map vu32), (1, [(.slice ra rn rc)]), (1, [(vi ((mg.length : Nat) : Int))]), (1, [(.bool true)])]).ok w.heap.size w) :
  Cs Tryz.prog 134 [(.pointer (some ⟨bc, 0, none⟩))].toArray w (fun v w1 => ∃ b, v = .pointer (some ⟨b, 0, none⟩) ∧ Chg w w1 [] ∧ w.heap.size ≤ b ∧ HashAt w.heap.size w1 b 185 mg) := by
 refine Cs.of (n := 16) (args := [(pO bc 0)]) Tryz.func134 rfl rfl rfl ?_
 have h_0 := HP.init w
 have h_01 := h_0.oldV (View.arg hvr) rfl (by simp [Ent.mut])
 have h_00 := h_01.oldV hcb rfl (by simp [Ent.mut])
 have hrl := rsL_len mg
 refine WP.seq (WP.reg ?_)
 refine qA (.pointer none) rfl rfl ?_
 refine WL.nil (thn_n (WP.seq (WP.seq (WP.reg ?_))))
 refine qM (pO bc 0) rfl rfl ?_
 refine WL.call Tryz.call132 rfl rfl (c_there_true kL (stH mg) kL_len (stH_len mg) ra rn rc mg.length bc _ (h_00.argR M0)) rfl ?_
 rintro _ w_2 ⟨rfl, hc_1⟩
 have h_3 := h_00.same hc_1
 refine qV rfl (R.not (b := true) rfl) ?_
 refine WL.nil (thn_n ?_)
 refine WP.condF rfl ?_
 refine WP.skip (thn_n (WP.seq (WP.reg ?_)))
 refine qM (pO bc 0) rfl rfl (qV rfl (R.nilCheck rfl) (qV rfl (R.loadA [] [(64, kL.map vu32), (8, (stH mg).map vu32), (1, [(.slice ra rn rc)]), (1, [(vn (mg.length))]), (1, [(.bool true)])] [] rfl isAgg185 sizeOf185 (h_3.ok _ M0) rfl rfl rfl rfl) ?_))
 refine WL.alloc (segs := [(64, (zV 64).map vu32), (8, (zV 8).map vu32), (1, [(.slice none 0 0)]), (1, [(vi 0)]), (1, [(.bool false)])]) h_3 (zv typeInfo185 rfl) rfl (sC (SOk.u32 lr) (sC (SOk.u32 lr) (sC sV (sC sV (sC sV sN))))) rfl (fun b_4 w_5 h_6 => ?_)
 refine WL.storeA [] [(64, (zV 64).map vu32), (8, (zV 8).map vu32), (1, [(.slice none 0 0)]), (1, [(vi 0)]), (1, [(.bool false)])] [(64, kL.map vu32), (8, (stH mg).map vu32), (1, [(.slice ra rn rc)]), (1, [(vn (mg.length))]), (1, [(.bool true)])] [] h_6 rfl rfl sizeOf185 At.h (by decide) rfl rfl rfl rfl rfl rfl (sC (SOk.u32 kL_len) (sC (SOk.u32 (stH_len mg)) (sC sV (sC sV (sC sV sN))))) (fun w_7 h_8 => ?_)
 refine WL.nil (thn_n (WP.seq (WP.reg ?_)))
 refine qM (pO bc 0) rfl rfl (qV rfl (R.nilCheck rfl) (qV rfl (R.fieldAddr (off' := 72) rfl underlying185 rfl sizeOf88 rfl rfl) (qV rfl (R.load1 rfl isAgg88 (h_8.ok _ M1) (Sg.t rfl (Sg.t rfl Sg.h))) ?_)))
 refine WL.call Tryz.call65 rfl rfl (c_Clone ra rn rc (rsL mg) hrn (by omega) _ (viewV (h_8.ok _ M2))) rfl ?_
 rintro _ w_11 ⟨a_9, cap_10, rfl, hc_12, ho_13⟩
 have h_14 := h_8.gotRow hc_12 ho_13
 refine qV rfl (R.fieldAddr (off' := 72) rfl underlying185 rfl sizeOf88 rfl rfl) ?_
 refine WL.store1 h_14 rfl rfl sizeOf88 rfl Y1 (by decide) (Sg.t rfl (Sg.t rfl Sg.h)) (fun w_15 h_16 => ?_)
 refine WL.nil (thn_n (WP.seq (WP.reg ?_)))
 refine qA (pO b_4 0) rfl rfl ?_
 refine WL.nil (thn_n (WP.ret ?_))
 refine ret_of results134 (RV.tmp (v := (pO b_4 0)) rfl RV.nil) ?_
 exact ⟨_, rfl, h_16.chgS, h_16.newB M1, _, _, _, h_16.cells M1, Own.view (h_16.own M0), hrn, (h_16.own M0).2.2.1, fun x hx => ⟨Own.blk (h_16.own M0) x hx, Sep_offRow (h_16.ne (i := 0) (j := 1) rfl rfl rfl) x hx⟩⟩

theorem c_Write (mg : List UInt8) (ra : Option Addr) (rn rc : Nat) (hrn : (rsL mg).length = rn) (hrc : rn ≤ rc) (bc : Nat) (hm : mg.length ≤ 1000000000000) (a : Option Addr) (n cap : Nat) (bs : List UInt8) (hl : bs.length = n) (hn : n ≤ 1000000000000) (hcap : n ≤ cap) (w : World) (hvr : View w ra ((rsL mg).map vu8)) (hv : View w a (bs.map vu8)) (hcb : (Ent.blk bc .ar 185 [(64, kL.map vu32), (8, (stH mg).map vu32), (1, [(.slice ra rn rc)]), (1, [(vi ((mg.length : Nat) : Int))]), (1, [(.bool true)])]).ok w.heap.size w) (ho1 : ∀ x ∈ (Ent.view ra ((rsL mg).map vu8)).blocks, x ≠ bc) (ho2 : ∀ x ∈ (Ent.view a (bs.map vu8)).blocks, x ≠ bc) :
  Cs Tryz.prog 115 [(.pointer (some ⟨bc, 0, none⟩)), (.slice a n cap)].toArray w (fun v w1 => v = vi 0 ∧ Chg w w1 [bc] ∧ HashAt w.heap.size w1 bc 185 (mg ++ bs)) := by
 refine Cs.of (n := 58) (args := [(pO bc 0), (.slice a n cap)]) Tryz.func115 rfl rfl rfl ?_
 have h_0 := HP.init w
 have h_00 := HP_three hcb hvr hv ho1 ho2
 have hrl := rsL_len mg
 refine WP.seq (WP.reg ?_)
 refine qA (vi 0) rfl rfl ?_
 refine WL.nil (thn_n (WP.seq (WP.seq (WP.reg ?_))))
 refine qM (pO bc 0) rfl rfl ?_
 refine WL.call Tryz.call132 rfl rfl (c_there_true kL (stH mg) kL_len (stH_len mg) ra rn rc mg.length bc _ (h_00.argR M0)) rfl ?_
 rintro _ w_2 ⟨rfl, hc_1⟩
 have h_3 := h_00.same hc_1
 refine qV rfl (R.not (b := true) rfl) ?_
 refine WL.nil (thn_n ?_)
 refine WP.condF rfl ?_
 refine WP.skip (thn_n (WP.seq (WP.reg ?_)))
 refine qM (pO bc 0) rfl rfl (qV rfl (R.nilCheck rfl) (qV rfl (R.fieldAddr (off' := 73) rfl underlying185 rfl sizeOf3 rfl rfl) (qV rfl (R.load1 rfl isAgg3 (h_3.ok _ M0) (Sg.t rfl (Sg.t rfl (Sg.t rfl Sg.h)))) (qM (.slice a n cap) rfl rfl (qV rfl (R.lenS (a := a) (m := n) rfl rfl underlying88) (qV rfl (R.bin rfl rfl (bi_add (c := ((mg.length + n : Nat) : Int)) (by omega) (by omega))) (qV rfl (R.nilCheck rfl) (qV rfl (R.fieldAddr (off' := 73) rfl underlying185 rfl sizeOf3 rfl rfl) ?_))))))))
 refine WL.store1 h_3 rfl rfl sizeOf3 rfl At.h (by decide) (Sg.t rfl (Sg.t rfl (Sg.t rfl Sg.h))) (fun w_4 h_5 => ?_)
 refine WL.nil (thn_n (WP.seq (WP.reg ?_)))
 refine qM (pO bc 0) rfl rfl (qM (pO bc 0) rfl rfl (qV rfl (R.nilCheck rfl) (qV rfl (R.fieldAddr (off' := 72) rfl underlying185 rfl sizeOf88 rfl rfl) (qV rfl (R.load1 rfl isAgg88 (h_5.ok _ M0) (Sg.t rfl (Sg.t rfl Sg.h))) (qM (.slice a n cap) rfl rfl ?_)))))
 refine WL.buildSl (vs := [(0, (.slice ra rn rc)), (1, (.slice a n cap))]) (cs := [(.slice ra rn rc), (.slice a n cap)]) h_5 underlying128 sizeOf88 (zv typeInfo88 rfl) rfl rfl (by kernel_rfl) rfl (by simp [Value.oneCell']) rfl rfl (fun b_6 w_7 h_8 => ?_)
 refine WL.call Tryz.call118 rfl rfl (c_Concat (some ⟨b_6, 0, none⟩) 2 2 [(.slice ra rn rc), (.slice a n cap)] [rsL mg, bs] rfl (by rw [wr_r, List.length_drop, List.length_append]; omega) (by omega) _ (viewB (h_8.ok _ M0) Sg.h) (Sls.cons hrn (by omega) (viewV (h_8.ok _ M2)) (Sls.cons hl (by omega) (viewV (h_8.ok _ M3)) Sls.nil))) rfl ?_
 rintro _ w_11 ⟨a_9, cap_10, rfl, hc_12, ho_13⟩
 have h_14 := h_8.gotRow hc_12 ho_13
 refine qV rfl (R.nilCheck rfl) (qV rfl (R.fieldAddr (off' := 72) rfl underlying185 rfl sizeOf88 rfl rfl) ?_)
 refine WL.store1 h_14 rfl rfl sizeOf88 rfl Y2 (by decide) (Sg.t rfl (Sg.t rfl Sg.h)) (fun w_15 h_16 => ?_)
 refine WL.nil (thn_n (WP.seq (WP.block ?_)))
 have hf_18 := Own.blk (h_16.own M0)
 have hq_19 := (h_16.own M0).2.2.1
 have h_17 := h_16.rowView
 have h_26 := ((((((h_17.up J1).drop rfl).up J2).drop rfl).up J2).up J1).up J2
 have hbl : (mg ++ bs).length = mg.length + n := by rw [List.length_append, hl]
 rw [wr_0 mg bs, wr_r mg bs] at h_26
 rw [wr_r mg bs] at hf_18 hq_19
 refine WP.loopG (G := Nat × Option Addr × Nat × Nat) [27, 28, 29, 30, 31, 32, 33, 34, 35, 36, 37, 38, 39, 40, 41, 42, 43, 44, 45, 46, 47, 48, 49, 50, 51, 52, 53, 54, 55, 56, 57] (fun (k, xa, xn, xc) => []) (fun (k, xa, xn, xc) m w1 => HP w w1 [.blk bc .ar 185 [(64, kL.map vu32), (8, (hs kL hL (mg ++ bs) k).map vu32), (1, [(.slice xa xn xc)]), (1, [(vn (mg.length + n))]), (1, [(.bool true)])], .view xa (((mg ++ bs).drop (64 * k)).map vu8), .view a (bs.map vu8)] ∧ (((mg ++ bs).drop (64 * k)).length = xn) ∧ (xn ≤ xc) ∧ (64 * k ≤ mg.length + n) ∧ (∀ b ∈ (Ent.view xa (((mg ++ bs).drop (64 * k)).map vu8)).blocks, w.heap.size ≤ b) ∧ m = mg.length + n - 64 * k) ⟨(mg.length / 64, a_9, _, _), _, trivial, h_26, rfl, hq_19, (by omega), hf_18, rfl⟩ ?_
 rintro ⟨k, xa, xn, xc⟩ m_29 J_30 w_27 ⟨h_28, hxn, hxc, hk, hxf, rfl⟩
 have hdl : xn = mg.length + n - 64 * k := by rw [← hxn, List.length_drop, hbl]
 refine WP.seq (WP.seq (WP.reg ?_))
 refine qM (pO bc 0) rfl rfl (qV rfl (R.nilCheck rfl) (qV rfl (R.fieldAddr (off' := 72) rfl underlying185 rfl sizeOf88 rfl rfl) (qV rfl (R.load1 rfl isAgg88 (h_28.ok _ M0) (Sg.t rfl (Sg.t rfl Sg.h))) (qV rfl (R.lenS (a := xa) (m := xn) rfl rfl underlying88) (qV rfl (R.bin rfl rfl (bi_geq (r := decide ((((xn : Nat) : Int) : Int) ≥ 64)) rfl)) ?_)))))
 refine WL.nil (thn_n ?_)
 refine WP.cond (b := decide ((((xn : Nat) : Int) : Int) ≥ 64)) rfl (fun c_31 => ?_) (fun c_31 => ?_)
 ·have p_32 := of_decide_eq_true c_31
  refine WP.skip (thn_n (WP.block (WP.seq ?_)))
  refine WP.cutG (G := Unit) [33, 34, 35, 36, 37, 38, 39, 40, 41, 42, 43, 44, 45, 46, 47, 48, 49] (fun _ => [(33, (pO bc 0)), (34, (pO bc 0)), (35, (pO bc 0)), (36, (pO bc 64)), (38, (pO bc 0)), (39, (pO bc 0)), (40, (pO bc 72)), (43, (pO bc 0)), (44, (pO bc 0)), (45, (pO bc 0)), (37, (.agg ⟨(hs kL hL (mg ++ bs) k).map vu32⟩)), (41, (.slice xa xn xc)), (42, (.slice (slA xa 0 xc 1) 64 xc)), (46, (.agg ⟨kL.map vu32⟩)), (47, (.agg ⟨(pressL kL (hs kL hL (mg ++ bs) k) ((((mg ++ bs).drop (64 * k)).drop 0).take 64)).map vu32⟩)), (48, (pO bc 0)), (49, (pO bc 64))]) (fun _ w1 => HP w w1 [.blk bc .ar 185 [(64, kL.map vu32), (8, (pressL kL (hs kL hL (mg ++ bs) k) ((((mg ++ bs).drop (64 * k)).drop 0).take 64)).map vu32), (1, [(.slice xa xn xc)]), (1, [(vn (mg.length + n))]), (1, [(.bool true)])], .view xa (((mg ++ bs).drop (64 * k)).map vu8), .view a (bs.map vu8)]) ?_ ?_
  ·refine WP.drawT (SL w.heap.size [.view xa (((mg ++ bs).drop (64 * k)).map vu8), .view a (bs.map vu8)]) (.q 0 (.q 1 (.q 2 (.q 3 (.q 5 (.q 6 (.q 7 (.q 10 (.q 11 (.q 12 (.s3 4 8 13 (.s2 8 13 (.q 9 (.s 13 (.s 14 (.q 15 (.q 16 (.s 17 .nil)))))) (.s 8 (.q 9 (.s 14 (.q 15 (.q 16 (.s 17 .nil))))))) (.q 9 (.s2 4 13 (.s 13 (.s 14 (.q 15 (.q 16 (.s 17 .nil))))) (.s 4 (.s 14 (.q 15 (.q 16 (.s 17 .nil))))))) (.s2 4 8 (.s 8 (.q 9 (.s 14 (.q 15 (.q 16 (.s 17 .nil)))))) (.q 9 (.s 4 (.s 14 (.q 15 (.q 16 (.s 17 .nil)))))))))))))))))) (by kernel_rfl) (by kernel_rfl) rfl (by kernel_rfl) (fun w_33 hc_35 => (SL.cons ((h_28.same hc_35).ok _ M1) (SL.cons ((h_28.same hc_35).ok _ M2) (SL.nil _ _)))) (fun w_33 hc_35 => ?_)
   have h_34 := h_28.same hc_35
   refine qT rfl rfl (fun wq hS => R.move (v := (pO bc 0)) rfl) ?_
   refine qT rfl rfl (fun wq hS => R.move (v := (pO bc 0)) rfl) ?_
   refine qT rfl rfl (fun wq hS => R.nilCheck rfl) ?_
   refine qT rfl rfl (fun wq hS => R.fieldAddr (off' := 64) rfl underlying185 rfl sizeOf170 rfl rfl) ?_
   refine qT rfl rfl (fun wq hS => R.move (v := (pO bc 0)) rfl) ?_
   refine qT rfl rfl (fun wq hS => R.nilCheck rfl) ?_
   refine qT rfl rfl (fun wq hS => R.fieldAddr (off' := 72) rfl underlying185 rfl sizeOf88 rfl rfl) ?_
   refine qT rfl rfl (fun wq hS => R.move (v := (pO bc 0)) rfl) ?_
   refine qT rfl rfl (fun wq hS => R.nilCheck rfl) ?_
   refine qT rfl rfl (fun wq hS => R.fieldAddr (off' := 0) rfl underlying185 rfl sizeOf181 rfl rfl) ?_
   refine WT.s3 ?_ ?_ ?_
   ·refine oN rfl ?_
    refine qV rfl (R.loadA [(64, kL.map vu32)] [(8, (hs kL hL (mg ++ bs) k).map vu32)] [(1, [(.slice xa xn xc)]), (1, [(vn (mg.length + n))]), (1, [(.bool true)])] (cs := (hs kL hL (mg ++ bs) k).map vu32) rfl isAgg170 sizeOf170 (h_34.ok _ M0) rfl rfl rfl rfl) ?_
    refine WL.nil ?_
    refine ⟨(N1_2 h_34.ok), ?_⟩
    refine WT.s2 ?_ ?_
    ·refine oN rfl ?_
     refine qV rfl (R.load1 rfl isAgg88 (h_34.ok _ M0) (Sg.t rfl (Sg.t rfl Sg.h))) ?_
     refine WL.nil ?_
     refine ⟨(N1_2 h_34.ok), ?_⟩
     refine qT rfl rfl (fun wq hS => R.sliceS (a := xa) (len := xn) (l := 0) (h := 64) rfl EvB.dflt (EvB.it (l := 64) rfl rfl) (by decide) (by omega) underlying88 sizeOf5) ?_
     refine WT.s (oN rfl ?_)
     refine qV rfl (R.loadA [] [(64, kL.map vu32)] [(8, (hs kL hL (mg ++ bs) k).map vu32), (1, [(.slice xa xn xc)]), (1, [(vn (mg.length + n))]), (1, [(.bool true)])] (cs := kL.map vu32) rfl isAgg181 sizeOf181 (h_34.ok _ M0) rfl rfl rfl rfl) ?_
     refine WL.nil ?_
     refine ⟨(N1_2 h_34.ok), ?_⟩
     refine WT.s (oN rfl ?_)
     refine WL.call Tryz.call133 rfl rfl (c_press (hs kL hL (mg ++ bs) k) kL (hs_len hL_len k) kL_len (slA xa 0 xc 1) xc ((((mg ++ bs).drop (64 * k)).drop 0).take 64) (subLen (K := xn) hxn (by omega) : List.length ((((mg ++ bs).drop (64 * k)).drop 0).take 64) = 64) (by omega) _ (View.slM (l := 0) (m := xc) (k := 64) (viewV (h_34.ok _ M1)) (by omega))) rfl ?_
     rintro _ w_37 ⟨rfl, hc_36⟩
     have h_38 := h_34.same hc_36
     refine WL.nil ?_
     refine ⟨(N1_2 h_38.ok), ?_⟩
     refine qT rfl rfl (fun wq hS => R.nilCheck rfl) ?_
     refine qT rfl rfl (fun wq hS => R.fieldAddr (off' := 64) rfl underlying185 rfl sizeOf170 rfl rfl) ?_
     refine WT.s (oN rfl ?_)
     refine WL.storeA [(64, kL.map vu32)] [(8, (hs kL hL (mg ++ bs) k).map vu32)] [(8, (pressL kL (hs kL hL (mg ++ bs) k) ((((mg ++ bs).drop (64 * k)).drop 0).take 64)).map vu32)] [(1, [(.slice xa xn xc)]), (1, [(vn (mg.length + n))]), (1, [(.bool true)])] h_38 rfl rfl sizeOf170 At.h (by decide) rfl rfl rfl rfl rfl rfl (sC (SOk.u32 (pressL_len ..)) sN) (fun w_39 h_40 => ?_)
     refine WL.nil ?_
     refine ⟨(N1_2 h_40.ok), ?_⟩
     refine WT.nil (thn_n ?_)
     exact ⟨(), (Ag.upd rfl (U4 rfl rfl rfl rfl (U4 rfl rfl rfl rfl (U4 rfl rfl rfl rfl (U4 rfl rfl rfl rfl (Ag.refl _ _)))))), ⟨rfl, rfl, rfl, rfl, rfl, rfl, rfl, rfl, rfl, rfl, rfl, rfl, rfl, rfl, rfl, rfl, rfl, trivial⟩, h_40⟩
    ·refine oN rfl ?_
     refine qV rfl (R.loadA [] [(64, kL.map vu32)] [(8, (hs kL hL (mg ++ bs) k).map vu32), (1, [(.slice xa xn xc)]), (1, [(vn (mg.length + n))]), (1, [(.bool true)])] (cs := kL.map vu32) rfl isAgg181 sizeOf181 (h_34.ok _ M0) rfl rfl rfl rfl) ?_
     refine WL.nil ?_
     refine ⟨(N1_2 h_34.ok), ?_⟩
     refine WT.s (oN rfl ?_)
     refine qV rfl (R.load1 rfl isAgg88 (h_34.ok _ M0) (Sg.t rfl (Sg.t rfl Sg.h))) ?_
     refine WL.nil ?_
     refine ⟨(N1_2 h_34.ok), ?_⟩
     refine qT rfl rfl (fun wq hS => R.sliceS (a := xa) (len := xn) (l := 0) (h := 64) rfl EvB.dflt (EvB.it (l := 64) rfl rfl) (by decide) (by omega) underlying88 sizeOf5) ?_
     refine WT.s (oN rfl ?_)
     refine WL.call Tryz.call133 rfl rfl (c_press (hs kL hL (mg ++ bs) k) kL (hs_len hL_len k) kL_len (slA xa 0 xc 1) xc ((((mg ++ bs).drop (64 * k)).drop 0).take 64) (subLen (K := xn) hxn (by omega) : List.length ((((mg ++ bs).drop (64 * k)).drop 0).take 64) = 64) (by omega) _ (View.slM (l := 0) (m := xc) (k := 64) (viewV (h_34.ok _ M1)) (by omega))) rfl ?_
     rintro _ w_42 ⟨rfl, hc_41⟩
     have h_43 := h_34.same hc_41
     refine WL.nil ?_
     refine ⟨(N1_2 h_43.ok), ?_⟩
     refine qT rfl rfl (fun wq hS => R.nilCheck rfl) ?_
     refine qT rfl rfl (fun wq hS => R.fieldAddr (off' := 64) rfl underlying185 rfl sizeOf170 rfl rfl) ?_
     refine WT.s (oN rfl ?_)
     refine WL.storeA [(64, kL.map vu32)] [(8, (hs kL hL (mg ++ bs) k).map vu32)] [(8, (pressL kL (hs kL hL (mg ++ bs) k) ((((mg ++ bs).drop (64 * k)).drop 0).take 64)).map vu32)] [(1, [(.slice xa xn xc)]), (1, [(vn (mg.length + n))]), (1, [(.bool true)])] h_43 rfl rfl sizeOf170 At.h (by decide) rfl rfl rfl rfl rfl rfl (sC (SOk.u32 (pressL_len ..)) sN) (fun w_44 h_45 => ?_)
     refine WL.nil ?_
     refine ⟨(N1_2 h_45.ok), ?_⟩
     refine WT.nil (thn_n ?_)
     exact ⟨(), (Ag.upd rfl (U4 rfl rfl rfl rfl (U4 rfl rfl rfl rfl (U4 rfl rfl rfl rfl (U4 rfl rfl rfl rfl (Ag.refl _ _)))))), ⟨rfl, rfl, rfl, rfl, rfl, rfl, rfl, rfl, rfl, rfl, rfl, rfl, rfl, rfl, rfl, rfl, rfl, trivial⟩, h_45⟩
   ·refine oN rfl ?_
    refine qV rfl (R.load1 rfl isAgg88 (h_34.ok _ M0) (Sg.t rfl (Sg.t rfl Sg.h))) ?_
    refine WL.nil ?_
    refine ⟨(N1_2 h_34.ok), ?_⟩
    refine qT rfl rfl (fun wq hS => R.sliceS (a := xa) (len := xn) (l := 0) (h := 64) rfl EvB.dflt (EvB.it (l := 64) rfl rfl) (by decide) (by omega) underlying88 sizeOf5) ?_
    refine WT.s2 ?_ ?_
    ·refine oN rfl ?_
     refine qV rfl (R.loadA [(64, kL.map vu32)] [(8, (hs kL hL (mg ++ bs) k).map vu32)] [(1, [(.slice xa xn xc)]), (1, [(vn (mg.length + n))]), (1, [(.bool true)])] (cs := (hs kL hL (mg ++ bs) k).map vu32) rfl isAgg170 sizeOf170 (h_34.ok _ M0) rfl rfl rfl rfl) ?_
     refine WL.nil ?_
     refine ⟨(N1_2 h_34.ok), ?_⟩
     refine WT.s (oN rfl ?_)
     refine qV rfl (R.loadA [] [(64, kL.map vu32)] [(8, (hs kL hL (mg ++ bs) k).map vu32), (1, [(.slice xa xn xc)]), (1, [(vn (mg.length + n))]), (1, [(.bool true)])] (cs := kL.map vu32) rfl isAgg181 sizeOf181 (h_34.ok _ M0) rfl rfl rfl rfl) ?_
     refine WL.nil ?_
     refine ⟨(N1_2 h_34.ok), ?_⟩
     refine WT.s (oN rfl ?_)
     refine WL.call Tryz.call133 rfl rfl (c_press (hs kL hL (mg ++ bs) k) kL (hs_len hL_len k) kL_len (slA xa 0 xc 1) xc ((((mg ++ bs).drop (64 * k)).drop 0).take 64) (subLen (K := xn) hxn (by omega) : List.length ((((mg ++ bs).drop (64 * k)).drop 0).take 64) = 64) (by omega) _ (View.slM (l := 0) (m := xc) (k := 64) (viewV (h_34.ok _ M1)) (by omega))) rfl ?_
     rintro _ w_47 ⟨rfl, hc_46⟩
     have h_48 := h_34.same hc_46
     refine WL.nil ?_
     refine ⟨(N1_2 h_48.ok), ?_⟩
     refine qT rfl rfl (fun wq hS => R.nilCheck rfl) ?_
     refine qT rfl rfl (fun wq hS => R.fieldAddr (off' := 64) rfl underlying185 rfl sizeOf170 rfl rfl) ?_
     refine WT.s (oN rfl ?_)
     refine WL.storeA [(64, kL.map vu32)] [(8, (hs kL hL (mg ++ bs) k).map vu32)] [(8, (pressL kL (hs kL hL (mg ++ bs) k) ((((mg ++ bs).drop (64 * k)).drop 0).take 64)).map vu32)] [(1, [(.slice xa xn xc)]), (1, [(vn (mg.length + n))]), (1, [(.bool true)])] h_48 rfl rfl sizeOf170 At.h (by decide) rfl rfl rfl rfl rfl rfl (sC (SOk.u32 (pressL_len ..)) sN) (fun w_49 h_50 => ?_)
     refine WL.nil ?_
     refine ⟨(N1_2 h_50.ok), ?_⟩
     refine WT.nil (thn_n ?_)
     exact ⟨(), (Ag.upd rfl (U4 rfl rfl rfl rfl (U4 rfl rfl rfl rfl (U4 rfl rfl rfl rfl (U4 rfl rfl rfl rfl (Ag.refl _ _)))))), ⟨rfl, rfl, rfl, rfl, rfl, rfl, rfl, rfl, rfl, rfl, rfl, rfl, rfl, rfl, rfl, rfl, rfl, trivial⟩, h_50⟩
    ·refine oN rfl ?_
     refine qV rfl (R.loadA [] [(64, kL.map vu32)] [(8, (hs kL hL (mg ++ bs) k).map vu32), (1, [(.slice xa xn xc)]), (1, [(vn (mg.length + n))]), (1, [(.bool true)])] (cs := kL.map vu32) rfl isAgg181 sizeOf181 (h_34.ok _ M0) rfl rfl rfl rfl) ?_
     refine WL.nil ?_
     refine ⟨(N1_2 h_34.ok), ?_⟩
     refine WT.s (oN rfl ?_)
     refine qV rfl (R.loadA [(64, kL.map vu32)] [(8, (hs kL hL (mg ++ bs) k).map vu32)] [(1, [(.slice xa xn xc)]), (1, [(vn (mg.length + n))]), (1, [(.bool true)])] (cs := (hs kL hL (mg ++ bs) k).map vu32) rfl isAgg170 sizeOf170 (h_34.ok _ M0) rfl rfl rfl rfl) ?_
     refine WL.nil ?_
     refine ⟨(N1_2 h_34.ok), ?_⟩
     refine WT.s (oN rfl ?_)
     refine WL.call Tryz.call133 rfl rfl (c_press (hs kL hL (mg ++ bs) k) kL (hs_len hL_len k) kL_len (slA xa 0 xc 1) xc ((((mg ++ bs).drop (64 * k)).drop 0).take 64) (subLen (K := xn) hxn (by omega) : List.length ((((mg ++ bs).drop (64 * k)).drop 0).take 64) = 64) (by omega) _ (View.slM (l := 0) (m := xc) (k := 64) (viewV (h_34.ok _ M1)) (by omega))) rfl ?_
     rintro _ w_52 ⟨rfl, hc_51⟩
     have h_53 := h_34.same hc_51
     refine WL.nil ?_
     refine ⟨(N1_2 h_53.ok), ?_⟩
     refine qT rfl rfl (fun wq hS => R.nilCheck rfl) ?_
     refine qT rfl rfl (fun wq hS => R.fieldAddr (off' := 64) rfl underlying185 rfl sizeOf170 rfl rfl) ?_
     refine WT.s (oN rfl ?_)
     refine WL.storeA [(64, kL.map vu32)] [(8, (hs kL hL (mg ++ bs) k).map vu32)] [(8, (pressL kL (hs kL hL (mg ++ bs) k) ((((mg ++ bs).drop (64 * k)).drop 0).take 64)).map vu32)] [(1, [(.slice xa xn xc)]), (1, [(vn (mg.length + n))]), (1, [(.bool true)])] h_53 rfl rfl sizeOf170 At.h (by decide) rfl rfl rfl rfl rfl rfl (sC (SOk.u32 (pressL_len ..)) sN) (fun w_54 h_55 => ?_)
     refine WL.nil ?_
     refine ⟨(N1_2 h_55.ok), ?_⟩
     refine WT.nil (thn_n ?_)
     exact ⟨(), (Ag.upd rfl (U4 rfl rfl rfl rfl (U4 rfl rfl rfl rfl (U4 rfl rfl rfl rfl (U4 rfl rfl rfl rfl (Ag.refl _ _)))))), ⟨rfl, rfl, rfl, rfl, rfl, rfl, rfl, rfl, rfl, rfl, rfl, rfl, rfl, rfl, rfl, rfl, rfl, trivial⟩, h_55⟩
   ·refine oN rfl ?_
    refine qV rfl (R.loadA [] [(64, kL.map vu32)] [(8, (hs kL hL (mg ++ bs) k).map vu32), (1, [(.slice xa xn xc)]), (1, [(vn (mg.length + n))]), (1, [(.bool true)])] (cs := kL.map vu32) rfl isAgg181 sizeOf181 (h_34.ok _ M0) rfl rfl rfl rfl) ?_
    refine WL.nil ?_
    refine ⟨(N1_2 h_34.ok), ?_⟩
    refine WT.s2 ?_ ?_
    ·refine oN rfl ?_
     refine qV rfl (R.loadA [(64, kL.map vu32)] [(8, (hs kL hL (mg ++ bs) k).map vu32)] [(1, [(.slice xa xn xc)]), (1, [(vn (mg.length + n))]), (1, [(.bool true)])] (cs := (hs kL hL (mg ++ bs) k).map vu32) rfl isAgg170 sizeOf170 (h_34.ok _ M0) rfl rfl rfl rfl) ?_
     refine WL.nil ?_
     refine ⟨(N1_2 h_34.ok), ?_⟩
     refine WT.s (oN rfl ?_)
     refine qV rfl (R.load1 rfl isAgg88 (h_34.ok _ M0) (Sg.t rfl (Sg.t rfl Sg.h))) ?_
     refine WL.nil ?_
     refine ⟨(N1_2 h_34.ok), ?_⟩
     refine qT rfl rfl (fun wq hS => R.sliceS (a := xa) (len := xn) (l := 0) (h := 64) rfl EvB.dflt (EvB.it (l := 64) rfl rfl) (by decide) (by omega) underlying88 sizeOf5) ?_
     refine WT.s (oN rfl ?_)
     refine WL.call Tryz.call133 rfl rfl (c_press (hs kL hL (mg ++ bs) k) kL (hs_len hL_len k) kL_len (slA xa 0 xc 1) xc ((((mg ++ bs).drop (64 * k)).drop 0).take 64) (subLen (K := xn) hxn (by omega) : List.length ((((mg ++ bs).drop (64 * k)).drop 0).take 64) = 64) (by omega) _ (View.slM (l := 0) (m := xc) (k := 64) (viewV (h_34.ok _ M1)) (by omega))) rfl ?_
     rintro _ w_57 ⟨rfl, hc_56⟩
     have h_58 := h_34.same hc_56
     refine WL.nil ?_
     refine ⟨(N1_2 h_58.ok), ?_⟩
     refine qT rfl rfl (fun wq hS => R.nilCheck rfl) ?_
     refine qT rfl rfl (fun wq hS => R.fieldAddr (off' := 64) rfl underlying185 rfl sizeOf170 rfl rfl) ?_
     refine WT.s (oN rfl ?_)
     refine WL.storeA [(64, kL.map vu32)] [(8, (hs kL hL (mg ++ bs) k).map vu32)] [(8, (pressL kL (hs kL hL (mg ++ bs) k) ((((mg ++ bs).drop (64 * k)).drop 0).take 64)).map vu32)] [(1, [(.slice xa xn xc)]), (1, [(vn (mg.length + n))]), (1, [(.bool true)])] h_58 rfl rfl sizeOf170 At.h (by decide) rfl rfl rfl rfl rfl rfl (sC (SOk.u32 (pressL_len ..)) sN) (fun w_59 h_60 => ?_)
     refine WL.nil ?_
     refine ⟨(N1_2 h_60.ok), ?_⟩
     refine WT.nil (thn_n ?_)
     exact ⟨(), (Ag.upd rfl (U4 rfl rfl rfl rfl (U4 rfl rfl rfl rfl (U4 rfl rfl rfl rfl (U4 rfl rfl rfl rfl (Ag.refl _ _)))))), ⟨rfl, rfl, rfl, rfl, rfl, rfl, rfl, rfl, rfl, rfl, rfl, rfl, rfl, rfl, rfl, rfl, rfl, trivial⟩, h_60⟩
    ·refine oN rfl ?_
     refine qV rfl (R.load1 rfl isAgg88 (h_34.ok _ M0) (Sg.t rfl (Sg.t rfl Sg.h))) ?_
     refine WL.nil ?_
     refine ⟨(N1_2 h_34.ok), ?_⟩
     refine qT rfl rfl (fun wq hS => R.sliceS (a := xa) (len := xn) (l := 0) (h := 64) rfl EvB.dflt (EvB.it (l := 64) rfl rfl) (by decide) (by omega) underlying88 sizeOf5) ?_
     refine WT.s (oN rfl ?_)
     refine qV rfl (R.loadA [(64, kL.map vu32)] [(8, (hs kL hL (mg ++ bs) k).map vu32)] [(1, [(.slice xa xn xc)]), (1, [(vn (mg.length + n))]), (1, [(.bool true)])] (cs := (hs kL hL (mg ++ bs) k).map vu32) rfl isAgg170 sizeOf170 (h_34.ok _ M0) rfl rfl rfl rfl) ?_
     refine WL.nil ?_
     refine ⟨(N1_2 h_34.ok), ?_⟩
     refine WT.s (oN rfl ?_)
     refine WL.call Tryz.call133 rfl rfl (c_press (hs kL hL (mg ++ bs) k) kL (hs_len hL_len k) kL_len (slA xa 0 xc 1) xc ((((mg ++ bs).drop (64 * k)).drop 0).take 64) (subLen (K := xn) hxn (by omega) : List.length ((((mg ++ bs).drop (64 * k)).drop 0).take 64) = 64) (by omega) _ (View.slM (l := 0) (m := xc) (k := 64) (viewV (h_34.ok _ M1)) (by omega))) rfl ?_
     rintro _ w_62 ⟨rfl, hc_61⟩
     have h_63 := h_34.same hc_61
     refine WL.nil ?_
     refine ⟨(N1_2 h_63.ok), ?_⟩
     refine qT rfl rfl (fun wq hS => R.nilCheck rfl) ?_
     refine qT rfl rfl (fun wq hS => R.fieldAddr (off' := 64) rfl underlying185 rfl sizeOf170 rfl rfl) ?_
     refine WT.s (oN rfl ?_)
     refine WL.storeA [(64, kL.map vu32)] [(8, (hs kL hL (mg ++ bs) k).map vu32)] [(8, (pressL kL (hs kL hL (mg ++ bs) k) ((((mg ++ bs).drop (64 * k)).drop 0).take 64)).map vu32)] [(1, [(.slice xa xn xc)]), (1, [(vn (mg.length + n))]), (1, [(.bool true)])] h_63 rfl rfl sizeOf170 At.h (by decide) rfl rfl rfl rfl rfl rfl (sC (SOk.u32 (pressL_len ..)) sN) (fun w_64 h_65 => ?_)
     refine WL.nil ?_
     refine ⟨(N1_2 h_65.ok), ?_⟩
     refine WT.nil (thn_n ?_)
     exact ⟨(), (Ag.upd rfl (U4 rfl rfl rfl rfl (U4 rfl rfl rfl rfl (U4 rfl rfl rfl rfl (U4 rfl rfl rfl rfl (Ag.refl _ _)))))), ⟨rfl, rfl, rfl, rfl, rfl, rfl, rfl, rfl, rfl, rfl, rfl, rfl, rfl, rfl, rfl, rfl, rfl, trivial⟩, h_65⟩
  ·rintro _ J_66 w_67 h_68
   refine thn_n (WP.reg ?_)
   refine qM (pO bc 0) rfl rfl (qM (pO bc 0) rfl rfl (qV rfl (R.nilCheck rfl) (qV rfl (R.fieldAddr (off' := 72) rfl underlying185 rfl sizeOf88 rfl rfl) (qV rfl (R.load1 rfl isAgg88 (h_68.ok _ M0) (Sg.t rfl (Sg.t rfl Sg.h))) (qV rfl (R.sliceS (a := xa) (len := xn) (l := 64) (h := xn) rfl (EvB.it (l := 64) rfl rfl) EvB.dflt (by omega) (by omega) underlying88 sizeOf5) ?_)))))
   have h_69 := HP.viewDrop (m := 64) (q := xc) h_68 M1 (by omega)
   refine qV rfl (R.nilCheck rfl) (qV rfl (R.fieldAddr (off' := 72) rfl underlying185 rfl sizeOf88 rfl rfl) ?_)
   refine WL.store1 h_69 rfl rfl sizeOf88 rfl Y1 (by decide) (Sg.t rfl (Sg.t rfl Sg.h)) (fun w_70 h_71 => ?_)
   refine WL.nil (inb_n (thn_n ?_))
   have h_76 := ((((h_71.up J2).drop rfl).up J2).up J1).up J2
   have es : pressL kL (hs kL hL (mg ++ bs) k) ((((mg ++ bs).drop (64 * k)).drop 0).take 64) = hs kL hL (mg ++ bs) (k + 1) := wr_step rfl
   have ed := wr_drop (mg ++ bs) k
   rw [es, ed] at h_76
   have hxf2 : ∀ b ∈ (Ent.view (slA xa 64 xc 1) (((mg ++ bs).drop (64 * (k + 1))).map vu8)).blocks, w.heap.size ≤ b := fun b hb => hxf b (view_sl_blocks (l := (mg ++ bs).drop (64 * k)) (l' := (mg ++ bs).drop (64 * (k + 1))) (fun h2 e => h2 (by rw [← ed, e]; rfl)) b hb)
   exact ⟨(k + 1, slA xa 64 xc 1, xn - 64, xc - 64), _, (by omega), (U4 rfl rfl rfl rfl (U4 rfl rfl rfl rfl (Ag.updL rfl (Ag.trans (Ag.sub rfl (Ag.mix _ _ _)) (Ag.upd rfl (Ag.upd rfl (Ag.upd rfl (Ag.upd rfl (Ag.upd rfl (Ag.upd rfl (Ag.updL rfl (Ag.mix _ _ _)))))))))))), trivial, h_76, (by rw [List.length_drop, hbl]; omega), (by omega), (by omega), hxf2, rfl⟩
 ·have p_77 := of_decide_eq_false c_31
  refine WP.exit (thn_x (thn_x (inb_hit (thn_n (WP.seq (WP.reg ?_))))))
  refine qA (vi 0) rfl rfl ?_
  refine WL.nil (thn_n (WP.ret ?_))
  refine ret_of results115 (RV.tmp (v := (vi 0)) rfl RV.nil) ?_
  have hdl2 : xn = mg.length + n - 64 * k := by rw [← hxn, List.length_drop, hbl]
  have hk2 : k = (mg ++ bs).length / 64 := by omega
  have hcl := h_28.cells M0
  have hvw := viewV (h_28.ok _ M1)
  rw [hk2] at hxn hxf hvw hcl
  rw [← hbl] at hcl
  exact ⟨rfl, h_28.chgS, xa, xn, xc, hcl, hvw, hxn, hxc, fun x hx => ⟨hxf x hx, fun e => by have h1 := hxf x hx; have h2 := hcb.2.2; rw [e] at h1; exact absurd h1 (Nat.not_le.2 h2)⟩⟩
end Go.Proofs.YteclkcpdclimnaaGreat

namespace Go.Proofs.YteclkcpdclimnaaGreat
open Go.Proofs.Tryz
open Go.Vc Go.Sh Go.RowKit
set_option maxRecDepth 20000

theorem c_HSum (mg : List UInt8) (ra : Option Addr) (rn rc : Nat) (hrn : (rsL mg).length = rn) (hrc : rn ≤ rc) (bc : Nat) (hm : mg.length ≤ 1000000000000) (w : World) (hvr : View w ra ((rsL mg).map vu8)) (hcb : (Ent.blk bc .ro 185 [(64, kL.map vu32), (8, (stH mg).map vu32), (1, [(.slice ra rn rc)]), (1, [(vi ((mg.length : Nat) : Int))]), (1, [(.bool true)])]).ok w.heap.size w) :
  Cs Tryz.prog 116 [(.pointer (some ⟨bc, 0, none⟩))].toArray w (fun v w1 => v = (.tuple [(.agg ⟨(sumL mg).map vu8⟩), (vi 0)].toArray) ∧ Chg w w1 []) := by
 refine Cs.of (n := 44) (args := [(pO bc 0)]) Tryz.func116 rfl rfl rfl ?_
 have h_0 := HP.init w
 have h_01 := h_0.oldV (View.arg hvr) rfl (by simp [Ent.mut])
 have h_00 := h_01.oldV hcb rfl (by simp [Ent.mut])
 have hrl := rsL_len mg
 have hpl := padL_len mg.length
 refine WP.seq (WP.reg ?_)
 refine WL.alloc (segs := [(32, (zB 32).map vu8)]) h_00 (zv typeInfo23 rfl) rfl (sC (s8 lr) sN) rfl (fun b_1 w_2 h_3 => ?_)
 refine qA (vi 0) rfl rfl ?_
 refine WL.nil (thn_n (WP.seq (WP.reg ?_)))
 refine qM (pO bc 0) rfl rfl ?_
 refine WL.call Tryz.call134 rfl rfl (c_Copy mg ra rn rc hrn (by omega) bc (by omega) _ (viewV (h_3.ok _ M2)) (h_3.argR M1)) rfl ?_
 rintro _ w_5 ⟨b_4, rfl, hc_6, hb_7, ra_8, rn_9, rc_10, hk_11, hv_12, hn_13, hq_14, hf_15⟩
 have h_16 := HP_gotHash (segs := [(64, kL.map vu32), (8, (stH mg).map vu32), (1, [(.slice ra_8 rn_9 rc_10)]), (1, [(vi ((mg.length : Nat) : Int))]), (1, [(.bool true)])]) h_3 hc_6 hb_7 (sC (SOk.u32 kL_len) (sC (SOk.u32 (stH_len mg)) (sC sV (sC sV (sC sV sN))))) hk_11 hv_12 hf_15
 refine qA (pO b_4 0) rfl rfl ?_
 refine WL.nil (thn_n (WP.seq (WP.seq (WP.reg ?_))))
 refine qM (pO b_4 0) rfl rfl (qV rfl (R.eqNilP rfl rfl underlying159) ?_)
 refine WL.nil (thn_n ?_)
 refine WP.condF rfl ?_
 refine WP.skip (thn_n (WP.seq (WP.reg ?_)))
 refine qM (pO b_4 0) rfl rfl (qM (pO bc 0) rfl rfl (qV rfl (R.nilCheck rfl) (qV rfl (R.fieldAddr (off' := 73) rfl underlying185 rfl sizeOf3 rfl rfl) (qV rfl (R.load1 rfl isAgg3 (h_16.ok _ M3) (Sg.t rfl (Sg.t rfl (Sg.t rfl Sg.h)))) ?_))))
 refine WL.call Tryz.call135 rfl rfl (c_padding mg.length (by omega) _) rfl ?_
 rintro _ w_19 ⟨a_17, cap_18, rfl, hc_20, ho_21⟩
 have h_22 := h_16.gotRow hc_20 ho_21
 have h_23 := h_22.up J1
 refine WL.call Tryz.call115 rfl rfl (c_Write mg ra_8 rn_9 rc_10 hn_13 (by omega) b_4 (by omega) a_17 ((padL mg.length).length) cap_18 (padL mg.length) (rfl : List.length (padL mg.length) = (padL mg.length).length) (by omega) (h_23.own M1).2.2.1 _ (viewV (h_23.ok _ M2)) (ownView (h_23.ok _ M1)) (h_23.arg M0) (Sep_off (m := .nw) (T := 185) (segs := [(64, kL.map vu32), (8, (stH mg).map vu32), (1, [(.slice ra_8 rn_9 rc_10)]), (1, [(vn (mg.length))]), (1, [(.bool true)])]) (by decide) (Sep.view (by decide) (fun h => h) (h_23.ne (i := 0) (j := 2) rfl rfl rfl).symm)) (Sep_off (m := .nw) (T := 185) (segs := [(64, kL.map vu32), (8, (stH mg).map vu32), (1, [(.slice ra_8 rn_9 rc_10)]), (1, [(vn (mg.length))]), (1, [(.bool true)])]) (by decide) (Sep.viewRow (h_23.ne (i := 0) (j := 1) rfl rfl rfl).symm))) rfl ?_
 rintro _ w_24 ⟨rfl, hc_25, ra_26, rn_27, rc_28, hk_29, hv_30, hn_31, hq_32, hf_33⟩
 have h_34 := HP_passedHash (segs' := [(64, kL.map vu32), (8, (stH (mg ++ (padL mg.length))).map vu32), (1, [(.slice ra_26 rn_27 rc_28)]), (1, [(vi (((mg ++ (padL mg.length)).length : Nat) : Int))]), (1, [(.bool true)])]) h_23 (by decide) hc_25 (sC (SOk.u32 kL_len) (sC (SOk.u32 (stH_len (mg ++ (padL mg.length)))) (sC sV (sC sV (sC sV sN))))) hk_29 hv_30 hf_33
 refine WL.nil (thn_n (WP.seq (WP.reg ?_)))
 refine WL.alloc (segs := [(32, (zB 32).map vu8)]) h_34 (zv typeInfo23 rfl) rfl (sC (s8 lr) sN) rfl (fun b_35 w_36 h_37 => ?_)
 refine WL.nil (thn_n (WP.seq (WP.seq (WP.reg ?_))))
 refine qM (pO b_4 0) rfl rfl (qV rfl (R.nilCheck rfl) (qV rfl (R.fieldAddr (off' := 64) rfl underlying185 rfl sizeOf170 rfl rfl) (qV rfl (R.loadA [(64, kL.map vu32)] [(8, (stH (mg ++ (padL mg.length))).map vu32)] [(1, [(.slice ra_26 rn_27 rc_28)]), (1, [(vn ((mg ++ (padL mg.length)).length))]), (1, [(.bool true)])] (cs := (stH (mg ++ (padL mg.length))).map vu32) rfl isAgg170 sizeOf170 (h_37.ok _ M2) rfl rfl rfl rfl) (qM (vi 0) rfl rfl ?_))))
 refine WL.nil (thn_n (WP.block ?_))
 refine WP.loopG (G := Nat) [6, 7, 8, 9, 26, 27, 28, 29, 30, 31, 32, 33, 34, 35, 36, 37, 38, 39, 40, 41, 42] (fun i => [(26, (vn i))]) (fun i m w1 => HP w w1 [.blk b_35 .nw 23 [(32, (mix (digL (stH (mg ++ padL mg.length))) (List.replicate 32 0) (4 * i)).map vu8)], .view ra_26 ((rsL (mg ++ (padL mg.length))).map vu8), .blk b_4 .nw 185 [(64, kL.map vu32), (8, (stH (mg ++ (padL mg.length))).map vu32), (1, [(.slice ra_26 rn_27 rc_28)]), (1, [(vn ((mg ++ (padL mg.length)).length))]), (1, [(.bool true)])], .row a_17 ((padL mg.length).length) cap_18 5 1 ((padL mg.length).map vu8), .view ra_8 ((rsL mg).map vu8), .blk b_1 .nw 23 [(32, (zB 32).map vu8)], .blk bc .ro 185 [(64, kL.map vu32), (8, (stH mg).map vu32), (1, [(.slice ra rn rc)]), (1, [(vn (mg.length))]), (1, [(.bool true)])], .view ra ((rsL mg).map vu8)] ∧ (i ≤ 8) ∧ m = 8 - i) ⟨0, _, ⟨rfl, trivial⟩, (by rw [Nat.mul_zero, mix_0]; exact h_37), (by omega), rfl⟩ ?_
 rintro i m_40 J_41 w_38 ⟨h_39, hi, rfl⟩
 have hx4 : (UInt64.ofNat (((stH (mg ++ padL mg.length))).getD i 0).toNat).toNat < 256 ^ 4 := by have h1 := (((stH (mg ++ padL mg.length))).getD i 0).toNat_lt; rw [nat64 (by omega)]; exact h1
 refine WP.seq (WP.reg ?_)
 refine qV rfl (R.bin rfl rfl (bi_lss (r := decide ((((i : Nat) : Int) : Int) < 8)) rfl)) ?_
 refine WL.nil (thn_n (WP.seq ?_))
 refine WP.cond (b := decide ((((i : Nat) : Int) : Int) < 8)) rfl (fun c_42 => ?_) (fun c_42 => ?_)
 ·have p_43 := of_decide_eq_true c_42
  refine WP.skip (thn_n (WP.seq (WP.block (WP.seq (WP.reg ?_)))))
  refine qM (vn i) rfl rfl (qV rfl (R.indexV (i := i) (cs := (stH (mg ++ (padL mg.length))).map vu32) (v := (vu32 ((stH (mg ++ (padL mg.length))).getD i 0))) rfl rfl rfl (by omega) underlying170 isAgg169 sizeOf169 (get_u32 (lt_len (K := 8) (stH_len (mg ++ (padL mg.length))) (by omega)))) (qA (vn i) rfl rfl (qA (vu32 ((stH (mg ++ (padL mg.length))).getD i 0)) rfl rfl ?_)))
  refine WL.nil (thn_n (WP.seq (WP.reg ?_)))
  refine qM (vu32 ((stH (mg ++ (padL mg.length))).getD i 0)) rfl rfl (qV rfl (R.conv (b := ((UInt64.ofNat (((stH (mg ++ (padL mg.length))).getD i 0).toNat)) : UInt64).toNat) rfl underlying169 underlying27 (w64_nat (((stH (mg ++ (padL mg.length))).getD i 0).toNat))) ?_)
  refine WL.call Tryz.call73 rfl rfl (c_Put_a (UInt64.ofNat (((stH (mg ++ (padL mg.length))).getD i 0).toNat)) 4 (by decide) (by decide) hx4 _) rfl ?_
  rintro _ w_46 ⟨a_44, cap_45, rfl, hc_47, ho_48⟩
  have h_49 := h_39.gotRow hc_47 ho_48
  refine qM (.tuple [(.slice a_44 4 cap_45), (vi 0)].toArray) rfl rfl (qV rfl (R.extract rfl rfl) (qV rfl (R.extract rfl rfl) (qA (.slice a_44 4 cap_45) rfl rfl (qA (vi 0) rfl rfl ?_))))
  refine WL.nil (thn_n ?_)
  refine WP.drawT (SL w.heap.size [.row a_44 4 cap_45 5 1 ((leN 4 (UInt64.ofNat (((stH (mg ++ (padL mg.length))).getD i 0).toNat)).toNat).map vu8), .view ra_26 ((rsL (mg ++ (padL mg.length))).map vu8), .blk b_4 .nw 185 [(64, kL.map vu32), (8, (stH (mg ++ (padL mg.length))).map vu32), (1, [(.slice ra_26 rn_27 rc_28)]), (1, [(vn ((mg ++ (padL mg.length)).length))]), (1, [(.bool true)])], .row a_17 ((padL mg.length).length) cap_18 5 1 ((padL mg.length).map vu8), .view ra_8 ((rsL mg).map vu8), .blk b_1 .nw 23 [(32, (zB 32).map vu8)], .blk bc .ro 185 [(64, kL.map vu32), (8, (stH mg).map vu32), (1, [(.slice ra rn rc)]), (1, [(vn (mg.length))]), (1, [(.bool true)])], .view ra ((rsL mg).map vu8)]) (.q 0 (.q 1 (.q 2 (.q 3 (.s 4 (.s 5 .nil)))))) (by kernel_rfl) (by kernel_rfl) rfl (by kernel_rfl) (fun w_50 hc_52 => (SL.cons ((h_49.same hc_52).ok _ M0) (SL.cons ((h_49.same hc_52).ok _ M2) (SL.cons ((h_49.same hc_52).ok _ M3) (SL.cons ((h_49.same hc_52).ok _ M4) (SL.cons ((h_49.same hc_52).ok _ M5) (SL.cons ((h_49.same hc_52).ok _ M6) (SL.cons ((h_49.same hc_52).ok _ M7) (SL.cons ((h_49.same hc_52).ok _ M8) (SL.nil _ _)))))))))) (fun w_50 hc_52 => ?_)
  have h_51 := h_49.same hc_52
  refine qT rfl rfl (fun wq hS => R.move (v := (vn i)) rfl) ?_
  refine qT rfl rfl (fun wq hS => R.bin rfl rfl (bi_mul (c := ((4 * i : Nat) : Int)) (by omega) (by omega))) ?_
  refine qT rfl rfl (fun wq hS => R.sliceA (b := b_35) (off := 0) (off' := (0 + (4 * i))) (l := 4 * i) (h := 32) rfl (EvB.it (l := 4 * i) rfl rfl) EvB.dflt (by omega) (by decide) underlying23 sizeOf5 (by rw [if_neg (by omega), Nat.mul_one])) ?_
  refine qT rfl rfl (fun wq hS => R.move (v := (.slice a_44 4 cap_45)) rfl) ?_
  refine WT.s (oN rfl ?_)
  refine WL.call Tryz.call121 rfl rfl (c_Turned a_44 4 cap_45 (leN 4 (UInt64.ofNat (((stH (mg ++ (padL mg.length))).getD i 0).toNat)).toNat) (leN_len ..) (by omega) _ (ownView (h_51.ok _ M0))) rfl ?_
  rintro _ w_55 ⟨a_53, cap_54, rfl, hc_56, ho_57⟩
  have h_58 := h_51.gotRow hc_56 ho_57
  refine WL.nil ?_
  refine ⟨(N1_3_4_5_6_7_8_9 h_58.ok), ?_⟩
  refine WT.s (oN rfl ?_)
  refine WL.copy (q := 4) (i := 4 * i) (ys := ((leN 4 (UInt64.ofNat (((stH (mg ++ (padL mg.length))).getD i 0).toNat)).toNat).reverse).map vu8) (cs' := (ovr (mix (digL (stH (mg ++ padL mg.length))) (List.replicate 32 0) (4 * i)) (4 * i) ((leN 4 (UInt64.ofNat (((stH (mg ++ (padL mg.length))).getD i 0).toNat)).toNat).reverse)).map vu8) h_58 rfl rfl underlying88 sizeOf5 (ownView (h_58.ok _ M0)) (len_map ((List.length_reverse ..).trans (leN_len ..))) (one_u8 _) Y2 (by decide) Sg.h rfl (Nat.min_eq_left (by omega)) (by rw [len_map (mix_len (digL_len _) lr)]; omega) (cpOvr ((List.length_reverse ..).trans (leN_len ..))) rfl (fun w_59 h_60 => ?_)
  refine WL.nil ?_
  refine ⟨(N1_3_4_5_6_7_8_9 h_60.ok), ?_⟩
  refine WT.nil (inb_n (thn_n (WP.reg ?_)))
  refine qV rfl (R.bin rfl rfl (bi_add (c := ((i + 1 : Nat) : Int)) (by omega) (by omega))) (qM (vn (i + 1)) rfl rfl ?_)
  refine WL.nil (thn_n ?_)
  have h_70 := (((((((((h_60.drop rfl).drop rfl).up J7).up J7).up J7).up J7).up J7).up J7).up J7).up J7
  rw [dig_ovr (by omega) _ rfl] at h_70
  exact ⟨i + 1, _, (by omega), (Ag.upd rfl (U4 rfl rfl rfl rfl (U4 rfl rfl rfl rfl (U4 rfl rfl rfl rfl (U4 rfl rfl rfl rfl (U4 rfl rfl rfl rfl (Ag.updL rfl (Ag.mix _ _ _)))))))), ⟨rfl, trivial⟩, h_70, (by omega), rfl⟩
 ·have p_71 := of_decide_eq_false c_42
  refine WP.exit (thn_x (thn_x (inb_hit (thn_n (WP.seq (WP.reg ?_))))))
  refine qV rfl (R.loadA [] [(32, (mix (digL (stH (mg ++ padL mg.length))) (List.replicate 32 0) (4 * i)).map vu8)] [] (cs := (mix (digL (stH (mg ++ padL mg.length))) (List.replicate 32 0) (4 * i)).map vu8) rfl isAgg23 sizeOf23 (h_39.ok _ M0) rfl rfl rfl rfl) ?_
  refine WL.storeA [] [(32, (zB 32).map vu8)] [(32, (mix (digL (stH (mg ++ padL mg.length))) (List.replicate 32 0) (4 * i)).map vu8)] [] h_39 rfl rfl sizeOf23 Y5 (by decide) rfl rfl rfl rfl rfl rfl (sC (s8 (mix_len (digL_len _) lr)) sN) (fun w_72 h_73 => ?_)
  refine qA (vi 0) rfl rfl ?_
  refine WL.nil (thn_n (WP.ret ?_))
  refine ret_of results116 (RV.cell rfl (h_73.loadA (cs := (mix (digL (stH (mg ++ padL mg.length))) (List.replicate 32 0) (4 * i)).map vu8) isAgg23 sizeOf23 M5 rfl rfl) (RV.tmp (v := (vi 0)) rfl RV.nil)) ?_
  have hi8 : i = 8 := by omega
  subst hi8
  have ed := dig_all (stH (mg ++ padL mg.length))
  exact ⟨by rw [show 4 * 8 = 32 from rfl, ed, sum_dig]; rfl, h_73.chgS⟩

theorem c_Sum (a : Option Addr) (n cap : Nat) (bs : List UInt8) (hl : bs.length = n) (hn : n ≤ 1000000000000) (hcap : n ≤ cap) (w : World) (hv : View w a (bs.map vu8)) :
  Cs Tryz.prog 89 [(.slice a n cap)].toArray w (fun v w1 => v = (.agg ⟨(sumL bs).map vu8⟩) ∧ Chg w w1 []) := by
 refine Cs.of (n := 16) (args := [(.slice a n cap)]) Tryz.func89 rfl rfl rfl ?_
 have h_0 := HP.init w
 have h_00 := h_0.old (View.arg hv) (fun f hf => by cases hf)
 refine WP.seq (WP.reg ?_)
 refine WL.alloc (segs := [(32, (zB 32).map vu8)]) h_00 (zv typeInfo23 rfl) rfl (sC (s8 lr) sN) rfl (fun b_1 w_2 h_3 => ?_)
 refine WL.nil (thn_n (WP.seq (WP.reg ?_)))
 refine WL.call Tryz.call114 rfl rfl (c_New _) rfl ?_
 rintro _ w_5 ⟨b_4, rfl, hc_6, hb_7, ra_8, rn_9, rc_10, hk_11, hv_12, hn_13, hq_14, hf_15⟩
 have h_16 := HP_gotHash (segs := [(64, kL.map vu32), (8, (stH ([] : List UInt8)).map vu32), (1, [(.slice ra_8 rn_9 rc_10)]), (1, [(vi ((([] : List UInt8).length : Nat) : Int))]), (1, [(.bool true)])]) h_3 hc_6 hb_7 (sC (SOk.u32 kL_len) (sC (SOk.u32 (stH_len ([] : List UInt8))) (sC sV (sC sV (sC sV sN))))) hk_11 hv_12 hf_15
 refine qA (pO b_4 0) rfl rfl ?_
 refine WL.nil (thn_n (WP.seq (WP.reg ?_)))
 refine qM (pO b_4 0) rfl rfl (qM (.slice a n cap) rfl rfl ?_)
 refine WL.call Tryz.call115 rfl rfl (c_Write ([] : List UInt8) ra_8 rn_9 rc_10 hn_13 (by omega) b_4 (by decide) a n cap bs hl (by omega) (by omega) _ (viewV (h_16.ok _ M1)) (viewV (h_16.ok _ M3)) (h_16.arg M0) (Sep_off (m := .nw) (T := 185) (segs := [(64, kL.map vu32), (8, (stH ([] : List UInt8)).map vu32), (1, [(.slice ra_8 rn_9 rc_10)]), (1, [(vn (([] : List UInt8).length))]), (1, [(.bool true)])]) (by decide) (Sep.view (by decide) (fun h => h) (h_16.ne (i := 0) (j := 1) rfl rfl rfl).symm)) (Sep_off (m := .nw) (T := 185) (segs := [(64, kL.map vu32), (8, (stH ([] : List UInt8)).map vu32), (1, [(.slice ra_8 rn_9 rc_10)]), (1, [(vn (([] : List UInt8).length))]), (1, [(.bool true)])]) (by decide) (Sep.view (by decide) (fun h => h) (h_16.ne (i := 0) (j := 3) rfl rfl rfl).symm))) rfl ?_
 rintro _ w_17 ⟨rfl, hc_18, ra_19, rn_20, rc_21, hk_22, hv_23, hn_24, hq_25, hf_26⟩
 have h_27 := HP_passedHash (segs' := [(64, kL.map vu32), (8, (stH bs).map vu32), (1, [(.slice ra_19 rn_20 rc_21)]), (1, [(vi ((bs.length : Nat) : Int))]), (1, [(.bool true)])]) h_16 (by decide) hc_18 (sC (SOk.u32 kL_len) (sC (SOk.u32 (stH_len bs)) (sC sV (sC sV (sC sV sN))))) hk_22 hv_23 hf_26
 refine WL.nil (thn_n (WP.seq (WP.reg ?_)))
 refine qM (pO b_4 0) rfl rfl ?_
 refine WL.call Tryz.call116 rfl rfl (c_HSum bs ra_19 rn_20 rc_21 hn_24 (by omega) b_4 (by omega) _ (viewV (h_27.ok _ M0)) (h_27.argR M1)) rfl ?_
 rintro _ w_29 ⟨rfl, hc_28⟩
 have h_30 := h_27.same hc_28
 refine qM (.tuple [(.agg ⟨(sumL bs).map vu8⟩), (vi 0)].toArray) rfl rfl (qV rfl (R.extract rfl rfl) (qV rfl (R.extract rfl rfl) ?_))
 refine WL.alloc (segs := [(32, (zB 32).map vu8)]) h_30 (zv typeInfo23 rfl) rfl (sC (s8 lr) sN) rfl (fun b_31 w_32 h_33 => ?_)
 refine WL.storeA [] [(32, (zB 32).map vu8)] [(32, (sumL bs).map vu8)] [] h_33 rfl rfl sizeOf23 At.h (by decide) rfl rfl rfl rfl rfl rfl (sC (s8 (sumL_len _)) sN) (fun w_34 h_35 => ?_)
 refine qA (vi 0) rfl rfl ?_
 refine WL.nil (thn_n (WP.seq (WP.reg ?_)))
 refine qV rfl (R.loadA [] [(32, (sumL bs).map vu8)] [] (cs := (sumL bs).map vu8) rfl isAgg23 sizeOf23 (h_35.ok _ M0) rfl rfl rfl rfl) ?_
 refine WL.storeA [] [(32, (zB 32).map vu8)] [(32, (sumL bs).map vu8)] [] h_35 rfl rfl sizeOf23 Y4 (by decide) rfl rfl rfl rfl rfl rfl (sC (s8 (sumL_len _)) sN) (fun w_36 h_37 => ?_)
 refine WL.nil (thn_n (WP.ret ?_))
 refine ret_of results89 (RV.cell rfl (h_37.loadA (cs := (sumL bs).map vu8) isAgg23 sizeOf23 M4 rfl rfl) RV.nil) ?_
 exact ⟨rfl, h_37.chgS⟩
end Go.Proofs.YteclkcpdclimnaaGreat

namespace Go.Sh
open Go.Vc
def padK (k : List UInt8) : List UInt8 := k ++ List.replicate (64 - k.length) 0
def xm (m : UInt8) (l : List UInt8) : List UInt8 := l.map fun x => x ^^^ m
def tagK (k b : List UInt8) : List UInt8 := sumL (xm 92 (padK k) ++ sumL (xm 54 (padK k) ++ b))
def tagL (key b : List UInt8) : List UInt8 := if 64 < key.length then tagK (sumL key) b else tagK key b
theorem tagK_len (k b : List UInt8) : (tagK k b).length = 32 := sumL_len _
theorem tagL_len (key b : List UInt8) : (tagL key b).length = 32 := by rw [tagL]; split <;> exact tagK_len _ _
def difN (a b : List UInt8) : Nat → UInt8
  | 0 => 0
  | i + 1 => difN a b i ||| (a.getD i 0 ^^^ b.getD i 0)
def deriveL (key l : List UInt8) (x : UInt64) : List UInt8 := tagL key (Go.Wr.packL [l, leN 8 x.toNat])
def kfL (key l : List UInt8) : Nat → List UInt8
  | 0 => []
  | k + 1 => kfL key l k ++ deriveL key l (UInt64.ofNat k)
end Go.Sh
namespace Go.Vc
section
variable {P : Program} {F : Fr} {w : World}
variable {ty : TypeId} {pos : String} {after : Array Edge} {dst : Option Tmp} {g : Option (Nat × Bool)}
end
end Go.Vc
namespace Go.Sh
open Go.Vc
def halfL (d : List UInt8) (c : Nat) : List UInt8 := (d.drop c).take 16
def K11 : List UInt8 := List.replicate 20 11
end Go.Sh

namespace Go.Proofs.YteclkcpdclimnaaGreat
open Go.Proofs.Tryz
open Go.Vc Go.Sh Go.RowKit
set_option maxRecDepth 20000

end Go.Proofs.YteclkcpdclimnaaGreat

namespace Go.Vc
open Go.RowKit Go.WideShapes
section
variable {P : Program} {F : Fr} {w w' w0 : World} {L : List Ent}
variable {ty : TypeId} {pos : String} {after : Array Edge} {dst : Option Tmp} {g : Option (Nat × Bool)}
theorem agg_formed {t : TypeId} {cs : List Value} (hu : aggB P t = true) (hl : cs.length = P.cellsOf t) : (Value.agg ⟨cs⟩).formed P t = true := by
  unfold aggB at hu
  unfold Value.formed
  split at hu <;> simp_all
theorem Ck.agg {K : TypeId} {m h : Nat} {cs : List Value} (hk : P.keyTypeAt m K = true) (hm : Nat.ble m 10000 = true) (hu : aggB P K = true) (t : Typ P h K cs) : Ck P K (.agg ⟨cs⟩) := by
  intro b w
  have hm' := Nat.le_of_ble_eq_true hm
  have := run_checkKey_deep (P := P) b (10000 - m) m K hk w _ (.agg ⟨cs⟩) _ (agg_formed hu t.len) (t.lits h (Nat.le_refl _))
  rwa [show 10000 - m + m = 10000 by omega] at this
def fdx {α : Type} [DecidableEq α] (q : α) : List (α × Value × Nat) → Nat → Option (Nat × Value)
  | [], _ => none
  | e :: r, i => if e.1 = q then some (i, e.2.1) else fdx q r (i + 1)
def ents {α : Type} (kf : α → List Value) (es : List (α × Value × Nat)) : List MapEntry := es.map fun e => { key := .agg ⟨kf e.1⟩, val := e.2.1, born := e.2.2 }
theorem run_asking {α : Type} [DecidableEq α] {kf : α → List Value} {K : TypeId} {m h : Nat} {q : α} (hk : P.keyTypeAt m K = true) (hm : Nat.ble m 10000 = true) (hu : aggB P K = true) (t : Typ P h K (kf q)) (w : World) :
    ∀ (es : List (α × Value × Nat)) (i : Nat), (∀ e ∈ es, Typ P h K (kf e.1) ∧ (kf e.1 = kf q → e.1 = q)) → (Instr.findAsking K (.agg ⟨kf q⟩) (ents kf es) i).run P w = .ok (fdx q es i) w
  | [], i, _ => by simp [ents, Instr.findAsking, fdx]
  | e :: es, i, hall => by
    obtain ⟨te, hinj⟩ := hall e (by simp)
    obtain ⟨r, hr, hiff⟩ := equal_of (w := w) hk (Nat.le_of_ble_eq_true hm) hu t te
    have hr' : (Op.equal K (.agg ⟨kf q⟩) (.agg ⟨kf e.1⟩)).run P w = .ok r w := hr
    by_cases he : e.1 = q
    · have : r = true := hiff.2 (by rw [he])
      subst this
      rw [he] at hr'
      simp [ents, Instr.findAsking, hr', he, fdx]
    · have : r = false := by
        cases r with
        | false => rfl
        | true => exact absurd (hinj (hiff.1 rfl).symm) he
      subst this
      have ih := run_asking hk hm hu t w es (i + 1) (fun y hy => hall y (by simp [hy]))
      simp only [ents] at ih
      simp only [ents, List.map_cons, Instr.findAsking, Sem.run_bind, hr', Result.andThen_ok, Bool.false_eq_true, if_false, ih, fdx, he]
theorem Fk.agg {α : Type} [DecidableEq α] {kf : α → List Value} {K : TypeId} {m h : Nat} {q : α} (hk : P.keyTypeAt m K = true) (hm : Nat.ble m 10000 = true) (hu : aggB P K = true) (t : Typ P h K (kf q)) {es : List (α × Value × Nat)}
    (hall : ∀ e ∈ es, Typ P h K (kf e.1) ∧ (kf e.1 = kf q → e.1 = q)) : Fk P K (.agg ⟨kf q⟩) (ents kf es) (fdx q es 0) := by
  intro w
  rw [run_findKey_eq w hu]
  exact run_asking hk hm hu t w es 0 hall
theorem eq_nilM {T K E : TypeId} {o : Option Nat} (hT : P.underlying T = some (.map K E)) (d : Nat) : (Op.equalIn (d + 1) T (.map o) (.map none)).run P w = .ok o.isNone w := by
  unfold Op.equalIn
  rw [Sem.run_bind, run_underlying hT]
  cases o <;> rfl
theorem R.neNilM {T T' K E : TypeId} {x y : Operand} {o : Option Nat} (hx : evO F x = .map o) (hy : evO F y = .map none) (hT : P.underlying T = some (.map K E)) : (execOp (evO F) ⟨dst, .binOp .neq T x y T', ty, pos, after, g⟩).run P w = .ok (.value (.bool (!o.isNone))) w := R.neOf hx hy rfl (eq_nilM hT) rfl
theorem add_add (a : Addr) (i k : Nat) : (a.add i).add k = a.add (i + k) := by
  unfold Addr.add
  by_cases hi : i = 0
  · subst hi; simp
  · by_cases hk : k = 0
    · subst hk; simp [hi]
    · have : i + k ≠ 0 := by omega
      simp [hi, hk, this, Nat.add_assoc]
theorem gA_add (a : Option Addr) (i k : Nat) : (gA a i).add k = gA a (i + k) := add_add _ _ _
theorem R.fieldG {i off' f z : Nat} {S : TypeId} {x : Operand} {a : Option Addr} {fs : Array Field} {fd : Field} (hx : evO F x = .pointer (some (gA a i))) (hT : P.underlying S = some (.struct fs)) (hf : fs[f]? = some fd)
    (hz : ∀ w, (sizeOf fd.type).run P w = .ok z w) (hz0 : Nat.blt 0 z = true) (hoff : off' = i + fd.offset) : (execOp (evO F) ⟨dst, .fieldAddr S x f, ty, pos, after, g⟩).run P w = .ok (.value (.pointer (some (gA a off')))) w := by
  have hz1 : z ≠ 0 := by rintro rfl; cases hz0
  simp [execOp, hx, Instr.fieldAt, run_underlying hT, hf, Instr.sureAddr, fieldPlace, hz, hz1, gA_add, hoff]
end
end Go.Vc

namespace Go.Orc
open Go.Vc Go.RowKit
abbrev Qn := Int × List UInt8 × Int × List UInt8
abbrev Lg := List (Qn × List UInt8)
def okQ (q : Qn) : Prop := q.2.1.length = 32 ∧ (1 ≤ q.1 ∧ q.1 ≤ 4) ∧ (1 ≤ q.2.2.1 ∧ q.2.2.1 ≤ 16) ∧ q.2.2.2.length ≤ 1000000000
def kC (q : Qn) : List Value := flat [(1, [vi q.1]), (32, q.2.1.map vu8), (1, [vi q.2.2.1]), (1, [.string (bstr q.2.2.2)])]
theorem bstr_inj {a b : List UInt8} (h : bstr a = bstr b) : a = b := by
  have := congrArg ByteArray.toList h
  rwa [bstr_toList, bstr_toList] at this
theorem kC_inj {p q : Qn} (hp : p.2.1.length = 32) (hq : q.2.1.length = 32) (h : kC p = kC q) : p = q := by
  obtain ⟨k, key, d, data⟩ := p
  obtain ⟨k', key', d', data'⟩ := q
  simp only at hp hq
  simp only [kC, flat, List.cons_append, List.nil_append, List.cons.injEq, Value.int.injEq, true_and] at h
  obtain ⟨h1, h2⟩ := h
  obtain ⟨h3, h4⟩ := List.append_inj h2 (by rw [List.length_map, List.length_map, hp, hq])
  simp only [List.cons.injEq, Value.int.injEq, Value.string.injEq, true_and, and_true] at h4
  have e1 : key = key' := by
    have := map_inj_u8 (a := key) (b := key')
    exact this ▸ h3
  rw [h1, e1, h4.1, bstr_inj h4.2]
def mEs : Lg → Nat → List (Qn × Value × Nat)
  | [], _ => []
  | p :: r, i => (p.1, vi (i : Int), i) :: mEs r (i + 1)
theorem mEs_snoc (p : Qn × List UInt8) : ∀ (l : Lg) (i : Nat), mEs (l ++ [p]) i = mEs l i ++ [(p.1, vi ((i + l.length : Nat) : Int), i + l.length)]
  | [], i => by simp [mEs]
  | x :: l, i => by
    rw [List.cons_append, mEs, mEs_snoc p l (i + 1), mEs, List.length_cons, show i + 1 + l.length = i + (l.length + 1) by omega]; rfl
theorem mEs_mem : ∀ {l : Lg} {i : Nat} {e : Qn × Value × Nat}, e ∈ mEs l i → ∃ p ∈ l, e.1 = p.1
  | x :: l, i, e, h => by
    rcases List.mem_cons.1 h with rfl | h
    · exact ⟨x, List.mem_cons_self .., rfl⟩
    · obtain ⟨p, hp, he⟩ := mEs_mem h
      exact ⟨p, List.mem_cons_of_mem _ hp, he⟩
def fdq (q : Qn) : Lg → Nat → Option Nat
  | [], _ => none
  | p :: r, i => if p.1 = q then some i else fdq q r (i + 1)
theorem fdx_fdq (q : Qn) : ∀ (l : Lg) (i : Nat), fdx q (mEs l i) i = (fdq q l i).map fun j : Nat => ((j, vi (j : Int)) : Nat × Value)
  | [], _ => rfl
  | p :: r, i => by
    rw [mEs, fdx, fdq]
    split
    · rfl
    · exact fdx_fdq q r (i + 1)
theorem fdq_lt {q : Qn} : ∀ {l : Lg} {i j : Nat}, fdq q l i = some j → i ≤ j ∧ j < i + l.length
  | p :: r, i, j, h => by
    rw [fdq] at h
    split at h
    · cases h; exact ⟨Nat.le_refl _, by rw [List.length_cons]; omega⟩
    · have := fdq_lt h
      rw [List.length_cons]; omega
def mArr (l : Lg) : Array MapEntry := ⟨ents kC (mEs l 0)⟩
theorem mArr_push (l : Lg) (q : Qn) (d : List UInt8) : mArr (l ++ [(q, d)]) = (mArr l).push { key := .agg ⟨kC q⟩, val := vi (l.length : Int), born := l.length } := by
  apply Array.ext'
  simp [mArr, ents, mEs_snoc]
theorem log_find {P : Program} {K : TypeId} {m h : Nat} {q : Qn} {l : Lg} (hk : P.keyTypeAt m K = true) (hm : Nat.ble m 10000 = true) (hu : aggB P K = true) (hT : ∀ q, okQ q → Typ P h K (kC q)) (hq : okQ q) (hl : ∀ p ∈ l, okQ p.1) :
    Fk P K (.agg ⟨kC q⟩) (mArr l).toList ((fdq q l 0).map fun j : Nat => ((j, vi (j : Int)) : Nat × Value)) := by
  rw [← fdx_fdq]
  refine Fk.agg hk hm hu (hT q hq) fun e he => ?_
  obtain ⟨p, hp, e1⟩ := mEs_mem he
  rw [e1]
  exact ⟨hT _ (hl p hp), fun h => kC_inj (hl p hp).1 hq.1 h⟩
def aC (q : Qn) (s : Value) (d : List UInt8) : List Value := flat [(1, [vi q.1]), (32, q.2.1.map vu8), (1, [vi q.2.2.1]), (1, [s]), (32, d.map vu8)]
theorem aC_len {q : Qn} {s : Value} {d : List UInt8} (h : q.2.1.length = 32) (hd : d.length = 32) : (aC q s d).length = 67 := by simp [aC, flat, h, hd]
inductive Lgs (w : World) : List Value → Lg → Prop
  | nil : Lgs w [] []
  | snoc {a : Option Addr} {n c : Nat} {q : Qn} {d : List UInt8} {xs : List Value} {l : Lg} (r : Lgs w xs l) (hq : okQ q) (hd : d.length = 32) (hl : q.2.2.2.length = n) (hc : n ≤ c) (hv : View w a (q.2.2.2.map vu8)) : Lgs w (xs ++ aC q (.slice a n c) d) (l ++ [(q, d)])
theorem Lgs.len {w : World} {xs : List Value} {l : Lg} (h : Lgs w xs l) : xs.length = l.length * 67 := by
  induction h with
  | nil => rfl
  | snoc r hq hd hl hc hv ih => rw [List.length_append, ih, aC_len hq.1 hd, List.length_append, List.length_cons, List.length_nil]; omega
theorem Lgs.ok {w : World} {xs : List Value} {l : Lg} (h : Lgs w xs l) : ∀ p ∈ l, okQ p.1 := by
  induction h with
  | nil => intro p hp; cases hp
  | snoc r hq hd hl hc hv ih =>
    intro p hp
    rcases List.mem_append.1 hp with hp | hp
    · exact ih p hp
    · rw [List.mem_singleton] at hp; subst hp; exact hq
theorem sblks_u8 : ∀ (l : List UInt8) (b : Nat), b ∉ sblks (l.map vu8)
  | [], b => by simp [sblks]
  | x :: l, b => by
    intro h
    have h' : b ∈ sblk (vu8 x) ++ sblks (l.map vu8) := h
    rcases List.mem_append.1 h' with h | h
    · simp [sblk] at h
    · exact sblks_u8 l b h
theorem sblk_in_view {a : Option Addr} {n c : Nat} {l : List UInt8} (hl : l.length = n) : ∀ b ∈ sblk (.slice a n c), b ∈ (Ent.view a (l.map vu8)).blocks := by
  intro b hb
  cases a with
  | none => simp [sblk] at hb
  | some ad => cases l with
    | nil => simp at hl; subst hl; simp [sblk] at hb
    | cons x r => cases n with
      | zero => simp at hl
      | succ n => simpa [Ent.blocks, sblk] using hb
theorem Lgs.get {w : World} {xs : List Value} {l : Lg} (h : Lgs w xs l) : ∀ {i : Nat} (hi : i < l.length), ∃ a n c, (xs.drop (67 * i)).take 67 = aC (l[i]).1 (.slice a n c) (l[i]).2 ∧ (l[i]).2.length = 32 ∧ (l[i]).1.2.2.2.length = n ∧ n ≤ c ∧ View w a ((l[i]).1.2.2.2.map vu8) ∧ (∀ b ∈ sblk (.slice a n c), b ∈ sblks xs) := by
  induction h with
  | nil => intro i hi; simp at hi
  | @snoc a n c q d xs l r hq hd hl hc hv ih =>
    intro i hi
    have hlen := r.len
    by_cases e : i < l.length
    · obtain ⟨a', n', c', h1, h2, h3, h4, h5, h6⟩ := ih e
      refine ⟨a', n', c', ?_, ?_, ?_, h4, ?_, ?_⟩
      · rw [List.drop_append_of_le_length (by omega), List.take_append_of_le_length (by rw [List.length_drop]; omega), h1, List.getElem_append_left e]
      · rw [List.getElem_append_left e]; exact h2
      · rw [List.getElem_append_left e]; exact h3
      · rw [List.getElem_append_left e]; exact h5
      · intro b hb; rw [sblks_append]; exact List.mem_append.2 (.inl (h6 b hb))
    · have : i = l.length := by rw [List.length_append, List.length_singleton] at hi; omega
      subst this
      have e2 : (l ++ [(q, d)])[l.length] = (q, d) := by simp
      refine ⟨a, n, c, ?_, ?_, ?_, hc, ?_, ?_⟩
      · rw [List.drop_append, List.drop_of_length_le (by omega), List.nil_append, show 67 * l.length - xs.length = 0 by omega, List.drop_zero, List.take_of_length_le (by rw [aC_len hq.1 hd]; exact Nat.le_refl _), e2]
      · rw [e2]; exact hd
      · rw [e2]; exact hl
      · rw [e2]; exact hv
      · intro b hb
        rw [sblks_append]
        refine List.mem_append.2 (.inr ?_)
        simp only [aC, flat, sblks_append]
        refine List.mem_append.2 (.inr (List.mem_append.2 (.inr (List.mem_append.2 (.inr (List.mem_append.2 (.inl ?_)))))))
        simpa [sblks] using hb
end Go.Orc

namespace Go.Orc
open Go.Vc Go.RowKit
theorem Lgs.lt {w : World} {xs : List Value} {l : Lg} (h : Lgs w xs l) : ∀ b ∈ sblks xs, b < w.heap.size := by
  induction h with
  | nil => intro b hb; cases hb
  | @snoc a n c q d xs l r hq hd hl hc hv ih =>
    intro b hb
    rw [sblks_append] at hb
    rcases List.mem_append.1 hb with hb | hb
    · exact ih b hb
    · refine sblk_lt (c := c) hl hv b ?_
      simp only [aC, flat, sblks_append, List.mem_append] at hb
      rcases hb with hb | hb | hb | hb | hb
      · simp [sblks, sblk] at hb
      · exact absurd hb (sblks_u8 _ _)
      · simp [sblks, sblk] at hb
      · simpa [sblks] using hb
      · exact absurd hb (sblks_u8 _ _)
theorem Lgs.same {w w' : World} {xs : List Value} {l : Lg} (h : Lgs w xs l) (hs : ∀ b ∈ sblks xs, w'.heap[b]? = w.heap[b]?) : Lgs w' xs l := by
  induction h with
  | nil => exact .nil
  | @snoc a n c q d xs l r hq hd hl hc hv ih =>
    refine .snoc (ih fun b hb => hs b (by rw [sblks_append]; exact List.mem_append.2 (.inl hb))) hq hd hl hc (sblk_view (c := c) hl hv fun b hb => hs b ?_)
    rw [sblks_append]
    refine List.mem_append.2 (.inr ?_)
    simp only [aC, flat, sblks_append]
    exact List.mem_append.2 (.inr (List.mem_append.2 (.inr (List.mem_append.2 (.inr (List.mem_append.2 (.inl (by simpa [sblks] using hb))))))))
theorem Lgs.pin {B : Nat} {w : World} {xs : List Value} {l : Lg} (h : Lgs w xs l) : (Ent.pin (sblks xs) (fun w => Lgs w xs l)).ok B w := ⟨h, h.lt, fun _ hs => h.same hs⟩
section
variable {w w' w0 : World} {L : List Ent}
theorem HP_logPush {xs : List Value} {l : Lg} {a : Option Addr} {n c : Nat} {E : TypeId} {q : Qn} {d : List UInt8} (h : HP w0 w (.row a n c E 1 (q.2.2.2.map vu8) :: .pin (sblks xs) (fun w => Lgs w xs l) :: L)) (hq : okQ q) (hd : d.length = 32) (hl : q.2.2.2.length = n) :
    HP w0 w (.pin (sblks (xs ++ aC q (.slice a n c) d)) (fun w => Lgs w (xs ++ aC q (.slice a n c) d) (l ++ [(q, d)])) :: .view a (q.2.2.2.map vu8) :: .pin (sblks xs) (fun w => Lgs w xs l) :: L) := by
  have hcap := (h.own (List.mem_cons_self ..)).2.2.1
  have h1 := h.rowView
  have hm1 : Ent.pin (sblks xs) (fun w => Lgs w xs l) ∈ (.view a (q.2.2.2.map vu8) :: .pin (sblks xs) (fun w => Lgs w xs l) :: L) := List.mem_cons_of_mem _ (List.mem_cons_self ..)
  have hm2 : Ent.view a (q.2.2.2.map vu8) ∈ (.view a (q.2.2.2.map vu8) :: .pin (sblks xs) (fun w => Lgs w xs l) :: L) := List.mem_cons_self ..
  have hs : Lgs w xs l := (h1.ok _ hm1).1
  have hv := viewV (h1.ok _ hm2)
  refine h1.within2 hm1 hm2 rfl rfl (Lgs.pin (.snoc hs hq hd hl hcap hv)) rfl rfl fun b hb => ?_
  simp only [Ent.blocks] at hb
  rw [sblks_append] at hb
  rcases List.mem_append.1 hb with hb | hb
  · exact .inl hb
  · right
    simp only [aC, flat, sblks_append, List.mem_append] at hb
    rcases hb with hb | hb | hb | hb | hb
    · simp [sblks, sblk] at hb
    · exact absurd hb (sblks_u8 _ _)
    · simp [sblks, sblk] at hb
    · have hb' : b ∈ sblk (.slice a n c) := by simpa [sblks] using hb
      exact sblk_in_view hl b hb'
    · exact absurd hb (sblks_u8 _ _)
theorem HP_logNil (h : HP w0 w L) : HP w0 w (.pin (sblks []) (fun w => Lgs w [] []) :: L) := h.add (Lgs.pin .nil) rfl fun f _ _ b hb _ => by cases hb
end
theorem aC_drop {q : Qn} {s : Value} {d : List UInt8} (h : q.2.1.length = 32) : (aC q s d).drop 35 = d.map vu8 := by
  have e : aC q s d = ([vi q.1] ++ (q.2.1.map vu8 ++ ([vi q.2.2.1] ++ [s]))) ++ d.map vu8 := by simp [aC, flat]
  rw [e, List.drop_append_of_le_length (by simp [h])]
  simp [h]
theorem Lgs.ans {w : World} {xs : List Value} {l : Lg} (h : Lgs w xs l) {i : Nat} {z : Qn × List UInt8} (hi : i < l.length) : (xs.drop (i * 67 + 35)).take 32 = (l.getD i z).2.map vu8 ∧ (l.getD i z).2.length = 32 := by
  obtain ⟨a, n, c, h1, h2, _⟩ := h.get hi
  have hq := h.ok (l[i]) (List.getElem_mem hi)
  have e : l.getD i z = l[i] := by simp [hi]
  rw [e]
  refine ⟨?_, h2⟩
  have h3 := congrArg (fun x => x.drop 35) h1
  change ((xs.drop (67 * i)).take 67).drop 35 = (aC _ _ _).drop 35 at h3
  rw [aC_drop hq.1, List.drop_take, List.drop_drop, show 67 * i + 35 = i * 67 + 35 by omega, show 67 - 35 = 32 from rfl] at h3
  exact h3
theorem fill_1 {s : Nat} {z : Array Value} {zc cs : List Value} (hz : z = ⟨zc⟩) (ok : SsOk [(s, zc)]) (okc : SsOk [(s, cs)]) : Instr.fill (fun i => some (i * s, s)) z [(0, .agg ⟨cs⟩)] = some ⟨cs⟩ := by
  subst hz
  exact (fill_of (pl := fun i => some (i * s, s)) (segs := [(s, zc)]) (parts := [(0, .agg ⟨cs⟩)]) (out := [(s, cs)]) (FillR.cons [] [(s, zc)] [(s, cs)] [] (by rw [Nat.zero_mul]; rfl) rfl rfl rfl okc rfl rfl rfl FillR.nil) ok).1
theorem aC_ok {q : Qn} {s : Value} {d : List UInt8} (h : q.2.1.length = 32) (hd : d.length = 32) (hs : s.oneCell' = true) : SsOk [(67, aC q s d)] := by
  refine SsOk.cons ⟨aC_len h hd, fun v hv => ?_⟩ SsOk.nil
  exact SsOk.one (SsOk.cons (SOk.v rfl) (SsOk.cons (SOk.u8 h) (SsOk.cons (SOk.v rfl) (SsOk.cons (SOk.v hs) (SsOk.cons (SOk.u8 hd) SsOk.nil))))) v hv
def drawF (df : List UInt8) (dn n : Nat) : List UInt8 := if n < dn then (df.drop (n * 32)).take 32 else leN 8 n ++ (List.replicate 23 0 ++ [1])
theorem drawF_len {df : List UInt8} {dn n : Nat} (h : df.length = 32 * dn) : (drawF df dn n).length = 32 := by
  rw [drawF]; split
  · rw [List.length_take, List.length_drop]; omega
  · simp [leN_len]
def ansD (df : List UInt8) (dn u : Nat) (l : Lg) (q : Qn) : List UInt8 := match fdq q l 0 with
  | some i => (l.getD i (q, [])).2
  | none => drawF df dn u
def ansU (u : Nat) (l : Lg) (q : Qn) : Nat := match fdq q l 0 with
  | some _ => u
  | none => u + 1
def ansL (df : List UInt8) (dn u : Nat) (l : Lg) (q : Qn) : Lg := match fdq q l 0 with
  | some _ => l
  | none => l ++ [(q, drawF df dn u)]
section
variable {df : List UInt8} {dn u : Nat} {l : Lg} {q : Qn} {i : Nat}
end
end Go.Orc
namespace Go.Orc
open Go.Vc Go.RowKit
theorem draw_tail {u : Nat} (h : u < 18446744073709551616) : ((leN 8 (UInt64.ofNat u).toNat) ++ (List.replicate 32 (0 : UInt8)).drop 8).set 31 1 = leN 8 u ++ (List.replicate 23 0 ++ [1]) := by
  have e : (UInt64.ofNat u).toNat = u := by simp; omega
  have hl := leN_len 8 u
  rw [e, List.set_append, if_neg (by omega), hl]
  congr 1
theorem log_hit {P : Program} {K : TypeId} {m h i : Nat} {q : Qn} {l : Lg} (hk : P.keyTypeAt m K = true) (hm : Nat.ble m 10000 = true) (hu : aggB P K = true) (hT : ∀ q, okQ q → Typ P h K (kC q)) (hq : okQ q) (hl : ∀ p ∈ l, okQ p.1) (hf : fdq q l 0 = some i) :
    Fk P K (.agg ⟨kC q⟩) (mArr l).toList (some (i, vi (i : Int))) := by
  have := log_find hk hm hu hT hq hl
  rwa [hf] at this
theorem log_miss {P : Program} {K : TypeId} {m h : Nat} {q : Qn} {l : Lg} (hk : P.keyTypeAt m K = true) (hm : Nat.ble m 10000 = true) (hu : aggB P K = true) (hT : ∀ q, okQ q → Typ P h K (kC q)) (hq : okQ q) (hl : ∀ p ∈ l, okQ p.1) (hf : fdq q l 0 = none) :
    Fk P K (.agg ⟨kC q⟩) (mArr l).toList none := by
  have := log_find hk hm hu hT hq hl
  rwa [hf] at this
theorem snoc_len {l : Lg} {p : Qn × List UInt8} : (l ++ [p]).length = l.length + 1 := by simp
end Go.Orc
namespace Go.Orc
open Go.Vc Go.RowKit
section
variable {w w' w0 : World} {L : List Ent}
end
def sS (df : List UInt8) (dn : Nat) (key : List UInt8) (dm : Int) (data : List UInt8) (u : Nat) (lg : Lg) : Nat → Nat × Lg × List UInt8
  | 0 => (u, lg, [])
  | k + 1 => (ansU (sS df dn key dm data u lg k).1 (sS df dn key dm data u lg k).2.1 (4, key, dm, data ++ leN 8 k), ansL df dn (sS df dn key dm data u lg k).1 (sS df dn key dm data u lg k).2.1 (4, key, dm, data ++ leN 8 k), (sS df dn key dm data u lg k).2.2 ++ ansD df dn (sS df dn key dm data u lg k).1 (sS df dn key dm data u lg k).2.1 (4, key, dm, data ++ leN 8 k))
def ok32 (l : Lg) : Prop := ∀ p ∈ l, p.2.length = 32
theorem Lgs.ok32 {w : World} {xs : List Value} {l : Lg} (h : Lgs w xs l) : ok32 l := by
  induction h with
  | nil => intro p hp; cases hp
  | snoc r hq hd hl hc hv ih =>
    intro p hp
    rcases List.mem_append.1 hp with hp | hp
    · exact ih p hp
    · rw [List.mem_singleton] at hp; subst hp; exact hd
section
variable {df : List UInt8} {dn : Nat} {key : List UInt8} {dm : Int} {data : List UInt8} {u : Nat} {lg : Lg}
end
end Go.Orc

namespace Go.Orc
open Go.Vc
def gx (a b : List UInt8) : List UInt8 := List.zipWith (fun x y => x ^^^ y) a b
theorem gx_len {a b : List UInt8} {n : Nat} (ha : a.length = n) (hb : b.length = n) : (gx a b).length = n := by simp [gx, ha, hb]
theorem gx_get {a b : List UInt8} {i n : Nat} (ha : a.length = n) (hb : b.length = n) (hi : i < n) : (gx a b).getD i 0 = a.getD i 0 ^^^ b.getD i 0 := by
  simp [gx, List.getD_eq_getElem?_getD, List.getElem?_zipWith, ha, hb, hi]
theorem gx_step {a b : List UInt8} {i n : Nat} (ha : a.length = n) (hb : b.length = n) (hi : i < n) : (Go.Sh.mix (gx a b) a i).set i ((Go.Sh.mix (gx a b) a i).getD i 0 ^^^ b.getD i 0) = Go.Sh.mix (gx a b) a (i + 1) := by
  rw [Go.Sh.mix_get (gx_len ha hb) hi, ← gx_get ha hb hi]
  exact Go.Sh.mix_set (gx_len ha hb) ha hi
theorem gx_all {a b : List UInt8} {n : Nat} (ha : a.length = n) (hb : b.length = n) : Go.Sh.mix (gx a b) a n = gx a b := Go.Sh.mix_all (gx_len ha hb) ha (Nat.le_refl _)
def pcB (pg : Nat) (ct : UInt64) : List UInt8 := [leN 8 (UInt64.ofNat pg).toNat, leN 8 ct.toNat].flatten
theorem pcB_len (pg : Nat) (ct : UInt64) : (pcB pg ct).length = 16 := by simp [pcB, leN_len]
def onesL (x : UInt8) : List UInt8 := List.replicate 32 x
theorem onesL_len (x : UInt8) : (onesL x).length = 32 := List.length_replicate ..
theorem ones_set {x : UInt8} {i : Nat} (hi : i < 32) : (Go.Sh.mix (onesL x) (List.replicate 32 0) i).set i x = Go.Sh.mix (onesL x) (List.replicate 32 0) (i + 1) := by
  have h : (onesL x).getD i 0 = x := by rw [onesL, List.getD_eq_getElem?_getD, List.getElem?_replicate, if_pos hi]; rfl
  have := Go.Sh.mix_set (p := onesL x) (h := List.replicate 32 (0 : UInt8)) (d := 0) (n := 32) (onesL_len x) (List.length_replicate ..) hi
  rwa [h] at this
theorem ones_all (x : UInt8) : Go.Sh.mix (onesL x) (List.replicate 32 0) 32 = onesL x := Go.Sh.mix_all (onesL_len x) (List.length_replicate ..) (Nat.le_refl _)
theorem fill_4 {z : Array Value} (hz : z = ⟨List.replicate 128 (vu8 0)⟩) {a b c d : List UInt8} (ha : a.length = 32) (hb : b.length = 32) (hc : c.length = 32) (hd : d.length = 32) :
    Instr.fill (fun i => some (i * 32, 32)) z [(0, .agg ⟨a.map vu8⟩), (1, .agg ⟨b.map vu8⟩), (2, .agg ⟨c.map vu8⟩), (3, .agg ⟨d.map vu8⟩)] = some ⟨(a ++ (b ++ (c ++ d))).map vu8⟩ := by
  have e : (⟨List.replicate 128 (vu8 0)⟩ : Array Value) = ⟨flat [(32, List.replicate 32 (vu8 0)), (32, List.replicate 32 (vu8 0)), (32, List.replicate 32 (vu8 0)), (32, List.replicate 32 (vu8 0))]⟩ := rfl
  rw [hz, e]
  have r : ∀ l : List UInt8, l.length = 32 → SsOk [(32, l.map vu8)] := fun l h => SsOk.cons (SOk.u8 h) SsOk.nil
  have z0 : SOk (32, List.replicate 32 (vu8 0)) := SOk.rep rfl
  have h := (fill_of (pl := fun i => some (i * 32, 32)) (parts := [(0, .agg ⟨a.map vu8⟩), (1, .agg ⟨b.map vu8⟩), (2, .agg ⟨c.map vu8⟩), (3, .agg ⟨d.map vu8⟩)]) (out := [(32, a.map vu8), (32, b.map vu8), (32, c.map vu8), (32, d.map vu8)])
    (FillR.cons [] [(32, List.replicate 32 (vu8 0))] [(32, a.map vu8)] [(32, List.replicate 32 (vu8 0)), (32, List.replicate 32 (vu8 0)), (32, List.replicate 32 (vu8 0))] rfl rfl rfl rfl (r a ha) rfl rfl rfl
    (FillR.cons [(32, a.map vu8)] [(32, List.replicate 32 (vu8 0))] [(32, b.map vu8)] [(32, List.replicate 32 (vu8 0)), (32, List.replicate 32 (vu8 0))] rfl rfl rfl rfl (r b hb) rfl rfl rfl
    (FillR.cons [(32, a.map vu8), (32, b.map vu8)] [(32, List.replicate 32 (vu8 0))] [(32, c.map vu8)] [(32, List.replicate 32 (vu8 0))] rfl rfl rfl rfl (r c hc) rfl rfl rfl
    (FillR.cons [(32, a.map vu8), (32, b.map vu8), (32, c.map vu8)] [(32, List.replicate 32 (vu8 0))] [(32, d.map vu8)] [] rfl rfl rfl rfl (r d hd) rfl rfl rfl FillR.nil))))
    (SsOk.cons z0 (SsOk.cons z0 (SsOk.cons z0 (SsOk.cons z0 SsOk.nil))))).1
  refine h.trans ?_
  simp only [flat, List.map_append]
end Go.Orc

namespace Go.Proofs.YteclkcpdclimnaaGreat
open Go.Proofs.Tryz
open Go.Vc Go.Orc Go.Sh Go.RowKit
set_option maxRecDepth 20000
theorem el24 : ElT Tryz.prog 24 23 32 32 := ElT.mk' underlying24 (i := Tryz.t23) rfl rfl rfl rfl rfl rfl
theorem c_oword (x : UInt64) (w : World) :
  Cs Tryz.prog 98 [(vu64 x)].toArray w (fun v w1 => ∃ a cap, v = .slice a 8 cap ∧ Chg w w1 [] ∧ Own w.heap.size w1 5 1 a 8 cap ((leN 8 x.toNat).map vu8)) := by
 refine Cs.of (n := 11) (args := [(vu64 x)]) Tryz.func98 rfl rfl rfl ?_
 have h_0 := HP.init w
 refine WP.seq (WP.reg ?_)
 refine qA (.slice none 0 0) rfl rfl ?_
 refine WL.nil (thn_n (WP.seq (WP.reg ?_)))
 refine qM (vu64 x) rfl rfl ?_
 refine WL.call Tryz.call73 rfl rfl (c_Put_b x 8 rfl _) rfl ?_
 rintro _ w_3 ⟨a_1, cap_2, rfl, hc_4, ho_5⟩
 have h_6 := h_0.gotRow hc_4 ho_5
 refine qM (.tuple [(.slice a_1 8 cap_2), (vi 0)].toArray) rfl rfl (qV rfl (R.extract rfl rfl) (qV rfl (R.extract rfl rfl) (qA (.slice a_1 8 cap_2) rfl rfl (qA (vi 0) rfl rfl ?_))))
 refine WL.nil (thn_n (WP.seq (WP.reg ?_)))
 refine qM (.slice a_1 8 cap_2) rfl rfl (qA (.slice a_1 8 cap_2) rfl rfl ?_)
 refine WL.nil (thn_n (WP.ret ?_))
 refine ret_of results98 (RV.tmp (v := (.slice a_1 8 cap_2)) rfl RV.nil) ?_
 exact ⟨_, _, rfl, h_6.chgS, h_6.ok _ M0⟩

theorem c_CloneD (a : Option Addr) (n cap : Nat) (df : List UInt8) (hl : df.length = 32 * n) (hn : n ≤ 1000000000) (w : World) (hv : View w a (df.map vu8)) :
  Cs Tryz.prog 81 [(.slice a n cap)].toArray w (fun v w1 => ∃ a cap, v = .slice a n cap ∧ Chg w w1 [] ∧ Own w.heap.size w1 23 32 a n cap (df.map vu8)) := by
 refine Cs.of (n := 8) (args := [(.slice a n cap)]) Tryz.func81 rfl rfl rfl ?_
 have h_0 := HP.init w
 have h_00 := h_0.old (View.arg hv) (fun f hf => by cases hf)
 refine WP.seq (WP.reg ?_)
 refine qA (.slice none 0 0) rfl rfl ?_
 refine WL.nil (thn_n (WP.seq (WP.seq (WP.reg ?_))))
 refine qM (.slice a n cap) rfl rfl (qV rfl (R.eqNilS rfl rfl underlying24) ?_)
 refine WL.nil (thn_n ?_)
 refine WP.cond (b := a.isNone) rfl (fun c_1 => ?_) (fun c_1 => ?_)
 ·refine WP.seq (WP.reg ?_)
  refine qA (.slice none 0 0) rfl rfl ?_
  refine WL.nil (thn_n (WP.ret (thn_r ?_)))
  refine ret_of results81 (RV.tmp (v := (.slice none 0 0)) rfl RV.nil) ?_
  obtain rfl : df = [] := view_none c_1 hv
  obtain rfl : n = 0 := by simp at hl; omega
  exact ⟨none, 0, rfl, h_00.chgS, Own.nil ..⟩
 ·refine WP.skip (thn_n (WP.seq (WP.reg ?_)))
  refine WL.buildSl0 h_00 underlying24 sizeOf23 rfl (fun b_2 w_3 h_4 => ?_)
  refine qM (.slice a n cap) rfl rfl ?_
  refine WL.append (km := n) (xs := []) (ys := df.map vu8) (zs := df.map vu8) h_4 rfl rfl el24 (viewV (h_4.ok _ M1)) ((len_map hl).trans (by omega)) (one_u8 _) rfl (by omega) (by omega) (by omega) (fun _ _ => At.h) rfl (fun a_5 c_6 w_7 h_8 => ?_)
  refine qA (.slice a_5 n c_6) rfl rfl ?_
  refine WL.nil (thn_n (WP.ret ?_))
  refine ret_of results81 (RV.tmp (v := (.slice a_5 n c_6)) rfl RV.nil) ?_
  exact ⟨_, _, rfl, h_8.chgS, h_8.ok _ M0⟩

theorem c_draw {w00 : World} {L : List Ent} (id : Bool) (ob mp : Nat) (ms df : List UInt8) (hms : ms.length = 32) (da : Option Addr) (dn dc u : Nat) (hdf : df.length = 32 * dn) (la : Option Addr) (lc : Nat) (lx : List Value) (lg : Lg) (hu : u ≤ 1000000) (hlg : lg.length ≤ 1000000) (w : World) (h_0 : HP w00 w (Ent.blk ob .nw 118 [(1, [(.bool id)]), (32, ms.map vu8), (1, [(.slice da dn dc)]), (1, [(vi ((u : Nat) : Int))]), (1, [(.map (some mp))]), (1, [(.slice la lg.length lc)])] :: Ent.view da (df.map vu8) :: L)) :
  Cs Tryz.prog 113 [(.pointer (some ⟨ob, 0, none⟩))].toArray w (fun v w1 => v = (.agg ⟨(drawF df dn u).map vu8⟩) ∧ HP w00 w1 (Ent.blk ob .nw 118 [(1, [(.bool id)]), (32, ms.map vu8), (1, [(.slice da dn dc)]), (1, [(vi (((u + 1) : Nat) : Int))]), (1, [(.map (some mp))]), (1, [(.slice la lg.length lc)])] :: Ent.view da (df.map vu8) :: L)) := by
 refine Cs.of (n := 37) (args := [(pO ob 0)]) Tryz.func113 rfl rfl rfl ?_
 refine WP.seq (WP.reg ?_)
 refine WL.alloc (segs := [(32, (zB 32).map vu8)]) h_0 (zv typeInfo23 rfl) rfl (sC (s8 lr) sN) rfl (fun b_1 w_2 h_3 => ?_)
 refine WL.nil (thn_n (WP.seq (WP.reg ?_)))
 refine qM (pO ob 0) rfl rfl (qV rfl (R.nilCheck rfl) (qV rfl (R.fieldAddr (off' := 34) rfl underlying118 rfl sizeOf3 rfl rfl) (qV rfl (R.load1 rfl isAgg3 (h_3.ok _ M1) (Sg.t rfl (Sg.t rfl (Sg.t rfl Sg.h)))) (qA (vn u) rfl rfl ?_))))
 refine WL.nil (thn_n (WP.seq (WP.reg ?_)))
 refine qM (pO ob 0) rfl rfl (qV rfl (R.nilCheck rfl) (qV rfl (R.fieldAddr (off' := 34) rfl underlying118 rfl sizeOf3 rfl rfl) (qV rfl (R.load1 rfl isAgg3 (h_3.ok _ M1) (Sg.t rfl (Sg.t rfl (Sg.t rfl Sg.h)))) (qV rfl (R.bin rfl rfl (bi_add (c := ((u + 1 : Nat) : Int)) (by omega) (by omega))) (qV rfl (R.nilCheck rfl) (qV rfl (R.fieldAddr (off' := 34) rfl underlying118 rfl sizeOf3 rfl rfl) ?_))))))
 refine WL.store1 h_3 rfl rfl sizeOf3 rfl Y1 (by decide) (Sg.t rfl (Sg.t rfl (Sg.t rfl Sg.h))) (fun w_4 h_5 => ?_)
 refine WL.nil (thn_n (WP.seq (WP.seq (WP.reg ?_))))
 refine qM (vn u) rfl rfl (qM (pO ob 0) rfl rfl (qV rfl (R.nilCheck rfl) (qV rfl (R.fieldAddr (off' := 33) rfl underlying118 rfl sizeOf24 rfl rfl) (qV rfl (R.load1 rfl isAgg24 (h_5.ok _ M1) (Sg.t rfl (Sg.t rfl Sg.h))) (qV rfl (R.lenS (a := da) (m := dn) rfl rfl underlying24) (qV rfl (R.bin rfl rfl (bi_lss (r := decide ((((u : Nat) : Int) : Int) < ((dn : Nat) : Int))) rfl)) ?_))))))
 refine WL.nil (thn_n ?_)
 refine WP.cond (b := decide ((((u : Nat) : Int) : Int) < ((dn : Nat) : Int))) rfl (fun c_6 => ?_) (fun c_6 => ?_)
 ·have p_7 := of_decide_eq_true c_6
  refine WP.seq (WP.reg ?_)
  refine qM (pO ob 0) rfl rfl (qV rfl (R.nilCheck rfl) (qV rfl (R.fieldAddr (off' := 33) rfl underlying118 rfl sizeOf24 rfl rfl) (qV rfl (R.load1 rfl isAgg24 (h_5.ok _ M1) (Sg.t rfl (Sg.t rfl Sg.h))) (qM (vn u) rfl rfl (qV rfl (R.indexS (a := da) (i := u) (off := u * 32) (xs := df.map vu8) rfl rfl rfl (by omega) (viewV (h_5.ok _ M2)) (lt_len (K := 32 * dn) (len_map hdf) (by omega)) underlying24 sizeOf23 rfl) (qV rfl (R.loadGA (a := da) (i := u * 32) (xs := df.map vu8) (cs := (((df).drop (u * 32)).take 32).map vu8) rfl (viewV (h_5.ok _ M2)) isAgg23 sizeOf23 (by rw [List.map_take, List.map_drop]) (len_map (subLen (K := 32 * dn) hdf (by omega) : List.length (((df).drop (u * 32)).take 32) = 32)) (by decide)) ?_))))))
  refine WL.storeA [] [(32, (zB 32).map vu8)] [(32, (((df).drop (u * 32)).take 32).map vu8)] [] h_5 rfl rfl sizeOf23 At.h (by decide) rfl rfl rfl rfl rfl rfl (sC (s8 (subLen (K := 32 * dn) hdf (by omega) : List.length (((df).drop (u * 32)).take 32) = 32)) sN) (fun w_8 h_9 => ?_)
  refine WL.nil (thn_n (WP.ret (thn_r ?_)))
  refine ret_of results113 (RV.cell rfl (h_9.loadA (cs := (((df).drop (u * 32)).take 32).map vu8) isAgg23 sizeOf23 M0 rfl rfl) RV.nil) ?_
  have h_12 := ((h_9.drop rfl).up J1).up J1
  exact ⟨by rw [drawF, if_pos (by omega)]; rfl, h_12⟩
 ·have p_13 := of_decide_eq_false c_6
  refine WP.skip (thn_n (WP.seq (WP.reg ?_)))
  refine WL.alloc (segs := [(32, (zB 32).map vu8)]) h_5 (zv typeInfo23 rfl) rfl (sC (s8 lr) sN) rfl (fun b_14 w_15 h_16 => ?_)
  refine WL.nil (thn_n (WP.seq ?_))
  refine WP.drawT (SL w00.heap.size [.blk b_1 .nw 23 [(32, (zB 32).map vu8)], .blk ob .nw 118 [(1, [(.bool id)]), (32, ms.map vu8), (1, [(.slice da dn dc)]), (1, [(vn (u + 1))]), (1, [(.map (some mp))]), (1, [(.slice la lg.length lc)])], .view da (df.map vu8)]) (.q 0 (.q 1 (.q 2 (.s 3 (.s 4 .nil))))) (by kernel_rfl) (by kernel_rfl) rfl (by kernel_rfl) (fun w_17 hc_19 => (SL.cons ((h_16.same hc_19).ok _ M1) (SL.cons ((h_16.same hc_19).ok _ M2) (SL.cons ((h_16.same hc_19).ok _ M3) (SL.nil _ _))))) (fun w_17 hc_19 => ?_)
  have h_18 := h_16.same hc_19
  refine qT rfl rfl (fun wq hS => R.sliceA (b := b_14) (off := 0) (off' := 0) (l := 0) (h := 32) rfl EvB.dflt EvB.dflt (by decide) (by decide) underlying23 sizeOf5 rfl) ?_
  refine qT rfl rfl (fun wq hS => R.move (v := (vn u)) rfl) ?_
  refine qT rfl rfl (fun wq hS => R.conv (b := ((UInt64.ofNat u) : UInt64).toNat) rfl underlying3 underlying27 (w64_nat u)) ?_
  refine WT.s (oN rfl ?_)
  refine WL.call Tryz.call98 rfl rfl (c_oword (UInt64.ofNat u) _) rfl ?_
  rintro _ w_22 ⟨a_20, cap_21, rfl, hc_23, ho_24⟩
  have h_25 := h_18.gotRow hc_23 ho_24
  refine WL.nil ?_
  refine ⟨(N2_3_4 h_25.ok), ?_⟩
  refine WT.s (oN rfl ?_)
  refine WL.copy (q := 8) (i := 0) (ys := (leN 8 (UInt64.ofNat u).toNat).map vu8) (cs' := ((leN 8 (UInt64.ofNat u).toNat) ++ (zB 32).drop 8).map vu8) h_25 rfl rfl underlying88 sizeOf5 (ownView (h_25.ok _ M0)) (len_map (leN_len ..)) (one_u8 _) Y1 (by decide) Sg.h rfl (by decide) (by rw [len_map lr]; decide) (cpPre (leN_len ..)) rfl (fun w_26 h_27 => ?_)
  refine WL.nil ?_
  refine ⟨(N2_3_4 h_27.ok), ?_⟩
  refine WT.nil (thn_n (WP.seq (WP.reg ?_)))
  refine qV rfl (R.indexA (b := b_14) (off := 0) (off' := 31) (i := 31) rfl rfl rfl (by decide) underlying23 sizeOf5 rfl) ?_
  refine WL.storeE (b := b_14) (off := 31) (i := 31) (v := (vu8 1)) (cs' := (((leN 8 (UInt64.ofNat u).toNat) ++ (zB 32).drop 8).set 31 1).map vu8) h_27 rfl rfl sizeOf5 rfl Y1 (by decide) Sg.h rfl (lt_len (K := 32) (len_map (cpLen (leN_len ..) lr (by decide))) (by decide)) (set_u8 _ _ _) (fun w_28 h_29 => ?_)
  refine WL.nil (thn_n (WP.seq (WP.reg ?_)))
  refine qV rfl (R.loadA [] [(32, (((leN 8 (UInt64.ofNat u).toNat) ++ (zB 32).drop 8).set 31 1).map vu8)] [] (cs := (((leN 8 (UInt64.ofNat u).toNat) ++ (zB 32).drop 8).set 31 1).map vu8) rfl isAgg23 sizeOf23 (h_29.ok _ M1) rfl rfl rfl rfl) ?_
  refine WL.storeA [] [(32, (zB 32).map vu8)] [(32, (((leN 8 (UInt64.ofNat u).toNat) ++ (zB 32).drop 8).set 31 1).map vu8)] [] h_29 rfl rfl sizeOf23 Y2 (by decide) rfl rfl rfl rfl rfl rfl (sC (s8 (len_set (cpLen (leN_len ..) lr (by decide)) _ _)) sN) (fun w_30 h_31 => ?_)
  refine WL.nil (thn_n (WP.ret ?_))
  refine ret_of results113 (RV.cell rfl (h_31.loadA (cs := (((leN 8 (UInt64.ofNat u).toNat) ++ (zB 32).drop 8).set 31 1).map vu8) isAgg23 sizeOf23 M2 rfl rfl) RV.nil) ?_
  have h_36 := ((((h_31.drop rfl).drop rfl).drop rfl).up J1).up J1
  exact ⟨by rw [drawF, if_neg (by omega), ← draw_tail (by omega)]; rfl, h_36⟩
end Go.Proofs.YteclkcpdclimnaaGreat

namespace Go.Orc
open Go.Vc Go.RowKit
section
variable {w w' w0 : World} {L : List Ent}
end
end Go.Orc

namespace Go.Orc
open Go.Vc Go.RowKit
end Go.Orc
namespace Go.Orc
open Go.Vc Go.RowKit
end Go.Orc
namespace Go.Orc
open Go.Vc Go.RowKit
end Go.Orc

namespace Go.Orc
open Go.Vc Go.RowKit
def i2u8 (x : Int) : UInt8 := UInt8.ofNat x.toNat
theorem i2u8_w {x : Int} (h : 0 ≤ x) : IntKind.u8.wrap x = ((i2u8 x).toNat : Int) := by
  obtain ⟨n, rfl⟩ := Int.eq_ofNat_of_zero_le h
  rw [w8_nat, i2u8]; rfl
def cT (q : Qn) : List UInt8 := ([i2u8 q.1] ++ q.2.1) ++ [i2u8 q.2.2.1] ++ q.2.2.2
theorem cT_len {q : Qn} {n : Nat} (hq : okQ q) (h : q.2.2.2.length = n) : (cT q).length = 34 + n := by
  obtain ⟨k, key, d, data⟩ := q
  have := hq.1
  simp [cT] at *
  omega
def cF (q : Qn) : List UInt8 := if q.1 = 1 then Go.Sh.sumL (cT q) else Go.Sh.tagL q.2.1 (cT q)
theorem cF_len (q : Qn) : (cF q).length = 32 := by
  unfold cF; split
  · exact Go.Sh.sumL_len _
  · exact Go.Sh.tagL_len _ _
def mF (id : Bool) (df : List UInt8) (dn u : Nat) (q : Qn) : List UInt8 := bif id then drawF df dn u else cF q
theorem mF_len {id : Bool} {df : List UInt8} {dn u : Nat} {q : Qn} (h : df.length = 32 * dn) : (mF id df dn u q).length = 32 := by
  cases id
  · exact cF_len q
  · exact drawF_len h
def anD (id : Bool) (df : List UInt8) (dn u : Nat) (l : Lg) (q : Qn) : List UInt8 := match fdq q l 0 with
  | some i => (l.getD i (q, [])).2
  | none => mF id df dn u q
def anU (id : Bool) (u : Nat) (l : Lg) (q : Qn) : Nat := match fdq q l 0 with
  | some _ => u
  | none => bif id then u + 1 else u
def anL (id : Bool) (df : List UInt8) (dn u : Nat) (l : Lg) (q : Qn) : Lg := match fdq q l 0 with
  | some _ => l
  | none => l ++ [(q, mF id df dn u q)]
section
variable {id : Bool} {df : List UInt8} {dn u : Nat} {l : Lg} {q : Qn} {i : Nat}
theorem anD_hit (h : fdq q l 0 = some i) : anD id df dn u l q = (l.getD i (q, [])).2 := by rw [anD, h]
theorem anU_hit (h : fdq q l 0 = some i) : anU id u l q = u := by rw [anU, h]
theorem anL_hit (h : fdq q l 0 = some i) : anL id df dn u l q = l := by rw [anL, h]
theorem anD_miss (h : fdq q l 0 = none) : anD id df dn u l q = mF id df dn u q := by rw [anD, h]
theorem anU_miss (h : fdq q l 0 = none) : anU id u l q = bif id then u + 1 else u := by rw [anU, h]
theorem anL_miss (h : fdq q l 0 = none) : anL id df dn u l q = l ++ [(q, mF id df dn u q)] := by rw [anL, h]
theorem anU_le (id : Bool) (u : Nat) (l : Lg) (q : Qn) : anU id u l q ≤ u + 1 := by
  rw [anU]; split
  · omega
  · cases id
    · exact Nat.le_succ u
    · exact Nat.le_refl _
theorem anL_le (id : Bool) (df : List UInt8) (dn u : Nat) (l : Lg) (q : Qn) : (anL id df dn u l q).length ≤ l.length + 1 := by
  rw [anL]; split
  · omega
  · rw [snoc_len]; exact Nat.le_refl _
theorem anD_len (h : df.length = 32 * dn) (hl : ok32 l) : (anD id df dn u l q).length = 32 := by
  rw [anD]
  split
  · rename_i i hi
    have := fdq_lt hi
    have hlt : i < l.length := by omega
    have e : l.getD i (q, []) = l[i] := by simp [hlt]
    rw [e]; exact hl _ (List.getElem_mem hlt)
  · exact mF_len h
theorem anL_32 (h : df.length = 32 * dn) (hl : ok32 l) : ok32 (anL id df dn u l q) := by
  rw [anL]
  split
  · exact hl
  · intro p hp
    rcases List.mem_append.1 hp with hp | hp
    · exact hl p hp
    · rw [List.mem_singleton] at hp; subst hp; exact mF_len h
end
end Go.Orc
namespace Go.Orc
open Go.Vc Go.RowKit
theorem okN : ok32 ([] : Lg) := fun p hp => by cases hp
def sT (df : List UInt8) (dn : Nat) (key : List UInt8) (dm : Int) (data : List UInt8) (u : Nat) (lg : Lg) : Nat → Nat × Lg × List UInt8
  | 0 => (u, lg, [])
  | k + 1 => (anU true (sT df dn key dm data u lg k).1 (sT df dn key dm data u lg k).2.1 (4, key, dm, data ++ leN 8 k), anL true df dn (sT df dn key dm data u lg k).1 (sT df dn key dm data u lg k).2.1 (4, key, dm, data ++ leN 8 k), (sT df dn key dm data u lg k).2.2 ++ anD true df dn (sT df dn key dm data u lg k).1 (sT df dn key dm data u lg k).2.1 (4, key, dm, data ++ leN 8 k))
section
variable {df : List UInt8} {dn : Nat} {key : List UInt8} {dm : Int} {data : List UInt8} {u : Nat} {lg : Lg}
theorem sT_32 (h : df.length = 32 * dn) (hl : ok32 lg) : ∀ k, ok32 (sT df dn key dm data u lg k).2.1
  | 0 => hl
  | k + 1 => anL_32 h (sT_32 h hl k)
theorem sT_len (h : df.length = 32 * dn) (hl : ok32 lg) : ∀ k, (sT df dn key dm data u lg k).2.2.length = 32 * k
  | 0 => rfl
  | k + 1 => by
    show ((sT df dn key dm data u lg k).2.2 ++ anD true df dn _ _ _).length = _
    rw [List.length_append, sT_len h hl k, anD_len h (sT_32 h hl k)]; omega
theorem sT_u : ∀ k, (sT df dn key dm data u lg k).1 ≤ u + k
  | 0 => Nat.le_refl _
  | k + 1 => by
    have h1 := sT_u k
    have h2 := anU_le true (sT df dn key dm data u lg k).1 (sT df dn key dm data u lg k).2.1 (4, key, dm, data ++ leN 8 k)
    show anU _ _ _ _ ≤ _
    omega
theorem sT_l : ∀ k, (sT df dn key dm data u lg k).2.1.length ≤ lg.length + k
  | 0 => Nat.le_refl _
  | k + 1 => by
    have h1 := sT_l k
    have h2 := anL_le true df dn (sT df dn key dm data u lg k).1 (sT df dn key dm data u lg k).2.1 (4, key, dm, data ++ leN 8 k)
    show (anL _ _ _ _ _ _).length ≤ _
    omega
end
end Go.Orc

namespace Go.Proofs.YteclkcpdclimnaaGreat
open Go.Proofs.Tryz
open Go.Vc Go.Orc Go.Sh Go.RowKit
set_option maxRecDepth 20000
theorem ce5 : Tryz.prog.cellsOf 5 = 1 := by kernel_rfl
theorem ce9 : Tryz.prog.cellsOf 9 = 1 := by kernel_rfl
theorem ce23 : Tryz.prog.cellsOf 23 = 32 := by kernel_rfl
theorem ce86 : Tryz.prog.cellsOf 86 = 1 := by kernel_rfl
theorem ce87 : Tryz.prog.cellsOf 87 = 1 := by kernel_rfl
theorem ce140 : Tryz.prog.cellsOf 140 = 35 := by kernel_rfl
theorem el44 : ElT Tryz.prog 44 96 67 104 := ElT.mk' underlying44 (i := Tryz.t96) rfl rfl rfl rfl rfl rfl
theorem kt140 : Tryz.prog.keyTypeAt 3 140 = true := by kernel_rfl
theorem ag140 : aggB Tryz.prog 140 = true := by unfold aggB; rw [underlying140]
theorem pl96 : ∀ fs, Tryz.prog.underlying 96 = some (.struct fs) → Places Tryz.prog fs [(0, 35), (35, 32)] := by
 intro fs h w; rw [underlying96] at h; cases h; simp
theorem pl140 : ∀ fs, Tryz.prog.underlying 140 = some (.struct fs) → Places Tryz.prog fs [(0, 1), (1, 32), (33, 1), (34, 1)] := by
 intro fs h w; rw [underlying140] at h; cases h; simp
theorem typQ (q : Qn) (h : okQ q) : Typ Tryz.prog 3 140 (kC q) := by
 obtain ⟨h0, h1, h2, h3⟩ := h
 have h : okQ q := ⟨h0, h1, h2, h3⟩
 exact (Typ.struct (h := 2) (r := [(1, [(vi q.1)]), (32, q.2.1.map vu8), (1, [(vi q.2.2.1)]), (1, [(.string (bstr q.2.2.2))])]) (cs := flat [(1, [(vi q.1)]), (32, q.2.1.map vu8), (1, [(vi q.2.2.1)]), (1, [(.string (bstr q.2.2.2))])]) underlying140 (TypF.cons (k := 1) rfl rfl (by decide) rfl (Typ.int underlying86 ce86 (WalkArith.wf_i64 (by omega))) (TypF.cons (k := 32) rfl rfl (by decide) (len_map h.1) (Typ.u8s underlying23 ce23 underlying5 ce5 h.1) (TypF.cons (k := 1) rfl rfl (by decide) rfl (Typ.int underlying87 ce87 (WalkArith.wf_i64 (by omega))) (TypF.cons (k := 1) rfl rfl (by decide) rfl (Typ.str underlying9 ce9 (by rw [bstr_size]; simp only [maxLen]; omega)) TypF.nil)))) rfl (((sC sV (sC (s8 h.1) (sC sV (sC sV sN))))).len.trans ce140.symm))

theorem c_oText (kd dm : Int) (key data : List UInt8) (qa : Option Addr) (qn qc : Nat) (hq : okQ (kd, key, dm, data)) (hdl : data.length = qn) (w : World) (hv : View w qa (data.map vu8)) :
  Cs Tryz.prog 90 [(.agg ⟨flat [(1, [(vi kd)]), (32, key.map vu8), (1, [(vi dm)]), (1, [(.slice qa qn qc)])]⟩)].toArray w (fun v w1 => ∃ a cap, v = .slice a (34 + qn) cap ∧ Chg w w1 [] ∧ Own w.heap.size w1 5 1 a (34 + qn) cap ((cT (kd, key, dm, data)).map vu8)) := by
 have hk1 : 1 ≤ kd ∧ kd ≤ 4 := hq.2.1
 have hd1 : 1 ≤ dm ∧ dm ≤ 16 := hq.2.2.1
 have hqn : data.length ≤ 1000000000 := hq.2.2.2
 refine Cs.of (n := 20) (args := [(.agg ⟨flat [(1, [(vi kd)]), (32, key.map vu8), (1, [(vi dm)]), (1, [(.slice qa qn qc)])]⟩)]) Tryz.func90 rfl rfl rfl ?_
 have h_0 := HP.init w
 have h_00 := h_0.old (View.arg hv) (fun f hf => by cases hf)
 refine WP.seq (WP.reg ?_)
 refine WL.box (segs := [(1, [(vi kd)]), (32, key.map vu8), (1, [(vi dm)]), (1, [(.slice qa qn qc)])]) h_00 rfl rfl (sC sV (sC (s8 hq.1) (sC sV (sC sV sN)))) rfl (fun b_1 w_2 h_3 => ?_)
 refine qA (.slice none 0 0) rfl rfl ?_
 refine WL.nil (thn_n (WP.seq ?_))
 refine WP.drawT (SL w.heap.size [.blk b_1 .nw 90 [(1, [(vi kd)]), (32, key.map vu8), (1, [(vi dm)]), (1, [(.slice qa qn qc)])], .view qa (data.map vu8)]) (.q 0 (.q 1 (.q 2 (.q 4 (.q 5 (.s 3 (.s 6 (.q 7 .nil)))))))) (by kernel_rfl) (by kernel_rfl) rfl (by kernel_rfl) (fun w_4 hc_6 => (SL.cons ((h_3.same hc_6).ok _ M0) (SL.cons ((h_3.same hc_6).ok _ M1) (SL.nil _ _)))) (fun w_4 hc_6 => ?_)
 have h_5 := h_3.same hc_6
 refine qT rfl rfl (fun wq hS => R.fieldAddr (off' := 0) rfl underlying90 rfl sizeOf86 rfl rfl) ?_
 refine qT rfl rfl (fun wq hS => R.load1 rfl isAgg86 (hS _ M0) Sg.h) ?_
 refine qT rfl rfl (fun wq hS => R.conv (b := ((i2u8 kd) : UInt8).toNat) rfl underlying86 underlying5 (i2u8_w (by omega))) ?_
 refine qT rfl rfl (fun wq hS => R.fieldAddr (off' := 1) rfl underlying90 rfl sizeOf23 rfl rfl) ?_
 refine qT rfl rfl (fun wq hS => R.sliceA (b := b_1) (off := 1) (off' := 1) (l := 0) (h := 32) rfl EvB.dflt EvB.dflt (by decide) (by decide) underlying23 sizeOf5 rfl) ?_
 refine WT.s (oN rfl ?_)
 refine WL.buildSl (vs := [(0, (vu8 (i2u8 kd)))]) (cs := ([i2u8 kd] : List UInt8).map vu8) h_5 underlying88 sizeOf5 (zv typeInfo5 rfl) rfl rfl (by kernel_rfl) rfl (one_u8 _) rfl rfl (fun b_7 w_8 h_9 => ?_)
 refine WL.nil ?_
 refine ⟨(N1_2 h_9.ok), ?_⟩
 refine WT.s (oN rfl ?_)
 have h_10 := HP.blkRow (m := 1) (s := 1) h_9 At.h rfl (by simp only [maxLen]; decide)
 refine WL.append (km := 33) (xs := ([i2u8 kd] : List UInt8).map vu8) (ys := key.map vu8) (zs := (([i2u8 kd] : List UInt8) ++ key).map vu8) h_10 rfl rfl el88 (viewB (h_10.ok _ M1) (Sg.t rfl Sg.h)) ((len_map hq.1).trans (Nat.mul_one _).symm) (one_u8 _) (by simp only [List.map_append, List.map_nil]) rfl (by omega) (by omega) (fun _ _ => At.h) rfl (fun a_11 c_12 w_13 h_14 => ?_)
 refine WL.nil ?_
 refine ⟨(N1_2 h_14.ok), ?_⟩
 refine qT rfl rfl (fun wq hS => R.assign (v := (.slice a_11 33 c_12)) rfl) ?_
 refine WT.nil (thn_n (WP.seq ?_))
 refine WP.drawT (SL w.heap.size [.blk b_1 .nw 90 [(1, [(vi kd)]), (32, key.map vu8), (1, [(vi dm)]), (1, [(.slice qa qn qc)])], .view qa (data.map vu8)]) (.q 0 (.q 1 (.q 2 (.q 3 (.q 6 (.q 7 (.s 4 (.s 5 (.s 8 (.q 9 .nil)))))))))) (by kernel_rfl) (by kernel_rfl) rfl (by kernel_rfl) (fun w_15 hc_17 => (SL.cons ((h_14.same hc_17).ok _ M1) (SL.cons ((h_14.same hc_17).ok _ M2) (SL.nil _ _)))) (fun w_15 hc_17 => ?_)
 have h_16 := h_14.same hc_17
 refine qT rfl rfl (fun wq hS => R.move (v := (.slice a_11 33 c_12)) rfl) ?_
 refine qT rfl rfl (fun wq hS => R.fieldAddr (off' := 33) rfl underlying90 rfl sizeOf87 rfl rfl) ?_
 refine qT rfl rfl (fun wq hS => R.load1 rfl isAgg87 (hS _ M0) (Sg.t rfl (Sg.t rfl Sg.h))) ?_
 refine qT rfl rfl (fun wq hS => R.conv (b := ((i2u8 dm) : UInt8).toNat) rfl underlying87 underlying5 (i2u8_w (by omega))) ?_
 refine qT rfl rfl (fun wq hS => R.fieldAddr (off' := 34) rfl underlying90 rfl sizeOf88 rfl rfl) ?_
 refine qT rfl rfl (fun wq hS => R.load1 rfl isAgg88 (hS _ M0) (Sg.t rfl (Sg.t rfl (Sg.t rfl Sg.h)))) ?_
 refine WT.s (oN rfl ?_)
 refine WL.buildSl (vs := [(0, (vu8 (i2u8 dm)))]) (cs := ([i2u8 dm] : List UInt8).map vu8) h_16 underlying88 sizeOf5 (zv typeInfo5 rfl) rfl rfl (by kernel_rfl) rfl (one_u8 _) rfl rfl (fun b_18 w_19 h_20 => ?_)
 refine WL.nil ?_
 refine ⟨(N2_3 h_20.ok), ?_⟩
 refine WT.s (oN rfl ?_)
 refine WL.append (km := 34) (xs := (([i2u8 kd] : List UInt8) ++ key).map vu8) (ys := ([i2u8 dm] : List UInt8).map vu8) (zs := ((([i2u8 kd] : List UInt8) ++ key) ++ ([i2u8 dm] : List UInt8)).map vu8) h_20 rfl rfl el88 (viewB (h_20.ok _ M0) Sg.h) ((len_map (rfl : List.length ([i2u8 dm] : List UInt8) = 1)).trans (Nat.mul_one _).symm) (one_u8 _) (by simp only [List.map_append, List.map_nil]) rfl (by omega) (by omega) (fun _ _ => Y1) rfl (fun a_21 c_22 w_23 h_24 => ?_)
 refine WL.nil ?_
 refine ⟨(N2_3 h_24.ok), ?_⟩
 refine WT.s (oN rfl ?_)
 refine WL.append (km := 34 + qn) (xs := ((([i2u8 kd] : List UInt8) ++ key) ++ ([i2u8 dm] : List UInt8)).map vu8) (ys := data.map vu8) (zs := (((([i2u8 kd] : List UInt8) ++ key) ++ ([i2u8 dm] : List UInt8)) ++ data).map vu8) h_24 rfl rfl el88 (viewV (h_24.ok _ M3)) ((len_map hdl).trans (Nat.mul_one _).symm) (one_u8 _) (by simp only [List.map_append, List.map_nil]) (by omega) (by omega) (by omega) (fun _ _ => Y1) rfl (fun a_25 c_26 w_27 h_28 => ?_)
 refine WL.nil ?_
 refine ⟨(N2_3 h_28.ok), ?_⟩
 refine qT rfl rfl (fun wq hS => R.assign (v := (.slice a_25 (34 + qn) c_26)) rfl) ?_
 refine WT.nil (thn_n (WP.ret ?_))
 refine ret_of results90 (RV.tmp (v := (.slice a_25 (34 + qn) c_26)) rfl RV.nil) ?_
 exact ⟨_, _, by first | rfl | exact congrArg (fun n => Value.slice _ n _) (by omega), h_28.chgS, by first | exact h_28.ok _ M1 | (have hx := h_28.own M1; rwa [show 34 + qn = 34 + qn by omega] at hx)⟩

theorem c_ans_hit {w00 : World} {L : List Ent} (id : Bool) (ob mp : Nat) (ms df : List UInt8) (hms : ms.length = 32) (da : Option Addr) (dn dc u : Nat) (hdf : df.length = 32 * dn) (la : Option Addr) (lc : Nat) (lx : List Value) (lg : Lg) (hu : u ≤ 1000000) (hlg : lg.length ≤ 1000000) (kd dm : Int) (key data : List UInt8) (qa : Option Addr) (qn qc : Nat) (hq : okQ (kd, key, dm, data)) (hdl : data.length = qn) (cv : Value) (i : Nat) (hfd : fdq (kd, key, dm, data) lg 0 = some i) (w : World) (h_0 : HP w00 w (Ent.blk ob .nw 118 [(1, [(.bool id)]), (32, ms.map vu8), (1, [(.slice da dn dc)]), (1, [(vi ((u : Nat) : Int))]), (1, [(.map (some mp))]), (1, [(.slice la lg.length lc)])] :: Ent.row la lg.length lc 96 67 lx :: Ent.obj mp .nw (.map (mArr lg) lg.length) :: Ent.pin (sblks lx) (fun w => Lgs w lx lg) :: Ent.view da (df.map vu8) :: Ent.view qa (data.map vu8) :: L)) :
  Cs Tryz.prog 87 [(.pointer (some ⟨ob, 0, none⟩)), (.agg ⟨flat [(1, [(vi kd)]), (32, key.map vu8), (1, [(vi dm)]), (1, [(.slice qa qn qc)])]⟩), cv].toArray w (fun v w1 => ∃ la' lc' lx', v = (.agg ⟨(anD id df dn u lg (kd, key, dm, data)).map vu8⟩) ∧ HP w00 w1 (Ent.blk ob .nw 118 [(1, [(.bool id)]), (32, ms.map vu8), (1, [(.slice da dn dc)]), (1, [(vi (((anU id u lg (kd, key, dm, data)) : Nat) : Int))]), (1, [(.map (some mp))]), (1, [(.slice la' ((anL id df dn u lg (kd, key, dm, data)).length) lc')])] :: Ent.row la' ((anL id df dn u lg (kd, key, dm, data)).length) lc' 96 67 lx' :: Ent.obj mp .nw (.map (mArr (anL id df dn u lg (kd, key, dm, data))) ((anL id df dn u lg (kd, key, dm, data)).length)) :: Ent.pin (sblks lx') (fun w => Lgs w lx' (anL id df dn u lg (kd, key, dm, data))) :: Ent.view da (df.map vu8) :: Ent.view qa (data.map vu8) :: L)) := by
 have hlgs : Lgs w lx lg := (h_0.ok _ M3).1
 have hlo := hlgs.ok
 have hqn : data.length ≤ 1000000000 := hq.2.2.2
 have hil : i < lg.length := by have := fdq_lt hfd; omega
 refine Cs.of (n := 74) (args := [(pO ob 0), (.agg ⟨flat [(1, [(vi kd)]), (32, key.map vu8), (1, [(vi dm)]), (1, [(.slice qa qn qc)])]⟩), cv]) Tryz.func87 rfl rfl rfl ?_
 refine WP.seq (WP.reg ?_)
 refine WL.box (segs := [(1, [(vi kd)]), (32, key.map vu8), (1, [(vi dm)]), (1, [(.slice qa qn qc)])]) h_0 rfl rfl (sC sV (sC (s8 hq.1) (sC sV (sC sV sN)))) rfl (fun b_1 w_2 h_3 => ?_)
 refine WL.alloc (segs := [(32, (zB 32).map vu8)]) h_3 (zv typeInfo23 rfl) rfl (sC (s8 lr) sN) rfl (fun b_4 w_5 h_6 => ?_)
 refine WL.nil (thn_n (WP.seq (WP.reg ?_)))
 refine qV rfl (R.fieldAddr (off' := 0) rfl underlying90 rfl sizeOf86 rfl rfl) (qV rfl (R.load1 rfl isAgg86 (h_6.ok _ M1) Sg.h) (qV rfl (R.fieldAddr (off' := 1) rfl underlying90 rfl sizeOf23 rfl rfl) (qV rfl (R.loadA [(1, [(vi kd)])] [(32, key.map vu8)] [(1, [(vi dm)]), (1, [(.slice qa qn qc)])] (cs := key.map vu8) rfl isAgg23 sizeOf23 (h_6.ok _ M1) rfl rfl rfl rfl) (qV rfl (R.fieldAddr (off' := 33) rfl underlying90 rfl sizeOf87 rfl rfl) (qV rfl (R.load1 rfl isAgg87 (h_6.ok _ M1) (Sg.t rfl (Sg.t rfl Sg.h))) (qV rfl (R.fieldAddr (off' := 34) rfl underlying90 rfl sizeOf88 rfl rfl) (qV rfl (R.load1 rfl isAgg88 (h_6.ok _ M1) (Sg.t rfl (Sg.t rfl (Sg.t rfl Sg.h)))) (qV rfl (R.toStr (bs := data) rfl underlying88 underlying5 underlying9 (viewV (h_6.ok _ M7)) hdl) (qV rfl (R.buildS (pl := [(0, 1), (1, 32), (33, 1), (34, 1)]) (zs := [(1, [(vi 0)]), (32, (zB 32).map vu8), (1, [(vi 0)]), (1, [(.string (bstr ([] : List UInt8)))])]) (vs := [(0, (vi kd)), (1, (.agg ⟨key.map vu8⟩)), (2, (vi dm)), (3, (.string (bstr data)))]) (out := [(1, [(vi kd)]), (32, key.map vu8), (1, [(vi dm)]), (1, [(.string (bstr data))])]) underlying140 (zv typeInfo140 rfl) rfl (sC sV (sC (s8 lr) (sC sV (sC sV sN)))) (pl140 _ underlying140) rfl (FillR.cons [] [(1, [(vi 0)])] [(1, [(vi kd)])] [(32, (zB 32).map vu8), (1, [(vi 0)]), (1, [(.string (bstr ([] : List UInt8)))])] rfl rfl rfl rfl (sC sV sN) rfl rfl rfl (FillR.cons [(1, [(vi kd)])] [(32, (zB 32).map vu8)] [(32, key.map vu8)] [(1, [(vi 0)]), (1, [(.string (bstr ([] : List UInt8)))])] rfl rfl rfl rfl (sC (s8 hq.1) sN) rfl rfl rfl (FillR.cons [(1, [(vi kd)]), (32, key.map vu8)] [(1, [(vi 0)])] [(1, [(vi dm)])] [(1, [(.string (bstr ([] : List UInt8)))])] rfl rfl rfl rfl (sC sV sN) rfl rfl rfl (FillR.cons [(1, [(vi kd)]), (32, key.map vu8), (1, [(vi dm)])] [(1, [(.string (bstr ([] : List UInt8)))])] [(1, [(.string (bstr data))])] [] rfl rfl rfl rfl (sC sV sN) rfl rfl rfl FillR.nil)))) rfl) ?_)))))))))
 refine WL.alloc (segs := [(1, [(vi 0)]), (32, (zB 32).map vu8), (1, [(vi 0)]), (1, [(.string (bstr ([] : List UInt8)))])]) h_6 (zv typeInfo140 rfl) rfl (sC sV (sC (s8 lr) (sC sV (sC sV sN)))) rfl (fun b_8 w_9 h_10 => ?_)
 refine WL.storeA [] [(1, [(vi 0)]), (32, (zB 32).map vu8), (1, [(vi 0)]), (1, [(.string (bstr ([] : List UInt8)))])] [(1, [(vi kd)]), (32, key.map vu8), (1, [(vi dm)]), (1, [(.string (bstr data))])] [] h_10 rfl rfl sizeOf140 At.h (by decide) rfl rfl rfl rfl rfl rfl (sC sV (sC (s8 hq.1) (sC sV (sC sV sN)))) (fun w_11 h_12 => ?_)
 refine WL.nil (thn_n (WP.seq (WP.seq ?_)))
 refine WP.drawT (SL w00.heap.size [.blk b_8 .nw 140 [(1, [(vi kd)]), (32, key.map vu8), (1, [(vi dm)]), (1, [(.string (bstr data))])], .blk b_4 .nw 23 [(32, (zB 32).map vu8)], .blk b_1 .nw 90 [(1, [(vi kd)]), (32, key.map vu8), (1, [(vi dm)]), (1, [(.slice qa qn qc)])], .blk ob .nw 118 [(1, [(.bool id)]), (32, ms.map vu8), (1, [(.slice da dn dc)]), (1, [(vn u)]), (1, [(.map (some mp))]), (1, [(.slice la lg.length lc)])], .row la lg.length lc 96 67 lx, .obj mp .nw (.map (mArr lg) lg.length), .pin (sblks lx) (fun w => Lgs w lx lg), .view da (df.map vu8), .view qa (data.map vu8)]) (.q 0 (.q 1 (.q 2 (.q 3 (.q 4 (.s 5 (.q 6 (.q 7 (.q 8 (.q 9 (.q 10 .nil))))))))))) (by kernel_rfl) (by kernel_rfl) rfl (by kernel_rfl) (fun w_13 hc_15 => (SL.cons ((h_12.same hc_15).ok _ M0) (SL.cons ((h_12.same hc_15).ok _ M1) (SL.cons ((h_12.same hc_15).ok _ M2) (SL.cons ((h_12.same hc_15).ok _ M3) (SL.cons ((h_12.same hc_15).ok _ M4) (SL.cons ((h_12.same hc_15).ok _ M5) (SL.cons ((h_12.same hc_15).ok _ M6) (SL.cons ((h_12.same hc_15).ok _ M7) (SL.cons ((h_12.same hc_15).ok _ M8) (SL.nil _ _))))))))))) (fun w_13 hc_15 => ?_)
 have h_14 := h_12.same hc_15
 refine qT rfl rfl (fun wq hS => R.move (v := (pO ob 0)) rfl) ?_
 refine qT rfl rfl (fun wq hS => R.nilCheck rfl) ?_
 refine qT rfl rfl (fun wq hS => R.fieldAddr (off' := 35) rfl underlying118 rfl sizeOf116 rfl rfl) ?_
 refine qT rfl rfl (fun wq hS => R.load1 rfl isAgg116 (hS _ M3) (Sg.t rfl (Sg.t rfl (Sg.t rfl (Sg.t rfl Sg.h))))) ?_
 refine qT rfl rfl (fun wq hS => R.loadA [] [(1, [(vi kd)]), (32, key.map vu8), (1, [(vi dm)]), (1, [(.string (bstr data))])] [] rfl isAgg140 sizeOf140 (hS _ M0) rfl rfl rfl rfl) ?_
 refine WT.s (oN rfl ?_)
 refine qV rfl (R.lookup (r := some (i, vi (i : Int))) (z := (vi 0)) (v := (vn i)) (ok := true) rfl rfl underlying116 (h_14.ok _ M5) (Ck.agg kt140 (by decide) ag140 (typQ (kd, key, dm, data) hq)) (log_hit kt140 (by decide) ag140 typQ hq hlo hfd) (zv typeInfo3 rfl) rfl rfl) ?_
 refine WL.nil ?_
 refine ⟨(N0_1_2_3_4_5_6_7_8 h_14.ok), ?_⟩
 refine qT rfl rfl (fun wq hS => R.move (v := (.tuple [(vn i), (.bool true)].toArray)) rfl) ?_
 refine qT rfl rfl (fun wq hS => R.extract rfl rfl) ?_
 refine qT rfl rfl (fun wq hS => R.extract rfl rfl) ?_
 refine qT rfl rfl (fun wq hS => R.assign (v := (vn i)) rfl) ?_
 refine qT rfl rfl (fun wq hS => R.assign (v := (.bool true)) rfl) ?_
 refine WT.nil (thn_n (WP.seq (WP.reg ?_)))
 refine qM (.bool true) rfl rfl ?_
 refine WL.nil (thn_n ?_)
 refine WP.condT rfl ?_
 refine WP.seq (WP.reg ?_)
 refine qM (pO ob 0) rfl rfl (qV rfl (R.nilCheck rfl) (qV rfl (R.fieldAddr (off' := 36) rfl underlying118 rfl sizeOf44 rfl rfl) (qV rfl (R.load1 rfl isAgg44 (h_14.ok _ M3) (Sg.t rfl (Sg.t rfl (Sg.t rfl (Sg.t rfl (Sg.t rfl Sg.h)))))) (qM (vn i) rfl rfl (qV rfl (R.indexS (a := la) (i := i) (off := i * 67) (xs := lx) rfl rfl rfl (by omega) (ownView (h_14.ok _ M4)) (by rw [Lgs.len hlgs]; omega) underlying44 sizeOf96 rfl) (qV rfl (R.fieldG (a := la) (i := i * 67) (off' := i * 67 + 35) rfl underlying96 rfl sizeOf23 rfl rfl) (qV rfl (R.loadGA (a := la) (i := i * 67 + 35) (xs := lx) (cs := ((lg.getD i ((kd, key, dm, data), [])).2).map vu8) rfl (ownView (h_14.ok _ M4)) isAgg23 sizeOf23 (Lgs.ans (z := ((kd, key, dm, data), [])) hlgs (i := i) hil).1 (len_map (Lgs.ans (z := ((kd, key, dm, data), [])) hlgs (i := i) hil).2) (by decide)) ?_)))))))
 refine WL.storeA [] [(32, (zB 32).map vu8)] [(32, ((lg.getD i ((kd, key, dm, data), [])).2).map vu8)] [] h_14 rfl rfl sizeOf23 Y1 (by decide) rfl rfl rfl rfl rfl rfl (sC (s8 ((Lgs.ans (z := ((kd, key, dm, data), [])) hlgs (i := i) hil).2)) sN) (fun w_16 h_17 => ?_)
 refine WL.nil (thn_n (WP.ret (thn_r ?_)))
 refine ret_of results87 (RV.cell rfl (h_17.loadA (cs := ((lg.getD i ((kd, key, dm, data), [])).2).map vu8) isAgg23 sizeOf23 M1 rfl rfl) RV.nil) ?_
 have h_26 := ((((((((h_17.drop rfl).drop rfl).drop rfl).up J5).up J5).up J5).up J5).up J5).up J5
 exact ⟨la, lc, lx, by rw [anD_hit hfd]; rfl, by rw [anU_hit hfd, anL_hit hfd]; exact h_26⟩

theorem c_ans_missT {w00 : World} {L : List Ent} (ob mp : Nat) (ms df : List UInt8) (hms : ms.length = 32) (da : Option Addr) (dn dc u : Nat) (hdf : df.length = 32 * dn) (la : Option Addr) (lc : Nat) (lx : List Value) (lg : Lg) (hu : u ≤ 1000000) (hlg : lg.length ≤ 1000000) (kd dm : Int) (key data : List UInt8) (qa : Option Addr) (qn qc : Nat) (hq : okQ (kd, key, dm, data)) (hdl : data.length = qn) (cv : Value) (hfd : fdq (kd, key, dm, data) lg 0 = none) (w : World) (h_0 : HP w00 w (Ent.blk ob .nw 118 [(1, [(.bool true)]), (32, ms.map vu8), (1, [(.slice da dn dc)]), (1, [(vi ((u : Nat) : Int))]), (1, [(.map (some mp))]), (1, [(.slice la lg.length lc)])] :: Ent.row la lg.length lc 96 67 lx :: Ent.obj mp .nw (.map (mArr lg) lg.length) :: Ent.pin (sblks lx) (fun w => Lgs w lx lg) :: Ent.view da (df.map vu8) :: Ent.view qa (data.map vu8) :: L)) :
  Cs Tryz.prog 87 [(.pointer (some ⟨ob, 0, none⟩)), (.agg ⟨flat [(1, [(vi kd)]), (32, key.map vu8), (1, [(vi dm)]), (1, [(.slice qa qn qc)])]⟩), cv].toArray w (fun v w1 => ∃ la' lc' lx', v = (.agg ⟨(anD true df dn u lg (kd, key, dm, data)).map vu8⟩) ∧ HP w00 w1 (Ent.blk ob .nw 118 [(1, [(.bool true)]), (32, ms.map vu8), (1, [(.slice da dn dc)]), (1, [(vi (((anU true u lg (kd, key, dm, data)) : Nat) : Int))]), (1, [(.map (some mp))]), (1, [(.slice la' ((anL true df dn u lg (kd, key, dm, data)).length) lc')])] :: Ent.row la' ((anL true df dn u lg (kd, key, dm, data)).length) lc' 96 67 lx' :: Ent.obj mp .nw (.map (mArr (anL true df dn u lg (kd, key, dm, data))) ((anL true df dn u lg (kd, key, dm, data)).length)) :: Ent.pin (sblks lx') (fun w => Lgs w lx' (anL true df dn u lg (kd, key, dm, data))) :: Ent.view da (df.map vu8) :: Ent.view qa (data.map vu8) :: L)) := by
 have hlgs : Lgs w lx lg := (h_0.ok _ M3).1
 have hlo := hlgs.ok
 have hqn : data.length ≤ 1000000000 := hq.2.2.2
 refine Cs.of (n := 74) (args := [(pO ob 0), (.agg ⟨flat [(1, [(vi kd)]), (32, key.map vu8), (1, [(vi dm)]), (1, [(.slice qa qn qc)])]⟩), cv]) Tryz.func87 rfl rfl rfl ?_
 refine WP.seq (WP.reg ?_)
 refine WL.box (segs := [(1, [(vi kd)]), (32, key.map vu8), (1, [(vi dm)]), (1, [(.slice qa qn qc)])]) h_0 rfl rfl (sC sV (sC (s8 hq.1) (sC sV (sC sV sN)))) rfl (fun b_1 w_2 h_3 => ?_)
 refine WL.alloc (segs := [(32, (zB 32).map vu8)]) h_3 (zv typeInfo23 rfl) rfl (sC (s8 lr) sN) rfl (fun b_4 w_5 h_6 => ?_)
 refine WL.nil (thn_n (WP.seq (WP.reg ?_)))
 refine qV rfl (R.fieldAddr (off' := 0) rfl underlying90 rfl sizeOf86 rfl rfl) (qV rfl (R.load1 rfl isAgg86 (h_6.ok _ M1) Sg.h) (qV rfl (R.fieldAddr (off' := 1) rfl underlying90 rfl sizeOf23 rfl rfl) (qV rfl (R.loadA [(1, [(vi kd)])] [(32, key.map vu8)] [(1, [(vi dm)]), (1, [(.slice qa qn qc)])] (cs := key.map vu8) rfl isAgg23 sizeOf23 (h_6.ok _ M1) rfl rfl rfl rfl) (qV rfl (R.fieldAddr (off' := 33) rfl underlying90 rfl sizeOf87 rfl rfl) (qV rfl (R.load1 rfl isAgg87 (h_6.ok _ M1) (Sg.t rfl (Sg.t rfl Sg.h))) (qV rfl (R.fieldAddr (off' := 34) rfl underlying90 rfl sizeOf88 rfl rfl) (qV rfl (R.load1 rfl isAgg88 (h_6.ok _ M1) (Sg.t rfl (Sg.t rfl (Sg.t rfl Sg.h)))) (qV rfl (R.toStr (bs := data) rfl underlying88 underlying5 underlying9 (viewV (h_6.ok _ M7)) hdl) (qV rfl (R.buildS (pl := [(0, 1), (1, 32), (33, 1), (34, 1)]) (zs := [(1, [(vi 0)]), (32, (zB 32).map vu8), (1, [(vi 0)]), (1, [(.string (bstr ([] : List UInt8)))])]) (vs := [(0, (vi kd)), (1, (.agg ⟨key.map vu8⟩)), (2, (vi dm)), (3, (.string (bstr data)))]) (out := [(1, [(vi kd)]), (32, key.map vu8), (1, [(vi dm)]), (1, [(.string (bstr data))])]) underlying140 (zv typeInfo140 rfl) rfl (sC sV (sC (s8 lr) (sC sV (sC sV sN)))) (pl140 _ underlying140) rfl (FillR.cons [] [(1, [(vi 0)])] [(1, [(vi kd)])] [(32, (zB 32).map vu8), (1, [(vi 0)]), (1, [(.string (bstr ([] : List UInt8)))])] rfl rfl rfl rfl (sC sV sN) rfl rfl rfl (FillR.cons [(1, [(vi kd)])] [(32, (zB 32).map vu8)] [(32, key.map vu8)] [(1, [(vi 0)]), (1, [(.string (bstr ([] : List UInt8)))])] rfl rfl rfl rfl (sC (s8 hq.1) sN) rfl rfl rfl (FillR.cons [(1, [(vi kd)]), (32, key.map vu8)] [(1, [(vi 0)])] [(1, [(vi dm)])] [(1, [(.string (bstr ([] : List UInt8)))])] rfl rfl rfl rfl (sC sV sN) rfl rfl rfl (FillR.cons [(1, [(vi kd)]), (32, key.map vu8), (1, [(vi dm)])] [(1, [(.string (bstr ([] : List UInt8)))])] [(1, [(.string (bstr data))])] [] rfl rfl rfl rfl (sC sV sN) rfl rfl rfl FillR.nil)))) rfl) ?_)))))))))
 refine WL.alloc (segs := [(1, [(vi 0)]), (32, (zB 32).map vu8), (1, [(vi 0)]), (1, [(.string (bstr ([] : List UInt8)))])]) h_6 (zv typeInfo140 rfl) rfl (sC sV (sC (s8 lr) (sC sV (sC sV sN)))) rfl (fun b_8 w_9 h_10 => ?_)
 refine WL.storeA [] [(1, [(vi 0)]), (32, (zB 32).map vu8), (1, [(vi 0)]), (1, [(.string (bstr ([] : List UInt8)))])] [(1, [(vi kd)]), (32, key.map vu8), (1, [(vi dm)]), (1, [(.string (bstr data))])] [] h_10 rfl rfl sizeOf140 At.h (by decide) rfl rfl rfl rfl rfl rfl (sC sV (sC (s8 hq.1) (sC sV (sC sV sN)))) (fun w_11 h_12 => ?_)
 refine WL.nil (thn_n (WP.seq (WP.seq ?_)))
 refine WP.drawT (SL w00.heap.size [.blk b_8 .nw 140 [(1, [(vi kd)]), (32, key.map vu8), (1, [(vi dm)]), (1, [(.string (bstr data))])], .blk b_4 .nw 23 [(32, (zB 32).map vu8)], .blk b_1 .nw 90 [(1, [(vi kd)]), (32, key.map vu8), (1, [(vi dm)]), (1, [(.slice qa qn qc)])], .blk ob .nw 118 [(1, [(.bool true)]), (32, ms.map vu8), (1, [(.slice da dn dc)]), (1, [(vn u)]), (1, [(.map (some mp))]), (1, [(.slice la lg.length lc)])], .row la lg.length lc 96 67 lx, .obj mp .nw (.map (mArr lg) lg.length), .pin (sblks lx) (fun w => Lgs w lx lg), .view da (df.map vu8), .view qa (data.map vu8)]) (.q 0 (.q 1 (.q 2 (.q 3 (.q 4 (.s 5 (.q 6 (.q 7 (.q 8 (.q 9 (.q 10 .nil))))))))))) (by kernel_rfl) (by kernel_rfl) rfl (by kernel_rfl) (fun w_13 hc_15 => (SL.cons ((h_12.same hc_15).ok _ M0) (SL.cons ((h_12.same hc_15).ok _ M1) (SL.cons ((h_12.same hc_15).ok _ M2) (SL.cons ((h_12.same hc_15).ok _ M3) (SL.cons ((h_12.same hc_15).ok _ M4) (SL.cons ((h_12.same hc_15).ok _ M5) (SL.cons ((h_12.same hc_15).ok _ M6) (SL.cons ((h_12.same hc_15).ok _ M7) (SL.cons ((h_12.same hc_15).ok _ M8) (SL.nil _ _))))))))))) (fun w_13 hc_15 => ?_)
 have h_14 := h_12.same hc_15
 refine qT rfl rfl (fun wq hS => R.move (v := (pO ob 0)) rfl) ?_
 refine qT rfl rfl (fun wq hS => R.nilCheck rfl) ?_
 refine qT rfl rfl (fun wq hS => R.fieldAddr (off' := 35) rfl underlying118 rfl sizeOf116 rfl rfl) ?_
 refine qT rfl rfl (fun wq hS => R.load1 rfl isAgg116 (hS _ M3) (Sg.t rfl (Sg.t rfl (Sg.t rfl (Sg.t rfl Sg.h))))) ?_
 refine qT rfl rfl (fun wq hS => R.loadA [] [(1, [(vi kd)]), (32, key.map vu8), (1, [(vi dm)]), (1, [(.string (bstr data))])] [] rfl isAgg140 sizeOf140 (hS _ M0) rfl rfl rfl rfl) ?_
 refine WT.s (oN rfl ?_)
 refine qV rfl (R.lookup (r := none) (z := (vi 0)) (v := (vi 0)) (ok := false) rfl rfl underlying116 (h_14.ok _ M5) (Ck.agg kt140 (by decide) ag140 (typQ (kd, key, dm, data) hq)) (log_miss kt140 (by decide) ag140 typQ hq hlo hfd) (zv typeInfo3 rfl) rfl rfl) ?_
 refine WL.nil ?_
 refine ⟨(N0_1_2_3_4_5_6_7_8 h_14.ok), ?_⟩
 refine qT rfl rfl (fun wq hS => R.move (v := (.tuple [(vi 0), (.bool false)].toArray)) rfl) ?_
 refine qT rfl rfl (fun wq hS => R.extract rfl rfl) ?_
 refine qT rfl rfl (fun wq hS => R.extract rfl rfl) ?_
 refine qT rfl rfl (fun wq hS => R.assign (v := (vi 0)) rfl) ?_
 refine qT rfl rfl (fun wq hS => R.assign (v := (.bool false)) rfl) ?_
 refine WT.nil (thn_n (WP.seq (WP.reg ?_)))
 refine qM (.bool false) rfl rfl ?_
 refine WL.nil (thn_n ?_)
 refine WP.condF rfl ?_
 refine WP.skip (thn_n (WP.seq (WP.reg ?_)))
 refine WL.alloc (segs := [(32, (zB 32).map vu8)]) h_14 (zv typeInfo23 rfl) rfl (sC (s8 lr) sN) rfl (fun b_16 w_17 h_18 => ?_)
 refine WL.nil (thn_n (WP.seq (WP.seq (WP.reg ?_))))
 refine qM (pO ob 0) rfl rfl (qV rfl (R.nilCheck rfl) (qV rfl (R.fieldAddr (off' := 0) rfl underlying118 rfl sizeOf4 rfl rfl) (qV rfl (R.load1 rfl isAgg4 (h_18.ok _ M4) Sg.h) ?_)))
 refine WL.nil (thn_n ?_)
 refine WP.condT rfl ?_
 refine WP.reg ?_
 refine qM (pO ob 0) rfl rfl ?_
 have h_20 := (h_18.up J8).up J5
 refine WL.call Tryz.call113 rfl rfl (c_draw true ob mp ms df hms da dn dc u hdf la lc lx lg (by omega) (by omega) _ h_20) rfl ?_
 rintro _ w_21 ⟨rfl, h_22⟩
 refine WL.storeA [] [(32, (zB 32).map vu8)] [(32, (drawF df dn u).map vu8)] [] h_22 rfl rfl sizeOf23 Y2 (by decide) rfl rfl rfl rfl rfl rfl (sC (s8 (drawF_len hdf)) sN) (fun w_23 h_24 => ?_)
 refine WL.nil (thn_n (WP.seq (WP.reg ?_)))
 refine qV rfl (R.fieldAddr (off' := 34) rfl underlying90 rfl sizeOf88 rfl rfl) (qV rfl (R.load1 rfl isAgg88 (h_24.ok _ M5) (Sg.t rfl (Sg.t rfl (Sg.t rfl Sg.h)))) ?_)
 refine WL.call Tryz.call65 rfl rfl (c_Clone qa qn qc data hdl (by omega) _ (viewV (h_24.ok _ M9))) rfl ?_
 rintro _ w_27 ⟨a_25, cap_26, rfl, hc_28, ho_29⟩
 have h_30 := h_24.gotRow hc_28 ho_29
 refine qV rfl (R.fieldAddr (off' := 34) rfl underlying90 rfl sizeOf88 rfl rfl) ?_
 refine WL.store1 h_30 rfl rfl sizeOf88 rfl Y6 (by decide) (Sg.t rfl (Sg.t rfl (Sg.t rfl Sg.h))) (fun w_31 h_32 => ?_)
 refine WL.nil (thn_n (WP.seq ?_))
 refine WP.drawT (SL w00.heap.size [.row a_25 qn cap_26 5 1 (data.map vu8), .blk ob .nw 118 [(1, [(.bool true)]), (32, ms.map vu8), (1, [(.slice da dn dc)]), (1, [(vn ((u + 1)))]), (1, [(.map (some mp))]), (1, [(.slice la lg.length lc)])], .view da (df.map vu8), .blk b_16 .nw 23 [(32, (drawF df dn u).map vu8)], .blk b_8 .nw 140 [(1, [(vi kd)]), (32, key.map vu8), (1, [(vi dm)]), (1, [(.string (bstr data))])], .blk b_4 .nw 23 [(32, (zB 32).map vu8)], .blk b_1 .nw 90 [(1, [(vi kd)]), (32, key.map vu8), (1, [(vi dm)]), (1, [(.slice a_25 qn cap_26)])], .row la lg.length lc 96 67 lx, .pin (sblks lx) (fun w => Lgs w lx lg), .view qa (data.map vu8)]) (.q 0 (.q 1 (.q 2 (.q 3 (.q 4 (.q 5 (.q 6 (.q 7 (.q 8 (.q 9 (.s 10 .nil))))))))))) (by kernel_rfl) (by kernel_rfl) rfl (by kernel_rfl) (fun w_33 hc_35 => (SL.cons ((h_32.same hc_35).ok _ M0) (SL.cons ((h_32.same hc_35).ok _ M1) (SL.cons ((h_32.same hc_35).ok _ M2) (SL.cons ((h_32.same hc_35).ok _ M3) (SL.cons ((h_32.same hc_35).ok _ M4) (SL.cons ((h_32.same hc_35).ok _ M5) (SL.cons ((h_32.same hc_35).ok _ M6) (SL.cons ((h_32.same hc_35).ok _ M7) (SL.cons ((h_32.same hc_35).ok _ M9) (SL.cons ((h_32.same hc_35).ok _ M10) (SL.nil _ _)))))))))))) (fun w_33 hc_35 => ?_)
 have h_34 := h_32.same hc_35
 refine qT rfl rfl (fun wq hS => R.move (v := (pO ob 0)) rfl) ?_
 refine qT rfl rfl (fun wq hS => R.nilCheck rfl) ?_
 refine qT rfl rfl (fun wq hS => R.fieldAddr (off' := 35) rfl underlying118 rfl sizeOf116 rfl rfl) ?_
 refine qT rfl rfl (fun wq hS => R.load1 rfl isAgg116 (hS _ M1) (Sg.t rfl (Sg.t rfl (Sg.t rfl (Sg.t rfl Sg.h))))) ?_
 refine qT rfl rfl (fun wq hS => R.loadA [] [(1, [(vi kd)]), (32, key.map vu8), (1, [(vi dm)]), (1, [(.string (bstr data))])] [] rfl isAgg140 sizeOf140 (hS _ M4) rfl rfl rfl rfl) ?_
 refine qT rfl rfl (fun wq hS => R.move (v := (pO ob 0)) rfl) ?_
 refine qT rfl rfl (fun wq hS => R.nilCheck rfl) ?_
 refine qT rfl rfl (fun wq hS => R.fieldAddr (off' := 36) rfl underlying118 rfl sizeOf44 rfl rfl) ?_
 refine qT rfl rfl (fun wq hS => R.load1 rfl isAgg44 (hS _ M1) (Sg.t rfl (Sg.t rfl (Sg.t rfl (Sg.t rfl (Sg.t rfl Sg.h)))))) ?_
 refine qT rfl rfl (fun wq hS => R.lenS (a := la) (m := lg.length) rfl rfl underlying44) ?_
 refine WT.s (oN rfl ?_)
 refine WL.mapUpdate (k := (.agg ⟨flat [(1, [(vi kd)]), (32, key.map vu8), (1, [(vi dm)]), (1, [(.string (bstr data))])]⟩)) (v := (vn (lg.length))) h_34 rfl rfl rfl underlying116 Y8 (by decide) (Ck.agg kt140 (by decide) ag140 (typQ (kd, key, dm, data) hq)) (log_miss kt140 (by decide) ag140 typQ hq hlo hfd) (fun w_36 h_37 => ?_)
 refine WL.nil ?_
 refine ⟨(SL.cons (h_37.ok _ M0) (SL.cons (h_37.ok _ M1) (SL.cons (h_37.ok _ M2) (SL.cons (h_37.ok _ M3) (SL.cons (h_37.ok _ M4) (SL.cons (h_37.ok _ M5) (SL.cons (h_37.ok _ M6) (SL.cons (h_37.ok _ M7) (SL.cons (h_37.ok _ M9) (SL.cons (h_37.ok _ M10) (SL.nil _ _))))))))))), ?_⟩
 refine WT.nil (thn_n (WP.seq ?_))
 refine WP.cutG (G := Nat × Option Addr × Nat) [61, 62, 63, 64, 65, 66, 67, 68, 69, 70, 71, 72] (fun (bY11Y8Y0Y0, aY11Y9Y0Y0, cY11Y9Y0Y0) => [(61, (pO ob 0)), (62, (pO ob 0)), (63, (pO ob 0)), (64, (pO ob 36)), (66, (.agg ⟨flat [(1, [(vi kd)]), (32, key.map vu8), (1, [(vi dm)]), (1, [(.slice a_25 qn cap_26)])]⟩)), (67, (.agg ⟨(drawF df dn u).map vu8⟩)), (68, (.agg ⟨flat [(1, [(vi kd)]), (32, key.map vu8), (1, [(vi dm)]), (1, [(.slice a_25 qn cap_26)]), (32, (drawF df dn u).map vu8)]⟩)), (65, (.slice la lg.length lc)), (69, (.slice (some ⟨bY11Y8Y0Y0, 0, none⟩) 1 1)), (70, (.slice aY11Y9Y0Y0 (lg.length + 1) cY11Y9Y0Y0)), (71, (pO ob 0)), (72, (pO ob 36))]) (fun (bY11Y8Y0Y0, aY11Y9Y0Y0, cY11Y9Y0Y0) w1 => HP w00 w1 (Ent.blk bY11Y8Y0Y0 .nw 96 [(67, aC (kd, key, dm, data) (.slice a_25 qn cap_26) (drawF df dn u))] :: Ent.row a_25 qn cap_26 5 1 (data.map vu8) :: Ent.blk ob .nw 118 [(1, [(.bool true)]), (32, ms.map vu8), (1, [(.slice da dn dc)]), (1, [(vn ((u + 1)))]), (1, [(.map (some mp))]), (1, [(.slice aY11Y9Y0Y0 (lg.length + 1) cY11Y9Y0Y0)])] :: Ent.view da (df.map vu8) :: Ent.blk b_16 .nw 23 [(32, (drawF df dn u).map vu8)] :: Ent.blk b_8 .nw 140 [(1, [(vi kd)]), (32, key.map vu8), (1, [(vi dm)]), (1, [(.string (bstr data))])] :: Ent.blk b_4 .nw 23 [(32, (zB 32).map vu8)] :: Ent.blk b_1 .nw 90 [(1, [(vi kd)]), (32, key.map vu8), (1, [(vi dm)]), (1, [(.slice a_25 qn cap_26)])] :: Ent.row aY11Y9Y0Y0 (lg.length + 1) cY11Y9Y0Y0 96 67 (lx ++ aC (kd, key, dm, data) (.slice a_25 qn cap_26) (drawF df dn u)) :: Ent.obj mp .nw (.map ((mArr lg).push { key := (.agg ⟨flat [(1, [(vi kd)]), (32, key.map vu8), (1, [(vi dm)]), (1, [(.string (bstr data))])]⟩), val := (vn (lg.length)), born := lg.length }) (lg.length + 1)) :: Ent.pin (sblks lx) (fun w => Lgs w lx lg) :: Ent.view qa (data.map vu8) :: L)) ?_ ?_
 ·refine WP.drawT (SL w00.heap.size [.row a_25 qn cap_26 5 1 (data.map vu8), .view da (df.map vu8), .blk b_16 .nw 23 [(32, (drawF df dn u).map vu8)], .blk b_8 .nw 140 [(1, [(vi kd)]), (32, key.map vu8), (1, [(vi dm)]), (1, [(.string (bstr data))])], .blk b_4 .nw 23 [(32, (zB 32).map vu8)], .blk b_1 .nw 90 [(1, [(vi kd)]), (32, key.map vu8), (1, [(vi dm)]), (1, [(.slice a_25 qn cap_26)])], .obj mp .nw (.map ((mArr lg).push { key := (.agg ⟨flat [(1, [(vi kd)]), (32, key.map vu8), (1, [(vi dm)]), (1, [(.string (bstr data))])]⟩), val := (vn (lg.length)), born := lg.length }) (lg.length + 1)), .pin (sblks lx) (fun w => Lgs w lx lg), .view qa (data.map vu8)]) (.q 0 (.q 1 (.q 2 (.q 3 (.q 5 (.q 6 (.q 7 (.s2 4 8 (.s 8 (.s 9 (.q 10 (.q 11 (.s 12 .nil))))) (.s 4 (.s 9 (.q 10 (.q 11 (.s 12 .nil))))))))))))) (by kernel_rfl) (by kernel_rfl) rfl (by kernel_rfl) (fun w_38 hc_40 => (SL.cons ((h_37.same hc_40).ok _ M0) (SL.cons ((h_37.same hc_40).ok _ M2) (SL.cons ((h_37.same hc_40).ok _ M3) (SL.cons ((h_37.same hc_40).ok _ M4) (SL.cons ((h_37.same hc_40).ok _ M5) (SL.cons ((h_37.same hc_40).ok _ M6) (SL.cons ((h_37.same hc_40).ok _ M8) (SL.cons ((h_37.same hc_40).ok _ M9) (SL.cons ((h_37.same hc_40).ok _ M10) (SL.nil _ _))))))))))) (fun w_38 hc_40 => ?_)
  have h_39 := h_37.same hc_40
  refine qT rfl rfl (fun wq hS => R.move (v := (pO ob 0)) rfl) ?_
  refine qT rfl rfl (fun wq hS => R.move (v := (pO ob 0)) rfl) ?_
  refine qT rfl rfl (fun wq hS => R.nilCheck rfl) ?_
  refine qT rfl rfl (fun wq hS => R.fieldAddr (off' := 36) rfl underlying118 rfl sizeOf44 rfl rfl) ?_
  refine qT rfl rfl (fun wq hS => R.loadA [] [(1, [(vi kd)]), (32, key.map vu8), (1, [(vi dm)]), (1, [(.slice a_25 qn cap_26)])] [] rfl isAgg90 sizeOf90 (hS _ M5) rfl rfl rfl rfl) ?_
  refine qT rfl rfl (fun wq hS => R.loadA [] [(32, (drawF df dn u).map vu8)] [] (cs := (drawF df dn u).map vu8) rfl isAgg23 sizeOf23 (hS _ M2) rfl rfl rfl rfl) ?_
  refine qT rfl rfl (fun wq hS => R.buildS (pl := [(0, 35), (35, 32)]) (zs := [(1, [(vi 0)]), (32, (zB 32).map vu8), (1, [(vi 0)]), (1, [(.slice none 0 0)]), (32, (zB 32).map vu8)]) (vs := [(0, (.agg ⟨flat [(1, [(vi kd)]), (32, key.map vu8), (1, [(vi dm)]), (1, [(.slice a_25 qn cap_26)])]⟩)), (1, (.agg ⟨(drawF df dn u).map vu8⟩))]) (out := [(1, [(vi kd)]), (32, key.map vu8), (1, [(vi dm)]), (1, [(.slice a_25 qn cap_26)]), (32, (drawF df dn u).map vu8)]) underlying96 (zv typeInfo96 rfl) rfl (sC sV (sC (s8 lr) (sC sV (sC sV (sC (s8 lr) sN))))) (pl96 _ underlying96) rfl (FillR.cons [] [(1, [(vi 0)]), (32, (zB 32).map vu8), (1, [(vi 0)]), (1, [(.slice none 0 0)])] [(1, [(vi kd)]), (32, key.map vu8), (1, [(vi dm)]), (1, [(.slice a_25 qn cap_26)])] [(32, (zB 32).map vu8)] rfl rfl rfl rfl (sC sV (sC (s8 hq.1) (sC sV (sC sV sN)))) rfl rfl rfl (FillR.cons [(1, [(vi kd)]), (32, key.map vu8), (1, [(vi dm)]), (1, [(.slice a_25 qn cap_26)])] [(32, (zB 32).map vu8)] [(32, (drawF df dn u).map vu8)] [] rfl rfl rfl rfl (sC (s8 (drawF_len hdf)) sN) rfl rfl rfl FillR.nil)) rfl) ?_
  refine WT.s2 ?_ ?_
  ·refine oN rfl ?_
   refine qV rfl (R.load1 rfl isAgg44 (h_39.ok _ M1) (Sg.t rfl (Sg.t rfl (Sg.t rfl (Sg.t rfl (Sg.t rfl Sg.h)))))) ?_
   refine WL.nil ?_
   refine ⟨(SL.cons (h_39.ok _ M0) (SL.cons (h_39.ok _ M2) (SL.cons (h_39.ok _ M3) (SL.cons (h_39.ok _ M4) (SL.cons (h_39.ok _ M5) (SL.cons (h_39.ok _ M6) (SL.cons (h_39.ok _ M8) (SL.cons (h_39.ok _ M9) (SL.cons (h_39.ok _ M10) (SL.nil _ _)))))))))), ?_⟩
   refine WT.s (oN rfl ?_)
   refine WL.buildSl (vs := [(0, (.agg ⟨flat [(1, [(vi kd)]), (32, key.map vu8), (1, [(vi dm)]), (1, [(.slice a_25 qn cap_26)]), (32, (drawF df dn u).map vu8)]⟩))]) (cs := aC (kd, key, dm, data) (.slice a_25 qn cap_26) (drawF df dn u)) h_39 underlying44 sizeOf96 (zv typeInfo96 rfl) rfl rfl (fill_1 (zc := flat [(1, [vi 0]), (32, List.replicate 32 (vu8 0)), (1, [vi 0]), (1, [.slice none 0 0]), (32, List.replicate 32 (vu8 0))]) (by kernel_rfl) (sC (s := (67, flat [(1, [vi 0]), (32, List.replicate 32 (vu8 0)), (1, [vi 0]), (1, [.slice none 0 0]), (32, List.replicate 32 (vu8 0))])) ⟨by decide, SsOk.one (sC sV (sC (SOk.rep rfl) (sC sV (sC sV (sC (SOk.rep rfl) sN)))))⟩ sN) (aC_ok (q := (kd, key, dm, data)) (s := (.slice a_25 qn cap_26)) (d := drawF df dn u) hq.1 (drawF_len hdf) rfl)) ((aC_ok (q := (kd, key, dm, data)) (s := (.slice a_25 qn cap_26)) (d := drawF df dn u) hq.1 (drawF_len hdf) rfl)).head.len ((aC_ok (q := (kd, key, dm, data)) (s := (.slice a_25 qn cap_26)) (d := drawF df dn u) hq.1 (drawF_len hdf) rfl)).head.one rfl rfl (fun b_42 w_43 h_44 => ?_)
   refine WL.nil ?_
   refine ⟨(N1_3_4_5_6_7_9_10_11 h_44.ok), ?_⟩
   refine WT.s (oN rfl ?_)
   refine WL.append (km := lg.length + 1) (xs := lx) (ys := aC (kd, key, dm, data) (.slice a_25 qn cap_26) (drawF df dn u)) (zs := lx ++ aC (kd, key, dm, data) (.slice a_25 qn cap_26) (drawF df dn u)) h_44 rfl rfl el44 (viewB (h_44.ok _ M0) Sg.h) ((aC_ok (q := (kd, key, dm, data)) (s := (.slice a_25 qn cap_26)) (d := drawF df dn u) hq.1 (drawF_len hdf) rfl)).head.len ((aC_ok (q := (kd, key, dm, data)) (s := (.slice a_25 qn cap_26)) (d := drawF df dn u) hq.1 (drawF_len hdf) rfl)).head.one rfl (by omega) (by omega) (by omega) (fun _ _ => Y8) rfl (fun a_45 c_46 w_47 h_48 => ?_)
   refine WL.nil ?_
   refine ⟨(N1_3_4_5_6_7_9_10_11 h_48.ok), ?_⟩
   refine qT rfl rfl (fun wq hS => R.nilCheck rfl) ?_
   refine qT rfl rfl (fun wq hS => R.fieldAddr (off' := 36) rfl underlying118 rfl sizeOf44 rfl rfl) ?_
   refine WT.s (oN rfl ?_)
   refine WL.store1 h_48 rfl rfl sizeOf44 rfl Y2 (by decide) (Sg.t rfl (Sg.t rfl (Sg.t rfl (Sg.t rfl (Sg.t rfl Sg.h))))) (fun w_49 h_50 => ?_)
   refine WL.nil ?_
   refine ⟨(N1_3_4_5_6_7_9_10_11 h_50.ok), ?_⟩
   refine WT.nil (thn_n ?_)
   exact ⟨(b_42, a_45, c_46), (U4 rfl rfl rfl rfl (U4 rfl rfl rfl rfl (U4 rfl rfl rfl rfl (Ag.refl _ _)))), ⟨rfl, rfl, rfl, rfl, rfl, rfl, rfl, rfl, rfl, rfl, rfl, rfl, trivial⟩, h_50⟩
  ·refine oN rfl ?_
   refine WL.buildSl (vs := [(0, (.agg ⟨flat [(1, [(vi kd)]), (32, key.map vu8), (1, [(vi dm)]), (1, [(.slice a_25 qn cap_26)]), (32, (drawF df dn u).map vu8)]⟩))]) (cs := aC (kd, key, dm, data) (.slice a_25 qn cap_26) (drawF df dn u)) h_39 underlying44 sizeOf96 (zv typeInfo96 rfl) rfl rfl (fill_1 (zc := flat [(1, [vi 0]), (32, List.replicate 32 (vu8 0)), (1, [vi 0]), (1, [.slice none 0 0]), (32, List.replicate 32 (vu8 0))]) (by kernel_rfl) (sC (s := (67, flat [(1, [vi 0]), (32, List.replicate 32 (vu8 0)), (1, [vi 0]), (1, [.slice none 0 0]), (32, List.replicate 32 (vu8 0))])) ⟨by decide, SsOk.one (sC sV (sC (SOk.rep rfl) (sC sV (sC sV (sC (SOk.rep rfl) sN)))))⟩ sN) (aC_ok (q := (kd, key, dm, data)) (s := (.slice a_25 qn cap_26)) (d := drawF df dn u) hq.1 (drawF_len hdf) rfl)) ((aC_ok (q := (kd, key, dm, data)) (s := (.slice a_25 qn cap_26)) (d := drawF df dn u) hq.1 (drawF_len hdf) rfl)).head.len ((aC_ok (q := (kd, key, dm, data)) (s := (.slice a_25 qn cap_26)) (d := drawF df dn u) hq.1 (drawF_len hdf) rfl)).head.one rfl rfl (fun b_51 w_52 h_53 => ?_)
   refine WL.nil ?_
   refine ⟨(N1_3_4_5_6_7_9_10_11 h_53.ok), ?_⟩
   refine WT.s (oN rfl ?_)
   refine qV rfl (R.load1 rfl isAgg44 (h_53.ok _ M2) (Sg.t rfl (Sg.t rfl (Sg.t rfl (Sg.t rfl (Sg.t rfl Sg.h)))))) ?_
   refine WL.nil ?_
   refine ⟨(N1_3_4_5_6_7_9_10_11 h_53.ok), ?_⟩
   refine WT.s (oN rfl ?_)
   refine WL.append (km := lg.length + 1) (xs := lx) (ys := aC (kd, key, dm, data) (.slice a_25 qn cap_26) (drawF df dn u)) (zs := lx ++ aC (kd, key, dm, data) (.slice a_25 qn cap_26) (drawF df dn u)) h_53 rfl rfl el44 (viewB (h_53.ok _ M0) Sg.h) ((aC_ok (q := (kd, key, dm, data)) (s := (.slice a_25 qn cap_26)) (d := drawF df dn u) hq.1 (drawF_len hdf) rfl)).head.len ((aC_ok (q := (kd, key, dm, data)) (s := (.slice a_25 qn cap_26)) (d := drawF df dn u) hq.1 (drawF_len hdf) rfl)).head.one rfl (by omega) (by omega) (by omega) (fun _ _ => Y8) rfl (fun a_54 c_55 w_56 h_57 => ?_)
   refine WL.nil ?_
   refine ⟨(N1_3_4_5_6_7_9_10_11 h_57.ok), ?_⟩
   refine qT rfl rfl (fun wq hS => R.nilCheck rfl) ?_
   refine qT rfl rfl (fun wq hS => R.fieldAddr (off' := 36) rfl underlying118 rfl sizeOf44 rfl rfl) ?_
   refine WT.s (oN rfl ?_)
   refine WL.store1 h_57 rfl rfl sizeOf44 rfl Y2 (by decide) (Sg.t rfl (Sg.t rfl (Sg.t rfl (Sg.t rfl (Sg.t rfl Sg.h))))) (fun w_58 h_59 => ?_)
   refine WL.nil ?_
   refine ⟨(N1_3_4_5_6_7_9_10_11 h_59.ok), ?_⟩
   refine WT.nil (thn_n ?_)
   exact ⟨(b_51, a_54, c_55), (U4 rfl rfl rfl rfl (U4 rfl rfl rfl rfl (U4 rfl rfl rfl rfl (Ag.refl _ _)))), ⟨rfl, rfl, rfl, rfl, rfl, rfl, rfl, rfl, rfl, rfl, rfl, rfl, trivial⟩, h_59⟩
 ·rintro ⟨b_63, a_64, c_65⟩ J_60 w_61 h_62
  refine thn_n (WP.seq (WP.reg ?_))
  refine qV rfl (R.loadA [] [(32, (drawF df dn u).map vu8)] [] (cs := (drawF df dn u).map vu8) rfl isAgg23 sizeOf23 (h_62.ok _ M4) rfl rfl rfl rfl) ?_
  refine WL.storeA [] [(32, (zB 32).map vu8)] [(32, (drawF df dn u).map vu8)] [] h_62 rfl rfl sizeOf23 Y6 (by decide) rfl rfl rfl rfl rfl rfl (sC (s8 (drawF_len hdf)) sN) (fun w_66 h_67 => ?_)
  refine WL.nil (thn_n (WP.ret ?_))
  refine ret_of results87 (RV.cell rfl (h_67.loadA (cs := (drawF df dn u).map vu8) isAgg23 sizeOf23 M6 rfl rfl) RV.nil) ?_
  have h_83 := (((((((((((((((h_67.drop rfl).up J3).drop rfl).up J3).drop rfl).up J3).drop rfl).up J3).drop rfl).up J6).up J3).up J5).up J5).up J5).up J6).up J6
  have h_84 := HP_logPush (q := (kd, key, dm, data)) (d := drawF df dn u) h_83 hq (drawF_len hdf) hdl
  have h_95 := (((((((((h_84.up J1).drop rfl).up J1).drop rfl).up J5).up J5).up J2).up J5).up J5).up J5
  have hse : lg.length + 1 = (lg ++ [((kd, key, dm, data), drawF df dn u)]).length := snoc_len.symm
  have hme := mArr_push lg (kd, key, dm, data) (drawF df dn u)
  have h_85 := h_95
  rw [hse] at h_85
  exact ⟨_, _, _, by rw [anD_miss hfd]; rfl, by rw [anU_miss hfd, anL_miss hfd]; show HP _ _ (_ :: _ :: .obj _ _ (.map (mArr (lg ++ [((kd, key, dm, data), drawF df dn u)])) _) :: _); rw [hme]; exact h_85⟩

theorem c_ans {w00 : World} {L : List Ent} (ob mp : Nat) (ms df : List UInt8) (hms : ms.length = 32) (da : Option Addr) (dn dc u : Nat) (hdf : df.length = 32 * dn) (la : Option Addr) (lc : Nat) (lx : List Value) (lg : Lg) (hu : u ≤ 1000000) (hlg : lg.length ≤ 1000000) (kd dm : Int) (key data : List UInt8) (qa : Option Addr) (qn qc : Nat) (hq : okQ (kd, key, dm, data)) (hdl : data.length = qn) (cv : Value) (w : World) (h_0 : HP w00 w (Ent.blk ob .nw 118 [(1, [(.bool true)]), (32, ms.map vu8), (1, [(.slice da dn dc)]), (1, [(vi ((u : Nat) : Int))]), (1, [(.map (some mp))]), (1, [(.slice la lg.length lc)])] :: Ent.row la lg.length lc 96 67 lx :: Ent.obj mp .nw (.map (mArr lg) lg.length) :: Ent.pin (sblks lx) (fun w => Lgs w lx lg) :: Ent.view da (df.map vu8) :: Ent.view qa (data.map vu8) :: L)) :
  Cs Tryz.prog 87 [(.pointer (some ⟨ob, 0, none⟩)), (.agg ⟨flat [(1, [(vi kd)]), (32, key.map vu8), (1, [(vi dm)]), (1, [(.slice qa qn qc)])]⟩), cv].toArray w (fun v w1 => ∃ la' lc' lx', v = (.agg ⟨(anD true df dn u lg (kd, key, dm, data)).map vu8⟩) ∧ HP w00 w1 (Ent.blk ob .nw 118 [(1, [(.bool true)]), (32, ms.map vu8), (1, [(.slice da dn dc)]), (1, [(vi (((anU true u lg (kd, key, dm, data)) : Nat) : Int))]), (1, [(.map (some mp))]), (1, [(.slice la' ((anL true df dn u lg (kd, key, dm, data)).length) lc')])] :: Ent.row la' ((anL true df dn u lg (kd, key, dm, data)).length) lc' 96 67 lx' :: Ent.obj mp .nw (.map (mArr (anL true df dn u lg (kd, key, dm, data))) ((anL true df dn u lg (kd, key, dm, data)).length)) :: Ent.pin (sblks lx') (fun w => Lgs w lx' (anL true df dn u lg (kd, key, dm, data))) :: Ent.view da (df.map vu8) :: Ent.view qa (data.map vu8) :: L)) := by
 cases hfd : fdq (kd, key, dm, data) lg 0 with
 | none => exact c_ans_missT ob mp ms df hms da dn dc u hdf la lc lx lg hu hlg kd dm key data qa qn qc hq hdl cv hfd w h_0
 | some i => exact c_ans_hit true ob mp ms df hms da dn dc u hdf la lc lx lg hu hlg kd dm key data qa qn qc hq hdl cv i hfd w h_0

end Go.Proofs.YteclkcpdclimnaaGreat

namespace Go.Proofs.YteclkcpdclimnaaGreat
open Go.Proofs.Tryz
open Go.Vc Go.Orc Go.Sh Go.RowKit
set_option maxRecDepth 20000
theorem kt23 : Tryz.prog.keyTypeAt 2 23 = true := by kernel_rfl
theorem ag23 : aggB Tryz.prog 23 = true := by unfold aggB; rw [underlying23]
theorem c_othere_nil  (w : World) :
  Cs Tryz.prog 63 [(.pointer none)].toArray w (fun v w1 => v = (.bool false) ∧ Chg w w1 []) := by
 refine Cs.of (n := 12) (args := [(.pointer none)]) Tryz.func63 rfl rfl rfl ?_
 have h_0 := HP.init w
 refine WP.seq (WP.reg ?_)
 refine qA (.bool false) rfl rfl ?_
 refine WL.nil (thn_n (WP.seq (WP.reg ?_)))
 refine qM (.pointer none) rfl rfl (qV rfl (R.neNilP rfl rfl underlying31) (qM (.bool false) rfl rfl ?_))
 refine WL.skip rfl rfl rfl ?_
 refine WL.skip rfl rfl rfl ?_
 refine WL.skip rfl rfl rfl ?_
 refine WL.skip rfl rfl rfl ?_
 refine WL.skip rfl rfl rfl ?_
 refine qV rfl (R.pickF (v := (.bool false)) rfl rfl) (qA (.bool false) rfl rfl ?_)
 refine WL.nil (thn_n (WP.ret ?_))
 refine ret_of results63 (RV.tmp (v := (.bool false)) rfl RV.nil) ?_
 exact ⟨rfl, h_0.chgS⟩

theorem c_othere (id : Bool) (ob mp : Nat) (ms : List UInt8) (hms : ms.length = 32) (da : Option Addr) (dn dc u : Nat) (la : Option Addr) (ln lc : Nat) (w : World) (hcb : (Ent.blk ob .ro 118 [(1, [(.bool id)]), (32, ms.map vu8), (1, [(.slice da dn dc)]), (1, [(vi ((u : Nat) : Int))]), (1, [(.map (some mp))]), (1, [(.slice la ln lc)])]).ok w.heap.size w) :
  Cs Tryz.prog 63 [(.pointer (some ⟨ob, 0, none⟩))].toArray w (fun v w1 => v = (.bool true) ∧ Chg w w1 []) := by
 refine Cs.of (n := 12) (args := [(pO ob 0)]) Tryz.func63 rfl rfl rfl ?_
 have h_0 := HP.init w
 have h_00 := h_0.old hcb (fun f hf => by cases hf)
 refine WP.seq (WP.reg ?_)
 refine qA (.bool false) rfl rfl ?_
 refine WL.nil (thn_n (WP.seq (WP.reg ?_)))
 refine qM (pO ob 0) rfl rfl (qV rfl (R.neNilP rfl rfl underlying31) (qM (.bool true) rfl rfl ?_))
 refine WL.want rfl rfl ?_
 refine qM (pO ob 0) rfl rfl ?_
 refine WL.want rfl rfl ?_
 refine qV rfl (R.nilCheck rfl) ?_
 refine WL.want rfl rfl ?_
 refine qV rfl (R.fieldAddr (off' := 35) rfl underlying118 rfl sizeOf116 rfl rfl) ?_
 refine WL.want rfl rfl ?_
 refine qV rfl (R.load1 rfl isAgg116 (h_00.ok _ M0) (Sg.t rfl (Sg.t rfl (Sg.t rfl (Sg.t rfl Sg.h))))) ?_
 refine WL.want rfl rfl ?_
 refine qV rfl (R.neNilM rfl rfl underlying116) (qV rfl (R.pickT (v := (.bool true)) rfl rfl) (qA (.bool true) rfl rfl ?_))
 refine WL.nil (thn_n (WP.ret ?_))
 refine ret_of results63 (RV.tmp (v := (.bool true)) rfl RV.nil) ?_
 exact ⟨rfl, h_00.chgS⟩

theorem c_may (kd dm : Int) (key : List UInt8) (qa : Option Addr) (qn qc : Nat) (hk : key.length = 32) (h1 : 1 ≤ kd ∧ kd ≤ 4) (h2 : 1 ≤ dm ∧ dm ≤ 16) (hz : kd = 1 → key = List.replicate 32 0) (w : World) :
  Cs Tryz.prog 86 [(.agg ⟨flat [(1, [(vi kd)]), (32, key.map vu8), (1, [(vi dm)]), (1, [(.slice qa qn qc)])]⟩)].toArray w (fun v w1 => v = (.bool true) ∧ Chg w w1 []) := by
 refine Cs.of (n := 32) (args := [(.agg ⟨flat [(1, [(vi kd)]), (32, key.map vu8), (1, [(vi dm)]), (1, [(.slice qa qn qc)])]⟩)]) Tryz.func86 rfl rfl rfl ?_
 have h_0 := HP.init w
 refine WP.seq (WP.reg ?_)
 refine WL.box (segs := [(1, [(vi kd)]), (32, key.map vu8), (1, [(vi dm)]), (1, [(.slice qa qn qc)])]) h_0 rfl rfl (sC sV (sC (s8 hk) (sC sV (sC sV sN)))) rfl (fun b_1 w_2 h_3 => ?_)
 refine qA (.bool false) rfl rfl ?_
 refine WL.nil (thn_n (WP.seq (WP.reg ?_)))
 refine qV rfl (R.fieldAddr (off' := 0) rfl underlying90 rfl sizeOf86 rfl rfl) (qV rfl (R.load1 rfl isAgg86 (h_3.ok _ M0) Sg.h) (qV rfl (R.bin rfl rfl (bi_geq (r := decide ((kd : Int) ≥ 1)) rfl)) (qM (.bool (decide ((kd : Int) ≥ 1))) rfl rfl ?_)))
 refine WL.want rfl (congrArg Value.bool (decide_eq_true (by omega))) ?_
 refine qV rfl (R.fieldAddr (off' := 0) rfl underlying90 rfl sizeOf86 rfl rfl) ?_
 refine WL.want rfl (congrArg Value.bool (decide_eq_true (by omega))) ?_
 refine qV rfl (R.load1 rfl isAgg86 (h_3.ok _ M0) Sg.h) ?_
 refine WL.want rfl (congrArg Value.bool (decide_eq_true (by omega))) ?_
 refine qV rfl (R.bin rfl rfl (bi_leq (r := decide ((kd : Int) ≤ 4)) rfl)) (qV rfl (R.pickT (v := (.bool (decide ((kd : Int) ≤ 4)))) (congrArg Value.bool (decide_eq_true (by omega))) rfl) (qM (.bool (decide ((kd : Int) ≤ 4))) rfl rfl ?_))
 refine WL.want rfl (congrArg Value.bool (decide_eq_true (by omega))) ?_
 refine qV rfl (R.fieldAddr (off' := 33) rfl underlying90 rfl sizeOf87 rfl rfl) ?_
 refine WL.want rfl (congrArg Value.bool (decide_eq_true (by omega))) ?_
 refine qV rfl (R.load1 rfl isAgg87 (h_3.ok _ M0) (Sg.t rfl (Sg.t rfl Sg.h))) ?_
 refine WL.want rfl (congrArg Value.bool (decide_eq_true (by omega))) ?_
 refine qV rfl (R.bin rfl rfl (bi_geq (r := decide ((dm : Int) ≥ 1)) rfl)) (qV rfl (R.pickT (v := (.bool (decide ((dm : Int) ≥ 1)))) (congrArg Value.bool (decide_eq_true (by omega))) rfl) (qM (.bool (decide ((dm : Int) ≥ 1))) rfl rfl ?_))
 refine WL.want rfl (congrArg Value.bool (decide_eq_true (by omega))) ?_
 refine qV rfl (R.fieldAddr (off' := 33) rfl underlying90 rfl sizeOf87 rfl rfl) ?_
 refine WL.want rfl (congrArg Value.bool (decide_eq_true (by omega))) ?_
 refine qV rfl (R.load1 rfl isAgg87 (h_3.ok _ M0) (Sg.t rfl (Sg.t rfl Sg.h))) ?_
 refine WL.want rfl (congrArg Value.bool (decide_eq_true (by omega))) ?_
 refine qV rfl (R.bin rfl rfl (bi_leq (r := decide ((dm : Int) ≤ 16)) rfl)) (qV rfl (R.pickT (v := (.bool (decide ((dm : Int) ≤ 16)))) (congrArg Value.bool (decide_eq_true (by omega))) rfl) (qM (.bool (decide ((dm : Int) ≤ 16))) rfl rfl ?_))
 refine WL.want rfl (congrArg Value.bool (decide_eq_true (by omega))) ?_
 refine qV rfl (R.fieldAddr (off' := 0) rfl underlying90 rfl sizeOf86 rfl rfl) ?_
 refine WL.want rfl (congrArg Value.bool (decide_eq_true (by omega))) ?_
 refine qV rfl (R.load1 rfl isAgg86 (h_3.ok _ M0) Sg.h) ?_
 refine WL.want rfl (congrArg Value.bool (decide_eq_true (by omega))) ?_
 refine qV rfl (R.bin rfl rfl (bi_neq (r := decide ((kd : Int) ≠ 1)) rfl)) ?_
 refine WL.want rfl (congrArg Value.bool (decide_eq_true (by omega))) ?_
 refine qM (.bool (decide ((kd : Int) ≠ 1))) rfl rfl ?_
 rcases Bool.eq_false_or_eq_true (decide ((kd : Int) ≠ 1)) with c_4 | c_4
 ·have p_5 := of_decide_eq_true c_4
  refine WL.skip rfl (congrArg Value.bool c_4) rfl ?_
  refine WL.skip rfl (congrArg Value.bool c_4) rfl ?_
  refine WL.skip rfl (congrArg Value.bool c_4) rfl ?_
  refine WL.skip rfl (congrArg Value.bool c_4) rfl ?_
  refine WL.want rfl (congrArg Value.bool (decide_eq_true (by omega))) ?_
  refine qV rfl (R.pickT (v := (.bool true)) (congrArg Value.bool c_4) rfl) (qV rfl (R.pickT (v := (.bool true)) (congrArg Value.bool (decide_eq_true (by omega))) rfl) (qA (.bool true) rfl rfl ?_))
  refine WL.nil (thn_n (WP.ret ?_))
  refine ret_of results86 (RV.tmp (v := (.bool true)) rfl RV.nil) ?_
  exact ⟨rfl, h_3.chgS⟩
 ·have p_6 := of_decide_eq_false c_4
  refine WL.want rfl (congrArg Value.bool c_4) ?_
  refine qV rfl (R.fieldAddr (off' := 1) rfl underlying90 rfl sizeOf23 rfl rfl) ?_
  refine WL.want rfl (congrArg Value.bool c_4) ?_
  refine qV rfl (R.loadA [(1, [(vi kd)])] [(32, key.map vu8)] [(1, [(vi dm)]), (1, [(.slice qa qn qc)])] (cs := key.map vu8) rfl isAgg23 sizeOf23 (h_3.ok _ M0) rfl rfl rfl rfl) ?_
  refine WL.want rfl (congrArg Value.bool c_4) ?_
  refine qV rfl (R.buildA (vs := []) (cs := (zB 32).map vu8) underlying23 sizeOf5 (zv typeInfo23 rfl) rfl rfl) ?_
  refine WL.want rfl (congrArg Value.bool c_4) ?_
  refine qV rfl (R.eqA (xs := key.map vu8) (ys := (zB 32).map vu8) (r := true) rfl rfl eqGuardType23 kt23 (by decide) ag23 (Typ.u8s underlying23 ce23 underlying5 ce5 hk) (Typ.u8s underlying23 ce23 underlying5 ce5 lr) (eqT (by rw [hz (by omega)]))) ?_
  refine WL.want rfl (congrArg Value.bool (decide_eq_true (by omega))) ?_
  refine qV rfl (R.pickF (v := (.bool true)) (congrArg Value.bool c_4) rfl) (qV rfl (R.pickT (v := (.bool true)) (congrArg Value.bool (decide_eq_true (by omega))) rfl) (qA (.bool true) rfl rfl ?_))
  refine WL.nil (thn_n (WP.ret ?_))
  refine ret_of results86 (RV.tmp (v := (.bool true)) rfl RV.nil) ?_
  exact ⟨rfl, h_3.chgS⟩

theorem c_may_0 (dm : Int) (key : List UInt8) (qa : Option Addr) (qn qc : Nat) (hk : key.length = 32) (w : World) :
  Cs Tryz.prog 86 [(.agg ⟨flat [(1, [(vi 0)]), (32, key.map vu8), (1, [(vi dm)]), (1, [(.slice qa qn qc)])]⟩)].toArray w (fun v w1 => v = (.bool false) ∧ Chg w w1 []) := by
 refine Cs.of (n := 32) (args := [(.agg ⟨flat [(1, [(vi 0)]), (32, key.map vu8), (1, [(vi dm)]), (1, [(.slice qa qn qc)])]⟩)]) Tryz.func86 rfl rfl rfl ?_
 have h_0 := HP.init w
 refine WP.seq (WP.reg ?_)
 refine WL.box (segs := [(1, [(vi 0)]), (32, key.map vu8), (1, [(vi dm)]), (1, [(.slice qa qn qc)])]) h_0 rfl rfl (sC sV (sC (s8 hk) (sC sV (sC sV sN)))) rfl (fun b_1 w_2 h_3 => ?_)
 refine qA (.bool false) rfl rfl ?_
 refine WL.nil (thn_n (WP.seq (WP.reg ?_)))
 refine qV rfl (R.fieldAddr (off' := 0) rfl underlying90 rfl sizeOf86 rfl rfl) (qV rfl (R.load1 rfl isAgg86 (h_3.ok _ M0) Sg.h) (qV rfl (R.bin rfl rfl (bi_geq (r := false) (by decide))) (qM (.bool false) rfl rfl ?_)))
 refine WL.skip rfl rfl rfl ?_
 refine WL.skip rfl rfl rfl ?_
 refine WL.skip rfl rfl rfl ?_
 refine qV rfl (R.pickF (v := (.bool false)) rfl rfl) (qM (.bool false) rfl rfl ?_)
 refine WL.skip rfl rfl rfl ?_
 refine WL.skip rfl rfl rfl ?_
 refine WL.skip rfl rfl rfl ?_
 refine qV rfl (R.pickF (v := (.bool false)) rfl rfl) (qM (.bool false) rfl rfl ?_)
 refine WL.skip rfl rfl rfl ?_
 refine WL.skip rfl rfl rfl ?_
 refine WL.skip rfl rfl rfl ?_
 refine qV rfl (R.pickF (v := (.bool false)) rfl rfl) (qM (.bool false) rfl rfl ?_)
 refine WL.skip rfl rfl rfl ?_
 refine WL.skip rfl rfl rfl ?_
 refine WL.skip rfl rfl rfl ?_
 refine WL.skip rfl rfl rfl ?_
 refine WL.skipU rfl rfl rfl ?_
 refine WL.skipU rfl rfl rfl ?_
 refine WL.skipU rfl rfl rfl ?_
 refine WL.skipU rfl rfl rfl ?_
 refine WL.skip rfl rfl rfl ?_
 refine qV rfl (R.pickF (v := (.bool false)) rfl rfl) (qA (.bool false) rfl rfl ?_)
 refine WL.nil (thn_n (WP.ret ?_))
 refine ret_of results86 (RV.tmp (v := (.bool false)) rfl RV.nil) ?_
 exact ⟨rfl, h_3.chgS⟩

theorem c_oAsk_nil (kd dm : Int) (key : List UInt8) (qa : Option Addr) (qn qc : Nat) (hk : key.length = 32) (w : World) :
  Cs Tryz.prog 50 [(.pointer none), (.agg ⟨flat [(1, [(vi kd)]), (32, key.map vu8), (1, [(vi dm)]), (1, [(.slice qa qn qc)])]⟩)].toArray w (fun v w1 => v = (.tuple [(.agg ⟨(List.replicate 32 (0 : UInt8)).map vu8⟩), (vi 1)].toArray) ∧ Chg w w1 []) := by
 refine Cs.of (n := 25) (args := [(.pointer none), (.agg ⟨flat [(1, [(vi kd)]), (32, key.map vu8), (1, [(vi dm)]), (1, [(.slice qa qn qc)])]⟩)]) Tryz.func50 rfl rfl rfl ?_
 have h_0 := HP.init w
 refine WP.seq (WP.reg ?_)
 refine WL.box (segs := [(1, [(vi kd)]), (32, key.map vu8), (1, [(vi dm)]), (1, [(.slice qa qn qc)])]) h_0 rfl rfl (sC sV (sC (s8 hk) (sC sV (sC sV sN)))) rfl (fun b_1 w_2 h_3 => ?_)
 refine WL.alloc (segs := [(32, (zB 32).map vu8)]) h_3 (zv typeInfo23 rfl) rfl (sC (s8 lr) sN) rfl (fun b_4 w_5 h_6 => ?_)
 refine qA (vi 0) rfl rfl ?_
 refine WL.nil (thn_n (WP.seq (WP.block (WP.seq (WP.reg ?_)))))
 refine qM (.pointer none) rfl rfl ?_
 refine WL.call Tryz.call63 rfl rfl (c_othere_nil  _ ) rfl ?_
 rintro _ w_8 ⟨rfl, hc_7⟩
 have h_9 := h_6.same hc_7
 refine qV rfl (R.not (b := false) rfl) (qA (.bool true) rfl rfl ?_)
 refine WL.nil (thn_n ?_)
 refine WP.condT rfl ?_
 refine WP.seq (WP.reg ?_)
 refine qV rfl (R.buildA (vs := []) (cs := (zB 32).map vu8) underlying23 sizeOf5 (zv typeInfo23 rfl) rfl rfl) ?_
 refine WL.storeA [] [(32, (zB 32).map vu8)] [(32, (zB 32).map vu8)] [] h_9 rfl rfl sizeOf23 At.h (by decide) rfl rfl rfl rfl rfl rfl (sC (s8 lr) sN) (fun w_10 h_11 => ?_)
 refine qA (vi 1) rfl rfl ?_
 refine WL.nil (thn_n (WP.ret (inb_r (thn_r ?_))))
 refine ret_of results50 (RV.cell rfl (h_11.loadA (cs := (zB 32).map vu8) isAgg23 sizeOf23 M0 rfl rfl) (RV.tmp (v := (vi 1)) rfl RV.nil)) ?_
 exact ⟨rfl, h_11.chgS⟩

theorem c_oAsk_0 (id : Bool) (ob mp : Nat) (ms : List UInt8) (hms : ms.length = 32) (da : Option Addr) (dn dc u : Nat) (la : Option Addr) (ln lc : Nat) (dm : Int) (key : List UInt8) (qa : Option Addr) (qn qc : Nat) (hk : key.length = 32) (w : World) (hcb : (Ent.blk ob .ro 118 [(1, [(.bool id)]), (32, ms.map vu8), (1, [(.slice da dn dc)]), (1, [(vi ((u : Nat) : Int))]), (1, [(.map (some mp))]), (1, [(.slice la ln lc)])]).ok w.heap.size w) :
  Cs Tryz.prog 50 [(.pointer (some ⟨ob, 0, none⟩)), (.agg ⟨flat [(1, [(vi 0)]), (32, key.map vu8), (1, [(vi dm)]), (1, [(.slice qa qn qc)])]⟩)].toArray w (fun v w1 => v = (.tuple [(.agg ⟨(List.replicate 32 (0 : UInt8)).map vu8⟩), (vi 2)].toArray) ∧ Chg w w1 []) := by
 refine Cs.of (n := 25) (args := [(pO ob 0), (.agg ⟨flat [(1, [(vi 0)]), (32, key.map vu8), (1, [(vi dm)]), (1, [(.slice qa qn qc)])]⟩)]) Tryz.func50 rfl rfl rfl ?_
 have h_0 := HP.init w
 have h_00 := h_0.old hcb (fun f hf => by cases hf)
 refine WP.seq (WP.reg ?_)
 refine WL.box (segs := [(1, [(vi 0)]), (32, key.map vu8), (1, [(vi dm)]), (1, [(.slice qa qn qc)])]) h_00 rfl rfl (sC sV (sC (s8 hk) (sC sV (sC sV sN)))) rfl (fun b_1 w_2 h_3 => ?_)
 refine WL.alloc (segs := [(32, (zB 32).map vu8)]) h_3 (zv typeInfo23 rfl) rfl (sC (s8 lr) sN) rfl (fun b_4 w_5 h_6 => ?_)
 refine qA (vi 0) rfl rfl ?_
 refine WL.nil (thn_n (WP.seq (WP.block (WP.seq (WP.reg ?_)))))
 refine qM (pO ob 0) rfl rfl ?_
 refine WL.call Tryz.call63 rfl rfl (c_othere id ob mp ms hms da dn dc u la ln lc _ (h_6.argR M2)) rfl ?_
 rintro _ w_8 ⟨rfl, hc_7⟩
 have h_9 := h_6.same hc_7
 refine qV rfl (R.not (b := true) rfl) (qA (.bool false) rfl rfl ?_)
 refine WL.nil (thn_n ?_)
 refine WP.condF rfl ?_
 refine WP.seq (WP.reg ?_)
 refine qV rfl (R.loadA [] [(1, [(vi 0)]), (32, key.map vu8), (1, [(vi dm)]), (1, [(.slice qa qn qc)])] [] rfl isAgg90 sizeOf90 (h_9.ok _ M1) rfl rfl rfl rfl) ?_
 refine WL.call Tryz.call86 rfl rfl (c_may_0 dm key qa qn qc hk _ ) rfl ?_
 rintro _ w_11 ⟨rfl, hc_10⟩
 have h_12 := h_9.same hc_10
 refine qV rfl (R.not (b := false) rfl) (qM (.bool true) rfl rfl ?_)
 refine WL.skip rfl rfl rfl ?_
 refine WL.skip rfl rfl rfl ?_
 refine WL.skip rfl rfl rfl ?_
 refine qV rfl (R.pickT (v := (.bool true)) rfl rfl) (qA (.bool true) rfl rfl ?_)
 refine WL.nil (thn_n ?_)
 refine WP.condT rfl ?_
 refine WP.seq (WP.reg ?_)
 refine qV rfl (R.buildA (vs := []) (cs := (zB 32).map vu8) underlying23 sizeOf5 (zv typeInfo23 rfl) rfl rfl) ?_
 refine WL.storeA [] [(32, (zB 32).map vu8)] [(32, (zB 32).map vu8)] [] h_12 rfl rfl sizeOf23 At.h (by decide) rfl rfl rfl rfl rfl rfl (sC (s8 lr) sN) (fun w_13 h_14 => ?_)
 refine qA (vi 2) rfl rfl ?_
 refine WL.nil (thn_n (WP.ret (inb_r (thn_r ?_))))
 refine ret_of results50 (RV.cell rfl (h_14.loadA (cs := (zB 32).map vu8) isAgg23 sizeOf23 M0 rfl rfl) (RV.tmp (v := (vi 2)) rfl RV.nil)) ?_
 exact ⟨rfl, h_14.chgS⟩

end Go.Proofs.YteclkcpdclimnaaGreat

namespace Go.Proofs.YteclkcpdclimnaaGreat
open Go.Proofs.Tryz
open Go.Vc Go.Orc Go.Sh Go.RowKit
set_option maxRecDepth 20000
theorem pl90 : ∀ fs, Tryz.prog.underlying 90 = some (.struct fs) → Places Tryz.prog fs [(0, 1), (1, 32), (33, 1), (34, 1)] := by
 intro fs h w; rw [underlying90] at h; cases h; simp
theorem pl118 : ∀ fs, Tryz.prog.underlying 118 = some (.struct fs) → Places Tryz.prog fs [(0, 1), (1, 32), (33, 1), (34, 1), (35, 1), (36, 1)] := by
 intro fs h w; rw [underlying118] at h; cases h; simp
theorem c_ONew {w00 : World} {L : List Ent} (id : Bool) (ms df : List UInt8) (hms : ms.length = 32) (a : Option Addr) (n cap : Nat) (hl : df.length = 32 * n) (hn : n ≤ 1000000) (w : World) (h_0 : HP w00 w (Ent.view a (df.map vu8) :: L)) :
  Cs Tryz.prog 46 [(.bool id), (.agg ⟨ms.map vu8⟩), (.slice a n cap)].toArray w (fun v w1 => ∃ ob mp da dc, v = .pointer (some ⟨ob, 0, none⟩) ∧ HP w00 w1 (Ent.blk ob .nw 118 [(1, [(.bool id)]), (32, ms.map vu8), (1, [(.slice da n dc)]), (1, [(vi 0)]), (1, [(.map (some mp))]), (1, [(.slice none 0 0)])] :: Ent.row none 0 0 96 67 [] :: Ent.obj mp .nw (.map (mArr ([] : Lg)) 0) :: Ent.pin (sblks []) (fun w => Lgs w [] ([] : Lg)) :: Ent.view da (df.map vu8) :: Ent.view a (df.map vu8) :: L)) := by
 refine Cs.of (n := 14) (args := [(.bool id), (.agg ⟨ms.map vu8⟩), (.slice a n cap)]) Tryz.func46 rfl rfl rfl ?_
 refine WP.seq (WP.reg ?_)
 refine WL.box (segs := [(32, ms.map vu8)]) h_0 rfl rfl (sC (s8 hms) sN) rfl (fun b_1 w_2 h_3 => ?_)
 refine qA (.pointer none) rfl rfl ?_
 refine WL.nil (thn_n (WP.seq ?_))
 refine WP.cutG (G := Nat × Option Addr × Nat × Nat) [6, 7, 8, 9, 10, 11, 12, 13] (fun (bY1Y6Y0Y0, aY1Y3Y0Y0, capY1Y3Y0Y0, bY1Y4Y0Y0) => [(6, (pO bY1Y6Y0Y0 0)), (7, (.bool id)), (8, (.agg ⟨ms.map vu8⟩)), (9, (.slice a n cap)), (10, (.slice aY1Y3Y0Y0 n capY1Y3Y0Y0)), (11, (.map (some bY1Y4Y0Y0))), (12, (.agg ⟨flat [(1, [(.bool id)]), (32, ms.map vu8), (1, [(.slice aY1Y3Y0Y0 n capY1Y3Y0Y0)]), (1, [(vi 0)]), (1, [(.map (some bY1Y4Y0Y0))]), (1, [(.slice none 0 0)])]⟩)), (13, (pO bY1Y6Y0Y0 0))]) (fun (bY1Y6Y0Y0, aY1Y3Y0Y0, capY1Y3Y0Y0, bY1Y4Y0Y0) w1 => HP w00 w1 (Ent.blk bY1Y6Y0Y0 .nw 118 [(1, [(.bool id)]), (32, ms.map vu8), (1, [(.slice aY1Y3Y0Y0 n capY1Y3Y0Y0)]), (1, [(vi 0)]), (1, [(.map (some bY1Y4Y0Y0))]), (1, [(.slice none 0 0)])] :: Ent.obj bY1Y4Y0Y0 .nw (.map (#[]) 0) :: Ent.row aY1Y3Y0Y0 n capY1Y3Y0Y0 23 32 (df.map vu8) :: Ent.blk b_1 .nw 23 [(32, ms.map vu8)] :: Ent.view a (df.map vu8) :: L)) ?_ ?_
 ·refine WP.drawT (SL w00.heap.size [.blk b_1 .nw 23 [(32, ms.map vu8)], .view a (df.map vu8)]) (.q 0 (.q 1 (.q 2 (.s2 3 4 (.s 4 (.q 5 (.s 6 (.q 7 .nil)))) (.s 3 (.q 5 (.s 6 (.q 7 .nil)))))))) (by kernel_rfl) (by kernel_rfl) rfl (by kernel_rfl) (fun w_4 hc_6 => (SL.cons ((h_3.same hc_6).ok _ M0) (SL.cons ((h_3.same hc_6).ok _ M1) (SL.nil _ _)))) (fun w_4 hc_6 => ?_)
  have h_5 := h_3.same hc_6
  refine qT rfl rfl (fun wq hS => R.move (v := (.bool id)) rfl) ?_
  refine qT rfl rfl (fun wq hS => R.loadA [] [(32, ms.map vu8)] [] (cs := ms.map vu8) rfl isAgg23 sizeOf23 (hS _ M0) rfl rfl rfl rfl) ?_
  refine qT rfl rfl (fun wq hS => R.move (v := (.slice a n cap)) rfl) ?_
  refine WT.s2 ?_ ?_
  ·refine oN rfl ?_
   refine WL.call Tryz.call81 rfl rfl (c_CloneD a n cap df hl (by omega) _ (viewV (h_5.ok _ M1))) rfl ?_
   rintro _ w_9 ⟨a_7, cap_8, rfl, hc_10, ho_11⟩
   have h_12 := h_5.gotRow hc_10 ho_11
   refine WL.nil ?_
   refine ⟨(N1_2 h_12.ok), ?_⟩
   refine WT.s (oN rfl ?_)
   refine WL.makeMap h_12 rfl (fun b_13 w_14 h_15 => ?_)
   refine WL.nil ?_
   refine ⟨(N2_3 h_15.ok), ?_⟩
   refine qT rfl rfl (fun wq hS => R.buildS (pl := [(0, 1), (1, 32), (33, 1), (34, 1), (35, 1), (36, 1)]) (zs := [(1, [(.bool false)]), (32, (zB 32).map vu8), (1, [(.slice none 0 0)]), (1, [(vi 0)]), (1, [(.map none)]), (1, [(.slice none 0 0)])]) (vs := [(0, (.bool id)), (1, (.agg ⟨ms.map vu8⟩)), (2, (.slice a_7 n cap_8)), (4, (.map (some b_13)))]) (out := [(1, [(.bool id)]), (32, ms.map vu8), (1, [(.slice a_7 n cap_8)]), (1, [(vi 0)]), (1, [(.map (some b_13))]), (1, [(.slice none 0 0)])]) underlying118 (zv typeInfo118 rfl) rfl (sC sV (sC (s8 lr) (sC sV (sC sV (sC sV (sC sV sN)))))) (pl118 _ underlying118) rfl (FillR.cons [] [(1, [(.bool false)])] [(1, [(.bool id)])] [(32, (zB 32).map vu8), (1, [(.slice none 0 0)]), (1, [(vi 0)]), (1, [(.map none)]), (1, [(.slice none 0 0)])] rfl rfl rfl rfl (sC sV sN) rfl rfl rfl (FillR.cons [(1, [(.bool id)])] [(32, (zB 32).map vu8)] [(32, ms.map vu8)] [(1, [(.slice none 0 0)]), (1, [(vi 0)]), (1, [(.map none)]), (1, [(.slice none 0 0)])] rfl rfl rfl rfl (sC (s8 hms) sN) rfl rfl rfl (FillR.cons [(1, [(.bool id)]), (32, ms.map vu8)] [(1, [(.slice none 0 0)])] [(1, [(.slice a_7 n cap_8)])] [(1, [(vi 0)]), (1, [(.map none)]), (1, [(.slice none 0 0)])] rfl rfl rfl rfl (sC sV sN) rfl rfl rfl (FillR.cons [(1, [(.bool id)]), (32, ms.map vu8), (1, [(.slice a_7 n cap_8)]), (1, [(vi 0)])] [(1, [(.map none)])] [(1, [(.map (some b_13))])] [(1, [(.slice none 0 0)])] rfl rfl rfl rfl (sC sV sN) rfl rfl rfl FillR.nil)))) rfl) ?_
   refine WT.s (oN rfl ?_)
   refine WL.box (segs := [(1, [(.bool id)]), (32, ms.map vu8), (1, [(.slice a_7 n cap_8)]), (1, [(vi 0)]), (1, [(.map (some b_13))]), (1, [(.slice none 0 0)])]) h_15 rfl rfl (sC sV (sC (s8 hms) (sC sV (sC sV (sC sV (sC sV sN)))))) rfl (fun b_17 w_18 h_19 => ?_)
   refine WL.nil ?_
   refine ⟨(N3_4 h_19.ok), ?_⟩
   refine qT rfl rfl (fun wq hS => R.assign (v := (pO b_17 0)) rfl) ?_
   refine WT.nil (thn_n ?_)
   exact ⟨(b_17, a_7, cap_8, b_13), (U4 rfl rfl rfl rfl (U4 rfl rfl rfl rfl (Ag.refl _ _))), ⟨rfl, rfl, rfl, rfl, rfl, rfl, rfl, rfl, trivial⟩, h_19⟩
  ·refine oN rfl ?_
   refine WL.makeMap h_5 rfl (fun b_20 w_21 h_22 => ?_)
   refine WL.nil ?_
   refine ⟨(N1_2 h_22.ok), ?_⟩
   refine WT.s (oN rfl ?_)
   refine WL.call Tryz.call81 rfl rfl (c_CloneD a n cap df hl (by omega) _ (viewV (h_22.ok _ M2))) rfl ?_
   rintro _ w_25 ⟨a_23, cap_24, rfl, hc_26, ho_27⟩
   have h_28 := h_22.gotRow hc_26 ho_27
   refine WL.nil ?_
   refine ⟨(N2_3 h_28.ok), ?_⟩
   refine qT rfl rfl (fun wq hS => R.buildS (pl := [(0, 1), (1, 32), (33, 1), (34, 1), (35, 1), (36, 1)]) (zs := [(1, [(.bool false)]), (32, (zB 32).map vu8), (1, [(.slice none 0 0)]), (1, [(vi 0)]), (1, [(.map none)]), (1, [(.slice none 0 0)])]) (vs := [(0, (.bool id)), (1, (.agg ⟨ms.map vu8⟩)), (2, (.slice a_23 n cap_24)), (4, (.map (some b_20)))]) (out := [(1, [(.bool id)]), (32, ms.map vu8), (1, [(.slice a_23 n cap_24)]), (1, [(vi 0)]), (1, [(.map (some b_20))]), (1, [(.slice none 0 0)])]) underlying118 (zv typeInfo118 rfl) rfl (sC sV (sC (s8 lr) (sC sV (sC sV (sC sV (sC sV sN)))))) (pl118 _ underlying118) rfl (FillR.cons [] [(1, [(.bool false)])] [(1, [(.bool id)])] [(32, (zB 32).map vu8), (1, [(.slice none 0 0)]), (1, [(vi 0)]), (1, [(.map none)]), (1, [(.slice none 0 0)])] rfl rfl rfl rfl (sC sV sN) rfl rfl rfl (FillR.cons [(1, [(.bool id)])] [(32, (zB 32).map vu8)] [(32, ms.map vu8)] [(1, [(.slice none 0 0)]), (1, [(vi 0)]), (1, [(.map none)]), (1, [(.slice none 0 0)])] rfl rfl rfl rfl (sC (s8 hms) sN) rfl rfl rfl (FillR.cons [(1, [(.bool id)]), (32, ms.map vu8)] [(1, [(.slice none 0 0)])] [(1, [(.slice a_23 n cap_24)])] [(1, [(vi 0)]), (1, [(.map none)]), (1, [(.slice none 0 0)])] rfl rfl rfl rfl (sC sV sN) rfl rfl rfl (FillR.cons [(1, [(.bool id)]), (32, ms.map vu8), (1, [(.slice a_23 n cap_24)]), (1, [(vi 0)])] [(1, [(.map none)])] [(1, [(.map (some b_20))])] [(1, [(.slice none 0 0)])] rfl rfl rfl rfl (sC sV sN) rfl rfl rfl FillR.nil)))) rfl) ?_
   refine WT.s (oN rfl ?_)
   refine WL.box (segs := [(1, [(.bool id)]), (32, ms.map vu8), (1, [(.slice a_23 n cap_24)]), (1, [(vi 0)]), (1, [(.map (some b_20))]), (1, [(.slice none 0 0)])]) h_28 rfl rfl (sC sV (sC (s8 hms) (sC sV (sC sV (sC sV (sC sV sN)))))) rfl (fun b_30 w_31 h_32 => ?_)
   refine WL.nil ?_
   refine ⟨(N3_4 h_32.ok), ?_⟩
   refine qT rfl rfl (fun wq hS => R.assign (v := (pO b_30 0)) rfl) ?_
   refine WT.nil (thn_n ?_)
   have h_37 := ((((h_32.up J4).up J4).up J3).up J4).up J4
   exact ⟨(b_30, a_23, cap_24, b_20), (U4 rfl rfl rfl rfl (U4 rfl rfl rfl rfl (Ag.refl _ _))), ⟨rfl, rfl, rfl, rfl, rfl, rfl, rfl, rfl, trivial⟩, h_37⟩
 ·rintro ⟨b_41, a_42, cap_43, b_44⟩ J_38 w_39 h_40
  refine thn_n (WP.ret ?_)
  refine ret_of results46 (RV.tmp (v := (pO b_41 0)) rfl RV.nil) ?_
  have h_45 := h_40.up J2
  have h_46 := h_45.rowView
  have h_47 := h_46.rowNil 96 67
  have h_48 := HP_logNil h_47
  have h_56 := (((((((h_48.up J5).drop rfl).up J5).up J3).up J2).up J5).up J4).up J5
  exact ⟨_, _, _, _, rfl, h_56⟩

theorem c_oStream {w00 : World} {L : List Ent} (ob mp : Nat) (ms df : List UInt8) (hms : ms.length = 32) (da : Option Addr) (dn dc u : Nat) (hdf : df.length = 32 * dn) (la : Option Addr) (lc : Nat) (lx : List Value) (lg : Lg) (hu : u ≤ 500000) (hlg : lg.length ≤ 500000) (dm : Int) (key data : List UInt8) (qa : Option Addr) (qn qc : Nat) (hk : key.length = 32) (hdm : 1 ≤ dm ∧ dm ≤ 16) (hdl : data.length = qn) (hqn : qn ≤ 100000) (sn : Nat) (hsn : sn ≤ 1024) (w : World) (h_0 : HP w00 w (Ent.blk ob .nw 118 [(1, [(.bool true)]), (32, ms.map vu8), (1, [(.slice da dn dc)]), (1, [(vi ((u : Nat) : Int))]), (1, [(.map (some mp))]), (1, [(.slice la lg.length lc)])] :: Ent.row la lg.length lc 96 67 lx :: Ent.obj mp .nw (.map (mArr lg) lg.length) :: Ent.pin (sblks lx) (fun w => Lgs w lx lg) :: Ent.view da (df.map vu8) :: Ent.view qa (data.map vu8) :: L)) :
  Cs Tryz.prog 68 [(.pointer (some ⟨ob, 0, none⟩)), (.agg ⟨flat [(1, [(vi 4)]), (32, key.map vu8), (1, [(vi dm)]), (1, [(.slice qa qn qc)])]⟩), (vi ((sn : Nat) : Int))].toArray w (fun v w1 => ∃ a la' lc' lx', v = .tuple [.slice a sn sn, vi 0].toArray ∧ HP w00 w1 (.row a sn sn 5 1 ((((sT df dn key dm data u lg ((sn + 31) / 32)).2.2).take sn).map vu8) :: Ent.blk ob .nw 118 [(1, [(.bool true)]), (32, ms.map vu8), (1, [(.slice da dn dc)]), (1, [(vi (((sT df dn key dm data u lg ((sn + 31) / 32)).1 : Nat) : Int))]), (1, [(.map (some mp))]), (1, [(.slice la' ((sT df dn key dm data u lg ((sn + 31) / 32)).2.1.length) lc')])] :: Ent.row la' ((sT df dn key dm data u lg ((sn + 31) / 32)).2.1.length) lc' 96 67 lx' :: Ent.obj mp .nw (.map (mArr ((sT df dn key dm data u lg ((sn + 31) / 32)).2.1)) ((sT df dn key dm data u lg ((sn + 31) / 32)).2.1.length)) :: Ent.pin (sblks lx') (fun w => Lgs w lx' ((sT df dn key dm data u lg ((sn + 31) / 32)).2.1)) :: Ent.view da (df.map vu8) :: Ent.view qa (data.map vu8) :: L)) := by
 have h32 : ok32 lg := Lgs.ok32 (h_0.ok _ M3).1
 refine Cs.of (n := 88) (args := [(pO ob 0), (.agg ⟨flat [(1, [(vi 4)]), (32, key.map vu8), (1, [(vi dm)]), (1, [(.slice qa qn qc)])]⟩), (vn sn)]) Tryz.func68 rfl rfl rfl ?_
 refine WP.seq (WP.reg ?_)
 refine WL.box (segs := [(1, [(vi 4)]), (32, key.map vu8), (1, [(vi dm)]), (1, [(.slice qa qn qc)])]) h_0 rfl rfl (sC sV (sC (s8 hk) (sC sV (sC sV sN)))) rfl (fun b_1 w_2 h_3 => ?_)
 refine WL.box (segs := [(1, [(vn sn)])]) h_3 rfl rfl (sC sV sN) rfl (fun b_4 w_5 h_6 => ?_)
 refine qA (.slice none 0 0) rfl rfl (qA (vi 0) rfl rfl ?_)
 refine WL.nil (thn_n (WP.seq (WP.block (WP.seq (WP.reg ?_)))))
 refine qM (pO ob 0) rfl rfl ?_
 refine WL.call Tryz.call63 rfl rfl (c_othere true ob mp ms hms da dn dc u la lg.length lc _ (h_6.argR M2)) rfl ?_
 rintro _ w_8 ⟨rfl, hc_7⟩
 have h_9 := h_6.same hc_7
 refine qV rfl (R.not (b := true) rfl) (qA (.bool false) rfl rfl ?_)
 refine WL.nil (thn_n ?_)
 refine WP.condF rfl ?_
 refine WP.seq (WP.reg ?_)
 refine qV rfl (R.loadA [] [(1, [(vi 4)]), (32, key.map vu8), (1, [(vi dm)]), (1, [(.slice qa qn qc)])] [] rfl isAgg90 sizeOf90 (h_9.ok _ M1) rfl rfl rfl rfl) ?_
 refine WL.call Tryz.call86 rfl rfl (c_may 4 dm key qa qn qc hk (by omega) hdm (fun h => by omega) _ ) rfl ?_
 rintro _ w_11 ⟨rfl, hc_10⟩
 have h_12 := h_9.same hc_10
 refine qV rfl (R.not (b := true) rfl) (qM (.bool false) rfl rfl ?_)
 refine WL.want rfl rfl ?_
 refine qV rfl (R.fieldAddr (off' := 0) rfl underlying90 rfl sizeOf86 rfl rfl) ?_
 refine WL.want rfl rfl ?_
 refine qV rfl (R.load1 rfl isAgg86 (h_12.ok _ M1) Sg.h) ?_
 refine WL.want rfl rfl ?_
 refine qV rfl (R.bin rfl rfl (bi_neq (r := false) (by decide))) (qV rfl (R.pickF (v := (.bool false)) rfl rfl) (qM (.bool false) rfl rfl ?_))
 refine WL.want rfl rfl ?_
 refine qV rfl (R.load1 rfl isAgg3 (h_12.ok _ M0) Sg.h) ?_
 refine WL.want rfl rfl ?_
 refine qV rfl (R.bin rfl rfl (bi_lss (r := decide ((((sn : Nat) : Int) : Int) < 0)) rfl)) (qV rfl (R.pickF (v := (.bool (decide ((((sn : Nat) : Int) : Int) < 0)))) rfl rfl) (qM (.bool (decide ((((sn : Nat) : Int) : Int) < 0))) rfl rfl ?_))
 refine WL.want rfl (congrArg Value.bool (decide_eq_false (by omega))) ?_
 refine qV rfl (R.load1 rfl isAgg3 (h_12.ok _ M0) Sg.h) ?_
 refine WL.want rfl (congrArg Value.bool (decide_eq_false (by omega))) ?_
 refine qV rfl (R.bin rfl rfl (bi_gtr (r := decide ((((sn : Nat) : Int) : Int) > 1024)) rfl)) (qV rfl (R.pickF (v := (.bool (decide ((((sn : Nat) : Int) : Int) > 1024)))) (congrArg Value.bool (decide_eq_false (by omega))) rfl) (qA (.bool (decide ((((sn : Nat) : Int) : Int) > 1024))) rfl rfl ?_))
 refine WL.nil (thn_n ?_)
 refine WP.condF (congrArg Value.bool (decide_eq_false (by omega))) ?_
 refine WP.skip (inb_n (thn_n (WP.seq (WP.seq (WP.reg ?_)))))
 refine qM (pO ob 0) rfl rfl (qV rfl (R.nilCheck rfl) (qV rfl (R.fieldAddr (off' := 0) rfl underlying118 rfl sizeOf4 rfl rfl) (qV rfl (R.load1 rfl isAgg4 (h_12.ok _ M2) Sg.h) ?_)))
 refine WL.nil (thn_n ?_)
 refine WP.condT rfl ?_
 refine WP.seq (WP.reg ?_)
 refine qA (.slice none 0 0) rfl rfl ?_
 refine WL.nil (thn_n (WP.seq (WP.seq (WP.reg ?_))))
 refine qA (vu64 0) rfl rfl ?_
 refine WL.nil (thn_n (WP.block ?_))
 have h_13 := h_12.rowNil 5 1
 have h_22 := ((((((((h_13.up J8).up J3).up J3).up J3).up J8).up J8).up J8).up J8).up J8
 refine WP.loopG (G := Nat × Option Addr × Nat × Option Addr × Nat × List Value) [8, 9, 10, 11, 40, 41, 42, 43, 44, 45, 46, 47, 48, 49, 50, 51, 52, 53, 54, 55, 56, 57, 58, 59] (fun (k, oa, oc, la2, lc2, lx2) => [(8, (.slice oa (32 * k) oc)), (9, (vu64 (UInt64.ofNat k)))]) (fun (k, oa, oc, la2, lc2, lx2) m w1 => HP w00 w1 (Ent.blk ob .nw 118 [(1, [(.bool true)]), (32, ms.map vu8), (1, [(.slice da dn dc)]), (1, [(vn ((sT df dn key dm data u lg k).1))]), (1, [(.map (some mp))]), (1, [(.slice la2 ((sT df dn key dm data u lg k).2.1.length) lc2)])] :: Ent.row la2 ((sT df dn key dm data u lg k).2.1.length) lc2 96 67 lx2 :: Ent.obj mp .nw (.map (mArr ((sT df dn key dm data u lg k).2.1)) ((sT df dn key dm data u lg k).2.1.length)) :: Ent.pin (sblks lx2) (fun w => Lgs w lx2 ((sT df dn key dm data u lg k).2.1)) :: Ent.view da (df.map vu8) :: Ent.row oa (32 * k) oc 5 1 (((sT df dn key dm data u lg k).2.2).map vu8) :: Ent.blk b_4 .nw 3 [(1, [(vn sn)])] :: Ent.blk b_1 .nw 90 [(1, [(vi 4)]), (32, key.map vu8), (1, [(vi dm)]), (1, [(.slice qa qn qc)])] :: Ent.view qa (data.map vu8) :: L) ∧ (32 * k ≤ sn + 31) ∧ m = sn + 32 - 32 * k) ⟨(0, none, 0, la, lc, lx), _, ⟨rfl, rfl, trivial⟩, h_22, (by omega), rfl⟩ ?_
 rintro ⟨k, oa, oc, la2, lc2, lx2⟩ m_25 J_26 w_23 ⟨h_24, hkk, rfl⟩
 have hsu := sT_u (df := df) (dn := dn) (key := key) (dm := dm) (data := data) (u := u) (lg := lg) k
 have hsl := sT_l (df := df) (dn := dn) (key := key) (dm := dm) (data := data) (u := u) (lg := lg) k
 have hs32 := sT_32 (key := key) (dm := dm) (data := data) (u := u) hdf h32 k
 have hk8 : k < 100 → (UInt64.ofNat k).toNat = k := fun _ => by simp; omega
 refine WP.seq (WP.seq (WP.reg ?_))
 refine qM (.slice oa (32 * k) oc) rfl rfl (qV rfl (R.lenS (a := oa) (m := 32 * k) rfl rfl underlying88) (qV rfl (R.load1 rfl isAgg3 (h_24.ok _ M6) Sg.h) (qV rfl (R.bin rfl rfl (bi_lss (r := decide ((((32 * k : Nat) : Int) : Int) < ((sn : Nat) : Int))) rfl)) ?_)))
 refine WL.nil (thn_n ?_)
 refine WP.cond (b := decide ((((32 * k : Nat) : Int) : Int) < ((sn : Nat) : Int))) rfl (fun c_27 => ?_) (fun c_27 => ?_)
 ·have p_28 := of_decide_eq_true c_27
  refine WP.skip (thn_n (WP.seq (WP.block (WP.seq (WP.reg ?_)))))
  refine qV rfl (R.loadA [] [(1, [(vi 4)]), (32, key.map vu8), (1, [(vi dm)]), (1, [(.slice qa qn qc)])] [] rfl isAgg90 sizeOf90 (h_24.ok _ M7) rfl rfl rfl rfl) ?_
  refine WL.alloc (segs := [(1, [(vi 0)]), (32, (zB 32).map vu8), (1, [(vi 0)]), (1, [(.slice none 0 0)])]) h_24 (zv typeInfo90 rfl) rfl (sC sV (sC (s8 lr) (sC sV (sC sV sN)))) rfl (fun b_29 w_30 h_31 => ?_)
  refine WL.storeA [] [(1, [(vi 0)]), (32, (zB 32).map vu8), (1, [(vi 0)]), (1, [(.slice none 0 0)])] [(1, [(vi 4)]), (32, key.map vu8), (1, [(vi dm)]), (1, [(.slice qa qn qc)])] [] h_31 rfl rfl sizeOf90 At.h (by decide) rfl rfl rfl rfl rfl rfl (sC sV (sC (s8 hk) (sC sV (sC sV sN)))) (fun w_32 h_33 => ?_)
  refine WL.nil (thn_n (WP.seq (WP.reg ?_)))
  refine qV rfl (R.fieldAddr (off' := 34) rfl underlying90 rfl sizeOf88 rfl rfl) (qV rfl (R.load1 rfl isAgg88 (h_33.ok _ M8) (Sg.t rfl (Sg.t rfl (Sg.t rfl Sg.h)))) ?_)
  refine WL.call Tryz.call65 rfl rfl (c_Clone qa qn qc data hdl (by omega) _ (viewV (h_33.ok _ M9))) rfl ?_
  rintro _ w_36 ⟨a_34, cap_35, rfl, hc_37, ho_38⟩
  have h_39 := h_33.gotRow hc_37 ho_38
  refine qM (vu64 (UInt64.ofNat k)) rfl rfl ?_
  refine WL.call Tryz.call98 rfl rfl (c_oword (UInt64.ofNat k) _) rfl ?_
  rintro _ w_42 ⟨a_40, cap_41, rfl, hc_43, ho_44⟩
  have h_45 := h_39.gotRow hc_43 ho_44
  refine WL.append (km := qn + 8) (xs := data.map vu8) (ys := (leN 8 (UInt64.ofNat k).toNat).map vu8) (zs := (data ++ (leN 8 (UInt64.ofNat k).toNat)).map vu8) h_45 rfl rfl el88 (ownView (h_45.ok _ M0)) ((len_map (leN_len ..)).trans (Nat.mul_one _).symm) (one_u8 _) (by simp only [List.map_append, List.map_nil]) (by omega) (by omega) (by omega) (fun _ _ => Y1) rfl (fun a_46 c_47 w_48 h_49 => ?_)
  refine qV rfl (R.fieldAddr (off' := 34) rfl underlying90 rfl sizeOf88 rfl rfl) ?_
  refine WL.store1 h_49 rfl rfl sizeOf88 rfl Y2 (by decide) (Sg.t rfl (Sg.t rfl (Sg.t rfl Sg.h))) (fun w_50 h_51 => ?_)
  refine WL.nil (thn_n (WP.seq (WP.reg ?_)))
  refine qM (pO ob 0) rfl rfl (qV rfl (R.loadA [] [(1, [(vi 4)]), (32, key.map vu8), (1, [(vi dm)]), (1, [(.slice a_46 (qn + 8) c_47)])] [] rfl isAgg90 sizeOf90 (h_51.ok _ M2) rfl rfl rfl rfl) ?_)
  have h_52 := h_51.up J1
  have h_53 := h_52.rowView
  have h_58 := ((((h_53.up J7).up J7).up J7).up J7).up J7
  have h32_w_62 := hs32
  refine WL.call Tryz.call87 rfl rfl (c_ans ob mp ms df hms da dn dc ((sT df dn key dm data u lg k).1) hdf la2 lc2 lx2 ((sT df dn key dm data u lg k).2.1) (by omega) (by omega) 4 dm key (data ++ (leN 8 (UInt64.ofNat k).toNat)) a_46 (qn + 8) c_47 ⟨hk, by show (1 : Int) ≤ 4 ∧ (4 : Int) ≤ 4; decide, hdm, by simp only [List.length_append, leN_len]; omega⟩ (lenApp (a := qn) (b := 8) hdl (leN_len ..) (by omega) : List.length (data ++ (leN 8 (UInt64.ofNat k).toNat)) = qn + 8) .nilFunc _ h_58) rfl ?_
  rintro _ w_62 ⟨la_59, lc_60, lx_61, rfl, h_63⟩
  refine WL.alloc (segs := [(32, (zB 32).map vu8)]) h_63 (zv typeInfo23 rfl) rfl (sC (s8 lr) sN) rfl (fun b_64 w_65 h_66 => ?_)
  refine WL.storeA [] [(32, (zB 32).map vu8)] [(32, (anD true df dn ((sT df dn key dm data u lg k).1) ((sT df dn key dm data u lg k).2.1) (4, key, dm, (data ++ (leN 8 (UInt64.ofNat k).toNat)))).map vu8)] [] h_66 rfl rfl sizeOf23 At.h (by decide) rfl rfl rfl rfl rfl rfl (sC (s8 (anD_len hdf h32_w_62)) sN) (fun w_67 h_68 => ?_)
  refine WL.nil (thn_n (WP.reg ?_))
  refine qM (.slice oa (32 * k) oc) rfl rfl (qV rfl (R.sliceA (b := b_64) (off := 0) (off' := 0) (l := 0) (h := 32) rfl EvB.dflt EvB.dflt (by decide) (by decide) underlying23 sizeOf5 rfl) ?_)
  refine WL.append (km := 32 * k + 32) (xs := ((sT df dn key dm data u lg k).2.2).map vu8) (ys := (anD true df dn ((sT df dn key dm data u lg k).1) ((sT df dn key dm data u lg k).2.1) (4, key, dm, (data ++ (leN 8 (UInt64.ofNat k).toNat)))).map vu8) (zs := (((sT df dn key dm data u lg k).2.2) ++ (anD true df dn ((sT df dn key dm data u lg k).1) ((sT df dn key dm data u lg k).2.1) (4, key, dm, (data ++ (leN 8 (UInt64.ofNat k).toNat))))).map vu8) h_68 rfl rfl el88 (viewB (h_68.ok _ M0) Sg.h) ((len_map (anD_len hdf h32_w_62)).trans (Nat.mul_one _).symm) (one_u8 _) (by simp only [List.map_append, List.map_nil]) (by omega) (by omega) (by omega) (fun _ _ => Y9) rfl (fun a_69 c_70 w_71 h_72 => ?_)
  refine qA (.slice a_69 (32 * k + 32) c_70) rfl rfl ?_
  refine WL.nil (inb_n (thn_n (WP.reg ?_)))
  refine qM (vu64 (UInt64.ofNat k)) rfl rfl (qV rfl (R.bin rfl rfl (b64_add (UInt64.ofNat k) 1)) (qA (vu64 ((UInt64.ofNat k) + 1)) rfl rfl ?_))
  refine WL.nil (thn_n ?_)
  have h_88 := (((((((((((((((h_72.drop rfl).up J5).drop rfl).up J5).drop rfl).up J5).drop rfl).up J8).up J8).up J8).up J8).up J8).up J8).up J8).up J8).up J8
  rw [hk8 (by omega)] at h_88
  exact ⟨(k + 1, a_69, c_70, la_59, lc_60, lx_61), _, (by omega), (U4 rfl rfl rfl rfl (U4 rfl rfl rfl rfl (U4 rfl rfl rfl rfl (U4 rfl rfl rfl rfl (U4 rfl rfl rfl rfl (U4 rfl rfl rfl rfl (Ag.updL rfl (Ag.mix _ _ _)))))))), ⟨rfl, congrArg vu64 (by simp [UInt64.ofNat_add]), trivial⟩, h_88, (by omega), rfl⟩
 ·have p_89 := of_decide_eq_false c_27
  refine WP.exit (thn_x (thn_x (inb_hit (thn_n (WP.seq (WP.reg ?_))))))
  refine qM (.slice oa (32 * k) oc) rfl rfl (qV rfl (R.load1 rfl isAgg3 (h_24.ok _ M6) Sg.h) (qV rfl (R.load1 rfl isAgg3 (h_24.ok _ M6) Sg.h) (qV rfl (R.sliceR3 (h := sn) rfl EvB.dflt rfl rfl rfl rfl (Nat.le_trans (by omega) (h_24.own M5).2.2.1) underlying88 sizeOf5 (h_24.ok _ M5)) ?_)))
  have h_90 := HP.rowCap (k := sn) (ys := (((sT df dn key dm data u lg k).2.2).take sn).map vu8) h_24 Y5 (by omega) (by rw [Nat.mul_one, ← List.map_take])
  refine qA (.slice oa sn sn) rfl rfl (qA (vi 0) rfl rfl ?_)
  refine WL.nil (thn_n (WP.ret (thn_r ?_)))
  refine ret_of results68 (RV.tmp (v := (.slice oa sn sn)) rfl (RV.tmp (v := (vi 0)) rfl RV.nil)) ?_
  have h_101 := ((((((((((h_90.up J6).drop rfl).up J6).drop rfl).up J6).up J5).up J5).up J5).up J5).up J5).up J6
  have hkn : k = (sn + 31) / 32 := by omega
  subst hkn
  exact ⟨_, _, _, _, rfl, by first | exact h_101 | (have hx := h_101; rwa [List.take_of_length_le (by rw [sT_len hdf h32]; omega)])⟩
end Go.Proofs.YteclkcpdclimnaaGreat

namespace Go.Ax
open Go.Vc
def bit (b : UInt8) (i : UInt8) : UInt8 := (b >>> i) &&& 1
def dbl (a : UInt8) : UInt8 := shl8 a 1 ^^^ (shr8 a 7 * 27)
def tmN : Nat → UInt8 → UInt8 → UInt8 → UInt8
  | 0, _, _, n => n
  | k + 1, a, b, n => tmN k (dbl a) (shr8 b 1) (n ^^^ ((b &&& 1) * a))
def tm (a b : UInt8) : UInt8 := tmN 8 a b 0
theorem all8 {p : UInt8 → Prop} (h : ∀ n : Nat, n < 256 → p (UInt8.ofNat n)) (x : UInt8) : p x := by
  have := h x.toNat x.toNat_lt
  simpa using this
theorem bits8 : ∀ x : UInt8, x = (x &&& 1) ^^^ (x &&& 2) ^^^ (x &&& 4) ^^^ (x &&& 8) ^^^ (x &&& 16) ^^^ (x &&& 32) ^^^ (x &&& 64) ^^^ (x &&& 128) := all8 (by decide +kernel)
theorem bit0 : ∀ x : UInt8, x &&& 1 = 0 ∨ x &&& 1 = 1 := all8 (by decide +kernel)
theorem bit1 : ∀ x : UInt8, x &&& 2 = 0 ∨ x &&& 2 = 2 := all8 (by decide +kernel)
theorem bit2 : ∀ x : UInt8, x &&& 4 = 0 ∨ x &&& 4 = 4 := all8 (by decide +kernel)
theorem bit3 : ∀ x : UInt8, x &&& 8 = 0 ∨ x &&& 8 = 8 := all8 (by decide +kernel)
theorem bit4 : ∀ x : UInt8, x &&& 16 = 0 ∨ x &&& 16 = 16 := all8 (by decide +kernel)
theorem bit5 : ∀ x : UInt8, x &&& 32 = 0 ∨ x &&& 32 = 32 := all8 (by decide +kernel)
theorem bit6 : ∀ x : UInt8, x &&& 64 = 0 ∨ x &&& 64 = 64 := all8 (by decide +kernel)
theorem bit7 : ∀ x : UInt8, x &&& 128 = 0 ∨ x &&& 128 = 128 := all8 (by decide +kernel)
theorem bits_ind {p : UInt8 → Prop} (h0 : p 0) (hx : ∀ x y, p x → p y → p (x ^^^ y)) (hb : ∀ i : Nat, i < 8 → p (UInt8.ofNat (2 ^ i))) (x : UInt8) : p x := by
  have q : ∀ (y : UInt8) (i : Nat), i < 8 → y = 0 ∨ y = UInt8.ofNat (2 ^ i) → p y := fun y i hi h => h.elim (fun e => e ▸ h0) (fun e => e ▸ hb i hi)
  rw [bits8 x]
  exact hx _ _ (hx _ _ (hx _ _ (hx _ _ (hx _ _ (hx _ _ (hx _ _ (q _ 0 (by omega) (bit0 x)) (q _ 1 (by omega) (bit1 x))) (q _ 2 (by omega) (bit2 x))) (q _ 3 (by omega) (bit3 x))) (q _ 4 (by omega) (bit4 x))) (q _ 5 (by omega) (bit5 x))) (q _ 6 (by omega) (bit6 x))) (q _ 7 (by omega) (bit7 x))
theorem xor_shuffle (a b c d : UInt8) : (a ^^^ b) ^^^ (c ^^^ d) = (a ^^^ c) ^^^ (b ^^^ d) := by
  rw [UInt8.xor_assoc, UInt8.xor_assoc, ← UInt8.xor_assoc b, ← UInt8.xor_assoc c, UInt8.xor_comm b c]
theorem and_mul_xor {x y a : UInt8} (hx : x = 0 ∨ x = 1) (hy : y = 0 ∨ y = 1) : (x ^^^ y) * a = x * a ^^^ y * a := by
  rcases hx with rfl | rfl <;> rcases hy with rfl | rfl <;> simp
theorem mul_xor {x a b : UInt8} (hx : x = 0 ∨ x = 1) : x * (a ^^^ b) = x * a ^^^ x * b := by
  rcases hx with rfl | rfl <;> simp
theorem xor_and (a b c : UInt8) : (a ^^^ b) &&& c = (a &&& c) ^^^ (b &&& c) := by
  apply UInt8.toBitVec_inj.1
  simp only [UInt8.toBitVec_and, UInt8.toBitVec_xor]
  ext i hi
  simp only [BitVec.getElem_and, BitVec.getElem_xor]
  cases a.toBitVec[i] <;> cases b.toBitVec[i] <;> cases c.toBitVec[i] <;> rfl
theorem shr7 : ∀ x : UInt8, shr8 x 7 = 0 ∨ shr8 x 7 = 1 := all8 (by decide +kernel)
theorem shr8_eq {k : Nat} (hk : k < 8) (x : UInt8) : shr8 x k = x >>> UInt8.ofNat k := by
  have h : ∀ k, k < 8 → ∀ n, n < 256 → shr8 (UInt8.ofNat n) k = UInt8.ofNat n >>> UInt8.ofNat k := by decide +kernel
  exact all8 (p := fun x => shr8 x k = x >>> UInt8.ofNat k) (h k hk) x
theorem shr8_xor {k : Nat} (hk : k < 8) (a b : UInt8) : shr8 (a ^^^ b) k = shr8 a k ^^^ shr8 b k := by
  rw [shr8_eq hk, shr8_eq hk, shr8_eq hk]; exact UInt8.shiftRight_xor ..
theorem shl1_eq : ∀ x : UInt8, shl8 x 1 = x <<< 1 := all8 (by decide +kernel)
theorem shl1_xor (a b : UInt8) : shl8 (a ^^^ b) 1 = shl8 a 1 ^^^ shl8 b 1 := by
  rw [shl1_eq, shl1_eq, shl1_eq]; exact UInt8.shiftLeft_xor ..
theorem dbl_xor (a b : UInt8) : dbl (a ^^^ b) = dbl a ^^^ dbl b := by
  rw [dbl, shl1_xor, shr8_xor (by decide), and_mul_xor (shr7 a) (shr7 b), dbl, dbl, xor_shuffle]
theorem tmN_b : ∀ (k : Nat) (a b c m n : UInt8), tmN k a (b ^^^ c) (m ^^^ n) = tmN k a b m ^^^ tmN k a c n
  | 0, _, _, _, _, _ => rfl
  | k + 1, a, b, c, m, n => by
    rw [tmN, tmN, tmN, shr8_xor (by decide), xor_and, and_mul_xor (bit0 b) (bit0 c), xor_shuffle, tmN_b k]
theorem tmN_a : ∀ (k : Nat) (a b c m n : UInt8), tmN k (a ^^^ b) c (m ^^^ n) = tmN k a c m ^^^ tmN k b c n
  | 0, _, _, _, _, _ => rfl
  | k + 1, a, b, c, m, n => by
    rw [tmN, tmN, tmN, dbl_xor, mul_xor (bit0 c), xor_shuffle, tmN_a k]
theorem tm_b (a b c : UInt8) : tm a (b ^^^ c) = tm a b ^^^ tm a c := by
  have := tmN_b 8 a b c 0 0
  simpa [tm] using this
theorem tm_a (a b c : UInt8) : tm (a ^^^ b) c = tm a c ^^^ tm b c := by
  have := tmN_a 8 a b c 0 0
  simpa [tm] using this
theorem tm_0 : ∀ a : UInt8, tm a 0 = 0 := all8 (by decide +kernel)
theorem tm_0' : ∀ a : UInt8, tm 0 a = 0 := all8 (by decide +kernel)
theorem tm_1 : ∀ a : UInt8, tm a 1 = a := all8 (by decide +kernel)
theorem tm_comm (a b : UInt8) : tm a b = tm b a := by
  refine bits_ind (p := fun a => tm a b = tm b a) ((tm_0' b).trans (tm_0 b).symm) (fun x y hx hy => by rw [tm_a, tm_b, hx, hy]) (fun i hi => ?_) a
  refine bits_ind (p := fun b => tm (UInt8.ofNat (2 ^ i)) b = tm b (UInt8.ofNat (2 ^ i))) ((tm_0 _).trans (tm_0' _).symm) (fun x y hx hy => by rw [tm_a, tm_b, hx, hy]) (fun j hj => ?_) b
  have : ∀ i, i < 8 → ∀ j, j < 8 → tm (UInt8.ofNat (2 ^ i)) (UInt8.ofNat (2 ^ j)) = tm (UInt8.ofNat (2 ^ j)) (UInt8.ofNat (2 ^ i)) := by decide +kernel
  exact this i hi j hj
theorem tm_assoc (a b c : UInt8) : tm (tm a b) c = tm a (tm b c) := by
  refine bits_ind (p := fun a => tm (tm a b) c = tm a (tm b c)) (by rw [tm_0', tm_0', tm_0']) (fun x y hx hy => by rw [tm_a, tm_a, tm_a, hx, hy]) (fun i hi => ?_) a
  refine bits_ind (p := fun b => tm (tm (UInt8.ofNat (2 ^ i)) b) c = tm (UInt8.ofNat (2 ^ i)) (tm b c)) (by rw [tm_0, tm_0', tm_0]) (fun x y hx hy => by rw [tm_b, tm_a, tm_a, tm_b, hx, hy]) (fun j hj => ?_) b
  refine bits_ind (p := fun c => tm (tm (UInt8.ofNat (2 ^ i)) (UInt8.ofNat (2 ^ j))) c = tm (UInt8.ofNat (2 ^ i)) (tm (UInt8.ofNat (2 ^ j)) c)) (by rw [tm_0, tm_0, tm_0]) (fun x y hx hy => by rw [tm_b, tm_b, tm_b, hx, hy]) (fun k hk => ?_) c
  have : ∀ i, i < 8 → ∀ j, j < 8 → ∀ k, k < 8 → tm (tm (UInt8.ofNat (2 ^ i)) (UInt8.ofNat (2 ^ j))) (UInt8.ofNat (2 ^ k)) = tm (UInt8.ofNat (2 ^ i)) (tm (UInt8.ofNat (2 ^ j)) (UInt8.ofNat (2 ^ k))) := by decide +kernel
  exact this i hi j hj k hk
def rtA (a b : UInt8) : Nat → Nat
  | 0 => 0
  | k + 1 => if shr8 b k % 2 = 1 then rtA a b k ^^^ (a.toNat * 2 ^ k) else rtA a b k
def rtB (n : Nat) : Nat → Nat
  | 0 => n
  | j + 1 => if rtB n j / 2 ^ (14 - j) % 2 = 1 then rtB n j ^^^ (283 * 2 ^ (14 - j - 8)) else rtB n j
def rt (a b : UInt8) : UInt8 := UInt8.ofNat (rtB (rtA a b 8) 7)
theorem rtA_lt (a b : UInt8) : ∀ k, k ≤ 8 → rtA a b k < 2 ^ 15
  | 0, _ => by rw [rtA]; omega
  | k + 1, h => by
    have ih := rtA_lt a b k (by omega)
    have ha := a.toNat_lt
    have hk : 2 ^ k ≤ 2 ^ 7 := Nat.pow_le_pow_right (by omega) (by omega)
    have : a.toNat * 2 ^ k < 2 ^ 15 := by
      have : a.toNat * 2 ^ k ≤ 255 * 2 ^ 7 := Nat.mul_le_mul (by omega) hk
      omega
    rw [rtA]; split
    · exact Nat.xor_lt_two_pow ih this
    · exact ih
theorem rtB_lt {n : Nat} (hn : n < 2 ^ 15) : ∀ j, j ≤ 7 → rtB n j < 2 ^ 15
  | 0, _ => hn
  | j + 1, h => by
    have ih := rtB_lt hn j (by omega)
    have hk : 2 ^ (14 - j - 8) ≤ 2 ^ 6 := Nat.pow_le_pow_right (by omega) (by omega)
    have : 283 * 2 ^ (14 - j - 8) < 2 ^ 15 := by omega
    rw [rtB]; split
    · exact Nat.xor_lt_two_pow ih this
    · exact ih
theorem bit_of {k : Nat} (hk : k < 8) (x : UInt8) : shr8 x k % 2 = (x >>> UInt8.ofNat k) &&& 1 := by
  have h : ∀ k, k < 8 → ∀ n, n < 256 → shr8 (UInt8.ofNat n) k % 2 = (UInt8.ofNat n >>> UInt8.ofNat k) &&& 1 := by decide +kernel
  exact all8 (p := fun x => shr8 x k % 2 = (x >>> UInt8.ofNat k) &&& 1) (h k hk) x
theorem bit_xor {k : Nat} (hk : k < 8) (a b : UInt8) : shr8 (a ^^^ b) k % 2 = (shr8 a k % 2) ^^^ (shr8 b k % 2) := by
  have h2 : (a ^^^ b) >>> UInt8.ofNat k = a >>> UInt8.ofNat k ^^^ b >>> UInt8.ofNat k := UInt8.shiftRight_xor ..
  rw [bit_of hk, bit_of hk, bit_of hk, h2, xor_and]
theorem bit_01 {k : Nat} (hk : k < 8) (x : UInt8) : shr8 x k % 2 = 0 ∨ shr8 x k % 2 = 1 := by rw [bit_of hk]; exact bit0 _
theorem nxor4 (m n u v : Nat) : (m ^^^ n) ^^^ (u ^^^ v) = (m ^^^ u) ^^^ (n ^^^ v) := by
  rw [Nat.xor_assoc, Nat.xor_assoc, ← Nat.xor_assoc n, ← Nat.xor_assoc u, Nat.xor_comm n u]
theorem if_xor {p q : UInt8} (hp : p = 0 ∨ p = 1) (hq : q = 0 ∨ q = 1) (m n v : Nat) : (if p ^^^ q = 1 then (m ^^^ n) ^^^ v else m ^^^ n) = (if p = 1 then m ^^^ v else m) ^^^ (if q = 1 then n ^^^ v else n) := by
  rcases hp with rfl | rfl <;> rcases hq with rfl | rfl
  · simp
  · simp [Nat.xor_assoc]
  · simp [Nat.xor_assoc, Nat.xor_comm n v]
  · simp only [UInt8.xor_self]
    rw [if_neg (by decide), if_pos trivial, if_pos trivial, nxor4, Nat.xor_self, Nat.xor_zero]
theorem rtA_b (a b c : UInt8) : ∀ k, k ≤ 8 → rtA a (b ^^^ c) k = rtA a b k ^^^ rtA a c k
  | 0, _ => (Nat.xor_self 0).symm
  | k + 1, h => by
    rw [rtA, rtA, rtA, rtA_b a b c k (by omega), bit_xor (by omega), if_xor (bit_01 (by omega) b) (bit_01 (by omega) c)]
theorem rtA_a (a c b : UInt8) : ∀ k, k ≤ 8 → rtA (a ^^^ c) b k = rtA a b k ^^^ rtA c b k
  | 0, _ => (Nat.xor_self 0).symm
  | k + 1, h => by
    have e : (a ^^^ c).toNat * 2 ^ k = (a.toNat * 2 ^ k) ^^^ (c.toNat * 2 ^ k) := by
      rw [UInt8.toNat_xor, ← Nat.shiftLeft_eq, ← Nat.shiftLeft_eq, ← Nat.shiftLeft_eq, Nat.shiftLeft_xor_distrib]
    rw [rtA, rtA, rtA, rtA_a a c b k (by omega), e]
    split
    · exact nxor4 ..
    · rfl
theorem rtB_xor (m n : Nat) : ∀ j, rtB (m ^^^ n) j = rtB m j ^^^ rtB n j
  | 0 => rfl
  | j + 1 => by
    have tb : ∀ x i : Nat, (x / 2 ^ i % 2 = 1) ↔ x.testBit i = true := fun x i => by rw [Nat.testBit_eq_decide_div_mod_eq, decide_eq_true_eq]
    rw [rtB, rtB, rtB, rtB_xor m n j]
    simp only [tb, Nat.testBit_xor]
    cases (rtB m j).testBit (14 - j) <;> cases (rtB n j).testBit (14 - j)
    · simp
    · simp [Nat.xor_assoc]
    · simp [Nat.xor_assoc, Nat.xor_comm (rtB n j)]
    · simp only [Bool.xor_self, if_true]
      rw [nxor4, Nat.xor_self, Nat.xor_zero]; simp
theorem of_xor (m n : Nat) : UInt8.ofNat (m ^^^ n) = UInt8.ofNat m ^^^ UInt8.ofNat n := by
  apply UInt8.toNat_inj.1
  rw [UInt8.toNat_xor]
  simp only [UInt8.toNat_ofNat']
  exact Nat.xor_mod_two_pow (n := 8)
theorem rt_b (a b c : UInt8) : rt a (b ^^^ c) = rt a b ^^^ rt a c := by rw [rt, rt, rt, rtA_b a b c 8 (by omega), rtB_xor, of_xor]
theorem rt_a (a c b : UInt8) : rt (a ^^^ c) b = rt a b ^^^ rt c b := by rw [rt, rt, rt, rtA_a a c b 8 (by omega), rtB_xor, of_xor]
theorem rt_0 : ∀ a : UInt8, rt a 0 = 0 := all8 (by decide +kernel)
theorem rt_0' : ∀ a : UInt8, rt 0 a = 0 := all8 (by decide +kernel)
theorem rt_tm (a b : UInt8) : rt a b = tm a b := by
  refine bits_ind (p := fun a => rt a b = tm a b) (by rw [rt_0', tm_0']) (fun x y hx hy => by rw [rt_a, tm_a, hx, hy]) (fun i hi => ?_) a
  refine bits_ind (p := fun b => rt (UInt8.ofNat (2 ^ i)) b = tm (UInt8.ofNat (2 ^ i)) b) (by rw [rt_0, tm_0]) (fun x y hx hy => by rw [rt_b, tm_b, hx, hy]) (fun j hj => ?_) b
  have : ∀ i, i < 8 → ∀ j, j < 8 → rt (UInt8.ofNat (2 ^ i)) (UInt8.ofNat (2 ^ j)) = tm (UInt8.ofNat (2 ^ i)) (UInt8.ofNat (2 ^ j)) := by decide +kernel
  exact this i hi j hj
end Go.Ax

namespace Go.Ax
open Go.Vc
def invN : Nat → UInt8 → UInt8 → UInt8
  | 0, _, n => n
  | k + 1, a, n => invN k (tm a a) (tm n (tm a a))
def inv (a : UInt8) : UInt8 := invN 7 a 1
theorem inv_mul : ∀ a : UInt8, a ≠ 0 → tm a (inv a) = 1 := all8 (by decide +kernel)
theorem inv_0 : inv 0 = 0 := by decide +kernel
theorem inv_of {a b : UInt8} (h : tm a b = 1) : b = inv a := by
  have ha : a ≠ 0 := by rintro rfl; rw [tm_0'] at h; exact absurd h (by decide)
  have h1 := inv_mul a ha
  have h2 : tm (inv a) (tm a b) = b := by rw [← tm_assoc, tm_comm (inv a) a, h1, tm_comm, tm_1]
  rw [h, tm_1] at h2
  exact h2.symm
def rl (a : UInt8) (k : Nat) : UInt8 := shl8 a k ||| shr8 a (8 - k)
def aff (y : UInt8) : UInt8 := y ^^^ 99 ^^^ rl y 1 ^^^ rl y 2 ^^^ rl y 3 ^^^ rl y 4
def unaff (x : UInt8) : UInt8 := rl x 1 ^^^ rl x 3 ^^^ rl x 6 ^^^ 5
def sub (a : UInt8) : UInt8 := aff (inv a)
def unsub (a : UInt8) : UInt8 := inv (unaff a)
def pre (n : Nat) (g : Nat → UInt8) (i : Nat) : List UInt8 := (List.range i).map g ++ List.replicate (n - i) 0
theorem pre_len {n i : Nat} {g : Nat → UInt8} (h : i ≤ n) : (pre n g i).length = n := by simp [pre]; omega
theorem pre_set {n i : Nat} {g : Nat → UInt8} {x : UInt8} (h : i < n) (hx : x = g i) : (pre n g i).set i x = pre n g (i + 1) := by
  have e : List.replicate (n - i) (0 : UInt8) = 0 :: List.replicate (n - (i + 1)) 0 := by rw [show n - i = n - (i + 1) + 1 by omega]; rfl
  rw [pre, e, List.set_append_right _ _ (by simp), hx]
  simp [pre, List.range_succ]
theorem pre_lt {n i j : Nat} {g : Nat → UInt8} (h : j < i) : (pre n g i).getD j 0 = g j := by
  rw [List.getD_eq_getElem?_getD, pre, List.getElem?_append_left (by simpa using h)]
  simp [h]
theorem pre_ge {n i j : Nat} {g : Nat → UInt8} (h : i ≤ j) : (pre n g i).getD j 0 = 0 := by
  rw [List.getD_eq_getElem?_getD, pre, List.getElem?_append_right (by simpa using h)]
  simp only [List.getElem?_replicate]
  split <;> rfl
theorem pre_all {n : Nat} {g : Nat → UInt8} : pre n g n = (List.range n).map g := by simp [pre]
theorem pre_0 {n : Nat} {g : Nat → UInt8} : pre n g 0 = List.replicate n 0 := by simp [pre]
theorem range_get {n j : Nat} {g : Nat → UInt8} (h : j < n) : ((List.range n).map g).getD j 0 = g j := by simp [h]
theorem list_range {l : List UInt8} {n : Nat} (h : l.length = n) : (List.range n).map (fun j => l.getD j 0) = l := by
  apply List.ext_getElem
  · simp [h]
  · intro i h1 h2; simp [h2]
theorem sub_get {l : List UInt8} {a k j : Nat} (h : j < k) : ((l.drop a).take k).getD j 0 = l.getD (a + j) 0 := by
  simp [List.getD_eq_getElem?_getD, List.getElem?_take, h, List.getElem?_drop]
def tabL (f : UInt8 → UInt8) : List UInt8 := (List.range 256).map fun i => f (UInt8.ofNat i)
theorem tabL_len (f : UInt8 → UInt8) : (tabL f).length = 256 := by simp [tabL]
def xorL (s k : List UInt8) : List UInt8 := List.zipWith (· ^^^ ·) s k
theorem xorL_len {s k : List UInt8} {n : Nat} (hs : s.length = n) (hk : k.length = n) : (xorL s k).length = n := by simp [xorL, hs, hk]
def xk (s k : List UInt8) (i : Nat) : List UInt8 := (xorL s k).take i ++ s.drop i
theorem xk_len {s k : List UInt8} {i : Nat} (hs : s.length = 16) (hk : k.length = 16) : (xk s k i).length = 16 := by simp [xk, xorL, hs, hk]; omega
theorem xk_0 {s k : List UInt8} : xk s k 0 = s := by simp [xk]
theorem xk_16 {s k : List UInt8} (hs : s.length = 16) (hk : k.length = 16) : xk s k 16 = xorL s k := by
  rw [xk, List.take_of_length_le (by rw [xorL_len hs hk]; exact Nat.le_refl _), List.drop_of_length_le (by rw [hs]; exact Nat.le_refl _), List.append_nil]
theorem xk_step {s k : List UInt8} {i : Nat} (hs : s.length = 16) (hk : k.length = 16) (hi : i < 16) : (xk s k i).set i ((xk s k i).getD i 0 ^^^ k.getD i 0) = xk s k (i + 1) := by
  have hx := xorL_len hs hk
  have hl : ((xorL s k).take i).length = i := by rw [List.length_take, hx]; omega
  have hd : s.drop i = s.getD i 0 :: s.drop (i + 1) := by rw [List.drop_eq_getElem_cons (by omega)]; simp [hs, hi]
  have hg : (xk s k i).getD i 0 = s.getD i 0 := by
    rw [xk, List.getD_eq_getElem?_getD, List.getElem?_append_right (by omega), hl, Nat.sub_self, hd]; rfl
  have hz : (xorL s k).getD i 0 = s.getD i 0 ^^^ k.getD i 0 := by
    simp [xorL, List.getElem?_zipWith, hs, hk, hi]
  rw [hg, xk, hd, List.set_append_right _ _ (by omega), hl, Nat.sub_self, List.set_cons_zero, xk, take_snoc _ i 0 (by omega), hz, List.append_assoc]
  rfl
def mb1 (s f : List UInt8) (i k : Nat) : UInt8 := tm (s.getD (4 * (i / 4) + k) 0) (f.getD ((k + 4 - i % 4) % 4) 0)
def mb (s f : List UInt8) (i : Nat) : UInt8 := (((0 ^^^ mb1 s f i 0) ^^^ mb1 s f i 1) ^^^ mb1 s f i 2) ^^^ mb1 s f i 3
def mixL (s f : List UInt8) : List UInt8 := (List.range 16).map (mb s f)
theorem mixL_len (s f : List UInt8) : (mixL s f).length = 16 := by simp [mixL]
theorem set_get {l : List UInt8} {i : Nat} {x : UInt8} (h : i < l.length) : (l.set i x).getD i 0 = x := by simp [h]
theorem mix_step {s f : List UInt8} {i : Nat} {a b c d : UInt8} (hi : i < 16) (ha : a = mb1 s f i 0) (hb : b = mb1 s f i 1) (hc : c = mb1 s f i 2) (hd : d = mb1 s f i 3) :
    ((((pre 16 (mb s f) i).set i ((pre 16 (mb s f) i).getD i 0 ^^^ a)).set i (((pre 16 (mb s f) i).set i ((pre 16 (mb s f) i).getD i 0 ^^^ a)).getD i 0 ^^^ b)).set i
      ((((pre 16 (mb s f) i).set i ((pre 16 (mb s f) i).getD i 0 ^^^ a)).set i (((pre 16 (mb s f) i).set i ((pre 16 (mb s f) i).getD i 0 ^^^ a)).getD i 0 ^^^ b)).getD i 0 ^^^ c)).set i
      (((((pre 16 (mb s f) i).set i ((pre 16 (mb s f) i).getD i 0 ^^^ a)).set i (((pre 16 (mb s f) i).set i ((pre 16 (mb s f) i).getD i 0 ^^^ a)).getD i 0 ^^^ b)).set i
      ((((pre 16 (mb s f) i).set i ((pre 16 (mb s f) i).getD i 0 ^^^ a)).set i (((pre 16 (mb s f) i).set i ((pre 16 (mb s f) i).getD i 0 ^^^ a)).getD i 0 ^^^ b)).getD i 0 ^^^ c)).getD i 0 ^^^ d) = pre 16 (mb s f) (i + 1) := by
  have hl : (pre 16 (mb s f) i).length = 16 := pre_len (by omega)
  rw [pre_ge (Nat.le_refl i), set_get (by rw [hl]; exact hi)]
  simp only [List.set_set]
  rw [set_get (by rw [hl]; exact hi), set_get (by rw [hl]; exact hi)]
  exact pre_set hi (by rw [mb, ha, hb, hc, hd])
def keyR (keys : List UInt8) (r : Nat) : List UInt8 := (keys.drop (r * 16)).take 16
theorem keyR_len {keys : List UInt8} {r : Nat} (h : keys.length = 176) (hr : r < 11) : (keyR keys r).length = 16 := by simp [keyR, h]; omega
def shb (tb s : List UInt8) (i : Nat) : UInt8 := tb.getD (s.getD ((i + i % 4 * 4) % 16) 0).toNat 0
def shf (tb s : List UInt8) : List UInt8 := (List.range 16).map (shb tb s)
theorem shf_len (tb s : List UInt8) : (shf tb s).length = 16 := by simp [shf]
def encN (keys tb blk : List UInt8) : Nat → List UInt8
  | 0 => xorL blk (keyR keys 0)
  | r + 1 => xorL (if r + 1 < 10 then mixL (shf tb (encN keys tb blk r)) [2, 3, 1, 1] else shf tb (encN keys tb blk r)) (keyR keys (r + 1))
theorem encN_len {keys tb blk : List UInt8} (hk : keys.length = 176) (hb : blk.length = 16) : ∀ {r : Nat}, r < 11 → (encN keys tb blk r).length = 16
  | 0, _ => xorL_len hb (keyR_len hk (by omega))
  | r + 1, h => by
    rw [encN]; split
    · exact xorL_len (mixL_len ..) (keyR_len hk h)
    · exact xorL_len (shf_len ..) (keyR_len hk h)
def unsN (tb t s : List UInt8) : Nat → List UInt8
  | 0 => s
  | i + 1 => (unsN tb t s i).set ((i + i % 4 * 4) % 16) (tb.getD (t.getD i 0).toNat 0)
def decN (keys tb blk : List UInt8) : Nat → List UInt8
  | 0 => blk
  | j + 1 => unsN tb (if 10 - j < 10 then mixL (xorL (decN keys tb blk j) (keyR keys (10 - j))) [14, 11, 13, 9] else xorL (decN keys tb blk j) (keyR keys (10 - j))) (decN keys tb blk j) 16
def dec (keys tb blk : List UInt8) : List UInt8 := xorL (decN keys tb blk 10) (keyR keys 0)
def pwN : Nat → UInt8
  | 0 => 1
  | k + 1 => dbl (pwN k)
def gK (tb : List UInt8) (l : Nat → UInt8) (r c : Nat) : UInt8 :=
  if c = 0 then tb.getD (l (16 * r - 3)).toNat 0 ^^^ pwN (r - 1) else if c = 3 then tb.getD (l (16 * r - 4)).toNat 0 else tb.getD (l (16 * r + c - 3)).toNat 0
def nb (tb : List UInt8) (l : Nat → UInt8) (j : Nat) : UInt8 := l (j - 16) ^^^ (if j % 16 < 4 then gK tb l (j / 16) (j % 16) else l (j - 4))
def kx (tb key : List UInt8) : Nat → List UInt8
  | 0 => key
  | m + 1 => kx tb key m ++ [nb tb (fun j => (kx tb key m).getD j 0) (16 + m)]
theorem kx_len {tb key : List UInt8} (h : key.length = 16) : ∀ m, (kx tb key m).length = 16 + m
  | 0 => h
  | m + 1 => by rw [kx, List.length_append, kx_len h m]; rfl
theorem kx_get {tb key : List UInt8} (h : key.length = 16) {j m : Nat} : ∀ d, j < 16 + m → (kx tb key (m + d)).getD j 0 = (kx tb key m).getD j 0
  | 0, _ => rfl
  | d + 1, hj => by
    rw [← Nat.add_assoc, kx, List.getD_eq_getElem?_getD, List.getElem?_append_left (by rw [kx_len h]; omega), ← List.getD_eq_getElem?_getD, kx_get h d hj]
def K (tb key : List UInt8) (j : Nat) : UInt8 := (kx tb key 160).getD j 0
theorem gK_ext {tb : List UInt8} {l l' : Nat → UInt8} {r c : Nat} (hr : 1 ≤ r) (hc : c < 4) (h : ∀ j, j < 16 * r → l j = l' j) : gK tb l r c = gK tb l' r c := by
  unfold gK
  rw [h (16 * r - 3) (by omega), h (16 * r - 4) (by omega)]
  split
  · rfl
  · split
    · rfl
    · rw [h (16 * r + c - 3) (by omega)]
theorem nb_ext {tb : List UInt8} {l l' : Nat → UInt8} {j : Nat} (hj : 16 ≤ j) (h : ∀ i, i < j → l i = l' i) : nb tb l j = nb tb l' j := by
  unfold nb
  rw [h (j - 16) (by omega), h (j - 4) (by omega)]
  split
  · rw [gK_ext (by omega) (by omega) fun i hi => h i (by omega)]
  · rfl
theorem K_step {tb key : List UInt8} (h : key.length = 16) {j : Nat} (h1 : 16 ≤ j) (h2 : j < 176) : K tb key j = nb tb (K tb key) j := by
  obtain ⟨m, rfl⟩ : ∃ m, j = 16 + m := ⟨j - 16, by omega⟩
  obtain ⟨d, hd⟩ : ∃ d, 160 = m + 1 + d := ⟨160 - (m + 1), by omega⟩
  have e : K tb key (16 + m) = (kx tb key (m + 1)).getD (16 + m) 0 := by rw [K, hd, kx_get h d (by omega)]
  rw [e, kx, List.getD_eq_getElem?_getD, List.getElem?_append_right (by rw [kx_len h]; exact Nat.le_refl _), kx_len h, Nat.sub_self, List.getElem?_cons_zero, Option.getD_some]
  refine (nb_ext h1 fun i hi => ?_)
  show (kx tb key m).getD i 0 = (kx tb key 160).getD i 0
  obtain ⟨d', hd'⟩ : ∃ d', 160 = m + d' := ⟨160 - m, by omega⟩
  rw [hd', kx_get h d' (by omega)]
theorem K_key {tb key : List UInt8} (h : key.length = 16) {j : Nat} (hj : j < 16) : K tb key j = key.getD j 0 := by
  have := kx_get (tb := tb) h (m := 0) 160 (j := j) (by omega)
  rw [Nat.zero_add] at this
  exact this
def keysL (tb key : List UInt8) : List UInt8 := (List.range 176).map (K tb key)
theorem keysL_len (tb key : List UInt8) : (keysL tb key).length = 176 := by simp [keysL]
theorem pre_key {tb key : List UInt8} (h : key.length = 16) : key ++ List.replicate 160 0 = pre 176 (K tb key) 16 := by
  have e : (List.range 16).map (K tb key) = key := (List.map_congr_left fun j hj => K_key h (List.mem_range.1 hj)).trans (list_range h)
  rw [pre, e]
def tv (tb : List UInt8) (l : Nat → UInt8) (r i c : Nat) : UInt8 := if i ≤ c then gK tb l r c else l (16 * r + c + 4 * ((i - 1 - c) / 4))
def tL (tb : List UInt8) (l : Nat → UInt8) (r i : Nat) : List UInt8 := (List.range 4).map (tv tb l r i)
theorem tv_at (tb : List UInt8) (l : Nat → UInt8) {r i : Nat} (hi : i < 16) : tv tb l r i (i % 4) = (if (16 * r + i) % 16 < 4 then gK tb l ((16 * r + i) / 16) ((16 * r + i) % 16) else l (16 * r + i - 4)) := by
  rw [tv, show (16 * r + i) % 16 = i by omega, show (16 * r + i) / 16 = r by omega]
  by_cases h4 : i < 4
  · rw [if_pos (by omega), if_pos h4, Nat.mod_eq_of_lt h4]
  · rw [if_neg (by omega), if_neg h4]; congr 1; omega
theorem tL_at (tb : List UInt8) (l : Nat → UInt8) {r i : Nat} (hr : 1 ≤ r) (hi : i < 16) : l (16 * (r - 1) + i) ^^^ (tL tb l r i).getD (i % 4) 0 = nb tb l (16 * r + i) := by
  have hm : i % 4 < 4 := Nat.mod_lt _ (by omega)
  rw [tL, range_get hm, tv_at tb l hi, nb, show 16 * r + i - 16 = 16 * (r - 1) + i by omega]
theorem tL_get {tb key : List UInt8} (h : key.length = 16) {r i : Nat} (hr : 1 ≤ r) (hr2 : r < 11) (hi : i < 16) : K tb key (16 * (r - 1) + i) ^^^ (tL tb (K tb key) r i).getD (i % 4) 0 = K tb key (16 * r + i) := by
  have e := K_step (tb := tb) h (j := 16 * r + i) (by omega) (by omega)
  have e2 := tL_at tb (K tb key) hr hi
  rw [← e] at e2
  exact e2
theorem tL_set (tb : List UInt8) (l : Nat → UInt8) {r i : Nat} (hi : i < 16) {x : UInt8} (hx : x = l (16 * r + i)) : (tL tb l r i).set (i % 4) x = tL tb l r (i + 1) := by
  subst hx
  have hm : i % 4 < 4 := Nat.mod_lt _ (by omega)
  apply List.ext_getElem
  · simp [tL]
  · intro c h1 h2
    have hc : c < 4 := by simpa [tL] using h2
    simp only [tL, List.getElem_set, List.getElem_map, List.getElem_range]
    split
    · rename_i e
      rw [tv, if_neg (by omega)]; exact congrArg l (by omega)
    · rename_i e
      rw [tv, tv]
      by_cases hic : i ≤ c
      · rw [if_pos hic, if_pos (by omega)]
      · rw [if_neg hic, if_neg (by omega)]; exact congrArg l (by omega)
theorem tL_0 {tb : List UInt8} {l : Nat → UInt8} {r : Nat} : tL tb l r 0 = [gK tb l r 0, gK tb l r 1, gK tb l r 2, gK tb l r 3] := rfl
theorem last_get {tb key : List UInt8} {r i m : Nat} (hr : 1 ≤ r) (hi : i < 16) : (((pre 176 (K tb key) (16 * r + m)).drop ((r - 1) * 16)).take 16).getD i 0 = K tb key (16 * (r - 1) + i) := by
  rw [sub_get hi, pre_lt (by omega), Nat.mul_comm]
theorem ex_t {tb key : List UInt8} {r : Nat} (hr : 1 ≤ r) :
    [tb.getD ((((pre 176 (K tb key) (16 * r)).drop ((r - 1) * 16)).take 16).getD 13 0).toNat 0 ^^^ pwN (r - 1), tb.getD ((((pre 176 (K tb key) (16 * r)).drop ((r - 1) * 16)).take 16).getD 14 0).toNat 0,
      tb.getD ((((pre 176 (K tb key) (16 * r)).drop ((r - 1) * 16)).take 16).getD 15 0).toNat 0, tb.getD ((((pre 176 (K tb key) (16 * r)).drop ((r - 1) * 16)).take 16).getD 12 0).toNat 0] = tL tb (K tb key) r 0 := by
  have e : ∀ i, i < 16 → (((pre 176 (K tb key) (16 * r)).drop ((r - 1) * 16)).take 16).getD i 0 = K tb key (16 * (r - 1) + i) := fun i hi => last_get (m := 0) hr hi
  rw [e 13 (by omega), e 14 (by omega), e 15 (by omega), e 12 (by omega), tL_0]
  generalize K tb key = l
  have e1 : gK tb l r 0 = tb.getD (l (16 * (r - 1) + 13)).toNat 0 ^^^ pwN (r - 1) := by rw [gK, if_pos rfl, show 16 * r - 3 = 16 * (r - 1) + 13 by omega]
  have e2 : gK tb l r 1 = tb.getD (l (16 * (r - 1) + 14)).toNat 0 := by rw [gK, if_neg (by decide), if_neg (by decide), show 16 * r + 1 - 3 = 16 * (r - 1) + 14 by omega]
  have e3 : gK tb l r 2 = tb.getD (l (16 * (r - 1) + 15)).toNat 0 := by rw [gK, if_neg (by decide), if_neg (by decide), show 16 * r + 2 - 3 = 16 * (r - 1) + 15 by omega]
  have e4 : gK tb l r 3 = tb.getD (l (16 * (r - 1) + 12)).toNat 0 := by rw [gK, if_neg (by decide), if_pos rfl, show 16 * r - 4 = 16 * (r - 1) + 12 by omega]
  rw [e1, e2, e3, e4]
theorem tL_len (tb : List UInt8) (l : Nat → UInt8) (r i : Nat) : (tL tb l r i).length = 4 := by simp [tL]
theorem ex_in {tb key : List UInt8} (h : key.length = 16) {r i : Nat} (hr : 1 ≤ r) (hr2 : r < 11) (hi : i < 16) {x : UInt8} (hx : x = K tb key (16 * (r - 1) + i)) :
    (tL tb (K tb key) r i).set (i % 4) ((tL tb (K tb key) r i).getD (i % 4) 0 ^^^ x) = tL tb (K tb key) r (i + 1) ∧
    (pre 176 (K tb key) (16 * r + i)).set (r * 16 + i) (((tL tb (K tb key) r i).set (i % 4) ((tL tb (K tb key) r i).getD (i % 4) 0 ^^^ x)).getD (i % 4) 0) = pre 176 (K tb key) (16 * r + (i + 1)) := by
  have hm : i % 4 < 4 := Nat.mod_lt _ (by omega)
  have e1 : (tL tb (K tb key) r i).getD (i % 4) 0 ^^^ x = K tb key (16 * r + i) := by rw [UInt8.xor_comm, hx, tL_get h hr hr2 hi]
  rw [set_get (by rw [tL_len]; exact hm), e1]
  refine ⟨tL_set tb _ hi rfl, ?_⟩
  rw [Nat.mul_comm r 16]
  exact pre_set (by omega) rfl
theorem ovr_key {tb key : List UInt8} (h : key.length = 16) : ovr (List.replicate 176 (0 : UInt8)) 0 key = pre 176 (K tb key) (16 * 1) := by
  rw [← pre_key h, ovr, h]; rfl
theorem pw_next {r : Nat} (hr : 1 ≤ r) : dbl (pwN (r - 1)) = pwN (r + 1 - 1) := by
  obtain ⟨q, rfl⟩ : ∃ q, r = q + 1 := ⟨r - 1, by omega⟩
  rfl
def enc (key blk : List UInt8) : List UInt8 := encN (keysL (tabL sub) key) (tabL sub) blk 10
theorem enc_len {key blk : List UInt8} (hb : blk.length = 16) : (enc key blk).length = 16 := encN_len (keysL_len ..) hb (by omega)
end Go.Ax
