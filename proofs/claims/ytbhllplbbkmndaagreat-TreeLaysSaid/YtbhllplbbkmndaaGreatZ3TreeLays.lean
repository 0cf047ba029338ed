/- Rules for walks and contracts of the functions that the law reaches, one behind the other. Conditions: none beyond what each theorem states. -/
import Derived.Test.YtbhllplbbkmndaaGreatZ2TreeLays
set_option linter.unusedVariables false
set_option linter.unusedSimpArgs false
set_option linter.unusedSectionVars false
namespace Go.Proofs.YtbhllplbbkmndaaGreat
open Go.Proofs.Tryz
open Go.Vc Go.Sh Go.RowKit
set_option maxRecDepth 20000

theorem c_padding (n : Nat) (hn : n ≤ 1099511627776) (w : World) :
  Cs Tryz.prog 97 [(vi ((n : Nat) : Int))].toArray w (fun v w1 => ∃ a cap, v = .slice a (padL n).length cap ∧ Chg w w1 [] ∧ Own w.heap.size w1 5 1 a (padL n).length cap ((padL n).map vu8)) := by
 refine Cs.of (n := 23) (args := [(vn n)]) Tryz.func97 rfl rfl rfl ?_
 have h_0 := HP.init w
 refine WP.seq (WP.reg ?_)
 refine qA (.slice none 0 0) rfl rfl ?_
 refine WL.nil (thn_n (WP.seq (WP.reg ?_)))
 refine WL.buildSl (vs := [(0, (vu8 128))]) (cs := ([128] : List UInt8).map vu8) h_0 underlying81 sizeOf5 (zv typeInfo5 rfl) rfl rfl (by kernel_rfl) rfl (one_u8 _) rfl rfl (fun b_1 w_2 h_3 => ?_)
 refine qM (vn n) rfl rfl (qV rfl (R.bin rfl rfl (bi_rem (c := ((n % 64 : Nat) : Int)) (Int.natCast_nonneg _) (by omega) (by first | omega | rfl))) (qV rfl (R.bin rfl rfl (bi_sub (c := ((119 - (n % 64) : Nat) : Int)) (by omega) (by omega))) (qV rfl (R.bin rfl rfl (bi_rem (c := (((119 - (n % 64)) % 64 : Nat) : Int)) (Int.natCast_nonneg _) (by omega) (by first | omega | rfl))) ?_)))
 have h_4 := HP.blkRow (m := 1) (s := 1) h_3 At.h rfl (by simp only [maxLen]; decide)
 refine WL.appendZ (i := Tryz.t5) (m := (119 - (n % 64)) % 64) (km := 1 + ((119 - (n % 64)) % 64)) (xs := ([128] : List UInt8).map vu8) (zs := (([128] : List UInt8) ++ List.replicate ((119 - (n % 64)) % 64) (0 : UInt8)).map vu8) h_4 rfl rfl underlying81 underlying3 rfl rfl rfl rfl (by simp only [List.map_append, List.map_replicate, List.map_nil]) (by omega) (by omega) (fun _ _ => At.h) rfl (fun a_5 c_6 w_7 h_8 => ?_)
 refine qA (.slice a_5 (1 + ((119 - (n % 64)) % 64)) c_6) rfl rfl ?_
 refine WL.nil (thn_n (WP.seq (WP.reg ?_)))
 refine qM (vn n) rfl rfl (qV rfl (R.conv (b := ((UInt64.ofNat n) : UInt64).toNat) rfl underlying3 underlying26 (w64_nat n)) (qV rfl (R.bin (v := (vu64 (UInt64.ofNat (n * 8)))) rfl rfl ((b64_mul (UInt64.ofNat n) 8).trans (congrArg (fun x : UInt64 => some (vu64 x)) (mul8 n)))) ?_))
 refine WL.call Tryz.call64 rfl rfl (c_Put_b (UInt64.ofNat (n * 8)) 8 rfl _) rfl ?_
 rintro _ w_11 ⟨a_9, cap_10, rfl, hc_12, ho_13⟩
 have h_14 := h_8.gotRow hc_12 ho_13
 refine qM (.tuple [(.slice a_9 8 cap_10), (vi 0)].toArray) rfl rfl (qV rfl (R.extract rfl rfl) (qV rfl (R.extract rfl rfl) (qA (.slice a_9 8 cap_10) rfl rfl (qA (vi 0) rfl rfl ?_))))
 refine WL.nil (thn_n (WP.seq (WP.reg ?_)))
 refine qM (.slice a_5 (1 + ((119 - (n % 64)) % 64)) c_6) rfl rfl (qM (.slice a_9 8 cap_10) rfl rfl ?_)
 refine WL.call Tryz.call98 rfl rfl (c_Turned a_9 8 cap_10 (leN 8 (UInt64.ofNat (n * 8)).toNat) (leN_len ..) (by omega) _ (ownView (h_14.ok _ M0))) rfl ?_
 rintro _ w_17 ⟨a_15, cap_16, rfl, hc_18, ho_19⟩
 have h_20 := h_14.gotRow hc_18 ho_19
 refine WL.append (km := (1 + ((119 - (n % 64)) % 64)) + 8) (xs := (([128] : List UInt8) ++ List.replicate ((119 - (n % 64)) % 64) (0 : UInt8)).map vu8) (ys := ((leN 8 (UInt64.ofNat (n * 8)).toNat).reverse).map vu8) (zs := ((([128] : List UInt8) ++ List.replicate ((119 - (n % 64)) % 64) (0 : UInt8)) ++ ((leN 8 (UInt64.ofNat (n * 8)).toNat).reverse)).map vu8) h_20 rfl rfl el81 (ownView (h_20.ok _ M0)) ((len_map ((List.length_reverse ..).trans (leN_len ..))).trans (Nat.mul_one _).symm) (one_u8 _) (by simp only [List.map_append, List.map_nil]) (by omega) (by omega) (by omega) (fun _ _ => Y2) rfl (fun a_21 c_22 w_23 h_24 => ?_)
 refine qA (.slice a_21 ((1 + ((119 - (n % 64)) % 64)) + 8) c_22) rfl rfl ?_
 refine WL.nil (thn_n (WP.ret ?_))
 refine ret_of results97 (RV.tmp (v := (.slice a_21 ((1 + ((119 - (n % 64)) % 64)) + 8) c_22)) rfl RV.nil) ?_
 have es : (([128] : List UInt8) ++ List.replicate ((119 - (n % 64)) % 64) (0 : UInt8)) ++ ((leN 8 (UInt64.ofNat (n * 8)).toNat).reverse) = padL n := pad_P (by omega)
 have el : (1 + ((119 - (n % 64)) % 64)) + 8 = (padL n).length := by have hq := padL_len n; omega
 have hown := h_24.own M2
 rw [el, es] at hown
 exact ⟨_, _, by rw [el]; rfl, h_24.chgS, hown⟩

theorem c_PadR (a : Option Addr) (n cap : Nat) (bs : List UInt8) (hl : bs.length = n) (hn : n ≤ 1000000000000) (w : World) (hv : View w a (bs.map vu8)) :
  Cs Tryz.prog 89 [(.slice a n cap)].toArray w (fun v w1 => ∃ a cap, v = .slice a (padded bs).length cap ∧ Chg w w1 [] ∧ Own w.heap.size w1 5 1 a (padded bs).length cap ((padded bs).map vu8)) := by
 refine Cs.of (n := 35) (args := [(.slice a n cap)]) Tryz.func89 rfl rfl rfl ?_
 have h_0 := HP.init w
 have h_00 := h_0.old (View.arg hv) (fun f hf => by cases hf)
 refine WP.seq (WP.reg ?_)
 refine qA (.slice none 0 0) rfl rfl ?_
 refine WL.nil (thn_n (WP.seq (WP.reg ?_)))
 refine qM (.slice a n cap) rfl rfl ?_
 have h_1 := h_00.rowNil 5 1
 refine WL.append (km := n) (xs := []) (ys := bs.map vu8) (zs := (([] : List UInt8) ++ bs).map vu8) h_1 rfl rfl el81 (viewV (h_1.ok _ M1)) ((len_map hl).trans (Nat.mul_one _).symm) (one_u8 _) (by simp only [List.map_append, List.map_nil]) (by omega) (by omega) (by omega) (fun _ _ => At.h) rfl (fun a_2 c_3 w_4 h_5 => ?_)
 refine WL.buildSl (vs := [(0, (vu8 128))]) (cs := ([128] : List UInt8).map vu8) h_5 underlying81 sizeOf5 (zv typeInfo5 rfl) rfl rfl (by kernel_rfl) rfl (one_u8 _) rfl rfl (fun b_6 w_7 h_8 => ?_)
 refine WL.append (km := n + 1) (xs := (([] : List UInt8) ++ bs).map vu8) (ys := ([128] : List UInt8).map vu8) (zs := ((([] : List UInt8) ++ bs) ++ ([128] : List UInt8)).map vu8) h_8 rfl rfl el81 (viewB (h_8.ok _ M0) Sg.h) ((len_map (rfl : List.length ([128] : List UInt8) = 1)).trans (Nat.mul_one _).symm) (one_u8 _) (by simp only [List.map_append, List.map_nil]) (by omega) (by omega) (by omega) (fun _ _ => Y1) rfl (fun a_9 c_10 w_11 h_12 => ?_)
 refine qA (.slice a_9 (n + 1) c_10) rfl rfl ?_
 refine WL.nil (thn_n (WP.seq (WP.block ?_)))
 have h_13 := h_12.up J1
 refine WP.loopG (G := Nat × Option Addr × Nat) [3, 10, 11, 12, 13, 14, 15, 16] (fun (z, ra, rc) => [(3, (.slice ra (n + 1 + z) rc))]) (fun (z, ra, rc) m w1 => HP w w1 [.row ra (n + 1 + z) rc 5 1 (((bs ++ ([128] : List UInt8)) ++ List.replicate z (0 : UInt8)).map vu8), .blk b_6 .nw 5 [(1, ([128] : List UInt8).map vu8)], .view a (bs.map vu8)] ∧ (z ≤ (119 - n % 64) % 64) ∧ m = 64 - z) ⟨(0, a_9, c_10), _, ⟨rfl, trivial⟩, (by rw [List.replicate_zero, List.append_nil]; exact h_13), (by omega), rfl⟩ ?_
 rintro ⟨z, ra, rc⟩ m_16 J_17 w_14 ⟨h_15, hz, rfl⟩
 refine WP.seq (WP.seq (WP.reg ?_))
 refine qM (.slice ra (n + 1 + z) rc) rfl rfl (qV rfl (R.lenS (a := ra) (m := n + 1 + z) rfl rfl underlying81) (qV rfl (R.bin rfl rfl (bi_rem (c := (((n + 1 + z) % 64 : Nat) : Int)) (Int.natCast_nonneg _) (by omega) (by first | omega | rfl))) (qV rfl (R.bin rfl rfl (bi_neq (r := decide (((((n + 1 + z) % 64 : Nat) : Int) : Int) ≠ 56)) rfl)) ?_)))
 refine WL.nil (thn_n ?_)
 refine WP.cond (b := decide (((((n + 1 + z) % 64 : Nat) : Int) : Int) ≠ 56)) rfl (fun c_18 => ?_) (fun c_18 => ?_)
 ·have p_19 := of_decide_eq_true c_18
  refine WP.skip (thn_n (WP.block (WP.reg ?_)))
  refine qM (.slice ra (n + 1 + z) rc) rfl rfl ?_
  refine WL.buildSl (vs := [(0, (vu8 0))]) (cs := ([0] : List UInt8).map vu8) h_15 underlying81 sizeOf5 (zv typeInfo5 rfl) rfl rfl (by kernel_rfl) rfl (one_u8 _) rfl rfl (fun b_20 w_21 h_22 => ?_)
  refine WL.append (km := n + 1 + z + 1) (xs := ((bs ++ ([128] : List UInt8)) ++ List.replicate z (0 : UInt8)).map vu8) (ys := ([0] : List UInt8).map vu8) (zs := (((bs ++ ([128] : List UInt8)) ++ List.replicate z (0 : UInt8)) ++ ([0] : List UInt8)).map vu8) h_22 rfl rfl el81 (viewB (h_22.ok _ M0) Sg.h) ((len_map (rfl : List.length ([0] : List UInt8) = 1)).trans (Nat.mul_one _).symm) (one_u8 _) (by simp only [List.map_append, List.map_nil]) (by omega) (by omega) (by omega) (fun _ _ => Y1) rfl (fun a_23 c_24 w_25 h_26 => ?_)
  refine qA (.slice a_23 (n + 1 + z + 1) c_24) rfl rfl ?_
  refine WL.nil (inb_n (thn_n ?_))
  have h_30 := (((h_26.drop rfl).up J2).up J2).up J2
  rw [List.append_assoc, zero_snoc] at h_30
  exact ⟨(z + 1, a_23, c_24), _, (by omega), (U4 rfl rfl rfl rfl (U4 rfl rfl rfl rfl (Ag.updL rfl (Ag.mix _ _ _)))), ⟨rfl, trivial⟩, h_30, (by omega), rfl⟩
 ·have p_31 := of_decide_eq_false c_18
  refine WP.exit (thn_x (thn_x (inb_hit (thn_n (WP.seq (WP.reg ?_))))))
  refine qM (.slice a n cap) rfl rfl (qV rfl (R.lenS (a := a) (m := n) rfl rfl underlying81) (qV rfl (R.conv (b := ((UInt64.ofNat n) : UInt64).toNat) rfl underlying3 underlying26 (w64_nat n)) (qV rfl (R.bin (v := (vu64 (UInt64.ofNat (n * 8)))) rfl rfl ((b64_mul (UInt64.ofNat n) 8).trans (congrArg (fun x : UInt64 => some (vu64 x)) (mul8 n)))) (qA (vu64 (UInt64.ofNat (n * 8))) rfl rfl ?_))))
  refine WL.nil (thn_n (WP.seq (WP.seq (WP.reg ?_))))
  refine qA (vi 7) rfl rfl ?_
  refine WL.nil (thn_n (WP.block ?_))
  have hz2 : z = (119 - n % 64) % 64 := by omega
  refine WP.loopG (G := Nat × Option Addr × Nat) [3, 5, 21, 22, 23, 24, 25, 26, 27, 28, 29, 30, 31, 32, 33] (fun (j, ra2, rc2) => [(3, (.slice ra2 (n + 1 + z + j) rc2)), (5, (vi (7 - (j : Int))))]) (fun (j, ra2, rc2) m w1 => HP w w1 [.row ra2 (n + 1 + z + j) rc2 5 1 ((((bs ++ ([128] : List UInt8)) ++ List.replicate z (0 : UInt8)) ++ ((leN 8 (UInt64.ofNat (n * 8)).toNat).reverse).take j).map vu8), .blk b_6 .nw 5 [(1, ([128] : List UInt8).map vu8)], .view a (bs.map vu8)] ∧ (j ≤ 8) ∧ m = 8 - j) ⟨(0, ra, rc), _, ⟨rfl, rfl, trivial⟩, (by rw [List.take_zero, List.append_nil]; exact h_15), (by omega), rfl⟩ ?_
  rintro ⟨j, ra2, rc2⟩ m_34 J_35 w_32 ⟨h_33, hj, rfl⟩
  have ek : j < 8 → (UInt64.ofNat (8 * (7 - j))).toNat = 8 * (7 - j) := fun _ => nat64 (by omega)
  refine WP.seq (WP.seq (WP.reg ?_))
  refine qM (vi (7 - (j : Int))) rfl rfl (qV rfl (R.bin rfl rfl (bi_geq (r := decide ((7 - (j : Int) : Int) ≥ 0)) rfl)) ?_)
  refine WL.nil (thn_n ?_)
  refine WP.cond (b := decide ((7 - (j : Int) : Int) ≥ 0)) rfl (fun c_36 => ?_) (fun c_36 => ?_)
  ·have p_37 := of_decide_eq_true c_36
   refine WP.skip (thn_n (WP.seq (WP.block (WP.reg ?_))))
   refine qM (.slice ra2 (n + 1 + z + j) rc2) rfl rfl (qM (vu64 (UInt64.ofNat (n * 8))) rfl rfl (qV rfl (R.move (v := (vn (7 - j))) (congrArg vi (show (7 : Int) - (j : Int) = ((7 - j : Nat) : Int) by omega))) (qV rfl (R.bin rfl rfl (bi_mul (c := ((8 * (7 - j) : Nat) : Int)) (by omega) (by omega))) (qV rfl (R.conv (b := ((UInt64.ofNat (8 * (7 - j))) : UInt64).toNat) rfl underlying3 underlying128 (w64_nat (8 * (7 - j)))) (qV rfl (R.binR (v := vu64 (shr64 (UInt64.ofNat (n * 8)) ((UInt64.ofNat (8 * (7 - j))).toNat))) rfl rfl (run_shr64 _ _ _ (UInt64.ofNat (n * 8)) _ ((UInt64.ofNat (8 * (7 - j))).toNat))) (qV rfl (R.conv (b := ((UInt8.ofNat ((shr64 (UInt64.ofNat (n * 8)) ((UInt64.ofNat (8 * (7 - j))).toNat)).toNat)) : UInt8).toNat) rfl underlying26 underlying5 (w8_nat ((shr64 (UInt64.ofNat (n * 8)) ((UInt64.ofNat (8 * (7 - j))).toNat)).toNat))) ?_))))))
   refine WL.buildSl (vs := [(0, (vu8 (UInt8.ofNat ((shr64 (UInt64.ofNat (n * 8)) ((UInt64.ofNat (8 * (7 - j))).toNat)).toNat))))]) (cs := ([UInt8.ofNat ((shr64 (UInt64.ofNat (n * 8)) ((UInt64.ofNat (8 * (7 - j))).toNat)).toNat)] : List UInt8).map vu8) h_33 underlying81 sizeOf5 (zv typeInfo5 rfl) rfl rfl (by kernel_rfl) rfl (one_u8 _) rfl rfl (fun b_38 w_39 h_40 => ?_)
   refine WL.append (km := n + 1 + z + j + 1) (xs := (((bs ++ ([128] : List UInt8)) ++ List.replicate z (0 : UInt8)) ++ ((leN 8 (UInt64.ofNat (n * 8)).toNat).reverse).take j).map vu8) (ys := ([UInt8.ofNat ((shr64 (UInt64.ofNat (n * 8)) ((UInt64.ofNat (8 * (7 - j))).toNat)).toNat)] : List UInt8).map vu8) (zs := ((((bs ++ ([128] : List UInt8)) ++ List.replicate z (0 : UInt8)) ++ ((leN 8 (UInt64.ofNat (n * 8)).toNat).reverse).take j) ++ ([UInt8.ofNat ((shr64 (UInt64.ofNat (n * 8)) ((UInt64.ofNat (8 * (7 - j))).toNat)).toNat)] : List UInt8)).map vu8) h_40 rfl rfl el81 (viewB (h_40.ok _ M0) Sg.h) ((len_map (rfl : List.length ([UInt8.ofNat ((shr64 (UInt64.ofNat (n * 8)) ((UInt64.ofNat (8 * (7 - j))).toNat)).toNat)] : List UInt8) = 1)).trans (Nat.mul_one _).symm) (one_u8 _) (by simp only [List.map_append, List.map_nil]) (by omega) (by omega) (by omega) (fun _ _ => Y1) rfl (fun a_41 c_42 w_43 h_44 => ?_)
   refine qA (.slice a_41 (n + 1 + z + j + 1) c_42) rfl rfl ?_
   refine WL.nil (inb_n (thn_n (WP.reg ?_)))
   refine qM (vi (7 - (j : Int))) rfl rfl (qV rfl (R.bin rfl rfl (bi_sub (c := (7 - (j : Int)) - 1) (by omega) (by omega))) (qA (vi ((7 - (j : Int)) - 1)) rfl rfl ?_))
   refine WL.nil (thn_n ?_)
   have h_48 := (((h_44.drop rfl).up J2).up J2).up J2
   rw [ek (by omega), List.append_assoc, rev8_snoc (by omega)] at h_48
   exact ⟨(j + 1, a_41, c_42), _, (by omega), (Ag.upd rfl (U2 rfl rfl (U4 rfl rfl rfl rfl (U4 rfl rfl rfl rfl (U4 rfl rfl rfl rfl (Ag.updL rfl (Ag.mix _ _ _))))))), ⟨rfl, congrArg vi (by omega), trivial⟩, h_48, (by omega), rfl⟩
  ·have p_49 := of_decide_eq_false c_36
   refine WP.exit (thn_x (thn_x (inb_hit (thn_n (WP.seq (WP.reg ?_))))))
   refine qM (.slice ra2 (n + 1 + z + j) rc2) rfl rfl (qA (.slice ra2 (n + 1 + z + j) rc2) rfl rfl ?_)
   refine WL.nil (thn_n (WP.ret ?_))
   refine ret_of results89 (RV.tmp (v := (.slice ra2 (n + 1 + z + j) rc2)) rfl RV.nil) ?_
   have hj8 : j = 8 := by omega
   subst hj8
   have es := pad_R (z := z) hl hz2 (by omega)
   have hp2 := padded_len2 bs
   rw [hl] at hp2
   have el : n + 1 + z + 8 = (padded bs).length := by omega
   have hown := h_33.own M0
   rw [es, el] at hown
   exact ⟨_, _, by rw [el]; rfl, h_33.chgS, hown⟩
end Go.Proofs.YtbhllplbbkmndaaGreat

namespace Go.Proofs.YtbhllplbbkmndaaGreat
open Go.Proofs.Tryz
open Go.Vc Go.Sh Go.RowKit
set_option maxRecDepth 20000
theorem pl151 : ∀ fs, Tryz.prog.underlying 151 = some (.struct fs) → Places Tryz.prog fs [(0, 64), (64, 8), (72, 1), (73, 1), (74, 1)] := by
 intro fs h w; rw [underlying151] at h; cases h; simp
theorem c_New  (w : World) :
  Cs Tryz.prog 81 [].toArray w (fun v w1 => ∃ b, v = .pointer (some ⟨b, 0, none⟩) ∧ Chg w w1 [] ∧ w.heap.size ≤ b ∧ HashAt w.heap.size w1 b 151 []) := by
 refine Cs.of (n := 11) (args := []) Tryz.func81 rfl rfl rfl ?_
 have h_0 := HP.init w
 refine WP.seq (WP.reg ?_)
 refine qA (.pointer none) rfl rfl ?_
 refine WL.nil (thn_n (WP.seq (WP.reg ?_)))
 refine WL.call Tryz.call93 rfl rfl (c_tables  _ ) rfl ?_
 rintro _ w_2 ⟨rfl, hc_1⟩
 have h_3 := h_0.same hc_1
 refine qM (.tuple [(.agg ⟨kL.map vu32⟩), (.agg ⟨hL.map vu32⟩)].toArray) rfl rfl (qV rfl (R.extract rfl rfl) (qV rfl (R.extract rfl rfl) ?_))
 refine WL.alloc (segs := [(64, (zV 64).map vu32)]) h_3 (zv typeInfo147 rfl) rfl (sC (SOk.u32 lr) sN) rfl (fun b_4 w_5 h_6 => ?_)
 refine WL.alloc (segs := [(8, (zV 8).map vu32)]) h_6 (zv typeInfo140 rfl) rfl (sC (SOk.u32 lr) sN) rfl (fun b_7 w_8 h_9 => ?_)
 refine WL.storeA [] [(64, (zV 64).map vu32)] [(64, kL.map vu32)] [] h_9 rfl rfl sizeOf147 Y1 (by decide) rfl rfl rfl rfl rfl rfl (sC (SOk.u32 kL_len) sN) (fun w_10 h_11 => ?_)
 refine WL.storeA [] [(8, (zV 8).map vu32)] [(8, hL.map vu32)] [] h_11 rfl rfl sizeOf140 At.h (by decide) rfl rfl rfl rfl rfl rfl (sC (SOk.u32 hL_len) sN) (fun w_12 h_13 => ?_)
 refine WL.nil (thn_n (WP.seq (WP.reg ?_)))
 refine qV rfl (R.loadA [] [(64, kL.map vu32)] [] (cs := kL.map vu32) rfl isAgg147 sizeOf147 (h_13.ok _ M1) rfl rfl rfl rfl) (qV rfl (R.loadA [] [(8, hL.map vu32)] [] (cs := hL.map vu32) rfl isAgg140 sizeOf140 (h_13.ok _ M0) rfl rfl rfl rfl) (qV rfl (R.buildS (pl := [(0, 64), (64, 8), (72, 1), (73, 1), (74, 1)]) (zs := [(64, (zV 64).map vu32), (8, (zV 8).map vu32), (1, [(.slice none 0 0)]), (1, [(vi 0)]), (1, [(.bool false)])]) (vs := [(0, (.agg ⟨kL.map vu32⟩)), (1, (.agg ⟨hL.map vu32⟩)), (4, (.bool true))]) (out := [(64, kL.map vu32), (8, hL.map vu32), (1, [(.slice none 0 0)]), (1, [(vi 0)]), (1, [(.bool true)])]) underlying151 (zv typeInfo151 rfl) rfl (sC (SOk.u32 lr) (sC (SOk.u32 lr) (sC sV (sC sV (sC sV sN))))) (pl151 _ underlying151) rfl (FillR.cons [] [(64, (zV 64).map vu32)] [(64, kL.map vu32)] [(8, (zV 8).map vu32), (1, [(.slice none 0 0)]), (1, [(vi 0)]), (1, [(.bool false)])] rfl rfl rfl rfl (sC (SOk.u32 kL_len) sN) rfl rfl rfl (FillR.cons [(64, kL.map vu32)] [(8, (zV 8).map vu32)] [(8, hL.map vu32)] [(1, [(.slice none 0 0)]), (1, [(vi 0)]), (1, [(.bool false)])] rfl rfl rfl rfl (sC (SOk.u32 hL_len) sN) rfl rfl rfl (FillR.cons [(64, kL.map vu32), (8, hL.map vu32), (1, [(.slice none 0 0)]), (1, [(vi 0)])] [(1, [(.bool false)])] [(1, [(.bool true)])] [] rfl rfl rfl rfl (sC sV sN) rfl rfl rfl FillR.nil))) rfl) ?_))
 refine WL.box (segs := [(64, kL.map vu32), (8, hL.map vu32), (1, [(.slice none 0 0)]), (1, [(vi 0)]), (1, [(.bool true)])]) h_13 rfl rfl (sC (SOk.u32 kL_len) (sC (SOk.u32 hL_len) (sC sV (sC sV (sC sV sN))))) rfl (fun b_15 w_16 h_17 => ?_)
 refine qA (pO b_15 0) rfl rfl ?_
 refine WL.nil (thn_n (WP.ret ?_))
 refine ret_of results81 (RV.tmp (v := (pO b_15 0)) rfl RV.nil) ?_
 exact ⟨_, rfl, h_17.chgS, h_17.newB M0, none, 0, 0, h_17.cells M0, View.nil _ _, rfl, Nat.le_refl _, fun x hx => by cases hx⟩

theorem c_there_true (kk hh : List UInt32) (hkk : kk.length = 64) (hhl : hh.length = 8) (ra : Option Addr) (rn rc nn : Nat) (bc : Nat) (w : World) (hcb : (Ent.blk bc .ro 151 [(64, kk.map vu32), (8, hh.map vu32), (1, [(.slice ra rn rc)]), (1, [(vi ((nn : Nat) : Int))]), (1, [(.bool true)])]).ok w.heap.size w) :
  Cs Tryz.prog 94 [(.pointer (some ⟨bc, 0, none⟩))].toArray w (fun v w1 => v = (.bool true) ∧ Chg w w1 []) := by
 refine Cs.of (n := 11) (args := [(pO bc 0)]) Tryz.func94 rfl rfl rfl ?_
 have h_0 := HP.init w
 have h_00 := h_0.old hcb (fun f hf => by cases hf)
 refine WP.seq (WP.reg ?_)
 refine qA (.bool false) rfl rfl ?_
 refine WL.nil (thn_n (WP.seq (WP.reg ?_)))
 refine qM (pO bc 0) rfl rfl (qV rfl (R.neNilP rfl rfl underlying132) (qM (.bool true) rfl rfl ?_))
 refine WL.want rfl rfl ?_
 refine qM (pO bc 0) rfl rfl ?_
 refine WL.want rfl rfl ?_
 refine qV rfl (R.nilCheck rfl) ?_
 refine WL.want rfl rfl ?_
 refine qV rfl (R.fieldAddr (off' := 74) rfl underlying151 rfl sizeOf4 rfl rfl) ?_
 refine WL.want rfl rfl ?_
 refine qV rfl (R.load1 rfl isAgg4 (h_00.ok _ M0) (Sg.t rfl (Sg.t rfl (Sg.t rfl (Sg.t rfl Sg.h))))) (qV rfl (R.pickT (v := (.bool true)) rfl rfl) (qA (.bool true) rfl rfl ?_))
 refine WL.nil (thn_n (WP.ret ?_))
 refine ret_of results94 (RV.tmp (v := (.bool true)) rfl RV.nil) ?_
 exact ⟨rfl, h_00.chgS⟩

theorem c_Copy (mg : List UInt8) (ra : Option Addr) (rn rc : Nat) (hrn : (rsL mg).length = rn) (hrc : rn ≤ rc) (bc : Nat) (hm : mg.length ≤ 1000000000000) (w : World) (hvr : View w ra ((rsL mg).map vu8)) (hcb : (Ent.blk bc .ro 151 [(64, kL.map vu32), (8, (stH mg).map vu32), (1, [(.slice ra rn rc)]), (1, [(vi ((mg.length : Nat) : Int))]), (1, [(.bool true)])]).ok w.heap.size w) :
  Cs Tryz.prog 96 [(.pointer (some ⟨bc, 0, none⟩))].toArray w (fun v w1 => ∃ b, v = .pointer (some ⟨b, 0, none⟩) ∧ Chg w w1 [] ∧ w.heap.size ≤ b ∧ HashAt w.heap.size w1 b 151 mg) := by
 refine Cs.of (n := 16) (args := [(pO bc 0)]) Tryz.func96 rfl rfl rfl ?_
 have h_0 := HP.init w
 have h_01 := h_0.oldV (View.arg hvr) rfl (by simp [Ent.mut])
 have h_00 := h_01.oldV hcb rfl (by simp [Ent.mut])
 have hrl := rsL_len mg
 refine WP.seq (WP.reg ?_)
 refine qA (.pointer none) rfl rfl ?_
 refine WL.nil (thn_n (WP.seq (WP.seq (WP.reg ?_))))
 refine qM (pO bc 0) rfl rfl ?_
 refine WL.call Tryz.call94 rfl rfl (c_there_true kL (stH mg) kL_len (stH_len mg) ra rn rc mg.length bc _ (h_00.argR M0)) rfl ?_
 rintro _ w_2 ⟨rfl, hc_1⟩
 have h_3 := h_00.same hc_1
 refine qV rfl (R.not (b := true) rfl) ?_
 refine WL.nil (thn_n ?_)
 refine WP.condF rfl ?_
 refine WP.skip (thn_n (WP.seq (WP.reg ?_)))
 refine qM (pO bc 0) rfl rfl (qV rfl (R.nilCheck rfl) (qV rfl (R.loadA [] [(64, kL.map vu32), (8, (stH mg).map vu32), (1, [(.slice ra rn rc)]), (1, [(vn (mg.length))]), (1, [(.bool true)])] [] rfl isAgg151 sizeOf151 (h_3.ok _ M0) rfl rfl rfl rfl) ?_))
 refine WL.alloc (segs := [(64, (zV 64).map vu32), (8, (zV 8).map vu32), (1, [(.slice none 0 0)]), (1, [(vi 0)]), (1, [(.bool false)])]) h_3 (zv typeInfo151 rfl) rfl (sC (SOk.u32 lr) (sC (SOk.u32 lr) (sC sV (sC sV (sC sV sN))))) rfl (fun b_4 w_5 h_6 => ?_)
 refine WL.storeA [] [(64, (zV 64).map vu32), (8, (zV 8).map vu32), (1, [(.slice none 0 0)]), (1, [(vi 0)]), (1, [(.bool false)])] [(64, kL.map vu32), (8, (stH mg).map vu32), (1, [(.slice ra rn rc)]), (1, [(vn (mg.length))]), (1, [(.bool true)])] [] h_6 rfl rfl sizeOf151 At.h (by decide) rfl rfl rfl rfl rfl rfl (sC (SOk.u32 kL_len) (sC (SOk.u32 (stH_len mg)) (sC sV (sC sV (sC sV sN))))) (fun w_7 h_8 => ?_)
 refine WL.nil (thn_n (WP.seq (WP.reg ?_)))
 refine qM (pO bc 0) rfl rfl (qV rfl (R.nilCheck rfl) (qV rfl (R.fieldAddr (off' := 72) rfl underlying151 rfl sizeOf81 rfl rfl) (qV rfl (R.load1 rfl isAgg81 (h_8.ok _ M1) (Sg.t rfl (Sg.t rfl Sg.h))) ?_)))
 refine WL.call Tryz.call56 rfl rfl (c_Clone ra rn rc (rsL mg) hrn (by omega) _ (viewV (h_8.ok _ M2))) rfl ?_
 rintro _ w_11 ⟨a_9, cap_10, rfl, hc_12, ho_13⟩
 have h_14 := h_8.gotRow hc_12 ho_13
 refine qV rfl (R.fieldAddr (off' := 72) rfl underlying151 rfl sizeOf81 rfl rfl) ?_
 refine WL.store1 h_14 rfl rfl sizeOf81 rfl Y1 (by decide) (Sg.t rfl (Sg.t rfl Sg.h)) (fun w_15 h_16 => ?_)
 refine WL.nil (thn_n (WP.seq (WP.reg ?_)))
 refine qA (pO b_4 0) rfl rfl ?_
 refine WL.nil (thn_n (WP.ret ?_))
 refine ret_of results96 (RV.tmp (v := (pO b_4 0)) rfl RV.nil) ?_
 exact ⟨_, rfl, h_16.chgS, h_16.newB M1, _, _, _, h_16.cells M1, Own.view (h_16.own M0), hrn, (h_16.own M0).2.2.1, fun x hx => ⟨Own.blk (h_16.own M0) x hx, Sep_offRow (h_16.ne (i := 0) (j := 1) rfl rfl rfl) x hx⟩⟩

theorem c_Write (mg : List UInt8) (ra : Option Addr) (rn rc : Nat) (hrn : (rsL mg).length = rn) (hrc : rn ≤ rc) (bc : Nat) (hm : mg.length ≤ 1000000000000) (a : Option Addr) (n cap : Nat) (bs : List UInt8) (hl : bs.length = n) (hn : n ≤ 1000000000000) (hcap : n ≤ cap) (w : World) (hvr : View w ra ((rsL mg).map vu8)) (hv : View w a (bs.map vu8)) (hcb : (Ent.blk bc .ar 151 [(64, kL.map vu32), (8, (stH mg).map vu32), (1, [(.slice ra rn rc)]), (1, [(vi ((mg.length : Nat) : Int))]), (1, [(.bool true)])]).ok w.heap.size w) (ho1 : ∀ x ∈ (Ent.view ra ((rsL mg).map vu8)).blocks, x ≠ bc) (ho2 : ∀ x ∈ (Ent.view a (bs.map vu8)).blocks, x ≠ bc) :
  Cs Tryz.prog 82 [(.pointer (some ⟨bc, 0, none⟩)), (.slice a n cap)].toArray w (fun v w1 => v = vi 0 ∧ Chg w w1 [bc] ∧ HashAt w.heap.size w1 bc 151 (mg ++ bs)) := by
 refine Cs.of (n := 58) (args := [(pO bc 0), (.slice a n cap)]) Tryz.func82 rfl rfl rfl ?_
 have h_0 := HP.init w
 have h_00 := HP_three hcb hvr hv ho1 ho2
 have hrl := rsL_len mg
 refine WP.seq (WP.reg ?_)
 refine qA (vi 0) rfl rfl ?_
 refine WL.nil (thn_n (WP.seq (WP.seq (WP.reg ?_))))
 refine qM (pO bc 0) rfl rfl ?_
 refine WL.call Tryz.call94 rfl rfl (c_there_true kL (stH mg) kL_len (stH_len mg) ra rn rc mg.length bc _ (h_00.argR M0)) rfl ?_
 rintro _ w_2 ⟨rfl, hc_1⟩
 have h_3 := h_00.same hc_1
 refine qV rfl (R.not (b := true) rfl) ?_
 refine WL.nil (thn_n ?_)
 refine WP.condF rfl ?_
 refine WP.skip (thn_n (WP.seq (WP.reg ?_)))
 refine qM (pO bc 0) rfl rfl (qV rfl (R.nilCheck rfl) (qV rfl (R.fieldAddr (off' := 73) rfl underlying151 rfl sizeOf3 rfl rfl) (qV rfl (R.load1 rfl isAgg3 (h_3.ok _ M0) (Sg.t rfl (Sg.t rfl (Sg.t rfl Sg.h)))) (qM (.slice a n cap) rfl rfl (qV rfl (R.lenS (a := a) (m := n) rfl rfl underlying81) (qV rfl (R.bin rfl rfl (bi_add (c := ((mg.length + n : Nat) : Int)) (by omega) (by omega))) (qV rfl (R.nilCheck rfl) (qV rfl (R.fieldAddr (off' := 73) rfl underlying151 rfl sizeOf3 rfl rfl) ?_))))))))
 refine WL.store1 h_3 rfl rfl sizeOf3 rfl At.h (by decide) (Sg.t rfl (Sg.t rfl (Sg.t rfl Sg.h))) (fun w_4 h_5 => ?_)
 refine WL.nil (thn_n (WP.seq (WP.reg ?_)))
 refine qM (pO bc 0) rfl rfl (qM (pO bc 0) rfl rfl (qV rfl (R.nilCheck rfl) (qV rfl (R.fieldAddr (off' := 72) rfl underlying151 rfl sizeOf81 rfl rfl) (qV rfl (R.load1 rfl isAgg81 (h_5.ok _ M0) (Sg.t rfl (Sg.t rfl Sg.h))) (qM (.slice a n cap) rfl rfl ?_)))))
 refine WL.buildSl (vs := [(0, (.slice ra rn rc)), (1, (.slice a n cap))]) (cs := [(.slice ra rn rc), (.slice a n cap)]) h_5 underlying85 sizeOf81 (zv typeInfo81 rfl) rfl rfl (by kernel_rfl) rfl (by simp [Value.oneCell']) rfl rfl (fun b_6 w_7 h_8 => ?_)
 refine WL.call Tryz.call75 rfl rfl (c_Concat (some ⟨b_6, 0, none⟩) 2 2 [(.slice ra rn rc), (.slice a n cap)] [rsL mg, bs] rfl (by rw [wr_r, List.length_drop, List.length_append]; omega) (by omega) _ (viewB (h_8.ok _ M0) Sg.h) (Sls.cons hrn (by omega) (viewV (h_8.ok _ M2)) (Sls.cons hl (by omega) (viewV (h_8.ok _ M3)) Sls.nil))) rfl ?_
 rintro _ w_11 ⟨a_9, cap_10, rfl, hc_12, ho_13⟩
 have h_14 := h_8.gotRow hc_12 ho_13
 refine qV rfl (R.nilCheck rfl) (qV rfl (R.fieldAddr (off' := 72) rfl underlying151 rfl sizeOf81 rfl rfl) ?_)
 refine WL.store1 h_14 rfl rfl sizeOf81 rfl Y2 (by decide) (Sg.t rfl (Sg.t rfl Sg.h)) (fun w_15 h_16 => ?_)
 refine WL.nil (thn_n (WP.seq (WP.block ?_)))
 have hf_18 := Own.blk (h_16.own M0)
 have hq_19 := (h_16.own M0).2.2.1
 have h_17 := h_16.rowView
 have h_26 := ((((((h_17.up J1).drop rfl).up J2).drop rfl).up J2).up J1).up J2
 have hbl : (mg ++ bs).length = mg.length + n := by rw [List.length_append, hl]
 rw [wr_0 mg bs, wr_r mg bs] at h_26
 rw [wr_r mg bs] at hf_18 hq_19
 refine WP.loopG (G := Nat × Option Addr × Nat × Nat) [27, 28, 29, 30, 31, 32, 33, 34, 35, 36, 37, 38, 39, 40, 41, 42, 43, 44, 45, 46, 47, 48, 49, 50, 51, 52, 53, 54, 55, 56, 57] (fun (k, xa, xn, xc) => []) (fun (k, xa, xn, xc) m w1 => HP w w1 [.blk bc .ar 151 [(64, kL.map vu32), (8, (hs kL hL (mg ++ bs) k).map vu32), (1, [(.slice xa xn xc)]), (1, [(vn (mg.length + n))]), (1, [(.bool true)])], .view xa (((mg ++ bs).drop (64 * k)).map vu8), .view a (bs.map vu8)] ∧ (((mg ++ bs).drop (64 * k)).length = xn) ∧ (xn ≤ xc) ∧ (64 * k ≤ mg.length + n) ∧ (∀ b ∈ (Ent.view xa (((mg ++ bs).drop (64 * k)).map vu8)).blocks, w.heap.size ≤ b) ∧ m = mg.length + n - 64 * k) ⟨(mg.length / 64, a_9, _, _), _, trivial, h_26, rfl, hq_19, (by omega), hf_18, rfl⟩ ?_
 rintro ⟨k, xa, xn, xc⟩ m_29 J_30 w_27 ⟨h_28, hxn, hxc, hk, hxf, rfl⟩
 have hdl : xn = mg.length + n - 64 * k := by rw [← hxn, List.length_drop, hbl]
 refine WP.seq (WP.seq (WP.reg ?_))
 refine qM (pO bc 0) rfl rfl (qV rfl (R.nilCheck rfl) (qV rfl (R.fieldAddr (off' := 72) rfl underlying151 rfl sizeOf81 rfl rfl) (qV rfl (R.load1 rfl isAgg81 (h_28.ok _ M0) (Sg.t rfl (Sg.t rfl Sg.h))) (qV rfl (R.lenS (a := xa) (m := xn) rfl rfl underlying81) (qV rfl (R.bin rfl rfl (bi_geq (r := decide ((((xn : Nat) : Int) : Int) ≥ 64)) rfl)) ?_)))))
 refine WL.nil (thn_n ?_)
 refine WP.cond (b := decide ((((xn : Nat) : Int) : Int) ≥ 64)) rfl (fun c_31 => ?_) (fun c_31 => ?_)
 ·have p_32 := of_decide_eq_true c_31
  refine WP.skip (thn_n (WP.block (WP.seq ?_)))
  refine WP.cutG (G := Unit) [33, 34, 35, 36, 37, 38, 39, 40, 41, 42, 43, 44, 45, 46, 47, 48, 49] (fun _ => [(33, (pO bc 0)), (34, (pO bc 0)), (35, (pO bc 0)), (36, (pO bc 64)), (38, (pO bc 0)), (39, (pO bc 0)), (40, (pO bc 72)), (43, (pO bc 0)), (44, (pO bc 0)), (45, (pO bc 0)), (37, (.agg ⟨(hs kL hL (mg ++ bs) k).map vu32⟩)), (41, (.slice xa xn xc)), (42, (.slice (slA xa 0 xc 1) 64 xc)), (46, (.agg ⟨kL.map vu32⟩)), (47, (.agg ⟨(pressL kL (hs kL hL (mg ++ bs) k) ((((mg ++ bs).drop (64 * k)).drop 0).take 64)).map vu32⟩)), (48, (pO bc 0)), (49, (pO bc 64))]) (fun _ w1 => HP w w1 [.blk bc .ar 151 [(64, kL.map vu32), (8, (pressL kL (hs kL hL (mg ++ bs) k) ((((mg ++ bs).drop (64 * k)).drop 0).take 64)).map vu32), (1, [(.slice xa xn xc)]), (1, [(vn (mg.length + n))]), (1, [(.bool true)])], .view xa (((mg ++ bs).drop (64 * k)).map vu8), .view a (bs.map vu8)]) ?_ ?_
  ·refine WP.drawT (SL w.heap.size [.view xa (((mg ++ bs).drop (64 * k)).map vu8), .view a (bs.map vu8)]) (.q 0 (.q 1 (.q 2 (.q 3 (.q 5 (.q 6 (.q 7 (.q 10 (.q 11 (.q 12 (.s3 4 8 13 (.s2 8 13 (.q 9 (.s 13 (.s 14 (.q 15 (.q 16 (.s 17 .nil)))))) (.s 8 (.q 9 (.s 14 (.q 15 (.q 16 (.s 17 .nil))))))) (.q 9 (.s2 4 13 (.s 13 (.s 14 (.q 15 (.q 16 (.s 17 .nil))))) (.s 4 (.s 14 (.q 15 (.q 16 (.s 17 .nil))))))) (.s2 4 8 (.s 8 (.q 9 (.s 14 (.q 15 (.q 16 (.s 17 .nil)))))) (.q 9 (.s 4 (.s 14 (.q 15 (.q 16 (.s 17 .nil)))))))))))))))))) (by kernel_rfl) (by kernel_rfl) rfl (by kernel_rfl) (fun w_33 hc_35 => (SL.cons ((h_28.same hc_35).ok _ M1) (SL.cons ((h_28.same hc_35).ok _ M2) (SL.nil _ _)))) (fun w_33 hc_35 => ?_)
   have h_34 := h_28.same hc_35
   refine qT rfl rfl (fun wq hS => R.move (v := (pO bc 0)) rfl) ?_
   refine qT rfl rfl (fun wq hS => R.move (v := (pO bc 0)) rfl) ?_
   refine qT rfl rfl (fun wq hS => R.nilCheck rfl) ?_
   refine qT rfl rfl (fun wq hS => R.fieldAddr (off' := 64) rfl underlying151 rfl sizeOf140 rfl rfl) ?_
   refine qT rfl rfl (fun wq hS => R.move (v := (pO bc 0)) rfl) ?_
   refine qT rfl rfl (fun wq hS => R.nilCheck rfl) ?_
   refine qT rfl rfl (fun wq hS => R.fieldAddr (off' := 72) rfl underlying151 rfl sizeOf81 rfl rfl) ?_
   refine qT rfl rfl (fun wq hS => R.move (v := (pO bc 0)) rfl) ?_
   refine qT rfl rfl (fun wq hS => R.nilCheck rfl) ?_
   refine qT rfl rfl (fun wq hS => R.fieldAddr (off' := 0) rfl underlying151 rfl sizeOf147 rfl rfl) ?_
   refine WT.s3 ?_ ?_ ?_
   ·refine oN rfl ?_
    refine qV rfl (R.loadA [(64, kL.map vu32)] [(8, (hs kL hL (mg ++ bs) k).map vu32)] [(1, [(.slice xa xn xc)]), (1, [(vn (mg.length + n))]), (1, [(.bool true)])] (cs := (hs kL hL (mg ++ bs) k).map vu32) rfl isAgg140 sizeOf140 (h_34.ok _ M0) rfl rfl rfl rfl) ?_
    refine WL.nil ?_
    refine ⟨(N1_2 h_34.ok), ?_⟩
    refine WT.s2 ?_ ?_
    ·refine oN rfl ?_
     refine qV rfl (R.load1 rfl isAgg81 (h_34.ok _ M0) (Sg.t rfl (Sg.t rfl Sg.h))) ?_
     refine WL.nil ?_
     refine ⟨(N1_2 h_34.ok), ?_⟩
     refine qT rfl rfl (fun wq hS => R.sliceS (a := xa) (len := xn) (l := 0) (h := 64) rfl EvB.dflt (EvB.it (l := 64) rfl rfl) (by decide) (by omega) underlying81 sizeOf5) ?_
     refine WT.s (oN rfl ?_)
     refine qV rfl (R.loadA [] [(64, kL.map vu32)] [(8, (hs kL hL (mg ++ bs) k).map vu32), (1, [(.slice xa xn xc)]), (1, [(vn (mg.length + n))]), (1, [(.bool true)])] (cs := kL.map vu32) rfl isAgg147 sizeOf147 (h_34.ok _ M0) rfl rfl rfl rfl) ?_
     refine WL.nil ?_
     refine ⟨(N1_2 h_34.ok), ?_⟩
     refine WT.s (oN rfl ?_)
     refine WL.call Tryz.call95 rfl rfl (c_press (hs kL hL (mg ++ bs) k) kL (hs_len hL_len k) kL_len (slA xa 0 xc 1) xc ((((mg ++ bs).drop (64 * k)).drop 0).take 64) (subLen (K := xn) hxn (by omega) : List.length ((((mg ++ bs).drop (64 * k)).drop 0).take 64) = 64) (by omega) _ (View.slM (l := 0) (m := xc) (k := 64) (viewV (h_34.ok _ M1)) (by omega))) rfl ?_
     rintro _ w_37 ⟨rfl, hc_36⟩
     have h_38 := h_34.same hc_36
     refine WL.nil ?_
     refine ⟨(N1_2 h_38.ok), ?_⟩
     refine qT rfl rfl (fun wq hS => R.nilCheck rfl) ?_
     refine qT rfl rfl (fun wq hS => R.fieldAddr (off' := 64) rfl underlying151 rfl sizeOf140 rfl rfl) ?_
     refine WT.s (oN rfl ?_)
     refine WL.storeA [(64, kL.map vu32)] [(8, (hs kL hL (mg ++ bs) k).map vu32)] [(8, (pressL kL (hs kL hL (mg ++ bs) k) ((((mg ++ bs).drop (64 * k)).drop 0).take 64)).map vu32)] [(1, [(.slice xa xn xc)]), (1, [(vn (mg.length + n))]), (1, [(.bool true)])] h_38 rfl rfl sizeOf140 At.h (by decide) rfl rfl rfl rfl rfl rfl (sC (SOk.u32 (pressL_len ..)) sN) (fun w_39 h_40 => ?_)
     refine WL.nil ?_
     refine ⟨(N1_2 h_40.ok), ?_⟩
     refine WT.nil (thn_n ?_)
     exact ⟨(), (Ag.upd rfl (U4 rfl rfl rfl rfl (U4 rfl rfl rfl rfl (U4 rfl rfl rfl rfl (U4 rfl rfl rfl rfl (Ag.refl _ _)))))), ⟨rfl, rfl, rfl, rfl, rfl, rfl, rfl, rfl, rfl, rfl, rfl, rfl, rfl, rfl, rfl, rfl, rfl, trivial⟩, h_40⟩
    ·refine oN rfl ?_
     refine qV rfl (R.loadA [] [(64, kL.map vu32)] [(8, (hs kL hL (mg ++ bs) k).map vu32), (1, [(.slice xa xn xc)]), (1, [(vn (mg.length + n))]), (1, [(.bool true)])] (cs := kL.map vu32) rfl isAgg147 sizeOf147 (h_34.ok _ M0) rfl rfl rfl rfl) ?_
     refine WL.nil ?_
     refine ⟨(N1_2 h_34.ok), ?_⟩
     refine WT.s (oN rfl ?_)
     refine qV rfl (R.load1 rfl isAgg81 (h_34.ok _ M0) (Sg.t rfl (Sg.t rfl Sg.h))) ?_
     refine WL.nil ?_
     refine ⟨(N1_2 h_34.ok), ?_⟩
     refine qT rfl rfl (fun wq hS => R.sliceS (a := xa) (len := xn) (l := 0) (h := 64) rfl EvB.dflt (EvB.it (l := 64) rfl rfl) (by decide) (by omega) underlying81 sizeOf5) ?_
     refine WT.s (oN rfl ?_)
     refine WL.call Tryz.call95 rfl rfl (c_press (hs kL hL (mg ++ bs) k) kL (hs_len hL_len k) kL_len (slA xa 0 xc 1) xc ((((mg ++ bs).drop (64 * k)).drop 0).take 64) (subLen (K := xn) hxn (by omega) : List.length ((((mg ++ bs).drop (64 * k)).drop 0).take 64) = 64) (by omega) _ (View.slM (l := 0) (m := xc) (k := 64) (viewV (h_34.ok _ M1)) (by omega))) rfl ?_
     rintro _ w_42 ⟨rfl, hc_41⟩
     have h_43 := h_34.same hc_41
     refine WL.nil ?_
     refine ⟨(N1_2 h_43.ok), ?_⟩
     refine qT rfl rfl (fun wq hS => R.nilCheck rfl) ?_
     refine qT rfl rfl (fun wq hS => R.fieldAddr (off' := 64) rfl underlying151 rfl sizeOf140 rfl rfl) ?_
     refine WT.s (oN rfl ?_)
     refine WL.storeA [(64, kL.map vu32)] [(8, (hs kL hL (mg ++ bs) k).map vu32)] [(8, (pressL kL (hs kL hL (mg ++ bs) k) ((((mg ++ bs).drop (64 * k)).drop 0).take 64)).map vu32)] [(1, [(.slice xa xn xc)]), (1, [(vn (mg.length + n))]), (1, [(.bool true)])] h_43 rfl rfl sizeOf140 At.h (by decide) rfl rfl rfl rfl rfl rfl (sC (SOk.u32 (pressL_len ..)) sN) (fun w_44 h_45 => ?_)
     refine WL.nil ?_
     refine ⟨(N1_2 h_45.ok), ?_⟩
     refine WT.nil (thn_n ?_)
     exact ⟨(), (Ag.upd rfl (U4 rfl rfl rfl rfl (U4 rfl rfl rfl rfl (U4 rfl rfl rfl rfl (U4 rfl rfl rfl rfl (Ag.refl _ _)))))), ⟨rfl, rfl, rfl, rfl, rfl, rfl, rfl, rfl, rfl, rfl, rfl, rfl, rfl, rfl, rfl, rfl, rfl, trivial⟩, h_45⟩
   ·refine oN rfl ?_
    refine qV rfl (R.load1 rfl isAgg81 (h_34.ok _ M0) (Sg.t rfl (Sg.t rfl Sg.h))) ?_
    refine WL.nil ?_
    refine ⟨(N1_2 h_34.ok), ?_⟩
    refine qT rfl rfl (fun wq hS => R.sliceS (a := xa) (len := xn) (l := 0) (h := 64) rfl EvB.dflt (EvB.it (l := 64) rfl rfl) (by decide) (by omega) underlying81 sizeOf5) ?_
    refine WT.s2 ?_ ?_
    ·refine oN rfl ?_
     refine qV rfl (R.loadA [(64, kL.map vu32)] [(8, (hs kL hL (mg ++ bs) k).map vu32)] [(1, [(.slice xa xn xc)]), (1, [(vn (mg.length + n))]), (1, [(.bool true)])] (cs := (hs kL hL (mg ++ bs) k).map vu32) rfl isAgg140 sizeOf140 (h_34.ok _ M0) rfl rfl rfl rfl) ?_
     refine WL.nil ?_
     refine ⟨(N1_2 h_34.ok), ?_⟩
     refine WT.s (oN rfl ?_)
     refine qV rfl (R.loadA [] [(64, kL.map vu32)] [(8, (hs kL hL (mg ++ bs) k).map vu32), (1, [(.slice xa xn xc)]), (1, [(vn (mg.length + n))]), (1, [(.bool true)])] (cs := kL.map vu32) rfl isAgg147 sizeOf147 (h_34.ok _ M0) rfl rfl rfl rfl) ?_
     refine WL.nil ?_
     refine ⟨(N1_2 h_34.ok), ?_⟩
     refine WT.s (oN rfl ?_)
     refine WL.call Tryz.call95 rfl rfl (c_press (hs kL hL (mg ++ bs) k) kL (hs_len hL_len k) kL_len (slA xa 0 xc 1) xc ((((mg ++ bs).drop (64 * k)).drop 0).take 64) (subLen (K := xn) hxn (by omega) : List.length ((((mg ++ bs).drop (64 * k)).drop 0).take 64) = 64) (by omega) _ (View.slM (l := 0) (m := xc) (k := 64) (viewV (h_34.ok _ M1)) (by omega))) rfl ?_
     rintro _ w_47 ⟨rfl, hc_46⟩
     have h_48 := h_34.same hc_46
     refine WL.nil ?_
     refine ⟨(N1_2 h_48.ok), ?_⟩
     refine qT rfl rfl (fun wq hS => R.nilCheck rfl) ?_
     refine qT rfl rfl (fun wq hS => R.fieldAddr (off' := 64) rfl underlying151 rfl sizeOf140 rfl rfl) ?_
     refine WT.s (oN rfl ?_)
     refine WL.storeA [(64, kL.map vu32)] [(8, (hs kL hL (mg ++ bs) k).map vu32)] [(8, (pressL kL (hs kL hL (mg ++ bs) k) ((((mg ++ bs).drop (64 * k)).drop 0).take 64)).map vu32)] [(1, [(.slice xa xn xc)]), (1, [(vn (mg.length + n))]), (1, [(.bool true)])] h_48 rfl rfl sizeOf140 At.h (by decide) rfl rfl rfl rfl rfl rfl (sC (SOk.u32 (pressL_len ..)) sN) (fun w_49 h_50 => ?_)
     refine WL.nil ?_
     refine ⟨(N1_2 h_50.ok), ?_⟩
     refine WT.nil (thn_n ?_)
     exact ⟨(), (Ag.upd rfl (U4 rfl rfl rfl rfl (U4 rfl rfl rfl rfl (U4 rfl rfl rfl rfl (U4 rfl rfl rfl rfl (Ag.refl _ _)))))), ⟨rfl, rfl, rfl, rfl, rfl, rfl, rfl, rfl, rfl, rfl, rfl, rfl, rfl, rfl, rfl, rfl, rfl, trivial⟩, h_50⟩
    ·refine oN rfl ?_
     refine qV rfl (R.loadA [] [(64, kL.map vu32)] [(8, (hs kL hL (mg ++ bs) k).map vu32), (1, [(.slice xa xn xc)]), (1, [(vn (mg.length + n))]), (1, [(.bool true)])] (cs := kL.map vu32) rfl isAgg147 sizeOf147 (h_34.ok _ M0) rfl rfl rfl rfl) ?_
     refine WL.nil ?_
     refine ⟨(N1_2 h_34.ok), ?_⟩
     refine WT.s (oN rfl ?_)
     refine qV rfl (R.loadA [(64, kL.map vu32)] [(8, (hs kL hL (mg ++ bs) k).map vu32)] [(1, [(.slice xa xn xc)]), (1, [(vn (mg.length + n))]), (1, [(.bool true)])] (cs := (hs kL hL (mg ++ bs) k).map vu32) rfl isAgg140 sizeOf140 (h_34.ok _ M0) rfl rfl rfl rfl) ?_
     refine WL.nil ?_
     refine ⟨(N1_2 h_34.ok), ?_⟩
     refine WT.s (oN rfl ?_)
     refine WL.call Tryz.call95 rfl rfl (c_press (hs kL hL (mg ++ bs) k) kL (hs_len hL_len k) kL_len (slA xa 0 xc 1) xc ((((mg ++ bs).drop (64 * k)).drop 0).take 64) (subLen (K := xn) hxn (by omega) : List.length ((((mg ++ bs).drop (64 * k)).drop 0).take 64) = 64) (by omega) _ (View.slM (l := 0) (m := xc) (k := 64) (viewV (h_34.ok _ M1)) (by omega))) rfl ?_
     rintro _ w_52 ⟨rfl, hc_51⟩
     have h_53 := h_34.same hc_51
     refine WL.nil ?_
     refine ⟨(N1_2 h_53.ok), ?_⟩
     refine qT rfl rfl (fun wq hS => R.nilCheck rfl) ?_
     refine qT rfl rfl (fun wq hS => R.fieldAddr (off' := 64) rfl underlying151 rfl sizeOf140 rfl rfl) ?_
     refine WT.s (oN rfl ?_)
     refine WL.storeA [(64, kL.map vu32)] [(8, (hs kL hL (mg ++ bs) k).map vu32)] [(8, (pressL kL (hs kL hL (mg ++ bs) k) ((((mg ++ bs).drop (64 * k)).drop 0).take 64)).map vu32)] [(1, [(.slice xa xn xc)]), (1, [(vn (mg.length + n))]), (1, [(.bool true)])] h_53 rfl rfl sizeOf140 At.h (by decide) rfl rfl rfl rfl rfl rfl (sC (SOk.u32 (pressL_len ..)) sN) (fun w_54 h_55 => ?_)
     refine WL.nil ?_
     refine ⟨(N1_2 h_55.ok), ?_⟩
     refine WT.nil (thn_n ?_)
     exact ⟨(), (Ag.upd rfl (U4 rfl rfl rfl rfl (U4 rfl rfl rfl rfl (U4 rfl rfl rfl rfl (U4 rfl rfl rfl rfl (Ag.refl _ _)))))), ⟨rfl, rfl, rfl, rfl, rfl, rfl, rfl, rfl, rfl, rfl, rfl, rfl, rfl, rfl, rfl, rfl, rfl, trivial⟩, h_55⟩
   ·refine oN rfl ?_
    refine qV rfl (R.loadA [] [(64, kL.map vu32)] [(8, (hs kL hL (mg ++ bs) k).map vu32), (1, [(.slice xa xn xc)]), (1, [(vn (mg.length + n))]), (1, [(.bool true)])] (cs := kL.map vu32) rfl isAgg147 sizeOf147 (h_34.ok _ M0) rfl rfl rfl rfl) ?_
    refine WL.nil ?_
    refine ⟨(N1_2 h_34.ok), ?_⟩
    refine WT.s2 ?_ ?_
    ·refine oN rfl ?_
     refine qV rfl (R.loadA [(64, kL.map vu32)] [(8, (hs kL hL (mg ++ bs) k).map vu32)] [(1, [(.slice xa xn xc)]), (1, [(vn (mg.length + n))]), (1, [(.bool true)])] (cs := (hs kL hL (mg ++ bs) k).map vu32) rfl isAgg140 sizeOf140 (h_34.ok _ M0) rfl rfl rfl rfl) ?_
     refine WL.nil ?_
     refine ⟨(N1_2 h_34.ok), ?_⟩
     refine WT.s (oN rfl ?_)
     refine qV rfl (R.load1 rfl isAgg81 (h_34.ok _ M0) (Sg.t rfl (Sg.t rfl Sg.h))) ?_
     refine WL.nil ?_
     refine ⟨(N1_2 h_34.ok), ?_⟩
     refine qT rfl rfl (fun wq hS => R.sliceS (a := xa) (len := xn) (l := 0) (h := 64) rfl EvB.dflt (EvB.it (l := 64) rfl rfl) (by decide) (by omega) underlying81 sizeOf5) ?_
     refine WT.s (oN rfl ?_)
     refine WL.call Tryz.call95 rfl rfl (c_press (hs kL hL (mg ++ bs) k) kL (hs_len hL_len k) kL_len (slA xa 0 xc 1) xc ((((mg ++ bs).drop (64 * k)).drop 0).take 64) (subLen (K := xn) hxn (by omega) : List.length ((((mg ++ bs).drop (64 * k)).drop 0).take 64) = 64) (by omega) _ (View.slM (l := 0) (m := xc) (k := 64) (viewV (h_34.ok _ M1)) (by omega))) rfl ?_
     rintro _ w_57 ⟨rfl, hc_56⟩
     have h_58 := h_34.same hc_56
     refine WL.nil ?_
     refine ⟨(N1_2 h_58.ok), ?_⟩
     refine qT rfl rfl (fun wq hS => R.nilCheck rfl) ?_
     refine qT rfl rfl (fun wq hS => R.fieldAddr (off' := 64) rfl underlying151 rfl sizeOf140 rfl rfl) ?_
     refine WT.s (oN rfl ?_)
     refine WL.storeA [(64, kL.map vu32)] [(8, (hs kL hL (mg ++ bs) k).map vu32)] [(8, (pressL kL (hs kL hL (mg ++ bs) k) ((((mg ++ bs).drop (64 * k)).drop 0).take 64)).map vu32)] [(1, [(.slice xa xn xc)]), (1, [(vn (mg.length + n))]), (1, [(.bool true)])] h_58 rfl rfl sizeOf140 At.h (by decide) rfl rfl rfl rfl rfl rfl (sC (SOk.u32 (pressL_len ..)) sN) (fun w_59 h_60 => ?_)
     refine WL.nil ?_
     refine ⟨(N1_2 h_60.ok), ?_⟩
     refine WT.nil (thn_n ?_)
     exact ⟨(), (Ag.upd rfl (U4 rfl rfl rfl rfl (U4 rfl rfl rfl rfl (U4 rfl rfl rfl rfl (U4 rfl rfl rfl rfl (Ag.refl _ _)))))), ⟨rfl, rfl, rfl, rfl, rfl, rfl, rfl, rfl, rfl, rfl, rfl, rfl, rfl, rfl, rfl, rfl, rfl, trivial⟩, h_60⟩
    ·refine oN rfl ?_
     refine qV rfl (R.load1 rfl isAgg81 (h_34.ok _ M0) (Sg.t rfl (Sg.t rfl Sg.h))) ?_
     refine WL.nil ?_
     refine ⟨(N1_2 h_34.ok), ?_⟩
     refine qT rfl rfl (fun wq hS => R.sliceS (a := xa) (len := xn) (l := 0) (h := 64) rfl EvB.dflt (EvB.it (l := 64) rfl rfl) (by decide) (by omega) underlying81 sizeOf5) ?_
     refine WT.s (oN rfl ?_)
     refine qV rfl (R.loadA [(64, kL.map vu32)] [(8, (hs kL hL (mg ++ bs) k).map vu32)] [(1, [(.slice xa xn xc)]), (1, [(vn (mg.length + n))]), (1, [(.bool true)])] (cs := (hs kL hL (mg ++ bs) k).map vu32) rfl isAgg140 sizeOf140 (h_34.ok _ M0) rfl rfl rfl rfl) ?_
     refine WL.nil ?_
     refine ⟨(N1_2 h_34.ok), ?_⟩
     refine WT.s (oN rfl ?_)
     refine WL.call Tryz.call95 rfl rfl (c_press (hs kL hL (mg ++ bs) k) kL (hs_len hL_len k) kL_len (slA xa 0 xc 1) xc ((((mg ++ bs).drop (64 * k)).drop 0).take 64) (subLen (K := xn) hxn (by omega) : List.length ((((mg ++ bs).drop (64 * k)).drop 0).take 64) = 64) (by omega) _ (View.slM (l := 0) (m := xc) (k := 64) (viewV (h_34.ok _ M1)) (by omega))) rfl ?_
     rintro _ w_62 ⟨rfl, hc_61⟩
     have h_63 := h_34.same hc_61
     refine WL.nil ?_
     refine ⟨(N1_2 h_63.ok), ?_⟩
     refine qT rfl rfl (fun wq hS => R.nilCheck rfl) ?_
     refine qT rfl rfl (fun wq hS => R.fieldAddr (off' := 64) rfl underlying151 rfl sizeOf140 rfl rfl) ?_
     refine WT.s (oN rfl ?_)
     refine WL.storeA [(64, kL.map vu32)] [(8, (hs kL hL (mg ++ bs) k).map vu32)] [(8, (pressL kL (hs kL hL (mg ++ bs) k) ((((mg ++ bs).drop (64 * k)).drop 0).take 64)).map vu32)] [(1, [(.slice xa xn xc)]), (1, [(vn (mg.length + n))]), (1, [(.bool true)])] h_63 rfl rfl sizeOf140 At.h (by decide) rfl rfl rfl rfl rfl rfl (sC (SOk.u32 (pressL_len ..)) sN) (fun w_64 h_65 => ?_)
     refine WL.nil ?_
     refine ⟨(N1_2 h_65.ok), ?_⟩
     refine WT.nil (thn_n ?_)
     exact ⟨(), (Ag.upd rfl (U4 rfl rfl rfl rfl (U4 rfl rfl rfl rfl (U4 rfl rfl rfl rfl (U4 rfl rfl rfl rfl (Ag.refl _ _)))))), ⟨rfl, rfl, rfl, rfl, rfl, rfl, rfl, rfl, rfl, rfl, rfl, rfl, rfl, rfl, rfl, rfl, rfl, trivial⟩, h_65⟩
  ·rintro _ J_66 w_67 h_68
   refine thn_n (WP.reg ?_)
   refine qM (pO bc 0) rfl rfl (qM (pO bc 0) rfl rfl (qV rfl (R.nilCheck rfl) (qV rfl (R.fieldAddr (off' := 72) rfl underlying151 rfl sizeOf81 rfl rfl) (qV rfl (R.load1 rfl isAgg81 (h_68.ok _ M0) (Sg.t rfl (Sg.t rfl Sg.h))) (qV rfl (R.sliceS (a := xa) (len := xn) (l := 64) (h := xn) rfl (EvB.it (l := 64) rfl rfl) EvB.dflt (by omega) (by omega) underlying81 sizeOf5) ?_)))))
   have h_69 := HP.viewDrop (m := 64) (q := xc) h_68 M1 (by omega)
   refine qV rfl (R.nilCheck rfl) (qV rfl (R.fieldAddr (off' := 72) rfl underlying151 rfl sizeOf81 rfl rfl) ?_)
   refine WL.store1 h_69 rfl rfl sizeOf81 rfl Y1 (by decide) (Sg.t rfl (Sg.t rfl Sg.h)) (fun w_70 h_71 => ?_)
   refine WL.nil (inb_n (thn_n ?_))
   have h_76 := ((((h_71.up J2).drop rfl).up J2).up J1).up J2
   have es : pressL kL (hs kL hL (mg ++ bs) k) ((((mg ++ bs).drop (64 * k)).drop 0).take 64) = hs kL hL (mg ++ bs) (k + 1) := wr_step rfl
   have ed := wr_drop (mg ++ bs) k
   rw [es, ed] at h_76
   have hxf2 : ∀ b ∈ (Ent.view (slA xa 64 xc 1) (((mg ++ bs).drop (64 * (k + 1))).map vu8)).blocks, w.heap.size ≤ b := fun b hb => hxf b (view_sl_blocks (l := (mg ++ bs).drop (64 * k)) (l' := (mg ++ bs).drop (64 * (k + 1))) (fun h2 e => h2 (by rw [← ed, e]; rfl)) b hb)
   exact ⟨(k + 1, slA xa 64 xc 1, xn - 64, xc - 64), _, (by omega), (U4 rfl rfl rfl rfl (U4 rfl rfl rfl rfl (Ag.updL rfl (Ag.trans (Ag.sub rfl (Ag.mix _ _ _)) (Ag.upd rfl (Ag.upd rfl (Ag.upd rfl (Ag.upd rfl (Ag.upd rfl (Ag.upd rfl (Ag.updL rfl (Ag.mix _ _ _)))))))))))), trivial, h_76, (by rw [List.length_drop, hbl]; omega), (by omega), (by omega), hxf2, rfl⟩
 ·have p_77 := of_decide_eq_false c_31
  refine WP.exit (thn_x (thn_x (inb_hit (thn_n (WP.seq (WP.reg ?_))))))
  refine qA (vi 0) rfl rfl ?_
  refine WL.nil (thn_n (WP.ret ?_))
  refine ret_of results82 (RV.tmp (v := (vi 0)) rfl RV.nil) ?_
  have hdl2 : xn = mg.length + n - 64 * k := by rw [← hxn, List.length_drop, hbl]
  have hk2 : k = (mg ++ bs).length / 64 := by omega
  have hcl := h_28.cells M0
  have hvw := viewV (h_28.ok _ M1)
  rw [hk2] at hxn hxf hvw hcl
  rw [← hbl] at hcl
  exact ⟨rfl, h_28.chgS, xa, xn, xc, hcl, hvw, hxn, hxc, fun x hx => ⟨hxf x hx, fun e => by have h1 := hxf x hx; have h2 := hcb.2.2; rw [e] at h1; exact absurd h1 (Nat.not_le.2 h2)⟩⟩
end Go.Proofs.YtbhllplbbkmndaaGreat

namespace Go.Proofs.YtbhllplbbkmndaaGreat
open Go.Proofs.Tryz
open Go.Vc Go.Sh Go.RowKit
set_option maxRecDepth 20000

theorem c_HSum (mg : List UInt8) (ra : Option Addr) (rn rc : Nat) (hrn : (rsL mg).length = rn) (hrc : rn ≤ rc) (bc : Nat) (hm : mg.length ≤ 1000000000000) (w : World) (hvr : View w ra ((rsL mg).map vu8)) (hcb : (Ent.blk bc .ro 151 [(64, kL.map vu32), (8, (stH mg).map vu32), (1, [(.slice ra rn rc)]), (1, [(vi ((mg.length : Nat) : Int))]), (1, [(.bool true)])]).ok w.heap.size w) :
  Cs Tryz.prog 83 [(.pointer (some ⟨bc, 0, none⟩))].toArray w (fun v w1 => v = (.tuple [(.agg ⟨(sumL mg).map vu8⟩), (vi 0)].toArray) ∧ Chg w w1 []) := by
 refine Cs.of (n := 44) (args := [(pO bc 0)]) Tryz.func83 rfl rfl rfl ?_
 have h_0 := HP.init w
 have h_01 := h_0.oldV (View.arg hvr) rfl (by simp [Ent.mut])
 have h_00 := h_01.oldV hcb rfl (by simp [Ent.mut])
 have hrl := rsL_len mg
 have hpl := padL_len mg.length
 refine WP.seq (WP.reg ?_)
 refine WL.alloc (segs := [(32, (zB 32).map vu8)]) h_00 (zv typeInfo23 rfl) rfl (sC (s8 lr) sN) rfl (fun b_1 w_2 h_3 => ?_)
 refine qA (vi 0) rfl rfl ?_
 refine WL.nil (thn_n (WP.seq (WP.reg ?_)))
 refine qM (pO bc 0) rfl rfl ?_
 refine WL.call Tryz.call96 rfl rfl (c_Copy mg ra rn rc hrn (by omega) bc (by omega) _ (viewV (h_3.ok _ M2)) (h_3.argR M1)) rfl ?_
 rintro _ w_5 ⟨b_4, rfl, hc_6, hb_7, ra_8, rn_9, rc_10, hk_11, hv_12, hn_13, hq_14, hf_15⟩
 have h_16 := HP_gotHash (segs := [(64, kL.map vu32), (8, (stH mg).map vu32), (1, [(.slice ra_8 rn_9 rc_10)]), (1, [(vi ((mg.length : Nat) : Int))]), (1, [(.bool true)])]) h_3 hc_6 hb_7 (sC (SOk.u32 kL_len) (sC (SOk.u32 (stH_len mg)) (sC sV (sC sV (sC sV sN))))) hk_11 hv_12 hf_15
 refine qA (pO b_4 0) rfl rfl ?_
 refine WL.nil (thn_n (WP.seq (WP.seq (WP.reg ?_))))
 refine qM (pO b_4 0) rfl rfl (qV rfl (R.eqNilP rfl rfl underlying132) ?_)
 refine WL.nil (thn_n ?_)
 refine WP.condF rfl ?_
 refine WP.skip (thn_n (WP.seq (WP.reg ?_)))
 refine qM (pO b_4 0) rfl rfl (qM (pO bc 0) rfl rfl (qV rfl (R.nilCheck rfl) (qV rfl (R.fieldAddr (off' := 73) rfl underlying151 rfl sizeOf3 rfl rfl) (qV rfl (R.load1 rfl isAgg3 (h_16.ok _ M3) (Sg.t rfl (Sg.t rfl (Sg.t rfl Sg.h)))) ?_))))
 refine WL.call Tryz.call97 rfl rfl (c_padding mg.length (by omega) _) rfl ?_
 rintro _ w_19 ⟨a_17, cap_18, rfl, hc_20, ho_21⟩
 have h_22 := h_16.gotRow hc_20 ho_21
 have h_23 := h_22.up J1
 refine WL.call Tryz.call82 rfl rfl (c_Write mg ra_8 rn_9 rc_10 hn_13 (by omega) b_4 (by omega) a_17 ((padL mg.length).length) cap_18 (padL mg.length) (rfl : List.length (padL mg.length) = (padL mg.length).length) (by omega) (h_23.own M1).2.2.1 _ (viewV (h_23.ok _ M2)) (ownView (h_23.ok _ M1)) (h_23.arg M0) (Sep_off (m := .nw) (T := 151) (segs := [(64, kL.map vu32), (8, (stH mg).map vu32), (1, [(.slice ra_8 rn_9 rc_10)]), (1, [(vn (mg.length))]), (1, [(.bool true)])]) (by decide) (Sep.view (by decide) (fun h => h) (h_23.ne (i := 0) (j := 2) rfl rfl rfl).symm)) (Sep_off (m := .nw) (T := 151) (segs := [(64, kL.map vu32), (8, (stH mg).map vu32), (1, [(.slice ra_8 rn_9 rc_10)]), (1, [(vn (mg.length))]), (1, [(.bool true)])]) (by decide) (Sep.viewRow (h_23.ne (i := 0) (j := 1) rfl rfl rfl).symm))) rfl ?_
 rintro _ w_24 ⟨rfl, hc_25, ra_26, rn_27, rc_28, hk_29, hv_30, hn_31, hq_32, hf_33⟩
 have h_34 := HP_passedHash (segs' := [(64, kL.map vu32), (8, (stH (mg ++ (padL mg.length))).map vu32), (1, [(.slice ra_26 rn_27 rc_28)]), (1, [(vi (((mg ++ (padL mg.length)).length : Nat) : Int))]), (1, [(.bool true)])]) h_23 (by decide) hc_25 (sC (SOk.u32 kL_len) (sC (SOk.u32 (stH_len (mg ++ (padL mg.length)))) (sC sV (sC sV (sC sV sN))))) hk_29 hv_30 hf_33
 refine WL.nil (thn_n (WP.seq (WP.reg ?_)))
 refine WL.alloc (segs := [(32, (zB 32).map vu8)]) h_34 (zv typeInfo23 rfl) rfl (sC (s8 lr) sN) rfl (fun b_35 w_36 h_37 => ?_)
 refine WL.nil (thn_n (WP.seq (WP.seq (WP.reg ?_))))
 refine qM (pO b_4 0) rfl rfl (qV rfl (R.nilCheck rfl) (qV rfl (R.fieldAddr (off' := 64) rfl underlying151 rfl sizeOf140 rfl rfl) (qV rfl (R.loadA [(64, kL.map vu32)] [(8, (stH (mg ++ (padL mg.length))).map vu32)] [(1, [(.slice ra_26 rn_27 rc_28)]), (1, [(vn ((mg ++ (padL mg.length)).length))]), (1, [(.bool true)])] (cs := (stH (mg ++ (padL mg.length))).map vu32) rfl isAgg140 sizeOf140 (h_37.ok _ M2) rfl rfl rfl rfl) (qM (vi 0) rfl rfl ?_))))
 refine WL.nil (thn_n (WP.block ?_))
 refine WP.loopG (G := Nat) [6, 7, 8, 9, 26, 27, 28, 29, 30, 31, 32, 33, 34, 35, 36, 37, 38, 39, 40, 41, 42] (fun i => [(26, (vn i))]) (fun i m w1 => HP w w1 [.blk b_35 .nw 23 [(32, (mix (digL (stH (mg ++ padL mg.length))) (List.replicate 32 0) (4 * i)).map vu8)], .view ra_26 ((rsL (mg ++ (padL mg.length))).map vu8), .blk b_4 .nw 151 [(64, kL.map vu32), (8, (stH (mg ++ (padL mg.length))).map vu32), (1, [(.slice ra_26 rn_27 rc_28)]), (1, [(vn ((mg ++ (padL mg.length)).length))]), (1, [(.bool true)])], .row a_17 ((padL mg.length).length) cap_18 5 1 ((padL mg.length).map vu8), .view ra_8 ((rsL mg).map vu8), .blk b_1 .nw 23 [(32, (zB 32).map vu8)], .blk bc .ro 151 [(64, kL.map vu32), (8, (stH mg).map vu32), (1, [(.slice ra rn rc)]), (1, [(vn (mg.length))]), (1, [(.bool true)])], .view ra ((rsL mg).map vu8)] ∧ (i ≤ 8) ∧ m = 8 - i) ⟨0, _, ⟨rfl, trivial⟩, (by rw [Nat.mul_zero, mix_0]; exact h_37), (by omega), rfl⟩ ?_
 rintro i m_40 J_41 w_38 ⟨h_39, hi, rfl⟩
 have hx4 : (UInt64.ofNat (((stH (mg ++ padL mg.length))).getD i 0).toNat).toNat < 256 ^ 4 := by have h1 := (((stH (mg ++ padL mg.length))).getD i 0).toNat_lt; rw [nat64 (by omega)]; exact h1
 refine WP.seq (WP.reg ?_)
 refine qV rfl (R.bin rfl rfl (bi_lss (r := decide ((((i : Nat) : Int) : Int) < 8)) rfl)) ?_
 refine WL.nil (thn_n (WP.seq ?_))
 refine WP.cond (b := decide ((((i : Nat) : Int) : Int) < 8)) rfl (fun c_42 => ?_) (fun c_42 => ?_)
 ·have p_43 := of_decide_eq_true c_42
  refine WP.skip (thn_n (WP.seq (WP.block (WP.seq (WP.reg ?_)))))
  refine qM (vn i) rfl rfl (qV rfl (R.indexV (i := i) (cs := (stH (mg ++ (padL mg.length))).map vu32) (v := (vu32 ((stH (mg ++ (padL mg.length))).getD i 0))) rfl rfl rfl (by omega) underlying140 isAgg139 sizeOf139 (get_u32 (lt_len (K := 8) (stH_len (mg ++ (padL mg.length))) (by omega)))) (qA (vn i) rfl rfl (qA (vu32 ((stH (mg ++ (padL mg.length))).getD i 0)) rfl rfl ?_)))
  refine WL.nil (thn_n (WP.seq (WP.reg ?_)))
  refine qM (vu32 ((stH (mg ++ (padL mg.length))).getD i 0)) rfl rfl (qV rfl (R.conv (b := ((UInt64.ofNat (((stH (mg ++ (padL mg.length))).getD i 0).toNat)) : UInt64).toNat) rfl underlying139 underlying26 (w64_nat (((stH (mg ++ (padL mg.length))).getD i 0).toNat))) ?_)
  refine WL.call Tryz.call64 rfl rfl (c_Put_a (UInt64.ofNat (((stH (mg ++ (padL mg.length))).getD i 0).toNat)) 4 (by decide) (by decide) hx4 _) rfl ?_
  rintro _ w_46 ⟨a_44, cap_45, rfl, hc_47, ho_48⟩
  have h_49 := h_39.gotRow hc_47 ho_48
  refine qM (.tuple [(.slice a_44 4 cap_45), (vi 0)].toArray) rfl rfl (qV rfl (R.extract rfl rfl) (qV rfl (R.extract rfl rfl) (qA (.slice a_44 4 cap_45) rfl rfl (qA (vi 0) rfl rfl ?_))))
  refine WL.nil (thn_n ?_)
  refine WP.drawT (SL w.heap.size [.row a_44 4 cap_45 5 1 ((leN 4 (UInt64.ofNat (((stH (mg ++ (padL mg.length))).getD i 0).toNat)).toNat).map vu8), .view ra_26 ((rsL (mg ++ (padL mg.length))).map vu8), .blk b_4 .nw 151 [(64, kL.map vu32), (8, (stH (mg ++ (padL mg.length))).map vu32), (1, [(.slice ra_26 rn_27 rc_28)]), (1, [(vn ((mg ++ (padL mg.length)).length))]), (1, [(.bool true)])], .row a_17 ((padL mg.length).length) cap_18 5 1 ((padL mg.length).map vu8), .view ra_8 ((rsL mg).map vu8), .blk b_1 .nw 23 [(32, (zB 32).map vu8)], .blk bc .ro 151 [(64, kL.map vu32), (8, (stH mg).map vu32), (1, [(.slice ra rn rc)]), (1, [(vn (mg.length))]), (1, [(.bool true)])], .view ra ((rsL mg).map vu8)]) (.q 0 (.q 1 (.q 2 (.q 3 (.s 4 (.s 5 .nil)))))) (by kernel_rfl) (by kernel_rfl) rfl (by kernel_rfl) (fun w_50 hc_52 => (SL.cons ((h_49.same hc_52).ok _ M0) (SL.cons ((h_49.same hc_52).ok _ M2) (SL.cons ((h_49.same hc_52).ok _ M3) (SL.cons ((h_49.same hc_52).ok _ M4) (SL.cons ((h_49.same hc_52).ok _ M5) (SL.cons ((h_49.same hc_52).ok _ M6) (SL.cons ((h_49.same hc_52).ok _ M7) (SL.cons ((h_49.same hc_52).ok _ M8) (SL.nil _ _)))))))))) (fun w_50 hc_52 => ?_)
  have h_51 := h_49.same hc_52
  refine qT rfl rfl (fun wq hS => R.move (v := (vn i)) rfl) ?_
  refine qT rfl rfl (fun wq hS => R.bin rfl rfl (bi_mul (c := ((4 * i : Nat) : Int)) (by omega) (by omega))) ?_
  refine qT rfl rfl (fun wq hS => R.sliceA (b := b_35) (off := 0) (off' := (0 + (4 * i))) (l := 4 * i) (h := 32) rfl (EvB.it (l := 4 * i) rfl rfl) EvB.dflt (by omega) (by decide) underlying23 sizeOf5 (by rw [if_neg (by omega), Nat.mul_one])) ?_
  refine qT rfl rfl (fun wq hS => R.move (v := (.slice a_44 4 cap_45)) rfl) ?_
  refine WT.s (oN rfl ?_)
  refine WL.call Tryz.call98 rfl rfl (c_Turned a_44 4 cap_45 (leN 4 (UInt64.ofNat (((stH (mg ++ (padL mg.length))).getD i 0).toNat)).toNat) (leN_len ..) (by omega) _ (ownView (h_51.ok _ M0))) rfl ?_
  rintro _ w_55 ⟨a_53, cap_54, rfl, hc_56, ho_57⟩
  have h_58 := h_51.gotRow hc_56 ho_57
  refine WL.nil ?_
  refine ⟨(N1_3_4_5_6_7_8_9 h_58.ok), ?_⟩
  refine WT.s (oN rfl ?_)
  refine WL.copy (q := 4) (i := 4 * i) (ys := ((leN 4 (UInt64.ofNat (((stH (mg ++ (padL mg.length))).getD i 0).toNat)).toNat).reverse).map vu8) (cs' := (ovr (mix (digL (stH (mg ++ padL mg.length))) (List.replicate 32 0) (4 * i)) (4 * i) ((leN 4 (UInt64.ofNat (((stH (mg ++ (padL mg.length))).getD i 0).toNat)).toNat).reverse)).map vu8) h_58 rfl rfl underlying81 sizeOf5 (ownView (h_58.ok _ M0)) (len_map ((List.length_reverse ..).trans (leN_len ..))) (one_u8 _) Y2 (by decide) Sg.h rfl (Nat.min_eq_left (by omega)) (by rw [len_map (mix_len (digL_len _) lr)]; omega) (cpOvr ((List.length_reverse ..).trans (leN_len ..))) rfl (fun w_59 h_60 => ?_)
  refine WL.nil ?_
  refine ⟨(N1_3_4_5_6_7_8_9 h_60.ok), ?_⟩
  refine WT.nil (inb_n (thn_n (WP.reg ?_)))
  refine qV rfl (R.bin rfl rfl (bi_add (c := ((i + 1 : Nat) : Int)) (by omega) (by omega))) (qM (vn (i + 1)) rfl rfl ?_)
  refine WL.nil (thn_n ?_)
  have h_70 := (((((((((h_60.drop rfl).drop rfl).up J7).up J7).up J7).up J7).up J7).up J7).up J7).up J7
  rw [dig_ovr (by omega) _ rfl] at h_70
  exact ⟨i + 1, _, (by omega), (Ag.upd rfl (U4 rfl rfl rfl rfl (U4 rfl rfl rfl rfl (U4 rfl rfl rfl rfl (U4 rfl rfl rfl rfl (U4 rfl rfl rfl rfl (Ag.updL rfl (Ag.mix _ _ _)))))))), ⟨rfl, trivial⟩, h_70, (by omega), rfl⟩
 ·have p_71 := of_decide_eq_false c_42
  refine WP.exit (thn_x (thn_x (inb_hit (thn_n (WP.seq (WP.reg ?_))))))
  refine qV rfl (R.loadA [] [(32, (mix (digL (stH (mg ++ padL mg.length))) (List.replicate 32 0) (4 * i)).map vu8)] [] (cs := (mix (digL (stH (mg ++ padL mg.length))) (List.replicate 32 0) (4 * i)).map vu8) rfl isAgg23 sizeOf23 (h_39.ok _ M0) rfl rfl rfl rfl) ?_
  refine WL.storeA [] [(32, (zB 32).map vu8)] [(32, (mix (digL (stH (mg ++ padL mg.length))) (List.replicate 32 0) (4 * i)).map vu8)] [] h_39 rfl rfl sizeOf23 Y5 (by decide) rfl rfl rfl rfl rfl rfl (sC (s8 (mix_len (digL_len _) lr)) sN) (fun w_72 h_73 => ?_)
  refine qA (vi 0) rfl rfl ?_
  refine WL.nil (thn_n (WP.ret ?_))
  refine ret_of results83 (RV.cell rfl (h_73.loadA (cs := (mix (digL (stH (mg ++ padL mg.length))) (List.replicate 32 0) (4 * i)).map vu8) isAgg23 sizeOf23 M5 rfl rfl) (RV.tmp (v := (vi 0)) rfl RV.nil)) ?_
  have hi8 : i = 8 := by omega
  subst hi8
  have ed := dig_all (stH (mg ++ padL mg.length))
  exact ⟨by rw [show 4 * 8 = 32 from rfl, ed, sum_dig]; rfl, h_73.chgS⟩

theorem c_Sum (a : Option Addr) (n cap : Nat) (bs : List UInt8) (hl : bs.length = n) (hn : n ≤ 1000000000000) (hcap : n ≤ cap) (w : World) (hv : View w a (bs.map vu8)) :
  Cs Tryz.prog 72 [(.slice a n cap)].toArray w (fun v w1 => v = (.agg ⟨(sumL bs).map vu8⟩) ∧ Chg w w1 []) := by
 refine Cs.of (n := 16) (args := [(.slice a n cap)]) Tryz.func72 rfl rfl rfl ?_
 have h_0 := HP.init w
 have h_00 := h_0.old (View.arg hv) (fun f hf => by cases hf)
 refine WP.seq (WP.reg ?_)
 refine WL.alloc (segs := [(32, (zB 32).map vu8)]) h_00 (zv typeInfo23 rfl) rfl (sC (s8 lr) sN) rfl (fun b_1 w_2 h_3 => ?_)
 refine WL.nil (thn_n (WP.seq (WP.reg ?_)))
 refine WL.call Tryz.call81 rfl rfl (c_New _) rfl ?_
 rintro _ w_5 ⟨b_4, rfl, hc_6, hb_7, ra_8, rn_9, rc_10, hk_11, hv_12, hn_13, hq_14, hf_15⟩
 have h_16 := HP_gotHash (segs := [(64, kL.map vu32), (8, (stH ([] : List UInt8)).map vu32), (1, [(.slice ra_8 rn_9 rc_10)]), (1, [(vi ((([] : List UInt8).length : Nat) : Int))]), (1, [(.bool true)])]) h_3 hc_6 hb_7 (sC (SOk.u32 kL_len) (sC (SOk.u32 (stH_len ([] : List UInt8))) (sC sV (sC sV (sC sV sN))))) hk_11 hv_12 hf_15
 refine qA (pO b_4 0) rfl rfl ?_
 refine WL.nil (thn_n (WP.seq (WP.reg ?_)))
 refine qM (pO b_4 0) rfl rfl (qM (.slice a n cap) rfl rfl ?_)
 refine WL.call Tryz.call82 rfl rfl (c_Write ([] : List UInt8) ra_8 rn_9 rc_10 hn_13 (by omega) b_4 (by decide) a n cap bs hl (by omega) (by omega) _ (viewV (h_16.ok _ M1)) (viewV (h_16.ok _ M3)) (h_16.arg M0) (Sep_off (m := .nw) (T := 151) (segs := [(64, kL.map vu32), (8, (stH ([] : List UInt8)).map vu32), (1, [(.slice ra_8 rn_9 rc_10)]), (1, [(vn (([] : List UInt8).length))]), (1, [(.bool true)])]) (by decide) (Sep.view (by decide) (fun h => h) (h_16.ne (i := 0) (j := 1) rfl rfl rfl).symm)) (Sep_off (m := .nw) (T := 151) (segs := [(64, kL.map vu32), (8, (stH ([] : List UInt8)).map vu32), (1, [(.slice ra_8 rn_9 rc_10)]), (1, [(vn (([] : List UInt8).length))]), (1, [(.bool true)])]) (by decide) (Sep.view (by decide) (fun h => h) (h_16.ne (i := 0) (j := 3) rfl rfl rfl).symm))) rfl ?_
 rintro _ w_17 ⟨rfl, hc_18, ra_19, rn_20, rc_21, hk_22, hv_23, hn_24, hq_25, hf_26⟩
 have h_27 := HP_passedHash (segs' := [(64, kL.map vu32), (8, (stH bs).map vu32), (1, [(.slice ra_19 rn_20 rc_21)]), (1, [(vi ((bs.length : Nat) : Int))]), (1, [(.bool true)])]) h_16 (by decide) hc_18 (sC (SOk.u32 kL_len) (sC (SOk.u32 (stH_len bs)) (sC sV (sC sV (sC sV sN))))) hk_22 hv_23 hf_26
 refine WL.nil (thn_n (WP.seq (WP.reg ?_)))
 refine qM (pO b_4 0) rfl rfl ?_
 refine WL.call Tryz.call83 rfl rfl (c_HSum bs ra_19 rn_20 rc_21 hn_24 (by omega) b_4 (by omega) _ (viewV (h_27.ok _ M0)) (h_27.argR M1)) rfl ?_
 rintro _ w_29 ⟨rfl, hc_28⟩
 have h_30 := h_27.same hc_28
 refine qM (.tuple [(.agg ⟨(sumL bs).map vu8⟩), (vi 0)].toArray) rfl rfl (qV rfl (R.extract rfl rfl) (qV rfl (R.extract rfl rfl) ?_))
 refine WL.alloc (segs := [(32, (zB 32).map vu8)]) h_30 (zv typeInfo23 rfl) rfl (sC (s8 lr) sN) rfl (fun b_31 w_32 h_33 => ?_)
 refine WL.storeA [] [(32, (zB 32).map vu8)] [(32, (sumL bs).map vu8)] [] h_33 rfl rfl sizeOf23 At.h (by decide) rfl rfl rfl rfl rfl rfl (sC (s8 (sumL_len _)) sN) (fun w_34 h_35 => ?_)
 refine qA (vi 0) rfl rfl ?_
 refine WL.nil (thn_n (WP.seq (WP.reg ?_)))
 refine qV rfl (R.loadA [] [(32, (sumL bs).map vu8)] [] (cs := (sumL bs).map vu8) rfl isAgg23 sizeOf23 (h_35.ok _ M0) rfl rfl rfl rfl) ?_
 refine WL.storeA [] [(32, (zB 32).map vu8)] [(32, (sumL bs).map vu8)] [] h_35 rfl rfl sizeOf23 Y4 (by decide) rfl rfl rfl rfl rfl rfl (sC (s8 (sumL_len _)) sN) (fun w_36 h_37 => ?_)
 refine WL.nil (thn_n (WP.ret ?_))
 refine ret_of results72 (RV.cell rfl (h_37.loadA (cs := (sumL bs).map vu8) isAgg23 sizeOf23 M4 rfl rfl) RV.nil) ?_
 exact ⟨rfl, h_37.chgS⟩
end Go.Proofs.YtbhllplbbkmndaaGreat

namespace Go.Sh
open Go.Vc
def padK (k : List UInt8) : List UInt8 := k ++ List.replicate (64 - k.length) 0
theorem padK_len {k : List UInt8} {n : Nat} (hl : k.length = n) (h : n ≤ 64) : (padK k).length = 64 := by rw [padK, List.length_append, List.length_replicate]; omega
def xm (m : UInt8) (l : List UInt8) : List UInt8 := l.map fun x => x ^^^ m
theorem xm_len (m : UInt8) (l : List UInt8) : (xm m l).length = l.length := by simp [xm]
theorem xm_get {m : UInt8} {l : List UInt8} {i : Nat} (hi : i < l.length) : (xm m l).getD i 0 = l.getD i 0 ^^^ m := by simp [xm, hi]
theorem xm_snoc {m : UInt8} {l : List UInt8} {j : Nat} (hj : j < l.length) : (xm m l).take j ++ ([l.getD j 0 ^^^ m] : List UInt8) = (xm m l).take (j + 1) := by
  rw [← xm_get hj, ← take_snoc _ _ _ (by rw [xm_len]; exact hj)]
theorem xm_step {m : UInt8} {l : List UInt8} {i n : Nat} (hl : l.length = n) (hi : i < n) : (mix (xm m l) l i).set i ((mix (xm m l) l i).getD i 0 ^^^ m) = mix (xm m l) l (i + 1) := by
  have hx : (xm m l).length = n := by rw [xm_len, hl]
  rw [mix_get hx hi, ← xm_get (by omega)]
  exact mix_set hx hl hi
theorem xm_all {m : UInt8} {l : List UInt8} {n : Nat} (hl : l.length = n) : mix (xm m l) l n = xm m l := mix_all (by rw [xm_len, hl]) hl (Nat.le_refl _)
theorem ovr_pad {k : List UInt8} {n : Nat} (hl : k.length = n) : ovr (List.replicate 64 (0 : UInt8)) 0 k = padK k := by
  rw [ovr, padK, List.take_zero, List.nil_append, Nat.zero_add, List.drop_replicate]
theorem flat2 (a b : List UInt8) : [a, b].flatten = a ++ b := by simp
def tagK (k b : List UInt8) : List UInt8 := sumL (xm 92 (padK k) ++ sumL (xm 54 (padK k) ++ b))
def tagL (key b : List UInt8) : List UInt8 := if 64 < key.length then tagK (sumL key) b else tagK key b
theorem tagK_len (k b : List UInt8) : (tagK k b).length = 32 := sumL_len _
theorem tagL_len (key b : List UInt8) : (tagL key b).length = 32 := by rw [tagL]; split <;> exact tagK_len _ _
theorem tag_s {key b : List UInt8} {n : Nat} (hl : key.length = n) (h : ¬ 64 < n) : tagL key b = tagK key b := if_neg (by omega)
theorem tag_l {key b : List UInt8} {n : Nat} (hl : key.length = n) (h : 64 < n) : tagL key b = tagK (sumL key) b := if_pos (by omega)
theorem pad_z {k : List UInt8} {n z : Nat} (hl : k.length = n) (h : n + z = 64) : k ++ List.replicate z (0 : UInt8) = padK k := by
  rw [padK, show 64 - k.length = z by omega]
def difN (a b : List UInt8) : Nat → UInt8
  | 0 => 0
  | i + 1 => difN a b i ||| (a.getD i 0 ^^^ b.getD i 0)
def deriveL (key l : List UInt8) (x : UInt64) : List UInt8 := tagL key (Go.Wr.packL [l, leN 8 x.toNat])
def kfL (key l : List UInt8) : Nat → List UInt8
  | 0 => []
  | k + 1 => kfL key l k ++ deriveL key l (UInt64.ofNat k)
end Go.Sh
namespace Go.Vc
section
variable {P : Program} {F : Fr} {w : World}
variable {ty : TypeId} {pos : String} {after : Array Edge} {dst : Option Tmp} {g : Option (Nat × Bool)}
end
end Go.Vc
namespace Go.Sh
open Go.Vc
def halfL (d : List UInt8) (c : Nat) : List UInt8 := (d.drop c).take 16
def K11 : List UInt8 := List.replicate 20 11
end Go.Sh

namespace Go.Proofs.YtbhllplbbkmndaaGreat
open Go.Proofs.Tryz
open Go.Vc Go.Sh Go.RowKit
set_option maxRecDepth 20000

theorem c_Tag1 (mk : UInt8) (key : List UInt8) (ak : Option Addr) (nk ck : Nat) (hkl : key.length = nk) (hk64 : nk ≤ 64) (bc : Nat) (a2 : Option Addr) (n2 cap2 : Nat) (bs2 : List UInt8) (hl2 : bs2.length = n2) (hcap2 : n2 ≤ cap2) (hn2 : n2 ≤ 100000000000) (w : World) (hvk : View w ak (key.map vu8)) (hcb : (Ent.blk bc .ro 81 [(1, [(.slice ak nk ck)])]).ok w.heap.size w) (hv2 : View w a2 (bs2.map vu8)) :
  Cs Tryz.prog 84 [(vu8 mk), (.slice a2 n2 cap2), (.pointer (some ⟨bc, 0, none⟩))].toArray w (fun v w1 => v = (.agg ⟨(sumL (xm mk (padK key) ++ bs2)).map vu8⟩) ∧ Chg w w1 []) := by
 refine Cs.of (n := 26) (args := [(vu8 mk), (.slice a2 n2 cap2), (pO bc 0)]) Tryz.func84 rfl rfl rfl ?_
 have h_0 := HP.init w
 have h_01 := h_0.oldV (View.arg hvk) rfl (by simp [Ent.mut])
 have h_02 := h_01.oldV hcb rfl (by simp [Ent.mut])
 have h_00 := h_02.oldV (View.arg hv2) rfl (by simp [Ent.mut])
 have hfl : ([xm mk (padK key), bs2].flatten).length = 64 + n2 := by rw [flat2, List.length_append, xm_len, (padK_len hkl hk64), hl2]
 refine WP.seq (WP.reg ?_)
 refine WL.alloc (segs := [(32, (zB 32).map vu8)]) h_00 (zv typeInfo23 rfl) rfl (sC (s8 lr) sN) rfl (fun b_1 w_2 h_3 => ?_)
 refine WL.nil (thn_n (WP.seq (WP.reg ?_)))
 refine WL.alloc (segs := [(64, (zB 64).map vu8)]) h_3 (zv typeInfo136 rfl) rfl (sC (s8 lr) sN) rfl (fun b_4 w_5 h_6 => ?_)
 refine WL.nil (thn_n (WP.seq ?_))
 refine WP.drawT (SL w.heap.size [.blk b_1 .nw 23 [(32, (zB 32).map vu8)], .view a2 (bs2.map vu8), .blk bc .ro 81 [(1, [(.slice ak nk ck)])], .view ak (key.map vu8)]) (.q 0 (.q 1 (.s 2 .nil))) (by kernel_rfl) (by kernel_rfl) rfl (by kernel_rfl) (fun w_7 hc_9 => (SL.cons ((h_6.same hc_9).ok _ M1) (SL.cons ((h_6.same hc_9).ok _ M2) (SL.cons ((h_6.same hc_9).ok _ M3) (SL.cons ((h_6.same hc_9).ok _ M4) (SL.nil _ _)))))) (fun w_7 hc_9 => ?_)
 have h_8 := h_6.same hc_9
 refine qT rfl rfl (fun wq hS => R.sliceA (b := b_4) (off := 0) (off' := 0) (l := 0) (h := 64) rfl EvB.dflt EvB.dflt (by decide) (by decide) underlying136 sizeOf5 rfl) ?_
 refine qT rfl rfl (fun wq hS => R.load1 rfl isAgg81 (hS _ M2) Sg.h) ?_
 refine WT.s (oN rfl ?_)
 refine WL.copy (q := nk) (i := 0) (ys := key.map vu8) (cs' := (ovr (zB 64) 0 key).map vu8) h_8 rfl rfl underlying81 sizeOf5 (viewV (h_8.ok _ M4)) (len_map hkl) (one_u8 _) At.h (by decide) Sg.h rfl (Nat.min_eq_left (by omega)) (by rw [len_map lr]; omega) (cpOvr hkl) rfl (fun w_10 h_11 => ?_)
 refine WL.nil ?_
 refine ⟨(N1_2_3_4 h_11.ok), ?_⟩
 refine WT.nil (thn_n (WP.seq (WP.seq (WP.reg ?_))))
 refine qM (vi 0) rfl rfl ?_
 refine WL.nil (thn_n (WP.block ?_))
 rw [ovr_pad hkl] at h_11
 refine WP.loopG (G := Nat) [7, 11, 12, 13, 14, 15, 16, 17, 18, 19, 20] (fun i => [(11, (vn i))]) (fun i m w1 => HP w w1 [.blk b_4 .nw 136 [(64, (mix (xm mk (padK key)) (padK key) i).map vu8)], .blk b_1 .nw 23 [(32, (zB 32).map vu8)], .view a2 (bs2.map vu8), .blk bc .ro 81 [(1, [(.slice ak nk ck)])], .view ak (key.map vu8)] ∧ (i ≤ 64) ∧ m = 64 - i) ⟨0, _, ⟨rfl, trivial⟩, (by rw [mix_0]; exact h_11), (by omega), rfl⟩ ?_
 rintro i m_14 J_15 w_12 ⟨h_13, hi, rfl⟩
 refine WP.seq (WP.reg ?_)
 refine qV rfl (R.bin rfl rfl (bi_lss (r := decide ((((i : Nat) : Int) : Int) < 64)) rfl)) ?_
 refine WL.nil (thn_n (WP.seq ?_))
 refine WP.cond (b := decide ((((i : Nat) : Int) : Int) < 64)) rfl (fun c_16 => ?_) (fun c_16 => ?_)
 ·have p_17 := of_decide_eq_true c_16
  refine WP.skip (thn_n (WP.seq (WP.block (WP.seq (WP.reg ?_)))))
  refine qM (vn i) rfl rfl (qA (vn i) rfl rfl ?_)
  refine WL.nil (thn_n (WP.reg ?_))
  refine qM (vn i) rfl rfl (qV rfl (R.indexA (b := b_4) (off := 0) (off' := (0 + i)) (i := i) rfl rfl rfl (by omega) underlying136 sizeOf5 (by rw [Nat.mul_one])) (qV rfl (R.loadE (b := b_4) (off := (0 + i)) (i := i) (v := (vu8 ((mix (xm mk (padK key)) (padK key) i).getD i 0))) rfl isAgg5 (h_13.ok _ M0) Sg.h rfl (get_u8 (lt_len (K := 64) (mix_len ((xm_len _ _).trans (padK_len hkl hk64)) (padK_len hkl hk64)) (by omega)))) (qM (vu8 mk) rfl rfl (qV rfl (R.bin rfl rfl (b8_xor ((mix (xm mk (padK key)) (padK key) i).getD i 0) mk)) (qV rfl (R.indexA (b := b_4) (off := 0) (off' := (0 + i)) (i := i) rfl rfl rfl (by omega) underlying136 sizeOf5 (by rw [Nat.mul_one])) ?_)))))
  refine WL.storeE (b := b_4) (off := (0 + i)) (i := i) (v := (vu8 (((mix (xm mk (padK key)) (padK key) i).getD i 0) ^^^ mk))) (cs' := ((mix (xm mk (padK key)) (padK key) i).set i (((mix (xm mk (padK key)) (padK key) i).getD i 0) ^^^ mk)).map vu8) h_13 rfl rfl sizeOf5 rfl At.h (by decide) Sg.h rfl (lt_len (K := 64) (len_map (mix_len ((xm_len _ _).trans (padK_len hkl hk64)) (padK_len hkl hk64))) (by omega)) (set_u8 _ _ _) (fun w_18 h_19 => ?_)
  refine WL.nil (inb_n (thn_n (WP.reg ?_)))
  refine qV rfl (R.bin rfl rfl (bi_add (c := ((i + 1 : Nat) : Int)) (by omega) (by omega))) (qM (vn (i + 1)) rfl rfl ?_)
  refine WL.nil (thn_n ?_)
  have h_24 := ((((h_19.up J4).up J4).up J4).up J4).up J4
  rw [xm_step (padK_len hkl hk64) (by omega)] at h_24
  exact ⟨i + 1, _, (by omega), (Ag.upd rfl (U2 rfl rfl (U4 rfl rfl rfl rfl (U4 rfl rfl rfl rfl (Ag.updL rfl (Ag.mix _ _ _)))))), ⟨rfl, trivial⟩, h_24, (by omega), rfl⟩
 ·have p_25 := of_decide_eq_false c_16
  refine WP.exit (thn_x (thn_x (inb_hit (thn_n (WP.seq (WP.reg ?_))))))
  have hi64 : i = 64 := by omega
  subst hi64
  rw [xm_all (padK_len hkl hk64)] at h_13
  refine qV rfl (R.sliceA (b := b_4) (off := 0) (off' := 0) (l := 0) (h := 64) rfl EvB.dflt EvB.dflt (by decide) (by decide) underlying136 sizeOf5 rfl) (qM (.slice a2 n2 cap2) rfl rfl ?_)
  refine WL.buildSl (vs := [(0, (.slice (some ⟨b_4, 0, none⟩) 64 64)), (1, (.slice a2 n2 cap2))]) (cs := [(.slice (some ⟨b_4, 0, none⟩) 64 64), (.slice a2 n2 cap2)]) h_13 underlying85 sizeOf81 (zv typeInfo81 rfl) rfl rfl (by kernel_rfl) rfl (by simp [Value.oneCell']) rfl rfl (fun b_26 w_27 h_28 => ?_)
  refine WL.call Tryz.call85 rfl rfl (c_wJoin (some ⟨b_26, 0, none⟩) 2 2 [(.slice (some ⟨b_4, 0, none⟩) 64 64), (.slice a2 n2 cap2)] [xm mk (padK key), bs2] rfl (by omega) (by omega) _ (viewB (h_28.ok _ M0) Sg.h) (Sls.cons ((xm_len _ _).trans (padK_len hkl hk64)) (by decide) (viewB (h_28.ok _ M1) Sg.h) (Sls.cons hl2 (by omega) (viewV (h_28.ok _ M3)) Sls.nil))) rfl ?_
  rintro _ w_31 ⟨a_29, cap_30, rfl, hc_32, ho_33⟩
  have h_34 := h_28.gotRow hc_32 ho_33
  refine WL.call Tryz.call72 rfl rfl (c_Sum a_29 ([xm mk (padK key), bs2].flatten.length) cap_30 ([xm mk (padK key), bs2].flatten) (rfl : List.length ([xm mk (padK key), bs2].flatten) = [xm mk (padK key), bs2].flatten.length) (by omega) (h_34.own M0).2.2.1 _ (ownView (h_34.ok _ M0))) rfl ?_
  rintro _ w_36 ⟨rfl, hc_35⟩
  have h_37 := h_34.same hc_35
  refine WL.storeA [] [(32, (zB 32).map vu8)] [(32, (sumL ([xm mk (padK key), bs2].flatten)).map vu8)] [] h_37 rfl rfl sizeOf23 Y3 (by decide) rfl rfl rfl rfl rfl rfl (sC (s8 (sumL_len _)) sN) (fun w_38 h_39 => ?_)
  refine WL.nil (thn_n (WP.ret ?_))
  refine ret_of results84 (RV.cell rfl (h_39.loadA (cs := (sumL ([xm mk (padK key), bs2].flatten)).map vu8) isAgg23 sizeOf23 M3 rfl rfl) RV.nil) ?_
  exact ⟨by rw [flat2]; rfl, h_39.chgS⟩

theorem c_Tag_s (a : Option Addr) (n cap : Nat) (key : List UInt8) (hl : key.length = n) (hcap : n ≤ cap) (hn : n ≤ 100000000000) (a2 : Option Addr) (n2 cap2 : Nat) (bs2 : List UInt8) (hl2 : bs2.length = n2) (hcap2 : n2 ≤ cap2) (hn2 : n2 ≤ 100000000000) (h : ¬ 64 < n) (w : World) (hv : View w a (key.map vu8)) (hv2 : View w a2 (bs2.map vu8)) :
  Cs Tryz.prog 74 [(.slice a n cap), (.slice a2 n2 cap2)].toArray w (fun v w1 => v = (.agg ⟨(tagL key bs2).map vu8⟩) ∧ Chg w w1 []) := by
 refine Cs.of (n := 21) (args := [(.slice a n cap), (.slice a2 n2 cap2)]) Tryz.func74 rfl rfl rfl ?_
 have h_0 := HP.init w
 have h_01 := h_0.oldV (View.arg hv) rfl (by simp [Ent.mut])
 have h_00 := h_01.oldV (View.arg hv2) rfl (by simp [Ent.mut])
 refine WP.seq (WP.reg ?_)
 refine WL.box (segs := [(1, [(.slice a n cap)])]) h_00 rfl rfl (sC sV sN) rfl (fun b_1 w_2 h_3 => ?_)
 refine WL.alloc (segs := [(32, (zB 32).map vu8)]) h_3 (zv typeInfo23 rfl) rfl (sC (s8 lr) sN) rfl (fun b_4 w_5 h_6 => ?_)
 refine WL.nil (thn_n (WP.seq (WP.seq (WP.reg ?_))))
 refine qV rfl (R.load1 rfl isAgg81 (h_6.ok _ M1) Sg.h) (qV rfl (R.lenS (a := a) (m := n) rfl rfl underlying81) (qV rfl (R.bin rfl rfl (bi_gtr (r := decide ((((n : Nat) : Int) : Int) > 64)) rfl)) ?_))
 refine WL.nil (thn_n ?_)
 refine WP.condF (congrArg Value.bool (decide_eq_false (by omega))) ?_
 refine WP.skip (thn_n (WP.seq (WP.reg ?_)))
 refine qV rfl (R.makeFuncL (fi := []) (ca := [(pO b_1 0)]) rfl rfl) (qA (Value.func (Fn.func 84) [].toArray [(Value.pointer (some ⟨b_1, 0, none⟩))].toArray) rfl rfl ?_)
 refine WL.nil (thn_n (WP.seq (WP.reg ?_)))
 refine qM (Value.func (Fn.func 84) [].toArray [(Value.pointer (some ⟨b_1, 0, none⟩))].toArray) rfl rfl (qM (.slice a2 n2 cap2) rfl rfl ?_)
 refine WL.call Tryz.call84 rfl rfl (c_Tag1 (54 : UInt8) key a n cap hl (by omega) b_1 a2 n2 cap2 bs2 hl2 (by omega) (by omega) _ (viewV (h_6.ok _ M3)) (h_6.argR M1) (viewV (h_6.ok _ M2))) rfl ?_
 rintro _ w_8 ⟨rfl, hc_7⟩
 have h_9 := h_6.same hc_7
 refine WL.alloc (segs := [(32, (zB 32).map vu8)]) h_9 (zv typeInfo23 rfl) rfl (sC (s8 lr) sN) rfl (fun b_10 w_11 h_12 => ?_)
 refine WL.storeA [] [(32, (zB 32).map vu8)] [(32, (sumL (xm (54 : UInt8) (padK key) ++ bs2)).map vu8)] [] h_12 rfl rfl sizeOf23 At.h (by decide) rfl rfl rfl rfl rfl rfl (sC (s8 (sumL_len _)) sN) (fun w_13 h_14 => ?_)
 refine WL.nil (thn_n (WP.seq (WP.reg ?_)))
 refine qM (Value.func (Fn.func 84) [].toArray [(Value.pointer (some ⟨b_1, 0, none⟩))].toArray) rfl rfl (qV rfl (R.sliceA (b := b_10) (off := 0) (off' := 0) (l := 0) (h := 32) rfl EvB.dflt EvB.dflt (by decide) (by decide) underlying23 sizeOf5 rfl) ?_)
 refine WL.call Tryz.call84 rfl rfl (c_Tag1 (92 : UInt8) key a n cap hl (by omega) b_1 (some ⟨b_10, 0, none⟩) 32 32 (sumL (xm (54 : UInt8) (padK key) ++ bs2)) (sumL_len _) (by decide) (by omega) _ (viewV (h_14.ok _ M4)) (h_14.argR M2) (viewB (h_14.ok _ M0) Sg.h)) rfl ?_
 rintro _ w_16 ⟨rfl, hc_15⟩
 have h_17 := h_14.same hc_15
 refine WL.storeA [] [(32, (zB 32).map vu8)] [(32, (sumL (xm (92 : UInt8) (padK key) ++ (sumL (xm (54 : UInt8) (padK key) ++ bs2)))).map vu8)] [] h_17 rfl rfl sizeOf23 Y1 (by decide) rfl rfl rfl rfl rfl rfl (sC (s8 (sumL_len _)) sN) (fun w_18 h_19 => ?_)
 refine WL.nil (thn_n (WP.ret ?_))
 refine ret_of results74 (RV.cell rfl (h_19.loadA (cs := (sumL (xm (92 : UInt8) (padK key) ++ (sumL (xm (54 : UInt8) (padK key) ++ bs2)))).map vu8) isAgg23 sizeOf23 M1 rfl rfl) RV.nil) ?_
 exact ⟨by rw [tag_s hl h]; rfl, h_19.chgS⟩

theorem c_Tag_l (a : Option Addr) (n cap : Nat) (key : List UInt8) (hl : key.length = n) (hcap : n ≤ cap) (hn : n ≤ 100000000000) (a2 : Option Addr) (n2 cap2 : Nat) (bs2 : List UInt8) (hl2 : bs2.length = n2) (hcap2 : n2 ≤ cap2) (hn2 : n2 ≤ 100000000000) (h : 64 < n) (w : World) (hv : View w a (key.map vu8)) (hv2 : View w a2 (bs2.map vu8)) :
  Cs Tryz.prog 74 [(.slice a n cap), (.slice a2 n2 cap2)].toArray w (fun v w1 => v = (.agg ⟨(tagL key bs2).map vu8⟩) ∧ Chg w w1 []) := by
 refine Cs.of (n := 21) (args := [(.slice a n cap), (.slice a2 n2 cap2)]) Tryz.func74 rfl rfl rfl ?_
 have h_0 := HP.init w
 have h_01 := h_0.oldV (View.arg hv) rfl (by simp [Ent.mut])
 have h_00 := h_01.oldV (View.arg hv2) rfl (by simp [Ent.mut])
 refine WP.seq (WP.reg ?_)
 refine WL.box (segs := [(1, [(.slice a n cap)])]) h_00 rfl rfl (sC sV sN) rfl (fun b_1 w_2 h_3 => ?_)
 refine WL.alloc (segs := [(32, (zB 32).map vu8)]) h_3 (zv typeInfo23 rfl) rfl (sC (s8 lr) sN) rfl (fun b_4 w_5 h_6 => ?_)
 refine WL.nil (thn_n (WP.seq (WP.seq (WP.reg ?_))))
 refine qV rfl (R.load1 rfl isAgg81 (h_6.ok _ M1) Sg.h) (qV rfl (R.lenS (a := a) (m := n) rfl rfl underlying81) (qV rfl (R.bin rfl rfl (bi_gtr (r := decide ((((n : Nat) : Int) : Int) > 64)) rfl)) ?_))
 refine WL.nil (thn_n ?_)
 refine WP.condT (congrArg Value.bool (decide_eq_true (by omega))) ?_
 refine WP.seq (WP.reg ?_)
 refine qV rfl (R.load1 rfl isAgg81 (h_6.ok _ M1) Sg.h) ?_
 refine WL.call Tryz.call72 rfl rfl (c_Sum a n cap key hl (by omega) (by omega) _ (viewV (h_6.ok _ M3))) rfl ?_
 rintro _ w_8 ⟨rfl, hc_7⟩
 have h_9 := h_6.same hc_7
 refine WL.alloc (segs := [(32, (zB 32).map vu8)]) h_9 (zv typeInfo23 rfl) rfl (sC (s8 lr) sN) rfl (fun b_10 w_11 h_12 => ?_)
 refine WL.storeA [] [(32, (zB 32).map vu8)] [(32, (sumL key).map vu8)] [] h_12 rfl rfl sizeOf23 At.h (by decide) rfl rfl rfl rfl rfl rfl (sC (s8 (sumL_len _)) sN) (fun w_13 h_14 => ?_)
 refine WL.nil (thn_n (WP.reg ?_))
 refine qV rfl (R.sliceA (b := b_10) (off := 0) (off' := 0) (l := 0) (h := 32) rfl EvB.dflt EvB.dflt (by decide) (by decide) underlying23 sizeOf5 rfl) ?_
 refine WL.store1 h_14 rfl rfl sizeOf81 rfl Y2 (by decide) Sg.h (fun w_15 h_16 => ?_)
 refine WL.nil (thn_n (WP.seq (WP.reg ?_)))
 refine qV rfl (R.makeFuncL (fi := []) (ca := [(pO b_1 0)]) rfl rfl) (qA (Value.func (Fn.func 84) [].toArray [(Value.pointer (some ⟨b_1, 0, none⟩))].toArray) rfl rfl ?_)
 refine WL.nil (thn_n (WP.seq (WP.reg ?_)))
 refine qM (Value.func (Fn.func 84) [].toArray [(Value.pointer (some ⟨b_1, 0, none⟩))].toArray) rfl rfl (qM (.slice a2 n2 cap2) rfl rfl ?_)
 refine WL.call Tryz.call84 rfl rfl (c_Tag1 (54 : UInt8) (sumL key) (some ⟨b_10, 0, none⟩) 32 32 (sumL_len _) (by omega) b_1 a2 n2 cap2 bs2 hl2 (by omega) (by omega) _ (viewB (h_16.ok _ M0) Sg.h) (h_16.argR M2) (viewV (h_16.ok _ M3))) rfl ?_
 rintro _ w_18 ⟨rfl, hc_17⟩
 have h_19 := h_16.same hc_17
 refine WL.alloc (segs := [(32, (zB 32).map vu8)]) h_19 (zv typeInfo23 rfl) rfl (sC (s8 lr) sN) rfl (fun b_20 w_21 h_22 => ?_)
 refine WL.storeA [] [(32, (zB 32).map vu8)] [(32, (sumL (xm (54 : UInt8) (padK (sumL key)) ++ bs2)).map vu8)] [] h_22 rfl rfl sizeOf23 At.h (by decide) rfl rfl rfl rfl rfl rfl (sC (s8 (sumL_len _)) sN) (fun w_23 h_24 => ?_)
 refine WL.nil (thn_n (WP.seq (WP.reg ?_)))
 refine qM (Value.func (Fn.func 84) [].toArray [(Value.pointer (some ⟨b_1, 0, none⟩))].toArray) rfl rfl (qV rfl (R.sliceA (b := b_20) (off := 0) (off' := 0) (l := 0) (h := 32) rfl EvB.dflt EvB.dflt (by decide) (by decide) underlying23 sizeOf5 rfl) ?_)
 refine WL.call Tryz.call84 rfl rfl (c_Tag1 (92 : UInt8) (sumL key) (some ⟨b_10, 0, none⟩) 32 32 (sumL_len _) (by omega) b_1 (some ⟨b_20, 0, none⟩) 32 32 (sumL (xm (54 : UInt8) (padK (sumL key)) ++ bs2)) (sumL_len _) (by decide) (by omega) _ (viewB (h_24.ok _ M1) Sg.h) (h_24.argR M3) (viewB (h_24.ok _ M0) Sg.h)) rfl ?_
 rintro _ w_26 ⟨rfl, hc_25⟩
 have h_27 := h_24.same hc_25
 refine WL.storeA [] [(32, (zB 32).map vu8)] [(32, (sumL (xm (92 : UInt8) (padK (sumL key)) ++ (sumL (xm (54 : UInt8) (padK (sumL key)) ++ bs2)))).map vu8)] [] h_27 rfl rfl sizeOf23 Y2 (by decide) rfl rfl rfl rfl rfl rfl (sC (s8 (sumL_len _)) sN) (fun w_28 h_29 => ?_)
 refine WL.nil (thn_n (WP.ret ?_))
 refine ret_of results74 (RV.cell rfl (h_29.loadA (cs := (sumL (xm (92 : UInt8) (padK (sumL key)) ++ (sumL (xm (54 : UInt8) (padK (sumL key)) ++ bs2)))).map vu8) isAgg23 sizeOf23 M2 rfl rfl) RV.nil) ?_
 exact ⟨by rw [tag_l hl h]; rfl, h_29.chgS⟩

theorem c_Tag (a : Option Addr) (n cap : Nat) (key : List UInt8) (hl : key.length = n) (hcap : n ≤ cap) (hn : n ≤ 100000000000) (a2 : Option Addr) (n2 cap2 : Nat) (bs2 : List UInt8) (hl2 : bs2.length = n2) (hcap2 : n2 ≤ cap2) (hn2 : n2 ≤ 100000000000) (w : World) (hv : View w a (key.map vu8)) (hv2 : View w a2 (bs2.map vu8)) : Cs Tryz.prog 74 [.slice a n cap, .slice a2 n2 cap2].toArray w (fun v w1 => v = (.agg ⟨(tagL key bs2).map vu8⟩) ∧ Chg w w1 []) := by
 by_cases h : 64 < n
 ·exact c_Tag_l a n cap key hl hcap hn a2 n2 cap2 bs2 hl2 hcap2 hn2 h w hv hv2
 ·exact c_Tag_s a n cap key hl hcap hn a2 n2 cap2 bs2 hl2 hcap2 hn2 h w hv hv2
end Go.Proofs.YtbhllplbbkmndaaGreat

namespace Go.Vc
open Go.RowKit Go.WideShapes
section
variable {P : Program} {F : Fr} {w w' w0 : World} {L : List Ent}
variable {ty : TypeId} {pos : String} {after : Array Edge} {dst : Option Tmp} {g : Option (Nat × Bool)}
theorem agg_formed {t : TypeId} {cs : List Value} (hu : aggB P t = true) (hl : cs.length = P.cellsOf t) : (Value.agg ⟨cs⟩).formed P t = true := by
  unfold aggB at hu
  unfold Value.formed
  split at hu <;> simp_all
theorem Ck.agg {K : TypeId} {m h : Nat} {cs : List Value} (hk : P.keyTypeAt m K = true) (hm : Nat.ble m 10000 = true) (hu : aggB P K = true) (t : Typ P h K cs) : Ck P K (.agg ⟨cs⟩) := by
  intro b w
  have hm' := Nat.le_of_ble_eq_true hm
  have := run_checkKey_deep (P := P) b (10000 - m) m K hk w _ (.agg ⟨cs⟩) _ (agg_formed hu t.len) (t.lits h (Nat.le_refl _))
  rwa [show 10000 - m + m = 10000 by omega] at this
def fdx {α : Type} [DecidableEq α] (q : α) : List (α × Value × Nat) → Nat → Option (Nat × Value)
  | [], _ => none
  | e :: r, i => if e.1 = q then some (i, e.2.1) else fdx q r (i + 1)
def ents {α : Type} (kf : α → List Value) (es : List (α × Value × Nat)) : List MapEntry := es.map fun e => { key := .agg ⟨kf e.1⟩, val := e.2.1, born := e.2.2 }
theorem run_asking {α : Type} [DecidableEq α] {kf : α → List Value} {K : TypeId} {m h : Nat} {q : α} (hk : P.keyTypeAt m K = true) (hm : Nat.ble m 10000 = true) (hu : aggB P K = true) (t : Typ P h K (kf q)) (w : World) :
    ∀ (es : List (α × Value × Nat)) (i : Nat), (∀ e ∈ es, Typ P h K (kf e.1) ∧ (kf e.1 = kf q → e.1 = q)) → (Instr.findAsking K (.agg ⟨kf q⟩) (ents kf es) i).run P w = .ok (fdx q es i) w
  | [], i, _ => by simp [ents, Instr.findAsking, fdx]
  | e :: es, i, hall => by
    obtain ⟨te, hinj⟩ := hall e (by simp)
    obtain ⟨r, hr, hiff⟩ := equal_of (w := w) hk (Nat.le_of_ble_eq_true hm) hu t te
    have hr' : (Op.equal K (.agg ⟨kf q⟩) (.agg ⟨kf e.1⟩)).run P w = .ok r w := hr
    by_cases he : e.1 = q
    · have : r = true := hiff.2 (by rw [he])
      subst this
      rw [he] at hr'
      simp [ents, Instr.findAsking, hr', he, fdx]
    · have : r = false := by
        cases r with
        | false => rfl
        | true => exact absurd (hinj (hiff.1 rfl).symm) he
      subst this
      have ih := run_asking hk hm hu t w es (i + 1) (fun y hy => hall y (by simp [hy]))
      simp only [ents] at ih
      simp only [ents, List.map_cons, Instr.findAsking, Sem.run_bind, hr', Result.andThen_ok, Bool.false_eq_true, if_false, ih, fdx, he]
theorem Fk.agg {α : Type} [DecidableEq α] {kf : α → List Value} {K : TypeId} {m h : Nat} {q : α} (hk : P.keyTypeAt m K = true) (hm : Nat.ble m 10000 = true) (hu : aggB P K = true) (t : Typ P h K (kf q)) {es : List (α × Value × Nat)}
    (hall : ∀ e ∈ es, Typ P h K (kf e.1) ∧ (kf e.1 = kf q → e.1 = q)) : Fk P K (.agg ⟨kf q⟩) (ents kf es) (fdx q es 0) := by
  intro w
  rw [run_findKey_eq w hu]
  exact run_asking hk hm hu t w es 0 hall
theorem eq_nilM {T K E : TypeId} {o : Option Nat} (hT : P.underlying T = some (.map K E)) (d : Nat) : (Op.equalIn (d + 1) T (.map o) (.map none)).run P w = .ok o.isNone w := by
  unfold Op.equalIn
  rw [Sem.run_bind, run_underlying hT]
  cases o <;> rfl
theorem R.neNilM {T T' K E : TypeId} {x y : Operand} {o : Option Nat} (hx : evO F x = .map o) (hy : evO F y = .map none) (hT : P.underlying T = some (.map K E)) : (execOp (evO F) ⟨dst, .binOp .neq T x y T', ty, pos, after, g⟩).run P w = .ok (.value (.bool (!o.isNone))) w := R.neOf hx hy rfl (eq_nilM hT) rfl
theorem add_add (a : Addr) (i k : Nat) : (a.add i).add k = a.add (i + k) := by
  unfold Addr.add
  by_cases hi : i = 0
  · subst hi; simp
  · by_cases hk : k = 0
    · subst hk; simp [hi]
    · have : i + k ≠ 0 := by omega
      simp [hi, hk, this, Nat.add_assoc]
theorem gA_add (a : Option Addr) (i k : Nat) : (gA a i).add k = gA a (i + k) := add_add _ _ _
theorem R.fieldG {i off' f z : Nat} {S : TypeId} {x : Operand} {a : Option Addr} {fs : Array Field} {fd : Field} (hx : evO F x = .pointer (some (gA a i))) (hT : P.underlying S = some (.struct fs)) (hf : fs[f]? = some fd)
    (hz : ∀ w, (sizeOf fd.type).run P w = .ok z w) (hz0 : Nat.blt 0 z = true) (hoff : off' = i + fd.offset) : (execOp (evO F) ⟨dst, .fieldAddr S x f, ty, pos, after, g⟩).run P w = .ok (.value (.pointer (some (gA a off')))) w := by
  have hz1 : z ≠ 0 := by rintro rfl; cases hz0
  simp [execOp, hx, Instr.fieldAt, run_underlying hT, hf, Instr.sureAddr, fieldPlace, hz, hz1, gA_add, hoff]
end
end Go.Vc

namespace Go.Orc
open Go.Vc Go.RowKit
abbrev Qn := Int × List UInt8 × Int × List UInt8
abbrev Lg := List (Qn × List UInt8)
def okQ (q : Qn) : Prop := q.2.1.length = 32 ∧ (1 ≤ q.1 ∧ q.1 ≤ 4) ∧ (1 ≤ q.2.2.1 ∧ q.2.2.1 ≤ 16) ∧ q.2.2.2.length ≤ 1000000000
def kC (q : Qn) : List Value := flat [(1, [vi q.1]), (32, q.2.1.map vu8), (1, [vi q.2.2.1]), (1, [.string (bstr q.2.2.2)])]
theorem bstr_inj {a b : List UInt8} (h : bstr a = bstr b) : a = b := by
  have := congrArg ByteArray.toList h
  rwa [bstr_toList, bstr_toList] at this
theorem kC_inj {p q : Qn} (hp : p.2.1.length = 32) (hq : q.2.1.length = 32) (h : kC p = kC q) : p = q := by
  obtain ⟨k, key, d, data⟩ := p
  obtain ⟨k', key', d', data'⟩ := q
  simp only at hp hq
  simp only [kC, flat, List.cons_append, List.nil_append, List.cons.injEq, Value.int.injEq, true_and] at h
  obtain ⟨h1, h2⟩ := h
  obtain ⟨h3, h4⟩ := List.append_inj h2 (by rw [List.length_map, List.length_map, hp, hq])
  simp only [List.cons.injEq, Value.int.injEq, Value.string.injEq, true_and, and_true] at h4
  have e1 : key = key' := by
    have := map_inj_u8 (a := key) (b := key')
    exact this ▸ h3
  rw [h1, e1, h4.1, bstr_inj h4.2]
def mEs : Lg → Nat → List (Qn × Value × Nat)
  | [], _ => []
  | p :: r, i => (p.1, vi (i : Int), i) :: mEs r (i + 1)
theorem mEs_snoc (p : Qn × List UInt8) : ∀ (l : Lg) (i : Nat), mEs (l ++ [p]) i = mEs l i ++ [(p.1, vi ((i + l.length : Nat) : Int), i + l.length)]
  | [], i => by simp [mEs]
  | x :: l, i => by
    rw [List.cons_append, mEs, mEs_snoc p l (i + 1), mEs, List.length_cons, show i + 1 + l.length = i + (l.length + 1) by omega]; rfl
theorem mEs_mem : ∀ {l : Lg} {i : Nat} {e : Qn × Value × Nat}, e ∈ mEs l i → ∃ p ∈ l, e.1 = p.1
  | x :: l, i, e, h => by
    rcases List.mem_cons.1 h with rfl | h
    · exact ⟨x, List.mem_cons_self .., rfl⟩
    · obtain ⟨p, hp, he⟩ := mEs_mem h
      exact ⟨p, List.mem_cons_of_mem _ hp, he⟩
def fdq (q : Qn) : Lg → Nat → Option Nat
  | [], _ => none
  | p :: r, i => if p.1 = q then some i else fdq q r (i + 1)
theorem fdx_fdq (q : Qn) : ∀ (l : Lg) (i : Nat), fdx q (mEs l i) i = (fdq q l i).map fun j : Nat => ((j, vi (j : Int)) : Nat × Value)
  | [], _ => rfl
  | p :: r, i => by
    rw [mEs, fdx, fdq]
    split
    · rfl
    · exact fdx_fdq q r (i + 1)
theorem fdq_lt {q : Qn} : ∀ {l : Lg} {i j : Nat}, fdq q l i = some j → i ≤ j ∧ j < i + l.length
  | p :: r, i, j, h => by
    rw [fdq] at h
    split at h
    · cases h; exact ⟨Nat.le_refl _, by rw [List.length_cons]; omega⟩
    · have := fdq_lt h
      rw [List.length_cons]; omega
def mArr (l : Lg) : Array MapEntry := ⟨ents kC (mEs l 0)⟩
theorem mArr_push (l : Lg) (q : Qn) (d : List UInt8) : mArr (l ++ [(q, d)]) = (mArr l).push { key := .agg ⟨kC q⟩, val := vi (l.length : Int), born := l.length } := by
  apply Array.ext'
  simp [mArr, ents, mEs_snoc]
theorem log_find {P : Program} {K : TypeId} {m h : Nat} {q : Qn} {l : Lg} (hk : P.keyTypeAt m K = true) (hm : Nat.ble m 10000 = true) (hu : aggB P K = true) (hT : ∀ q, okQ q → Typ P h K (kC q)) (hq : okQ q) (hl : ∀ p ∈ l, okQ p.1) :
    Fk P K (.agg ⟨kC q⟩) (mArr l).toList ((fdq q l 0).map fun j : Nat => ((j, vi (j : Int)) : Nat × Value)) := by
  rw [← fdx_fdq]
  refine Fk.agg hk hm hu (hT q hq) fun e he => ?_
  obtain ⟨p, hp, e1⟩ := mEs_mem he
  rw [e1]
  exact ⟨hT _ (hl p hp), fun h => kC_inj (hl p hp).1 hq.1 h⟩
def aC (q : Qn) (s : Value) (d : List UInt8) : List Value := flat [(1, [vi q.1]), (32, q.2.1.map vu8), (1, [vi q.2.2.1]), (1, [s]), (32, d.map vu8)]
theorem aC_len {q : Qn} {s : Value} {d : List UInt8} (h : q.2.1.length = 32) (hd : d.length = 32) : (aC q s d).length = 67 := by simp [aC, flat, h, hd]
inductive Lgs (w : World) : List Value → Lg → Prop
  | nil : Lgs w [] []
  | snoc {a : Option Addr} {n c : Nat} {q : Qn} {d : List UInt8} {xs : List Value} {l : Lg} (r : Lgs w xs l) (hq : okQ q) (hd : d.length = 32) (hl : q.2.2.2.length = n) (hc : n ≤ c) (hv : View w a (q.2.2.2.map vu8)) : Lgs w (xs ++ aC q (.slice a n c) d) (l ++ [(q, d)])
theorem Lgs.len {w : World} {xs : List Value} {l : Lg} (h : Lgs w xs l) : xs.length = l.length * 67 := by
  induction h with
  | nil => rfl
  | snoc r hq hd hl hc hv ih => rw [List.length_append, ih, aC_len hq.1 hd, List.length_append, List.length_cons, List.length_nil]; omega
theorem Lgs.ok {w : World} {xs : List Value} {l : Lg} (h : Lgs w xs l) : ∀ p ∈ l, okQ p.1 := by
  induction h with
  | nil => intro p hp; cases hp
  | snoc r hq hd hl hc hv ih =>
    intro p hp
    rcases List.mem_append.1 hp with hp | hp
    · exact ih p hp
    · rw [List.mem_singleton] at hp; subst hp; exact hq
theorem sblks_u8 : ∀ (l : List UInt8) (b : Nat), b ∉ sblks (l.map vu8)
  | [], b => by simp [sblks]
  | x :: l, b => by
    intro h
    have h' : b ∈ sblk (vu8 x) ++ sblks (l.map vu8) := h
    rcases List.mem_append.1 h' with h | h
    · simp [sblk] at h
    · exact sblks_u8 l b h
theorem sblk_in_view {a : Option Addr} {n c : Nat} {l : List UInt8} (hl : l.length = n) : ∀ b ∈ sblk (.slice a n c), b ∈ (Ent.view a (l.map vu8)).blocks := by
  intro b hb
  cases a with
  | none => simp [sblk] at hb
  | some ad => cases l with
    | nil => simp at hl; subst hl; simp [sblk] at hb
    | cons x r => cases n with
      | zero => simp at hl
      | succ n => simpa [Ent.blocks, sblk] using hb
theorem Lgs.get {w : World} {xs : List Value} {l : Lg} (h : Lgs w xs l) : ∀ {i : Nat} (hi : i < l.length), ∃ a n c, (xs.drop (67 * i)).take 67 = aC (l[i]).1 (.slice a n c) (l[i]).2 ∧ (l[i]).2.length = 32 ∧ (l[i]).1.2.2.2.length = n ∧ n ≤ c ∧ View w a ((l[i]).1.2.2.2.map vu8) ∧ (∀ b ∈ sblk (.slice a n c), b ∈ sblks xs) := by
  induction h with
  | nil => intro i hi; simp at hi
  | @snoc a n c q d xs l r hq hd hl hc hv ih =>
    intro i hi
    have hlen := r.len
    by_cases e : i < l.length
    · obtain ⟨a', n', c', h1, h2, h3, h4, h5, h6⟩ := ih e
      refine ⟨a', n', c', ?_, ?_, ?_, h4, ?_, ?_⟩
      · rw [List.drop_append_of_le_length (by omega), List.take_append_of_le_length (by rw [List.length_drop]; omega), h1, List.getElem_append_left e]
      · rw [List.getElem_append_left e]; exact h2
      · rw [List.getElem_append_left e]; exact h3
      · rw [List.getElem_append_left e]; exact h5
      · intro b hb; rw [sblks_append]; exact List.mem_append.2 (.inl (h6 b hb))
    · have : i = l.length := by rw [List.length_append, List.length_singleton] at hi; omega
      subst this
      have e2 : (l ++ [(q, d)])[l.length] = (q, d) := by simp
      refine ⟨a, n, c, ?_, ?_, ?_, hc, ?_, ?_⟩
      · rw [List.drop_append, List.drop_of_length_le (by omega), List.nil_append, show 67 * l.length - xs.length = 0 by omega, List.drop_zero, List.take_of_length_le (by rw [aC_len hq.1 hd]; exact Nat.le_refl _), e2]
      · rw [e2]; exact hd
      · rw [e2]; exact hl
      · rw [e2]; exact hv
      · intro b hb
        rw [sblks_append]
        refine List.mem_append.2 (.inr ?_)
        simp only [aC, flat, sblks_append]
        refine List.mem_append.2 (.inr (List.mem_append.2 (.inr (List.mem_append.2 (.inr (List.mem_append.2 (.inl ?_)))))))
        simpa [sblks] using hb
end Go.Orc

namespace Go.Orc
open Go.Vc Go.RowKit
theorem Lgs.lt {w : World} {xs : List Value} {l : Lg} (h : Lgs w xs l) : ∀ b ∈ sblks xs, b < w.heap.size := by
  induction h with
  | nil => intro b hb; cases hb
  | @snoc a n c q d xs l r hq hd hl hc hv ih =>
    intro b hb
    rw [sblks_append] at hb
    rcases List.mem_append.1 hb with hb | hb
    · exact ih b hb
    · refine sblk_lt (c := c) hl hv b ?_
      simp only [aC, flat, sblks_append, List.mem_append] at hb
      rcases hb with hb | hb | hb | hb | hb
      · simp [sblks, sblk] at hb
      · exact absurd hb (sblks_u8 _ _)
      · simp [sblks, sblk] at hb
      · simpa [sblks] using hb
      · exact absurd hb (sblks_u8 _ _)
theorem Lgs.same {w w' : World} {xs : List Value} {l : Lg} (h : Lgs w xs l) (hs : ∀ b ∈ sblks xs, w'.heap[b]? = w.heap[b]?) : Lgs w' xs l := by
  induction h with
  | nil => exact .nil
  | @snoc a n c q d xs l r hq hd hl hc hv ih =>
    refine .snoc (ih fun b hb => hs b (by rw [sblks_append]; exact List.mem_append.2 (.inl hb))) hq hd hl hc (sblk_view (c := c) hl hv fun b hb => hs b ?_)
    rw [sblks_append]
    refine List.mem_append.2 (.inr ?_)
    simp only [aC, flat, sblks_append]
    exact List.mem_append.2 (.inr (List.mem_append.2 (.inr (List.mem_append.2 (.inr (List.mem_append.2 (.inl (by simpa [sblks] using hb))))))))
theorem Lgs.pin {B : Nat} {w : World} {xs : List Value} {l : Lg} (h : Lgs w xs l) : (Ent.pin (sblks xs) (fun w => Lgs w xs l)).ok B w := ⟨h, h.lt, fun _ hs => h.same hs⟩
section
variable {w w' w0 : World} {L : List Ent}
theorem HP_logPush {xs : List Value} {l : Lg} {a : Option Addr} {n c : Nat} {E : TypeId} {q : Qn} {d : List UInt8} (h : HP w0 w (.row a n c E 1 (q.2.2.2.map vu8) :: .pin (sblks xs) (fun w => Lgs w xs l) :: L)) (hq : okQ q) (hd : d.length = 32) (hl : q.2.2.2.length = n) :
    HP w0 w (.pin (sblks (xs ++ aC q (.slice a n c) d)) (fun w => Lgs w (xs ++ aC q (.slice a n c) d) (l ++ [(q, d)])) :: .view a (q.2.2.2.map vu8) :: .pin (sblks xs) (fun w => Lgs w xs l) :: L) := by
  have hcap := (h.own (List.mem_cons_self ..)).2.2.1
  have h1 := h.rowView
  have hm1 : Ent.pin (sblks xs) (fun w => Lgs w xs l) ∈ (.view a (q.2.2.2.map vu8) :: .pin (sblks xs) (fun w => Lgs w xs l) :: L) := List.mem_cons_of_mem _ (List.mem_cons_self ..)
  have hm2 : Ent.view a (q.2.2.2.map vu8) ∈ (.view a (q.2.2.2.map vu8) :: .pin (sblks xs) (fun w => Lgs w xs l) :: L) := List.mem_cons_self ..
  have hs : Lgs w xs l := (h1.ok _ hm1).1
  have hv := viewV (h1.ok _ hm2)
  refine h1.within2 hm1 hm2 rfl rfl (Lgs.pin (.snoc hs hq hd hl hcap hv)) rfl rfl fun b hb => ?_
  simp only [Ent.blocks] at hb
  rw [sblks_append] at hb
  rcases List.mem_append.1 hb with hb | hb
  · exact .inl hb
  · right
    simp only [aC, flat, sblks_append, List.mem_append] at hb
    rcases hb with hb | hb | hb | hb | hb
    · simp [sblks, sblk] at hb
    · exact absurd hb (sblks_u8 _ _)
    · simp [sblks, sblk] at hb
    · have hb' : b ∈ sblk (.slice a n c) := by simpa [sblks] using hb
      exact sblk_in_view hl b hb'
    · exact absurd hb (sblks_u8 _ _)
theorem HP_logNil (h : HP w0 w L) : HP w0 w (.pin (sblks []) (fun w => Lgs w [] []) :: L) := h.add (Lgs.pin .nil) rfl fun f _ _ b hb _ => by cases hb
end
theorem aC_drop {q : Qn} {s : Value} {d : List UInt8} (h : q.2.1.length = 32) : (aC q s d).drop 35 = d.map vu8 := by
  have e : aC q s d = ([vi q.1] ++ (q.2.1.map vu8 ++ ([vi q.2.2.1] ++ [s]))) ++ d.map vu8 := by simp [aC, flat]
  rw [e, List.drop_append_of_le_length (by simp [h])]
  simp [h]
theorem Lgs.ans {w : World} {xs : List Value} {l : Lg} (h : Lgs w xs l) {i : Nat} {z : Qn × List UInt8} (hi : i < l.length) : (xs.drop (i * 67 + 35)).take 32 = (l.getD i z).2.map vu8 ∧ (l.getD i z).2.length = 32 := by
  obtain ⟨a, n, c, h1, h2, _⟩ := h.get hi
  have hq := h.ok (l[i]) (List.getElem_mem hi)
  have e : l.getD i z = l[i] := by simp [hi]
  rw [e]
  refine ⟨?_, h2⟩
  have h3 := congrArg (fun x => x.drop 35) h1
  change ((xs.drop (67 * i)).take 67).drop 35 = (aC _ _ _).drop 35 at h3
  rw [aC_drop hq.1, List.drop_take, List.drop_drop, show 67 * i + 35 = i * 67 + 35 by omega, show 67 - 35 = 32 from rfl] at h3
  exact h3
theorem fill_1 {s : Nat} {z : Array Value} {zc cs : List Value} (hz : z = ⟨zc⟩) (ok : SsOk [(s, zc)]) (okc : SsOk [(s, cs)]) : Instr.fill (fun i => some (i * s, s)) z [(0, .agg ⟨cs⟩)] = some ⟨cs⟩ := by
  subst hz
  exact (fill_of (pl := fun i => some (i * s, s)) (segs := [(s, zc)]) (parts := [(0, .agg ⟨cs⟩)]) (out := [(s, cs)]) (FillR.cons [] [(s, zc)] [(s, cs)] [] (by rw [Nat.zero_mul]; rfl) rfl rfl rfl okc rfl rfl rfl FillR.nil) ok).1
theorem aC_ok {q : Qn} {s : Value} {d : List UInt8} (h : q.2.1.length = 32) (hd : d.length = 32) (hs : s.oneCell' = true) : SsOk [(67, aC q s d)] := by
  refine SsOk.cons ⟨aC_len h hd, fun v hv => ?_⟩ SsOk.nil
  exact SsOk.one (SsOk.cons (SOk.v rfl) (SsOk.cons (SOk.u8 h) (SsOk.cons (SOk.v rfl) (SsOk.cons (SOk.v hs) (SsOk.cons (SOk.u8 hd) SsOk.nil))))) v hv
def drawF (df : List UInt8) (dn n : Nat) : List UInt8 := if n < dn then (df.drop (n * 32)).take 32 else leN 8 n ++ (List.replicate 23 0 ++ [1])
theorem drawF_len {df : List UInt8} {dn n : Nat} (h : df.length = 32 * dn) : (drawF df dn n).length = 32 := by
  rw [drawF]; split
  · rw [List.length_take, List.length_drop]; omega
  · simp [leN_len]
def ansD (df : List UInt8) (dn u : Nat) (l : Lg) (q : Qn) : List UInt8 := match fdq q l 0 with
  | some i => (l.getD i (q, [])).2
  | none => drawF df dn u
def ansU (u : Nat) (l : Lg) (q : Qn) : Nat := match fdq q l 0 with
  | some _ => u
  | none => u + 1
def ansL (df : List UInt8) (dn u : Nat) (l : Lg) (q : Qn) : Lg := match fdq q l 0 with
  | some _ => l
  | none => l ++ [(q, drawF df dn u)]
section
variable {df : List UInt8} {dn u : Nat} {l : Lg} {q : Qn} {i : Nat}
end
end Go.Orc
namespace Go.Orc
open Go.Vc Go.RowKit
theorem draw_tail {u : Nat} (h : u < 18446744073709551616) : ((leN 8 (UInt64.ofNat u).toNat) ++ (List.replicate 32 (0 : UInt8)).drop 8).set 31 1 = leN 8 u ++ (List.replicate 23 0 ++ [1]) := by
  have e : (UInt64.ofNat u).toNat = u := by simp; omega
  have hl := leN_len 8 u
  rw [e, List.set_append, if_neg (by omega), hl]
  congr 1
theorem log_hit {P : Program} {K : TypeId} {m h i : Nat} {q : Qn} {l : Lg} (hk : P.keyTypeAt m K = true) (hm : Nat.ble m 10000 = true) (hu : aggB P K = true) (hT : ∀ q, okQ q → Typ P h K (kC q)) (hq : okQ q) (hl : ∀ p ∈ l, okQ p.1) (hf : fdq q l 0 = some i) :
    Fk P K (.agg ⟨kC q⟩) (mArr l).toList (some (i, vi (i : Int))) := by
  have := log_find hk hm hu hT hq hl
  rwa [hf] at this
theorem log_miss {P : Program} {K : TypeId} {m h : Nat} {q : Qn} {l : Lg} (hk : P.keyTypeAt m K = true) (hm : Nat.ble m 10000 = true) (hu : aggB P K = true) (hT : ∀ q, okQ q → Typ P h K (kC q)) (hq : okQ q) (hl : ∀ p ∈ l, okQ p.1) (hf : fdq q l 0 = none) :
    Fk P K (.agg ⟨kC q⟩) (mArr l).toList none := by
  have := log_find hk hm hu hT hq hl
  rwa [hf] at this
theorem snoc_len {l : Lg} {p : Qn × List UInt8} : (l ++ [p]).length = l.length + 1 := by simp
end Go.Orc
namespace Go.Orc
open Go.Vc Go.RowKit
section
variable {w w' w0 : World} {L : List Ent}
theorem HP_viewNil (h : HP w0 w L) : HP w0 w (.view none (([] : List UInt8).map vu8) :: L) :=
  h.add ⟨View.nil _ _, fun ad h => by cases h⟩ rfl fun f _ _ b hb _ => by simp [Ent.blocks] at hb
theorem pair_sep {e f : Ent} : ∀ {L : List Ent}, L.Pairwise Sep → e ∈ L → f ∈ L → e ≠ f → Sep e f
  | [], _, he, _, _ => by cases he
  | g :: L, hp, he, hf, hne => by
    rw [List.pairwise_cons] at hp
    rcases List.mem_cons.1 he with he1 | he1 <;> rcases List.mem_cons.1 hf with hf1 | hf1
    · exact absurd (he1.trans hf1.symm) hne
    · rw [he1]; exact hp.1 f hf1
    · rw [hf1]; exact (hp.1 e he1).symm
    · exact pair_sep hp.2 he1 hf1 hne
theorem HP_within {e' : Ent} (h : HP w0 w L) (hok : e'.ok w0.heap.size w) (hmut' : e'.mut = false) (har : e'.isAr = false) (hbl : ∀ b ∈ e'.blocks, ∃ e ∈ L, e.mut = false ∧ b ∈ e.blocks) : HP w0 w (e' :: L) := by
  refine h.add hok har fun f hf hfm b hb hbf => ?_
  obtain ⟨e, he, hme, hbe⟩ := hbl b hb
  have hfm' : f.mut = true := by simpa [hmut'] using hfm
  have hne : e ≠ f := fun h2 => by rw [h2] at hme; rw [hme] at hfm'; cases hfm'
  exact pair_sep h.sep he hf hne (.inr hfm') b hbe hbf
end
def sS (df : List UInt8) (dn : Nat) (key : List UInt8) (dm : Int) (data : List UInt8) (u : Nat) (lg : Lg) : Nat → Nat × Lg × List UInt8
  | 0 => (u, lg, [])
  | k + 1 => (ansU (sS df dn key dm data u lg k).1 (sS df dn key dm data u lg k).2.1 (4, key, dm, data ++ leN 8 k), ansL df dn (sS df dn key dm data u lg k).1 (sS df dn key dm data u lg k).2.1 (4, key, dm, data ++ leN 8 k), (sS df dn key dm data u lg k).2.2 ++ ansD df dn (sS df dn key dm data u lg k).1 (sS df dn key dm data u lg k).2.1 (4, key, dm, data ++ leN 8 k))
def ok32 (l : Lg) : Prop := ∀ p ∈ l, p.2.length = 32
theorem Lgs.ok32 {w : World} {xs : List Value} {l : Lg} (h : Lgs w xs l) : ok32 l := by
  induction h with
  | nil => intro p hp; cases hp
  | snoc r hq hd hl hc hv ih =>
    intro p hp
    rcases List.mem_append.1 hp with hp | hp
    · exact ih p hp
    · rw [List.mem_singleton] at hp; subst hp; exact hd
section
variable {df : List UInt8} {dn : Nat} {key : List UInt8} {dm : Int} {data : List UInt8} {u : Nat} {lg : Lg}
end
end Go.Orc

namespace Go.Orc
open Go.Vc
def gx (a b : List UInt8) : List UInt8 := List.zipWith (fun x y => x ^^^ y) a b
def pcB (pg : Nat) (ct : UInt64) : List UInt8 := [leN 8 (UInt64.ofNat pg).toNat, leN 8 ct.toNat].flatten
def onesL (x : UInt8) : List UInt8 := List.replicate 32 x
end Go.Orc

namespace Go.Proofs.YtbhllplbbkmndaaGreat
open Go.Proofs.Tryz
open Go.Vc Go.Orc Go.Sh Go.RowKit
set_option maxRecDepth 20000
theorem el24 : ElT Tryz.prog 24 23 32 32 := ElT.mk' underlying24 (i := Tryz.t23) rfl rfl rfl rfl rfl rfl
theorem c_oword (x : UInt64) (w : World) :
  Cs Tryz.prog 92 [(vu64 x)].toArray w (fun v w1 => ∃ a cap, v = .slice a 8 cap ∧ Chg w w1 [] ∧ Own w.heap.size w1 5 1 a 8 cap ((leN 8 x.toNat).map vu8)) := by
 refine Cs.of (n := 11) (args := [(vu64 x)]) Tryz.func92 rfl rfl rfl ?_
 have h_0 := HP.init w
 refine WP.seq (WP.reg ?_)
 refine qA (.slice none 0 0) rfl rfl ?_
 refine WL.nil (thn_n (WP.seq (WP.reg ?_)))
 refine qM (vu64 x) rfl rfl ?_
 refine WL.call Tryz.call64 rfl rfl (c_Put_b x 8 rfl _) rfl ?_
 rintro _ w_3 ⟨a_1, cap_2, rfl, hc_4, ho_5⟩
 have h_6 := h_0.gotRow hc_4 ho_5
 refine qM (.tuple [(.slice a_1 8 cap_2), (vi 0)].toArray) rfl rfl (qV rfl (R.extract rfl rfl) (qV rfl (R.extract rfl rfl) (qA (.slice a_1 8 cap_2) rfl rfl (qA (vi 0) rfl rfl ?_))))
 refine WL.nil (thn_n (WP.seq (WP.reg ?_)))
 refine qM (.slice a_1 8 cap_2) rfl rfl (qA (.slice a_1 8 cap_2) rfl rfl ?_)
 refine WL.nil (thn_n (WP.ret ?_))
 refine ret_of results92 (RV.tmp (v := (.slice a_1 8 cap_2)) rfl RV.nil) ?_
 exact ⟨_, _, rfl, h_6.chgS, h_6.ok _ M0⟩

theorem c_CloneD (a : Option Addr) (n cap : Nat) (df : List UInt8) (hl : df.length = 32 * n) (hn : n ≤ 1000000000) (w : World) (hv : View w a (df.map vu8)) :
  Cs Tryz.prog 60 [(.slice a n cap)].toArray w (fun v w1 => ∃ a cap, v = .slice a n cap ∧ Chg w w1 [] ∧ Own w.heap.size w1 23 32 a n cap (df.map vu8)) := by
 refine Cs.of (n := 8) (args := [(.slice a n cap)]) Tryz.func60 rfl rfl rfl ?_
 have h_0 := HP.init w
 have h_00 := h_0.old (View.arg hv) (fun f hf => by cases hf)
 refine WP.seq (WP.reg ?_)
 refine qA (.slice none 0 0) rfl rfl ?_
 refine WL.nil (thn_n (WP.seq (WP.seq (WP.reg ?_))))
 refine qM (.slice a n cap) rfl rfl (qV rfl (R.eqNilS rfl rfl underlying24) ?_)
 refine WL.nil (thn_n ?_)
 refine WP.cond (b := a.isNone) rfl (fun c_1 => ?_) (fun c_1 => ?_)
 ·refine WP.seq (WP.reg ?_)
  refine qA (.slice none 0 0) rfl rfl ?_
  refine WL.nil (thn_n (WP.ret (thn_r ?_)))
  refine ret_of results60 (RV.tmp (v := (.slice none 0 0)) rfl RV.nil) ?_
  obtain rfl : df = [] := view_none c_1 hv
  obtain rfl : n = 0 := by simp at hl; omega
  exact ⟨none, 0, rfl, h_00.chgS, Own.nil ..⟩
 ·refine WP.skip (thn_n (WP.seq (WP.reg ?_)))
  refine WL.buildSl0 h_00 underlying24 sizeOf23 rfl (fun b_2 w_3 h_4 => ?_)
  refine qM (.slice a n cap) rfl rfl ?_
  refine WL.append (km := n) (xs := []) (ys := df.map vu8) (zs := df.map vu8) h_4 rfl rfl el24 (viewV (h_4.ok _ M1)) ((len_map hl).trans (by omega)) (one_u8 _) rfl (by omega) (by omega) (by omega) (fun _ _ => At.h) rfl (fun a_5 c_6 w_7 h_8 => ?_)
  refine qA (.slice a_5 n c_6) rfl rfl ?_
  refine WL.nil (thn_n (WP.ret ?_))
  refine ret_of results60 (RV.tmp (v := (.slice a_5 n c_6)) rfl RV.nil) ?_
  exact ⟨_, _, rfl, h_8.chgS, h_8.ok _ M0⟩

theorem c_draw {w00 : World} {L : List Ent} (id : Bool) (ob mp : Nat) (ms df : List UInt8) (hms : ms.length = 32) (da : Option Addr) (dn dc u : Nat) (hdf : df.length = 32 * dn) (la : Option Addr) (lc : Nat) (lx : List Value) (lg : Lg) (hu : u ≤ 1000000) (hlg : lg.length ≤ 1000000) (w : World) (h_0 : HP w00 w (Ent.blk ob .nw 106 [(1, [(.bool id)]), (32, ms.map vu8), (1, [(.slice da dn dc)]), (1, [(vi ((u : Nat) : Int))]), (1, [(.map (some mp))]), (1, [(.slice la lg.length lc)])] :: Ent.view da (df.map vu8) :: L)) :
  Cs Tryz.prog 80 [(.pointer (some ⟨ob, 0, none⟩))].toArray w (fun v w1 => v = (.agg ⟨(drawF df dn u).map vu8⟩) ∧ HP w00 w1 (Ent.blk ob .nw 106 [(1, [(.bool id)]), (32, ms.map vu8), (1, [(.slice da dn dc)]), (1, [(vi (((u + 1) : Nat) : Int))]), (1, [(.map (some mp))]), (1, [(.slice la lg.length lc)])] :: Ent.view da (df.map vu8) :: L)) := by
 refine Cs.of (n := 37) (args := [(pO ob 0)]) Tryz.func80 rfl rfl rfl ?_
 refine WP.seq (WP.reg ?_)
 refine WL.alloc (segs := [(32, (zB 32).map vu8)]) h_0 (zv typeInfo23 rfl) rfl (sC (s8 lr) sN) rfl (fun b_1 w_2 h_3 => ?_)
 refine WL.nil (thn_n (WP.seq (WP.reg ?_)))
 refine qM (pO ob 0) rfl rfl (qV rfl (R.nilCheck rfl) (qV rfl (R.fieldAddr (off' := 34) rfl underlying106 rfl sizeOf3 rfl rfl) (qV rfl (R.load1 rfl isAgg3 (h_3.ok _ M1) (Sg.t rfl (Sg.t rfl (Sg.t rfl Sg.h)))) (qA (vn u) rfl rfl ?_))))
 refine WL.nil (thn_n (WP.seq (WP.reg ?_)))
 refine qM (pO ob 0) rfl rfl (qV rfl (R.nilCheck rfl) (qV rfl (R.fieldAddr (off' := 34) rfl underlying106 rfl sizeOf3 rfl rfl) (qV rfl (R.load1 rfl isAgg3 (h_3.ok _ M1) (Sg.t rfl (Sg.t rfl (Sg.t rfl Sg.h)))) (qV rfl (R.bin rfl rfl (bi_add (c := ((u + 1 : Nat) : Int)) (by omega) (by omega))) (qV rfl (R.nilCheck rfl) (qV rfl (R.fieldAddr (off' := 34) rfl underlying106 rfl sizeOf3 rfl rfl) ?_))))))
 refine WL.store1 h_3 rfl rfl sizeOf3 rfl Y1 (by decide) (Sg.t rfl (Sg.t rfl (Sg.t rfl Sg.h))) (fun w_4 h_5 => ?_)
 refine WL.nil (thn_n (WP.seq (WP.seq (WP.reg ?_))))
 refine qM (vn u) rfl rfl (qM (pO ob 0) rfl rfl (qV rfl (R.nilCheck rfl) (qV rfl (R.fieldAddr (off' := 33) rfl underlying106 rfl sizeOf24 rfl rfl) (qV rfl (R.load1 rfl isAgg24 (h_5.ok _ M1) (Sg.t rfl (Sg.t rfl Sg.h))) (qV rfl (R.lenS (a := da) (m := dn) rfl rfl underlying24) (qV rfl (R.bin rfl rfl (bi_lss (r := decide ((((u : Nat) : Int) : Int) < ((dn : Nat) : Int))) rfl)) ?_))))))
 refine WL.nil (thn_n ?_)
 refine WP.cond (b := decide ((((u : Nat) : Int) : Int) < ((dn : Nat) : Int))) rfl (fun c_6 => ?_) (fun c_6 => ?_)
 ·have p_7 := of_decide_eq_true c_6
  refine WP.seq (WP.reg ?_)
  refine qM (pO ob 0) rfl rfl (qV rfl (R.nilCheck rfl) (qV rfl (R.fieldAddr (off' := 33) rfl underlying106 rfl sizeOf24 rfl rfl) (qV rfl (R.load1 rfl isAgg24 (h_5.ok _ M1) (Sg.t rfl (Sg.t rfl Sg.h))) (qM (vn u) rfl rfl (qV rfl (R.indexS (a := da) (i := u) (off := u * 32) (xs := df.map vu8) rfl rfl rfl (by omega) (viewV (h_5.ok _ M2)) (lt_len (K := 32 * dn) (len_map hdf) (by omega)) underlying24 sizeOf23 rfl) (qV rfl (R.loadGA (a := da) (i := u * 32) (xs := df.map vu8) (cs := (((df).drop (u * 32)).take 32).map vu8) rfl (viewV (h_5.ok _ M2)) isAgg23 sizeOf23 (by rw [List.map_take, List.map_drop]) (len_map (subLen (K := 32 * dn) hdf (by omega) : List.length (((df).drop (u * 32)).take 32) = 32)) (by decide)) ?_))))))
  refine WL.storeA [] [(32, (zB 32).map vu8)] [(32, (((df).drop (u * 32)).take 32).map vu8)] [] h_5 rfl rfl sizeOf23 At.h (by decide) rfl rfl rfl rfl rfl rfl (sC (s8 (subLen (K := 32 * dn) hdf (by omega) : List.length (((df).drop (u * 32)).take 32) = 32)) sN) (fun w_8 h_9 => ?_)
  refine WL.nil (thn_n (WP.ret (thn_r ?_)))
  refine ret_of results80 (RV.cell rfl (h_9.loadA (cs := (((df).drop (u * 32)).take 32).map vu8) isAgg23 sizeOf23 M0 rfl rfl) RV.nil) ?_
  have h_12 := ((h_9.drop rfl).up J1).up J1
  exact ⟨by rw [drawF, if_pos (by omega)]; rfl, h_12⟩
 ·have p_13 := of_decide_eq_false c_6
  refine WP.skip (thn_n (WP.seq (WP.reg ?_)))
  refine WL.alloc (segs := [(32, (zB 32).map vu8)]) h_5 (zv typeInfo23 rfl) rfl (sC (s8 lr) sN) rfl (fun b_14 w_15 h_16 => ?_)
  refine WL.nil (thn_n (WP.seq ?_))
  refine WP.drawT (SL w00.heap.size [.blk b_1 .nw 23 [(32, (zB 32).map vu8)], .blk ob .nw 106 [(1, [(.bool id)]), (32, ms.map vu8), (1, [(.slice da dn dc)]), (1, [(vn (u + 1))]), (1, [(.map (some mp))]), (1, [(.slice la lg.length lc)])], .view da (df.map vu8)]) (.q 0 (.q 1 (.q 2 (.s 3 (.s 4 .nil))))) (by kernel_rfl) (by kernel_rfl) rfl (by kernel_rfl) (fun w_17 hc_19 => (SL.cons ((h_16.same hc_19).ok _ M1) (SL.cons ((h_16.same hc_19).ok _ M2) (SL.cons ((h_16.same hc_19).ok _ M3) (SL.nil _ _))))) (fun w_17 hc_19 => ?_)
  have h_18 := h_16.same hc_19
  refine qT rfl rfl (fun wq hS => R.sliceA (b := b_14) (off := 0) (off' := 0) (l := 0) (h := 32) rfl EvB.dflt EvB.dflt (by decide) (by decide) underlying23 sizeOf5 rfl) ?_
  refine qT rfl rfl (fun wq hS => R.move (v := (vn u)) rfl) ?_
  refine qT rfl rfl (fun wq hS => R.conv (b := ((UInt64.ofNat u) : UInt64).toNat) rfl underlying3 underlying26 (w64_nat u)) ?_
  refine WT.s (oN rfl ?_)
  refine WL.call Tryz.call92 rfl rfl (c_oword (UInt64.ofNat u) _) rfl ?_
  rintro _ w_22 ⟨a_20, cap_21, rfl, hc_23, ho_24⟩
  have h_25 := h_18.gotRow hc_23 ho_24
  refine WL.nil ?_
  refine ⟨(N2_3_4 h_25.ok), ?_⟩
  refine WT.s (oN rfl ?_)
  refine WL.copy (q := 8) (i := 0) (ys := (leN 8 (UInt64.ofNat u).toNat).map vu8) (cs' := ((leN 8 (UInt64.ofNat u).toNat) ++ (zB 32).drop 8).map vu8) h_25 rfl rfl underlying81 sizeOf5 (ownView (h_25.ok _ M0)) (len_map (leN_len ..)) (one_u8 _) Y1 (by decide) Sg.h rfl (by decide) (by rw [len_map lr]; decide) (cpPre (leN_len ..)) rfl (fun w_26 h_27 => ?_)
  refine WL.nil ?_
  refine ⟨(N2_3_4 h_27.ok), ?_⟩
  refine WT.nil (thn_n (WP.seq (WP.reg ?_)))
  refine qV rfl (R.indexA (b := b_14) (off := 0) (off' := 31) (i := 31) rfl rfl rfl (by decide) underlying23 sizeOf5 rfl) ?_
  refine WL.storeE (b := b_14) (off := 31) (i := 31) (v := (vu8 1)) (cs' := (((leN 8 (UInt64.ofNat u).toNat) ++ (zB 32).drop 8).set 31 1).map vu8) h_27 rfl rfl sizeOf5 rfl Y1 (by decide) Sg.h rfl (lt_len (K := 32) (len_map (cpLen (leN_len ..) lr (by decide))) (by decide)) (set_u8 _ _ _) (fun w_28 h_29 => ?_)
  refine WL.nil (thn_n (WP.seq (WP.reg ?_)))
  refine qV rfl (R.loadA [] [(32, (((leN 8 (UInt64.ofNat u).toNat) ++ (zB 32).drop 8).set 31 1).map vu8)] [] (cs := (((leN 8 (UInt64.ofNat u).toNat) ++ (zB 32).drop 8).set 31 1).map vu8) rfl isAgg23 sizeOf23 (h_29.ok _ M1) rfl rfl rfl rfl) ?_
  refine WL.storeA [] [(32, (zB 32).map vu8)] [(32, (((leN 8 (UInt64.ofNat u).toNat) ++ (zB 32).drop 8).set 31 1).map vu8)] [] h_29 rfl rfl sizeOf23 Y2 (by decide) rfl rfl rfl rfl rfl rfl (sC (s8 (len_set (cpLen (leN_len ..) lr (by decide)) _ _)) sN) (fun w_30 h_31 => ?_)
  refine WL.nil (thn_n (WP.ret ?_))
  refine ret_of results80 (RV.cell rfl (h_31.loadA (cs := (((leN 8 (UInt64.ofNat u).toNat) ++ (zB 32).drop 8).set 31 1).map vu8) isAgg23 sizeOf23 M2 rfl rfl) RV.nil) ?_
  have h_36 := ((((h_31.drop rfl).drop rfl).drop rfl).up J1).up J1
  exact ⟨by rw [drawF, if_neg (by omega), ← draw_tail (by omega)]; rfl, h_36⟩
end Go.Proofs.YtbhllplbbkmndaaGreat

namespace Go.Orc
open Go.Vc Go.RowKit
section
variable {w w' w0 : World} {L : List Ent}
theorem HP_blkView {b k : Nat} {T : TypeId} {cs : List Value} (h : HP w0 w (.blk b .nw T [(k, cs)] :: L)) : HP w0 w (.view (some ⟨b, 0, none⟩) cs :: L) := by
  have hb := h.blk (List.mem_cons_self ..)
  have hv : View w (some ⟨b, 0, none⟩) cs := by
    have := hb.2.view 0
    simpa [flat] using this
  refine h.turn .h (View.arg hv) (fun b' hb' => ?_) (fun hm => by cases hm) rfl rfl
  cases cs with
  | nil => simp [Ent.blocks] at hb'
  | cons x r => simpa [Ent.blocks] using hb'
end
end Go.Orc

namespace Go.Orc
open Go.Vc Go.RowKit
end Go.Orc
namespace Go.Orc
open Go.Vc Go.RowKit
end Go.Orc
namespace Go.Orc
open Go.Vc Go.RowKit
end Go.Orc

namespace Go.Orc
open Go.Vc Go.RowKit
def i2u8 (x : Int) : UInt8 := UInt8.ofNat x.toNat
theorem i2u8_w {x : Int} (h : 0 ≤ x) : IntKind.u8.wrap x = ((i2u8 x).toNat : Int) := by
  obtain ⟨n, rfl⟩ := Int.eq_ofNat_of_zero_le h
  rw [w8_nat, i2u8]; rfl
def cT (q : Qn) : List UInt8 := ([i2u8 q.1] ++ q.2.1) ++ [i2u8 q.2.2.1] ++ q.2.2.2
theorem cT_len {q : Qn} {n : Nat} (hq : okQ q) (h : q.2.2.2.length = n) : (cT q).length = 34 + n := by
  obtain ⟨k, key, d, data⟩ := q
  have := hq.1
  simp [cT] at *
  omega
def cF (q : Qn) : List UInt8 := if q.1 = 1 then Go.Sh.sumL (cT q) else Go.Sh.tagL q.2.1 (cT q)
theorem cF_len (q : Qn) : (cF q).length = 32 := by
  unfold cF; split
  · exact Go.Sh.sumL_len _
  · exact Go.Sh.tagL_len _ _
def mF (id : Bool) (df : List UInt8) (dn u : Nat) (q : Qn) : List UInt8 := bif id then drawF df dn u else cF q
theorem mF_len {id : Bool} {df : List UInt8} {dn u : Nat} {q : Qn} (h : df.length = 32 * dn) : (mF id df dn u q).length = 32 := by
  cases id
  · exact cF_len q
  · exact drawF_len h
def anD (id : Bool) (df : List UInt8) (dn u : Nat) (l : Lg) (q : Qn) : List UInt8 := match fdq q l 0 with
  | some i => (l.getD i (q, [])).2
  | none => mF id df dn u q
def anU (id : Bool) (u : Nat) (l : Lg) (q : Qn) : Nat := match fdq q l 0 with
  | some _ => u
  | none => bif id then u + 1 else u
def anL (id : Bool) (df : List UInt8) (dn u : Nat) (l : Lg) (q : Qn) : Lg := match fdq q l 0 with
  | some _ => l
  | none => l ++ [(q, mF id df dn u q)]
section
variable {id : Bool} {df : List UInt8} {dn u : Nat} {l : Lg} {q : Qn} {i : Nat}
theorem anD_hit (h : fdq q l 0 = some i) : anD id df dn u l q = (l.getD i (q, [])).2 := by rw [anD, h]
theorem anU_hit (h : fdq q l 0 = some i) : anU id u l q = u := by rw [anU, h]
theorem anL_hit (h : fdq q l 0 = some i) : anL id df dn u l q = l := by rw [anL, h]
theorem anD_miss (h : fdq q l 0 = none) : anD id df dn u l q = mF id df dn u q := by rw [anD, h]
theorem anU_miss (h : fdq q l 0 = none) : anU id u l q = bif id then u + 1 else u := by rw [anU, h]
theorem anL_miss (h : fdq q l 0 = none) : anL id df dn u l q = l ++ [(q, mF id df dn u q)] := by rw [anL, h]
theorem anU_le (id : Bool) (u : Nat) (l : Lg) (q : Qn) : anU id u l q ≤ u + 1 := by
  rw [anU]; split
  · omega
  · cases id
    · exact Nat.le_succ u
    · exact Nat.le_refl _
theorem anL_le (id : Bool) (df : List UInt8) (dn u : Nat) (l : Lg) (q : Qn) : (anL id df dn u l q).length ≤ l.length + 1 := by
  rw [anL]; split
  · omega
  · rw [snoc_len]; exact Nat.le_refl _
theorem anD_len (h : df.length = 32 * dn) (hl : ok32 l) : (anD id df dn u l q).length = 32 := by
  rw [anD]
  split
  · rename_i i hi
    have := fdq_lt hi
    have hlt : i < l.length := by omega
    have e : l.getD i (q, []) = l[i] := by simp [hlt]
    rw [e]; exact hl _ (List.getElem_mem hlt)
  · exact mF_len h
theorem anL_32 (h : df.length = 32 * dn) (hl : ok32 l) : ok32 (anL id df dn u l q) := by
  rw [anL]
  split
  · exact hl
  · intro p hp
    rcases List.mem_append.1 hp with hp | hp
    · exact hl p hp
    · rw [List.mem_singleton] at hp; subst hp; exact mF_len h
end
end Go.Orc
namespace Go.Orc
open Go.Vc Go.RowKit
theorem okN : ok32 ([] : Lg) := fun p hp => by cases hp
def sT (df : List UInt8) (dn : Nat) (key : List UInt8) (dm : Int) (data : List UInt8) (u : Nat) (lg : Lg) : Nat → Nat × Lg × List UInt8
  | 0 => (u, lg, [])
  | k + 1 => (anU true (sT df dn key dm data u lg k).1 (sT df dn key dm data u lg k).2.1 (4, key, dm, data ++ leN 8 k), anL true df dn (sT df dn key dm data u lg k).1 (sT df dn key dm data u lg k).2.1 (4, key, dm, data ++ leN 8 k), (sT df dn key dm data u lg k).2.2 ++ anD true df dn (sT df dn key dm data u lg k).1 (sT df dn key dm data u lg k).2.1 (4, key, dm, data ++ leN 8 k))
section
variable {df : List UInt8} {dn : Nat} {key : List UInt8} {dm : Int} {data : List UInt8} {u : Nat} {lg : Lg}
end
end Go.Orc

namespace Go.Proofs.YtbhllplbbkmndaaGreat
open Go.Proofs.Tryz
open Go.Vc Go.Orc Go.Sh Go.RowKit
set_option maxRecDepth 20000
theorem ce5 : Tryz.prog.cellsOf 5 = 1 := by kernel_rfl
theorem ce9 : Tryz.prog.cellsOf 9 = 1 := by kernel_rfl
theorem ce23 : Tryz.prog.cellsOf 23 = 32 := by kernel_rfl
theorem ce80 : Tryz.prog.cellsOf 80 = 1 := by kernel_rfl
theorem ce98 : Tryz.prog.cellsOf 98 = 1 := by kernel_rfl
theorem ce130 : Tryz.prog.cellsOf 130 = 35 := by kernel_rfl
theorem el58 : ElT Tryz.prog 58 102 67 104 := ElT.mk' underlying58 (i := Tryz.t102) rfl rfl rfl rfl rfl rfl
theorem kt130 : Tryz.prog.keyTypeAt 3 130 = true := by kernel_rfl
theorem ag130 : aggB Tryz.prog 130 = true := by unfold aggB; rw [underlying130]
theorem pl102 : ∀ fs, Tryz.prog.underlying 102 = some (.struct fs) → Places Tryz.prog fs [(0, 35), (35, 32)] := by
 intro fs h w; rw [underlying102] at h; cases h; simp
theorem pl130 : ∀ fs, Tryz.prog.underlying 130 = some (.struct fs) → Places Tryz.prog fs [(0, 1), (1, 32), (33, 1), (34, 1)] := by
 intro fs h w; rw [underlying130] at h; cases h; simp
theorem typQ (q : Qn) (h : okQ q) : Typ Tryz.prog 3 130 (kC q) := by
 obtain ⟨h0, h1, h2, h3⟩ := h
 have h : okQ q := ⟨h0, h1, h2, h3⟩
 exact (Typ.struct (h := 2) (r := [(1, [(vi q.1)]), (32, q.2.1.map vu8), (1, [(vi q.2.2.1)]), (1, [(.string (bstr q.2.2.2))])]) (cs := flat [(1, [(vi q.1)]), (32, q.2.1.map vu8), (1, [(vi q.2.2.1)]), (1, [(.string (bstr q.2.2.2))])]) underlying130 (TypF.cons (k := 1) rfl rfl (by decide) rfl (Typ.int underlying98 ce98 (WalkArith.wf_i64 (by omega))) (TypF.cons (k := 32) rfl rfl (by decide) (len_map h.1) (Typ.u8s underlying23 ce23 underlying5 ce5 h.1) (TypF.cons (k := 1) rfl rfl (by decide) rfl (Typ.int underlying80 ce80 (WalkArith.wf_i64 (by omega))) (TypF.cons (k := 1) rfl rfl (by decide) rfl (Typ.str underlying9 ce9 (by rw [bstr_size]; simp only [maxLen]; omega)) TypF.nil)))) rfl (((sC sV (sC (s8 h.1) (sC sV (sC sV sN))))).len.trans ce130.symm))

theorem c_oText (kd dm : Int) (key data : List UInt8) (qa : Option Addr) (qn qc : Nat) (hq : okQ (kd, key, dm, data)) (hdl : data.length = qn) (w : World) (hv : View w qa (data.map vu8)) :
  Cs Tryz.prog 73 [(.agg ⟨flat [(1, [(vi kd)]), (32, key.map vu8), (1, [(vi dm)]), (1, [(.slice qa qn qc)])]⟩)].toArray w (fun v w1 => ∃ a cap, v = .slice a (34 + qn) cap ∧ Chg w w1 [] ∧ Own w.heap.size w1 5 1 a (34 + qn) cap ((cT (kd, key, dm, data)).map vu8)) := by
 have hk1 : 1 ≤ kd ∧ kd ≤ 4 := hq.2.1
 have hd1 : 1 ≤ dm ∧ dm ≤ 16 := hq.2.2.1
 have hqn : data.length ≤ 1000000000 := hq.2.2.2
 refine Cs.of (n := 20) (args := [(.agg ⟨flat [(1, [(vi kd)]), (32, key.map vu8), (1, [(vi dm)]), (1, [(.slice qa qn qc)])]⟩)]) Tryz.func73 rfl rfl rfl ?_
 have h_0 := HP.init w
 have h_00 := h_0.old (View.arg hv) (fun f hf => by cases hf)
 refine WP.seq (WP.reg ?_)
 refine WL.box (segs := [(1, [(vi kd)]), (32, key.map vu8), (1, [(vi dm)]), (1, [(.slice qa qn qc)])]) h_00 rfl rfl (sC sV (sC (s8 hq.1) (sC sV (sC sV sN)))) rfl (fun b_1 w_2 h_3 => ?_)
 refine qA (.slice none 0 0) rfl rfl ?_
 refine WL.nil (thn_n (WP.seq ?_))
 refine WP.drawT (SL w.heap.size [.blk b_1 .nw 100 [(1, [(vi kd)]), (32, key.map vu8), (1, [(vi dm)]), (1, [(.slice qa qn qc)])], .view qa (data.map vu8)]) (.q 0 (.q 1 (.q 2 (.q 4 (.q 5 (.s 3 (.s 6 (.q 7 .nil)))))))) (by kernel_rfl) (by kernel_rfl) rfl (by kernel_rfl) (fun w_4 hc_6 => (SL.cons ((h_3.same hc_6).ok _ M0) (SL.cons ((h_3.same hc_6).ok _ M1) (SL.nil _ _)))) (fun w_4 hc_6 => ?_)
 have h_5 := h_3.same hc_6
 refine qT rfl rfl (fun wq hS => R.fieldAddr (off' := 0) rfl underlying100 rfl sizeOf98 rfl rfl) ?_
 refine qT rfl rfl (fun wq hS => R.load1 rfl isAgg98 (hS _ M0) Sg.h) ?_
 refine qT rfl rfl (fun wq hS => R.conv (b := ((i2u8 kd) : UInt8).toNat) rfl underlying98 underlying5 (i2u8_w (by omega))) ?_
 refine qT rfl rfl (fun wq hS => R.fieldAddr (off' := 1) rfl underlying100 rfl sizeOf23 rfl rfl) ?_
 refine qT rfl rfl (fun wq hS => R.sliceA (b := b_1) (off := 1) (off' := 1) (l := 0) (h := 32) rfl EvB.dflt EvB.dflt (by decide) (by decide) underlying23 sizeOf5 rfl) ?_
 refine WT.s (oN rfl ?_)
 refine WL.buildSl (vs := [(0, (vu8 (i2u8 kd)))]) (cs := ([i2u8 kd] : List UInt8).map vu8) h_5 underlying81 sizeOf5 (zv typeInfo5 rfl) rfl rfl (by kernel_rfl) rfl (one_u8 _) rfl rfl (fun b_7 w_8 h_9 => ?_)
 refine WL.nil ?_
 refine ⟨(N1_2 h_9.ok), ?_⟩
 refine WT.s (oN rfl ?_)
 have h_10 := HP.blkRow (m := 1) (s := 1) h_9 At.h rfl (by simp only [maxLen]; decide)
 refine WL.append (km := 33) (xs := ([i2u8 kd] : List UInt8).map vu8) (ys := key.map vu8) (zs := (([i2u8 kd] : List UInt8) ++ key).map vu8) h_10 rfl rfl el81 (viewB (h_10.ok _ M1) (Sg.t rfl Sg.h)) ((len_map hq.1).trans (Nat.mul_one _).symm) (one_u8 _) (by simp only [List.map_append, List.map_nil]) rfl (by omega) (by omega) (fun _ _ => At.h) rfl (fun a_11 c_12 w_13 h_14 => ?_)
 refine WL.nil ?_
 refine ⟨(N1_2 h_14.ok), ?_⟩
 refine qT rfl rfl (fun wq hS => R.assign (v := (.slice a_11 33 c_12)) rfl) ?_
 refine WT.nil (thn_n (WP.seq ?_))
 refine WP.drawT (SL w.heap.size [.blk b_1 .nw 100 [(1, [(vi kd)]), (32, key.map vu8), (1, [(vi dm)]), (1, [(.slice qa qn qc)])], .view qa (data.map vu8)]) (.q 0 (.q 1 (.q 2 (.q 3 (.q 6 (.q 7 (.s 4 (.s 5 (.s 8 (.q 9 .nil)))))))))) (by kernel_rfl) (by kernel_rfl) rfl (by kernel_rfl) (fun w_15 hc_17 => (SL.cons ((h_14.same hc_17).ok _ M1) (SL.cons ((h_14.same hc_17).ok _ M2) (SL.nil _ _)))) (fun w_15 hc_17 => ?_)
 have h_16 := h_14.same hc_17
 refine qT rfl rfl (fun wq hS => R.move (v := (.slice a_11 33 c_12)) rfl) ?_
 refine qT rfl rfl (fun wq hS => R.fieldAddr (off' := 33) rfl underlying100 rfl sizeOf80 rfl rfl) ?_
 refine qT rfl rfl (fun wq hS => R.load1 rfl isAgg80 (hS _ M0) (Sg.t rfl (Sg.t rfl Sg.h))) ?_
 refine qT rfl rfl (fun wq hS => R.conv (b := ((i2u8 dm) : UInt8).toNat) rfl underlying80 underlying5 (i2u8_w (by omega))) ?_
 refine qT rfl rfl (fun wq hS => R.fieldAddr (off' := 34) rfl underlying100 rfl sizeOf81 rfl rfl) ?_
 refine qT rfl rfl (fun wq hS => R.load1 rfl isAgg81 (hS _ M0) (Sg.t rfl (Sg.t rfl (Sg.t rfl Sg.h)))) ?_
 refine WT.s (oN rfl ?_)
 refine WL.buildSl (vs := [(0, (vu8 (i2u8 dm)))]) (cs := ([i2u8 dm] : List UInt8).map vu8) h_16 underlying81 sizeOf5 (zv typeInfo5 rfl) rfl rfl (by kernel_rfl) rfl (one_u8 _) rfl rfl (fun b_18 w_19 h_20 => ?_)
 refine WL.nil ?_
 refine ⟨(N2_3 h_20.ok), ?_⟩
 refine WT.s (oN rfl ?_)
 refine WL.append (km := 34) (xs := (([i2u8 kd] : List UInt8) ++ key).map vu8) (ys := ([i2u8 dm] : List UInt8).map vu8) (zs := ((([i2u8 kd] : List UInt8) ++ key) ++ ([i2u8 dm] : List UInt8)).map vu8) h_20 rfl rfl el81 (viewB (h_20.ok _ M0) Sg.h) ((len_map (rfl : List.length ([i2u8 dm] : List UInt8) = 1)).trans (Nat.mul_one _).symm) (one_u8 _) (by simp only [List.map_append, List.map_nil]) rfl (by omega) (by omega) (fun _ _ => Y1) rfl (fun a_21 c_22 w_23 h_24 => ?_)
 refine WL.nil ?_
 refine ⟨(N2_3 h_24.ok), ?_⟩
 refine WT.s (oN rfl ?_)
 refine WL.append (km := 34 + qn) (xs := ((([i2u8 kd] : List UInt8) ++ key) ++ ([i2u8 dm] : List UInt8)).map vu8) (ys := data.map vu8) (zs := (((([i2u8 kd] : List UInt8) ++ key) ++ ([i2u8 dm] : List UInt8)) ++ data).map vu8) h_24 rfl rfl el81 (viewV (h_24.ok _ M3)) ((len_map hdl).trans (Nat.mul_one _).symm) (one_u8 _) (by simp only [List.map_append, List.map_nil]) (by omega) (by omega) (by omega) (fun _ _ => Y1) rfl (fun a_25 c_26 w_27 h_28 => ?_)
 refine WL.nil ?_
 refine ⟨(N2_3 h_28.ok), ?_⟩
 refine qT rfl rfl (fun wq hS => R.assign (v := (.slice a_25 (34 + qn) c_26)) rfl) ?_
 refine WT.nil (thn_n (WP.ret ?_))
 refine ret_of results73 (RV.tmp (v := (.slice a_25 (34 + qn) c_26)) rfl RV.nil) ?_
 exact ⟨_, _, by first | rfl | exact congrArg (fun n => Value.slice _ n _) (by omega), h_28.chgS, by first | exact h_28.ok _ M1 | (have hx := h_28.own M1; rwa [show 34 + qn = 34 + qn by omega] at hx)⟩

theorem c_oCl (kd dm : Int) (key data : List UInt8) (qa : Option Addr) (qn qc : Nat) (hq : okQ (kd, key, dm, data)) (hdl : data.length = qn) (bq : Nat) (w : World) (hv : View w qa (data.map vu8)) (hcb : (Ent.blk bq .ro 100 [(1, [(vi kd)]), (32, key.map vu8), (1, [(vi dm)]), (1, [(.slice qa qn qc)])]).ok w.heap.size w) :
  Cs Tryz.prog 71 [(.pointer (some ⟨bq, 0, none⟩))].toArray w (fun v w1 => v = (.agg ⟨(cF (kd, key, dm, data)).map vu8⟩) ∧ Chg w w1 []) := by
 have hk1 : 1 ≤ kd ∧ kd ≤ 4 := hq.2.1
 have hd1 : 1 ≤ dm ∧ dm ≤ 16 := hq.2.2.1
 have hqn : data.length ≤ 1000000000 := hq.2.2.2
 refine Cs.of (n := 13) (args := [(pO bq 0)]) Tryz.func71 rfl rfl rfl ?_
 have h_0 := HP.init w
 have h_01 := h_0.oldV (View.arg hv) rfl (by simp [Ent.mut])
 have h_00 := h_01.oldV hcb rfl (by simp [Ent.mut])
 refine WP.seq (WP.reg ?_)
 refine WL.alloc (segs := [(32, (zB 32).map vu8)]) h_00 (zv typeInfo23 rfl) rfl (sC (s8 lr) sN) rfl (fun b_1 w_2 h_3 => ?_)
 refine WL.nil (thn_n (WP.seq (WP.seq (WP.reg ?_))))
 refine qV rfl (R.fieldAddr (off' := 0) rfl underlying100 rfl sizeOf98 rfl rfl) (qV rfl (R.load1 rfl isAgg98 (h_3.ok _ M1) Sg.h) (qV rfl (R.bin rfl rfl (bi_eql (r := decide ((kd : Int) = 1)) rfl)) ?_))
 refine WL.nil (thn_n ?_)
 refine WP.cond (b := decide ((kd : Int) = 1)) rfl (fun c_4 => ?_) (fun c_4 => ?_)
 ·have p_5 := of_decide_eq_true c_4
  refine WP.seq (WP.reg ?_)
  refine qV rfl (R.loadA [] [(1, [(vi kd)]), (32, key.map vu8), (1, [(vi dm)]), (1, [(.slice qa qn qc)])] [] rfl isAgg100 sizeOf100 (h_3.ok _ M1) rfl rfl rfl rfl) ?_
  refine WL.call Tryz.call73 rfl rfl (c_oText kd dm key data qa qn qc hq hdl _ (viewV (h_3.ok _ M2))) rfl ?_
  rintro _ w_8 ⟨a_6, cap_7, rfl, hc_9, ho_10⟩
  have h_11 := h_3.gotRow hc_9 ho_10
  refine WL.call Tryz.call72 rfl rfl (c_Sum a_6 (34 + qn) cap_7 (cT (kd, key, dm, data)) (cT_len hq hdl) (by omega) (h_11.own M0).2.2.1 _ (ownView (h_11.ok _ M0))) rfl ?_
  rintro _ w_13 ⟨rfl, hc_12⟩
  have h_14 := h_11.same hc_12
  refine WL.storeA [] [(32, (zB 32).map vu8)] [(32, (sumL (cT (kd, key, dm, data))).map vu8)] [] h_14 rfl rfl sizeOf23 Y1 (by decide) rfl rfl rfl rfl rfl rfl (sC (s8 (sumL_len _)) sN) (fun w_15 h_16 => ?_)
  refine WL.nil (thn_n (WP.ret (thn_r ?_)))
  refine ret_of results71 (RV.cell rfl (h_16.loadA (cs := (sumL (cT (kd, key, dm, data))).map vu8) isAgg23 sizeOf23 M1 rfl rfl) RV.nil) ?_
  exact ⟨by rw [cF, if_pos p_5]; rfl, h_16.chgS⟩
 ·have p_17 := of_decide_eq_false c_4
  refine WP.skip (thn_n (WP.seq ?_))
  refine WP.drawZ 5 (SL w.heap.size [.blk b_1 .nw 23 [(32, (zB 32).map vu8)], .blk bq .ro 100 [(1, [(vi kd)]), (32, key.map vu8), (1, [(vi dm)]), (1, [(.slice qa qn qc)])], .view qa (data.map vu8)]) (.q 0 (.q 1 (.q 2 (.s 3 (.s 4 (.s 5 .nil)))))) (by kernel_rfl) (by kernel_rfl) rfl (by kernel_rfl) (fun w_18 hc_20 => (SL.cons ((h_3.same hc_20).ok _ M0) (SL.cons ((h_3.same hc_20).ok _ M1) (SL.cons ((h_3.same hc_20).ok _ M2) (SL.nil _ _))))) (fun w_18 hc_20 => ?_)
  have h_19 := h_3.same hc_20
  refine ZT.q rfl (Wn.no rfl) rfl rfl (fun wq hS => R.fieldAddr (off' := 1) rfl underlying100 rfl sizeOf23 rfl rfl) ?_
  refine ZT.q rfl (Wn.no rfl) rfl rfl (fun wq hS => R.sliceA (b := bq) (off := 1) (off' := 1) (l := 0) (h := 32) rfl EvB.dflt EvB.dflt (by decide) (by decide) underlying23 sizeOf5 rfl) ?_
  refine ZT.q rfl (Wn.no rfl) rfl rfl (fun wq hS => R.loadA [] [(1, [(vi kd)]), (32, key.map vu8), (1, [(vi dm)]), (1, [(.slice qa qn qc)])] [] rfl isAgg100 sizeOf100 (hS _ M1) rfl rfl rfl rfl) ?_
  refine ZT.s ?_
  refine OpZ.one rfl (Wn.no rfl) ?_
  refine WL.call Tryz.call73 rfl rfl (c_oText kd dm key data qa qn qc hq hdl _ (viewV (h_19.ok _ M2))) rfl ?_
  rintro _ w_23 ⟨a_21, cap_22, rfl, hc_24, ho_25⟩
  have h_26 := h_19.gotRow hc_24 ho_25
  refine WL.nil ?_
  refine ⟨(N1_2_3 h_26.ok), ?_⟩
  refine ZT.s ?_
  refine OpZ.one rfl (Wn.no rfl) ?_
  refine WL.call Tryz.call74 rfl rfl (c_Tag (some ⟨bq, 1, none⟩) 32 32 key hq.1 (by decide) (by decide) a_21 (34 + qn) cap_22 (cT (kd, key, dm, data)) (cT_len hq hdl) (h_26.own M0).2.2.1 (by omega) _ (viewB (h_26.ok _ M2) (Sg.t rfl Sg.h)) (ownView (h_26.ok _ M0))) rfl ?_
  rintro _ w_28 ⟨rfl, hc_27⟩
  have h_29 := h_26.same hc_27
  refine WL.nil ?_
  refine ⟨(N1_2_3 h_29.ok), ?_⟩
  refine ZT.s ?_
  refine OpZ.last rfl (Wn.no rfl) ?_
  refine WL.storeA [] [(32, (zB 32).map vu8)] [(32, (tagL key (cT (kd, key, dm, data))).map vu8)] [] h_29 rfl rfl sizeOf23 Y1 (by decide) rfl rfl rfl rfl rfl rfl (sC (s8 (tagL_len _ _)) sN) (fun w_30 h_31 => ?_)
  refine WL.nil (ZT.nil (thn_n (WP.ret ?_)))
  refine ret_of results71 (RV.cell rfl (h_31.loadA (cs := (tagL key (cT (kd, key, dm, data))).map vu8) isAgg23 sizeOf23 M1 rfl rfl) RV.nil) ?_
  exact ⟨by rw [cF, if_neg p_17]; rfl, h_31.chgS⟩

theorem c_ans_hit {w00 : World} {L : List Ent} (id : Bool) (ob mp : Nat) (ms df : List UInt8) (hms : ms.length = 32) (da : Option Addr) (dn dc u : Nat) (hdf : df.length = 32 * dn) (la : Option Addr) (lc : Nat) (lx : List Value) (lg : Lg) (hu : u ≤ 1000000) (hlg : lg.length ≤ 1000000) (kd dm : Int) (key data : List UInt8) (qa : Option Addr) (qn qc : Nat) (hq : okQ (kd, key, dm, data)) (hdl : data.length = qn) (cv : Value) (i : Nat) (hfd : fdq (kd, key, dm, data) lg 0 = some i) (w : World) (h_0 : HP w00 w (Ent.blk ob .nw 106 [(1, [(.bool id)]), (32, ms.map vu8), (1, [(.slice da dn dc)]), (1, [(vi ((u : Nat) : Int))]), (1, [(.map (some mp))]), (1, [(.slice la lg.length lc)])] :: Ent.row la lg.length lc 102 67 lx :: Ent.obj mp .nw (.map (mArr lg) lg.length) :: Ent.pin (sblks lx) (fun w => Lgs w lx lg) :: Ent.view da (df.map vu8) :: Ent.view qa (data.map vu8) :: L)) :
  Cs Tryz.prog 70 [(.pointer (some ⟨ob, 0, none⟩)), (.agg ⟨flat [(1, [(vi kd)]), (32, key.map vu8), (1, [(vi dm)]), (1, [(.slice qa qn qc)])]⟩), cv].toArray w (fun v w1 => ∃ la' lc' lx', v = (.agg ⟨(anD id df dn u lg (kd, key, dm, data)).map vu8⟩) ∧ HP w00 w1 (Ent.blk ob .nw 106 [(1, [(.bool id)]), (32, ms.map vu8), (1, [(.slice da dn dc)]), (1, [(vi (((anU id u lg (kd, key, dm, data)) : Nat) : Int))]), (1, [(.map (some mp))]), (1, [(.slice la' ((anL id df dn u lg (kd, key, dm, data)).length) lc')])] :: Ent.row la' ((anL id df dn u lg (kd, key, dm, data)).length) lc' 102 67 lx' :: Ent.obj mp .nw (.map (mArr (anL id df dn u lg (kd, key, dm, data))) ((anL id df dn u lg (kd, key, dm, data)).length)) :: Ent.pin (sblks lx') (fun w => Lgs w lx' (anL id df dn u lg (kd, key, dm, data))) :: Ent.view da (df.map vu8) :: Ent.view qa (data.map vu8) :: L)) := by
 have hlgs : Lgs w lx lg := (h_0.ok _ M3).1
 have hlo := hlgs.ok
 have hqn : data.length ≤ 1000000000 := hq.2.2.2
 have hil : i < lg.length := by have := fdq_lt hfd; omega
 refine Cs.of (n := 74) (args := [(pO ob 0), (.agg ⟨flat [(1, [(vi kd)]), (32, key.map vu8), (1, [(vi dm)]), (1, [(.slice qa qn qc)])]⟩), cv]) Tryz.func70 rfl rfl rfl ?_
 refine WP.seq (WP.reg ?_)
 refine WL.box (segs := [(1, [(vi kd)]), (32, key.map vu8), (1, [(vi dm)]), (1, [(.slice qa qn qc)])]) h_0 rfl rfl (sC sV (sC (s8 hq.1) (sC sV (sC sV sN)))) rfl (fun b_1 w_2 h_3 => ?_)
 refine WL.alloc (segs := [(32, (zB 32).map vu8)]) h_3 (zv typeInfo23 rfl) rfl (sC (s8 lr) sN) rfl (fun b_4 w_5 h_6 => ?_)
 refine WL.nil (thn_n (WP.seq (WP.reg ?_)))
 refine qV rfl (R.fieldAddr (off' := 0) rfl underlying100 rfl sizeOf98 rfl rfl) (qV rfl (R.load1 rfl isAgg98 (h_6.ok _ M1) Sg.h) (qV rfl (R.fieldAddr (off' := 1) rfl underlying100 rfl sizeOf23 rfl rfl) (qV rfl (R.loadA [(1, [(vi kd)])] [(32, key.map vu8)] [(1, [(vi dm)]), (1, [(.slice qa qn qc)])] (cs := key.map vu8) rfl isAgg23 sizeOf23 (h_6.ok _ M1) rfl rfl rfl rfl) (qV rfl (R.fieldAddr (off' := 33) rfl underlying100 rfl sizeOf80 rfl rfl) (qV rfl (R.load1 rfl isAgg80 (h_6.ok _ M1) (Sg.t rfl (Sg.t rfl Sg.h))) (qV rfl (R.fieldAddr (off' := 34) rfl underlying100 rfl sizeOf81 rfl rfl) (qV rfl (R.load1 rfl isAgg81 (h_6.ok _ M1) (Sg.t rfl (Sg.t rfl (Sg.t rfl Sg.h)))) (qV rfl (R.toStr (bs := data) rfl underlying81 underlying5 underlying9 (viewV (h_6.ok _ M7)) hdl) (qV rfl (R.buildS (pl := [(0, 1), (1, 32), (33, 1), (34, 1)]) (zs := [(1, [(vi 0)]), (32, (zB 32).map vu8), (1, [(vi 0)]), (1, [(.string (bstr ([] : List UInt8)))])]) (vs := [(0, (vi kd)), (1, (.agg ⟨key.map vu8⟩)), (2, (vi dm)), (3, (.string (bstr data)))]) (out := [(1, [(vi kd)]), (32, key.map vu8), (1, [(vi dm)]), (1, [(.string (bstr data))])]) underlying130 (zv typeInfo130 rfl) rfl (sC sV (sC (s8 lr) (sC sV (sC sV sN)))) (pl130 _ underlying130) rfl (FillR.cons [] [(1, [(vi 0)])] [(1, [(vi kd)])] [(32, (zB 32).map vu8), (1, [(vi 0)]), (1, [(.string (bstr ([] : List UInt8)))])] rfl rfl rfl rfl (sC sV sN) rfl rfl rfl (FillR.cons [(1, [(vi kd)])] [(32, (zB 32).map vu8)] [(32, key.map vu8)] [(1, [(vi 0)]), (1, [(.string (bstr ([] : List UInt8)))])] rfl rfl rfl rfl (sC (s8 hq.1) sN) rfl rfl rfl (FillR.cons [(1, [(vi kd)]), (32, key.map vu8)] [(1, [(vi 0)])] [(1, [(vi dm)])] [(1, [(.string (bstr ([] : List UInt8)))])] rfl rfl rfl rfl (sC sV sN) rfl rfl rfl (FillR.cons [(1, [(vi kd)]), (32, key.map vu8), (1, [(vi dm)])] [(1, [(.string (bstr ([] : List UInt8)))])] [(1, [(.string (bstr data))])] [] rfl rfl rfl rfl (sC sV sN) rfl rfl rfl FillR.nil)))) rfl) ?_)))))))))
 refine WL.alloc (segs := [(1, [(vi 0)]), (32, (zB 32).map vu8), (1, [(vi 0)]), (1, [(.string (bstr ([] : List UInt8)))])]) h_6 (zv typeInfo130 rfl) rfl (sC sV (sC (s8 lr) (sC sV (sC sV sN)))) rfl (fun b_8 w_9 h_10 => ?_)
 refine WL.storeA [] [(1, [(vi 0)]), (32, (zB 32).map vu8), (1, [(vi 0)]), (1, [(.string (bstr ([] : List UInt8)))])] [(1, [(vi kd)]), (32, key.map vu8), (1, [(vi dm)]), (1, [(.string (bstr data))])] [] h_10 rfl rfl sizeOf130 At.h (by decide) rfl rfl rfl rfl rfl rfl (sC sV (sC (s8 hq.1) (sC sV (sC sV sN)))) (fun w_11 h_12 => ?_)
 refine WL.nil (thn_n (WP.seq (WP.seq ?_)))
 refine WP.drawT (SL w00.heap.size [.blk b_8 .nw 130 [(1, [(vi kd)]), (32, key.map vu8), (1, [(vi dm)]), (1, [(.string (bstr data))])], .blk b_4 .nw 23 [(32, (zB 32).map vu8)], .blk b_1 .nw 100 [(1, [(vi kd)]), (32, key.map vu8), (1, [(vi dm)]), (1, [(.slice qa qn qc)])], .blk ob .nw 106 [(1, [(.bool id)]), (32, ms.map vu8), (1, [(.slice da dn dc)]), (1, [(vn u)]), (1, [(.map (some mp))]), (1, [(.slice la lg.length lc)])], .row la lg.length lc 102 67 lx, .obj mp .nw (.map (mArr lg) lg.length), .pin (sblks lx) (fun w => Lgs w lx lg), .view da (df.map vu8), .view qa (data.map vu8)]) (.q 0 (.q 1 (.q 2 (.q 3 (.q 4 (.s 5 (.q 6 (.q 7 (.q 8 (.q 9 (.q 10 .nil))))))))))) (by kernel_rfl) (by kernel_rfl) rfl (by kernel_rfl) (fun w_13 hc_15 => (SL.cons ((h_12.same hc_15).ok _ M0) (SL.cons ((h_12.same hc_15).ok _ M1) (SL.cons ((h_12.same hc_15).ok _ M2) (SL.cons ((h_12.same hc_15).ok _ M3) (SL.cons ((h_12.same hc_15).ok _ M4) (SL.cons ((h_12.same hc_15).ok _ M5) (SL.cons ((h_12.same hc_15).ok _ M6) (SL.cons ((h_12.same hc_15).ok _ M7) (SL.cons ((h_12.same hc_15).ok _ M8) (SL.nil _ _))))))))))) (fun w_13 hc_15 => ?_)
 have h_14 := h_12.same hc_15
 refine qT rfl rfl (fun wq hS => R.move (v := (pO ob 0)) rfl) ?_
 refine qT rfl rfl (fun wq hS => R.nilCheck rfl) ?_
 refine qT rfl rfl (fun wq hS => R.fieldAddr (off' := 35) rfl underlying106 rfl sizeOf104 rfl rfl) ?_
 refine qT rfl rfl (fun wq hS => R.load1 rfl isAgg104 (hS _ M3) (Sg.t rfl (Sg.t rfl (Sg.t rfl (Sg.t rfl Sg.h))))) ?_
 refine qT rfl rfl (fun wq hS => R.loadA [] [(1, [(vi kd)]), (32, key.map vu8), (1, [(vi dm)]), (1, [(.string (bstr data))])] [] rfl isAgg130 sizeOf130 (hS _ M0) rfl rfl rfl rfl) ?_
 refine WT.s (oN rfl ?_)
 refine qV rfl (R.lookup (r := some (i, vi (i : Int))) (z := (vi 0)) (v := (vn i)) (ok := true) rfl rfl underlying104 (h_14.ok _ M5) (Ck.agg kt130 (by decide) ag130 (typQ (kd, key, dm, data) hq)) (log_hit kt130 (by decide) ag130 typQ hq hlo hfd) (zv typeInfo3 rfl) rfl rfl) ?_
 refine WL.nil ?_
 refine ⟨(N0_1_2_3_4_5_6_7_8 h_14.ok), ?_⟩
 refine qT rfl rfl (fun wq hS => R.move (v := (.tuple [(vn i), (.bool true)].toArray)) rfl) ?_
 refine qT rfl rfl (fun wq hS => R.extract rfl rfl) ?_
 refine qT rfl rfl (fun wq hS => R.extract rfl rfl) ?_
 refine qT rfl rfl (fun wq hS => R.assign (v := (vn i)) rfl) ?_
 refine qT rfl rfl (fun wq hS => R.assign (v := (.bool true)) rfl) ?_
 refine WT.nil (thn_n (WP.seq (WP.reg ?_)))
 refine qM (.bool true) rfl rfl ?_
 refine WL.nil (thn_n ?_)
 refine WP.condT rfl ?_
 refine WP.seq (WP.reg ?_)
 refine qM (pO ob 0) rfl rfl (qV rfl (R.nilCheck rfl) (qV rfl (R.fieldAddr (off' := 36) rfl underlying106 rfl sizeOf58 rfl rfl) (qV rfl (R.load1 rfl isAgg58 (h_14.ok _ M3) (Sg.t rfl (Sg.t rfl (Sg.t rfl (Sg.t rfl (Sg.t rfl Sg.h)))))) (qM (vn i) rfl rfl (qV rfl (R.indexS (a := la) (i := i) (off := i * 67) (xs := lx) rfl rfl rfl (by omega) (ownView (h_14.ok _ M4)) (by rw [Lgs.len hlgs]; omega) underlying58 sizeOf102 rfl) (qV rfl (R.fieldG (a := la) (i := i * 67) (off' := i * 67 + 35) rfl underlying102 rfl sizeOf23 rfl rfl) (qV rfl (R.loadGA (a := la) (i := i * 67 + 35) (xs := lx) (cs := ((lg.getD i ((kd, key, dm, data), [])).2).map vu8) rfl (ownView (h_14.ok _ M4)) isAgg23 sizeOf23 (Lgs.ans (z := ((kd, key, dm, data), [])) hlgs (i := i) hil).1 (len_map (Lgs.ans (z := ((kd, key, dm, data), [])) hlgs (i := i) hil).2) (by decide)) ?_)))))))
 refine WL.storeA [] [(32, (zB 32).map vu8)] [(32, ((lg.getD i ((kd, key, dm, data), [])).2).map vu8)] [] h_14 rfl rfl sizeOf23 Y1 (by decide) rfl rfl rfl rfl rfl rfl (sC (s8 ((Lgs.ans (z := ((kd, key, dm, data), [])) hlgs (i := i) hil).2)) sN) (fun w_16 h_17 => ?_)
 refine WL.nil (thn_n (WP.ret (thn_r ?_)))
 refine ret_of results70 (RV.cell rfl (h_17.loadA (cs := ((lg.getD i ((kd, key, dm, data), [])).2).map vu8) isAgg23 sizeOf23 M1 rfl rfl) RV.nil) ?_
 have h_26 := ((((((((h_17.drop rfl).drop rfl).drop rfl).up J5).up J5).up J5).up J5).up J5).up J5
 exact ⟨la, lc, lx, by rw [anD_hit hfd]; rfl, by rw [anU_hit hfd, anL_hit hfd]; exact h_26⟩

theorem c_ans_missT {w00 : World} {L : List Ent} (ob mp : Nat) (ms df : List UInt8) (hms : ms.length = 32) (da : Option Addr) (dn dc u : Nat) (hdf : df.length = 32 * dn) (la : Option Addr) (lc : Nat) (lx : List Value) (lg : Lg) (hu : u ≤ 1000000) (hlg : lg.length ≤ 1000000) (kd dm : Int) (key data : List UInt8) (qa : Option Addr) (qn qc : Nat) (hq : okQ (kd, key, dm, data)) (hdl : data.length = qn) (cv : Value) (hfd : fdq (kd, key, dm, data) lg 0 = none) (w : World) (h_0 : HP w00 w (Ent.blk ob .nw 106 [(1, [(.bool true)]), (32, ms.map vu8), (1, [(.slice da dn dc)]), (1, [(vi ((u : Nat) : Int))]), (1, [(.map (some mp))]), (1, [(.slice la lg.length lc)])] :: Ent.row la lg.length lc 102 67 lx :: Ent.obj mp .nw (.map (mArr lg) lg.length) :: Ent.pin (sblks lx) (fun w => Lgs w lx lg) :: Ent.view da (df.map vu8) :: Ent.view qa (data.map vu8) :: L)) :
  Cs Tryz.prog 70 [(.pointer (some ⟨ob, 0, none⟩)), (.agg ⟨flat [(1, [(vi kd)]), (32, key.map vu8), (1, [(vi dm)]), (1, [(.slice qa qn qc)])]⟩), cv].toArray w (fun v w1 => ∃ la' lc' lx', v = (.agg ⟨(anD true df dn u lg (kd, key, dm, data)).map vu8⟩) ∧ HP w00 w1 (Ent.blk ob .nw 106 [(1, [(.bool true)]), (32, ms.map vu8), (1, [(.slice da dn dc)]), (1, [(vi (((anU true u lg (kd, key, dm, data)) : Nat) : Int))]), (1, [(.map (some mp))]), (1, [(.slice la' ((anL true df dn u lg (kd, key, dm, data)).length) lc')])] :: Ent.row la' ((anL true df dn u lg (kd, key, dm, data)).length) lc' 102 67 lx' :: Ent.obj mp .nw (.map (mArr (anL true df dn u lg (kd, key, dm, data))) ((anL true df dn u lg (kd, key, dm, data)).length)) :: Ent.pin (sblks lx') (fun w => Lgs w lx' (anL true df dn u lg (kd, key, dm, data))) :: Ent.view da (df.map vu8) :: Ent.view qa (data.map vu8) :: L)) := by
 have hlgs : Lgs w lx lg := (h_0.ok _ M3).1
 have hlo := hlgs.ok
 have hqn : data.length ≤ 1000000000 := hq.2.2.2
 refine Cs.of (n := 74) (args := [(pO ob 0), (.agg ⟨flat [(1, [(vi kd)]), (32, key.map vu8), (1, [(vi dm)]), (1, [(.slice qa qn qc)])]⟩), cv]) Tryz.func70 rfl rfl rfl ?_
 refine WP.seq (WP.reg ?_)
 refine WL.box (segs := [(1, [(vi kd)]), (32, key.map vu8), (1, [(vi dm)]), (1, [(.slice qa qn qc)])]) h_0 rfl rfl (sC sV (sC (s8 hq.1) (sC sV (sC sV sN)))) rfl (fun b_1 w_2 h_3 => ?_)
 refine WL.alloc (segs := [(32, (zB 32).map vu8)]) h_3 (zv typeInfo23 rfl) rfl (sC (s8 lr) sN) rfl (fun b_4 w_5 h_6 => ?_)
 refine WL.nil (thn_n (WP.seq (WP.reg ?_)))
 refine qV rfl (R.fieldAddr (off' := 0) rfl underlying100 rfl sizeOf98 rfl rfl) (qV rfl (R.load1 rfl isAgg98 (h_6.ok _ M1) Sg.h) (qV rfl (R.fieldAddr (off' := 1) rfl underlying100 rfl sizeOf23 rfl rfl) (qV rfl (R.loadA [(1, [(vi kd)])] [(32, key.map vu8)] [(1, [(vi dm)]), (1, [(.slice qa qn qc)])] (cs := key.map vu8) rfl isAgg23 sizeOf23 (h_6.ok _ M1) rfl rfl rfl rfl) (qV rfl (R.fieldAddr (off' := 33) rfl underlying100 rfl sizeOf80 rfl rfl) (qV rfl (R.load1 rfl isAgg80 (h_6.ok _ M1) (Sg.t rfl (Sg.t rfl Sg.h))) (qV rfl (R.fieldAddr (off' := 34) rfl underlying100 rfl sizeOf81 rfl rfl) (qV rfl (R.load1 rfl isAgg81 (h_6.ok _ M1) (Sg.t rfl (Sg.t rfl (Sg.t rfl Sg.h)))) (qV rfl (R.toStr (bs := data) rfl underlying81 underlying5 underlying9 (viewV (h_6.ok _ M7)) hdl) (qV rfl (R.buildS (pl := [(0, 1), (1, 32), (33, 1), (34, 1)]) (zs := [(1, [(vi 0)]), (32, (zB 32).map vu8), (1, [(vi 0)]), (1, [(.string (bstr ([] : List UInt8)))])]) (vs := [(0, (vi kd)), (1, (.agg ⟨key.map vu8⟩)), (2, (vi dm)), (3, (.string (bstr data)))]) (out := [(1, [(vi kd)]), (32, key.map vu8), (1, [(vi dm)]), (1, [(.string (bstr data))])]) underlying130 (zv typeInfo130 rfl) rfl (sC sV (sC (s8 lr) (sC sV (sC sV sN)))) (pl130 _ underlying130) rfl (FillR.cons [] [(1, [(vi 0)])] [(1, [(vi kd)])] [(32, (zB 32).map vu8), (1, [(vi 0)]), (1, [(.string (bstr ([] : List UInt8)))])] rfl rfl rfl rfl (sC sV sN) rfl rfl rfl (FillR.cons [(1, [(vi kd)])] [(32, (zB 32).map vu8)] [(32, key.map vu8)] [(1, [(vi 0)]), (1, [(.string (bstr ([] : List UInt8)))])] rfl rfl rfl rfl (sC (s8 hq.1) sN) rfl rfl rfl (FillR.cons [(1, [(vi kd)]), (32, key.map vu8)] [(1, [(vi 0)])] [(1, [(vi dm)])] [(1, [(.string (bstr ([] : List UInt8)))])] rfl rfl rfl rfl (sC sV sN) rfl rfl rfl (FillR.cons [(1, [(vi kd)]), (32, key.map vu8), (1, [(vi dm)])] [(1, [(.string (bstr ([] : List UInt8)))])] [(1, [(.string (bstr data))])] [] rfl rfl rfl rfl (sC sV sN) rfl rfl rfl FillR.nil)))) rfl) ?_)))))))))
 refine WL.alloc (segs := [(1, [(vi 0)]), (32, (zB 32).map vu8), (1, [(vi 0)]), (1, [(.string (bstr ([] : List UInt8)))])]) h_6 (zv typeInfo130 rfl) rfl (sC sV (sC (s8 lr) (sC sV (sC sV sN)))) rfl (fun b_8 w_9 h_10 => ?_)
 refine WL.storeA [] [(1, [(vi 0)]), (32, (zB 32).map vu8), (1, [(vi 0)]), (1, [(.string (bstr ([] : List UInt8)))])] [(1, [(vi kd)]), (32, key.map vu8), (1, [(vi dm)]), (1, [(.string (bstr data))])] [] h_10 rfl rfl sizeOf130 At.h (by decide) rfl rfl rfl rfl rfl rfl (sC sV (sC (s8 hq.1) (sC sV (sC sV sN)))) (fun w_11 h_12 => ?_)
 refine WL.nil (thn_n (WP.seq (WP.seq ?_)))
 refine WP.drawT (SL w00.heap.size [.blk b_8 .nw 130 [(1, [(vi kd)]), (32, key.map vu8), (1, [(vi dm)]), (1, [(.string (bstr data))])], .blk b_4 .nw 23 [(32, (zB 32).map vu8)], .blk b_1 .nw 100 [(1, [(vi kd)]), (32, key.map vu8), (1, [(vi dm)]), (1, [(.slice qa qn qc)])], .blk ob .nw 106 [(1, [(.bool true)]), (32, ms.map vu8), (1, [(.slice da dn dc)]), (1, [(vn u)]), (1, [(.map (some mp))]), (1, [(.slice la lg.length lc)])], .row la lg.length lc 102 67 lx, .obj mp .nw (.map (mArr lg) lg.length), .pin (sblks lx) (fun w => Lgs w lx lg), .view da (df.map vu8), .view qa (data.map vu8)]) (.q 0 (.q 1 (.q 2 (.q 3 (.q 4 (.s 5 (.q 6 (.q 7 (.q 8 (.q 9 (.q 10 .nil))))))))))) (by kernel_rfl) (by kernel_rfl) rfl (by kernel_rfl) (fun w_13 hc_15 => (SL.cons ((h_12.same hc_15).ok _ M0) (SL.cons ((h_12.same hc_15).ok _ M1) (SL.cons ((h_12.same hc_15).ok _ M2) (SL.cons ((h_12.same hc_15).ok _ M3) (SL.cons ((h_12.same hc_15).ok _ M4) (SL.cons ((h_12.same hc_15).ok _ M5) (SL.cons ((h_12.same hc_15).ok _ M6) (SL.cons ((h_12.same hc_15).ok _ M7) (SL.cons ((h_12.same hc_15).ok _ M8) (SL.nil _ _))))))))))) (fun w_13 hc_15 => ?_)
 have h_14 := h_12.same hc_15
 refine qT rfl rfl (fun wq hS => R.move (v := (pO ob 0)) rfl) ?_
 refine qT rfl rfl (fun wq hS => R.nilCheck rfl) ?_
 refine qT rfl rfl (fun wq hS => R.fieldAddr (off' := 35) rfl underlying106 rfl sizeOf104 rfl rfl) ?_
 refine qT rfl rfl (fun wq hS => R.load1 rfl isAgg104 (hS _ M3) (Sg.t rfl (Sg.t rfl (Sg.t rfl (Sg.t rfl Sg.h))))) ?_
 refine qT rfl rfl (fun wq hS => R.loadA [] [(1, [(vi kd)]), (32, key.map vu8), (1, [(vi dm)]), (1, [(.string (bstr data))])] [] rfl isAgg130 sizeOf130 (hS _ M0) rfl rfl rfl rfl) ?_
 refine WT.s (oN rfl ?_)
 refine qV rfl (R.lookup (r := none) (z := (vi 0)) (v := (vi 0)) (ok := false) rfl rfl underlying104 (h_14.ok _ M5) (Ck.agg kt130 (by decide) ag130 (typQ (kd, key, dm, data) hq)) (log_miss kt130 (by decide) ag130 typQ hq hlo hfd) (zv typeInfo3 rfl) rfl rfl) ?_
 refine WL.nil ?_
 refine ⟨(N0_1_2_3_4_5_6_7_8 h_14.ok), ?_⟩
 refine qT rfl rfl (fun wq hS => R.move (v := (.tuple [(vi 0), (.bool false)].toArray)) rfl) ?_
 refine qT rfl rfl (fun wq hS => R.extract rfl rfl) ?_
 refine qT rfl rfl (fun wq hS => R.extract rfl rfl) ?_
 refine qT rfl rfl (fun wq hS => R.assign (v := (vi 0)) rfl) ?_
 refine qT rfl rfl (fun wq hS => R.assign (v := (.bool false)) rfl) ?_
 refine WT.nil (thn_n (WP.seq (WP.reg ?_)))
 refine qM (.bool false) rfl rfl ?_
 refine WL.nil (thn_n ?_)
 refine WP.condF rfl ?_
 refine WP.skip (thn_n (WP.seq (WP.reg ?_)))
 refine WL.alloc (segs := [(32, (zB 32).map vu8)]) h_14 (zv typeInfo23 rfl) rfl (sC (s8 lr) sN) rfl (fun b_16 w_17 h_18 => ?_)
 refine WL.nil (thn_n (WP.seq (WP.seq (WP.reg ?_))))
 refine qM (pO ob 0) rfl rfl (qV rfl (R.nilCheck rfl) (qV rfl (R.fieldAddr (off' := 0) rfl underlying106 rfl sizeOf4 rfl rfl) (qV rfl (R.load1 rfl isAgg4 (h_18.ok _ M4) Sg.h) ?_)))
 refine WL.nil (thn_n ?_)
 refine WP.condT rfl ?_
 refine WP.reg ?_
 refine qM (pO ob 0) rfl rfl ?_
 have h_20 := (h_18.up J8).up J5
 refine WL.call Tryz.call80 rfl rfl (c_draw true ob mp ms df hms da dn dc u hdf la lc lx lg (by omega) (by omega) _ h_20) rfl ?_
 rintro _ w_21 ⟨rfl, h_22⟩
 refine WL.storeA [] [(32, (zB 32).map vu8)] [(32, (drawF df dn u).map vu8)] [] h_22 rfl rfl sizeOf23 Y2 (by decide) rfl rfl rfl rfl rfl rfl (sC (s8 (drawF_len hdf)) sN) (fun w_23 h_24 => ?_)
 refine WL.nil (thn_n (WP.seq (WP.reg ?_)))
 refine qV rfl (R.fieldAddr (off' := 34) rfl underlying100 rfl sizeOf81 rfl rfl) (qV rfl (R.load1 rfl isAgg81 (h_24.ok _ M5) (Sg.t rfl (Sg.t rfl (Sg.t rfl Sg.h)))) ?_)
 refine WL.call Tryz.call56 rfl rfl (c_Clone qa qn qc data hdl (by omega) _ (viewV (h_24.ok _ M9))) rfl ?_
 rintro _ w_27 ⟨a_25, cap_26, rfl, hc_28, ho_29⟩
 have h_30 := h_24.gotRow hc_28 ho_29
 refine qV rfl (R.fieldAddr (off' := 34) rfl underlying100 rfl sizeOf81 rfl rfl) ?_
 refine WL.store1 h_30 rfl rfl sizeOf81 rfl Y6 (by decide) (Sg.t rfl (Sg.t rfl (Sg.t rfl Sg.h))) (fun w_31 h_32 => ?_)
 refine WL.nil (thn_n (WP.seq ?_))
 refine WP.drawT (SL w00.heap.size [.row a_25 qn cap_26 5 1 (data.map vu8), .blk ob .nw 106 [(1, [(.bool true)]), (32, ms.map vu8), (1, [(.slice da dn dc)]), (1, [(vn ((u + 1)))]), (1, [(.map (some mp))]), (1, [(.slice la lg.length lc)])], .view da (df.map vu8), .blk b_16 .nw 23 [(32, (drawF df dn u).map vu8)], .blk b_8 .nw 130 [(1, [(vi kd)]), (32, key.map vu8), (1, [(vi dm)]), (1, [(.string (bstr data))])], .blk b_4 .nw 23 [(32, (zB 32).map vu8)], .blk b_1 .nw 100 [(1, [(vi kd)]), (32, key.map vu8), (1, [(vi dm)]), (1, [(.slice a_25 qn cap_26)])], .row la lg.length lc 102 67 lx, .pin (sblks lx) (fun w => Lgs w lx lg), .view qa (data.map vu8)]) (.q 0 (.q 1 (.q 2 (.q 3 (.q 4 (.q 5 (.q 6 (.q 7 (.q 8 (.q 9 (.s 10 .nil))))))))))) (by kernel_rfl) (by kernel_rfl) rfl (by kernel_rfl) (fun w_33 hc_35 => (SL.cons ((h_32.same hc_35).ok _ M0) (SL.cons ((h_32.same hc_35).ok _ M1) (SL.cons ((h_32.same hc_35).ok _ M2) (SL.cons ((h_32.same hc_35).ok _ M3) (SL.cons ((h_32.same hc_35).ok _ M4) (SL.cons ((h_32.same hc_35).ok _ M5) (SL.cons ((h_32.same hc_35).ok _ M6) (SL.cons ((h_32.same hc_35).ok _ M7) (SL.cons ((h_32.same hc_35).ok _ M9) (SL.cons ((h_32.same hc_35).ok _ M10) (SL.nil _ _)))))))))))) (fun w_33 hc_35 => ?_)
 have h_34 := h_32.same hc_35
 refine qT rfl rfl (fun wq hS => R.move (v := (pO ob 0)) rfl) ?_
 refine qT rfl rfl (fun wq hS => R.nilCheck rfl) ?_
 refine qT rfl rfl (fun wq hS => R.fieldAddr (off' := 35) rfl underlying106 rfl sizeOf104 rfl rfl) ?_
 refine qT rfl rfl (fun wq hS => R.load1 rfl isAgg104 (hS _ M1) (Sg.t rfl (Sg.t rfl (Sg.t rfl (Sg.t rfl Sg.h))))) ?_
 refine qT rfl rfl (fun wq hS => R.loadA [] [(1, [(vi kd)]), (32, key.map vu8), (1, [(vi dm)]), (1, [(.string (bstr data))])] [] rfl isAgg130 sizeOf130 (hS _ M4) rfl rfl rfl rfl) ?_
 refine qT rfl rfl (fun wq hS => R.move (v := (pO ob 0)) rfl) ?_
 refine qT rfl rfl (fun wq hS => R.nilCheck rfl) ?_
 refine qT rfl rfl (fun wq hS => R.fieldAddr (off' := 36) rfl underlying106 rfl sizeOf58 rfl rfl) ?_
 refine qT rfl rfl (fun wq hS => R.load1 rfl isAgg58 (hS _ M1) (Sg.t rfl (Sg.t rfl (Sg.t rfl (Sg.t rfl (Sg.t rfl Sg.h)))))) ?_
 refine qT rfl rfl (fun wq hS => R.lenS (a := la) (m := lg.length) rfl rfl underlying58) ?_
 refine WT.s (oN rfl ?_)
 refine WL.mapUpdate (k := (.agg ⟨flat [(1, [(vi kd)]), (32, key.map vu8), (1, [(vi dm)]), (1, [(.string (bstr data))])]⟩)) (v := (vn (lg.length))) h_34 rfl rfl rfl underlying104 Y8 (by decide) (Ck.agg kt130 (by decide) ag130 (typQ (kd, key, dm, data) hq)) (log_miss kt130 (by decide) ag130 typQ hq hlo hfd) (fun w_36 h_37 => ?_)
 refine WL.nil ?_
 refine ⟨(SL.cons (h_37.ok _ M0) (SL.cons (h_37.ok _ M1) (SL.cons (h_37.ok _ M2) (SL.cons (h_37.ok _ M3) (SL.cons (h_37.ok _ M4) (SL.cons (h_37.ok _ M5) (SL.cons (h_37.ok _ M6) (SL.cons (h_37.ok _ M7) (SL.cons (h_37.ok _ M9) (SL.cons (h_37.ok _ M10) (SL.nil _ _))))))))))), ?_⟩
 refine WT.nil (thn_n (WP.seq ?_))
 refine WP.cutG (G := Nat × Option Addr × Nat) [61, 62, 63, 64, 65, 66, 67, 68, 69, 70, 71, 72] (fun (bY11Y8Y0Y0, aY11Y9Y0Y0, cY11Y9Y0Y0) => [(61, (pO ob 0)), (62, (pO ob 0)), (63, (pO ob 0)), (64, (pO ob 36)), (66, (.agg ⟨flat [(1, [(vi kd)]), (32, key.map vu8), (1, [(vi dm)]), (1, [(.slice a_25 qn cap_26)])]⟩)), (67, (.agg ⟨(drawF df dn u).map vu8⟩)), (68, (.agg ⟨flat [(1, [(vi kd)]), (32, key.map vu8), (1, [(vi dm)]), (1, [(.slice a_25 qn cap_26)]), (32, (drawF df dn u).map vu8)]⟩)), (65, (.slice la lg.length lc)), (69, (.slice (some ⟨bY11Y8Y0Y0, 0, none⟩) 1 1)), (70, (.slice aY11Y9Y0Y0 (lg.length + 1) cY11Y9Y0Y0)), (71, (pO ob 0)), (72, (pO ob 36))]) (fun (bY11Y8Y0Y0, aY11Y9Y0Y0, cY11Y9Y0Y0) w1 => HP w00 w1 (Ent.blk bY11Y8Y0Y0 .nw 102 [(67, aC (kd, key, dm, data) (.slice a_25 qn cap_26) (drawF df dn u))] :: Ent.row a_25 qn cap_26 5 1 (data.map vu8) :: Ent.blk ob .nw 106 [(1, [(.bool true)]), (32, ms.map vu8), (1, [(.slice da dn dc)]), (1, [(vn ((u + 1)))]), (1, [(.map (some mp))]), (1, [(.slice aY11Y9Y0Y0 (lg.length + 1) cY11Y9Y0Y0)])] :: Ent.view da (df.map vu8) :: Ent.blk b_16 .nw 23 [(32, (drawF df dn u).map vu8)] :: Ent.blk b_8 .nw 130 [(1, [(vi kd)]), (32, key.map vu8), (1, [(vi dm)]), (1, [(.string (bstr data))])] :: Ent.blk b_4 .nw 23 [(32, (zB 32).map vu8)] :: Ent.blk b_1 .nw 100 [(1, [(vi kd)]), (32, key.map vu8), (1, [(vi dm)]), (1, [(.slice a_25 qn cap_26)])] :: Ent.row aY11Y9Y0Y0 (lg.length + 1) cY11Y9Y0Y0 102 67 (lx ++ aC (kd, key, dm, data) (.slice a_25 qn cap_26) (drawF df dn u)) :: Ent.obj mp .nw (.map ((mArr lg).push { key := (.agg ⟨flat [(1, [(vi kd)]), (32, key.map vu8), (1, [(vi dm)]), (1, [(.string (bstr data))])]⟩), val := (vn (lg.length)), born := lg.length }) (lg.length + 1)) :: Ent.pin (sblks lx) (fun w => Lgs w lx lg) :: Ent.view qa (data.map vu8) :: L)) ?_ ?_
 ·refine WP.drawT (SL w00.heap.size [.row a_25 qn cap_26 5 1 (data.map vu8), .view da (df.map vu8), .blk b_16 .nw 23 [(32, (drawF df dn u).map vu8)], .blk b_8 .nw 130 [(1, [(vi kd)]), (32, key.map vu8), (1, [(vi dm)]), (1, [(.string (bstr data))])], .blk b_4 .nw 23 [(32, (zB 32).map vu8)], .blk b_1 .nw 100 [(1, [(vi kd)]), (32, key.map vu8), (1, [(vi dm)]), (1, [(.slice a_25 qn cap_26)])], .obj mp .nw (.map ((mArr lg).push { key := (.agg ⟨flat [(1, [(vi kd)]), (32, key.map vu8), (1, [(vi dm)]), (1, [(.string (bstr data))])]⟩), val := (vn (lg.length)), born := lg.length }) (lg.length + 1)), .pin (sblks lx) (fun w => Lgs w lx lg), .view qa (data.map vu8)]) (.q 0 (.q 1 (.q 2 (.q 3 (.q 5 (.q 6 (.q 7 (.s2 4 8 (.s 8 (.s 9 (.q 10 (.q 11 (.s 12 .nil))))) (.s 4 (.s 9 (.q 10 (.q 11 (.s 12 .nil))))))))))))) (by kernel_rfl) (by kernel_rfl) rfl (by kernel_rfl) (fun w_38 hc_40 => (SL.cons ((h_37.same hc_40).ok _ M0) (SL.cons ((h_37.same hc_40).ok _ M2) (SL.cons ((h_37.same hc_40).ok _ M3) (SL.cons ((h_37.same hc_40).ok _ M4) (SL.cons ((h_37.same hc_40).ok _ M5) (SL.cons ((h_37.same hc_40).ok _ M6) (SL.cons ((h_37.same hc_40).ok _ M8) (SL.cons ((h_37.same hc_40).ok _ M9) (SL.cons ((h_37.same hc_40).ok _ M10) (SL.nil _ _))))))))))) (fun w_38 hc_40 => ?_)
  have h_39 := h_37.same hc_40
  refine qT rfl rfl (fun wq hS => R.move (v := (pO ob 0)) rfl) ?_
  refine qT rfl rfl (fun wq hS => R.move (v := (pO ob 0)) rfl) ?_
  refine qT rfl rfl (fun wq hS => R.nilCheck rfl) ?_
  refine qT rfl rfl (fun wq hS => R.fieldAddr (off' := 36) rfl underlying106 rfl sizeOf58 rfl rfl) ?_
  refine qT rfl rfl (fun wq hS => R.loadA [] [(1, [(vi kd)]), (32, key.map vu8), (1, [(vi dm)]), (1, [(.slice a_25 qn cap_26)])] [] rfl isAgg100 sizeOf100 (hS _ M5) rfl rfl rfl rfl) ?_
  refine qT rfl rfl (fun wq hS => R.loadA [] [(32, (drawF df dn u).map vu8)] [] (cs := (drawF df dn u).map vu8) rfl isAgg23 sizeOf23 (hS _ M2) rfl rfl rfl rfl) ?_
  refine qT rfl rfl (fun wq hS => R.buildS (pl := [(0, 35), (35, 32)]) (zs := [(1, [(vi 0)]), (32, (zB 32).map vu8), (1, [(vi 0)]), (1, [(.slice none 0 0)]), (32, (zB 32).map vu8)]) (vs := [(0, (.agg ⟨flat [(1, [(vi kd)]), (32, key.map vu8), (1, [(vi dm)]), (1, [(.slice a_25 qn cap_26)])]⟩)), (1, (.agg ⟨(drawF df dn u).map vu8⟩))]) (out := [(1, [(vi kd)]), (32, key.map vu8), (1, [(vi dm)]), (1, [(.slice a_25 qn cap_26)]), (32, (drawF df dn u).map vu8)]) underlying102 (zv typeInfo102 rfl) rfl (sC sV (sC (s8 lr) (sC sV (sC sV (sC (s8 lr) sN))))) (pl102 _ underlying102) rfl (FillR.cons [] [(1, [(vi 0)]), (32, (zB 32).map vu8), (1, [(vi 0)]), (1, [(.slice none 0 0)])] [(1, [(vi kd)]), (32, key.map vu8), (1, [(vi dm)]), (1, [(.slice a_25 qn cap_26)])] [(32, (zB 32).map vu8)] rfl rfl rfl rfl (sC sV (sC (s8 hq.1) (sC sV (sC sV sN)))) rfl rfl rfl (FillR.cons [(1, [(vi kd)]), (32, key.map vu8), (1, [(vi dm)]), (1, [(.slice a_25 qn cap_26)])] [(32, (zB 32).map vu8)] [(32, (drawF df dn u).map vu8)] [] rfl rfl rfl rfl (sC (s8 (drawF_len hdf)) sN) rfl rfl rfl FillR.nil)) rfl) ?_
  refine WT.s2 ?_ ?_
  ·refine oN rfl ?_
   refine qV rfl (R.load1 rfl isAgg58 (h_39.ok _ M1) (Sg.t rfl (Sg.t rfl (Sg.t rfl (Sg.t rfl (Sg.t rfl Sg.h)))))) ?_
   refine WL.nil ?_
   refine ⟨(SL.cons (h_39.ok _ M0) (SL.cons (h_39.ok _ M2) (SL.cons (h_39.ok _ M3) (SL.cons (h_39.ok _ M4) (SL.cons (h_39.ok _ M5) (SL.cons (h_39.ok _ M6) (SL.cons (h_39.ok _ M8) (SL.cons (h_39.ok _ M9) (SL.cons (h_39.ok _ M10) (SL.nil _ _)))))))))), ?_⟩
   refine WT.s (oN rfl ?_)
   refine WL.buildSl (vs := [(0, (.agg ⟨flat [(1, [(vi kd)]), (32, key.map vu8), (1, [(vi dm)]), (1, [(.slice a_25 qn cap_26)]), (32, (drawF df dn u).map vu8)]⟩))]) (cs := aC (kd, key, dm, data) (.slice a_25 qn cap_26) (drawF df dn u)) h_39 underlying58 sizeOf102 (zv typeInfo102 rfl) rfl rfl (fill_1 (zc := flat [(1, [vi 0]), (32, List.replicate 32 (vu8 0)), (1, [vi 0]), (1, [.slice none 0 0]), (32, List.replicate 32 (vu8 0))]) (by kernel_rfl) (sC (s := (67, flat [(1, [vi 0]), (32, List.replicate 32 (vu8 0)), (1, [vi 0]), (1, [.slice none 0 0]), (32, List.replicate 32 (vu8 0))])) ⟨by decide, SsOk.one (sC sV (sC (SOk.rep rfl) (sC sV (sC sV (sC (SOk.rep rfl) sN)))))⟩ sN) (aC_ok (q := (kd, key, dm, data)) (s := (.slice a_25 qn cap_26)) (d := drawF df dn u) hq.1 (drawF_len hdf) rfl)) ((aC_ok (q := (kd, key, dm, data)) (s := (.slice a_25 qn cap_26)) (d := drawF df dn u) hq.1 (drawF_len hdf) rfl)).head.len ((aC_ok (q := (kd, key, dm, data)) (s := (.slice a_25 qn cap_26)) (d := drawF df dn u) hq.1 (drawF_len hdf) rfl)).head.one rfl rfl (fun b_42 w_43 h_44 => ?_)
   refine WL.nil ?_
   refine ⟨(N1_3_4_5_6_7_9_10_11 h_44.ok), ?_⟩
   refine WT.s (oN rfl ?_)
   refine WL.append (km := lg.length + 1) (xs := lx) (ys := aC (kd, key, dm, data) (.slice a_25 qn cap_26) (drawF df dn u)) (zs := lx ++ aC (kd, key, dm, data) (.slice a_25 qn cap_26) (drawF df dn u)) h_44 rfl rfl el58 (viewB (h_44.ok _ M0) Sg.h) ((aC_ok (q := (kd, key, dm, data)) (s := (.slice a_25 qn cap_26)) (d := drawF df dn u) hq.1 (drawF_len hdf) rfl)).head.len ((aC_ok (q := (kd, key, dm, data)) (s := (.slice a_25 qn cap_26)) (d := drawF df dn u) hq.1 (drawF_len hdf) rfl)).head.one rfl (by omega) (by omega) (by omega) (fun _ _ => Y8) rfl (fun a_45 c_46 w_47 h_48 => ?_)
   refine WL.nil ?_
   refine ⟨(N1_3_4_5_6_7_9_10_11 h_48.ok), ?_⟩
   refine qT rfl rfl (fun wq hS => R.nilCheck rfl) ?_
   refine qT rfl rfl (fun wq hS => R.fieldAddr (off' := 36) rfl underlying106 rfl sizeOf58 rfl rfl) ?_
   refine WT.s (oN rfl ?_)
   refine WL.store1 h_48 rfl rfl sizeOf58 rfl Y2 (by decide) (Sg.t rfl (Sg.t rfl (Sg.t rfl (Sg.t rfl (Sg.t rfl Sg.h))))) (fun w_49 h_50 => ?_)
   refine WL.nil ?_
   refine ⟨(N1_3_4_5_6_7_9_10_11 h_50.ok), ?_⟩
   refine WT.nil (thn_n ?_)
   exact ⟨(b_42, a_45, c_46), (U4 rfl rfl rfl rfl (U4 rfl rfl rfl rfl (U4 rfl rfl rfl rfl (Ag.refl _ _)))), ⟨rfl, rfl, rfl, rfl, rfl, rfl, rfl, rfl, rfl, rfl, rfl, rfl, trivial⟩, h_50⟩
  ·refine oN rfl ?_
   refine WL.buildSl (vs := [(0, (.agg ⟨flat [(1, [(vi kd)]), (32, key.map vu8), (1, [(vi dm)]), (1, [(.slice a_25 qn cap_26)]), (32, (drawF df dn u).map vu8)]⟩))]) (cs := aC (kd, key, dm, data) (.slice a_25 qn cap_26) (drawF df dn u)) h_39 underlying58 sizeOf102 (zv typeInfo102 rfl) rfl rfl (fill_1 (zc := flat [(1, [vi 0]), (32, List.replicate 32 (vu8 0)), (1, [vi 0]), (1, [.slice none 0 0]), (32, List.replicate 32 (vu8 0))]) (by kernel_rfl) (sC (s := (67, flat [(1, [vi 0]), (32, List.replicate 32 (vu8 0)), (1, [vi 0]), (1, [.slice none 0 0]), (32, List.replicate 32 (vu8 0))])) ⟨by decide, SsOk.one (sC sV (sC (SOk.rep rfl) (sC sV (sC sV (sC (SOk.rep rfl) sN)))))⟩ sN) (aC_ok (q := (kd, key, dm, data)) (s := (.slice a_25 qn cap_26)) (d := drawF df dn u) hq.1 (drawF_len hdf) rfl)) ((aC_ok (q := (kd, key, dm, data)) (s := (.slice a_25 qn cap_26)) (d := drawF df dn u) hq.1 (drawF_len hdf) rfl)).head.len ((aC_ok (q := (kd, key, dm, data)) (s := (.slice a_25 qn cap_26)) (d := drawF df dn u) hq.1 (drawF_len hdf) rfl)).head.one rfl rfl (fun b_51 w_52 h_53 => ?_)
   refine WL.nil ?_
   refine ⟨(N1_3_4_5_6_7_9_10_11 h_53.ok), ?_⟩
   refine WT.s (oN rfl ?_)
   refine qV rfl (R.load1 rfl isAgg58 (h_53.ok _ M2) (Sg.t rfl (Sg.t rfl (Sg.t rfl (Sg.t rfl (Sg.t rfl Sg.h)))))) ?_
   refine WL.nil ?_
   refine ⟨(N1_3_4_5_6_7_9_10_11 h_53.ok), ?_⟩
   refine WT.s (oN rfl ?_)
   refine WL.append (km := lg.length + 1) (xs := lx) (ys := aC (kd, key, dm, data) (.slice a_25 qn cap_26) (drawF df dn u)) (zs := lx ++ aC (kd, key, dm, data) (.slice a_25 qn cap_26) (drawF df dn u)) h_53 rfl rfl el58 (viewB (h_53.ok _ M0) Sg.h) ((aC_ok (q := (kd, key, dm, data)) (s := (.slice a_25 qn cap_26)) (d := drawF df dn u) hq.1 (drawF_len hdf) rfl)).head.len ((aC_ok (q := (kd, key, dm, data)) (s := (.slice a_25 qn cap_26)) (d := drawF df dn u) hq.1 (drawF_len hdf) rfl)).head.one rfl (by omega) (by omega) (by omega) (fun _ _ => Y8) rfl (fun a_54 c_55 w_56 h_57 => ?_)
   refine WL.nil ?_
   refine ⟨(N1_3_4_5_6_7_9_10_11 h_57.ok), ?_⟩
   refine qT rfl rfl (fun wq hS => R.nilCheck rfl) ?_
   refine qT rfl rfl (fun wq hS => R.fieldAddr (off' := 36) rfl underlying106 rfl sizeOf58 rfl rfl) ?_
   refine WT.s (oN rfl ?_)
   refine WL.store1 h_57 rfl rfl sizeOf58 rfl Y2 (by decide) (Sg.t rfl (Sg.t rfl (Sg.t rfl (Sg.t rfl (Sg.t rfl Sg.h))))) (fun w_58 h_59 => ?_)
   refine WL.nil ?_
   refine ⟨(N1_3_4_5_6_7_9_10_11 h_59.ok), ?_⟩
   refine WT.nil (thn_n ?_)
   exact ⟨(b_51, a_54, c_55), (U4 rfl rfl rfl rfl (U4 rfl rfl rfl rfl (U4 rfl rfl rfl rfl (Ag.refl _ _)))), ⟨rfl, rfl, rfl, rfl, rfl, rfl, rfl, rfl, rfl, rfl, rfl, rfl, trivial⟩, h_59⟩
 ·rintro ⟨b_63, a_64, c_65⟩ J_60 w_61 h_62
  refine thn_n (WP.seq (WP.reg ?_))
  refine qV rfl (R.loadA [] [(32, (drawF df dn u).map vu8)] [] (cs := (drawF df dn u).map vu8) rfl isAgg23 sizeOf23 (h_62.ok _ M4) rfl rfl rfl rfl) ?_
  refine WL.storeA [] [(32, (zB 32).map vu8)] [(32, (drawF df dn u).map vu8)] [] h_62 rfl rfl sizeOf23 Y6 (by decide) rfl rfl rfl rfl rfl rfl (sC (s8 (drawF_len hdf)) sN) (fun w_66 h_67 => ?_)
  refine WL.nil (thn_n (WP.ret ?_))
  refine ret_of results70 (RV.cell rfl (h_67.loadA (cs := (drawF df dn u).map vu8) isAgg23 sizeOf23 M6 rfl rfl) RV.nil) ?_
  have h_83 := (((((((((((((((h_67.drop rfl).up J3).drop rfl).up J3).drop rfl).up J3).drop rfl).up J3).drop rfl).up J6).up J3).up J5).up J5).up J5).up J6).up J6
  have h_84 := HP_logPush (q := (kd, key, dm, data)) (d := drawF df dn u) h_83 hq (drawF_len hdf) hdl
  have h_95 := (((((((((h_84.up J1).drop rfl).up J1).drop rfl).up J5).up J5).up J2).up J5).up J5).up J5
  have hse : lg.length + 1 = (lg ++ [((kd, key, dm, data), drawF df dn u)]).length := snoc_len.symm
  have hme := mArr_push lg (kd, key, dm, data) (drawF df dn u)
  have h_85 := h_95
  rw [hse] at h_85
  exact ⟨_, _, _, by rw [anD_miss hfd]; rfl, by rw [anU_miss hfd, anL_miss hfd]; show HP _ _ (_ :: _ :: .obj _ _ (.map (mArr (lg ++ [((kd, key, dm, data), drawF df dn u)])) _) :: _); rw [hme]; exact h_85⟩

theorem c_ans_missF {w00 : World} {L : List Ent} (ob mp : Nat) (ms df : List UInt8) (hms : ms.length = 32) (da : Option Addr) (dn dc u : Nat) (hdf : df.length = 32 * dn) (la : Option Addr) (lc : Nat) (lx : List Value) (lg : Lg) (hu : u ≤ 1000000) (hlg : lg.length ≤ 1000000) (kd dm : Int) (key data : List UInt8) (qa : Option Addr) (qn qc : Nat) (hq : okQ (kd, key, dm, data)) (hdl : data.length = qn) (bq : Nat) (hfd : fdq (kd, key, dm, data) lg 0 = none) (w : World) (h_0 : HP w00 w (Ent.blk ob .nw 106 [(1, [(.bool false)]), (32, ms.map vu8), (1, [(.slice da dn dc)]), (1, [(vi ((u : Nat) : Int))]), (1, [(.map (some mp))]), (1, [(.slice la lg.length lc)])] :: Ent.row la lg.length lc 102 67 lx :: Ent.obj mp .nw (.map (mArr lg) lg.length) :: Ent.pin (sblks lx) (fun w => Lgs w lx lg) :: Ent.view da (df.map vu8) :: Ent.view qa (data.map vu8) :: Ent.blk bq .nw 100 [(1, [(vi kd)]), (32, key.map vu8), (1, [(vi dm)]), (1, [(.slice qa qn qc)])] :: L)) :
  Cs Tryz.prog 70 [(.pointer (some ⟨ob, 0, none⟩)), (.agg ⟨flat [(1, [(vi kd)]), (32, key.map vu8), (1, [(vi dm)]), (1, [(.slice qa qn qc)])]⟩), (Value.func (Fn.func 71) [].toArray [(Value.pointer (some ⟨bq, 0, none⟩))].toArray)].toArray w (fun v w1 => ∃ la' lc' lx', v = (.agg ⟨(anD false df dn u lg (kd, key, dm, data)).map vu8⟩) ∧ HP w00 w1 (Ent.blk ob .nw 106 [(1, [(.bool false)]), (32, ms.map vu8), (1, [(.slice da dn dc)]), (1, [(vi (((anU false u lg (kd, key, dm, data)) : Nat) : Int))]), (1, [(.map (some mp))]), (1, [(.slice la' ((anL false df dn u lg (kd, key, dm, data)).length) lc')])] :: Ent.row la' ((anL false df dn u lg (kd, key, dm, data)).length) lc' 102 67 lx' :: Ent.obj mp .nw (.map (mArr (anL false df dn u lg (kd, key, dm, data))) ((anL false df dn u lg (kd, key, dm, data)).length)) :: Ent.pin (sblks lx') (fun w => Lgs w lx' (anL false df dn u lg (kd, key, dm, data))) :: Ent.view da (df.map vu8) :: Ent.view qa (data.map vu8) :: Ent.blk bq .nw 100 [(1, [(vi kd)]), (32, key.map vu8), (1, [(vi dm)]), (1, [(.slice qa qn qc)])] :: L)) := by
 have hlgs : Lgs w lx lg := (h_0.ok _ M3).1
 have hlo := hlgs.ok
 have hqn : data.length ≤ 1000000000 := hq.2.2.2
 refine Cs.of (n := 74) (args := [(pO ob 0), (.agg ⟨flat [(1, [(vi kd)]), (32, key.map vu8), (1, [(vi dm)]), (1, [(.slice qa qn qc)])]⟩), (Value.func (Fn.func 71) [].toArray [(Value.pointer (some ⟨bq, 0, none⟩))].toArray)]) Tryz.func70 rfl rfl rfl ?_
 refine WP.seq (WP.reg ?_)
 refine WL.box (segs := [(1, [(vi kd)]), (32, key.map vu8), (1, [(vi dm)]), (1, [(.slice qa qn qc)])]) h_0 rfl rfl (sC sV (sC (s8 hq.1) (sC sV (sC sV sN)))) rfl (fun b_1 w_2 h_3 => ?_)
 refine WL.alloc (segs := [(32, (zB 32).map vu8)]) h_3 (zv typeInfo23 rfl) rfl (sC (s8 lr) sN) rfl (fun b_4 w_5 h_6 => ?_)
 refine WL.nil (thn_n (WP.seq (WP.reg ?_)))
 refine qV rfl (R.fieldAddr (off' := 0) rfl underlying100 rfl sizeOf98 rfl rfl) (qV rfl (R.load1 rfl isAgg98 (h_6.ok _ M1) Sg.h) (qV rfl (R.fieldAddr (off' := 1) rfl underlying100 rfl sizeOf23 rfl rfl) (qV rfl (R.loadA [(1, [(vi kd)])] [(32, key.map vu8)] [(1, [(vi dm)]), (1, [(.slice qa qn qc)])] (cs := key.map vu8) rfl isAgg23 sizeOf23 (h_6.ok _ M1) rfl rfl rfl rfl) (qV rfl (R.fieldAddr (off' := 33) rfl underlying100 rfl sizeOf80 rfl rfl) (qV rfl (R.load1 rfl isAgg80 (h_6.ok _ M1) (Sg.t rfl (Sg.t rfl Sg.h))) (qV rfl (R.fieldAddr (off' := 34) rfl underlying100 rfl sizeOf81 rfl rfl) (qV rfl (R.load1 rfl isAgg81 (h_6.ok _ M1) (Sg.t rfl (Sg.t rfl (Sg.t rfl Sg.h)))) (qV rfl (R.toStr (bs := data) rfl underlying81 underlying5 underlying9 (viewV (h_6.ok _ M7)) hdl) (qV rfl (R.buildS (pl := [(0, 1), (1, 32), (33, 1), (34, 1)]) (zs := [(1, [(vi 0)]), (32, (zB 32).map vu8), (1, [(vi 0)]), (1, [(.string (bstr ([] : List UInt8)))])]) (vs := [(0, (vi kd)), (1, (.agg ⟨key.map vu8⟩)), (2, (vi dm)), (3, (.string (bstr data)))]) (out := [(1, [(vi kd)]), (32, key.map vu8), (1, [(vi dm)]), (1, [(.string (bstr data))])]) underlying130 (zv typeInfo130 rfl) rfl (sC sV (sC (s8 lr) (sC sV (sC sV sN)))) (pl130 _ underlying130) rfl (FillR.cons [] [(1, [(vi 0)])] [(1, [(vi kd)])] [(32, (zB 32).map vu8), (1, [(vi 0)]), (1, [(.string (bstr ([] : List UInt8)))])] rfl rfl rfl rfl (sC sV sN) rfl rfl rfl (FillR.cons [(1, [(vi kd)])] [(32, (zB 32).map vu8)] [(32, key.map vu8)] [(1, [(vi 0)]), (1, [(.string (bstr ([] : List UInt8)))])] rfl rfl rfl rfl (sC (s8 hq.1) sN) rfl rfl rfl (FillR.cons [(1, [(vi kd)]), (32, key.map vu8)] [(1, [(vi 0)])] [(1, [(vi dm)])] [(1, [(.string (bstr ([] : List UInt8)))])] rfl rfl rfl rfl (sC sV sN) rfl rfl rfl (FillR.cons [(1, [(vi kd)]), (32, key.map vu8), (1, [(vi dm)])] [(1, [(.string (bstr ([] : List UInt8)))])] [(1, [(.string (bstr data))])] [] rfl rfl rfl rfl (sC sV sN) rfl rfl rfl FillR.nil)))) rfl) ?_)))))))))
 refine WL.alloc (segs := [(1, [(vi 0)]), (32, (zB 32).map vu8), (1, [(vi 0)]), (1, [(.string (bstr ([] : List UInt8)))])]) h_6 (zv typeInfo130 rfl) rfl (sC sV (sC (s8 lr) (sC sV (sC sV sN)))) rfl (fun b_8 w_9 h_10 => ?_)
 refine WL.storeA [] [(1, [(vi 0)]), (32, (zB 32).map vu8), (1, [(vi 0)]), (1, [(.string (bstr ([] : List UInt8)))])] [(1, [(vi kd)]), (32, key.map vu8), (1, [(vi dm)]), (1, [(.string (bstr data))])] [] h_10 rfl rfl sizeOf130 At.h (by decide) rfl rfl rfl rfl rfl rfl (sC sV (sC (s8 hq.1) (sC sV (sC sV sN)))) (fun w_11 h_12 => ?_)
 refine WL.nil (thn_n (WP.seq (WP.seq ?_)))
 refine WP.drawT (SL w00.heap.size [.blk b_8 .nw 130 [(1, [(vi kd)]), (32, key.map vu8), (1, [(vi dm)]), (1, [(.string (bstr data))])], .blk b_4 .nw 23 [(32, (zB 32).map vu8)], .blk b_1 .nw 100 [(1, [(vi kd)]), (32, key.map vu8), (1, [(vi dm)]), (1, [(.slice qa qn qc)])], .blk ob .nw 106 [(1, [(.bool false)]), (32, ms.map vu8), (1, [(.slice da dn dc)]), (1, [(vn u)]), (1, [(.map (some mp))]), (1, [(.slice la lg.length lc)])], .row la lg.length lc 102 67 lx, .obj mp .nw (.map (mArr lg) lg.length), .pin (sblks lx) (fun w => Lgs w lx lg), .view da (df.map vu8), .view qa (data.map vu8), .blk bq .nw 100 [(1, [(vi kd)]), (32, key.map vu8), (1, [(vi dm)]), (1, [(.slice qa qn qc)])]]) (.q 0 (.q 1 (.q 2 (.q 3 (.q 4 (.s 5 (.q 6 (.q 7 (.q 8 (.q 9 (.q 10 .nil))))))))))) (by kernel_rfl) (by kernel_rfl) rfl (by kernel_rfl) (fun w_13 hc_15 => (SL.cons ((h_12.same hc_15).ok _ M0) (SL.cons ((h_12.same hc_15).ok _ M1) (SL.cons ((h_12.same hc_15).ok _ M2) (SL.cons ((h_12.same hc_15).ok _ M3) (SL.cons ((h_12.same hc_15).ok _ M4) (SL.cons ((h_12.same hc_15).ok _ M5) (SL.cons ((h_12.same hc_15).ok _ M6) (SL.cons ((h_12.same hc_15).ok _ M7) (SL.cons ((h_12.same hc_15).ok _ M8) (SL.cons ((h_12.same hc_15).ok _ M9) (SL.nil _ _)))))))))))) (fun w_13 hc_15 => ?_)
 have h_14 := h_12.same hc_15
 refine qT rfl rfl (fun wq hS => R.move (v := (pO ob 0)) rfl) ?_
 refine qT rfl rfl (fun wq hS => R.nilCheck rfl) ?_
 refine qT rfl rfl (fun wq hS => R.fieldAddr (off' := 35) rfl underlying106 rfl sizeOf104 rfl rfl) ?_
 refine qT rfl rfl (fun wq hS => R.load1 rfl isAgg104 (hS _ M3) (Sg.t rfl (Sg.t rfl (Sg.t rfl (Sg.t rfl Sg.h))))) ?_
 refine qT rfl rfl (fun wq hS => R.loadA [] [(1, [(vi kd)]), (32, key.map vu8), (1, [(vi dm)]), (1, [(.string (bstr data))])] [] rfl isAgg130 sizeOf130 (hS _ M0) rfl rfl rfl rfl) ?_
 refine WT.s (oN rfl ?_)
 refine qV rfl (R.lookup (r := none) (z := (vi 0)) (v := (vi 0)) (ok := false) rfl rfl underlying104 (h_14.ok _ M5) (Ck.agg kt130 (by decide) ag130 (typQ (kd, key, dm, data) hq)) (log_miss kt130 (by decide) ag130 typQ hq hlo hfd) (zv typeInfo3 rfl) rfl rfl) ?_
 refine WL.nil ?_
 refine ⟨(SL.cons (h_14.ok _ M0) (SL.cons (h_14.ok _ M1) (SL.cons (h_14.ok _ M2) (SL.cons (h_14.ok _ M3) (SL.cons (h_14.ok _ M4) (SL.cons (h_14.ok _ M5) (SL.cons (h_14.ok _ M6) (SL.cons (h_14.ok _ M7) (SL.cons (h_14.ok _ M8) (SL.cons (h_14.ok _ M9) (SL.nil _ _))))))))))), ?_⟩
 refine qT rfl rfl (fun wq hS => R.move (v := (.tuple [(vi 0), (.bool false)].toArray)) rfl) ?_
 refine qT rfl rfl (fun wq hS => R.extract rfl rfl) ?_
 refine qT rfl rfl (fun wq hS => R.extract rfl rfl) ?_
 refine qT rfl rfl (fun wq hS => R.assign (v := (vi 0)) rfl) ?_
 refine qT rfl rfl (fun wq hS => R.assign (v := (.bool false)) rfl) ?_
 refine WT.nil (thn_n (WP.seq (WP.reg ?_)))
 refine qM (.bool false) rfl rfl ?_
 refine WL.nil (thn_n ?_)
 refine WP.condF rfl ?_
 refine WP.skip (thn_n (WP.seq (WP.reg ?_)))
 refine WL.alloc (segs := [(32, (zB 32).map vu8)]) h_14 (zv typeInfo23 rfl) rfl (sC (s8 lr) sN) rfl (fun b_16 w_17 h_18 => ?_)
 refine WL.nil (thn_n (WP.seq (WP.seq (WP.reg ?_))))
 refine qM (pO ob 0) rfl rfl (qV rfl (R.nilCheck rfl) (qV rfl (R.fieldAddr (off' := 0) rfl underlying106 rfl sizeOf4 rfl rfl) (qV rfl (R.load1 rfl isAgg4 (h_18.ok _ M4) Sg.h) ?_)))
 refine WL.nil (thn_n ?_)
 refine WP.condF rfl ?_
 refine WP.reg ?_
 refine qM (Value.func (Fn.func 71) [].toArray [(Value.pointer (some ⟨bq, 0, none⟩))].toArray) rfl rfl ?_
 refine WL.call Tryz.call71 rfl rfl (c_oCl kd dm key data qa qn qc hq hdl bq _ (viewV (h_18.ok _ M9)) (h_18.argR M10)) rfl ?_
 rintro _ w_20 ⟨rfl, hc_19⟩
 have h_21 := h_18.same hc_19
 refine WL.storeA [] [(32, (zB 32).map vu8)] [(32, (cF (kd, key, dm, data)).map vu8)] [] h_21 rfl rfl sizeOf23 At.h (by decide) rfl rfl rfl rfl rfl rfl (sC (s8 (cF_len _)) sN) (fun w_22 h_23 => ?_)
 refine WL.nil (thn_n (WP.seq (WP.reg ?_)))
 refine qV rfl (R.fieldAddr (off' := 34) rfl underlying100 rfl sizeOf81 rfl rfl) (qV rfl (R.load1 rfl isAgg81 (h_23.ok _ M3) (Sg.t rfl (Sg.t rfl (Sg.t rfl Sg.h)))) ?_)
 refine WL.call Tryz.call56 rfl rfl (c_Clone qa qn qc data hdl (by omega) _ (viewV (h_23.ok _ M9))) rfl ?_
 rintro _ w_26 ⟨a_24, cap_25, rfl, hc_27, ho_28⟩
 have h_29 := h_23.gotRow hc_27 ho_28
 refine qV rfl (R.fieldAddr (off' := 34) rfl underlying100 rfl sizeOf81 rfl rfl) ?_
 refine WL.store1 h_29 rfl rfl sizeOf81 rfl Y4 (by decide) (Sg.t rfl (Sg.t rfl (Sg.t rfl Sg.h))) (fun w_30 h_31 => ?_)
 refine WL.nil (thn_n (WP.seq ?_))
 refine WP.drawT (SL w00.heap.size [.row a_24 qn cap_25 5 1 (data.map vu8), .blk b_16 .nw 23 [(32, (cF (kd, key, dm, data)).map vu8)], .blk b_8 .nw 130 [(1, [(vi kd)]), (32, key.map vu8), (1, [(vi dm)]), (1, [(.string (bstr data))])], .blk b_4 .nw 23 [(32, (zB 32).map vu8)], .blk b_1 .nw 100 [(1, [(vi kd)]), (32, key.map vu8), (1, [(vi dm)]), (1, [(.slice a_24 qn cap_25)])], .blk ob .nw 106 [(1, [(.bool false)]), (32, ms.map vu8), (1, [(.slice da dn dc)]), (1, [(vn u)]), (1, [(.map (some mp))]), (1, [(.slice la lg.length lc)])], .row la lg.length lc 102 67 lx, .pin (sblks lx) (fun w => Lgs w lx lg), .view da (df.map vu8), .view qa (data.map vu8), .blk bq .nw 100 [(1, [(vi kd)]), (32, key.map vu8), (1, [(vi dm)]), (1, [(.slice qa qn qc)])]]) (.q 0 (.q 1 (.q 2 (.q 3 (.q 4 (.q 5 (.q 6 (.q 7 (.q 8 (.q 9 (.s 10 .nil))))))))))) (by kernel_rfl) (by kernel_rfl) rfl (by kernel_rfl) (fun w_32 hc_34 => (SL.cons ((h_31.same hc_34).ok _ M0) (SL.cons ((h_31.same hc_34).ok _ M1) (SL.cons ((h_31.same hc_34).ok _ M2) (SL.cons ((h_31.same hc_34).ok _ M3) (SL.cons ((h_31.same hc_34).ok _ M4) (SL.cons ((h_31.same hc_34).ok _ M5) (SL.cons ((h_31.same hc_34).ok _ M6) (SL.cons ((h_31.same hc_34).ok _ M8) (SL.cons ((h_31.same hc_34).ok _ M9) (SL.cons ((h_31.same hc_34).ok _ M10) (SL.cons ((h_31.same hc_34).ok _ M11) (SL.nil _ _))))))))))))) (fun w_32 hc_34 => ?_)
 have h_33 := h_31.same hc_34
 refine qT rfl rfl (fun wq hS => R.move (v := (pO ob 0)) rfl) ?_
 refine qT rfl rfl (fun wq hS => R.nilCheck rfl) ?_
 refine qT rfl rfl (fun wq hS => R.fieldAddr (off' := 35) rfl underlying106 rfl sizeOf104 rfl rfl) ?_
 refine qT rfl rfl (fun wq hS => R.load1 rfl isAgg104 (hS _ M5) (Sg.t rfl (Sg.t rfl (Sg.t rfl (Sg.t rfl Sg.h))))) ?_
 refine qT rfl rfl (fun wq hS => R.loadA [] [(1, [(vi kd)]), (32, key.map vu8), (1, [(vi dm)]), (1, [(.string (bstr data))])] [] rfl isAgg130 sizeOf130 (hS _ M2) rfl rfl rfl rfl) ?_
 refine qT rfl rfl (fun wq hS => R.move (v := (pO ob 0)) rfl) ?_
 refine qT rfl rfl (fun wq hS => R.nilCheck rfl) ?_
 refine qT rfl rfl (fun wq hS => R.fieldAddr (off' := 36) rfl underlying106 rfl sizeOf58 rfl rfl) ?_
 refine qT rfl rfl (fun wq hS => R.load1 rfl isAgg58 (hS _ M5) (Sg.t rfl (Sg.t rfl (Sg.t rfl (Sg.t rfl (Sg.t rfl Sg.h)))))) ?_
 refine qT rfl rfl (fun wq hS => R.lenS (a := la) (m := lg.length) rfl rfl underlying58) ?_
 refine WT.s (oN rfl ?_)
 refine WL.mapUpdate (k := (.agg ⟨flat [(1, [(vi kd)]), (32, key.map vu8), (1, [(vi dm)]), (1, [(.string (bstr data))])]⟩)) (v := (vn (lg.length))) h_33 rfl rfl rfl underlying104 Y7 (by decide) (Ck.agg kt130 (by decide) ag130 (typQ (kd, key, dm, data) hq)) (log_miss kt130 (by decide) ag130 typQ hq hlo hfd) (fun w_35 h_36 => ?_)
 refine WL.nil ?_
 refine ⟨(SL.cons (h_36.ok _ M0) (SL.cons (h_36.ok _ M1) (SL.cons (h_36.ok _ M2) (SL.cons (h_36.ok _ M3) (SL.cons (h_36.ok _ M4) (SL.cons (h_36.ok _ M5) (SL.cons (h_36.ok _ M6) (SL.cons (h_36.ok _ M8) (SL.cons (h_36.ok _ M9) (SL.cons (h_36.ok _ M10) (SL.cons (h_36.ok _ M11) (SL.nil _ _)))))))))))), ?_⟩
 refine WT.nil (thn_n (WP.seq ?_))
 refine WP.cutG (G := Nat × Option Addr × Nat) [61, 62, 63, 64, 65, 66, 67, 68, 69, 70, 71, 72] (fun (bY11Y8Y0Y0, aY11Y9Y0Y0, cY11Y9Y0Y0) => [(61, (pO ob 0)), (62, (pO ob 0)), (63, (pO ob 0)), (64, (pO ob 36)), (66, (.agg ⟨flat [(1, [(vi kd)]), (32, key.map vu8), (1, [(vi dm)]), (1, [(.slice a_24 qn cap_25)])]⟩)), (67, (.agg ⟨(cF (kd, key, dm, data)).map vu8⟩)), (68, (.agg ⟨flat [(1, [(vi kd)]), (32, key.map vu8), (1, [(vi dm)]), (1, [(.slice a_24 qn cap_25)]), (32, (cF (kd, key, dm, data)).map vu8)]⟩)), (65, (.slice la lg.length lc)), (69, (.slice (some ⟨bY11Y8Y0Y0, 0, none⟩) 1 1)), (70, (.slice aY11Y9Y0Y0 (lg.length + 1) cY11Y9Y0Y0)), (71, (pO ob 0)), (72, (pO ob 36))]) (fun (bY11Y8Y0Y0, aY11Y9Y0Y0, cY11Y9Y0Y0) w1 => HP w00 w1 (Ent.blk bY11Y8Y0Y0 .nw 102 [(67, aC (kd, key, dm, data) (.slice a_24 qn cap_25) (cF (kd, key, dm, data)))] :: Ent.row a_24 qn cap_25 5 1 (data.map vu8) :: Ent.blk b_16 .nw 23 [(32, (cF (kd, key, dm, data)).map vu8)] :: Ent.blk b_8 .nw 130 [(1, [(vi kd)]), (32, key.map vu8), (1, [(vi dm)]), (1, [(.string (bstr data))])] :: Ent.blk b_4 .nw 23 [(32, (zB 32).map vu8)] :: Ent.blk b_1 .nw 100 [(1, [(vi kd)]), (32, key.map vu8), (1, [(vi dm)]), (1, [(.slice a_24 qn cap_25)])] :: Ent.blk ob .nw 106 [(1, [(.bool false)]), (32, ms.map vu8), (1, [(.slice da dn dc)]), (1, [(vn u)]), (1, [(.map (some mp))]), (1, [(.slice aY11Y9Y0Y0 (lg.length + 1) cY11Y9Y0Y0)])] :: Ent.row aY11Y9Y0Y0 (lg.length + 1) cY11Y9Y0Y0 102 67 (lx ++ aC (kd, key, dm, data) (.slice a_24 qn cap_25) (cF (kd, key, dm, data))) :: Ent.obj mp .nw (.map ((mArr lg).push { key := (.agg ⟨flat [(1, [(vi kd)]), (32, key.map vu8), (1, [(vi dm)]), (1, [(.string (bstr data))])]⟩), val := (vn (lg.length)), born := lg.length }) (lg.length + 1)) :: Ent.pin (sblks lx) (fun w => Lgs w lx lg) :: Ent.view da (df.map vu8) :: Ent.view qa (data.map vu8) :: Ent.blk bq .nw 100 [(1, [(vi kd)]), (32, key.map vu8), (1, [(vi dm)]), (1, [(.slice qa qn qc)])] :: L)) ?_ ?_
 ·refine WP.drawT (SL w00.heap.size [.row a_24 qn cap_25 5 1 (data.map vu8), .blk b_16 .nw 23 [(32, (cF (kd, key, dm, data)).map vu8)], .blk b_8 .nw 130 [(1, [(vi kd)]), (32, key.map vu8), (1, [(vi dm)]), (1, [(.string (bstr data))])], .blk b_4 .nw 23 [(32, (zB 32).map vu8)], .blk b_1 .nw 100 [(1, [(vi kd)]), (32, key.map vu8), (1, [(vi dm)]), (1, [(.slice a_24 qn cap_25)])], .obj mp .nw (.map ((mArr lg).push { key := (.agg ⟨flat [(1, [(vi kd)]), (32, key.map vu8), (1, [(vi dm)]), (1, [(.string (bstr data))])]⟩), val := (vn (lg.length)), born := lg.length }) (lg.length + 1)), .pin (sblks lx) (fun w => Lgs w lx lg), .view da (df.map vu8), .view qa (data.map vu8), .blk bq .nw 100 [(1, [(vi kd)]), (32, key.map vu8), (1, [(vi dm)]), (1, [(.slice qa qn qc)])]]) (.q 0 (.q 1 (.q 2 (.q 3 (.q 5 (.q 6 (.q 7 (.s2 4 8 (.s 8 (.s 9 (.q 10 (.q 11 (.s 12 .nil))))) (.s 4 (.s 9 (.q 10 (.q 11 (.s 12 .nil))))))))))))) (by kernel_rfl) (by kernel_rfl) rfl (by kernel_rfl) (fun w_37 hc_39 => (SL.cons ((h_36.same hc_39).ok _ M0) (SL.cons ((h_36.same hc_39).ok _ M1) (SL.cons ((h_36.same hc_39).ok _ M2) (SL.cons ((h_36.same hc_39).ok _ M3) (SL.cons ((h_36.same hc_39).ok _ M4) (SL.cons ((h_36.same hc_39).ok _ M7) (SL.cons ((h_36.same hc_39).ok _ M8) (SL.cons ((h_36.same hc_39).ok _ M9) (SL.cons ((h_36.same hc_39).ok _ M10) (SL.cons ((h_36.same hc_39).ok _ M11) (SL.nil _ _)))))))))))) (fun w_37 hc_39 => ?_)
  have h_38 := h_36.same hc_39
  refine qT rfl rfl (fun wq hS => R.move (v := (pO ob 0)) rfl) ?_
  refine qT rfl rfl (fun wq hS => R.move (v := (pO ob 0)) rfl) ?_
  refine qT rfl rfl (fun wq hS => R.nilCheck rfl) ?_
  refine qT rfl rfl (fun wq hS => R.fieldAddr (off' := 36) rfl underlying106 rfl sizeOf58 rfl rfl) ?_
  refine qT rfl rfl (fun wq hS => R.loadA [] [(1, [(vi kd)]), (32, key.map vu8), (1, [(vi dm)]), (1, [(.slice a_24 qn cap_25)])] [] rfl isAgg100 sizeOf100 (hS _ M4) rfl rfl rfl rfl) ?_
  refine qT rfl rfl (fun wq hS => R.loadA [] [(32, (cF (kd, key, dm, data)).map vu8)] [] (cs := (cF (kd, key, dm, data)).map vu8) rfl isAgg23 sizeOf23 (hS _ M1) rfl rfl rfl rfl) ?_
  refine qT rfl rfl (fun wq hS => R.buildS (pl := [(0, 35), (35, 32)]) (zs := [(1, [(vi 0)]), (32, (zB 32).map vu8), (1, [(vi 0)]), (1, [(.slice none 0 0)]), (32, (zB 32).map vu8)]) (vs := [(0, (.agg ⟨flat [(1, [(vi kd)]), (32, key.map vu8), (1, [(vi dm)]), (1, [(.slice a_24 qn cap_25)])]⟩)), (1, (.agg ⟨(cF (kd, key, dm, data)).map vu8⟩))]) (out := [(1, [(vi kd)]), (32, key.map vu8), (1, [(vi dm)]), (1, [(.slice a_24 qn cap_25)]), (32, (cF (kd, key, dm, data)).map vu8)]) underlying102 (zv typeInfo102 rfl) rfl (sC sV (sC (s8 lr) (sC sV (sC sV (sC (s8 lr) sN))))) (pl102 _ underlying102) rfl (FillR.cons [] [(1, [(vi 0)]), (32, (zB 32).map vu8), (1, [(vi 0)]), (1, [(.slice none 0 0)])] [(1, [(vi kd)]), (32, key.map vu8), (1, [(vi dm)]), (1, [(.slice a_24 qn cap_25)])] [(32, (zB 32).map vu8)] rfl rfl rfl rfl (sC sV (sC (s8 hq.1) (sC sV (sC sV sN)))) rfl rfl rfl (FillR.cons [(1, [(vi kd)]), (32, key.map vu8), (1, [(vi dm)]), (1, [(.slice a_24 qn cap_25)])] [(32, (zB 32).map vu8)] [(32, (cF (kd, key, dm, data)).map vu8)] [] rfl rfl rfl rfl (sC (s8 (cF_len _)) sN) rfl rfl rfl FillR.nil)) rfl) ?_
  refine WT.s2 ?_ ?_
  ·refine oN rfl ?_
   refine qV rfl (R.load1 rfl isAgg58 (h_38.ok _ M5) (Sg.t rfl (Sg.t rfl (Sg.t rfl (Sg.t rfl (Sg.t rfl Sg.h)))))) ?_
   refine WL.nil ?_
   refine ⟨(SL.cons (h_38.ok _ M0) (SL.cons (h_38.ok _ M1) (SL.cons (h_38.ok _ M2) (SL.cons (h_38.ok _ M3) (SL.cons (h_38.ok _ M4) (SL.cons (h_38.ok _ M7) (SL.cons (h_38.ok _ M8) (SL.cons (h_38.ok _ M9) (SL.cons (h_38.ok _ M10) (SL.cons (h_38.ok _ M11) (SL.nil _ _))))))))))), ?_⟩
   refine WT.s (oN rfl ?_)
   refine WL.buildSl (vs := [(0, (.agg ⟨flat [(1, [(vi kd)]), (32, key.map vu8), (1, [(vi dm)]), (1, [(.slice a_24 qn cap_25)]), (32, (cF (kd, key, dm, data)).map vu8)]⟩))]) (cs := aC (kd, key, dm, data) (.slice a_24 qn cap_25) (cF (kd, key, dm, data))) h_38 underlying58 sizeOf102 (zv typeInfo102 rfl) rfl rfl (fill_1 (zc := flat [(1, [vi 0]), (32, List.replicate 32 (vu8 0)), (1, [vi 0]), (1, [.slice none 0 0]), (32, List.replicate 32 (vu8 0))]) (by kernel_rfl) (sC (s := (67, flat [(1, [vi 0]), (32, List.replicate 32 (vu8 0)), (1, [vi 0]), (1, [.slice none 0 0]), (32, List.replicate 32 (vu8 0))])) ⟨by decide, SsOk.one (sC sV (sC (SOk.rep rfl) (sC sV (sC sV (sC (SOk.rep rfl) sN)))))⟩ sN) (aC_ok (q := (kd, key, dm, data)) (s := (.slice a_24 qn cap_25)) (d := cF (kd, key, dm, data)) hq.1 (cF_len _) rfl)) ((aC_ok (q := (kd, key, dm, data)) (s := (.slice a_24 qn cap_25)) (d := cF (kd, key, dm, data)) hq.1 (cF_len _) rfl)).head.len ((aC_ok (q := (kd, key, dm, data)) (s := (.slice a_24 qn cap_25)) (d := cF (kd, key, dm, data)) hq.1 (cF_len _) rfl)).head.one rfl rfl (fun b_41 w_42 h_43 => ?_)
   refine WL.nil ?_
   refine ⟨(N1_2_3_4_5_8_9_10_11_12 h_43.ok), ?_⟩
   refine WT.s (oN rfl ?_)
   refine WL.append (km := lg.length + 1) (xs := lx) (ys := aC (kd, key, dm, data) (.slice a_24 qn cap_25) (cF (kd, key, dm, data))) (zs := lx ++ aC (kd, key, dm, data) (.slice a_24 qn cap_25) (cF (kd, key, dm, data))) h_43 rfl rfl el58 (viewB (h_43.ok _ M0) Sg.h) ((aC_ok (q := (kd, key, dm, data)) (s := (.slice a_24 qn cap_25)) (d := cF (kd, key, dm, data)) hq.1 (cF_len _) rfl)).head.len ((aC_ok (q := (kd, key, dm, data)) (s := (.slice a_24 qn cap_25)) (d := cF (kd, key, dm, data)) hq.1 (cF_len _) rfl)).head.one rfl (by omega) (by omega) (by omega) (fun _ _ => Y7) rfl (fun a_44 c_45 w_46 h_47 => ?_)
   refine WL.nil ?_
   refine ⟨(N1_2_3_4_5_8_9_10_11_12 h_47.ok), ?_⟩
   refine qT rfl rfl (fun wq hS => R.nilCheck rfl) ?_
   refine qT rfl rfl (fun wq hS => R.fieldAddr (off' := 36) rfl underlying106 rfl sizeOf58 rfl rfl) ?_
   refine WT.s (oN rfl ?_)
   refine WL.store1 h_47 rfl rfl sizeOf58 rfl Y6 (by decide) (Sg.t rfl (Sg.t rfl (Sg.t rfl (Sg.t rfl (Sg.t rfl Sg.h))))) (fun w_48 h_49 => ?_)
   refine WL.nil ?_
   refine ⟨(N1_2_3_4_5_8_9_10_11_12 h_49.ok), ?_⟩
   refine WT.nil (thn_n ?_)
   exact ⟨(b_41, a_44, c_45), (U4 rfl rfl rfl rfl (U4 rfl rfl rfl rfl (U4 rfl rfl rfl rfl (Ag.refl _ _)))), ⟨rfl, rfl, rfl, rfl, rfl, rfl, rfl, rfl, rfl, rfl, rfl, rfl, trivial⟩, h_49⟩
  ·refine oN rfl ?_
   refine WL.buildSl (vs := [(0, (.agg ⟨flat [(1, [(vi kd)]), (32, key.map vu8), (1, [(vi dm)]), (1, [(.slice a_24 qn cap_25)]), (32, (cF (kd, key, dm, data)).map vu8)]⟩))]) (cs := aC (kd, key, dm, data) (.slice a_24 qn cap_25) (cF (kd, key, dm, data))) h_38 underlying58 sizeOf102 (zv typeInfo102 rfl) rfl rfl (fill_1 (zc := flat [(1, [vi 0]), (32, List.replicate 32 (vu8 0)), (1, [vi 0]), (1, [.slice none 0 0]), (32, List.replicate 32 (vu8 0))]) (by kernel_rfl) (sC (s := (67, flat [(1, [vi 0]), (32, List.replicate 32 (vu8 0)), (1, [vi 0]), (1, [.slice none 0 0]), (32, List.replicate 32 (vu8 0))])) ⟨by decide, SsOk.one (sC sV (sC (SOk.rep rfl) (sC sV (sC sV (sC (SOk.rep rfl) sN)))))⟩ sN) (aC_ok (q := (kd, key, dm, data)) (s := (.slice a_24 qn cap_25)) (d := cF (kd, key, dm, data)) hq.1 (cF_len _) rfl)) ((aC_ok (q := (kd, key, dm, data)) (s := (.slice a_24 qn cap_25)) (d := cF (kd, key, dm, data)) hq.1 (cF_len _) rfl)).head.len ((aC_ok (q := (kd, key, dm, data)) (s := (.slice a_24 qn cap_25)) (d := cF (kd, key, dm, data)) hq.1 (cF_len _) rfl)).head.one rfl rfl (fun b_50 w_51 h_52 => ?_)
   refine WL.nil ?_
   refine ⟨(N1_2_3_4_5_8_9_10_11_12 h_52.ok), ?_⟩
   refine WT.s (oN rfl ?_)
   refine qV rfl (R.load1 rfl isAgg58 (h_52.ok _ M6) (Sg.t rfl (Sg.t rfl (Sg.t rfl (Sg.t rfl (Sg.t rfl Sg.h)))))) ?_
   refine WL.nil ?_
   refine ⟨(N1_2_3_4_5_8_9_10_11_12 h_52.ok), ?_⟩
   refine WT.s (oN rfl ?_)
   refine WL.append (km := lg.length + 1) (xs := lx) (ys := aC (kd, key, dm, data) (.slice a_24 qn cap_25) (cF (kd, key, dm, data))) (zs := lx ++ aC (kd, key, dm, data) (.slice a_24 qn cap_25) (cF (kd, key, dm, data))) h_52 rfl rfl el58 (viewB (h_52.ok _ M0) Sg.h) ((aC_ok (q := (kd, key, dm, data)) (s := (.slice a_24 qn cap_25)) (d := cF (kd, key, dm, data)) hq.1 (cF_len _) rfl)).head.len ((aC_ok (q := (kd, key, dm, data)) (s := (.slice a_24 qn cap_25)) (d := cF (kd, key, dm, data)) hq.1 (cF_len _) rfl)).head.one rfl (by omega) (by omega) (by omega) (fun _ _ => Y7) rfl (fun a_53 c_54 w_55 h_56 => ?_)
   refine WL.nil ?_
   refine ⟨(N1_2_3_4_5_8_9_10_11_12 h_56.ok), ?_⟩
   refine qT rfl rfl (fun wq hS => R.nilCheck rfl) ?_
   refine qT rfl rfl (fun wq hS => R.fieldAddr (off' := 36) rfl underlying106 rfl sizeOf58 rfl rfl) ?_
   refine WT.s (oN rfl ?_)
   refine WL.store1 h_56 rfl rfl sizeOf58 rfl Y6 (by decide) (Sg.t rfl (Sg.t rfl (Sg.t rfl (Sg.t rfl (Sg.t rfl Sg.h))))) (fun w_57 h_58 => ?_)
   refine WL.nil ?_
   refine ⟨(N1_2_3_4_5_8_9_10_11_12 h_58.ok), ?_⟩
   refine WT.nil (thn_n ?_)
   exact ⟨(b_50, a_53, c_54), (U4 rfl rfl rfl rfl (U4 rfl rfl rfl rfl (U4 rfl rfl rfl rfl (Ag.refl _ _)))), ⟨rfl, rfl, rfl, rfl, rfl, rfl, rfl, rfl, rfl, rfl, rfl, rfl, trivial⟩, h_58⟩
 ·rintro ⟨b_62, a_63, c_64⟩ J_59 w_60 h_61
  refine thn_n (WP.seq (WP.reg ?_))
  refine qV rfl (R.loadA [] [(32, (cF (kd, key, dm, data)).map vu8)] [] (cs := (cF (kd, key, dm, data)).map vu8) rfl isAgg23 sizeOf23 (h_61.ok _ M2) rfl rfl rfl rfl) ?_
  refine WL.storeA [] [(32, (zB 32).map vu8)] [(32, (cF (kd, key, dm, data)).map vu8)] [] h_61 rfl rfl sizeOf23 Y4 (by decide) rfl rfl rfl rfl rfl rfl (sC (s8 (cF_len _)) sN) (fun w_65 h_66 => ?_)
  refine WL.nil (thn_n (WP.ret ?_))
  refine ret_of results70 (RV.cell rfl (h_66.loadA (cs := (cF (kd, key, dm, data)).map vu8) isAgg23 sizeOf23 M4 rfl rfl) RV.nil) ?_
  have h_83 := ((((((((((((((((h_66.drop rfl).up J1).drop rfl).up J1).drop rfl).up J1).drop rfl).up J1).drop rfl).up J7).up J7).up J7).up J6).up J6).up J6).up J7).up J7
  have h_84 := HP_logPush (q := (kd, key, dm, data)) (d := cF (kd, key, dm, data)) h_83 hq (cF_len _) hdl
  have h_96 := ((((((((((h_84.up J1).drop rfl).up J1).drop rfl).up J6).up J6).up J6).up J3).up J6).up J6).up J6
  have hse : lg.length + 1 = (lg ++ [((kd, key, dm, data), cF (kd, key, dm, data))]).length := snoc_len.symm
  have hme := mArr_push lg (kd, key, dm, data) (cF (kd, key, dm, data))
  have h_85 := h_96
  rw [hse] at h_85
  exact ⟨_, _, _, by rw [anD_miss hfd]; rfl, by rw [anU_miss hfd, anL_miss hfd]; show HP _ _ (_ :: _ :: .obj _ _ (.map (mArr (lg ++ [((kd, key, dm, data), cF (kd, key, dm, data))])) _) :: _); rw [hme]; exact h_85⟩

theorem c_ansG {w00 : World} {L : List Ent} (id : Bool) (ob mp : Nat) (ms df : List UInt8) (hms : ms.length = 32) (da : Option Addr) (dn dc u : Nat) (hdf : df.length = 32 * dn) (la : Option Addr) (lc : Nat) (lx : List Value) (lg : Lg) (hu : u ≤ 1000000) (hlg : lg.length ≤ 1000000) (kd dm : Int) (key data : List UInt8) (qa : Option Addr) (qn qc : Nat) (hq : okQ (kd, key, dm, data)) (hdl : data.length = qn) (bq : Nat) (w : World) (h_0 : HP w00 w (Ent.blk ob .nw 106 [(1, [(.bool id)]), (32, ms.map vu8), (1, [(.slice da dn dc)]), (1, [(vi ((u : Nat) : Int))]), (1, [(.map (some mp))]), (1, [(.slice la lg.length lc)])] :: Ent.row la lg.length lc 102 67 lx :: Ent.obj mp .nw (.map (mArr lg) lg.length) :: Ent.pin (sblks lx) (fun w => Lgs w lx lg) :: Ent.view da (df.map vu8) :: Ent.view qa (data.map vu8) :: Ent.blk bq .nw 100 [(1, [(vi kd)]), (32, key.map vu8), (1, [(vi dm)]), (1, [(.slice qa qn qc)])] :: L)) :
  Cs Tryz.prog 70 [(.pointer (some ⟨ob, 0, none⟩)), (.agg ⟨flat [(1, [(vi kd)]), (32, key.map vu8), (1, [(vi dm)]), (1, [(.slice qa qn qc)])]⟩), (Value.func (Fn.func 71) [].toArray [(Value.pointer (some ⟨bq, 0, none⟩))].toArray)].toArray w (fun v w1 => ∃ la' lc' lx', v = (.agg ⟨(anD id df dn u lg (kd, key, dm, data)).map vu8⟩) ∧ HP w00 w1 (Ent.blk ob .nw 106 [(1, [(.bool id)]), (32, ms.map vu8), (1, [(.slice da dn dc)]), (1, [(vi (((anU id u lg (kd, key, dm, data)) : Nat) : Int))]), (1, [(.map (some mp))]), (1, [(.slice la' ((anL id df dn u lg (kd, key, dm, data)).length) lc')])] :: Ent.row la' ((anL id df dn u lg (kd, key, dm, data)).length) lc' 102 67 lx' :: Ent.obj mp .nw (.map (mArr (anL id df dn u lg (kd, key, dm, data))) ((anL id df dn u lg (kd, key, dm, data)).length)) :: Ent.pin (sblks lx') (fun w => Lgs w lx' (anL id df dn u lg (kd, key, dm, data))) :: Ent.view da (df.map vu8) :: Ent.view qa (data.map vu8) :: Ent.blk bq .nw 100 [(1, [(vi kd)]), (32, key.map vu8), (1, [(vi dm)]), (1, [(.slice qa qn qc)])] :: L)) := by
 cases hfd : fdq (kd, key, dm, data) lg 0 with
 | none => cases id with
  | true => exact c_ans_missT ob mp ms df hms da dn dc u hdf la lc lx lg hu hlg kd dm key data qa qn qc hq hdl _ hfd w h_0
  | false => exact c_ans_missF ob mp ms df hms da dn dc u hdf la lc lx lg hu hlg kd dm key data qa qn qc hq hdl bq hfd w h_0
 | some i => exact c_ans_hit id ob mp ms df hms da dn dc u hdf la lc lx lg hu hlg kd dm key data qa qn qc hq hdl _ i hfd w h_0
end Go.Proofs.YtbhllplbbkmndaaGreat

namespace Go.Proofs.YtbhllplbbkmndaaGreat
open Go.Proofs.Tryz
open Go.Vc Go.Orc Go.Sh Go.RowKit
set_option maxRecDepth 20000
theorem kt23 : Tryz.prog.keyTypeAt 2 23 = true := by kernel_rfl
theorem ag23 : aggB Tryz.prog 23 = true := by unfold aggB; rw [underlying23]
theorem c_othere (id : Bool) (ob mp : Nat) (ms : List UInt8) (hms : ms.length = 32) (da : Option Addr) (dn dc u : Nat) (la : Option Addr) (ln lc : Nat) (w : World) (hcb : (Ent.blk ob .ro 106 [(1, [(.bool id)]), (32, ms.map vu8), (1, [(.slice da dn dc)]), (1, [(vi ((u : Nat) : Int))]), (1, [(.map (some mp))]), (1, [(.slice la ln lc)])]).ok w.heap.size w) :
  Cs Tryz.prog 54 [(.pointer (some ⟨ob, 0, none⟩))].toArray w (fun v w1 => v = (.bool true) ∧ Chg w w1 []) := by
 refine Cs.of (n := 12) (args := [(pO ob 0)]) Tryz.func54 rfl rfl rfl ?_
 have h_0 := HP.init w
 have h_00 := h_0.old hcb (fun f hf => by cases hf)
 refine WP.seq (WP.reg ?_)
 refine qA (.bool false) rfl rfl ?_
 refine WL.nil (thn_n (WP.seq (WP.reg ?_)))
 refine qM (pO ob 0) rfl rfl (qV rfl (R.neNilP rfl rfl underlying31) (qM (.bool true) rfl rfl ?_))
 refine WL.want rfl rfl ?_
 refine qM (pO ob 0) rfl rfl ?_
 refine WL.want rfl rfl ?_
 refine qV rfl (R.nilCheck rfl) ?_
 refine WL.want rfl rfl ?_
 refine qV rfl (R.fieldAddr (off' := 35) rfl underlying106 rfl sizeOf104 rfl rfl) ?_
 refine WL.want rfl rfl ?_
 refine qV rfl (R.load1 rfl isAgg104 (h_00.ok _ M0) (Sg.t rfl (Sg.t rfl (Sg.t rfl (Sg.t rfl Sg.h))))) ?_
 refine WL.want rfl rfl ?_
 refine qV rfl (R.neNilM rfl rfl underlying104) (qV rfl (R.pickT (v := (.bool true)) rfl rfl) (qA (.bool true) rfl rfl ?_))
 refine WL.nil (thn_n (WP.ret ?_))
 refine ret_of results54 (RV.tmp (v := (.bool true)) rfl RV.nil) ?_
 exact ⟨rfl, h_00.chgS⟩

theorem c_may (kd dm : Int) (key : List UInt8) (qa : Option Addr) (qn qc : Nat) (hk : key.length = 32) (h1 : 1 ≤ kd ∧ kd ≤ 4) (h2 : 1 ≤ dm ∧ dm ≤ 16) (hz : kd = 1 → key = List.replicate 32 0) (w : World) :
  Cs Tryz.prog 69 [(.agg ⟨flat [(1, [(vi kd)]), (32, key.map vu8), (1, [(vi dm)]), (1, [(.slice qa qn qc)])]⟩)].toArray w (fun v w1 => v = (.bool true) ∧ Chg w w1 []) := by
 refine Cs.of (n := 32) (args := [(.agg ⟨flat [(1, [(vi kd)]), (32, key.map vu8), (1, [(vi dm)]), (1, [(.slice qa qn qc)])]⟩)]) Tryz.func69 rfl rfl rfl ?_
 have h_0 := HP.init w
 refine WP.seq (WP.reg ?_)
 refine WL.box (segs := [(1, [(vi kd)]), (32, key.map vu8), (1, [(vi dm)]), (1, [(.slice qa qn qc)])]) h_0 rfl rfl (sC sV (sC (s8 hk) (sC sV (sC sV sN)))) rfl (fun b_1 w_2 h_3 => ?_)
 refine qA (.bool false) rfl rfl ?_
 refine WL.nil (thn_n (WP.seq (WP.reg ?_)))
 refine qV rfl (R.fieldAddr (off' := 0) rfl underlying100 rfl sizeOf98 rfl rfl) (qV rfl (R.load1 rfl isAgg98 (h_3.ok _ M0) Sg.h) (qV rfl (R.bin rfl rfl (bi_geq (r := decide ((kd : Int) ≥ 1)) rfl)) (qM (.bool (decide ((kd : Int) ≥ 1))) rfl rfl ?_)))
 refine WL.want rfl (congrArg Value.bool (decide_eq_true (by omega))) ?_
 refine qV rfl (R.fieldAddr (off' := 0) rfl underlying100 rfl sizeOf98 rfl rfl) ?_
 refine WL.want rfl (congrArg Value.bool (decide_eq_true (by omega))) ?_
 refine qV rfl (R.load1 rfl isAgg98 (h_3.ok _ M0) Sg.h) ?_
 refine WL.want rfl (congrArg Value.bool (decide_eq_true (by omega))) ?_
 refine qV rfl (R.bin rfl rfl (bi_leq (r := decide ((kd : Int) ≤ 4)) rfl)) (qV rfl (R.pickT (v := (.bool (decide ((kd : Int) ≤ 4)))) (congrArg Value.bool (decide_eq_true (by omega))) rfl) (qM (.bool (decide ((kd : Int) ≤ 4))) rfl rfl ?_))
 refine WL.want rfl (congrArg Value.bool (decide_eq_true (by omega))) ?_
 refine qV rfl (R.fieldAddr (off' := 33) rfl underlying100 rfl sizeOf80 rfl rfl) ?_
 refine WL.want rfl (congrArg Value.bool (decide_eq_true (by omega))) ?_
 refine qV rfl (R.load1 rfl isAgg80 (h_3.ok _ M0) (Sg.t rfl (Sg.t rfl Sg.h))) ?_
 refine WL.want rfl (congrArg Value.bool (decide_eq_true (by omega))) ?_
 refine qV rfl (R.bin rfl rfl (bi_geq (r := decide ((dm : Int) ≥ 1)) rfl)) (qV rfl (R.pickT (v := (.bool (decide ((dm : Int) ≥ 1)))) (congrArg Value.bool (decide_eq_true (by omega))) rfl) (qM (.bool (decide ((dm : Int) ≥ 1))) rfl rfl ?_))
 refine WL.want rfl (congrArg Value.bool (decide_eq_true (by omega))) ?_
 refine qV rfl (R.fieldAddr (off' := 33) rfl underlying100 rfl sizeOf80 rfl rfl) ?_
 refine WL.want rfl (congrArg Value.bool (decide_eq_true (by omega))) ?_
 refine qV rfl (R.load1 rfl isAgg80 (h_3.ok _ M0) (Sg.t rfl (Sg.t rfl Sg.h))) ?_
 refine WL.want rfl (congrArg Value.bool (decide_eq_true (by omega))) ?_
 refine qV rfl (R.bin rfl rfl (bi_leq (r := decide ((dm : Int) ≤ 16)) rfl)) (qV rfl (R.pickT (v := (.bool (decide ((dm : Int) ≤ 16)))) (congrArg Value.bool (decide_eq_true (by omega))) rfl) (qM (.bool (decide ((dm : Int) ≤ 16))) rfl rfl ?_))
 refine WL.want rfl (congrArg Value.bool (decide_eq_true (by omega))) ?_
 refine qV rfl (R.fieldAddr (off' := 0) rfl underlying100 rfl sizeOf98 rfl rfl) ?_
 refine WL.want rfl (congrArg Value.bool (decide_eq_true (by omega))) ?_
 refine qV rfl (R.load1 rfl isAgg98 (h_3.ok _ M0) Sg.h) ?_
 refine WL.want rfl (congrArg Value.bool (decide_eq_true (by omega))) ?_
 refine qV rfl (R.bin rfl rfl (bi_neq (r := decide ((kd : Int) ≠ 1)) rfl)) ?_
 refine WL.want rfl (congrArg Value.bool (decide_eq_true (by omega))) ?_
 refine qM (.bool (decide ((kd : Int) ≠ 1))) rfl rfl ?_
 rcases Bool.eq_false_or_eq_true (decide ((kd : Int) ≠ 1)) with c_4 | c_4
 ·have p_5 := of_decide_eq_true c_4
  refine WL.skip rfl (congrArg Value.bool c_4) rfl ?_
  refine WL.skip rfl (congrArg Value.bool c_4) rfl ?_
  refine WL.skip rfl (congrArg Value.bool c_4) rfl ?_
  refine WL.skip rfl (congrArg Value.bool c_4) rfl ?_
  refine WL.want rfl (congrArg Value.bool (decide_eq_true (by omega))) ?_
  refine qV rfl (R.pickT (v := (.bool true)) (congrArg Value.bool c_4) rfl) (qV rfl (R.pickT (v := (.bool true)) (congrArg Value.bool (decide_eq_true (by omega))) rfl) (qA (.bool true) rfl rfl ?_))
  refine WL.nil (thn_n (WP.ret ?_))
  refine ret_of results69 (RV.tmp (v := (.bool true)) rfl RV.nil) ?_
  exact ⟨rfl, h_3.chgS⟩
 ·have p_6 := of_decide_eq_false c_4
  refine WL.want rfl (congrArg Value.bool c_4) ?_
  refine qV rfl (R.fieldAddr (off' := 1) rfl underlying100 rfl sizeOf23 rfl rfl) ?_
  refine WL.want rfl (congrArg Value.bool c_4) ?_
  refine qV rfl (R.loadA [(1, [(vi kd)])] [(32, key.map vu8)] [(1, [(vi dm)]), (1, [(.slice qa qn qc)])] (cs := key.map vu8) rfl isAgg23 sizeOf23 (h_3.ok _ M0) rfl rfl rfl rfl) ?_
  refine WL.want rfl (congrArg Value.bool c_4) ?_
  refine qV rfl (R.buildA (vs := []) (cs := (zB 32).map vu8) underlying23 sizeOf5 (zv typeInfo23 rfl) rfl rfl) ?_
  refine WL.want rfl (congrArg Value.bool c_4) ?_
  refine qV rfl (R.eqA (xs := key.map vu8) (ys := (zB 32).map vu8) (r := true) rfl rfl eqGuardType23 kt23 (by decide) ag23 (Typ.u8s underlying23 ce23 underlying5 ce5 hk) (Typ.u8s underlying23 ce23 underlying5 ce5 lr) (eqT (by rw [hz (by omega)]))) ?_
  refine WL.want rfl (congrArg Value.bool (decide_eq_true (by omega))) ?_
  refine qV rfl (R.pickF (v := (.bool true)) (congrArg Value.bool c_4) rfl) (qV rfl (R.pickT (v := (.bool true)) (congrArg Value.bool (decide_eq_true (by omega))) rfl) (qA (.bool true) rfl rfl ?_))
  refine WL.nil (thn_n (WP.ret ?_))
  refine ret_of results69 (RV.tmp (v := (.bool true)) rfl RV.nil) ?_
  exact ⟨rfl, h_3.chgS⟩

theorem c_may_0 (dm : Int) (key : List UInt8) (qa : Option Addr) (qn qc : Nat) (hk : key.length = 32) (w : World) :
  Cs Tryz.prog 69 [(.agg ⟨flat [(1, [(vi 0)]), (32, key.map vu8), (1, [(vi dm)]), (1, [(.slice qa qn qc)])]⟩)].toArray w (fun v w1 => v = (.bool false) ∧ Chg w w1 []) := by
 refine Cs.of (n := 32) (args := [(.agg ⟨flat [(1, [(vi 0)]), (32, key.map vu8), (1, [(vi dm)]), (1, [(.slice qa qn qc)])]⟩)]) Tryz.func69 rfl rfl rfl ?_
 have h_0 := HP.init w
 refine WP.seq (WP.reg ?_)
 refine WL.box (segs := [(1, [(vi 0)]), (32, key.map vu8), (1, [(vi dm)]), (1, [(.slice qa qn qc)])]) h_0 rfl rfl (sC sV (sC (s8 hk) (sC sV (sC sV sN)))) rfl (fun b_1 w_2 h_3 => ?_)
 refine qA (.bool false) rfl rfl ?_
 refine WL.nil (thn_n (WP.seq (WP.reg ?_)))
 refine qV rfl (R.fieldAddr (off' := 0) rfl underlying100 rfl sizeOf98 rfl rfl) (qV rfl (R.load1 rfl isAgg98 (h_3.ok _ M0) Sg.h) (qV rfl (R.bin rfl rfl (bi_geq (r := false) (by decide))) (qM (.bool false) rfl rfl ?_)))
 refine WL.skip rfl rfl rfl ?_
 refine WL.skip rfl rfl rfl ?_
 refine WL.skip rfl rfl rfl ?_
 refine qV rfl (R.pickF (v := (.bool false)) rfl rfl) (qM (.bool false) rfl rfl ?_)
 refine WL.skip rfl rfl rfl ?_
 refine WL.skip rfl rfl rfl ?_
 refine WL.skip rfl rfl rfl ?_
 refine qV rfl (R.pickF (v := (.bool false)) rfl rfl) (qM (.bool false) rfl rfl ?_)
 refine WL.skip rfl rfl rfl ?_
 refine WL.skip rfl rfl rfl ?_
 refine WL.skip rfl rfl rfl ?_
 refine qV rfl (R.pickF (v := (.bool false)) rfl rfl) (qM (.bool false) rfl rfl ?_)
 refine WL.skip rfl rfl rfl ?_
 refine WL.skip rfl rfl rfl ?_
 refine WL.skip rfl rfl rfl ?_
 refine WL.skip rfl rfl rfl ?_
 refine WL.skipU rfl rfl rfl ?_
 refine WL.skipU rfl rfl rfl ?_
 refine WL.skipU rfl rfl rfl ?_
 refine WL.skipU rfl rfl rfl ?_
 refine WL.skip rfl rfl rfl ?_
 refine qV rfl (R.pickF (v := (.bool false)) rfl rfl) (qA (.bool false) rfl rfl ?_)
 refine WL.nil (thn_n (WP.ret ?_))
 refine ret_of results69 (RV.tmp (v := (.bool false)) rfl RV.nil) ?_
 exact ⟨rfl, h_3.chgS⟩

theorem c_oAsk_0 (id : Bool) (ob mp : Nat) (ms : List UInt8) (hms : ms.length = 32) (da : Option Addr) (dn dc u : Nat) (la : Option Addr) (ln lc : Nat) (dm : Int) (key : List UInt8) (qa : Option Addr) (qn qc : Nat) (hk : key.length = 32) (w : World) (hcb : (Ent.blk ob .ro 106 [(1, [(.bool id)]), (32, ms.map vu8), (1, [(.slice da dn dc)]), (1, [(vi ((u : Nat) : Int))]), (1, [(.map (some mp))]), (1, [(.slice la ln lc)])]).ok w.heap.size w) :
  Cs Tryz.prog 62 [(.pointer (some ⟨ob, 0, none⟩)), (.agg ⟨flat [(1, [(vi 0)]), (32, key.map vu8), (1, [(vi dm)]), (1, [(.slice qa qn qc)])]⟩)].toArray w (fun v w1 => v = (.tuple [(.agg ⟨(List.replicate 32 (0 : UInt8)).map vu8⟩), (vi 2)].toArray) ∧ Chg w w1 []) := by
 refine Cs.of (n := 25) (args := [(pO ob 0), (.agg ⟨flat [(1, [(vi 0)]), (32, key.map vu8), (1, [(vi dm)]), (1, [(.slice qa qn qc)])]⟩)]) Tryz.func62 rfl rfl rfl ?_
 have h_0 := HP.init w
 have h_00 := h_0.old hcb (fun f hf => by cases hf)
 refine WP.seq (WP.reg ?_)
 refine WL.box (segs := [(1, [(vi 0)]), (32, key.map vu8), (1, [(vi dm)]), (1, [(.slice qa qn qc)])]) h_00 rfl rfl (sC sV (sC (s8 hk) (sC sV (sC sV sN)))) rfl (fun b_1 w_2 h_3 => ?_)
 refine WL.alloc (segs := [(32, (zB 32).map vu8)]) h_3 (zv typeInfo23 rfl) rfl (sC (s8 lr) sN) rfl (fun b_4 w_5 h_6 => ?_)
 refine qA (vi 0) rfl rfl ?_
 refine WL.nil (thn_n (WP.seq (WP.block (WP.seq (WP.reg ?_)))))
 refine qM (pO ob 0) rfl rfl ?_
 refine WL.call Tryz.call54 rfl rfl (c_othere id ob mp ms hms da dn dc u la ln lc _ (h_6.argR M2)) rfl ?_
 rintro _ w_8 ⟨rfl, hc_7⟩
 have h_9 := h_6.same hc_7
 refine qV rfl (R.not (b := true) rfl) (qA (.bool false) rfl rfl ?_)
 refine WL.nil (thn_n ?_)
 refine WP.condF rfl ?_
 refine WP.seq (WP.reg ?_)
 refine qV rfl (R.loadA [] [(1, [(vi 0)]), (32, key.map vu8), (1, [(vi dm)]), (1, [(.slice qa qn qc)])] [] rfl isAgg100 sizeOf100 (h_9.ok _ M1) rfl rfl rfl rfl) ?_
 refine WL.call Tryz.call69 rfl rfl (c_may_0 dm key qa qn qc hk _ ) rfl ?_
 rintro _ w_11 ⟨rfl, hc_10⟩
 have h_12 := h_9.same hc_10
 refine qV rfl (R.not (b := false) rfl) (qM (.bool true) rfl rfl ?_)
 refine WL.skip rfl rfl rfl ?_
 refine WL.skip rfl rfl rfl ?_
 refine WL.skip rfl rfl rfl ?_
 refine qV rfl (R.pickT (v := (.bool true)) rfl rfl) (qA (.bool true) rfl rfl ?_)
 refine WL.nil (thn_n ?_)
 refine WP.condT rfl ?_
 refine WP.seq (WP.reg ?_)
 refine qV rfl (R.buildA (vs := []) (cs := (zB 32).map vu8) underlying23 sizeOf5 (zv typeInfo23 rfl) rfl rfl) ?_
 refine WL.storeA [] [(32, (zB 32).map vu8)] [(32, (zB 32).map vu8)] [] h_12 rfl rfl sizeOf23 At.h (by decide) rfl rfl rfl rfl rfl rfl (sC (s8 lr) sN) (fun w_13 h_14 => ?_)
 refine qA (vi 2) rfl rfl ?_
 refine WL.nil (thn_n (WP.ret (inb_r (thn_r ?_))))
 refine ret_of results62 (RV.cell rfl (h_14.loadA (cs := (zB 32).map vu8) isAgg23 sizeOf23 M0 rfl rfl) (RV.tmp (v := (vi 2)) rfl RV.nil)) ?_
 exact ⟨rfl, h_14.chgS⟩

theorem c_oAsk {w00 : World} {L : List Ent} (id : Bool) (ob mp : Nat) (ms df : List UInt8) (hms : ms.length = 32) (da : Option Addr) (dn dc u : Nat) (hdf : df.length = 32 * dn) (la : Option Addr) (lc : Nat) (lx : List Value) (lg : Lg) (hu : u ≤ 1000000) (hlg : lg.length ≤ 1000000) (kd dm : Int) (key data : List UInt8) (qa : Option Addr) (qn qc : Nat) (hq : okQ (kd, key, dm, data)) (hdl : data.length = qn) (hk4 : ¬ kd = 4) (hz : kd = 1 → key = List.replicate 32 0) (w : World) (h_0 : HP w00 w (Ent.blk ob .nw 106 [(1, [(.bool id)]), (32, ms.map vu8), (1, [(.slice da dn dc)]), (1, [(vi ((u : Nat) : Int))]), (1, [(.map (some mp))]), (1, [(.slice la lg.length lc)])] :: Ent.row la lg.length lc 102 67 lx :: Ent.obj mp .nw (.map (mArr lg) lg.length) :: Ent.pin (sblks lx) (fun w => Lgs w lx lg) :: Ent.view da (df.map vu8) :: Ent.view qa (data.map vu8) :: L)) :
  Cs Tryz.prog 62 [(.pointer (some ⟨ob, 0, none⟩)), (.agg ⟨flat [(1, [(vi kd)]), (32, key.map vu8), (1, [(vi dm)]), (1, [(.slice qa qn qc)])]⟩)].toArray w (fun v w1 => ∃ la' lc' lx', v = (.tuple [(.agg ⟨(anD id df dn u lg (kd, key, dm, data)).map vu8⟩), (vi 0)].toArray) ∧ HP w00 w1 (Ent.blk ob .nw 106 [(1, [(.bool id)]), (32, ms.map vu8), (1, [(.slice da dn dc)]), (1, [(vi (((anU id u lg (kd, key, dm, data)) : Nat) : Int))]), (1, [(.map (some mp))]), (1, [(.slice la' ((anL id df dn u lg (kd, key, dm, data)).length) lc')])] :: Ent.row la' ((anL id df dn u lg (kd, key, dm, data)).length) lc' 102 67 lx' :: Ent.obj mp .nw (.map (mArr (anL id df dn u lg (kd, key, dm, data))) ((anL id df dn u lg (kd, key, dm, data)).length)) :: Ent.pin (sblks lx') (fun w => Lgs w lx' (anL id df dn u lg (kd, key, dm, data))) :: Ent.view da (df.map vu8) :: Ent.view qa (data.map vu8) :: L)) := by
 refine Cs.of (n := 25) (args := [(pO ob 0), (.agg ⟨flat [(1, [(vi kd)]), (32, key.map vu8), (1, [(vi dm)]), (1, [(.slice qa qn qc)])]⟩)]) Tryz.func62 rfl rfl rfl ?_
 refine WP.seq (WP.reg ?_)
 refine WL.box (segs := [(1, [(vi kd)]), (32, key.map vu8), (1, [(vi dm)]), (1, [(.slice qa qn qc)])]) h_0 rfl rfl (sC sV (sC (s8 hq.1) (sC sV (sC sV sN)))) rfl (fun b_1 w_2 h_3 => ?_)
 refine WL.alloc (segs := [(32, (zB 32).map vu8)]) h_3 (zv typeInfo23 rfl) rfl (sC (s8 lr) sN) rfl (fun b_4 w_5 h_6 => ?_)
 refine qA (vi 0) rfl rfl ?_
 refine WL.nil (thn_n (WP.seq (WP.block (WP.seq (WP.reg ?_)))))
 refine qM (pO ob 0) rfl rfl ?_
 refine WL.call Tryz.call54 rfl rfl (c_othere id ob mp ms hms da dn dc u la lg.length lc _ (h_6.argR M2)) rfl ?_
 rintro _ w_8 ⟨rfl, hc_7⟩
 have h_9 := h_6.same hc_7
 refine qV rfl (R.not (b := true) rfl) (qA (.bool false) rfl rfl ?_)
 refine WL.nil (thn_n ?_)
 refine WP.condF rfl ?_
 refine WP.seq (WP.reg ?_)
 refine qV rfl (R.loadA [] [(1, [(vi kd)]), (32, key.map vu8), (1, [(vi dm)]), (1, [(.slice qa qn qc)])] [] rfl isAgg100 sizeOf100 (h_9.ok _ M1) rfl rfl rfl rfl) ?_
 refine WL.call Tryz.call69 rfl rfl (c_may kd dm key qa qn qc hq.1 (hq.2.1) (hq.2.2.1) hz _ ) rfl ?_
 rintro _ w_11 ⟨rfl, hc_10⟩
 have h_12 := h_9.same hc_10
 refine qV rfl (R.not (b := true) rfl) (qM (.bool false) rfl rfl ?_)
 refine WL.want rfl rfl ?_
 refine qV rfl (R.fieldAddr (off' := 0) rfl underlying100 rfl sizeOf98 rfl rfl) ?_
 refine WL.want rfl rfl ?_
 refine qV rfl (R.load1 rfl isAgg98 (h_12.ok _ M1) Sg.h) ?_
 refine WL.want rfl rfl ?_
 refine qV rfl (R.bin rfl rfl (bi_eql (r := decide ((kd : Int) = 4)) rfl)) (qV rfl (R.pickF (v := (.bool (decide ((kd : Int) = 4)))) rfl rfl) (qA (.bool (decide ((kd : Int) = 4))) rfl rfl ?_))
 refine WL.nil (thn_n ?_)
 refine WP.condF (congrArg Value.bool (decide_eq_false hk4)) ?_
 refine WP.skip (inb_n (thn_n (WP.seq (WP.reg ?_))))
 refine qM (pO ob 0) rfl rfl (qV rfl (R.loadA [] [(1, [(vi kd)]), (32, key.map vu8), (1, [(vi dm)]), (1, [(.slice qa qn qc)])] [] rfl isAgg100 sizeOf100 (h_12.ok _ M1) rfl rfl rfl rfl) (qV rfl (R.makeFuncL (fi := []) (ca := [(pO b_1 0)]) rfl rfl) ?_))
 have h_19 := ((((((h_12.up J1).up J7).up J7).up J7).up J7).up J7).up J7
 have h32_w_23 := (Lgs.ok32 (h_19.ok _ M3).1)
 refine WL.call Tryz.call70 rfl rfl (c_ansG id ob mp ms df hms da dn dc u hdf la lc lx lg (by first | decide | omega) (by first | decide | omega) kd dm key data qa qn qc hq hdl b_1 _ h_19) rfl ?_
 rintro _ w_23 ⟨la_20, lc_21, lx_22, rfl, h_24⟩
 refine WL.storeA [] [(32, (zB 32).map vu8)] [(32, (anD id df dn u lg (kd, key, dm, data)).map vu8)] [] h_24 rfl rfl sizeOf23 Y7 (by decide) rfl rfl rfl rfl rfl rfl (sC (s8 (anD_len hdf h32_w_23)) sN) (fun w_25 h_26 => ?_)
 refine qA (vi 0) rfl rfl ?_
 refine WL.nil (thn_n (WP.ret ?_))
 refine ret_of results62 (RV.cell rfl (h_26.loadA (cs := (anD id df dn u lg (kd, key, dm, data)).map vu8) isAgg23 sizeOf23 M7 rfl rfl) (RV.tmp (v := (vi 0)) rfl RV.nil)) ?_
 have h_36 := (((((((((h_26.up J6).drop rfl).up J6).drop rfl).up J5).up J5).up J5).up J5).up J5).up J5
 exact ⟨_, _, _, rfl, h_36⟩
end Go.Proofs.YtbhllplbbkmndaaGreat

namespace Go.Proofs.YtbhllplbbkmndaaGreat
open Go.Proofs.Tryz
open Go.Vc Go.Orc Go.Sh Go.RowKit
set_option maxRecDepth 20000
theorem pl100 : ∀ fs, Tryz.prog.underlying 100 = some (.struct fs) → Places Tryz.prog fs [(0, 1), (1, 32), (33, 1), (34, 1)] := by
 intro fs h w; rw [underlying100] at h; cases h; simp
theorem pl106 : ∀ fs, Tryz.prog.underlying 106 = some (.struct fs) → Places Tryz.prog fs [(0, 1), (1, 32), (33, 1), (34, 1), (35, 1), (36, 1)] := by
 intro fs h w; rw [underlying106] at h; cases h; simp
theorem c_ONew {w00 : World} {L : List Ent} (id : Bool) (ms df : List UInt8) (hms : ms.length = 32) (a : Option Addr) (n cap : Nat) (hl : df.length = 32 * n) (hn : n ≤ 1000000) (w : World) (h_0 : HP w00 w (Ent.view a (df.map vu8) :: L)) :
  Cs Tryz.prog 34 [(.bool id), (.agg ⟨ms.map vu8⟩), (.slice a n cap)].toArray w (fun v w1 => ∃ ob mp da dc, v = .pointer (some ⟨ob, 0, none⟩) ∧ HP w00 w1 (Ent.blk ob .nw 106 [(1, [(.bool id)]), (32, ms.map vu8), (1, [(.slice da n dc)]), (1, [(vi 0)]), (1, [(.map (some mp))]), (1, [(.slice none 0 0)])] :: Ent.row none 0 0 102 67 [] :: Ent.obj mp .nw (.map (mArr ([] : Lg)) 0) :: Ent.pin (sblks []) (fun w => Lgs w [] ([] : Lg)) :: Ent.view da (df.map vu8) :: Ent.view a (df.map vu8) :: L)) := by
 refine Cs.of (n := 14) (args := [(.bool id), (.agg ⟨ms.map vu8⟩), (.slice a n cap)]) Tryz.func34 rfl rfl rfl ?_
 refine WP.seq (WP.reg ?_)
 refine WL.box (segs := [(32, ms.map vu8)]) h_0 rfl rfl (sC (s8 hms) sN) rfl (fun b_1 w_2 h_3 => ?_)
 refine qA (.pointer none) rfl rfl ?_
 refine WL.nil (thn_n (WP.seq ?_))
 refine WP.cutG (G := Nat × Option Addr × Nat × Nat) [6, 7, 8, 9, 10, 11, 12, 13] (fun (bY1Y6Y0Y0, aY1Y3Y0Y0, capY1Y3Y0Y0, bY1Y4Y0Y0) => [(6, (pO bY1Y6Y0Y0 0)), (7, (.bool id)), (8, (.agg ⟨ms.map vu8⟩)), (9, (.slice a n cap)), (10, (.slice aY1Y3Y0Y0 n capY1Y3Y0Y0)), (11, (.map (some bY1Y4Y0Y0))), (12, (.agg ⟨flat [(1, [(.bool id)]), (32, ms.map vu8), (1, [(.slice aY1Y3Y0Y0 n capY1Y3Y0Y0)]), (1, [(vi 0)]), (1, [(.map (some bY1Y4Y0Y0))]), (1, [(.slice none 0 0)])]⟩)), (13, (pO bY1Y6Y0Y0 0))]) (fun (bY1Y6Y0Y0, aY1Y3Y0Y0, capY1Y3Y0Y0, bY1Y4Y0Y0) w1 => HP w00 w1 (Ent.blk bY1Y6Y0Y0 .nw 106 [(1, [(.bool id)]), (32, ms.map vu8), (1, [(.slice aY1Y3Y0Y0 n capY1Y3Y0Y0)]), (1, [(vi 0)]), (1, [(.map (some bY1Y4Y0Y0))]), (1, [(.slice none 0 0)])] :: Ent.obj bY1Y4Y0Y0 .nw (.map (#[]) 0) :: Ent.row aY1Y3Y0Y0 n capY1Y3Y0Y0 23 32 (df.map vu8) :: Ent.blk b_1 .nw 23 [(32, ms.map vu8)] :: Ent.view a (df.map vu8) :: L)) ?_ ?_
 ·refine WP.drawT (SL w00.heap.size [.blk b_1 .nw 23 [(32, ms.map vu8)], .view a (df.map vu8)]) (.q 0 (.q 1 (.q 2 (.s2 3 4 (.s 4 (.q 5 (.s 6 (.q 7 .nil)))) (.s 3 (.q 5 (.s 6 (.q 7 .nil)))))))) (by kernel_rfl) (by kernel_rfl) rfl (by kernel_rfl) (fun w_4 hc_6 => (SL.cons ((h_3.same hc_6).ok _ M0) (SL.cons ((h_3.same hc_6).ok _ M1) (SL.nil _ _)))) (fun w_4 hc_6 => ?_)
  have h_5 := h_3.same hc_6
  refine qT rfl rfl (fun wq hS => R.move (v := (.bool id)) rfl) ?_
  refine qT rfl rfl (fun wq hS => R.loadA [] [(32, ms.map vu8)] [] (cs := ms.map vu8) rfl isAgg23 sizeOf23 (hS _ M0) rfl rfl rfl rfl) ?_
  refine qT rfl rfl (fun wq hS => R.move (v := (.slice a n cap)) rfl) ?_
  refine WT.s2 ?_ ?_
  ·refine oN rfl ?_
   refine WL.call Tryz.call60 rfl rfl (c_CloneD a n cap df hl (by omega) _ (viewV (h_5.ok _ M1))) rfl ?_
   rintro _ w_9 ⟨a_7, cap_8, rfl, hc_10, ho_11⟩
   have h_12 := h_5.gotRow hc_10 ho_11
   refine WL.nil ?_
   refine ⟨(N1_2 h_12.ok), ?_⟩
   refine WT.s (oN rfl ?_)
   refine WL.makeMap h_12 rfl (fun b_13 w_14 h_15 => ?_)
   refine WL.nil ?_
   refine ⟨(N2_3 h_15.ok), ?_⟩
   refine qT rfl rfl (fun wq hS => R.buildS (pl := [(0, 1), (1, 32), (33, 1), (34, 1), (35, 1), (36, 1)]) (zs := [(1, [(.bool false)]), (32, (zB 32).map vu8), (1, [(.slice none 0 0)]), (1, [(vi 0)]), (1, [(.map none)]), (1, [(.slice none 0 0)])]) (vs := [(0, (.bool id)), (1, (.agg ⟨ms.map vu8⟩)), (2, (.slice a_7 n cap_8)), (4, (.map (some b_13)))]) (out := [(1, [(.bool id)]), (32, ms.map vu8), (1, [(.slice a_7 n cap_8)]), (1, [(vi 0)]), (1, [(.map (some b_13))]), (1, [(.slice none 0 0)])]) underlying106 (zv typeInfo106 rfl) rfl (sC sV (sC (s8 lr) (sC sV (sC sV (sC sV (sC sV sN)))))) (pl106 _ underlying106) rfl (FillR.cons [] [(1, [(.bool false)])] [(1, [(.bool id)])] [(32, (zB 32).map vu8), (1, [(.slice none 0 0)]), (1, [(vi 0)]), (1, [(.map none)]), (1, [(.slice none 0 0)])] rfl rfl rfl rfl (sC sV sN) rfl rfl rfl (FillR.cons [(1, [(.bool id)])] [(32, (zB 32).map vu8)] [(32, ms.map vu8)] [(1, [(.slice none 0 0)]), (1, [(vi 0)]), (1, [(.map none)]), (1, [(.slice none 0 0)])] rfl rfl rfl rfl (sC (s8 hms) sN) rfl rfl rfl (FillR.cons [(1, [(.bool id)]), (32, ms.map vu8)] [(1, [(.slice none 0 0)])] [(1, [(.slice a_7 n cap_8)])] [(1, [(vi 0)]), (1, [(.map none)]), (1, [(.slice none 0 0)])] rfl rfl rfl rfl (sC sV sN) rfl rfl rfl (FillR.cons [(1, [(.bool id)]), (32, ms.map vu8), (1, [(.slice a_7 n cap_8)]), (1, [(vi 0)])] [(1, [(.map none)])] [(1, [(.map (some b_13))])] [(1, [(.slice none 0 0)])] rfl rfl rfl rfl (sC sV sN) rfl rfl rfl FillR.nil)))) rfl) ?_
   refine WT.s (oN rfl ?_)
   refine WL.box (segs := [(1, [(.bool id)]), (32, ms.map vu8), (1, [(.slice a_7 n cap_8)]), (1, [(vi 0)]), (1, [(.map (some b_13))]), (1, [(.slice none 0 0)])]) h_15 rfl rfl (sC sV (sC (s8 hms) (sC sV (sC sV (sC sV (sC sV sN)))))) rfl (fun b_17 w_18 h_19 => ?_)
   refine WL.nil ?_
   refine ⟨(N3_4 h_19.ok), ?_⟩
   refine qT rfl rfl (fun wq hS => R.assign (v := (pO b_17 0)) rfl) ?_
   refine WT.nil (thn_n ?_)
   exact ⟨(b_17, a_7, cap_8, b_13), (U4 rfl rfl rfl rfl (U4 rfl rfl rfl rfl (Ag.refl _ _))), ⟨rfl, rfl, rfl, rfl, rfl, rfl, rfl, rfl, trivial⟩, h_19⟩
  ·refine oN rfl ?_
   refine WL.makeMap h_5 rfl (fun b_20 w_21 h_22 => ?_)
   refine WL.nil ?_
   refine ⟨(N1_2 h_22.ok), ?_⟩
   refine WT.s (oN rfl ?_)
   refine WL.call Tryz.call60 rfl rfl (c_CloneD a n cap df hl (by omega) _ (viewV (h_22.ok _ M2))) rfl ?_
   rintro _ w_25 ⟨a_23, cap_24, rfl, hc_26, ho_27⟩
   have h_28 := h_22.gotRow hc_26 ho_27
   refine WL.nil ?_
   refine ⟨(N2_3 h_28.ok), ?_⟩
   refine qT rfl rfl (fun wq hS => R.buildS (pl := [(0, 1), (1, 32), (33, 1), (34, 1), (35, 1), (36, 1)]) (zs := [(1, [(.bool false)]), (32, (zB 32).map vu8), (1, [(.slice none 0 0)]), (1, [(vi 0)]), (1, [(.map none)]), (1, [(.slice none 0 0)])]) (vs := [(0, (.bool id)), (1, (.agg ⟨ms.map vu8⟩)), (2, (.slice a_23 n cap_24)), (4, (.map (some b_20)))]) (out := [(1, [(.bool id)]), (32, ms.map vu8), (1, [(.slice a_23 n cap_24)]), (1, [(vi 0)]), (1, [(.map (some b_20))]), (1, [(.slice none 0 0)])]) underlying106 (zv typeInfo106 rfl) rfl (sC sV (sC (s8 lr) (sC sV (sC sV (sC sV (sC sV sN)))))) (pl106 _ underlying106) rfl (FillR.cons [] [(1, [(.bool false)])] [(1, [(.bool id)])] [(32, (zB 32).map vu8), (1, [(.slice none 0 0)]), (1, [(vi 0)]), (1, [(.map none)]), (1, [(.slice none 0 0)])] rfl rfl rfl rfl (sC sV sN) rfl rfl rfl (FillR.cons [(1, [(.bool id)])] [(32, (zB 32).map vu8)] [(32, ms.map vu8)] [(1, [(.slice none 0 0)]), (1, [(vi 0)]), (1, [(.map none)]), (1, [(.slice none 0 0)])] rfl rfl rfl rfl (sC (s8 hms) sN) rfl rfl rfl (FillR.cons [(1, [(.bool id)]), (32, ms.map vu8)] [(1, [(.slice none 0 0)])] [(1, [(.slice a_23 n cap_24)])] [(1, [(vi 0)]), (1, [(.map none)]), (1, [(.slice none 0 0)])] rfl rfl rfl rfl (sC sV sN) rfl rfl rfl (FillR.cons [(1, [(.bool id)]), (32, ms.map vu8), (1, [(.slice a_23 n cap_24)]), (1, [(vi 0)])] [(1, [(.map none)])] [(1, [(.map (some b_20))])] [(1, [(.slice none 0 0)])] rfl rfl rfl rfl (sC sV sN) rfl rfl rfl FillR.nil)))) rfl) ?_
   refine WT.s (oN rfl ?_)
   refine WL.box (segs := [(1, [(.bool id)]), (32, ms.map vu8), (1, [(.slice a_23 n cap_24)]), (1, [(vi 0)]), (1, [(.map (some b_20))]), (1, [(.slice none 0 0)])]) h_28 rfl rfl (sC sV (sC (s8 hms) (sC sV (sC sV (sC sV (sC sV sN)))))) rfl (fun b_30 w_31 h_32 => ?_)
   refine WL.nil ?_
   refine ⟨(N3_4 h_32.ok), ?_⟩
   refine qT rfl rfl (fun wq hS => R.assign (v := (pO b_30 0)) rfl) ?_
   refine WT.nil (thn_n ?_)
   have h_37 := ((((h_32.up J4).up J4).up J3).up J4).up J4
   exact ⟨(b_30, a_23, cap_24, b_20), (U4 rfl rfl rfl rfl (U4 rfl rfl rfl rfl (Ag.refl _ _))), ⟨rfl, rfl, rfl, rfl, rfl, rfl, rfl, rfl, trivial⟩, h_37⟩
 ·rintro ⟨b_41, a_42, cap_43, b_44⟩ J_38 w_39 h_40
  refine thn_n (WP.ret ?_)
  refine ret_of results34 (RV.tmp (v := (pO b_41 0)) rfl RV.nil) ?_
  have h_45 := h_40.up J2
  have h_46 := h_45.rowView
  have h_47 := h_46.rowNil 102 67
  have h_48 := HP_logNil h_47
  have h_56 := (((((((h_48.up J5).drop rfl).up J5).up J3).up J2).up J5).up J4).up J5
  exact ⟨_, _, _, _, rfl, h_56⟩
theorem c_joined (a : Option Addr) (n cap : Nat) (xs : List Value) (ls : List (List UInt8)) (hln : ls.length = n) (hb : ls.flatten.length ≤ 1099511627776) (hnb : n ≤ 1099511627776) (w : World) (hv : View w a xs) (hs : Sls w xs ls) :
  Cs Tryz.prog 63 [(.slice a n cap)].toArray w (fun v w1 => ∃ a cap, v = .slice a ls.flatten.length cap ∧ Chg w w1 [] ∧ Own w.heap.size w1 5 1 a ls.flatten.length cap ((ls.flatten).map vu8)) := by
 refine Cs.of (n := 5) (args := [(.slice a n cap)]) Tryz.func63 rfl rfl rfl ?_
 have h_0 := HP.init w
 have h_01 := h_0.old (View.arg hv) (fun f hf => by cases hf)
 have h_00 := h_01.old hs.pin (fun f hf => by rw [List.mem_singleton] at hf; subst hf; intro hm; simp [Ent.mut] at hm)
 have hxl : xs.length = n := hs.len.trans hln
 refine WP.seq (WP.reg ?_)
 refine qA (.slice none 0 0) rfl rfl ?_
 refine WL.nil (thn_n (WP.seq (WP.reg ?_)))
 refine qM (.slice a n cap) rfl rfl ?_
 refine WL.call Tryz.call75 rfl rfl (c_Concat a n cap xs ls hln (by omega) (by omega) _ (viewV (h_00.ok _ M1)) (h_00.ok _ M0).1) rfl ?_
 rintro _ w_3 ⟨a_1, cap_2, rfl, hc_4, ho_5⟩
 have h_6 := h_00.gotRow hc_4 ho_5
 refine qA (.slice a_1 ls.flatten.length cap_2) rfl rfl ?_
 refine WL.nil (thn_n (WP.ret ?_))
 refine ret_of results63 (RV.tmp (v := (.slice a_1 ls.flatten.length cap_2)) rfl RV.nil) ?_
 exact ⟨_, _, rfl, h_6.chgS, h_6.ok _ M0⟩

theorem c_oDigest {w00 : World} {L : List Ent} (id : Bool) (ob mp : Nat) (ms df : List UInt8) (hms : ms.length = 32) (da : Option Addr) (dn dc u : Nat) (hdf : df.length = 32 * dn) (la : Option Addr) (lc : Nat) (lx : List Value) (lg : Lg) (hu : u ≤ 1000000) (hlg : lg.length ≤ 1000000) (a : Option Addr) (n cap : Nat) (xs : List Value) (ls : List (List UInt8)) (hln : ls.length = n) (dm : Int) (hdm : 1 ≤ dm ∧ dm ≤ 16) (hb : ls.flatten.length ≤ 1000000000) (hnb : n ≤ 1000000) (w : World) (h_0 : HP w00 w (Ent.blk ob .nw 106 [(1, [(.bool id)]), (32, ms.map vu8), (1, [(.slice da dn dc)]), (1, [(vi ((u : Nat) : Int))]), (1, [(.map (some mp))]), (1, [(.slice la lg.length lc)])] :: Ent.row la lg.length lc 102 67 lx :: Ent.obj mp .nw (.map (mArr lg) lg.length) :: Ent.pin (sblks lx) (fun w => Lgs w lx lg) :: Ent.view da (df.map vu8) :: Ent.pin (sblks xs) (fun w => Sls w xs ls) :: Ent.view a xs :: L)) :
  Cs Tryz.prog 41 [(.pointer (some ⟨ob, 0, none⟩)), (vi dm), (.slice a n cap)].toArray w (fun v w1 => ∃ la' lc' lx', v = (.tuple [(.agg ⟨(anD id df dn u lg (1, (List.replicate 32 (0 : UInt8)), dm, ls.flatten)).map vu8⟩), (vi 0)].toArray) ∧ HP w00 w1 (Ent.blk ob .nw 106 [(1, [(.bool id)]), (32, ms.map vu8), (1, [(.slice da dn dc)]), (1, [(vi (((anU id u lg (1, (List.replicate 32 (0 : UInt8)), dm, ls.flatten)) : Nat) : Int))]), (1, [(.map (some mp))]), (1, [(.slice la' ((anL id df dn u lg (1, (List.replicate 32 (0 : UInt8)), dm, ls.flatten)).length) lc')])] :: Ent.row la' ((anL id df dn u lg (1, (List.replicate 32 (0 : UInt8)), dm, ls.flatten)).length) lc' 102 67 lx' :: Ent.obj mp .nw (.map (mArr (anL id df dn u lg (1, (List.replicate 32 (0 : UInt8)), dm, ls.flatten))) ((anL id df dn u lg (1, (List.replicate 32 (0 : UInt8)), dm, ls.flatten)).length)) :: Ent.pin (sblks lx') (fun w => Lgs w lx' (anL id df dn u lg (1, (List.replicate 32 (0 : UInt8)), dm, ls.flatten))) :: Ent.view da (df.map vu8) :: Ent.pin (sblks xs) (fun w => Sls w xs ls) :: Ent.view a xs :: L)) := by
 have hxs := (h_0.ok _ M5).1
 have hxl : xs.length = n := (Sls.len hxs).trans hln
 refine Cs.of (n := 16) (args := [(pO ob 0), (vi dm), (.slice a n cap)]) Tryz.func41 rfl rfl rfl ?_
 refine WP.seq (WP.reg ?_)
 refine WL.alloc (segs := [(32, (zB 32).map vu8)]) h_0 (zv typeInfo23 rfl) rfl (sC (s8 lr) sN) rfl (fun b_1 w_2 h_3 => ?_)
 refine qA (vi 0) rfl rfl ?_
 refine WL.nil (thn_n (WP.seq (WP.reg ?_)))
 refine qM (pO ob 0) rfl rfl (qM (vi dm) rfl rfl (qM (.slice a n cap) rfl rfl ?_))
 refine WL.call Tryz.call63 rfl rfl (c_joined a n cap xs ls hln (by omega) (by omega) _ (viewV (h_3.ok _ M7)) (h_3.ok _ M6).1) rfl ?_
 rintro _ w_6 ⟨a_4, cap_5, rfl, hc_7, ho_8⟩
 have h_9 := h_3.gotRow hc_7 ho_8
 refine qV rfl (R.buildS (pl := [(0, 1), (1, 32), (33, 1), (34, 1)]) (zs := [(1, [(vi 0)]), (32, (zB 32).map vu8), (1, [(vi 0)]), (1, [(.slice none 0 0)])]) (vs := [(0, (vi 1)), (2, (vi dm)), (3, (.slice a_4 ls.flatten.length cap_5))]) (out := [(1, [(vi 1)]), (32, (zB 32).map vu8), (1, [(vi dm)]), (1, [(.slice a_4 ls.flatten.length cap_5)])]) underlying100 (zv typeInfo100 rfl) rfl (sC sV (sC (s8 lr) (sC sV (sC sV sN)))) (pl100 _ underlying100) rfl (FillR.cons [] [(1, [(vi 0)])] [(1, [(vi 1)])] [(32, (zB 32).map vu8), (1, [(vi 0)]), (1, [(.slice none 0 0)])] rfl rfl rfl rfl (sC sV sN) rfl rfl rfl (FillR.cons [(1, [(vi 1)]), (32, (zB 32).map vu8)] [(1, [(vi 0)])] [(1, [(vi dm)])] [(1, [(.slice none 0 0)])] rfl rfl rfl rfl (sC sV sN) rfl rfl rfl (FillR.cons [(1, [(vi 1)]), (32, (zB 32).map vu8), (1, [(vi dm)])] [(1, [(.slice none 0 0)])] [(1, [(.slice a_4 ls.flatten.length cap_5)])] [] rfl rfl rfl rfl (sC sV sN) rfl rfl rfl FillR.nil))) rfl) ?_
 have h_11 := h_9.rowView
 have h_16 := ((((h_11.up J6).up J6).up J6).up J6).up J6
 have h32_w_20 := (Lgs.ok32 (h_16.ok _ M3).1)
 refine WL.call Tryz.call62 rfl rfl (c_oAsk id ob mp ms df hms da dn dc u hdf la lc lx lg hu hlg 1 dm (zB 32) ls.flatten a_4 ls.flatten.length cap_5 ⟨lr, by show (1 : Int) ≤ 1 ∧ (1 : Int) ≤ 4; omega, by show (1 : Int) ≤ dm ∧ (dm : Int) ≤ 16; omega, by show List.length ls.flatten ≤ 1000000000; first | decide | (simp only [List.length_append, leN_len]; omega) | omega⟩ (rfl : List.length ls.flatten = ls.flatten.length) (by decide) (fun _ => rfl) _ h_16) rfl ?_
 rintro _ w_20 ⟨la_17, lc_18, lx_19, rfl, h_21⟩
 refine qV rfl (R.extract rfl rfl) (qV rfl (R.extract rfl rfl) ?_)
 refine WL.storeA [] [(32, (zB 32).map vu8)] [(32, (anD id df dn u lg (1, List.replicate 32 (0 : UInt8), dm, ls.flatten)).map vu8)] [] h_21 rfl rfl sizeOf23 Y6 (by decide) rfl rfl rfl rfl rfl rfl (sC (s8 (anD_len hdf h32_w_20)) sN) (fun w_22 h_23 => ?_)
 refine qA (vi 0) rfl rfl ?_
 refine WL.nil (thn_n (WP.ret ?_))
 refine ret_of results41 (RV.cell rfl (h_23.loadA (cs := (anD id df dn u lg (1, List.replicate 32 (0 : UInt8), dm, ls.flatten)).map vu8) isAgg23 sizeOf23 M6 rfl rfl) (RV.tmp (v := (vi 0)) rfl RV.nil)) ?_
 have h_34 := ((((((((((h_23.up J5).drop rfl).up J5).drop rfl).up J6).up J6).up J6).up J6).up J6).up J6).up J6
 exact ⟨_, _, _, rfl, h_34⟩
end Go.Proofs.YtbhllplbbkmndaaGreat

namespace Go.Orc
open Go.Vc Go.RowKit
section
variable {P : Program} {n : Nat} {ops : Array Oper} {Q : Exit → Fr → World → Prop} {rest : List Oper} {F : Fr} {w w' w0 : World} {L : List Ent} {ty : TypeId} {pos : String} {after : Array Edge}
theorem WL_makeSlA {d m s : Nat} {T E : TypeId} {x y : Operand} {kx ky : IntKind} {i : TypeInfo} {z : Value} (h : HP w0 w L) (hx : evO F x = .int kx (m : Int)) (hy : evO F y = .int ky (m : Int)) (hT : P.underlying T = some (.slice E)) (hi : P.info? E = some i) (hz : i.zero = some (.agg ⟨List.replicate s z⟩)) (hs : i.size = s) (hs1 : 1 ≤ s) (h1 : z.oneCell' = true)
    (hb : i.bytes * m ≤ 281474976710656) (hm : m ≤ 140737488355328) (hd : Nat.blt d n = true) (k : ∀ b w', HP w0 w' (.row (some ⟨b, 0, none⟩) m m E s (List.replicate (m * s) z) :: L) → WL P n ops Q rest (upd F d (.slice (some ⟨b, 0, none⟩) m m)) w') :
    WL P n ops Q (⟨some d, .makeSlice T x y, ty, pos, after, none⟩ :: rest) F w := by
  have hw : IntKind.i64.wrap (m : Int) = m := w64i (by omega)
  have hsz : ∀ w, (sizeOf E).run P w = .ok s w := fun w => by simp [sizeOf, typeInfo, hi, hs]
  have hti : ∀ w, (typeInfo E).run P w = .ok i w := fun w => by simp [typeInfo, hi]
  have hzv : ∀ w, (zeroValue E).run P w = .ok (.agg ⟨List.replicate s z⟩) w := zv hti hz
  have c1 : ¬ (((m : Int) < 0 ∨ 281474976710656 < (i.bytes : Int) * (m : Int)) ∨ (m : Int) < 0) := by
    have : (i.bytes : Int) * (m : Int) = ((i.bytes * m : Nat) : Int) := by rw [Int.natCast_mul]
    rw [this]; omega
  have hcells : Array.map (fun x => (Array.replicate s z)[x % s]!) (Array.range (m * s)) = Array.replicate (m * s) z := by
    apply Array.ext
    · simp
    · intro j h1 h2
      have : j % s < s := Nat.mod_lt _ (by omega)
      simp [this]
  have hmm : m ≤ maxLen := by unfold maxLen; omega
  have ok : SsOk [(m * s, List.replicate (m * s) z)] := SsOk.cons ⟨by simp, by intro v hv; obtain ⟨_, rfl⟩ := List.mem_replicate.1 hv; exact h1⟩ SsOk.nil
  have hrun : (Instr.makeSlice T (.int kx m) (.int ky m)).run P w = .ok (.slice (some ⟨w.heap.size, 0, none⟩) m m) (w.alloc (.cells ⟨List.replicate (m * s) z⟩ E)) := by
    by_cases h0 : m = 0
    · subst h0
      simp [Instr.makeSlice, run_underlying hT, asInt, asIntOf, hti, hsz, newRow, show IntKind.i64.wrap 0 = 0 from hw]
      have e0 : Array.map (fun _ => (default : Value)) (Array.range 0) = (⟨[]⟩ : Array Value) := by apply Array.ext'; simp
      rw [e0]
    · have h00 : ¬ m * s = 0 := by
        intro e
        rcases Nat.mul_eq_zero.1 e with e | e <;> omega
      simp [Instr.makeSlice, run_underlying hT, asInt, asIntOf, hw, hti, hsz, newRow, hzv, h0, Value.cells, show ¬ s = 0 by omega]
      rw [if_neg c1]; simp [h00, hcells]
  obtain ⟨_, hh⟩ := new_core (P := P) (v := .agg ⟨List.replicate (m * s) z⟩) (T := E) h rfl ok
  have hh2 := HP.blkRow (m := m) (s := s) hh At.h (by omega) hmm
  exact WL.val rfl rfl hd (by simp only [execOp, hx, hy, Sem.run_bind, hrun, Result.andThen_ok, Sem.run_pure]; rfl) (k _ _ hh2)
end
end Go.Orc

namespace Go.Proofs.YtbhllplbbkmndaaGreat
open Go.Proofs.Tryz
open Go.Vc Go.Orc Go.Sh Go.RowKit
set_option maxRecDepth 20000
theorem el40 : ElT Tryz.prog 40 3 1 8 := ElT.mk' underlying40 (i := Tryz.t3) rfl rfl rfl rfl rfl rfl
def wayN (pg : Nat) : List Nat := [(128 + pg) / 2 ^ 0, (128 + pg) / 2 ^ 1, (128 + pg) / 2 ^ 2, (128 + pg) / 2 ^ 3, (128 + pg) / 2 ^ 4, (128 + pg) / 2 ^ 5, (128 + pg) / 2 ^ 6, (128 + pg) / 2 ^ 7]
def wayL (pg : Nat) : List Int := (wayN pg).map Int.ofNat
theorem same_ints {xs ys : List Int} (h : xs.length = ys.length) (hg : ∀ j, j < xs.length → xs.getD j 0 = ys.getD j 0) : xs = ys :=
 List.ext_getElem h fun j h1 h2 => by have := hg j h1; simpa [h1, h2] using this
def bsL (pg : Nat) : List Int := ((wayN pg).take 7).map fun x => Int.ofNat (x ^^^ 1)
theorem c_prot_t (pg : Nat) (h : pg < 128) (w : World) :
  Cs Tryz.prog 40 [(vi ((pg : Nat) : Int))].toArray w (fun v w1 => v = (.bool true) ∧ Chg w w1 []) := by
 refine Cs.of (n := 9) (args := [(vn pg)]) Tryz.func40 rfl rfl rfl ?_
 have h_0 := HP.init w
 refine WP.seq (WP.reg ?_)
 refine qA (.bool false) rfl rfl ?_
 refine WL.nil (thn_n (WP.seq (WP.reg ?_)))
 refine qM (vn pg) rfl rfl (qV rfl (R.bin rfl rfl (bi_geq (r := decide ((((pg : Nat) : Int) : Int) ≥ 0)) rfl)) (qM (.bool (decide ((((pg : Nat) : Int) : Int) ≥ 0))) rfl rfl ?_))
 refine WL.want rfl (congrArg Value.bool (decide_eq_true (by omega))) ?_
 refine qM (vn pg) rfl rfl ?_
 refine WL.want rfl (congrArg Value.bool (decide_eq_true (by omega))) ?_
 refine qV rfl (R.bin rfl rfl (bi_lss (r := decide ((((pg : Nat) : Int) : Int) < 128)) rfl)) (qV rfl (R.pickT (v := (.bool (decide ((((pg : Nat) : Int) : Int) < 128)))) (congrArg Value.bool (decide_eq_true (by omega))) rfl) (qA (.bool (decide ((((pg : Nat) : Int) : Int) < 128))) rfl rfl ?_))
 refine WL.nil (thn_n (WP.ret ?_))
 refine ret_of results40 (RV.tmp (v := (.bool (decide ((((pg : Nat) : Int) : Int) < 128)))) rfl RV.nil) ?_
 exact ⟨congrArg Value.bool (decide_eq_true (by omega)), h_0.chgS⟩

theorem c_prot_f (pg : Int) (h : ¬ (0 ≤ pg ∧ pg < 128)) (w : World) :
  Cs Tryz.prog 40 [(vi pg)].toArray w (fun v w1 => v = (.bool false) ∧ Chg w w1 []) := by
 refine Cs.of (n := 9) (args := [(vi pg)]) Tryz.func40 rfl rfl rfl ?_
 have h_0 := HP.init w
 refine WP.seq (WP.reg ?_)
 refine qA (.bool false) rfl rfl ?_
 refine WL.nil (thn_n (WP.seq (WP.reg ?_)))
 refine qM (vi pg) rfl rfl (qV rfl (R.bin rfl rfl (bi_geq (r := decide ((pg : Int) ≥ 0)) rfl)) (qM (.bool (decide ((pg : Int) ≥ 0))) rfl rfl ?_))
 rcases Bool.eq_false_or_eq_true (decide ((pg : Int) ≥ 0)) with c_1 | c_1
 ·have p_2 := of_decide_eq_true c_1
  refine WL.want rfl (congrArg Value.bool c_1) ?_
  refine qM (vi pg) rfl rfl ?_
  refine WL.want rfl (congrArg Value.bool c_1) ?_
  refine qV rfl (R.bin rfl rfl (bi_lss (r := decide ((pg : Int) < 128)) rfl)) (qV rfl (R.pickT (v := (.bool (decide ((pg : Int) < 128)))) (congrArg Value.bool c_1) rfl) (qA (.bool (decide ((pg : Int) < 128))) rfl rfl ?_))
  refine WL.nil (thn_n (WP.ret ?_))
  refine ret_of results40 (RV.tmp (v := (.bool (decide ((pg : Int) < 128)))) rfl RV.nil) ?_
  exact ⟨congrArg Value.bool (decide_eq_false (by omega)), h_0.chgS⟩
 ·have p_3 := of_decide_eq_false c_1
  refine WL.skip rfl (congrArg Value.bool c_1) rfl ?_
  refine WL.skip rfl (congrArg Value.bool c_1) rfl ?_
  refine qV rfl (R.pickF (v := (.bool false)) (congrArg Value.bool c_1) rfl) (qA (.bool false) rfl rfl ?_)
  refine WL.nil (thn_n (WP.ret ?_))
  refine ret_of results40 (RV.tmp (v := (.bool false)) rfl RV.nil) ?_
  exact ⟨rfl, h_0.chgS⟩

theorem c_Way_t (pg : Nat) (h : pg < 128) (w : World) :
  Cs Tryz.prog 10 [(vi ((pg : Nat) : Int))].toArray w (fun v w1 => ∃ a cap, v = .tuple [.slice a 8 cap, vi 0].toArray ∧ Chg w w1 [] ∧ Own w.heap.size w1 3 1 a 8 cap ((wayL pg).map vi64)) := by
 refine Cs.of (n := 21) (args := [(vn pg)]) Tryz.func10 rfl rfl rfl ?_
 have h_0 := HP.init w
 refine WP.seq (WP.reg ?_)
 refine qA (.slice none 0 0) rfl rfl (qA (vi 0) rfl rfl ?_)
 refine WL.nil (thn_n (WP.seq (WP.seq (WP.reg ?_))))
 refine qM (vn pg) rfl rfl ?_
 refine WL.call Tryz.call40 rfl rfl (c_prot_t pg (by omega) _ ) rfl ?_
 rintro _ w_2 ⟨rfl, hc_1⟩
 have h_3 := h_0.same hc_1
 refine qV rfl (R.not (b := true) rfl) ?_
 refine WL.nil (thn_n ?_)
 refine WP.condF rfl ?_
 refine WP.skip (thn_n (WP.seq (WP.reg ?_)))
 refine qA (.slice none 0 0) rfl rfl ?_
 refine WL.nil (thn_n (WP.seq (WP.seq (WP.reg ?_))))
 refine qM (vi 0) rfl rfl ?_
 refine WL.nil (thn_n (WP.block ?_))
 refine WP.loopU (WI.round ?_)
 refine WP.seq (WP.reg ?_)
 refine qV rfl (R.bin rfl rfl (bi_lss (r := true) (by decide))) ?_
 refine WL.nil (thn_n (WP.seq ?_))
 refine WP.condT rfl ?_
 refine WP.skip (thn_n (WP.seq (WP.block (WP.seq (WP.reg ?_)))))
 refine qM (vi 0) rfl rfl (qA (vi 0) rfl rfl ?_)
 refine WL.nil (thn_n (WP.reg ?_))
 refine qM (.slice none 0 0) rfl rfl (qM (vn pg) rfl rfl (qV rfl (R.bin rfl rfl (bi_add (c := ((128 + pg : Nat) : Int)) (by omega) (by omega))) (qM (vi 0) rfl rfl (qV rfl (R.binR (v := (vn ((128 + pg) / 2 ^ 0))) rfl rfl (run_shrN _ _ _ (128 + pg) _ 0 (by omega))) ?_))))
 refine WL.buildSl (vs := [(0, (vn ((128 + pg) / 2 ^ 0)))]) (cs := ([(((128 + pg) / 2 ^ 0 : Nat) : Int)] : List Int).map vi64) h_3 underlying40 sizeOf3 (zv typeInfo3 rfl) rfl rfl (by kernel_rfl) rfl (one_i64 _) rfl rfl (fun b_4 w_5 h_6 => ?_)
 have h_7 := h_6.rowNil 3 1
 refine WL.append (km := 1) (xs := []) (ys := ([(((128 + pg) / 2 ^ 0 : Nat) : Int)] : List Int).map vi64) (zs := ([(((128 + pg) / 2 ^ 0 : Nat) : Int)] : List Int).map vi64) h_7 rfl rfl el40 (viewB (h_7.ok _ M1) Sg.h) ((len_map (rfl : List.length ([(((128 + pg) / 2 ^ 0 : Nat) : Int)] : List Int) = 1)).trans (Nat.mul_one _).symm) (one_i64 _) rfl rfl (by omega) (by omega) (fun _ _ => At.h) rfl (fun a_8 c_9 w_10 h_11 => ?_)
 refine qA (.slice a_8 1 c_9) rfl rfl ?_
 refine WL.nil (inb_n (thn_n (WP.reg ?_)))
 refine qV rfl (R.bin rfl rfl (bi_add (c := 1) (by omega) (by omega))) (qM (vi 1) rfl rfl ?_)
 refine WL.nil (thn_n ?_)
 refine WI.round ?_
 refine WP.seq (WP.reg ?_)
 refine qV rfl (R.bin rfl rfl (bi_lss (r := true) (by decide))) ?_
 refine WL.nil (thn_n (WP.seq ?_))
 refine WP.condT rfl ?_
 refine WP.skip (thn_n (WP.seq (WP.block (WP.seq (WP.reg ?_)))))
 refine qM (vi 1) rfl rfl (qA (vi 1) rfl rfl ?_)
 refine WL.nil (thn_n (WP.reg ?_))
 refine qM (.slice a_8 1 c_9) rfl rfl (qM (vn pg) rfl rfl (qV rfl (R.bin rfl rfl (bi_add (c := ((128 + pg : Nat) : Int)) (by omega) (by omega))) (qM (vi 1) rfl rfl (qV rfl (R.binR (v := (vn ((128 + pg) / 2 ^ 1))) rfl rfl (run_shrN _ _ _ (128 + pg) _ 1 (by omega))) ?_))))
 refine WL.buildSl (vs := [(0, (vn ((128 + pg) / 2 ^ 1)))]) (cs := ([(((128 + pg) / 2 ^ 1 : Nat) : Int)] : List Int).map vi64) h_11 underlying40 sizeOf3 (zv typeInfo3 rfl) rfl rfl (by kernel_rfl) rfl (one_i64 _) rfl rfl (fun b_12 w_13 h_14 => ?_)
 refine WL.append (km := 2) (xs := ([(((128 + pg) / 2 ^ 0 : Nat) : Int)] : List Int).map vi64) (ys := ([(((128 + pg) / 2 ^ 1 : Nat) : Int)] : List Int).map vi64) (zs := (([(((128 + pg) / 2 ^ 0 : Nat) : Int)] : List Int) ++ ([(((128 + pg) / 2 ^ 1 : Nat) : Int)] : List Int)).map vi64) h_14 rfl rfl el40 (viewB (h_14.ok _ M0) Sg.h) ((len_map (rfl : List.length ([(((128 + pg) / 2 ^ 1 : Nat) : Int)] : List Int) = 1)).trans (Nat.mul_one _).symm) (one_i64 _) (by simp only [List.map_append, List.map_nil]) rfl (by omega) (by omega) (fun _ _ => Y1) rfl (fun a_15 c_16 w_17 h_18 => ?_)
 refine qA (.slice a_15 2 c_16) rfl rfl ?_
 refine WL.nil (inb_n (thn_n (WP.reg ?_)))
 refine qV rfl (R.bin rfl rfl (bi_add (c := 2) (by omega) (by omega))) (qM (vi 2) rfl rfl ?_)
 refine WL.nil (thn_n ?_)
 refine WI.round ?_
 refine WP.seq (WP.reg ?_)
 refine qV rfl (R.bin rfl rfl (bi_lss (r := true) (by decide))) ?_
 refine WL.nil (thn_n (WP.seq ?_))
 refine WP.condT rfl ?_
 refine WP.skip (thn_n (WP.seq (WP.block (WP.seq (WP.reg ?_)))))
 refine qM (vi 2) rfl rfl (qA (vi 2) rfl rfl ?_)
 refine WL.nil (thn_n (WP.reg ?_))
 refine qM (.slice a_15 2 c_16) rfl rfl (qM (vn pg) rfl rfl (qV rfl (R.bin rfl rfl (bi_add (c := ((128 + pg : Nat) : Int)) (by omega) (by omega))) (qM (vi 2) rfl rfl (qV rfl (R.binR (v := (vn ((128 + pg) / 2 ^ 2))) rfl rfl (run_shrN _ _ _ (128 + pg) _ 2 (by omega))) ?_))))
 refine WL.buildSl (vs := [(0, (vn ((128 + pg) / 2 ^ 2)))]) (cs := ([(((128 + pg) / 2 ^ 2 : Nat) : Int)] : List Int).map vi64) h_18 underlying40 sizeOf3 (zv typeInfo3 rfl) rfl rfl (by kernel_rfl) rfl (one_i64 _) rfl rfl (fun b_19 w_20 h_21 => ?_)
 refine WL.append (km := 3) (xs := (([(((128 + pg) / 2 ^ 0 : Nat) : Int)] : List Int) ++ ([(((128 + pg) / 2 ^ 1 : Nat) : Int)] : List Int)).map vi64) (ys := ([(((128 + pg) / 2 ^ 2 : Nat) : Int)] : List Int).map vi64) (zs := ((([(((128 + pg) / 2 ^ 0 : Nat) : Int)] : List Int) ++ ([(((128 + pg) / 2 ^ 1 : Nat) : Int)] : List Int)) ++ ([(((128 + pg) / 2 ^ 2 : Nat) : Int)] : List Int)).map vi64) h_21 rfl rfl el40 (viewB (h_21.ok _ M0) Sg.h) ((len_map (rfl : List.length ([(((128 + pg) / 2 ^ 2 : Nat) : Int)] : List Int) = 1)).trans (Nat.mul_one _).symm) (one_i64 _) (by simp only [List.map_append, List.map_nil]) rfl (by omega) (by omega) (fun _ _ => Y2) rfl (fun a_22 c_23 w_24 h_25 => ?_)
 refine qA (.slice a_22 3 c_23) rfl rfl ?_
 refine WL.nil (inb_n (thn_n (WP.reg ?_)))
 refine qV rfl (R.bin rfl rfl (bi_add (c := 3) (by omega) (by omega))) (qM (vi 3) rfl rfl ?_)
 refine WL.nil (thn_n ?_)
 refine WI.round ?_
 refine WP.seq (WP.reg ?_)
 refine qV rfl (R.bin rfl rfl (bi_lss (r := true) (by decide))) ?_
 refine WL.nil (thn_n (WP.seq ?_))
 refine WP.condT rfl ?_
 refine WP.skip (thn_n (WP.seq (WP.block (WP.seq (WP.reg ?_)))))
 refine qM (vi 3) rfl rfl (qA (vi 3) rfl rfl ?_)
 refine WL.nil (thn_n (WP.reg ?_))
 refine qM (.slice a_22 3 c_23) rfl rfl (qM (vn pg) rfl rfl (qV rfl (R.bin rfl rfl (bi_add (c := ((128 + pg : Nat) : Int)) (by omega) (by omega))) (qM (vi 3) rfl rfl (qV rfl (R.binR (v := (vn ((128 + pg) / 2 ^ 3))) rfl rfl (run_shrN _ _ _ (128 + pg) _ 3 (by omega))) ?_))))
 refine WL.buildSl (vs := [(0, (vn ((128 + pg) / 2 ^ 3)))]) (cs := ([(((128 + pg) / 2 ^ 3 : Nat) : Int)] : List Int).map vi64) h_25 underlying40 sizeOf3 (zv typeInfo3 rfl) rfl rfl (by kernel_rfl) rfl (one_i64 _) rfl rfl (fun b_26 w_27 h_28 => ?_)
 refine WL.append (km := 4) (xs := ((([(((128 + pg) / 2 ^ 0 : Nat) : Int)] : List Int) ++ ([(((128 + pg) / 2 ^ 1 : Nat) : Int)] : List Int)) ++ ([(((128 + pg) / 2 ^ 2 : Nat) : Int)] : List Int)).map vi64) (ys := ([(((128 + pg) / 2 ^ 3 : Nat) : Int)] : List Int).map vi64) (zs := (((([(((128 + pg) / 2 ^ 0 : Nat) : Int)] : List Int) ++ ([(((128 + pg) / 2 ^ 1 : Nat) : Int)] : List Int)) ++ ([(((128 + pg) / 2 ^ 2 : Nat) : Int)] : List Int)) ++ ([(((128 + pg) / 2 ^ 3 : Nat) : Int)] : List Int)).map vi64) h_28 rfl rfl el40 (viewB (h_28.ok _ M0) Sg.h) ((len_map (rfl : List.length ([(((128 + pg) / 2 ^ 3 : Nat) : Int)] : List Int) = 1)).trans (Nat.mul_one _).symm) (one_i64 _) (by simp only [List.map_append, List.map_nil]) rfl (by omega) (by omega) (fun _ _ => Y3) rfl (fun a_29 c_30 w_31 h_32 => ?_)
 refine qA (.slice a_29 4 c_30) rfl rfl ?_
 refine WL.nil (inb_n (thn_n (WP.reg ?_)))
 refine qV rfl (R.bin rfl rfl (bi_add (c := 4) (by omega) (by omega))) (qM (vi 4) rfl rfl ?_)
 refine WL.nil (thn_n ?_)
 refine WI.round ?_
 refine WP.seq (WP.reg ?_)
 refine qV rfl (R.bin rfl rfl (bi_lss (r := true) (by decide))) ?_
 refine WL.nil (thn_n (WP.seq ?_))
 refine WP.condT rfl ?_
 refine WP.skip (thn_n (WP.seq (WP.block (WP.seq (WP.reg ?_)))))
 refine qM (vi 4) rfl rfl (qA (vi 4) rfl rfl ?_)
 refine WL.nil (thn_n (WP.reg ?_))
 refine qM (.slice a_29 4 c_30) rfl rfl (qM (vn pg) rfl rfl (qV rfl (R.bin rfl rfl (bi_add (c := ((128 + pg : Nat) : Int)) (by omega) (by omega))) (qM (vi 4) rfl rfl (qV rfl (R.binR (v := (vn ((128 + pg) / 2 ^ 4))) rfl rfl (run_shrN _ _ _ (128 + pg) _ 4 (by omega))) ?_))))
 refine WL.buildSl (vs := [(0, (vn ((128 + pg) / 2 ^ 4)))]) (cs := ([(((128 + pg) / 2 ^ 4 : Nat) : Int)] : List Int).map vi64) h_32 underlying40 sizeOf3 (zv typeInfo3 rfl) rfl rfl (by kernel_rfl) rfl (one_i64 _) rfl rfl (fun b_33 w_34 h_35 => ?_)
 refine WL.append (km := 5) (xs := (((([(((128 + pg) / 2 ^ 0 : Nat) : Int)] : List Int) ++ ([(((128 + pg) / 2 ^ 1 : Nat) : Int)] : List Int)) ++ ([(((128 + pg) / 2 ^ 2 : Nat) : Int)] : List Int)) ++ ([(((128 + pg) / 2 ^ 3 : Nat) : Int)] : List Int)).map vi64) (ys := ([(((128 + pg) / 2 ^ 4 : Nat) : Int)] : List Int).map vi64) (zs := ((((([(((128 + pg) / 2 ^ 0 : Nat) : Int)] : List Int) ++ ([(((128 + pg) / 2 ^ 1 : Nat) : Int)] : List Int)) ++ ([(((128 + pg) / 2 ^ 2 : Nat) : Int)] : List Int)) ++ ([(((128 + pg) / 2 ^ 3 : Nat) : Int)] : List Int)) ++ ([(((128 + pg) / 2 ^ 4 : Nat) : Int)] : List Int)).map vi64) h_35 rfl rfl el40 (viewB (h_35.ok _ M0) Sg.h) ((len_map (rfl : List.length ([(((128 + pg) / 2 ^ 4 : Nat) : Int)] : List Int) = 1)).trans (Nat.mul_one _).symm) (one_i64 _) (by simp only [List.map_append, List.map_nil]) rfl (by omega) (by omega) (fun _ _ => Y4) rfl (fun a_36 c_37 w_38 h_39 => ?_)
 refine qA (.slice a_36 5 c_37) rfl rfl ?_
 refine WL.nil (inb_n (thn_n (WP.reg ?_)))
 refine qV rfl (R.bin rfl rfl (bi_add (c := 5) (by omega) (by omega))) (qM (vi 5) rfl rfl ?_)
 refine WL.nil (thn_n ?_)
 refine WI.round ?_
 refine WP.seq (WP.reg ?_)
 refine qV rfl (R.bin rfl rfl (bi_lss (r := true) (by decide))) ?_
 refine WL.nil (thn_n (WP.seq ?_))
 refine WP.condT rfl ?_
 refine WP.skip (thn_n (WP.seq (WP.block (WP.seq (WP.reg ?_)))))
 refine qM (vi 5) rfl rfl (qA (vi 5) rfl rfl ?_)
 refine WL.nil (thn_n (WP.reg ?_))
 refine qM (.slice a_36 5 c_37) rfl rfl (qM (vn pg) rfl rfl (qV rfl (R.bin rfl rfl (bi_add (c := ((128 + pg : Nat) : Int)) (by omega) (by omega))) (qM (vi 5) rfl rfl (qV rfl (R.binR (v := (vn ((128 + pg) / 2 ^ 5))) rfl rfl (run_shrN _ _ _ (128 + pg) _ 5 (by omega))) ?_))))
 refine WL.buildSl (vs := [(0, (vn ((128 + pg) / 2 ^ 5)))]) (cs := ([(((128 + pg) / 2 ^ 5 : Nat) : Int)] : List Int).map vi64) h_39 underlying40 sizeOf3 (zv typeInfo3 rfl) rfl rfl (by kernel_rfl) rfl (one_i64 _) rfl rfl (fun b_40 w_41 h_42 => ?_)
 refine WL.append (km := 6) (xs := ((((([(((128 + pg) / 2 ^ 0 : Nat) : Int)] : List Int) ++ ([(((128 + pg) / 2 ^ 1 : Nat) : Int)] : List Int)) ++ ([(((128 + pg) / 2 ^ 2 : Nat) : Int)] : List Int)) ++ ([(((128 + pg) / 2 ^ 3 : Nat) : Int)] : List Int)) ++ ([(((128 + pg) / 2 ^ 4 : Nat) : Int)] : List Int)).map vi64) (ys := ([(((128 + pg) / 2 ^ 5 : Nat) : Int)] : List Int).map vi64) (zs := (((((([(((128 + pg) / 2 ^ 0 : Nat) : Int)] : List Int) ++ ([(((128 + pg) / 2 ^ 1 : Nat) : Int)] : List Int)) ++ ([(((128 + pg) / 2 ^ 2 : Nat) : Int)] : List Int)) ++ ([(((128 + pg) / 2 ^ 3 : Nat) : Int)] : List Int)) ++ ([(((128 + pg) / 2 ^ 4 : Nat) : Int)] : List Int)) ++ ([(((128 + pg) / 2 ^ 5 : Nat) : Int)] : List Int)).map vi64) h_42 rfl rfl el40 (viewB (h_42.ok _ M0) Sg.h) ((len_map (rfl : List.length ([(((128 + pg) / 2 ^ 5 : Nat) : Int)] : List Int) = 1)).trans (Nat.mul_one _).symm) (one_i64 _) (by simp only [List.map_append, List.map_nil]) rfl (by omega) (by omega) (fun _ _ => Y5) rfl (fun a_43 c_44 w_45 h_46 => ?_)
 refine qA (.slice a_43 6 c_44) rfl rfl ?_
 refine WL.nil (inb_n (thn_n (WP.reg ?_)))
 refine qV rfl (R.bin rfl rfl (bi_add (c := 6) (by omega) (by omega))) (qM (vi 6) rfl rfl ?_)
 refine WL.nil (thn_n ?_)
 refine WI.round ?_
 refine WP.seq (WP.reg ?_)
 refine qV rfl (R.bin rfl rfl (bi_lss (r := true) (by decide))) ?_
 refine WL.nil (thn_n (WP.seq ?_))
 refine WP.condT rfl ?_
 refine WP.skip (thn_n (WP.seq (WP.block (WP.seq (WP.reg ?_)))))
 refine qM (vi 6) rfl rfl (qA (vi 6) rfl rfl ?_)
 refine WL.nil (thn_n (WP.reg ?_))
 refine qM (.slice a_43 6 c_44) rfl rfl (qM (vn pg) rfl rfl (qV rfl (R.bin rfl rfl (bi_add (c := ((128 + pg : Nat) : Int)) (by omega) (by omega))) (qM (vi 6) rfl rfl (qV rfl (R.binR (v := (vn ((128 + pg) / 2 ^ 6))) rfl rfl (run_shrN _ _ _ (128 + pg) _ 6 (by omega))) ?_))))
 refine WL.buildSl (vs := [(0, (vn ((128 + pg) / 2 ^ 6)))]) (cs := ([(((128 + pg) / 2 ^ 6 : Nat) : Int)] : List Int).map vi64) h_46 underlying40 sizeOf3 (zv typeInfo3 rfl) rfl rfl (by kernel_rfl) rfl (one_i64 _) rfl rfl (fun b_47 w_48 h_49 => ?_)
 refine WL.append (km := 7) (xs := (((((([(((128 + pg) / 2 ^ 0 : Nat) : Int)] : List Int) ++ ([(((128 + pg) / 2 ^ 1 : Nat) : Int)] : List Int)) ++ ([(((128 + pg) / 2 ^ 2 : Nat) : Int)] : List Int)) ++ ([(((128 + pg) / 2 ^ 3 : Nat) : Int)] : List Int)) ++ ([(((128 + pg) / 2 ^ 4 : Nat) : Int)] : List Int)) ++ ([(((128 + pg) / 2 ^ 5 : Nat) : Int)] : List Int)).map vi64) (ys := ([(((128 + pg) / 2 ^ 6 : Nat) : Int)] : List Int).map vi64) (zs := ((((((([(((128 + pg) / 2 ^ 0 : Nat) : Int)] : List Int) ++ ([(((128 + pg) / 2 ^ 1 : Nat) : Int)] : List Int)) ++ ([(((128 + pg) / 2 ^ 2 : Nat) : Int)] : List Int)) ++ ([(((128 + pg) / 2 ^ 3 : Nat) : Int)] : List Int)) ++ ([(((128 + pg) / 2 ^ 4 : Nat) : Int)] : List Int)) ++ ([(((128 + pg) / 2 ^ 5 : Nat) : Int)] : List Int)) ++ ([(((128 + pg) / 2 ^ 6 : Nat) : Int)] : List Int)).map vi64) h_49 rfl rfl el40 (viewB (h_49.ok _ M0) Sg.h) ((len_map (rfl : List.length ([(((128 + pg) / 2 ^ 6 : Nat) : Int)] : List Int) = 1)).trans (Nat.mul_one _).symm) (one_i64 _) (by simp only [List.map_append, List.map_nil]) rfl (by omega) (by omega) (fun _ _ => Y6) rfl (fun a_50 c_51 w_52 h_53 => ?_)
 refine qA (.slice a_50 7 c_51) rfl rfl ?_
 refine WL.nil (inb_n (thn_n (WP.reg ?_)))
 refine qV rfl (R.bin rfl rfl (bi_add (c := 7) (by omega) (by omega))) (qM (vi 7) rfl rfl ?_)
 refine WL.nil (thn_n ?_)
 refine WI.round ?_
 refine WP.seq (WP.reg ?_)
 refine qV rfl (R.bin rfl rfl (bi_lss (r := true) (by decide))) ?_
 refine WL.nil (thn_n (WP.seq ?_))
 refine WP.condT rfl ?_
 refine WP.skip (thn_n (WP.seq (WP.block (WP.seq (WP.reg ?_)))))
 refine qM (vi 7) rfl rfl (qA (vi 7) rfl rfl ?_)
 refine WL.nil (thn_n (WP.reg ?_))
 refine qM (.slice a_50 7 c_51) rfl rfl (qM (vn pg) rfl rfl (qV rfl (R.bin rfl rfl (bi_add (c := ((128 + pg : Nat) : Int)) (by omega) (by omega))) (qM (vi 7) rfl rfl (qV rfl (R.binR (v := (vn ((128 + pg) / 2 ^ 7))) rfl rfl (run_shrN _ _ _ (128 + pg) _ 7 (by omega))) ?_))))
 refine WL.buildSl (vs := [(0, (vn ((128 + pg) / 2 ^ 7)))]) (cs := ([(((128 + pg) / 2 ^ 7 : Nat) : Int)] : List Int).map vi64) h_53 underlying40 sizeOf3 (zv typeInfo3 rfl) rfl rfl (by kernel_rfl) rfl (one_i64 _) rfl rfl (fun b_54 w_55 h_56 => ?_)
 refine WL.append (km := 8) (xs := ((((((([(((128 + pg) / 2 ^ 0 : Nat) : Int)] : List Int) ++ ([(((128 + pg) / 2 ^ 1 : Nat) : Int)] : List Int)) ++ ([(((128 + pg) / 2 ^ 2 : Nat) : Int)] : List Int)) ++ ([(((128 + pg) / 2 ^ 3 : Nat) : Int)] : List Int)) ++ ([(((128 + pg) / 2 ^ 4 : Nat) : Int)] : List Int)) ++ ([(((128 + pg) / 2 ^ 5 : Nat) : Int)] : List Int)) ++ ([(((128 + pg) / 2 ^ 6 : Nat) : Int)] : List Int)).map vi64) (ys := ([(((128 + pg) / 2 ^ 7 : Nat) : Int)] : List Int).map vi64) (zs := (((((((([(((128 + pg) / 2 ^ 0 : Nat) : Int)] : List Int) ++ ([(((128 + pg) / 2 ^ 1 : Nat) : Int)] : List Int)) ++ ([(((128 + pg) / 2 ^ 2 : Nat) : Int)] : List Int)) ++ ([(((128 + pg) / 2 ^ 3 : Nat) : Int)] : List Int)) ++ ([(((128 + pg) / 2 ^ 4 : Nat) : Int)] : List Int)) ++ ([(((128 + pg) / 2 ^ 5 : Nat) : Int)] : List Int)) ++ ([(((128 + pg) / 2 ^ 6 : Nat) : Int)] : List Int)) ++ ([(((128 + pg) / 2 ^ 7 : Nat) : Int)] : List Int)).map vi64) h_56 rfl rfl el40 (viewB (h_56.ok _ M0) Sg.h) ((len_map (rfl : List.length ([(((128 + pg) / 2 ^ 7 : Nat) : Int)] : List Int) = 1)).trans (Nat.mul_one _).symm) (one_i64 _) (by simp only [List.map_append, List.map_nil]) rfl (by omega) (by omega) (fun _ _ => Y7) rfl (fun a_57 c_58 w_59 h_60 => ?_)
 refine qA (.slice a_57 8 c_58) rfl rfl ?_
 refine WL.nil (inb_n (thn_n (WP.reg ?_)))
 refine qV rfl (R.bin rfl rfl (bi_add (c := 8) (by omega) (by omega))) (qM (vi 8) rfl rfl ?_)
 refine WL.nil (thn_n ?_)
 refine WI.round ?_
 refine WP.seq (WP.reg ?_)
 refine qV rfl (R.bin rfl rfl (bi_lss (r := false) (by decide))) ?_
 refine WL.nil (thn_n (WP.seq ?_))
 refine WP.condF rfl ?_
 refine WP.exit (thn_x (thn_x (inb_hit (thn_n (WP.seq (WP.reg ?_))))))
 refine qM (.slice a_57 8 c_58) rfl rfl (qA (.slice a_57 8 c_58) rfl rfl (qA (vi 0) rfl rfl ?_))
 refine WL.nil (thn_n (WP.ret ?_))
 refine ret_of results10 (RV.tmp (v := (.slice a_57 8 c_58)) rfl (RV.tmp (v := (vi 0)) rfl RV.nil)) ?_
 exact ⟨_, _, rfl, h_60.chgS, h_60.ok _ M7⟩

theorem c_Bes_t (pg : Nat) (h : pg < 128) (w : World) :
  Cs Tryz.prog 11 [(vi ((pg : Nat) : Int))].toArray w (fun v w1 => ∃ a cap, v = .tuple [.slice a 7 cap, vi 0].toArray ∧ Chg w w1 [] ∧ Own w.heap.size w1 3 1 a 7 cap ((bsL pg).map vi64)) := by
 refine Cs.of (n := 29) (args := [(vn pg)]) Tryz.func11 rfl rfl rfl ?_
 have h_0 := HP.init w
 refine WP.seq (WP.reg ?_)
 refine qA (.slice none 0 0) rfl rfl (qA (vi 0) rfl rfl ?_)
 refine WL.nil (thn_n (WP.seq (WP.reg ?_)))
 refine qM (vn pg) rfl rfl ?_
 refine WL.call Tryz.call10 rfl rfl (c_Way_t pg (by omega) _) rfl ?_
 rintro _ w_3 ⟨a_1, cap_2, rfl, hc_4, ho_5⟩
 have h_6 := h_0.gotRow hc_4 ho_5
 refine qM (.tuple [(.slice a_1 8 cap_2), (vi 0)].toArray) rfl rfl (qV rfl (R.extract rfl rfl) (qV rfl (R.extract rfl rfl) (qA (.slice a_1 8 cap_2) rfl rfl (qA (vi 0) rfl rfl ?_))))
 refine WL.nil (thn_n (WP.seq (WP.seq (WP.reg ?_))))
 refine qM (vi 0) rfl rfl (qV rfl (R.bin rfl rfl (bi_neq (r := false) (by decide))) ?_)
 refine WL.nil (thn_n ?_)
 refine WP.condF rfl ?_
 refine WP.skip (thn_n (WP.seq (WP.seq (WP.reg ?_))))
 refine qM (.slice a_1 8 cap_2) rfl rfl (qV rfl (R.lenS (a := a_1) (m := 8) rfl rfl underlying40) (qM (vi 0) rfl rfl ?_))
 refine WL.nil (thn_n (WP.block ?_))
 refine WP.loopU (WI.round ?_)
 refine WP.seq (WP.reg ?_)
 refine qV rfl (R.bin rfl rfl (bi_lss (r := true) (by decide))) ?_
 refine WL.nil (thn_n (WP.seq ?_))
 refine WP.condT rfl ?_
 refine WP.skip (thn_n (WP.seq (WP.block (WP.seq (WP.reg ?_)))))
 refine qM (vi 0) rfl rfl (qA (vi 0) rfl rfl ?_)
 refine WL.nil (thn_n (WP.reg ?_))
 refine qM (.slice a_1 8 cap_2) rfl rfl (qM (vi 0) rfl rfl (qV rfl (R.indexS (a := a_1) (i := 0) (off := 0) (xs := (wayL pg).map vi64) rfl rfl rfl (by decide) (ownView (h_6.ok _ M0)) (lt_len (K := 8) (len_map (rfl : List.length (wayL pg) = 8)) (by omega)) underlying40 sizeOf3 (Nat.mul_one _).symm) (qV rfl (R.loadG rfl (ownView (h_6.ok _ M0)) isAgg3 rfl) (qV rfl (R.bin (v := (vn (((128 + pg) / 2 ^ 0) ^^^ 1))) rfl rfl (bi_xorN (m := (128 + pg) / 2 ^ 0) (n := 1) (by omega) (by omega))) (qV rfl (R.indexS (a := a_1) (i := 0) (off := 0) (xs := (wayL pg).map vi64) rfl rfl rfl (by decide) (ownView (h_6.ok _ M0)) (lt_len (K := 8) (len_map (rfl : List.length (wayL pg) = 8)) (by omega)) underlying40 sizeOf3 (Nat.mul_one _).symm) ?_)))))
 refine WL.storeR (a := a_1) (i := 0) (v := (vn (((128 + pg) / 2 ^ 0) ^^^ 1))) (xs' := ([((((128 + pg) / 2 ^ 0) ^^^ 1 : Nat) : Int), (((128 + pg) / 2 ^ 1 : Nat) : Int), (((128 + pg) / 2 ^ 2 : Nat) : Int), (((128 + pg) / 2 ^ 3 : Nat) : Int), (((128 + pg) / 2 ^ 4 : Nat) : Int), (((128 + pg) / 2 ^ 5 : Nat) : Int), (((128 + pg) / 2 ^ 6 : Nat) : Int), (((128 + pg) / 2 ^ 7 : Nat) : Int)] : List Int).map vi64) h_6 rfl rfl sizeOf3 rfl At.h (lt_len (K := 8) (len_map (rfl : List.length (wayL pg) = 8)) (by omega)) ((set_i64 _ _ _).trans rfl) (fun w_7 h_8 => ?_)
 refine WL.nil (inb_n (thn_n (WP.reg ?_)))
 refine qV rfl (R.bin rfl rfl (bi_add (c := 1) (by omega) (by omega))) (qM (vi 1) rfl rfl ?_)
 refine WL.nil (thn_n ?_)
 refine WI.round ?_
 refine WP.seq (WP.reg ?_)
 refine qV rfl (R.bin rfl rfl (bi_lss (r := true) (by decide))) ?_
 refine WL.nil (thn_n (WP.seq ?_))
 refine WP.condT rfl ?_
 refine WP.skip (thn_n (WP.seq (WP.block (WP.seq (WP.reg ?_)))))
 refine qM (vi 1) rfl rfl (qA (vi 1) rfl rfl ?_)
 refine WL.nil (thn_n (WP.reg ?_))
 refine qM (.slice a_1 8 cap_2) rfl rfl (qM (vi 1) rfl rfl (qV rfl (R.indexS (a := a_1) (i := 1) (off := 1) (xs := ([((((128 + pg) / 2 ^ 0) ^^^ 1 : Nat) : Int), (((128 + pg) / 2 ^ 1 : Nat) : Int), (((128 + pg) / 2 ^ 2 : Nat) : Int), (((128 + pg) / 2 ^ 3 : Nat) : Int), (((128 + pg) / 2 ^ 4 : Nat) : Int), (((128 + pg) / 2 ^ 5 : Nat) : Int), (((128 + pg) / 2 ^ 6 : Nat) : Int), (((128 + pg) / 2 ^ 7 : Nat) : Int)] : List Int).map vi64) rfl rfl rfl (by decide) (ownView (h_8.ok _ M0)) (lt_len (K := 8) (len_map (rfl : List.length ([((((128 + pg) / 2 ^ 0) ^^^ 1 : Nat) : Int), (((128 + pg) / 2 ^ 1 : Nat) : Int), (((128 + pg) / 2 ^ 2 : Nat) : Int), (((128 + pg) / 2 ^ 3 : Nat) : Int), (((128 + pg) / 2 ^ 4 : Nat) : Int), (((128 + pg) / 2 ^ 5 : Nat) : Int), (((128 + pg) / 2 ^ 6 : Nat) : Int), (((128 + pg) / 2 ^ 7 : Nat) : Int)] : List Int) = 8)) (by omega)) underlying40 sizeOf3 (Nat.mul_one _).symm) (qV rfl (R.loadG rfl (ownView (h_8.ok _ M0)) isAgg3 rfl) (qV rfl (R.bin (v := (vn (((128 + pg) / 2 ^ 1) ^^^ 1))) rfl rfl (bi_xorN (m := (128 + pg) / 2 ^ 1) (n := 1) (by omega) (by omega))) (qV rfl (R.indexS (a := a_1) (i := 1) (off := 1) (xs := ([((((128 + pg) / 2 ^ 0) ^^^ 1 : Nat) : Int), (((128 + pg) / 2 ^ 1 : Nat) : Int), (((128 + pg) / 2 ^ 2 : Nat) : Int), (((128 + pg) / 2 ^ 3 : Nat) : Int), (((128 + pg) / 2 ^ 4 : Nat) : Int), (((128 + pg) / 2 ^ 5 : Nat) : Int), (((128 + pg) / 2 ^ 6 : Nat) : Int), (((128 + pg) / 2 ^ 7 : Nat) : Int)] : List Int).map vi64) rfl rfl rfl (by decide) (ownView (h_8.ok _ M0)) (lt_len (K := 8) (len_map (rfl : List.length ([((((128 + pg) / 2 ^ 0) ^^^ 1 : Nat) : Int), (((128 + pg) / 2 ^ 1 : Nat) : Int), (((128 + pg) / 2 ^ 2 : Nat) : Int), (((128 + pg) / 2 ^ 3 : Nat) : Int), (((128 + pg) / 2 ^ 4 : Nat) : Int), (((128 + pg) / 2 ^ 5 : Nat) : Int), (((128 + pg) / 2 ^ 6 : Nat) : Int), (((128 + pg) / 2 ^ 7 : Nat) : Int)] : List Int) = 8)) (by omega)) underlying40 sizeOf3 (Nat.mul_one _).symm) ?_)))))
 refine WL.storeR (a := a_1) (i := 1) (v := (vn (((128 + pg) / 2 ^ 1) ^^^ 1))) (xs' := ([((((128 + pg) / 2 ^ 0) ^^^ 1 : Nat) : Int), ((((128 + pg) / 2 ^ 1) ^^^ 1 : Nat) : Int), (((128 + pg) / 2 ^ 2 : Nat) : Int), (((128 + pg) / 2 ^ 3 : Nat) : Int), (((128 + pg) / 2 ^ 4 : Nat) : Int), (((128 + pg) / 2 ^ 5 : Nat) : Int), (((128 + pg) / 2 ^ 6 : Nat) : Int), (((128 + pg) / 2 ^ 7 : Nat) : Int)] : List Int).map vi64) h_8 rfl rfl sizeOf3 rfl At.h (lt_len (K := 8) (len_map (rfl : List.length ([((((128 + pg) / 2 ^ 0) ^^^ 1 : Nat) : Int), (((128 + pg) / 2 ^ 1 : Nat) : Int), (((128 + pg) / 2 ^ 2 : Nat) : Int), (((128 + pg) / 2 ^ 3 : Nat) : Int), (((128 + pg) / 2 ^ 4 : Nat) : Int), (((128 + pg) / 2 ^ 5 : Nat) : Int), (((128 + pg) / 2 ^ 6 : Nat) : Int), (((128 + pg) / 2 ^ 7 : Nat) : Int)] : List Int) = 8)) (by omega)) ((set_i64 _ _ _).trans rfl) (fun w_9 h_10 => ?_)
 refine WL.nil (inb_n (thn_n (WP.reg ?_)))
 refine qV rfl (R.bin rfl rfl (bi_add (c := 2) (by omega) (by omega))) (qM (vi 2) rfl rfl ?_)
 refine WL.nil (thn_n ?_)
 refine WI.round ?_
 refine WP.seq (WP.reg ?_)
 refine qV rfl (R.bin rfl rfl (bi_lss (r := true) (by decide))) ?_
 refine WL.nil (thn_n (WP.seq ?_))
 refine WP.condT rfl ?_
 refine WP.skip (thn_n (WP.seq (WP.block (WP.seq (WP.reg ?_)))))
 refine qM (vi 2) rfl rfl (qA (vi 2) rfl rfl ?_)
 refine WL.nil (thn_n (WP.reg ?_))
 refine qM (.slice a_1 8 cap_2) rfl rfl (qM (vi 2) rfl rfl (qV rfl (R.indexS (a := a_1) (i := 2) (off := 2) (xs := ([((((128 + pg) / 2 ^ 0) ^^^ 1 : Nat) : Int), ((((128 + pg) / 2 ^ 1) ^^^ 1 : Nat) : Int), (((128 + pg) / 2 ^ 2 : Nat) : Int), (((128 + pg) / 2 ^ 3 : Nat) : Int), (((128 + pg) / 2 ^ 4 : Nat) : Int), (((128 + pg) / 2 ^ 5 : Nat) : Int), (((128 + pg) / 2 ^ 6 : Nat) : Int), (((128 + pg) / 2 ^ 7 : Nat) : Int)] : List Int).map vi64) rfl rfl rfl (by decide) (ownView (h_10.ok _ M0)) (lt_len (K := 8) (len_map (rfl : List.length ([((((128 + pg) / 2 ^ 0) ^^^ 1 : Nat) : Int), ((((128 + pg) / 2 ^ 1) ^^^ 1 : Nat) : Int), (((128 + pg) / 2 ^ 2 : Nat) : Int), (((128 + pg) / 2 ^ 3 : Nat) : Int), (((128 + pg) / 2 ^ 4 : Nat) : Int), (((128 + pg) / 2 ^ 5 : Nat) : Int), (((128 + pg) / 2 ^ 6 : Nat) : Int), (((128 + pg) / 2 ^ 7 : Nat) : Int)] : List Int) = 8)) (by omega)) underlying40 sizeOf3 (Nat.mul_one _).symm) (qV rfl (R.loadG rfl (ownView (h_10.ok _ M0)) isAgg3 rfl) (qV rfl (R.bin (v := (vn (((128 + pg) / 2 ^ 2) ^^^ 1))) rfl rfl (bi_xorN (m := (128 + pg) / 2 ^ 2) (n := 1) (by omega) (by omega))) (qV rfl (R.indexS (a := a_1) (i := 2) (off := 2) (xs := ([((((128 + pg) / 2 ^ 0) ^^^ 1 : Nat) : Int), ((((128 + pg) / 2 ^ 1) ^^^ 1 : Nat) : Int), (((128 + pg) / 2 ^ 2 : Nat) : Int), (((128 + pg) / 2 ^ 3 : Nat) : Int), (((128 + pg) / 2 ^ 4 : Nat) : Int), (((128 + pg) / 2 ^ 5 : Nat) : Int), (((128 + pg) / 2 ^ 6 : Nat) : Int), (((128 + pg) / 2 ^ 7 : Nat) : Int)] : List Int).map vi64) rfl rfl rfl (by decide) (ownView (h_10.ok _ M0)) (lt_len (K := 8) (len_map (rfl : List.length ([((((128 + pg) / 2 ^ 0) ^^^ 1 : Nat) : Int), ((((128 + pg) / 2 ^ 1) ^^^ 1 : Nat) : Int), (((128 + pg) / 2 ^ 2 : Nat) : Int), (((128 + pg) / 2 ^ 3 : Nat) : Int), (((128 + pg) / 2 ^ 4 : Nat) : Int), (((128 + pg) / 2 ^ 5 : Nat) : Int), (((128 + pg) / 2 ^ 6 : Nat) : Int), (((128 + pg) / 2 ^ 7 : Nat) : Int)] : List Int) = 8)) (by omega)) underlying40 sizeOf3 (Nat.mul_one _).symm) ?_)))))
 refine WL.storeR (a := a_1) (i := 2) (v := (vn (((128 + pg) / 2 ^ 2) ^^^ 1))) (xs' := ([((((128 + pg) / 2 ^ 0) ^^^ 1 : Nat) : Int), ((((128 + pg) / 2 ^ 1) ^^^ 1 : Nat) : Int), ((((128 + pg) / 2 ^ 2) ^^^ 1 : Nat) : Int), (((128 + pg) / 2 ^ 3 : Nat) : Int), (((128 + pg) / 2 ^ 4 : Nat) : Int), (((128 + pg) / 2 ^ 5 : Nat) : Int), (((128 + pg) / 2 ^ 6 : Nat) : Int), (((128 + pg) / 2 ^ 7 : Nat) : Int)] : List Int).map vi64) h_10 rfl rfl sizeOf3 rfl At.h (lt_len (K := 8) (len_map (rfl : List.length ([((((128 + pg) / 2 ^ 0) ^^^ 1 : Nat) : Int), ((((128 + pg) / 2 ^ 1) ^^^ 1 : Nat) : Int), (((128 + pg) / 2 ^ 2 : Nat) : Int), (((128 + pg) / 2 ^ 3 : Nat) : Int), (((128 + pg) / 2 ^ 4 : Nat) : Int), (((128 + pg) / 2 ^ 5 : Nat) : Int), (((128 + pg) / 2 ^ 6 : Nat) : Int), (((128 + pg) / 2 ^ 7 : Nat) : Int)] : List Int) = 8)) (by omega)) ((set_i64 _ _ _).trans rfl) (fun w_11 h_12 => ?_)
 refine WL.nil (inb_n (thn_n (WP.reg ?_)))
 refine qV rfl (R.bin rfl rfl (bi_add (c := 3) (by omega) (by omega))) (qM (vi 3) rfl rfl ?_)
 refine WL.nil (thn_n ?_)
 refine WI.round ?_
 refine WP.seq (WP.reg ?_)
 refine qV rfl (R.bin rfl rfl (bi_lss (r := true) (by decide))) ?_
 refine WL.nil (thn_n (WP.seq ?_))
 refine WP.condT rfl ?_
 refine WP.skip (thn_n (WP.seq (WP.block (WP.seq (WP.reg ?_)))))
 refine qM (vi 3) rfl rfl (qA (vi 3) rfl rfl ?_)
 refine WL.nil (thn_n (WP.reg ?_))
 refine qM (.slice a_1 8 cap_2) rfl rfl (qM (vi 3) rfl rfl (qV rfl (R.indexS (a := a_1) (i := 3) (off := 3) (xs := ([((((128 + pg) / 2 ^ 0) ^^^ 1 : Nat) : Int), ((((128 + pg) / 2 ^ 1) ^^^ 1 : Nat) : Int), ((((128 + pg) / 2 ^ 2) ^^^ 1 : Nat) : Int), (((128 + pg) / 2 ^ 3 : Nat) : Int), (((128 + pg) / 2 ^ 4 : Nat) : Int), (((128 + pg) / 2 ^ 5 : Nat) : Int), (((128 + pg) / 2 ^ 6 : Nat) : Int), (((128 + pg) / 2 ^ 7 : Nat) : Int)] : List Int).map vi64) rfl rfl rfl (by decide) (ownView (h_12.ok _ M0)) (lt_len (K := 8) (len_map (rfl : List.length ([((((128 + pg) / 2 ^ 0) ^^^ 1 : Nat) : Int), ((((128 + pg) / 2 ^ 1) ^^^ 1 : Nat) : Int), ((((128 + pg) / 2 ^ 2) ^^^ 1 : Nat) : Int), (((128 + pg) / 2 ^ 3 : Nat) : Int), (((128 + pg) / 2 ^ 4 : Nat) : Int), (((128 + pg) / 2 ^ 5 : Nat) : Int), (((128 + pg) / 2 ^ 6 : Nat) : Int), (((128 + pg) / 2 ^ 7 : Nat) : Int)] : List Int) = 8)) (by omega)) underlying40 sizeOf3 (Nat.mul_one _).symm) (qV rfl (R.loadG rfl (ownView (h_12.ok _ M0)) isAgg3 rfl) (qV rfl (R.bin (v := (vn (((128 + pg) / 2 ^ 3) ^^^ 1))) rfl rfl (bi_xorN (m := (128 + pg) / 2 ^ 3) (n := 1) (by omega) (by omega))) (qV rfl (R.indexS (a := a_1) (i := 3) (off := 3) (xs := ([((((128 + pg) / 2 ^ 0) ^^^ 1 : Nat) : Int), ((((128 + pg) / 2 ^ 1) ^^^ 1 : Nat) : Int), ((((128 + pg) / 2 ^ 2) ^^^ 1 : Nat) : Int), (((128 + pg) / 2 ^ 3 : Nat) : Int), (((128 + pg) / 2 ^ 4 : Nat) : Int), (((128 + pg) / 2 ^ 5 : Nat) : Int), (((128 + pg) / 2 ^ 6 : Nat) : Int), (((128 + pg) / 2 ^ 7 : Nat) : Int)] : List Int).map vi64) rfl rfl rfl (by decide) (ownView (h_12.ok _ M0)) (lt_len (K := 8) (len_map (rfl : List.length ([((((128 + pg) / 2 ^ 0) ^^^ 1 : Nat) : Int), ((((128 + pg) / 2 ^ 1) ^^^ 1 : Nat) : Int), ((((128 + pg) / 2 ^ 2) ^^^ 1 : Nat) : Int), (((128 + pg) / 2 ^ 3 : Nat) : Int), (((128 + pg) / 2 ^ 4 : Nat) : Int), (((128 + pg) / 2 ^ 5 : Nat) : Int), (((128 + pg) / 2 ^ 6 : Nat) : Int), (((128 + pg) / 2 ^ 7 : Nat) : Int)] : List Int) = 8)) (by omega)) underlying40 sizeOf3 (Nat.mul_one _).symm) ?_)))))
 refine WL.storeR (a := a_1) (i := 3) (v := (vn (((128 + pg) / 2 ^ 3) ^^^ 1))) (xs' := ([((((128 + pg) / 2 ^ 0) ^^^ 1 : Nat) : Int), ((((128 + pg) / 2 ^ 1) ^^^ 1 : Nat) : Int), ((((128 + pg) / 2 ^ 2) ^^^ 1 : Nat) : Int), ((((128 + pg) / 2 ^ 3) ^^^ 1 : Nat) : Int), (((128 + pg) / 2 ^ 4 : Nat) : Int), (((128 + pg) / 2 ^ 5 : Nat) : Int), (((128 + pg) / 2 ^ 6 : Nat) : Int), (((128 + pg) / 2 ^ 7 : Nat) : Int)] : List Int).map vi64) h_12 rfl rfl sizeOf3 rfl At.h (lt_len (K := 8) (len_map (rfl : List.length ([((((128 + pg) / 2 ^ 0) ^^^ 1 : Nat) : Int), ((((128 + pg) / 2 ^ 1) ^^^ 1 : Nat) : Int), ((((128 + pg) / 2 ^ 2) ^^^ 1 : Nat) : Int), (((128 + pg) / 2 ^ 3 : Nat) : Int), (((128 + pg) / 2 ^ 4 : Nat) : Int), (((128 + pg) / 2 ^ 5 : Nat) : Int), (((128 + pg) / 2 ^ 6 : Nat) : Int), (((128 + pg) / 2 ^ 7 : Nat) : Int)] : List Int) = 8)) (by omega)) ((set_i64 _ _ _).trans rfl) (fun w_13 h_14 => ?_)
 refine WL.nil (inb_n (thn_n (WP.reg ?_)))
 refine qV rfl (R.bin rfl rfl (bi_add (c := 4) (by omega) (by omega))) (qM (vi 4) rfl rfl ?_)
 refine WL.nil (thn_n ?_)
 refine WI.round ?_
 refine WP.seq (WP.reg ?_)
 refine qV rfl (R.bin rfl rfl (bi_lss (r := true) (by decide))) ?_
 refine WL.nil (thn_n (WP.seq ?_))
 refine WP.condT rfl ?_
 refine WP.skip (thn_n (WP.seq (WP.block (WP.seq (WP.reg ?_)))))
 refine qM (vi 4) rfl rfl (qA (vi 4) rfl rfl ?_)
 refine WL.nil (thn_n (WP.reg ?_))
 refine qM (.slice a_1 8 cap_2) rfl rfl (qM (vi 4) rfl rfl (qV rfl (R.indexS (a := a_1) (i := 4) (off := 4) (xs := ([((((128 + pg) / 2 ^ 0) ^^^ 1 : Nat) : Int), ((((128 + pg) / 2 ^ 1) ^^^ 1 : Nat) : Int), ((((128 + pg) / 2 ^ 2) ^^^ 1 : Nat) : Int), ((((128 + pg) / 2 ^ 3) ^^^ 1 : Nat) : Int), (((128 + pg) / 2 ^ 4 : Nat) : Int), (((128 + pg) / 2 ^ 5 : Nat) : Int), (((128 + pg) / 2 ^ 6 : Nat) : Int), (((128 + pg) / 2 ^ 7 : Nat) : Int)] : List Int).map vi64) rfl rfl rfl (by decide) (ownView (h_14.ok _ M0)) (lt_len (K := 8) (len_map (rfl : List.length ([((((128 + pg) / 2 ^ 0) ^^^ 1 : Nat) : Int), ((((128 + pg) / 2 ^ 1) ^^^ 1 : Nat) : Int), ((((128 + pg) / 2 ^ 2) ^^^ 1 : Nat) : Int), ((((128 + pg) / 2 ^ 3) ^^^ 1 : Nat) : Int), (((128 + pg) / 2 ^ 4 : Nat) : Int), (((128 + pg) / 2 ^ 5 : Nat) : Int), (((128 + pg) / 2 ^ 6 : Nat) : Int), (((128 + pg) / 2 ^ 7 : Nat) : Int)] : List Int) = 8)) (by omega)) underlying40 sizeOf3 (Nat.mul_one _).symm) (qV rfl (R.loadG rfl (ownView (h_14.ok _ M0)) isAgg3 rfl) (qV rfl (R.bin (v := (vn (((128 + pg) / 2 ^ 4) ^^^ 1))) rfl rfl (bi_xorN (m := (128 + pg) / 2 ^ 4) (n := 1) (by omega) (by omega))) (qV rfl (R.indexS (a := a_1) (i := 4) (off := 4) (xs := ([((((128 + pg) / 2 ^ 0) ^^^ 1 : Nat) : Int), ((((128 + pg) / 2 ^ 1) ^^^ 1 : Nat) : Int), ((((128 + pg) / 2 ^ 2) ^^^ 1 : Nat) : Int), ((((128 + pg) / 2 ^ 3) ^^^ 1 : Nat) : Int), (((128 + pg) / 2 ^ 4 : Nat) : Int), (((128 + pg) / 2 ^ 5 : Nat) : Int), (((128 + pg) / 2 ^ 6 : Nat) : Int), (((128 + pg) / 2 ^ 7 : Nat) : Int)] : List Int).map vi64) rfl rfl rfl (by decide) (ownView (h_14.ok _ M0)) (lt_len (K := 8) (len_map (rfl : List.length ([((((128 + pg) / 2 ^ 0) ^^^ 1 : Nat) : Int), ((((128 + pg) / 2 ^ 1) ^^^ 1 : Nat) : Int), ((((128 + pg) / 2 ^ 2) ^^^ 1 : Nat) : Int), ((((128 + pg) / 2 ^ 3) ^^^ 1 : Nat) : Int), (((128 + pg) / 2 ^ 4 : Nat) : Int), (((128 + pg) / 2 ^ 5 : Nat) : Int), (((128 + pg) / 2 ^ 6 : Nat) : Int), (((128 + pg) / 2 ^ 7 : Nat) : Int)] : List Int) = 8)) (by omega)) underlying40 sizeOf3 (Nat.mul_one _).symm) ?_)))))
 refine WL.storeR (a := a_1) (i := 4) (v := (vn (((128 + pg) / 2 ^ 4) ^^^ 1))) (xs' := ([((((128 + pg) / 2 ^ 0) ^^^ 1 : Nat) : Int), ((((128 + pg) / 2 ^ 1) ^^^ 1 : Nat) : Int), ((((128 + pg) / 2 ^ 2) ^^^ 1 : Nat) : Int), ((((128 + pg) / 2 ^ 3) ^^^ 1 : Nat) : Int), ((((128 + pg) / 2 ^ 4) ^^^ 1 : Nat) : Int), (((128 + pg) / 2 ^ 5 : Nat) : Int), (((128 + pg) / 2 ^ 6 : Nat) : Int), (((128 + pg) / 2 ^ 7 : Nat) : Int)] : List Int).map vi64) h_14 rfl rfl sizeOf3 rfl At.h (lt_len (K := 8) (len_map (rfl : List.length ([((((128 + pg) / 2 ^ 0) ^^^ 1 : Nat) : Int), ((((128 + pg) / 2 ^ 1) ^^^ 1 : Nat) : Int), ((((128 + pg) / 2 ^ 2) ^^^ 1 : Nat) : Int), ((((128 + pg) / 2 ^ 3) ^^^ 1 : Nat) : Int), (((128 + pg) / 2 ^ 4 : Nat) : Int), (((128 + pg) / 2 ^ 5 : Nat) : Int), (((128 + pg) / 2 ^ 6 : Nat) : Int), (((128 + pg) / 2 ^ 7 : Nat) : Int)] : List Int) = 8)) (by omega)) ((set_i64 _ _ _).trans rfl) (fun w_15 h_16 => ?_)
 refine WL.nil (inb_n (thn_n (WP.reg ?_)))
 refine qV rfl (R.bin rfl rfl (bi_add (c := 5) (by omega) (by omega))) (qM (vi 5) rfl rfl ?_)
 refine WL.nil (thn_n ?_)
 refine WI.round ?_
 refine WP.seq (WP.reg ?_)
 refine qV rfl (R.bin rfl rfl (bi_lss (r := true) (by decide))) ?_
 refine WL.nil (thn_n (WP.seq ?_))
 refine WP.condT rfl ?_
 refine WP.skip (thn_n (WP.seq (WP.block (WP.seq (WP.reg ?_)))))
 refine qM (vi 5) rfl rfl (qA (vi 5) rfl rfl ?_)
 refine WL.nil (thn_n (WP.reg ?_))
 refine qM (.slice a_1 8 cap_2) rfl rfl (qM (vi 5) rfl rfl (qV rfl (R.indexS (a := a_1) (i := 5) (off := 5) (xs := ([((((128 + pg) / 2 ^ 0) ^^^ 1 : Nat) : Int), ((((128 + pg) / 2 ^ 1) ^^^ 1 : Nat) : Int), ((((128 + pg) / 2 ^ 2) ^^^ 1 : Nat) : Int), ((((128 + pg) / 2 ^ 3) ^^^ 1 : Nat) : Int), ((((128 + pg) / 2 ^ 4) ^^^ 1 : Nat) : Int), (((128 + pg) / 2 ^ 5 : Nat) : Int), (((128 + pg) / 2 ^ 6 : Nat) : Int), (((128 + pg) / 2 ^ 7 : Nat) : Int)] : List Int).map vi64) rfl rfl rfl (by decide) (ownView (h_16.ok _ M0)) (lt_len (K := 8) (len_map (rfl : List.length ([((((128 + pg) / 2 ^ 0) ^^^ 1 : Nat) : Int), ((((128 + pg) / 2 ^ 1) ^^^ 1 : Nat) : Int), ((((128 + pg) / 2 ^ 2) ^^^ 1 : Nat) : Int), ((((128 + pg) / 2 ^ 3) ^^^ 1 : Nat) : Int), ((((128 + pg) / 2 ^ 4) ^^^ 1 : Nat) : Int), (((128 + pg) / 2 ^ 5 : Nat) : Int), (((128 + pg) / 2 ^ 6 : Nat) : Int), (((128 + pg) / 2 ^ 7 : Nat) : Int)] : List Int) = 8)) (by omega)) underlying40 sizeOf3 (Nat.mul_one _).symm) (qV rfl (R.loadG rfl (ownView (h_16.ok _ M0)) isAgg3 rfl) (qV rfl (R.bin (v := (vn (((128 + pg) / 2 ^ 5) ^^^ 1))) rfl rfl (bi_xorN (m := (128 + pg) / 2 ^ 5) (n := 1) (by omega) (by omega))) (qV rfl (R.indexS (a := a_1) (i := 5) (off := 5) (xs := ([((((128 + pg) / 2 ^ 0) ^^^ 1 : Nat) : Int), ((((128 + pg) / 2 ^ 1) ^^^ 1 : Nat) : Int), ((((128 + pg) / 2 ^ 2) ^^^ 1 : Nat) : Int), ((((128 + pg) / 2 ^ 3) ^^^ 1 : Nat) : Int), ((((128 + pg) / 2 ^ 4) ^^^ 1 : Nat) : Int), (((128 + pg) / 2 ^ 5 : Nat) : Int), (((128 + pg) / 2 ^ 6 : Nat) : Int), (((128 + pg) / 2 ^ 7 : Nat) : Int)] : List Int).map vi64) rfl rfl rfl (by decide) (ownView (h_16.ok _ M0)) (lt_len (K := 8) (len_map (rfl : List.length ([((((128 + pg) / 2 ^ 0) ^^^ 1 : Nat) : Int), ((((128 + pg) / 2 ^ 1) ^^^ 1 : Nat) : Int), ((((128 + pg) / 2 ^ 2) ^^^ 1 : Nat) : Int), ((((128 + pg) / 2 ^ 3) ^^^ 1 : Nat) : Int), ((((128 + pg) / 2 ^ 4) ^^^ 1 : Nat) : Int), (((128 + pg) / 2 ^ 5 : Nat) : Int), (((128 + pg) / 2 ^ 6 : Nat) : Int), (((128 + pg) / 2 ^ 7 : Nat) : Int)] : List Int) = 8)) (by omega)) underlying40 sizeOf3 (Nat.mul_one _).symm) ?_)))))
 refine WL.storeR (a := a_1) (i := 5) (v := (vn (((128 + pg) / 2 ^ 5) ^^^ 1))) (xs' := ([((((128 + pg) / 2 ^ 0) ^^^ 1 : Nat) : Int), ((((128 + pg) / 2 ^ 1) ^^^ 1 : Nat) : Int), ((((128 + pg) / 2 ^ 2) ^^^ 1 : Nat) : Int), ((((128 + pg) / 2 ^ 3) ^^^ 1 : Nat) : Int), ((((128 + pg) / 2 ^ 4) ^^^ 1 : Nat) : Int), ((((128 + pg) / 2 ^ 5) ^^^ 1 : Nat) : Int), (((128 + pg) / 2 ^ 6 : Nat) : Int), (((128 + pg) / 2 ^ 7 : Nat) : Int)] : List Int).map vi64) h_16 rfl rfl sizeOf3 rfl At.h (lt_len (K := 8) (len_map (rfl : List.length ([((((128 + pg) / 2 ^ 0) ^^^ 1 : Nat) : Int), ((((128 + pg) / 2 ^ 1) ^^^ 1 : Nat) : Int), ((((128 + pg) / 2 ^ 2) ^^^ 1 : Nat) : Int), ((((128 + pg) / 2 ^ 3) ^^^ 1 : Nat) : Int), ((((128 + pg) / 2 ^ 4) ^^^ 1 : Nat) : Int), (((128 + pg) / 2 ^ 5 : Nat) : Int), (((128 + pg) / 2 ^ 6 : Nat) : Int), (((128 + pg) / 2 ^ 7 : Nat) : Int)] : List Int) = 8)) (by omega)) ((set_i64 _ _ _).trans rfl) (fun w_17 h_18 => ?_)
 refine WL.nil (inb_n (thn_n (WP.reg ?_)))
 refine qV rfl (R.bin rfl rfl (bi_add (c := 6) (by omega) (by omega))) (qM (vi 6) rfl rfl ?_)
 refine WL.nil (thn_n ?_)
 refine WI.round ?_
 refine WP.seq (WP.reg ?_)
 refine qV rfl (R.bin rfl rfl (bi_lss (r := true) (by decide))) ?_
 refine WL.nil (thn_n (WP.seq ?_))
 refine WP.condT rfl ?_
 refine WP.skip (thn_n (WP.seq (WP.block (WP.seq (WP.reg ?_)))))
 refine qM (vi 6) rfl rfl (qA (vi 6) rfl rfl ?_)
 refine WL.nil (thn_n (WP.reg ?_))
 refine qM (.slice a_1 8 cap_2) rfl rfl (qM (vi 6) rfl rfl (qV rfl (R.indexS (a := a_1) (i := 6) (off := 6) (xs := ([((((128 + pg) / 2 ^ 0) ^^^ 1 : Nat) : Int), ((((128 + pg) / 2 ^ 1) ^^^ 1 : Nat) : Int), ((((128 + pg) / 2 ^ 2) ^^^ 1 : Nat) : Int), ((((128 + pg) / 2 ^ 3) ^^^ 1 : Nat) : Int), ((((128 + pg) / 2 ^ 4) ^^^ 1 : Nat) : Int), ((((128 + pg) / 2 ^ 5) ^^^ 1 : Nat) : Int), (((128 + pg) / 2 ^ 6 : Nat) : Int), (((128 + pg) / 2 ^ 7 : Nat) : Int)] : List Int).map vi64) rfl rfl rfl (by decide) (ownView (h_18.ok _ M0)) (lt_len (K := 8) (len_map (rfl : List.length ([((((128 + pg) / 2 ^ 0) ^^^ 1 : Nat) : Int), ((((128 + pg) / 2 ^ 1) ^^^ 1 : Nat) : Int), ((((128 + pg) / 2 ^ 2) ^^^ 1 : Nat) : Int), ((((128 + pg) / 2 ^ 3) ^^^ 1 : Nat) : Int), ((((128 + pg) / 2 ^ 4) ^^^ 1 : Nat) : Int), ((((128 + pg) / 2 ^ 5) ^^^ 1 : Nat) : Int), (((128 + pg) / 2 ^ 6 : Nat) : Int), (((128 + pg) / 2 ^ 7 : Nat) : Int)] : List Int) = 8)) (by omega)) underlying40 sizeOf3 (Nat.mul_one _).symm) (qV rfl (R.loadG rfl (ownView (h_18.ok _ M0)) isAgg3 rfl) (qV rfl (R.bin (v := (vn (((128 + pg) / 2 ^ 6) ^^^ 1))) rfl rfl (bi_xorN (m := (128 + pg) / 2 ^ 6) (n := 1) (by omega) (by omega))) (qV rfl (R.indexS (a := a_1) (i := 6) (off := 6) (xs := ([((((128 + pg) / 2 ^ 0) ^^^ 1 : Nat) : Int), ((((128 + pg) / 2 ^ 1) ^^^ 1 : Nat) : Int), ((((128 + pg) / 2 ^ 2) ^^^ 1 : Nat) : Int), ((((128 + pg) / 2 ^ 3) ^^^ 1 : Nat) : Int), ((((128 + pg) / 2 ^ 4) ^^^ 1 : Nat) : Int), ((((128 + pg) / 2 ^ 5) ^^^ 1 : Nat) : Int), (((128 + pg) / 2 ^ 6 : Nat) : Int), (((128 + pg) / 2 ^ 7 : Nat) : Int)] : List Int).map vi64) rfl rfl rfl (by decide) (ownView (h_18.ok _ M0)) (lt_len (K := 8) (len_map (rfl : List.length ([((((128 + pg) / 2 ^ 0) ^^^ 1 : Nat) : Int), ((((128 + pg) / 2 ^ 1) ^^^ 1 : Nat) : Int), ((((128 + pg) / 2 ^ 2) ^^^ 1 : Nat) : Int), ((((128 + pg) / 2 ^ 3) ^^^ 1 : Nat) : Int), ((((128 + pg) / 2 ^ 4) ^^^ 1 : Nat) : Int), ((((128 + pg) / 2 ^ 5) ^^^ 1 : Nat) : Int), (((128 + pg) / 2 ^ 6 : Nat) : Int), (((128 + pg) / 2 ^ 7 : Nat) : Int)] : List Int) = 8)) (by omega)) underlying40 sizeOf3 (Nat.mul_one _).symm) ?_)))))
 refine WL.storeR (a := a_1) (i := 6) (v := (vn (((128 + pg) / 2 ^ 6) ^^^ 1))) (xs' := ([((((128 + pg) / 2 ^ 0) ^^^ 1 : Nat) : Int), ((((128 + pg) / 2 ^ 1) ^^^ 1 : Nat) : Int), ((((128 + pg) / 2 ^ 2) ^^^ 1 : Nat) : Int), ((((128 + pg) / 2 ^ 3) ^^^ 1 : Nat) : Int), ((((128 + pg) / 2 ^ 4) ^^^ 1 : Nat) : Int), ((((128 + pg) / 2 ^ 5) ^^^ 1 : Nat) : Int), ((((128 + pg) / 2 ^ 6) ^^^ 1 : Nat) : Int), (((128 + pg) / 2 ^ 7 : Nat) : Int)] : List Int).map vi64) h_18 rfl rfl sizeOf3 rfl At.h (lt_len (K := 8) (len_map (rfl : List.length ([((((128 + pg) / 2 ^ 0) ^^^ 1 : Nat) : Int), ((((128 + pg) / 2 ^ 1) ^^^ 1 : Nat) : Int), ((((128 + pg) / 2 ^ 2) ^^^ 1 : Nat) : Int), ((((128 + pg) / 2 ^ 3) ^^^ 1 : Nat) : Int), ((((128 + pg) / 2 ^ 4) ^^^ 1 : Nat) : Int), ((((128 + pg) / 2 ^ 5) ^^^ 1 : Nat) : Int), (((128 + pg) / 2 ^ 6 : Nat) : Int), (((128 + pg) / 2 ^ 7 : Nat) : Int)] : List Int) = 8)) (by omega)) ((set_i64 _ _ _).trans rfl) (fun w_19 h_20 => ?_)
 refine WL.nil (inb_n (thn_n (WP.reg ?_)))
 refine qV rfl (R.bin rfl rfl (bi_add (c := 7) (by omega) (by omega))) (qM (vi 7) rfl rfl ?_)
 refine WL.nil (thn_n ?_)
 refine WI.round ?_
 refine WP.seq (WP.reg ?_)
 refine qV rfl (R.bin rfl rfl (bi_lss (r := true) (by decide))) ?_
 refine WL.nil (thn_n (WP.seq ?_))
 refine WP.condT rfl ?_
 refine WP.skip (thn_n (WP.seq (WP.block (WP.seq (WP.reg ?_)))))
 refine qM (vi 7) rfl rfl (qA (vi 7) rfl rfl ?_)
 refine WL.nil (thn_n (WP.reg ?_))
 refine qM (.slice a_1 8 cap_2) rfl rfl (qM (vi 7) rfl rfl (qV rfl (R.indexS (a := a_1) (i := 7) (off := 7) (xs := ([((((128 + pg) / 2 ^ 0) ^^^ 1 : Nat) : Int), ((((128 + pg) / 2 ^ 1) ^^^ 1 : Nat) : Int), ((((128 + pg) / 2 ^ 2) ^^^ 1 : Nat) : Int), ((((128 + pg) / 2 ^ 3) ^^^ 1 : Nat) : Int), ((((128 + pg) / 2 ^ 4) ^^^ 1 : Nat) : Int), ((((128 + pg) / 2 ^ 5) ^^^ 1 : Nat) : Int), ((((128 + pg) / 2 ^ 6) ^^^ 1 : Nat) : Int), (((128 + pg) / 2 ^ 7 : Nat) : Int)] : List Int).map vi64) rfl rfl rfl (by decide) (ownView (h_20.ok _ M0)) (lt_len (K := 8) (len_map (rfl : List.length ([((((128 + pg) / 2 ^ 0) ^^^ 1 : Nat) : Int), ((((128 + pg) / 2 ^ 1) ^^^ 1 : Nat) : Int), ((((128 + pg) / 2 ^ 2) ^^^ 1 : Nat) : Int), ((((128 + pg) / 2 ^ 3) ^^^ 1 : Nat) : Int), ((((128 + pg) / 2 ^ 4) ^^^ 1 : Nat) : Int), ((((128 + pg) / 2 ^ 5) ^^^ 1 : Nat) : Int), ((((128 + pg) / 2 ^ 6) ^^^ 1 : Nat) : Int), (((128 + pg) / 2 ^ 7 : Nat) : Int)] : List Int) = 8)) (by omega)) underlying40 sizeOf3 (Nat.mul_one _).symm) (qV rfl (R.loadG rfl (ownView (h_20.ok _ M0)) isAgg3 rfl) (qV rfl (R.bin (v := (vn (((128 + pg) / 2 ^ 7) ^^^ 1))) rfl rfl (bi_xorN (m := (128 + pg) / 2 ^ 7) (n := 1) (by omega) (by omega))) (qV rfl (R.indexS (a := a_1) (i := 7) (off := 7) (xs := ([((((128 + pg) / 2 ^ 0) ^^^ 1 : Nat) : Int), ((((128 + pg) / 2 ^ 1) ^^^ 1 : Nat) : Int), ((((128 + pg) / 2 ^ 2) ^^^ 1 : Nat) : Int), ((((128 + pg) / 2 ^ 3) ^^^ 1 : Nat) : Int), ((((128 + pg) / 2 ^ 4) ^^^ 1 : Nat) : Int), ((((128 + pg) / 2 ^ 5) ^^^ 1 : Nat) : Int), ((((128 + pg) / 2 ^ 6) ^^^ 1 : Nat) : Int), (((128 + pg) / 2 ^ 7 : Nat) : Int)] : List Int).map vi64) rfl rfl rfl (by decide) (ownView (h_20.ok _ M0)) (lt_len (K := 8) (len_map (rfl : List.length ([((((128 + pg) / 2 ^ 0) ^^^ 1 : Nat) : Int), ((((128 + pg) / 2 ^ 1) ^^^ 1 : Nat) : Int), ((((128 + pg) / 2 ^ 2) ^^^ 1 : Nat) : Int), ((((128 + pg) / 2 ^ 3) ^^^ 1 : Nat) : Int), ((((128 + pg) / 2 ^ 4) ^^^ 1 : Nat) : Int), ((((128 + pg) / 2 ^ 5) ^^^ 1 : Nat) : Int), ((((128 + pg) / 2 ^ 6) ^^^ 1 : Nat) : Int), (((128 + pg) / 2 ^ 7 : Nat) : Int)] : List Int) = 8)) (by omega)) underlying40 sizeOf3 (Nat.mul_one _).symm) ?_)))))
 refine WL.storeR (a := a_1) (i := 7) (v := (vn (((128 + pg) / 2 ^ 7) ^^^ 1))) (xs' := ([((((128 + pg) / 2 ^ 0) ^^^ 1 : Nat) : Int), ((((128 + pg) / 2 ^ 1) ^^^ 1 : Nat) : Int), ((((128 + pg) / 2 ^ 2) ^^^ 1 : Nat) : Int), ((((128 + pg) / 2 ^ 3) ^^^ 1 : Nat) : Int), ((((128 + pg) / 2 ^ 4) ^^^ 1 : Nat) : Int), ((((128 + pg) / 2 ^ 5) ^^^ 1 : Nat) : Int), ((((128 + pg) / 2 ^ 6) ^^^ 1 : Nat) : Int), ((((128 + pg) / 2 ^ 7) ^^^ 1 : Nat) : Int)] : List Int).map vi64) h_20 rfl rfl sizeOf3 rfl At.h (lt_len (K := 8) (len_map (rfl : List.length ([((((128 + pg) / 2 ^ 0) ^^^ 1 : Nat) : Int), ((((128 + pg) / 2 ^ 1) ^^^ 1 : Nat) : Int), ((((128 + pg) / 2 ^ 2) ^^^ 1 : Nat) : Int), ((((128 + pg) / 2 ^ 3) ^^^ 1 : Nat) : Int), ((((128 + pg) / 2 ^ 4) ^^^ 1 : Nat) : Int), ((((128 + pg) / 2 ^ 5) ^^^ 1 : Nat) : Int), ((((128 + pg) / 2 ^ 6) ^^^ 1 : Nat) : Int), (((128 + pg) / 2 ^ 7 : Nat) : Int)] : List Int) = 8)) (by omega)) ((set_i64 _ _ _).trans rfl) (fun w_21 h_22 => ?_)
 refine WL.nil (inb_n (thn_n (WP.reg ?_)))
 refine qV rfl (R.bin rfl rfl (bi_add (c := 8) (by omega) (by omega))) (qM (vi 8) rfl rfl ?_)
 refine WL.nil (thn_n ?_)
 refine WI.round ?_
 refine WP.seq (WP.reg ?_)
 refine qV rfl (R.bin rfl rfl (bi_lss (r := false) (by decide))) ?_
 refine WL.nil (thn_n (WP.seq ?_))
 refine WP.condF rfl ?_
 refine WP.exit (thn_x (thn_x (inb_hit (thn_n (WP.seq (WP.reg ?_))))))
 refine qM (.slice a_1 8 cap_2) rfl rfl (qV rfl (R.sliceR0 (h := 7) rfl EvB.dflt (EvB.it (l := 7) rfl rfl) (Nat.le_trans (by decide) (h_22.own M0).2.2.1) underlying40 sizeOf3 (h_22.ok _ M0)) ?_)
 have h_23 := HP.rowCut (k := 7) h_22 At.h (by decide)
 rw [show (([((((128 + pg) / 2 ^ 0) ^^^ 1 : Nat) : Int), ((((128 + pg) / 2 ^ 1) ^^^ 1 : Nat) : Int), ((((128 + pg) / 2 ^ 2) ^^^ 1 : Nat) : Int), ((((128 + pg) / 2 ^ 3) ^^^ 1 : Nat) : Int), ((((128 + pg) / 2 ^ 4) ^^^ 1 : Nat) : Int), ((((128 + pg) / 2 ^ 5) ^^^ 1 : Nat) : Int), ((((128 + pg) / 2 ^ 6) ^^^ 1 : Nat) : Int), ((((128 + pg) / 2 ^ 7) ^^^ 1 : Nat) : Int)] : List Int).map vi64).take (7 * 1) = (([((((128 + pg) / 2 ^ 0) ^^^ 1 : Nat) : Int), ((((128 + pg) / 2 ^ 1) ^^^ 1 : Nat) : Int), ((((128 + pg) / 2 ^ 2) ^^^ 1 : Nat) : Int), ((((128 + pg) / 2 ^ 3) ^^^ 1 : Nat) : Int), ((((128 + pg) / 2 ^ 4) ^^^ 1 : Nat) : Int), ((((128 + pg) / 2 ^ 5) ^^^ 1 : Nat) : Int), ((((128 + pg) / 2 ^ 6) ^^^ 1 : Nat) : Int), ((((128 + pg) / 2 ^ 7) ^^^ 1 : Nat) : Int)] : List Int).take 7).map vi64 from by rw [Nat.mul_one, ← List.map_take]] at h_23
 refine qA (.slice a_1 7 cap_2) rfl rfl (qA (vi 0) rfl rfl ?_)
 refine WL.nil (thn_n (WP.ret ?_))
 refine ret_of results11 (RV.tmp (v := (.slice a_1 7 cap_2)) rfl (RV.tmp (v := (vi 0)) rfl RV.nil)) ?_
 exact ⟨_, _, rfl, h_23.chgS, h_23.ok _ M0⟩

end Go.Proofs.YtbhllplbbkmndaaGreat
