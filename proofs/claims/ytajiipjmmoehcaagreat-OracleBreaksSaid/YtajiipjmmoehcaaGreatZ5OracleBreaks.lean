/- Rules for walks and contracts of the functions that the law reaches, one behind the other. Conditions: none beyond what each theorem states. -/
import Derived.Test.YtajiipjmmoehcaaGreatZ4OracleBreaks
set_option linter.unusedVariables false
set_option linter.unusedSimpArgs false
set_option linter.unusedSectionVars false
namespace Go.Proofs.YtajiipjmmoehcaaGreat
open Go.Proofs.Tryz
open Go.Vc Go.Orc Go.Sh Go.RowKit
set_option maxRecDepth 20000

theorem c_much (ar : Option Addr) (nr cr : Nat) (es : List Ae) (hel : es.length = nr) (hes : ∀ e ∈ es, okAe e) (hnm : nr ≤ maxLen) (w : World) (hve : View w ar (aesC es)) (hak : Aks w es) :
  Cs Tryz.prog 5 [(.slice ar nr cr)].toArray w (fun v w1 => ∃ b, v = .bool b ∧ (b = false → es.length ≤ 40 ∧ ∀ k, k < es.length → (es.getD k zAe).data.length ≤ 300) ∧ Chg w w1 []) := by
 have hnm2 : nr ≤ 9223372036854775807 := by simpa [maxLen] using hnm
 refine Cs.of (n := 21) (args := [(.slice ar nr cr)]) Tryz.func5 rfl rfl rfl ?_
 have h_0 := HP.init w
 have h_01 := h_0.oldV (View.arg hve) rfl (by simp [Ent.mut])
 have h_00 := h_01.oldV (Aks.pin hak) rfl (by simp [Ent.mut])
 refine WP.seq (WP.reg ?_)
 refine qA (.bool false) rfl rfl ?_
 refine WL.nil (thn_n (WP.seq (WP.seq (WP.reg ?_))))
 refine qA (vi 0) rfl rfl ?_
 refine WL.nil (thn_n (WP.block ?_))
 refine WP.loopG (G := Nat) [2, 3, 4, 5, 6, 7, 8, 9, 10, 11, 12, 13, 14, 15, 16, 17] (fun k => [(3, (vn k))]) (fun k m w1 => HP w w1 [.pin (akBs es) (fun w => Aks w es), .view ar (aesC es)] ∧ (k ≤ nr) ∧ (∀ j, j < k → (es.getD j zAe).data.length ≤ 300) ∧ m = nr + 1 - k) ⟨0, _, ⟨rfl, trivial⟩, h_00, Nat.zero_le _, (fun j hj => by omega), rfl⟩ ?_
 rintro k m_3 J_4 w_1 ⟨h_2, hkn, hall, rfl⟩
 refine WP.seq (WP.seq (WP.reg ?_))
 refine qM (vn k) rfl rfl (qM (.slice ar nr cr) rfl rfl (qV rfl (R.lenS (a := ar) (m := nr) rfl rfl underlying23) (qV rfl (R.bin rfl rfl (bi_lss (r := decide ((((k : Nat) : Int) : Int) < ((nr : Nat) : Int))) rfl)) ?_)))
 refine WL.nil (thn_n ?_)
 refine WP.cond (b := decide ((((k : Nat) : Int) : Int) < ((nr : Nat) : Int))) rfl (fun c_5 => ?_) (fun c_5 => ?_)
 ·have p_6 := of_decide_eq_true c_5
  refine WP.skip (thn_n (WP.seq (WP.block (WP.seq ?_))))
  have hlk : k < es.length := by omega
  have hrk : okAe (es.getD k zAe) := hes _ (getD_mem hlk)
  refine WP.reg ?_
  refine qM (.slice ar nr cr) rfl rfl (qM (vn k) rfl rfl (qV rfl (R.indexS (a := ar) (i := k) (off := k * 37) (xs := aesC es) rfl rfl rfl (by omega) (viewV (h_2.ok _ M1)) (by rw [aesC_len hes]; omega) underlying23 sizeOf41 rfl) (qV rfl (R.fieldG (a := ar) (i := k * 37) (off' := k * 37 + 2) rfl underlying41 rfl sizeOf39 rfl rfl) (qV rfl (R.fieldG (a := ar) (i := k * 37 + 2) (off' := k * 37 + 2 + 34) rfl underlying39 rfl sizeOf37 rfl rfl) (qV rfl (R.loadG rfl (viewV (h_2.ok _ M1)) isAgg37 (ae_36 hes hlk)) (qV rfl (R.lenS (a := (es.getD k zAe).a) (m := (es.getD k zAe).data.length) rfl rfl underlying37) (qV rfl (R.bin rfl rfl (bi_gtr (r := decide (((((es.getD k zAe).data.length : Nat) : Int) : Int) > 300)) rfl)) ?_)))))))
  refine WL.nil (thn_n ?_)
  refine WP.cond (b := decide (((((es.getD k zAe).data.length : Nat) : Int) : Int) > 300)) rfl (fun c_7 => ?_) (fun c_7 => ?_)
  ·have p_8 := of_decide_eq_true c_7
   refine WP.seq (WP.reg ?_)
   refine qA (.bool true) rfl rfl ?_
   refine WL.nil (thn_n (WP.ret (inb_r (thn_r (thn_r (inb_r (thn_r ?_)))))))
   refine ret_of results5 (RV.tmp (v := (.bool true)) rfl RV.nil) ?_
   exact ⟨true, rfl, (fun h => by cases h), h_2.chgS⟩
  ·have p_9 := of_decide_eq_false c_7
   refine WP.skip (inb_n (thn_n (WP.reg ?_)))
   refine qM (vn k) rfl rfl (qV rfl (R.bin rfl rfl (bi_add (c := ((k + 1 : Nat) : Int)) (by omega) (by omega))) (qA (vn (k + 1)) rfl rfl ?_))
   refine WL.nil (thn_n ?_)
   have h_11 := (h_2.up J1).up J1
   exact ⟨k + 1, _, (by omega), (Ag.upd rfl (U2 rfl rfl (U4 rfl rfl rfl rfl (U4 rfl rfl rfl rfl (U4 rfl rfl rfl rfl (Ag.updL rfl (Ag.mix _ _ _))))))), ⟨rfl, trivial⟩, h_11, (by omega), (fun j hj => (Nat.lt_or_eq_of_le (Nat.le_of_lt_succ hj)).elim (fun e => hall j e) (fun e => by rw [e]; omega)), rfl⟩
 ·have p_12 := of_decide_eq_false c_5
  refine WP.exit (thn_x (thn_x (inb_hit (thn_n (WP.seq (WP.reg ?_))))))
  refine qM (.slice ar nr cr) rfl rfl (qV rfl (R.lenS (a := ar) (m := nr) rfl rfl underlying23) (qV rfl (R.bin rfl rfl (bi_gtr (r := decide ((((nr : Nat) : Int) : Int) > 40)) rfl)) (qA (.bool (decide ((((nr : Nat) : Int) : Int) > 40))) rfl rfl ?_)))
  refine WL.nil (thn_n (WP.ret ?_))
  refine ret_of results5 (RV.tmp (v := (.bool (decide ((((nr : Nat) : Int) : Int) > 40)))) rfl RV.nil) ?_
  exact ⟨_, rfl, (fun h => ⟨by have := of_decide_eq_false h; omega, fun j hj => hall j (by omega)⟩), h_2.chgS⟩

theorem c_known05  (w : World) :
  Cs Tryz.prog 6 [].toArray w (fun v w1 => v = (.bool true) ∧ Chg w w1 []) := by
 refine Cs.of (n := 124) (args := []) Tryz.func6 rfl rfl rfl ?_
 have h_0 := HP.init w
 refine WP.seq (WP.reg ?_)
 refine qA (.bool false) rfl rfl ?_
 refine WL.nil (thn_n (WP.seq (WP.reg ?_)))
 refine qV rfl (R.buildA (vs := [(0, (vu8 1))]) (cs := ([1, 0, 0, 0, 0, 0, 0, 0, 0, 0, 0, 0, 0, 0, 0, 0, 0, 0, 0, 0, 0, 0, 0, 0, 0, 0, 0, 0, 0, 0, 0, 0] : List UInt8).map vu8) underlying29 sizeOf5 (zv typeInfo29 rfl) rfl rfl) (qV rfl (R.buildA (vs := [(0, (vu8 2))]) (cs := ([2, 0, 0, 0, 0, 0, 0, 0, 0, 0, 0, 0, 0, 0, 0, 0, 0, 0, 0, 0, 0, 0, 0, 0, 0, 0, 0, 0, 0, 0, 0, 0] : List UInt8).map vu8) underlying29 sizeOf5 (zv typeInfo29 rfl) rfl rfl) ?_)
 refine WL.alloc (segs := [(32, (zB 32).map vu8)]) h_0 (zv typeInfo29 rfl) rfl (sC (s8 lr) sN) rfl (fun b_1 w_2 h_3 => ?_)
 refine WL.alloc (segs := [(32, (zB 32).map vu8)]) h_3 (zv typeInfo29 rfl) rfl (sC (s8 lr) sN) rfl (fun b_4 w_5 h_6 => ?_)
 refine WL.storeA [] [(32, (zB 32).map vu8)] [(32, ([1, 0, 0, 0, 0, 0, 0, 0, 0, 0, 0, 0, 0, 0, 0, 0, 0, 0, 0, 0, 0, 0, 0, 0, 0, 0, 0, 0, 0, 0, 0, 0] : List UInt8).map vu8)] [] h_6 rfl rfl sizeOf29 Y1 (by decide) rfl rfl rfl rfl rfl rfl (sC (s8 (rfl : List.length ([1, 0, 0, 0, 0, 0, 0, 0, 0, 0, 0, 0, 0, 0, 0, 0, 0, 0, 0, 0, 0, 0, 0, 0, 0, 0, 0, 0, 0, 0, 0, 0] : List UInt8) = 32)) sN) (fun w_7 h_8 => ?_)
 refine WL.storeA [] [(32, (zB 32).map vu8)] [(32, ([2, 0, 0, 0, 0, 0, 0, 0, 0, 0, 0, 0, 0, 0, 0, 0, 0, 0, 0, 0, 0, 0, 0, 0, 0, 0, 0, 0, 0, 0, 0, 0] : List UInt8).map vu8)] [] h_8 rfl rfl sizeOf29 At.h (by decide) rfl rfl rfl rfl rfl rfl (sC (s8 (rfl : List.length ([2, 0, 0, 0, 0, 0, 0, 0, 0, 0, 0, 0, 0, 0, 0, 0, 0, 0, 0, 0, 0, 0, 0, 0, 0, 0, 0, 0, 0, 0, 0, 0] : List UInt8) = 32)) sN) (fun w_9 h_10 => ?_)
 refine WL.nil (thn_n (WP.seq (WP.reg ?_)))
 refine qV rfl (R.buildA (vs := []) (cs := (zB 32).map vu8) underlying29 sizeOf5 (zv typeInfo29 rfl) rfl rfl) (qV rfl (R.loadA [] [(32, ([1, 0, 0, 0, 0, 0, 0, 0, 0, 0, 0, 0, 0, 0, 0, 0, 0, 0, 0, 0, 0, 0, 0, 0, 0, 0, 0, 0, 0, 0, 0, 0] : List UInt8).map vu8)] [] (cs := ([1, 0, 0, 0, 0, 0, 0, 0, 0, 0, 0, 0, 0, 0, 0, 0, 0, 0, 0, 0, 0, 0, 0, 0, 0, 0, 0, 0, 0, 0, 0, 0] : List UInt8).map vu8) rfl isAgg29 sizeOf29 (h_10.ok _ M1) rfl rfl rfl rfl) (qV rfl (R.loadA [] [(32, ([2, 0, 0, 0, 0, 0, 0, 0, 0, 0, 0, 0, 0, 0, 0, 0, 0, 0, 0, 0, 0, 0, 0, 0, 0, 0, 0, 0, 0, 0, 0, 0] : List UInt8).map vu8)] [] (cs := ([2, 0, 0, 0, 0, 0, 0, 0, 0, 0, 0, 0, 0, 0, 0, 0, 0, 0, 0, 0, 0, 0, 0, 0, 0, 0, 0, 0, 0, 0, 0, 0] : List UInt8).map vu8) rfl isAgg29 sizeOf29 (h_10.ok _ M0) rfl rfl rfl rfl) ?_))
 refine WL.buildSl (vs := [(0, (.agg ⟨([1, 0, 0, 0, 0, 0, 0, 0, 0, 0, 0, 0, 0, 0, 0, 0, 0, 0, 0, 0, 0, 0, 0, 0, 0, 0, 0, 0, 0, 0, 0, 0] : List UInt8).map vu8⟩)), (1, (.agg ⟨([2, 0, 0, 0, 0, 0, 0, 0, 0, 0, 0, 0, 0, 0, 0, 0, 0, 0, 0, 0, 0, 0, 0, 0, 0, 0, 0, 0, 0, 0, 0, 0] : List UInt8).map vu8⟩))]) (cs := (([1, 0, 0, 0, 0, 0, 0, 0, 0, 0, 0, 0, 0, 0, 0, 0, 0, 0, 0, 0, 0, 0, 0, 0, 0, 0, 0, 0, 0, 0, 0, 0] : List UInt8) ++ ([2, 0, 0, 0, 0, 0, 0, 0, 0, 0, 0, 0, 0, 0, 0, 0, 0, 0, 0, 0, 0, 0, 0, 0, 0, 0, 0, 0, 0, 0, 0, 0] : List UInt8)).map vu8) h_10 underlying22 sizeOf29 (zv typeInfo29 rfl) rfl rfl (fill_2 (by kernel_rfl) (rfl : List.length ([1, 0, 0, 0, 0, 0, 0, 0, 0, 0, 0, 0, 0, 0, 0, 0, 0, 0, 0, 0, 0, 0, 0, 0, 0, 0, 0, 0, 0, 0, 0, 0] : List UInt8) = 32) (rfl : List.length ([2, 0, 0, 0, 0, 0, 0, 0, 0, 0, 0, 0, 0, 0, 0, 0, 0, 0, 0, 0, 0, 0, 0, 0, 0, 0, 0, 0, 0, 0, 0, 0] : List UInt8) = 32)) (len_map (show List.length (([1, 0, 0, 0, 0, 0, 0, 0, 0, 0, 0, 0, 0, 0, 0, 0, 0, 0, 0, 0, 0, 0, 0, 0, 0, 0, 0, 0, 0, 0, 0, 0] : List UInt8) ++ ([2, 0, 0, 0, 0, 0, 0, 0, 0, 0, 0, 0, 0, 0, 0, 0, 0, 0, 0, 0, 0, 0, 0, 0, 0, 0, 0, 0, 0, 0, 0, 0] : List UInt8)) = 2 * 32 from rfl)) (one_u8 _) rfl rfl (fun b_11 w_12 h_13 => ?_)
 have h_14 := HP.blkRow (m := 2) (s := 32) h_13 At.h rfl (by simp only [maxLen]; decide)
 have h_15 := h_14.rowView
 refine WL.call Tryz.call7 rfl rfl (c_ONew true (zB 32) (([1, 0, 0, 0, 0, 0, 0, 0, 0, 0, 0, 0, 0, 0, 0, 0, 0, 0, 0, 0, 0, 0, 0, 0, 0, 0, 0, 0, 0, 0, 0, 0] : List UInt8) ++ ([2, 0, 0, 0, 0, 0, 0, 0, 0, 0, 0, 0, 0, 0, 0, 0, 0, 0, 0, 0, 0, 0, 0, 0, 0, 0, 0, 0, 0, 0, 0, 0] : List UInt8)) lr (some ⟨b_11, 0, none⟩) 2 2 (rfl : List.length (([1, 0, 0, 0, 0, 0, 0, 0, 0, 0, 0, 0, 0, 0, 0, 0, 0, 0, 0, 0, 0, 0, 0, 0, 0, 0, 0, 0, 0, 0, 0, 0] : List UInt8) ++ ([2, 0, 0, 0, 0, 0, 0, 0, 0, 0, 0, 0, 0, 0, 0, 0, 0, 0, 0, 0, 0, 0, 0, 0, 0, 0, 0, 0, 0, 0, 0, 0] : List UInt8)) = 64) (by decide) _ h_15) rfl ?_
 rintro _ w_20 ⟨b_16, b_17, a_18, c_19, rfl, h_21⟩
 refine qA (pO b_16 0) rfl rfl ?_
 refine WL.nil (thn_n (WP.seq (WP.reg ?_)))
 refine qM (pO b_16 0) rfl rfl ?_
 refine WL.buildSl (vs := [(0, (vu8 120))]) (cs := ([120] : List UInt8).map vu8) h_21 underlying37 sizeOf5 (zv typeInfo5 rfl) rfl rfl (by kernel_rfl) rfl (one_u8 _) rfl rfl (fun b_22 w_23 h_24 => ?_)
 refine WL.convSl h_24 rfl underlying37 underlying5 At.h (by decide) rfl (fun w_25 h_26 => ?_)
 refine WL.buildSl (vs := [(0, (.slice (some ⟨b_22, 0, none⟩) 1 1))]) (cs := [(.slice (some ⟨b_22, 0, none⟩) 1 1)]) h_26 underlying82 sizeOf37 (zv typeInfo37 rfl) rfl rfl (by kernel_rfl) rfl (by simp [Value.oneCell']) rfl rfl (fun b_27 w_28 h_29 => ?_)
 have h_30 := h_29.up J1
 have h_31 := HP_blkView h_30
 have h_32 := h_31.up J1
 have h_33 := HP_blkView h_32
 have hbl_34 : ∀ b ∈ sblks [(.slice (some ⟨b_22, 0, none⟩) 1 1)], ∃ e ∈ ([.view (some ⟨b_27, 0, none⟩) [(.slice (some ⟨b_22, 0, none⟩) 1 1)], .view (some ⟨b_22, 0, none⟩) (([120] : List UInt8).map vu8), .blk b_16 .nw 66 [(1, [(.bool true)]), (32, (List.replicate 32 (0 : UInt8)).map vu8), (1, [(.slice a_18 2 c_19)]), (1, [(vi 0)]), (1, [(.map (some b_17))]), (1, [(.slice none 0 0)])], .row none 0 0 47 67 [], .obj b_17 .nw (.map (mArr ([] : Lg)) 0), .pin (sblks []) (fun w => Lgs w [] ([] : Lg)), .view a_18 ((([1, 0, 0, 0, 0, 0, 0, 0, 0, 0, 0, 0, 0, 0, 0, 0, 0, 0, 0, 0, 0, 0, 0, 0, 0, 0, 0, 0, 0, 0, 0, 0] : List UInt8) ++ ([2, 0, 0, 0, 0, 0, 0, 0, 0, 0, 0, 0, 0, 0, 0, 0, 0, 0, 0, 0, 0, 0, 0, 0, 0, 0, 0, 0, 0, 0, 0, 0] : List UInt8)).map vu8), .view (some ⟨b_11, 0, none⟩) ((([1, 0, 0, 0, 0, 0, 0, 0, 0, 0, 0, 0, 0, 0, 0, 0, 0, 0, 0, 0, 0, 0, 0, 0, 0, 0, 0, 0, 0, 0, 0, 0] : List UInt8) ++ ([2, 0, 0, 0, 0, 0, 0, 0, 0, 0, 0, 0, 0, 0, 0, 0, 0, 0, 0, 0, 0, 0, 0, 0, 0, 0, 0, 0, 0, 0, 0, 0] : List UInt8)).map vu8), .blk b_4 .nw 29 [(32, ([2, 0, 0, 0, 0, 0, 0, 0, 0, 0, 0, 0, 0, 0, 0, 0, 0, 0, 0, 0, 0, 0, 0, 0, 0, 0, 0, 0, 0, 0, 0, 0] : List UInt8).map vu8)], .blk b_1 .nw 29 [(32, ([1, 0, 0, 0, 0, 0, 0, 0, 0, 0, 0, 0, 0, 0, 0, 0, 0, 0, 0, 0, 0, 0, 0, 0, 0, 0, 0, 0, 0, 0, 0, 0] : List UInt8).map vu8)]] : List Ent), e.mut = false ∧ b ∈ e.blocks := by
  intro b hb
  rcases List.mem_append.1 hb with hb | hb
  ·exact ⟨_, M1, rfl, sblk_in_view (rfl : List.length ([120] : List UInt8) = 1) b hb⟩
  cases hb
 have h_35 := HP_within (e' := .pin (sblks [(.slice (some ⟨b_22, 0, none⟩) 1 1)]) (fun w => Sls w [(.slice (some ⟨b_22, 0, none⟩) 1 1)] [([120] : List UInt8)])) h_33 (Sls.pin (Sls.cons (rfl : List.length ([120] : List UInt8) = 1) (by decide) (viewV (h_33.ok _ M1)) Sls.nil)) rfl rfl hbl_34
 have h_42 := ((((((h_35.up J1).up J1).up J7).up J7).up J7).up J7).up J7
 have h32_w_43 := Lgs.ok32 (h_42.ok _ M3).1
 refine WL.call Tryz.call17 rfl rfl (c_oDigestI b_16 b_17 (zB 32) (([1, 0, 0, 0, 0, 0, 0, 0, 0, 0, 0, 0, 0, 0, 0, 0, 0, 0, 0, 0, 0, 0, 0, 0, 0, 0, 0, 0, 0, 0, 0, 0] : List UInt8) ++ ([2, 0, 0, 0, 0, 0, 0, 0, 0, 0, 0, 0, 0, 0, 0, 0, 0, 0, 0, 0, 0, 0, 0, 0, 0, 0, 0, 0, 0, 0, 0, 0] : List UInt8)) lr a_18 2 c_19 0 (rfl : List.length (([1, 0, 0, 0, 0, 0, 0, 0, 0, 0, 0, 0, 0, 0, 0, 0, 0, 0, 0, 0, 0, 0, 0, 0, 0, 0, 0, 0, 0, 0, 0, 0] : List UInt8) ++ ([2, 0, 0, 0, 0, 0, 0, 0, 0, 0, 0, 0, 0, 0, 0, 0, 0, 0, 0, 0, 0, 0, 0, 0, 0, 0, 0, 0, 0, 0, 0, 0] : List UInt8)) = 64) none 0 [] ([] : Lg) (by decide +kernel) (by decide +kernel) (some ⟨b_27, 0, none⟩) 1 1 [(.slice (some ⟨b_22, 0, none⟩) 1 1)] [([120] : List UInt8)] rfl 2 (by decide) (by decide +kernel) (by omega) _ h_42) rfl ?_
 rintro _ w_43 ⟨la_45, lc_46, lx_47, rfl, h_44⟩
 refine qM (.tuple [(.agg ⟨(anD true (([1, 0, 0, 0, 0, 0, 0, 0, 0, 0, 0, 0, 0, 0, 0, 0, 0, 0, 0, 0, 0, 0, 0, 0, 0, 0, 0, 0, 0, 0, 0, 0] : List UInt8) ++ ([2, 0, 0, 0, 0, 0, 0, 0, 0, 0, 0, 0, 0, 0, 0, 0, 0, 0, 0, 0, 0, 0, 0, 0, 0, 0, 0, 0, 0, 0, 0, 0] : List UInt8)) 2 0 ([] : Lg) (1, (zB 32), 2, [([120] : List UInt8)].flatten)).map vu8⟩), (vi 0)].toArray) rfl rfl (qV rfl (R.extract rfl rfl) (qV rfl (R.extract rfl rfl) ?_))
 refine WL.alloc (segs := [(32, (zB 32).map vu8)]) h_44 (zv typeInfo29 rfl) rfl (sC (s8 lr) sN) rfl (fun b_48 w_49 h_50 => ?_)
 refine WL.storeA [] [(32, (zB 32).map vu8)] [(32, (anD true (([1, 0, 0, 0, 0, 0, 0, 0, 0, 0, 0, 0, 0, 0, 0, 0, 0, 0, 0, 0, 0, 0, 0, 0, 0, 0, 0, 0, 0, 0, 0, 0] : List UInt8) ++ ([2, 0, 0, 0, 0, 0, 0, 0, 0, 0, 0, 0, 0, 0, 0, 0, 0, 0, 0, 0, 0, 0, 0, 0, 0, 0, 0, 0, 0, 0, 0, 0] : List UInt8)) 2 0 ([] : Lg) (1, (zB 32), 2, [([120] : List UInt8)].flatten)).map vu8)] [] h_50 rfl rfl sizeOf29 At.h (by decide) rfl rfl rfl rfl rfl rfl (sC (s8 (anD_len (rfl : List.length (([1, 0, 0, 0, 0, 0, 0, 0, 0, 0, 0, 0, 0, 0, 0, 0, 0, 0, 0, 0, 0, 0, 0, 0, 0, 0, 0, 0, 0, 0, 0, 0] : List UInt8) ++ ([2, 0, 0, 0, 0, 0, 0, 0, 0, 0, 0, 0, 0, 0, 0, 0, 0, 0, 0, 0, 0, 0, 0, 0, 0, 0, 0, 0, 0, 0, 0, 0] : List UInt8)) = 64) h32_w_43)) sN) (fun w_51 h_52 => ?_)
 refine qA (vi 0) rfl rfl ?_
 refine WL.nil (thn_n (WP.seq (WP.reg ?_)))
 refine qM (pO b_16 0) rfl rfl ?_
 refine WL.buildSl (vs := [(0, (vu8 121))]) (cs := ([121] : List UInt8).map vu8) h_52 underlying37 sizeOf5 (zv typeInfo5 rfl) rfl rfl (by kernel_rfl) rfl (one_u8 _) rfl rfl (fun b_53 w_54 h_55 => ?_)
 refine WL.convSl h_55 rfl underlying37 underlying5 At.h (by decide) rfl (fun w_56 h_57 => ?_)
 refine WL.buildSl (vs := [(0, (.slice (some ⟨b_53, 0, none⟩) 1 1))]) (cs := [(.slice (some ⟨b_53, 0, none⟩) 1 1)]) h_57 underlying82 sizeOf37 (zv typeInfo37 rfl) rfl rfl (by kernel_rfl) rfl (by simp [Value.oneCell']) rfl rfl (fun b_58 w_59 h_60 => ?_)
 have h_61 := h_60.up J1
 have h_62 := HP_blkView h_61
 have h_63 := h_62.up J1
 have h_64 := HP_blkView h_63
 have hbl_65 : ∀ b ∈ sblks [(.slice (some ⟨b_53, 0, none⟩) 1 1)], ∃ e ∈ ([.view (some ⟨b_58, 0, none⟩) [(.slice (some ⟨b_53, 0, none⟩) 1 1)], .view (some ⟨b_53, 0, none⟩) (([121] : List UInt8).map vu8), .blk b_48 .nw 29 [(32, (anD true (([1, 0, 0, 0, 0, 0, 0, 0, 0, 0, 0, 0, 0, 0, 0, 0, 0, 0, 0, 0, 0, 0, 0, 0, 0, 0, 0, 0, 0, 0, 0, 0] : List UInt8) ++ ([2, 0, 0, 0, 0, 0, 0, 0, 0, 0, 0, 0, 0, 0, 0, 0, 0, 0, 0, 0, 0, 0, 0, 0, 0, 0, 0, 0, 0, 0, 0, 0] : List UInt8)) 2 0 ([] : Lg) (1, (List.replicate 32 (0 : UInt8)), 2, [([120] : List UInt8)].flatten)).map vu8)], .blk b_16 .nw 66 [(1, [(.bool true)]), (32, (List.replicate 32 (0 : UInt8)).map vu8), (1, [(.slice a_18 2 c_19)]), (1, [(vi ((anU true 0 ([] : Lg) (1, (List.replicate 32 (0 : UInt8)), 2, [([120] : List UInt8)].flatten) : Nat) : Int))]), (1, [(.map (some b_17))]), (1, [(.slice la_45 ((anL true (([1, 0, 0, 0, 0, 0, 0, 0, 0, 0, 0, 0, 0, 0, 0, 0, 0, 0, 0, 0, 0, 0, 0, 0, 0, 0, 0, 0, 0, 0, 0, 0] : List UInt8) ++ ([2, 0, 0, 0, 0, 0, 0, 0, 0, 0, 0, 0, 0, 0, 0, 0, 0, 0, 0, 0, 0, 0, 0, 0, 0, 0, 0, 0, 0, 0, 0, 0] : List UInt8)) 2 0 ([] : Lg) (1, (List.replicate 32 (0 : UInt8)), 2, [([120] : List UInt8)].flatten)).length) lc_46)])], .row la_45 ((anL true (([1, 0, 0, 0, 0, 0, 0, 0, 0, 0, 0, 0, 0, 0, 0, 0, 0, 0, 0, 0, 0, 0, 0, 0, 0, 0, 0, 0, 0, 0, 0, 0] : List UInt8) ++ ([2, 0, 0, 0, 0, 0, 0, 0, 0, 0, 0, 0, 0, 0, 0, 0, 0, 0, 0, 0, 0, 0, 0, 0, 0, 0, 0, 0, 0, 0, 0, 0] : List UInt8)) 2 0 ([] : Lg) (1, (List.replicate 32 (0 : UInt8)), 2, [([120] : List UInt8)].flatten)).length) lc_46 47 67 lx_47, .obj b_17 .nw (.map (mArr (anL true (([1, 0, 0, 0, 0, 0, 0, 0, 0, 0, 0, 0, 0, 0, 0, 0, 0, 0, 0, 0, 0, 0, 0, 0, 0, 0, 0, 0, 0, 0, 0, 0] : List UInt8) ++ ([2, 0, 0, 0, 0, 0, 0, 0, 0, 0, 0, 0, 0, 0, 0, 0, 0, 0, 0, 0, 0, 0, 0, 0, 0, 0, 0, 0, 0, 0, 0, 0] : List UInt8)) 2 0 ([] : Lg) (1, (List.replicate 32 (0 : UInt8)), 2, [([120] : List UInt8)].flatten))) ((anL true (([1, 0, 0, 0, 0, 0, 0, 0, 0, 0, 0, 0, 0, 0, 0, 0, 0, 0, 0, 0, 0, 0, 0, 0, 0, 0, 0, 0, 0, 0, 0, 0] : List UInt8) ++ ([2, 0, 0, 0, 0, 0, 0, 0, 0, 0, 0, 0, 0, 0, 0, 0, 0, 0, 0, 0, 0, 0, 0, 0, 0, 0, 0, 0, 0, 0, 0, 0] : List UInt8)) 2 0 ([] : Lg) (1, (List.replicate 32 (0 : UInt8)), 2, [([120] : List UInt8)].flatten)).length)), .pin (sblks lx_47) (fun w => Lgs w lx_47 (anL true (([1, 0, 0, 0, 0, 0, 0, 0, 0, 0, 0, 0, 0, 0, 0, 0, 0, 0, 0, 0, 0, 0, 0, 0, 0, 0, 0, 0, 0, 0, 0, 0] : List UInt8) ++ ([2, 0, 0, 0, 0, 0, 0, 0, 0, 0, 0, 0, 0, 0, 0, 0, 0, 0, 0, 0, 0, 0, 0, 0, 0, 0, 0, 0, 0, 0, 0, 0] : List UInt8)) 2 0 ([] : Lg) (1, (List.replicate 32 (0 : UInt8)), 2, [([120] : List UInt8)].flatten))), .view a_18 ((([1, 0, 0, 0, 0, 0, 0, 0, 0, 0, 0, 0, 0, 0, 0, 0, 0, 0, 0, 0, 0, 0, 0, 0, 0, 0, 0, 0, 0, 0, 0, 0] : List UInt8) ++ ([2, 0, 0, 0, 0, 0, 0, 0, 0, 0, 0, 0, 0, 0, 0, 0, 0, 0, 0, 0, 0, 0, 0, 0, 0, 0, 0, 0, 0, 0, 0, 0] : List UInt8)).map vu8), .pin (sblks [(.slice (some ⟨b_22, 0, none⟩) 1 1)]) (fun w => Sls w [(.slice (some ⟨b_22, 0, none⟩) 1 1)] [([120] : List UInt8)]), .view (some ⟨b_27, 0, none⟩) [(.slice (some ⟨b_22, 0, none⟩) 1 1)], .view (some ⟨b_22, 0, none⟩) (([120] : List UInt8).map vu8), .view (some ⟨b_11, 0, none⟩) ((([1, 0, 0, 0, 0, 0, 0, 0, 0, 0, 0, 0, 0, 0, 0, 0, 0, 0, 0, 0, 0, 0, 0, 0, 0, 0, 0, 0, 0, 0, 0, 0] : List UInt8) ++ ([2, 0, 0, 0, 0, 0, 0, 0, 0, 0, 0, 0, 0, 0, 0, 0, 0, 0, 0, 0, 0, 0, 0, 0, 0, 0, 0, 0, 0, 0, 0, 0] : List UInt8)).map vu8), .blk b_4 .nw 29 [(32, ([2, 0, 0, 0, 0, 0, 0, 0, 0, 0, 0, 0, 0, 0, 0, 0, 0, 0, 0, 0, 0, 0, 0, 0, 0, 0, 0, 0, 0, 0, 0, 0] : List UInt8).map vu8)], .blk b_1 .nw 29 [(32, ([1, 0, 0, 0, 0, 0, 0, 0, 0, 0, 0, 0, 0, 0, 0, 0, 0, 0, 0, 0, 0, 0, 0, 0, 0, 0, 0, 0, 0, 0, 0, 0] : List UInt8).map vu8)]] : List Ent), e.mut = false ∧ b ∈ e.blocks := by
  intro b hb
  rcases List.mem_append.1 hb with hb | hb
  ·exact ⟨_, M1, rfl, sblk_in_view (rfl : List.length ([121] : List UInt8) = 1) b hb⟩
  cases hb
 have h_66 := HP_within (e' := .pin (sblks [(.slice (some ⟨b_53, 0, none⟩) 1 1)]) (fun w => Sls w [(.slice (some ⟨b_53, 0, none⟩) 1 1)] [([121] : List UInt8)])) h_64 (Sls.pin (Sls.cons (rfl : List.length ([121] : List UInt8) = 1) (by decide) (viewV (h_64.ok _ M1)) Sls.nil)) rfl rfl hbl_65
 have h_73 := ((((((h_66.up J1).up J1).up J8).up J8).up J8).up J8).up J8
 have h32_w_74 := Lgs.ok32 (h_73.ok _ M3).1
 refine WL.call Tryz.call17 rfl rfl (c_oDigestI b_16 b_17 (zB 32) (([1, 0, 0, 0, 0, 0, 0, 0, 0, 0, 0, 0, 0, 0, 0, 0, 0, 0, 0, 0, 0, 0, 0, 0, 0, 0, 0, 0, 0, 0, 0, 0] : List UInt8) ++ ([2, 0, 0, 0, 0, 0, 0, 0, 0, 0, 0, 0, 0, 0, 0, 0, 0, 0, 0, 0, 0, 0, 0, 0, 0, 0, 0, 0, 0, 0, 0, 0] : List UInt8)) lr a_18 2 c_19 (anU true 0 ([] : Lg) (1, (zB 32), 2, [([120] : List UInt8)].flatten)) (rfl : List.length (([1, 0, 0, 0, 0, 0, 0, 0, 0, 0, 0, 0, 0, 0, 0, 0, 0, 0, 0, 0, 0, 0, 0, 0, 0, 0, 0, 0, 0, 0, 0, 0] : List UInt8) ++ ([2, 0, 0, 0, 0, 0, 0, 0, 0, 0, 0, 0, 0, 0, 0, 0, 0, 0, 0, 0, 0, 0, 0, 0, 0, 0, 0, 0, 0, 0, 0, 0] : List UInt8)) = 64) la_45 lc_46 lx_47 (anL true (([1, 0, 0, 0, 0, 0, 0, 0, 0, 0, 0, 0, 0, 0, 0, 0, 0, 0, 0, 0, 0, 0, 0, 0, 0, 0, 0, 0, 0, 0, 0, 0] : List UInt8) ++ ([2, 0, 0, 0, 0, 0, 0, 0, 0, 0, 0, 0, 0, 0, 0, 0, 0, 0, 0, 0, 0, 0, 0, 0, 0, 0, 0, 0, 0, 0, 0, 0] : List UInt8)) 2 0 ([] : Lg) (1, (zB 32), 2, [([120] : List UInt8)].flatten)) (by decide +kernel) (by decide +kernel) (some ⟨b_58, 0, none⟩) 1 1 [(.slice (some ⟨b_53, 0, none⟩) 1 1)] [([121] : List UInt8)] rfl 2 (by decide) (by decide +kernel) (by omega) _ h_73) rfl ?_
 rintro _ w_74 ⟨la_76, lc_77, lx_78, rfl, h_75⟩
 refine qM (.tuple [(.agg ⟨(anD true (([1, 0, 0, 0, 0, 0, 0, 0, 0, 0, 0, 0, 0, 0, 0, 0, 0, 0, 0, 0, 0, 0, 0, 0, 0, 0, 0, 0, 0, 0, 0, 0] : List UInt8) ++ ([2, 0, 0, 0, 0, 0, 0, 0, 0, 0, 0, 0, 0, 0, 0, 0, 0, 0, 0, 0, 0, 0, 0, 0, 0, 0, 0, 0, 0, 0, 0, 0] : List UInt8)) 2 (anU true 0 ([] : Lg) (1, (zB 32), 2, [([120] : List UInt8)].flatten)) (anL true (([1, 0, 0, 0, 0, 0, 0, 0, 0, 0, 0, 0, 0, 0, 0, 0, 0, 0, 0, 0, 0, 0, 0, 0, 0, 0, 0, 0, 0, 0, 0, 0] : List UInt8) ++ ([2, 0, 0, 0, 0, 0, 0, 0, 0, 0, 0, 0, 0, 0, 0, 0, 0, 0, 0, 0, 0, 0, 0, 0, 0, 0, 0, 0, 0, 0, 0, 0] : List UInt8)) 2 0 ([] : Lg) (1, (zB 32), 2, [([120] : List UInt8)].flatten)) (1, (zB 32), 2, [([121] : List UInt8)].flatten)).map vu8⟩), (vi 0)].toArray) rfl rfl (qV rfl (R.extract rfl rfl) (qV rfl (R.extract rfl rfl) ?_))
 refine WL.alloc (segs := [(32, (zB 32).map vu8)]) h_75 (zv typeInfo29 rfl) rfl (sC (s8 lr) sN) rfl (fun b_79 w_80 h_81 => ?_)
 refine WL.storeA [] [(32, (zB 32).map vu8)] [(32, (anD true (([1, 0, 0, 0, 0, 0, 0, 0, 0, 0, 0, 0, 0, 0, 0, 0, 0, 0, 0, 0, 0, 0, 0, 0, 0, 0, 0, 0, 0, 0, 0, 0] : List UInt8) ++ ([2, 0, 0, 0, 0, 0, 0, 0, 0, 0, 0, 0, 0, 0, 0, 0, 0, 0, 0, 0, 0, 0, 0, 0, 0, 0, 0, 0, 0, 0, 0, 0] : List UInt8)) 2 (anU true 0 ([] : Lg) (1, (zB 32), 2, [([120] : List UInt8)].flatten)) (anL true (([1, 0, 0, 0, 0, 0, 0, 0, 0, 0, 0, 0, 0, 0, 0, 0, 0, 0, 0, 0, 0, 0, 0, 0, 0, 0, 0, 0, 0, 0, 0, 0] : List UInt8) ++ ([2, 0, 0, 0, 0, 0, 0, 0, 0, 0, 0, 0, 0, 0, 0, 0, 0, 0, 0, 0, 0, 0, 0, 0, 0, 0, 0, 0, 0, 0, 0, 0] : List UInt8)) 2 0 ([] : Lg) (1, (zB 32), 2, [([120] : List UInt8)].flatten)) (1, (zB 32), 2, [([121] : List UInt8)].flatten)).map vu8)] [] h_81 rfl rfl sizeOf29 At.h (by decide) rfl rfl rfl rfl rfl rfl (sC (s8 (anD_len (rfl : List.length (([1, 0, 0, 0, 0, 0, 0, 0, 0, 0, 0, 0, 0, 0, 0, 0, 0, 0, 0, 0, 0, 0, 0, 0, 0, 0, 0, 0, 0, 0, 0, 0] : List UInt8) ++ ([2, 0, 0, 0, 0, 0, 0, 0, 0, 0, 0, 0, 0, 0, 0, 0, 0, 0, 0, 0, 0, 0, 0, 0, 0, 0, 0, 0, 0, 0, 0, 0] : List UInt8)) = 64) h32_w_74)) sN) (fun w_82 h_83 => ?_)
 refine qA (vi 0) rfl rfl ?_
 refine WL.nil (thn_n (WP.seq (WP.reg ?_)))
 refine qM (pO b_16 0) rfl rfl ?_
 refine WL.buildSl (vs := [(0, (vu8 120))]) (cs := ([120] : List UInt8).map vu8) h_83 underlying37 sizeOf5 (zv typeInfo5 rfl) rfl rfl (by kernel_rfl) rfl (one_u8 _) rfl rfl (fun b_84 w_85 h_86 => ?_)
 refine WL.convSl h_86 rfl underlying37 underlying5 At.h (by decide) rfl (fun w_87 h_88 => ?_)
 refine WL.buildSl (vs := [(0, (.slice (some ⟨b_84, 0, none⟩) 1 1))]) (cs := [(.slice (some ⟨b_84, 0, none⟩) 1 1)]) h_88 underlying82 sizeOf37 (zv typeInfo37 rfl) rfl rfl (by kernel_rfl) rfl (by simp [Value.oneCell']) rfl rfl (fun b_89 w_90 h_91 => ?_)
 have h_92 := h_91.up J1
 have h_93 := HP_blkView h_92
 have h_94 := h_93.up J1
 have h_95 := HP_blkView h_94
 have hbl_96 : ∀ b ∈ sblks [(.slice (some ⟨b_84, 0, none⟩) 1 1)], ∃ e ∈ ([.view (some ⟨b_89, 0, none⟩) [(.slice (some ⟨b_84, 0, none⟩) 1 1)], .view (some ⟨b_84, 0, none⟩) (([120] : List UInt8).map vu8), .blk b_79 .nw 29 [(32, (anD true (([1, 0, 0, 0, 0, 0, 0, 0, 0, 0, 0, 0, 0, 0, 0, 0, 0, 0, 0, 0, 0, 0, 0, 0, 0, 0, 0, 0, 0, 0, 0, 0] : List UInt8) ++ ([2, 0, 0, 0, 0, 0, 0, 0, 0, 0, 0, 0, 0, 0, 0, 0, 0, 0, 0, 0, 0, 0, 0, 0, 0, 0, 0, 0, 0, 0, 0, 0] : List UInt8)) 2 (anU true 0 ([] : Lg) (1, (List.replicate 32 (0 : UInt8)), 2, [([120] : List UInt8)].flatten)) (anL true (([1, 0, 0, 0, 0, 0, 0, 0, 0, 0, 0, 0, 0, 0, 0, 0, 0, 0, 0, 0, 0, 0, 0, 0, 0, 0, 0, 0, 0, 0, 0, 0] : List UInt8) ++ ([2, 0, 0, 0, 0, 0, 0, 0, 0, 0, 0, 0, 0, 0, 0, 0, 0, 0, 0, 0, 0, 0, 0, 0, 0, 0, 0, 0, 0, 0, 0, 0] : List UInt8)) 2 0 ([] : Lg) (1, (List.replicate 32 (0 : UInt8)), 2, [([120] : List UInt8)].flatten)) (1, (List.replicate 32 (0 : UInt8)), 2, [([121] : List UInt8)].flatten)).map vu8)], .blk b_16 .nw 66 [(1, [(.bool true)]), (32, (List.replicate 32 (0 : UInt8)).map vu8), (1, [(.slice a_18 2 c_19)]), (1, [(vi ((anU true (anU true 0 ([] : Lg) (1, (List.replicate 32 (0 : UInt8)), 2, [([120] : List UInt8)].flatten)) (anL true (([1, 0, 0, 0, 0, 0, 0, 0, 0, 0, 0, 0, 0, 0, 0, 0, 0, 0, 0, 0, 0, 0, 0, 0, 0, 0, 0, 0, 0, 0, 0, 0] : List UInt8) ++ ([2, 0, 0, 0, 0, 0, 0, 0, 0, 0, 0, 0, 0, 0, 0, 0, 0, 0, 0, 0, 0, 0, 0, 0, 0, 0, 0, 0, 0, 0, 0, 0] : List UInt8)) 2 0 ([] : Lg) (1, (List.replicate 32 (0 : UInt8)), 2, [([120] : List UInt8)].flatten)) (1, (List.replicate 32 (0 : UInt8)), 2, [([121] : List UInt8)].flatten) : Nat) : Int))]), (1, [(.map (some b_17))]), (1, [(.slice la_76 ((anL true (([1, 0, 0, 0, 0, 0, 0, 0, 0, 0, 0, 0, 0, 0, 0, 0, 0, 0, 0, 0, 0, 0, 0, 0, 0, 0, 0, 0, 0, 0, 0, 0] : List UInt8) ++ ([2, 0, 0, 0, 0, 0, 0, 0, 0, 0, 0, 0, 0, 0, 0, 0, 0, 0, 0, 0, 0, 0, 0, 0, 0, 0, 0, 0, 0, 0, 0, 0] : List UInt8)) 2 (anU true 0 ([] : Lg) (1, (List.replicate 32 (0 : UInt8)), 2, [([120] : List UInt8)].flatten)) (anL true (([1, 0, 0, 0, 0, 0, 0, 0, 0, 0, 0, 0, 0, 0, 0, 0, 0, 0, 0, 0, 0, 0, 0, 0, 0, 0, 0, 0, 0, 0, 0, 0] : List UInt8) ++ ([2, 0, 0, 0, 0, 0, 0, 0, 0, 0, 0, 0, 0, 0, 0, 0, 0, 0, 0, 0, 0, 0, 0, 0, 0, 0, 0, 0, 0, 0, 0, 0] : List UInt8)) 2 0 ([] : Lg) (1, (List.replicate 32 (0 : UInt8)), 2, [([120] : List UInt8)].flatten)) (1, (List.replicate 32 (0 : UInt8)), 2, [([121] : List UInt8)].flatten)).length) lc_77)])], .row la_76 ((anL true (([1, 0, 0, 0, 0, 0, 0, 0, 0, 0, 0, 0, 0, 0, 0, 0, 0, 0, 0, 0, 0, 0, 0, 0, 0, 0, 0, 0, 0, 0, 0, 0] : List UInt8) ++ ([2, 0, 0, 0, 0, 0, 0, 0, 0, 0, 0, 0, 0, 0, 0, 0, 0, 0, 0, 0, 0, 0, 0, 0, 0, 0, 0, 0, 0, 0, 0, 0] : List UInt8)) 2 (anU true 0 ([] : Lg) (1, (List.replicate 32 (0 : UInt8)), 2, [([120] : List UInt8)].flatten)) (anL true (([1, 0, 0, 0, 0, 0, 0, 0, 0, 0, 0, 0, 0, 0, 0, 0, 0, 0, 0, 0, 0, 0, 0, 0, 0, 0, 0, 0, 0, 0, 0, 0] : List UInt8) ++ ([2, 0, 0, 0, 0, 0, 0, 0, 0, 0, 0, 0, 0, 0, 0, 0, 0, 0, 0, 0, 0, 0, 0, 0, 0, 0, 0, 0, 0, 0, 0, 0] : List UInt8)) 2 0 ([] : Lg) (1, (List.replicate 32 (0 : UInt8)), 2, [([120] : List UInt8)].flatten)) (1, (List.replicate 32 (0 : UInt8)), 2, [([121] : List UInt8)].flatten)).length) lc_77 47 67 lx_78, .obj b_17 .nw (.map (mArr (anL true (([1, 0, 0, 0, 0, 0, 0, 0, 0, 0, 0, 0, 0, 0, 0, 0, 0, 0, 0, 0, 0, 0, 0, 0, 0, 0, 0, 0, 0, 0, 0, 0] : List UInt8) ++ ([2, 0, 0, 0, 0, 0, 0, 0, 0, 0, 0, 0, 0, 0, 0, 0, 0, 0, 0, 0, 0, 0, 0, 0, 0, 0, 0, 0, 0, 0, 0, 0] : List UInt8)) 2 (anU true 0 ([] : Lg) (1, (List.replicate 32 (0 : UInt8)), 2, [([120] : List UInt8)].flatten)) (anL true (([1, 0, 0, 0, 0, 0, 0, 0, 0, 0, 0, 0, 0, 0, 0, 0, 0, 0, 0, 0, 0, 0, 0, 0, 0, 0, 0, 0, 0, 0, 0, 0] : List UInt8) ++ ([2, 0, 0, 0, 0, 0, 0, 0, 0, 0, 0, 0, 0, 0, 0, 0, 0, 0, 0, 0, 0, 0, 0, 0, 0, 0, 0, 0, 0, 0, 0, 0] : List UInt8)) 2 0 ([] : Lg) (1, (List.replicate 32 (0 : UInt8)), 2, [([120] : List UInt8)].flatten)) (1, (List.replicate 32 (0 : UInt8)), 2, [([121] : List UInt8)].flatten))) ((anL true (([1, 0, 0, 0, 0, 0, 0, 0, 0, 0, 0, 0, 0, 0, 0, 0, 0, 0, 0, 0, 0, 0, 0, 0, 0, 0, 0, 0, 0, 0, 0, 0] : List UInt8) ++ ([2, 0, 0, 0, 0, 0, 0, 0, 0, 0, 0, 0, 0, 0, 0, 0, 0, 0, 0, 0, 0, 0, 0, 0, 0, 0, 0, 0, 0, 0, 0, 0] : List UInt8)) 2 (anU true 0 ([] : Lg) (1, (List.replicate 32 (0 : UInt8)), 2, [([120] : List UInt8)].flatten)) (anL true (([1, 0, 0, 0, 0, 0, 0, 0, 0, 0, 0, 0, 0, 0, 0, 0, 0, 0, 0, 0, 0, 0, 0, 0, 0, 0, 0, 0, 0, 0, 0, 0] : List UInt8) ++ ([2, 0, 0, 0, 0, 0, 0, 0, 0, 0, 0, 0, 0, 0, 0, 0, 0, 0, 0, 0, 0, 0, 0, 0, 0, 0, 0, 0, 0, 0, 0, 0] : List UInt8)) 2 0 ([] : Lg) (1, (List.replicate 32 (0 : UInt8)), 2, [([120] : List UInt8)].flatten)) (1, (List.replicate 32 (0 : UInt8)), 2, [([121] : List UInt8)].flatten)).length)), .pin (sblks lx_78) (fun w => Lgs w lx_78 (anL true (([1, 0, 0, 0, 0, 0, 0, 0, 0, 0, 0, 0, 0, 0, 0, 0, 0, 0, 0, 0, 0, 0, 0, 0, 0, 0, 0, 0, 0, 0, 0, 0] : List UInt8) ++ ([2, 0, 0, 0, 0, 0, 0, 0, 0, 0, 0, 0, 0, 0, 0, 0, 0, 0, 0, 0, 0, 0, 0, 0, 0, 0, 0, 0, 0, 0, 0, 0] : List UInt8)) 2 (anU true 0 ([] : Lg) (1, (List.replicate 32 (0 : UInt8)), 2, [([120] : List UInt8)].flatten)) (anL true (([1, 0, 0, 0, 0, 0, 0, 0, 0, 0, 0, 0, 0, 0, 0, 0, 0, 0, 0, 0, 0, 0, 0, 0, 0, 0, 0, 0, 0, 0, 0, 0] : List UInt8) ++ ([2, 0, 0, 0, 0, 0, 0, 0, 0, 0, 0, 0, 0, 0, 0, 0, 0, 0, 0, 0, 0, 0, 0, 0, 0, 0, 0, 0, 0, 0, 0, 0] : List UInt8)) 2 0 ([] : Lg) (1, (List.replicate 32 (0 : UInt8)), 2, [([120] : List UInt8)].flatten)) (1, (List.replicate 32 (0 : UInt8)), 2, [([121] : List UInt8)].flatten))), .view a_18 ((([1, 0, 0, 0, 0, 0, 0, 0, 0, 0, 0, 0, 0, 0, 0, 0, 0, 0, 0, 0, 0, 0, 0, 0, 0, 0, 0, 0, 0, 0, 0, 0] : List UInt8) ++ ([2, 0, 0, 0, 0, 0, 0, 0, 0, 0, 0, 0, 0, 0, 0, 0, 0, 0, 0, 0, 0, 0, 0, 0, 0, 0, 0, 0, 0, 0, 0, 0] : List UInt8)).map vu8), .pin (sblks [(.slice (some ⟨b_53, 0, none⟩) 1 1)]) (fun w => Sls w [(.slice (some ⟨b_53, 0, none⟩) 1 1)] [([121] : List UInt8)]), .view (some ⟨b_58, 0, none⟩) [(.slice (some ⟨b_53, 0, none⟩) 1 1)], .view (some ⟨b_53, 0, none⟩) (([121] : List UInt8).map vu8), .blk b_48 .nw 29 [(32, (anD true (([1, 0, 0, 0, 0, 0, 0, 0, 0, 0, 0, 0, 0, 0, 0, 0, 0, 0, 0, 0, 0, 0, 0, 0, 0, 0, 0, 0, 0, 0, 0, 0] : List UInt8) ++ ([2, 0, 0, 0, 0, 0, 0, 0, 0, 0, 0, 0, 0, 0, 0, 0, 0, 0, 0, 0, 0, 0, 0, 0, 0, 0, 0, 0, 0, 0, 0, 0] : List UInt8)) 2 0 ([] : Lg) (1, (List.replicate 32 (0 : UInt8)), 2, [([120] : List UInt8)].flatten)).map vu8)], .pin (sblks [(.slice (some ⟨b_22, 0, none⟩) 1 1)]) (fun w => Sls w [(.slice (some ⟨b_22, 0, none⟩) 1 1)] [([120] : List UInt8)]), .view (some ⟨b_27, 0, none⟩) [(.slice (some ⟨b_22, 0, none⟩) 1 1)], .view (some ⟨b_22, 0, none⟩) (([120] : List UInt8).map vu8), .view (some ⟨b_11, 0, none⟩) ((([1, 0, 0, 0, 0, 0, 0, 0, 0, 0, 0, 0, 0, 0, 0, 0, 0, 0, 0, 0, 0, 0, 0, 0, 0, 0, 0, 0, 0, 0, 0, 0] : List UInt8) ++ ([2, 0, 0, 0, 0, 0, 0, 0, 0, 0, 0, 0, 0, 0, 0, 0, 0, 0, 0, 0, 0, 0, 0, 0, 0, 0, 0, 0, 0, 0, 0, 0] : List UInt8)).map vu8), .blk b_4 .nw 29 [(32, ([2, 0, 0, 0, 0, 0, 0, 0, 0, 0, 0, 0, 0, 0, 0, 0, 0, 0, 0, 0, 0, 0, 0, 0, 0, 0, 0, 0, 0, 0, 0, 0] : List UInt8).map vu8)], .blk b_1 .nw 29 [(32, ([1, 0, 0, 0, 0, 0, 0, 0, 0, 0, 0, 0, 0, 0, 0, 0, 0, 0, 0, 0, 0, 0, 0, 0, 0, 0, 0, 0, 0, 0, 0, 0] : List UInt8).map vu8)]] : List Ent), e.mut = false ∧ b ∈ e.blocks := by
  intro b hb
  rcases List.mem_append.1 hb with hb | hb
  ·exact ⟨_, M1, rfl, sblk_in_view (rfl : List.length ([120] : List UInt8) = 1) b hb⟩
  cases hb
 have h_97 := HP_within (e' := .pin (sblks [(.slice (some ⟨b_84, 0, none⟩) 1 1)]) (fun w => Sls w [(.slice (some ⟨b_84, 0, none⟩) 1 1)] [([120] : List UInt8)])) h_95 (Sls.pin (Sls.cons (rfl : List.length ([120] : List UInt8) = 1) (by decide) (viewV (h_95.ok _ M1)) Sls.nil)) rfl rfl hbl_96
 have h_104 := ((((((h_97.up J1).up J1).up J8).up J8).up J8).up J8).up J8
 have h32_w_105 := Lgs.ok32 (h_104.ok _ M3).1
 refine WL.call Tryz.call17 rfl rfl (c_oDigestI b_16 b_17 (zB 32) (([1, 0, 0, 0, 0, 0, 0, 0, 0, 0, 0, 0, 0, 0, 0, 0, 0, 0, 0, 0, 0, 0, 0, 0, 0, 0, 0, 0, 0, 0, 0, 0] : List UInt8) ++ ([2, 0, 0, 0, 0, 0, 0, 0, 0, 0, 0, 0, 0, 0, 0, 0, 0, 0, 0, 0, 0, 0, 0, 0, 0, 0, 0, 0, 0, 0, 0, 0] : List UInt8)) lr a_18 2 c_19 (anU true (anU true 0 ([] : Lg) (1, (zB 32), 2, [([120] : List UInt8)].flatten)) (anL true (([1, 0, 0, 0, 0, 0, 0, 0, 0, 0, 0, 0, 0, 0, 0, 0, 0, 0, 0, 0, 0, 0, 0, 0, 0, 0, 0, 0, 0, 0, 0, 0] : List UInt8) ++ ([2, 0, 0, 0, 0, 0, 0, 0, 0, 0, 0, 0, 0, 0, 0, 0, 0, 0, 0, 0, 0, 0, 0, 0, 0, 0, 0, 0, 0, 0, 0, 0] : List UInt8)) 2 0 ([] : Lg) (1, (zB 32), 2, [([120] : List UInt8)].flatten)) (1, (zB 32), 2, [([121] : List UInt8)].flatten)) (rfl : List.length (([1, 0, 0, 0, 0, 0, 0, 0, 0, 0, 0, 0, 0, 0, 0, 0, 0, 0, 0, 0, 0, 0, 0, 0, 0, 0, 0, 0, 0, 0, 0, 0] : List UInt8) ++ ([2, 0, 0, 0, 0, 0, 0, 0, 0, 0, 0, 0, 0, 0, 0, 0, 0, 0, 0, 0, 0, 0, 0, 0, 0, 0, 0, 0, 0, 0, 0, 0] : List UInt8)) = 64) la_76 lc_77 lx_78 (anL true (([1, 0, 0, 0, 0, 0, 0, 0, 0, 0, 0, 0, 0, 0, 0, 0, 0, 0, 0, 0, 0, 0, 0, 0, 0, 0, 0, 0, 0, 0, 0, 0] : List UInt8) ++ ([2, 0, 0, 0, 0, 0, 0, 0, 0, 0, 0, 0, 0, 0, 0, 0, 0, 0, 0, 0, 0, 0, 0, 0, 0, 0, 0, 0, 0, 0, 0, 0] : List UInt8)) 2 (anU true 0 ([] : Lg) (1, (zB 32), 2, [([120] : List UInt8)].flatten)) (anL true (([1, 0, 0, 0, 0, 0, 0, 0, 0, 0, 0, 0, 0, 0, 0, 0, 0, 0, 0, 0, 0, 0, 0, 0, 0, 0, 0, 0, 0, 0, 0, 0] : List UInt8) ++ ([2, 0, 0, 0, 0, 0, 0, 0, 0, 0, 0, 0, 0, 0, 0, 0, 0, 0, 0, 0, 0, 0, 0, 0, 0, 0, 0, 0, 0, 0, 0, 0] : List UInt8)) 2 0 ([] : Lg) (1, (zB 32), 2, [([120] : List UInt8)].flatten)) (1, (zB 32), 2, [([121] : List UInt8)].flatten)) (by decide +kernel) (by decide +kernel) (some ⟨b_89, 0, none⟩) 1 1 [(.slice (some ⟨b_84, 0, none⟩) 1 1)] [([120] : List UInt8)] rfl 2 (by decide) (by decide +kernel) (by omega) _ h_104) rfl ?_
 rintro _ w_105 ⟨la_107, lc_108, lx_109, rfl, h_106⟩
 refine qM (.tuple [(.agg ⟨(anD true (([1, 0, 0, 0, 0, 0, 0, 0, 0, 0, 0, 0, 0, 0, 0, 0, 0, 0, 0, 0, 0, 0, 0, 0, 0, 0, 0, 0, 0, 0, 0, 0] : List UInt8) ++ ([2, 0, 0, 0, 0, 0, 0, 0, 0, 0, 0, 0, 0, 0, 0, 0, 0, 0, 0, 0, 0, 0, 0, 0, 0, 0, 0, 0, 0, 0, 0, 0] : List UInt8)) 2 (anU true (anU true 0 ([] : Lg) (1, (zB 32), 2, [([120] : List UInt8)].flatten)) (anL true (([1, 0, 0, 0, 0, 0, 0, 0, 0, 0, 0, 0, 0, 0, 0, 0, 0, 0, 0, 0, 0, 0, 0, 0, 0, 0, 0, 0, 0, 0, 0, 0] : List UInt8) ++ ([2, 0, 0, 0, 0, 0, 0, 0, 0, 0, 0, 0, 0, 0, 0, 0, 0, 0, 0, 0, 0, 0, 0, 0, 0, 0, 0, 0, 0, 0, 0, 0] : List UInt8)) 2 0 ([] : Lg) (1, (zB 32), 2, [([120] : List UInt8)].flatten)) (1, (zB 32), 2, [([121] : List UInt8)].flatten)) (anL true (([1, 0, 0, 0, 0, 0, 0, 0, 0, 0, 0, 0, 0, 0, 0, 0, 0, 0, 0, 0, 0, 0, 0, 0, 0, 0, 0, 0, 0, 0, 0, 0] : List UInt8) ++ ([2, 0, 0, 0, 0, 0, 0, 0, 0, 0, 0, 0, 0, 0, 0, 0, 0, 0, 0, 0, 0, 0, 0, 0, 0, 0, 0, 0, 0, 0, 0, 0] : List UInt8)) 2 (anU true 0 ([] : Lg) (1, (zB 32), 2, [([120] : List UInt8)].flatten)) (anL true (([1, 0, 0, 0, 0, 0, 0, 0, 0, 0, 0, 0, 0, 0, 0, 0, 0, 0, 0, 0, 0, 0, 0, 0, 0, 0, 0, 0, 0, 0, 0, 0] : List UInt8) ++ ([2, 0, 0, 0, 0, 0, 0, 0, 0, 0, 0, 0, 0, 0, 0, 0, 0, 0, 0, 0, 0, 0, 0, 0, 0, 0, 0, 0, 0, 0, 0, 0] : List UInt8)) 2 0 ([] : Lg) (1, (zB 32), 2, [([120] : List UInt8)].flatten)) (1, (zB 32), 2, [([121] : List UInt8)].flatten)) (1, (zB 32), 2, [([120] : List UInt8)].flatten)).map vu8⟩), (vi 0)].toArray) rfl rfl (qV rfl (R.extract rfl rfl) (qV rfl (R.extract rfl rfl) ?_))
 refine WL.alloc (segs := [(32, (zB 32).map vu8)]) h_106 (zv typeInfo29 rfl) rfl (sC (s8 lr) sN) rfl (fun b_110 w_111 h_112 => ?_)
 refine WL.storeA [] [(32, (zB 32).map vu8)] [(32, (anD true (([1, 0, 0, 0, 0, 0, 0, 0, 0, 0, 0, 0, 0, 0, 0, 0, 0, 0, 0, 0, 0, 0, 0, 0, 0, 0, 0, 0, 0, 0, 0, 0] : List UInt8) ++ ([2, 0, 0, 0, 0, 0, 0, 0, 0, 0, 0, 0, 0, 0, 0, 0, 0, 0, 0, 0, 0, 0, 0, 0, 0, 0, 0, 0, 0, 0, 0, 0] : List UInt8)) 2 (anU true (anU true 0 ([] : Lg) (1, (zB 32), 2, [([120] : List UInt8)].flatten)) (anL true (([1, 0, 0, 0, 0, 0, 0, 0, 0, 0, 0, 0, 0, 0, 0, 0, 0, 0, 0, 0, 0, 0, 0, 0, 0, 0, 0, 0, 0, 0, 0, 0] : List UInt8) ++ ([2, 0, 0, 0, 0, 0, 0, 0, 0, 0, 0, 0, 0, 0, 0, 0, 0, 0, 0, 0, 0, 0, 0, 0, 0, 0, 0, 0, 0, 0, 0, 0] : List UInt8)) 2 0 ([] : Lg) (1, (zB 32), 2, [([120] : List UInt8)].flatten)) (1, (zB 32), 2, [([121] : List UInt8)].flatten)) (anL true (([1, 0, 0, 0, 0, 0, 0, 0, 0, 0, 0, 0, 0, 0, 0, 0, 0, 0, 0, 0, 0, 0, 0, 0, 0, 0, 0, 0, 0, 0, 0, 0] : List UInt8) ++ ([2, 0, 0, 0, 0, 0, 0, 0, 0, 0, 0, 0, 0, 0, 0, 0, 0, 0, 0, 0, 0, 0, 0, 0, 0, 0, 0, 0, 0, 0, 0, 0] : List UInt8)) 2 (anU true 0 ([] : Lg) (1, (zB 32), 2, [([120] : List UInt8)].flatten)) (anL true (([1, 0, 0, 0, 0, 0, 0, 0, 0, 0, 0, 0, 0, 0, 0, 0, 0, 0, 0, 0, 0, 0, 0, 0, 0, 0, 0, 0, 0, 0, 0, 0] : List UInt8) ++ ([2, 0, 0, 0, 0, 0, 0, 0, 0, 0, 0, 0, 0, 0, 0, 0, 0, 0, 0, 0, 0, 0, 0, 0, 0, 0, 0, 0, 0, 0, 0, 0] : List UInt8)) 2 0 ([] : Lg) (1, (zB 32), 2, [([120] : List UInt8)].flatten)) (1, (zB 32), 2, [([121] : List UInt8)].flatten)) (1, (zB 32), 2, [([120] : List UInt8)].flatten)).map vu8)] [] h_112 rfl rfl sizeOf29 At.h (by decide) rfl rfl rfl rfl rfl rfl (sC (s8 (anD_len (rfl : List.length (([1, 0, 0, 0, 0, 0, 0, 0, 0, 0, 0, 0, 0, 0, 0, 0, 0, 0, 0, 0, 0, 0, 0, 0, 0, 0, 0, 0, 0, 0, 0, 0] : List UInt8) ++ ([2, 0, 0, 0, 0, 0, 0, 0, 0, 0, 0, 0, 0, 0, 0, 0, 0, 0, 0, 0, 0, 0, 0, 0, 0, 0, 0, 0, 0, 0, 0, 0] : List UInt8)) = 64) h32_w_105)) sN) (fun w_113 h_114 => ?_)
 refine qA (vi 0) rfl rfl ?_
 refine WL.nil (thn_n (WP.seq (WP.reg ?_)))
 refine qM (pO b_16 0) rfl rfl ?_
 refine WL.buildSl (vs := [(0, (vu8 120))]) (cs := ([120] : List UInt8).map vu8) h_114 underlying37 sizeOf5 (zv typeInfo5 rfl) rfl rfl (by kernel_rfl) rfl (one_u8 _) rfl rfl (fun b_115 w_116 h_117 => ?_)
 refine WL.convSl h_117 rfl underlying37 underlying5 At.h (by decide) rfl (fun w_118 h_119 => ?_)
 refine WL.buildSl (vs := [(0, (.slice (some ⟨b_115, 0, none⟩) 1 1))]) (cs := [(.slice (some ⟨b_115, 0, none⟩) 1 1)]) h_119 underlying82 sizeOf37 (zv typeInfo37 rfl) rfl rfl (by kernel_rfl) rfl (by simp [Value.oneCell']) rfl rfl (fun b_120 w_121 h_122 => ?_)
 have h_123 := h_122.up J1
 have h_124 := HP_blkView h_123
 have h_125 := h_124.up J1
 have h_126 := HP_blkView h_125
 have hbl_127 : ∀ b ∈ sblks [(.slice (some ⟨b_115, 0, none⟩) 1 1)], ∃ e ∈ ([.view (some ⟨b_120, 0, none⟩) [(.slice (some ⟨b_115, 0, none⟩) 1 1)], .view (some ⟨b_115, 0, none⟩) (([120] : List UInt8).map vu8), .blk b_110 .nw 29 [(32, (anD true (([1, 0, 0, 0, 0, 0, 0, 0, 0, 0, 0, 0, 0, 0, 0, 0, 0, 0, 0, 0, 0, 0, 0, 0, 0, 0, 0, 0, 0, 0, 0, 0] : List UInt8) ++ ([2, 0, 0, 0, 0, 0, 0, 0, 0, 0, 0, 0, 0, 0, 0, 0, 0, 0, 0, 0, 0, 0, 0, 0, 0, 0, 0, 0, 0, 0, 0, 0] : List UInt8)) 2 (anU true (anU true 0 ([] : Lg) (1, (List.replicate 32 (0 : UInt8)), 2, [([120] : List UInt8)].flatten)) (anL true (([1, 0, 0, 0, 0, 0, 0, 0, 0, 0, 0, 0, 0, 0, 0, 0, 0, 0, 0, 0, 0, 0, 0, 0, 0, 0, 0, 0, 0, 0, 0, 0] : List UInt8) ++ ([2, 0, 0, 0, 0, 0, 0, 0, 0, 0, 0, 0, 0, 0, 0, 0, 0, 0, 0, 0, 0, 0, 0, 0, 0, 0, 0, 0, 0, 0, 0, 0] : List UInt8)) 2 0 ([] : Lg) (1, (List.replicate 32 (0 : UInt8)), 2, [([120] : List UInt8)].flatten)) (1, (List.replicate 32 (0 : UInt8)), 2, [([121] : List UInt8)].flatten)) (anL true (([1, 0, 0, 0, 0, 0, 0, 0, 0, 0, 0, 0, 0, 0, 0, 0, 0, 0, 0, 0, 0, 0, 0, 0, 0, 0, 0, 0, 0, 0, 0, 0] : List UInt8) ++ ([2, 0, 0, 0, 0, 0, 0, 0, 0, 0, 0, 0, 0, 0, 0, 0, 0, 0, 0, 0, 0, 0, 0, 0, 0, 0, 0, 0, 0, 0, 0, 0] : List UInt8)) 2 (anU true 0 ([] : Lg) (1, (List.replicate 32 (0 : UInt8)), 2, [([120] : List UInt8)].flatten)) (anL true (([1, 0, 0, 0, 0, 0, 0, 0, 0, 0, 0, 0, 0, 0, 0, 0, 0, 0, 0, 0, 0, 0, 0, 0, 0, 0, 0, 0, 0, 0, 0, 0] : List UInt8) ++ ([2, 0, 0, 0, 0, 0, 0, 0, 0, 0, 0, 0, 0, 0, 0, 0, 0, 0, 0, 0, 0, 0, 0, 0, 0, 0, 0, 0, 0, 0, 0, 0] : List UInt8)) 2 0 ([] : Lg) (1, (List.replicate 32 (0 : UInt8)), 2, [([120] : List UInt8)].flatten)) (1, (List.replicate 32 (0 : UInt8)), 2, [([121] : List UInt8)].flatten)) (1, (List.replicate 32 (0 : UInt8)), 2, [([120] : List UInt8)].flatten)).map vu8)], .blk b_16 .nw 66 [(1, [(.bool true)]), (32, (List.replicate 32 (0 : UInt8)).map vu8), (1, [(.slice a_18 2 c_19)]), (1, [(vi ((anU true (anU true (anU true 0 ([] : Lg) (1, (List.replicate 32 (0 : UInt8)), 2, [([120] : List UInt8)].flatten)) (anL true (([1, 0, 0, 0, 0, 0, 0, 0, 0, 0, 0, 0, 0, 0, 0, 0, 0, 0, 0, 0, 0, 0, 0, 0, 0, 0, 0, 0, 0, 0, 0, 0] : List UInt8) ++ ([2, 0, 0, 0, 0, 0, 0, 0, 0, 0, 0, 0, 0, 0, 0, 0, 0, 0, 0, 0, 0, 0, 0, 0, 0, 0, 0, 0, 0, 0, 0, 0] : List UInt8)) 2 0 ([] : Lg) (1, (List.replicate 32 (0 : UInt8)), 2, [([120] : List UInt8)].flatten)) (1, (List.replicate 32 (0 : UInt8)), 2, [([121] : List UInt8)].flatten)) (anL true (([1, 0, 0, 0, 0, 0, 0, 0, 0, 0, 0, 0, 0, 0, 0, 0, 0, 0, 0, 0, 0, 0, 0, 0, 0, 0, 0, 0, 0, 0, 0, 0] : List UInt8) ++ ([2, 0, 0, 0, 0, 0, 0, 0, 0, 0, 0, 0, 0, 0, 0, 0, 0, 0, 0, 0, 0, 0, 0, 0, 0, 0, 0, 0, 0, 0, 0, 0] : List UInt8)) 2 (anU true 0 ([] : Lg) (1, (List.replicate 32 (0 : UInt8)), 2, [([120] : List UInt8)].flatten)) (anL true (([1, 0, 0, 0, 0, 0, 0, 0, 0, 0, 0, 0, 0, 0, 0, 0, 0, 0, 0, 0, 0, 0, 0, 0, 0, 0, 0, 0, 0, 0, 0, 0] : List UInt8) ++ ([2, 0, 0, 0, 0, 0, 0, 0, 0, 0, 0, 0, 0, 0, 0, 0, 0, 0, 0, 0, 0, 0, 0, 0, 0, 0, 0, 0, 0, 0, 0, 0] : List UInt8)) 2 0 ([] : Lg) (1, (List.replicate 32 (0 : UInt8)), 2, [([120] : List UInt8)].flatten)) (1, (List.replicate 32 (0 : UInt8)), 2, [([121] : List UInt8)].flatten)) (1, (List.replicate 32 (0 : UInt8)), 2, [([120] : List UInt8)].flatten) : Nat) : Int))]), (1, [(.map (some b_17))]), (1, [(.slice la_107 ((anL true (([1, 0, 0, 0, 0, 0, 0, 0, 0, 0, 0, 0, 0, 0, 0, 0, 0, 0, 0, 0, 0, 0, 0, 0, 0, 0, 0, 0, 0, 0, 0, 0] : List UInt8) ++ ([2, 0, 0, 0, 0, 0, 0, 0, 0, 0, 0, 0, 0, 0, 0, 0, 0, 0, 0, 0, 0, 0, 0, 0, 0, 0, 0, 0, 0, 0, 0, 0] : List UInt8)) 2 (anU true (anU true 0 ([] : Lg) (1, (List.replicate 32 (0 : UInt8)), 2, [([120] : List UInt8)].flatten)) (anL true (([1, 0, 0, 0, 0, 0, 0, 0, 0, 0, 0, 0, 0, 0, 0, 0, 0, 0, 0, 0, 0, 0, 0, 0, 0, 0, 0, 0, 0, 0, 0, 0] : List UInt8) ++ ([2, 0, 0, 0, 0, 0, 0, 0, 0, 0, 0, 0, 0, 0, 0, 0, 0, 0, 0, 0, 0, 0, 0, 0, 0, 0, 0, 0, 0, 0, 0, 0] : List UInt8)) 2 0 ([] : Lg) (1, (List.replicate 32 (0 : UInt8)), 2, [([120] : List UInt8)].flatten)) (1, (List.replicate 32 (0 : UInt8)), 2, [([121] : List UInt8)].flatten)) (anL true (([1, 0, 0, 0, 0, 0, 0, 0, 0, 0, 0, 0, 0, 0, 0, 0, 0, 0, 0, 0, 0, 0, 0, 0, 0, 0, 0, 0, 0, 0, 0, 0] : List UInt8) ++ ([2, 0, 0, 0, 0, 0, 0, 0, 0, 0, 0, 0, 0, 0, 0, 0, 0, 0, 0, 0, 0, 0, 0, 0, 0, 0, 0, 0, 0, 0, 0, 0] : List UInt8)) 2 (anU true 0 ([] : Lg) (1, (List.replicate 32 (0 : UInt8)), 2, [([120] : List UInt8)].flatten)) (anL true (([1, 0, 0, 0, 0, 0, 0, 0, 0, 0, 0, 0, 0, 0, 0, 0, 0, 0, 0, 0, 0, 0, 0, 0, 0, 0, 0, 0, 0, 0, 0, 0] : List UInt8) ++ ([2, 0, 0, 0, 0, 0, 0, 0, 0, 0, 0, 0, 0, 0, 0, 0, 0, 0, 0, 0, 0, 0, 0, 0, 0, 0, 0, 0, 0, 0, 0, 0] : List UInt8)) 2 0 ([] : Lg) (1, (List.replicate 32 (0 : UInt8)), 2, [([120] : List UInt8)].flatten)) (1, (List.replicate 32 (0 : UInt8)), 2, [([121] : List UInt8)].flatten)) (1, (List.replicate 32 (0 : UInt8)), 2, [([120] : List UInt8)].flatten)).length) lc_108)])], .row la_107 ((anL true (([1, 0, 0, 0, 0, 0, 0, 0, 0, 0, 0, 0, 0, 0, 0, 0, 0, 0, 0, 0, 0, 0, 0, 0, 0, 0, 0, 0, 0, 0, 0, 0] : List UInt8) ++ ([2, 0, 0, 0, 0, 0, 0, 0, 0, 0, 0, 0, 0, 0, 0, 0, 0, 0, 0, 0, 0, 0, 0, 0, 0, 0, 0, 0, 0, 0, 0, 0] : List UInt8)) 2 (anU true (anU true 0 ([] : Lg) (1, (List.replicate 32 (0 : UInt8)), 2, [([120] : List UInt8)].flatten)) (anL true (([1, 0, 0, 0, 0, 0, 0, 0, 0, 0, 0, 0, 0, 0, 0, 0, 0, 0, 0, 0, 0, 0, 0, 0, 0, 0, 0, 0, 0, 0, 0, 0] : List UInt8) ++ ([2, 0, 0, 0, 0, 0, 0, 0, 0, 0, 0, 0, 0, 0, 0, 0, 0, 0, 0, 0, 0, 0, 0, 0, 0, 0, 0, 0, 0, 0, 0, 0] : List UInt8)) 2 0 ([] : Lg) (1, (List.replicate 32 (0 : UInt8)), 2, [([120] : List UInt8)].flatten)) (1, (List.replicate 32 (0 : UInt8)), 2, [([121] : List UInt8)].flatten)) (anL true (([1, 0, 0, 0, 0, 0, 0, 0, 0, 0, 0, 0, 0, 0, 0, 0, 0, 0, 0, 0, 0, 0, 0, 0, 0, 0, 0, 0, 0, 0, 0, 0] : List UInt8) ++ ([2, 0, 0, 0, 0, 0, 0, 0, 0, 0, 0, 0, 0, 0, 0, 0, 0, 0, 0, 0, 0, 0, 0, 0, 0, 0, 0, 0, 0, 0, 0, 0] : List UInt8)) 2 (anU true 0 ([] : Lg) (1, (List.replicate 32 (0 : UInt8)), 2, [([120] : List UInt8)].flatten)) (anL true (([1, 0, 0, 0, 0, 0, 0, 0, 0, 0, 0, 0, 0, 0, 0, 0, 0, 0, 0, 0, 0, 0, 0, 0, 0, 0, 0, 0, 0, 0, 0, 0] : List UInt8) ++ ([2, 0, 0, 0, 0, 0, 0, 0, 0, 0, 0, 0, 0, 0, 0, 0, 0, 0, 0, 0, 0, 0, 0, 0, 0, 0, 0, 0, 0, 0, 0, 0] : List UInt8)) 2 0 ([] : Lg) (1, (List.replicate 32 (0 : UInt8)), 2, [([120] : List UInt8)].flatten)) (1, (List.replicate 32 (0 : UInt8)), 2, [([121] : List UInt8)].flatten)) (1, (List.replicate 32 (0 : UInt8)), 2, [([120] : List UInt8)].flatten)).length) lc_108 47 67 lx_109, .obj b_17 .nw (.map (mArr (anL true (([1, 0, 0, 0, 0, 0, 0, 0, 0, 0, 0, 0, 0, 0, 0, 0, 0, 0, 0, 0, 0, 0, 0, 0, 0, 0, 0, 0, 0, 0, 0, 0] : List UInt8) ++ ([2, 0, 0, 0, 0, 0, 0, 0, 0, 0, 0, 0, 0, 0, 0, 0, 0, 0, 0, 0, 0, 0, 0, 0, 0, 0, 0, 0, 0, 0, 0, 0] : List UInt8)) 2 (anU true (anU true 0 ([] : Lg) (1, (List.replicate 32 (0 : UInt8)), 2, [([120] : List UInt8)].flatten)) (anL true (([1, 0, 0, 0, 0, 0, 0, 0, 0, 0, 0, 0, 0, 0, 0, 0, 0, 0, 0, 0, 0, 0, 0, 0, 0, 0, 0, 0, 0, 0, 0, 0] : List UInt8) ++ ([2, 0, 0, 0, 0, 0, 0, 0, 0, 0, 0, 0, 0, 0, 0, 0, 0, 0, 0, 0, 0, 0, 0, 0, 0, 0, 0, 0, 0, 0, 0, 0] : List UInt8)) 2 0 ([] : Lg) (1, (List.replicate 32 (0 : UInt8)), 2, [([120] : List UInt8)].flatten)) (1, (List.replicate 32 (0 : UInt8)), 2, [([121] : List UInt8)].flatten)) (anL true (([1, 0, 0, 0, 0, 0, 0, 0, 0, 0, 0, 0, 0, 0, 0, 0, 0, 0, 0, 0, 0, 0, 0, 0, 0, 0, 0, 0, 0, 0, 0, 0] : List UInt8) ++ ([2, 0, 0, 0, 0, 0, 0, 0, 0, 0, 0, 0, 0, 0, 0, 0, 0, 0, 0, 0, 0, 0, 0, 0, 0, 0, 0, 0, 0, 0, 0, 0] : List UInt8)) 2 (anU true 0 ([] : Lg) (1, (List.replicate 32 (0 : UInt8)), 2, [([120] : List UInt8)].flatten)) (anL true (([1, 0, 0, 0, 0, 0, 0, 0, 0, 0, 0, 0, 0, 0, 0, 0, 0, 0, 0, 0, 0, 0, 0, 0, 0, 0, 0, 0, 0, 0, 0, 0] : List UInt8) ++ ([2, 0, 0, 0, 0, 0, 0, 0, 0, 0, 0, 0, 0, 0, 0, 0, 0, 0, 0, 0, 0, 0, 0, 0, 0, 0, 0, 0, 0, 0, 0, 0] : List UInt8)) 2 0 ([] : Lg) (1, (List.replicate 32 (0 : UInt8)), 2, [([120] : List UInt8)].flatten)) (1, (List.replicate 32 (0 : UInt8)), 2, [([121] : List UInt8)].flatten)) (1, (List.replicate 32 (0 : UInt8)), 2, [([120] : List UInt8)].flatten))) ((anL true (([1, 0, 0, 0, 0, 0, 0, 0, 0, 0, 0, 0, 0, 0, 0, 0, 0, 0, 0, 0, 0, 0, 0, 0, 0, 0, 0, 0, 0, 0, 0, 0] : List UInt8) ++ ([2, 0, 0, 0, 0, 0, 0, 0, 0, 0, 0, 0, 0, 0, 0, 0, 0, 0, 0, 0, 0, 0, 0, 0, 0, 0, 0, 0, 0, 0, 0, 0] : List UInt8)) 2 (anU true (anU true 0 ([] : Lg) (1, (List.replicate 32 (0 : UInt8)), 2, [([120] : List UInt8)].flatten)) (anL true (([1, 0, 0, 0, 0, 0, 0, 0, 0, 0, 0, 0, 0, 0, 0, 0, 0, 0, 0, 0, 0, 0, 0, 0, 0, 0, 0, 0, 0, 0, 0, 0] : List UInt8) ++ ([2, 0, 0, 0, 0, 0, 0, 0, 0, 0, 0, 0, 0, 0, 0, 0, 0, 0, 0, 0, 0, 0, 0, 0, 0, 0, 0, 0, 0, 0, 0, 0] : List UInt8)) 2 0 ([] : Lg) (1, (List.replicate 32 (0 : UInt8)), 2, [([120] : List UInt8)].flatten)) (1, (List.replicate 32 (0 : UInt8)), 2, [([121] : List UInt8)].flatten)) (anL true (([1, 0, 0, 0, 0, 0, 0, 0, 0, 0, 0, 0, 0, 0, 0, 0, 0, 0, 0, 0, 0, 0, 0, 0, 0, 0, 0, 0, 0, 0, 0, 0] : List UInt8) ++ ([2, 0, 0, 0, 0, 0, 0, 0, 0, 0, 0, 0, 0, 0, 0, 0, 0, 0, 0, 0, 0, 0, 0, 0, 0, 0, 0, 0, 0, 0, 0, 0] : List UInt8)) 2 (anU true 0 ([] : Lg) (1, (List.replicate 32 (0 : UInt8)), 2, [([120] : List UInt8)].flatten)) (anL true (([1, 0, 0, 0, 0, 0, 0, 0, 0, 0, 0, 0, 0, 0, 0, 0, 0, 0, 0, 0, 0, 0, 0, 0, 0, 0, 0, 0, 0, 0, 0, 0] : List UInt8) ++ ([2, 0, 0, 0, 0, 0, 0, 0, 0, 0, 0, 0, 0, 0, 0, 0, 0, 0, 0, 0, 0, 0, 0, 0, 0, 0, 0, 0, 0, 0, 0, 0] : List UInt8)) 2 0 ([] : Lg) (1, (List.replicate 32 (0 : UInt8)), 2, [([120] : List UInt8)].flatten)) (1, (List.replicate 32 (0 : UInt8)), 2, [([121] : List UInt8)].flatten)) (1, (List.replicate 32 (0 : UInt8)), 2, [([120] : List UInt8)].flatten)).length)), .pin (sblks lx_109) (fun w => Lgs w lx_109 (anL true (([1, 0, 0, 0, 0, 0, 0, 0, 0, 0, 0, 0, 0, 0, 0, 0, 0, 0, 0, 0, 0, 0, 0, 0, 0, 0, 0, 0, 0, 0, 0, 0] : List UInt8) ++ ([2, 0, 0, 0, 0, 0, 0, 0, 0, 0, 0, 0, 0, 0, 0, 0, 0, 0, 0, 0, 0, 0, 0, 0, 0, 0, 0, 0, 0, 0, 0, 0] : List UInt8)) 2 (anU true (anU true 0 ([] : Lg) (1, (List.replicate 32 (0 : UInt8)), 2, [([120] : List UInt8)].flatten)) (anL true (([1, 0, 0, 0, 0, 0, 0, 0, 0, 0, 0, 0, 0, 0, 0, 0, 0, 0, 0, 0, 0, 0, 0, 0, 0, 0, 0, 0, 0, 0, 0, 0] : List UInt8) ++ ([2, 0, 0, 0, 0, 0, 0, 0, 0, 0, 0, 0, 0, 0, 0, 0, 0, 0, 0, 0, 0, 0, 0, 0, 0, 0, 0, 0, 0, 0, 0, 0] : List UInt8)) 2 0 ([] : Lg) (1, (List.replicate 32 (0 : UInt8)), 2, [([120] : List UInt8)].flatten)) (1, (List.replicate 32 (0 : UInt8)), 2, [([121] : List UInt8)].flatten)) (anL true (([1, 0, 0, 0, 0, 0, 0, 0, 0, 0, 0, 0, 0, 0, 0, 0, 0, 0, 0, 0, 0, 0, 0, 0, 0, 0, 0, 0, 0, 0, 0, 0] : List UInt8) ++ ([2, 0, 0, 0, 0, 0, 0, 0, 0, 0, 0, 0, 0, 0, 0, 0, 0, 0, 0, 0, 0, 0, 0, 0, 0, 0, 0, 0, 0, 0, 0, 0] : List UInt8)) 2 (anU true 0 ([] : Lg) (1, (List.replicate 32 (0 : UInt8)), 2, [([120] : List UInt8)].flatten)) (anL true (([1, 0, 0, 0, 0, 0, 0, 0, 0, 0, 0, 0, 0, 0, 0, 0, 0, 0, 0, 0, 0, 0, 0, 0, 0, 0, 0, 0, 0, 0, 0, 0] : List UInt8) ++ ([2, 0, 0, 0, 0, 0, 0, 0, 0, 0, 0, 0, 0, 0, 0, 0, 0, 0, 0, 0, 0, 0, 0, 0, 0, 0, 0, 0, 0, 0, 0, 0] : List UInt8)) 2 0 ([] : Lg) (1, (List.replicate 32 (0 : UInt8)), 2, [([120] : List UInt8)].flatten)) (1, (List.replicate 32 (0 : UInt8)), 2, [([121] : List UInt8)].flatten)) (1, (List.replicate 32 (0 : UInt8)), 2, [([120] : List UInt8)].flatten))), .view a_18 ((([1, 0, 0, 0, 0, 0, 0, 0, 0, 0, 0, 0, 0, 0, 0, 0, 0, 0, 0, 0, 0, 0, 0, 0, 0, 0, 0, 0, 0, 0, 0, 0] : List UInt8) ++ ([2, 0, 0, 0, 0, 0, 0, 0, 0, 0, 0, 0, 0, 0, 0, 0, 0, 0, 0, 0, 0, 0, 0, 0, 0, 0, 0, 0, 0, 0, 0, 0] : List UInt8)).map vu8), .pin (sblks [(.slice (some ⟨b_84, 0, none⟩) 1 1)]) (fun w => Sls w [(.slice (some ⟨b_84, 0, none⟩) 1 1)] [([120] : List UInt8)]), .view (some ⟨b_89, 0, none⟩) [(.slice (some ⟨b_84, 0, none⟩) 1 1)], .view (some ⟨b_84, 0, none⟩) (([120] : List UInt8).map vu8), .blk b_79 .nw 29 [(32, (anD true (([1, 0, 0, 0, 0, 0, 0, 0, 0, 0, 0, 0, 0, 0, 0, 0, 0, 0, 0, 0, 0, 0, 0, 0, 0, 0, 0, 0, 0, 0, 0, 0] : List UInt8) ++ ([2, 0, 0, 0, 0, 0, 0, 0, 0, 0, 0, 0, 0, 0, 0, 0, 0, 0, 0, 0, 0, 0, 0, 0, 0, 0, 0, 0, 0, 0, 0, 0] : List UInt8)) 2 (anU true 0 ([] : Lg) (1, (List.replicate 32 (0 : UInt8)), 2, [([120] : List UInt8)].flatten)) (anL true (([1, 0, 0, 0, 0, 0, 0, 0, 0, 0, 0, 0, 0, 0, 0, 0, 0, 0, 0, 0, 0, 0, 0, 0, 0, 0, 0, 0, 0, 0, 0, 0] : List UInt8) ++ ([2, 0, 0, 0, 0, 0, 0, 0, 0, 0, 0, 0, 0, 0, 0, 0, 0, 0, 0, 0, 0, 0, 0, 0, 0, 0, 0, 0, 0, 0, 0, 0] : List UInt8)) 2 0 ([] : Lg) (1, (List.replicate 32 (0 : UInt8)), 2, [([120] : List UInt8)].flatten)) (1, (List.replicate 32 (0 : UInt8)), 2, [([121] : List UInt8)].flatten)).map vu8)], .pin (sblks [(.slice (some ⟨b_53, 0, none⟩) 1 1)]) (fun w => Sls w [(.slice (some ⟨b_53, 0, none⟩) 1 1)] [([121] : List UInt8)]), .view (some ⟨b_58, 0, none⟩) [(.slice (some ⟨b_53, 0, none⟩) 1 1)], .view (some ⟨b_53, 0, none⟩) (([121] : List UInt8).map vu8), .blk b_48 .nw 29 [(32, (anD true (([1, 0, 0, 0, 0, 0, 0, 0, 0, 0, 0, 0, 0, 0, 0, 0, 0, 0, 0, 0, 0, 0, 0, 0, 0, 0, 0, 0, 0, 0, 0, 0] : List UInt8) ++ ([2, 0, 0, 0, 0, 0, 0, 0, 0, 0, 0, 0, 0, 0, 0, 0, 0, 0, 0, 0, 0, 0, 0, 0, 0, 0, 0, 0, 0, 0, 0, 0] : List UInt8)) 2 0 ([] : Lg) (1, (List.replicate 32 (0 : UInt8)), 2, [([120] : List UInt8)].flatten)).map vu8)], .pin (sblks [(.slice (some ⟨b_22, 0, none⟩) 1 1)]) (fun w => Sls w [(.slice (some ⟨b_22, 0, none⟩) 1 1)] [([120] : List UInt8)]), .view (some ⟨b_27, 0, none⟩) [(.slice (some ⟨b_22, 0, none⟩) 1 1)], .view (some ⟨b_22, 0, none⟩) (([120] : List UInt8).map vu8), .view (some ⟨b_11, 0, none⟩) ((([1, 0, 0, 0, 0, 0, 0, 0, 0, 0, 0, 0, 0, 0, 0, 0, 0, 0, 0, 0, 0, 0, 0, 0, 0, 0, 0, 0, 0, 0, 0, 0] : List UInt8) ++ ([2, 0, 0, 0, 0, 0, 0, 0, 0, 0, 0, 0, 0, 0, 0, 0, 0, 0, 0, 0, 0, 0, 0, 0, 0, 0, 0, 0, 0, 0, 0, 0] : List UInt8)).map vu8), .blk b_4 .nw 29 [(32, ([2, 0, 0, 0, 0, 0, 0, 0, 0, 0, 0, 0, 0, 0, 0, 0, 0, 0, 0, 0, 0, 0, 0, 0, 0, 0, 0, 0, 0, 0, 0, 0] : List UInt8).map vu8)], .blk b_1 .nw 29 [(32, ([1, 0, 0, 0, 0, 0, 0, 0, 0, 0, 0, 0, 0, 0, 0, 0, 0, 0, 0, 0, 0, 0, 0, 0, 0, 0, 0, 0, 0, 0, 0, 0] : List UInt8).map vu8)]] : List Ent), e.mut = false ∧ b ∈ e.blocks := by
  intro b hb
  rcases List.mem_append.1 hb with hb | hb
  ·exact ⟨_, M1, rfl, sblk_in_view (rfl : List.length ([120] : List UInt8) = 1) b hb⟩
  cases hb
 have h_128 := HP_within (e' := .pin (sblks [(.slice (some ⟨b_115, 0, none⟩) 1 1)]) (fun w => Sls w [(.slice (some ⟨b_115, 0, none⟩) 1 1)] [([120] : List UInt8)])) h_126 (Sls.pin (Sls.cons (rfl : List.length ([120] : List UInt8) = 1) (by decide) (viewV (h_126.ok _ M1)) Sls.nil)) rfl rfl hbl_127
 have h_135 := ((((((h_128.up J1).up J1).up J8).up J8).up J8).up J8).up J8
 have h32_w_136 := Lgs.ok32 (h_135.ok _ M3).1
 refine WL.call Tryz.call17 rfl rfl (c_oDigestI b_16 b_17 (zB 32) (([1, 0, 0, 0, 0, 0, 0, 0, 0, 0, 0, 0, 0, 0, 0, 0, 0, 0, 0, 0, 0, 0, 0, 0, 0, 0, 0, 0, 0, 0, 0, 0] : List UInt8) ++ ([2, 0, 0, 0, 0, 0, 0, 0, 0, 0, 0, 0, 0, 0, 0, 0, 0, 0, 0, 0, 0, 0, 0, 0, 0, 0, 0, 0, 0, 0, 0, 0] : List UInt8)) lr a_18 2 c_19 (anU true (anU true (anU true 0 ([] : Lg) (1, (zB 32), 2, [([120] : List UInt8)].flatten)) (anL true (([1, 0, 0, 0, 0, 0, 0, 0, 0, 0, 0, 0, 0, 0, 0, 0, 0, 0, 0, 0, 0, 0, 0, 0, 0, 0, 0, 0, 0, 0, 0, 0] : List UInt8) ++ ([2, 0, 0, 0, 0, 0, 0, 0, 0, 0, 0, 0, 0, 0, 0, 0, 0, 0, 0, 0, 0, 0, 0, 0, 0, 0, 0, 0, 0, 0, 0, 0] : List UInt8)) 2 0 ([] : Lg) (1, (zB 32), 2, [([120] : List UInt8)].flatten)) (1, (zB 32), 2, [([121] : List UInt8)].flatten)) (anL true (([1, 0, 0, 0, 0, 0, 0, 0, 0, 0, 0, 0, 0, 0, 0, 0, 0, 0, 0, 0, 0, 0, 0, 0, 0, 0, 0, 0, 0, 0, 0, 0] : List UInt8) ++ ([2, 0, 0, 0, 0, 0, 0, 0, 0, 0, 0, 0, 0, 0, 0, 0, 0, 0, 0, 0, 0, 0, 0, 0, 0, 0, 0, 0, 0, 0, 0, 0] : List UInt8)) 2 (anU true 0 ([] : Lg) (1, (zB 32), 2, [([120] : List UInt8)].flatten)) (anL true (([1, 0, 0, 0, 0, 0, 0, 0, 0, 0, 0, 0, 0, 0, 0, 0, 0, 0, 0, 0, 0, 0, 0, 0, 0, 0, 0, 0, 0, 0, 0, 0] : List UInt8) ++ ([2, 0, 0, 0, 0, 0, 0, 0, 0, 0, 0, 0, 0, 0, 0, 0, 0, 0, 0, 0, 0, 0, 0, 0, 0, 0, 0, 0, 0, 0, 0, 0] : List UInt8)) 2 0 ([] : Lg) (1, (zB 32), 2, [([120] : List UInt8)].flatten)) (1, (zB 32), 2, [([121] : List UInt8)].flatten)) (1, (zB 32), 2, [([120] : List UInt8)].flatten)) (rfl : List.length (([1, 0, 0, 0, 0, 0, 0, 0, 0, 0, 0, 0, 0, 0, 0, 0, 0, 0, 0, 0, 0, 0, 0, 0, 0, 0, 0, 0, 0, 0, 0, 0] : List UInt8) ++ ([2, 0, 0, 0, 0, 0, 0, 0, 0, 0, 0, 0, 0, 0, 0, 0, 0, 0, 0, 0, 0, 0, 0, 0, 0, 0, 0, 0, 0, 0, 0, 0] : List UInt8)) = 64) la_107 lc_108 lx_109 (anL true (([1, 0, 0, 0, 0, 0, 0, 0, 0, 0, 0, 0, 0, 0, 0, 0, 0, 0, 0, 0, 0, 0, 0, 0, 0, 0, 0, 0, 0, 0, 0, 0] : List UInt8) ++ ([2, 0, 0, 0, 0, 0, 0, 0, 0, 0, 0, 0, 0, 0, 0, 0, 0, 0, 0, 0, 0, 0, 0, 0, 0, 0, 0, 0, 0, 0, 0, 0] : List UInt8)) 2 (anU true (anU true 0 ([] : Lg) (1, (zB 32), 2, [([120] : List UInt8)].flatten)) (anL true (([1, 0, 0, 0, 0, 0, 0, 0, 0, 0, 0, 0, 0, 0, 0, 0, 0, 0, 0, 0, 0, 0, 0, 0, 0, 0, 0, 0, 0, 0, 0, 0] : List UInt8) ++ ([2, 0, 0, 0, 0, 0, 0, 0, 0, 0, 0, 0, 0, 0, 0, 0, 0, 0, 0, 0, 0, 0, 0, 0, 0, 0, 0, 0, 0, 0, 0, 0] : List UInt8)) 2 0 ([] : Lg) (1, (zB 32), 2, [([120] : List UInt8)].flatten)) (1, (zB 32), 2, [([121] : List UInt8)].flatten)) (anL true (([1, 0, 0, 0, 0, 0, 0, 0, 0, 0, 0, 0, 0, 0, 0, 0, 0, 0, 0, 0, 0, 0, 0, 0, 0, 0, 0, 0, 0, 0, 0, 0] : List UInt8) ++ ([2, 0, 0, 0, 0, 0, 0, 0, 0, 0, 0, 0, 0, 0, 0, 0, 0, 0, 0, 0, 0, 0, 0, 0, 0, 0, 0, 0, 0, 0, 0, 0] : List UInt8)) 2 (anU true 0 ([] : Lg) (1, (zB 32), 2, [([120] : List UInt8)].flatten)) (anL true (([1, 0, 0, 0, 0, 0, 0, 0, 0, 0, 0, 0, 0, 0, 0, 0, 0, 0, 0, 0, 0, 0, 0, 0, 0, 0, 0, 0, 0, 0, 0, 0] : List UInt8) ++ ([2, 0, 0, 0, 0, 0, 0, 0, 0, 0, 0, 0, 0, 0, 0, 0, 0, 0, 0, 0, 0, 0, 0, 0, 0, 0, 0, 0, 0, 0, 0, 0] : List UInt8)) 2 0 ([] : Lg) (1, (zB 32), 2, [([120] : List UInt8)].flatten)) (1, (zB 32), 2, [([121] : List UInt8)].flatten)) (1, (zB 32), 2, [([120] : List UInt8)].flatten)) (by decide +kernel) (by decide +kernel) (some ⟨b_120, 0, none⟩) 1 1 [(.slice (some ⟨b_115, 0, none⟩) 1 1)] [([120] : List UInt8)] rfl 3 (by decide) (by decide +kernel) (by omega) _ h_135) rfl ?_
 rintro _ w_136 ⟨la_138, lc_139, lx_140, rfl, h_137⟩
 refine qM (.tuple [(.agg ⟨(anD true (([1, 0, 0, 0, 0, 0, 0, 0, 0, 0, 0, 0, 0, 0, 0, 0, 0, 0, 0, 0, 0, 0, 0, 0, 0, 0, 0, 0, 0, 0, 0, 0] : List UInt8) ++ ([2, 0, 0, 0, 0, 0, 0, 0, 0, 0, 0, 0, 0, 0, 0, 0, 0, 0, 0, 0, 0, 0, 0, 0, 0, 0, 0, 0, 0, 0, 0, 0] : List UInt8)) 2 (anU true (anU true (anU true 0 ([] : Lg) (1, (zB 32), 2, [([120] : List UInt8)].flatten)) (anL true (([1, 0, 0, 0, 0, 0, 0, 0, 0, 0, 0, 0, 0, 0, 0, 0, 0, 0, 0, 0, 0, 0, 0, 0, 0, 0, 0, 0, 0, 0, 0, 0] : List UInt8) ++ ([2, 0, 0, 0, 0, 0, 0, 0, 0, 0, 0, 0, 0, 0, 0, 0, 0, 0, 0, 0, 0, 0, 0, 0, 0, 0, 0, 0, 0, 0, 0, 0] : List UInt8)) 2 0 ([] : Lg) (1, (zB 32), 2, [([120] : List UInt8)].flatten)) (1, (zB 32), 2, [([121] : List UInt8)].flatten)) (anL true (([1, 0, 0, 0, 0, 0, 0, 0, 0, 0, 0, 0, 0, 0, 0, 0, 0, 0, 0, 0, 0, 0, 0, 0, 0, 0, 0, 0, 0, 0, 0, 0] : List UInt8) ++ ([2, 0, 0, 0, 0, 0, 0, 0, 0, 0, 0, 0, 0, 0, 0, 0, 0, 0, 0, 0, 0, 0, 0, 0, 0, 0, 0, 0, 0, 0, 0, 0] : List UInt8)) 2 (anU true 0 ([] : Lg) (1, (zB 32), 2, [([120] : List UInt8)].flatten)) (anL true (([1, 0, 0, 0, 0, 0, 0, 0, 0, 0, 0, 0, 0, 0, 0, 0, 0, 0, 0, 0, 0, 0, 0, 0, 0, 0, 0, 0, 0, 0, 0, 0] : List UInt8) ++ ([2, 0, 0, 0, 0, 0, 0, 0, 0, 0, 0, 0, 0, 0, 0, 0, 0, 0, 0, 0, 0, 0, 0, 0, 0, 0, 0, 0, 0, 0, 0, 0] : List UInt8)) 2 0 ([] : Lg) (1, (zB 32), 2, [([120] : List UInt8)].flatten)) (1, (zB 32), 2, [([121] : List UInt8)].flatten)) (1, (zB 32), 2, [([120] : List UInt8)].flatten)) (anL true (([1, 0, 0, 0, 0, 0, 0, 0, 0, 0, 0, 0, 0, 0, 0, 0, 0, 0, 0, 0, 0, 0, 0, 0, 0, 0, 0, 0, 0, 0, 0, 0] : List UInt8) ++ ([2, 0, 0, 0, 0, 0, 0, 0, 0, 0, 0, 0, 0, 0, 0, 0, 0, 0, 0, 0, 0, 0, 0, 0, 0, 0, 0, 0, 0, 0, 0, 0] : List UInt8)) 2 (anU true (anU true 0 ([] : Lg) (1, (zB 32), 2, [([120] : List UInt8)].flatten)) (anL true (([1, 0, 0, 0, 0, 0, 0, 0, 0, 0, 0, 0, 0, 0, 0, 0, 0, 0, 0, 0, 0, 0, 0, 0, 0, 0, 0, 0, 0, 0, 0, 0] : List UInt8) ++ ([2, 0, 0, 0, 0, 0, 0, 0, 0, 0, 0, 0, 0, 0, 0, 0, 0, 0, 0, 0, 0, 0, 0, 0, 0, 0, 0, 0, 0, 0, 0, 0] : List UInt8)) 2 0 ([] : Lg) (1, (zB 32), 2, [([120] : List UInt8)].flatten)) (1, (zB 32), 2, [([121] : List UInt8)].flatten)) (anL true (([1, 0, 0, 0, 0, 0, 0, 0, 0, 0, 0, 0, 0, 0, 0, 0, 0, 0, 0, 0, 0, 0, 0, 0, 0, 0, 0, 0, 0, 0, 0, 0] : List UInt8) ++ ([2, 0, 0, 0, 0, 0, 0, 0, 0, 0, 0, 0, 0, 0, 0, 0, 0, 0, 0, 0, 0, 0, 0, 0, 0, 0, 0, 0, 0, 0, 0, 0] : List UInt8)) 2 (anU true 0 ([] : Lg) (1, (zB 32), 2, [([120] : List UInt8)].flatten)) (anL true (([1, 0, 0, 0, 0, 0, 0, 0, 0, 0, 0, 0, 0, 0, 0, 0, 0, 0, 0, 0, 0, 0, 0, 0, 0, 0, 0, 0, 0, 0, 0, 0] : List UInt8) ++ ([2, 0, 0, 0, 0, 0, 0, 0, 0, 0, 0, 0, 0, 0, 0, 0, 0, 0, 0, 0, 0, 0, 0, 0, 0, 0, 0, 0, 0, 0, 0, 0] : List UInt8)) 2 0 ([] : Lg) (1, (zB 32), 2, [([120] : List UInt8)].flatten)) (1, (zB 32), 2, [([121] : List UInt8)].flatten)) (1, (zB 32), 2, [([120] : List UInt8)].flatten)) (1, (zB 32), 3, [([120] : List UInt8)].flatten)).map vu8⟩), (vi 0)].toArray) rfl rfl (qV rfl (R.extract rfl rfl) (qV rfl (R.extract rfl rfl) ?_))
 refine WL.alloc (segs := [(32, (zB 32).map vu8)]) h_137 (zv typeInfo29 rfl) rfl (sC (s8 lr) sN) rfl (fun b_141 w_142 h_143 => ?_)
 refine WL.storeA [] [(32, (zB 32).map vu8)] [(32, (anD true (([1, 0, 0, 0, 0, 0, 0, 0, 0, 0, 0, 0, 0, 0, 0, 0, 0, 0, 0, 0, 0, 0, 0, 0, 0, 0, 0, 0, 0, 0, 0, 0] : List UInt8) ++ ([2, 0, 0, 0, 0, 0, 0, 0, 0, 0, 0, 0, 0, 0, 0, 0, 0, 0, 0, 0, 0, 0, 0, 0, 0, 0, 0, 0, 0, 0, 0, 0] : List UInt8)) 2 (anU true (anU true (anU true 0 ([] : Lg) (1, (zB 32), 2, [([120] : List UInt8)].flatten)) (anL true (([1, 0, 0, 0, 0, 0, 0, 0, 0, 0, 0, 0, 0, 0, 0, 0, 0, 0, 0, 0, 0, 0, 0, 0, 0, 0, 0, 0, 0, 0, 0, 0] : List UInt8) ++ ([2, 0, 0, 0, 0, 0, 0, 0, 0, 0, 0, 0, 0, 0, 0, 0, 0, 0, 0, 0, 0, 0, 0, 0, 0, 0, 0, 0, 0, 0, 0, 0] : List UInt8)) 2 0 ([] : Lg) (1, (zB 32), 2, [([120] : List UInt8)].flatten)) (1, (zB 32), 2, [([121] : List UInt8)].flatten)) (anL true (([1, 0, 0, 0, 0, 0, 0, 0, 0, 0, 0, 0, 0, 0, 0, 0, 0, 0, 0, 0, 0, 0, 0, 0, 0, 0, 0, 0, 0, 0, 0, 0] : List UInt8) ++ ([2, 0, 0, 0, 0, 0, 0, 0, 0, 0, 0, 0, 0, 0, 0, 0, 0, 0, 0, 0, 0, 0, 0, 0, 0, 0, 0, 0, 0, 0, 0, 0] : List UInt8)) 2 (anU true 0 ([] : Lg) (1, (zB 32), 2, [([120] : List UInt8)].flatten)) (anL true (([1, 0, 0, 0, 0, 0, 0, 0, 0, 0, 0, 0, 0, 0, 0, 0, 0, 0, 0, 0, 0, 0, 0, 0, 0, 0, 0, 0, 0, 0, 0, 0] : List UInt8) ++ ([2, 0, 0, 0, 0, 0, 0, 0, 0, 0, 0, 0, 0, 0, 0, 0, 0, 0, 0, 0, 0, 0, 0, 0, 0, 0, 0, 0, 0, 0, 0, 0] : List UInt8)) 2 0 ([] : Lg) (1, (zB 32), 2, [([120] : List UInt8)].flatten)) (1, (zB 32), 2, [([121] : List UInt8)].flatten)) (1, (zB 32), 2, [([120] : List UInt8)].flatten)) (anL true (([1, 0, 0, 0, 0, 0, 0, 0, 0, 0, 0, 0, 0, 0, 0, 0, 0, 0, 0, 0, 0, 0, 0, 0, 0, 0, 0, 0, 0, 0, 0, 0] : List UInt8) ++ ([2, 0, 0, 0, 0, 0, 0, 0, 0, 0, 0, 0, 0, 0, 0, 0, 0, 0, 0, 0, 0, 0, 0, 0, 0, 0, 0, 0, 0, 0, 0, 0] : List UInt8)) 2 (anU true (anU true 0 ([] : Lg) (1, (zB 32), 2, [([120] : List UInt8)].flatten)) (anL true (([1, 0, 0, 0, 0, 0, 0, 0, 0, 0, 0, 0, 0, 0, 0, 0, 0, 0, 0, 0, 0, 0, 0, 0, 0, 0, 0, 0, 0, 0, 0, 0] : List UInt8) ++ ([2, 0, 0, 0, 0, 0, 0, 0, 0, 0, 0, 0, 0, 0, 0, 0, 0, 0, 0, 0, 0, 0, 0, 0, 0, 0, 0, 0, 0, 0, 0, 0] : List UInt8)) 2 0 ([] : Lg) (1, (zB 32), 2, [([120] : List UInt8)].flatten)) (1, (zB 32), 2, [([121] : List UInt8)].flatten)) (anL true (([1, 0, 0, 0, 0, 0, 0, 0, 0, 0, 0, 0, 0, 0, 0, 0, 0, 0, 0, 0, 0, 0, 0, 0, 0, 0, 0, 0, 0, 0, 0, 0] : List UInt8) ++ ([2, 0, 0, 0, 0, 0, 0, 0, 0, 0, 0, 0, 0, 0, 0, 0, 0, 0, 0, 0, 0, 0, 0, 0, 0, 0, 0, 0, 0, 0, 0, 0] : List UInt8)) 2 (anU true 0 ([] : Lg) (1, (zB 32), 2, [([120] : List UInt8)].flatten)) (anL true (([1, 0, 0, 0, 0, 0, 0, 0, 0, 0, 0, 0, 0, 0, 0, 0, 0, 0, 0, 0, 0, 0, 0, 0, 0, 0, 0, 0, 0, 0, 0, 0] : List UInt8) ++ ([2, 0, 0, 0, 0, 0, 0, 0, 0, 0, 0, 0, 0, 0, 0, 0, 0, 0, 0, 0, 0, 0, 0, 0, 0, 0, 0, 0, 0, 0, 0, 0] : List UInt8)) 2 0 ([] : Lg) (1, (zB 32), 2, [([120] : List UInt8)].flatten)) (1, (zB 32), 2, [([121] : List UInt8)].flatten)) (1, (zB 32), 2, [([120] : List UInt8)].flatten)) (1, (zB 32), 3, [([120] : List UInt8)].flatten)).map vu8)] [] h_143 rfl rfl sizeOf29 At.h (by decide) rfl rfl rfl rfl rfl rfl (sC (s8 (anD_len (rfl : List.length (([1, 0, 0, 0, 0, 0, 0, 0, 0, 0, 0, 0, 0, 0, 0, 0, 0, 0, 0, 0, 0, 0, 0, 0, 0, 0, 0, 0, 0, 0, 0, 0] : List UInt8) ++ ([2, 0, 0, 0, 0, 0, 0, 0, 0, 0, 0, 0, 0, 0, 0, 0, 0, 0, 0, 0, 0, 0, 0, 0, 0, 0, 0, 0, 0, 0, 0, 0] : List UInt8)) = 64) h32_w_136)) sN) (fun w_144 h_145 => ?_)
 refine qA (vi 0) rfl rfl ?_
 refine WL.nil (thn_n (WP.seq (WP.reg ?_)))
 refine qM (pO b_16 0) rfl rfl (qV rfl (R.buildS (pl := [(0, 1), (1, 32), (33, 1), (34, 1)]) (zs := [(1, [(vi 0)]), (32, (zB 32).map vu8), (1, [(vi 0)]), (1, [(.slice none 0 0)])]) (vs := [(0, (vi 1))]) (out := [(1, [(vi 1)]), (32, (zB 32).map vu8), (1, [(vi 0)]), (1, [(.slice none 0 0)])]) underlying39 (zv typeInfo39 rfl) rfl (sC sV (sC (s8 lr) (sC sV (sC sV sN)))) (pl39 _ underlying39) rfl (FillR.cons [] [(1, [(vi 0)])] [(1, [(vi 1)])] [(32, (zB 32).map vu8), (1, [(vi 0)]), (1, [(.slice none 0 0)])] rfl rfl rfl rfl (sC sV sN) rfl rfl rfl FillR.nil) rfl) ?_)
 refine WL.call Tryz.call13 rfl rfl (c_oAskN true b_16 b_17 (zB 32) lr a_18 2 c_19 (anU true (anU true (anU true (anU true 0 ([] : Lg) (1, (zB 32), 2, [([120] : List UInt8)].flatten)) (anL true (([1, 0, 0, 0, 0, 0, 0, 0, 0, 0, 0, 0, 0, 0, 0, 0, 0, 0, 0, 0, 0, 0, 0, 0, 0, 0, 0, 0, 0, 0, 0, 0] : List UInt8) ++ ([2, 0, 0, 0, 0, 0, 0, 0, 0, 0, 0, 0, 0, 0, 0, 0, 0, 0, 0, 0, 0, 0, 0, 0, 0, 0, 0, 0, 0, 0, 0, 0] : List UInt8)) 2 0 ([] : Lg) (1, (zB 32), 2, [([120] : List UInt8)].flatten)) (1, (zB 32), 2, [([121] : List UInt8)].flatten)) (anL true (([1, 0, 0, 0, 0, 0, 0, 0, 0, 0, 0, 0, 0, 0, 0, 0, 0, 0, 0, 0, 0, 0, 0, 0, 0, 0, 0, 0, 0, 0, 0, 0] : List UInt8) ++ ([2, 0, 0, 0, 0, 0, 0, 0, 0, 0, 0, 0, 0, 0, 0, 0, 0, 0, 0, 0, 0, 0, 0, 0, 0, 0, 0, 0, 0, 0, 0, 0] : List UInt8)) 2 (anU true 0 ([] : Lg) (1, (zB 32), 2, [([120] : List UInt8)].flatten)) (anL true (([1, 0, 0, 0, 0, 0, 0, 0, 0, 0, 0, 0, 0, 0, 0, 0, 0, 0, 0, 0, 0, 0, 0, 0, 0, 0, 0, 0, 0, 0, 0, 0] : List UInt8) ++ ([2, 0, 0, 0, 0, 0, 0, 0, 0, 0, 0, 0, 0, 0, 0, 0, 0, 0, 0, 0, 0, 0, 0, 0, 0, 0, 0, 0, 0, 0, 0, 0] : List UInt8)) 2 0 ([] : Lg) (1, (zB 32), 2, [([120] : List UInt8)].flatten)) (1, (zB 32), 2, [([121] : List UInt8)].flatten)) (1, (zB 32), 2, [([120] : List UInt8)].flatten)) (anL true (([1, 0, 0, 0, 0, 0, 0, 0, 0, 0, 0, 0, 0, 0, 0, 0, 0, 0, 0, 0, 0, 0, 0, 0, 0, 0, 0, 0, 0, 0, 0, 0] : List UInt8) ++ ([2, 0, 0, 0, 0, 0, 0, 0, 0, 0, 0, 0, 0, 0, 0, 0, 0, 0, 0, 0, 0, 0, 0, 0, 0, 0, 0, 0, 0, 0, 0, 0] : List UInt8)) 2 (anU true (anU true 0 ([] : Lg) (1, (zB 32), 2, [([120] : List UInt8)].flatten)) (anL true (([1, 0, 0, 0, 0, 0, 0, 0, 0, 0, 0, 0, 0, 0, 0, 0, 0, 0, 0, 0, 0, 0, 0, 0, 0, 0, 0, 0, 0, 0, 0, 0] : List UInt8) ++ ([2, 0, 0, 0, 0, 0, 0, 0, 0, 0, 0, 0, 0, 0, 0, 0, 0, 0, 0, 0, 0, 0, 0, 0, 0, 0, 0, 0, 0, 0, 0, 0] : List UInt8)) 2 0 ([] : Lg) (1, (zB 32), 2, [([120] : List UInt8)].flatten)) (1, (zB 32), 2, [([121] : List UInt8)].flatten)) (anL true (([1, 0, 0, 0, 0, 0, 0, 0, 0, 0, 0, 0, 0, 0, 0, 0, 0, 0, 0, 0, 0, 0, 0, 0, 0, 0, 0, 0, 0, 0, 0, 0] : List UInt8) ++ ([2, 0, 0, 0, 0, 0, 0, 0, 0, 0, 0, 0, 0, 0, 0, 0, 0, 0, 0, 0, 0, 0, 0, 0, 0, 0, 0, 0, 0, 0, 0, 0] : List UInt8)) 2 (anU true 0 ([] : Lg) (1, (zB 32), 2, [([120] : List UInt8)].flatten)) (anL true (([1, 0, 0, 0, 0, 0, 0, 0, 0, 0, 0, 0, 0, 0, 0, 0, 0, 0, 0, 0, 0, 0, 0, 0, 0, 0, 0, 0, 0, 0, 0, 0] : List UInt8) ++ ([2, 0, 0, 0, 0, 0, 0, 0, 0, 0, 0, 0, 0, 0, 0, 0, 0, 0, 0, 0, 0, 0, 0, 0, 0, 0, 0, 0, 0, 0, 0, 0] : List UInt8)) 2 0 ([] : Lg) (1, (zB 32), 2, [([120] : List UInt8)].flatten)) (1, (zB 32), 2, [([121] : List UInt8)].flatten)) (1, (zB 32), 2, [([120] : List UInt8)].flatten)) (1, (zB 32), 3, [([120] : List UInt8)].flatten)) la_138 ((anL true (([1, 0, 0, 0, 0, 0, 0, 0, 0, 0, 0, 0, 0, 0, 0, 0, 0, 0, 0, 0, 0, 0, 0, 0, 0, 0, 0, 0, 0, 0, 0, 0] : List UInt8) ++ ([2, 0, 0, 0, 0, 0, 0, 0, 0, 0, 0, 0, 0, 0, 0, 0, 0, 0, 0, 0, 0, 0, 0, 0, 0, 0, 0, 0, 0, 0, 0, 0] : List UInt8)) 2 (anU true (anU true (anU true 0 ([] : Lg) (1, (zB 32), 2, [([120] : List UInt8)].flatten)) (anL true (([1, 0, 0, 0, 0, 0, 0, 0, 0, 0, 0, 0, 0, 0, 0, 0, 0, 0, 0, 0, 0, 0, 0, 0, 0, 0, 0, 0, 0, 0, 0, 0] : List UInt8) ++ ([2, 0, 0, 0, 0, 0, 0, 0, 0, 0, 0, 0, 0, 0, 0, 0, 0, 0, 0, 0, 0, 0, 0, 0, 0, 0, 0, 0, 0, 0, 0, 0] : List UInt8)) 2 0 ([] : Lg) (1, (zB 32), 2, [([120] : List UInt8)].flatten)) (1, (zB 32), 2, [([121] : List UInt8)].flatten)) (anL true (([1, 0, 0, 0, 0, 0, 0, 0, 0, 0, 0, 0, 0, 0, 0, 0, 0, 0, 0, 0, 0, 0, 0, 0, 0, 0, 0, 0, 0, 0, 0, 0] : List UInt8) ++ ([2, 0, 0, 0, 0, 0, 0, 0, 0, 0, 0, 0, 0, 0, 0, 0, 0, 0, 0, 0, 0, 0, 0, 0, 0, 0, 0, 0, 0, 0, 0, 0] : List UInt8)) 2 (anU true 0 ([] : Lg) (1, (zB 32), 2, [([120] : List UInt8)].flatten)) (anL true (([1, 0, 0, 0, 0, 0, 0, 0, 0, 0, 0, 0, 0, 0, 0, 0, 0, 0, 0, 0, 0, 0, 0, 0, 0, 0, 0, 0, 0, 0, 0, 0] : List UInt8) ++ ([2, 0, 0, 0, 0, 0, 0, 0, 0, 0, 0, 0, 0, 0, 0, 0, 0, 0, 0, 0, 0, 0, 0, 0, 0, 0, 0, 0, 0, 0, 0, 0] : List UInt8)) 2 0 ([] : Lg) (1, (zB 32), 2, [([120] : List UInt8)].flatten)) (1, (zB 32), 2, [([121] : List UInt8)].flatten)) (1, (zB 32), 2, [([120] : List UInt8)].flatten)) (anL true (([1, 0, 0, 0, 0, 0, 0, 0, 0, 0, 0, 0, 0, 0, 0, 0, 0, 0, 0, 0, 0, 0, 0, 0, 0, 0, 0, 0, 0, 0, 0, 0] : List UInt8) ++ ([2, 0, 0, 0, 0, 0, 0, 0, 0, 0, 0, 0, 0, 0, 0, 0, 0, 0, 0, 0, 0, 0, 0, 0, 0, 0, 0, 0, 0, 0, 0, 0] : List UInt8)) 2 (anU true (anU true 0 ([] : Lg) (1, (zB 32), 2, [([120] : List UInt8)].flatten)) (anL true (([1, 0, 0, 0, 0, 0, 0, 0, 0, 0, 0, 0, 0, 0, 0, 0, 0, 0, 0, 0, 0, 0, 0, 0, 0, 0, 0, 0, 0, 0, 0, 0] : List UInt8) ++ ([2, 0, 0, 0, 0, 0, 0, 0, 0, 0, 0, 0, 0, 0, 0, 0, 0, 0, 0, 0, 0, 0, 0, 0, 0, 0, 0, 0, 0, 0, 0, 0] : List UInt8)) 2 0 ([] : Lg) (1, (zB 32), 2, [([120] : List UInt8)].flatten)) (1, (zB 32), 2, [([121] : List UInt8)].flatten)) (anL true (([1, 0, 0, 0, 0, 0, 0, 0, 0, 0, 0, 0, 0, 0, 0, 0, 0, 0, 0, 0, 0, 0, 0, 0, 0, 0, 0, 0, 0, 0, 0, 0] : List UInt8) ++ ([2, 0, 0, 0, 0, 0, 0, 0, 0, 0, 0, 0, 0, 0, 0, 0, 0, 0, 0, 0, 0, 0, 0, 0, 0, 0, 0, 0, 0, 0, 0, 0] : List UInt8)) 2 (anU true 0 ([] : Lg) (1, (zB 32), 2, [([120] : List UInt8)].flatten)) (anL true (([1, 0, 0, 0, 0, 0, 0, 0, 0, 0, 0, 0, 0, 0, 0, 0, 0, 0, 0, 0, 0, 0, 0, 0, 0, 0, 0, 0, 0, 0, 0, 0] : List UInt8) ++ ([2, 0, 0, 0, 0, 0, 0, 0, 0, 0, 0, 0, 0, 0, 0, 0, 0, 0, 0, 0, 0, 0, 0, 0, 0, 0, 0, 0, 0, 0, 0, 0] : List UInt8)) 2 0 ([] : Lg) (1, (zB 32), 2, [([120] : List UInt8)].flatten)) (1, (zB 32), 2, [([121] : List UInt8)].flatten)) (1, (zB 32), 2, [([120] : List UInt8)].flatten)) (1, (zB 32), 3, [([120] : List UInt8)].flatten)).length) lc_139 1 0 (zB 32) none 0 0 lr (by decide) _ (h_145.argR M1)) rfl ?_
 rintro _ w_148 ⟨rfl, hc_147⟩
 have h_149 := h_145.same hc_147
 refine qM (.tuple [(.agg ⟨(zB 32).map vu8⟩), (vi 2)].toArray) rfl rfl (qV rfl (R.extract rfl rfl) (qV rfl (R.extract rfl rfl) ?_))
 refine WL.alloc (segs := [(32, (zB 32).map vu8)]) h_149 (zv typeInfo29 rfl) rfl (sC (s8 lr) sN) rfl (fun b_150 w_151 h_152 => ?_)
 refine WL.storeA [] [(32, (zB 32).map vu8)] [(32, (zB 32).map vu8)] [] h_152 rfl rfl sizeOf29 At.h (by decide) rfl rfl rfl rfl rfl rfl (sC (s8 lr) sN) (fun w_153 h_154 => ?_)
 refine qA (vi 2) rfl rfl ?_
 refine WL.nil (thn_n (WP.seq (WP.reg ?_)))
 refine qM (pO b_16 0) rfl rfl (qV rfl (R.buildS (pl := [(0, 1), (1, 32), (33, 1), (34, 1)]) (zs := [(1, [(vi 0)]), (32, (zB 32).map vu8), (1, [(vi 0)]), (1, [(.slice none 0 0)])]) (vs := [(0, (vi 4)), (2, (vi 1))]) (out := [(1, [(vi 4)]), (32, (zB 32).map vu8), (1, [(vi 1)]), (1, [(.slice none 0 0)])]) underlying39 (zv typeInfo39 rfl) rfl (sC sV (sC (s8 lr) (sC sV (sC sV sN)))) (pl39 _ underlying39) rfl (FillR.cons [] [(1, [(vi 0)])] [(1, [(vi 4)])] [(32, (zB 32).map vu8), (1, [(vi 0)]), (1, [(.slice none 0 0)])] rfl rfl rfl rfl (sC sV sN) rfl rfl rfl (FillR.cons [(1, [(vi 4)]), (32, (zB 32).map vu8)] [(1, [(vi 0)])] [(1, [(vi 1)])] [(1, [(.slice none 0 0)])] rfl rfl rfl rfl (sC sV sN) rfl rfl rfl FillR.nil)) rfl) ?_)
 refine WL.call Tryz.call13 rfl rfl (c_oAskS true b_16 b_17 (zB 32) lr a_18 2 c_19 (anU true (anU true (anU true (anU true 0 ([] : Lg) (1, (zB 32), 2, [([120] : List UInt8)].flatten)) (anL true (([1, 0, 0, 0, 0, 0, 0, 0, 0, 0, 0, 0, 0, 0, 0, 0, 0, 0, 0, 0, 0, 0, 0, 0, 0, 0, 0, 0, 0, 0, 0, 0] : List UInt8) ++ ([2, 0, 0, 0, 0, 0, 0, 0, 0, 0, 0, 0, 0, 0, 0, 0, 0, 0, 0, 0, 0, 0, 0, 0, 0, 0, 0, 0, 0, 0, 0, 0] : List UInt8)) 2 0 ([] : Lg) (1, (zB 32), 2, [([120] : List UInt8)].flatten)) (1, (zB 32), 2, [([121] : List UInt8)].flatten)) (anL true (([1, 0, 0, 0, 0, 0, 0, 0, 0, 0, 0, 0, 0, 0, 0, 0, 0, 0, 0, 0, 0, 0, 0, 0, 0, 0, 0, 0, 0, 0, 0, 0] : List UInt8) ++ ([2, 0, 0, 0, 0, 0, 0, 0, 0, 0, 0, 0, 0, 0, 0, 0, 0, 0, 0, 0, 0, 0, 0, 0, 0, 0, 0, 0, 0, 0, 0, 0] : List UInt8)) 2 (anU true 0 ([] : Lg) (1, (zB 32), 2, [([120] : List UInt8)].flatten)) (anL true (([1, 0, 0, 0, 0, 0, 0, 0, 0, 0, 0, 0, 0, 0, 0, 0, 0, 0, 0, 0, 0, 0, 0, 0, 0, 0, 0, 0, 0, 0, 0, 0] : List UInt8) ++ ([2, 0, 0, 0, 0, 0, 0, 0, 0, 0, 0, 0, 0, 0, 0, 0, 0, 0, 0, 0, 0, 0, 0, 0, 0, 0, 0, 0, 0, 0, 0, 0] : List UInt8)) 2 0 ([] : Lg) (1, (zB 32), 2, [([120] : List UInt8)].flatten)) (1, (zB 32), 2, [([121] : List UInt8)].flatten)) (1, (zB 32), 2, [([120] : List UInt8)].flatten)) (anL true (([1, 0, 0, 0, 0, 0, 0, 0, 0, 0, 0, 0, 0, 0, 0, 0, 0, 0, 0, 0, 0, 0, 0, 0, 0, 0, 0, 0, 0, 0, 0, 0] : List UInt8) ++ ([2, 0, 0, 0, 0, 0, 0, 0, 0, 0, 0, 0, 0, 0, 0, 0, 0, 0, 0, 0, 0, 0, 0, 0, 0, 0, 0, 0, 0, 0, 0, 0] : List UInt8)) 2 (anU true (anU true 0 ([] : Lg) (1, (zB 32), 2, [([120] : List UInt8)].flatten)) (anL true (([1, 0, 0, 0, 0, 0, 0, 0, 0, 0, 0, 0, 0, 0, 0, 0, 0, 0, 0, 0, 0, 0, 0, 0, 0, 0, 0, 0, 0, 0, 0, 0] : List UInt8) ++ ([2, 0, 0, 0, 0, 0, 0, 0, 0, 0, 0, 0, 0, 0, 0, 0, 0, 0, 0, 0, 0, 0, 0, 0, 0, 0, 0, 0, 0, 0, 0, 0] : List UInt8)) 2 0 ([] : Lg) (1, (zB 32), 2, [([120] : List UInt8)].flatten)) (1, (zB 32), 2, [([121] : List UInt8)].flatten)) (anL true (([1, 0, 0, 0, 0, 0, 0, 0, 0, 0, 0, 0, 0, 0, 0, 0, 0, 0, 0, 0, 0, 0, 0, 0, 0, 0, 0, 0, 0, 0, 0, 0] : List UInt8) ++ ([2, 0, 0, 0, 0, 0, 0, 0, 0, 0, 0, 0, 0, 0, 0, 0, 0, 0, 0, 0, 0, 0, 0, 0, 0, 0, 0, 0, 0, 0, 0, 0] : List UInt8)) 2 (anU true 0 ([] : Lg) (1, (zB 32), 2, [([120] : List UInt8)].flatten)) (anL true (([1, 0, 0, 0, 0, 0, 0, 0, 0, 0, 0, 0, 0, 0, 0, 0, 0, 0, 0, 0, 0, 0, 0, 0, 0, 0, 0, 0, 0, 0, 0, 0] : List UInt8) ++ ([2, 0, 0, 0, 0, 0, 0, 0, 0, 0, 0, 0, 0, 0, 0, 0, 0, 0, 0, 0, 0, 0, 0, 0, 0, 0, 0, 0, 0, 0, 0, 0] : List UInt8)) 2 0 ([] : Lg) (1, (zB 32), 2, [([120] : List UInt8)].flatten)) (1, (zB 32), 2, [([121] : List UInt8)].flatten)) (1, (zB 32), 2, [([120] : List UInt8)].flatten)) (1, (zB 32), 3, [([120] : List UInt8)].flatten)) la_138 ((anL true (([1, 0, 0, 0, 0, 0, 0, 0, 0, 0, 0, 0, 0, 0, 0, 0, 0, 0, 0, 0, 0, 0, 0, 0, 0, 0, 0, 0, 0, 0, 0, 0] : List UInt8) ++ ([2, 0, 0, 0, 0, 0, 0, 0, 0, 0, 0, 0, 0, 0, 0, 0, 0, 0, 0, 0, 0, 0, 0, 0, 0, 0, 0, 0, 0, 0, 0, 0] : List UInt8)) 2 (anU true (anU true (anU true 0 ([] : Lg) (1, (zB 32), 2, [([120] : List UInt8)].flatten)) (anL true (([1, 0, 0, 0, 0, 0, 0, 0, 0, 0, 0, 0, 0, 0, 0, 0, 0, 0, 0, 0, 0, 0, 0, 0, 0, 0, 0, 0, 0, 0, 0, 0] : List UInt8) ++ ([2, 0, 0, 0, 0, 0, 0, 0, 0, 0, 0, 0, 0, 0, 0, 0, 0, 0, 0, 0, 0, 0, 0, 0, 0, 0, 0, 0, 0, 0, 0, 0] : List UInt8)) 2 0 ([] : Lg) (1, (zB 32), 2, [([120] : List UInt8)].flatten)) (1, (zB 32), 2, [([121] : List UInt8)].flatten)) (anL true (([1, 0, 0, 0, 0, 0, 0, 0, 0, 0, 0, 0, 0, 0, 0, 0, 0, 0, 0, 0, 0, 0, 0, 0, 0, 0, 0, 0, 0, 0, 0, 0] : List UInt8) ++ ([2, 0, 0, 0, 0, 0, 0, 0, 0, 0, 0, 0, 0, 0, 0, 0, 0, 0, 0, 0, 0, 0, 0, 0, 0, 0, 0, 0, 0, 0, 0, 0] : List UInt8)) 2 (anU true 0 ([] : Lg) (1, (zB 32), 2, [([120] : List UInt8)].flatten)) (anL true (([1, 0, 0, 0, 0, 0, 0, 0, 0, 0, 0, 0, 0, 0, 0, 0, 0, 0, 0, 0, 0, 0, 0, 0, 0, 0, 0, 0, 0, 0, 0, 0] : List UInt8) ++ ([2, 0, 0, 0, 0, 0, 0, 0, 0, 0, 0, 0, 0, 0, 0, 0, 0, 0, 0, 0, 0, 0, 0, 0, 0, 0, 0, 0, 0, 0, 0, 0] : List UInt8)) 2 0 ([] : Lg) (1, (zB 32), 2, [([120] : List UInt8)].flatten)) (1, (zB 32), 2, [([121] : List UInt8)].flatten)) (1, (zB 32), 2, [([120] : List UInt8)].flatten)) (anL true (([1, 0, 0, 0, 0, 0, 0, 0, 0, 0, 0, 0, 0, 0, 0, 0, 0, 0, 0, 0, 0, 0, 0, 0, 0, 0, 0, 0, 0, 0, 0, 0] : List UInt8) ++ ([2, 0, 0, 0, 0, 0, 0, 0, 0, 0, 0, 0, 0, 0, 0, 0, 0, 0, 0, 0, 0, 0, 0, 0, 0, 0, 0, 0, 0, 0, 0, 0] : List UInt8)) 2 (anU true (anU true 0 ([] : Lg) (1, (zB 32), 2, [([120] : List UInt8)].flatten)) (anL true (([1, 0, 0, 0, 0, 0, 0, 0, 0, 0, 0, 0, 0, 0, 0, 0, 0, 0, 0, 0, 0, 0, 0, 0, 0, 0, 0, 0, 0, 0, 0, 0] : List UInt8) ++ ([2, 0, 0, 0, 0, 0, 0, 0, 0, 0, 0, 0, 0, 0, 0, 0, 0, 0, 0, 0, 0, 0, 0, 0, 0, 0, 0, 0, 0, 0, 0, 0] : List UInt8)) 2 0 ([] : Lg) (1, (zB 32), 2, [([120] : List UInt8)].flatten)) (1, (zB 32), 2, [([121] : List UInt8)].flatten)) (anL true (([1, 0, 0, 0, 0, 0, 0, 0, 0, 0, 0, 0, 0, 0, 0, 0, 0, 0, 0, 0, 0, 0, 0, 0, 0, 0, 0, 0, 0, 0, 0, 0] : List UInt8) ++ ([2, 0, 0, 0, 0, 0, 0, 0, 0, 0, 0, 0, 0, 0, 0, 0, 0, 0, 0, 0, 0, 0, 0, 0, 0, 0, 0, 0, 0, 0, 0, 0] : List UInt8)) 2 (anU true 0 ([] : Lg) (1, (zB 32), 2, [([120] : List UInt8)].flatten)) (anL true (([1, 0, 0, 0, 0, 0, 0, 0, 0, 0, 0, 0, 0, 0, 0, 0, 0, 0, 0, 0, 0, 0, 0, 0, 0, 0, 0, 0, 0, 0, 0, 0] : List UInt8) ++ ([2, 0, 0, 0, 0, 0, 0, 0, 0, 0, 0, 0, 0, 0, 0, 0, 0, 0, 0, 0, 0, 0, 0, 0, 0, 0, 0, 0, 0, 0, 0, 0] : List UInt8)) 2 0 ([] : Lg) (1, (zB 32), 2, [([120] : List UInt8)].flatten)) (1, (zB 32), 2, [([121] : List UInt8)].flatten)) (1, (zB 32), 2, [([120] : List UInt8)].flatten)) (1, (zB 32), 3, [([120] : List UInt8)].flatten)).length) lc_139 1 (zB 32) none 0 0 lr (by decide) (by decide) (fun h => absurd h (by decide)) _ (h_154.argR M2)) rfl ?_
 rintro _ w_157 ⟨rfl, hc_156⟩
 have h_158 := h_154.same hc_156
 refine qM (.tuple [(.agg ⟨(zB 32).map vu8⟩), (vi 2)].toArray) rfl rfl (qV rfl (R.extract rfl rfl) (qV rfl (R.extract rfl rfl) ?_))
 refine WL.alloc (segs := [(32, (zB 32).map vu8)]) h_158 (zv typeInfo29 rfl) rfl (sC (s8 lr) sN) rfl (fun b_159 w_160 h_161 => ?_)
 refine WL.storeA [] [(32, (zB 32).map vu8)] [(32, (zB 32).map vu8)] [] h_161 rfl rfl sizeOf29 At.h (by decide) rfl rfl rfl rfl rfl rfl (sC (s8 lr) sN) (fun w_162 h_163 => ?_)
 refine qA (vi 2) rfl rfl ?_
 refine WL.nil (thn_n (WP.seq (WP.reg ?_)))
 refine qM (pO b_16 0) rfl rfl (qV rfl (R.buildS (pl := [(0, 1), (1, 32), (33, 1), (34, 1)]) (zs := [(1, [(vi 0)]), (32, (zB 32).map vu8), (1, [(vi 0)]), (1, [(.slice none 0 0)])]) (vs := [(0, (vi 4)), (2, (vi 1))]) (out := [(1, [(vi 4)]), (32, (zB 32).map vu8), (1, [(vi 1)]), (1, [(.slice none 0 0)])]) underlying39 (zv typeInfo39 rfl) rfl (sC sV (sC (s8 lr) (sC sV (sC sV sN)))) (pl39 _ underlying39) rfl (FillR.cons [] [(1, [(vi 0)])] [(1, [(vi 4)])] [(32, (zB 32).map vu8), (1, [(vi 0)]), (1, [(.slice none 0 0)])] rfl rfl rfl rfl (sC sV sN) rfl rfl rfl (FillR.cons [(1, [(vi 4)]), (32, (zB 32).map vu8)] [(1, [(vi 0)])] [(1, [(vi 1)])] [(1, [(.slice none 0 0)])] rfl rfl rfl rfl (sC sV sN) rfl rfl rfl FillR.nil)) rfl) ?_)
 refine WL.call Tryz.call18 rfl rfl (c_oStrH true b_16 b_17 (zB 32) lr a_18 2 c_19 (anU true (anU true (anU true (anU true 0 ([] : Lg) (1, (zB 32), 2, [([120] : List UInt8)].flatten)) (anL true (([1, 0, 0, 0, 0, 0, 0, 0, 0, 0, 0, 0, 0, 0, 0, 0, 0, 0, 0, 0, 0, 0, 0, 0, 0, 0, 0, 0, 0, 0, 0, 0] : List UInt8) ++ ([2, 0, 0, 0, 0, 0, 0, 0, 0, 0, 0, 0, 0, 0, 0, 0, 0, 0, 0, 0, 0, 0, 0, 0, 0, 0, 0, 0, 0, 0, 0, 0] : List UInt8)) 2 0 ([] : Lg) (1, (zB 32), 2, [([120] : List UInt8)].flatten)) (1, (zB 32), 2, [([121] : List UInt8)].flatten)) (anL true (([1, 0, 0, 0, 0, 0, 0, 0, 0, 0, 0, 0, 0, 0, 0, 0, 0, 0, 0, 0, 0, 0, 0, 0, 0, 0, 0, 0, 0, 0, 0, 0] : List UInt8) ++ ([2, 0, 0, 0, 0, 0, 0, 0, 0, 0, 0, 0, 0, 0, 0, 0, 0, 0, 0, 0, 0, 0, 0, 0, 0, 0, 0, 0, 0, 0, 0, 0] : List UInt8)) 2 (anU true 0 ([] : Lg) (1, (zB 32), 2, [([120] : List UInt8)].flatten)) (anL true (([1, 0, 0, 0, 0, 0, 0, 0, 0, 0, 0, 0, 0, 0, 0, 0, 0, 0, 0, 0, 0, 0, 0, 0, 0, 0, 0, 0, 0, 0, 0, 0] : List UInt8) ++ ([2, 0, 0, 0, 0, 0, 0, 0, 0, 0, 0, 0, 0, 0, 0, 0, 0, 0, 0, 0, 0, 0, 0, 0, 0, 0, 0, 0, 0, 0, 0, 0] : List UInt8)) 2 0 ([] : Lg) (1, (zB 32), 2, [([120] : List UInt8)].flatten)) (1, (zB 32), 2, [([121] : List UInt8)].flatten)) (1, (zB 32), 2, [([120] : List UInt8)].flatten)) (anL true (([1, 0, 0, 0, 0, 0, 0, 0, 0, 0, 0, 0, 0, 0, 0, 0, 0, 0, 0, 0, 0, 0, 0, 0, 0, 0, 0, 0, 0, 0, 0, 0] : List UInt8) ++ ([2, 0, 0, 0, 0, 0, 0, 0, 0, 0, 0, 0, 0, 0, 0, 0, 0, 0, 0, 0, 0, 0, 0, 0, 0, 0, 0, 0, 0, 0, 0, 0] : List UInt8)) 2 (anU true (anU true 0 ([] : Lg) (1, (zB 32), 2, [([120] : List UInt8)].flatten)) (anL true (([1, 0, 0, 0, 0, 0, 0, 0, 0, 0, 0, 0, 0, 0, 0, 0, 0, 0, 0, 0, 0, 0, 0, 0, 0, 0, 0, 0, 0, 0, 0, 0] : List UInt8) ++ ([2, 0, 0, 0, 0, 0, 0, 0, 0, 0, 0, 0, 0, 0, 0, 0, 0, 0, 0, 0, 0, 0, 0, 0, 0, 0, 0, 0, 0, 0, 0, 0] : List UInt8)) 2 0 ([] : Lg) (1, (zB 32), 2, [([120] : List UInt8)].flatten)) (1, (zB 32), 2, [([121] : List UInt8)].flatten)) (anL true (([1, 0, 0, 0, 0, 0, 0, 0, 0, 0, 0, 0, 0, 0, 0, 0, 0, 0, 0, 0, 0, 0, 0, 0, 0, 0, 0, 0, 0, 0, 0, 0] : List UInt8) ++ ([2, 0, 0, 0, 0, 0, 0, 0, 0, 0, 0, 0, 0, 0, 0, 0, 0, 0, 0, 0, 0, 0, 0, 0, 0, 0, 0, 0, 0, 0, 0, 0] : List UInt8)) 2 (anU true 0 ([] : Lg) (1, (zB 32), 2, [([120] : List UInt8)].flatten)) (anL true (([1, 0, 0, 0, 0, 0, 0, 0, 0, 0, 0, 0, 0, 0, 0, 0, 0, 0, 0, 0, 0, 0, 0, 0, 0, 0, 0, 0, 0, 0, 0, 0] : List UInt8) ++ ([2, 0, 0, 0, 0, 0, 0, 0, 0, 0, 0, 0, 0, 0, 0, 0, 0, 0, 0, 0, 0, 0, 0, 0, 0, 0, 0, 0, 0, 0, 0, 0] : List UInt8)) 2 0 ([] : Lg) (1, (zB 32), 2, [([120] : List UInt8)].flatten)) (1, (zB 32), 2, [([121] : List UInt8)].flatten)) (1, (zB 32), 2, [([120] : List UInt8)].flatten)) (1, (zB 32), 3, [([120] : List UInt8)].flatten)) la_138 ((anL true (([1, 0, 0, 0, 0, 0, 0, 0, 0, 0, 0, 0, 0, 0, 0, 0, 0, 0, 0, 0, 0, 0, 0, 0, 0, 0, 0, 0, 0, 0, 0, 0] : List UInt8) ++ ([2, 0, 0, 0, 0, 0, 0, 0, 0, 0, 0, 0, 0, 0, 0, 0, 0, 0, 0, 0, 0, 0, 0, 0, 0, 0, 0, 0, 0, 0, 0, 0] : List UInt8)) 2 (anU true (anU true (anU true 0 ([] : Lg) (1, (zB 32), 2, [([120] : List UInt8)].flatten)) (anL true (([1, 0, 0, 0, 0, 0, 0, 0, 0, 0, 0, 0, 0, 0, 0, 0, 0, 0, 0, 0, 0, 0, 0, 0, 0, 0, 0, 0, 0, 0, 0, 0] : List UInt8) ++ ([2, 0, 0, 0, 0, 0, 0, 0, 0, 0, 0, 0, 0, 0, 0, 0, 0, 0, 0, 0, 0, 0, 0, 0, 0, 0, 0, 0, 0, 0, 0, 0] : List UInt8)) 2 0 ([] : Lg) (1, (zB 32), 2, [([120] : List UInt8)].flatten)) (1, (zB 32), 2, [([121] : List UInt8)].flatten)) (anL true (([1, 0, 0, 0, 0, 0, 0, 0, 0, 0, 0, 0, 0, 0, 0, 0, 0, 0, 0, 0, 0, 0, 0, 0, 0, 0, 0, 0, 0, 0, 0, 0] : List UInt8) ++ ([2, 0, 0, 0, 0, 0, 0, 0, 0, 0, 0, 0, 0, 0, 0, 0, 0, 0, 0, 0, 0, 0, 0, 0, 0, 0, 0, 0, 0, 0, 0, 0] : List UInt8)) 2 (anU true 0 ([] : Lg) (1, (zB 32), 2, [([120] : List UInt8)].flatten)) (anL true (([1, 0, 0, 0, 0, 0, 0, 0, 0, 0, 0, 0, 0, 0, 0, 0, 0, 0, 0, 0, 0, 0, 0, 0, 0, 0, 0, 0, 0, 0, 0, 0] : List UInt8) ++ ([2, 0, 0, 0, 0, 0, 0, 0, 0, 0, 0, 0, 0, 0, 0, 0, 0, 0, 0, 0, 0, 0, 0, 0, 0, 0, 0, 0, 0, 0, 0, 0] : List UInt8)) 2 0 ([] : Lg) (1, (zB 32), 2, [([120] : List UInt8)].flatten)) (1, (zB 32), 2, [([121] : List UInt8)].flatten)) (1, (zB 32), 2, [([120] : List UInt8)].flatten)) (anL true (([1, 0, 0, 0, 0, 0, 0, 0, 0, 0, 0, 0, 0, 0, 0, 0, 0, 0, 0, 0, 0, 0, 0, 0, 0, 0, 0, 0, 0, 0, 0, 0] : List UInt8) ++ ([2, 0, 0, 0, 0, 0, 0, 0, 0, 0, 0, 0, 0, 0, 0, 0, 0, 0, 0, 0, 0, 0, 0, 0, 0, 0, 0, 0, 0, 0, 0, 0] : List UInt8)) 2 (anU true (anU true 0 ([] : Lg) (1, (zB 32), 2, [([120] : List UInt8)].flatten)) (anL true (([1, 0, 0, 0, 0, 0, 0, 0, 0, 0, 0, 0, 0, 0, 0, 0, 0, 0, 0, 0, 0, 0, 0, 0, 0, 0, 0, 0, 0, 0, 0, 0] : List UInt8) ++ ([2, 0, 0, 0, 0, 0, 0, 0, 0, 0, 0, 0, 0, 0, 0, 0, 0, 0, 0, 0, 0, 0, 0, 0, 0, 0, 0, 0, 0, 0, 0, 0] : List UInt8)) 2 0 ([] : Lg) (1, (zB 32), 2, [([120] : List UInt8)].flatten)) (1, (zB 32), 2, [([121] : List UInt8)].flatten)) (anL true (([1, 0, 0, 0, 0, 0, 0, 0, 0, 0, 0, 0, 0, 0, 0, 0, 0, 0, 0, 0, 0, 0, 0, 0, 0, 0, 0, 0, 0, 0, 0, 0] : List UInt8) ++ ([2, 0, 0, 0, 0, 0, 0, 0, 0, 0, 0, 0, 0, 0, 0, 0, 0, 0, 0, 0, 0, 0, 0, 0, 0, 0, 0, 0, 0, 0, 0, 0] : List UInt8)) 2 (anU true 0 ([] : Lg) (1, (zB 32), 2, [([120] : List UInt8)].flatten)) (anL true (([1, 0, 0, 0, 0, 0, 0, 0, 0, 0, 0, 0, 0, 0, 0, 0, 0, 0, 0, 0, 0, 0, 0, 0, 0, 0, 0, 0, 0, 0, 0, 0] : List UInt8) ++ ([2, 0, 0, 0, 0, 0, 0, 0, 0, 0, 0, 0, 0, 0, 0, 0, 0, 0, 0, 0, 0, 0, 0, 0, 0, 0, 0, 0, 0, 0, 0, 0] : List UInt8)) 2 0 ([] : Lg) (1, (zB 32), 2, [([120] : List UInt8)].flatten)) (1, (zB 32), 2, [([121] : List UInt8)].flatten)) (1, (zB 32), 2, [([120] : List UInt8)].flatten)) (1, (zB 32), 3, [([120] : List UInt8)].flatten)).length) lc_139 1 (zB 32) none 0 0 lr 1025 (by decide) (by decide) (fun h => absurd h (by decide)) (by decide) _ (h_163.argR M3)) rfl ?_
 rintro _ w_166 ⟨rfl, hc_165⟩
 have h_167 := h_163.same hc_165
 refine qM (.tuple [(.slice none 0 0), (vi 2)].toArray) rfl rfl (qV rfl (R.extract rfl rfl) (qV rfl (R.extract rfl rfl) (qA (.slice none 0 0) rfl rfl (qA (vi 2) rfl rfl ?_))))
 refine WL.nil (thn_n (WP.seq (WP.seq (WP.reg ?_))))
 refine qM (vi 0) rfl rfl (qV rfl (R.bin rfl rfl (bi_neq (r := false) (by decide))) (qM (.bool false) rfl rfl ?_))
 refine WL.want rfl rfl ?_
 refine qM (vi 0) rfl rfl ?_
 refine WL.want rfl rfl ?_
 refine qV rfl (R.bin rfl rfl (bi_neq (r := false) (by decide))) (qV rfl (R.pickF (v := (.bool false)) rfl rfl) (qM (.bool false) rfl rfl ?_))
 refine WL.want rfl rfl ?_
 refine qM (vi 0) rfl rfl ?_
 refine WL.want rfl rfl ?_
 refine qV rfl (R.bin rfl rfl (bi_neq (r := false) (by decide))) (qV rfl (R.pickF (v := (.bool false)) rfl rfl) (qM (.bool false) rfl rfl ?_))
 refine WL.want rfl rfl ?_
 refine qM (vi 0) rfl rfl ?_
 refine WL.want rfl rfl ?_
 refine qV rfl (R.bin rfl rfl (bi_neq (r := false) (by decide))) (qV rfl (R.pickF (v := (.bool false)) rfl rfl) (qM (.bool false) rfl rfl ?_))
 refine WL.want rfl rfl ?_
 refine qM (vi 2) rfl rfl ?_
 refine WL.want rfl rfl ?_
 refine qV rfl (R.bin rfl rfl (bi_neq (r := false) (by decide))) (qV rfl (R.pickF (v := (.bool false)) rfl rfl) (qM (.bool false) rfl rfl ?_))
 refine WL.want rfl rfl ?_
 refine qM (vi 2) rfl rfl ?_
 refine WL.want rfl rfl ?_
 refine qV rfl (R.bin rfl rfl (bi_neq (r := false) (by decide))) (qV rfl (R.pickF (v := (.bool false)) rfl rfl) (qM (.bool false) rfl rfl ?_))
 refine WL.want rfl rfl ?_
 refine qM (vi 2) rfl rfl ?_
 refine WL.want rfl rfl ?_
 refine qV rfl (R.bin rfl rfl (bi_neq (r := false) (by decide))) (qV rfl (R.pickF (v := (.bool false)) rfl rfl) ?_)
 refine WL.nil (thn_n ?_)
 refine WP.condF rfl ?_
 refine WP.skip (thn_n (WP.seq (WP.reg ?_)))
 refine qV rfl (R.loadA [] [(32, (anD true (([1, 0, 0, 0, 0, 0, 0, 0, 0, 0, 0, 0, 0, 0, 0, 0, 0, 0, 0, 0, 0, 0, 0, 0, 0, 0, 0, 0, 0, 0, 0, 0] : List UInt8) ++ ([2, 0, 0, 0, 0, 0, 0, 0, 0, 0, 0, 0, 0, 0, 0, 0, 0, 0, 0, 0, 0, 0, 0, 0, 0, 0, 0, 0, 0, 0, 0, 0] : List UInt8)) 2 0 ([] : Lg) (1, (zB 32), 2, [([120] : List UInt8)].flatten)).map vu8)] [] (cs := (anD true (([1, 0, 0, 0, 0, 0, 0, 0, 0, 0, 0, 0, 0, 0, 0, 0, 0, 0, 0, 0, 0, 0, 0, 0, 0, 0, 0, 0, 0, 0, 0, 0] : List UInt8) ++ ([2, 0, 0, 0, 0, 0, 0, 0, 0, 0, 0, 0, 0, 0, 0, 0, 0, 0, 0, 0, 0, 0, 0, 0, 0, 0, 0, 0, 0, 0, 0, 0] : List UInt8)) 2 0 ([] : Lg) (1, (zB 32), 2, [([120] : List UInt8)].flatten)).map vu8) rfl isAgg29 sizeOf29 (h_167.ok _ M19) rfl rfl rfl rfl) (qV rfl (R.loadA [] [(32, ([1, 0, 0, 0, 0, 0, 0, 0, 0, 0, 0, 0, 0, 0, 0, 0, 0, 0, 0, 0, 0, 0, 0, 0, 0, 0, 0, 0, 0, 0, 0, 0] : List UInt8).map vu8)] [] (cs := ([1, 0, 0, 0, 0, 0, 0, 0, 0, 0, 0, 0, 0, 0, 0, 0, 0, 0, 0, 0, 0, 0, 0, 0, 0, 0, 0, 0, 0, 0, 0, 0] : List UInt8).map vu8) rfl isAgg29 sizeOf29 (h_167.ok _ (.tail _ (.tail _ (.tail _ (.tail _ (.tail _ (.tail _ (.tail _ (.tail _ (.tail _ (.tail _ (.tail _ (.tail _ (.tail _ (.tail _ (.tail _ (.tail _ (.tail _ (.tail _ (.tail _ (.tail _ (.tail _ (.tail _ (.tail _ (.tail _ (.tail _ M0)))))))))))))))))))))))))) rfl rfl rfl rfl) (qV rfl (R.eqA (xs := (anD true (([1, 0, 0, 0, 0, 0, 0, 0, 0, 0, 0, 0, 0, 0, 0, 0, 0, 0, 0, 0, 0, 0, 0, 0, 0, 0, 0, 0, 0, 0, 0, 0] : List UInt8) ++ ([2, 0, 0, 0, 0, 0, 0, 0, 0, 0, 0, 0, 0, 0, 0, 0, 0, 0, 0, 0, 0, 0, 0, 0, 0, 0, 0, 0, 0, 0, 0, 0] : List UInt8)) 2 0 ([] : Lg) (1, (zB 32), 2, [([120] : List UInt8)].flatten)).map vu8) (ys := ([1, 0, 0, 0, 0, 0, 0, 0, 0, 0, 0, 0, 0, 0, 0, 0, 0, 0, 0, 0, 0, 0, 0, 0, 0, 0, 0, 0, 0, 0, 0, 0] : List UInt8).map vu8) (r := true) rfl rfl eqGuardType29 kt29 (by decide) ag29 (Typ.u8s underlying29 ce29 underlying5 ce5 (anD_len (rfl : List.length (([1, 0, 0, 0, 0, 0, 0, 0, 0, 0, 0, 0, 0, 0, 0, 0, 0, 0, 0, 0, 0, 0, 0, 0, 0, 0, 0, 0, 0, 0, 0, 0] : List UInt8) ++ ([2, 0, 0, 0, 0, 0, 0, 0, 0, 0, 0, 0, 0, 0, 0, 0, 0, 0, 0, 0, 0, 0, 0, 0, 0, 0, 0, 0, 0, 0, 0, 0] : List UInt8)) = 64) h32_w_43)) (Typ.u8s underlying29 ce29 underlying5 ce5 (rfl : List.length ([1, 0, 0, 0, 0, 0, 0, 0, 0, 0, 0, 0, 0, 0, 0, 0, 0, 0, 0, 0, 0, 0, 0, 0, 0, 0, 0, 0, 0, 0, 0, 0] : List UInt8) = 32)) (eqT (congrArg (List.map vu8) (by decide +kernel)))) (qM (.bool true) rfl rfl ?_)))
 refine WL.want rfl rfl ?_
 refine qV rfl (R.loadA [] [(32, (anD true (([1, 0, 0, 0, 0, 0, 0, 0, 0, 0, 0, 0, 0, 0, 0, 0, 0, 0, 0, 0, 0, 0, 0, 0, 0, 0, 0, 0, 0, 0, 0, 0] : List UInt8) ++ ([2, 0, 0, 0, 0, 0, 0, 0, 0, 0, 0, 0, 0, 0, 0, 0, 0, 0, 0, 0, 0, 0, 0, 0, 0, 0, 0, 0, 0, 0, 0, 0] : List UInt8)) 2 (anU true 0 ([] : Lg) (1, (zB 32), 2, [([120] : List UInt8)].flatten)) (anL true (([1, 0, 0, 0, 0, 0, 0, 0, 0, 0, 0, 0, 0, 0, 0, 0, 0, 0, 0, 0, 0, 0, 0, 0, 0, 0, 0, 0, 0, 0, 0, 0] : List UInt8) ++ ([2, 0, 0, 0, 0, 0, 0, 0, 0, 0, 0, 0, 0, 0, 0, 0, 0, 0, 0, 0, 0, 0, 0, 0, 0, 0, 0, 0, 0, 0, 0, 0] : List UInt8)) 2 0 ([] : Lg) (1, (zB 32), 2, [([120] : List UInt8)].flatten)) (1, (zB 32), 2, [([121] : List UInt8)].flatten)).map vu8)] [] (cs := (anD true (([1, 0, 0, 0, 0, 0, 0, 0, 0, 0, 0, 0, 0, 0, 0, 0, 0, 0, 0, 0, 0, 0, 0, 0, 0, 0, 0, 0, 0, 0, 0, 0] : List UInt8) ++ ([2, 0, 0, 0, 0, 0, 0, 0, 0, 0, 0, 0, 0, 0, 0, 0, 0, 0, 0, 0, 0, 0, 0, 0, 0, 0, 0, 0, 0, 0, 0, 0] : List UInt8)) 2 (anU true 0 ([] : Lg) (1, (zB 32), 2, [([120] : List UInt8)].flatten)) (anL true (([1, 0, 0, 0, 0, 0, 0, 0, 0, 0, 0, 0, 0, 0, 0, 0, 0, 0, 0, 0, 0, 0, 0, 0, 0, 0, 0, 0, 0, 0, 0, 0] : List UInt8) ++ ([2, 0, 0, 0, 0, 0, 0, 0, 0, 0, 0, 0, 0, 0, 0, 0, 0, 0, 0, 0, 0, 0, 0, 0, 0, 0, 0, 0, 0, 0, 0, 0] : List UInt8)) 2 0 ([] : Lg) (1, (zB 32), 2, [([120] : List UInt8)].flatten)) (1, (zB 32), 2, [([121] : List UInt8)].flatten)).map vu8) rfl isAgg29 sizeOf29 (h_167.ok _ M15) rfl rfl rfl rfl) ?_
 refine WL.want rfl rfl ?_
 refine qV rfl (R.loadA [] [(32, ([2, 0, 0, 0, 0, 0, 0, 0, 0, 0, 0, 0, 0, 0, 0, 0, 0, 0, 0, 0, 0, 0, 0, 0, 0, 0, 0, 0, 0, 0, 0, 0] : List UInt8).map vu8)] [] (cs := ([2, 0, 0, 0, 0, 0, 0, 0, 0, 0, 0, 0, 0, 0, 0, 0, 0, 0, 0, 0, 0, 0, 0, 0, 0, 0, 0, 0, 0, 0, 0, 0] : List UInt8).map vu8) rfl isAgg29 sizeOf29 (h_167.ok _ (.tail _ (.tail _ (.tail _ (.tail _ (.tail _ (.tail _ (.tail _ (.tail _ (.tail _ (.tail _ (.tail _ (.tail _ (.tail _ (.tail _ (.tail _ (.tail _ (.tail _ (.tail _ (.tail _ (.tail _ (.tail _ (.tail _ (.tail _ (.tail _ M0))))))))))))))))))))))))) rfl rfl rfl rfl) ?_
 refine WL.want rfl rfl ?_
 refine qV rfl (R.eqA (xs := (anD true (([1, 0, 0, 0, 0, 0, 0, 0, 0, 0, 0, 0, 0, 0, 0, 0, 0, 0, 0, 0, 0, 0, 0, 0, 0, 0, 0, 0, 0, 0, 0, 0] : List UInt8) ++ ([2, 0, 0, 0, 0, 0, 0, 0, 0, 0, 0, 0, 0, 0, 0, 0, 0, 0, 0, 0, 0, 0, 0, 0, 0, 0, 0, 0, 0, 0, 0, 0] : List UInt8)) 2 (anU true 0 ([] : Lg) (1, (zB 32), 2, [([120] : List UInt8)].flatten)) (anL true (([1, 0, 0, 0, 0, 0, 0, 0, 0, 0, 0, 0, 0, 0, 0, 0, 0, 0, 0, 0, 0, 0, 0, 0, 0, 0, 0, 0, 0, 0, 0, 0] : List UInt8) ++ ([2, 0, 0, 0, 0, 0, 0, 0, 0, 0, 0, 0, 0, 0, 0, 0, 0, 0, 0, 0, 0, 0, 0, 0, 0, 0, 0, 0, 0, 0, 0, 0] : List UInt8)) 2 0 ([] : Lg) (1, (zB 32), 2, [([120] : List UInt8)].flatten)) (1, (zB 32), 2, [([121] : List UInt8)].flatten)).map vu8) (ys := ([2, 0, 0, 0, 0, 0, 0, 0, 0, 0, 0, 0, 0, 0, 0, 0, 0, 0, 0, 0, 0, 0, 0, 0, 0, 0, 0, 0, 0, 0, 0, 0] : List UInt8).map vu8) (r := true) rfl rfl eqGuardType29 kt29 (by decide) ag29 (Typ.u8s underlying29 ce29 underlying5 ce5 (anD_len (rfl : List.length (([1, 0, 0, 0, 0, 0, 0, 0, 0, 0, 0, 0, 0, 0, 0, 0, 0, 0, 0, 0, 0, 0, 0, 0, 0, 0, 0, 0, 0, 0, 0, 0] : List UInt8) ++ ([2, 0, 0, 0, 0, 0, 0, 0, 0, 0, 0, 0, 0, 0, 0, 0, 0, 0, 0, 0, 0, 0, 0, 0, 0, 0, 0, 0, 0, 0, 0, 0] : List UInt8)) = 64) h32_w_74)) (Typ.u8s underlying29 ce29 underlying5 ce5 (rfl : List.length ([2, 0, 0, 0, 0, 0, 0, 0, 0, 0, 0, 0, 0, 0, 0, 0, 0, 0, 0, 0, 0, 0, 0, 0, 0, 0, 0, 0, 0, 0, 0, 0] : List UInt8) = 32)) (eqT (congrArg (List.map vu8) (by decide +kernel)))) (qV rfl (R.pickT (v := (.bool true)) rfl rfl) (qM (.bool true) rfl rfl ?_))
 refine WL.want rfl rfl ?_
 refine qV rfl (R.loadA [] [(32, (anD true (([1, 0, 0, 0, 0, 0, 0, 0, 0, 0, 0, 0, 0, 0, 0, 0, 0, 0, 0, 0, 0, 0, 0, 0, 0, 0, 0, 0, 0, 0, 0, 0] : List UInt8) ++ ([2, 0, 0, 0, 0, 0, 0, 0, 0, 0, 0, 0, 0, 0, 0, 0, 0, 0, 0, 0, 0, 0, 0, 0, 0, 0, 0, 0, 0, 0, 0, 0] : List UInt8)) 2 (anU true (anU true 0 ([] : Lg) (1, (zB 32), 2, [([120] : List UInt8)].flatten)) (anL true (([1, 0, 0, 0, 0, 0, 0, 0, 0, 0, 0, 0, 0, 0, 0, 0, 0, 0, 0, 0, 0, 0, 0, 0, 0, 0, 0, 0, 0, 0, 0, 0] : List UInt8) ++ ([2, 0, 0, 0, 0, 0, 0, 0, 0, 0, 0, 0, 0, 0, 0, 0, 0, 0, 0, 0, 0, 0, 0, 0, 0, 0, 0, 0, 0, 0, 0, 0] : List UInt8)) 2 0 ([] : Lg) (1, (zB 32), 2, [([120] : List UInt8)].flatten)) (1, (zB 32), 2, [([121] : List UInt8)].flatten)) (anL true (([1, 0, 0, 0, 0, 0, 0, 0, 0, 0, 0, 0, 0, 0, 0, 0, 0, 0, 0, 0, 0, 0, 0, 0, 0, 0, 0, 0, 0, 0, 0, 0] : List UInt8) ++ ([2, 0, 0, 0, 0, 0, 0, 0, 0, 0, 0, 0, 0, 0, 0, 0, 0, 0, 0, 0, 0, 0, 0, 0, 0, 0, 0, 0, 0, 0, 0, 0] : List UInt8)) 2 (anU true 0 ([] : Lg) (1, (zB 32), 2, [([120] : List UInt8)].flatten)) (anL true (([1, 0, 0, 0, 0, 0, 0, 0, 0, 0, 0, 0, 0, 0, 0, 0, 0, 0, 0, 0, 0, 0, 0, 0, 0, 0, 0, 0, 0, 0, 0, 0] : List UInt8) ++ ([2, 0, 0, 0, 0, 0, 0, 0, 0, 0, 0, 0, 0, 0, 0, 0, 0, 0, 0, 0, 0, 0, 0, 0, 0, 0, 0, 0, 0, 0, 0, 0] : List UInt8)) 2 0 ([] : Lg) (1, (zB 32), 2, [([120] : List UInt8)].flatten)) (1, (zB 32), 2, [([121] : List UInt8)].flatten)) (1, (zB 32), 2, [([120] : List UInt8)].flatten)).map vu8)] [] (cs := (anD true (([1, 0, 0, 0, 0, 0, 0, 0, 0, 0, 0, 0, 0, 0, 0, 0, 0, 0, 0, 0, 0, 0, 0, 0, 0, 0, 0, 0, 0, 0, 0, 0] : List UInt8) ++ ([2, 0, 0, 0, 0, 0, 0, 0, 0, 0, 0, 0, 0, 0, 0, 0, 0, 0, 0, 0, 0, 0, 0, 0, 0, 0, 0, 0, 0, 0, 0, 0] : List UInt8)) 2 (anU true (anU true 0 ([] : Lg) (1, (zB 32), 2, [([120] : List UInt8)].flatten)) (anL true (([1, 0, 0, 0, 0, 0, 0, 0, 0, 0, 0, 0, 0, 0, 0, 0, 0, 0, 0, 0, 0, 0, 0, 0, 0, 0, 0, 0, 0, 0, 0, 0] : List UInt8) ++ ([2, 0, 0, 0, 0, 0, 0, 0, 0, 0, 0, 0, 0, 0, 0, 0, 0, 0, 0, 0, 0, 0, 0, 0, 0, 0, 0, 0, 0, 0, 0, 0] : List UInt8)) 2 0 ([] : Lg) (1, (zB 32), 2, [([120] : List UInt8)].flatten)) (1, (zB 32), 2, [([121] : List UInt8)].flatten)) (anL true (([1, 0, 0, 0, 0, 0, 0, 0, 0, 0, 0, 0, 0, 0, 0, 0, 0, 0, 0, 0, 0, 0, 0, 0, 0, 0, 0, 0, 0, 0, 0, 0] : List UInt8) ++ ([2, 0, 0, 0, 0, 0, 0, 0, 0, 0, 0, 0, 0, 0, 0, 0, 0, 0, 0, 0, 0, 0, 0, 0, 0, 0, 0, 0, 0, 0, 0, 0] : List UInt8)) 2 (anU true 0 ([] : Lg) (1, (zB 32), 2, [([120] : List UInt8)].flatten)) (anL true (([1, 0, 0, 0, 0, 0, 0, 0, 0, 0, 0, 0, 0, 0, 0, 0, 0, 0, 0, 0, 0, 0, 0, 0, 0, 0, 0, 0, 0, 0, 0, 0] : List UInt8) ++ ([2, 0, 0, 0, 0, 0, 0, 0, 0, 0, 0, 0, 0, 0, 0, 0, 0, 0, 0, 0, 0, 0, 0, 0, 0, 0, 0, 0, 0, 0, 0, 0] : List UInt8)) 2 0 ([] : Lg) (1, (zB 32), 2, [([120] : List UInt8)].flatten)) (1, (zB 32), 2, [([121] : List UInt8)].flatten)) (1, (zB 32), 2, [([120] : List UInt8)].flatten)).map vu8) rfl isAgg29 sizeOf29 (h_167.ok _ M11) rfl rfl rfl rfl) ?_
 refine WL.want rfl rfl ?_
 refine qV rfl (R.loadA [] [(32, ([1, 0, 0, 0, 0, 0, 0, 0, 0, 0, 0, 0, 0, 0, 0, 0, 0, 0, 0, 0, 0, 0, 0, 0, 0, 0, 0, 0, 0, 0, 0, 0] : List UInt8).map vu8)] [] (cs := ([1, 0, 0, 0, 0, 0, 0, 0, 0, 0, 0, 0, 0, 0, 0, 0, 0, 0, 0, 0, 0, 0, 0, 0, 0, 0, 0, 0, 0, 0, 0, 0] : List UInt8).map vu8) rfl isAgg29 sizeOf29 (h_167.ok _ (.tail _ (.tail _ (.tail _ (.tail _ (.tail _ (.tail _ (.tail _ (.tail _ (.tail _ (.tail _ (.tail _ (.tail _ (.tail _ (.tail _ (.tail _ (.tail _ (.tail _ (.tail _ (.tail _ (.tail _ (.tail _ (.tail _ (.tail _ (.tail _ (.tail _ M0)))))))))))))))))))))))))) rfl rfl rfl rfl) ?_
 refine WL.want rfl rfl ?_
 refine qV rfl (R.eqA (xs := (anD true (([1, 0, 0, 0, 0, 0, 0, 0, 0, 0, 0, 0, 0, 0, 0, 0, 0, 0, 0, 0, 0, 0, 0, 0, 0, 0, 0, 0, 0, 0, 0, 0] : List UInt8) ++ ([2, 0, 0, 0, 0, 0, 0, 0, 0, 0, 0, 0, 0, 0, 0, 0, 0, 0, 0, 0, 0, 0, 0, 0, 0, 0, 0, 0, 0, 0, 0, 0] : List UInt8)) 2 (anU true (anU true 0 ([] : Lg) (1, (zB 32), 2, [([120] : List UInt8)].flatten)) (anL true (([1, 0, 0, 0, 0, 0, 0, 0, 0, 0, 0, 0, 0, 0, 0, 0, 0, 0, 0, 0, 0, 0, 0, 0, 0, 0, 0, 0, 0, 0, 0, 0] : List UInt8) ++ ([2, 0, 0, 0, 0, 0, 0, 0, 0, 0, 0, 0, 0, 0, 0, 0, 0, 0, 0, 0, 0, 0, 0, 0, 0, 0, 0, 0, 0, 0, 0, 0] : List UInt8)) 2 0 ([] : Lg) (1, (zB 32), 2, [([120] : List UInt8)].flatten)) (1, (zB 32), 2, [([121] : List UInt8)].flatten)) (anL true (([1, 0, 0, 0, 0, 0, 0, 0, 0, 0, 0, 0, 0, 0, 0, 0, 0, 0, 0, 0, 0, 0, 0, 0, 0, 0, 0, 0, 0, 0, 0, 0] : List UInt8) ++ ([2, 0, 0, 0, 0, 0, 0, 0, 0, 0, 0, 0, 0, 0, 0, 0, 0, 0, 0, 0, 0, 0, 0, 0, 0, 0, 0, 0, 0, 0, 0, 0] : List UInt8)) 2 (anU true 0 ([] : Lg) (1, (zB 32), 2, [([120] : List UInt8)].flatten)) (anL true (([1, 0, 0, 0, 0, 0, 0, 0, 0, 0, 0, 0, 0, 0, 0, 0, 0, 0, 0, 0, 0, 0, 0, 0, 0, 0, 0, 0, 0, 0, 0, 0] : List UInt8) ++ ([2, 0, 0, 0, 0, 0, 0, 0, 0, 0, 0, 0, 0, 0, 0, 0, 0, 0, 0, 0, 0, 0, 0, 0, 0, 0, 0, 0, 0, 0, 0, 0] : List UInt8)) 2 0 ([] : Lg) (1, (zB 32), 2, [([120] : List UInt8)].flatten)) (1, (zB 32), 2, [([121] : List UInt8)].flatten)) (1, (zB 32), 2, [([120] : List UInt8)].flatten)).map vu8) (ys := ([1, 0, 0, 0, 0, 0, 0, 0, 0, 0, 0, 0, 0, 0, 0, 0, 0, 0, 0, 0, 0, 0, 0, 0, 0, 0, 0, 0, 0, 0, 0, 0] : List UInt8).map vu8) (r := true) rfl rfl eqGuardType29 kt29 (by decide) ag29 (Typ.u8s underlying29 ce29 underlying5 ce5 (anD_len (rfl : List.length (([1, 0, 0, 0, 0, 0, 0, 0, 0, 0, 0, 0, 0, 0, 0, 0, 0, 0, 0, 0, 0, 0, 0, 0, 0, 0, 0, 0, 0, 0, 0, 0] : List UInt8) ++ ([2, 0, 0, 0, 0, 0, 0, 0, 0, 0, 0, 0, 0, 0, 0, 0, 0, 0, 0, 0, 0, 0, 0, 0, 0, 0, 0, 0, 0, 0, 0, 0] : List UInt8)) = 64) h32_w_105)) (Typ.u8s underlying29 ce29 underlying5 ce5 (rfl : List.length ([1, 0, 0, 0, 0, 0, 0, 0, 0, 0, 0, 0, 0, 0, 0, 0, 0, 0, 0, 0, 0, 0, 0, 0, 0, 0, 0, 0, 0, 0, 0, 0] : List UInt8) = 32)) (eqT (congrArg (List.map vu8) (by decide +kernel)))) (qV rfl (R.pickT (v := (.bool true)) rfl rfl) (qM (.bool true) rfl rfl ?_))
 refine WL.want rfl rfl ?_
 refine qV rfl (R.loadA [] [(32, (anD true (([1, 0, 0, 0, 0, 0, 0, 0, 0, 0, 0, 0, 0, 0, 0, 0, 0, 0, 0, 0, 0, 0, 0, 0, 0, 0, 0, 0, 0, 0, 0, 0] : List UInt8) ++ ([2, 0, 0, 0, 0, 0, 0, 0, 0, 0, 0, 0, 0, 0, 0, 0, 0, 0, 0, 0, 0, 0, 0, 0, 0, 0, 0, 0, 0, 0, 0, 0] : List UInt8)) 2 (anU true (anU true (anU true 0 ([] : Lg) (1, (zB 32), 2, [([120] : List UInt8)].flatten)) (anL true (([1, 0, 0, 0, 0, 0, 0, 0, 0, 0, 0, 0, 0, 0, 0, 0, 0, 0, 0, 0, 0, 0, 0, 0, 0, 0, 0, 0, 0, 0, 0, 0] : List UInt8) ++ ([2, 0, 0, 0, 0, 0, 0, 0, 0, 0, 0, 0, 0, 0, 0, 0, 0, 0, 0, 0, 0, 0, 0, 0, 0, 0, 0, 0, 0, 0, 0, 0] : List UInt8)) 2 0 ([] : Lg) (1, (zB 32), 2, [([120] : List UInt8)].flatten)) (1, (zB 32), 2, [([121] : List UInt8)].flatten)) (anL true (([1, 0, 0, 0, 0, 0, 0, 0, 0, 0, 0, 0, 0, 0, 0, 0, 0, 0, 0, 0, 0, 0, 0, 0, 0, 0, 0, 0, 0, 0, 0, 0] : List UInt8) ++ ([2, 0, 0, 0, 0, 0, 0, 0, 0, 0, 0, 0, 0, 0, 0, 0, 0, 0, 0, 0, 0, 0, 0, 0, 0, 0, 0, 0, 0, 0, 0, 0] : List UInt8)) 2 (anU true 0 ([] : Lg) (1, (zB 32), 2, [([120] : List UInt8)].flatten)) (anL true (([1, 0, 0, 0, 0, 0, 0, 0, 0, 0, 0, 0, 0, 0, 0, 0, 0, 0, 0, 0, 0, 0, 0, 0, 0, 0, 0, 0, 0, 0, 0, 0] : List UInt8) ++ ([2, 0, 0, 0, 0, 0, 0, 0, 0, 0, 0, 0, 0, 0, 0, 0, 0, 0, 0, 0, 0, 0, 0, 0, 0, 0, 0, 0, 0, 0, 0, 0] : List UInt8)) 2 0 ([] : Lg) (1, (zB 32), 2, [([120] : List UInt8)].flatten)) (1, (zB 32), 2, [([121] : List UInt8)].flatten)) (1, (zB 32), 2, [([120] : List UInt8)].flatten)) (anL true (([1, 0, 0, 0, 0, 0, 0, 0, 0, 0, 0, 0, 0, 0, 0, 0, 0, 0, 0, 0, 0, 0, 0, 0, 0, 0, 0, 0, 0, 0, 0, 0] : List UInt8) ++ ([2, 0, 0, 0, 0, 0, 0, 0, 0, 0, 0, 0, 0, 0, 0, 0, 0, 0, 0, 0, 0, 0, 0, 0, 0, 0, 0, 0, 0, 0, 0, 0] : List UInt8)) 2 (anU true (anU true 0 ([] : Lg) (1, (zB 32), 2, [([120] : List UInt8)].flatten)) (anL true (([1, 0, 0, 0, 0, 0, 0, 0, 0, 0, 0, 0, 0, 0, 0, 0, 0, 0, 0, 0, 0, 0, 0, 0, 0, 0, 0, 0, 0, 0, 0, 0] : List UInt8) ++ ([2, 0, 0, 0, 0, 0, 0, 0, 0, 0, 0, 0, 0, 0, 0, 0, 0, 0, 0, 0, 0, 0, 0, 0, 0, 0, 0, 0, 0, 0, 0, 0] : List UInt8)) 2 0 ([] : Lg) (1, (zB 32), 2, [([120] : List UInt8)].flatten)) (1, (zB 32), 2, [([121] : List UInt8)].flatten)) (anL true (([1, 0, 0, 0, 0, 0, 0, 0, 0, 0, 0, 0, 0, 0, 0, 0, 0, 0, 0, 0, 0, 0, 0, 0, 0, 0, 0, 0, 0, 0, 0, 0] : List UInt8) ++ ([2, 0, 0, 0, 0, 0, 0, 0, 0, 0, 0, 0, 0, 0, 0, 0, 0, 0, 0, 0, 0, 0, 0, 0, 0, 0, 0, 0, 0, 0, 0, 0] : List UInt8)) 2 (anU true 0 ([] : Lg) (1, (zB 32), 2, [([120] : List UInt8)].flatten)) (anL true (([1, 0, 0, 0, 0, 0, 0, 0, 0, 0, 0, 0, 0, 0, 0, 0, 0, 0, 0, 0, 0, 0, 0, 0, 0, 0, 0, 0, 0, 0, 0, 0] : List UInt8) ++ ([2, 0, 0, 0, 0, 0, 0, 0, 0, 0, 0, 0, 0, 0, 0, 0, 0, 0, 0, 0, 0, 0, 0, 0, 0, 0, 0, 0, 0, 0, 0, 0] : List UInt8)) 2 0 ([] : Lg) (1, (zB 32), 2, [([120] : List UInt8)].flatten)) (1, (zB 32), 2, [([121] : List UInt8)].flatten)) (1, (zB 32), 2, [([120] : List UInt8)].flatten)) (1, (zB 32), 3, [([120] : List UInt8)].flatten)).map vu8)] [] (cs := (anD true (([1, 0, 0, 0, 0, 0, 0, 0, 0, 0, 0, 0, 0, 0, 0, 0, 0, 0, 0, 0, 0, 0, 0, 0, 0, 0, 0, 0, 0, 0, 0, 0] : List UInt8) ++ ([2, 0, 0, 0, 0, 0, 0, 0, 0, 0, 0, 0, 0, 0, 0, 0, 0, 0, 0, 0, 0, 0, 0, 0, 0, 0, 0, 0, 0, 0, 0, 0] : List UInt8)) 2 (anU true (anU true (anU true 0 ([] : Lg) (1, (zB 32), 2, [([120] : List UInt8)].flatten)) (anL true (([1, 0, 0, 0, 0, 0, 0, 0, 0, 0, 0, 0, 0, 0, 0, 0, 0, 0, 0, 0, 0, 0, 0, 0, 0, 0, 0, 0, 0, 0, 0, 0] : List UInt8) ++ ([2, 0, 0, 0, 0, 0, 0, 0, 0, 0, 0, 0, 0, 0, 0, 0, 0, 0, 0, 0, 0, 0, 0, 0, 0, 0, 0, 0, 0, 0, 0, 0] : List UInt8)) 2 0 ([] : Lg) (1, (zB 32), 2, [([120] : List UInt8)].flatten)) (1, (zB 32), 2, [([121] : List UInt8)].flatten)) (anL true (([1, 0, 0, 0, 0, 0, 0, 0, 0, 0, 0, 0, 0, 0, 0, 0, 0, 0, 0, 0, 0, 0, 0, 0, 0, 0, 0, 0, 0, 0, 0, 0] : List UInt8) ++ ([2, 0, 0, 0, 0, 0, 0, 0, 0, 0, 0, 0, 0, 0, 0, 0, 0, 0, 0, 0, 0, 0, 0, 0, 0, 0, 0, 0, 0, 0, 0, 0] : List UInt8)) 2 (anU true 0 ([] : Lg) (1, (zB 32), 2, [([120] : List UInt8)].flatten)) (anL true (([1, 0, 0, 0, 0, 0, 0, 0, 0, 0, 0, 0, 0, 0, 0, 0, 0, 0, 0, 0, 0, 0, 0, 0, 0, 0, 0, 0, 0, 0, 0, 0] : List UInt8) ++ ([2, 0, 0, 0, 0, 0, 0, 0, 0, 0, 0, 0, 0, 0, 0, 0, 0, 0, 0, 0, 0, 0, 0, 0, 0, 0, 0, 0, 0, 0, 0, 0] : List UInt8)) 2 0 ([] : Lg) (1, (zB 32), 2, [([120] : List UInt8)].flatten)) (1, (zB 32), 2, [([121] : List UInt8)].flatten)) (1, (zB 32), 2, [([120] : List UInt8)].flatten)) (anL true (([1, 0, 0, 0, 0, 0, 0, 0, 0, 0, 0, 0, 0, 0, 0, 0, 0, 0, 0, 0, 0, 0, 0, 0, 0, 0, 0, 0, 0, 0, 0, 0] : List UInt8) ++ ([2, 0, 0, 0, 0, 0, 0, 0, 0, 0, 0, 0, 0, 0, 0, 0, 0, 0, 0, 0, 0, 0, 0, 0, 0, 0, 0, 0, 0, 0, 0, 0] : List UInt8)) 2 (anU true (anU true 0 ([] : Lg) (1, (zB 32), 2, [([120] : List UInt8)].flatten)) (anL true (([1, 0, 0, 0, 0, 0, 0, 0, 0, 0, 0, 0, 0, 0, 0, 0, 0, 0, 0, 0, 0, 0, 0, 0, 0, 0, 0, 0, 0, 0, 0, 0] : List UInt8) ++ ([2, 0, 0, 0, 0, 0, 0, 0, 0, 0, 0, 0, 0, 0, 0, 0, 0, 0, 0, 0, 0, 0, 0, 0, 0, 0, 0, 0, 0, 0, 0, 0] : List UInt8)) 2 0 ([] : Lg) (1, (zB 32), 2, [([120] : List UInt8)].flatten)) (1, (zB 32), 2, [([121] : List UInt8)].flatten)) (anL true (([1, 0, 0, 0, 0, 0, 0, 0, 0, 0, 0, 0, 0, 0, 0, 0, 0, 0, 0, 0, 0, 0, 0, 0, 0, 0, 0, 0, 0, 0, 0, 0] : List UInt8) ++ ([2, 0, 0, 0, 0, 0, 0, 0, 0, 0, 0, 0, 0, 0, 0, 0, 0, 0, 0, 0, 0, 0, 0, 0, 0, 0, 0, 0, 0, 0, 0, 0] : List UInt8)) 2 (anU true 0 ([] : Lg) (1, (zB 32), 2, [([120] : List UInt8)].flatten)) (anL true (([1, 0, 0, 0, 0, 0, 0, 0, 0, 0, 0, 0, 0, 0, 0, 0, 0, 0, 0, 0, 0, 0, 0, 0, 0, 0, 0, 0, 0, 0, 0, 0] : List UInt8) ++ ([2, 0, 0, 0, 0, 0, 0, 0, 0, 0, 0, 0, 0, 0, 0, 0, 0, 0, 0, 0, 0, 0, 0, 0, 0, 0, 0, 0, 0, 0, 0, 0] : List UInt8)) 2 0 ([] : Lg) (1, (zB 32), 2, [([120] : List UInt8)].flatten)) (1, (zB 32), 2, [([121] : List UInt8)].flatten)) (1, (zB 32), 2, [([120] : List UInt8)].flatten)) (1, (zB 32), 3, [([120] : List UInt8)].flatten)).map vu8) rfl isAgg29 sizeOf29 (h_167.ok _ M2) rfl rfl rfl rfl) ?_
 refine WL.want rfl rfl ?_
 refine qV rfl (R.buildA (vs := [(0, (vu8 2)), (31, (vu8 1))]) (cs := ([2, 0, 0, 0, 0, 0, 0, 0, 0, 0, 0, 0, 0, 0, 0, 0, 0, 0, 0, 0, 0, 0, 0, 0, 0, 0, 0, 0, 0, 0, 0, 1] : List UInt8).map vu8) underlying29 sizeOf5 (zv typeInfo29 rfl) rfl rfl) ?_
 refine WL.want rfl rfl ?_
 refine qV rfl (R.eqA (xs := (anD true (([1, 0, 0, 0, 0, 0, 0, 0, 0, 0, 0, 0, 0, 0, 0, 0, 0, 0, 0, 0, 0, 0, 0, 0, 0, 0, 0, 0, 0, 0, 0, 0] : List UInt8) ++ ([2, 0, 0, 0, 0, 0, 0, 0, 0, 0, 0, 0, 0, 0, 0, 0, 0, 0, 0, 0, 0, 0, 0, 0, 0, 0, 0, 0, 0, 0, 0, 0] : List UInt8)) 2 (anU true (anU true (anU true 0 ([] : Lg) (1, (zB 32), 2, [([120] : List UInt8)].flatten)) (anL true (([1, 0, 0, 0, 0, 0, 0, 0, 0, 0, 0, 0, 0, 0, 0, 0, 0, 0, 0, 0, 0, 0, 0, 0, 0, 0, 0, 0, 0, 0, 0, 0] : List UInt8) ++ ([2, 0, 0, 0, 0, 0, 0, 0, 0, 0, 0, 0, 0, 0, 0, 0, 0, 0, 0, 0, 0, 0, 0, 0, 0, 0, 0, 0, 0, 0, 0, 0] : List UInt8)) 2 0 ([] : Lg) (1, (zB 32), 2, [([120] : List UInt8)].flatten)) (1, (zB 32), 2, [([121] : List UInt8)].flatten)) (anL true (([1, 0, 0, 0, 0, 0, 0, 0, 0, 0, 0, 0, 0, 0, 0, 0, 0, 0, 0, 0, 0, 0, 0, 0, 0, 0, 0, 0, 0, 0, 0, 0] : List UInt8) ++ ([2, 0, 0, 0, 0, 0, 0, 0, 0, 0, 0, 0, 0, 0, 0, 0, 0, 0, 0, 0, 0, 0, 0, 0, 0, 0, 0, 0, 0, 0, 0, 0] : List UInt8)) 2 (anU true 0 ([] : Lg) (1, (zB 32), 2, [([120] : List UInt8)].flatten)) (anL true (([1, 0, 0, 0, 0, 0, 0, 0, 0, 0, 0, 0, 0, 0, 0, 0, 0, 0, 0, 0, 0, 0, 0, 0, 0, 0, 0, 0, 0, 0, 0, 0] : List UInt8) ++ ([2, 0, 0, 0, 0, 0, 0, 0, 0, 0, 0, 0, 0, 0, 0, 0, 0, 0, 0, 0, 0, 0, 0, 0, 0, 0, 0, 0, 0, 0, 0, 0] : List UInt8)) 2 0 ([] : Lg) (1, (zB 32), 2, [([120] : List UInt8)].flatten)) (1, (zB 32), 2, [([121] : List UInt8)].flatten)) (1, (zB 32), 2, [([120] : List UInt8)].flatten)) (anL true (([1, 0, 0, 0, 0, 0, 0, 0, 0, 0, 0, 0, 0, 0, 0, 0, 0, 0, 0, 0, 0, 0, 0, 0, 0, 0, 0, 0, 0, 0, 0, 0] : List UInt8) ++ ([2, 0, 0, 0, 0, 0, 0, 0, 0, 0, 0, 0, 0, 0, 0, 0, 0, 0, 0, 0, 0, 0, 0, 0, 0, 0, 0, 0, 0, 0, 0, 0] : List UInt8)) 2 (anU true (anU true 0 ([] : Lg) (1, (zB 32), 2, [([120] : List UInt8)].flatten)) (anL true (([1, 0, 0, 0, 0, 0, 0, 0, 0, 0, 0, 0, 0, 0, 0, 0, 0, 0, 0, 0, 0, 0, 0, 0, 0, 0, 0, 0, 0, 0, 0, 0] : List UInt8) ++ ([2, 0, 0, 0, 0, 0, 0, 0, 0, 0, 0, 0, 0, 0, 0, 0, 0, 0, 0, 0, 0, 0, 0, 0, 0, 0, 0, 0, 0, 0, 0, 0] : List UInt8)) 2 0 ([] : Lg) (1, (zB 32), 2, [([120] : List UInt8)].flatten)) (1, (zB 32), 2, [([121] : List UInt8)].flatten)) (anL true (([1, 0, 0, 0, 0, 0, 0, 0, 0, 0, 0, 0, 0, 0, 0, 0, 0, 0, 0, 0, 0, 0, 0, 0, 0, 0, 0, 0, 0, 0, 0, 0] : List UInt8) ++ ([2, 0, 0, 0, 0, 0, 0, 0, 0, 0, 0, 0, 0, 0, 0, 0, 0, 0, 0, 0, 0, 0, 0, 0, 0, 0, 0, 0, 0, 0, 0, 0] : List UInt8)) 2 (anU true 0 ([] : Lg) (1, (zB 32), 2, [([120] : List UInt8)].flatten)) (anL true (([1, 0, 0, 0, 0, 0, 0, 0, 0, 0, 0, 0, 0, 0, 0, 0, 0, 0, 0, 0, 0, 0, 0, 0, 0, 0, 0, 0, 0, 0, 0, 0] : List UInt8) ++ ([2, 0, 0, 0, 0, 0, 0, 0, 0, 0, 0, 0, 0, 0, 0, 0, 0, 0, 0, 0, 0, 0, 0, 0, 0, 0, 0, 0, 0, 0, 0, 0] : List UInt8)) 2 0 ([] : Lg) (1, (zB 32), 2, [([120] : List UInt8)].flatten)) (1, (zB 32), 2, [([121] : List UInt8)].flatten)) (1, (zB 32), 2, [([120] : List UInt8)].flatten)) (1, (zB 32), 3, [([120] : List UInt8)].flatten)).map vu8) (ys := ([2, 0, 0, 0, 0, 0, 0, 0, 0, 0, 0, 0, 0, 0, 0, 0, 0, 0, 0, 0, 0, 0, 0, 0, 0, 0, 0, 0, 0, 0, 0, 1] : List UInt8).map vu8) (r := true) rfl rfl eqGuardType29 kt29 (by decide) ag29 (Typ.u8s underlying29 ce29 underlying5 ce5 (anD_len (rfl : List.length (([1, 0, 0, 0, 0, 0, 0, 0, 0, 0, 0, 0, 0, 0, 0, 0, 0, 0, 0, 0, 0, 0, 0, 0, 0, 0, 0, 0, 0, 0, 0, 0] : List UInt8) ++ ([2, 0, 0, 0, 0, 0, 0, 0, 0, 0, 0, 0, 0, 0, 0, 0, 0, 0, 0, 0, 0, 0, 0, 0, 0, 0, 0, 0, 0, 0, 0, 0] : List UInt8)) = 64) h32_w_136)) (Typ.u8s underlying29 ce29 underlying5 ce5 (rfl : List.length ([2, 0, 0, 0, 0, 0, 0, 0, 0, 0, 0, 0, 0, 0, 0, 0, 0, 0, 0, 0, 0, 0, 0, 0, 0, 0, 0, 0, 0, 0, 0, 1] : List UInt8) = 32)) (eqT (congrArg (List.map vu8) (by decide +kernel)))) (qV rfl (R.pickT (v := (.bool true)) rfl rfl) (qM (.bool true) rfl rfl ?_))
 refine WL.want rfl rfl ?_
 refine qM (pO b_16 0) rfl rfl ?_
 refine WL.want rfl rfl ?_
 refine WL.call Tryz.call11 rfl rfl (c_oUsedI true b_16 b_17 (zB 32) lr a_18 2 c_19 (anU true (anU true (anU true (anU true 0 ([] : Lg) (1, (zB 32), 2, [([120] : List UInt8)].flatten)) (anL true (([1, 0, 0, 0, 0, 0, 0, 0, 0, 0, 0, 0, 0, 0, 0, 0, 0, 0, 0, 0, 0, 0, 0, 0, 0, 0, 0, 0, 0, 0, 0, 0] : List UInt8) ++ ([2, 0, 0, 0, 0, 0, 0, 0, 0, 0, 0, 0, 0, 0, 0, 0, 0, 0, 0, 0, 0, 0, 0, 0, 0, 0, 0, 0, 0, 0, 0, 0] : List UInt8)) 2 0 ([] : Lg) (1, (zB 32), 2, [([120] : List UInt8)].flatten)) (1, (zB 32), 2, [([121] : List UInt8)].flatten)) (anL true (([1, 0, 0, 0, 0, 0, 0, 0, 0, 0, 0, 0, 0, 0, 0, 0, 0, 0, 0, 0, 0, 0, 0, 0, 0, 0, 0, 0, 0, 0, 0, 0] : List UInt8) ++ ([2, 0, 0, 0, 0, 0, 0, 0, 0, 0, 0, 0, 0, 0, 0, 0, 0, 0, 0, 0, 0, 0, 0, 0, 0, 0, 0, 0, 0, 0, 0, 0] : List UInt8)) 2 (anU true 0 ([] : Lg) (1, (zB 32), 2, [([120] : List UInt8)].flatten)) (anL true (([1, 0, 0, 0, 0, 0, 0, 0, 0, 0, 0, 0, 0, 0, 0, 0, 0, 0, 0, 0, 0, 0, 0, 0, 0, 0, 0, 0, 0, 0, 0, 0] : List UInt8) ++ ([2, 0, 0, 0, 0, 0, 0, 0, 0, 0, 0, 0, 0, 0, 0, 0, 0, 0, 0, 0, 0, 0, 0, 0, 0, 0, 0, 0, 0, 0, 0, 0] : List UInt8)) 2 0 ([] : Lg) (1, (zB 32), 2, [([120] : List UInt8)].flatten)) (1, (zB 32), 2, [([121] : List UInt8)].flatten)) (1, (zB 32), 2, [([120] : List UInt8)].flatten)) (anL true (([1, 0, 0, 0, 0, 0, 0, 0, 0, 0, 0, 0, 0, 0, 0, 0, 0, 0, 0, 0, 0, 0, 0, 0, 0, 0, 0, 0, 0, 0, 0, 0] : List UInt8) ++ ([2, 0, 0, 0, 0, 0, 0, 0, 0, 0, 0, 0, 0, 0, 0, 0, 0, 0, 0, 0, 0, 0, 0, 0, 0, 0, 0, 0, 0, 0, 0, 0] : List UInt8)) 2 (anU true (anU true 0 ([] : Lg) (1, (zB 32), 2, [([120] : List UInt8)].flatten)) (anL true (([1, 0, 0, 0, 0, 0, 0, 0, 0, 0, 0, 0, 0, 0, 0, 0, 0, 0, 0, 0, 0, 0, 0, 0, 0, 0, 0, 0, 0, 0, 0, 0] : List UInt8) ++ ([2, 0, 0, 0, 0, 0, 0, 0, 0, 0, 0, 0, 0, 0, 0, 0, 0, 0, 0, 0, 0, 0, 0, 0, 0, 0, 0, 0, 0, 0, 0, 0] : List UInt8)) 2 0 ([] : Lg) (1, (zB 32), 2, [([120] : List UInt8)].flatten)) (1, (zB 32), 2, [([121] : List UInt8)].flatten)) (anL true (([1, 0, 0, 0, 0, 0, 0, 0, 0, 0, 0, 0, 0, 0, 0, 0, 0, 0, 0, 0, 0, 0, 0, 0, 0, 0, 0, 0, 0, 0, 0, 0] : List UInt8) ++ ([2, 0, 0, 0, 0, 0, 0, 0, 0, 0, 0, 0, 0, 0, 0, 0, 0, 0, 0, 0, 0, 0, 0, 0, 0, 0, 0, 0, 0, 0, 0, 0] : List UInt8)) 2 (anU true 0 ([] : Lg) (1, (zB 32), 2, [([120] : List UInt8)].flatten)) (anL true (([1, 0, 0, 0, 0, 0, 0, 0, 0, 0, 0, 0, 0, 0, 0, 0, 0, 0, 0, 0, 0, 0, 0, 0, 0, 0, 0, 0, 0, 0, 0, 0] : List UInt8) ++ ([2, 0, 0, 0, 0, 0, 0, 0, 0, 0, 0, 0, 0, 0, 0, 0, 0, 0, 0, 0, 0, 0, 0, 0, 0, 0, 0, 0, 0, 0, 0, 0] : List UInt8)) 2 0 ([] : Lg) (1, (zB 32), 2, [([120] : List UInt8)].flatten)) (1, (zB 32), 2, [([121] : List UInt8)].flatten)) (1, (zB 32), 2, [([120] : List UInt8)].flatten)) (1, (zB 32), 3, [([120] : List UInt8)].flatten)) la_138 ((anL true (([1, 0, 0, 0, 0, 0, 0, 0, 0, 0, 0, 0, 0, 0, 0, 0, 0, 0, 0, 0, 0, 0, 0, 0, 0, 0, 0, 0, 0, 0, 0, 0] : List UInt8) ++ ([2, 0, 0, 0, 0, 0, 0, 0, 0, 0, 0, 0, 0, 0, 0, 0, 0, 0, 0, 0, 0, 0, 0, 0, 0, 0, 0, 0, 0, 0, 0, 0] : List UInt8)) 2 (anU true (anU true (anU true 0 ([] : Lg) (1, (zB 32), 2, [([120] : List UInt8)].flatten)) (anL true (([1, 0, 0, 0, 0, 0, 0, 0, 0, 0, 0, 0, 0, 0, 0, 0, 0, 0, 0, 0, 0, 0, 0, 0, 0, 0, 0, 0, 0, 0, 0, 0] : List UInt8) ++ ([2, 0, 0, 0, 0, 0, 0, 0, 0, 0, 0, 0, 0, 0, 0, 0, 0, 0, 0, 0, 0, 0, 0, 0, 0, 0, 0, 0, 0, 0, 0, 0] : List UInt8)) 2 0 ([] : Lg) (1, (zB 32), 2, [([120] : List UInt8)].flatten)) (1, (zB 32), 2, [([121] : List UInt8)].flatten)) (anL true (([1, 0, 0, 0, 0, 0, 0, 0, 0, 0, 0, 0, 0, 0, 0, 0, 0, 0, 0, 0, 0, 0, 0, 0, 0, 0, 0, 0, 0, 0, 0, 0] : List UInt8) ++ ([2, 0, 0, 0, 0, 0, 0, 0, 0, 0, 0, 0, 0, 0, 0, 0, 0, 0, 0, 0, 0, 0, 0, 0, 0, 0, 0, 0, 0, 0, 0, 0] : List UInt8)) 2 (anU true 0 ([] : Lg) (1, (zB 32), 2, [([120] : List UInt8)].flatten)) (anL true (([1, 0, 0, 0, 0, 0, 0, 0, 0, 0, 0, 0, 0, 0, 0, 0, 0, 0, 0, 0, 0, 0, 0, 0, 0, 0, 0, 0, 0, 0, 0, 0] : List UInt8) ++ ([2, 0, 0, 0, 0, 0, 0, 0, 0, 0, 0, 0, 0, 0, 0, 0, 0, 0, 0, 0, 0, 0, 0, 0, 0, 0, 0, 0, 0, 0, 0, 0] : List UInt8)) 2 0 ([] : Lg) (1, (zB 32), 2, [([120] : List UInt8)].flatten)) (1, (zB 32), 2, [([121] : List UInt8)].flatten)) (1, (zB 32), 2, [([120] : List UInt8)].flatten)) (anL true (([1, 0, 0, 0, 0, 0, 0, 0, 0, 0, 0, 0, 0, 0, 0, 0, 0, 0, 0, 0, 0, 0, 0, 0, 0, 0, 0, 0, 0, 0, 0, 0] : List UInt8) ++ ([2, 0, 0, 0, 0, 0, 0, 0, 0, 0, 0, 0, 0, 0, 0, 0, 0, 0, 0, 0, 0, 0, 0, 0, 0, 0, 0, 0, 0, 0, 0, 0] : List UInt8)) 2 (anU true (anU true 0 ([] : Lg) (1, (zB 32), 2, [([120] : List UInt8)].flatten)) (anL true (([1, 0, 0, 0, 0, 0, 0, 0, 0, 0, 0, 0, 0, 0, 0, 0, 0, 0, 0, 0, 0, 0, 0, 0, 0, 0, 0, 0, 0, 0, 0, 0] : List UInt8) ++ ([2, 0, 0, 0, 0, 0, 0, 0, 0, 0, 0, 0, 0, 0, 0, 0, 0, 0, 0, 0, 0, 0, 0, 0, 0, 0, 0, 0, 0, 0, 0, 0] : List UInt8)) 2 0 ([] : Lg) (1, (zB 32), 2, [([120] : List UInt8)].flatten)) (1, (zB 32), 2, [([121] : List UInt8)].flatten)) (anL true (([1, 0, 0, 0, 0, 0, 0, 0, 0, 0, 0, 0, 0, 0, 0, 0, 0, 0, 0, 0, 0, 0, 0, 0, 0, 0, 0, 0, 0, 0, 0, 0] : List UInt8) ++ ([2, 0, 0, 0, 0, 0, 0, 0, 0, 0, 0, 0, 0, 0, 0, 0, 0, 0, 0, 0, 0, 0, 0, 0, 0, 0, 0, 0, 0, 0, 0, 0] : List UInt8)) 2 (anU true 0 ([] : Lg) (1, (zB 32), 2, [([120] : List UInt8)].flatten)) (anL true (([1, 0, 0, 0, 0, 0, 0, 0, 0, 0, 0, 0, 0, 0, 0, 0, 0, 0, 0, 0, 0, 0, 0, 0, 0, 0, 0, 0, 0, 0, 0, 0] : List UInt8) ++ ([2, 0, 0, 0, 0, 0, 0, 0, 0, 0, 0, 0, 0, 0, 0, 0, 0, 0, 0, 0, 0, 0, 0, 0, 0, 0, 0, 0, 0, 0, 0, 0] : List UInt8)) 2 0 ([] : Lg) (1, (zB 32), 2, [([120] : List UInt8)].flatten)) (1, (zB 32), 2, [([121] : List UInt8)].flatten)) (1, (zB 32), 2, [([120] : List UInt8)].flatten)) (1, (zB 32), 3, [([120] : List UInt8)].flatten)).length) lc_139 _ (h_167.argR M3)) rfl ?_
 rintro _ w_169 ⟨rfl, hc_168⟩
 have h_170 := h_167.same hc_168
 refine WL.want rfl rfl ?_
 refine qV rfl (R.bin rfl rfl (bi_eql (r := decide ((((anU true (anU true (anU true (anU true 0 ([] : Lg) (1, (zB 32), 2, [([120] : List UInt8)].flatten)) (anL true (([1, 0, 0, 0, 0, 0, 0, 0, 0, 0, 0, 0, 0, 0, 0, 0, 0, 0, 0, 0, 0, 0, 0, 0, 0, 0, 0, 0, 0, 0, 0, 0] : List UInt8) ++ ([2, 0, 0, 0, 0, 0, 0, 0, 0, 0, 0, 0, 0, 0, 0, 0, 0, 0, 0, 0, 0, 0, 0, 0, 0, 0, 0, 0, 0, 0, 0, 0] : List UInt8)) 2 0 ([] : Lg) (1, (zB 32), 2, [([120] : List UInt8)].flatten)) (1, (zB 32), 2, [([121] : List UInt8)].flatten)) (anL true (([1, 0, 0, 0, 0, 0, 0, 0, 0, 0, 0, 0, 0, 0, 0, 0, 0, 0, 0, 0, 0, 0, 0, 0, 0, 0, 0, 0, 0, 0, 0, 0] : List UInt8) ++ ([2, 0, 0, 0, 0, 0, 0, 0, 0, 0, 0, 0, 0, 0, 0, 0, 0, 0, 0, 0, 0, 0, 0, 0, 0, 0, 0, 0, 0, 0, 0, 0] : List UInt8)) 2 (anU true 0 ([] : Lg) (1, (zB 32), 2, [([120] : List UInt8)].flatten)) (anL true (([1, 0, 0, 0, 0, 0, 0, 0, 0, 0, 0, 0, 0, 0, 0, 0, 0, 0, 0, 0, 0, 0, 0, 0, 0, 0, 0, 0, 0, 0, 0, 0] : List UInt8) ++ ([2, 0, 0, 0, 0, 0, 0, 0, 0, 0, 0, 0, 0, 0, 0, 0, 0, 0, 0, 0, 0, 0, 0, 0, 0, 0, 0, 0, 0, 0, 0, 0] : List UInt8)) 2 0 ([] : Lg) (1, (zB 32), 2, [([120] : List UInt8)].flatten)) (1, (zB 32), 2, [([121] : List UInt8)].flatten)) (1, (zB 32), 2, [([120] : List UInt8)].flatten)) (anL true (([1, 0, 0, 0, 0, 0, 0, 0, 0, 0, 0, 0, 0, 0, 0, 0, 0, 0, 0, 0, 0, 0, 0, 0, 0, 0, 0, 0, 0, 0, 0, 0] : List UInt8) ++ ([2, 0, 0, 0, 0, 0, 0, 0, 0, 0, 0, 0, 0, 0, 0, 0, 0, 0, 0, 0, 0, 0, 0, 0, 0, 0, 0, 0, 0, 0, 0, 0] : List UInt8)) 2 (anU true (anU true 0 ([] : Lg) (1, (zB 32), 2, [([120] : List UInt8)].flatten)) (anL true (([1, 0, 0, 0, 0, 0, 0, 0, 0, 0, 0, 0, 0, 0, 0, 0, 0, 0, 0, 0, 0, 0, 0, 0, 0, 0, 0, 0, 0, 0, 0, 0] : List UInt8) ++ ([2, 0, 0, 0, 0, 0, 0, 0, 0, 0, 0, 0, 0, 0, 0, 0, 0, 0, 0, 0, 0, 0, 0, 0, 0, 0, 0, 0, 0, 0, 0, 0] : List UInt8)) 2 0 ([] : Lg) (1, (zB 32), 2, [([120] : List UInt8)].flatten)) (1, (zB 32), 2, [([121] : List UInt8)].flatten)) (anL true (([1, 0, 0, 0, 0, 0, 0, 0, 0, 0, 0, 0, 0, 0, 0, 0, 0, 0, 0, 0, 0, 0, 0, 0, 0, 0, 0, 0, 0, 0, 0, 0] : List UInt8) ++ ([2, 0, 0, 0, 0, 0, 0, 0, 0, 0, 0, 0, 0, 0, 0, 0, 0, 0, 0, 0, 0, 0, 0, 0, 0, 0, 0, 0, 0, 0, 0, 0] : List UInt8)) 2 (anU true 0 ([] : Lg) (1, (zB 32), 2, [([120] : List UInt8)].flatten)) (anL true (([1, 0, 0, 0, 0, 0, 0, 0, 0, 0, 0, 0, 0, 0, 0, 0, 0, 0, 0, 0, 0, 0, 0, 0, 0, 0, 0, 0, 0, 0, 0, 0] : List UInt8) ++ ([2, 0, 0, 0, 0, 0, 0, 0, 0, 0, 0, 0, 0, 0, 0, 0, 0, 0, 0, 0, 0, 0, 0, 0, 0, 0, 0, 0, 0, 0, 0, 0] : List UInt8)) 2 0 ([] : Lg) (1, (zB 32), 2, [([120] : List UInt8)].flatten)) (1, (zB 32), 2, [([121] : List UInt8)].flatten)) (1, (zB 32), 2, [([120] : List UInt8)].flatten)) (1, (zB 32), 3, [([120] : List UInt8)].flatten) : Nat) : Int) : Int) = 3)) rfl)) (qV rfl (R.pickT (v := (.bool (decide ((((anU true (anU true (anU true (anU true 0 ([] : Lg) (1, (zB 32), 2, [([120] : List UInt8)].flatten)) (anL true (([1, 0, 0, 0, 0, 0, 0, 0, 0, 0, 0, 0, 0, 0, 0, 0, 0, 0, 0, 0, 0, 0, 0, 0, 0, 0, 0, 0, 0, 0, 0, 0] : List UInt8) ++ ([2, 0, 0, 0, 0, 0, 0, 0, 0, 0, 0, 0, 0, 0, 0, 0, 0, 0, 0, 0, 0, 0, 0, 0, 0, 0, 0, 0, 0, 0, 0, 0] : List UInt8)) 2 0 ([] : Lg) (1, (zB 32), 2, [([120] : List UInt8)].flatten)) (1, (zB 32), 2, [([121] : List UInt8)].flatten)) (anL true (([1, 0, 0, 0, 0, 0, 0, 0, 0, 0, 0, 0, 0, 0, 0, 0, 0, 0, 0, 0, 0, 0, 0, 0, 0, 0, 0, 0, 0, 0, 0, 0] : List UInt8) ++ ([2, 0, 0, 0, 0, 0, 0, 0, 0, 0, 0, 0, 0, 0, 0, 0, 0, 0, 0, 0, 0, 0, 0, 0, 0, 0, 0, 0, 0, 0, 0, 0] : List UInt8)) 2 (anU true 0 ([] : Lg) (1, (zB 32), 2, [([120] : List UInt8)].flatten)) (anL true (([1, 0, 0, 0, 0, 0, 0, 0, 0, 0, 0, 0, 0, 0, 0, 0, 0, 0, 0, 0, 0, 0, 0, 0, 0, 0, 0, 0, 0, 0, 0, 0] : List UInt8) ++ ([2, 0, 0, 0, 0, 0, 0, 0, 0, 0, 0, 0, 0, 0, 0, 0, 0, 0, 0, 0, 0, 0, 0, 0, 0, 0, 0, 0, 0, 0, 0, 0] : List UInt8)) 2 0 ([] : Lg) (1, (zB 32), 2, [([120] : List UInt8)].flatten)) (1, (zB 32), 2, [([121] : List UInt8)].flatten)) (1, (zB 32), 2, [([120] : List UInt8)].flatten)) (anL true (([1, 0, 0, 0, 0, 0, 0, 0, 0, 0, 0, 0, 0, 0, 0, 0, 0, 0, 0, 0, 0, 0, 0, 0, 0, 0, 0, 0, 0, 0, 0, 0] : List UInt8) ++ ([2, 0, 0, 0, 0, 0, 0, 0, 0, 0, 0, 0, 0, 0, 0, 0, 0, 0, 0, 0, 0, 0, 0, 0, 0, 0, 0, 0, 0, 0, 0, 0] : List UInt8)) 2 (anU true (anU true 0 ([] : Lg) (1, (zB 32), 2, [([120] : List UInt8)].flatten)) (anL true (([1, 0, 0, 0, 0, 0, 0, 0, 0, 0, 0, 0, 0, 0, 0, 0, 0, 0, 0, 0, 0, 0, 0, 0, 0, 0, 0, 0, 0, 0, 0, 0] : List UInt8) ++ ([2, 0, 0, 0, 0, 0, 0, 0, 0, 0, 0, 0, 0, 0, 0, 0, 0, 0, 0, 0, 0, 0, 0, 0, 0, 0, 0, 0, 0, 0, 0, 0] : List UInt8)) 2 0 ([] : Lg) (1, (zB 32), 2, [([120] : List UInt8)].flatten)) (1, (zB 32), 2, [([121] : List UInt8)].flatten)) (anL true (([1, 0, 0, 0, 0, 0, 0, 0, 0, 0, 0, 0, 0, 0, 0, 0, 0, 0, 0, 0, 0, 0, 0, 0, 0, 0, 0, 0, 0, 0, 0, 0] : List UInt8) ++ ([2, 0, 0, 0, 0, 0, 0, 0, 0, 0, 0, 0, 0, 0, 0, 0, 0, 0, 0, 0, 0, 0, 0, 0, 0, 0, 0, 0, 0, 0, 0, 0] : List UInt8)) 2 (anU true 0 ([] : Lg) (1, (zB 32), 2, [([120] : List UInt8)].flatten)) (anL true (([1, 0, 0, 0, 0, 0, 0, 0, 0, 0, 0, 0, 0, 0, 0, 0, 0, 0, 0, 0, 0, 0, 0, 0, 0, 0, 0, 0, 0, 0, 0, 0] : List UInt8) ++ ([2, 0, 0, 0, 0, 0, 0, 0, 0, 0, 0, 0, 0, 0, 0, 0, 0, 0, 0, 0, 0, 0, 0, 0, 0, 0, 0, 0, 0, 0, 0, 0] : List UInt8)) 2 0 ([] : Lg) (1, (zB 32), 2, [([120] : List UInt8)].flatten)) (1, (zB 32), 2, [([121] : List UInt8)].flatten)) (1, (zB 32), 2, [([120] : List UInt8)].flatten)) (1, (zB 32), 3, [([120] : List UInt8)].flatten) : Nat) : Int) : Int) = 3)))) rfl rfl) (qA (.bool (decide ((((anU true (anU true (anU true (anU true 0 ([] : Lg) (1, (zB 32), 2, [([120] : List UInt8)].flatten)) (anL true (([1, 0, 0, 0, 0, 0, 0, 0, 0, 0, 0, 0, 0, 0, 0, 0, 0, 0, 0, 0, 0, 0, 0, 0, 0, 0, 0, 0, 0, 0, 0, 0] : List UInt8) ++ ([2, 0, 0, 0, 0, 0, 0, 0, 0, 0, 0, 0, 0, 0, 0, 0, 0, 0, 0, 0, 0, 0, 0, 0, 0, 0, 0, 0, 0, 0, 0, 0] : List UInt8)) 2 0 ([] : Lg) (1, (zB 32), 2, [([120] : List UInt8)].flatten)) (1, (zB 32), 2, [([121] : List UInt8)].flatten)) (anL true (([1, 0, 0, 0, 0, 0, 0, 0, 0, 0, 0, 0, 0, 0, 0, 0, 0, 0, 0, 0, 0, 0, 0, 0, 0, 0, 0, 0, 0, 0, 0, 0] : List UInt8) ++ ([2, 0, 0, 0, 0, 0, 0, 0, 0, 0, 0, 0, 0, 0, 0, 0, 0, 0, 0, 0, 0, 0, 0, 0, 0, 0, 0, 0, 0, 0, 0, 0] : List UInt8)) 2 (anU true 0 ([] : Lg) (1, (zB 32), 2, [([120] : List UInt8)].flatten)) (anL true (([1, 0, 0, 0, 0, 0, 0, 0, 0, 0, 0, 0, 0, 0, 0, 0, 0, 0, 0, 0, 0, 0, 0, 0, 0, 0, 0, 0, 0, 0, 0, 0] : List UInt8) ++ ([2, 0, 0, 0, 0, 0, 0, 0, 0, 0, 0, 0, 0, 0, 0, 0, 0, 0, 0, 0, 0, 0, 0, 0, 0, 0, 0, 0, 0, 0, 0, 0] : List UInt8)) 2 0 ([] : Lg) (1, (zB 32), 2, [([120] : List UInt8)].flatten)) (1, (zB 32), 2, [([121] : List UInt8)].flatten)) (1, (zB 32), 2, [([120] : List UInt8)].flatten)) (anL true (([1, 0, 0, 0, 0, 0, 0, 0, 0, 0, 0, 0, 0, 0, 0, 0, 0, 0, 0, 0, 0, 0, 0, 0, 0, 0, 0, 0, 0, 0, 0, 0] : List UInt8) ++ ([2, 0, 0, 0, 0, 0, 0, 0, 0, 0, 0, 0, 0, 0, 0, 0, 0, 0, 0, 0, 0, 0, 0, 0, 0, 0, 0, 0, 0, 0, 0, 0] : List UInt8)) 2 (anU true (anU true 0 ([] : Lg) (1, (zB 32), 2, [([120] : List UInt8)].flatten)) (anL true (([1, 0, 0, 0, 0, 0, 0, 0, 0, 0, 0, 0, 0, 0, 0, 0, 0, 0, 0, 0, 0, 0, 0, 0, 0, 0, 0, 0, 0, 0, 0, 0] : List UInt8) ++ ([2, 0, 0, 0, 0, 0, 0, 0, 0, 0, 0, 0, 0, 0, 0, 0, 0, 0, 0, 0, 0, 0, 0, 0, 0, 0, 0, 0, 0, 0, 0, 0] : List UInt8)) 2 0 ([] : Lg) (1, (zB 32), 2, [([120] : List UInt8)].flatten)) (1, (zB 32), 2, [([121] : List UInt8)].flatten)) (anL true (([1, 0, 0, 0, 0, 0, 0, 0, 0, 0, 0, 0, 0, 0, 0, 0, 0, 0, 0, 0, 0, 0, 0, 0, 0, 0, 0, 0, 0, 0, 0, 0] : List UInt8) ++ ([2, 0, 0, 0, 0, 0, 0, 0, 0, 0, 0, 0, 0, 0, 0, 0, 0, 0, 0, 0, 0, 0, 0, 0, 0, 0, 0, 0, 0, 0, 0, 0] : List UInt8)) 2 (anU true 0 ([] : Lg) (1, (zB 32), 2, [([120] : List UInt8)].flatten)) (anL true (([1, 0, 0, 0, 0, 0, 0, 0, 0, 0, 0, 0, 0, 0, 0, 0, 0, 0, 0, 0, 0, 0, 0, 0, 0, 0, 0, 0, 0, 0, 0, 0] : List UInt8) ++ ([2, 0, 0, 0, 0, 0, 0, 0, 0, 0, 0, 0, 0, 0, 0, 0, 0, 0, 0, 0, 0, 0, 0, 0, 0, 0, 0, 0, 0, 0, 0, 0] : List UInt8)) 2 0 ([] : Lg) (1, (zB 32), 2, [([120] : List UInt8)].flatten)) (1, (zB 32), 2, [([121] : List UInt8)].flatten)) (1, (zB 32), 2, [([120] : List UInt8)].flatten)) (1, (zB 32), 3, [([120] : List UInt8)].flatten) : Nat) : Int) : Int) = 3))) rfl rfl ?_))
 refine WL.nil (thn_n (WP.ret ?_))
 refine ret_of results6 (RV.tmp (v := (.bool (decide ((((anU true (anU true (anU true (anU true 0 ([] : Lg) (1, (zB 32), 2, [([120] : List UInt8)].flatten)) (anL true (([1, 0, 0, 0, 0, 0, 0, 0, 0, 0, 0, 0, 0, 0, 0, 0, 0, 0, 0, 0, 0, 0, 0, 0, 0, 0, 0, 0, 0, 0, 0, 0] : List UInt8) ++ ([2, 0, 0, 0, 0, 0, 0, 0, 0, 0, 0, 0, 0, 0, 0, 0, 0, 0, 0, 0, 0, 0, 0, 0, 0, 0, 0, 0, 0, 0, 0, 0] : List UInt8)) 2 0 ([] : Lg) (1, (zB 32), 2, [([120] : List UInt8)].flatten)) (1, (zB 32), 2, [([121] : List UInt8)].flatten)) (anL true (([1, 0, 0, 0, 0, 0, 0, 0, 0, 0, 0, 0, 0, 0, 0, 0, 0, 0, 0, 0, 0, 0, 0, 0, 0, 0, 0, 0, 0, 0, 0, 0] : List UInt8) ++ ([2, 0, 0, 0, 0, 0, 0, 0, 0, 0, 0, 0, 0, 0, 0, 0, 0, 0, 0, 0, 0, 0, 0, 0, 0, 0, 0, 0, 0, 0, 0, 0] : List UInt8)) 2 (anU true 0 ([] : Lg) (1, (zB 32), 2, [([120] : List UInt8)].flatten)) (anL true (([1, 0, 0, 0, 0, 0, 0, 0, 0, 0, 0, 0, 0, 0, 0, 0, 0, 0, 0, 0, 0, 0, 0, 0, 0, 0, 0, 0, 0, 0, 0, 0] : List UInt8) ++ ([2, 0, 0, 0, 0, 0, 0, 0, 0, 0, 0, 0, 0, 0, 0, 0, 0, 0, 0, 0, 0, 0, 0, 0, 0, 0, 0, 0, 0, 0, 0, 0] : List UInt8)) 2 0 ([] : Lg) (1, (zB 32), 2, [([120] : List UInt8)].flatten)) (1, (zB 32), 2, [([121] : List UInt8)].flatten)) (1, (zB 32), 2, [([120] : List UInt8)].flatten)) (anL true (([1, 0, 0, 0, 0, 0, 0, 0, 0, 0, 0, 0, 0, 0, 0, 0, 0, 0, 0, 0, 0, 0, 0, 0, 0, 0, 0, 0, 0, 0, 0, 0] : List UInt8) ++ ([2, 0, 0, 0, 0, 0, 0, 0, 0, 0, 0, 0, 0, 0, 0, 0, 0, 0, 0, 0, 0, 0, 0, 0, 0, 0, 0, 0, 0, 0, 0, 0] : List UInt8)) 2 (anU true (anU true 0 ([] : Lg) (1, (zB 32), 2, [([120] : List UInt8)].flatten)) (anL true (([1, 0, 0, 0, 0, 0, 0, 0, 0, 0, 0, 0, 0, 0, 0, 0, 0, 0, 0, 0, 0, 0, 0, 0, 0, 0, 0, 0, 0, 0, 0, 0] : List UInt8) ++ ([2, 0, 0, 0, 0, 0, 0, 0, 0, 0, 0, 0, 0, 0, 0, 0, 0, 0, 0, 0, 0, 0, 0, 0, 0, 0, 0, 0, 0, 0, 0, 0] : List UInt8)) 2 0 ([] : Lg) (1, (zB 32), 2, [([120] : List UInt8)].flatten)) (1, (zB 32), 2, [([121] : List UInt8)].flatten)) (anL true (([1, 0, 0, 0, 0, 0, 0, 0, 0, 0, 0, 0, 0, 0, 0, 0, 0, 0, 0, 0, 0, 0, 0, 0, 0, 0, 0, 0, 0, 0, 0, 0] : List UInt8) ++ ([2, 0, 0, 0, 0, 0, 0, 0, 0, 0, 0, 0, 0, 0, 0, 0, 0, 0, 0, 0, 0, 0, 0, 0, 0, 0, 0, 0, 0, 0, 0, 0] : List UInt8)) 2 (anU true 0 ([] : Lg) (1, (zB 32), 2, [([120] : List UInt8)].flatten)) (anL true (([1, 0, 0, 0, 0, 0, 0, 0, 0, 0, 0, 0, 0, 0, 0, 0, 0, 0, 0, 0, 0, 0, 0, 0, 0, 0, 0, 0, 0, 0, 0, 0] : List UInt8) ++ ([2, 0, 0, 0, 0, 0, 0, 0, 0, 0, 0, 0, 0, 0, 0, 0, 0, 0, 0, 0, 0, 0, 0, 0, 0, 0, 0, 0, 0, 0, 0, 0] : List UInt8)) 2 0 ([] : Lg) (1, (zB 32), 2, [([120] : List UInt8)].flatten)) (1, (zB 32), 2, [([121] : List UInt8)].flatten)) (1, (zB 32), 2, [([120] : List UInt8)].flatten)) (1, (zB 32), 3, [([120] : List UInt8)].flatten) : Nat) : Int) : Int) = 3)))) rfl RV.nil) ?_
 exact ⟨rfl, h_170.chgS⟩
end Go.Proofs.YtajiipjmmoehcaaGreat

namespace Go.Vc
open Go.RowKit
def Taken (P : Program) : List Nat → World → World → Prop
  | [], w, w' => w' = w
  | D :: ds, w, w' => ∃ w1, (Instr.takeDeferred D).run P w = .ok [] w1 ∧ Taken P ds w1 w'
def retM (P : Program) (fn : Func) (R : Value → World → Prop) : Exit → Fr → World → Prop
  | .normal, F, w | .ret, F, w => ∃ w', Taken P F.ds w w' ∧ ∃ v, (∀ tmps : Array Value, (∀ t, tmps.getD t undef = F t) → (results fn tmps).run P w' = .ok v w') ∧ R v w'
  | _, _, _ => False
theorem leaves_taken {P : Program} {fn : Func} {tmps : Array Value} {R : Value → World → Prop} {v : Value} {w' : World} (hr : (results fn tmps).run P w' = .ok v w') (hR : R v w') : ∀ (ds : List Nat) (w : World), Taken P ds w w' →
    LeavesInM Fence.wide 0 P fn tmps (fun e w' => ∃ v, e = .returned v ∧ R v w') (ds.map markD) .returning w
  | [], w, h => by
    have h : w' = w := h
    subst h
    exact ⟨v, hr, v, rfl, hR⟩
  | D :: ds, w, h => by
    obtain ⟨w1, h1, h2⟩ := h
    exact ⟨by simp, .inl ⟨D, w1, rfl, h1, leaves_taken hr hR ds w1 h2⟩⟩
theorem Cs.ofM {P : Program} {f : FuncId} {fn : Func} {c : Code} {args : List Value} {w : World} {R : Value → World → Prop} {n : Nat}
    (hf : P.funcs[f]? = some fn) (hb : fn.body = some c) (hn : fn.ntmps = n) (hl : Nat.ble args.length n = true)
    (h : WP P n c (retM P fn R) (argF args 0 fr0) w) : Cs P f args.toArray w R := by
  have hl' : args.length ≤ n := Nat.le_of_ble_eq_true hl
  refine callsIn_wide.1 (callsIn_of_wp_marks (F := Fence.wide) (n := 0) hf hb trivial (wpIn_wide.2 ?_) rfl)
  refine Code.wp_mono ?_ (h _ ⟨by rw [argF_ds]; rfl, by simp [hn]; omega, fun t => ?_⟩)
  · rintro e a w ⟨F, r, q⟩
    cases e with
    | normal => obtain ⟨w', ht, v, hv, hR⟩ := q; show LeavesInM _ _ _ _ _ _ a.defers _ _; rw [r.defers]; exact leaves_taken (hv _ r.get) hR _ _ ht
    | ret => obtain ⟨w', ht, v, hv, hR⟩ := q; show LeavesInM _ _ _ _ _ _ a.defers _ _; rw [r.defers]; exact leaves_taken (hv _ r.get) hR _ _ ht
    | exit id => exact q.elim
    | goto l => exact q.elim
    | panic c => exact q.elim
    | outgrown => exact q.elim
  · rw [argF_get]
    simp only [Nat.zero_le, if_true, Nat.sub_zero, fr0, Array.getD_eq_getD_getElem?]
    by_cases ht : t < args.length
    · simp [Array.getElem?_append, ht]
    · have : args[t]? = none := by simp; omega
      rw [this]
      simp only [Option.getD_none, Array.getElem?_append, List.size_toArray, if_neg ht, Array.getElem?_replicate]
      split <;> rfl
section
variable {P : Program} {n : Nat} {Q : Exit → Fr → World → Prop} {F : Fr} {w w0 : World} {L : List Ent}
theorem HP.taken (R : World → Prop) : ∀ (ds : List Nat) {w : World} {L : List Ent}, HP w0 w (ds.map (fun D => Ent.obj D .nw (.deferred (some []))) ++ L) → ∃ w', Taken P ds w w' ∧ HP w0 w' L
  | [], w, L, h => ⟨w, rfl, h⟩
  | D :: ds, w, L, h => by
    obtain ⟨hD, hB⟩ := h.ok _ (List.mem_cons_self ..)
    have hlt := (Array.getElem?_eq_some_iff.1 hD).1
    have h2 : HP w0 (w.putObj D (.deferred none)) (.obj D .nw (.deferred none) :: (ds.map (fun D => Ent.obj D .nw (.deferred (some []))) ++ L)) :=
      h.set (e' := .obj D .nw (.deferred none)) .h rfl ⟨rfl, rfl, rfl, by simp, fun k _ hk => World.putObj_heap_other (by simpa [Ent.blocks] using hk)⟩ ⟨World.putObj_heap_same hlt, hB⟩ (fun b hb => .inl hb) (fun hh => by cases hh) (fun _ b hb => by simp only [Ent.blocks, List.mem_singleton] at hb; subst hb; exact hB)
    obtain ⟨w', ht, h3⟩ := HP.taken R ds (h2.drop rfl)
    exact ⟨w', ⟨_, run_takeDeferred hD, ht⟩, h3⟩
theorem RV.ds {w : World} {rs : List ResultVar} {vs : List Value} (h : RV P F w rs vs) : RV P ⟨F.t, []⟩ w rs vs := by
  induction h with
  | nil => exact .nil
  | tmp h _ ih => exact .tmp h ih
  | cell h hl _ ih => exact .cell h hl ih
theorem retM_of {fn : Func} {R : Value → World → Prop} {w' : World} {rs : List ResultVar} {vs : List Value} (ht : Taken P F.ds w w') (hr : fn.results = rs.toArray) (h : RV P F w' rs vs) (k : R (packed vs) w') : retM P fn R .ret F w := by
  have h0 := ret_of (fn := fn) (R := R) (F := ⟨F.t, []⟩) hr (w := w') (vs := vs) (RV.ds h) k rfl
  exact ⟨w', ht, h0.2⟩
end
end Go.Vc
namespace Go.Vc
open Go.RowKit
section
variable {P : Program} {F : Fr} {w : World} {ty : TypeId} {pos : String} {after : Array Edge} {dst : Option Tmp} {g : Option (Nat × Bool)}
theorem eq_nilF {T : TypeId} {ps rs : Array TypeId} {v : Bool} {f : Fn} {fi ca : Array Value} (hT : P.underlying T = some (.func ps rs v)) (d : Nat) : (Op.equalIn (d + 1) T (.func f fi ca) .nilFunc).run P w = .ok false w := by
  unfold Op.equalIn
  rw [Sem.run_bind, run_underlying hT]
  rfl
theorem R.eqNilF {T T' : TypeId} {x y : Operand} {ps rs : Array TypeId} {v : Bool} {f : Fn} {fi ca : Array Value} (hx : evO F x = .func f fi ca) (hy : evO F y = .nilFunc) (hT : P.underlying T = some (.func ps rs v)) :
    (execOp (evO F) ⟨dst, .binOp .eql T x y T', ty, pos, after, g⟩).run P w = .ok (.value (.bool false)) w := R.eqOf hx hy rfl (eq_nilF hT) rfl
end
end Go.Vc

namespace Go.Vc
open Go.RowKit
def nd (o : Oper) : Bool := match o.op with | .defer _ => false | _ => true
theorem nd_ne {o : Oper} (h : nd o = true) : ∀ c, o.op ≠ .defer c := by
  intro c e
  unfold nd at h
  rw [e] at h
  cases h
abbrev Rf (ro : Option Nat) : Fence := { Fence.wide with round := ro }
section
variable {P : Program} {n : Nat} {ops : Array Oper} {ro : Option Nat}
theorem wpIn_of_wp {o : Oper} {a : Act} {w : World} {next next' : Act → World → Prop} {Q Q' : Exit → Act → World → Prop} (hd : nd o = true) (hn : ∀ a w, next a w → next' a w) (hq : ∀ c a w, ¬ Q (.panic c) a w) (hq2 : ∀ a w, ¬ Q .outgrown a w) (h : o.wp P a w next Q) : o.wpIn (Rf ro) 0 P a w next' Q' := by
  refine ⟨fun f _ => trivial, ?_⟩
  rw [Oper.semAt_eq _ _ _ (nd_ne hd)]
  unfold Oper.wp at h
  revert h
  generalize (execOp a.eval o).run P w = r
  intro h
  match r, h with
  | .ok (.value v) w', h => exact hn _ _ h
  | .ok .skip w', h => exact hn _ _ h
  | .ok (.defer d) w', h => exact hn _ _ h
  | .ok (.enter f args) w', h =>
    refine ⟨(fun e => by cases e), (callsIn_wide (n := 0)).2 (Calls.mono h ?_)⟩
    rintro e w'' he
    cases e with
    | returned v => exact hn _ _ he
    | panicked c => exact absurd he (hq c _ _)
    | outgrown => obtain ⟨a', w', h2⟩ := he; exact absurd h2 (hq2 a' w')
  | .ok (.row row args) w', h =>
    refine ⟨(fun e => by cases e), fun c cs _ => ?_⟩
    obtain ⟨v, w'', r, s⟩ := h c cs
    exact ⟨v, w'', hn _ _ r, stepsIn_wide.2 s⟩
  | .halt (.panic v) w', h => exact absurd h (hq _ _ _)
theorem no_panic {K : Fr → World → Prop} : ∀ c a w, ¬ lift n (onlyN K) (.panic c) a w := fun _ _ _ ⟨_, _, h⟩ => h
theorem no_out {K : Fr → World → Prop} : ∀ a w, ¬ lift n (onlyN K) .outgrown a w := fun _ _ ⟨_, _, h⟩ => h
def WLi (ro : Option Nat) (P : Program) (n : Nat) (ops : Array Oper) (Q : Exit → Fr → World → Prop) (l : List Oper) (F : Fr) (w : World) : Prop :=
  ∀ a, Rel n a F → wpListIn (Rf ro) 0 P ops (lift n Q) l a w
variable {Q : Exit → Fr → World → Prop} {F : Fr} {w : World} {rest : List Oper}
theorem WLi.nil (h : Q .normal F w) : WLi ro P n ops Q [] F w := fun _ ha => ⟨F, ha, h⟩
theorem WLi.op {o : Oper} (hd : nd o = true) (h : WL P n ops (onlyN fun F' w' => WLi ro P n ops Q rest F' w') [o] F w) : WLi ro P n ops Q (o :: rest) F w := by
  intro a ha
  have h1 := h a ha
  unfold wpList at h1
  unfold wpListIn
  split
  · rename_i hw
    rw [if_pos hw] at h1
    rcases h1 with h1 | ⟨_, a0, w0, h1⟩
    · exact wpIn_of_wp hd (fun a' w' ⟨F', r, q⟩ => q a' r) no_panic no_out h1
    · exact absurd h1 (no_out a0 w0)
  · rename_i hw
    rw [if_neg hw] at h1
    obtain ⟨F', r, q⟩ := h1
    exact ⟨fun f _ => trivial, q _ r⟩
theorem wpListIn_of {Q' : Exit → Act → World → Prop} {K : Fr → World → Prop} (hK : ∀ a w, lift n (onlyN K) .normal a w → Q' .normal a w) : ∀ {l : List Oper} {a : Act} {w : World}, l.all nd = true → wpList P ops (lift n (onlyN K)) l a w → wpListIn (Rf ro) 0 P ops Q' l a w
  | [], a, w, _, h => hK a w h
  | o :: l, a, w, hd, h => by
    rw [List.all_cons, Bool.and_eq_true] at hd
    unfold wpList at h
    unfold wpListIn
    split
    · rename_i hw
      rw [if_pos hw] at h
      rcases h with h | ⟨_, a0, w0, h⟩
      · exact wpIn_of_wp hd.1 (fun a' w' q => wpListIn_of hK hd.2 q) no_panic no_out h
      · exact absurd h (no_out a0 w0)
    · rename_i hw
      rw [if_neg hw] at h
      exact ⟨fun f _ => trivial, wpListIn_of hK hd.2 h⟩
theorem wpOpsIn_of {Q' : Exit → Act → World → Prop} {K : Fr → World → Prop} (hnd : ∀ (i : Nat) (o : Oper), ops[i]? = some o → nd o = true) (hK : ∀ a w, lift n (onlyN K) .normal a w → Q' .normal a w) : ∀ {l : List Nat} {a : Act} {w : World}, wpOps P ops (lift n (onlyN K)) l a w → wpOpsIn (Rf ro) 0 P ops Q' l a w
  | [], a, w, h => hK a w h
  | i :: l, a, w, h => by
    unfold wpOps at h
    unfold wpOpsIn
    cases ho : ops[i]? with
    | none => simp only [ho] at h ⊢; exact wpOpsIn_of hnd hK h
    | some o =>
      simp only [ho] at h ⊢
      split
      · rename_i hw
        rw [if_pos hw] at h
        rcases h with h | ⟨_, a0, w0, h⟩
        · exact wpIn_of_wp (hnd i o ho) (fun a' w' q => wpOpsIn_of hnd hK q) no_panic no_out h
        · exact absurd h (no_out a0 w0)
      · rename_i hw
        rw [if_neg hw] at h
        exact ⟨fun f _ => trivial, wpOpsIn_of hnd hK h⟩
theorem WP.regI {id : Nat} {l : List Oper} (h : WLi none P n l.toArray Q l F w) : WP P n (.region id l.toArray false) Q F w :=
  fun a ha => wpIn_wide.1 (wpIn_region_lit (F := Fence.wide) (n := 0) (h a ha))
def Yc (P : Program) (l : Nat) (args : List Value) (w : World) (R : Value → World → Prop) : Prop := ∃ f tmps assign body, (Instr.yield l args.toArray).run P w = .ok (.round l f tmps assign body) w ∧ RoundIn Fence.wide 0 P l f tmps assign body w (fun e w' => ∃ v, e = .returned v ∧ R v w')
theorem WLi.callY {d l : Nat} {f : Operand} {xs : List Operand} {ats : Array TypeId} {al : List Value} {R : Value → World → Prop} {ty : TypeId} {pos : String} {after : Array Edge} {g : Option (Nat × Bool)}
    (hg : Wn ops F ⟨some d, .call { callee := .value f, args := xs.toArray, argTypes := ats }, ty, pos, after, g⟩) (hf : evO F f = .func (.yield l) #[] #[]) (hal : xs.map (evO F) = al) (hc : Yc P l al w R) (hd : Nat.blt d n = true)
    (kk : ∀ v w', R v w' → WLi none P n ops Q rest (upd F d v) w') : WLi none P n ops Q (⟨some d, .call { callee := .value f, args := xs.toArray, argTypes := ats }, ty, pos, after, g⟩ :: rest) F w := by
  subst hal
  intro a ha
  obtain ⟨fn, tmps, assign, body, hy, hr⟩ := hc
  unfold wpListIn
  rw [if_pos (hg.wanted ha)]
  refine ⟨fun f _ => trivial, ?_⟩
  have e : (Oper.semAt (Rf none).round a.eval ⟨some d, .call { callee := .value f, args := xs.toArray, argTypes := ats }, ty, pos, after, g⟩).run P w = .ok (.round l fn tmps assign body) w := by
    show (execOp a.eval ⟨some d, .call { callee := .value f, args := xs.toArray, argTypes := ats }, ty, pos, after, g⟩).run P w = _
    rw [ha.eval]
    simpa [execOp, resolve, hf, Deferred.ofValue, invoke] using hy
  rw [e]
  refine ⟨(fun e => by cases e), RoundIn.mono hr ?_⟩
  rintro e w' ⟨v, rfl, r⟩
  exact kk v w' r _ (ha.put hd)
def WPi (ro : Option Nat) (P : Program) (n : Nat) (c : Code) (Q : Exit → Fr → World → Prop) (F : Fr) (w : World) : Prop :=
  ∀ a, Rel n a F → c.wpIn (Rf ro) 0 P (lift n Q) a w
theorem WPi.seq {x y : Code} (h : WPi ro P n x (thn (WPi ro P n y Q) Q) F w) : WPi ro P n (.seq x y) Q F w := by
  intro a ha
  refine wpIn_seq (wpIn_mono (h a ha) ?_)
  rintro e a w ⟨F, r, q⟩
  cases e with
  | normal => exact q a r
  | exit id => exact ⟨F, r, q⟩
  | goto l => exact ⟨F, r, q⟩
  | ret => exact ⟨F, r, q⟩
  | panic c => exact ⟨F, r, q⟩
  | outgrown => exact ⟨F, r, q⟩
theorem WPi.skip (h : Q .normal F w) : WPi ro P n .skip Q F w := fun _ ha => wpIn_skip ⟨F, ha, h⟩
theorem WPi.block {id : Nat} {c : Code} (h : WPi ro P n c (inb id Q) F w) : WPi ro P n (.block id c) Q F w := by
  intro a ha
  refine wpIn_block (wpIn_mono (h a ha) ?_)
  rintro e a w ⟨F, r, q⟩
  cases e with
  | exit id' =>
    simp only [Exit.inBlock, inb] at q ⊢
    split
    · rename_i hi; rw [if_pos hi] at q; exact ⟨F, r, q⟩
    · rename_i hi; rw [if_neg hi] at q; exact ⟨F, r, q⟩
  | normal => exact ⟨F, r, q⟩
  | goto l => exact ⟨F, r, q⟩
  | ret => exact ⟨F, r, q⟩
  | panic c => exact ⟨F, r, q⟩
  | outgrown => exact ⟨F, r, q⟩
theorem WPi.condF {c : Operand} {x y : Code} (hc : evO F c = .bool false) (h : WPi ro P n y Q F w) : WPi ro P n (.cond c x y) Q F w :=
  fun a ha => wpIn_cond_false (by rw [ha.eval]; exact hc) (h a ha)
theorem WPi.reg {id : Nat} {l : List Oper} (hd : l.all nd = true) (h : WL P n l.toArray (onlyN (Q .normal)) l F w) : WPi ro P n (.region id l.toArray false) Q F w :=
  fun a ha => wpIn_region_lit (wpListIn_of (Q' := lift n Q) (fun _ _ h => h) hd (h a ha))
theorem WPi.drawT {id : Nat} {l : List Oper} (hd : l.all nd = true) (S : World → Prop) (plan : Pn) (hm : P.follows .mixedOrders = true) (hns : Region.noSelect l.toArray = true) (hlen : plan.len = l.length)
    (hp : plan.ok l.toArray (Array.replicate l.length false) = true) (hS : ∀ w1, Chg w w1 [] → S w1) (h : ∀ w1, Chg w w1 [] → WT P n l.toArray S (Q .normal) plan F w1) : WPi ro P n (.region id l.toArray true) Q F w := by
  intro a ha
  have hc : Chg w { w with drawn := w.drawn + 1 } [] := ⟨rfl, rfl, rfl, Nat.le_refl _, fun _ _ _ => rfl⟩
  have h1 := h _ hc (Array.replicate l.length false) a hns hp ha (hS _ hc)
  refine wpIn_region_draw fun t => ?_
  simp only [Region.schedule, hm, Bool.true_or, if_true]
  have h2 := wpAny_sound (Array.size l.toArray) t _ a _ (wpAny_of_held _ _ _ _ (by simpa [hlen] using h1))
  refine wpOpsIn_of (Q' := lift n Q) (fun i o ho => ?_) (fun _ _ h => h) h2
  rw [List.all_eq_true] at hd
  exact hd o (List.mem_of_getElem? (by simpa using ho))
def rQ (P : Program) (l : Nat) (R : Value → World → Prop) : Exit → Fr → World → Prop
  | .normal, _, w => ∃ v w', (Instr.endRound l none).run P w = .ok v w' ∧ R v w'
  | _, _, _ => False
theorem Yc.of {l p q : Nat} {r : Loop} {x y : Value} {F0 : Fr} {R : Value → World → Prop} (hl : w.heap[l]? = some (.loop r)) (hps : r.params = #[p, q]) (hrel : Rel n { tmps := r.tmps, defers := [] } F0) (hp : Nat.blt p n = true) (hq : Nat.blt q n = true)
    (h : WPi (some l) P n r.assign (onlyN fun F1 w1 => ∃ w2, (Instr.beginRound l).run P w1 = .ok () w2 ∧ WPi (some l) P n r.body (rQ P l R) F1 w2) (upd (upd F0 p x) q y) w) : Yc P l [x, y] w R := by
  refine ⟨r.fn, _, r.assign, r.body, run_yield hl (by rw [hps]; rfl), ?_⟩
  refine roundIn_of_wpIn trivial (wpIn_mono (h _ ?_) ?_)
  · rw [hps, show (#[p, q].zip #[x, y]) = #[(p, x), (q, y)] from by simp]
    exact (hrel.put hp).put hq
  · rintro e a w ⟨F, ra, q⟩
    cases e with
    | normal =>
      obtain ⟨w2, h1, h2⟩ := q
      refine ⟨w2, h1, wpIn_mono (h2 a ra) ?_⟩
      rintro e a w ⟨F, ra, q⟩
      cases e with
      | normal => obtain ⟨v, w', h3, h4⟩ := q; exact ⟨v, w', h3, v, rfl, h4⟩
      | exit id => exact q.elim
      | goto l => exact q.elim
      | ret => exact q.elim
      | panic c => exact q.elim
      | outgrown => exact q.elim
    | exit id => exact q.elim
    | goto l => exact q.elim
    | ret => exact q.elim
    | panic c => exact q.elim
    | outgrown => exact q.elim
section
variable {w0 : World} {L : List Ent} {l : Nat} {r : Loop}
theorem HP.loopSet (r' : Loop) (h : HP w0 w (.obj l .nw (.loop r) :: L)) : HP w0 (w.putObj l (.loop r')) (.obj l .nw (.loop r') :: L) := by
  obtain ⟨hl, hB⟩ := h.ok _ (List.mem_cons_self ..)
  have hlt : l < w.heap.size := (Array.getElem?_eq_some_iff.1 hl).1
  exact h.set (e' := .obj l .nw (.loop r')) .h rfl ⟨rfl, rfl, rfl, by simp, fun k _ hk => World.putObj_heap_other (by simpa [Ent.blocks] using hk)⟩ ⟨World.putObj_heap_same hlt, hB⟩ (fun b hb => .inl hb) (fun hh => by cases hh) (fun _ b hb => by simp only [Ent.blocks, List.mem_singleton] at hb; subst hb; exact hB)
theorem HP.beginR (h : HP w0 w (.obj l .nw (.loop r) :: L)) (hr : r.state = .ready) : ∃ w2, (Instr.beginRound l).run P w = .ok () w2 ∧ HP w0 w2 (.obj l .nw (.loop { r with state := .busy }) :: L) := by
  obtain ⟨hl, _⟩ := h.ok _ (List.mem_cons_self ..)
  exact ⟨_, run_beginRound hl hr, h.loopSet _⟩
theorem HP.endR (h : HP w0 w (.obj l .nw (.loop r) :: L)) : ∃ w2, (Instr.endRound l none).run P w = .ok (.bool true) w2 ∧ HP w0 w2 (.obj l .nw (.loop { r with state := .ready, pending := none }) :: L) := by
  obtain ⟨hl, _⟩ := h.ok _ (List.mem_cons_self ..)
  exact ⟨_, run_endRound none hl, h.loopSet _⟩
theorem WP.rangeY {g : Operand} {ps : Array Tmp} {assign body : Code} {gf : Nat} {lb : List Value} {K : List Ent → Prop} (h : HP w0 w L) (hg : evO F g = .func (.func gf) #[] lb.toArray) (he : ∀ args w, (callFunc gf args).run P w = .ok (.enter gf args) w) (hds : F.ds = [])
    (hc : ∀ D l r w1, r.state = .ready → r.pending = none → r.params = ps → r.assign = assign → r.body = body → Rel n { tmps := r.tmps, defers := [] } F → HP w0 w1 (.obj l .nw (.loop r) :: .obj D .nw (.deferred (some [])) :: L) → Cs P gf (Value.func (.yield l) #[] #[] :: lb).toArray w1 (fun _ w2 => ∃ L', K L' ∧ HP w0 w2 (.obj l .nw (.loop r) :: .obj D .nw (.deferred (some [])) :: L')))
    (k : ∀ D w' L', K L' → HP w0 w' (.obj D .nw (.deferred (some [])) :: L') → Q .normal ⟨F.t, D :: F.ds⟩ w') : WP P n (.rangeFunc g ps assign body) Q F w := by
  intro a ha
  refine wpIn_wide.1 (wpIn_rangeFunc (F := Fence.wide) (n := 0) fun fn _ => ?_)
  obtain ⟨r, hr⟩ : ∃ r : Loop, r = { state := .ready, pending := none, fn, tmps := a.tmps, params := ps, assign, body, defers := w.heap.size } := ⟨_, rfl⟩
  have h1 : HP w0 (w.alloc (.deferred (some []))) (.obj w.heap.size .nw (.deferred (some [])) :: L) :=
    h.push (Chg.alloc w _ []) ⟨World.alloc_heap_new w _, h.size⟩ rfl (fun b hb => by simp only [Ent.blocks, List.mem_singleton] at hb; omega)
  have h2 : HP w0 ((w.alloc (.deferred (some []))).alloc (.loop r)) (.obj (w.heap.size + 1) .nw (.loop r) :: .obj w.heap.size .nw (.deferred (some [])) :: L) := by
    have e := World.alloc_heap_new (w.alloc (.deferred (some []))) (.loop r)
    rw [World.size_alloc] at e
    exact h1.push (Chg.alloc _ _ []) ⟨e, by have := h.size; show w0.heap.size ≤ w.heap.size + 1; omega⟩ rfl (fun b hb => by simp only [Ent.blocks, List.mem_singleton] at hb; rw [World.size_alloc]; omega)
  have hcall := hc w.heap.size (w.heap.size + 1) r _ (by rw [hr]) (by rw [hr]) (by rw [hr]) (by rw [hr]) (by rw [hr]) ⟨by rw [hds]; rfl, by rw [hr]; exact ha.size, by rw [hr]; exact ha.get⟩ h2
  obtain ⟨W1, hW1⟩ : ∃ W1, (w.alloc (.deferred (some []))).alloc (.loop r) = W1 := ⟨_, rfl⟩
  rw [hW1] at h2 hcall
  refine ⟨w.heap.size + 1, [{ target := .collected w.heap.size, args := #[] }], W1, { target := .fn (.func gf) lb.toArray, args := #[.func (.yield (w.heap.size + 1)) #[] #[]] }, W1, gf,
    #[.func (.yield (w.heap.size + 1)) #[] #[]] ++ lb.toArray, W1, (by rw [← hW1, hr]; exact run_enterLoop_outer _ _ _ _ _), ?_, fun f' hf' => trivial, ?_, (fun hh => by cases hh), ?_⟩
  · simp only [resolve, ha.eval, hg]
    simp [go_sem]
  · simp [invoke, go_sem, he]
  · refine callsIn_wide.2 ?_
    have e : (#[Value.func (.yield (w.heap.size + 1)) #[] #[]] ++ lb.toArray : Array Value) = (Value.func (.yield (w.heap.size + 1)) #[] #[] :: lb).toArray := by simp
    rw [e]
    refine Calls.mono hcall ?_
    rintro e w2 ⟨v, rfl, L', hK, h3⟩
    obtain ⟨hl, _⟩ := h3.ok _ (List.mem_cons_self ..)
    have hpn : r.pending = none := by rw [hr]
    have hen := run_endLoop (P := P) hl (by rw [hr]; simp)
    rw [hpn] at hen
    refine ⟨none, _, hen, ?_⟩
    exact ⟨⟨F.t, w.heap.size :: F.ds⟩, ⟨by rw [ha.defers]; rfl, ha.size, ha.get⟩, k _ _ L' hK ((h3.loopSet _).drop rfl)⟩
end
end
end Go.Vc

namespace Go.Orc
open Go.Vc Go.RowKit
def brkB (lg : Lg) (i j : Nat) : Bool := decide ((lg.getD i zLg).1.1 = (lg.getD j zLg).1.1) && (decide ((lg.getD i zLg).1.2.2.1 = (lg.getD j zLg).1.2.2.1) && decide ((lg.getD i zLg).2 = (lg.getD j zLg).2))
def pj (lg : Lg) (i : Nat) : Nat → List (Nat × Nat)
  | 0 => []
  | m + 1 => if brkB lg i (i + 1 + m) then pj lg i m ++ [(i, i + 1 + m)] else pj lg i m
def pis (lg : Lg) : Nat → List (Nat × Nat)
  | 0 => []
  | i + 1 => pis lg i ++ pj lg i (lg.length - (i + 1))
def prC (l : List (Nat × Nat)) : List Int := l.flatMap fun p => [(p.1 : Int), (p.2 : Int)]
section
variable {lg : Lg} {i m : Nat}
theorem pj_t (h : brkB lg i (i + 1 + m) = true) : pj lg i (m + 1) = pj lg i m ++ [(i, i + 1 + m)] := by rw [pj, if_pos h]
theorem pj_f (h : brkB lg i (i + 1 + m) = false) : pj lg i (m + 1) = pj lg i m := by rw [pj, h]; rfl
theorem brk_t {j : Nat} (h1 : (lg.getD i zLg).1.1 = (lg.getD j zLg).1.1) (h2 : (lg.getD i zLg).1.2.2.1 = (lg.getD j zLg).1.2.2.1) (h3 : (lg.getD i zLg).2 = (lg.getD j zLg).2) : brkB lg i j = true := by
  rw [brkB, decide_eq_true h1, decide_eq_true h2, decide_eq_true h3]; rfl
theorem brk_1 {j : Nat} (h1 : ¬ (lg.getD i zLg).1.1 = (lg.getD j zLg).1.1) : brkB lg i j = false := by rw [brkB, decide_eq_false h1]; rfl
theorem brk_2 {j : Nat} (h1 : ¬ (lg.getD i zLg).1.2.2.1 = (lg.getD j zLg).1.2.2.1) : brkB lg i j = false := by rw [brkB, decide_eq_false h1, Bool.false_and, Bool.and_false]
theorem brk_3 {j : Nat} (h1 : ¬ (lg.getD i zLg).2 = (lg.getD j zLg).2) : brkB lg i j = false := by rw [brkB, decide_eq_false h1, Bool.and_false, Bool.and_false]
theorem pj_pre : ∀ {d}, ∃ r, pj lg i (m + d) = pj lg i m ++ r
  | 0 => ⟨[], (List.append_nil _).symm⟩
  | d + 1 => by
    obtain ⟨r, hr⟩ := pj_pre (d := d)
    cases hb : brkB lg i (i + 1 + (m + d)) with
    | true => exact ⟨r ++ [(i, i + 1 + (m + d))], by rw [← Nat.add_assoc, pj_t hb, hr, List.append_assoc]⟩
    | false => exact ⟨r, by rw [← Nat.add_assoc, pj_f hb, hr]⟩
theorem pis_pre : ∀ {d}, ∃ r, pis lg (i + d) = pis lg i ++ r
  | 0 => ⟨[], (List.append_nil _).symm⟩
  | d + 1 => by
    obtain ⟨r, hr⟩ := pis_pre (d := d)
    exact ⟨r ++ pj lg (i + d) (lg.length - (i + d + 1)), by rw [← Nat.add_assoc, pis, hr, List.append_assoc]⟩
theorem brk_at (hi : i < lg.length) (hm : m < lg.length - (i + 1)) (hb : brkB lg i (i + 1 + m) = true) : (pis lg lg.length)[(pis lg i ++ pj lg i m).length]? = some (i, i + 1 + m) := by
  obtain ⟨r, hr⟩ := pis_pre (lg := lg) (i := i + 1) (d := lg.length - (i + 1))
  obtain ⟨q, hq⟩ := pj_pre (lg := lg) (i := i) (m := m + 1) (d := lg.length - (i + 1) - (m + 1))
  rw [show i + 1 + (lg.length - (i + 1)) = lg.length by omega] at hr
  rw [show m + 1 + (lg.length - (i + 1) - (m + 1)) = lg.length - (i + 1) by omega] at hq
  have e : pis lg i ++ (pj lg i m ++ [(i, i + 1 + m)] ++ q) ++ r = (pis lg i ++ pj lg i m) ++ ((i, i + 1 + m) :: (q ++ r)) := by simp
  rw [hr, pis, hq, pj_t hb, e, List.getElem?_append_right (Nat.le_refl _), Nat.sub_self]
  rfl
theorem prC_len : ∀ {l : List (Nat × Nat)}, (prC l).length = l.length * 2
  | [] => rfl
  | p :: l => by
    show ([(p.1 : Int), (p.2 : Int)] ++ prC l).length = _
    rw [List.length_append, prC_len]
    show 2 + l.length * 2 = (l.length + 1) * 2
    omega
theorem prC_snoc {l : List (Nat × Nat)} {a b : Nat} : prC (l ++ [(a, b)]) = prC l ++ [(a : Int), (b : Int)] := by simp [prC]
theorem prC_at : ∀ {l : List (Nat × Nat)} {c a b : Nat}, l[c]? = some (a, b) → (prC l)[c * 2]? = some (a : Int) ∧ (prC l)[c * 2 + 1]? = some (b : Int)
  | p :: l, 0, a, b, h => by
    simp only [List.getElem?_cons_zero, Option.some.injEq] at h
    subst h
    exact ⟨rfl, rfl⟩
  | p :: l, c + 1, a, b, h => by
    rw [List.getElem?_cons_succ] at h
    have := prC_at h
    rw [show (c + 1) * 2 = c * 2 + 2 by omega]
    exact this
theorem no_brk {df : List UInt8} {dn u : Nat} (h : DL df dn u lg) (hd : ∀ a b, a < u → b < a → drawF df dn a ≠ drawF df dn b) {j : Nat} (hij : i < j) (hj : j < lg.length) : brkB lg i j = false := by
  have h0 : ∀ k, k < lg.length → (lg.getD k zLg).2 = drawF df dn k := fun k hk => h.2 k hk
  refine brk_3 fun e => hd j i (by rw [h.1]; exact hj) hij ?_
  rw [← h0 i (by omega), ← h0 j hj]; exact e.symm
theorem no_pj {df : List UInt8} {dn u : Nat} (h : DL df dn u lg) (hd : ∀ a b, a < u → b < a → drawF df dn a ≠ drawF df dn b) : ∀ {m}, i + 1 + m ≤ lg.length → pj lg i m = []
  | 0, _ => rfl
  | m + 1, hm => by rw [pj_f (no_brk h hd (by omega) (by omega)), no_pj h hd (by omega)]
theorem no_pis {df : List UInt8} {dn u : Nat} (h : DL df dn u lg) (hd : ∀ a b, a < u → b < a → drawF df dn a ≠ drawF df dn b) : ∀ {i}, i ≤ lg.length → pis lg i = []
  | 0, _ => rfl
  | i + 1, hi => by rw [pis, no_pis h hd (by omega), no_pj h hd (by omega)]; rfl
theorem pj_le : ∀ m, (pj lg i m).length ≤ m
  | 0 => Nat.le_refl _
  | m + 1 => by
    have := pj_le m
    rw [pj]; split
    · rw [List.length_append]; exact Nat.succ_le_succ this
    · omega
theorem pis_le {b : Nat} (hb : lg.length ≤ b) : ∀ i, (pis lg i).length ≤ i * b
  | 0 => by rw [Nat.zero_mul]; exact Nat.le_refl _
  | i + 1 => by
    have h1 := pis_le hb i
    have h2 := pj_le (lg := lg) (i := i) (lg.length - (i + 1))
    rw [pis, List.length_append, Nat.succ_mul]
    omega
theorem brk_lt {c x y : Nat} : ∀ {i}, i ≤ lg.length → (pis lg i)[c]? = some (x, y) → x < lg.length ∧ y < lg.length
  | i + 1, hi, h => by
    rw [pis] at h
    by_cases hc : c < (pis lg i).length
    · rw [List.getElem?_append_left hc] at h
      exact brk_lt (by omega) h
    · rw [List.getElem?_append_right (by omega)] at h
      have key : ∀ (m c : Nat), i + 1 + m ≤ lg.length → (pj lg i m)[c]? = some (x, y) → x = i ∧ y < lg.length := by
        intro m
        induction m with
        | zero => intro c _ h; simp [pj] at h
        | succ m ih =>
          intro c hm h
          rw [pj] at h
          split at h
          · by_cases hc : c < (pj lg i m).length
            · rw [List.getElem?_append_left hc] at h; exact ih c (by omega) h
            · rw [List.getElem?_append_right (by omega)] at h
              cases hk : c - (pj lg i m).length with
              | zero => rw [hk] at h; simp at h; omega
              | succ k => rw [hk] at h; simp at h
          · exact ih c (by omega) h
      have := key _ _ (by omega) h
      omega
end
end Go.Orc
namespace Go.Vc
open Go.RowKit
theorem HP_swap {w w0 : World} {E T R : List Ent} (h : HP w0 w (E ++ (T ++ R))) : HP w0 w (T ++ (E ++ R)) := h.perm (by
  rw [← List.append_assoc, ← List.append_assoc]
  exact List.Perm.append_right R List.perm_append_comm)
end Go.Vc
namespace Go.Vc
open Go.RowKit
theorem HP_swap3 {w w0 : World} {A E T R : List Ent} (h : HP w0 w (A ++ (E ++ (T ++ R)))) : HP w0 w (A ++ (T ++ (E ++ R))) := h.perm (List.Perm.append_left A (by
  rw [← List.append_assoc, ← List.append_assoc]
  exact List.Perm.append_right R List.perm_append_comm))
theorem sub67 {xs : List Value} {a m c : Nat} (h : m < c) : (((xs.drop (a * 67)).take (c * 67)).drop (m * 67)).take 67 = (xs.drop ((a + m) * 67)).take 67 := by
  rw [List.drop_take, List.take_take, List.drop_drop, show min 67 (c * 67 - m * 67) = 67 by omega, show a * 67 + m * 67 = (a + m) * 67 by omega]
theorem map_at {α β : Type} {f : α → β} {l : List α} {i : Nat} {a : α} (h : l[i]? = some a) : (l.map f)[i]? = some (f a) := by rw [List.getElem?_map, h]; rfl
end Go.Vc

namespace Go.Proofs.YtajiipjmmoehcaaGreat
open Go.Proofs.Tryz
open Go.Vc Go.Orc Go.Sh Go.RowKit
set_option maxRecDepth 20000

theorem c_Brk1 {w00 : World} {L : List Ent} (b : Nat) (la : Option Addr) (lc : Nat) (lx : List Value) (lg : Lg) (hlg : lg.length ≤ 1000000) (hlc : lg.length ≤ lc) (l : Nat) (Lf : Nat → List Ent) (hY : ∀ (c x y : Nat) (cx cy : List Value), (pis lg lg.length)[c]? = some (x, y) → cx = (lx.drop (x * 67)).take 67 → cy = (lx.drop (y * 67)).take 67 → ∀ (E : List Ent) (w : World), HP w00 w (Ent.blk b .nw 31 [(1, [(.slice la lg.length lc)])] :: Ent.row la lg.length lc 47 67 lx :: Ent.pin (sblks lx) (fun w => Lgs w lx lg) :: (Lf c ++ E)) → Yc Tryz.prog l [.agg ⟨cx⟩, .agg ⟨cy⟩] w (fun v w' => v = .bool true ∧ HP w00 w' (Ent.blk b .nw 31 [(1, [(.slice la lg.length lc)])] :: Ent.row la lg.length lc 47 67 lx :: Ent.pin (sblks lx) (fun w => Lgs w lx lg) :: (Lf (c + 1) ++ E)))) (w : World) (h_0 : HP w00 w (Ent.blk b .nw 31 [(1, [(.slice la lg.length lc)])] :: Ent.row la lg.length lc 47 67 lx :: Ent.pin (sblks lx) (fun w => Lgs w lx lg) :: (Lf 0 ++ L))) :
  Cs Tryz.prog 35 [(Value.func (Fn.yield l) #[] #[]), (.pointer (some ⟨b, 0, none⟩))].toArray w (fun v w1 => v = .tuple [].toArray ∧ HP w00 w1 (Ent.blk b .nw 31 [(1, [(.slice la lg.length lc)])] :: Ent.row la lg.length lc 47 67 lx :: Ent.pin (sblks lx) (fun w => Lgs w lx lg) :: (Lf (pis lg lg.length).length ++ L))) := by
 refine Cs.of (n := 55) (args := [(Value.func (Fn.yield l) #[] #[]), (pO b 0)]) Tryz.func35 rfl rfl rfl ?_
 refine WP.seq (WP.reg ?_)
 refine qV rfl (R.load1 rfl isAgg31 (h_0.ok _ M0) Sg.h) (qV rfl (R.lenS (a := la) (m := lg.length) rfl rfl underlying31) (qM (vi 0) rfl rfl ?_))
 refine WL.nil (thn_n (WP.block ?_))
 have h_3 := ((h_0.up J2).up J2).up J2
 refine WP.loopG (G := Nat) [3, 4, 6, 9, 10, 11, 12, 13, 14, 15, 16, 17, 18, 19, 20, 21, 22, 23, 24, 25, 26, 27, 28, 29, 30, 31, 32, 33, 34, 35, 36, 37, 38, 39, 40, 41, 42, 43, 44, 45, 46, 47, 48, 49, 50, 51, 52, 53, 54] (fun k => [(9, (vn k))]) (fun k m w1 => HP w00 w1 (Ent.blk b .nw 31 [(1, [(.slice la lg.length lc)])] :: Ent.row la lg.length lc 47 67 lx :: Ent.pin (sblks lx) (fun w => Lgs w lx lg) :: (Lf (pis lg k).length ++ L)) ∧ (k ≤ lg.length) ∧ m = lg.length + 1 - k) ⟨0, _, ⟨rfl, trivial⟩, h_3, Nat.zero_le _, rfl⟩ ?_
 rintro k m_6 J_7 w_4 ⟨h_5, hkn, rfl⟩
 refine WP.seq (WP.reg ?_)
 refine qV rfl (R.bin rfl rfl (bi_lss (r := decide ((((k : Nat) : Int) : Int) < ((lg.length : Nat) : Int))) rfl)) ?_
 refine WL.nil (thn_n (WP.seq ?_))
 refine WP.cond (b := decide ((((k : Nat) : Int) : Int) < ((lg.length : Nat) : Int))) rfl (fun c_8 => ?_) (fun c_8 => ?_)
 ·have p_9 := of_decide_eq_true c_8
  refine WP.skip (thn_n (WP.seq (WP.block (WP.seq ?_))))
  have hkl : k < lg.length := by omega
  have hklg := (h_5.ok _ M2).1
  have hkxl := hklg.len
  obtain ⟨ka, kn, kc, khx, khq, khd, khn, khc, khv, khb⟩ := Lgs.aget (z := zLg) hklg hkl
  refine WP.reg ?_
  refine qM (vn k) rfl rfl (qV rfl (R.indexS (a := la) (i := k) (off := k * 67) (xs := lx) rfl rfl rfl (by omega) (ownView (h_5.ok _ M1)) (by rw [hkxl]; omega) underlying31 sizeOf47 rfl) (qV rfl (R.loadGA (a := la) (i := k * 67) (xs := lx) (cs := flat [(1, [(vi ((lg.getD k zLg).1.1))]), (32, ((lg.getD k zLg).1.2.1).map vu8), (1, [(vi ((lg.getD k zLg).1.2.2.1))]), (1, [(.slice ka kn kc)]), (32, ((lg.getD k zLg).2).map vu8)]) rfl (ownView (h_5.ok _ M1)) isAgg47 sizeOf47 khx ((sC sV (sC (s8 khq.1) (sC sV (sC sV (sC (s8 khd) sN)))))).len (by decide)) ?_))
  refine WL.alloc (segs := [(1, [(vi 0)]), (32, (zB 32).map vu8), (1, [(vi 0)]), (1, [(.slice none 0 0)]), (32, (zB 32).map vu8)]) h_5 (zv typeInfo47 rfl) rfl (sC sV (sC (s8 lr) (sC sV (sC sV (sC (s8 lr) sN))))) rfl (fun b_10 w_11 h_12 => ?_)
  refine qA (vn k) rfl rfl ?_
  refine WL.storeA [] [(1, [(vi 0)]), (32, (zB 32).map vu8), (1, [(vi 0)]), (1, [(.slice none 0 0)]), (32, (zB 32).map vu8)] [(1, [(vi ((lg.getD k zLg).1.1))]), (32, ((lg.getD k zLg).1.2.1).map vu8), (1, [(vi ((lg.getD k zLg).1.2.2.1))]), (1, [(.slice ka kn kc)]), (32, ((lg.getD k zLg).2).map vu8)] [] h_12 rfl rfl sizeOf47 At.h (by decide) rfl rfl rfl rfl rfl rfl (sC sV (sC (s8 khq.1) (sC sV (sC sV (sC (s8 khd) sN))))) (fun w_13 h_14 => ?_)
  refine WL.nil (thn_n (WP.seq (WP.reg ?_)))
  refine qV rfl (R.load1 rfl isAgg31 (h_14.ok _ M1) Sg.h) (qM (vn k) rfl rfl (qV rfl (R.bin rfl rfl (bi_add (c := ((k + 1 : Nat) : Int)) (by omega) (by omega))) (qV rfl (R.sliceS (a := la) (len := lg.length) (l := k + 1) (h := lg.length) rfl (EvB.it (l := k + 1) rfl rfl) EvB.dflt (by omega) (by omega) underlying31 sizeOf47) (qV rfl (R.lenS (a := slA la (k + 1) lc 67) (m := lg.length - (k + 1)) rfl rfl underlying31) (qM (vi 0) rfl rfl ?_)))))
  refine WL.nil (thn_n (WP.block ?_))
  have h_17 := ((h_14.up J3).up J3).up J3
  refine WP.loopG (G := Nat) [6, 19, 20, 21, 22, 23, 24, 25, 26, 27, 28, 29, 30, 31, 32, 33, 34, 35, 36, 37, 38, 39, 40, 41, 42, 43, 44, 45, 46, 47, 48, 49, 50, 51, 52, 53] (fun q => [(19, (vn q))]) (fun q m w1 => HP w00 w1 (Ent.blk b .nw 31 [(1, [(.slice la lg.length lc)])] :: Ent.row la lg.length lc 47 67 lx :: Ent.pin (sblks lx) (fun w => Lgs w lx lg) :: Ent.blk b_10 .nw 47 [(1, [(vi ((lg.getD k zLg).1.1))]), (32, ((lg.getD k zLg).1.2.1).map vu8), (1, [(vi ((lg.getD k zLg).1.2.2.1))]), (1, [(.slice ka kn kc)]), (32, ((lg.getD k zLg).2).map vu8)] :: (Lf (pis lg k ++ pj lg k q).length ++ L)) ∧ (q ≤ lg.length - (k + 1)) ∧ m = lg.length - (k + 1) + 1 - q) ⟨0, _, ⟨rfl, trivial⟩, (by rw [show (pis lg k ++ pj lg k 0).length = (pis lg k).length from congrArg List.length (List.append_nil _)]; exact h_17), Nat.zero_le _, rfl⟩ ?_
  rintro q m_20 J_21 w_18 ⟨h_19, hmn, rfl⟩
  refine WP.seq (WP.reg ?_)
  refine qV rfl (R.bin rfl rfl (bi_lss (r := decide ((((q : Nat) : Int) : Int) < ((lg.length - (k + 1) : Nat) : Int))) rfl)) ?_
  refine WL.nil (thn_n (WP.seq ?_))
  refine WP.cond (b := decide ((((q : Nat) : Int) : Int) < ((lg.length - (k + 1) : Nat) : Int))) rfl (fun c_22 => ?_) (fun c_22 => ?_)
  ·have p_23 := of_decide_eq_true c_22
   refine WP.skip (thn_n (WP.seq (WP.block (WP.seq ?_))))
   have hml : q < lg.length - (k + 1) := by omega
   have hgl : k + 1 + q < lg.length := by omega
   have hglg := (h_19.ok _ M2).1
   have hgxl := hglg.len
   obtain ⟨ga, gn, gc, ghx, ghq, ghd, ghn, ghc, ghv, ghb⟩ := Lgs.aget (z := zLg) hglg hgl
   refine WP.reg ?_
   refine qV rfl (R.indexS (a := slA la (k + 1) lc 67) (i := q) (off := q * 67) (xs := (lx.drop ((k + 1) * 67)).take ((lg.length - (k + 1)) * 67)) rfl rfl rfl (by omega) (View.sl (ownView (h_19.ok _ M1)) (k + 1) lc (lg.length - (k + 1)) 67 (by omega)) (by rw [List.length_take, List.length_drop, hgxl]; omega) underlying31 sizeOf47 rfl) (qV rfl (R.loadGA (a := slA la (k + 1) lc 67) (i := q * 67) (xs := (lx.drop ((k + 1) * 67)).take ((lg.length - (k + 1)) * 67)) (cs := flat [(1, [(vi ((lg.getD (k + 1 + q) zLg).1.1))]), (32, ((lg.getD (k + 1 + q) zLg).1.2.1).map vu8), (1, [(vi ((lg.getD (k + 1 + q) zLg).1.2.2.1))]), (1, [(.slice ga gn gc)]), (32, ((lg.getD (k + 1 + q) zLg).2).map vu8)]) rfl (View.sl (ownView (h_19.ok _ M1)) (k + 1) lc (lg.length - (k + 1)) 67 (by omega)) isAgg47 sizeOf47 ((sub67 hml).trans ghx) ((sC sV (sC (s8 ghq.1) (sC sV (sC sV (sC (s8 ghd) sN)))))).len (by decide)) ?_)
   refine WL.alloc (segs := [(1, [(vi 0)]), (32, (zB 32).map vu8), (1, [(vi 0)]), (1, [(.slice none 0 0)]), (32, (zB 32).map vu8)]) h_19 (zv typeInfo47 rfl) rfl (sC sV (sC (s8 lr) (sC sV (sC sV (sC (s8 lr) sN))))) rfl (fun b_24 w_25 h_26 => ?_)
   refine WL.storeA [] [(1, [(vi 0)]), (32, (zB 32).map vu8), (1, [(vi 0)]), (1, [(.slice none 0 0)]), (32, (zB 32).map vu8)] [(1, [(vi ((lg.getD (k + 1 + q) zLg).1.1))]), (32, ((lg.getD (k + 1 + q) zLg).1.2.1).map vu8), (1, [(vi ((lg.getD (k + 1 + q) zLg).1.2.2.1))]), (1, [(.slice ga gn gc)]), (32, ((lg.getD (k + 1 + q) zLg).2).map vu8)] [] h_26 rfl rfl sizeOf47 At.h (by decide) rfl rfl rfl rfl rfl rfl (sC sV (sC (s8 ghq.1) (sC sV (sC sV (sC (s8 ghd) sN))))) (fun w_27 h_28 => ?_)
   refine WL.nil (thn_n (WP.seq ?_))
   refine WP.regI ?_
   refine WLi.op rfl ?_
   refine qV rfl (R.fieldAddr (off' := 0) rfl underlying47 rfl sizeOf39 rfl rfl) ?_
   refine WL.nil ?_
   refine WLi.op rfl ?_
   refine qV rfl (R.fieldAddr (off' := 0) rfl underlying39 rfl sizeOf35 rfl rfl) ?_
   refine WL.nil ?_
   refine WLi.op rfl ?_
   refine qV rfl (R.load1 rfl isAgg35 (h_28.ok _ M4) Sg.h) ?_
   refine WL.nil ?_
   refine WLi.op rfl ?_
   refine qV rfl (R.fieldAddr (off' := 0) rfl underlying47 rfl sizeOf39 rfl rfl) ?_
   refine WL.nil ?_
   refine WLi.op rfl ?_
   refine qV rfl (R.fieldAddr (off' := 0) rfl underlying39 rfl sizeOf35 rfl rfl) ?_
   refine WL.nil ?_
   refine WLi.op rfl ?_
   refine qV rfl (R.load1 rfl isAgg35 (h_28.ok _ M0) Sg.h) ?_
   refine WL.nil ?_
   refine WLi.op rfl ?_
   refine qV rfl (R.bin rfl rfl (bi_eql (r := decide (((lg.getD k zLg).1.1 : Int) = ((lg.getD (k + 1 + q) zLg).1.1))) rfl)) ?_
   refine WL.nil ?_
   refine WLi.op rfl ?_
   refine qM (.bool (decide (((lg.getD k zLg).1.1 : Int) = ((lg.getD (k + 1 + q) zLg).1.1)))) rfl rfl ?_
   refine WL.nil ?_
   rcases Bool.eq_false_or_eq_true (decide (((lg.getD k zLg).1.1 : Int) = ((lg.getD (k + 1 + q) zLg).1.1))) with c_29 | c_29
   ·have p_30 := of_decide_eq_true c_29
    refine WLi.op rfl ?_
    refine WL.want rfl (congrArg Value.bool c_29) ?_
    refine qV rfl (R.fieldAddr (off' := 0) rfl underlying47 rfl sizeOf39 rfl rfl) ?_
    refine WL.nil ?_
    refine WLi.op rfl ?_
    refine WL.want rfl (congrArg Value.bool c_29) ?_
    refine qV rfl (R.fieldAddr (off' := 33) rfl underlying39 rfl sizeOf36 rfl rfl) ?_
    refine WL.nil ?_
    refine WLi.op rfl ?_
    refine WL.want rfl (congrArg Value.bool c_29) ?_
    refine qV rfl (R.load1 rfl isAgg36 (h_28.ok _ M4) (Sg.t rfl (Sg.t rfl Sg.h))) ?_
    refine WL.nil ?_
    refine WLi.op rfl ?_
    refine WL.want rfl (congrArg Value.bool c_29) ?_
    refine qV rfl (R.fieldAddr (off' := 0) rfl underlying47 rfl sizeOf39 rfl rfl) ?_
    refine WL.nil ?_
    refine WLi.op rfl ?_
    refine WL.want rfl (congrArg Value.bool c_29) ?_
    refine qV rfl (R.fieldAddr (off' := 33) rfl underlying39 rfl sizeOf36 rfl rfl) ?_
    refine WL.nil ?_
    refine WLi.op rfl ?_
    refine WL.want rfl (congrArg Value.bool c_29) ?_
    refine qV rfl (R.load1 rfl isAgg36 (h_28.ok _ M0) (Sg.t rfl (Sg.t rfl Sg.h))) ?_
    refine WL.nil ?_
    refine WLi.op rfl ?_
    refine WL.want rfl (congrArg Value.bool c_29) ?_
    refine qV rfl (R.bin rfl rfl (bi_eql (r := decide (((lg.getD k zLg).1.2.2.1 : Int) = ((lg.getD (k + 1 + q) zLg).1.2.2.1))) rfl)) ?_
    refine WL.nil ?_
    refine WLi.op rfl ?_
    refine qV rfl (R.pickT (v := (.bool (decide (((lg.getD k zLg).1.2.2.1 : Int) = ((lg.getD (k + 1 + q) zLg).1.2.2.1))))) (congrArg Value.bool c_29) rfl) ?_
    refine WL.nil ?_
    refine WLi.op rfl ?_
    refine qM (.bool (decide (((lg.getD k zLg).1.2.2.1 : Int) = ((lg.getD (k + 1 + q) zLg).1.2.2.1)))) rfl rfl ?_
    refine WL.nil ?_
    rcases Bool.eq_false_or_eq_true (decide (((lg.getD k zLg).1.2.2.1 : Int) = ((lg.getD (k + 1 + q) zLg).1.2.2.1))) with c_31 | c_31
    ·have p_32 := of_decide_eq_true c_31
     refine WLi.op rfl ?_
     refine WL.want rfl (congrArg Value.bool c_31) ?_
     refine qV rfl (R.fieldAddr (off' := 35) rfl underlying47 rfl sizeOf29 rfl rfl) ?_
     refine WL.nil ?_
     refine WLi.op rfl ?_
     refine WL.want rfl (congrArg Value.bool c_31) ?_
     refine qV rfl (R.loadA [(1, [(vi ((lg.getD k zLg).1.1))]), (32, ((lg.getD k zLg).1.2.1).map vu8), (1, [(vi ((lg.getD k zLg).1.2.2.1))]), (1, [(.slice ka kn kc)])] [(32, ((lg.getD k zLg).2).map vu8)] [] (cs := ((lg.getD k zLg).2).map vu8) rfl isAgg29 sizeOf29 (h_28.ok _ M4) rfl rfl rfl rfl) ?_
     refine WL.nil ?_
     refine WLi.op rfl ?_
     refine WL.want rfl (congrArg Value.bool c_31) ?_
     refine qV rfl (R.fieldAddr (off' := 35) rfl underlying47 rfl sizeOf29 rfl rfl) ?_
     refine WL.nil ?_
     refine WLi.op rfl ?_
     refine WL.want rfl (congrArg Value.bool c_31) ?_
     refine qV rfl (R.loadA [(1, [(vi ((lg.getD (k + 1 + q) zLg).1.1))]), (32, ((lg.getD (k + 1 + q) zLg).1.2.1).map vu8), (1, [(vi ((lg.getD (k + 1 + q) zLg).1.2.2.1))]), (1, [(.slice ga gn gc)])] [(32, ((lg.getD (k + 1 + q) zLg).2).map vu8)] [] (cs := ((lg.getD (k + 1 + q) zLg).2).map vu8) rfl isAgg29 sizeOf29 (h_28.ok _ M0) rfl rfl rfl rfl) ?_
     refine WL.nil ?_
     refine WLi.op rfl ?_
     refine WL.want rfl (congrArg Value.bool c_31) ?_
     refine qV rfl (R.eqA (xs := ((lg.getD k zLg).2).map vu8) (ys := ((lg.getD (k + 1 + q) zLg).2).map vu8) (r := decide ((lg.getD k zLg).2 = (lg.getD (k + 1 + q) zLg).2)) rfl rfl eqGuardType29 kt29 (by decide) ag29 (Typ.u8s underlying29 ce29 underlying5 ce5 khd) (Typ.u8s underlying29 ce29 underlying5 ce5 ghd) (map_inj_u8.trans (decT _))) ?_
     refine WL.nil ?_
     refine WLi.op rfl ?_
     refine qV rfl (R.pickT (v := (.bool (decide ((lg.getD k zLg).2 = (lg.getD (k + 1 + q) zLg).2)))) (congrArg Value.bool c_31) rfl) ?_
     refine WL.nil ?_
     refine WLi.op rfl ?_
     refine qM (.bool (decide ((lg.getD k zLg).2 = (lg.getD (k + 1 + q) zLg).2))) rfl rfl ?_
     refine WL.nil ?_
     rcases Bool.eq_false_or_eq_true (decide ((lg.getD k zLg).2 = (lg.getD (k + 1 + q) zLg).2)) with c_33 | c_33
     ·have p_34 := of_decide_eq_true c_33
      refine WLi.op rfl ?_
      refine WL.want rfl (congrArg Value.bool c_33) ?_
      refine qM (Value.func (Fn.yield l) #[] #[]) rfl rfl ?_
      refine WL.nil ?_
      refine WLi.op rfl ?_
      refine WL.want rfl (congrArg Value.bool c_33) ?_
      refine qV rfl (R.loadA [] [(1, [(vi ((lg.getD k zLg).1.1))]), (32, ((lg.getD k zLg).1.2.1).map vu8), (1, [(vi ((lg.getD k zLg).1.2.2.1))]), (1, [(.slice ka kn kc)]), (32, ((lg.getD k zLg).2).map vu8)] [] rfl isAgg47 sizeOf47 (h_28.ok _ M4) rfl rfl rfl rfl) ?_
      refine WL.nil ?_
      refine WLi.op rfl ?_
      refine WL.want rfl (congrArg Value.bool c_33) ?_
      refine qV rfl (R.loadA [] [(1, [(vi ((lg.getD (k + 1 + q) zLg).1.1))]), (32, ((lg.getD (k + 1 + q) zLg).1.2.1).map vu8), (1, [(vi ((lg.getD (k + 1 + q) zLg).1.2.2.1))]), (1, [(.slice ga gn gc)]), (32, ((lg.getD (k + 1 + q) zLg).2).map vu8)] [] rfl isAgg47 sizeOf47 (h_28.ok _ M0) rfl rfl rfl rfl) ?_
      refine WL.nil ?_
      have h_38 := (((h_28.up J4).up J4).up J4).up J4
      have hbk := brk_t p_30 p_32 p_34
      have hcn : (pis lg k ++ pj lg k (q + 1)).length = (pis lg k ++ pj lg k q).length + 1 := by rw [pj_t hbk, ← List.append_assoc, List.length_append]; rfl
      have h_39 := HP_swap3 (A := [_, _, _]) (E := [_, _]) (T := Lf (pis lg k ++ pj lg k q).length) h_38
      refine WLi.callY (al := [(.agg ⟨flat [(1, [(vi ((lg.getD k zLg).1.1))]), (32, ((lg.getD k zLg).1.2.1).map vu8), (1, [(vi ((lg.getD k zLg).1.2.2.1))]), (1, [(.slice ka kn kc)]), (32, ((lg.getD k zLg).2).map vu8)]⟩), (.agg ⟨flat [(1, [(vi ((lg.getD (k + 1 + q) zLg).1.1))]), (32, ((lg.getD (k + 1 + q) zLg).1.2.1).map vu8), (1, [(vi ((lg.getD (k + 1 + q) zLg).1.2.2.1))]), (1, [(.slice ga gn gc)]), (32, ((lg.getD (k + 1 + q) zLg).2).map vu8)]⟩)]) (Wn.yes rfl rfl (congrArg Value.bool c_33)) rfl rfl (hY _ _ _ _ _ (brk_at hkl hml hbk) khx.symm ghx.symm _ _ h_39) rfl ?_
      rintro _ w_41 ⟨rfl, h_40⟩
      have h_42 := HP_swap3 (A := [_, _, _]) (E := Lf ((pis lg k ++ pj lg k q).length + 1)) (T := [_, _]) h_40
      refine WLi.op rfl ?_
      refine WL.want rfl (congrArg Value.bool c_33) ?_
      refine qV rfl (R.not (b := true) rfl) ?_
      refine WL.nil ?_
      refine WLi.op rfl ?_
      refine qV rfl (R.pickT (v := (.bool false)) (congrArg Value.bool c_33) rfl) ?_
      refine WL.nil ?_
      refine WLi.nil ?_
      refine thn_n ?_
      refine WP.condF rfl ?_
      refine WP.skip (inb_n (thn_n (WP.reg ?_)))
      refine qV rfl (R.bin rfl rfl (bi_add (c := ((q + 1 : Nat) : Int)) (by omega) (by omega))) (qM (vn (q + 1)) rfl rfl ?_)
      refine WL.nil (thn_n ?_)
      have h_48 := (((((h_42.up J4).drop rfl).up J3).up J3).up J3).up J3
      exact ⟨q + 1, _, (by omega), (U4 rfl rfl rfl rfl (U4 rfl rfl rfl rfl (U4 rfl rfl rfl rfl (U4 rfl rfl rfl rfl (U4 rfl rfl rfl rfl (U4 rfl rfl rfl rfl (U4 rfl rfl rfl rfl (U4 rfl rfl rfl rfl (U4 rfl rfl rfl rfl (Ag.updL rfl (Ag.mix _ _ _))))))))))), ⟨rfl, trivial⟩, (by rw [hcn]; exact h_48), (by omega), rfl⟩
     ·have p_49 := of_decide_eq_false c_33
      refine WLi.op rfl ?_
      refine WL.skip rfl (congrArg Value.bool c_33) rfl ?_
      refine WL.nil ?_
      refine WLi.op rfl ?_
      refine WL.skip rfl (congrArg Value.bool c_33) rfl ?_
      refine WL.nil ?_
      refine WLi.op rfl ?_
      refine WL.skip rfl (congrArg Value.bool c_33) rfl ?_
      refine WL.nil ?_
      refine WLi.op rfl ?_
      refine WL.skip rfl (congrArg Value.bool c_33) rfl ?_
      refine WL.nil ?_
      refine WLi.op rfl ?_
      refine WL.skip rfl (congrArg Value.bool c_33) rfl ?_
      refine WL.nil ?_
      refine WLi.op rfl ?_
      refine qV rfl (R.pickF (v := (.bool false)) (congrArg Value.bool c_33) rfl) ?_
      refine WL.nil ?_
      refine WLi.nil ?_
      refine thn_n ?_
      refine WP.condF rfl ?_
      refine WP.skip (inb_n (thn_n (WP.reg ?_)))
      refine qV rfl (R.bin rfl rfl (bi_add (c := ((q + 1 : Nat) : Int)) (by omega) (by omega))) (qM (vn (q + 1)) rfl rfl ?_)
      refine WL.nil (thn_n ?_)
      have h_54 := ((((h_28.drop rfl).up J3).up J3).up J3).up J3
      exact ⟨q + 1, _, (by omega), (U4 rfl rfl rfl rfl (U4 rfl rfl rfl rfl (U4 rfl rfl rfl rfl (U4 rfl rfl rfl rfl (U4 rfl rfl rfl rfl (U4 rfl rfl rfl rfl (U4 rfl rfl rfl rfl (U4 rfl rfl rfl rfl (U4 rfl rfl rfl rfl (Ag.updL rfl (Ag.mix _ _ _))))))))))), ⟨rfl, trivial⟩, (by rw [pj_f (brk_3 p_49)]; exact h_54), (by omega), rfl⟩
    ·have p_55 := of_decide_eq_false c_31
     refine WLi.op rfl ?_
     refine WL.skip rfl (congrArg Value.bool c_31) rfl ?_
     refine WL.nil ?_
     refine WLi.op rfl ?_
     refine WL.skip rfl (congrArg Value.bool c_31) rfl ?_
     refine WL.nil ?_
     refine WLi.op rfl ?_
     refine WL.skip rfl (congrArg Value.bool c_31) rfl ?_
     refine WL.nil ?_
     refine WLi.op rfl ?_
     refine WL.skip rfl (congrArg Value.bool c_31) rfl ?_
     refine WL.nil ?_
     refine WLi.op rfl ?_
     refine WL.skip rfl (congrArg Value.bool c_31) rfl ?_
     refine WL.nil ?_
     refine WLi.op rfl ?_
     refine qV rfl (R.pickF (v := (.bool false)) (congrArg Value.bool c_31) rfl) ?_
     refine WL.nil ?_
     refine WLi.op rfl ?_
     refine qM (.bool false) rfl rfl ?_
     refine WL.nil ?_
     refine WLi.op rfl ?_
     refine WL.skip rfl rfl rfl ?_
     refine WL.nil ?_
     refine WLi.op rfl ?_
     refine WL.skip rfl rfl rfl ?_
     refine WL.nil ?_
     refine WLi.op rfl ?_
     refine WL.skip rfl rfl rfl ?_
     refine WL.nil ?_
     refine WLi.op rfl ?_
     refine WL.skip rfl rfl rfl ?_
     refine WL.nil ?_
     refine WLi.op rfl ?_
     refine WL.skip rfl rfl rfl ?_
     refine WL.nil ?_
     refine WLi.op rfl ?_
     refine qV rfl (R.pickF (v := (.bool false)) rfl rfl) ?_
     refine WL.nil ?_
     refine WLi.nil ?_
     refine thn_n ?_
     refine WP.condF rfl ?_
     refine WP.skip (inb_n (thn_n (WP.reg ?_)))
     refine qV rfl (R.bin rfl rfl (bi_add (c := ((q + 1 : Nat) : Int)) (by omega) (by omega))) (qM (vn (q + 1)) rfl rfl ?_)
     refine WL.nil (thn_n ?_)
     have h_60 := ((((h_28.drop rfl).up J3).up J3).up J3).up J3
     exact ⟨q + 1, _, (by omega), (U4 rfl rfl rfl rfl (U4 rfl rfl rfl rfl (U4 rfl rfl rfl rfl (U4 rfl rfl rfl rfl (U4 rfl rfl rfl rfl (U4 rfl rfl rfl rfl (U4 rfl rfl rfl rfl (U4 rfl rfl rfl rfl (U4 rfl rfl rfl rfl (Ag.updL rfl (Ag.mix _ _ _))))))))))), ⟨rfl, trivial⟩, (by rw [pj_f (brk_2 p_55)]; exact h_60), (by omega), rfl⟩
   ·have p_61 := of_decide_eq_false c_29
    refine WLi.op rfl ?_
    refine WL.skip rfl (congrArg Value.bool c_29) rfl ?_
    refine WL.nil ?_
    refine WLi.op rfl ?_
    refine WL.skip rfl (congrArg Value.bool c_29) rfl ?_
    refine WL.nil ?_
    refine WLi.op rfl ?_
    refine WL.skip rfl (congrArg Value.bool c_29) rfl ?_
    refine WL.nil ?_
    refine WLi.op rfl ?_
    refine WL.skip rfl (congrArg Value.bool c_29) rfl ?_
    refine WL.nil ?_
    refine WLi.op rfl ?_
    refine WL.skip rfl (congrArg Value.bool c_29) rfl ?_
    refine WL.nil ?_
    refine WLi.op rfl ?_
    refine WL.skip rfl (congrArg Value.bool c_29) rfl ?_
    refine WL.nil ?_
    refine WLi.op rfl ?_
    refine WL.skip rfl (congrArg Value.bool c_29) rfl ?_
    refine WL.nil ?_
    refine WLi.op rfl ?_
    refine qV rfl (R.pickF (v := (.bool false)) (congrArg Value.bool c_29) rfl) ?_
    refine WL.nil ?_
    refine WLi.op rfl ?_
    refine qM (.bool false) rfl rfl ?_
    refine WL.nil ?_
    refine WLi.op rfl ?_
    refine WL.skip rfl rfl rfl ?_
    refine WL.nil ?_
    refine WLi.op rfl ?_
    refine WL.skip rfl rfl rfl ?_
    refine WL.nil ?_
    refine WLi.op rfl ?_
    refine WL.skip rfl rfl rfl ?_
    refine WL.nil ?_
    refine WLi.op rfl ?_
    refine WL.skip rfl rfl rfl ?_
    refine WL.nil ?_
    refine WLi.op rfl ?_
    refine WL.skip rfl rfl rfl ?_
    refine WL.nil ?_
    refine WLi.op rfl ?_
    refine qV rfl (R.pickF (v := (.bool false)) rfl rfl) ?_
    refine WL.nil ?_
    refine WLi.op rfl ?_
    refine qM (.bool false) rfl rfl ?_
    refine WL.nil ?_
    refine WLi.op rfl ?_
    refine WL.skip rfl rfl rfl ?_
    refine WL.nil ?_
    refine WLi.op rfl ?_
    refine WL.skip rfl rfl rfl ?_
    refine WL.nil ?_
    refine WLi.op rfl ?_
    refine WL.skip rfl rfl rfl ?_
    refine WL.nil ?_
    refine WLi.op rfl ?_
    refine WL.skip rfl rfl rfl ?_
    refine WL.nil ?_
    refine WLi.op rfl ?_
    refine WL.skip rfl rfl rfl ?_
    refine WL.nil ?_
    refine WLi.op rfl ?_
    refine qV rfl (R.pickF (v := (.bool false)) rfl rfl) ?_
    refine WL.nil ?_
    refine WLi.nil ?_
    refine thn_n ?_
    refine WP.condF rfl ?_
    refine WP.skip (inb_n (thn_n (WP.reg ?_)))
    refine qV rfl (R.bin rfl rfl (bi_add (c := ((q + 1 : Nat) : Int)) (by omega) (by omega))) (qM (vn (q + 1)) rfl rfl ?_)
    refine WL.nil (thn_n ?_)
    have h_66 := ((((h_28.drop rfl).up J3).up J3).up J3).up J3
    exact ⟨q + 1, _, (by omega), (U4 rfl rfl rfl rfl (U4 rfl rfl rfl rfl (U4 rfl rfl rfl rfl (U4 rfl rfl rfl rfl (U4 rfl rfl rfl rfl (U4 rfl rfl rfl rfl (U4 rfl rfl rfl rfl (U4 rfl rfl rfl rfl (U4 rfl rfl rfl rfl (Ag.updL rfl (Ag.mix _ _ _))))))))))), ⟨rfl, trivial⟩, (by rw [pj_f (brk_1 p_61)]; exact h_66), (by omega), rfl⟩
  ·have p_67 := of_decide_eq_false c_22
   refine WP.exit (thn_x (thn_x (inb_hit (inb_n (thn_n (WP.reg ?_))))))
   refine qV rfl (R.bin rfl rfl (bi_add (c := ((k + 1 : Nat) : Int)) (by omega) (by omega))) (qM (vn (k + 1)) rfl rfl ?_)
   refine WL.nil (thn_n ?_)
   obtain rfl : q = lg.length - (k + 1) := by omega
   have h_72 := ((((h_19.up J3).drop rfl).up J2).up J2).up J2
   exact ⟨k + 1, _, (by omega), (Ag.upd rfl (U2 rfl rfl (Ag.updL rfl (Ag.trans (Ag.sub rfl (Ag.mix _ _ _)) (Ag.upd rfl (Ag.upd rfl (Ag.upd rfl (Ag.upd rfl (Ag.upd rfl (Ag.upd rfl (Ag.upd rfl (Ag.upd rfl (Ag.upd rfl (Ag.upd rfl (Ag.upd rfl (Ag.upd rfl (Ag.updL rfl (Ag.mix _ _ _)))))))))))))))))), ⟨rfl, trivial⟩, h_72, (by omega), rfl⟩
 ·have p_73 := of_decide_eq_false c_8
  refine WP.exit (thn_x (thn_x (inb_hit (ret_n ?_))))
  refine ret_of results35 RV.nil ?_
  obtain rfl : k = lg.length := by omega
  have h_76 := ((h_5.up J2).up J2).up J2
  exact ⟨rfl, h_76⟩
end Go.Proofs.YtajiipjmmoehcaaGreat

namespace Go.Vc
open Go.RowKit
theorem onlyN.i {K : Fr → World → Prop} {F : Fr} {w : World} (h : K F w) : onlyN K .normal F w := h
section
variable {P : Program} {w0 w : World} {L : List Ent} {l : Nat} {r rb : Loop} {R : Value → World → Prop}
theorem rQ.i {F : Fr} (h : ∃ v w', (Instr.endRound l none).run P w = .ok v w' ∧ R v w') : rQ P l R .normal F w := h
theorem HP.loopIs (h : HP w0 w (.obj l .nw (.loop r) :: L)) : w.heap[l]? = some (.loop r) := (h.ok _ (List.mem_cons_self ..)).1
theorem HP.beginI {K : World → Prop} (h : HP w0 w (.obj l .nw (.loop r) :: L)) (hr : r.state = .ready) (k : ∀ rb w2, rb = { r with state := .busy } → HP w0 w2 (.obj l .nw (.loop rb) :: L) → K w2) : ∃ w2, (Instr.beginRound l).run P w = .ok () w2 ∧ K w2 := by
  obtain ⟨w2, h1, h2⟩ := h.beginR (P := P) hr
  exact ⟨w2, h1, k _ _ rfl h2⟩
theorem loop_back (hr : r.state = .ready) (hp : r.pending = none) : { { r with state := .busy } with state := .ready, pending := none } = r := by
  cases r
  simp_all
theorem HP.endI (h : HP w0 w (.obj l .nw (.loop rb) :: L)) (hb : rb = { r with state := .busy }) (hr : r.state = .ready) (hp : r.pending = none) (k : ∀ w2, HP w0 w2 (.obj l .nw (.loop r) :: L) → R (.bool true) w2) : ∃ v w', (Instr.endRound l none).run P w = .ok v w' ∧ R v w' := by
  subst hb
  obtain ⟨w2, h1, h2⟩ := h.endR (P := P)
  rw [loop_back hr hp] at h2
  exact ⟨_, w2, h1, k _ h2⟩
end
end Go.Vc

namespace Go.Proofs.YtajiipjmmoehcaaGreat
open Go.Proofs.Tryz
open Go.Vc Go.Orc Go.Sh Go.RowKit
set_option maxRecDepth 20000

theorem c_oBrkI {w00 : World} {L : List Ent} (id : Bool) (ob mp : Nat) (ms df : List UInt8) (hms : ms.length = 32) (da : Option Addr) (dn dc u : Nat) (hdf : df.length = 32 * dn) (la : Option Addr) (lc : Nat) (lx : List Value) (lg : Lg) (hu : u ≤ 1000000) (hlg : lg.length ≤ 1000000) (w : World) (h_0 : HP w00 w (Ent.blk ob .nw 66 [(1, [(.bool id)]), (32, ms.map vu8), (1, [(.slice da dn dc)]), (1, [(vi ((u : Nat) : Int))]), (1, [(.map (some mp))]), (1, [(.slice la lg.length lc)])] :: Ent.row la lg.length lc 47 67 lx :: Ent.obj mp .nw (.map (mArr lg) lg.length) :: Ent.pin (sblks lx) (fun w => Lgs w lx lg) :: Ent.view da (df.map vu8) :: L)) :
  Cs Tryz.prog 15 [(.pointer (some ⟨ob, 0, none⟩))].toArray w (fun v w1 => ∃ b a cap ys, v = (Value.func (Fn.func 35) [].toArray [(Value.pointer (some ⟨b, 0, none⟩))].toArray) ∧ HP w00 w1 (Ent.blk b .nw 31 [(1, [(.slice a lg.length cap)])] :: Ent.row a lg.length cap 47 67 ys :: Ent.pin (sblks ys) (fun w => Lgs w ys lg) :: Ent.blk ob .nw 66 [(1, [(.bool id)]), (32, ms.map vu8), (1, [(.slice da dn dc)]), (1, [(vi ((u : Nat) : Int))]), (1, [(.map (some mp))]), (1, [(.slice la lg.length lc)])] :: Ent.row la lg.length lc 47 67 lx :: Ent.obj mp .nw (.map (mArr lg) lg.length) :: Ent.pin (sblks lx) (fun w => Lgs w lx lg) :: Ent.view da (df.map vu8) :: L)) := by
 refine Cs.of (n := 7) (args := [(pO ob 0)]) Tryz.func15 rfl rfl rfl ?_
 refine WP.seq (WP.reg ?_)
 refine qA .nilFunc rfl rfl ?_
 refine WL.nil (thn_n (WP.seq (WP.reg ?_)))
 refine qM (pO ob 0) rfl rfl ?_
 have h_5 := ((((h_0.up J4).up J4).up J4).up J4).up J4
 refine WL.call Tryz.call10 rfl rfl (c_oLog id ob mp ms df hms da dn dc u hdf la lc lx lg hu hlg _ h_5) rfl ?_
 rintro _ w_9 ⟨a_6, c_7, ys_8, rfl, h_10⟩
 refine WL.alloc (segs := [(1, [(.slice none 0 0)])]) h_10 (zv typeInfo31 rfl) rfl (sC sV sN) rfl (fun b_11 w_12 h_13 => ?_)
 refine WL.store1 h_13 rfl rfl sizeOf31 rfl At.h (by decide) Sg.h (fun w_14 h_15 => ?_)
 refine WL.nil (thn_n (WP.seq (WP.reg ?_)))
 refine qV rfl (R.makeFuncL (fi := []) (ca := [(pO b_11 0)]) rfl rfl) (qA (Value.func (Fn.func 35) [].toArray [(Value.pointer (some ⟨b_11, 0, none⟩))].toArray) rfl rfl ?_)
 refine WL.nil (thn_n (WP.ret ?_))
 refine ret_of results15 (RV.tmp (v := (Value.func (Fn.func 35) [].toArray [(Value.pointer (some ⟨b_11, 0, none⟩))].toArray)) rfl RV.nil) ?_
 have h_23 := (((((((h_15.up J7).up J7).up J7).up J7).up J7).up J7).up J7).up J7
 exact ⟨_, _, _, _, rfl, h_23⟩

theorem c_distinct (id : Bool) (ob : Nat) (ms df : List UInt8) (hms : ms.length = 32) (da : Option Addr) (dn dc u u2 : Nat) (hdf : df.length = 32 * dn) (la : Option Addr) (ln lc : Nat) (hu : u ≤ 1000000) (hu2 : u2 ≤ 1000000) (w : World) (hv : View w da (df.map vu8)) (hcb : (Ent.blk ob .ro 33 [(1, [(.bool id)]), (32, ms.map vu8), (1, [(.slice da dn dc)]), (1, [(vi ((u2 : Nat) : Int))]), (1, [(.slice la ln lc)])]).ok w.heap.size w) :
  Cs Tryz.prog 14 [(.pointer (some ⟨ob, 0, none⟩)), (vi ((u : Nat) : Int))].toArray w (fun v w1 => ∃ bd, v = .bool bd ∧ (bd = true → ∀ a c, a < u → c < a → drawF df dn a ≠ drawF df dn c) ∧ Chg w w1 []) := by
 refine Cs.of (n := 24) (args := [(pO ob 0), (vn u)]) Tryz.func14 rfl rfl rfl ?_
 have h_0 := HP.init w
 have h_01 := h_0.oldV (View.arg hv) rfl (by simp [Ent.mut])
 have h_00 := h_01.oldV hcb rfl (by simp [Ent.mut])
 refine WP.seq (WP.reg ?_)
 refine qA (.bool false) rfl rfl ?_
 refine WL.nil (thn_n (WP.seq (WP.seq (WP.reg ?_))))
 refine qA (vi 0) rfl rfl ?_
 refine WL.nil (thn_n (WP.block ?_))
 refine WP.loopG (G := Nat) [4, 5, 6, 7, 8, 9, 10, 11, 12, 13, 14, 15, 16, 17, 18, 19, 20, 21, 22, 23] (fun k => [(5, (vn k))]) (fun k m w1 => HP w w1 [.blk ob .ro 33 [(1, [(.bool id)]), (32, ms.map vu8), (1, [(.slice da dn dc)]), (1, [(vn u2)]), (1, [(.slice la ln lc)])], .view da (df.map vu8)] ∧ (k ≤ u) ∧ (∀ a c, a < k → c < a → drawF df dn a ≠ drawF df dn c) ∧ m = u + 1 - k) ⟨0, _, ⟨rfl, trivial⟩, h_00, Nat.zero_le _, (fun a c ha hc => by omega), rfl⟩ ?_
 rintro k m_3 J_4 w_1 ⟨h_2, hkn, hall, rfl⟩
 refine WP.seq (WP.seq (WP.reg ?_))
 refine qM (vn k) rfl rfl (qM (vn u) rfl rfl (qV rfl (R.bin rfl rfl (bi_lss (r := decide ((((k : Nat) : Int) : Int) < ((u : Nat) : Int))) rfl)) ?_))
 refine WL.nil (thn_n ?_)
 refine WP.cond (b := decide ((((k : Nat) : Int) : Int) < ((u : Nat) : Int))) rfl (fun c_5 => ?_) (fun c_5 => ?_)
 ·have p_6 := of_decide_eq_true c_5
  refine WP.skip (thn_n (WP.seq (WP.block (WP.seq (WP.reg ?_)))))
  refine qA (vi 0) rfl rfl ?_
  refine WL.nil (thn_n (WP.block ?_))
  refine WP.loopG (G := Nat) [4, 6, 12, 13, 14, 15, 16, 17, 18, 19, 20, 21, 22, 23] (fun q => [(6, (vn q))]) (fun q m w1 => HP w w1 [.blk ob .ro 33 [(1, [(.bool id)]), (32, ms.map vu8), (1, [(.slice da dn dc)]), (1, [(vn u2)]), (1, [(.slice la ln lc)])], .view da (df.map vu8)] ∧ (q ≤ k) ∧ (∀ c, c < q → drawF df dn k ≠ drawF df dn c) ∧ m = k + 1 - q) ⟨0, _, ⟨rfl, trivial⟩, h_2, Nat.zero_le _, (fun c hc => by omega), rfl⟩ ?_
  rintro q m_9 J_10 w_7 ⟨h_8, hqn, hin, rfl⟩
  refine WP.seq (WP.seq (WP.reg ?_))
  refine qM (vn q) rfl rfl (qM (vn k) rfl rfl (qV rfl (R.bin rfl rfl (bi_lss (r := decide ((((q : Nat) : Int) : Int) < ((k : Nat) : Int))) rfl)) ?_))
  refine WL.nil (thn_n ?_)
  refine WP.cond (b := decide ((((q : Nat) : Int) : Int) < ((k : Nat) : Int))) rfl (fun c_11 => ?_) (fun c_11 => ?_)
  ·have p_12 := of_decide_eq_true c_11
   refine WP.skip (thn_n (WP.seq (WP.block (WP.seq (WP.reg ?_)))))
   refine qM (pO ob 0) rfl rfl (qM (vn k) rfl rfl ?_)
   refine WL.call Tryz.call34 rfl rfl (c_rDraw id ob ms df hms da dn dc k u2 hdf la ln lc (by omega) _ (viewV (h_8.ok _ M1)) (h_8.argR M0)) rfl ?_
   rintro _ w_14 ⟨rfl, hc_13⟩
   have h_15 := h_8.same hc_13
   refine qM (pO ob 0) rfl rfl (qM (vn q) rfl rfl ?_)
   refine WL.call Tryz.call34 rfl rfl (c_rDraw id ob ms df hms da dn dc q u2 hdf la ln lc (by omega) _ (viewV (h_15.ok _ M1)) (h_15.argR M0)) rfl ?_
   rintro _ w_17 ⟨rfl, hc_16⟩
   have h_18 := h_15.same hc_16
   refine qV rfl (R.eqA (xs := (drawF df dn k).map vu8) (ys := (drawF df dn q).map vu8) (r := decide (drawF df dn k = drawF df dn q)) rfl rfl eqGuardType29 kt29 (by decide) ag29 (Typ.u8s underlying29 ce29 underlying5 ce5 (drawF_len hdf)) (Typ.u8s underlying29 ce29 underlying5 ce5 (drawF_len hdf)) (map_inj_u8.trans (decT _))) ?_
   refine WL.nil (thn_n ?_)
   refine WP.cond (b := decide (drawF df dn k = drawF df dn q)) rfl (fun c_19 => ?_) (fun c_19 => ?_)
   ·have p_20 := of_decide_eq_true c_19
    refine WP.seq (WP.reg ?_)
    refine qA (.bool false) rfl rfl ?_
    refine WL.nil (thn_n (WP.ret (inb_r (thn_r (thn_r (inb_r (inb_r (thn_r (thn_r (inb_r (thn_r ?_)))))))))))
    refine ret_of results14 (RV.tmp (v := (.bool false)) rfl RV.nil) ?_
    exact ⟨false, rfl, (fun h => by cases h), h_18.chgS⟩
   ·have p_21 := of_decide_eq_false c_19
    refine WP.skip (inb_n (thn_n (WP.reg ?_)))
    refine qM (vn q) rfl rfl (qV rfl (R.bin rfl rfl (bi_add (c := ((q + 1 : Nat) : Int)) (by omega) (by omega))) (qA (vn (q + 1)) rfl rfl ?_))
    refine WL.nil (thn_n ?_)
    have h_23 := (h_18.up J1).up J1
    exact ⟨q + 1, _, (by omega), (Ag.upd rfl (U4 rfl rfl rfl rfl (U4 rfl rfl rfl rfl (U4 rfl rfl rfl rfl (Ag.updL rfl (Ag.mix _ _ _)))))), ⟨rfl, trivial⟩, h_23, (by omega), (fun c hc => (Nat.lt_or_eq_of_le (Nat.le_of_lt_succ hc)).elim (fun e => hin c e) (fun e => by rw [e]; exact p_21)), rfl⟩
  ·have p_24 := of_decide_eq_false c_11
   refine WP.exit (thn_x (thn_x (inb_hit (inb_n (thn_n (WP.reg ?_))))))
   refine qM (vn k) rfl rfl (qV rfl (R.bin rfl rfl (bi_add (c := ((k + 1 : Nat) : Int)) (by omega) (by omega))) (qA (vn (k + 1)) rfl rfl ?_))
   refine WL.nil (thn_n ?_)
   have h_26 := (h_8.up J1).up J1
   exact ⟨k + 1, _, (by omega), (U2 rfl rfl (U4 rfl rfl rfl rfl (Ag.updL rfl (Ag.trans (Ag.sub rfl (Ag.mix _ _ _)) (Ag.upd rfl (Ag.upd rfl (Ag.upd rfl (Ag.upd rfl (Ag.updL rfl (Ag.mix _ _ _)))))))))), ⟨rfl, trivial⟩, h_26, (by omega), (fun a c ha hc => (Nat.lt_or_eq_of_le (Nat.le_of_lt_succ ha)).elim (fun e => hall a c e hc) (fun e => by subst e; exact hin c (by omega))), rfl⟩
 ·have p_27 := of_decide_eq_false c_5
  refine WP.exit (thn_x (thn_x (inb_hit (thn_n (WP.seq (WP.reg ?_))))))
  refine qA (.bool true) rfl rfl ?_
  refine WL.nil (thn_n (WP.ret ?_))
  refine ret_of results14 (RV.tmp (v := (.bool true)) rfl RV.nil) ?_
  exact ⟨true, rfl, (fun _ a c ha hc => hall a c (by omega) hc), h_2.chgS⟩
end Go.Proofs.YtajiipjmmoehcaaGreat
