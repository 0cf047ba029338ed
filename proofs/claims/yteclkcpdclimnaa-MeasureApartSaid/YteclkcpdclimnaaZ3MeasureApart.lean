/- Rules for walks and contracts of the functions that the law reaches, one behind the other. Conditions: none beyond what each theorem states. -/
import Derived.Test.YteclkcpdclimnaaZ2MeasureApart
set_option linter.unusedVariables false
set_option linter.unusedSimpArgs false
set_option linter.unusedSectionVars false
namespace Go.Proofs.Yteclkcpdclimnaa
open Go.Proofs.Try
open Go.Vc Go.Sh Go.RowKit
set_option maxRecDepth 20000

theorem c_HSum (mg : List UInt8) (ra : Option Addr) (rn rc : Nat) (hrn : (rsL mg).length = rn) (hrc : rn ≤ rc) (bc : Nat) (hm : mg.length ≤ 1000000000000) (w : World) (hvr : View w ra ((rsL mg).map vu8)) (hcb : (Ent.blk bc .ro 138 [(64, kL.map vu32), (8, (stH mg).map vu32), (1, [(.slice ra rn rc)]), (1, [(vi ((mg.length : Nat) : Int))]), (1, [(.bool true)])]).ok w.heap.size w) :
  Cs Try.prog 67 [(.pointer (some ⟨bc, 0, none⟩))].toArray w (fun v w1 => v = (.tuple [(.agg ⟨(sumL mg).map vu8⟩), (vi 0)].toArray) ∧ Chg w w1 []) := by
 refine Cs.of (n := 44) (args := [(pO bc 0)]) Try.func67 rfl rfl rfl ?_
 have h_0 := HP.init w
 have h_01 := h_0.oldV (View.arg hvr) rfl (by simp [Ent.mut])
 have h_00 := h_01.oldV hcb rfl (by simp [Ent.mut])
 have hrl := rsL_len mg
 have hpl := padL_len mg.length
 refine WP.seq (WP.reg ?_)
 refine WL.alloc (segs := [(32, (zB 32).map vu8)]) h_00 (zv typeInfo23 rfl) rfl (sC (s8 lr) sN) rfl (fun b_1 w_2 h_3 => ?_)
 refine qA (vi 0) rfl rfl ?_
 refine WL.nil (thn_n (WP.seq (WP.reg ?_)))
 refine qM (pO bc 0) rfl rfl ?_
 refine WL.call Try.call81 rfl rfl (c_Copy mg ra rn rc hrn (by omega) bc (by omega) _ (viewV (h_3.ok _ M2)) (h_3.argR M1)) rfl ?_
 rintro _ w_5 ⟨b_4, rfl, hc_6, hb_7, ra_8, rn_9, rc_10, hk_11, hv_12, hn_13, hq_14, hf_15⟩
 have h_16 := HP_gotHash (segs := [(64, kL.map vu32), (8, (stH mg).map vu32), (1, [(.slice ra_8 rn_9 rc_10)]), (1, [(vi ((mg.length : Nat) : Int))]), (1, [(.bool true)])]) h_3 hc_6 hb_7 (sC (SOk.u32 kL_len) (sC (SOk.u32 (stH_len mg)) (sC sV (sC sV (sC sV sN))))) hk_11 hv_12 hf_15
 refine qA (pO b_4 0) rfl rfl ?_
 refine WL.nil (thn_n (WP.seq (WP.seq (WP.reg ?_))))
 refine qM (pO b_4 0) rfl rfl (qV rfl (R.eqNilP rfl rfl underlying120) ?_)
 refine WL.nil (thn_n ?_)
 refine WP.condF rfl ?_
 refine WP.skip (thn_n (WP.seq (WP.reg ?_)))
 refine qM (pO b_4 0) rfl rfl (qM (pO bc 0) rfl rfl (qV rfl (R.nilCheck rfl) (qV rfl (R.fieldAddr (off' := 73) rfl underlying138 rfl sizeOf3 rfl rfl) (qV rfl (R.load1 rfl isAgg3 (h_16.ok _ M3) (Sg.t rfl (Sg.t rfl (Sg.t rfl Sg.h)))) ?_))))
 refine WL.call Try.call82 rfl rfl (c_padding mg.length (by omega) _) rfl ?_
 rintro _ w_19 ⟨a_17, cap_18, rfl, hc_20, ho_21⟩
 have h_22 := h_16.gotRow hc_20 ho_21
 have h_23 := h_22.up J1
 refine WL.call Try.call66 rfl rfl (c_Write mg ra_8 rn_9 rc_10 hn_13 (by omega) b_4 (by omega) a_17 ((padL mg.length).length) cap_18 (padL mg.length) (rfl : List.length (padL mg.length) = (padL mg.length).length) (by omega) (h_23.own M1).2.2.1 _ (viewV (h_23.ok _ M2)) (ownView (h_23.ok _ M1)) (h_23.arg M0) (Sep_off (m := .nw) (T := 138) (segs := [(64, kL.map vu32), (8, (stH mg).map vu32), (1, [(.slice ra_8 rn_9 rc_10)]), (1, [(vn (mg.length))]), (1, [(.bool true)])]) (by decide) (Sep.view (by decide) (fun h => h) (h_23.ne (i := 0) (j := 2) rfl rfl rfl).symm)) (Sep_off (m := .nw) (T := 138) (segs := [(64, kL.map vu32), (8, (stH mg).map vu32), (1, [(.slice ra_8 rn_9 rc_10)]), (1, [(vn (mg.length))]), (1, [(.bool true)])]) (by decide) (Sep.viewRow (h_23.ne (i := 0) (j := 1) rfl rfl rfl).symm))) rfl ?_
 rintro _ w_24 ⟨rfl, hc_25, ra_26, rn_27, rc_28, hk_29, hv_30, hn_31, hq_32, hf_33⟩
 have h_34 := HP_passedHash (segs' := [(64, kL.map vu32), (8, (stH (mg ++ (padL mg.length))).map vu32), (1, [(.slice ra_26 rn_27 rc_28)]), (1, [(vi (((mg ++ (padL mg.length)).length : Nat) : Int))]), (1, [(.bool true)])]) h_23 (by decide) hc_25 (sC (SOk.u32 kL_len) (sC (SOk.u32 (stH_len (mg ++ (padL mg.length)))) (sC sV (sC sV (sC sV sN))))) hk_29 hv_30 hf_33
 refine WL.nil (thn_n (WP.seq (WP.reg ?_)))
 refine WL.alloc (segs := [(32, (zB 32).map vu8)]) h_34 (zv typeInfo23 rfl) rfl (sC (s8 lr) sN) rfl (fun b_35 w_36 h_37 => ?_)
 refine WL.nil (thn_n (WP.seq (WP.seq (WP.reg ?_))))
 refine qM (pO b_4 0) rfl rfl (qV rfl (R.nilCheck rfl) (qV rfl (R.fieldAddr (off' := 64) rfl underlying138 rfl sizeOf134 rfl rfl) (qV rfl (R.loadA [(64, kL.map vu32)] [(8, (stH (mg ++ (padL mg.length))).map vu32)] [(1, [(.slice ra_26 rn_27 rc_28)]), (1, [(vn ((mg ++ (padL mg.length)).length))]), (1, [(.bool true)])] (cs := (stH (mg ++ (padL mg.length))).map vu32) rfl isAgg134 sizeOf134 (h_37.ok _ M2) rfl rfl rfl rfl) (qM (vi 0) rfl rfl ?_))))
 refine WL.nil (thn_n (WP.block ?_))
 refine WP.loopG (G := Nat) [6, 7, 8, 9, 26, 27, 28, 29, 30, 31, 32, 33, 34, 35, 36, 37, 38, 39, 40, 41, 42] (fun i => [(26, (vn i))]) (fun i m w1 => HP w w1 [.blk b_35 .nw 23 [(32, (mix (digL (stH (mg ++ padL mg.length))) (List.replicate 32 0) (4 * i)).map vu8)], .view ra_26 ((rsL (mg ++ (padL mg.length))).map vu8), .blk b_4 .nw 138 [(64, kL.map vu32), (8, (stH (mg ++ (padL mg.length))).map vu32), (1, [(.slice ra_26 rn_27 rc_28)]), (1, [(vn ((mg ++ (padL mg.length)).length))]), (1, [(.bool true)])], .row a_17 ((padL mg.length).length) cap_18 5 1 ((padL mg.length).map vu8), .view ra_8 ((rsL mg).map vu8), .blk b_1 .nw 23 [(32, (zB 32).map vu8)], .blk bc .ro 138 [(64, kL.map vu32), (8, (stH mg).map vu32), (1, [(.slice ra rn rc)]), (1, [(vn (mg.length))]), (1, [(.bool true)])], .view ra ((rsL mg).map vu8)] ∧ (i ≤ 8) ∧ m = 8 - i) ⟨0, _, ⟨rfl, trivial⟩, (by rw [Nat.mul_zero, mix_0]; exact h_37), (by omega), rfl⟩ ?_
 rintro i m_40 J_41 w_38 ⟨h_39, hi, rfl⟩
 have hx4 : (UInt64.ofNat (((stH (mg ++ padL mg.length))).getD i 0).toNat).toNat < 256 ^ 4 := by have h1 := (((stH (mg ++ padL mg.length))).getD i 0).toNat_lt; rw [nat64 (by omega)]; exact h1
 refine WP.seq (WP.reg ?_)
 refine qV rfl (R.bin rfl rfl (bi_lss (r := decide ((((i : Nat) : Int) : Int) < 8)) rfl)) ?_
 refine WL.nil (thn_n (WP.seq ?_))
 refine WP.cond (b := decide ((((i : Nat) : Int) : Int) < 8)) rfl (fun c_42 => ?_) (fun c_42 => ?_)
 ·have p_43 := of_decide_eq_true c_42
  refine WP.skip (thn_n (WP.seq (WP.block (WP.seq (WP.reg ?_)))))
  refine qM (vn i) rfl rfl (qV rfl (R.indexV (i := i) (cs := (stH (mg ++ (padL mg.length))).map vu32) (v := (vu32 ((stH (mg ++ (padL mg.length))).getD i 0))) rfl rfl rfl (by omega) underlying134 isAgg132 sizeOf132 (get_u32 (lt_len (K := 8) (stH_len (mg ++ (padL mg.length))) (by omega)))) (qA (vn i) rfl rfl (qA (vu32 ((stH (mg ++ (padL mg.length))).getD i 0)) rfl rfl ?_)))
  refine WL.nil (thn_n (WP.seq (WP.reg ?_)))
  refine qM (vu32 ((stH (mg ++ (padL mg.length))).getD i 0)) rfl rfl (qV rfl (R.conv (b := ((UInt64.ofNat (((stH (mg ++ (padL mg.length))).getD i 0).toNat)) : UInt64).toNat) rfl underlying132 underlying27 (w64_nat (((stH (mg ++ (padL mg.length))).getD i 0).toNat))) ?_)
  refine WL.call Try.call61 rfl rfl (c_Put_a (UInt64.ofNat (((stH (mg ++ (padL mg.length))).getD i 0).toNat)) 4 (by decide) (by decide) hx4 _) rfl ?_
  rintro _ w_46 ⟨a_44, cap_45, rfl, hc_47, ho_48⟩
  have h_49 := h_39.gotRow hc_47 ho_48
  refine qM (.tuple [(.slice a_44 4 cap_45), (vi 0)].toArray) rfl rfl (qV rfl (R.extract rfl rfl) (qV rfl (R.extract rfl rfl) (qA (.slice a_44 4 cap_45) rfl rfl (qA (vi 0) rfl rfl ?_))))
  refine WL.nil (thn_n ?_)
  refine WP.drawT (SL w.heap.size [.row a_44 4 cap_45 5 1 ((leN 4 (UInt64.ofNat (((stH (mg ++ (padL mg.length))).getD i 0).toNat)).toNat).map vu8), .view ra_26 ((rsL (mg ++ (padL mg.length))).map vu8), .blk b_4 .nw 138 [(64, kL.map vu32), (8, (stH (mg ++ (padL mg.length))).map vu32), (1, [(.slice ra_26 rn_27 rc_28)]), (1, [(vn ((mg ++ (padL mg.length)).length))]), (1, [(.bool true)])], .row a_17 ((padL mg.length).length) cap_18 5 1 ((padL mg.length).map vu8), .view ra_8 ((rsL mg).map vu8), .blk b_1 .nw 23 [(32, (zB 32).map vu8)], .blk bc .ro 138 [(64, kL.map vu32), (8, (stH mg).map vu32), (1, [(.slice ra rn rc)]), (1, [(vn (mg.length))]), (1, [(.bool true)])], .view ra ((rsL mg).map vu8)]) (.q 0 (.q 1 (.q 2 (.q 3 (.s 4 (.s 5 .nil)))))) (by kernel_rfl) (by kernel_rfl) rfl (by kernel_rfl) (fun w_50 hc_52 => (SL.cons ((h_49.same hc_52).ok _ M0) (SL.cons ((h_49.same hc_52).ok _ M2) (SL.cons ((h_49.same hc_52).ok _ M3) (SL.cons ((h_49.same hc_52).ok _ M4) (SL.cons ((h_49.same hc_52).ok _ M5) (SL.cons ((h_49.same hc_52).ok _ M6) (SL.cons ((h_49.same hc_52).ok _ M7) (SL.cons ((h_49.same hc_52).ok _ M8) (SL.nil _ _)))))))))) (fun w_50 hc_52 => ?_)
  have h_51 := h_49.same hc_52
  refine qT rfl rfl (fun wq hS => R.move (v := (vn i)) rfl) ?_
  refine qT rfl rfl (fun wq hS => R.bin rfl rfl (bi_mul (c := ((4 * i : Nat) : Int)) (by omega) (by omega))) ?_
  refine qT rfl rfl (fun wq hS => R.sliceA (b := b_35) (off := 0) (off' := (0 + (4 * i))) (l := 4 * i) (h := 32) rfl (EvB.it (l := 4 * i) rfl rfl) EvB.dflt (by omega) (by decide) underlying23 sizeOf5 (by rw [if_neg (by omega), Nat.mul_one])) ?_
  refine qT rfl rfl (fun wq hS => R.move (v := (.slice a_44 4 cap_45)) rfl) ?_
  refine WT.s (oN rfl ?_)
  refine WL.call Try.call72 rfl rfl (c_Turned a_44 4 cap_45 (leN 4 (UInt64.ofNat (((stH (mg ++ (padL mg.length))).getD i 0).toNat)).toNat) (leN_len ..) (by omega) _ (ownView (h_51.ok _ M0))) rfl ?_
  rintro _ w_55 ⟨a_53, cap_54, rfl, hc_56, ho_57⟩
  have h_58 := h_51.gotRow hc_56 ho_57
  refine WL.nil ?_
  refine ⟨(N1_3_4_5_6_7_8_9 h_58.ok), ?_⟩
  refine WT.s (oN rfl ?_)
  refine WL.copy (q := 4) (i := 4 * i) (ys := ((leN 4 (UInt64.ofNat (((stH (mg ++ (padL mg.length))).getD i 0).toNat)).toNat).reverse).map vu8) (cs' := (ovr (mix (digL (stH (mg ++ padL mg.length))) (List.replicate 32 0) (4 * i)) (4 * i) ((leN 4 (UInt64.ofNat (((stH (mg ++ (padL mg.length))).getD i 0).toNat)).toNat).reverse)).map vu8) h_58 rfl rfl underlying54 sizeOf5 (ownView (h_58.ok _ M0)) (len_map ((List.length_reverse ..).trans (leN_len ..))) (one_u8 _) Y2 (by decide) Sg.h rfl (Nat.min_eq_left (by omega)) (by rw [len_map (mix_len (digL_len _) lr)]; omega) (cpOvr ((List.length_reverse ..).trans (leN_len ..))) rfl (fun w_59 h_60 => ?_)
  refine WL.nil ?_
  refine ⟨(N1_3_4_5_6_7_8_9 h_60.ok), ?_⟩
  refine WT.nil (inb_n (thn_n (WP.reg ?_)))
  refine qV rfl (R.bin rfl rfl (bi_add (c := ((i + 1 : Nat) : Int)) (by omega) (by omega))) (qM (vn (i + 1)) rfl rfl ?_)
  refine WL.nil (thn_n ?_)
  have h_70 := (((((((((h_60.drop rfl).drop rfl).up J7).up J7).up J7).up J7).up J7).up J7).up J7).up J7
  rw [dig_ovr (by omega) _ rfl] at h_70
  exact ⟨i + 1, _, (by omega), (Ag.upd rfl (U4 rfl rfl rfl rfl (U4 rfl rfl rfl rfl (U4 rfl rfl rfl rfl (U4 rfl rfl rfl rfl (U4 rfl rfl rfl rfl (Ag.updL rfl (Ag.mix _ _ _)))))))), ⟨rfl, trivial⟩, h_70, (by omega), rfl⟩
 ·have p_71 := of_decide_eq_false c_42
  refine WP.exit (thn_x (thn_x (inb_hit (thn_n (WP.seq (WP.reg ?_))))))
  refine qV rfl (R.loadA [] [(32, (mix (digL (stH (mg ++ padL mg.length))) (List.replicate 32 0) (4 * i)).map vu8)] [] (cs := (mix (digL (stH (mg ++ padL mg.length))) (List.replicate 32 0) (4 * i)).map vu8) rfl isAgg23 sizeOf23 (h_39.ok _ M0) rfl rfl rfl rfl) ?_
  refine WL.storeA [] [(32, (zB 32).map vu8)] [(32, (mix (digL (stH (mg ++ padL mg.length))) (List.replicate 32 0) (4 * i)).map vu8)] [] h_39 rfl rfl sizeOf23 Y5 (by decide) rfl rfl rfl rfl rfl rfl (sC (s8 (mix_len (digL_len _) lr)) sN) (fun w_72 h_73 => ?_)
  refine qA (vi 0) rfl rfl ?_
  refine WL.nil (thn_n (WP.ret ?_))
  refine ret_of results67 (RV.cell rfl (h_73.loadA (cs := (mix (digL (stH (mg ++ padL mg.length))) (List.replicate 32 0) (4 * i)).map vu8) isAgg23 sizeOf23 M5 rfl rfl) (RV.tmp (v := (vi 0)) rfl RV.nil)) ?_
  have hi8 : i = 8 := by omega
  subst hi8
  have ed := dig_all (stH (mg ++ padL mg.length))
  exact ⟨by rw [show 4 * 8 = 32 from rfl, ed, sum_dig]; rfl, h_73.chgS⟩

theorem c_Sum (a : Option Addr) (n cap : Nat) (bs : List UInt8) (hl : bs.length = n) (hn : n ≤ 1000000000000) (hcap : n ≤ cap) (w : World) (hv : View w a (bs.map vu8)) :
  Cs Try.prog 48 [(.slice a n cap)].toArray w (fun v w1 => v = (.agg ⟨(sumL bs).map vu8⟩) ∧ Chg w w1 []) := by
 refine Cs.of (n := 16) (args := [(.slice a n cap)]) Try.func48 rfl rfl rfl ?_
 have h_0 := HP.init w
 have h_00 := h_0.old (View.arg hv) (fun f hf => by cases hf)
 refine WP.seq (WP.reg ?_)
 refine WL.alloc (segs := [(32, (zB 32).map vu8)]) h_00 (zv typeInfo23 rfl) rfl (sC (s8 lr) sN) rfl (fun b_1 w_2 h_3 => ?_)
 refine WL.nil (thn_n (WP.seq (WP.reg ?_)))
 refine WL.call Try.call65 rfl rfl (c_New _) rfl ?_
 rintro _ w_5 ⟨b_4, rfl, hc_6, hb_7, ra_8, rn_9, rc_10, hk_11, hv_12, hn_13, hq_14, hf_15⟩
 have h_16 := HP_gotHash (segs := [(64, kL.map vu32), (8, (stH ([] : List UInt8)).map vu32), (1, [(.slice ra_8 rn_9 rc_10)]), (1, [(vi ((([] : List UInt8).length : Nat) : Int))]), (1, [(.bool true)])]) h_3 hc_6 hb_7 (sC (SOk.u32 kL_len) (sC (SOk.u32 (stH_len ([] : List UInt8))) (sC sV (sC sV (sC sV sN))))) hk_11 hv_12 hf_15
 refine qA (pO b_4 0) rfl rfl ?_
 refine WL.nil (thn_n (WP.seq (WP.reg ?_)))
 refine qM (pO b_4 0) rfl rfl (qM (.slice a n cap) rfl rfl ?_)
 refine WL.call Try.call66 rfl rfl (c_Write ([] : List UInt8) ra_8 rn_9 rc_10 hn_13 (by omega) b_4 (by decide) a n cap bs hl (by omega) (by omega) _ (viewV (h_16.ok _ M1)) (viewV (h_16.ok _ M3)) (h_16.arg M0) (Sep_off (m := .nw) (T := 138) (segs := [(64, kL.map vu32), (8, (stH ([] : List UInt8)).map vu32), (1, [(.slice ra_8 rn_9 rc_10)]), (1, [(vn (([] : List UInt8).length))]), (1, [(.bool true)])]) (by decide) (Sep.view (by decide) (fun h => h) (h_16.ne (i := 0) (j := 1) rfl rfl rfl).symm)) (Sep_off (m := .nw) (T := 138) (segs := [(64, kL.map vu32), (8, (stH ([] : List UInt8)).map vu32), (1, [(.slice ra_8 rn_9 rc_10)]), (1, [(vn (([] : List UInt8).length))]), (1, [(.bool true)])]) (by decide) (Sep.view (by decide) (fun h => h) (h_16.ne (i := 0) (j := 3) rfl rfl rfl).symm))) rfl ?_
 rintro _ w_17 ⟨rfl, hc_18, ra_19, rn_20, rc_21, hk_22, hv_23, hn_24, hq_25, hf_26⟩
 have h_27 := HP_passedHash (segs' := [(64, kL.map vu32), (8, (stH bs).map vu32), (1, [(.slice ra_19 rn_20 rc_21)]), (1, [(vi ((bs.length : Nat) : Int))]), (1, [(.bool true)])]) h_16 (by decide) hc_18 (sC (SOk.u32 kL_len) (sC (SOk.u32 (stH_len bs)) (sC sV (sC sV (sC sV sN))))) hk_22 hv_23 hf_26
 refine WL.nil (thn_n (WP.seq (WP.reg ?_)))
 refine qM (pO b_4 0) rfl rfl ?_
 refine WL.call Try.call67 rfl rfl (c_HSum bs ra_19 rn_20 rc_21 hn_24 (by omega) b_4 (by omega) _ (viewV (h_27.ok _ M0)) (h_27.argR M1)) rfl ?_
 rintro _ w_29 ⟨rfl, hc_28⟩
 have h_30 := h_27.same hc_28
 refine qM (.tuple [(.agg ⟨(sumL bs).map vu8⟩), (vi 0)].toArray) rfl rfl (qV rfl (R.extract rfl rfl) (qV rfl (R.extract rfl rfl) ?_))
 refine WL.alloc (segs := [(32, (zB 32).map vu8)]) h_30 (zv typeInfo23 rfl) rfl (sC (s8 lr) sN) rfl (fun b_31 w_32 h_33 => ?_)
 refine WL.storeA [] [(32, (zB 32).map vu8)] [(32, (sumL bs).map vu8)] [] h_33 rfl rfl sizeOf23 At.h (by decide) rfl rfl rfl rfl rfl rfl (sC (s8 (sumL_len _)) sN) (fun w_34 h_35 => ?_)
 refine qA (vi 0) rfl rfl ?_
 refine WL.nil (thn_n (WP.seq (WP.reg ?_)))
 refine qV rfl (R.loadA [] [(32, (sumL bs).map vu8)] [] (cs := (sumL bs).map vu8) rfl isAgg23 sizeOf23 (h_35.ok _ M0) rfl rfl rfl rfl) ?_
 refine WL.storeA [] [(32, (zB 32).map vu8)] [(32, (sumL bs).map vu8)] [] h_35 rfl rfl sizeOf23 Y4 (by decide) rfl rfl rfl rfl rfl rfl (sC (s8 (sumL_len _)) sN) (fun w_36 h_37 => ?_)
 refine WL.nil (thn_n (WP.ret ?_))
 refine ret_of results48 (RV.cell rfl (h_37.loadA (cs := (sumL bs).map vu8) isAgg23 sizeOf23 M4 rfl rfl) RV.nil) ?_
 exact ⟨rfl, h_37.chgS⟩
end Go.Proofs.Yteclkcpdclimnaa

namespace Go.Sh
open Go.Vc
def padK (k : List UInt8) : List UInt8 := k ++ List.replicate (64 - k.length) 0
theorem padK_len {k : List UInt8} {n : Nat} (hl : k.length = n) (h : n ≤ 64) : (padK k).length = 64 := by rw [padK, List.length_append, List.length_replicate]; omega
def xm (m : UInt8) (l : List UInt8) : List UInt8 := l.map fun x => x ^^^ m
theorem xm_len (m : UInt8) (l : List UInt8) : (xm m l).length = l.length := by simp [xm]
theorem xm_get {m : UInt8} {l : List UInt8} {i : Nat} (hi : i < l.length) : (xm m l).getD i 0 = l.getD i 0 ^^^ m := by simp [xm, hi]
theorem xm_step {m : UInt8} {l : List UInt8} {i n : Nat} (hl : l.length = n) (hi : i < n) : (mix (xm m l) l i).set i ((mix (xm m l) l i).getD i 0 ^^^ m) = mix (xm m l) l (i + 1) := by
  have hx : (xm m l).length = n := by rw [xm_len, hl]
  rw [mix_get hx hi, ← xm_get (by omega)]
  exact mix_set hx hl hi
theorem xm_all {m : UInt8} {l : List UInt8} {n : Nat} (hl : l.length = n) : mix (xm m l) l n = xm m l := mix_all (by rw [xm_len, hl]) hl (Nat.le_refl _)
theorem ovr_pad {k : List UInt8} {n : Nat} (hl : k.length = n) : ovr (List.replicate 64 (0 : UInt8)) 0 k = padK k := by
  rw [ovr, padK, List.take_zero, List.nil_append, Nat.zero_add, List.drop_replicate]
theorem flat2 (a b : List UInt8) : [a, b].flatten = a ++ b := by simp
def tagK (k b : List UInt8) : List UInt8 := sumL (xm 92 (padK k) ++ sumL (xm 54 (padK k) ++ b))
def tagL (key b : List UInt8) : List UInt8 := if 64 < key.length then tagK (sumL key) b else tagK key b
theorem tagK_len (k b : List UInt8) : (tagK k b).length = 32 := sumL_len _
theorem tagL_len (key b : List UInt8) : (tagL key b).length = 32 := by rw [tagL]; split <;> exact tagK_len _ _
theorem tag_s {key b : List UInt8} {n : Nat} (hl : key.length = n) (h : ¬ 64 < n) : tagL key b = tagK key b := if_neg (by omega)
theorem tag_l {key b : List UInt8} {n : Nat} (hl : key.length = n) (h : 64 < n) : tagL key b = tagK (sumL key) b := if_pos (by omega)
def difN (a b : List UInt8) : Nat → UInt8
  | 0 => 0
  | i + 1 => difN a b i ||| (a.getD i 0 ^^^ b.getD i 0)
def deriveL (key l : List UInt8) (x : UInt64) : List UInt8 := tagL key (Go.Wr.packL [l, leN 8 x.toNat])
def kfL (key l : List UInt8) : Nat → List UInt8
  | 0 => []
  | k + 1 => kfL key l k ++ deriveL key l (UInt64.ofNat k)
end Go.Sh
namespace Go.Vc
section
variable {P : Program} {F : Fr} {w : World}
variable {ty : TypeId} {pos : String} {after : Array Edge} {dst : Option Tmp} {g : Option (Nat × Bool)}
end
end Go.Vc
namespace Go.Sh
open Go.Vc
def halfL (d : List UInt8) (c : Nat) : List UInt8 := (d.drop c).take 16
def K11 : List UInt8 := List.replicate 20 11
end Go.Sh

namespace Go.Proofs.Yteclkcpdclimnaa
open Go.Proofs.Try
open Go.Vc Go.Sh Go.RowKit
set_option maxRecDepth 20000

theorem c_Tag1 (mk : UInt8) (key : List UInt8) (ak : Option Addr) (nk ck : Nat) (hkl : key.length = nk) (hk64 : nk ≤ 64) (bc : Nat) (a2 : Option Addr) (n2 cap2 : Nat) (bs2 : List UInt8) (hl2 : bs2.length = n2) (hcap2 : n2 ≤ cap2) (hn2 : n2 ≤ 100000000000) (w : World) (hvk : View w ak (key.map vu8)) (hcb : (Ent.blk bc .ro 54 [(1, [(.slice ak nk ck)])]).ok w.heap.size w) (hv2 : View w a2 (bs2.map vu8)) :
  Cs Try.prog 68 [(vu8 mk), (.slice a2 n2 cap2), (.pointer (some ⟨bc, 0, none⟩))].toArray w (fun v w1 => v = (.agg ⟨(sumL (xm mk (padK key) ++ bs2)).map vu8⟩) ∧ Chg w w1 []) := by
 refine Cs.of (n := 26) (args := [(vu8 mk), (.slice a2 n2 cap2), (pO bc 0)]) Try.func68 rfl rfl rfl ?_
 have h_0 := HP.init w
 have h_01 := h_0.oldV (View.arg hvk) rfl (by simp [Ent.mut])
 have h_02 := h_01.oldV hcb rfl (by simp [Ent.mut])
 have h_00 := h_02.oldV (View.arg hv2) rfl (by simp [Ent.mut])
 have hfl : ([xm mk (padK key), bs2].flatten).length = 64 + n2 := by rw [flat2, List.length_append, xm_len, (padK_len hkl hk64), hl2]
 refine WP.seq (WP.reg ?_)
 refine WL.alloc (segs := [(32, (zB 32).map vu8)]) h_00 (zv typeInfo23 rfl) rfl (sC (s8 lr) sN) rfl (fun b_1 w_2 h_3 => ?_)
 refine WL.nil (thn_n (WP.seq (WP.reg ?_)))
 refine WL.alloc (segs := [(64, (zB 64).map vu8)]) h_3 (zv typeInfo124 rfl) rfl (sC (s8 lr) sN) rfl (fun b_4 w_5 h_6 => ?_)
 refine WL.nil (thn_n (WP.seq ?_))
 refine WP.drawT (SL w.heap.size [.blk b_1 .nw 23 [(32, (zB 32).map vu8)], .view a2 (bs2.map vu8), .blk bc .ro 54 [(1, [(.slice ak nk ck)])], .view ak (key.map vu8)]) (.q 0 (.q 1 (.s 2 .nil))) (by kernel_rfl) (by kernel_rfl) rfl (by kernel_rfl) (fun w_7 hc_9 => (SL.cons ((h_6.same hc_9).ok _ M1) (SL.cons ((h_6.same hc_9).ok _ M2) (SL.cons ((h_6.same hc_9).ok _ M3) (SL.cons ((h_6.same hc_9).ok _ M4) (SL.nil _ _)))))) (fun w_7 hc_9 => ?_)
 have h_8 := h_6.same hc_9
 refine qT rfl rfl (fun wq hS => R.sliceA (b := b_4) (off := 0) (off' := 0) (l := 0) (h := 64) rfl EvB.dflt EvB.dflt (by decide) (by decide) underlying124 sizeOf5 rfl) ?_
 refine qT rfl rfl (fun wq hS => R.load1 rfl isAgg54 (hS _ M2) Sg.h) ?_
 refine WT.s (oN rfl ?_)
 refine WL.copy (q := nk) (i := 0) (ys := key.map vu8) (cs' := (ovr (zB 64) 0 key).map vu8) h_8 rfl rfl underlying54 sizeOf5 (viewV (h_8.ok _ M4)) (len_map hkl) (one_u8 _) At.h (by decide) Sg.h rfl (Nat.min_eq_left (by omega)) (by rw [len_map lr]; omega) (cpOvr hkl) rfl (fun w_10 h_11 => ?_)
 refine WL.nil ?_
 refine ⟨(SL.cons (h_11.ok _ M1) (SL.cons (h_11.ok _ M2) (SL.cons (h_11.ok _ M3) (SL.cons (h_11.ok _ M4) (SL.nil _ _))))), ?_⟩
 refine WT.nil (thn_n (WP.seq (WP.seq (WP.reg ?_))))
 refine qM (vi 0) rfl rfl ?_
 refine WL.nil (thn_n (WP.block ?_))
 rw [ovr_pad hkl] at h_11
 refine WP.loopG (G := Nat) [7, 11, 12, 13, 14, 15, 16, 17, 18, 19, 20] (fun i => [(11, (vn i))]) (fun i m w1 => HP w w1 [.blk b_4 .nw 124 [(64, (mix (xm mk (padK key)) (padK key) i).map vu8)], .blk b_1 .nw 23 [(32, (zB 32).map vu8)], .view a2 (bs2.map vu8), .blk bc .ro 54 [(1, [(.slice ak nk ck)])], .view ak (key.map vu8)] ∧ (i ≤ 64) ∧ m = 64 - i) ⟨0, _, ⟨rfl, trivial⟩, (by rw [mix_0]; exact h_11), (by omega), rfl⟩ ?_
 rintro i m_14 J_15 w_12 ⟨h_13, hi, rfl⟩
 refine WP.seq (WP.reg ?_)
 refine qV rfl (R.bin rfl rfl (bi_lss (r := decide ((((i : Nat) : Int) : Int) < 64)) rfl)) ?_
 refine WL.nil (thn_n (WP.seq ?_))
 refine WP.cond (b := decide ((((i : Nat) : Int) : Int) < 64)) rfl (fun c_16 => ?_) (fun c_16 => ?_)
 ·have p_17 := of_decide_eq_true c_16
  refine WP.skip (thn_n (WP.seq (WP.block (WP.seq (WP.reg ?_)))))
  refine qM (vn i) rfl rfl (qA (vn i) rfl rfl ?_)
  refine WL.nil (thn_n (WP.reg ?_))
  refine qM (vn i) rfl rfl (qV rfl (R.indexA (b := b_4) (off := 0) (off' := (0 + i)) (i := i) rfl rfl rfl (by omega) underlying124 sizeOf5 (by rw [Nat.mul_one])) (qV rfl (R.loadE (b := b_4) (off := (0 + i)) (i := i) (v := (vu8 ((mix (xm mk (padK key)) (padK key) i).getD i 0))) rfl isAgg5 (h_13.ok _ M0) Sg.h rfl (get_u8 (lt_len (K := 64) (mix_len ((xm_len _ _).trans (padK_len hkl hk64)) (padK_len hkl hk64)) (by omega)))) (qM (vu8 mk) rfl rfl (qV rfl (R.bin rfl rfl (b8_xor ((mix (xm mk (padK key)) (padK key) i).getD i 0) mk)) (qV rfl (R.indexA (b := b_4) (off := 0) (off' := (0 + i)) (i := i) rfl rfl rfl (by omega) underlying124 sizeOf5 (by rw [Nat.mul_one])) ?_)))))
  refine WL.storeE (b := b_4) (off := (0 + i)) (i := i) (v := (vu8 (((mix (xm mk (padK key)) (padK key) i).getD i 0) ^^^ mk))) (cs' := ((mix (xm mk (padK key)) (padK key) i).set i (((mix (xm mk (padK key)) (padK key) i).getD i 0) ^^^ mk)).map vu8) h_13 rfl rfl sizeOf5 rfl At.h (by decide) Sg.h rfl (lt_len (K := 64) (len_map (mix_len ((xm_len _ _).trans (padK_len hkl hk64)) (padK_len hkl hk64))) (by omega)) (set_u8 _ _ _) (fun w_18 h_19 => ?_)
  refine WL.nil (inb_n (thn_n (WP.reg ?_)))
  refine qV rfl (R.bin rfl rfl (bi_add (c := ((i + 1 : Nat) : Int)) (by omega) (by omega))) (qM (vn (i + 1)) rfl rfl ?_)
  refine WL.nil (thn_n ?_)
  have h_24 := ((((h_19.up J4).up J4).up J4).up J4).up J4
  rw [xm_step (padK_len hkl hk64) (by omega)] at h_24
  exact ⟨i + 1, _, (by omega), (Ag.upd rfl (U2 rfl rfl (U4 rfl rfl rfl rfl (U4 rfl rfl rfl rfl (Ag.updL rfl (Ag.mix _ _ _)))))), ⟨rfl, trivial⟩, h_24, (by omega), rfl⟩
 ·have p_25 := of_decide_eq_false c_16
  refine WP.exit (thn_x (thn_x (inb_hit (thn_n (WP.seq (WP.reg ?_))))))
  have hi64 : i = 64 := by omega
  subst hi64
  rw [xm_all (padK_len hkl hk64)] at h_13
  refine qV rfl (R.sliceA (b := b_4) (off := 0) (off' := 0) (l := 0) (h := 64) rfl EvB.dflt EvB.dflt (by decide) (by decide) underlying124 sizeOf5 rfl) (qM (.slice a2 n2 cap2) rfl rfl ?_)
  refine WL.buildSl (vs := [(0, (.slice (some ⟨b_4, 0, none⟩) 64 64)), (1, (.slice a2 n2 cap2))]) (cs := [(.slice (some ⟨b_4, 0, none⟩) 64 64), (.slice a2 n2 cap2)]) h_13 underlying101 sizeOf54 (zv typeInfo54 rfl) rfl rfl (by kernel_rfl) rfl (by simp [Value.oneCell']) rfl rfl (fun b_26 w_27 h_28 => ?_)
  refine WL.call Try.call56 rfl rfl (c_wJoin (some ⟨b_26, 0, none⟩) 2 2 [(.slice (some ⟨b_4, 0, none⟩) 64 64), (.slice a2 n2 cap2)] [xm mk (padK key), bs2] rfl (by omega) (by omega) _ (viewB (h_28.ok _ M0) Sg.h) (Sls.cons ((xm_len _ _).trans (padK_len hkl hk64)) (by decide) (viewB (h_28.ok _ M1) Sg.h) (Sls.cons hl2 (by omega) (viewV (h_28.ok _ M3)) Sls.nil))) rfl ?_
  rintro _ w_31 ⟨a_29, cap_30, rfl, hc_32, ho_33⟩
  have h_34 := h_28.gotRow hc_32 ho_33
  refine WL.call Try.call48 rfl rfl (c_Sum a_29 ([xm mk (padK key), bs2].flatten.length) cap_30 ([xm mk (padK key), bs2].flatten) (rfl : List.length ([xm mk (padK key), bs2].flatten) = [xm mk (padK key), bs2].flatten.length) (by omega) (h_34.own M0).2.2.1 _ (ownView (h_34.ok _ M0))) rfl ?_
  rintro _ w_36 ⟨rfl, hc_35⟩
  have h_37 := h_34.same hc_35
  refine WL.storeA [] [(32, (zB 32).map vu8)] [(32, (sumL ([xm mk (padK key), bs2].flatten)).map vu8)] [] h_37 rfl rfl sizeOf23 Y3 (by decide) rfl rfl rfl rfl rfl rfl (sC (s8 (sumL_len _)) sN) (fun w_38 h_39 => ?_)
  refine WL.nil (thn_n (WP.ret ?_))
  refine ret_of results68 (RV.cell rfl (h_39.loadA (cs := (sumL ([xm mk (padK key), bs2].flatten)).map vu8) isAgg23 sizeOf23 M3 rfl rfl) RV.nil) ?_
  exact ⟨by rw [flat2]; rfl, h_39.chgS⟩

theorem c_Tag_s (a : Option Addr) (n cap : Nat) (key : List UInt8) (hl : key.length = n) (hcap : n ≤ cap) (hn : n ≤ 100000000000) (a2 : Option Addr) (n2 cap2 : Nat) (bs2 : List UInt8) (hl2 : bs2.length = n2) (hcap2 : n2 ≤ cap2) (hn2 : n2 ≤ 100000000000) (h : ¬ 64 < n) (w : World) (hv : View w a (key.map vu8)) (hv2 : View w a2 (bs2.map vu8)) :
  Cs Try.prog 50 [(.slice a n cap), (.slice a2 n2 cap2)].toArray w (fun v w1 => v = (.agg ⟨(tagL key bs2).map vu8⟩) ∧ Chg w w1 []) := by
 refine Cs.of (n := 21) (args := [(.slice a n cap), (.slice a2 n2 cap2)]) Try.func50 rfl rfl rfl ?_
 have h_0 := HP.init w
 have h_01 := h_0.oldV (View.arg hv) rfl (by simp [Ent.mut])
 have h_00 := h_01.oldV (View.arg hv2) rfl (by simp [Ent.mut])
 refine WP.seq (WP.reg ?_)
 refine WL.box (segs := [(1, [(.slice a n cap)])]) h_00 rfl rfl (sC sV sN) rfl (fun b_1 w_2 h_3 => ?_)
 refine WL.alloc (segs := [(32, (zB 32).map vu8)]) h_3 (zv typeInfo23 rfl) rfl (sC (s8 lr) sN) rfl (fun b_4 w_5 h_6 => ?_)
 refine WL.nil (thn_n (WP.seq (WP.seq (WP.reg ?_))))
 refine qV rfl (R.load1 rfl isAgg54 (h_6.ok _ M1) Sg.h) (qV rfl (R.lenS (a := a) (m := n) rfl rfl underlying54) (qV rfl (R.bin rfl rfl (bi_gtr (r := decide ((((n : Nat) : Int) : Int) > 64)) rfl)) ?_))
 refine WL.nil (thn_n ?_)
 refine WP.condF (congrArg Value.bool (decide_eq_false (by omega))) ?_
 refine WP.skip (thn_n (WP.seq (WP.reg ?_)))
 refine qV rfl (R.makeFuncL (fi := []) (ca := [(pO b_1 0)]) rfl rfl) (qA (Value.func (Fn.func 68) [].toArray [(Value.pointer (some ⟨b_1, 0, none⟩))].toArray) rfl rfl ?_)
 refine WL.nil (thn_n (WP.seq (WP.reg ?_)))
 refine qM (Value.func (Fn.func 68) [].toArray [(Value.pointer (some ⟨b_1, 0, none⟩))].toArray) rfl rfl (qM (.slice a2 n2 cap2) rfl rfl ?_)
 refine WL.call Try.call68 rfl rfl (c_Tag1 (54 : UInt8) key a n cap hl (by omega) b_1 a2 n2 cap2 bs2 hl2 (by omega) (by omega) _ (viewV (h_6.ok _ M3)) (h_6.argR M1) (viewV (h_6.ok _ M2))) rfl ?_
 rintro _ w_8 ⟨rfl, hc_7⟩
 have h_9 := h_6.same hc_7
 refine WL.alloc (segs := [(32, (zB 32).map vu8)]) h_9 (zv typeInfo23 rfl) rfl (sC (s8 lr) sN) rfl (fun b_10 w_11 h_12 => ?_)
 refine WL.storeA [] [(32, (zB 32).map vu8)] [(32, (sumL (xm (54 : UInt8) (padK key) ++ bs2)).map vu8)] [] h_12 rfl rfl sizeOf23 At.h (by decide) rfl rfl rfl rfl rfl rfl (sC (s8 (sumL_len _)) sN) (fun w_13 h_14 => ?_)
 refine WL.nil (thn_n (WP.seq (WP.reg ?_)))
 refine qM (Value.func (Fn.func 68) [].toArray [(Value.pointer (some ⟨b_1, 0, none⟩))].toArray) rfl rfl (qV rfl (R.sliceA (b := b_10) (off := 0) (off' := 0) (l := 0) (h := 32) rfl EvB.dflt EvB.dflt (by decide) (by decide) underlying23 sizeOf5 rfl) ?_)
 refine WL.call Try.call68 rfl rfl (c_Tag1 (92 : UInt8) key a n cap hl (by omega) b_1 (some ⟨b_10, 0, none⟩) 32 32 (sumL (xm (54 : UInt8) (padK key) ++ bs2)) (sumL_len _) (by decide) (by omega) _ (viewV (h_14.ok _ M4)) (h_14.argR M2) (viewB (h_14.ok _ M0) Sg.h)) rfl ?_
 rintro _ w_16 ⟨rfl, hc_15⟩
 have h_17 := h_14.same hc_15
 refine WL.storeA [] [(32, (zB 32).map vu8)] [(32, (sumL (xm (92 : UInt8) (padK key) ++ (sumL (xm (54 : UInt8) (padK key) ++ bs2)))).map vu8)] [] h_17 rfl rfl sizeOf23 Y1 (by decide) rfl rfl rfl rfl rfl rfl (sC (s8 (sumL_len _)) sN) (fun w_18 h_19 => ?_)
 refine WL.nil (thn_n (WP.ret ?_))
 refine ret_of results50 (RV.cell rfl (h_19.loadA (cs := (sumL (xm (92 : UInt8) (padK key) ++ (sumL (xm (54 : UInt8) (padK key) ++ bs2)))).map vu8) isAgg23 sizeOf23 M1 rfl rfl) RV.nil) ?_
 exact ⟨by rw [tag_s hl h]; rfl, h_19.chgS⟩

theorem c_Tag_l (a : Option Addr) (n cap : Nat) (key : List UInt8) (hl : key.length = n) (hcap : n ≤ cap) (hn : n ≤ 100000000000) (a2 : Option Addr) (n2 cap2 : Nat) (bs2 : List UInt8) (hl2 : bs2.length = n2) (hcap2 : n2 ≤ cap2) (hn2 : n2 ≤ 100000000000) (h : 64 < n) (w : World) (hv : View w a (key.map vu8)) (hv2 : View w a2 (bs2.map vu8)) :
  Cs Try.prog 50 [(.slice a n cap), (.slice a2 n2 cap2)].toArray w (fun v w1 => v = (.agg ⟨(tagL key bs2).map vu8⟩) ∧ Chg w w1 []) := by
 refine Cs.of (n := 21) (args := [(.slice a n cap), (.slice a2 n2 cap2)]) Try.func50 rfl rfl rfl ?_
 have h_0 := HP.init w
 have h_01 := h_0.oldV (View.arg hv) rfl (by simp [Ent.mut])
 have h_00 := h_01.oldV (View.arg hv2) rfl (by simp [Ent.mut])
 refine WP.seq (WP.reg ?_)
 refine WL.box (segs := [(1, [(.slice a n cap)])]) h_00 rfl rfl (sC sV sN) rfl (fun b_1 w_2 h_3 => ?_)
 refine WL.alloc (segs := [(32, (zB 32).map vu8)]) h_3 (zv typeInfo23 rfl) rfl (sC (s8 lr) sN) rfl (fun b_4 w_5 h_6 => ?_)
 refine WL.nil (thn_n (WP.seq (WP.seq (WP.reg ?_))))
 refine qV rfl (R.load1 rfl isAgg54 (h_6.ok _ M1) Sg.h) (qV rfl (R.lenS (a := a) (m := n) rfl rfl underlying54) (qV rfl (R.bin rfl rfl (bi_gtr (r := decide ((((n : Nat) : Int) : Int) > 64)) rfl)) ?_))
 refine WL.nil (thn_n ?_)
 refine WP.condT (congrArg Value.bool (decide_eq_true (by omega))) ?_
 refine WP.seq (WP.reg ?_)
 refine qV rfl (R.load1 rfl isAgg54 (h_6.ok _ M1) Sg.h) ?_
 refine WL.call Try.call48 rfl rfl (c_Sum a n cap key hl (by omega) (by omega) _ (viewV (h_6.ok _ M3))) rfl ?_
 rintro _ w_8 ⟨rfl, hc_7⟩
 have h_9 := h_6.same hc_7
 refine WL.alloc (segs := [(32, (zB 32).map vu8)]) h_9 (zv typeInfo23 rfl) rfl (sC (s8 lr) sN) rfl (fun b_10 w_11 h_12 => ?_)
 refine WL.storeA [] [(32, (zB 32).map vu8)] [(32, (sumL key).map vu8)] [] h_12 rfl rfl sizeOf23 At.h (by decide) rfl rfl rfl rfl rfl rfl (sC (s8 (sumL_len _)) sN) (fun w_13 h_14 => ?_)
 refine WL.nil (thn_n (WP.reg ?_))
 refine qV rfl (R.sliceA (b := b_10) (off := 0) (off' := 0) (l := 0) (h := 32) rfl EvB.dflt EvB.dflt (by decide) (by decide) underlying23 sizeOf5 rfl) ?_
 refine WL.store1 h_14 rfl rfl sizeOf54 rfl Y2 (by decide) Sg.h (fun w_15 h_16 => ?_)
 refine WL.nil (thn_n (WP.seq (WP.reg ?_)))
 refine qV rfl (R.makeFuncL (fi := []) (ca := [(pO b_1 0)]) rfl rfl) (qA (Value.func (Fn.func 68) [].toArray [(Value.pointer (some ⟨b_1, 0, none⟩))].toArray) rfl rfl ?_)
 refine WL.nil (thn_n (WP.seq (WP.reg ?_)))
 refine qM (Value.func (Fn.func 68) [].toArray [(Value.pointer (some ⟨b_1, 0, none⟩))].toArray) rfl rfl (qM (.slice a2 n2 cap2) rfl rfl ?_)
 refine WL.call Try.call68 rfl rfl (c_Tag1 (54 : UInt8) (sumL key) (some ⟨b_10, 0, none⟩) 32 32 (sumL_len _) (by omega) b_1 a2 n2 cap2 bs2 hl2 (by omega) (by omega) _ (viewB (h_16.ok _ M0) Sg.h) (h_16.argR M2) (viewV (h_16.ok _ M3))) rfl ?_
 rintro _ w_18 ⟨rfl, hc_17⟩
 have h_19 := h_16.same hc_17
 refine WL.alloc (segs := [(32, (zB 32).map vu8)]) h_19 (zv typeInfo23 rfl) rfl (sC (s8 lr) sN) rfl (fun b_20 w_21 h_22 => ?_)
 refine WL.storeA [] [(32, (zB 32).map vu8)] [(32, (sumL (xm (54 : UInt8) (padK (sumL key)) ++ bs2)).map vu8)] [] h_22 rfl rfl sizeOf23 At.h (by decide) rfl rfl rfl rfl rfl rfl (sC (s8 (sumL_len _)) sN) (fun w_23 h_24 => ?_)
 refine WL.nil (thn_n (WP.seq (WP.reg ?_)))
 refine qM (Value.func (Fn.func 68) [].toArray [(Value.pointer (some ⟨b_1, 0, none⟩))].toArray) rfl rfl (qV rfl (R.sliceA (b := b_20) (off := 0) (off' := 0) (l := 0) (h := 32) rfl EvB.dflt EvB.dflt (by decide) (by decide) underlying23 sizeOf5 rfl) ?_)
 refine WL.call Try.call68 rfl rfl (c_Tag1 (92 : UInt8) (sumL key) (some ⟨b_10, 0, none⟩) 32 32 (sumL_len _) (by omega) b_1 (some ⟨b_20, 0, none⟩) 32 32 (sumL (xm (54 : UInt8) (padK (sumL key)) ++ bs2)) (sumL_len _) (by decide) (by omega) _ (viewB (h_24.ok _ M1) Sg.h) (h_24.argR M3) (viewB (h_24.ok _ M0) Sg.h)) rfl ?_
 rintro _ w_26 ⟨rfl, hc_25⟩
 have h_27 := h_24.same hc_25
 refine WL.storeA [] [(32, (zB 32).map vu8)] [(32, (sumL (xm (92 : UInt8) (padK (sumL key)) ++ (sumL (xm (54 : UInt8) (padK (sumL key)) ++ bs2)))).map vu8)] [] h_27 rfl rfl sizeOf23 Y2 (by decide) rfl rfl rfl rfl rfl rfl (sC (s8 (sumL_len _)) sN) (fun w_28 h_29 => ?_)
 refine WL.nil (thn_n (WP.ret ?_))
 refine ret_of results50 (RV.cell rfl (h_29.loadA (cs := (sumL (xm (92 : UInt8) (padK (sumL key)) ++ (sumL (xm (54 : UInt8) (padK (sumL key)) ++ bs2)))).map vu8) isAgg23 sizeOf23 M2 rfl rfl) RV.nil) ?_
 exact ⟨by rw [tag_l hl h]; rfl, h_29.chgS⟩

theorem c_Tag (a : Option Addr) (n cap : Nat) (key : List UInt8) (hl : key.length = n) (hcap : n ≤ cap) (hn : n ≤ 100000000000) (a2 : Option Addr) (n2 cap2 : Nat) (bs2 : List UInt8) (hl2 : bs2.length = n2) (hcap2 : n2 ≤ cap2) (hn2 : n2 ≤ 100000000000) (w : World) (hv : View w a (key.map vu8)) (hv2 : View w a2 (bs2.map vu8)) : Cs Try.prog 50 [.slice a n cap, .slice a2 n2 cap2].toArray w (fun v w1 => v = (.agg ⟨(tagL key bs2).map vu8⟩) ∧ Chg w w1 []) := by
 by_cases h : 64 < n
 ·exact c_Tag_l a n cap key hl hcap hn a2 n2 cap2 bs2 hl2 hcap2 hn2 h w hv hv2
 ·exact c_Tag_s a n cap key hl hcap hn a2 n2 cap2 bs2 hl2 hcap2 hn2 h w hv hv2
end Go.Proofs.Yteclkcpdclimnaa

namespace Go.Vc
open Go.RowKit Go.WideShapes
section
variable {P : Program} {F : Fr} {w w' w0 : World} {L : List Ent}
variable {ty : TypeId} {pos : String} {after : Array Edge} {dst : Option Tmp} {g : Option (Nat × Bool)}
theorem agg_formed {t : TypeId} {cs : List Value} (hu : aggB P t = true) (hl : cs.length = P.cellsOf t) : (Value.agg ⟨cs⟩).formed P t = true := by
  unfold aggB at hu
  unfold Value.formed
  split at hu <;> simp_all
theorem Ck.agg {K : TypeId} {m h : Nat} {cs : List Value} (hk : P.keyTypeAt m K = true) (hm : Nat.ble m 10000 = true) (hu : aggB P K = true) (t : Typ P h K cs) : Ck P K (.agg ⟨cs⟩) := by
  intro b w
  have hm' := Nat.le_of_ble_eq_true hm
  have := run_checkKey_deep (P := P) b (10000 - m) m K hk w _ (.agg ⟨cs⟩) _ (agg_formed hu t.len) (t.lits h (Nat.le_refl _))
  rwa [show 10000 - m + m = 10000 by omega] at this
def fdx {α : Type} [DecidableEq α] (q : α) : List (α × Value × Nat) → Nat → Option (Nat × Value)
  | [], _ => none
  | e :: r, i => if e.1 = q then some (i, e.2.1) else fdx q r (i + 1)
def ents {α : Type} (kf : α → List Value) (es : List (α × Value × Nat)) : List MapEntry := es.map fun e => { key := .agg ⟨kf e.1⟩, val := e.2.1, born := e.2.2 }
theorem run_asking {α : Type} [DecidableEq α] {kf : α → List Value} {K : TypeId} {m h : Nat} {q : α} (hk : P.keyTypeAt m K = true) (hm : Nat.ble m 10000 = true) (hu : aggB P K = true) (t : Typ P h K (kf q)) (w : World) :
    ∀ (es : List (α × Value × Nat)) (i : Nat), (∀ e ∈ es, Typ P h K (kf e.1) ∧ (kf e.1 = kf q → e.1 = q)) → (Instr.findAsking K (.agg ⟨kf q⟩) (ents kf es) i).run P w = .ok (fdx q es i) w
  | [], i, _ => by simp [ents, Instr.findAsking, fdx]
  | e :: es, i, hall => by
    obtain ⟨te, hinj⟩ := hall e (by simp)
    obtain ⟨r, hr, hiff⟩ := equal_of (w := w) hk (Nat.le_of_ble_eq_true hm) hu t te
    have hr' : (Op.equal K (.agg ⟨kf q⟩) (.agg ⟨kf e.1⟩)).run P w = .ok r w := hr
    by_cases he : e.1 = q
    · have : r = true := hiff.2 (by rw [he])
      subst this
      rw [he] at hr'
      simp [ents, Instr.findAsking, hr', he, fdx]
    · have : r = false := by
        cases r with
        | false => rfl
        | true => exact absurd (hinj (hiff.1 rfl).symm) he
      subst this
      have ih := run_asking hk hm hu t w es (i + 1) (fun y hy => hall y (by simp [hy]))
      simp only [ents] at ih
      simp only [ents, List.map_cons, Instr.findAsking, Sem.run_bind, hr', Result.andThen_ok, Bool.false_eq_true, if_false, ih, fdx, he]
theorem Fk.agg {α : Type} [DecidableEq α] {kf : α → List Value} {K : TypeId} {m h : Nat} {q : α} (hk : P.keyTypeAt m K = true) (hm : Nat.ble m 10000 = true) (hu : aggB P K = true) (t : Typ P h K (kf q)) {es : List (α × Value × Nat)}
    (hall : ∀ e ∈ es, Typ P h K (kf e.1) ∧ (kf e.1 = kf q → e.1 = q)) : Fk P K (.agg ⟨kf q⟩) (ents kf es) (fdx q es 0) := by
  intro w
  rw [run_findKey_eq w hu]
  exact run_asking hk hm hu t w es 0 hall
theorem eq_nilM {T K E : TypeId} {o : Option Nat} (hT : P.underlying T = some (.map K E)) (d : Nat) : (Op.equalIn (d + 1) T (.map o) (.map none)).run P w = .ok o.isNone w := by
  unfold Op.equalIn
  rw [Sem.run_bind, run_underlying hT]
  cases o <;> rfl
theorem R.neNilM {T T' K E : TypeId} {x y : Operand} {o : Option Nat} (hx : evO F x = .map o) (hy : evO F y = .map none) (hT : P.underlying T = some (.map K E)) : (execOp (evO F) ⟨dst, .binOp .neq T x y T', ty, pos, after, g⟩).run P w = .ok (.value (.bool (!o.isNone))) w := R.neOf hx hy rfl (eq_nilM hT) rfl
theorem add_add (a : Addr) (i k : Nat) : (a.add i).add k = a.add (i + k) := by
  unfold Addr.add
  by_cases hi : i = 0
  · subst hi; simp
  · by_cases hk : k = 0
    · subst hk; simp [hi]
    · have : i + k ≠ 0 := by omega
      simp [hi, hk, this, Nat.add_assoc]
theorem gA_add (a : Option Addr) (i k : Nat) : (gA a i).add k = gA a (i + k) := add_add _ _ _
theorem R.fieldG {i off' f z : Nat} {S : TypeId} {x : Operand} {a : Option Addr} {fs : Array Field} {fd : Field} (hx : evO F x = .pointer (some (gA a i))) (hT : P.underlying S = some (.struct fs)) (hf : fs[f]? = some fd)
    (hz : ∀ w, (sizeOf fd.type).run P w = .ok z w) (hz0 : Nat.blt 0 z = true) (hoff : off' = i + fd.offset) : (execOp (evO F) ⟨dst, .fieldAddr S x f, ty, pos, after, g⟩).run P w = .ok (.value (.pointer (some (gA a off')))) w := by
  have hz1 : z ≠ 0 := by rintro rfl; cases hz0
  simp [execOp, hx, Instr.fieldAt, run_underlying hT, hf, Instr.sureAddr, fieldPlace, hz, hz1, gA_add, hoff]
end
end Go.Vc

namespace Go.Orc
open Go.Vc Go.RowKit
abbrev Qn := Int × List UInt8 × Int × List UInt8
abbrev Lg := List (Qn × List UInt8)
def okQ (q : Qn) : Prop := q.2.1.length = 32 ∧ (1 ≤ q.1 ∧ q.1 ≤ 4) ∧ (1 ≤ q.2.2.1 ∧ q.2.2.1 ≤ 16) ∧ q.2.2.2.length ≤ 1000000000
def kC (q : Qn) : List Value := flat [(1, [vi q.1]), (32, q.2.1.map vu8), (1, [vi q.2.2.1]), (1, [.string (bstr q.2.2.2)])]
theorem bstr_inj {a b : List UInt8} (h : bstr a = bstr b) : a = b := by
  have := congrArg ByteArray.toList h
  rwa [bstr_toList, bstr_toList] at this
theorem kC_inj {p q : Qn} (hp : p.2.1.length = 32) (hq : q.2.1.length = 32) (h : kC p = kC q) : p = q := by
  obtain ⟨k, key, d, data⟩ := p
  obtain ⟨k', key', d', data'⟩ := q
  simp only at hp hq
  simp only [kC, flat, List.cons_append, List.nil_append, List.cons.injEq, Value.int.injEq, true_and] at h
  obtain ⟨h1, h2⟩ := h
  obtain ⟨h3, h4⟩ := List.append_inj h2 (by rw [List.length_map, List.length_map, hp, hq])
  simp only [List.cons.injEq, Value.int.injEq, Value.string.injEq, true_and, and_true] at h4
  have e1 : key = key' := by
    have := map_inj_u8 (a := key) (b := key')
    exact this ▸ h3
  rw [h1, e1, h4.1, bstr_inj h4.2]
def mEs : Lg → Nat → List (Qn × Value × Nat)
  | [], _ => []
  | p :: r, i => (p.1, vi (i : Int), i) :: mEs r (i + 1)
theorem mEs_snoc (p : Qn × List UInt8) : ∀ (l : Lg) (i : Nat), mEs (l ++ [p]) i = mEs l i ++ [(p.1, vi ((i + l.length : Nat) : Int), i + l.length)]
  | [], i => by simp [mEs]
  | x :: l, i => by
    rw [List.cons_append, mEs, mEs_snoc p l (i + 1), mEs, List.length_cons, show i + 1 + l.length = i + (l.length + 1) by omega]; rfl
theorem mEs_mem : ∀ {l : Lg} {i : Nat} {e : Qn × Value × Nat}, e ∈ mEs l i → ∃ p ∈ l, e.1 = p.1
  | x :: l, i, e, h => by
    rcases List.mem_cons.1 h with rfl | h
    · exact ⟨x, List.mem_cons_self .., rfl⟩
    · obtain ⟨p, hp, he⟩ := mEs_mem h
      exact ⟨p, List.mem_cons_of_mem _ hp, he⟩
def fdq (q : Qn) : Lg → Nat → Option Nat
  | [], _ => none
  | p :: r, i => if p.1 = q then some i else fdq q r (i + 1)
theorem fdx_fdq (q : Qn) : ∀ (l : Lg) (i : Nat), fdx q (mEs l i) i = (fdq q l i).map fun j : Nat => ((j, vi (j : Int)) : Nat × Value)
  | [], _ => rfl
  | p :: r, i => by
    rw [mEs, fdx, fdq]
    split
    · rfl
    · exact fdx_fdq q r (i + 1)
theorem fdq_lt {q : Qn} : ∀ {l : Lg} {i j : Nat}, fdq q l i = some j → i ≤ j ∧ j < i + l.length
  | p :: r, i, j, h => by
    rw [fdq] at h
    split at h
    · cases h; exact ⟨Nat.le_refl _, by rw [List.length_cons]; omega⟩
    · have := fdq_lt h
      rw [List.length_cons]; omega
def mArr (l : Lg) : Array MapEntry := ⟨ents kC (mEs l 0)⟩
theorem mArr_push (l : Lg) (q : Qn) (d : List UInt8) : mArr (l ++ [(q, d)]) = (mArr l).push { key := .agg ⟨kC q⟩, val := vi (l.length : Int), born := l.length } := by
  apply Array.ext'
  simp [mArr, ents, mEs_snoc]
theorem log_find {P : Program} {K : TypeId} {m h : Nat} {q : Qn} {l : Lg} (hk : P.keyTypeAt m K = true) (hm : Nat.ble m 10000 = true) (hu : aggB P K = true) (hT : ∀ q, okQ q → Typ P h K (kC q)) (hq : okQ q) (hl : ∀ p ∈ l, okQ p.1) :
    Fk P K (.agg ⟨kC q⟩) (mArr l).toList ((fdq q l 0).map fun j : Nat => ((j, vi (j : Int)) : Nat × Value)) := by
  rw [← fdx_fdq]
  refine Fk.agg hk hm hu (hT q hq) fun e he => ?_
  obtain ⟨p, hp, e1⟩ := mEs_mem he
  rw [e1]
  exact ⟨hT _ (hl p hp), fun h => kC_inj (hl p hp).1 hq.1 h⟩
def aC (q : Qn) (s : Value) (d : List UInt8) : List Value := flat [(1, [vi q.1]), (32, q.2.1.map vu8), (1, [vi q.2.2.1]), (1, [s]), (32, d.map vu8)]
theorem aC_len {q : Qn} {s : Value} {d : List UInt8} (h : q.2.1.length = 32) (hd : d.length = 32) : (aC q s d).length = 67 := by simp [aC, flat, h, hd]
inductive Lgs (w : World) : List Value → Lg → Prop
  | nil : Lgs w [] []
  | snoc {a : Option Addr} {n c : Nat} {q : Qn} {d : List UInt8} {xs : List Value} {l : Lg} (r : Lgs w xs l) (hq : okQ q) (hd : d.length = 32) (hl : q.2.2.2.length = n) (hc : n ≤ c) (hv : View w a (q.2.2.2.map vu8)) : Lgs w (xs ++ aC q (.slice a n c) d) (l ++ [(q, d)])
theorem Lgs.len {w : World} {xs : List Value} {l : Lg} (h : Lgs w xs l) : xs.length = l.length * 67 := by
  induction h with
  | nil => rfl
  | snoc r hq hd hl hc hv ih => rw [List.length_append, ih, aC_len hq.1 hd, List.length_append, List.length_cons, List.length_nil]; omega
theorem Lgs.ok {w : World} {xs : List Value} {l : Lg} (h : Lgs w xs l) : ∀ p ∈ l, okQ p.1 := by
  induction h with
  | nil => intro p hp; cases hp
  | snoc r hq hd hl hc hv ih =>
    intro p hp
    rcases List.mem_append.1 hp with hp | hp
    · exact ih p hp
    · rw [List.mem_singleton] at hp; subst hp; exact hq
theorem sblks_u8 : ∀ (l : List UInt8) (b : Nat), b ∉ sblks (l.map vu8)
  | [], b => by simp [sblks]
  | x :: l, b => by
    intro h
    have h' : b ∈ sblk (vu8 x) ++ sblks (l.map vu8) := h
    rcases List.mem_append.1 h' with h | h
    · simp [sblk] at h
    · exact sblks_u8 l b h
theorem sblk_in_view {a : Option Addr} {n c : Nat} {l : List UInt8} (hl : l.length = n) : ∀ b ∈ sblk (.slice a n c), b ∈ (Ent.view a (l.map vu8)).blocks := by
  intro b hb
  cases a with
  | none => simp [sblk] at hb
  | some ad => cases l with
    | nil => simp at hl; subst hl; simp [sblk] at hb
    | cons x r => cases n with
      | zero => simp at hl
      | succ n => simpa [Ent.blocks, sblk] using hb
theorem Lgs.get {w : World} {xs : List Value} {l : Lg} (h : Lgs w xs l) : ∀ {i : Nat} (hi : i < l.length), ∃ a n c, (xs.drop (67 * i)).take 67 = aC (l[i]).1 (.slice a n c) (l[i]).2 ∧ (l[i]).2.length = 32 ∧ (l[i]).1.2.2.2.length = n ∧ n ≤ c ∧ View w a ((l[i]).1.2.2.2.map vu8) ∧ (∀ b ∈ sblk (.slice a n c), b ∈ sblks xs) := by
  induction h with
  | nil => intro i hi; simp at hi
  | @snoc a n c q d xs l r hq hd hl hc hv ih =>
    intro i hi
    have hlen := r.len
    by_cases e : i < l.length
    · obtain ⟨a', n', c', h1, h2, h3, h4, h5, h6⟩ := ih e
      refine ⟨a', n', c', ?_, ?_, ?_, h4, ?_, ?_⟩
      · rw [List.drop_append_of_le_length (by omega), List.take_append_of_le_length (by rw [List.length_drop]; omega), h1, List.getElem_append_left e]
      · rw [List.getElem_append_left e]; exact h2
      · rw [List.getElem_append_left e]; exact h3
      · rw [List.getElem_append_left e]; exact h5
      · intro b hb; rw [sblks_append]; exact List.mem_append.2 (.inl (h6 b hb))
    · have : i = l.length := by rw [List.length_append, List.length_singleton] at hi; omega
      subst this
      have e2 : (l ++ [(q, d)])[l.length] = (q, d) := by simp
      refine ⟨a, n, c, ?_, ?_, ?_, hc, ?_, ?_⟩
      · rw [List.drop_append, List.drop_of_length_le (by omega), List.nil_append, show 67 * l.length - xs.length = 0 by omega, List.drop_zero, List.take_of_length_le (by rw [aC_len hq.1 hd]; exact Nat.le_refl _), e2]
      · rw [e2]; exact hd
      · rw [e2]; exact hl
      · rw [e2]; exact hv
      · intro b hb
        rw [sblks_append]
        refine List.mem_append.2 (.inr ?_)
        simp only [aC, flat, sblks_append]
        refine List.mem_append.2 (.inr (List.mem_append.2 (.inr (List.mem_append.2 (.inr (List.mem_append.2 (.inl ?_)))))))
        simpa [sblks] using hb
end Go.Orc

namespace Go.Orc
open Go.Vc Go.RowKit
theorem Lgs.lt {w : World} {xs : List Value} {l : Lg} (h : Lgs w xs l) : ∀ b ∈ sblks xs, b < w.heap.size := by
  induction h with
  | nil => intro b hb; cases hb
  | @snoc a n c q d xs l r hq hd hl hc hv ih =>
    intro b hb
    rw [sblks_append] at hb
    rcases List.mem_append.1 hb with hb | hb
    · exact ih b hb
    · refine sblk_lt (c := c) hl hv b ?_
      simp only [aC, flat, sblks_append, List.mem_append] at hb
      rcases hb with hb | hb | hb | hb | hb
      · simp [sblks, sblk] at hb
      · exact absurd hb (sblks_u8 _ _)
      · simp [sblks, sblk] at hb
      · simpa [sblks] using hb
      · exact absurd hb (sblks_u8 _ _)
theorem Lgs.same {w w' : World} {xs : List Value} {l : Lg} (h : Lgs w xs l) (hs : ∀ b ∈ sblks xs, w'.heap[b]? = w.heap[b]?) : Lgs w' xs l := by
  induction h with
  | nil => exact .nil
  | @snoc a n c q d xs l r hq hd hl hc hv ih =>
    refine .snoc (ih fun b hb => hs b (by rw [sblks_append]; exact List.mem_append.2 (.inl hb))) hq hd hl hc (sblk_view (c := c) hl hv fun b hb => hs b ?_)
    rw [sblks_append]
    refine List.mem_append.2 (.inr ?_)
    simp only [aC, flat, sblks_append]
    exact List.mem_append.2 (.inr (List.mem_append.2 (.inr (List.mem_append.2 (.inr (List.mem_append.2 (.inl (by simpa [sblks] using hb))))))))
theorem Lgs.pin {B : Nat} {w : World} {xs : List Value} {l : Lg} (h : Lgs w xs l) : (Ent.pin (sblks xs) (fun w => Lgs w xs l)).ok B w := ⟨h, h.lt, fun _ hs => h.same hs⟩
section
variable {w w' w0 : World} {L : List Ent}
theorem HP_logPush {xs : List Value} {l : Lg} {a : Option Addr} {n c : Nat} {E : TypeId} {q : Qn} {d : List UInt8} (h : HP w0 w (.row a n c E 1 (q.2.2.2.map vu8) :: .pin (sblks xs) (fun w => Lgs w xs l) :: L)) (hq : okQ q) (hd : d.length = 32) (hl : q.2.2.2.length = n) :
    HP w0 w (.pin (sblks (xs ++ aC q (.slice a n c) d)) (fun w => Lgs w (xs ++ aC q (.slice a n c) d) (l ++ [(q, d)])) :: .view a (q.2.2.2.map vu8) :: .pin (sblks xs) (fun w => Lgs w xs l) :: L) := by
  have hcap := (h.own (List.mem_cons_self ..)).2.2.1
  have h1 := h.rowView
  have hm1 : Ent.pin (sblks xs) (fun w => Lgs w xs l) ∈ (.view a (q.2.2.2.map vu8) :: .pin (sblks xs) (fun w => Lgs w xs l) :: L) := List.mem_cons_of_mem _ (List.mem_cons_self ..)
  have hm2 : Ent.view a (q.2.2.2.map vu8) ∈ (.view a (q.2.2.2.map vu8) :: .pin (sblks xs) (fun w => Lgs w xs l) :: L) := List.mem_cons_self ..
  have hs : Lgs w xs l := (h1.ok _ hm1).1
  have hv := viewV (h1.ok _ hm2)
  refine h1.within2 hm1 hm2 rfl rfl (Lgs.pin (.snoc hs hq hd hl hcap hv)) rfl rfl fun b hb => ?_
  simp only [Ent.blocks] at hb
  rw [sblks_append] at hb
  rcases List.mem_append.1 hb with hb | hb
  · exact .inl hb
  · right
    simp only [aC, flat, sblks_append, List.mem_append] at hb
    rcases hb with hb | hb | hb | hb | hb
    · simp [sblks, sblk] at hb
    · exact absurd hb (sblks_u8 _ _)
    · simp [sblks, sblk] at hb
    · have hb' : b ∈ sblk (.slice a n c) := by simpa [sblks] using hb
      exact sblk_in_view hl b hb'
    · exact absurd hb (sblks_u8 _ _)
theorem HP_logNil (h : HP w0 w L) : HP w0 w (.pin (sblks []) (fun w => Lgs w [] []) :: L) := h.add (Lgs.pin .nil) rfl fun f _ _ b hb _ => by cases hb
end
theorem aC_drop {q : Qn} {s : Value} {d : List UInt8} (h : q.2.1.length = 32) : (aC q s d).drop 35 = d.map vu8 := by
  have e : aC q s d = ([vi q.1] ++ (q.2.1.map vu8 ++ ([vi q.2.2.1] ++ [s]))) ++ d.map vu8 := by simp [aC, flat]
  rw [e, List.drop_append_of_le_length (by simp [h])]
  simp [h]
theorem Lgs.ans {w : World} {xs : List Value} {l : Lg} (h : Lgs w xs l) {i : Nat} {z : Qn × List UInt8} (hi : i < l.length) : (xs.drop (i * 67 + 35)).take 32 = (l.getD i z).2.map vu8 ∧ (l.getD i z).2.length = 32 := by
  obtain ⟨a, n, c, h1, h2, _⟩ := h.get hi
  have hq := h.ok (l[i]) (List.getElem_mem hi)
  have e : l.getD i z = l[i] := by simp [hi]
  rw [e]
  refine ⟨?_, h2⟩
  have h3 := congrArg (fun x => x.drop 35) h1
  change ((xs.drop (67 * i)).take 67).drop 35 = (aC _ _ _).drop 35 at h3
  rw [aC_drop hq.1, List.drop_take, List.drop_drop, show 67 * i + 35 = i * 67 + 35 by omega, show 67 - 35 = 32 from rfl] at h3
  exact h3
theorem fill_1 {s : Nat} {z : Array Value} {zc cs : List Value} (hz : z = ⟨zc⟩) (ok : SsOk [(s, zc)]) (okc : SsOk [(s, cs)]) : Instr.fill (fun i => some (i * s, s)) z [(0, .agg ⟨cs⟩)] = some ⟨cs⟩ := by
  subst hz
  exact (fill_of (pl := fun i => some (i * s, s)) (segs := [(s, zc)]) (parts := [(0, .agg ⟨cs⟩)]) (out := [(s, cs)]) (FillR.cons [] [(s, zc)] [(s, cs)] [] (by rw [Nat.zero_mul]; rfl) rfl rfl rfl okc rfl rfl rfl FillR.nil) ok).1
theorem aC_ok {q : Qn} {s : Value} {d : List UInt8} (h : q.2.1.length = 32) (hd : d.length = 32) (hs : s.oneCell' = true) : SsOk [(67, aC q s d)] := by
  refine SsOk.cons ⟨aC_len h hd, fun v hv => ?_⟩ SsOk.nil
  exact SsOk.one (SsOk.cons (SOk.v rfl) (SsOk.cons (SOk.u8 h) (SsOk.cons (SOk.v rfl) (SsOk.cons (SOk.v hs) (SsOk.cons (SOk.u8 hd) SsOk.nil))))) v hv
def drawF (df : List UInt8) (dn n : Nat) : List UInt8 := if n < dn then (df.drop (n * 32)).take 32 else leN 8 n ++ (List.replicate 23 0 ++ [1])
theorem drawF_len {df : List UInt8} {dn n : Nat} (h : df.length = 32 * dn) : (drawF df dn n).length = 32 := by
  rw [drawF]; split
  · rw [List.length_take, List.length_drop]; omega
  · simp [leN_len]
def ansD (df : List UInt8) (dn u : Nat) (l : Lg) (q : Qn) : List UInt8 := match fdq q l 0 with
  | some i => (l.getD i (q, [])).2
  | none => drawF df dn u
def ansU (u : Nat) (l : Lg) (q : Qn) : Nat := match fdq q l 0 with
  | some _ => u
  | none => u + 1
def ansL (df : List UInt8) (dn u : Nat) (l : Lg) (q : Qn) : Lg := match fdq q l 0 with
  | some _ => l
  | none => l ++ [(q, drawF df dn u)]
section
variable {df : List UInt8} {dn u : Nat} {l : Lg} {q : Qn} {i : Nat}
end
end Go.Orc
namespace Go.Orc
open Go.Vc Go.RowKit
theorem draw_tail {u : Nat} (h : u < 18446744073709551616) : ((leN 8 (UInt64.ofNat u).toNat) ++ (List.replicate 32 (0 : UInt8)).drop 8).set 31 1 = leN 8 u ++ (List.replicate 23 0 ++ [1]) := by
  have e : (UInt64.ofNat u).toNat = u := by simp; omega
  have hl := leN_len 8 u
  rw [e, List.set_append, if_neg (by omega), hl]
  congr 1
theorem log_hit {P : Program} {K : TypeId} {m h i : Nat} {q : Qn} {l : Lg} (hk : P.keyTypeAt m K = true) (hm : Nat.ble m 10000 = true) (hu : aggB P K = true) (hT : ∀ q, okQ q → Typ P h K (kC q)) (hq : okQ q) (hl : ∀ p ∈ l, okQ p.1) (hf : fdq q l 0 = some i) :
    Fk P K (.agg ⟨kC q⟩) (mArr l).toList (some (i, vi (i : Int))) := by
  have := log_find hk hm hu hT hq hl
  rwa [hf] at this
theorem log_miss {P : Program} {K : TypeId} {m h : Nat} {q : Qn} {l : Lg} (hk : P.keyTypeAt m K = true) (hm : Nat.ble m 10000 = true) (hu : aggB P K = true) (hT : ∀ q, okQ q → Typ P h K (kC q)) (hq : okQ q) (hl : ∀ p ∈ l, okQ p.1) (hf : fdq q l 0 = none) :
    Fk P K (.agg ⟨kC q⟩) (mArr l).toList none := by
  have := log_find hk hm hu hT hq hl
  rwa [hf] at this
theorem snoc_len {l : Lg} {p : Qn × List UInt8} : (l ++ [p]).length = l.length + 1 := by simp
end Go.Orc
namespace Go.Orc
open Go.Vc Go.RowKit
section
variable {w w' w0 : World} {L : List Ent}
theorem pair_sep {e f : Ent} : ∀ {L : List Ent}, L.Pairwise Sep → e ∈ L → f ∈ L → e ≠ f → Sep e f
  | [], _, he, _, _ => by cases he
  | g :: L, hp, he, hf, hne => by
    rw [List.pairwise_cons] at hp
    rcases List.mem_cons.1 he with he1 | he1 <;> rcases List.mem_cons.1 hf with hf1 | hf1
    · exact absurd (he1.trans hf1.symm) hne
    · rw [he1]; exact hp.1 f hf1
    · rw [hf1]; exact (hp.1 e he1).symm
    · exact pair_sep hp.2 he1 hf1 hne
theorem HP_within {e' : Ent} (h : HP w0 w L) (hok : e'.ok w0.heap.size w) (hmut' : e'.mut = false) (har : e'.isAr = false) (hbl : ∀ b ∈ e'.blocks, ∃ e ∈ L, e.mut = false ∧ b ∈ e.blocks) : HP w0 w (e' :: L) := by
  refine h.add hok har fun f hf hfm b hb hbf => ?_
  obtain ⟨e, he, hme, hbe⟩ := hbl b hb
  have hfm' : f.mut = true := by simpa [hmut'] using hfm
  have hne : e ≠ f := fun h2 => by rw [h2] at hme; rw [hme] at hfm'; cases hfm'
  exact pair_sep h.sep he hf hne (.inr hfm') b hbe hbf
end
def sS (df : List UInt8) (dn : Nat) (key : List UInt8) (dm : Int) (data : List UInt8) (u : Nat) (lg : Lg) : Nat → Nat × Lg × List UInt8
  | 0 => (u, lg, [])
  | k + 1 => (ansU (sS df dn key dm data u lg k).1 (sS df dn key dm data u lg k).2.1 (4, key, dm, data ++ leN 8 k), ansL df dn (sS df dn key dm data u lg k).1 (sS df dn key dm data u lg k).2.1 (4, key, dm, data ++ leN 8 k), (sS df dn key dm data u lg k).2.2 ++ ansD df dn (sS df dn key dm data u lg k).1 (sS df dn key dm data u lg k).2.1 (4, key, dm, data ++ leN 8 k))
def ok32 (l : Lg) : Prop := ∀ p ∈ l, p.2.length = 32
theorem Lgs.ok32 {w : World} {xs : List Value} {l : Lg} (h : Lgs w xs l) : ok32 l := by
  induction h with
  | nil => intro p hp; cases hp
  | snoc r hq hd hl hc hv ih =>
    intro p hp
    rcases List.mem_append.1 hp with hp | hp
    · exact ih p hp
    · rw [List.mem_singleton] at hp; subst hp; exact hd
section
variable {df : List UInt8} {dn : Nat} {key : List UInt8} {dm : Int} {data : List UInt8} {u : Nat} {lg : Lg}
end
end Go.Orc

namespace Go.Orc
open Go.Vc
def gx (a b : List UInt8) : List UInt8 := List.zipWith (fun x y => x ^^^ y) a b
def pcB (pg : Nat) (ct : UInt64) : List UInt8 := [leN 8 (UInt64.ofNat pg).toNat, leN 8 ct.toNat].flatten
def onesL (x : UInt8) : List UInt8 := List.replicate 32 x
end Go.Orc

namespace Go.Proofs.Yteclkcpdclimnaa
open Go.Proofs.Try
open Go.Vc Go.Orc Go.Sh Go.RowKit
set_option maxRecDepth 20000
theorem el24 : ElT Try.prog 24 23 32 32 := ElT.mk' underlying24 (i := Try.t23) rfl rfl rfl rfl rfl rfl
theorem c_oword (x : UInt64) (w : World) :
  Cs Try.prog 58 [(vu64 x)].toArray w (fun v w1 => ∃ a cap, v = .slice a 8 cap ∧ Chg w w1 [] ∧ Own w.heap.size w1 5 1 a 8 cap ((leN 8 x.toNat).map vu8)) := by
 refine Cs.of (n := 11) (args := [(vu64 x)]) Try.func58 rfl rfl rfl ?_
 have h_0 := HP.init w
 refine WP.seq (WP.reg ?_)
 refine qA (.slice none 0 0) rfl rfl ?_
 refine WL.nil (thn_n (WP.seq (WP.reg ?_)))
 refine qM (vu64 x) rfl rfl ?_
 refine WL.call Try.call61 rfl rfl (c_Put_b x 8 rfl _) rfl ?_
 rintro _ w_3 ⟨a_1, cap_2, rfl, hc_4, ho_5⟩
 have h_6 := h_0.gotRow hc_4 ho_5
 refine qM (.tuple [(.slice a_1 8 cap_2), (vi 0)].toArray) rfl rfl (qV rfl (R.extract rfl rfl) (qV rfl (R.extract rfl rfl) (qA (.slice a_1 8 cap_2) rfl rfl (qA (vi 0) rfl rfl ?_))))
 refine WL.nil (thn_n (WP.seq (WP.reg ?_)))
 refine qM (.slice a_1 8 cap_2) rfl rfl (qA (.slice a_1 8 cap_2) rfl rfl ?_)
 refine WL.nil (thn_n (WP.ret ?_))
 refine ret_of results58 (RV.tmp (v := (.slice a_1 8 cap_2)) rfl RV.nil) ?_
 exact ⟨_, _, rfl, h_6.chgS, h_6.ok _ M0⟩

theorem c_CloneD (a : Option Addr) (n cap : Nat) (df : List UInt8) (hl : df.length = 32 * n) (hn : n ≤ 1000000000) (w : World) (hv : View w a (df.map vu8)) :
  Cs Try.prog 39 [(.slice a n cap)].toArray w (fun v w1 => ∃ a cap, v = .slice a n cap ∧ Chg w w1 [] ∧ Own w.heap.size w1 23 32 a n cap (df.map vu8)) := by
 refine Cs.of (n := 8) (args := [(.slice a n cap)]) Try.func39 rfl rfl rfl ?_
 have h_0 := HP.init w
 have h_00 := h_0.old (View.arg hv) (fun f hf => by cases hf)
 refine WP.seq (WP.reg ?_)
 refine qA (.slice none 0 0) rfl rfl ?_
 refine WL.nil (thn_n (WP.seq (WP.seq (WP.reg ?_))))
 refine qM (.slice a n cap) rfl rfl (qV rfl (R.eqNilS rfl rfl underlying24) ?_)
 refine WL.nil (thn_n ?_)
 refine WP.cond (b := a.isNone) rfl (fun c_1 => ?_) (fun c_1 => ?_)
 ·refine WP.seq (WP.reg ?_)
  refine qA (.slice none 0 0) rfl rfl ?_
  refine WL.nil (thn_n (WP.ret (thn_r ?_)))
  refine ret_of results39 (RV.tmp (v := (.slice none 0 0)) rfl RV.nil) ?_
  obtain rfl : df = [] := view_none c_1 hv
  obtain rfl : n = 0 := by simp at hl; omega
  exact ⟨none, 0, rfl, h_00.chgS, Own.nil ..⟩
 ·refine WP.skip (thn_n (WP.seq (WP.reg ?_)))
  refine WL.buildSl0 h_00 underlying24 sizeOf23 rfl (fun b_2 w_3 h_4 => ?_)
  refine qM (.slice a n cap) rfl rfl ?_
  refine WL.append (km := n) (xs := []) (ys := df.map vu8) (zs := df.map vu8) h_4 rfl rfl el24 (viewV (h_4.ok _ M1)) ((len_map hl).trans (by omega)) (one_u8 _) rfl (by omega) (by omega) (by omega) (fun _ _ => At.h) rfl (fun a_5 c_6 w_7 h_8 => ?_)
  refine qA (.slice a_5 n c_6) rfl rfl ?_
  refine WL.nil (thn_n (WP.ret ?_))
  refine ret_of results39 (RV.tmp (v := (.slice a_5 n c_6)) rfl RV.nil) ?_
  exact ⟨_, _, rfl, h_8.chgS, h_8.ok _ M0⟩

theorem c_draw {w00 : World} {L : List Ent} (id : Bool) (ob mp : Nat) (ms df : List UInt8) (hms : ms.length = 32) (da : Option Addr) (dn dc u : Nat) (hdf : df.length = 32 * dn) (la : Option Addr) (lc : Nat) (lx : List Value) (lg : Lg) (hu : u ≤ 1000000) (hlg : lg.length ≤ 1000000) (w : World) (h_0 : HP w00 w (Ent.blk ob .nw 90 [(1, [(.bool id)]), (32, ms.map vu8), (1, [(.slice da dn dc)]), (1, [(vi ((u : Nat) : Int))]), (1, [(.map (some mp))]), (1, [(.slice la lg.length lc)])] :: Ent.view da (df.map vu8) :: L)) :
  Cs Try.prog 64 [(.pointer (some ⟨ob, 0, none⟩))].toArray w (fun v w1 => v = (.agg ⟨(drawF df dn u).map vu8⟩) ∧ HP w00 w1 (Ent.blk ob .nw 90 [(1, [(.bool id)]), (32, ms.map vu8), (1, [(.slice da dn dc)]), (1, [(vi (((u + 1) : Nat) : Int))]), (1, [(.map (some mp))]), (1, [(.slice la lg.length lc)])] :: Ent.view da (df.map vu8) :: L)) := by
 refine Cs.of (n := 37) (args := [(pO ob 0)]) Try.func64 rfl rfl rfl ?_
 refine WP.seq (WP.reg ?_)
 refine WL.alloc (segs := [(32, (zB 32).map vu8)]) h_0 (zv typeInfo23 rfl) rfl (sC (s8 lr) sN) rfl (fun b_1 w_2 h_3 => ?_)
 refine WL.nil (thn_n (WP.seq (WP.reg ?_)))
 refine qM (pO ob 0) rfl rfl (qV rfl (R.nilCheck rfl) (qV rfl (R.fieldAddr (off' := 34) rfl underlying90 rfl sizeOf3 rfl rfl) (qV rfl (R.load1 rfl isAgg3 (h_3.ok _ M1) (Sg.t rfl (Sg.t rfl (Sg.t rfl Sg.h)))) (qA (vn u) rfl rfl ?_))))
 refine WL.nil (thn_n (WP.seq (WP.reg ?_)))
 refine qM (pO ob 0) rfl rfl (qV rfl (R.nilCheck rfl) (qV rfl (R.fieldAddr (off' := 34) rfl underlying90 rfl sizeOf3 rfl rfl) (qV rfl (R.load1 rfl isAgg3 (h_3.ok _ M1) (Sg.t rfl (Sg.t rfl (Sg.t rfl Sg.h)))) (qV rfl (R.bin rfl rfl (bi_add (c := ((u + 1 : Nat) : Int)) (by omega) (by omega))) (qV rfl (R.nilCheck rfl) (qV rfl (R.fieldAddr (off' := 34) rfl underlying90 rfl sizeOf3 rfl rfl) ?_))))))
 refine WL.store1 h_3 rfl rfl sizeOf3 rfl Y1 (by decide) (Sg.t rfl (Sg.t rfl (Sg.t rfl Sg.h))) (fun w_4 h_5 => ?_)
 refine WL.nil (thn_n (WP.seq (WP.seq (WP.reg ?_))))
 refine qM (vn u) rfl rfl (qM (pO ob 0) rfl rfl (qV rfl (R.nilCheck rfl) (qV rfl (R.fieldAddr (off' := 33) rfl underlying90 rfl sizeOf24 rfl rfl) (qV rfl (R.load1 rfl isAgg24 (h_5.ok _ M1) (Sg.t rfl (Sg.t rfl Sg.h))) (qV rfl (R.lenS (a := da) (m := dn) rfl rfl underlying24) (qV rfl (R.bin rfl rfl (bi_lss (r := decide ((((u : Nat) : Int) : Int) < ((dn : Nat) : Int))) rfl)) ?_))))))
 refine WL.nil (thn_n ?_)
 refine WP.cond (b := decide ((((u : Nat) : Int) : Int) < ((dn : Nat) : Int))) rfl (fun c_6 => ?_) (fun c_6 => ?_)
 ·have p_7 := of_decide_eq_true c_6
  refine WP.seq (WP.reg ?_)
  refine qM (pO ob 0) rfl rfl (qV rfl (R.nilCheck rfl) (qV rfl (R.fieldAddr (off' := 33) rfl underlying90 rfl sizeOf24 rfl rfl) (qV rfl (R.load1 rfl isAgg24 (h_5.ok _ M1) (Sg.t rfl (Sg.t rfl Sg.h))) (qM (vn u) rfl rfl (qV rfl (R.indexS (a := da) (i := u) (off := u * 32) (xs := df.map vu8) rfl rfl rfl (by omega) (viewV (h_5.ok _ M2)) (lt_len (K := 32 * dn) (len_map hdf) (by omega)) underlying24 sizeOf23 rfl) (qV rfl (R.loadGA (a := da) (i := u * 32) (xs := df.map vu8) (cs := (((df).drop (u * 32)).take 32).map vu8) rfl (viewV (h_5.ok _ M2)) isAgg23 sizeOf23 (by rw [List.map_take, List.map_drop]) (len_map (subLen (K := 32 * dn) hdf (by omega) : List.length (((df).drop (u * 32)).take 32) = 32)) (by decide)) ?_))))))
  refine WL.storeA [] [(32, (zB 32).map vu8)] [(32, (((df).drop (u * 32)).take 32).map vu8)] [] h_5 rfl rfl sizeOf23 At.h (by decide) rfl rfl rfl rfl rfl rfl (sC (s8 (subLen (K := 32 * dn) hdf (by omega) : List.length (((df).drop (u * 32)).take 32) = 32)) sN) (fun w_8 h_9 => ?_)
  refine WL.nil (thn_n (WP.ret (thn_r ?_)))
  refine ret_of results64 (RV.cell rfl (h_9.loadA (cs := (((df).drop (u * 32)).take 32).map vu8) isAgg23 sizeOf23 M0 rfl rfl) RV.nil) ?_
  have h_12 := ((h_9.drop rfl).up J1).up J1
  exact ⟨by rw [drawF, if_pos (by omega)]; rfl, h_12⟩
 ·have p_13 := of_decide_eq_false c_6
  refine WP.skip (thn_n (WP.seq (WP.reg ?_)))
  refine WL.alloc (segs := [(32, (zB 32).map vu8)]) h_5 (zv typeInfo23 rfl) rfl (sC (s8 lr) sN) rfl (fun b_14 w_15 h_16 => ?_)
  refine WL.nil (thn_n (WP.seq ?_))
  refine WP.drawT (SL w00.heap.size [.blk b_1 .nw 23 [(32, (zB 32).map vu8)], .blk ob .nw 90 [(1, [(.bool id)]), (32, ms.map vu8), (1, [(.slice da dn dc)]), (1, [(vn (u + 1))]), (1, [(.map (some mp))]), (1, [(.slice la lg.length lc)])], .view da (df.map vu8)]) (.q 0 (.q 1 (.q 2 (.s 3 (.s 4 .nil))))) (by kernel_rfl) (by kernel_rfl) rfl (by kernel_rfl) (fun w_17 hc_19 => (SL.cons ((h_16.same hc_19).ok _ M1) (SL.cons ((h_16.same hc_19).ok _ M2) (SL.cons ((h_16.same hc_19).ok _ M3) (SL.nil _ _))))) (fun w_17 hc_19 => ?_)
  have h_18 := h_16.same hc_19
  refine qT rfl rfl (fun wq hS => R.sliceA (b := b_14) (off := 0) (off' := 0) (l := 0) (h := 32) rfl EvB.dflt EvB.dflt (by decide) (by decide) underlying23 sizeOf5 rfl) ?_
  refine qT rfl rfl (fun wq hS => R.move (v := (vn u)) rfl) ?_
  refine qT rfl rfl (fun wq hS => R.conv (b := ((UInt64.ofNat u) : UInt64).toNat) rfl underlying3 underlying27 (w64_nat u)) ?_
  refine WT.s (oN rfl ?_)
  refine WL.call Try.call58 rfl rfl (c_oword (UInt64.ofNat u) _) rfl ?_
  rintro _ w_22 ⟨a_20, cap_21, rfl, hc_23, ho_24⟩
  have h_25 := h_18.gotRow hc_23 ho_24
  refine WL.nil ?_
  refine ⟨(N2_3_4 h_25.ok), ?_⟩
  refine WT.s (oN rfl ?_)
  refine WL.copy (q := 8) (i := 0) (ys := (leN 8 (UInt64.ofNat u).toNat).map vu8) (cs' := ((leN 8 (UInt64.ofNat u).toNat) ++ (zB 32).drop 8).map vu8) h_25 rfl rfl underlying54 sizeOf5 (ownView (h_25.ok _ M0)) (len_map (leN_len ..)) (one_u8 _) Y1 (by decide) Sg.h rfl (by decide) (by rw [len_map lr]; decide) (cpPre (leN_len ..)) rfl (fun w_26 h_27 => ?_)
  refine WL.nil ?_
  refine ⟨(N2_3_4 h_27.ok), ?_⟩
  refine WT.nil (thn_n (WP.seq (WP.reg ?_)))
  refine qV rfl (R.indexA (b := b_14) (off := 0) (off' := 31) (i := 31) rfl rfl rfl (by decide) underlying23 sizeOf5 rfl) ?_
  refine WL.storeE (b := b_14) (off := 31) (i := 31) (v := (vu8 1)) (cs' := (((leN 8 (UInt64.ofNat u).toNat) ++ (zB 32).drop 8).set 31 1).map vu8) h_27 rfl rfl sizeOf5 rfl Y1 (by decide) Sg.h rfl (lt_len (K := 32) (len_map (cpLen (leN_len ..) lr (by decide))) (by decide)) (set_u8 _ _ _) (fun w_28 h_29 => ?_)
  refine WL.nil (thn_n (WP.seq (WP.reg ?_)))
  refine qV rfl (R.loadA [] [(32, (((leN 8 (UInt64.ofNat u).toNat) ++ (zB 32).drop 8).set 31 1).map vu8)] [] (cs := (((leN 8 (UInt64.ofNat u).toNat) ++ (zB 32).drop 8).set 31 1).map vu8) rfl isAgg23 sizeOf23 (h_29.ok _ M1) rfl rfl rfl rfl) ?_
  refine WL.storeA [] [(32, (zB 32).map vu8)] [(32, (((leN 8 (UInt64.ofNat u).toNat) ++ (zB 32).drop 8).set 31 1).map vu8)] [] h_29 rfl rfl sizeOf23 Y2 (by decide) rfl rfl rfl rfl rfl rfl (sC (s8 (len_set (cpLen (leN_len ..) lr (by decide)) _ _)) sN) (fun w_30 h_31 => ?_)
  refine WL.nil (thn_n (WP.ret ?_))
  refine ret_of results64 (RV.cell rfl (h_31.loadA (cs := (((leN 8 (UInt64.ofNat u).toNat) ++ (zB 32).drop 8).set 31 1).map vu8) isAgg23 sizeOf23 M2 rfl rfl) RV.nil) ?_
  have h_36 := ((((h_31.drop rfl).drop rfl).drop rfl).up J1).up J1
  exact ⟨by rw [drawF, if_neg (by omega), ← draw_tail (by omega)]; rfl, h_36⟩
end Go.Proofs.Yteclkcpdclimnaa

namespace Go.Orc
open Go.Vc Go.RowKit
section
variable {w w' w0 : World} {L : List Ent}
theorem HP_blkView {b k : Nat} {T : TypeId} {cs : List Value} (h : HP w0 w (.blk b .nw T [(k, cs)] :: L)) : HP w0 w (.view (some ⟨b, 0, none⟩) cs :: L) := by
  have hb := h.blk (List.mem_cons_self ..)
  have hv : View w (some ⟨b, 0, none⟩) cs := by
    have := hb.2.view 0
    simpa [flat] using this
  refine h.turn .h (View.arg hv) (fun b' hb' => ?_) (fun hm => by cases hm) rfl rfl
  cases cs with
  | nil => simp [Ent.blocks] at hb'
  | cons x r => simpa [Ent.blocks] using hb'
end
end Go.Orc

namespace Go.Orc
open Go.Vc Go.RowKit
theorem HP_reseg {w w0 : World} {L L' : List Ent} {b : Nat} {m : Md} {T : TypeId} {segs segs' : List Sgm} (h : HP w0 w L) (hat : At (.blk b m T segs) (.blk b m T segs') L L') (hm : m ≠ .ro) (hf : flat segs = flat segs') (ok : SsOk segs') : HP w0 w L' :=
  h.passed hat hm (Chg.refl _ _) ok (by rw [← hf]; exact (h.ok _ hat.mem).2.1)
end Go.Orc
namespace Go.Orc
open Go.Vc Go.RowKit
theorem fill_2 {z : Array Value} (hz : z = ⟨List.replicate 64 (vu8 0)⟩) {a b : List UInt8} (ha : a.length = 32) (hb : b.length = 32) :
    Instr.fill (fun i => some (i * 32, 32)) z [(0, .agg ⟨a.map vu8⟩), (1, .agg ⟨b.map vu8⟩)] = some ⟨(a ++ b).map vu8⟩ := by
  have e : (⟨List.replicate 64 (vu8 0)⟩ : Array Value) = ⟨flat [(32, List.replicate 32 (vu8 0)), (32, List.replicate 32 (vu8 0))]⟩ := rfl
  rw [hz, e]
  have r : ∀ l : List UInt8, l.length = 32 → SsOk [(32, l.map vu8)] := fun l h => SsOk.cons (SOk.u8 h) SsOk.nil
  have z0 : SOk (32, List.replicate 32 (vu8 0)) := SOk.rep rfl
  have h := (fill_of (pl := fun i => some (i * 32, 32)) (parts := [(0, .agg ⟨a.map vu8⟩), (1, .agg ⟨b.map vu8⟩)]) (out := [(32, a.map vu8), (32, b.map vu8)])
    (FillR.cons [] [(32, List.replicate 32 (vu8 0))] [(32, a.map vu8)] [(32, List.replicate 32 (vu8 0))] rfl rfl rfl rfl (r a ha) rfl rfl rfl
    (FillR.cons [(32, a.map vu8)] [(32, List.replicate 32 (vu8 0))] [(32, b.map vu8)] [] rfl rfl rfl rfl (r b hb) rfl rfl rfl FillR.nil))
    (SsOk.cons z0 (SsOk.cons z0 SsOk.nil))).1
  refine h.trans ?_
  simp only [flat, List.map_append]
end Go.Orc
namespace Go.Orc
open Go.Vc Go.RowKit
theorem HP_blkView1 {w w0 : World} {L : List Ent} {b k : Nat} {T : TypeId} {cs : List Value} {r : List Sgm} (h : HP w0 w (.blk b .nw T ((k, cs) :: r) :: L)) : HP w0 w (.view (some ⟨b, 0, none⟩) cs :: L) := by
  have hv : View w (some ⟨b, 0, none⟩) cs := viewB (h.ok _ (List.mem_cons_self ..)) Sg.h
  refine h.turn .h (View.arg hv) (fun b' hb' => ?_) (fun hm => by cases hm) rfl rfl
  cases cs with
  | nil => simp [Ent.blocks] at hb'
  | cons x r => simpa [Ent.blocks] using hb'
end Go.Orc

namespace Go.Orc
open Go.Vc Go.RowKit
def i2u8 (x : Int) : UInt8 := UInt8.ofNat x.toNat
theorem i2u8_w {x : Int} (h : 0 ≤ x) : IntKind.u8.wrap x = ((i2u8 x).toNat : Int) := by
  obtain ⟨n, rfl⟩ := Int.eq_ofNat_of_zero_le h
  rw [w8_nat, i2u8]; rfl
def cT (q : Qn) : List UInt8 := ([i2u8 q.1] ++ q.2.1) ++ [i2u8 q.2.2.1] ++ q.2.2.2
theorem cT_len {q : Qn} {n : Nat} (hq : okQ q) (h : q.2.2.2.length = n) : (cT q).length = 34 + n := by
  obtain ⟨k, key, d, data⟩ := q
  have := hq.1
  simp [cT] at *
  omega
def cF (q : Qn) : List UInt8 := if q.1 = 1 then Go.Sh.sumL (cT q) else Go.Sh.tagL q.2.1 (cT q)
theorem cF_len (q : Qn) : (cF q).length = 32 := by
  unfold cF; split
  · exact Go.Sh.sumL_len _
  · exact Go.Sh.tagL_len _ _
def mF (id : Bool) (df : List UInt8) (dn u : Nat) (q : Qn) : List UInt8 := bif id then drawF df dn u else cF q
theorem mF_len {id : Bool} {df : List UInt8} {dn u : Nat} {q : Qn} (h : df.length = 32 * dn) : (mF id df dn u q).length = 32 := by
  cases id
  · exact cF_len q
  · exact drawF_len h
def anD (id : Bool) (df : List UInt8) (dn u : Nat) (l : Lg) (q : Qn) : List UInt8 := match fdq q l 0 with
  | some i => (l.getD i (q, [])).2
  | none => mF id df dn u q
def anU (id : Bool) (u : Nat) (l : Lg) (q : Qn) : Nat := match fdq q l 0 with
  | some _ => u
  | none => bif id then u + 1 else u
def anL (id : Bool) (df : List UInt8) (dn u : Nat) (l : Lg) (q : Qn) : Lg := match fdq q l 0 with
  | some _ => l
  | none => l ++ [(q, mF id df dn u q)]
section
variable {id : Bool} {df : List UInt8} {dn u : Nat} {l : Lg} {q : Qn} {i : Nat}
theorem anD_hit (h : fdq q l 0 = some i) : anD id df dn u l q = (l.getD i (q, [])).2 := by rw [anD, h]
theorem anU_hit (h : fdq q l 0 = some i) : anU id u l q = u := by rw [anU, h]
theorem anL_hit (h : fdq q l 0 = some i) : anL id df dn u l q = l := by rw [anL, h]
theorem anD_miss (h : fdq q l 0 = none) : anD id df dn u l q = mF id df dn u q := by rw [anD, h]
theorem anU_miss (h : fdq q l 0 = none) : anU id u l q = bif id then u + 1 else u := by rw [anU, h]
theorem anL_miss (h : fdq q l 0 = none) : anL id df dn u l q = l ++ [(q, mF id df dn u q)] := by rw [anL, h]
theorem anU_le (id : Bool) (u : Nat) (l : Lg) (q : Qn) : anU id u l q ≤ u + 1 := by
  rw [anU]; split
  · omega
  · cases id
    · exact Nat.le_succ u
    · exact Nat.le_refl _
theorem anL_le (id : Bool) (df : List UInt8) (dn u : Nat) (l : Lg) (q : Qn) : (anL id df dn u l q).length ≤ l.length + 1 := by
  rw [anL]; split
  · omega
  · rw [snoc_len]; exact Nat.le_refl _
theorem anD_len (h : df.length = 32 * dn) (hl : ok32 l) : (anD id df dn u l q).length = 32 := by
  rw [anD]
  split
  · rename_i i hi
    have := fdq_lt hi
    have hlt : i < l.length := by omega
    have e : l.getD i (q, []) = l[i] := by simp [hlt]
    rw [e]; exact hl _ (List.getElem_mem hlt)
  · exact mF_len h
theorem anL_32 (h : df.length = 32 * dn) (hl : ok32 l) : ok32 (anL id df dn u l q) := by
  rw [anL]
  split
  · exact hl
  · intro p hp
    rcases List.mem_append.1 hp with hp | hp
    · exact hl p hp
    · rw [List.mem_singleton] at hp; subst hp; exact mF_len h
end
end Go.Orc
namespace Go.Orc
open Go.Vc Go.RowKit
theorem okN : ok32 ([] : Lg) := fun p hp => by cases hp
def sT (df : List UInt8) (dn : Nat) (key : List UInt8) (dm : Int) (data : List UInt8) (u : Nat) (lg : Lg) : Nat → Nat × Lg × List UInt8
  | 0 => (u, lg, [])
  | k + 1 => (anU true (sT df dn key dm data u lg k).1 (sT df dn key dm data u lg k).2.1 (4, key, dm, data ++ leN 8 k), anL true df dn (sT df dn key dm data u lg k).1 (sT df dn key dm data u lg k).2.1 (4, key, dm, data ++ leN 8 k), (sT df dn key dm data u lg k).2.2 ++ anD true df dn (sT df dn key dm data u lg k).1 (sT df dn key dm data u lg k).2.1 (4, key, dm, data ++ leN 8 k))
section
variable {df : List UInt8} {dn : Nat} {key : List UInt8} {dm : Int} {data : List UInt8} {u : Nat} {lg : Lg}
end
end Go.Orc

namespace Go.Proofs.Yteclkcpdclimnaa
open Go.Proofs.Try
open Go.Vc Go.Orc Go.Sh Go.RowKit
set_option maxRecDepth 20000
theorem ce5 : Try.prog.cellsOf 5 = 1 := by kernel_rfl
theorem ce9 : Try.prog.cellsOf 9 = 1 := by kernel_rfl
theorem ce23 : Try.prog.cellsOf 23 = 32 := by kernel_rfl
theorem ce52 : Try.prog.cellsOf 52 = 1 := by kernel_rfl
theorem ce53 : Try.prog.cellsOf 53 = 1 := by kernel_rfl
theorem ce118 : Try.prog.cellsOf 118 = 35 := by kernel_rfl
theorem el61 : ElT Try.prog 61 64 67 104 := ElT.mk' underlying61 (i := Try.t64) rfl rfl rfl rfl rfl rfl
theorem kt118 : Try.prog.keyTypeAt 3 118 = true := by kernel_rfl
theorem ag118 : aggB Try.prog 118 = true := by unfold aggB; rw [underlying118]
theorem pl64 : ∀ fs, Try.prog.underlying 64 = some (.struct fs) → Places Try.prog fs [(0, 35), (35, 32)] := by
 intro fs h w; rw [underlying64] at h; cases h; simp
theorem pl118 : ∀ fs, Try.prog.underlying 118 = some (.struct fs) → Places Try.prog fs [(0, 1), (1, 32), (33, 1), (34, 1)] := by
 intro fs h w; rw [underlying118] at h; cases h; simp
theorem typQ (q : Qn) (h : okQ q) : Typ Try.prog 3 118 (kC q) := by
 obtain ⟨h0, h1, h2, h3⟩ := h
 have h : okQ q := ⟨h0, h1, h2, h3⟩
 exact (Typ.struct (h := 2) (r := [(1, [(vi q.1)]), (32, q.2.1.map vu8), (1, [(vi q.2.2.1)]), (1, [(.string (bstr q.2.2.2))])]) (cs := flat [(1, [(vi q.1)]), (32, q.2.1.map vu8), (1, [(vi q.2.2.1)]), (1, [(.string (bstr q.2.2.2))])]) underlying118 (TypF.cons (k := 1) rfl rfl (by decide) rfl (Typ.int underlying52 ce52 (WalkArith.wf_i64 (by omega))) (TypF.cons (k := 32) rfl rfl (by decide) (len_map h.1) (Typ.u8s underlying23 ce23 underlying5 ce5 h.1) (TypF.cons (k := 1) rfl rfl (by decide) rfl (Typ.int underlying53 ce53 (WalkArith.wf_i64 (by omega))) (TypF.cons (k := 1) rfl rfl (by decide) rfl (Typ.str underlying9 ce9 (by rw [bstr_size]; simp only [maxLen]; omega)) TypF.nil)))) rfl (((sC sV (sC (s8 h.1) (sC sV (sC sV sN))))).len.trans ce118.symm))

theorem c_oText (kd dm : Int) (key data : List UInt8) (qa : Option Addr) (qn qc : Nat) (hq : okQ (kd, key, dm, data)) (hdl : data.length = qn) (w : World) (hv : View w qa (data.map vu8)) :
  Cs Try.prog 49 [(.agg ⟨flat [(1, [(vi kd)]), (32, key.map vu8), (1, [(vi dm)]), (1, [(.slice qa qn qc)])]⟩)].toArray w (fun v w1 => ∃ a cap, v = .slice a (34 + qn) cap ∧ Chg w w1 [] ∧ Own w.heap.size w1 5 1 a (34 + qn) cap ((cT (kd, key, dm, data)).map vu8)) := by
 have hk1 : 1 ≤ kd ∧ kd ≤ 4 := hq.2.1
 have hd1 : 1 ≤ dm ∧ dm ≤ 16 := hq.2.2.1
 have hqn : data.length ≤ 1000000000 := hq.2.2.2
 refine Cs.of (n := 20) (args := [(.agg ⟨flat [(1, [(vi kd)]), (32, key.map vu8), (1, [(vi dm)]), (1, [(.slice qa qn qc)])]⟩)]) Try.func49 rfl rfl rfl ?_
 have h_0 := HP.init w
 have h_00 := h_0.old (View.arg hv) (fun f hf => by cases hf)
 refine WP.seq (WP.reg ?_)
 refine WL.box (segs := [(1, [(vi kd)]), (32, key.map vu8), (1, [(vi dm)]), (1, [(.slice qa qn qc)])]) h_00 rfl rfl (sC sV (sC (s8 hq.1) (sC sV (sC sV sN)))) rfl (fun b_1 w_2 h_3 => ?_)
 refine qA (.slice none 0 0) rfl rfl ?_
 refine WL.nil (thn_n (WP.seq ?_))
 refine WP.drawT (SL w.heap.size [.blk b_1 .nw 56 [(1, [(vi kd)]), (32, key.map vu8), (1, [(vi dm)]), (1, [(.slice qa qn qc)])], .view qa (data.map vu8)]) (.q 0 (.q 1 (.q 2 (.q 4 (.q 5 (.s 3 (.s 6 (.q 7 .nil)))))))) (by kernel_rfl) (by kernel_rfl) rfl (by kernel_rfl) (fun w_4 hc_6 => (SL.cons ((h_3.same hc_6).ok _ M0) (SL.cons ((h_3.same hc_6).ok _ M1) (SL.nil _ _)))) (fun w_4 hc_6 => ?_)
 have h_5 := h_3.same hc_6
 refine qT rfl rfl (fun wq hS => R.fieldAddr (off' := 0) rfl underlying56 rfl sizeOf52 rfl rfl) ?_
 refine qT rfl rfl (fun wq hS => R.load1 rfl isAgg52 (hS _ M0) Sg.h) ?_
 refine qT rfl rfl (fun wq hS => R.conv (b := ((i2u8 kd) : UInt8).toNat) rfl underlying52 underlying5 (i2u8_w (by omega))) ?_
 refine qT rfl rfl (fun wq hS => R.fieldAddr (off' := 1) rfl underlying56 rfl sizeOf23 rfl rfl) ?_
 refine qT rfl rfl (fun wq hS => R.sliceA (b := b_1) (off := 1) (off' := 1) (l := 0) (h := 32) rfl EvB.dflt EvB.dflt (by decide) (by decide) underlying23 sizeOf5 rfl) ?_
 refine WT.s (oN rfl ?_)
 refine WL.buildSl (vs := [(0, (vu8 (i2u8 kd)))]) (cs := ([i2u8 kd] : List UInt8).map vu8) h_5 underlying54 sizeOf5 (zv typeInfo5 rfl) rfl rfl (by kernel_rfl) rfl (one_u8 _) rfl rfl (fun b_7 w_8 h_9 => ?_)
 refine WL.nil ?_
 refine ⟨(N1_2 h_9.ok), ?_⟩
 refine WT.s (oN rfl ?_)
 have h_10 := HP.blkRow (m := 1) (s := 1) h_9 At.h rfl (by simp only [maxLen]; decide)
 refine WL.append (km := 33) (xs := ([i2u8 kd] : List UInt8).map vu8) (ys := key.map vu8) (zs := (([i2u8 kd] : List UInt8) ++ key).map vu8) h_10 rfl rfl el54 (viewB (h_10.ok _ M1) (Sg.t rfl Sg.h)) ((len_map hq.1).trans (Nat.mul_one _).symm) (one_u8 _) (by simp only [List.map_append, List.map_nil]) rfl (by omega) (by omega) (fun _ _ => At.h) rfl (fun a_11 c_12 w_13 h_14 => ?_)
 refine WL.nil ?_
 refine ⟨(N1_2 h_14.ok), ?_⟩
 refine qT rfl rfl (fun wq hS => R.assign (v := (.slice a_11 33 c_12)) rfl) ?_
 refine WT.nil (thn_n (WP.seq ?_))
 refine WP.drawT (SL w.heap.size [.blk b_1 .nw 56 [(1, [(vi kd)]), (32, key.map vu8), (1, [(vi dm)]), (1, [(.slice qa qn qc)])], .view qa (data.map vu8)]) (.q 0 (.q 1 (.q 2 (.q 3 (.q 6 (.q 7 (.s 4 (.s 5 (.s 8 (.q 9 .nil)))))))))) (by kernel_rfl) (by kernel_rfl) rfl (by kernel_rfl) (fun w_15 hc_17 => (SL.cons ((h_14.same hc_17).ok _ M1) (SL.cons ((h_14.same hc_17).ok _ M2) (SL.nil _ _)))) (fun w_15 hc_17 => ?_)
 have h_16 := h_14.same hc_17
 refine qT rfl rfl (fun wq hS => R.move (v := (.slice a_11 33 c_12)) rfl) ?_
 refine qT rfl rfl (fun wq hS => R.fieldAddr (off' := 33) rfl underlying56 rfl sizeOf53 rfl rfl) ?_
 refine qT rfl rfl (fun wq hS => R.load1 rfl isAgg53 (hS _ M0) (Sg.t rfl (Sg.t rfl Sg.h))) ?_
 refine qT rfl rfl (fun wq hS => R.conv (b := ((i2u8 dm) : UInt8).toNat) rfl underlying53 underlying5 (i2u8_w (by omega))) ?_
 refine qT rfl rfl (fun wq hS => R.fieldAddr (off' := 34) rfl underlying56 rfl sizeOf54 rfl rfl) ?_
 refine qT rfl rfl (fun wq hS => R.load1 rfl isAgg54 (hS _ M0) (Sg.t rfl (Sg.t rfl (Sg.t rfl Sg.h)))) ?_
 refine WT.s (oN rfl ?_)
 refine WL.buildSl (vs := [(0, (vu8 (i2u8 dm)))]) (cs := ([i2u8 dm] : List UInt8).map vu8) h_16 underlying54 sizeOf5 (zv typeInfo5 rfl) rfl rfl (by kernel_rfl) rfl (one_u8 _) rfl rfl (fun b_18 w_19 h_20 => ?_)
 refine WL.nil ?_
 refine ⟨(N2_3 h_20.ok), ?_⟩
 refine WT.s (oN rfl ?_)
 refine WL.append (km := 34) (xs := (([i2u8 kd] : List UInt8) ++ key).map vu8) (ys := ([i2u8 dm] : List UInt8).map vu8) (zs := ((([i2u8 kd] : List UInt8) ++ key) ++ ([i2u8 dm] : List UInt8)).map vu8) h_20 rfl rfl el54 (viewB (h_20.ok _ M0) Sg.h) ((len_map (rfl : List.length ([i2u8 dm] : List UInt8) = 1)).trans (Nat.mul_one _).symm) (one_u8 _) (by simp only [List.map_append, List.map_nil]) rfl (by omega) (by omega) (fun _ _ => Y1) rfl (fun a_21 c_22 w_23 h_24 => ?_)
 refine WL.nil ?_
 refine ⟨(N2_3 h_24.ok), ?_⟩
 refine WT.s (oN rfl ?_)
 refine WL.append (km := 34 + qn) (xs := ((([i2u8 kd] : List UInt8) ++ key) ++ ([i2u8 dm] : List UInt8)).map vu8) (ys := data.map vu8) (zs := (((([i2u8 kd] : List UInt8) ++ key) ++ ([i2u8 dm] : List UInt8)) ++ data).map vu8) h_24 rfl rfl el54 (viewV (h_24.ok _ M3)) ((len_map hdl).trans (Nat.mul_one _).symm) (one_u8 _) (by simp only [List.map_append, List.map_nil]) (by omega) (by omega) (by omega) (fun _ _ => Y1) rfl (fun a_25 c_26 w_27 h_28 => ?_)
 refine WL.nil ?_
 refine ⟨(N2_3 h_28.ok), ?_⟩
 refine qT rfl rfl (fun wq hS => R.assign (v := (.slice a_25 (34 + qn) c_26)) rfl) ?_
 refine WT.nil (thn_n (WP.ret ?_))
 refine ret_of results49 (RV.tmp (v := (.slice a_25 (34 + qn) c_26)) rfl RV.nil) ?_
 exact ⟨_, _, by first | rfl | exact congrArg (fun n => Value.slice _ n _) (by omega), h_28.chgS, by first | exact h_28.ok _ M1 | (have hx := h_28.own M1; rwa [show 34 + qn = 34 + qn by omega] at hx)⟩

theorem c_oCl (kd dm : Int) (key data : List UInt8) (qa : Option Addr) (qn qc : Nat) (hq : okQ (kd, key, dm, data)) (hdl : data.length = qn) (bq : Nat) (w : World) (hv : View w qa (data.map vu8)) (hcb : (Ent.blk bq .ro 56 [(1, [(vi kd)]), (32, key.map vu8), (1, [(vi dm)]), (1, [(.slice qa qn qc)])]).ok w.heap.size w) :
  Cs Try.prog 47 [(.pointer (some ⟨bq, 0, none⟩))].toArray w (fun v w1 => v = (.agg ⟨(cF (kd, key, dm, data)).map vu8⟩) ∧ Chg w w1 []) := by
 have hk1 : 1 ≤ kd ∧ kd ≤ 4 := hq.2.1
 have hd1 : 1 ≤ dm ∧ dm ≤ 16 := hq.2.2.1
 have hqn : data.length ≤ 1000000000 := hq.2.2.2
 refine Cs.of (n := 13) (args := [(pO bq 0)]) Try.func47 rfl rfl rfl ?_
 have h_0 := HP.init w
 have h_01 := h_0.oldV (View.arg hv) rfl (by simp [Ent.mut])
 have h_00 := h_01.oldV hcb rfl (by simp [Ent.mut])
 refine WP.seq (WP.reg ?_)
 refine WL.alloc (segs := [(32, (zB 32).map vu8)]) h_00 (zv typeInfo23 rfl) rfl (sC (s8 lr) sN) rfl (fun b_1 w_2 h_3 => ?_)
 refine WL.nil (thn_n (WP.seq (WP.seq (WP.reg ?_))))
 refine qV rfl (R.fieldAddr (off' := 0) rfl underlying56 rfl sizeOf52 rfl rfl) (qV rfl (R.load1 rfl isAgg52 (h_3.ok _ M1) Sg.h) (qV rfl (R.bin rfl rfl (bi_eql (r := decide ((kd : Int) = 1)) rfl)) ?_))
 refine WL.nil (thn_n ?_)
 refine WP.cond (b := decide ((kd : Int) = 1)) rfl (fun c_4 => ?_) (fun c_4 => ?_)
 ·have p_5 := of_decide_eq_true c_4
  refine WP.seq (WP.reg ?_)
  refine qV rfl (R.loadA [] [(1, [(vi kd)]), (32, key.map vu8), (1, [(vi dm)]), (1, [(.slice qa qn qc)])] [] rfl isAgg56 sizeOf56 (h_3.ok _ M1) rfl rfl rfl rfl) ?_
  refine WL.call Try.call49 rfl rfl (c_oText kd dm key data qa qn qc hq hdl _ (viewV (h_3.ok _ M2))) rfl ?_
  rintro _ w_8 ⟨a_6, cap_7, rfl, hc_9, ho_10⟩
  have h_11 := h_3.gotRow hc_9 ho_10
  refine WL.call Try.call48 rfl rfl (c_Sum a_6 (34 + qn) cap_7 (cT (kd, key, dm, data)) (cT_len hq hdl) (by omega) (h_11.own M0).2.2.1 _ (ownView (h_11.ok _ M0))) rfl ?_
  rintro _ w_13 ⟨rfl, hc_12⟩
  have h_14 := h_11.same hc_12
  refine WL.storeA [] [(32, (zB 32).map vu8)] [(32, (sumL (cT (kd, key, dm, data))).map vu8)] [] h_14 rfl rfl sizeOf23 Y1 (by decide) rfl rfl rfl rfl rfl rfl (sC (s8 (sumL_len _)) sN) (fun w_15 h_16 => ?_)
  refine WL.nil (thn_n (WP.ret (thn_r ?_)))
  refine ret_of results47 (RV.cell rfl (h_16.loadA (cs := (sumL (cT (kd, key, dm, data))).map vu8) isAgg23 sizeOf23 M1 rfl rfl) RV.nil) ?_
  exact ⟨by rw [cF, if_pos p_5]; rfl, h_16.chgS⟩
 ·have p_17 := of_decide_eq_false c_4
  refine WP.skip (thn_n (WP.seq ?_))
  refine WP.drawZ 5 (SL w.heap.size [.blk b_1 .nw 23 [(32, (zB 32).map vu8)], .blk bq .ro 56 [(1, [(vi kd)]), (32, key.map vu8), (1, [(vi dm)]), (1, [(.slice qa qn qc)])], .view qa (data.map vu8)]) (.q 0 (.q 1 (.q 2 (.s 3 (.s 4 (.s 5 .nil)))))) (by kernel_rfl) (by kernel_rfl) rfl (by kernel_rfl) (fun w_18 hc_20 => (SL.cons ((h_3.same hc_20).ok _ M0) (SL.cons ((h_3.same hc_20).ok _ M1) (SL.cons ((h_3.same hc_20).ok _ M2) (SL.nil _ _))))) (fun w_18 hc_20 => ?_)
  have h_19 := h_3.same hc_20
  refine ZT.q rfl (Wn.no rfl) rfl rfl (fun wq hS => R.fieldAddr (off' := 1) rfl underlying56 rfl sizeOf23 rfl rfl) ?_
  refine ZT.q rfl (Wn.no rfl) rfl rfl (fun wq hS => R.sliceA (b := bq) (off := 1) (off' := 1) (l := 0) (h := 32) rfl EvB.dflt EvB.dflt (by decide) (by decide) underlying23 sizeOf5 rfl) ?_
  refine ZT.q rfl (Wn.no rfl) rfl rfl (fun wq hS => R.loadA [] [(1, [(vi kd)]), (32, key.map vu8), (1, [(vi dm)]), (1, [(.slice qa qn qc)])] [] rfl isAgg56 sizeOf56 (hS _ M1) rfl rfl rfl rfl) ?_
  refine ZT.s ?_
  refine OpZ.one rfl (Wn.no rfl) ?_
  refine WL.call Try.call49 rfl rfl (c_oText kd dm key data qa qn qc hq hdl _ (viewV (h_19.ok _ M2))) rfl ?_
  rintro _ w_23 ⟨a_21, cap_22, rfl, hc_24, ho_25⟩
  have h_26 := h_19.gotRow hc_24 ho_25
  refine WL.nil ?_
  refine ⟨(N1_2_3 h_26.ok), ?_⟩
  refine ZT.s ?_
  refine OpZ.one rfl (Wn.no rfl) ?_
  refine WL.call Try.call50 rfl rfl (c_Tag (some ⟨bq, 1, none⟩) 32 32 key hq.1 (by decide) (by decide) a_21 (34 + qn) cap_22 (cT (kd, key, dm, data)) (cT_len hq hdl) (h_26.own M0).2.2.1 (by omega) _ (viewB (h_26.ok _ M2) (Sg.t rfl Sg.h)) (ownView (h_26.ok _ M0))) rfl ?_
  rintro _ w_28 ⟨rfl, hc_27⟩
  have h_29 := h_26.same hc_27
  refine WL.nil ?_
  refine ⟨(N1_2_3 h_29.ok), ?_⟩
  refine ZT.s ?_
  refine OpZ.last rfl (Wn.no rfl) ?_
  refine WL.storeA [] [(32, (zB 32).map vu8)] [(32, (tagL key (cT (kd, key, dm, data))).map vu8)] [] h_29 rfl rfl sizeOf23 Y1 (by decide) rfl rfl rfl rfl rfl rfl (sC (s8 (tagL_len _ _)) sN) (fun w_30 h_31 => ?_)
  refine WL.nil (ZT.nil (thn_n (WP.ret ?_)))
  refine ret_of results47 (RV.cell rfl (h_31.loadA (cs := (tagL key (cT (kd, key, dm, data))).map vu8) isAgg23 sizeOf23 M1 rfl rfl) RV.nil) ?_
  exact ⟨by rw [cF, if_neg p_17]; rfl, h_31.chgS⟩

theorem c_ans_hit {w00 : World} {L : List Ent} (id : Bool) (ob mp : Nat) (ms df : List UInt8) (hms : ms.length = 32) (da : Option Addr) (dn dc u : Nat) (hdf : df.length = 32 * dn) (la : Option Addr) (lc : Nat) (lx : List Value) (lg : Lg) (hu : u ≤ 1000000) (hlg : lg.length ≤ 1000000) (kd dm : Int) (key data : List UInt8) (qa : Option Addr) (qn qc : Nat) (hq : okQ (kd, key, dm, data)) (hdl : data.length = qn) (cv : Value) (i : Nat) (hfd : fdq (kd, key, dm, data) lg 0 = some i) (w : World) (h_0 : HP w00 w (Ent.blk ob .nw 90 [(1, [(.bool id)]), (32, ms.map vu8), (1, [(.slice da dn dc)]), (1, [(vi ((u : Nat) : Int))]), (1, [(.map (some mp))]), (1, [(.slice la lg.length lc)])] :: Ent.row la lg.length lc 64 67 lx :: Ent.obj mp .nw (.map (mArr lg) lg.length) :: Ent.pin (sblks lx) (fun w => Lgs w lx lg) :: Ent.view da (df.map vu8) :: Ent.view qa (data.map vu8) :: L)) :
  Cs Try.prog 46 [(.pointer (some ⟨ob, 0, none⟩)), (.agg ⟨flat [(1, [(vi kd)]), (32, key.map vu8), (1, [(vi dm)]), (1, [(.slice qa qn qc)])]⟩), cv].toArray w (fun v w1 => ∃ la' lc' lx', v = (.agg ⟨(anD id df dn u lg (kd, key, dm, data)).map vu8⟩) ∧ HP w00 w1 (Ent.blk ob .nw 90 [(1, [(.bool id)]), (32, ms.map vu8), (1, [(.slice da dn dc)]), (1, [(vi (((anU id u lg (kd, key, dm, data)) : Nat) : Int))]), (1, [(.map (some mp))]), (1, [(.slice la' ((anL id df dn u lg (kd, key, dm, data)).length) lc')])] :: Ent.row la' ((anL id df dn u lg (kd, key, dm, data)).length) lc' 64 67 lx' :: Ent.obj mp .nw (.map (mArr (anL id df dn u lg (kd, key, dm, data))) ((anL id df dn u lg (kd, key, dm, data)).length)) :: Ent.pin (sblks lx') (fun w => Lgs w lx' (anL id df dn u lg (kd, key, dm, data))) :: Ent.view da (df.map vu8) :: Ent.view qa (data.map vu8) :: L)) := by
 have hlgs : Lgs w lx lg := (h_0.ok _ M3).1
 have hlo := hlgs.ok
 have hqn : data.length ≤ 1000000000 := hq.2.2.2
 have hil : i < lg.length := by have := fdq_lt hfd; omega
 refine Cs.of (n := 74) (args := [(pO ob 0), (.agg ⟨flat [(1, [(vi kd)]), (32, key.map vu8), (1, [(vi dm)]), (1, [(.slice qa qn qc)])]⟩), cv]) Try.func46 rfl rfl rfl ?_
 refine WP.seq (WP.reg ?_)
 refine WL.box (segs := [(1, [(vi kd)]), (32, key.map vu8), (1, [(vi dm)]), (1, [(.slice qa qn qc)])]) h_0 rfl rfl (sC sV (sC (s8 hq.1) (sC sV (sC sV sN)))) rfl (fun b_1 w_2 h_3 => ?_)
 refine WL.alloc (segs := [(32, (zB 32).map vu8)]) h_3 (zv typeInfo23 rfl) rfl (sC (s8 lr) sN) rfl (fun b_4 w_5 h_6 => ?_)
 refine WL.nil (thn_n (WP.seq (WP.reg ?_)))
 refine qV rfl (R.fieldAddr (off' := 0) rfl underlying56 rfl sizeOf52 rfl rfl) (qV rfl (R.load1 rfl isAgg52 (h_6.ok _ M1) Sg.h) (qV rfl (R.fieldAddr (off' := 1) rfl underlying56 rfl sizeOf23 rfl rfl) (qV rfl (R.loadA [(1, [(vi kd)])] [(32, key.map vu8)] [(1, [(vi dm)]), (1, [(.slice qa qn qc)])] (cs := key.map vu8) rfl isAgg23 sizeOf23 (h_6.ok _ M1) rfl rfl rfl rfl) (qV rfl (R.fieldAddr (off' := 33) rfl underlying56 rfl sizeOf53 rfl rfl) (qV rfl (R.load1 rfl isAgg53 (h_6.ok _ M1) (Sg.t rfl (Sg.t rfl Sg.h))) (qV rfl (R.fieldAddr (off' := 34) rfl underlying56 rfl sizeOf54 rfl rfl) (qV rfl (R.load1 rfl isAgg54 (h_6.ok _ M1) (Sg.t rfl (Sg.t rfl (Sg.t rfl Sg.h)))) (qV rfl (R.toStr (bs := data) rfl underlying54 underlying5 underlying9 (viewV (h_6.ok _ M7)) hdl) (qV rfl (R.buildS (pl := [(0, 1), (1, 32), (33, 1), (34, 1)]) (zs := [(1, [(vi 0)]), (32, (zB 32).map vu8), (1, [(vi 0)]), (1, [(.string (bstr ([] : List UInt8)))])]) (vs := [(0, (vi kd)), (1, (.agg ⟨key.map vu8⟩)), (2, (vi dm)), (3, (.string (bstr data)))]) (out := [(1, [(vi kd)]), (32, key.map vu8), (1, [(vi dm)]), (1, [(.string (bstr data))])]) underlying118 (zv typeInfo118 rfl) rfl (sC sV (sC (s8 lr) (sC sV (sC sV sN)))) (pl118 _ underlying118) rfl (FillR.cons [] [(1, [(vi 0)])] [(1, [(vi kd)])] [(32, (zB 32).map vu8), (1, [(vi 0)]), (1, [(.string (bstr ([] : List UInt8)))])] rfl rfl rfl rfl (sC sV sN) rfl rfl rfl (FillR.cons [(1, [(vi kd)])] [(32, (zB 32).map vu8)] [(32, key.map vu8)] [(1, [(vi 0)]), (1, [(.string (bstr ([] : List UInt8)))])] rfl rfl rfl rfl (sC (s8 hq.1) sN) rfl rfl rfl (FillR.cons [(1, [(vi kd)]), (32, key.map vu8)] [(1, [(vi 0)])] [(1, [(vi dm)])] [(1, [(.string (bstr ([] : List UInt8)))])] rfl rfl rfl rfl (sC sV sN) rfl rfl rfl (FillR.cons [(1, [(vi kd)]), (32, key.map vu8), (1, [(vi dm)])] [(1, [(.string (bstr ([] : List UInt8)))])] [(1, [(.string (bstr data))])] [] rfl rfl rfl rfl (sC sV sN) rfl rfl rfl FillR.nil)))) rfl) ?_)))))))))
 refine WL.alloc (segs := [(1, [(vi 0)]), (32, (zB 32).map vu8), (1, [(vi 0)]), (1, [(.string (bstr ([] : List UInt8)))])]) h_6 (zv typeInfo118 rfl) rfl (sC sV (sC (s8 lr) (sC sV (sC sV sN)))) rfl (fun b_8 w_9 h_10 => ?_)
 refine WL.storeA [] [(1, [(vi 0)]), (32, (zB 32).map vu8), (1, [(vi 0)]), (1, [(.string (bstr ([] : List UInt8)))])] [(1, [(vi kd)]), (32, key.map vu8), (1, [(vi dm)]), (1, [(.string (bstr data))])] [] h_10 rfl rfl sizeOf118 At.h (by decide) rfl rfl rfl rfl rfl rfl (sC sV (sC (s8 hq.1) (sC sV (sC sV sN)))) (fun w_11 h_12 => ?_)
 refine WL.nil (thn_n (WP.seq (WP.seq ?_)))
 refine WP.drawT (SL w00.heap.size [.blk b_8 .nw 118 [(1, [(vi kd)]), (32, key.map vu8), (1, [(vi dm)]), (1, [(.string (bstr data))])], .blk b_4 .nw 23 [(32, (zB 32).map vu8)], .blk b_1 .nw 56 [(1, [(vi kd)]), (32, key.map vu8), (1, [(vi dm)]), (1, [(.slice qa qn qc)])], .blk ob .nw 90 [(1, [(.bool id)]), (32, ms.map vu8), (1, [(.slice da dn dc)]), (1, [(vn u)]), (1, [(.map (some mp))]), (1, [(.slice la lg.length lc)])], .row la lg.length lc 64 67 lx, .obj mp .nw (.map (mArr lg) lg.length), .pin (sblks lx) (fun w => Lgs w lx lg), .view da (df.map vu8), .view qa (data.map vu8)]) (.q 0 (.q 1 (.q 2 (.q 3 (.q 4 (.s 5 (.q 6 (.q 7 (.q 8 (.q 9 (.q 10 .nil))))))))))) (by kernel_rfl) (by kernel_rfl) rfl (by kernel_rfl) (fun w_13 hc_15 => (SL.cons ((h_12.same hc_15).ok _ M0) (SL.cons ((h_12.same hc_15).ok _ M1) (SL.cons ((h_12.same hc_15).ok _ M2) (SL.cons ((h_12.same hc_15).ok _ M3) (SL.cons ((h_12.same hc_15).ok _ M4) (SL.cons ((h_12.same hc_15).ok _ M5) (SL.cons ((h_12.same hc_15).ok _ M6) (SL.cons ((h_12.same hc_15).ok _ M7) (SL.cons ((h_12.same hc_15).ok _ M8) (SL.nil _ _))))))))))) (fun w_13 hc_15 => ?_)
 have h_14 := h_12.same hc_15
 refine qT rfl rfl (fun wq hS => R.move (v := (pO ob 0)) rfl) ?_
 refine qT rfl rfl (fun wq hS => R.nilCheck rfl) ?_
 refine qT rfl rfl (fun wq hS => R.fieldAddr (off' := 35) rfl underlying90 rfl sizeOf88 rfl rfl) ?_
 refine qT rfl rfl (fun wq hS => R.load1 rfl isAgg88 (hS _ M3) (Sg.t rfl (Sg.t rfl (Sg.t rfl (Sg.t rfl Sg.h))))) ?_
 refine qT rfl rfl (fun wq hS => R.loadA [] [(1, [(vi kd)]), (32, key.map vu8), (1, [(vi dm)]), (1, [(.string (bstr data))])] [] rfl isAgg118 sizeOf118 (hS _ M0) rfl rfl rfl rfl) ?_
 refine WT.s (oN rfl ?_)
 refine qV rfl (R.lookup (r := some (i, vi (i : Int))) (z := (vi 0)) (v := (vn i)) (ok := true) rfl rfl underlying88 (h_14.ok _ M5) (Ck.agg kt118 (by decide) ag118 (typQ (kd, key, dm, data) hq)) (log_hit kt118 (by decide) ag118 typQ hq hlo hfd) (zv typeInfo3 rfl) rfl rfl) ?_
 refine WL.nil ?_
 refine ⟨(N0_1_2_3_4_5_6_7_8 h_14.ok), ?_⟩
 refine qT rfl rfl (fun wq hS => R.move (v := (.tuple [(vn i), (.bool true)].toArray)) rfl) ?_
 refine qT rfl rfl (fun wq hS => R.extract rfl rfl) ?_
 refine qT rfl rfl (fun wq hS => R.extract rfl rfl) ?_
 refine qT rfl rfl (fun wq hS => R.assign (v := (vn i)) rfl) ?_
 refine qT rfl rfl (fun wq hS => R.assign (v := (.bool true)) rfl) ?_
 refine WT.nil (thn_n (WP.seq (WP.reg ?_)))
 refine qM (.bool true) rfl rfl ?_
 refine WL.nil (thn_n ?_)
 refine WP.condT rfl ?_
 refine WP.seq (WP.reg ?_)
 refine qM (pO ob 0) rfl rfl (qV rfl (R.nilCheck rfl) (qV rfl (R.fieldAddr (off' := 36) rfl underlying90 rfl sizeOf61 rfl rfl) (qV rfl (R.load1 rfl isAgg61 (h_14.ok _ M3) (Sg.t rfl (Sg.t rfl (Sg.t rfl (Sg.t rfl (Sg.t rfl Sg.h)))))) (qM (vn i) rfl rfl (qV rfl (R.indexS (a := la) (i := i) (off := i * 67) (xs := lx) rfl rfl rfl (by omega) (ownView (h_14.ok _ M4)) (by rw [Lgs.len hlgs]; omega) underlying61 sizeOf64 rfl) (qV rfl (R.fieldG (a := la) (i := i * 67) (off' := i * 67 + 35) rfl underlying64 rfl sizeOf23 rfl rfl) (qV rfl (R.loadGA (a := la) (i := i * 67 + 35) (xs := lx) (cs := ((lg.getD i ((kd, key, dm, data), [])).2).map vu8) rfl (ownView (h_14.ok _ M4)) isAgg23 sizeOf23 (Lgs.ans (z := ((kd, key, dm, data), [])) hlgs (i := i) hil).1 (len_map (Lgs.ans (z := ((kd, key, dm, data), [])) hlgs (i := i) hil).2) (by decide)) ?_)))))))
 refine WL.storeA [] [(32, (zB 32).map vu8)] [(32, ((lg.getD i ((kd, key, dm, data), [])).2).map vu8)] [] h_14 rfl rfl sizeOf23 Y1 (by decide) rfl rfl rfl rfl rfl rfl (sC (s8 ((Lgs.ans (z := ((kd, key, dm, data), [])) hlgs (i := i) hil).2)) sN) (fun w_16 h_17 => ?_)
 refine WL.nil (thn_n (WP.ret (thn_r ?_)))
 refine ret_of results46 (RV.cell rfl (h_17.loadA (cs := ((lg.getD i ((kd, key, dm, data), [])).2).map vu8) isAgg23 sizeOf23 M1 rfl rfl) RV.nil) ?_
 have h_26 := ((((((((h_17.drop rfl).drop rfl).drop rfl).up J5).up J5).up J5).up J5).up J5).up J5
 exact ⟨la, lc, lx, by rw [anD_hit hfd]; rfl, by rw [anU_hit hfd, anL_hit hfd]; exact h_26⟩

theorem c_ans_missT {w00 : World} {L : List Ent} (ob mp : Nat) (ms df : List UInt8) (hms : ms.length = 32) (da : Option Addr) (dn dc u : Nat) (hdf : df.length = 32 * dn) (la : Option Addr) (lc : Nat) (lx : List Value) (lg : Lg) (hu : u ≤ 1000000) (hlg : lg.length ≤ 1000000) (kd dm : Int) (key data : List UInt8) (qa : Option Addr) (qn qc : Nat) (hq : okQ (kd, key, dm, data)) (hdl : data.length = qn) (cv : Value) (hfd : fdq (kd, key, dm, data) lg 0 = none) (w : World) (h_0 : HP w00 w (Ent.blk ob .nw 90 [(1, [(.bool true)]), (32, ms.map vu8), (1, [(.slice da dn dc)]), (1, [(vi ((u : Nat) : Int))]), (1, [(.map (some mp))]), (1, [(.slice la lg.length lc)])] :: Ent.row la lg.length lc 64 67 lx :: Ent.obj mp .nw (.map (mArr lg) lg.length) :: Ent.pin (sblks lx) (fun w => Lgs w lx lg) :: Ent.view da (df.map vu8) :: Ent.view qa (data.map vu8) :: L)) :
  Cs Try.prog 46 [(.pointer (some ⟨ob, 0, none⟩)), (.agg ⟨flat [(1, [(vi kd)]), (32, key.map vu8), (1, [(vi dm)]), (1, [(.slice qa qn qc)])]⟩), cv].toArray w (fun v w1 => ∃ la' lc' lx', v = (.agg ⟨(anD true df dn u lg (kd, key, dm, data)).map vu8⟩) ∧ HP w00 w1 (Ent.blk ob .nw 90 [(1, [(.bool true)]), (32, ms.map vu8), (1, [(.slice da dn dc)]), (1, [(vi (((anU true u lg (kd, key, dm, data)) : Nat) : Int))]), (1, [(.map (some mp))]), (1, [(.slice la' ((anL true df dn u lg (kd, key, dm, data)).length) lc')])] :: Ent.row la' ((anL true df dn u lg (kd, key, dm, data)).length) lc' 64 67 lx' :: Ent.obj mp .nw (.map (mArr (anL true df dn u lg (kd, key, dm, data))) ((anL true df dn u lg (kd, key, dm, data)).length)) :: Ent.pin (sblks lx') (fun w => Lgs w lx' (anL true df dn u lg (kd, key, dm, data))) :: Ent.view da (df.map vu8) :: Ent.view qa (data.map vu8) :: L)) := by
 have hlgs : Lgs w lx lg := (h_0.ok _ M3).1
 have hlo := hlgs.ok
 have hqn : data.length ≤ 1000000000 := hq.2.2.2
 refine Cs.of (n := 74) (args := [(pO ob 0), (.agg ⟨flat [(1, [(vi kd)]), (32, key.map vu8), (1, [(vi dm)]), (1, [(.slice qa qn qc)])]⟩), cv]) Try.func46 rfl rfl rfl ?_
 refine WP.seq (WP.reg ?_)
 refine WL.box (segs := [(1, [(vi kd)]), (32, key.map vu8), (1, [(vi dm)]), (1, [(.slice qa qn qc)])]) h_0 rfl rfl (sC sV (sC (s8 hq.1) (sC sV (sC sV sN)))) rfl (fun b_1 w_2 h_3 => ?_)
 refine WL.alloc (segs := [(32, (zB 32).map vu8)]) h_3 (zv typeInfo23 rfl) rfl (sC (s8 lr) sN) rfl (fun b_4 w_5 h_6 => ?_)
 refine WL.nil (thn_n (WP.seq (WP.reg ?_)))
 refine qV rfl (R.fieldAddr (off' := 0) rfl underlying56 rfl sizeOf52 rfl rfl) (qV rfl (R.load1 rfl isAgg52 (h_6.ok _ M1) Sg.h) (qV rfl (R.fieldAddr (off' := 1) rfl underlying56 rfl sizeOf23 rfl rfl) (qV rfl (R.loadA [(1, [(vi kd)])] [(32, key.map vu8)] [(1, [(vi dm)]), (1, [(.slice qa qn qc)])] (cs := key.map vu8) rfl isAgg23 sizeOf23 (h_6.ok _ M1) rfl rfl rfl rfl) (qV rfl (R.fieldAddr (off' := 33) rfl underlying56 rfl sizeOf53 rfl rfl) (qV rfl (R.load1 rfl isAgg53 (h_6.ok _ M1) (Sg.t rfl (Sg.t rfl Sg.h))) (qV rfl (R.fieldAddr (off' := 34) rfl underlying56 rfl sizeOf54 rfl rfl) (qV rfl (R.load1 rfl isAgg54 (h_6.ok _ M1) (Sg.t rfl (Sg.t rfl (Sg.t rfl Sg.h)))) (qV rfl (R.toStr (bs := data) rfl underlying54 underlying5 underlying9 (viewV (h_6.ok _ M7)) hdl) (qV rfl (R.buildS (pl := [(0, 1), (1, 32), (33, 1), (34, 1)]) (zs := [(1, [(vi 0)]), (32, (zB 32).map vu8), (1, [(vi 0)]), (1, [(.string (bstr ([] : List UInt8)))])]) (vs := [(0, (vi kd)), (1, (.agg ⟨key.map vu8⟩)), (2, (vi dm)), (3, (.string (bstr data)))]) (out := [(1, [(vi kd)]), (32, key.map vu8), (1, [(vi dm)]), (1, [(.string (bstr data))])]) underlying118 (zv typeInfo118 rfl) rfl (sC sV (sC (s8 lr) (sC sV (sC sV sN)))) (pl118 _ underlying118) rfl (FillR.cons [] [(1, [(vi 0)])] [(1, [(vi kd)])] [(32, (zB 32).map vu8), (1, [(vi 0)]), (1, [(.string (bstr ([] : List UInt8)))])] rfl rfl rfl rfl (sC sV sN) rfl rfl rfl (FillR.cons [(1, [(vi kd)])] [(32, (zB 32).map vu8)] [(32, key.map vu8)] [(1, [(vi 0)]), (1, [(.string (bstr ([] : List UInt8)))])] rfl rfl rfl rfl (sC (s8 hq.1) sN) rfl rfl rfl (FillR.cons [(1, [(vi kd)]), (32, key.map vu8)] [(1, [(vi 0)])] [(1, [(vi dm)])] [(1, [(.string (bstr ([] : List UInt8)))])] rfl rfl rfl rfl (sC sV sN) rfl rfl rfl (FillR.cons [(1, [(vi kd)]), (32, key.map vu8), (1, [(vi dm)])] [(1, [(.string (bstr ([] : List UInt8)))])] [(1, [(.string (bstr data))])] [] rfl rfl rfl rfl (sC sV sN) rfl rfl rfl FillR.nil)))) rfl) ?_)))))))))
 refine WL.alloc (segs := [(1, [(vi 0)]), (32, (zB 32).map vu8), (1, [(vi 0)]), (1, [(.string (bstr ([] : List UInt8)))])]) h_6 (zv typeInfo118 rfl) rfl (sC sV (sC (s8 lr) (sC sV (sC sV sN)))) rfl (fun b_8 w_9 h_10 => ?_)
 refine WL.storeA [] [(1, [(vi 0)]), (32, (zB 32).map vu8), (1, [(vi 0)]), (1, [(.string (bstr ([] : List UInt8)))])] [(1, [(vi kd)]), (32, key.map vu8), (1, [(vi dm)]), (1, [(.string (bstr data))])] [] h_10 rfl rfl sizeOf118 At.h (by decide) rfl rfl rfl rfl rfl rfl (sC sV (sC (s8 hq.1) (sC sV (sC sV sN)))) (fun w_11 h_12 => ?_)
 refine WL.nil (thn_n (WP.seq (WP.seq ?_)))
 refine WP.drawT (SL w00.heap.size [.blk b_8 .nw 118 [(1, [(vi kd)]), (32, key.map vu8), (1, [(vi dm)]), (1, [(.string (bstr data))])], .blk b_4 .nw 23 [(32, (zB 32).map vu8)], .blk b_1 .nw 56 [(1, [(vi kd)]), (32, key.map vu8), (1, [(vi dm)]), (1, [(.slice qa qn qc)])], .blk ob .nw 90 [(1, [(.bool true)]), (32, ms.map vu8), (1, [(.slice da dn dc)]), (1, [(vn u)]), (1, [(.map (some mp))]), (1, [(.slice la lg.length lc)])], .row la lg.length lc 64 67 lx, .obj mp .nw (.map (mArr lg) lg.length), .pin (sblks lx) (fun w => Lgs w lx lg), .view da (df.map vu8), .view qa (data.map vu8)]) (.q 0 (.q 1 (.q 2 (.q 3 (.q 4 (.s 5 (.q 6 (.q 7 (.q 8 (.q 9 (.q 10 .nil))))))))))) (by kernel_rfl) (by kernel_rfl) rfl (by kernel_rfl) (fun w_13 hc_15 => (SL.cons ((h_12.same hc_15).ok _ M0) (SL.cons ((h_12.same hc_15).ok _ M1) (SL.cons ((h_12.same hc_15).ok _ M2) (SL.cons ((h_12.same hc_15).ok _ M3) (SL.cons ((h_12.same hc_15).ok _ M4) (SL.cons ((h_12.same hc_15).ok _ M5) (SL.cons ((h_12.same hc_15).ok _ M6) (SL.cons ((h_12.same hc_15).ok _ M7) (SL.cons ((h_12.same hc_15).ok _ M8) (SL.nil _ _))))))))))) (fun w_13 hc_15 => ?_)
 have h_14 := h_12.same hc_15
 refine qT rfl rfl (fun wq hS => R.move (v := (pO ob 0)) rfl) ?_
 refine qT rfl rfl (fun wq hS => R.nilCheck rfl) ?_
 refine qT rfl rfl (fun wq hS => R.fieldAddr (off' := 35) rfl underlying90 rfl sizeOf88 rfl rfl) ?_
 refine qT rfl rfl (fun wq hS => R.load1 rfl isAgg88 (hS _ M3) (Sg.t rfl (Sg.t rfl (Sg.t rfl (Sg.t rfl Sg.h))))) ?_
 refine qT rfl rfl (fun wq hS => R.loadA [] [(1, [(vi kd)]), (32, key.map vu8), (1, [(vi dm)]), (1, [(.string (bstr data))])] [] rfl isAgg118 sizeOf118 (hS _ M0) rfl rfl rfl rfl) ?_
 refine WT.s (oN rfl ?_)
 refine qV rfl (R.lookup (r := none) (z := (vi 0)) (v := (vi 0)) (ok := false) rfl rfl underlying88 (h_14.ok _ M5) (Ck.agg kt118 (by decide) ag118 (typQ (kd, key, dm, data) hq)) (log_miss kt118 (by decide) ag118 typQ hq hlo hfd) (zv typeInfo3 rfl) rfl rfl) ?_
 refine WL.nil ?_
 refine ⟨(N0_1_2_3_4_5_6_7_8 h_14.ok), ?_⟩
 refine qT rfl rfl (fun wq hS => R.move (v := (.tuple [(vi 0), (.bool false)].toArray)) rfl) ?_
 refine qT rfl rfl (fun wq hS => R.extract rfl rfl) ?_
 refine qT rfl rfl (fun wq hS => R.extract rfl rfl) ?_
 refine qT rfl rfl (fun wq hS => R.assign (v := (vi 0)) rfl) ?_
 refine qT rfl rfl (fun wq hS => R.assign (v := (.bool false)) rfl) ?_
 refine WT.nil (thn_n (WP.seq (WP.reg ?_)))
 refine qM (.bool false) rfl rfl ?_
 refine WL.nil (thn_n ?_)
 refine WP.condF rfl ?_
 refine WP.skip (thn_n (WP.seq (WP.reg ?_)))
 refine WL.alloc (segs := [(32, (zB 32).map vu8)]) h_14 (zv typeInfo23 rfl) rfl (sC (s8 lr) sN) rfl (fun b_16 w_17 h_18 => ?_)
 refine WL.nil (thn_n (WP.seq (WP.seq (WP.reg ?_))))
 refine qM (pO ob 0) rfl rfl (qV rfl (R.nilCheck rfl) (qV rfl (R.fieldAddr (off' := 0) rfl underlying90 rfl sizeOf4 rfl rfl) (qV rfl (R.load1 rfl isAgg4 (h_18.ok _ M4) Sg.h) ?_)))
 refine WL.nil (thn_n ?_)
 refine WP.condT rfl ?_
 refine WP.reg ?_
 refine qM (pO ob 0) rfl rfl ?_
 have h_20 := (h_18.up J8).up J5
 refine WL.call Try.call64 rfl rfl (c_draw true ob mp ms df hms da dn dc u hdf la lc lx lg (by omega) (by omega) _ h_20) rfl ?_
 rintro _ w_21 ⟨rfl, h_22⟩
 refine WL.storeA [] [(32, (zB 32).map vu8)] [(32, (drawF df dn u).map vu8)] [] h_22 rfl rfl sizeOf23 Y2 (by decide) rfl rfl rfl rfl rfl rfl (sC (s8 (drawF_len hdf)) sN) (fun w_23 h_24 => ?_)
 refine WL.nil (thn_n (WP.seq (WP.reg ?_)))
 refine qV rfl (R.fieldAddr (off' := 34) rfl underlying56 rfl sizeOf54 rfl rfl) (qV rfl (R.load1 rfl isAgg54 (h_24.ok _ M5) (Sg.t rfl (Sg.t rfl (Sg.t rfl Sg.h)))) ?_)
 refine WL.call Try.call53 rfl rfl (c_Clone qa qn qc data hdl (by omega) _ (viewV (h_24.ok _ M9))) rfl ?_
 rintro _ w_27 ⟨a_25, cap_26, rfl, hc_28, ho_29⟩
 have h_30 := h_24.gotRow hc_28 ho_29
 refine qV rfl (R.fieldAddr (off' := 34) rfl underlying56 rfl sizeOf54 rfl rfl) ?_
 refine WL.store1 h_30 rfl rfl sizeOf54 rfl Y6 (by decide) (Sg.t rfl (Sg.t rfl (Sg.t rfl Sg.h))) (fun w_31 h_32 => ?_)
 refine WL.nil (thn_n (WP.seq ?_))
 refine WP.drawT (SL w00.heap.size [.row a_25 qn cap_26 5 1 (data.map vu8), .blk ob .nw 90 [(1, [(.bool true)]), (32, ms.map vu8), (1, [(.slice da dn dc)]), (1, [(vn ((u + 1)))]), (1, [(.map (some mp))]), (1, [(.slice la lg.length lc)])], .view da (df.map vu8), .blk b_16 .nw 23 [(32, (drawF df dn u).map vu8)], .blk b_8 .nw 118 [(1, [(vi kd)]), (32, key.map vu8), (1, [(vi dm)]), (1, [(.string (bstr data))])], .blk b_4 .nw 23 [(32, (zB 32).map vu8)], .blk b_1 .nw 56 [(1, [(vi kd)]), (32, key.map vu8), (1, [(vi dm)]), (1, [(.slice a_25 qn cap_26)])], .row la lg.length lc 64 67 lx, .pin (sblks lx) (fun w => Lgs w lx lg), .view qa (data.map vu8)]) (.q 0 (.q 1 (.q 2 (.q 3 (.q 4 (.q 5 (.q 6 (.q 7 (.q 8 (.q 9 (.s 10 .nil))))))))))) (by kernel_rfl) (by kernel_rfl) rfl (by kernel_rfl) (fun w_33 hc_35 => (SL.cons ((h_32.same hc_35).ok _ M0) (SL.cons ((h_32.same hc_35).ok _ M1) (SL.cons ((h_32.same hc_35).ok _ M2) (SL.cons ((h_32.same hc_35).ok _ M3) (SL.cons ((h_32.same hc_35).ok _ M4) (SL.cons ((h_32.same hc_35).ok _ M5) (SL.cons ((h_32.same hc_35).ok _ M6) (SL.cons ((h_32.same hc_35).ok _ M7) (SL.cons ((h_32.same hc_35).ok _ M9) (SL.cons ((h_32.same hc_35).ok _ M10) (SL.nil _ _)))))))))))) (fun w_33 hc_35 => ?_)
 have h_34 := h_32.same hc_35
 refine qT rfl rfl (fun wq hS => R.move (v := (pO ob 0)) rfl) ?_
 refine qT rfl rfl (fun wq hS => R.nilCheck rfl) ?_
 refine qT rfl rfl (fun wq hS => R.fieldAddr (off' := 35) rfl underlying90 rfl sizeOf88 rfl rfl) ?_
 refine qT rfl rfl (fun wq hS => R.load1 rfl isAgg88 (hS _ M1) (Sg.t rfl (Sg.t rfl (Sg.t rfl (Sg.t rfl Sg.h))))) ?_
 refine qT rfl rfl (fun wq hS => R.loadA [] [(1, [(vi kd)]), (32, key.map vu8), (1, [(vi dm)]), (1, [(.string (bstr data))])] [] rfl isAgg118 sizeOf118 (hS _ M4) rfl rfl rfl rfl) ?_
 refine qT rfl rfl (fun wq hS => R.move (v := (pO ob 0)) rfl) ?_
 refine qT rfl rfl (fun wq hS => R.nilCheck rfl) ?_
 refine qT rfl rfl (fun wq hS => R.fieldAddr (off' := 36) rfl underlying90 rfl sizeOf61 rfl rfl) ?_
 refine qT rfl rfl (fun wq hS => R.load1 rfl isAgg61 (hS _ M1) (Sg.t rfl (Sg.t rfl (Sg.t rfl (Sg.t rfl (Sg.t rfl Sg.h)))))) ?_
 refine qT rfl rfl (fun wq hS => R.lenS (a := la) (m := lg.length) rfl rfl underlying61) ?_
 refine WT.s (oN rfl ?_)
 refine WL.mapUpdate (k := (.agg ⟨flat [(1, [(vi kd)]), (32, key.map vu8), (1, [(vi dm)]), (1, [(.string (bstr data))])]⟩)) (v := (vn (lg.length))) h_34 rfl rfl rfl underlying88 Y8 (by decide) (Ck.agg kt118 (by decide) ag118 (typQ (kd, key, dm, data) hq)) (log_miss kt118 (by decide) ag118 typQ hq hlo hfd) (fun w_36 h_37 => ?_)
 refine WL.nil ?_
 refine ⟨(SL.cons (h_37.ok _ M0) (SL.cons (h_37.ok _ M1) (SL.cons (h_37.ok _ M2) (SL.cons (h_37.ok _ M3) (SL.cons (h_37.ok _ M4) (SL.cons (h_37.ok _ M5) (SL.cons (h_37.ok _ M6) (SL.cons (h_37.ok _ M7) (SL.cons (h_37.ok _ M9) (SL.cons (h_37.ok _ M10) (SL.nil _ _))))))))))), ?_⟩
 refine WT.nil (thn_n (WP.seq ?_))
 refine WP.cutG (G := Nat × Option Addr × Nat) [61, 62, 63, 64, 65, 66, 67, 68, 69, 70, 71, 72] (fun (bY11Y8Y0Y0, aY11Y9Y0Y0, cY11Y9Y0Y0) => [(61, (pO ob 0)), (62, (pO ob 0)), (63, (pO ob 0)), (64, (pO ob 36)), (66, (.agg ⟨flat [(1, [(vi kd)]), (32, key.map vu8), (1, [(vi dm)]), (1, [(.slice a_25 qn cap_26)])]⟩)), (67, (.agg ⟨(drawF df dn u).map vu8⟩)), (68, (.agg ⟨flat [(1, [(vi kd)]), (32, key.map vu8), (1, [(vi dm)]), (1, [(.slice a_25 qn cap_26)]), (32, (drawF df dn u).map vu8)]⟩)), (65, (.slice la lg.length lc)), (69, (.slice (some ⟨bY11Y8Y0Y0, 0, none⟩) 1 1)), (70, (.slice aY11Y9Y0Y0 (lg.length + 1) cY11Y9Y0Y0)), (71, (pO ob 0)), (72, (pO ob 36))]) (fun (bY11Y8Y0Y0, aY11Y9Y0Y0, cY11Y9Y0Y0) w1 => HP w00 w1 (Ent.blk bY11Y8Y0Y0 .nw 64 [(67, aC (kd, key, dm, data) (.slice a_25 qn cap_26) (drawF df dn u))] :: Ent.row a_25 qn cap_26 5 1 (data.map vu8) :: Ent.blk ob .nw 90 [(1, [(.bool true)]), (32, ms.map vu8), (1, [(.slice da dn dc)]), (1, [(vn ((u + 1)))]), (1, [(.map (some mp))]), (1, [(.slice aY11Y9Y0Y0 (lg.length + 1) cY11Y9Y0Y0)])] :: Ent.view da (df.map vu8) :: Ent.blk b_16 .nw 23 [(32, (drawF df dn u).map vu8)] :: Ent.blk b_8 .nw 118 [(1, [(vi kd)]), (32, key.map vu8), (1, [(vi dm)]), (1, [(.string (bstr data))])] :: Ent.blk b_4 .nw 23 [(32, (zB 32).map vu8)] :: Ent.blk b_1 .nw 56 [(1, [(vi kd)]), (32, key.map vu8), (1, [(vi dm)]), (1, [(.slice a_25 qn cap_26)])] :: Ent.row aY11Y9Y0Y0 (lg.length + 1) cY11Y9Y0Y0 64 67 (lx ++ aC (kd, key, dm, data) (.slice a_25 qn cap_26) (drawF df dn u)) :: Ent.obj mp .nw (.map ((mArr lg).push { key := (.agg ⟨flat [(1, [(vi kd)]), (32, key.map vu8), (1, [(vi dm)]), (1, [(.string (bstr data))])]⟩), val := (vn (lg.length)), born := lg.length }) (lg.length + 1)) :: Ent.pin (sblks lx) (fun w => Lgs w lx lg) :: Ent.view qa (data.map vu8) :: L)) ?_ ?_
 ·refine WP.drawT (SL w00.heap.size [.row a_25 qn cap_26 5 1 (data.map vu8), .view da (df.map vu8), .blk b_16 .nw 23 [(32, (drawF df dn u).map vu8)], .blk b_8 .nw 118 [(1, [(vi kd)]), (32, key.map vu8), (1, [(vi dm)]), (1, [(.string (bstr data))])], .blk b_4 .nw 23 [(32, (zB 32).map vu8)], .blk b_1 .nw 56 [(1, [(vi kd)]), (32, key.map vu8), (1, [(vi dm)]), (1, [(.slice a_25 qn cap_26)])], .obj mp .nw (.map ((mArr lg).push { key := (.agg ⟨flat [(1, [(vi kd)]), (32, key.map vu8), (1, [(vi dm)]), (1, [(.string (bstr data))])]⟩), val := (vn (lg.length)), born := lg.length }) (lg.length + 1)), .pin (sblks lx) (fun w => Lgs w lx lg), .view qa (data.map vu8)]) (.q 0 (.q 1 (.q 2 (.q 3 (.q 5 (.q 6 (.q 7 (.s2 4 8 (.s 8 (.s 9 (.q 10 (.q 11 (.s 12 .nil))))) (.s 4 (.s 9 (.q 10 (.q 11 (.s 12 .nil))))))))))))) (by kernel_rfl) (by kernel_rfl) rfl (by kernel_rfl) (fun w_38 hc_40 => (SL.cons ((h_37.same hc_40).ok _ M0) (SL.cons ((h_37.same hc_40).ok _ M2) (SL.cons ((h_37.same hc_40).ok _ M3) (SL.cons ((h_37.same hc_40).ok _ M4) (SL.cons ((h_37.same hc_40).ok _ M5) (SL.cons ((h_37.same hc_40).ok _ M6) (SL.cons ((h_37.same hc_40).ok _ M8) (SL.cons ((h_37.same hc_40).ok _ M9) (SL.cons ((h_37.same hc_40).ok _ M10) (SL.nil _ _))))))))))) (fun w_38 hc_40 => ?_)
  have h_39 := h_37.same hc_40
  refine qT rfl rfl (fun wq hS => R.move (v := (pO ob 0)) rfl) ?_
  refine qT rfl rfl (fun wq hS => R.move (v := (pO ob 0)) rfl) ?_
  refine qT rfl rfl (fun wq hS => R.nilCheck rfl) ?_
  refine qT rfl rfl (fun wq hS => R.fieldAddr (off' := 36) rfl underlying90 rfl sizeOf61 rfl rfl) ?_
  refine qT rfl rfl (fun wq hS => R.loadA [] [(1, [(vi kd)]), (32, key.map vu8), (1, [(vi dm)]), (1, [(.slice a_25 qn cap_26)])] [] rfl isAgg56 sizeOf56 (hS _ M5) rfl rfl rfl rfl) ?_
  refine qT rfl rfl (fun wq hS => R.loadA [] [(32, (drawF df dn u).map vu8)] [] (cs := (drawF df dn u).map vu8) rfl isAgg23 sizeOf23 (hS _ M2) rfl rfl rfl rfl) ?_
  refine qT rfl rfl (fun wq hS => R.buildS (pl := [(0, 35), (35, 32)]) (zs := [(1, [(vi 0)]), (32, (zB 32).map vu8), (1, [(vi 0)]), (1, [(.slice none 0 0)]), (32, (zB 32).map vu8)]) (vs := [(0, (.agg ⟨flat [(1, [(vi kd)]), (32, key.map vu8), (1, [(vi dm)]), (1, [(.slice a_25 qn cap_26)])]⟩)), (1, (.agg ⟨(drawF df dn u).map vu8⟩))]) (out := [(1, [(vi kd)]), (32, key.map vu8), (1, [(vi dm)]), (1, [(.slice a_25 qn cap_26)]), (32, (drawF df dn u).map vu8)]) underlying64 (zv typeInfo64 rfl) rfl (sC sV (sC (s8 lr) (sC sV (sC sV (sC (s8 lr) sN))))) (pl64 _ underlying64) rfl (FillR.cons [] [(1, [(vi 0)]), (32, (zB 32).map vu8), (1, [(vi 0)]), (1, [(.slice none 0 0)])] [(1, [(vi kd)]), (32, key.map vu8), (1, [(vi dm)]), (1, [(.slice a_25 qn cap_26)])] [(32, (zB 32).map vu8)] rfl rfl rfl rfl (sC sV (sC (s8 hq.1) (sC sV (sC sV sN)))) rfl rfl rfl (FillR.cons [(1, [(vi kd)]), (32, key.map vu8), (1, [(vi dm)]), (1, [(.slice a_25 qn cap_26)])] [(32, (zB 32).map vu8)] [(32, (drawF df dn u).map vu8)] [] rfl rfl rfl rfl (sC (s8 (drawF_len hdf)) sN) rfl rfl rfl FillR.nil)) rfl) ?_
  refine WT.s2 ?_ ?_
  ·refine oN rfl ?_
   refine qV rfl (R.load1 rfl isAgg61 (h_39.ok _ M1) (Sg.t rfl (Sg.t rfl (Sg.t rfl (Sg.t rfl (Sg.t rfl Sg.h)))))) ?_
   refine WL.nil ?_
   refine ⟨(SL.cons (h_39.ok _ M0) (SL.cons (h_39.ok _ M2) (SL.cons (h_39.ok _ M3) (SL.cons (h_39.ok _ M4) (SL.cons (h_39.ok _ M5) (SL.cons (h_39.ok _ M6) (SL.cons (h_39.ok _ M8) (SL.cons (h_39.ok _ M9) (SL.cons (h_39.ok _ M10) (SL.nil _ _)))))))))), ?_⟩
   refine WT.s (oN rfl ?_)
   refine WL.buildSl (vs := [(0, (.agg ⟨flat [(1, [(vi kd)]), (32, key.map vu8), (1, [(vi dm)]), (1, [(.slice a_25 qn cap_26)]), (32, (drawF df dn u).map vu8)]⟩))]) (cs := aC (kd, key, dm, data) (.slice a_25 qn cap_26) (drawF df dn u)) h_39 underlying61 sizeOf64 (zv typeInfo64 rfl) rfl rfl (fill_1 (zc := flat [(1, [vi 0]), (32, List.replicate 32 (vu8 0)), (1, [vi 0]), (1, [.slice none 0 0]), (32, List.replicate 32 (vu8 0))]) (by kernel_rfl) (sC (s := (67, flat [(1, [vi 0]), (32, List.replicate 32 (vu8 0)), (1, [vi 0]), (1, [.slice none 0 0]), (32, List.replicate 32 (vu8 0))])) ⟨by decide, SsOk.one (sC sV (sC (SOk.rep rfl) (sC sV (sC sV (sC (SOk.rep rfl) sN)))))⟩ sN) (aC_ok (q := (kd, key, dm, data)) (s := (.slice a_25 qn cap_26)) (d := drawF df dn u) hq.1 (drawF_len hdf) rfl)) ((aC_ok (q := (kd, key, dm, data)) (s := (.slice a_25 qn cap_26)) (d := drawF df dn u) hq.1 (drawF_len hdf) rfl)).head.len ((aC_ok (q := (kd, key, dm, data)) (s := (.slice a_25 qn cap_26)) (d := drawF df dn u) hq.1 (drawF_len hdf) rfl)).head.one rfl rfl (fun b_42 w_43 h_44 => ?_)
   refine WL.nil ?_
   refine ⟨(N1_3_4_5_6_7_9_10_11 h_44.ok), ?_⟩
   refine WT.s (oN rfl ?_)
   refine WL.append (km := lg.length + 1) (xs := lx) (ys := aC (kd, key, dm, data) (.slice a_25 qn cap_26) (drawF df dn u)) (zs := lx ++ aC (kd, key, dm, data) (.slice a_25 qn cap_26) (drawF df dn u)) h_44 rfl rfl el61 (viewB (h_44.ok _ M0) Sg.h) ((aC_ok (q := (kd, key, dm, data)) (s := (.slice a_25 qn cap_26)) (d := drawF df dn u) hq.1 (drawF_len hdf) rfl)).head.len ((aC_ok (q := (kd, key, dm, data)) (s := (.slice a_25 qn cap_26)) (d := drawF df dn u) hq.1 (drawF_len hdf) rfl)).head.one rfl (by omega) (by omega) (by omega) (fun _ _ => Y8) rfl (fun a_45 c_46 w_47 h_48 => ?_)
   refine WL.nil ?_
   refine ⟨(N1_3_4_5_6_7_9_10_11 h_48.ok), ?_⟩
   refine qT rfl rfl (fun wq hS => R.nilCheck rfl) ?_
   refine qT rfl rfl (fun wq hS => R.fieldAddr (off' := 36) rfl underlying90 rfl sizeOf61 rfl rfl) ?_
   refine WT.s (oN rfl ?_)
   refine WL.store1 h_48 rfl rfl sizeOf61 rfl Y2 (by decide) (Sg.t rfl (Sg.t rfl (Sg.t rfl (Sg.t rfl (Sg.t rfl Sg.h))))) (fun w_49 h_50 => ?_)
   refine WL.nil ?_
   refine ⟨(N1_3_4_5_6_7_9_10_11 h_50.ok), ?_⟩
   refine WT.nil (thn_n ?_)
   exact ⟨(b_42, a_45, c_46), (U4 rfl rfl rfl rfl (U4 rfl rfl rfl rfl (U4 rfl rfl rfl rfl (Ag.refl _ _)))), ⟨rfl, rfl, rfl, rfl, rfl, rfl, rfl, rfl, rfl, rfl, rfl, rfl, trivial⟩, h_50⟩
  ·refine oN rfl ?_
   refine WL.buildSl (vs := [(0, (.agg ⟨flat [(1, [(vi kd)]), (32, key.map vu8), (1, [(vi dm)]), (1, [(.slice a_25 qn cap_26)]), (32, (drawF df dn u).map vu8)]⟩))]) (cs := aC (kd, key, dm, data) (.slice a_25 qn cap_26) (drawF df dn u)) h_39 underlying61 sizeOf64 (zv typeInfo64 rfl) rfl rfl (fill_1 (zc := flat [(1, [vi 0]), (32, List.replicate 32 (vu8 0)), (1, [vi 0]), (1, [.slice none 0 0]), (32, List.replicate 32 (vu8 0))]) (by kernel_rfl) (sC (s := (67, flat [(1, [vi 0]), (32, List.replicate 32 (vu8 0)), (1, [vi 0]), (1, [.slice none 0 0]), (32, List.replicate 32 (vu8 0))])) ⟨by decide, SsOk.one (sC sV (sC (SOk.rep rfl) (sC sV (sC sV (sC (SOk.rep rfl) sN)))))⟩ sN) (aC_ok (q := (kd, key, dm, data)) (s := (.slice a_25 qn cap_26)) (d := drawF df dn u) hq.1 (drawF_len hdf) rfl)) ((aC_ok (q := (kd, key, dm, data)) (s := (.slice a_25 qn cap_26)) (d := drawF df dn u) hq.1 (drawF_len hdf) rfl)).head.len ((aC_ok (q := (kd, key, dm, data)) (s := (.slice a_25 qn cap_26)) (d := drawF df dn u) hq.1 (drawF_len hdf) rfl)).head.one rfl rfl (fun b_51 w_52 h_53 => ?_)
   refine WL.nil ?_
   refine ⟨(N1_3_4_5_6_7_9_10_11 h_53.ok), ?_⟩
   refine WT.s (oN rfl ?_)
   refine qV rfl (R.load1 rfl isAgg61 (h_53.ok _ M2) (Sg.t rfl (Sg.t rfl (Sg.t rfl (Sg.t rfl (Sg.t rfl Sg.h)))))) ?_
   refine WL.nil ?_
   refine ⟨(N1_3_4_5_6_7_9_10_11 h_53.ok), ?_⟩
   refine WT.s (oN rfl ?_)
   refine WL.append (km := lg.length + 1) (xs := lx) (ys := aC (kd, key, dm, data) (.slice a_25 qn cap_26) (drawF df dn u)) (zs := lx ++ aC (kd, key, dm, data) (.slice a_25 qn cap_26) (drawF df dn u)) h_53 rfl rfl el61 (viewB (h_53.ok _ M0) Sg.h) ((aC_ok (q := (kd, key, dm, data)) (s := (.slice a_25 qn cap_26)) (d := drawF df dn u) hq.1 (drawF_len hdf) rfl)).head.len ((aC_ok (q := (kd, key, dm, data)) (s := (.slice a_25 qn cap_26)) (d := drawF df dn u) hq.1 (drawF_len hdf) rfl)).head.one rfl (by omega) (by omega) (by omega) (fun _ _ => Y8) rfl (fun a_54 c_55 w_56 h_57 => ?_)
   refine WL.nil ?_
   refine ⟨(N1_3_4_5_6_7_9_10_11 h_57.ok), ?_⟩
   refine qT rfl rfl (fun wq hS => R.nilCheck rfl) ?_
   refine qT rfl rfl (fun wq hS => R.fieldAddr (off' := 36) rfl underlying90 rfl sizeOf61 rfl rfl) ?_
   refine WT.s (oN rfl ?_)
   refine WL.store1 h_57 rfl rfl sizeOf61 rfl Y2 (by decide) (Sg.t rfl (Sg.t rfl (Sg.t rfl (Sg.t rfl (Sg.t rfl Sg.h))))) (fun w_58 h_59 => ?_)
   refine WL.nil ?_
   refine ⟨(N1_3_4_5_6_7_9_10_11 h_59.ok), ?_⟩
   refine WT.nil (thn_n ?_)
   exact ⟨(b_51, a_54, c_55), (U4 rfl rfl rfl rfl (U4 rfl rfl rfl rfl (U4 rfl rfl rfl rfl (Ag.refl _ _)))), ⟨rfl, rfl, rfl, rfl, rfl, rfl, rfl, rfl, rfl, rfl, rfl, rfl, trivial⟩, h_59⟩
 ·rintro ⟨b_63, a_64, c_65⟩ J_60 w_61 h_62
  refine thn_n (WP.seq (WP.reg ?_))
  refine qV rfl (R.loadA [] [(32, (drawF df dn u).map vu8)] [] (cs := (drawF df dn u).map vu8) rfl isAgg23 sizeOf23 (h_62.ok _ M4) rfl rfl rfl rfl) ?_
  refine WL.storeA [] [(32, (zB 32).map vu8)] [(32, (drawF df dn u).map vu8)] [] h_62 rfl rfl sizeOf23 Y6 (by decide) rfl rfl rfl rfl rfl rfl (sC (s8 (drawF_len hdf)) sN) (fun w_66 h_67 => ?_)
  refine WL.nil (thn_n (WP.ret ?_))
  refine ret_of results46 (RV.cell rfl (h_67.loadA (cs := (drawF df dn u).map vu8) isAgg23 sizeOf23 M6 rfl rfl) RV.nil) ?_
  have h_83 := (((((((((((((((h_67.drop rfl).up J3).drop rfl).up J3).drop rfl).up J3).drop rfl).up J3).drop rfl).up J6).up J3).up J5).up J5).up J5).up J6).up J6
  have h_84 := HP_logPush (q := (kd, key, dm, data)) (d := drawF df dn u) h_83 hq (drawF_len hdf) hdl
  have h_95 := (((((((((h_84.up J1).drop rfl).up J1).drop rfl).up J5).up J5).up J2).up J5).up J5).up J5
  have hse : lg.length + 1 = (lg ++ [((kd, key, dm, data), drawF df dn u)]).length := snoc_len.symm
  have hme := mArr_push lg (kd, key, dm, data) (drawF df dn u)
  have h_85 := h_95
  rw [hse] at h_85
  exact ⟨_, _, _, by rw [anD_miss hfd]; rfl, by rw [anU_miss hfd, anL_miss hfd]; show HP _ _ (_ :: _ :: .obj _ _ (.map (mArr (lg ++ [((kd, key, dm, data), drawF df dn u)])) _) :: _); rw [hme]; exact h_85⟩

theorem c_ans_missF {w00 : World} {L : List Ent} (ob mp : Nat) (ms df : List UInt8) (hms : ms.length = 32) (da : Option Addr) (dn dc u : Nat) (hdf : df.length = 32 * dn) (la : Option Addr) (lc : Nat) (lx : List Value) (lg : Lg) (hu : u ≤ 1000000) (hlg : lg.length ≤ 1000000) (kd dm : Int) (key data : List UInt8) (qa : Option Addr) (qn qc : Nat) (hq : okQ (kd, key, dm, data)) (hdl : data.length = qn) (bq : Nat) (hfd : fdq (kd, key, dm, data) lg 0 = none) (w : World) (h_0 : HP w00 w (Ent.blk ob .nw 90 [(1, [(.bool false)]), (32, ms.map vu8), (1, [(.slice da dn dc)]), (1, [(vi ((u : Nat) : Int))]), (1, [(.map (some mp))]), (1, [(.slice la lg.length lc)])] :: Ent.row la lg.length lc 64 67 lx :: Ent.obj mp .nw (.map (mArr lg) lg.length) :: Ent.pin (sblks lx) (fun w => Lgs w lx lg) :: Ent.view da (df.map vu8) :: Ent.view qa (data.map vu8) :: Ent.blk bq .nw 56 [(1, [(vi kd)]), (32, key.map vu8), (1, [(vi dm)]), (1, [(.slice qa qn qc)])] :: L)) :
  Cs Try.prog 46 [(.pointer (some ⟨ob, 0, none⟩)), (.agg ⟨flat [(1, [(vi kd)]), (32, key.map vu8), (1, [(vi dm)]), (1, [(.slice qa qn qc)])]⟩), (Value.func (Fn.func 47) [].toArray [(Value.pointer (some ⟨bq, 0, none⟩))].toArray)].toArray w (fun v w1 => ∃ la' lc' lx', v = (.agg ⟨(anD false df dn u lg (kd, key, dm, data)).map vu8⟩) ∧ HP w00 w1 (Ent.blk ob .nw 90 [(1, [(.bool false)]), (32, ms.map vu8), (1, [(.slice da dn dc)]), (1, [(vi (((anU false u lg (kd, key, dm, data)) : Nat) : Int))]), (1, [(.map (some mp))]), (1, [(.slice la' ((anL false df dn u lg (kd, key, dm, data)).length) lc')])] :: Ent.row la' ((anL false df dn u lg (kd, key, dm, data)).length) lc' 64 67 lx' :: Ent.obj mp .nw (.map (mArr (anL false df dn u lg (kd, key, dm, data))) ((anL false df dn u lg (kd, key, dm, data)).length)) :: Ent.pin (sblks lx') (fun w => Lgs w lx' (anL false df dn u lg (kd, key, dm, data))) :: Ent.view da (df.map vu8) :: Ent.view qa (data.map vu8) :: Ent.blk bq .nw 56 [(1, [(vi kd)]), (32, key.map vu8), (1, [(vi dm)]), (1, [(.slice qa qn qc)])] :: L)) := by
 have hlgs : Lgs w lx lg := (h_0.ok _ M3).1
 have hlo := hlgs.ok
 have hqn : data.length ≤ 1000000000 := hq.2.2.2
 refine Cs.of (n := 74) (args := [(pO ob 0), (.agg ⟨flat [(1, [(vi kd)]), (32, key.map vu8), (1, [(vi dm)]), (1, [(.slice qa qn qc)])]⟩), (Value.func (Fn.func 47) [].toArray [(Value.pointer (some ⟨bq, 0, none⟩))].toArray)]) Try.func46 rfl rfl rfl ?_
 refine WP.seq (WP.reg ?_)
 refine WL.box (segs := [(1, [(vi kd)]), (32, key.map vu8), (1, [(vi dm)]), (1, [(.slice qa qn qc)])]) h_0 rfl rfl (sC sV (sC (s8 hq.1) (sC sV (sC sV sN)))) rfl (fun b_1 w_2 h_3 => ?_)
 refine WL.alloc (segs := [(32, (zB 32).map vu8)]) h_3 (zv typeInfo23 rfl) rfl (sC (s8 lr) sN) rfl (fun b_4 w_5 h_6 => ?_)
 refine WL.nil (thn_n (WP.seq (WP.reg ?_)))
 refine qV rfl (R.fieldAddr (off' := 0) rfl underlying56 rfl sizeOf52 rfl rfl) (qV rfl (R.load1 rfl isAgg52 (h_6.ok _ M1) Sg.h) (qV rfl (R.fieldAddr (off' := 1) rfl underlying56 rfl sizeOf23 rfl rfl) (qV rfl (R.loadA [(1, [(vi kd)])] [(32, key.map vu8)] [(1, [(vi dm)]), (1, [(.slice qa qn qc)])] (cs := key.map vu8) rfl isAgg23 sizeOf23 (h_6.ok _ M1) rfl rfl rfl rfl) (qV rfl (R.fieldAddr (off' := 33) rfl underlying56 rfl sizeOf53 rfl rfl) (qV rfl (R.load1 rfl isAgg53 (h_6.ok _ M1) (Sg.t rfl (Sg.t rfl Sg.h))) (qV rfl (R.fieldAddr (off' := 34) rfl underlying56 rfl sizeOf54 rfl rfl) (qV rfl (R.load1 rfl isAgg54 (h_6.ok _ M1) (Sg.t rfl (Sg.t rfl (Sg.t rfl Sg.h)))) (qV rfl (R.toStr (bs := data) rfl underlying54 underlying5 underlying9 (viewV (h_6.ok _ M7)) hdl) (qV rfl (R.buildS (pl := [(0, 1), (1, 32), (33, 1), (34, 1)]) (zs := [(1, [(vi 0)]), (32, (zB 32).map vu8), (1, [(vi 0)]), (1, [(.string (bstr ([] : List UInt8)))])]) (vs := [(0, (vi kd)), (1, (.agg ⟨key.map vu8⟩)), (2, (vi dm)), (3, (.string (bstr data)))]) (out := [(1, [(vi kd)]), (32, key.map vu8), (1, [(vi dm)]), (1, [(.string (bstr data))])]) underlying118 (zv typeInfo118 rfl) rfl (sC sV (sC (s8 lr) (sC sV (sC sV sN)))) (pl118 _ underlying118) rfl (FillR.cons [] [(1, [(vi 0)])] [(1, [(vi kd)])] [(32, (zB 32).map vu8), (1, [(vi 0)]), (1, [(.string (bstr ([] : List UInt8)))])] rfl rfl rfl rfl (sC sV sN) rfl rfl rfl (FillR.cons [(1, [(vi kd)])] [(32, (zB 32).map vu8)] [(32, key.map vu8)] [(1, [(vi 0)]), (1, [(.string (bstr ([] : List UInt8)))])] rfl rfl rfl rfl (sC (s8 hq.1) sN) rfl rfl rfl (FillR.cons [(1, [(vi kd)]), (32, key.map vu8)] [(1, [(vi 0)])] [(1, [(vi dm)])] [(1, [(.string (bstr ([] : List UInt8)))])] rfl rfl rfl rfl (sC sV sN) rfl rfl rfl (FillR.cons [(1, [(vi kd)]), (32, key.map vu8), (1, [(vi dm)])] [(1, [(.string (bstr ([] : List UInt8)))])] [(1, [(.string (bstr data))])] [] rfl rfl rfl rfl (sC sV sN) rfl rfl rfl FillR.nil)))) rfl) ?_)))))))))
 refine WL.alloc (segs := [(1, [(vi 0)]), (32, (zB 32).map vu8), (1, [(vi 0)]), (1, [(.string (bstr ([] : List UInt8)))])]) h_6 (zv typeInfo118 rfl) rfl (sC sV (sC (s8 lr) (sC sV (sC sV sN)))) rfl (fun b_8 w_9 h_10 => ?_)
 refine WL.storeA [] [(1, [(vi 0)]), (32, (zB 32).map vu8), (1, [(vi 0)]), (1, [(.string (bstr ([] : List UInt8)))])] [(1, [(vi kd)]), (32, key.map vu8), (1, [(vi dm)]), (1, [(.string (bstr data))])] [] h_10 rfl rfl sizeOf118 At.h (by decide) rfl rfl rfl rfl rfl rfl (sC sV (sC (s8 hq.1) (sC sV (sC sV sN)))) (fun w_11 h_12 => ?_)
 refine WL.nil (thn_n (WP.seq (WP.seq ?_)))
 refine WP.drawT (SL w00.heap.size [.blk b_8 .nw 118 [(1, [(vi kd)]), (32, key.map vu8), (1, [(vi dm)]), (1, [(.string (bstr data))])], .blk b_4 .nw 23 [(32, (zB 32).map vu8)], .blk b_1 .nw 56 [(1, [(vi kd)]), (32, key.map vu8), (1, [(vi dm)]), (1, [(.slice qa qn qc)])], .blk ob .nw 90 [(1, [(.bool false)]), (32, ms.map vu8), (1, [(.slice da dn dc)]), (1, [(vn u)]), (1, [(.map (some mp))]), (1, [(.slice la lg.length lc)])], .row la lg.length lc 64 67 lx, .obj mp .nw (.map (mArr lg) lg.length), .pin (sblks lx) (fun w => Lgs w lx lg), .view da (df.map vu8), .view qa (data.map vu8), .blk bq .nw 56 [(1, [(vi kd)]), (32, key.map vu8), (1, [(vi dm)]), (1, [(.slice qa qn qc)])]]) (.q 0 (.q 1 (.q 2 (.q 3 (.q 4 (.s 5 (.q 6 (.q 7 (.q 8 (.q 9 (.q 10 .nil))))))))))) (by kernel_rfl) (by kernel_rfl) rfl (by kernel_rfl) (fun w_13 hc_15 => (SL.cons ((h_12.same hc_15).ok _ M0) (SL.cons ((h_12.same hc_15).ok _ M1) (SL.cons ((h_12.same hc_15).ok _ M2) (SL.cons ((h_12.same hc_15).ok _ M3) (SL.cons ((h_12.same hc_15).ok _ M4) (SL.cons ((h_12.same hc_15).ok _ M5) (SL.cons ((h_12.same hc_15).ok _ M6) (SL.cons ((h_12.same hc_15).ok _ M7) (SL.cons ((h_12.same hc_15).ok _ M8) (SL.cons ((h_12.same hc_15).ok _ M9) (SL.nil _ _)))))))))))) (fun w_13 hc_15 => ?_)
 have h_14 := h_12.same hc_15
 refine qT rfl rfl (fun wq hS => R.move (v := (pO ob 0)) rfl) ?_
 refine qT rfl rfl (fun wq hS => R.nilCheck rfl) ?_
 refine qT rfl rfl (fun wq hS => R.fieldAddr (off' := 35) rfl underlying90 rfl sizeOf88 rfl rfl) ?_
 refine qT rfl rfl (fun wq hS => R.load1 rfl isAgg88 (hS _ M3) (Sg.t rfl (Sg.t rfl (Sg.t rfl (Sg.t rfl Sg.h))))) ?_
 refine qT rfl rfl (fun wq hS => R.loadA [] [(1, [(vi kd)]), (32, key.map vu8), (1, [(vi dm)]), (1, [(.string (bstr data))])] [] rfl isAgg118 sizeOf118 (hS _ M0) rfl rfl rfl rfl) ?_
 refine WT.s (oN rfl ?_)
 refine qV rfl (R.lookup (r := none) (z := (vi 0)) (v := (vi 0)) (ok := false) rfl rfl underlying88 (h_14.ok _ M5) (Ck.agg kt118 (by decide) ag118 (typQ (kd, key, dm, data) hq)) (log_miss kt118 (by decide) ag118 typQ hq hlo hfd) (zv typeInfo3 rfl) rfl rfl) ?_
 refine WL.nil ?_
 refine ⟨(N0_1_2_3_4_5_6_7_8_9 h_14.ok), ?_⟩
 refine qT rfl rfl (fun wq hS => R.move (v := (.tuple [(vi 0), (.bool false)].toArray)) rfl) ?_
 refine qT rfl rfl (fun wq hS => R.extract rfl rfl) ?_
 refine qT rfl rfl (fun wq hS => R.extract rfl rfl) ?_
 refine qT rfl rfl (fun wq hS => R.assign (v := (vi 0)) rfl) ?_
 refine qT rfl rfl (fun wq hS => R.assign (v := (.bool false)) rfl) ?_
 refine WT.nil (thn_n (WP.seq (WP.reg ?_)))
 refine qM (.bool false) rfl rfl ?_
 refine WL.nil (thn_n ?_)
 refine WP.condF rfl ?_
 refine WP.skip (thn_n (WP.seq (WP.reg ?_)))
 refine WL.alloc (segs := [(32, (zB 32).map vu8)]) h_14 (zv typeInfo23 rfl) rfl (sC (s8 lr) sN) rfl (fun b_16 w_17 h_18 => ?_)
 refine WL.nil (thn_n (WP.seq (WP.seq (WP.reg ?_))))
 refine qM (pO ob 0) rfl rfl (qV rfl (R.nilCheck rfl) (qV rfl (R.fieldAddr (off' := 0) rfl underlying90 rfl sizeOf4 rfl rfl) (qV rfl (R.load1 rfl isAgg4 (h_18.ok _ M4) Sg.h) ?_)))
 refine WL.nil (thn_n ?_)
 refine WP.condF rfl ?_
 refine WP.reg ?_
 refine qM (Value.func (Fn.func 47) [].toArray [(Value.pointer (some ⟨bq, 0, none⟩))].toArray) rfl rfl ?_
 refine WL.call Try.call47 rfl rfl (c_oCl kd dm key data qa qn qc hq hdl bq _ (viewV (h_18.ok _ M9)) (h_18.argR M10)) rfl ?_
 rintro _ w_20 ⟨rfl, hc_19⟩
 have h_21 := h_18.same hc_19
 refine WL.storeA [] [(32, (zB 32).map vu8)] [(32, (cF (kd, key, dm, data)).map vu8)] [] h_21 rfl rfl sizeOf23 At.h (by decide) rfl rfl rfl rfl rfl rfl (sC (s8 (cF_len _)) sN) (fun w_22 h_23 => ?_)
 refine WL.nil (thn_n (WP.seq (WP.reg ?_)))
 refine qV rfl (R.fieldAddr (off' := 34) rfl underlying56 rfl sizeOf54 rfl rfl) (qV rfl (R.load1 rfl isAgg54 (h_23.ok _ M3) (Sg.t rfl (Sg.t rfl (Sg.t rfl Sg.h)))) ?_)
 refine WL.call Try.call53 rfl rfl (c_Clone qa qn qc data hdl (by omega) _ (viewV (h_23.ok _ M9))) rfl ?_
 rintro _ w_26 ⟨a_24, cap_25, rfl, hc_27, ho_28⟩
 have h_29 := h_23.gotRow hc_27 ho_28
 refine qV rfl (R.fieldAddr (off' := 34) rfl underlying56 rfl sizeOf54 rfl rfl) ?_
 refine WL.store1 h_29 rfl rfl sizeOf54 rfl Y4 (by decide) (Sg.t rfl (Sg.t rfl (Sg.t rfl Sg.h))) (fun w_30 h_31 => ?_)
 refine WL.nil (thn_n (WP.seq ?_))
 refine WP.drawT (SL w00.heap.size [.row a_24 qn cap_25 5 1 (data.map vu8), .blk b_16 .nw 23 [(32, (cF (kd, key, dm, data)).map vu8)], .blk b_8 .nw 118 [(1, [(vi kd)]), (32, key.map vu8), (1, [(vi dm)]), (1, [(.string (bstr data))])], .blk b_4 .nw 23 [(32, (zB 32).map vu8)], .blk b_1 .nw 56 [(1, [(vi kd)]), (32, key.map vu8), (1, [(vi dm)]), (1, [(.slice a_24 qn cap_25)])], .blk ob .nw 90 [(1, [(.bool false)]), (32, ms.map vu8), (1, [(.slice da dn dc)]), (1, [(vn u)]), (1, [(.map (some mp))]), (1, [(.slice la lg.length lc)])], .row la lg.length lc 64 67 lx, .pin (sblks lx) (fun w => Lgs w lx lg), .view da (df.map vu8), .view qa (data.map vu8), .blk bq .nw 56 [(1, [(vi kd)]), (32, key.map vu8), (1, [(vi dm)]), (1, [(.slice qa qn qc)])]]) (.q 0 (.q 1 (.q 2 (.q 3 (.q 4 (.q 5 (.q 6 (.q 7 (.q 8 (.q 9 (.s 10 .nil))))))))))) (by kernel_rfl) (by kernel_rfl) rfl (by kernel_rfl) (fun w_32 hc_34 => (SL.cons ((h_31.same hc_34).ok _ M0) (SL.cons ((h_31.same hc_34).ok _ M1) (SL.cons ((h_31.same hc_34).ok _ M2) (SL.cons ((h_31.same hc_34).ok _ M3) (SL.cons ((h_31.same hc_34).ok _ M4) (SL.cons ((h_31.same hc_34).ok _ M5) (SL.cons ((h_31.same hc_34).ok _ M6) (SL.cons ((h_31.same hc_34).ok _ M8) (SL.cons ((h_31.same hc_34).ok _ M9) (SL.cons ((h_31.same hc_34).ok _ M10) (SL.cons ((h_31.same hc_34).ok _ M11) (SL.nil _ _))))))))))))) (fun w_32 hc_34 => ?_)
 have h_33 := h_31.same hc_34
 refine qT rfl rfl (fun wq hS => R.move (v := (pO ob 0)) rfl) ?_
 refine qT rfl rfl (fun wq hS => R.nilCheck rfl) ?_
 refine qT rfl rfl (fun wq hS => R.fieldAddr (off' := 35) rfl underlying90 rfl sizeOf88 rfl rfl) ?_
 refine qT rfl rfl (fun wq hS => R.load1 rfl isAgg88 (hS _ M5) (Sg.t rfl (Sg.t rfl (Sg.t rfl (Sg.t rfl Sg.h))))) ?_
 refine qT rfl rfl (fun wq hS => R.loadA [] [(1, [(vi kd)]), (32, key.map vu8), (1, [(vi dm)]), (1, [(.string (bstr data))])] [] rfl isAgg118 sizeOf118 (hS _ M2) rfl rfl rfl rfl) ?_
 refine qT rfl rfl (fun wq hS => R.move (v := (pO ob 0)) rfl) ?_
 refine qT rfl rfl (fun wq hS => R.nilCheck rfl) ?_
 refine qT rfl rfl (fun wq hS => R.fieldAddr (off' := 36) rfl underlying90 rfl sizeOf61 rfl rfl) ?_
 refine qT rfl rfl (fun wq hS => R.load1 rfl isAgg61 (hS _ M5) (Sg.t rfl (Sg.t rfl (Sg.t rfl (Sg.t rfl (Sg.t rfl Sg.h)))))) ?_
 refine qT rfl rfl (fun wq hS => R.lenS (a := la) (m := lg.length) rfl rfl underlying61) ?_
 refine WT.s (oN rfl ?_)
 refine WL.mapUpdate (k := (.agg ⟨flat [(1, [(vi kd)]), (32, key.map vu8), (1, [(vi dm)]), (1, [(.string (bstr data))])]⟩)) (v := (vn (lg.length))) h_33 rfl rfl rfl underlying88 Y7 (by decide) (Ck.agg kt118 (by decide) ag118 (typQ (kd, key, dm, data) hq)) (log_miss kt118 (by decide) ag118 typQ hq hlo hfd) (fun w_35 h_36 => ?_)
 refine WL.nil ?_
 refine ⟨(SL.cons (h_36.ok _ M0) (SL.cons (h_36.ok _ M1) (SL.cons (h_36.ok _ M2) (SL.cons (h_36.ok _ M3) (SL.cons (h_36.ok _ M4) (SL.cons (h_36.ok _ M5) (SL.cons (h_36.ok _ M6) (SL.cons (h_36.ok _ M8) (SL.cons (h_36.ok _ M9) (SL.cons (h_36.ok _ M10) (SL.cons (h_36.ok _ M11) (SL.nil _ _)))))))))))), ?_⟩
 refine WT.nil (thn_n (WP.seq ?_))
 refine WP.cutG (G := Nat × Option Addr × Nat) [61, 62, 63, 64, 65, 66, 67, 68, 69, 70, 71, 72] (fun (bY11Y8Y0Y0, aY11Y9Y0Y0, cY11Y9Y0Y0) => [(61, (pO ob 0)), (62, (pO ob 0)), (63, (pO ob 0)), (64, (pO ob 36)), (66, (.agg ⟨flat [(1, [(vi kd)]), (32, key.map vu8), (1, [(vi dm)]), (1, [(.slice a_24 qn cap_25)])]⟩)), (67, (.agg ⟨(cF (kd, key, dm, data)).map vu8⟩)), (68, (.agg ⟨flat [(1, [(vi kd)]), (32, key.map vu8), (1, [(vi dm)]), (1, [(.slice a_24 qn cap_25)]), (32, (cF (kd, key, dm, data)).map vu8)]⟩)), (65, (.slice la lg.length lc)), (69, (.slice (some ⟨bY11Y8Y0Y0, 0, none⟩) 1 1)), (70, (.slice aY11Y9Y0Y0 (lg.length + 1) cY11Y9Y0Y0)), (71, (pO ob 0)), (72, (pO ob 36))]) (fun (bY11Y8Y0Y0, aY11Y9Y0Y0, cY11Y9Y0Y0) w1 => HP w00 w1 (Ent.blk bY11Y8Y0Y0 .nw 64 [(67, aC (kd, key, dm, data) (.slice a_24 qn cap_25) (cF (kd, key, dm, data)))] :: Ent.row a_24 qn cap_25 5 1 (data.map vu8) :: Ent.blk b_16 .nw 23 [(32, (cF (kd, key, dm, data)).map vu8)] :: Ent.blk b_8 .nw 118 [(1, [(vi kd)]), (32, key.map vu8), (1, [(vi dm)]), (1, [(.string (bstr data))])] :: Ent.blk b_4 .nw 23 [(32, (zB 32).map vu8)] :: Ent.blk b_1 .nw 56 [(1, [(vi kd)]), (32, key.map vu8), (1, [(vi dm)]), (1, [(.slice a_24 qn cap_25)])] :: Ent.blk ob .nw 90 [(1, [(.bool false)]), (32, ms.map vu8), (1, [(.slice da dn dc)]), (1, [(vn u)]), (1, [(.map (some mp))]), (1, [(.slice aY11Y9Y0Y0 (lg.length + 1) cY11Y9Y0Y0)])] :: Ent.row aY11Y9Y0Y0 (lg.length + 1) cY11Y9Y0Y0 64 67 (lx ++ aC (kd, key, dm, data) (.slice a_24 qn cap_25) (cF (kd, key, dm, data))) :: Ent.obj mp .nw (.map ((mArr lg).push { key := (.agg ⟨flat [(1, [(vi kd)]), (32, key.map vu8), (1, [(vi dm)]), (1, [(.string (bstr data))])]⟩), val := (vn (lg.length)), born := lg.length }) (lg.length + 1)) :: Ent.pin (sblks lx) (fun w => Lgs w lx lg) :: Ent.view da (df.map vu8) :: Ent.view qa (data.map vu8) :: Ent.blk bq .nw 56 [(1, [(vi kd)]), (32, key.map vu8), (1, [(vi dm)]), (1, [(.slice qa qn qc)])] :: L)) ?_ ?_
 ·refine WP.drawT (SL w00.heap.size [.row a_24 qn cap_25 5 1 (data.map vu8), .blk b_16 .nw 23 [(32, (cF (kd, key, dm, data)).map vu8)], .blk b_8 .nw 118 [(1, [(vi kd)]), (32, key.map vu8), (1, [(vi dm)]), (1, [(.string (bstr data))])], .blk b_4 .nw 23 [(32, (zB 32).map vu8)], .blk b_1 .nw 56 [(1, [(vi kd)]), (32, key.map vu8), (1, [(vi dm)]), (1, [(.slice a_24 qn cap_25)])], .obj mp .nw (.map ((mArr lg).push { key := (.agg ⟨flat [(1, [(vi kd)]), (32, key.map vu8), (1, [(vi dm)]), (1, [(.string (bstr data))])]⟩), val := (vn (lg.length)), born := lg.length }) (lg.length + 1)), .pin (sblks lx) (fun w => Lgs w lx lg), .view da (df.map vu8), .view qa (data.map vu8), .blk bq .nw 56 [(1, [(vi kd)]), (32, key.map vu8), (1, [(vi dm)]), (1, [(.slice qa qn qc)])]]) (.q 0 (.q 1 (.q 2 (.q 3 (.q 5 (.q 6 (.q 7 (.s2 4 8 (.s 8 (.s 9 (.q 10 (.q 11 (.s 12 .nil))))) (.s 4 (.s 9 (.q 10 (.q 11 (.s 12 .nil))))))))))))) (by kernel_rfl) (by kernel_rfl) rfl (by kernel_rfl) (fun w_37 hc_39 => (SL.cons ((h_36.same hc_39).ok _ M0) (SL.cons ((h_36.same hc_39).ok _ M1) (SL.cons ((h_36.same hc_39).ok _ M2) (SL.cons ((h_36.same hc_39).ok _ M3) (SL.cons ((h_36.same hc_39).ok _ M4) (SL.cons ((h_36.same hc_39).ok _ M7) (SL.cons ((h_36.same hc_39).ok _ M8) (SL.cons ((h_36.same hc_39).ok _ M9) (SL.cons ((h_36.same hc_39).ok _ M10) (SL.cons ((h_36.same hc_39).ok _ M11) (SL.nil _ _)))))))))))) (fun w_37 hc_39 => ?_)
  have h_38 := h_36.same hc_39
  refine qT rfl rfl (fun wq hS => R.move (v := (pO ob 0)) rfl) ?_
  refine qT rfl rfl (fun wq hS => R.move (v := (pO ob 0)) rfl) ?_
  refine qT rfl rfl (fun wq hS => R.nilCheck rfl) ?_
  refine qT rfl rfl (fun wq hS => R.fieldAddr (off' := 36) rfl underlying90 rfl sizeOf61 rfl rfl) ?_
  refine qT rfl rfl (fun wq hS => R.loadA [] [(1, [(vi kd)]), (32, key.map vu8), (1, [(vi dm)]), (1, [(.slice a_24 qn cap_25)])] [] rfl isAgg56 sizeOf56 (hS _ M4) rfl rfl rfl rfl) ?_
  refine qT rfl rfl (fun wq hS => R.loadA [] [(32, (cF (kd, key, dm, data)).map vu8)] [] (cs := (cF (kd, key, dm, data)).map vu8) rfl isAgg23 sizeOf23 (hS _ M1) rfl rfl rfl rfl) ?_
  refine qT rfl rfl (fun wq hS => R.buildS (pl := [(0, 35), (35, 32)]) (zs := [(1, [(vi 0)]), (32, (zB 32).map vu8), (1, [(vi 0)]), (1, [(.slice none 0 0)]), (32, (zB 32).map vu8)]) (vs := [(0, (.agg ⟨flat [(1, [(vi kd)]), (32, key.map vu8), (1, [(vi dm)]), (1, [(.slice a_24 qn cap_25)])]⟩)), (1, (.agg ⟨(cF (kd, key, dm, data)).map vu8⟩))]) (out := [(1, [(vi kd)]), (32, key.map vu8), (1, [(vi dm)]), (1, [(.slice a_24 qn cap_25)]), (32, (cF (kd, key, dm, data)).map vu8)]) underlying64 (zv typeInfo64 rfl) rfl (sC sV (sC (s8 lr) (sC sV (sC sV (sC (s8 lr) sN))))) (pl64 _ underlying64) rfl (FillR.cons [] [(1, [(vi 0)]), (32, (zB 32).map vu8), (1, [(vi 0)]), (1, [(.slice none 0 0)])] [(1, [(vi kd)]), (32, key.map vu8), (1, [(vi dm)]), (1, [(.slice a_24 qn cap_25)])] [(32, (zB 32).map vu8)] rfl rfl rfl rfl (sC sV (sC (s8 hq.1) (sC sV (sC sV sN)))) rfl rfl rfl (FillR.cons [(1, [(vi kd)]), (32, key.map vu8), (1, [(vi dm)]), (1, [(.slice a_24 qn cap_25)])] [(32, (zB 32).map vu8)] [(32, (cF (kd, key, dm, data)).map vu8)] [] rfl rfl rfl rfl (sC (s8 (cF_len _)) sN) rfl rfl rfl FillR.nil)) rfl) ?_
  refine WT.s2 ?_ ?_
  ·refine oN rfl ?_
   refine qV rfl (R.load1 rfl isAgg61 (h_38.ok _ M5) (Sg.t rfl (Sg.t rfl (Sg.t rfl (Sg.t rfl (Sg.t rfl Sg.h)))))) ?_
   refine WL.nil ?_
   refine ⟨(SL.cons (h_38.ok _ M0) (SL.cons (h_38.ok _ M1) (SL.cons (h_38.ok _ M2) (SL.cons (h_38.ok _ M3) (SL.cons (h_38.ok _ M4) (SL.cons (h_38.ok _ M7) (SL.cons (h_38.ok _ M8) (SL.cons (h_38.ok _ M9) (SL.cons (h_38.ok _ M10) (SL.cons (h_38.ok _ M11) (SL.nil _ _))))))))))), ?_⟩
   refine WT.s (oN rfl ?_)
   refine WL.buildSl (vs := [(0, (.agg ⟨flat [(1, [(vi kd)]), (32, key.map vu8), (1, [(vi dm)]), (1, [(.slice a_24 qn cap_25)]), (32, (cF (kd, key, dm, data)).map vu8)]⟩))]) (cs := aC (kd, key, dm, data) (.slice a_24 qn cap_25) (cF (kd, key, dm, data))) h_38 underlying61 sizeOf64 (zv typeInfo64 rfl) rfl rfl (fill_1 (zc := flat [(1, [vi 0]), (32, List.replicate 32 (vu8 0)), (1, [vi 0]), (1, [.slice none 0 0]), (32, List.replicate 32 (vu8 0))]) (by kernel_rfl) (sC (s := (67, flat [(1, [vi 0]), (32, List.replicate 32 (vu8 0)), (1, [vi 0]), (1, [.slice none 0 0]), (32, List.replicate 32 (vu8 0))])) ⟨by decide, SsOk.one (sC sV (sC (SOk.rep rfl) (sC sV (sC sV (sC (SOk.rep rfl) sN)))))⟩ sN) (aC_ok (q := (kd, key, dm, data)) (s := (.slice a_24 qn cap_25)) (d := cF (kd, key, dm, data)) hq.1 (cF_len _) rfl)) ((aC_ok (q := (kd, key, dm, data)) (s := (.slice a_24 qn cap_25)) (d := cF (kd, key, dm, data)) hq.1 (cF_len _) rfl)).head.len ((aC_ok (q := (kd, key, dm, data)) (s := (.slice a_24 qn cap_25)) (d := cF (kd, key, dm, data)) hq.1 (cF_len _) rfl)).head.one rfl rfl (fun b_41 w_42 h_43 => ?_)
   refine WL.nil ?_
   refine ⟨(N1_2_3_4_5_8_9_10_11_12 h_43.ok), ?_⟩
   refine WT.s (oN rfl ?_)
   refine WL.append (km := lg.length + 1) (xs := lx) (ys := aC (kd, key, dm, data) (.slice a_24 qn cap_25) (cF (kd, key, dm, data))) (zs := lx ++ aC (kd, key, dm, data) (.slice a_24 qn cap_25) (cF (kd, key, dm, data))) h_43 rfl rfl el61 (viewB (h_43.ok _ M0) Sg.h) ((aC_ok (q := (kd, key, dm, data)) (s := (.slice a_24 qn cap_25)) (d := cF (kd, key, dm, data)) hq.1 (cF_len _) rfl)).head.len ((aC_ok (q := (kd, key, dm, data)) (s := (.slice a_24 qn cap_25)) (d := cF (kd, key, dm, data)) hq.1 (cF_len _) rfl)).head.one rfl (by omega) (by omega) (by omega) (fun _ _ => Y7) rfl (fun a_44 c_45 w_46 h_47 => ?_)
   refine WL.nil ?_
   refine ⟨(N1_2_3_4_5_8_9_10_11_12 h_47.ok), ?_⟩
   refine qT rfl rfl (fun wq hS => R.nilCheck rfl) ?_
   refine qT rfl rfl (fun wq hS => R.fieldAddr (off' := 36) rfl underlying90 rfl sizeOf61 rfl rfl) ?_
   refine WT.s (oN rfl ?_)
   refine WL.store1 h_47 rfl rfl sizeOf61 rfl Y6 (by decide) (Sg.t rfl (Sg.t rfl (Sg.t rfl (Sg.t rfl (Sg.t rfl Sg.h))))) (fun w_48 h_49 => ?_)
   refine WL.nil ?_
   refine ⟨(N1_2_3_4_5_8_9_10_11_12 h_49.ok), ?_⟩
   refine WT.nil (thn_n ?_)
   exact ⟨(b_41, a_44, c_45), (U4 rfl rfl rfl rfl (U4 rfl rfl rfl rfl (U4 rfl rfl rfl rfl (Ag.refl _ _)))), ⟨rfl, rfl, rfl, rfl, rfl, rfl, rfl, rfl, rfl, rfl, rfl, rfl, trivial⟩, h_49⟩
  ·refine oN rfl ?_
   refine WL.buildSl (vs := [(0, (.agg ⟨flat [(1, [(vi kd)]), (32, key.map vu8), (1, [(vi dm)]), (1, [(.slice a_24 qn cap_25)]), (32, (cF (kd, key, dm, data)).map vu8)]⟩))]) (cs := aC (kd, key, dm, data) (.slice a_24 qn cap_25) (cF (kd, key, dm, data))) h_38 underlying61 sizeOf64 (zv typeInfo64 rfl) rfl rfl (fill_1 (zc := flat [(1, [vi 0]), (32, List.replicate 32 (vu8 0)), (1, [vi 0]), (1, [.slice none 0 0]), (32, List.replicate 32 (vu8 0))]) (by kernel_rfl) (sC (s := (67, flat [(1, [vi 0]), (32, List.replicate 32 (vu8 0)), (1, [vi 0]), (1, [.slice none 0 0]), (32, List.replicate 32 (vu8 0))])) ⟨by decide, SsOk.one (sC sV (sC (SOk.rep rfl) (sC sV (sC sV (sC (SOk.rep rfl) sN)))))⟩ sN) (aC_ok (q := (kd, key, dm, data)) (s := (.slice a_24 qn cap_25)) (d := cF (kd, key, dm, data)) hq.1 (cF_len _) rfl)) ((aC_ok (q := (kd, key, dm, data)) (s := (.slice a_24 qn cap_25)) (d := cF (kd, key, dm, data)) hq.1 (cF_len _) rfl)).head.len ((aC_ok (q := (kd, key, dm, data)) (s := (.slice a_24 qn cap_25)) (d := cF (kd, key, dm, data)) hq.1 (cF_len _) rfl)).head.one rfl rfl (fun b_50 w_51 h_52 => ?_)
   refine WL.nil ?_
   refine ⟨(N1_2_3_4_5_8_9_10_11_12 h_52.ok), ?_⟩
   refine WT.s (oN rfl ?_)
   refine qV rfl (R.load1 rfl isAgg61 (h_52.ok _ M6) (Sg.t rfl (Sg.t rfl (Sg.t rfl (Sg.t rfl (Sg.t rfl Sg.h)))))) ?_
   refine WL.nil ?_
   refine ⟨(N1_2_3_4_5_8_9_10_11_12 h_52.ok), ?_⟩
   refine WT.s (oN rfl ?_)
   refine WL.append (km := lg.length + 1) (xs := lx) (ys := aC (kd, key, dm, data) (.slice a_24 qn cap_25) (cF (kd, key, dm, data))) (zs := lx ++ aC (kd, key, dm, data) (.slice a_24 qn cap_25) (cF (kd, key, dm, data))) h_52 rfl rfl el61 (viewB (h_52.ok _ M0) Sg.h) ((aC_ok (q := (kd, key, dm, data)) (s := (.slice a_24 qn cap_25)) (d := cF (kd, key, dm, data)) hq.1 (cF_len _) rfl)).head.len ((aC_ok (q := (kd, key, dm, data)) (s := (.slice a_24 qn cap_25)) (d := cF (kd, key, dm, data)) hq.1 (cF_len _) rfl)).head.one rfl (by omega) (by omega) (by omega) (fun _ _ => Y7) rfl (fun a_53 c_54 w_55 h_56 => ?_)
   refine WL.nil ?_
   refine ⟨(N1_2_3_4_5_8_9_10_11_12 h_56.ok), ?_⟩
   refine qT rfl rfl (fun wq hS => R.nilCheck rfl) ?_
   refine qT rfl rfl (fun wq hS => R.fieldAddr (off' := 36) rfl underlying90 rfl sizeOf61 rfl rfl) ?_
   refine WT.s (oN rfl ?_)
   refine WL.store1 h_56 rfl rfl sizeOf61 rfl Y6 (by decide) (Sg.t rfl (Sg.t rfl (Sg.t rfl (Sg.t rfl (Sg.t rfl Sg.h))))) (fun w_57 h_58 => ?_)
   refine WL.nil ?_
   refine ⟨(N1_2_3_4_5_8_9_10_11_12 h_58.ok), ?_⟩
   refine WT.nil (thn_n ?_)
   exact ⟨(b_50, a_53, c_54), (U4 rfl rfl rfl rfl (U4 rfl rfl rfl rfl (U4 rfl rfl rfl rfl (Ag.refl _ _)))), ⟨rfl, rfl, rfl, rfl, rfl, rfl, rfl, rfl, rfl, rfl, rfl, rfl, trivial⟩, h_58⟩
 ·rintro ⟨b_62, a_63, c_64⟩ J_59 w_60 h_61
  refine thn_n (WP.seq (WP.reg ?_))
  refine qV rfl (R.loadA [] [(32, (cF (kd, key, dm, data)).map vu8)] [] (cs := (cF (kd, key, dm, data)).map vu8) rfl isAgg23 sizeOf23 (h_61.ok _ M2) rfl rfl rfl rfl) ?_
  refine WL.storeA [] [(32, (zB 32).map vu8)] [(32, (cF (kd, key, dm, data)).map vu8)] [] h_61 rfl rfl sizeOf23 Y4 (by decide) rfl rfl rfl rfl rfl rfl (sC (s8 (cF_len _)) sN) (fun w_65 h_66 => ?_)
  refine WL.nil (thn_n (WP.ret ?_))
  refine ret_of results46 (RV.cell rfl (h_66.loadA (cs := (cF (kd, key, dm, data)).map vu8) isAgg23 sizeOf23 M4 rfl rfl) RV.nil) ?_
  have h_83 := ((((((((((((((((h_66.drop rfl).up J1).drop rfl).up J1).drop rfl).up J1).drop rfl).up J1).drop rfl).up J7).up J7).up J7).up J6).up J6).up J6).up J7).up J7
  have h_84 := HP_logPush (q := (kd, key, dm, data)) (d := cF (kd, key, dm, data)) h_83 hq (cF_len _) hdl
  have h_96 := ((((((((((h_84.up J1).drop rfl).up J1).drop rfl).up J6).up J6).up J6).up J3).up J6).up J6).up J6
  have hse : lg.length + 1 = (lg ++ [((kd, key, dm, data), cF (kd, key, dm, data))]).length := snoc_len.symm
  have hme := mArr_push lg (kd, key, dm, data) (cF (kd, key, dm, data))
  have h_85 := h_96
  rw [hse] at h_85
  exact ⟨_, _, _, by rw [anD_miss hfd]; rfl, by rw [anU_miss hfd, anL_miss hfd]; show HP _ _ (_ :: _ :: .obj _ _ (.map (mArr (lg ++ [((kd, key, dm, data), cF (kd, key, dm, data))])) _) :: _); rw [hme]; exact h_85⟩

theorem c_ansG {w00 : World} {L : List Ent} (id : Bool) (ob mp : Nat) (ms df : List UInt8) (hms : ms.length = 32) (da : Option Addr) (dn dc u : Nat) (hdf : df.length = 32 * dn) (la : Option Addr) (lc : Nat) (lx : List Value) (lg : Lg) (hu : u ≤ 1000000) (hlg : lg.length ≤ 1000000) (kd dm : Int) (key data : List UInt8) (qa : Option Addr) (qn qc : Nat) (hq : okQ (kd, key, dm, data)) (hdl : data.length = qn) (bq : Nat) (w : World) (h_0 : HP w00 w (Ent.blk ob .nw 90 [(1, [(.bool id)]), (32, ms.map vu8), (1, [(.slice da dn dc)]), (1, [(vi ((u : Nat) : Int))]), (1, [(.map (some mp))]), (1, [(.slice la lg.length lc)])] :: Ent.row la lg.length lc 64 67 lx :: Ent.obj mp .nw (.map (mArr lg) lg.length) :: Ent.pin (sblks lx) (fun w => Lgs w lx lg) :: Ent.view da (df.map vu8) :: Ent.view qa (data.map vu8) :: Ent.blk bq .nw 56 [(1, [(vi kd)]), (32, key.map vu8), (1, [(vi dm)]), (1, [(.slice qa qn qc)])] :: L)) :
  Cs Try.prog 46 [(.pointer (some ⟨ob, 0, none⟩)), (.agg ⟨flat [(1, [(vi kd)]), (32, key.map vu8), (1, [(vi dm)]), (1, [(.slice qa qn qc)])]⟩), (Value.func (Fn.func 47) [].toArray [(Value.pointer (some ⟨bq, 0, none⟩))].toArray)].toArray w (fun v w1 => ∃ la' lc' lx', v = (.agg ⟨(anD id df dn u lg (kd, key, dm, data)).map vu8⟩) ∧ HP w00 w1 (Ent.blk ob .nw 90 [(1, [(.bool id)]), (32, ms.map vu8), (1, [(.slice da dn dc)]), (1, [(vi (((anU id u lg (kd, key, dm, data)) : Nat) : Int))]), (1, [(.map (some mp))]), (1, [(.slice la' ((anL id df dn u lg (kd, key, dm, data)).length) lc')])] :: Ent.row la' ((anL id df dn u lg (kd, key, dm, data)).length) lc' 64 67 lx' :: Ent.obj mp .nw (.map (mArr (anL id df dn u lg (kd, key, dm, data))) ((anL id df dn u lg (kd, key, dm, data)).length)) :: Ent.pin (sblks lx') (fun w => Lgs w lx' (anL id df dn u lg (kd, key, dm, data))) :: Ent.view da (df.map vu8) :: Ent.view qa (data.map vu8) :: Ent.blk bq .nw 56 [(1, [(vi kd)]), (32, key.map vu8), (1, [(vi dm)]), (1, [(.slice qa qn qc)])] :: L)) := by
 cases hfd : fdq (kd, key, dm, data) lg 0 with
 | none => cases id with
  | true => exact c_ans_missT ob mp ms df hms da dn dc u hdf la lc lx lg hu hlg kd dm key data qa qn qc hq hdl _ hfd w h_0
  | false => exact c_ans_missF ob mp ms df hms da dn dc u hdf la lc lx lg hu hlg kd dm key data qa qn qc hq hdl bq hfd w h_0
 | some i => exact c_ans_hit id ob mp ms df hms da dn dc u hdf la lc lx lg hu hlg kd dm key data qa qn qc hq hdl _ i hfd w h_0
end Go.Proofs.Yteclkcpdclimnaa

namespace Go.Proofs.Yteclkcpdclimnaa
open Go.Proofs.Try
open Go.Vc Go.Orc Go.Sh Go.RowKit
set_option maxRecDepth 20000
theorem kt23 : Try.prog.keyTypeAt 2 23 = true := by kernel_rfl
theorem ag23 : aggB Try.prog 23 = true := by unfold aggB; rw [underlying23]
theorem c_othere (id : Bool) (ob mp : Nat) (ms : List UInt8) (hms : ms.length = 32) (da : Option Addr) (dn dc u : Nat) (la : Option Addr) (ln lc : Nat) (w : World) (hcb : (Ent.blk ob .ro 90 [(1, [(.bool id)]), (32, ms.map vu8), (1, [(.slice da dn dc)]), (1, [(vi ((u : Nat) : Int))]), (1, [(.map (some mp))]), (1, [(.slice la ln lc)])]).ok w.heap.size w) :
  Cs Try.prog 44 [(.pointer (some ⟨ob, 0, none⟩))].toArray w (fun v w1 => v = (.bool true) ∧ Chg w w1 []) := by
 refine Cs.of (n := 12) (args := [(pO ob 0)]) Try.func44 rfl rfl rfl ?_
 have h_0 := HP.init w
 have h_00 := h_0.old hcb (fun f hf => by cases hf)
 refine WP.seq (WP.reg ?_)
 refine qA (.bool false) rfl rfl ?_
 refine WL.nil (thn_n (WP.seq (WP.reg ?_)))
 refine qM (pO ob 0) rfl rfl (qV rfl (R.neNilP rfl rfl underlying32) (qM (.bool true) rfl rfl ?_))
 refine WL.want rfl rfl ?_
 refine qM (pO ob 0) rfl rfl ?_
 refine WL.want rfl rfl ?_
 refine qV rfl (R.nilCheck rfl) ?_
 refine WL.want rfl rfl ?_
 refine qV rfl (R.fieldAddr (off' := 35) rfl underlying90 rfl sizeOf88 rfl rfl) ?_
 refine WL.want rfl rfl ?_
 refine qV rfl (R.load1 rfl isAgg88 (h_00.ok _ M0) (Sg.t rfl (Sg.t rfl (Sg.t rfl (Sg.t rfl Sg.h))))) ?_
 refine WL.want rfl rfl ?_
 refine qV rfl (R.neNilM rfl rfl underlying88) (qV rfl (R.pickT (v := (.bool true)) rfl rfl) (qA (.bool true) rfl rfl ?_))
 refine WL.nil (thn_n (WP.ret ?_))
 refine ret_of results44 (RV.tmp (v := (.bool true)) rfl RV.nil) ?_
 exact ⟨rfl, h_00.chgS⟩

theorem c_may (kd dm : Int) (key : List UInt8) (qa : Option Addr) (qn qc : Nat) (hk : key.length = 32) (h1 : 1 ≤ kd ∧ kd ≤ 4) (h2 : 1 ≤ dm ∧ dm ≤ 16) (hz : kd = 1 → key = List.replicate 32 0) (w : World) :
  Cs Try.prog 45 [(.agg ⟨flat [(1, [(vi kd)]), (32, key.map vu8), (1, [(vi dm)]), (1, [(.slice qa qn qc)])]⟩)].toArray w (fun v w1 => v = (.bool true) ∧ Chg w w1 []) := by
 refine Cs.of (n := 32) (args := [(.agg ⟨flat [(1, [(vi kd)]), (32, key.map vu8), (1, [(vi dm)]), (1, [(.slice qa qn qc)])]⟩)]) Try.func45 rfl rfl rfl ?_
 have h_0 := HP.init w
 refine WP.seq (WP.reg ?_)
 refine WL.box (segs := [(1, [(vi kd)]), (32, key.map vu8), (1, [(vi dm)]), (1, [(.slice qa qn qc)])]) h_0 rfl rfl (sC sV (sC (s8 hk) (sC sV (sC sV sN)))) rfl (fun b_1 w_2 h_3 => ?_)
 refine qA (.bool false) rfl rfl ?_
 refine WL.nil (thn_n (WP.seq (WP.reg ?_)))
 refine qV rfl (R.fieldAddr (off' := 0) rfl underlying56 rfl sizeOf52 rfl rfl) (qV rfl (R.load1 rfl isAgg52 (h_3.ok _ M0) Sg.h) (qV rfl (R.bin rfl rfl (bi_geq (r := decide ((kd : Int) ≥ 1)) rfl)) (qM (.bool (decide ((kd : Int) ≥ 1))) rfl rfl ?_)))
 refine WL.want rfl (congrArg Value.bool (decide_eq_true (by omega))) ?_
 refine qV rfl (R.fieldAddr (off' := 0) rfl underlying56 rfl sizeOf52 rfl rfl) ?_
 refine WL.want rfl (congrArg Value.bool (decide_eq_true (by omega))) ?_
 refine qV rfl (R.load1 rfl isAgg52 (h_3.ok _ M0) Sg.h) ?_
 refine WL.want rfl (congrArg Value.bool (decide_eq_true (by omega))) ?_
 refine qV rfl (R.bin rfl rfl (bi_leq (r := decide ((kd : Int) ≤ 4)) rfl)) (qV rfl (R.pickT (v := (.bool (decide ((kd : Int) ≤ 4)))) (congrArg Value.bool (decide_eq_true (by omega))) rfl) (qM (.bool (decide ((kd : Int) ≤ 4))) rfl rfl ?_))
 refine WL.want rfl (congrArg Value.bool (decide_eq_true (by omega))) ?_
 refine qV rfl (R.fieldAddr (off' := 33) rfl underlying56 rfl sizeOf53 rfl rfl) ?_
 refine WL.want rfl (congrArg Value.bool (decide_eq_true (by omega))) ?_
 refine qV rfl (R.load1 rfl isAgg53 (h_3.ok _ M0) (Sg.t rfl (Sg.t rfl Sg.h))) ?_
 refine WL.want rfl (congrArg Value.bool (decide_eq_true (by omega))) ?_
 refine qV rfl (R.bin rfl rfl (bi_geq (r := decide ((dm : Int) ≥ 1)) rfl)) (qV rfl (R.pickT (v := (.bool (decide ((dm : Int) ≥ 1)))) (congrArg Value.bool (decide_eq_true (by omega))) rfl) (qM (.bool (decide ((dm : Int) ≥ 1))) rfl rfl ?_))
 refine WL.want rfl (congrArg Value.bool (decide_eq_true (by omega))) ?_
 refine qV rfl (R.fieldAddr (off' := 33) rfl underlying56 rfl sizeOf53 rfl rfl) ?_
 refine WL.want rfl (congrArg Value.bool (decide_eq_true (by omega))) ?_
 refine qV rfl (R.load1 rfl isAgg53 (h_3.ok _ M0) (Sg.t rfl (Sg.t rfl Sg.h))) ?_
 refine WL.want rfl (congrArg Value.bool (decide_eq_true (by omega))) ?_
 refine qV rfl (R.bin rfl rfl (bi_leq (r := decide ((dm : Int) ≤ 16)) rfl)) (qV rfl (R.pickT (v := (.bool (decide ((dm : Int) ≤ 16)))) (congrArg Value.bool (decide_eq_true (by omega))) rfl) (qM (.bool (decide ((dm : Int) ≤ 16))) rfl rfl ?_))
 refine WL.want rfl (congrArg Value.bool (decide_eq_true (by omega))) ?_
 refine qV rfl (R.fieldAddr (off' := 0) rfl underlying56 rfl sizeOf52 rfl rfl) ?_
 refine WL.want rfl (congrArg Value.bool (decide_eq_true (by omega))) ?_
 refine qV rfl (R.load1 rfl isAgg52 (h_3.ok _ M0) Sg.h) ?_
 refine WL.want rfl (congrArg Value.bool (decide_eq_true (by omega))) ?_
 refine qV rfl (R.bin rfl rfl (bi_neq (r := decide ((kd : Int) ≠ 1)) rfl)) ?_
 refine WL.want rfl (congrArg Value.bool (decide_eq_true (by omega))) ?_
 refine qM (.bool (decide ((kd : Int) ≠ 1))) rfl rfl ?_
 rcases Bool.eq_false_or_eq_true (decide ((kd : Int) ≠ 1)) with c_4 | c_4
 ·have p_5 := of_decide_eq_true c_4
  refine WL.skip rfl (congrArg Value.bool c_4) rfl ?_
  refine WL.skip rfl (congrArg Value.bool c_4) rfl ?_
  refine WL.skip rfl (congrArg Value.bool c_4) rfl ?_
  refine WL.skip rfl (congrArg Value.bool c_4) rfl ?_
  refine WL.want rfl (congrArg Value.bool (decide_eq_true (by omega))) ?_
  refine qV rfl (R.pickT (v := (.bool true)) (congrArg Value.bool c_4) rfl) (qV rfl (R.pickT (v := (.bool true)) (congrArg Value.bool (decide_eq_true (by omega))) rfl) (qA (.bool true) rfl rfl ?_))
  refine WL.nil (thn_n (WP.ret ?_))
  refine ret_of results45 (RV.tmp (v := (.bool true)) rfl RV.nil) ?_
  exact ⟨rfl, h_3.chgS⟩
 ·have p_6 := of_decide_eq_false c_4
  refine WL.want rfl (congrArg Value.bool c_4) ?_
  refine qV rfl (R.fieldAddr (off' := 1) rfl underlying56 rfl sizeOf23 rfl rfl) ?_
  refine WL.want rfl (congrArg Value.bool c_4) ?_
  refine qV rfl (R.loadA [(1, [(vi kd)])] [(32, key.map vu8)] [(1, [(vi dm)]), (1, [(.slice qa qn qc)])] (cs := key.map vu8) rfl isAgg23 sizeOf23 (h_3.ok _ M0) rfl rfl rfl rfl) ?_
  refine WL.want rfl (congrArg Value.bool c_4) ?_
  refine qV rfl (R.buildA (vs := []) (cs := (zB 32).map vu8) underlying23 sizeOf5 (zv typeInfo23 rfl) rfl rfl) ?_
  refine WL.want rfl (congrArg Value.bool c_4) ?_
  refine qV rfl (R.eqA (xs := key.map vu8) (ys := (zB 32).map vu8) (r := true) rfl rfl eqGuardType23 kt23 (by decide) ag23 (Typ.u8s underlying23 ce23 underlying5 ce5 hk) (Typ.u8s underlying23 ce23 underlying5 ce5 lr) (eqT (by rw [hz (by omega)]))) ?_
  refine WL.want rfl (congrArg Value.bool (decide_eq_true (by omega))) ?_
  refine qV rfl (R.pickF (v := (.bool true)) (congrArg Value.bool c_4) rfl) (qV rfl (R.pickT (v := (.bool true)) (congrArg Value.bool (decide_eq_true (by omega))) rfl) (qA (.bool true) rfl rfl ?_))
  refine WL.nil (thn_n (WP.ret ?_))
  refine ret_of results45 (RV.tmp (v := (.bool true)) rfl RV.nil) ?_
  exact ⟨rfl, h_3.chgS⟩

theorem c_may_0 (dm : Int) (key : List UInt8) (qa : Option Addr) (qn qc : Nat) (hk : key.length = 32) (w : World) :
  Cs Try.prog 45 [(.agg ⟨flat [(1, [(vi 0)]), (32, key.map vu8), (1, [(vi dm)]), (1, [(.slice qa qn qc)])]⟩)].toArray w (fun v w1 => v = (.bool false) ∧ Chg w w1 []) := by
 refine Cs.of (n := 32) (args := [(.agg ⟨flat [(1, [(vi 0)]), (32, key.map vu8), (1, [(vi dm)]), (1, [(.slice qa qn qc)])]⟩)]) Try.func45 rfl rfl rfl ?_
 have h_0 := HP.init w
 refine WP.seq (WP.reg ?_)
 refine WL.box (segs := [(1, [(vi 0)]), (32, key.map vu8), (1, [(vi dm)]), (1, [(.slice qa qn qc)])]) h_0 rfl rfl (sC sV (sC (s8 hk) (sC sV (sC sV sN)))) rfl (fun b_1 w_2 h_3 => ?_)
 refine qA (.bool false) rfl rfl ?_
 refine WL.nil (thn_n (WP.seq (WP.reg ?_)))
 refine qV rfl (R.fieldAddr (off' := 0) rfl underlying56 rfl sizeOf52 rfl rfl) (qV rfl (R.load1 rfl isAgg52 (h_3.ok _ M0) Sg.h) (qV rfl (R.bin rfl rfl (bi_geq (r := false) (by decide))) (qM (.bool false) rfl rfl ?_)))
 refine WL.skip rfl rfl rfl ?_
 refine WL.skip rfl rfl rfl ?_
 refine WL.skip rfl rfl rfl ?_
 refine qV rfl (R.pickF (v := (.bool false)) rfl rfl) (qM (.bool false) rfl rfl ?_)
 refine WL.skip rfl rfl rfl ?_
 refine WL.skip rfl rfl rfl ?_
 refine WL.skip rfl rfl rfl ?_
 refine qV rfl (R.pickF (v := (.bool false)) rfl rfl) (qM (.bool false) rfl rfl ?_)
 refine WL.skip rfl rfl rfl ?_
 refine WL.skip rfl rfl rfl ?_
 refine WL.skip rfl rfl rfl ?_
 refine qV rfl (R.pickF (v := (.bool false)) rfl rfl) (qM (.bool false) rfl rfl ?_)
 refine WL.skip rfl rfl rfl ?_
 refine WL.skip rfl rfl rfl ?_
 refine WL.skip rfl rfl rfl ?_
 refine WL.skip rfl rfl rfl ?_
 refine WL.skipU rfl rfl rfl ?_
 refine WL.skipU rfl rfl rfl ?_
 refine WL.skipU rfl rfl rfl ?_
 refine WL.skipU rfl rfl rfl ?_
 refine WL.skip rfl rfl rfl ?_
 refine qV rfl (R.pickF (v := (.bool false)) rfl rfl) (qA (.bool false) rfl rfl ?_)
 refine WL.nil (thn_n (WP.ret ?_))
 refine ret_of results45 (RV.tmp (v := (.bool false)) rfl RV.nil) ?_
 exact ⟨rfl, h_3.chgS⟩

theorem c_oAsk_0 (id : Bool) (ob mp : Nat) (ms : List UInt8) (hms : ms.length = 32) (da : Option Addr) (dn dc u : Nat) (la : Option Addr) (ln lc : Nat) (dm : Int) (key : List UInt8) (qa : Option Addr) (qn qc : Nat) (hk : key.length = 32) (w : World) (hcb : (Ent.blk ob .ro 90 [(1, [(.bool id)]), (32, ms.map vu8), (1, [(.slice da dn dc)]), (1, [(vi ((u : Nat) : Int))]), (1, [(.map (some mp))]), (1, [(.slice la ln lc)])]).ok w.heap.size w) :
  Cs Try.prog 23 [(.pointer (some ⟨ob, 0, none⟩)), (.agg ⟨flat [(1, [(vi 0)]), (32, key.map vu8), (1, [(vi dm)]), (1, [(.slice qa qn qc)])]⟩)].toArray w (fun v w1 => v = (.tuple [(.agg ⟨(List.replicate 32 (0 : UInt8)).map vu8⟩), (vi 2)].toArray) ∧ Chg w w1 []) := by
 refine Cs.of (n := 25) (args := [(pO ob 0), (.agg ⟨flat [(1, [(vi 0)]), (32, key.map vu8), (1, [(vi dm)]), (1, [(.slice qa qn qc)])]⟩)]) Try.func23 rfl rfl rfl ?_
 have h_0 := HP.init w
 have h_00 := h_0.old hcb (fun f hf => by cases hf)
 refine WP.seq (WP.reg ?_)
 refine WL.box (segs := [(1, [(vi 0)]), (32, key.map vu8), (1, [(vi dm)]), (1, [(.slice qa qn qc)])]) h_00 rfl rfl (sC sV (sC (s8 hk) (sC sV (sC sV sN)))) rfl (fun b_1 w_2 h_3 => ?_)
 refine WL.alloc (segs := [(32, (zB 32).map vu8)]) h_3 (zv typeInfo23 rfl) rfl (sC (s8 lr) sN) rfl (fun b_4 w_5 h_6 => ?_)
 refine qA (vi 0) rfl rfl ?_
 refine WL.nil (thn_n (WP.seq (WP.block (WP.seq (WP.reg ?_)))))
 refine qM (pO ob 0) rfl rfl ?_
 refine WL.call Try.call44 rfl rfl (c_othere id ob mp ms hms da dn dc u la ln lc _ (h_6.argR M2)) rfl ?_
 rintro _ w_8 ⟨rfl, hc_7⟩
 have h_9 := h_6.same hc_7
 refine qV rfl (R.not (b := true) rfl) (qA (.bool false) rfl rfl ?_)
 refine WL.nil (thn_n ?_)
 refine WP.condF rfl ?_
 refine WP.seq (WP.reg ?_)
 refine qV rfl (R.loadA [] [(1, [(vi 0)]), (32, key.map vu8), (1, [(vi dm)]), (1, [(.slice qa qn qc)])] [] rfl isAgg56 sizeOf56 (h_9.ok _ M1) rfl rfl rfl rfl) ?_
 refine WL.call Try.call45 rfl rfl (c_may_0 dm key qa qn qc hk _ ) rfl ?_
 rintro _ w_11 ⟨rfl, hc_10⟩
 have h_12 := h_9.same hc_10
 refine qV rfl (R.not (b := false) rfl) (qM (.bool true) rfl rfl ?_)
 refine WL.skip rfl rfl rfl ?_
 refine WL.skip rfl rfl rfl ?_
 refine WL.skip rfl rfl rfl ?_
 refine qV rfl (R.pickT (v := (.bool true)) rfl rfl) (qA (.bool true) rfl rfl ?_)
 refine WL.nil (thn_n ?_)
 refine WP.condT rfl ?_
 refine WP.seq (WP.reg ?_)
 refine qV rfl (R.buildA (vs := []) (cs := (zB 32).map vu8) underlying23 sizeOf5 (zv typeInfo23 rfl) rfl rfl) ?_
 refine WL.storeA [] [(32, (zB 32).map vu8)] [(32, (zB 32).map vu8)] [] h_12 rfl rfl sizeOf23 At.h (by decide) rfl rfl rfl rfl rfl rfl (sC (s8 lr) sN) (fun w_13 h_14 => ?_)
 refine qA (vi 2) rfl rfl ?_
 refine WL.nil (thn_n (WP.ret (inb_r (thn_r ?_))))
 refine ret_of results23 (RV.cell rfl (h_14.loadA (cs := (zB 32).map vu8) isAgg23 sizeOf23 M0 rfl rfl) (RV.tmp (v := (vi 2)) rfl RV.nil)) ?_
 exact ⟨rfl, h_14.chgS⟩

theorem c_oAsk {w00 : World} {L : List Ent} (id : Bool) (ob mp : Nat) (ms df : List UInt8) (hms : ms.length = 32) (da : Option Addr) (dn dc u : Nat) (hdf : df.length = 32 * dn) (la : Option Addr) (lc : Nat) (lx : List Value) (lg : Lg) (hu : u ≤ 1000000) (hlg : lg.length ≤ 1000000) (kd dm : Int) (key data : List UInt8) (qa : Option Addr) (qn qc : Nat) (hq : okQ (kd, key, dm, data)) (hdl : data.length = qn) (hk4 : ¬ kd = 4) (hz : kd = 1 → key = List.replicate 32 0) (w : World) (h_0 : HP w00 w (Ent.blk ob .nw 90 [(1, [(.bool id)]), (32, ms.map vu8), (1, [(.slice da dn dc)]), (1, [(vi ((u : Nat) : Int))]), (1, [(.map (some mp))]), (1, [(.slice la lg.length lc)])] :: Ent.row la lg.length lc 64 67 lx :: Ent.obj mp .nw (.map (mArr lg) lg.length) :: Ent.pin (sblks lx) (fun w => Lgs w lx lg) :: Ent.view da (df.map vu8) :: Ent.view qa (data.map vu8) :: L)) :
  Cs Try.prog 23 [(.pointer (some ⟨ob, 0, none⟩)), (.agg ⟨flat [(1, [(vi kd)]), (32, key.map vu8), (1, [(vi dm)]), (1, [(.slice qa qn qc)])]⟩)].toArray w (fun v w1 => ∃ la' lc' lx', v = (.tuple [(.agg ⟨(anD id df dn u lg (kd, key, dm, data)).map vu8⟩), (vi 0)].toArray) ∧ HP w00 w1 (Ent.blk ob .nw 90 [(1, [(.bool id)]), (32, ms.map vu8), (1, [(.slice da dn dc)]), (1, [(vi (((anU id u lg (kd, key, dm, data)) : Nat) : Int))]), (1, [(.map (some mp))]), (1, [(.slice la' ((anL id df dn u lg (kd, key, dm, data)).length) lc')])] :: Ent.row la' ((anL id df dn u lg (kd, key, dm, data)).length) lc' 64 67 lx' :: Ent.obj mp .nw (.map (mArr (anL id df dn u lg (kd, key, dm, data))) ((anL id df dn u lg (kd, key, dm, data)).length)) :: Ent.pin (sblks lx') (fun w => Lgs w lx' (anL id df dn u lg (kd, key, dm, data))) :: Ent.view da (df.map vu8) :: Ent.view qa (data.map vu8) :: L)) := by
 refine Cs.of (n := 25) (args := [(pO ob 0), (.agg ⟨flat [(1, [(vi kd)]), (32, key.map vu8), (1, [(vi dm)]), (1, [(.slice qa qn qc)])]⟩)]) Try.func23 rfl rfl rfl ?_
 refine WP.seq (WP.reg ?_)
 refine WL.box (segs := [(1, [(vi kd)]), (32, key.map vu8), (1, [(vi dm)]), (1, [(.slice qa qn qc)])]) h_0 rfl rfl (sC sV (sC (s8 hq.1) (sC sV (sC sV sN)))) rfl (fun b_1 w_2 h_3 => ?_)
 refine WL.alloc (segs := [(32, (zB 32).map vu8)]) h_3 (zv typeInfo23 rfl) rfl (sC (s8 lr) sN) rfl (fun b_4 w_5 h_6 => ?_)
 refine qA (vi 0) rfl rfl ?_
 refine WL.nil (thn_n (WP.seq (WP.block (WP.seq (WP.reg ?_)))))
 refine qM (pO ob 0) rfl rfl ?_
 refine WL.call Try.call44 rfl rfl (c_othere id ob mp ms hms da dn dc u la lg.length lc _ (h_6.argR M2)) rfl ?_
 rintro _ w_8 ⟨rfl, hc_7⟩
 have h_9 := h_6.same hc_7
 refine qV rfl (R.not (b := true) rfl) (qA (.bool false) rfl rfl ?_)
 refine WL.nil (thn_n ?_)
 refine WP.condF rfl ?_
 refine WP.seq (WP.reg ?_)
 refine qV rfl (R.loadA [] [(1, [(vi kd)]), (32, key.map vu8), (1, [(vi dm)]), (1, [(.slice qa qn qc)])] [] rfl isAgg56 sizeOf56 (h_9.ok _ M1) rfl rfl rfl rfl) ?_
 refine WL.call Try.call45 rfl rfl (c_may kd dm key qa qn qc hq.1 (hq.2.1) (hq.2.2.1) hz _ ) rfl ?_
 rintro _ w_11 ⟨rfl, hc_10⟩
 have h_12 := h_9.same hc_10
 refine qV rfl (R.not (b := true) rfl) (qM (.bool false) rfl rfl ?_)
 refine WL.want rfl rfl ?_
 refine qV rfl (R.fieldAddr (off' := 0) rfl underlying56 rfl sizeOf52 rfl rfl) ?_
 refine WL.want rfl rfl ?_
 refine qV rfl (R.load1 rfl isAgg52 (h_12.ok _ M1) Sg.h) ?_
 refine WL.want rfl rfl ?_
 refine qV rfl (R.bin rfl rfl (bi_eql (r := decide ((kd : Int) = 4)) rfl)) (qV rfl (R.pickF (v := (.bool (decide ((kd : Int) = 4)))) rfl rfl) (qA (.bool (decide ((kd : Int) = 4))) rfl rfl ?_))
 refine WL.nil (thn_n ?_)
 refine WP.condF (congrArg Value.bool (decide_eq_false hk4)) ?_
 refine WP.skip (inb_n (thn_n (WP.seq (WP.reg ?_))))
 refine qM (pO ob 0) rfl rfl (qV rfl (R.loadA [] [(1, [(vi kd)]), (32, key.map vu8), (1, [(vi dm)]), (1, [(.slice qa qn qc)])] [] rfl isAgg56 sizeOf56 (h_12.ok _ M1) rfl rfl rfl rfl) (qV rfl (R.makeFuncL (fi := []) (ca := [(pO b_1 0)]) rfl rfl) ?_))
 have h_19 := ((((((h_12.up J1).up J7).up J7).up J7).up J7).up J7).up J7
 have h32_w_23 := (Lgs.ok32 (h_19.ok _ M3).1)
 refine WL.call Try.call46 rfl rfl (c_ansG id ob mp ms df hms da dn dc u hdf la lc lx lg (by first | decide | omega) (by first | decide | omega) kd dm key data qa qn qc hq hdl b_1 _ h_19) rfl ?_
 rintro _ w_23 ⟨la_20, lc_21, lx_22, rfl, h_24⟩
 refine WL.storeA [] [(32, (zB 32).map vu8)] [(32, (anD id df dn u lg (kd, key, dm, data)).map vu8)] [] h_24 rfl rfl sizeOf23 Y7 (by decide) rfl rfl rfl rfl rfl rfl (sC (s8 (anD_len hdf h32_w_23)) sN) (fun w_25 h_26 => ?_)
 refine qA (vi 0) rfl rfl ?_
 refine WL.nil (thn_n (WP.ret ?_))
 refine ret_of results23 (RV.cell rfl (h_26.loadA (cs := (anD id df dn u lg (kd, key, dm, data)).map vu8) isAgg23 sizeOf23 M7 rfl rfl) (RV.tmp (v := (vi 0)) rfl RV.nil)) ?_
 have h_36 := (((((((((h_26.up J6).drop rfl).up J6).drop rfl).up J5).up J5).up J5).up J5).up J5).up J5
 exact ⟨_, _, _, rfl, h_36⟩
end Go.Proofs.Yteclkcpdclimnaa

namespace Go.Proofs.Yteclkcpdclimnaa
open Go.Proofs.Try
open Go.Vc Go.Orc Go.Sh Go.RowKit
set_option maxRecDepth 20000
theorem pl56 : ∀ fs, Try.prog.underlying 56 = some (.struct fs) → Places Try.prog fs [(0, 1), (1, 32), (33, 1), (34, 1)] := by
 intro fs h w; rw [underlying56] at h; cases h; simp
theorem pl90 : ∀ fs, Try.prog.underlying 90 = some (.struct fs) → Places Try.prog fs [(0, 1), (1, 32), (33, 1), (34, 1), (35, 1), (36, 1)] := by
 intro fs h w; rw [underlying90] at h; cases h; simp
theorem c_ONew {w00 : World} {L : List Ent} (id : Bool) (ms df : List UInt8) (hms : ms.length = 32) (a : Option Addr) (n cap : Nat) (hl : df.length = 32 * n) (hn : n ≤ 1000000) (w : World) (h_0 : HP w00 w (Ent.view a (df.map vu8) :: L)) :
  Cs Try.prog 17 [(.bool id), (.agg ⟨ms.map vu8⟩), (.slice a n cap)].toArray w (fun v w1 => ∃ ob mp da dc, v = .pointer (some ⟨ob, 0, none⟩) ∧ HP w00 w1 (Ent.blk ob .nw 90 [(1, [(.bool id)]), (32, ms.map vu8), (1, [(.slice da n dc)]), (1, [(vi 0)]), (1, [(.map (some mp))]), (1, [(.slice none 0 0)])] :: Ent.row none 0 0 64 67 [] :: Ent.obj mp .nw (.map (mArr ([] : Lg)) 0) :: Ent.pin (sblks []) (fun w => Lgs w [] ([] : Lg)) :: Ent.view da (df.map vu8) :: Ent.view a (df.map vu8) :: L)) := by
 refine Cs.of (n := 14) (args := [(.bool id), (.agg ⟨ms.map vu8⟩), (.slice a n cap)]) Try.func17 rfl rfl rfl ?_
 refine WP.seq (WP.reg ?_)
 refine WL.box (segs := [(32, ms.map vu8)]) h_0 rfl rfl (sC (s8 hms) sN) rfl (fun b_1 w_2 h_3 => ?_)
 refine qA (.pointer none) rfl rfl ?_
 refine WL.nil (thn_n (WP.seq ?_))
 refine WP.cutG (G := Nat × Option Addr × Nat × Nat) [6, 7, 8, 9, 10, 11, 12, 13] (fun (bY1Y6Y0Y0, aY1Y3Y0Y0, capY1Y3Y0Y0, bY1Y4Y0Y0) => [(6, (pO bY1Y6Y0Y0 0)), (7, (.bool id)), (8, (.agg ⟨ms.map vu8⟩)), (9, (.slice a n cap)), (10, (.slice aY1Y3Y0Y0 n capY1Y3Y0Y0)), (11, (.map (some bY1Y4Y0Y0))), (12, (.agg ⟨flat [(1, [(.bool id)]), (32, ms.map vu8), (1, [(.slice aY1Y3Y0Y0 n capY1Y3Y0Y0)]), (1, [(vi 0)]), (1, [(.map (some bY1Y4Y0Y0))]), (1, [(.slice none 0 0)])]⟩)), (13, (pO bY1Y6Y0Y0 0))]) (fun (bY1Y6Y0Y0, aY1Y3Y0Y0, capY1Y3Y0Y0, bY1Y4Y0Y0) w1 => HP w00 w1 (Ent.blk bY1Y6Y0Y0 .nw 90 [(1, [(.bool id)]), (32, ms.map vu8), (1, [(.slice aY1Y3Y0Y0 n capY1Y3Y0Y0)]), (1, [(vi 0)]), (1, [(.map (some bY1Y4Y0Y0))]), (1, [(.slice none 0 0)])] :: Ent.obj bY1Y4Y0Y0 .nw (.map (#[]) 0) :: Ent.row aY1Y3Y0Y0 n capY1Y3Y0Y0 23 32 (df.map vu8) :: Ent.blk b_1 .nw 23 [(32, ms.map vu8)] :: Ent.view a (df.map vu8) :: L)) ?_ ?_
 ·refine WP.drawT (SL w00.heap.size [.blk b_1 .nw 23 [(32, ms.map vu8)], .view a (df.map vu8)]) (.q 0 (.q 1 (.q 2 (.s2 3 4 (.s 4 (.q 5 (.s 6 (.q 7 .nil)))) (.s 3 (.q 5 (.s 6 (.q 7 .nil)))))))) (by kernel_rfl) (by kernel_rfl) rfl (by kernel_rfl) (fun w_4 hc_6 => (SL.cons ((h_3.same hc_6).ok _ M0) (SL.cons ((h_3.same hc_6).ok _ M1) (SL.nil _ _)))) (fun w_4 hc_6 => ?_)
  have h_5 := h_3.same hc_6
  refine qT rfl rfl (fun wq hS => R.move (v := (.bool id)) rfl) ?_
  refine qT rfl rfl (fun wq hS => R.loadA [] [(32, ms.map vu8)] [] (cs := ms.map vu8) rfl isAgg23 sizeOf23 (hS _ M0) rfl rfl rfl rfl) ?_
  refine qT rfl rfl (fun wq hS => R.move (v := (.slice a n cap)) rfl) ?_
  refine WT.s2 ?_ ?_
  ·refine oN rfl ?_
   refine WL.call Try.call39 rfl rfl (c_CloneD a n cap df hl (by omega) _ (viewV (h_5.ok _ M1))) rfl ?_
   rintro _ w_9 ⟨a_7, cap_8, rfl, hc_10, ho_11⟩
   have h_12 := h_5.gotRow hc_10 ho_11
   refine WL.nil ?_
   refine ⟨(N1_2 h_12.ok), ?_⟩
   refine WT.s (oN rfl ?_)
   refine WL.makeMap h_12 rfl (fun b_13 w_14 h_15 => ?_)
   refine WL.nil ?_
   refine ⟨(N2_3 h_15.ok), ?_⟩
   refine qT rfl rfl (fun wq hS => R.buildS (pl := [(0, 1), (1, 32), (33, 1), (34, 1), (35, 1), (36, 1)]) (zs := [(1, [(.bool false)]), (32, (zB 32).map vu8), (1, [(.slice none 0 0)]), (1, [(vi 0)]), (1, [(.map none)]), (1, [(.slice none 0 0)])]) (vs := [(0, (.bool id)), (1, (.agg ⟨ms.map vu8⟩)), (2, (.slice a_7 n cap_8)), (4, (.map (some b_13)))]) (out := [(1, [(.bool id)]), (32, ms.map vu8), (1, [(.slice a_7 n cap_8)]), (1, [(vi 0)]), (1, [(.map (some b_13))]), (1, [(.slice none 0 0)])]) underlying90 (zv typeInfo90 rfl) rfl (sC sV (sC (s8 lr) (sC sV (sC sV (sC sV (sC sV sN)))))) (pl90 _ underlying90) rfl (FillR.cons [] [(1, [(.bool false)])] [(1, [(.bool id)])] [(32, (zB 32).map vu8), (1, [(.slice none 0 0)]), (1, [(vi 0)]), (1, [(.map none)]), (1, [(.slice none 0 0)])] rfl rfl rfl rfl (sC sV sN) rfl rfl rfl (FillR.cons [(1, [(.bool id)])] [(32, (zB 32).map vu8)] [(32, ms.map vu8)] [(1, [(.slice none 0 0)]), (1, [(vi 0)]), (1, [(.map none)]), (1, [(.slice none 0 0)])] rfl rfl rfl rfl (sC (s8 hms) sN) rfl rfl rfl (FillR.cons [(1, [(.bool id)]), (32, ms.map vu8)] [(1, [(.slice none 0 0)])] [(1, [(.slice a_7 n cap_8)])] [(1, [(vi 0)]), (1, [(.map none)]), (1, [(.slice none 0 0)])] rfl rfl rfl rfl (sC sV sN) rfl rfl rfl (FillR.cons [(1, [(.bool id)]), (32, ms.map vu8), (1, [(.slice a_7 n cap_8)]), (1, [(vi 0)])] [(1, [(.map none)])] [(1, [(.map (some b_13))])] [(1, [(.slice none 0 0)])] rfl rfl rfl rfl (sC sV sN) rfl rfl rfl FillR.nil)))) rfl) ?_
   refine WT.s (oN rfl ?_)
   refine WL.box (segs := [(1, [(.bool id)]), (32, ms.map vu8), (1, [(.slice a_7 n cap_8)]), (1, [(vi 0)]), (1, [(.map (some b_13))]), (1, [(.slice none 0 0)])]) h_15 rfl rfl (sC sV (sC (s8 hms) (sC sV (sC sV (sC sV (sC sV sN)))))) rfl (fun b_17 w_18 h_19 => ?_)
   refine WL.nil ?_
   refine ⟨(N3_4 h_19.ok), ?_⟩
   refine qT rfl rfl (fun wq hS => R.assign (v := (pO b_17 0)) rfl) ?_
   refine WT.nil (thn_n ?_)
   exact ⟨(b_17, a_7, cap_8, b_13), (U4 rfl rfl rfl rfl (U4 rfl rfl rfl rfl (Ag.refl _ _))), ⟨rfl, rfl, rfl, rfl, rfl, rfl, rfl, rfl, trivial⟩, h_19⟩
  ·refine oN rfl ?_
   refine WL.makeMap h_5 rfl (fun b_20 w_21 h_22 => ?_)
   refine WL.nil ?_
   refine ⟨(N1_2 h_22.ok), ?_⟩
   refine WT.s (oN rfl ?_)
   refine WL.call Try.call39 rfl rfl (c_CloneD a n cap df hl (by omega) _ (viewV (h_22.ok _ M2))) rfl ?_
   rintro _ w_25 ⟨a_23, cap_24, rfl, hc_26, ho_27⟩
   have h_28 := h_22.gotRow hc_26 ho_27
   refine WL.nil ?_
   refine ⟨(N2_3 h_28.ok), ?_⟩
   refine qT rfl rfl (fun wq hS => R.buildS (pl := [(0, 1), (1, 32), (33, 1), (34, 1), (35, 1), (36, 1)]) (zs := [(1, [(.bool false)]), (32, (zB 32).map vu8), (1, [(.slice none 0 0)]), (1, [(vi 0)]), (1, [(.map none)]), (1, [(.slice none 0 0)])]) (vs := [(0, (.bool id)), (1, (.agg ⟨ms.map vu8⟩)), (2, (.slice a_23 n cap_24)), (4, (.map (some b_20)))]) (out := [(1, [(.bool id)]), (32, ms.map vu8), (1, [(.slice a_23 n cap_24)]), (1, [(vi 0)]), (1, [(.map (some b_20))]), (1, [(.slice none 0 0)])]) underlying90 (zv typeInfo90 rfl) rfl (sC sV (sC (s8 lr) (sC sV (sC sV (sC sV (sC sV sN)))))) (pl90 _ underlying90) rfl (FillR.cons [] [(1, [(.bool false)])] [(1, [(.bool id)])] [(32, (zB 32).map vu8), (1, [(.slice none 0 0)]), (1, [(vi 0)]), (1, [(.map none)]), (1, [(.slice none 0 0)])] rfl rfl rfl rfl (sC sV sN) rfl rfl rfl (FillR.cons [(1, [(.bool id)])] [(32, (zB 32).map vu8)] [(32, ms.map vu8)] [(1, [(.slice none 0 0)]), (1, [(vi 0)]), (1, [(.map none)]), (1, [(.slice none 0 0)])] rfl rfl rfl rfl (sC (s8 hms) sN) rfl rfl rfl (FillR.cons [(1, [(.bool id)]), (32, ms.map vu8)] [(1, [(.slice none 0 0)])] [(1, [(.slice a_23 n cap_24)])] [(1, [(vi 0)]), (1, [(.map none)]), (1, [(.slice none 0 0)])] rfl rfl rfl rfl (sC sV sN) rfl rfl rfl (FillR.cons [(1, [(.bool id)]), (32, ms.map vu8), (1, [(.slice a_23 n cap_24)]), (1, [(vi 0)])] [(1, [(.map none)])] [(1, [(.map (some b_20))])] [(1, [(.slice none 0 0)])] rfl rfl rfl rfl (sC sV sN) rfl rfl rfl FillR.nil)))) rfl) ?_
   refine WT.s (oN rfl ?_)
   refine WL.box (segs := [(1, [(.bool id)]), (32, ms.map vu8), (1, [(.slice a_23 n cap_24)]), (1, [(vi 0)]), (1, [(.map (some b_20))]), (1, [(.slice none 0 0)])]) h_28 rfl rfl (sC sV (sC (s8 hms) (sC sV (sC sV (sC sV (sC sV sN)))))) rfl (fun b_30 w_31 h_32 => ?_)
   refine WL.nil ?_
   refine ⟨(N3_4 h_32.ok), ?_⟩
   refine qT rfl rfl (fun wq hS => R.assign (v := (pO b_30 0)) rfl) ?_
   refine WT.nil (thn_n ?_)
   have h_37 := ((((h_32.up J4).up J4).up J3).up J4).up J4
   exact ⟨(b_30, a_23, cap_24, b_20), (U4 rfl rfl rfl rfl (U4 rfl rfl rfl rfl (Ag.refl _ _))), ⟨rfl, rfl, rfl, rfl, rfl, rfl, rfl, rfl, trivial⟩, h_37⟩
 ·rintro ⟨b_41, a_42, cap_43, b_44⟩ J_38 w_39 h_40
  refine thn_n (WP.ret ?_)
  refine ret_of results17 (RV.tmp (v := (pO b_41 0)) rfl RV.nil) ?_
  have h_45 := h_40.up J2
  have h_46 := h_45.rowView
  have h_47 := h_46.rowNil 64 67
  have h_48 := HP_logNil h_47
  have h_56 := (((((((h_48.up J5).drop rfl).up J5).up J3).up J2).up J5).up J4).up J5
  exact ⟨_, _, _, _, rfl, h_56⟩

theorem c_joined (a : Option Addr) (n cap : Nat) (xs : List Value) (ls : List (List UInt8)) (hln : ls.length = n) (hb : ls.flatten.length ≤ 1099511627776) (hnb : n ≤ 1099511627776) (w : World) (hv : View w a xs) (hs : Sls w xs ls) :
  Cs Try.prog 51 [(.slice a n cap)].toArray w (fun v w1 => ∃ a cap, v = .slice a ls.flatten.length cap ∧ Chg w w1 [] ∧ Own w.heap.size w1 5 1 a ls.flatten.length cap ((ls.flatten).map vu8)) := by
 refine Cs.of (n := 5) (args := [(.slice a n cap)]) Try.func51 rfl rfl rfl ?_
 have h_0 := HP.init w
 have h_01 := h_0.old (View.arg hv) (fun f hf => by cases hf)
 have h_00 := h_01.old hs.pin (fun f hf => by rw [List.mem_singleton] at hf; subst hf; intro hm; simp [Ent.mut] at hm)
 have hxl : xs.length = n := hs.len.trans hln
 refine WP.seq (WP.reg ?_)
 refine qA (.slice none 0 0) rfl rfl ?_
 refine WL.nil (thn_n (WP.seq (WP.reg ?_)))
 refine qM (.slice a n cap) rfl rfl ?_
 refine WL.call Try.call69 rfl rfl (c_Concat a n cap xs ls hln (by omega) (by omega) _ (viewV (h_00.ok _ M1)) (h_00.ok _ M0).1) rfl ?_
 rintro _ w_3 ⟨a_1, cap_2, rfl, hc_4, ho_5⟩
 have h_6 := h_00.gotRow hc_4 ho_5
 refine qA (.slice a_1 ls.flatten.length cap_2) rfl rfl ?_
 refine WL.nil (thn_n (WP.ret ?_))
 refine ret_of results51 (RV.tmp (v := (.slice a_1 ls.flatten.length cap_2)) rfl RV.nil) ?_
 exact ⟨_, _, rfl, h_6.chgS, h_6.ok _ M0⟩

theorem c_oDigest {w00 : World} {L : List Ent} (id : Bool) (ob mp : Nat) (ms df : List UInt8) (hms : ms.length = 32) (da : Option Addr) (dn dc u : Nat) (hdf : df.length = 32 * dn) (la : Option Addr) (lc : Nat) (lx : List Value) (lg : Lg) (hu : u ≤ 1000000) (hlg : lg.length ≤ 1000000) (a : Option Addr) (n cap : Nat) (xs : List Value) (ls : List (List UInt8)) (hln : ls.length = n) (dm : Int) (hdm : 1 ≤ dm ∧ dm ≤ 16) (hb : ls.flatten.length ≤ 1000000000) (hnb : n ≤ 1000000) (w : World) (h_0 : HP w00 w (Ent.blk ob .nw 90 [(1, [(.bool id)]), (32, ms.map vu8), (1, [(.slice da dn dc)]), (1, [(vi ((u : Nat) : Int))]), (1, [(.map (some mp))]), (1, [(.slice la lg.length lc)])] :: Ent.row la lg.length lc 64 67 lx :: Ent.obj mp .nw (.map (mArr lg) lg.length) :: Ent.pin (sblks lx) (fun w => Lgs w lx lg) :: Ent.view da (df.map vu8) :: Ent.pin (sblks xs) (fun w => Sls w xs ls) :: Ent.view a xs :: L)) :
  Cs Try.prog 34 [(.pointer (some ⟨ob, 0, none⟩)), (vi dm), (.slice a n cap)].toArray w (fun v w1 => ∃ la' lc' lx', v = (.tuple [(.agg ⟨(anD id df dn u lg (1, (List.replicate 32 (0 : UInt8)), dm, ls.flatten)).map vu8⟩), (vi 0)].toArray) ∧ HP w00 w1 (Ent.blk ob .nw 90 [(1, [(.bool id)]), (32, ms.map vu8), (1, [(.slice da dn dc)]), (1, [(vi (((anU id u lg (1, (List.replicate 32 (0 : UInt8)), dm, ls.flatten)) : Nat) : Int))]), (1, [(.map (some mp))]), (1, [(.slice la' ((anL id df dn u lg (1, (List.replicate 32 (0 : UInt8)), dm, ls.flatten)).length) lc')])] :: Ent.row la' ((anL id df dn u lg (1, (List.replicate 32 (0 : UInt8)), dm, ls.flatten)).length) lc' 64 67 lx' :: Ent.obj mp .nw (.map (mArr (anL id df dn u lg (1, (List.replicate 32 (0 : UInt8)), dm, ls.flatten))) ((anL id df dn u lg (1, (List.replicate 32 (0 : UInt8)), dm, ls.flatten)).length)) :: Ent.pin (sblks lx') (fun w => Lgs w lx' (anL id df dn u lg (1, (List.replicate 32 (0 : UInt8)), dm, ls.flatten))) :: Ent.view da (df.map vu8) :: Ent.pin (sblks xs) (fun w => Sls w xs ls) :: Ent.view a xs :: L)) := by
 have hxs := (h_0.ok _ M5).1
 have hxl : xs.length = n := (Sls.len hxs).trans hln
 refine Cs.of (n := 16) (args := [(pO ob 0), (vi dm), (.slice a n cap)]) Try.func34 rfl rfl rfl ?_
 refine WP.seq (WP.reg ?_)
 refine WL.alloc (segs := [(32, (zB 32).map vu8)]) h_0 (zv typeInfo23 rfl) rfl (sC (s8 lr) sN) rfl (fun b_1 w_2 h_3 => ?_)
 refine qA (vi 0) rfl rfl ?_
 refine WL.nil (thn_n (WP.seq (WP.reg ?_)))
 refine qM (pO ob 0) rfl rfl (qM (vi dm) rfl rfl (qM (.slice a n cap) rfl rfl ?_))
 refine WL.call Try.call51 rfl rfl (c_joined a n cap xs ls hln (by omega) (by omega) _ (viewV (h_3.ok _ M7)) (h_3.ok _ M6).1) rfl ?_
 rintro _ w_6 ⟨a_4, cap_5, rfl, hc_7, ho_8⟩
 have h_9 := h_3.gotRow hc_7 ho_8
 refine qV rfl (R.buildS (pl := [(0, 1), (1, 32), (33, 1), (34, 1)]) (zs := [(1, [(vi 0)]), (32, (zB 32).map vu8), (1, [(vi 0)]), (1, [(.slice none 0 0)])]) (vs := [(0, (vi 1)), (2, (vi dm)), (3, (.slice a_4 ls.flatten.length cap_5))]) (out := [(1, [(vi 1)]), (32, (zB 32).map vu8), (1, [(vi dm)]), (1, [(.slice a_4 ls.flatten.length cap_5)])]) underlying56 (zv typeInfo56 rfl) rfl (sC sV (sC (s8 lr) (sC sV (sC sV sN)))) (pl56 _ underlying56) rfl (FillR.cons [] [(1, [(vi 0)])] [(1, [(vi 1)])] [(32, (zB 32).map vu8), (1, [(vi 0)]), (1, [(.slice none 0 0)])] rfl rfl rfl rfl (sC sV sN) rfl rfl rfl (FillR.cons [(1, [(vi 1)]), (32, (zB 32).map vu8)] [(1, [(vi 0)])] [(1, [(vi dm)])] [(1, [(.slice none 0 0)])] rfl rfl rfl rfl (sC sV sN) rfl rfl rfl (FillR.cons [(1, [(vi 1)]), (32, (zB 32).map vu8), (1, [(vi dm)])] [(1, [(.slice none 0 0)])] [(1, [(.slice a_4 ls.flatten.length cap_5)])] [] rfl rfl rfl rfl (sC sV sN) rfl rfl rfl FillR.nil))) rfl) ?_
 have h_11 := h_9.rowView
 have h_16 := ((((h_11.up J6).up J6).up J6).up J6).up J6
 have h32_w_20 := (Lgs.ok32 (h_16.ok _ M3).1)
 refine WL.call Try.call23 rfl rfl (c_oAsk id ob mp ms df hms da dn dc u hdf la lc lx lg hu hlg 1 dm (zB 32) ls.flatten a_4 ls.flatten.length cap_5 ⟨lr, by show (1 : Int) ≤ 1 ∧ (1 : Int) ≤ 4; omega, by show (1 : Int) ≤ dm ∧ (dm : Int) ≤ 16; omega, by show List.length ls.flatten ≤ 1000000000; first | decide | (simp only [List.length_append, leN_len]; omega) | omega⟩ (rfl : List.length ls.flatten = ls.flatten.length) (by decide) (fun _ => rfl) _ h_16) rfl ?_
 rintro _ w_20 ⟨la_17, lc_18, lx_19, rfl, h_21⟩
 refine qV rfl (R.extract rfl rfl) (qV rfl (R.extract rfl rfl) ?_)
 refine WL.storeA [] [(32, (zB 32).map vu8)] [(32, (anD id df dn u lg (1, List.replicate 32 (0 : UInt8), dm, ls.flatten)).map vu8)] [] h_21 rfl rfl sizeOf23 Y6 (by decide) rfl rfl rfl rfl rfl rfl (sC (s8 (anD_len hdf h32_w_20)) sN) (fun w_22 h_23 => ?_)
 refine qA (vi 0) rfl rfl ?_
 refine WL.nil (thn_n (WP.ret ?_))
 refine ret_of results34 (RV.cell rfl (h_23.loadA (cs := (anD id df dn u lg (1, List.replicate 32 (0 : UInt8), dm, ls.flatten)).map vu8) isAgg23 sizeOf23 M6 rfl rfl) (RV.tmp (v := (vi 0)) rfl RV.nil)) ?_
 have h_34 := ((((((((((h_23.up J5).drop rfl).up J5).drop rfl).up J6).up J6).up J6).up J6).up J6).up J6).up J6
 exact ⟨_, _, _, rfl, h_34⟩
end Go.Proofs.Yteclkcpdclimnaa

namespace Go.Proofs.Yteclkcpdclimnaa
open Go.Proofs.Try
open Go.Vc Go.Orc Go.Sh Go.RowKit
set_option maxRecDepth 20000
theorem ce3 : Try.prog.cellsOf 3 = 1 := by kernel_rfl
theorem ce4 : Try.prog.cellsOf 4 = 1 := by kernel_rfl
theorem ce27 : Try.prog.cellsOf 27 = 1 := by kernel_rfl
theorem ce29 : Try.prog.cellsOf 29 = 128 := by kernel_rfl
theorem ce81 : Try.prog.cellsOf 81 = 1 := by kernel_rfl
theorem ce82 : Try.prog.cellsOf 82 = 8 := by kernel_rfl
theorem ce84 : Try.prog.cellsOf 84 = 10 := by kernel_rfl
theorem ce86 : Try.prog.cellsOf 86 = 172 := by kernel_rfl
theorem kt86 : Try.prog.keyTypeAt 4 86 = true := by kernel_rfl
theorem ag86 : aggB Try.prog 86 = true := by unfold aggB; rw [underlying86]
theorem pl79 : ∀ fs, Try.prog.underlying 79 = some (.struct fs) → Places Try.prog fs [(0, 32), (32, 1)] := by
 intro fs h w; rw [underlying79] at h; cases h; simp
theorem pl86 : ∀ fs, Try.prog.underlying 86 = some (.struct fs) → Places Try.prog fs [(0, 1), (1, 32), (33, 1), (34, 128), (162, 10)] := by
 intro fs h w; rw [underlying86] at h; cases h; simp
theorem c_MayRec (pc : UInt64) (rg : List UInt64) (hrg : rg.length = 8) (b : Bool) (w : World) :
  Cs Try.prog 74 [(.agg ⟨flat [(1, [(vu64 pc)]), (8, rg.map vu64), (1, [(.bool b)])]⟩)].toArray w (fun v w1 => v = (.bool (decide (pc % 8 = 0))) ∧ Chg w w1 []) := by
 refine Cs.of (n := 7) (args := [(.agg ⟨flat [(1, [(vu64 pc)]), (8, rg.map vu64), (1, [(.bool b)])]⟩)]) Try.func74 rfl rfl rfl ?_
 have h_0 := HP.init w
 refine WP.seq (WP.reg ?_)
 refine WL.box (segs := [(1, [(vu64 pc)]), (8, rg.map vu64), (1, [(.bool b)])]) h_0 rfl rfl (sC sV (sC (SOk.u64 hrg) (sC sV sN))) rfl (fun b_1 w_2 h_3 => ?_)
 refine qA (.bool false) rfl rfl ?_
 refine WL.nil (thn_n (WP.seq (WP.reg ?_)))
 refine qV rfl (R.fieldAddr (off' := 0) rfl underlying84 rfl sizeOf27 rfl rfl) (qV rfl (R.load1 rfl isAgg27 (h_3.ok _ M0) Sg.h) (qV rfl (R.bin (v := (vu64 (pc % 8))) rfl rfl (b64_rem pc 8 (by decide))) (qV rfl (R.bin (v := (.bool (decide ((pc % 8 : UInt64) = 0)))) rfl rfl (b64_eql (pc % 8) 0 (r := decide ((pc % 8 : UInt64) = 0)) rfl)) (qA (.bool (decide ((pc % 8 : UInt64) = 0))) rfl rfl ?_))))
 refine WL.nil (thn_n (WP.ret ?_))
 refine ret_of results74 (RV.tmp (v := (.bool (decide ((pc % 8 : UInt64) = 0)))) rfl RV.nil) ?_
 exact ⟨rfl, h_3.chgS⟩

theorem c_mth (id : Bool) (ob mp : Nat) (ms : List UInt8) (hms : ms.length = 32) (da : Option Addr) (dn dc u : Nat) (la : Option Addr) (ln lc : Nat) (w : World) (hcb : (Ent.blk ob .ro 90 [(1, [(.bool id)]), (32, ms.map vu8), (1, [(.slice da dn dc)]), (1, [(vi ((u : Nat) : Int))]), (1, [(.map (some mp))]), (1, [(.slice la ln lc)])]).ok w.heap.size w) :
  Cs Try.prog 40 [(.pointer (some ⟨ob, 0, none⟩))].toArray w (fun v w1 => v = (.bool true) ∧ Chg w w1 []) := by
 refine Cs.of (n := 13) (args := [(pO ob 0)]) Try.func40 rfl rfl rfl ?_
 have h_0 := HP.init w
 have h_00 := h_0.old hcb (fun f hf => by cases hf)
 refine WP.seq (WP.reg ?_)
 refine qA (.bool false) rfl rfl ?_
 refine WL.nil (thn_n (WP.seq (WP.reg ?_)))
 refine qM (pO ob 0) rfl rfl (qV rfl (R.buildS (pl := [(0, 1), (1, 32), (33, 1), (34, 1)]) (zs := [(1, [(vi 0)]), (32, (zB 32).map vu8), (1, [(vi 0)]), (1, [(.slice none 0 0)])]) (vs := []) (out := [(1, [(vi 0)]), (32, (zB 32).map vu8), (1, [(vi 0)]), (1, [(.slice none 0 0)])]) underlying56 (zv typeInfo56 rfl) rfl (sC sV (sC (s8 lr) (sC sV (sC sV sN)))) (pl56 _ underlying56) rfl FillR.nil rfl) ?_)
 refine WL.call Try.call23 rfl rfl (c_oAsk_0 id ob mp ms hms da dn dc u la ln lc 0 (zB 32) none 0 0 lr _ (h_00.argR M0)) rfl ?_
 rintro _ w_3 ⟨rfl, hc_2⟩
 have h_4 := h_00.same hc_2
 refine qM (.tuple [(.agg ⟨(zB 32).map vu8⟩), (vi 2)].toArray) rfl rfl (qV rfl (R.extract rfl rfl) (qV rfl (R.extract rfl rfl) ?_))
 refine WL.alloc (segs := [(32, (zB 32).map vu8)]) h_4 (zv typeInfo23 rfl) rfl (sC (s8 lr) sN) rfl (fun b_5 w_6 h_7 => ?_)
 refine WL.storeA [] [(32, (zB 32).map vu8)] [(32, (zB 32).map vu8)] [] h_7 rfl rfl sizeOf23 At.h (by decide) rfl rfl rfl rfl rfl rfl (sC (s8 lr) sN) (fun w_8 h_9 => ?_)
 refine qA (vi 2) rfl rfl ?_
 refine WL.nil (thn_n (WP.seq (WP.reg ?_)))
 refine qM (vi 2) rfl rfl (qV rfl (R.bin rfl rfl (bi_neq (r := true) (by decide))) (qA (.bool true) rfl rfl ?_))
 refine WL.nil (thn_n (WP.ret ?_))
 refine ret_of results40 (RV.tmp (v := (.bool true)) rfl RV.nil) ?_
 exact ⟨rfl, h_9.chgS⟩

theorem c_Begin {w00 : World} {L : List Ent} (id : Bool) (ob mp : Nat) (ms df : List UInt8) (hms : ms.length = 32) (da : Option Addr) (dn dc u : Nat) (hdf : df.length = 32 * dn) (la : Option Addr) (lc : Nat) (lx : List Value) (lg : Lg) (hu : u ≤ 1000000) (hlg : lg.length ≤ 1000000) (val : List UInt8) (hvl : val.length = 32) (sz : UInt64) (w : World) (h_0 : HP w00 w (Ent.blk ob .nw 90 [(1, [(.bool id)]), (32, ms.map vu8), (1, [(.slice da dn dc)]), (1, [(vi ((u : Nat) : Int))]), (1, [(.map (some mp))]), (1, [(.slice la lg.length lc)])] :: Ent.row la lg.length lc 64 67 lx :: Ent.obj mp .nw (.map (mArr lg) lg.length) :: Ent.pin (sblks lx) (fun w => Lgs w lx lg) :: Ent.view da (df.map vu8) :: L)) :
  Cs Try.prog 37 [(.pointer (some ⟨ob, 0, none⟩)), (.agg ⟨flat [(32, val.map vu8), (1, [(vu64 sz)])]⟩)].toArray w (fun v w1 => ∃ la' lc' lx', v = (.tuple [(.agg ⟨(anD id df dn u lg (1, (List.replicate 32 (0 : UInt8)), 1, [val].flatten)).map vu8⟩), (vi 0)].toArray) ∧ HP w00 w1 (Ent.blk ob .nw 90 [(1, [(.bool id)]), (32, ms.map vu8), (1, [(.slice da dn dc)]), (1, [(vi (((anU id u lg (1, (List.replicate 32 (0 : UInt8)), 1, [val].flatten)) : Nat) : Int))]), (1, [(.map (some mp))]), (1, [(.slice la' ((anL id df dn u lg (1, (List.replicate 32 (0 : UInt8)), 1, [val].flatten)).length) lc')])] :: Ent.row la' ((anL id df dn u lg (1, (List.replicate 32 (0 : UInt8)), 1, [val].flatten)).length) lc' 64 67 lx' :: Ent.obj mp .nw (.map (mArr (anL id df dn u lg (1, (List.replicate 32 (0 : UInt8)), 1, [val].flatten))) ((anL id df dn u lg (1, (List.replicate 32 (0 : UInt8)), 1, [val].flatten)).length)) :: Ent.pin (sblks lx') (fun w => Lgs w lx' (anL id df dn u lg (1, (List.replicate 32 (0 : UInt8)), 1, [val].flatten))) :: Ent.view da (df.map vu8) :: L)) := by
 refine Cs.of (n := 17) (args := [(pO ob 0), (.agg ⟨flat [(32, val.map vu8), (1, [(vu64 sz)])]⟩)]) Try.func37 rfl rfl rfl ?_
 refine WP.seq (WP.reg ?_)
 refine WL.box (segs := [(32, val.map vu8), (1, [(vu64 sz)])]) h_0 rfl rfl (sC (s8 hvl) (sC sV sN)) rfl (fun b_1 w_2 h_3 => ?_)
 refine WL.alloc (segs := [(32, (zB 32).map vu8)]) h_3 (zv typeInfo23 rfl) rfl (sC (s8 lr) sN) rfl (fun b_4 w_5 h_6 => ?_)
 refine qA (vi 0) rfl rfl ?_
 refine WL.nil (thn_n (WP.seq (WP.seq (WP.reg ?_))))
 refine qM (pO ob 0) rfl rfl ?_
 refine WL.call Try.call40 rfl rfl (c_mth id ob mp ms hms da dn dc u la lg.length lc _ (h_6.argR M2)) rfl ?_
 rintro _ w_8 ⟨rfl, hc_7⟩
 have h_9 := h_6.same hc_7
 refine qV rfl (R.not (b := true) rfl) ?_
 refine WL.nil (thn_n ?_)
 refine WP.condF rfl ?_
 refine WP.skip (thn_n (WP.seq (WP.reg ?_)))
 refine qM (pO ob 0) rfl rfl (qV rfl (R.fieldAddr (off' := 0) rfl underlying79 rfl sizeOf23 rfl rfl) (qV rfl (R.sliceA (b := b_1) (off := 0) (off' := 0) (l := 0) (h := 32) rfl EvB.dflt EvB.dflt (by decide) (by decide) underlying23 sizeOf5 rfl) ?_))
 refine WL.buildSl (vs := [(0, (.slice (some ⟨b_1, 0, none⟩) 32 32))]) (cs := [(.slice (some ⟨b_1, 0, none⟩) 32 32)]) h_9 underlying101 sizeOf54 (zv typeInfo54 rfl) rfl rfl (by kernel_rfl) rfl (by simp [Value.oneCell']) rfl rfl (fun b_10 w_11 h_12 => ?_)
 have h_13 := h_12.up J2
 have h_14 := HP_blkView1 h_13
 have h_15 := h_14.up J1
 have h_16 := HP_blkView h_15
 have hbl_17 : ∀ b ∈ sblks [(.slice (some ⟨b_1, 0, none⟩) 32 32)], ∃ e ∈ ((Ent.view (some ⟨b_10, 0, none⟩) [(.slice (some ⟨b_1, 0, none⟩) 32 32)] :: Ent.view (some ⟨b_1, 0, none⟩) (val.map vu8) :: Ent.blk b_4 .nw 23 [(32, (List.replicate 32 (0 : UInt8)).map vu8)] :: Ent.blk ob .nw 90 [(1, [(.bool id)]), (32, ms.map vu8), (1, [(.slice da dn dc)]), (1, [(vi ((u : Nat) : Int))]), (1, [(.map (some mp))]), (1, [(.slice la lg.length lc)])] :: Ent.row la lg.length lc 64 67 lx :: Ent.obj mp .nw (.map (mArr lg) lg.length) :: Ent.pin (sblks lx) (fun w => Lgs w lx lg) :: Ent.view da (df.map vu8) :: L) : List Ent), e.mut = false ∧ b ∈ e.blocks := by
  intro b hb
  rcases List.mem_append.1 hb with hb | hb
  ·exact ⟨_, M1, rfl, sblk_in_view hvl b hb⟩
  cases hb
 have h_18 := HP_within (e' := .pin (sblks [(.slice (some ⟨b_1, 0, none⟩) 32 32)]) (fun w => Sls w [(.slice (some ⟨b_1, 0, none⟩) 32 32)] [val])) h_16 (Sls.pin (Sls.cons hvl (by decide) (viewV (h_16.ok _ M1)) Sls.nil)) rfl rfl hbl_17
 have h_25 := ((((((h_18.up J1).up J1).up J8).up J8).up J8).up J8).up J8
 have h32_w_29 := Lgs.ok32 (h_25.ok _ M3).1
 refine WL.call Try.call34 rfl rfl (c_oDigest id ob mp ms df hms da dn dc u hdf la lc lx lg hu hlg (some ⟨b_10, 0, none⟩) 1 1 [(.slice (some ⟨b_1, 0, none⟩) 32 32)] [val] rfl 1 (by omega) (by simp only [List.flatten_cons, List.flatten_nil, List.length_append, List.length_nil]; omega) (by omega) _ h_25) rfl ?_
 rintro _ w_29 ⟨la_26, lc_27, lx_28, rfl, h_30⟩
 refine qV rfl (R.extract rfl rfl) (qV rfl (R.extract rfl rfl) ?_)
 refine WL.storeA [] [(32, (zB 32).map vu8)] [(32, (anD id df dn u lg (1, (zB 32), 1, [val].flatten)).map vu8)] [] h_30 rfl rfl sizeOf23 Y8 (by decide) rfl rfl rfl rfl rfl rfl (sC (s8 (anD_len hdf h32_w_29)) sN) (fun w_31 h_32 => ?_)
 refine qA (vi 0) rfl rfl ?_
 refine WL.nil (thn_n (WP.ret ?_))
 refine ret_of results37 (RV.cell rfl (h_32.loadA (cs := (anD id df dn u lg (1, (zB 32), 1, [val].flatten)).map vu8) isAgg23 sizeOf23 M8 rfl rfl) (RV.tmp (v := (vi 0)) rfl RV.nil)) ?_
 have h_45 := ((((((((((((h_32.up J5).drop rfl).up J5).drop rfl).up J5).drop rfl).up J5).drop rfl).up J4).up J4).up J4).up J4).up J4
 exact ⟨_, _, _, rfl, h_45⟩

theorem c_Data_big (id : Bool) (ob mp : Nat) (ms : List UInt8) (hms : ms.length = 32) (da : Option Addr) (dn dc u : Nat) (la : Option Addr) (ln lc : Nat) (md gr : List UInt8) (hmd : md.length = 32) (hgr : gr.length = 128) (pg : Int) (h : 128 ≤ pg) (w : World) (hcb : (Ent.blk ob .ro 90 [(1, [(.bool id)]), (32, ms.map vu8), (1, [(.slice da dn dc)]), (1, [(vi ((u : Nat) : Int))]), (1, [(.map (some mp))]), (1, [(.slice la ln lc)])]).ok w.heap.size w) :
  Cs Try.prog 38 [(.pointer (some ⟨ob, 0, none⟩)), (.agg ⟨md.map vu8⟩), (vi pg), (.agg ⟨gr.map vu8⟩)].toArray w (fun v w1 => v = (.tuple [(.agg ⟨(List.replicate 32 (0 : UInt8)).map vu8⟩), (vi 2)].toArray) ∧ Chg w w1 []) := by
 refine Cs.of (n := 39) (args := [(pO ob 0), (.agg ⟨md.map vu8⟩), (vi pg), (.agg ⟨gr.map vu8⟩)]) Try.func38 rfl rfl rfl ?_
 have h_0 := HP.init w
 have h_00 := h_0.old hcb (fun f hf => by cases hf)
 refine WP.seq (WP.reg ?_)
 refine WL.box (segs := [(32, md.map vu8)]) h_00 rfl rfl (sC (s8 hmd) sN) rfl (fun b_1 w_2 h_3 => ?_)
 refine WL.box (segs := [(128, gr.map vu8)]) h_3 rfl rfl (sC (s8 hgr) sN) rfl (fun b_4 w_5 h_6 => ?_)
 refine WL.alloc (segs := [(32, (zB 32).map vu8)]) h_6 (zv typeInfo23 rfl) rfl (sC (s8 lr) sN) rfl (fun b_7 w_8 h_9 => ?_)
 refine qA (vi 0) rfl rfl ?_
 refine WL.nil (thn_n (WP.seq (WP.block (WP.seq (WP.reg ?_)))))
 refine qM (pO ob 0) rfl rfl ?_
 refine WL.call Try.call40 rfl rfl (c_mth id ob mp ms hms da dn dc u la ln lc _ (h_9.argR M3)) rfl ?_
 rintro _ w_11 ⟨rfl, hc_10⟩
 have h_12 := h_9.same hc_10
 refine qV rfl (R.not (b := true) rfl) (qA (.bool false) rfl rfl ?_)
 refine WL.nil (thn_n ?_)
 refine WP.condF rfl ?_
 refine WP.seq (WP.reg ?_)
 refine qM (vi pg) rfl rfl (qV rfl (R.bin rfl rfl (bi_lss (r := decide ((pg : Int) < 0)) rfl)) (qM (.bool (decide ((pg : Int) < 0))) rfl rfl ?_))
 refine WL.want rfl (congrArg Value.bool (decide_eq_false (by omega))) ?_
 refine qM (vi pg) rfl rfl ?_
 refine WL.want rfl (congrArg Value.bool (decide_eq_false (by omega))) ?_
 refine qV rfl (R.bin rfl rfl (bi_geq (r := decide ((pg : Int) ≥ 128)) rfl)) (qV rfl (R.pickF (v := (.bool (decide ((pg : Int) ≥ 128)))) (congrArg Value.bool (decide_eq_false (by omega))) rfl) (qA (.bool (decide ((pg : Int) ≥ 128))) rfl rfl ?_))
 refine WL.nil (thn_n ?_)
 refine WP.condT (congrArg Value.bool (decide_eq_true (by omega))) ?_
 refine WP.seq (WP.reg ?_)
 refine qV rfl (R.buildA (vs := []) (cs := (zB 32).map vu8) underlying23 sizeOf5 (zv typeInfo23 rfl) rfl rfl) ?_
 refine WL.storeA [] [(32, (zB 32).map vu8)] [(32, (zB 32).map vu8)] [] h_12 rfl rfl sizeOf23 At.h (by decide) rfl rfl rfl rfl rfl rfl (sC (s8 lr) sN) (fun w_13 h_14 => ?_)
 refine qA (vi 2) rfl rfl ?_
 refine WL.nil (thn_n (WP.ret (inb_r (thn_r ?_))))
 refine ret_of results38 (RV.cell rfl (h_14.loadA (cs := (zB 32).map vu8) isAgg23 sizeOf23 M0 rfl rfl) (RV.tmp (v := (vi 2)) rfl RV.nil)) ?_
 exact ⟨rfl, h_14.chgS⟩

theorem c_Data {w00 : World} {L : List Ent} (id : Bool) (ob mp : Nat) (ms df : List UInt8) (hms : ms.length = 32) (da : Option Addr) (dn dc u : Nat) (hdf : df.length = 32 * dn) (la : Option Addr) (lc : Nat) (lx : List Value) (lg : Lg) (hu : u ≤ 1000000) (hlg : lg.length ≤ 1000000) (md gr : List UInt8) (hmd : md.length = 32) (hgr : gr.length = 128) (pg : Nat) (h : pg < 128) (w : World) (h_0 : HP w00 w (Ent.blk ob .nw 90 [(1, [(.bool id)]), (32, ms.map vu8), (1, [(.slice da dn dc)]), (1, [(vi ((u : Nat) : Int))]), (1, [(.map (some mp))]), (1, [(.slice la lg.length lc)])] :: Ent.row la lg.length lc 64 67 lx :: Ent.obj mp .nw (.map (mArr lg) lg.length) :: Ent.pin (sblks lx) (fun w => Lgs w lx lg) :: Ent.view da (df.map vu8) :: L)) :
  Cs Try.prog 38 [(.pointer (some ⟨ob, 0, none⟩)), (.agg ⟨md.map vu8⟩), (vi ((pg : Nat) : Int)), (.agg ⟨gr.map vu8⟩)].toArray w (fun v w1 => ∃ la' lc' lx', v = (.tuple [(.agg ⟨(anD id df dn u lg (1, (List.replicate 32 (0 : UInt8)), 2, [md, leN 8 (UInt64.ofNat pg).toNat, gr].flatten)).map vu8⟩), (vi 0)].toArray) ∧ HP w00 w1 (Ent.blk ob .nw 90 [(1, [(.bool id)]), (32, ms.map vu8), (1, [(.slice da dn dc)]), (1, [(vi (((anU id u lg (1, (List.replicate 32 (0 : UInt8)), 2, [md, leN 8 (UInt64.ofNat pg).toNat, gr].flatten)) : Nat) : Int))]), (1, [(.map (some mp))]), (1, [(.slice la' ((anL id df dn u lg (1, (List.replicate 32 (0 : UInt8)), 2, [md, leN 8 (UInt64.ofNat pg).toNat, gr].flatten)).length) lc')])] :: Ent.row la' ((anL id df dn u lg (1, (List.replicate 32 (0 : UInt8)), 2, [md, leN 8 (UInt64.ofNat pg).toNat, gr].flatten)).length) lc' 64 67 lx' :: Ent.obj mp .nw (.map (mArr (anL id df dn u lg (1, (List.replicate 32 (0 : UInt8)), 2, [md, leN 8 (UInt64.ofNat pg).toNat, gr].flatten))) ((anL id df dn u lg (1, (List.replicate 32 (0 : UInt8)), 2, [md, leN 8 (UInt64.ofNat pg).toNat, gr].flatten)).length)) :: Ent.pin (sblks lx') (fun w => Lgs w lx' (anL id df dn u lg (1, (List.replicate 32 (0 : UInt8)), 2, [md, leN 8 (UInt64.ofNat pg).toNat, gr].flatten))) :: Ent.view da (df.map vu8) :: L)) := by
 refine Cs.of (n := 39) (args := [(pO ob 0), (.agg ⟨md.map vu8⟩), (vn pg), (.agg ⟨gr.map vu8⟩)]) Try.func38 rfl rfl rfl ?_
 refine WP.seq (WP.reg ?_)
 refine WL.box (segs := [(32, md.map vu8)]) h_0 rfl rfl (sC (s8 hmd) sN) rfl (fun b_1 w_2 h_3 => ?_)
 refine WL.box (segs := [(128, gr.map vu8)]) h_3 rfl rfl (sC (s8 hgr) sN) rfl (fun b_4 w_5 h_6 => ?_)
 refine WL.alloc (segs := [(32, (zB 32).map vu8)]) h_6 (zv typeInfo23 rfl) rfl (sC (s8 lr) sN) rfl (fun b_7 w_8 h_9 => ?_)
 refine qA (vi 0) rfl rfl ?_
 refine WL.nil (thn_n (WP.seq (WP.block (WP.seq (WP.reg ?_)))))
 refine qM (pO ob 0) rfl rfl ?_
 refine WL.call Try.call40 rfl rfl (c_mth id ob mp ms hms da dn dc u la lg.length lc _ (h_9.argR M3)) rfl ?_
 rintro _ w_11 ⟨rfl, hc_10⟩
 have h_12 := h_9.same hc_10
 refine qV rfl (R.not (b := true) rfl) (qA (.bool false) rfl rfl ?_)
 refine WL.nil (thn_n ?_)
 refine WP.condF rfl ?_
 refine WP.seq (WP.reg ?_)
 refine qM (vn pg) rfl rfl (qV rfl (R.bin rfl rfl (bi_lss (r := decide ((((pg : Nat) : Int) : Int) < 0)) rfl)) (qM (.bool (decide ((((pg : Nat) : Int) : Int) < 0))) rfl rfl ?_))
 refine WL.want rfl (congrArg Value.bool (decide_eq_false (by omega))) ?_
 refine qM (vn pg) rfl rfl ?_
 refine WL.want rfl (congrArg Value.bool (decide_eq_false (by omega))) ?_
 refine qV rfl (R.bin rfl rfl (bi_geq (r := decide ((((pg : Nat) : Int) : Int) ≥ 128)) rfl)) (qV rfl (R.pickF (v := (.bool (decide ((((pg : Nat) : Int) : Int) ≥ 128)))) (congrArg Value.bool (decide_eq_false (by omega))) rfl) (qA (.bool (decide ((((pg : Nat) : Int) : Int) ≥ 128))) rfl rfl ?_))
 refine WL.nil (thn_n ?_)
 refine WP.condF (congrArg Value.bool (decide_eq_false (by omega))) ?_
 refine WP.skip (inb_n (thn_n (WP.seq (WP.reg ?_))))
 refine qM (vn pg) rfl rfl (qV rfl (R.conv (b := ((UInt64.ofNat pg) : UInt64).toNat) rfl underlying3 underlying27 (w64_nat pg)) ?_)
 refine WL.call Try.call61 rfl rfl (c_Put_b (UInt64.ofNat pg) 8 rfl _) rfl ?_
 rintro _ w_15 ⟨a_13, cap_14, rfl, hc_16, ho_17⟩
 have h_18 := h_12.gotRow hc_16 ho_17
 refine qM (.tuple [(.slice a_13 8 cap_14), (vi 0)].toArray) rfl rfl (qV rfl (R.extract rfl rfl) (qV rfl (R.extract rfl rfl) (qA (.slice a_13 8 cap_14) rfl rfl (qA (vi 0) rfl rfl ?_))))
 refine WL.nil (thn_n (WP.seq ?_))
 refine WP.drawT (SL w00.heap.size []) (.q 0 (.q 1 (.q 2 (.q 3 (.s 4 (.s 5 (.q 6 (.q 7 (.s 8 (.q 9 .nil)))))))))) (by kernel_rfl) (by kernel_rfl) rfl (by kernel_rfl) (fun w_19 hc_21 => (SL.nil _ _)) (fun w_19 hc_21 => ?_)
 have h_20 := h_18.same hc_21
 refine qT rfl rfl (fun wq hS => R.move (v := (pO ob 0)) rfl) ?_
 refine qT rfl rfl (fun wq hS => R.sliceA (b := b_1) (off := 0) (off' := 0) (l := 0) (h := 32) rfl EvB.dflt EvB.dflt (by decide) (by decide) underlying23 sizeOf5 rfl) ?_
 refine qT rfl rfl (fun wq hS => R.move (v := (.slice a_13 8 cap_14)) rfl) ?_
 refine qT rfl rfl (fun wq hS => R.sliceA (b := b_4) (off := 0) (off' := 0) (l := 0) (h := 128) rfl EvB.dflt EvB.dflt (by decide) (by decide) underlying29 sizeOf5 rfl) ?_
 refine WT.s (oN rfl ?_)
 refine WL.buildSl (vs := [(0, (.slice (some ⟨b_1, 0, none⟩) 32 32)), (1, (.slice a_13 8 cap_14)), (2, (.slice (some ⟨b_4, 0, none⟩) 128 128))]) (cs := [(.slice (some ⟨b_1, 0, none⟩) 32 32), (.slice a_13 8 cap_14), (.slice (some ⟨b_4, 0, none⟩) 128 128)]) h_20 underlying101 sizeOf54 (zv typeInfo54 rfl) rfl rfl (by kernel_rfl) rfl (by simp [Value.oneCell']) rfl rfl (fun b_22 w_23 h_24 => ?_)
 refine WL.nil ?_
 refine ⟨(SL.nil _ _), ?_⟩
 refine WT.s (oN rfl ?_)
 have hcp_25 := (h_24.own M1).2.2.1
 have h_26 := h_24.up J4
 have h_27 := HP_blkView h_26
 have h_28 := h_27.up J2
 have h_29 := h_28.rowView
 have h_30 := h_29.up J4
 have h_31 := HP_blkView h_30
 have h_32 := h_31.up J3
 have h_33 := HP_blkView h_32
 have hbl_34 : ∀ b ∈ sblks [(.slice (some ⟨b_1, 0, none⟩) 32 32), (.slice a_13 8 cap_14), (.slice (some ⟨b_4, 0, none⟩) 128 128)], ∃ e ∈ ((Ent.view (some ⟨b_22, 0, none⟩) [(.slice (some ⟨b_1, 0, none⟩) 32 32), (.slice a_13 8 cap_14), (.slice (some ⟨b_4, 0, none⟩) 128 128)] :: Ent.view (some ⟨b_4, 0, none⟩) (gr.map vu8) :: Ent.view a_13 ((leN 8 (UInt64.ofNat pg).toNat).map vu8) :: Ent.view (some ⟨b_1, 0, none⟩) (md.map vu8) :: Ent.blk b_7 .nw 23 [(32, (List.replicate 32 (0 : UInt8)).map vu8)] :: Ent.blk ob .nw 90 [(1, [(.bool id)]), (32, ms.map vu8), (1, [(.slice da dn dc)]), (1, [(vi ((u : Nat) : Int))]), (1, [(.map (some mp))]), (1, [(.slice la lg.length lc)])] :: Ent.row la lg.length lc 64 67 lx :: Ent.obj mp .nw (.map (mArr lg) lg.length) :: Ent.pin (sblks lx) (fun w => Lgs w lx lg) :: Ent.view da (df.map vu8) :: L) : List Ent), e.mut = false ∧ b ∈ e.blocks := by
  intro b hb
  rcases List.mem_append.1 hb with hb | hb
  ·exact ⟨_, M3, rfl, sblk_in_view hmd b hb⟩
  rcases List.mem_append.1 hb with hb | hb
  ·exact ⟨_, M2, rfl, sblk_in_view (leN_len ..) b hb⟩
  rcases List.mem_append.1 hb with hb | hb
  ·exact ⟨_, M1, rfl, sblk_in_view hgr b hb⟩
  cases hb
 have h_35 := HP_within (e' := .pin (sblks [(.slice (some ⟨b_1, 0, none⟩) 32 32), (.slice a_13 8 cap_14), (.slice (some ⟨b_4, 0, none⟩) 128 128)]) (fun w => Sls w [(.slice (some ⟨b_1, 0, none⟩) 32 32), (.slice a_13 8 cap_14), (.slice (some ⟨b_4, 0, none⟩) 128 128)] [md, leN 8 (UInt64.ofNat pg).toNat, gr])) h_33 (Sls.pin (Sls.cons hmd (by decide) (viewV (h_33.ok _ M3)) (Sls.cons (leN_len ..) hcp_25 (viewV (h_33.ok _ M2)) (Sls.cons hgr (by decide) (viewV (h_33.ok _ M1)) Sls.nil)))) rfl rfl hbl_34
 have h_42 := ((((((h_35.up J1).up J1).up J10).up J10).up J10).up J10).up J10
 have h32_w_46 := Lgs.ok32 (h_42.ok _ M3).1
 refine WL.call Try.call34 rfl rfl (c_oDigest id ob mp ms df hms da dn dc u hdf la lc lx lg hu hlg (some ⟨b_22, 0, none⟩) 3 3 [(.slice (some ⟨b_1, 0, none⟩) 32 32), (.slice a_13 8 cap_14), (.slice (some ⟨b_4, 0, none⟩) 128 128)] [md, leN 8 (UInt64.ofNat pg).toNat, gr] rfl 2 (by omega) (by simp only [List.flatten_cons, List.flatten_nil, List.length_append, List.length_nil, leN_len]; omega) (by omega) _ h_42) rfl ?_
 rintro _ w_46 ⟨la_43, lc_44, lx_45, rfl, h_47⟩
 refine WL.nil ?_
 refine ⟨(SL.nil _ _), ?_⟩
 refine qT rfl rfl (fun wq hS => R.extract rfl rfl) ?_
 refine qT rfl rfl (fun wq hS => R.extract rfl rfl) ?_
 refine WT.s (oN rfl ?_)
 refine WL.storeA [] [(32, (zB 32).map vu8)] [(32, (anD id df dn u lg (1, (zB 32), 2, [md, leN 8 (UInt64.ofNat pg).toNat, gr].flatten)).map vu8)] [] h_47 rfl rfl sizeOf23 Y10 (by decide) rfl rfl rfl rfl rfl rfl (sC (s8 (anD_len hdf h32_w_46)) sN) (fun w_48 h_49 => ?_)
 refine WL.nil ?_
 refine ⟨(SL.nil _ _), ?_⟩
 refine qT rfl rfl (fun wq hS => R.assign (v := (vi 0)) rfl) ?_
 refine WT.nil (thn_n (WP.ret ?_))
 refine ret_of results38 (RV.cell rfl (h_49.loadA (cs := (anD id df dn u lg (1, (zB 32), 2, [md, leN 8 (UInt64.ofNat pg).toNat, gr].flatten)).map vu8) isAgg23 sizeOf23 M10 rfl rfl) (RV.tmp (v := (vi 0)) rfl RV.nil)) ?_
 have h_66 := ((((((((((((((((h_49.up J5).drop rfl).up J5).drop rfl).up J5).drop rfl).up J5).drop rfl).up J5).drop rfl).up J5).drop rfl).up J4).up J4).up J4).up J4).up J4
 exact ⟨_, _, _, rfl, h_66⟩

theorem c_MayAll_0  (w : World) :
  Cs Try.prog 41 [(.slice none 0 0)].toArray w (fun v w1 => v = (.bool false) ∧ Chg w w1 []) := by
 refine Cs.of (n := 30) (args := [(.slice none 0 0)]) Try.func41 rfl rfl rfl ?_
 have h_0 := HP.init w
 refine WP.seq (WP.reg ?_)
 refine qA (.bool false) rfl rfl ?_
 refine WL.nil (thn_n (WP.scope (WP.seq (WP.reg ?_))))
 refine qM (.slice none 0 0) rfl rfl (qV rfl (R.lenS (a := none) (m := 0) rfl rfl underlying45) (qV rfl (R.bin rfl rfl (bi_gtr (r := false) (by decide))) (qA (.bool false) rfl rfl ?_)))
 refine WL.nil (thn_n (WP.seq (WP.label (thn_n (WP.seq (WP.seq (WP.reg ?_)))))))
 refine qM (.slice none 0 0) rfl rfl (qV rfl (R.lenS (a := none) (m := 0) rfl rfl underlying45) (qM (vi 0) rfl rfl ?_))
 refine WL.nil (thn_n (WP.block ?_))
 refine WP.loopU (WI.round ?_)
 refine WP.seq (WP.reg ?_)
 refine qV rfl (R.bin rfl rfl (bi_lss (r := false) (by decide))) ?_
 refine WL.nil (thn_n (WP.seq ?_))
 refine WP.condF rfl ?_
 refine WP.exit (thn_x (thn_x (inb_hit (thn_n (WP.seq (WP.reg ?_))))))
 refine qM (.bool false) rfl rfl (qA (.bool false) rfl rfl ?_)
 refine WL.nil (thn_n (WP.ret (ng_r ?_)))
 refine ret_of results41 (RV.tmp (v := (.bool false)) rfl RV.nil) ?_
 exact ⟨rfl, h_0.chgS⟩

theorem c_Replay_0 (id : Bool) (ob mp : Nat) (ms : List UInt8) (hms : ms.length = 32) (da : Option Addr) (dn dc u : Nat) (la : Option Addr) (ln lc : Nat) (w : World) (hcb : (Ent.blk ob .ro 90 [(1, [(.bool id)]), (32, ms.map vu8), (1, [(.slice da dn dc)]), (1, [(vi ((u : Nat) : Int))]), (1, [(.map (some mp))]), (1, [(.slice la ln lc)])]).ok w.heap.size w) :
  Cs Try.prog 18 [(.pointer (some ⟨ob, 0, none⟩)), (.slice none 0 0)].toArray w (fun v w1 => v = (.tuple [(.agg ⟨(List.replicate 32 (0 : UInt8)).map vu8⟩), (vi 2)].toArray) ∧ Chg w w1 []) := by
 refine Cs.of (n := 51) (args := [(pO ob 0), (.slice none 0 0)]) Try.func18 rfl rfl rfl ?_
 have h_0 := HP.init w
 have h_00 := h_0.old hcb (fun f hf => by cases hf)
 refine WP.seq (WP.reg ?_)
 refine WL.alloc (segs := [(32, (zB 32).map vu8)]) h_00 (zv typeInfo23 rfl) rfl (sC (s8 lr) sN) rfl (fun b_1 w_2 h_3 => ?_)
 refine qA (vi 0) rfl rfl ?_
 refine WL.nil (thn_n (WP.seq (WP.block (WP.seq (WP.reg ?_)))))
 refine qM (pO ob 0) rfl rfl ?_
 refine WL.call Try.call40 rfl rfl (c_mth id ob mp ms hms da dn dc u la ln lc _ (h_3.argR M1)) rfl ?_
 rintro _ w_5 ⟨rfl, hc_4⟩
 have h_6 := h_3.same hc_4
 refine qV rfl (R.not (b := true) rfl) (qA (.bool false) rfl rfl ?_)
 refine WL.nil (thn_n ?_)
 refine WP.condF rfl ?_
 refine WP.seq (WP.reg ?_)
 refine qM (.slice none 0 0) rfl rfl ?_
 refine WL.call Try.call41 rfl rfl (c_MayAll_0  _ ) rfl ?_
 rintro _ w_8 ⟨rfl, hc_7⟩
 have h_9 := h_6.same hc_7
 refine qV rfl (R.not (b := false) rfl) (qA (.bool true) rfl rfl ?_)
 refine WL.nil (thn_n ?_)
 refine WP.condT rfl ?_
 refine WP.seq (WP.reg ?_)
 refine qV rfl (R.buildA (vs := []) (cs := (zB 32).map vu8) underlying23 sizeOf5 (zv typeInfo23 rfl) rfl rfl) ?_
 refine WL.storeA [] [(32, (zB 32).map vu8)] [(32, (zB 32).map vu8)] [] h_9 rfl rfl sizeOf23 At.h (by decide) rfl rfl rfl rfl rfl rfl (sC (s8 lr) sN) (fun w_10 h_11 => ?_)
 refine qA (vi 2) rfl rfl ?_
 refine WL.nil (thn_n (WP.ret (inb_r (thn_r ?_))))
 refine ret_of results18 (RV.cell rfl (h_11.loadA (cs := (zB 32).map vu8) isAgg23 sizeOf23 M0 rfl rfl) (RV.tmp (v := (vi 2)) rfl RV.nil)) ?_
 exact ⟨rfl, h_11.chgS⟩

theorem c_addings  (w : World) :
  Cs Try.prog 63 [].toArray w (fun v w1 => ∃ b, v = .map (some b) ∧ Chg w w1 [] ∧ w1.heap[b]? = some (.map (#[{ key := (vi 2), val := (Value.func (Fn.func 75) [].toArray [].toArray), born := 0 }, { key := (vi 3), val := (Value.func (Fn.func 76) [].toArray [].toArray), born := 1 }]) 2) ∧ w.heap.size ≤ b) := by
 refine Cs.of (n := 3) (args := []) Try.func63 rfl rfl rfl ?_
 have h_0 := HP.init w
 refine WP.seq (WP.reg ?_)
 refine qA (.map none) rfl rfl ?_
 refine WL.nil (thn_n (WP.seq (WP.reg ?_)))
 refine WL.makeMap h_0 rfl (fun b_1 w_2 h_3 => ?_)
 refine WL.insert (k := (vi 2)) (v := (Value.func (Fn.func 75) [].toArray [].toArray)) h_3 rfl rfl rfl underlying115 At.h (by decide) (Ck.int underlying81) (Fk.int underlying81 rfl) (fun w_4 h_5 => ?_)
 refine WL.insert (k := (vi 3)) (v := (Value.func (Fn.func 76) [].toArray [].toArray)) h_5 rfl rfl rfl underlying115 At.h (by decide) (Ck.int underlying81) (Fk.int underlying81 rfl) (fun w_6 h_7 => ?_)
 refine qM (.map (some b_1)) rfl rfl (qA (.map (some b_1)) rfl rfl ?_)
 refine WL.nil (thn_n (WP.ret ?_))
 refine ret_of results63 (RV.tmp (v := (.map (some b_1))) rfl RV.nil) ?_
 exact ⟨_, rfl, h_7.chgS, (h_7.ok _ M0).1, (h_7.ok _ M0).2⟩

theorem c_num12 (e : Int) (be : -9223372036854775808 ≤ e ∧ e < 9223372036854775808) (w : World) :
  Cs Try.prog 19 [(vi e)].toArray w (fun v w1 => v = vi e ∧ Chg w w1 []) := by
 refine Cs.of (n := 4) (args := [(vi e)]) Try.func19 rfl rfl rfl ?_
 have h_0 := HP.init w
 refine WP.seq (WP.reg ?_)
 refine qA (vi 0) rfl rfl ?_
 refine WL.nil (thn_n (WP.seq (WP.reg ?_)))
 refine qM (vi e) rfl rfl (qA (vi e) rfl rfl ?_)
 refine WL.nil (thn_n (WP.ret ?_))
 refine ret_of results19 (RV.tmp (v := (vi e)) rfl RV.nil) ?_
 exact ⟨rfl, h_0.chgS⟩

theorem c_dr1  (w : World) :
  Cs Try.prog 36 [(vu8 1)].toArray w (fun v w1 => v = (.agg ⟨([1, 0, 0, 0, 0, 0, 0, 0, 0, 0, 0, 0, 0, 0, 0, 0, 0, 0, 0, 0, 0, 0, 0, 0, 0, 0, 0, 0, 0, 0, 0, 2] : List UInt8).map vu8⟩) ∧ Chg w w1 []) := by
 refine Cs.of (n := 5) (args := [(vu8 1)]) Try.func36 rfl rfl rfl ?_
 have h_0 := HP.init w
 refine WP.seq (WP.reg ?_)
 refine WL.alloc (segs := [(32, (zB 32).map vu8)]) h_0 (zv typeInfo23 rfl) rfl (sC (s8 lr) sN) rfl (fun b_1 w_2 h_3 => ?_)
 refine WL.nil (thn_n (WP.seq (WP.reg ?_)))
 refine qM (vu8 1) rfl rfl (qV rfl (R.buildA (vs := [(0, (vu8 1)), (31, (vu8 2))]) (cs := ([1, 0, 0, 0, 0, 0, 0, 0, 0, 0, 0, 0, 0, 0, 0, 0, 0, 0, 0, 0, 0, 0, 0, 0, 0, 0, 0, 0, 0, 0, 0, 2] : List UInt8).map vu8) underlying23 sizeOf5 (zv typeInfo23 rfl) rfl rfl) ?_)
 refine WL.storeA [] [(32, (zB 32).map vu8)] [(32, ([1, 0, 0, 0, 0, 0, 0, 0, 0, 0, 0, 0, 0, 0, 0, 0, 0, 0, 0, 0, 0, 0, 0, 0, 0, 0, 0, 0, 0, 0, 0, 2] : List UInt8).map vu8)] [] h_3 rfl rfl sizeOf23 At.h (by decide) rfl rfl rfl rfl rfl rfl (sC (s8 (rfl : List.length ([1, 0, 0, 0, 0, 0, 0, 0, 0, 0, 0, 0, 0, 0, 0, 0, 0, 0, 0, 0, 0, 0, 0, 0, 0, 0, 0, 0, 0, 0, 0, 2] : List UInt8) = 32)) sN) (fun w_4 h_5 => ?_)
 refine WL.nil (thn_n (WP.ret ?_))
 refine ret_of results36 (RV.cell rfl (h_5.loadA (cs := ([1, 0, 0, 0, 0, 0, 0, 0, 0, 0, 0, 0, 0, 0, 0, 0, 0, 0, 0, 0, 0, 0, 0, 0, 0, 0, 0, 0, 0, 0, 0, 2] : List UInt8).map vu8) isAgg23 sizeOf23 M0 rfl rfl) RV.nil) ?_
 exact ⟨rfl, h_5.chgS⟩

theorem c_dr2  (w : World) :
  Cs Try.prog 36 [(vu8 2)].toArray w (fun v w1 => v = (.agg ⟨([2, 0, 0, 0, 0, 0, 0, 0, 0, 0, 0, 0, 0, 0, 0, 0, 0, 0, 0, 0, 0, 0, 0, 0, 0, 0, 0, 0, 0, 0, 0, 2] : List UInt8).map vu8⟩) ∧ Chg w w1 []) := by
 refine Cs.of (n := 5) (args := [(vu8 2)]) Try.func36 rfl rfl rfl ?_
 have h_0 := HP.init w
 refine WP.seq (WP.reg ?_)
 refine WL.alloc (segs := [(32, (zB 32).map vu8)]) h_0 (zv typeInfo23 rfl) rfl (sC (s8 lr) sN) rfl (fun b_1 w_2 h_3 => ?_)
 refine WL.nil (thn_n (WP.seq (WP.reg ?_)))
 refine qM (vu8 2) rfl rfl (qV rfl (R.buildA (vs := [(0, (vu8 2)), (31, (vu8 2))]) (cs := ([2, 0, 0, 0, 0, 0, 0, 0, 0, 0, 0, 0, 0, 0, 0, 0, 0, 0, 0, 0, 0, 0, 0, 0, 0, 0, 0, 0, 0, 0, 0, 2] : List UInt8).map vu8) underlying23 sizeOf5 (zv typeInfo23 rfl) rfl rfl) ?_)
 refine WL.storeA [] [(32, (zB 32).map vu8)] [(32, ([2, 0, 0, 0, 0, 0, 0, 0, 0, 0, 0, 0, 0, 0, 0, 0, 0, 0, 0, 0, 0, 0, 0, 0, 0, 0, 0, 0, 0, 0, 0, 2] : List UInt8).map vu8)] [] h_3 rfl rfl sizeOf23 At.h (by decide) rfl rfl rfl rfl rfl rfl (sC (s8 (rfl : List.length ([2, 0, 0, 0, 0, 0, 0, 0, 0, 0, 0, 0, 0, 0, 0, 0, 0, 0, 0, 0, 0, 0, 0, 0, 0, 0, 0, 0, 0, 0, 0, 2] : List UInt8) = 32)) sN) (fun w_4 h_5 => ?_)
 refine WL.nil (thn_n (WP.ret ?_))
 refine ret_of results36 (RV.cell rfl (h_5.loadA (cs := ([2, 0, 0, 0, 0, 0, 0, 0, 0, 0, 0, 0, 0, 0, 0, 0, 0, 0, 0, 0, 0, 0, 0, 0, 0, 0, 0, 0, 0, 0, 0, 2] : List UInt8).map vu8) isAgg23 sizeOf23 M0 rfl rfl) RV.nil) ?_
 exact ⟨rfl, h_5.chgS⟩

end Go.Proofs.Yteclkcpdclimnaa

namespace Go.Proofs.Yteclkcpdclimnaa
open Go.Proofs.Try
open Go.Vc Go.Orc Go.Sh Go.RowKit
set_option maxRecDepth 20000
theorem el101 : ElT Try.prog 101 54 1 24 := ElT.mk' underlying101 (i := Try.t54) rfl rfl rfl rfl rfl rfl
theorem flat_take {ls : List (List UInt8)} {k : Nat} (h : k < ls.length) : (ls.take (k + 1)).flatten = (ls.take k).flatten ++ ls.getD k [] := by
 rw [take_snoc ls k [] h, List.flatten_append]; simp
theorem flat_take_le (ls : List (List UInt8)) (k : Nat) : ((ls.take k).flatten).length ≤ ls.flatten.length := by
 have h : ls.flatten = (ls.take k).flatten ++ (ls.drop k).flatten := by rw [← List.flatten_append, List.take_append_drop]
 rw [h, List.length_append]; omega
theorem ovr_ovr {α : Type} {g A B : List α} {i : Nat} (h : i + A.length + B.length ≤ g.length) : ovr (ovr g i A) (i + A.length) B = ovr g i (A ++ B) := by
 have h1 : (g.take i ++ A).length = i + A.length := by rw [List.length_append, List.length_take]; omega
 have e : ovr g i A = (g.take i ++ A) ++ g.drop (i + A.length) := by rw [ovr, List.append_assoc]
 rw [e, ovr, ← h1, List.take_left, List.drop_append, h1, List.drop_of_length_le (by omega), List.nil_append, List.drop_drop, ovr]
 simp only [List.append_assoc, List.length_append]
 congr 4; omega
theorem gr_B {C : List UInt8} (h : C.length ≤ 128) : ovr (List.replicate 128 (0 : UInt8)) 0 C = C ++ List.replicate (128 - C.length) (0 : UInt8) := by
 rw [ovr, List.take_zero, List.nil_append, Nat.zero_add, List.drop_replicate]
theorem gr_P {A B : List UInt8} (hA : A.length ≤ 8) (hB : B.length ≤ 120) : ovr (ovr (List.replicate 128 (0 : UInt8)) 0 A) 8 B = (A ++ List.replicate (8 - A.length) (0 : UInt8)) ++ B ++ List.replicate (120 - B.length) (0 : UInt8) := by
 have e : List.replicate (128 - A.length) (0 : UInt8) = List.replicate (8 - A.length) (0 : UInt8) ++ List.replicate 120 (0 : UInt8) := by
  rw [List.replicate_append_replicate]; congr 1; omega
 have l8 : (A ++ List.replicate (8 - A.length) (0 : UInt8)).length = 8 := by rw [List.length_append, List.length_replicate]; omega
 rw [gr_B (by omega), e, ← List.append_assoc, ovr]
 conv => lhs; rw [show ((A ++ List.replicate (8 - A.length) (0 : UInt8)) ++ List.replicate 120 (0 : UInt8)).take 8 = (A ++ List.replicate (8 - A.length) (0 : UInt8)) from List.take_left' l8]
 rw [← List.drop_drop, List.drop_left' l8, List.drop_replicate]
 simp only [List.append_assoc]
def recL (pc : UInt64) (rg : List UInt64) (run : Bool) : List (List UInt8) := [leN 8 pc.toNat, leN 8 (rg.getD 0 0).toNat, leN 8 (rg.getD 1 0).toNat, leN 8 (rg.getD 2 0).toNat, leN 8 (rg.getD 3 0).toNat, leN 8 (rg.getD 4 0).toNat, leN 8 (rg.getD 5 0).toNat, leN 8 (rg.getD 6 0).toNat, leN 8 (rg.getD 7 0).toNat] ++ (bif run then [[1]] else [])
def recP (pc : UInt64) (rg : List UInt64) (run : Bool) : List UInt8 := ovr (ovr (List.replicate 128 (0 : UInt8)) 0 ([114, 101, 99] : List UInt8)) 8 (recL pc rg run).flatten
def regsB (rg : List UInt64) : List UInt8 := ((((((((([] : List UInt8) ++ leN 8 (rg.getD 0 0).toNat) ++ leN 8 (rg.getD 1 0).toNat) ++ leN 8 (rg.getD 2 0).toNat) ++ leN 8 (rg.getD 3 0).toNat) ++ leN 8 (rg.getD 4 0).toNat) ++ leN 8 (rg.getD 5 0).toNat) ++ leN 8 (rg.getD 6 0).toNat) ++ leN 8 (rg.getD 7 0).toNat)
theorem regsB_len (rg : List UInt64) : (regsB rg).length = 64 := by simp [regsB, leN_len]
def recB (pc : UInt64) (rg : List UInt64) (run : Bool) : List UInt8 := ovr (List.replicate 128 (0 : UInt8)) 0 [(([114, 101, 99] : List UInt8) ++ List.replicate (8 - 3) (0 : UInt8)), leN 8 pc.toNat, regsB rg, [bif run then 1 else 0]].flatten
theorem recB_fl (pc : UInt64) (rg : List UInt64) (run : Bool) : ([(([114, 101, 99] : List UInt8) ++ List.replicate (8 - 3) (0 : UInt8)), leN 8 pc.toNat, regsB rg, [bif run then 1 else 0]].flatten).length = 81 := by
 simp [leN_len, regsB_len]
theorem recB_len (pc : UInt64) (rg : List UInt64) (run : Bool) : (recB pc rg run).length = 128 := ovr_len lr (by rw [recB_fl]; decide)
theorem recP_fl (pc : UInt64) (rg : List UInt64) (run : Bool) : ((recL pc rg run).flatten).length = 72 + run.toNat := by
 cases run <;> simp [recL, leN_len]
theorem rec_eq (pc : UInt64) (rg : List UInt64) (run : Bool) : recP pc rg run = recB pc rg run := by
 rw [recP, recB, gr_P (by decide) (by rw [recP_fl]; cases run <;> decide), gr_B (by rw [recB_fl]; decide), recP_fl, recB_fl]
 cases run <;> simp [recL, regsB]

theorem c_pword (x : UInt64) (w : World) :
  Cs Try.prog 112 [(vu64 x)].toArray w (fun v w1 => ∃ a cap, v = .slice a 8 cap ∧ Chg w w1 [] ∧ Own w.heap.size w1 5 1 a 8 cap ((leN 8 x.toNat).map vu8)) := by
 refine Cs.of (n := 11) (args := [(vu64 x)]) Try.func112 rfl rfl rfl ?_
 have h_0 := HP.init w
 refine WP.seq (WP.reg ?_)
 refine qA (.slice none 0 0) rfl rfl ?_
 refine WL.nil (thn_n (WP.seq (WP.reg ?_)))
 refine qM (vu64 x) rfl rfl ?_
 refine WL.call Try.call61 rfl rfl (c_Put_b x 8 rfl _) rfl ?_
 rintro _ w_3 ⟨a_1, cap_2, rfl, hc_4, ho_5⟩
 have h_6 := h_0.gotRow hc_4 ho_5
 refine qM (.tuple [(.slice a_1 8 cap_2), (vi 0)].toArray) rfl rfl (qV rfl (R.extract rfl rfl) (qV rfl (R.extract rfl rfl) (qA (.slice a_1 8 cap_2) rfl rfl (qA (vi 0) rfl rfl ?_))))
 refine WL.nil (thn_n (WP.seq (WP.reg ?_)))
 refine qM (.slice a_1 8 cap_2) rfl rfl (qA (.slice a_1 8 cap_2) rfl rfl ?_)
 refine WL.nil (thn_n (WP.ret ?_))
 refine ret_of results112 (RV.tmp (v := (.slice a_1 8 cap_2)) rfl RV.nil) ?_
 exact ⟨_, _, rfl, h_6.chgS, h_6.ok _ M0⟩

theorem c_gran1 (a : Option Addr) (n cap : Nat) (bs : List UInt8) (hl : bs.length = n) (ba bg : Nat) (Ta Tg : TypeId) (at_ : Nat) (g : List UInt8) (hg : g.length = 128) (hat : at_ + n ≤ 128) (hat1 : at_ < 128) (w : World) (hba : (Ent.blk ba .ar Ta [(1, [vi (at_ : Int)])]).ok w.heap.size w) (hbg : (Ent.blk bg .ar Tg [(128, g.map vu8)]).ok w.heap.size w) (hne : bg ≠ ba) (hv : View w a (bs.map vu8)) (hs1 : Sep (.view a (bs.map vu8)) (.blk bg .ar Tg [(128, g.map vu8)])) (hs2 : Sep (.view a (bs.map vu8)) (.blk ba .ar Ta [(1, [vi (at_ : Int)])])) :
  Cs Try.prog 117 [(.slice a n cap), (.pointer (some ⟨ba, 0, none⟩)), (.pointer (some ⟨bg, 0, none⟩))].toArray w (fun v w1 => v = .tuple [].toArray ∧ Chg w w1 [bg, ba] ∧ CellsAt w1 bg Tg (flat [(128, (ovr g at_ bs).map vu8)]) ∧ CellsAt w1 ba Ta (flat [(1, [vi ((at_ + n : Nat) : Int)])])) := by
 refine Cs.of (n := 10) (args := [(.slice a n cap), (pO ba 0), (pO bg 0)]) Try.func117 rfl rfl rfl ?_
 have h_0 := HP.init w
 have h_02 := h_0.old hba (fun f hf => by cases hf)
 have h_01 := h_02.old hbg (fun f hf => by rw [List.mem_singleton] at hf; subst hf; intro _ b hb hb2; rw [Ent.blocks, List.mem_singleton] at hb hb2; exact hne (hb.symm.trans hb2))
 have h_00 := h_01.old (View.arg hv) (fun f hf => by
  rcases List.mem_cons.1 hf with rfl | hf
  ·exact hs1
  ·rw [List.mem_singleton] at hf; subst hf; exact hs2)
 refine WP.cutG (G := Unit) [4, 5, 6, 7, 8, 9] (fun _ => [(7, (.slice a n cap)), (4, (vn at_)), (5, (vn at_)), (6, (.slice (some ⟨bg, (0 + at_), none⟩) (128 - at_) (128 - at_))), (8, (vn n)), (9, (vn (at_ + n)))]) (fun _ w1 => HP w w1 [.view a (bs.map vu8), .blk bg .ar Tg [(128, (ovr g at_ bs).map vu8)], .blk ba .ar Ta [(1, [(vn (at_ + n))])]]) ?_ ?_
 ·refine WP.drawZ 6 (SL w.heap.size [.view a (bs.map vu8), .blk ba .ar Ta [(1, [(vn at_)])]]) (.q 3 (.s2 0 1 (.s 1 (.q 2 (.s 4 (.q 5 (.s 6 .nil))))) (.q 2 (.s2 0 4 (.s 4 (.q 5 (.s 6 .nil))) (.s 0 (.q 5 (.s 6 .nil))))))) (by kernel_rfl) (by kernel_rfl) rfl (by kernel_rfl) (fun w_1 hc_3 => (SL.cons ((h_00.same hc_3).ok _ M0) (SL.cons ((h_00.same hc_3).ok _ M2) (SL.nil _ _)))) (fun w_1 hc_3 => ?_)
  have h_2 := h_00.same hc_3
  refine ZT.q rfl (Wn.no rfl) rfl rfl (fun wq hS => R.move (v := (.slice a n cap)) rfl) ?_
  refine ZT.s2 ?_ ?_
  ·refine OpZ.one rfl (Wn.no rfl) ?_
   refine qV rfl (R.load1 rfl isAgg3 (h_2.ok _ M2) Sg.h) ?_
   refine WL.nil ?_
   refine ⟨(N0_2 h_2.ok), ?_⟩
   refine ZT.s ?_
   refine OpZ.one rfl (Wn.no rfl) ?_
   refine qV rfl (R.load1 rfl isAgg3 (h_2.ok _ M2) Sg.h) ?_
   refine WL.nil ?_
   refine ⟨(N0_2 h_2.ok), ?_⟩
   refine ZT.q rfl (Wn.no rfl) rfl rfl (fun wq hS => R.sliceA (b := bg) (off := 0) (off' := (0 + at_)) (l := at_) (h := 128) rfl (EvB.it (l := at_) rfl rfl) EvB.dflt (by omega) (by decide) underlying29 sizeOf5 (by rw [if_neg (by omega), Nat.mul_one])) ?_
   refine ZT.s ?_
   refine OpZ.one rfl (Wn.no rfl) ?_
   refine WL.copy (q := n) (i := at_) (ys := bs.map vu8) (cs' := (ovr g at_ bs).map vu8) h_2 rfl rfl underlying54 sizeOf5 (viewV (h_2.ok _ M0)) (len_map hl) (one_u8 _) Y1 (by decide) Sg.h rfl (Nat.min_eq_left (by omega)) (by rw [len_map hg]; omega) (cpOvr hl) rfl (fun w_4 h_5 => ?_)
   refine WL.nil ?_
   refine ⟨(N0_2 h_5.ok), ?_⟩
   refine ZT.q rfl (Wn.no rfl) rfl rfl (fun wq hS => R.bin rfl rfl (bi_add (c := ((at_ + n : Nat) : Int)) (by omega) (by omega))) ?_
   refine ZT.s ?_
   refine OpZ.last rfl (Wn.no rfl) ?_
   refine WL.store1 h_5 rfl rfl sizeOf3 rfl Y2 (by decide) Sg.h (fun w_6 h_7 => ?_)
   refine WL.nil (ZT.nil (thn_n ?_))
   exact ⟨(), (U2 rfl rfl (U4 rfl rfl rfl rfl (Ag.refl _ _))), ⟨rfl, rfl, rfl, rfl, rfl, rfl, trivial⟩, h_7⟩
  ·refine OpZ.one rfl (Wn.no rfl) ?_
   refine qV rfl (R.load1 rfl isAgg3 (h_2.ok _ M2) Sg.h) ?_
   refine WL.nil ?_
   refine ⟨(N0_2 h_2.ok), ?_⟩
   refine ZT.q rfl (Wn.no rfl) rfl rfl (fun wq hS => R.sliceA (b := bg) (off := 0) (off' := (0 + at_)) (l := at_) (h := 128) rfl (EvB.it (l := at_) rfl rfl) EvB.dflt (by omega) (by decide) underlying29 sizeOf5 (by rw [if_neg (by omega), Nat.mul_one])) ?_
   refine ZT.s2 ?_ ?_
   ·refine OpZ.one rfl (Wn.no rfl) ?_
    refine qV rfl (R.load1 rfl isAgg3 (h_2.ok _ M2) Sg.h) ?_
    refine WL.nil ?_
    refine ⟨(N0_2 h_2.ok), ?_⟩
    refine ZT.s ?_
    refine OpZ.one rfl (Wn.no rfl) ?_
    refine WL.copy (q := n) (i := at_) (ys := bs.map vu8) (cs' := (ovr g at_ bs).map vu8) h_2 rfl rfl underlying54 sizeOf5 (viewV (h_2.ok _ M0)) (len_map hl) (one_u8 _) Y1 (by decide) Sg.h rfl (Nat.min_eq_left (by omega)) (by rw [len_map hg]; omega) (cpOvr hl) rfl (fun w_8 h_9 => ?_)
    refine WL.nil ?_
    refine ⟨(N0_2 h_9.ok), ?_⟩
    refine ZT.q rfl (Wn.no rfl) rfl rfl (fun wq hS => R.bin rfl rfl (bi_add (c := ((at_ + n : Nat) : Int)) (by omega) (by omega))) ?_
    refine ZT.s ?_
    refine OpZ.last rfl (Wn.no rfl) ?_
    refine WL.store1 h_9 rfl rfl sizeOf3 rfl Y2 (by decide) Sg.h (fun w_10 h_11 => ?_)
    refine WL.nil (ZT.nil (thn_n ?_))
    exact ⟨(), (U2 rfl rfl (U4 rfl rfl rfl rfl (Ag.refl _ _))), ⟨rfl, rfl, rfl, rfl, rfl, rfl, trivial⟩, h_11⟩
   ·refine OpZ.one rfl (Wn.no rfl) ?_
    refine WL.copy (q := n) (i := at_) (ys := bs.map vu8) (cs' := (ovr g at_ bs).map vu8) h_2 rfl rfl underlying54 sizeOf5 (viewV (h_2.ok _ M0)) (len_map hl) (one_u8 _) Y1 (by decide) Sg.h rfl (Nat.min_eq_left (by omega)) (by rw [len_map hg]; omega) (cpOvr hl) rfl (fun w_12 h_13 => ?_)
    refine WL.nil ?_
    refine ⟨(N0_2 h_13.ok), ?_⟩
    refine ZT.s ?_
    refine OpZ.one rfl (Wn.no rfl) ?_
    refine qV rfl (R.load1 rfl isAgg3 (h_13.ok _ M2) Sg.h) ?_
    refine WL.nil ?_
    refine ⟨(N0_2 h_13.ok), ?_⟩
    refine ZT.q rfl (Wn.no rfl) rfl rfl (fun wq hS => R.bin rfl rfl (bi_add (c := ((at_ + n : Nat) : Int)) (by omega) (by omega))) ?_
    refine ZT.s ?_
    refine OpZ.last rfl (Wn.no rfl) ?_
    refine WL.store1 h_13 rfl rfl sizeOf3 rfl Y2 (by decide) Sg.h (fun w_14 h_15 => ?_)
    refine WL.nil (ZT.nil (thn_n ?_))
    exact ⟨(), (U2 rfl rfl (U4 rfl rfl rfl rfl (Ag.refl _ _))), ⟨rfl, rfl, rfl, rfl, rfl, rfl, trivial⟩, h_15⟩
 ·rintro _ J_16 w_17 h_18
  refine ret_n ?_
  refine ret_of results117 RV.nil ?_
  exact ⟨rfl, h_18.chgS, (h_18.ok _ M1).2.1, (h_18.ok _ M2).2.1⟩

theorem c_gran (m : Nat) (l : List UInt8) (hlm : l.length = m) (hm : m ≤ 8) (a : Option Addr) (n cap : Nat) (xs : List Value) (ls : List (List UInt8)) (hln : ls.length = n) (hb : ls.flatten.length ≤ 119) (hnb : n ≤ 1099511627776) (w : World) (hv : View w a xs) (hs : Sls w xs ls) :
  Cs Try.prog 113 [(.string (bstr l)), (.slice a n cap)].toArray w (fun v w1 => v = .agg ⟨(ovr (ovr (List.replicate 128 (0 : UInt8)) 0 l) 8 ls.flatten).map vu8⟩ ∧ Chg w w1 []) := by
 refine Cs.of (n := 28) (args := [(.string (bstr l)), (.slice a n cap)]) Try.func113 rfl rfl rfl ?_
 have h_0 := HP.init w
 have h_01 := h_0.old (View.arg hv) (fun f hf => by cases hf)
 have h_00 := h_01.old hs.pin (fun f hf => by rw [List.mem_singleton] at hf; subst hf; intro hm; simp [Ent.mut] at hm)
 have hxl : xs.length = n := hs.len.trans hln
 refine WP.seq (WP.reg ?_)
 refine WL.alloc (segs := [(128, (zB 128).map vu8)]) h_00 (zv typeInfo29 rfl) rfl (sC (s8 lr) sN) rfl (fun b_1 w_2 h_3 => ?_)
 refine WL.nil (thn_n (WP.seq (WP.reg ?_)))
 refine qV rfl (R.sliceA (b := b_1) (off := 0) (off' := 0) (l := 0) (h := 128) rfl EvB.dflt EvB.dflt (by decide) (by decide) underlying29 sizeOf5 rfl) (qM (.string (bstr l)) rfl rfl ?_)
 refine WL.copyS (q := m) (i := 0) (bs := l) (cs' := (ovr (zB 128) 0 l).map vu8) h_3 rfl rfl underlying54 sizeOf5 hlm At.h (by decide) Sg.h rfl (Nat.min_eq_left (by omega)) (by rw [len_map lr]; omega) (cpOvr hlm) rfl (fun w_4 h_5 => ?_)
 refine qM (.string (bstr l)) rfl rfl (qV rfl (R.lenStrL (l := l) (m := m) rfl rfl underlying9 hlm) (qV rfl (R.bin rfl rfl (bi_sub (c := ((m - m : Nat) : Int)) (by omega) (by omega))) (qV rfl (R.bin rfl rfl (bi_add (c := (((m - m) + 8 : Nat) : Int)) (by omega) (by omega))) ?_)))
 refine WL.alloc (segs := [(1, [(vi 0)])]) h_5 (zv typeInfo3 rfl) rfl (sC sV sN) rfl (fun b_6 w_7 h_8 => ?_)
 refine WL.store1 h_8 rfl rfl sizeOf3 rfl At.h (by decide) Sg.h (fun w_9 h_10 => ?_)
 refine WL.nil (thn_n (WP.seq (WP.reg ?_)))
 refine qV rfl (R.makeFuncL (fi := []) (ca := [(pO b_6 0), (pO b_1 0)]) rfl rfl) (qA (Value.func (Fn.func 117) [].toArray [(Value.pointer (some ⟨b_6, 0, none⟩)), (Value.pointer (some ⟨b_1, 0, none⟩))].toArray) rfl rfl ?_)
 refine WL.nil (thn_n (WP.seq (WP.seq (WP.reg ?_))))
 refine qM (.slice a n cap) rfl rfl (qV rfl (R.lenS (a := a) (m := n) rfl rfl underlying101) (qM (vi 0) rfl rfl ?_))
 refine WL.nil (thn_n (WP.block ?_))
 refine WP.loopG (G := Nat) [8, 19, 20, 21, 22, 23, 24, 25, 26] (fun k => [(19, (vn k))]) (fun k m w1 => HP w w1 [.blk b_6 .nw 3 [(1, [(vn (8 + ((ls.take k).flatten).length))])], .blk b_1 .nw 29 [(128, (ovr (ovr (zB 128) 0 l) 8 ((ls.take k).flatten)).map vu8)], .pin (sblks xs) (fun w => Sls w xs ls), .view a xs] ∧ (k ≤ n) ∧ m = n - k) ⟨0, _, ⟨rfl, trivial⟩, (by rw [show m - m + 8 = 8 + ((ls.take 0).flatten).length by simp, show ovr (zB 128) 0 l = ovr (ovr (zB 128) 0 l) 8 ((ls.take 0).flatten) from ovr_nil.symm] at h_10; exact h_10), Nat.zero_le _, rfl⟩ ?_
 rintro k m_13 J_14 w_11 ⟨h_12, hk, rfl⟩
 refine WP.seq (WP.reg ?_)
 refine qV rfl (R.bin rfl rfl (bi_lss (r := decide ((((k : Nat) : Int) : Int) < ((n : Nat) : Int))) rfl)) ?_
 refine WL.nil (thn_n (WP.seq ?_))
 refine WP.cond (b := decide ((((k : Nat) : Int) : Int) < ((n : Nat) : Int))) rfl (fun c_15 => ?_) (fun c_15 => ?_)
 ·have p_16 := of_decide_eq_true c_15
  refine WP.skip (thn_n (WP.seq (WP.block (WP.seq (WP.reg ?_)))))
  refine qV rfl (R.indexS (a := a) (i := k) (off := k) (xs := xs) rfl rfl rfl (by omega) (viewV (h_12.ok _ M3)) (by omega) underlying101 sizeOf54 (Nat.mul_one _).symm) ?_
  obtain ⟨a_17, n_18, c_19, hx_20, hl_21, hn_22, hv_23, hb_24⟩ := Sls.get (i := k) (h_12.ok _ M2).1 (by rw [hln]; omega)
  have h_25 := h_12.within (e' := .view a_17 ((ls.getD k []).map vu8)) M2 rfl (View.arg hv_23) rfl rfl (fun b hb_ => hb_24 _ (view_sblk hl_21 b hb_))
  refine qV rfl (R.loadG rfl (viewV (h_25.ok _ M4)) isAgg54 hx_20) (qA (.slice a_17 n_18 c_19) rfl rfl ?_)
  refine WL.nil (thn_n (WP.reg ?_))
  refine qM (Value.func (Fn.func 117) [].toArray [(Value.pointer (some ⟨b_6, 0, none⟩)), (Value.pointer (some ⟨b_1, 0, none⟩))].toArray) rfl rfl (qM (.slice a_17 n_18 c_19) rfl rfl ?_)
  have hleA := flat_take_le ls (k + 1)
  rw [flat_take (by omega), List.length_append] at hleA
  refine WL.call Try.call117 rfl rfl (c_gran1 a_17 n_18 c_19 (ls.getD k []) hl_21 b_6 b_1 3 29 (8 + ((ls.take k).flatten).length) (ovr (ovr (zB 128) 0 l) 8 ((ls.take k).flatten)) (ovr_len (ovr_len lr (by omega)) (by have := flat_take_le ls k; omega)) (by have e := flat_take (ls := ls) (k := k) (by omega); have hle := flat_take_le ls (k + 1); rw [e, List.length_append] at hle; omega) (by have := flat_take_le ls k; omega) _ (h_25.arg M1) (h_25.arg M2) (fun e => (h_25.ne (i := 1) (j := 2) rfl rfl rfl).symm (.inl rfl) _ (List.mem_singleton.2 rfl) (List.mem_singleton.2 e)) (viewV (h_25.ok _ M0)) (Sep.view (by decide) (fun h => h) (h_25.ne (i := 0) (j := 2) rfl rfl rfl)) (Sep.view (by decide) (fun h => h) (h_25.ne (i := 0) (j := 1) rfl rfl rfl))) rfl ?_
  rintro _ w_26 ⟨rfl, hc_27, hk_28, hk_29⟩
  have h_30 := h_25.setAll (Rp.same (Rp.blk (h_25.ok _ M1).2.2 (by decide) (sC sV sN) hk_29 (Rp.blk (h_25.ok _ M2).2.2 (by decide) (sC (s8 (ovr_len (ovr_len (ovr_len lr (by omega)) (by have := flat_take_le ls k; omega)) (by rw [hl_21]; omega))) sN) hk_28 (Rp.same (Rp.same Rp.nil))))) (hc_27.mono (by intro x hx; simp at hx ⊢; omega))
  refine WL.nil (inb_n (thn_n (WP.reg ?_)))
  refine qV rfl (R.bin rfl rfl (bi_add (c := ((k + 1 : Nat) : Int)) (by omega) (by omega))) (qM (vn (k + 1)) rfl rfl ?_)
  refine WL.nil (thn_n ?_)
  have h_31 := h_30.drop rfl
  have e := flat_take (ls := ls) (k := k) (by omega)
  have hle := flat_take_le ls (k + 1)
  rw [e, List.length_append] at hle
  have eg : ovr (ovr (ovr (List.replicate 128 (0 : UInt8)) 0 l) 8 ((ls.take k).flatten)) (8 + ((ls.take k).flatten).length) (ls.getD k []) = ovr (ovr (List.replicate 128 (0 : UInt8)) 0 l) 8 ((ls.take (k + 1)).flatten) := by rw [ovr_ovr (by rw [ovr_len (K := 128) lr (by omega)]; omega), e]
  have ea : 8 + ((ls.take k).flatten).length + n_18 = 8 + ((ls.take (k + 1)).flatten).length := by rw [e, List.length_append]; omega
  rw [eg, ea] at h_31
  exact ⟨k + 1, _, (by omega), (Ag.upd rfl (U4 rfl rfl rfl rfl (U4 rfl rfl rfl rfl (Ag.updL rfl (Ag.mix _ _ _))))), ⟨rfl, trivial⟩, h_31, (by omega), rfl⟩
 ·have p_32 := of_decide_eq_false c_15
  refine WP.exit (thn_x (thn_x (inb_hit (thn_n (WP.seq (WP.reg ?_))))))
  refine qV rfl (R.loadA [] [(128, (ovr (ovr (zB 128) 0 l) 8 ((ls.take k).flatten)).map vu8)] [] (cs := (ovr (ovr (zB 128) 0 l) 8 ((ls.take k).flatten)).map vu8) rfl isAgg29 sizeOf29 (h_12.ok _ M1) rfl rfl rfl rfl) ?_
  refine WL.storeA [] [(128, (ovr (ovr (zB 128) 0 l) 8 ((ls.take k).flatten)).map vu8)] [(128, (ovr (ovr (zB 128) 0 l) 8 ((ls.take k).flatten)).map vu8)] [] h_12 rfl rfl sizeOf29 Y1 (by decide) rfl rfl rfl rfl rfl rfl (sC (s8 (ovr_len (ovr_len lr (by omega)) (by have := flat_take_le ls k; omega))) sN) (fun w_33 h_34 => ?_)
  refine WL.nil (thn_n (WP.ret ?_))
  refine ret_of results113 (RV.cell rfl (h_34.loadA (cs := (ovr (ovr (zB 128) 0 l) 8 ((ls.take k).flatten)).map vu8) isAgg29 sizeOf29 M1 rfl rfl) RV.nil) ?_
  have hkn : k = n := by omega
  exact ⟨by rw [hkn, List.take_of_length_le (by omega)]; rfl, h_34.chgS⟩

theorem c_rec (pc : UInt64) (rg : List UInt64) (hrg : rg.length = 8) (run : Bool) (w : World) :
  Cs Try.prog 102 [(.agg ⟨flat [(1, [(vu64 pc)]), (8, rg.map vu64), (1, [(.bool run)])]⟩)].toArray w (fun v w1 => v = .agg ⟨(recB pc rg run).map vu8⟩ ∧ Chg w w1 []) := by
 refine Cs.of (n := 29) (args := [(.agg ⟨flat [(1, [(vu64 pc)]), (8, rg.map vu64), (1, [(.bool run)])]⟩)]) Try.func102 rfl rfl rfl ?_
 have h_0 := HP.init w
 refine WP.seq (WP.reg ?_)
 refine WL.box (segs := [(1, [(vu64 pc)]), (8, rg.map vu64), (1, [(.bool run)])]) h_0 rfl rfl (sC sV (sC (SOk.u64 hrg) (sC sV sN))) rfl (fun b_1 w_2 h_3 => ?_)
 refine WL.alloc (segs := [(128, (zB 128).map vu8)]) h_3 (zv typeInfo29 rfl) rfl (sC (s8 lr) sN) rfl (fun b_4 w_5 h_6 => ?_)
 refine WL.nil (thn_n (WP.seq (WP.reg ?_)))
 refine qV rfl (R.fieldAddr (off' := 0) rfl underlying84 rfl sizeOf27 rfl rfl) (qV rfl (R.load1 rfl isAgg27 (h_6.ok _ M1) Sg.h) ?_)
 refine WL.call Try.call112 rfl rfl (c_pword pc _) rfl ?_
 rintro _ w_9 ⟨a_7, cap_8, rfl, hc_10, ho_11⟩
 have h_12 := h_6.gotRow hc_10 ho_11
 refine WL.buildSl (vs := [(0, (.slice a_7 8 cap_8))]) (cs := [(.slice a_7 8 cap_8)]) h_12 underlying101 sizeOf54 (zv typeInfo54 rfl) rfl rfl (by kernel_rfl) rfl (by simp [Value.oneCell']) rfl rfl (fun b_13 w_14 h_15 => ?_)
 refine qA (.slice (some ⟨b_13, 0, none⟩) 1 1) rfl rfl ?_
 refine WL.nil (thn_n (WP.seq (WP.seq (WP.reg ?_))))
 refine qM (vi 0) rfl rfl ?_
 refine WL.nil (thn_n (WP.block ?_))
 refine WP.loopU (WI.round ?_)
 refine WP.seq (WP.reg ?_)
 refine qV rfl (R.bin rfl rfl (bi_lss (r := true) (by decide))) ?_
 refine WL.nil (thn_n (WP.seq ?_))
 refine WP.condT rfl ?_
 refine WP.skip (thn_n (WP.seq (WP.block (WP.seq (WP.reg ?_)))))
 refine qM (vi 0) rfl rfl (qA (vi 0) rfl rfl ?_)
 refine WL.nil (thn_n (WP.reg ?_))
 refine qM (.slice (some ⟨b_13, 0, none⟩) 1 1) rfl rfl (qM (vi 0) rfl rfl (qV rfl (R.fieldAddr (off' := 1) rfl underlying84 rfl sizeOf82 rfl rfl) (qV rfl (R.indexA (b := b_1) (off := 1) (off' := 1) (i := 0) rfl rfl rfl (by decide) underlying82 sizeOf27 rfl) (qV rfl (R.loadE (b := b_1) (off := 1) (i := 0) (v := (vu64 (rg.getD 0 0))) rfl isAgg27 (h_15.ok _ M3) (Sg.t rfl Sg.h) rfl (get_u64 (lt_len (K := 8) hrg (by decide)))) ?_))))
 refine WL.call Try.call112 rfl rfl (c_pword (rg.getD 0 0) _) rfl ?_
 rintro _ w_18 ⟨a_16, cap_17, rfl, hc_19, ho_20⟩
 have h_21 := h_15.gotRow hc_19 ho_20
 refine WL.buildSl (vs := [(0, (.slice a_16 8 cap_17))]) (cs := [(.slice a_16 8 cap_17)]) h_21 underlying101 sizeOf54 (zv typeInfo54 rfl) rfl rfl (by kernel_rfl) rfl (by simp [Value.oneCell']) rfl rfl (fun b_22 w_23 h_24 => ?_)
 have h_25 := HP.blkRow (m := 1) (s := 1) h_24 Y2 rfl (by simp only [maxLen]; decide)
 refine WL.append (km := 2) (xs := [(.slice a_7 8 cap_8)]) (ys := [(.slice a_16 8 cap_17)]) (zs := [(.slice a_7 8 cap_8), (.slice a_16 8 cap_17)]) h_25 rfl rfl el101 (viewB (h_25.ok _ M0) Sg.h) rfl (by simp [Value.oneCell']) rfl rfl (by omega) (by omega) (fun _ _ => Y2) rfl (fun a_26 c_27 w_28 h_29 => ?_)
 refine qA (.slice a_26 2 c_27) rfl rfl ?_
 refine WL.nil (inb_n (thn_n (WP.reg ?_)))
 refine qV rfl (R.bin rfl rfl (bi_add (c := 1) (by omega) (by omega))) (qM (vi 1) rfl rfl ?_)
 refine WL.nil (thn_n ?_)
 refine WI.round ?_
 refine WP.seq (WP.reg ?_)
 refine qV rfl (R.bin rfl rfl (bi_lss (r := true) (by decide))) ?_
 refine WL.nil (thn_n (WP.seq ?_))
 refine WP.condT rfl ?_
 refine WP.skip (thn_n (WP.seq (WP.block (WP.seq (WP.reg ?_)))))
 refine qM (vi 1) rfl rfl (qA (vi 1) rfl rfl ?_)
 refine WL.nil (thn_n (WP.reg ?_))
 refine qM (.slice a_26 2 c_27) rfl rfl (qM (vi 1) rfl rfl (qV rfl (R.fieldAddr (off' := 1) rfl underlying84 rfl sizeOf82 rfl rfl) (qV rfl (R.indexA (b := b_1) (off := 1) (off' := 2) (i := 1) rfl rfl rfl (by decide) underlying82 sizeOf27 rfl) (qV rfl (R.loadE (b := b_1) (off := 2) (i := 1) (v := (vu64 (rg.getD 1 0))) rfl isAgg27 (h_29.ok _ M5) (Sg.t rfl Sg.h) rfl (get_u64 (lt_len (K := 8) hrg (by decide)))) ?_))))
 refine WL.call Try.call112 rfl rfl (c_pword (rg.getD 1 0) _) rfl ?_
 rintro _ w_32 ⟨a_30, cap_31, rfl, hc_33, ho_34⟩
 have h_35 := h_29.gotRow hc_33 ho_34
 refine WL.buildSl (vs := [(0, (.slice a_30 8 cap_31))]) (cs := [(.slice a_30 8 cap_31)]) h_35 underlying101 sizeOf54 (zv typeInfo54 rfl) rfl rfl (by kernel_rfl) rfl (by simp [Value.oneCell']) rfl rfl (fun b_36 w_37 h_38 => ?_)
 refine WL.append (km := 3) (xs := [(.slice a_7 8 cap_8), (.slice a_16 8 cap_17)]) (ys := [(.slice a_30 8 cap_31)]) (zs := [(.slice a_7 8 cap_8), (.slice a_16 8 cap_17), (.slice a_30 8 cap_31)]) h_38 rfl rfl el101 (viewB (h_38.ok _ M0) Sg.h) rfl (by simp [Value.oneCell']) rfl rfl (by omega) (by omega) (fun _ _ => Y4) rfl (fun a_39 c_40 w_41 h_42 => ?_)
 refine qA (.slice a_39 3 c_40) rfl rfl ?_
 refine WL.nil (inb_n (thn_n (WP.reg ?_)))
 refine qV rfl (R.bin rfl rfl (bi_add (c := 2) (by omega) (by omega))) (qM (vi 2) rfl rfl ?_)
 refine WL.nil (thn_n ?_)
 refine WI.round ?_
 refine WP.seq (WP.reg ?_)
 refine qV rfl (R.bin rfl rfl (bi_lss (r := true) (by decide))) ?_
 refine WL.nil (thn_n (WP.seq ?_))
 refine WP.condT rfl ?_
 refine WP.skip (thn_n (WP.seq (WP.block (WP.seq (WP.reg ?_)))))
 refine qM (vi 2) rfl rfl (qA (vi 2) rfl rfl ?_)
 refine WL.nil (thn_n (WP.reg ?_))
 refine qM (.slice a_39 3 c_40) rfl rfl (qM (vi 2) rfl rfl (qV rfl (R.fieldAddr (off' := 1) rfl underlying84 rfl sizeOf82 rfl rfl) (qV rfl (R.indexA (b := b_1) (off := 1) (off' := 3) (i := 2) rfl rfl rfl (by decide) underlying82 sizeOf27 rfl) (qV rfl (R.loadE (b := b_1) (off := 3) (i := 2) (v := (vu64 (rg.getD 2 0))) rfl isAgg27 (h_42.ok _ M7) (Sg.t rfl Sg.h) rfl (get_u64 (lt_len (K := 8) hrg (by decide)))) ?_))))
 refine WL.call Try.call112 rfl rfl (c_pword (rg.getD 2 0) _) rfl ?_
 rintro _ w_45 ⟨a_43, cap_44, rfl, hc_46, ho_47⟩
 have h_48 := h_42.gotRow hc_46 ho_47
 refine WL.buildSl (vs := [(0, (.slice a_43 8 cap_44))]) (cs := [(.slice a_43 8 cap_44)]) h_48 underlying101 sizeOf54 (zv typeInfo54 rfl) rfl rfl (by kernel_rfl) rfl (by simp [Value.oneCell']) rfl rfl (fun b_49 w_50 h_51 => ?_)
 refine WL.append (km := 4) (xs := [(.slice a_7 8 cap_8), (.slice a_16 8 cap_17), (.slice a_30 8 cap_31)]) (ys := [(.slice a_43 8 cap_44)]) (zs := [(.slice a_7 8 cap_8), (.slice a_16 8 cap_17), (.slice a_30 8 cap_31), (.slice a_43 8 cap_44)]) h_51 rfl rfl el101 (viewB (h_51.ok _ M0) Sg.h) rfl (by simp [Value.oneCell']) rfl rfl (by omega) (by omega) (fun _ _ => Y6) rfl (fun a_52 c_53 w_54 h_55 => ?_)
 refine qA (.slice a_52 4 c_53) rfl rfl ?_
 refine WL.nil (inb_n (thn_n (WP.reg ?_)))
 refine qV rfl (R.bin rfl rfl (bi_add (c := 3) (by omega) (by omega))) (qM (vi 3) rfl rfl ?_)
 refine WL.nil (thn_n ?_)
 refine WI.round ?_
 refine WP.seq (WP.reg ?_)
 refine qV rfl (R.bin rfl rfl (bi_lss (r := true) (by decide))) ?_
 refine WL.nil (thn_n (WP.seq ?_))
 refine WP.condT rfl ?_
 refine WP.skip (thn_n (WP.seq (WP.block (WP.seq (WP.reg ?_)))))
 refine qM (vi 3) rfl rfl (qA (vi 3) rfl rfl ?_)
 refine WL.nil (thn_n (WP.reg ?_))
 refine qM (.slice a_52 4 c_53) rfl rfl (qM (vi 3) rfl rfl (qV rfl (R.fieldAddr (off' := 1) rfl underlying84 rfl sizeOf82 rfl rfl) (qV rfl (R.indexA (b := b_1) (off := 1) (off' := 4) (i := 3) rfl rfl rfl (by decide) underlying82 sizeOf27 rfl) (qV rfl (R.loadE (b := b_1) (off := 4) (i := 3) (v := (vu64 (rg.getD 3 0))) rfl isAgg27 (h_55.ok _ M9) (Sg.t rfl Sg.h) rfl (get_u64 (lt_len (K := 8) hrg (by decide)))) ?_))))
 refine WL.call Try.call112 rfl rfl (c_pword (rg.getD 3 0) _) rfl ?_
 rintro _ w_58 ⟨a_56, cap_57, rfl, hc_59, ho_60⟩
 have h_61 := h_55.gotRow hc_59 ho_60
 refine WL.buildSl (vs := [(0, (.slice a_56 8 cap_57))]) (cs := [(.slice a_56 8 cap_57)]) h_61 underlying101 sizeOf54 (zv typeInfo54 rfl) rfl rfl (by kernel_rfl) rfl (by simp [Value.oneCell']) rfl rfl (fun b_62 w_63 h_64 => ?_)
 refine WL.append (km := 5) (xs := [(.slice a_7 8 cap_8), (.slice a_16 8 cap_17), (.slice a_30 8 cap_31), (.slice a_43 8 cap_44)]) (ys := [(.slice a_56 8 cap_57)]) (zs := [(.slice a_7 8 cap_8), (.slice a_16 8 cap_17), (.slice a_30 8 cap_31), (.slice a_43 8 cap_44), (.slice a_56 8 cap_57)]) h_64 rfl rfl el101 (viewB (h_64.ok _ M0) Sg.h) rfl (by simp [Value.oneCell']) rfl rfl (by omega) (by omega) (fun _ _ => Y8) rfl (fun a_65 c_66 w_67 h_68 => ?_)
 refine qA (.slice a_65 5 c_66) rfl rfl ?_
 refine WL.nil (inb_n (thn_n (WP.reg ?_)))
 refine qV rfl (R.bin rfl rfl (bi_add (c := 4) (by omega) (by omega))) (qM (vi 4) rfl rfl ?_)
 refine WL.nil (thn_n ?_)
 refine WI.round ?_
 refine WP.seq (WP.reg ?_)
 refine qV rfl (R.bin rfl rfl (bi_lss (r := true) (by decide))) ?_
 refine WL.nil (thn_n (WP.seq ?_))
 refine WP.condT rfl ?_
 refine WP.skip (thn_n (WP.seq (WP.block (WP.seq (WP.reg ?_)))))
 refine qM (vi 4) rfl rfl (qA (vi 4) rfl rfl ?_)
 refine WL.nil (thn_n (WP.reg ?_))
 refine qM (.slice a_65 5 c_66) rfl rfl (qM (vi 4) rfl rfl (qV rfl (R.fieldAddr (off' := 1) rfl underlying84 rfl sizeOf82 rfl rfl) (qV rfl (R.indexA (b := b_1) (off := 1) (off' := 5) (i := 4) rfl rfl rfl (by decide) underlying82 sizeOf27 rfl) (qV rfl (R.loadE (b := b_1) (off := 5) (i := 4) (v := (vu64 (rg.getD 4 0))) rfl isAgg27 (h_68.ok _ M11) (Sg.t rfl Sg.h) rfl (get_u64 (lt_len (K := 8) hrg (by decide)))) ?_))))
 refine WL.call Try.call112 rfl rfl (c_pword (rg.getD 4 0) _) rfl ?_
 rintro _ w_71 ⟨a_69, cap_70, rfl, hc_72, ho_73⟩
 have h_74 := h_68.gotRow hc_72 ho_73
 refine WL.buildSl (vs := [(0, (.slice a_69 8 cap_70))]) (cs := [(.slice a_69 8 cap_70)]) h_74 underlying101 sizeOf54 (zv typeInfo54 rfl) rfl rfl (by kernel_rfl) rfl (by simp [Value.oneCell']) rfl rfl (fun b_75 w_76 h_77 => ?_)
 refine WL.append (km := 6) (xs := [(.slice a_7 8 cap_8), (.slice a_16 8 cap_17), (.slice a_30 8 cap_31), (.slice a_43 8 cap_44), (.slice a_56 8 cap_57)]) (ys := [(.slice a_69 8 cap_70)]) (zs := [(.slice a_7 8 cap_8), (.slice a_16 8 cap_17), (.slice a_30 8 cap_31), (.slice a_43 8 cap_44), (.slice a_56 8 cap_57), (.slice a_69 8 cap_70)]) h_77 rfl rfl el101 (viewB (h_77.ok _ M0) Sg.h) rfl (by simp [Value.oneCell']) rfl rfl (by omega) (by omega) (fun _ _ => Y10) rfl (fun a_78 c_79 w_80 h_81 => ?_)
 refine qA (.slice a_78 6 c_79) rfl rfl ?_
 refine WL.nil (inb_n (thn_n (WP.reg ?_)))
 refine qV rfl (R.bin rfl rfl (bi_add (c := 5) (by omega) (by omega))) (qM (vi 5) rfl rfl ?_)
 refine WL.nil (thn_n ?_)
 refine WI.round ?_
 refine WP.seq (WP.reg ?_)
 refine qV rfl (R.bin rfl rfl (bi_lss (r := true) (by decide))) ?_
 refine WL.nil (thn_n (WP.seq ?_))
 refine WP.condT rfl ?_
 refine WP.skip (thn_n (WP.seq (WP.block (WP.seq (WP.reg ?_)))))
 refine qM (vi 5) rfl rfl (qA (vi 5) rfl rfl ?_)
 refine WL.nil (thn_n (WP.reg ?_))
 refine qM (.slice a_78 6 c_79) rfl rfl (qM (vi 5) rfl rfl (qV rfl (R.fieldAddr (off' := 1) rfl underlying84 rfl sizeOf82 rfl rfl) (qV rfl (R.indexA (b := b_1) (off := 1) (off' := 6) (i := 5) rfl rfl rfl (by decide) underlying82 sizeOf27 rfl) (qV rfl (R.loadE (b := b_1) (off := 6) (i := 5) (v := (vu64 (rg.getD 5 0))) rfl isAgg27 (h_81.ok _ M13) (Sg.t rfl Sg.h) rfl (get_u64 (lt_len (K := 8) hrg (by decide)))) ?_))))
 refine WL.call Try.call112 rfl rfl (c_pword (rg.getD 5 0) _) rfl ?_
 rintro _ w_84 ⟨a_82, cap_83, rfl, hc_85, ho_86⟩
 have h_87 := h_81.gotRow hc_85 ho_86
 refine WL.buildSl (vs := [(0, (.slice a_82 8 cap_83))]) (cs := [(.slice a_82 8 cap_83)]) h_87 underlying101 sizeOf54 (zv typeInfo54 rfl) rfl rfl (by kernel_rfl) rfl (by simp [Value.oneCell']) rfl rfl (fun b_88 w_89 h_90 => ?_)
 refine WL.append (km := 7) (xs := [(.slice a_7 8 cap_8), (.slice a_16 8 cap_17), (.slice a_30 8 cap_31), (.slice a_43 8 cap_44), (.slice a_56 8 cap_57), (.slice a_69 8 cap_70)]) (ys := [(.slice a_82 8 cap_83)]) (zs := [(.slice a_7 8 cap_8), (.slice a_16 8 cap_17), (.slice a_30 8 cap_31), (.slice a_43 8 cap_44), (.slice a_56 8 cap_57), (.slice a_69 8 cap_70), (.slice a_82 8 cap_83)]) h_90 rfl rfl el101 (viewB (h_90.ok _ M0) Sg.h) rfl (by simp [Value.oneCell']) rfl rfl (by omega) (by omega) (fun _ _ => Y12) rfl (fun a_91 c_92 w_93 h_94 => ?_)
 refine qA (.slice a_91 7 c_92) rfl rfl ?_
 refine WL.nil (inb_n (thn_n (WP.reg ?_)))
 refine qV rfl (R.bin rfl rfl (bi_add (c := 6) (by omega) (by omega))) (qM (vi 6) rfl rfl ?_)
 refine WL.nil (thn_n ?_)
 refine WI.round ?_
 refine WP.seq (WP.reg ?_)
 refine qV rfl (R.bin rfl rfl (bi_lss (r := true) (by decide))) ?_
 refine WL.nil (thn_n (WP.seq ?_))
 refine WP.condT rfl ?_
 refine WP.skip (thn_n (WP.seq (WP.block (WP.seq (WP.reg ?_)))))
 refine qM (vi 6) rfl rfl (qA (vi 6) rfl rfl ?_)
 refine WL.nil (thn_n (WP.reg ?_))
 refine qM (.slice a_91 7 c_92) rfl rfl (qM (vi 6) rfl rfl (qV rfl (R.fieldAddr (off' := 1) rfl underlying84 rfl sizeOf82 rfl rfl) (qV rfl (R.indexA (b := b_1) (off := 1) (off' := 7) (i := 6) rfl rfl rfl (by decide) underlying82 sizeOf27 rfl) (qV rfl (R.loadE (b := b_1) (off := 7) (i := 6) (v := (vu64 (rg.getD 6 0))) rfl isAgg27 (h_94.ok _ M15) (Sg.t rfl Sg.h) rfl (get_u64 (lt_len (K := 8) hrg (by decide)))) ?_))))
 refine WL.call Try.call112 rfl rfl (c_pword (rg.getD 6 0) _) rfl ?_
 rintro _ w_97 ⟨a_95, cap_96, rfl, hc_98, ho_99⟩
 have h_100 := h_94.gotRow hc_98 ho_99
 refine WL.buildSl (vs := [(0, (.slice a_95 8 cap_96))]) (cs := [(.slice a_95 8 cap_96)]) h_100 underlying101 sizeOf54 (zv typeInfo54 rfl) rfl rfl (by kernel_rfl) rfl (by simp [Value.oneCell']) rfl rfl (fun b_101 w_102 h_103 => ?_)
 refine WL.append (km := 8) (xs := [(.slice a_7 8 cap_8), (.slice a_16 8 cap_17), (.slice a_30 8 cap_31), (.slice a_43 8 cap_44), (.slice a_56 8 cap_57), (.slice a_69 8 cap_70), (.slice a_82 8 cap_83)]) (ys := [(.slice a_95 8 cap_96)]) (zs := [(.slice a_7 8 cap_8), (.slice a_16 8 cap_17), (.slice a_30 8 cap_31), (.slice a_43 8 cap_44), (.slice a_56 8 cap_57), (.slice a_69 8 cap_70), (.slice a_82 8 cap_83), (.slice a_95 8 cap_96)]) h_103 rfl rfl el101 (viewB (h_103.ok _ M0) Sg.h) rfl (by simp [Value.oneCell']) rfl rfl (by omega) (by omega) (fun _ _ => Y14) rfl (fun a_104 c_105 w_106 h_107 => ?_)
 refine qA (.slice a_104 8 c_105) rfl rfl ?_
 refine WL.nil (inb_n (thn_n (WP.reg ?_)))
 refine qV rfl (R.bin rfl rfl (bi_add (c := 7) (by omega) (by omega))) (qM (vi 7) rfl rfl ?_)
 refine WL.nil (thn_n ?_)
 refine WI.round ?_
 refine WP.seq (WP.reg ?_)
 refine qV rfl (R.bin rfl rfl (bi_lss (r := true) (by decide))) ?_
 refine WL.nil (thn_n (WP.seq ?_))
 refine WP.condT rfl ?_
 refine WP.skip (thn_n (WP.seq (WP.block (WP.seq (WP.reg ?_)))))
 refine qM (vi 7) rfl rfl (qA (vi 7) rfl rfl ?_)
 refine WL.nil (thn_n (WP.reg ?_))
 refine qM (.slice a_104 8 c_105) rfl rfl (qM (vi 7) rfl rfl (qV rfl (R.fieldAddr (off' := 1) rfl underlying84 rfl sizeOf82 rfl rfl) (qV rfl (R.indexA (b := b_1) (off := 1) (off' := 8) (i := 7) rfl rfl rfl (by decide) underlying82 sizeOf27 rfl) (qV rfl (R.loadE (b := b_1) (off := 8) (i := 7) (v := (vu64 (rg.getD 7 0))) rfl isAgg27 (h_107.ok _ M17) (Sg.t rfl Sg.h) rfl (get_u64 (lt_len (K := 8) hrg (by decide)))) ?_))))
 refine WL.call Try.call112 rfl rfl (c_pword (rg.getD 7 0) _) rfl ?_
 rintro _ w_110 ⟨a_108, cap_109, rfl, hc_111, ho_112⟩
 have h_113 := h_107.gotRow hc_111 ho_112
 refine WL.buildSl (vs := [(0, (.slice a_108 8 cap_109))]) (cs := [(.slice a_108 8 cap_109)]) h_113 underlying101 sizeOf54 (zv typeInfo54 rfl) rfl rfl (by kernel_rfl) rfl (by simp [Value.oneCell']) rfl rfl (fun b_114 w_115 h_116 => ?_)
 refine WL.append (km := 9) (xs := [(.slice a_7 8 cap_8), (.slice a_16 8 cap_17), (.slice a_30 8 cap_31), (.slice a_43 8 cap_44), (.slice a_56 8 cap_57), (.slice a_69 8 cap_70), (.slice a_82 8 cap_83), (.slice a_95 8 cap_96)]) (ys := [(.slice a_108 8 cap_109)]) (zs := [(.slice a_7 8 cap_8), (.slice a_16 8 cap_17), (.slice a_30 8 cap_31), (.slice a_43 8 cap_44), (.slice a_56 8 cap_57), (.slice a_69 8 cap_70), (.slice a_82 8 cap_83), (.slice a_95 8 cap_96), (.slice a_108 8 cap_109)]) h_116 rfl rfl el101 (viewB (h_116.ok _ M0) Sg.h) rfl (by simp [Value.oneCell']) rfl rfl (by omega) (by omega) (fun _ _ => (At.t (At.t (At.t (At.t (At.t (At.t (At.t (At.t (At.t (At.t (At.t (At.t (At.t (At.t (At.t (At.t At.h))))))))))))))))) rfl (fun a_117 c_118 w_119 h_120 => ?_)
 refine qA (.slice a_117 9 c_118) rfl rfl ?_
 refine WL.nil (inb_n (thn_n (WP.reg ?_)))
 refine qV rfl (R.bin rfl rfl (bi_add (c := 8) (by omega) (by omega))) (qM (vi 8) rfl rfl ?_)
 refine WL.nil (thn_n ?_)
 refine WI.round ?_
 refine WP.seq (WP.reg ?_)
 refine qV rfl (R.bin rfl rfl (bi_lss (r := false) (by decide))) ?_
 refine WL.nil (thn_n (WP.seq ?_))
 refine WP.condF rfl ?_
 refine WP.exit (thn_x (thn_x (inb_hit (thn_n (WP.seq (WP.seq (WP.reg ?_)))))))
 refine qV rfl (R.fieldAddr (off' := 9) rfl underlying84 rfl sizeOf4 rfl rfl) (qV rfl (R.load1 rfl isAgg4 (h_120.ok _ M19) (Sg.t rfl (Sg.t rfl Sg.h))) ?_)
 refine WL.nil (thn_n ?_)
 refine WP.cond (b := run) rfl (fun c_121 => ?_) (fun c_121 => ?_)
 ·refine WP.reg ?_
  refine qM (.slice a_117 9 c_118) rfl rfl ?_
  refine WL.buildSl (vs := [(0, (vu8 1))]) (cs := ([1] : List UInt8).map vu8) h_120 underlying54 sizeOf5 (zv typeInfo5 rfl) rfl rfl (by kernel_rfl) rfl (one_u8 _) rfl rfl (fun b_122 w_123 h_124 => ?_)
  refine WL.buildSl (vs := [(0, (.slice (some ⟨b_122, 0, none⟩) 1 1))]) (cs := [(.slice (some ⟨b_122, 0, none⟩) 1 1)]) h_124 underlying101 sizeOf54 (zv typeInfo54 rfl) rfl rfl (by kernel_rfl) rfl (by simp [Value.oneCell']) rfl rfl (fun b_125 w_126 h_127 => ?_)
  refine WL.append (km := 10) (xs := [(.slice a_7 8 cap_8), (.slice a_16 8 cap_17), (.slice a_30 8 cap_31), (.slice a_43 8 cap_44), (.slice a_56 8 cap_57), (.slice a_69 8 cap_70), (.slice a_82 8 cap_83), (.slice a_95 8 cap_96), (.slice a_108 8 cap_109)]) (ys := [(.slice (some ⟨b_122, 0, none⟩) 1 1)]) (zs := [(.slice a_7 8 cap_8), (.slice a_16 8 cap_17), (.slice a_30 8 cap_31), (.slice a_43 8 cap_44), (.slice a_56 8 cap_57), (.slice a_69 8 cap_70), (.slice a_82 8 cap_83), (.slice a_95 8 cap_96), (.slice a_108 8 cap_109), (.slice (some ⟨b_122, 0, none⟩) 1 1)]) h_127 rfl rfl el101 (viewB (h_127.ok _ M0) Sg.h) rfl (by simp [Value.oneCell']) rfl rfl (by omega) (by omega) (fun _ _ => (At.t (At.t (At.t (At.t (At.t (At.t (At.t (At.t (At.t (At.t (At.t (At.t (At.t (At.t (At.t (At.t (At.t (At.t At.h))))))))))))))))))) rfl (fun a_128 c_129 w_130 h_131 => ?_)
  refine qA (.slice a_128 10 c_129) rfl rfl ?_
  refine WL.nil (thn_n (WP.seq (WP.reg ?_)))
  refine qM (.slice a_128 10 c_129) rfl rfl ?_
  refine WL.call Try.call113 rfl rfl (c_gran 3 ([114, 101, 99] : List UInt8) rfl (by decide) a_128 10 c_129 [(.slice a_7 8 cap_8), (.slice a_16 8 cap_17), (.slice a_30 8 cap_31), (.slice a_43 8 cap_44), (.slice a_56 8 cap_57), (.slice a_69 8 cap_70), (.slice a_82 8 cap_83), (.slice a_95 8 cap_96), (.slice a_108 8 cap_109), (.slice (some ⟨b_122, 0, none⟩) 1 1)] [leN 8 pc.toNat, leN 8 (rg.getD 0 0).toNat, leN 8 (rg.getD 1 0).toNat, leN 8 (rg.getD 2 0).toNat, leN 8 (rg.getD 3 0).toNat, leN 8 (rg.getD 4 0).toNat, leN 8 (rg.getD 5 0).toNat, leN 8 (rg.getD 6 0).toNat, leN 8 (rg.getD 7 0).toNat, ([1] : List UInt8)] rfl (by simp [leN_len]) (by omega) _ (ownView (h_131.ok _ M18)) (Sls.cons (leN_len ..) (h_131.own M19).2.2.1 (ownView (h_131.ok _ M19)) (Sls.cons (leN_len ..) (h_131.own M17).2.2.1 (ownView (h_131.ok _ M17)) (Sls.cons (leN_len ..) (h_131.own M15).2.2.1 (ownView (h_131.ok _ M15)) (Sls.cons (leN_len ..) (h_131.own M13).2.2.1 (ownView (h_131.ok _ M13)) (Sls.cons (leN_len ..) (h_131.own M11).2.2.1 (ownView (h_131.ok _ M11)) (Sls.cons (leN_len ..) (h_131.own M9).2.2.1 (ownView (h_131.ok _ M9)) (Sls.cons (leN_len ..) (h_131.own M7).2.2.1 (ownView (h_131.ok _ M7)) (Sls.cons (leN_len ..) (h_131.own M5).2.2.1 (ownView (h_131.ok _ M5)) (Sls.cons (leN_len ..) (h_131.own M3).2.2.1 (ownView (h_131.ok _ M3)) (Sls.cons (rfl : List.length ([1] : List UInt8) = 1) (by decide) (viewB (h_131.ok _ M1) Sg.h) Sls.nil))))))))))) rfl ?_
  rintro _ w_133 ⟨rfl, hc_132⟩
  have h_134 := h_131.same hc_132
  refine WL.storeA [] [(128, (zB 128).map vu8)] [(128, (ovr (ovr (zB 128) 0 ([114, 101, 99] : List UInt8)) 8 ([leN 8 pc.toNat, leN 8 (rg.getD 0 0).toNat, leN 8 (rg.getD 1 0).toNat, leN 8 (rg.getD 2 0).toNat, leN 8 (rg.getD 3 0).toNat, leN 8 (rg.getD 4 0).toNat, leN 8 (rg.getD 5 0).toNat, leN 8 (rg.getD 6 0).toNat, leN 8 (rg.getD 7 0).toNat, ([1] : List UInt8)]).flatten).map vu8)] [] h_134 rfl rfl sizeOf29 (At.t (At.t (At.t (At.t (At.t (At.t (At.t (At.t (At.t (At.t (At.t (At.t (At.t (At.t (At.t (At.t (At.t (At.t (At.t (At.t At.h)))))))))))))))))))) (by decide) rfl rfl rfl rfl rfl rfl (sC (s8 (ovr_len (ovr_len lr (by decide)) (by have hz : ([leN 8 pc.toNat, leN 8 (rg.getD 0 0).toNat, leN 8 (rg.getD 1 0).toNat, leN 8 (rg.getD 2 0).toNat, leN 8 (rg.getD 3 0).toNat, leN 8 (rg.getD 4 0).toNat, leN 8 (rg.getD 5 0).toNat, leN 8 (rg.getD 6 0).toNat, leN 8 (rg.getD 7 0).toNat, ([1] : List UInt8)]).flatten.length ≤ 119 := (by simp [leN_len]); omega))) sN) (fun w_135 h_136 => ?_)
  refine WL.nil (thn_n (WP.ret ?_))
  refine ret_of results102 (RV.cell rfl (h_136.loadA (cs := (ovr (ovr (zB 128) 0 ([114, 101, 99] : List UInt8)) 8 ([leN 8 pc.toNat, leN 8 (rg.getD 0 0).toNat, leN 8 (rg.getD 1 0).toNat, leN 8 (rg.getD 2 0).toNat, leN 8 (rg.getD 3 0).toNat, leN 8 (rg.getD 4 0).toNat, leN 8 (rg.getD 5 0).toNat, leN 8 (rg.getD 6 0).toNat, leN 8 (rg.getD 7 0).toNat, ([1] : List UInt8)]).flatten).map vu8) isAgg29 sizeOf29 M20 rfl rfl) RV.nil) ?_
  exact ⟨by rw [← rec_eq, recP, recL, c_121]; rfl, h_136.chgS⟩
 ·refine WP.skip (thn_n (WP.seq (WP.reg ?_)))
  refine qM (.slice a_117 9 c_118) rfl rfl ?_
  refine WL.call Try.call113 rfl rfl (c_gran 3 ([114, 101, 99] : List UInt8) rfl (by decide) a_117 9 c_118 [(.slice a_7 8 cap_8), (.slice a_16 8 cap_17), (.slice a_30 8 cap_31), (.slice a_43 8 cap_44), (.slice a_56 8 cap_57), (.slice a_69 8 cap_70), (.slice a_82 8 cap_83), (.slice a_95 8 cap_96), (.slice a_108 8 cap_109)] [leN 8 pc.toNat, leN 8 (rg.getD 0 0).toNat, leN 8 (rg.getD 1 0).toNat, leN 8 (rg.getD 2 0).toNat, leN 8 (rg.getD 3 0).toNat, leN 8 (rg.getD 4 0).toNat, leN 8 (rg.getD 5 0).toNat, leN 8 (rg.getD 6 0).toNat, leN 8 (rg.getD 7 0).toNat] rfl (by simp [leN_len]) (by omega) _ (ownView (h_120.ok _ M16)) (Sls.cons (leN_len ..) (h_120.own M17).2.2.1 (ownView (h_120.ok _ M17)) (Sls.cons (leN_len ..) (h_120.own M15).2.2.1 (ownView (h_120.ok _ M15)) (Sls.cons (leN_len ..) (h_120.own M13).2.2.1 (ownView (h_120.ok _ M13)) (Sls.cons (leN_len ..) (h_120.own M11).2.2.1 (ownView (h_120.ok _ M11)) (Sls.cons (leN_len ..) (h_120.own M9).2.2.1 (ownView (h_120.ok _ M9)) (Sls.cons (leN_len ..) (h_120.own M7).2.2.1 (ownView (h_120.ok _ M7)) (Sls.cons (leN_len ..) (h_120.own M5).2.2.1 (ownView (h_120.ok _ M5)) (Sls.cons (leN_len ..) (h_120.own M3).2.2.1 (ownView (h_120.ok _ M3)) (Sls.cons (leN_len ..) (h_120.own M1).2.2.1 (ownView (h_120.ok _ M1)) Sls.nil)))))))))) rfl ?_
  rintro _ w_138 ⟨rfl, hc_137⟩
  have h_139 := h_120.same hc_137
  refine WL.storeA [] [(128, (zB 128).map vu8)] [(128, (ovr (ovr (zB 128) 0 ([114, 101, 99] : List UInt8)) 8 ([leN 8 pc.toNat, leN 8 (rg.getD 0 0).toNat, leN 8 (rg.getD 1 0).toNat, leN 8 (rg.getD 2 0).toNat, leN 8 (rg.getD 3 0).toNat, leN 8 (rg.getD 4 0).toNat, leN 8 (rg.getD 5 0).toNat, leN 8 (rg.getD 6 0).toNat, leN 8 (rg.getD 7 0).toNat]).flatten).map vu8)] [] h_139 rfl rfl sizeOf29 (At.t (At.t (At.t (At.t (At.t (At.t (At.t (At.t (At.t (At.t (At.t (At.t (At.t (At.t (At.t (At.t (At.t (At.t At.h)))))))))))))))))) (by decide) rfl rfl rfl rfl rfl rfl (sC (s8 (ovr_len (ovr_len lr (by decide)) (by have hz : ([leN 8 pc.toNat, leN 8 (rg.getD 0 0).toNat, leN 8 (rg.getD 1 0).toNat, leN 8 (rg.getD 2 0).toNat, leN 8 (rg.getD 3 0).toNat, leN 8 (rg.getD 4 0).toNat, leN 8 (rg.getD 5 0).toNat, leN 8 (rg.getD 6 0).toNat, leN 8 (rg.getD 7 0).toNat]).flatten.length ≤ 119 := (by simp [leN_len]); omega))) sN) (fun w_140 h_141 => ?_)
  refine WL.nil (thn_n (WP.ret ?_))
  refine ret_of results102 (RV.cell rfl (h_141.loadA (cs := (ovr (ovr (zB 128) 0 ([114, 101, 99] : List UInt8)) 8 ([leN 8 pc.toNat, leN 8 (rg.getD 0 0).toNat, leN 8 (rg.getD 1 0).toNat, leN 8 (rg.getD 2 0).toNat, leN 8 (rg.getD 3 0).toNat, leN 8 (rg.getD 4 0).toNat, leN 8 (rg.getD 5 0).toNat, leN 8 (rg.getD 6 0).toNat, leN 8 (rg.getD 7 0).toNat]).flatten).map vu8) isAgg29 sizeOf29 M18 rfl rfl) RV.nil) ?_
  exact ⟨by rw [← rec_eq, recP, recL, c_121]; rfl, h_141.chgS⟩

theorem c_RecBytes_t (pc : UInt64) (rg : List UInt64) (hrg : rg.length = 8) (run : Bool) (h : decide (pc % 8 = 0) = true) (w : World) :
  Cs Try.prog 90 [(.agg ⟨flat [(1, [(vu64 pc)]), (8, rg.map vu64), (1, [(.bool run)])]⟩)].toArray w (fun v w1 => v = (.tuple [(.agg ⟨(recB pc rg run).map vu8⟩), (vi 0)].toArray) ∧ Chg w w1 []) := by
 refine Cs.of (n := 10) (args := [(.agg ⟨flat [(1, [(vu64 pc)]), (8, rg.map vu64), (1, [(.bool run)])]⟩)]) Try.func90 rfl rfl rfl ?_
 have h_0 := HP.init w
 refine WP.seq (WP.reg ?_)
 refine WL.box (segs := [(1, [(vu64 pc)]), (8, rg.map vu64), (1, [(.bool run)])]) h_0 rfl rfl (sC sV (sC (SOk.u64 hrg) (sC sV sN))) rfl (fun b_1 w_2 h_3 => ?_)
 refine WL.alloc (segs := [(128, (zB 128).map vu8)]) h_3 (zv typeInfo29 rfl) rfl (sC (s8 lr) sN) rfl (fun b_4 w_5 h_6 => ?_)
 refine qA (vi 0) rfl rfl ?_
 refine WL.nil (thn_n (WP.seq (WP.seq (WP.reg ?_))))
 refine qV rfl (R.loadA [] [(1, [(vu64 pc)]), (8, rg.map vu64), (1, [(.bool run)])] [] rfl isAgg84 sizeOf84 (h_6.ok _ M1) rfl rfl rfl rfl) ?_
 refine WL.call Try.call74 rfl rfl (c_MayRec pc rg hrg run _ ) rfl ?_
 rintro _ w_8 ⟨rfl, hc_7⟩
 have h_9 := h_6.same hc_7
 refine qV rfl (R.not (b := true) (congrArg Value.bool h)) ?_
 refine WL.nil (thn_n ?_)
 refine WP.condF rfl ?_
 refine WP.skip (thn_n (WP.seq (WP.reg ?_)))
 refine qV rfl (R.loadA [] [(1, [(vu64 pc)]), (8, rg.map vu64), (1, [(.bool run)])] [] rfl isAgg84 sizeOf84 (h_9.ok _ M1) rfl rfl rfl rfl) ?_
 refine WL.call Try.call102 rfl rfl (c_rec pc rg hrg run _ ) rfl ?_
 rintro _ w_11 ⟨rfl, hc_10⟩
 have h_12 := h_9.same hc_10
 refine WL.storeA [] [(128, (zB 128).map vu8)] [(128, (recB pc rg run).map vu8)] [] h_12 rfl rfl sizeOf29 At.h (by decide) rfl rfl rfl rfl rfl rfl (sC (s8 (recB_len ..)) sN) (fun w_13 h_14 => ?_)
 refine qA (vi 0) rfl rfl ?_
 refine WL.nil (thn_n (WP.ret ?_))
 refine ret_of results90 (RV.cell rfl (h_14.loadA (cs := (recB pc rg run).map vu8) isAgg29 sizeOf29 M0 rfl rfl) (RV.tmp (v := (vi 0)) rfl RV.nil)) ?_
 exact ⟨rfl, h_14.chgS⟩

end Go.Proofs.Yteclkcpdclimnaa

namespace Go.Proofs.Yteclkcpdclimnaa
open Go.Proofs.Try
open Go.Vc Go.Sh Go.RowKit
set_option maxRecDepth 20000

end Go.Proofs.Yteclkcpdclimnaa

namespace Go.Proofs.Yteclkcpdclimnaa
open Go.Proofs.Try
open Go.Vc Go.Sh Go.RowKit
set_option maxRecDepth 20000

end Go.Proofs.Yteclkcpdclimnaa

namespace Go.Proofs.Yteclkcpdclimnaa
open Go.Proofs.Try
open Go.Vc Go.Sh Go.RowKit
set_option maxRecDepth 20000

end Go.Proofs.Yteclkcpdclimnaa

namespace Go.Proofs.Yteclkcpdclimnaa
open Go.Proofs.Try
open Go.Vc Go.Sh Go.RowKit
set_option maxRecDepth 20000

end Go.Proofs.Yteclkcpdclimnaa

namespace Go.Orc
open Go.Vc Go.RowKit
def lk (q : Qn) (l : Lg) : Option (List UInt8) := (fdq q l 0).map fun i => (l.getD i (q, [])).2
theorem fdq_app {q : Qn} (x : Qn × List UInt8) : ∀ {l : Lg} {i j : Nat}, fdq q l i = some j → fdq q (l ++ [x]) i = some j
  | p :: r, i, j, h => by
    rw [List.cons_append]
    rw [fdq] at h ⊢
    split
    · rename_i e; rw [if_pos e] at h; exact h
    · rename_i e; rw [if_neg e] at h; exact fdq_app x h
theorem fdq_new {q : Qn} (d : List UInt8) : ∀ {l : Lg} {i : Nat}, fdq q l i = none → fdq q (l ++ [(q, d)]) i = some (i + l.length)
  | [], i, _ => by simp [fdq]
  | p :: r, i, h => by
    rw [List.cons_append]
    rw [fdq] at h ⊢
    split
    · rename_i e; rw [if_pos e] at h; cases h
    · rename_i e; rw [if_neg e] at h; rw [fdq_new d h, List.length_cons]; congr 1; omega
theorem lk_app {q : Qn} {l : Lg} {d : List UInt8} (x : Qn × List UInt8) (h : lk q l = some d) : lk q (l ++ [x]) = some d := by
  unfold lk at h ⊢
  cases hf : fdq q l 0 with
  | none => rw [hf] at h; cases h
  | some i =>
    rw [hf] at h
    have hlt := fdq_lt hf
    rw [fdq_app x hf]
    have e : (l ++ [x]).getD i (q, []) = l.getD i (q, []) := by
      have h2 : i < l.length := by omega
      have h3 : i < (l ++ [x]).length := by rw [snoc_len]; omega
      simp [List.getD_eq_getElem?_getD, h2, List.getElem?_append_left]
    simpa only [Option.map_some, e] using h
section
variable {id : Bool} {df : List UInt8} {dn u : Nat} {l : Lg} {q q' : Qn} {d : List UInt8}
theorem anD_lk (h : lk q l = some d) : anD id df dn u l q = d := by
  unfold lk at h
  cases hf : fdq q l 0 with
  | none => rw [hf] at h; cases h
  | some i => rw [hf] at h; rw [anD_hit hf]; simpa using h
theorem anU_lk (h : lk q l = some d) : anU id u l q = u := by
  unfold lk at h
  cases hf : fdq q l 0 with
  | none => rw [hf] at h; cases h
  | some i => rw [anU_hit hf]
theorem anL_lk (h : lk q l = some d) : anL id df dn u l q = l := by
  unfold lk at h
  cases hf : fdq q l 0 with
  | none => rw [hf] at h; cases h
  | some i => rw [anL_hit hf]
theorem lk_self : lk q (anL id df dn u l q) = some (anD id df dn u l q) := by
  cases hf : fdq q l 0 with
  | none =>
    rw [anL_miss hf, anD_miss hf]
    unfold lk
    rw [fdq_new _ hf]
    simp
  | some i =>
    rw [anL_hit hf, anD_hit hf]
    unfold lk
    rw [hf]; rfl
theorem lk_anL (h : lk q l = some d) : lk q (anL id df dn u l q') = some d := by
  cases hf : fdq q' l 0 with
  | none => rw [anL_miss hf]; exact lk_app _ h
  | some i => rw [anL_hit hf]; exact h
end
end Go.Orc
namespace Go.Vc
open Go.RowKit Go.ChangeShapes Go.WideShapes Go.ChangeAt
section
variable {P : Program} {w : World} {t : TypeId} {cs : List Value}
theorem cells?_all {a : Addr} {n : Nat} {ys : List Value} (h : w.cells? 0 a n = some ys) : ys.length = n ∧ ∀ (i : Nat) v, ys[i]? = some v → w.cell? (a.add i) = some v := by
  simp only [World.cells?, Nat.zero_le, if_true] at h
  have key : ∀ (f : Nat → Option Value) (L : List Nat) (l : List Value), L.mapM f = some l → l.length = L.length ∧ ∀ (i : Nat) v, l[i]? = some v → ∃ x, L[i]? = some x ∧ f x = some v := by
    intro f L
    induction L with
    | nil => intro l h; simp at h; subst h; exact ⟨rfl, fun i v h => by simp at h⟩
    | cons a L ih =>
      intro l h
      rw [List.mapM_cons] at h
      obtain ⟨y, hy, h⟩ := Option.bind_eq_some_iff.1 h
      obtain ⟨l', hl', h⟩ := Option.bind_eq_some_iff.1 h
      simp at h; subst h
      obtain ⟨h1, h2⟩ := ih l' hl'
      refine ⟨by simp [h1], fun i v hv => ?_⟩
      cases i with
      | zero => simp at hv; subst hv; exact ⟨a, rfl, hy⟩
      | succ i => exact h2 i v (by simpa using hv)
  obtain ⟨h1, h2⟩ := key _ _ _ h
  refine ⟨by simpa using h1, fun i v hv => ?_⟩
  obtain ⟨x, hx, hf⟩ := h2 i v hv
  have hi : i < n := by
    have := (List.getElem?_eq_some_iff.1 hx).1
    simpa using this
  rw [List.getElem?_range hi] at hx
  cases hx
  exact hf
theorem Tr.slA8 {e e8 : TypeId} {s : Nat} (hu : P.underlying t = some (.slice e)) (hce : P.cellsOf e = s) (he : P.underlying e = some (.array s e8)) (hce8 : P.cellsOf e8 = 1) (he8 : P.underlying e8 = some (.int .u8)) (h : Tr P w t cs) :
    ∃ a n cap, ∃ l : List UInt8, cs = [.slice a n cap] ∧ l.length = s * n ∧ n ≤ cap ∧ cap ≤ maxLen ∧ (Ent.view a (l.map vu8)).ok w.heap.size w := by
  rcases Tr.nilOrSlice hu h with rfl | ⟨a, len, cap, rfl, h1, h2, h3⟩
  · exact ⟨none, 0, 0, [], rfl, rfl, Nat.le_refl _, by simp [maxLen], ⟨View.nil _ _, fun ad h => by cases h⟩⟩
  · have key : ∀ k, k ≤ len → ∃ l : List UInt8, l.length = s * k ∧ View w (some a) (l.map vu8) := by
      intro k
      induction k with
      | zero => intro _; exact ⟨[], rfl, View.nil _ _⟩
      | succ k ih =>
        intro hk
        obtain ⟨l, hl, hv⟩ := ih (by omega)
        obtain ⟨ys, hys, ht⟩ := h3 k (by omega)
        rw [hce] at hys
        obtain ⟨hyl, hyc⟩ := cells?_all hys
        obtain ⟨m, rfl, hm⟩ := Tr.arr8 he hce hce8 he8 ht
        refine ⟨l ++ m, by rw [List.length_append, hl, hm, Nat.mul_succ], fun i v hv' => ?_⟩
        rw [List.map_append] at hv'
        by_cases hi : i < l.length
        · refine hv i v ?_
          rw [List.getElem?_append_left (by simpa using hi)] at hv'
          exact hv'
        · rw [List.getElem?_append_right (by simpa using hi)] at hv'
          have h4 := hyc _ v hv'
          rw [add_add, List.length_map, hl, Nat.mul_comm, show s * k + (i - s * k) = i by omega] at h4
          exact ⟨a, rfl, h4⟩
    obtain ⟨l, hl, hv⟩ := key len (Nat.le_refl _)
    refine ⟨some a, len, cap, l, rfl, hl, h1, h2, ⟨hv, fun ad ha hne => ?_⟩⟩
    cases ha
    cases l with
    | nil => simp at hne
    | cons x l =>
      obtain ⟨ad', e, hc⟩ := hv 0 (vu8 x) rfl
      cases e
      have := block_lt_of_cell hc
      rwa [Addr.add_block] at this
end
end Go.Vc

namespace Go.Orc
open Go.Vc Go.RowKit
end Go.Orc
namespace Go.Orc
open Go.Vc Go.RowKit
end Go.Orc
namespace Go.Orc
open Go.Vc Go.RowKit
end Go.Orc
namespace Go.Orc
open Go.Vc Go.RowKit
end Go.Orc
namespace Go.Orc
open Go.Vc Go.RowKit
end Go.Orc

namespace Go.Proofs.Yteclkcpdclimnaa
open Go.Proofs.Try
open Go.Vc Go.Orc Go.Sh Go.RowKit
set_option maxRecDepth 20000

end Go.Proofs.Yteclkcpdclimnaa

namespace Go.Proofs.Yteclkcpdclimnaa
open Go.Proofs.Try
open Go.Vc Go.Orc Go.Sh Go.RowKit
set_option maxRecDepth 20000

end Go.Proofs.Yteclkcpdclimnaa

namespace Go.Proofs.Yteclkcpdclimnaa
open Go.Proofs.Try
open Go.Vc Go.Orc Go.Sh Go.RowKit
set_option maxRecDepth 20000

end Go.Proofs.Yteclkcpdclimnaa

namespace Go.Proofs.Yteclkcpdclimnaa
open Go.Proofs.Try
open Go.Vc Go.Orc Go.Sh Go.RowKit
set_option maxRecDepth 20000

theorem c_Rec {w00 : World} {L : List Ent} (id : Bool) (ob mp : Nat) (ms df : List UInt8) (hms : ms.length = 32) (da : Option Addr) (dn dc u : Nat) (hdf : df.length = 32 * dn) (la : Option Addr) (lc : Nat) (lx : List Value) (lg : Lg) (hu : u ≤ 1000000) (hlg : lg.length ≤ 1000000) (md : List UInt8) (hmd : md.length = 32) (pc : UInt64) (rg : List UInt64) (hrg : rg.length = 8) (run : Bool) (h : decide (pc % 8 = 0) = true) (w : World) (h_0 : HP w00 w (Ent.blk ob .nw 90 [(1, [(.bool id)]), (32, ms.map vu8), (1, [(.slice da dn dc)]), (1, [(vi ((u : Nat) : Int))]), (1, [(.map (some mp))]), (1, [(.slice la lg.length lc)])] :: Ent.row la lg.length lc 64 67 lx :: Ent.obj mp .nw (.map (mArr lg) lg.length) :: Ent.pin (sblks lx) (fun w => Lgs w lx lg) :: Ent.view da (df.map vu8) :: L)) :
  Cs Try.prog 77 [(.pointer (some ⟨ob, 0, none⟩)), (.agg ⟨md.map vu8⟩), (.agg ⟨flat [(1, [(vu64 pc)]), (8, rg.map vu64), (1, [(.bool run)])]⟩)].toArray w (fun v w1 => ∃ la' lc' lx', v = (.tuple [(.agg ⟨(anD id df dn u lg (1, (List.replicate 32 (0 : UInt8)), 3, [md, recB pc rg run].flatten)).map vu8⟩), (vi 0)].toArray) ∧ HP w00 w1 (Ent.blk ob .nw 90 [(1, [(.bool id)]), (32, ms.map vu8), (1, [(.slice da dn dc)]), (1, [(vi (((anU id u lg (1, (List.replicate 32 (0 : UInt8)), 3, [md, recB pc rg run].flatten)) : Nat) : Int))]), (1, [(.map (some mp))]), (1, [(.slice la' ((anL id df dn u lg (1, (List.replicate 32 (0 : UInt8)), 3, [md, recB pc rg run].flatten)).length) lc')])] :: Ent.row la' ((anL id df dn u lg (1, (List.replicate 32 (0 : UInt8)), 3, [md, recB pc rg run].flatten)).length) lc' 64 67 lx' :: Ent.obj mp .nw (.map (mArr (anL id df dn u lg (1, (List.replicate 32 (0 : UInt8)), 3, [md, recB pc rg run].flatten))) ((anL id df dn u lg (1, (List.replicate 32 (0 : UInt8)), 3, [md, recB pc rg run].flatten)).length)) :: Ent.pin (sblks lx') (fun w => Lgs w lx' (anL id df dn u lg (1, (List.replicate 32 (0 : UInt8)), 3, [md, recB pc rg run].flatten))) :: Ent.view da (df.map vu8) :: L)) := by
 refine Cs.of (n := 30) (args := [(pO ob 0), (.agg ⟨md.map vu8⟩), (.agg ⟨flat [(1, [(vu64 pc)]), (8, rg.map vu64), (1, [(.bool run)])]⟩)]) Try.func77 rfl rfl rfl ?_
 refine WP.seq (WP.reg ?_)
 refine WL.box (segs := [(32, md.map vu8)]) h_0 rfl rfl (sC (s8 hmd) sN) rfl (fun b_1 w_2 h_3 => ?_)
 refine WL.box (segs := [(1, [(vu64 pc)]), (8, rg.map vu64), (1, [(.bool run)])]) h_3 rfl rfl (sC sV (sC (SOk.u64 hrg) (sC sV sN))) rfl (fun b_4 w_5 h_6 => ?_)
 refine WL.alloc (segs := [(32, (zB 32).map vu8)]) h_6 (zv typeInfo23 rfl) rfl (sC (s8 lr) sN) rfl (fun b_7 w_8 h_9 => ?_)
 refine qA (vi 0) rfl rfl ?_
 refine WL.nil (thn_n (WP.seq (WP.seq (WP.reg ?_))))
 refine qM (pO ob 0) rfl rfl ?_
 refine WL.call Try.call40 rfl rfl (c_mth id ob mp ms hms da dn dc u la lg.length lc _ (h_9.argR M3)) rfl ?_
 rintro _ w_11 ⟨rfl, hc_10⟩
 have h_12 := h_9.same hc_10
 refine qV rfl (R.not (b := true) rfl) ?_
 refine WL.nil (thn_n ?_)
 refine WP.condF rfl ?_
 refine WP.skip (thn_n (WP.seq (WP.reg ?_)))
 refine qV rfl (R.loadA [] [(1, [(vu64 pc)]), (8, rg.map vu64), (1, [(.bool run)])] [] rfl isAgg84 sizeOf84 (h_12.ok _ M1) rfl rfl rfl rfl) ?_
 refine WL.call Try.call90 rfl rfl (c_RecBytes_t pc rg hrg run h _ ) rfl ?_
 rintro _ w_14 ⟨rfl, hc_13⟩
 have h_15 := h_12.same hc_13
 refine qM (.tuple [(.agg ⟨(recB pc rg run).map vu8⟩), (vi 0)].toArray) rfl rfl (qV rfl (R.extract rfl rfl) (qV rfl (R.extract rfl rfl) ?_))
 refine WL.alloc (segs := [(128, (zB 128).map vu8)]) h_15 (zv typeInfo29 rfl) rfl (sC (s8 lr) sN) rfl (fun b_16 w_17 h_18 => ?_)
 refine WL.storeA [] [(128, (zB 128).map vu8)] [(128, (recB pc rg run).map vu8)] [] h_18 rfl rfl sizeOf29 At.h (by decide) rfl rfl rfl rfl rfl rfl (sC (s8 (recB_len ..)) sN) (fun w_19 h_20 => ?_)
 refine qA (vi 0) rfl rfl ?_
 refine WL.nil (thn_n (WP.seq (WP.seq (WP.reg ?_))))
 refine qM (vi 0) rfl rfl (qV rfl (R.bin rfl rfl (bi_neq (r := false) (by decide))) ?_)
 refine WL.nil (thn_n ?_)
 refine WP.condF rfl ?_
 refine WP.skip (thn_n (WP.seq ?_))
 refine WP.drawT (SL w00.heap.size [.blk b_4 .nw 84 [(1, [(vu64 pc)]), (8, rg.map vu64), (1, [(.bool run)])]]) (.q 0 (.q 1 (.q 2 (.s 3 (.s 4 (.q 5 (.q 6 (.s 7 (.q 8 .nil))))))))) (by kernel_rfl) (by kernel_rfl) rfl (by kernel_rfl) (fun w_21 hc_23 => (SL.cons ((h_20.same hc_23).ok _ M2) (SL.nil _ _))) (fun w_21 hc_23 => ?_)
 have h_22 := h_20.same hc_23
 refine qT rfl rfl (fun wq hS => R.move (v := (pO ob 0)) rfl) ?_
 refine qT rfl rfl (fun wq hS => R.sliceA (b := b_1) (off := 0) (off' := 0) (l := 0) (h := 32) rfl EvB.dflt EvB.dflt (by decide) (by decide) underlying23 sizeOf5 rfl) ?_
 refine qT rfl rfl (fun wq hS => R.sliceA (b := b_16) (off := 0) (off' := 0) (l := 0) (h := 128) rfl EvB.dflt EvB.dflt (by decide) (by decide) underlying29 sizeOf5 rfl) ?_
 refine WT.s (oN rfl ?_)
 refine WL.buildSl (vs := [(0, (.slice (some ⟨b_1, 0, none⟩) 32 32)), (1, (.slice (some ⟨b_16, 0, none⟩) 128 128))]) (cs := [(.slice (some ⟨b_1, 0, none⟩) 32 32), (.slice (some ⟨b_16, 0, none⟩) 128 128)]) h_22 underlying101 sizeOf54 (zv typeInfo54 rfl) rfl rfl (by kernel_rfl) rfl (by simp [Value.oneCell']) rfl rfl (fun b_24 w_25 h_26 => ?_)
 refine WL.nil ?_
 refine ⟨(SL.cons (h_26.ok _ M3) (SL.nil _ _)), ?_⟩
 refine WT.s (oN rfl ?_)
 have h_27 := h_26.up J4
 have h_28 := HP_blkView h_27
 have h_29 := h_28.up J2
 have h_30 := HP_blkView h_29
 have h_31 := h_30.up J2
 have h_32 := HP_blkView h_31
 have hbl_33 : ∀ b ∈ sblks [(.slice (some ⟨b_1, 0, none⟩) 32 32), (.slice (some ⟨b_16, 0, none⟩) 128 128)], ∃ e ∈ ((Ent.view (some ⟨b_24, 0, none⟩) [(.slice (some ⟨b_1, 0, none⟩) 32 32), (.slice (some ⟨b_16, 0, none⟩) 128 128)] :: Ent.view (some ⟨b_16, 0, none⟩) ((recB pc rg run).map vu8) :: Ent.view (some ⟨b_1, 0, none⟩) (md.map vu8) :: Ent.blk b_7 .nw 23 [(32, (List.replicate 32 (0 : UInt8)).map vu8)] :: Ent.blk b_4 .nw 84 [(1, [(vu64 pc)]), (8, rg.map vu64), (1, [(.bool run)])] :: Ent.blk ob .nw 90 [(1, [(.bool id)]), (32, ms.map vu8), (1, [(.slice da dn dc)]), (1, [(vi ((u : Nat) : Int))]), (1, [(.map (some mp))]), (1, [(.slice la lg.length lc)])] :: Ent.row la lg.length lc 64 67 lx :: Ent.obj mp .nw (.map (mArr lg) lg.length) :: Ent.pin (sblks lx) (fun w => Lgs w lx lg) :: Ent.view da (df.map vu8) :: L) : List Ent), e.mut = false ∧ b ∈ e.blocks := by
  intro b hb
  rcases List.mem_append.1 hb with hb | hb
  ·exact ⟨_, M2, rfl, sblk_in_view hmd b hb⟩
  rcases List.mem_append.1 hb with hb | hb
  ·exact ⟨_, M1, rfl, sblk_in_view (recB_len ..) b hb⟩
  cases hb
 have h_34 := HP_within (e' := .pin (sblks [(.slice (some ⟨b_1, 0, none⟩) 32 32), (.slice (some ⟨b_16, 0, none⟩) 128 128)]) (fun w => Sls w [(.slice (some ⟨b_1, 0, none⟩) 32 32), (.slice (some ⟨b_16, 0, none⟩) 128 128)] [md, recB pc rg run])) h_32 (Sls.pin (Sls.cons hmd (by decide) (viewV (h_32.ok _ M2)) (Sls.cons (recB_len ..) (by decide) (viewV (h_32.ok _ M1)) Sls.nil))) rfl rfl hbl_33
 have h_41 := ((((((h_34.up J1).up J1).up J10).up J10).up J10).up J10).up J10
 have h32_w_45 := Lgs.ok32 (h_41.ok _ M3).1
 refine WL.call Try.call34 rfl rfl (c_oDigest id ob mp ms df hms da dn dc u hdf la lc lx lg hu hlg (some ⟨b_24, 0, none⟩) 2 2 [(.slice (some ⟨b_1, 0, none⟩) 32 32), (.slice (some ⟨b_16, 0, none⟩) 128 128)] [md, recB pc rg run] rfl 3 (by omega) (by simp only [List.flatten_cons, List.flatten_nil, List.length_append, List.length_nil, leN_len]; rw [recB_len]; omega) (by omega) _ h_41) rfl ?_
 rintro _ w_45 ⟨la_42, lc_43, lx_44, rfl, h_46⟩
 refine WL.nil ?_
 refine ⟨(N10 h_46.ok), ?_⟩
 refine qT rfl rfl (fun wq hS => R.extract rfl rfl) ?_
 refine qT rfl rfl (fun wq hS => R.extract rfl rfl) ?_
 refine WT.s (oN rfl ?_)
 refine WL.storeA [] [(32, (zB 32).map vu8)] [(32, (anD id df dn u lg (1, (zB 32), 3, [md, recB pc rg run].flatten)).map vu8)] [] h_46 rfl rfl sizeOf23 Y9 (by decide) rfl rfl rfl rfl rfl rfl (sC (s8 (anD_len hdf h32_w_45)) sN) (fun w_47 h_48 => ?_)
 refine WL.nil ?_
 refine ⟨(N10 h_48.ok), ?_⟩
 refine qT rfl rfl (fun wq hS => R.assign (v := (vi 0)) rfl) ?_
 refine WT.nil (thn_n (WP.ret ?_))
 refine ret_of results77 (RV.cell rfl (h_48.loadA (cs := (anD id df dn u lg (1, (zB 32), 3, [md, recB pc rg run].flatten)).map vu8) isAgg23 sizeOf23 M9 rfl rfl) (RV.tmp (v := (vi 0)) rfl RV.nil)) ?_
 have h_65 := ((((((((((((((((h_48.up J5).drop rfl).up J5).drop rfl).up J5).drop rfl).up J5).drop rfl).up J5).drop rfl).up J5).drop rfl).up J4).up J4).up J4).up J4).up J4
 exact ⟨_, _, _, rfl, h_65⟩
end Go.Proofs.Yteclkcpdclimnaa
