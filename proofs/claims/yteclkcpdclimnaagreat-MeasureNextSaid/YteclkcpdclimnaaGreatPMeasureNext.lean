/- MeasureNext holds of every input. Conditions: none. -/
import Derived.Test.YteclkcpdclimnaaGreatZ6MeasureNext
set_option linter.unusedVariables false
set_option linter.unusedSimpArgs false
set_option linter.unusedSectionVars false
namespace Go.Proofs.YteclkcpdclimnaaGreat
open Go.Proofs.Tryz
open Go.Vc Go.Orc Go.Sh Go.RowKit
set_option linter.unusedVariables false
set_option linter.unusedSimpArgs false
set_option maxRecDepth 20000
theorem aggT23 : aggB Tryz.prog 23 = true := by unfold aggB; rw [underlying23]
theorem aggT70 : aggB Tryz.prog 70 = true := by unfold aggB; rw [underlying70]
theorem w_MN_ok (id : Bool) (ms df : List UInt8) (hms : ms.length = 32) (da0 : Option Addr) (n cap0 : Nat) (hl : df.length = 32 * n) (kd : Int) (hbk : -9223372036854775808 ≤ kd ∧ kd < 9223372036854775808) (val : List UInt8) (hvl : val.length = 32) (pg : Int) (hbp : -9223372036854775808 ≤ pg ∧ pg < 9223372036854775808) (gr : List UInt8) (hgr : gr.length = 128) (pc : UInt64) (rg : List UInt64) (hrg : rg.length = 8) (run : Bool) (hm : mayB kd val pg gr pc rg run = true) (hk : ¬ kd = 1) (w : World) (hv : View w da0 (df.map vu8)) :
  Cs Tryz.prog 6 [(.bool id), (.slice da0 n cap0), (.agg ⟨ms.map vu8⟩), (.agg ⟨flat [(1, [(vi kd)]), (32, val.map vu8), (1, [(vi pg)]), (128, gr.map vu8), (1, [(vu64 pc)]), (8, rg.map vu64), (1, [(.bool run)])]⟩)].toArray w (fun v w1 => v = (.bool true) ∧ Chg w w1 []) := by
 refine Cs.of (n := 84) (args := [(.bool id), (.slice da0 n cap0), (.agg ⟨ms.map vu8⟩), (.agg ⟨flat [(1, [(vi kd)]), (32, val.map vu8), (1, [(vi pg)]), (128, gr.map vu8), (1, [(vu64 pc)]), (8, rg.map vu64), (1, [(.bool run)])]⟩)]) Tryz.func6 rfl rfl rfl ?_
 have h_0 := HP.init w
 have h_00 := h_0.old (View.arg hv) (fun f hf => by cases hf)
 refine WP.seq (WP.reg ?_)
 refine WL.box (v := (.agg ⟨ms.map vu8⟩)) (segs := [(32, ms.map vu8)]) h_00 rfl rfl (sC (s8 hms) sN) rfl (fun b_1 w_2 h_3 => ?_)
 refine WL.box (v := (.agg ⟨flat [(1, [(vi kd)]), (32, val.map vu8), (1, [(vi pg)]), (128, gr.map vu8), (1, [(vu64 pc)]), (8, rg.map vu64), (1, [(.bool run)])]⟩)) (segs := [(1, [(vi kd)]), (32, val.map vu8), (1, [(vi pg)]), (128, gr.map vu8), (1, [(vu64 pc)]), (8, rg.map vu64), (1, [(.bool run)])]) h_3 rfl rfl (sC sV (sC (s8 hvl) (sC sV (sC (s8 hgr) (sC sV (sC (SOk.u64 hrg) (sC sV sN))))))) rfl (fun b_4 w_5 h_6 => ?_)
 refine qA (.bool false) rfl rfl ?_
 refine WL.nil (thn_n (WP.seq (WP.seq (WP.reg ?_))))
 refine qM (.slice da0 n cap0) rfl rfl (qV rfl (R.lenS (a := da0) (m := n) rfl rfl underlying24) (qV rfl (R.bin rfl rfl (bi_gtr (r := decide ((((n : Nat) : Int) : Int) > 60)) rfl)) ?_))
 refine WL.nil (thn_n ?_)
 refine WP.cond (b := decide ((((n : Nat) : Int) : Int) > 60)) rfl (fun c_7 => ?_) (fun c_7 => ?_)
 ·have p_8 := of_decide_eq_true c_7
  refine WP.seq (WP.reg ?_)
  refine WL.call Tryz.call23 rfl rfl (c_known12g  _ ) rfl ?_
  rintro _ w_10 ⟨rfl, hc_9⟩
  have h_11 := h_6.same hc_9
  refine qA (.bool true) rfl rfl ?_
  refine WL.nil (thn_n (WP.ret (thn_r ?_)))
  refine ret_of results6 (RV.tmp (v := (.bool true)) rfl RV.nil) ?_
  exact ⟨rfl, h_11.chgS⟩
 ·have p_12 := of_decide_eq_false c_7
  refine WP.skip (thn_n (WP.seq (WP.reg ?_)))
  refine qM (.bool id) rfl rfl (qV rfl (R.loadA [] [(32, ms.map vu8)] [] (cs := ms.map vu8) rfl isAgg23 sizeOf23 (h_6.ok _ M1) rfl rfl rfl rfl) (qM (.slice da0 n cap0) rfl rfl ?_))
  have h_13 := h_6.up J2
  refine WL.call Tryz.call24 rfl rfl (c_both12 id ms df hms da0 n cap0 hl (by omega) _ h_13) rfl ?_
  rintro _ w_19 ⟨b_14, b_15, a_16, c_17, b_18, rfl, h_20⟩
  have h_21 := h_20.rowNil 96 67
  have h_22 := HP_logNil h_21
  refine qM (.tuple [(pO b_14 0), (pO b_18 0)].toArray) rfl rfl (qV rfl (R.extract rfl rfl) (qV rfl (R.extract rfl rfl) (qA (pO b_14 0) rfl rfl (qA (pO b_18 0) rfl rfl ?_))))
  refine WL.nil (thn_n (WP.seq (WP.reg ?_)))
  refine qM (pO b_14 0) rfl rfl (qV rfl (R.loadA [] [(32, ms.map vu8)] [] (cs := ms.map vu8) rfl isAgg23 sizeOf23 (h_22.ok _ M10) rfl rfl rfl rfl) (qV rfl (R.loadA [] [(1, [(vi kd)]), (32, val.map vu8), (1, [(vi pg)]), (128, gr.map vu8), (1, [(vu64 pc)]), (8, rg.map vu64), (1, [(.bool run)])] [] (cs := flat [(1, [(vi kd)]), (32, val.map vu8), (1, [(vi pg)]), (128, gr.map vu8), (1, [(vu64 pc)]), (8, rg.map vu64), (1, [(.bool run)])]) rfl isAgg70 sizeOf70 (h_22.ok _ M9) rfl rfl rfl rfl) ?_))
  have h_27 := ((((h_22.up J6).up J1).up J5).up J3).up J4
  have h32_w_31 := Lgs.ok32 (h_27.ok _ M3).1
  refine WL.call Tryz.call34 rfl rfl (c_NextA id b_14 b_15 ms df hms a_16 n c_17 0 hl none 0 [] ([] : Lg) (by first | decide | omega | exact Nat.le_trans (anU_le ..) (by decide) | exact Nat.le_trans (anU_le ..) (Nat.le_trans (Nat.succ_le_succ (anU_le ..)) (by decide)) | exact Nat.le_trans (anU_le ..) (Nat.le_trans (Nat.succ_le_succ (Nat.le_trans (anU_le ..) (Nat.succ_le_succ (anU_le ..)))) (by decide))) (by first | decide | omega | exact Nat.le_trans (anL_le ..) (by decide) | exact Nat.le_trans (anL_le ..) (Nat.le_trans (Nat.succ_le_succ (anL_le ..)) (by decide)) | exact Nat.le_trans (anL_le ..) (Nat.le_trans (Nat.succ_le_succ (Nat.le_trans (anL_le ..) (Nat.succ_le_succ (anL_le ..)))) (by decide))) ms hms kd (by omega) val hvl pg (by omega) gr hgr pc rg hrg run hm hk _ h_27) rfl ?_
  rintro _ w_31 ⟨la_28, lc_29, lx_30, rfl, h_32⟩
  refine qM (.tuple [(.agg ⟨(anD id df n 0 ([] : Lg) (qN ms kd pg gr pc rg run)).map vu8⟩), (vi 0)].toArray) rfl rfl (qV rfl (R.extract rfl rfl) (qV rfl (R.extract rfl rfl) ?_))
  refine WL.alloc (segs := [(32, (List.replicate 32 (0 : UInt8)).map vu8)]) h_32 (zv typeInfo23 rfl) rfl (sC (s8 lr) sN) rfl (fun b_33 w_34 h_35 => ?_)
  refine WL.storeA (b := b_33) (off := 0) [] [(32, (List.replicate 32 (0 : UInt8)).map vu8)] [(32, (anD id df n 0 ([] : Lg) (qN ms kd pg gr pc rg run)).map vu8)] [] (ys := (anD id df n 0 ([] : Lg) (qN ms kd pg gr pc rg run)).map vu8) h_35 rfl rfl sizeOf23 At.h (by decide) rfl rfl rfl rfl rfl rfl (sC (s8 (anD_len hl h32_w_31)) sN) (fun w_36 h_37 => ?_)
  refine qA (vi 0) rfl rfl ?_
  refine WL.nil (thn_n (WP.seq (WP.seq ?_)))
  refine WP.drawT (SL w.heap.size [.blk b_33 .nw 23 [(32, (anD id df n 0 ([] : Lg) (qN ms kd pg gr pc rg run)).map vu8)], .blk b_14 .nw 118 [(1, [(.bool id)]), (32, ms.map vu8), (1, [(.slice a_16 n c_17)]), (1, [(vn (anU id 0 ([] : Lg) (qN ms kd pg gr pc rg run)))]), (1, [(.map (some b_15))]), (1, [(.slice la_28 ((anL id df n 0 ([] : Lg) (qN ms kd pg gr pc rg run)).length) lc_29)])], .row la_28 ((anL id df n 0 ([] : Lg) (qN ms kd pg gr pc rg run)).length) lc_29 96 67 lx_30, .obj b_15 .nw (.map (mArr (anL id df n 0 ([] : Lg) (qN ms kd pg gr pc rg run))) ((anL id df n 0 ([] : Lg) (qN ms kd pg gr pc rg run)).length)), .pin (sblks lx_30) (fun w => Lgs w lx_30 (anL id df n 0 ([] : Lg) (qN ms kd pg gr pc rg run))), .view a_16 (df.map vu8), .row none 0 0 96 67 [], .pin (sblks []) (fun w => Lgs w [] ([] : Lg)), .blk b_18 .nw 47 [(1, [(.bool id)]), (32, ms.map vu8), (1, [(.slice da0 n cap0)]), (1, [(vi 0)]), (1, [(.slice none 0 0)])], .view da0 (df.map vu8), .blk b_4 .nw 70 [(1, [(vi kd)]), (32, val.map vu8), (1, [(vi pg)]), (128, gr.map vu8), (1, [(vu64 pc)]), (8, rg.map vu64), (1, [(.bool run)])], .blk b_1 .nw 23 [(32, ms.map vu8)]]) (.q 0 (.q 2 (.s 1 (.s 3 (.q 4 .nil))))) (by kernel_rfl) (by kernel_rfl) rfl (by kernel_rfl) (fun w_38 hc_40 => (SL.cons ((h_37.same hc_40).ok _ M0) (SL.cons ((h_37.same hc_40).ok _ M1) (SL.cons ((h_37.same hc_40).ok _ M2) (SL.cons ((h_37.same hc_40).ok _ M3) (SL.cons ((h_37.same hc_40).ok _ M4) (SL.cons ((h_37.same hc_40).ok _ M5) (SL.cons ((h_37.same hc_40).ok _ M6) (SL.cons ((h_37.same hc_40).ok _ M7) (SL.cons ((h_37.same hc_40).ok _ M8) (SL.cons ((h_37.same hc_40).ok _ M9) (SL.cons ((h_37.same hc_40).ok _ M10) (SL.cons ((h_37.same hc_40).ok _ M11) (SL.nil _ _)))))))))))))) (fun w_38 hc_40 => ?_)
  have h_39 := h_37.same hc_40
  refine qT rfl rfl (fun wq hS => R.loadA [] [(1, [(vi kd)]), (32, val.map vu8), (1, [(vi pg)]), (128, gr.map vu8), (1, [(vu64 pc)]), (8, rg.map vu64), (1, [(.bool run)])] [] (cs := flat [(1, [(vi kd)]), (32, val.map vu8), (1, [(vi pg)]), (128, gr.map vu8), (1, [(vu64 pc)]), (8, rg.map vu64), (1, [(.bool run)])]) rfl isAgg70 sizeOf70 (hS _ M10) rfl rfl rfl rfl) ?_
  refine qT rfl rfl (fun wq hS => R.loadA [] [(1, [(vi kd)]), (32, val.map vu8), (1, [(vi pg)]), (128, gr.map vu8), (1, [(vu64 pc)]), (8, rg.map vu64), (1, [(.bool run)])] [] (cs := flat [(1, [(vi kd)]), (32, val.map vu8), (1, [(vi pg)]), (128, gr.map vu8), (1, [(vu64 pc)]), (8, rg.map vu64), (1, [(.bool run)])]) rfl isAgg70 sizeOf70 (hS _ M10) rfl rfl rfl rfl) ?_
  refine WT.s (oN rfl ?_)
  refine WL.call Tryz.call35 rfl rfl (c_MayA kd (by omega) val hvl pg (by omega) gr hgr pc rg hrg run _ ) rfl ?_
  rintro _ w_42 ⟨rfl, hc_41⟩
  have h_43 := h_39.same hc_41
  refine WL.nil ?_
  refine ⟨(N0_1_2_3_4_5_6_7_8_9_10_11 h_43.ok), ?_⟩
  refine WT.s (oN rfl ?_)
  refine WL.call Tryz.call36 rfl rfl (c_MayAR kd (by omega) val hvl pg (by omega) gr hgr pc rg hrg run _ ) rfl ?_
  rintro _ w_45 ⟨rfl, hc_44⟩
  have h_46 := h_43.same hc_44
  refine WL.nil ?_
  refine ⟨(N0_1_2_3_4_5_6_7_8_9_10_11 h_46.ok), ?_⟩
  refine qT rfl rfl (fun wq hS => R.neB (a := true) (b := true) (c := false) (congrArg Value.bool hm) (congrArg Value.bool hm) underlying4 rfl) ?_
  refine WT.nil (thn_n ?_)
  refine WP.condF rfl ?_
  refine WP.skip (thn_n (WP.seq (WP.seq (WP.reg ?_))))
  refine qV rfl (R.loadA [] [(1, [(vi kd)]), (32, val.map vu8), (1, [(vi pg)]), (128, gr.map vu8), (1, [(vu64 pc)]), (8, rg.map vu64), (1, [(.bool run)])] [] (cs := flat [(1, [(vi kd)]), (32, val.map vu8), (1, [(vi pg)]), (128, gr.map vu8), (1, [(vu64 pc)]), (8, rg.map vu64), (1, [(.bool run)])]) rfl isAgg70 sizeOf70 (h_46.ok _ M10) rfl rfl rfl rfl) ?_
  refine WL.call Tryz.call36 rfl rfl (c_MayAR kd (by omega) val hvl pg (by omega) gr hgr pc rg hrg run _ ) rfl ?_
  rintro _ w_48 ⟨rfl, hc_47⟩
  have h_49 := h_46.same hc_47
  refine qV rfl (R.not (b := true) (congrArg Value.bool hm)) (qM (.bool false) rfl rfl ?_)
  refine WL.want rfl rfl ?_
  refine qV rfl (R.fieldAddr (off' := 0) rfl underlying70 rfl sizeOf68 rfl rfl) ?_
  refine WL.want rfl rfl ?_
  refine qV rfl (R.load1 rfl isAgg68 (h_49.ok _ M10) Sg.h) ?_
  refine WL.want rfl rfl ?_
  refine qV rfl (R.bin rfl rfl (bi_eql (r := decide ((kd : Int) = 1)) rfl)) (qV rfl (R.pickF (v := (.bool (decide ((kd : Int) = 1)))) rfl rfl) ?_)
  refine WL.nil (thn_n ?_)
  refine WP.condF (congrArg Value.bool (decide_eq_false hk)) ?_
  refine WP.skip (thn_n (WP.seq ?_))
  refine WP.cutG (G := Option Addr × Nat × Option Addr × Nat × List Value × List Value) [8, 61, 62, 63, 64, 65, 66, 67, 68, 69, 70, 71, 72, 73, 74, 75, 76, 77, 78, 79, 80, 81, 82, 83] (fun (aY9Y13Y0Y0, cY9Y13Y0Y0, laY9Y4Y0Y0, lcY9Y4Y0Y0, ysY9Y13Y0Y0, lxY9Y4Y0Y0) => [(8, (.bool true)), (61, (.agg ⟨(anD id df n 0 ([] : Lg) (qN ms kd pg gr pc rg run)).map vu8⟩)), (62, (pO b_18 0)), (63, (.agg ⟨ms.map vu8⟩)), (64, (.agg ⟨flat [(1, [(vi kd)]), (32, val.map vu8), (1, [(vi pg)]), (128, gr.map vu8), (1, [(vu64 pc)]), (8, rg.map vu64), (1, [(.bool run)])]⟩)), (65, (.agg ⟨(anD id df n 0 ([] : Lg) (qN ms kd pg gr pc rg run)).map vu8⟩)), (66, (.bool true)), (67, (.bool true)), (68, (vi 0)), (69, (vi 0)), (70, (.bool true)), (71, (.bool true)), (72, (.bool true)), (73, (pO b_14 0)), (75, (pO b_18 0)), (76, (pO b_18 0)), (77, (pO b_18 35)), (74, (.slice aY9Y13Y0Y0 ((anL id df n 0 ([] : Lg) (qN ms kd pg gr pc rg run)).length) cY9Y13Y0Y0)), (78, (.slice laY9Y4Y0Y0 ((anL id df n 0 ([] : Lg) (qN ms kd pg gr pc rg run)).length) lcY9Y4Y0Y0)), (79, (.bool true)), (80, (.bool true)), (81, (.bool true)), (82, (.bool true)), (83, (.bool true))]) (fun (aY9Y13Y0Y0, cY9Y13Y0Y0, laY9Y4Y0Y0, lcY9Y4Y0Y0, ysY9Y13Y0Y0, lxY9Y4Y0Y0) w1 => HP w w1 [.row aY9Y13Y0Y0 ((anL id df n 0 ([] : Lg) (qN ms kd pg gr pc rg run)).length) cY9Y13Y0Y0 96 67 ysY9Y13Y0Y0, .pin (sblks ysY9Y13Y0Y0) (fun w => Lgs w ysY9Y13Y0Y0 (anL id df n 0 ([] : Lg) (qN ms kd pg gr pc rg run))), .blk b_14 .nw 118 [(1, [(.bool id)]), (32, ms.map vu8), (1, [(.slice a_16 n c_17)]), (1, [(vn (anU id 0 ([] : Lg) (qN ms kd pg gr pc rg run)))]), (1, [(.map (some b_15))]), (1, [(.slice la_28 ((anL id df n 0 ([] : Lg) (qN ms kd pg gr pc rg run)).length) lc_29)])], .row la_28 ((anL id df n 0 ([] : Lg) (qN ms kd pg gr pc rg run)).length) lc_29 96 67 lx_30, .obj b_15 .nw (.map (mArr (anL id df n 0 ([] : Lg) (qN ms kd pg gr pc rg run))) ((anL id df n 0 ([] : Lg) (qN ms kd pg gr pc rg run)).length)), .pin (sblks lx_30) (fun w => Lgs w lx_30 (anL id df n 0 ([] : Lg) (qN ms kd pg gr pc rg run))), .view a_16 (df.map vu8), .blk b_18 .nw 47 [(1, [(.bool id)]), (32, ms.map vu8), (1, [(.slice da0 n cap0)]), (1, [(vn (anU id 0 ([] : Lg) (qN ms kd pg gr pc rg run)))]), (1, [(.slice laY9Y4Y0Y0 ((anL id df n 0 ([] : Lg) (qN ms kd pg gr pc rg run)).length) lcY9Y4Y0Y0)])], .row laY9Y4Y0Y0 ((anL id df n 0 ([] : Lg) (qN ms kd pg gr pc rg run)).length) lcY9Y4Y0Y0 96 67 lxY9Y4Y0Y0, .pin (sblks lxY9Y4Y0Y0) (fun w => Lgs w lxY9Y4Y0Y0 (anL id df n 0 ([] : Lg) (qN ms kd pg gr pc rg run))), .view da0 (df.map vu8), .blk b_33 .nw 23 [(32, (anD id df n 0 ([] : Lg) (qN ms kd pg gr pc rg run)).map vu8)], .blk b_4 .nw 70 [(1, [(vi kd)]), (32, val.map vu8), (1, [(vi pg)]), (128, gr.map vu8), (1, [(vu64 pc)]), (8, rg.map vu64), (1, [(.bool run)])], .blk b_1 .nw 23 [(32, ms.map vu8)]]) ?_ ?_
  ·refine WP.drawT (SL w.heap.size [.blk b_33 .nw 23 [(32, (anD id df n 0 ([] : Lg) (qN ms kd pg gr pc rg run)).map vu8)], .blk b_14 .nw 118 [(1, [(.bool id)]), (32, ms.map vu8), (1, [(.slice a_16 n c_17)]), (1, [(vn (anU id 0 ([] : Lg) (qN ms kd pg gr pc rg run)))]), (1, [(.map (some b_15))]), (1, [(.slice la_28 ((anL id df n 0 ([] : Lg) (qN ms kd pg gr pc rg run)).length) lc_29)])], .row la_28 ((anL id df n 0 ([] : Lg) (qN ms kd pg gr pc rg run)).length) lc_29 96 67 lx_30, .obj b_15 .nw (.map (mArr (anL id df n 0 ([] : Lg) (qN ms kd pg gr pc rg run))) ((anL id df n 0 ([] : Lg) (qN ms kd pg gr pc rg run)).length)), .pin (sblks lx_30) (fun w => Lgs w lx_30 (anL id df n 0 ([] : Lg) (qN ms kd pg gr pc rg run))), .view a_16 (df.map vu8), .blk b_4 .nw 70 [(1, [(vi kd)]), (32, val.map vu8), (1, [(vi pg)]), (128, gr.map vu8), (1, [(vu64 pc)]), (8, rg.map vu64), (1, [(.bool run)])], .blk b_1 .nw 23 [(32, ms.map vu8)]]) (.q 0 (.q 1 (.q 2 (.q 3 (.s 4 (.q 5 (.q 6 (.q 7 (.s 8 (.q 9 (.q 10 (.q 11 (.q 12 (.q 14 (.q 15 (.q 16 (.s2 13 17 (.s 17 (.s 18 (.q 19 (.q 20 (.s 21 (.q 22 (.q 23 .nil))))))) (.s 13 (.s 18 (.q 19 (.q 20 (.s 21 (.q 22 (.q 23 .nil)))))))))))))))))))))))) (by kernel_rfl) (by kernel_rfl) rfl (by kernel_rfl) (fun w_50 hc_52 => (SL.cons ((h_49.same hc_52).ok _ M0) (SL.cons ((h_49.same hc_52).ok _ M1) (SL.cons ((h_49.same hc_52).ok _ M2) (SL.cons ((h_49.same hc_52).ok _ M3) (SL.cons ((h_49.same hc_52).ok _ M4) (SL.cons ((h_49.same hc_52).ok _ M5) (SL.cons ((h_49.same hc_52).ok _ M10) (SL.cons ((h_49.same hc_52).ok _ M11) (SL.nil _ _)))))))))) (fun w_50 hc_52 => ?_)
   have h_51 := h_49.same hc_52
   refine qT rfl rfl (fun wq hS => R.loadA [] [(32, (anD id df n 0 ([] : Lg) (qN ms kd pg gr pc rg run)).map vu8)] [] (cs := (anD id df n 0 ([] : Lg) (qN ms kd pg gr pc rg run)).map vu8) rfl isAgg23 sizeOf23 (hS _ M0) rfl rfl rfl rfl) ?_
   refine qT rfl rfl (fun wq hS => R.move (v := (pO b_18 0)) rfl) ?_
   refine qT rfl rfl (fun wq hS => R.loadA [] [(32, ms.map vu8)] [] (cs := ms.map vu8) rfl isAgg23 sizeOf23 (hS _ M7) rfl rfl rfl rfl) ?_
   refine qT rfl rfl (fun wq hS => R.loadA [] [(1, [(vi kd)]), (32, val.map vu8), (1, [(vi pg)]), (128, gr.map vu8), (1, [(vu64 pc)]), (8, rg.map vu64), (1, [(.bool run)])] [] (cs := flat [(1, [(vi kd)]), (32, val.map vu8), (1, [(vi pg)]), (128, gr.map vu8), (1, [(vu64 pc)]), (8, rg.map vu64), (1, [(.bool run)])]) rfl isAgg70 sizeOf70 (hS _ M6) rfl rfl rfl rfl) ?_
   refine WT.s (oN rfl ?_)
   have h_56 := (((h_51.up J9).up J8).up J8).up J9
   refine WL.call Tryz.call37 rfl rfl (c_rNextA id b_18 ms df hms da0 n cap0 0 hl none 0 [] ([] : Lg) (by first | decide | omega | exact Nat.le_trans (anU_le ..) (by decide) | exact Nat.le_trans (anU_le ..) (Nat.le_trans (Nat.succ_le_succ (anU_le ..)) (by decide)) | exact Nat.le_trans (anU_le ..) (Nat.le_trans (Nat.succ_le_succ (Nat.le_trans (anU_le ..) (Nat.succ_le_succ (anU_le ..)))) (by decide))) (by first | decide | omega | exact Nat.le_trans (anL_le ..) (by decide) | exact Nat.le_trans (anL_le ..) (Nat.le_trans (Nat.succ_le_succ (anL_le ..)) (by decide)) | exact Nat.le_trans (anL_le ..) (Nat.le_trans (Nat.succ_le_succ (Nat.le_trans (anL_le ..) (Nat.succ_le_succ (anL_le ..)))) (by decide))) ms hms kd (by omega) val hvl pg (by omega) gr hgr pc rg hrg run hm hk _ h_56) rfl ?_
   rintro _ w_60 ⟨la_57, lc_58, lx_59, rfl, h_61⟩
   refine WL.nil ?_
   refine ⟨(N4_5_6_7_8_9_10_11 h_61.ok), ?_⟩
   refine qT rfl rfl (fun wq hS => R.eqA (xs := (anD id df n 0 ([] : Lg) (qN ms kd pg gr pc rg run)).map vu8) (ys := (anD id df n 0 ([] : Lg) (qN ms kd pg gr pc rg run)).map vu8) (r := true) rfl rfl eqGuardType23 kt23 (by decide) ag23 (Typ.u8s underlying23 ce23 underlying5 ce5 (anD_len hl h32_w_31)) (Typ.u8s underlying23 ce23 underlying5 ce5 (anD_len hl okN)) (eqT rfl)) ?_
   refine qT rfl rfl (fun wq hS => R.move (v := (.bool true)) rfl) ?_
   refine WT.q rfl (Wn.yes rfl rfl rfl) rfl rfl (fun wq hS => R.move (v := (vi 0)) rfl) ?_
   refine WT.s ?_
   refine Op1.one rfl (Wn.yes rfl rfl rfl) ?_
   refine WL.call Tryz.call26 rfl rfl (c_num12 0 (by omega) _ ) rfl ?_
   rintro _ w_63 ⟨rfl, hc_62⟩
   have h_64 := h_61.same hc_62
   refine WL.nil ?_
   refine ⟨(N4_5_6_7_8_9_10_11 h_64.ok), ?_⟩
   refine WT.q rfl (Wn.yes rfl rfl rfl) rfl rfl (fun wq hS => R.bin rfl rfl (bi_eql (r := true) (by decide))) ?_
   refine qT rfl rfl (fun wq hS => R.pickT (v := (.bool true)) rfl rfl) ?_
   refine qT rfl rfl (fun wq hS => R.move (v := (.bool true)) rfl) ?_
   refine WT.q rfl (Wn.yes rfl rfl rfl) rfl rfl (fun wq hS => R.move (v := (pO b_14 0)) rfl) ?_
   refine WT.q rfl (Wn.yes rfl rfl rfl) rfl rfl (fun wq hS => R.move (v := (pO b_18 0)) rfl) ?_
   refine WT.q rfl (Wn.yes rfl rfl rfl) rfl rfl (fun wq hS => R.nilCheck rfl) ?_
   refine WT.q rfl (Wn.yes rfl rfl rfl) rfl rfl (fun wq hS => R.fieldAddr (off' := 35) rfl underlying47 rfl sizeOf44 rfl rfl) ?_
   refine WT.s2 ?_ ?_
   ·refine Op1.one rfl (Wn.yes rfl rfl rfl) ?_
    have h_69 := ((((h_64.up J9).up J9).up J9).up J9).up J9
    refine WL.call Tryz.call19 rfl rfl (c_oLog id b_14 b_15 ms df hms a_16 n c_17 (anU id 0 ([] : Lg) (qN ms kd pg gr pc rg run)) hl la_28 lc_29 lx_30 (anL id df n 0 ([] : Lg) (qN ms kd pg gr pc rg run)) (by first | decide | omega | exact Nat.le_trans (anU_le ..) (by decide) | exact Nat.le_trans (anU_le ..) (Nat.le_trans (Nat.succ_le_succ (anU_le ..)) (by decide)) | exact Nat.le_trans (anU_le ..) (Nat.le_trans (Nat.succ_le_succ (Nat.le_trans (anU_le ..) (Nat.succ_le_succ (anU_le ..)))) (by decide))) (by first | decide | omega | exact Nat.le_trans (anL_le ..) (by decide) | exact Nat.le_trans (anL_le ..) (Nat.le_trans (Nat.succ_le_succ (anL_le ..)) (by decide)) | exact Nat.le_trans (anL_le ..) (Nat.le_trans (Nat.succ_le_succ (Nat.le_trans (anL_le ..) (Nat.succ_le_succ (anL_le ..)))) (by decide))) _ h_69) rfl ?_
    rintro _ w_73 ⟨a_70, c_71, ys_72, rfl, h_74⟩
    refine WL.nil ?_
    refine ⟨(N11_2_3_4_5_6_12_13 h_74.ok), ?_⟩
    refine WT.s ?_
    refine Op1.one rfl (Wn.yes rfl rfl rfl) ?_
    refine qV rfl (R.load1 rfl isAgg44 (h_74.ok _ M7) (Sg.t rfl (Sg.t rfl (Sg.t rfl (Sg.t rfl Sg.h))))) ?_
    refine WL.nil ?_
    refine ⟨(N11_2_3_4_5_6_12_13 h_74.ok), ?_⟩
    refine WT.s ?_
    refine Op1.one rfl (Wn.yes rfl rfl rfl) ?_
    refine WL.call Tryz.call18 rfl rfl (c_rSameLog a_70 ((anL id df n 0 ([] : Lg) (qN ms kd pg gr pc rg run)).length) c_71 ys_72 (anL id df n 0 ([] : Lg) (qN ms kd pg gr pc rg run)) rfl (by first | decide | exact Nat.le_trans (anL_le ..) (by decide) | exact Nat.le_trans (anL_le ..) (Nat.le_trans (Nat.succ_le_succ (anL_le ..)) (by decide)) | exact Nat.le_trans (anL_le ..) (Nat.le_trans (Nat.succ_le_succ (Nat.le_trans (anL_le ..) (Nat.succ_le_succ (anL_le ..)))) (by decide))) la_57 lc_58 lx_59 _ (ownView (h_74.ok _ M0)) (h_74.ok _ M1).1 (ownView (h_74.ok _ M8)) (h_74.ok _ M9).1) rfl ?_
    rintro _ w_76 ⟨rfl, hc_75⟩
    have h_77 := h_74.same hc_75
    refine WL.nil ?_
    refine ⟨(N11_2_3_4_5_6_12_13 h_77.ok), ?_⟩
    refine qT rfl rfl (fun wq hS => R.pickT (v := (.bool true)) rfl (rfl)) ?_
    refine qT rfl rfl (fun wq hS => R.move (v := (.bool true)) rfl) ?_
    refine WT.s ?_
    refine Op1.one rfl (Wn.yes rfl rfl rfl) ?_
    refine WL.call Tryz.call23 rfl rfl (c_known12g  _ ) rfl ?_
    rintro _ w_79 ⟨rfl, hc_78⟩
    have h_80 := h_77.same hc_78
    refine WL.nil ?_
    refine ⟨(N11_2_3_4_5_6_12_13 h_80.ok), ?_⟩
    refine qT rfl rfl (fun wq hS => R.pickT (v := (.bool true)) rfl rfl) ?_
    refine qT rfl rfl (fun wq hS => R.assign (v := (.bool true)) rfl) ?_
    refine WT.nil (thn_n ?_)
    exact ⟨(a_70, c_71, la_57, lc_58, ys_72, lx_59), (U4 rfl rfl rfl rfl (U4 rfl rfl rfl rfl (U4 rfl rfl rfl rfl (U4 rfl rfl rfl rfl (U4 rfl rfl rfl rfl (U4 rfl rfl rfl rfl (Ag.refl _ _))))))), ⟨rfl, rfl, rfl, rfl, rfl, rfl, rfl, rfl, rfl, rfl, rfl, rfl, rfl, rfl, rfl, rfl, rfl, rfl, rfl, (rfl), rfl, rfl, rfl, rfl, trivial⟩, h_80⟩
   ·refine Op1.one rfl (Wn.yes rfl rfl rfl) ?_
    refine qV rfl (R.load1 rfl isAgg44 (h_64.ok _ M0) (Sg.t rfl (Sg.t rfl (Sg.t rfl (Sg.t rfl Sg.h))))) ?_
    refine WL.nil ?_
    refine ⟨(N4_5_6_7_8_9_10_11 h_64.ok), ?_⟩
    refine WT.s ?_
    refine Op1.one rfl (Wn.yes rfl rfl rfl) ?_
    have h_85 := ((((h_64.up J9).up J9).up J9).up J9).up J9
    refine WL.call Tryz.call19 rfl rfl (c_oLog id b_14 b_15 ms df hms a_16 n c_17 (anU id 0 ([] : Lg) (qN ms kd pg gr pc rg run)) hl la_28 lc_29 lx_30 (anL id df n 0 ([] : Lg) (qN ms kd pg gr pc rg run)) (by first | decide | omega | exact Nat.le_trans (anU_le ..) (by decide) | exact Nat.le_trans (anU_le ..) (Nat.le_trans (Nat.succ_le_succ (anU_le ..)) (by decide)) | exact Nat.le_trans (anU_le ..) (Nat.le_trans (Nat.succ_le_succ (Nat.le_trans (anU_le ..) (Nat.succ_le_succ (anU_le ..)))) (by decide))) (by first | decide | omega | exact Nat.le_trans (anL_le ..) (by decide) | exact Nat.le_trans (anL_le ..) (Nat.le_trans (Nat.succ_le_succ (anL_le ..)) (by decide)) | exact Nat.le_trans (anL_le ..) (Nat.le_trans (Nat.succ_le_succ (Nat.le_trans (anL_le ..) (Nat.succ_le_succ (anL_le ..)))) (by decide))) _ h_85) rfl ?_
    rintro _ w_89 ⟨a_86, c_87, ys_88, rfl, h_90⟩
    refine WL.nil ?_
    refine ⟨(N11_2_3_4_5_6_12_13 h_90.ok), ?_⟩
    refine WT.s ?_
    refine Op1.one rfl (Wn.yes rfl rfl rfl) ?_
    refine WL.call Tryz.call18 rfl rfl (c_rSameLog a_86 ((anL id df n 0 ([] : Lg) (qN ms kd pg gr pc rg run)).length) c_87 ys_88 (anL id df n 0 ([] : Lg) (qN ms kd pg gr pc rg run)) rfl (by first | decide | exact Nat.le_trans (anL_le ..) (by decide) | exact Nat.le_trans (anL_le ..) (Nat.le_trans (Nat.succ_le_succ (anL_le ..)) (by decide)) | exact Nat.le_trans (anL_le ..) (Nat.le_trans (Nat.succ_le_succ (Nat.le_trans (anL_le ..) (Nat.succ_le_succ (anL_le ..)))) (by decide))) la_57 lc_58 lx_59 _ (ownView (h_90.ok _ M0)) (h_90.ok _ M1).1 (ownView (h_90.ok _ M8)) (h_90.ok _ M9).1) rfl ?_
    rintro _ w_92 ⟨rfl, hc_91⟩
    have h_93 := h_90.same hc_91
    refine WL.nil ?_
    refine ⟨(N11_2_3_4_5_6_12_13 h_93.ok), ?_⟩
    refine qT rfl rfl (fun wq hS => R.pickT (v := (.bool true)) rfl (rfl)) ?_
    refine qT rfl rfl (fun wq hS => R.move (v := (.bool true)) rfl) ?_
    refine WT.s ?_
    refine Op1.one rfl (Wn.yes rfl rfl rfl) ?_
    refine WL.call Tryz.call23 rfl rfl (c_known12g  _ ) rfl ?_
    rintro _ w_95 ⟨rfl, hc_94⟩
    have h_96 := h_93.same hc_94
    refine WL.nil ?_
    refine ⟨(N11_2_3_4_5_6_12_13 h_96.ok), ?_⟩
    refine qT rfl rfl (fun wq hS => R.pickT (v := (.bool true)) rfl rfl) ?_
    refine qT rfl rfl (fun wq hS => R.assign (v := (.bool true)) rfl) ?_
    refine WT.nil (thn_n ?_)
    exact ⟨(a_86, c_87, la_57, lc_58, ys_88, lx_59), (U4 rfl rfl rfl rfl (U4 rfl rfl rfl rfl (U4 rfl rfl rfl rfl (U4 rfl rfl rfl rfl (U4 rfl rfl rfl rfl (U4 rfl rfl rfl rfl (Ag.refl _ _))))))), ⟨rfl, rfl, rfl, rfl, rfl, rfl, rfl, rfl, rfl, rfl, rfl, rfl, rfl, rfl, rfl, rfl, rfl, rfl, rfl, (rfl), rfl, rfl, rfl, rfl, trivial⟩, h_96⟩
  ·rintro ⟨a_100, c_101, la_102, lc_103, ys_104, lx_105⟩ J_97 w_98 h_99
   refine thn_n (WP.ret ?_)
   refine ret_of results6 (RV.tmp (v := (.bool true)) rfl RV.nil) ?_
   exact ⟨rfl, h_99.chgS⟩

theorem w_MN_no (id : Bool) (ms df : List UInt8) (hms : ms.length = 32) (da0 : Option Addr) (n cap0 : Nat) (hl : df.length = 32 * n) (kd : Int) (hbk : -9223372036854775808 ≤ kd ∧ kd < 9223372036854775808) (val : List UInt8) (hvl : val.length = 32) (pg : Int) (hbp : -9223372036854775808 ≤ pg ∧ pg < 9223372036854775808) (gr : List UInt8) (hgr : gr.length = 128) (pc : UInt64) (rg : List UInt64) (hrg : rg.length = 8) (run : Bool) (hm : mayB kd val pg gr pc rg run = false) (w : World) (hv : View w da0 (df.map vu8)) :
  Cs Tryz.prog 6 [(.bool id), (.slice da0 n cap0), (.agg ⟨ms.map vu8⟩), (.agg ⟨flat [(1, [(vi kd)]), (32, val.map vu8), (1, [(vi pg)]), (128, gr.map vu8), (1, [(vu64 pc)]), (8, rg.map vu64), (1, [(.bool run)])]⟩)].toArray w (fun v w1 => v = (.bool true) ∧ Chg w w1 []) := by
 refine Cs.of (n := 84) (args := [(.bool id), (.slice da0 n cap0), (.agg ⟨ms.map vu8⟩), (.agg ⟨flat [(1, [(vi kd)]), (32, val.map vu8), (1, [(vi pg)]), (128, gr.map vu8), (1, [(vu64 pc)]), (8, rg.map vu64), (1, [(.bool run)])]⟩)]) Tryz.func6 rfl rfl rfl ?_
 have h_0 := HP.init w
 have h_00 := h_0.old (View.arg hv) (fun f hf => by cases hf)
 refine WP.seq (WP.reg ?_)
 refine WL.box (v := (.agg ⟨ms.map vu8⟩)) (segs := [(32, ms.map vu8)]) h_00 rfl rfl (sC (s8 hms) sN) rfl (fun b_1 w_2 h_3 => ?_)
 refine WL.box (v := (.agg ⟨flat [(1, [(vi kd)]), (32, val.map vu8), (1, [(vi pg)]), (128, gr.map vu8), (1, [(vu64 pc)]), (8, rg.map vu64), (1, [(.bool run)])]⟩)) (segs := [(1, [(vi kd)]), (32, val.map vu8), (1, [(vi pg)]), (128, gr.map vu8), (1, [(vu64 pc)]), (8, rg.map vu64), (1, [(.bool run)])]) h_3 rfl rfl (sC sV (sC (s8 hvl) (sC sV (sC (s8 hgr) (sC sV (sC (SOk.u64 hrg) (sC sV sN))))))) rfl (fun b_4 w_5 h_6 => ?_)
 refine qA (.bool false) rfl rfl ?_
 refine WL.nil (thn_n (WP.seq (WP.seq (WP.reg ?_))))
 refine qM (.slice da0 n cap0) rfl rfl (qV rfl (R.lenS (a := da0) (m := n) rfl rfl underlying24) (qV rfl (R.bin rfl rfl (bi_gtr (r := decide ((((n : Nat) : Int) : Int) > 60)) rfl)) ?_))
 refine WL.nil (thn_n ?_)
 refine WP.cond (b := decide ((((n : Nat) : Int) : Int) > 60)) rfl (fun c_7 => ?_) (fun c_7 => ?_)
 ·have p_8 := of_decide_eq_true c_7
  refine WP.seq (WP.reg ?_)
  refine WL.call Tryz.call23 rfl rfl (c_known12g  _ ) rfl ?_
  rintro _ w_10 ⟨rfl, hc_9⟩
  have h_11 := h_6.same hc_9
  refine qA (.bool true) rfl rfl ?_
  refine WL.nil (thn_n (WP.ret (thn_r ?_)))
  refine ret_of results6 (RV.tmp (v := (.bool true)) rfl RV.nil) ?_
  exact ⟨rfl, h_11.chgS⟩
 ·have p_12 := of_decide_eq_false c_7
  refine WP.skip (thn_n (WP.seq (WP.reg ?_)))
  refine qM (.bool id) rfl rfl (qV rfl (R.loadA [] [(32, ms.map vu8)] [] (cs := ms.map vu8) rfl isAgg23 sizeOf23 (h_6.ok _ M1) rfl rfl rfl rfl) (qM (.slice da0 n cap0) rfl rfl ?_))
  have h_13 := h_6.up J2
  refine WL.call Tryz.call24 rfl rfl (c_both12 id ms df hms da0 n cap0 hl (by omega) _ h_13) rfl ?_
  rintro _ w_19 ⟨b_14, b_15, a_16, c_17, b_18, rfl, h_20⟩
  have h_21 := h_20.rowNil 96 67
  have h_22 := HP_logNil h_21
  refine qM (.tuple [(pO b_14 0), (pO b_18 0)].toArray) rfl rfl (qV rfl (R.extract rfl rfl) (qV rfl (R.extract rfl rfl) (qA (pO b_14 0) rfl rfl (qA (pO b_18 0) rfl rfl ?_))))
  refine WL.nil (thn_n (WP.seq (WP.reg ?_)))
  refine qM (pO b_14 0) rfl rfl (qV rfl (R.loadA [] [(32, ms.map vu8)] [] (cs := ms.map vu8) rfl isAgg23 sizeOf23 (h_22.ok _ M10) rfl rfl rfl rfl) (qV rfl (R.loadA [] [(1, [(vi kd)]), (32, val.map vu8), (1, [(vi pg)]), (128, gr.map vu8), (1, [(vu64 pc)]), (8, rg.map vu64), (1, [(.bool run)])] [] (cs := flat [(1, [(vi kd)]), (32, val.map vu8), (1, [(vi pg)]), (128, gr.map vu8), (1, [(vu64 pc)]), (8, rg.map vu64), (1, [(.bool run)])]) rfl isAgg70 sizeOf70 (h_22.ok _ M9) rfl rfl rfl rfl) ?_))
  refine WL.call Tryz.call34 rfl rfl (c_NextNo id b_14 b_15 ms hms a_16 n c_17 0 none 0 0 ms hms kd (by omega) val hvl pg (by omega) gr hgr pc rg hrg run (.inr hm) _ (h_22.argR M2)) rfl ?_
  rintro _ w_24 ⟨rfl, hc_23⟩
  have h_25 := h_22.same hc_23
  refine qM (.tuple [(.agg ⟨(List.replicate 32 (0 : UInt8)).map vu8⟩), (vi 2)].toArray) rfl rfl (qV rfl (R.extract rfl rfl) (qV rfl (R.extract rfl rfl) ?_))
  refine WL.alloc (segs := [(32, (List.replicate 32 (0 : UInt8)).map vu8)]) h_25 (zv typeInfo23 rfl) rfl (sC (s8 lr) sN) rfl (fun b_26 w_27 h_28 => ?_)
  refine WL.storeA (b := b_26) (off := 0) [] [(32, (List.replicate 32 (0 : UInt8)).map vu8)] [(32, (List.replicate 32 (0 : UInt8)).map vu8)] [] (ys := (List.replicate 32 (0 : UInt8)).map vu8) h_28 rfl rfl sizeOf23 At.h (by decide) rfl rfl rfl rfl rfl rfl (sC (s8 lr) sN) (fun w_29 h_30 => ?_)
  refine qA (vi 2) rfl rfl ?_
  refine WL.nil (thn_n (WP.seq (WP.seq ?_)))
  refine WP.drawT (SL w.heap.size [.blk b_26 .nw 23 [(32, (List.replicate 32 (0 : UInt8)).map vu8)], .pin (sblks []) (fun w => Lgs w [] ([] : Lg)), .row none 0 0 96 67 [], .blk b_14 .nw 118 [(1, [(.bool id)]), (32, ms.map vu8), (1, [(.slice a_16 n c_17)]), (1, [(vi 0)]), (1, [(.map (some b_15))]), (1, [(.slice none 0 0)])], .row none 0 0 96 67 [], .obj b_15 .nw (.map (mArr ([] : Lg)) 0), .pin (sblks []) (fun w => Lgs w [] ([] : Lg)), .view a_16 (df.map vu8), .blk b_18 .nw 47 [(1, [(.bool id)]), (32, ms.map vu8), (1, [(.slice da0 n cap0)]), (1, [(vi 0)]), (1, [(.slice none 0 0)])], .view da0 (df.map vu8), .blk b_4 .nw 70 [(1, [(vi kd)]), (32, val.map vu8), (1, [(vi pg)]), (128, gr.map vu8), (1, [(vu64 pc)]), (8, rg.map vu64), (1, [(.bool run)])], .blk b_1 .nw 23 [(32, ms.map vu8)]]) (.q 0 (.q 2 (.s 1 (.s 3 (.q 4 .nil))))) (by kernel_rfl) (by kernel_rfl) rfl (by kernel_rfl) (fun w_31 hc_33 => (SL.cons ((h_30.same hc_33).ok _ M0) (SL.cons ((h_30.same hc_33).ok _ M1) (SL.cons ((h_30.same hc_33).ok _ M2) (SL.cons ((h_30.same hc_33).ok _ M3) (SL.cons ((h_30.same hc_33).ok _ M4) (SL.cons ((h_30.same hc_33).ok _ M5) (SL.cons ((h_30.same hc_33).ok _ M6) (SL.cons ((h_30.same hc_33).ok _ M7) (SL.cons ((h_30.same hc_33).ok _ M8) (SL.cons ((h_30.same hc_33).ok _ M9) (SL.cons ((h_30.same hc_33).ok _ M10) (SL.cons ((h_30.same hc_33).ok _ M11) (SL.nil _ _)))))))))))))) (fun w_31 hc_33 => ?_)
  have h_32 := h_30.same hc_33
  refine qT rfl rfl (fun wq hS => R.loadA [] [(1, [(vi kd)]), (32, val.map vu8), (1, [(vi pg)]), (128, gr.map vu8), (1, [(vu64 pc)]), (8, rg.map vu64), (1, [(.bool run)])] [] (cs := flat [(1, [(vi kd)]), (32, val.map vu8), (1, [(vi pg)]), (128, gr.map vu8), (1, [(vu64 pc)]), (8, rg.map vu64), (1, [(.bool run)])]) rfl isAgg70 sizeOf70 (hS _ M10) rfl rfl rfl rfl) ?_
  refine qT rfl rfl (fun wq hS => R.loadA [] [(1, [(vi kd)]), (32, val.map vu8), (1, [(vi pg)]), (128, gr.map vu8), (1, [(vu64 pc)]), (8, rg.map vu64), (1, [(.bool run)])] [] (cs := flat [(1, [(vi kd)]), (32, val.map vu8), (1, [(vi pg)]), (128, gr.map vu8), (1, [(vu64 pc)]), (8, rg.map vu64), (1, [(.bool run)])]) rfl isAgg70 sizeOf70 (hS _ M10) rfl rfl rfl rfl) ?_
  refine WT.s (oN rfl ?_)
  refine WL.call Tryz.call35 rfl rfl (c_MayA kd (by omega) val hvl pg (by omega) gr hgr pc rg hrg run _ ) rfl ?_
  rintro _ w_35 ⟨rfl, hc_34⟩
  have h_36 := h_32.same hc_34
  refine WL.nil ?_
  refine ⟨(N0_1_2_3_4_5_6_7_8_9_10_11 h_36.ok), ?_⟩
  refine WT.s (oN rfl ?_)
  refine WL.call Tryz.call36 rfl rfl (c_MayAR kd (by omega) val hvl pg (by omega) gr hgr pc rg hrg run _ ) rfl ?_
  rintro _ w_38 ⟨rfl, hc_37⟩
  have h_39 := h_36.same hc_37
  refine WL.nil ?_
  refine ⟨(N0_1_2_3_4_5_6_7_8_9_10_11 h_39.ok), ?_⟩
  refine qT rfl rfl (fun wq hS => R.neB (a := false) (b := false) (c := false) (congrArg Value.bool hm) (congrArg Value.bool hm) underlying4 rfl) ?_
  refine WT.nil (thn_n ?_)
  refine WP.condF rfl ?_
  refine WP.skip (thn_n (WP.seq (WP.seq (WP.reg ?_))))
  refine qV rfl (R.loadA [] [(1, [(vi kd)]), (32, val.map vu8), (1, [(vi pg)]), (128, gr.map vu8), (1, [(vu64 pc)]), (8, rg.map vu64), (1, [(.bool run)])] [] (cs := flat [(1, [(vi kd)]), (32, val.map vu8), (1, [(vi pg)]), (128, gr.map vu8), (1, [(vu64 pc)]), (8, rg.map vu64), (1, [(.bool run)])]) rfl isAgg70 sizeOf70 (h_39.ok _ M10) rfl rfl rfl rfl) ?_
  refine WL.call Tryz.call36 rfl rfl (c_MayAR kd (by omega) val hvl pg (by omega) gr hgr pc rg hrg run _ ) rfl ?_
  rintro _ w_41 ⟨rfl, hc_40⟩
  have h_42 := h_39.same hc_40
  refine qV rfl (R.not (b := false) (congrArg Value.bool hm)) (qM (.bool true) rfl rfl ?_)
  refine WL.skip rfl rfl rfl ?_
  refine WL.skip rfl rfl rfl ?_
  refine WL.skip rfl rfl rfl ?_
  refine qV rfl (R.pickT (v := (.bool true)) rfl rfl) ?_
  refine WL.nil (thn_n ?_)
  refine WP.condT rfl ?_
  refine WP.seq (WP.reg ?_)
  refine qV rfl (R.loadA [] [(32, (List.replicate 32 (0 : UInt8)).map vu8)] [] (cs := (List.replicate 32 (0 : UInt8)).map vu8) rfl isAgg23 sizeOf23 (h_42.ok _ M0) rfl rfl rfl rfl) (qV rfl (R.buildA (vs := []) (cs := (List.replicate 32 (0 : UInt8)).map vu8) underlying23 sizeOf5 (zv typeInfo23 rfl) rfl rfl) (qV rfl (R.eqA (xs := (List.replicate 32 (0 : UInt8)).map vu8) (ys := (List.replicate 32 (0 : UInt8)).map vu8) (r := true) rfl rfl eqGuardType23 kt23 (by decide) ag23 (Typ.u8s underlying23 ce23 underlying5 ce5 lr) (Typ.u8s underlying23 ce23 underlying5 ce5 lr) (eqT rfl)) (qM (.bool true) rfl rfl ?_)))
  refine WL.want rfl rfl ?_
  refine qM (vi 2) rfl rfl ?_
  refine WL.want rfl rfl ?_
  refine WL.call Tryz.call26 rfl rfl (c_num12 2 (by omega) _ ) rfl ?_
  rintro _ w_44 ⟨rfl, hc_43⟩
  have h_45 := h_42.same hc_43
  refine WL.want rfl rfl ?_
  refine qV rfl (R.bin rfl rfl (bi_eql (r := true) (by decide))) (qV rfl (R.pickT (v := (.bool true)) rfl rfl) (qM (.bool true) rfl rfl ?_))
  refine WL.want rfl rfl ?_
  refine qM (pO b_14 0) rfl rfl ?_
  refine WL.want rfl rfl ?_
  have h_50 := ((((h_45.up J7).up J2).up J6).up J4).up J5
  refine WL.call Tryz.call19 rfl rfl (c_oLog id b_14 b_15 ms df hms a_16 n c_17 0 hl none 0 [] ([] : Lg) (by first | decide | omega | exact Nat.le_trans (anU_le ..) (by decide) | exact Nat.le_trans (anU_le ..) (Nat.le_trans (Nat.succ_le_succ (anU_le ..)) (by decide)) | exact Nat.le_trans (anU_le ..) (Nat.le_trans (Nat.succ_le_succ (Nat.le_trans (anU_le ..) (Nat.succ_le_succ (anU_le ..)))) (by decide))) (by first | decide | omega | exact Nat.le_trans (anL_le ..) (by decide) | exact Nat.le_trans (anL_le ..) (Nat.le_trans (Nat.succ_le_succ (anL_le ..)) (by decide)) | exact Nat.le_trans (anL_le ..) (Nat.le_trans (Nat.succ_le_succ (Nat.le_trans (anL_le ..) (Nat.succ_le_succ (anL_le ..)))) (by decide))) _ h_50) rfl ?_
  rintro _ w_54 ⟨a_51, c_52, ys_53, rfl, h_55⟩
  refine WL.want rfl rfl ?_
  refine qV rfl (R.lenS (a := a_51) (m := 0) rfl rfl underlying44) ?_
  refine WL.want rfl rfl ?_
  refine qV rfl (R.bin rfl rfl (bi_eql (r := true) (by decide))) (qV rfl (R.pickT (v := (.bool true)) rfl rfl) (qM (.bool true) rfl rfl ?_))
  refine WL.want rfl rfl ?_
  refine WL.call Tryz.call23 rfl rfl (c_known12g  _ ) rfl ?_
  rintro _ w_57 ⟨rfl, hc_56⟩
  have h_58 := h_55.same hc_56
  refine qV rfl (R.pickT (v := (.bool true)) rfl rfl) (qA (.bool true) rfl rfl ?_)
  refine WL.nil (thn_n (WP.ret (thn_r ?_)))
  refine ret_of results6 (RV.tmp (v := (.bool true)) rfl RV.nil) ?_
  exact ⟨rfl, h_58.chgS⟩

theorem w_MN_r1 (id : Bool) (ms df : List UInt8) (hms : ms.length = 32) (da0 : Option Addr) (n cap0 : Nat) (hl : df.length = 32 * n) (val : List UInt8) (hvl : val.length = 32) (pg : Int) (hbp : -9223372036854775808 ≤ pg ∧ pg < 9223372036854775808) (gr : List UInt8) (hgr : gr.length = 128) (pc : UInt64) (rg : List UInt64) (hrg : rg.length = 8) (run : Bool) (w : World) (hv : View w da0 (df.map vu8)) :
  Cs Tryz.prog 6 [(.bool id), (.slice da0 n cap0), (.agg ⟨ms.map vu8⟩), (.agg ⟨flat [(1, [(vi 1)]), (32, val.map vu8), (1, [(vi pg)]), (128, gr.map vu8), (1, [(vu64 pc)]), (8, rg.map vu64), (1, [(.bool run)])]⟩)].toArray w (fun v w1 => v = (.bool true) ∧ Chg w w1 []) := by
 refine Cs.of (n := 84) (args := [(.bool id), (.slice da0 n cap0), (.agg ⟨ms.map vu8⟩), (.agg ⟨flat [(1, [(vi 1)]), (32, val.map vu8), (1, [(vi pg)]), (128, gr.map vu8), (1, [(vu64 pc)]), (8, rg.map vu64), (1, [(.bool run)])]⟩)]) Tryz.func6 rfl rfl rfl ?_
 have h_0 := HP.init w
 have h_00 := h_0.old (View.arg hv) (fun f hf => by cases hf)
 refine WP.seq (WP.reg ?_)
 refine WL.box (v := (.agg ⟨ms.map vu8⟩)) (segs := [(32, ms.map vu8)]) h_00 rfl rfl (sC (s8 hms) sN) rfl (fun b_1 w_2 h_3 => ?_)
 refine WL.box (v := (.agg ⟨flat [(1, [(vi 1)]), (32, val.map vu8), (1, [(vi pg)]), (128, gr.map vu8), (1, [(vu64 pc)]), (8, rg.map vu64), (1, [(.bool run)])]⟩)) (segs := [(1, [(vi 1)]), (32, val.map vu8), (1, [(vi pg)]), (128, gr.map vu8), (1, [(vu64 pc)]), (8, rg.map vu64), (1, [(.bool run)])]) h_3 rfl rfl (sC sV (sC (s8 hvl) (sC sV (sC (s8 hgr) (sC sV (sC (SOk.u64 hrg) (sC sV sN))))))) rfl (fun b_4 w_5 h_6 => ?_)
 refine qA (.bool false) rfl rfl ?_
 refine WL.nil (thn_n (WP.seq (WP.seq (WP.reg ?_))))
 refine qM (.slice da0 n cap0) rfl rfl (qV rfl (R.lenS (a := da0) (m := n) rfl rfl underlying24) (qV rfl (R.bin rfl rfl (bi_gtr (r := decide ((((n : Nat) : Int) : Int) > 60)) rfl)) ?_))
 refine WL.nil (thn_n ?_)
 refine WP.cond (b := decide ((((n : Nat) : Int) : Int) > 60)) rfl (fun c_7 => ?_) (fun c_7 => ?_)
 ·have p_8 := of_decide_eq_true c_7
  refine WP.seq (WP.reg ?_)
  refine WL.call Tryz.call23 rfl rfl (c_known12g  _ ) rfl ?_
  rintro _ w_10 ⟨rfl, hc_9⟩
  have h_11 := h_6.same hc_9
  refine qA (.bool true) rfl rfl ?_
  refine WL.nil (thn_n (WP.ret (thn_r ?_)))
  refine ret_of results6 (RV.tmp (v := (.bool true)) rfl RV.nil) ?_
  exact ⟨rfl, h_11.chgS⟩
 ·have p_12 := of_decide_eq_false c_7
  refine WP.skip (thn_n (WP.seq (WP.reg ?_)))
  refine qM (.bool id) rfl rfl (qV rfl (R.loadA [] [(32, ms.map vu8)] [] (cs := ms.map vu8) rfl isAgg23 sizeOf23 (h_6.ok _ M1) rfl rfl rfl rfl) (qM (.slice da0 n cap0) rfl rfl ?_))
  have h_13 := h_6.up J2
  refine WL.call Tryz.call24 rfl rfl (c_both12 id ms df hms da0 n cap0 hl (by omega) _ h_13) rfl ?_
  rintro _ w_19 ⟨b_14, b_15, a_16, c_17, b_18, rfl, h_20⟩
  have h_21 := h_20.rowNil 96 67
  have h_22 := HP_logNil h_21
  refine qM (.tuple [(pO b_14 0), (pO b_18 0)].toArray) rfl rfl (qV rfl (R.extract rfl rfl) (qV rfl (R.extract rfl rfl) (qA (pO b_14 0) rfl rfl (qA (pO b_18 0) rfl rfl ?_))))
  refine WL.nil (thn_n (WP.seq (WP.reg ?_)))
  refine qM (pO b_14 0) rfl rfl (qV rfl (R.loadA [] [(32, ms.map vu8)] [] (cs := ms.map vu8) rfl isAgg23 sizeOf23 (h_22.ok _ M10) rfl rfl rfl rfl) (qV rfl (R.loadA [] [(1, [(vi 1)]), (32, val.map vu8), (1, [(vi pg)]), (128, gr.map vu8), (1, [(vu64 pc)]), (8, rg.map vu64), (1, [(.bool run)])] [] (cs := flat [(1, [(vi 1)]), (32, val.map vu8), (1, [(vi pg)]), (128, gr.map vu8), (1, [(vu64 pc)]), (8, rg.map vu64), (1, [(.bool run)])]) rfl isAgg70 sizeOf70 (h_22.ok _ M9) rfl rfl rfl rfl) ?_))
  refine WL.call Tryz.call34 rfl rfl (c_NextNo id b_14 b_15 ms hms a_16 n c_17 0 none 0 0 ms hms 1 (by decide) val hvl pg (by omega) gr hgr pc rg hrg run (.inl rfl) _ (h_22.argR M2)) rfl ?_
  rintro _ w_24 ⟨rfl, hc_23⟩
  have h_25 := h_22.same hc_23
  refine qM (.tuple [(.agg ⟨(List.replicate 32 (0 : UInt8)).map vu8⟩), (vi 2)].toArray) rfl rfl (qV rfl (R.extract rfl rfl) (qV rfl (R.extract rfl rfl) ?_))
  refine WL.alloc (segs := [(32, (List.replicate 32 (0 : UInt8)).map vu8)]) h_25 (zv typeInfo23 rfl) rfl (sC (s8 lr) sN) rfl (fun b_26 w_27 h_28 => ?_)
  refine WL.storeA (b := b_26) (off := 0) [] [(32, (List.replicate 32 (0 : UInt8)).map vu8)] [(32, (List.replicate 32 (0 : UInt8)).map vu8)] [] (ys := (List.replicate 32 (0 : UInt8)).map vu8) h_28 rfl rfl sizeOf23 At.h (by decide) rfl rfl rfl rfl rfl rfl (sC (s8 lr) sN) (fun w_29 h_30 => ?_)
  refine qA (vi 2) rfl rfl ?_
  refine WL.nil (thn_n (WP.seq (WP.seq ?_)))
  refine WP.drawT (SL w.heap.size [.blk b_26 .nw 23 [(32, (List.replicate 32 (0 : UInt8)).map vu8)], .pin (sblks []) (fun w => Lgs w [] ([] : Lg)), .row none 0 0 96 67 [], .blk b_14 .nw 118 [(1, [(.bool id)]), (32, ms.map vu8), (1, [(.slice a_16 n c_17)]), (1, [(vi 0)]), (1, [(.map (some b_15))]), (1, [(.slice none 0 0)])], .row none 0 0 96 67 [], .obj b_15 .nw (.map (mArr ([] : Lg)) 0), .pin (sblks []) (fun w => Lgs w [] ([] : Lg)), .view a_16 (df.map vu8), .blk b_18 .nw 47 [(1, [(.bool id)]), (32, ms.map vu8), (1, [(.slice da0 n cap0)]), (1, [(vi 0)]), (1, [(.slice none 0 0)])], .view da0 (df.map vu8), .blk b_4 .nw 70 [(1, [(vi 1)]), (32, val.map vu8), (1, [(vi pg)]), (128, gr.map vu8), (1, [(vu64 pc)]), (8, rg.map vu64), (1, [(.bool run)])], .blk b_1 .nw 23 [(32, ms.map vu8)]]) (.q 0 (.q 2 (.s 1 (.s 3 (.q 4 .nil))))) (by kernel_rfl) (by kernel_rfl) rfl (by kernel_rfl) (fun w_31 hc_33 => (SL.cons ((h_30.same hc_33).ok _ M0) (SL.cons ((h_30.same hc_33).ok _ M1) (SL.cons ((h_30.same hc_33).ok _ M2) (SL.cons ((h_30.same hc_33).ok _ M3) (SL.cons ((h_30.same hc_33).ok _ M4) (SL.cons ((h_30.same hc_33).ok _ M5) (SL.cons ((h_30.same hc_33).ok _ M6) (SL.cons ((h_30.same hc_33).ok _ M7) (SL.cons ((h_30.same hc_33).ok _ M8) (SL.cons ((h_30.same hc_33).ok _ M9) (SL.cons ((h_30.same hc_33).ok _ M10) (SL.cons ((h_30.same hc_33).ok _ M11) (SL.nil _ _)))))))))))))) (fun w_31 hc_33 => ?_)
  have h_32 := h_30.same hc_33
  refine qT rfl rfl (fun wq hS => R.loadA [] [(1, [(vi 1)]), (32, val.map vu8), (1, [(vi pg)]), (128, gr.map vu8), (1, [(vu64 pc)]), (8, rg.map vu64), (1, [(.bool run)])] [] (cs := flat [(1, [(vi 1)]), (32, val.map vu8), (1, [(vi pg)]), (128, gr.map vu8), (1, [(vu64 pc)]), (8, rg.map vu64), (1, [(.bool run)])]) rfl isAgg70 sizeOf70 (hS _ M10) rfl rfl rfl rfl) ?_
  refine qT rfl rfl (fun wq hS => R.loadA [] [(1, [(vi 1)]), (32, val.map vu8), (1, [(vi pg)]), (128, gr.map vu8), (1, [(vu64 pc)]), (8, rg.map vu64), (1, [(.bool run)])] [] (cs := flat [(1, [(vi 1)]), (32, val.map vu8), (1, [(vi pg)]), (128, gr.map vu8), (1, [(vu64 pc)]), (8, rg.map vu64), (1, [(.bool run)])]) rfl isAgg70 sizeOf70 (hS _ M10) rfl rfl rfl rfl) ?_
  refine WT.s (oN rfl ?_)
  refine WL.call Tryz.call35 rfl rfl (c_MayA 1 (by decide) val hvl pg (by omega) gr hgr pc rg hrg run _ ) rfl ?_
  rintro _ w_35 ⟨rfl, hc_34⟩
  have h_36 := h_32.same hc_34
  refine WL.nil ?_
  refine ⟨(N0_1_2_3_4_5_6_7_8_9_10_11 h_36.ok), ?_⟩
  refine WT.s (oN rfl ?_)
  refine WL.call Tryz.call36 rfl rfl (c_MayAR 1 (by decide) val hvl pg (by omega) gr hgr pc rg hrg run _ ) rfl ?_
  rintro _ w_38 ⟨rfl, hc_37⟩
  have h_39 := h_36.same hc_37
  refine WL.nil ?_
  refine ⟨(N0_1_2_3_4_5_6_7_8_9_10_11 h_39.ok), ?_⟩
  refine qT rfl rfl (fun wq hS => R.neB (a := mayB 1 val pg gr pc rg run) (b := mayB 1 val pg gr pc rg run) (c := false) rfl rfl underlying4 (by simp)) ?_
  refine WT.nil (thn_n ?_)
  refine WP.condF rfl ?_
  refine WP.skip (thn_n (WP.seq (WP.seq (WP.reg ?_))))
  refine qV rfl (R.loadA [] [(1, [(vi 1)]), (32, val.map vu8), (1, [(vi pg)]), (128, gr.map vu8), (1, [(vu64 pc)]), (8, rg.map vu64), (1, [(.bool run)])] [] (cs := flat [(1, [(vi 1)]), (32, val.map vu8), (1, [(vi pg)]), (128, gr.map vu8), (1, [(vu64 pc)]), (8, rg.map vu64), (1, [(.bool run)])]) rfl isAgg70 sizeOf70 (h_39.ok _ M10) rfl rfl rfl rfl) ?_
  refine WL.call Tryz.call36 rfl rfl (c_MayAR 1 (by decide) val hvl pg (by omega) gr hgr pc rg hrg run _ ) rfl ?_
  rintro _ w_41 ⟨rfl, hc_40⟩
  have h_42 := h_39.same hc_40
  refine qV rfl (R.not (b := mayB 1 val pg gr pc rg run) rfl) (qM (.bool (!(mayB 1 val pg gr pc rg run))) rfl rfl ?_)
  rcases Bool.eq_false_or_eq_true (!(mayB 1 val pg gr pc rg run)) with c_43 | c_43
  ·refine WL.skip rfl (congrArg Value.bool c_43) rfl ?_
   refine WL.skip rfl (congrArg Value.bool c_43) rfl ?_
   refine WL.skip rfl (congrArg Value.bool c_43) rfl ?_
   refine qV rfl (R.pickT (v := (.bool true)) (congrArg Value.bool c_43) rfl) ?_
   refine WL.nil (thn_n ?_)
   refine WP.condT rfl ?_
   refine WP.seq (WP.reg ?_)
   refine qV rfl (R.loadA [] [(32, (List.replicate 32 (0 : UInt8)).map vu8)] [] (cs := (List.replicate 32 (0 : UInt8)).map vu8) rfl isAgg23 sizeOf23 (h_42.ok _ M0) rfl rfl rfl rfl) (qV rfl (R.buildA (vs := []) (cs := (List.replicate 32 (0 : UInt8)).map vu8) underlying23 sizeOf5 (zv typeInfo23 rfl) rfl rfl) (qV rfl (R.eqA (xs := (List.replicate 32 (0 : UInt8)).map vu8) (ys := (List.replicate 32 (0 : UInt8)).map vu8) (r := true) rfl rfl eqGuardType23 kt23 (by decide) ag23 (Typ.u8s underlying23 ce23 underlying5 ce5 lr) (Typ.u8s underlying23 ce23 underlying5 ce5 lr) (eqT rfl)) (qM (.bool true) rfl rfl ?_)))
   refine WL.want rfl rfl ?_
   refine qM (vi 2) rfl rfl ?_
   refine WL.want rfl rfl ?_
   refine WL.call Tryz.call26 rfl rfl (c_num12 2 (by omega) _ ) rfl ?_
   rintro _ w_45 ⟨rfl, hc_44⟩
   have h_46 := h_42.same hc_44
   refine WL.want rfl rfl ?_
   refine qV rfl (R.bin rfl rfl (bi_eql (r := true) (by decide))) (qV rfl (R.pickT (v := (.bool true)) rfl rfl) (qM (.bool true) rfl rfl ?_))
   refine WL.want rfl rfl ?_
   refine qM (pO b_14 0) rfl rfl ?_
   refine WL.want rfl rfl ?_
   have h_51 := ((((h_46.up J7).up J2).up J6).up J4).up J5
   refine WL.call Tryz.call19 rfl rfl (c_oLog id b_14 b_15 ms df hms a_16 n c_17 0 hl none 0 [] ([] : Lg) (by first | decide | omega | exact Nat.le_trans (anU_le ..) (by decide) | exact Nat.le_trans (anU_le ..) (Nat.le_trans (Nat.succ_le_succ (anU_le ..)) (by decide)) | exact Nat.le_trans (anU_le ..) (Nat.le_trans (Nat.succ_le_succ (Nat.le_trans (anU_le ..) (Nat.succ_le_succ (anU_le ..)))) (by decide))) (by first | decide | omega | exact Nat.le_trans (anL_le ..) (by decide) | exact Nat.le_trans (anL_le ..) (Nat.le_trans (Nat.succ_le_succ (anL_le ..)) (by decide)) | exact Nat.le_trans (anL_le ..) (Nat.le_trans (Nat.succ_le_succ (Nat.le_trans (anL_le ..) (Nat.succ_le_succ (anL_le ..)))) (by decide))) _ h_51) rfl ?_
   rintro _ w_55 ⟨a_52, c_53, ys_54, rfl, h_56⟩
   refine WL.want rfl rfl ?_
   refine qV rfl (R.lenS (a := a_52) (m := 0) rfl rfl underlying44) ?_
   refine WL.want rfl rfl ?_
   refine qV rfl (R.bin rfl rfl (bi_eql (r := true) (by decide))) (qV rfl (R.pickT (v := (.bool true)) rfl rfl) (qM (.bool true) rfl rfl ?_))
   refine WL.want rfl rfl ?_
   refine WL.call Tryz.call23 rfl rfl (c_known12g  _ ) rfl ?_
   rintro _ w_58 ⟨rfl, hc_57⟩
   have h_59 := h_56.same hc_57
   refine qV rfl (R.pickT (v := (.bool true)) rfl rfl) (qA (.bool true) rfl rfl ?_)
   refine WL.nil (thn_n (WP.ret (thn_r ?_)))
   refine ret_of results6 (RV.tmp (v := (.bool true)) rfl RV.nil) ?_
   exact ⟨rfl, h_59.chgS⟩
  ·refine WL.want rfl (congrArg Value.bool c_43) ?_
   refine qV rfl (R.fieldAddr (off' := 0) rfl underlying70 rfl sizeOf68 rfl rfl) ?_
   refine WL.want rfl (congrArg Value.bool c_43) ?_
   refine qV rfl (R.load1 rfl isAgg68 (h_42.ok _ M10) Sg.h) ?_
   refine WL.want rfl (congrArg Value.bool c_43) ?_
   refine qV rfl (R.bin rfl rfl (bi_eql (r := true) (by decide))) (qV rfl (R.pickF (v := (.bool true)) (congrArg Value.bool c_43) rfl) ?_)
   refine WL.nil (thn_n ?_)
   refine WP.condT rfl ?_
   refine WP.seq (WP.reg ?_)
   refine qV rfl (R.loadA [] [(32, (List.replicate 32 (0 : UInt8)).map vu8)] [] (cs := (List.replicate 32 (0 : UInt8)).map vu8) rfl isAgg23 sizeOf23 (h_42.ok _ M0) rfl rfl rfl rfl) (qV rfl (R.buildA (vs := []) (cs := (List.replicate 32 (0 : UInt8)).map vu8) underlying23 sizeOf5 (zv typeInfo23 rfl) rfl rfl) (qV rfl (R.eqA (xs := (List.replicate 32 (0 : UInt8)).map vu8) (ys := (List.replicate 32 (0 : UInt8)).map vu8) (r := true) rfl rfl eqGuardType23 kt23 (by decide) ag23 (Typ.u8s underlying23 ce23 underlying5 ce5 lr) (Typ.u8s underlying23 ce23 underlying5 ce5 lr) (eqT rfl)) (qM (.bool true) rfl rfl ?_)))
   refine WL.want rfl rfl ?_
   refine qM (vi 2) rfl rfl ?_
   refine WL.want rfl rfl ?_
   refine WL.call Tryz.call26 rfl rfl (c_num12 2 (by omega) _ ) rfl ?_
   rintro _ w_61 ⟨rfl, hc_60⟩
   have h_62 := h_42.same hc_60
   refine WL.want rfl rfl ?_
   refine qV rfl (R.bin rfl rfl (bi_eql (r := true) (by decide))) (qV rfl (R.pickT (v := (.bool true)) rfl rfl) (qM (.bool true) rfl rfl ?_))
   refine WL.want rfl rfl ?_
   refine qM (pO b_14 0) rfl rfl ?_
   refine WL.want rfl rfl ?_
   have h_67 := ((((h_62.up J7).up J2).up J6).up J4).up J5
   refine WL.call Tryz.call19 rfl rfl (c_oLog id b_14 b_15 ms df hms a_16 n c_17 0 hl none 0 [] ([] : Lg) (by first | decide | omega | exact Nat.le_trans (anU_le ..) (by decide) | exact Nat.le_trans (anU_le ..) (Nat.le_trans (Nat.succ_le_succ (anU_le ..)) (by decide)) | exact Nat.le_trans (anU_le ..) (Nat.le_trans (Nat.succ_le_succ (Nat.le_trans (anU_le ..) (Nat.succ_le_succ (anU_le ..)))) (by decide))) (by first | decide | omega | exact Nat.le_trans (anL_le ..) (by decide) | exact Nat.le_trans (anL_le ..) (Nat.le_trans (Nat.succ_le_succ (anL_le ..)) (by decide)) | exact Nat.le_trans (anL_le ..) (Nat.le_trans (Nat.succ_le_succ (Nat.le_trans (anL_le ..) (Nat.succ_le_succ (anL_le ..)))) (by decide))) _ h_67) rfl ?_
   rintro _ w_71 ⟨a_68, c_69, ys_70, rfl, h_72⟩
   refine WL.want rfl rfl ?_
   refine qV rfl (R.lenS (a := a_68) (m := 0) rfl rfl underlying44) ?_
   refine WL.want rfl rfl ?_
   refine qV rfl (R.bin rfl rfl (bi_eql (r := true) (by decide))) (qV rfl (R.pickT (v := (.bool true)) rfl rfl) (qM (.bool true) rfl rfl ?_))
   refine WL.want rfl rfl ?_
   refine WL.call Tryz.call23 rfl rfl (c_known12g  _ ) rfl ?_
   rintro _ w_74 ⟨rfl, hc_73⟩
   have h_75 := h_72.same hc_73
   refine qV rfl (R.pickT (v := (.bool true)) rfl rfl) (qA (.bool true) rfl rfl ?_)
   refine WL.nil (thn_n (WP.ret (thn_r ?_)))
   refine ret_of results6 (RV.tmp (v := (.bool true)) rfl RV.nil) ?_
   exact ⟨rfl, h_75.chgS⟩

theorem w_MeasureNext (id : Bool) (ms df : List UInt8) (hms : ms.length = 32) (da0 : Option Addr) (n cap0 : Nat) (hl : df.length = 32 * n) (kd : Int) (hbk : -9223372036854775808 ≤ kd ∧ kd < 9223372036854775808) (val : List UInt8) (hvl : val.length = 32) (pg : Int) (hbp : -9223372036854775808 ≤ pg ∧ pg < 9223372036854775808) (gr : List UInt8) (hgr : gr.length = 128) (pc : UInt64) (rg : List UInt64) (hrg : rg.length = 8) (run : Bool) (w : World) (hv : View w da0 (df.map vu8)) : Cs Tryz.prog 6 [(.bool id), (.slice da0 n cap0), (.agg ⟨ms.map vu8⟩), (.agg ⟨flat [(1, [(vi kd)]), (32, val.map vu8), (1, [(vi pg)]), (128, gr.map vu8), (1, [(vu64 pc)]), (8, rg.map vu64), (1, [(.bool run)])]⟩)].toArray w (fun v w1 => v = (.bool true) ∧ Chg w w1 []) := by
 by_cases hk : kd = 1
 ·subst hk; exact w_MN_r1 id ms df hms da0 n cap0 hl val hvl pg hbp gr hgr pc rg hrg run w hv
 rcases Bool.eq_false_or_eq_true (mayB kd val pg gr pc rg run) with hm | hm
 ·exact w_MN_ok id ms df hms da0 n cap0 hl kd hbk val hvl pg hbp gr hgr pc rg hrg run hm hk w hv
 ·exact w_MN_no id ms df hms da0 n cap0 hl kd hbk val hvl pg hbp gr hgr pc rg hrg run hm w hv
namespace measureNextDone
open Go.ChangeShapes Go.WideShapes Go.ChangeAt
theorem own : ownKnob Tryz.prog.godebug = none := by kernel_rfl
theorem laidOut : laidOutB Tryz.prog = true := by kernel_rfl
set_option maxRecDepth 100000 in
theorem lifted (os : Os) (started : os.Started) (H : Type) (enc : TypeId × Value → H) :
  ReturnsInHanded {} Tryz.checked os 6 .any (Rows.measureNextSpec.pre6 enc Tryz.prog Tryz.f6 Rows.measureNextRow.domain false) (Rows.measureNextSpec.post enc Tryz.prog Tryz.f6 false true false false) := by
 refine returnsInHanded_of_change (C := Tryz.checked) own started (by kernel_rfl) Tryz.func6
  (ChangeSpec.witness6 (enc := enc) (C := Tryz.checked) false ⟨#[], #[.bool false, .slice none 0 0, .agg #[.int .u8 0, .int .u8 0, .int .u8 0, .int .u8 0, .int .u8 0, .int .u8 0, .int .u8 0, .int .u8 0, .int .u8 0, .int .u8 0, .int .u8 0, .int .u8 0, .int .u8 0, .int .u8 0, .int .u8 0, .int .u8 0, .int .u8 0, .int .u8 0, .int .u8 0, .int .u8 0, .int .u8 0, .int .u8 0, .int .u8 0, .int .u8 0, .int .u8 0, .int .u8 0, .int .u8 0, .int .u8 0, .int .u8 0, .int .u8 0, .int .u8 0, .int .u8 0], .agg #[.int .i64 0, .int .u8 0, .int .u8 0, .int .u8 0, .int .u8 0, .int .u8 0, .int .u8 0, .int .u8 0, .int .u8 0, .int .u8 0, .int .u8 0, .int .u8 0, .int .u8 0, .int .u8 0, .int .u8 0, .int .u8 0, .int .u8 0, .int .u8 0, .int .u8 0, .int .u8 0, .int .u8 0, .int .u8 0, .int .u8 0, .int .u8 0, .int .u8 0, .int .u8 0, .int .u8 0, .int .u8 0, .int .u8 0, .int .u8 0, .int .u8 0, .int .u8 0, .int .u8 0, .int .i64 0, .int .u8 0, .int .u8 0, .int .u8 0, .int .u8 0, .int .u8 0, .int .u8 0, .int .u8 0, .int .u8 0, .int .u8 0, .int .u8 0, .int .u8 0, .int .u8 0, .int .u8 0, .int .u8 0, .int .u8 0, .int .u8 0, .int .u8 0, .int .u8 0, .int .u8 0, .int .u8 0, .int .u8 0, .int .u8 0, .int .u8 0, .int .u8 0, .int .u8 0, .int .u8 0, .int .u8 0, .int .u8 0, .int .u8 0, .int .u8 0, .int .u8 0, .int .u8 0, .int .u8 0, .int .u8 0, .int .u8 0, .int .u8 0, .int .u8 0, .int .u8 0, .int .u8 0, .int .u8 0, .int .u8 0, .int .u8 0, .int .u8 0, .int .u8 0, .int .u8 0, .int .u8 0, .int .u8 0, .int .u8 0, .int .u8 0, .int .u8 0, .int .u8 0, .int .u8 0, .int .u8 0, .int .u8 0, .int .u8 0, .int .u8 0, .int .u8 0, .int .u8 0, .int .u8 0, .int .u8 0, .int .u8 0, .int .u8 0, .int .u8 0, .int .u8 0, .int .u8 0, .int .u8 0, .int .u8 0, .int .u8 0, .int .u8 0, .int .u8 0, .int .u8 0, .int .u8 0, .int .u8 0, .int .u8 0, .int .u8 0, .int .u8 0, .int .u8 0, .int .u8 0, .int .u8 0, .int .u8 0, .int .u8 0, .int .u8 0, .int .u8 0, .int .u8 0, .int .u8 0, .int .u8 0, .int .u8 0, .int .u8 0, .int .u8 0, .int .u8 0, .int .u8 0, .int .u8 0, .int .u8 0, .int .u8 0, .int .u8 0, .int .u8 0, .int .u8 0, .int .u8 0, .int .u8 0, .int .u8 0, .int .u8 0, .int .u8 0, .int .u8 0, .int .u8 0, .int .u8 0, .int .u8 0, .int .u8 0, .int .u8 0, .int .u8 0, .int .u8 0, .int .u8 0, .int .u8 0, .int .u8 0, .int .u8 0, .int .u8 0, .int .u8 0, .int .u8 0, .int .u8 0, .int .u8 0, .int .u8 0, .int .u8 0, .int .u8 0, .int .u8 0, .int .u8 0, .int .u8 0, .int .u8 0, .int .u8 0, .int .u8 0, .int .u64 0, .int .u64 0, .int .u64 0, .int .u64 0, .int .u64 0, .int .u64 0, .int .u64 0, .int .u64 0, .int .u64 0, .bool false]], []⟩ 8 (by kernel_rfl) (by kernel_rfl) (by kernel_rfl) (by kernel_rfl)) ?_
 intro W base args ds gs before hval0 hW hcnd _
 have hval : ∀ (j : Nat) t v, Tryz.f6.params[j]? = some t → args[j]? = some v → Value.okWide Tryz.prog W .any base t v := hval0
 have hW' := hW
 obtain ⟨p, q, hA0, hV, rfl, hfz, hnd⟩ := hW
 have hA : DataW.TrodAll enc Tryz.prog W 0 (fun _ => true) true Tryz.f6.params.toList args.toList ds p := hA0
 rw [Tryz.params6] at hA hval
 obtain ⟨v0, vs0, d0, ds0, p0, q0, hargs, rfl, rfl, h0, r0⟩ := trodAll_cons hA
 obtain ⟨v1, vs1, d1, ds1, p1, q1, rfl, rfl, rfl, h1, r1⟩ := trodAll_cons r0
 obtain ⟨v2, vs2, d2, ds2, p2, q2, rfl, rfl, rfl, h2, r2⟩ := trodAll_cons r1
 obtain ⟨v3, vs3, d3, ds3, p3, q3, rfl, rfl, rfl, h3, r3⟩ := trodAll_cons r2
 obtain ⟨rfl, rfl, rfl⟩ := trodAll_nil r3
 obtain rfl : args = #[v0, v1, v2, v3] := by cases args; simp_all
 obtain ⟨rfl, rfl⟩ := trodVars_none hV
 have lt0 : ∀ x ∈ p0, x.block < W.heap.size := by obtain ⟨m, hm⟩ := h0; exact DataW.trod_lt m _ _ _ hm
 obtain ⟨x0, rfl⟩ := okWide_bool underlying4 (hval 0 4 v0 rfl rfl)
 have lt1 : ∀ x ∈ p1, x.block < W.heap.size := by obtain ⟨m, hm⟩ := h1; exact DataW.trod_lt m _ _ _ hm
 obtain ⟨a1, n1, c1, rfl⟩ := okWide_slice underlying24 (hval 1 24 v1 rfl rfl)
 obtain ⟨a1, n1, c1, x1, e1, l_x1, hc1, hm1, hv1⟩ := Tr.slA8 underlying24 ce23 underlying23 ce5 underlying5 (Tr.of h1 rfl)
 cases e1
 have lt2 : ∀ x ∈ p2, x.block < W.heap.size := by obtain ⟨m, hm⟩ := h2; exact DataW.trod_lt m _ _ _ hm
 obtain ⟨cs2, rfl⟩ := okWide_agg aggT23 (hval 2 23 v2 rfl rfl)
 have tr2 : Tr Tryz.prog W 23 cs2 := Tr.of h2 rfl
 obtain ⟨x2, rfl, l_x2⟩ := Tr.arr8 underlying23 ce23 ce5 underlying5 tr2
 have lt3 : ∀ x ∈ p3, x.block < W.heap.size := by obtain ⟨m, hm⟩ := h3; exact DataW.trod_lt m _ _ _ hm
 obtain ⟨cs3, rfl⟩ := okWide_agg aggT70 (hval 3 70 v3 rfl rfl)
 have tr3 : Tr Tryz.prog W 70 cs3 := Tr.of h3 rfl
 have tl_x3 := Tr.struct (l := [(1, 68), (32, 23), (1, 3), (128, 29), (10, 57)]) underlying70 ce70 (by kernel_rfl) tr3
 obtain ⟨a_x30, r_x30, rfl, n_x30, t_x30, tl_x30⟩ := tl_x3
 obtain ⟨x30, rfl, b_x30⟩ := Tr.i64 underlying68 t_x30
 obtain ⟨a_x31, r_x31, rfl, n_x31, t_x31, tl_x31⟩ := tl_x30
 obtain ⟨x31, rfl, l_x31⟩ := Tr.arr8 underlying23 ce23 ce5 underlying5 t_x31
 obtain ⟨a_x32, r_x32, rfl, n_x32, t_x32, tl_x32⟩ := tl_x31
 obtain ⟨x32, rfl, b_x32⟩ := Tr.i64 underlying3 t_x32
 obtain ⟨a_x33, r_x33, rfl, n_x33, t_x33, tl_x33⟩ := tl_x32
 obtain ⟨x33, rfl, l_x33⟩ := Tr.arr8 underlying29 ce29 ce5 underlying5 t_x33
 obtain ⟨a_x34, r_x34, rfl, n_x34, t_x34, tl_x34⟩ := tl_x33
 have tl_x34 := Tr.struct (l := [(1, 27), (8, 55), (1, 4)]) underlying57 ce57 (by kernel_rfl) t_x34
 obtain ⟨a_x340, r_x340, rfl, n_x340, t_x340, tl_x340⟩ := tl_x34
 obtain ⟨x340, rfl⟩ := Tr.u64 underlying27 t_x340
 obtain ⟨a_x341, r_x341, rfl, n_x341, t_x341, tl_x341⟩ := tl_x340
 obtain ⟨x341, rfl, l_x341⟩ := Tr.arr64 underlying55 ce55 ce27 underlying27 t_x341
 obtain ⟨a_x342, r_x342, rfl, n_x342, t_x342, tl_x342⟩ := tl_x341
 obtain ⟨x342, rfl⟩ := Tr.bool underlying4 t_x342
 obtain rfl := tl_x342
 obtain rfl := tl_x34
 clear hA0 hval0
 have hw : Cs Tryz.prog 6 [(.bool x0), (.slice a1 n1 c1), (.agg ⟨x2.map vu8⟩), (.agg ⟨flat [(1, [(vi x30)]), (32, x31.map vu8), (1, [(vi x32)]), (128, x33.map vu8), (1, [(vu64 x340)]), (8, x341.map vu64), (1, [(.bool x342)])]⟩)].toArray W (fun v w1 => v = .bool true ∧ Chg W w1 []) := w_MeasureNext x0 x2 x1 l_x2 a1 n1 c1 l_x1 x30 b_x30 x31 l_x31 x32 b_x32 x33 l_x33 x340 x341 l_x341 x342 W hv1.1
 have ea : ([(.bool x0), (.slice a1 n1 c1), (.agg ⟨x2.map vu8⟩), (.agg ⟨flat [(1, [(vi x30)]), (32, x31.map vu8), (1, [(vi x32)]), (128, x33.map vu8), (1, [(vu64 x340)]), (8, x341.map vu64), (1, [(.bool x342)])]⟩)] : List Value).toArray = (#[(.bool x0), (.slice a1 n1 c1), .agg ⟨x2.map vu8⟩, .agg ⟨([vi x30] ++ (x31.map vu8 ++ ([vi x32] ++ (x33.map vu8 ++ (([vu64 x340] ++ (x341.map vu64 ++ ([.bool x342] ++ []))) ++ [])))))⟩] : Array Value) := by simp [flat]
 rw [ea] at hw
 refine Calls.mono (Cs.below hw) fun e W' ⟨he, bel⟩ => ?_
 subst he
 exact ⟨_, rfl, _, _, _, [], _, [], hW', trodAll_mk1 (shut_bool underlying4 _), (trodAll_cons_mk (Below.trod laidOut (by kernel_rfl) (of_decide_eq_true (by kernel_rfl)) h0 bel lt0) (trodAll_cons_mk (Below.trod laidOut (by kernel_rfl) (of_decide_eq_true (by kernel_rfl)) h1 bel lt1) (trodAll_cons_mk (Below.trod laidOut (by kernel_rfl) (of_decide_eq_true (by kernel_rfl)) h2 bel lt2) (trodAll_cons_mk (Below.trod laidOut (by kernel_rfl) (of_decide_eq_true (by kernel_rfl)) h3 bel lt3) trodAll_mk0)))), rfl, bel.frame _, fun h => by cases h⟩
theorem over : Rows.measureNextRow.holds Tryz.pinned (OpenSpec.ofChange Rows.measureNextSpec) :=
 OpenClaim.holds_of_wide 6 Tryz.f6 rfl rfl rfl rfl rfl rfl rfl ⟨rfl, rfl, rfl, rfl, rfl⟩ rfl rfl rfl rfl rfl (by kernel_rfl) Tryz.func6 (by kernel_rfl)
  (of_decide_eq_true (by kernel_rfl)) (by unfold Func.isWrapper; first | (rw [if_pos (by decide +kernel)]; kernel_rfl) | (rw [if_neg (by decide +kernel)]; exact ⟨rfl, rfl⟩))
  (fun os started H enc _ => lifted os started H enc)
theorem proved : Rows.MeasureNextSaid := over
end measureNextDone
end Go.Proofs.YteclkcpdclimnaaGreat
