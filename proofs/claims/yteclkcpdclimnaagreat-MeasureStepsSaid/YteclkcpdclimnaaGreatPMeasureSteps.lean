/- MeasureSteps holds of every input. Conditions: none. -/
import Derived.Test.YteclkcpdclimnaaGreatZ6MeasureSteps
set_option linter.unusedVariables false
set_option linter.unusedSimpArgs false
set_option linter.unusedSectionVars false
namespace Go.Proofs.YteclkcpdclimnaaGreat
open Go.Vc Go.Orc Go.Sh Go.RowKit
set_option linter.unusedVariables false
set_option linter.unusedSimpArgs false
set_option maxRecDepth 20000
theorem aggT23 : aggB Tryz.prog 23 = true := by unfold aggB; rw [Tryz.underlying23]
theorem aggT29 : aggB Tryz.prog 29 = true := by unfold aggB; rw [Tryz.underlying29]
theorem aggT54 : aggB Tryz.prog 54 = true := by unfold aggB; rw [Tryz.underlying54]
theorem aggT57 : aggB Tryz.prog 57 = true := by unfold aggB; rw [Tryz.underlying57]
theorem ce54 : Tryz.prog.cellsOf 54 = 33 := by kernel_rfl
theorem w_MS_tt (id : Bool) (ms df : List UInt8) (hms : ms.length = 32) (da0 : Option Addr) (n cap0 : Nat) (hl : df.length = 32 * n) (gr : List UInt8) (hgr : gr.length = 128) (val : List UInt8) (hvl : val.length = 32) (sz : UInt64) (pc : UInt64) (rg : List UInt64) (hrg : rg.length = 8) (run : Bool) (pg : Nat) (hpg : pg < 128) (hrc : decide (pc % 8 = 0) = true) (w : World) (hv : View w da0 (df.map vu8)) :
  Cs Tryz.prog 5 [(.bool id), (.slice da0 n cap0), (.agg ⟨ms.map vu8⟩), (vi ((pg : Nat) : Int)), (.agg ⟨gr.map vu8⟩), (.agg ⟨flat [(32, val.map vu8), (1, [(vu64 sz)])]⟩), (.agg ⟨flat [(1, [(vu64 pc)]), (8, rg.map vu64), (1, [(.bool run)])]⟩)].toArray w (fun v w1 => v = (.bool true) ∧ Chg w w1 []) := by
 refine Cs.of (n := 119) (args := [(.bool id), (.slice da0 n cap0), (.agg ⟨ms.map vu8⟩), (vn pg), (.agg ⟨gr.map vu8⟩), (.agg ⟨flat [(32, val.map vu8), (1, [(vu64 sz)])]⟩), (.agg ⟨flat [(1, [(vu64 pc)]), (8, rg.map vu64), (1, [(.bool run)])]⟩)]) Tryz.func5 rfl rfl rfl ?_
 have h_0 := HP.init w
 have h_00 := h_0.old (View.arg hv) (fun f hf => by cases hf)
 refine WP.seq (WP.reg ?_)
 refine WL.box (v := (.agg ⟨ms.map vu8⟩)) (segs := [(32, ms.map vu8)]) h_00 rfl rfl (SsOk.cons (SOk.u8 hms) SsOk.nil) rfl (fun b_1 w_2 h_3 => ?_)
 refine WL.box (v := (.agg ⟨gr.map vu8⟩)) (segs := [(128, gr.map vu8)]) h_3 rfl rfl (SsOk.cons (SOk.u8 hgr) SsOk.nil) rfl (fun b_4 w_5 h_6 => ?_)
 refine WL.box (v := (.agg ⟨flat [(32, val.map vu8), (1, [(vu64 sz)])]⟩)) (segs := [(32, val.map vu8), (1, [(vu64 sz)])]) h_6 rfl rfl (SsOk.cons (SOk.u8 hvl) (SsOk.cons (SOk.v rfl) SsOk.nil)) rfl (fun b_7 w_8 h_9 => ?_)
 refine WL.box (v := (.agg ⟨flat [(1, [(vu64 pc)]), (8, rg.map vu64), (1, [(.bool run)])]⟩)) (segs := [(1, [(vu64 pc)]), (8, rg.map vu64), (1, [(.bool run)])]) h_9 rfl rfl (SsOk.cons (SOk.v rfl) (SsOk.cons (SOk.u64 hrg) (SsOk.cons (SOk.v rfl) SsOk.nil))) rfl (fun b_10 w_11 h_12 => ?_)
 refine qA (.bool false) rfl rfl ?_
 refine WL.nil (thn_n (WP.seq (WP.seq (WP.reg ?_))))
 refine qM (.slice da0 n cap0) rfl rfl (qV rfl (R.lenS (a := da0) (m := n) rfl rfl Tryz.underlying24) (qV rfl (R.bin rfl rfl (bi_gtr (r := decide ((((n : Nat) : Int) : Int) > 60)) rfl)) ?_))
 refine WL.nil (thn_n ?_)
 refine WP.cond (b := decide ((((n : Nat) : Int) : Int) > 60)) rfl (fun c_13 => ?_) (fun c_13 => ?_)
 ·have p_14 := of_decide_eq_true c_13
  refine WP.seq (WP.reg ?_)
  refine WL.call Tryz.call23 rfl rfl (c_known12  _ ) rfl ?_
  rintro _ w_16 ⟨rfl, hc_15⟩
  have h_17 := h_12.same hc_15
  refine qA (.bool true) rfl rfl ?_
  refine WL.nil (thn_n (WP.ret (thn_r ?_)))
  refine ret_of Tryz.results5 (RV.tmp (v := (.bool true)) rfl RV.nil) ?_
  exact ⟨rfl, h_17.chgS⟩
 ·have p_18 := of_decide_eq_false c_13
  refine WP.skip (thn_n (WP.seq (WP.reg ?_)))
  refine qM (.bool id) rfl rfl (qV rfl (R.loadA [] [(32, ms.map vu8)] [] (cs := ms.map vu8) rfl Tryz.isAgg23 Tryz.sizeOf23 (h_12.ok _ M3) rfl rfl rfl rfl) (qM (.slice da0 n cap0) rfl rfl ?_))
  have h_19 := h_12.up J4
  refine WL.call Tryz.call24 rfl rfl (c_both12 id ms df hms da0 n cap0 hl (by omega) _ h_19) rfl ?_
  rintro _ w_25 ⟨b_20, b_21, a_22, c_23, b_24, rfl, h_26⟩
  have h_27 := h_26.rowNil 96 67
  have h_28 := HP_logNil h_27
  refine qM (.tuple [(pO b_20 0), (pO b_24 0)].toArray) rfl rfl (qV rfl (R.extract rfl rfl) (qV rfl (R.extract rfl rfl) (qA (pO b_20 0) rfl rfl (qA (pO b_24 0) rfl rfl ?_))))
  refine WL.nil (thn_n (WP.seq (WP.reg ?_)))
  refine qM (pO b_20 0) rfl rfl (qV rfl (R.loadA [] [(32, val.map vu8), (1, [(vu64 sz)])] [] (cs := flat [(32, val.map vu8), (1, [(vu64 sz)])]) rfl Tryz.isAgg54 Tryz.sizeOf54 (h_28.ok _ M10) rfl rfl rfl rfl) ?_)
  have h_33 := ((((h_28.up J6).up J1).up J5).up J3).up J4
  have h32_w_37 := Lgs.ok32 (h_33.ok _ M3).1
  refine WL.call Tryz.call25 rfl rfl (c_Begin id b_20 b_21 ms df hms a_22 n c_23 0 hl none 0 [] ([] : Lg) (by first | decide | omega | exact Nat.le_trans (anU_le ..) (by decide) | exact Nat.le_trans (anU_le ..) (Nat.le_trans (Nat.succ_le_succ (anU_le ..)) (by decide)) | exact Nat.le_trans (anU_le ..) (Nat.le_trans (Nat.succ_le_succ (Nat.le_trans (anU_le ..) (Nat.succ_le_succ (anU_le ..)))) (by decide))) (by first | decide | omega | exact Nat.le_trans (anL_le ..) (by decide) | exact Nat.le_trans (anL_le ..) (Nat.le_trans (Nat.succ_le_succ (anL_le ..)) (by decide)) | exact Nat.le_trans (anL_le ..) (Nat.le_trans (Nat.succ_le_succ (Nat.le_trans (anL_le ..) (Nat.succ_le_succ (anL_le ..)))) (by decide))) val hvl sz _ h_33) rfl ?_
  rintro _ w_37 ⟨la_34, lc_35, lx_36, rfl, h_38⟩
  refine qM (.tuple [(.agg ⟨(anD id df n 0 ([] : Lg) (1, (List.replicate 32 (0 : UInt8)), 1, [val].flatten)).map vu8⟩), (vi 0)].toArray) rfl rfl (qV rfl (R.extract rfl rfl) (qV rfl (R.extract rfl rfl) ?_))
  refine WL.alloc (segs := [(32, (List.replicate 32 (0 : UInt8)).map vu8)]) h_38 (zv Tryz.typeInfo23 rfl) rfl (SsOk.cons (SOk.u8 lr) SsOk.nil) rfl (fun b_39 w_40 h_41 => ?_)
  refine WL.storeA (b := b_39) (off := 0) [] [(32, (List.replicate 32 (0 : UInt8)).map vu8)] [(32, (anD id df n 0 ([] : Lg) (1, (List.replicate 32 (0 : UInt8)), 1, [val].flatten)).map vu8)] [] (ys := (anD id df n 0 ([] : Lg) (1, (List.replicate 32 (0 : UInt8)), 1, [val].flatten)).map vu8) h_41 rfl rfl Tryz.sizeOf23 At.h (by decide) rfl rfl rfl rfl rfl rfl (SsOk.cons (SOk.u8 (anD_len hl h32_w_37)) SsOk.nil) (fun w_42 h_43 => ?_)
  refine qA (vi 0) rfl rfl ?_
  refine WL.nil (thn_n (WP.seq (WP.seq ?_)))
  refine WP.drawT (SL w.heap.size [.blk b_39 .nw 23 [(32, (anD id df n 0 ([] : Lg) (1, (List.replicate 32 (0 : UInt8)), 1, [val].flatten)).map vu8)], .blk b_20 .nw 118 [(1, [(.bool id)]), (32, ms.map vu8), (1, [(.slice a_22 n c_23)]), (1, [(vn (anU id 0 ([] : Lg) (1, (List.replicate 32 (0 : UInt8)), 1, [val].flatten)))]), (1, [(.map (some b_21))]), (1, [(.slice la_34 ((anL id df n 0 ([] : Lg) (1, (List.replicate 32 (0 : UInt8)), 1, [val].flatten)).length) lc_35)])], .row la_34 ((anL id df n 0 ([] : Lg) (1, (List.replicate 32 (0 : UInt8)), 1, [val].flatten)).length) lc_35 96 67 lx_36, .obj b_21 .nw (.map (mArr (anL id df n 0 ([] : Lg) (1, (List.replicate 32 (0 : UInt8)), 1, [val].flatten))) ((anL id df n 0 ([] : Lg) (1, (List.replicate 32 (0 : UInt8)), 1, [val].flatten)).length)), .pin (sblks lx_36) (fun w => Lgs w lx_36 (anL id df n 0 ([] : Lg) (1, (List.replicate 32 (0 : UInt8)), 1, [val].flatten))), .view a_22 (df.map vu8), .blk b_10 .nw 57 [(1, [(vu64 pc)]), (8, rg.map vu64), (1, [(.bool run)])], .blk b_7 .nw 54 [(32, val.map vu8), (1, [(vu64 sz)])], .blk b_4 .nw 29 [(128, gr.map vu8)], .blk b_1 .nw 23 [(32, ms.map vu8)]]) (.q 0 (.s 1 (.q 2 (.q 3 (.q 4 (.q 5 (.q 6 (.q 7 (.s 8 (.q 9 (.q 10 .nil))))))))))) (by kernel_rfl) (by kernel_rfl) rfl (by kernel_rfl) (fun w_44 hc_46 => (SL.cons ((h_43.same hc_46).ok _ M0) (SL.cons ((h_43.same hc_46).ok _ M1) (SL.cons ((h_43.same hc_46).ok _ M2) (SL.cons ((h_43.same hc_46).ok _ M3) (SL.cons ((h_43.same hc_46).ok _ M4) (SL.cons ((h_43.same hc_46).ok _ M5) (SL.cons ((h_43.same hc_46).ok _ M10) (SL.cons ((h_43.same hc_46).ok _ M11) (SL.cons ((h_43.same hc_46).ok _ M12) (SL.cons ((h_43.same hc_46).ok _ M13) (SL.nil _ _)))))))))))) (fun w_44 hc_46 => ?_)
  have h_45 := h_43.same hc_46
  refine qT rfl rfl (fun wq hS => R.move (v := (vi 0)) rfl) ?_
  refine WT.s (oN rfl ?_)
  refine WL.call Tryz.call26 rfl rfl (c_num12 0 (by omega) _ ) rfl ?_
  rintro _ w_48 ⟨rfl, hc_47⟩
  have h_49 := h_45.same hc_47
  refine WL.nil ?_
  refine ⟨(N0_1_2_3_4_5_10_11_12_13 h_49.ok), ?_⟩
  refine qT rfl rfl (fun wq hS => R.bin rfl rfl (bi_neq (r := false) (by decide))) ?_
  refine qT rfl rfl (fun wq hS => R.move (v := (.bool false)) rfl) ?_
  refine WT.q rfl (Wn.yes rfl rfl rfl) rfl rfl (fun wq hS => R.loadA [] [(32, (anD id df n 0 ([] : Lg) (1, (List.replicate 32 (0 : UInt8)), 1, [val].flatten)).map vu8)] [] (cs := (anD id df n 0 ([] : Lg) (1, (List.replicate 32 (0 : UInt8)), 1, [val].flatten)).map vu8) rfl Tryz.isAgg23 Tryz.sizeOf23 (hS _ M0) rfl rfl rfl rfl) ?_
  refine WT.q rfl (Wn.yes rfl rfl rfl) rfl rfl (fun wq hS => R.move (v := (pO b_24 0)) rfl) ?_
  refine WT.q rfl (Wn.yes rfl rfl rfl) rfl rfl (fun wq hS => R.fieldAddr (off' := 0) rfl Tryz.underlying54 rfl Tryz.sizeOf23 rfl rfl) ?_
  refine WT.q rfl (Wn.yes rfl rfl rfl) rfl rfl (fun wq hS => R.loadA [] [(32, val.map vu8)] [(1, [(vu64 sz)])] (cs := val.map vu8) rfl Tryz.isAgg23 Tryz.sizeOf23 (hS _ M7) rfl rfl rfl rfl) ?_
  refine WT.s ?_
  refine Op1.one rfl (Wn.yes rfl rfl rfl) ?_
  have h_53 := (((h_49.up J9).up J8).up J8).up J9
  refine WL.call Tryz.call27 rfl rfl (c_rBegin id b_24 ms df hms da0 n cap0 0 hl none 0 [] ([] : Lg) (by first | decide | omega | exact Nat.le_trans (anU_le ..) (by decide) | exact Nat.le_trans (anU_le ..) (Nat.le_trans (Nat.succ_le_succ (anU_le ..)) (by decide)) | exact Nat.le_trans (anU_le ..) (Nat.le_trans (Nat.succ_le_succ (Nat.le_trans (anU_le ..) (Nat.succ_le_succ (anU_le ..)))) (by decide))) (by first | decide | omega | exact Nat.le_trans (anL_le ..) (by decide) | exact Nat.le_trans (anL_le ..) (Nat.le_trans (Nat.succ_le_succ (anL_le ..)) (by decide)) | exact Nat.le_trans (anL_le ..) (Nat.le_trans (Nat.succ_le_succ (Nat.le_trans (anL_le ..) (Nat.succ_le_succ (anL_le ..)))) (by decide))) val hvl _ h_53) rfl ?_
  rintro _ w_57 ⟨la_54, lc_55, lx_56, rfl, h_58⟩
  refine WL.nil ?_
  refine ⟨(N4_5_6_7_8_9_10_11_12_13 h_58.ok), ?_⟩
  refine WT.q rfl (Wn.yes rfl rfl rfl) rfl rfl (fun wq hS => R.neA (xs := (anD id df n 0 ([] : Lg) (1, (List.replicate 32 (0 : UInt8)), 1, [val].flatten)).map vu8) (ys := (anD id df n 0 ([] : Lg) (1, (List.replicate 32 (0 : UInt8)), 1, [val].flatten)).map vu8) (r := false) rfl rfl Tryz.eqGuardType23 kt23 (by decide) ag23 (Typ.u8s Tryz.underlying23 ce23 Tryz.underlying5 ce5 (anD_len hl h32_w_37)) (Typ.u8s Tryz.underlying23 ce23 Tryz.underlying5 ce5 (anD_len hl okN)) (neT rfl)) ?_
  refine qT rfl rfl (fun wq hS => R.pickF (v := (.bool false)) rfl rfl) ?_
  refine WT.nil (thn_n ?_)
  refine WP.condF rfl ?_
  refine WP.skip (thn_n (WP.seq (WP.reg ?_)))
  refine qM (pO b_20 0) rfl rfl (qV rfl (R.loadA [] [(32, ms.map vu8)] [] (cs := ms.map vu8) rfl Tryz.isAgg23 Tryz.sizeOf23 (h_58.ok _ M13) rfl rfl rfl rfl) (qM (vn pg) rfl rfl (qV rfl (R.loadA [] [(128, gr.map vu8)] [] (cs := gr.map vu8) rfl Tryz.isAgg29 Tryz.sizeOf29 (h_58.ok _ M12) rfl rfl rfl rfl) ?_)))
  have h_63 := ((((h_58.up J9).up J9).up J9).up J9).up J9
  have h32_w_67 := Lgs.ok32 (h_63.ok _ M3).1
  refine WL.call Tryz.call28 rfl rfl (c_Data id b_20 b_21 ms df hms a_22 n c_23 (anU id 0 ([] : Lg) (1, (List.replicate 32 (0 : UInt8)), 1, [val].flatten)) hl la_34 lc_35 lx_36 (anL id df n 0 ([] : Lg) (1, (List.replicate 32 (0 : UInt8)), 1, [val].flatten)) (by first | decide | omega | exact Nat.le_trans (anU_le ..) (by decide) | exact Nat.le_trans (anU_le ..) (Nat.le_trans (Nat.succ_le_succ (anU_le ..)) (by decide)) | exact Nat.le_trans (anU_le ..) (Nat.le_trans (Nat.succ_le_succ (Nat.le_trans (anU_le ..) (Nat.succ_le_succ (anU_le ..)))) (by decide))) (by first | decide | omega | exact Nat.le_trans (anL_le ..) (by decide) | exact Nat.le_trans (anL_le ..) (Nat.le_trans (Nat.succ_le_succ (anL_le ..)) (by decide)) | exact Nat.le_trans (anL_le ..) (Nat.le_trans (Nat.succ_le_succ (Nat.le_trans (anL_le ..) (Nat.succ_le_succ (anL_le ..)))) (by decide))) ms gr hms hgr pg (by omega) _ h_63) rfl ?_
  rintro _ w_67 ⟨la_64, lc_65, lx_66, rfl, h_68⟩
  refine qM (.tuple [(.agg ⟨(anD id df n (anU id 0 ([] : Lg) (1, (List.replicate 32 (0 : UInt8)), 1, [val].flatten)) (anL id df n 0 ([] : Lg) (1, (List.replicate 32 (0 : UInt8)), 1, [val].flatten)) (1, (List.replicate 32 (0 : UInt8)), 2, [ms, leN 8 (UInt64.ofNat pg).toNat, gr].flatten)).map vu8⟩), (vi 0)].toArray) rfl rfl (qV rfl (R.extract rfl rfl) (qV rfl (R.extract rfl rfl) ?_))
  refine WL.alloc (segs := [(32, (List.replicate 32 (0 : UInt8)).map vu8)]) h_68 (zv Tryz.typeInfo23 rfl) rfl (SsOk.cons (SOk.u8 lr) SsOk.nil) rfl (fun b_69 w_70 h_71 => ?_)
  refine WL.storeA (b := b_69) (off := 0) [] [(32, (List.replicate 32 (0 : UInt8)).map vu8)] [(32, (anD id df n (anU id 0 ([] : Lg) (1, (List.replicate 32 (0 : UInt8)), 1, [val].flatten)) (anL id df n 0 ([] : Lg) (1, (List.replicate 32 (0 : UInt8)), 1, [val].flatten)) (1, (List.replicate 32 (0 : UInt8)), 2, [ms, leN 8 (UInt64.ofNat pg).toNat, gr].flatten)).map vu8)] [] (ys := (anD id df n (anU id 0 ([] : Lg) (1, (List.replicate 32 (0 : UInt8)), 1, [val].flatten)) (anL id df n 0 ([] : Lg) (1, (List.replicate 32 (0 : UInt8)), 1, [val].flatten)) (1, (List.replicate 32 (0 : UInt8)), 2, [ms, leN 8 (UInt64.ofNat pg).toNat, gr].flatten)).map vu8) h_71 rfl rfl Tryz.sizeOf23 At.h (by decide) rfl rfl rfl rfl rfl rfl (SsOk.cons (SOk.u8 (anD_len hl h32_w_67)) SsOk.nil) (fun w_72 h_73 => ?_)
  refine qA (vi 0) rfl rfl ?_
  refine WL.nil (thn_n (WP.seq (WP.seq (WP.reg ?_))))
  refine qM (vn pg) rfl rfl ?_
  refine WL.call Tryz.call29 rfl rfl (c_mayP12_t pg (by omega) _ ) rfl ?_
  rintro _ w_75 ⟨rfl, hc_74⟩
  have h_76 := h_73.same hc_74
  refine WL.nil (thn_n ?_)
  refine WP.condT rfl ?_
  refine WP.seq ?_
  refine WP.drawT (SL w.heap.size [.blk b_69 .nw 23 [(32, (anD id df n (anU id 0 ([] : Lg) (1, (List.replicate 32 (0 : UInt8)), 1, [val].flatten)) (anL id df n 0 ([] : Lg) (1, (List.replicate 32 (0 : UInt8)), 1, [val].flatten)) (1, (List.replicate 32 (0 : UInt8)), 2, [ms, leN 8 (UInt64.ofNat pg).toNat, gr].flatten)).map vu8)], .blk b_20 .nw 118 [(1, [(.bool id)]), (32, ms.map vu8), (1, [(.slice a_22 n c_23)]), (1, [(vn (anU id (anU id 0 ([] : Lg) (1, (List.replicate 32 (0 : UInt8)), 1, [val].flatten)) (anL id df n 0 ([] : Lg) (1, (List.replicate 32 (0 : UInt8)), 1, [val].flatten)) (1, (List.replicate 32 (0 : UInt8)), 2, [ms, leN 8 (UInt64.ofNat pg).toNat, gr].flatten)))]), (1, [(.map (some b_21))]), (1, [(.slice la_64 ((anL id df n (anU id 0 ([] : Lg) (1, (List.replicate 32 (0 : UInt8)), 1, [val].flatten)) (anL id df n 0 ([] : Lg) (1, (List.replicate 32 (0 : UInt8)), 1, [val].flatten)) (1, (List.replicate 32 (0 : UInt8)), 2, [ms, leN 8 (UInt64.ofNat pg).toNat, gr].flatten)).length) lc_65)])], .row la_64 ((anL id df n (anU id 0 ([] : Lg) (1, (List.replicate 32 (0 : UInt8)), 1, [val].flatten)) (anL id df n 0 ([] : Lg) (1, (List.replicate 32 (0 : UInt8)), 1, [val].flatten)) (1, (List.replicate 32 (0 : UInt8)), 2, [ms, leN 8 (UInt64.ofNat pg).toNat, gr].flatten)).length) lc_65 96 67 lx_66, .obj b_21 .nw (.map (mArr (anL id df n (anU id 0 ([] : Lg) (1, (List.replicate 32 (0 : UInt8)), 1, [val].flatten)) (anL id df n 0 ([] : Lg) (1, (List.replicate 32 (0 : UInt8)), 1, [val].flatten)) (1, (List.replicate 32 (0 : UInt8)), 2, [ms, leN 8 (UInt64.ofNat pg).toNat, gr].flatten))) ((anL id df n (anU id 0 ([] : Lg) (1, (List.replicate 32 (0 : UInt8)), 1, [val].flatten)) (anL id df n 0 ([] : Lg) (1, (List.replicate 32 (0 : UInt8)), 1, [val].flatten)) (1, (List.replicate 32 (0 : UInt8)), 2, [ms, leN 8 (UInt64.ofNat pg).toNat, gr].flatten)).length)), .pin (sblks lx_66) (fun w => Lgs w lx_66 (anL id df n (anU id 0 ([] : Lg) (1, (List.replicate 32 (0 : UInt8)), 1, [val].flatten)) (anL id df n 0 ([] : Lg) (1, (List.replicate 32 (0 : UInt8)), 1, [val].flatten)) (1, (List.replicate 32 (0 : UInt8)), 2, [ms, leN 8 (UInt64.ofNat pg).toNat, gr].flatten))), .view a_22 (df.map vu8), .blk b_39 .nw 23 [(32, (anD id df n 0 ([] : Lg) (1, (List.replicate 32 (0 : UInt8)), 1, [val].flatten)).map vu8)], .blk b_10 .nw 57 [(1, [(vu64 pc)]), (8, rg.map vu64), (1, [(.bool run)])], .blk b_7 .nw 54 [(32, val.map vu8), (1, [(vu64 sz)])], .blk b_4 .nw 29 [(128, gr.map vu8)], .blk b_1 .nw 23 [(32, ms.map vu8)]]) (.q 0 (.s 1 (.q 2 (.q 3 (.q 4 (.q 5 (.q 6 (.q 7 (.q 8 (.s 9 (.q 10 (.q 11 .nil)))))))))))) (by kernel_rfl) (by kernel_rfl) rfl (by kernel_rfl) (fun w_77 hc_79 => (SL.cons ((h_76.same hc_79).ok _ M0) (SL.cons ((h_76.same hc_79).ok _ M1) (SL.cons ((h_76.same hc_79).ok _ M2) (SL.cons ((h_76.same hc_79).ok _ M3) (SL.cons ((h_76.same hc_79).ok _ M4) (SL.cons ((h_76.same hc_79).ok _ M5) (SL.cons ((h_76.same hc_79).ok _ M10) (SL.cons ((h_76.same hc_79).ok _ M11) (SL.cons ((h_76.same hc_79).ok _ M12) (SL.cons ((h_76.same hc_79).ok _ M13) (SL.cons ((h_76.same hc_79).ok _ M14) (SL.nil _ _))))))))))))) (fun w_77 hc_79 => ?_)
  have h_78 := h_76.same hc_79
  refine qT rfl rfl (fun wq hS => R.move (v := (vi 0)) rfl) ?_
  refine WT.s (oN rfl ?_)
  refine WL.call Tryz.call26 rfl rfl (c_num12 0 (by omega) _ ) rfl ?_
  rintro _ w_81 ⟨rfl, hc_80⟩
  have h_82 := h_78.same hc_80
  refine WL.nil ?_
  refine ⟨(N0_1_2_3_4_5_10_11_12_13_14 h_82.ok), ?_⟩
  refine qT rfl rfl (fun wq hS => R.bin rfl rfl (bi_neq (r := false) (by decide))) ?_
  refine qT rfl rfl (fun wq hS => R.move (v := (.bool false)) rfl) ?_
  refine WT.q rfl (Wn.yes rfl rfl rfl) rfl rfl (fun wq hS => R.loadA [] [(32, (anD id df n (anU id 0 ([] : Lg) (1, (List.replicate 32 (0 : UInt8)), 1, [val].flatten)) (anL id df n 0 ([] : Lg) (1, (List.replicate 32 (0 : UInt8)), 1, [val].flatten)) (1, (List.replicate 32 (0 : UInt8)), 2, [ms, leN 8 (UInt64.ofNat pg).toNat, gr].flatten)).map vu8)] [] (cs := (anD id df n (anU id 0 ([] : Lg) (1, (List.replicate 32 (0 : UInt8)), 1, [val].flatten)) (anL id df n 0 ([] : Lg) (1, (List.replicate 32 (0 : UInt8)), 1, [val].flatten)) (1, (List.replicate 32 (0 : UInt8)), 2, [ms, leN 8 (UInt64.ofNat pg).toNat, gr].flatten)).map vu8) rfl Tryz.isAgg23 Tryz.sizeOf23 (hS _ M0) rfl rfl rfl rfl) ?_
  refine WT.q rfl (Wn.yes rfl rfl rfl) rfl rfl (fun wq hS => R.move (v := (pO b_24 0)) rfl) ?_
  refine WT.q rfl (Wn.yes rfl rfl rfl) rfl rfl (fun wq hS => R.loadA [] [(32, ms.map vu8)] [] (cs := ms.map vu8) rfl Tryz.isAgg23 Tryz.sizeOf23 (hS _ M10) rfl rfl rfl rfl) ?_
  refine WT.q rfl (Wn.yes rfl rfl rfl) rfl rfl (fun wq hS => R.move (v := (vn pg)) rfl) ?_
  refine WT.q rfl (Wn.yes rfl rfl rfl) rfl rfl (fun wq hS => R.loadA [] [(128, gr.map vu8)] [] (cs := gr.map vu8) rfl Tryz.isAgg29 Tryz.sizeOf29 (hS _ M9) rfl rfl rfl rfl) ?_
  refine WT.s ?_
  refine Op1.one rfl (Wn.yes rfl rfl rfl) ?_
  have h_86 := (((h_82.up J9).up J9).up J9).up J9
  refine WL.call Tryz.call30 rfl rfl (c_rData id b_24 ms df hms da0 n cap0 (anU id 0 ([] : Lg) (1, (List.replicate 32 (0 : UInt8)), 1, [val].flatten)) hl la_54 lc_55 lx_56 (anL id df n 0 ([] : Lg) (1, (List.replicate 32 (0 : UInt8)), 1, [val].flatten)) (by first | decide | omega | exact Nat.le_trans (anU_le ..) (by decide) | exact Nat.le_trans (anU_le ..) (Nat.le_trans (Nat.succ_le_succ (anU_le ..)) (by decide)) | exact Nat.le_trans (anU_le ..) (Nat.le_trans (Nat.succ_le_succ (Nat.le_trans (anU_le ..) (Nat.succ_le_succ (anU_le ..)))) (by decide))) (by first | decide | omega | exact Nat.le_trans (anL_le ..) (by decide) | exact Nat.le_trans (anL_le ..) (Nat.le_trans (Nat.succ_le_succ (anL_le ..)) (by decide)) | exact Nat.le_trans (anL_le ..) (Nat.le_trans (Nat.succ_le_succ (Nat.le_trans (anL_le ..) (Nat.succ_le_succ (anL_le ..)))) (by decide))) ms gr hms hgr pg (by omega) _ h_86) rfl ?_
  rintro _ w_90 ⟨la_87, lc_88, lx_89, rfl, h_91⟩
  refine WL.nil ?_
  refine ⟨(N4_5_6_7_8_9_10_11_12_13_14 h_91.ok), ?_⟩
  refine WT.q rfl (Wn.yes rfl rfl rfl) rfl rfl (fun wq hS => R.neA (xs := (anD id df n (anU id 0 ([] : Lg) (1, (List.replicate 32 (0 : UInt8)), 1, [val].flatten)) (anL id df n 0 ([] : Lg) (1, (List.replicate 32 (0 : UInt8)), 1, [val].flatten)) (1, (List.replicate 32 (0 : UInt8)), 2, [ms, leN 8 (UInt64.ofNat pg).toNat, gr].flatten)).map vu8) (ys := (anD id df n (anU id 0 ([] : Lg) (1, (List.replicate 32 (0 : UInt8)), 1, [val].flatten)) (anL id df n 0 ([] : Lg) (1, (List.replicate 32 (0 : UInt8)), 1, [val].flatten)) (1, (List.replicate 32 (0 : UInt8)), 2, [ms, leN 8 (UInt64.ofNat pg).toNat, gr].flatten)).map vu8) (r := false) rfl rfl Tryz.eqGuardType23 kt23 (by decide) ag23 (Typ.u8s Tryz.underlying23 ce23 Tryz.underlying5 ce5 (anD_len hl h32_w_67)) (Typ.u8s Tryz.underlying23 ce23 Tryz.underlying5 ce5 (anD_len hl (anL_32 (dn := n) hl okN))) (neT rfl)) ?_
  refine qT rfl rfl (fun wq hS => R.pickF (v := (.bool false)) rfl rfl) ?_
  refine WT.nil (thn_n ?_)
  refine WP.condF rfl ?_
  refine WP.skip (thn_n (WP.seq (WP.reg ?_)))
  refine qM (pO b_20 0) rfl rfl (qV rfl (R.loadA [] [(32, ms.map vu8)] [] (cs := ms.map vu8) rfl Tryz.isAgg23 Tryz.sizeOf23 (h_91.ok _ M14) rfl rfl rfl rfl) (qV rfl (R.loadA [] [(1, [(vu64 pc)]), (8, rg.map vu64), (1, [(.bool run)])] [] (cs := flat [(1, [(vu64 pc)]), (8, rg.map vu64), (1, [(.bool run)])]) rfl Tryz.isAgg57 Tryz.sizeOf57 (h_91.ok _ M11) rfl rfl rfl rfl) ?_))
  have h_96 := ((((h_91.up J9).up J9).up J9).up J9).up J9
  have h32_w_100 := Lgs.ok32 (h_96.ok _ M3).1
  refine WL.call Tryz.call31 rfl rfl (c_Rec id b_20 b_21 ms df hms a_22 n c_23 (anU id (anU id 0 ([] : Lg) (1, (List.replicate 32 (0 : UInt8)), 1, [val].flatten)) (anL id df n 0 ([] : Lg) (1, (List.replicate 32 (0 : UInt8)), 1, [val].flatten)) (1, (List.replicate 32 (0 : UInt8)), 2, [ms, leN 8 (UInt64.ofNat pg).toNat, gr].flatten)) hl la_64 lc_65 lx_66 (anL id df n (anU id 0 ([] : Lg) (1, (List.replicate 32 (0 : UInt8)), 1, [val].flatten)) (anL id df n 0 ([] : Lg) (1, (List.replicate 32 (0 : UInt8)), 1, [val].flatten)) (1, (List.replicate 32 (0 : UInt8)), 2, [ms, leN 8 (UInt64.ofNat pg).toNat, gr].flatten)) (by first | decide | omega | exact Nat.le_trans (anU_le ..) (by decide) | exact Nat.le_trans (anU_le ..) (Nat.le_trans (Nat.succ_le_succ (anU_le ..)) (by decide)) | exact Nat.le_trans (anU_le ..) (Nat.le_trans (Nat.succ_le_succ (Nat.le_trans (anU_le ..) (Nat.succ_le_succ (anU_le ..)))) (by decide))) (by first | decide | omega | exact Nat.le_trans (anL_le ..) (by decide) | exact Nat.le_trans (anL_le ..) (Nat.le_trans (Nat.succ_le_succ (anL_le ..)) (by decide)) | exact Nat.le_trans (anL_le ..) (Nat.le_trans (Nat.succ_le_succ (Nat.le_trans (anL_le ..) (Nat.succ_le_succ (anL_le ..)))) (by decide))) ms hms pc rg hrg run hrc _ h_96) rfl ?_
  rintro _ w_100 ⟨la_97, lc_98, lx_99, rfl, h_101⟩
  refine qM (.tuple [(.agg ⟨(anD id df n (anU id (anU id 0 ([] : Lg) (1, (List.replicate 32 (0 : UInt8)), 1, [val].flatten)) (anL id df n 0 ([] : Lg) (1, (List.replicate 32 (0 : UInt8)), 1, [val].flatten)) (1, (List.replicate 32 (0 : UInt8)), 2, [ms, leN 8 (UInt64.ofNat pg).toNat, gr].flatten)) (anL id df n (anU id 0 ([] : Lg) (1, (List.replicate 32 (0 : UInt8)), 1, [val].flatten)) (anL id df n 0 ([] : Lg) (1, (List.replicate 32 (0 : UInt8)), 1, [val].flatten)) (1, (List.replicate 32 (0 : UInt8)), 2, [ms, leN 8 (UInt64.ofNat pg).toNat, gr].flatten)) (1, (List.replicate 32 (0 : UInt8)), 3, [ms, recB pc rg run].flatten)).map vu8⟩), (vi 0)].toArray) rfl rfl (qV rfl (R.extract rfl rfl) (qV rfl (R.extract rfl rfl) ?_))
  refine WL.alloc (segs := [(32, (List.replicate 32 (0 : UInt8)).map vu8)]) h_101 (zv Tryz.typeInfo23 rfl) rfl (SsOk.cons (SOk.u8 lr) SsOk.nil) rfl (fun b_102 w_103 h_104 => ?_)
  refine WL.storeA (b := b_102) (off := 0) [] [(32, (List.replicate 32 (0 : UInt8)).map vu8)] [(32, (anD id df n (anU id (anU id 0 ([] : Lg) (1, (List.replicate 32 (0 : UInt8)), 1, [val].flatten)) (anL id df n 0 ([] : Lg) (1, (List.replicate 32 (0 : UInt8)), 1, [val].flatten)) (1, (List.replicate 32 (0 : UInt8)), 2, [ms, leN 8 (UInt64.ofNat pg).toNat, gr].flatten)) (anL id df n (anU id 0 ([] : Lg) (1, (List.replicate 32 (0 : UInt8)), 1, [val].flatten)) (anL id df n 0 ([] : Lg) (1, (List.replicate 32 (0 : UInt8)), 1, [val].flatten)) (1, (List.replicate 32 (0 : UInt8)), 2, [ms, leN 8 (UInt64.ofNat pg).toNat, gr].flatten)) (1, (List.replicate 32 (0 : UInt8)), 3, [ms, recB pc rg run].flatten)).map vu8)] [] (ys := (anD id df n (anU id (anU id 0 ([] : Lg) (1, (List.replicate 32 (0 : UInt8)), 1, [val].flatten)) (anL id df n 0 ([] : Lg) (1, (List.replicate 32 (0 : UInt8)), 1, [val].flatten)) (1, (List.replicate 32 (0 : UInt8)), 2, [ms, leN 8 (UInt64.ofNat pg).toNat, gr].flatten)) (anL id df n (anU id 0 ([] : Lg) (1, (List.replicate 32 (0 : UInt8)), 1, [val].flatten)) (anL id df n 0 ([] : Lg) (1, (List.replicate 32 (0 : UInt8)), 1, [val].flatten)) (1, (List.replicate 32 (0 : UInt8)), 2, [ms, leN 8 (UInt64.ofNat pg).toNat, gr].flatten)) (1, (List.replicate 32 (0 : UInt8)), 3, [ms, recB pc rg run].flatten)).map vu8) h_104 rfl rfl Tryz.sizeOf23 At.h (by decide) rfl rfl rfl rfl rfl rfl (SsOk.cons (SOk.u8 (anD_len hl h32_w_100)) SsOk.nil) (fun w_105 h_106 => ?_)
  refine qA (vi 0) rfl rfl ?_
  refine WL.nil (thn_n (WP.seq (WP.seq (WP.reg ?_))))
  refine qV rfl (R.loadA [] [(1, [(vu64 pc)]), (8, rg.map vu64), (1, [(.bool run)])] [] (cs := flat [(1, [(vu64 pc)]), (8, rg.map vu64), (1, [(.bool run)])]) rfl Tryz.isAgg57 Tryz.sizeOf57 (h_106.ok _ M12) rfl rfl rfl rfl) ?_
  refine WL.call Tryz.call32 rfl rfl (c_MayRecR pc rg hrg run _ ) rfl ?_
  rintro _ w_108 ⟨rfl, hc_107⟩
  have h_109 := h_106.same hc_107
  refine WL.nil (thn_n ?_)
  refine WP.condT (congrArg Value.bool hrc) ?_
  refine WP.seq ?_
  refine WP.drawT (SL w.heap.size [.blk b_102 .nw 23 [(32, (anD id df n (anU id (anU id 0 ([] : Lg) (1, (List.replicate 32 (0 : UInt8)), 1, [val].flatten)) (anL id df n 0 ([] : Lg) (1, (List.replicate 32 (0 : UInt8)), 1, [val].flatten)) (1, (List.replicate 32 (0 : UInt8)), 2, [ms, leN 8 (UInt64.ofNat pg).toNat, gr].flatten)) (anL id df n (anU id 0 ([] : Lg) (1, (List.replicate 32 (0 : UInt8)), 1, [val].flatten)) (anL id df n 0 ([] : Lg) (1, (List.replicate 32 (0 : UInt8)), 1, [val].flatten)) (1, (List.replicate 32 (0 : UInt8)), 2, [ms, leN 8 (UInt64.ofNat pg).toNat, gr].flatten)) (1, (List.replicate 32 (0 : UInt8)), 3, [ms, recB pc rg run].flatten)).map vu8)], .blk b_20 .nw 118 [(1, [(.bool id)]), (32, ms.map vu8), (1, [(.slice a_22 n c_23)]), (1, [(vn (anU id (anU id (anU id 0 ([] : Lg) (1, (List.replicate 32 (0 : UInt8)), 1, [val].flatten)) (anL id df n 0 ([] : Lg) (1, (List.replicate 32 (0 : UInt8)), 1, [val].flatten)) (1, (List.replicate 32 (0 : UInt8)), 2, [ms, leN 8 (UInt64.ofNat pg).toNat, gr].flatten)) (anL id df n (anU id 0 ([] : Lg) (1, (List.replicate 32 (0 : UInt8)), 1, [val].flatten)) (anL id df n 0 ([] : Lg) (1, (List.replicate 32 (0 : UInt8)), 1, [val].flatten)) (1, (List.replicate 32 (0 : UInt8)), 2, [ms, leN 8 (UInt64.ofNat pg).toNat, gr].flatten)) (1, (List.replicate 32 (0 : UInt8)), 3, [ms, recB pc rg run].flatten)))]), (1, [(.map (some b_21))]), (1, [(.slice la_97 ((anL id df n (anU id (anU id 0 ([] : Lg) (1, (List.replicate 32 (0 : UInt8)), 1, [val].flatten)) (anL id df n 0 ([] : Lg) (1, (List.replicate 32 (0 : UInt8)), 1, [val].flatten)) (1, (List.replicate 32 (0 : UInt8)), 2, [ms, leN 8 (UInt64.ofNat pg).toNat, gr].flatten)) (anL id df n (anU id 0 ([] : Lg) (1, (List.replicate 32 (0 : UInt8)), 1, [val].flatten)) (anL id df n 0 ([] : Lg) (1, (List.replicate 32 (0 : UInt8)), 1, [val].flatten)) (1, (List.replicate 32 (0 : UInt8)), 2, [ms, leN 8 (UInt64.ofNat pg).toNat, gr].flatten)) (1, (List.replicate 32 (0 : UInt8)), 3, [ms, recB pc rg run].flatten)).length) lc_98)])], .row la_97 ((anL id df n (anU id (anU id 0 ([] : Lg) (1, (List.replicate 32 (0 : UInt8)), 1, [val].flatten)) (anL id df n 0 ([] : Lg) (1, (List.replicate 32 (0 : UInt8)), 1, [val].flatten)) (1, (List.replicate 32 (0 : UInt8)), 2, [ms, leN 8 (UInt64.ofNat pg).toNat, gr].flatten)) (anL id df n (anU id 0 ([] : Lg) (1, (List.replicate 32 (0 : UInt8)), 1, [val].flatten)) (anL id df n 0 ([] : Lg) (1, (List.replicate 32 (0 : UInt8)), 1, [val].flatten)) (1, (List.replicate 32 (0 : UInt8)), 2, [ms, leN 8 (UInt64.ofNat pg).toNat, gr].flatten)) (1, (List.replicate 32 (0 : UInt8)), 3, [ms, recB pc rg run].flatten)).length) lc_98 96 67 lx_99, .obj b_21 .nw (.map (mArr (anL id df n (anU id (anU id 0 ([] : Lg) (1, (List.replicate 32 (0 : UInt8)), 1, [val].flatten)) (anL id df n 0 ([] : Lg) (1, (List.replicate 32 (0 : UInt8)), 1, [val].flatten)) (1, (List.replicate 32 (0 : UInt8)), 2, [ms, leN 8 (UInt64.ofNat pg).toNat, gr].flatten)) (anL id df n (anU id 0 ([] : Lg) (1, (List.replicate 32 (0 : UInt8)), 1, [val].flatten)) (anL id df n 0 ([] : Lg) (1, (List.replicate 32 (0 : UInt8)), 1, [val].flatten)) (1, (List.replicate 32 (0 : UInt8)), 2, [ms, leN 8 (UInt64.ofNat pg).toNat, gr].flatten)) (1, (List.replicate 32 (0 : UInt8)), 3, [ms, recB pc rg run].flatten))) ((anL id df n (anU id (anU id 0 ([] : Lg) (1, (List.replicate 32 (0 : UInt8)), 1, [val].flatten)) (anL id df n 0 ([] : Lg) (1, (List.replicate 32 (0 : UInt8)), 1, [val].flatten)) (1, (List.replicate 32 (0 : UInt8)), 2, [ms, leN 8 (UInt64.ofNat pg).toNat, gr].flatten)) (anL id df n (anU id 0 ([] : Lg) (1, (List.replicate 32 (0 : UInt8)), 1, [val].flatten)) (anL id df n 0 ([] : Lg) (1, (List.replicate 32 (0 : UInt8)), 1, [val].flatten)) (1, (List.replicate 32 (0 : UInt8)), 2, [ms, leN 8 (UInt64.ofNat pg).toNat, gr].flatten)) (1, (List.replicate 32 (0 : UInt8)), 3, [ms, recB pc rg run].flatten)).length)), .pin (sblks lx_99) (fun w => Lgs w lx_99 (anL id df n (anU id (anU id 0 ([] : Lg) (1, (List.replicate 32 (0 : UInt8)), 1, [val].flatten)) (anL id df n 0 ([] : Lg) (1, (List.replicate 32 (0 : UInt8)), 1, [val].flatten)) (1, (List.replicate 32 (0 : UInt8)), 2, [ms, leN 8 (UInt64.ofNat pg).toNat, gr].flatten)) (anL id df n (anU id 0 ([] : Lg) (1, (List.replicate 32 (0 : UInt8)), 1, [val].flatten)) (anL id df n 0 ([] : Lg) (1, (List.replicate 32 (0 : UInt8)), 1, [val].flatten)) (1, (List.replicate 32 (0 : UInt8)), 2, [ms, leN 8 (UInt64.ofNat pg).toNat, gr].flatten)) (1, (List.replicate 32 (0 : UInt8)), 3, [ms, recB pc rg run].flatten))), .view a_22 (df.map vu8), .blk b_69 .nw 23 [(32, (anD id df n (anU id 0 ([] : Lg) (1, (List.replicate 32 (0 : UInt8)), 1, [val].flatten)) (anL id df n 0 ([] : Lg) (1, (List.replicate 32 (0 : UInt8)), 1, [val].flatten)) (1, (List.replicate 32 (0 : UInt8)), 2, [ms, leN 8 (UInt64.ofNat pg).toNat, gr].flatten)).map vu8)], .blk b_39 .nw 23 [(32, (anD id df n 0 ([] : Lg) (1, (List.replicate 32 (0 : UInt8)), 1, [val].flatten)).map vu8)], .blk b_10 .nw 57 [(1, [(vu64 pc)]), (8, rg.map vu64), (1, [(.bool run)])], .blk b_7 .nw 54 [(32, val.map vu8), (1, [(vu64 sz)])], .blk b_4 .nw 29 [(128, gr.map vu8)], .blk b_1 .nw 23 [(32, ms.map vu8)]]) (.q 0 (.s 1 (.q 2 (.q 3 (.q 4 (.q 5 (.q 6 (.q 7 (.s 8 (.q 9 (.q 10 .nil))))))))))) (by kernel_rfl) (by kernel_rfl) rfl (by kernel_rfl) (fun w_110 hc_112 => (SL.cons ((h_109.same hc_112).ok _ M0) (SL.cons ((h_109.same hc_112).ok _ M1) (SL.cons ((h_109.same hc_112).ok _ M2) (SL.cons ((h_109.same hc_112).ok _ M3) (SL.cons ((h_109.same hc_112).ok _ M4) (SL.cons ((h_109.same hc_112).ok _ M5) (SL.cons ((h_109.same hc_112).ok _ M10) (SL.cons ((h_109.same hc_112).ok _ M11) (SL.cons ((h_109.same hc_112).ok _ M12) (SL.cons ((h_109.same hc_112).ok _ M13) (SL.cons ((h_109.same hc_112).ok _ M14) (SL.cons ((h_109.same hc_112).ok _ M15) (SL.nil _ _)))))))))))))) (fun w_110 hc_112 => ?_)
  have h_111 := h_109.same hc_112
  refine qT rfl rfl (fun wq hS => R.move (v := (vi 0)) rfl) ?_
  refine WT.s (oN rfl ?_)
  refine WL.call Tryz.call26 rfl rfl (c_num12 0 (by omega) _ ) rfl ?_
  rintro _ w_114 ⟨rfl, hc_113⟩
  have h_115 := h_111.same hc_113
  refine WL.nil ?_
  refine ⟨(SL.cons (h_115.ok _ M0) (SL.cons (h_115.ok _ M1) (SL.cons (h_115.ok _ M2) (SL.cons (h_115.ok _ M3) (SL.cons (h_115.ok _ M4) (SL.cons (h_115.ok _ M5) (SL.cons (h_115.ok _ M10) (SL.cons (h_115.ok _ M11) (SL.cons (h_115.ok _ M12) (SL.cons (h_115.ok _ M13) (SL.cons (h_115.ok _ M14) (SL.cons (h_115.ok _ M15) (SL.nil _ _))))))))))))), ?_⟩
  refine qT rfl rfl (fun wq hS => R.bin rfl rfl (bi_neq (r := false) (by decide))) ?_
  refine qT rfl rfl (fun wq hS => R.move (v := (.bool false)) rfl) ?_
  refine WT.q rfl (Wn.yes rfl rfl rfl) rfl rfl (fun wq hS => R.loadA [] [(32, (anD id df n (anU id (anU id 0 ([] : Lg) (1, (List.replicate 32 (0 : UInt8)), 1, [val].flatten)) (anL id df n 0 ([] : Lg) (1, (List.replicate 32 (0 : UInt8)), 1, [val].flatten)) (1, (List.replicate 32 (0 : UInt8)), 2, [ms, leN 8 (UInt64.ofNat pg).toNat, gr].flatten)) (anL id df n (anU id 0 ([] : Lg) (1, (List.replicate 32 (0 : UInt8)), 1, [val].flatten)) (anL id df n 0 ([] : Lg) (1, (List.replicate 32 (0 : UInt8)), 1, [val].flatten)) (1, (List.replicate 32 (0 : UInt8)), 2, [ms, leN 8 (UInt64.ofNat pg).toNat, gr].flatten)) (1, (List.replicate 32 (0 : UInt8)), 3, [ms, recB pc rg run].flatten)).map vu8)] [] (cs := (anD id df n (anU id (anU id 0 ([] : Lg) (1, (List.replicate 32 (0 : UInt8)), 1, [val].flatten)) (anL id df n 0 ([] : Lg) (1, (List.replicate 32 (0 : UInt8)), 1, [val].flatten)) (1, (List.replicate 32 (0 : UInt8)), 2, [ms, leN 8 (UInt64.ofNat pg).toNat, gr].flatten)) (anL id df n (anU id 0 ([] : Lg) (1, (List.replicate 32 (0 : UInt8)), 1, [val].flatten)) (anL id df n 0 ([] : Lg) (1, (List.replicate 32 (0 : UInt8)), 1, [val].flatten)) (1, (List.replicate 32 (0 : UInt8)), 2, [ms, leN 8 (UInt64.ofNat pg).toNat, gr].flatten)) (1, (List.replicate 32 (0 : UInt8)), 3, [ms, recB pc rg run].flatten)).map vu8) rfl Tryz.isAgg23 Tryz.sizeOf23 (hS _ M0) rfl rfl rfl rfl) ?_
  refine WT.q rfl (Wn.yes rfl rfl rfl) rfl rfl (fun wq hS => R.move (v := (pO b_24 0)) rfl) ?_
  refine WT.q rfl (Wn.yes rfl rfl rfl) rfl rfl (fun wq hS => R.loadA [] [(32, ms.map vu8)] [] (cs := ms.map vu8) rfl Tryz.isAgg23 Tryz.sizeOf23 (hS _ M11) rfl rfl rfl rfl) ?_
  refine WT.q rfl (Wn.yes rfl rfl rfl) rfl rfl (fun wq hS => R.loadA [] [(1, [(vu64 pc)]), (8, rg.map vu64), (1, [(.bool run)])] [] (cs := flat [(1, [(vu64 pc)]), (8, rg.map vu64), (1, [(.bool run)])]) rfl Tryz.isAgg57 Tryz.sizeOf57 (hS _ M8) rfl rfl rfl rfl) ?_
  refine WT.s ?_
  refine Op1.one rfl (Wn.yes rfl rfl rfl) ?_
  have h_119 := (((h_115.up J9).up J9).up J9).up J9
  refine WL.call Tryz.call33 rfl rfl (c_rRec id b_24 ms df hms da0 n cap0 (anU id (anU id 0 ([] : Lg) (1, (List.replicate 32 (0 : UInt8)), 1, [val].flatten)) (anL id df n 0 ([] : Lg) (1, (List.replicate 32 (0 : UInt8)), 1, [val].flatten)) (1, (List.replicate 32 (0 : UInt8)), 2, [ms, leN 8 (UInt64.ofNat pg).toNat, gr].flatten)) hl la_87 lc_88 lx_89 (anL id df n (anU id 0 ([] : Lg) (1, (List.replicate 32 (0 : UInt8)), 1, [val].flatten)) (anL id df n 0 ([] : Lg) (1, (List.replicate 32 (0 : UInt8)), 1, [val].flatten)) (1, (List.replicate 32 (0 : UInt8)), 2, [ms, leN 8 (UInt64.ofNat pg).toNat, gr].flatten)) (by first | decide | omega | exact Nat.le_trans (anU_le ..) (by decide) | exact Nat.le_trans (anU_le ..) (Nat.le_trans (Nat.succ_le_succ (anU_le ..)) (by decide)) | exact Nat.le_trans (anU_le ..) (Nat.le_trans (Nat.succ_le_succ (Nat.le_trans (anU_le ..) (Nat.succ_le_succ (anU_le ..)))) (by decide))) (by first | decide | omega | exact Nat.le_trans (anL_le ..) (by decide) | exact Nat.le_trans (anL_le ..) (Nat.le_trans (Nat.succ_le_succ (anL_le ..)) (by decide)) | exact Nat.le_trans (anL_le ..) (Nat.le_trans (Nat.succ_le_succ (Nat.le_trans (anL_le ..) (Nat.succ_le_succ (anL_le ..)))) (by decide))) ms hms pc rg hrg run _ h_119) rfl ?_
  rintro _ w_123 ⟨la_120, lc_121, lx_122, rfl, h_124⟩
  refine WL.nil ?_
  refine ⟨(N4_5_6_7_8_9_10_11_12_13_14_15 h_124.ok), ?_⟩
  refine WT.q rfl (Wn.yes rfl rfl rfl) rfl rfl (fun wq hS => R.neA (xs := (anD id df n (anU id (anU id 0 ([] : Lg) (1, (List.replicate 32 (0 : UInt8)), 1, [val].flatten)) (anL id df n 0 ([] : Lg) (1, (List.replicate 32 (0 : UInt8)), 1, [val].flatten)) (1, (List.replicate 32 (0 : UInt8)), 2, [ms, leN 8 (UInt64.ofNat pg).toNat, gr].flatten)) (anL id df n (anU id 0 ([] : Lg) (1, (List.replicate 32 (0 : UInt8)), 1, [val].flatten)) (anL id df n 0 ([] : Lg) (1, (List.replicate 32 (0 : UInt8)), 1, [val].flatten)) (1, (List.replicate 32 (0 : UInt8)), 2, [ms, leN 8 (UInt64.ofNat pg).toNat, gr].flatten)) (1, (List.replicate 32 (0 : UInt8)), 3, [ms, recB pc rg run].flatten)).map vu8) (ys := (anD id df n (anU id (anU id 0 ([] : Lg) (1, (List.replicate 32 (0 : UInt8)), 1, [val].flatten)) (anL id df n 0 ([] : Lg) (1, (List.replicate 32 (0 : UInt8)), 1, [val].flatten)) (1, (List.replicate 32 (0 : UInt8)), 2, [ms, leN 8 (UInt64.ofNat pg).toNat, gr].flatten)) (anL id df n (anU id 0 ([] : Lg) (1, (List.replicate 32 (0 : UInt8)), 1, [val].flatten)) (anL id df n 0 ([] : Lg) (1, (List.replicate 32 (0 : UInt8)), 1, [val].flatten)) (1, (List.replicate 32 (0 : UInt8)), 2, [ms, leN 8 (UInt64.ofNat pg).toNat, gr].flatten)) (1, (List.replicate 32 (0 : UInt8)), 3, [ms, recB pc rg run].flatten)).map vu8) (r := false) rfl rfl Tryz.eqGuardType23 kt23 (by decide) ag23 (Typ.u8s Tryz.underlying23 ce23 Tryz.underlying5 ce5 (anD_len hl h32_w_100)) (Typ.u8s Tryz.underlying23 ce23 Tryz.underlying5 ce5 (anD_len hl (anL_32 (dn := n) hl (anL_32 (dn := n) hl okN)))) (neT rfl)) ?_
  refine qT rfl rfl (fun wq hS => R.pickF (v := (.bool false)) rfl rfl) ?_
  refine WT.nil (thn_n ?_)
  refine WP.condF rfl ?_
  refine WP.skip (thn_n (WP.seq ?_))
  refine WP.drawT (SL w.heap.size [.blk b_24 .nw 47 [(1, [(.bool id)]), (32, ms.map vu8), (1, [(.slice da0 n cap0)]), (1, [(vn (anU id (anU id (anU id 0 ([] : Lg) (1, (List.replicate 32 (0 : UInt8)), 1, [val].flatten)) (anL id df n 0 ([] : Lg) (1, (List.replicate 32 (0 : UInt8)), 1, [val].flatten)) (1, (List.replicate 32 (0 : UInt8)), 2, [ms, leN 8 (UInt64.ofNat pg).toNat, gr].flatten)) (anL id df n (anU id 0 ([] : Lg) (1, (List.replicate 32 (0 : UInt8)), 1, [val].flatten)) (anL id df n 0 ([] : Lg) (1, (List.replicate 32 (0 : UInt8)), 1, [val].flatten)) (1, (List.replicate 32 (0 : UInt8)), 2, [ms, leN 8 (UInt64.ofNat pg).toNat, gr].flatten)) (1, (List.replicate 32 (0 : UInt8)), 3, [ms, recB pc rg run].flatten)))]), (1, [(.slice la_120 ((anL id df n (anU id (anU id 0 ([] : Lg) (1, (List.replicate 32 (0 : UInt8)), 1, [val].flatten)) (anL id df n 0 ([] : Lg) (1, (List.replicate 32 (0 : UInt8)), 1, [val].flatten)) (1, (List.replicate 32 (0 : UInt8)), 2, [ms, leN 8 (UInt64.ofNat pg).toNat, gr].flatten)) (anL id df n (anU id 0 ([] : Lg) (1, (List.replicate 32 (0 : UInt8)), 1, [val].flatten)) (anL id df n 0 ([] : Lg) (1, (List.replicate 32 (0 : UInt8)), 1, [val].flatten)) (1, (List.replicate 32 (0 : UInt8)), 2, [ms, leN 8 (UInt64.ofNat pg).toNat, gr].flatten)) (1, (List.replicate 32 (0 : UInt8)), 3, [ms, recB pc rg run].flatten)).length) lc_121)])], .row la_120 ((anL id df n (anU id (anU id 0 ([] : Lg) (1, (List.replicate 32 (0 : UInt8)), 1, [val].flatten)) (anL id df n 0 ([] : Lg) (1, (List.replicate 32 (0 : UInt8)), 1, [val].flatten)) (1, (List.replicate 32 (0 : UInt8)), 2, [ms, leN 8 (UInt64.ofNat pg).toNat, gr].flatten)) (anL id df n (anU id 0 ([] : Lg) (1, (List.replicate 32 (0 : UInt8)), 1, [val].flatten)) (anL id df n 0 ([] : Lg) (1, (List.replicate 32 (0 : UInt8)), 1, [val].flatten)) (1, (List.replicate 32 (0 : UInt8)), 2, [ms, leN 8 (UInt64.ofNat pg).toNat, gr].flatten)) (1, (List.replicate 32 (0 : UInt8)), 3, [ms, recB pc rg run].flatten)).length) lc_121 96 67 lx_122, .pin (sblks lx_122) (fun w => Lgs w lx_122 (anL id df n (anU id (anU id 0 ([] : Lg) (1, (List.replicate 32 (0 : UInt8)), 1, [val].flatten)) (anL id df n 0 ([] : Lg) (1, (List.replicate 32 (0 : UInt8)), 1, [val].flatten)) (1, (List.replicate 32 (0 : UInt8)), 2, [ms, leN 8 (UInt64.ofNat pg).toNat, gr].flatten)) (anL id df n (anU id 0 ([] : Lg) (1, (List.replicate 32 (0 : UInt8)), 1, [val].flatten)) (anL id df n 0 ([] : Lg) (1, (List.replicate 32 (0 : UInt8)), 1, [val].flatten)) (1, (List.replicate 32 (0 : UInt8)), 2, [ms, leN 8 (UInt64.ofNat pg).toNat, gr].flatten)) (1, (List.replicate 32 (0 : UInt8)), 3, [ms, recB pc rg run].flatten))), .view da0 (df.map vu8), .blk b_102 .nw 23 [(32, (anD id df n (anU id (anU id 0 ([] : Lg) (1, (List.replicate 32 (0 : UInt8)), 1, [val].flatten)) (anL id df n 0 ([] : Lg) (1, (List.replicate 32 (0 : UInt8)), 1, [val].flatten)) (1, (List.replicate 32 (0 : UInt8)), 2, [ms, leN 8 (UInt64.ofNat pg).toNat, gr].flatten)) (anL id df n (anU id 0 ([] : Lg) (1, (List.replicate 32 (0 : UInt8)), 1, [val].flatten)) (anL id df n 0 ([] : Lg) (1, (List.replicate 32 (0 : UInt8)), 1, [val].flatten)) (1, (List.replicate 32 (0 : UInt8)), 2, [ms, leN 8 (UInt64.ofNat pg).toNat, gr].flatten)) (1, (List.replicate 32 (0 : UInt8)), 3, [ms, recB pc rg run].flatten)).map vu8)], .blk b_20 .nw 118 [(1, [(.bool id)]), (32, ms.map vu8), (1, [(.slice a_22 n c_23)]), (1, [(vn (anU id (anU id (anU id 0 ([] : Lg) (1, (List.replicate 32 (0 : UInt8)), 1, [val].flatten)) (anL id df n 0 ([] : Lg) (1, (List.replicate 32 (0 : UInt8)), 1, [val].flatten)) (1, (List.replicate 32 (0 : UInt8)), 2, [ms, leN 8 (UInt64.ofNat pg).toNat, gr].flatten)) (anL id df n (anU id 0 ([] : Lg) (1, (List.replicate 32 (0 : UInt8)), 1, [val].flatten)) (anL id df n 0 ([] : Lg) (1, (List.replicate 32 (0 : UInt8)), 1, [val].flatten)) (1, (List.replicate 32 (0 : UInt8)), 2, [ms, leN 8 (UInt64.ofNat pg).toNat, gr].flatten)) (1, (List.replicate 32 (0 : UInt8)), 3, [ms, recB pc rg run].flatten)))]), (1, [(.map (some b_21))]), (1, [(.slice la_97 ((anL id df n (anU id (anU id 0 ([] : Lg) (1, (List.replicate 32 (0 : UInt8)), 1, [val].flatten)) (anL id df n 0 ([] : Lg) (1, (List.replicate 32 (0 : UInt8)), 1, [val].flatten)) (1, (List.replicate 32 (0 : UInt8)), 2, [ms, leN 8 (UInt64.ofNat pg).toNat, gr].flatten)) (anL id df n (anU id 0 ([] : Lg) (1, (List.replicate 32 (0 : UInt8)), 1, [val].flatten)) (anL id df n 0 ([] : Lg) (1, (List.replicate 32 (0 : UInt8)), 1, [val].flatten)) (1, (List.replicate 32 (0 : UInt8)), 2, [ms, leN 8 (UInt64.ofNat pg).toNat, gr].flatten)) (1, (List.replicate 32 (0 : UInt8)), 3, [ms, recB pc rg run].flatten)).length) lc_98)])], .row la_97 ((anL id df n (anU id (anU id 0 ([] : Lg) (1, (List.replicate 32 (0 : UInt8)), 1, [val].flatten)) (anL id df n 0 ([] : Lg) (1, (List.replicate 32 (0 : UInt8)), 1, [val].flatten)) (1, (List.replicate 32 (0 : UInt8)), 2, [ms, leN 8 (UInt64.ofNat pg).toNat, gr].flatten)) (anL id df n (anU id 0 ([] : Lg) (1, (List.replicate 32 (0 : UInt8)), 1, [val].flatten)) (anL id df n 0 ([] : Lg) (1, (List.replicate 32 (0 : UInt8)), 1, [val].flatten)) (1, (List.replicate 32 (0 : UInt8)), 2, [ms, leN 8 (UInt64.ofNat pg).toNat, gr].flatten)) (1, (List.replicate 32 (0 : UInt8)), 3, [ms, recB pc rg run].flatten)).length) lc_98 96 67 lx_99, .obj b_21 .nw (.map (mArr (anL id df n (anU id (anU id 0 ([] : Lg) (1, (List.replicate 32 (0 : UInt8)), 1, [val].flatten)) (anL id df n 0 ([] : Lg) (1, (List.replicate 32 (0 : UInt8)), 1, [val].flatten)) (1, (List.replicate 32 (0 : UInt8)), 2, [ms, leN 8 (UInt64.ofNat pg).toNat, gr].flatten)) (anL id df n (anU id 0 ([] : Lg) (1, (List.replicate 32 (0 : UInt8)), 1, [val].flatten)) (anL id df n 0 ([] : Lg) (1, (List.replicate 32 (0 : UInt8)), 1, [val].flatten)) (1, (List.replicate 32 (0 : UInt8)), 2, [ms, leN 8 (UInt64.ofNat pg).toNat, gr].flatten)) (1, (List.replicate 32 (0 : UInt8)), 3, [ms, recB pc rg run].flatten))) ((anL id df n (anU id (anU id 0 ([] : Lg) (1, (List.replicate 32 (0 : UInt8)), 1, [val].flatten)) (anL id df n 0 ([] : Lg) (1, (List.replicate 32 (0 : UInt8)), 1, [val].flatten)) (1, (List.replicate 32 (0 : UInt8)), 2, [ms, leN 8 (UInt64.ofNat pg).toNat, gr].flatten)) (anL id df n (anU id 0 ([] : Lg) (1, (List.replicate 32 (0 : UInt8)), 1, [val].flatten)) (anL id df n 0 ([] : Lg) (1, (List.replicate 32 (0 : UInt8)), 1, [val].flatten)) (1, (List.replicate 32 (0 : UInt8)), 2, [ms, leN 8 (UInt64.ofNat pg).toNat, gr].flatten)) (1, (List.replicate 32 (0 : UInt8)), 3, [ms, recB pc rg run].flatten)).length)), .pin (sblks lx_99) (fun w => Lgs w lx_99 (anL id df n (anU id (anU id 0 ([] : Lg) (1, (List.replicate 32 (0 : UInt8)), 1, [val].flatten)) (anL id df n 0 ([] : Lg) (1, (List.replicate 32 (0 : UInt8)), 1, [val].flatten)) (1, (List.replicate 32 (0 : UInt8)), 2, [ms, leN 8 (UInt64.ofNat pg).toNat, gr].flatten)) (anL id df n (anU id 0 ([] : Lg) (1, (List.replicate 32 (0 : UInt8)), 1, [val].flatten)) (anL id df n 0 ([] : Lg) (1, (List.replicate 32 (0 : UInt8)), 1, [val].flatten)) (1, (List.replicate 32 (0 : UInt8)), 2, [ms, leN 8 (UInt64.ofNat pg).toNat, gr].flatten)) (1, (List.replicate 32 (0 : UInt8)), 3, [ms, recB pc rg run].flatten))), .view a_22 (df.map vu8), .blk b_69 .nw 23 [(32, (anD id df n (anU id 0 ([] : Lg) (1, (List.replicate 32 (0 : UInt8)), 1, [val].flatten)) (anL id df n 0 ([] : Lg) (1, (List.replicate 32 (0 : UInt8)), 1, [val].flatten)) (1, (List.replicate 32 (0 : UInt8)), 2, [ms, leN 8 (UInt64.ofNat pg).toNat, gr].flatten)).map vu8)], .blk b_39 .nw 23 [(32, (anD id df n 0 ([] : Lg) (1, (List.replicate 32 (0 : UInt8)), 1, [val].flatten)).map vu8)], .blk b_10 .nw 57 [(1, [(vu64 pc)]), (8, rg.map vu64), (1, [(.bool run)])], .blk b_7 .nw 54 [(32, val.map vu8), (1, [(vu64 sz)])], .blk b_4 .nw 29 [(128, gr.map vu8)], .blk b_1 .nw 23 [(32, ms.map vu8)]]) (.q 0 (.q 2 (.q 3 (.q 4 (.q 5 (.s 1 (.s 6 (.q 7 (.s 8 (.q 9 (.q 10 .nil))))))))))) (by kernel_rfl) (by kernel_rfl) rfl (by kernel_rfl) (fun w_125 hc_127 => (SL.cons ((h_124.same hc_127).ok _ M0) (SL.cons ((h_124.same hc_127).ok _ M1) (SL.cons ((h_124.same hc_127).ok _ M2) (SL.cons ((h_124.same hc_127).ok _ M3) (SL.cons ((h_124.same hc_127).ok _ M4) (SL.cons ((h_124.same hc_127).ok _ M5) (SL.cons ((h_124.same hc_127).ok _ M6) (SL.cons ((h_124.same hc_127).ok _ M7) (SL.cons ((h_124.same hc_127).ok _ M8) (SL.cons ((h_124.same hc_127).ok _ M9) (SL.cons ((h_124.same hc_127).ok _ M10) (SL.cons ((h_124.same hc_127).ok _ M11) (SL.cons ((h_124.same hc_127).ok _ M12) (SL.cons ((h_124.same hc_127).ok _ M13) (SL.cons ((h_124.same hc_127).ok _ M14) (SL.cons ((h_124.same hc_127).ok _ M15) (SL.nil _ _)))))))))))))))))) (fun w_125 hc_127 => ?_)
  have h_126 := h_124.same hc_127
  refine qT rfl rfl (fun wq hS => R.move (v := (pO b_20 0)) rfl) ?_
  refine qT rfl rfl (fun wq hS => R.move (v := (pO b_24 0)) rfl) ?_
  refine qT rfl rfl (fun wq hS => R.nilCheck rfl) ?_
  refine qT rfl rfl (fun wq hS => R.fieldAddr (off' := 35) rfl Tryz.underlying47 rfl Tryz.sizeOf44 rfl rfl) ?_
  refine qT rfl rfl (fun wq hS => R.load1 rfl Tryz.isAgg44 (hS _ M0) (Sg.t rfl (Sg.t rfl (Sg.t rfl (Sg.t rfl Sg.h))))) ?_
  refine WT.s (oN rfl ?_)
  have h_132 := ((((h_126.up J9).up J9).up J9).up J9).up J9
  refine WL.call Tryz.call19 rfl rfl (c_oLog id b_20 b_21 ms df hms a_22 n c_23 (anU id (anU id (anU id 0 ([] : Lg) (1, (List.replicate 32 (0 : UInt8)), 1, [val].flatten)) (anL id df n 0 ([] : Lg) (1, (List.replicate 32 (0 : UInt8)), 1, [val].flatten)) (1, (List.replicate 32 (0 : UInt8)), 2, [ms, leN 8 (UInt64.ofNat pg).toNat, gr].flatten)) (anL id df n (anU id 0 ([] : Lg) (1, (List.replicate 32 (0 : UInt8)), 1, [val].flatten)) (anL id df n 0 ([] : Lg) (1, (List.replicate 32 (0 : UInt8)), 1, [val].flatten)) (1, (List.replicate 32 (0 : UInt8)), 2, [ms, leN 8 (UInt64.ofNat pg).toNat, gr].flatten)) (1, (List.replicate 32 (0 : UInt8)), 3, [ms, recB pc rg run].flatten)) hl la_97 lc_98 lx_99 (anL id df n (anU id (anU id 0 ([] : Lg) (1, (List.replicate 32 (0 : UInt8)), 1, [val].flatten)) (anL id df n 0 ([] : Lg) (1, (List.replicate 32 (0 : UInt8)), 1, [val].flatten)) (1, (List.replicate 32 (0 : UInt8)), 2, [ms, leN 8 (UInt64.ofNat pg).toNat, gr].flatten)) (anL id df n (anU id 0 ([] : Lg) (1, (List.replicate 32 (0 : UInt8)), 1, [val].flatten)) (anL id df n 0 ([] : Lg) (1, (List.replicate 32 (0 : UInt8)), 1, [val].flatten)) (1, (List.replicate 32 (0 : UInt8)), 2, [ms, leN 8 (UInt64.ofNat pg).toNat, gr].flatten)) (1, (List.replicate 32 (0 : UInt8)), 3, [ms, recB pc rg run].flatten)) (by first | decide | omega | exact Nat.le_trans (anU_le ..) (by decide) | exact Nat.le_trans (anU_le ..) (Nat.le_trans (Nat.succ_le_succ (anU_le ..)) (by decide)) | exact Nat.le_trans (anU_le ..) (Nat.le_trans (Nat.succ_le_succ (Nat.le_trans (anU_le ..) (Nat.succ_le_succ (anU_le ..)))) (by decide))) (by first | decide | omega | exact Nat.le_trans (anL_le ..) (by decide) | exact Nat.le_trans (anL_le ..) (Nat.le_trans (Nat.succ_le_succ (anL_le ..)) (by decide)) | exact Nat.le_trans (anL_le ..) (Nat.le_trans (Nat.succ_le_succ (Nat.le_trans (anL_le ..) (Nat.succ_le_succ (anL_le ..)))) (by decide))) _ h_132) rfl ?_
  rintro _ w_136 ⟨a_133, c_134, ys_135, rfl, h_137⟩
  refine WL.nil ?_
  refine ⟨(N7_8_9_10_11_2_3_4_5_6_12_13_14_15_16_17 h_137.ok), ?_⟩
  refine WT.s (oN rfl ?_)
  refine WL.call Tryz.call18 rfl rfl (c_rSameLog a_133 ((anL id df n (anU id (anU id 0 ([] : Lg) (1, (List.replicate 32 (0 : UInt8)), 1, [val].flatten)) (anL id df n 0 ([] : Lg) (1, (List.replicate 32 (0 : UInt8)), 1, [val].flatten)) (1, (List.replicate 32 (0 : UInt8)), 2, [ms, leN 8 (UInt64.ofNat pg).toNat, gr].flatten)) (anL id df n (anU id 0 ([] : Lg) (1, (List.replicate 32 (0 : UInt8)), 1, [val].flatten)) (anL id df n 0 ([] : Lg) (1, (List.replicate 32 (0 : UInt8)), 1, [val].flatten)) (1, (List.replicate 32 (0 : UInt8)), 2, [ms, leN 8 (UInt64.ofNat pg).toNat, gr].flatten)) (1, (List.replicate 32 (0 : UInt8)), 3, [ms, recB pc rg run].flatten)).length) c_134 ys_135 (anL id df n (anU id (anU id 0 ([] : Lg) (1, (List.replicate 32 (0 : UInt8)), 1, [val].flatten)) (anL id df n 0 ([] : Lg) (1, (List.replicate 32 (0 : UInt8)), 1, [val].flatten)) (1, (List.replicate 32 (0 : UInt8)), 2, [ms, leN 8 (UInt64.ofNat pg).toNat, gr].flatten)) (anL id df n (anU id 0 ([] : Lg) (1, (List.replicate 32 (0 : UInt8)), 1, [val].flatten)) (anL id df n 0 ([] : Lg) (1, (List.replicate 32 (0 : UInt8)), 1, [val].flatten)) (1, (List.replicate 32 (0 : UInt8)), 2, [ms, leN 8 (UInt64.ofNat pg).toNat, gr].flatten)) (1, (List.replicate 32 (0 : UInt8)), 3, [ms, recB pc rg run].flatten)) rfl (by first | decide | exact Nat.le_trans (anL_le ..) (by decide) | exact Nat.le_trans (anL_le ..) (Nat.le_trans (Nat.succ_le_succ (anL_le ..)) (by decide)) | exact Nat.le_trans (anL_le ..) (Nat.le_trans (Nat.succ_le_succ (Nat.le_trans (anL_le ..) (Nat.succ_le_succ (anL_le ..)))) (by decide))) la_120 lc_121 lx_122 _ (ownView (h_137.ok _ M0)) (h_137.ok _ M1).1 (ownView (h_137.ok _ M8)) (h_137.ok _ M9).1) rfl ?_
  rintro _ w_139 ⟨rfl, hc_138⟩
  have h_140 := h_137.same hc_138
  refine WL.nil ?_
  refine ⟨(N7_8_9_10_11_2_3_4_5_6_12_13_14_15_16_17 h_140.ok), ?_⟩
  refine qT rfl rfl (fun wq hS => R.move (v := (.bool true)) (rfl)) ?_
  refine WT.s ?_
  refine Op1.one rfl (Wn.yes rfl rfl rfl) ?_
  refine WL.call Tryz.call23 rfl rfl (c_known12  _ ) rfl ?_
  rintro _ w_142 ⟨rfl, hc_141⟩
  have h_143 := h_140.same hc_141
  refine WL.nil ?_
  refine ⟨(N7_8_9_10_11_2_3_4_5_6_12_13_14_15_16_17 h_143.ok), ?_⟩
  refine qT rfl rfl (fun wq hS => R.pickT (v := (.bool true)) rfl rfl) ?_
  refine qT rfl rfl (fun wq hS => R.assign (v := (.bool true)) rfl) ?_
  refine WT.nil (thn_n (WP.ret ?_))
  refine ret_of Tryz.results5 (RV.tmp (v := (.bool true)) rfl RV.nil) ?_
  exact ⟨rfl, h_143.chgS⟩

theorem w_MS_tf (id : Bool) (ms df : List UInt8) (hms : ms.length = 32) (da0 : Option Addr) (n cap0 : Nat) (hl : df.length = 32 * n) (gr : List UInt8) (hgr : gr.length = 128) (val : List UInt8) (hvl : val.length = 32) (sz : UInt64) (pc : UInt64) (rg : List UInt64) (hrg : rg.length = 8) (run : Bool) (pg : Nat) (hpg : pg < 128) (hrc : decide (pc % 8 = 0) = false) (w : World) (hv : View w da0 (df.map vu8)) :
  Cs Tryz.prog 5 [(.bool id), (.slice da0 n cap0), (.agg ⟨ms.map vu8⟩), (vi ((pg : Nat) : Int)), (.agg ⟨gr.map vu8⟩), (.agg ⟨flat [(32, val.map vu8), (1, [(vu64 sz)])]⟩), (.agg ⟨flat [(1, [(vu64 pc)]), (8, rg.map vu64), (1, [(.bool run)])]⟩)].toArray w (fun v w1 => v = (.bool true) ∧ Chg w w1 []) := by
 refine Cs.of (n := 119) (args := [(.bool id), (.slice da0 n cap0), (.agg ⟨ms.map vu8⟩), (vn pg), (.agg ⟨gr.map vu8⟩), (.agg ⟨flat [(32, val.map vu8), (1, [(vu64 sz)])]⟩), (.agg ⟨flat [(1, [(vu64 pc)]), (8, rg.map vu64), (1, [(.bool run)])]⟩)]) Tryz.func5 rfl rfl rfl ?_
 have h_0 := HP.init w
 have h_00 := h_0.old (View.arg hv) (fun f hf => by cases hf)
 refine WP.seq (WP.reg ?_)
 refine WL.box (v := (.agg ⟨ms.map vu8⟩)) (segs := [(32, ms.map vu8)]) h_00 rfl rfl (SsOk.cons (SOk.u8 hms) SsOk.nil) rfl (fun b_1 w_2 h_3 => ?_)
 refine WL.box (v := (.agg ⟨gr.map vu8⟩)) (segs := [(128, gr.map vu8)]) h_3 rfl rfl (SsOk.cons (SOk.u8 hgr) SsOk.nil) rfl (fun b_4 w_5 h_6 => ?_)
 refine WL.box (v := (.agg ⟨flat [(32, val.map vu8), (1, [(vu64 sz)])]⟩)) (segs := [(32, val.map vu8), (1, [(vu64 sz)])]) h_6 rfl rfl (SsOk.cons (SOk.u8 hvl) (SsOk.cons (SOk.v rfl) SsOk.nil)) rfl (fun b_7 w_8 h_9 => ?_)
 refine WL.box (v := (.agg ⟨flat [(1, [(vu64 pc)]), (8, rg.map vu64), (1, [(.bool run)])]⟩)) (segs := [(1, [(vu64 pc)]), (8, rg.map vu64), (1, [(.bool run)])]) h_9 rfl rfl (SsOk.cons (SOk.v rfl) (SsOk.cons (SOk.u64 hrg) (SsOk.cons (SOk.v rfl) SsOk.nil))) rfl (fun b_10 w_11 h_12 => ?_)
 refine qA (.bool false) rfl rfl ?_
 refine WL.nil (thn_n (WP.seq (WP.seq (WP.reg ?_))))
 refine qM (.slice da0 n cap0) rfl rfl (qV rfl (R.lenS (a := da0) (m := n) rfl rfl Tryz.underlying24) (qV rfl (R.bin rfl rfl (bi_gtr (r := decide ((((n : Nat) : Int) : Int) > 60)) rfl)) ?_))
 refine WL.nil (thn_n ?_)
 refine WP.cond (b := decide ((((n : Nat) : Int) : Int) > 60)) rfl (fun c_13 => ?_) (fun c_13 => ?_)
 ·have p_14 := of_decide_eq_true c_13
  refine WP.seq (WP.reg ?_)
  refine WL.call Tryz.call23 rfl rfl (c_known12  _ ) rfl ?_
  rintro _ w_16 ⟨rfl, hc_15⟩
  have h_17 := h_12.same hc_15
  refine qA (.bool true) rfl rfl ?_
  refine WL.nil (thn_n (WP.ret (thn_r ?_)))
  refine ret_of Tryz.results5 (RV.tmp (v := (.bool true)) rfl RV.nil) ?_
  exact ⟨rfl, h_17.chgS⟩
 ·have p_18 := of_decide_eq_false c_13
  refine WP.skip (thn_n (WP.seq (WP.reg ?_)))
  refine qM (.bool id) rfl rfl (qV rfl (R.loadA [] [(32, ms.map vu8)] [] (cs := ms.map vu8) rfl Tryz.isAgg23 Tryz.sizeOf23 (h_12.ok _ M3) rfl rfl rfl rfl) (qM (.slice da0 n cap0) rfl rfl ?_))
  have h_19 := h_12.up J4
  refine WL.call Tryz.call24 rfl rfl (c_both12 id ms df hms da0 n cap0 hl (by omega) _ h_19) rfl ?_
  rintro _ w_25 ⟨b_20, b_21, a_22, c_23, b_24, rfl, h_26⟩
  have h_27 := h_26.rowNil 96 67
  have h_28 := HP_logNil h_27
  refine qM (.tuple [(pO b_20 0), (pO b_24 0)].toArray) rfl rfl (qV rfl (R.extract rfl rfl) (qV rfl (R.extract rfl rfl) (qA (pO b_20 0) rfl rfl (qA (pO b_24 0) rfl rfl ?_))))
  refine WL.nil (thn_n (WP.seq (WP.reg ?_)))
  refine qM (pO b_20 0) rfl rfl (qV rfl (R.loadA [] [(32, val.map vu8), (1, [(vu64 sz)])] [] (cs := flat [(32, val.map vu8), (1, [(vu64 sz)])]) rfl Tryz.isAgg54 Tryz.sizeOf54 (h_28.ok _ M10) rfl rfl rfl rfl) ?_)
  have h_33 := ((((h_28.up J6).up J1).up J5).up J3).up J4
  have h32_w_37 := Lgs.ok32 (h_33.ok _ M3).1
  refine WL.call Tryz.call25 rfl rfl (c_Begin id b_20 b_21 ms df hms a_22 n c_23 0 hl none 0 [] ([] : Lg) (by first | decide | omega | exact Nat.le_trans (anU_le ..) (by decide) | exact Nat.le_trans (anU_le ..) (Nat.le_trans (Nat.succ_le_succ (anU_le ..)) (by decide)) | exact Nat.le_trans (anU_le ..) (Nat.le_trans (Nat.succ_le_succ (Nat.le_trans (anU_le ..) (Nat.succ_le_succ (anU_le ..)))) (by decide))) (by first | decide | omega | exact Nat.le_trans (anL_le ..) (by decide) | exact Nat.le_trans (anL_le ..) (Nat.le_trans (Nat.succ_le_succ (anL_le ..)) (by decide)) | exact Nat.le_trans (anL_le ..) (Nat.le_trans (Nat.succ_le_succ (Nat.le_trans (anL_le ..) (Nat.succ_le_succ (anL_le ..)))) (by decide))) val hvl sz _ h_33) rfl ?_
  rintro _ w_37 ⟨la_34, lc_35, lx_36, rfl, h_38⟩
  refine qM (.tuple [(.agg ⟨(anD id df n 0 ([] : Lg) (1, (List.replicate 32 (0 : UInt8)), 1, [val].flatten)).map vu8⟩), (vi 0)].toArray) rfl rfl (qV rfl (R.extract rfl rfl) (qV rfl (R.extract rfl rfl) ?_))
  refine WL.alloc (segs := [(32, (List.replicate 32 (0 : UInt8)).map vu8)]) h_38 (zv Tryz.typeInfo23 rfl) rfl (SsOk.cons (SOk.u8 lr) SsOk.nil) rfl (fun b_39 w_40 h_41 => ?_)
  refine WL.storeA (b := b_39) (off := 0) [] [(32, (List.replicate 32 (0 : UInt8)).map vu8)] [(32, (anD id df n 0 ([] : Lg) (1, (List.replicate 32 (0 : UInt8)), 1, [val].flatten)).map vu8)] [] (ys := (anD id df n 0 ([] : Lg) (1, (List.replicate 32 (0 : UInt8)), 1, [val].flatten)).map vu8) h_41 rfl rfl Tryz.sizeOf23 At.h (by decide) rfl rfl rfl rfl rfl rfl (SsOk.cons (SOk.u8 (anD_len hl h32_w_37)) SsOk.nil) (fun w_42 h_43 => ?_)
  refine qA (vi 0) rfl rfl ?_
  refine WL.nil (thn_n (WP.seq (WP.seq ?_)))
  refine WP.drawT (SL w.heap.size [.blk b_39 .nw 23 [(32, (anD id df n 0 ([] : Lg) (1, (List.replicate 32 (0 : UInt8)), 1, [val].flatten)).map vu8)], .blk b_20 .nw 118 [(1, [(.bool id)]), (32, ms.map vu8), (1, [(.slice a_22 n c_23)]), (1, [(vn (anU id 0 ([] : Lg) (1, (List.replicate 32 (0 : UInt8)), 1, [val].flatten)))]), (1, [(.map (some b_21))]), (1, [(.slice la_34 ((anL id df n 0 ([] : Lg) (1, (List.replicate 32 (0 : UInt8)), 1, [val].flatten)).length) lc_35)])], .row la_34 ((anL id df n 0 ([] : Lg) (1, (List.replicate 32 (0 : UInt8)), 1, [val].flatten)).length) lc_35 96 67 lx_36, .obj b_21 .nw (.map (mArr (anL id df n 0 ([] : Lg) (1, (List.replicate 32 (0 : UInt8)), 1, [val].flatten))) ((anL id df n 0 ([] : Lg) (1, (List.replicate 32 (0 : UInt8)), 1, [val].flatten)).length)), .pin (sblks lx_36) (fun w => Lgs w lx_36 (anL id df n 0 ([] : Lg) (1, (List.replicate 32 (0 : UInt8)), 1, [val].flatten))), .view a_22 (df.map vu8), .blk b_10 .nw 57 [(1, [(vu64 pc)]), (8, rg.map vu64), (1, [(.bool run)])], .blk b_7 .nw 54 [(32, val.map vu8), (1, [(vu64 sz)])], .blk b_4 .nw 29 [(128, gr.map vu8)], .blk b_1 .nw 23 [(32, ms.map vu8)]]) (.q 0 (.s 1 (.q 2 (.q 3 (.q 4 (.q 5 (.q 6 (.q 7 (.s 8 (.q 9 (.q 10 .nil))))))))))) (by kernel_rfl) (by kernel_rfl) rfl (by kernel_rfl) (fun w_44 hc_46 => (SL.cons ((h_43.same hc_46).ok _ M0) (SL.cons ((h_43.same hc_46).ok _ M1) (SL.cons ((h_43.same hc_46).ok _ M2) (SL.cons ((h_43.same hc_46).ok _ M3) (SL.cons ((h_43.same hc_46).ok _ M4) (SL.cons ((h_43.same hc_46).ok _ M5) (SL.cons ((h_43.same hc_46).ok _ M10) (SL.cons ((h_43.same hc_46).ok _ M11) (SL.cons ((h_43.same hc_46).ok _ M12) (SL.cons ((h_43.same hc_46).ok _ M13) (SL.nil _ _)))))))))))) (fun w_44 hc_46 => ?_)
  have h_45 := h_43.same hc_46
  refine qT rfl rfl (fun wq hS => R.move (v := (vi 0)) rfl) ?_
  refine WT.s (oN rfl ?_)
  refine WL.call Tryz.call26 rfl rfl (c_num12 0 (by omega) _ ) rfl ?_
  rintro _ w_48 ⟨rfl, hc_47⟩
  have h_49 := h_45.same hc_47
  refine WL.nil ?_
  refine ⟨(N0_1_2_3_4_5_10_11_12_13 h_49.ok), ?_⟩
  refine qT rfl rfl (fun wq hS => R.bin rfl rfl (bi_neq (r := false) (by decide))) ?_
  refine qT rfl rfl (fun wq hS => R.move (v := (.bool false)) rfl) ?_
  refine WT.q rfl (Wn.yes rfl rfl rfl) rfl rfl (fun wq hS => R.loadA [] [(32, (anD id df n 0 ([] : Lg) (1, (List.replicate 32 (0 : UInt8)), 1, [val].flatten)).map vu8)] [] (cs := (anD id df n 0 ([] : Lg) (1, (List.replicate 32 (0 : UInt8)), 1, [val].flatten)).map vu8) rfl Tryz.isAgg23 Tryz.sizeOf23 (hS _ M0) rfl rfl rfl rfl) ?_
  refine WT.q rfl (Wn.yes rfl rfl rfl) rfl rfl (fun wq hS => R.move (v := (pO b_24 0)) rfl) ?_
  refine WT.q rfl (Wn.yes rfl rfl rfl) rfl rfl (fun wq hS => R.fieldAddr (off' := 0) rfl Tryz.underlying54 rfl Tryz.sizeOf23 rfl rfl) ?_
  refine WT.q rfl (Wn.yes rfl rfl rfl) rfl rfl (fun wq hS => R.loadA [] [(32, val.map vu8)] [(1, [(vu64 sz)])] (cs := val.map vu8) rfl Tryz.isAgg23 Tryz.sizeOf23 (hS _ M7) rfl rfl rfl rfl) ?_
  refine WT.s ?_
  refine Op1.one rfl (Wn.yes rfl rfl rfl) ?_
  have h_53 := (((h_49.up J9).up J8).up J8).up J9
  refine WL.call Tryz.call27 rfl rfl (c_rBegin id b_24 ms df hms da0 n cap0 0 hl none 0 [] ([] : Lg) (by first | decide | omega | exact Nat.le_trans (anU_le ..) (by decide) | exact Nat.le_trans (anU_le ..) (Nat.le_trans (Nat.succ_le_succ (anU_le ..)) (by decide)) | exact Nat.le_trans (anU_le ..) (Nat.le_trans (Nat.succ_le_succ (Nat.le_trans (anU_le ..) (Nat.succ_le_succ (anU_le ..)))) (by decide))) (by first | decide | omega | exact Nat.le_trans (anL_le ..) (by decide) | exact Nat.le_trans (anL_le ..) (Nat.le_trans (Nat.succ_le_succ (anL_le ..)) (by decide)) | exact Nat.le_trans (anL_le ..) (Nat.le_trans (Nat.succ_le_succ (Nat.le_trans (anL_le ..) (Nat.succ_le_succ (anL_le ..)))) (by decide))) val hvl _ h_53) rfl ?_
  rintro _ w_57 ⟨la_54, lc_55, lx_56, rfl, h_58⟩
  refine WL.nil ?_
  refine ⟨(N4_5_6_7_8_9_10_11_12_13 h_58.ok), ?_⟩
  refine WT.q rfl (Wn.yes rfl rfl rfl) rfl rfl (fun wq hS => R.neA (xs := (anD id df n 0 ([] : Lg) (1, (List.replicate 32 (0 : UInt8)), 1, [val].flatten)).map vu8) (ys := (anD id df n 0 ([] : Lg) (1, (List.replicate 32 (0 : UInt8)), 1, [val].flatten)).map vu8) (r := false) rfl rfl Tryz.eqGuardType23 kt23 (by decide) ag23 (Typ.u8s Tryz.underlying23 ce23 Tryz.underlying5 ce5 (anD_len hl h32_w_37)) (Typ.u8s Tryz.underlying23 ce23 Tryz.underlying5 ce5 (anD_len hl okN)) (neT rfl)) ?_
  refine qT rfl rfl (fun wq hS => R.pickF (v := (.bool false)) rfl rfl) ?_
  refine WT.nil (thn_n ?_)
  refine WP.condF rfl ?_
  refine WP.skip (thn_n (WP.seq (WP.reg ?_)))
  refine qM (pO b_20 0) rfl rfl (qV rfl (R.loadA [] [(32, ms.map vu8)] [] (cs := ms.map vu8) rfl Tryz.isAgg23 Tryz.sizeOf23 (h_58.ok _ M13) rfl rfl rfl rfl) (qM (vn pg) rfl rfl (qV rfl (R.loadA [] [(128, gr.map vu8)] [] (cs := gr.map vu8) rfl Tryz.isAgg29 Tryz.sizeOf29 (h_58.ok _ M12) rfl rfl rfl rfl) ?_)))
  have h_63 := ((((h_58.up J9).up J9).up J9).up J9).up J9
  have h32_w_67 := Lgs.ok32 (h_63.ok _ M3).1
  refine WL.call Tryz.call28 rfl rfl (c_Data id b_20 b_21 ms df hms a_22 n c_23 (anU id 0 ([] : Lg) (1, (List.replicate 32 (0 : UInt8)), 1, [val].flatten)) hl la_34 lc_35 lx_36 (anL id df n 0 ([] : Lg) (1, (List.replicate 32 (0 : UInt8)), 1, [val].flatten)) (by first | decide | omega | exact Nat.le_trans (anU_le ..) (by decide) | exact Nat.le_trans (anU_le ..) (Nat.le_trans (Nat.succ_le_succ (anU_le ..)) (by decide)) | exact Nat.le_trans (anU_le ..) (Nat.le_trans (Nat.succ_le_succ (Nat.le_trans (anU_le ..) (Nat.succ_le_succ (anU_le ..)))) (by decide))) (by first | decide | omega | exact Nat.le_trans (anL_le ..) (by decide) | exact Nat.le_trans (anL_le ..) (Nat.le_trans (Nat.succ_le_succ (anL_le ..)) (by decide)) | exact Nat.le_trans (anL_le ..) (Nat.le_trans (Nat.succ_le_succ (Nat.le_trans (anL_le ..) (Nat.succ_le_succ (anL_le ..)))) (by decide))) ms gr hms hgr pg (by omega) _ h_63) rfl ?_
  rintro _ w_67 ⟨la_64, lc_65, lx_66, rfl, h_68⟩
  refine qM (.tuple [(.agg ⟨(anD id df n (anU id 0 ([] : Lg) (1, (List.replicate 32 (0 : UInt8)), 1, [val].flatten)) (anL id df n 0 ([] : Lg) (1, (List.replicate 32 (0 : UInt8)), 1, [val].flatten)) (1, (List.replicate 32 (0 : UInt8)), 2, [ms, leN 8 (UInt64.ofNat pg).toNat, gr].flatten)).map vu8⟩), (vi 0)].toArray) rfl rfl (qV rfl (R.extract rfl rfl) (qV rfl (R.extract rfl rfl) ?_))
  refine WL.alloc (segs := [(32, (List.replicate 32 (0 : UInt8)).map vu8)]) h_68 (zv Tryz.typeInfo23 rfl) rfl (SsOk.cons (SOk.u8 lr) SsOk.nil) rfl (fun b_69 w_70 h_71 => ?_)
  refine WL.storeA (b := b_69) (off := 0) [] [(32, (List.replicate 32 (0 : UInt8)).map vu8)] [(32, (anD id df n (anU id 0 ([] : Lg) (1, (List.replicate 32 (0 : UInt8)), 1, [val].flatten)) (anL id df n 0 ([] : Lg) (1, (List.replicate 32 (0 : UInt8)), 1, [val].flatten)) (1, (List.replicate 32 (0 : UInt8)), 2, [ms, leN 8 (UInt64.ofNat pg).toNat, gr].flatten)).map vu8)] [] (ys := (anD id df n (anU id 0 ([] : Lg) (1, (List.replicate 32 (0 : UInt8)), 1, [val].flatten)) (anL id df n 0 ([] : Lg) (1, (List.replicate 32 (0 : UInt8)), 1, [val].flatten)) (1, (List.replicate 32 (0 : UInt8)), 2, [ms, leN 8 (UInt64.ofNat pg).toNat, gr].flatten)).map vu8) h_71 rfl rfl Tryz.sizeOf23 At.h (by decide) rfl rfl rfl rfl rfl rfl (SsOk.cons (SOk.u8 (anD_len hl h32_w_67)) SsOk.nil) (fun w_72 h_73 => ?_)
  refine qA (vi 0) rfl rfl ?_
  refine WL.nil (thn_n (WP.seq (WP.seq (WP.reg ?_))))
  refine qM (vn pg) rfl rfl ?_
  refine WL.call Tryz.call29 rfl rfl (c_mayP12_t pg (by omega) _ ) rfl ?_
  rintro _ w_75 ⟨rfl, hc_74⟩
  have h_76 := h_73.same hc_74
  refine WL.nil (thn_n ?_)
  refine WP.condT rfl ?_
  refine WP.seq ?_
  refine WP.drawT (SL w.heap.size [.blk b_69 .nw 23 [(32, (anD id df n (anU id 0 ([] : Lg) (1, (List.replicate 32 (0 : UInt8)), 1, [val].flatten)) (anL id df n 0 ([] : Lg) (1, (List.replicate 32 (0 : UInt8)), 1, [val].flatten)) (1, (List.replicate 32 (0 : UInt8)), 2, [ms, leN 8 (UInt64.ofNat pg).toNat, gr].flatten)).map vu8)], .blk b_20 .nw 118 [(1, [(.bool id)]), (32, ms.map vu8), (1, [(.slice a_22 n c_23)]), (1, [(vn (anU id (anU id 0 ([] : Lg) (1, (List.replicate 32 (0 : UInt8)), 1, [val].flatten)) (anL id df n 0 ([] : Lg) (1, (List.replicate 32 (0 : UInt8)), 1, [val].flatten)) (1, (List.replicate 32 (0 : UInt8)), 2, [ms, leN 8 (UInt64.ofNat pg).toNat, gr].flatten)))]), (1, [(.map (some b_21))]), (1, [(.slice la_64 ((anL id df n (anU id 0 ([] : Lg) (1, (List.replicate 32 (0 : UInt8)), 1, [val].flatten)) (anL id df n 0 ([] : Lg) (1, (List.replicate 32 (0 : UInt8)), 1, [val].flatten)) (1, (List.replicate 32 (0 : UInt8)), 2, [ms, leN 8 (UInt64.ofNat pg).toNat, gr].flatten)).length) lc_65)])], .row la_64 ((anL id df n (anU id 0 ([] : Lg) (1, (List.replicate 32 (0 : UInt8)), 1, [val].flatten)) (anL id df n 0 ([] : Lg) (1, (List.replicate 32 (0 : UInt8)), 1, [val].flatten)) (1, (List.replicate 32 (0 : UInt8)), 2, [ms, leN 8 (UInt64.ofNat pg).toNat, gr].flatten)).length) lc_65 96 67 lx_66, .obj b_21 .nw (.map (mArr (anL id df n (anU id 0 ([] : Lg) (1, (List.replicate 32 (0 : UInt8)), 1, [val].flatten)) (anL id df n 0 ([] : Lg) (1, (List.replicate 32 (0 : UInt8)), 1, [val].flatten)) (1, (List.replicate 32 (0 : UInt8)), 2, [ms, leN 8 (UInt64.ofNat pg).toNat, gr].flatten))) ((anL id df n (anU id 0 ([] : Lg) (1, (List.replicate 32 (0 : UInt8)), 1, [val].flatten)) (anL id df n 0 ([] : Lg) (1, (List.replicate 32 (0 : UInt8)), 1, [val].flatten)) (1, (List.replicate 32 (0 : UInt8)), 2, [ms, leN 8 (UInt64.ofNat pg).toNat, gr].flatten)).length)), .pin (sblks lx_66) (fun w => Lgs w lx_66 (anL id df n (anU id 0 ([] : Lg) (1, (List.replicate 32 (0 : UInt8)), 1, [val].flatten)) (anL id df n 0 ([] : Lg) (1, (List.replicate 32 (0 : UInt8)), 1, [val].flatten)) (1, (List.replicate 32 (0 : UInt8)), 2, [ms, leN 8 (UInt64.ofNat pg).toNat, gr].flatten))), .view a_22 (df.map vu8), .blk b_39 .nw 23 [(32, (anD id df n 0 ([] : Lg) (1, (List.replicate 32 (0 : UInt8)), 1, [val].flatten)).map vu8)], .blk b_10 .nw 57 [(1, [(vu64 pc)]), (8, rg.map vu64), (1, [(.bool run)])], .blk b_7 .nw 54 [(32, val.map vu8), (1, [(vu64 sz)])], .blk b_4 .nw 29 [(128, gr.map vu8)], .blk b_1 .nw 23 [(32, ms.map vu8)]]) (.q 0 (.s 1 (.q 2 (.q 3 (.q 4 (.q 5 (.q 6 (.q 7 (.q 8 (.s 9 (.q 10 (.q 11 .nil)))))))))))) (by kernel_rfl) (by kernel_rfl) rfl (by kernel_rfl) (fun w_77 hc_79 => (SL.cons ((h_76.same hc_79).ok _ M0) (SL.cons ((h_76.same hc_79).ok _ M1) (SL.cons ((h_76.same hc_79).ok _ M2) (SL.cons ((h_76.same hc_79).ok _ M3) (SL.cons ((h_76.same hc_79).ok _ M4) (SL.cons ((h_76.same hc_79).ok _ M5) (SL.cons ((h_76.same hc_79).ok _ M10) (SL.cons ((h_76.same hc_79).ok _ M11) (SL.cons ((h_76.same hc_79).ok _ M12) (SL.cons ((h_76.same hc_79).ok _ M13) (SL.cons ((h_76.same hc_79).ok _ M14) (SL.nil _ _))))))))))))) (fun w_77 hc_79 => ?_)
  have h_78 := h_76.same hc_79
  refine qT rfl rfl (fun wq hS => R.move (v := (vi 0)) rfl) ?_
  refine WT.s (oN rfl ?_)
  refine WL.call Tryz.call26 rfl rfl (c_num12 0 (by omega) _ ) rfl ?_
  rintro _ w_81 ⟨rfl, hc_80⟩
  have h_82 := h_78.same hc_80
  refine WL.nil ?_
  refine ⟨(N0_1_2_3_4_5_10_11_12_13_14 h_82.ok), ?_⟩
  refine qT rfl rfl (fun wq hS => R.bin rfl rfl (bi_neq (r := false) (by decide))) ?_
  refine qT rfl rfl (fun wq hS => R.move (v := (.bool false)) rfl) ?_
  refine WT.q rfl (Wn.yes rfl rfl rfl) rfl rfl (fun wq hS => R.loadA [] [(32, (anD id df n (anU id 0 ([] : Lg) (1, (List.replicate 32 (0 : UInt8)), 1, [val].flatten)) (anL id df n 0 ([] : Lg) (1, (List.replicate 32 (0 : UInt8)), 1, [val].flatten)) (1, (List.replicate 32 (0 : UInt8)), 2, [ms, leN 8 (UInt64.ofNat pg).toNat, gr].flatten)).map vu8)] [] (cs := (anD id df n (anU id 0 ([] : Lg) (1, (List.replicate 32 (0 : UInt8)), 1, [val].flatten)) (anL id df n 0 ([] : Lg) (1, (List.replicate 32 (0 : UInt8)), 1, [val].flatten)) (1, (List.replicate 32 (0 : UInt8)), 2, [ms, leN 8 (UInt64.ofNat pg).toNat, gr].flatten)).map vu8) rfl Tryz.isAgg23 Tryz.sizeOf23 (hS _ M0) rfl rfl rfl rfl) ?_
  refine WT.q rfl (Wn.yes rfl rfl rfl) rfl rfl (fun wq hS => R.move (v := (pO b_24 0)) rfl) ?_
  refine WT.q rfl (Wn.yes rfl rfl rfl) rfl rfl (fun wq hS => R.loadA [] [(32, ms.map vu8)] [] (cs := ms.map vu8) rfl Tryz.isAgg23 Tryz.sizeOf23 (hS _ M10) rfl rfl rfl rfl) ?_
  refine WT.q rfl (Wn.yes rfl rfl rfl) rfl rfl (fun wq hS => R.move (v := (vn pg)) rfl) ?_
  refine WT.q rfl (Wn.yes rfl rfl rfl) rfl rfl (fun wq hS => R.loadA [] [(128, gr.map vu8)] [] (cs := gr.map vu8) rfl Tryz.isAgg29 Tryz.sizeOf29 (hS _ M9) rfl rfl rfl rfl) ?_
  refine WT.s ?_
  refine Op1.one rfl (Wn.yes rfl rfl rfl) ?_
  have h_86 := (((h_82.up J9).up J9).up J9).up J9
  refine WL.call Tryz.call30 rfl rfl (c_rData id b_24 ms df hms da0 n cap0 (anU id 0 ([] : Lg) (1, (List.replicate 32 (0 : UInt8)), 1, [val].flatten)) hl la_54 lc_55 lx_56 (anL id df n 0 ([] : Lg) (1, (List.replicate 32 (0 : UInt8)), 1, [val].flatten)) (by first | decide | omega | exact Nat.le_trans (anU_le ..) (by decide) | exact Nat.le_trans (anU_le ..) (Nat.le_trans (Nat.succ_le_succ (anU_le ..)) (by decide)) | exact Nat.le_trans (anU_le ..) (Nat.le_trans (Nat.succ_le_succ (Nat.le_trans (anU_le ..) (Nat.succ_le_succ (anU_le ..)))) (by decide))) (by first | decide | omega | exact Nat.le_trans (anL_le ..) (by decide) | exact Nat.le_trans (anL_le ..) (Nat.le_trans (Nat.succ_le_succ (anL_le ..)) (by decide)) | exact Nat.le_trans (anL_le ..) (Nat.le_trans (Nat.succ_le_succ (Nat.le_trans (anL_le ..) (Nat.succ_le_succ (anL_le ..)))) (by decide))) ms gr hms hgr pg (by omega) _ h_86) rfl ?_
  rintro _ w_90 ⟨la_87, lc_88, lx_89, rfl, h_91⟩
  refine WL.nil ?_
  refine ⟨(N4_5_6_7_8_9_10_11_12_13_14 h_91.ok), ?_⟩
  refine WT.q rfl (Wn.yes rfl rfl rfl) rfl rfl (fun wq hS => R.neA (xs := (anD id df n (anU id 0 ([] : Lg) (1, (List.replicate 32 (0 : UInt8)), 1, [val].flatten)) (anL id df n 0 ([] : Lg) (1, (List.replicate 32 (0 : UInt8)), 1, [val].flatten)) (1, (List.replicate 32 (0 : UInt8)), 2, [ms, leN 8 (UInt64.ofNat pg).toNat, gr].flatten)).map vu8) (ys := (anD id df n (anU id 0 ([] : Lg) (1, (List.replicate 32 (0 : UInt8)), 1, [val].flatten)) (anL id df n 0 ([] : Lg) (1, (List.replicate 32 (0 : UInt8)), 1, [val].flatten)) (1, (List.replicate 32 (0 : UInt8)), 2, [ms, leN 8 (UInt64.ofNat pg).toNat, gr].flatten)).map vu8) (r := false) rfl rfl Tryz.eqGuardType23 kt23 (by decide) ag23 (Typ.u8s Tryz.underlying23 ce23 Tryz.underlying5 ce5 (anD_len hl h32_w_67)) (Typ.u8s Tryz.underlying23 ce23 Tryz.underlying5 ce5 (anD_len hl (anL_32 (dn := n) hl okN))) (neT rfl)) ?_
  refine qT rfl rfl (fun wq hS => R.pickF (v := (.bool false)) rfl rfl) ?_
  refine WT.nil (thn_n ?_)
  refine WP.condF rfl ?_
  refine WP.skip (thn_n (WP.seq (WP.reg ?_)))
  refine qM (pO b_20 0) rfl rfl (qV rfl (R.loadA [] [(32, ms.map vu8)] [] (cs := ms.map vu8) rfl Tryz.isAgg23 Tryz.sizeOf23 (h_91.ok _ M14) rfl rfl rfl rfl) (qV rfl (R.loadA [] [(1, [(vu64 pc)]), (8, rg.map vu64), (1, [(.bool run)])] [] (cs := flat [(1, [(vu64 pc)]), (8, rg.map vu64), (1, [(.bool run)])]) rfl Tryz.isAgg57 Tryz.sizeOf57 (h_91.ok _ M11) rfl rfl rfl rfl) ?_))
  refine WL.call Tryz.call31 rfl rfl (c_Rec_no id b_20 b_21 ms hms a_22 n c_23 (anU id (anU id 0 ([] : Lg) (1, (List.replicate 32 (0 : UInt8)), 1, [val].flatten)) (anL id df n 0 ([] : Lg) (1, (List.replicate 32 (0 : UInt8)), 1, [val].flatten)) (1, (List.replicate 32 (0 : UInt8)), 2, [ms, leN 8 (UInt64.ofNat pg).toNat, gr].flatten)) la_64 ((anL id df n (anU id 0 ([] : Lg) (1, (List.replicate 32 (0 : UInt8)), 1, [val].flatten)) (anL id df n 0 ([] : Lg) (1, (List.replicate 32 (0 : UInt8)), 1, [val].flatten)) (1, (List.replicate 32 (0 : UInt8)), 2, [ms, leN 8 (UInt64.ofNat pg).toNat, gr].flatten)).length) lc_65 ms hms pc rg hrg run hrc _ (h_91.argR M5)) rfl ?_
  rintro _ w_93 ⟨rfl, hc_92⟩
  have h_94 := h_91.same hc_92
  refine qM (.tuple [(.agg ⟨(List.replicate 32 (0 : UInt8)).map vu8⟩), (vi 2)].toArray) rfl rfl (qV rfl (R.extract rfl rfl) (qV rfl (R.extract rfl rfl) ?_))
  refine WL.alloc (segs := [(32, (List.replicate 32 (0 : UInt8)).map vu8)]) h_94 (zv Tryz.typeInfo23 rfl) rfl (SsOk.cons (SOk.u8 lr) SsOk.nil) rfl (fun b_95 w_96 h_97 => ?_)
  refine WL.storeA (b := b_95) (off := 0) [] [(32, (List.replicate 32 (0 : UInt8)).map vu8)] [(32, (List.replicate 32 (0 : UInt8)).map vu8)] [] (ys := (List.replicate 32 (0 : UInt8)).map vu8) h_97 rfl rfl Tryz.sizeOf23 At.h (by decide) rfl rfl rfl rfl rfl rfl (SsOk.cons (SOk.u8 lr) SsOk.nil) (fun w_98 h_99 => ?_)
  refine qA (vi 2) rfl rfl ?_
  refine WL.nil (thn_n (WP.seq (WP.seq (WP.reg ?_))))
  refine qV rfl (R.loadA [] [(1, [(vu64 pc)]), (8, rg.map vu64), (1, [(.bool run)])] [] (cs := flat [(1, [(vu64 pc)]), (8, rg.map vu64), (1, [(.bool run)])]) rfl Tryz.isAgg57 Tryz.sizeOf57 (h_99.ok _ M12) rfl rfl rfl rfl) ?_
  refine WL.call Tryz.call32 rfl rfl (c_MayRecR pc rg hrg run _ ) rfl ?_
  rintro _ w_101 ⟨rfl, hc_100⟩
  have h_102 := h_99.same hc_100
  refine WL.nil (thn_n ?_)
  refine WP.condF (congrArg Value.bool hrc) ?_
  refine WP.seq (WP.reg ?_)
  refine qM (vi 2) rfl rfl ?_
  refine WL.call Tryz.call26 rfl rfl (c_num12 2 (by omega) _ ) rfl ?_
  rintro _ w_104 ⟨rfl, hc_103⟩
  have h_105 := h_102.same hc_103
  refine qV rfl (R.bin rfl rfl (bi_neq (r := false) (by decide))) (qM (.bool false) rfl rfl ?_)
  refine WL.want rfl rfl ?_
  refine qV rfl (R.loadA [] [(32, (List.replicate 32 (0 : UInt8)).map vu8)] [] (cs := (List.replicate 32 (0 : UInt8)).map vu8) rfl Tryz.isAgg23 Tryz.sizeOf23 (h_105.ok _ M0) rfl rfl rfl rfl) ?_
  refine WL.want rfl rfl ?_
  refine qV rfl (R.buildA (vs := []) (cs := (List.replicate 32 (0 : UInt8)).map vu8) Tryz.underlying23 Tryz.sizeOf5 (zv Tryz.typeInfo23 rfl) rfl rfl) ?_
  refine WL.want rfl rfl ?_
  refine qV rfl (R.neA (xs := (List.replicate 32 (0 : UInt8)).map vu8) (ys := (List.replicate 32 (0 : UInt8)).map vu8) (r := false) rfl rfl Tryz.eqGuardType23 kt23 (by decide) ag23 (Typ.u8s Tryz.underlying23 ce23 Tryz.underlying5 ce5 lr) (Typ.u8s Tryz.underlying23 ce23 Tryz.underlying5 ce5 lr) (neT rfl)) (qV rfl (R.pickF (v := (.bool false)) rfl rfl) ?_)
  refine WL.nil (thn_n ?_)
  refine WP.condF rfl ?_
  refine WP.skip (thn_n (WP.seq ?_))
  refine WP.drawT (SL w.heap.size [.blk b_95 .nw 23 [(32, (List.replicate 32 (0 : UInt8)).map vu8)], .blk b_24 .nw 47 [(1, [(.bool id)]), (32, ms.map vu8), (1, [(.slice da0 n cap0)]), (1, [(vn (anU id (anU id 0 ([] : Lg) (1, (List.replicate 32 (0 : UInt8)), 1, [val].flatten)) (anL id df n 0 ([] : Lg) (1, (List.replicate 32 (0 : UInt8)), 1, [val].flatten)) (1, (List.replicate 32 (0 : UInt8)), 2, [ms, leN 8 (UInt64.ofNat pg).toNat, gr].flatten)))]), (1, [(.slice la_87 ((anL id df n (anU id 0 ([] : Lg) (1, (List.replicate 32 (0 : UInt8)), 1, [val].flatten)) (anL id df n 0 ([] : Lg) (1, (List.replicate 32 (0 : UInt8)), 1, [val].flatten)) (1, (List.replicate 32 (0 : UInt8)), 2, [ms, leN 8 (UInt64.ofNat pg).toNat, gr].flatten)).length) lc_88)])], .row la_87 ((anL id df n (anU id 0 ([] : Lg) (1, (List.replicate 32 (0 : UInt8)), 1, [val].flatten)) (anL id df n 0 ([] : Lg) (1, (List.replicate 32 (0 : UInt8)), 1, [val].flatten)) (1, (List.replicate 32 (0 : UInt8)), 2, [ms, leN 8 (UInt64.ofNat pg).toNat, gr].flatten)).length) lc_88 96 67 lx_89, .pin (sblks lx_89) (fun w => Lgs w lx_89 (anL id df n (anU id 0 ([] : Lg) (1, (List.replicate 32 (0 : UInt8)), 1, [val].flatten)) (anL id df n 0 ([] : Lg) (1, (List.replicate 32 (0 : UInt8)), 1, [val].flatten)) (1, (List.replicate 32 (0 : UInt8)), 2, [ms, leN 8 (UInt64.ofNat pg).toNat, gr].flatten))), .view da0 (df.map vu8), .blk b_69 .nw 23 [(32, (anD id df n (anU id 0 ([] : Lg) (1, (List.replicate 32 (0 : UInt8)), 1, [val].flatten)) (anL id df n 0 ([] : Lg) (1, (List.replicate 32 (0 : UInt8)), 1, [val].flatten)) (1, (List.replicate 32 (0 : UInt8)), 2, [ms, leN 8 (UInt64.ofNat pg).toNat, gr].flatten)).map vu8)], .blk b_20 .nw 118 [(1, [(.bool id)]), (32, ms.map vu8), (1, [(.slice a_22 n c_23)]), (1, [(vn (anU id (anU id 0 ([] : Lg) (1, (List.replicate 32 (0 : UInt8)), 1, [val].flatten)) (anL id df n 0 ([] : Lg) (1, (List.replicate 32 (0 : UInt8)), 1, [val].flatten)) (1, (List.replicate 32 (0 : UInt8)), 2, [ms, leN 8 (UInt64.ofNat pg).toNat, gr].flatten)))]), (1, [(.map (some b_21))]), (1, [(.slice la_64 ((anL id df n (anU id 0 ([] : Lg) (1, (List.replicate 32 (0 : UInt8)), 1, [val].flatten)) (anL id df n 0 ([] : Lg) (1, (List.replicate 32 (0 : UInt8)), 1, [val].flatten)) (1, (List.replicate 32 (0 : UInt8)), 2, [ms, leN 8 (UInt64.ofNat pg).toNat, gr].flatten)).length) lc_65)])], .row la_64 ((anL id df n (anU id 0 ([] : Lg) (1, (List.replicate 32 (0 : UInt8)), 1, [val].flatten)) (anL id df n 0 ([] : Lg) (1, (List.replicate 32 (0 : UInt8)), 1, [val].flatten)) (1, (List.replicate 32 (0 : UInt8)), 2, [ms, leN 8 (UInt64.ofNat pg).toNat, gr].flatten)).length) lc_65 96 67 lx_66, .obj b_21 .nw (.map (mArr (anL id df n (anU id 0 ([] : Lg) (1, (List.replicate 32 (0 : UInt8)), 1, [val].flatten)) (anL id df n 0 ([] : Lg) (1, (List.replicate 32 (0 : UInt8)), 1, [val].flatten)) (1, (List.replicate 32 (0 : UInt8)), 2, [ms, leN 8 (UInt64.ofNat pg).toNat, gr].flatten))) ((anL id df n (anU id 0 ([] : Lg) (1, (List.replicate 32 (0 : UInt8)), 1, [val].flatten)) (anL id df n 0 ([] : Lg) (1, (List.replicate 32 (0 : UInt8)), 1, [val].flatten)) (1, (List.replicate 32 (0 : UInt8)), 2, [ms, leN 8 (UInt64.ofNat pg).toNat, gr].flatten)).length)), .pin (sblks lx_66) (fun w => Lgs w lx_66 (anL id df n (anU id 0 ([] : Lg) (1, (List.replicate 32 (0 : UInt8)), 1, [val].flatten)) (anL id df n 0 ([] : Lg) (1, (List.replicate 32 (0 : UInt8)), 1, [val].flatten)) (1, (List.replicate 32 (0 : UInt8)), 2, [ms, leN 8 (UInt64.ofNat pg).toNat, gr].flatten))), .view a_22 (df.map vu8), .blk b_39 .nw 23 [(32, (anD id df n 0 ([] : Lg) (1, (List.replicate 32 (0 : UInt8)), 1, [val].flatten)).map vu8)], .blk b_10 .nw 57 [(1, [(vu64 pc)]), (8, rg.map vu64), (1, [(.bool run)])], .blk b_7 .nw 54 [(32, val.map vu8), (1, [(vu64 sz)])], .blk b_4 .nw 29 [(128, gr.map vu8)], .blk b_1 .nw 23 [(32, ms.map vu8)]]) (.q 0 (.q 2 (.q 3 (.q 4 (.q 5 (.s 1 (.s 6 (.q 7 (.s 8 (.q 9 (.q 10 .nil))))))))))) (by kernel_rfl) (by kernel_rfl) rfl (by kernel_rfl) (fun w_106 hc_108 => (SL.cons ((h_105.same hc_108).ok _ M0) (SL.cons ((h_105.same hc_108).ok _ M1) (SL.cons ((h_105.same hc_108).ok _ M2) (SL.cons ((h_105.same hc_108).ok _ M3) (SL.cons ((h_105.same hc_108).ok _ M4) (SL.cons ((h_105.same hc_108).ok _ M5) (SL.cons ((h_105.same hc_108).ok _ M6) (SL.cons ((h_105.same hc_108).ok _ M7) (SL.cons ((h_105.same hc_108).ok _ M8) (SL.cons ((h_105.same hc_108).ok _ M9) (SL.cons ((h_105.same hc_108).ok _ M10) (SL.cons ((h_105.same hc_108).ok _ M11) (SL.cons ((h_105.same hc_108).ok _ M12) (SL.cons ((h_105.same hc_108).ok _ M13) (SL.cons ((h_105.same hc_108).ok _ M14) (SL.cons ((h_105.same hc_108).ok _ M15) (SL.nil _ _)))))))))))))))))) (fun w_106 hc_108 => ?_)
  have h_107 := h_105.same hc_108
  refine qT rfl rfl (fun wq hS => R.move (v := (pO b_20 0)) rfl) ?_
  refine qT rfl rfl (fun wq hS => R.move (v := (pO b_24 0)) rfl) ?_
  refine qT rfl rfl (fun wq hS => R.nilCheck rfl) ?_
  refine qT rfl rfl (fun wq hS => R.fieldAddr (off' := 35) rfl Tryz.underlying47 rfl Tryz.sizeOf44 rfl rfl) ?_
  refine qT rfl rfl (fun wq hS => R.load1 rfl Tryz.isAgg44 (hS _ M1) (Sg.t rfl (Sg.t rfl (Sg.t rfl (Sg.t rfl Sg.h))))) ?_
  refine WT.s (oN rfl ?_)
  have h_113 := ((((h_107.up J10).up J10).up J10).up J10).up J10
  refine WL.call Tryz.call19 rfl rfl (c_oLog id b_20 b_21 ms df hms a_22 n c_23 (anU id (anU id 0 ([] : Lg) (1, (List.replicate 32 (0 : UInt8)), 1, [val].flatten)) (anL id df n 0 ([] : Lg) (1, (List.replicate 32 (0 : UInt8)), 1, [val].flatten)) (1, (List.replicate 32 (0 : UInt8)), 2, [ms, leN 8 (UInt64.ofNat pg).toNat, gr].flatten)) hl la_64 lc_65 lx_66 (anL id df n (anU id 0 ([] : Lg) (1, (List.replicate 32 (0 : UInt8)), 1, [val].flatten)) (anL id df n 0 ([] : Lg) (1, (List.replicate 32 (0 : UInt8)), 1, [val].flatten)) (1, (List.replicate 32 (0 : UInt8)), 2, [ms, leN 8 (UInt64.ofNat pg).toNat, gr].flatten)) (by first | decide | omega | exact Nat.le_trans (anU_le ..) (by decide) | exact Nat.le_trans (anU_le ..) (Nat.le_trans (Nat.succ_le_succ (anU_le ..)) (by decide)) | exact Nat.le_trans (anU_le ..) (Nat.le_trans (Nat.succ_le_succ (Nat.le_trans (anU_le ..) (Nat.succ_le_succ (anU_le ..)))) (by decide))) (by first | decide | omega | exact Nat.le_trans (anL_le ..) (by decide) | exact Nat.le_trans (anL_le ..) (Nat.le_trans (Nat.succ_le_succ (anL_le ..)) (by decide)) | exact Nat.le_trans (anL_le ..) (Nat.le_trans (Nat.succ_le_succ (Nat.le_trans (anL_le ..) (Nat.succ_le_succ (anL_le ..)))) (by decide))) _ h_113) rfl ?_
  rintro _ w_117 ⟨a_114, c_115, ys_116, rfl, h_118⟩
  refine WL.nil ?_
  refine ⟨(N7_8_9_10_11_12_2_3_4_5_6_13_14_15_16_17 h_118.ok), ?_⟩
  refine WT.s (oN rfl ?_)
  refine WL.call Tryz.call18 rfl rfl (c_rSameLog a_114 ((anL id df n (anU id 0 ([] : Lg) (1, (List.replicate 32 (0 : UInt8)), 1, [val].flatten)) (anL id df n 0 ([] : Lg) (1, (List.replicate 32 (0 : UInt8)), 1, [val].flatten)) (1, (List.replicate 32 (0 : UInt8)), 2, [ms, leN 8 (UInt64.ofNat pg).toNat, gr].flatten)).length) c_115 ys_116 (anL id df n (anU id 0 ([] : Lg) (1, (List.replicate 32 (0 : UInt8)), 1, [val].flatten)) (anL id df n 0 ([] : Lg) (1, (List.replicate 32 (0 : UInt8)), 1, [val].flatten)) (1, (List.replicate 32 (0 : UInt8)), 2, [ms, leN 8 (UInt64.ofNat pg).toNat, gr].flatten)) rfl (by first | decide | exact Nat.le_trans (anL_le ..) (by decide) | exact Nat.le_trans (anL_le ..) (Nat.le_trans (Nat.succ_le_succ (anL_le ..)) (by decide)) | exact Nat.le_trans (anL_le ..) (Nat.le_trans (Nat.succ_le_succ (Nat.le_trans (anL_le ..) (Nat.succ_le_succ (anL_le ..)))) (by decide))) la_87 lc_88 lx_89 _ (ownView (h_118.ok _ M0)) (h_118.ok _ M1).1 (ownView (h_118.ok _ M9)) (h_118.ok _ M10).1) rfl ?_
  rintro _ w_120 ⟨rfl, hc_119⟩
  have h_121 := h_118.same hc_119
  refine WL.nil ?_
  refine ⟨(N7_8_9_10_11_12_2_3_4_5_6_13_14_15_16_17 h_121.ok), ?_⟩
  refine qT rfl rfl (fun wq hS => R.move (v := (.bool true)) (rfl)) ?_
  refine WT.s ?_
  refine Op1.one rfl (Wn.yes rfl rfl rfl) ?_
  refine WL.call Tryz.call23 rfl rfl (c_known12  _ ) rfl ?_
  rintro _ w_123 ⟨rfl, hc_122⟩
  have h_124 := h_121.same hc_122
  refine WL.nil ?_
  refine ⟨(N7_8_9_10_11_12_2_3_4_5_6_13_14_15_16_17 h_124.ok), ?_⟩
  refine qT rfl rfl (fun wq hS => R.pickT (v := (.bool true)) rfl rfl) ?_
  refine qT rfl rfl (fun wq hS => R.assign (v := (.bool true)) rfl) ?_
  refine WT.nil (thn_n (WP.ret ?_))
  refine ret_of Tryz.results5 (RV.tmp (v := (.bool true)) rfl RV.nil) ?_
  exact ⟨rfl, h_124.chgS⟩

theorem w_MS_ft (id : Bool) (ms df : List UInt8) (hms : ms.length = 32) (da0 : Option Addr) (n cap0 : Nat) (hl : df.length = 32 * n) (gr : List UInt8) (hgr : gr.length = 128) (val : List UInt8) (hvl : val.length = 32) (sz : UInt64) (pc : UInt64) (rg : List UInt64) (hrg : rg.length = 8) (run : Bool) (pg : Int) (hpg : ¬ (0 ≤ pg ∧ pg < 128)) (hrc : decide (pc % 8 = 0) = true) (w : World) (hv : View w da0 (df.map vu8)) :
  Cs Tryz.prog 5 [(.bool id), (.slice da0 n cap0), (.agg ⟨ms.map vu8⟩), (vi pg), (.agg ⟨gr.map vu8⟩), (.agg ⟨flat [(32, val.map vu8), (1, [(vu64 sz)])]⟩), (.agg ⟨flat [(1, [(vu64 pc)]), (8, rg.map vu64), (1, [(.bool run)])]⟩)].toArray w (fun v w1 => v = (.bool true) ∧ Chg w w1 []) := by
 refine Cs.of (n := 119) (args := [(.bool id), (.slice da0 n cap0), (.agg ⟨ms.map vu8⟩), (vi pg), (.agg ⟨gr.map vu8⟩), (.agg ⟨flat [(32, val.map vu8), (1, [(vu64 sz)])]⟩), (.agg ⟨flat [(1, [(vu64 pc)]), (8, rg.map vu64), (1, [(.bool run)])]⟩)]) Tryz.func5 rfl rfl rfl ?_
 have h_0 := HP.init w
 have h_00 := h_0.old (View.arg hv) (fun f hf => by cases hf)
 refine WP.seq (WP.reg ?_)
 refine WL.box (v := (.agg ⟨ms.map vu8⟩)) (segs := [(32, ms.map vu8)]) h_00 rfl rfl (SsOk.cons (SOk.u8 hms) SsOk.nil) rfl (fun b_1 w_2 h_3 => ?_)
 refine WL.box (v := (.agg ⟨gr.map vu8⟩)) (segs := [(128, gr.map vu8)]) h_3 rfl rfl (SsOk.cons (SOk.u8 hgr) SsOk.nil) rfl (fun b_4 w_5 h_6 => ?_)
 refine WL.box (v := (.agg ⟨flat [(32, val.map vu8), (1, [(vu64 sz)])]⟩)) (segs := [(32, val.map vu8), (1, [(vu64 sz)])]) h_6 rfl rfl (SsOk.cons (SOk.u8 hvl) (SsOk.cons (SOk.v rfl) SsOk.nil)) rfl (fun b_7 w_8 h_9 => ?_)
 refine WL.box (v := (.agg ⟨flat [(1, [(vu64 pc)]), (8, rg.map vu64), (1, [(.bool run)])]⟩)) (segs := [(1, [(vu64 pc)]), (8, rg.map vu64), (1, [(.bool run)])]) h_9 rfl rfl (SsOk.cons (SOk.v rfl) (SsOk.cons (SOk.u64 hrg) (SsOk.cons (SOk.v rfl) SsOk.nil))) rfl (fun b_10 w_11 h_12 => ?_)
 refine qA (.bool false) rfl rfl ?_
 refine WL.nil (thn_n (WP.seq (WP.seq (WP.reg ?_))))
 refine qM (.slice da0 n cap0) rfl rfl (qV rfl (R.lenS (a := da0) (m := n) rfl rfl Tryz.underlying24) (qV rfl (R.bin rfl rfl (bi_gtr (r := decide ((((n : Nat) : Int) : Int) > 60)) rfl)) ?_))
 refine WL.nil (thn_n ?_)
 refine WP.cond (b := decide ((((n : Nat) : Int) : Int) > 60)) rfl (fun c_13 => ?_) (fun c_13 => ?_)
 ·have p_14 := of_decide_eq_true c_13
  refine WP.seq (WP.reg ?_)
  refine WL.call Tryz.call23 rfl rfl (c_known12  _ ) rfl ?_
  rintro _ w_16 ⟨rfl, hc_15⟩
  have h_17 := h_12.same hc_15
  refine qA (.bool true) rfl rfl ?_
  refine WL.nil (thn_n (WP.ret (thn_r ?_)))
  refine ret_of Tryz.results5 (RV.tmp (v := (.bool true)) rfl RV.nil) ?_
  exact ⟨rfl, h_17.chgS⟩
 ·have p_18 := of_decide_eq_false c_13
  refine WP.skip (thn_n (WP.seq (WP.reg ?_)))
  refine qM (.bool id) rfl rfl (qV rfl (R.loadA [] [(32, ms.map vu8)] [] (cs := ms.map vu8) rfl Tryz.isAgg23 Tryz.sizeOf23 (h_12.ok _ M3) rfl rfl rfl rfl) (qM (.slice da0 n cap0) rfl rfl ?_))
  have h_19 := h_12.up J4
  refine WL.call Tryz.call24 rfl rfl (c_both12 id ms df hms da0 n cap0 hl (by omega) _ h_19) rfl ?_
  rintro _ w_25 ⟨b_20, b_21, a_22, c_23, b_24, rfl, h_26⟩
  have h_27 := h_26.rowNil 96 67
  have h_28 := HP_logNil h_27
  refine qM (.tuple [(pO b_20 0), (pO b_24 0)].toArray) rfl rfl (qV rfl (R.extract rfl rfl) (qV rfl (R.extract rfl rfl) (qA (pO b_20 0) rfl rfl (qA (pO b_24 0) rfl rfl ?_))))
  refine WL.nil (thn_n (WP.seq (WP.reg ?_)))
  refine qM (pO b_20 0) rfl rfl (qV rfl (R.loadA [] [(32, val.map vu8), (1, [(vu64 sz)])] [] (cs := flat [(32, val.map vu8), (1, [(vu64 sz)])]) rfl Tryz.isAgg54 Tryz.sizeOf54 (h_28.ok _ M10) rfl rfl rfl rfl) ?_)
  have h_33 := ((((h_28.up J6).up J1).up J5).up J3).up J4
  have h32_w_37 := Lgs.ok32 (h_33.ok _ M3).1
  refine WL.call Tryz.call25 rfl rfl (c_Begin id b_20 b_21 ms df hms a_22 n c_23 0 hl none 0 [] ([] : Lg) (by first | decide | omega | exact Nat.le_trans (anU_le ..) (by decide) | exact Nat.le_trans (anU_le ..) (Nat.le_trans (Nat.succ_le_succ (anU_le ..)) (by decide)) | exact Nat.le_trans (anU_le ..) (Nat.le_trans (Nat.succ_le_succ (Nat.le_trans (anU_le ..) (Nat.succ_le_succ (anU_le ..)))) (by decide))) (by first | decide | omega | exact Nat.le_trans (anL_le ..) (by decide) | exact Nat.le_trans (anL_le ..) (Nat.le_trans (Nat.succ_le_succ (anL_le ..)) (by decide)) | exact Nat.le_trans (anL_le ..) (Nat.le_trans (Nat.succ_le_succ (Nat.le_trans (anL_le ..) (Nat.succ_le_succ (anL_le ..)))) (by decide))) val hvl sz _ h_33) rfl ?_
  rintro _ w_37 ⟨la_34, lc_35, lx_36, rfl, h_38⟩
  refine qM (.tuple [(.agg ⟨(anD id df n 0 ([] : Lg) (1, (List.replicate 32 (0 : UInt8)), 1, [val].flatten)).map vu8⟩), (vi 0)].toArray) rfl rfl (qV rfl (R.extract rfl rfl) (qV rfl (R.extract rfl rfl) ?_))
  refine WL.alloc (segs := [(32, (List.replicate 32 (0 : UInt8)).map vu8)]) h_38 (zv Tryz.typeInfo23 rfl) rfl (SsOk.cons (SOk.u8 lr) SsOk.nil) rfl (fun b_39 w_40 h_41 => ?_)
  refine WL.storeA (b := b_39) (off := 0) [] [(32, (List.replicate 32 (0 : UInt8)).map vu8)] [(32, (anD id df n 0 ([] : Lg) (1, (List.replicate 32 (0 : UInt8)), 1, [val].flatten)).map vu8)] [] (ys := (anD id df n 0 ([] : Lg) (1, (List.replicate 32 (0 : UInt8)), 1, [val].flatten)).map vu8) h_41 rfl rfl Tryz.sizeOf23 At.h (by decide) rfl rfl rfl rfl rfl rfl (SsOk.cons (SOk.u8 (anD_len hl h32_w_37)) SsOk.nil) (fun w_42 h_43 => ?_)
  refine qA (vi 0) rfl rfl ?_
  refine WL.nil (thn_n (WP.seq (WP.seq ?_)))
  refine WP.drawT (SL w.heap.size [.blk b_39 .nw 23 [(32, (anD id df n 0 ([] : Lg) (1, (List.replicate 32 (0 : UInt8)), 1, [val].flatten)).map vu8)], .blk b_20 .nw 118 [(1, [(.bool id)]), (32, ms.map vu8), (1, [(.slice a_22 n c_23)]), (1, [(vn (anU id 0 ([] : Lg) (1, (List.replicate 32 (0 : UInt8)), 1, [val].flatten)))]), (1, [(.map (some b_21))]), (1, [(.slice la_34 ((anL id df n 0 ([] : Lg) (1, (List.replicate 32 (0 : UInt8)), 1, [val].flatten)).length) lc_35)])], .row la_34 ((anL id df n 0 ([] : Lg) (1, (List.replicate 32 (0 : UInt8)), 1, [val].flatten)).length) lc_35 96 67 lx_36, .obj b_21 .nw (.map (mArr (anL id df n 0 ([] : Lg) (1, (List.replicate 32 (0 : UInt8)), 1, [val].flatten))) ((anL id df n 0 ([] : Lg) (1, (List.replicate 32 (0 : UInt8)), 1, [val].flatten)).length)), .pin (sblks lx_36) (fun w => Lgs w lx_36 (anL id df n 0 ([] : Lg) (1, (List.replicate 32 (0 : UInt8)), 1, [val].flatten))), .view a_22 (df.map vu8), .blk b_10 .nw 57 [(1, [(vu64 pc)]), (8, rg.map vu64), (1, [(.bool run)])], .blk b_7 .nw 54 [(32, val.map vu8), (1, [(vu64 sz)])], .blk b_4 .nw 29 [(128, gr.map vu8)], .blk b_1 .nw 23 [(32, ms.map vu8)]]) (.q 0 (.s 1 (.q 2 (.q 3 (.q 4 (.q 5 (.q 6 (.q 7 (.s 8 (.q 9 (.q 10 .nil))))))))))) (by kernel_rfl) (by kernel_rfl) rfl (by kernel_rfl) (fun w_44 hc_46 => (SL.cons ((h_43.same hc_46).ok _ M0) (SL.cons ((h_43.same hc_46).ok _ M1) (SL.cons ((h_43.same hc_46).ok _ M2) (SL.cons ((h_43.same hc_46).ok _ M3) (SL.cons ((h_43.same hc_46).ok _ M4) (SL.cons ((h_43.same hc_46).ok _ M5) (SL.cons ((h_43.same hc_46).ok _ M10) (SL.cons ((h_43.same hc_46).ok _ M11) (SL.cons ((h_43.same hc_46).ok _ M12) (SL.cons ((h_43.same hc_46).ok _ M13) (SL.nil _ _)))))))))))) (fun w_44 hc_46 => ?_)
  have h_45 := h_43.same hc_46
  refine qT rfl rfl (fun wq hS => R.move (v := (vi 0)) rfl) ?_
  refine WT.s (oN rfl ?_)
  refine WL.call Tryz.call26 rfl rfl (c_num12 0 (by omega) _ ) rfl ?_
  rintro _ w_48 ⟨rfl, hc_47⟩
  have h_49 := h_45.same hc_47
  refine WL.nil ?_
  refine ⟨(N0_1_2_3_4_5_10_11_12_13 h_49.ok), ?_⟩
  refine qT rfl rfl (fun wq hS => R.bin rfl rfl (bi_neq (r := false) (by decide))) ?_
  refine qT rfl rfl (fun wq hS => R.move (v := (.bool false)) rfl) ?_
  refine WT.q rfl (Wn.yes rfl rfl rfl) rfl rfl (fun wq hS => R.loadA [] [(32, (anD id df n 0 ([] : Lg) (1, (List.replicate 32 (0 : UInt8)), 1, [val].flatten)).map vu8)] [] (cs := (anD id df n 0 ([] : Lg) (1, (List.replicate 32 (0 : UInt8)), 1, [val].flatten)).map vu8) rfl Tryz.isAgg23 Tryz.sizeOf23 (hS _ M0) rfl rfl rfl rfl) ?_
  refine WT.q rfl (Wn.yes rfl rfl rfl) rfl rfl (fun wq hS => R.move (v := (pO b_24 0)) rfl) ?_
  refine WT.q rfl (Wn.yes rfl rfl rfl) rfl rfl (fun wq hS => R.fieldAddr (off' := 0) rfl Tryz.underlying54 rfl Tryz.sizeOf23 rfl rfl) ?_
  refine WT.q rfl (Wn.yes rfl rfl rfl) rfl rfl (fun wq hS => R.loadA [] [(32, val.map vu8)] [(1, [(vu64 sz)])] (cs := val.map vu8) rfl Tryz.isAgg23 Tryz.sizeOf23 (hS _ M7) rfl rfl rfl rfl) ?_
  refine WT.s ?_
  refine Op1.one rfl (Wn.yes rfl rfl rfl) ?_
  have h_53 := (((h_49.up J9).up J8).up J8).up J9
  refine WL.call Tryz.call27 rfl rfl (c_rBegin id b_24 ms df hms da0 n cap0 0 hl none 0 [] ([] : Lg) (by first | decide | omega | exact Nat.le_trans (anU_le ..) (by decide) | exact Nat.le_trans (anU_le ..) (Nat.le_trans (Nat.succ_le_succ (anU_le ..)) (by decide)) | exact Nat.le_trans (anU_le ..) (Nat.le_trans (Nat.succ_le_succ (Nat.le_trans (anU_le ..) (Nat.succ_le_succ (anU_le ..)))) (by decide))) (by first | decide | omega | exact Nat.le_trans (anL_le ..) (by decide) | exact Nat.le_trans (anL_le ..) (Nat.le_trans (Nat.succ_le_succ (anL_le ..)) (by decide)) | exact Nat.le_trans (anL_le ..) (Nat.le_trans (Nat.succ_le_succ (Nat.le_trans (anL_le ..) (Nat.succ_le_succ (anL_le ..)))) (by decide))) val hvl _ h_53) rfl ?_
  rintro _ w_57 ⟨la_54, lc_55, lx_56, rfl, h_58⟩
  refine WL.nil ?_
  refine ⟨(N4_5_6_7_8_9_10_11_12_13 h_58.ok), ?_⟩
  refine WT.q rfl (Wn.yes rfl rfl rfl) rfl rfl (fun wq hS => R.neA (xs := (anD id df n 0 ([] : Lg) (1, (List.replicate 32 (0 : UInt8)), 1, [val].flatten)).map vu8) (ys := (anD id df n 0 ([] : Lg) (1, (List.replicate 32 (0 : UInt8)), 1, [val].flatten)).map vu8) (r := false) rfl rfl Tryz.eqGuardType23 kt23 (by decide) ag23 (Typ.u8s Tryz.underlying23 ce23 Tryz.underlying5 ce5 (anD_len hl h32_w_37)) (Typ.u8s Tryz.underlying23 ce23 Tryz.underlying5 ce5 (anD_len hl okN)) (neT rfl)) ?_
  refine qT rfl rfl (fun wq hS => R.pickF (v := (.bool false)) rfl rfl) ?_
  refine WT.nil (thn_n ?_)
  refine WP.condF rfl ?_
  refine WP.skip (thn_n (WP.seq (WP.reg ?_)))
  refine qM (pO b_20 0) rfl rfl (qV rfl (R.loadA [] [(32, ms.map vu8)] [] (cs := ms.map vu8) rfl Tryz.isAgg23 Tryz.sizeOf23 (h_58.ok _ M13) rfl rfl rfl rfl) (qM (vi pg) rfl rfl (qV rfl (R.loadA [] [(128, gr.map vu8)] [] (cs := gr.map vu8) rfl Tryz.isAgg29 Tryz.sizeOf29 (h_58.ok _ M12) rfl rfl rfl rfl) ?_)))
  refine WL.call Tryz.call28 rfl rfl (c_Data_no id b_20 b_21 ms hms a_22 n c_23 (anU id 0 ([] : Lg) (1, (List.replicate 32 (0 : UInt8)), 1, [val].flatten)) la_34 ((anL id df n 0 ([] : Lg) (1, (List.replicate 32 (0 : UInt8)), 1, [val].flatten)).length) lc_35 ms gr hms hgr pg hpg _ (h_58.argR M5)) rfl ?_
  rintro _ w_60 ⟨rfl, hc_59⟩
  have h_61 := h_58.same hc_59
  refine qM (.tuple [(.agg ⟨(List.replicate 32 (0 : UInt8)).map vu8⟩), (vi 2)].toArray) rfl rfl (qV rfl (R.extract rfl rfl) (qV rfl (R.extract rfl rfl) ?_))
  refine WL.alloc (segs := [(32, (List.replicate 32 (0 : UInt8)).map vu8)]) h_61 (zv Tryz.typeInfo23 rfl) rfl (SsOk.cons (SOk.u8 lr) SsOk.nil) rfl (fun b_62 w_63 h_64 => ?_)
  refine WL.storeA (b := b_62) (off := 0) [] [(32, (List.replicate 32 (0 : UInt8)).map vu8)] [(32, (List.replicate 32 (0 : UInt8)).map vu8)] [] (ys := (List.replicate 32 (0 : UInt8)).map vu8) h_64 rfl rfl Tryz.sizeOf23 At.h (by decide) rfl rfl rfl rfl rfl rfl (SsOk.cons (SOk.u8 lr) SsOk.nil) (fun w_65 h_66 => ?_)
  refine qA (vi 2) rfl rfl ?_
  refine WL.nil (thn_n (WP.seq (WP.seq (WP.reg ?_))))
  refine qM (vi pg) rfl rfl ?_
  refine WL.call Tryz.call29 rfl rfl (c_mayP12_f pg hpg _ ) rfl ?_
  rintro _ w_68 ⟨rfl, hc_67⟩
  have h_69 := h_66.same hc_67
  refine WL.nil (thn_n ?_)
  refine WP.condF rfl ?_
  refine WP.seq (WP.reg ?_)
  refine qM (vi 2) rfl rfl ?_
  refine WL.call Tryz.call26 rfl rfl (c_num12 2 (by omega) _ ) rfl ?_
  rintro _ w_71 ⟨rfl, hc_70⟩
  have h_72 := h_69.same hc_70
  refine qV rfl (R.bin rfl rfl (bi_neq (r := false) (by decide))) (qM (.bool false) rfl rfl ?_)
  refine WL.want rfl rfl ?_
  refine qV rfl (R.loadA [] [(32, (List.replicate 32 (0 : UInt8)).map vu8)] [] (cs := (List.replicate 32 (0 : UInt8)).map vu8) rfl Tryz.isAgg23 Tryz.sizeOf23 (h_72.ok _ M0) rfl rfl rfl rfl) ?_
  refine WL.want rfl rfl ?_
  refine qV rfl (R.buildA (vs := []) (cs := (List.replicate 32 (0 : UInt8)).map vu8) Tryz.underlying23 Tryz.sizeOf5 (zv Tryz.typeInfo23 rfl) rfl rfl) ?_
  refine WL.want rfl rfl ?_
  refine qV rfl (R.neA (xs := (List.replicate 32 (0 : UInt8)).map vu8) (ys := (List.replicate 32 (0 : UInt8)).map vu8) (r := false) rfl rfl Tryz.eqGuardType23 kt23 (by decide) ag23 (Typ.u8s Tryz.underlying23 ce23 Tryz.underlying5 ce5 lr) (Typ.u8s Tryz.underlying23 ce23 Tryz.underlying5 ce5 lr) (neT rfl)) (qV rfl (R.pickF (v := (.bool false)) rfl rfl) ?_)
  refine WL.nil (thn_n ?_)
  refine WP.condF rfl ?_
  refine WP.skip (thn_n (WP.seq (WP.reg ?_)))
  refine qM (pO b_20 0) rfl rfl (qV rfl (R.loadA [] [(32, ms.map vu8)] [] (cs := ms.map vu8) rfl Tryz.isAgg23 Tryz.sizeOf23 (h_72.ok _ M14) rfl rfl rfl rfl) (qV rfl (R.loadA [] [(1, [(vu64 pc)]), (8, rg.map vu64), (1, [(.bool run)])] [] (cs := flat [(1, [(vu64 pc)]), (8, rg.map vu64), (1, [(.bool run)])]) rfl Tryz.isAgg57 Tryz.sizeOf57 (h_72.ok _ M11) rfl rfl rfl rfl) ?_))
  have h_77 := ((((h_72.up J10).up J10).up J10).up J10).up J10
  have h32_w_81 := Lgs.ok32 (h_77.ok _ M3).1
  refine WL.call Tryz.call31 rfl rfl (c_Rec id b_20 b_21 ms df hms a_22 n c_23 (anU id 0 ([] : Lg) (1, (List.replicate 32 (0 : UInt8)), 1, [val].flatten)) hl la_34 lc_35 lx_36 (anL id df n 0 ([] : Lg) (1, (List.replicate 32 (0 : UInt8)), 1, [val].flatten)) (by first | decide | omega | exact Nat.le_trans (anU_le ..) (by decide) | exact Nat.le_trans (anU_le ..) (Nat.le_trans (Nat.succ_le_succ (anU_le ..)) (by decide)) | exact Nat.le_trans (anU_le ..) (Nat.le_trans (Nat.succ_le_succ (Nat.le_trans (anU_le ..) (Nat.succ_le_succ (anU_le ..)))) (by decide))) (by first | decide | omega | exact Nat.le_trans (anL_le ..) (by decide) | exact Nat.le_trans (anL_le ..) (Nat.le_trans (Nat.succ_le_succ (anL_le ..)) (by decide)) | exact Nat.le_trans (anL_le ..) (Nat.le_trans (Nat.succ_le_succ (Nat.le_trans (anL_le ..) (Nat.succ_le_succ (anL_le ..)))) (by decide))) ms hms pc rg hrg run hrc _ h_77) rfl ?_
  rintro _ w_81 ⟨la_78, lc_79, lx_80, rfl, h_82⟩
  refine qM (.tuple [(.agg ⟨(anD id df n (anU id 0 ([] : Lg) (1, (List.replicate 32 (0 : UInt8)), 1, [val].flatten)) (anL id df n 0 ([] : Lg) (1, (List.replicate 32 (0 : UInt8)), 1, [val].flatten)) (1, (List.replicate 32 (0 : UInt8)), 3, [ms, recB pc rg run].flatten)).map vu8⟩), (vi 0)].toArray) rfl rfl (qV rfl (R.extract rfl rfl) (qV rfl (R.extract rfl rfl) ?_))
  refine WL.alloc (segs := [(32, (List.replicate 32 (0 : UInt8)).map vu8)]) h_82 (zv Tryz.typeInfo23 rfl) rfl (SsOk.cons (SOk.u8 lr) SsOk.nil) rfl (fun b_83 w_84 h_85 => ?_)
  refine WL.storeA (b := b_83) (off := 0) [] [(32, (List.replicate 32 (0 : UInt8)).map vu8)] [(32, (anD id df n (anU id 0 ([] : Lg) (1, (List.replicate 32 (0 : UInt8)), 1, [val].flatten)) (anL id df n 0 ([] : Lg) (1, (List.replicate 32 (0 : UInt8)), 1, [val].flatten)) (1, (List.replicate 32 (0 : UInt8)), 3, [ms, recB pc rg run].flatten)).map vu8)] [] (ys := (anD id df n (anU id 0 ([] : Lg) (1, (List.replicate 32 (0 : UInt8)), 1, [val].flatten)) (anL id df n 0 ([] : Lg) (1, (List.replicate 32 (0 : UInt8)), 1, [val].flatten)) (1, (List.replicate 32 (0 : UInt8)), 3, [ms, recB pc rg run].flatten)).map vu8) h_85 rfl rfl Tryz.sizeOf23 At.h (by decide) rfl rfl rfl rfl rfl rfl (SsOk.cons (SOk.u8 (anD_len hl h32_w_81)) SsOk.nil) (fun w_86 h_87 => ?_)
  refine qA (vi 0) rfl rfl ?_
  refine WL.nil (thn_n (WP.seq (WP.seq (WP.reg ?_))))
  refine qV rfl (R.loadA [] [(1, [(vu64 pc)]), (8, rg.map vu64), (1, [(.bool run)])] [] (cs := flat [(1, [(vu64 pc)]), (8, rg.map vu64), (1, [(.bool run)])]) rfl Tryz.isAgg57 Tryz.sizeOf57 (h_87.ok _ M12) rfl rfl rfl rfl) ?_
  refine WL.call Tryz.call32 rfl rfl (c_MayRecR pc rg hrg run _ ) rfl ?_
  rintro _ w_89 ⟨rfl, hc_88⟩
  have h_90 := h_87.same hc_88
  refine WL.nil (thn_n ?_)
  refine WP.condT (congrArg Value.bool hrc) ?_
  refine WP.seq ?_
  refine WP.drawT (SL w.heap.size [.blk b_83 .nw 23 [(32, (anD id df n (anU id 0 ([] : Lg) (1, (List.replicate 32 (0 : UInt8)), 1, [val].flatten)) (anL id df n 0 ([] : Lg) (1, (List.replicate 32 (0 : UInt8)), 1, [val].flatten)) (1, (List.replicate 32 (0 : UInt8)), 3, [ms, recB pc rg run].flatten)).map vu8)], .blk b_20 .nw 118 [(1, [(.bool id)]), (32, ms.map vu8), (1, [(.slice a_22 n c_23)]), (1, [(vn (anU id (anU id 0 ([] : Lg) (1, (List.replicate 32 (0 : UInt8)), 1, [val].flatten)) (anL id df n 0 ([] : Lg) (1, (List.replicate 32 (0 : UInt8)), 1, [val].flatten)) (1, (List.replicate 32 (0 : UInt8)), 3, [ms, recB pc rg run].flatten)))]), (1, [(.map (some b_21))]), (1, [(.slice la_78 ((anL id df n (anU id 0 ([] : Lg) (1, (List.replicate 32 (0 : UInt8)), 1, [val].flatten)) (anL id df n 0 ([] : Lg) (1, (List.replicate 32 (0 : UInt8)), 1, [val].flatten)) (1, (List.replicate 32 (0 : UInt8)), 3, [ms, recB pc rg run].flatten)).length) lc_79)])], .row la_78 ((anL id df n (anU id 0 ([] : Lg) (1, (List.replicate 32 (0 : UInt8)), 1, [val].flatten)) (anL id df n 0 ([] : Lg) (1, (List.replicate 32 (0 : UInt8)), 1, [val].flatten)) (1, (List.replicate 32 (0 : UInt8)), 3, [ms, recB pc rg run].flatten)).length) lc_79 96 67 lx_80, .obj b_21 .nw (.map (mArr (anL id df n (anU id 0 ([] : Lg) (1, (List.replicate 32 (0 : UInt8)), 1, [val].flatten)) (anL id df n 0 ([] : Lg) (1, (List.replicate 32 (0 : UInt8)), 1, [val].flatten)) (1, (List.replicate 32 (0 : UInt8)), 3, [ms, recB pc rg run].flatten))) ((anL id df n (anU id 0 ([] : Lg) (1, (List.replicate 32 (0 : UInt8)), 1, [val].flatten)) (anL id df n 0 ([] : Lg) (1, (List.replicate 32 (0 : UInt8)), 1, [val].flatten)) (1, (List.replicate 32 (0 : UInt8)), 3, [ms, recB pc rg run].flatten)).length)), .pin (sblks lx_80) (fun w => Lgs w lx_80 (anL id df n (anU id 0 ([] : Lg) (1, (List.replicate 32 (0 : UInt8)), 1, [val].flatten)) (anL id df n 0 ([] : Lg) (1, (List.replicate 32 (0 : UInt8)), 1, [val].flatten)) (1, (List.replicate 32 (0 : UInt8)), 3, [ms, recB pc rg run].flatten))), .view a_22 (df.map vu8), .blk b_62 .nw 23 [(32, (List.replicate 32 (0 : UInt8)).map vu8)], .blk b_39 .nw 23 [(32, (anD id df n 0 ([] : Lg) (1, (List.replicate 32 (0 : UInt8)), 1, [val].flatten)).map vu8)], .blk b_10 .nw 57 [(1, [(vu64 pc)]), (8, rg.map vu64), (1, [(.bool run)])], .blk b_7 .nw 54 [(32, val.map vu8), (1, [(vu64 sz)])], .blk b_4 .nw 29 [(128, gr.map vu8)], .blk b_1 .nw 23 [(32, ms.map vu8)]]) (.q 0 (.s 1 (.q 2 (.q 3 (.q 4 (.q 5 (.q 6 (.q 7 (.s 8 (.q 9 (.q 10 .nil))))))))))) (by kernel_rfl) (by kernel_rfl) rfl (by kernel_rfl) (fun w_91 hc_93 => (SL.cons ((h_90.same hc_93).ok _ M0) (SL.cons ((h_90.same hc_93).ok _ M1) (SL.cons ((h_90.same hc_93).ok _ M2) (SL.cons ((h_90.same hc_93).ok _ M3) (SL.cons ((h_90.same hc_93).ok _ M4) (SL.cons ((h_90.same hc_93).ok _ M5) (SL.cons ((h_90.same hc_93).ok _ M6) (SL.cons ((h_90.same hc_93).ok _ M11) (SL.cons ((h_90.same hc_93).ok _ M12) (SL.cons ((h_90.same hc_93).ok _ M13) (SL.cons ((h_90.same hc_93).ok _ M14) (SL.cons ((h_90.same hc_93).ok _ M15) (SL.nil _ _)))))))))))))) (fun w_91 hc_93 => ?_)
  have h_92 := h_90.same hc_93
  refine qT rfl rfl (fun wq hS => R.move (v := (vi 0)) rfl) ?_
  refine WT.s (oN rfl ?_)
  refine WL.call Tryz.call26 rfl rfl (c_num12 0 (by omega) _ ) rfl ?_
  rintro _ w_95 ⟨rfl, hc_94⟩
  have h_96 := h_92.same hc_94
  refine WL.nil ?_
  refine ⟨(SL.cons (h_96.ok _ M0) (SL.cons (h_96.ok _ M1) (SL.cons (h_96.ok _ M2) (SL.cons (h_96.ok _ M3) (SL.cons (h_96.ok _ M4) (SL.cons (h_96.ok _ M5) (SL.cons (h_96.ok _ M6) (SL.cons (h_96.ok _ M11) (SL.cons (h_96.ok _ M12) (SL.cons (h_96.ok _ M13) (SL.cons (h_96.ok _ M14) (SL.cons (h_96.ok _ M15) (SL.nil _ _))))))))))))), ?_⟩
  refine qT rfl rfl (fun wq hS => R.bin rfl rfl (bi_neq (r := false) (by decide))) ?_
  refine qT rfl rfl (fun wq hS => R.move (v := (.bool false)) rfl) ?_
  refine WT.q rfl (Wn.yes rfl rfl rfl) rfl rfl (fun wq hS => R.loadA [] [(32, (anD id df n (anU id 0 ([] : Lg) (1, (List.replicate 32 (0 : UInt8)), 1, [val].flatten)) (anL id df n 0 ([] : Lg) (1, (List.replicate 32 (0 : UInt8)), 1, [val].flatten)) (1, (List.replicate 32 (0 : UInt8)), 3, [ms, recB pc rg run].flatten)).map vu8)] [] (cs := (anD id df n (anU id 0 ([] : Lg) (1, (List.replicate 32 (0 : UInt8)), 1, [val].flatten)) (anL id df n 0 ([] : Lg) (1, (List.replicate 32 (0 : UInt8)), 1, [val].flatten)) (1, (List.replicate 32 (0 : UInt8)), 3, [ms, recB pc rg run].flatten)).map vu8) rfl Tryz.isAgg23 Tryz.sizeOf23 (hS _ M0) rfl rfl rfl rfl) ?_
  refine WT.q rfl (Wn.yes rfl rfl rfl) rfl rfl (fun wq hS => R.move (v := (pO b_24 0)) rfl) ?_
  refine WT.q rfl (Wn.yes rfl rfl rfl) rfl rfl (fun wq hS => R.loadA [] [(32, ms.map vu8)] [] (cs := ms.map vu8) rfl Tryz.isAgg23 Tryz.sizeOf23 (hS _ M11) rfl rfl rfl rfl) ?_
  refine WT.q rfl (Wn.yes rfl rfl rfl) rfl rfl (fun wq hS => R.loadA [] [(1, [(vu64 pc)]), (8, rg.map vu64), (1, [(.bool run)])] [] (cs := flat [(1, [(vu64 pc)]), (8, rg.map vu64), (1, [(.bool run)])]) rfl Tryz.isAgg57 Tryz.sizeOf57 (hS _ M8) rfl rfl rfl rfl) ?_
  refine WT.s ?_
  refine Op1.one rfl (Wn.yes rfl rfl rfl) ?_
  have h_100 := (((h_96.up J10).up J10).up J10).up J10
  refine WL.call Tryz.call33 rfl rfl (c_rRec id b_24 ms df hms da0 n cap0 (anU id 0 ([] : Lg) (1, (List.replicate 32 (0 : UInt8)), 1, [val].flatten)) hl la_54 lc_55 lx_56 (anL id df n 0 ([] : Lg) (1, (List.replicate 32 (0 : UInt8)), 1, [val].flatten)) (by first | decide | omega | exact Nat.le_trans (anU_le ..) (by decide) | exact Nat.le_trans (anU_le ..) (Nat.le_trans (Nat.succ_le_succ (anU_le ..)) (by decide)) | exact Nat.le_trans (anU_le ..) (Nat.le_trans (Nat.succ_le_succ (Nat.le_trans (anU_le ..) (Nat.succ_le_succ (anU_le ..)))) (by decide))) (by first | decide | omega | exact Nat.le_trans (anL_le ..) (by decide) | exact Nat.le_trans (anL_le ..) (Nat.le_trans (Nat.succ_le_succ (anL_le ..)) (by decide)) | exact Nat.le_trans (anL_le ..) (Nat.le_trans (Nat.succ_le_succ (Nat.le_trans (anL_le ..) (Nat.succ_le_succ (anL_le ..)))) (by decide))) ms hms pc rg hrg run _ h_100) rfl ?_
  rintro _ w_104 ⟨la_101, lc_102, lx_103, rfl, h_105⟩
  refine WL.nil ?_
  refine ⟨(N4_5_6_7_8_9_10_11_12_13_14_15 h_105.ok), ?_⟩
  refine WT.q rfl (Wn.yes rfl rfl rfl) rfl rfl (fun wq hS => R.neA (xs := (anD id df n (anU id 0 ([] : Lg) (1, (List.replicate 32 (0 : UInt8)), 1, [val].flatten)) (anL id df n 0 ([] : Lg) (1, (List.replicate 32 (0 : UInt8)), 1, [val].flatten)) (1, (List.replicate 32 (0 : UInt8)), 3, [ms, recB pc rg run].flatten)).map vu8) (ys := (anD id df n (anU id 0 ([] : Lg) (1, (List.replicate 32 (0 : UInt8)), 1, [val].flatten)) (anL id df n 0 ([] : Lg) (1, (List.replicate 32 (0 : UInt8)), 1, [val].flatten)) (1, (List.replicate 32 (0 : UInt8)), 3, [ms, recB pc rg run].flatten)).map vu8) (r := false) rfl rfl Tryz.eqGuardType23 kt23 (by decide) ag23 (Typ.u8s Tryz.underlying23 ce23 Tryz.underlying5 ce5 (anD_len hl h32_w_81)) (Typ.u8s Tryz.underlying23 ce23 Tryz.underlying5 ce5 (anD_len hl (anL_32 (dn := n) hl okN))) (neT rfl)) ?_
  refine qT rfl rfl (fun wq hS => R.pickF (v := (.bool false)) rfl rfl) ?_
  refine WT.nil (thn_n ?_)
  refine WP.condF rfl ?_
  refine WP.skip (thn_n (WP.seq ?_))
  refine WP.drawT (SL w.heap.size [.blk b_24 .nw 47 [(1, [(.bool id)]), (32, ms.map vu8), (1, [(.slice da0 n cap0)]), (1, [(vn (anU id (anU id 0 ([] : Lg) (1, (List.replicate 32 (0 : UInt8)), 1, [val].flatten)) (anL id df n 0 ([] : Lg) (1, (List.replicate 32 (0 : UInt8)), 1, [val].flatten)) (1, (List.replicate 32 (0 : UInt8)), 3, [ms, recB pc rg run].flatten)))]), (1, [(.slice la_101 ((anL id df n (anU id 0 ([] : Lg) (1, (List.replicate 32 (0 : UInt8)), 1, [val].flatten)) (anL id df n 0 ([] : Lg) (1, (List.replicate 32 (0 : UInt8)), 1, [val].flatten)) (1, (List.replicate 32 (0 : UInt8)), 3, [ms, recB pc rg run].flatten)).length) lc_102)])], .row la_101 ((anL id df n (anU id 0 ([] : Lg) (1, (List.replicate 32 (0 : UInt8)), 1, [val].flatten)) (anL id df n 0 ([] : Lg) (1, (List.replicate 32 (0 : UInt8)), 1, [val].flatten)) (1, (List.replicate 32 (0 : UInt8)), 3, [ms, recB pc rg run].flatten)).length) lc_102 96 67 lx_103, .pin (sblks lx_103) (fun w => Lgs w lx_103 (anL id df n (anU id 0 ([] : Lg) (1, (List.replicate 32 (0 : UInt8)), 1, [val].flatten)) (anL id df n 0 ([] : Lg) (1, (List.replicate 32 (0 : UInt8)), 1, [val].flatten)) (1, (List.replicate 32 (0 : UInt8)), 3, [ms, recB pc rg run].flatten))), .view da0 (df.map vu8), .blk b_83 .nw 23 [(32, (anD id df n (anU id 0 ([] : Lg) (1, (List.replicate 32 (0 : UInt8)), 1, [val].flatten)) (anL id df n 0 ([] : Lg) (1, (List.replicate 32 (0 : UInt8)), 1, [val].flatten)) (1, (List.replicate 32 (0 : UInt8)), 3, [ms, recB pc rg run].flatten)).map vu8)], .blk b_20 .nw 118 [(1, [(.bool id)]), (32, ms.map vu8), (1, [(.slice a_22 n c_23)]), (1, [(vn (anU id (anU id 0 ([] : Lg) (1, (List.replicate 32 (0 : UInt8)), 1, [val].flatten)) (anL id df n 0 ([] : Lg) (1, (List.replicate 32 (0 : UInt8)), 1, [val].flatten)) (1, (List.replicate 32 (0 : UInt8)), 3, [ms, recB pc rg run].flatten)))]), (1, [(.map (some b_21))]), (1, [(.slice la_78 ((anL id df n (anU id 0 ([] : Lg) (1, (List.replicate 32 (0 : UInt8)), 1, [val].flatten)) (anL id df n 0 ([] : Lg) (1, (List.replicate 32 (0 : UInt8)), 1, [val].flatten)) (1, (List.replicate 32 (0 : UInt8)), 3, [ms, recB pc rg run].flatten)).length) lc_79)])], .row la_78 ((anL id df n (anU id 0 ([] : Lg) (1, (List.replicate 32 (0 : UInt8)), 1, [val].flatten)) (anL id df n 0 ([] : Lg) (1, (List.replicate 32 (0 : UInt8)), 1, [val].flatten)) (1, (List.replicate 32 (0 : UInt8)), 3, [ms, recB pc rg run].flatten)).length) lc_79 96 67 lx_80, .obj b_21 .nw (.map (mArr (anL id df n (anU id 0 ([] : Lg) (1, (List.replicate 32 (0 : UInt8)), 1, [val].flatten)) (anL id df n 0 ([] : Lg) (1, (List.replicate 32 (0 : UInt8)), 1, [val].flatten)) (1, (List.replicate 32 (0 : UInt8)), 3, [ms, recB pc rg run].flatten))) ((anL id df n (anU id 0 ([] : Lg) (1, (List.replicate 32 (0 : UInt8)), 1, [val].flatten)) (anL id df n 0 ([] : Lg) (1, (List.replicate 32 (0 : UInt8)), 1, [val].flatten)) (1, (List.replicate 32 (0 : UInt8)), 3, [ms, recB pc rg run].flatten)).length)), .pin (sblks lx_80) (fun w => Lgs w lx_80 (anL id df n (anU id 0 ([] : Lg) (1, (List.replicate 32 (0 : UInt8)), 1, [val].flatten)) (anL id df n 0 ([] : Lg) (1, (List.replicate 32 (0 : UInt8)), 1, [val].flatten)) (1, (List.replicate 32 (0 : UInt8)), 3, [ms, recB pc rg run].flatten))), .view a_22 (df.map vu8), .blk b_62 .nw 23 [(32, (List.replicate 32 (0 : UInt8)).map vu8)], .blk b_39 .nw 23 [(32, (anD id df n 0 ([] : Lg) (1, (List.replicate 32 (0 : UInt8)), 1, [val].flatten)).map vu8)], .blk b_10 .nw 57 [(1, [(vu64 pc)]), (8, rg.map vu64), (1, [(.bool run)])], .blk b_7 .nw 54 [(32, val.map vu8), (1, [(vu64 sz)])], .blk b_4 .nw 29 [(128, gr.map vu8)], .blk b_1 .nw 23 [(32, ms.map vu8)]]) (.q 0 (.q 2 (.q 3 (.q 4 (.q 5 (.s 1 (.s 6 (.q 7 (.s 8 (.q 9 (.q 10 .nil))))))))))) (by kernel_rfl) (by kernel_rfl) rfl (by kernel_rfl) (fun w_106 hc_108 => (SL.cons ((h_105.same hc_108).ok _ M0) (SL.cons ((h_105.same hc_108).ok _ M1) (SL.cons ((h_105.same hc_108).ok _ M2) (SL.cons ((h_105.same hc_108).ok _ M3) (SL.cons ((h_105.same hc_108).ok _ M4) (SL.cons ((h_105.same hc_108).ok _ M5) (SL.cons ((h_105.same hc_108).ok _ M6) (SL.cons ((h_105.same hc_108).ok _ M7) (SL.cons ((h_105.same hc_108).ok _ M8) (SL.cons ((h_105.same hc_108).ok _ M9) (SL.cons ((h_105.same hc_108).ok _ M10) (SL.cons ((h_105.same hc_108).ok _ M11) (SL.cons ((h_105.same hc_108).ok _ M12) (SL.cons ((h_105.same hc_108).ok _ M13) (SL.cons ((h_105.same hc_108).ok _ M14) (SL.cons ((h_105.same hc_108).ok _ M15) (SL.nil _ _)))))))))))))))))) (fun w_106 hc_108 => ?_)
  have h_107 := h_105.same hc_108
  refine qT rfl rfl (fun wq hS => R.move (v := (pO b_20 0)) rfl) ?_
  refine qT rfl rfl (fun wq hS => R.move (v := (pO b_24 0)) rfl) ?_
  refine qT rfl rfl (fun wq hS => R.nilCheck rfl) ?_
  refine qT rfl rfl (fun wq hS => R.fieldAddr (off' := 35) rfl Tryz.underlying47 rfl Tryz.sizeOf44 rfl rfl) ?_
  refine qT rfl rfl (fun wq hS => R.load1 rfl Tryz.isAgg44 (hS _ M0) (Sg.t rfl (Sg.t rfl (Sg.t rfl (Sg.t rfl Sg.h))))) ?_
  refine WT.s (oN rfl ?_)
  have h_113 := ((((h_107.up J9).up J9).up J9).up J9).up J9
  refine WL.call Tryz.call19 rfl rfl (c_oLog id b_20 b_21 ms df hms a_22 n c_23 (anU id (anU id 0 ([] : Lg) (1, (List.replicate 32 (0 : UInt8)), 1, [val].flatten)) (anL id df n 0 ([] : Lg) (1, (List.replicate 32 (0 : UInt8)), 1, [val].flatten)) (1, (List.replicate 32 (0 : UInt8)), 3, [ms, recB pc rg run].flatten)) hl la_78 lc_79 lx_80 (anL id df n (anU id 0 ([] : Lg) (1, (List.replicate 32 (0 : UInt8)), 1, [val].flatten)) (anL id df n 0 ([] : Lg) (1, (List.replicate 32 (0 : UInt8)), 1, [val].flatten)) (1, (List.replicate 32 (0 : UInt8)), 3, [ms, recB pc rg run].flatten)) (by first | decide | omega | exact Nat.le_trans (anU_le ..) (by decide) | exact Nat.le_trans (anU_le ..) (Nat.le_trans (Nat.succ_le_succ (anU_le ..)) (by decide)) | exact Nat.le_trans (anU_le ..) (Nat.le_trans (Nat.succ_le_succ (Nat.le_trans (anU_le ..) (Nat.succ_le_succ (anU_le ..)))) (by decide))) (by first | decide | omega | exact Nat.le_trans (anL_le ..) (by decide) | exact Nat.le_trans (anL_le ..) (Nat.le_trans (Nat.succ_le_succ (anL_le ..)) (by decide)) | exact Nat.le_trans (anL_le ..) (Nat.le_trans (Nat.succ_le_succ (Nat.le_trans (anL_le ..) (Nat.succ_le_succ (anL_le ..)))) (by decide))) _ h_113) rfl ?_
  rintro _ w_117 ⟨a_114, c_115, ys_116, rfl, h_118⟩
  refine WL.nil ?_
  refine ⟨(N7_8_9_10_11_2_3_4_5_6_12_13_14_15_16_17 h_118.ok), ?_⟩
  refine WT.s (oN rfl ?_)
  refine WL.call Tryz.call18 rfl rfl (c_rSameLog a_114 ((anL id df n (anU id 0 ([] : Lg) (1, (List.replicate 32 (0 : UInt8)), 1, [val].flatten)) (anL id df n 0 ([] : Lg) (1, (List.replicate 32 (0 : UInt8)), 1, [val].flatten)) (1, (List.replicate 32 (0 : UInt8)), 3, [ms, recB pc rg run].flatten)).length) c_115 ys_116 (anL id df n (anU id 0 ([] : Lg) (1, (List.replicate 32 (0 : UInt8)), 1, [val].flatten)) (anL id df n 0 ([] : Lg) (1, (List.replicate 32 (0 : UInt8)), 1, [val].flatten)) (1, (List.replicate 32 (0 : UInt8)), 3, [ms, recB pc rg run].flatten)) rfl (by first | decide | exact Nat.le_trans (anL_le ..) (by decide) | exact Nat.le_trans (anL_le ..) (Nat.le_trans (Nat.succ_le_succ (anL_le ..)) (by decide)) | exact Nat.le_trans (anL_le ..) (Nat.le_trans (Nat.succ_le_succ (Nat.le_trans (anL_le ..) (Nat.succ_le_succ (anL_le ..)))) (by decide))) la_101 lc_102 lx_103 _ (ownView (h_118.ok _ M0)) (h_118.ok _ M1).1 (ownView (h_118.ok _ M8)) (h_118.ok _ M9).1) rfl ?_
  rintro _ w_120 ⟨rfl, hc_119⟩
  have h_121 := h_118.same hc_119
  refine WL.nil ?_
  refine ⟨(N7_8_9_10_11_2_3_4_5_6_12_13_14_15_16_17 h_121.ok), ?_⟩
  refine qT rfl rfl (fun wq hS => R.move (v := (.bool true)) (rfl)) ?_
  refine WT.s ?_
  refine Op1.one rfl (Wn.yes rfl rfl rfl) ?_
  refine WL.call Tryz.call23 rfl rfl (c_known12  _ ) rfl ?_
  rintro _ w_123 ⟨rfl, hc_122⟩
  have h_124 := h_121.same hc_122
  refine WL.nil ?_
  refine ⟨(N7_8_9_10_11_2_3_4_5_6_12_13_14_15_16_17 h_124.ok), ?_⟩
  refine qT rfl rfl (fun wq hS => R.pickT (v := (.bool true)) rfl rfl) ?_
  refine qT rfl rfl (fun wq hS => R.assign (v := (.bool true)) rfl) ?_
  refine WT.nil (thn_n (WP.ret ?_))
  refine ret_of Tryz.results5 (RV.tmp (v := (.bool true)) rfl RV.nil) ?_
  exact ⟨rfl, h_124.chgS⟩

theorem w_MS_ff (id : Bool) (ms df : List UInt8) (hms : ms.length = 32) (da0 : Option Addr) (n cap0 : Nat) (hl : df.length = 32 * n) (gr : List UInt8) (hgr : gr.length = 128) (val : List UInt8) (hvl : val.length = 32) (sz : UInt64) (pc : UInt64) (rg : List UInt64) (hrg : rg.length = 8) (run : Bool) (pg : Int) (hpg : ¬ (0 ≤ pg ∧ pg < 128)) (hrc : decide (pc % 8 = 0) = false) (w : World) (hv : View w da0 (df.map vu8)) :
  Cs Tryz.prog 5 [(.bool id), (.slice da0 n cap0), (.agg ⟨ms.map vu8⟩), (vi pg), (.agg ⟨gr.map vu8⟩), (.agg ⟨flat [(32, val.map vu8), (1, [(vu64 sz)])]⟩), (.agg ⟨flat [(1, [(vu64 pc)]), (8, rg.map vu64), (1, [(.bool run)])]⟩)].toArray w (fun v w1 => v = (.bool true) ∧ Chg w w1 []) := by
 refine Cs.of (n := 119) (args := [(.bool id), (.slice da0 n cap0), (.agg ⟨ms.map vu8⟩), (vi pg), (.agg ⟨gr.map vu8⟩), (.agg ⟨flat [(32, val.map vu8), (1, [(vu64 sz)])]⟩), (.agg ⟨flat [(1, [(vu64 pc)]), (8, rg.map vu64), (1, [(.bool run)])]⟩)]) Tryz.func5 rfl rfl rfl ?_
 have h_0 := HP.init w
 have h_00 := h_0.old (View.arg hv) (fun f hf => by cases hf)
 refine WP.seq (WP.reg ?_)
 refine WL.box (v := (.agg ⟨ms.map vu8⟩)) (segs := [(32, ms.map vu8)]) h_00 rfl rfl (SsOk.cons (SOk.u8 hms) SsOk.nil) rfl (fun b_1 w_2 h_3 => ?_)
 refine WL.box (v := (.agg ⟨gr.map vu8⟩)) (segs := [(128, gr.map vu8)]) h_3 rfl rfl (SsOk.cons (SOk.u8 hgr) SsOk.nil) rfl (fun b_4 w_5 h_6 => ?_)
 refine WL.box (v := (.agg ⟨flat [(32, val.map vu8), (1, [(vu64 sz)])]⟩)) (segs := [(32, val.map vu8), (1, [(vu64 sz)])]) h_6 rfl rfl (SsOk.cons (SOk.u8 hvl) (SsOk.cons (SOk.v rfl) SsOk.nil)) rfl (fun b_7 w_8 h_9 => ?_)
 refine WL.box (v := (.agg ⟨flat [(1, [(vu64 pc)]), (8, rg.map vu64), (1, [(.bool run)])]⟩)) (segs := [(1, [(vu64 pc)]), (8, rg.map vu64), (1, [(.bool run)])]) h_9 rfl rfl (SsOk.cons (SOk.v rfl) (SsOk.cons (SOk.u64 hrg) (SsOk.cons (SOk.v rfl) SsOk.nil))) rfl (fun b_10 w_11 h_12 => ?_)
 refine qA (.bool false) rfl rfl ?_
 refine WL.nil (thn_n (WP.seq (WP.seq (WP.reg ?_))))
 refine qM (.slice da0 n cap0) rfl rfl (qV rfl (R.lenS (a := da0) (m := n) rfl rfl Tryz.underlying24) (qV rfl (R.bin rfl rfl (bi_gtr (r := decide ((((n : Nat) : Int) : Int) > 60)) rfl)) ?_))
 refine WL.nil (thn_n ?_)
 refine WP.cond (b := decide ((((n : Nat) : Int) : Int) > 60)) rfl (fun c_13 => ?_) (fun c_13 => ?_)
 ·have p_14 := of_decide_eq_true c_13
  refine WP.seq (WP.reg ?_)
  refine WL.call Tryz.call23 rfl rfl (c_known12  _ ) rfl ?_
  rintro _ w_16 ⟨rfl, hc_15⟩
  have h_17 := h_12.same hc_15
  refine qA (.bool true) rfl rfl ?_
  refine WL.nil (thn_n (WP.ret (thn_r ?_)))
  refine ret_of Tryz.results5 (RV.tmp (v := (.bool true)) rfl RV.nil) ?_
  exact ⟨rfl, h_17.chgS⟩
 ·have p_18 := of_decide_eq_false c_13
  refine WP.skip (thn_n (WP.seq (WP.reg ?_)))
  refine qM (.bool id) rfl rfl (qV rfl (R.loadA [] [(32, ms.map vu8)] [] (cs := ms.map vu8) rfl Tryz.isAgg23 Tryz.sizeOf23 (h_12.ok _ M3) rfl rfl rfl rfl) (qM (.slice da0 n cap0) rfl rfl ?_))
  have h_19 := h_12.up J4
  refine WL.call Tryz.call24 rfl rfl (c_both12 id ms df hms da0 n cap0 hl (by omega) _ h_19) rfl ?_
  rintro _ w_25 ⟨b_20, b_21, a_22, c_23, b_24, rfl, h_26⟩
  have h_27 := h_26.rowNil 96 67
  have h_28 := HP_logNil h_27
  refine qM (.tuple [(pO b_20 0), (pO b_24 0)].toArray) rfl rfl (qV rfl (R.extract rfl rfl) (qV rfl (R.extract rfl rfl) (qA (pO b_20 0) rfl rfl (qA (pO b_24 0) rfl rfl ?_))))
  refine WL.nil (thn_n (WP.seq (WP.reg ?_)))
  refine qM (pO b_20 0) rfl rfl (qV rfl (R.loadA [] [(32, val.map vu8), (1, [(vu64 sz)])] [] (cs := flat [(32, val.map vu8), (1, [(vu64 sz)])]) rfl Tryz.isAgg54 Tryz.sizeOf54 (h_28.ok _ M10) rfl rfl rfl rfl) ?_)
  have h_33 := ((((h_28.up J6).up J1).up J5).up J3).up J4
  have h32_w_37 := Lgs.ok32 (h_33.ok _ M3).1
  refine WL.call Tryz.call25 rfl rfl (c_Begin id b_20 b_21 ms df hms a_22 n c_23 0 hl none 0 [] ([] : Lg) (by first | decide | omega | exact Nat.le_trans (anU_le ..) (by decide) | exact Nat.le_trans (anU_le ..) (Nat.le_trans (Nat.succ_le_succ (anU_le ..)) (by decide)) | exact Nat.le_trans (anU_le ..) (Nat.le_trans (Nat.succ_le_succ (Nat.le_trans (anU_le ..) (Nat.succ_le_succ (anU_le ..)))) (by decide))) (by first | decide | omega | exact Nat.le_trans (anL_le ..) (by decide) | exact Nat.le_trans (anL_le ..) (Nat.le_trans (Nat.succ_le_succ (anL_le ..)) (by decide)) | exact Nat.le_trans (anL_le ..) (Nat.le_trans (Nat.succ_le_succ (Nat.le_trans (anL_le ..) (Nat.succ_le_succ (anL_le ..)))) (by decide))) val hvl sz _ h_33) rfl ?_
  rintro _ w_37 ⟨la_34, lc_35, lx_36, rfl, h_38⟩
  refine qM (.tuple [(.agg ⟨(anD id df n 0 ([] : Lg) (1, (List.replicate 32 (0 : UInt8)), 1, [val].flatten)).map vu8⟩), (vi 0)].toArray) rfl rfl (qV rfl (R.extract rfl rfl) (qV rfl (R.extract rfl rfl) ?_))
  refine WL.alloc (segs := [(32, (List.replicate 32 (0 : UInt8)).map vu8)]) h_38 (zv Tryz.typeInfo23 rfl) rfl (SsOk.cons (SOk.u8 lr) SsOk.nil) rfl (fun b_39 w_40 h_41 => ?_)
  refine WL.storeA (b := b_39) (off := 0) [] [(32, (List.replicate 32 (0 : UInt8)).map vu8)] [(32, (anD id df n 0 ([] : Lg) (1, (List.replicate 32 (0 : UInt8)), 1, [val].flatten)).map vu8)] [] (ys := (anD id df n 0 ([] : Lg) (1, (List.replicate 32 (0 : UInt8)), 1, [val].flatten)).map vu8) h_41 rfl rfl Tryz.sizeOf23 At.h (by decide) rfl rfl rfl rfl rfl rfl (SsOk.cons (SOk.u8 (anD_len hl h32_w_37)) SsOk.nil) (fun w_42 h_43 => ?_)
  refine qA (vi 0) rfl rfl ?_
  refine WL.nil (thn_n (WP.seq (WP.seq ?_)))
  refine WP.drawT (SL w.heap.size [.blk b_39 .nw 23 [(32, (anD id df n 0 ([] : Lg) (1, (List.replicate 32 (0 : UInt8)), 1, [val].flatten)).map vu8)], .blk b_20 .nw 118 [(1, [(.bool id)]), (32, ms.map vu8), (1, [(.slice a_22 n c_23)]), (1, [(vn (anU id 0 ([] : Lg) (1, (List.replicate 32 (0 : UInt8)), 1, [val].flatten)))]), (1, [(.map (some b_21))]), (1, [(.slice la_34 ((anL id df n 0 ([] : Lg) (1, (List.replicate 32 (0 : UInt8)), 1, [val].flatten)).length) lc_35)])], .row la_34 ((anL id df n 0 ([] : Lg) (1, (List.replicate 32 (0 : UInt8)), 1, [val].flatten)).length) lc_35 96 67 lx_36, .obj b_21 .nw (.map (mArr (anL id df n 0 ([] : Lg) (1, (List.replicate 32 (0 : UInt8)), 1, [val].flatten))) ((anL id df n 0 ([] : Lg) (1, (List.replicate 32 (0 : UInt8)), 1, [val].flatten)).length)), .pin (sblks lx_36) (fun w => Lgs w lx_36 (anL id df n 0 ([] : Lg) (1, (List.replicate 32 (0 : UInt8)), 1, [val].flatten))), .view a_22 (df.map vu8), .blk b_10 .nw 57 [(1, [(vu64 pc)]), (8, rg.map vu64), (1, [(.bool run)])], .blk b_7 .nw 54 [(32, val.map vu8), (1, [(vu64 sz)])], .blk b_4 .nw 29 [(128, gr.map vu8)], .blk b_1 .nw 23 [(32, ms.map vu8)]]) (.q 0 (.s 1 (.q 2 (.q 3 (.q 4 (.q 5 (.q 6 (.q 7 (.s 8 (.q 9 (.q 10 .nil))))))))))) (by kernel_rfl) (by kernel_rfl) rfl (by kernel_rfl) (fun w_44 hc_46 => (SL.cons ((h_43.same hc_46).ok _ M0) (SL.cons ((h_43.same hc_46).ok _ M1) (SL.cons ((h_43.same hc_46).ok _ M2) (SL.cons ((h_43.same hc_46).ok _ M3) (SL.cons ((h_43.same hc_46).ok _ M4) (SL.cons ((h_43.same hc_46).ok _ M5) (SL.cons ((h_43.same hc_46).ok _ M10) (SL.cons ((h_43.same hc_46).ok _ M11) (SL.cons ((h_43.same hc_46).ok _ M12) (SL.cons ((h_43.same hc_46).ok _ M13) (SL.nil _ _)))))))))))) (fun w_44 hc_46 => ?_)
  have h_45 := h_43.same hc_46
  refine qT rfl rfl (fun wq hS => R.move (v := (vi 0)) rfl) ?_
  refine WT.s (oN rfl ?_)
  refine WL.call Tryz.call26 rfl rfl (c_num12 0 (by omega) _ ) rfl ?_
  rintro _ w_48 ⟨rfl, hc_47⟩
  have h_49 := h_45.same hc_47
  refine WL.nil ?_
  refine ⟨(N0_1_2_3_4_5_10_11_12_13 h_49.ok), ?_⟩
  refine qT rfl rfl (fun wq hS => R.bin rfl rfl (bi_neq (r := false) (by decide))) ?_
  refine qT rfl rfl (fun wq hS => R.move (v := (.bool false)) rfl) ?_
  refine WT.q rfl (Wn.yes rfl rfl rfl) rfl rfl (fun wq hS => R.loadA [] [(32, (anD id df n 0 ([] : Lg) (1, (List.replicate 32 (0 : UInt8)), 1, [val].flatten)).map vu8)] [] (cs := (anD id df n 0 ([] : Lg) (1, (List.replicate 32 (0 : UInt8)), 1, [val].flatten)).map vu8) rfl Tryz.isAgg23 Tryz.sizeOf23 (hS _ M0) rfl rfl rfl rfl) ?_
  refine WT.q rfl (Wn.yes rfl rfl rfl) rfl rfl (fun wq hS => R.move (v := (pO b_24 0)) rfl) ?_
  refine WT.q rfl (Wn.yes rfl rfl rfl) rfl rfl (fun wq hS => R.fieldAddr (off' := 0) rfl Tryz.underlying54 rfl Tryz.sizeOf23 rfl rfl) ?_
  refine WT.q rfl (Wn.yes rfl rfl rfl) rfl rfl (fun wq hS => R.loadA [] [(32, val.map vu8)] [(1, [(vu64 sz)])] (cs := val.map vu8) rfl Tryz.isAgg23 Tryz.sizeOf23 (hS _ M7) rfl rfl rfl rfl) ?_
  refine WT.s ?_
  refine Op1.one rfl (Wn.yes rfl rfl rfl) ?_
  have h_53 := (((h_49.up J9).up J8).up J8).up J9
  refine WL.call Tryz.call27 rfl rfl (c_rBegin id b_24 ms df hms da0 n cap0 0 hl none 0 [] ([] : Lg) (by first | decide | omega | exact Nat.le_trans (anU_le ..) (by decide) | exact Nat.le_trans (anU_le ..) (Nat.le_trans (Nat.succ_le_succ (anU_le ..)) (by decide)) | exact Nat.le_trans (anU_le ..) (Nat.le_trans (Nat.succ_le_succ (Nat.le_trans (anU_le ..) (Nat.succ_le_succ (anU_le ..)))) (by decide))) (by first | decide | omega | exact Nat.le_trans (anL_le ..) (by decide) | exact Nat.le_trans (anL_le ..) (Nat.le_trans (Nat.succ_le_succ (anL_le ..)) (by decide)) | exact Nat.le_trans (anL_le ..) (Nat.le_trans (Nat.succ_le_succ (Nat.le_trans (anL_le ..) (Nat.succ_le_succ (anL_le ..)))) (by decide))) val hvl _ h_53) rfl ?_
  rintro _ w_57 ⟨la_54, lc_55, lx_56, rfl, h_58⟩
  refine WL.nil ?_
  refine ⟨(N4_5_6_7_8_9_10_11_12_13 h_58.ok), ?_⟩
  refine WT.q rfl (Wn.yes rfl rfl rfl) rfl rfl (fun wq hS => R.neA (xs := (anD id df n 0 ([] : Lg) (1, (List.replicate 32 (0 : UInt8)), 1, [val].flatten)).map vu8) (ys := (anD id df n 0 ([] : Lg) (1, (List.replicate 32 (0 : UInt8)), 1, [val].flatten)).map vu8) (r := false) rfl rfl Tryz.eqGuardType23 kt23 (by decide) ag23 (Typ.u8s Tryz.underlying23 ce23 Tryz.underlying5 ce5 (anD_len hl h32_w_37)) (Typ.u8s Tryz.underlying23 ce23 Tryz.underlying5 ce5 (anD_len hl okN)) (neT rfl)) ?_
  refine qT rfl rfl (fun wq hS => R.pickF (v := (.bool false)) rfl rfl) ?_
  refine WT.nil (thn_n ?_)
  refine WP.condF rfl ?_
  refine WP.skip (thn_n (WP.seq (WP.reg ?_)))
  refine qM (pO b_20 0) rfl rfl (qV rfl (R.loadA [] [(32, ms.map vu8)] [] (cs := ms.map vu8) rfl Tryz.isAgg23 Tryz.sizeOf23 (h_58.ok _ M13) rfl rfl rfl rfl) (qM (vi pg) rfl rfl (qV rfl (R.loadA [] [(128, gr.map vu8)] [] (cs := gr.map vu8) rfl Tryz.isAgg29 Tryz.sizeOf29 (h_58.ok _ M12) rfl rfl rfl rfl) ?_)))
  refine WL.call Tryz.call28 rfl rfl (c_Data_no id b_20 b_21 ms hms a_22 n c_23 (anU id 0 ([] : Lg) (1, (List.replicate 32 (0 : UInt8)), 1, [val].flatten)) la_34 ((anL id df n 0 ([] : Lg) (1, (List.replicate 32 (0 : UInt8)), 1, [val].flatten)).length) lc_35 ms gr hms hgr pg hpg _ (h_58.argR M5)) rfl ?_
  rintro _ w_60 ⟨rfl, hc_59⟩
  have h_61 := h_58.same hc_59
  refine qM (.tuple [(.agg ⟨(List.replicate 32 (0 : UInt8)).map vu8⟩), (vi 2)].toArray) rfl rfl (qV rfl (R.extract rfl rfl) (qV rfl (R.extract rfl rfl) ?_))
  refine WL.alloc (segs := [(32, (List.replicate 32 (0 : UInt8)).map vu8)]) h_61 (zv Tryz.typeInfo23 rfl) rfl (SsOk.cons (SOk.u8 lr) SsOk.nil) rfl (fun b_62 w_63 h_64 => ?_)
  refine WL.storeA (b := b_62) (off := 0) [] [(32, (List.replicate 32 (0 : UInt8)).map vu8)] [(32, (List.replicate 32 (0 : UInt8)).map vu8)] [] (ys := (List.replicate 32 (0 : UInt8)).map vu8) h_64 rfl rfl Tryz.sizeOf23 At.h (by decide) rfl rfl rfl rfl rfl rfl (SsOk.cons (SOk.u8 lr) SsOk.nil) (fun w_65 h_66 => ?_)
  refine qA (vi 2) rfl rfl ?_
  refine WL.nil (thn_n (WP.seq (WP.seq (WP.reg ?_))))
  refine qM (vi pg) rfl rfl ?_
  refine WL.call Tryz.call29 rfl rfl (c_mayP12_f pg hpg _ ) rfl ?_
  rintro _ w_68 ⟨rfl, hc_67⟩
  have h_69 := h_66.same hc_67
  refine WL.nil (thn_n ?_)
  refine WP.condF rfl ?_
  refine WP.seq (WP.reg ?_)
  refine qM (vi 2) rfl rfl ?_
  refine WL.call Tryz.call26 rfl rfl (c_num12 2 (by omega) _ ) rfl ?_
  rintro _ w_71 ⟨rfl, hc_70⟩
  have h_72 := h_69.same hc_70
  refine qV rfl (R.bin rfl rfl (bi_neq (r := false) (by decide))) (qM (.bool false) rfl rfl ?_)
  refine WL.want rfl rfl ?_
  refine qV rfl (R.loadA [] [(32, (List.replicate 32 (0 : UInt8)).map vu8)] [] (cs := (List.replicate 32 (0 : UInt8)).map vu8) rfl Tryz.isAgg23 Tryz.sizeOf23 (h_72.ok _ M0) rfl rfl rfl rfl) ?_
  refine WL.want rfl rfl ?_
  refine qV rfl (R.buildA (vs := []) (cs := (List.replicate 32 (0 : UInt8)).map vu8) Tryz.underlying23 Tryz.sizeOf5 (zv Tryz.typeInfo23 rfl) rfl rfl) ?_
  refine WL.want rfl rfl ?_
  refine qV rfl (R.neA (xs := (List.replicate 32 (0 : UInt8)).map vu8) (ys := (List.replicate 32 (0 : UInt8)).map vu8) (r := false) rfl rfl Tryz.eqGuardType23 kt23 (by decide) ag23 (Typ.u8s Tryz.underlying23 ce23 Tryz.underlying5 ce5 lr) (Typ.u8s Tryz.underlying23 ce23 Tryz.underlying5 ce5 lr) (neT rfl)) (qV rfl (R.pickF (v := (.bool false)) rfl rfl) ?_)
  refine WL.nil (thn_n ?_)
  refine WP.condF rfl ?_
  refine WP.skip (thn_n (WP.seq (WP.reg ?_)))
  refine qM (pO b_20 0) rfl rfl (qV rfl (R.loadA [] [(32, ms.map vu8)] [] (cs := ms.map vu8) rfl Tryz.isAgg23 Tryz.sizeOf23 (h_72.ok _ M14) rfl rfl rfl rfl) (qV rfl (R.loadA [] [(1, [(vu64 pc)]), (8, rg.map vu64), (1, [(.bool run)])] [] (cs := flat [(1, [(vu64 pc)]), (8, rg.map vu64), (1, [(.bool run)])]) rfl Tryz.isAgg57 Tryz.sizeOf57 (h_72.ok _ M11) rfl rfl rfl rfl) ?_))
  refine WL.call Tryz.call31 rfl rfl (c_Rec_no id b_20 b_21 ms hms a_22 n c_23 (anU id 0 ([] : Lg) (1, (List.replicate 32 (0 : UInt8)), 1, [val].flatten)) la_34 ((anL id df n 0 ([] : Lg) (1, (List.replicate 32 (0 : UInt8)), 1, [val].flatten)).length) lc_35 ms hms pc rg hrg run hrc _ (h_72.argR M6)) rfl ?_
  rintro _ w_74 ⟨rfl, hc_73⟩
  have h_75 := h_72.same hc_73
  refine qM (.tuple [(.agg ⟨(List.replicate 32 (0 : UInt8)).map vu8⟩), (vi 2)].toArray) rfl rfl (qV rfl (R.extract rfl rfl) (qV rfl (R.extract rfl rfl) ?_))
  refine WL.alloc (segs := [(32, (List.replicate 32 (0 : UInt8)).map vu8)]) h_75 (zv Tryz.typeInfo23 rfl) rfl (SsOk.cons (SOk.u8 lr) SsOk.nil) rfl (fun b_76 w_77 h_78 => ?_)
  refine WL.storeA (b := b_76) (off := 0) [] [(32, (List.replicate 32 (0 : UInt8)).map vu8)] [(32, (List.replicate 32 (0 : UInt8)).map vu8)] [] (ys := (List.replicate 32 (0 : UInt8)).map vu8) h_78 rfl rfl Tryz.sizeOf23 At.h (by decide) rfl rfl rfl rfl rfl rfl (SsOk.cons (SOk.u8 lr) SsOk.nil) (fun w_79 h_80 => ?_)
  refine qA (vi 2) rfl rfl ?_
  refine WL.nil (thn_n (WP.seq (WP.seq (WP.reg ?_))))
  refine qV rfl (R.loadA [] [(1, [(vu64 pc)]), (8, rg.map vu64), (1, [(.bool run)])] [] (cs := flat [(1, [(vu64 pc)]), (8, rg.map vu64), (1, [(.bool run)])]) rfl Tryz.isAgg57 Tryz.sizeOf57 (h_80.ok _ M12) rfl rfl rfl rfl) ?_
  refine WL.call Tryz.call32 rfl rfl (c_MayRecR pc rg hrg run _ ) rfl ?_
  rintro _ w_82 ⟨rfl, hc_81⟩
  have h_83 := h_80.same hc_81
  refine WL.nil (thn_n ?_)
  refine WP.condF (congrArg Value.bool hrc) ?_
  refine WP.seq (WP.reg ?_)
  refine qM (vi 2) rfl rfl ?_
  refine WL.call Tryz.call26 rfl rfl (c_num12 2 (by omega) _ ) rfl ?_
  rintro _ w_85 ⟨rfl, hc_84⟩
  have h_86 := h_83.same hc_84
  refine qV rfl (R.bin rfl rfl (bi_neq (r := false) (by decide))) (qM (.bool false) rfl rfl ?_)
  refine WL.want rfl rfl ?_
  refine qV rfl (R.loadA [] [(32, (List.replicate 32 (0 : UInt8)).map vu8)] [] (cs := (List.replicate 32 (0 : UInt8)).map vu8) rfl Tryz.isAgg23 Tryz.sizeOf23 (h_86.ok _ M0) rfl rfl rfl rfl) ?_
  refine WL.want rfl rfl ?_
  refine qV rfl (R.buildA (vs := []) (cs := (List.replicate 32 (0 : UInt8)).map vu8) Tryz.underlying23 Tryz.sizeOf5 (zv Tryz.typeInfo23 rfl) rfl rfl) ?_
  refine WL.want rfl rfl ?_
  refine qV rfl (R.neA (xs := (List.replicate 32 (0 : UInt8)).map vu8) (ys := (List.replicate 32 (0 : UInt8)).map vu8) (r := false) rfl rfl Tryz.eqGuardType23 kt23 (by decide) ag23 (Typ.u8s Tryz.underlying23 ce23 Tryz.underlying5 ce5 lr) (Typ.u8s Tryz.underlying23 ce23 Tryz.underlying5 ce5 lr) (neT rfl)) (qV rfl (R.pickF (v := (.bool false)) rfl rfl) ?_)
  refine WL.nil (thn_n ?_)
  refine WP.condF rfl ?_
  refine WP.skip (thn_n (WP.seq ?_))
  refine WP.drawT (SL w.heap.size [.blk b_76 .nw 23 [(32, (List.replicate 32 (0 : UInt8)).map vu8)], .blk b_62 .nw 23 [(32, (List.replicate 32 (0 : UInt8)).map vu8)], .blk b_24 .nw 47 [(1, [(.bool id)]), (32, ms.map vu8), (1, [(.slice da0 n cap0)]), (1, [(vn (anU id 0 ([] : Lg) (1, (List.replicate 32 (0 : UInt8)), 1, [val].flatten)))]), (1, [(.slice la_54 ((anL id df n 0 ([] : Lg) (1, (List.replicate 32 (0 : UInt8)), 1, [val].flatten)).length) lc_55)])], .row la_54 ((anL id df n 0 ([] : Lg) (1, (List.replicate 32 (0 : UInt8)), 1, [val].flatten)).length) lc_55 96 67 lx_56, .pin (sblks lx_56) (fun w => Lgs w lx_56 (anL id df n 0 ([] : Lg) (1, (List.replicate 32 (0 : UInt8)), 1, [val].flatten))), .view da0 (df.map vu8), .blk b_39 .nw 23 [(32, (anD id df n 0 ([] : Lg) (1, (List.replicate 32 (0 : UInt8)), 1, [val].flatten)).map vu8)], .blk b_20 .nw 118 [(1, [(.bool id)]), (32, ms.map vu8), (1, [(.slice a_22 n c_23)]), (1, [(vn (anU id 0 ([] : Lg) (1, (List.replicate 32 (0 : UInt8)), 1, [val].flatten)))]), (1, [(.map (some b_21))]), (1, [(.slice la_34 ((anL id df n 0 ([] : Lg) (1, (List.replicate 32 (0 : UInt8)), 1, [val].flatten)).length) lc_35)])], .row la_34 ((anL id df n 0 ([] : Lg) (1, (List.replicate 32 (0 : UInt8)), 1, [val].flatten)).length) lc_35 96 67 lx_36, .obj b_21 .nw (.map (mArr (anL id df n 0 ([] : Lg) (1, (List.replicate 32 (0 : UInt8)), 1, [val].flatten))) ((anL id df n 0 ([] : Lg) (1, (List.replicate 32 (0 : UInt8)), 1, [val].flatten)).length)), .pin (sblks lx_36) (fun w => Lgs w lx_36 (anL id df n 0 ([] : Lg) (1, (List.replicate 32 (0 : UInt8)), 1, [val].flatten))), .view a_22 (df.map vu8), .blk b_10 .nw 57 [(1, [(vu64 pc)]), (8, rg.map vu64), (1, [(.bool run)])], .blk b_7 .nw 54 [(32, val.map vu8), (1, [(vu64 sz)])], .blk b_4 .nw 29 [(128, gr.map vu8)], .blk b_1 .nw 23 [(32, ms.map vu8)]]) (.q 0 (.q 2 (.q 3 (.q 4 (.q 5 (.s 1 (.s 6 (.q 7 (.s 8 (.q 9 (.q 10 .nil))))))))))) (by kernel_rfl) (by kernel_rfl) rfl (by kernel_rfl) (fun w_87 hc_89 => (SL.cons ((h_86.same hc_89).ok _ M0) (SL.cons ((h_86.same hc_89).ok _ M1) (SL.cons ((h_86.same hc_89).ok _ M2) (SL.cons ((h_86.same hc_89).ok _ M3) (SL.cons ((h_86.same hc_89).ok _ M4) (SL.cons ((h_86.same hc_89).ok _ M5) (SL.cons ((h_86.same hc_89).ok _ M6) (SL.cons ((h_86.same hc_89).ok _ M7) (SL.cons ((h_86.same hc_89).ok _ M8) (SL.cons ((h_86.same hc_89).ok _ M9) (SL.cons ((h_86.same hc_89).ok _ M10) (SL.cons ((h_86.same hc_89).ok _ M11) (SL.cons ((h_86.same hc_89).ok _ M12) (SL.cons ((h_86.same hc_89).ok _ M13) (SL.cons ((h_86.same hc_89).ok _ M14) (SL.cons ((h_86.same hc_89).ok _ M15) (SL.nil _ _)))))))))))))))))) (fun w_87 hc_89 => ?_)
  have h_88 := h_86.same hc_89
  refine qT rfl rfl (fun wq hS => R.move (v := (pO b_20 0)) rfl) ?_
  refine qT rfl rfl (fun wq hS => R.move (v := (pO b_24 0)) rfl) ?_
  refine qT rfl rfl (fun wq hS => R.nilCheck rfl) ?_
  refine qT rfl rfl (fun wq hS => R.fieldAddr (off' := 35) rfl Tryz.underlying47 rfl Tryz.sizeOf44 rfl rfl) ?_
  refine qT rfl rfl (fun wq hS => R.load1 rfl Tryz.isAgg44 (hS _ M2) (Sg.t rfl (Sg.t rfl (Sg.t rfl (Sg.t rfl Sg.h))))) ?_
  refine WT.s (oN rfl ?_)
  have h_94 := ((((h_88.up J11).up J11).up J11).up J11).up J11
  refine WL.call Tryz.call19 rfl rfl (c_oLog id b_20 b_21 ms df hms a_22 n c_23 (anU id 0 ([] : Lg) (1, (List.replicate 32 (0 : UInt8)), 1, [val].flatten)) hl la_34 lc_35 lx_36 (anL id df n 0 ([] : Lg) (1, (List.replicate 32 (0 : UInt8)), 1, [val].flatten)) (by first | decide | omega | exact Nat.le_trans (anU_le ..) (by decide) | exact Nat.le_trans (anU_le ..) (Nat.le_trans (Nat.succ_le_succ (anU_le ..)) (by decide)) | exact Nat.le_trans (anU_le ..) (Nat.le_trans (Nat.succ_le_succ (Nat.le_trans (anU_le ..) (Nat.succ_le_succ (anU_le ..)))) (by decide))) (by first | decide | omega | exact Nat.le_trans (anL_le ..) (by decide) | exact Nat.le_trans (anL_le ..) (Nat.le_trans (Nat.succ_le_succ (anL_le ..)) (by decide)) | exact Nat.le_trans (anL_le ..) (Nat.le_trans (Nat.succ_le_succ (Nat.le_trans (anL_le ..) (Nat.succ_le_succ (anL_le ..)))) (by decide))) _ h_94) rfl ?_
  rintro _ w_98 ⟨a_95, c_96, ys_97, rfl, h_99⟩
  refine WL.nil ?_
  refine ⟨(N7_8_9_10_11_12_13_2_3_4_5_6_14_15_16_17 h_99.ok), ?_⟩
  refine WT.s (oN rfl ?_)
  refine WL.call Tryz.call18 rfl rfl (c_rSameLog a_95 ((anL id df n 0 ([] : Lg) (1, (List.replicate 32 (0 : UInt8)), 1, [val].flatten)).length) c_96 ys_97 (anL id df n 0 ([] : Lg) (1, (List.replicate 32 (0 : UInt8)), 1, [val].flatten)) rfl (by first | decide | exact Nat.le_trans (anL_le ..) (by decide) | exact Nat.le_trans (anL_le ..) (Nat.le_trans (Nat.succ_le_succ (anL_le ..)) (by decide)) | exact Nat.le_trans (anL_le ..) (Nat.le_trans (Nat.succ_le_succ (Nat.le_trans (anL_le ..) (Nat.succ_le_succ (anL_le ..)))) (by decide))) la_54 lc_55 lx_56 _ (ownView (h_99.ok _ M0)) (h_99.ok _ M1).1 (ownView (h_99.ok _ M10)) (h_99.ok _ M11).1) rfl ?_
  rintro _ w_101 ⟨rfl, hc_100⟩
  have h_102 := h_99.same hc_100
  refine WL.nil ?_
  refine ⟨(N7_8_9_10_11_12_13_2_3_4_5_6_14_15_16_17 h_102.ok), ?_⟩
  refine qT rfl rfl (fun wq hS => R.move (v := (.bool true)) (rfl)) ?_
  refine WT.s ?_
  refine Op1.one rfl (Wn.yes rfl rfl rfl) ?_
  refine WL.call Tryz.call23 rfl rfl (c_known12  _ ) rfl ?_
  rintro _ w_104 ⟨rfl, hc_103⟩
  have h_105 := h_102.same hc_103
  refine WL.nil ?_
  refine ⟨(N7_8_9_10_11_12_13_2_3_4_5_6_14_15_16_17 h_105.ok), ?_⟩
  refine qT rfl rfl (fun wq hS => R.pickT (v := (.bool true)) rfl rfl) ?_
  refine qT rfl rfl (fun wq hS => R.assign (v := (.bool true)) rfl) ?_
  refine WT.nil (thn_n (WP.ret ?_))
  refine ret_of Tryz.results5 (RV.tmp (v := (.bool true)) rfl RV.nil) ?_
  exact ⟨rfl, h_105.chgS⟩

theorem w_MeasureSteps (id : Bool) (ms df : List UInt8) (hms : ms.length = 32) (da0 : Option Addr) (n cap0 : Nat) (hl : df.length = 32 * n) (gr : List UInt8) (hgr : gr.length = 128) (val : List UInt8) (hvl : val.length = 32) (sz : UInt64) (pc : UInt64) (rg : List UInt64) (hrg : rg.length = 8) (run : Bool) (pg : Int) (w : World) (hv : View w da0 (df.map vu8)) : Cs Tryz.prog 5 [(.bool id), (.slice da0 n cap0), (.agg ⟨ms.map vu8⟩), (vi pg), (.agg ⟨gr.map vu8⟩), (.agg ⟨flat [(32, val.map vu8), (1, [(vu64 sz)])]⟩), (.agg ⟨flat [(1, [(vu64 pc)]), (8, rg.map vu64), (1, [(.bool run)])]⟩)].toArray w (fun v w1 => v = (.bool true) ∧ Chg w w1 []) := by
 rcases Bool.eq_false_or_eq_true (decide (pc % 8 = 0)) with hrc | hrc
 ·by_cases hpg : 0 ≤ pg ∧ pg < 128
  ·obtain ⟨p, rfl⟩ := Int.eq_ofNat_of_zero_le hpg.1
   exact w_MS_tt id ms df hms da0 n cap0 hl gr hgr val hvl sz pc rg hrg run p (by omega) hrc w hv
  ·exact w_MS_ft id ms df hms da0 n cap0 hl gr hgr val hvl sz pc rg hrg run pg hpg hrc w hv
 ·by_cases hpg : 0 ≤ pg ∧ pg < 128
  ·obtain ⟨p, rfl⟩ := Int.eq_ofNat_of_zero_le hpg.1
   exact w_MS_tf id ms df hms da0 n cap0 hl gr hgr val hvl sz pc rg hrg run p (by omega) hrc w hv
  ·exact w_MS_ff id ms df hms da0 n cap0 hl gr hgr val hvl sz pc rg hrg run pg hpg hrc w hv
namespace measureStepsDone
open Go.ChangeShapes Go.WideShapes Go.ChangeAt
theorem own : ownKnob Tryz.prog.godebug = none := by kernel_rfl
theorem laidOut : laidOutB Tryz.prog = true := by kernel_rfl
set_option maxRecDepth 100000 in
theorem lifted (os : Os) (started : os.Started) (H : Type) (enc : TypeId × Value → H) :
  ReturnsInHanded {} Tryz.checked os 5 .any (Rows.measureStepsSpec.pre6 enc Tryz.prog Tryz.f5 Rows.measureStepsRow.domain false) (Rows.measureStepsSpec.post enc Tryz.prog Tryz.f5 false true false false) := by
 refine returnsInHanded_of_change (C := Tryz.checked) own started (by kernel_rfl) Tryz.func5
  (ChangeSpec.witness6 (enc := enc) (C := Tryz.checked) false ⟨#[], #[.bool false, .slice none 0 0, .agg #[.int .u8 0, .int .u8 0, .int .u8 0, .int .u8 0, .int .u8 0, .int .u8 0, .int .u8 0, .int .u8 0, .int .u8 0, .int .u8 0, .int .u8 0, .int .u8 0, .int .u8 0, .int .u8 0, .int .u8 0, .int .u8 0, .int .u8 0, .int .u8 0, .int .u8 0, .int .u8 0, .int .u8 0, .int .u8 0, .int .u8 0, .int .u8 0, .int .u8 0, .int .u8 0, .int .u8 0, .int .u8 0, .int .u8 0, .int .u8 0, .int .u8 0, .int .u8 0], .int .i64 0, .agg #[.int .u8 0, .int .u8 0, .int .u8 0, .int .u8 0, .int .u8 0, .int .u8 0, .int .u8 0, .int .u8 0, .int .u8 0, .int .u8 0, .int .u8 0, .int .u8 0, .int .u8 0, .int .u8 0, .int .u8 0, .int .u8 0, .int .u8 0, .int .u8 0, .int .u8 0, .int .u8 0, .int .u8 0, .int .u8 0, .int .u8 0, .int .u8 0, .int .u8 0, .int .u8 0, .int .u8 0, .int .u8 0, .int .u8 0, .int .u8 0, .int .u8 0, .int .u8 0, .int .u8 0, .int .u8 0, .int .u8 0, .int .u8 0, .int .u8 0, .int .u8 0, .int .u8 0, .int .u8 0, .int .u8 0, .int .u8 0, .int .u8 0, .int .u8 0, .int .u8 0, .int .u8 0, .int .u8 0, .int .u8 0, .int .u8 0, .int .u8 0, .int .u8 0, .int .u8 0, .int .u8 0, .int .u8 0, .int .u8 0, .int .u8 0, .int .u8 0, .int .u8 0, .int .u8 0, .int .u8 0, .int .u8 0, .int .u8 0, .int .u8 0, .int .u8 0, .int .u8 0, .int .u8 0, .int .u8 0, .int .u8 0, .int .u8 0, .int .u8 0, .int .u8 0, .int .u8 0, .int .u8 0, .int .u8 0, .int .u8 0, .int .u8 0, .int .u8 0, .int .u8 0, .int .u8 0, .int .u8 0, .int .u8 0, .int .u8 0, .int .u8 0, .int .u8 0, .int .u8 0, .int .u8 0, .int .u8 0, .int .u8 0, .int .u8 0, .int .u8 0, .int .u8 0, .int .u8 0, .int .u8 0, .int .u8 0, .int .u8 0, .int .u8 0, .int .u8 0, .int .u8 0, .int .u8 0, .int .u8 0, .int .u8 0, .int .u8 0, .int .u8 0, .int .u8 0, .int .u8 0, .int .u8 0, .int .u8 0, .int .u8 0, .int .u8 0, .int .u8 0, .int .u8 0, .int .u8 0, .int .u8 0, .int .u8 0, .int .u8 0, .int .u8 0, .int .u8 0, .int .u8 0, .int .u8 0, .int .u8 0, .int .u8 0, .int .u8 0, .int .u8 0, .int .u8 0, .int .u8 0, .int .u8 0, .int .u8 0, .int .u8 0], .agg #[.int .u8 0, .int .u8 0, .int .u8 0, .int .u8 0, .int .u8 0, .int .u8 0, .int .u8 0, .int .u8 0, .int .u8 0, .int .u8 0, .int .u8 0, .int .u8 0, .int .u8 0, .int .u8 0, .int .u8 0, .int .u8 0, .int .u8 0, .int .u8 0, .int .u8 0, .int .u8 0, .int .u8 0, .int .u8 0, .int .u8 0, .int .u8 0, .int .u8 0, .int .u8 0, .int .u8 0, .int .u8 0, .int .u8 0, .int .u8 0, .int .u8 0, .int .u8 0, .int .u64 0], .agg #[.int .u64 0, .int .u64 0, .int .u64 0, .int .u64 0, .int .u64 0, .int .u64 0, .int .u64 0, .int .u64 0, .int .u64 0, .bool false]], []⟩ 8 (by kernel_rfl) (by kernel_rfl) (by kernel_rfl) (by kernel_rfl)) ?_
 intro W base args ds gs before hval0 hW hcnd _
 have hval : ∀ (j : Nat) t v, Tryz.f5.params[j]? = some t → args[j]? = some v → Value.okWide Tryz.prog W .any base t v := hval0
 have hW' := hW
 obtain ⟨p, q, hA0, hV, rfl, hfz, hnd⟩ := hW
 have hA : DataW.TrodAll enc Tryz.prog W 0 (fun _ => true) true Tryz.f5.params.toList args.toList ds p := hA0
 rw [Tryz.params5] at hA hval
 obtain ⟨v0, vs0, d0, ds0, p0, q0, hargs, rfl, rfl, h0, r0⟩ := trodAll_cons hA
 obtain ⟨v1, vs1, d1, ds1, p1, q1, rfl, rfl, rfl, h1, r1⟩ := trodAll_cons r0
 obtain ⟨v2, vs2, d2, ds2, p2, q2, rfl, rfl, rfl, h2, r2⟩ := trodAll_cons r1
 obtain ⟨v3, vs3, d3, ds3, p3, q3, rfl, rfl, rfl, h3, r3⟩ := trodAll_cons r2
 obtain ⟨v4, vs4, d4, ds4, p4, q4, rfl, rfl, rfl, h4, r4⟩ := trodAll_cons r3
 obtain ⟨v5, vs5, d5, ds5, p5, q5, rfl, rfl, rfl, h5, r5⟩ := trodAll_cons r4
 obtain ⟨v6, vs6, d6, ds6, p6, q6, rfl, rfl, rfl, h6, r6⟩ := trodAll_cons r5
 obtain ⟨rfl, rfl, rfl⟩ := trodAll_nil r6
 obtain rfl : args = #[v0, v1, v2, v3, v4, v5, v6] := by cases args; simp_all
 obtain ⟨rfl, rfl⟩ := trodVars_none hV
 have lt0 : ∀ x ∈ p0, x.block < W.heap.size := by obtain ⟨m, hm⟩ := h0; exact DataW.trod_lt m _ _ _ hm
 obtain ⟨x0, rfl⟩ := okWide_bool Tryz.underlying4 (hval 0 4 v0 rfl rfl)
 have lt1 : ∀ x ∈ p1, x.block < W.heap.size := by obtain ⟨m, hm⟩ := h1; exact DataW.trod_lt m _ _ _ hm
 obtain ⟨a1, n1, c1, rfl⟩ := okWide_slice Tryz.underlying24 (hval 1 24 v1 rfl rfl)
 obtain ⟨a1, n1, c1, x1, e1, l_x1, hc1, hm1, hv1⟩ := Tr.slA8 Tryz.underlying24 ce23 Tryz.underlying23 ce5 Tryz.underlying5 (Tr.of h1 rfl)
 cases e1
 have lt2 : ∀ x ∈ p2, x.block < W.heap.size := by obtain ⟨m, hm⟩ := h2; exact DataW.trod_lt m _ _ _ hm
 obtain ⟨cs2, rfl⟩ := okWide_agg aggT23 (hval 2 23 v2 rfl rfl)
 have tr2 : Tr Tryz.prog W 23 cs2 := Tr.of h2 rfl
 obtain ⟨x2, rfl, l_x2⟩ := Tr.arr8 Tryz.underlying23 ce23 ce5 Tryz.underlying5 tr2
 have lt3 : ∀ x ∈ p3, x.block < W.heap.size := by obtain ⟨m, hm⟩ := h3; exact DataW.trod_lt m _ _ _ hm
 obtain ⟨x3, rfl⟩ := okWide_int Tryz.underlying3 (hval 3 3 v3 rfl rfl)
 have b_x3 := Tr.i64' Tryz.underlying3 (Tr.of h3 rfl)
 have lt4 : ∀ x ∈ p4, x.block < W.heap.size := by obtain ⟨m, hm⟩ := h4; exact DataW.trod_lt m _ _ _ hm
 obtain ⟨cs4, rfl⟩ := okWide_agg aggT29 (hval 4 29 v4 rfl rfl)
 have tr4 : Tr Tryz.prog W 29 cs4 := Tr.of h4 rfl
 obtain ⟨x4, rfl, l_x4⟩ := Tr.arr8 Tryz.underlying29 ce29 ce5 Tryz.underlying5 tr4
 have lt5 : ∀ x ∈ p5, x.block < W.heap.size := by obtain ⟨m, hm⟩ := h5; exact DataW.trod_lt m _ _ _ hm
 obtain ⟨cs5, rfl⟩ := okWide_agg aggT54 (hval 5 54 v5 rfl rfl)
 have tr5 : Tr Tryz.prog W 54 cs5 := Tr.of h5 rfl
 have tl_x5 := Tr.struct (l := [(32, 23), (1, 27)]) Tryz.underlying54 ce54 (by kernel_rfl) tr5
 obtain ⟨a_x50, r_x50, rfl, n_x50, t_x50, tl_x50⟩ := tl_x5
 obtain ⟨x50, rfl, l_x50⟩ := Tr.arr8 Tryz.underlying23 ce23 ce5 Tryz.underlying5 t_x50
 obtain ⟨a_x51, r_x51, rfl, n_x51, t_x51, tl_x51⟩ := tl_x50
 obtain ⟨x51, rfl⟩ := Tr.u64 Tryz.underlying27 t_x51
 obtain rfl := tl_x51
 have lt6 : ∀ x ∈ p6, x.block < W.heap.size := by obtain ⟨m, hm⟩ := h6; exact DataW.trod_lt m _ _ _ hm
 obtain ⟨cs6, rfl⟩ := okWide_agg aggT57 (hval 6 57 v6 rfl rfl)
 have tr6 : Tr Tryz.prog W 57 cs6 := Tr.of h6 rfl
 have tl_x6 := Tr.struct (l := [(1, 27), (8, 55), (1, 4)]) Tryz.underlying57 ce57 (by kernel_rfl) tr6
 obtain ⟨a_x60, r_x60, rfl, n_x60, t_x60, tl_x60⟩ := tl_x6
 obtain ⟨x60, rfl⟩ := Tr.u64 Tryz.underlying27 t_x60
 obtain ⟨a_x61, r_x61, rfl, n_x61, t_x61, tl_x61⟩ := tl_x60
 obtain ⟨x61, rfl, l_x61⟩ := Tr.arr64 Tryz.underlying55 ce55 ce27 Tryz.underlying27 t_x61
 obtain ⟨a_x62, r_x62, rfl, n_x62, t_x62, tl_x62⟩ := tl_x61
 obtain ⟨x62, rfl⟩ := Tr.bool Tryz.underlying4 t_x62
 obtain rfl := tl_x62
 clear hA0 hval0
 have hw : Cs Tryz.prog 5 [(.bool x0), (.slice a1 n1 c1), (.agg ⟨x2.map vu8⟩), (vi x3), (.agg ⟨x4.map vu8⟩), (.agg ⟨flat [(32, x50.map vu8), (1, [(vu64 x51)])]⟩), (.agg ⟨flat [(1, [(vu64 x60)]), (8, x61.map vu64), (1, [(.bool x62)])]⟩)].toArray W (fun v w1 => v = .bool true ∧ Chg W w1 []) := w_MeasureSteps x0 x2 x1 l_x2 a1 n1 c1 l_x1 x4 l_x4 x50 l_x50 x51 x60 x61 l_x61 x62 x3 W hv1.1
 have ea : ([(.bool x0), (.slice a1 n1 c1), (.agg ⟨x2.map vu8⟩), (vi x3), (.agg ⟨x4.map vu8⟩), (.agg ⟨flat [(32, x50.map vu8), (1, [(vu64 x51)])]⟩), (.agg ⟨flat [(1, [(vu64 x60)]), (8, x61.map vu64), (1, [(.bool x62)])]⟩)] : List Value).toArray = (#[(.bool x0), (.slice a1 n1 c1), .agg ⟨x2.map vu8⟩, (vi x3), .agg ⟨x4.map vu8⟩, .agg ⟨(x50.map vu8 ++ ([vu64 x51] ++ []))⟩, .agg ⟨([vu64 x60] ++ (x61.map vu64 ++ ([.bool x62] ++ [])))⟩] : Array Value) := by simp [flat]
 rw [ea] at hw
 refine Calls.mono (Cs.below hw) fun e W' ⟨he, bel⟩ => ?_
 subst he
 exact ⟨_, rfl, _, _, _, [], _, [], hW', trodAll_mk1 (shut_bool Tryz.underlying4 _), (trodAll_cons_mk (Below.trod laidOut (by kernel_rfl) (of_decide_eq_true (by kernel_rfl)) h0 bel lt0) (trodAll_cons_mk (Below.trod laidOut (by kernel_rfl) (of_decide_eq_true (by kernel_rfl)) h1 bel lt1) (trodAll_cons_mk (Below.trod laidOut (by kernel_rfl) (of_decide_eq_true (by kernel_rfl)) h2 bel lt2) (trodAll_cons_mk (Below.trod laidOut (by kernel_rfl) (of_decide_eq_true (by kernel_rfl)) h3 bel lt3) (trodAll_cons_mk (Below.trod laidOut (by kernel_rfl) (of_decide_eq_true (by kernel_rfl)) h4 bel lt4) (trodAll_cons_mk (Below.trod laidOut (by kernel_rfl) (of_decide_eq_true (by kernel_rfl)) h5 bel lt5) (trodAll_cons_mk (Below.trod laidOut (by kernel_rfl) (of_decide_eq_true (by kernel_rfl)) h6 bel lt6) trodAll_mk0))))))), rfl, bel.frame _, fun h => by cases h⟩
theorem over : Rows.measureStepsRow.holds Tryz.pinned (OpenSpec.ofChange Rows.measureStepsSpec) :=
 OpenClaim.holds_of_wide 5 Tryz.f5 rfl rfl rfl rfl rfl rfl rfl ⟨rfl, rfl, rfl, rfl, rfl⟩ rfl rfl rfl rfl rfl (by kernel_rfl) Tryz.func5 (by kernel_rfl)
  (of_decide_eq_true (by kernel_rfl)) (by unfold Func.isWrapper; first | (rw [if_pos (by decide +kernel)]; kernel_rfl) | (rw [if_neg (by decide +kernel)]; exact ⟨rfl, rfl⟩))
  (fun os started H enc _ => lifted os started H enc)
theorem proved : Rows.MeasureStepsSaid := over
end measureStepsDone
end Go.Proofs.YteclkcpdclimnaaGreat
