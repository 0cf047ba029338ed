/- BlobLeaves holds of every input. Conditions: none. -/
import Derived.Test.YteclkcpdclimnaaGreatZ5BlobLeaves
set_option linter.unusedVariables false
set_option linter.unusedSimpArgs false
set_option linter.unusedSectionVars false
namespace Go.Proofs.YteclkcpdclimnaaGreat
open Go.Proofs.Tryz
open Go.Vc Go.Orc Go.Sh Go.RowKit
set_option linter.unusedVariables false
set_option linter.unusedSimpArgs false
set_option maxRecDepth 20000
theorem aggT26 : aggB Tryz.prog 26 = true := by unfold aggB; rw [underlying26]
theorem aggT29 : aggB Tryz.prog 29 = true := by unfold aggB; rw [underlying29]
theorem ce26 : Tryz.prog.cellsOf 26 = 34 := by kernel_rfl
theorem w_BL_ok (id : Bool) (ms df : List UInt8) (hms : ms.length = 32) (da0 : Option Addr) (n cap0 : Nat) (hl : df.length = 32 * n) (pl : List UInt8) (hpl : pl.length = 128) (pg : Nat) (h : pg < 128) (ct : UInt64) (hct : ¬ ct > 4294967296) (w : World) (hv : View w da0 (df.map vu8)) :
  Cs Tryz.prog 3 [(.agg ⟨flat [(1, [(.bool id)]), (32, ms.map vu8), (1, [(.slice da0 n cap0)])]⟩), (vi ((pg : Nat) : Int)), (vu64 ct), (.agg ⟨pl.map vu8⟩)].toArray w (fun v w1 => v = (.bool true) ∧ Chg w w1 []) := by
 refine Cs.of (n := 92) (args := [(.agg ⟨flat [(1, [(.bool id)]), (32, ms.map vu8), (1, [(.slice da0 n cap0)])]⟩), (vn pg), (vu64 ct), (.agg ⟨pl.map vu8⟩)]) Tryz.func3 rfl rfl rfl ?_
 have h_0 := HP.init w
 have h_00 := h_0.old (View.arg hv) (fun f hf => by cases hf)
 refine WP.seq (WP.reg ?_)
 refine WL.box (v := (.agg ⟨flat [(1, [(.bool id)]), (32, ms.map vu8), (1, [(.slice da0 n cap0)])]⟩)) (segs := [(1, [(.bool id)]), (32, ms.map vu8), (1, [(.slice da0 n cap0)])]) h_00 rfl rfl (sC sV (sC (s8 hms) (sC sV sN))) rfl (fun b_1 w_2 h_3 => ?_)
 refine WL.box (v := (.agg ⟨pl.map vu8⟩)) (segs := [(128, pl.map vu8)]) h_3 rfl rfl (sC (s8 hpl) sN) rfl (fun b_4 w_5 h_6 => ?_)
 refine qA (.bool false) rfl rfl ?_
 refine WL.nil (thn_n (WP.seq (WP.seq (WP.reg ?_))))
 refine qV rfl (R.fieldAddr (off' := 33) rfl underlying26 rfl sizeOf24 rfl rfl) (qV rfl (R.load1 rfl isAgg24 (h_6.ok _ M1) (Sg.t rfl (Sg.t rfl Sg.h))) (qV rfl (R.lenS (a := da0) (m := n) rfl rfl underlying24) (qV rfl (R.bin rfl rfl (bi_gtr (r := decide ((((n : Nat) : Int) : Int) > 60)) rfl)) ?_)))
 refine WL.nil (thn_n ?_)
 refine WP.cond (b := decide ((((n : Nat) : Int) : Int) > 60)) rfl (fun c_7 => ?_) (fun c_7 => ?_)
 ·have p_8 := of_decide_eq_true c_7
  refine WP.seq (WP.reg ?_)
  refine WL.call Tryz.call10 rfl rfl (c_known16  _ ) rfl ?_
  rintro _ w_10 ⟨rfl, hc_9⟩
  have h_11 := h_6.same hc_9
  refine qA (.bool true) rfl rfl ?_
  refine WL.nil (thn_n (WP.ret (thn_r ?_)))
  refine ret_of results3 (RV.tmp (v := (.bool true)) rfl RV.nil) ?_
  exact ⟨rfl, h_11.chgS⟩
 ·have p_12 := of_decide_eq_false c_7
  refine WP.skip (thn_n (WP.seq (WP.reg ?_)))
  refine qV rfl (R.loadA [] [(1, [(.bool id)]), (32, ms.map vu8), (1, [(.slice da0 n cap0)])] [] (cs := flat [(1, [(.bool id)]), (32, ms.map vu8), (1, [(.slice da0 n cap0)])]) rfl isAgg26 sizeOf26 (h_6.ok _ M1) rfl rfl rfl rfl) ?_
  have h_13 := h_6.up J2
  refine WL.call Tryz.call11 rfl rfl (c_both16 id ms df hms da0 n cap0 hl (by omega) _ h_13) rfl ?_
  rintro _ w_19 ⟨b_14, b_15, a_16, c_17, b_18, rfl, h_20⟩
  have h_21 := h_20.rowNil 96 67
  have h_22 := HP_logNil h_21
  refine qM (.tuple [(pO b_14 0), (pO b_18 0)].toArray) rfl rfl (qV rfl (R.extract rfl rfl) (qV rfl (R.extract rfl rfl) (qA (pO b_14 0) rfl rfl (qA (pO b_18 0) rfl rfl ?_))))
  refine WL.nil (thn_n (WP.seq (WP.reg ?_)))
  refine qM (pO b_14 0) rfl rfl (qM (vn pg) rfl rfl (qM (vu64 ct) rfl rfl (qV rfl (R.loadA [] [(128, pl.map vu8)] [] (cs := pl.map vu8) rfl isAgg29 sizeOf29 (h_22.ok _ M9) rfl rfl rfl rfl) ?_)))
  have h_27 := ((((h_22.up J6).up J1).up J5).up J3).up J4
  have h32_w_31 := Lgs.ok32 (h_27.ok _ M3).1
  refine WL.call Tryz.call12 rfl rfl (c_Leaf id b_14 b_15 ms df hms a_16 n c_17 0 hl none 0 [] ([] : Lg) (by first | decide | omega | exact Nat.le_trans (anU_le ..) (by decide) | exact Nat.le_trans (anU_le ..) (Nat.le_trans (Nat.succ_le_succ (anU_le ..)) (by decide)) | exact Nat.le_trans (anU_le ..) (Nat.le_trans (Nat.succ_le_succ (Nat.le_trans (anU_le ..) (Nat.succ_le_succ (anU_le ..)))) (by decide))) (by first | decide | omega | exact Nat.le_trans (anL_le ..) (by decide) | exact Nat.le_trans (anL_le ..) (Nat.le_trans (Nat.succ_le_succ (anL_le ..)) (by decide)) | exact Nat.le_trans (anL_le ..) (Nat.le_trans (Nat.succ_le_succ (Nat.le_trans (anL_le ..) (Nat.succ_le_succ (anL_le ..)))) (by decide))) pl hpl pg ct (by omega) hct _ h_27) rfl ?_
  rintro _ w_31 ⟨la_28, lc_29, lx_30, rfl, h_32⟩
  refine qM (.tuple [(.agg ⟨(anD id df n 0 ([] : Lg) (1, (List.replicate 32 (0 : UInt8)), 4, [pcB pg ct, pl].flatten)).map vu8⟩), (vi 0)].toArray) rfl rfl (qV rfl (R.extract rfl rfl) (qV rfl (R.extract rfl rfl) ?_))
  refine WL.alloc (segs := [(32, (List.replicate 32 (0 : UInt8)).map vu8)]) h_32 (zv typeInfo23 rfl) rfl (sC (s8 lr) sN) rfl (fun b_33 w_34 h_35 => ?_)
  refine WL.storeA (b := b_33) (off := 0) [] [(32, (List.replicate 32 (0 : UInt8)).map vu8)] [(32, (anD id df n 0 ([] : Lg) (1, (List.replicate 32 (0 : UInt8)), 4, [pcB pg ct, pl].flatten)).map vu8)] [] (ys := (anD id df n 0 ([] : Lg) (1, (List.replicate 32 (0 : UInt8)), 4, [pcB pg ct, pl].flatten)).map vu8) h_35 rfl rfl sizeOf23 At.h (by decide) rfl rfl rfl rfl rfl rfl (sC (s8 (anD_len hl h32_w_31)) sN) (fun w_36 h_37 => ?_)
  refine qA (vi 0) rfl rfl ?_
  refine WL.nil (thn_n (WP.seq (WP.seq (WP.reg ?_))))
  refine qM (vn pg) rfl rfl (qM (vu64 ct) rfl rfl ?_)
  refine WL.call Tryz.call13 rfl rfl (c_May16 pg ct (by omega) _ ) rfl ?_
  rintro _ w_39 ⟨rfl, hc_38⟩
  have h_40 := h_37.same hc_38
  refine WL.nil (thn_n ?_)
  refine WP.condT (congrArg Value.bool (decide_eq_true (UInt64.not_lt.1 hct))) ?_
  refine WP.seq ?_
  refine WP.drawT (SL w.heap.size [.blk b_33 .nw 23 [(32, (anD id df n 0 ([] : Lg) (1, (List.replicate 32 (0 : UInt8)), 4, [pcB pg ct, pl].flatten)).map vu8)], .blk b_14 .nw 118 [(1, [(.bool id)]), (32, ms.map vu8), (1, [(.slice a_16 n c_17)]), (1, [(vn (anU id 0 ([] : Lg) (1, (List.replicate 32 (0 : UInt8)), 4, [pcB pg ct, pl].flatten)))]), (1, [(.map (some b_15))]), (1, [(.slice la_28 ((anL id df n 0 ([] : Lg) (1, (List.replicate 32 (0 : UInt8)), 4, [pcB pg ct, pl].flatten)).length) lc_29)])], .row la_28 ((anL id df n 0 ([] : Lg) (1, (List.replicate 32 (0 : UInt8)), 4, [pcB pg ct, pl].flatten)).length) lc_29 96 67 lx_30, .obj b_15 .nw (.map (mArr (anL id df n 0 ([] : Lg) (1, (List.replicate 32 (0 : UInt8)), 4, [pcB pg ct, pl].flatten))) ((anL id df n 0 ([] : Lg) (1, (List.replicate 32 (0 : UInt8)), 4, [pcB pg ct, pl].flatten)).length)), .pin (sblks lx_30) (fun w => Lgs w lx_30 (anL id df n 0 ([] : Lg) (1, (List.replicate 32 (0 : UInt8)), 4, [pcB pg ct, pl].flatten))), .view a_16 (df.map vu8), .blk b_4 .nw 29 [(128, pl.map vu8)], .blk b_1 .nw 26 [(1, [(.bool id)]), (32, ms.map vu8), (1, [(.slice da0 n cap0)])]]) (.q 0 (.q 1 (.q 2 (.q 3 (.q 4 (.s 5 (.q 6 (.q 7 (.q 8 (.s 9 (.q 10 (.q 11 .nil)))))))))))) (by kernel_rfl) (by kernel_rfl) rfl (by kernel_rfl) (fun w_41 hc_43 => (SL.cons ((h_40.same hc_43).ok _ M0) (SL.cons ((h_40.same hc_43).ok _ M1) (SL.cons ((h_40.same hc_43).ok _ M2) (SL.cons ((h_40.same hc_43).ok _ M3) (SL.cons ((h_40.same hc_43).ok _ M4) (SL.cons ((h_40.same hc_43).ok _ M5) (SL.cons ((h_40.same hc_43).ok _ M10) (SL.cons ((h_40.same hc_43).ok _ M11) (SL.nil _ _)))))))))) (fun w_41 hc_43 => ?_)
  have h_42 := h_40.same hc_43
  refine qT rfl rfl (fun wq hS => R.loadA [] [(32, (anD id df n 0 ([] : Lg) (1, (List.replicate 32 (0 : UInt8)), 4, [pcB pg ct, pl].flatten)).map vu8)] [] (cs := (anD id df n 0 ([] : Lg) (1, (List.replicate 32 (0 : UInt8)), 4, [pcB pg ct, pl].flatten)).map vu8) rfl isAgg23 sizeOf23 (hS _ M0) rfl rfl rfl rfl) ?_
  refine qT rfl rfl (fun wq hS => R.move (v := (pO b_18 0)) rfl) ?_
  refine qT rfl rfl (fun wq hS => R.move (v := (vn pg)) rfl) ?_
  refine qT rfl rfl (fun wq hS => R.move (v := (vu64 ct)) rfl) ?_
  refine qT rfl rfl (fun wq hS => R.loadA [] [(128, pl.map vu8)] [] (cs := pl.map vu8) rfl isAgg29 sizeOf29 (hS _ M6) rfl rfl rfl rfl) ?_
  refine WT.s (oN rfl ?_)
  have h_47 := (((h_42.up J9).up J8).up J8).up J9
  refine WL.call Tryz.call14 rfl rfl (c_rLeaf id b_18 ms df hms da0 n cap0 0 hl none 0 [] ([] : Lg) (by first | decide | omega | exact Nat.le_trans (anU_le ..) (by decide) | exact Nat.le_trans (anU_le ..) (Nat.le_trans (Nat.succ_le_succ (anU_le ..)) (by decide)) | exact Nat.le_trans (anU_le ..) (Nat.le_trans (Nat.succ_le_succ (Nat.le_trans (anU_le ..) (Nat.succ_le_succ (anU_le ..)))) (by decide))) (by first | decide | omega | exact Nat.le_trans (anL_le ..) (by decide) | exact Nat.le_trans (anL_le ..) (Nat.le_trans (Nat.succ_le_succ (anL_le ..)) (by decide)) | exact Nat.le_trans (anL_le ..) (Nat.le_trans (Nat.succ_le_succ (Nat.le_trans (anL_le ..) (Nat.succ_le_succ (anL_le ..)))) (by decide))) pl hpl pg ct _ h_47) rfl ?_
  rintro _ w_51 ⟨la_48, lc_49, lx_50, rfl, h_52⟩
  refine WL.nil ?_
  refine ⟨(N4_5_6_7_8_9_10_11 h_52.ok), ?_⟩
  refine qT rfl rfl (fun wq hS => R.neA (xs := (anD id df n 0 ([] : Lg) (1, (List.replicate 32 (0 : UInt8)), 4, [pcB pg ct, pl].flatten)).map vu8) (ys := (anD id df n 0 ([] : Lg) (1, (List.replicate 32 (0 : UInt8)), 4, [pcB pg ct, pl].flatten)).map vu8) (r := false) rfl rfl eqGuardType23 kt23 (by decide) ag23 (Typ.u8s underlying23 ce23 underlying5 ce5 (anD_len hl h32_w_31)) (Typ.u8s underlying23 ce23 underlying5 ce5 (anD_len hl okN)) (neT rfl)) ?_
  refine qT rfl rfl (fun wq hS => R.move (v := (.bool false)) rfl) ?_
  refine WT.q rfl (Wn.yes rfl rfl rfl) rfl rfl (fun wq hS => R.move (v := (vi 0)) rfl) ?_
  refine WT.s ?_
  refine Op1.one rfl (Wn.yes rfl rfl rfl) ?_
  refine WL.call Tryz.call15 rfl rfl (c_num16 0 (by omega) _ ) rfl ?_
  rintro _ w_54 ⟨rfl, hc_53⟩
  have h_55 := h_52.same hc_53
  refine WL.nil ?_
  refine ⟨(N4_5_6_7_8_9_10_11 h_55.ok), ?_⟩
  refine WT.q rfl (Wn.yes rfl rfl rfl) rfl rfl (fun wq hS => R.bin rfl rfl (bi_neq (r := false) (by decide))) ?_
  refine qT rfl rfl (fun wq hS => R.pickF (v := (.bool false)) rfl rfl) ?_
  refine WT.nil (thn_n ?_)
  refine WP.condF rfl ?_
  refine WP.skip (thn_n (WP.seq (WP.reg ?_)))
  refine qM (pO b_14 0) rfl rfl (qM (vn pg) rfl rfl ?_)
  have h_60 := ((((h_55.up J9).up J9).up J9).up J9).up J9
  have h32_w_64 := Lgs.ok32 (h_60.ok _ M3).1
  refine WL.call Tryz.call16 rfl rfl (c_None id b_14 b_15 ms df hms a_16 n c_17 (anU id 0 ([] : Lg) (1, (List.replicate 32 (0 : UInt8)), 4, [pcB pg ct, pl].flatten)) hl la_28 lc_29 lx_30 (anL id df n 0 ([] : Lg) (1, (List.replicate 32 (0 : UInt8)), 4, [pcB pg ct, pl].flatten)) (by first | decide | omega | exact Nat.le_trans (anU_le ..) (by decide) | exact Nat.le_trans (anU_le ..) (Nat.le_trans (Nat.succ_le_succ (anU_le ..)) (by decide)) | exact Nat.le_trans (anU_le ..) (Nat.le_trans (Nat.succ_le_succ (Nat.le_trans (anU_le ..) (Nat.succ_le_succ (anU_le ..)))) (by decide))) (by first | decide | omega | exact Nat.le_trans (anL_le ..) (by decide) | exact Nat.le_trans (anL_le ..) (Nat.le_trans (Nat.succ_le_succ (anL_le ..)) (by decide)) | exact Nat.le_trans (anL_le ..) (Nat.le_trans (Nat.succ_le_succ (Nat.le_trans (anL_le ..) (Nat.succ_le_succ (anL_le ..)))) (by decide))) pg (by omega) _ h_60) rfl ?_
  rintro _ w_64 ⟨la_61, lc_62, lx_63, rfl, h_65⟩
  refine qM (.tuple [(.agg ⟨(anD id df n (anU id 0 ([] : Lg) (1, (List.replicate 32 (0 : UInt8)), 4, [pcB pg ct, pl].flatten)) (anL id df n 0 ([] : Lg) (1, (List.replicate 32 (0 : UInt8)), 4, [pcB pg ct, pl].flatten)) (1, (List.replicate 32 (0 : UInt8)), 6, leN 8 (UInt64.ofNat pg).toNat)).map vu8⟩), (vi 0)].toArray) rfl rfl (qV rfl (R.extract rfl rfl) (qV rfl (R.extract rfl rfl) ?_))
  refine WL.alloc (segs := [(32, (List.replicate 32 (0 : UInt8)).map vu8)]) h_65 (zv typeInfo23 rfl) rfl (sC (s8 lr) sN) rfl (fun b_66 w_67 h_68 => ?_)
  refine WL.storeA (b := b_66) (off := 0) [] [(32, (List.replicate 32 (0 : UInt8)).map vu8)] [(32, (anD id df n (anU id 0 ([] : Lg) (1, (List.replicate 32 (0 : UInt8)), 4, [pcB pg ct, pl].flatten)) (anL id df n 0 ([] : Lg) (1, (List.replicate 32 (0 : UInt8)), 4, [pcB pg ct, pl].flatten)) (1, (List.replicate 32 (0 : UInt8)), 6, leN 8 (UInt64.ofNat pg).toNat)).map vu8)] [] (ys := (anD id df n (anU id 0 ([] : Lg) (1, (List.replicate 32 (0 : UInt8)), 4, [pcB pg ct, pl].flatten)) (anL id df n 0 ([] : Lg) (1, (List.replicate 32 (0 : UInt8)), 4, [pcB pg ct, pl].flatten)) (1, (List.replicate 32 (0 : UInt8)), 6, leN 8 (UInt64.ofNat pg).toNat)).map vu8) h_68 rfl rfl sizeOf23 At.h (by decide) rfl rfl rfl rfl rfl rfl (sC (s8 (anD_len hl h32_w_64)) sN) (fun w_69 h_70 => ?_)
  refine qA (vi 0) rfl rfl ?_
  refine WL.nil (thn_n (WP.seq (WP.seq (WP.reg ?_))))
  refine qM (vn pg) rfl rfl ?_
  refine WL.call Tryz.call13 rfl rfl (c_May16 pg (0 : UInt64) (by omega) _ ) rfl ?_
  rintro _ w_72 ⟨rfl, hc_71⟩
  have h_73 := h_70.same hc_71
  refine WL.nil (thn_n ?_)
  refine WP.condT rfl ?_
  refine WP.seq ?_
  refine WP.drawT (SL w.heap.size [.blk b_66 .nw 23 [(32, (anD id df n (anU id 0 ([] : Lg) (1, (List.replicate 32 (0 : UInt8)), 4, [pcB pg ct, pl].flatten)) (anL id df n 0 ([] : Lg) (1, (List.replicate 32 (0 : UInt8)), 4, [pcB pg ct, pl].flatten)) (1, (List.replicate 32 (0 : UInt8)), 6, leN 8 (UInt64.ofNat pg).toNat)).map vu8)], .blk b_14 .nw 118 [(1, [(.bool id)]), (32, ms.map vu8), (1, [(.slice a_16 n c_17)]), (1, [(vn (anU id (anU id 0 ([] : Lg) (1, (List.replicate 32 (0 : UInt8)), 4, [pcB pg ct, pl].flatten)) (anL id df n 0 ([] : Lg) (1, (List.replicate 32 (0 : UInt8)), 4, [pcB pg ct, pl].flatten)) (1, (List.replicate 32 (0 : UInt8)), 6, leN 8 (UInt64.ofNat pg).toNat)))]), (1, [(.map (some b_15))]), (1, [(.slice la_61 ((anL id df n (anU id 0 ([] : Lg) (1, (List.replicate 32 (0 : UInt8)), 4, [pcB pg ct, pl].flatten)) (anL id df n 0 ([] : Lg) (1, (List.replicate 32 (0 : UInt8)), 4, [pcB pg ct, pl].flatten)) (1, (List.replicate 32 (0 : UInt8)), 6, leN 8 (UInt64.ofNat pg).toNat)).length) lc_62)])], .row la_61 ((anL id df n (anU id 0 ([] : Lg) (1, (List.replicate 32 (0 : UInt8)), 4, [pcB pg ct, pl].flatten)) (anL id df n 0 ([] : Lg) (1, (List.replicate 32 (0 : UInt8)), 4, [pcB pg ct, pl].flatten)) (1, (List.replicate 32 (0 : UInt8)), 6, leN 8 (UInt64.ofNat pg).toNat)).length) lc_62 96 67 lx_63, .obj b_15 .nw (.map (mArr (anL id df n (anU id 0 ([] : Lg) (1, (List.replicate 32 (0 : UInt8)), 4, [pcB pg ct, pl].flatten)) (anL id df n 0 ([] : Lg) (1, (List.replicate 32 (0 : UInt8)), 4, [pcB pg ct, pl].flatten)) (1, (List.replicate 32 (0 : UInt8)), 6, leN 8 (UInt64.ofNat pg).toNat))) ((anL id df n (anU id 0 ([] : Lg) (1, (List.replicate 32 (0 : UInt8)), 4, [pcB pg ct, pl].flatten)) (anL id df n 0 ([] : Lg) (1, (List.replicate 32 (0 : UInt8)), 4, [pcB pg ct, pl].flatten)) (1, (List.replicate 32 (0 : UInt8)), 6, leN 8 (UInt64.ofNat pg).toNat)).length)), .pin (sblks lx_63) (fun w => Lgs w lx_63 (anL id df n (anU id 0 ([] : Lg) (1, (List.replicate 32 (0 : UInt8)), 4, [pcB pg ct, pl].flatten)) (anL id df n 0 ([] : Lg) (1, (List.replicate 32 (0 : UInt8)), 4, [pcB pg ct, pl].flatten)) (1, (List.replicate 32 (0 : UInt8)), 6, leN 8 (UInt64.ofNat pg).toNat))), .view a_16 (df.map vu8), .blk b_33 .nw 23 [(32, (anD id df n 0 ([] : Lg) (1, (List.replicate 32 (0 : UInt8)), 4, [pcB pg ct, pl].flatten)).map vu8)], .blk b_4 .nw 29 [(128, pl.map vu8)], .blk b_1 .nw 26 [(1, [(.bool id)]), (32, ms.map vu8), (1, [(.slice da0 n cap0)])]]) (.q 0 (.q 1 (.q 2 (.s 3 (.q 4 (.q 5 (.q 6 (.s 7 (.q 8 (.q 9 .nil)))))))))) (by kernel_rfl) (by kernel_rfl) rfl (by kernel_rfl) (fun w_74 hc_76 => (SL.cons ((h_73.same hc_76).ok _ M0) (SL.cons ((h_73.same hc_76).ok _ M1) (SL.cons ((h_73.same hc_76).ok _ M2) (SL.cons ((h_73.same hc_76).ok _ M3) (SL.cons ((h_73.same hc_76).ok _ M4) (SL.cons ((h_73.same hc_76).ok _ M5) (SL.cons ((h_73.same hc_76).ok _ M10) (SL.cons ((h_73.same hc_76).ok _ M11) (SL.cons ((h_73.same hc_76).ok _ M12) (SL.nil _ _))))))))))) (fun w_74 hc_76 => ?_)
  have h_75 := h_73.same hc_76
  refine qT rfl rfl (fun wq hS => R.loadA [] [(32, (anD id df n (anU id 0 ([] : Lg) (1, (List.replicate 32 (0 : UInt8)), 4, [pcB pg ct, pl].flatten)) (anL id df n 0 ([] : Lg) (1, (List.replicate 32 (0 : UInt8)), 4, [pcB pg ct, pl].flatten)) (1, (List.replicate 32 (0 : UInt8)), 6, leN 8 (UInt64.ofNat pg).toNat)).map vu8)] [] (cs := (anD id df n (anU id 0 ([] : Lg) (1, (List.replicate 32 (0 : UInt8)), 4, [pcB pg ct, pl].flatten)) (anL id df n 0 ([] : Lg) (1, (List.replicate 32 (0 : UInt8)), 4, [pcB pg ct, pl].flatten)) (1, (List.replicate 32 (0 : UInt8)), 6, leN 8 (UInt64.ofNat pg).toNat)).map vu8) rfl isAgg23 sizeOf23 (hS _ M0) rfl rfl rfl rfl) ?_
  refine qT rfl rfl (fun wq hS => R.move (v := (pO b_18 0)) rfl) ?_
  refine qT rfl rfl (fun wq hS => R.move (v := (vn pg)) rfl) ?_
  refine WT.s (oN rfl ?_)
  have h_80 := (((h_75.up J9).up J9).up J9).up J9
  refine WL.call Tryz.call17 rfl rfl (c_rNone id b_18 ms df hms da0 n cap0 (anU id 0 ([] : Lg) (1, (List.replicate 32 (0 : UInt8)), 4, [pcB pg ct, pl].flatten)) hl la_48 lc_49 lx_50 (anL id df n 0 ([] : Lg) (1, (List.replicate 32 (0 : UInt8)), 4, [pcB pg ct, pl].flatten)) (by first | decide | omega | exact Nat.le_trans (anU_le ..) (by decide) | exact Nat.le_trans (anU_le ..) (Nat.le_trans (Nat.succ_le_succ (anU_le ..)) (by decide)) | exact Nat.le_trans (anU_le ..) (Nat.le_trans (Nat.succ_le_succ (Nat.le_trans (anU_le ..) (Nat.succ_le_succ (anU_le ..)))) (by decide))) (by first | decide | omega | exact Nat.le_trans (anL_le ..) (by decide) | exact Nat.le_trans (anL_le ..) (Nat.le_trans (Nat.succ_le_succ (anL_le ..)) (by decide)) | exact Nat.le_trans (anL_le ..) (Nat.le_trans (Nat.succ_le_succ (Nat.le_trans (anL_le ..) (Nat.succ_le_succ (anL_le ..)))) (by decide))) pg _ h_80) rfl ?_
  rintro _ w_84 ⟨la_81, lc_82, lx_83, rfl, h_85⟩
  refine WL.nil ?_
  refine ⟨(N4_5_6_7_8_9_10_11_12 h_85.ok), ?_⟩
  refine qT rfl rfl (fun wq hS => R.neA (xs := (anD id df n (anU id 0 ([] : Lg) (1, (List.replicate 32 (0 : UInt8)), 4, [pcB pg ct, pl].flatten)) (anL id df n 0 ([] : Lg) (1, (List.replicate 32 (0 : UInt8)), 4, [pcB pg ct, pl].flatten)) (1, (List.replicate 32 (0 : UInt8)), 6, leN 8 (UInt64.ofNat pg).toNat)).map vu8) (ys := (anD id df n (anU id 0 ([] : Lg) (1, (List.replicate 32 (0 : UInt8)), 4, [pcB pg ct, pl].flatten)) (anL id df n 0 ([] : Lg) (1, (List.replicate 32 (0 : UInt8)), 4, [pcB pg ct, pl].flatten)) (1, (List.replicate 32 (0 : UInt8)), 6, leN 8 (UInt64.ofNat pg).toNat)).map vu8) (r := false) rfl rfl eqGuardType23 kt23 (by decide) ag23 (Typ.u8s underlying23 ce23 underlying5 ce5 (anD_len hl h32_w_64)) (Typ.u8s underlying23 ce23 underlying5 ce5 (anD_len hl (anL_32 (dn := n) hl okN))) (neT rfl)) ?_
  refine qT rfl rfl (fun wq hS => R.move (v := (.bool false)) rfl) ?_
  refine WT.q rfl (Wn.yes rfl rfl rfl) rfl rfl (fun wq hS => R.move (v := (vi 0)) rfl) ?_
  refine WT.s ?_
  refine Op1.one rfl (Wn.yes rfl rfl rfl) ?_
  refine WL.call Tryz.call15 rfl rfl (c_num16 0 (by omega) _ ) rfl ?_
  rintro _ w_87 ⟨rfl, hc_86⟩
  have h_88 := h_85.same hc_86
  refine WL.nil ?_
  refine ⟨(N4_5_6_7_8_9_10_11_12 h_88.ok), ?_⟩
  refine WT.q rfl (Wn.yes rfl rfl rfl) rfl rfl (fun wq hS => R.bin rfl rfl (bi_neq (r := false) (by decide))) ?_
  refine qT rfl rfl (fun wq hS => R.pickF (v := (.bool false)) rfl rfl) ?_
  refine WT.nil (thn_n ?_)
  refine WP.condF rfl ?_
  refine WP.skip (thn_n (WP.seq ?_))
  refine WP.drawT (SL w.heap.size [.blk b_18 .nw 47 [(1, [(.bool id)]), (32, ms.map vu8), (1, [(.slice da0 n cap0)]), (1, [(vn (anU id (anU id 0 ([] : Lg) (1, (List.replicate 32 (0 : UInt8)), 4, [pcB pg ct, pl].flatten)) (anL id df n 0 ([] : Lg) (1, (List.replicate 32 (0 : UInt8)), 4, [pcB pg ct, pl].flatten)) (1, (List.replicate 32 (0 : UInt8)), 6, leN 8 (UInt64.ofNat pg).toNat)))]), (1, [(.slice la_81 ((anL id df n (anU id 0 ([] : Lg) (1, (List.replicate 32 (0 : UInt8)), 4, [pcB pg ct, pl].flatten)) (anL id df n 0 ([] : Lg) (1, (List.replicate 32 (0 : UInt8)), 4, [pcB pg ct, pl].flatten)) (1, (List.replicate 32 (0 : UInt8)), 6, leN 8 (UInt64.ofNat pg).toNat)).length) lc_82)])], .row la_81 ((anL id df n (anU id 0 ([] : Lg) (1, (List.replicate 32 (0 : UInt8)), 4, [pcB pg ct, pl].flatten)) (anL id df n 0 ([] : Lg) (1, (List.replicate 32 (0 : UInt8)), 4, [pcB pg ct, pl].flatten)) (1, (List.replicate 32 (0 : UInt8)), 6, leN 8 (UInt64.ofNat pg).toNat)).length) lc_82 96 67 lx_83, .pin (sblks lx_83) (fun w => Lgs w lx_83 (anL id df n (anU id 0 ([] : Lg) (1, (List.replicate 32 (0 : UInt8)), 4, [pcB pg ct, pl].flatten)) (anL id df n 0 ([] : Lg) (1, (List.replicate 32 (0 : UInt8)), 4, [pcB pg ct, pl].flatten)) (1, (List.replicate 32 (0 : UInt8)), 6, leN 8 (UInt64.ofNat pg).toNat))), .view da0 (df.map vu8), .blk b_66 .nw 23 [(32, (anD id df n (anU id 0 ([] : Lg) (1, (List.replicate 32 (0 : UInt8)), 4, [pcB pg ct, pl].flatten)) (anL id df n 0 ([] : Lg) (1, (List.replicate 32 (0 : UInt8)), 4, [pcB pg ct, pl].flatten)) (1, (List.replicate 32 (0 : UInt8)), 6, leN 8 (UInt64.ofNat pg).toNat)).map vu8)], .blk b_14 .nw 118 [(1, [(.bool id)]), (32, ms.map vu8), (1, [(.slice a_16 n c_17)]), (1, [(vn (anU id (anU id 0 ([] : Lg) (1, (List.replicate 32 (0 : UInt8)), 4, [pcB pg ct, pl].flatten)) (anL id df n 0 ([] : Lg) (1, (List.replicate 32 (0 : UInt8)), 4, [pcB pg ct, pl].flatten)) (1, (List.replicate 32 (0 : UInt8)), 6, leN 8 (UInt64.ofNat pg).toNat)))]), (1, [(.map (some b_15))]), (1, [(.slice la_61 ((anL id df n (anU id 0 ([] : Lg) (1, (List.replicate 32 (0 : UInt8)), 4, [pcB pg ct, pl].flatten)) (anL id df n 0 ([] : Lg) (1, (List.replicate 32 (0 : UInt8)), 4, [pcB pg ct, pl].flatten)) (1, (List.replicate 32 (0 : UInt8)), 6, leN 8 (UInt64.ofNat pg).toNat)).length) lc_62)])], .row la_61 ((anL id df n (anU id 0 ([] : Lg) (1, (List.replicate 32 (0 : UInt8)), 4, [pcB pg ct, pl].flatten)) (anL id df n 0 ([] : Lg) (1, (List.replicate 32 (0 : UInt8)), 4, [pcB pg ct, pl].flatten)) (1, (List.replicate 32 (0 : UInt8)), 6, leN 8 (UInt64.ofNat pg).toNat)).length) lc_62 96 67 lx_63, .obj b_15 .nw (.map (mArr (anL id df n (anU id 0 ([] : Lg) (1, (List.replicate 32 (0 : UInt8)), 4, [pcB pg ct, pl].flatten)) (anL id df n 0 ([] : Lg) (1, (List.replicate 32 (0 : UInt8)), 4, [pcB pg ct, pl].flatten)) (1, (List.replicate 32 (0 : UInt8)), 6, leN 8 (UInt64.ofNat pg).toNat))) ((anL id df n (anU id 0 ([] : Lg) (1, (List.replicate 32 (0 : UInt8)), 4, [pcB pg ct, pl].flatten)) (anL id df n 0 ([] : Lg) (1, (List.replicate 32 (0 : UInt8)), 4, [pcB pg ct, pl].flatten)) (1, (List.replicate 32 (0 : UInt8)), 6, leN 8 (UInt64.ofNat pg).toNat)).length)), .pin (sblks lx_63) (fun w => Lgs w lx_63 (anL id df n (anU id 0 ([] : Lg) (1, (List.replicate 32 (0 : UInt8)), 4, [pcB pg ct, pl].flatten)) (anL id df n 0 ([] : Lg) (1, (List.replicate 32 (0 : UInt8)), 4, [pcB pg ct, pl].flatten)) (1, (List.replicate 32 (0 : UInt8)), 6, leN 8 (UInt64.ofNat pg).toNat))), .view a_16 (df.map vu8), .blk b_33 .nw 23 [(32, (anD id df n 0 ([] : Lg) (1, (List.replicate 32 (0 : UInt8)), 4, [pcB pg ct, pl].flatten)).map vu8)], .blk b_4 .nw 29 [(128, pl.map vu8)], .blk b_1 .nw 26 [(1, [(.bool id)]), (32, ms.map vu8), (1, [(.slice da0 n cap0)])]]) (.q 0 (.q 2 (.q 3 (.q 4 (.q 5 (.s 1 (.s 6 (.q 7 (.s 8 (.q 9 (.q 10 .nil))))))))))) (by kernel_rfl) (by kernel_rfl) rfl (by kernel_rfl) (fun w_89 hc_91 => (SL.cons ((h_88.same hc_91).ok _ M0) (SL.cons ((h_88.same hc_91).ok _ M1) (SL.cons ((h_88.same hc_91).ok _ M2) (SL.cons ((h_88.same hc_91).ok _ M3) (SL.cons ((h_88.same hc_91).ok _ M4) (SL.cons ((h_88.same hc_91).ok _ M5) (SL.cons ((h_88.same hc_91).ok _ M6) (SL.cons ((h_88.same hc_91).ok _ M7) (SL.cons ((h_88.same hc_91).ok _ M8) (SL.cons ((h_88.same hc_91).ok _ M9) (SL.cons ((h_88.same hc_91).ok _ M10) (SL.cons ((h_88.same hc_91).ok _ M11) (SL.cons ((h_88.same hc_91).ok _ M12) (SL.nil _ _))))))))))))))) (fun w_89 hc_91 => ?_)
  have h_90 := h_88.same hc_91
  refine qT rfl rfl (fun wq hS => R.move (v := (pO b_14 0)) rfl) ?_
  refine qT rfl rfl (fun wq hS => R.move (v := (pO b_18 0)) rfl) ?_
  refine qT rfl rfl (fun wq hS => R.nilCheck rfl) ?_
  refine qT rfl rfl (fun wq hS => R.fieldAddr (off' := 35) rfl underlying47 rfl sizeOf44 rfl rfl) ?_
  refine qT rfl rfl (fun wq hS => R.load1 rfl isAgg44 (hS _ M0) (Sg.t rfl (Sg.t rfl (Sg.t rfl (Sg.t rfl Sg.h))))) ?_
  refine WT.s (oN rfl ?_)
  have h_96 := ((((h_90.up J9).up J9).up J9).up J9).up J9
  refine WL.call Tryz.call19 rfl rfl (c_oLog id b_14 b_15 ms df hms a_16 n c_17 (anU id (anU id 0 ([] : Lg) (1, (List.replicate 32 (0 : UInt8)), 4, [pcB pg ct, pl].flatten)) (anL id df n 0 ([] : Lg) (1, (List.replicate 32 (0 : UInt8)), 4, [pcB pg ct, pl].flatten)) (1, (List.replicate 32 (0 : UInt8)), 6, leN 8 (UInt64.ofNat pg).toNat)) hl la_61 lc_62 lx_63 (anL id df n (anU id 0 ([] : Lg) (1, (List.replicate 32 (0 : UInt8)), 4, [pcB pg ct, pl].flatten)) (anL id df n 0 ([] : Lg) (1, (List.replicate 32 (0 : UInt8)), 4, [pcB pg ct, pl].flatten)) (1, (List.replicate 32 (0 : UInt8)), 6, leN 8 (UInt64.ofNat pg).toNat)) (by first | decide | omega | exact Nat.le_trans (anU_le ..) (by decide) | exact Nat.le_trans (anU_le ..) (Nat.le_trans (Nat.succ_le_succ (anU_le ..)) (by decide)) | exact Nat.le_trans (anU_le ..) (Nat.le_trans (Nat.succ_le_succ (Nat.le_trans (anU_le ..) (Nat.succ_le_succ (anU_le ..)))) (by decide))) (by first | decide | omega | exact Nat.le_trans (anL_le ..) (by decide) | exact Nat.le_trans (anL_le ..) (Nat.le_trans (Nat.succ_le_succ (anL_le ..)) (by decide)) | exact Nat.le_trans (anL_le ..) (Nat.le_trans (Nat.succ_le_succ (Nat.le_trans (anL_le ..) (Nat.succ_le_succ (anL_le ..)))) (by decide))) _ h_96) rfl ?_
  rintro _ w_100 ⟨a_97, c_98, ys_99, rfl, h_101⟩
  refine WL.nil ?_
  refine ⟨(N7_8_9_10_11_2_3_4_5_6_12_13_14 h_101.ok), ?_⟩
  refine WT.s (oN rfl ?_)
  refine WL.call Tryz.call18 rfl rfl (c_rSameLog a_97 ((anL id df n (anU id 0 ([] : Lg) (1, (List.replicate 32 (0 : UInt8)), 4, [pcB pg ct, pl].flatten)) (anL id df n 0 ([] : Lg) (1, (List.replicate 32 (0 : UInt8)), 4, [pcB pg ct, pl].flatten)) (1, (List.replicate 32 (0 : UInt8)), 6, leN 8 (UInt64.ofNat pg).toNat)).length) c_98 ys_99 (anL id df n (anU id 0 ([] : Lg) (1, (List.replicate 32 (0 : UInt8)), 4, [pcB pg ct, pl].flatten)) (anL id df n 0 ([] : Lg) (1, (List.replicate 32 (0 : UInt8)), 4, [pcB pg ct, pl].flatten)) (1, (List.replicate 32 (0 : UInt8)), 6, leN 8 (UInt64.ofNat pg).toNat)) rfl (by first | decide | exact Nat.le_trans (anL_le ..) (by decide) | exact Nat.le_trans (anL_le ..) (Nat.le_trans (Nat.succ_le_succ (anL_le ..)) (by decide)) | exact Nat.le_trans (anL_le ..) (Nat.le_trans (Nat.succ_le_succ (Nat.le_trans (anL_le ..) (Nat.succ_le_succ (anL_le ..)))) (by decide))) la_81 lc_82 lx_83 _ (ownView (h_101.ok _ M0)) (h_101.ok _ M1).1 (ownView (h_101.ok _ M8)) (h_101.ok _ M9).1) rfl ?_
  rintro _ w_103 ⟨rfl, hc_102⟩
  have h_104 := h_101.same hc_102
  refine WL.nil ?_
  refine ⟨(N7_8_9_10_11_2_3_4_5_6_12_13_14 h_104.ok), ?_⟩
  refine qT rfl rfl (fun wq hS => R.move (v := (.bool true)) (rfl)) ?_
  refine WT.s ?_
  refine Op1.one rfl (Wn.yes rfl rfl rfl) ?_
  refine WL.call Tryz.call10 rfl rfl (c_known16  _ ) rfl ?_
  rintro _ w_106 ⟨rfl, hc_105⟩
  have h_107 := h_104.same hc_105
  refine WL.nil ?_
  refine ⟨(N7_8_9_10_11_2_3_4_5_6_12_13_14 h_107.ok), ?_⟩
  refine qT rfl rfl (fun wq hS => R.pickT (v := (.bool true)) rfl rfl) ?_
  refine qT rfl rfl (fun wq hS => R.assign (v := (.bool true)) rfl) ?_
  refine WT.nil (thn_n (WP.ret ?_))
  refine ret_of results3 (RV.tmp (v := (.bool true)) rfl RV.nil) ?_
  exact ⟨rfl, h_107.chgS⟩

theorem w_BL_ct (id : Bool) (ms df : List UInt8) (hms : ms.length = 32) (da0 : Option Addr) (n cap0 : Nat) (hl : df.length = 32 * n) (pl : List UInt8) (hpl : pl.length = 128) (pg : Nat) (h : pg < 128) (ct : UInt64) (hctb : ct > 4294967296) (w : World) (hv : View w da0 (df.map vu8)) :
  Cs Tryz.prog 3 [(.agg ⟨flat [(1, [(.bool id)]), (32, ms.map vu8), (1, [(.slice da0 n cap0)])]⟩), (vi ((pg : Nat) : Int)), (vu64 ct), (.agg ⟨pl.map vu8⟩)].toArray w (fun v w1 => v = (.bool true) ∧ Chg w w1 []) := by
 refine Cs.of (n := 92) (args := [(.agg ⟨flat [(1, [(.bool id)]), (32, ms.map vu8), (1, [(.slice da0 n cap0)])]⟩), (vn pg), (vu64 ct), (.agg ⟨pl.map vu8⟩)]) Tryz.func3 rfl rfl rfl ?_
 have h_0 := HP.init w
 have h_00 := h_0.old (View.arg hv) (fun f hf => by cases hf)
 refine WP.seq (WP.reg ?_)
 refine WL.box (v := (.agg ⟨flat [(1, [(.bool id)]), (32, ms.map vu8), (1, [(.slice da0 n cap0)])]⟩)) (segs := [(1, [(.bool id)]), (32, ms.map vu8), (1, [(.slice da0 n cap0)])]) h_00 rfl rfl (sC sV (sC (s8 hms) (sC sV sN))) rfl (fun b_1 w_2 h_3 => ?_)
 refine WL.box (v := (.agg ⟨pl.map vu8⟩)) (segs := [(128, pl.map vu8)]) h_3 rfl rfl (sC (s8 hpl) sN) rfl (fun b_4 w_5 h_6 => ?_)
 refine qA (.bool false) rfl rfl ?_
 refine WL.nil (thn_n (WP.seq (WP.seq (WP.reg ?_))))
 refine qV rfl (R.fieldAddr (off' := 33) rfl underlying26 rfl sizeOf24 rfl rfl) (qV rfl (R.load1 rfl isAgg24 (h_6.ok _ M1) (Sg.t rfl (Sg.t rfl Sg.h))) (qV rfl (R.lenS (a := da0) (m := n) rfl rfl underlying24) (qV rfl (R.bin rfl rfl (bi_gtr (r := decide ((((n : Nat) : Int) : Int) > 60)) rfl)) ?_)))
 refine WL.nil (thn_n ?_)
 refine WP.cond (b := decide ((((n : Nat) : Int) : Int) > 60)) rfl (fun c_7 => ?_) (fun c_7 => ?_)
 ·have p_8 := of_decide_eq_true c_7
  refine WP.seq (WP.reg ?_)
  refine WL.call Tryz.call10 rfl rfl (c_known16  _ ) rfl ?_
  rintro _ w_10 ⟨rfl, hc_9⟩
  have h_11 := h_6.same hc_9
  refine qA (.bool true) rfl rfl ?_
  refine WL.nil (thn_n (WP.ret (thn_r ?_)))
  refine ret_of results3 (RV.tmp (v := (.bool true)) rfl RV.nil) ?_
  exact ⟨rfl, h_11.chgS⟩
 ·have p_12 := of_decide_eq_false c_7
  refine WP.skip (thn_n (WP.seq (WP.reg ?_)))
  refine qV rfl (R.loadA [] [(1, [(.bool id)]), (32, ms.map vu8), (1, [(.slice da0 n cap0)])] [] (cs := flat [(1, [(.bool id)]), (32, ms.map vu8), (1, [(.slice da0 n cap0)])]) rfl isAgg26 sizeOf26 (h_6.ok _ M1) rfl rfl rfl rfl) ?_
  have h_13 := h_6.up J2
  refine WL.call Tryz.call11 rfl rfl (c_both16 id ms df hms da0 n cap0 hl (by omega) _ h_13) rfl ?_
  rintro _ w_19 ⟨b_14, b_15, a_16, c_17, b_18, rfl, h_20⟩
  have h_21 := h_20.rowNil 96 67
  have h_22 := HP_logNil h_21
  refine qM (.tuple [(pO b_14 0), (pO b_18 0)].toArray) rfl rfl (qV rfl (R.extract rfl rfl) (qV rfl (R.extract rfl rfl) (qA (pO b_14 0) rfl rfl (qA (pO b_18 0) rfl rfl ?_))))
  refine WL.nil (thn_n (WP.seq (WP.reg ?_)))
  refine qM (pO b_14 0) rfl rfl (qM (vn pg) rfl rfl (qM (vu64 ct) rfl rfl (qV rfl (R.loadA [] [(128, pl.map vu8)] [] (cs := pl.map vu8) rfl isAgg29 sizeOf29 (h_22.ok _ M9) rfl rfl rfl rfl) ?_)))
  refine WL.call Tryz.call12 rfl rfl (c_Leaf_ct id b_14 b_15 ms hms a_16 n c_17 0 none 0 0 pl hpl pg ct (by omega) hctb _ (h_22.argR M2)) rfl ?_
  rintro _ w_24 ⟨rfl, hc_23⟩
  have h_25 := h_22.same hc_23
  refine qM (.tuple [(.agg ⟨(List.replicate 32 (0 : UInt8)).map vu8⟩), (vi 2)].toArray) rfl rfl (qV rfl (R.extract rfl rfl) (qV rfl (R.extract rfl rfl) ?_))
  refine WL.alloc (segs := [(32, (List.replicate 32 (0 : UInt8)).map vu8)]) h_25 (zv typeInfo23 rfl) rfl (sC (s8 lr) sN) rfl (fun b_26 w_27 h_28 => ?_)
  refine WL.storeA (b := b_26) (off := 0) [] [(32, (List.replicate 32 (0 : UInt8)).map vu8)] [(32, (List.replicate 32 (0 : UInt8)).map vu8)] [] (ys := (List.replicate 32 (0 : UInt8)).map vu8) h_28 rfl rfl sizeOf23 At.h (by decide) rfl rfl rfl rfl rfl rfl (sC (s8 lr) sN) (fun w_29 h_30 => ?_)
  refine qA (vi 2) rfl rfl ?_
  refine WL.nil (thn_n (WP.seq (WP.seq (WP.reg ?_))))
  refine qM (vn pg) rfl rfl (qM (vu64 ct) rfl rfl ?_)
  refine WL.call Tryz.call13 rfl rfl (c_May16 pg ct (by omega) _ ) rfl ?_
  rintro _ w_32 ⟨rfl, hc_31⟩
  have h_33 := h_30.same hc_31
  refine WL.nil (thn_n ?_)
  refine WP.condF (congrArg Value.bool (decide_eq_false (UInt64.not_le.2 hctb))) ?_
  refine WP.seq (WP.reg ?_)
  refine qV rfl (R.loadA [] [(32, (List.replicate 32 (0 : UInt8)).map vu8)] [] (cs := (List.replicate 32 (0 : UInt8)).map vu8) rfl isAgg23 sizeOf23 (h_33.ok _ M0) rfl rfl rfl rfl) (qV rfl (R.buildA (vs := []) (cs := (List.replicate 32 (0 : UInt8)).map vu8) underlying23 sizeOf5 (zv typeInfo23 rfl) rfl rfl) (qV rfl (R.neA (xs := (List.replicate 32 (0 : UInt8)).map vu8) (ys := (List.replicate 32 (0 : UInt8)).map vu8) (r := false) rfl rfl eqGuardType23 kt23 (by decide) ag23 (Typ.u8s underlying23 ce23 underlying5 ce5 lr) (Typ.u8s underlying23 ce23 underlying5 ce5 lr) (neT rfl)) (qM (.bool false) rfl rfl ?_)))
  refine WL.want rfl rfl ?_
  refine qM (vi 2) rfl rfl ?_
  refine WL.want rfl rfl ?_
  refine WL.call Tryz.call15 rfl rfl (c_num16 2 (by omega) _ ) rfl ?_
  rintro _ w_35 ⟨rfl, hc_34⟩
  have h_36 := h_33.same hc_34
  refine WL.want rfl rfl ?_
  refine qV rfl (R.bin rfl rfl (bi_neq (r := false) (by decide))) (qV rfl (R.pickF (v := (.bool false)) rfl rfl) ?_)
  refine WL.nil (thn_n ?_)
  refine WP.condF rfl ?_
  refine WP.skip (thn_n (WP.seq (WP.reg ?_)))
  refine qM (pO b_14 0) rfl rfl (qM (vn pg) rfl rfl ?_)
  have h_41 := ((((h_36.up J7).up J2).up J6).up J4).up J5
  have h32_w_45 := Lgs.ok32 (h_41.ok _ M3).1
  refine WL.call Tryz.call16 rfl rfl (c_None id b_14 b_15 ms df hms a_16 n c_17 0 hl none 0 [] ([] : Lg) (by first | decide | omega | exact Nat.le_trans (anU_le ..) (by decide) | exact Nat.le_trans (anU_le ..) (Nat.le_trans (Nat.succ_le_succ (anU_le ..)) (by decide)) | exact Nat.le_trans (anU_le ..) (Nat.le_trans (Nat.succ_le_succ (Nat.le_trans (anU_le ..) (Nat.succ_le_succ (anU_le ..)))) (by decide))) (by first | decide | omega | exact Nat.le_trans (anL_le ..) (by decide) | exact Nat.le_trans (anL_le ..) (Nat.le_trans (Nat.succ_le_succ (anL_le ..)) (by decide)) | exact Nat.le_trans (anL_le ..) (Nat.le_trans (Nat.succ_le_succ (Nat.le_trans (anL_le ..) (Nat.succ_le_succ (anL_le ..)))) (by decide))) pg (by omega) _ h_41) rfl ?_
  rintro _ w_45 ⟨la_42, lc_43, lx_44, rfl, h_46⟩
  refine qM (.tuple [(.agg ⟨(anD id df n 0 ([] : Lg) (1, (List.replicate 32 (0 : UInt8)), 6, leN 8 (UInt64.ofNat pg).toNat)).map vu8⟩), (vi 0)].toArray) rfl rfl (qV rfl (R.extract rfl rfl) (qV rfl (R.extract rfl rfl) ?_))
  refine WL.alloc (segs := [(32, (List.replicate 32 (0 : UInt8)).map vu8)]) h_46 (zv typeInfo23 rfl) rfl (sC (s8 lr) sN) rfl (fun b_47 w_48 h_49 => ?_)
  refine WL.storeA (b := b_47) (off := 0) [] [(32, (List.replicate 32 (0 : UInt8)).map vu8)] [(32, (anD id df n 0 ([] : Lg) (1, (List.replicate 32 (0 : UInt8)), 6, leN 8 (UInt64.ofNat pg).toNat)).map vu8)] [] (ys := (anD id df n 0 ([] : Lg) (1, (List.replicate 32 (0 : UInt8)), 6, leN 8 (UInt64.ofNat pg).toNat)).map vu8) h_49 rfl rfl sizeOf23 At.h (by decide) rfl rfl rfl rfl rfl rfl (sC (s8 (anD_len hl h32_w_45)) sN) (fun w_50 h_51 => ?_)
  refine qA (vi 0) rfl rfl ?_
  refine WL.nil (thn_n (WP.seq (WP.seq (WP.reg ?_))))
  refine qM (vn pg) rfl rfl ?_
  refine WL.call Tryz.call13 rfl rfl (c_May16 pg (0 : UInt64) (by omega) _ ) rfl ?_
  rintro _ w_53 ⟨rfl, hc_52⟩
  have h_54 := h_51.same hc_52
  refine WL.nil (thn_n ?_)
  refine WP.condT rfl ?_
  refine WP.seq ?_
  refine WP.drawT (SL w.heap.size [.blk b_47 .nw 23 [(32, (anD id df n 0 ([] : Lg) (1, (List.replicate 32 (0 : UInt8)), 6, leN 8 (UInt64.ofNat pg).toNat)).map vu8)], .blk b_14 .nw 118 [(1, [(.bool id)]), (32, ms.map vu8), (1, [(.slice a_16 n c_17)]), (1, [(vn (anU id 0 ([] : Lg) (1, (List.replicate 32 (0 : UInt8)), 6, leN 8 (UInt64.ofNat pg).toNat)))]), (1, [(.map (some b_15))]), (1, [(.slice la_42 ((anL id df n 0 ([] : Lg) (1, (List.replicate 32 (0 : UInt8)), 6, leN 8 (UInt64.ofNat pg).toNat)).length) lc_43)])], .row la_42 ((anL id df n 0 ([] : Lg) (1, (List.replicate 32 (0 : UInt8)), 6, leN 8 (UInt64.ofNat pg).toNat)).length) lc_43 96 67 lx_44, .obj b_15 .nw (.map (mArr (anL id df n 0 ([] : Lg) (1, (List.replicate 32 (0 : UInt8)), 6, leN 8 (UInt64.ofNat pg).toNat))) ((anL id df n 0 ([] : Lg) (1, (List.replicate 32 (0 : UInt8)), 6, leN 8 (UInt64.ofNat pg).toNat)).length)), .pin (sblks lx_44) (fun w => Lgs w lx_44 (anL id df n 0 ([] : Lg) (1, (List.replicate 32 (0 : UInt8)), 6, leN 8 (UInt64.ofNat pg).toNat))), .view a_16 (df.map vu8), .blk b_26 .nw 23 [(32, (List.replicate 32 (0 : UInt8)).map vu8)], .blk b_4 .nw 29 [(128, pl.map vu8)], .blk b_1 .nw 26 [(1, [(.bool id)]), (32, ms.map vu8), (1, [(.slice da0 n cap0)])]]) (.q 0 (.q 1 (.q 2 (.s 3 (.q 4 (.q 5 (.q 6 (.s 7 (.q 8 (.q 9 .nil)))))))))) (by kernel_rfl) (by kernel_rfl) rfl (by kernel_rfl) (fun w_55 hc_57 => (SL.cons ((h_54.same hc_57).ok _ M0) (SL.cons ((h_54.same hc_57).ok _ M1) (SL.cons ((h_54.same hc_57).ok _ M2) (SL.cons ((h_54.same hc_57).ok _ M3) (SL.cons ((h_54.same hc_57).ok _ M4) (SL.cons ((h_54.same hc_57).ok _ M5) (SL.cons ((h_54.same hc_57).ok _ M6) (SL.cons ((h_54.same hc_57).ok _ M11) (SL.cons ((h_54.same hc_57).ok _ M12) (SL.nil _ _))))))))))) (fun w_55 hc_57 => ?_)
  have h_56 := h_54.same hc_57
  refine qT rfl rfl (fun wq hS => R.loadA [] [(32, (anD id df n 0 ([] : Lg) (1, (List.replicate 32 (0 : UInt8)), 6, leN 8 (UInt64.ofNat pg).toNat)).map vu8)] [] (cs := (anD id df n 0 ([] : Lg) (1, (List.replicate 32 (0 : UInt8)), 6, leN 8 (UInt64.ofNat pg).toNat)).map vu8) rfl isAgg23 sizeOf23 (hS _ M0) rfl rfl rfl rfl) ?_
  refine qT rfl rfl (fun wq hS => R.move (v := (pO b_18 0)) rfl) ?_
  refine qT rfl rfl (fun wq hS => R.move (v := (vn pg)) rfl) ?_
  refine WT.s (oN rfl ?_)
  have h_61 := (((h_56.up J10).up J9).up J9).up J10
  refine WL.call Tryz.call17 rfl rfl (c_rNone id b_18 ms df hms da0 n cap0 0 hl none 0 [] ([] : Lg) (by first | decide | omega | exact Nat.le_trans (anU_le ..) (by decide) | exact Nat.le_trans (anU_le ..) (Nat.le_trans (Nat.succ_le_succ (anU_le ..)) (by decide)) | exact Nat.le_trans (anU_le ..) (Nat.le_trans (Nat.succ_le_succ (Nat.le_trans (anU_le ..) (Nat.succ_le_succ (anU_le ..)))) (by decide))) (by first | decide | omega | exact Nat.le_trans (anL_le ..) (by decide) | exact Nat.le_trans (anL_le ..) (Nat.le_trans (Nat.succ_le_succ (anL_le ..)) (by decide)) | exact Nat.le_trans (anL_le ..) (Nat.le_trans (Nat.succ_le_succ (Nat.le_trans (anL_le ..) (Nat.succ_le_succ (anL_le ..)))) (by decide))) pg _ h_61) rfl ?_
  rintro _ w_65 ⟨la_62, lc_63, lx_64, rfl, h_66⟩
  refine WL.nil ?_
  refine ⟨(N4_5_6_7_8_9_10_11_12 h_66.ok), ?_⟩
  refine qT rfl rfl (fun wq hS => R.neA (xs := (anD id df n 0 ([] : Lg) (1, (List.replicate 32 (0 : UInt8)), 6, leN 8 (UInt64.ofNat pg).toNat)).map vu8) (ys := (anD id df n 0 ([] : Lg) (1, (List.replicate 32 (0 : UInt8)), 6, leN 8 (UInt64.ofNat pg).toNat)).map vu8) (r := false) rfl rfl eqGuardType23 kt23 (by decide) ag23 (Typ.u8s underlying23 ce23 underlying5 ce5 (anD_len hl h32_w_45)) (Typ.u8s underlying23 ce23 underlying5 ce5 (anD_len hl okN)) (neT rfl)) ?_
  refine qT rfl rfl (fun wq hS => R.move (v := (.bool false)) rfl) ?_
  refine WT.q rfl (Wn.yes rfl rfl rfl) rfl rfl (fun wq hS => R.move (v := (vi 0)) rfl) ?_
  refine WT.s ?_
  refine Op1.one rfl (Wn.yes rfl rfl rfl) ?_
  refine WL.call Tryz.call15 rfl rfl (c_num16 0 (by omega) _ ) rfl ?_
  rintro _ w_68 ⟨rfl, hc_67⟩
  have h_69 := h_66.same hc_67
  refine WL.nil ?_
  refine ⟨(N4_5_6_7_8_9_10_11_12 h_69.ok), ?_⟩
  refine WT.q rfl (Wn.yes rfl rfl rfl) rfl rfl (fun wq hS => R.bin rfl rfl (bi_neq (r := false) (by decide))) ?_
  refine qT rfl rfl (fun wq hS => R.pickF (v := (.bool false)) rfl rfl) ?_
  refine WT.nil (thn_n ?_)
  refine WP.condF rfl ?_
  refine WP.skip (thn_n (WP.seq ?_))
  refine WP.drawT (SL w.heap.size [.blk b_18 .nw 47 [(1, [(.bool id)]), (32, ms.map vu8), (1, [(.slice da0 n cap0)]), (1, [(vn (anU id 0 ([] : Lg) (1, (List.replicate 32 (0 : UInt8)), 6, leN 8 (UInt64.ofNat pg).toNat)))]), (1, [(.slice la_62 ((anL id df n 0 ([] : Lg) (1, (List.replicate 32 (0 : UInt8)), 6, leN 8 (UInt64.ofNat pg).toNat)).length) lc_63)])], .row la_62 ((anL id df n 0 ([] : Lg) (1, (List.replicate 32 (0 : UInt8)), 6, leN 8 (UInt64.ofNat pg).toNat)).length) lc_63 96 67 lx_64, .pin (sblks lx_64) (fun w => Lgs w lx_64 (anL id df n 0 ([] : Lg) (1, (List.replicate 32 (0 : UInt8)), 6, leN 8 (UInt64.ofNat pg).toNat))), .view da0 (df.map vu8), .blk b_47 .nw 23 [(32, (anD id df n 0 ([] : Lg) (1, (List.replicate 32 (0 : UInt8)), 6, leN 8 (UInt64.ofNat pg).toNat)).map vu8)], .blk b_14 .nw 118 [(1, [(.bool id)]), (32, ms.map vu8), (1, [(.slice a_16 n c_17)]), (1, [(vn (anU id 0 ([] : Lg) (1, (List.replicate 32 (0 : UInt8)), 6, leN 8 (UInt64.ofNat pg).toNat)))]), (1, [(.map (some b_15))]), (1, [(.slice la_42 ((anL id df n 0 ([] : Lg) (1, (List.replicate 32 (0 : UInt8)), 6, leN 8 (UInt64.ofNat pg).toNat)).length) lc_43)])], .row la_42 ((anL id df n 0 ([] : Lg) (1, (List.replicate 32 (0 : UInt8)), 6, leN 8 (UInt64.ofNat pg).toNat)).length) lc_43 96 67 lx_44, .obj b_15 .nw (.map (mArr (anL id df n 0 ([] : Lg) (1, (List.replicate 32 (0 : UInt8)), 6, leN 8 (UInt64.ofNat pg).toNat))) ((anL id df n 0 ([] : Lg) (1, (List.replicate 32 (0 : UInt8)), 6, leN 8 (UInt64.ofNat pg).toNat)).length)), .pin (sblks lx_44) (fun w => Lgs w lx_44 (anL id df n 0 ([] : Lg) (1, (List.replicate 32 (0 : UInt8)), 6, leN 8 (UInt64.ofNat pg).toNat))), .view a_16 (df.map vu8), .blk b_26 .nw 23 [(32, (List.replicate 32 (0 : UInt8)).map vu8)], .blk b_4 .nw 29 [(128, pl.map vu8)], .blk b_1 .nw 26 [(1, [(.bool id)]), (32, ms.map vu8), (1, [(.slice da0 n cap0)])]]) (.q 0 (.q 2 (.q 3 (.q 4 (.q 5 (.s 1 (.s 6 (.q 7 (.s 8 (.q 9 (.q 10 .nil))))))))))) (by kernel_rfl) (by kernel_rfl) rfl (by kernel_rfl) (fun w_70 hc_72 => (SL.cons ((h_69.same hc_72).ok _ M0) (SL.cons ((h_69.same hc_72).ok _ M1) (SL.cons ((h_69.same hc_72).ok _ M2) (SL.cons ((h_69.same hc_72).ok _ M3) (SL.cons ((h_69.same hc_72).ok _ M4) (SL.cons ((h_69.same hc_72).ok _ M5) (SL.cons ((h_69.same hc_72).ok _ M6) (SL.cons ((h_69.same hc_72).ok _ M7) (SL.cons ((h_69.same hc_72).ok _ M8) (SL.cons ((h_69.same hc_72).ok _ M9) (SL.cons ((h_69.same hc_72).ok _ M10) (SL.cons ((h_69.same hc_72).ok _ M11) (SL.cons ((h_69.same hc_72).ok _ M12) (SL.nil _ _))))))))))))))) (fun w_70 hc_72 => ?_)
  have h_71 := h_69.same hc_72
  refine qT rfl rfl (fun wq hS => R.move (v := (pO b_14 0)) rfl) ?_
  refine qT rfl rfl (fun wq hS => R.move (v := (pO b_18 0)) rfl) ?_
  refine qT rfl rfl (fun wq hS => R.nilCheck rfl) ?_
  refine qT rfl rfl (fun wq hS => R.fieldAddr (off' := 35) rfl underlying47 rfl sizeOf44 rfl rfl) ?_
  refine qT rfl rfl (fun wq hS => R.load1 rfl isAgg44 (hS _ M0) (Sg.t rfl (Sg.t rfl (Sg.t rfl (Sg.t rfl Sg.h))))) ?_
  refine WT.s (oN rfl ?_)
  have h_77 := ((((h_71.up J9).up J9).up J9).up J9).up J9
  refine WL.call Tryz.call19 rfl rfl (c_oLog id b_14 b_15 ms df hms a_16 n c_17 (anU id 0 ([] : Lg) (1, (List.replicate 32 (0 : UInt8)), 6, leN 8 (UInt64.ofNat pg).toNat)) hl la_42 lc_43 lx_44 (anL id df n 0 ([] : Lg) (1, (List.replicate 32 (0 : UInt8)), 6, leN 8 (UInt64.ofNat pg).toNat)) (by first | decide | omega | exact Nat.le_trans (anU_le ..) (by decide) | exact Nat.le_trans (anU_le ..) (Nat.le_trans (Nat.succ_le_succ (anU_le ..)) (by decide)) | exact Nat.le_trans (anU_le ..) (Nat.le_trans (Nat.succ_le_succ (Nat.le_trans (anU_le ..) (Nat.succ_le_succ (anU_le ..)))) (by decide))) (by first | decide | omega | exact Nat.le_trans (anL_le ..) (by decide) | exact Nat.le_trans (anL_le ..) (Nat.le_trans (Nat.succ_le_succ (anL_le ..)) (by decide)) | exact Nat.le_trans (anL_le ..) (Nat.le_trans (Nat.succ_le_succ (Nat.le_trans (anL_le ..) (Nat.succ_le_succ (anL_le ..)))) (by decide))) _ h_77) rfl ?_
  rintro _ w_81 ⟨a_78, c_79, ys_80, rfl, h_82⟩
  refine WL.nil ?_
  refine ⟨(N7_8_9_10_11_2_3_4_5_6_12_13_14 h_82.ok), ?_⟩
  refine WT.s (oN rfl ?_)
  refine WL.call Tryz.call18 rfl rfl (c_rSameLog a_78 ((anL id df n 0 ([] : Lg) (1, (List.replicate 32 (0 : UInt8)), 6, leN 8 (UInt64.ofNat pg).toNat)).length) c_79 ys_80 (anL id df n 0 ([] : Lg) (1, (List.replicate 32 (0 : UInt8)), 6, leN 8 (UInt64.ofNat pg).toNat)) rfl (by first | decide | exact Nat.le_trans (anL_le ..) (by decide) | exact Nat.le_trans (anL_le ..) (Nat.le_trans (Nat.succ_le_succ (anL_le ..)) (by decide)) | exact Nat.le_trans (anL_le ..) (Nat.le_trans (Nat.succ_le_succ (Nat.le_trans (anL_le ..) (Nat.succ_le_succ (anL_le ..)))) (by decide))) la_62 lc_63 lx_64 _ (ownView (h_82.ok _ M0)) (h_82.ok _ M1).1 (ownView (h_82.ok _ M8)) (h_82.ok _ M9).1) rfl ?_
  rintro _ w_84 ⟨rfl, hc_83⟩
  have h_85 := h_82.same hc_83
  refine WL.nil ?_
  refine ⟨(N7_8_9_10_11_2_3_4_5_6_12_13_14 h_85.ok), ?_⟩
  refine qT rfl rfl (fun wq hS => R.move (v := (.bool true)) (rfl)) ?_
  refine WT.s ?_
  refine Op1.one rfl (Wn.yes rfl rfl rfl) ?_
  refine WL.call Tryz.call10 rfl rfl (c_known16  _ ) rfl ?_
  rintro _ w_87 ⟨rfl, hc_86⟩
  have h_88 := h_85.same hc_86
  refine WL.nil ?_
  refine ⟨(N7_8_9_10_11_2_3_4_5_6_12_13_14 h_88.ok), ?_⟩
  refine qT rfl rfl (fun wq hS => R.pickT (v := (.bool true)) rfl rfl) ?_
  refine qT rfl rfl (fun wq hS => R.assign (v := (.bool true)) rfl) ?_
  refine WT.nil (thn_n (WP.ret ?_))
  refine ret_of results3 (RV.tmp (v := (.bool true)) rfl RV.nil) ?_
  exact ⟨rfl, h_88.chgS⟩

theorem w_BL_no (id : Bool) (ms df : List UInt8) (hms : ms.length = 32) (da0 : Option Addr) (n cap0 : Nat) (hl : df.length = 32 * n) (pl : List UInt8) (hpl : pl.length = 128) (pg : Int) (hpg : ¬ (0 ≤ pg ∧ pg < 128)) (ct : UInt64) (w : World) (hv : View w da0 (df.map vu8)) :
  Cs Tryz.prog 3 [(.agg ⟨flat [(1, [(.bool id)]), (32, ms.map vu8), (1, [(.slice da0 n cap0)])]⟩), (vi pg), (vu64 ct), (.agg ⟨pl.map vu8⟩)].toArray w (fun v w1 => v = (.bool true) ∧ Chg w w1 []) := by
 refine Cs.of (n := 92) (args := [(.agg ⟨flat [(1, [(.bool id)]), (32, ms.map vu8), (1, [(.slice da0 n cap0)])]⟩), (vi pg), (vu64 ct), (.agg ⟨pl.map vu8⟩)]) Tryz.func3 rfl rfl rfl ?_
 have h_0 := HP.init w
 have h_00 := h_0.old (View.arg hv) (fun f hf => by cases hf)
 refine WP.seq (WP.reg ?_)
 refine WL.box (v := (.agg ⟨flat [(1, [(.bool id)]), (32, ms.map vu8), (1, [(.slice da0 n cap0)])]⟩)) (segs := [(1, [(.bool id)]), (32, ms.map vu8), (1, [(.slice da0 n cap0)])]) h_00 rfl rfl (sC sV (sC (s8 hms) (sC sV sN))) rfl (fun b_1 w_2 h_3 => ?_)
 refine WL.box (v := (.agg ⟨pl.map vu8⟩)) (segs := [(128, pl.map vu8)]) h_3 rfl rfl (sC (s8 hpl) sN) rfl (fun b_4 w_5 h_6 => ?_)
 refine qA (.bool false) rfl rfl ?_
 refine WL.nil (thn_n (WP.seq (WP.seq (WP.reg ?_))))
 refine qV rfl (R.fieldAddr (off' := 33) rfl underlying26 rfl sizeOf24 rfl rfl) (qV rfl (R.load1 rfl isAgg24 (h_6.ok _ M1) (Sg.t rfl (Sg.t rfl Sg.h))) (qV rfl (R.lenS (a := da0) (m := n) rfl rfl underlying24) (qV rfl (R.bin rfl rfl (bi_gtr (r := decide ((((n : Nat) : Int) : Int) > 60)) rfl)) ?_)))
 refine WL.nil (thn_n ?_)
 refine WP.cond (b := decide ((((n : Nat) : Int) : Int) > 60)) rfl (fun c_7 => ?_) (fun c_7 => ?_)
 ·have p_8 := of_decide_eq_true c_7
  refine WP.seq (WP.reg ?_)
  refine WL.call Tryz.call10 rfl rfl (c_known16  _ ) rfl ?_
  rintro _ w_10 ⟨rfl, hc_9⟩
  have h_11 := h_6.same hc_9
  refine qA (.bool true) rfl rfl ?_
  refine WL.nil (thn_n (WP.ret (thn_r ?_)))
  refine ret_of results3 (RV.tmp (v := (.bool true)) rfl RV.nil) ?_
  exact ⟨rfl, h_11.chgS⟩
 ·have p_12 := of_decide_eq_false c_7
  refine WP.skip (thn_n (WP.seq (WP.reg ?_)))
  refine qV rfl (R.loadA [] [(1, [(.bool id)]), (32, ms.map vu8), (1, [(.slice da0 n cap0)])] [] (cs := flat [(1, [(.bool id)]), (32, ms.map vu8), (1, [(.slice da0 n cap0)])]) rfl isAgg26 sizeOf26 (h_6.ok _ M1) rfl rfl rfl rfl) ?_
  have h_13 := h_6.up J2
  refine WL.call Tryz.call11 rfl rfl (c_both16 id ms df hms da0 n cap0 hl (by omega) _ h_13) rfl ?_
  rintro _ w_19 ⟨b_14, b_15, a_16, c_17, b_18, rfl, h_20⟩
  have h_21 := h_20.rowNil 96 67
  have h_22 := HP_logNil h_21
  refine qM (.tuple [(pO b_14 0), (pO b_18 0)].toArray) rfl rfl (qV rfl (R.extract rfl rfl) (qV rfl (R.extract rfl rfl) (qA (pO b_14 0) rfl rfl (qA (pO b_18 0) rfl rfl ?_))))
  refine WL.nil (thn_n (WP.seq (WP.reg ?_)))
  refine qM (pO b_14 0) rfl rfl (qM (vi pg) rfl rfl (qM (vu64 ct) rfl rfl (qV rfl (R.loadA [] [(128, pl.map vu8)] [] (cs := pl.map vu8) rfl isAgg29 sizeOf29 (h_22.ok _ M9) rfl rfl rfl rfl) ?_)))
  refine WL.call Tryz.call12 rfl rfl (c_Leaf_no id b_14 b_15 ms hms a_16 n c_17 0 none 0 0 pl hpl pg hpg ct _ (h_22.argR M2)) rfl ?_
  rintro _ w_24 ⟨rfl, hc_23⟩
  have h_25 := h_22.same hc_23
  refine qM (.tuple [(.agg ⟨(List.replicate 32 (0 : UInt8)).map vu8⟩), (vi 2)].toArray) rfl rfl (qV rfl (R.extract rfl rfl) (qV rfl (R.extract rfl rfl) ?_))
  refine WL.alloc (segs := [(32, (List.replicate 32 (0 : UInt8)).map vu8)]) h_25 (zv typeInfo23 rfl) rfl (sC (s8 lr) sN) rfl (fun b_26 w_27 h_28 => ?_)
  refine WL.storeA (b := b_26) (off := 0) [] [(32, (List.replicate 32 (0 : UInt8)).map vu8)] [(32, (List.replicate 32 (0 : UInt8)).map vu8)] [] (ys := (List.replicate 32 (0 : UInt8)).map vu8) h_28 rfl rfl sizeOf23 At.h (by decide) rfl rfl rfl rfl rfl rfl (sC (s8 lr) sN) (fun w_29 h_30 => ?_)
  refine qA (vi 2) rfl rfl ?_
  refine WL.nil (thn_n (WP.seq (WP.seq (WP.reg ?_))))
  refine qM (vi pg) rfl rfl (qM (vu64 ct) rfl rfl ?_)
  refine WL.call Tryz.call13 rfl rfl (c_May16_no pg hpg ct _ ) rfl ?_
  rintro _ w_32 ⟨rfl, hc_31⟩
  have h_33 := h_30.same hc_31
  refine WL.nil (thn_n ?_)
  refine WP.condF rfl ?_
  refine WP.seq (WP.reg ?_)
  refine qV rfl (R.loadA [] [(32, (List.replicate 32 (0 : UInt8)).map vu8)] [] (cs := (List.replicate 32 (0 : UInt8)).map vu8) rfl isAgg23 sizeOf23 (h_33.ok _ M0) rfl rfl rfl rfl) (qV rfl (R.buildA (vs := []) (cs := (List.replicate 32 (0 : UInt8)).map vu8) underlying23 sizeOf5 (zv typeInfo23 rfl) rfl rfl) (qV rfl (R.neA (xs := (List.replicate 32 (0 : UInt8)).map vu8) (ys := (List.replicate 32 (0 : UInt8)).map vu8) (r := false) rfl rfl eqGuardType23 kt23 (by decide) ag23 (Typ.u8s underlying23 ce23 underlying5 ce5 lr) (Typ.u8s underlying23 ce23 underlying5 ce5 lr) (neT rfl)) (qM (.bool false) rfl rfl ?_)))
  refine WL.want rfl rfl ?_
  refine qM (vi 2) rfl rfl ?_
  refine WL.want rfl rfl ?_
  refine WL.call Tryz.call15 rfl rfl (c_num16 2 (by omega) _ ) rfl ?_
  rintro _ w_35 ⟨rfl, hc_34⟩
  have h_36 := h_33.same hc_34
  refine WL.want rfl rfl ?_
  refine qV rfl (R.bin rfl rfl (bi_neq (r := false) (by decide))) (qV rfl (R.pickF (v := (.bool false)) rfl rfl) ?_)
  refine WL.nil (thn_n ?_)
  refine WP.condF rfl ?_
  refine WP.skip (thn_n (WP.seq (WP.reg ?_)))
  refine qM (pO b_14 0) rfl rfl (qM (vi pg) rfl rfl ?_)
  refine WL.call Tryz.call16 rfl rfl (c_None_no id b_14 b_15 ms hms a_16 n c_17 0 none 0 0 pg hpg _ (h_36.argR M3)) rfl ?_
  rintro _ w_38 ⟨rfl, hc_37⟩
  have h_39 := h_36.same hc_37
  refine qM (.tuple [(.agg ⟨(List.replicate 32 (0 : UInt8)).map vu8⟩), (vi 2)].toArray) rfl rfl (qV rfl (R.extract rfl rfl) (qV rfl (R.extract rfl rfl) ?_))
  refine WL.alloc (segs := [(32, (List.replicate 32 (0 : UInt8)).map vu8)]) h_39 (zv typeInfo23 rfl) rfl (sC (s8 lr) sN) rfl (fun b_40 w_41 h_42 => ?_)
  refine WL.storeA (b := b_40) (off := 0) [] [(32, (List.replicate 32 (0 : UInt8)).map vu8)] [(32, (List.replicate 32 (0 : UInt8)).map vu8)] [] (ys := (List.replicate 32 (0 : UInt8)).map vu8) h_42 rfl rfl sizeOf23 At.h (by decide) rfl rfl rfl rfl rfl rfl (sC (s8 lr) sN) (fun w_43 h_44 => ?_)
  refine qA (vi 2) rfl rfl ?_
  refine WL.nil (thn_n (WP.seq (WP.seq (WP.reg ?_))))
  refine qM (vi pg) rfl rfl ?_
  refine WL.call Tryz.call13 rfl rfl (c_May16_no pg hpg (0 : UInt64) _ ) rfl ?_
  rintro _ w_46 ⟨rfl, hc_45⟩
  have h_47 := h_44.same hc_45
  refine WL.nil (thn_n ?_)
  refine WP.condF rfl ?_
  refine WP.seq (WP.reg ?_)
  refine qV rfl (R.loadA [] [(32, (List.replicate 32 (0 : UInt8)).map vu8)] [] (cs := (List.replicate 32 (0 : UInt8)).map vu8) rfl isAgg23 sizeOf23 (h_47.ok _ M0) rfl rfl rfl rfl) (qV rfl (R.buildA (vs := []) (cs := (List.replicate 32 (0 : UInt8)).map vu8) underlying23 sizeOf5 (zv typeInfo23 rfl) rfl rfl) (qV rfl (R.neA (xs := (List.replicate 32 (0 : UInt8)).map vu8) (ys := (List.replicate 32 (0 : UInt8)).map vu8) (r := false) rfl rfl eqGuardType23 kt23 (by decide) ag23 (Typ.u8s underlying23 ce23 underlying5 ce5 lr) (Typ.u8s underlying23 ce23 underlying5 ce5 lr) (neT rfl)) (qM (.bool false) rfl rfl ?_)))
  refine WL.want rfl rfl ?_
  refine qM (vi 2) rfl rfl ?_
  refine WL.want rfl rfl ?_
  refine WL.call Tryz.call15 rfl rfl (c_num16 2 (by omega) _ ) rfl ?_
  rintro _ w_49 ⟨rfl, hc_48⟩
  have h_50 := h_47.same hc_48
  refine WL.want rfl rfl ?_
  refine qV rfl (R.bin rfl rfl (bi_neq (r := false) (by decide))) (qV rfl (R.pickF (v := (.bool false)) rfl rfl) ?_)
  refine WL.nil (thn_n ?_)
  refine WP.condF rfl ?_
  refine WP.skip (thn_n (WP.seq ?_))
  refine WP.drawT (SL w.heap.size [.blk b_40 .nw 23 [(32, (List.replicate 32 (0 : UInt8)).map vu8)], .blk b_26 .nw 23 [(32, (List.replicate 32 (0 : UInt8)).map vu8)], .pin (sblks []) (fun w => Lgs w [] ([] : Lg)), .row none 0 0 96 67 [], .blk b_14 .nw 118 [(1, [(.bool id)]), (32, ms.map vu8), (1, [(.slice a_16 n c_17)]), (1, [(vi 0)]), (1, [(.map (some b_15))]), (1, [(.slice none 0 0)])], .row none 0 0 96 67 [], .obj b_15 .nw (.map (mArr ([] : Lg)) 0), .pin (sblks []) (fun w => Lgs w [] ([] : Lg)), .view a_16 (df.map vu8), .blk b_18 .nw 47 [(1, [(.bool id)]), (32, ms.map vu8), (1, [(.slice da0 n cap0)]), (1, [(vi 0)]), (1, [(.slice none 0 0)])], .view da0 (df.map vu8), .blk b_4 .nw 29 [(128, pl.map vu8)], .blk b_1 .nw 26 [(1, [(.bool id)]), (32, ms.map vu8), (1, [(.slice da0 n cap0)])]]) (.q 0 (.q 2 (.q 3 (.q 4 (.q 5 (.s 1 (.s 6 (.q 7 (.s 8 (.q 9 (.q 10 .nil))))))))))) (by kernel_rfl) (by kernel_rfl) rfl (by kernel_rfl) (fun w_51 hc_53 => (SL.cons ((h_50.same hc_53).ok _ M0) (SL.cons ((h_50.same hc_53).ok _ M1) (SL.cons ((h_50.same hc_53).ok _ M2) (SL.cons ((h_50.same hc_53).ok _ M3) (SL.cons ((h_50.same hc_53).ok _ M4) (SL.cons ((h_50.same hc_53).ok _ M5) (SL.cons ((h_50.same hc_53).ok _ M6) (SL.cons ((h_50.same hc_53).ok _ M7) (SL.cons ((h_50.same hc_53).ok _ M8) (SL.cons ((h_50.same hc_53).ok _ M9) (SL.cons ((h_50.same hc_53).ok _ M10) (SL.cons ((h_50.same hc_53).ok _ M11) (SL.cons ((h_50.same hc_53).ok _ M12) (SL.nil _ _))))))))))))))) (fun w_51 hc_53 => ?_)
  have h_52 := h_50.same hc_53
  refine qT rfl rfl (fun wq hS => R.move (v := (pO b_14 0)) rfl) ?_
  refine qT rfl rfl (fun wq hS => R.move (v := (pO b_18 0)) rfl) ?_
  refine qT rfl rfl (fun wq hS => R.nilCheck rfl) ?_
  refine qT rfl rfl (fun wq hS => R.fieldAddr (off' := 35) rfl underlying47 rfl sizeOf44 rfl rfl) ?_
  refine qT rfl rfl (fun wq hS => R.load1 rfl isAgg44 (hS _ M9) (Sg.t rfl (Sg.t rfl (Sg.t rfl (Sg.t rfl Sg.h))))) ?_
  refine WT.s (oN rfl ?_)
  have h_58 := ((((h_52.up J8).up J3).up J7).up J5).up J6
  refine WL.call Tryz.call19 rfl rfl (c_oLog id b_14 b_15 ms df hms a_16 n c_17 0 hl none 0 [] ([] : Lg) (by first | decide | omega | exact Nat.le_trans (anU_le ..) (by decide) | exact Nat.le_trans (anU_le ..) (Nat.le_trans (Nat.succ_le_succ (anU_le ..)) (by decide)) | exact Nat.le_trans (anU_le ..) (Nat.le_trans (Nat.succ_le_succ (Nat.le_trans (anU_le ..) (Nat.succ_le_succ (anU_le ..)))) (by decide))) (by first | decide | omega | exact Nat.le_trans (anL_le ..) (by decide) | exact Nat.le_trans (anL_le ..) (Nat.le_trans (Nat.succ_le_succ (anL_le ..)) (by decide)) | exact Nat.le_trans (anL_le ..) (Nat.le_trans (Nat.succ_le_succ (Nat.le_trans (anL_le ..) (Nat.succ_le_succ (anL_le ..)))) (by decide))) _ h_58) rfl ?_
  rintro _ w_62 ⟨a_59, c_60, ys_61, rfl, h_63⟩
  refine WL.nil ?_
  refine ⟨(N7_8_5_3_2_9_4_10_6_11_12_13_14 h_63.ok), ?_⟩
  refine WT.s (oN rfl ?_)
  refine WL.call Tryz.call18 rfl rfl (c_rSameLog a_59 0 c_60 ys_61 ([] : Lg) rfl (by first | decide | exact Nat.le_trans (anL_le ..) (by decide) | exact Nat.le_trans (anL_le ..) (Nat.le_trans (Nat.succ_le_succ (anL_le ..)) (by decide)) | exact Nat.le_trans (anL_le ..) (Nat.le_trans (Nat.succ_le_succ (Nat.le_trans (anL_le ..) (Nat.succ_le_succ (anL_le ..)))) (by decide))) none 0 [] _ (ownView (h_63.ok _ M0)) (h_63.ok _ M1).1 (ownView (h_63.ok _ M3)) (h_63.ok _ M5).1) rfl ?_
  rintro _ w_65 ⟨rfl, hc_64⟩
  have h_66 := h_63.same hc_64
  refine WL.nil ?_
  refine ⟨(N7_8_5_3_2_9_4_10_6_11_12_13_14 h_66.ok), ?_⟩
  refine qT rfl rfl (fun wq hS => R.move (v := (.bool true)) (rfl)) ?_
  refine WT.s ?_
  refine Op1.one rfl (Wn.yes rfl rfl rfl) ?_
  refine WL.call Tryz.call10 rfl rfl (c_known16  _ ) rfl ?_
  rintro _ w_68 ⟨rfl, hc_67⟩
  have h_69 := h_66.same hc_67
  refine WL.nil ?_
  refine ⟨(N7_8_5_3_2_9_4_10_6_11_12_13_14 h_69.ok), ?_⟩
  refine qT rfl rfl (fun wq hS => R.pickT (v := (.bool true)) rfl rfl) ?_
  refine qT rfl rfl (fun wq hS => R.assign (v := (.bool true)) rfl) ?_
  refine WT.nil (thn_n (WP.ret ?_))
  refine ret_of results3 (RV.tmp (v := (.bool true)) rfl RV.nil) ?_
  exact ⟨rfl, h_69.chgS⟩

theorem w_BlobLeaves (id : Bool) (ms df : List UInt8) (hms : ms.length = 32) (da0 : Option Addr) (n cap0 : Nat) (hl : df.length = 32 * n) (pl : List UInt8) (hpl : pl.length = 128) (pg : Int) (ct : UInt64) (w : World) (hv : View w da0 (df.map vu8)) : Cs Tryz.prog 3 [(.agg ⟨flat [(1, [(.bool id)]), (32, ms.map vu8), (1, [(.slice da0 n cap0)])]⟩), (vi pg), (vu64 ct), (.agg ⟨pl.map vu8⟩)].toArray w (fun v w1 => v = (.bool true) ∧ Chg w w1 []) := by
 by_cases hpg : 0 ≤ pg ∧ pg < 128
 ·obtain ⟨p, rfl⟩ := Int.eq_ofNat_of_zero_le hpg.1
  by_cases hct : ct > 4294967296
  ·exact w_BL_ct id ms df hms da0 n cap0 hl pl hpl p (by omega) ct hct w hv
  ·exact w_BL_ok id ms df hms da0 n cap0 hl pl hpl p (by omega) ct hct w hv
 ·exact w_BL_no id ms df hms da0 n cap0 hl pl hpl pg hpg ct w hv
namespace blobLeavesDone
open Go.ChangeShapes Go.WideShapes Go.ChangeAt
theorem own : ownKnob Tryz.prog.godebug = none := by kernel_rfl
theorem laidOut : laidOutB Tryz.prog = true := by kernel_rfl
set_option maxRecDepth 100000 in
theorem lifted (os : Os) (started : os.Started) (H : Type) (enc : TypeId × Value → H) :
  ReturnsInHanded {} Tryz.checked os 3 .any (Rows.blobLeavesSpec.pre6 enc Tryz.prog Tryz.f3 Rows.blobLeavesRow.domain false) (Rows.blobLeavesSpec.post enc Tryz.prog Tryz.f3 false true false false) := by
 refine returnsInHanded_of_change (C := Tryz.checked) own started (by kernel_rfl) Tryz.func3
  (ChangeSpec.witness6 (enc := enc) (C := Tryz.checked) false ⟨#[], #[.agg #[.bool false, .int .u8 0, .int .u8 0, .int .u8 0, .int .u8 0, .int .u8 0, .int .u8 0, .int .u8 0, .int .u8 0, .int .u8 0, .int .u8 0, .int .u8 0, .int .u8 0, .int .u8 0, .int .u8 0, .int .u8 0, .int .u8 0, .int .u8 0, .int .u8 0, .int .u8 0, .int .u8 0, .int .u8 0, .int .u8 0, .int .u8 0, .int .u8 0, .int .u8 0, .int .u8 0, .int .u8 0, .int .u8 0, .int .u8 0, .int .u8 0, .int .u8 0, .int .u8 0, .slice none 0 0], .int .i64 0, .int .u64 0, .agg #[.int .u8 0, .int .u8 0, .int .u8 0, .int .u8 0, .int .u8 0, .int .u8 0, .int .u8 0, .int .u8 0, .int .u8 0, .int .u8 0, .int .u8 0, .int .u8 0, .int .u8 0, .int .u8 0, .int .u8 0, .int .u8 0, .int .u8 0, .int .u8 0, .int .u8 0, .int .u8 0, .int .u8 0, .int .u8 0, .int .u8 0, .int .u8 0, .int .u8 0, .int .u8 0, .int .u8 0, .int .u8 0, .int .u8 0, .int .u8 0, .int .u8 0, .int .u8 0, .int .u8 0, .int .u8 0, .int .u8 0, .int .u8 0, .int .u8 0, .int .u8 0, .int .u8 0, .int .u8 0, .int .u8 0, .int .u8 0, .int .u8 0, .int .u8 0, .int .u8 0, .int .u8 0, .int .u8 0, .int .u8 0, .int .u8 0, .int .u8 0, .int .u8 0, .int .u8 0, .int .u8 0, .int .u8 0, .int .u8 0, .int .u8 0, .int .u8 0, .int .u8 0, .int .u8 0, .int .u8 0, .int .u8 0, .int .u8 0, .int .u8 0, .int .u8 0, .int .u8 0, .int .u8 0, .int .u8 0, .int .u8 0, .int .u8 0, .int .u8 0, .int .u8 0, .int .u8 0, .int .u8 0, .int .u8 0, .int .u8 0, .int .u8 0, .int .u8 0, .int .u8 0, .int .u8 0, .int .u8 0, .int .u8 0, .int .u8 0, .int .u8 0, .int .u8 0, .int .u8 0, .int .u8 0, .int .u8 0, .int .u8 0, .int .u8 0, .int .u8 0, .int .u8 0, .int .u8 0, .int .u8 0, .int .u8 0, .int .u8 0, .int .u8 0, .int .u8 0, .int .u8 0, .int .u8 0, .int .u8 0, .int .u8 0, .int .u8 0, .int .u8 0, .int .u8 0, .int .u8 0, .int .u8 0, .int .u8 0, .int .u8 0, .int .u8 0, .int .u8 0, .int .u8 0, .int .u8 0, .int .u8 0, .int .u8 0, .int .u8 0, .int .u8 0, .int .u8 0, .int .u8 0, .int .u8 0, .int .u8 0, .int .u8 0, .int .u8 0, .int .u8 0, .int .u8 0, .int .u8 0, .int .u8 0, .int .u8 0, .int .u8 0]], []⟩ 8 (by kernel_rfl) (by kernel_rfl) (by kernel_rfl) (by kernel_rfl)) ?_
 intro W base args ds gs before hval0 hW hcnd _
 have hval : ∀ (j : Nat) t v, Tryz.f3.params[j]? = some t → args[j]? = some v → Value.okWide Tryz.prog W .any base t v := hval0
 have hW' := hW
 obtain ⟨p, q, hA0, hV, rfl, hfz, hnd⟩ := hW
 have hA : DataW.TrodAll enc Tryz.prog W 0 (fun _ => true) true Tryz.f3.params.toList args.toList ds p := hA0
 rw [Tryz.params3] at hA hval
 obtain ⟨v0, vs0, d0, ds0, p0, q0, hargs, rfl, rfl, h0, r0⟩ := trodAll_cons hA
 obtain ⟨v1, vs1, d1, ds1, p1, q1, rfl, rfl, rfl, h1, r1⟩ := trodAll_cons r0
 obtain ⟨v2, vs2, d2, ds2, p2, q2, rfl, rfl, rfl, h2, r2⟩ := trodAll_cons r1
 obtain ⟨v3, vs3, d3, ds3, p3, q3, rfl, rfl, rfl, h3, r3⟩ := trodAll_cons r2
 obtain ⟨rfl, rfl, rfl⟩ := trodAll_nil r3
 obtain rfl : args = #[v0, v1, v2, v3] := by cases args; simp_all
 obtain ⟨rfl, rfl⟩ := trodVars_none hV
 have lt0 : ∀ x ∈ p0, x.block < W.heap.size := by obtain ⟨m, hm⟩ := h0; exact DataW.trod_lt m _ _ _ hm
 obtain ⟨cs0, rfl⟩ := okWide_agg aggT26 (hval 0 26 v0 rfl rfl)
 have tr0 : Tr Tryz.prog W 26 cs0 := Tr.of h0 rfl
 have tl_x0 := Tr.struct (l := [(1, 4), (32, 23), (1, 24)]) underlying26 ce26 (by kernel_rfl) tr0
 obtain ⟨a_x00, r_x00, rfl, n_x00, t_x00, tl_x00⟩ := tl_x0
 obtain ⟨x00, rfl⟩ := Tr.bool underlying4 t_x00
 obtain ⟨a_x01, r_x01, rfl, n_x01, t_x01, tl_x01⟩ := tl_x00
 obtain ⟨x01, rfl, l_x01⟩ := Tr.arr8 underlying23 ce23 ce5 underlying5 t_x01
 obtain ⟨a_x02, r_x02, rfl, n_x02, t_x02, tl_x02⟩ := tl_x01
 obtain ⟨sa_x02, sn_x02, sc_x02, x02, rfl, l_x02, hc_x02, hm_x02, hv_x02⟩ := Tr.slA8 underlying24 ce23 underlying23 ce5 underlying5 t_x02
 obtain rfl := tl_x02
 have lt1 : ∀ x ∈ p1, x.block < W.heap.size := by obtain ⟨m, hm⟩ := h1; exact DataW.trod_lt m _ _ _ hm
 obtain ⟨x1, rfl⟩ := okWide_int underlying3 (hval 1 3 v1 rfl rfl)
 have b_x1 := Tr.i64' underlying3 (Tr.of h1 rfl)
 have lt2 : ∀ x ∈ p2, x.block < W.heap.size := by obtain ⟨m, hm⟩ := h2; exact DataW.trod_lt m _ _ _ hm
 obtain ⟨n2, rfl⟩ := okWide_int underlying27 (hval 2 27 v2 rfl rfl)
 obtain ⟨x2, rfl⟩ := Tr.u64' underlying27 (Tr.of h2 rfl)
 have lt3 : ∀ x ∈ p3, x.block < W.heap.size := by obtain ⟨m, hm⟩ := h3; exact DataW.trod_lt m _ _ _ hm
 obtain ⟨cs3, rfl⟩ := okWide_agg aggT29 (hval 3 29 v3 rfl rfl)
 have tr3 : Tr Tryz.prog W 29 cs3 := Tr.of h3 rfl
 obtain ⟨x3, rfl, l_x3⟩ := Tr.arr8 underlying29 ce29 ce5 underlying5 tr3
 clear hA0 hval0
 have hw : Cs Tryz.prog 3 [(.agg ⟨flat [(1, [(.bool x00)]), (32, x01.map vu8), (1, [(.slice sa_x02 sn_x02 sc_x02)])]⟩), (vi x1), (vu64 x2), (.agg ⟨x3.map vu8⟩)].toArray W (fun v w1 => v = .bool true ∧ Chg W w1 []) := w_BlobLeaves x00 x01 x02 l_x01 sa_x02 sn_x02 sc_x02 l_x02 x3 l_x3 x1 x2 W hv_x02.1
 have ea : ([(.agg ⟨flat [(1, [(.bool x00)]), (32, x01.map vu8), (1, [(.slice sa_x02 sn_x02 sc_x02)])]⟩), (vi x1), (vu64 x2), (.agg ⟨x3.map vu8⟩)] : List Value).toArray = (#[.agg ⟨([.bool x00] ++ (x01.map vu8 ++ ([.slice sa_x02 sn_x02 sc_x02] ++ [])))⟩, (vi x1), (vu64 x2), .agg ⟨x3.map vu8⟩] : Array Value) := by simp [flat]
 rw [ea] at hw
 refine Calls.mono (Cs.below hw) fun e W' ⟨he, bel⟩ => ?_
 subst he
 exact ⟨_, rfl, _, _, _, [], _, [], hW', trodAll_mk1 (shut_bool underlying4 _), (trodAll_cons_mk (Below.trod laidOut (by kernel_rfl) (of_decide_eq_true (by kernel_rfl)) h0 bel lt0) (trodAll_cons_mk (Below.trod laidOut (by kernel_rfl) (of_decide_eq_true (by kernel_rfl)) h1 bel lt1) (trodAll_cons_mk (Below.trod laidOut (by kernel_rfl) (of_decide_eq_true (by kernel_rfl)) h2 bel lt2) (trodAll_cons_mk (Below.trod laidOut (by kernel_rfl) (of_decide_eq_true (by kernel_rfl)) h3 bel lt3) trodAll_mk0)))), rfl, bel.frame _, fun h => by cases h⟩
theorem over : Rows.blobLeavesRow.holds Tryz.pinned (OpenSpec.ofChange Rows.blobLeavesSpec) :=
 OpenClaim.holds_of_wide 3 Tryz.f3 rfl rfl rfl rfl rfl rfl rfl ⟨rfl, rfl, rfl, rfl, rfl⟩ rfl rfl rfl rfl rfl (by kernel_rfl) Tryz.func3 (by kernel_rfl)
  (of_decide_eq_true (by kernel_rfl)) (by unfold Func.isWrapper; first | (rw [if_pos (by decide +kernel)]; kernel_rfl) | (rw [if_neg (by decide +kernel)]; exact ⟨rfl, rfl⟩))
  (fun os started H enc _ => lifted os started H enc)
theorem proved : Rows.BlobLeavesSaid := over
end blobLeavesDone
end Go.Proofs.YteclkcpdclimnaaGreat
