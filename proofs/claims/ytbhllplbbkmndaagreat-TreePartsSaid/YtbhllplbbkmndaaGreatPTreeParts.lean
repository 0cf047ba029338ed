/- TreeParts holds of every input. Conditions: none. -/
import Derived.Test.YtbhllplbbkmndaaGreatZ5TreeParts
set_option linter.unusedVariables false
set_option linter.unusedSimpArgs false
set_option linter.unusedSectionVars false
namespace Go.Proofs.YtbhllplbbkmndaaGreat
open Go.Proofs.Tryz
open Go.Vc Go.Orc Go.Sh Go.RowKit
set_option linter.unusedVariables false
set_option linter.unusedSimpArgs false
set_option maxRecDepth 20000
theorem aggT23 : aggB Tryz.prog 23 = true := by unfold aggB; rw [underlying23]
theorem aggT28 : aggB Tryz.prog 28 = true := by unfold aggB; rw [underlying28]
theorem ce28 : Tryz.prog.cellsOf 28 = 37 := by kernel_rfl
theorem ce76 : Tryz.prog.cellsOf 76 = 128 := by kernel_rfl
theorem w_TP_no (id : Bool) (ms df : List UInt8) (hms : ms.length = 32) (da0 : Option Addr) (n cap0 : Nat) (hl : df.length = 32 * n) (fa : Option Addr) (fn fc : Nat) (fd : List UInt8) (hfl : fd.length = 128 * fn) (nd : UInt64) (xa xb : List UInt8) (hxa : xa.length = 32) (hxb : xb.length = 32) (gn : Int) (hs : ¬ (n ≤ 700 ∧ 1 ≤ gn ∧ gn ≤ 80 ∧ fn ≤ 80)) (pg i : Int) (w : World) (hv : View w da0 (df.map vu8)) (hvf : View w fa (fd.map vu8)) :
  Cs Tryz.prog 3 [(.agg ⟨flat [(1, [(.bool id)]), (32, ms.map vu8), (1, [(.slice da0 n cap0)]), (1, [(vi gn)]), (1, [(.slice fa fn fc)]), (1, [(vu64 nd)])]⟩), (vi pg), (vi i), (.agg ⟨xa.map vu8⟩), (.agg ⟨xb.map vu8⟩)].toArray w (fun v w1 => v = (.bool true) ∧ Chg w w1 []) := by
 refine Cs.of (n := 152) (args := [(.agg ⟨flat [(1, [(.bool id)]), (32, ms.map vu8), (1, [(.slice da0 n cap0)]), (1, [(vi gn)]), (1, [(.slice fa fn fc)]), (1, [(vu64 nd)])]⟩), (vi pg), (vi i), (.agg ⟨xa.map vu8⟩), (.agg ⟨xb.map vu8⟩)]) Tryz.func3 rfl rfl rfl ?_
 have h_0 := HP.init w
 have h_01 := h_0.oldV (View.arg hv) rfl (by simp [Ent.mut])
 have h_00 := h_01.oldV (View.arg hvf) rfl (by simp [Ent.mut])
 refine WP.seq (WP.reg ?_)
 refine WL.box (segs := [(1, [(.bool id)]), (32, ms.map vu8), (1, [(.slice da0 n cap0)]), (1, [(vi gn)]), (1, [(.slice fa fn fc)]), (1, [(vu64 nd)])]) h_00 rfl rfl (sC sV (sC (s8 hms) (sC sV (sC sV (sC sV (sC sV sN)))))) rfl (fun b_1 w_2 h_3 => ?_)
 refine WL.box (segs := [(32, xa.map vu8)]) h_3 rfl rfl (sC (s8 hxa) sN) rfl (fun b_4 w_5 h_6 => ?_)
 refine WL.box (segs := [(32, xb.map vu8)]) h_6 rfl rfl (sC (s8 hxb) sN) rfl (fun b_7 w_8 h_9 => ?_)
 refine qA (.bool false) rfl rfl ?_
 refine WL.nil (thn_n (WP.seq (WP.seq (WP.reg ?_))))
 refine qV rfl (R.loadA [] [(1, [(.bool id)]), (32, ms.map vu8), (1, [(.slice da0 n cap0)]), (1, [(vi gn)]), (1, [(.slice fa fn fc)]), (1, [(vu64 nd)])] [] rfl isAgg28 sizeOf28 (h_9.ok _ M2) rfl rfl rfl rfl) ?_
 refine WL.call Tryz.call6 rfl rfl (c_small_f id ms df hms da0 n cap0 hl fa fn fc fd hfl nd gn hs _ ) rfl ?_
 rintro _ w_11 ⟨rfl, hc_10⟩
 have h_12 := h_9.same hc_10
 refine qV rfl (R.not (b := false) rfl) ?_
 refine WL.nil (thn_n ?_)
 refine WP.condT rfl ?_
 refine WP.seq (WP.reg ?_)
 refine WL.call Tryz.call7 rfl rfl (c_known15  _ ) rfl ?_
 rintro _ w_14 ⟨rfl, hc_13⟩
 have h_15 := h_12.same hc_13
 refine qA (.bool true) rfl rfl ?_
 refine WL.nil (thn_n (WP.ret (thn_r ?_)))
 refine ret_of results3 (RV.tmp (v := (.bool true)) rfl RV.nil) ?_
 exact ⟨rfl, h_15.chgS⟩

theorem w_TP_tt (id : Bool) (ms df : List UInt8) (hms : ms.length = 32) (da0 : Option Addr) (n cap0 : Nat) (hl : df.length = 32 * n) (fa : Option Addr) (fn fc : Nat) (fd : List UInt8) (hfl : fd.length = 128 * fn) (nd : UInt64) (xa xb : List UInt8) (hxa : xa.length = 32) (hxb : xb.length = 32) (gn : Nat) (hs : n ≤ 700 ∧ 1 ≤ gn ∧ gn ≤ 80 ∧ fn ≤ 80) (pg : Nat) (h : pg < 128) (i : Nat) (hi : 1 ≤ i ∧ i ≤ 127) (w : World) (hv : View w da0 (df.map vu8)) (hvf : View w fa (fd.map vu8)) :
  Cs Tryz.prog 3 [(.agg ⟨flat [(1, [(.bool id)]), (32, ms.map vu8), (1, [(.slice da0 n cap0)]), (1, [(vi ((gn : Nat) : Int))]), (1, [(.slice fa fn fc)]), (1, [(vu64 nd)])]⟩), (vi ((pg : Nat) : Int)), (vi ((i : Nat) : Int)), (.agg ⟨xa.map vu8⟩), (.agg ⟨xb.map vu8⟩)].toArray w (fun v w1 => v = (.bool true) ∧ Chg w w1 []) := by
 refine Cs.of (n := 152) (args := [(.agg ⟨flat [(1, [(.bool id)]), (32, ms.map vu8), (1, [(.slice da0 n cap0)]), (1, [(vn gn)]), (1, [(.slice fa fn fc)]), (1, [(vu64 nd)])]⟩), (vn pg), (vn i), (.agg ⟨xa.map vu8⟩), (.agg ⟨xb.map vu8⟩)]) Tryz.func3 rfl rfl rfl ?_
 have h_0 := HP.init w
 have h_01 := h_0.oldV (View.arg hv) rfl (by simp [Ent.mut])
 have h_00 := h_01.oldV (View.arg hvf) rfl (by simp [Ent.mut])
 refine WP.seq (WP.reg ?_)
 refine WL.box (segs := [(1, [(.bool id)]), (32, ms.map vu8), (1, [(.slice da0 n cap0)]), (1, [(vn gn)]), (1, [(.slice fa fn fc)]), (1, [(vu64 nd)])]) h_00 rfl rfl (sC sV (sC (s8 hms) (sC sV (sC sV (sC sV (sC sV sN)))))) rfl (fun b_1 w_2 h_3 => ?_)
 refine WL.box (segs := [(32, xa.map vu8)]) h_3 rfl rfl (sC (s8 hxa) sN) rfl (fun b_4 w_5 h_6 => ?_)
 refine WL.box (segs := [(32, xb.map vu8)]) h_6 rfl rfl (sC (s8 hxb) sN) rfl (fun b_7 w_8 h_9 => ?_)
 refine qA (.bool false) rfl rfl ?_
 refine WL.nil (thn_n (WP.seq (WP.seq (WP.reg ?_))))
 refine qV rfl (R.loadA [] [(1, [(.bool id)]), (32, ms.map vu8), (1, [(.slice da0 n cap0)]), (1, [(vn gn)]), (1, [(.slice fa fn fc)]), (1, [(vu64 nd)])] [] rfl isAgg28 sizeOf28 (h_9.ok _ M2) rfl rfl rfl rfl) ?_
 refine WL.call Tryz.call6 rfl rfl (c_small_t id ms df hms da0 n cap0 hl fa fn fc fd hfl nd gn hs _ ) rfl ?_
 rintro _ w_11 ⟨rfl, hc_10⟩
 have h_12 := h_9.same hc_10
 refine qV rfl (R.not (b := true) rfl) ?_
 refine WL.nil (thn_n ?_)
 refine WP.condF rfl ?_
 refine WP.skip (thn_n (WP.seq (WP.reg ?_)))
 refine qV rfl (R.loadA [] [(1, [(.bool id)]), (32, ms.map vu8), (1, [(.slice da0 n cap0)]), (1, [(vn gn)]), (1, [(.slice fa fn fc)]), (1, [(vu64 nd)])] [] rfl isAgg28 sizeOf28 (h_12.ok _ M2) rfl rfl rfl rfl) ?_
 have h_14 := (h_12.up J3).up J4
 refine WL.call Tryz.call8 rfl rfl (c_two id ms df hms da0 n cap0 hl fa fn fc fd hfl nd gn hs _ h_14) rfl ?_
 rintro _ w_24 ⟨b_15, b_16, a_17, c_18, b_19, b_20, a_21, b_22, a_23, rfl, h_25⟩
 have h_26 := h_25.rowNil 102 67
 have h_27 := HP_logNil h_26
 refine qM (.tuple [(pO b_15 0), (pO b_20 0), (pO b_19 0), (pO b_22 0), (.bool true)].toArray) rfl rfl (qV rfl (R.extract rfl rfl) (qV rfl (R.extract rfl rfl) (qV rfl (R.extract rfl rfl) (qV rfl (R.extract rfl rfl) (qV rfl (R.extract rfl rfl) (qA (pO b_15 0) rfl rfl (qA (pO b_20 0) rfl rfl (qA (pO b_19 0) rfl rfl (qA (pO b_22 0) rfl rfl (qA (.bool true) rfl rfl ?_))))))))))
 refine WL.nil (thn_n (WP.seq (WP.seq (WP.reg ?_))))
 refine qM (.bool true) rfl rfl (qV rfl (R.not (b := true) rfl) ?_)
 refine WL.nil (thn_n ?_)
 refine WP.condF rfl ?_
 refine WP.skip (thn_n (WP.seq (WP.reg ?_)))
 refine qM (pO b_15 0) rfl rfl (qM (vn pg) rfl rfl ?_)
 have h_32 := ((((h_27.up J6).up J1).up J5).up J3).up J4
 refine WL.call Tryz.call9 rfl rfl (c_TNone_t id b_15 b_16 ms df hms a_17 n c_18 0 hl none 0 [] ([] : Lg) (by first | decide | omega | exact Nat.le_trans (anU_le ..) (by decide) | exact Nat.le_trans (anU_le ..) (Nat.le_trans (Nat.succ_le_succ (anU_le ..)) (by decide))) (by first | decide | omega | exact Nat.le_trans (anL_le ..) (by decide) | exact Nat.le_trans (anL_le ..) (Nat.le_trans (Nat.succ_le_succ (anL_le ..)) (by decide))) pg (by omega) _ h_32) rfl ?_
 rintro _ w_36 ⟨la_33, lc_34, lx_35, rfl, h_37⟩
 refine qM (.tuple [(.agg ⟨(anD id df n 0 ([] : Lg) (1, (zB 32), 6, leN 8 (UInt64.ofNat pg).toNat)).map vu8⟩), (vi 0)].toArray) rfl rfl (qV rfl (R.extract rfl rfl) (qV rfl (R.extract rfl rfl) ?_))
 refine WL.alloc (segs := [(32, (zB 32).map vu8)]) h_37 (zv typeInfo23 rfl) rfl (sC (s8 lr) sN) rfl (fun b_38 w_39 h_40 => ?_)
 refine WL.storeA [] [(32, (zB 32).map vu8)] [(32, (anD id df n 0 ([] : Lg) (1, (zB 32), 6, leN 8 (UInt64.ofNat pg).toNat)).map vu8)] [] h_40 rfl rfl sizeOf23 At.h (by decide) rfl rfl rfl rfl rfl rfl (sC (s8 (anD_len hl okN)) sN) (fun w_41 h_42 => ?_)
 refine qA (vi 0) rfl rfl ?_
 refine WL.nil (thn_n (WP.seq (WP.reg ?_)))
 refine qM (vn pg) rfl rfl ?_
 refine WL.call Tryz.call10 rfl rfl (c_Way_t pg (by omega) _) rfl ?_
 rintro _ w_45 ⟨a_43, cap_44, rfl, hc_46, ho_47⟩
 have h_48 := h_42.gotRow hc_46 ho_47
 refine qM (.tuple [(.slice a_43 8 cap_44), (vi 0)].toArray) rfl rfl (qV rfl (R.extract rfl rfl) (qV rfl (R.extract rfl rfl) (qA (.slice a_43 8 cap_44) rfl rfl (qA (vi 0) rfl rfl ?_))))
 refine WL.nil (thn_n (WP.seq (WP.reg ?_)))
 refine qM (vn pg) rfl rfl ?_
 refine WL.call Tryz.call11 rfl rfl (c_Bes_t pg (by omega) _) rfl ?_
 rintro _ w_51 ⟨a_49, cap_50, rfl, hc_52, ho_53⟩
 have h_54 := h_48.gotRow hc_52 ho_53
 refine qM (.tuple [(.slice a_49 7 cap_50), (vi 0)].toArray) rfl rfl (qV rfl (R.extract rfl rfl) (qV rfl (R.extract rfl rfl) (qA (.slice a_49 7 cap_50) rfl rfl (qA (vi 0) rfl rfl ?_))))
 refine WL.nil (thn_n (WP.seq (WP.seq (WP.reg ?_))))
 refine qM (vn pg) rfl rfl ?_
 refine WL.call Tryz.call12 rfl rfl (c_mayP_t pg (by omega) _ ) rfl ?_
 rintro _ w_56 ⟨rfl, hc_55⟩
 have h_57 := h_54.same hc_55
 refine WL.nil (thn_n ?_)
 refine WP.condT rfl ?_
 refine WP.seq ?_
 refine WP.drawT (SL w.heap.size [.row a_49 7 cap_50 3 1 ((bsL pg).map vi64), .row a_43 8 cap_44 3 1 ((wayL pg).map vi64), .blk b_38 .nw 23 [(32, (anD id df n 0 ([] : Lg) (1, (zB 32), 6, leN 8 (UInt64.ofNat pg).toNat)).map vu8)], .blk b_15 .nw 106 [(1, [(.bool id)]), (32, ms.map vu8), (1, [(.slice a_17 n c_18)]), (1, [(vn (anU id 0 ([] : Lg) (1, (zB 32), 6, leN 8 (UInt64.ofNat pg).toNat)))]), (1, [(.map (some b_16))]), (1, [(.slice la_33 ((anL id df n 0 ([] : Lg) (1, (zB 32), 6, leN 8 (UInt64.ofNat pg).toNat)).length) lc_34)])], .row la_33 ((anL id df n 0 ([] : Lg) (1, (zB 32), 6, leN 8 (UInt64.ofNat pg).toNat)).length) lc_34 102 67 lx_35, .obj b_16 .nw (.map (mArr (anL id df n 0 ([] : Lg) (1, (zB 32), 6, leN 8 (UInt64.ofNat pg).toNat))) ((anL id df n 0 ([] : Lg) (1, (zB 32), 6, leN 8 (UInt64.ofNat pg).toNat)).length)), .pin (sblks lx_35) (fun w => Lgs w lx_35 (anL id df n 0 ([] : Lg) (1, (zB 32), 6, leN 8 (UInt64.ofNat pg).toNat))), .view a_17 (df.map vu8), .blk b_20 .nw 112 [(1, [(.slice a_21 gn gn)])], .row a_21 gn gn 76 128 ((fillL fd gn (min fn gn)).map vu8), .blk b_22 .nw 95 [(1, [(.slice a_23 (128 * gn) (128 * gn))])], .row a_23 (128 * gn) (128 * gn) 5 1 ((fillL fd gn (min fn gn)).map vu8), .view fa (fd.map vu8), .blk b_7 .nw 23 [(32, xb.map vu8)], .blk b_4 .nw 23 [(32, xa.map vu8)], .blk b_1 .nw 28 [(1, [(.bool id)]), (32, ms.map vu8), (1, [(.slice da0 n cap0)]), (1, [(vn gn)]), (1, [(.slice fa fn fc)]), (1, [(vu64 nd)])]]) (.q 0 (.q 1 (.q 2 (.s 3 (.q 4 (.q 5 (.q 6 (.q 7 (.s 8 (.s 9 (.q 10 (.q 11 (.q 12 (.q 13 (.q 14 (.s 15 (.s 16 (.q 17 (.q 18 (.q 19 (.q 20 (.q 22 (.q 25 (.s 21 (.s 23 (.q 24 (.s 26 (.q 27 (.q 28 (.q 29 .nil)))))))))))))))))))))))))))))) (by kernel_rfl) (by kernel_rfl) rfl (by kernel_rfl) (fun w_58 hc_60 => (SL.cons ((h_57.same hc_60).ok _ M0) (SL.cons ((h_57.same hc_60).ok _ M1) (SL.cons ((h_57.same hc_60).ok _ M2) (SL.cons ((h_57.same hc_60).ok _ M3) (SL.cons ((h_57.same hc_60).ok _ M4) (SL.cons ((h_57.same hc_60).ok _ M5) (SL.cons ((h_57.same hc_60).ok _ M6) (SL.cons ((h_57.same hc_60).ok _ M7) (SL.cons ((h_57.same hc_60).ok _ M11) (SL.cons ((h_57.same hc_60).ok _ M12) (SL.cons ((h_57.same hc_60).ok _ M13) (SL.cons ((h_57.same hc_60).ok _ M14) (SL.cons ((h_57.same hc_60).ok _ M16) (SL.cons ((h_57.same hc_60).ok _ M17) (SL.cons ((h_57.same hc_60).ok _ M18) (SL.cons ((h_57.same hc_60).ok _ M19) (SL.nil _ _)))))))))))))))))) (fun w_58 hc_60 => ?_)
 have h_59 := h_57.same hc_60
 refine qT rfl rfl (fun wq hS => R.loadA [] [(32, (anD id df n 0 ([] : Lg) (1, (zB 32), 6, leN 8 (UInt64.ofNat pg).toNat)).map vu8)] [] (cs := (anD id df n 0 ([] : Lg) (1, (zB 32), 6, leN 8 (UInt64.ofNat pg).toNat)).map vu8) rfl isAgg23 sizeOf23 (hS _ M2) rfl rfl rfl rfl) ?_
 refine qT rfl rfl (fun wq hS => R.move (v := (pO b_19 0)) rfl) ?_
 refine qT rfl rfl (fun wq hS => R.move (v := (vn pg)) rfl) ?_
 refine WT.s (oN rfl ?_)
 have h_64 := (((h_59.up J15).up J10).up J10).up J11
 refine WL.call Tryz.call13 rfl rfl (c_rTNone id b_19 ms df hms da0 n cap0 0 hl none 0 [] ([] : Lg) (by first | decide | omega | exact Nat.le_trans (anU_le ..) (by decide) | exact Nat.le_trans (anU_le ..) (Nat.le_trans (Nat.succ_le_succ (anU_le ..)) (by decide))) (by first | decide | omega | exact Nat.le_trans (anL_le ..) (by decide) | exact Nat.le_trans (anL_le ..) (Nat.le_trans (Nat.succ_le_succ (anL_le ..)) (by decide))) pg _ h_64) rfl ?_
 rintro _ w_68 ⟨la_65, lc_66, lx_67, rfl, h_69⟩
 refine WL.nil ?_
 refine ⟨(N4_5_6_7_8_9_10_11_12_13_14_15_16_17_18_19 h_69.ok), ?_⟩
 refine qT rfl rfl (fun wq hS => R.neA (xs := (anD id df n 0 ([] : Lg) (1, (zB 32), 6, leN 8 (UInt64.ofNat pg).toNat)).map vu8) (ys := (anD id df n 0 ([] : Lg) (1, (zB 32), 6, leN 8 (UInt64.ofNat pg).toNat)).map vu8) (r := false) rfl rfl eqGuardType23 kt23 (by decide) ag23 (Typ.u8s underlying23 ce23 underlying5 ce5 (anD_len hl okN)) (Typ.u8s underlying23 ce23 underlying5 ce5 (anD_len hl okN)) (neT rfl)) ?_
 refine qT rfl rfl (fun wq hS => R.move (v := (.bool false)) rfl) ?_
 refine WT.q rfl (Wn.yes rfl rfl rfl) rfl rfl (fun wq hS => R.move (v := (.slice a_43 8 cap_44)) rfl) ?_
 refine WT.q rfl (Wn.yes rfl rfl rfl) rfl rfl (fun wq hS => R.move (v := (vn pg)) rfl) ?_
 refine WT.s ?_
 refine Op1.one rfl (Wn.yes rfl rfl rfl) ?_
 refine WL.call Tryz.call15 rfl rfl (c_rWay pg (by omega) _) rfl ?_
 rintro _ w_72 ⟨a_70, cap_71, rfl, hc_73, ho_74⟩
 have h_75 := h_69.gotRow hc_73 ho_74
 refine WL.nil ?_
 refine ⟨(N5_6_7_8_9_10_11_12_13_14_15_16_17_18_19_20 h_75.ok), ?_⟩
 refine WT.s ?_
 refine Op1.one rfl (Wn.yes rfl rfl rfl) ?_
 refine WL.call Tryz.call14 rfl rfl (c_same15 a_43 a_70 8 8 cap_44 cap_71 (wayL pg) (wayL pg) (rfl : List.length (wayL pg) = 8) (rfl : List.length (wayL pg) = 8) (by omega) (by omega) _ (ownView (h_75.ok _ M6)) (ownView (h_75.ok _ M0))) rfl ?_
 rintro _ w_77 ⟨rfl, hc_76⟩
 have h_78 := h_75.same hc_76
 refine WL.nil ?_
 refine ⟨(N5_6_7_8_9_10_11_12_13_14_15_16_17_18_19_20 h_78.ok), ?_⟩
 refine WT.q rfl (Wn.yes rfl rfl rfl) rfl rfl (fun wq hS => R.not (b := true) (congrArg Value.bool (decide_eq_true rfl))) ?_
 refine qT rfl rfl (fun wq hS => R.pickF (v := (.bool false)) rfl rfl) ?_
 refine qT rfl rfl (fun wq hS => R.move (v := (.bool false)) rfl) ?_
 refine WT.q rfl (Wn.yes rfl rfl rfl) rfl rfl (fun wq hS => R.move (v := (.slice a_49 7 cap_50)) rfl) ?_
 refine WT.q rfl (Wn.yes rfl rfl rfl) rfl rfl (fun wq hS => R.move (v := (vn pg)) rfl) ?_
 refine WT.s ?_
 refine Op1.one rfl (Wn.yes rfl rfl rfl) ?_
 refine WL.call Tryz.call16 rfl rfl (c_rBes pg (by omega) _) rfl ?_
 rintro _ w_81 ⟨a_79, cap_80, rfl, hc_82, ho_83⟩
 have h_84 := h_78.gotRow hc_82 ho_83
 refine WL.nil ?_
 refine ⟨(N6_7_8_9_10_11_12_13_14_15_16_17_18_19_20_21 h_84.ok), ?_⟩
 refine WT.s ?_
 refine Op1.one rfl (Wn.yes rfl rfl rfl) ?_
 refine WL.call Tryz.call14 rfl rfl (c_same15 a_49 a_79 7 7 cap_50 cap_80 (bsL pg) (bsL pg) (rfl : List.length (bsL pg) = 7) (rfl : List.length (bsL pg) = 7) (by omega) (by omega) _ (ownView (h_84.ok _ M6)) (ownView (h_84.ok _ M0))) rfl ?_
 rintro _ w_86 ⟨rfl, hc_85⟩
 have h_87 := h_84.same hc_85
 refine WL.nil ?_
 refine ⟨(N6_7_8_9_10_11_12_13_14_15_16_17_18_19_20_21 h_87.ok), ?_⟩
 refine WT.q rfl (Wn.yes rfl rfl rfl) rfl rfl (fun wq hS => R.not (b := true) (congrArg Value.bool (decide_eq_true rfl))) ?_
 refine qT rfl rfl (fun wq hS => R.pickF (v := (.bool false)) rfl rfl) ?_
 refine qT rfl rfl (fun wq hS => R.move (v := (.bool false)) rfl) ?_
 refine WT.q rfl (Wn.yes rfl rfl rfl) rfl rfl (fun wq hS => R.move (v := (vi 0)) rfl) ?_
 refine WT.q rfl (Wn.yes rfl rfl rfl) rfl rfl (fun wq hS => R.move (v := (vi 0)) rfl) ?_
 refine WT.q rfl (Wn.yes rfl rfl rfl) rfl rfl (fun wq hS => R.move (v := (vi 0)) rfl) ?_
 refine WT.s ?_
 refine Op1.one rfl (Wn.yes rfl rfl rfl) ?_
 refine WL.call Tryz.call17 rfl rfl (c_num15 0 (by omega) _ ) rfl ?_
 rintro _ w_89 ⟨rfl, hc_88⟩
 have h_90 := h_87.same hc_88
 refine WL.nil ?_
 refine ⟨(N6_7_8_9_10_11_12_13_14_15_16_17_18_19_20_21 h_90.ok), ?_⟩
 refine WT.s ?_
 refine Op1.one rfl (Wn.yes rfl rfl rfl) ?_
 refine WL.call Tryz.call17 rfl rfl (c_num15 0 (by omega) _ ) rfl ?_
 rintro _ w_92 ⟨rfl, hc_91⟩
 have h_93 := h_90.same hc_91
 refine WL.nil ?_
 refine ⟨(N6_7_8_9_10_11_12_13_14_15_16_17_18_19_20_21 h_93.ok), ?_⟩
 refine WT.q rfl (Wn.yes rfl rfl rfl) rfl rfl (fun wq hS => R.bin rfl rfl (bi_add (c := 0) (by omega) (by omega))) ?_
 refine WT.s ?_
 refine Op1.one rfl (Wn.yes rfl rfl rfl) ?_
 refine WL.call Tryz.call17 rfl rfl (c_num15 0 (by omega) _ ) rfl ?_
 rintro _ w_95 ⟨rfl, hc_94⟩
 have h_96 := h_93.same hc_94
 refine WL.nil ?_
 refine ⟨(N6_7_8_9_10_11_12_13_14_15_16_17_18_19_20_21 h_96.ok), ?_⟩
 refine WT.q rfl (Wn.yes rfl rfl rfl) rfl rfl (fun wq hS => R.bin rfl rfl (bi_add (c := 0) (by omega) (by omega))) ?_
 refine WT.q rfl (Wn.yes rfl rfl rfl) rfl rfl (fun wq hS => R.bin rfl rfl (bi_neq (r := false) (by decide))) ?_
 refine qT rfl rfl (fun wq hS => R.pickF (v := (.bool false)) rfl rfl) ?_
 refine WT.nil (thn_n ?_)
 refine WP.condF rfl ?_
 refine WP.skip (thn_n (WP.seq (WP.reg ?_)))
 refine qM (pO b_15 0) rfl rfl (qM (vn i) rfl rfl (qV rfl (R.loadA [] [(32, xa.map vu8)] [] (cs := xa.map vu8) rfl isAgg23 sizeOf23 (h_96.ok _ M20) rfl rfl rfl rfl) (qV rfl (R.loadA [] [(32, xb.map vu8)] [] (cs := xb.map vu8) rfl isAgg23 sizeOf23 (h_96.ok _ M19) rfl rfl rfl rfl) ?_)))
 have h_101 := ((((h_96.up J13).up J13).up J13).up J13).up J13
 refine WL.call Tryz.call18 rfl rfl (c_TNode_t id b_15 b_16 ms df hms a_17 n c_18 (anU id 0 ([] : Lg) (1, (zB 32), 6, leN 8 (UInt64.ofNat pg).toNat)) hl la_33 lc_34 lx_35 (anL id df n 0 ([] : Lg) (1, (zB 32), 6, leN 8 (UInt64.ofNat pg).toNat)) (by first | decide | omega | exact Nat.le_trans (anU_le ..) (by decide) | exact Nat.le_trans (anU_le ..) (Nat.le_trans (Nat.succ_le_succ (anU_le ..)) (by decide))) (by first | decide | omega | exact Nat.le_trans (anL_le ..) (by decide) | exact Nat.le_trans (anL_le ..) (Nat.le_trans (Nat.succ_le_succ (anL_le ..)) (by decide))) i (by omega) xa xb hxa hxb _ h_101) rfl ?_
 rintro _ w_105 ⟨la_102, lc_103, lx_104, rfl, h_106⟩
 refine qM (.tuple [(.agg ⟨(anD id df n (anU id 0 ([] : Lg) (1, (zB 32), 6, leN 8 (UInt64.ofNat pg).toNat)) (anL id df n 0 ([] : Lg) (1, (zB 32), 6, leN 8 (UInt64.ofNat pg).toNat)) (1, (zB 32), 5, [leN 8 (UInt64.ofNat i).toNat, xa, xb].flatten)).map vu8⟩), (vi 0)].toArray) rfl rfl (qV rfl (R.extract rfl rfl) (qV rfl (R.extract rfl rfl) ?_))
 refine WL.alloc (segs := [(32, (zB 32).map vu8)]) h_106 (zv typeInfo23 rfl) rfl (sC (s8 lr) sN) rfl (fun b_107 w_108 h_109 => ?_)
 refine WL.storeA [] [(32, (zB 32).map vu8)] [(32, (anD id df n (anU id 0 ([] : Lg) (1, (zB 32), 6, leN 8 (UInt64.ofNat pg).toNat)) (anL id df n 0 ([] : Lg) (1, (zB 32), 6, leN 8 (UInt64.ofNat pg).toNat)) (1, (zB 32), 5, [leN 8 (UInt64.ofNat i).toNat, xa, xb].flatten)).map vu8)] [] h_109 rfl rfl sizeOf23 At.h (by decide) rfl rfl rfl rfl rfl rfl (sC (s8 (anD_len hl (anL_32 (dn := n) hl okN))) sN) (fun w_110 h_111 => ?_)
 refine qA (vi 0) rfl rfl ?_
 refine WL.nil (thn_n (WP.seq (WP.seq (WP.reg ?_))))
 refine qM (vn i) rfl rfl (qV rfl (R.bin rfl rfl (bi_lss (r := decide ((((i : Nat) : Int) : Int) < 1)) rfl)) (qM (.bool (decide ((((i : Nat) : Int) : Int) < 1))) rfl rfl ?_))
 refine WL.want rfl (congrArg Value.bool (decide_eq_false (by omega))) ?_
 refine qM (vn i) rfl rfl ?_
 refine WL.want rfl (congrArg Value.bool (decide_eq_false (by omega))) ?_
 refine qV rfl (R.bin rfl rfl (bi_gtr (r := decide ((((i : Nat) : Int) : Int) > 127)) rfl)) (qV rfl (R.pickF (v := (.bool (decide ((((i : Nat) : Int) : Int) > 127)))) (congrArg Value.bool (decide_eq_false (by omega))) rfl) ?_)
 refine WL.nil (thn_n ?_)
 refine WP.condF (congrArg Value.bool (decide_eq_false (by omega))) ?_
 refine WP.skip (thn_n (WP.seq ?_))
 refine WP.drawT (SL w.heap.size [.blk b_107 .nw 23 [(32, (anD id df n (anU id 0 ([] : Lg) (1, (zB 32), 6, leN 8 (UInt64.ofNat pg).toNat)) (anL id df n 0 ([] : Lg) (1, (zB 32), 6, leN 8 (UInt64.ofNat pg).toNat)) (1, (zB 32), 5, [leN 8 (UInt64.ofNat i).toNat, xa, xb].flatten)).map vu8)], .blk b_15 .nw 106 [(1, [(.bool id)]), (32, ms.map vu8), (1, [(.slice a_17 n c_18)]), (1, [(vn (anU id (anU id 0 ([] : Lg) (1, (zB 32), 6, leN 8 (UInt64.ofNat pg).toNat)) (anL id df n 0 ([] : Lg) (1, (zB 32), 6, leN 8 (UInt64.ofNat pg).toNat)) (1, (zB 32), 5, [leN 8 (UInt64.ofNat i).toNat, xa, xb].flatten)))]), (1, [(.map (some b_16))]), (1, [(.slice la_102 ((anL id df n (anU id 0 ([] : Lg) (1, (zB 32), 6, leN 8 (UInt64.ofNat pg).toNat)) (anL id df n 0 ([] : Lg) (1, (zB 32), 6, leN 8 (UInt64.ofNat pg).toNat)) (1, (zB 32), 5, [leN 8 (UInt64.ofNat i).toNat, xa, xb].flatten)).length) lc_103)])], .row la_102 ((anL id df n (anU id 0 ([] : Lg) (1, (zB 32), 6, leN 8 (UInt64.ofNat pg).toNat)) (anL id df n 0 ([] : Lg) (1, (zB 32), 6, leN 8 (UInt64.ofNat pg).toNat)) (1, (zB 32), 5, [leN 8 (UInt64.ofNat i).toNat, xa, xb].flatten)).length) lc_103 102 67 lx_104, .obj b_16 .nw (.map (mArr (anL id df n (anU id 0 ([] : Lg) (1, (zB 32), 6, leN 8 (UInt64.ofNat pg).toNat)) (anL id df n 0 ([] : Lg) (1, (zB 32), 6, leN 8 (UInt64.ofNat pg).toNat)) (1, (zB 32), 5, [leN 8 (UInt64.ofNat i).toNat, xa, xb].flatten))) ((anL id df n (anU id 0 ([] : Lg) (1, (zB 32), 6, leN 8 (UInt64.ofNat pg).toNat)) (anL id df n 0 ([] : Lg) (1, (zB 32), 6, leN 8 (UInt64.ofNat pg).toNat)) (1, (zB 32), 5, [leN 8 (UInt64.ofNat i).toNat, xa, xb].flatten)).length)), .pin (sblks lx_104) (fun w => Lgs w lx_104 (anL id df n (anU id 0 ([] : Lg) (1, (zB 32), 6, leN 8 (UInt64.ofNat pg).toNat)) (anL id df n 0 ([] : Lg) (1, (zB 32), 6, leN 8 (UInt64.ofNat pg).toNat)) (1, (zB 32), 5, [leN 8 (UInt64.ofNat i).toNat, xa, xb].flatten))), .view a_17 (df.map vu8), .row a_79 7 cap_80 3 1 ((bsL pg).map vi64), .row a_70 8 cap_71 3 1 ((wayL pg).map vi64), .row a_49 7 cap_50 3 1 ((bsL pg).map vi64), .row a_43 8 cap_44 3 1 ((wayL pg).map vi64), .blk b_38 .nw 23 [(32, (anD id df n 0 ([] : Lg) (1, (zB 32), 6, leN 8 (UInt64.ofNat pg).toNat)).map vu8)], .blk b_20 .nw 112 [(1, [(.slice a_21 gn gn)])], .row a_21 gn gn 76 128 ((fillL fd gn (min fn gn)).map vu8), .blk b_22 .nw 95 [(1, [(.slice a_23 (128 * gn) (128 * gn))])], .row a_23 (128 * gn) (128 * gn) 5 1 ((fillL fd gn (min fn gn)).map vu8), .view fa (fd.map vu8), .blk b_7 .nw 23 [(32, xb.map vu8)], .blk b_4 .nw 23 [(32, xa.map vu8)], .blk b_1 .nw 28 [(1, [(.bool id)]), (32, ms.map vu8), (1, [(.slice da0 n cap0)]), (1, [(vn gn)]), (1, [(.slice fa fn fc)]), (1, [(vu64 nd)])]]) (.q 0 (.q 1 (.q 2 (.q 3 (.q 4 (.s 5 (.q 6 (.q 7 (.q 8 (.s 9 (.q 10 (.q 11 (.q 12 (.s 13 (.q 14 (.q 15 .nil)))))))))))))))) (by kernel_rfl) (by kernel_rfl) rfl (by kernel_rfl) (fun w_112 hc_114 => (SL.cons ((h_111.same hc_114).ok _ M0) (SL.cons ((h_111.same hc_114).ok _ M1) (SL.cons ((h_111.same hc_114).ok _ M2) (SL.cons ((h_111.same hc_114).ok _ M3) (SL.cons ((h_111.same hc_114).ok _ M4) (SL.cons ((h_111.same hc_114).ok _ M5) (SL.cons ((h_111.same hc_114).ok _ M6) (SL.cons ((h_111.same hc_114).ok _ M7) (SL.cons ((h_111.same hc_114).ok _ M12) (SL.cons ((h_111.same hc_114).ok _ M13) (SL.cons ((h_111.same hc_114).ok _ M14) (SL.cons ((h_111.same hc_114).ok _ M15) (SL.cons ((h_111.same hc_114).ok _ M16) (SL.cons ((h_111.same hc_114).ok _ M17) (SL.cons ((h_111.same hc_114).ok _ M18) (SL.cons ((h_111.same hc_114).ok _ M19) (SL.cons ((h_111.same hc_114).ok _ M20) (SL.cons ((h_111.same hc_114).ok _ M21) (SL.cons ((h_111.same hc_114).ok _ (.tail _ (.tail _ (.tail _ (.tail _ (.tail _ (.tail _ (.tail _ (.tail _ (.tail _ (.tail _ (.tail _ (.tail _ (.tail _ (.tail _ (.tail _ (.tail _ (.tail _ (.tail _ (.tail _ (.tail _ (.tail _ (.tail _ M0))))))))))))))))))))))) (SL.nil _ _))))))))))))))))))))) (fun w_112 hc_114 => ?_)
 have h_113 := h_111.same hc_114
 refine qT rfl rfl (fun wq hS => R.loadA [] [(32, (anD id df n (anU id 0 ([] : Lg) (1, (zB 32), 6, leN 8 (UInt64.ofNat pg).toNat)) (anL id df n 0 ([] : Lg) (1, (zB 32), 6, leN 8 (UInt64.ofNat pg).toNat)) (1, (zB 32), 5, [leN 8 (UInt64.ofNat i).toNat, xa, xb].flatten)).map vu8)] [] (cs := (anD id df n (anU id 0 ([] : Lg) (1, (zB 32), 6, leN 8 (UInt64.ofNat pg).toNat)) (anL id df n 0 ([] : Lg) (1, (zB 32), 6, leN 8 (UInt64.ofNat pg).toNat)) (1, (zB 32), 5, [leN 8 (UInt64.ofNat i).toNat, xa, xb].flatten)).map vu8) rfl isAgg23 sizeOf23 (hS _ M0) rfl rfl rfl rfl) ?_
 refine qT rfl rfl (fun wq hS => R.move (v := (pO b_19 0)) rfl) ?_
 refine qT rfl rfl (fun wq hS => R.move (v := (vn i)) rfl) ?_
 refine qT rfl rfl (fun wq hS => R.loadA [] [(32, xa.map vu8)] [] (cs := xa.map vu8) rfl isAgg23 sizeOf23 (hS _ M17) rfl rfl rfl rfl) ?_
 refine qT rfl rfl (fun wq hS => R.loadA [] [(32, xb.map vu8)] [] (cs := xb.map vu8) rfl isAgg23 sizeOf23 (hS _ M16) rfl rfl rfl rfl) ?_
 refine WT.s (oN rfl ?_)
 have h_118 := (((h_113.up J11).up J11).up J11).up J11
 refine WL.call Tryz.call19 rfl rfl (c_rTNode id b_19 ms df hms da0 n cap0 (anU id 0 ([] : Lg) (1, (zB 32), 6, leN 8 (UInt64.ofNat pg).toNat)) hl la_65 lc_66 lx_67 (anL id df n 0 ([] : Lg) (1, (zB 32), 6, leN 8 (UInt64.ofNat pg).toNat)) (by first | decide | omega | exact Nat.le_trans (anU_le ..) (by decide) | exact Nat.le_trans (anU_le ..) (Nat.le_trans (Nat.succ_le_succ (anU_le ..)) (by decide))) (by first | decide | omega | exact Nat.le_trans (anL_le ..) (by decide) | exact Nat.le_trans (anL_le ..) (Nat.le_trans (Nat.succ_le_succ (anL_le ..)) (by decide))) i xa xb hxa hxb _ h_118) rfl ?_
 rintro _ w_122 ⟨la_119, lc_120, lx_121, rfl, h_123⟩
 refine WL.nil ?_
 refine ⟨(SL.cons (h_123.ok _ M4) (SL.cons (h_123.ok _ M5) (SL.cons (h_123.ok _ M6) (SL.cons (h_123.ok _ M7) (SL.cons (h_123.ok _ M8) (SL.cons (h_123.ok _ M9) (SL.cons (h_123.ok _ M10) (SL.cons (h_123.ok _ M11) (SL.cons (h_123.ok _ M12) (SL.cons (h_123.ok _ M13) (SL.cons (h_123.ok _ M14) (SL.cons (h_123.ok _ M15) (SL.cons (h_123.ok _ M16) (SL.cons (h_123.ok _ M17) (SL.cons (h_123.ok _ M18) (SL.cons (h_123.ok _ M19) (SL.cons (h_123.ok _ M20) (SL.cons (h_123.ok _ M21) (SL.cons (h_123.ok _ (.tail _ (.tail _ (.tail _ (.tail _ (.tail _ (.tail _ (.tail _ (.tail _ (.tail _ (.tail _ (.tail _ (.tail _ (.tail _ (.tail _ (.tail _ (.tail _ (.tail _ (.tail _ (.tail _ (.tail _ (.tail _ (.tail _ M0))))))))))))))))))))))) (SL.nil _ _)))))))))))))))))))), ?_⟩
 refine qT rfl rfl (fun wq hS => R.eqA (xs := (anD id df n (anU id 0 ([] : Lg) (1, (zB 32), 6, leN 8 (UInt64.ofNat pg).toNat)) (anL id df n 0 ([] : Lg) (1, (zB 32), 6, leN 8 (UInt64.ofNat pg).toNat)) (1, (zB 32), 5, [leN 8 (UInt64.ofNat i).toNat, xa, xb].flatten)).map vu8) (ys := (anD id df n (anU id 0 ([] : Lg) (1, (zB 32), 6, leN 8 (UInt64.ofNat pg).toNat)) (anL id df n 0 ([] : Lg) (1, (zB 32), 6, leN 8 (UInt64.ofNat pg).toNat)) (1, (zB 32), 5, [leN 8 (UInt64.ofNat i).toNat, xa, xb].flatten)).map vu8) (r := true) rfl rfl eqGuardType23 kt23 (by decide) ag23 (Typ.u8s underlying23 ce23 underlying5 ce5 (anD_len hl (anL_32 (dn := n) hl okN))) (Typ.u8s underlying23 ce23 underlying5 ce5 (anD_len hl (anL_32 (dn := n) hl okN))) (eqT rfl)) ?_
 refine qT rfl rfl (fun wq hS => R.move (v := (.bool true)) rfl) ?_
 refine WT.q rfl (Wn.yes rfl rfl rfl) rfl rfl (fun wq hS => R.move (v := (vi 0)) rfl) ?_
 refine WT.s ?_
 refine Op1.one rfl (Wn.yes rfl rfl rfl) ?_
 refine WL.call Tryz.call17 rfl rfl (c_num15 0 (by omega) _ ) rfl ?_
 rintro _ w_125 ⟨rfl, hc_124⟩
 have h_126 := h_123.same hc_124
 refine WL.nil ?_
 refine ⟨(SL.cons (h_126.ok _ M4) (SL.cons (h_126.ok _ M5) (SL.cons (h_126.ok _ M6) (SL.cons (h_126.ok _ M7) (SL.cons (h_126.ok _ M8) (SL.cons (h_126.ok _ M9) (SL.cons (h_126.ok _ M10) (SL.cons (h_126.ok _ M11) (SL.cons (h_126.ok _ M12) (SL.cons (h_126.ok _ M13) (SL.cons (h_126.ok _ M14) (SL.cons (h_126.ok _ M15) (SL.cons (h_126.ok _ M16) (SL.cons (h_126.ok _ M17) (SL.cons (h_126.ok _ M18) (SL.cons (h_126.ok _ M19) (SL.cons (h_126.ok _ M20) (SL.cons (h_126.ok _ M21) (SL.cons (h_126.ok _ (.tail _ (.tail _ (.tail _ (.tail _ (.tail _ (.tail _ (.tail _ (.tail _ (.tail _ (.tail _ (.tail _ (.tail _ (.tail _ (.tail _ (.tail _ (.tail _ (.tail _ (.tail _ (.tail _ (.tail _ (.tail _ (.tail _ M0))))))))))))))))))))))) (SL.nil _ _)))))))))))))))))))), ?_⟩
 refine WT.q rfl (Wn.yes rfl rfl rfl) rfl rfl (fun wq hS => R.bin rfl rfl (bi_eql (r := true) (by decide))) ?_
 refine qT rfl rfl (fun wq hS => R.pickT (v := (.bool true)) rfl rfl) ?_
 refine qT rfl rfl (fun wq hS => R.move (v := (.bool true)) rfl) ?_
 refine WT.s ?_
 refine Op1.one rfl (Wn.yes rfl rfl rfl) ?_
 refine WL.call Tryz.call7 rfl rfl (c_known15  _ ) rfl ?_
 rintro _ w_128 ⟨rfl, hc_127⟩
 have h_129 := h_126.same hc_127
 refine WL.nil ?_
 refine ⟨(SL.cons (h_129.ok _ M4) (SL.cons (h_129.ok _ M5) (SL.cons (h_129.ok _ M6) (SL.cons (h_129.ok _ M7) (SL.cons (h_129.ok _ M8) (SL.cons (h_129.ok _ M9) (SL.cons (h_129.ok _ M10) (SL.cons (h_129.ok _ M11) (SL.cons (h_129.ok _ M12) (SL.cons (h_129.ok _ M13) (SL.cons (h_129.ok _ M14) (SL.cons (h_129.ok _ M15) (SL.cons (h_129.ok _ M16) (SL.cons (h_129.ok _ M17) (SL.cons (h_129.ok _ M18) (SL.cons (h_129.ok _ M19) (SL.cons (h_129.ok _ M20) (SL.cons (h_129.ok _ M21) (SL.cons (h_129.ok _ (.tail _ (.tail _ (.tail _ (.tail _ (.tail _ (.tail _ (.tail _ (.tail _ (.tail _ (.tail _ (.tail _ (.tail _ (.tail _ (.tail _ (.tail _ (.tail _ (.tail _ (.tail _ (.tail _ (.tail _ (.tail _ (.tail _ M0))))))))))))))))))))))) (SL.nil _ _)))))))))))))))))))), ?_⟩
 refine qT rfl rfl (fun wq hS => R.pickT (v := (.bool true)) rfl rfl) ?_
 refine qT rfl rfl (fun wq hS => R.assign (v := (.bool true)) rfl) ?_
 refine WT.nil (thn_n (WP.ret ?_))
 refine ret_of results3 (RV.tmp (v := (.bool true)) rfl RV.nil) ?_
 exact ⟨rfl, h_129.chgS⟩

theorem w_TP_tl (id : Bool) (ms df : List UInt8) (hms : ms.length = 32) (da0 : Option Addr) (n cap0 : Nat) (hl : df.length = 32 * n) (fa : Option Addr) (fn fc : Nat) (fd : List UInt8) (hfl : fd.length = 128 * fn) (nd : UInt64) (xa xb : List UInt8) (hxa : xa.length = 32) (hxb : xb.length = 32) (gn : Nat) (hs : n ≤ 700 ∧ 1 ≤ gn ∧ gn ≤ 80 ∧ fn ≤ 80) (pg : Nat) (h : pg < 128) (i : Int) (hi : i < 1) (w : World) (hv : View w da0 (df.map vu8)) (hvf : View w fa (fd.map vu8)) :
  Cs Tryz.prog 3 [(.agg ⟨flat [(1, [(.bool id)]), (32, ms.map vu8), (1, [(.slice da0 n cap0)]), (1, [(vi ((gn : Nat) : Int))]), (1, [(.slice fa fn fc)]), (1, [(vu64 nd)])]⟩), (vi ((pg : Nat) : Int)), (vi i), (.agg ⟨xa.map vu8⟩), (.agg ⟨xb.map vu8⟩)].toArray w (fun v w1 => v = (.bool true) ∧ Chg w w1 []) := by
 refine Cs.of (n := 152) (args := [(.agg ⟨flat [(1, [(.bool id)]), (32, ms.map vu8), (1, [(.slice da0 n cap0)]), (1, [(vn gn)]), (1, [(.slice fa fn fc)]), (1, [(vu64 nd)])]⟩), (vn pg), (vi i), (.agg ⟨xa.map vu8⟩), (.agg ⟨xb.map vu8⟩)]) Tryz.func3 rfl rfl rfl ?_
 have h_0 := HP.init w
 have h_01 := h_0.oldV (View.arg hv) rfl (by simp [Ent.mut])
 have h_00 := h_01.oldV (View.arg hvf) rfl (by simp [Ent.mut])
 refine WP.seq (WP.reg ?_)
 refine WL.box (segs := [(1, [(.bool id)]), (32, ms.map vu8), (1, [(.slice da0 n cap0)]), (1, [(vn gn)]), (1, [(.slice fa fn fc)]), (1, [(vu64 nd)])]) h_00 rfl rfl (sC sV (sC (s8 hms) (sC sV (sC sV (sC sV (sC sV sN)))))) rfl (fun b_1 w_2 h_3 => ?_)
 refine WL.box (segs := [(32, xa.map vu8)]) h_3 rfl rfl (sC (s8 hxa) sN) rfl (fun b_4 w_5 h_6 => ?_)
 refine WL.box (segs := [(32, xb.map vu8)]) h_6 rfl rfl (sC (s8 hxb) sN) rfl (fun b_7 w_8 h_9 => ?_)
 refine qA (.bool false) rfl rfl ?_
 refine WL.nil (thn_n (WP.seq (WP.seq (WP.reg ?_))))
 refine qV rfl (R.loadA [] [(1, [(.bool id)]), (32, ms.map vu8), (1, [(.slice da0 n cap0)]), (1, [(vn gn)]), (1, [(.slice fa fn fc)]), (1, [(vu64 nd)])] [] rfl isAgg28 sizeOf28 (h_9.ok _ M2) rfl rfl rfl rfl) ?_
 refine WL.call Tryz.call6 rfl rfl (c_small_t id ms df hms da0 n cap0 hl fa fn fc fd hfl nd gn hs _ ) rfl ?_
 rintro _ w_11 ⟨rfl, hc_10⟩
 have h_12 := h_9.same hc_10
 refine qV rfl (R.not (b := true) rfl) ?_
 refine WL.nil (thn_n ?_)
 refine WP.condF rfl ?_
 refine WP.skip (thn_n (WP.seq (WP.reg ?_)))
 refine qV rfl (R.loadA [] [(1, [(.bool id)]), (32, ms.map vu8), (1, [(.slice da0 n cap0)]), (1, [(vn gn)]), (1, [(.slice fa fn fc)]), (1, [(vu64 nd)])] [] rfl isAgg28 sizeOf28 (h_12.ok _ M2) rfl rfl rfl rfl) ?_
 have h_14 := (h_12.up J3).up J4
 refine WL.call Tryz.call8 rfl rfl (c_two id ms df hms da0 n cap0 hl fa fn fc fd hfl nd gn hs _ h_14) rfl ?_
 rintro _ w_24 ⟨b_15, b_16, a_17, c_18, b_19, b_20, a_21, b_22, a_23, rfl, h_25⟩
 have h_26 := h_25.rowNil 102 67
 have h_27 := HP_logNil h_26
 refine qM (.tuple [(pO b_15 0), (pO b_20 0), (pO b_19 0), (pO b_22 0), (.bool true)].toArray) rfl rfl (qV rfl (R.extract rfl rfl) (qV rfl (R.extract rfl rfl) (qV rfl (R.extract rfl rfl) (qV rfl (R.extract rfl rfl) (qV rfl (R.extract rfl rfl) (qA (pO b_15 0) rfl rfl (qA (pO b_20 0) rfl rfl (qA (pO b_19 0) rfl rfl (qA (pO b_22 0) rfl rfl (qA (.bool true) rfl rfl ?_))))))))))
 refine WL.nil (thn_n (WP.seq (WP.seq (WP.reg ?_))))
 refine qM (.bool true) rfl rfl (qV rfl (R.not (b := true) rfl) ?_)
 refine WL.nil (thn_n ?_)
 refine WP.condF rfl ?_
 refine WP.skip (thn_n (WP.seq (WP.reg ?_)))
 refine qM (pO b_15 0) rfl rfl (qM (vn pg) rfl rfl ?_)
 have h_32 := ((((h_27.up J6).up J1).up J5).up J3).up J4
 refine WL.call Tryz.call9 rfl rfl (c_TNone_t id b_15 b_16 ms df hms a_17 n c_18 0 hl none 0 [] ([] : Lg) (by first | decide | omega | exact Nat.le_trans (anU_le ..) (by decide) | exact Nat.le_trans (anU_le ..) (Nat.le_trans (Nat.succ_le_succ (anU_le ..)) (by decide))) (by first | decide | omega | exact Nat.le_trans (anL_le ..) (by decide) | exact Nat.le_trans (anL_le ..) (Nat.le_trans (Nat.succ_le_succ (anL_le ..)) (by decide))) pg (by omega) _ h_32) rfl ?_
 rintro _ w_36 ⟨la_33, lc_34, lx_35, rfl, h_37⟩
 refine qM (.tuple [(.agg ⟨(anD id df n 0 ([] : Lg) (1, (zB 32), 6, leN 8 (UInt64.ofNat pg).toNat)).map vu8⟩), (vi 0)].toArray) rfl rfl (qV rfl (R.extract rfl rfl) (qV rfl (R.extract rfl rfl) ?_))
 refine WL.alloc (segs := [(32, (zB 32).map vu8)]) h_37 (zv typeInfo23 rfl) rfl (sC (s8 lr) sN) rfl (fun b_38 w_39 h_40 => ?_)
 refine WL.storeA [] [(32, (zB 32).map vu8)] [(32, (anD id df n 0 ([] : Lg) (1, (zB 32), 6, leN 8 (UInt64.ofNat pg).toNat)).map vu8)] [] h_40 rfl rfl sizeOf23 At.h (by decide) rfl rfl rfl rfl rfl rfl (sC (s8 (anD_len hl okN)) sN) (fun w_41 h_42 => ?_)
 refine qA (vi 0) rfl rfl ?_
 refine WL.nil (thn_n (WP.seq (WP.reg ?_)))
 refine qM (vn pg) rfl rfl ?_
 refine WL.call Tryz.call10 rfl rfl (c_Way_t pg (by omega) _) rfl ?_
 rintro _ w_45 ⟨a_43, cap_44, rfl, hc_46, ho_47⟩
 have h_48 := h_42.gotRow hc_46 ho_47
 refine qM (.tuple [(.slice a_43 8 cap_44), (vi 0)].toArray) rfl rfl (qV rfl (R.extract rfl rfl) (qV rfl (R.extract rfl rfl) (qA (.slice a_43 8 cap_44) rfl rfl (qA (vi 0) rfl rfl ?_))))
 refine WL.nil (thn_n (WP.seq (WP.reg ?_)))
 refine qM (vn pg) rfl rfl ?_
 refine WL.call Tryz.call11 rfl rfl (c_Bes_t pg (by omega) _) rfl ?_
 rintro _ w_51 ⟨a_49, cap_50, rfl, hc_52, ho_53⟩
 have h_54 := h_48.gotRow hc_52 ho_53
 refine qM (.tuple [(.slice a_49 7 cap_50), (vi 0)].toArray) rfl rfl (qV rfl (R.extract rfl rfl) (qV rfl (R.extract rfl rfl) (qA (.slice a_49 7 cap_50) rfl rfl (qA (vi 0) rfl rfl ?_))))
 refine WL.nil (thn_n (WP.seq (WP.seq (WP.reg ?_))))
 refine qM (vn pg) rfl rfl ?_
 refine WL.call Tryz.call12 rfl rfl (c_mayP_t pg (by omega) _ ) rfl ?_
 rintro _ w_56 ⟨rfl, hc_55⟩
 have h_57 := h_54.same hc_55
 refine WL.nil (thn_n ?_)
 refine WP.condT rfl ?_
 refine WP.seq ?_
 refine WP.drawT (SL w.heap.size [.row a_49 7 cap_50 3 1 ((bsL pg).map vi64), .row a_43 8 cap_44 3 1 ((wayL pg).map vi64), .blk b_38 .nw 23 [(32, (anD id df n 0 ([] : Lg) (1, (zB 32), 6, leN 8 (UInt64.ofNat pg).toNat)).map vu8)], .blk b_15 .nw 106 [(1, [(.bool id)]), (32, ms.map vu8), (1, [(.slice a_17 n c_18)]), (1, [(vn (anU id 0 ([] : Lg) (1, (zB 32), 6, leN 8 (UInt64.ofNat pg).toNat)))]), (1, [(.map (some b_16))]), (1, [(.slice la_33 ((anL id df n 0 ([] : Lg) (1, (zB 32), 6, leN 8 (UInt64.ofNat pg).toNat)).length) lc_34)])], .row la_33 ((anL id df n 0 ([] : Lg) (1, (zB 32), 6, leN 8 (UInt64.ofNat pg).toNat)).length) lc_34 102 67 lx_35, .obj b_16 .nw (.map (mArr (anL id df n 0 ([] : Lg) (1, (zB 32), 6, leN 8 (UInt64.ofNat pg).toNat))) ((anL id df n 0 ([] : Lg) (1, (zB 32), 6, leN 8 (UInt64.ofNat pg).toNat)).length)), .pin (sblks lx_35) (fun w => Lgs w lx_35 (anL id df n 0 ([] : Lg) (1, (zB 32), 6, leN 8 (UInt64.ofNat pg).toNat))), .view a_17 (df.map vu8), .blk b_20 .nw 112 [(1, [(.slice a_21 gn gn)])], .row a_21 gn gn 76 128 ((fillL fd gn (min fn gn)).map vu8), .blk b_22 .nw 95 [(1, [(.slice a_23 (128 * gn) (128 * gn))])], .row a_23 (128 * gn) (128 * gn) 5 1 ((fillL fd gn (min fn gn)).map vu8), .view fa (fd.map vu8), .blk b_7 .nw 23 [(32, xb.map vu8)], .blk b_4 .nw 23 [(32, xa.map vu8)], .blk b_1 .nw 28 [(1, [(.bool id)]), (32, ms.map vu8), (1, [(.slice da0 n cap0)]), (1, [(vn gn)]), (1, [(.slice fa fn fc)]), (1, [(vu64 nd)])]]) (.q 0 (.q 1 (.q 2 (.s 3 (.q 4 (.q 5 (.q 6 (.q 7 (.s 8 (.s 9 (.q 10 (.q 11 (.q 12 (.q 13 (.q 14 (.s 15 (.s 16 (.q 17 (.q 18 (.q 19 (.q 20 (.q 22 (.q 25 (.s 21 (.s 23 (.q 24 (.s 26 (.q 27 (.q 28 (.q 29 .nil)))))))))))))))))))))))))))))) (by kernel_rfl) (by kernel_rfl) rfl (by kernel_rfl) (fun w_58 hc_60 => (SL.cons ((h_57.same hc_60).ok _ M0) (SL.cons ((h_57.same hc_60).ok _ M1) (SL.cons ((h_57.same hc_60).ok _ M2) (SL.cons ((h_57.same hc_60).ok _ M3) (SL.cons ((h_57.same hc_60).ok _ M4) (SL.cons ((h_57.same hc_60).ok _ M5) (SL.cons ((h_57.same hc_60).ok _ M6) (SL.cons ((h_57.same hc_60).ok _ M7) (SL.cons ((h_57.same hc_60).ok _ M11) (SL.cons ((h_57.same hc_60).ok _ M12) (SL.cons ((h_57.same hc_60).ok _ M13) (SL.cons ((h_57.same hc_60).ok _ M14) (SL.cons ((h_57.same hc_60).ok _ M16) (SL.cons ((h_57.same hc_60).ok _ M17) (SL.cons ((h_57.same hc_60).ok _ M18) (SL.cons ((h_57.same hc_60).ok _ M19) (SL.nil _ _)))))))))))))))))) (fun w_58 hc_60 => ?_)
 have h_59 := h_57.same hc_60
 refine qT rfl rfl (fun wq hS => R.loadA [] [(32, (anD id df n 0 ([] : Lg) (1, (zB 32), 6, leN 8 (UInt64.ofNat pg).toNat)).map vu8)] [] (cs := (anD id df n 0 ([] : Lg) (1, (zB 32), 6, leN 8 (UInt64.ofNat pg).toNat)).map vu8) rfl isAgg23 sizeOf23 (hS _ M2) rfl rfl rfl rfl) ?_
 refine qT rfl rfl (fun wq hS => R.move (v := (pO b_19 0)) rfl) ?_
 refine qT rfl rfl (fun wq hS => R.move (v := (vn pg)) rfl) ?_
 refine WT.s (oN rfl ?_)
 have h_64 := (((h_59.up J15).up J10).up J10).up J11
 refine WL.call Tryz.call13 rfl rfl (c_rTNone id b_19 ms df hms da0 n cap0 0 hl none 0 [] ([] : Lg) (by first | decide | omega | exact Nat.le_trans (anU_le ..) (by decide) | exact Nat.le_trans (anU_le ..) (Nat.le_trans (Nat.succ_le_succ (anU_le ..)) (by decide))) (by first | decide | omega | exact Nat.le_trans (anL_le ..) (by decide) | exact Nat.le_trans (anL_le ..) (Nat.le_trans (Nat.succ_le_succ (anL_le ..)) (by decide))) pg _ h_64) rfl ?_
 rintro _ w_68 ⟨la_65, lc_66, lx_67, rfl, h_69⟩
 refine WL.nil ?_
 refine ⟨(N4_5_6_7_8_9_10_11_12_13_14_15_16_17_18_19 h_69.ok), ?_⟩
 refine qT rfl rfl (fun wq hS => R.neA (xs := (anD id df n 0 ([] : Lg) (1, (zB 32), 6, leN 8 (UInt64.ofNat pg).toNat)).map vu8) (ys := (anD id df n 0 ([] : Lg) (1, (zB 32), 6, leN 8 (UInt64.ofNat pg).toNat)).map vu8) (r := false) rfl rfl eqGuardType23 kt23 (by decide) ag23 (Typ.u8s underlying23 ce23 underlying5 ce5 (anD_len hl okN)) (Typ.u8s underlying23 ce23 underlying5 ce5 (anD_len hl okN)) (neT rfl)) ?_
 refine qT rfl rfl (fun wq hS => R.move (v := (.bool false)) rfl) ?_
 refine WT.q rfl (Wn.yes rfl rfl rfl) rfl rfl (fun wq hS => R.move (v := (.slice a_43 8 cap_44)) rfl) ?_
 refine WT.q rfl (Wn.yes rfl rfl rfl) rfl rfl (fun wq hS => R.move (v := (vn pg)) rfl) ?_
 refine WT.s ?_
 refine Op1.one rfl (Wn.yes rfl rfl rfl) ?_
 refine WL.call Tryz.call15 rfl rfl (c_rWay pg (by omega) _) rfl ?_
 rintro _ w_72 ⟨a_70, cap_71, rfl, hc_73, ho_74⟩
 have h_75 := h_69.gotRow hc_73 ho_74
 refine WL.nil ?_
 refine ⟨(N5_6_7_8_9_10_11_12_13_14_15_16_17_18_19_20 h_75.ok), ?_⟩
 refine WT.s ?_
 refine Op1.one rfl (Wn.yes rfl rfl rfl) ?_
 refine WL.call Tryz.call14 rfl rfl (c_same15 a_43 a_70 8 8 cap_44 cap_71 (wayL pg) (wayL pg) (rfl : List.length (wayL pg) = 8) (rfl : List.length (wayL pg) = 8) (by omega) (by omega) _ (ownView (h_75.ok _ M6)) (ownView (h_75.ok _ M0))) rfl ?_
 rintro _ w_77 ⟨rfl, hc_76⟩
 have h_78 := h_75.same hc_76
 refine WL.nil ?_
 refine ⟨(N5_6_7_8_9_10_11_12_13_14_15_16_17_18_19_20 h_78.ok), ?_⟩
 refine WT.q rfl (Wn.yes rfl rfl rfl) rfl rfl (fun wq hS => R.not (b := true) (congrArg Value.bool (decide_eq_true rfl))) ?_
 refine qT rfl rfl (fun wq hS => R.pickF (v := (.bool false)) rfl rfl) ?_
 refine qT rfl rfl (fun wq hS => R.move (v := (.bool false)) rfl) ?_
 refine WT.q rfl (Wn.yes rfl rfl rfl) rfl rfl (fun wq hS => R.move (v := (.slice a_49 7 cap_50)) rfl) ?_
 refine WT.q rfl (Wn.yes rfl rfl rfl) rfl rfl (fun wq hS => R.move (v := (vn pg)) rfl) ?_
 refine WT.s ?_
 refine Op1.one rfl (Wn.yes rfl rfl rfl) ?_
 refine WL.call Tryz.call16 rfl rfl (c_rBes pg (by omega) _) rfl ?_
 rintro _ w_81 ⟨a_79, cap_80, rfl, hc_82, ho_83⟩
 have h_84 := h_78.gotRow hc_82 ho_83
 refine WL.nil ?_
 refine ⟨(N6_7_8_9_10_11_12_13_14_15_16_17_18_19_20_21 h_84.ok), ?_⟩
 refine WT.s ?_
 refine Op1.one rfl (Wn.yes rfl rfl rfl) ?_
 refine WL.call Tryz.call14 rfl rfl (c_same15 a_49 a_79 7 7 cap_50 cap_80 (bsL pg) (bsL pg) (rfl : List.length (bsL pg) = 7) (rfl : List.length (bsL pg) = 7) (by omega) (by omega) _ (ownView (h_84.ok _ M6)) (ownView (h_84.ok _ M0))) rfl ?_
 rintro _ w_86 ⟨rfl, hc_85⟩
 have h_87 := h_84.same hc_85
 refine WL.nil ?_
 refine ⟨(N6_7_8_9_10_11_12_13_14_15_16_17_18_19_20_21 h_87.ok), ?_⟩
 refine WT.q rfl (Wn.yes rfl rfl rfl) rfl rfl (fun wq hS => R.not (b := true) (congrArg Value.bool (decide_eq_true rfl))) ?_
 refine qT rfl rfl (fun wq hS => R.pickF (v := (.bool false)) rfl rfl) ?_
 refine qT rfl rfl (fun wq hS => R.move (v := (.bool false)) rfl) ?_
 refine WT.q rfl (Wn.yes rfl rfl rfl) rfl rfl (fun wq hS => R.move (v := (vi 0)) rfl) ?_
 refine WT.q rfl (Wn.yes rfl rfl rfl) rfl rfl (fun wq hS => R.move (v := (vi 0)) rfl) ?_
 refine WT.q rfl (Wn.yes rfl rfl rfl) rfl rfl (fun wq hS => R.move (v := (vi 0)) rfl) ?_
 refine WT.s ?_
 refine Op1.one rfl (Wn.yes rfl rfl rfl) ?_
 refine WL.call Tryz.call17 rfl rfl (c_num15 0 (by omega) _ ) rfl ?_
 rintro _ w_89 ⟨rfl, hc_88⟩
 have h_90 := h_87.same hc_88
 refine WL.nil ?_
 refine ⟨(N6_7_8_9_10_11_12_13_14_15_16_17_18_19_20_21 h_90.ok), ?_⟩
 refine WT.s ?_
 refine Op1.one rfl (Wn.yes rfl rfl rfl) ?_
 refine WL.call Tryz.call17 rfl rfl (c_num15 0 (by omega) _ ) rfl ?_
 rintro _ w_92 ⟨rfl, hc_91⟩
 have h_93 := h_90.same hc_91
 refine WL.nil ?_
 refine ⟨(N6_7_8_9_10_11_12_13_14_15_16_17_18_19_20_21 h_93.ok), ?_⟩
 refine WT.q rfl (Wn.yes rfl rfl rfl) rfl rfl (fun wq hS => R.bin rfl rfl (bi_add (c := 0) (by omega) (by omega))) ?_
 refine WT.s ?_
 refine Op1.one rfl (Wn.yes rfl rfl rfl) ?_
 refine WL.call Tryz.call17 rfl rfl (c_num15 0 (by omega) _ ) rfl ?_
 rintro _ w_95 ⟨rfl, hc_94⟩
 have h_96 := h_93.same hc_94
 refine WL.nil ?_
 refine ⟨(N6_7_8_9_10_11_12_13_14_15_16_17_18_19_20_21 h_96.ok), ?_⟩
 refine WT.q rfl (Wn.yes rfl rfl rfl) rfl rfl (fun wq hS => R.bin rfl rfl (bi_add (c := 0) (by omega) (by omega))) ?_
 refine WT.q rfl (Wn.yes rfl rfl rfl) rfl rfl (fun wq hS => R.bin rfl rfl (bi_neq (r := false) (by decide))) ?_
 refine qT rfl rfl (fun wq hS => R.pickF (v := (.bool false)) rfl rfl) ?_
 refine WT.nil (thn_n ?_)
 refine WP.condF rfl ?_
 refine WP.skip (thn_n (WP.seq (WP.reg ?_)))
 refine qM (pO b_15 0) rfl rfl (qM (vi i) rfl rfl (qV rfl (R.loadA [] [(32, xa.map vu8)] [] (cs := xa.map vu8) rfl isAgg23 sizeOf23 (h_96.ok _ M20) rfl rfl rfl rfl) (qV rfl (R.loadA [] [(32, xb.map vu8)] [] (cs := xb.map vu8) rfl isAgg23 sizeOf23 (h_96.ok _ M19) rfl rfl rfl rfl) ?_)))
 refine WL.call Tryz.call18 rfl rfl (c_TNode_f id b_15 b_16 ms hms a_17 n c_18 (anU id 0 ([] : Lg) (1, (zB 32), 6, leN 8 (UInt64.ofNat pg).toNat)) la_33 ((anL id df n 0 ([] : Lg) (1, (zB 32), 6, leN 8 (UInt64.ofNat pg).toNat)).length) lc_34 i (by omega) xa xb hxa hxb _ (h_96.argR M9)) rfl ?_
 rintro _ w_98 ⟨rfl, hc_97⟩
 have h_99 := h_96.same hc_97
 refine qM (.tuple [(.agg ⟨(zB 32).map vu8⟩), (vi 2)].toArray) rfl rfl (qV rfl (R.extract rfl rfl) (qV rfl (R.extract rfl rfl) ?_))
 refine WL.alloc (segs := [(32, (zB 32).map vu8)]) h_99 (zv typeInfo23 rfl) rfl (sC (s8 lr) sN) rfl (fun b_100 w_101 h_102 => ?_)
 refine WL.storeA [] [(32, (zB 32).map vu8)] [(32, (zB 32).map vu8)] [] h_102 rfl rfl sizeOf23 At.h (by decide) rfl rfl rfl rfl rfl rfl (sC (s8 lr) sN) (fun w_103 h_104 => ?_)
 refine qA (vi 2) rfl rfl ?_
 refine WL.nil (thn_n (WP.seq (WP.seq (WP.reg ?_))))
 refine qM (vi i) rfl rfl (qV rfl (R.bin rfl rfl (bi_lss (r := decide ((i : Int) < 1)) rfl)) (qM (.bool (decide ((i : Int) < 1))) rfl rfl ?_))
 refine WL.skip rfl (congrArg Value.bool (decide_eq_true (by omega))) rfl ?_
 refine WL.skip rfl (congrArg Value.bool (decide_eq_true (by omega))) rfl ?_
 refine qV rfl (R.pickT (v := (.bool true)) (congrArg Value.bool (decide_eq_true (by omega))) rfl) ?_
 refine WL.nil (thn_n ?_)
 refine WP.condT rfl ?_
 refine WP.seq (WP.reg ?_)
 refine qV rfl (R.loadA [] [(32, (zB 32).map vu8)] [] (cs := (zB 32).map vu8) rfl isAgg23 sizeOf23 (h_104.ok _ M0) rfl rfl rfl rfl) (qV rfl (R.buildA (vs := []) (cs := (zB 32).map vu8) underlying23 sizeOf5 (zv typeInfo23 rfl) rfl rfl) (qV rfl (R.eqA (xs := (zB 32).map vu8) (ys := (zB 32).map vu8) (r := true) rfl rfl eqGuardType23 kt23 (by decide) ag23 (Typ.u8s underlying23 ce23 underlying5 ce5 lr) (Typ.u8s underlying23 ce23 underlying5 ce5 lr) (eqT rfl)) (qM (.bool true) rfl rfl ?_)))
 refine WL.want rfl rfl ?_
 refine qM (vi 2) rfl rfl ?_
 refine WL.want rfl rfl ?_
 refine WL.call Tryz.call17 rfl rfl (c_num15 2 (by omega) _ ) rfl ?_
 rintro _ w_106 ⟨rfl, hc_105⟩
 have h_107 := h_104.same hc_105
 refine WL.want rfl rfl ?_
 refine qV rfl (R.bin rfl rfl (bi_eql (r := true) (by decide))) (qV rfl (R.pickT (v := (.bool true)) rfl rfl) (qM (.bool true) rfl rfl ?_))
 refine WL.want rfl rfl ?_
 refine WL.call Tryz.call7 rfl rfl (c_known15  _ ) rfl ?_
 rintro _ w_109 ⟨rfl, hc_108⟩
 have h_110 := h_107.same hc_108
 refine qV rfl (R.pickT (v := (.bool true)) rfl rfl) (qA (.bool true) rfl rfl ?_)
 refine WL.nil (thn_n (WP.ret (thn_r ?_)))
 refine ret_of results3 (RV.tmp (v := (.bool true)) rfl RV.nil) ?_
 exact ⟨rfl, h_110.chgS⟩

theorem w_TP_tu (id : Bool) (ms df : List UInt8) (hms : ms.length = 32) (da0 : Option Addr) (n cap0 : Nat) (hl : df.length = 32 * n) (fa : Option Addr) (fn fc : Nat) (fd : List UInt8) (hfl : fd.length = 128 * fn) (nd : UInt64) (xa xb : List UInt8) (hxa : xa.length = 32) (hxb : xb.length = 32) (gn : Nat) (hs : n ≤ 700 ∧ 1 ≤ gn ∧ gn ≤ 80 ∧ fn ≤ 80) (pg : Nat) (h : pg < 128) (i : Int) (hi : 127 < i) (w : World) (hv : View w da0 (df.map vu8)) (hvf : View w fa (fd.map vu8)) :
  Cs Tryz.prog 3 [(.agg ⟨flat [(1, [(.bool id)]), (32, ms.map vu8), (1, [(.slice da0 n cap0)]), (1, [(vi ((gn : Nat) : Int))]), (1, [(.slice fa fn fc)]), (1, [(vu64 nd)])]⟩), (vi ((pg : Nat) : Int)), (vi i), (.agg ⟨xa.map vu8⟩), (.agg ⟨xb.map vu8⟩)].toArray w (fun v w1 => v = (.bool true) ∧ Chg w w1 []) := by
 refine Cs.of (n := 152) (args := [(.agg ⟨flat [(1, [(.bool id)]), (32, ms.map vu8), (1, [(.slice da0 n cap0)]), (1, [(vn gn)]), (1, [(.slice fa fn fc)]), (1, [(vu64 nd)])]⟩), (vn pg), (vi i), (.agg ⟨xa.map vu8⟩), (.agg ⟨xb.map vu8⟩)]) Tryz.func3 rfl rfl rfl ?_
 have h_0 := HP.init w
 have h_01 := h_0.oldV (View.arg hv) rfl (by simp [Ent.mut])
 have h_00 := h_01.oldV (View.arg hvf) rfl (by simp [Ent.mut])
 refine WP.seq (WP.reg ?_)
 refine WL.box (segs := [(1, [(.bool id)]), (32, ms.map vu8), (1, [(.slice da0 n cap0)]), (1, [(vn gn)]), (1, [(.slice fa fn fc)]), (1, [(vu64 nd)])]) h_00 rfl rfl (sC sV (sC (s8 hms) (sC sV (sC sV (sC sV (sC sV sN)))))) rfl (fun b_1 w_2 h_3 => ?_)
 refine WL.box (segs := [(32, xa.map vu8)]) h_3 rfl rfl (sC (s8 hxa) sN) rfl (fun b_4 w_5 h_6 => ?_)
 refine WL.box (segs := [(32, xb.map vu8)]) h_6 rfl rfl (sC (s8 hxb) sN) rfl (fun b_7 w_8 h_9 => ?_)
 refine qA (.bool false) rfl rfl ?_
 refine WL.nil (thn_n (WP.seq (WP.seq (WP.reg ?_))))
 refine qV rfl (R.loadA [] [(1, [(.bool id)]), (32, ms.map vu8), (1, [(.slice da0 n cap0)]), (1, [(vn gn)]), (1, [(.slice fa fn fc)]), (1, [(vu64 nd)])] [] rfl isAgg28 sizeOf28 (h_9.ok _ M2) rfl rfl rfl rfl) ?_
 refine WL.call Tryz.call6 rfl rfl (c_small_t id ms df hms da0 n cap0 hl fa fn fc fd hfl nd gn hs _ ) rfl ?_
 rintro _ w_11 ⟨rfl, hc_10⟩
 have h_12 := h_9.same hc_10
 refine qV rfl (R.not (b := true) rfl) ?_
 refine WL.nil (thn_n ?_)
 refine WP.condF rfl ?_
 refine WP.skip (thn_n (WP.seq (WP.reg ?_)))
 refine qV rfl (R.loadA [] [(1, [(.bool id)]), (32, ms.map vu8), (1, [(.slice da0 n cap0)]), (1, [(vn gn)]), (1, [(.slice fa fn fc)]), (1, [(vu64 nd)])] [] rfl isAgg28 sizeOf28 (h_12.ok _ M2) rfl rfl rfl rfl) ?_
 have h_14 := (h_12.up J3).up J4
 refine WL.call Tryz.call8 rfl rfl (c_two id ms df hms da0 n cap0 hl fa fn fc fd hfl nd gn hs _ h_14) rfl ?_
 rintro _ w_24 ⟨b_15, b_16, a_17, c_18, b_19, b_20, a_21, b_22, a_23, rfl, h_25⟩
 have h_26 := h_25.rowNil 102 67
 have h_27 := HP_logNil h_26
 refine qM (.tuple [(pO b_15 0), (pO b_20 0), (pO b_19 0), (pO b_22 0), (.bool true)].toArray) rfl rfl (qV rfl (R.extract rfl rfl) (qV rfl (R.extract rfl rfl) (qV rfl (R.extract rfl rfl) (qV rfl (R.extract rfl rfl) (qV rfl (R.extract rfl rfl) (qA (pO b_15 0) rfl rfl (qA (pO b_20 0) rfl rfl (qA (pO b_19 0) rfl rfl (qA (pO b_22 0) rfl rfl (qA (.bool true) rfl rfl ?_))))))))))
 refine WL.nil (thn_n (WP.seq (WP.seq (WP.reg ?_))))
 refine qM (.bool true) rfl rfl (qV rfl (R.not (b := true) rfl) ?_)
 refine WL.nil (thn_n ?_)
 refine WP.condF rfl ?_
 refine WP.skip (thn_n (WP.seq (WP.reg ?_)))
 refine qM (pO b_15 0) rfl rfl (qM (vn pg) rfl rfl ?_)
 have h_32 := ((((h_27.up J6).up J1).up J5).up J3).up J4
 refine WL.call Tryz.call9 rfl rfl (c_TNone_t id b_15 b_16 ms df hms a_17 n c_18 0 hl none 0 [] ([] : Lg) (by first | decide | omega | exact Nat.le_trans (anU_le ..) (by decide) | exact Nat.le_trans (anU_le ..) (Nat.le_trans (Nat.succ_le_succ (anU_le ..)) (by decide))) (by first | decide | omega | exact Nat.le_trans (anL_le ..) (by decide) | exact Nat.le_trans (anL_le ..) (Nat.le_trans (Nat.succ_le_succ (anL_le ..)) (by decide))) pg (by omega) _ h_32) rfl ?_
 rintro _ w_36 ⟨la_33, lc_34, lx_35, rfl, h_37⟩
 refine qM (.tuple [(.agg ⟨(anD id df n 0 ([] : Lg) (1, (zB 32), 6, leN 8 (UInt64.ofNat pg).toNat)).map vu8⟩), (vi 0)].toArray) rfl rfl (qV rfl (R.extract rfl rfl) (qV rfl (R.extract rfl rfl) ?_))
 refine WL.alloc (segs := [(32, (zB 32).map vu8)]) h_37 (zv typeInfo23 rfl) rfl (sC (s8 lr) sN) rfl (fun b_38 w_39 h_40 => ?_)
 refine WL.storeA [] [(32, (zB 32).map vu8)] [(32, (anD id df n 0 ([] : Lg) (1, (zB 32), 6, leN 8 (UInt64.ofNat pg).toNat)).map vu8)] [] h_40 rfl rfl sizeOf23 At.h (by decide) rfl rfl rfl rfl rfl rfl (sC (s8 (anD_len hl okN)) sN) (fun w_41 h_42 => ?_)
 refine qA (vi 0) rfl rfl ?_
 refine WL.nil (thn_n (WP.seq (WP.reg ?_)))
 refine qM (vn pg) rfl rfl ?_
 refine WL.call Tryz.call10 rfl rfl (c_Way_t pg (by omega) _) rfl ?_
 rintro _ w_45 ⟨a_43, cap_44, rfl, hc_46, ho_47⟩
 have h_48 := h_42.gotRow hc_46 ho_47
 refine qM (.tuple [(.slice a_43 8 cap_44), (vi 0)].toArray) rfl rfl (qV rfl (R.extract rfl rfl) (qV rfl (R.extract rfl rfl) (qA (.slice a_43 8 cap_44) rfl rfl (qA (vi 0) rfl rfl ?_))))
 refine WL.nil (thn_n (WP.seq (WP.reg ?_)))
 refine qM (vn pg) rfl rfl ?_
 refine WL.call Tryz.call11 rfl rfl (c_Bes_t pg (by omega) _) rfl ?_
 rintro _ w_51 ⟨a_49, cap_50, rfl, hc_52, ho_53⟩
 have h_54 := h_48.gotRow hc_52 ho_53
 refine qM (.tuple [(.slice a_49 7 cap_50), (vi 0)].toArray) rfl rfl (qV rfl (R.extract rfl rfl) (qV rfl (R.extract rfl rfl) (qA (.slice a_49 7 cap_50) rfl rfl (qA (vi 0) rfl rfl ?_))))
 refine WL.nil (thn_n (WP.seq (WP.seq (WP.reg ?_))))
 refine qM (vn pg) rfl rfl ?_
 refine WL.call Tryz.call12 rfl rfl (c_mayP_t pg (by omega) _ ) rfl ?_
 rintro _ w_56 ⟨rfl, hc_55⟩
 have h_57 := h_54.same hc_55
 refine WL.nil (thn_n ?_)
 refine WP.condT rfl ?_
 refine WP.seq ?_
 refine WP.drawT (SL w.heap.size [.row a_49 7 cap_50 3 1 ((bsL pg).map vi64), .row a_43 8 cap_44 3 1 ((wayL pg).map vi64), .blk b_38 .nw 23 [(32, (anD id df n 0 ([] : Lg) (1, (zB 32), 6, leN 8 (UInt64.ofNat pg).toNat)).map vu8)], .blk b_15 .nw 106 [(1, [(.bool id)]), (32, ms.map vu8), (1, [(.slice a_17 n c_18)]), (1, [(vn (anU id 0 ([] : Lg) (1, (zB 32), 6, leN 8 (UInt64.ofNat pg).toNat)))]), (1, [(.map (some b_16))]), (1, [(.slice la_33 ((anL id df n 0 ([] : Lg) (1, (zB 32), 6, leN 8 (UInt64.ofNat pg).toNat)).length) lc_34)])], .row la_33 ((anL id df n 0 ([] : Lg) (1, (zB 32), 6, leN 8 (UInt64.ofNat pg).toNat)).length) lc_34 102 67 lx_35, .obj b_16 .nw (.map (mArr (anL id df n 0 ([] : Lg) (1, (zB 32), 6, leN 8 (UInt64.ofNat pg).toNat))) ((anL id df n 0 ([] : Lg) (1, (zB 32), 6, leN 8 (UInt64.ofNat pg).toNat)).length)), .pin (sblks lx_35) (fun w => Lgs w lx_35 (anL id df n 0 ([] : Lg) (1, (zB 32), 6, leN 8 (UInt64.ofNat pg).toNat))), .view a_17 (df.map vu8), .blk b_20 .nw 112 [(1, [(.slice a_21 gn gn)])], .row a_21 gn gn 76 128 ((fillL fd gn (min fn gn)).map vu8), .blk b_22 .nw 95 [(1, [(.slice a_23 (128 * gn) (128 * gn))])], .row a_23 (128 * gn) (128 * gn) 5 1 ((fillL fd gn (min fn gn)).map vu8), .view fa (fd.map vu8), .blk b_7 .nw 23 [(32, xb.map vu8)], .blk b_4 .nw 23 [(32, xa.map vu8)], .blk b_1 .nw 28 [(1, [(.bool id)]), (32, ms.map vu8), (1, [(.slice da0 n cap0)]), (1, [(vn gn)]), (1, [(.slice fa fn fc)]), (1, [(vu64 nd)])]]) (.q 0 (.q 1 (.q 2 (.s 3 (.q 4 (.q 5 (.q 6 (.q 7 (.s 8 (.s 9 (.q 10 (.q 11 (.q 12 (.q 13 (.q 14 (.s 15 (.s 16 (.q 17 (.q 18 (.q 19 (.q 20 (.q 22 (.q 25 (.s 21 (.s 23 (.q 24 (.s 26 (.q 27 (.q 28 (.q 29 .nil)))))))))))))))))))))))))))))) (by kernel_rfl) (by kernel_rfl) rfl (by kernel_rfl) (fun w_58 hc_60 => (SL.cons ((h_57.same hc_60).ok _ M0) (SL.cons ((h_57.same hc_60).ok _ M1) (SL.cons ((h_57.same hc_60).ok _ M2) (SL.cons ((h_57.same hc_60).ok _ M3) (SL.cons ((h_57.same hc_60).ok _ M4) (SL.cons ((h_57.same hc_60).ok _ M5) (SL.cons ((h_57.same hc_60).ok _ M6) (SL.cons ((h_57.same hc_60).ok _ M7) (SL.cons ((h_57.same hc_60).ok _ M11) (SL.cons ((h_57.same hc_60).ok _ M12) (SL.cons ((h_57.same hc_60).ok _ M13) (SL.cons ((h_57.same hc_60).ok _ M14) (SL.cons ((h_57.same hc_60).ok _ M16) (SL.cons ((h_57.same hc_60).ok _ M17) (SL.cons ((h_57.same hc_60).ok _ M18) (SL.cons ((h_57.same hc_60).ok _ M19) (SL.nil _ _)))))))))))))))))) (fun w_58 hc_60 => ?_)
 have h_59 := h_57.same hc_60
 refine qT rfl rfl (fun wq hS => R.loadA [] [(32, (anD id df n 0 ([] : Lg) (1, (zB 32), 6, leN 8 (UInt64.ofNat pg).toNat)).map vu8)] [] (cs := (anD id df n 0 ([] : Lg) (1, (zB 32), 6, leN 8 (UInt64.ofNat pg).toNat)).map vu8) rfl isAgg23 sizeOf23 (hS _ M2) rfl rfl rfl rfl) ?_
 refine qT rfl rfl (fun wq hS => R.move (v := (pO b_19 0)) rfl) ?_
 refine qT rfl rfl (fun wq hS => R.move (v := (vn pg)) rfl) ?_
 refine WT.s (oN rfl ?_)
 have h_64 := (((h_59.up J15).up J10).up J10).up J11
 refine WL.call Tryz.call13 rfl rfl (c_rTNone id b_19 ms df hms da0 n cap0 0 hl none 0 [] ([] : Lg) (by first | decide | omega | exact Nat.le_trans (anU_le ..) (by decide) | exact Nat.le_trans (anU_le ..) (Nat.le_trans (Nat.succ_le_succ (anU_le ..)) (by decide))) (by first | decide | omega | exact Nat.le_trans (anL_le ..) (by decide) | exact Nat.le_trans (anL_le ..) (Nat.le_trans (Nat.succ_le_succ (anL_le ..)) (by decide))) pg _ h_64) rfl ?_
 rintro _ w_68 ⟨la_65, lc_66, lx_67, rfl, h_69⟩
 refine WL.nil ?_
 refine ⟨(N4_5_6_7_8_9_10_11_12_13_14_15_16_17_18_19 h_69.ok), ?_⟩
 refine qT rfl rfl (fun wq hS => R.neA (xs := (anD id df n 0 ([] : Lg) (1, (zB 32), 6, leN 8 (UInt64.ofNat pg).toNat)).map vu8) (ys := (anD id df n 0 ([] : Lg) (1, (zB 32), 6, leN 8 (UInt64.ofNat pg).toNat)).map vu8) (r := false) rfl rfl eqGuardType23 kt23 (by decide) ag23 (Typ.u8s underlying23 ce23 underlying5 ce5 (anD_len hl okN)) (Typ.u8s underlying23 ce23 underlying5 ce5 (anD_len hl okN)) (neT rfl)) ?_
 refine qT rfl rfl (fun wq hS => R.move (v := (.bool false)) rfl) ?_
 refine WT.q rfl (Wn.yes rfl rfl rfl) rfl rfl (fun wq hS => R.move (v := (.slice a_43 8 cap_44)) rfl) ?_
 refine WT.q rfl (Wn.yes rfl rfl rfl) rfl rfl (fun wq hS => R.move (v := (vn pg)) rfl) ?_
 refine WT.s ?_
 refine Op1.one rfl (Wn.yes rfl rfl rfl) ?_
 refine WL.call Tryz.call15 rfl rfl (c_rWay pg (by omega) _) rfl ?_
 rintro _ w_72 ⟨a_70, cap_71, rfl, hc_73, ho_74⟩
 have h_75 := h_69.gotRow hc_73 ho_74
 refine WL.nil ?_
 refine ⟨(N5_6_7_8_9_10_11_12_13_14_15_16_17_18_19_20 h_75.ok), ?_⟩
 refine WT.s ?_
 refine Op1.one rfl (Wn.yes rfl rfl rfl) ?_
 refine WL.call Tryz.call14 rfl rfl (c_same15 a_43 a_70 8 8 cap_44 cap_71 (wayL pg) (wayL pg) (rfl : List.length (wayL pg) = 8) (rfl : List.length (wayL pg) = 8) (by omega) (by omega) _ (ownView (h_75.ok _ M6)) (ownView (h_75.ok _ M0))) rfl ?_
 rintro _ w_77 ⟨rfl, hc_76⟩
 have h_78 := h_75.same hc_76
 refine WL.nil ?_
 refine ⟨(N5_6_7_8_9_10_11_12_13_14_15_16_17_18_19_20 h_78.ok), ?_⟩
 refine WT.q rfl (Wn.yes rfl rfl rfl) rfl rfl (fun wq hS => R.not (b := true) (congrArg Value.bool (decide_eq_true rfl))) ?_
 refine qT rfl rfl (fun wq hS => R.pickF (v := (.bool false)) rfl rfl) ?_
 refine qT rfl rfl (fun wq hS => R.move (v := (.bool false)) rfl) ?_
 refine WT.q rfl (Wn.yes rfl rfl rfl) rfl rfl (fun wq hS => R.move (v := (.slice a_49 7 cap_50)) rfl) ?_
 refine WT.q rfl (Wn.yes rfl rfl rfl) rfl rfl (fun wq hS => R.move (v := (vn pg)) rfl) ?_
 refine WT.s ?_
 refine Op1.one rfl (Wn.yes rfl rfl rfl) ?_
 refine WL.call Tryz.call16 rfl rfl (c_rBes pg (by omega) _) rfl ?_
 rintro _ w_81 ⟨a_79, cap_80, rfl, hc_82, ho_83⟩
 have h_84 := h_78.gotRow hc_82 ho_83
 refine WL.nil ?_
 refine ⟨(N6_7_8_9_10_11_12_13_14_15_16_17_18_19_20_21 h_84.ok), ?_⟩
 refine WT.s ?_
 refine Op1.one rfl (Wn.yes rfl rfl rfl) ?_
 refine WL.call Tryz.call14 rfl rfl (c_same15 a_49 a_79 7 7 cap_50 cap_80 (bsL pg) (bsL pg) (rfl : List.length (bsL pg) = 7) (rfl : List.length (bsL pg) = 7) (by omega) (by omega) _ (ownView (h_84.ok _ M6)) (ownView (h_84.ok _ M0))) rfl ?_
 rintro _ w_86 ⟨rfl, hc_85⟩
 have h_87 := h_84.same hc_85
 refine WL.nil ?_
 refine ⟨(N6_7_8_9_10_11_12_13_14_15_16_17_18_19_20_21 h_87.ok), ?_⟩
 refine WT.q rfl (Wn.yes rfl rfl rfl) rfl rfl (fun wq hS => R.not (b := true) (congrArg Value.bool (decide_eq_true rfl))) ?_
 refine qT rfl rfl (fun wq hS => R.pickF (v := (.bool false)) rfl rfl) ?_
 refine qT rfl rfl (fun wq hS => R.move (v := (.bool false)) rfl) ?_
 refine WT.q rfl (Wn.yes rfl rfl rfl) rfl rfl (fun wq hS => R.move (v := (vi 0)) rfl) ?_
 refine WT.q rfl (Wn.yes rfl rfl rfl) rfl rfl (fun wq hS => R.move (v := (vi 0)) rfl) ?_
 refine WT.q rfl (Wn.yes rfl rfl rfl) rfl rfl (fun wq hS => R.move (v := (vi 0)) rfl) ?_
 refine WT.s ?_
 refine Op1.one rfl (Wn.yes rfl rfl rfl) ?_
 refine WL.call Tryz.call17 rfl rfl (c_num15 0 (by omega) _ ) rfl ?_
 rintro _ w_89 ⟨rfl, hc_88⟩
 have h_90 := h_87.same hc_88
 refine WL.nil ?_
 refine ⟨(N6_7_8_9_10_11_12_13_14_15_16_17_18_19_20_21 h_90.ok), ?_⟩
 refine WT.s ?_
 refine Op1.one rfl (Wn.yes rfl rfl rfl) ?_
 refine WL.call Tryz.call17 rfl rfl (c_num15 0 (by omega) _ ) rfl ?_
 rintro _ w_92 ⟨rfl, hc_91⟩
 have h_93 := h_90.same hc_91
 refine WL.nil ?_
 refine ⟨(N6_7_8_9_10_11_12_13_14_15_16_17_18_19_20_21 h_93.ok), ?_⟩
 refine WT.q rfl (Wn.yes rfl rfl rfl) rfl rfl (fun wq hS => R.bin rfl rfl (bi_add (c := 0) (by omega) (by omega))) ?_
 refine WT.s ?_
 refine Op1.one rfl (Wn.yes rfl rfl rfl) ?_
 refine WL.call Tryz.call17 rfl rfl (c_num15 0 (by omega) _ ) rfl ?_
 rintro _ w_95 ⟨rfl, hc_94⟩
 have h_96 := h_93.same hc_94
 refine WL.nil ?_
 refine ⟨(N6_7_8_9_10_11_12_13_14_15_16_17_18_19_20_21 h_96.ok), ?_⟩
 refine WT.q rfl (Wn.yes rfl rfl rfl) rfl rfl (fun wq hS => R.bin rfl rfl (bi_add (c := 0) (by omega) (by omega))) ?_
 refine WT.q rfl (Wn.yes rfl rfl rfl) rfl rfl (fun wq hS => R.bin rfl rfl (bi_neq (r := false) (by decide))) ?_
 refine qT rfl rfl (fun wq hS => R.pickF (v := (.bool false)) rfl rfl) ?_
 refine WT.nil (thn_n ?_)
 refine WP.condF rfl ?_
 refine WP.skip (thn_n (WP.seq (WP.reg ?_)))
 refine qM (pO b_15 0) rfl rfl (qM (vi i) rfl rfl (qV rfl (R.loadA [] [(32, xa.map vu8)] [] (cs := xa.map vu8) rfl isAgg23 sizeOf23 (h_96.ok _ M20) rfl rfl rfl rfl) (qV rfl (R.loadA [] [(32, xb.map vu8)] [] (cs := xb.map vu8) rfl isAgg23 sizeOf23 (h_96.ok _ M19) rfl rfl rfl rfl) ?_)))
 refine WL.call Tryz.call18 rfl rfl (c_TNode_f id b_15 b_16 ms hms a_17 n c_18 (anU id 0 ([] : Lg) (1, (zB 32), 6, leN 8 (UInt64.ofNat pg).toNat)) la_33 ((anL id df n 0 ([] : Lg) (1, (zB 32), 6, leN 8 (UInt64.ofNat pg).toNat)).length) lc_34 i (by omega) xa xb hxa hxb _ (h_96.argR M9)) rfl ?_
 rintro _ w_98 ⟨rfl, hc_97⟩
 have h_99 := h_96.same hc_97
 refine qM (.tuple [(.agg ⟨(zB 32).map vu8⟩), (vi 2)].toArray) rfl rfl (qV rfl (R.extract rfl rfl) (qV rfl (R.extract rfl rfl) ?_))
 refine WL.alloc (segs := [(32, (zB 32).map vu8)]) h_99 (zv typeInfo23 rfl) rfl (sC (s8 lr) sN) rfl (fun b_100 w_101 h_102 => ?_)
 refine WL.storeA [] [(32, (zB 32).map vu8)] [(32, (zB 32).map vu8)] [] h_102 rfl rfl sizeOf23 At.h (by decide) rfl rfl rfl rfl rfl rfl (sC (s8 lr) sN) (fun w_103 h_104 => ?_)
 refine qA (vi 2) rfl rfl ?_
 refine WL.nil (thn_n (WP.seq (WP.seq (WP.reg ?_))))
 refine qM (vi i) rfl rfl (qV rfl (R.bin rfl rfl (bi_lss (r := decide ((i : Int) < 1)) rfl)) (qM (.bool (decide ((i : Int) < 1))) rfl rfl ?_))
 refine WL.want rfl (congrArg Value.bool (decide_eq_false (by omega))) ?_
 refine qM (vi i) rfl rfl ?_
 refine WL.want rfl (congrArg Value.bool (decide_eq_false (by omega))) ?_
 refine qV rfl (R.bin rfl rfl (bi_gtr (r := decide ((i : Int) > 127)) rfl)) (qV rfl (R.pickF (v := (.bool (decide ((i : Int) > 127)))) (congrArg Value.bool (decide_eq_false (by omega))) rfl) ?_)
 refine WL.nil (thn_n ?_)
 refine WP.condT (congrArg Value.bool (decide_eq_true (by omega))) ?_
 refine WP.seq (WP.reg ?_)
 refine qV rfl (R.loadA [] [(32, (zB 32).map vu8)] [] (cs := (zB 32).map vu8) rfl isAgg23 sizeOf23 (h_104.ok _ M0) rfl rfl rfl rfl) (qV rfl (R.buildA (vs := []) (cs := (zB 32).map vu8) underlying23 sizeOf5 (zv typeInfo23 rfl) rfl rfl) (qV rfl (R.eqA (xs := (zB 32).map vu8) (ys := (zB 32).map vu8) (r := true) rfl rfl eqGuardType23 kt23 (by decide) ag23 (Typ.u8s underlying23 ce23 underlying5 ce5 lr) (Typ.u8s underlying23 ce23 underlying5 ce5 lr) (eqT rfl)) (qM (.bool true) rfl rfl ?_)))
 refine WL.want rfl rfl ?_
 refine qM (vi 2) rfl rfl ?_
 refine WL.want rfl rfl ?_
 refine WL.call Tryz.call17 rfl rfl (c_num15 2 (by omega) _ ) rfl ?_
 rintro _ w_106 ⟨rfl, hc_105⟩
 have h_107 := h_104.same hc_105
 refine WL.want rfl rfl ?_
 refine qV rfl (R.bin rfl rfl (bi_eql (r := true) (by decide))) (qV rfl (R.pickT (v := (.bool true)) rfl rfl) (qM (.bool true) rfl rfl ?_))
 refine WL.want rfl rfl ?_
 refine WL.call Tryz.call7 rfl rfl (c_known15  _ ) rfl ?_
 rintro _ w_109 ⟨rfl, hc_108⟩
 have h_110 := h_107.same hc_108
 refine qV rfl (R.pickT (v := (.bool true)) rfl rfl) (qA (.bool true) rfl rfl ?_)
 refine WL.nil (thn_n (WP.ret (thn_r ?_)))
 refine ret_of results3 (RV.tmp (v := (.bool true)) rfl RV.nil) ?_
 exact ⟨rfl, h_110.chgS⟩

theorem w_TP_ft (id : Bool) (ms df : List UInt8) (hms : ms.length = 32) (da0 : Option Addr) (n cap0 : Nat) (hl : df.length = 32 * n) (fa : Option Addr) (fn fc : Nat) (fd : List UInt8) (hfl : fd.length = 128 * fn) (nd : UInt64) (xa xb : List UInt8) (hxa : xa.length = 32) (hxb : xb.length = 32) (gn : Nat) (hs : n ≤ 700 ∧ 1 ≤ gn ∧ gn ≤ 80 ∧ fn ≤ 80) (pg : Int) (h : ¬ (0 ≤ pg ∧ pg < 128)) (i : Nat) (hi : 1 ≤ i ∧ i ≤ 127) (w : World) (hv : View w da0 (df.map vu8)) (hvf : View w fa (fd.map vu8)) :
  Cs Tryz.prog 3 [(.agg ⟨flat [(1, [(.bool id)]), (32, ms.map vu8), (1, [(.slice da0 n cap0)]), (1, [(vi ((gn : Nat) : Int))]), (1, [(.slice fa fn fc)]), (1, [(vu64 nd)])]⟩), (vi pg), (vi ((i : Nat) : Int)), (.agg ⟨xa.map vu8⟩), (.agg ⟨xb.map vu8⟩)].toArray w (fun v w1 => v = (.bool true) ∧ Chg w w1 []) := by
 refine Cs.of (n := 152) (args := [(.agg ⟨flat [(1, [(.bool id)]), (32, ms.map vu8), (1, [(.slice da0 n cap0)]), (1, [(vn gn)]), (1, [(.slice fa fn fc)]), (1, [(vu64 nd)])]⟩), (vi pg), (vn i), (.agg ⟨xa.map vu8⟩), (.agg ⟨xb.map vu8⟩)]) Tryz.func3 rfl rfl rfl ?_
 have h_0 := HP.init w
 have h_01 := h_0.oldV (View.arg hv) rfl (by simp [Ent.mut])
 have h_00 := h_01.oldV (View.arg hvf) rfl (by simp [Ent.mut])
 refine WP.seq (WP.reg ?_)
 refine WL.box (segs := [(1, [(.bool id)]), (32, ms.map vu8), (1, [(.slice da0 n cap0)]), (1, [(vn gn)]), (1, [(.slice fa fn fc)]), (1, [(vu64 nd)])]) h_00 rfl rfl (sC sV (sC (s8 hms) (sC sV (sC sV (sC sV (sC sV sN)))))) rfl (fun b_1 w_2 h_3 => ?_)
 refine WL.box (segs := [(32, xa.map vu8)]) h_3 rfl rfl (sC (s8 hxa) sN) rfl (fun b_4 w_5 h_6 => ?_)
 refine WL.box (segs := [(32, xb.map vu8)]) h_6 rfl rfl (sC (s8 hxb) sN) rfl (fun b_7 w_8 h_9 => ?_)
 refine qA (.bool false) rfl rfl ?_
 refine WL.nil (thn_n (WP.seq (WP.seq (WP.reg ?_))))
 refine qV rfl (R.loadA [] [(1, [(.bool id)]), (32, ms.map vu8), (1, [(.slice da0 n cap0)]), (1, [(vn gn)]), (1, [(.slice fa fn fc)]), (1, [(vu64 nd)])] [] rfl isAgg28 sizeOf28 (h_9.ok _ M2) rfl rfl rfl rfl) ?_
 refine WL.call Tryz.call6 rfl rfl (c_small_t id ms df hms da0 n cap0 hl fa fn fc fd hfl nd gn hs _ ) rfl ?_
 rintro _ w_11 ⟨rfl, hc_10⟩
 have h_12 := h_9.same hc_10
 refine qV rfl (R.not (b := true) rfl) ?_
 refine WL.nil (thn_n ?_)
 refine WP.condF rfl ?_
 refine WP.skip (thn_n (WP.seq (WP.reg ?_)))
 refine qV rfl (R.loadA [] [(1, [(.bool id)]), (32, ms.map vu8), (1, [(.slice da0 n cap0)]), (1, [(vn gn)]), (1, [(.slice fa fn fc)]), (1, [(vu64 nd)])] [] rfl isAgg28 sizeOf28 (h_12.ok _ M2) rfl rfl rfl rfl) ?_
 have h_14 := (h_12.up J3).up J4
 refine WL.call Tryz.call8 rfl rfl (c_two id ms df hms da0 n cap0 hl fa fn fc fd hfl nd gn hs _ h_14) rfl ?_
 rintro _ w_24 ⟨b_15, b_16, a_17, c_18, b_19, b_20, a_21, b_22, a_23, rfl, h_25⟩
 have h_26 := h_25.rowNil 102 67
 have h_27 := HP_logNil h_26
 refine qM (.tuple [(pO b_15 0), (pO b_20 0), (pO b_19 0), (pO b_22 0), (.bool true)].toArray) rfl rfl (qV rfl (R.extract rfl rfl) (qV rfl (R.extract rfl rfl) (qV rfl (R.extract rfl rfl) (qV rfl (R.extract rfl rfl) (qV rfl (R.extract rfl rfl) (qA (pO b_15 0) rfl rfl (qA (pO b_20 0) rfl rfl (qA (pO b_19 0) rfl rfl (qA (pO b_22 0) rfl rfl (qA (.bool true) rfl rfl ?_))))))))))
 refine WL.nil (thn_n (WP.seq (WP.seq (WP.reg ?_))))
 refine qM (.bool true) rfl rfl (qV rfl (R.not (b := true) rfl) ?_)
 refine WL.nil (thn_n ?_)
 refine WP.condF rfl ?_
 refine WP.skip (thn_n (WP.seq (WP.reg ?_)))
 refine qM (pO b_15 0) rfl rfl (qM (vi pg) rfl rfl ?_)
 refine WL.call Tryz.call9 rfl rfl (c_TNone_f id b_15 b_16 ms hms a_17 n c_18 0 none 0 0 pg (by omega) _ (h_27.argR M2)) rfl ?_
 rintro _ w_29 ⟨rfl, hc_28⟩
 have h_30 := h_27.same hc_28
 refine qM (.tuple [(.agg ⟨(zB 32).map vu8⟩), (vi 2)].toArray) rfl rfl (qV rfl (R.extract rfl rfl) (qV rfl (R.extract rfl rfl) ?_))
 refine WL.alloc (segs := [(32, (zB 32).map vu8)]) h_30 (zv typeInfo23 rfl) rfl (sC (s8 lr) sN) rfl (fun b_31 w_32 h_33 => ?_)
 refine WL.storeA [] [(32, (zB 32).map vu8)] [(32, (zB 32).map vu8)] [] h_33 rfl rfl sizeOf23 At.h (by decide) rfl rfl rfl rfl rfl rfl (sC (s8 lr) sN) (fun w_34 h_35 => ?_)
 refine qA (vi 2) rfl rfl ?_
 refine WL.nil (thn_n (WP.seq (WP.reg ?_)))
 refine qM (vi pg) rfl rfl ?_
 refine WL.call Tryz.call10 rfl rfl (c_Way_f pg (by omega) _ ) rfl ?_
 rintro _ w_37 ⟨rfl, hc_36⟩
 have h_38 := h_35.same hc_36
 refine qM (.tuple [(.slice none 0 0), (vi 2)].toArray) rfl rfl (qV rfl (R.extract rfl rfl) (qV rfl (R.extract rfl rfl) (qA (.slice none 0 0) rfl rfl (qA (vi 2) rfl rfl ?_))))
 refine WL.nil (thn_n (WP.seq (WP.reg ?_)))
 refine qM (vi pg) rfl rfl ?_
 refine WL.call Tryz.call11 rfl rfl (c_Bes_f pg (by omega) _ ) rfl ?_
 rintro _ w_40 ⟨rfl, hc_39⟩
 have h_41 := h_38.same hc_39
 refine qM (.tuple [(.slice none 0 0), (vi 2)].toArray) rfl rfl (qV rfl (R.extract rfl rfl) (qV rfl (R.extract rfl rfl) (qA (.slice none 0 0) rfl rfl (qA (vi 2) rfl rfl ?_))))
 refine WL.nil (thn_n (WP.seq (WP.seq (WP.reg ?_))))
 refine qM (vi pg) rfl rfl ?_
 refine WL.call Tryz.call12 rfl rfl (c_mayP_f pg (by omega) _ ) rfl ?_
 rintro _ w_43 ⟨rfl, hc_42⟩
 have h_44 := h_41.same hc_42
 refine WL.nil (thn_n ?_)
 refine WP.condF rfl ?_
 refine WP.seq (WP.reg ?_)
 refine qV rfl (R.loadA [] [(32, (zB 32).map vu8)] [] (cs := (zB 32).map vu8) rfl isAgg23 sizeOf23 (h_44.ok _ M0) rfl rfl rfl rfl) (qV rfl (R.buildA (vs := []) (cs := (zB 32).map vu8) underlying23 sizeOf5 (zv typeInfo23 rfl) rfl rfl) (qV rfl (R.neA (xs := (zB 32).map vu8) (ys := (zB 32).map vu8) (r := false) rfl rfl eqGuardType23 kt23 (by decide) ag23 (Typ.u8s underlying23 ce23 underlying5 ce5 lr) (Typ.u8s underlying23 ce23 underlying5 ce5 lr) (neT rfl)) (qM (.bool false) rfl rfl ?_)))
 refine WL.want rfl rfl ?_
 refine qM (.slice none 0 0) rfl rfl ?_
 refine WL.want rfl rfl ?_
 refine qV rfl (R.lenS (a := none) (m := 0) rfl rfl underlying40) ?_
 refine WL.want rfl rfl ?_
 refine qM (.slice none 0 0) rfl rfl ?_
 refine WL.want rfl rfl ?_
 refine qV rfl (R.lenS (a := none) (m := 0) rfl rfl underlying40) ?_
 refine WL.want rfl rfl ?_
 refine qV rfl (R.bin rfl rfl (bi_add (c := 0) (by omega) (by omega))) ?_
 refine WL.want rfl rfl ?_
 refine qV rfl (R.bin rfl rfl (bi_neq (r := false) (by decide))) (qV rfl (R.pickF (v := (.bool false)) rfl rfl) (qM (.bool false) rfl rfl ?_))
 refine WL.want rfl rfl ?_
 refine qM (vi 2) rfl rfl ?_
 refine WL.want rfl rfl ?_
 refine WL.call Tryz.call17 rfl rfl (c_num15 2 (by omega) _ ) rfl ?_
 rintro _ w_46 ⟨rfl, hc_45⟩
 have h_47 := h_44.same hc_45
 refine WL.want rfl rfl ?_
 refine qV rfl (R.bin rfl rfl (bi_neq (r := false) (by decide))) (qV rfl (R.pickF (v := (.bool false)) rfl rfl) (qM (.bool false) rfl rfl ?_))
 refine WL.want rfl rfl ?_
 refine qM (vi 2) rfl rfl ?_
 refine WL.want rfl rfl ?_
 refine WL.call Tryz.call17 rfl rfl (c_num15 2 (by omega) _ ) rfl ?_
 rintro _ w_49 ⟨rfl, hc_48⟩
 have h_50 := h_47.same hc_48
 refine WL.want rfl rfl ?_
 refine qV rfl (R.bin rfl rfl (bi_neq (r := false) (by decide))) (qV rfl (R.pickF (v := (.bool false)) rfl rfl) (qM (.bool false) rfl rfl ?_))
 refine WL.want rfl rfl ?_
 refine qM (vi 2) rfl rfl ?_
 refine WL.want rfl rfl ?_
 refine WL.call Tryz.call17 rfl rfl (c_num15 2 (by omega) _ ) rfl ?_
 rintro _ w_52 ⟨rfl, hc_51⟩
 have h_53 := h_50.same hc_51
 refine WL.want rfl rfl ?_
 refine qV rfl (R.bin rfl rfl (bi_neq (r := false) (by decide))) (qV rfl (R.pickF (v := (.bool false)) rfl rfl) ?_)
 refine WL.nil (thn_n ?_)
 refine WP.condF rfl ?_
 refine WP.skip (thn_n (WP.seq (WP.reg ?_)))
 refine qM (pO b_15 0) rfl rfl (qM (vn i) rfl rfl (qV rfl (R.loadA [] [(32, xa.map vu8)] [] (cs := xa.map vu8) rfl isAgg23 sizeOf23 (h_53.ok _ M16) rfl rfl rfl rfl) (qV rfl (R.loadA [] [(32, xb.map vu8)] [] (cs := xb.map vu8) rfl isAgg23 sizeOf23 (h_53.ok _ M15) rfl rfl rfl rfl) ?_)))
 have h_58 := ((((h_53.up J7).up J2).up J6).up J4).up J5
 refine WL.call Tryz.call18 rfl rfl (c_TNode_t id b_15 b_16 ms df hms a_17 n c_18 0 hl none 0 [] ([] : Lg) (by first | decide | omega | exact Nat.le_trans (anU_le ..) (by decide) | exact Nat.le_trans (anU_le ..) (Nat.le_trans (Nat.succ_le_succ (anU_le ..)) (by decide))) (by first | decide | omega | exact Nat.le_trans (anL_le ..) (by decide) | exact Nat.le_trans (anL_le ..) (Nat.le_trans (Nat.succ_le_succ (anL_le ..)) (by decide))) i (by omega) xa xb hxa hxb _ h_58) rfl ?_
 rintro _ w_62 ⟨la_59, lc_60, lx_61, rfl, h_63⟩
 refine qM (.tuple [(.agg ⟨(anD id df n 0 ([] : Lg) (1, (zB 32), 5, [leN 8 (UInt64.ofNat i).toNat, xa, xb].flatten)).map vu8⟩), (vi 0)].toArray) rfl rfl (qV rfl (R.extract rfl rfl) (qV rfl (R.extract rfl rfl) ?_))
 refine WL.alloc (segs := [(32, (zB 32).map vu8)]) h_63 (zv typeInfo23 rfl) rfl (sC (s8 lr) sN) rfl (fun b_64 w_65 h_66 => ?_)
 refine WL.storeA [] [(32, (zB 32).map vu8)] [(32, (anD id df n 0 ([] : Lg) (1, (zB 32), 5, [leN 8 (UInt64.ofNat i).toNat, xa, xb].flatten)).map vu8)] [] h_66 rfl rfl sizeOf23 At.h (by decide) rfl rfl rfl rfl rfl rfl (sC (s8 (anD_len hl okN)) sN) (fun w_67 h_68 => ?_)
 refine qA (vi 0) rfl rfl ?_
 refine WL.nil (thn_n (WP.seq (WP.seq (WP.reg ?_))))
 refine qM (vn i) rfl rfl (qV rfl (R.bin rfl rfl (bi_lss (r := decide ((((i : Nat) : Int) : Int) < 1)) rfl)) (qM (.bool (decide ((((i : Nat) : Int) : Int) < 1))) rfl rfl ?_))
 refine WL.want rfl (congrArg Value.bool (decide_eq_false (by omega))) ?_
 refine qM (vn i) rfl rfl ?_
 refine WL.want rfl (congrArg Value.bool (decide_eq_false (by omega))) ?_
 refine qV rfl (R.bin rfl rfl (bi_gtr (r := decide ((((i : Nat) : Int) : Int) > 127)) rfl)) (qV rfl (R.pickF (v := (.bool (decide ((((i : Nat) : Int) : Int) > 127)))) (congrArg Value.bool (decide_eq_false (by omega))) rfl) ?_)
 refine WL.nil (thn_n ?_)
 refine WP.condF (congrArg Value.bool (decide_eq_false (by omega))) ?_
 refine WP.skip (thn_n (WP.seq ?_))
 refine WP.drawT (SL w.heap.size [.blk b_64 .nw 23 [(32, (anD id df n 0 ([] : Lg) (1, (zB 32), 5, [leN 8 (UInt64.ofNat i).toNat, xa, xb].flatten)).map vu8)], .blk b_15 .nw 106 [(1, [(.bool id)]), (32, ms.map vu8), (1, [(.slice a_17 n c_18)]), (1, [(vn (anU id 0 ([] : Lg) (1, (zB 32), 5, [leN 8 (UInt64.ofNat i).toNat, xa, xb].flatten)))]), (1, [(.map (some b_16))]), (1, [(.slice la_59 ((anL id df n 0 ([] : Lg) (1, (zB 32), 5, [leN 8 (UInt64.ofNat i).toNat, xa, xb].flatten)).length) lc_60)])], .row la_59 ((anL id df n 0 ([] : Lg) (1, (zB 32), 5, [leN 8 (UInt64.ofNat i).toNat, xa, xb].flatten)).length) lc_60 102 67 lx_61, .obj b_16 .nw (.map (mArr (anL id df n 0 ([] : Lg) (1, (zB 32), 5, [leN 8 (UInt64.ofNat i).toNat, xa, xb].flatten))) ((anL id df n 0 ([] : Lg) (1, (zB 32), 5, [leN 8 (UInt64.ofNat i).toNat, xa, xb].flatten)).length)), .pin (sblks lx_61) (fun w => Lgs w lx_61 (anL id df n 0 ([] : Lg) (1, (zB 32), 5, [leN 8 (UInt64.ofNat i).toNat, xa, xb].flatten))), .view a_17 (df.map vu8), .blk b_31 .nw 23 [(32, (zB 32).map vu8)], .blk b_20 .nw 112 [(1, [(.slice a_21 gn gn)])], .row a_21 gn gn 76 128 ((fillL fd gn (min fn gn)).map vu8), .blk b_22 .nw 95 [(1, [(.slice a_23 (128 * gn) (128 * gn))])], .row a_23 (128 * gn) (128 * gn) 5 1 ((fillL fd gn (min fn gn)).map vu8), .view fa (fd.map vu8), .blk b_7 .nw 23 [(32, xb.map vu8)], .blk b_4 .nw 23 [(32, xa.map vu8)], .blk b_1 .nw 28 [(1, [(.bool id)]), (32, ms.map vu8), (1, [(.slice da0 n cap0)]), (1, [(vn gn)]), (1, [(.slice fa fn fc)]), (1, [(vu64 nd)])]]) (.q 0 (.q 1 (.q 2 (.q 3 (.q 4 (.s 5 (.q 6 (.q 7 (.q 8 (.s 9 (.q 10 (.q 11 (.q 12 (.s 13 (.q 14 (.q 15 .nil)))))))))))))))) (by kernel_rfl) (by kernel_rfl) rfl (by kernel_rfl) (fun w_69 hc_71 => (SL.cons ((h_68.same hc_71).ok _ M0) (SL.cons ((h_68.same hc_71).ok _ M1) (SL.cons ((h_68.same hc_71).ok _ M2) (SL.cons ((h_68.same hc_71).ok _ M3) (SL.cons ((h_68.same hc_71).ok _ M4) (SL.cons ((h_68.same hc_71).ok _ M5) (SL.cons ((h_68.same hc_71).ok _ M6) (SL.cons ((h_68.same hc_71).ok _ M10) (SL.cons ((h_68.same hc_71).ok _ M11) (SL.cons ((h_68.same hc_71).ok _ M12) (SL.cons ((h_68.same hc_71).ok _ M13) (SL.cons ((h_68.same hc_71).ok _ M15) (SL.cons ((h_68.same hc_71).ok _ M16) (SL.cons ((h_68.same hc_71).ok _ M17) (SL.cons ((h_68.same hc_71).ok _ M18) (SL.nil _ _))))))))))))))))) (fun w_69 hc_71 => ?_)
 have h_70 := h_68.same hc_71
 refine qT rfl rfl (fun wq hS => R.loadA [] [(32, (anD id df n 0 ([] : Lg) (1, (zB 32), 5, [leN 8 (UInt64.ofNat i).toNat, xa, xb].flatten)).map vu8)] [] (cs := (anD id df n 0 ([] : Lg) (1, (zB 32), 5, [leN 8 (UInt64.ofNat i).toNat, xa, xb].flatten)).map vu8) rfl isAgg23 sizeOf23 (hS _ M0) rfl rfl rfl rfl) ?_
 refine qT rfl rfl (fun wq hS => R.move (v := (pO b_19 0)) rfl) ?_
 refine qT rfl rfl (fun wq hS => R.move (v := (vn i)) rfl) ?_
 refine qT rfl rfl (fun wq hS => R.loadA [] [(32, xa.map vu8)] [] (cs := xa.map vu8) rfl isAgg23 sizeOf23 (hS _ M13) rfl rfl rfl rfl) ?_
 refine qT rfl rfl (fun wq hS => R.loadA [] [(32, xb.map vu8)] [] (cs := xb.map vu8) rfl isAgg23 sizeOf23 (hS _ M12) rfl rfl rfl rfl) ?_
 refine WT.s (oN rfl ?_)
 have h_75 := (((h_70.up J14).up J9).up J9).up J10
 refine WL.call Tryz.call19 rfl rfl (c_rTNode id b_19 ms df hms da0 n cap0 0 hl none 0 [] ([] : Lg) (by first | decide | omega | exact Nat.le_trans (anU_le ..) (by decide) | exact Nat.le_trans (anU_le ..) (Nat.le_trans (Nat.succ_le_succ (anU_le ..)) (by decide))) (by first | decide | omega | exact Nat.le_trans (anL_le ..) (by decide) | exact Nat.le_trans (anL_le ..) (Nat.le_trans (Nat.succ_le_succ (anL_le ..)) (by decide))) i xa xb hxa hxb _ h_75) rfl ?_
 rintro _ w_79 ⟨la_76, lc_77, lx_78, rfl, h_80⟩
 refine WL.nil ?_
 refine ⟨(N4_5_6_7_8_9_10_11_12_13_14_15_16_17_18 h_80.ok), ?_⟩
 refine qT rfl rfl (fun wq hS => R.eqA (xs := (anD id df n 0 ([] : Lg) (1, (zB 32), 5, [leN 8 (UInt64.ofNat i).toNat, xa, xb].flatten)).map vu8) (ys := (anD id df n 0 ([] : Lg) (1, (zB 32), 5, [leN 8 (UInt64.ofNat i).toNat, xa, xb].flatten)).map vu8) (r := true) rfl rfl eqGuardType23 kt23 (by decide) ag23 (Typ.u8s underlying23 ce23 underlying5 ce5 (anD_len hl okN)) (Typ.u8s underlying23 ce23 underlying5 ce5 (anD_len hl okN)) (eqT rfl)) ?_
 refine qT rfl rfl (fun wq hS => R.move (v := (.bool true)) rfl) ?_
 refine WT.q rfl (Wn.yes rfl rfl rfl) rfl rfl (fun wq hS => R.move (v := (vi 0)) rfl) ?_
 refine WT.s ?_
 refine Op1.one rfl (Wn.yes rfl rfl rfl) ?_
 refine WL.call Tryz.call17 rfl rfl (c_num15 0 (by omega) _ ) rfl ?_
 rintro _ w_82 ⟨rfl, hc_81⟩
 have h_83 := h_80.same hc_81
 refine WL.nil ?_
 refine ⟨(N4_5_6_7_8_9_10_11_12_13_14_15_16_17_18 h_83.ok), ?_⟩
 refine WT.q rfl (Wn.yes rfl rfl rfl) rfl rfl (fun wq hS => R.bin rfl rfl (bi_eql (r := true) (by decide))) ?_
 refine qT rfl rfl (fun wq hS => R.pickT (v := (.bool true)) rfl rfl) ?_
 refine qT rfl rfl (fun wq hS => R.move (v := (.bool true)) rfl) ?_
 refine WT.s ?_
 refine Op1.one rfl (Wn.yes rfl rfl rfl) ?_
 refine WL.call Tryz.call7 rfl rfl (c_known15  _ ) rfl ?_
 rintro _ w_85 ⟨rfl, hc_84⟩
 have h_86 := h_83.same hc_84
 refine WL.nil ?_
 refine ⟨(N4_5_6_7_8_9_10_11_12_13_14_15_16_17_18 h_86.ok), ?_⟩
 refine qT rfl rfl (fun wq hS => R.pickT (v := (.bool true)) rfl rfl) ?_
 refine qT rfl rfl (fun wq hS => R.assign (v := (.bool true)) rfl) ?_
 refine WT.nil (thn_n (WP.ret ?_))
 refine ret_of results3 (RV.tmp (v := (.bool true)) rfl RV.nil) ?_
 exact ⟨rfl, h_86.chgS⟩

theorem w_TP_fl (id : Bool) (ms df : List UInt8) (hms : ms.length = 32) (da0 : Option Addr) (n cap0 : Nat) (hl : df.length = 32 * n) (fa : Option Addr) (fn fc : Nat) (fd : List UInt8) (hfl : fd.length = 128 * fn) (nd : UInt64) (xa xb : List UInt8) (hxa : xa.length = 32) (hxb : xb.length = 32) (gn : Nat) (hs : n ≤ 700 ∧ 1 ≤ gn ∧ gn ≤ 80 ∧ fn ≤ 80) (pg : Int) (h : ¬ (0 ≤ pg ∧ pg < 128)) (i : Int) (hi : i < 1) (w : World) (hv : View w da0 (df.map vu8)) (hvf : View w fa (fd.map vu8)) :
  Cs Tryz.prog 3 [(.agg ⟨flat [(1, [(.bool id)]), (32, ms.map vu8), (1, [(.slice da0 n cap0)]), (1, [(vi ((gn : Nat) : Int))]), (1, [(.slice fa fn fc)]), (1, [(vu64 nd)])]⟩), (vi pg), (vi i), (.agg ⟨xa.map vu8⟩), (.agg ⟨xb.map vu8⟩)].toArray w (fun v w1 => v = (.bool true) ∧ Chg w w1 []) := by
 refine Cs.of (n := 152) (args := [(.agg ⟨flat [(1, [(.bool id)]), (32, ms.map vu8), (1, [(.slice da0 n cap0)]), (1, [(vn gn)]), (1, [(.slice fa fn fc)]), (1, [(vu64 nd)])]⟩), (vi pg), (vi i), (.agg ⟨xa.map vu8⟩), (.agg ⟨xb.map vu8⟩)]) Tryz.func3 rfl rfl rfl ?_
 have h_0 := HP.init w
 have h_01 := h_0.oldV (View.arg hv) rfl (by simp [Ent.mut])
 have h_00 := h_01.oldV (View.arg hvf) rfl (by simp [Ent.mut])
 refine WP.seq (WP.reg ?_)
 refine WL.box (segs := [(1, [(.bool id)]), (32, ms.map vu8), (1, [(.slice da0 n cap0)]), (1, [(vn gn)]), (1, [(.slice fa fn fc)]), (1, [(vu64 nd)])]) h_00 rfl rfl (sC sV (sC (s8 hms) (sC sV (sC sV (sC sV (sC sV sN)))))) rfl (fun b_1 w_2 h_3 => ?_)
 refine WL.box (segs := [(32, xa.map vu8)]) h_3 rfl rfl (sC (s8 hxa) sN) rfl (fun b_4 w_5 h_6 => ?_)
 refine WL.box (segs := [(32, xb.map vu8)]) h_6 rfl rfl (sC (s8 hxb) sN) rfl (fun b_7 w_8 h_9 => ?_)
 refine qA (.bool false) rfl rfl ?_
 refine WL.nil (thn_n (WP.seq (WP.seq (WP.reg ?_))))
 refine qV rfl (R.loadA [] [(1, [(.bool id)]), (32, ms.map vu8), (1, [(.slice da0 n cap0)]), (1, [(vn gn)]), (1, [(.slice fa fn fc)]), (1, [(vu64 nd)])] [] rfl isAgg28 sizeOf28 (h_9.ok _ M2) rfl rfl rfl rfl) ?_
 refine WL.call Tryz.call6 rfl rfl (c_small_t id ms df hms da0 n cap0 hl fa fn fc fd hfl nd gn hs _ ) rfl ?_
 rintro _ w_11 ⟨rfl, hc_10⟩
 have h_12 := h_9.same hc_10
 refine qV rfl (R.not (b := true) rfl) ?_
 refine WL.nil (thn_n ?_)
 refine WP.condF rfl ?_
 refine WP.skip (thn_n (WP.seq (WP.reg ?_)))
 refine qV rfl (R.loadA [] [(1, [(.bool id)]), (32, ms.map vu8), (1, [(.slice da0 n cap0)]), (1, [(vn gn)]), (1, [(.slice fa fn fc)]), (1, [(vu64 nd)])] [] rfl isAgg28 sizeOf28 (h_12.ok _ M2) rfl rfl rfl rfl) ?_
 have h_14 := (h_12.up J3).up J4
 refine WL.call Tryz.call8 rfl rfl (c_two id ms df hms da0 n cap0 hl fa fn fc fd hfl nd gn hs _ h_14) rfl ?_
 rintro _ w_24 ⟨b_15, b_16, a_17, c_18, b_19, b_20, a_21, b_22, a_23, rfl, h_25⟩
 have h_26 := h_25.rowNil 102 67
 have h_27 := HP_logNil h_26
 refine qM (.tuple [(pO b_15 0), (pO b_20 0), (pO b_19 0), (pO b_22 0), (.bool true)].toArray) rfl rfl (qV rfl (R.extract rfl rfl) (qV rfl (R.extract rfl rfl) (qV rfl (R.extract rfl rfl) (qV rfl (R.extract rfl rfl) (qV rfl (R.extract rfl rfl) (qA (pO b_15 0) rfl rfl (qA (pO b_20 0) rfl rfl (qA (pO b_19 0) rfl rfl (qA (pO b_22 0) rfl rfl (qA (.bool true) rfl rfl ?_))))))))))
 refine WL.nil (thn_n (WP.seq (WP.seq (WP.reg ?_))))
 refine qM (.bool true) rfl rfl (qV rfl (R.not (b := true) rfl) ?_)
 refine WL.nil (thn_n ?_)
 refine WP.condF rfl ?_
 refine WP.skip (thn_n (WP.seq (WP.reg ?_)))
 refine qM (pO b_15 0) rfl rfl (qM (vi pg) rfl rfl ?_)
 refine WL.call Tryz.call9 rfl rfl (c_TNone_f id b_15 b_16 ms hms a_17 n c_18 0 none 0 0 pg (by omega) _ (h_27.argR M2)) rfl ?_
 rintro _ w_29 ⟨rfl, hc_28⟩
 have h_30 := h_27.same hc_28
 refine qM (.tuple [(.agg ⟨(zB 32).map vu8⟩), (vi 2)].toArray) rfl rfl (qV rfl (R.extract rfl rfl) (qV rfl (R.extract rfl rfl) ?_))
 refine WL.alloc (segs := [(32, (zB 32).map vu8)]) h_30 (zv typeInfo23 rfl) rfl (sC (s8 lr) sN) rfl (fun b_31 w_32 h_33 => ?_)
 refine WL.storeA [] [(32, (zB 32).map vu8)] [(32, (zB 32).map vu8)] [] h_33 rfl rfl sizeOf23 At.h (by decide) rfl rfl rfl rfl rfl rfl (sC (s8 lr) sN) (fun w_34 h_35 => ?_)
 refine qA (vi 2) rfl rfl ?_
 refine WL.nil (thn_n (WP.seq (WP.reg ?_)))
 refine qM (vi pg) rfl rfl ?_
 refine WL.call Tryz.call10 rfl rfl (c_Way_f pg (by omega) _ ) rfl ?_
 rintro _ w_37 ⟨rfl, hc_36⟩
 have h_38 := h_35.same hc_36
 refine qM (.tuple [(.slice none 0 0), (vi 2)].toArray) rfl rfl (qV rfl (R.extract rfl rfl) (qV rfl (R.extract rfl rfl) (qA (.slice none 0 0) rfl rfl (qA (vi 2) rfl rfl ?_))))
 refine WL.nil (thn_n (WP.seq (WP.reg ?_)))
 refine qM (vi pg) rfl rfl ?_
 refine WL.call Tryz.call11 rfl rfl (c_Bes_f pg (by omega) _ ) rfl ?_
 rintro _ w_40 ⟨rfl, hc_39⟩
 have h_41 := h_38.same hc_39
 refine qM (.tuple [(.slice none 0 0), (vi 2)].toArray) rfl rfl (qV rfl (R.extract rfl rfl) (qV rfl (R.extract rfl rfl) (qA (.slice none 0 0) rfl rfl (qA (vi 2) rfl rfl ?_))))
 refine WL.nil (thn_n (WP.seq (WP.seq (WP.reg ?_))))
 refine qM (vi pg) rfl rfl ?_
 refine WL.call Tryz.call12 rfl rfl (c_mayP_f pg (by omega) _ ) rfl ?_
 rintro _ w_43 ⟨rfl, hc_42⟩
 have h_44 := h_41.same hc_42
 refine WL.nil (thn_n ?_)
 refine WP.condF rfl ?_
 refine WP.seq (WP.reg ?_)
 refine qV rfl (R.loadA [] [(32, (zB 32).map vu8)] [] (cs := (zB 32).map vu8) rfl isAgg23 sizeOf23 (h_44.ok _ M0) rfl rfl rfl rfl) (qV rfl (R.buildA (vs := []) (cs := (zB 32).map vu8) underlying23 sizeOf5 (zv typeInfo23 rfl) rfl rfl) (qV rfl (R.neA (xs := (zB 32).map vu8) (ys := (zB 32).map vu8) (r := false) rfl rfl eqGuardType23 kt23 (by decide) ag23 (Typ.u8s underlying23 ce23 underlying5 ce5 lr) (Typ.u8s underlying23 ce23 underlying5 ce5 lr) (neT rfl)) (qM (.bool false) rfl rfl ?_)))
 refine WL.want rfl rfl ?_
 refine qM (.slice none 0 0) rfl rfl ?_
 refine WL.want rfl rfl ?_
 refine qV rfl (R.lenS (a := none) (m := 0) rfl rfl underlying40) ?_
 refine WL.want rfl rfl ?_
 refine qM (.slice none 0 0) rfl rfl ?_
 refine WL.want rfl rfl ?_
 refine qV rfl (R.lenS (a := none) (m := 0) rfl rfl underlying40) ?_
 refine WL.want rfl rfl ?_
 refine qV rfl (R.bin rfl rfl (bi_add (c := 0) (by omega) (by omega))) ?_
 refine WL.want rfl rfl ?_
 refine qV rfl (R.bin rfl rfl (bi_neq (r := false) (by decide))) (qV rfl (R.pickF (v := (.bool false)) rfl rfl) (qM (.bool false) rfl rfl ?_))
 refine WL.want rfl rfl ?_
 refine qM (vi 2) rfl rfl ?_
 refine WL.want rfl rfl ?_
 refine WL.call Tryz.call17 rfl rfl (c_num15 2 (by omega) _ ) rfl ?_
 rintro _ w_46 ⟨rfl, hc_45⟩
 have h_47 := h_44.same hc_45
 refine WL.want rfl rfl ?_
 refine qV rfl (R.bin rfl rfl (bi_neq (r := false) (by decide))) (qV rfl (R.pickF (v := (.bool false)) rfl rfl) (qM (.bool false) rfl rfl ?_))
 refine WL.want rfl rfl ?_
 refine qM (vi 2) rfl rfl ?_
 refine WL.want rfl rfl ?_
 refine WL.call Tryz.call17 rfl rfl (c_num15 2 (by omega) _ ) rfl ?_
 rintro _ w_49 ⟨rfl, hc_48⟩
 have h_50 := h_47.same hc_48
 refine WL.want rfl rfl ?_
 refine qV rfl (R.bin rfl rfl (bi_neq (r := false) (by decide))) (qV rfl (R.pickF (v := (.bool false)) rfl rfl) (qM (.bool false) rfl rfl ?_))
 refine WL.want rfl rfl ?_
 refine qM (vi 2) rfl rfl ?_
 refine WL.want rfl rfl ?_
 refine WL.call Tryz.call17 rfl rfl (c_num15 2 (by omega) _ ) rfl ?_
 rintro _ w_52 ⟨rfl, hc_51⟩
 have h_53 := h_50.same hc_51
 refine WL.want rfl rfl ?_
 refine qV rfl (R.bin rfl rfl (bi_neq (r := false) (by decide))) (qV rfl (R.pickF (v := (.bool false)) rfl rfl) ?_)
 refine WL.nil (thn_n ?_)
 refine WP.condF rfl ?_
 refine WP.skip (thn_n (WP.seq (WP.reg ?_)))
 refine qM (pO b_15 0) rfl rfl (qM (vi i) rfl rfl (qV rfl (R.loadA [] [(32, xa.map vu8)] [] (cs := xa.map vu8) rfl isAgg23 sizeOf23 (h_53.ok _ M16) rfl rfl rfl rfl) (qV rfl (R.loadA [] [(32, xb.map vu8)] [] (cs := xb.map vu8) rfl isAgg23 sizeOf23 (h_53.ok _ M15) rfl rfl rfl rfl) ?_)))
 refine WL.call Tryz.call18 rfl rfl (c_TNode_f id b_15 b_16 ms hms a_17 n c_18 0 none 0 0 i (by omega) xa xb hxa hxb _ (h_53.argR M3)) rfl ?_
 rintro _ w_55 ⟨rfl, hc_54⟩
 have h_56 := h_53.same hc_54
 refine qM (.tuple [(.agg ⟨(zB 32).map vu8⟩), (vi 2)].toArray) rfl rfl (qV rfl (R.extract rfl rfl) (qV rfl (R.extract rfl rfl) ?_))
 refine WL.alloc (segs := [(32, (zB 32).map vu8)]) h_56 (zv typeInfo23 rfl) rfl (sC (s8 lr) sN) rfl (fun b_57 w_58 h_59 => ?_)
 refine WL.storeA [] [(32, (zB 32).map vu8)] [(32, (zB 32).map vu8)] [] h_59 rfl rfl sizeOf23 At.h (by decide) rfl rfl rfl rfl rfl rfl (sC (s8 lr) sN) (fun w_60 h_61 => ?_)
 refine qA (vi 2) rfl rfl ?_
 refine WL.nil (thn_n (WP.seq (WP.seq (WP.reg ?_))))
 refine qM (vi i) rfl rfl (qV rfl (R.bin rfl rfl (bi_lss (r := decide ((i : Int) < 1)) rfl)) (qM (.bool (decide ((i : Int) < 1))) rfl rfl ?_))
 refine WL.skip rfl (congrArg Value.bool (decide_eq_true (by omega))) rfl ?_
 refine WL.skip rfl (congrArg Value.bool (decide_eq_true (by omega))) rfl ?_
 refine qV rfl (R.pickT (v := (.bool true)) (congrArg Value.bool (decide_eq_true (by omega))) rfl) ?_
 refine WL.nil (thn_n ?_)
 refine WP.condT rfl ?_
 refine WP.seq (WP.reg ?_)
 refine qV rfl (R.loadA [] [(32, (zB 32).map vu8)] [] (cs := (zB 32).map vu8) rfl isAgg23 sizeOf23 (h_61.ok _ M0) rfl rfl rfl rfl) (qV rfl (R.buildA (vs := []) (cs := (zB 32).map vu8) underlying23 sizeOf5 (zv typeInfo23 rfl) rfl rfl) (qV rfl (R.eqA (xs := (zB 32).map vu8) (ys := (zB 32).map vu8) (r := true) rfl rfl eqGuardType23 kt23 (by decide) ag23 (Typ.u8s underlying23 ce23 underlying5 ce5 lr) (Typ.u8s underlying23 ce23 underlying5 ce5 lr) (eqT rfl)) (qM (.bool true) rfl rfl ?_)))
 refine WL.want rfl rfl ?_
 refine qM (vi 2) rfl rfl ?_
 refine WL.want rfl rfl ?_
 refine WL.call Tryz.call17 rfl rfl (c_num15 2 (by omega) _ ) rfl ?_
 rintro _ w_63 ⟨rfl, hc_62⟩
 have h_64 := h_61.same hc_62
 refine WL.want rfl rfl ?_
 refine qV rfl (R.bin rfl rfl (bi_eql (r := true) (by decide))) (qV rfl (R.pickT (v := (.bool true)) rfl rfl) (qM (.bool true) rfl rfl ?_))
 refine WL.want rfl rfl ?_
 refine WL.call Tryz.call7 rfl rfl (c_known15  _ ) rfl ?_
 rintro _ w_66 ⟨rfl, hc_65⟩
 have h_67 := h_64.same hc_65
 refine qV rfl (R.pickT (v := (.bool true)) rfl rfl) (qA (.bool true) rfl rfl ?_)
 refine WL.nil (thn_n (WP.ret (thn_r ?_)))
 refine ret_of results3 (RV.tmp (v := (.bool true)) rfl RV.nil) ?_
 exact ⟨rfl, h_67.chgS⟩

theorem w_TP_fu (id : Bool) (ms df : List UInt8) (hms : ms.length = 32) (da0 : Option Addr) (n cap0 : Nat) (hl : df.length = 32 * n) (fa : Option Addr) (fn fc : Nat) (fd : List UInt8) (hfl : fd.length = 128 * fn) (nd : UInt64) (xa xb : List UInt8) (hxa : xa.length = 32) (hxb : xb.length = 32) (gn : Nat) (hs : n ≤ 700 ∧ 1 ≤ gn ∧ gn ≤ 80 ∧ fn ≤ 80) (pg : Int) (h : ¬ (0 ≤ pg ∧ pg < 128)) (i : Int) (hi : 127 < i) (w : World) (hv : View w da0 (df.map vu8)) (hvf : View w fa (fd.map vu8)) :
  Cs Tryz.prog 3 [(.agg ⟨flat [(1, [(.bool id)]), (32, ms.map vu8), (1, [(.slice da0 n cap0)]), (1, [(vi ((gn : Nat) : Int))]), (1, [(.slice fa fn fc)]), (1, [(vu64 nd)])]⟩), (vi pg), (vi i), (.agg ⟨xa.map vu8⟩), (.agg ⟨xb.map vu8⟩)].toArray w (fun v w1 => v = (.bool true) ∧ Chg w w1 []) := by
 refine Cs.of (n := 152) (args := [(.agg ⟨flat [(1, [(.bool id)]), (32, ms.map vu8), (1, [(.slice da0 n cap0)]), (1, [(vn gn)]), (1, [(.slice fa fn fc)]), (1, [(vu64 nd)])]⟩), (vi pg), (vi i), (.agg ⟨xa.map vu8⟩), (.agg ⟨xb.map vu8⟩)]) Tryz.func3 rfl rfl rfl ?_
 have h_0 := HP.init w
 have h_01 := h_0.oldV (View.arg hv) rfl (by simp [Ent.mut])
 have h_00 := h_01.oldV (View.arg hvf) rfl (by simp [Ent.mut])
 refine WP.seq (WP.reg ?_)
 refine WL.box (segs := [(1, [(.bool id)]), (32, ms.map vu8), (1, [(.slice da0 n cap0)]), (1, [(vn gn)]), (1, [(.slice fa fn fc)]), (1, [(vu64 nd)])]) h_00 rfl rfl (sC sV (sC (s8 hms) (sC sV (sC sV (sC sV (sC sV sN)))))) rfl (fun b_1 w_2 h_3 => ?_)
 refine WL.box (segs := [(32, xa.map vu8)]) h_3 rfl rfl (sC (s8 hxa) sN) rfl (fun b_4 w_5 h_6 => ?_)
 refine WL.box (segs := [(32, xb.map vu8)]) h_6 rfl rfl (sC (s8 hxb) sN) rfl (fun b_7 w_8 h_9 => ?_)
 refine qA (.bool false) rfl rfl ?_
 refine WL.nil (thn_n (WP.seq (WP.seq (WP.reg ?_))))
 refine qV rfl (R.loadA [] [(1, [(.bool id)]), (32, ms.map vu8), (1, [(.slice da0 n cap0)]), (1, [(vn gn)]), (1, [(.slice fa fn fc)]), (1, [(vu64 nd)])] [] rfl isAgg28 sizeOf28 (h_9.ok _ M2) rfl rfl rfl rfl) ?_
 refine WL.call Tryz.call6 rfl rfl (c_small_t id ms df hms da0 n cap0 hl fa fn fc fd hfl nd gn hs _ ) rfl ?_
 rintro _ w_11 ⟨rfl, hc_10⟩
 have h_12 := h_9.same hc_10
 refine qV rfl (R.not (b := true) rfl) ?_
 refine WL.nil (thn_n ?_)
 refine WP.condF rfl ?_
 refine WP.skip (thn_n (WP.seq (WP.reg ?_)))
 refine qV rfl (R.loadA [] [(1, [(.bool id)]), (32, ms.map vu8), (1, [(.slice da0 n cap0)]), (1, [(vn gn)]), (1, [(.slice fa fn fc)]), (1, [(vu64 nd)])] [] rfl isAgg28 sizeOf28 (h_12.ok _ M2) rfl rfl rfl rfl) ?_
 have h_14 := (h_12.up J3).up J4
 refine WL.call Tryz.call8 rfl rfl (c_two id ms df hms da0 n cap0 hl fa fn fc fd hfl nd gn hs _ h_14) rfl ?_
 rintro _ w_24 ⟨b_15, b_16, a_17, c_18, b_19, b_20, a_21, b_22, a_23, rfl, h_25⟩
 have h_26 := h_25.rowNil 102 67
 have h_27 := HP_logNil h_26
 refine qM (.tuple [(pO b_15 0), (pO b_20 0), (pO b_19 0), (pO b_22 0), (.bool true)].toArray) rfl rfl (qV rfl (R.extract rfl rfl) (qV rfl (R.extract rfl rfl) (qV rfl (R.extract rfl rfl) (qV rfl (R.extract rfl rfl) (qV rfl (R.extract rfl rfl) (qA (pO b_15 0) rfl rfl (qA (pO b_20 0) rfl rfl (qA (pO b_19 0) rfl rfl (qA (pO b_22 0) rfl rfl (qA (.bool true) rfl rfl ?_))))))))))
 refine WL.nil (thn_n (WP.seq (WP.seq (WP.reg ?_))))
 refine qM (.bool true) rfl rfl (qV rfl (R.not (b := true) rfl) ?_)
 refine WL.nil (thn_n ?_)
 refine WP.condF rfl ?_
 refine WP.skip (thn_n (WP.seq (WP.reg ?_)))
 refine qM (pO b_15 0) rfl rfl (qM (vi pg) rfl rfl ?_)
 refine WL.call Tryz.call9 rfl rfl (c_TNone_f id b_15 b_16 ms hms a_17 n c_18 0 none 0 0 pg (by omega) _ (h_27.argR M2)) rfl ?_
 rintro _ w_29 ⟨rfl, hc_28⟩
 have h_30 := h_27.same hc_28
 refine qM (.tuple [(.agg ⟨(zB 32).map vu8⟩), (vi 2)].toArray) rfl rfl (qV rfl (R.extract rfl rfl) (qV rfl (R.extract rfl rfl) ?_))
 refine WL.alloc (segs := [(32, (zB 32).map vu8)]) h_30 (zv typeInfo23 rfl) rfl (sC (s8 lr) sN) rfl (fun b_31 w_32 h_33 => ?_)
 refine WL.storeA [] [(32, (zB 32).map vu8)] [(32, (zB 32).map vu8)] [] h_33 rfl rfl sizeOf23 At.h (by decide) rfl rfl rfl rfl rfl rfl (sC (s8 lr) sN) (fun w_34 h_35 => ?_)
 refine qA (vi 2) rfl rfl ?_
 refine WL.nil (thn_n (WP.seq (WP.reg ?_)))
 refine qM (vi pg) rfl rfl ?_
 refine WL.call Tryz.call10 rfl rfl (c_Way_f pg (by omega) _ ) rfl ?_
 rintro _ w_37 ⟨rfl, hc_36⟩
 have h_38 := h_35.same hc_36
 refine qM (.tuple [(.slice none 0 0), (vi 2)].toArray) rfl rfl (qV rfl (R.extract rfl rfl) (qV rfl (R.extract rfl rfl) (qA (.slice none 0 0) rfl rfl (qA (vi 2) rfl rfl ?_))))
 refine WL.nil (thn_n (WP.seq (WP.reg ?_)))
 refine qM (vi pg) rfl rfl ?_
 refine WL.call Tryz.call11 rfl rfl (c_Bes_f pg (by omega) _ ) rfl ?_
 rintro _ w_40 ⟨rfl, hc_39⟩
 have h_41 := h_38.same hc_39
 refine qM (.tuple [(.slice none 0 0), (vi 2)].toArray) rfl rfl (qV rfl (R.extract rfl rfl) (qV rfl (R.extract rfl rfl) (qA (.slice none 0 0) rfl rfl (qA (vi 2) rfl rfl ?_))))
 refine WL.nil (thn_n (WP.seq (WP.seq (WP.reg ?_))))
 refine qM (vi pg) rfl rfl ?_
 refine WL.call Tryz.call12 rfl rfl (c_mayP_f pg (by omega) _ ) rfl ?_
 rintro _ w_43 ⟨rfl, hc_42⟩
 have h_44 := h_41.same hc_42
 refine WL.nil (thn_n ?_)
 refine WP.condF rfl ?_
 refine WP.seq (WP.reg ?_)
 refine qV rfl (R.loadA [] [(32, (zB 32).map vu8)] [] (cs := (zB 32).map vu8) rfl isAgg23 sizeOf23 (h_44.ok _ M0) rfl rfl rfl rfl) (qV rfl (R.buildA (vs := []) (cs := (zB 32).map vu8) underlying23 sizeOf5 (zv typeInfo23 rfl) rfl rfl) (qV rfl (R.neA (xs := (zB 32).map vu8) (ys := (zB 32).map vu8) (r := false) rfl rfl eqGuardType23 kt23 (by decide) ag23 (Typ.u8s underlying23 ce23 underlying5 ce5 lr) (Typ.u8s underlying23 ce23 underlying5 ce5 lr) (neT rfl)) (qM (.bool false) rfl rfl ?_)))
 refine WL.want rfl rfl ?_
 refine qM (.slice none 0 0) rfl rfl ?_
 refine WL.want rfl rfl ?_
 refine qV rfl (R.lenS (a := none) (m := 0) rfl rfl underlying40) ?_
 refine WL.want rfl rfl ?_
 refine qM (.slice none 0 0) rfl rfl ?_
 refine WL.want rfl rfl ?_
 refine qV rfl (R.lenS (a := none) (m := 0) rfl rfl underlying40) ?_
 refine WL.want rfl rfl ?_
 refine qV rfl (R.bin rfl rfl (bi_add (c := 0) (by omega) (by omega))) ?_
 refine WL.want rfl rfl ?_
 refine qV rfl (R.bin rfl rfl (bi_neq (r := false) (by decide))) (qV rfl (R.pickF (v := (.bool false)) rfl rfl) (qM (.bool false) rfl rfl ?_))
 refine WL.want rfl rfl ?_
 refine qM (vi 2) rfl rfl ?_
 refine WL.want rfl rfl ?_
 refine WL.call Tryz.call17 rfl rfl (c_num15 2 (by omega) _ ) rfl ?_
 rintro _ w_46 ⟨rfl, hc_45⟩
 have h_47 := h_44.same hc_45
 refine WL.want rfl rfl ?_
 refine qV rfl (R.bin rfl rfl (bi_neq (r := false) (by decide))) (qV rfl (R.pickF (v := (.bool false)) rfl rfl) (qM (.bool false) rfl rfl ?_))
 refine WL.want rfl rfl ?_
 refine qM (vi 2) rfl rfl ?_
 refine WL.want rfl rfl ?_
 refine WL.call Tryz.call17 rfl rfl (c_num15 2 (by omega) _ ) rfl ?_
 rintro _ w_49 ⟨rfl, hc_48⟩
 have h_50 := h_47.same hc_48
 refine WL.want rfl rfl ?_
 refine qV rfl (R.bin rfl rfl (bi_neq (r := false) (by decide))) (qV rfl (R.pickF (v := (.bool false)) rfl rfl) (qM (.bool false) rfl rfl ?_))
 refine WL.want rfl rfl ?_
 refine qM (vi 2) rfl rfl ?_
 refine WL.want rfl rfl ?_
 refine WL.call Tryz.call17 rfl rfl (c_num15 2 (by omega) _ ) rfl ?_
 rintro _ w_52 ⟨rfl, hc_51⟩
 have h_53 := h_50.same hc_51
 refine WL.want rfl rfl ?_
 refine qV rfl (R.bin rfl rfl (bi_neq (r := false) (by decide))) (qV rfl (R.pickF (v := (.bool false)) rfl rfl) ?_)
 refine WL.nil (thn_n ?_)
 refine WP.condF rfl ?_
 refine WP.skip (thn_n (WP.seq (WP.reg ?_)))
 refine qM (pO b_15 0) rfl rfl (qM (vi i) rfl rfl (qV rfl (R.loadA [] [(32, xa.map vu8)] [] (cs := xa.map vu8) rfl isAgg23 sizeOf23 (h_53.ok _ M16) rfl rfl rfl rfl) (qV rfl (R.loadA [] [(32, xb.map vu8)] [] (cs := xb.map vu8) rfl isAgg23 sizeOf23 (h_53.ok _ M15) rfl rfl rfl rfl) ?_)))
 refine WL.call Tryz.call18 rfl rfl (c_TNode_f id b_15 b_16 ms hms a_17 n c_18 0 none 0 0 i (by omega) xa xb hxa hxb _ (h_53.argR M3)) rfl ?_
 rintro _ w_55 ⟨rfl, hc_54⟩
 have h_56 := h_53.same hc_54
 refine qM (.tuple [(.agg ⟨(zB 32).map vu8⟩), (vi 2)].toArray) rfl rfl (qV rfl (R.extract rfl rfl) (qV rfl (R.extract rfl rfl) ?_))
 refine WL.alloc (segs := [(32, (zB 32).map vu8)]) h_56 (zv typeInfo23 rfl) rfl (sC (s8 lr) sN) rfl (fun b_57 w_58 h_59 => ?_)
 refine WL.storeA [] [(32, (zB 32).map vu8)] [(32, (zB 32).map vu8)] [] h_59 rfl rfl sizeOf23 At.h (by decide) rfl rfl rfl rfl rfl rfl (sC (s8 lr) sN) (fun w_60 h_61 => ?_)
 refine qA (vi 2) rfl rfl ?_
 refine WL.nil (thn_n (WP.seq (WP.seq (WP.reg ?_))))
 refine qM (vi i) rfl rfl (qV rfl (R.bin rfl rfl (bi_lss (r := decide ((i : Int) < 1)) rfl)) (qM (.bool (decide ((i : Int) < 1))) rfl rfl ?_))
 refine WL.want rfl (congrArg Value.bool (decide_eq_false (by omega))) ?_
 refine qM (vi i) rfl rfl ?_
 refine WL.want rfl (congrArg Value.bool (decide_eq_false (by omega))) ?_
 refine qV rfl (R.bin rfl rfl (bi_gtr (r := decide ((i : Int) > 127)) rfl)) (qV rfl (R.pickF (v := (.bool (decide ((i : Int) > 127)))) (congrArg Value.bool (decide_eq_false (by omega))) rfl) ?_)
 refine WL.nil (thn_n ?_)
 refine WP.condT (congrArg Value.bool (decide_eq_true (by omega))) ?_
 refine WP.seq (WP.reg ?_)
 refine qV rfl (R.loadA [] [(32, (zB 32).map vu8)] [] (cs := (zB 32).map vu8) rfl isAgg23 sizeOf23 (h_61.ok _ M0) rfl rfl rfl rfl) (qV rfl (R.buildA (vs := []) (cs := (zB 32).map vu8) underlying23 sizeOf5 (zv typeInfo23 rfl) rfl rfl) (qV rfl (R.eqA (xs := (zB 32).map vu8) (ys := (zB 32).map vu8) (r := true) rfl rfl eqGuardType23 kt23 (by decide) ag23 (Typ.u8s underlying23 ce23 underlying5 ce5 lr) (Typ.u8s underlying23 ce23 underlying5 ce5 lr) (eqT rfl)) (qM (.bool true) rfl rfl ?_)))
 refine WL.want rfl rfl ?_
 refine qM (vi 2) rfl rfl ?_
 refine WL.want rfl rfl ?_
 refine WL.call Tryz.call17 rfl rfl (c_num15 2 (by omega) _ ) rfl ?_
 rintro _ w_63 ⟨rfl, hc_62⟩
 have h_64 := h_61.same hc_62
 refine WL.want rfl rfl ?_
 refine qV rfl (R.bin rfl rfl (bi_eql (r := true) (by decide))) (qV rfl (R.pickT (v := (.bool true)) rfl rfl) (qM (.bool true) rfl rfl ?_))
 refine WL.want rfl rfl ?_
 refine WL.call Tryz.call7 rfl rfl (c_known15  _ ) rfl ?_
 rintro _ w_66 ⟨rfl, hc_65⟩
 have h_67 := h_64.same hc_65
 refine qV rfl (R.pickT (v := (.bool true)) rfl rfl) (qA (.bool true) rfl rfl ?_)
 refine WL.nil (thn_n (WP.ret (thn_r ?_)))
 refine ret_of results3 (RV.tmp (v := (.bool true)) rfl RV.nil) ?_
 exact ⟨rfl, h_67.chgS⟩

theorem w_TreeParts (id : Bool) (ms df : List UInt8) (hms : ms.length = 32) (da0 : Option Addr) (n cap0 : Nat) (hl : df.length = 32 * n) (fa : Option Addr) (fn fc : Nat) (fd : List UInt8) (hfl : fd.length = 128 * fn) (nd : UInt64) (xa xb : List UInt8) (hxa : xa.length = 32) (hxb : xb.length = 32) (gn pg i : Int) (w : World) (hv : View w da0 (df.map vu8)) (hvf : View w fa (fd.map vu8)) : Cs Tryz.prog 3 [(.agg ⟨flat [(1, [(.bool id)]), (32, ms.map vu8), (1, [(.slice da0 n cap0)]), (1, [(vi gn)]), (1, [(.slice fa fn fc)]), (1, [(vu64 nd)])]⟩), (vi pg), (vi i), (.agg ⟨xa.map vu8⟩), (.agg ⟨xb.map vu8⟩)].toArray w (fun v w1 => v = (.bool true) ∧ Chg w w1 []) := by
 by_cases hs : n ≤ 700 ∧ 1 ≤ gn ∧ gn ≤ 80 ∧ fn ≤ 80
 ·obtain ⟨gm, rfl⟩ := Int.eq_ofNat_of_zero_le (show 0 ≤ gn by omega)
  have hs2 : n ≤ 700 ∧ 1 ≤ gm ∧ gm ≤ 80 ∧ fn ≤ 80 := by omega
  by_cases hp : 0 ≤ pg ∧ pg < 128
  ·obtain ⟨p, rfl⟩ := Int.eq_ofNat_of_zero_le hp.1
   by_cases h1 : i < 1
   ·exact w_TP_tl id ms df hms da0 n cap0 hl fa fn fc fd hfl nd xa xb hxa hxb gm hs2 p (by omega) i h1 w hv hvf
   by_cases h2 : 127 < i
   ·exact w_TP_tu id ms df hms da0 n cap0 hl fa fn fc fd hfl nd xa xb hxa hxb gm hs2 p (by omega) i h2 w hv hvf
   obtain ⟨k, rfl⟩ := Int.eq_ofNat_of_zero_le (show 0 ≤ i by omega)
   exact w_TP_tt id ms df hms da0 n cap0 hl fa fn fc fd hfl nd xa xb hxa hxb gm hs2 p (by omega) k (by omega) w hv hvf
  ·by_cases h1 : i < 1
   ·exact w_TP_fl id ms df hms da0 n cap0 hl fa fn fc fd hfl nd xa xb hxa hxb gm hs2 pg hp i h1 w hv hvf
   by_cases h2 : 127 < i
   ·exact w_TP_fu id ms df hms da0 n cap0 hl fa fn fc fd hfl nd xa xb hxa hxb gm hs2 pg hp i h2 w hv hvf
   obtain ⟨k, rfl⟩ := Int.eq_ofNat_of_zero_le (show 0 ≤ i by omega)
   exact w_TP_ft id ms df hms da0 n cap0 hl fa fn fc fd hfl nd xa xb hxa hxb gm hs2 pg hp k (by omega) w hv hvf
 ·exact w_TP_no id ms df hms da0 n cap0 hl fa fn fc fd hfl nd xa xb hxa hxb gn hs pg i w hv hvf
namespace treePartsDone
open Go.ChangeShapes Go.WideShapes Go.ChangeAt
theorem own : ownKnob Tryz.prog.godebug = none := by kernel_rfl
theorem laidOut : laidOutB Tryz.prog = true := by kernel_rfl
set_option maxRecDepth 100000 in
theorem lifted (os : Os) (started : os.Started) (H : Type) (enc : TypeId × Value → H) :
  ReturnsInHanded {} Tryz.checked os 3 .any (Rows.treePartsSpec.pre6 enc Tryz.prog Tryz.f3 Rows.treePartsRow.domain false) (Rows.treePartsSpec.post enc Tryz.prog Tryz.f3 false true false false) := by
 refine returnsInHanded_of_change (C := Tryz.checked) own started (by kernel_rfl) Tryz.func3
  (ChangeSpec.witness6 (enc := enc) (C := Tryz.checked) false ⟨#[], #[.agg #[.bool false, .int .u8 0, .int .u8 0, .int .u8 0, .int .u8 0, .int .u8 0, .int .u8 0, .int .u8 0, .int .u8 0, .int .u8 0, .int .u8 0, .int .u8 0, .int .u8 0, .int .u8 0, .int .u8 0, .int .u8 0, .int .u8 0, .int .u8 0, .int .u8 0, .int .u8 0, .int .u8 0, .int .u8 0, .int .u8 0, .int .u8 0, .int .u8 0, .int .u8 0, .int .u8 0, .int .u8 0, .int .u8 0, .int .u8 0, .int .u8 0, .int .u8 0, .int .u8 0, .slice none 0 0, .int .i64 0, .slice none 0 0, .int .u64 0], .int .i64 0, .int .i64 0, .agg #[.int .u8 0, .int .u8 0, .int .u8 0, .int .u8 0, .int .u8 0, .int .u8 0, .int .u8 0, .int .u8 0, .int .u8 0, .int .u8 0, .int .u8 0, .int .u8 0, .int .u8 0, .int .u8 0, .int .u8 0, .int .u8 0, .int .u8 0, .int .u8 0, .int .u8 0, .int .u8 0, .int .u8 0, .int .u8 0, .int .u8 0, .int .u8 0, .int .u8 0, .int .u8 0, .int .u8 0, .int .u8 0, .int .u8 0, .int .u8 0, .int .u8 0, .int .u8 0], .agg #[.int .u8 0, .int .u8 0, .int .u8 0, .int .u8 0, .int .u8 0, .int .u8 0, .int .u8 0, .int .u8 0, .int .u8 0, .int .u8 0, .int .u8 0, .int .u8 0, .int .u8 0, .int .u8 0, .int .u8 0, .int .u8 0, .int .u8 0, .int .u8 0, .int .u8 0, .int .u8 0, .int .u8 0, .int .u8 0, .int .u8 0, .int .u8 0, .int .u8 0, .int .u8 0, .int .u8 0, .int .u8 0, .int .u8 0, .int .u8 0, .int .u8 0, .int .u8 0]], []⟩ 8 (by kernel_rfl) (by kernel_rfl) (by kernel_rfl) (by kernel_rfl)) ?_
 intro W base args ds gs before hval0 hW hcnd _
 have hval : ∀ (j : Nat) t v, Tryz.f3.params[j]? = some t → args[j]? = some v → Value.okWide Tryz.prog W .any base t v := hval0
 have hW' := hW
 obtain ⟨p, q, hA0, hV, rfl, hfz, hnd⟩ := hW
 have hA : DataW.TrodAll enc Tryz.prog W 0 (fun _ => true) true Tryz.f3.params.toList args.toList ds p := hA0
 rw [Tryz.params3] at hA hval
 obtain ⟨v0, vs0, d0, ds0, p0, q0, hargs, rfl, rfl, h0, r0⟩ := trodAll_cons hA
 obtain ⟨v1, vs1, d1, ds1, p1, q1, rfl, rfl, rfl, h1, r1⟩ := trodAll_cons r0
 obtain ⟨v2, vs2, d2, ds2, p2, q2, rfl, rfl, rfl, h2, r2⟩ := trodAll_cons r1
 obtain ⟨v3, vs3, d3, ds3, p3, q3, rfl, rfl, rfl, h3, r3⟩ := trodAll_cons r2
 obtain ⟨v4, vs4, d4, ds4, p4, q4, rfl, rfl, rfl, h4, r4⟩ := trodAll_cons r3
 obtain ⟨rfl, rfl, rfl⟩ := trodAll_nil r4
 obtain rfl : args = #[v0, v1, v2, v3, v4] := by cases args; simp_all
 obtain ⟨rfl, rfl⟩ := trodVars_none hV
 have lt0 : ∀ x ∈ p0, x.block < W.heap.size := by obtain ⟨m, hm⟩ := h0; exact DataW.trod_lt m _ _ _ hm
 obtain ⟨cs0, rfl⟩ := okWide_agg aggT28 (hval 0 28 v0 rfl rfl)
 have tr0 : Tr Tryz.prog W 28 cs0 := Tr.of h0 rfl
 have tl_x0 := Tr.struct (l := [(1, 4), (32, 23), (1, 24), (1, 3), (1, 25), (1, 26)]) underlying28 ce28 (by kernel_rfl) tr0
 obtain ⟨a_x00, r_x00, rfl, n_x00, t_x00, tl_x00⟩ := tl_x0
 obtain ⟨x00, rfl⟩ := Tr.bool underlying4 t_x00
 obtain ⟨a_x01, r_x01, rfl, n_x01, t_x01, tl_x01⟩ := tl_x00
 obtain ⟨x01, rfl, l_x01⟩ := Tr.arr8 underlying23 ce23 ce5 underlying5 t_x01
 obtain ⟨a_x02, r_x02, rfl, n_x02, t_x02, tl_x02⟩ := tl_x01
 obtain ⟨sa_x02, sn_x02, sc_x02, x02, rfl, l_x02, hc_x02, hm_x02, hv_x02⟩ := Tr.slA8 underlying24 ce23 underlying23 ce5 underlying5 t_x02
 obtain ⟨a_x03, r_x03, rfl, n_x03, t_x03, tl_x03⟩ := tl_x02
 obtain ⟨x03, rfl, b_x03⟩ := Tr.i64 underlying3 t_x03
 obtain ⟨a_x04, r_x04, rfl, n_x04, t_x04, tl_x04⟩ := tl_x03
 obtain ⟨sa_x04, sn_x04, sc_x04, x04, rfl, l_x04, hc_x04, hm_x04, hv_x04⟩ := Tr.slA8 underlying25 ce76 underlying76 ce5 underlying5 t_x04
 obtain ⟨a_x05, r_x05, rfl, n_x05, t_x05, tl_x05⟩ := tl_x04
 obtain ⟨x05, rfl⟩ := Tr.u64 underlying26 t_x05
 obtain rfl := tl_x05
 have lt1 : ∀ x ∈ p1, x.block < W.heap.size := by obtain ⟨m, hm⟩ := h1; exact DataW.trod_lt m _ _ _ hm
 obtain ⟨x1, rfl⟩ := okWide_int underlying3 (hval 1 3 v1 rfl rfl)
 have b_x1 := Tr.i64' underlying3 (Tr.of h1 rfl)
 have lt2 : ∀ x ∈ p2, x.block < W.heap.size := by obtain ⟨m, hm⟩ := h2; exact DataW.trod_lt m _ _ _ hm
 obtain ⟨x2, rfl⟩ := okWide_int underlying3 (hval 2 3 v2 rfl rfl)
 have b_x2 := Tr.i64' underlying3 (Tr.of h2 rfl)
 have lt3 : ∀ x ∈ p3, x.block < W.heap.size := by obtain ⟨m, hm⟩ := h3; exact DataW.trod_lt m _ _ _ hm
 obtain ⟨cs3, rfl⟩ := okWide_agg aggT23 (hval 3 23 v3 rfl rfl)
 have tr3 : Tr Tryz.prog W 23 cs3 := Tr.of h3 rfl
 obtain ⟨x3, rfl, l_x3⟩ := Tr.arr8 underlying23 ce23 ce5 underlying5 tr3
 have lt4 : ∀ x ∈ p4, x.block < W.heap.size := by obtain ⟨m, hm⟩ := h4; exact DataW.trod_lt m _ _ _ hm
 obtain ⟨cs4, rfl⟩ := okWide_agg aggT23 (hval 4 23 v4 rfl rfl)
 have tr4 : Tr Tryz.prog W 23 cs4 := Tr.of h4 rfl
 obtain ⟨x4, rfl, l_x4⟩ := Tr.arr8 underlying23 ce23 ce5 underlying5 tr4
 clear hA0 hval0
 have hw : Cs Tryz.prog 3 [(.agg ⟨flat [(1, [(.bool x00)]), (32, x01.map vu8), (1, [(.slice sa_x02 sn_x02 sc_x02)]), (1, [(vi x03)]), (1, [(.slice sa_x04 sn_x04 sc_x04)]), (1, [(vu64 x05)])]⟩), (vi x1), (vi x2), (.agg ⟨x3.map vu8⟩), (.agg ⟨x4.map vu8⟩)].toArray W (fun v w1 => v = .bool true ∧ Chg W w1 []) := w_TreeParts x00 x01 x02 l_x01 sa_x02 sn_x02 sc_x02 l_x02 sa_x04 sn_x04 sc_x04 x04 l_x04 x05 x3 x4 l_x3 l_x4 x03 x1 x2 W hv_x02.1 hv_x04.1
 have ea : ([(.agg ⟨flat [(1, [(.bool x00)]), (32, x01.map vu8), (1, [(.slice sa_x02 sn_x02 sc_x02)]), (1, [(vi x03)]), (1, [(.slice sa_x04 sn_x04 sc_x04)]), (1, [(vu64 x05)])]⟩), (vi x1), (vi x2), (.agg ⟨x3.map vu8⟩), (.agg ⟨x4.map vu8⟩)] : List Value).toArray = (#[.agg ⟨([.bool x00] ++ (x01.map vu8 ++ ([.slice sa_x02 sn_x02 sc_x02] ++ ([vi x03] ++ ([.slice sa_x04 sn_x04 sc_x04] ++ ([vu64 x05] ++ []))))))⟩, (vi x1), (vi x2), .agg ⟨x3.map vu8⟩, .agg ⟨x4.map vu8⟩] : Array Value) := by simp [flat]
 rw [ea] at hw
 refine Calls.mono (Cs.below hw) fun e W' ⟨he, bel⟩ => ?_
 subst he
 exact ⟨_, rfl, _, _, _, [], _, [], hW', trodAll_mk1 (shut_bool underlying4 _), (trodAll_cons_mk (Below.trod laidOut (by kernel_rfl) (of_decide_eq_true (by kernel_rfl)) h0 bel lt0) (trodAll_cons_mk (Below.trod laidOut (by kernel_rfl) (of_decide_eq_true (by kernel_rfl)) h1 bel lt1) (trodAll_cons_mk (Below.trod laidOut (by kernel_rfl) (of_decide_eq_true (by kernel_rfl)) h2 bel lt2) (trodAll_cons_mk (Below.trod laidOut (by kernel_rfl) (of_decide_eq_true (by kernel_rfl)) h3 bel lt3) (trodAll_cons_mk (Below.trod laidOut (by kernel_rfl) (of_decide_eq_true (by kernel_rfl)) h4 bel lt4) trodAll_mk0))))), rfl, bel.frame _, fun h => by cases h⟩
theorem over : Rows.treePartsRow.holds Tryz.pinned (OpenSpec.ofChange Rows.treePartsSpec) :=
 OpenClaim.holds_of_wide 3 Tryz.f3 rfl rfl rfl rfl rfl rfl rfl ⟨rfl, rfl, rfl, rfl, rfl⟩ rfl rfl rfl rfl rfl (by kernel_rfl) Tryz.func3 (by kernel_rfl)
  (of_decide_eq_true (by kernel_rfl)) (by unfold Func.isWrapper; first | (rw [if_pos (by decide +kernel)]; kernel_rfl) | (rw [if_neg (by decide +kernel)]; exact ⟨rfl, rfl⟩))
  (fun os started H enc _ => lifted os started H enc)
theorem proved : Rows.TreePartsSaid := over
end treePartsDone
end Go.Proofs.YtbhllplbbkmndaaGreat
