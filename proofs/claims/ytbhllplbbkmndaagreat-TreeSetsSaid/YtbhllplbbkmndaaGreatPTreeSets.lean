/- TreeSets holds of every input. Conditions: none. -/
import Derived.Test.YtbhllplbbkmndaaGreatZ6TreeSets
set_option linter.unusedVariables false
set_option linter.unusedSimpArgs false
set_option linter.unusedSectionVars false
namespace Go.Proofs.YtbhllplbbkmndaaGreat
open Go.Proofs.Tryz
open Go.Vc Go.Orc Go.Sh Go.RowKit
set_option linter.unusedVariables false
set_option linter.unusedSimpArgs false
set_option maxRecDepth 20000
theorem aggT23 : aggB Tryz.prog 23 = true := by unfold aggB; rw [underlying23]
theorem aggT28 : aggB Tryz.prog 28 = true := by unfold aggB; rw [underlying28]
theorem ce28 : Tryz.prog.cellsOf 28 = 37 := by kernel_rfl
theorem ce76 : Tryz.prog.cellsOf 76 = 128 := by kernel_rfl
theorem neB_comm {a b : List UInt8} : (!(decide (a = b) == decide (b = a))) = false := by
 by_cases h : a = b
 ·subst h; simp
 ·simp [h, Ne.symm h]

theorem w_TS_no (id : Bool) (ms df : List UInt8) (hms : ms.length = 32) (da0 : Option Addr) (n cap0 : Nat) (hl : df.length = 32 * n) (fa : Option Addr) (fn fc : Nat) (fd : List UInt8) (hfl : fd.length = 128 * fn) (nd : UInt64) (xa xb : List UInt8) (hxa : xa.length = 32) (hxb : xb.length = 32) (gn : Int) (hs : ¬ (n ≤ 700 ∧ 1 ≤ gn ∧ gn ≤ 80 ∧ fn ≤ 80)) (pg : Int) (w : World) (hv : View w da0 (df.map vu8)) (hvf : View w fa (fd.map vu8)) :
  Cs Tryz.prog 5 [(.agg ⟨flat [(1, [(.bool id)]), (32, ms.map vu8), (1, [(.slice da0 n cap0)]), (1, [(vi gn)]), (1, [(.slice fa fn fc)]), (1, [(vu64 nd)])]⟩), (vi pg), (.agg ⟨xa.map vu8⟩), (.agg ⟨xb.map vu8⟩)].toArray w (fun v w1 => v = (.bool true) ∧ Chg w w1 []) := by
 refine Cs.of (n := 177) (args := [(.agg ⟨flat [(1, [(.bool id)]), (32, ms.map vu8), (1, [(.slice da0 n cap0)]), (1, [(vi gn)]), (1, [(.slice fa fn fc)]), (1, [(vu64 nd)])]⟩), (vi pg), (.agg ⟨xa.map vu8⟩), (.agg ⟨xb.map vu8⟩)]) Tryz.func5 rfl rfl rfl ?_
 have h_0 := HP.init w
 have h_01 := h_0.oldV (View.arg hv) rfl (by simp [Ent.mut])
 have h_00 := h_01.oldV (View.arg hvf) rfl (by simp [Ent.mut])
 refine WP.seq (WP.reg ?_)
 refine WL.box (segs := [(1, [(.bool id)]), (32, ms.map vu8), (1, [(.slice da0 n cap0)]), (1, [(vi gn)]), (1, [(.slice fa fn fc)]), (1, [(vu64 nd)])]) h_00 rfl rfl (sC sV (sC (s8 hms) (sC sV (sC sV (sC sV (sC sV sN)))))) rfl (fun b_1 w_2 h_3 => ?_)
 refine WL.box (segs := [(32, xa.map vu8)]) h_3 rfl rfl (sC (s8 hxa) sN) rfl (fun b_4 w_5 h_6 => ?_)
 refine WL.box (segs := [(32, xb.map vu8)]) h_6 rfl rfl (sC (s8 hxb) sN) rfl (fun b_7 w_8 h_9 => ?_)
 refine qA (.bool false) rfl rfl ?_
 refine WL.nil (thn_n (WP.seq (WP.seq (WP.reg ?_))))
 refine qV rfl (R.loadA [] [(1, [(.bool id)]), (32, ms.map vu8), (1, [(.slice da0 n cap0)]), (1, [(vi gn)]), (1, [(.slice fa fn fc)]), (1, [(vu64 nd)])] [] rfl isAgg28 sizeOf28 (h_9.ok _ M2) rfl rfl rfl rfl) ?_
 refine WL.call Tryz.call6 rfl rfl (c_small_f id ms df hms da0 n cap0 hl fa fn fc fd hfl nd gn hs _ ) rfl ?_
 rintro _ w_11 ⟨rfl, hc_10⟩
 have h_12 := h_9.same hc_10
 refine qV rfl (R.not (b := false) rfl) ?_
 refine WL.nil (thn_n ?_)
 refine WP.condT rfl ?_
 refine WP.seq (WP.reg ?_)
 refine WL.call Tryz.call7 rfl rfl (c_known15  _ ) rfl ?_
 rintro _ w_14 ⟨rfl, hc_13⟩
 have h_15 := h_12.same hc_13
 refine qA (.bool true) rfl rfl ?_
 refine WL.nil (thn_n (WP.ret (thn_r ?_)))
 refine ret_of results5 (RV.tmp (v := (.bool true)) rfl RV.nil) ?_
 exact ⟨rfl, h_15.chgS⟩

theorem w_TS_p (id : Bool) (ms df : List UInt8) (hms : ms.length = 32) (da0 : Option Addr) (n cap0 : Nat) (hl : df.length = 32 * n) (fa : Option Addr) (fn fc : Nat) (fd : List UInt8) (hfl : fd.length = 128 * fn) (xa xb : List UInt8) (hxa : xa.length = 32) (hxb : xb.length = 32) (gn : Nat) (hs : n ≤ 700 ∧ 1 ≤ gn ∧ gn ≤ 80 ∧ fn ≤ 80) (nd : UInt64) (pg : Int) (h : ¬ (0 ≤ pg ∧ pg < 128)) (w : World) (hv : View w da0 (df.map vu8)) (hvf : View w fa (fd.map vu8)) :
  Cs Tryz.prog 5 [(.agg ⟨flat [(1, [(.bool id)]), (32, ms.map vu8), (1, [(.slice da0 n cap0)]), (1, [(vi ((gn : Nat) : Int))]), (1, [(.slice fa fn fc)]), (1, [(vu64 nd)])]⟩), (vi pg), (.agg ⟨xa.map vu8⟩), (.agg ⟨xb.map vu8⟩)].toArray w (fun v w1 => v = (.bool true) ∧ Chg w w1 []) := by
 refine Cs.of (n := 177) (args := [(.agg ⟨flat [(1, [(.bool id)]), (32, ms.map vu8), (1, [(.slice da0 n cap0)]), (1, [(vn gn)]), (1, [(.slice fa fn fc)]), (1, [(vu64 nd)])]⟩), (vi pg), (.agg ⟨xa.map vu8⟩), (.agg ⟨xb.map vu8⟩)]) Tryz.func5 rfl rfl rfl ?_
 have h_0 := HP.init w
 have h_01 := h_0.oldV (View.arg hv) rfl (by simp [Ent.mut])
 have h_00 := h_01.oldV (View.arg hvf) rfl (by simp [Ent.mut])
 refine WP.seq (WP.reg ?_)
 refine WL.box (segs := [(1, [(.bool id)]), (32, ms.map vu8), (1, [(.slice da0 n cap0)]), (1, [(vn gn)]), (1, [(.slice fa fn fc)]), (1, [(vu64 nd)])]) h_00 rfl rfl (sC sV (sC (s8 hms) (sC sV (sC sV (sC sV (sC sV sN)))))) rfl (fun b_1 w_2 h_3 => ?_)
 refine WL.box (segs := [(32, xa.map vu8)]) h_3 rfl rfl (sC (s8 hxa) sN) rfl (fun b_4 w_5 h_6 => ?_)
 refine WL.box (segs := [(32, xb.map vu8)]) h_6 rfl rfl (sC (s8 hxb) sN) rfl (fun b_7 w_8 h_9 => ?_)
 refine qA (.bool false) rfl rfl ?_
 refine WL.nil (thn_n (WP.seq (WP.seq (WP.reg ?_))))
 refine qV rfl (R.loadA [] [(1, [(.bool id)]), (32, ms.map vu8), (1, [(.slice da0 n cap0)]), (1, [(vn gn)]), (1, [(.slice fa fn fc)]), (1, [(vu64 nd)])] [] rfl isAgg28 sizeOf28 (h_9.ok _ M2) rfl rfl rfl rfl) ?_
 refine WL.call Tryz.call6 rfl rfl (c_small_t id ms df hms da0 n cap0 hl fa fn fc fd hfl nd gn hs _ ) rfl ?_
 rintro _ w_11 ⟨rfl, hc_10⟩
 have h_12 := h_9.same hc_10
 refine qV rfl (R.not (b := true) rfl) ?_
 refine WL.nil (thn_n ?_)
 refine WP.condF rfl ?_
 refine WP.skip (thn_n (WP.seq (WP.reg ?_)))
 refine qV rfl (R.loadA [] [(1, [(.bool id)]), (32, ms.map vu8), (1, [(.slice da0 n cap0)]), (1, [(vn gn)]), (1, [(.slice fa fn fc)]), (1, [(vu64 nd)])] [] rfl isAgg28 sizeOf28 (h_12.ok _ M2) rfl rfl rfl rfl) ?_
 have h_14 := (h_12.up J3).up J4
 refine WL.call Tryz.call8 rfl rfl (c_two id ms df hms da0 n cap0 hl fa fn fc fd hfl nd gn hs _ h_14) rfl ?_
 rintro _ w_24 ⟨b_15, b_16, a_17, c_18, b_19, b_20, a_21, b_22, a_23, rfl, h_25⟩
 have h_26 := h_25.rowNil 102 67
 have h_27 := HP_logNil h_26
 refine qM (.tuple [(pO b_15 0), (pO b_20 0), (pO b_19 0), (pO b_22 0), (.bool true)].toArray) rfl rfl (qV rfl (R.extract rfl rfl) (qV rfl (R.extract rfl rfl) (qV rfl (R.extract rfl rfl) (qV rfl (R.extract rfl rfl) (qV rfl (R.extract rfl rfl) (qA (pO b_15 0) rfl rfl (qA (pO b_20 0) rfl rfl (qA (pO b_19 0) rfl rfl (qA (pO b_22 0) rfl rfl (qA (.bool true) rfl rfl ?_))))))))))
 refine WL.nil (thn_n (WP.seq (WP.seq (WP.reg ?_))))
 refine qM (.bool true) rfl rfl (qV rfl (R.not (b := true) rfl) ?_)
 refine WL.nil (thn_n ?_)
 refine WP.condF rfl ?_
 refine WP.skip (thn_n (WP.seq (WP.reg ?_)))
 refine qM (pO b_15 0) rfl rfl (qM (pO b_20 0) rfl rfl (qV rfl (R.fieldAddr (off' := 36) rfl underlying28 rfl sizeOf26 rfl rfl) (qV rfl (R.load1 rfl isAgg26 (h_27.ok _ M16) (Sg.t rfl (Sg.t rfl (Sg.t rfl (Sg.t rfl (Sg.t rfl Sg.h)))))) (qM (vi pg) rfl rfl (qV rfl (R.loadA [] [(32, xa.map vu8)] [] (cs := xa.map vu8) rfl isAgg23 sizeOf23 (h_27.ok _ M15) rfl rfl rfl rfl) ?_)))))
 refine WL.call Tryz.call29 rfl rfl (c_UpP id b_15 b_16 ms hms a_17 n c_18 0 none 0 0 b_20 a_21 gn (by omega) (by omega) pg h nd xa hxa _ (h_27.argR M2) (h_27.argR M8)) rfl ?_
 rintro _ w_29 ⟨rfl, hc_28⟩
 have h_30 := h_27.same hc_28
 refine qM (.tuple [(.agg ⟨(zB 32).map vu8⟩), (vi 2)].toArray) rfl rfl (qV rfl (R.extract rfl rfl) (qV rfl (R.extract rfl rfl) ?_))
 refine WL.alloc (segs := [(32, (zB 32).map vu8)]) h_30 (zv typeInfo23 rfl) rfl (sC (s8 lr) sN) rfl (fun b_31 w_32 h_33 => ?_)
 refine WL.storeA [] [(32, (zB 32).map vu8)] [(32, (zB 32).map vu8)] [] h_33 rfl rfl sizeOf23 At.h (by decide) rfl rfl rfl rfl rfl rfl (sC (s8 lr) sN) (fun w_34 h_35 => ?_)
 refine qA (vi 2) rfl rfl ?_
 refine WL.nil (thn_n (WP.seq (WP.reg ?_)))
 refine qM (pO b_15 0) rfl rfl (qM (pO b_20 0) rfl rfl (qV rfl (R.fieldAddr (off' := 36) rfl underlying28 rfl sizeOf26 rfl rfl) (qV rfl (R.load1 rfl isAgg26 (h_35.ok _ M17) (Sg.t rfl (Sg.t rfl (Sg.t rfl (Sg.t rfl (Sg.t rfl Sg.h)))))) (qV rfl (R.loadA [] [(32, xb.map vu8)] [] (cs := xb.map vu8) rfl isAgg23 sizeOf23 (h_35.ok _ M15) rfl rfl rfl rfl) (qM (vi pg) rfl rfl (qV rfl (R.loadA [] [(32, xa.map vu8)] [] (cs := xa.map vu8) rfl isAgg23 sizeOf23 (h_35.ok _ M16) rfl rfl rfl rfl) ?_))))))
 refine WL.call Tryz.call30 rfl rfl (c_ChkP id b_15 b_16 ms hms a_17 n c_18 0 none 0 0 b_20 a_21 gn (by omega) (by omega) pg h nd xa hxa xb hxb _ (h_35.argR M3) (h_35.argR M9)) rfl ?_
 rintro _ w_37 ⟨rfl, hc_36⟩
 have h_38 := h_35.same hc_36
 refine qM (.tuple [(.bool false), (vi 2)].toArray) rfl rfl (qV rfl (R.extract rfl rfl) (qV rfl (R.extract rfl rfl) (qA (.bool false) rfl rfl (qA (vi 2) rfl rfl ?_))))
 refine WL.nil (thn_n (WP.seq (WP.seq (WP.reg ?_))))
 refine qM (pO b_20 0) rfl rfl (qM (pO b_22 0) rfl rfl ?_)
 refine WL.call Tryz.call24 rfl rfl (c_sameM b_20 b_22 a_21 a_23 gn (by omega) (by omega) (fillL fd gn (min fn gn)) (fillL_len hfl (Nat.min_le_right ..) (Nat.min_le_left ..)) _ (h_38.argR M9) (ownView (h_38.ok _ M10)) (h_38.argR M11) (ownView (h_38.ok _ M12))) rfl ?_
 rintro _ w_40 ⟨rfl, hc_39⟩
 have h_41 := h_38.same hc_39
 refine qV rfl (R.not (b := true) rfl) ?_
 refine WL.nil (thn_n ?_)
 refine WP.condF rfl ?_
 refine WP.skip (thn_n (WP.seq (WP.reg ?_)))
 refine qM (pO b_15 0) rfl rfl (qM (pO b_20 0) rfl rfl (qV rfl (R.fieldAddr (off' := 36) rfl underlying28 rfl sizeOf26 rfl rfl) (qV rfl (R.load1 rfl isAgg26 (h_41.ok _ M17) (Sg.t rfl (Sg.t rfl (Sg.t rfl (Sg.t rfl (Sg.t rfl Sg.h)))))) (qM (vi pg) rfl rfl (qV rfl (R.loadA [] [(32, xa.map vu8)] [] (cs := xa.map vu8) rfl isAgg23 sizeOf23 (h_41.ok _ M16) rfl rfl rfl rfl) ?_)))))
 refine WL.call Tryz.call31 rfl rfl (c_SetP id b_15 b_16 ms hms a_17 n c_18 0 none 0 0 b_20 a_21 gn (by omega) (by omega) pg h nd xa hxa _ (h_41.argR M3) (h_41.argR M9)) rfl ?_
 rintro _ w_43 ⟨rfl, hc_42⟩
 have h_44 := h_41.same hc_42
 refine qM (.tuple [(.agg ⟨(zB 32).map vu8⟩), (vi 2)].toArray) rfl rfl (qV rfl (R.extract rfl rfl) (qV rfl (R.extract rfl rfl) ?_))
 refine WL.alloc (segs := [(32, (zB 32).map vu8)]) h_44 (zv typeInfo23 rfl) rfl (sC (s8 lr) sN) rfl (fun b_45 w_46 h_47 => ?_)
 refine WL.storeA [] [(32, (zB 32).map vu8)] [(32, (zB 32).map vu8)] [] h_47 rfl rfl sizeOf23 At.h (by decide) rfl rfl rfl rfl rfl rfl (sC (s8 lr) sN) (fun w_48 h_49 => ?_)
 refine qA (vi 2) rfl rfl ?_
 refine WL.nil (thn_n (WP.seq (WP.seq (WP.reg ?_))))
 refine qM (vi pg) rfl rfl ?_
 refine WL.call Tryz.call12 rfl rfl (c_mayP_f pg (by omega) _ ) rfl ?_
 rintro _ w_51 ⟨rfl, hc_50⟩
 have h_52 := h_49.same hc_50
 refine qV rfl (R.not (b := false) rfl) (qM (.bool true) rfl rfl ?_)
 refine WL.skip rfl rfl rfl ?_
 refine WL.skip rfl rfl rfl ?_
 refine WL.skip rfl rfl rfl ?_
 refine WL.skip rfl rfl rfl ?_
 refine WL.skip rfl rfl rfl ?_
 refine WL.skip rfl rfl rfl ?_
 refine qV rfl (R.pickT (v := (.bool true)) rfl rfl) ?_
 refine WL.nil (thn_n ?_)
 refine WP.condT rfl ?_
 refine WP.seq (WP.reg ?_)
 refine qV rfl (R.loadA [] [(32, (zB 32).map vu8)] [] (cs := (zB 32).map vu8) rfl isAgg23 sizeOf23 (h_52.ok _ M1) rfl rfl rfl rfl) (qV rfl (R.buildA (vs := []) (cs := (zB 32).map vu8) underlying23 sizeOf5 (zv typeInfo23 rfl) rfl rfl) (qV rfl (R.eqA (xs := (zB 32).map vu8) (ys := (zB 32).map vu8) (r := true) rfl rfl eqGuardType23 kt23 (by decide) ag23 (Typ.u8s underlying23 ce23 underlying5 ce5 lr) (Typ.u8s underlying23 ce23 underlying5 ce5 lr) (eqT rfl)) (qM (.bool true) rfl rfl ?_)))
 refine WL.want rfl rfl ?_
 refine qM (.bool false) rfl rfl ?_
 refine WL.want rfl rfl ?_
 refine qV rfl (R.not (b := false) rfl) (qV rfl (R.pickT (v := (.bool true)) rfl rfl) (qM (.bool true) rfl rfl ?_))
 refine WL.want rfl rfl ?_
 refine qV rfl (R.loadA [] [(32, (zB 32).map vu8)] [] (cs := (zB 32).map vu8) rfl isAgg23 sizeOf23 (h_52.ok _ M0) rfl rfl rfl rfl) ?_
 refine WL.want rfl rfl ?_
 refine qV rfl (R.loadA [] [(32, (zB 32).map vu8)] [] (cs := (zB 32).map vu8) rfl isAgg23 sizeOf23 (h_52.ok _ M1) rfl rfl rfl rfl) ?_
 refine WL.want rfl rfl ?_
 refine qV rfl (R.eqA (xs := (zB 32).map vu8) (ys := (zB 32).map vu8) (r := true) rfl rfl eqGuardType23 kt23 (by decide) ag23 (Typ.u8s underlying23 ce23 underlying5 ce5 lr) (Typ.u8s underlying23 ce23 underlying5 ce5 lr) (eqT rfl)) (qV rfl (R.pickT (v := (.bool true)) rfl rfl) (qM (.bool true) rfl rfl ?_))
 refine WL.want rfl rfl ?_
 refine qM (vi 2) rfl rfl ?_
 refine WL.want rfl rfl ?_
 refine WL.call Tryz.call17 rfl rfl (c_num15 2 (by omega) _ ) rfl ?_
 rintro _ w_54 ⟨rfl, hc_53⟩
 have h_55 := h_52.same hc_53
 refine WL.want rfl rfl ?_
 refine qV rfl (R.bin rfl rfl (bi_eql (r := true) (by decide))) (qV rfl (R.pickT (v := (.bool true)) rfl rfl) (qM (.bool true) rfl rfl ?_))
 refine WL.want rfl rfl ?_
 refine qM (vi 2) rfl rfl ?_
 refine WL.want rfl rfl ?_
 refine WL.call Tryz.call17 rfl rfl (c_num15 2 (by omega) _ ) rfl ?_
 rintro _ w_57 ⟨rfl, hc_56⟩
 have h_58 := h_55.same hc_56
 refine WL.want rfl rfl ?_
 refine qV rfl (R.bin rfl rfl (bi_eql (r := true) (by decide))) (qV rfl (R.pickT (v := (.bool true)) rfl rfl) (qM (.bool true) rfl rfl ?_))
 refine WL.want rfl rfl ?_
 refine qM (vi 2) rfl rfl ?_
 refine WL.want rfl rfl ?_
 refine WL.call Tryz.call17 rfl rfl (c_num15 2 (by omega) _ ) rfl ?_
 rintro _ w_60 ⟨rfl, hc_59⟩
 have h_61 := h_58.same hc_59
 refine WL.want rfl rfl ?_
 refine qV rfl (R.bin rfl rfl (bi_eql (r := true) (by decide))) (qV rfl (R.pickT (v := (.bool true)) rfl rfl) (qM (.bool true) rfl rfl ?_))
 refine WL.want rfl rfl ?_
 refine qM (pO b_20 0) rfl rfl ?_
 refine WL.want rfl rfl ?_
 refine qM (pO b_22 0) rfl rfl ?_
 refine WL.want rfl rfl ?_
 refine WL.call Tryz.call24 rfl rfl (c_sameM b_20 b_22 a_21 a_23 gn (by omega) (by omega) (fillL fd gn (min fn gn)) (fillL_len hfl (Nat.min_le_right ..) (Nat.min_le_left ..)) _ (h_61.argR M10) (ownView (h_61.ok _ M11)) (h_61.argR M12) (ownView (h_61.ok _ M13))) rfl ?_
 rintro _ w_63 ⟨rfl, hc_62⟩
 have h_64 := h_61.same hc_62
 refine qV rfl (R.pickT (v := (.bool true)) rfl rfl) (qM (.bool true) rfl rfl ?_)
 refine WL.want rfl rfl ?_
 refine WL.call Tryz.call7 rfl rfl (c_known15  _ ) rfl ?_
 rintro _ w_66 ⟨rfl, hc_65⟩
 have h_67 := h_64.same hc_65
 refine qV rfl (R.pickT (v := (.bool true)) rfl rfl) (qA (.bool true) rfl rfl ?_)
 refine WL.nil (thn_n (WP.ret (thn_r ?_)))
 refine ret_of results5 (RV.tmp (v := (.bool true)) rfl RV.nil) ?_
 exact ⟨rfl, h_67.chgS⟩

theorem w_TS_w (id : Bool) (ms df : List UInt8) (hms : ms.length = 32) (da0 : Option Addr) (n cap0 : Nat) (hl : df.length = 32 * n) (fa : Option Addr) (fn fc : Nat) (fd : List UInt8) (hfl : fd.length = 128 * fn) (xa xb : List UInt8) (hxa : xa.length = 32) (hxb : xb.length = 32) (gn : Nat) (hs : n ≤ 700 ∧ 1 ≤ gn ∧ gn ≤ 80 ∧ fn ≤ 80) (nd : UInt64) (pg : Nat) (h : pg < 128) (hwn : wnB gn nd = false) (w : World) (hv : View w da0 (df.map vu8)) (hvf : View w fa (fd.map vu8)) :
  Cs Tryz.prog 5 [(.agg ⟨flat [(1, [(.bool id)]), (32, ms.map vu8), (1, [(.slice da0 n cap0)]), (1, [(vi ((gn : Nat) : Int))]), (1, [(.slice fa fn fc)]), (1, [(vu64 nd)])]⟩), (vi ((pg : Nat) : Int)), (.agg ⟨xa.map vu8⟩), (.agg ⟨xb.map vu8⟩)].toArray w (fun v w1 => v = (.bool true) ∧ Chg w w1 []) := by
 refine Cs.of (n := 177) (args := [(.agg ⟨flat [(1, [(.bool id)]), (32, ms.map vu8), (1, [(.slice da0 n cap0)]), (1, [(vn gn)]), (1, [(.slice fa fn fc)]), (1, [(vu64 nd)])]⟩), (vn pg), (.agg ⟨xa.map vu8⟩), (.agg ⟨xb.map vu8⟩)]) Tryz.func5 rfl rfl rfl ?_
 have h_0 := HP.init w
 have h_01 := h_0.oldV (View.arg hv) rfl (by simp [Ent.mut])
 have h_00 := h_01.oldV (View.arg hvf) rfl (by simp [Ent.mut])
 refine WP.seq (WP.reg ?_)
 refine WL.box (segs := [(1, [(.bool id)]), (32, ms.map vu8), (1, [(.slice da0 n cap0)]), (1, [(vn gn)]), (1, [(.slice fa fn fc)]), (1, [(vu64 nd)])]) h_00 rfl rfl (sC sV (sC (s8 hms) (sC sV (sC sV (sC sV (sC sV sN)))))) rfl (fun b_1 w_2 h_3 => ?_)
 refine WL.box (segs := [(32, xa.map vu8)]) h_3 rfl rfl (sC (s8 hxa) sN) rfl (fun b_4 w_5 h_6 => ?_)
 refine WL.box (segs := [(32, xb.map vu8)]) h_6 rfl rfl (sC (s8 hxb) sN) rfl (fun b_7 w_8 h_9 => ?_)
 refine qA (.bool false) rfl rfl ?_
 refine WL.nil (thn_n (WP.seq (WP.seq (WP.reg ?_))))
 refine qV rfl (R.loadA [] [(1, [(.bool id)]), (32, ms.map vu8), (1, [(.slice da0 n cap0)]), (1, [(vn gn)]), (1, [(.slice fa fn fc)]), (1, [(vu64 nd)])] [] rfl isAgg28 sizeOf28 (h_9.ok _ M2) rfl rfl rfl rfl) ?_
 refine WL.call Tryz.call6 rfl rfl (c_small_t id ms df hms da0 n cap0 hl fa fn fc fd hfl nd gn hs _ ) rfl ?_
 rintro _ w_11 ⟨rfl, hc_10⟩
 have h_12 := h_9.same hc_10
 refine qV rfl (R.not (b := true) rfl) ?_
 refine WL.nil (thn_n ?_)
 refine WP.condF rfl ?_
 refine WP.skip (thn_n (WP.seq (WP.reg ?_)))
 refine qV rfl (R.loadA [] [(1, [(.bool id)]), (32, ms.map vu8), (1, [(.slice da0 n cap0)]), (1, [(vn gn)]), (1, [(.slice fa fn fc)]), (1, [(vu64 nd)])] [] rfl isAgg28 sizeOf28 (h_12.ok _ M2) rfl rfl rfl rfl) ?_
 have h_14 := (h_12.up J3).up J4
 refine WL.call Tryz.call8 rfl rfl (c_two id ms df hms da0 n cap0 hl fa fn fc fd hfl nd gn hs _ h_14) rfl ?_
 rintro _ w_24 ⟨b_15, b_16, a_17, c_18, b_19, b_20, a_21, b_22, a_23, rfl, h_25⟩
 have h_26 := h_25.rowNil 102 67
 have h_27 := HP_logNil h_26
 refine qM (.tuple [(pO b_15 0), (pO b_20 0), (pO b_19 0), (pO b_22 0), (.bool true)].toArray) rfl rfl (qV rfl (R.extract rfl rfl) (qV rfl (R.extract rfl rfl) (qV rfl (R.extract rfl rfl) (qV rfl (R.extract rfl rfl) (qV rfl (R.extract rfl rfl) (qA (pO b_15 0) rfl rfl (qA (pO b_20 0) rfl rfl (qA (pO b_19 0) rfl rfl (qA (pO b_22 0) rfl rfl (qA (.bool true) rfl rfl ?_))))))))))
 refine WL.nil (thn_n (WP.seq (WP.seq (WP.reg ?_))))
 refine qM (.bool true) rfl rfl (qV rfl (R.not (b := true) rfl) ?_)
 refine WL.nil (thn_n ?_)
 refine WP.condF rfl ?_
 refine WP.skip (thn_n (WP.seq (WP.reg ?_)))
 refine qM (pO b_15 0) rfl rfl (qM (pO b_20 0) rfl rfl (qV rfl (R.fieldAddr (off' := 36) rfl underlying28 rfl sizeOf26 rfl rfl) (qV rfl (R.load1 rfl isAgg26 (h_27.ok _ M16) (Sg.t rfl (Sg.t rfl (Sg.t rfl (Sg.t rfl (Sg.t rfl Sg.h)))))) (qM (vn pg) rfl rfl (qV rfl (R.loadA [] [(32, xa.map vu8)] [] (cs := xa.map vu8) rfl isAgg23 sizeOf23 (h_27.ok _ M15) rfl rfl rfl rfl) ?_)))))
 refine WL.call Tryz.call29 rfl rfl (c_UpW id b_15 b_16 ms hms a_17 n c_18 0 none 0 0 b_20 a_21 gn (by omega) (by omega) pg (by omega) nd hwn xa hxa _ (h_27.argR M2) (h_27.argR M8)) rfl ?_
 rintro _ w_29 ⟨rfl, hc_28⟩
 have h_30 := h_27.same hc_28
 refine qM (.tuple [(.agg ⟨(zB 32).map vu8⟩), (vi 2)].toArray) rfl rfl (qV rfl (R.extract rfl rfl) (qV rfl (R.extract rfl rfl) ?_))
 refine WL.alloc (segs := [(32, (zB 32).map vu8)]) h_30 (zv typeInfo23 rfl) rfl (sC (s8 lr) sN) rfl (fun b_31 w_32 h_33 => ?_)
 refine WL.storeA [] [(32, (zB 32).map vu8)] [(32, (zB 32).map vu8)] [] h_33 rfl rfl sizeOf23 At.h (by decide) rfl rfl rfl rfl rfl rfl (sC (s8 lr) sN) (fun w_34 h_35 => ?_)
 refine qA (vi 2) rfl rfl ?_
 refine WL.nil (thn_n (WP.seq (WP.reg ?_)))
 refine qM (pO b_15 0) rfl rfl (qM (pO b_20 0) rfl rfl (qV rfl (R.fieldAddr (off' := 36) rfl underlying28 rfl sizeOf26 rfl rfl) (qV rfl (R.load1 rfl isAgg26 (h_35.ok _ M17) (Sg.t rfl (Sg.t rfl (Sg.t rfl (Sg.t rfl (Sg.t rfl Sg.h)))))) (qV rfl (R.loadA [] [(32, xb.map vu8)] [] (cs := xb.map vu8) rfl isAgg23 sizeOf23 (h_35.ok _ M15) rfl rfl rfl rfl) (qM (vn pg) rfl rfl (qV rfl (R.loadA [] [(32, xa.map vu8)] [] (cs := xa.map vu8) rfl isAgg23 sizeOf23 (h_35.ok _ M16) rfl rfl rfl rfl) ?_))))))
 refine WL.call Tryz.call30 rfl rfl (c_ChkW id b_15 b_16 ms hms a_17 n c_18 0 none 0 0 b_20 a_21 gn (by omega) (by omega) pg (by omega) nd hwn xa hxa xb hxb _ (h_35.argR M3) (h_35.argR M9)) rfl ?_
 rintro _ w_37 ⟨rfl, hc_36⟩
 have h_38 := h_35.same hc_36
 refine qM (.tuple [(.bool false), (vi 2)].toArray) rfl rfl (qV rfl (R.extract rfl rfl) (qV rfl (R.extract rfl rfl) (qA (.bool false) rfl rfl (qA (vi 2) rfl rfl ?_))))
 refine WL.nil (thn_n (WP.seq (WP.seq (WP.reg ?_))))
 refine qM (pO b_20 0) rfl rfl (qM (pO b_22 0) rfl rfl ?_)
 refine WL.call Tryz.call24 rfl rfl (c_sameM b_20 b_22 a_21 a_23 gn (by omega) (by omega) (fillL fd gn (min fn gn)) (fillL_len hfl (Nat.min_le_right ..) (Nat.min_le_left ..)) _ (h_38.argR M9) (ownView (h_38.ok _ M10)) (h_38.argR M11) (ownView (h_38.ok _ M12))) rfl ?_
 rintro _ w_40 ⟨rfl, hc_39⟩
 have h_41 := h_38.same hc_39
 refine qV rfl (R.not (b := true) rfl) ?_
 refine WL.nil (thn_n ?_)
 refine WP.condF rfl ?_
 refine WP.skip (thn_n (WP.seq (WP.reg ?_)))
 refine qM (pO b_15 0) rfl rfl (qM (pO b_20 0) rfl rfl (qV rfl (R.fieldAddr (off' := 36) rfl underlying28 rfl sizeOf26 rfl rfl) (qV rfl (R.load1 rfl isAgg26 (h_41.ok _ M17) (Sg.t rfl (Sg.t rfl (Sg.t rfl (Sg.t rfl (Sg.t rfl Sg.h)))))) (qM (vn pg) rfl rfl (qV rfl (R.loadA [] [(32, xa.map vu8)] [] (cs := xa.map vu8) rfl isAgg23 sizeOf23 (h_41.ok _ M16) rfl rfl rfl rfl) ?_)))))
 refine WL.call Tryz.call31 rfl rfl (c_SetW id b_15 b_16 ms hms a_17 n c_18 0 none 0 0 b_20 a_21 gn (by omega) (by omega) pg (by omega) nd hwn xa hxa _ (h_41.argR M3) (h_41.argR M9)) rfl ?_
 rintro _ w_43 ⟨rfl, hc_42⟩
 have h_44 := h_41.same hc_42
 refine qM (.tuple [(.agg ⟨(zB 32).map vu8⟩), (vi 2)].toArray) rfl rfl (qV rfl (R.extract rfl rfl) (qV rfl (R.extract rfl rfl) ?_))
 refine WL.alloc (segs := [(32, (zB 32).map vu8)]) h_44 (zv typeInfo23 rfl) rfl (sC (s8 lr) sN) rfl (fun b_45 w_46 h_47 => ?_)
 refine WL.storeA [] [(32, (zB 32).map vu8)] [(32, (zB 32).map vu8)] [] h_47 rfl rfl sizeOf23 At.h (by decide) rfl rfl rfl rfl rfl rfl (sC (s8 lr) sN) (fun w_48 h_49 => ?_)
 refine qA (vi 2) rfl rfl ?_
 refine WL.nil (thn_n (WP.seq (WP.seq (WP.reg ?_))))
 refine qM (vn pg) rfl rfl ?_
 refine WL.call Tryz.call12 rfl rfl (c_mayP_t pg (by omega) _ ) rfl ?_
 rintro _ w_51 ⟨rfl, hc_50⟩
 have h_52 := h_49.same hc_50
 refine qV rfl (R.not (b := true) rfl) (qM (.bool false) rfl rfl ?_)
 refine WL.want rfl rfl ?_
 refine qV rfl (R.fieldAddr (off' := 34) rfl underlying28 rfl sizeOf3 rfl rfl) ?_
 refine WL.want rfl rfl ?_
 refine qV rfl (R.load1 rfl isAgg3 (h_52.ok _ M18) (Sg.t rfl (Sg.t rfl (Sg.t rfl Sg.h)))) ?_
 refine WL.want rfl rfl ?_
 refine qV rfl (R.fieldAddr (off' := 36) rfl underlying28 rfl sizeOf26 rfl rfl) ?_
 refine WL.want rfl rfl ?_
 refine qV rfl (R.load1 rfl isAgg26 (h_52.ok _ M18) (Sg.t rfl (Sg.t rfl (Sg.t rfl (Sg.t rfl (Sg.t rfl Sg.h)))))) ?_
 refine WL.want rfl rfl ?_
 refine WL.call Tryz.call22 rfl rfl (c_rWithin gn nd (by omega) _ ) rfl ?_
 rintro _ w_54 ⟨rfl, hc_53⟩
 have h_55 := h_52.same hc_53
 refine WL.want rfl rfl ?_
 refine qV rfl (R.not (b := false) (congrArg Value.bool hwn)) (qV rfl (R.pickF (v := (.bool true)) rfl rfl) ?_)
 refine WL.nil (thn_n ?_)
 refine WP.condT rfl ?_
 refine WP.seq (WP.reg ?_)
 refine qV rfl (R.loadA [] [(32, (zB 32).map vu8)] [] (cs := (zB 32).map vu8) rfl isAgg23 sizeOf23 (h_55.ok _ M1) rfl rfl rfl rfl) (qV rfl (R.buildA (vs := []) (cs := (zB 32).map vu8) underlying23 sizeOf5 (zv typeInfo23 rfl) rfl rfl) (qV rfl (R.eqA (xs := (zB 32).map vu8) (ys := (zB 32).map vu8) (r := true) rfl rfl eqGuardType23 kt23 (by decide) ag23 (Typ.u8s underlying23 ce23 underlying5 ce5 lr) (Typ.u8s underlying23 ce23 underlying5 ce5 lr) (eqT rfl)) (qM (.bool true) rfl rfl ?_)))
 refine WL.want rfl rfl ?_
 refine qM (.bool false) rfl rfl ?_
 refine WL.want rfl rfl ?_
 refine qV rfl (R.not (b := false) rfl) (qV rfl (R.pickT (v := (.bool true)) rfl rfl) (qM (.bool true) rfl rfl ?_))
 refine WL.want rfl rfl ?_
 refine qV rfl (R.loadA [] [(32, (zB 32).map vu8)] [] (cs := (zB 32).map vu8) rfl isAgg23 sizeOf23 (h_55.ok _ M0) rfl rfl rfl rfl) ?_
 refine WL.want rfl rfl ?_
 refine qV rfl (R.loadA [] [(32, (zB 32).map vu8)] [] (cs := (zB 32).map vu8) rfl isAgg23 sizeOf23 (h_55.ok _ M1) rfl rfl rfl rfl) ?_
 refine WL.want rfl rfl ?_
 refine qV rfl (R.eqA (xs := (zB 32).map vu8) (ys := (zB 32).map vu8) (r := true) rfl rfl eqGuardType23 kt23 (by decide) ag23 (Typ.u8s underlying23 ce23 underlying5 ce5 lr) (Typ.u8s underlying23 ce23 underlying5 ce5 lr) (eqT rfl)) (qV rfl (R.pickT (v := (.bool true)) rfl rfl) (qM (.bool true) rfl rfl ?_))
 refine WL.want rfl rfl ?_
 refine qM (vi 2) rfl rfl ?_
 refine WL.want rfl rfl ?_
 refine WL.call Tryz.call17 rfl rfl (c_num15 2 (by omega) _ ) rfl ?_
 rintro _ w_57 ⟨rfl, hc_56⟩
 have h_58 := h_55.same hc_56
 refine WL.want rfl rfl ?_
 refine qV rfl (R.bin rfl rfl (bi_eql (r := true) (by decide))) (qV rfl (R.pickT (v := (.bool true)) rfl rfl) (qM (.bool true) rfl rfl ?_))
 refine WL.want rfl rfl ?_
 refine qM (vi 2) rfl rfl ?_
 refine WL.want rfl rfl ?_
 refine WL.call Tryz.call17 rfl rfl (c_num15 2 (by omega) _ ) rfl ?_
 rintro _ w_60 ⟨rfl, hc_59⟩
 have h_61 := h_58.same hc_59
 refine WL.want rfl rfl ?_
 refine qV rfl (R.bin rfl rfl (bi_eql (r := true) (by decide))) (qV rfl (R.pickT (v := (.bool true)) rfl rfl) (qM (.bool true) rfl rfl ?_))
 refine WL.want rfl rfl ?_
 refine qM (vi 2) rfl rfl ?_
 refine WL.want rfl rfl ?_
 refine WL.call Tryz.call17 rfl rfl (c_num15 2 (by omega) _ ) rfl ?_
 rintro _ w_63 ⟨rfl, hc_62⟩
 have h_64 := h_61.same hc_62
 refine WL.want rfl rfl ?_
 refine qV rfl (R.bin rfl rfl (bi_eql (r := true) (by decide))) (qV rfl (R.pickT (v := (.bool true)) rfl rfl) (qM (.bool true) rfl rfl ?_))
 refine WL.want rfl rfl ?_
 refine qM (pO b_20 0) rfl rfl ?_
 refine WL.want rfl rfl ?_
 refine qM (pO b_22 0) rfl rfl ?_
 refine WL.want rfl rfl ?_
 refine WL.call Tryz.call24 rfl rfl (c_sameM b_20 b_22 a_21 a_23 gn (by omega) (by omega) (fillL fd gn (min fn gn)) (fillL_len hfl (Nat.min_le_right ..) (Nat.min_le_left ..)) _ (h_64.argR M10) (ownView (h_64.ok _ M11)) (h_64.argR M12) (ownView (h_64.ok _ M13))) rfl ?_
 rintro _ w_66 ⟨rfl, hc_65⟩
 have h_67 := h_64.same hc_65
 refine qV rfl (R.pickT (v := (.bool true)) rfl rfl) (qM (.bool true) rfl rfl ?_)
 refine WL.want rfl rfl ?_
 refine WL.call Tryz.call7 rfl rfl (c_known15  _ ) rfl ?_
 rintro _ w_69 ⟨rfl, hc_68⟩
 have h_70 := h_67.same hc_68
 refine qV rfl (R.pickT (v := (.bool true)) rfl rfl) (qA (.bool true) rfl rfl ?_)
 refine WL.nil (thn_n (WP.ret (thn_r ?_)))
 refine ret_of results5 (RV.tmp (v := (.bool true)) rfl RV.nil) ?_
 exact ⟨rfl, h_70.chgS⟩

theorem w_TS_t (id : Bool) (ms df : List UInt8) (hms : ms.length = 32) (da0 : Option Addr) (n cap0 : Nat) (hl : df.length = 32 * n) (fa : Option Addr) (fn fc : Nat) (fd : List UInt8) (hfl : fd.length = 128 * fn) (xa xb : List UInt8) (hxa : xa.length = 32) (hxb : xb.length = 32) (gn : Nat) (hs : n ≤ 700 ∧ 1 ≤ gn ∧ gn ≤ 80 ∧ fn ≤ 80) (pg : Nat) (h : pg < 128) (p : Nat) (hwn : wnB gn (UInt64.ofNat p) = true) (hp : p % 128 = 0) (hw : p + 8192 ≤ 128 * gn) (w : World) (hv : View w da0 (df.map vu8)) (hvf : View w fa (fd.map vu8)) :
  Cs Tryz.prog 5 [(.agg ⟨flat [(1, [(.bool id)]), (32, ms.map vu8), (1, [(.slice da0 n cap0)]), (1, [(vi ((gn : Nat) : Int))]), (1, [(.slice fa fn fc)]), (1, [(vu64 (UInt64.ofNat p))])]⟩), (vi ((pg : Nat) : Int)), (.agg ⟨xa.map vu8⟩), (.agg ⟨xb.map vu8⟩)].toArray w (fun v w1 => v = (.bool true) ∧ Chg w w1 []) := by
 refine Cs.of (n := 177) (args := [(.agg ⟨flat [(1, [(.bool id)]), (32, ms.map vu8), (1, [(.slice da0 n cap0)]), (1, [(vn gn)]), (1, [(.slice fa fn fc)]), (1, [(vu64 (UInt64.ofNat p))])]⟩), (vn pg), (.agg ⟨xa.map vu8⟩), (.agg ⟨xb.map vu8⟩)]) Tryz.func5 rfl rfl rfl ?_
 have h_0 := HP.init w
 have h_01 := h_0.oldV (View.arg hv) rfl (by simp [Ent.mut])
 have h_00 := h_01.oldV (View.arg hvf) rfl (by simp [Ent.mut])
 refine WP.seq (WP.reg ?_)
 refine WL.box (segs := [(1, [(.bool id)]), (32, ms.map vu8), (1, [(.slice da0 n cap0)]), (1, [(vn gn)]), (1, [(.slice fa fn fc)]), (1, [(vu64 (UInt64.ofNat p))])]) h_00 rfl rfl (sC sV (sC (s8 hms) (sC sV (sC sV (sC sV (sC sV sN)))))) rfl (fun b_1 w_2 h_3 => ?_)
 refine WL.box (segs := [(32, xa.map vu8)]) h_3 rfl rfl (sC (s8 hxa) sN) rfl (fun b_4 w_5 h_6 => ?_)
 refine WL.box (segs := [(32, xb.map vu8)]) h_6 rfl rfl (sC (s8 hxb) sN) rfl (fun b_7 w_8 h_9 => ?_)
 refine qA (.bool false) rfl rfl ?_
 refine WL.nil (thn_n (WP.seq (WP.seq (WP.reg ?_))))
 refine qV rfl (R.loadA [] [(1, [(.bool id)]), (32, ms.map vu8), (1, [(.slice da0 n cap0)]), (1, [(vn gn)]), (1, [(.slice fa fn fc)]), (1, [(vu64 (UInt64.ofNat p))])] [] rfl isAgg28 sizeOf28 (h_9.ok _ M2) rfl rfl rfl rfl) ?_
 refine WL.call Tryz.call6 rfl rfl (c_small_t id ms df hms da0 n cap0 hl fa fn fc fd hfl (UInt64.ofNat p) gn hs _ ) rfl ?_
 rintro _ w_11 ⟨rfl, hc_10⟩
 have h_12 := h_9.same hc_10
 refine qV rfl (R.not (b := true) rfl) ?_
 refine WL.nil (thn_n ?_)
 refine WP.condF rfl ?_
 refine WP.skip (thn_n (WP.seq (WP.reg ?_)))
 refine qV rfl (R.loadA [] [(1, [(.bool id)]), (32, ms.map vu8), (1, [(.slice da0 n cap0)]), (1, [(vn gn)]), (1, [(.slice fa fn fc)]), (1, [(vu64 (UInt64.ofNat p))])] [] rfl isAgg28 sizeOf28 (h_12.ok _ M2) rfl rfl rfl rfl) ?_
 have h_14 := (h_12.up J3).up J4
 refine WL.call Tryz.call8 rfl rfl (c_two id ms df hms da0 n cap0 hl fa fn fc fd hfl (UInt64.ofNat p) gn hs _ h_14) rfl ?_
 rintro _ w_24 ⟨b_15, b_16, a_17, c_18, b_19, b_20, a_21, b_22, a_23, rfl, h_25⟩
 have h_26 := h_25.rowNil 102 67
 have h_27 := HP_logNil h_26
 refine qM (.tuple [(pO b_15 0), (pO b_20 0), (pO b_19 0), (pO b_22 0), (.bool true)].toArray) rfl rfl (qV rfl (R.extract rfl rfl) (qV rfl (R.extract rfl rfl) (qV rfl (R.extract rfl rfl) (qV rfl (R.extract rfl rfl) (qV rfl (R.extract rfl rfl) (qA (pO b_15 0) rfl rfl (qA (pO b_20 0) rfl rfl (qA (pO b_19 0) rfl rfl (qA (pO b_22 0) rfl rfl (qA (.bool true) rfl rfl ?_))))))))))
 refine WL.nil (thn_n (WP.seq (WP.seq (WP.reg ?_))))
 refine qM (.bool true) rfl rfl (qV rfl (R.not (b := true) rfl) ?_)
 refine WL.nil (thn_n ?_)
 refine WP.condF rfl ?_
 refine WP.skip (thn_n (WP.seq (WP.reg ?_)))
 refine qM (pO b_15 0) rfl rfl (qM (pO b_20 0) rfl rfl (qV rfl (R.fieldAddr (off' := 36) rfl underlying28 rfl sizeOf26 rfl rfl) (qV rfl (R.load1 rfl isAgg26 (h_27.ok _ M16) (Sg.t rfl (Sg.t rfl (Sg.t rfl (Sg.t rfl (Sg.t rfl Sg.h)))))) (qM (vn pg) rfl rfl (qV rfl (R.loadA [] [(32, xa.map vu8)] [] (cs := xa.map vu8) rfl isAgg23 sizeOf23 (h_27.ok _ M15) rfl rfl rfl rfl) ?_)))))
 have h_39 := (((((((((((h_27.up J6).up J1).up J5).up J3).up J4).up J9).up J9).up J6).up J6).up J6).up J6).up J6
 refine WL.call Tryz.call29 rfl rfl (c_UpT id b_15 b_16 ms df hms a_17 n c_18 0 hl none 0 [] ([] : Lg) (by first | decide | omega | exact Nat.le_trans (upS_u ..) (by decide)) (by first | decide | omega | exact Nat.le_trans (upS_l ..) (by decide)) b_20 a_21 gn (by omega) (by omega) p (by omega) (by omega) (fillL fd gn (min fn gn)) (fillL_len hfl (Nat.min_le_right ..) (Nat.min_le_left ..)) pg (by omega) xa hxa hwn _ h_39) rfl ?_
 rintro _ w_44 ⟨la_41, lc_42, lx_43, rfl, h_45⟩
 refine qM (.tuple [(.agg ⟨((upS id df n (fillL fd gn (min fn gn)) p pg 0 ([] : Lg) xa 7).2.2).map vu8⟩), (vi 0)].toArray) rfl rfl (qV rfl (R.extract rfl rfl) (qV rfl (R.extract rfl rfl) ?_))
 refine WL.alloc (segs := [(32, (zB 32).map vu8)]) h_45 (zv typeInfo23 rfl) rfl (sC (s8 lr) sN) rfl (fun b_46 w_47 h_48 => ?_)
 refine WL.storeA [] [(32, (zB 32).map vu8)] [(32, ((upS id df n (fillL fd gn (min fn gn)) p pg 0 ([] : Lg) xa 7).2.2).map vu8)] [] h_48 rfl rfl sizeOf23 At.h (by decide) rfl rfl rfl rfl rfl rfl (sC (s8 (upS_len hl okN hxa 7)) sN) (fun w_49 h_50 => ?_)
 refine qA (vi 0) rfl rfl ?_
 refine WL.nil (thn_n (WP.seq (WP.reg ?_)))
 refine qM (pO b_15 0) rfl rfl (qM (pO b_20 0) rfl rfl (qV rfl (R.fieldAddr (off' := 36) rfl underlying28 rfl sizeOf26 rfl rfl) (qV rfl (R.load1 rfl isAgg26 (h_50.ok _ M17) (Sg.t rfl (Sg.t rfl (Sg.t rfl (Sg.t rfl (Sg.t rfl Sg.h)))))) (qV rfl (R.loadA [] [(32, xb.map vu8)] [] (cs := xb.map vu8) rfl isAgg23 sizeOf23 (h_50.ok _ M15) rfl rfl rfl rfl) (qM (vn pg) rfl rfl (qV rfl (R.loadA [] [(32, xa.map vu8)] [] (cs := xa.map vu8) rfl isAgg23 sizeOf23 (h_50.ok _ M16) rfl rfl rfl rfl) ?_))))))
 have h_62 := (((((((((((h_50.up J5).up J5).up J5).up J5).up J5).up J7).up J7).up J6).up J6).up J6).up J6).up J6
 refine WL.call Tryz.call30 rfl rfl (c_ChkTA id b_15 b_16 ms df hms a_17 n c_18 0 hl la_41 lc_42 lx_43 ([] : Lg) (by first | decide | omega | exact Nat.le_trans (upS_u ..) (by decide)) (by first | decide | omega | exact Nat.le_trans (upS_l ..) (by decide)) b_20 a_21 gn (by omega) (by omega) p (by omega) (by omega) (fillL fd gn (min fn gn)) (fillL_len hfl (Nat.min_le_right ..) (Nat.min_le_left ..)) pg (by omega) xa hxa hwn xb hxb _ h_62) rfl ?_
 rintro _ w_67 ⟨la_64, lc_65, lx_66, rfl, h_68⟩
 refine qM (.tuple [(.bool (decide ((upS id df n (fillL fd gn (min fn gn)) p pg 0 ([] : Lg) xa 7).2.2 = xb))), (vi 0)].toArray) rfl rfl (qV rfl (R.extract rfl rfl) (qV rfl (R.extract rfl rfl) (qA (.bool (decide ((upS id df n (fillL fd gn (min fn gn)) p pg 0 ([] : Lg) xa 7).2.2 = xb))) rfl rfl (qA (vi 0) rfl rfl ?_))))
 refine WL.nil (thn_n (WP.seq (WP.seq (WP.reg ?_))))
 refine qM (pO b_20 0) rfl rfl (qM (pO b_22 0) rfl rfl ?_)
 refine WL.call Tryz.call24 rfl rfl (c_sameM b_20 b_22 a_21 a_23 gn (by omega) (by omega) (fillL fd gn (min fn gn)) (fillL_len hfl (Nat.min_le_right ..) (Nat.min_le_left ..)) _ (h_68.argR M5) (ownView (h_68.ok _ M6)) (h_68.argR M11) (ownView (h_68.ok _ M12))) rfl ?_
 rintro _ w_70 ⟨rfl, hc_69⟩
 have h_71 := h_68.same hc_69
 refine qV rfl (R.not (b := true) rfl) ?_
 refine WL.nil (thn_n ?_)
 refine WP.condF rfl ?_
 refine WP.skip (thn_n (WP.seq (WP.reg ?_)))
 refine qM (pO b_15 0) rfl rfl (qM (pO b_20 0) rfl rfl (qV rfl (R.fieldAddr (off' := 36) rfl underlying28 rfl sizeOf26 rfl rfl) (qV rfl (R.load1 rfl isAgg26 (h_71.ok _ M17) (Sg.t rfl (Sg.t rfl (Sg.t rfl (Sg.t rfl (Sg.t rfl Sg.h)))))) (qM (vn pg) rfl rfl (qV rfl (R.loadA [] [(32, xa.map vu8)] [] (cs := xa.map vu8) rfl isAgg23 sizeOf23 (h_71.ok _ M16) rfl rfl rfl rfl) ?_)))))
 have h_83 := (((((((((((h_71.up J4).up J4).up J4).up J4).up J4).up J6).up J6).up J6).up J6).up J6).up J6).up J6
 refine WL.call Tryz.call31 rfl rfl (c_SetTA id b_15 b_16 ms df hms a_17 n c_18 0 hl la_64 lc_65 lx_66 ([] : Lg) (by first | decide | omega | exact Nat.le_trans (upS_u ..) (by decide)) (by first | decide | omega | exact Nat.le_trans (upS_l ..) (by decide)) b_20 a_21 gn (by omega) (by omega) p (by omega) (by omega) (fillL fd gn (min fn gn)) (fillL_len hfl (Nat.min_le_right ..) (Nat.min_le_left ..)) pg (by omega) xa hxa hwn _ h_83) rfl ?_
 rintro _ w_88 ⟨la_85, lc_86, lx_87, rfl, h_89⟩
 refine qM (.tuple [(.agg ⟨((upS id df n (fillL fd gn (min fn gn)) p pg 0 ([] : Lg) xa 7).2.2).map vu8⟩), (vi 0)].toArray) rfl rfl (qV rfl (R.extract rfl rfl) (qV rfl (R.extract rfl rfl) ?_))
 refine WL.alloc (segs := [(32, (zB 32).map vu8)]) h_89 (zv typeInfo23 rfl) rfl (sC (s8 lr) sN) rfl (fun b_90 w_91 h_92 => ?_)
 refine WL.storeA [] [(32, (zB 32).map vu8)] [(32, ((upS id df n (fillL fd gn (min fn gn)) p pg 0 ([] : Lg) xa 7).2.2).map vu8)] [] h_92 rfl rfl sizeOf23 At.h (by decide) rfl rfl rfl rfl rfl rfl (sC (s8 (upS_len hl okN hxa 7)) sN) (fun w_93 h_94 => ?_)
 refine qA (vi 0) rfl rfl ?_
 refine WL.nil (thn_n (WP.seq (WP.seq (WP.reg ?_))))
 refine qM (vn pg) rfl rfl ?_
 refine WL.call Tryz.call12 rfl rfl (c_mayP_t pg (by omega) _ ) rfl ?_
 rintro _ w_96 ⟨rfl, hc_95⟩
 have h_97 := h_94.same hc_95
 refine qV rfl (R.not (b := true) rfl) (qM (.bool false) rfl rfl ?_)
 refine WL.want rfl rfl ?_
 refine qV rfl (R.fieldAddr (off' := 34) rfl underlying28 rfl sizeOf3 rfl rfl) ?_
 refine WL.want rfl rfl ?_
 refine qV rfl (R.load1 rfl isAgg3 (h_97.ok _ M18) (Sg.t rfl (Sg.t rfl (Sg.t rfl Sg.h)))) ?_
 refine WL.want rfl rfl ?_
 refine qV rfl (R.fieldAddr (off' := 36) rfl underlying28 rfl sizeOf26 rfl rfl) ?_
 refine WL.want rfl rfl ?_
 refine qV rfl (R.load1 rfl isAgg26 (h_97.ok _ M18) (Sg.t rfl (Sg.t rfl (Sg.t rfl (Sg.t rfl (Sg.t rfl Sg.h)))))) ?_
 refine WL.want rfl rfl ?_
 refine WL.call Tryz.call22 rfl rfl (c_rWithin gn (UInt64.ofNat p) (by omega) _ ) rfl ?_
 rintro _ w_99 ⟨rfl, hc_98⟩
 have h_100 := h_97.same hc_98
 refine WL.want rfl rfl ?_
 refine qV rfl (R.not (b := true) (congrArg Value.bool hwn)) (qV rfl (R.pickF (v := (.bool false)) rfl rfl) ?_)
 refine WL.nil (thn_n ?_)
 refine WP.condF rfl ?_
 refine WP.skip (thn_n (WP.seq (WP.reg ?_)))
 refine qM (pO b_19 0) rfl rfl (qM (pO b_22 0) rfl rfl (qV rfl (R.fieldAddr (off' := 36) rfl underlying28 rfl sizeOf26 rfl rfl) (qV rfl (R.load1 rfl isAgg26 (h_100.ok _ M18) (Sg.t rfl (Sg.t rfl (Sg.t rfl (Sg.t rfl (Sg.t rfl Sg.h)))))) (qM (vn pg) rfl rfl (qV rfl (R.loadA [] [(32, xa.map vu8)] [] (cs := xa.map vu8) rfl isAgg23 sizeOf23 (h_100.ok _ M17) rfl rfl rfl rfl) ?_)))))
 have h_106 := (((((h_100.up J13).up J13).up J14).up J13).up J13).up J14
 refine WL.call Tryz.call32 rfl rfl (c_rUp id b_19 ms df hms da0 n cap0 0 hl none 0 [] ([] : Lg) (by first | decide | omega | exact Nat.le_trans (upS_u ..) (by decide)) (by first | decide | omega | exact Nat.le_trans (upS_l ..) (by decide)) b_22 a_23 gn (by omega) (by omega) p (by omega) (fillL fd gn (min fn gn)) (fillL_len hfl (Nat.min_le_right ..) (Nat.min_le_left ..)) pg (by omega) xa hxa _ h_106) rfl ?_
 rintro _ w_112 ⟨a_110, c_111, la_107, lc_108, lx_109, rfl, h_113⟩
 refine qA (.slice a_110 8 c_111) rfl rfl ?_
 refine WL.nil (thn_n (WP.seq (WP.reg ?_)))
 refine qM (.slice a_110 8 c_111) rfl rfl (qM (.slice a_110 8 c_111) rfl rfl (qV rfl (R.lenS (a := a_110) (m := 8) rfl rfl underlying24) (qV rfl (R.bin rfl rfl (bi_sub (c := 7) (by omega) (by omega))) (qV rfl (R.indexS (a := a_110) (i := 7) (off := 224) (xs := (upF (upD id df n (fillL fd gn (min fn gn)) p pg 0 ([] : Lg) xa) 7).map vu8) rfl rfl rfl (by decide) (ownView (h_113.ok _ M0)) (lt_len (K := 32 * 8) (len_map (upF_len (upD_len (id := id) (dn := n) (l := fillL fd gn (min fn gn)) (p := p) (pg := pg) (u := 0) hl okN hxa) 7)) (by omega)) underlying24 sizeOf23 rfl) (qV rfl (R.loadGA (a := a_110) (i := 224) (xs := (upF (upD id df n (fillL fd gn (min fn gn)) p pg 0 ([] : Lg) xa) 7).map vu8) (cs := ((upS id df n (fillL fd gn (min fn gn)) p pg 0 ([] : Lg) xa 7).2.2).map vu8) rfl (ownView (h_113.ok _ M0)) isAgg23 sizeOf23 (by rw [← List.map_drop, ← List.map_take, upF_at (j := 7) (upD_len (id := id) (dn := n) (l := fillL fd gn (min fn gn)) (p := p) (pg := pg) (u := 0) hl okN hxa) (by omega)]; rfl) (len_map (upS_len hl okN hxa 7)) (by decide)) ?_)))))
 refine WL.alloc (segs := [(32, (zB 32).map vu8)]) h_113 (zv typeInfo23 rfl) rfl (sC (s8 lr) sN) rfl (fun b_114 w_115 h_116 => ?_)
 refine WL.storeA [] [(32, (zB 32).map vu8)] [(32, ((upS id df n (fillL fd gn (min fn gn)) p pg 0 ([] : Lg) xa 7).2.2).map vu8)] [] h_116 rfl rfl sizeOf23 At.h (by decide) rfl rfl rfl rfl rfl rfl (sC (s8 (upS_len hl okN hxa 7)) sN) (fun w_117 h_118 => ?_)
 refine WL.nil (thn_n (WP.seq (WP.seq ?_)))
 refine WP.drawT (SL w.heap.size [.blk b_114 .nw 23 [(32, ((upS id df n (fillL fd gn (min fn gn)) p pg 0 ([] : Lg) xa 7).2.2).map vu8)], .row a_110 8 c_111 23 32 ((upF (upD id df n (fillL fd gn (min fn gn)) p pg 0 ([] : Lg) xa) 7).map vu8), .blk b_22 .nw 95 [(1, [(.slice a_23 (128 * gn) (128 * gn))])], .blk b_90 .nw 23 [(32, ((upS id df n (fillL fd gn (min fn gn)) p pg 0 ([] : Lg) xa 7).2.2).map vu8)], .blk b_15 .nw 106 [(1, [(.bool id)]), (32, ms.map vu8), (1, [(.slice a_17 n c_18)]), (1, [(vn ((upS id df n (fillL fd gn (min fn gn)) p pg 0 ([] : Lg) xa 7).1))]), (1, [(.map (some b_16))]), (1, [(.slice la_85 ((upS id df n (fillL fd gn (min fn gn)) p pg 0 ([] : Lg) xa 7).2.1.length) lc_86)])], .row la_85 ((upS id df n (fillL fd gn (min fn gn)) p pg 0 ([] : Lg) xa 7).2.1.length) lc_86 102 67 lx_87, .obj b_16 .nw (.map (mArr ((upS id df n (fillL fd gn (min fn gn)) p pg 0 ([] : Lg) xa 7).2.1)) ((upS id df n (fillL fd gn (min fn gn)) p pg 0 ([] : Lg) xa 7).2.1.length)), .pin (sblks lx_87) (fun w => Lgs w lx_87 ((upS id df n (fillL fd gn (min fn gn)) p pg 0 ([] : Lg) xa 7).2.1)), .view a_17 (df.map vu8), .blk b_20 .nw 112 [(1, [(.slice a_21 gn gn)])], .row a_21 gn gn 76 128 ((upM (fillL fd gn (min fn gn)) p pg (upD id df n (fillL fd gn (min fn gn)) p pg 0 ([] : Lg) xa) 7).map vu8), .blk b_46 .nw 23 [(32, ((upS id df n (fillL fd gn (min fn gn)) p pg 0 ([] : Lg) xa 7).2.2).map vu8)], .view fa (fd.map vu8), .blk b_7 .nw 23 [(32, xb.map vu8)], .blk b_4 .nw 23 [(32, xa.map vu8)], .blk b_1 .nw 28 [(1, [(.bool id)]), (32, ms.map vu8), (1, [(.slice da0 n cap0)]), (1, [(vn gn)]), (1, [(.slice fa fn fc)]), (1, [(vu64 (UInt64.ofNat p))])]]) (.q 0 (.q 1 (.q 2 (.q 3 (.q 4 (.q 5 (.q 6 (.q 7 (.q 8 (.q 9 (.q 10 (.q 11 (.q 13 (.q 16 (.s 12 (.s 14 (.q 15 (.s 17 (.q 18 (.q 19 (.q 20 (.q 21 (.q 22 (.q 23 (.q 24 (.q 25 (.q 26 (.q 27 (.q 28 (.s 29 (.q 30 (.q 31 .nil)))))))))))))))))))))))))))))))) (by kernel_rfl) (by kernel_rfl) rfl (by kernel_rfl) (fun w_119 hc_121 => (SL.cons ((h_118.same hc_121).ok _ M0) (SL.cons ((h_118.same hc_121).ok _ M1) (SL.cons ((h_118.same hc_121).ok _ M6) (SL.cons ((h_118.same hc_121).ok _ M8) (SL.cons ((h_118.same hc_121).ok _ M9) (SL.cons ((h_118.same hc_121).ok _ M10) (SL.cons ((h_118.same hc_121).ok _ M11) (SL.cons ((h_118.same hc_121).ok _ M12) (SL.cons ((h_118.same hc_121).ok _ M13) (SL.cons ((h_118.same hc_121).ok _ M14) (SL.cons ((h_118.same hc_121).ok _ M15) (SL.cons ((h_118.same hc_121).ok _ M16) (SL.cons ((h_118.same hc_121).ok _ M17) (SL.cons ((h_118.same hc_121).ok _ M18) (SL.cons ((h_118.same hc_121).ok _ M19) (SL.cons ((h_118.same hc_121).ok _ M20) (SL.nil _ _)))))))))))))))))) (fun w_119 hc_121 => ?_)
 have h_120 := h_118.same hc_121
 refine qT rfl rfl (fun wq hS => R.loadA [] [(32, ((upS id df n (fillL fd gn (min fn gn)) p pg 0 ([] : Lg) xa 7).2.2).map vu8)] [] (cs := ((upS id df n (fillL fd gn (min fn gn)) p pg 0 ([] : Lg) xa 7).2.2).map vu8) rfl isAgg23 sizeOf23 (hS _ M11) rfl rfl rfl rfl) ?_
 refine qT rfl rfl (fun wq hS => R.loadA [] [(32, ((upS id df n (fillL fd gn (min fn gn)) p pg 0 ([] : Lg) xa 7).2.2).map vu8)] [] (cs := ((upS id df n (fillL fd gn (min fn gn)) p pg 0 ([] : Lg) xa 7).2.2).map vu8) rfl isAgg23 sizeOf23 (hS _ M0) rfl rfl rfl rfl) ?_
 refine qT rfl rfl (fun wq hS => R.neA (xs := ((upS id df n (fillL fd gn (min fn gn)) p pg 0 ([] : Lg) xa 7).2.2).map vu8) (ys := ((upS id df n (fillL fd gn (min fn gn)) p pg 0 ([] : Lg) xa 7).2.2).map vu8) (r := false) rfl rfl eqGuardType23 kt23 (by decide) ag23 (Typ.u8s underlying23 ce23 underlying5 ce5 (upS_len hl okN hxa 7)) (Typ.u8s underlying23 ce23 underlying5 ce5 (upS_len hl okN hxa 7)) (neT rfl)) ?_
 refine qT rfl rfl (fun wq hS => R.move (v := (.bool false)) rfl) ?_
 refine WT.q rfl (Wn.yes rfl rfl rfl) rfl rfl (fun wq hS => R.move (v := (.bool (decide ((upS id df n (fillL fd gn (min fn gn)) p pg 0 ([] : Lg) xa 7).2.2 = xb)))) rfl) ?_
 refine WT.q rfl (Wn.yes rfl rfl rfl) rfl rfl (fun wq hS => R.loadA [] [(32, xb.map vu8)] [] (cs := xb.map vu8) rfl isAgg23 sizeOf23 (hS _ M13) rfl rfl rfl rfl) ?_
 refine WT.q rfl (Wn.yes rfl rfl rfl) rfl rfl (fun wq hS => R.loadA [] [(32, ((upS id df n (fillL fd gn (min fn gn)) p pg 0 ([] : Lg) xa 7).2.2).map vu8)] [] (cs := ((upS id df n (fillL fd gn (min fn gn)) p pg 0 ([] : Lg) xa 7).2.2).map vu8) rfl isAgg23 sizeOf23 (hS _ M0) rfl rfl rfl rfl) ?_
 refine WT.q rfl (Wn.yes rfl rfl rfl) rfl rfl (fun wq hS => R.eqA (xs := xb.map vu8) (ys := ((upS id df n (fillL fd gn (min fn gn)) p pg 0 ([] : Lg) xa 7).2.2).map vu8) (r := decide (xb = (upS id df n (fillL fd gn (min fn gn)) p pg 0 ([] : Lg) xa 7).2.2)) rfl rfl eqGuardType23 kt23 (by decide) ag23 (Typ.u8s underlying23 ce23 underlying5 ce5 hxb) (Typ.u8s underlying23 ce23 underlying5 ce5 (upS_len hl okN hxa 7)) (map_inj_u8.trans (decT _))) ?_
 refine WT.q rfl (Wn.yes rfl rfl rfl) rfl rfl (fun wq hS => R.neB (a := decide ((upS id df n (fillL fd gn (min fn gn)) p pg 0 ([] : Lg) xa 7).2.2 = xb)) (b := decide (xb = (upS id df n (fillL fd gn (min fn gn)) p pg 0 ([] : Lg) xa 7).2.2)) (c := false) rfl rfl underlying4 neB_comm) ?_
 refine qT rfl rfl (fun wq hS => R.pickF (v := (.bool false)) rfl rfl) ?_
 refine qT rfl rfl (fun wq hS => R.move (v := (.bool false)) rfl) ?_
 refine WT.q rfl (Wn.yes rfl rfl rfl) rfl rfl (fun wq hS => R.move (v := (vi 0)) rfl) ?_
 refine WT.q rfl (Wn.yes rfl rfl rfl) rfl rfl (fun wq hS => R.move (v := (vi 0)) rfl) ?_
 refine WT.q rfl (Wn.yes rfl rfl rfl) rfl rfl (fun wq hS => R.move (v := (vi 0)) rfl) ?_
 refine WT.s ?_
 refine Op1.one rfl (Wn.yes rfl rfl rfl) ?_
 refine WL.call Tryz.call17 rfl rfl (c_num15 0 (by omega) _ ) rfl ?_
 rintro _ w_123 ⟨rfl, hc_122⟩
 have h_124 := h_120.same hc_122
 refine WL.nil ?_
 refine ⟨(N0_1_6_8_9_10_11_12_13_14_15_16_17_18_19_20 h_124.ok), ?_⟩
 refine WT.s ?_
 refine Op1.one rfl (Wn.yes rfl rfl rfl) ?_
 refine WL.call Tryz.call17 rfl rfl (c_num15 0 (by omega) _ ) rfl ?_
 rintro _ w_126 ⟨rfl, hc_125⟩
 have h_127 := h_124.same hc_125
 refine WL.nil ?_
 refine ⟨(N0_1_6_8_9_10_11_12_13_14_15_16_17_18_19_20 h_127.ok), ?_⟩
 refine WT.q rfl (Wn.yes rfl rfl rfl) rfl rfl (fun wq hS => R.bin rfl rfl (bi_add (c := 0) (by omega) (by omega))) ?_
 refine WT.s ?_
 refine Op1.one rfl (Wn.yes rfl rfl rfl) ?_
 refine WL.call Tryz.call17 rfl rfl (c_num15 0 (by omega) _ ) rfl ?_
 rintro _ w_129 ⟨rfl, hc_128⟩
 have h_130 := h_127.same hc_128
 refine WL.nil ?_
 refine ⟨(N0_1_6_8_9_10_11_12_13_14_15_16_17_18_19_20 h_130.ok), ?_⟩
 refine WT.q rfl (Wn.yes rfl rfl rfl) rfl rfl (fun wq hS => R.bin rfl rfl (bi_add (c := 0) (by omega) (by omega))) ?_
 refine WT.q rfl (Wn.yes rfl rfl rfl) rfl rfl (fun wq hS => R.bin rfl rfl (bi_neq (r := false) (by decide))) ?_
 refine qT rfl rfl (fun wq hS => R.pickF (v := (.bool false)) rfl rfl) ?_
 refine qT rfl rfl (fun wq hS => R.move (v := (.bool false)) rfl) ?_
 refine WT.q rfl (Wn.yes rfl rfl rfl) rfl rfl (fun wq hS => R.loadA [] [(32, ((upS id df n (fillL fd gn (min fn gn)) p pg 0 ([] : Lg) xa 7).2.2).map vu8)] [] (cs := ((upS id df n (fillL fd gn (min fn gn)) p pg 0 ([] : Lg) xa 7).2.2).map vu8) rfl isAgg23 sizeOf23 (hS _ M3) rfl rfl rfl rfl) ?_
 refine WT.q rfl (Wn.yes rfl rfl rfl) rfl rfl (fun wq hS => R.move (v := (pO b_19 0)) rfl) ?_
 refine WT.q rfl (Wn.yes rfl rfl rfl) rfl rfl (fun wq hS => R.move (v := (pO b_22 0)) rfl) ?_
 refine WT.q rfl (Wn.yes rfl rfl rfl) rfl rfl (fun wq hS => R.fieldAddr (off' := 36) rfl underlying28 rfl sizeOf26 rfl rfl) ?_
 refine WT.q rfl (Wn.yes rfl rfl rfl) rfl rfl (fun wq hS => R.load1 rfl isAgg26 (hS _ M15) (Sg.t rfl (Sg.t rfl (Sg.t rfl (Sg.t rfl (Sg.t rfl Sg.h)))))) ?_
 refine WT.q rfl (Wn.yes rfl rfl rfl) rfl rfl (fun wq hS => R.move (v := (vn pg)) rfl) ?_
 refine WT.q rfl (Wn.yes rfl rfl rfl) rfl rfl (fun wq hS => R.loadA [] [(32, xa.map vu8)] [] (cs := xa.map vu8) rfl isAgg23 sizeOf23 (hS _ M14) rfl rfl rfl rfl) ?_
 refine WT.s ?_
 refine Op1.one rfl (Wn.yes rfl rfl rfl) ?_
 have h_136 := (((((h_130.up J7).up J7).up J7).up J7).up J7).up J7
 refine WL.call Tryz.call33 rfl rfl (c_rSetA id b_19 ms df hms da0 n cap0 0 hl la_107 lc_108 lx_109 ([] : Lg) (by first | decide | omega | exact Nat.le_trans (upS_u ..) (by decide)) (by first | decide | omega | exact Nat.le_trans (upS_l ..) (by decide)) b_22 a_23 gn (by omega) (by omega) p (by omega) (fillL fd gn (min fn gn)) (fillL_len hfl (Nat.min_le_right ..) (Nat.min_le_left ..)) pg (by omega) xa hxa okN _ h_136) rfl ?_
 rintro _ w_140 ⟨la_137, lc_138, lx_139, rfl, h_141⟩
 refine WL.nil ?_
 refine ⟨(SL.cons (h_141.ok _ M6) (SL.cons (h_141.ok _ M7) (SL.cons (h_141.ok _ M4) (SL.cons (h_141.ok _ M8) (SL.cons (h_141.ok _ M9) (SL.cons (h_141.ok _ M10) (SL.cons (h_141.ok _ M11) (SL.cons (h_141.ok _ M12) (SL.cons (h_141.ok _ M13) (SL.cons (h_141.ok _ M14) (SL.cons (h_141.ok _ M15) (SL.cons (h_141.ok _ M16) (SL.cons (h_141.ok _ M17) (SL.cons (h_141.ok _ M18) (SL.cons (h_141.ok _ M19) (SL.cons (h_141.ok _ M20) (SL.nil _ _))))))))))))))))), ?_⟩
 refine WT.q rfl (Wn.yes rfl rfl rfl) rfl rfl (fun wq hS => R.neA (xs := ((upS id df n (fillL fd gn (min fn gn)) p pg 0 ([] : Lg) xa 7).2.2).map vu8) (ys := ((upS id df n (fillL fd gn (min fn gn)) p pg 0 ([] : Lg) xa 7).2.2).map vu8) (r := false) rfl rfl eqGuardType23 kt23 (by decide) ag23 (Typ.u8s underlying23 ce23 underlying5 ce5 (upS_len hl okN hxa 7)) (Typ.u8s underlying23 ce23 underlying5 ce5 (upS_len hl okN hxa 7)) (neT rfl)) ?_
 refine qT rfl rfl (fun wq hS => R.pickF (v := (.bool false)) rfl rfl) ?_
 refine WT.nil (thn_n ?_)
 refine WP.condF rfl ?_
 refine WP.skip (thn_n (WP.seq ?_))
 refine WP.drawT (SL w.heap.size [.blk b_19 .nw 61 [(1, [(.bool id)]), (32, ms.map vu8), (1, [(.slice da0 n cap0)]), (1, [(vn ((upS id df n (fillL fd gn (min fn gn)) p pg 0 ([] : Lg) xa 7).1))]), (1, [(.slice la_137 ((upS id df n (fillL fd gn (min fn gn)) p pg 0 ([] : Lg) xa 7).2.1.length) lc_138)])], .row la_137 ((upS id df n (fillL fd gn (min fn gn)) p pg 0 ([] : Lg) xa 7).2.1.length) lc_138 102 67 lx_139, .pin (sblks lx_139) (fun w => Lgs w lx_139 ((upS id df n (fillL fd gn (min fn gn)) p pg 0 ([] : Lg) xa 7).2.1)), .view da0 (df.map vu8), .blk b_22 .nw 95 [(1, [(.slice a_23 (128 * gn) (128 * gn))])], .row a_23 (128 * gn) (128 * gn) 5 1 ((upM (fillL fd gn (min fn gn)) p pg (upD id df n (fillL fd gn (min fn gn)) p pg 0 ([] : Lg) xa) 7).map vu8), .blk b_114 .nw 23 [(32, ((upS id df n (fillL fd gn (min fn gn)) p pg 0 ([] : Lg) xa 7).2.2).map vu8)], .row a_110 8 c_111 23 32 ((upF (upD id df n (fillL fd gn (min fn gn)) p pg 0 ([] : Lg) xa) 7).map vu8), .blk b_90 .nw 23 [(32, ((upS id df n (fillL fd gn (min fn gn)) p pg 0 ([] : Lg) xa 7).2.2).map vu8)], .blk b_15 .nw 106 [(1, [(.bool id)]), (32, ms.map vu8), (1, [(.slice a_17 n c_18)]), (1, [(vn ((upS id df n (fillL fd gn (min fn gn)) p pg 0 ([] : Lg) xa 7).1))]), (1, [(.map (some b_16))]), (1, [(.slice la_85 ((upS id df n (fillL fd gn (min fn gn)) p pg 0 ([] : Lg) xa 7).2.1.length) lc_86)])], .row la_85 ((upS id df n (fillL fd gn (min fn gn)) p pg 0 ([] : Lg) xa 7).2.1.length) lc_86 102 67 lx_87, .obj b_16 .nw (.map (mArr ((upS id df n (fillL fd gn (min fn gn)) p pg 0 ([] : Lg) xa 7).2.1)) ((upS id df n (fillL fd gn (min fn gn)) p pg 0 ([] : Lg) xa 7).2.1.length)), .pin (sblks lx_87) (fun w => Lgs w lx_87 ((upS id df n (fillL fd gn (min fn gn)) p pg 0 ([] : Lg) xa 7).2.1)), .view a_17 (df.map vu8), .blk b_20 .nw 112 [(1, [(.slice a_21 gn gn)])], .row a_21 gn gn 76 128 ((upM (fillL fd gn (min fn gn)) p pg (upD id df n (fillL fd gn (min fn gn)) p pg 0 ([] : Lg) xa) 7).map vu8), .blk b_46 .nw 23 [(32, ((upS id df n (fillL fd gn (min fn gn)) p pg 0 ([] : Lg) xa 7).2.2).map vu8)], .view fa (fd.map vu8), .blk b_7 .nw 23 [(32, xb.map vu8)], .blk b_4 .nw 23 [(32, xa.map vu8)], .blk b_1 .nw 28 [(1, [(.bool id)]), (32, ms.map vu8), (1, [(.slice da0 n cap0)]), (1, [(vn gn)]), (1, [(.slice fa fn fc)]), (1, [(vu64 (UInt64.ofNat p))])]]) (.q 0 (.q 1 (.s 2 (.q 3 (.q 4 (.q 6 (.q 7 (.q 8 (.q 9 (.s 5 (.s 10 (.q 11 (.q 12 (.s 13 (.q 14 (.q 15 .nil)))))))))))))))) (by kernel_rfl) (by kernel_rfl) rfl (by kernel_rfl) (fun w_142 hc_144 => (SL.cons ((h_141.same hc_144).ok _ M0) (SL.cons ((h_141.same hc_144).ok _ M1) (SL.cons ((h_141.same hc_144).ok _ M2) (SL.cons ((h_141.same hc_144).ok _ M3) (SL.cons ((h_141.same hc_144).ok _ M4) (SL.cons ((h_141.same hc_144).ok _ M5) (SL.cons ((h_141.same hc_144).ok _ M6) (SL.cons ((h_141.same hc_144).ok _ M7) (SL.cons ((h_141.same hc_144).ok _ M8) (SL.cons ((h_141.same hc_144).ok _ M9) (SL.cons ((h_141.same hc_144).ok _ M10) (SL.cons ((h_141.same hc_144).ok _ M11) (SL.cons ((h_141.same hc_144).ok _ M12) (SL.cons ((h_141.same hc_144).ok _ M13) (SL.cons ((h_141.same hc_144).ok _ M14) (SL.cons ((h_141.same hc_144).ok _ M15) (SL.cons ((h_141.same hc_144).ok _ M16) (SL.cons ((h_141.same hc_144).ok _ M17) (SL.cons ((h_141.same hc_144).ok _ M18) (SL.cons ((h_141.same hc_144).ok _ M19) (SL.cons ((h_141.same hc_144).ok _ M20) (SL.nil _ _))))))))))))))))))))))) (fun w_142 hc_144 => ?_)
 have h_143 := h_141.same hc_144
 refine qT rfl rfl (fun wq hS => R.move (v := (pO b_20 0)) rfl) ?_
 refine qT rfl rfl (fun wq hS => R.move (v := (pO b_22 0)) rfl) ?_
 refine WT.s (oN rfl ?_)
 refine WL.call Tryz.call24 rfl rfl (c_sameM b_20 b_22 a_21 a_23 gn (by omega) (by omega) (upM (fillL fd gn (min fn gn)) p pg (upD id df n (fillL fd gn (min fn gn)) p pg 0 ([] : Lg) xa) 7) (upM_len (fillL_len hfl (Nat.min_le_right ..) (Nat.min_le_left ..)) (by omega) (by omega) (upD_len hl okN hxa) 7) _ (h_143.argR M14) (ownView (h_143.ok _ M15)) (h_143.argR M4) (ownView (h_143.ok _ M5))) rfl ?_
 rintro _ w_146 ⟨rfl, hc_145⟩
 have h_147 := h_143.same hc_145
 refine WL.nil ?_
 refine ⟨(SL.cons (h_147.ok _ M0) (SL.cons (h_147.ok _ M1) (SL.cons (h_147.ok _ M2) (SL.cons (h_147.ok _ M3) (SL.cons (h_147.ok _ M4) (SL.cons (h_147.ok _ M5) (SL.cons (h_147.ok _ M6) (SL.cons (h_147.ok _ M7) (SL.cons (h_147.ok _ M8) (SL.cons (h_147.ok _ M9) (SL.cons (h_147.ok _ M10) (SL.cons (h_147.ok _ M11) (SL.cons (h_147.ok _ M12) (SL.cons (h_147.ok _ M13) (SL.cons (h_147.ok _ M14) (SL.cons (h_147.ok _ M15) (SL.cons (h_147.ok _ M16) (SL.cons (h_147.ok _ M17) (SL.cons (h_147.ok _ M18) (SL.cons (h_147.ok _ M19) (SL.cons (h_147.ok _ M20) (SL.nil _ _)))))))))))))))))))))), ?_⟩
 refine qT rfl rfl (fun wq hS => R.move (v := (.bool true)) rfl) ?_
 refine WT.q rfl (Wn.yes rfl rfl rfl) rfl rfl (fun wq hS => R.move (v := (pO b_15 0)) rfl) ?_
 refine WT.q rfl (Wn.yes rfl rfl rfl) rfl rfl (fun wq hS => R.move (v := (pO b_19 0)) rfl) ?_
 refine WT.q rfl (Wn.yes rfl rfl rfl) rfl rfl (fun wq hS => R.nilCheck rfl) ?_
 refine WT.q rfl (Wn.yes rfl rfl rfl) rfl rfl (fun wq hS => R.fieldAddr (off' := 35) rfl underlying61 rfl sizeOf58 rfl rfl) ?_
 refine WT.q rfl (Wn.yes rfl rfl rfl) rfl rfl (fun wq hS => R.load1 rfl isAgg58 (hS _ M0) (Sg.t rfl (Sg.t rfl (Sg.t rfl (Sg.t rfl Sg.h))))) ?_
 refine WT.s ?_
 refine Op1.one rfl (Wn.yes rfl rfl rfl) ?_
 have h_152 := ((((h_147.up J13).up J13).up J13).up J13).up J13
 refine WL.call Tryz.call27 rfl rfl (c_oLog id b_15 b_16 ms df hms a_17 n c_18 ((upS id df n (fillL fd gn (min fn gn)) p pg 0 ([] : Lg) xa 7).1) hl la_85 lc_86 lx_87 ((upS id df n (fillL fd gn (min fn gn)) p pg 0 ([] : Lg) xa 7).2.1) (by first | decide | omega | exact Nat.le_trans (upS_u ..) (by decide)) (by first | decide | omega | exact Nat.le_trans (upS_l ..) (by decide)) _ h_152) rfl ?_
 rintro _ w_156 ⟨a_153, c_154, ys_155, rfl, h_157⟩
 refine WL.nil ?_
 refine ⟨(SL.cons (h_157.ok _ M7) (SL.cons (h_157.ok _ M8) (SL.cons (h_157.ok _ M9) (SL.cons (h_157.ok _ M10) (SL.cons (h_157.ok _ M11) (SL.cons (h_157.ok _ M12) (SL.cons (h_157.ok _ M13) (SL.cons (h_157.ok _ M14) (SL.cons (h_157.ok _ M15) (SL.cons (h_157.ok _ M2) (SL.cons (h_157.ok _ M3) (SL.cons (h_157.ok _ M4) (SL.cons (h_157.ok _ M5) (SL.cons (h_157.ok _ M6) (SL.cons (h_157.ok _ M16) (SL.cons (h_157.ok _ M17) (SL.cons (h_157.ok _ M18) (SL.cons (h_157.ok _ M19) (SL.cons (h_157.ok _ M20) (SL.cons (h_157.ok _ M21) (SL.cons (h_157.ok _ (.tail _ (.tail _ (.tail _ (.tail _ (.tail _ (.tail _ (.tail _ (.tail _ (.tail _ (.tail _ (.tail _ (.tail _ (.tail _ (.tail _ (.tail _ (.tail _ (.tail _ (.tail _ (.tail _ (.tail _ (.tail _ (.tail _ M0))))))))))))))))))))))) (SL.nil _ _)))))))))))))))))))))), ?_⟩
 refine WT.s ?_
 refine Op1.one rfl (Wn.yes rfl rfl rfl) ?_
 refine WL.call Tryz.call26 rfl rfl (c_rSameLog a_153 ((upS id df n (fillL fd gn (min fn gn)) p pg 0 ([] : Lg) xa 7).2.1.length) c_154 ys_155 ((upS id df n (fillL fd gn (min fn gn)) p pg 0 ([] : Lg) xa 7).2.1) rfl (Nat.le_trans (upS_l 7) (by decide)) la_137 lc_138 lx_139 _ (ownView (h_157.ok _ M0)) (h_157.ok _ M1).1 (ownView (h_157.ok _ M8)) (h_157.ok _ M9).1) rfl ?_
 rintro _ w_159 ⟨rfl, hc_158⟩
 have h_160 := h_157.same hc_158
 refine WL.nil ?_
 refine ⟨(SL.cons (h_160.ok _ M7) (SL.cons (h_160.ok _ M8) (SL.cons (h_160.ok _ M9) (SL.cons (h_160.ok _ M10) (SL.cons (h_160.ok _ M11) (SL.cons (h_160.ok _ M12) (SL.cons (h_160.ok _ M13) (SL.cons (h_160.ok _ M14) (SL.cons (h_160.ok _ M15) (SL.cons (h_160.ok _ M2) (SL.cons (h_160.ok _ M3) (SL.cons (h_160.ok _ M4) (SL.cons (h_160.ok _ M5) (SL.cons (h_160.ok _ M6) (SL.cons (h_160.ok _ M16) (SL.cons (h_160.ok _ M17) (SL.cons (h_160.ok _ M18) (SL.cons (h_160.ok _ M19) (SL.cons (h_160.ok _ M20) (SL.cons (h_160.ok _ M21) (SL.cons (h_160.ok _ (.tail _ (.tail _ (.tail _ (.tail _ (.tail _ (.tail _ (.tail _ (.tail _ (.tail _ (.tail _ (.tail _ (.tail _ (.tail _ (.tail _ (.tail _ (.tail _ (.tail _ (.tail _ (.tail _ (.tail _ (.tail _ (.tail _ M0))))))))))))))))))))))) (SL.nil _ _)))))))))))))))))))))), ?_⟩
 refine qT rfl rfl (fun wq hS => R.pickT (v := (.bool true)) rfl (rfl)) ?_
 refine qT rfl rfl (fun wq hS => R.move (v := (.bool true)) rfl) ?_
 refine WT.s ?_
 refine Op1.one rfl (Wn.yes rfl rfl rfl) ?_
 refine WL.call Tryz.call7 rfl rfl (c_known15  _ ) rfl ?_
 rintro _ w_162 ⟨rfl, hc_161⟩
 have h_163 := h_160.same hc_161
 refine WL.nil ?_
 refine ⟨(SL.cons (h_163.ok _ M7) (SL.cons (h_163.ok _ M8) (SL.cons (h_163.ok _ M9) (SL.cons (h_163.ok _ M10) (SL.cons (h_163.ok _ M11) (SL.cons (h_163.ok _ M12) (SL.cons (h_163.ok _ M13) (SL.cons (h_163.ok _ M14) (SL.cons (h_163.ok _ M15) (SL.cons (h_163.ok _ M2) (SL.cons (h_163.ok _ M3) (SL.cons (h_163.ok _ M4) (SL.cons (h_163.ok _ M5) (SL.cons (h_163.ok _ M6) (SL.cons (h_163.ok _ M16) (SL.cons (h_163.ok _ M17) (SL.cons (h_163.ok _ M18) (SL.cons (h_163.ok _ M19) (SL.cons (h_163.ok _ M20) (SL.cons (h_163.ok _ M21) (SL.cons (h_163.ok _ (.tail _ (.tail _ (.tail _ (.tail _ (.tail _ (.tail _ (.tail _ (.tail _ (.tail _ (.tail _ (.tail _ (.tail _ (.tail _ (.tail _ (.tail _ (.tail _ (.tail _ (.tail _ (.tail _ (.tail _ (.tail _ (.tail _ M0))))))))))))))))))))))) (SL.nil _ _)))))))))))))))))))))), ?_⟩
 refine qT rfl rfl (fun wq hS => R.pickT (v := (.bool true)) rfl rfl) ?_
 refine qT rfl rfl (fun wq hS => R.assign (v := (.bool true)) rfl) ?_
 refine WT.nil (thn_n (WP.ret ?_))
 refine ret_of results5 (RV.tmp (v := (.bool true)) rfl RV.nil) ?_
 exact ⟨rfl, h_163.chgS⟩

theorem w_TreeSets (id : Bool) (ms df : List UInt8) (hms : ms.length = 32) (da0 : Option Addr) (n cap0 : Nat) (hl : df.length = 32 * n) (fa : Option Addr) (fn fc : Nat) (fd : List UInt8) (hfl : fd.length = 128 * fn) (nd : UInt64) (xa xb : List UInt8) (hxa : xa.length = 32) (hxb : xb.length = 32) (gn pg : Int) (w : World) (hv : View w da0 (df.map vu8)) (hvf : View w fa (fd.map vu8)) : Cs Tryz.prog 5 [(.agg ⟨flat [(1, [(.bool id)]), (32, ms.map vu8), (1, [(.slice da0 n cap0)]), (1, [(vi gn)]), (1, [(.slice fa fn fc)]), (1, [(vu64 nd)])]⟩), (vi pg), (.agg ⟨xa.map vu8⟩), (.agg ⟨xb.map vu8⟩)].toArray w (fun v w1 => v = (.bool true) ∧ Chg w w1 []) := by
 by_cases hs : n ≤ 700 ∧ 1 ≤ gn ∧ gn ≤ 80 ∧ fn ≤ 80
 ·obtain ⟨gm, rfl⟩ := Int.eq_ofNat_of_zero_le (show 0 ≤ gn by omega)
  have hs2 : n ≤ 700 ∧ 1 ≤ gm ∧ gm ≤ 80 ∧ fn ≤ 80 := by omega
  by_cases hp : 0 ≤ pg ∧ pg < 128
  ·obtain ⟨p, rfl⟩ := Int.eq_ofNat_of_zero_le hp.1
   rcases Bool.eq_false_or_eq_true (wnB gm nd) with hb | hb
   ·obtain ⟨q, rfl, h1, h2⟩ := wnB_at hb (by omega)
    exact w_TS_t id ms df hms da0 n cap0 hl fa fn fc fd hfl xa xb hxa hxb gm hs2 p (by omega) q hb h1 h2 w hv hvf
   ·exact w_TS_w id ms df hms da0 n cap0 hl fa fn fc fd hfl xa xb hxa hxb gm hs2 nd p (by omega) hb w hv hvf
  ·exact w_TS_p id ms df hms da0 n cap0 hl fa fn fc fd hfl xa xb hxa hxb gm hs2 nd pg hp w hv hvf
 ·exact w_TS_no id ms df hms da0 n cap0 hl fa fn fc fd hfl nd xa xb hxa hxb gn hs pg w hv hvf
namespace treeSetsDone
open Go.ChangeShapes Go.WideShapes Go.ChangeAt
theorem own : ownKnob Tryz.prog.godebug = none := by kernel_rfl
theorem laidOut : laidOutB Tryz.prog = true := by kernel_rfl
set_option maxRecDepth 100000 in
theorem lifted (os : Os) (started : os.Started) (H : Type) (enc : TypeId × Value → H) :
  ReturnsInHanded {} Tryz.checked os 5 .any (Rows.treeSetsSpec.pre6 enc Tryz.prog Tryz.f5 Rows.treeSetsRow.domain false) (Rows.treeSetsSpec.post enc Tryz.prog Tryz.f5 false true false false) := by
 refine returnsInHanded_of_change (C := Tryz.checked) own started (by kernel_rfl) Tryz.func5
  (ChangeSpec.witness6 (enc := enc) (C := Tryz.checked) false ⟨#[], #[.agg #[.bool false, .int .u8 0, .int .u8 0, .int .u8 0, .int .u8 0, .int .u8 0, .int .u8 0, .int .u8 0, .int .u8 0, .int .u8 0, .int .u8 0, .int .u8 0, .int .u8 0, .int .u8 0, .int .u8 0, .int .u8 0, .int .u8 0, .int .u8 0, .int .u8 0, .int .u8 0, .int .u8 0, .int .u8 0, .int .u8 0, .int .u8 0, .int .u8 0, .int .u8 0, .int .u8 0, .int .u8 0, .int .u8 0, .int .u8 0, .int .u8 0, .int .u8 0, .int .u8 0, .slice none 0 0, .int .i64 0, .slice none 0 0, .int .u64 0], .int .i64 0, .agg #[.int .u8 0, .int .u8 0, .int .u8 0, .int .u8 0, .int .u8 0, .int .u8 0, .int .u8 0, .int .u8 0, .int .u8 0, .int .u8 0, .int .u8 0, .int .u8 0, .int .u8 0, .int .u8 0, .int .u8 0, .int .u8 0, .int .u8 0, .int .u8 0, .int .u8 0, .int .u8 0, .int .u8 0, .int .u8 0, .int .u8 0, .int .u8 0, .int .u8 0, .int .u8 0, .int .u8 0, .int .u8 0, .int .u8 0, .int .u8 0, .int .u8 0, .int .u8 0], .agg #[.int .u8 0, .int .u8 0, .int .u8 0, .int .u8 0, .int .u8 0, .int .u8 0, .int .u8 0, .int .u8 0, .int .u8 0, .int .u8 0, .int .u8 0, .int .u8 0, .int .u8 0, .int .u8 0, .int .u8 0, .int .u8 0, .int .u8 0, .int .u8 0, .int .u8 0, .int .u8 0, .int .u8 0, .int .u8 0, .int .u8 0, .int .u8 0, .int .u8 0, .int .u8 0, .int .u8 0, .int .u8 0, .int .u8 0, .int .u8 0, .int .u8 0, .int .u8 0]], []⟩ 8 (by kernel_rfl) (by kernel_rfl) (by kernel_rfl) (by kernel_rfl)) ?_
 intro W base args ds gs before hval0 hW hcnd _
 have hval : ∀ (j : Nat) t v, Tryz.f5.params[j]? = some t → args[j]? = some v → Value.okWide Tryz.prog W .any base t v := hval0
 have hW' := hW
 obtain ⟨p, q, hA0, hV, rfl, hfz, hnd⟩ := hW
 have hA : DataW.TrodAll enc Tryz.prog W 0 (fun _ => true) true Tryz.f5.params.toList args.toList ds p := hA0
 rw [Tryz.params5] at hA hval
 obtain ⟨v0, vs0, d0, ds0, p0, q0, hargs, rfl, rfl, h0, r0⟩ := trodAll_cons hA
 obtain ⟨v1, vs1, d1, ds1, p1, q1, rfl, rfl, rfl, h1, r1⟩ := trodAll_cons r0
 obtain ⟨v2, vs2, d2, ds2, p2, q2, rfl, rfl, rfl, h2, r2⟩ := trodAll_cons r1
 obtain ⟨v3, vs3, d3, ds3, p3, q3, rfl, rfl, rfl, h3, r3⟩ := trodAll_cons r2
 obtain ⟨rfl, rfl, rfl⟩ := trodAll_nil r3
 obtain rfl : args = #[v0, v1, v2, v3] := by cases args; simp_all
 obtain ⟨rfl, rfl⟩ := trodVars_none hV
 have lt0 : ∀ x ∈ p0, x.block < W.heap.size := by obtain ⟨m, hm⟩ := h0; exact DataW.trod_lt m _ _ _ hm
 obtain ⟨cs0, rfl⟩ := okWide_agg aggT28 (hval 0 28 v0 rfl rfl)
 have tr0 : Tr Tryz.prog W 28 cs0 := Tr.of h0 rfl
 have tl_x0 := Tr.struct (l := [(1, 4), (32, 23), (1, 24), (1, 3), (1, 25), (1, 26)]) underlying28 ce28 (by kernel_rfl) tr0
 obtain ⟨a_x00, r_x00, rfl, n_x00, t_x00, tl_x00⟩ := tl_x0
 obtain ⟨x00, rfl⟩ := Tr.bool underlying4 t_x00
 obtain ⟨a_x01, r_x01, rfl, n_x01, t_x01, tl_x01⟩ := tl_x00
 obtain ⟨x01, rfl, l_x01⟩ := Tr.arr8 underlying23 ce23 ce5 underlying5 t_x01
 obtain ⟨a_x02, r_x02, rfl, n_x02, t_x02, tl_x02⟩ := tl_x01
 obtain ⟨sa_x02, sn_x02, sc_x02, x02, rfl, l_x02, hc_x02, hm_x02, hv_x02⟩ := Tr.slA8 underlying24 ce23 underlying23 ce5 underlying5 t_x02
 obtain ⟨a_x03, r_x03, rfl, n_x03, t_x03, tl_x03⟩ := tl_x02
 obtain ⟨x03, rfl, b_x03⟩ := Tr.i64 underlying3 t_x03
 obtain ⟨a_x04, r_x04, rfl, n_x04, t_x04, tl_x04⟩ := tl_x03
 obtain ⟨sa_x04, sn_x04, sc_x04, x04, rfl, l_x04, hc_x04, hm_x04, hv_x04⟩ := Tr.slA8 underlying25 ce76 underlying76 ce5 underlying5 t_x04
 obtain ⟨a_x05, r_x05, rfl, n_x05, t_x05, tl_x05⟩ := tl_x04
 obtain ⟨x05, rfl⟩ := Tr.u64 underlying26 t_x05
 obtain rfl := tl_x05
 have lt1 : ∀ x ∈ p1, x.block < W.heap.size := by obtain ⟨m, hm⟩ := h1; exact DataW.trod_lt m _ _ _ hm
 obtain ⟨x1, rfl⟩ := okWide_int underlying3 (hval 1 3 v1 rfl rfl)
 have b_x1 := Tr.i64' underlying3 (Tr.of h1 rfl)
 have lt2 : ∀ x ∈ p2, x.block < W.heap.size := by obtain ⟨m, hm⟩ := h2; exact DataW.trod_lt m _ _ _ hm
 obtain ⟨cs2, rfl⟩ := okWide_agg aggT23 (hval 2 23 v2 rfl rfl)
 have tr2 : Tr Tryz.prog W 23 cs2 := Tr.of h2 rfl
 obtain ⟨x2, rfl, l_x2⟩ := Tr.arr8 underlying23 ce23 ce5 underlying5 tr2
 have lt3 : ∀ x ∈ p3, x.block < W.heap.size := by obtain ⟨m, hm⟩ := h3; exact DataW.trod_lt m _ _ _ hm
 obtain ⟨cs3, rfl⟩ := okWide_agg aggT23 (hval 3 23 v3 rfl rfl)
 have tr3 : Tr Tryz.prog W 23 cs3 := Tr.of h3 rfl
 obtain ⟨x3, rfl, l_x3⟩ := Tr.arr8 underlying23 ce23 ce5 underlying5 tr3
 clear hA0 hval0
 have hw : Cs Tryz.prog 5 [(.agg ⟨flat [(1, [(.bool x00)]), (32, x01.map vu8), (1, [(.slice sa_x02 sn_x02 sc_x02)]), (1, [(vi x03)]), (1, [(.slice sa_x04 sn_x04 sc_x04)]), (1, [(vu64 x05)])]⟩), (vi x1), (.agg ⟨x2.map vu8⟩), (.agg ⟨x3.map vu8⟩)].toArray W (fun v w1 => v = .bool true ∧ Chg W w1 []) := w_TreeSets x00 x01 x02 l_x01 sa_x02 sn_x02 sc_x02 l_x02 sa_x04 sn_x04 sc_x04 x04 l_x04 x05 x2 x3 l_x2 l_x3 x03 x1 W hv_x02.1 hv_x04.1
 have ea : ([(.agg ⟨flat [(1, [(.bool x00)]), (32, x01.map vu8), (1, [(.slice sa_x02 sn_x02 sc_x02)]), (1, [(vi x03)]), (1, [(.slice sa_x04 sn_x04 sc_x04)]), (1, [(vu64 x05)])]⟩), (vi x1), (.agg ⟨x2.map vu8⟩), (.agg ⟨x3.map vu8⟩)] : List Value).toArray = (#[.agg ⟨([.bool x00] ++ (x01.map vu8 ++ ([.slice sa_x02 sn_x02 sc_x02] ++ ([vi x03] ++ ([.slice sa_x04 sn_x04 sc_x04] ++ ([vu64 x05] ++ []))))))⟩, (vi x1), .agg ⟨x2.map vu8⟩, .agg ⟨x3.map vu8⟩] : Array Value) := by simp [flat]
 rw [ea] at hw
 refine Calls.mono (Cs.below hw) fun e W' ⟨he, bel⟩ => ?_
 subst he
 exact ⟨_, rfl, _, _, _, [], _, [], hW', trodAll_mk1 (shut_bool underlying4 _), (trodAll_cons_mk (Below.trod laidOut (by kernel_rfl) (of_decide_eq_true (by kernel_rfl)) h0 bel lt0) (trodAll_cons_mk (Below.trod laidOut (by kernel_rfl) (of_decide_eq_true (by kernel_rfl)) h1 bel lt1) (trodAll_cons_mk (Below.trod laidOut (by kernel_rfl) (of_decide_eq_true (by kernel_rfl)) h2 bel lt2) (trodAll_cons_mk (Below.trod laidOut (by kernel_rfl) (of_decide_eq_true (by kernel_rfl)) h3 bel lt3) trodAll_mk0)))), rfl, bel.frame _, fun h => by cases h⟩
theorem over : Rows.treeSetsRow.holds Tryz.pinned (OpenSpec.ofChange Rows.treeSetsSpec) :=
 OpenClaim.holds_of_wide 5 Tryz.f5 rfl rfl rfl rfl rfl rfl rfl ⟨rfl, rfl, rfl, rfl, rfl⟩ rfl rfl rfl rfl rfl (by kernel_rfl) Tryz.func5 (by kernel_rfl)
  (of_decide_eq_true (by kernel_rfl)) (by unfold Func.isWrapper; first | (rw [if_pos (by decide +kernel)]; kernel_rfl) | (rw [if_neg (by decide +kernel)]; exact ⟨rfl, rfl⟩))
  (fun os started H enc _ => lifted os started H enc)
theorem proved : Rows.TreeSetsSaid := over
end treeSetsDone
end Go.Proofs.YtbhllplbbkmndaaGreat
