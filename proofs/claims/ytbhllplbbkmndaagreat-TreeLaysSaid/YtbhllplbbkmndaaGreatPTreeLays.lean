/- TreeLays holds of every input. Conditions: none. -/
import Derived.Test.YtbhllplbbkmndaaGreatZ6TreeLays
set_option linter.unusedVariables false
set_option linter.unusedSimpArgs false
set_option linter.unusedSectionVars false
namespace Go.Proofs.YtbhllplbbkmndaaGreat
open Go.Proofs.Tryz
open Go.Vc Go.Orc Go.Sh Go.RowKit
set_option linter.unusedVariables false
set_option linter.unusedSimpArgs false
set_option maxRecDepth 20000
theorem aggT28 : aggB Tryz.prog 28 = true := by unfold aggB; rw [underlying28]
theorem ce28 : Tryz.prog.cellsOf 28 = 37 := by kernel_rfl
theorem ce76 : Tryz.prog.cellsOf 76 = 128 := by kernel_rfl
theorem w_TL_no (id : Bool) (ms df : List UInt8) (hms : ms.length = 32) (da0 : Option Addr) (n cap0 : Nat) (hl : df.length = 32 * n) (fa : Option Addr) (fn fc : Nat) (fd : List UInt8) (hfl : fd.length = 128 * fn) (nd : UInt64) (gn : Int) (hs : ¬ (n ≤ 700 ∧ 1 ≤ gn ∧ gn ≤ 80 ∧ fn ≤ 80)) (i : Int) (w : World) (hv : View w da0 (df.map vu8)) (hvf : View w fa (fd.map vu8)) :
  Cs Tryz.prog 4 [(.agg ⟨flat [(1, [(.bool id)]), (32, ms.map vu8), (1, [(.slice da0 n cap0)]), (1, [(vi gn)]), (1, [(.slice fa fn fc)]), (1, [(vu64 nd)])]⟩), (vi i)].toArray w (fun v w1 => v = (.bool true) ∧ Chg w w1 []) := by
 refine Cs.of (n := 150) (args := [(.agg ⟨flat [(1, [(.bool id)]), (32, ms.map vu8), (1, [(.slice da0 n cap0)]), (1, [(vi gn)]), (1, [(.slice fa fn fc)]), (1, [(vu64 nd)])]⟩), (vi i)]) Tryz.func4 rfl rfl rfl ?_
 have h_0 := HP.init w
 have h_01 := h_0.oldV (View.arg hv) rfl (by simp [Ent.mut])
 have h_00 := h_01.oldV (View.arg hvf) rfl (by simp [Ent.mut])
 refine WP.seq (WP.reg ?_)
 refine WL.box (segs := [(1, [(.bool id)]), (32, ms.map vu8), (1, [(.slice da0 n cap0)]), (1, [(vi gn)]), (1, [(.slice fa fn fc)]), (1, [(vu64 nd)])]) h_00 rfl rfl (sC sV (sC (s8 hms) (sC sV (sC sV (sC sV (sC sV sN)))))) rfl (fun b_1 w_2 h_3 => ?_)
 refine qA (.bool false) rfl rfl ?_
 refine WL.nil (thn_n (WP.seq (WP.seq (WP.reg ?_))))
 refine qV rfl (R.loadA [] [(1, [(.bool id)]), (32, ms.map vu8), (1, [(.slice da0 n cap0)]), (1, [(vi gn)]), (1, [(.slice fa fn fc)]), (1, [(vu64 nd)])] [] rfl isAgg28 sizeOf28 (h_3.ok _ M0) rfl rfl rfl rfl) ?_
 refine WL.call Tryz.call6 rfl rfl (c_small_f id ms df hms da0 n cap0 hl fa fn fc fd hfl nd gn hs _ ) rfl ?_
 rintro _ w_5 ⟨rfl, hc_4⟩
 have h_6 := h_3.same hc_4
 refine qV rfl (R.not (b := false) rfl) ?_
 refine WL.nil (thn_n ?_)
 refine WP.condT rfl ?_
 refine WP.seq (WP.reg ?_)
 refine WL.call Tryz.call7 rfl rfl (c_known15  _ ) rfl ?_
 rintro _ w_8 ⟨rfl, hc_7⟩
 have h_9 := h_6.same hc_7
 refine qA (.bool true) rfl rfl ?_
 refine WL.nil (thn_n (WP.ret (thn_r ?_)))
 refine ret_of results4 (RV.tmp (v := (.bool true)) rfl RV.nil) ?_
 exact ⟨rfl, h_9.chgS⟩

theorem w_TL_w (id : Bool) (ms df : List UInt8) (hms : ms.length = 32) (da0 : Option Addr) (n cap0 : Nat) (hl : df.length = 32 * n) (fa : Option Addr) (fn fc : Nat) (fd : List UInt8) (hfl : fd.length = 128 * fn) (gn : Nat) (hs : n ≤ 700 ∧ 1 ≤ gn ∧ gn ≤ 80 ∧ fn ≤ 80) (nd : UInt64) (hwn : wnB gn nd = false) (i : Int) (w : World) (hv : View w da0 (df.map vu8)) (hvf : View w fa (fd.map vu8)) :
  Cs Tryz.prog 4 [(.agg ⟨flat [(1, [(.bool id)]), (32, ms.map vu8), (1, [(.slice da0 n cap0)]), (1, [(vi ((gn : Nat) : Int))]), (1, [(.slice fa fn fc)]), (1, [(vu64 nd)])]⟩), (vi i)].toArray w (fun v w1 => v = (.bool true) ∧ Chg w w1 []) := by
 refine Cs.of (n := 150) (args := [(.agg ⟨flat [(1, [(.bool id)]), (32, ms.map vu8), (1, [(.slice da0 n cap0)]), (1, [(vn gn)]), (1, [(.slice fa fn fc)]), (1, [(vu64 nd)])]⟩), (vi i)]) Tryz.func4 rfl rfl rfl ?_
 have h_0 := HP.init w
 have h_01 := h_0.oldV (View.arg hv) rfl (by simp [Ent.mut])
 have h_00 := h_01.oldV (View.arg hvf) rfl (by simp [Ent.mut])
 refine WP.seq (WP.reg ?_)
 refine WL.box (segs := [(1, [(.bool id)]), (32, ms.map vu8), (1, [(.slice da0 n cap0)]), (1, [(vn gn)]), (1, [(.slice fa fn fc)]), (1, [(vu64 nd)])]) h_00 rfl rfl (sC sV (sC (s8 hms) (sC sV (sC sV (sC sV (sC sV sN)))))) rfl (fun b_1 w_2 h_3 => ?_)
 refine qA (.bool false) rfl rfl ?_
 refine WL.nil (thn_n (WP.seq (WP.seq (WP.reg ?_))))
 refine qV rfl (R.loadA [] [(1, [(.bool id)]), (32, ms.map vu8), (1, [(.slice da0 n cap0)]), (1, [(vn gn)]), (1, [(.slice fa fn fc)]), (1, [(vu64 nd)])] [] rfl isAgg28 sizeOf28 (h_3.ok _ M0) rfl rfl rfl rfl) ?_
 refine WL.call Tryz.call6 rfl rfl (c_small_t id ms df hms da0 n cap0 hl fa fn fc fd hfl nd gn hs _ ) rfl ?_
 rintro _ w_5 ⟨rfl, hc_4⟩
 have h_6 := h_3.same hc_4
 refine qV rfl (R.not (b := true) rfl) ?_
 refine WL.nil (thn_n ?_)
 refine WP.condF rfl ?_
 refine WP.skip (thn_n (WP.seq (WP.reg ?_)))
 refine qV rfl (R.loadA [] [(1, [(.bool id)]), (32, ms.map vu8), (1, [(.slice da0 n cap0)]), (1, [(vn gn)]), (1, [(.slice fa fn fc)]), (1, [(vu64 nd)])] [] rfl isAgg28 sizeOf28 (h_6.ok _ M0) rfl rfl rfl rfl) ?_
 have h_8 := (h_6.up J1).up J2
 refine WL.call Tryz.call8 rfl rfl (c_two id ms df hms da0 n cap0 hl fa fn fc fd hfl nd gn hs _ h_8) rfl ?_
 rintro _ w_18 ⟨b_9, b_10, a_11, c_12, b_13, b_14, a_15, b_16, a_17, rfl, h_19⟩
 have h_20 := h_19.rowNil 102 67
 have h_21 := HP_logNil h_20
 refine qM (.tuple [(pO b_9 0), (pO b_14 0), (pO b_13 0), (pO b_16 0), (.bool true)].toArray) rfl rfl (qV rfl (R.extract rfl rfl) (qV rfl (R.extract rfl rfl) (qV rfl (R.extract rfl rfl) (qV rfl (R.extract rfl rfl) (qV rfl (R.extract rfl rfl) (qA (pO b_9 0) rfl rfl (qA (pO b_14 0) rfl rfl (qA (pO b_13 0) rfl rfl (qA (pO b_16 0) rfl rfl (qA (.bool true) rfl rfl ?_))))))))))
 refine WL.nil (thn_n (WP.seq (WP.seq (WP.reg ?_))))
 refine qM (.bool true) rfl rfl (qV rfl (R.not (b := true) rfl) ?_)
 refine WL.nil (thn_n ?_)
 refine WP.condF rfl ?_
 refine WP.skip (thn_n (WP.seq (WP.reg ?_)))
 refine qM (pO b_9 0) rfl rfl (qM (pO b_14 0) rfl rfl (qV rfl (R.fieldAddr (off' := 36) rfl underlying28 rfl sizeOf26 rfl rfl) (qV rfl (R.load1 rfl isAgg26 (h_21.ok _ M14) (Sg.t rfl (Sg.t rfl (Sg.t rfl (Sg.t rfl (Sg.t rfl Sg.h)))))) ?_)))
 refine WL.call Tryz.call20 rfl rfl (c_LayW id b_9 b_10 ms hms a_11 n c_12 0 none 0 0 b_14 a_15 gn (by omega) (by omega) nd hwn _ (h_21.argR M2) (h_21.argR M8)) rfl ?_
 rintro _ w_23 ⟨rfl, hc_22⟩
 have h_24 := h_21.same hc_22
 refine qM (.tuple [(.agg ⟨(zB 32).map vu8⟩), (vi 2)].toArray) rfl rfl (qV rfl (R.extract rfl rfl) (qV rfl (R.extract rfl rfl) ?_))
 refine WL.alloc (segs := [(32, (zB 32).map vu8)]) h_24 (zv typeInfo23 rfl) rfl (sC (s8 lr) sN) rfl (fun b_25 w_26 h_27 => ?_)
 refine WL.storeA [] [(32, (zB 32).map vu8)] [(32, (zB 32).map vu8)] [] h_27 rfl rfl sizeOf23 At.h (by decide) rfl rfl rfl rfl rfl rfl (sC (s8 lr) sN) (fun w_28 h_29 => ?_)
 refine qA (vi 2) rfl rfl ?_
 refine WL.nil (thn_n (WP.seq (WP.reg ?_)))
 refine qM (pO b_14 0) rfl rfl (qV rfl (R.fieldAddr (off' := 36) rfl underlying28 rfl sizeOf26 rfl rfl) (qV rfl (R.load1 rfl isAgg26 (h_29.ok _ M15) (Sg.t rfl (Sg.t rfl (Sg.t rfl (Sg.t rfl (Sg.t rfl Sg.h)))))) (qM (vi i) rfl rfl ?_)))
 refine WL.call Tryz.call21 rfl rfl (c_AtW b_14 a_15 gn (by omega) (by omega) nd hwn i _ (h_29.argR M9)) rfl ?_
 rintro _ w_31 ⟨rfl, hc_30⟩
 have h_32 := h_29.same hc_30
 refine qM (.tuple [(.agg ⟨(zB 32).map vu8⟩), (vi 2)].toArray) rfl rfl (qV rfl (R.extract rfl rfl) (qV rfl (R.extract rfl rfl) ?_))
 refine WL.alloc (segs := [(32, (zB 32).map vu8)]) h_32 (zv typeInfo23 rfl) rfl (sC (s8 lr) sN) rfl (fun b_33 w_34 h_35 => ?_)
 refine WL.storeA [] [(32, (zB 32).map vu8)] [(32, (zB 32).map vu8)] [] h_35 rfl rfl sizeOf23 At.h (by decide) rfl rfl rfl rfl rfl rfl (sC (s8 lr) sN) (fun w_36 h_37 => ?_)
 refine qA (vi 2) rfl rfl ?_
 refine WL.nil (thn_n (WP.seq (WP.seq (WP.reg ?_))))
 refine qV rfl (R.fieldAddr (off' := 34) rfl underlying28 rfl sizeOf3 rfl rfl) (qV rfl (R.load1 rfl isAgg3 (h_37.ok _ M16) (Sg.t rfl (Sg.t rfl (Sg.t rfl Sg.h)))) (qV rfl (R.fieldAddr (off' := 36) rfl underlying28 rfl sizeOf26 rfl rfl) (qV rfl (R.load1 rfl isAgg26 (h_37.ok _ M16) (Sg.t rfl (Sg.t rfl (Sg.t rfl (Sg.t rfl (Sg.t rfl Sg.h)))))) ?_)))
 refine WL.call Tryz.call22 rfl rfl (c_rWithin gn nd (by omega) _ ) rfl ?_
 rintro _ w_39 ⟨rfl, hc_38⟩
 have h_40 := h_37.same hc_38
 refine qV rfl (R.not (b := false) (congrArg Value.bool hwn)) ?_
 refine WL.nil (thn_n ?_)
 refine WP.condT rfl ?_
 refine WP.seq (WP.reg ?_)
 refine qM (pO b_14 0) rfl rfl (qV rfl (R.fieldAddr (off' := 36) rfl underlying28 rfl sizeOf26 rfl rfl) (qV rfl (R.load1 rfl isAgg26 (h_40.ok _ M16) (Sg.t rfl (Sg.t rfl (Sg.t rfl (Sg.t rfl (Sg.t rfl Sg.h)))))) ?_))
 refine WL.call Tryz.call23 rfl rfl (c_WithinB b_14 a_15 gn nd (by omega) _ (h_40.argR M10)) rfl ?_
 rintro _ w_42 ⟨rfl, hc_41⟩
 have h_43 := h_40.same hc_41
 refine qV rfl (R.not (b := false) (congrArg Value.bool hwn)) (qM (.bool true) rfl rfl ?_)
 refine WL.want rfl rfl ?_
 refine qV rfl (R.loadA [] [(32, (zB 32).map vu8)] [] (cs := (zB 32).map vu8) rfl isAgg23 sizeOf23 (h_43.ok _ M1) rfl rfl rfl rfl) ?_
 refine WL.want rfl rfl ?_
 refine qV rfl (R.buildA (vs := []) (cs := (zB 32).map vu8) underlying23 sizeOf5 (zv typeInfo23 rfl) rfl rfl) ?_
 refine WL.want rfl rfl ?_
 refine qV rfl (R.eqA (xs := (zB 32).map vu8) (ys := (zB 32).map vu8) (r := true) rfl rfl eqGuardType23 kt23 (by decide) ag23 (Typ.u8s underlying23 ce23 underlying5 ce5 lr) (Typ.u8s underlying23 ce23 underlying5 ce5 lr) (eqT rfl)) (qV rfl (R.pickT (v := (.bool true)) rfl rfl) (qM (.bool true) rfl rfl ?_))
 refine WL.want rfl rfl ?_
 refine qV rfl (R.loadA [] [(32, (zB 32).map vu8)] [] (cs := (zB 32).map vu8) rfl isAgg23 sizeOf23 (h_43.ok _ M0) rfl rfl rfl rfl) ?_
 refine WL.want rfl rfl ?_
 refine qV rfl (R.loadA [] [(32, (zB 32).map vu8)] [] (cs := (zB 32).map vu8) rfl isAgg23 sizeOf23 (h_43.ok _ M1) rfl rfl rfl rfl) ?_
 refine WL.want rfl rfl ?_
 refine qV rfl (R.eqA (xs := (zB 32).map vu8) (ys := (zB 32).map vu8) (r := true) rfl rfl eqGuardType23 kt23 (by decide) ag23 (Typ.u8s underlying23 ce23 underlying5 ce5 lr) (Typ.u8s underlying23 ce23 underlying5 ce5 lr) (eqT rfl)) (qV rfl (R.pickT (v := (.bool true)) rfl rfl) (qM (.bool true) rfl rfl ?_))
 refine WL.want rfl rfl ?_
 refine qM (vi 2) rfl rfl ?_
 refine WL.want rfl rfl ?_
 refine WL.call Tryz.call17 rfl rfl (c_num15 2 (by omega) _ ) rfl ?_
 rintro _ w_45 ⟨rfl, hc_44⟩
 have h_46 := h_43.same hc_44
 refine WL.want rfl rfl ?_
 refine qV rfl (R.bin rfl rfl (bi_eql (r := true) (by decide))) (qV rfl (R.pickT (v := (.bool true)) rfl rfl) (qM (.bool true) rfl rfl ?_))
 refine WL.want rfl rfl ?_
 refine qM (vi 2) rfl rfl ?_
 refine WL.want rfl rfl ?_
 refine WL.call Tryz.call17 rfl rfl (c_num15 2 (by omega) _ ) rfl ?_
 rintro _ w_48 ⟨rfl, hc_47⟩
 have h_49 := h_46.same hc_47
 refine WL.want rfl rfl ?_
 refine qV rfl (R.bin rfl rfl (bi_eql (r := true) (by decide))) (qV rfl (R.pickT (v := (.bool true)) rfl rfl) (qM (.bool true) rfl rfl ?_))
 refine WL.want rfl rfl ?_
 refine qM (pO b_14 0) rfl rfl ?_
 refine WL.want rfl rfl ?_
 refine qM (pO b_16 0) rfl rfl ?_
 refine WL.want rfl rfl ?_
 refine WL.call Tryz.call24 rfl rfl (c_sameM b_14 b_16 a_15 a_17 gn (by omega) (by omega) (fillL fd gn (min fn gn)) (fillL_len hfl (Nat.min_le_right ..) (Nat.min_le_left ..)) _ (h_49.argR M10) (ownView (h_49.ok _ M11)) (h_49.argR M12) (ownView (h_49.ok _ M13))) rfl ?_
 rintro _ w_51 ⟨rfl, hc_50⟩
 have h_52 := h_49.same hc_50
 refine qV rfl (R.pickT (v := (.bool true)) rfl rfl) (qM (.bool true) rfl rfl ?_)
 refine WL.want rfl rfl ?_
 refine WL.call Tryz.call7 rfl rfl (c_known15  _ ) rfl ?_
 rintro _ w_54 ⟨rfl, hc_53⟩
 have h_55 := h_52.same hc_53
 refine qV rfl (R.pickT (v := (.bool true)) rfl rfl) (qA (.bool true) rfl rfl ?_)
 refine WL.nil (thn_n (WP.ret (thn_r ?_)))
 refine ret_of results4 (RV.tmp (v := (.bool true)) rfl RV.nil) ?_
 exact ⟨rfl, h_55.chgS⟩

theorem w_TL_lo (id : Bool) (ms df : List UInt8) (hms : ms.length = 32) (da0 : Option Addr) (n cap0 : Nat) (hl : df.length = 32 * n) (fa : Option Addr) (fn fc : Nat) (fd : List UInt8) (hfl : fd.length = 128 * fn) (gn : Nat) (hs : n ≤ 700 ∧ 1 ≤ gn ∧ gn ≤ 80 ∧ fn ≤ 80) (p : Nat) (hwn : wnB gn (UInt64.ofNat p) = true) (hp : p % 128 = 0) (hw : p + 8192 ≤ 128 * gn) (s6 : Nat) (hs6 : s6 = 126) (i : Int) (hi : i < 2) (w : World) (hv : View w da0 (df.map vu8)) (hvf : View w fa (fd.map vu8)) :
  Cs Tryz.prog 4 [(.agg ⟨flat [(1, [(.bool id)]), (32, ms.map vu8), (1, [(.slice da0 n cap0)]), (1, [(vi ((gn : Nat) : Int))]), (1, [(.slice fa fn fc)]), (1, [(vu64 (UInt64.ofNat p))])]⟩), (vi i)].toArray w (fun v w1 => v = (.bool true) ∧ Chg w w1 []) := by
 refine Cs.of (n := 150) (args := [(.agg ⟨flat [(1, [(.bool id)]), (32, ms.map vu8), (1, [(.slice da0 n cap0)]), (1, [(vn gn)]), (1, [(.slice fa fn fc)]), (1, [(vu64 (UInt64.ofNat p))])]⟩), (vi i)]) Tryz.func4 rfl rfl rfl ?_
 have h_0 := HP.init w
 have h_01 := h_0.oldV (View.arg hv) rfl (by simp [Ent.mut])
 have h_00 := h_01.oldV (View.arg hvf) rfl (by simp [Ent.mut])
 refine WP.seq (WP.reg ?_)
 refine WL.box (segs := [(1, [(.bool id)]), (32, ms.map vu8), (1, [(.slice da0 n cap0)]), (1, [(vn gn)]), (1, [(.slice fa fn fc)]), (1, [(vu64 (UInt64.ofNat p))])]) h_00 rfl rfl (sC sV (sC (s8 hms) (sC sV (sC sV (sC sV (sC sV sN)))))) rfl (fun b_1 w_2 h_3 => ?_)
 refine qA (.bool false) rfl rfl ?_
 refine WL.nil (thn_n (WP.seq (WP.seq (WP.reg ?_))))
 refine qV rfl (R.loadA [] [(1, [(.bool id)]), (32, ms.map vu8), (1, [(.slice da0 n cap0)]), (1, [(vn gn)]), (1, [(.slice fa fn fc)]), (1, [(vu64 (UInt64.ofNat p))])] [] rfl isAgg28 sizeOf28 (h_3.ok _ M0) rfl rfl rfl rfl) ?_
 refine WL.call Tryz.call6 rfl rfl (c_small_t id ms df hms da0 n cap0 hl fa fn fc fd hfl (UInt64.ofNat p) gn hs _ ) rfl ?_
 rintro _ w_5 ⟨rfl, hc_4⟩
 have h_6 := h_3.same hc_4
 refine qV rfl (R.not (b := true) rfl) ?_
 refine WL.nil (thn_n ?_)
 refine WP.condF rfl ?_
 refine WP.skip (thn_n (WP.seq (WP.reg ?_)))
 refine qV rfl (R.loadA [] [(1, [(.bool id)]), (32, ms.map vu8), (1, [(.slice da0 n cap0)]), (1, [(vn gn)]), (1, [(.slice fa fn fc)]), (1, [(vu64 (UInt64.ofNat p))])] [] rfl isAgg28 sizeOf28 (h_6.ok _ M0) rfl rfl rfl rfl) ?_
 have h_8 := (h_6.up J1).up J2
 refine WL.call Tryz.call8 rfl rfl (c_two id ms df hms da0 n cap0 hl fa fn fc fd hfl (UInt64.ofNat p) gn hs _ h_8) rfl ?_
 rintro _ w_18 ⟨b_9, b_10, a_11, c_12, b_13, b_14, a_15, b_16, a_17, rfl, h_19⟩
 have h_20 := h_19.rowNil 102 67
 have h_21 := HP_logNil h_20
 refine qM (.tuple [(pO b_9 0), (pO b_14 0), (pO b_13 0), (pO b_16 0), (.bool true)].toArray) rfl rfl (qV rfl (R.extract rfl rfl) (qV rfl (R.extract rfl rfl) (qV rfl (R.extract rfl rfl) (qV rfl (R.extract rfl rfl) (qV rfl (R.extract rfl rfl) (qA (pO b_9 0) rfl rfl (qA (pO b_14 0) rfl rfl (qA (pO b_13 0) rfl rfl (qA (pO b_16 0) rfl rfl (qA (.bool true) rfl rfl ?_))))))))))
 refine WL.nil (thn_n (WP.seq (WP.seq (WP.reg ?_))))
 refine qM (.bool true) rfl rfl (qV rfl (R.not (b := true) rfl) ?_)
 refine WL.nil (thn_n ?_)
 refine WP.condF rfl ?_
 refine WP.skip (thn_n (WP.seq (WP.reg ?_)))
 refine qM (pO b_9 0) rfl rfl (qM (pO b_14 0) rfl rfl (qV rfl (R.fieldAddr (off' := 36) rfl underlying28 rfl sizeOf26 rfl rfl) (qV rfl (R.load1 rfl isAgg26 (h_21.ok _ M14) (Sg.t rfl (Sg.t rfl (Sg.t rfl (Sg.t rfl (Sg.t rfl Sg.h)))))) ?_)))
 have h_33 := (((((((((((h_21.up J6).up J1).up J5).up J3).up J4).up J9).up J9).up J6).up J6).up J6).up J6).up J6
 refine WL.call Tryz.call20 rfl rfl (c_LayT id b_9 b_10 ms df hms a_11 n c_12 0 hl none 0 [] ([] : Lg) (by first | decide | omega | exact Nat.le_trans (laC_u ..) (by omega)) (by first | decide | omega | exact Nat.le_trans (laC_l ..) (by simp only [List.length_nil]; omega)) b_14 a_15 gn (by omega) (by omega) p (by omega) (by omega) (fillL fd gn (min fn gn)) (fillL_len hfl (Nat.min_le_right ..) (Nat.min_le_left ..)) hwn s6 hs6 _ h_33) rfl ?_
 rintro _ w_37 ⟨la_34, lc_35, lx_36, rfl, h_38⟩
 refine qM (.tuple [(.agg ⟨((laC id df n 0 ([] : Lg) (s6 + 1)).2.2.take 32).map vu8⟩), (vi 0)].toArray) rfl rfl (qV rfl (R.extract rfl rfl) (qV rfl (R.extract rfl rfl) ?_))
 refine WL.alloc (segs := [(32, (zB 32).map vu8)]) h_38 (zv typeInfo23 rfl) rfl (sC (s8 lr) sN) rfl (fun b_39 w_40 h_41 => ?_)
 refine WL.storeA [] [(32, (zB 32).map vu8)] [(32, ((laC id df n 0 ([] : Lg) (s6 + 1)).2.2.take 32).map vu8)] [] h_41 rfl rfl sizeOf23 At.h (by decide) rfl rfl rfl rfl rfl rfl (sC (s8 (by rw [List.length_take, laC_len hl okN]; omega)) sN) (fun w_42 h_43 => ?_)
 refine qA (vi 0) rfl rfl ?_
 refine WL.nil (thn_n (WP.seq (WP.reg ?_)))
 refine qM (pO b_14 0) rfl rfl (qV rfl (R.fieldAddr (off' := 36) rfl underlying28 rfl sizeOf26 rfl rfl) (qV rfl (R.load1 rfl isAgg26 (h_43.ok _ M15) (Sg.t rfl (Sg.t rfl (Sg.t rfl (Sg.t rfl (Sg.t rfl Sg.h)))))) (qM (vi i) rfl rfl ?_)))
 refine WL.call Tryz.call21 rfl rfl (c_Atlo b_14 a_15 gn (by omega) (by omega) (UInt64.ofNat p) hwn i hi _ (h_43.argR M6)) rfl ?_
 rintro _ w_45 ⟨rfl, hc_44⟩
 have h_46 := h_43.same hc_44
 refine qM (.tuple [(.agg ⟨(zB 32).map vu8⟩), (vi 2)].toArray) rfl rfl (qV rfl (R.extract rfl rfl) (qV rfl (R.extract rfl rfl) ?_))
 refine WL.alloc (segs := [(32, (zB 32).map vu8)]) h_46 (zv typeInfo23 rfl) rfl (sC (s8 lr) sN) rfl (fun b_47 w_48 h_49 => ?_)
 refine WL.storeA [] [(32, (zB 32).map vu8)] [(32, (zB 32).map vu8)] [] h_49 rfl rfl sizeOf23 At.h (by decide) rfl rfl rfl rfl rfl rfl (sC (s8 lr) sN) (fun w_50 h_51 => ?_)
 refine qA (vi 2) rfl rfl ?_
 refine WL.nil (thn_n (WP.seq (WP.seq (WP.reg ?_))))
 refine qV rfl (R.fieldAddr (off' := 34) rfl underlying28 rfl sizeOf3 rfl rfl) (qV rfl (R.load1 rfl isAgg3 (h_51.ok _ M16) (Sg.t rfl (Sg.t rfl (Sg.t rfl Sg.h)))) (qV rfl (R.fieldAddr (off' := 36) rfl underlying28 rfl sizeOf26 rfl rfl) (qV rfl (R.load1 rfl isAgg26 (h_51.ok _ M16) (Sg.t rfl (Sg.t rfl (Sg.t rfl (Sg.t rfl (Sg.t rfl Sg.h)))))) ?_)))
 refine WL.call Tryz.call22 rfl rfl (c_rWithin gn (UInt64.ofNat p) (by omega) _ ) rfl ?_
 rintro _ w_53 ⟨rfl, hc_52⟩
 have h_54 := h_51.same hc_52
 refine qV rfl (R.not (b := true) (congrArg Value.bool hwn)) ?_
 refine WL.nil (thn_n ?_)
 refine WP.condF rfl ?_
 refine WP.skip (thn_n (WP.seq (WP.seq ?_)))
 refine WP.cutG (G := Option Addr × Nat × Option Addr × Nat × List Value × List Value) [83, 84, 85, 86, 87, 88, 89, 90, 91, 92, 93, 94, 95, 96, 97, 98, 99, 100, 101, 102, 103, 104, 105, 106, 107, 108, 109, 110, 111, 112, 113, 114, 115, 116, 117] (fun (aY10Y27Y0Y0, cY10Y27Y0Y0, laY10Y5Y0Y0, lcY10Y5Y0Y0, ysY10Y27Y0Y0, lxY10Y5Y0Y0) => [(83, (.agg ⟨((laC id df n 0 ([] : Lg) (s6 + 1)).2.2.take 32).map vu8⟩)), (84, (pO b_13 0)), (85, (pO b_16 0)), (86, (pO b_1 36)), (87, (vu64 (UInt64.ofNat p))), (88, (.agg ⟨((laC id df n 0 ([] : Lg) (s6 + 1)).2.2.take 32).map vu8⟩)), (89, (.bool false)), (90, (.bool false)), (91, (vi 0)), (92, (vi 0)), (93, (.bool false)), (94, (.bool false)), (95, (.bool false)), (96, (pO b_14 0)), (97, (pO b_1 36)), (98, (vu64 (UInt64.ofNat p))), (99, (.bool true)), (100, (.bool false)), (101, (.bool false)), (102, (.bool false)), (103, (pO b_14 0)), (104, (pO b_16 0)), (105, (.bool true)), (106, (.bool false)), (107, (.bool false)), (108, (.bool false)), (109, (pO b_9 0)), (111, (pO b_13 0)), (112, (pO b_13 0)), (113, (pO b_13 35)), (110, (.slice aY10Y27Y0Y0 ((laC id df n 0 ([] : Lg) (s6 + 1)).2.1.length) cY10Y27Y0Y0)), (114, (.slice laY10Y5Y0Y0 ((laC id df n 0 ([] : Lg) (s6 + 1)).2.1.length) lcY10Y5Y0Y0)), (115, (.bool true)), (116, (.bool false)), (117, (.bool false))]) (fun (aY10Y27Y0Y0, cY10Y27Y0Y0, laY10Y5Y0Y0, lcY10Y5Y0Y0, ysY10Y27Y0Y0, lxY10Y5Y0Y0) w1 => HP w w1 [.row aY10Y27Y0Y0 ((laC id df n 0 ([] : Lg) (s6 + 1)).2.1.length) cY10Y27Y0Y0 102 67 ysY10Y27Y0Y0, .pin (sblks ysY10Y27Y0Y0) (fun w => Lgs w ysY10Y27Y0Y0 ((laC id df n 0 ([] : Lg) (s6 + 1)).2.1)), .blk b_9 .nw 106 [(1, [(.bool id)]), (32, ms.map vu8), (1, [(.slice a_11 n c_12)]), (1, [(vn ((laC id df n 0 ([] : Lg) (s6 + 1)).1))]), (1, [(.map (some b_10))]), (1, [(.slice la_34 ((laC id df n 0 ([] : Lg) (s6 + 1)).2.1.length) lc_35)])], .row la_34 ((laC id df n 0 ([] : Lg) (s6 + 1)).2.1.length) lc_35 102 67 lx_36, .obj b_10 .nw (.map (mArr ((laC id df n 0 ([] : Lg) (s6 + 1)).2.1)) ((laC id df n 0 ([] : Lg) (s6 + 1)).2.1.length)), .pin (sblks lx_36) (fun w => Lgs w lx_36 ((laC id df n 0 ([] : Lg) (s6 + 1)).2.1)), .view a_11 (df.map vu8), .blk b_13 .nw 61 [(1, [(.bool id)]), (32, ms.map vu8), (1, [(.slice da0 n cap0)]), (1, [(vn ((laC id df n 0 ([] : Lg) (s6 + 1)).1))]), (1, [(.slice laY10Y5Y0Y0 ((laC id df n 0 ([] : Lg) (s6 + 1)).2.1.length) lcY10Y5Y0Y0)])], .row laY10Y5Y0Y0 ((laC id df n 0 ([] : Lg) (s6 + 1)).2.1.length) lcY10Y5Y0Y0 102 67 lxY10Y5Y0Y0, .pin (sblks lxY10Y5Y0Y0) (fun w => Lgs w lxY10Y5Y0Y0 ((laC id df n 0 ([] : Lg) (s6 + 1)).2.1)), .view da0 (df.map vu8), .blk b_16 .nw 95 [(1, [(.slice a_17 (128 * gn) (128 * gn))])], .row a_17 (128 * gn) (128 * gn) 5 1 ((mid (fillL fd gn (min fn gn)) (p + 64) (p + 8192) (laC id df n 0 ([] : Lg) s6).2.2).map vu8), .blk b_47 .nw 23 [(32, (zB 32).map vu8)], .blk b_39 .nw 23 [(32, ((laC id df n 0 ([] : Lg) (s6 + 1)).2.2.take 32).map vu8)], .blk b_14 .nw 112 [(1, [(.slice a_15 gn gn)])], .row a_15 gn gn 76 128 ((mid (fillL fd gn (min fn gn)) (p + 64) (p + 8192) (laC id df n 0 ([] : Lg) s6).2.2).map vu8), .view fa (fd.map vu8), .blk b_1 .nw 28 [(1, [(.bool id)]), (32, ms.map vu8), (1, [(.slice da0 n cap0)]), (1, [(vn gn)]), (1, [(.slice fa fn fc)]), (1, [(vu64 (UInt64.ofNat p))])]]) ?_ ?_
 ·refine WP.drawT (SL w.heap.size [.blk b_47 .nw 23 [(32, (zB 32).map vu8)], .blk b_39 .nw 23 [(32, ((laC id df n 0 ([] : Lg) (s6 + 1)).2.2.take 32).map vu8)], .blk b_9 .nw 106 [(1, [(.bool id)]), (32, ms.map vu8), (1, [(.slice a_11 n c_12)]), (1, [(vn ((laC id df n 0 ([] : Lg) (s6 + 1)).1))]), (1, [(.map (some b_10))]), (1, [(.slice la_34 ((laC id df n 0 ([] : Lg) (s6 + 1)).2.1.length) lc_35)])], .row la_34 ((laC id df n 0 ([] : Lg) (s6 + 1)).2.1.length) lc_35 102 67 lx_36, .obj b_10 .nw (.map (mArr ((laC id df n 0 ([] : Lg) (s6 + 1)).2.1)) ((laC id df n 0 ([] : Lg) (s6 + 1)).2.1.length)), .pin (sblks lx_36) (fun w => Lgs w lx_36 ((laC id df n 0 ([] : Lg) (s6 + 1)).2.1)), .view a_11 (df.map vu8), .blk b_14 .nw 112 [(1, [(.slice a_15 gn gn)])], .row a_15 gn gn 76 128 ((mid (fillL fd gn (min fn gn)) (p + 64) (p + 8192) (laC id df n 0 ([] : Lg) s6).2.2).map vu8), .blk b_16 .nw 95 [(1, [(.slice a_17 (128 * gn) (128 * gn))])], .view fa (fd.map vu8), .blk b_1 .nw 28 [(1, [(.bool id)]), (32, ms.map vu8), (1, [(.slice da0 n cap0)]), (1, [(vn gn)]), (1, [(.slice fa fn fc)]), (1, [(vu64 (UInt64.ofNat p))])]]) (.q 0 (.q 1 (.q 2 (.q 3 (.q 4 (.s 5 (.q 6 (.q 7 (.q 8 (.s 9 (.q 10 (.q 11 (.q 12 (.q 13 (.q 14 (.q 15 (.s 16 (.q 17 (.q 18 (.q 19 (.q 20 (.q 21 (.s 22 (.q 23 (.q 24 (.q 25 (.q 26 (.q 28 (.q 29 (.q 30 (.s2 27 31 (.s 31 (.s 32 (.q 33 (.q 34 .nil)))) (.s 27 (.s 32 (.q 33 (.q 34 .nil))))))))))))))))))))))))))))))))))) (by kernel_rfl) (by kernel_rfl) rfl (by kernel_rfl) (fun w_55 hc_57 => (SL.cons ((h_54.same hc_57).ok _ M0) (SL.cons ((h_54.same hc_57).ok _ M1) (SL.cons ((h_54.same hc_57).ok _ M2) (SL.cons ((h_54.same hc_57).ok _ M3) (SL.cons ((h_54.same hc_57).ok _ M4) (SL.cons ((h_54.same hc_57).ok _ M5) (SL.cons ((h_54.same hc_57).ok _ M6) (SL.cons ((h_54.same hc_57).ok _ M7) (SL.cons ((h_54.same hc_57).ok _ M8) (SL.cons ((h_54.same hc_57).ok _ M12) (SL.cons ((h_54.same hc_57).ok _ M15) (SL.cons ((h_54.same hc_57).ok _ M16) (SL.nil _ _)))))))))))))) (fun w_55 hc_57 => ?_)
  have h_56 := h_54.same hc_57
  refine qT rfl rfl (fun wq hS => R.loadA [] [(32, ((laC id df n 0 ([] : Lg) (s6 + 1)).2.2.take 32).map vu8)] [] (cs := ((laC id df n 0 ([] : Lg) (s6 + 1)).2.2.take 32).map vu8) rfl isAgg23 sizeOf23 (hS _ M1) rfl rfl rfl rfl) ?_
  refine qT rfl rfl (fun wq hS => R.move (v := (pO b_13 0)) rfl) ?_
  refine qT rfl rfl (fun wq hS => R.move (v := (pO b_16 0)) rfl) ?_
  refine qT rfl rfl (fun wq hS => R.fieldAddr (off' := 36) rfl underlying28 rfl sizeOf26 rfl rfl) ?_
  refine qT rfl rfl (fun wq hS => R.load1 rfl isAgg26 (hS _ M11) (Sg.t rfl (Sg.t rfl (Sg.t rfl (Sg.t rfl (Sg.t rfl Sg.h)))))) ?_
  refine WT.s (oN rfl ?_)
  have h_63 := (((((h_56.up J13).up J13).up J14).up J13).up J13).up J14
  refine WL.call Tryz.call25 rfl rfl (c_rLay id b_13 ms df hms da0 n cap0 0 hl none 0 [] ([] : Lg) (by first | decide | omega | exact Nat.le_trans (laC_u ..) (by omega)) (by first | decide | omega | exact Nat.le_trans (laC_l ..) (by simp only [List.length_nil]; omega)) b_16 a_17 gn (by omega) (by omega) p (by omega) (fillL fd gn (min fn gn)) (fillL_len hfl (Nat.min_le_right ..) (Nat.min_le_left ..)) s6 hs6 _ h_63) rfl ?_
  rintro _ w_67 ⟨la_64, lc_65, lx_66, rfl, h_68⟩
  refine WL.nil ?_
  refine ⟨(N6_7_8_9_10_11_12_13_14_4_15_16 h_68.ok), ?_⟩
  refine qT rfl rfl (fun wq hS => R.neA (xs := ((laC id df n 0 ([] : Lg) (s6 + 1)).2.2.take 32).map vu8) (ys := ((laC id df n 0 ([] : Lg) (s6 + 1)).2.2.take 32).map vu8) (r := false) rfl rfl eqGuardType23 kt23 (by decide) ag23 (Typ.u8s underlying23 ce23 underlying5 ce5 (by rw [List.length_take, laC_len hl okN]; omega)) (Typ.u8s underlying23 ce23 underlying5 ce5 (by rw [List.length_take, laC_len hl okN]; omega)) (neT rfl)) ?_
  refine qT rfl rfl (fun wq hS => R.move (v := (.bool false)) rfl) ?_
  refine WT.q rfl (Wn.yes rfl rfl rfl) rfl rfl (fun wq hS => R.move (v := (vi 0)) rfl) ?_
  refine WT.s ?_
  refine Op1.one rfl (Wn.yes rfl rfl rfl) ?_
  refine WL.call Tryz.call17 rfl rfl (c_num15 0 (by omega) _ ) rfl ?_
  rintro _ w_70 ⟨rfl, hc_69⟩
  have h_71 := h_68.same hc_69
  refine WL.nil ?_
  refine ⟨(N6_7_8_9_10_11_12_13_14_4_15_16 h_71.ok), ?_⟩
  refine WT.q rfl (Wn.yes rfl rfl rfl) rfl rfl (fun wq hS => R.bin rfl rfl (bi_neq (r := false) (by decide))) ?_
  refine qT rfl rfl (fun wq hS => R.pickF (v := (.bool false)) rfl rfl) ?_
  refine qT rfl rfl (fun wq hS => R.move (v := (.bool false)) rfl) ?_
  refine WT.q rfl (Wn.yes rfl rfl rfl) rfl rfl (fun wq hS => R.move (v := (pO b_14 0)) rfl) ?_
  refine WT.q rfl (Wn.yes rfl rfl rfl) rfl rfl (fun wq hS => R.fieldAddr (off' := 36) rfl underlying28 rfl sizeOf26 rfl rfl) ?_
  refine WT.q rfl (Wn.yes rfl rfl rfl) rfl rfl (fun wq hS => R.load1 rfl isAgg26 (hS _ M11) (Sg.t rfl (Sg.t rfl (Sg.t rfl (Sg.t rfl (Sg.t rfl Sg.h)))))) ?_
  refine WT.s ?_
  refine Op1.one rfl (Wn.yes rfl rfl rfl) ?_
  refine WL.call Tryz.call23 rfl rfl (c_WithinB b_14 a_15 gn (UInt64.ofNat p) (by omega) _ (h_71.argR M13)) rfl ?_
  rintro _ w_73 ⟨rfl, hc_72⟩
  have h_74 := h_71.same hc_72
  refine WL.nil ?_
  refine ⟨(N6_7_8_9_10_11_12_13_14_4_15_16 h_74.ok), ?_⟩
  refine WT.q rfl (Wn.yes rfl rfl rfl) rfl rfl (fun wq hS => R.not (b := true) (congrArg Value.bool hwn)) ?_
  refine qT rfl rfl (fun wq hS => R.pickF (v := (.bool false)) rfl rfl) ?_
  refine qT rfl rfl (fun wq hS => R.move (v := (.bool false)) rfl) ?_
  refine WT.q rfl (Wn.yes rfl rfl rfl) rfl rfl (fun wq hS => R.move (v := (pO b_14 0)) rfl) ?_
  refine WT.q rfl (Wn.yes rfl rfl rfl) rfl rfl (fun wq hS => R.move (v := (pO b_16 0)) rfl) ?_
  refine WT.s ?_
  refine Op1.one rfl (Wn.yes rfl rfl rfl) ?_
  refine WL.call Tryz.call24 rfl rfl (c_sameM b_14 b_16 a_15 a_17 gn (by omega) (by omega) (mid (fillL fd gn (min fn gn)) (p + 64) (p + 8192) (laC id df n 0 ([] : Lg) s6).2.2) (mid_len (fillL_len hfl (Nat.min_le_right ..) (Nat.min_le_left ..)) (by rw [laC_len hl okN]; omega) (by omega)) _ (h_74.argR M13) (ownView (h_74.ok _ M14)) (h_74.argR M4) (ownView (h_74.ok _ M5))) rfl ?_
  rintro _ w_76 ⟨rfl, hc_75⟩
  have h_77 := h_74.same hc_75
  refine WL.nil ?_
  refine ⟨(N6_7_8_9_10_11_12_13_14_4_15_16 h_77.ok), ?_⟩
  refine WT.q rfl (Wn.yes rfl rfl rfl) rfl rfl (fun wq hS => R.not (b := true) rfl) ?_
  refine qT rfl rfl (fun wq hS => R.pickF (v := (.bool false)) rfl rfl) ?_
  refine qT rfl rfl (fun wq hS => R.move (v := (.bool false)) rfl) ?_
  refine WT.q rfl (Wn.yes rfl rfl rfl) rfl rfl (fun wq hS => R.move (v := (pO b_9 0)) rfl) ?_
  refine WT.q rfl (Wn.yes rfl rfl rfl) rfl rfl (fun wq hS => R.move (v := (pO b_13 0)) rfl) ?_
  refine WT.q rfl (Wn.yes rfl rfl rfl) rfl rfl (fun wq hS => R.nilCheck rfl) ?_
  refine WT.q rfl (Wn.yes rfl rfl rfl) rfl rfl (fun wq hS => R.fieldAddr (off' := 35) rfl underlying61 rfl sizeOf58 rfl rfl) ?_
  refine WT.s2 ?_ ?_
  ·refine Op1.one rfl (Wn.yes rfl rfl rfl) ?_
   have h_82 := ((((h_77.up J12).up J12).up J12).up J12).up J12
   refine WL.call Tryz.call27 rfl rfl (c_oLog id b_9 b_10 ms df hms a_11 n c_12 ((laC id df n 0 ([] : Lg) (s6 + 1)).1) hl la_34 lc_35 lx_36 ((laC id df n 0 ([] : Lg) (s6 + 1)).2.1) (by first | decide | omega | exact Nat.le_trans (laC_u ..) (by omega)) (by first | decide | omega | exact Nat.le_trans (laC_l ..) (by simp only [List.length_nil]; omega)) _ h_82) rfl ?_
   rintro _ w_86 ⟨a_83, c_84, ys_85, rfl, h_87⟩
   refine WL.nil ?_
   refine ⟨(N13_14_2_3_4_5_6_15_16_11_17_18 h_87.ok), ?_⟩
   refine WT.s ?_
   refine Op1.one rfl (Wn.yes rfl rfl rfl) ?_
   refine qV rfl (R.load1 rfl isAgg58 (h_87.ok _ M7) (Sg.t rfl (Sg.t rfl (Sg.t rfl (Sg.t rfl Sg.h))))) ?_
   refine WL.nil ?_
   refine ⟨(N13_14_2_3_4_5_6_15_16_11_17_18 h_87.ok), ?_⟩
   refine WT.s ?_
   refine Op1.one rfl (Wn.yes rfl rfl rfl) ?_
   refine WL.call Tryz.call26 rfl rfl (c_rSameLog a_83 ((laC id df n 0 ([] : Lg) (s6 + 1)).2.1.length) c_84 ys_85 ((laC id df n 0 ([] : Lg) (s6 + 1)).2.1) rfl (Nat.le_trans (laC_l (s6 + 1)) (by simp only [List.length_nil]; omega)) la_64 lc_65 lx_66 _ (ownView (h_87.ok _ M0)) (h_87.ok _ M1).1 (ownView (h_87.ok _ M8)) (h_87.ok _ M9).1) rfl ?_
   rintro _ w_89 ⟨rfl, hc_88⟩
   have h_90 := h_87.same hc_88
   refine WL.nil ?_
   refine ⟨(N13_14_2_3_4_5_6_15_16_11_17_18 h_90.ok), ?_⟩
   refine WT.q rfl (Wn.yes rfl rfl rfl) rfl rfl (fun wq hS => R.not (b := true) (rfl)) ?_
   refine qT rfl rfl (fun wq hS => R.pickF (v := (.bool false)) rfl rfl) ?_
   refine WT.nil (thn_n ?_)
   exact ⟨(a_83, c_84, la_64, lc_65, ys_85, lx_66), (Ag.upd rfl (U2 rfl rfl (U4 rfl rfl rfl rfl (U4 rfl rfl rfl rfl (U4 rfl rfl rfl rfl (U4 rfl rfl rfl rfl (U4 rfl rfl rfl rfl (U4 rfl rfl rfl rfl (U4 rfl rfl rfl rfl (U4 rfl rfl rfl rfl (Ag.refl _ _))))))))))), ⟨rfl, rfl, rfl, rfl, rfl, rfl, rfl, rfl, rfl, rfl, rfl, rfl, rfl, rfl, rfl, rfl, (congrArg Value.bool hwn), rfl, rfl, rfl, rfl, rfl, rfl, rfl, rfl, rfl, rfl, rfl, rfl, rfl, rfl, rfl, (rfl), rfl, rfl, trivial⟩, h_90⟩
  ·refine Op1.one rfl (Wn.yes rfl rfl rfl) ?_
   refine qV rfl (R.load1 rfl isAgg58 (h_77.ok _ M0) (Sg.t rfl (Sg.t rfl (Sg.t rfl (Sg.t rfl Sg.h))))) ?_
   refine WL.nil ?_
   refine ⟨(N6_7_8_9_10_11_12_13_14_4_15_16 h_77.ok), ?_⟩
   refine WT.s ?_
   refine Op1.one rfl (Wn.yes rfl rfl rfl) ?_
   have h_95 := ((((h_77.up J12).up J12).up J12).up J12).up J12
   refine WL.call Tryz.call27 rfl rfl (c_oLog id b_9 b_10 ms df hms a_11 n c_12 ((laC id df n 0 ([] : Lg) (s6 + 1)).1) hl la_34 lc_35 lx_36 ((laC id df n 0 ([] : Lg) (s6 + 1)).2.1) (by first | decide | omega | exact Nat.le_trans (laC_u ..) (by omega)) (by first | decide | omega | exact Nat.le_trans (laC_l ..) (by simp only [List.length_nil]; omega)) _ h_95) rfl ?_
   rintro _ w_99 ⟨a_96, c_97, ys_98, rfl, h_100⟩
   refine WL.nil ?_
   refine ⟨(N13_14_2_3_4_5_6_15_16_11_17_18 h_100.ok), ?_⟩
   refine WT.s ?_
   refine Op1.one rfl (Wn.yes rfl rfl rfl) ?_
   refine WL.call Tryz.call26 rfl rfl (c_rSameLog a_96 ((laC id df n 0 ([] : Lg) (s6 + 1)).2.1.length) c_97 ys_98 ((laC id df n 0 ([] : Lg) (s6 + 1)).2.1) rfl (Nat.le_trans (laC_l (s6 + 1)) (by simp only [List.length_nil]; omega)) la_64 lc_65 lx_66 _ (ownView (h_100.ok _ M0)) (h_100.ok _ M1).1 (ownView (h_100.ok _ M8)) (h_100.ok _ M9).1) rfl ?_
   rintro _ w_102 ⟨rfl, hc_101⟩
   have h_103 := h_100.same hc_101
   refine WL.nil ?_
   refine ⟨(N13_14_2_3_4_5_6_15_16_11_17_18 h_103.ok), ?_⟩
   refine WT.q rfl (Wn.yes rfl rfl rfl) rfl rfl (fun wq hS => R.not (b := true) (rfl)) ?_
   refine qT rfl rfl (fun wq hS => R.pickF (v := (.bool false)) rfl rfl) ?_
   refine WT.nil (thn_n ?_)
   exact ⟨(a_96, c_97, la_64, lc_65, ys_98, lx_66), (Ag.upd rfl (U2 rfl rfl (U4 rfl rfl rfl rfl (U4 rfl rfl rfl rfl (U4 rfl rfl rfl rfl (U4 rfl rfl rfl rfl (U4 rfl rfl rfl rfl (U4 rfl rfl rfl rfl (U4 rfl rfl rfl rfl (U4 rfl rfl rfl rfl (Ag.refl _ _))))))))))), ⟨rfl, rfl, rfl, rfl, rfl, rfl, rfl, rfl, rfl, rfl, rfl, rfl, rfl, rfl, rfl, rfl, (congrArg Value.bool hwn), rfl, rfl, rfl, rfl, rfl, rfl, rfl, rfl, rfl, rfl, rfl, rfl, rfl, rfl, rfl, (rfl), rfl, rfl, trivial⟩, h_103⟩
 ·rintro ⟨a_107, c_108, la_109, lc_110, ys_111, lx_112⟩ J_104 w_105 h_106
  refine thn_n ?_
  refine WP.condF rfl ?_
  refine WP.skip (thn_n (WP.seq (WP.seq (WP.reg ?_))))
  refine qM (vi i) rfl rfl (qV rfl (R.bin rfl rfl (bi_lss (r := decide ((i : Int) < 2)) rfl)) (qM (.bool (decide ((i : Int) < 2))) rfl rfl ?_))
  refine WL.skip rfl (congrArg Value.bool (decide_eq_true (by omega))) rfl ?_
  refine WL.skip rfl (congrArg Value.bool (decide_eq_true (by omega))) rfl ?_
  refine qV rfl (R.pickT (v := (.bool true)) (congrArg Value.bool (decide_eq_true (by omega))) rfl) ?_
  refine WL.nil (thn_n ?_)
  refine WP.condT rfl ?_
  refine WP.seq (WP.reg ?_)
  refine qV rfl (R.loadA [] [(32, (zB 32).map vu8)] [] (cs := (zB 32).map vu8) rfl isAgg23 sizeOf23 (h_106.ok _ M13) rfl rfl rfl rfl) (qV rfl (R.buildA (vs := []) (cs := (zB 32).map vu8) underlying23 sizeOf5 (zv typeInfo23 rfl) rfl rfl) (qV rfl (R.eqA (xs := (zB 32).map vu8) (ys := (zB 32).map vu8) (r := true) rfl rfl eqGuardType23 kt23 (by decide) ag23 (Typ.u8s underlying23 ce23 underlying5 ce5 lr) (Typ.u8s underlying23 ce23 underlying5 ce5 lr) (eqT rfl)) (qM (.bool true) rfl rfl ?_)))
  refine WL.want rfl rfl ?_
  refine qM (vi 2) rfl rfl ?_
  refine WL.want rfl rfl ?_
  refine WL.call Tryz.call17 rfl rfl (c_num15 2 (by omega) _ ) rfl ?_
  rintro _ w_114 ⟨rfl, hc_113⟩
  have h_115 := h_106.same hc_113
  refine WL.want rfl rfl ?_
  refine qV rfl (R.bin rfl rfl (bi_eql (r := true) (by decide))) (qV rfl (R.pickT (v := (.bool true)) rfl rfl) (qM (.bool true) rfl rfl ?_))
  refine WL.want rfl rfl ?_
  refine WL.call Tryz.call7 rfl rfl (c_known15  _ ) rfl ?_
  rintro _ w_117 ⟨rfl, hc_116⟩
  have h_118 := h_115.same hc_116
  refine qV rfl (R.pickT (v := (.bool true)) rfl rfl) (qA (.bool true) rfl rfl ?_)
  refine WL.nil (thn_n (WP.ret (thn_r ?_)))
  refine ret_of results4 (RV.tmp (v := (.bool true)) rfl RV.nil) ?_
  exact ⟨rfl, h_118.chgS⟩

theorem w_TL_hi (id : Bool) (ms df : List UInt8) (hms : ms.length = 32) (da0 : Option Addr) (n cap0 : Nat) (hl : df.length = 32 * n) (fa : Option Addr) (fn fc : Nat) (fd : List UInt8) (hfl : fd.length = 128 * fn) (gn : Nat) (hs : n ≤ 700 ∧ 1 ≤ gn ∧ gn ≤ 80 ∧ fn ≤ 80) (p : Nat) (hwn : wnB gn (UInt64.ofNat p) = true) (hp : p % 128 = 0) (hw : p + 8192 ≤ 128 * gn) (s6 : Nat) (hs6 : s6 = 126) (i : Int) (hi : 255 < i) (w : World) (hv : View w da0 (df.map vu8)) (hvf : View w fa (fd.map vu8)) :
  Cs Tryz.prog 4 [(.agg ⟨flat [(1, [(.bool id)]), (32, ms.map vu8), (1, [(.slice da0 n cap0)]), (1, [(vi ((gn : Nat) : Int))]), (1, [(.slice fa fn fc)]), (1, [(vu64 (UInt64.ofNat p))])]⟩), (vi i)].toArray w (fun v w1 => v = (.bool true) ∧ Chg w w1 []) := by
 refine Cs.of (n := 150) (args := [(.agg ⟨flat [(1, [(.bool id)]), (32, ms.map vu8), (1, [(.slice da0 n cap0)]), (1, [(vn gn)]), (1, [(.slice fa fn fc)]), (1, [(vu64 (UInt64.ofNat p))])]⟩), (vi i)]) Tryz.func4 rfl rfl rfl ?_
 have h_0 := HP.init w
 have h_01 := h_0.oldV (View.arg hv) rfl (by simp [Ent.mut])
 have h_00 := h_01.oldV (View.arg hvf) rfl (by simp [Ent.mut])
 refine WP.seq (WP.reg ?_)
 refine WL.box (segs := [(1, [(.bool id)]), (32, ms.map vu8), (1, [(.slice da0 n cap0)]), (1, [(vn gn)]), (1, [(.slice fa fn fc)]), (1, [(vu64 (UInt64.ofNat p))])]) h_00 rfl rfl (sC sV (sC (s8 hms) (sC sV (sC sV (sC sV (sC sV sN)))))) rfl (fun b_1 w_2 h_3 => ?_)
 refine qA (.bool false) rfl rfl ?_
 refine WL.nil (thn_n (WP.seq (WP.seq (WP.reg ?_))))
 refine qV rfl (R.loadA [] [(1, [(.bool id)]), (32, ms.map vu8), (1, [(.slice da0 n cap0)]), (1, [(vn gn)]), (1, [(.slice fa fn fc)]), (1, [(vu64 (UInt64.ofNat p))])] [] rfl isAgg28 sizeOf28 (h_3.ok _ M0) rfl rfl rfl rfl) ?_
 refine WL.call Tryz.call6 rfl rfl (c_small_t id ms df hms da0 n cap0 hl fa fn fc fd hfl (UInt64.ofNat p) gn hs _ ) rfl ?_
 rintro _ w_5 ⟨rfl, hc_4⟩
 have h_6 := h_3.same hc_4
 refine qV rfl (R.not (b := true) rfl) ?_
 refine WL.nil (thn_n ?_)
 refine WP.condF rfl ?_
 refine WP.skip (thn_n (WP.seq (WP.reg ?_)))
 refine qV rfl (R.loadA [] [(1, [(.bool id)]), (32, ms.map vu8), (1, [(.slice da0 n cap0)]), (1, [(vn gn)]), (1, [(.slice fa fn fc)]), (1, [(vu64 (UInt64.ofNat p))])] [] rfl isAgg28 sizeOf28 (h_6.ok _ M0) rfl rfl rfl rfl) ?_
 have h_8 := (h_6.up J1).up J2
 refine WL.call Tryz.call8 rfl rfl (c_two id ms df hms da0 n cap0 hl fa fn fc fd hfl (UInt64.ofNat p) gn hs _ h_8) rfl ?_
 rintro _ w_18 ⟨b_9, b_10, a_11, c_12, b_13, b_14, a_15, b_16, a_17, rfl, h_19⟩
 have h_20 := h_19.rowNil 102 67
 have h_21 := HP_logNil h_20
 refine qM (.tuple [(pO b_9 0), (pO b_14 0), (pO b_13 0), (pO b_16 0), (.bool true)].toArray) rfl rfl (qV rfl (R.extract rfl rfl) (qV rfl (R.extract rfl rfl) (qV rfl (R.extract rfl rfl) (qV rfl (R.extract rfl rfl) (qV rfl (R.extract rfl rfl) (qA (pO b_9 0) rfl rfl (qA (pO b_14 0) rfl rfl (qA (pO b_13 0) rfl rfl (qA (pO b_16 0) rfl rfl (qA (.bool true) rfl rfl ?_))))))))))
 refine WL.nil (thn_n (WP.seq (WP.seq (WP.reg ?_))))
 refine qM (.bool true) rfl rfl (qV rfl (R.not (b := true) rfl) ?_)
 refine WL.nil (thn_n ?_)
 refine WP.condF rfl ?_
 refine WP.skip (thn_n (WP.seq (WP.reg ?_)))
 refine qM (pO b_9 0) rfl rfl (qM (pO b_14 0) rfl rfl (qV rfl (R.fieldAddr (off' := 36) rfl underlying28 rfl sizeOf26 rfl rfl) (qV rfl (R.load1 rfl isAgg26 (h_21.ok _ M14) (Sg.t rfl (Sg.t rfl (Sg.t rfl (Sg.t rfl (Sg.t rfl Sg.h)))))) ?_)))
 have h_33 := (((((((((((h_21.up J6).up J1).up J5).up J3).up J4).up J9).up J9).up J6).up J6).up J6).up J6).up J6
 refine WL.call Tryz.call20 rfl rfl (c_LayT id b_9 b_10 ms df hms a_11 n c_12 0 hl none 0 [] ([] : Lg) (by first | decide | omega | exact Nat.le_trans (laC_u ..) (by omega)) (by first | decide | omega | exact Nat.le_trans (laC_l ..) (by simp only [List.length_nil]; omega)) b_14 a_15 gn (by omega) (by omega) p (by omega) (by omega) (fillL fd gn (min fn gn)) (fillL_len hfl (Nat.min_le_right ..) (Nat.min_le_left ..)) hwn s6 hs6 _ h_33) rfl ?_
 rintro _ w_37 ⟨la_34, lc_35, lx_36, rfl, h_38⟩
 refine qM (.tuple [(.agg ⟨((laC id df n 0 ([] : Lg) (s6 + 1)).2.2.take 32).map vu8⟩), (vi 0)].toArray) rfl rfl (qV rfl (R.extract rfl rfl) (qV rfl (R.extract rfl rfl) ?_))
 refine WL.alloc (segs := [(32, (zB 32).map vu8)]) h_38 (zv typeInfo23 rfl) rfl (sC (s8 lr) sN) rfl (fun b_39 w_40 h_41 => ?_)
 refine WL.storeA [] [(32, (zB 32).map vu8)] [(32, ((laC id df n 0 ([] : Lg) (s6 + 1)).2.2.take 32).map vu8)] [] h_41 rfl rfl sizeOf23 At.h (by decide) rfl rfl rfl rfl rfl rfl (sC (s8 (by rw [List.length_take, laC_len hl okN]; omega)) sN) (fun w_42 h_43 => ?_)
 refine qA (vi 0) rfl rfl ?_
 refine WL.nil (thn_n (WP.seq (WP.reg ?_)))
 refine qM (pO b_14 0) rfl rfl (qV rfl (R.fieldAddr (off' := 36) rfl underlying28 rfl sizeOf26 rfl rfl) (qV rfl (R.load1 rfl isAgg26 (h_43.ok _ M15) (Sg.t rfl (Sg.t rfl (Sg.t rfl (Sg.t rfl (Sg.t rfl Sg.h)))))) (qM (vi i) rfl rfl ?_)))
 refine WL.call Tryz.call21 rfl rfl (c_Athi b_14 a_15 gn (by omega) (by omega) (UInt64.ofNat p) hwn i hi _ (h_43.argR M6)) rfl ?_
 rintro _ w_45 ⟨rfl, hc_44⟩
 have h_46 := h_43.same hc_44
 refine qM (.tuple [(.agg ⟨(zB 32).map vu8⟩), (vi 2)].toArray) rfl rfl (qV rfl (R.extract rfl rfl) (qV rfl (R.extract rfl rfl) ?_))
 refine WL.alloc (segs := [(32, (zB 32).map vu8)]) h_46 (zv typeInfo23 rfl) rfl (sC (s8 lr) sN) rfl (fun b_47 w_48 h_49 => ?_)
 refine WL.storeA [] [(32, (zB 32).map vu8)] [(32, (zB 32).map vu8)] [] h_49 rfl rfl sizeOf23 At.h (by decide) rfl rfl rfl rfl rfl rfl (sC (s8 lr) sN) (fun w_50 h_51 => ?_)
 refine qA (vi 2) rfl rfl ?_
 refine WL.nil (thn_n (WP.seq (WP.seq (WP.reg ?_))))
 refine qV rfl (R.fieldAddr (off' := 34) rfl underlying28 rfl sizeOf3 rfl rfl) (qV rfl (R.load1 rfl isAgg3 (h_51.ok _ M16) (Sg.t rfl (Sg.t rfl (Sg.t rfl Sg.h)))) (qV rfl (R.fieldAddr (off' := 36) rfl underlying28 rfl sizeOf26 rfl rfl) (qV rfl (R.load1 rfl isAgg26 (h_51.ok _ M16) (Sg.t rfl (Sg.t rfl (Sg.t rfl (Sg.t rfl (Sg.t rfl Sg.h)))))) ?_)))
 refine WL.call Tryz.call22 rfl rfl (c_rWithin gn (UInt64.ofNat p) (by omega) _ ) rfl ?_
 rintro _ w_53 ⟨rfl, hc_52⟩
 have h_54 := h_51.same hc_52
 refine qV rfl (R.not (b := true) (congrArg Value.bool hwn)) ?_
 refine WL.nil (thn_n ?_)
 refine WP.condF rfl ?_
 refine WP.skip (thn_n (WP.seq (WP.seq ?_)))
 refine WP.cutG (G := Option Addr × Nat × Option Addr × Nat × List Value × List Value) [83, 84, 85, 86, 87, 88, 89, 90, 91, 92, 93, 94, 95, 96, 97, 98, 99, 100, 101, 102, 103, 104, 105, 106, 107, 108, 109, 110, 111, 112, 113, 114, 115, 116, 117] (fun (aY10Y27Y0Y0, cY10Y27Y0Y0, laY10Y5Y0Y0, lcY10Y5Y0Y0, ysY10Y27Y0Y0, lxY10Y5Y0Y0) => [(83, (.agg ⟨((laC id df n 0 ([] : Lg) (s6 + 1)).2.2.take 32).map vu8⟩)), (84, (pO b_13 0)), (85, (pO b_16 0)), (86, (pO b_1 36)), (87, (vu64 (UInt64.ofNat p))), (88, (.agg ⟨((laC id df n 0 ([] : Lg) (s6 + 1)).2.2.take 32).map vu8⟩)), (89, (.bool false)), (90, (.bool false)), (91, (vi 0)), (92, (vi 0)), (93, (.bool false)), (94, (.bool false)), (95, (.bool false)), (96, (pO b_14 0)), (97, (pO b_1 36)), (98, (vu64 (UInt64.ofNat p))), (99, (.bool true)), (100, (.bool false)), (101, (.bool false)), (102, (.bool false)), (103, (pO b_14 0)), (104, (pO b_16 0)), (105, (.bool true)), (106, (.bool false)), (107, (.bool false)), (108, (.bool false)), (109, (pO b_9 0)), (111, (pO b_13 0)), (112, (pO b_13 0)), (113, (pO b_13 35)), (110, (.slice aY10Y27Y0Y0 ((laC id df n 0 ([] : Lg) (s6 + 1)).2.1.length) cY10Y27Y0Y0)), (114, (.slice laY10Y5Y0Y0 ((laC id df n 0 ([] : Lg) (s6 + 1)).2.1.length) lcY10Y5Y0Y0)), (115, (.bool true)), (116, (.bool false)), (117, (.bool false))]) (fun (aY10Y27Y0Y0, cY10Y27Y0Y0, laY10Y5Y0Y0, lcY10Y5Y0Y0, ysY10Y27Y0Y0, lxY10Y5Y0Y0) w1 => HP w w1 [.row aY10Y27Y0Y0 ((laC id df n 0 ([] : Lg) (s6 + 1)).2.1.length) cY10Y27Y0Y0 102 67 ysY10Y27Y0Y0, .pin (sblks ysY10Y27Y0Y0) (fun w => Lgs w ysY10Y27Y0Y0 ((laC id df n 0 ([] : Lg) (s6 + 1)).2.1)), .blk b_9 .nw 106 [(1, [(.bool id)]), (32, ms.map vu8), (1, [(.slice a_11 n c_12)]), (1, [(vn ((laC id df n 0 ([] : Lg) (s6 + 1)).1))]), (1, [(.map (some b_10))]), (1, [(.slice la_34 ((laC id df n 0 ([] : Lg) (s6 + 1)).2.1.length) lc_35)])], .row la_34 ((laC id df n 0 ([] : Lg) (s6 + 1)).2.1.length) lc_35 102 67 lx_36, .obj b_10 .nw (.map (mArr ((laC id df n 0 ([] : Lg) (s6 + 1)).2.1)) ((laC id df n 0 ([] : Lg) (s6 + 1)).2.1.length)), .pin (sblks lx_36) (fun w => Lgs w lx_36 ((laC id df n 0 ([] : Lg) (s6 + 1)).2.1)), .view a_11 (df.map vu8), .blk b_13 .nw 61 [(1, [(.bool id)]), (32, ms.map vu8), (1, [(.slice da0 n cap0)]), (1, [(vn ((laC id df n 0 ([] : Lg) (s6 + 1)).1))]), (1, [(.slice laY10Y5Y0Y0 ((laC id df n 0 ([] : Lg) (s6 + 1)).2.1.length) lcY10Y5Y0Y0)])], .row laY10Y5Y0Y0 ((laC id df n 0 ([] : Lg) (s6 + 1)).2.1.length) lcY10Y5Y0Y0 102 67 lxY10Y5Y0Y0, .pin (sblks lxY10Y5Y0Y0) (fun w => Lgs w lxY10Y5Y0Y0 ((laC id df n 0 ([] : Lg) (s6 + 1)).2.1)), .view da0 (df.map vu8), .blk b_16 .nw 95 [(1, [(.slice a_17 (128 * gn) (128 * gn))])], .row a_17 (128 * gn) (128 * gn) 5 1 ((mid (fillL fd gn (min fn gn)) (p + 64) (p + 8192) (laC id df n 0 ([] : Lg) s6).2.2).map vu8), .blk b_47 .nw 23 [(32, (zB 32).map vu8)], .blk b_39 .nw 23 [(32, ((laC id df n 0 ([] : Lg) (s6 + 1)).2.2.take 32).map vu8)], .blk b_14 .nw 112 [(1, [(.slice a_15 gn gn)])], .row a_15 gn gn 76 128 ((mid (fillL fd gn (min fn gn)) (p + 64) (p + 8192) (laC id df n 0 ([] : Lg) s6).2.2).map vu8), .view fa (fd.map vu8), .blk b_1 .nw 28 [(1, [(.bool id)]), (32, ms.map vu8), (1, [(.slice da0 n cap0)]), (1, [(vn gn)]), (1, [(.slice fa fn fc)]), (1, [(vu64 (UInt64.ofNat p))])]]) ?_ ?_
 ·refine WP.drawT (SL w.heap.size [.blk b_47 .nw 23 [(32, (zB 32).map vu8)], .blk b_39 .nw 23 [(32, ((laC id df n 0 ([] : Lg) (s6 + 1)).2.2.take 32).map vu8)], .blk b_9 .nw 106 [(1, [(.bool id)]), (32, ms.map vu8), (1, [(.slice a_11 n c_12)]), (1, [(vn ((laC id df n 0 ([] : Lg) (s6 + 1)).1))]), (1, [(.map (some b_10))]), (1, [(.slice la_34 ((laC id df n 0 ([] : Lg) (s6 + 1)).2.1.length) lc_35)])], .row la_34 ((laC id df n 0 ([] : Lg) (s6 + 1)).2.1.length) lc_35 102 67 lx_36, .obj b_10 .nw (.map (mArr ((laC id df n 0 ([] : Lg) (s6 + 1)).2.1)) ((laC id df n 0 ([] : Lg) (s6 + 1)).2.1.length)), .pin (sblks lx_36) (fun w => Lgs w lx_36 ((laC id df n 0 ([] : Lg) (s6 + 1)).2.1)), .view a_11 (df.map vu8), .blk b_14 .nw 112 [(1, [(.slice a_15 gn gn)])], .row a_15 gn gn 76 128 ((mid (fillL fd gn (min fn gn)) (p + 64) (p + 8192) (laC id df n 0 ([] : Lg) s6).2.2).map vu8), .blk b_16 .nw 95 [(1, [(.slice a_17 (128 * gn) (128 * gn))])], .view fa (fd.map vu8), .blk b_1 .nw 28 [(1, [(.bool id)]), (32, ms.map vu8), (1, [(.slice da0 n cap0)]), (1, [(vn gn)]), (1, [(.slice fa fn fc)]), (1, [(vu64 (UInt64.ofNat p))])]]) (.q 0 (.q 1 (.q 2 (.q 3 (.q 4 (.s 5 (.q 6 (.q 7 (.q 8 (.s 9 (.q 10 (.q 11 (.q 12 (.q 13 (.q 14 (.q 15 (.s 16 (.q 17 (.q 18 (.q 19 (.q 20 (.q 21 (.s 22 (.q 23 (.q 24 (.q 25 (.q 26 (.q 28 (.q 29 (.q 30 (.s2 27 31 (.s 31 (.s 32 (.q 33 (.q 34 .nil)))) (.s 27 (.s 32 (.q 33 (.q 34 .nil))))))))))))))))))))))))))))))))))) (by kernel_rfl) (by kernel_rfl) rfl (by kernel_rfl) (fun w_55 hc_57 => (SL.cons ((h_54.same hc_57).ok _ M0) (SL.cons ((h_54.same hc_57).ok _ M1) (SL.cons ((h_54.same hc_57).ok _ M2) (SL.cons ((h_54.same hc_57).ok _ M3) (SL.cons ((h_54.same hc_57).ok _ M4) (SL.cons ((h_54.same hc_57).ok _ M5) (SL.cons ((h_54.same hc_57).ok _ M6) (SL.cons ((h_54.same hc_57).ok _ M7) (SL.cons ((h_54.same hc_57).ok _ M8) (SL.cons ((h_54.same hc_57).ok _ M12) (SL.cons ((h_54.same hc_57).ok _ M15) (SL.cons ((h_54.same hc_57).ok _ M16) (SL.nil _ _)))))))))))))) (fun w_55 hc_57 => ?_)
  have h_56 := h_54.same hc_57
  refine qT rfl rfl (fun wq hS => R.loadA [] [(32, ((laC id df n 0 ([] : Lg) (s6 + 1)).2.2.take 32).map vu8)] [] (cs := ((laC id df n 0 ([] : Lg) (s6 + 1)).2.2.take 32).map vu8) rfl isAgg23 sizeOf23 (hS _ M1) rfl rfl rfl rfl) ?_
  refine qT rfl rfl (fun wq hS => R.move (v := (pO b_13 0)) rfl) ?_
  refine qT rfl rfl (fun wq hS => R.move (v := (pO b_16 0)) rfl) ?_
  refine qT rfl rfl (fun wq hS => R.fieldAddr (off' := 36) rfl underlying28 rfl sizeOf26 rfl rfl) ?_
  refine qT rfl rfl (fun wq hS => R.load1 rfl isAgg26 (hS _ M11) (Sg.t rfl (Sg.t rfl (Sg.t rfl (Sg.t rfl (Sg.t rfl Sg.h)))))) ?_
  refine WT.s (oN rfl ?_)
  have h_63 := (((((h_56.up J13).up J13).up J14).up J13).up J13).up J14
  refine WL.call Tryz.call25 rfl rfl (c_rLay id b_13 ms df hms da0 n cap0 0 hl none 0 [] ([] : Lg) (by first | decide | omega | exact Nat.le_trans (laC_u ..) (by omega)) (by first | decide | omega | exact Nat.le_trans (laC_l ..) (by simp only [List.length_nil]; omega)) b_16 a_17 gn (by omega) (by omega) p (by omega) (fillL fd gn (min fn gn)) (fillL_len hfl (Nat.min_le_right ..) (Nat.min_le_left ..)) s6 hs6 _ h_63) rfl ?_
  rintro _ w_67 ⟨la_64, lc_65, lx_66, rfl, h_68⟩
  refine WL.nil ?_
  refine ⟨(N6_7_8_9_10_11_12_13_14_4_15_16 h_68.ok), ?_⟩
  refine qT rfl rfl (fun wq hS => R.neA (xs := ((laC id df n 0 ([] : Lg) (s6 + 1)).2.2.take 32).map vu8) (ys := ((laC id df n 0 ([] : Lg) (s6 + 1)).2.2.take 32).map vu8) (r := false) rfl rfl eqGuardType23 kt23 (by decide) ag23 (Typ.u8s underlying23 ce23 underlying5 ce5 (by rw [List.length_take, laC_len hl okN]; omega)) (Typ.u8s underlying23 ce23 underlying5 ce5 (by rw [List.length_take, laC_len hl okN]; omega)) (neT rfl)) ?_
  refine qT rfl rfl (fun wq hS => R.move (v := (.bool false)) rfl) ?_
  refine WT.q rfl (Wn.yes rfl rfl rfl) rfl rfl (fun wq hS => R.move (v := (vi 0)) rfl) ?_
  refine WT.s ?_
  refine Op1.one rfl (Wn.yes rfl rfl rfl) ?_
  refine WL.call Tryz.call17 rfl rfl (c_num15 0 (by omega) _ ) rfl ?_
  rintro _ w_70 ⟨rfl, hc_69⟩
  have h_71 := h_68.same hc_69
  refine WL.nil ?_
  refine ⟨(N6_7_8_9_10_11_12_13_14_4_15_16 h_71.ok), ?_⟩
  refine WT.q rfl (Wn.yes rfl rfl rfl) rfl rfl (fun wq hS => R.bin rfl rfl (bi_neq (r := false) (by decide))) ?_
  refine qT rfl rfl (fun wq hS => R.pickF (v := (.bool false)) rfl rfl) ?_
  refine qT rfl rfl (fun wq hS => R.move (v := (.bool false)) rfl) ?_
  refine WT.q rfl (Wn.yes rfl rfl rfl) rfl rfl (fun wq hS => R.move (v := (pO b_14 0)) rfl) ?_
  refine WT.q rfl (Wn.yes rfl rfl rfl) rfl rfl (fun wq hS => R.fieldAddr (off' := 36) rfl underlying28 rfl sizeOf26 rfl rfl) ?_
  refine WT.q rfl (Wn.yes rfl rfl rfl) rfl rfl (fun wq hS => R.load1 rfl isAgg26 (hS _ M11) (Sg.t rfl (Sg.t rfl (Sg.t rfl (Sg.t rfl (Sg.t rfl Sg.h)))))) ?_
  refine WT.s ?_
  refine Op1.one rfl (Wn.yes rfl rfl rfl) ?_
  refine WL.call Tryz.call23 rfl rfl (c_WithinB b_14 a_15 gn (UInt64.ofNat p) (by omega) _ (h_71.argR M13)) rfl ?_
  rintro _ w_73 ⟨rfl, hc_72⟩
  have h_74 := h_71.same hc_72
  refine WL.nil ?_
  refine ⟨(N6_7_8_9_10_11_12_13_14_4_15_16 h_74.ok), ?_⟩
  refine WT.q rfl (Wn.yes rfl rfl rfl) rfl rfl (fun wq hS => R.not (b := true) (congrArg Value.bool hwn)) ?_
  refine qT rfl rfl (fun wq hS => R.pickF (v := (.bool false)) rfl rfl) ?_
  refine qT rfl rfl (fun wq hS => R.move (v := (.bool false)) rfl) ?_
  refine WT.q rfl (Wn.yes rfl rfl rfl) rfl rfl (fun wq hS => R.move (v := (pO b_14 0)) rfl) ?_
  refine WT.q rfl (Wn.yes rfl rfl rfl) rfl rfl (fun wq hS => R.move (v := (pO b_16 0)) rfl) ?_
  refine WT.s ?_
  refine Op1.one rfl (Wn.yes rfl rfl rfl) ?_
  refine WL.call Tryz.call24 rfl rfl (c_sameM b_14 b_16 a_15 a_17 gn (by omega) (by omega) (mid (fillL fd gn (min fn gn)) (p + 64) (p + 8192) (laC id df n 0 ([] : Lg) s6).2.2) (mid_len (fillL_len hfl (Nat.min_le_right ..) (Nat.min_le_left ..)) (by rw [laC_len hl okN]; omega) (by omega)) _ (h_74.argR M13) (ownView (h_74.ok _ M14)) (h_74.argR M4) (ownView (h_74.ok _ M5))) rfl ?_
  rintro _ w_76 ⟨rfl, hc_75⟩
  have h_77 := h_74.same hc_75
  refine WL.nil ?_
  refine ⟨(N6_7_8_9_10_11_12_13_14_4_15_16 h_77.ok), ?_⟩
  refine WT.q rfl (Wn.yes rfl rfl rfl) rfl rfl (fun wq hS => R.not (b := true) rfl) ?_
  refine qT rfl rfl (fun wq hS => R.pickF (v := (.bool false)) rfl rfl) ?_
  refine qT rfl rfl (fun wq hS => R.move (v := (.bool false)) rfl) ?_
  refine WT.q rfl (Wn.yes rfl rfl rfl) rfl rfl (fun wq hS => R.move (v := (pO b_9 0)) rfl) ?_
  refine WT.q rfl (Wn.yes rfl rfl rfl) rfl rfl (fun wq hS => R.move (v := (pO b_13 0)) rfl) ?_
  refine WT.q rfl (Wn.yes rfl rfl rfl) rfl rfl (fun wq hS => R.nilCheck rfl) ?_
  refine WT.q rfl (Wn.yes rfl rfl rfl) rfl rfl (fun wq hS => R.fieldAddr (off' := 35) rfl underlying61 rfl sizeOf58 rfl rfl) ?_
  refine WT.s2 ?_ ?_
  ·refine Op1.one rfl (Wn.yes rfl rfl rfl) ?_
   have h_82 := ((((h_77.up J12).up J12).up J12).up J12).up J12
   refine WL.call Tryz.call27 rfl rfl (c_oLog id b_9 b_10 ms df hms a_11 n c_12 ((laC id df n 0 ([] : Lg) (s6 + 1)).1) hl la_34 lc_35 lx_36 ((laC id df n 0 ([] : Lg) (s6 + 1)).2.1) (by first | decide | omega | exact Nat.le_trans (laC_u ..) (by omega)) (by first | decide | omega | exact Nat.le_trans (laC_l ..) (by simp only [List.length_nil]; omega)) _ h_82) rfl ?_
   rintro _ w_86 ⟨a_83, c_84, ys_85, rfl, h_87⟩
   refine WL.nil ?_
   refine ⟨(N13_14_2_3_4_5_6_15_16_11_17_18 h_87.ok), ?_⟩
   refine WT.s ?_
   refine Op1.one rfl (Wn.yes rfl rfl rfl) ?_
   refine qV rfl (R.load1 rfl isAgg58 (h_87.ok _ M7) (Sg.t rfl (Sg.t rfl (Sg.t rfl (Sg.t rfl Sg.h))))) ?_
   refine WL.nil ?_
   refine ⟨(N13_14_2_3_4_5_6_15_16_11_17_18 h_87.ok), ?_⟩
   refine WT.s ?_
   refine Op1.one rfl (Wn.yes rfl rfl rfl) ?_
   refine WL.call Tryz.call26 rfl rfl (c_rSameLog a_83 ((laC id df n 0 ([] : Lg) (s6 + 1)).2.1.length) c_84 ys_85 ((laC id df n 0 ([] : Lg) (s6 + 1)).2.1) rfl (Nat.le_trans (laC_l (s6 + 1)) (by simp only [List.length_nil]; omega)) la_64 lc_65 lx_66 _ (ownView (h_87.ok _ M0)) (h_87.ok _ M1).1 (ownView (h_87.ok _ M8)) (h_87.ok _ M9).1) rfl ?_
   rintro _ w_89 ⟨rfl, hc_88⟩
   have h_90 := h_87.same hc_88
   refine WL.nil ?_
   refine ⟨(N13_14_2_3_4_5_6_15_16_11_17_18 h_90.ok), ?_⟩
   refine WT.q rfl (Wn.yes rfl rfl rfl) rfl rfl (fun wq hS => R.not (b := true) (rfl)) ?_
   refine qT rfl rfl (fun wq hS => R.pickF (v := (.bool false)) rfl rfl) ?_
   refine WT.nil (thn_n ?_)
   exact ⟨(a_83, c_84, la_64, lc_65, ys_85, lx_66), (Ag.upd rfl (U2 rfl rfl (U4 rfl rfl rfl rfl (U4 rfl rfl rfl rfl (U4 rfl rfl rfl rfl (U4 rfl rfl rfl rfl (U4 rfl rfl rfl rfl (U4 rfl rfl rfl rfl (U4 rfl rfl rfl rfl (U4 rfl rfl rfl rfl (Ag.refl _ _))))))))))), ⟨rfl, rfl, rfl, rfl, rfl, rfl, rfl, rfl, rfl, rfl, rfl, rfl, rfl, rfl, rfl, rfl, (congrArg Value.bool hwn), rfl, rfl, rfl, rfl, rfl, rfl, rfl, rfl, rfl, rfl, rfl, rfl, rfl, rfl, rfl, (rfl), rfl, rfl, trivial⟩, h_90⟩
  ·refine Op1.one rfl (Wn.yes rfl rfl rfl) ?_
   refine qV rfl (R.load1 rfl isAgg58 (h_77.ok _ M0) (Sg.t rfl (Sg.t rfl (Sg.t rfl (Sg.t rfl Sg.h))))) ?_
   refine WL.nil ?_
   refine ⟨(N6_7_8_9_10_11_12_13_14_4_15_16 h_77.ok), ?_⟩
   refine WT.s ?_
   refine Op1.one rfl (Wn.yes rfl rfl rfl) ?_
   have h_95 := ((((h_77.up J12).up J12).up J12).up J12).up J12
   refine WL.call Tryz.call27 rfl rfl (c_oLog id b_9 b_10 ms df hms a_11 n c_12 ((laC id df n 0 ([] : Lg) (s6 + 1)).1) hl la_34 lc_35 lx_36 ((laC id df n 0 ([] : Lg) (s6 + 1)).2.1) (by first | decide | omega | exact Nat.le_trans (laC_u ..) (by omega)) (by first | decide | omega | exact Nat.le_trans (laC_l ..) (by simp only [List.length_nil]; omega)) _ h_95) rfl ?_
   rintro _ w_99 ⟨a_96, c_97, ys_98, rfl, h_100⟩
   refine WL.nil ?_
   refine ⟨(N13_14_2_3_4_5_6_15_16_11_17_18 h_100.ok), ?_⟩
   refine WT.s ?_
   refine Op1.one rfl (Wn.yes rfl rfl rfl) ?_
   refine WL.call Tryz.call26 rfl rfl (c_rSameLog a_96 ((laC id df n 0 ([] : Lg) (s6 + 1)).2.1.length) c_97 ys_98 ((laC id df n 0 ([] : Lg) (s6 + 1)).2.1) rfl (Nat.le_trans (laC_l (s6 + 1)) (by simp only [List.length_nil]; omega)) la_64 lc_65 lx_66 _ (ownView (h_100.ok _ M0)) (h_100.ok _ M1).1 (ownView (h_100.ok _ M8)) (h_100.ok _ M9).1) rfl ?_
   rintro _ w_102 ⟨rfl, hc_101⟩
   have h_103 := h_100.same hc_101
   refine WL.nil ?_
   refine ⟨(N13_14_2_3_4_5_6_15_16_11_17_18 h_103.ok), ?_⟩
   refine WT.q rfl (Wn.yes rfl rfl rfl) rfl rfl (fun wq hS => R.not (b := true) (rfl)) ?_
   refine qT rfl rfl (fun wq hS => R.pickF (v := (.bool false)) rfl rfl) ?_
   refine WT.nil (thn_n ?_)
   exact ⟨(a_96, c_97, la_64, lc_65, ys_98, lx_66), (Ag.upd rfl (U2 rfl rfl (U4 rfl rfl rfl rfl (U4 rfl rfl rfl rfl (U4 rfl rfl rfl rfl (U4 rfl rfl rfl rfl (U4 rfl rfl rfl rfl (U4 rfl rfl rfl rfl (U4 rfl rfl rfl rfl (U4 rfl rfl rfl rfl (Ag.refl _ _))))))))))), ⟨rfl, rfl, rfl, rfl, rfl, rfl, rfl, rfl, rfl, rfl, rfl, rfl, rfl, rfl, rfl, rfl, (congrArg Value.bool hwn), rfl, rfl, rfl, rfl, rfl, rfl, rfl, rfl, rfl, rfl, rfl, rfl, rfl, rfl, rfl, (rfl), rfl, rfl, trivial⟩, h_103⟩
 ·rintro ⟨a_107, c_108, la_109, lc_110, ys_111, lx_112⟩ J_104 w_105 h_106
  refine thn_n ?_
  refine WP.condF rfl ?_
  refine WP.skip (thn_n (WP.seq (WP.seq (WP.reg ?_))))
  refine qM (vi i) rfl rfl (qV rfl (R.bin rfl rfl (bi_lss (r := decide ((i : Int) < 2)) rfl)) (qM (.bool (decide ((i : Int) < 2))) rfl rfl ?_))
  refine WL.want rfl (congrArg Value.bool (decide_eq_false (by omega))) ?_
  refine qM (vi i) rfl rfl ?_
  refine WL.want rfl (congrArg Value.bool (decide_eq_false (by omega))) ?_
  refine qV rfl (R.bin rfl rfl (bi_gtr (r := decide ((i : Int) > 255)) rfl)) (qV rfl (R.pickF (v := (.bool (decide ((i : Int) > 255)))) (congrArg Value.bool (decide_eq_false (by omega))) rfl) ?_)
  refine WL.nil (thn_n ?_)
  refine WP.condT (congrArg Value.bool (decide_eq_true (by omega))) ?_
  refine WP.seq (WP.reg ?_)
  refine qV rfl (R.loadA [] [(32, (zB 32).map vu8)] [] (cs := (zB 32).map vu8) rfl isAgg23 sizeOf23 (h_106.ok _ M13) rfl rfl rfl rfl) (qV rfl (R.buildA (vs := []) (cs := (zB 32).map vu8) underlying23 sizeOf5 (zv typeInfo23 rfl) rfl rfl) (qV rfl (R.eqA (xs := (zB 32).map vu8) (ys := (zB 32).map vu8) (r := true) rfl rfl eqGuardType23 kt23 (by decide) ag23 (Typ.u8s underlying23 ce23 underlying5 ce5 lr) (Typ.u8s underlying23 ce23 underlying5 ce5 lr) (eqT rfl)) (qM (.bool true) rfl rfl ?_)))
  refine WL.want rfl rfl ?_
  refine qM (vi 2) rfl rfl ?_
  refine WL.want rfl rfl ?_
  refine WL.call Tryz.call17 rfl rfl (c_num15 2 (by omega) _ ) rfl ?_
  rintro _ w_114 ⟨rfl, hc_113⟩
  have h_115 := h_106.same hc_113
  refine WL.want rfl rfl ?_
  refine qV rfl (R.bin rfl rfl (bi_eql (r := true) (by decide))) (qV rfl (R.pickT (v := (.bool true)) rfl rfl) (qM (.bool true) rfl rfl ?_))
  refine WL.want rfl rfl ?_
  refine WL.call Tryz.call7 rfl rfl (c_known15  _ ) rfl ?_
  rintro _ w_117 ⟨rfl, hc_116⟩
  have h_118 := h_115.same hc_116
  refine qV rfl (R.pickT (v := (.bool true)) rfl rfl) (qA (.bool true) rfl rfl ?_)
  refine WL.nil (thn_n (WP.ret (thn_r ?_)))
  refine ret_of results4 (RV.tmp (v := (.bool true)) rfl RV.nil) ?_
  exact ⟨rfl, h_118.chgS⟩

theorem w_TL_t (id : Bool) (ms df : List UInt8) (hms : ms.length = 32) (da0 : Option Addr) (n cap0 : Nat) (hl : df.length = 32 * n) (fa : Option Addr) (fn fc : Nat) (fd : List UInt8) (hfl : fd.length = 128 * fn) (gn : Nat) (hs : n ≤ 700 ∧ 1 ≤ gn ∧ gn ≤ 80 ∧ fn ≤ 80) (p : Nat) (hwn : wnB gn (UInt64.ofNat p) = true) (hp : p % 128 = 0) (hw : p + 8192 ≤ 128 * gn) (s6 : Nat) (hs6 : s6 = 126) (i : Nat) (hi : 2 ≤ i ∧ i ≤ 255) (w : World) (hv : View w da0 (df.map vu8)) (hvf : View w fa (fd.map vu8)) :
  Cs Tryz.prog 4 [(.agg ⟨flat [(1, [(.bool id)]), (32, ms.map vu8), (1, [(.slice da0 n cap0)]), (1, [(vi ((gn : Nat) : Int))]), (1, [(.slice fa fn fc)]), (1, [(vu64 (UInt64.ofNat p))])]⟩), (vi ((i : Nat) : Int))].toArray w (fun v w1 => v = (.bool true) ∧ Chg w w1 []) := by
 refine Cs.of (n := 150) (args := [(.agg ⟨flat [(1, [(.bool id)]), (32, ms.map vu8), (1, [(.slice da0 n cap0)]), (1, [(vn gn)]), (1, [(.slice fa fn fc)]), (1, [(vu64 (UInt64.ofNat p))])]⟩), (vn i)]) Tryz.func4 rfl rfl rfl ?_
 have h_0 := HP.init w
 have h_01 := h_0.oldV (View.arg hv) rfl (by simp [Ent.mut])
 have h_00 := h_01.oldV (View.arg hvf) rfl (by simp [Ent.mut])
 refine WP.seq (WP.reg ?_)
 refine WL.box (segs := [(1, [(.bool id)]), (32, ms.map vu8), (1, [(.slice da0 n cap0)]), (1, [(vn gn)]), (1, [(.slice fa fn fc)]), (1, [(vu64 (UInt64.ofNat p))])]) h_00 rfl rfl (sC sV (sC (s8 hms) (sC sV (sC sV (sC sV (sC sV sN)))))) rfl (fun b_1 w_2 h_3 => ?_)
 refine qA (.bool false) rfl rfl ?_
 refine WL.nil (thn_n (WP.seq (WP.seq (WP.reg ?_))))
 refine qV rfl (R.loadA [] [(1, [(.bool id)]), (32, ms.map vu8), (1, [(.slice da0 n cap0)]), (1, [(vn gn)]), (1, [(.slice fa fn fc)]), (1, [(vu64 (UInt64.ofNat p))])] [] rfl isAgg28 sizeOf28 (h_3.ok _ M0) rfl rfl rfl rfl) ?_
 refine WL.call Tryz.call6 rfl rfl (c_small_t id ms df hms da0 n cap0 hl fa fn fc fd hfl (UInt64.ofNat p) gn hs _ ) rfl ?_
 rintro _ w_5 ⟨rfl, hc_4⟩
 have h_6 := h_3.same hc_4
 refine qV rfl (R.not (b := true) rfl) ?_
 refine WL.nil (thn_n ?_)
 refine WP.condF rfl ?_
 refine WP.skip (thn_n (WP.seq (WP.reg ?_)))
 refine qV rfl (R.loadA [] [(1, [(.bool id)]), (32, ms.map vu8), (1, [(.slice da0 n cap0)]), (1, [(vn gn)]), (1, [(.slice fa fn fc)]), (1, [(vu64 (UInt64.ofNat p))])] [] rfl isAgg28 sizeOf28 (h_6.ok _ M0) rfl rfl rfl rfl) ?_
 have h_8 := (h_6.up J1).up J2
 refine WL.call Tryz.call8 rfl rfl (c_two id ms df hms da0 n cap0 hl fa fn fc fd hfl (UInt64.ofNat p) gn hs _ h_8) rfl ?_
 rintro _ w_18 ⟨b_9, b_10, a_11, c_12, b_13, b_14, a_15, b_16, a_17, rfl, h_19⟩
 have h_20 := h_19.rowNil 102 67
 have h_21 := HP_logNil h_20
 refine qM (.tuple [(pO b_9 0), (pO b_14 0), (pO b_13 0), (pO b_16 0), (.bool true)].toArray) rfl rfl (qV rfl (R.extract rfl rfl) (qV rfl (R.extract rfl rfl) (qV rfl (R.extract rfl rfl) (qV rfl (R.extract rfl rfl) (qV rfl (R.extract rfl rfl) (qA (pO b_9 0) rfl rfl (qA (pO b_14 0) rfl rfl (qA (pO b_13 0) rfl rfl (qA (pO b_16 0) rfl rfl (qA (.bool true) rfl rfl ?_))))))))))
 refine WL.nil (thn_n (WP.seq (WP.seq (WP.reg ?_))))
 refine qM (.bool true) rfl rfl (qV rfl (R.not (b := true) rfl) ?_)
 refine WL.nil (thn_n ?_)
 refine WP.condF rfl ?_
 refine WP.skip (thn_n (WP.seq (WP.reg ?_)))
 refine qM (pO b_9 0) rfl rfl (qM (pO b_14 0) rfl rfl (qV rfl (R.fieldAddr (off' := 36) rfl underlying28 rfl sizeOf26 rfl rfl) (qV rfl (R.load1 rfl isAgg26 (h_21.ok _ M14) (Sg.t rfl (Sg.t rfl (Sg.t rfl (Sg.t rfl (Sg.t rfl Sg.h)))))) ?_)))
 have h_33 := (((((((((((h_21.up J6).up J1).up J5).up J3).up J4).up J9).up J9).up J6).up J6).up J6).up J6).up J6
 refine WL.call Tryz.call20 rfl rfl (c_LayT id b_9 b_10 ms df hms a_11 n c_12 0 hl none 0 [] ([] : Lg) (by first | decide | omega | exact Nat.le_trans (laC_u ..) (by omega)) (by first | decide | omega | exact Nat.le_trans (laC_l ..) (by simp only [List.length_nil]; omega)) b_14 a_15 gn (by omega) (by omega) p (by omega) (by omega) (fillL fd gn (min fn gn)) (fillL_len hfl (Nat.min_le_right ..) (Nat.min_le_left ..)) hwn s6 hs6 _ h_33) rfl ?_
 rintro _ w_37 ⟨la_34, lc_35, lx_36, rfl, h_38⟩
 refine qM (.tuple [(.agg ⟨((laC id df n 0 ([] : Lg) (s6 + 1)).2.2.take 32).map vu8⟩), (vi 0)].toArray) rfl rfl (qV rfl (R.extract rfl rfl) (qV rfl (R.extract rfl rfl) ?_))
 refine WL.alloc (segs := [(32, (zB 32).map vu8)]) h_38 (zv typeInfo23 rfl) rfl (sC (s8 lr) sN) rfl (fun b_39 w_40 h_41 => ?_)
 refine WL.storeA [] [(32, (zB 32).map vu8)] [(32, ((laC id df n 0 ([] : Lg) (s6 + 1)).2.2.take 32).map vu8)] [] h_41 rfl rfl sizeOf23 At.h (by decide) rfl rfl rfl rfl rfl rfl (sC (s8 (by rw [List.length_take, laC_len hl okN]; omega)) sN) (fun w_42 h_43 => ?_)
 refine qA (vi 0) rfl rfl ?_
 refine WL.nil (thn_n (WP.seq (WP.reg ?_)))
 refine qM (pO b_14 0) rfl rfl (qV rfl (R.fieldAddr (off' := 36) rfl underlying28 rfl sizeOf26 rfl rfl) (qV rfl (R.load1 rfl isAgg26 (h_43.ok _ M15) (Sg.t rfl (Sg.t rfl (Sg.t rfl (Sg.t rfl (Sg.t rfl Sg.h)))))) (qM (vn i) rfl rfl ?_)))
 refine WL.call Tryz.call21 rfl rfl (c_AtT b_14 a_15 gn p i (by omega) hi (by omega) (by omega) (mid (fillL fd gn (min fn gn)) (p + 64) (p + 8192) (laC id df n 0 ([] : Lg) s6).2.2) (mid_len (fillL_len hfl (Nat.min_le_right ..) (Nat.min_le_left ..)) (by rw [laC_len hl okN]; omega) (by omega)) hwn _ (h_43.argR M6) (ownView (h_43.ok _ M7))) rfl ?_
 rintro _ w_45 ⟨rfl, hc_44⟩
 have h_46 := h_43.same hc_44
 refine qM (.tuple [(.agg ⟨(((mid (fillL fd gn (min fn gn)) (p + 64) (p + 8192) (laC id df n 0 ([] : Lg) s6).2.2).drop (p + 32 * i)).take 32).map vu8⟩), (vi 0)].toArray) rfl rfl (qV rfl (R.extract rfl rfl) (qV rfl (R.extract rfl rfl) ?_))
 refine WL.alloc (segs := [(32, (zB 32).map vu8)]) h_46 (zv typeInfo23 rfl) rfl (sC (s8 lr) sN) rfl (fun b_47 w_48 h_49 => ?_)
 refine WL.storeA [] [(32, (zB 32).map vu8)] [(32, (((mid (fillL fd gn (min fn gn)) (p + 64) (p + 8192) (laC id df n 0 ([] : Lg) s6).2.2).drop (p + 32 * i)).take 32).map vu8)] [] h_49 rfl rfl sizeOf23 At.h (by decide) rfl rfl rfl rfl rfl rfl (sC (s8 (subLen (K := 128 * gn) (mid_len (fillL_len hfl (Nat.min_le_right ..) (Nat.min_le_left ..)) (by rw [laC_len hl okN]; omega) (by omega)) (by omega) : List.length (((mid (fillL fd gn (min fn gn)) (p + 64) (p + 8192) (laC id df n 0 ([] : Lg) s6).2.2).drop (p + 32 * i)).take 32) = 32)) sN) (fun w_50 h_51 => ?_)
 refine qA (vi 0) rfl rfl ?_
 refine WL.nil (thn_n (WP.seq (WP.seq (WP.reg ?_))))
 refine qV rfl (R.fieldAddr (off' := 34) rfl underlying28 rfl sizeOf3 rfl rfl) (qV rfl (R.load1 rfl isAgg3 (h_51.ok _ M16) (Sg.t rfl (Sg.t rfl (Sg.t rfl Sg.h)))) (qV rfl (R.fieldAddr (off' := 36) rfl underlying28 rfl sizeOf26 rfl rfl) (qV rfl (R.load1 rfl isAgg26 (h_51.ok _ M16) (Sg.t rfl (Sg.t rfl (Sg.t rfl (Sg.t rfl (Sg.t rfl Sg.h)))))) ?_)))
 refine WL.call Tryz.call22 rfl rfl (c_rWithin gn (UInt64.ofNat p) (by omega) _ ) rfl ?_
 rintro _ w_53 ⟨rfl, hc_52⟩
 have h_54 := h_51.same hc_52
 refine qV rfl (R.not (b := true) (congrArg Value.bool hwn)) ?_
 refine WL.nil (thn_n ?_)
 refine WP.condF rfl ?_
 refine WP.skip (thn_n (WP.seq (WP.seq ?_)))
 refine WP.cutG (G := Option Addr × Nat × Option Addr × Nat × List Value × List Value) [83, 84, 85, 86, 87, 88, 89, 90, 91, 92, 93, 94, 95, 96, 97, 98, 99, 100, 101, 102, 103, 104, 105, 106, 107, 108, 109, 110, 111, 112, 113, 114, 115, 116, 117] (fun (aY10Y27Y0Y0, cY10Y27Y0Y0, laY10Y5Y0Y0, lcY10Y5Y0Y0, ysY10Y27Y0Y0, lxY10Y5Y0Y0) => [(83, (.agg ⟨((laC id df n 0 ([] : Lg) (s6 + 1)).2.2.take 32).map vu8⟩)), (84, (pO b_13 0)), (85, (pO b_16 0)), (86, (pO b_1 36)), (87, (vu64 (UInt64.ofNat p))), (88, (.agg ⟨((laC id df n 0 ([] : Lg) (s6 + 1)).2.2.take 32).map vu8⟩)), (89, (.bool false)), (90, (.bool false)), (91, (vi 0)), (92, (vi 0)), (93, (.bool false)), (94, (.bool false)), (95, (.bool false)), (96, (pO b_14 0)), (97, (pO b_1 36)), (98, (vu64 (UInt64.ofNat p))), (99, (.bool true)), (100, (.bool false)), (101, (.bool false)), (102, (.bool false)), (103, (pO b_14 0)), (104, (pO b_16 0)), (105, (.bool true)), (106, (.bool false)), (107, (.bool false)), (108, (.bool false)), (109, (pO b_9 0)), (111, (pO b_13 0)), (112, (pO b_13 0)), (113, (pO b_13 35)), (110, (.slice aY10Y27Y0Y0 ((laC id df n 0 ([] : Lg) (s6 + 1)).2.1.length) cY10Y27Y0Y0)), (114, (.slice laY10Y5Y0Y0 ((laC id df n 0 ([] : Lg) (s6 + 1)).2.1.length) lcY10Y5Y0Y0)), (115, (.bool true)), (116, (.bool false)), (117, (.bool false))]) (fun (aY10Y27Y0Y0, cY10Y27Y0Y0, laY10Y5Y0Y0, lcY10Y5Y0Y0, ysY10Y27Y0Y0, lxY10Y5Y0Y0) w1 => HP w w1 [.row aY10Y27Y0Y0 ((laC id df n 0 ([] : Lg) (s6 + 1)).2.1.length) cY10Y27Y0Y0 102 67 ysY10Y27Y0Y0, .pin (sblks ysY10Y27Y0Y0) (fun w => Lgs w ysY10Y27Y0Y0 ((laC id df n 0 ([] : Lg) (s6 + 1)).2.1)), .blk b_9 .nw 106 [(1, [(.bool id)]), (32, ms.map vu8), (1, [(.slice a_11 n c_12)]), (1, [(vn ((laC id df n 0 ([] : Lg) (s6 + 1)).1))]), (1, [(.map (some b_10))]), (1, [(.slice la_34 ((laC id df n 0 ([] : Lg) (s6 + 1)).2.1.length) lc_35)])], .row la_34 ((laC id df n 0 ([] : Lg) (s6 + 1)).2.1.length) lc_35 102 67 lx_36, .obj b_10 .nw (.map (mArr ((laC id df n 0 ([] : Lg) (s6 + 1)).2.1)) ((laC id df n 0 ([] : Lg) (s6 + 1)).2.1.length)), .pin (sblks lx_36) (fun w => Lgs w lx_36 ((laC id df n 0 ([] : Lg) (s6 + 1)).2.1)), .view a_11 (df.map vu8), .blk b_13 .nw 61 [(1, [(.bool id)]), (32, ms.map vu8), (1, [(.slice da0 n cap0)]), (1, [(vn ((laC id df n 0 ([] : Lg) (s6 + 1)).1))]), (1, [(.slice laY10Y5Y0Y0 ((laC id df n 0 ([] : Lg) (s6 + 1)).2.1.length) lcY10Y5Y0Y0)])], .row laY10Y5Y0Y0 ((laC id df n 0 ([] : Lg) (s6 + 1)).2.1.length) lcY10Y5Y0Y0 102 67 lxY10Y5Y0Y0, .pin (sblks lxY10Y5Y0Y0) (fun w => Lgs w lxY10Y5Y0Y0 ((laC id df n 0 ([] : Lg) (s6 + 1)).2.1)), .view da0 (df.map vu8), .blk b_16 .nw 95 [(1, [(.slice a_17 (128 * gn) (128 * gn))])], .row a_17 (128 * gn) (128 * gn) 5 1 ((mid (fillL fd gn (min fn gn)) (p + 64) (p + 8192) (laC id df n 0 ([] : Lg) s6).2.2).map vu8), .blk b_47 .nw 23 [(32, (((mid (fillL fd gn (min fn gn)) (p + 64) (p + 8192) (laC id df n 0 ([] : Lg) s6).2.2).drop (p + 32 * i)).take 32).map vu8)], .blk b_39 .nw 23 [(32, ((laC id df n 0 ([] : Lg) (s6 + 1)).2.2.take 32).map vu8)], .blk b_14 .nw 112 [(1, [(.slice a_15 gn gn)])], .row a_15 gn gn 76 128 ((mid (fillL fd gn (min fn gn)) (p + 64) (p + 8192) (laC id df n 0 ([] : Lg) s6).2.2).map vu8), .view fa (fd.map vu8), .blk b_1 .nw 28 [(1, [(.bool id)]), (32, ms.map vu8), (1, [(.slice da0 n cap0)]), (1, [(vn gn)]), (1, [(.slice fa fn fc)]), (1, [(vu64 (UInt64.ofNat p))])]]) ?_ ?_
 ·refine WP.drawT (SL w.heap.size [.blk b_47 .nw 23 [(32, (((mid (fillL fd gn (min fn gn)) (p + 64) (p + 8192) (laC id df n 0 ([] : Lg) s6).2.2).drop (p + 32 * i)).take 32).map vu8)], .blk b_39 .nw 23 [(32, ((laC id df n 0 ([] : Lg) (s6 + 1)).2.2.take 32).map vu8)], .blk b_9 .nw 106 [(1, [(.bool id)]), (32, ms.map vu8), (1, [(.slice a_11 n c_12)]), (1, [(vn ((laC id df n 0 ([] : Lg) (s6 + 1)).1))]), (1, [(.map (some b_10))]), (1, [(.slice la_34 ((laC id df n 0 ([] : Lg) (s6 + 1)).2.1.length) lc_35)])], .row la_34 ((laC id df n 0 ([] : Lg) (s6 + 1)).2.1.length) lc_35 102 67 lx_36, .obj b_10 .nw (.map (mArr ((laC id df n 0 ([] : Lg) (s6 + 1)).2.1)) ((laC id df n 0 ([] : Lg) (s6 + 1)).2.1.length)), .pin (sblks lx_36) (fun w => Lgs w lx_36 ((laC id df n 0 ([] : Lg) (s6 + 1)).2.1)), .view a_11 (df.map vu8), .blk b_14 .nw 112 [(1, [(.slice a_15 gn gn)])], .row a_15 gn gn 76 128 ((mid (fillL fd gn (min fn gn)) (p + 64) (p + 8192) (laC id df n 0 ([] : Lg) s6).2.2).map vu8), .blk b_16 .nw 95 [(1, [(.slice a_17 (128 * gn) (128 * gn))])], .view fa (fd.map vu8), .blk b_1 .nw 28 [(1, [(.bool id)]), (32, ms.map vu8), (1, [(.slice da0 n cap0)]), (1, [(vn gn)]), (1, [(.slice fa fn fc)]), (1, [(vu64 (UInt64.ofNat p))])]]) (.q 0 (.q 1 (.q 2 (.q 3 (.q 4 (.s 5 (.q 6 (.q 7 (.q 8 (.s 9 (.q 10 (.q 11 (.q 12 (.q 13 (.q 14 (.q 15 (.s 16 (.q 17 (.q 18 (.q 19 (.q 20 (.q 21 (.s 22 (.q 23 (.q 24 (.q 25 (.q 26 (.q 28 (.q 29 (.q 30 (.s2 27 31 (.s 31 (.s 32 (.q 33 (.q 34 .nil)))) (.s 27 (.s 32 (.q 33 (.q 34 .nil))))))))))))))))))))))))))))))))))) (by kernel_rfl) (by kernel_rfl) rfl (by kernel_rfl) (fun w_55 hc_57 => (SL.cons ((h_54.same hc_57).ok _ M0) (SL.cons ((h_54.same hc_57).ok _ M1) (SL.cons ((h_54.same hc_57).ok _ M2) (SL.cons ((h_54.same hc_57).ok _ M3) (SL.cons ((h_54.same hc_57).ok _ M4) (SL.cons ((h_54.same hc_57).ok _ M5) (SL.cons ((h_54.same hc_57).ok _ M6) (SL.cons ((h_54.same hc_57).ok _ M7) (SL.cons ((h_54.same hc_57).ok _ M8) (SL.cons ((h_54.same hc_57).ok _ M12) (SL.cons ((h_54.same hc_57).ok _ M15) (SL.cons ((h_54.same hc_57).ok _ M16) (SL.nil _ _)))))))))))))) (fun w_55 hc_57 => ?_)
  have h_56 := h_54.same hc_57
  refine qT rfl rfl (fun wq hS => R.loadA [] [(32, ((laC id df n 0 ([] : Lg) (s6 + 1)).2.2.take 32).map vu8)] [] (cs := ((laC id df n 0 ([] : Lg) (s6 + 1)).2.2.take 32).map vu8) rfl isAgg23 sizeOf23 (hS _ M1) rfl rfl rfl rfl) ?_
  refine qT rfl rfl (fun wq hS => R.move (v := (pO b_13 0)) rfl) ?_
  refine qT rfl rfl (fun wq hS => R.move (v := (pO b_16 0)) rfl) ?_
  refine qT rfl rfl (fun wq hS => R.fieldAddr (off' := 36) rfl underlying28 rfl sizeOf26 rfl rfl) ?_
  refine qT rfl rfl (fun wq hS => R.load1 rfl isAgg26 (hS _ M11) (Sg.t rfl (Sg.t rfl (Sg.t rfl (Sg.t rfl (Sg.t rfl Sg.h)))))) ?_
  refine WT.s (oN rfl ?_)
  have h_63 := (((((h_56.up J13).up J13).up J14).up J13).up J13).up J14
  refine WL.call Tryz.call25 rfl rfl (c_rLay id b_13 ms df hms da0 n cap0 0 hl none 0 [] ([] : Lg) (by first | decide | omega | exact Nat.le_trans (laC_u ..) (by omega)) (by first | decide | omega | exact Nat.le_trans (laC_l ..) (by simp only [List.length_nil]; omega)) b_16 a_17 gn (by omega) (by omega) p (by omega) (fillL fd gn (min fn gn)) (fillL_len hfl (Nat.min_le_right ..) (Nat.min_le_left ..)) s6 hs6 _ h_63) rfl ?_
  rintro _ w_67 ⟨la_64, lc_65, lx_66, rfl, h_68⟩
  refine WL.nil ?_
  refine ⟨(N6_7_8_9_10_11_12_13_14_4_15_16 h_68.ok), ?_⟩
  refine qT rfl rfl (fun wq hS => R.neA (xs := ((laC id df n 0 ([] : Lg) (s6 + 1)).2.2.take 32).map vu8) (ys := ((laC id df n 0 ([] : Lg) (s6 + 1)).2.2.take 32).map vu8) (r := false) rfl rfl eqGuardType23 kt23 (by decide) ag23 (Typ.u8s underlying23 ce23 underlying5 ce5 (by rw [List.length_take, laC_len hl okN]; omega)) (Typ.u8s underlying23 ce23 underlying5 ce5 (by rw [List.length_take, laC_len hl okN]; omega)) (neT rfl)) ?_
  refine qT rfl rfl (fun wq hS => R.move (v := (.bool false)) rfl) ?_
  refine WT.q rfl (Wn.yes rfl rfl rfl) rfl rfl (fun wq hS => R.move (v := (vi 0)) rfl) ?_
  refine WT.s ?_
  refine Op1.one rfl (Wn.yes rfl rfl rfl) ?_
  refine WL.call Tryz.call17 rfl rfl (c_num15 0 (by omega) _ ) rfl ?_
  rintro _ w_70 ⟨rfl, hc_69⟩
  have h_71 := h_68.same hc_69
  refine WL.nil ?_
  refine ⟨(N6_7_8_9_10_11_12_13_14_4_15_16 h_71.ok), ?_⟩
  refine WT.q rfl (Wn.yes rfl rfl rfl) rfl rfl (fun wq hS => R.bin rfl rfl (bi_neq (r := false) (by decide))) ?_
  refine qT rfl rfl (fun wq hS => R.pickF (v := (.bool false)) rfl rfl) ?_
  refine qT rfl rfl (fun wq hS => R.move (v := (.bool false)) rfl) ?_
  refine WT.q rfl (Wn.yes rfl rfl rfl) rfl rfl (fun wq hS => R.move (v := (pO b_14 0)) rfl) ?_
  refine WT.q rfl (Wn.yes rfl rfl rfl) rfl rfl (fun wq hS => R.fieldAddr (off' := 36) rfl underlying28 rfl sizeOf26 rfl rfl) ?_
  refine WT.q rfl (Wn.yes rfl rfl rfl) rfl rfl (fun wq hS => R.load1 rfl isAgg26 (hS _ M11) (Sg.t rfl (Sg.t rfl (Sg.t rfl (Sg.t rfl (Sg.t rfl Sg.h)))))) ?_
  refine WT.s ?_
  refine Op1.one rfl (Wn.yes rfl rfl rfl) ?_
  refine WL.call Tryz.call23 rfl rfl (c_WithinB b_14 a_15 gn (UInt64.ofNat p) (by omega) _ (h_71.argR M13)) rfl ?_
  rintro _ w_73 ⟨rfl, hc_72⟩
  have h_74 := h_71.same hc_72
  refine WL.nil ?_
  refine ⟨(N6_7_8_9_10_11_12_13_14_4_15_16 h_74.ok), ?_⟩
  refine WT.q rfl (Wn.yes rfl rfl rfl) rfl rfl (fun wq hS => R.not (b := true) (congrArg Value.bool hwn)) ?_
  refine qT rfl rfl (fun wq hS => R.pickF (v := (.bool false)) rfl rfl) ?_
  refine qT rfl rfl (fun wq hS => R.move (v := (.bool false)) rfl) ?_
  refine WT.q rfl (Wn.yes rfl rfl rfl) rfl rfl (fun wq hS => R.move (v := (pO b_14 0)) rfl) ?_
  refine WT.q rfl (Wn.yes rfl rfl rfl) rfl rfl (fun wq hS => R.move (v := (pO b_16 0)) rfl) ?_
  refine WT.s ?_
  refine Op1.one rfl (Wn.yes rfl rfl rfl) ?_
  refine WL.call Tryz.call24 rfl rfl (c_sameM b_14 b_16 a_15 a_17 gn (by omega) (by omega) (mid (fillL fd gn (min fn gn)) (p + 64) (p + 8192) (laC id df n 0 ([] : Lg) s6).2.2) (mid_len (fillL_len hfl (Nat.min_le_right ..) (Nat.min_le_left ..)) (by rw [laC_len hl okN]; omega) (by omega)) _ (h_74.argR M13) (ownView (h_74.ok _ M14)) (h_74.argR M4) (ownView (h_74.ok _ M5))) rfl ?_
  rintro _ w_76 ⟨rfl, hc_75⟩
  have h_77 := h_74.same hc_75
  refine WL.nil ?_
  refine ⟨(N6_7_8_9_10_11_12_13_14_4_15_16 h_77.ok), ?_⟩
  refine WT.q rfl (Wn.yes rfl rfl rfl) rfl rfl (fun wq hS => R.not (b := true) rfl) ?_
  refine qT rfl rfl (fun wq hS => R.pickF (v := (.bool false)) rfl rfl) ?_
  refine qT rfl rfl (fun wq hS => R.move (v := (.bool false)) rfl) ?_
  refine WT.q rfl (Wn.yes rfl rfl rfl) rfl rfl (fun wq hS => R.move (v := (pO b_9 0)) rfl) ?_
  refine WT.q rfl (Wn.yes rfl rfl rfl) rfl rfl (fun wq hS => R.move (v := (pO b_13 0)) rfl) ?_
  refine WT.q rfl (Wn.yes rfl rfl rfl) rfl rfl (fun wq hS => R.nilCheck rfl) ?_
  refine WT.q rfl (Wn.yes rfl rfl rfl) rfl rfl (fun wq hS => R.fieldAddr (off' := 35) rfl underlying61 rfl sizeOf58 rfl rfl) ?_
  refine WT.s2 ?_ ?_
  ·refine Op1.one rfl (Wn.yes rfl rfl rfl) ?_
   have h_82 := ((((h_77.up J12).up J12).up J12).up J12).up J12
   refine WL.call Tryz.call27 rfl rfl (c_oLog id b_9 b_10 ms df hms a_11 n c_12 ((laC id df n 0 ([] : Lg) (s6 + 1)).1) hl la_34 lc_35 lx_36 ((laC id df n 0 ([] : Lg) (s6 + 1)).2.1) (by first | decide | omega | exact Nat.le_trans (laC_u ..) (by omega)) (by first | decide | omega | exact Nat.le_trans (laC_l ..) (by simp only [List.length_nil]; omega)) _ h_82) rfl ?_
   rintro _ w_86 ⟨a_83, c_84, ys_85, rfl, h_87⟩
   refine WL.nil ?_
   refine ⟨(N13_14_2_3_4_5_6_15_16_11_17_18 h_87.ok), ?_⟩
   refine WT.s ?_
   refine Op1.one rfl (Wn.yes rfl rfl rfl) ?_
   refine qV rfl (R.load1 rfl isAgg58 (h_87.ok _ M7) (Sg.t rfl (Sg.t rfl (Sg.t rfl (Sg.t rfl Sg.h))))) ?_
   refine WL.nil ?_
   refine ⟨(N13_14_2_3_4_5_6_15_16_11_17_18 h_87.ok), ?_⟩
   refine WT.s ?_
   refine Op1.one rfl (Wn.yes rfl rfl rfl) ?_
   refine WL.call Tryz.call26 rfl rfl (c_rSameLog a_83 ((laC id df n 0 ([] : Lg) (s6 + 1)).2.1.length) c_84 ys_85 ((laC id df n 0 ([] : Lg) (s6 + 1)).2.1) rfl (Nat.le_trans (laC_l (s6 + 1)) (by simp only [List.length_nil]; omega)) la_64 lc_65 lx_66 _ (ownView (h_87.ok _ M0)) (h_87.ok _ M1).1 (ownView (h_87.ok _ M8)) (h_87.ok _ M9).1) rfl ?_
   rintro _ w_89 ⟨rfl, hc_88⟩
   have h_90 := h_87.same hc_88
   refine WL.nil ?_
   refine ⟨(N13_14_2_3_4_5_6_15_16_11_17_18 h_90.ok), ?_⟩
   refine WT.q rfl (Wn.yes rfl rfl rfl) rfl rfl (fun wq hS => R.not (b := true) (rfl)) ?_
   refine qT rfl rfl (fun wq hS => R.pickF (v := (.bool false)) rfl rfl) ?_
   refine WT.nil (thn_n ?_)
   exact ⟨(a_83, c_84, la_64, lc_65, ys_85, lx_66), (Ag.upd rfl (U2 rfl rfl (U4 rfl rfl rfl rfl (U4 rfl rfl rfl rfl (U4 rfl rfl rfl rfl (U4 rfl rfl rfl rfl (U4 rfl rfl rfl rfl (U4 rfl rfl rfl rfl (U4 rfl rfl rfl rfl (U4 rfl rfl rfl rfl (Ag.refl _ _))))))))))), ⟨rfl, rfl, rfl, rfl, rfl, rfl, rfl, rfl, rfl, rfl, rfl, rfl, rfl, rfl, rfl, rfl, (congrArg Value.bool hwn), rfl, rfl, rfl, rfl, rfl, rfl, rfl, rfl, rfl, rfl, rfl, rfl, rfl, rfl, rfl, (rfl), rfl, rfl, trivial⟩, h_90⟩
  ·refine Op1.one rfl (Wn.yes rfl rfl rfl) ?_
   refine qV rfl (R.load1 rfl isAgg58 (h_77.ok _ M0) (Sg.t rfl (Sg.t rfl (Sg.t rfl (Sg.t rfl Sg.h))))) ?_
   refine WL.nil ?_
   refine ⟨(N6_7_8_9_10_11_12_13_14_4_15_16 h_77.ok), ?_⟩
   refine WT.s ?_
   refine Op1.one rfl (Wn.yes rfl rfl rfl) ?_
   have h_95 := ((((h_77.up J12).up J12).up J12).up J12).up J12
   refine WL.call Tryz.call27 rfl rfl (c_oLog id b_9 b_10 ms df hms a_11 n c_12 ((laC id df n 0 ([] : Lg) (s6 + 1)).1) hl la_34 lc_35 lx_36 ((laC id df n 0 ([] : Lg) (s6 + 1)).2.1) (by first | decide | omega | exact Nat.le_trans (laC_u ..) (by omega)) (by first | decide | omega | exact Nat.le_trans (laC_l ..) (by simp only [List.length_nil]; omega)) _ h_95) rfl ?_
   rintro _ w_99 ⟨a_96, c_97, ys_98, rfl, h_100⟩
   refine WL.nil ?_
   refine ⟨(N13_14_2_3_4_5_6_15_16_11_17_18 h_100.ok), ?_⟩
   refine WT.s ?_
   refine Op1.one rfl (Wn.yes rfl rfl rfl) ?_
   refine WL.call Tryz.call26 rfl rfl (c_rSameLog a_96 ((laC id df n 0 ([] : Lg) (s6 + 1)).2.1.length) c_97 ys_98 ((laC id df n 0 ([] : Lg) (s6 + 1)).2.1) rfl (Nat.le_trans (laC_l (s6 + 1)) (by simp only [List.length_nil]; omega)) la_64 lc_65 lx_66 _ (ownView (h_100.ok _ M0)) (h_100.ok _ M1).1 (ownView (h_100.ok _ M8)) (h_100.ok _ M9).1) rfl ?_
   rintro _ w_102 ⟨rfl, hc_101⟩
   have h_103 := h_100.same hc_101
   refine WL.nil ?_
   refine ⟨(N13_14_2_3_4_5_6_15_16_11_17_18 h_103.ok), ?_⟩
   refine WT.q rfl (Wn.yes rfl rfl rfl) rfl rfl (fun wq hS => R.not (b := true) (rfl)) ?_
   refine qT rfl rfl (fun wq hS => R.pickF (v := (.bool false)) rfl rfl) ?_
   refine WT.nil (thn_n ?_)
   exact ⟨(a_96, c_97, la_64, lc_65, ys_98, lx_66), (Ag.upd rfl (U2 rfl rfl (U4 rfl rfl rfl rfl (U4 rfl rfl rfl rfl (U4 rfl rfl rfl rfl (U4 rfl rfl rfl rfl (U4 rfl rfl rfl rfl (U4 rfl rfl rfl rfl (U4 rfl rfl rfl rfl (U4 rfl rfl rfl rfl (Ag.refl _ _))))))))))), ⟨rfl, rfl, rfl, rfl, rfl, rfl, rfl, rfl, rfl, rfl, rfl, rfl, rfl, rfl, rfl, rfl, (congrArg Value.bool hwn), rfl, rfl, rfl, rfl, rfl, rfl, rfl, rfl, rfl, rfl, rfl, rfl, rfl, rfl, rfl, (rfl), rfl, rfl, trivial⟩, h_103⟩
 ·rintro ⟨a_107, c_108, la_109, lc_110, ys_111, lx_112⟩ J_104 w_105 h_106
  refine thn_n ?_
  refine WP.condF rfl ?_
  refine WP.skip (thn_n (WP.seq (WP.seq (WP.reg ?_))))
  refine qM (vn i) rfl rfl (qV rfl (R.bin rfl rfl (bi_lss (r := decide ((((i : Nat) : Int) : Int) < 2)) rfl)) (qM (.bool (decide ((((i : Nat) : Int) : Int) < 2))) rfl rfl ?_))
  refine WL.want rfl (congrArg Value.bool (decide_eq_false (by omega))) ?_
  refine qM (vn i) rfl rfl ?_
  refine WL.want rfl (congrArg Value.bool (decide_eq_false (by omega))) ?_
  refine qV rfl (R.bin rfl rfl (bi_gtr (r := decide ((((i : Nat) : Int) : Int) > 255)) rfl)) (qV rfl (R.pickF (v := (.bool (decide ((((i : Nat) : Int) : Int) > 255)))) (congrArg Value.bool (decide_eq_false (by omega))) rfl) ?_)
  refine WL.nil (thn_n ?_)
  refine WP.condF (congrArg Value.bool (decide_eq_false (by omega))) ?_
  refine WP.skip (thn_n (WP.seq ?_))
  refine WP.drawT (SL w.heap.size [.row a_107 ((laC id df n 0 ([] : Lg) (s6 + 1)).2.1.length) c_108 102 67 ys_111, .pin (sblks ys_111) (fun w => Lgs w ys_111 ((laC id df n 0 ([] : Lg) (s6 + 1)).2.1)), .blk b_9 .nw 106 [(1, [(.bool id)]), (32, ms.map vu8), (1, [(.slice a_11 n c_12)]), (1, [(vn ((laC id df n 0 ([] : Lg) (s6 + 1)).1))]), (1, [(.map (some b_10))]), (1, [(.slice la_34 ((laC id df n 0 ([] : Lg) (s6 + 1)).2.1.length) lc_35)])], .row la_34 ((laC id df n 0 ([] : Lg) (s6 + 1)).2.1.length) lc_35 102 67 lx_36, .obj b_10 .nw (.map (mArr ((laC id df n 0 ([] : Lg) (s6 + 1)).2.1)) ((laC id df n 0 ([] : Lg) (s6 + 1)).2.1.length)), .pin (sblks lx_36) (fun w => Lgs w lx_36 ((laC id df n 0 ([] : Lg) (s6 + 1)).2.1)), .view a_11 (df.map vu8), .blk b_13 .nw 61 [(1, [(.bool id)]), (32, ms.map vu8), (1, [(.slice da0 n cap0)]), (1, [(vn ((laC id df n 0 ([] : Lg) (s6 + 1)).1))]), (1, [(.slice la_109 ((laC id df n 0 ([] : Lg) (s6 + 1)).2.1.length) lc_110)])], .row la_109 ((laC id df n 0 ([] : Lg) (s6 + 1)).2.1.length) lc_110 102 67 lx_112, .pin (sblks lx_112) (fun w => Lgs w lx_112 ((laC id df n 0 ([] : Lg) (s6 + 1)).2.1)), .view da0 (df.map vu8), .blk b_16 .nw 95 [(1, [(.slice a_17 (128 * gn) (128 * gn))])], .row a_17 (128 * gn) (128 * gn) 5 1 ((mid (fillL fd gn (min fn gn)) (p + 64) (p + 8192) (laC id df n 0 ([] : Lg) s6).2.2).map vu8), .blk b_47 .nw 23 [(32, (((mid (fillL fd gn (min fn gn)) (p + 64) (p + 8192) (laC id df n 0 ([] : Lg) s6).2.2).drop (p + 32 * i)).take 32).map vu8)], .blk b_39 .nw 23 [(32, ((laC id df n 0 ([] : Lg) (s6 + 1)).2.2.take 32).map vu8)], .blk b_14 .nw 112 [(1, [(.slice a_15 gn gn)])], .row a_15 gn gn 76 128 ((mid (fillL fd gn (min fn gn)) (p + 64) (p + 8192) (laC id df n 0 ([] : Lg) s6).2.2).map vu8), .view fa (fd.map vu8), .blk b_1 .nw 28 [(1, [(.bool id)]), (32, ms.map vu8), (1, [(.slice da0 n cap0)]), (1, [(vn gn)]), (1, [(.slice fa fn fc)]), (1, [(vu64 (UInt64.ofNat p))])]]) (.q 0 (.q 1 (.q 2 (.q 3 (.q 4 (.s 5 (.q 6 (.q 7 (.q 8 (.s 9 (.q 10 (.q 11 (.q 12 (.s 13 (.q 14 (.q 15 .nil)))))))))))))))) (by kernel_rfl) (by kernel_rfl) rfl (by kernel_rfl) (fun w_113 hc_115 => (SL.cons ((h_106.same hc_115).ok _ M0) (SL.cons ((h_106.same hc_115).ok _ M1) (SL.cons ((h_106.same hc_115).ok _ M2) (SL.cons ((h_106.same hc_115).ok _ M3) (SL.cons ((h_106.same hc_115).ok _ M4) (SL.cons ((h_106.same hc_115).ok _ M5) (SL.cons ((h_106.same hc_115).ok _ M6) (SL.cons ((h_106.same hc_115).ok _ M7) (SL.cons ((h_106.same hc_115).ok _ M8) (SL.cons ((h_106.same hc_115).ok _ M9) (SL.cons ((h_106.same hc_115).ok _ M10) (SL.cons ((h_106.same hc_115).ok _ M11) (SL.cons ((h_106.same hc_115).ok _ M12) (SL.cons ((h_106.same hc_115).ok _ M13) (SL.cons ((h_106.same hc_115).ok _ M14) (SL.cons ((h_106.same hc_115).ok _ M15) (SL.cons ((h_106.same hc_115).ok _ M16) (SL.cons ((h_106.same hc_115).ok _ M17) (SL.cons ((h_106.same hc_115).ok _ M18) (SL.nil _ _))))))))))))))))))))) (fun w_113 hc_115 => ?_)
  have h_114 := h_106.same hc_115
  refine qT rfl rfl (fun wq hS => R.loadA [] [(32, (((mid (fillL fd gn (min fn gn)) (p + 64) (p + 8192) (laC id df n 0 ([] : Lg) s6).2.2).drop (p + 32 * i)).take 32).map vu8)] [] (cs := (((mid (fillL fd gn (min fn gn)) (p + 64) (p + 8192) (laC id df n 0 ([] : Lg) s6).2.2).drop (p + 32 * i)).take 32).map vu8) rfl isAgg23 sizeOf23 (hS _ M13) rfl rfl rfl rfl) ?_
  refine qT rfl rfl (fun wq hS => R.move (v := (pO b_16 0)) rfl) ?_
  refine qT rfl rfl (fun wq hS => R.fieldAddr (off' := 36) rfl underlying28 rfl sizeOf26 rfl rfl) ?_
  refine qT rfl rfl (fun wq hS => R.load1 rfl isAgg26 (hS _ M18) (Sg.t rfl (Sg.t rfl (Sg.t rfl (Sg.t rfl (Sg.t rfl Sg.h)))))) ?_
  refine qT rfl rfl (fun wq hS => R.move (v := (vn i)) rfl) ?_
  refine WT.s (oN rfl ?_)
  refine WL.call Tryz.call28 rfl rfl (c_rAt b_16 a_17 gn p i (by omega) (by omega) (by omega) (mid (fillL fd gn (min fn gn)) (p + 64) (p + 8192) (laC id df n 0 ([] : Lg) s6).2.2) (mid_len (fillL_len hfl (Nat.min_le_right ..) (Nat.min_le_left ..)) (by rw [laC_len hl okN]; omega) (by omega)) _ (h_114.argR M11) (ownView (h_114.ok _ M12))) rfl ?_
  rintro _ w_117 ⟨rfl, hc_116⟩
  have h_118 := h_114.same hc_116
  refine WL.nil ?_
  refine ⟨(N0_1_2_3_4_5_6_7_8_9_10_11_12_13_14_15_16_17_18 h_118.ok), ?_⟩
  refine qT rfl rfl (fun wq hS => R.eqA (xs := (((mid (fillL fd gn (min fn gn)) (p + 64) (p + 8192) (laC id df n 0 ([] : Lg) s6).2.2).drop (p + 32 * i)).take 32).map vu8) (ys := (((mid (fillL fd gn (min fn gn)) (p + 64) (p + 8192) (laC id df n 0 ([] : Lg) s6).2.2).drop (p + 32 * i)).take 32).map vu8) (r := true) rfl rfl eqGuardType23 kt23 (by decide) ag23 (Typ.u8s underlying23 ce23 underlying5 ce5 (subLen (K := 128 * gn) (mid_len (fillL_len hfl (Nat.min_le_right ..) (Nat.min_le_left ..)) (by rw [laC_len hl okN]; omega) (by omega)) (by omega) : List.length (((mid (fillL fd gn (min fn gn)) (p + 64) (p + 8192) (laC id df n 0 ([] : Lg) s6).2.2).drop (p + 32 * i)).take 32) = 32)) (Typ.u8s underlying23 ce23 underlying5 ce5 (subLen (K := (128 * gn)) (mid_len (fillL_len hfl (Nat.min_le_right ..) (Nat.min_le_left ..)) (by rw [laC_len hl okN]; omega) (by omega)) (by omega) : List.length (((mid (fillL fd gn (min fn gn)) (p + 64) (p + 8192) (laC id df n 0 ([] : Lg) s6).2.2).drop (p + 32 * i)).take 32) = 32)) (eqT rfl)) ?_
  refine qT rfl rfl (fun wq hS => R.move (v := (.bool true)) rfl) ?_
  refine WT.q rfl (Wn.yes rfl rfl rfl) rfl rfl (fun wq hS => R.move (v := (vi 0)) rfl) ?_
  refine WT.s ?_
  refine Op1.one rfl (Wn.yes rfl rfl rfl) ?_
  refine WL.call Tryz.call17 rfl rfl (c_num15 0 (by omega) _ ) rfl ?_
  rintro _ w_120 ⟨rfl, hc_119⟩
  have h_121 := h_118.same hc_119
  refine WL.nil ?_
  refine ⟨(N0_1_2_3_4_5_6_7_8_9_10_11_12_13_14_15_16_17_18 h_121.ok), ?_⟩
  refine WT.q rfl (Wn.yes rfl rfl rfl) rfl rfl (fun wq hS => R.bin rfl rfl (bi_eql (r := true) (by decide))) ?_
  refine qT rfl rfl (fun wq hS => R.pickT (v := (.bool true)) rfl rfl) ?_
  refine qT rfl rfl (fun wq hS => R.move (v := (.bool true)) rfl) ?_
  refine WT.s ?_
  refine Op1.one rfl (Wn.yes rfl rfl rfl) ?_
  refine WL.call Tryz.call7 rfl rfl (c_known15  _ ) rfl ?_
  rintro _ w_123 ⟨rfl, hc_122⟩
  have h_124 := h_121.same hc_122
  refine WL.nil ?_
  refine ⟨(N0_1_2_3_4_5_6_7_8_9_10_11_12_13_14_15_16_17_18 h_124.ok), ?_⟩
  refine qT rfl rfl (fun wq hS => R.pickT (v := (.bool true)) rfl rfl) ?_
  refine qT rfl rfl (fun wq hS => R.assign (v := (.bool true)) rfl) ?_
  refine WT.nil (thn_n (WP.ret ?_))
  refine ret_of results4 (RV.tmp (v := (.bool true)) rfl RV.nil) ?_
  exact ⟨rfl, h_124.chgS⟩

theorem w_TreeLays (id : Bool) (ms df : List UInt8) (hms : ms.length = 32) (da0 : Option Addr) (n cap0 : Nat) (hl : df.length = 32 * n) (fa : Option Addr) (fn fc : Nat) (fd : List UInt8) (hfl : fd.length = 128 * fn) (nd : UInt64) (gn i : Int) (w : World) (hv : View w da0 (df.map vu8)) (hvf : View w fa (fd.map vu8)) : Cs Tryz.prog 4 [(.agg ⟨flat [(1, [(.bool id)]), (32, ms.map vu8), (1, [(.slice da0 n cap0)]), (1, [(vi gn)]), (1, [(.slice fa fn fc)]), (1, [(vu64 nd)])]⟩), (vi i)].toArray w (fun v w1 => v = (.bool true) ∧ Chg w w1 []) := by
 by_cases hs : n ≤ 700 ∧ 1 ≤ gn ∧ gn ≤ 80 ∧ fn ≤ 80
 ·obtain ⟨gm, rfl⟩ := Int.eq_ofNat_of_zero_le (show 0 ≤ gn by omega)
  have hs2 : n ≤ 700 ∧ 1 ≤ gm ∧ gm ≤ 80 ∧ fn ≤ 80 := by omega
  rcases Bool.eq_false_or_eq_true (wnB gm nd) with hb | hb
  ·obtain ⟨q, rfl, h1, h2⟩ := wnB_at hb (by omega)
   by_cases hlo : i < 2
   ·exact w_TL_lo id ms df hms da0 n cap0 hl fa fn fc fd hfl gm hs2 q hb h1 h2 126 rfl i hlo w hv hvf
   by_cases hhi : 255 < i
   ·exact w_TL_hi id ms df hms da0 n cap0 hl fa fn fc fd hfl gm hs2 q hb h1 h2 126 rfl i hhi w hv hvf
   obtain ⟨k, rfl⟩ := Int.eq_ofNat_of_zero_le (show 0 ≤ i by omega)
   exact w_TL_t id ms df hms da0 n cap0 hl fa fn fc fd hfl gm hs2 q hb h1 h2 126 rfl k (by omega) w hv hvf
  ·exact w_TL_w id ms df hms da0 n cap0 hl fa fn fc fd hfl gm hs2 nd hb i w hv hvf
 ·exact w_TL_no id ms df hms da0 n cap0 hl fa fn fc fd hfl nd gn hs i w hv hvf
namespace treeLaysDone
open Go.ChangeShapes Go.WideShapes Go.ChangeAt
theorem own : ownKnob Tryz.prog.godebug = none := by kernel_rfl
theorem laidOut : laidOutB Tryz.prog = true := by kernel_rfl
set_option maxRecDepth 100000 in
theorem lifted (os : Os) (started : os.Started) (H : Type) (enc : TypeId × Value → H) :
  ReturnsInHanded {} Tryz.checked os 4 .any (Rows.treeLaysSpec.pre6 enc Tryz.prog Tryz.f4 Rows.treeLaysRow.domain false) (Rows.treeLaysSpec.post enc Tryz.prog Tryz.f4 false true false false) := by
 refine returnsInHanded_of_change (C := Tryz.checked) own started (by kernel_rfl) Tryz.func4
  (ChangeSpec.witness6 (enc := enc) (C := Tryz.checked) false ⟨#[], #[.agg #[.bool false, .int .u8 0, .int .u8 0, .int .u8 0, .int .u8 0, .int .u8 0, .int .u8 0, .int .u8 0, .int .u8 0, .int .u8 0, .int .u8 0, .int .u8 0, .int .u8 0, .int .u8 0, .int .u8 0, .int .u8 0, .int .u8 0, .int .u8 0, .int .u8 0, .int .u8 0, .int .u8 0, .int .u8 0, .int .u8 0, .int .u8 0, .int .u8 0, .int .u8 0, .int .u8 0, .int .u8 0, .int .u8 0, .int .u8 0, .int .u8 0, .int .u8 0, .int .u8 0, .slice none 0 0, .int .i64 0, .slice none 0 0, .int .u64 0], .int .i64 0], []⟩ 8 (by kernel_rfl) (by kernel_rfl) (by kernel_rfl) (by kernel_rfl)) ?_
 intro W base args ds gs before hval0 hW hcnd _
 have hval : ∀ (j : Nat) t v, Tryz.f4.params[j]? = some t → args[j]? = some v → Value.okWide Tryz.prog W .any base t v := hval0
 have hW' := hW
 obtain ⟨p, q, hA0, hV, rfl, hfz, hnd⟩ := hW
 have hA : DataW.TrodAll enc Tryz.prog W 0 (fun _ => true) true Tryz.f4.params.toList args.toList ds p := hA0
 rw [Tryz.params4] at hA hval
 obtain ⟨v0, vs0, d0, ds0, p0, q0, hargs, rfl, rfl, h0, r0⟩ := trodAll_cons hA
 obtain ⟨v1, vs1, d1, ds1, p1, q1, rfl, rfl, rfl, h1, r1⟩ := trodAll_cons r0
 obtain ⟨rfl, rfl, rfl⟩ := trodAll_nil r1
 obtain rfl : args = #[v0, v1] := by cases args; simp_all
 obtain ⟨rfl, rfl⟩ := trodVars_none hV
 have lt0 : ∀ x ∈ p0, x.block < W.heap.size := by obtain ⟨m, hm⟩ := h0; exact DataW.trod_lt m _ _ _ hm
 obtain ⟨cs0, rfl⟩ := okWide_agg aggT28 (hval 0 28 v0 rfl rfl)
 have tr0 : Tr Tryz.prog W 28 cs0 := Tr.of h0 rfl
 have tl_x0 := Tr.struct (l := [(1, 4), (32, 23), (1, 24), (1, 3), (1, 25), (1, 26)]) underlying28 ce28 (by kernel_rfl) tr0
 obtain ⟨a_x00, r_x00, rfl, n_x00, t_x00, tl_x00⟩ := tl_x0
 obtain ⟨x00, rfl⟩ := Tr.bool underlying4 t_x00
 obtain ⟨a_x01, r_x01, rfl, n_x01, t_x01, tl_x01⟩ := tl_x00
 obtain ⟨x01, rfl, l_x01⟩ := Tr.arr8 underlying23 ce23 ce5 underlying5 t_x01
 obtain ⟨a_x02, r_x02, rfl, n_x02, t_x02, tl_x02⟩ := tl_x01
 obtain ⟨sa_x02, sn_x02, sc_x02, x02, rfl, l_x02, hc_x02, hm_x02, hv_x02⟩ := Tr.slA8 underlying24 ce23 underlying23 ce5 underlying5 t_x02
 obtain ⟨a_x03, r_x03, rfl, n_x03, t_x03, tl_x03⟩ := tl_x02
 obtain ⟨x03, rfl, b_x03⟩ := Tr.i64 underlying3 t_x03
 obtain ⟨a_x04, r_x04, rfl, n_x04, t_x04, tl_x04⟩ := tl_x03
 obtain ⟨sa_x04, sn_x04, sc_x04, x04, rfl, l_x04, hc_x04, hm_x04, hv_x04⟩ := Tr.slA8 underlying25 ce76 underlying76 ce5 underlying5 t_x04
 obtain ⟨a_x05, r_x05, rfl, n_x05, t_x05, tl_x05⟩ := tl_x04
 obtain ⟨x05, rfl⟩ := Tr.u64 underlying26 t_x05
 obtain rfl := tl_x05
 have lt1 : ∀ x ∈ p1, x.block < W.heap.size := by obtain ⟨m, hm⟩ := h1; exact DataW.trod_lt m _ _ _ hm
 obtain ⟨x1, rfl⟩ := okWide_int underlying3 (hval 1 3 v1 rfl rfl)
 have b_x1 := Tr.i64' underlying3 (Tr.of h1 rfl)
 clear hA0 hval0
 have hw : Cs Tryz.prog 4 [(.agg ⟨flat [(1, [(.bool x00)]), (32, x01.map vu8), (1, [(.slice sa_x02 sn_x02 sc_x02)]), (1, [(vi x03)]), (1, [(.slice sa_x04 sn_x04 sc_x04)]), (1, [(vu64 x05)])]⟩), (vi x1)].toArray W (fun v w1 => v = .bool true ∧ Chg W w1 []) := w_TreeLays x00 x01 x02 l_x01 sa_x02 sn_x02 sc_x02 l_x02 sa_x04 sn_x04 sc_x04 x04 l_x04 x05 x03 x1 W hv_x02.1 hv_x04.1
 have ea : ([(.agg ⟨flat [(1, [(.bool x00)]), (32, x01.map vu8), (1, [(.slice sa_x02 sn_x02 sc_x02)]), (1, [(vi x03)]), (1, [(.slice sa_x04 sn_x04 sc_x04)]), (1, [(vu64 x05)])]⟩), (vi x1)] : List Value).toArray = (#[.agg ⟨([.bool x00] ++ (x01.map vu8 ++ ([.slice sa_x02 sn_x02 sc_x02] ++ ([vi x03] ++ ([.slice sa_x04 sn_x04 sc_x04] ++ ([vu64 x05] ++ []))))))⟩, (vi x1)] : Array Value) := by simp [flat]
 rw [ea] at hw
 refine Calls.mono (Cs.below hw) fun e W' ⟨he, bel⟩ => ?_
 subst he
 exact ⟨_, rfl, _, _, _, [], _, [], hW', trodAll_mk1 (shut_bool underlying4 _), (trodAll_cons_mk (Below.trod laidOut (by kernel_rfl) (of_decide_eq_true (by kernel_rfl)) h0 bel lt0) (trodAll_cons_mk (Below.trod laidOut (by kernel_rfl) (of_decide_eq_true (by kernel_rfl)) h1 bel lt1) trodAll_mk0)), rfl, bel.frame _, fun h => by cases h⟩
theorem over : Rows.treeLaysRow.holds Tryz.pinned (OpenSpec.ofChange Rows.treeLaysSpec) :=
 OpenClaim.holds_of_wide 4 Tryz.f4 rfl rfl rfl rfl rfl rfl rfl ⟨rfl, rfl, rfl, rfl, rfl⟩ rfl rfl rfl rfl rfl (by kernel_rfl) Tryz.func4 (by kernel_rfl)
  (of_decide_eq_true (by kernel_rfl)) (by unfold Func.isWrapper; first | (rw [if_pos (by decide +kernel)]; kernel_rfl) | (rw [if_neg (by decide +kernel)]; exact ⟨rfl, rfl⟩))
  (fun os started H enc _ => lifted os started H enc)
theorem proved : Rows.TreeLaysSaid := over
end treeLaysDone
end Go.Proofs.YtbhllplbbkmndaaGreat
