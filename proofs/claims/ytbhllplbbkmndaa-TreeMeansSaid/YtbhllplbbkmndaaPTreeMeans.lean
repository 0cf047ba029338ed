/- TreeMeans holds of every input. Conditions: none. -/
import Derived.Test.YtbhllplbbkmndaaZ5TreeMeans
set_option linter.unusedVariables false
set_option linter.unusedSimpArgs false
set_option linter.unusedSectionVars false
namespace Go.Proofs.Ytbhllplbbkmndaa
open Go.Proofs.Try
open Go.Vc Go.Orc Go.Sh Go.RowKit
set_option linter.unusedVariables false
set_option linter.unusedSimpArgs false
set_option maxRecDepth 20000
theorem aggT23 : aggB Try.prog 23 = true := by unfold aggB; rw [underlying23]
theorem aggT28 : aggB Try.prog 28 = true := by unfold aggB; rw [underlying28]
theorem ce28 : Try.prog.cellsOf 28 = 37 := by kernel_rfl
theorem ce65 : Try.prog.cellsOf 65 = 128 := by kernel_rfl
theorem w_TM_no (id : Bool) (ms df : List UInt8) (hms : ms.length = 32) (da0 : Option Addr) (n cap0 : Nat) (hl : df.length = 32 * n) (fa : Option Addr) (fn fc : Nat) (fd : List UInt8) (hfl : fd.length = 128 * fn) (ar : Option Addr) (nr cr : Nat) (rs : List Lf) (hrl : rs.length = nr) (hrs : ∀ r ∈ rs, okLf r) (xb : List UInt8) (hxb : xb.length = 32) (nd : UInt64) (gn : Int) (hs : ¬ (n ≤ 700 ∧ 1 ≤ gn ∧ gn ≤ 80 ∧ fn ≤ 80)) (pg : Int) (w : World) (hv : View w da0 (df.map vu8)) (hvf : View w fa (fd.map vu8)) (hvr : View w ar (lsC rs)) :
  Cs Try.prog 3 [(.agg ⟨flat [(1, [(.bool id)]), (32, ms.map vu8), (1, [(.slice da0 n cap0)]), (1, [(vi gn)]), (1, [(.slice fa fn fc)]), (1, [(vu64 nd)])]⟩), (.slice ar nr cr), (vi pg), (.agg ⟨xb.map vu8⟩)].toArray w (fun v w1 => v = (.bool true) ∧ Chg w w1 []) := by
 refine Cs.of (n := 170) (args := [(.agg ⟨flat [(1, [(.bool id)]), (32, ms.map vu8), (1, [(.slice da0 n cap0)]), (1, [(vi gn)]), (1, [(.slice fa fn fc)]), (1, [(vu64 nd)])]⟩), (.slice ar nr cr), (vi pg), (.agg ⟨xb.map vu8⟩)]) Try.func3 rfl rfl rfl ?_
 have h_0 := HP.init w
 have h_01 := h_0.oldV (View.arg hv) rfl (by simp [Ent.mut])
 have h_02 := h_01.oldV (View.arg hvf) rfl (by simp [Ent.mut])
 have h_00 := h_02.oldV (View.arg hvr) rfl (by simp [Ent.mut])
 refine WP.seq (WP.reg ?_)
 refine WL.box (segs := [(1, [(.bool id)]), (32, ms.map vu8), (1, [(.slice da0 n cap0)]), (1, [(vi gn)]), (1, [(.slice fa fn fc)]), (1, [(vu64 nd)])]) h_00 rfl rfl (sC sV (sC (s8 hms) (sC sV (sC sV (sC sV (sC sV sN)))))) rfl (fun b_1 w_2 h_3 => ?_)
 refine WL.box (segs := [(32, xb.map vu8)]) h_3 rfl rfl (sC (s8 hxb) sN) rfl (fun b_4 w_5 h_6 => ?_)
 refine qA (.bool false) rfl rfl ?_
 refine WL.nil (thn_n (WP.seq (WP.seq (WP.reg ?_))))
 refine WL.call Try.call4 rfl rfl (c_known15  _ ) rfl ?_
 rintro _ w_8 ⟨rfl, hc_7⟩
 have h_9 := h_6.same hc_7
 refine qV rfl (R.not (b := true) rfl) ?_
 refine WL.nil (thn_n ?_)
 refine WP.condF rfl ?_
 refine WP.skip (thn_n (WP.seq (WP.seq (WP.reg ?_))))
 refine qV rfl (R.loadA [] [(1, [(.bool id)]), (32, ms.map vu8), (1, [(.slice da0 n cap0)]), (1, [(vi gn)]), (1, [(.slice fa fn fc)]), (1, [(vu64 nd)])] [] rfl isAgg28 sizeOf28 (h_9.ok _ M1) rfl rfl rfl rfl) ?_
 refine WL.call Try.call5 rfl rfl (c_small_f id ms df hms da0 n cap0 hl fa fn fc fd hfl nd gn hs _ ) rfl ?_
 rintro _ w_11 ⟨rfl, hc_10⟩
 have h_12 := h_9.same hc_10
 refine qV rfl (R.not (b := false) rfl) (qM (.bool true) rfl rfl ?_)
 refine WL.skip rfl rfl rfl ?_
 refine WL.skip rfl rfl rfl ?_
 refine WL.skip rfl rfl rfl ?_
 refine qV rfl (R.pickT (v := (.bool true)) rfl rfl) (qM (.bool true) rfl rfl ?_)
 refine WL.skip rfl rfl rfl ?_
 refine WL.skip rfl rfl rfl ?_
 refine WL.skip rfl rfl rfl ?_
 refine qV rfl (R.pickT (v := (.bool true)) rfl rfl) (qM (.bool true) rfl rfl ?_)
 refine WL.skip rfl rfl rfl ?_
 refine WL.skip rfl rfl rfl ?_
 refine WL.skip rfl rfl rfl ?_
 refine WL.skip rfl rfl rfl ?_
 refine WL.skip rfl rfl rfl ?_
 refine WL.skip rfl rfl rfl ?_
 refine qV rfl (R.pickT (v := (.bool true)) rfl rfl) ?_
 refine WL.nil (thn_n ?_)
 refine WP.condT rfl ?_
 refine WP.seq (WP.reg ?_)
 refine qA (.bool true) rfl rfl ?_
 refine WL.nil (thn_n (WP.ret (thn_r ?_)))
 refine ret_of results3 (RV.tmp (v := (.bool true)) rfl RV.nil) ?_
 exact ⟨rfl, h_12.chgS⟩

theorem w_TM_big (id : Bool) (ms df : List UInt8) (hms : ms.length = 32) (da0 : Option Addr) (n cap0 : Nat) (hl : df.length = 32 * n) (fa : Option Addr) (fn fc : Nat) (fd : List UInt8) (hfl : fd.length = 128 * fn) (ar : Option Addr) (nr cr : Nat) (rs : List Lf) (hrl : rs.length = nr) (hrs : ∀ r ∈ rs, okLf r) (xb : List UInt8) (hxb : xb.length = 32) (nd : UInt64) (gn : Nat) (hs : n ≤ 700 ∧ 1 ≤ gn ∧ gn ≤ 80 ∧ fn ≤ 80) (hnr : 12 < nr) (pg : Int) (w : World) (hv : View w da0 (df.map vu8)) (hvf : View w fa (fd.map vu8)) (hvr : View w ar (lsC rs)) :
  Cs Try.prog 3 [(.agg ⟨flat [(1, [(.bool id)]), (32, ms.map vu8), (1, [(.slice da0 n cap0)]), (1, [(vi ((gn : Nat) : Int))]), (1, [(.slice fa fn fc)]), (1, [(vu64 nd)])]⟩), (.slice ar nr cr), (vi pg), (.agg ⟨xb.map vu8⟩)].toArray w (fun v w1 => v = (.bool true) ∧ Chg w w1 []) := by
 refine Cs.of (n := 170) (args := [(.agg ⟨flat [(1, [(.bool id)]), (32, ms.map vu8), (1, [(.slice da0 n cap0)]), (1, [(vn gn)]), (1, [(.slice fa fn fc)]), (1, [(vu64 nd)])]⟩), (.slice ar nr cr), (vi pg), (.agg ⟨xb.map vu8⟩)]) Try.func3 rfl rfl rfl ?_
 have h_0 := HP.init w
 have h_01 := h_0.oldV (View.arg hv) rfl (by simp [Ent.mut])
 have h_02 := h_01.oldV (View.arg hvf) rfl (by simp [Ent.mut])
 have h_00 := h_02.oldV (View.arg hvr) rfl (by simp [Ent.mut])
 refine WP.seq (WP.reg ?_)
 refine WL.box (segs := [(1, [(.bool id)]), (32, ms.map vu8), (1, [(.slice da0 n cap0)]), (1, [(vn gn)]), (1, [(.slice fa fn fc)]), (1, [(vu64 nd)])]) h_00 rfl rfl (sC sV (sC (s8 hms) (sC sV (sC sV (sC sV (sC sV sN)))))) rfl (fun b_1 w_2 h_3 => ?_)
 refine WL.box (segs := [(32, xb.map vu8)]) h_3 rfl rfl (sC (s8 hxb) sN) rfl (fun b_4 w_5 h_6 => ?_)
 refine qA (.bool false) rfl rfl ?_
 refine WL.nil (thn_n (WP.seq (WP.seq (WP.reg ?_))))
 refine WL.call Try.call4 rfl rfl (c_known15  _ ) rfl ?_
 rintro _ w_8 ⟨rfl, hc_7⟩
 have h_9 := h_6.same hc_7
 refine qV rfl (R.not (b := true) rfl) ?_
 refine WL.nil (thn_n ?_)
 refine WP.condF rfl ?_
 refine WP.skip (thn_n (WP.seq (WP.seq (WP.reg ?_))))
 refine qV rfl (R.loadA [] [(1, [(.bool id)]), (32, ms.map vu8), (1, [(.slice da0 n cap0)]), (1, [(vn gn)]), (1, [(.slice fa fn fc)]), (1, [(vu64 nd)])] [] rfl isAgg28 sizeOf28 (h_9.ok _ M1) rfl rfl rfl rfl) ?_
 refine WL.call Try.call5 rfl rfl (c_small_t id ms df hms da0 n cap0 hl fa fn fc fd hfl nd gn hs _ ) rfl ?_
 rintro _ w_11 ⟨rfl, hc_10⟩
 have h_12 := h_9.same hc_10
 refine qV rfl (R.not (b := true) rfl) (qM (.bool false) rfl rfl ?_)
 refine WL.want rfl rfl ?_
 refine qM (.slice ar nr cr) rfl rfl ?_
 refine WL.want rfl rfl ?_
 refine qV rfl (R.lenS (a := ar) (m := nr) rfl rfl underlying29) ?_
 refine WL.want rfl rfl ?_
 refine qV rfl (R.bin rfl rfl (bi_gtr (r := decide ((((nr : Nat) : Int) : Int) > 12)) rfl)) (qV rfl (R.pickF (v := (.bool (decide ((((nr : Nat) : Int) : Int) > 12)))) rfl rfl) (qM (.bool (decide ((((nr : Nat) : Int) : Int) > 12))) rfl rfl ?_))
 refine WL.skip rfl (congrArg Value.bool (decide_eq_true (by omega))) rfl ?_
 refine WL.skip rfl (congrArg Value.bool (decide_eq_true (by omega))) rfl ?_
 refine WL.skip rfl (congrArg Value.bool (decide_eq_true (by omega))) rfl ?_
 refine qV rfl (R.pickT (v := (.bool true)) (congrArg Value.bool (decide_eq_true (by omega))) rfl) (qM (.bool true) rfl rfl ?_)
 refine WL.skip rfl rfl rfl ?_
 refine WL.skip rfl rfl rfl ?_
 refine WL.skip rfl rfl rfl ?_
 refine WL.skip rfl rfl rfl ?_
 refine WL.skip rfl rfl rfl ?_
 refine WL.skip rfl rfl rfl ?_
 refine qV rfl (R.pickT (v := (.bool true)) rfl rfl) ?_
 refine WL.nil (thn_n ?_)
 refine WP.condT rfl ?_
 refine WP.seq (WP.reg ?_)
 refine qA (.bool true) rfl rfl ?_
 refine WL.nil (thn_n (WP.ret (thn_r ?_)))
 refine ret_of results3 (RV.tmp (v := (.bool true)) rfl RV.nil) ?_
 exact ⟨rfl, h_12.chgS⟩

theorem w_TM_pg (id : Bool) (ms df : List UInt8) (hms : ms.length = 32) (da0 : Option Addr) (n cap0 : Nat) (hl : df.length = 32 * n) (fa : Option Addr) (fn fc : Nat) (fd : List UInt8) (hfl : fd.length = 128 * fn) (ar : Option Addr) (nr cr : Nat) (rs : List Lf) (hrl : rs.length = nr) (hrs : ∀ r ∈ rs, okLf r) (xb : List UInt8) (hxb : xb.length = 32) (nd : UInt64) (gn : Nat) (hs : n ≤ 700 ∧ 1 ≤ gn ∧ gn ≤ 80 ∧ fn ≤ 80) (hnr : nr ≤ 12) (pg : Int) (h : ¬ (0 ≤ pg ∧ pg < 128)) (w : World) (hv : View w da0 (df.map vu8)) (hvf : View w fa (fd.map vu8)) (hvr : View w ar (lsC rs)) :
  Cs Try.prog 3 [(.agg ⟨flat [(1, [(.bool id)]), (32, ms.map vu8), (1, [(.slice da0 n cap0)]), (1, [(vi ((gn : Nat) : Int))]), (1, [(.slice fa fn fc)]), (1, [(vu64 nd)])]⟩), (.slice ar nr cr), (vi pg), (.agg ⟨xb.map vu8⟩)].toArray w (fun v w1 => v = (.bool true) ∧ Chg w w1 []) := by
 refine Cs.of (n := 170) (args := [(.agg ⟨flat [(1, [(.bool id)]), (32, ms.map vu8), (1, [(.slice da0 n cap0)]), (1, [(vn gn)]), (1, [(.slice fa fn fc)]), (1, [(vu64 nd)])]⟩), (.slice ar nr cr), (vi pg), (.agg ⟨xb.map vu8⟩)]) Try.func3 rfl rfl rfl ?_
 have h_0 := HP.init w
 have h_01 := h_0.oldV (View.arg hv) rfl (by simp [Ent.mut])
 have h_02 := h_01.oldV (View.arg hvf) rfl (by simp [Ent.mut])
 have h_00 := h_02.oldV (View.arg hvr) rfl (by simp [Ent.mut])
 refine WP.seq (WP.reg ?_)
 refine WL.box (segs := [(1, [(.bool id)]), (32, ms.map vu8), (1, [(.slice da0 n cap0)]), (1, [(vn gn)]), (1, [(.slice fa fn fc)]), (1, [(vu64 nd)])]) h_00 rfl rfl (sC sV (sC (s8 hms) (sC sV (sC sV (sC sV (sC sV sN)))))) rfl (fun b_1 w_2 h_3 => ?_)
 refine WL.box (segs := [(32, xb.map vu8)]) h_3 rfl rfl (sC (s8 hxb) sN) rfl (fun b_4 w_5 h_6 => ?_)
 refine qA (.bool false) rfl rfl ?_
 refine WL.nil (thn_n (WP.seq (WP.seq (WP.reg ?_))))
 refine WL.call Try.call4 rfl rfl (c_known15  _ ) rfl ?_
 rintro _ w_8 ⟨rfl, hc_7⟩
 have h_9 := h_6.same hc_7
 refine qV rfl (R.not (b := true) rfl) ?_
 refine WL.nil (thn_n ?_)
 refine WP.condF rfl ?_
 refine WP.skip (thn_n (WP.seq (WP.seq (WP.reg ?_))))
 refine qV rfl (R.loadA [] [(1, [(.bool id)]), (32, ms.map vu8), (1, [(.slice da0 n cap0)]), (1, [(vn gn)]), (1, [(.slice fa fn fc)]), (1, [(vu64 nd)])] [] rfl isAgg28 sizeOf28 (h_9.ok _ M1) rfl rfl rfl rfl) ?_
 refine WL.call Try.call5 rfl rfl (c_small_t id ms df hms da0 n cap0 hl fa fn fc fd hfl nd gn hs _ ) rfl ?_
 rintro _ w_11 ⟨rfl, hc_10⟩
 have h_12 := h_9.same hc_10
 refine qV rfl (R.not (b := true) rfl) (qM (.bool false) rfl rfl ?_)
 refine WL.want rfl rfl ?_
 refine qM (.slice ar nr cr) rfl rfl ?_
 refine WL.want rfl rfl ?_
 refine qV rfl (R.lenS (a := ar) (m := nr) rfl rfl underlying29) ?_
 refine WL.want rfl rfl ?_
 refine qV rfl (R.bin rfl rfl (bi_gtr (r := decide ((((nr : Nat) : Int) : Int) > 12)) rfl)) (qV rfl (R.pickF (v := (.bool (decide ((((nr : Nat) : Int) : Int) > 12)))) rfl rfl) (qM (.bool (decide ((((nr : Nat) : Int) : Int) > 12))) rfl rfl ?_))
 refine WL.want rfl (congrArg Value.bool (decide_eq_false (by omega))) ?_
 refine qM (vi pg) rfl rfl ?_
 refine WL.want rfl (congrArg Value.bool (decide_eq_false (by omega))) ?_
 refine WL.call Try.call6 rfl rfl (c_mayP_f pg (by omega) _ ) rfl ?_
 rintro _ w_14 ⟨rfl, hc_13⟩
 have h_15 := h_12.same hc_13
 refine WL.want rfl (congrArg Value.bool (decide_eq_false (by omega))) ?_
 refine qV rfl (R.not (b := false) rfl) (qV rfl (R.pickF (v := (.bool true)) (congrArg Value.bool (decide_eq_false (by omega))) rfl) (qM (.bool true) rfl rfl ?_))
 refine WL.skip rfl rfl rfl ?_
 refine WL.skip rfl rfl rfl ?_
 refine WL.skip rfl rfl rfl ?_
 refine WL.skip rfl rfl rfl ?_
 refine WL.skip rfl rfl rfl ?_
 refine WL.skip rfl rfl rfl ?_
 refine qV rfl (R.pickT (v := (.bool true)) rfl rfl) ?_
 refine WL.nil (thn_n ?_)
 refine WP.condT rfl ?_
 refine WP.seq (WP.reg ?_)
 refine qA (.bool true) rfl rfl ?_
 refine WL.nil (thn_n (WP.ret (thn_r ?_)))
 refine ret_of results3 (RV.tmp (v := (.bool true)) rfl RV.nil) ?_
 exact ⟨rfl, h_15.chgS⟩

theorem w_TM_w (id : Bool) (ms df : List UInt8) (hms : ms.length = 32) (da0 : Option Addr) (n cap0 : Nat) (hl : df.length = 32 * n) (fa : Option Addr) (fn fc : Nat) (fd : List UInt8) (hfl : fd.length = 128 * fn) (ar : Option Addr) (nr cr : Nat) (rs : List Lf) (hrl : rs.length = nr) (hrs : ∀ r ∈ rs, okLf r) (xb : List UInt8) (hxb : xb.length = 32) (nd : UInt64) (gn : Nat) (hs : n ≤ 700 ∧ 1 ≤ gn ∧ gn ≤ 80 ∧ fn ≤ 80) (hnr : nr ≤ 12) (pg : Nat) (h : pg < 128) (hwn : wnB gn nd = false) (w : World) (hv : View w da0 (df.map vu8)) (hvf : View w fa (fd.map vu8)) (hvr : View w ar (lsC rs)) :
  Cs Try.prog 3 [(.agg ⟨flat [(1, [(.bool id)]), (32, ms.map vu8), (1, [(.slice da0 n cap0)]), (1, [(vi ((gn : Nat) : Int))]), (1, [(.slice fa fn fc)]), (1, [(vu64 nd)])]⟩), (.slice ar nr cr), (vi ((pg : Nat) : Int)), (.agg ⟨xb.map vu8⟩)].toArray w (fun v w1 => v = (.bool true) ∧ Chg w w1 []) := by
 refine Cs.of (n := 170) (args := [(.agg ⟨flat [(1, [(.bool id)]), (32, ms.map vu8), (1, [(.slice da0 n cap0)]), (1, [(vn gn)]), (1, [(.slice fa fn fc)]), (1, [(vu64 nd)])]⟩), (.slice ar nr cr), (vn pg), (.agg ⟨xb.map vu8⟩)]) Try.func3 rfl rfl rfl ?_
 have h_0 := HP.init w
 have h_01 := h_0.oldV (View.arg hv) rfl (by simp [Ent.mut])
 have h_02 := h_01.oldV (View.arg hvf) rfl (by simp [Ent.mut])
 have h_00 := h_02.oldV (View.arg hvr) rfl (by simp [Ent.mut])
 refine WP.seq (WP.reg ?_)
 refine WL.box (segs := [(1, [(.bool id)]), (32, ms.map vu8), (1, [(.slice da0 n cap0)]), (1, [(vn gn)]), (1, [(.slice fa fn fc)]), (1, [(vu64 nd)])]) h_00 rfl rfl (sC sV (sC (s8 hms) (sC sV (sC sV (sC sV (sC sV sN)))))) rfl (fun b_1 w_2 h_3 => ?_)
 refine WL.box (segs := [(32, xb.map vu8)]) h_3 rfl rfl (sC (s8 hxb) sN) rfl (fun b_4 w_5 h_6 => ?_)
 refine qA (.bool false) rfl rfl ?_
 refine WL.nil (thn_n (WP.seq (WP.seq (WP.reg ?_))))
 refine WL.call Try.call4 rfl rfl (c_known15  _ ) rfl ?_
 rintro _ w_8 ⟨rfl, hc_7⟩
 have h_9 := h_6.same hc_7
 refine qV rfl (R.not (b := true) rfl) ?_
 refine WL.nil (thn_n ?_)
 refine WP.condF rfl ?_
 refine WP.skip (thn_n (WP.seq (WP.seq (WP.reg ?_))))
 refine qV rfl (R.loadA [] [(1, [(.bool id)]), (32, ms.map vu8), (1, [(.slice da0 n cap0)]), (1, [(vn gn)]), (1, [(.slice fa fn fc)]), (1, [(vu64 nd)])] [] rfl isAgg28 sizeOf28 (h_9.ok _ M1) rfl rfl rfl rfl) ?_
 refine WL.call Try.call5 rfl rfl (c_small_t id ms df hms da0 n cap0 hl fa fn fc fd hfl nd gn hs _ ) rfl ?_
 rintro _ w_11 ⟨rfl, hc_10⟩
 have h_12 := h_9.same hc_10
 refine qV rfl (R.not (b := true) rfl) (qM (.bool false) rfl rfl ?_)
 refine WL.want rfl rfl ?_
 refine qM (.slice ar nr cr) rfl rfl ?_
 refine WL.want rfl rfl ?_
 refine qV rfl (R.lenS (a := ar) (m := nr) rfl rfl underlying29) ?_
 refine WL.want rfl rfl ?_
 refine qV rfl (R.bin rfl rfl (bi_gtr (r := decide ((((nr : Nat) : Int) : Int) > 12)) rfl)) (qV rfl (R.pickF (v := (.bool (decide ((((nr : Nat) : Int) : Int) > 12)))) rfl rfl) (qM (.bool (decide ((((nr : Nat) : Int) : Int) > 12))) rfl rfl ?_))
 refine WL.want rfl (congrArg Value.bool (decide_eq_false (by omega))) ?_
 refine qM (vn pg) rfl rfl ?_
 refine WL.want rfl (congrArg Value.bool (decide_eq_false (by omega))) ?_
 refine WL.call Try.call6 rfl rfl (c_mayP_t pg (by omega) _ ) rfl ?_
 rintro _ w_14 ⟨rfl, hc_13⟩
 have h_15 := h_12.same hc_13
 refine WL.want rfl (congrArg Value.bool (decide_eq_false (by omega))) ?_
 refine qV rfl (R.not (b := true) rfl) (qV rfl (R.pickF (v := (.bool false)) (congrArg Value.bool (decide_eq_false (by omega))) rfl) (qM (.bool false) rfl rfl ?_))
 refine WL.want rfl rfl ?_
 refine qV rfl (R.fieldAddr (off' := 34) rfl underlying28 rfl sizeOf3 rfl rfl) ?_
 refine WL.want rfl rfl ?_
 refine qV rfl (R.load1 rfl isAgg3 (h_15.ok _ M1) (Sg.t rfl (Sg.t rfl (Sg.t rfl Sg.h)))) ?_
 refine WL.want rfl rfl ?_
 refine qV rfl (R.fieldAddr (off' := 36) rfl underlying28 rfl sizeOf26 rfl rfl) ?_
 refine WL.want rfl rfl ?_
 refine qV rfl (R.load1 rfl isAgg26 (h_15.ok _ M1) (Sg.t rfl (Sg.t rfl (Sg.t rfl (Sg.t rfl (Sg.t rfl Sg.h)))))) ?_
 refine WL.want rfl rfl ?_
 refine WL.call Try.call7 rfl rfl (c_rWithin gn nd (by omega) _ ) rfl ?_
 rintro _ w_17 ⟨rfl, hc_16⟩
 have h_18 := h_15.same hc_16
 refine WL.want rfl rfl ?_
 refine qV rfl (R.not (b := false) (congrArg Value.bool hwn)) (qV rfl (R.pickF (v := (.bool true)) rfl rfl) ?_)
 refine WL.nil (thn_n ?_)
 refine WP.condT rfl ?_
 refine WP.seq (WP.reg ?_)
 refine qA (.bool true) rfl rfl ?_
 refine WL.nil (thn_n (WP.ret (thn_r ?_)))
 refine ret_of results3 (RV.tmp (v := (.bool true)) rfl RV.nil) ?_
 exact ⟨rfl, h_18.chgS⟩

theorem w_TM_t (id : Bool) (ms df : List UInt8) (hms : ms.length = 32) (da0 : Option Addr) (n cap0 : Nat) (hl : df.length = 32 * n) (fa : Option Addr) (fn fc : Nat) (fd : List UInt8) (hfl : fd.length = 128 * fn) (ar : Option Addr) (nr cr : Nat) (rs : List Lf) (hrl : rs.length = nr) (hrs : ∀ r ∈ rs, okLf r) (xb : List UInt8) (hxb : xb.length = 32) (gn : Nat) (hs : n ≤ 700 ∧ 1 ≤ gn ∧ gn ≤ 80 ∧ fn ≤ 80) (hnr : nr ≤ 12) (pg : Nat) (h : pg < 128) (p : Nat) (hwn : wnB gn (UInt64.ofNat p) = true) (hp : p % 128 = 0) (hw : p + 8192 ≤ 128 * gn) (s6 : Nat) (hs6 : s6 = 126) (w : World) (hv : View w da0 (df.map vu8)) (hvf : View w fa (fd.map vu8)) (hvr : View w ar (lsC rs)) :
  Cs Try.prog 3 [(.agg ⟨flat [(1, [(.bool id)]), (32, ms.map vu8), (1, [(.slice da0 n cap0)]), (1, [(vi ((gn : Nat) : Int))]), (1, [(.slice fa fn fc)]), (1, [(vu64 (UInt64.ofNat p))])]⟩), (.slice ar nr cr), (vi ((pg : Nat) : Int)), (.agg ⟨xb.map vu8⟩)].toArray w (fun v w1 => v = (.bool true) ∧ Chg w w1 []) := by
 refine Cs.of (n := 170) (args := [(.agg ⟨flat [(1, [(.bool id)]), (32, ms.map vu8), (1, [(.slice da0 n cap0)]), (1, [(vn gn)]), (1, [(.slice fa fn fc)]), (1, [(vu64 (UInt64.ofNat p))])]⟩), (.slice ar nr cr), (vn pg), (.agg ⟨xb.map vu8⟩)]) Try.func3 rfl rfl rfl ?_
 have h_0 := HP.init w
 have h_01 := h_0.oldV (View.arg hv) rfl (by simp [Ent.mut])
 have h_02 := h_01.oldV (View.arg hvf) rfl (by simp [Ent.mut])
 have h_00 := h_02.oldV (View.arg hvr) rfl (by simp [Ent.mut])
 refine WP.seq (WP.reg ?_)
 refine WL.box (segs := [(1, [(.bool id)]), (32, ms.map vu8), (1, [(.slice da0 n cap0)]), (1, [(vn gn)]), (1, [(.slice fa fn fc)]), (1, [(vu64 (UInt64.ofNat p))])]) h_00 rfl rfl (sC sV (sC (s8 hms) (sC sV (sC sV (sC sV (sC sV sN)))))) rfl (fun b_1 w_2 h_3 => ?_)
 refine WL.box (segs := [(32, xb.map vu8)]) h_3 rfl rfl (sC (s8 hxb) sN) rfl (fun b_4 w_5 h_6 => ?_)
 refine qA (.bool false) rfl rfl ?_
 refine WL.nil (thn_n (WP.seq (WP.seq (WP.reg ?_))))
 refine WL.call Try.call4 rfl rfl (c_known15  _ ) rfl ?_
 rintro _ w_8 ⟨rfl, hc_7⟩
 have h_9 := h_6.same hc_7
 refine qV rfl (R.not (b := true) rfl) ?_
 refine WL.nil (thn_n ?_)
 refine WP.condF rfl ?_
 refine WP.skip (thn_n (WP.seq (WP.seq (WP.reg ?_))))
 refine qV rfl (R.loadA [] [(1, [(.bool id)]), (32, ms.map vu8), (1, [(.slice da0 n cap0)]), (1, [(vn gn)]), (1, [(.slice fa fn fc)]), (1, [(vu64 (UInt64.ofNat p))])] [] rfl isAgg28 sizeOf28 (h_9.ok _ M1) rfl rfl rfl rfl) ?_
 refine WL.call Try.call5 rfl rfl (c_small_t id ms df hms da0 n cap0 hl fa fn fc fd hfl (UInt64.ofNat p) gn hs _ ) rfl ?_
 rintro _ w_11 ⟨rfl, hc_10⟩
 have h_12 := h_9.same hc_10
 refine qV rfl (R.not (b := true) rfl) (qM (.bool false) rfl rfl ?_)
 refine WL.want rfl rfl ?_
 refine qM (.slice ar nr cr) rfl rfl ?_
 refine WL.want rfl rfl ?_
 refine qV rfl (R.lenS (a := ar) (m := nr) rfl rfl underlying29) ?_
 refine WL.want rfl rfl ?_
 refine qV rfl (R.bin rfl rfl (bi_gtr (r := decide ((((nr : Nat) : Int) : Int) > 12)) rfl)) (qV rfl (R.pickF (v := (.bool (decide ((((nr : Nat) : Int) : Int) > 12)))) rfl rfl) (qM (.bool (decide ((((nr : Nat) : Int) : Int) > 12))) rfl rfl ?_))
 refine WL.want rfl (congrArg Value.bool (decide_eq_false (by omega))) ?_
 refine qM (vn pg) rfl rfl ?_
 refine WL.want rfl (congrArg Value.bool (decide_eq_false (by omega))) ?_
 refine WL.call Try.call6 rfl rfl (c_mayP_t pg (by omega) _ ) rfl ?_
 rintro _ w_14 ⟨rfl, hc_13⟩
 have h_15 := h_12.same hc_13
 refine WL.want rfl (congrArg Value.bool (decide_eq_false (by omega))) ?_
 refine qV rfl (R.not (b := true) rfl) (qV rfl (R.pickF (v := (.bool false)) (congrArg Value.bool (decide_eq_false (by omega))) rfl) (qM (.bool false) rfl rfl ?_))
 refine WL.want rfl rfl ?_
 refine qV rfl (R.fieldAddr (off' := 34) rfl underlying28 rfl sizeOf3 rfl rfl) ?_
 refine WL.want rfl rfl ?_
 refine qV rfl (R.load1 rfl isAgg3 (h_15.ok _ M1) (Sg.t rfl (Sg.t rfl (Sg.t rfl Sg.h)))) ?_
 refine WL.want rfl rfl ?_
 refine qV rfl (R.fieldAddr (off' := 36) rfl underlying28 rfl sizeOf26 rfl rfl) ?_
 refine WL.want rfl rfl ?_
 refine qV rfl (R.load1 rfl isAgg26 (h_15.ok _ M1) (Sg.t rfl (Sg.t rfl (Sg.t rfl (Sg.t rfl (Sg.t rfl Sg.h)))))) ?_
 refine WL.want rfl rfl ?_
 refine WL.call Try.call7 rfl rfl (c_rWithin gn (UInt64.ofNat p) (by omega) _ ) rfl ?_
 rintro _ w_17 ⟨rfl, hc_16⟩
 have h_18 := h_15.same hc_16
 refine WL.want rfl rfl ?_
 refine qV rfl (R.not (b := true) (congrArg Value.bool hwn)) (qV rfl (R.pickF (v := (.bool false)) rfl rfl) ?_)
 refine WL.nil (thn_n ?_)
 refine WP.condF rfl ?_
 refine WP.skip (thn_n (WP.seq (WP.reg ?_)))
 refine qV rfl (R.loadA [] [(1, [(.bool id)]), (32, ms.map vu8), (1, [(.slice da0 n cap0)]), (1, [(vn gn)]), (1, [(.slice fa fn fc)]), (1, [(vu64 (UInt64.ofNat p))])] [] rfl isAgg28 sizeOf28 (h_18.ok _ M1) rfl rfl rfl rfl) ?_
 have h_20 := (h_18.up J3).up J4
 refine WL.call Try.call8 rfl rfl (c_two id ms df hms da0 n cap0 hl fa fn fc fd hfl (UInt64.ofNat p) gn hs _ h_20) rfl ?_
 rintro _ w_30 ⟨b_21, b_22, a_23, c_24, b_25, b_26, a_27, b_28, a_29, rfl, h_31⟩
 have h_32 := h_31.rowNil 114 67
 have h_33 := HP_logNil h_32
 refine qM (.tuple [(pO b_21 0), (pO b_26 0), (pO b_25 0), (pO b_28 0), (.bool true)].toArray) rfl rfl (qV rfl (R.extract rfl rfl) (qV rfl (R.extract rfl rfl) (qV rfl (R.extract rfl rfl) (qV rfl (R.extract rfl rfl) (qV rfl (R.extract rfl rfl) (qA (pO b_21 0) rfl rfl (qA (pO b_26 0) rfl rfl (qA (pO b_25 0) rfl rfl (qA (pO b_28 0) rfl rfl (qA (.bool true) rfl rfl ?_))))))))))
 refine WL.nil (thn_n (WP.seq (WP.seq (WP.reg ?_))))
 refine qM (.bool true) rfl rfl (qV rfl (R.not (b := true) rfl) ?_)
 refine WL.nil (thn_n ?_)
 refine WP.condF rfl ?_
 refine WP.skip (thn_n (WP.seq (WP.reg ?_)))
 refine qM (pO b_21 0) rfl rfl (qM (pO b_26 0) rfl rfl (qV rfl (R.fieldAddr (off' := 36) rfl underlying28 rfl sizeOf26 rfl rfl) (qV rfl (R.load1 rfl isAgg26 (h_33.ok _ M15) (Sg.t rfl (Sg.t rfl (Sg.t rfl (Sg.t rfl (Sg.t rfl Sg.h)))))) ?_)))
 have h_45 := (((((((((((h_33.up J6).up J1).up J5).up J3).up J4).up J9).up J9).up J6).up J6).up J6).up J6).up J6
 refine WL.call Try.call9 rfl rfl (c_LayT id b_21 b_22 ms df hms a_23 n c_24 0 hl none 0 [] ([] : Lg) (by first | decide | omega | exact Nat.le_trans (laC_u ..) (by omega)) (by first | decide | omega | exact Nat.le_trans (laC_l ..) (by simp only [List.length_nil]; omega)) b_26 a_27 gn (by omega) (by omega) p (by omega) (by omega) (fillL fd gn (min fn gn)) (fillL_len hfl (Nat.min_le_right ..) (Nat.min_le_left ..)) hwn s6 hs6 _ h_45) rfl ?_
 rintro _ w_49 ⟨la_46, lc_47, lx_48, rfl, h_50⟩
 refine qM (.tuple [(.agg ⟨((laC id df n 0 ([] : Lg) (s6 + 1)).2.2.take 32).map vu8⟩), (vi 0)].toArray) rfl rfl (qV rfl (R.extract rfl rfl) (qV rfl (R.extract rfl rfl) ?_))
 refine WL.alloc (segs := [(32, (zB 32).map vu8)]) h_50 (zv typeInfo23 rfl) rfl (sC (s8 lr) sN) rfl (fun b_51 w_52 h_53 => ?_)
 refine WL.storeA [] [(32, (zB 32).map vu8)] [(32, ((laC id df n 0 ([] : Lg) (s6 + 1)).2.2.take 32).map vu8)] [] h_53 rfl rfl sizeOf23 At.h (by decide) rfl rfl rfl rfl rfl rfl (sC (s8 (by rw [List.length_take, laC_len hl okN]; omega)) sN) (fun w_54 h_55 => ?_)
 refine qA (vi 0) rfl rfl ?_
 refine WL.nil (thn_n (WP.seq (WP.reg ?_)))
 refine qM (pO b_21 0) rfl rfl (qM (vn pg) rfl rfl ?_)
 have h_60 := ((((h_55.up J5).up J5).up J5).up J5).up J5
 refine WL.call Try.call10 rfl rfl (c_TNone_t id b_21 b_22 ms df hms a_23 n c_24 ((laC id df n 0 ([] : Lg) (s6 + 1)).1) hl la_46 lc_47 lx_48 ((laC id df n 0 ([] : Lg) (s6 + 1)).2.1) (by first | decide | omega | exact Nat.le_trans (laC_u ..) (by omega)) (by first | decide | omega | exact Nat.le_trans (laC_l ..) (by simp only [List.length_nil]; omega)) pg (by omega) _ h_60) rfl ?_
 rintro _ w_64 ⟨la_61, lc_62, lx_63, rfl, h_65⟩
 refine qM (.tuple [(.agg ⟨(anD id df n ((laC id df n 0 ([] : Lg) (s6 + 1)).1) ((laC id df n 0 ([] : Lg) (s6 + 1)).2.1) (1, (zB 32), 6, leN 8 (UInt64.ofNat pg).toNat)).map vu8⟩), (vi 0)].toArray) rfl rfl (qV rfl (R.extract rfl rfl) (qV rfl (R.extract rfl rfl) ?_))
 refine WL.alloc (segs := [(32, (zB 32).map vu8)]) h_65 (zv typeInfo23 rfl) rfl (sC (s8 lr) sN) rfl (fun b_66 w_67 h_68 => ?_)
 refine WL.storeA [] [(32, (zB 32).map vu8)] [(32, (anD id df n ((laC id df n 0 ([] : Lg) (s6 + 1)).1) ((laC id df n 0 ([] : Lg) (s6 + 1)).2.1) (1, (zB 32), 6, leN 8 (UInt64.ofNat pg).toNat)).map vu8)] [] h_68 rfl rfl sizeOf23 At.h (by decide) rfl rfl rfl rfl rfl rfl (sC (s8 (anD_len hl (laC_32 hl okN (s6 + 1)))) sN) (fun w_69 h_70 => ?_)
 refine qA (vi 0) rfl rfl ?_
 refine WL.nil (thn_n (WP.seq (WP.seq (WP.reg ?_))))
 refine qM (vi 0) rfl rfl ?_
 refine WL.call Try.call11 rfl rfl (c_num15 0 (by omega) _ ) rfl ?_
 rintro _ w_72 ⟨rfl, hc_71⟩
 have h_73 := h_70.same hc_71
 refine qM (vi 0) rfl rfl ?_
 refine WL.call Try.call11 rfl rfl (c_num15 0 (by omega) _ ) rfl ?_
 rintro _ w_75 ⟨rfl, hc_74⟩
 have h_76 := h_73.same hc_74
 refine qV rfl (R.bin rfl rfl (bi_add (c := 0) (by omega) (by omega))) (qV rfl (R.bin rfl rfl (bi_neq (r := false) (by decide))) ?_)
 refine WL.nil (thn_n ?_)
 refine WP.condF rfl ?_
 refine WP.skip (thn_n (WP.seq (WP.seq (WP.reg ?_))))
 refine qA (vi 0) rfl rfl ?_
 refine WL.nil (thn_n (WP.block ?_))
 have h_101 := ((((((((((((((((((((((((h_76.up J9).drop rfl).up J9).drop rfl).up J9).drop rfl).up J9).drop rfl).up J9).drop rfl).up J10).drop rfl).up J9).up J12).up J2).up J8).up J11).up J12).up J12).up J12).up J12).up J12).up J12).up J12).up J12
 obtain ⟨hI, hU, hG⟩ := TInv.lay (id := id) (pg := pg) hs6 (fillL_len hfl (Nat.min_le_right ..) (Nat.min_le_left ..)) hw h hl
 unfold noQ at hU hG
 rw [hU, hG] at h_101
 refine WP.loopG (G := Nat × Nat × Lg × List UInt8 × List UInt8 × List UInt8 × Option Addr × Nat × List Value) [8, 15, 18, 76, 77, 78, 79, 80, 81, 82, 83, 84, 85, 86, 87, 88, 89, 90, 91, 92, 93, 94, 95, 96, 97, 98, 99, 100, 101, 102, 103, 104, 105, 106, 107, 108, 109, 110, 111, 112, 113, 114, 115, 116, 117, 118, 119, 120, 121] (fun (i, u2, lg2, l2, rt2, lt2, la2, lc2, lx2) => [(18, (vn i))]) (fun (i, u2, lg2, l2, rt2, lt2, la2, lc2, lx2) m w1 => HP w w1 [.blk b_21 .nw 82 [(1, [(.bool id)]), (32, ms.map vu8), (1, [(.slice a_23 n c_24)]), (1, [(vn u2)]), (1, [(.map (some b_22))]), (1, [(.slice la2 lg2.length lc2)])], .row la2 lg2.length lc2 114 67 lx2, .obj b_22 .nw (.map (mArr lg2) lg2.length), .pin (sblks lx2) (fun w => Lgs w lx2 lg2), .view a_23 (df.map vu8), .blk b_26 .nw 84 [(1, [(.slice a_27 gn gn)])], .row a_27 gn gn 65 128 (l2.map vu8), .blk b_1 .nw 28 [(1, [(.bool id)]), (32, ms.map vu8), (1, [(.slice da0 n cap0)]), (1, [(vn gn)]), (1, [(.slice fa fn fc)]), (1, [(vu64 (UInt64.ofNat p))])], .blk b_4 .nw 23 [(32, xb.map vu8)], .blk b_51 .nw 23 [(32, rt2.map vu8)], .blk b_66 .nw 23 [(32, lt2.map vu8)], .view ar (lsC rs), .view da0 (df.map vu8)] ∧ (TInv id df n gn p pg i u2 lg2 l2 rt2 lt2) ∧ (i ≤ nr) ∧ m = nr + 1 - i) ⟨(0, _, _, _, _, _, la_61, lc_62, lx_63), _, ⟨rfl, trivial⟩, h_101, hI, Nat.zero_le _, rfl⟩ ?_
 rintro ⟨i, u2, lg2, l2, rt2, lt2, la2, lc2, lx2⟩ m_104 J_105 w_102 ⟨h_103, hI, hin, rfl⟩
 refine WP.seq (WP.seq (WP.reg ?_))
 refine qM (vn i) rfl rfl (qM (.slice ar nr cr) rfl rfl (qV rfl (R.lenS (a := ar) (m := nr) rfl rfl underlying29) (qV rfl (R.bin rfl rfl (bi_lss (r := decide ((((i : Nat) : Int) : Int) < ((nr : Nat) : Int))) rfl)) ?_)))
 refine WL.nil (thn_n ?_)
 refine WP.cond (b := decide ((((i : Nat) : Int) : Int) < ((nr : Nat) : Int))) rfl (fun c_106 => ?_) (fun c_106 => ?_)
 ·have p_107 := of_decide_eq_true c_106
  refine WP.skip (thn_n (WP.seq (WP.block (WP.seq (WP.seq ?_)))))
  have hkl : i < rs.length := by omega
  have hkr : okLf (rs.getD i zLf) := hrs _ (getD_mem hkl)
  have hu2 := hI.hu
  have hg2 := hI.hg
  refine WP.reg ?_
  refine qM (.slice ar nr cr) rfl rfl (qM (vn i) rfl rfl (qV rfl (R.indexS (a := ar) (i := i) (off := i * 33) (xs := lsC rs) rfl rfl rfl (by omega) (viewV (h_103.ok _ M11)) (by rw [lsC_len hrs]; omega) underlying29 sizeOf46 rfl) (qV rfl (R.fieldG (a := ar) (i := i * 33) (off' := i * 33) rfl underlying46 rfl sizeOf3 rfl rfl) (qV rfl (R.loadG rfl (viewV (h_103.ok _ M11)) isAgg3 (lsC_pg hrs hkl)) ?_))))
  refine WL.call Try.call6 rfl rfl (c_mayB ((rs.getD i zLf).1) _ ) rfl ?_
  rintro _ w_109 ⟨rfl, hc_108⟩
  have h_110 := h_103.same hc_108
  refine qV rfl (R.not (b := decide (0 ≤ ((rs.getD i zLf).1) ∧ ((rs.getD i zLf).1) < 128)) rfl) ?_
  refine WL.nil (thn_n ?_)
  refine WP.cond (b := !(decide (0 ≤ ((rs.getD i zLf).1) ∧ ((rs.getD i zLf).1) < 128))) rfl (fun c_111 => ?_) (fun c_111 => ?_)
  ·have p_112 := of_decide_eq_false (notT c_111)
   refine WP.exit (thn_x (inb_hit (thn_n (WP.reg ?_))))
   refine qM (vn i) rfl rfl (qV rfl (R.bin rfl rfl (bi_add (c := ((i + 1 : Nat) : Int)) (by omega) (by omega))) (qA (vn (i + 1)) rfl rfl ?_))
   refine WL.nil (thn_n ?_)
   have h_125 := ((((((((((((h_110.up J12).up J12).up J12).up J12).up J12).up J12).up J12).up J12).up J12).up J12).up J12).up J12).up J12
   exact ⟨(i + 1, _, _, _, _, _, la2, lc2, lx2), _, (by omega), (U2 rfl rfl (U4 rfl rfl rfl rfl (U4 rfl rfl rfl rfl (U4 rfl rfl rfl rfl (Ag.updL rfl (Ag.mix _ _ _)))))), ⟨rfl, trivial⟩, h_125, hI.skip, (by omega), rfl⟩
  ·have p_126 := of_decide_eq_true (notF c_111)
   refine WP.skip (thn_n (WP.seq ?_))
   refine WP.drawT (SL w.heap.size [.blk b_26 .nw 84 [(1, [(.slice a_27 gn gn)])], .blk b_1 .nw 28 [(1, [(.bool id)]), (32, ms.map vu8), (1, [(.slice da0 n cap0)]), (1, [(vn gn)]), (1, [(.slice fa fn fc)]), (1, [(vu64 (UInt64.ofNat p))])], .blk b_4 .nw 23 [(32, xb.map vu8)], .blk b_66 .nw 23 [(32, lt2.map vu8)], .view ar (lsC rs), .view da0 (df.map vu8)]) (.q 0 (.q 1 (.q 2 (.q 3 (.q 4 (.q 5 (.q 6 (.q 7 (.q 8 (.q 9 (.q 10 (.q 11 (.q 12 (.q 13 (.s 14 (.q 15 (.q 16 (.q 17 (.s 18 (.q 19 .nil)))))))))))))))))))) (by kernel_rfl) (by kernel_rfl) rfl (by kernel_rfl) (fun w_127 hc_129 => (SL.cons ((h_110.same hc_129).ok _ M5) (SL.cons ((h_110.same hc_129).ok _ M7) (SL.cons ((h_110.same hc_129).ok _ M8) (SL.cons ((h_110.same hc_129).ok _ M10) (SL.cons ((h_110.same hc_129).ok _ M11) (SL.cons ((h_110.same hc_129).ok _ M12) (SL.nil _ _)))))))) (fun w_127 hc_129 => ?_)
   have h_128 := h_110.same hc_129
   refine qT rfl rfl (fun wq hS => R.move (v := (pO b_21 0)) rfl) ?_
   refine qT rfl rfl (fun wq hS => R.move (v := (pO b_26 0)) rfl) ?_
   refine qT rfl rfl (fun wq hS => R.fieldAddr (off' := 36) rfl underlying28 rfl sizeOf26 rfl rfl) ?_
   refine qT rfl rfl (fun wq hS => R.load1 rfl isAgg26 (hS _ M1) (Sg.t rfl (Sg.t rfl (Sg.t rfl (Sg.t rfl (Sg.t rfl Sg.h)))))) ?_
   refine qT rfl rfl (fun wq hS => R.move (v := (.slice ar nr cr)) rfl) ?_
   refine qT rfl rfl (fun wq hS => R.move (v := (vn i)) rfl) ?_
   refine qT rfl rfl (fun wq hS => R.indexS (a := ar) (i := i) (off := i * 33) (xs := lsC rs) rfl rfl rfl (by omega) (viewV (hS _ M4)) (by rw [lsC_len hrs]; omega) underlying29 sizeOf46 rfl) ?_
   refine qT rfl rfl (fun wq hS => R.fieldG (a := ar) (i := i * 33) (off' := i * 33) rfl underlying46 rfl sizeOf3 rfl rfl) ?_
   refine qT rfl rfl (fun wq hS => R.loadG rfl (viewV (hS _ M4)) isAgg3 (lsC_pgN hrs hkl (by omega))) ?_
   refine qT rfl rfl (fun wq hS => R.move (v := (.slice ar nr cr)) rfl) ?_
   refine qT rfl rfl (fun wq hS => R.move (v := (vn i)) rfl) ?_
   refine qT rfl rfl (fun wq hS => R.indexS (a := ar) (i := i) (off := i * 33) (xs := lsC rs) rfl rfl rfl (by omega) (viewV (hS _ M4)) (by rw [lsC_len hrs]; omega) underlying29 sizeOf46 rfl) ?_
   refine qT rfl rfl (fun wq hS => R.fieldG (a := ar) (i := i * 33) (off' := i * 33 + 1) rfl underlying46 rfl sizeOf23 rfl rfl) ?_
   refine qT rfl rfl (fun wq hS => R.loadGA (a := ar) (i := i * 33 + 1) (xs := lsC rs) (cs := ((rs.getD i zLf).2).map vu8) rfl (viewV (hS _ M4)) isAgg23 sizeOf23 (lsC_lf hrs hkl) (len_map hkr.1) (by decide)) ?_
   refine WT.s (oN rfl ?_)
   have h_141 := (((((((((((h_128.up J4).up J4).up J4).up J4).up J4).up J6).up J6).up J6).up J6).up J6).up J6).up J6
   refine WL.call Try.call12 rfl rfl (c_SetT id b_21 b_22 ms df hms a_23 n c_24 u2 hl la2 lc2 lx2 lg2 (by first | decide | omega | exact Nat.le_trans (laC_u ..) (by omega)) (by first | decide | omega | exact Nat.le_trans (laC_l ..) (by simp only [List.length_nil]; omega)) b_26 a_27 gn (by omega) (by omega) p (by omega) (by omega) l2 hI.hl ((rs.getD i zLf).1.toNat) (by omega) ((rs.getD i zLf).2) hkr.1 hwn _ h_141) rfl ?_
   rintro _ w_146 ⟨la_143, lc_144, lx_145, rfl, h_147⟩
   refine WL.nil ?_
   refine ⟨(N5_7_8_10_11_12 h_147.ok), ?_⟩
   refine qT rfl rfl (fun wq hS => R.move (v := (.tuple [(.agg ⟨((upS id df n l2 p ((rs.getD i zLf).1.toNat) u2 lg2 ((rs.getD i zLf).2) 7).2.2).map vu8⟩), (vi 0)].toArray)) rfl) ?_
   refine qT rfl rfl (fun wq hS => R.extract rfl rfl) ?_
   refine qT rfl rfl (fun wq hS => R.extract rfl rfl) ?_
   refine WT.s (oN rfl ?_)
   refine WL.storeA [] [(32, rt2.map vu8)] [(32, ((upS id df n l2 p ((rs.getD i zLf).1.toNat) u2 lg2 ((rs.getD i zLf).2) 7).2.2).map vu8)] [] h_147 rfl rfl sizeOf23 Y9 (by decide) rfl rfl rfl rfl rfl rfl (sC (s8 (upS_len hl hI.h32 hkr.1 7)) sN) (fun w_148 h_149 => ?_)
   refine WL.nil ?_
   refine ⟨(N5_7_8_10_11_12 h_149.ok), ?_⟩
   refine qT rfl rfl (fun wq hS => R.assign (v := (vi 0)) rfl) ?_
   refine WT.nil (thn_n (WP.seq (WP.seq (WP.reg ?_))))
   refine qM (vi 0) rfl rfl ?_
   refine WL.call Try.call11 rfl rfl (c_num15 0 (by omega) _ ) rfl ?_
   rintro _ w_151 ⟨rfl, hc_150⟩
   have h_152 := h_149.same hc_150
   refine qV rfl (R.bin rfl rfl (bi_neq (r := false) (by decide))) ?_
   refine WL.nil (thn_n ?_)
   refine WP.condF rfl ?_
   refine WP.skip (thn_n (WP.seq (WP.reg ?_)))
   refine qM (.slice ar nr cr) rfl rfl (qM (vn i) rfl rfl (qV rfl (R.indexS (a := ar) (i := i) (off := i * 33) (xs := lsC rs) rfl rfl rfl (by omega) (viewV (h_152.ok _ M11)) (by rw [lsC_len hrs]; omega) underlying29 sizeOf46 rfl) (qV rfl (R.fieldG (a := ar) (i := i * 33) (off' := i * 33) rfl underlying46 rfl sizeOf3 rfl rfl) (qV rfl (R.loadG rfl (viewV (h_152.ok _ M11)) isAgg3 (lsC_pg hrs hkl)) (qM (vn pg) rfl rfl (qV rfl (R.bin rfl rfl (bi_eql (r := decide (((rs.getD i zLf).1 : Int) = ((pg : Nat) : Int))) rfl)) ?_))))))
   refine WL.nil (thn_n ?_)
   refine WP.cond (b := decide (((rs.getD i zLf).1 : Int) = ((pg : Nat) : Int))) rfl (fun c_153 => ?_) (fun c_153 => ?_)
   ·have p_154 := of_decide_eq_true c_153
    refine WP.reg ?_
    refine qM (.slice ar nr cr) rfl rfl (qM (vn i) rfl rfl (qV rfl (R.indexS (a := ar) (i := i) (off := i * 33) (xs := lsC rs) rfl rfl rfl (by omega) (viewV (h_152.ok _ M11)) (by rw [lsC_len hrs]; omega) underlying29 sizeOf46 rfl) (qV rfl (R.fieldG (a := ar) (i := i * 33) (off' := i * 33 + 1) rfl underlying46 rfl sizeOf23 rfl rfl) (qV rfl (R.loadGA (a := ar) (i := i * 33 + 1) (xs := lsC rs) (cs := ((rs.getD i zLf).2).map vu8) rfl (viewV (h_152.ok _ M11)) isAgg23 sizeOf23 (lsC_lf hrs hkl) (len_map hkr.1) (by decide)) ?_))))
    refine WL.storeA [] [(32, lt2.map vu8)] [(32, ((rs.getD i zLf).2).map vu8)] [] h_152 rfl rfl sizeOf23 Y10 (by decide) rfl rfl rfl rfl rfl rfl (sC (s8 hkr.1) sN) (fun w_155 h_156 => ?_)
    refine WL.nil (inb_n (thn_n (WP.reg ?_)))
    refine qM (vn i) rfl rfl (qV rfl (R.bin rfl rfl (bi_add (c := ((i + 1 : Nat) : Int)) (by omega) (by omega))) (qA (vn (i + 1)) rfl rfl ?_))
    refine WL.nil (thn_n ?_)
    have h_169 := ((((((((((((h_156.up J12).up J12).up J12).up J12).up J12).up J12).up J12).up J12).up J12).up J12).up J12).up J12).up J12
    exact ⟨(i + 1, _, _, _, _, _, la_143, lc_144, lx_145), _, (by omega), (U4 rfl rfl rfl rfl (U4 rfl rfl rfl rfl (U4 rfl rfl rfl rfl (U4 rfl rfl rfl rfl (U4 rfl rfl rfl rfl (U4 rfl rfl rfl rfl (U4 rfl rfl rfl rfl (U4 rfl rfl rfl rfl (U4 rfl rfl rfl rfl (U4 rfl rfl rfl rfl (U4 rfl rfl rfl rfl (U4 rfl rfl rfl rfl (Ag.updL rfl (Ag.mix _ _ _)))))))))))))), ⟨rfl, trivial⟩, h_169, (by have hI2 := hI.set (q := (rs.getD i zLf).1.toNat) (lf := (rs.getD i zLf).2) h (by omega) hw hl hkr.1; rw [if_pos (by omega)] at hI2; exact hI2), (by omega), rfl⟩
   ·have p_170 := of_decide_eq_false c_153
    refine WP.skip (inb_n (thn_n (WP.reg ?_)))
    refine qM (vn i) rfl rfl (qV rfl (R.bin rfl rfl (bi_add (c := ((i + 1 : Nat) : Int)) (by omega) (by omega))) (qA (vn (i + 1)) rfl rfl ?_))
    refine WL.nil (thn_n ?_)
    have h_183 := ((((((((((((h_152.up J12).up J12).up J12).up J12).up J12).up J12).up J12).up J12).up J12).up J12).up J12).up J12).up J12
    exact ⟨(i + 1, _, _, _, _, _, la_143, lc_144, lx_145), _, (by omega), (Ag.upd rfl (U2 rfl rfl (U4 rfl rfl rfl rfl (U4 rfl rfl rfl rfl (U4 rfl rfl rfl rfl (U4 rfl rfl rfl rfl (U4 rfl rfl rfl rfl (U4 rfl rfl rfl rfl (U4 rfl rfl rfl rfl (U4 rfl rfl rfl rfl (U4 rfl rfl rfl rfl (U4 rfl rfl rfl rfl (Ag.updL rfl (Ag.mix _ _ _)))))))))))))), ⟨rfl, trivial⟩, h_183, (by have hI2 := hI.set (q := (rs.getD i zLf).1.toNat) (lf := (rs.getD i zLf).2) h (by omega) hw hl hkr.1; rw [if_neg (by omega)] at hI2; exact hI2), (by omega), rfl⟩
 ·have p_184 := of_decide_eq_false c_106
  refine WP.exit (thn_x (thn_x (inb_hit (thn_n (WP.seq ?_)))))
  have hu2 := hI.hu
  have hg2 := hI.hg
  refine WP.reg ?_
  refine qM (pO b_21 0) rfl rfl (qM (pO b_26 0) rfl rfl (qV rfl (R.fieldAddr (off' := 36) rfl underlying28 rfl sizeOf26 rfl rfl) (qV rfl (R.load1 rfl isAgg26 (h_103.ok _ M7) (Sg.t rfl (Sg.t rfl (Sg.t rfl (Sg.t rfl (Sg.t rfl Sg.h)))))) (qV rfl (R.loadA [] [(32, rt2.map vu8)] [] (cs := rt2.map vu8) rfl isAgg23 sizeOf23 (h_103.ok _ M9) rfl rfl rfl rfl) (qM (vn pg) rfl rfl (qV rfl (R.loadA [] [(32, lt2.map vu8)] [] (cs := lt2.map vu8) rfl isAgg23 sizeOf23 (h_103.ok _ M10) rfl rfl rfl rfl) ?_))))))
  have h_196 := (((((((((((h_103.up J4).up J4).up J4).up J4).up J4).up J6).up J6).up J6).up J6).up J6).up J6).up J6
  refine WL.call Try.call13 rfl rfl (c_ChkT id b_21 b_22 ms df hms a_23 n c_24 u2 hl la2 lc2 lx2 lg2 (by first | decide | omega | exact Nat.le_trans (laC_u ..) (by omega)) (by first | decide | omega | exact Nat.le_trans (laC_l ..) (by simp only [List.length_nil]; omega)) b_26 a_27 gn (by omega) (by omega) p (by omega) (by omega) l2 hI.hl pg (by omega) lt2 hI.hlt hwn rt2 hI.hr _ h_196) rfl ?_
  rintro _ w_201 ⟨la_198, lc_199, lx_200, rfl, h_202⟩
  rw [hI.is h] at h_202 ⊢
  refine qM (.tuple [(.bool (decide (rt2 = rt2))), (vi 0)].toArray) rfl rfl (qV rfl (R.extract rfl rfl) (qV rfl (R.extract rfl rfl) (qA (.bool (decide (rt2 = rt2))) rfl rfl (qA (vi 0) rfl rfl ?_))))
  refine WL.nil (thn_n (WP.seq (WP.reg ?_)))
  refine qM (pO b_21 0) rfl rfl (qM (pO b_26 0) rfl rfl (qV rfl (R.fieldAddr (off' := 36) rfl underlying28 rfl sizeOf26 rfl rfl) (qV rfl (R.load1 rfl isAgg26 (h_202.ok _ M7) (Sg.t rfl (Sg.t rfl (Sg.t rfl (Sg.t rfl (Sg.t rfl Sg.h)))))) (qV rfl (R.loadA [] [(32, rt2.map vu8)] [] (cs := rt2.map vu8) rfl isAgg23 sizeOf23 (h_202.ok _ M9) rfl rfl rfl rfl) (qM (vn pg) rfl rfl (qV rfl (R.loadA [] [(32, xb.map vu8)] [] (cs := xb.map vu8) rfl isAgg23 sizeOf23 (h_202.ok _ M8) rfl rfl rfl rfl) ?_))))))
  have h_214 := (((((((((((h_202.up J4).up J4).up J4).up J4).up J4).up J6).up J6).up J6).up J6).up J6).up J6).up J6
  refine WL.call Try.call13 rfl rfl (c_ChkT id b_21 b_22 ms df hms a_23 n c_24 u2 hl la_198 lc_199 lx_200 lg2 (by first | decide | omega | exact Nat.le_trans (laC_u ..) (by omega)) (by first | decide | omega | exact Nat.le_trans (laC_l ..) (by simp only [List.length_nil]; omega)) b_26 a_27 gn (by omega) (by omega) p (by omega) (by omega) l2 hI.hl pg (by omega) xb hxb hwn rt2 hI.hr _ h_214) rfl ?_
  rintro _ w_219 ⟨la_216, lc_217, lx_218, rfl, h_220⟩
  refine qM (.tuple [(.bool (decide ((upS id df n l2 p pg u2 lg2 xb 7).2.2 = rt2))), (vi 0)].toArray) rfl rfl (qV rfl (R.extract rfl rfl) (qV rfl (R.extract rfl rfl) (qA (.bool (decide ((upS id df n l2 p pg u2 lg2 xb 7).2.2 = rt2))) rfl rfl (qA (vi 0) rfl rfl ?_))))
  refine WL.nil (thn_n (WP.seq (WP.seq (WP.reg ?_))))
  refine qM (vi 0) rfl rfl ?_
  refine WL.call Try.call11 rfl rfl (c_num15 0 (by omega) _ ) rfl ?_
  rintro _ w_222 ⟨rfl, hc_221⟩
  have h_223 := h_220.same hc_221
  refine qM (vi 0) rfl rfl ?_
  refine WL.call Try.call11 rfl rfl (c_num15 0 (by omega) _ ) rfl ?_
  rintro _ w_225 ⟨rfl, hc_224⟩
  have h_226 := h_223.same hc_224
  refine qV rfl (R.bin rfl rfl (bi_add (c := 0) (by omega) (by omega))) (qV rfl (R.bin rfl rfl (bi_neq (r := false) (by decide))) (qM (.bool false) rfl rfl ?_))
  refine WL.want rfl rfl ?_
  refine qM (.bool (decide (rt2 = rt2))) rfl rfl ?_
  refine WL.want rfl rfl ?_
  refine qV rfl (R.not (b := true) (congrArg Value.bool (decide_eq_true rfl))) (qV rfl (R.pickF (v := (.bool false)) rfl rfl) ?_)
  refine WL.nil (thn_n ?_)
  refine WP.condF rfl ?_
  refine WP.skip (thn_n (WP.seq (WP.reg ?_)))
  refine qV rfl (R.fieldAddr (off' := 0) rfl underlying28 rfl sizeOf4 rfl rfl) (qV rfl (R.load1 rfl isAgg4 (h_226.ok _ M7) Sg.h) (qV rfl (R.not (b := id) rfl) (qM (.bool (!id)) rfl rfl ?_)))
  rcases Bool.eq_false_or_eq_true (!id) with c_227 | c_227
  ·refine WL.skip rfl (congrArg Value.bool c_227) rfl ?_
   refine WL.skip rfl (congrArg Value.bool c_227) rfl ?_
   refine WL.skip rfl (congrArg Value.bool c_227) rfl ?_
   refine WL.skip rfl (congrArg Value.bool c_227) rfl ?_
   refine qV rfl (R.pickT (v := (.bool true)) (congrArg Value.bool c_227) rfl) (qM (.bool true) rfl rfl ?_)
   refine WL.skip rfl rfl rfl ?_
   refine WL.skip rfl rfl rfl ?_
   refine WL.skip rfl rfl rfl ?_
   refine WL.skip rfl rfl rfl ?_
   refine WL.skip rfl rfl rfl ?_
   refine qV rfl (R.pickT (v := (.bool true)) rfl rfl) (qA (.bool true) rfl rfl ?_)
   refine WL.nil (thn_n (WP.ret ?_))
   refine ret_of results3 (RV.tmp (v := (.bool true)) rfl RV.nil) ?_
   exact ⟨rfl, h_226.chgS⟩
  ·refine WL.want rfl (congrArg Value.bool c_227) ?_
   refine qV rfl (R.fieldAddr (off' := 33) rfl underlying28 rfl sizeOf24 rfl rfl) ?_
   refine WL.want rfl (congrArg Value.bool c_227) ?_
   refine qV rfl (R.load1 rfl isAgg24 (h_226.ok _ M7) (Sg.t rfl (Sg.t rfl Sg.h))) ?_
   refine WL.want rfl (congrArg Value.bool c_227) ?_
   refine WL.call Try.call14 rfl rfl (c_distinct15 da0 n cap0 df hl (by omega) _ (viewV (h_226.ok _ M12))) rfl ?_
   rintro _ w_231 ⟨bd_228, rfl, hd_229, hc_230⟩
   have h_232 := h_226.same hc_230
   refine WL.want rfl (congrArg Value.bool c_227) ?_
   refine qV rfl (R.not (b := bd_228) rfl) (qV rfl (R.pickF (v := (.bool (!bd_228))) (congrArg Value.bool c_227) rfl) (qM (.bool (!bd_228)) rfl rfl ?_))
   rcases Bool.eq_false_or_eq_true (!bd_228) with c_233 | c_233
   ·refine WL.skip rfl (congrArg Value.bool c_233) rfl ?_
    refine WL.skip rfl (congrArg Value.bool c_233) rfl ?_
    refine WL.skip rfl (congrArg Value.bool c_233) rfl ?_
    refine WL.skip rfl (congrArg Value.bool c_233) rfl ?_
    refine WL.skip rfl (congrArg Value.bool c_233) rfl ?_
    refine qV rfl (R.pickT (v := (.bool true)) (congrArg Value.bool c_233) rfl) (qA (.bool true) rfl rfl ?_)
    refine WL.nil (thn_n (WP.ret ?_))
    refine ret_of results3 (RV.tmp (v := (.bool true)) rfl RV.nil) ?_
    exact ⟨rfl, h_232.chgS⟩
   ·refine WL.want rfl (congrArg Value.bool c_233) ?_
    refine qM (.bool (decide ((upS id df n l2 p pg u2 lg2 xb 7).2.2 = rt2))) rfl rfl ?_
    refine WL.want rfl (congrArg Value.bool c_233) ?_
    refine qV rfl (R.loadA [] [(32, xb.map vu8)] [] (cs := xb.map vu8) rfl isAgg23 sizeOf23 (h_232.ok _ M8) rfl rfl rfl rfl) ?_
    refine WL.want rfl (congrArg Value.bool c_233) ?_
    refine qV rfl (R.loadA [] [(32, lt2.map vu8)] [] (cs := lt2.map vu8) rfl isAgg23 sizeOf23 (h_232.ok _ M10) rfl rfl rfl rfl) ?_
    refine WL.want rfl (congrArg Value.bool c_233) ?_
    refine qV rfl (R.eqA (xs := xb.map vu8) (ys := lt2.map vu8) (r := decide (xb = lt2)) rfl rfl eqGuardType23 kt23 (by decide) ag23 (Typ.u8s underlying23 ce23 underlying5 ce5 hxb) (Typ.u8s underlying23 ce23 underlying5 ce5 hI.hlt) (map_inj_u8.trans (decT _))) ?_
    refine WL.want rfl (congrArg Value.bool c_233) ?_
    refine qV rfl (R.eqB (a := decide ((upS id df n l2 p pg u2 lg2 xb 7).2.2 = rt2)) (b := decide (xb = lt2)) (c := true) rfl rfl underlying4 (beq_iff_eq.2 (decide_eq_decide.2 (tNotI (nidm c_227) hI h (hd_229 (nidm c_233)) hl (by omega) hxb)))) (qV rfl (R.pickF (v := (.bool true)) (congrArg Value.bool c_233) rfl) (qA (.bool true) rfl rfl ?_))
    refine WL.nil (thn_n (WP.ret ?_))
    refine ret_of results3 (RV.tmp (v := (.bool true)) rfl RV.nil) ?_
    exact ⟨rfl, h_232.chgS⟩

theorem w_TreeMeans (id : Bool) (ms df : List UInt8) (hms : ms.length = 32) (da0 : Option Addr) (n cap0 : Nat) (hl : df.length = 32 * n) (fa : Option Addr) (fn fc : Nat) (fd : List UInt8) (hfl : fd.length = 128 * fn) (nd : UInt64)  (ar : Option Addr) (nr cr : Nat) (rs : List Lf) (hrl : rs.length = nr) (hrs : ∀ r ∈ rs, okLf r)  (xb : List UInt8) (hxb : xb.length = 32) (gn pg : Int) (w : World) (hv : View w da0 (df.map vu8)) (hvf : View w fa (fd.map vu8)) (hvr : View w ar (lsC rs)) : Cs Try.prog 3 [(.agg ⟨flat [(1, [(.bool id)]), (32, ms.map vu8), (1, [(.slice da0 n cap0)]), (1, [(vi gn)]), (1, [(.slice fa fn fc)]), (1, [(vu64 nd)])]⟩), (.slice ar nr cr), (vi pg), (.agg ⟨xb.map vu8⟩)].toArray w (fun v w1 => v = (.bool true) ∧ Chg w w1 []) := by
 by_cases hs : n ≤ 700 ∧ 1 ≤ gn ∧ gn ≤ 80 ∧ fn ≤ 80
 ·obtain ⟨gm, rfl⟩ := Int.eq_ofNat_of_zero_le (show 0 ≤ gn by omega)
  have hs2 : n ≤ 700 ∧ 1 ≤ gm ∧ gm ≤ 80 ∧ fn ≤ 80 := by omega
  by_cases hnr : 12 < nr
  ·exact w_TM_big id ms df hms da0 n cap0 hl fa fn fc fd hfl ar nr cr rs hrl hrs xb hxb nd gm hs2 hnr pg w hv hvf hvr
  by_cases hp : 0 ≤ pg ∧ pg < 128
  ·obtain ⟨q, rfl⟩ := Int.eq_ofNat_of_zero_le hp.1
   rcases Bool.eq_false_or_eq_true (wnB gm nd) with hb | hb
   ·obtain ⟨r, rfl, h1, h2⟩ := wnB_at hb (by omega)
    exact w_TM_t id ms df hms da0 n cap0 hl fa fn fc fd hfl ar nr cr rs hrl hrs xb hxb gm hs2 (by omega) q (by omega) r hb h1 h2 126 rfl w hv hvf hvr
   ·exact w_TM_w id ms df hms da0 n cap0 hl fa fn fc fd hfl ar nr cr rs hrl hrs xb hxb nd gm hs2 (by omega) q (by omega) hb w hv hvf hvr
  ·exact w_TM_pg id ms df hms da0 n cap0 hl fa fn fc fd hfl ar nr cr rs hrl hrs xb hxb nd gm hs2 (by omega) pg hp w hv hvf hvr
 ·exact w_TM_no id ms df hms da0 n cap0 hl fa fn fc fd hfl ar nr cr rs hrl hrs xb hxb nd gn hs pg w hv hvf hvr
namespace treeMeansDone
open Go.ChangeShapes Go.WideShapes Go.ChangeAt
theorem own : ownKnob Try.prog.godebug = none := by kernel_rfl
theorem laidOut : laidOutB Try.prog = true := by kernel_rfl
set_option maxRecDepth 100000 in
theorem lifted (os : Os) (started : os.Started) (H : Type) (enc : TypeId × Value → H) :
  ReturnsInHanded {} Try.checked os 3 .any (Rows.treeMeansSpec.pre6 enc Try.prog Try.f3 Rows.treeMeansRow.domain false) (Rows.treeMeansSpec.post enc Try.prog Try.f3 false true false false) := by
 refine returnsInHanded_of_change (C := Try.checked) own started (by kernel_rfl) Try.func3
  (ChangeSpec.witness6 (enc := enc) (C := Try.checked) false ⟨#[], #[.agg #[.bool false, .int .u8 0, .int .u8 0, .int .u8 0, .int .u8 0, .int .u8 0, .int .u8 0, .int .u8 0, .int .u8 0, .int .u8 0, .int .u8 0, .int .u8 0, .int .u8 0, .int .u8 0, .int .u8 0, .int .u8 0, .int .u8 0, .int .u8 0, .int .u8 0, .int .u8 0, .int .u8 0, .int .u8 0, .int .u8 0, .int .u8 0, .int .u8 0, .int .u8 0, .int .u8 0, .int .u8 0, .int .u8 0, .int .u8 0, .int .u8 0, .int .u8 0, .int .u8 0, .slice none 0 0, .int .i64 0, .slice none 0 0, .int .u64 0], .slice none 0 0, .int .i64 0, .agg #[.int .u8 0, .int .u8 0, .int .u8 0, .int .u8 0, .int .u8 0, .int .u8 0, .int .u8 0, .int .u8 0, .int .u8 0, .int .u8 0, .int .u8 0, .int .u8 0, .int .u8 0, .int .u8 0, .int .u8 0, .int .u8 0, .int .u8 0, .int .u8 0, .int .u8 0, .int .u8 0, .int .u8 0, .int .u8 0, .int .u8 0, .int .u8 0, .int .u8 0, .int .u8 0, .int .u8 0, .int .u8 0, .int .u8 0, .int .u8 0, .int .u8 0, .int .u8 0]], []⟩ 8 (by kernel_rfl) (by kernel_rfl) (by kernel_rfl) (by kernel_rfl)) ?_
 intro W base args ds gs before hval0 hW hcnd _
 have hval : ∀ (j : Nat) t v, Try.f3.params[j]? = some t → args[j]? = some v → Value.okWide Try.prog W .any base t v := hval0
 have hW' := hW
 obtain ⟨p, q, hA0, hV, rfl, hfz, hnd⟩ := hW
 have hA : DataW.TrodAll enc Try.prog W 0 (fun _ => true) true Try.f3.params.toList args.toList ds p := hA0
 rw [Try.params3] at hA hval
 obtain ⟨v0, vs0, d0, ds0, p0, q0, hargs, rfl, rfl, h0, r0⟩ := trodAll_cons hA
 obtain ⟨v1, vs1, d1, ds1, p1, q1, rfl, rfl, rfl, h1, r1⟩ := trodAll_cons r0
 obtain ⟨v2, vs2, d2, ds2, p2, q2, rfl, rfl, rfl, h2, r2⟩ := trodAll_cons r1
 obtain ⟨v3, vs3, d3, ds3, p3, q3, rfl, rfl, rfl, h3, r3⟩ := trodAll_cons r2
 obtain ⟨rfl, rfl, rfl⟩ := trodAll_nil r3
 obtain rfl : args = #[v0, v1, v2, v3] := by cases args; simp_all
 obtain ⟨rfl, rfl⟩ := trodVars_none hV
 have lt0 : ∀ x ∈ p0, x.block < W.heap.size := by obtain ⟨m, hm⟩ := h0; exact DataW.trod_lt m _ _ _ hm
 obtain ⟨cs0, rfl⟩ := okWide_agg aggT28 (hval 0 28 v0 rfl rfl)
 have tr0 : Tr Try.prog W 28 cs0 := Tr.of h0 rfl
 have tl_x0 := Tr.struct (l := [(1, 4), (32, 23), (1, 24), (1, 3), (1, 25), (1, 26)]) underlying28 ce28 (by kernel_rfl) tr0
 obtain ⟨a_x00, r_x00, rfl, n_x00, t_x00, tl_x00⟩ := tl_x0
 obtain ⟨x00, rfl⟩ := Tr.bool underlying4 t_x00
 obtain ⟨a_x01, r_x01, rfl, n_x01, t_x01, tl_x01⟩ := tl_x00
 obtain ⟨x01, rfl, l_x01⟩ := Tr.arr8 underlying23 ce23 ce5 underlying5 t_x01
 obtain ⟨a_x02, r_x02, rfl, n_x02, t_x02, tl_x02⟩ := tl_x01
 obtain ⟨sa_x02, sn_x02, sc_x02, x02, rfl, l_x02, hc_x02, hm_x02, hv_x02⟩ := Tr.slA8 underlying24 ce23 underlying23 ce5 underlying5 t_x02
 obtain ⟨a_x03, r_x03, rfl, n_x03, t_x03, tl_x03⟩ := tl_x02
 obtain ⟨x03, rfl, b_x03⟩ := Tr.i64 underlying3 t_x03
 obtain ⟨a_x04, r_x04, rfl, n_x04, t_x04, tl_x04⟩ := tl_x03
 obtain ⟨sa_x04, sn_x04, sc_x04, x04, rfl, l_x04, hc_x04, hm_x04, hv_x04⟩ := Tr.slA8 underlying25 ce65 underlying65 ce5 underlying5 t_x04
 obtain ⟨a_x05, r_x05, rfl, n_x05, t_x05, tl_x05⟩ := tl_x04
 obtain ⟨x05, rfl⟩ := Tr.u64 underlying26 t_x05
 obtain rfl := tl_x05
 have lt1 : ∀ x ∈ p1, x.block < W.heap.size := by obtain ⟨m, hm⟩ := h1; exact DataW.trod_lt m _ _ _ hm
 obtain ⟨a1, n1, c1, rfl⟩ := okWide_slice underlying29 (hval 1 29 v1 rfl rfl)
 obtain ⟨a1, n1, c1, x1, e1, l_x1, hc1, hm1, hr1, hv1⟩ := trLf W (Tr.of h1 rfl)
 cases e1
 have lt2 : ∀ x ∈ p2, x.block < W.heap.size := by obtain ⟨m, hm⟩ := h2; exact DataW.trod_lt m _ _ _ hm
 obtain ⟨x2, rfl⟩ := okWide_int underlying3 (hval 2 3 v2 rfl rfl)
 have b_x2 := Tr.i64' underlying3 (Tr.of h2 rfl)
 have lt3 : ∀ x ∈ p3, x.block < W.heap.size := by obtain ⟨m, hm⟩ := h3; exact DataW.trod_lt m _ _ _ hm
 obtain ⟨cs3, rfl⟩ := okWide_agg aggT23 (hval 3 23 v3 rfl rfl)
 have tr3 : Tr Try.prog W 23 cs3 := Tr.of h3 rfl
 obtain ⟨x3, rfl, l_x3⟩ := Tr.arr8 underlying23 ce23 ce5 underlying5 tr3
 clear hA0 hval0
 have hw : Cs Try.prog 3 [(.agg ⟨flat [(1, [(.bool x00)]), (32, x01.map vu8), (1, [(.slice sa_x02 sn_x02 sc_x02)]), (1, [(vi x03)]), (1, [(.slice sa_x04 sn_x04 sc_x04)]), (1, [(vu64 x05)])]⟩), (.slice a1 n1 c1), (vi x2), (.agg ⟨x3.map vu8⟩)].toArray W (fun v w1 => v = .bool true ∧ Chg W w1 []) := w_TreeMeans x00 x01 x02 l_x01 sa_x02 sn_x02 sc_x02 l_x02 sa_x04 sn_x04 sc_x04 x04 l_x04 x05 a1 n1 c1 x1 l_x1 hr1 x3 l_x3 x03 x2 W hv_x02.1 hv_x04.1 hv1.1
 have ea : ([(.agg ⟨flat [(1, [(.bool x00)]), (32, x01.map vu8), (1, [(.slice sa_x02 sn_x02 sc_x02)]), (1, [(vi x03)]), (1, [(.slice sa_x04 sn_x04 sc_x04)]), (1, [(vu64 x05)])]⟩), (.slice a1 n1 c1), (vi x2), (.agg ⟨x3.map vu8⟩)] : List Value).toArray = (#[.agg ⟨([.bool x00] ++ (x01.map vu8 ++ ([.slice sa_x02 sn_x02 sc_x02] ++ ([vi x03] ++ ([.slice sa_x04 sn_x04 sc_x04] ++ ([vu64 x05] ++ []))))))⟩, (.slice a1 n1 c1), (vi x2), .agg ⟨x3.map vu8⟩] : Array Value) := by simp [flat]
 rw [ea] at hw
 refine Calls.mono (Cs.below hw) fun e W' ⟨he, bel⟩ => ?_
 subst he
 exact ⟨_, rfl, _, _, _, [], _, [], hW', trodAll_mk1 (shut_bool underlying4 _), (trodAll_cons_mk (Below.trod laidOut (by kernel_rfl) (of_decide_eq_true (by kernel_rfl)) h0 bel lt0) (trodAll_cons_mk (Below.trod laidOut (by kernel_rfl) (of_decide_eq_true (by kernel_rfl)) h1 bel lt1) (trodAll_cons_mk (Below.trod laidOut (by kernel_rfl) (of_decide_eq_true (by kernel_rfl)) h2 bel lt2) (trodAll_cons_mk (Below.trod laidOut (by kernel_rfl) (of_decide_eq_true (by kernel_rfl)) h3 bel lt3) trodAll_mk0)))), rfl, bel.frame _, fun h => by cases h⟩
theorem over : Rows.treeMeansRow.holds Try.pinned (OpenSpec.ofChange Rows.treeMeansSpec) :=
 OpenClaim.holds_of_wide 3 Try.f3 rfl rfl rfl rfl rfl rfl rfl ⟨rfl, rfl, rfl, rfl, rfl⟩ rfl rfl rfl rfl rfl (by kernel_rfl) Try.func3 (by kernel_rfl)
  (of_decide_eq_true (by kernel_rfl)) (by unfold Func.isWrapper; first | (rw [if_pos (by decide +kernel)]; kernel_rfl) | (rw [if_neg (by decide +kernel)]; exact ⟨rfl, rfl⟩))
  (fun os started H enc _ => lifted os started H enc)
theorem proved : Rows.TreeMeansSaid := over
end treeMeansDone
end Go.Proofs.Ytbhllplbbkmndaa
