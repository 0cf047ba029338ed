/- BlobMeans holds of every input. Conditions: none. -/
import Derived.Test.YteclkcpdclimnaaZ5BlobMeans
set_option linter.unusedVariables false
set_option linter.unusedSimpArgs false
set_option linter.unusedSectionVars false
namespace Go.Proofs.Yteclkcpdclimnaa
open Go.Proofs.Try
open Go.Vc Go.Orc Go.Sh Go.RowKit
set_option linter.unusedVariables false
set_option linter.unusedSimpArgs false
set_option maxRecDepth 20000
theorem aggT23 : aggB Try.prog 23 = true := by unfold aggB; rw [underlying23]
theorem aggT26 : aggB Try.prog 26 = true := by unfold aggB; rw [underlying26]
theorem aggT29 : aggB Try.prog 29 = true := by unfold aggB; rw [underlying29]
theorem ce26 : Try.prog.cellsOf 26 = 34 := by kernel_rfl
theorem w_BM_no1 (id : Bool) (ms df : List UInt8) (hms : ms.length = 32) (da0 : Option Addr) (n cap0 : Nat) (hl : df.length = 32 * n) (key : List UInt8) (hk : key.length = 32) (gr gs2 : List UInt8) (hgr : gr.length = 128) (hgs : gs2.length = 128) (pg : Int) (hpg : ¬ (0 ≤ pg ∧ pg < 128)) (pg2 : Int) (ct ct2 : UInt64) (w : World) (hv : View w da0 (df.map vu8)) :
  Cs Try.prog 3 [(.agg ⟨flat [(1, [(.bool id)]), (32, ms.map vu8), (1, [(.slice da0 n cap0)])]⟩), (.agg ⟨key.map vu8⟩), (vi pg), (vu64 ct), (.agg ⟨gr.map vu8⟩), (vi pg2), (vu64 ct2), (.agg ⟨gs2.map vu8⟩)].toArray w (fun v w1 => v = (.bool true) ∧ Chg w w1 []) := by
 refine Cs.of (n := 148) (args := [(.agg ⟨flat [(1, [(.bool id)]), (32, ms.map vu8), (1, [(.slice da0 n cap0)])]⟩), (.agg ⟨key.map vu8⟩), (vi pg), (vu64 ct), (.agg ⟨gr.map vu8⟩), (vi pg2), (vu64 ct2), (.agg ⟨gs2.map vu8⟩)]) Try.func3 rfl rfl rfl ?_
 have h_0 := HP.init w
 have h_00 := h_0.old (View.arg hv) (fun f hf => by cases hf)
 refine WP.seq (WP.reg ?_)
 refine WL.box (segs := [(1, [(.bool id)]), (32, ms.map vu8), (1, [(.slice da0 n cap0)])]) h_00 rfl rfl (sC sV (sC (s8 hms) (sC sV sN))) rfl (fun b_1 w_2 h_3 => ?_)
 refine WL.box (segs := [(32, key.map vu8)]) h_3 rfl rfl (sC (s8 hk) sN) rfl (fun b_4 w_5 h_6 => ?_)
 refine WL.box (segs := [(128, gr.map vu8)]) h_6 rfl rfl (sC (s8 hgr) sN) rfl (fun b_7 w_8 h_9 => ?_)
 refine WL.box (segs := [(128, gs2.map vu8)]) h_9 rfl rfl (sC (s8 hgs) sN) rfl (fun b_10 w_11 h_12 => ?_)
 refine qA (.bool false) rfl rfl ?_
 refine WL.nil (thn_n (WP.seq (WP.seq (WP.reg ?_))))
 refine WL.call Try.call6 rfl rfl (c_known16  _ ) rfl ?_
 rintro _ w_14 ⟨rfl, hc_13⟩
 have h_15 := h_12.same hc_13
 refine qV rfl (R.not (b := true) rfl) ?_
 refine WL.nil (thn_n ?_)
 refine WP.condF rfl ?_
 refine WP.skip (thn_n (WP.seq (WP.seq (WP.reg ?_))))
 refine qV rfl (R.fieldAddr (off' := 33) rfl underlying26 rfl sizeOf24 rfl rfl) (qV rfl (R.load1 rfl isAgg24 (h_15.ok _ M3) (Sg.t rfl (Sg.t rfl Sg.h))) (qV rfl (R.lenS (a := da0) (m := n) rfl rfl underlying24) (qV rfl (R.bin rfl rfl (bi_gtr (r := decide ((((n : Nat) : Int) : Int) > 60)) rfl)) (qM (.bool (decide ((((n : Nat) : Int) : Int) > 60))) rfl rfl ?_))))
 rcases Bool.eq_false_or_eq_true (decide ((((n : Nat) : Int) : Int) > 60)) with c_16 | c_16
 ·have p_17 := of_decide_eq_true c_16
  refine WL.skip rfl (congrArg Value.bool c_16) rfl ?_
  refine WL.skip rfl (congrArg Value.bool c_16) rfl ?_
  refine WL.skip rfl (congrArg Value.bool c_16) rfl ?_
  refine WL.skip rfl (congrArg Value.bool c_16) rfl ?_
  refine qV rfl (R.pickT (v := (.bool true)) (congrArg Value.bool c_16) rfl) (qM (.bool true) rfl rfl ?_)
  refine WL.skip rfl rfl rfl ?_
  refine WL.skip rfl rfl rfl ?_
  refine WL.skip rfl rfl rfl ?_
  refine WL.skip rfl rfl rfl ?_
  refine qV rfl (R.pickT (v := (.bool true)) rfl rfl) ?_
  refine WL.nil (thn_n ?_)
  refine WP.condT rfl ?_
  refine WP.seq (WP.reg ?_)
  refine qA (.bool true) rfl rfl ?_
  refine WL.nil (thn_n (WP.ret (thn_r ?_)))
  refine ret_of results3 (RV.tmp (v := (.bool true)) rfl RV.nil) ?_
  exact ⟨rfl, h_15.chgS⟩
 ·have p_18 := of_decide_eq_false c_16
  refine WL.want rfl (congrArg Value.bool c_16) ?_
  refine qM (vi pg) rfl rfl ?_
  refine WL.want rfl (congrArg Value.bool c_16) ?_
  refine qM (vu64 ct) rfl rfl ?_
  refine WL.want rfl (congrArg Value.bool c_16) ?_
  refine WL.call Try.call7 rfl rfl (c_May16_no pg hpg ct _ ) rfl ?_
  rintro _ w_20 ⟨rfl, hc_19⟩
  have h_21 := h_15.same hc_19
  refine WL.want rfl (congrArg Value.bool c_16) ?_
  refine qV rfl (R.not (b := false) rfl) (qV rfl (R.pickF (v := (.bool true)) (congrArg Value.bool c_16) rfl) (qM (.bool true) rfl rfl ?_))
  refine WL.skip rfl rfl rfl ?_
  refine WL.skip rfl rfl rfl ?_
  refine WL.skip rfl rfl rfl ?_
  refine WL.skip rfl rfl rfl ?_
  refine qV rfl (R.pickT (v := (.bool true)) rfl rfl) ?_
  refine WL.nil (thn_n ?_)
  refine WP.condT rfl ?_
  refine WP.seq (WP.reg ?_)
  refine qA (.bool true) rfl rfl ?_
  refine WL.nil (thn_n (WP.ret (thn_r ?_)))
  refine ret_of results3 (RV.tmp (v := (.bool true)) rfl RV.nil) ?_
  exact ⟨rfl, h_21.chgS⟩

theorem w_BM_ct1 (id : Bool) (ms df : List UInt8) (hms : ms.length = 32) (da0 : Option Addr) (n cap0 : Nat) (hl : df.length = 32 * n) (key : List UInt8) (hk : key.length = 32) (gr gs2 : List UInt8) (hgr : gr.length = 128) (hgs : gs2.length = 128) (pg : Nat) (h : pg < 128) (pg2 : Int) (ct ct2 : UInt64) (hctb : ct > 4294967296) (w : World) (hv : View w da0 (df.map vu8)) :
  Cs Try.prog 3 [(.agg ⟨flat [(1, [(.bool id)]), (32, ms.map vu8), (1, [(.slice da0 n cap0)])]⟩), (.agg ⟨key.map vu8⟩), (vi ((pg : Nat) : Int)), (vu64 ct), (.agg ⟨gr.map vu8⟩), (vi pg2), (vu64 ct2), (.agg ⟨gs2.map vu8⟩)].toArray w (fun v w1 => v = (.bool true) ∧ Chg w w1 []) := by
 refine Cs.of (n := 148) (args := [(.agg ⟨flat [(1, [(.bool id)]), (32, ms.map vu8), (1, [(.slice da0 n cap0)])]⟩), (.agg ⟨key.map vu8⟩), (vn pg), (vu64 ct), (.agg ⟨gr.map vu8⟩), (vi pg2), (vu64 ct2), (.agg ⟨gs2.map vu8⟩)]) Try.func3 rfl rfl rfl ?_
 have h_0 := HP.init w
 have h_00 := h_0.old (View.arg hv) (fun f hf => by cases hf)
 refine WP.seq (WP.reg ?_)
 refine WL.box (segs := [(1, [(.bool id)]), (32, ms.map vu8), (1, [(.slice da0 n cap0)])]) h_00 rfl rfl (sC sV (sC (s8 hms) (sC sV sN))) rfl (fun b_1 w_2 h_3 => ?_)
 refine WL.box (segs := [(32, key.map vu8)]) h_3 rfl rfl (sC (s8 hk) sN) rfl (fun b_4 w_5 h_6 => ?_)
 refine WL.box (segs := [(128, gr.map vu8)]) h_6 rfl rfl (sC (s8 hgr) sN) rfl (fun b_7 w_8 h_9 => ?_)
 refine WL.box (segs := [(128, gs2.map vu8)]) h_9 rfl rfl (sC (s8 hgs) sN) rfl (fun b_10 w_11 h_12 => ?_)
 refine qA (.bool false) rfl rfl ?_
 refine WL.nil (thn_n (WP.seq (WP.seq (WP.reg ?_))))
 refine WL.call Try.call6 rfl rfl (c_known16  _ ) rfl ?_
 rintro _ w_14 ⟨rfl, hc_13⟩
 have h_15 := h_12.same hc_13
 refine qV rfl (R.not (b := true) rfl) ?_
 refine WL.nil (thn_n ?_)
 refine WP.condF rfl ?_
 refine WP.skip (thn_n (WP.seq (WP.seq (WP.reg ?_))))
 refine qV rfl (R.fieldAddr (off' := 33) rfl underlying26 rfl sizeOf24 rfl rfl) (qV rfl (R.load1 rfl isAgg24 (h_15.ok _ M3) (Sg.t rfl (Sg.t rfl Sg.h))) (qV rfl (R.lenS (a := da0) (m := n) rfl rfl underlying24) (qV rfl (R.bin rfl rfl (bi_gtr (r := decide ((((n : Nat) : Int) : Int) > 60)) rfl)) (qM (.bool (decide ((((n : Nat) : Int) : Int) > 60))) rfl rfl ?_))))
 rcases Bool.eq_false_or_eq_true (decide ((((n : Nat) : Int) : Int) > 60)) with c_16 | c_16
 ·have p_17 := of_decide_eq_true c_16
  refine WL.skip rfl (congrArg Value.bool c_16) rfl ?_
  refine WL.skip rfl (congrArg Value.bool c_16) rfl ?_
  refine WL.skip rfl (congrArg Value.bool c_16) rfl ?_
  refine WL.skip rfl (congrArg Value.bool c_16) rfl ?_
  refine qV rfl (R.pickT (v := (.bool true)) (congrArg Value.bool c_16) rfl) (qM (.bool true) rfl rfl ?_)
  refine WL.skip rfl rfl rfl ?_
  refine WL.skip rfl rfl rfl ?_
  refine WL.skip rfl rfl rfl ?_
  refine WL.skip rfl rfl rfl ?_
  refine qV rfl (R.pickT (v := (.bool true)) rfl rfl) ?_
  refine WL.nil (thn_n ?_)
  refine WP.condT rfl ?_
  refine WP.seq (WP.reg ?_)
  refine qA (.bool true) rfl rfl ?_
  refine WL.nil (thn_n (WP.ret (thn_r ?_)))
  refine ret_of results3 (RV.tmp (v := (.bool true)) rfl RV.nil) ?_
  exact ⟨rfl, h_15.chgS⟩
 ·have p_18 := of_decide_eq_false c_16
  refine WL.want rfl (congrArg Value.bool c_16) ?_
  refine qM (vn pg) rfl rfl ?_
  refine WL.want rfl (congrArg Value.bool c_16) ?_
  refine qM (vu64 ct) rfl rfl ?_
  refine WL.want rfl (congrArg Value.bool c_16) ?_
  refine WL.call Try.call7 rfl rfl (c_May16 pg ct (by omega) _ ) rfl ?_
  rintro _ w_20 ⟨rfl, hc_19⟩
  have h_21 := h_15.same hc_19
  refine WL.want rfl (congrArg Value.bool c_16) ?_
  refine qV rfl (R.not (b := false) (congrArg Value.bool (decide_eq_false (UInt64.not_le.2 hctb)))) (qV rfl (R.pickF (v := (.bool true)) (congrArg Value.bool c_16) rfl) (qM (.bool true) rfl rfl ?_))
  refine WL.skip rfl rfl rfl ?_
  refine WL.skip rfl rfl rfl ?_
  refine WL.skip rfl rfl rfl ?_
  refine WL.skip rfl rfl rfl ?_
  refine qV rfl (R.pickT (v := (.bool true)) rfl rfl) ?_
  refine WL.nil (thn_n ?_)
  refine WP.condT rfl ?_
  refine WP.seq (WP.reg ?_)
  refine qA (.bool true) rfl rfl ?_
  refine WL.nil (thn_n (WP.ret (thn_r ?_)))
  refine ret_of results3 (RV.tmp (v := (.bool true)) rfl RV.nil) ?_
  exact ⟨rfl, h_21.chgS⟩

theorem w_BM_no2 (id : Bool) (ms df : List UInt8) (hms : ms.length = 32) (da0 : Option Addr) (n cap0 : Nat) (hl : df.length = 32 * n) (key : List UInt8) (hk : key.length = 32) (gr gs2 : List UInt8) (hgr : gr.length = 128) (hgs : gs2.length = 128) (pg : Nat) (h : pg < 128) (pg2 : Int) (hpg2 : ¬ (0 ≤ pg2 ∧ pg2 < 128)) (ct ct2 : UInt64) (hct : ¬ ct > 4294967296) (w : World) (hv : View w da0 (df.map vu8)) :
  Cs Try.prog 3 [(.agg ⟨flat [(1, [(.bool id)]), (32, ms.map vu8), (1, [(.slice da0 n cap0)])]⟩), (.agg ⟨key.map vu8⟩), (vi ((pg : Nat) : Int)), (vu64 ct), (.agg ⟨gr.map vu8⟩), (vi pg2), (vu64 ct2), (.agg ⟨gs2.map vu8⟩)].toArray w (fun v w1 => v = (.bool true) ∧ Chg w w1 []) := by
 refine Cs.of (n := 148) (args := [(.agg ⟨flat [(1, [(.bool id)]), (32, ms.map vu8), (1, [(.slice da0 n cap0)])]⟩), (.agg ⟨key.map vu8⟩), (vn pg), (vu64 ct), (.agg ⟨gr.map vu8⟩), (vi pg2), (vu64 ct2), (.agg ⟨gs2.map vu8⟩)]) Try.func3 rfl rfl rfl ?_
 have h_0 := HP.init w
 have h_00 := h_0.old (View.arg hv) (fun f hf => by cases hf)
 refine WP.seq (WP.reg ?_)
 refine WL.box (segs := [(1, [(.bool id)]), (32, ms.map vu8), (1, [(.slice da0 n cap0)])]) h_00 rfl rfl (sC sV (sC (s8 hms) (sC sV sN))) rfl (fun b_1 w_2 h_3 => ?_)
 refine WL.box (segs := [(32, key.map vu8)]) h_3 rfl rfl (sC (s8 hk) sN) rfl (fun b_4 w_5 h_6 => ?_)
 refine WL.box (segs := [(128, gr.map vu8)]) h_6 rfl rfl (sC (s8 hgr) sN) rfl (fun b_7 w_8 h_9 => ?_)
 refine WL.box (segs := [(128, gs2.map vu8)]) h_9 rfl rfl (sC (s8 hgs) sN) rfl (fun b_10 w_11 h_12 => ?_)
 refine qA (.bool false) rfl rfl ?_
 refine WL.nil (thn_n (WP.seq (WP.seq (WP.reg ?_))))
 refine WL.call Try.call6 rfl rfl (c_known16  _ ) rfl ?_
 rintro _ w_14 ⟨rfl, hc_13⟩
 have h_15 := h_12.same hc_13
 refine qV rfl (R.not (b := true) rfl) ?_
 refine WL.nil (thn_n ?_)
 refine WP.condF rfl ?_
 refine WP.skip (thn_n (WP.seq (WP.seq (WP.reg ?_))))
 refine qV rfl (R.fieldAddr (off' := 33) rfl underlying26 rfl sizeOf24 rfl rfl) (qV rfl (R.load1 rfl isAgg24 (h_15.ok _ M3) (Sg.t rfl (Sg.t rfl Sg.h))) (qV rfl (R.lenS (a := da0) (m := n) rfl rfl underlying24) (qV rfl (R.bin rfl rfl (bi_gtr (r := decide ((((n : Nat) : Int) : Int) > 60)) rfl)) (qM (.bool (decide ((((n : Nat) : Int) : Int) > 60))) rfl rfl ?_))))
 rcases Bool.eq_false_or_eq_true (decide ((((n : Nat) : Int) : Int) > 60)) with c_16 | c_16
 ·have p_17 := of_decide_eq_true c_16
  refine WL.skip rfl (congrArg Value.bool c_16) rfl ?_
  refine WL.skip rfl (congrArg Value.bool c_16) rfl ?_
  refine WL.skip rfl (congrArg Value.bool c_16) rfl ?_
  refine WL.skip rfl (congrArg Value.bool c_16) rfl ?_
  refine qV rfl (R.pickT (v := (.bool true)) (congrArg Value.bool c_16) rfl) (qM (.bool true) rfl rfl ?_)
  refine WL.skip rfl rfl rfl ?_
  refine WL.skip rfl rfl rfl ?_
  refine WL.skip rfl rfl rfl ?_
  refine WL.skip rfl rfl rfl ?_
  refine qV rfl (R.pickT (v := (.bool true)) rfl rfl) ?_
  refine WL.nil (thn_n ?_)
  refine WP.condT rfl ?_
  refine WP.seq (WP.reg ?_)
  refine qA (.bool true) rfl rfl ?_
  refine WL.nil (thn_n (WP.ret (thn_r ?_)))
  refine ret_of results3 (RV.tmp (v := (.bool true)) rfl RV.nil) ?_
  exact ⟨rfl, h_15.chgS⟩
 ·have p_18 := of_decide_eq_false c_16
  refine WL.want rfl (congrArg Value.bool c_16) ?_
  refine qM (vn pg) rfl rfl ?_
  refine WL.want rfl (congrArg Value.bool c_16) ?_
  refine qM (vu64 ct) rfl rfl ?_
  refine WL.want rfl (congrArg Value.bool c_16) ?_
  refine WL.call Try.call7 rfl rfl (c_May16 pg ct (by omega) _ ) rfl ?_
  rintro _ w_20 ⟨rfl, hc_19⟩
  have h_21 := h_15.same hc_19
  refine WL.want rfl (congrArg Value.bool c_16) ?_
  refine qV rfl (R.not (b := true) (congrArg Value.bool (decide_eq_true (UInt64.not_lt.1 hct)))) (qV rfl (R.pickF (v := (.bool false)) (congrArg Value.bool c_16) rfl) (qM (.bool false) rfl rfl ?_))
  refine WL.want rfl rfl ?_
  refine qM (vi pg2) rfl rfl ?_
  refine WL.want rfl rfl ?_
  refine qM (vu64 ct2) rfl rfl ?_
  refine WL.want rfl rfl ?_
  refine WL.call Try.call7 rfl rfl (c_May16_no pg2 hpg2 ct2 _ ) rfl ?_
  rintro _ w_23 ⟨rfl, hc_22⟩
  have h_24 := h_21.same hc_22
  refine WL.want rfl rfl ?_
  refine qV rfl (R.not (b := false) rfl) (qV rfl (R.pickF (v := (.bool true)) rfl rfl) ?_)
  refine WL.nil (thn_n ?_)
  refine WP.condT rfl ?_
  refine WP.seq (WP.reg ?_)
  refine qA (.bool true) rfl rfl ?_
  refine WL.nil (thn_n (WP.ret (thn_r ?_)))
  refine ret_of results3 (RV.tmp (v := (.bool true)) rfl RV.nil) ?_
  exact ⟨rfl, h_24.chgS⟩

theorem w_BM_ct2 (id : Bool) (ms df : List UInt8) (hms : ms.length = 32) (da0 : Option Addr) (n cap0 : Nat) (hl : df.length = 32 * n) (key : List UInt8) (hk : key.length = 32) (gr gs2 : List UInt8) (hgr : gr.length = 128) (hgs : gs2.length = 128) (pg : Nat) (h : pg < 128) (pg2 : Nat) (h2 : pg2 < 128) (ct ct2 : UInt64) (hct : ¬ ct > 4294967296) (hctb2 : ct2 > 4294967296) (w : World) (hv : View w da0 (df.map vu8)) :
  Cs Try.prog 3 [(.agg ⟨flat [(1, [(.bool id)]), (32, ms.map vu8), (1, [(.slice da0 n cap0)])]⟩), (.agg ⟨key.map vu8⟩), (vi ((pg : Nat) : Int)), (vu64 ct), (.agg ⟨gr.map vu8⟩), (vi ((pg2 : Nat) : Int)), (vu64 ct2), (.agg ⟨gs2.map vu8⟩)].toArray w (fun v w1 => v = (.bool true) ∧ Chg w w1 []) := by
 refine Cs.of (n := 148) (args := [(.agg ⟨flat [(1, [(.bool id)]), (32, ms.map vu8), (1, [(.slice da0 n cap0)])]⟩), (.agg ⟨key.map vu8⟩), (vn pg), (vu64 ct), (.agg ⟨gr.map vu8⟩), (vn pg2), (vu64 ct2), (.agg ⟨gs2.map vu8⟩)]) Try.func3 rfl rfl rfl ?_
 have h_0 := HP.init w
 have h_00 := h_0.old (View.arg hv) (fun f hf => by cases hf)
 refine WP.seq (WP.reg ?_)
 refine WL.box (segs := [(1, [(.bool id)]), (32, ms.map vu8), (1, [(.slice da0 n cap0)])]) h_00 rfl rfl (sC sV (sC (s8 hms) (sC sV sN))) rfl (fun b_1 w_2 h_3 => ?_)
 refine WL.box (segs := [(32, key.map vu8)]) h_3 rfl rfl (sC (s8 hk) sN) rfl (fun b_4 w_5 h_6 => ?_)
 refine WL.box (segs := [(128, gr.map vu8)]) h_6 rfl rfl (sC (s8 hgr) sN) rfl (fun b_7 w_8 h_9 => ?_)
 refine WL.box (segs := [(128, gs2.map vu8)]) h_9 rfl rfl (sC (s8 hgs) sN) rfl (fun b_10 w_11 h_12 => ?_)
 refine qA (.bool false) rfl rfl ?_
 refine WL.nil (thn_n (WP.seq (WP.seq (WP.reg ?_))))
 refine WL.call Try.call6 rfl rfl (c_known16  _ ) rfl ?_
 rintro _ w_14 ⟨rfl, hc_13⟩
 have h_15 := h_12.same hc_13
 refine qV rfl (R.not (b := true) rfl) ?_
 refine WL.nil (thn_n ?_)
 refine WP.condF rfl ?_
 refine WP.skip (thn_n (WP.seq (WP.seq (WP.reg ?_))))
 refine qV rfl (R.fieldAddr (off' := 33) rfl underlying26 rfl sizeOf24 rfl rfl) (qV rfl (R.load1 rfl isAgg24 (h_15.ok _ M3) (Sg.t rfl (Sg.t rfl Sg.h))) (qV rfl (R.lenS (a := da0) (m := n) rfl rfl underlying24) (qV rfl (R.bin rfl rfl (bi_gtr (r := decide ((((n : Nat) : Int) : Int) > 60)) rfl)) (qM (.bool (decide ((((n : Nat) : Int) : Int) > 60))) rfl rfl ?_))))
 rcases Bool.eq_false_or_eq_true (decide ((((n : Nat) : Int) : Int) > 60)) with c_16 | c_16
 ·have p_17 := of_decide_eq_true c_16
  refine WL.skip rfl (congrArg Value.bool c_16) rfl ?_
  refine WL.skip rfl (congrArg Value.bool c_16) rfl ?_
  refine WL.skip rfl (congrArg Value.bool c_16) rfl ?_
  refine WL.skip rfl (congrArg Value.bool c_16) rfl ?_
  refine qV rfl (R.pickT (v := (.bool true)) (congrArg Value.bool c_16) rfl) (qM (.bool true) rfl rfl ?_)
  refine WL.skip rfl rfl rfl ?_
  refine WL.skip rfl rfl rfl ?_
  refine WL.skip rfl rfl rfl ?_
  refine WL.skip rfl rfl rfl ?_
  refine qV rfl (R.pickT (v := (.bool true)) rfl rfl) ?_
  refine WL.nil (thn_n ?_)
  refine WP.condT rfl ?_
  refine WP.seq (WP.reg ?_)
  refine qA (.bool true) rfl rfl ?_
  refine WL.nil (thn_n (WP.ret (thn_r ?_)))
  refine ret_of results3 (RV.tmp (v := (.bool true)) rfl RV.nil) ?_
  exact ⟨rfl, h_15.chgS⟩
 ·have p_18 := of_decide_eq_false c_16
  refine WL.want rfl (congrArg Value.bool c_16) ?_
  refine qM (vn pg) rfl rfl ?_
  refine WL.want rfl (congrArg Value.bool c_16) ?_
  refine qM (vu64 ct) rfl rfl ?_
  refine WL.want rfl (congrArg Value.bool c_16) ?_
  refine WL.call Try.call7 rfl rfl (c_May16 pg ct (by omega) _ ) rfl ?_
  rintro _ w_20 ⟨rfl, hc_19⟩
  have h_21 := h_15.same hc_19
  refine WL.want rfl (congrArg Value.bool c_16) ?_
  refine qV rfl (R.not (b := true) (congrArg Value.bool (decide_eq_true (UInt64.not_lt.1 hct)))) (qV rfl (R.pickF (v := (.bool false)) (congrArg Value.bool c_16) rfl) (qM (.bool false) rfl rfl ?_))
  refine WL.want rfl rfl ?_
  refine qM (vn pg2) rfl rfl ?_
  refine WL.want rfl rfl ?_
  refine qM (vu64 ct2) rfl rfl ?_
  refine WL.want rfl rfl ?_
  refine WL.call Try.call7 rfl rfl (c_May16 pg2 ct2 (by omega) _ ) rfl ?_
  rintro _ w_23 ⟨rfl, hc_22⟩
  have h_24 := h_21.same hc_22
  refine WL.want rfl rfl ?_
  refine qV rfl (R.not (b := false) (congrArg Value.bool (decide_eq_false (UInt64.not_le.2 hctb2)))) (qV rfl (R.pickF (v := (.bool true)) rfl rfl) ?_)
  refine WL.nil (thn_n ?_)
  refine WP.condT rfl ?_
  refine WP.seq (WP.reg ?_)
  refine qA (.bool true) rfl rfl ?_
  refine WL.nil (thn_n (WP.ret (thn_r ?_)))
  refine ret_of results3 (RV.tmp (v := (.bool true)) rfl RV.nil) ?_
  exact ⟨rfl, h_24.chgS⟩

theorem w_BM_ok (id : Bool) (ms df : List UInt8) (hms : ms.length = 32) (da0 : Option Addr) (n cap0 : Nat) (hl : df.length = 32 * n) (key : List UInt8) (hk : key.length = 32) (gr gs2 : List UInt8) (hgr : gr.length = 128) (hgs : gs2.length = 128) (pg : Nat) (h : pg < 128) (pg2 : Nat) (h2 : pg2 < 128) (ct ct2 : UInt64) (hct : ¬ ct > 4294967296) (hct2 : ¬ ct2 > 4294967296) (w : World) (hv : View w da0 (df.map vu8)) :
  Cs Try.prog 3 [(.agg ⟨flat [(1, [(.bool id)]), (32, ms.map vu8), (1, [(.slice da0 n cap0)])]⟩), (.agg ⟨key.map vu8⟩), (vi ((pg : Nat) : Int)), (vu64 ct), (.agg ⟨gr.map vu8⟩), (vi ((pg2 : Nat) : Int)), (vu64 ct2), (.agg ⟨gs2.map vu8⟩)].toArray w (fun v w1 => v = (.bool true) ∧ Chg w w1 []) := by
 refine Cs.of (n := 148) (args := [(.agg ⟨flat [(1, [(.bool id)]), (32, ms.map vu8), (1, [(.slice da0 n cap0)])]⟩), (.agg ⟨key.map vu8⟩), (vn pg), (vu64 ct), (.agg ⟨gr.map vu8⟩), (vn pg2), (vu64 ct2), (.agg ⟨gs2.map vu8⟩)]) Try.func3 rfl rfl rfl ?_
 have h_0 := HP.init w
 have h_00 := h_0.old (View.arg hv) (fun f hf => by cases hf)
 refine WP.seq (WP.reg ?_)
 refine WL.box (segs := [(1, [(.bool id)]), (32, ms.map vu8), (1, [(.slice da0 n cap0)])]) h_00 rfl rfl (sC sV (sC (s8 hms) (sC sV sN))) rfl (fun b_1 w_2 h_3 => ?_)
 refine WL.box (segs := [(32, key.map vu8)]) h_3 rfl rfl (sC (s8 hk) sN) rfl (fun b_4 w_5 h_6 => ?_)
 refine WL.box (segs := [(128, gr.map vu8)]) h_6 rfl rfl (sC (s8 hgr) sN) rfl (fun b_7 w_8 h_9 => ?_)
 refine WL.box (segs := [(128, gs2.map vu8)]) h_9 rfl rfl (sC (s8 hgs) sN) rfl (fun b_10 w_11 h_12 => ?_)
 refine qA (.bool false) rfl rfl ?_
 refine WL.nil (thn_n (WP.seq (WP.seq (WP.reg ?_))))
 refine WL.call Try.call6 rfl rfl (c_known16  _ ) rfl ?_
 rintro _ w_14 ⟨rfl, hc_13⟩
 have h_15 := h_12.same hc_13
 refine qV rfl (R.not (b := true) rfl) ?_
 refine WL.nil (thn_n ?_)
 refine WP.condF rfl ?_
 refine WP.skip (thn_n (WP.seq (WP.seq (WP.reg ?_))))
 refine qV rfl (R.fieldAddr (off' := 33) rfl underlying26 rfl sizeOf24 rfl rfl) (qV rfl (R.load1 rfl isAgg24 (h_15.ok _ M3) (Sg.t rfl (Sg.t rfl Sg.h))) (qV rfl (R.lenS (a := da0) (m := n) rfl rfl underlying24) (qV rfl (R.bin rfl rfl (bi_gtr (r := decide ((((n : Nat) : Int) : Int) > 60)) rfl)) (qM (.bool (decide ((((n : Nat) : Int) : Int) > 60))) rfl rfl ?_))))
 rcases Bool.eq_false_or_eq_true (decide ((((n : Nat) : Int) : Int) > 60)) with c_16 | c_16
 ·have p_17 := of_decide_eq_true c_16
  refine WL.skip rfl (congrArg Value.bool c_16) rfl ?_
  refine WL.skip rfl (congrArg Value.bool c_16) rfl ?_
  refine WL.skip rfl (congrArg Value.bool c_16) rfl ?_
  refine WL.skip rfl (congrArg Value.bool c_16) rfl ?_
  refine qV rfl (R.pickT (v := (.bool true)) (congrArg Value.bool c_16) rfl) (qM (.bool true) rfl rfl ?_)
  refine WL.skip rfl rfl rfl ?_
  refine WL.skip rfl rfl rfl ?_
  refine WL.skip rfl rfl rfl ?_
  refine WL.skip rfl rfl rfl ?_
  refine qV rfl (R.pickT (v := (.bool true)) rfl rfl) ?_
  refine WL.nil (thn_n ?_)
  refine WP.condT rfl ?_
  refine WP.seq (WP.reg ?_)
  refine qA (.bool true) rfl rfl ?_
  refine WL.nil (thn_n (WP.ret (thn_r ?_)))
  refine ret_of results3 (RV.tmp (v := (.bool true)) rfl RV.nil) ?_
  exact ⟨rfl, h_15.chgS⟩
 ·have p_18 := of_decide_eq_false c_16
  refine WL.want rfl (congrArg Value.bool c_16) ?_
  refine qM (vn pg) rfl rfl ?_
  refine WL.want rfl (congrArg Value.bool c_16) ?_
  refine qM (vu64 ct) rfl rfl ?_
  refine WL.want rfl (congrArg Value.bool c_16) ?_
  refine WL.call Try.call7 rfl rfl (c_May16 pg ct (by omega) _ ) rfl ?_
  rintro _ w_20 ⟨rfl, hc_19⟩
  have h_21 := h_15.same hc_19
  refine WL.want rfl (congrArg Value.bool c_16) ?_
  refine qV rfl (R.not (b := true) (congrArg Value.bool (decide_eq_true (UInt64.not_lt.1 hct)))) (qV rfl (R.pickF (v := (.bool false)) (congrArg Value.bool c_16) rfl) (qM (.bool false) rfl rfl ?_))
  refine WL.want rfl rfl ?_
  refine qM (vn pg2) rfl rfl ?_
  refine WL.want rfl rfl ?_
  refine qM (vu64 ct2) rfl rfl ?_
  refine WL.want rfl rfl ?_
  refine WL.call Try.call7 rfl rfl (c_May16 pg2 ct2 (by omega) _ ) rfl ?_
  rintro _ w_23 ⟨rfl, hc_22⟩
  have h_24 := h_21.same hc_22
  refine WL.want rfl rfl ?_
  refine qV rfl (R.not (b := true) (congrArg Value.bool (decide_eq_true (UInt64.not_lt.1 hct2)))) (qV rfl (R.pickF (v := (.bool false)) rfl rfl) ?_)
  refine WL.nil (thn_n ?_)
  refine WP.condF rfl ?_
  refine WP.skip (thn_n (WP.seq (WP.reg ?_)))
  refine qV rfl (R.loadA [] [(1, [(.bool id)]), (32, ms.map vu8), (1, [(.slice da0 n cap0)])] [] rfl isAgg26 sizeOf26 (h_24.ok _ M3) rfl rfl rfl rfl) ?_
  have h_25 := h_24.up J4
  refine WL.call Try.call8 rfl rfl (c_both16 id ms df hms da0 n cap0 hl (by omega) _ h_25) rfl ?_
  rintro _ w_31 ⟨b_26, b_27, a_28, c_29, b_30, rfl, h_32⟩
  have h_33 := h_32.rowNil 64 67
  have h_34 := HP_logNil h_33
  refine qM (.tuple [(pO b_26 0), (pO b_30 0)].toArray) rfl rfl (qV rfl (R.extract rfl rfl) (qV rfl (R.extract rfl rfl) (qA (pO b_26 0) rfl rfl (qA (pO b_30 0) rfl rfl ?_))))
  refine WL.nil (thn_n (WP.seq (WP.reg ?_)))
  refine qM (pO b_26 0) rfl rfl (qV rfl (R.loadA [] [(32, key.map vu8)] [] (cs := key.map vu8) rfl isAgg23 sizeOf23 (h_34.ok _ M11) rfl rfl rfl rfl) (qM (vn pg) rfl rfl (qM (vu64 ct) rfl rfl (qV rfl (R.loadA [] [(128, gr.map vu8)] [] (cs := gr.map vu8) rfl isAgg29 sizeOf29 (h_34.ok _ M10) rfl rfl rfl rfl) ?_))))
  have h_39 := ((((h_34.up J6).up J1).up J5).up J3).up J4
  refine WL.call Try.call9 rfl rfl (c_Seal id b_26 b_27 ms df hms a_28 n c_29 0 hl none 0 [] ([] : Lg) (by first | decide | omega) (by first | decide | omega) key gr hk hgr pg ct (by omega) (by first | exact hct | exact hct2) _ h_39) rfl ?_
  rintro _ w_43 ⟨la_40, lc_41, lx_42, rfl, h_44⟩
  refine qM (.tuple [(.agg ⟨(gx gr (gSt id df n key 10 (pcB pg ct) 0 ([] : Lg)).2.2).map vu8⟩), (vi 0)].toArray) rfl rfl (qV rfl (R.extract rfl rfl) (qV rfl (R.extract rfl rfl) ?_))
  refine WL.alloc (segs := [(128, (zB 128).map vu8)]) h_44 (zv typeInfo29 rfl) rfl (sC (s8 lr) sN) rfl (fun b_45 w_46 h_47 => ?_)
  refine WL.storeA [] [(128, (zB 128).map vu8)] [(128, (gx gr (gSt id df n key 10 (pcB pg ct) 0 ([] : Lg)).2.2).map vu8)] [] h_47 rfl rfl sizeOf29 At.h (by decide) rfl rfl rfl rfl rfl rfl (sC (s8 (gx_len hgr (gSt_len hl okN))) sN) (fun w_48 h_49 => ?_)
  refine qA (vi 0) rfl rfl ?_
  refine WL.nil (thn_n (WP.seq ?_))
  have hsu : (gSt id df n key 10 (pcB pg ct) 0 ([] : Lg)).1 ≤ 4 := Nat.le_trans gSt_u (by decide)
  have hsl : (gSt id df n key 10 (pcB pg ct) 0 ([] : Lg)).2.1.length ≤ 4 := Nat.le_trans gSt_l (by decide)
  refine WP.reg ?_
  refine qM (pO b_26 0) rfl rfl (qV rfl (R.loadA [] [(32, key.map vu8)] [] (cs := key.map vu8) rfl isAgg23 sizeOf23 (h_49.ok _ M12) rfl rfl rfl rfl) (qM (vn pg) rfl rfl (qM (vu64 ct) rfl rfl (qV rfl (R.loadA [] [(128, (gx gr (gSt id df n key 10 (pcB pg ct) 0 ([] : Lg)).2.2).map vu8)] [] (cs := (gx gr (gSt id df n key 10 (pcB pg ct) 0 ([] : Lg)).2.2).map vu8) rfl isAgg29 sizeOf29 (h_49.ok _ M0) rfl rfl rfl rfl) ?_))))
  have h_54 := ((((h_49.up J5).up J5).up J5).up J5).up J5
  refine WL.call Try.call10 rfl rfl (c_OpenA id b_26 b_27 ms df hms a_28 n c_29 0 hl la_40 lc_41 lx_42 ([] : Lg) (by first | decide | omega) (by first | decide | omega) key (gx gr (gSt id df n key 10 (pcB pg ct) 0 ([] : Lg)).2.2) hk (gx_len hgr (gSt_len hl okN)) pg ct (by omega) (by first | exact hct | exact hct2) _ h_54) rfl ?_
  rintro _ w_58 ⟨la_55, lc_56, lx_57, rfl, h_59⟩
  refine qM (.tuple [(.agg ⟨(gx (gx gr (gSt id df n key 10 (pcB pg ct) 0 ([] : Lg)).2.2) (gSt id df n key 10 (pcB pg ct) 0 ([] : Lg)).2.2).map vu8⟩), (vi 0)].toArray) rfl rfl (qV rfl (R.extract rfl rfl) (qV rfl (R.extract rfl rfl) ?_))
  refine WL.alloc (segs := [(128, (zB 128).map vu8)]) h_59 (zv typeInfo29 rfl) rfl (sC (s8 lr) sN) rfl (fun b_60 w_61 h_62 => ?_)
  refine WL.storeA [] [(128, (zB 128).map vu8)] [(128, (gx (gx gr (gSt id df n key 10 (pcB pg ct) 0 ([] : Lg)).2.2) (gSt id df n key 10 (pcB pg ct) 0 ([] : Lg)).2.2).map vu8)] [] h_62 rfl rfl sizeOf29 At.h (by decide) rfl rfl rfl rfl rfl rfl (sC (s8 (gx_len (gx_len hgr (gSt_len hl okN)) (gSt_len hl okN))) sN) (fun w_63 h_64 => ?_)
  refine qA (vi 0) rfl rfl ?_
  refine WL.nil (thn_n (WP.seq (WP.reg ?_)))
  refine qM (pO b_26 0) rfl rfl (qM (vn pg) rfl rfl (qM (vu64 ct) rfl rfl (qV rfl (R.loadA [] [(128, (gx gr (gSt id df n key 10 (pcB pg ct) 0 ([] : Lg)).2.2).map vu8)] [] (cs := (gx gr (gSt id df n key 10 (pcB pg ct) 0 ([] : Lg)).2.2).map vu8) rfl isAgg29 sizeOf29 (h_64.ok _ M6) rfl rfl rfl rfl) ?_)))
  have h_69 := ((((h_64.up J5).up J5).up J5).up J5).up J5
  have h32_w_73 := Lgs.ok32 (h_69.ok _ M3).1
  refine WL.call Try.call11 rfl rfl (c_Leaf id b_26 b_27 ms df hms a_28 n c_29 ((gSt id df n key 10 (pcB pg ct) 0 ([] : Lg)).1) hl la_55 lc_56 lx_57 ((gSt id df n key 10 (pcB pg ct) 0 ([] : Lg)).2.1) (by first | decide | omega) (by first | decide | omega) (gx gr (gSt id df n key 10 (pcB pg ct) 0 ([] : Lg)).2.2) (gx_len hgr (gSt_len hl okN)) pg ct (by omega) (by first | exact hct | exact hct2) _ h_69) rfl ?_
  rintro _ w_73 ⟨la_70, lc_71, lx_72, rfl, h_74⟩
  refine qM (.tuple [(.agg ⟨(anD id df n ((gSt id df n key 10 (pcB pg ct) 0 ([] : Lg)).1) ((gSt id df n key 10 (pcB pg ct) 0 ([] : Lg)).2.1) (1, (zB 32), 4, [pcB pg ct, gx gr (gSt id df n key 10 (pcB pg ct) 0 ([] : Lg)).2.2].flatten)).map vu8⟩), (vi 0)].toArray) rfl rfl (qV rfl (R.extract rfl rfl) (qV rfl (R.extract rfl rfl) ?_))
  refine WL.alloc (segs := [(32, (zB 32).map vu8)]) h_74 (zv typeInfo23 rfl) rfl (sC (s8 lr) sN) rfl (fun b_75 w_76 h_77 => ?_)
  refine WL.storeA [] [(32, (zB 32).map vu8)] [(32, (anD id df n ((gSt id df n key 10 (pcB pg ct) 0 ([] : Lg)).1) ((gSt id df n key 10 (pcB pg ct) 0 ([] : Lg)).2.1) (1, (zB 32), 4, [pcB pg ct, gx gr (gSt id df n key 10 (pcB pg ct) 0 ([] : Lg)).2.2].flatten)).map vu8)] [] h_77 rfl rfl sizeOf23 At.h (by decide) rfl rfl rfl rfl rfl rfl (sC (s8 (anD_len hl h32_w_73)) sN) (fun w_78 h_79 => ?_)
  refine qA (vi 0) rfl rfl ?_
  refine WL.nil (thn_n (WP.seq ?_))
  have hu_80 : anU id ((gSt id df n key 10 (pcB pg ct) 0 ([] : Lg)).1) ((gSt id df n key 10 (pcB pg ct) 0 ([] : Lg)).2.1) (1, (List.replicate 32 (0 : UInt8)), 4, [pcB pg ct, gx gr (gSt id df n key 10 (pcB pg ct) 0 ([] : Lg)).2.2].flatten) ≤ 5 := Nat.le_trans (anU_le ..) (by omega)
  have hl_81 : (anL id df n ((gSt id df n key 10 (pcB pg ct) 0 ([] : Lg)).1) ((gSt id df n key 10 (pcB pg ct) 0 ([] : Lg)).2.1) (1, (List.replicate 32 (0 : UInt8)), 4, [pcB pg ct, gx gr (gSt id df n key 10 (pcB pg ct) 0 ([] : Lg)).2.2].flatten)).length ≤ 5 := Nat.le_trans (anL_le ..) (by omega)
  refine WP.reg ?_
  refine qM (pO b_26 0) rfl rfl (qM (vn pg2) rfl rfl (qM (vu64 ct2) rfl rfl (qV rfl (R.loadA [] [(128, gs2.map vu8)] [] (cs := gs2.map vu8) rfl isAgg29 sizeOf29 (h_79.ok _ M12) rfl rfl rfl rfl) ?_)))
  have h_86 := ((((h_79.up J5).up J5).up J5).up J5).up J5
  have h32_w_90 := Lgs.ok32 (h_86.ok _ M3).1
  refine WL.call Try.call11 rfl rfl (c_Leaf id b_26 b_27 ms df hms a_28 n c_29 (anU id ((gSt id df n key 10 (pcB pg ct) 0 ([] : Lg)).1) ((gSt id df n key 10 (pcB pg ct) 0 ([] : Lg)).2.1) (1, (zB 32), 4, [pcB pg ct, gx gr (gSt id df n key 10 (pcB pg ct) 0 ([] : Lg)).2.2].flatten)) hl la_70 lc_71 lx_72 (anL id df n ((gSt id df n key 10 (pcB pg ct) 0 ([] : Lg)).1) ((gSt id df n key 10 (pcB pg ct) 0 ([] : Lg)).2.1) (1, (zB 32), 4, [pcB pg ct, gx gr (gSt id df n key 10 (pcB pg ct) 0 ([] : Lg)).2.2].flatten)) (by first | decide | omega | exact Nat.le_trans hu_80 (by decide)) (by first | decide | omega | exact Nat.le_trans hl_81 (by decide)) gs2 hgs pg2 ct2 (by omega) (by first | exact hct | exact hct2) _ h_86) rfl ?_
  rintro _ w_90 ⟨la_87, lc_88, lx_89, rfl, h_91⟩
  refine qM (.tuple [(.agg ⟨(anD id df n (anU id ((gSt id df n key 10 (pcB pg ct) 0 ([] : Lg)).1) ((gSt id df n key 10 (pcB pg ct) 0 ([] : Lg)).2.1) (1, (zB 32), 4, [pcB pg ct, gx gr (gSt id df n key 10 (pcB pg ct) 0 ([] : Lg)).2.2].flatten)) (anL id df n ((gSt id df n key 10 (pcB pg ct) 0 ([] : Lg)).1) ((gSt id df n key 10 (pcB pg ct) 0 ([] : Lg)).2.1) (1, (zB 32), 4, [pcB pg ct, gx gr (gSt id df n key 10 (pcB pg ct) 0 ([] : Lg)).2.2].flatten)) (1, (zB 32), 4, [pcB pg2 ct2, gs2].flatten)).map vu8⟩), (vi 0)].toArray) rfl rfl (qV rfl (R.extract rfl rfl) (qV rfl (R.extract rfl rfl) ?_))
  refine WL.alloc (segs := [(32, (zB 32).map vu8)]) h_91 (zv typeInfo23 rfl) rfl (sC (s8 lr) sN) rfl (fun b_92 w_93 h_94 => ?_)
  refine WL.storeA [] [(32, (zB 32).map vu8)] [(32, (anD id df n (anU id ((gSt id df n key 10 (pcB pg ct) 0 ([] : Lg)).1) ((gSt id df n key 10 (pcB pg ct) 0 ([] : Lg)).2.1) (1, (zB 32), 4, [pcB pg ct, gx gr (gSt id df n key 10 (pcB pg ct) 0 ([] : Lg)).2.2].flatten)) (anL id df n ((gSt id df n key 10 (pcB pg ct) 0 ([] : Lg)).1) ((gSt id df n key 10 (pcB pg ct) 0 ([] : Lg)).2.1) (1, (zB 32), 4, [pcB pg ct, gx gr (gSt id df n key 10 (pcB pg ct) 0 ([] : Lg)).2.2].flatten)) (1, (zB 32), 4, [pcB pg2 ct2, gs2].flatten)).map vu8)] [] h_94 rfl rfl sizeOf23 At.h (by decide) rfl rfl rfl rfl rfl rfl (sC (s8 (anD_len hl h32_w_90)) sN) (fun w_95 h_96 => ?_)
  refine qA (vi 0) rfl rfl ?_
  refine WL.nil (thn_n (WP.seq ?_))
  have hu_97 : anU id (anU id ((gSt id df n key 10 (pcB pg ct) 0 ([] : Lg)).1) ((gSt id df n key 10 (pcB pg ct) 0 ([] : Lg)).2.1) (1, (List.replicate 32 (0 : UInt8)), 4, [pcB pg ct, gx gr (gSt id df n key 10 (pcB pg ct) 0 ([] : Lg)).2.2].flatten)) (anL id df n ((gSt id df n key 10 (pcB pg ct) 0 ([] : Lg)).1) ((gSt id df n key 10 (pcB pg ct) 0 ([] : Lg)).2.1) (1, (List.replicate 32 (0 : UInt8)), 4, [pcB pg ct, gx gr (gSt id df n key 10 (pcB pg ct) 0 ([] : Lg)).2.2].flatten)) (1, (List.replicate 32 (0 : UInt8)), 4, [pcB pg2 ct2, gs2].flatten) ≤ 6 := Nat.le_trans (anU_le ..) (by omega)
  have hl_98 : (anL id df n (anU id ((gSt id df n key 10 (pcB pg ct) 0 ([] : Lg)).1) ((gSt id df n key 10 (pcB pg ct) 0 ([] : Lg)).2.1) (1, (List.replicate 32 (0 : UInt8)), 4, [pcB pg ct, gx gr (gSt id df n key 10 (pcB pg ct) 0 ([] : Lg)).2.2].flatten)) (anL id df n ((gSt id df n key 10 (pcB pg ct) 0 ([] : Lg)).1) ((gSt id df n key 10 (pcB pg ct) 0 ([] : Lg)).2.1) (1, (List.replicate 32 (0 : UInt8)), 4, [pcB pg ct, gx gr (gSt id df n key 10 (pcB pg ct) 0 ([] : Lg)).2.2].flatten)) (1, (List.replicate 32 (0 : UInt8)), 4, [pcB pg2 ct2, gs2].flatten)).length ≤ 6 := Nat.le_trans (anL_le ..) (by omega)
  refine WP.reg ?_
  refine qM (pO b_26 0) rfl rfl (qM (vn pg2) rfl rfl ?_)
  have h_103 := ((((h_96.up J5).up J5).up J5).up J5).up J5
  refine WL.call Try.call12 rfl rfl (c_None id b_26 b_27 ms df hms a_28 n c_29 (anU id (anU id ((gSt id df n key 10 (pcB pg ct) 0 ([] : Lg)).1) ((gSt id df n key 10 (pcB pg ct) 0 ([] : Lg)).2.1) (1, (zB 32), 4, [pcB pg ct, gx gr (gSt id df n key 10 (pcB pg ct) 0 ([] : Lg)).2.2].flatten)) (anL id df n ((gSt id df n key 10 (pcB pg ct) 0 ([] : Lg)).1) ((gSt id df n key 10 (pcB pg ct) 0 ([] : Lg)).2.1) (1, (zB 32), 4, [pcB pg ct, gx gr (gSt id df n key 10 (pcB pg ct) 0 ([] : Lg)).2.2].flatten)) (1, (zB 32), 4, [pcB pg2 ct2, gs2].flatten)) hl la_87 lc_88 lx_89 (anL id df n (anU id ((gSt id df n key 10 (pcB pg ct) 0 ([] : Lg)).1) ((gSt id df n key 10 (pcB pg ct) 0 ([] : Lg)).2.1) (1, (zB 32), 4, [pcB pg ct, gx gr (gSt id df n key 10 (pcB pg ct) 0 ([] : Lg)).2.2].flatten)) (anL id df n ((gSt id df n key 10 (pcB pg ct) 0 ([] : Lg)).1) ((gSt id df n key 10 (pcB pg ct) 0 ([] : Lg)).2.1) (1, (zB 32), 4, [pcB pg ct, gx gr (gSt id df n key 10 (pcB pg ct) 0 ([] : Lg)).2.2].flatten)) (1, (zB 32), 4, [pcB pg2 ct2, gs2].flatten)) (by first | decide | omega | exact Nat.le_trans hu_97 (by decide)) (by first | decide | omega | exact Nat.le_trans hl_98 (by decide)) pg2 (by omega) _ h_103) rfl ?_
  rintro _ w_107 ⟨la_104, lc_105, lx_106, rfl, h_108⟩
  refine qM (.tuple [(.agg ⟨(anD id df n (anU id (anU id ((gSt id df n key 10 (pcB pg ct) 0 ([] : Lg)).1) ((gSt id df n key 10 (pcB pg ct) 0 ([] : Lg)).2.1) (1, (zB 32), 4, [pcB pg ct, gx gr (gSt id df n key 10 (pcB pg ct) 0 ([] : Lg)).2.2].flatten)) (anL id df n ((gSt id df n key 10 (pcB pg ct) 0 ([] : Lg)).1) ((gSt id df n key 10 (pcB pg ct) 0 ([] : Lg)).2.1) (1, (zB 32), 4, [pcB pg ct, gx gr (gSt id df n key 10 (pcB pg ct) 0 ([] : Lg)).2.2].flatten)) (1, (zB 32), 4, [pcB pg2 ct2, gs2].flatten)) (anL id df n (anU id ((gSt id df n key 10 (pcB pg ct) 0 ([] : Lg)).1) ((gSt id df n key 10 (pcB pg ct) 0 ([] : Lg)).2.1) (1, (zB 32), 4, [pcB pg ct, gx gr (gSt id df n key 10 (pcB pg ct) 0 ([] : Lg)).2.2].flatten)) (anL id df n ((gSt id df n key 10 (pcB pg ct) 0 ([] : Lg)).1) ((gSt id df n key 10 (pcB pg ct) 0 ([] : Lg)).2.1) (1, (zB 32), 4, [pcB pg ct, gx gr (gSt id df n key 10 (pcB pg ct) 0 ([] : Lg)).2.2].flatten)) (1, (zB 32), 4, [pcB pg2 ct2, gs2].flatten)) (1, (zB 32), 6, leN 8 (UInt64.ofNat pg2).toNat)).map vu8⟩), (vi 0)].toArray) rfl rfl (qV rfl (R.extract rfl rfl) (qV rfl (R.extract rfl rfl) ?_))
  refine WL.alloc (segs := [(32, (zB 32).map vu8)]) h_108 (zv typeInfo23 rfl) rfl (sC (s8 lr) sN) rfl (fun b_109 w_110 h_111 => ?_)
  refine WL.storeA [] [(32, (zB 32).map vu8)] [(32, (anD id df n (anU id (anU id ((gSt id df n key 10 (pcB pg ct) 0 ([] : Lg)).1) ((gSt id df n key 10 (pcB pg ct) 0 ([] : Lg)).2.1) (1, (zB 32), 4, [pcB pg ct, gx gr (gSt id df n key 10 (pcB pg ct) 0 ([] : Lg)).2.2].flatten)) (anL id df n ((gSt id df n key 10 (pcB pg ct) 0 ([] : Lg)).1) ((gSt id df n key 10 (pcB pg ct) 0 ([] : Lg)).2.1) (1, (zB 32), 4, [pcB pg ct, gx gr (gSt id df n key 10 (pcB pg ct) 0 ([] : Lg)).2.2].flatten)) (1, (zB 32), 4, [pcB pg2 ct2, gs2].flatten)) (anL id df n (anU id ((gSt id df n key 10 (pcB pg ct) 0 ([] : Lg)).1) ((gSt id df n key 10 (pcB pg ct) 0 ([] : Lg)).2.1) (1, (zB 32), 4, [pcB pg ct, gx gr (gSt id df n key 10 (pcB pg ct) 0 ([] : Lg)).2.2].flatten)) (anL id df n ((gSt id df n key 10 (pcB pg ct) 0 ([] : Lg)).1) ((gSt id df n key 10 (pcB pg ct) 0 ([] : Lg)).2.1) (1, (zB 32), 4, [pcB pg ct, gx gr (gSt id df n key 10 (pcB pg ct) 0 ([] : Lg)).2.2].flatten)) (1, (zB 32), 4, [pcB pg2 ct2, gs2].flatten)) (1, (zB 32), 6, leN 8 (UInt64.ofNat pg2).toNat)).map vu8)] [] h_111 rfl rfl sizeOf23 At.h (by decide) rfl rfl rfl rfl rfl rfl (sC (s8 (anD_len hl (anL_32 (dn := n) hl (anL_32 (dn := n) hl (gSt_32 hl okN))))) sN) (fun w_112 h_113 => ?_)
  refine qA (vi 0) rfl rfl ?_
  refine WL.nil (thn_n (WP.seq (WP.seq (WP.reg ?_))))
  refine qM (vi 0) rfl rfl ?_
  refine WL.call Try.call13 rfl rfl (c_num16 0 (by omega) _ ) rfl ?_
  rintro _ w_115 ⟨rfl, hc_114⟩
  have h_116 := h_113.same hc_114
  refine qM (vi 0) rfl rfl ?_
  refine WL.call Try.call13 rfl rfl (c_num16 0 (by omega) _ ) rfl ?_
  rintro _ w_118 ⟨rfl, hc_117⟩
  have h_119 := h_116.same hc_117
  refine qV rfl (R.bin rfl rfl (bi_add (c := 0) (by omega) (by omega))) (qM (vi 0) rfl rfl ?_)
  refine WL.call Try.call13 rfl rfl (c_num16 0 (by omega) _ ) rfl ?_
  rintro _ w_121 ⟨rfl, hc_120⟩
  have h_122 := h_119.same hc_120
  refine qV rfl (R.bin rfl rfl (bi_add (c := 0) (by omega) (by omega))) (qM (vi 0) rfl rfl ?_)
  refine WL.call Try.call13 rfl rfl (c_num16 0 (by omega) _ ) rfl ?_
  rintro _ w_124 ⟨rfl, hc_123⟩
  have h_125 := h_122.same hc_123
  refine qV rfl (R.bin rfl rfl (bi_add (c := 0) (by omega) (by omega))) (qM (vi 0) rfl rfl ?_)
  refine WL.call Try.call13 rfl rfl (c_num16 0 (by omega) _ ) rfl ?_
  rintro _ w_127 ⟨rfl, hc_126⟩
  have h_128 := h_125.same hc_126
  refine qV rfl (R.bin rfl rfl (bi_add (c := 0) (by omega) (by omega))) (qV rfl (R.bin rfl rfl (bi_neq (r := false) (by decide))) (qM (.bool false) rfl rfl ?_))
  refine WL.want rfl rfl ?_
  refine qV rfl (R.loadA [] [(128, (gx (gx gr (gSt id df n key 10 (pcB pg ct) 0 ([] : Lg)).2.2) (gSt id df n key 10 (pcB pg ct) 0 ([] : Lg)).2.2).map vu8)] [] (cs := (gx (gx gr (gSt id df n key 10 (pcB pg ct) 0 ([] : Lg)).2.2) (gSt id df n key 10 (pcB pg ct) 0 ([] : Lg)).2.2).map vu8) rfl isAgg29 sizeOf29 (h_128.ok _ M8) rfl rfl rfl rfl) ?_
  refine WL.want rfl rfl ?_
  refine qV rfl (R.loadA [] [(128, gr.map vu8)] [] (cs := gr.map vu8) rfl isAgg29 sizeOf29 (h_128.ok _ M15) rfl rfl rfl rfl) ?_
  refine WL.want rfl rfl ?_
  refine qV rfl (R.neA (xs := (gx (gx gr (gSt id df n key 10 (pcB pg ct) 0 ([] : Lg)).2.2) (gSt id df n key 10 (pcB pg ct) 0 ([] : Lg)).2.2).map vu8) (ys := gr.map vu8) (r := false) rfl rfl eqGuardType29 kt29 (by decide) ag29 (Typ.u8s underlying29 ce29 underlying5 ce5 (gx_len (gx_len hgr (gSt_len hl okN)) (gSt_len hl okN))) (Typ.u8s underlying29 ce29 underlying5 ce5 hgr) (neT (by rw [gx_gx hgr (gSt_len hl okN)]))) (qV rfl (R.pickF (v := (.bool false)) rfl rfl) ?_)
  refine WL.nil (thn_n ?_)
  refine WP.condF rfl ?_
  refine WP.skip (thn_n (WP.seq (WP.seq (WP.reg ?_))))
  refine qV rfl (R.fieldAddr (off' := 0) rfl underlying26 rfl sizeOf4 rfl rfl) (qV rfl (R.load1 rfl isAgg4 (h_128.ok _ M17) Sg.h) (qV rfl (R.not (b := id) rfl) (qM (.bool (!id)) rfl rfl ?_)))
  rcases Bool.eq_false_or_eq_true (!id) with c_129 | c_129
  ·refine WL.skip rfl (congrArg Value.bool c_129) rfl ?_
   refine WL.skip rfl (congrArg Value.bool c_129) rfl ?_
   refine WL.skip rfl (congrArg Value.bool c_129) rfl ?_
   refine WL.skip rfl (congrArg Value.bool c_129) rfl ?_
   refine qV rfl (R.pickT (v := (.bool true)) (congrArg Value.bool c_129) rfl) ?_
   refine WL.nil (thn_n ?_)
   refine WP.condT rfl ?_
   refine WP.seq (WP.reg ?_)
   refine qA (.bool true) rfl rfl ?_
   refine WL.nil (thn_n (WP.ret (thn_r ?_)))
   refine ret_of results3 (RV.tmp (v := (.bool true)) rfl RV.nil) ?_
   exact ⟨rfl, h_128.chgS⟩
  ·refine WL.want rfl (congrArg Value.bool c_129) ?_
   refine qV rfl (R.fieldAddr (off' := 33) rfl underlying26 rfl sizeOf24 rfl rfl) ?_
   refine WL.want rfl (congrArg Value.bool c_129) ?_
   refine qV rfl (R.load1 rfl isAgg24 (h_128.ok _ M17) (Sg.t rfl (Sg.t rfl Sg.h))) ?_
   refine WL.want rfl (congrArg Value.bool c_129) ?_
   refine WL.call Try.call14 rfl rfl (c_distinct16 da0 n cap0 df hl (by omega) _ (viewV (h_128.ok _ M13))) rfl ?_
   rintro _ w_133 ⟨bd_130, rfl, hd_131, hc_132⟩
   have h_134 := h_128.same hc_132
   refine WL.want rfl (congrArg Value.bool c_129) ?_
   refine qV rfl (R.not (b := bd_130) rfl) (qV rfl (R.pickF (v := (.bool (!bd_130))) (congrArg Value.bool c_129) rfl) ?_)
   refine WL.nil (thn_n ?_)
   refine WP.cond (b := !bd_130) rfl (fun c_135 => ?_) (fun c_135 => ?_)
   ·refine WP.seq (WP.reg ?_)
    refine qA (.bool true) rfl rfl ?_
    refine WL.nil (thn_n (WP.ret (thn_r ?_)))
    refine ret_of results3 (RV.tmp (v := (.bool true)) rfl RV.nil) ?_
    exact ⟨rfl, h_134.chgS⟩
   ·refine WP.skip (thn_n (WP.seq ?_))
    refine WP.drawT (SL w.heap.size [.blk b_109 .nw 23 [(32, (anD id df n (anU id (anU id ((gSt id df n key 10 (pcB pg ct) 0 ([] : Lg)).1) ((gSt id df n key 10 (pcB pg ct) 0 ([] : Lg)).2.1) (1, (zB 32), 4, [pcB pg ct, gx gr (gSt id df n key 10 (pcB pg ct) 0 ([] : Lg)).2.2].flatten)) (anL id df n ((gSt id df n key 10 (pcB pg ct) 0 ([] : Lg)).1) ((gSt id df n key 10 (pcB pg ct) 0 ([] : Lg)).2.1) (1, (zB 32), 4, [pcB pg ct, gx gr (gSt id df n key 10 (pcB pg ct) 0 ([] : Lg)).2.2].flatten)) (1, (zB 32), 4, [pcB pg2 ct2, gs2].flatten)) (anL id df n (anU id ((gSt id df n key 10 (pcB pg ct) 0 ([] : Lg)).1) ((gSt id df n key 10 (pcB pg ct) 0 ([] : Lg)).2.1) (1, (zB 32), 4, [pcB pg ct, gx gr (gSt id df n key 10 (pcB pg ct) 0 ([] : Lg)).2.2].flatten)) (anL id df n ((gSt id df n key 10 (pcB pg ct) 0 ([] : Lg)).1) ((gSt id df n key 10 (pcB pg ct) 0 ([] : Lg)).2.1) (1, (zB 32), 4, [pcB pg ct, gx gr (gSt id df n key 10 (pcB pg ct) 0 ([] : Lg)).2.2].flatten)) (1, (zB 32), 4, [pcB pg2 ct2, gs2].flatten)) (1, (zB 32), 6, leN 8 (UInt64.ofNat pg2).toNat)).map vu8)], .blk b_26 .nw 90 [(1, [(.bool id)]), (32, ms.map vu8), (1, [(.slice a_28 n c_29)]), (1, [(vn (anU id (anU id (anU id ((gSt id df n key 10 (pcB pg ct) 0 ([] : Lg)).1) ((gSt id df n key 10 (pcB pg ct) 0 ([] : Lg)).2.1) (1, (zB 32), 4, [pcB pg ct, gx gr (gSt id df n key 10 (pcB pg ct) 0 ([] : Lg)).2.2].flatten)) (anL id df n ((gSt id df n key 10 (pcB pg ct) 0 ([] : Lg)).1) ((gSt id df n key 10 (pcB pg ct) 0 ([] : Lg)).2.1) (1, (zB 32), 4, [pcB pg ct, gx gr (gSt id df n key 10 (pcB pg ct) 0 ([] : Lg)).2.2].flatten)) (1, (zB 32), 4, [pcB pg2 ct2, gs2].flatten)) (anL id df n (anU id ((gSt id df n key 10 (pcB pg ct) 0 ([] : Lg)).1) ((gSt id df n key 10 (pcB pg ct) 0 ([] : Lg)).2.1) (1, (zB 32), 4, [pcB pg ct, gx gr (gSt id df n key 10 (pcB pg ct) 0 ([] : Lg)).2.2].flatten)) (anL id df n ((gSt id df n key 10 (pcB pg ct) 0 ([] : Lg)).1) ((gSt id df n key 10 (pcB pg ct) 0 ([] : Lg)).2.1) (1, (zB 32), 4, [pcB pg ct, gx gr (gSt id df n key 10 (pcB pg ct) 0 ([] : Lg)).2.2].flatten)) (1, (zB 32), 4, [pcB pg2 ct2, gs2].flatten)) (1, (zB 32), 6, leN 8 (UInt64.ofNat pg2).toNat)))]), (1, [(.map (some b_27))]), (1, [(.slice la_104 ((anL id df n (anU id (anU id ((gSt id df n key 10 (pcB pg ct) 0 ([] : Lg)).1) ((gSt id df n key 10 (pcB pg ct) 0 ([] : Lg)).2.1) (1, (zB 32), 4, [pcB pg ct, gx gr (gSt id df n key 10 (pcB pg ct) 0 ([] : Lg)).2.2].flatten)) (anL id df n ((gSt id df n key 10 (pcB pg ct) 0 ([] : Lg)).1) ((gSt id df n key 10 (pcB pg ct) 0 ([] : Lg)).2.1) (1, (zB 32), 4, [pcB pg ct, gx gr (gSt id df n key 10 (pcB pg ct) 0 ([] : Lg)).2.2].flatten)) (1, (zB 32), 4, [pcB pg2 ct2, gs2].flatten)) (anL id df n (anU id ((gSt id df n key 10 (pcB pg ct) 0 ([] : Lg)).1) ((gSt id df n key 10 (pcB pg ct) 0 ([] : Lg)).2.1) (1, (zB 32), 4, [pcB pg ct, gx gr (gSt id df n key 10 (pcB pg ct) 0 ([] : Lg)).2.2].flatten)) (anL id df n ((gSt id df n key 10 (pcB pg ct) 0 ([] : Lg)).1) ((gSt id df n key 10 (pcB pg ct) 0 ([] : Lg)).2.1) (1, (zB 32), 4, [pcB pg ct, gx gr (gSt id df n key 10 (pcB pg ct) 0 ([] : Lg)).2.2].flatten)) (1, (zB 32), 4, [pcB pg2 ct2, gs2].flatten)) (1, (zB 32), 6, leN 8 (UInt64.ofNat pg2).toNat)).length) lc_105)])], .row la_104 ((anL id df n (anU id (anU id ((gSt id df n key 10 (pcB pg ct) 0 ([] : Lg)).1) ((gSt id df n key 10 (pcB pg ct) 0 ([] : Lg)).2.1) (1, (zB 32), 4, [pcB pg ct, gx gr (gSt id df n key 10 (pcB pg ct) 0 ([] : Lg)).2.2].flatten)) (anL id df n ((gSt id df n key 10 (pcB pg ct) 0 ([] : Lg)).1) ((gSt id df n key 10 (pcB pg ct) 0 ([] : Lg)).2.1) (1, (zB 32), 4, [pcB pg ct, gx gr (gSt id df n key 10 (pcB pg ct) 0 ([] : Lg)).2.2].flatten)) (1, (zB 32), 4, [pcB pg2 ct2, gs2].flatten)) (anL id df n (anU id ((gSt id df n key 10 (pcB pg ct) 0 ([] : Lg)).1) ((gSt id df n key 10 (pcB pg ct) 0 ([] : Lg)).2.1) (1, (zB 32), 4, [pcB pg ct, gx gr (gSt id df n key 10 (pcB pg ct) 0 ([] : Lg)).2.2].flatten)) (anL id df n ((gSt id df n key 10 (pcB pg ct) 0 ([] : Lg)).1) ((gSt id df n key 10 (pcB pg ct) 0 ([] : Lg)).2.1) (1, (zB 32), 4, [pcB pg ct, gx gr (gSt id df n key 10 (pcB pg ct) 0 ([] : Lg)).2.2].flatten)) (1, (zB 32), 4, [pcB pg2 ct2, gs2].flatten)) (1, (zB 32), 6, leN 8 (UInt64.ofNat pg2).toNat)).length) lc_105 64 67 lx_106, .obj b_27 .nw (.map (mArr (anL id df n (anU id (anU id ((gSt id df n key 10 (pcB pg ct) 0 ([] : Lg)).1) ((gSt id df n key 10 (pcB pg ct) 0 ([] : Lg)).2.1) (1, (zB 32), 4, [pcB pg ct, gx gr (gSt id df n key 10 (pcB pg ct) 0 ([] : Lg)).2.2].flatten)) (anL id df n ((gSt id df n key 10 (pcB pg ct) 0 ([] : Lg)).1) ((gSt id df n key 10 (pcB pg ct) 0 ([] : Lg)).2.1) (1, (zB 32), 4, [pcB pg ct, gx gr (gSt id df n key 10 (pcB pg ct) 0 ([] : Lg)).2.2].flatten)) (1, (zB 32), 4, [pcB pg2 ct2, gs2].flatten)) (anL id df n (anU id ((gSt id df n key 10 (pcB pg ct) 0 ([] : Lg)).1) ((gSt id df n key 10 (pcB pg ct) 0 ([] : Lg)).2.1) (1, (zB 32), 4, [pcB pg ct, gx gr (gSt id df n key 10 (pcB pg ct) 0 ([] : Lg)).2.2].flatten)) (anL id df n ((gSt id df n key 10 (pcB pg ct) 0 ([] : Lg)).1) ((gSt id df n key 10 (pcB pg ct) 0 ([] : Lg)).2.1) (1, (zB 32), 4, [pcB pg ct, gx gr (gSt id df n key 10 (pcB pg ct) 0 ([] : Lg)).2.2].flatten)) (1, (zB 32), 4, [pcB pg2 ct2, gs2].flatten)) (1, (zB 32), 6, leN 8 (UInt64.ofNat pg2).toNat))) ((anL id df n (anU id (anU id ((gSt id df n key 10 (pcB pg ct) 0 ([] : Lg)).1) ((gSt id df n key 10 (pcB pg ct) 0 ([] : Lg)).2.1) (1, (zB 32), 4, [pcB pg ct, gx gr (gSt id df n key 10 (pcB pg ct) 0 ([] : Lg)).2.2].flatten)) (anL id df n ((gSt id df n key 10 (pcB pg ct) 0 ([] : Lg)).1) ((gSt id df n key 10 (pcB pg ct) 0 ([] : Lg)).2.1) (1, (zB 32), 4, [pcB pg ct, gx gr (gSt id df n key 10 (pcB pg ct) 0 ([] : Lg)).2.2].flatten)) (1, (zB 32), 4, [pcB pg2 ct2, gs2].flatten)) (anL id df n (anU id ((gSt id df n key 10 (pcB pg ct) 0 ([] : Lg)).1) ((gSt id df n key 10 (pcB pg ct) 0 ([] : Lg)).2.1) (1, (zB 32), 4, [pcB pg ct, gx gr (gSt id df n key 10 (pcB pg ct) 0 ([] : Lg)).2.2].flatten)) (anL id df n ((gSt id df n key 10 (pcB pg ct) 0 ([] : Lg)).1) ((gSt id df n key 10 (pcB pg ct) 0 ([] : Lg)).2.1) (1, (zB 32), 4, [pcB pg ct, gx gr (gSt id df n key 10 (pcB pg ct) 0 ([] : Lg)).2.2].flatten)) (1, (zB 32), 4, [pcB pg2 ct2, gs2].flatten)) (1, (zB 32), 6, leN 8 (UInt64.ofNat pg2).toNat)).length)), .pin (sblks lx_106) (fun w => Lgs w lx_106 (anL id df n (anU id (anU id ((gSt id df n key 10 (pcB pg ct) 0 ([] : Lg)).1) ((gSt id df n key 10 (pcB pg ct) 0 ([] : Lg)).2.1) (1, (zB 32), 4, [pcB pg ct, gx gr (gSt id df n key 10 (pcB pg ct) 0 ([] : Lg)).2.2].flatten)) (anL id df n ((gSt id df n key 10 (pcB pg ct) 0 ([] : Lg)).1) ((gSt id df n key 10 (pcB pg ct) 0 ([] : Lg)).2.1) (1, (zB 32), 4, [pcB pg ct, gx gr (gSt id df n key 10 (pcB pg ct) 0 ([] : Lg)).2.2].flatten)) (1, (zB 32), 4, [pcB pg2 ct2, gs2].flatten)) (anL id df n (anU id ((gSt id df n key 10 (pcB pg ct) 0 ([] : Lg)).1) ((gSt id df n key 10 (pcB pg ct) 0 ([] : Lg)).2.1) (1, (zB 32), 4, [pcB pg ct, gx gr (gSt id df n key 10 (pcB pg ct) 0 ([] : Lg)).2.2].flatten)) (anL id df n ((gSt id df n key 10 (pcB pg ct) 0 ([] : Lg)).1) ((gSt id df n key 10 (pcB pg ct) 0 ([] : Lg)).2.1) (1, (zB 32), 4, [pcB pg ct, gx gr (gSt id df n key 10 (pcB pg ct) 0 ([] : Lg)).2.2].flatten)) (1, (zB 32), 4, [pcB pg2 ct2, gs2].flatten)) (1, (zB 32), 6, leN 8 (UInt64.ofNat pg2).toNat))), .view a_28 (df.map vu8), .blk b_92 .nw 23 [(32, (anD id df n (anU id ((gSt id df n key 10 (pcB pg ct) 0 ([] : Lg)).1) ((gSt id df n key 10 (pcB pg ct) 0 ([] : Lg)).2.1) (1, (zB 32), 4, [pcB pg ct, gx gr (gSt id df n key 10 (pcB pg ct) 0 ([] : Lg)).2.2].flatten)) (anL id df n ((gSt id df n key 10 (pcB pg ct) 0 ([] : Lg)).1) ((gSt id df n key 10 (pcB pg ct) 0 ([] : Lg)).2.1) (1, (zB 32), 4, [pcB pg ct, gx gr (gSt id df n key 10 (pcB pg ct) 0 ([] : Lg)).2.2].flatten)) (1, (zB 32), 4, [pcB pg2 ct2, gs2].flatten)).map vu8)], .blk b_75 .nw 23 [(32, (anD id df n ((gSt id df n key 10 (pcB pg ct) 0 ([] : Lg)).1) ((gSt id df n key 10 (pcB pg ct) 0 ([] : Lg)).2.1) (1, (zB 32), 4, [pcB pg ct, gx gr (gSt id df n key 10 (pcB pg ct) 0 ([] : Lg)).2.2].flatten)).map vu8)], .blk b_60 .nw 29 [(128, (gx (gx gr (gSt id df n key 10 (pcB pg ct) 0 ([] : Lg)).2.2) (gSt id df n key 10 (pcB pg ct) 0 ([] : Lg)).2.2).map vu8)], .blk b_45 .nw 29 [(128, (gx gr (gSt id df n key 10 (pcB pg ct) 0 ([] : Lg)).2.2).map vu8)], .row none 0 0 64 67 [], .pin (sblks []) (fun w => Lgs w [] ([] : Lg)), .blk b_30 .nw 70 [(1, [(.bool id)]), (32, ms.map vu8), (1, [(.slice da0 n cap0)]), (1, [(vi 0)]), (1, [(.slice none 0 0)])], .view da0 (df.map vu8), .blk b_10 .nw 29 [(128, gs2.map vu8)], .blk b_7 .nw 29 [(128, gr.map vu8)], .blk b_4 .nw 23 [(32, key.map vu8)], .blk b_1 .nw 26 [(1, [(.bool id)]), (32, ms.map vu8), (1, [(.slice da0 n cap0)])]]) (.q 0 (.q 1 (.q 2 (.q 3 (.q 4 (.q 5 (.q 6 (.q 7 (.q 8 (.q 9 (.q 10 (.q 11 (.q 12 (.q 13 (.q 14 (.q 15 (.q 16 (.q 17 (.q 18 (.q 19 (.q 20 (.q 21 (.q 22 (.q 23 (.q 24 (.q 25 (.q 26 (.q 27 .nil)))))))))))))))))))))))))))) (by kernel_rfl) (by kernel_rfl) rfl (by kernel_rfl) (fun w_136 hc_138 => (SL.cons ((h_134.same hc_138).ok _ M0) (SL.cons ((h_134.same hc_138).ok _ M1) (SL.cons ((h_134.same hc_138).ok _ M2) (SL.cons ((h_134.same hc_138).ok _ M3) (SL.cons ((h_134.same hc_138).ok _ M4) (SL.cons ((h_134.same hc_138).ok _ M5) (SL.cons ((h_134.same hc_138).ok _ M6) (SL.cons ((h_134.same hc_138).ok _ M7) (SL.cons ((h_134.same hc_138).ok _ M8) (SL.cons ((h_134.same hc_138).ok _ M9) (SL.cons ((h_134.same hc_138).ok _ M10) (SL.cons ((h_134.same hc_138).ok _ M11) (SL.cons ((h_134.same hc_138).ok _ M12) (SL.cons ((h_134.same hc_138).ok _ M13) (SL.cons ((h_134.same hc_138).ok _ M14) (SL.cons ((h_134.same hc_138).ok _ M15) (SL.cons ((h_134.same hc_138).ok _ M16) (SL.cons ((h_134.same hc_138).ok _ M17) (SL.nil _ _)))))))))))))))))))) (fun w_136 hc_138 => ?_)
    have h_137 := h_134.same hc_138
    refine qT rfl rfl (fun wq hS => R.loadA [] [(32, (anD id df n ((gSt id df n key 10 (pcB pg ct) 0 ([] : Lg)).1) ((gSt id df n key 10 (pcB pg ct) 0 ([] : Lg)).2.1) (1, (zB 32), 4, [pcB pg ct, gx gr (gSt id df n key 10 (pcB pg ct) 0 ([] : Lg)).2.2].flatten)).map vu8)] [] (cs := (anD id df n ((gSt id df n key 10 (pcB pg ct) 0 ([] : Lg)).1) ((gSt id df n key 10 (pcB pg ct) 0 ([] : Lg)).2.1) (1, (zB 32), 4, [pcB pg ct, gx gr (gSt id df n key 10 (pcB pg ct) 0 ([] : Lg)).2.2].flatten)).map vu8) rfl isAgg23 sizeOf23 (hS _ M7) rfl rfl rfl rfl) ?_
    refine qT rfl rfl (fun wq hS => R.loadA [] [(32, (anD id df n (anU id ((gSt id df n key 10 (pcB pg ct) 0 ([] : Lg)).1) ((gSt id df n key 10 (pcB pg ct) 0 ([] : Lg)).2.1) (1, (zB 32), 4, [pcB pg ct, gx gr (gSt id df n key 10 (pcB pg ct) 0 ([] : Lg)).2.2].flatten)) (anL id df n ((gSt id df n key 10 (pcB pg ct) 0 ([] : Lg)).1) ((gSt id df n key 10 (pcB pg ct) 0 ([] : Lg)).2.1) (1, (zB 32), 4, [pcB pg ct, gx gr (gSt id df n key 10 (pcB pg ct) 0 ([] : Lg)).2.2].flatten)) (1, (zB 32), 4, [pcB pg2 ct2, gs2].flatten)).map vu8)] [] (cs := (anD id df n (anU id ((gSt id df n key 10 (pcB pg ct) 0 ([] : Lg)).1) ((gSt id df n key 10 (pcB pg ct) 0 ([] : Lg)).2.1) (1, (zB 32), 4, [pcB pg ct, gx gr (gSt id df n key 10 (pcB pg ct) 0 ([] : Lg)).2.2].flatten)) (anL id df n ((gSt id df n key 10 (pcB pg ct) 0 ([] : Lg)).1) ((gSt id df n key 10 (pcB pg ct) 0 ([] : Lg)).2.1) (1, (zB 32), 4, [pcB pg ct, gx gr (gSt id df n key 10 (pcB pg ct) 0 ([] : Lg)).2.2].flatten)) (1, (zB 32), 4, [pcB pg2 ct2, gs2].flatten)).map vu8) rfl isAgg23 sizeOf23 (hS _ M6) rfl rfl rfl rfl) ?_
    refine qT rfl rfl (fun wq hS => R.eqA (xs := (anD id df n ((gSt id df n key 10 (pcB pg ct) 0 ([] : Lg)).1) ((gSt id df n key 10 (pcB pg ct) 0 ([] : Lg)).2.1) (1, (zB 32), 4, [pcB pg ct, gx gr (gSt id df n key 10 (pcB pg ct) 0 ([] : Lg)).2.2].flatten)).map vu8) (ys := (anD id df n (anU id ((gSt id df n key 10 (pcB pg ct) 0 ([] : Lg)).1) ((gSt id df n key 10 (pcB pg ct) 0 ([] : Lg)).2.1) (1, (zB 32), 4, [pcB pg ct, gx gr (gSt id df n key 10 (pcB pg ct) 0 ([] : Lg)).2.2].flatten)) (anL id df n ((gSt id df n key 10 (pcB pg ct) 0 ([] : Lg)).1) ((gSt id df n key 10 (pcB pg ct) 0 ([] : Lg)).2.1) (1, (zB 32), 4, [pcB pg ct, gx gr (gSt id df n key 10 (pcB pg ct) 0 ([] : Lg)).2.2].flatten)) (1, (zB 32), 4, [pcB pg2 ct2, gs2].flatten)).map vu8) (r := decide (anD id df n ((gSt id df n key 10 (pcB pg ct) 0 ([] : Lg)).1) ((gSt id df n key 10 (pcB pg ct) 0 ([] : Lg)).2.1) (1, (zB 32), 4, [pcB pg ct, gx gr (gSt id df n key 10 (pcB pg ct) 0 ([] : Lg)).2.2].flatten) = anD id df n (anU id ((gSt id df n key 10 (pcB pg ct) 0 ([] : Lg)).1) ((gSt id df n key 10 (pcB pg ct) 0 ([] : Lg)).2.1) (1, (zB 32), 4, [pcB pg ct, gx gr (gSt id df n key 10 (pcB pg ct) 0 ([] : Lg)).2.2].flatten)) (anL id df n ((gSt id df n key 10 (pcB pg ct) 0 ([] : Lg)).1) ((gSt id df n key 10 (pcB pg ct) 0 ([] : Lg)).2.1) (1, (zB 32), 4, [pcB pg ct, gx gr (gSt id df n key 10 (pcB pg ct) 0 ([] : Lg)).2.2].flatten)) (1, (zB 32), 4, [pcB pg2 ct2, gs2].flatten))) rfl rfl eqGuardType23 kt23 (by decide) ag23 (Typ.u8s underlying23 ce23 underlying5 ce5 (anD_len hl h32_w_73)) (Typ.u8s underlying23 ce23 underlying5 ce5 (anD_len hl h32_w_90)) (map_inj_u8.trans (decT _))) ?_
    refine qT rfl rfl (fun wq hS => R.move (v := (vn pg)) rfl) ?_
    refine qT rfl rfl (fun wq hS => R.move (v := (vn pg2)) rfl) ?_
    refine qT rfl rfl (fun wq hS => R.bin rfl rfl (bi_eql (r := decide ((((pg : Nat) : Int) : Int) = ((pg2 : Nat) : Int))) rfl)) ?_
    refine qT rfl rfl (fun wq hS => R.move (v := (.bool (decide ((((pg : Nat) : Int) : Int) = ((pg2 : Nat) : Int))))) rfl) ?_
    rcases Bool.eq_false_or_eq_true (decide ((((pg : Nat) : Int) : Int) = ((pg2 : Nat) : Int))) with c_139 | c_139
    ·have p_140 := of_decide_eq_true c_139
     refine WT.q rfl (Wn.yes rfl rfl (congrArg Value.bool c_139)) rfl rfl (fun wq hS => R.move (v := (vu64 ct)) rfl) ?_
     refine WT.q rfl (Wn.yes rfl rfl (congrArg Value.bool c_139)) rfl rfl (fun wq hS => R.move (v := (vu64 ct2)) rfl) ?_
     refine WT.q rfl (Wn.yes rfl rfl (congrArg Value.bool c_139)) rfl rfl (fun wq hS => R.bin (v := (.bool (decide ((ct : UInt64) = ct2)))) rfl rfl (b64_eql ct ct2 (r := decide ((ct : UInt64) = ct2)) rfl)) ?_
     refine qT rfl rfl (fun wq hS => R.pickT (v := (.bool (decide ((ct : UInt64) = ct2)))) (congrArg Value.bool c_139) rfl) ?_
     refine qT rfl rfl (fun wq hS => R.move (v := (.bool (decide ((ct : UInt64) = ct2)))) rfl) ?_
     rcases Bool.eq_false_or_eq_true (decide ((ct : UInt64) = ct2)) with c_141 | c_141
     ·have p_142 := of_decide_eq_true c_141
      refine WT.q rfl (Wn.yes rfl rfl (congrArg Value.bool c_141)) rfl rfl (fun wq hS => R.loadA [] [(128, (gx gr (gSt id df n key 10 (pcB pg ct) 0 ([] : Lg)).2.2).map vu8)] [] (cs := (gx gr (gSt id df n key 10 (pcB pg ct) 0 ([] : Lg)).2.2).map vu8) rfl isAgg29 sizeOf29 (hS _ M9) rfl rfl rfl rfl) ?_
      refine WT.q rfl (Wn.yes rfl rfl (congrArg Value.bool c_141)) rfl rfl (fun wq hS => R.loadA [] [(128, gs2.map vu8)] [] (cs := gs2.map vu8) rfl isAgg29 sizeOf29 (hS _ M14) rfl rfl rfl rfl) ?_
      refine WT.q rfl (Wn.yes rfl rfl (congrArg Value.bool c_141)) rfl rfl (fun wq hS => R.eqA (xs := (gx gr (gSt id df n key 10 (pcB pg ct) 0 ([] : Lg)).2.2).map vu8) (ys := gs2.map vu8) (r := decide (gx gr (gSt id df n key 10 (pcB pg ct) 0 ([] : Lg)).2.2 = gs2)) rfl rfl eqGuardType29 kt29 (by decide) ag29 (Typ.u8s underlying29 ce29 underlying5 ce5 (gx_len hgr (gSt_len hl okN))) (Typ.u8s underlying29 ce29 underlying5 ce5 hgs) (map_inj_u8.trans (decT _))) ?_
      refine qT rfl rfl (fun wq hS => R.pickT (v := (.bool (decide (gx gr (gSt id df n key 10 (pcB pg ct) 0 ([] : Lg)).2.2 = gs2)))) (congrArg Value.bool c_141) rfl) ?_
      refine qT rfl rfl (fun wq hS => R.eqB (a := decide (anD id df n ((gSt id df n key 10 (pcB pg ct) 0 ([] : Lg)).1) ((gSt id df n key 10 (pcB pg ct) 0 ([] : Lg)).2.1) (1, (zB 32), 4, [pcB pg ct, gx gr (gSt id df n key 10 (pcB pg ct) 0 ([] : Lg)).2.2].flatten) = anD id df n (anU id ((gSt id df n key 10 (pcB pg ct) 0 ([] : Lg)).1) ((gSt id df n key 10 (pcB pg ct) 0 ([] : Lg)).2.1) (1, (zB 32), 4, [pcB pg ct, gx gr (gSt id df n key 10 (pcB pg ct) 0 ([] : Lg)).2.2].flatten)) (anL id df n ((gSt id df n key 10 (pcB pg ct) 0 ([] : Lg)).1) ((gSt id df n key 10 (pcB pg ct) 0 ([] : Lg)).2.1) (1, (zB 32), 4, [pcB pg ct, gx gr (gSt id df n key 10 (pcB pg ct) 0 ([] : Lg)).2.2].flatten)) (1, (zB 32), 4, [pcB pg2 ct2, gs2].flatten))) (b := decide (gx gr (gSt id df n key 10 (pcB pg ct) 0 ([] : Lg)).2.2 = gs2)) (c := true) rfl rfl underlying4 (same_t (leaf_eq (nidb c_129) (hd_131 (nidb c_135)) (DL.gSt (nidb c_129) DL.nil) (Nat.le_trans hsl (by decide)) h h2) (by have := p_140; omega) p_142)) ?_
      refine qT rfl rfl (fun wq hS => R.move (v := (.bool true)) rfl) ?_
      refine WT.q rfl (Wn.yes rfl rfl rfl) rfl rfl (fun wq hS => R.loadA [] [(32, (anD id df n ((gSt id df n key 10 (pcB pg ct) 0 ([] : Lg)).1) ((gSt id df n key 10 (pcB pg ct) 0 ([] : Lg)).2.1) (1, (zB 32), 4, [pcB pg ct, gx gr (gSt id df n key 10 (pcB pg ct) 0 ([] : Lg)).2.2].flatten)).map vu8)] [] (cs := (anD id df n ((gSt id df n key 10 (pcB pg ct) 0 ([] : Lg)).1) ((gSt id df n key 10 (pcB pg ct) 0 ([] : Lg)).2.1) (1, (zB 32), 4, [pcB pg ct, gx gr (gSt id df n key 10 (pcB pg ct) 0 ([] : Lg)).2.2].flatten)).map vu8) rfl isAgg23 sizeOf23 (hS _ M7) rfl rfl rfl rfl) ?_
      refine WT.q rfl (Wn.yes rfl rfl rfl) rfl rfl (fun wq hS => R.loadA [] [(32, (anD id df n (anU id (anU id ((gSt id df n key 10 (pcB pg ct) 0 ([] : Lg)).1) ((gSt id df n key 10 (pcB pg ct) 0 ([] : Lg)).2.1) (1, (zB 32), 4, [pcB pg ct, gx gr (gSt id df n key 10 (pcB pg ct) 0 ([] : Lg)).2.2].flatten)) (anL id df n ((gSt id df n key 10 (pcB pg ct) 0 ([] : Lg)).1) ((gSt id df n key 10 (pcB pg ct) 0 ([] : Lg)).2.1) (1, (zB 32), 4, [pcB pg ct, gx gr (gSt id df n key 10 (pcB pg ct) 0 ([] : Lg)).2.2].flatten)) (1, (zB 32), 4, [pcB pg2 ct2, gs2].flatten)) (anL id df n (anU id ((gSt id df n key 10 (pcB pg ct) 0 ([] : Lg)).1) ((gSt id df n key 10 (pcB pg ct) 0 ([] : Lg)).2.1) (1, (zB 32), 4, [pcB pg ct, gx gr (gSt id df n key 10 (pcB pg ct) 0 ([] : Lg)).2.2].flatten)) (anL id df n ((gSt id df n key 10 (pcB pg ct) 0 ([] : Lg)).1) ((gSt id df n key 10 (pcB pg ct) 0 ([] : Lg)).2.1) (1, (zB 32), 4, [pcB pg ct, gx gr (gSt id df n key 10 (pcB pg ct) 0 ([] : Lg)).2.2].flatten)) (1, (zB 32), 4, [pcB pg2 ct2, gs2].flatten)) (1, (zB 32), 6, leN 8 (UInt64.ofNat pg2).toNat)).map vu8)] [] (cs := (anD id df n (anU id (anU id ((gSt id df n key 10 (pcB pg ct) 0 ([] : Lg)).1) ((gSt id df n key 10 (pcB pg ct) 0 ([] : Lg)).2.1) (1, (zB 32), 4, [pcB pg ct, gx gr (gSt id df n key 10 (pcB pg ct) 0 ([] : Lg)).2.2].flatten)) (anL id df n ((gSt id df n key 10 (pcB pg ct) 0 ([] : Lg)).1) ((gSt id df n key 10 (pcB pg ct) 0 ([] : Lg)).2.1) (1, (zB 32), 4, [pcB pg ct, gx gr (gSt id df n key 10 (pcB pg ct) 0 ([] : Lg)).2.2].flatten)) (1, (zB 32), 4, [pcB pg2 ct2, gs2].flatten)) (anL id df n (anU id ((gSt id df n key 10 (pcB pg ct) 0 ([] : Lg)).1) ((gSt id df n key 10 (pcB pg ct) 0 ([] : Lg)).2.1) (1, (zB 32), 4, [pcB pg ct, gx gr (gSt id df n key 10 (pcB pg ct) 0 ([] : Lg)).2.2].flatten)) (anL id df n ((gSt id df n key 10 (pcB pg ct) 0 ([] : Lg)).1) ((gSt id df n key 10 (pcB pg ct) 0 ([] : Lg)).2.1) (1, (zB 32), 4, [pcB pg ct, gx gr (gSt id df n key 10 (pcB pg ct) 0 ([] : Lg)).2.2].flatten)) (1, (zB 32), 4, [pcB pg2 ct2, gs2].flatten)) (1, (zB 32), 6, leN 8 (UInt64.ofNat pg2).toNat)).map vu8) rfl isAgg23 sizeOf23 (hS _ M0) rfl rfl rfl rfl) ?_
      refine WT.q rfl (Wn.yes rfl rfl rfl) rfl rfl (fun wq hS => R.neA (xs := (anD id df n ((gSt id df n key 10 (pcB pg ct) 0 ([] : Lg)).1) ((gSt id df n key 10 (pcB pg ct) 0 ([] : Lg)).2.1) (1, (zB 32), 4, [pcB pg ct, gx gr (gSt id df n key 10 (pcB pg ct) 0 ([] : Lg)).2.2].flatten)).map vu8) (ys := (anD id df n (anU id (anU id ((gSt id df n key 10 (pcB pg ct) 0 ([] : Lg)).1) ((gSt id df n key 10 (pcB pg ct) 0 ([] : Lg)).2.1) (1, (zB 32), 4, [pcB pg ct, gx gr (gSt id df n key 10 (pcB pg ct) 0 ([] : Lg)).2.2].flatten)) (anL id df n ((gSt id df n key 10 (pcB pg ct) 0 ([] : Lg)).1) ((gSt id df n key 10 (pcB pg ct) 0 ([] : Lg)).2.1) (1, (zB 32), 4, [pcB pg ct, gx gr (gSt id df n key 10 (pcB pg ct) 0 ([] : Lg)).2.2].flatten)) (1, (zB 32), 4, [pcB pg2 ct2, gs2].flatten)) (anL id df n (anU id ((gSt id df n key 10 (pcB pg ct) 0 ([] : Lg)).1) ((gSt id df n key 10 (pcB pg ct) 0 ([] : Lg)).2.1) (1, (zB 32), 4, [pcB pg ct, gx gr (gSt id df n key 10 (pcB pg ct) 0 ([] : Lg)).2.2].flatten)) (anL id df n ((gSt id df n key 10 (pcB pg ct) 0 ([] : Lg)).1) ((gSt id df n key 10 (pcB pg ct) 0 ([] : Lg)).2.1) (1, (zB 32), 4, [pcB pg ct, gx gr (gSt id df n key 10 (pcB pg ct) 0 ([] : Lg)).2.2].flatten)) (1, (zB 32), 4, [pcB pg2 ct2, gs2].flatten)) (1, (zB 32), 6, leN 8 (UInt64.ofNat pg2).toNat)).map vu8) (r := true) rfl rfl eqGuardType23 kt23 (by decide) ag23 (Typ.u8s underlying23 ce23 underlying5 ce5 (anD_len hl h32_w_73)) (Typ.u8s underlying23 ce23 underlying5 ce5 (anD_len hl (anL_32 (dn := n) hl (anL_32 (dn := n) hl (gSt_32 hl okN))))) (map_inj_u8.trans (neF (leaf_n1 (nidb c_129) (hd_131 (nidb c_135)) (DL.gSt (nidb c_129) DL.nil) (Nat.le_trans hsl (by decide)))))) ?_
      refine qT rfl rfl (fun wq hS => R.pickT (v := (.bool true)) rfl rfl) ?_
      refine qT rfl rfl (fun wq hS => R.move (v := (.bool true)) rfl) ?_
      refine WT.q rfl (Wn.yes rfl rfl rfl) rfl rfl (fun wq hS => R.loadA [] [(32, (anD id df n (anU id ((gSt id df n key 10 (pcB pg ct) 0 ([] : Lg)).1) ((gSt id df n key 10 (pcB pg ct) 0 ([] : Lg)).2.1) (1, (zB 32), 4, [pcB pg ct, gx gr (gSt id df n key 10 (pcB pg ct) 0 ([] : Lg)).2.2].flatten)) (anL id df n ((gSt id df n key 10 (pcB pg ct) 0 ([] : Lg)).1) ((gSt id df n key 10 (pcB pg ct) 0 ([] : Lg)).2.1) (1, (zB 32), 4, [pcB pg ct, gx gr (gSt id df n key 10 (pcB pg ct) 0 ([] : Lg)).2.2].flatten)) (1, (zB 32), 4, [pcB pg2 ct2, gs2].flatten)).map vu8)] [] (cs := (anD id df n (anU id ((gSt id df n key 10 (pcB pg ct) 0 ([] : Lg)).1) ((gSt id df n key 10 (pcB pg ct) 0 ([] : Lg)).2.1) (1, (zB 32), 4, [pcB pg ct, gx gr (gSt id df n key 10 (pcB pg ct) 0 ([] : Lg)).2.2].flatten)) (anL id df n ((gSt id df n key 10 (pcB pg ct) 0 ([] : Lg)).1) ((gSt id df n key 10 (pcB pg ct) 0 ([] : Lg)).2.1) (1, (zB 32), 4, [pcB pg ct, gx gr (gSt id df n key 10 (pcB pg ct) 0 ([] : Lg)).2.2].flatten)) (1, (zB 32), 4, [pcB pg2 ct2, gs2].flatten)).map vu8) rfl isAgg23 sizeOf23 (hS _ M6) rfl rfl rfl rfl) ?_
      refine WT.q rfl (Wn.yes rfl rfl rfl) rfl rfl (fun wq hS => R.loadA [] [(32, (anD id df n (anU id (anU id ((gSt id df n key 10 (pcB pg ct) 0 ([] : Lg)).1) ((gSt id df n key 10 (pcB pg ct) 0 ([] : Lg)).2.1) (1, (zB 32), 4, [pcB pg ct, gx gr (gSt id df n key 10 (pcB pg ct) 0 ([] : Lg)).2.2].flatten)) (anL id df n ((gSt id df n key 10 (pcB pg ct) 0 ([] : Lg)).1) ((gSt id df n key 10 (pcB pg ct) 0 ([] : Lg)).2.1) (1, (zB 32), 4, [pcB pg ct, gx gr (gSt id df n key 10 (pcB pg ct) 0 ([] : Lg)).2.2].flatten)) (1, (zB 32), 4, [pcB pg2 ct2, gs2].flatten)) (anL id df n (anU id ((gSt id df n key 10 (pcB pg ct) 0 ([] : Lg)).1) ((gSt id df n key 10 (pcB pg ct) 0 ([] : Lg)).2.1) (1, (zB 32), 4, [pcB pg ct, gx gr (gSt id df n key 10 (pcB pg ct) 0 ([] : Lg)).2.2].flatten)) (anL id df n ((gSt id df n key 10 (pcB pg ct) 0 ([] : Lg)).1) ((gSt id df n key 10 (pcB pg ct) 0 ([] : Lg)).2.1) (1, (zB 32), 4, [pcB pg ct, gx gr (gSt id df n key 10 (pcB pg ct) 0 ([] : Lg)).2.2].flatten)) (1, (zB 32), 4, [pcB pg2 ct2, gs2].flatten)) (1, (zB 32), 6, leN 8 (UInt64.ofNat pg2).toNat)).map vu8)] [] (cs := (anD id df n (anU id (anU id ((gSt id df n key 10 (pcB pg ct) 0 ([] : Lg)).1) ((gSt id df n key 10 (pcB pg ct) 0 ([] : Lg)).2.1) (1, (zB 32), 4, [pcB pg ct, gx gr (gSt id df n key 10 (pcB pg ct) 0 ([] : Lg)).2.2].flatten)) (anL id df n ((gSt id df n key 10 (pcB pg ct) 0 ([] : Lg)).1) ((gSt id df n key 10 (pcB pg ct) 0 ([] : Lg)).2.1) (1, (zB 32), 4, [pcB pg ct, gx gr (gSt id df n key 10 (pcB pg ct) 0 ([] : Lg)).2.2].flatten)) (1, (zB 32), 4, [pcB pg2 ct2, gs2].flatten)) (anL id df n (anU id ((gSt id df n key 10 (pcB pg ct) 0 ([] : Lg)).1) ((gSt id df n key 10 (pcB pg ct) 0 ([] : Lg)).2.1) (1, (zB 32), 4, [pcB pg ct, gx gr (gSt id df n key 10 (pcB pg ct) 0 ([] : Lg)).2.2].flatten)) (anL id df n ((gSt id df n key 10 (pcB pg ct) 0 ([] : Lg)).1) ((gSt id df n key 10 (pcB pg ct) 0 ([] : Lg)).2.1) (1, (zB 32), 4, [pcB pg ct, gx gr (gSt id df n key 10 (pcB pg ct) 0 ([] : Lg)).2.2].flatten)) (1, (zB 32), 4, [pcB pg2 ct2, gs2].flatten)) (1, (zB 32), 6, leN 8 (UInt64.ofNat pg2).toNat)).map vu8) rfl isAgg23 sizeOf23 (hS _ M0) rfl rfl rfl rfl) ?_
      refine WT.q rfl (Wn.yes rfl rfl rfl) rfl rfl (fun wq hS => R.neA (xs := (anD id df n (anU id ((gSt id df n key 10 (pcB pg ct) 0 ([] : Lg)).1) ((gSt id df n key 10 (pcB pg ct) 0 ([] : Lg)).2.1) (1, (zB 32), 4, [pcB pg ct, gx gr (gSt id df n key 10 (pcB pg ct) 0 ([] : Lg)).2.2].flatten)) (anL id df n ((gSt id df n key 10 (pcB pg ct) 0 ([] : Lg)).1) ((gSt id df n key 10 (pcB pg ct) 0 ([] : Lg)).2.1) (1, (zB 32), 4, [pcB pg ct, gx gr (gSt id df n key 10 (pcB pg ct) 0 ([] : Lg)).2.2].flatten)) (1, (zB 32), 4, [pcB pg2 ct2, gs2].flatten)).map vu8) (ys := (anD id df n (anU id (anU id ((gSt id df n key 10 (pcB pg ct) 0 ([] : Lg)).1) ((gSt id df n key 10 (pcB pg ct) 0 ([] : Lg)).2.1) (1, (zB 32), 4, [pcB pg ct, gx gr (gSt id df n key 10 (pcB pg ct) 0 ([] : Lg)).2.2].flatten)) (anL id df n ((gSt id df n key 10 (pcB pg ct) 0 ([] : Lg)).1) ((gSt id df n key 10 (pcB pg ct) 0 ([] : Lg)).2.1) (1, (zB 32), 4, [pcB pg ct, gx gr (gSt id df n key 10 (pcB pg ct) 0 ([] : Lg)).2.2].flatten)) (1, (zB 32), 4, [pcB pg2 ct2, gs2].flatten)) (anL id df n (anU id ((gSt id df n key 10 (pcB pg ct) 0 ([] : Lg)).1) ((gSt id df n key 10 (pcB pg ct) 0 ([] : Lg)).2.1) (1, (zB 32), 4, [pcB pg ct, gx gr (gSt id df n key 10 (pcB pg ct) 0 ([] : Lg)).2.2].flatten)) (anL id df n ((gSt id df n key 10 (pcB pg ct) 0 ([] : Lg)).1) ((gSt id df n key 10 (pcB pg ct) 0 ([] : Lg)).2.1) (1, (zB 32), 4, [pcB pg ct, gx gr (gSt id df n key 10 (pcB pg ct) 0 ([] : Lg)).2.2].flatten)) (1, (zB 32), 4, [pcB pg2 ct2, gs2].flatten)) (1, (zB 32), 6, leN 8 (UInt64.ofNat pg2).toNat)).map vu8) (r := true) rfl rfl eqGuardType23 kt23 (by decide) ag23 (Typ.u8s underlying23 ce23 underlying5 ce5 (anD_len hl h32_w_90)) (Typ.u8s underlying23 ce23 underlying5 ce5 (anD_len hl (anL_32 (dn := n) hl (anL_32 (dn := n) hl (gSt_32 hl okN))))) (map_inj_u8.trans (neF (leaf_n2 (nidb c_129) (hd_131 (nidb c_135)) (DL.gSt (nidb c_129) DL.nil) (Nat.le_trans hsl (by decide)))))) ?_
      refine qT rfl rfl (fun wq hS => R.pickT (v := (.bool true)) rfl rfl) ?_
      refine qT rfl rfl (fun wq hS => R.assign (v := (.bool true)) rfl) ?_
      refine WT.nil (thn_n (WP.ret ?_))
      refine ret_of results3 (RV.tmp (v := (.bool true)) rfl RV.nil) ?_
      exact ⟨rfl, h_137.chgS⟩
     ·have p_143 := of_decide_eq_false c_141
      refine WT.skipQ rfl rfl rfl (boolNe (v := .bool false) (congrArg Value.bool c_141) (by decide)) rfl rfl ?_
      refine WT.skipQ rfl rfl rfl (boolNe (v := .bool false) (congrArg Value.bool c_141) (by decide)) rfl rfl ?_
      refine WT.skipQ rfl rfl rfl (boolNe (v := .bool false) (congrArg Value.bool c_141) (by decide)) rfl rfl ?_
      refine qT rfl rfl (fun wq hS => R.pickF (v := (.bool false)) (congrArg Value.bool c_141) rfl) ?_
      refine qT rfl rfl (fun wq hS => R.eqB (a := decide (anD id df n ((gSt id df n key 10 (pcB pg ct) 0 ([] : Lg)).1) ((gSt id df n key 10 (pcB pg ct) 0 ([] : Lg)).2.1) (1, (zB 32), 4, [pcB pg ct, gx gr (gSt id df n key 10 (pcB pg ct) 0 ([] : Lg)).2.2].flatten) = anD id df n (anU id ((gSt id df n key 10 (pcB pg ct) 0 ([] : Lg)).1) ((gSt id df n key 10 (pcB pg ct) 0 ([] : Lg)).2.1) (1, (zB 32), 4, [pcB pg ct, gx gr (gSt id df n key 10 (pcB pg ct) 0 ([] : Lg)).2.2].flatten)) (anL id df n ((gSt id df n key 10 (pcB pg ct) 0 ([] : Lg)).1) ((gSt id df n key 10 (pcB pg ct) 0 ([] : Lg)).2.1) (1, (zB 32), 4, [pcB pg ct, gx gr (gSt id df n key 10 (pcB pg ct) 0 ([] : Lg)).2.2].flatten)) (1, (zB 32), 4, [pcB pg2 ct2, gs2].flatten))) (b := false) (c := true) rfl rfl underlying4 (same_f (leaf_eq (nidb c_129) (hd_131 (nidb c_135)) (DL.gSt (nidb c_129) DL.nil) (Nat.le_trans hsl (by decide)) h h2) (fun e => p_143 e.2))) ?_
      refine qT rfl rfl (fun wq hS => R.move (v := (.bool true)) rfl) ?_
      refine WT.q rfl (Wn.yes rfl rfl rfl) rfl rfl (fun wq hS => R.loadA [] [(32, (anD id df n ((gSt id df n key 10 (pcB pg ct) 0 ([] : Lg)).1) ((gSt id df n key 10 (pcB pg ct) 0 ([] : Lg)).2.1) (1, (zB 32), 4, [pcB pg ct, gx gr (gSt id df n key 10 (pcB pg ct) 0 ([] : Lg)).2.2].flatten)).map vu8)] [] (cs := (anD id df n ((gSt id df n key 10 (pcB pg ct) 0 ([] : Lg)).1) ((gSt id df n key 10 (pcB pg ct) 0 ([] : Lg)).2.1) (1, (zB 32), 4, [pcB pg ct, gx gr (gSt id df n key 10 (pcB pg ct) 0 ([] : Lg)).2.2].flatten)).map vu8) rfl isAgg23 sizeOf23 (hS _ M7) rfl rfl rfl rfl) ?_
      refine WT.q rfl (Wn.yes rfl rfl rfl) rfl rfl (fun wq hS => R.loadA [] [(32, (anD id df n (anU id (anU id ((gSt id df n key 10 (pcB pg ct) 0 ([] : Lg)).1) ((gSt id df n key 10 (pcB pg ct) 0 ([] : Lg)).2.1) (1, (zB 32), 4, [pcB pg ct, gx gr (gSt id df n key 10 (pcB pg ct) 0 ([] : Lg)).2.2].flatten)) (anL id df n ((gSt id df n key 10 (pcB pg ct) 0 ([] : Lg)).1) ((gSt id df n key 10 (pcB pg ct) 0 ([] : Lg)).2.1) (1, (zB 32), 4, [pcB pg ct, gx gr (gSt id df n key 10 (pcB pg ct) 0 ([] : Lg)).2.2].flatten)) (1, (zB 32), 4, [pcB pg2 ct2, gs2].flatten)) (anL id df n (anU id ((gSt id df n key 10 (pcB pg ct) 0 ([] : Lg)).1) ((gSt id df n key 10 (pcB pg ct) 0 ([] : Lg)).2.1) (1, (zB 32), 4, [pcB pg ct, gx gr (gSt id df n key 10 (pcB pg ct) 0 ([] : Lg)).2.2].flatten)) (anL id df n ((gSt id df n key 10 (pcB pg ct) 0 ([] : Lg)).1) ((gSt id df n key 10 (pcB pg ct) 0 ([] : Lg)).2.1) (1, (zB 32), 4, [pcB pg ct, gx gr (gSt id df n key 10 (pcB pg ct) 0 ([] : Lg)).2.2].flatten)) (1, (zB 32), 4, [pcB pg2 ct2, gs2].flatten)) (1, (zB 32), 6, leN 8 (UInt64.ofNat pg2).toNat)).map vu8)] [] (cs := (anD id df n (anU id (anU id ((gSt id df n key 10 (pcB pg ct) 0 ([] : Lg)).1) ((gSt id df n key 10 (pcB pg ct) 0 ([] : Lg)).2.1) (1, (zB 32), 4, [pcB pg ct, gx gr (gSt id df n key 10 (pcB pg ct) 0 ([] : Lg)).2.2].flatten)) (anL id df n ((gSt id df n key 10 (pcB pg ct) 0 ([] : Lg)).1) ((gSt id df n key 10 (pcB pg ct) 0 ([] : Lg)).2.1) (1, (zB 32), 4, [pcB pg ct, gx gr (gSt id df n key 10 (pcB pg ct) 0 ([] : Lg)).2.2].flatten)) (1, (zB 32), 4, [pcB pg2 ct2, gs2].flatten)) (anL id df n (anU id ((gSt id df n key 10 (pcB pg ct) 0 ([] : Lg)).1) ((gSt id df n key 10 (pcB pg ct) 0 ([] : Lg)).2.1) (1, (zB 32), 4, [pcB pg ct, gx gr (gSt id df n key 10 (pcB pg ct) 0 ([] : Lg)).2.2].flatten)) (anL id df n ((gSt id df n key 10 (pcB pg ct) 0 ([] : Lg)).1) ((gSt id df n key 10 (pcB pg ct) 0 ([] : Lg)).2.1) (1, (zB 32), 4, [pcB pg ct, gx gr (gSt id df n key 10 (pcB pg ct) 0 ([] : Lg)).2.2].flatten)) (1, (zB 32), 4, [pcB pg2 ct2, gs2].flatten)) (1, (zB 32), 6, leN 8 (UInt64.ofNat pg2).toNat)).map vu8) rfl isAgg23 sizeOf23 (hS _ M0) rfl rfl rfl rfl) ?_
      refine WT.q rfl (Wn.yes rfl rfl rfl) rfl rfl (fun wq hS => R.neA (xs := (anD id df n ((gSt id df n key 10 (pcB pg ct) 0 ([] : Lg)).1) ((gSt id df n key 10 (pcB pg ct) 0 ([] : Lg)).2.1) (1, (zB 32), 4, [pcB pg ct, gx gr (gSt id df n key 10 (pcB pg ct) 0 ([] : Lg)).2.2].flatten)).map vu8) (ys := (anD id df n (anU id (anU id ((gSt id df n key 10 (pcB pg ct) 0 ([] : Lg)).1) ((gSt id df n key 10 (pcB pg ct) 0 ([] : Lg)).2.1) (1, (zB 32), 4, [pcB pg ct, gx gr (gSt id df n key 10 (pcB pg ct) 0 ([] : Lg)).2.2].flatten)) (anL id df n ((gSt id df n key 10 (pcB pg ct) 0 ([] : Lg)).1) ((gSt id df n key 10 (pcB pg ct) 0 ([] : Lg)).2.1) (1, (zB 32), 4, [pcB pg ct, gx gr (gSt id df n key 10 (pcB pg ct) 0 ([] : Lg)).2.2].flatten)) (1, (zB 32), 4, [pcB pg2 ct2, gs2].flatten)) (anL id df n (anU id ((gSt id df n key 10 (pcB pg ct) 0 ([] : Lg)).1) ((gSt id df n key 10 (pcB pg ct) 0 ([] : Lg)).2.1) (1, (zB 32), 4, [pcB pg ct, gx gr (gSt id df n key 10 (pcB pg ct) 0 ([] : Lg)).2.2].flatten)) (anL id df n ((gSt id df n key 10 (pcB pg ct) 0 ([] : Lg)).1) ((gSt id df n key 10 (pcB pg ct) 0 ([] : Lg)).2.1) (1, (zB 32), 4, [pcB pg ct, gx gr (gSt id df n key 10 (pcB pg ct) 0 ([] : Lg)).2.2].flatten)) (1, (zB 32), 4, [pcB pg2 ct2, gs2].flatten)) (1, (zB 32), 6, leN 8 (UInt64.ofNat pg2).toNat)).map vu8) (r := true) rfl rfl eqGuardType23 kt23 (by decide) ag23 (Typ.u8s underlying23 ce23 underlying5 ce5 (anD_len hl h32_w_73)) (Typ.u8s underlying23 ce23 underlying5 ce5 (anD_len hl (anL_32 (dn := n) hl (anL_32 (dn := n) hl (gSt_32 hl okN))))) (map_inj_u8.trans (neF (leaf_n1 (nidb c_129) (hd_131 (nidb c_135)) (DL.gSt (nidb c_129) DL.nil) (Nat.le_trans hsl (by decide)))))) ?_
      refine qT rfl rfl (fun wq hS => R.pickT (v := (.bool true)) rfl rfl) ?_
      refine qT rfl rfl (fun wq hS => R.move (v := (.bool true)) rfl) ?_
      refine WT.q rfl (Wn.yes rfl rfl rfl) rfl rfl (fun wq hS => R.loadA [] [(32, (anD id df n (anU id ((gSt id df n key 10 (pcB pg ct) 0 ([] : Lg)).1) ((gSt id df n key 10 (pcB pg ct) 0 ([] : Lg)).2.1) (1, (zB 32), 4, [pcB pg ct, gx gr (gSt id df n key 10 (pcB pg ct) 0 ([] : Lg)).2.2].flatten)) (anL id df n ((gSt id df n key 10 (pcB pg ct) 0 ([] : Lg)).1) ((gSt id df n key 10 (pcB pg ct) 0 ([] : Lg)).2.1) (1, (zB 32), 4, [pcB pg ct, gx gr (gSt id df n key 10 (pcB pg ct) 0 ([] : Lg)).2.2].flatten)) (1, (zB 32), 4, [pcB pg2 ct2, gs2].flatten)).map vu8)] [] (cs := (anD id df n (anU id ((gSt id df n key 10 (pcB pg ct) 0 ([] : Lg)).1) ((gSt id df n key 10 (pcB pg ct) 0 ([] : Lg)).2.1) (1, (zB 32), 4, [pcB pg ct, gx gr (gSt id df n key 10 (pcB pg ct) 0 ([] : Lg)).2.2].flatten)) (anL id df n ((gSt id df n key 10 (pcB pg ct) 0 ([] : Lg)).1) ((gSt id df n key 10 (pcB pg ct) 0 ([] : Lg)).2.1) (1, (zB 32), 4, [pcB pg ct, gx gr (gSt id df n key 10 (pcB pg ct) 0 ([] : Lg)).2.2].flatten)) (1, (zB 32), 4, [pcB pg2 ct2, gs2].flatten)).map vu8) rfl isAgg23 sizeOf23 (hS _ M6) rfl rfl rfl rfl) ?_
      refine WT.q rfl (Wn.yes rfl rfl rfl) rfl rfl (fun wq hS => R.loadA [] [(32, (anD id df n (anU id (anU id ((gSt id df n key 10 (pcB pg ct) 0 ([] : Lg)).1) ((gSt id df n key 10 (pcB pg ct) 0 ([] : Lg)).2.1) (1, (zB 32), 4, [pcB pg ct, gx gr (gSt id df n key 10 (pcB pg ct) 0 ([] : Lg)).2.2].flatten)) (anL id df n ((gSt id df n key 10 (pcB pg ct) 0 ([] : Lg)).1) ((gSt id df n key 10 (pcB pg ct) 0 ([] : Lg)).2.1) (1, (zB 32), 4, [pcB pg ct, gx gr (gSt id df n key 10 (pcB pg ct) 0 ([] : Lg)).2.2].flatten)) (1, (zB 32), 4, [pcB pg2 ct2, gs2].flatten)) (anL id df n (anU id ((gSt id df n key 10 (pcB pg ct) 0 ([] : Lg)).1) ((gSt id df n key 10 (pcB pg ct) 0 ([] : Lg)).2.1) (1, (zB 32), 4, [pcB pg ct, gx gr (gSt id df n key 10 (pcB pg ct) 0 ([] : Lg)).2.2].flatten)) (anL id df n ((gSt id df n key 10 (pcB pg ct) 0 ([] : Lg)).1) ((gSt id df n key 10 (pcB pg ct) 0 ([] : Lg)).2.1) (1, (zB 32), 4, [pcB pg ct, gx gr (gSt id df n key 10 (pcB pg ct) 0 ([] : Lg)).2.2].flatten)) (1, (zB 32), 4, [pcB pg2 ct2, gs2].flatten)) (1, (zB 32), 6, leN 8 (UInt64.ofNat pg2).toNat)).map vu8)] [] (cs := (anD id df n (anU id (anU id ((gSt id df n key 10 (pcB pg ct) 0 ([] : Lg)).1) ((gSt id df n key 10 (pcB pg ct) 0 ([] : Lg)).2.1) (1, (zB 32), 4, [pcB pg ct, gx gr (gSt id df n key 10 (pcB pg ct) 0 ([] : Lg)).2.2].flatten)) (anL id df n ((gSt id df n key 10 (pcB pg ct) 0 ([] : Lg)).1) ((gSt id df n key 10 (pcB pg ct) 0 ([] : Lg)).2.1) (1, (zB 32), 4, [pcB pg ct, gx gr (gSt id df n key 10 (pcB pg ct) 0 ([] : Lg)).2.2].flatten)) (1, (zB 32), 4, [pcB pg2 ct2, gs2].flatten)) (anL id df n (anU id ((gSt id df n key 10 (pcB pg ct) 0 ([] : Lg)).1) ((gSt id df n key 10 (pcB pg ct) 0 ([] : Lg)).2.1) (1, (zB 32), 4, [pcB pg ct, gx gr (gSt id df n key 10 (pcB pg ct) 0 ([] : Lg)).2.2].flatten)) (anL id df n ((gSt id df n key 10 (pcB pg ct) 0 ([] : Lg)).1) ((gSt id df n key 10 (pcB pg ct) 0 ([] : Lg)).2.1) (1, (zB 32), 4, [pcB pg ct, gx gr (gSt id df n key 10 (pcB pg ct) 0 ([] : Lg)).2.2].flatten)) (1, (zB 32), 4, [pcB pg2 ct2, gs2].flatten)) (1, (zB 32), 6, leN 8 (UInt64.ofNat pg2).toNat)).map vu8) rfl isAgg23 sizeOf23 (hS _ M0) rfl rfl rfl rfl) ?_
      refine WT.q rfl (Wn.yes rfl rfl rfl) rfl rfl (fun wq hS => R.neA (xs := (anD id df n (anU id ((gSt id df n key 10 (pcB pg ct) 0 ([] : Lg)).1) ((gSt id df n key 10 (pcB pg ct) 0 ([] : Lg)).2.1) (1, (zB 32), 4, [pcB pg ct, gx gr (gSt id df n key 10 (pcB pg ct) 0 ([] : Lg)).2.2].flatten)) (anL id df n ((gSt id df n key 10 (pcB pg ct) 0 ([] : Lg)).1) ((gSt id df n key 10 (pcB pg ct) 0 ([] : Lg)).2.1) (1, (zB 32), 4, [pcB pg ct, gx gr (gSt id df n key 10 (pcB pg ct) 0 ([] : Lg)).2.2].flatten)) (1, (zB 32), 4, [pcB pg2 ct2, gs2].flatten)).map vu8) (ys := (anD id df n (anU id (anU id ((gSt id df n key 10 (pcB pg ct) 0 ([] : Lg)).1) ((gSt id df n key 10 (pcB pg ct) 0 ([] : Lg)).2.1) (1, (zB 32), 4, [pcB pg ct, gx gr (gSt id df n key 10 (pcB pg ct) 0 ([] : Lg)).2.2].flatten)) (anL id df n ((gSt id df n key 10 (pcB pg ct) 0 ([] : Lg)).1) ((gSt id df n key 10 (pcB pg ct) 0 ([] : Lg)).2.1) (1, (zB 32), 4, [pcB pg ct, gx gr (gSt id df n key 10 (pcB pg ct) 0 ([] : Lg)).2.2].flatten)) (1, (zB 32), 4, [pcB pg2 ct2, gs2].flatten)) (anL id df n (anU id ((gSt id df n key 10 (pcB pg ct) 0 ([] : Lg)).1) ((gSt id df n key 10 (pcB pg ct) 0 ([] : Lg)).2.1) (1, (zB 32), 4, [pcB pg ct, gx gr (gSt id df n key 10 (pcB pg ct) 0 ([] : Lg)).2.2].flatten)) (anL id df n ((gSt id df n key 10 (pcB pg ct) 0 ([] : Lg)).1) ((gSt id df n key 10 (pcB pg ct) 0 ([] : Lg)).2.1) (1, (zB 32), 4, [pcB pg ct, gx gr (gSt id df n key 10 (pcB pg ct) 0 ([] : Lg)).2.2].flatten)) (1, (zB 32), 4, [pcB pg2 ct2, gs2].flatten)) (1, (zB 32), 6, leN 8 (UInt64.ofNat pg2).toNat)).map vu8) (r := true) rfl rfl eqGuardType23 kt23 (by decide) ag23 (Typ.u8s underlying23 ce23 underlying5 ce5 (anD_len hl h32_w_90)) (Typ.u8s underlying23 ce23 underlying5 ce5 (anD_len hl (anL_32 (dn := n) hl (anL_32 (dn := n) hl (gSt_32 hl okN))))) (map_inj_u8.trans (neF (leaf_n2 (nidb c_129) (hd_131 (nidb c_135)) (DL.gSt (nidb c_129) DL.nil) (Nat.le_trans hsl (by decide)))))) ?_
      refine qT rfl rfl (fun wq hS => R.pickT (v := (.bool true)) rfl rfl) ?_
      refine qT rfl rfl (fun wq hS => R.assign (v := (.bool true)) rfl) ?_
      refine WT.nil (thn_n (WP.ret ?_))
      refine ret_of results3 (RV.tmp (v := (.bool true)) rfl RV.nil) ?_
      exact ⟨rfl, h_137.chgS⟩
    ·have p_144 := of_decide_eq_false c_139
     refine WT.skipQ rfl rfl rfl (boolNe (v := .bool false) (congrArg Value.bool c_139) (by decide)) rfl rfl ?_
     refine WT.skipQ rfl rfl rfl (boolNe (v := .bool false) (congrArg Value.bool c_139) (by decide)) rfl rfl ?_
     refine WT.skipQ rfl rfl rfl (boolNe (v := .bool false) (congrArg Value.bool c_139) (by decide)) rfl rfl ?_
     refine qT rfl rfl (fun wq hS => R.pickF (v := (.bool false)) (congrArg Value.bool c_139) rfl) ?_
     refine qT rfl rfl (fun wq hS => R.move (v := (.bool false)) rfl) ?_
     refine WT.skipQ rfl rfl rfl (boolNe (v := .bool false) rfl (by decide)) rfl rfl ?_
     refine WT.skipQ rfl rfl rfl (boolNe (v := .bool false) rfl (by decide)) rfl rfl ?_
     refine WT.skipQ rfl rfl rfl (boolNe (v := .bool false) rfl (by decide)) rfl rfl ?_
     refine qT rfl rfl (fun wq hS => R.pickF (v := (.bool false)) rfl rfl) ?_
     refine qT rfl rfl (fun wq hS => R.eqB (a := decide (anD id df n ((gSt id df n key 10 (pcB pg ct) 0 ([] : Lg)).1) ((gSt id df n key 10 (pcB pg ct) 0 ([] : Lg)).2.1) (1, (zB 32), 4, [pcB pg ct, gx gr (gSt id df n key 10 (pcB pg ct) 0 ([] : Lg)).2.2].flatten) = anD id df n (anU id ((gSt id df n key 10 (pcB pg ct) 0 ([] : Lg)).1) ((gSt id df n key 10 (pcB pg ct) 0 ([] : Lg)).2.1) (1, (zB 32), 4, [pcB pg ct, gx gr (gSt id df n key 10 (pcB pg ct) 0 ([] : Lg)).2.2].flatten)) (anL id df n ((gSt id df n key 10 (pcB pg ct) 0 ([] : Lg)).1) ((gSt id df n key 10 (pcB pg ct) 0 ([] : Lg)).2.1) (1, (zB 32), 4, [pcB pg ct, gx gr (gSt id df n key 10 (pcB pg ct) 0 ([] : Lg)).2.2].flatten)) (1, (zB 32), 4, [pcB pg2 ct2, gs2].flatten))) (b := false) (c := true) rfl rfl underlying4 (same_f (leaf_eq (nidb c_129) (hd_131 (nidb c_135)) (DL.gSt (nidb c_129) DL.nil) (Nat.le_trans hsl (by decide)) h h2) (fun e => p_144 (by have := e.1; omega)))) ?_
     refine qT rfl rfl (fun wq hS => R.move (v := (.bool true)) rfl) ?_
     refine WT.q rfl (Wn.yes rfl rfl rfl) rfl rfl (fun wq hS => R.loadA [] [(32, (anD id df n ((gSt id df n key 10 (pcB pg ct) 0 ([] : Lg)).1) ((gSt id df n key 10 (pcB pg ct) 0 ([] : Lg)).2.1) (1, (zB 32), 4, [pcB pg ct, gx gr (gSt id df n key 10 (pcB pg ct) 0 ([] : Lg)).2.2].flatten)).map vu8)] [] (cs := (anD id df n ((gSt id df n key 10 (pcB pg ct) 0 ([] : Lg)).1) ((gSt id df n key 10 (pcB pg ct) 0 ([] : Lg)).2.1) (1, (zB 32), 4, [pcB pg ct, gx gr (gSt id df n key 10 (pcB pg ct) 0 ([] : Lg)).2.2].flatten)).map vu8) rfl isAgg23 sizeOf23 (hS _ M7) rfl rfl rfl rfl) ?_
     refine WT.q rfl (Wn.yes rfl rfl rfl) rfl rfl (fun wq hS => R.loadA [] [(32, (anD id df n (anU id (anU id ((gSt id df n key 10 (pcB pg ct) 0 ([] : Lg)).1) ((gSt id df n key 10 (pcB pg ct) 0 ([] : Lg)).2.1) (1, (zB 32), 4, [pcB pg ct, gx gr (gSt id df n key 10 (pcB pg ct) 0 ([] : Lg)).2.2].flatten)) (anL id df n ((gSt id df n key 10 (pcB pg ct) 0 ([] : Lg)).1) ((gSt id df n key 10 (pcB pg ct) 0 ([] : Lg)).2.1) (1, (zB 32), 4, [pcB pg ct, gx gr (gSt id df n key 10 (pcB pg ct) 0 ([] : Lg)).2.2].flatten)) (1, (zB 32), 4, [pcB pg2 ct2, gs2].flatten)) (anL id df n (anU id ((gSt id df n key 10 (pcB pg ct) 0 ([] : Lg)).1) ((gSt id df n key 10 (pcB pg ct) 0 ([] : Lg)).2.1) (1, (zB 32), 4, [pcB pg ct, gx gr (gSt id df n key 10 (pcB pg ct) 0 ([] : Lg)).2.2].flatten)) (anL id df n ((gSt id df n key 10 (pcB pg ct) 0 ([] : Lg)).1) ((gSt id df n key 10 (pcB pg ct) 0 ([] : Lg)).2.1) (1, (zB 32), 4, [pcB pg ct, gx gr (gSt id df n key 10 (pcB pg ct) 0 ([] : Lg)).2.2].flatten)) (1, (zB 32), 4, [pcB pg2 ct2, gs2].flatten)) (1, (zB 32), 6, leN 8 (UInt64.ofNat pg2).toNat)).map vu8)] [] (cs := (anD id df n (anU id (anU id ((gSt id df n key 10 (pcB pg ct) 0 ([] : Lg)).1) ((gSt id df n key 10 (pcB pg ct) 0 ([] : Lg)).2.1) (1, (zB 32), 4, [pcB pg ct, gx gr (gSt id df n key 10 (pcB pg ct) 0 ([] : Lg)).2.2].flatten)) (anL id df n ((gSt id df n key 10 (pcB pg ct) 0 ([] : Lg)).1) ((gSt id df n key 10 (pcB pg ct) 0 ([] : Lg)).2.1) (1, (zB 32), 4, [pcB pg ct, gx gr (gSt id df n key 10 (pcB pg ct) 0 ([] : Lg)).2.2].flatten)) (1, (zB 32), 4, [pcB pg2 ct2, gs2].flatten)) (anL id df n (anU id ((gSt id df n key 10 (pcB pg ct) 0 ([] : Lg)).1) ((gSt id df n key 10 (pcB pg ct) 0 ([] : Lg)).2.1) (1, (zB 32), 4, [pcB pg ct, gx gr (gSt id df n key 10 (pcB pg ct) 0 ([] : Lg)).2.2].flatten)) (anL id df n ((gSt id df n key 10 (pcB pg ct) 0 ([] : Lg)).1) ((gSt id df n key 10 (pcB pg ct) 0 ([] : Lg)).2.1) (1, (zB 32), 4, [pcB pg ct, gx gr (gSt id df n key 10 (pcB pg ct) 0 ([] : Lg)).2.2].flatten)) (1, (zB 32), 4, [pcB pg2 ct2, gs2].flatten)) (1, (zB 32), 6, leN 8 (UInt64.ofNat pg2).toNat)).map vu8) rfl isAgg23 sizeOf23 (hS _ M0) rfl rfl rfl rfl) ?_
     refine WT.q rfl (Wn.yes rfl rfl rfl) rfl rfl (fun wq hS => R.neA (xs := (anD id df n ((gSt id df n key 10 (pcB pg ct) 0 ([] : Lg)).1) ((gSt id df n key 10 (pcB pg ct) 0 ([] : Lg)).2.1) (1, (zB 32), 4, [pcB pg ct, gx gr (gSt id df n key 10 (pcB pg ct) 0 ([] : Lg)).2.2].flatten)).map vu8) (ys := (anD id df n (anU id (anU id ((gSt id df n key 10 (pcB pg ct) 0 ([] : Lg)).1) ((gSt id df n key 10 (pcB pg ct) 0 ([] : Lg)).2.1) (1, (zB 32), 4, [pcB pg ct, gx gr (gSt id df n key 10 (pcB pg ct) 0 ([] : Lg)).2.2].flatten)) (anL id df n ((gSt id df n key 10 (pcB pg ct) 0 ([] : Lg)).1) ((gSt id df n key 10 (pcB pg ct) 0 ([] : Lg)).2.1) (1, (zB 32), 4, [pcB pg ct, gx gr (gSt id df n key 10 (pcB pg ct) 0 ([] : Lg)).2.2].flatten)) (1, (zB 32), 4, [pcB pg2 ct2, gs2].flatten)) (anL id df n (anU id ((gSt id df n key 10 (pcB pg ct) 0 ([] : Lg)).1) ((gSt id df n key 10 (pcB pg ct) 0 ([] : Lg)).2.1) (1, (zB 32), 4, [pcB pg ct, gx gr (gSt id df n key 10 (pcB pg ct) 0 ([] : Lg)).2.2].flatten)) (anL id df n ((gSt id df n key 10 (pcB pg ct) 0 ([] : Lg)).1) ((gSt id df n key 10 (pcB pg ct) 0 ([] : Lg)).2.1) (1, (zB 32), 4, [pcB pg ct, gx gr (gSt id df n key 10 (pcB pg ct) 0 ([] : Lg)).2.2].flatten)) (1, (zB 32), 4, [pcB pg2 ct2, gs2].flatten)) (1, (zB 32), 6, leN 8 (UInt64.ofNat pg2).toNat)).map vu8) (r := true) rfl rfl eqGuardType23 kt23 (by decide) ag23 (Typ.u8s underlying23 ce23 underlying5 ce5 (anD_len hl h32_w_73)) (Typ.u8s underlying23 ce23 underlying5 ce5 (anD_len hl (anL_32 (dn := n) hl (anL_32 (dn := n) hl (gSt_32 hl okN))))) (map_inj_u8.trans (neF (leaf_n1 (nidb c_129) (hd_131 (nidb c_135)) (DL.gSt (nidb c_129) DL.nil) (Nat.le_trans hsl (by decide)))))) ?_
     refine qT rfl rfl (fun wq hS => R.pickT (v := (.bool true)) rfl rfl) ?_
     refine qT rfl rfl (fun wq hS => R.move (v := (.bool true)) rfl) ?_
     refine WT.q rfl (Wn.yes rfl rfl rfl) rfl rfl (fun wq hS => R.loadA [] [(32, (anD id df n (anU id ((gSt id df n key 10 (pcB pg ct) 0 ([] : Lg)).1) ((gSt id df n key 10 (pcB pg ct) 0 ([] : Lg)).2.1) (1, (zB 32), 4, [pcB pg ct, gx gr (gSt id df n key 10 (pcB pg ct) 0 ([] : Lg)).2.2].flatten)) (anL id df n ((gSt id df n key 10 (pcB pg ct) 0 ([] : Lg)).1) ((gSt id df n key 10 (pcB pg ct) 0 ([] : Lg)).2.1) (1, (zB 32), 4, [pcB pg ct, gx gr (gSt id df n key 10 (pcB pg ct) 0 ([] : Lg)).2.2].flatten)) (1, (zB 32), 4, [pcB pg2 ct2, gs2].flatten)).map vu8)] [] (cs := (anD id df n (anU id ((gSt id df n key 10 (pcB pg ct) 0 ([] : Lg)).1) ((gSt id df n key 10 (pcB pg ct) 0 ([] : Lg)).2.1) (1, (zB 32), 4, [pcB pg ct, gx gr (gSt id df n key 10 (pcB pg ct) 0 ([] : Lg)).2.2].flatten)) (anL id df n ((gSt id df n key 10 (pcB pg ct) 0 ([] : Lg)).1) ((gSt id df n key 10 (pcB pg ct) 0 ([] : Lg)).2.1) (1, (zB 32), 4, [pcB pg ct, gx gr (gSt id df n key 10 (pcB pg ct) 0 ([] : Lg)).2.2].flatten)) (1, (zB 32), 4, [pcB pg2 ct2, gs2].flatten)).map vu8) rfl isAgg23 sizeOf23 (hS _ M6) rfl rfl rfl rfl) ?_
     refine WT.q rfl (Wn.yes rfl rfl rfl) rfl rfl (fun wq hS => R.loadA [] [(32, (anD id df n (anU id (anU id ((gSt id df n key 10 (pcB pg ct) 0 ([] : Lg)).1) ((gSt id df n key 10 (pcB pg ct) 0 ([] : Lg)).2.1) (1, (zB 32), 4, [pcB pg ct, gx gr (gSt id df n key 10 (pcB pg ct) 0 ([] : Lg)).2.2].flatten)) (anL id df n ((gSt id df n key 10 (pcB pg ct) 0 ([] : Lg)).1) ((gSt id df n key 10 (pcB pg ct) 0 ([] : Lg)).2.1) (1, (zB 32), 4, [pcB pg ct, gx gr (gSt id df n key 10 (pcB pg ct) 0 ([] : Lg)).2.2].flatten)) (1, (zB 32), 4, [pcB pg2 ct2, gs2].flatten)) (anL id df n (anU id ((gSt id df n key 10 (pcB pg ct) 0 ([] : Lg)).1) ((gSt id df n key 10 (pcB pg ct) 0 ([] : Lg)).2.1) (1, (zB 32), 4, [pcB pg ct, gx gr (gSt id df n key 10 (pcB pg ct) 0 ([] : Lg)).2.2].flatten)) (anL id df n ((gSt id df n key 10 (pcB pg ct) 0 ([] : Lg)).1) ((gSt id df n key 10 (pcB pg ct) 0 ([] : Lg)).2.1) (1, (zB 32), 4, [pcB pg ct, gx gr (gSt id df n key 10 (pcB pg ct) 0 ([] : Lg)).2.2].flatten)) (1, (zB 32), 4, [pcB pg2 ct2, gs2].flatten)) (1, (zB 32), 6, leN 8 (UInt64.ofNat pg2).toNat)).map vu8)] [] (cs := (anD id df n (anU id (anU id ((gSt id df n key 10 (pcB pg ct) 0 ([] : Lg)).1) ((gSt id df n key 10 (pcB pg ct) 0 ([] : Lg)).2.1) (1, (zB 32), 4, [pcB pg ct, gx gr (gSt id df n key 10 (pcB pg ct) 0 ([] : Lg)).2.2].flatten)) (anL id df n ((gSt id df n key 10 (pcB pg ct) 0 ([] : Lg)).1) ((gSt id df n key 10 (pcB pg ct) 0 ([] : Lg)).2.1) (1, (zB 32), 4, [pcB pg ct, gx gr (gSt id df n key 10 (pcB pg ct) 0 ([] : Lg)).2.2].flatten)) (1, (zB 32), 4, [pcB pg2 ct2, gs2].flatten)) (anL id df n (anU id ((gSt id df n key 10 (pcB pg ct) 0 ([] : Lg)).1) ((gSt id df n key 10 (pcB pg ct) 0 ([] : Lg)).2.1) (1, (zB 32), 4, [pcB pg ct, gx gr (gSt id df n key 10 (pcB pg ct) 0 ([] : Lg)).2.2].flatten)) (anL id df n ((gSt id df n key 10 (pcB pg ct) 0 ([] : Lg)).1) ((gSt id df n key 10 (pcB pg ct) 0 ([] : Lg)).2.1) (1, (zB 32), 4, [pcB pg ct, gx gr (gSt id df n key 10 (pcB pg ct) 0 ([] : Lg)).2.2].flatten)) (1, (zB 32), 4, [pcB pg2 ct2, gs2].flatten)) (1, (zB 32), 6, leN 8 (UInt64.ofNat pg2).toNat)).map vu8) rfl isAgg23 sizeOf23 (hS _ M0) rfl rfl rfl rfl) ?_
     refine WT.q rfl (Wn.yes rfl rfl rfl) rfl rfl (fun wq hS => R.neA (xs := (anD id df n (anU id ((gSt id df n key 10 (pcB pg ct) 0 ([] : Lg)).1) ((gSt id df n key 10 (pcB pg ct) 0 ([] : Lg)).2.1) (1, (zB 32), 4, [pcB pg ct, gx gr (gSt id df n key 10 (pcB pg ct) 0 ([] : Lg)).2.2].flatten)) (anL id df n ((gSt id df n key 10 (pcB pg ct) 0 ([] : Lg)).1) ((gSt id df n key 10 (pcB pg ct) 0 ([] : Lg)).2.1) (1, (zB 32), 4, [pcB pg ct, gx gr (gSt id df n key 10 (pcB pg ct) 0 ([] : Lg)).2.2].flatten)) (1, (zB 32), 4, [pcB pg2 ct2, gs2].flatten)).map vu8) (ys := (anD id df n (anU id (anU id ((gSt id df n key 10 (pcB pg ct) 0 ([] : Lg)).1) ((gSt id df n key 10 (pcB pg ct) 0 ([] : Lg)).2.1) (1, (zB 32), 4, [pcB pg ct, gx gr (gSt id df n key 10 (pcB pg ct) 0 ([] : Lg)).2.2].flatten)) (anL id df n ((gSt id df n key 10 (pcB pg ct) 0 ([] : Lg)).1) ((gSt id df n key 10 (pcB pg ct) 0 ([] : Lg)).2.1) (1, (zB 32), 4, [pcB pg ct, gx gr (gSt id df n key 10 (pcB pg ct) 0 ([] : Lg)).2.2].flatten)) (1, (zB 32), 4, [pcB pg2 ct2, gs2].flatten)) (anL id df n (anU id ((gSt id df n key 10 (pcB pg ct) 0 ([] : Lg)).1) ((gSt id df n key 10 (pcB pg ct) 0 ([] : Lg)).2.1) (1, (zB 32), 4, [pcB pg ct, gx gr (gSt id df n key 10 (pcB pg ct) 0 ([] : Lg)).2.2].flatten)) (anL id df n ((gSt id df n key 10 (pcB pg ct) 0 ([] : Lg)).1) ((gSt id df n key 10 (pcB pg ct) 0 ([] : Lg)).2.1) (1, (zB 32), 4, [pcB pg ct, gx gr (gSt id df n key 10 (pcB pg ct) 0 ([] : Lg)).2.2].flatten)) (1, (zB 32), 4, [pcB pg2 ct2, gs2].flatten)) (1, (zB 32), 6, leN 8 (UInt64.ofNat pg2).toNat)).map vu8) (r := true) rfl rfl eqGuardType23 kt23 (by decide) ag23 (Typ.u8s underlying23 ce23 underlying5 ce5 (anD_len hl h32_w_90)) (Typ.u8s underlying23 ce23 underlying5 ce5 (anD_len hl (anL_32 (dn := n) hl (anL_32 (dn := n) hl (gSt_32 hl okN))))) (map_inj_u8.trans (neF (leaf_n2 (nidb c_129) (hd_131 (nidb c_135)) (DL.gSt (nidb c_129) DL.nil) (Nat.le_trans hsl (by decide)))))) ?_
     refine qT rfl rfl (fun wq hS => R.pickT (v := (.bool true)) rfl rfl) ?_
     refine qT rfl rfl (fun wq hS => R.assign (v := (.bool true)) rfl) ?_
     refine WT.nil (thn_n (WP.ret ?_))
     refine ret_of results3 (RV.tmp (v := (.bool true)) rfl RV.nil) ?_
     exact ⟨rfl, h_137.chgS⟩

theorem w_BlobMeans (id : Bool) (ms df : List UInt8) (hms : ms.length = 32) (da0 : Option Addr) (n cap0 : Nat) (hl : df.length = 32 * n) (key : List UInt8) (hk : key.length = 32) (gr gs2 : List UInt8) (hgr : gr.length = 128) (hgs : gs2.length = 128) (pg pg2 : Int) (ct ct2 : UInt64) (w : World) (hv : View w da0 (df.map vu8)) : Cs Try.prog 3 [(.agg ⟨flat [(1, [(.bool id)]), (32, ms.map vu8), (1, [(.slice da0 n cap0)])]⟩), (.agg ⟨key.map vu8⟩), (vi pg), (vu64 ct), (.agg ⟨gr.map vu8⟩), (vi pg2), (vu64 ct2), (.agg ⟨gs2.map vu8⟩)].toArray w (fun v w1 => v = (.bool true) ∧ Chg w w1 []) := by
 by_cases hpg : 0 ≤ pg ∧ pg < 128
 ·obtain ⟨p, rfl⟩ := Int.eq_ofNat_of_zero_le hpg.1
  by_cases hct : ct > 4294967296
  ·exact w_BM_ct1 id ms df hms da0 n cap0 hl key hk gr gs2 hgr hgs p (by omega) pg2 ct ct2 hct w hv
  ·by_cases hpg2 : 0 ≤ pg2 ∧ pg2 < 128
   ·obtain ⟨p2, rfl⟩ := Int.eq_ofNat_of_zero_le hpg2.1
    by_cases hct2 : ct2 > 4294967296
    ·exact w_BM_ct2 id ms df hms da0 n cap0 hl key hk gr gs2 hgr hgs p (by omega) p2 (by omega) ct ct2 hct hct2 w hv
    ·exact w_BM_ok id ms df hms da0 n cap0 hl key hk gr gs2 hgr hgs p (by omega) p2 (by omega) ct ct2 hct hct2 w hv
   ·exact w_BM_no2 id ms df hms da0 n cap0 hl key hk gr gs2 hgr hgs p (by omega) pg2 hpg2 ct ct2 hct w hv
 ·exact w_BM_no1 id ms df hms da0 n cap0 hl key hk gr gs2 hgr hgs pg hpg pg2 ct ct2 w hv
namespace blobMeansDone
open Go.ChangeShapes Go.WideShapes Go.ChangeAt
theorem own : ownKnob Try.prog.godebug = none := by kernel_rfl
theorem laidOut : laidOutB Try.prog = true := by kernel_rfl
set_option maxRecDepth 100000 in
theorem lifted (os : Os) (started : os.Started) (H : Type) (enc : TypeId × Value → H) :
  ReturnsInHanded {} Try.checked os 3 .any (Rows.blobMeansSpec.pre6 enc Try.prog Try.f3 Rows.blobMeansRow.domain false) (Rows.blobMeansSpec.post enc Try.prog Try.f3 false true false false) := by
 refine returnsInHanded_of_change (C := Try.checked) own started (by kernel_rfl) Try.func3
  (ChangeSpec.witness6 (enc := enc) (C := Try.checked) false ⟨#[], #[.agg #[.bool false, .int .u8 0, .int .u8 0, .int .u8 0, .int .u8 0, .int .u8 0, .int .u8 0, .int .u8 0, .int .u8 0, .int .u8 0, .int .u8 0, .int .u8 0, .int .u8 0, .int .u8 0, .int .u8 0, .int .u8 0, .int .u8 0, .int .u8 0, .int .u8 0, .int .u8 0, .int .u8 0, .int .u8 0, .int .u8 0, .int .u8 0, .int .u8 0, .int .u8 0, .int .u8 0, .int .u8 0, .int .u8 0, .int .u8 0, .int .u8 0, .int .u8 0, .int .u8 0, .slice none 0 0], .agg #[.int .u8 0, .int .u8 0, .int .u8 0, .int .u8 0, .int .u8 0, .int .u8 0, .int .u8 0, .int .u8 0, .int .u8 0, .int .u8 0, .int .u8 0, .int .u8 0, .int .u8 0, .int .u8 0, .int .u8 0, .int .u8 0, .int .u8 0, .int .u8 0, .int .u8 0, .int .u8 0, .int .u8 0, .int .u8 0, .int .u8 0, .int .u8 0, .int .u8 0, .int .u8 0, .int .u8 0, .int .u8 0, .int .u8 0, .int .u8 0, .int .u8 0, .int .u8 0], .int .i64 0, .int .u64 0, .agg #[.int .u8 0, .int .u8 0, .int .u8 0, .int .u8 0, .int .u8 0, .int .u8 0, .int .u8 0, .int .u8 0, .int .u8 0, .int .u8 0, .int .u8 0, .int .u8 0, .int .u8 0, .int .u8 0, .int .u8 0, .int .u8 0, .int .u8 0, .int .u8 0, .int .u8 0, .int .u8 0, .int .u8 0, .int .u8 0, .int .u8 0, .int .u8 0, .int .u8 0, .int .u8 0, .int .u8 0, .int .u8 0, .int .u8 0, .int .u8 0, .int .u8 0, .int .u8 0, .int .u8 0, .int .u8 0, .int .u8 0, .int .u8 0, .int .u8 0, .int .u8 0, .int .u8 0, .int .u8 0, .int .u8 0, .int .u8 0, .int .u8 0, .int .u8 0, .int .u8 0, .int .u8 0, .int .u8 0, .int .u8 0, .int .u8 0, .int .u8 0, .int .u8 0, .int .u8 0, .int .u8 0, .int .u8 0, .int .u8 0, .int .u8 0, .int .u8 0, .int .u8 0, .int .u8 0, .int .u8 0, .int .u8 0, .int .u8 0, .int .u8 0, .int .u8 0, .int .u8 0, .int .u8 0, .int .u8 0, .int .u8 0, .int .u8 0, .int .u8 0, .int .u8 0, .int .u8 0, .int .u8 0, .int .u8 0, .int .u8 0, .int .u8 0, .int .u8 0, .int .u8 0, .int .u8 0, .int .u8 0, .int .u8 0, .int .u8 0, .int .u8 0, .int .u8 0, .int .u8 0, .int .u8 0, .int .u8 0, .int .u8 0, .int .u8 0, .int .u8 0, .int .u8 0, .int .u8 0, .int .u8 0, .int .u8 0, .int .u8 0, .int .u8 0, .int .u8 0, .int .u8 0, .int .u8 0, .int .u8 0, .int .u8 0, .int .u8 0, .int .u8 0, .int .u8 0, .int .u8 0, .int .u8 0, .int .u8 0, .int .u8 0, .int .u8 0, .int .u8 0, .int .u8 0, .int .u8 0, .int .u8 0, .int .u8 0, .int .u8 0, .int .u8 0, .int .u8 0, .int .u8 0, .int .u8 0, .int .u8 0, .int .u8 0, .int .u8 0, .int .u8 0, .int .u8 0, .int .u8 0, .int .u8 0, .int .u8 0, .int .u8 0], .int .i64 0, .int .u64 0, .agg #[.int .u8 0, .int .u8 0, .int .u8 0, .int .u8 0, .int .u8 0, .int .u8 0, .int .u8 0, .int .u8 0, .int .u8 0, .int .u8 0, .int .u8 0, .int .u8 0, .int .u8 0, .int .u8 0, .int .u8 0, .int .u8 0, .int .u8 0, .int .u8 0, .int .u8 0, .int .u8 0, .int .u8 0, .int .u8 0, .int .u8 0, .int .u8 0, .int .u8 0, .int .u8 0, .int .u8 0, .int .u8 0, .int .u8 0, .int .u8 0, .int .u8 0, .int .u8 0, .int .u8 0, .int .u8 0, .int .u8 0, .int .u8 0, .int .u8 0, .int .u8 0, .int .u8 0, .int .u8 0, .int .u8 0, .int .u8 0, .int .u8 0, .int .u8 0, .int .u8 0, .int .u8 0, .int .u8 0, .int .u8 0, .int .u8 0, .int .u8 0, .int .u8 0, .int .u8 0, .int .u8 0, .int .u8 0, .int .u8 0, .int .u8 0, .int .u8 0, .int .u8 0, .int .u8 0, .int .u8 0, .int .u8 0, .int .u8 0, .int .u8 0, .int .u8 0, .int .u8 0, .int .u8 0, .int .u8 0, .int .u8 0, .int .u8 0, .int .u8 0, .int .u8 0, .int .u8 0, .int .u8 0, .int .u8 0, .int .u8 0, .int .u8 0, .int .u8 0, .int .u8 0, .int .u8 0, .int .u8 0, .int .u8 0, .int .u8 0, .int .u8 0, .int .u8 0, .int .u8 0, .int .u8 0, .int .u8 0, .int .u8 0, .int .u8 0, .int .u8 0, .int .u8 0, .int .u8 0, .int .u8 0, .int .u8 0, .int .u8 0, .int .u8 0, .int .u8 0, .int .u8 0, .int .u8 0, .int .u8 0, .int .u8 0, .int .u8 0, .int .u8 0, .int .u8 0, .int .u8 0, .int .u8 0, .int .u8 0, .int .u8 0, .int .u8 0, .int .u8 0, .int .u8 0, .int .u8 0, .int .u8 0, .int .u8 0, .int .u8 0, .int .u8 0, .int .u8 0, .int .u8 0, .int .u8 0, .int .u8 0, .int .u8 0, .int .u8 0, .int .u8 0, .int .u8 0, .int .u8 0, .int .u8 0, .int .u8 0, .int .u8 0]], []⟩ 8 (by kernel_rfl) (by kernel_rfl) (by kernel_rfl) (by kernel_rfl)) ?_
 intro W base args ds gs before hval0 hW hcnd _
 have hval : ∀ (j : Nat) t v, Try.f3.params[j]? = some t → args[j]? = some v → Value.okWide Try.prog W .any base t v := hval0
 have hW' := hW
 obtain ⟨p, q, hA0, hV, rfl, hfz, hnd⟩ := hW
 have hA : DataW.TrodAll enc Try.prog W 0 (fun _ => true) true Try.f3.params.toList args.toList ds p := hA0
 rw [Try.params3] at hA hval
 obtain ⟨v0, vs0, d0, ds0, p0, q0, hargs, rfl, rfl, h0, r0⟩ := trodAll_cons hA
 obtain ⟨v1, vs1, d1, ds1, p1, q1, rfl, rfl, rfl, h1, r1⟩ := trodAll_cons r0
 obtain ⟨v2, vs2, d2, ds2, p2, q2, rfl, rfl, rfl, h2, r2⟩ := trodAll_cons r1
 obtain ⟨v3, vs3, d3, ds3, p3, q3, rfl, rfl, rfl, h3, r3⟩ := trodAll_cons r2
 obtain ⟨v4, vs4, d4, ds4, p4, q4, rfl, rfl, rfl, h4, r4⟩ := trodAll_cons r3
 obtain ⟨v5, vs5, d5, ds5, p5, q5, rfl, rfl, rfl, h5, r5⟩ := trodAll_cons r4
 obtain ⟨v6, vs6, d6, ds6, p6, q6, rfl, rfl, rfl, h6, r6⟩ := trodAll_cons r5
 obtain ⟨v7, vs7, d7, ds7, p7, q7, rfl, rfl, rfl, h7, r7⟩ := trodAll_cons r6
 obtain ⟨rfl, rfl, rfl⟩ := trodAll_nil r7
 obtain rfl : args = #[v0, v1, v2, v3, v4, v5, v6, v7] := by cases args; simp_all
 obtain ⟨rfl, rfl⟩ := trodVars_none hV
 have lt0 : ∀ x ∈ p0, x.block < W.heap.size := by obtain ⟨m, hm⟩ := h0; exact DataW.trod_lt m _ _ _ hm
 obtain ⟨cs0, rfl⟩ := okWide_agg aggT26 (hval 0 26 v0 rfl rfl)
 have tr0 : Tr Try.prog W 26 cs0 := Tr.of h0 rfl
 have tl_x0 := Tr.struct (l := [(1, 4), (32, 23), (1, 24)]) underlying26 ce26 (by kernel_rfl) tr0
 obtain ⟨a_x00, r_x00, rfl, n_x00, t_x00, tl_x00⟩ := tl_x0
 obtain ⟨x00, rfl⟩ := Tr.bool underlying4 t_x00
 obtain ⟨a_x01, r_x01, rfl, n_x01, t_x01, tl_x01⟩ := tl_x00
 obtain ⟨x01, rfl, l_x01⟩ := Tr.arr8 underlying23 ce23 ce5 underlying5 t_x01
 obtain ⟨a_x02, r_x02, rfl, n_x02, t_x02, tl_x02⟩ := tl_x01
 obtain ⟨sa_x02, sn_x02, sc_x02, x02, rfl, l_x02, hc_x02, hm_x02, hv_x02⟩ := Tr.slA8 underlying24 ce23 underlying23 ce5 underlying5 t_x02
 obtain rfl := tl_x02
 have lt1 : ∀ x ∈ p1, x.block < W.heap.size := by obtain ⟨m, hm⟩ := h1; exact DataW.trod_lt m _ _ _ hm
 obtain ⟨cs1, rfl⟩ := okWide_agg aggT23 (hval 1 23 v1 rfl rfl)
 have tr1 : Tr Try.prog W 23 cs1 := Tr.of h1 rfl
 obtain ⟨x1, rfl, l_x1⟩ := Tr.arr8 underlying23 ce23 ce5 underlying5 tr1
 have lt2 : ∀ x ∈ p2, x.block < W.heap.size := by obtain ⟨m, hm⟩ := h2; exact DataW.trod_lt m _ _ _ hm
 obtain ⟨x2, rfl⟩ := okWide_int underlying3 (hval 2 3 v2 rfl rfl)
 have b_x2 := Tr.i64' underlying3 (Tr.of h2 rfl)
 have lt3 : ∀ x ∈ p3, x.block < W.heap.size := by obtain ⟨m, hm⟩ := h3; exact DataW.trod_lt m _ _ _ hm
 obtain ⟨n3, rfl⟩ := okWide_int underlying27 (hval 3 27 v3 rfl rfl)
 obtain ⟨x3, rfl⟩ := Tr.u64' underlying27 (Tr.of h3 rfl)
 have lt4 : ∀ x ∈ p4, x.block < W.heap.size := by obtain ⟨m, hm⟩ := h4; exact DataW.trod_lt m _ _ _ hm
 obtain ⟨cs4, rfl⟩ := okWide_agg aggT29 (hval 4 29 v4 rfl rfl)
 have tr4 : Tr Try.prog W 29 cs4 := Tr.of h4 rfl
 obtain ⟨x4, rfl, l_x4⟩ := Tr.arr8 underlying29 ce29 ce5 underlying5 tr4
 have lt5 : ∀ x ∈ p5, x.block < W.heap.size := by obtain ⟨m, hm⟩ := h5; exact DataW.trod_lt m _ _ _ hm
 obtain ⟨x5, rfl⟩ := okWide_int underlying3 (hval 5 3 v5 rfl rfl)
 have b_x5 := Tr.i64' underlying3 (Tr.of h5 rfl)
 have lt6 : ∀ x ∈ p6, x.block < W.heap.size := by obtain ⟨m, hm⟩ := h6; exact DataW.trod_lt m _ _ _ hm
 obtain ⟨n6, rfl⟩ := okWide_int underlying27 (hval 6 27 v6 rfl rfl)
 obtain ⟨x6, rfl⟩ := Tr.u64' underlying27 (Tr.of h6 rfl)
 have lt7 : ∀ x ∈ p7, x.block < W.heap.size := by obtain ⟨m, hm⟩ := h7; exact DataW.trod_lt m _ _ _ hm
 obtain ⟨cs7, rfl⟩ := okWide_agg aggT29 (hval 7 29 v7 rfl rfl)
 have tr7 : Tr Try.prog W 29 cs7 := Tr.of h7 rfl
 obtain ⟨x7, rfl, l_x7⟩ := Tr.arr8 underlying29 ce29 ce5 underlying5 tr7
 clear hA0 hval0
 have hw : Cs Try.prog 3 [(.agg ⟨flat [(1, [(.bool x00)]), (32, x01.map vu8), (1, [(.slice sa_x02 sn_x02 sc_x02)])]⟩), (.agg ⟨x1.map vu8⟩), (vi x2), (vu64 x3), (.agg ⟨x4.map vu8⟩), (vi x5), (vu64 x6), (.agg ⟨x7.map vu8⟩)].toArray W (fun v w1 => v = .bool true ∧ Chg W w1 []) := w_BlobMeans x00 x01 x02 l_x01 sa_x02 sn_x02 sc_x02 l_x02 x1 l_x1 x4 x7 l_x4 l_x7 x2 x5 x3 x6 W hv_x02.1
 have ea : ([(.agg ⟨flat [(1, [(.bool x00)]), (32, x01.map vu8), (1, [(.slice sa_x02 sn_x02 sc_x02)])]⟩), (.agg ⟨x1.map vu8⟩), (vi x2), (vu64 x3), (.agg ⟨x4.map vu8⟩), (vi x5), (vu64 x6), (.agg ⟨x7.map vu8⟩)] : List Value).toArray = (#[.agg ⟨([.bool x00] ++ (x01.map vu8 ++ ([.slice sa_x02 sn_x02 sc_x02] ++ [])))⟩, .agg ⟨x1.map vu8⟩, (vi x2), (vu64 x3), .agg ⟨x4.map vu8⟩, (vi x5), (vu64 x6), .agg ⟨x7.map vu8⟩] : Array Value) := by simp [flat]
 rw [ea] at hw
 refine Calls.mono (Cs.below hw) fun e W' ⟨he, bel⟩ => ?_
 subst he
 exact ⟨_, rfl, _, _, _, [], _, [], hW', trodAll_mk1 (shut_bool underlying4 _), (trodAll_cons_mk (Below.trod laidOut (by kernel_rfl) (of_decide_eq_true (by kernel_rfl)) h0 bel lt0) (trodAll_cons_mk (Below.trod laidOut (by kernel_rfl) (of_decide_eq_true (by kernel_rfl)) h1 bel lt1) (trodAll_cons_mk (Below.trod laidOut (by kernel_rfl) (of_decide_eq_true (by kernel_rfl)) h2 bel lt2) (trodAll_cons_mk (Below.trod laidOut (by kernel_rfl) (of_decide_eq_true (by kernel_rfl)) h3 bel lt3) (trodAll_cons_mk (Below.trod laidOut (by kernel_rfl) (of_decide_eq_true (by kernel_rfl)) h4 bel lt4) (trodAll_cons_mk (Below.trod laidOut (by kernel_rfl) (of_decide_eq_true (by kernel_rfl)) h5 bel lt5) (trodAll_cons_mk (Below.trod laidOut (by kernel_rfl) (of_decide_eq_true (by kernel_rfl)) h6 bel lt6) (trodAll_cons_mk (Below.trod laidOut (by kernel_rfl) (of_decide_eq_true (by kernel_rfl)) h7 bel lt7) trodAll_mk0)))))))), rfl, bel.frame _, fun h => by cases h⟩
theorem over : Rows.blobMeansRow.holds Try.pinned (OpenSpec.ofChange Rows.blobMeansSpec) :=
 OpenClaim.holds_of_wide 3 Try.f3 rfl rfl rfl rfl rfl rfl rfl ⟨rfl, rfl, rfl, rfl, rfl⟩ rfl rfl rfl rfl rfl (by kernel_rfl) Try.func3 (by kernel_rfl)
  (of_decide_eq_true (by kernel_rfl)) (by unfold Func.isWrapper; first | (rw [if_pos (by decide +kernel)]; kernel_rfl) | (rw [if_neg (by decide +kernel)]; exact ⟨rfl, rfl⟩))
  (fun os started H enc _ => lifted os started H enc)
theorem proved : Rows.BlobMeansSaid := over
end blobMeansDone
end Go.Proofs.Yteclkcpdclimnaa
