/- Rules for walks and contracts of the functions that the law reaches, one behind the other. Conditions: none beyond what each theorem states. -/
import Derived.Test.YtajiipjmmoehcaaGreatZ2OracleBreaks
set_option linter.unusedVariables false
set_option linter.unusedSimpArgs false
set_option linter.unusedSectionVars false
namespace Go.Proofs.YtajiipjmmoehcaaGreat
open Go.Proofs.Tryz
open Go.Vc Go.Orc Go.Sh Go.RowKit
set_option maxRecDepth 20000
theorem ce39 : Tryz.prog.cellsOf 39 = 35 := by kernel_rfl
theorem ce41 : Tryz.prog.cellsOf 41 = 37 := by kernel_rfl
theorem trAk (W : World) {cs : List Value} (h : Tr Tryz.prog W 23 cs) : ∃ a n cap, ∃ es : List Ae, cs = [.slice a n cap] ∧ es.length = n ∧ n ≤ cap ∧ cap ≤ maxLen ∧ ((∀ e ∈ es, okAe e) ∧ Aks W es) ∧ (Ent.view a (aesC es)).ok W.heap.size W := by
 obtain ⟨a, n, cap, els, e1, e2, e3, e4, e5, e6⟩ := Tr.slG underlying23 ce41 (by decide) h
 obtain ⟨es, hes, hok⟩ := els_of (f := aeC) (p := fun e => okAe e ∧ View W e.a (e.data.map vu8)) (els := els) (fun y hy => by
  have tr := (e5 y hy).2
  have tl_z := Tr.struct (l := [(1, 3), (1, 3), (35, 39)]) underlying41 ce41 (by kernel_rfl) tr
  obtain ⟨a_z0, r_z0, rfl, n_z0, t_z0, tl_z0⟩ := tl_z
  obtain ⟨z0, rfl, b_z0⟩ := Tr.i64 underlying3 t_z0
  obtain ⟨a_z1, r_z1, rfl, n_z1, t_z1, tl_z1⟩ := tl_z0
  obtain ⟨z1, rfl, b_z1⟩ := Tr.i64 underlying3 t_z1
  obtain ⟨a_z2, r_z2, rfl, n_z2, t_z2, tl_z2⟩ := tl_z1
  have tl_z2 := Tr.struct (l := [(1, 35), (32, 29), (1, 36), (1, 37)]) underlying39 ce39 (by kernel_rfl) t_z2
  obtain ⟨a_z20, r_z20, rfl, n_z20, t_z20, tl_z20⟩ := tl_z2
  obtain ⟨z20, rfl, b_z20⟩ := Tr.i64 underlying35 t_z20
  obtain ⟨a_z21, r_z21, rfl, n_z21, t_z21, tl_z21⟩ := tl_z20
  obtain ⟨z21, rfl, l_z21⟩ := Tr.arr8 underlying29 ce29 ce5 underlying5 t_z21
  obtain ⟨a_z22, r_z22, rfl, n_z22, t_z22, tl_z22⟩ := tl_z21
  obtain ⟨z22, rfl, b_z22⟩ := Tr.i64 underlying36 t_z22
  obtain ⟨a_z23, r_z23, rfl, n_z23, t_z23, tl_z23⟩ := tl_z22
  obtain ⟨sa_z23, sn_z23, sc_z23, z23, rfl, l_z23, hc_z23, hm_z23, hv_z23, hn_z23⟩ := Tr.sl8 underlying37 ce5 underlying5 t_z23
  obtain rfl := tl_z23
  obtain rfl := tl_z2
  subst l_z23
  exact ⟨⟨z0, z1, z20, z21, z22, z23, sa_z23, sc_z23⟩, by simp [aeC, flat], ⟨l_z21, hc_z23, hm_z23, b_z0, b_z1, b_z20, b_z22⟩, hv_z23.1⟩)
 subst hes
 exact ⟨a, n, cap, es, e1, by rw [← e2, List.length_map], e3, e4, ⟨fun e he => (hok e he).1, fun e he => (hok e he).2⟩, e6⟩

theorem c_rMayT (kd dm : Int) (key : List UInt8) (qa : Option Addr) (qn qc : Nat) (hk : key.length = 32) (h1 : 1 ≤ kd ∧ kd ≤ 4) (h2 : 1 ≤ dm ∧ dm ≤ 16) (hz : kd = 1 → key = List.replicate 32 0) (w : World) :
  Cs Tryz.prog 20 [(.agg ⟨flat [(1, [(vi kd)]), (32, key.map vu8), (1, [(vi dm)]), (1, [(.slice qa qn qc)])]⟩)].toArray w (fun v w1 => v = (.bool true) ∧ Chg w w1 []) := by
 refine Cs.of (n := 30) (args := [(.agg ⟨flat [(1, [(vi kd)]), (32, key.map vu8), (1, [(vi dm)]), (1, [(.slice qa qn qc)])]⟩)]) Tryz.func20 rfl rfl rfl ?_
 have h_0 := HP.init w
 refine WP.seq (WP.reg ?_)
 refine WL.box (segs := [(1, [(vi kd)]), (32, key.map vu8), (1, [(vi dm)]), (1, [(.slice qa qn qc)])]) h_0 rfl rfl (sC sV (sC (s8 hk) (sC sV (sC sV sN)))) rfl (fun b_1 w_2 h_3 => ?_)
 refine qA (.bool false) rfl rfl ?_
 refine WL.nil (thn_n (WP.seq (WP.seq (WP.reg ?_))))
 refine qV rfl (R.fieldAddr (off' := 0) rfl underlying39 rfl sizeOf35 rfl rfl) (qV rfl (R.load1 rfl isAgg35 (h_3.ok _ M0) Sg.h) (qV rfl (R.bin rfl rfl (bi_lss (r := decide ((kd : Int) < 1)) rfl)) (qM (.bool (decide ((kd : Int) < 1))) rfl rfl ?_)))
 refine WL.want rfl (congrArg Value.bool (decide_eq_false (by omega))) ?_
 refine qV rfl (R.fieldAddr (off' := 0) rfl underlying39 rfl sizeOf35 rfl rfl) ?_
 refine WL.want rfl (congrArg Value.bool (decide_eq_false (by omega))) ?_
 refine qV rfl (R.load1 rfl isAgg35 (h_3.ok _ M0) Sg.h) ?_
 refine WL.want rfl (congrArg Value.bool (decide_eq_false (by omega))) ?_
 refine qV rfl (R.bin rfl rfl (bi_gtr (r := decide ((kd : Int) > 4)) rfl)) (qV rfl (R.pickF (v := (.bool (decide ((kd : Int) > 4)))) (congrArg Value.bool (decide_eq_false (by omega))) rfl) (qM (.bool (decide ((kd : Int) > 4))) rfl rfl ?_))
 refine WL.want rfl (congrArg Value.bool (decide_eq_false (by omega))) ?_
 refine qV rfl (R.fieldAddr (off' := 33) rfl underlying39 rfl sizeOf36 rfl rfl) ?_
 refine WL.want rfl (congrArg Value.bool (decide_eq_false (by omega))) ?_
 refine qV rfl (R.load1 rfl isAgg36 (h_3.ok _ M0) (Sg.t rfl (Sg.t rfl Sg.h))) ?_
 refine WL.want rfl (congrArg Value.bool (decide_eq_false (by omega))) ?_
 refine qV rfl (R.bin rfl rfl (bi_lss (r := decide ((dm : Int) < 1)) rfl)) (qV rfl (R.pickF (v := (.bool (decide ((dm : Int) < 1)))) (congrArg Value.bool (decide_eq_false (by omega))) rfl) (qM (.bool (decide ((dm : Int) < 1))) rfl rfl ?_))
 refine WL.want rfl (congrArg Value.bool (decide_eq_false (by omega))) ?_
 refine qV rfl (R.fieldAddr (off' := 33) rfl underlying39 rfl sizeOf36 rfl rfl) ?_
 refine WL.want rfl (congrArg Value.bool (decide_eq_false (by omega))) ?_
 refine qV rfl (R.load1 rfl isAgg36 (h_3.ok _ M0) (Sg.t rfl (Sg.t rfl Sg.h))) ?_
 refine WL.want rfl (congrArg Value.bool (decide_eq_false (by omega))) ?_
 refine qV rfl (R.bin rfl rfl (bi_gtr (r := decide ((dm : Int) > 16)) rfl)) (qV rfl (R.pickF (v := (.bool (decide ((dm : Int) > 16)))) (congrArg Value.bool (decide_eq_false (by omega))) rfl) ?_)
 refine WL.nil (thn_n ?_)
 refine WP.condF (congrArg Value.bool (decide_eq_false (by omega))) ?_
 refine WP.skip (thn_n (WP.seq (WP.reg ?_)))
 refine qV rfl (R.fieldAddr (off' := 0) rfl underlying39 rfl sizeOf35 rfl rfl) (qV rfl (R.load1 rfl isAgg35 (h_3.ok _ M0) Sg.h) (qV rfl (R.bin rfl rfl (bi_neq (r := decide ((kd : Int) ≠ 1)) rfl)) (qM (.bool (decide ((kd : Int) ≠ 1))) rfl rfl ?_)))
 rcases Bool.eq_false_or_eq_true (decide ((kd : Int) ≠ 1)) with c_4 | c_4
 ·have p_5 := of_decide_eq_true c_4
  refine WL.skip rfl (congrArg Value.bool c_4) rfl ?_
  refine WL.skip rfl (congrArg Value.bool c_4) rfl ?_
  refine WL.skip rfl (congrArg Value.bool c_4) rfl ?_
  refine WL.skip rfl (congrArg Value.bool c_4) rfl ?_
  refine qV rfl (R.pickT (v := (.bool true)) (congrArg Value.bool c_4) rfl) (qA (.bool true) rfl rfl ?_)
  refine WL.nil (thn_n (WP.ret ?_))
  refine ret_of results20 (RV.tmp (v := (.bool true)) rfl RV.nil) ?_
  exact ⟨rfl, h_3.chgS⟩
 ·have p_6 := of_decide_eq_false c_4
  refine WL.want rfl (congrArg Value.bool c_4) ?_
  refine qV rfl (R.fieldAddr (off' := 1) rfl underlying39 rfl sizeOf29 rfl rfl) ?_
  refine WL.want rfl (congrArg Value.bool c_4) ?_
  refine qV rfl (R.loadA [(1, [(vi kd)])] [(32, key.map vu8)] [(1, [(vi dm)]), (1, [(.slice qa qn qc)])] (cs := key.map vu8) rfl isAgg29 sizeOf29 (h_3.ok _ M0) rfl rfl rfl rfl) ?_
  refine WL.want rfl (congrArg Value.bool c_4) ?_
  refine qV rfl (R.buildA (vs := []) (cs := (zB 32).map vu8) underlying29 sizeOf5 (zv typeInfo29 rfl) rfl rfl) ?_
  refine WL.want rfl (congrArg Value.bool c_4) ?_
  refine qV rfl (R.eqA (xs := key.map vu8) (ys := (zB 32).map vu8) (r := true) rfl rfl eqGuardType29 kt29 (by decide) ag29 (Typ.u8s underlying29 ce29 underlying5 ce5 hk) (Typ.u8s underlying29 ce29 underlying5 ce5 lr) (eqT (by rw [hz (by omega)]))) (qV rfl (R.pickF (v := (.bool true)) (congrArg Value.bool c_4) rfl) (qA (.bool true) rfl rfl ?_))
  refine WL.nil (thn_n (WP.ret ?_))
  refine ret_of results20 (RV.tmp (v := (.bool true)) rfl RV.nil) ?_
  exact ⟨rfl, h_3.chgS⟩

theorem c_rMayF (kd dm : Int) (key : List UInt8) (qa : Option Addr) (qn qc : Nat) (hk : key.length = 32) (hm : mayB kd dm key = false) (w : World) :
  Cs Tryz.prog 20 [(.agg ⟨flat [(1, [(vi kd)]), (32, key.map vu8), (1, [(vi dm)]), (1, [(.slice qa qn qc)])]⟩)].toArray w (fun v w1 => v = (.bool false) ∧ Chg w w1 []) := by
 refine Cs.of (n := 30) (args := [(.agg ⟨flat [(1, [(vi kd)]), (32, key.map vu8), (1, [(vi dm)]), (1, [(.slice qa qn qc)])]⟩)]) Tryz.func20 rfl rfl rfl ?_
 have h_0 := HP.init w
 refine WP.seq (WP.reg ?_)
 refine WL.box (segs := [(1, [(vi kd)]), (32, key.map vu8), (1, [(vi dm)]), (1, [(.slice qa qn qc)])]) h_0 rfl rfl (sC sV (sC (s8 hk) (sC sV (sC sV sN)))) rfl (fun b_1 w_2 h_3 => ?_)
 refine qA (.bool false) rfl rfl ?_
 refine WL.nil (thn_n (WP.seq (WP.seq (WP.reg ?_))))
 refine qV rfl (R.fieldAddr (off' := 0) rfl underlying39 rfl sizeOf35 rfl rfl) (qV rfl (R.load1 rfl isAgg35 (h_3.ok _ M0) Sg.h) (qV rfl (R.bin rfl rfl (bi_lss (r := decide ((kd : Int) < 1)) rfl)) (qM (.bool (decide ((kd : Int) < 1))) rfl rfl ?_)))
 rcases Bool.eq_false_or_eq_true (decide ((kd : Int) < 1)) with c_4 | c_4
 ·have p_5 := of_decide_eq_true c_4
  refine WL.skip rfl (congrArg Value.bool c_4) rfl ?_
  refine WL.skip rfl (congrArg Value.bool c_4) rfl ?_
  refine WL.skip rfl (congrArg Value.bool c_4) rfl ?_
  refine qV rfl (R.pickT (v := (.bool true)) (congrArg Value.bool c_4) rfl) (qM (.bool true) rfl rfl ?_)
  refine WL.skip rfl rfl rfl ?_
  refine WL.skip rfl rfl rfl ?_
  refine WL.skip rfl rfl rfl ?_
  refine qV rfl (R.pickT (v := (.bool true)) rfl rfl) (qM (.bool true) rfl rfl ?_)
  refine WL.skip rfl rfl rfl ?_
  refine WL.skip rfl rfl rfl ?_
  refine WL.skip rfl rfl rfl ?_
  refine qV rfl (R.pickT (v := (.bool true)) rfl rfl) ?_
  refine WL.nil (thn_n ?_)
  refine WP.condT rfl ?_
  refine WP.seq (WP.reg ?_)
  refine qA (.bool false) rfl rfl ?_
  refine WL.nil (thn_n (WP.ret (thn_r ?_)))
  refine ret_of results20 (RV.tmp (v := (.bool false)) rfl RV.nil) ?_
  exact ⟨rfl, h_3.chgS⟩
 ·have p_6 := of_decide_eq_false c_4
  refine WL.want rfl (congrArg Value.bool c_4) ?_
  refine qV rfl (R.fieldAddr (off' := 0) rfl underlying39 rfl sizeOf35 rfl rfl) ?_
  refine WL.want rfl (congrArg Value.bool c_4) ?_
  refine qV rfl (R.load1 rfl isAgg35 (h_3.ok _ M0) Sg.h) ?_
  refine WL.want rfl (congrArg Value.bool c_4) ?_
  refine qV rfl (R.bin rfl rfl (bi_gtr (r := decide ((kd : Int) > 4)) rfl)) (qV rfl (R.pickF (v := (.bool (decide ((kd : Int) > 4)))) (congrArg Value.bool c_4) rfl) (qM (.bool (decide ((kd : Int) > 4))) rfl rfl ?_))
  rcases Bool.eq_false_or_eq_true (decide ((kd : Int) > 4)) with c_7 | c_7
  ·have p_8 := of_decide_eq_true c_7
   refine WL.skip rfl (congrArg Value.bool c_7) rfl ?_
   refine WL.skip rfl (congrArg Value.bool c_7) rfl ?_
   refine WL.skip rfl (congrArg Value.bool c_7) rfl ?_
   refine qV rfl (R.pickT (v := (.bool true)) (congrArg Value.bool c_7) rfl) (qM (.bool true) rfl rfl ?_)
   refine WL.skip rfl rfl rfl ?_
   refine WL.skip rfl rfl rfl ?_
   refine WL.skip rfl rfl rfl ?_
   refine qV rfl (R.pickT (v := (.bool true)) rfl rfl) ?_
   refine WL.nil (thn_n ?_)
   refine WP.condT rfl ?_
   refine WP.seq (WP.reg ?_)
   refine qA (.bool false) rfl rfl ?_
   refine WL.nil (thn_n (WP.ret (thn_r ?_)))
   refine ret_of results20 (RV.tmp (v := (.bool false)) rfl RV.nil) ?_
   exact ⟨rfl, h_3.chgS⟩
  ·have p_9 := of_decide_eq_false c_7
   refine WL.want rfl (congrArg Value.bool c_7) ?_
   refine qV rfl (R.fieldAddr (off' := 33) rfl underlying39 rfl sizeOf36 rfl rfl) ?_
   refine WL.want rfl (congrArg Value.bool c_7) ?_
   refine qV rfl (R.load1 rfl isAgg36 (h_3.ok _ M0) (Sg.t rfl (Sg.t rfl Sg.h))) ?_
   refine WL.want rfl (congrArg Value.bool c_7) ?_
   refine qV rfl (R.bin rfl rfl (bi_lss (r := decide ((dm : Int) < 1)) rfl)) (qV rfl (R.pickF (v := (.bool (decide ((dm : Int) < 1)))) (congrArg Value.bool c_7) rfl) (qM (.bool (decide ((dm : Int) < 1))) rfl rfl ?_))
   rcases Bool.eq_false_or_eq_true (decide ((dm : Int) < 1)) with c_10 | c_10
   ·have p_11 := of_decide_eq_true c_10
    refine WL.skip rfl (congrArg Value.bool c_10) rfl ?_
    refine WL.skip rfl (congrArg Value.bool c_10) rfl ?_
    refine WL.skip rfl (congrArg Value.bool c_10) rfl ?_
    refine qV rfl (R.pickT (v := (.bool true)) (congrArg Value.bool c_10) rfl) ?_
    refine WL.nil (thn_n ?_)
    refine WP.condT rfl ?_
    refine WP.seq (WP.reg ?_)
    refine qA (.bool false) rfl rfl ?_
    refine WL.nil (thn_n (WP.ret (thn_r ?_)))
    refine ret_of results20 (RV.tmp (v := (.bool false)) rfl RV.nil) ?_
    exact ⟨rfl, h_3.chgS⟩
   ·have p_12 := of_decide_eq_false c_10
    refine WL.want rfl (congrArg Value.bool c_10) ?_
    refine qV rfl (R.fieldAddr (off' := 33) rfl underlying39 rfl sizeOf36 rfl rfl) ?_
    refine WL.want rfl (congrArg Value.bool c_10) ?_
    refine qV rfl (R.load1 rfl isAgg36 (h_3.ok _ M0) (Sg.t rfl (Sg.t rfl Sg.h))) ?_
    refine WL.want rfl (congrArg Value.bool c_10) ?_
    refine qV rfl (R.bin rfl rfl (bi_gtr (r := decide ((dm : Int) > 16)) rfl)) (qV rfl (R.pickF (v := (.bool (decide ((dm : Int) > 16)))) (congrArg Value.bool c_10) rfl) ?_)
    refine WL.nil (thn_n ?_)
    refine WP.cond (b := decide ((dm : Int) > 16)) rfl (fun c_13 => ?_) (fun c_13 => ?_)
    ·have p_14 := of_decide_eq_true c_13
     refine WP.seq (WP.reg ?_)
     refine qA (.bool false) rfl rfl ?_
     refine WL.nil (thn_n (WP.ret (thn_r ?_)))
     refine ret_of results20 (RV.tmp (v := (.bool false)) rfl RV.nil) ?_
     exact ⟨rfl, h_3.chgS⟩
    ·have p_15 := of_decide_eq_false c_13
     refine WP.skip (thn_n (WP.seq (WP.reg ?_)))
     refine qV rfl (R.fieldAddr (off' := 0) rfl underlying39 rfl sizeOf35 rfl rfl) (qV rfl (R.load1 rfl isAgg35 (h_3.ok _ M0) Sg.h) (qV rfl (R.bin rfl rfl (bi_neq (r := decide ((kd : Int) ≠ 1)) rfl)) (qM (.bool (decide ((kd : Int) ≠ 1))) rfl rfl ?_)))
     rcases Bool.eq_false_or_eq_true (decide ((kd : Int) ≠ 1)) with c_16 | c_16
     ·have p_17 := of_decide_eq_true c_16
      refine WL.skip rfl (congrArg Value.bool c_16) rfl ?_
      refine WL.skip rfl (congrArg Value.bool c_16) rfl ?_
      refine WL.skip rfl (congrArg Value.bool c_16) rfl ?_
      refine WL.skip rfl (congrArg Value.bool c_16) rfl ?_
      refine qV rfl (R.pickT (v := (.bool true)) (congrArg Value.bool c_16) rfl) (qA (.bool true) rfl rfl ?_)
      refine WL.nil (thn_n (WP.ret ?_))
      refine ret_of results20 (RV.tmp (v := (.bool true)) rfl RV.nil) ?_
      exact absurd (mayB_i (kd := kd) (dm := dm) (key := key) ⟨by omega, by omega⟩ ⟨by omega, by omega⟩ (fun e => absurd e (by omega))) (by rw [hm]; decide)
     ·have p_18 := of_decide_eq_false c_16
      refine WL.want rfl (congrArg Value.bool c_16) ?_
      refine qV rfl (R.fieldAddr (off' := 1) rfl underlying39 rfl sizeOf29 rfl rfl) ?_
      refine WL.want rfl (congrArg Value.bool c_16) ?_
      refine qV rfl (R.loadA [(1, [(vi kd)])] [(32, key.map vu8)] [(1, [(vi dm)]), (1, [(.slice qa qn qc)])] (cs := key.map vu8) rfl isAgg29 sizeOf29 (h_3.ok _ M0) rfl rfl rfl rfl) ?_
      refine WL.want rfl (congrArg Value.bool c_16) ?_
      refine qV rfl (R.buildA (vs := []) (cs := (zB 32).map vu8) underlying29 sizeOf5 (zv typeInfo29 rfl) rfl rfl) ?_
      refine WL.want rfl (congrArg Value.bool c_16) ?_
      refine qV rfl (R.eqA (xs := key.map vu8) (ys := (zB 32).map vu8) (r := decide (key = List.replicate 32 (0 : UInt8))) rfl rfl eqGuardType29 kt29 (by decide) ag29 (Typ.u8s underlying29 ce29 underlying5 ce5 hk) (Typ.u8s underlying29 ce29 underlying5 ce5 lr) (map_inj_u8.trans (decT _))) (qV rfl (R.pickF (v := (.bool (decide (key = List.replicate 32 (0 : UInt8))))) (congrArg Value.bool c_16) rfl) (qA (.bool (decide (key = List.replicate 32 (0 : UInt8)))) rfl rfl ?_))
      refine WL.nil (thn_n (WP.ret ?_))
      refine ret_of results20 (RV.tmp (v := (.bool (decide (key = List.replicate 32 (0 : UInt8))))) rfl RV.nil) ?_
      exact ⟨congrArg Value.bool (decide_eq_false fun e => absurd (mayB_i (kd := kd) (dm := dm) (key := key) ⟨by omega, by omega⟩ ⟨by omega, by omega⟩ (fun _ => e)) (by rw [hm]; decide)), h_3.chgS⟩

theorem c_oMayT (kd dm : Int) (key : List UInt8) (qa : Option Addr) (qn qc : Nat) (hk : key.length = 32) (h1 : 1 ≤ kd ∧ kd ≤ 4) (h2 : 1 ≤ dm ∧ dm ≤ 16) (hz : kd = 1 → key = List.replicate 32 0) (w : World) :
  Cs Tryz.prog 28 [(.agg ⟨flat [(1, [(vi kd)]), (32, key.map vu8), (1, [(vi dm)]), (1, [(.slice qa qn qc)])]⟩)].toArray w (fun v w1 => v = (.bool true) ∧ Chg w w1 []) := by
 refine Cs.of (n := 32) (args := [(.agg ⟨flat [(1, [(vi kd)]), (32, key.map vu8), (1, [(vi dm)]), (1, [(.slice qa qn qc)])]⟩)]) Tryz.func28 rfl rfl rfl ?_
 have h_0 := HP.init w
 refine WP.seq (WP.reg ?_)
 refine WL.box (segs := [(1, [(vi kd)]), (32, key.map vu8), (1, [(vi dm)]), (1, [(.slice qa qn qc)])]) h_0 rfl rfl (sC sV (sC (s8 hk) (sC sV (sC sV sN)))) rfl (fun b_1 w_2 h_3 => ?_)
 refine qA (.bool false) rfl rfl ?_
 refine WL.nil (thn_n (WP.seq (WP.reg ?_)))
 refine qV rfl (R.fieldAddr (off' := 0) rfl underlying39 rfl sizeOf35 rfl rfl) (qV rfl (R.load1 rfl isAgg35 (h_3.ok _ M0) Sg.h) (qV rfl (R.bin rfl rfl (bi_geq (r := decide ((kd : Int) ≥ 1)) rfl)) (qM (.bool (decide ((kd : Int) ≥ 1))) rfl rfl ?_)))
 refine WL.want rfl (congrArg Value.bool (decide_eq_true (by omega))) ?_
 refine qV rfl (R.fieldAddr (off' := 0) rfl underlying39 rfl sizeOf35 rfl rfl) ?_
 refine WL.want rfl (congrArg Value.bool (decide_eq_true (by omega))) ?_
 refine qV rfl (R.load1 rfl isAgg35 (h_3.ok _ M0) Sg.h) ?_
 refine WL.want rfl (congrArg Value.bool (decide_eq_true (by omega))) ?_
 refine qV rfl (R.bin rfl rfl (bi_leq (r := decide ((kd : Int) ≤ 4)) rfl)) (qV rfl (R.pickT (v := (.bool (decide ((kd : Int) ≤ 4)))) (congrArg Value.bool (decide_eq_true (by omega))) rfl) (qM (.bool (decide ((kd : Int) ≤ 4))) rfl rfl ?_))
 refine WL.want rfl (congrArg Value.bool (decide_eq_true (by omega))) ?_
 refine qV rfl (R.fieldAddr (off' := 33) rfl underlying39 rfl sizeOf36 rfl rfl) ?_
 refine WL.want rfl (congrArg Value.bool (decide_eq_true (by omega))) ?_
 refine qV rfl (R.load1 rfl isAgg36 (h_3.ok _ M0) (Sg.t rfl (Sg.t rfl Sg.h))) ?_
 refine WL.want rfl (congrArg Value.bool (decide_eq_true (by omega))) ?_
 refine qV rfl (R.bin rfl rfl (bi_geq (r := decide ((dm : Int) ≥ 1)) rfl)) (qV rfl (R.pickT (v := (.bool (decide ((dm : Int) ≥ 1)))) (congrArg Value.bool (decide_eq_true (by omega))) rfl) (qM (.bool (decide ((dm : Int) ≥ 1))) rfl rfl ?_))
 refine WL.want rfl (congrArg Value.bool (decide_eq_true (by omega))) ?_
 refine qV rfl (R.fieldAddr (off' := 33) rfl underlying39 rfl sizeOf36 rfl rfl) ?_
 refine WL.want rfl (congrArg Value.bool (decide_eq_true (by omega))) ?_
 refine qV rfl (R.load1 rfl isAgg36 (h_3.ok _ M0) (Sg.t rfl (Sg.t rfl Sg.h))) ?_
 refine WL.want rfl (congrArg Value.bool (decide_eq_true (by omega))) ?_
 refine qV rfl (R.bin rfl rfl (bi_leq (r := decide ((dm : Int) ≤ 16)) rfl)) (qV rfl (R.pickT (v := (.bool (decide ((dm : Int) ≤ 16)))) (congrArg Value.bool (decide_eq_true (by omega))) rfl) (qM (.bool (decide ((dm : Int) ≤ 16))) rfl rfl ?_))
 refine WL.want rfl (congrArg Value.bool (decide_eq_true (by omega))) ?_
 refine qV rfl (R.fieldAddr (off' := 0) rfl underlying39 rfl sizeOf35 rfl rfl) ?_
 refine WL.want rfl (congrArg Value.bool (decide_eq_true (by omega))) ?_
 refine qV rfl (R.load1 rfl isAgg35 (h_3.ok _ M0) Sg.h) ?_
 refine WL.want rfl (congrArg Value.bool (decide_eq_true (by omega))) ?_
 refine qV rfl (R.bin rfl rfl (bi_neq (r := decide ((kd : Int) ≠ 1)) rfl)) ?_
 refine WL.want rfl (congrArg Value.bool (decide_eq_true (by omega))) ?_
 refine qM (.bool (decide ((kd : Int) ≠ 1))) rfl rfl ?_
 rcases Bool.eq_false_or_eq_true (decide ((kd : Int) ≠ 1)) with c_4 | c_4
 ·have p_5 := of_decide_eq_true c_4
  refine WL.skip rfl (congrArg Value.bool c_4) rfl ?_
  refine WL.skip rfl (congrArg Value.bool c_4) rfl ?_
  refine WL.skip rfl (congrArg Value.bool c_4) rfl ?_
  refine WL.skip rfl (congrArg Value.bool c_4) rfl ?_
  refine WL.want rfl (congrArg Value.bool (decide_eq_true (by omega))) ?_
  refine qV rfl (R.pickT (v := (.bool true)) (congrArg Value.bool c_4) rfl) (qV rfl (R.pickT (v := (.bool true)) (congrArg Value.bool (decide_eq_true (by omega))) rfl) (qA (.bool true) rfl rfl ?_))
  refine WL.nil (thn_n (WP.ret ?_))
  refine ret_of results28 (RV.tmp (v := (.bool true)) rfl RV.nil) ?_
  exact ⟨rfl, h_3.chgS⟩
 ·have p_6 := of_decide_eq_false c_4
  refine WL.want rfl (congrArg Value.bool c_4) ?_
  refine qV rfl (R.fieldAddr (off' := 1) rfl underlying39 rfl sizeOf29 rfl rfl) ?_
  refine WL.want rfl (congrArg Value.bool c_4) ?_
  refine qV rfl (R.loadA [(1, [(vi kd)])] [(32, key.map vu8)] [(1, [(vi dm)]), (1, [(.slice qa qn qc)])] (cs := key.map vu8) rfl isAgg29 sizeOf29 (h_3.ok _ M0) rfl rfl rfl rfl) ?_
  refine WL.want rfl (congrArg Value.bool c_4) ?_
  refine qV rfl (R.buildA (vs := []) (cs := (zB 32).map vu8) underlying29 sizeOf5 (zv typeInfo29 rfl) rfl rfl) ?_
  refine WL.want rfl (congrArg Value.bool c_4) ?_
  refine qV rfl (R.eqA (xs := key.map vu8) (ys := (zB 32).map vu8) (r := true) rfl rfl eqGuardType29 kt29 (by decide) ag29 (Typ.u8s underlying29 ce29 underlying5 ce5 hk) (Typ.u8s underlying29 ce29 underlying5 ce5 lr) (eqT (by rw [hz (by omega)]))) ?_
  refine WL.want rfl (congrArg Value.bool (decide_eq_true (by omega))) ?_
  refine qV rfl (R.pickF (v := (.bool true)) (congrArg Value.bool c_4) rfl) (qV rfl (R.pickT (v := (.bool true)) (congrArg Value.bool (decide_eq_true (by omega))) rfl) (qA (.bool true) rfl rfl ?_))
  refine WL.nil (thn_n (WP.ret ?_))
  refine ret_of results28 (RV.tmp (v := (.bool true)) rfl RV.nil) ?_
  exact ⟨rfl, h_3.chgS⟩

theorem c_oMayF (kd dm : Int) (key : List UInt8) (qa : Option Addr) (qn qc : Nat) (hk : key.length = 32) (hm : mayB kd dm key = false) (w : World) :
  Cs Tryz.prog 28 [(.agg ⟨flat [(1, [(vi kd)]), (32, key.map vu8), (1, [(vi dm)]), (1, [(.slice qa qn qc)])]⟩)].toArray w (fun v w1 => v = (.bool false) ∧ Chg w w1 []) := by
 refine Cs.of (n := 32) (args := [(.agg ⟨flat [(1, [(vi kd)]), (32, key.map vu8), (1, [(vi dm)]), (1, [(.slice qa qn qc)])]⟩)]) Tryz.func28 rfl rfl rfl ?_
 have h_0 := HP.init w
 refine WP.seq (WP.reg ?_)
 refine WL.box (segs := [(1, [(vi kd)]), (32, key.map vu8), (1, [(vi dm)]), (1, [(.slice qa qn qc)])]) h_0 rfl rfl (sC sV (sC (s8 hk) (sC sV (sC sV sN)))) rfl (fun b_1 w_2 h_3 => ?_)
 refine qA (.bool false) rfl rfl ?_
 refine WL.nil (thn_n (WP.seq (WP.reg ?_)))
 refine qV rfl (R.fieldAddr (off' := 0) rfl underlying39 rfl sizeOf35 rfl rfl) (qV rfl (R.load1 rfl isAgg35 (h_3.ok _ M0) Sg.h) (qV rfl (R.bin rfl rfl (bi_geq (r := decide ((kd : Int) ≥ 1)) rfl)) (qM (.bool (decide ((kd : Int) ≥ 1))) rfl rfl ?_)))
 rcases Bool.eq_false_or_eq_true (decide ((kd : Int) ≥ 1)) with c_4 | c_4
 ·have p_5 := of_decide_eq_true c_4
  refine WL.want rfl (congrArg Value.bool c_4) ?_
  refine qV rfl (R.fieldAddr (off' := 0) rfl underlying39 rfl sizeOf35 rfl rfl) ?_
  refine WL.want rfl (congrArg Value.bool c_4) ?_
  refine qV rfl (R.load1 rfl isAgg35 (h_3.ok _ M0) Sg.h) ?_
  refine WL.want rfl (congrArg Value.bool c_4) ?_
  refine qV rfl (R.bin rfl rfl (bi_leq (r := decide ((kd : Int) ≤ 4)) rfl)) (qV rfl (R.pickT (v := (.bool (decide ((kd : Int) ≤ 4)))) (congrArg Value.bool c_4) rfl) (qM (.bool (decide ((kd : Int) ≤ 4))) rfl rfl ?_))
  rcases Bool.eq_false_or_eq_true (decide ((kd : Int) ≤ 4)) with c_6 | c_6
  ·have p_7 := of_decide_eq_true c_6
   refine WL.want rfl (congrArg Value.bool c_6) ?_
   refine qV rfl (R.fieldAddr (off' := 33) rfl underlying39 rfl sizeOf36 rfl rfl) ?_
   refine WL.want rfl (congrArg Value.bool c_6) ?_
   refine qV rfl (R.load1 rfl isAgg36 (h_3.ok _ M0) (Sg.t rfl (Sg.t rfl Sg.h))) ?_
   refine WL.want rfl (congrArg Value.bool c_6) ?_
   refine qV rfl (R.bin rfl rfl (bi_geq (r := decide ((dm : Int) ≥ 1)) rfl)) (qV rfl (R.pickT (v := (.bool (decide ((dm : Int) ≥ 1)))) (congrArg Value.bool c_6) rfl) (qM (.bool (decide ((dm : Int) ≥ 1))) rfl rfl ?_))
   rcases Bool.eq_false_or_eq_true (decide ((dm : Int) ≥ 1)) with c_8 | c_8
   ·have p_9 := of_decide_eq_true c_8
    refine WL.want rfl (congrArg Value.bool c_8) ?_
    refine qV rfl (R.fieldAddr (off' := 33) rfl underlying39 rfl sizeOf36 rfl rfl) ?_
    refine WL.want rfl (congrArg Value.bool c_8) ?_
    refine qV rfl (R.load1 rfl isAgg36 (h_3.ok _ M0) (Sg.t rfl (Sg.t rfl Sg.h))) ?_
    refine WL.want rfl (congrArg Value.bool c_8) ?_
    refine qV rfl (R.bin rfl rfl (bi_leq (r := decide ((dm : Int) ≤ 16)) rfl)) (qV rfl (R.pickT (v := (.bool (decide ((dm : Int) ≤ 16)))) (congrArg Value.bool c_8) rfl) (qM (.bool (decide ((dm : Int) ≤ 16))) rfl rfl ?_))
    rcases Bool.eq_false_or_eq_true (decide ((dm : Int) ≤ 16)) with c_10 | c_10
    ·have p_11 := of_decide_eq_true c_10
     refine WL.want rfl (congrArg Value.bool c_10) ?_
     refine qV rfl (R.fieldAddr (off' := 0) rfl underlying39 rfl sizeOf35 rfl rfl) ?_
     refine WL.want rfl (congrArg Value.bool c_10) ?_
     refine qV rfl (R.load1 rfl isAgg35 (h_3.ok _ M0) Sg.h) ?_
     refine WL.want rfl (congrArg Value.bool c_10) ?_
     refine qV rfl (R.bin rfl rfl (bi_neq (r := decide ((kd : Int) ≠ 1)) rfl)) ?_
     refine WL.want rfl (congrArg Value.bool c_10) ?_
     refine qM (.bool (decide ((kd : Int) ≠ 1))) rfl rfl ?_
     rcases Bool.eq_false_or_eq_true (decide ((kd : Int) ≠ 1)) with c_12 | c_12
     ·have p_13 := of_decide_eq_true c_12
      refine WL.skip rfl (congrArg Value.bool c_12) rfl ?_
      refine WL.skip rfl (congrArg Value.bool c_12) rfl ?_
      refine WL.skip rfl (congrArg Value.bool c_12) rfl ?_
      refine WL.skip rfl (congrArg Value.bool c_12) rfl ?_
      refine WL.want rfl (congrArg Value.bool c_10) ?_
      refine qV rfl (R.pickT (v := (.bool true)) (congrArg Value.bool c_12) rfl) (qV rfl (R.pickT (v := (.bool true)) (congrArg Value.bool c_10) rfl) (qA (.bool true) rfl rfl ?_))
      refine WL.nil (thn_n (WP.ret ?_))
      refine ret_of results28 (RV.tmp (v := (.bool true)) rfl RV.nil) ?_
      exact absurd (mayB_i (kd := kd) (dm := dm) (key := key) ⟨by omega, by omega⟩ ⟨by omega, by omega⟩ (fun e => absurd e (by omega))) (by rw [hm]; decide)
     ·have p_14 := of_decide_eq_false c_12
      refine WL.want rfl (congrArg Value.bool c_12) ?_
      refine qV rfl (R.fieldAddr (off' := 1) rfl underlying39 rfl sizeOf29 rfl rfl) ?_
      refine WL.want rfl (congrArg Value.bool c_12) ?_
      refine qV rfl (R.loadA [(1, [(vi kd)])] [(32, key.map vu8)] [(1, [(vi dm)]), (1, [(.slice qa qn qc)])] (cs := key.map vu8) rfl isAgg29 sizeOf29 (h_3.ok _ M0) rfl rfl rfl rfl) ?_
      refine WL.want rfl (congrArg Value.bool c_12) ?_
      refine qV rfl (R.buildA (vs := []) (cs := (zB 32).map vu8) underlying29 sizeOf5 (zv typeInfo29 rfl) rfl rfl) ?_
      refine WL.want rfl (congrArg Value.bool c_12) ?_
      refine qV rfl (R.eqA (xs := key.map vu8) (ys := (zB 32).map vu8) (r := decide (key = List.replicate 32 (0 : UInt8))) rfl rfl eqGuardType29 kt29 (by decide) ag29 (Typ.u8s underlying29 ce29 underlying5 ce5 hk) (Typ.u8s underlying29 ce29 underlying5 ce5 lr) (map_inj_u8.trans (decT _))) ?_
      refine WL.want rfl (congrArg Value.bool c_10) ?_
      refine qV rfl (R.pickF (v := (.bool (decide (key = List.replicate 32 (0 : UInt8))))) (congrArg Value.bool c_12) rfl) (qV rfl (R.pickT (v := (.bool (decide (key = List.replicate 32 (0 : UInt8))))) (congrArg Value.bool c_10) rfl) (qA (.bool (decide (key = List.replicate 32 (0 : UInt8)))) rfl rfl ?_))
      refine WL.nil (thn_n (WP.ret ?_))
      refine ret_of results28 (RV.tmp (v := (.bool (decide (key = List.replicate 32 (0 : UInt8))))) rfl RV.nil) ?_
      exact ⟨congrArg Value.bool (decide_eq_false fun e => absurd (mayB_i (kd := kd) (dm := dm) (key := key) ⟨by omega, by omega⟩ ⟨by omega, by omega⟩ (fun _ => e)) (by rw [hm]; decide)), h_3.chgS⟩
    ·have p_15 := of_decide_eq_false c_10
     refine WL.skip rfl (congrArg Value.bool c_10) rfl ?_
     refine WL.skip rfl (congrArg Value.bool c_10) rfl ?_
     refine WL.skip rfl (congrArg Value.bool c_10) rfl ?_
     refine WL.skip rfl (congrArg Value.bool c_10) rfl ?_
     refine WL.skipU rfl rfl rfl ?_
     refine WL.skipU rfl rfl rfl ?_
     refine WL.skipU rfl rfl rfl ?_
     refine WL.skipU rfl rfl rfl ?_
     refine WL.skip rfl (congrArg Value.bool c_10) rfl ?_
     refine qV rfl (R.pickF (v := (.bool false)) (congrArg Value.bool c_10) rfl) (qA (.bool false) rfl rfl ?_)
     refine WL.nil (thn_n (WP.ret ?_))
     refine ret_of results28 (RV.tmp (v := (.bool false)) rfl RV.nil) ?_
     exact ⟨rfl, h_3.chgS⟩
   ·have p_16 := of_decide_eq_false c_8
    refine WL.skip rfl (congrArg Value.bool c_8) rfl ?_
    refine WL.skip rfl (congrArg Value.bool c_8) rfl ?_
    refine WL.skip rfl (congrArg Value.bool c_8) rfl ?_
    refine qV rfl (R.pickF (v := (.bool false)) (congrArg Value.bool c_8) rfl) (qM (.bool false) rfl rfl ?_)
    refine WL.skip rfl rfl rfl ?_
    refine WL.skip rfl rfl rfl ?_
    refine WL.skip rfl rfl rfl ?_
    refine WL.skip rfl rfl rfl ?_
    refine WL.skipU rfl rfl rfl ?_
    refine WL.skipU rfl rfl rfl ?_
    refine WL.skipU rfl rfl rfl ?_
    refine WL.skipU rfl rfl rfl ?_
    refine WL.skip rfl rfl rfl ?_
    refine qV rfl (R.pickF (v := (.bool false)) rfl rfl) (qA (.bool false) rfl rfl ?_)
    refine WL.nil (thn_n (WP.ret ?_))
    refine ret_of results28 (RV.tmp (v := (.bool false)) rfl RV.nil) ?_
    exact ⟨rfl, h_3.chgS⟩
  ·have p_17 := of_decide_eq_false c_6
   refine WL.skip rfl (congrArg Value.bool c_6) rfl ?_
   refine WL.skip rfl (congrArg Value.bool c_6) rfl ?_
   refine WL.skip rfl (congrArg Value.bool c_6) rfl ?_
   refine qV rfl (R.pickF (v := (.bool false)) (congrArg Value.bool c_6) rfl) (qM (.bool false) rfl rfl ?_)
   refine WL.skip rfl rfl rfl ?_
   refine WL.skip rfl rfl rfl ?_
   refine WL.skip rfl rfl rfl ?_
   refine qV rfl (R.pickF (v := (.bool false)) rfl rfl) (qM (.bool false) rfl rfl ?_)
   refine WL.skip rfl rfl rfl ?_
   refine WL.skip rfl rfl rfl ?_
   refine WL.skip rfl rfl rfl ?_
   refine WL.skip rfl rfl rfl ?_
   refine WL.skipU rfl rfl rfl ?_
   refine WL.skipU rfl rfl rfl ?_
   refine WL.skipU rfl rfl rfl ?_
   refine WL.skipU rfl rfl rfl ?_
   refine WL.skip rfl rfl rfl ?_
   refine qV rfl (R.pickF (v := (.bool false)) rfl rfl) (qA (.bool false) rfl rfl ?_)
   refine WL.nil (thn_n (WP.ret ?_))
   refine ret_of results28 (RV.tmp (v := (.bool false)) rfl RV.nil) ?_
   exact ⟨rfl, h_3.chgS⟩
 ·have p_18 := of_decide_eq_false c_4
  refine WL.skip rfl (congrArg Value.bool c_4) rfl ?_
  refine WL.skip rfl (congrArg Value.bool c_4) rfl ?_
  refine WL.skip rfl (congrArg Value.bool c_4) rfl ?_
  refine qV rfl (R.pickF (v := (.bool false)) (congrArg Value.bool c_4) rfl) (qM (.bool false) rfl rfl ?_)
  refine WL.skip rfl rfl rfl ?_
  refine WL.skip rfl rfl rfl ?_
  refine WL.skip rfl rfl rfl ?_
  refine qV rfl (R.pickF (v := (.bool false)) rfl rfl) (qM (.bool false) rfl rfl ?_)
  refine WL.skip rfl rfl rfl ?_
  refine WL.skip rfl rfl rfl ?_
  refine WL.skip rfl rfl rfl ?_
  refine qV rfl (R.pickF (v := (.bool false)) rfl rfl) (qM (.bool false) rfl rfl ?_)
  refine WL.skip rfl rfl rfl ?_
  refine WL.skip rfl rfl rfl ?_
  refine WL.skip rfl rfl rfl ?_
  refine WL.skip rfl rfl rfl ?_
  refine WL.skipU rfl rfl rfl ?_
  refine WL.skipU rfl rfl rfl ?_
  refine WL.skipU rfl rfl rfl ?_
  refine WL.skipU rfl rfl rfl ?_
  refine WL.skip rfl rfl rfl ?_
  refine qV rfl (R.pickF (v := (.bool false)) rfl rfl) (qA (.bool false) rfl rfl ?_)
  refine WL.nil (thn_n (WP.ret ?_))
  refine ret_of results28 (RV.tmp (v := (.bool false)) rfl RV.nil) ?_
  exact ⟨rfl, h_3.chgS⟩

theorem c_oAskI {w00 : World} {L : List Ent} (ob mp : Nat) (ms df : List UInt8) (hms : ms.length = 32) (da : Option Addr) (dn dc u : Nat) (hdf : df.length = 32 * dn) (la : Option Addr) (lc : Nat) (lx : List Value) (lg : Lg) (hu : u ≤ 1000000) (hlg : lg.length ≤ 1000000) (kd dm : Int) (key data : List UInt8) (qa : Option Addr) (qn qc : Nat) (hq : okQ (kd, key, dm, data)) (hdl : data.length = qn) (hk4 : ¬ kd = 4) (hz : kd = 1 → key = List.replicate 32 0) (w : World) (h_0 : HP w00 w (Ent.blk ob .nw 66 [(1, [(.bool true)]), (32, ms.map vu8), (1, [(.slice da dn dc)]), (1, [(vi ((u : Nat) : Int))]), (1, [(.map (some mp))]), (1, [(.slice la lg.length lc)])] :: Ent.row la lg.length lc 47 67 lx :: Ent.obj mp .nw (.map (mArr lg) lg.length) :: Ent.pin (sblks lx) (fun w => Lgs w lx lg) :: Ent.view da (df.map vu8) :: Ent.view qa (data.map vu8) :: L)) :
  Cs Tryz.prog 13 [(.pointer (some ⟨ob, 0, none⟩)), (.agg ⟨flat [(1, [(vi kd)]), (32, key.map vu8), (1, [(vi dm)]), (1, [(.slice qa qn qc)])]⟩)].toArray w (fun v w1 => ∃ la' lc' lx', v = (.tuple [(.agg ⟨(anD true df dn u lg (kd, key, dm, data)).map vu8⟩), (vi 0)].toArray) ∧ HP w00 w1 (Ent.blk ob .nw 66 [(1, [(.bool true)]), (32, ms.map vu8), (1, [(.slice da dn dc)]), (1, [(vi (((anU true u lg (kd, key, dm, data)) : Nat) : Int))]), (1, [(.map (some mp))]), (1, [(.slice la' ((anL true df dn u lg (kd, key, dm, data)).length) lc')])] :: Ent.row la' ((anL true df dn u lg (kd, key, dm, data)).length) lc' 47 67 lx' :: Ent.obj mp .nw (.map (mArr (anL true df dn u lg (kd, key, dm, data))) ((anL true df dn u lg (kd, key, dm, data)).length)) :: Ent.pin (sblks lx') (fun w => Lgs w lx' (anL true df dn u lg (kd, key, dm, data))) :: Ent.view da (df.map vu8) :: Ent.view qa (data.map vu8) :: L)) := by
 refine Cs.of (n := 25) (args := [(pO ob 0), (.agg ⟨flat [(1, [(vi kd)]), (32, key.map vu8), (1, [(vi dm)]), (1, [(.slice qa qn qc)])]⟩)]) Tryz.func13 rfl rfl rfl ?_
 refine WP.seq (WP.reg ?_)
 refine WL.box (segs := [(1, [(vi kd)]), (32, key.map vu8), (1, [(vi dm)]), (1, [(.slice qa qn qc)])]) h_0 rfl rfl (sC sV (sC (s8 hq.1) (sC sV (sC sV sN)))) rfl (fun b_1 w_2 h_3 => ?_)
 refine WL.alloc (segs := [(32, (zB 32).map vu8)]) h_3 (zv typeInfo29 rfl) rfl (sC (s8 lr) sN) rfl (fun b_4 w_5 h_6 => ?_)
 refine qA (vi 0) rfl rfl ?_
 refine WL.nil (thn_n (WP.seq (WP.block (WP.seq (WP.reg ?_)))))
 refine qM (pO ob 0) rfl rfl ?_
 refine WL.call Tryz.call25 rfl rfl (c_othere true ob mp ms hms da dn dc u la lg.length lc _ (h_6.argR M2)) rfl ?_
 rintro _ w_8 ⟨rfl, hc_7⟩
 have h_9 := h_6.same hc_7
 refine qV rfl (R.not (b := true) rfl) (qA (.bool false) rfl rfl ?_)
 refine WL.nil (thn_n ?_)
 refine WP.condF rfl ?_
 refine WP.seq (WP.reg ?_)
 refine qV rfl (R.loadA [] [(1, [(vi kd)]), (32, key.map vu8), (1, [(vi dm)]), (1, [(.slice qa qn qc)])] [] rfl isAgg39 sizeOf39 (h_9.ok _ M1) rfl rfl rfl rfl) ?_
 refine WL.call Tryz.call28 rfl rfl (c_oMayT kd dm key qa qn qc hq.1 (hq.2.1) (hq.2.2.1) hz _ ) rfl ?_
 rintro _ w_11 ⟨rfl, hc_10⟩
 have h_12 := h_9.same hc_10
 refine qV rfl (R.not (b := true) rfl) (qM (.bool false) rfl rfl ?_)
 refine WL.want rfl rfl ?_
 refine qV rfl (R.fieldAddr (off' := 0) rfl underlying39 rfl sizeOf35 rfl rfl) ?_
 refine WL.want rfl rfl ?_
 refine qV rfl (R.load1 rfl isAgg35 (h_12.ok _ M1) Sg.h) ?_
 refine WL.want rfl rfl ?_
 refine qV rfl (R.bin rfl rfl (bi_eql (r := decide ((kd : Int) = 4)) rfl)) (qV rfl (R.pickF (v := (.bool (decide ((kd : Int) = 4)))) rfl rfl) (qA (.bool (decide ((kd : Int) = 4))) rfl rfl ?_))
 refine WL.nil (thn_n ?_)
 refine WP.condF (congrArg Value.bool (decide_eq_false hk4)) ?_
 refine WP.skip (inb_n (thn_n (WP.seq (WP.reg ?_))))
 refine qM (pO ob 0) rfl rfl (qV rfl (R.loadA [] [(1, [(vi kd)]), (32, key.map vu8), (1, [(vi dm)]), (1, [(.slice qa qn qc)])] [] rfl isAgg39 sizeOf39 (h_12.ok _ M1) rfl rfl rfl rfl) (qV rfl (R.makeFuncL (fi := []) (ca := [(pO b_1 0)]) rfl rfl) ?_))
 have h_18 := (((((h_12.up J7).up J7).up J7).up J7).up J7).up J7
 have h32_w_22 := (Lgs.ok32 (h_18.ok _ M3).1)
 refine WL.call Tryz.call29 rfl rfl (c_ans ob mp ms df hms da dn dc u hdf la lc lx lg (by first | decide | omega) (by first | decide | omega) kd dm key data qa qn qc hq hdl (Value.func (Fn.func 30) [].toArray [(Value.pointer (some ⟨b_1, 0, none⟩))].toArray) _ h_18) rfl ?_
 rintro _ w_22 ⟨la_19, lc_20, lx_21, rfl, h_23⟩
 refine WL.storeA [] [(32, (zB 32).map vu8)] [(32, (anD true df dn u lg (kd, key, dm, data)).map vu8)] [] h_23 rfl rfl sizeOf29 Y6 (by decide) rfl rfl rfl rfl rfl rfl (sC (s8 (anD_len hdf h32_w_22)) sN) (fun w_24 h_25 => ?_)
 refine qA (vi 0) rfl rfl ?_
 refine WL.nil (thn_n (WP.ret ?_))
 refine ret_of results13 (RV.cell rfl (h_25.loadA (cs := (anD true df dn u lg (kd, key, dm, data)).map vu8) isAgg29 sizeOf29 M6 rfl rfl) (RV.tmp (v := (vi 0)) rfl RV.nil)) ?_
 have h_35 := (((((((((h_25.up J6).drop rfl).up J6).drop rfl).up J5).up J5).up J5).up J5).up J5).up J5
 exact ⟨_, _, _, rfl, h_35⟩

theorem c_oAskN (id : Bool) (ob mp : Nat) (ms : List UInt8) (hms : ms.length = 32) (da : Option Addr) (dn dc u : Nat) (la : Option Addr) (ln lc : Nat) (kd dm : Int) (key : List UInt8) (qa : Option Addr) (qn qc : Nat) (hk : key.length = 32) (hm : mayB kd dm key = false) (w : World) (hcb : (Ent.blk ob .ro 66 [(1, [(.bool id)]), (32, ms.map vu8), (1, [(.slice da dn dc)]), (1, [(vi ((u : Nat) : Int))]), (1, [(.map (some mp))]), (1, [(.slice la ln lc)])]).ok w.heap.size w) :
  Cs Tryz.prog 13 [(.pointer (some ⟨ob, 0, none⟩)), (.agg ⟨flat [(1, [(vi kd)]), (32, key.map vu8), (1, [(vi dm)]), (1, [(.slice qa qn qc)])]⟩)].toArray w (fun v w1 => v = (.tuple [(.agg ⟨(List.replicate 32 (0 : UInt8)).map vu8⟩), (vi 2)].toArray) ∧ Chg w w1 []) := by
 refine Cs.of (n := 25) (args := [(pO ob 0), (.agg ⟨flat [(1, [(vi kd)]), (32, key.map vu8), (1, [(vi dm)]), (1, [(.slice qa qn qc)])]⟩)]) Tryz.func13 rfl rfl rfl ?_
 have h_0 := HP.init w
 have h_00 := h_0.old hcb (fun f hf => by cases hf)
 refine WP.seq (WP.reg ?_)
 refine WL.box (segs := [(1, [(vi kd)]), (32, key.map vu8), (1, [(vi dm)]), (1, [(.slice qa qn qc)])]) h_00 rfl rfl (sC sV (sC (s8 hk) (sC sV (sC sV sN)))) rfl (fun b_1 w_2 h_3 => ?_)
 refine WL.alloc (segs := [(32, (zB 32).map vu8)]) h_3 (zv typeInfo29 rfl) rfl (sC (s8 lr) sN) rfl (fun b_4 w_5 h_6 => ?_)
 refine qA (vi 0) rfl rfl ?_
 refine WL.nil (thn_n (WP.seq (WP.block (WP.seq (WP.reg ?_)))))
 refine qM (pO ob 0) rfl rfl ?_
 refine WL.call Tryz.call25 rfl rfl (c_othere id ob mp ms hms da dn dc u la ln lc _ (h_6.argR M2)) rfl ?_
 rintro _ w_8 ⟨rfl, hc_7⟩
 have h_9 := h_6.same hc_7
 refine qV rfl (R.not (b := true) rfl) (qA (.bool false) rfl rfl ?_)
 refine WL.nil (thn_n ?_)
 refine WP.condF rfl ?_
 refine WP.seq (WP.reg ?_)
 refine qV rfl (R.loadA [] [(1, [(vi kd)]), (32, key.map vu8), (1, [(vi dm)]), (1, [(.slice qa qn qc)])] [] rfl isAgg39 sizeOf39 (h_9.ok _ M1) rfl rfl rfl rfl) ?_
 refine WL.call Tryz.call28 rfl rfl (c_oMayF kd dm key qa qn qc hk hm _ ) rfl ?_
 rintro _ w_11 ⟨rfl, hc_10⟩
 have h_12 := h_9.same hc_10
 refine qV rfl (R.not (b := false) rfl) (qM (.bool true) rfl rfl ?_)
 refine WL.skip rfl rfl rfl ?_
 refine WL.skip rfl rfl rfl ?_
 refine WL.skip rfl rfl rfl ?_
 refine qV rfl (R.pickT (v := (.bool true)) rfl rfl) (qA (.bool true) rfl rfl ?_)
 refine WL.nil (thn_n ?_)
 refine WP.condT rfl ?_
 refine WP.seq (WP.reg ?_)
 refine qV rfl (R.buildA (vs := []) (cs := (zB 32).map vu8) underlying29 sizeOf5 (zv typeInfo29 rfl) rfl rfl) ?_
 refine WL.storeA [] [(32, (zB 32).map vu8)] [(32, (zB 32).map vu8)] [] h_12 rfl rfl sizeOf29 At.h (by decide) rfl rfl rfl rfl rfl rfl (sC (s8 lr) sN) (fun w_13 h_14 => ?_)
 refine qA (vi 2) rfl rfl ?_
 refine WL.nil (thn_n (WP.ret (inb_r (thn_r ?_))))
 refine ret_of results13 (RV.cell rfl (h_14.loadA (cs := (zB 32).map vu8) isAgg29 sizeOf29 M0 rfl rfl) (RV.tmp (v := (vi 2)) rfl RV.nil)) ?_
 exact ⟨rfl, h_14.chgS⟩

theorem c_oAskS (id : Bool) (ob mp : Nat) (ms : List UInt8) (hms : ms.length = 32) (da : Option Addr) (dn dc u : Nat) (la : Option Addr) (ln lc : Nat) (dm : Int) (key : List UInt8) (qa : Option Addr) (qn qc : Nat) (hk : key.length = 32) (h1 : (1 : Int) ≤ 4 ∧ (4 : Int) ≤ 4) (h2 : 1 ≤ dm ∧ dm ≤ 16) (hz : (4 : Int) = 1 → key = List.replicate 32 0) (w : World) (hcb : (Ent.blk ob .ro 66 [(1, [(.bool id)]), (32, ms.map vu8), (1, [(.slice da dn dc)]), (1, [(vi ((u : Nat) : Int))]), (1, [(.map (some mp))]), (1, [(.slice la ln lc)])]).ok w.heap.size w) :
  Cs Tryz.prog 13 [(.pointer (some ⟨ob, 0, none⟩)), (.agg ⟨flat [(1, [(vi 4)]), (32, key.map vu8), (1, [(vi dm)]), (1, [(.slice qa qn qc)])]⟩)].toArray w (fun v w1 => v = (.tuple [(.agg ⟨(List.replicate 32 (0 : UInt8)).map vu8⟩), (vi 2)].toArray) ∧ Chg w w1 []) := by
 refine Cs.of (n := 25) (args := [(pO ob 0), (.agg ⟨flat [(1, [(vi 4)]), (32, key.map vu8), (1, [(vi dm)]), (1, [(.slice qa qn qc)])]⟩)]) Tryz.func13 rfl rfl rfl ?_
 have h_0 := HP.init w
 have h_00 := h_0.old hcb (fun f hf => by cases hf)
 refine WP.seq (WP.reg ?_)
 refine WL.box (segs := [(1, [(vi 4)]), (32, key.map vu8), (1, [(vi dm)]), (1, [(.slice qa qn qc)])]) h_00 rfl rfl (sC sV (sC (s8 hk) (sC sV (sC sV sN)))) rfl (fun b_1 w_2 h_3 => ?_)
 refine WL.alloc (segs := [(32, (zB 32).map vu8)]) h_3 (zv typeInfo29 rfl) rfl (sC (s8 lr) sN) rfl (fun b_4 w_5 h_6 => ?_)
 refine qA (vi 0) rfl rfl ?_
 refine WL.nil (thn_n (WP.seq (WP.block (WP.seq (WP.reg ?_)))))
 refine qM (pO ob 0) rfl rfl ?_
 refine WL.call Tryz.call25 rfl rfl (c_othere id ob mp ms hms da dn dc u la ln lc _ (h_6.argR M2)) rfl ?_
 rintro _ w_8 ⟨rfl, hc_7⟩
 have h_9 := h_6.same hc_7
 refine qV rfl (R.not (b := true) rfl) (qA (.bool false) rfl rfl ?_)
 refine WL.nil (thn_n ?_)
 refine WP.condF rfl ?_
 refine WP.seq (WP.reg ?_)
 refine qV rfl (R.loadA [] [(1, [(vi 4)]), (32, key.map vu8), (1, [(vi dm)]), (1, [(.slice qa qn qc)])] [] rfl isAgg39 sizeOf39 (h_9.ok _ M1) rfl rfl rfl rfl) ?_
 refine WL.call Tryz.call28 rfl rfl (c_oMayT 4 dm key qa qn qc hk h1 h2 hz _ ) rfl ?_
 rintro _ w_11 ⟨rfl, hc_10⟩
 have h_12 := h_9.same hc_10
 refine qV rfl (R.not (b := true) rfl) (qM (.bool false) rfl rfl ?_)
 refine WL.want rfl rfl ?_
 refine qV rfl (R.fieldAddr (off' := 0) rfl underlying39 rfl sizeOf35 rfl rfl) ?_
 refine WL.want rfl rfl ?_
 refine qV rfl (R.load1 rfl isAgg35 (h_12.ok _ M1) Sg.h) ?_
 refine WL.want rfl rfl ?_
 refine qV rfl (R.bin rfl rfl (bi_eql (r := true) (by decide))) (qV rfl (R.pickF (v := (.bool true)) rfl rfl) (qA (.bool true) rfl rfl ?_))
 refine WL.nil (thn_n ?_)
 refine WP.condT rfl ?_
 refine WP.seq (WP.reg ?_)
 refine qV rfl (R.buildA (vs := []) (cs := (zB 32).map vu8) underlying29 sizeOf5 (zv typeInfo29 rfl) rfl rfl) ?_
 refine WL.storeA [] [(32, (zB 32).map vu8)] [(32, (zB 32).map vu8)] [] h_12 rfl rfl sizeOf29 At.h (by decide) rfl rfl rfl rfl rfl rfl (sC (s8 lr) sN) (fun w_13 h_14 => ?_)
 refine qA (vi 2) rfl rfl ?_
 refine WL.nil (thn_n (WP.ret (inb_r (thn_r ?_))))
 refine ret_of results13 (RV.cell rfl (h_14.loadA (cs := (zB 32).map vu8) isAgg29 sizeOf29 M0 rfl rfl) (RV.tmp (v := (vi 2)) rfl RV.nil)) ?_
 exact ⟨rfl, h_14.chgS⟩

theorem c_oDigestI {w00 : World} {L : List Ent} (ob mp : Nat) (ms df : List UInt8) (hms : ms.length = 32) (da : Option Addr) (dn dc u : Nat) (hdf : df.length = 32 * dn) (la : Option Addr) (lc : Nat) (lx : List Value) (lg : Lg) (hu : u ≤ 1000000) (hlg : lg.length ≤ 1000000) (a : Option Addr) (n cap : Nat) (xs : List Value) (ls : List (List UInt8)) (hln : ls.length = n) (dm : Int) (hdm : 1 ≤ dm ∧ dm ≤ 16) (hb : ls.flatten.length ≤ 1000000000) (hnb : n ≤ 1000000) (w : World) (h_0 : HP w00 w (Ent.blk ob .nw 66 [(1, [(.bool true)]), (32, ms.map vu8), (1, [(.slice da dn dc)]), (1, [(vi ((u : Nat) : Int))]), (1, [(.map (some mp))]), (1, [(.slice la lg.length lc)])] :: Ent.row la lg.length lc 47 67 lx :: Ent.obj mp .nw (.map (mArr lg) lg.length) :: Ent.pin (sblks lx) (fun w => Lgs w lx lg) :: Ent.view da (df.map vu8) :: Ent.pin (sblks xs) (fun w => Sls w xs ls) :: Ent.view a xs :: L)) :
  Cs Tryz.prog 17 [(.pointer (some ⟨ob, 0, none⟩)), (vi dm), (.slice a n cap)].toArray w (fun v w1 => ∃ la' lc' lx', v = (.tuple [(.agg ⟨(anD true df dn u lg (1, (List.replicate 32 (0 : UInt8)), dm, ls.flatten)).map vu8⟩), (vi 0)].toArray) ∧ HP w00 w1 (Ent.blk ob .nw 66 [(1, [(.bool true)]), (32, ms.map vu8), (1, [(.slice da dn dc)]), (1, [(vi (((anU true u lg (1, (List.replicate 32 (0 : UInt8)), dm, ls.flatten)) : Nat) : Int))]), (1, [(.map (some mp))]), (1, [(.slice la' ((anL true df dn u lg (1, (List.replicate 32 (0 : UInt8)), dm, ls.flatten)).length) lc')])] :: Ent.row la' ((anL true df dn u lg (1, (List.replicate 32 (0 : UInt8)), dm, ls.flatten)).length) lc' 47 67 lx' :: Ent.obj mp .nw (.map (mArr (anL true df dn u lg (1, (List.replicate 32 (0 : UInt8)), dm, ls.flatten))) ((anL true df dn u lg (1, (List.replicate 32 (0 : UInt8)), dm, ls.flatten)).length)) :: Ent.pin (sblks lx') (fun w => Lgs w lx' (anL true df dn u lg (1, (List.replicate 32 (0 : UInt8)), dm, ls.flatten))) :: Ent.view da (df.map vu8) :: Ent.pin (sblks xs) (fun w => Sls w xs ls) :: Ent.view a xs :: L)) := by
 have hxs := (h_0.ok _ M5).1
 have hxl : xs.length = n := (Sls.len hxs).trans hln
 refine Cs.of (n := 16) (args := [(pO ob 0), (vi dm), (.slice a n cap)]) Tryz.func17 rfl rfl rfl ?_
 refine WP.seq (WP.reg ?_)
 refine WL.alloc (segs := [(32, (zB 32).map vu8)]) h_0 (zv typeInfo29 rfl) rfl (sC (s8 lr) sN) rfl (fun b_1 w_2 h_3 => ?_)
 refine qA (vi 0) rfl rfl ?_
 refine WL.nil (thn_n (WP.seq (WP.reg ?_)))
 refine qM (pO ob 0) rfl rfl (qM (vi dm) rfl rfl (qM (.slice a n cap) rfl rfl ?_))
 refine WL.call Tryz.call36 rfl rfl (c_joined a n cap xs ls hln (by omega) (by omega) _ (viewV (h_3.ok _ M7)) (h_3.ok _ M6).1) rfl ?_
 rintro _ w_6 ⟨a_4, cap_5, rfl, hc_7, ho_8⟩
 have h_9 := h_3.gotRow hc_7 ho_8
 refine qV rfl (R.buildS (pl := [(0, 1), (1, 32), (33, 1), (34, 1)]) (zs := [(1, [(vi 0)]), (32, (zB 32).map vu8), (1, [(vi 0)]), (1, [(.slice none 0 0)])]) (vs := [(0, (vi 1)), (2, (vi dm)), (3, (.slice a_4 ls.flatten.length cap_5))]) (out := [(1, [(vi 1)]), (32, (zB 32).map vu8), (1, [(vi dm)]), (1, [(.slice a_4 ls.flatten.length cap_5)])]) underlying39 (zv typeInfo39 rfl) rfl (sC sV (sC (s8 lr) (sC sV (sC sV sN)))) (pl39 _ underlying39) rfl (FillR.cons [] [(1, [(vi 0)])] [(1, [(vi 1)])] [(32, (zB 32).map vu8), (1, [(vi 0)]), (1, [(.slice none 0 0)])] rfl rfl rfl rfl (sC sV sN) rfl rfl rfl (FillR.cons [(1, [(vi 1)]), (32, (zB 32).map vu8)] [(1, [(vi 0)])] [(1, [(vi dm)])] [(1, [(.slice none 0 0)])] rfl rfl rfl rfl (sC sV sN) rfl rfl rfl (FillR.cons [(1, [(vi 1)]), (32, (zB 32).map vu8), (1, [(vi dm)])] [(1, [(.slice none 0 0)])] [(1, [(.slice a_4 ls.flatten.length cap_5)])] [] rfl rfl rfl rfl (sC sV sN) rfl rfl rfl FillR.nil))) rfl) ?_
 have h_11 := h_9.rowView
 have h_16 := ((((h_11.up J6).up J6).up J6).up J6).up J6
 have h32_w_20 := (Lgs.ok32 (h_16.ok _ M3).1)
 refine WL.call Tryz.call13 rfl rfl (c_oAskI ob mp ms df hms da dn dc u hdf la lc lx lg hu hlg 1 dm (zB 32) ls.flatten a_4 ls.flatten.length cap_5 ⟨lr, by show (1 : Int) ≤ 1 ∧ (1 : Int) ≤ 4; omega, by show (1 : Int) ≤ dm ∧ (dm : Int) ≤ 16; omega, by show List.length ls.flatten ≤ 1000000000; first | decide | (simp only [List.length_append, leN_len]; omega) | omega⟩ (rfl : List.length ls.flatten = ls.flatten.length) (by decide) (fun _ => rfl) _ h_16) rfl ?_
 rintro _ w_20 ⟨la_17, lc_18, lx_19, rfl, h_21⟩
 refine qV rfl (R.extract rfl rfl) (qV rfl (R.extract rfl rfl) ?_)
 refine WL.storeA [] [(32, (zB 32).map vu8)] [(32, (anD true df dn u lg (1, List.replicate 32 (0 : UInt8), dm, ls.flatten)).map vu8)] [] h_21 rfl rfl sizeOf29 Y6 (by decide) rfl rfl rfl rfl rfl rfl (sC (s8 (anD_len hdf h32_w_20)) sN) (fun w_22 h_23 => ?_)
 refine qA (vi 0) rfl rfl ?_
 refine WL.nil (thn_n (WP.ret ?_))
 refine ret_of results17 (RV.cell rfl (h_23.loadA (cs := (anD true df dn u lg (1, List.replicate 32 (0 : UInt8), dm, ls.flatten)).map vu8) isAgg29 sizeOf29 M6 rfl rfl) (RV.tmp (v := (vi 0)) rfl RV.nil)) ?_
 have h_34 := ((((((((((h_23.up J5).drop rfl).up J5).drop rfl).up J6).up J6).up J6).up J6).up J6).up J6).up J6
 exact ⟨_, _, _, rfl, h_34⟩

theorem c_oDigestN {w00 : World} {L : List Ent} (ob mp : Nat) (ms df : List UInt8) (hms : ms.length = 32) (da : Option Addr) (dn dc u : Nat) (hdf : df.length = 32 * dn) (la : Option Addr) (lc : Nat) (lx : List Value) (lg : Lg) (hu : u ≤ 1000000) (hlg : lg.length ≤ 1000000) (a : Option Addr) (n cap : Nat) (xs : List Value) (ls : List (List UInt8)) (hln : ls.length = n) (dm : Int) (hm : mayB 1 dm (List.replicate 32 (0 : UInt8)) = false) (hb : ls.flatten.length ≤ 1000000000) (hnb : n ≤ 1000000) (w : World) (h_0 : HP w00 w (Ent.blk ob .nw 66 [(1, [(.bool true)]), (32, ms.map vu8), (1, [(.slice da dn dc)]), (1, [(vi ((u : Nat) : Int))]), (1, [(.map (some mp))]), (1, [(.slice la lg.length lc)])] :: Ent.row la lg.length lc 47 67 lx :: Ent.obj mp .nw (.map (mArr lg) lg.length) :: Ent.pin (sblks lx) (fun w => Lgs w lx lg) :: Ent.view da (df.map vu8) :: Ent.pin (sblks xs) (fun w => Sls w xs ls) :: Ent.view a xs :: L)) :
  Cs Tryz.prog 17 [(.pointer (some ⟨ob, 0, none⟩)), (vi dm), (.slice a n cap)].toArray w (fun v w1 => v = (.tuple [(.agg ⟨(List.replicate 32 (0 : UInt8)).map vu8⟩), (vi 2)].toArray) ∧ HP w00 w1 (Ent.blk ob .nw 66 [(1, [(.bool true)]), (32, ms.map vu8), (1, [(.slice da dn dc)]), (1, [(vi ((u : Nat) : Int))]), (1, [(.map (some mp))]), (1, [(.slice la lg.length lc)])] :: Ent.row la lg.length lc 47 67 lx :: Ent.obj mp .nw (.map (mArr lg) lg.length) :: Ent.pin (sblks lx) (fun w => Lgs w lx lg) :: Ent.view da (df.map vu8) :: Ent.pin (sblks xs) (fun w => Sls w xs ls) :: Ent.view a xs :: L)) := by
 have hxs := (h_0.ok _ M5).1
 have hxl : xs.length = n := (Sls.len hxs).trans hln
 refine Cs.of (n := 16) (args := [(pO ob 0), (vi dm), (.slice a n cap)]) Tryz.func17 rfl rfl rfl ?_
 refine WP.seq (WP.reg ?_)
 refine WL.alloc (segs := [(32, (zB 32).map vu8)]) h_0 (zv typeInfo29 rfl) rfl (sC (s8 lr) sN) rfl (fun b_1 w_2 h_3 => ?_)
 refine qA (vi 0) rfl rfl ?_
 refine WL.nil (thn_n (WP.seq (WP.reg ?_)))
 refine qM (pO ob 0) rfl rfl (qM (vi dm) rfl rfl (qM (.slice a n cap) rfl rfl ?_))
 refine WL.call Tryz.call36 rfl rfl (c_joined a n cap xs ls hln (by omega) (by omega) _ (viewV (h_3.ok _ M7)) (h_3.ok _ M6).1) rfl ?_
 rintro _ w_6 ⟨a_4, cap_5, rfl, hc_7, ho_8⟩
 have h_9 := h_3.gotRow hc_7 ho_8
 refine qV rfl (R.buildS (pl := [(0, 1), (1, 32), (33, 1), (34, 1)]) (zs := [(1, [(vi 0)]), (32, (zB 32).map vu8), (1, [(vi 0)]), (1, [(.slice none 0 0)])]) (vs := [(0, (vi 1)), (2, (vi dm)), (3, (.slice a_4 ls.flatten.length cap_5))]) (out := [(1, [(vi 1)]), (32, (zB 32).map vu8), (1, [(vi dm)]), (1, [(.slice a_4 ls.flatten.length cap_5)])]) underlying39 (zv typeInfo39 rfl) rfl (sC sV (sC (s8 lr) (sC sV (sC sV sN)))) (pl39 _ underlying39) rfl (FillR.cons [] [(1, [(vi 0)])] [(1, [(vi 1)])] [(32, (zB 32).map vu8), (1, [(vi 0)]), (1, [(.slice none 0 0)])] rfl rfl rfl rfl (sC sV sN) rfl rfl rfl (FillR.cons [(1, [(vi 1)]), (32, (zB 32).map vu8)] [(1, [(vi 0)])] [(1, [(vi dm)])] [(1, [(.slice none 0 0)])] rfl rfl rfl rfl (sC sV sN) rfl rfl rfl (FillR.cons [(1, [(vi 1)]), (32, (zB 32).map vu8), (1, [(vi dm)])] [(1, [(.slice none 0 0)])] [(1, [(.slice a_4 ls.flatten.length cap_5)])] [] rfl rfl rfl rfl (sC sV sN) rfl rfl rfl FillR.nil))) rfl) ?_
 refine WL.call Tryz.call13 rfl rfl (c_oAskN true ob mp ms hms da dn dc u la lg.length lc 1 dm (zB 32) a_4 ls.flatten.length cap_5 lr hm _ (h_9.argR M2)) rfl ?_
 rintro _ w_12 ⟨rfl, hc_11⟩
 have h_13 := h_9.same hc_11
 refine qV rfl (R.extract rfl rfl) (qV rfl (R.extract rfl rfl) ?_)
 refine WL.storeA [] [(32, (zB 32).map vu8)] [(32, (zB 32).map vu8)] [] h_13 rfl rfl sizeOf29 Y1 (by decide) rfl rfl rfl rfl rfl rfl (sC (s8 lr) sN) (fun w_14 h_15 => ?_)
 refine qA (vi 2) rfl rfl ?_
 refine WL.nil (thn_n (WP.ret ?_))
 refine ret_of results17 (RV.cell rfl (h_15.loadA (cs := (zB 32).map vu8) isAgg29 sizeOf29 M1 rfl rfl) (RV.tmp (v := (vi 2)) rfl RV.nil)) ?_
 have h_24 := ((((((((h_15.drop rfl).drop rfl).up J6).up J6).up J6).up J6).up J6).up J6).up J6
 exact ⟨rfl, h_24⟩

theorem c_oTagI {w00 : World} {L : List Ent} (ob mp : Nat) (ms df : List UInt8) (hms : ms.length = 32) (da : Option Addr) (dn dc u : Nat) (hdf : df.length = 32 * dn) (la : Option Addr) (lc : Nat) (lx : List Value) (lg : Lg) (hu : u ≤ 1000000) (hlg : lg.length ≤ 1000000) (a : Option Addr) (n cap : Nat) (xs : List Value) (ls : List (List UInt8)) (hln : ls.length = n) (key : List UInt8) (hk : key.length = 32) (dm : Int) (hdm : 1 ≤ dm ∧ dm ≤ 16) (hb : ls.flatten.length ≤ 1000000000) (hnb : n ≤ 1000000) (w : World) (h_0 : HP w00 w (Ent.blk ob .nw 66 [(1, [(.bool true)]), (32, ms.map vu8), (1, [(.slice da dn dc)]), (1, [(vi ((u : Nat) : Int))]), (1, [(.map (some mp))]), (1, [(.slice la lg.length lc)])] :: Ent.row la lg.length lc 47 67 lx :: Ent.obj mp .nw (.map (mArr lg) lg.length) :: Ent.pin (sblks lx) (fun w => Lgs w lx lg) :: Ent.view da (df.map vu8) :: Ent.pin (sblks xs) (fun w => Sls w xs ls) :: Ent.view a xs :: L)) :
  Cs Tryz.prog 23 [(.pointer (some ⟨ob, 0, none⟩)), (.agg ⟨key.map vu8⟩), (vi dm), (.slice a n cap)].toArray w (fun v w1 => ∃ la' lc' lx', v = (.tuple [(.agg ⟨(anD true df dn u lg (2, key, dm, ls.flatten)).map vu8⟩), (vi 0)].toArray) ∧ HP w00 w1 (Ent.blk ob .nw 66 [(1, [(.bool true)]), (32, ms.map vu8), (1, [(.slice da dn dc)]), (1, [(vi (((anU true u lg (2, key, dm, ls.flatten)) : Nat) : Int))]), (1, [(.map (some mp))]), (1, [(.slice la' ((anL true df dn u lg (2, key, dm, ls.flatten)).length) lc')])] :: Ent.row la' ((anL true df dn u lg (2, key, dm, ls.flatten)).length) lc' 47 67 lx' :: Ent.obj mp .nw (.map (mArr (anL true df dn u lg (2, key, dm, ls.flatten))) ((anL true df dn u lg (2, key, dm, ls.flatten)).length)) :: Ent.pin (sblks lx') (fun w => Lgs w lx' (anL true df dn u lg (2, key, dm, ls.flatten))) :: Ent.view da (df.map vu8) :: Ent.pin (sblks xs) (fun w => Sls w xs ls) :: Ent.view a xs :: L)) := by
 have hxs := (h_0.ok _ M5).1
 have hxl : xs.length = n := (Sls.len hxs).trans hln
 refine Cs.of (n := 19) (args := [(pO ob 0), (.agg ⟨key.map vu8⟩), (vi dm), (.slice a n cap)]) Tryz.func23 rfl rfl rfl ?_
 refine WP.seq (WP.reg ?_)
 refine WL.box (segs := [(32, key.map vu8)]) h_0 rfl rfl (sC (s8 hk) sN) rfl (fun b_1 w_2 h_3 => ?_)
 refine WL.alloc (segs := [(32, (zB 32).map vu8)]) h_3 (zv typeInfo29 rfl) rfl (sC (s8 lr) sN) rfl (fun b_4 w_5 h_6 => ?_)
 refine qA (vi 0) rfl rfl ?_
 refine WL.nil (thn_n (WP.seq ?_))
 refine WP.drawT (SL w00.heap.size [.blk b_1 .nw 29 [(32, key.map vu8)], .pin (sblks xs) (fun w => Sls w xs ls), .view a xs]) (.q 0 (.q 1 (.q 2 (.q 3 (.s 4 (.q 5 (.s 6 (.q 7 (.q 8 (.s 9 (.q 10 .nil))))))))))) (by kernel_rfl) (by kernel_rfl) rfl (by kernel_rfl) (fun w_7 hc_9 => (SL.cons ((h_6.same hc_9).ok _ M1) (SL.cons ((h_6.same hc_9).ok _ M7) (SL.cons ((h_6.same hc_9).ok _ M8) (SL.nil _ _))))) (fun w_7 hc_9 => ?_)
 have h_8 := h_6.same hc_9
 refine qT rfl rfl (fun wq hS => R.move (v := (pO ob 0)) rfl) ?_
 refine qT rfl rfl (fun wq hS => R.loadA [] [(32, key.map vu8)] [] (cs := key.map vu8) rfl isAgg29 sizeOf29 (hS _ M0) rfl rfl rfl rfl) ?_
 refine qT rfl rfl (fun wq hS => R.move (v := (vi dm)) rfl) ?_
 refine qT rfl rfl (fun wq hS => R.move (v := (.slice a n cap)) rfl) ?_
 refine WT.s (oN rfl ?_)
 refine WL.call Tryz.call36 rfl rfl (c_joined a n cap xs ls hln (by omega) (by omega) _ (viewV (h_8.ok _ M8)) (h_8.ok _ M7).1) rfl ?_
 rintro _ w_12 ⟨a_10, cap_11, rfl, hc_13, ho_14⟩
 have h_15 := h_8.gotRow hc_13 ho_14
 refine WL.nil ?_
 refine ⟨(SL.cons (h_15.ok _ M2) (SL.cons (h_15.ok _ M8) (SL.cons (h_15.ok _ M9) (SL.nil _ _)))), ?_⟩
 refine qT rfl rfl (fun wq hS => R.buildS (pl := [(0, 1), (1, 32), (33, 1), (34, 1)]) (zs := [(1, [(vi 0)]), (32, (zB 32).map vu8), (1, [(vi 0)]), (1, [(.slice none 0 0)])]) (vs := [(0, (vi 2)), (1, (.agg ⟨key.map vu8⟩)), (2, (vi dm)), (3, (.slice a_10 ls.flatten.length cap_11))]) (out := [(1, [(vi 2)]), (32, key.map vu8), (1, [(vi dm)]), (1, [(.slice a_10 ls.flatten.length cap_11)])]) underlying39 (zv typeInfo39 rfl) rfl (sC sV (sC (s8 lr) (sC sV (sC sV sN)))) (pl39 _ underlying39) rfl (FillR.cons [] [(1, [(vi 0)])] [(1, [(vi 2)])] [(32, (zB 32).map vu8), (1, [(vi 0)]), (1, [(.slice none 0 0)])] rfl rfl rfl rfl (sC sV sN) rfl rfl rfl (FillR.cons [(1, [(vi 2)])] [(32, (zB 32).map vu8)] [(32, key.map vu8)] [(1, [(vi 0)]), (1, [(.slice none 0 0)])] rfl rfl rfl rfl (sC (s8 hk) sN) rfl rfl rfl (FillR.cons [(1, [(vi 2)]), (32, key.map vu8)] [(1, [(vi 0)])] [(1, [(vi dm)])] [(1, [(.slice none 0 0)])] rfl rfl rfl rfl (sC sV sN) rfl rfl rfl (FillR.cons [(1, [(vi 2)]), (32, key.map vu8), (1, [(vi dm)])] [(1, [(.slice none 0 0)])] [(1, [(.slice a_10 ls.flatten.length cap_11)])] [] rfl rfl rfl rfl (sC sV sN) rfl rfl rfl FillR.nil)))) rfl) ?_
 refine WT.s (oN rfl ?_)
 have h_17 := h_15.rowView
 have h_22 := ((((h_17.up J7).up J7).up J7).up J7).up J7
 have h32_w_26 := (Lgs.ok32 (h_22.ok _ M3).1)
 refine WL.call Tryz.call13 rfl rfl (c_oAskI ob mp ms df hms da dn dc u hdf la lc lx lg hu hlg 2 dm key ls.flatten a_10 ls.flatten.length cap_11 ⟨hk, by show (1 : Int) ≤ 2 ∧ (2 : Int) ≤ 4; omega, by show (1 : Int) ≤ dm ∧ (dm : Int) ≤ 16; omega, by show List.length ls.flatten ≤ 1000000000; first | decide | (simp only [List.length_append, leN_len]; omega) | omega⟩ (rfl : List.length ls.flatten = ls.flatten.length) (by decide) (fun h => absurd h (by decide)) _ h_22) rfl ?_
 rintro _ w_26 ⟨la_23, lc_24, lx_25, rfl, h_27⟩
 refine WL.nil ?_
 refine ⟨(N7_8_9 h_27.ok), ?_⟩
 refine qT rfl rfl (fun wq hS => R.extract rfl rfl) ?_
 refine qT rfl rfl (fun wq hS => R.extract rfl rfl) ?_
 refine WT.s (oN rfl ?_)
 refine WL.storeA [] [(32, (zB 32).map vu8)] [(32, (anD true df dn u lg (2, key, dm, ls.flatten)).map vu8)] [] h_27 rfl rfl sizeOf29 Y6 (by decide) rfl rfl rfl rfl rfl rfl (sC (s8 (anD_len hdf h32_w_26)) sN) (fun w_28 h_29 => ?_)
 refine WL.nil ?_
 refine ⟨(N7_8_9 h_29.ok), ?_⟩
 refine qT rfl rfl (fun wq hS => R.assign (v := (vi 0)) rfl) ?_
 refine WT.nil (thn_n (WP.ret ?_))
 refine ret_of results23 (RV.cell rfl (h_29.loadA (cs := (anD true df dn u lg (2, key, dm, ls.flatten)).map vu8) isAgg29 sizeOf29 M6 rfl rfl) (RV.tmp (v := (vi 0)) rfl RV.nil)) ?_
 have h_42 := ((((((((((((h_29.up J5).drop rfl).up J5).drop rfl).up J5).drop rfl).up J6).up J6).up J6).up J6).up J6).up J6).up J6
 exact ⟨_, _, _, rfl, h_42⟩

theorem c_oTagN {w00 : World} {L : List Ent} (ob mp : Nat) (ms df : List UInt8) (hms : ms.length = 32) (da : Option Addr) (dn dc u : Nat) (hdf : df.length = 32 * dn) (la : Option Addr) (lc : Nat) (lx : List Value) (lg : Lg) (hu : u ≤ 1000000) (hlg : lg.length ≤ 1000000) (a : Option Addr) (n cap : Nat) (xs : List Value) (ls : List (List UInt8)) (hln : ls.length = n) (key : List UInt8) (hk : key.length = 32) (dm : Int) (hm : mayB 2 dm key = false) (hb : ls.flatten.length ≤ 1000000000) (hnb : n ≤ 1000000) (w : World) (h_0 : HP w00 w (Ent.blk ob .nw 66 [(1, [(.bool true)]), (32, ms.map vu8), (1, [(.slice da dn dc)]), (1, [(vi ((u : Nat) : Int))]), (1, [(.map (some mp))]), (1, [(.slice la lg.length lc)])] :: Ent.row la lg.length lc 47 67 lx :: Ent.obj mp .nw (.map (mArr lg) lg.length) :: Ent.pin (sblks lx) (fun w => Lgs w lx lg) :: Ent.view da (df.map vu8) :: Ent.pin (sblks xs) (fun w => Sls w xs ls) :: Ent.view a xs :: L)) :
  Cs Tryz.prog 23 [(.pointer (some ⟨ob, 0, none⟩)), (.agg ⟨key.map vu8⟩), (vi dm), (.slice a n cap)].toArray w (fun v w1 => v = (.tuple [(.agg ⟨(List.replicate 32 (0 : UInt8)).map vu8⟩), (vi 2)].toArray) ∧ HP w00 w1 (Ent.blk ob .nw 66 [(1, [(.bool true)]), (32, ms.map vu8), (1, [(.slice da dn dc)]), (1, [(vi ((u : Nat) : Int))]), (1, [(.map (some mp))]), (1, [(.slice la lg.length lc)])] :: Ent.row la lg.length lc 47 67 lx :: Ent.obj mp .nw (.map (mArr lg) lg.length) :: Ent.pin (sblks lx) (fun w => Lgs w lx lg) :: Ent.view da (df.map vu8) :: Ent.pin (sblks xs) (fun w => Sls w xs ls) :: Ent.view a xs :: L)) := by
 have hxs := (h_0.ok _ M5).1
 have hxl : xs.length = n := (Sls.len hxs).trans hln
 refine Cs.of (n := 19) (args := [(pO ob 0), (.agg ⟨key.map vu8⟩), (vi dm), (.slice a n cap)]) Tryz.func23 rfl rfl rfl ?_
 refine WP.seq (WP.reg ?_)
 refine WL.box (segs := [(32, key.map vu8)]) h_0 rfl rfl (sC (s8 hk) sN) rfl (fun b_1 w_2 h_3 => ?_)
 refine WL.alloc (segs := [(32, (zB 32).map vu8)]) h_3 (zv typeInfo29 rfl) rfl (sC (s8 lr) sN) rfl (fun b_4 w_5 h_6 => ?_)
 refine qA (vi 0) rfl rfl ?_
 refine WL.nil (thn_n (WP.seq ?_))
 refine WP.drawT (SL w00.heap.size [.blk b_1 .nw 29 [(32, key.map vu8)], .blk ob .nw 66 [(1, [(.bool true)]), (32, ms.map vu8), (1, [(.slice da dn dc)]), (1, [(vn u)]), (1, [(.map (some mp))]), (1, [(.slice la lg.length lc)])], .row la lg.length lc 47 67 lx, .obj mp .nw (.map (mArr lg) lg.length), .pin (sblks lx) (fun w => Lgs w lx lg), .view da (df.map vu8), .pin (sblks xs) (fun w => Sls w xs ls), .view a xs]) (.q 0 (.q 1 (.q 2 (.q 3 (.s 4 (.q 5 (.s 6 (.q 7 (.q 8 (.s 9 (.q 10 .nil))))))))))) (by kernel_rfl) (by kernel_rfl) rfl (by kernel_rfl) (fun w_7 hc_9 => (SL.cons ((h_6.same hc_9).ok _ M1) (SL.cons ((h_6.same hc_9).ok _ M2) (SL.cons ((h_6.same hc_9).ok _ M3) (SL.cons ((h_6.same hc_9).ok _ M4) (SL.cons ((h_6.same hc_9).ok _ M5) (SL.cons ((h_6.same hc_9).ok _ M6) (SL.cons ((h_6.same hc_9).ok _ M7) (SL.cons ((h_6.same hc_9).ok _ M8) (SL.nil _ _)))))))))) (fun w_7 hc_9 => ?_)
 have h_8 := h_6.same hc_9
 refine qT rfl rfl (fun wq hS => R.move (v := (pO ob 0)) rfl) ?_
 refine qT rfl rfl (fun wq hS => R.loadA [] [(32, key.map vu8)] [] (cs := key.map vu8) rfl isAgg29 sizeOf29 (hS _ M0) rfl rfl rfl rfl) ?_
 refine qT rfl rfl (fun wq hS => R.move (v := (vi dm)) rfl) ?_
 refine qT rfl rfl (fun wq hS => R.move (v := (.slice a n cap)) rfl) ?_
 refine WT.s (oN rfl ?_)
 refine WL.call Tryz.call36 rfl rfl (c_joined a n cap xs ls hln (by omega) (by omega) _ (viewV (h_8.ok _ M8)) (h_8.ok _ M7).1) rfl ?_
 rintro _ w_12 ⟨a_10, cap_11, rfl, hc_13, ho_14⟩
 have h_15 := h_8.gotRow hc_13 ho_14
 refine WL.nil ?_
 refine ⟨(N2_3_4_5_6_7_8_9 h_15.ok), ?_⟩
 refine qT rfl rfl (fun wq hS => R.buildS (pl := [(0, 1), (1, 32), (33, 1), (34, 1)]) (zs := [(1, [(vi 0)]), (32, (zB 32).map vu8), (1, [(vi 0)]), (1, [(.slice none 0 0)])]) (vs := [(0, (vi 2)), (1, (.agg ⟨key.map vu8⟩)), (2, (vi dm)), (3, (.slice a_10 ls.flatten.length cap_11))]) (out := [(1, [(vi 2)]), (32, key.map vu8), (1, [(vi dm)]), (1, [(.slice a_10 ls.flatten.length cap_11)])]) underlying39 (zv typeInfo39 rfl) rfl (sC sV (sC (s8 lr) (sC sV (sC sV sN)))) (pl39 _ underlying39) rfl (FillR.cons [] [(1, [(vi 0)])] [(1, [(vi 2)])] [(32, (zB 32).map vu8), (1, [(vi 0)]), (1, [(.slice none 0 0)])] rfl rfl rfl rfl (sC sV sN) rfl rfl rfl (FillR.cons [(1, [(vi 2)])] [(32, (zB 32).map vu8)] [(32, key.map vu8)] [(1, [(vi 0)]), (1, [(.slice none 0 0)])] rfl rfl rfl rfl (sC (s8 hk) sN) rfl rfl rfl (FillR.cons [(1, [(vi 2)]), (32, key.map vu8)] [(1, [(vi 0)])] [(1, [(vi dm)])] [(1, [(.slice none 0 0)])] rfl rfl rfl rfl (sC sV sN) rfl rfl rfl (FillR.cons [(1, [(vi 2)]), (32, key.map vu8), (1, [(vi dm)])] [(1, [(.slice none 0 0)])] [(1, [(.slice a_10 ls.flatten.length cap_11)])] [] rfl rfl rfl rfl (sC sV sN) rfl rfl rfl FillR.nil)))) rfl) ?_
 refine WT.s (oN rfl ?_)
 refine WL.call Tryz.call13 rfl rfl (c_oAskN true ob mp ms hms da dn dc u la lg.length lc 2 dm key a_10 ls.flatten.length cap_11 hk hm _ (h_15.argR M3)) rfl ?_
 rintro _ w_18 ⟨rfl, hc_17⟩
 have h_19 := h_15.same hc_17
 refine WL.nil ?_
 refine ⟨(N2_3_4_5_6_7_8_9 h_19.ok), ?_⟩
 refine qT rfl rfl (fun wq hS => R.extract rfl rfl) ?_
 refine qT rfl rfl (fun wq hS => R.extract rfl rfl) ?_
 refine WT.s (oN rfl ?_)
 refine WL.storeA [] [(32, (zB 32).map vu8)] [(32, (zB 32).map vu8)] [] h_19 rfl rfl sizeOf29 Y1 (by decide) rfl rfl rfl rfl rfl rfl (sC (s8 lr) sN) (fun w_20 h_21 => ?_)
 refine WL.nil ?_
 refine ⟨(N2_3_4_5_6_7_8_9 h_21.ok), ?_⟩
 refine qT rfl rfl (fun wq hS => R.assign (v := (vi 2)) rfl) ?_
 refine WT.nil (thn_n (WP.ret ?_))
 refine ret_of results23 (RV.cell rfl (h_21.loadA (cs := (zB 32).map vu8) isAgg29 sizeOf29 M1 rfl rfl) (RV.tmp (v := (vi 2)) rfl RV.nil)) ?_
 have h_31 := (((((((((h_21.drop rfl).drop rfl).drop rfl).up J6).up J6).up J6).up J6).up J6).up J6).up J6
 exact ⟨rfl, h_31⟩

theorem c_oKeyI {w00 : World} {L : List Ent} (ob mp : Nat) (ms df : List UInt8) (hms : ms.length = 32) (da : Option Addr) (dn dc u : Nat) (hdf : df.length = 32 * dn) (la : Option Addr) (lc : Nat) (lx : List Value) (lg : Lg) (hu : u ≤ 1000000) (hlg : lg.length ≤ 1000000) (a : Option Addr) (n cap : Nat) (xs : List Value) (ls : List (List UInt8)) (hln : ls.length = n) (dm : Int) (hdm : 1 ≤ dm ∧ dm ≤ 16) (hb : ls.flatten.length ≤ 1000000000) (hnb : n ≤ 1000000) (w : World) (h_0 : HP w00 w (Ent.blk ob .nw 66 [(1, [(.bool true)]), (32, ms.map vu8), (1, [(.slice da dn dc)]), (1, [(vi ((u : Nat) : Int))]), (1, [(.map (some mp))]), (1, [(.slice la lg.length lc)])] :: Ent.row la lg.length lc 47 67 lx :: Ent.obj mp .nw (.map (mArr lg) lg.length) :: Ent.pin (sblks lx) (fun w => Lgs w lx lg) :: Ent.view da (df.map vu8) :: Ent.pin (sblks xs) (fun w => Sls w xs ls) :: Ent.view a xs :: L)) :
  Cs Tryz.prog 24 [(.pointer (some ⟨ob, 0, none⟩)), (vi dm), (.slice a n cap)].toArray w (fun v w1 => ∃ la' lc' lx', v = (.tuple [(.agg ⟨(anD true df dn u lg (3, ms, dm, ls.flatten)).map vu8⟩), (vi 0)].toArray) ∧ HP w00 w1 (Ent.blk ob .nw 66 [(1, [(.bool true)]), (32, ms.map vu8), (1, [(.slice da dn dc)]), (1, [(vi (((anU true u lg (3, ms, dm, ls.flatten)) : Nat) : Int))]), (1, [(.map (some mp))]), (1, [(.slice la' ((anL true df dn u lg (3, ms, dm, ls.flatten)).length) lc')])] :: Ent.row la' ((anL true df dn u lg (3, ms, dm, ls.flatten)).length) lc' 47 67 lx' :: Ent.obj mp .nw (.map (mArr (anL true df dn u lg (3, ms, dm, ls.flatten))) ((anL true df dn u lg (3, ms, dm, ls.flatten)).length)) :: Ent.pin (sblks lx') (fun w => Lgs w lx' (anL true df dn u lg (3, ms, dm, ls.flatten))) :: Ent.view da (df.map vu8) :: Ent.pin (sblks xs) (fun w => Sls w xs ls) :: Ent.view a xs :: L)) := by
 have hxs := (h_0.ok _ M5).1
 have hxl : xs.length = n := (Sls.len hxs).trans hln
 refine Cs.of (n := 24) (args := [(pO ob 0), (vi dm), (.slice a n cap)]) Tryz.func24 rfl rfl rfl ?_
 refine WP.seq (WP.reg ?_)
 refine WL.alloc (segs := [(32, (zB 32).map vu8)]) h_0 (zv typeInfo29 rfl) rfl (sC (s8 lr) sN) rfl (fun b_1 w_2 h_3 => ?_)
 refine qA (vi 0) rfl rfl ?_
 refine WL.nil (thn_n (WP.seq (WP.seq (WP.reg ?_))))
 refine qM (pO ob 0) rfl rfl ?_
 refine WL.call Tryz.call25 rfl rfl (c_othere true ob mp ms hms da dn dc u la lg.length lc _ (h_3.argR M1)) rfl ?_
 rintro _ w_5 ⟨rfl, hc_4⟩
 have h_6 := h_3.same hc_4
 refine qV rfl (R.not (b := true) rfl) ?_
 refine WL.nil (thn_n ?_)
 refine WP.condF rfl ?_
 refine WP.skip (thn_n (WP.seq ?_))
 refine WP.cutG (G := Option Addr × Nat × Option Addr × Nat × List Value) [7, 12, 13, 14, 15, 16, 17, 18, 19, 20, 21, 22, 23] (fun (aY3Y7Y0Y0, capY3Y7Y0Y0, laY3Y9Y0Y0, lcY3Y9Y0Y0, lxY3Y9Y0Y0) => [(7, (vi 0)), (12, (pO ob 0)), (13, (pO ob 0)), (14, (pO ob 0)), (15, (pO ob 1)), (17, (vi dm)), (18, (.slice a n cap)), (16, (.agg ⟨ms.map vu8⟩)), (19, (.slice aY3Y7Y0Y0 ls.flatten.length capY3Y7Y0Y0)), (20, (.agg ⟨flat [(1, [(vi 3)]), (32, ms.map vu8), (1, [(vi dm)]), (1, [(.slice aY3Y7Y0Y0 ls.flatten.length capY3Y7Y0Y0)])]⟩)), (21, (.tuple [(.agg ⟨(anD true df dn u lg (3, ms, dm, ls.flatten)).map vu8⟩), (vi 0)].toArray)), (22, (.agg ⟨(anD true df dn u lg (3, ms, dm, ls.flatten)).map vu8⟩)), (23, (vi 0))]) (fun (aY3Y7Y0Y0, capY3Y7Y0Y0, laY3Y9Y0Y0, lcY3Y9Y0Y0, lxY3Y9Y0Y0) w1 => HP w00 w1 (Ent.blk ob .nw 66 [(1, [(.bool true)]), (32, ms.map vu8), (1, [(.slice da dn dc)]), (1, [(vn (anU true u lg (3, ms, dm, ls.flatten)))]), (1, [(.map (some mp))]), (1, [(.slice laY3Y9Y0Y0 ((anL true df dn u lg (3, ms, dm, ls.flatten)).length) lcY3Y9Y0Y0)])] :: Ent.row laY3Y9Y0Y0 ((anL true df dn u lg (3, ms, dm, ls.flatten)).length) lcY3Y9Y0Y0 47 67 lxY3Y9Y0Y0 :: Ent.obj mp .nw (.map (mArr (anL true df dn u lg (3, ms, dm, ls.flatten))) ((anL true df dn u lg (3, ms, dm, ls.flatten)).length)) :: Ent.pin (sblks lxY3Y9Y0Y0) (fun w => Lgs w lxY3Y9Y0Y0 (anL true df dn u lg (3, ms, dm, ls.flatten))) :: Ent.view da (df.map vu8) :: Ent.view aY3Y7Y0Y0 (ls.flatten.map vu8) :: Ent.blk b_1 .nw 29 [(32, (anD true df dn u lg (3, ms, dm, ls.flatten)).map vu8)] :: Ent.pin (sblks xs) (fun w => Sls w xs ls) :: Ent.view a xs :: L)) ?_ ?_
 ·refine WP.drawT (SL w00.heap.size [.pin (sblks xs) (fun w => Sls w xs ls), .view a xs]) (.q 0 (.q 1 (.q 2 (.q 3 (.q 5 (.q 6 (.s2 4 7 (.s 7 (.q 8 (.s 9 (.q 10 (.q 11 (.s 12 (.q 13 .nil))))))) (.s 4 (.q 8 (.s 9 (.q 10 (.q 11 (.s 12 (.q 13 .nil)))))))))))))) (by kernel_rfl) (by kernel_rfl) rfl (by kernel_rfl) (fun w_7 hc_9 => (SL.cons ((h_6.same hc_9).ok _ M6) (SL.cons ((h_6.same hc_9).ok _ M7) (SL.nil _ _)))) (fun w_7 hc_9 => ?_)
  have h_8 := h_6.same hc_9
  refine qT rfl rfl (fun wq hS => R.move (v := (pO ob 0)) rfl) ?_
  refine qT rfl rfl (fun wq hS => R.move (v := (pO ob 0)) rfl) ?_
  refine qT rfl rfl (fun wq hS => R.nilCheck rfl) ?_
  refine qT rfl rfl (fun wq hS => R.fieldAddr (off' := 1) rfl underlying66 rfl sizeOf29 rfl rfl) ?_
  refine qT rfl rfl (fun wq hS => R.move (v := (vi dm)) rfl) ?_
  refine qT rfl rfl (fun wq hS => R.move (v := (.slice a n cap)) rfl) ?_
  refine WT.s2 ?_ ?_
  ·refine oN rfl ?_
   refine qV rfl (R.loadA [(1, [(.bool true)])] [(32, ms.map vu8)] [(1, [(.slice da dn dc)]), (1, [(vn u)]), (1, [(.map (some mp))]), (1, [(.slice la lg.length lc)])] (cs := ms.map vu8) rfl isAgg29 sizeOf29 (h_8.ok _ M1) rfl rfl rfl rfl) ?_
   refine WL.nil ?_
   refine ⟨(SL.cons (h_8.ok _ M6) (SL.cons (h_8.ok _ M7) (SL.nil _ _))), ?_⟩
   refine WT.s (oN rfl ?_)
   refine WL.call Tryz.call36 rfl rfl (c_joined a n cap xs ls hln (by omega) (by omega) _ (viewV (h_8.ok _ M7)) (h_8.ok _ M6).1) rfl ?_
   rintro _ w_12 ⟨a_10, cap_11, rfl, hc_13, ho_14⟩
   have h_15 := h_8.gotRow hc_13 ho_14
   refine WL.nil ?_
   refine ⟨(N7_8 h_15.ok), ?_⟩
   refine qT rfl rfl (fun wq hS => R.buildS (pl := [(0, 1), (1, 32), (33, 1), (34, 1)]) (zs := [(1, [(vi 0)]), (32, (zB 32).map vu8), (1, [(vi 0)]), (1, [(.slice none 0 0)])]) (vs := [(0, (vi 3)), (1, (.agg ⟨ms.map vu8⟩)), (2, (vi dm)), (3, (.slice a_10 ls.flatten.length cap_11))]) (out := [(1, [(vi 3)]), (32, ms.map vu8), (1, [(vi dm)]), (1, [(.slice a_10 ls.flatten.length cap_11)])]) underlying39 (zv typeInfo39 rfl) rfl (sC sV (sC (s8 lr) (sC sV (sC sV sN)))) (pl39 _ underlying39) rfl (FillR.cons [] [(1, [(vi 0)])] [(1, [(vi 3)])] [(32, (zB 32).map vu8), (1, [(vi 0)]), (1, [(.slice none 0 0)])] rfl rfl rfl rfl (sC sV sN) rfl rfl rfl (FillR.cons [(1, [(vi 3)])] [(32, (zB 32).map vu8)] [(32, ms.map vu8)] [(1, [(vi 0)]), (1, [(.slice none 0 0)])] rfl rfl rfl rfl (sC (s8 hms) sN) rfl rfl rfl (FillR.cons [(1, [(vi 3)]), (32, ms.map vu8)] [(1, [(vi 0)])] [(1, [(vi dm)])] [(1, [(.slice none 0 0)])] rfl rfl rfl rfl (sC sV sN) rfl rfl rfl (FillR.cons [(1, [(vi 3)]), (32, ms.map vu8), (1, [(vi dm)])] [(1, [(.slice none 0 0)])] [(1, [(.slice a_10 ls.flatten.length cap_11)])] [] rfl rfl rfl rfl (sC sV sN) rfl rfl rfl FillR.nil)))) rfl) ?_
   refine WT.s (oN rfl ?_)
   have h_17 := h_15.rowView
   have h_22 := ((((h_17.up J6).up J6).up J6).up J6).up J6
   have h32_w_26 := (Lgs.ok32 (h_22.ok _ M3).1)
   refine WL.call Tryz.call13 rfl rfl (c_oAskI ob mp ms df hms da dn dc u hdf la lc lx lg hu hlg 3 dm ms ls.flatten a_10 ls.flatten.length cap_11 ⟨hms, by show (1 : Int) ≤ 3 ∧ (3 : Int) ≤ 4; omega, by show (1 : Int) ≤ dm ∧ (dm : Int) ≤ 16; omega, by show List.length ls.flatten ≤ 1000000000; first | decide | (simp only [List.length_append, leN_len]; omega) | omega⟩ (rfl : List.length ls.flatten = ls.flatten.length) (by decide) (fun h => absurd h (by decide)) _ h_22) rfl ?_
   rintro _ w_26 ⟨la_23, lc_24, lx_25, rfl, h_27⟩
   refine WL.nil ?_
   refine ⟨(N7_8 h_27.ok), ?_⟩
   refine qT rfl rfl (fun wq hS => R.extract rfl rfl) ?_
   refine qT rfl rfl (fun wq hS => R.extract rfl rfl) ?_
   refine WT.s (oN rfl ?_)
   refine WL.storeA [] [(32, (zB 32).map vu8)] [(32, (anD true df dn u lg (3, ms, dm, ls.flatten)).map vu8)] [] h_27 rfl rfl sizeOf29 Y6 (by decide) rfl rfl rfl rfl rfl rfl (sC (s8 (anD_len hdf h32_w_26)) sN) (fun w_28 h_29 => ?_)
   refine WL.nil ?_
   refine ⟨(N7_8 h_29.ok), ?_⟩
   refine qT rfl rfl (fun wq hS => R.assign (v := (vi 0)) rfl) ?_
   refine WT.nil (thn_n ?_)
   exact ⟨(a_10, cap_11, la_23, lc_24, lx_25), (Ag.upd rfl (U4 rfl rfl rfl rfl (U4 rfl rfl rfl rfl (U4 rfl rfl rfl rfl (Ag.refl _ _))))), ⟨rfl, rfl, rfl, rfl, rfl, rfl, rfl, rfl, rfl, rfl, rfl, rfl, rfl, trivial⟩, h_29⟩
  ·refine oN rfl ?_
   refine WL.call Tryz.call36 rfl rfl (c_joined a n cap xs ls hln (by omega) (by omega) _ (viewV (h_8.ok _ M7)) (h_8.ok _ M6).1) rfl ?_
   rintro _ w_32 ⟨a_30, cap_31, rfl, hc_33, ho_34⟩
   have h_35 := h_8.gotRow hc_33 ho_34
   refine WL.nil ?_
   refine ⟨(N7_8 h_35.ok), ?_⟩
   refine WT.s (oN rfl ?_)
   refine qV rfl (R.loadA [(1, [(.bool true)])] [(32, ms.map vu8)] [(1, [(.slice da dn dc)]), (1, [(vn u)]), (1, [(.map (some mp))]), (1, [(.slice la lg.length lc)])] (cs := ms.map vu8) rfl isAgg29 sizeOf29 (h_35.ok _ M2) rfl rfl rfl rfl) ?_
   refine WL.nil ?_
   refine ⟨(N7_8 h_35.ok), ?_⟩
   refine qT rfl rfl (fun wq hS => R.buildS (pl := [(0, 1), (1, 32), (33, 1), (34, 1)]) (zs := [(1, [(vi 0)]), (32, (zB 32).map vu8), (1, [(vi 0)]), (1, [(.slice none 0 0)])]) (vs := [(0, (vi 3)), (1, (.agg ⟨ms.map vu8⟩)), (2, (vi dm)), (3, (.slice a_30 ls.flatten.length cap_31))]) (out := [(1, [(vi 3)]), (32, ms.map vu8), (1, [(vi dm)]), (1, [(.slice a_30 ls.flatten.length cap_31)])]) underlying39 (zv typeInfo39 rfl) rfl (sC sV (sC (s8 lr) (sC sV (sC sV sN)))) (pl39 _ underlying39) rfl (FillR.cons [] [(1, [(vi 0)])] [(1, [(vi 3)])] [(32, (zB 32).map vu8), (1, [(vi 0)]), (1, [(.slice none 0 0)])] rfl rfl rfl rfl (sC sV sN) rfl rfl rfl (FillR.cons [(1, [(vi 3)])] [(32, (zB 32).map vu8)] [(32, ms.map vu8)] [(1, [(vi 0)]), (1, [(.slice none 0 0)])] rfl rfl rfl rfl (sC (s8 hms) sN) rfl rfl rfl (FillR.cons [(1, [(vi 3)]), (32, ms.map vu8)] [(1, [(vi 0)])] [(1, [(vi dm)])] [(1, [(.slice none 0 0)])] rfl rfl rfl rfl (sC sV sN) rfl rfl rfl (FillR.cons [(1, [(vi 3)]), (32, ms.map vu8), (1, [(vi dm)])] [(1, [(.slice none 0 0)])] [(1, [(.slice a_30 ls.flatten.length cap_31)])] [] rfl rfl rfl rfl (sC sV sN) rfl rfl rfl FillR.nil)))) rfl) ?_
   refine WT.s (oN rfl ?_)
   have h_37 := h_35.rowView
   have h_42 := ((((h_37.up J6).up J6).up J6).up J6).up J6
   have h32_w_46 := (Lgs.ok32 (h_42.ok _ M3).1)
   refine WL.call Tryz.call13 rfl rfl (c_oAskI ob mp ms df hms da dn dc u hdf la lc lx lg hu hlg 3 dm ms ls.flatten a_30 ls.flatten.length cap_31 ⟨hms, by show (1 : Int) ≤ 3 ∧ (3 : Int) ≤ 4; omega, by show (1 : Int) ≤ dm ∧ (dm : Int) ≤ 16; omega, by show List.length ls.flatten ≤ 1000000000; first | decide | (simp only [List.length_append, leN_len]; omega) | omega⟩ (rfl : List.length ls.flatten = ls.flatten.length) (by decide) (fun h => absurd h (by decide)) _ h_42) rfl ?_
   rintro _ w_46 ⟨la_43, lc_44, lx_45, rfl, h_47⟩
   refine WL.nil ?_
   refine ⟨(N7_8 h_47.ok), ?_⟩
   refine qT rfl rfl (fun wq hS => R.extract rfl rfl) ?_
   refine qT rfl rfl (fun wq hS => R.extract rfl rfl) ?_
   refine WT.s (oN rfl ?_)
   refine WL.storeA [] [(32, (zB 32).map vu8)] [(32, (anD true df dn u lg (3, ms, dm, ls.flatten)).map vu8)] [] h_47 rfl rfl sizeOf29 Y6 (by decide) rfl rfl rfl rfl rfl rfl (sC (s8 (anD_len hdf h32_w_46)) sN) (fun w_48 h_49 => ?_)
   refine WL.nil ?_
   refine ⟨(N7_8 h_49.ok), ?_⟩
   refine qT rfl rfl (fun wq hS => R.assign (v := (vi 0)) rfl) ?_
   refine WT.nil (thn_n ?_)
   exact ⟨(a_30, cap_31, la_43, lc_44, lx_45), (Ag.upd rfl (U4 rfl rfl rfl rfl (U4 rfl rfl rfl rfl (U4 rfl rfl rfl rfl (Ag.refl _ _))))), ⟨rfl, rfl, rfl, rfl, rfl, rfl, rfl, rfl, rfl, rfl, rfl, rfl, rfl, trivial⟩, h_49⟩
 ·rintro ⟨a_53, cap_54, la_55, lc_56, lx_57⟩ J_50 w_51 h_52
  refine thn_n (WP.ret ?_)
  refine ret_of results24 (RV.cell rfl (h_52.loadA (cs := (anD true df dn u lg (3, ms, dm, ls.flatten)).map vu8) isAgg29 sizeOf29 M6 rfl rfl) (RV.tmp (v := (vi 0)) rfl RV.nil)) ?_
  have h_68 := ((((((((((h_52.up J5).drop rfl).up J5).drop rfl).up J6).up J6).up J6).up J6).up J6).up J6).up J6
  exact ⟨_, _, _, rfl, h_68⟩

theorem c_oKeyN {w00 : World} {L : List Ent} (ob mp : Nat) (ms df : List UInt8) (hms : ms.length = 32) (da : Option Addr) (dn dc u : Nat) (hdf : df.length = 32 * dn) (la : Option Addr) (lc : Nat) (lx : List Value) (lg : Lg) (hu : u ≤ 1000000) (hlg : lg.length ≤ 1000000) (a : Option Addr) (n cap : Nat) (xs : List Value) (ls : List (List UInt8)) (hln : ls.length = n) (dm : Int) (hm : mayB 3 dm ms = false) (hb : ls.flatten.length ≤ 1000000000) (hnb : n ≤ 1000000) (w : World) (h_0 : HP w00 w (Ent.blk ob .nw 66 [(1, [(.bool true)]), (32, ms.map vu8), (1, [(.slice da dn dc)]), (1, [(vi ((u : Nat) : Int))]), (1, [(.map (some mp))]), (1, [(.slice la lg.length lc)])] :: Ent.row la lg.length lc 47 67 lx :: Ent.obj mp .nw (.map (mArr lg) lg.length) :: Ent.pin (sblks lx) (fun w => Lgs w lx lg) :: Ent.view da (df.map vu8) :: Ent.pin (sblks xs) (fun w => Sls w xs ls) :: Ent.view a xs :: L)) :
  Cs Tryz.prog 24 [(.pointer (some ⟨ob, 0, none⟩)), (vi dm), (.slice a n cap)].toArray w (fun v w1 => v = (.tuple [(.agg ⟨(List.replicate 32 (0 : UInt8)).map vu8⟩), (vi 2)].toArray) ∧ HP w00 w1 (Ent.blk ob .nw 66 [(1, [(.bool true)]), (32, ms.map vu8), (1, [(.slice da dn dc)]), (1, [(vi ((u : Nat) : Int))]), (1, [(.map (some mp))]), (1, [(.slice la lg.length lc)])] :: Ent.row la lg.length lc 47 67 lx :: Ent.obj mp .nw (.map (mArr lg) lg.length) :: Ent.pin (sblks lx) (fun w => Lgs w lx lg) :: Ent.view da (df.map vu8) :: Ent.pin (sblks xs) (fun w => Sls w xs ls) :: Ent.view a xs :: L)) := by
 have hxs := (h_0.ok _ M5).1
 have hxl : xs.length = n := (Sls.len hxs).trans hln
 refine Cs.of (n := 24) (args := [(pO ob 0), (vi dm), (.slice a n cap)]) Tryz.func24 rfl rfl rfl ?_
 refine WP.seq (WP.reg ?_)
 refine WL.alloc (segs := [(32, (zB 32).map vu8)]) h_0 (zv typeInfo29 rfl) rfl (sC (s8 lr) sN) rfl (fun b_1 w_2 h_3 => ?_)
 refine qA (vi 0) rfl rfl ?_
 refine WL.nil (thn_n (WP.seq (WP.seq (WP.reg ?_))))
 refine qM (pO ob 0) rfl rfl ?_
 refine WL.call Tryz.call25 rfl rfl (c_othere true ob mp ms hms da dn dc u la lg.length lc _ (h_3.argR M1)) rfl ?_
 rintro _ w_5 ⟨rfl, hc_4⟩
 have h_6 := h_3.same hc_4
 refine qV rfl (R.not (b := true) rfl) ?_
 refine WL.nil (thn_n ?_)
 refine WP.condF rfl ?_
 refine WP.skip (thn_n (WP.seq ?_))
 refine WP.drawT (SL w00.heap.size [.blk ob .nw 66 [(1, [(.bool true)]), (32, ms.map vu8), (1, [(.slice da dn dc)]), (1, [(vn u)]), (1, [(.map (some mp))]), (1, [(.slice la lg.length lc)])], .row la lg.length lc 47 67 lx, .obj mp .nw (.map (mArr lg) lg.length), .pin (sblks lx) (fun w => Lgs w lx lg), .view da (df.map vu8), .pin (sblks xs) (fun w => Sls w xs ls), .view a xs]) (.q 0 (.q 1 (.q 2 (.q 3 (.q 4 (.q 5 (.q 6 (.s 7 (.q 8 (.s 9 (.q 10 (.q 11 (.s 12 (.q 13 .nil)))))))))))))) (by kernel_rfl) (by kernel_rfl) rfl (by kernel_rfl) (fun w_7 hc_9 => (SL.cons ((h_6.same hc_9).ok _ M1) (SL.cons ((h_6.same hc_9).ok _ M2) (SL.cons ((h_6.same hc_9).ok _ M3) (SL.cons ((h_6.same hc_9).ok _ M4) (SL.cons ((h_6.same hc_9).ok _ M5) (SL.cons ((h_6.same hc_9).ok _ M6) (SL.cons ((h_6.same hc_9).ok _ M7) (SL.nil _ _))))))))) (fun w_7 hc_9 => ?_)
 have h_8 := h_6.same hc_9
 refine qT rfl rfl (fun wq hS => R.move (v := (pO ob 0)) rfl) ?_
 refine qT rfl rfl (fun wq hS => R.move (v := (pO ob 0)) rfl) ?_
 refine qT rfl rfl (fun wq hS => R.nilCheck rfl) ?_
 refine qT rfl rfl (fun wq hS => R.fieldAddr (off' := 1) rfl underlying66 rfl sizeOf29 rfl rfl) ?_
 refine qT rfl rfl (fun wq hS => R.loadA [(1, [(.bool true)])] [(32, ms.map vu8)] [(1, [(.slice da dn dc)]), (1, [(vn u)]), (1, [(.map (some mp))]), (1, [(.slice la lg.length lc)])] (cs := ms.map vu8) rfl isAgg29 sizeOf29 (hS _ M0) rfl rfl rfl rfl) ?_
 refine qT rfl rfl (fun wq hS => R.move (v := (vi dm)) rfl) ?_
 refine qT rfl rfl (fun wq hS => R.move (v := (.slice a n cap)) rfl) ?_
 refine WT.s (oN rfl ?_)
 refine WL.call Tryz.call36 rfl rfl (c_joined a n cap xs ls hln (by omega) (by omega) _ (viewV (h_8.ok _ M7)) (h_8.ok _ M6).1) rfl ?_
 rintro _ w_12 ⟨a_10, cap_11, rfl, hc_13, ho_14⟩
 have h_15 := h_8.gotRow hc_13 ho_14
 refine WL.nil ?_
 refine ⟨(N2_3_4_5_6_7_8 h_15.ok), ?_⟩
 refine qT rfl rfl (fun wq hS => R.buildS (pl := [(0, 1), (1, 32), (33, 1), (34, 1)]) (zs := [(1, [(vi 0)]), (32, (zB 32).map vu8), (1, [(vi 0)]), (1, [(.slice none 0 0)])]) (vs := [(0, (vi 3)), (1, (.agg ⟨ms.map vu8⟩)), (2, (vi dm)), (3, (.slice a_10 ls.flatten.length cap_11))]) (out := [(1, [(vi 3)]), (32, ms.map vu8), (1, [(vi dm)]), (1, [(.slice a_10 ls.flatten.length cap_11)])]) underlying39 (zv typeInfo39 rfl) rfl (sC sV (sC (s8 lr) (sC sV (sC sV sN)))) (pl39 _ underlying39) rfl (FillR.cons [] [(1, [(vi 0)])] [(1, [(vi 3)])] [(32, (zB 32).map vu8), (1, [(vi 0)]), (1, [(.slice none 0 0)])] rfl rfl rfl rfl (sC sV sN) rfl rfl rfl (FillR.cons [(1, [(vi 3)])] [(32, (zB 32).map vu8)] [(32, ms.map vu8)] [(1, [(vi 0)]), (1, [(.slice none 0 0)])] rfl rfl rfl rfl (sC (s8 hms) sN) rfl rfl rfl (FillR.cons [(1, [(vi 3)]), (32, ms.map vu8)] [(1, [(vi 0)])] [(1, [(vi dm)])] [(1, [(.slice none 0 0)])] rfl rfl rfl rfl (sC sV sN) rfl rfl rfl (FillR.cons [(1, [(vi 3)]), (32, ms.map vu8), (1, [(vi dm)])] [(1, [(.slice none 0 0)])] [(1, [(.slice a_10 ls.flatten.length cap_11)])] [] rfl rfl rfl rfl (sC sV sN) rfl rfl rfl FillR.nil)))) rfl) ?_
 refine WT.s (oN rfl ?_)
 refine WL.call Tryz.call13 rfl rfl (c_oAskN true ob mp ms hms da dn dc u la lg.length lc 3 dm ms a_10 ls.flatten.length cap_11 hms hm _ (h_15.argR M2)) rfl ?_
 rintro _ w_18 ⟨rfl, hc_17⟩
 have h_19 := h_15.same hc_17
 refine WL.nil ?_
 refine ⟨(N2_3_4_5_6_7_8 h_19.ok), ?_⟩
 refine qT rfl rfl (fun wq hS => R.extract rfl rfl) ?_
 refine qT rfl rfl (fun wq hS => R.extract rfl rfl) ?_
 refine WT.s (oN rfl ?_)
 refine WL.storeA [] [(32, (zB 32).map vu8)] [(32, (zB 32).map vu8)] [] h_19 rfl rfl sizeOf29 Y1 (by decide) rfl rfl rfl rfl rfl rfl (sC (s8 lr) sN) (fun w_20 h_21 => ?_)
 refine WL.nil ?_
 refine ⟨(N2_3_4_5_6_7_8 h_21.ok), ?_⟩
 refine qT rfl rfl (fun wq hS => R.assign (v := (vi 2)) rfl) ?_
 refine WT.nil (thn_n (WP.ret ?_))
 refine ret_of results24 (RV.cell rfl (h_21.loadA (cs := (zB 32).map vu8) isAgg29 sizeOf29 M1 rfl rfl) (RV.tmp (v := (vi 2)) rfl RV.nil)) ?_
 have h_30 := ((((((((h_21.drop rfl).drop rfl).up J6).up J6).up J6).up J6).up J6).up J6).up J6
 exact ⟨rfl, h_30⟩

theorem c_oStrN (id : Bool) (ob mp : Nat) (ms : List UInt8) (hms : ms.length = 32) (da : Option Addr) (dn dc u : Nat) (la : Option Addr) (ln lc : Nat) (kd dm : Int) (key : List UInt8) (qa : Option Addr) (qn qc : Nat) (hk : key.length = 32) (sn : Int) (hm : mayB kd dm key = false) (w : World) (hcb : (Ent.blk ob .ro 66 [(1, [(.bool id)]), (32, ms.map vu8), (1, [(.slice da dn dc)]), (1, [(vi ((u : Nat) : Int))]), (1, [(.map (some mp))]), (1, [(.slice la ln lc)])]).ok w.heap.size w) :
  Cs Tryz.prog 18 [(.pointer (some ⟨ob, 0, none⟩)), (.agg ⟨flat [(1, [(vi kd)]), (32, key.map vu8), (1, [(vi dm)]), (1, [(.slice qa qn qc)])]⟩), (vi sn)].toArray w (fun v w1 => v = (.tuple [(.slice none 0 0), (vi 2)].toArray) ∧ Chg w w1 []) := by
 refine Cs.of (n := 88) (args := [(pO ob 0), (.agg ⟨flat [(1, [(vi kd)]), (32, key.map vu8), (1, [(vi dm)]), (1, [(.slice qa qn qc)])]⟩), (vi sn)]) Tryz.func18 rfl rfl rfl ?_
 have h_0 := HP.init w
 have h_00 := h_0.old hcb (fun f hf => by cases hf)
 refine WP.seq (WP.reg ?_)
 refine WL.box (segs := [(1, [(vi kd)]), (32, key.map vu8), (1, [(vi dm)]), (1, [(.slice qa qn qc)])]) h_00 rfl rfl (sC sV (sC (s8 hk) (sC sV (sC sV sN)))) rfl (fun b_1 w_2 h_3 => ?_)
 refine WL.box (segs := [(1, [(vi sn)])]) h_3 rfl rfl (sC sV sN) rfl (fun b_4 w_5 h_6 => ?_)
 refine qA (.slice none 0 0) rfl rfl (qA (vi 0) rfl rfl ?_)
 refine WL.nil (thn_n (WP.seq (WP.block (WP.seq (WP.reg ?_)))))
 refine qM (pO ob 0) rfl rfl ?_
 refine WL.call Tryz.call25 rfl rfl (c_othere id ob mp ms hms da dn dc u la ln lc _ (h_6.argR M2)) rfl ?_
 rintro _ w_8 ⟨rfl, hc_7⟩
 have h_9 := h_6.same hc_7
 refine qV rfl (R.not (b := true) rfl) (qA (.bool false) rfl rfl ?_)
 refine WL.nil (thn_n ?_)
 refine WP.condF rfl ?_
 refine WP.seq (WP.reg ?_)
 refine qV rfl (R.loadA [] [(1, [(vi kd)]), (32, key.map vu8), (1, [(vi dm)]), (1, [(.slice qa qn qc)])] [] rfl isAgg39 sizeOf39 (h_9.ok _ M1) rfl rfl rfl rfl) ?_
 refine WL.call Tryz.call28 rfl rfl (c_oMayF kd dm key qa qn qc hk hm _ ) rfl ?_
 rintro _ w_11 ⟨rfl, hc_10⟩
 have h_12 := h_9.same hc_10
 refine qV rfl (R.not (b := false) rfl) (qM (.bool true) rfl rfl ?_)
 refine WL.skip rfl rfl rfl ?_
 refine WL.skip rfl rfl rfl ?_
 refine WL.skip rfl rfl rfl ?_
 refine qV rfl (R.pickT (v := (.bool true)) rfl rfl) (qM (.bool true) rfl rfl ?_)
 refine WL.skip rfl rfl rfl ?_
 refine WL.skip rfl rfl rfl ?_
 refine qV rfl (R.pickT (v := (.bool true)) rfl rfl) (qM (.bool true) rfl rfl ?_)
 refine WL.skip rfl rfl rfl ?_
 refine WL.skip rfl rfl rfl ?_
 refine qV rfl (R.pickT (v := (.bool true)) rfl rfl) (qA (.bool true) rfl rfl ?_)
 refine WL.nil (thn_n ?_)
 refine WP.condT rfl ?_
 refine WP.seq (WP.reg ?_)
 refine qA (.slice none 0 0) rfl rfl (qA (vi 2) rfl rfl ?_)
 refine WL.nil (thn_n (WP.ret (inb_r (thn_r ?_))))
 refine ret_of results18 (RV.tmp (v := (.slice none 0 0)) rfl (RV.tmp (v := (vi 2)) rfl RV.nil)) ?_
 exact ⟨rfl, h_12.chgS⟩

theorem c_oStrK (id : Bool) (ob mp : Nat) (ms : List UInt8) (hms : ms.length = 32) (da : Option Addr) (dn dc u : Nat) (la : Option Addr) (ln lc : Nat) (kd dm : Int) (key : List UInt8) (qa : Option Addr) (qn qc : Nat) (hk : key.length = 32) (sn : Int) (h1 : 1 ≤ kd ∧ kd ≤ 4) (h2 : 1 ≤ dm ∧ dm ≤ 16) (hz : kd = 1 → key = List.replicate 32 0) (hk4 : ¬ kd = 4) (w : World) (hcb : (Ent.blk ob .ro 66 [(1, [(.bool id)]), (32, ms.map vu8), (1, [(.slice da dn dc)]), (1, [(vi ((u : Nat) : Int))]), (1, [(.map (some mp))]), (1, [(.slice la ln lc)])]).ok w.heap.size w) :
  Cs Tryz.prog 18 [(.pointer (some ⟨ob, 0, none⟩)), (.agg ⟨flat [(1, [(vi kd)]), (32, key.map vu8), (1, [(vi dm)]), (1, [(.slice qa qn qc)])]⟩), (vi sn)].toArray w (fun v w1 => v = (.tuple [(.slice none 0 0), (vi 2)].toArray) ∧ Chg w w1 []) := by
 refine Cs.of (n := 88) (args := [(pO ob 0), (.agg ⟨flat [(1, [(vi kd)]), (32, key.map vu8), (1, [(vi dm)]), (1, [(.slice qa qn qc)])]⟩), (vi sn)]) Tryz.func18 rfl rfl rfl ?_
 have h_0 := HP.init w
 have h_00 := h_0.old hcb (fun f hf => by cases hf)
 refine WP.seq (WP.reg ?_)
 refine WL.box (segs := [(1, [(vi kd)]), (32, key.map vu8), (1, [(vi dm)]), (1, [(.slice qa qn qc)])]) h_00 rfl rfl (sC sV (sC (s8 hk) (sC sV (sC sV sN)))) rfl (fun b_1 w_2 h_3 => ?_)
 refine WL.box (segs := [(1, [(vi sn)])]) h_3 rfl rfl (sC sV sN) rfl (fun b_4 w_5 h_6 => ?_)
 refine qA (.slice none 0 0) rfl rfl (qA (vi 0) rfl rfl ?_)
 refine WL.nil (thn_n (WP.seq (WP.block (WP.seq (WP.reg ?_)))))
 refine qM (pO ob 0) rfl rfl ?_
 refine WL.call Tryz.call25 rfl rfl (c_othere id ob mp ms hms da dn dc u la ln lc _ (h_6.argR M2)) rfl ?_
 rintro _ w_8 ⟨rfl, hc_7⟩
 have h_9 := h_6.same hc_7
 refine qV rfl (R.not (b := true) rfl) (qA (.bool false) rfl rfl ?_)
 refine WL.nil (thn_n ?_)
 refine WP.condF rfl ?_
 refine WP.seq (WP.reg ?_)
 refine qV rfl (R.loadA [] [(1, [(vi kd)]), (32, key.map vu8), (1, [(vi dm)]), (1, [(.slice qa qn qc)])] [] rfl isAgg39 sizeOf39 (h_9.ok _ M1) rfl rfl rfl rfl) ?_
 refine WL.call Tryz.call28 rfl rfl (c_oMayT kd dm key qa qn qc hk h1 h2 hz _ ) rfl ?_
 rintro _ w_11 ⟨rfl, hc_10⟩
 have h_12 := h_9.same hc_10
 refine qV rfl (R.not (b := true) rfl) (qM (.bool false) rfl rfl ?_)
 refine WL.want rfl rfl ?_
 refine qV rfl (R.fieldAddr (off' := 0) rfl underlying39 rfl sizeOf35 rfl rfl) ?_
 refine WL.want rfl rfl ?_
 refine qV rfl (R.load1 rfl isAgg35 (h_12.ok _ M1) Sg.h) ?_
 refine WL.want rfl rfl ?_
 refine qV rfl (R.bin rfl rfl (bi_neq (r := decide ((kd : Int) ≠ 4)) rfl)) (qV rfl (R.pickF (v := (.bool (decide ((kd : Int) ≠ 4)))) rfl rfl) (qM (.bool (decide ((kd : Int) ≠ 4))) rfl rfl ?_))
 refine WL.skip rfl (congrArg Value.bool (decide_eq_true hk4)) rfl ?_
 refine WL.skip rfl (congrArg Value.bool (decide_eq_true hk4)) rfl ?_
 refine qV rfl (R.pickT (v := (.bool true)) (congrArg Value.bool (decide_eq_true hk4)) rfl) (qM (.bool true) rfl rfl ?_)
 refine WL.skip rfl rfl rfl ?_
 refine WL.skip rfl rfl rfl ?_
 refine qV rfl (R.pickT (v := (.bool true)) rfl rfl) (qA (.bool true) rfl rfl ?_)
 refine WL.nil (thn_n ?_)
 refine WP.condT rfl ?_
 refine WP.seq (WP.reg ?_)
 refine qA (.slice none 0 0) rfl rfl (qA (vi 2) rfl rfl ?_)
 refine WL.nil (thn_n (WP.ret (inb_r (thn_r ?_))))
 refine ret_of results18 (RV.tmp (v := (.slice none 0 0)) rfl (RV.tmp (v := (vi 2)) rfl RV.nil)) ?_
 exact ⟨rfl, h_12.chgS⟩

theorem c_oStrL (id : Bool) (ob mp : Nat) (ms : List UInt8) (hms : ms.length = 32) (da : Option Addr) (dn dc u : Nat) (la : Option Addr) (ln lc : Nat) (dm : Int) (key : List UInt8) (qa : Option Addr) (qn qc : Nat) (hk : key.length = 32) (sn : Int) (h1 : (1 : Int) ≤ 4 ∧ (4 : Int) ≤ 4) (h2 : 1 ≤ dm ∧ dm ≤ 16) (hz : (4 : Int) = 1 → key = List.replicate 32 0) (hsn : sn < 0) (w : World) (hcb : (Ent.blk ob .ro 66 [(1, [(.bool id)]), (32, ms.map vu8), (1, [(.slice da dn dc)]), (1, [(vi ((u : Nat) : Int))]), (1, [(.map (some mp))]), (1, [(.slice la ln lc)])]).ok w.heap.size w) :
  Cs Tryz.prog 18 [(.pointer (some ⟨ob, 0, none⟩)), (.agg ⟨flat [(1, [(vi 4)]), (32, key.map vu8), (1, [(vi dm)]), (1, [(.slice qa qn qc)])]⟩), (vi sn)].toArray w (fun v w1 => v = (.tuple [(.slice none 0 0), (vi 2)].toArray) ∧ Chg w w1 []) := by
 refine Cs.of (n := 88) (args := [(pO ob 0), (.agg ⟨flat [(1, [(vi 4)]), (32, key.map vu8), (1, [(vi dm)]), (1, [(.slice qa qn qc)])]⟩), (vi sn)]) Tryz.func18 rfl rfl rfl ?_
 have h_0 := HP.init w
 have h_00 := h_0.old hcb (fun f hf => by cases hf)
 refine WP.seq (WP.reg ?_)
 refine WL.box (segs := [(1, [(vi 4)]), (32, key.map vu8), (1, [(vi dm)]), (1, [(.slice qa qn qc)])]) h_00 rfl rfl (sC sV (sC (s8 hk) (sC sV (sC sV sN)))) rfl (fun b_1 w_2 h_3 => ?_)
 refine WL.box (segs := [(1, [(vi sn)])]) h_3 rfl rfl (sC sV sN) rfl (fun b_4 w_5 h_6 => ?_)
 refine qA (.slice none 0 0) rfl rfl (qA (vi 0) rfl rfl ?_)
 refine WL.nil (thn_n (WP.seq (WP.block (WP.seq (WP.reg ?_)))))
 refine qM (pO ob 0) rfl rfl ?_
 refine WL.call Tryz.call25 rfl rfl (c_othere id ob mp ms hms da dn dc u la ln lc _ (h_6.argR M2)) rfl ?_
 rintro _ w_8 ⟨rfl, hc_7⟩
 have h_9 := h_6.same hc_7
 refine qV rfl (R.not (b := true) rfl) (qA (.bool false) rfl rfl ?_)
 refine WL.nil (thn_n ?_)
 refine WP.condF rfl ?_
 refine WP.seq (WP.reg ?_)
 refine qV rfl (R.loadA [] [(1, [(vi 4)]), (32, key.map vu8), (1, [(vi dm)]), (1, [(.slice qa qn qc)])] [] rfl isAgg39 sizeOf39 (h_9.ok _ M1) rfl rfl rfl rfl) ?_
 refine WL.call Tryz.call28 rfl rfl (c_oMayT 4 dm key qa qn qc hk h1 h2 hz _ ) rfl ?_
 rintro _ w_11 ⟨rfl, hc_10⟩
 have h_12 := h_9.same hc_10
 refine qV rfl (R.not (b := true) rfl) (qM (.bool false) rfl rfl ?_)
 refine WL.want rfl rfl ?_
 refine qV rfl (R.fieldAddr (off' := 0) rfl underlying39 rfl sizeOf35 rfl rfl) ?_
 refine WL.want rfl rfl ?_
 refine qV rfl (R.load1 rfl isAgg35 (h_12.ok _ M1) Sg.h) ?_
 refine WL.want rfl rfl ?_
 refine qV rfl (R.bin rfl rfl (bi_neq (r := false) (by decide))) (qV rfl (R.pickF (v := (.bool false)) rfl rfl) (qM (.bool false) rfl rfl ?_))
 refine WL.want rfl rfl ?_
 refine qV rfl (R.load1 rfl isAgg3 (h_12.ok _ M0) Sg.h) ?_
 refine WL.want rfl rfl ?_
 refine qV rfl (R.bin rfl rfl (bi_lss (r := decide ((sn : Int) < 0)) rfl)) (qV rfl (R.pickF (v := (.bool (decide ((sn : Int) < 0)))) rfl rfl) (qM (.bool (decide ((sn : Int) < 0))) rfl rfl ?_))
 refine WL.skip rfl (congrArg Value.bool (decide_eq_true (by omega))) rfl ?_
 refine WL.skip rfl (congrArg Value.bool (decide_eq_true (by omega))) rfl ?_
 refine qV rfl (R.pickT (v := (.bool true)) (congrArg Value.bool (decide_eq_true (by omega))) rfl) (qA (.bool true) rfl rfl ?_)
 refine WL.nil (thn_n ?_)
 refine WP.condT rfl ?_
 refine WP.seq (WP.reg ?_)
 refine qA (.slice none 0 0) rfl rfl (qA (vi 2) rfl rfl ?_)
 refine WL.nil (thn_n (WP.ret (inb_r (thn_r ?_))))
 refine ret_of results18 (RV.tmp (v := (.slice none 0 0)) rfl (RV.tmp (v := (vi 2)) rfl RV.nil)) ?_
 exact ⟨rfl, h_12.chgS⟩

theorem c_oStrH (id : Bool) (ob mp : Nat) (ms : List UInt8) (hms : ms.length = 32) (da : Option Addr) (dn dc u : Nat) (la : Option Addr) (ln lc : Nat) (dm : Int) (key : List UInt8) (qa : Option Addr) (qn qc : Nat) (hk : key.length = 32) (sn : Int) (h1 : (1 : Int) ≤ 4 ∧ (4 : Int) ≤ 4) (h2 : 1 ≤ dm ∧ dm ≤ 16) (hz : (4 : Int) = 1 → key = List.replicate 32 0) (hsn : 1024 < sn) (w : World) (hcb : (Ent.blk ob .ro 66 [(1, [(.bool id)]), (32, ms.map vu8), (1, [(.slice da dn dc)]), (1, [(vi ((u : Nat) : Int))]), (1, [(.map (some mp))]), (1, [(.slice la ln lc)])]).ok w.heap.size w) :
  Cs Tryz.prog 18 [(.pointer (some ⟨ob, 0, none⟩)), (.agg ⟨flat [(1, [(vi 4)]), (32, key.map vu8), (1, [(vi dm)]), (1, [(.slice qa qn qc)])]⟩), (vi sn)].toArray w (fun v w1 => v = (.tuple [(.slice none 0 0), (vi 2)].toArray) ∧ Chg w w1 []) := by
 refine Cs.of (n := 88) (args := [(pO ob 0), (.agg ⟨flat [(1, [(vi 4)]), (32, key.map vu8), (1, [(vi dm)]), (1, [(.slice qa qn qc)])]⟩), (vi sn)]) Tryz.func18 rfl rfl rfl ?_
 have h_0 := HP.init w
 have h_00 := h_0.old hcb (fun f hf => by cases hf)
 refine WP.seq (WP.reg ?_)
 refine WL.box (segs := [(1, [(vi 4)]), (32, key.map vu8), (1, [(vi dm)]), (1, [(.slice qa qn qc)])]) h_00 rfl rfl (sC sV (sC (s8 hk) (sC sV (sC sV sN)))) rfl (fun b_1 w_2 h_3 => ?_)
 refine WL.box (segs := [(1, [(vi sn)])]) h_3 rfl rfl (sC sV sN) rfl (fun b_4 w_5 h_6 => ?_)
 refine qA (.slice none 0 0) rfl rfl (qA (vi 0) rfl rfl ?_)
 refine WL.nil (thn_n (WP.seq (WP.block (WP.seq (WP.reg ?_)))))
 refine qM (pO ob 0) rfl rfl ?_
 refine WL.call Tryz.call25 rfl rfl (c_othere id ob mp ms hms da dn dc u la ln lc _ (h_6.argR M2)) rfl ?_
 rintro _ w_8 ⟨rfl, hc_7⟩
 have h_9 := h_6.same hc_7
 refine qV rfl (R.not (b := true) rfl) (qA (.bool false) rfl rfl ?_)
 refine WL.nil (thn_n ?_)
 refine WP.condF rfl ?_
 refine WP.seq (WP.reg ?_)
 refine qV rfl (R.loadA [] [(1, [(vi 4)]), (32, key.map vu8), (1, [(vi dm)]), (1, [(.slice qa qn qc)])] [] rfl isAgg39 sizeOf39 (h_9.ok _ M1) rfl rfl rfl rfl) ?_
 refine WL.call Tryz.call28 rfl rfl (c_oMayT 4 dm key qa qn qc hk h1 h2 hz _ ) rfl ?_
 rintro _ w_11 ⟨rfl, hc_10⟩
 have h_12 := h_9.same hc_10
 refine qV rfl (R.not (b := true) rfl) (qM (.bool false) rfl rfl ?_)
 refine WL.want rfl rfl ?_
 refine qV rfl (R.fieldAddr (off' := 0) rfl underlying39 rfl sizeOf35 rfl rfl) ?_
 refine WL.want rfl rfl ?_
 refine qV rfl (R.load1 rfl isAgg35 (h_12.ok _ M1) Sg.h) ?_
 refine WL.want rfl rfl ?_
 refine qV rfl (R.bin rfl rfl (bi_neq (r := false) (by decide))) (qV rfl (R.pickF (v := (.bool false)) rfl rfl) (qM (.bool false) rfl rfl ?_))
 refine WL.want rfl rfl ?_
 refine qV rfl (R.load1 rfl isAgg3 (h_12.ok _ M0) Sg.h) ?_
 refine WL.want rfl rfl ?_
 refine qV rfl (R.bin rfl rfl (bi_lss (r := decide ((sn : Int) < 0)) rfl)) (qV rfl (R.pickF (v := (.bool (decide ((sn : Int) < 0)))) rfl rfl) (qM (.bool (decide ((sn : Int) < 0))) rfl rfl ?_))
 refine WL.want rfl (congrArg Value.bool (decide_eq_false (by omega))) ?_
 refine qV rfl (R.load1 rfl isAgg3 (h_12.ok _ M0) Sg.h) ?_
 refine WL.want rfl (congrArg Value.bool (decide_eq_false (by omega))) ?_
 refine qV rfl (R.bin rfl rfl (bi_gtr (r := decide ((sn : Int) > 1024)) rfl)) (qV rfl (R.pickF (v := (.bool (decide ((sn : Int) > 1024)))) (congrArg Value.bool (decide_eq_false (by omega))) rfl) (qA (.bool (decide ((sn : Int) > 1024))) rfl rfl ?_))
 refine WL.nil (thn_n ?_)
 refine WP.condT (congrArg Value.bool (decide_eq_true (by omega))) ?_
 refine WP.seq (WP.reg ?_)
 refine qA (.slice none 0 0) rfl rfl (qA (vi 2) rfl rfl ?_)
 refine WL.nil (thn_n (WP.ret (inb_r (thn_r ?_))))
 refine ret_of results18 (RV.tmp (v := (.slice none 0 0)) rfl (RV.tmp (v := (vi 2)) rfl RV.nil)) ?_
 exact ⟨rfl, h_12.chgS⟩
end Go.Proofs.YtajiipjmmoehcaaGreat

namespace Go.Proofs.YtajiipjmmoehcaaGreat
open Go.Proofs.Tryz
open Go.Vc Go.Orc Go.Sh Go.RowKit
set_option maxRecDepth 20000

theorem c_rAskI {w00 : World} {L : List Ent} (ob : Nat) (ms df : List UInt8) (hms : ms.length = 32) (da : Option Addr) (dn dc u : Nat) (hdf : df.length = 32 * dn) (la : Option Addr) (lc : Nat) (lx : List Value) (lg : Lg) (hu : u ≤ 1000000) (hlg : lg.length ≤ 1000000) (kd dm : Int) (key data : List UInt8) (qa : Option Addr) (qn qc : Nat) (hq : okQ (kd, key, dm, data)) (hdl : data.length = qn) (w : World) (h_0 : HP w00 w (Ent.blk ob .nw 33 [(1, [(.bool true)]), (32, ms.map vu8), (1, [(.slice da dn dc)]), (1, [(vi ((u : Nat) : Int))]), (1, [(.slice la lg.length lc)])] :: Ent.row la lg.length lc 47 67 lx :: Ent.pin (sblks lx) (fun w => Lgs w lx lg) :: Ent.view da (df.map vu8) :: Ent.view qa (data.map vu8) :: L)) :
  Cs Tryz.prog 21 [(.pointer (some ⟨ob, 0, none⟩)), (.agg ⟨flat [(1, [(vi kd)]), (32, key.map vu8), (1, [(vi dm)]), (1, [(.slice qa qn qc)])]⟩)].toArray w (fun v w1 => ∃ la' lc' lx', v = (.agg ⟨(anD true df dn u lg (kd, key, dm, data)).map vu8⟩) ∧ HP w00 w1 (Ent.blk ob .nw 33 [(1, [(.bool true)]), (32, ms.map vu8), (1, [(.slice da dn dc)]), (1, [(vi (((anU true u lg (kd, key, dm, data)) : Nat) : Int))]), (1, [(.slice la' ((anL true df dn u lg (kd, key, dm, data)).length) lc')])] :: Ent.row la' ((anL true df dn u lg (kd, key, dm, data)).length) lc' 47 67 lx' :: Ent.pin (sblks lx') (fun w => Lgs w lx' (anL true df dn u lg (kd, key, dm, data))) :: Ent.view da (df.map vu8) :: Ent.view qa (data.map vu8) :: L)) := by
 have hk1 : 1 ≤ kd ∧ kd ≤ 4 := hq.2.1
 have hd1 : 1 ≤ dm ∧ dm ≤ 16 := hq.2.2.1
 have hqn : data.length ≤ 1000000000 := hq.2.2.2
 refine Cs.of (n := 26) (args := [(pO ob 0), (.agg ⟨flat [(1, [(vi kd)]), (32, key.map vu8), (1, [(vi dm)]), (1, [(.slice qa qn qc)])]⟩)]) Tryz.func21 rfl rfl rfl ?_
 refine WP.seq (WP.reg ?_)
 refine WL.box (segs := [(1, [(vi kd)]), (32, key.map vu8), (1, [(vi dm)]), (1, [(.slice qa qn qc)])]) h_0 rfl rfl (sC sV (sC (s8 hq.1) (sC sV (sC sV sN)))) rfl (fun b_1 w_2 h_3 => ?_)
 refine WL.alloc (segs := [(32, (zB 32).map vu8)]) h_3 (zv typeInfo29 rfl) rfl (sC (s8 lr) sN) rfl (fun b_4 w_5 h_6 => ?_)
 refine WL.nil (thn_n (WP.seq (WP.reg ?_)))
 refine WL.alloc (segs := [(32, (zB 32).map vu8)]) h_6 (zv typeInfo29 rfl) rfl (sC (s8 lr) sN) rfl (fun b_7 w_8 h_9 => ?_)
 refine WL.nil (thn_n (WP.seq (WP.seq (WP.reg ?_))))
 refine qM (pO ob 0) rfl rfl (qV rfl (R.nilCheck rfl) (qV rfl (R.fieldAddr (off' := 0) rfl underlying33 rfl sizeOf4 rfl rfl) (qV rfl (R.load1 rfl isAgg4 (h_9.ok _ M3) Sg.h) (qV rfl (R.not (b := true) rfl) ?_))))
 refine WL.nil (thn_n ?_)
 refine WP.condF rfl ?_
 refine WP.skip (thn_n (WP.seq (WP.reg ?_)))
 refine qM (pO ob 0) rfl rfl (qV rfl (R.loadA [] [(1, [(vi kd)]), (32, key.map vu8), (1, [(vi dm)]), (1, [(.slice qa qn qc)])] [] rfl isAgg39 sizeOf39 (h_9.ok _ M2) rfl rfl rfl rfl) (qV rfl (R.loadA [] [(32, (zB 32).map vu8)] [] (cs := (zB 32).map vu8) rfl isAgg29 sizeOf29 (h_9.ok _ M0) rfl rfl rfl rfl) ?_))
 have h_14 := ((((h_9.up J7).up J7).up J7).up J7).up J7
 have h32_w_18 := (Lgs.ok32 (h_14.ok _ M2).1)
 refine WL.call Tryz.call43 rfl rfl (c_rAns true ob ms df hms da dn dc u hdf la lc lx lg hu hlg kd dm key data qa qn qc hq hdl (zB 32) lr (fun h => by cases h) _ h_14) rfl ?_
 rintro _ w_18 ⟨la_15, lc_16, lx_17, rfl, h_19⟩
 refine WL.storeA [] [(32, (zB 32).map vu8)] [(32, (anD true df dn u lg (kd, key, dm, data)).map vu8)] [] h_19 rfl rfl sizeOf29 Y6 (by decide) rfl rfl rfl rfl rfl rfl (sC (s8 (anD_len hdf h32_w_18)) sN) (fun w_20 h_21 => ?_)
 refine WL.nil (thn_n (WP.ret ?_))
 refine ret_of results21 (RV.cell rfl (h_21.loadA (cs := (anD true df dn u lg (kd, key, dm, data)).map vu8) isAgg29 sizeOf29 M6 rfl rfl) RV.nil) ?_
 have h_32 := ((((((((((h_21.up J5).drop rfl).up J5).drop rfl).up J5).drop rfl).up J4).up J4).up J4).up J4).up J4
 exact ⟨_, _, _, rfl, h_32⟩

theorem c_rStreamI {w00 : World} {L : List Ent} (ob : Nat) (ms df : List UInt8) (hms : ms.length = 32) (da : Option Addr) (dn dc u : Nat) (hdf : df.length = 32 * dn) (la : Option Addr) (lc : Nat) (lx : List Value) (lg : Lg) (hu : u ≤ 500000) (hlg : lg.length ≤ 500000) (dm : Int) (key data : List UInt8) (qa : Option Addr) (qn qc : Nat) (hk : key.length = 32) (hdm : 1 ≤ dm ∧ dm ≤ 16) (hdl : data.length = qn) (hqn : qn ≤ 100000) (sn : Nat) (hsn : sn ≤ 1024) (w : World) (h_0 : HP w00 w (Ent.blk ob .nw 33 [(1, [(.bool true)]), (32, ms.map vu8), (1, [(.slice da dn dc)]), (1, [(vi ((u : Nat) : Int))]), (1, [(.slice la lg.length lc)])] :: Ent.row la lg.length lc 47 67 lx :: Ent.pin (sblks lx) (fun w => Lgs w lx lg) :: Ent.view da (df.map vu8) :: Ent.view qa (data.map vu8) :: L)) :
  Cs Tryz.prog 22 [(.pointer (some ⟨ob, 0, none⟩)), (.agg ⟨flat [(1, [(vi 4)]), (32, key.map vu8), (1, [(vi dm)]), (1, [(.slice qa qn qc)])]⟩), (vi ((sn : Nat) : Int))].toArray w (fun v w1 => ∃ a c la' lc' lx', v = .slice a sn c ∧ HP w00 w1 (.row a sn c 5 1 ((((sT df dn key dm data u lg ((sn + 31) / 32)).2.2).take sn).map vu8) :: Ent.blk ob .nw 33 [(1, [(.bool true)]), (32, ms.map vu8), (1, [(.slice da dn dc)]), (1, [(vi (((sT df dn key dm data u lg ((sn + 31) / 32)).1 : Nat) : Int))]), (1, [(.slice la' ((sT df dn key dm data u lg ((sn + 31) / 32)).2.1.length) lc')])] :: Ent.row la' ((sT df dn key dm data u lg ((sn + 31) / 32)).2.1.length) lc' 47 67 lx' :: Ent.pin (sblks lx') (fun w => Lgs w lx' ((sT df dn key dm data u lg ((sn + 31) / 32)).2.1)) :: Ent.view da (df.map vu8) :: Ent.view qa (data.map vu8) :: L)) := by
 have h32 : ok32 lg := Lgs.ok32 (h_0.ok _ M2).1
 refine Cs.of (n := 66) (args := [(pO ob 0), (.agg ⟨flat [(1, [(vi 4)]), (32, key.map vu8), (1, [(vi dm)]), (1, [(.slice qa qn qc)])]⟩), (vn sn)]) Tryz.func22 rfl rfl rfl ?_
 refine WP.seq (WP.reg ?_)
 refine WL.box (segs := [(1, [(vi 4)]), (32, key.map vu8), (1, [(vi dm)]), (1, [(.slice qa qn qc)])]) h_0 rfl rfl (sC sV (sC (s8 hk) (sC sV (sC sV sN)))) rfl (fun b_1 w_2 h_3 => ?_)
 refine qA (.slice none 0 0) rfl rfl ?_
 refine WL.nil (thn_n (WP.seq (WP.reg ?_)))
 refine qA (.slice none 0 0) rfl rfl ?_
 refine WL.nil (thn_n (WP.seq (WP.seq (WP.reg ?_))))
 refine qM (pO ob 0) rfl rfl (qV rfl (R.nilCheck rfl) (qV rfl (R.fieldAddr (off' := 0) rfl underlying33 rfl sizeOf4 rfl rfl) (qV rfl (R.load1 rfl isAgg4 (h_3.ok _ M1) Sg.h) ?_)))
 refine WL.nil (thn_n ?_)
 refine WP.condT rfl ?_
 refine WP.seq (WP.seq (WP.reg ?_))
 refine qA (vi 0) rfl rfl ?_
 refine WL.nil (thn_n (WP.block ?_))
 have h_4 := h_3.rowNil 5 1
 have h_11 := ((((((h_4.up J6).up J2).up J2).up J6).up J6).up J6).up J6
 refine WP.loopG (G := Nat × Option Addr × Nat × Option Addr × Nat × List Value) [7, 8, 9, 10, 19, 20, 21, 22, 23, 24, 25, 26, 27, 28, 29, 30, 31, 32, 33, 34, 35, 36, 37, 38, 39, 40] (fun (k, oa, oc, la2, lc2, lx2) => [(7, (.slice oa (32 * k) oc)), (8, (vn k))]) (fun (k, oa, oc, la2, lc2, lx2) m w1 => HP w00 w1 (Ent.blk ob .nw 33 [(1, [(.bool true)]), (32, ms.map vu8), (1, [(.slice da dn dc)]), (1, [(vn ((sT df dn key dm data u lg k).1))]), (1, [(.slice la2 ((sT df dn key dm data u lg k).2.1.length) lc2)])] :: Ent.row la2 ((sT df dn key dm data u lg k).2.1.length) lc2 47 67 lx2 :: Ent.pin (sblks lx2) (fun w => Lgs w lx2 ((sT df dn key dm data u lg k).2.1)) :: Ent.view da (df.map vu8) :: Ent.row oa (32 * k) oc 5 1 (((sT df dn key dm data u lg k).2.2).map vu8) :: Ent.blk b_1 .nw 39 [(1, [(vi 4)]), (32, key.map vu8), (1, [(vi dm)]), (1, [(.slice qa qn qc)])] :: Ent.view qa (data.map vu8) :: L) ∧ (32 * k ≤ sn + 31) ∧ m = sn + 32 - 32 * k) ⟨(0, none, 0, la, lc, lx), _, ⟨rfl, rfl, trivial⟩, h_11, (by omega), rfl⟩ ?_
 rintro ⟨k, oa, oc, la2, lc2, lx2⟩ m_14 J_15 w_12 ⟨h_13, hkk, rfl⟩
 have hsu := sT_u (df := df) (dn := dn) (key := key) (dm := dm) (data := data) (u := u) (lg := lg) k
 have hsl := sT_l (df := df) (dn := dn) (key := key) (dm := dm) (data := data) (u := u) (lg := lg) k
 have hs32 := sT_32 (key := key) (dm := dm) (data := data) (u := u) hdf h32 k
 have hk8 : k < 100 → (UInt64.ofNat k).toNat = k := fun _ => by simp; omega
 refine WP.seq (WP.seq (WP.reg ?_))
 refine qM (.slice oa (32 * k) oc) rfl rfl (qV rfl (R.lenS (a := oa) (m := 32 * k) rfl rfl underlying37) (qM (vn sn) rfl rfl (qV rfl (R.bin rfl rfl (bi_lss (r := decide ((((32 * k : Nat) : Int) : Int) < ((sn : Nat) : Int))) rfl)) ?_)))
 refine WL.nil (thn_n ?_)
 refine WP.cond (b := decide ((((32 * k : Nat) : Int) : Int) < ((sn : Nat) : Int))) rfl (fun c_16 => ?_) (fun c_16 => ?_)
 ·have p_17 := of_decide_eq_true c_16
  refine WP.skip (thn_n (WP.seq (WP.block (WP.seq (WP.reg ?_)))))
  refine qV rfl (R.loadA [] [(1, [(vi 4)]), (32, key.map vu8), (1, [(vi dm)]), (1, [(.slice qa qn qc)])] [] rfl isAgg39 sizeOf39 (h_13.ok _ M5) rfl rfl rfl rfl) ?_
  refine WL.alloc (segs := [(1, [(vi 0)]), (32, (zB 32).map vu8), (1, [(vi 0)]), (1, [(.slice none 0 0)])]) h_13 (zv typeInfo39 rfl) rfl (sC sV (sC (s8 lr) (sC sV (sC sV sN)))) rfl (fun b_18 w_19 h_20 => ?_)
  refine WL.storeA [] [(1, [(vi 0)]), (32, (zB 32).map vu8), (1, [(vi 0)]), (1, [(.slice none 0 0)])] [(1, [(vi 4)]), (32, key.map vu8), (1, [(vi dm)]), (1, [(.slice qa qn qc)])] [] h_20 rfl rfl sizeOf39 At.h (by decide) rfl rfl rfl rfl rfl rfl (sC sV (sC (s8 hk) (sC sV (sC sV sN)))) (fun w_21 h_22 => ?_)
  refine WL.nil (thn_n (WP.seq (WP.reg ?_)))
  refine qV rfl (R.fieldAddr (off' := 34) rfl underlying39 rfl sizeOf37 rfl rfl) (qV rfl (R.load1 rfl isAgg37 (h_22.ok _ M6) (Sg.t rfl (Sg.t rfl (Sg.t rfl Sg.h)))) ?_)
  have h_23 := h_22.rowNil 5 1
  refine WL.append (km := qn) (xs := []) (ys := data.map vu8) (zs := data.map vu8) h_23 rfl rfl el37 (viewV (h_23.ok _ M8)) ((len_map hdl).trans (Nat.mul_one _).symm) (one_u8 _) rfl (by omega) (by omega) (by omega) (fun _ _ => At.h) rfl (fun a_24 c_25 w_26 h_27 => ?_)
  refine qM (vn k) rfl rfl (qV rfl (R.conv (b := ((UInt64.ofNat k) : UInt64).toNat) rfl underlying3 underlying84 (w64_nat k)) ?_)
  refine WL.call Tryz.call44 rfl rfl (c_rLe (UInt64.ofNat k) _) rfl ?_
  rintro _ w_30 ⟨a_28, cap_29, rfl, hc_31, ho_32⟩
  have h_33 := h_27.gotRow hc_31 ho_32
  refine WL.append (km := qn + 8) (xs := data.map vu8) (ys := (leN 8 (UInt64.ofNat k).toNat).map vu8) (zs := (data ++ (leN 8 (UInt64.ofNat k).toNat)).map vu8) h_33 rfl rfl el37 (ownView (h_33.ok _ M0)) ((len_map (leN_len ..)).trans (Nat.mul_one _).symm) (one_u8 _) (by simp only [List.map_append, List.map_nil]) (by omega) (by omega) (by omega) (fun _ _ => Y1) rfl (fun a_34 c_35 w_36 h_37 => ?_)
  refine qV rfl (R.fieldAddr (off' := 34) rfl underlying39 rfl sizeOf37 rfl rfl) ?_
  refine WL.store1 h_37 rfl rfl sizeOf37 rfl Y2 (by decide) (Sg.t rfl (Sg.t rfl (Sg.t rfl Sg.h))) (fun w_38 h_39 => ?_)
  refine WL.nil (thn_n (WP.seq (WP.reg ?_)))
  refine qM (pO ob 0) rfl rfl (qV rfl (R.loadA [] [(1, [(vi 4)]), (32, key.map vu8), (1, [(vi dm)]), (1, [(.slice a_34 (qn + 8) c_35)])] [] rfl isAgg39 sizeOf39 (h_39.ok _ M2) rfl rfl rfl rfl) (qV rfl (R.buildA (vs := []) (cs := (zB 32).map vu8) underlying29 sizeOf5 (zv typeInfo29 rfl) rfl rfl) ?_))
  have h_44 := ((((h_39.up J1).up J6).up J6).up J6).up J6
  refine WL.call Tryz.call43 rfl rfl (c_rAns_r true ob ms df hms da dn dc ((sT df dn key dm data u lg k).1) hdf la2 lc2 lx2 ((sT df dn key dm data u lg k).2.1) (by omega) (by omega) 4 dm key (data ++ (leN 8 (UInt64.ofNat k).toNat)) a_34 (qn + 8) c_35 ⟨hk, by show (1 : Int) ≤ 4 ∧ (4 : Int) ≤ 4; decide, hdm, by simp only [List.length_append, leN_len]; omega⟩ (lenApp (a := qn) (b := 8) hdl (leN_len ..) (by omega) : List.length (data ++ (leN 8 (UInt64.ofNat k).toNat)) = qn + 8) (zB 32) lr (fun h => by cases h) _ h_44) rfl ?_
  rintro _ w_48 ⟨la_45, lc_46, lx_47, rfl, h_49⟩
  refine WL.alloc (segs := [(32, (zB 32).map vu8)]) h_49 (zv typeInfo29 rfl) rfl (sC (s8 lr) sN) rfl (fun b_50 w_51 h_52 => ?_)
  refine WL.storeA [] [(32, (zB 32).map vu8)] [(32, (anD true df dn ((sT df dn key dm data u lg k).1) ((sT df dn key dm data u lg k).2.1) (4, key, dm, (data ++ (leN 8 (UInt64.ofNat k).toNat)))).map vu8)] [] h_52 rfl rfl sizeOf29 At.h (by decide) rfl rfl rfl rfl rfl rfl (sC (s8 (anD_len hdf hs32)) sN) (fun w_53 h_54 => ?_)
  refine WL.nil (thn_n (WP.reg ?_))
  refine qM (.slice oa (32 * k) oc) rfl rfl (qV rfl (R.sliceA (b := b_50) (off := 0) (off' := 0) (l := 0) (h := 32) rfl EvB.dflt EvB.dflt (by decide) (by decide) underlying29 sizeOf5 rfl) ?_)
  refine WL.append (km := 32 * k + 32) (xs := ((sT df dn key dm data u lg k).2.2).map vu8) (ys := (anD true df dn ((sT df dn key dm data u lg k).1) ((sT df dn key dm data u lg k).2.1) (4, key, dm, (data ++ (leN 8 (UInt64.ofNat k).toNat)))).map vu8) (zs := (((sT df dn key dm data u lg k).2.2) ++ (anD true df dn ((sT df dn key dm data u lg k).1) ((sT df dn key dm data u lg k).2.1) (4, key, dm, (data ++ (leN 8 (UInt64.ofNat k).toNat))))).map vu8) h_54 rfl rfl el37 (viewB (h_54.ok _ M0) Sg.h) ((len_map (anD_len hdf hs32)).trans (Nat.mul_one _).symm) (one_u8 _) (by simp only [List.map_append, List.map_nil]) (by omega) (by omega) (by omega) (fun _ _ => Y8) rfl (fun a_55 c_56 w_57 h_58 => ?_)
  refine qA (.slice a_55 (32 * k + 32) c_56) rfl rfl ?_
  refine WL.nil (inb_n (thn_n (WP.reg ?_)))
  refine qM (vn k) rfl rfl (qV rfl (R.bin rfl rfl (bi_add (c := ((k + 1 : Nat) : Int)) (by omega) (by omega))) (qA (vn (k + 1)) rfl rfl ?_))
  refine WL.nil (thn_n ?_)
  have h_72 := (((((((((((((h_58.drop rfl).up J4).drop rfl).up J4).drop rfl).up J4).drop rfl).up J6).up J6).up J6).up J6).up J6).up J6).up J6
  rw [hk8 (by omega)] at h_72
  exact ⟨(k + 1, a_55, c_56, la_45, lc_46, lx_47), _, (by omega), (U2 rfl rfl (U4 rfl rfl rfl rfl (U4 rfl rfl rfl rfl (U4 rfl rfl rfl rfl (U4 rfl rfl rfl rfl (U4 rfl rfl rfl rfl (U4 rfl rfl rfl rfl (Ag.updL rfl (Ag.mix _ _ _))))))))), ⟨rfl, rfl, trivial⟩, h_72, (by omega), rfl⟩
 ·have p_73 := of_decide_eq_false c_16
  refine WP.exit (thn_x (thn_x (inb_hit (thn_n (WP.seq (WP.reg ?_))))))
  refine qM (.slice oa (32 * k) oc) rfl rfl (qM (vn sn) rfl rfl (qV rfl (R.sliceR0 (h := sn) rfl EvB.dflt (EvB.it (l := sn) rfl rfl) (Nat.le_trans (by omega) (h_13.own M4).2.2.1) underlying37 sizeOf5 (h_13.ok _ M4)) ?_))
  have h_74 := HP.rowCut (k := sn) h_13 Y4 (by omega)
  rw [show (((sT df dn key dm data u lg k).2.2).map vu8).take (sn * 1) = (((sT df dn key dm data u lg k).2.2).take sn).map vu8 from by rw [Nat.mul_one, ← List.map_take]] at h_74
  refine qA (.slice oa sn oc) rfl rfl ?_
  refine WL.nil (thn_n (WP.ret (thn_r ?_)))
  refine ret_of results22 (RV.tmp (v := (.slice oa sn oc)) rfl RV.nil) ?_
  have h_82 := (((((((h_74.up J5).drop rfl).up J5).up J4).up J4).up J4).up J4).up J5
  have hkn : k = (sn + 31) / 32 := by omega
  subst hkn
  exact ⟨_, _, _, _, _, rfl, h_82⟩
end Go.Proofs.YtajiipjmmoehcaaGreat
