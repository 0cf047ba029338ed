/- An oracle: what is asked. Conditions: those that each theorem states. -/
import Derived.Test.YtbldmljbfokobaaQ2
namespace Go.Proofs.Ytbldmljbfokobaa
open Go.Vc Go.Orc Go.RowKit
set_option linter.unusedVariables false
set_option linter.unusedSimpArgs false
set_option maxRecDepth 20000
theorem kt29 : Try.prog.keyTypeAt 2 29 = true := by kernel_rfl
theorem ag29 : aggB Try.prog 29 = true := by unfold aggB; rw [Try.underlying29]
theorem c_othere_nil  (w : World) :
    Cs Try.prog 53 [(.pointer none)].toArray w (fun v w1 => v = (.bool false) ∧ Chg w w1 []) := by
  refine Cs.of (n := 12) (args := [(.pointer none)]) Try.func53 rfl rfl rfl ?_
  have h_0 := HP.init w
  refine WP.seq ?_
  refine WP.reg ?_
  refine WL.q (Wn.no rfl) rfl rfl (R.assign (v := (.bool false)) rfl) ?_
  refine WL.nil ?_
  refine thn_n ?_
  refine WP.seq ?_
  refine WP.reg ?_
  refine WL.q (Wn.no rfl) rfl rfl (R.move (v := (.pointer none)) rfl) ?_
  refine WL.q (Wn.no rfl) rfl rfl (R.neNilP rfl rfl Try.underlying26) ?_
  refine WL.q (Wn.no rfl) rfl rfl (R.move (v := (.bool false)) rfl) ?_
  refine WL.skip rfl rfl rfl ?_
  refine WL.skip rfl rfl rfl ?_
  refine WL.skip rfl rfl rfl ?_
  refine WL.skip rfl rfl rfl ?_
  refine WL.skip rfl rfl rfl ?_
  refine WL.q (Wn.no rfl) rfl rfl (R.pickF (v := (.bool false)) rfl rfl) ?_
  refine WL.q (Wn.no rfl) rfl rfl (R.assign (v := (.bool false)) rfl) ?_
  refine WL.nil ?_
  refine thn_n ?_
  refine WP.ret ?_
  refine ret_of Try.results53 (RV.tmp (v := (.bool false)) rfl RV.nil) ?_
  exact ⟨rfl, h_0.chgS⟩

theorem c_othere (ob mp : Nat) (ms : List UInt8) (hms : ms.length = 32) (da : Option Addr) (dn dc u : Nat) (la : Option Addr) (ln lc : Nat) (w : World) (hcb : (Ent.blk ob .ro 47 [(1, [(.bool true)]), (32, ms.map vu8), (1, [(.slice da dn dc)]), (1, [(vi ((u : Nat) : Int))]), (1, [(.map (some mp))]), (1, [(.slice la ln lc)])]).ok w.heap.size w) :
    Cs Try.prog 53 [(.pointer (some ⟨ob, 0, none⟩))].toArray w (fun v w1 => v = (.bool true) ∧ Chg w w1 []) := by
  refine Cs.of (n := 12) (args := [(.pointer (some ⟨ob, 0, none⟩))]) Try.func53 rfl rfl rfl ?_
  have h_0 := HP.init w
  have h_00 := h_0.old hcb (fun f hf => by cases hf)
  refine WP.seq ?_
  refine WP.reg ?_
  refine WL.q (Wn.no rfl) rfl rfl (R.assign (v := (.bool false)) rfl) ?_
  refine WL.nil ?_
  refine thn_n ?_
  refine WP.seq ?_
  refine WP.reg ?_
  refine WL.q (Wn.no rfl) rfl rfl (R.move (v := (.pointer (some ⟨ob, 0, none⟩))) rfl) ?_
  refine WL.q (Wn.no rfl) rfl rfl (R.neNilP rfl rfl Try.underlying26) ?_
  refine WL.q (Wn.no rfl) rfl rfl (R.move (v := (.bool true)) rfl) ?_
  refine WL.want rfl rfl ?_
  refine WL.q (Wn.no rfl) rfl rfl (R.move (v := (.pointer (some ⟨ob, 0, none⟩))) rfl) ?_
  refine WL.want rfl rfl ?_
  refine WL.q (Wn.no rfl) rfl rfl (R.nilCheck rfl) ?_
  refine WL.want rfl rfl ?_
  refine WL.q (Wn.no rfl) rfl rfl (R.fieldAddr (b := ob) (off := 0) (off' := 35) rfl Try.underlying47 rfl Try.sizeOf44 rfl rfl) ?_
  refine WL.want rfl rfl ?_
  refine WL.q (Wn.no rfl) rfl rfl (R.load1 (b := ob) (off := 35) (v := (.map (some mp))) rfl Try.isAgg44 (h_00.ok _ (.head _)) (Sg.t rfl (Sg.t rfl (Sg.t rfl (Sg.t rfl Sg.h))))) ?_
  refine WL.want rfl rfl ?_
  refine WL.q (Wn.no rfl) rfl rfl (R.neNilM rfl rfl Try.underlying44) ?_
  refine WL.q (Wn.no rfl) rfl rfl (R.pickT (v := (.bool true)) rfl rfl) ?_
  refine WL.q (Wn.no rfl) rfl rfl (R.assign (v := (.bool true)) rfl) ?_
  refine WL.nil ?_
  refine thn_n ?_
  refine WP.ret ?_
  refine ret_of Try.results53 (RV.tmp (v := (.bool true)) rfl RV.nil) ?_
  exact ⟨rfl, h_00.chgS⟩

theorem c_may (kd dm : Int) (key : List UInt8) (qa : Option Addr) (qn qc : Nat) (hk : key.length = 32) (h1 : 1 ≤ kd ∧ kd ≤ 4) (h2 : 1 ≤ dm ∧ dm ≤ 16) (hz : kd = 1 → key = List.replicate 32 0) (w : World) :
    Cs Try.prog 54 [(.agg ⟨flat [(1, [(vi kd)]), (32, key.map vu8), (1, [(vi dm)]), (1, [(.slice qa qn qc)])]⟩)].toArray w (fun v w1 => v = (.bool true) ∧ Chg w w1 []) := by
  refine Cs.of (n := 32) (args := [(.agg ⟨flat [(1, [(vi kd)]), (32, key.map vu8), (1, [(vi dm)]), (1, [(.slice qa qn qc)])]⟩)]) Try.func54 rfl rfl rfl ?_
  have h_0 := HP.init w
  refine WP.seq ?_
  refine WP.reg ?_
  refine WL.box (v := (.agg ⟨flat [(1, [(vi kd)]), (32, key.map vu8), (1, [(vi dm)]), (1, [(.slice qa qn qc)])]⟩)) (segs := [(1, [(vi kd)]), (32, key.map vu8), (1, [(vi dm)]), (1, [(.slice qa qn qc)])]) h_0 rfl rfl (SsOk.cons (SOk.v rfl) (SsOk.cons (SOk.u8 hk) (SsOk.cons (SOk.v rfl) (SsOk.cons (SOk.v rfl) SsOk.nil)))) rfl (fun b_1 w_2 h_3 => ?_)
  refine WL.q (Wn.no rfl) rfl rfl (R.assign (v := (.bool false)) rfl) ?_
  refine WL.nil ?_
  refine thn_n ?_
  refine WP.seq ?_
  refine WP.reg ?_
  refine WL.q (Wn.no rfl) rfl rfl (R.fieldAddr (b := b_1) (off := 0) (off' := 0) rfl Try.underlying64 rfl Try.sizeOf60 rfl rfl) ?_
  refine WL.q (Wn.no rfl) rfl rfl (R.load1 (b := b_1) (off := 0) (v := (vi kd)) rfl Try.isAgg60 (h_3.ok _ (.head _)) Sg.h) ?_
  refine WL.q (Wn.no rfl) rfl rfl (R.bin (v := (.bool (decide ((kd : Int) ≥ 1)))) rfl rfl (bi_geq (r := decide ((kd : Int) ≥ 1)) rfl)) ?_
  refine WL.q (Wn.no rfl) rfl rfl (R.move (v := (.bool (decide ((kd : Int) ≥ 1)))) rfl) ?_
  refine WL.want rfl (congrArg Value.bool (decide_eq_true (by omega))) ?_
  refine WL.q (Wn.no rfl) rfl rfl (R.fieldAddr (b := b_1) (off := 0) (off' := 0) rfl Try.underlying64 rfl Try.sizeOf60 rfl rfl) ?_
  refine WL.want rfl (congrArg Value.bool (decide_eq_true (by omega))) ?_
  refine WL.q (Wn.no rfl) rfl rfl (R.load1 (b := b_1) (off := 0) (v := (vi kd)) rfl Try.isAgg60 (h_3.ok _ (.head _)) Sg.h) ?_
  refine WL.want rfl (congrArg Value.bool (decide_eq_true (by omega))) ?_
  refine WL.q (Wn.no rfl) rfl rfl (R.bin (v := (.bool (decide ((kd : Int) ≤ 4)))) rfl rfl (bi_leq (r := decide ((kd : Int) ≤ 4)) rfl)) ?_
  refine WL.q (Wn.no rfl) rfl rfl (R.pickT (v := (.bool (decide ((kd : Int) ≤ 4)))) (congrArg Value.bool (decide_eq_true (by omega))) rfl) ?_
  refine WL.q (Wn.no rfl) rfl rfl (R.move (v := (.bool (decide ((kd : Int) ≤ 4)))) rfl) ?_
  refine WL.want rfl (congrArg Value.bool (decide_eq_true (by omega))) ?_
  refine WL.q (Wn.no rfl) rfl rfl (R.fieldAddr (b := b_1) (off := 0) (off' := 33) rfl Try.underlying64 rfl Try.sizeOf61 rfl rfl) ?_
  refine WL.want rfl (congrArg Value.bool (decide_eq_true (by omega))) ?_
  refine WL.q (Wn.no rfl) rfl rfl (R.load1 (b := b_1) (off := 33) (v := (vi dm)) rfl Try.isAgg61 (h_3.ok _ (.head _)) (Sg.t rfl (Sg.t rfl Sg.h))) ?_
  refine WL.want rfl (congrArg Value.bool (decide_eq_true (by omega))) ?_
  refine WL.q (Wn.no rfl) rfl rfl (R.bin (v := (.bool (decide ((dm : Int) ≥ 1)))) rfl rfl (bi_geq (r := decide ((dm : Int) ≥ 1)) rfl)) ?_
  refine WL.q (Wn.no rfl) rfl rfl (R.pickT (v := (.bool (decide ((dm : Int) ≥ 1)))) (congrArg Value.bool (decide_eq_true (by omega))) rfl) ?_
  refine WL.q (Wn.no rfl) rfl rfl (R.move (v := (.bool (decide ((dm : Int) ≥ 1)))) rfl) ?_
  refine WL.want rfl (congrArg Value.bool (decide_eq_true (by omega))) ?_
  refine WL.q (Wn.no rfl) rfl rfl (R.fieldAddr (b := b_1) (off := 0) (off' := 33) rfl Try.underlying64 rfl Try.sizeOf61 rfl rfl) ?_
  refine WL.want rfl (congrArg Value.bool (decide_eq_true (by omega))) ?_
  refine WL.q (Wn.no rfl) rfl rfl (R.load1 (b := b_1) (off := 33) (v := (vi dm)) rfl Try.isAgg61 (h_3.ok _ (.head _)) (Sg.t rfl (Sg.t rfl Sg.h))) ?_
  refine WL.want rfl (congrArg Value.bool (decide_eq_true (by omega))) ?_
  refine WL.q (Wn.no rfl) rfl rfl (R.bin (v := (.bool (decide ((dm : Int) ≤ 16)))) rfl rfl (bi_leq (r := decide ((dm : Int) ≤ 16)) rfl)) ?_
  refine WL.q (Wn.no rfl) rfl rfl (R.pickT (v := (.bool (decide ((dm : Int) ≤ 16)))) (congrArg Value.bool (decide_eq_true (by omega))) rfl) ?_
  refine WL.q (Wn.no rfl) rfl rfl (R.move (v := (.bool (decide ((dm : Int) ≤ 16)))) rfl) ?_
  refine WL.want rfl (congrArg Value.bool (decide_eq_true (by omega))) ?_
  refine WL.q (Wn.no rfl) rfl rfl (R.fieldAddr (b := b_1) (off := 0) (off' := 0) rfl Try.underlying64 rfl Try.sizeOf60 rfl rfl) ?_
  refine WL.want rfl (congrArg Value.bool (decide_eq_true (by omega))) ?_
  refine WL.q (Wn.no rfl) rfl rfl (R.load1 (b := b_1) (off := 0) (v := (vi kd)) rfl Try.isAgg60 (h_3.ok _ (.head _)) Sg.h) ?_
  refine WL.want rfl (congrArg Value.bool (decide_eq_true (by omega))) ?_
  refine WL.q (Wn.no rfl) rfl rfl (R.bin (v := (.bool (decide ((kd : Int) ≠ 1)))) rfl rfl (bi_neq (r := decide ((kd : Int) ≠ 1)) rfl)) ?_
  refine WL.want rfl (congrArg Value.bool (decide_eq_true (by omega))) ?_
  refine WL.q (Wn.no rfl) rfl rfl (R.move (v := (.bool (decide ((kd : Int) ≠ 1)))) rfl) ?_
  rcases Bool.eq_false_or_eq_true (decide ((kd : Int) ≠ 1)) with c_4 | c_4
  · have p_5 := of_decide_eq_true c_4
    refine WL.skip rfl (congrArg Value.bool c_4) rfl ?_
    refine WL.skip rfl (congrArg Value.bool c_4) rfl ?_
    refine WL.skip rfl (congrArg Value.bool c_4) rfl ?_
    refine WL.skip rfl (congrArg Value.bool c_4) rfl ?_
    refine WL.want rfl (congrArg Value.bool (decide_eq_true (by omega))) ?_
    refine WL.q (Wn.no rfl) rfl rfl (R.pickT (v := (.bool true)) (congrArg Value.bool c_4) rfl) ?_
    refine WL.q (Wn.no rfl) rfl rfl (R.pickT (v := (.bool true)) (congrArg Value.bool (decide_eq_true (by omega))) rfl) ?_
    refine WL.q (Wn.no rfl) rfl rfl (R.assign (v := (.bool true)) rfl) ?_
    refine WL.nil ?_
    refine thn_n ?_
    refine WP.ret ?_
    refine ret_of Try.results54 (RV.tmp (v := (.bool true)) rfl RV.nil) ?_
    exact ⟨rfl, h_3.chgS⟩
  · have p_6 := of_decide_eq_false c_4
    refine WL.want rfl (congrArg Value.bool c_4) ?_
    refine WL.q (Wn.no rfl) rfl rfl (R.fieldAddr (b := b_1) (off := 0) (off' := 1) rfl Try.underlying64 rfl Try.sizeOf29 rfl rfl) ?_
    refine WL.want rfl (congrArg Value.bool c_4) ?_
    refine WL.q (Wn.no rfl) rfl rfl (R.loadA (b := b_1) (off := 1) [(1, [(vi kd)])] [(32, key.map vu8)] [(1, [(vi dm)]), (1, [(.slice qa qn qc)])] (cs := key.map vu8) rfl Try.isAgg29 Try.sizeOf29 (h_3.ok _ (.head _)) rfl rfl rfl rfl) ?_
    refine WL.want rfl (congrArg Value.bool c_4) ?_
    refine WL.q (Wn.no rfl) rfl rfl (R.buildA (vs := []) (cs := (List.replicate 32 (0 : UInt8)).map vu8) Try.underlying29 Try.sizeOf5 (zv Try.typeInfo29 rfl) rfl rfl) ?_
    refine WL.want rfl (congrArg Value.bool c_4) ?_
    refine WL.q (Wn.no rfl) rfl rfl (R.eqA (xs := key.map vu8) (ys := (List.replicate 32 (0 : UInt8)).map vu8) (r := true) rfl rfl Try.eqGuardType29 kt29 (by decide) ag29 (Typ.u8s Try.underlying29 ce29 Try.underlying5 ce5 hk) (Typ.u8s Try.underlying29 ce29 Try.underlying5 ce5 (List.length_replicate ..)) (eqT (by rw [hz (by omega)]))) ?_
    refine WL.want rfl (congrArg Value.bool (decide_eq_true (by omega))) ?_
    refine WL.q (Wn.no rfl) rfl rfl (R.pickF (v := (.bool true)) (congrArg Value.bool c_4) rfl) ?_
    refine WL.q (Wn.no rfl) rfl rfl (R.pickT (v := (.bool true)) (congrArg Value.bool (decide_eq_true (by omega))) rfl) ?_
    refine WL.q (Wn.no rfl) rfl rfl (R.assign (v := (.bool true)) rfl) ?_
    refine WL.nil ?_
    refine thn_n ?_
    refine WP.ret ?_
    refine ret_of Try.results54 (RV.tmp (v := (.bool true)) rfl RV.nil) ?_
    exact ⟨rfl, h_3.chgS⟩

theorem c_may_0 (dm : Int) (key : List UInt8) (qa : Option Addr) (qn qc : Nat) (hk : key.length = 32) (w : World) :
    Cs Try.prog 54 [(.agg ⟨flat [(1, [(vi 0)]), (32, key.map vu8), (1, [(vi dm)]), (1, [(.slice qa qn qc)])]⟩)].toArray w (fun v w1 => v = (.bool false) ∧ Chg w w1 []) := by
  refine Cs.of (n := 32) (args := [(.agg ⟨flat [(1, [(vi 0)]), (32, key.map vu8), (1, [(vi dm)]), (1, [(.slice qa qn qc)])]⟩)]) Try.func54 rfl rfl rfl ?_
  have h_0 := HP.init w
  refine WP.seq ?_
  refine WP.reg ?_
  refine WL.box (v := (.agg ⟨flat [(1, [(vi 0)]), (32, key.map vu8), (1, [(vi dm)]), (1, [(.slice qa qn qc)])]⟩)) (segs := [(1, [(vi 0)]), (32, key.map vu8), (1, [(vi dm)]), (1, [(.slice qa qn qc)])]) h_0 rfl rfl (SsOk.cons (SOk.v rfl) (SsOk.cons (SOk.u8 hk) (SsOk.cons (SOk.v rfl) (SsOk.cons (SOk.v rfl) SsOk.nil)))) rfl (fun b_1 w_2 h_3 => ?_)
  refine WL.q (Wn.no rfl) rfl rfl (R.assign (v := (.bool false)) rfl) ?_
  refine WL.nil ?_
  refine thn_n ?_
  refine WP.seq ?_
  refine WP.reg ?_
  refine WL.q (Wn.no rfl) rfl rfl (R.fieldAddr (b := b_1) (off := 0) (off' := 0) rfl Try.underlying64 rfl Try.sizeOf60 rfl rfl) ?_
  refine WL.q (Wn.no rfl) rfl rfl (R.load1 (b := b_1) (off := 0) (v := (vi 0)) rfl Try.isAgg60 (h_3.ok _ (.head _)) Sg.h) ?_
  refine WL.q (Wn.no rfl) rfl rfl (R.bin (v := (.bool false)) rfl rfl (bi_geq (r := false) (by decide))) ?_
  refine WL.q (Wn.no rfl) rfl rfl (R.move (v := (.bool false)) rfl) ?_
  refine WL.skip rfl rfl rfl ?_
  refine WL.skip rfl rfl rfl ?_
  refine WL.skip rfl rfl rfl ?_
  refine WL.q (Wn.no rfl) rfl rfl (R.pickF (v := (.bool false)) rfl rfl) ?_
  refine WL.q (Wn.no rfl) rfl rfl (R.move (v := (.bool false)) rfl) ?_
  refine WL.skip rfl rfl rfl ?_
  refine WL.skip rfl rfl rfl ?_
  refine WL.skip rfl rfl rfl ?_
  refine WL.q (Wn.no rfl) rfl rfl (R.pickF (v := (.bool false)) rfl rfl) ?_
  refine WL.q (Wn.no rfl) rfl rfl (R.move (v := (.bool false)) rfl) ?_
  refine WL.skip rfl rfl rfl ?_
  refine WL.skip rfl rfl rfl ?_
  refine WL.skip rfl rfl rfl ?_
  refine WL.q (Wn.no rfl) rfl rfl (R.pickF (v := (.bool false)) rfl rfl) ?_
  refine WL.q (Wn.no rfl) rfl rfl (R.move (v := (.bool false)) rfl) ?_
  refine WL.skip rfl rfl rfl ?_
  refine WL.skip rfl rfl rfl ?_
  refine WL.skip rfl rfl rfl ?_
  refine WL.skip rfl rfl rfl ?_
  refine WL.skipU rfl rfl rfl ?_
  refine WL.skipU rfl rfl rfl ?_
  refine WL.skipU rfl rfl rfl ?_
  refine WL.skipU rfl rfl rfl ?_
  refine WL.skip rfl rfl rfl ?_
  refine WL.q (Wn.no rfl) rfl rfl (R.pickF (v := (.bool false)) rfl rfl) ?_
  refine WL.q (Wn.no rfl) rfl rfl (R.assign (v := (.bool false)) rfl) ?_
  refine WL.nil ?_
  refine thn_n ?_
  refine WP.ret ?_
  refine ret_of Try.results54 (RV.tmp (v := (.bool false)) rfl RV.nil) ?_
  exact ⟨rfl, h_3.chgS⟩

theorem c_oAsk_nil (kd dm : Int) (key : List UInt8) (qa : Option Addr) (qn qc : Nat) (hk : key.length = 32) (w : World) :
    Cs Try.prog 25 [(.pointer none), (.agg ⟨flat [(1, [(vi kd)]), (32, key.map vu8), (1, [(vi dm)]), (1, [(.slice qa qn qc)])]⟩)].toArray w (fun v w1 => v = (.tuple [(.agg ⟨(List.replicate 32 (0 : UInt8)).map vu8⟩), (vi 1)].toArray) ∧ Chg w w1 []) := by
  refine Cs.of (n := 25) (args := [(.pointer none), (.agg ⟨flat [(1, [(vi kd)]), (32, key.map vu8), (1, [(vi dm)]), (1, [(.slice qa qn qc)])]⟩)]) Try.func25 rfl rfl rfl ?_
  have h_0 := HP.init w
  refine WP.seq ?_
  refine WP.reg ?_
  refine WL.box (v := (.agg ⟨flat [(1, [(vi kd)]), (32, key.map vu8), (1, [(vi dm)]), (1, [(.slice qa qn qc)])]⟩)) (segs := [(1, [(vi kd)]), (32, key.map vu8), (1, [(vi dm)]), (1, [(.slice qa qn qc)])]) h_0 rfl rfl (SsOk.cons (SOk.v rfl) (SsOk.cons (SOk.u8 hk) (SsOk.cons (SOk.v rfl) (SsOk.cons (SOk.v rfl) SsOk.nil)))) rfl (fun b_1 w_2 h_3 => ?_)
  refine WL.alloc (segs := [(32, (List.replicate 32 (0 : UInt8)).map vu8)]) h_3 (zv Try.typeInfo29 rfl) rfl (SsOk.cons (SOk.u8 (List.length_replicate ..)) SsOk.nil) rfl (fun b_4 w_5 h_6 => ?_)
  refine WL.q (Wn.no rfl) rfl rfl (R.assign (v := (vi 0)) rfl) ?_
  refine WL.nil ?_
  refine thn_n ?_
  refine WP.seq ?_
  refine WP.block ?_
  refine WP.seq ?_
  refine WP.reg ?_
  refine WL.q (Wn.no rfl) rfl rfl (R.move (v := (.pointer none)) rfl) ?_
  refine WL.call (al := [(.pointer none)]) Try.call53 rfl rfl (c_othere_nil  _ ) rfl ?_
  rintro _ w_8 ⟨rfl, hc_7⟩
  have h_9 := h_6.same hc_7
  refine WL.q (Wn.no rfl) rfl rfl (R.not (b := false) rfl) ?_
  refine WL.q (Wn.no rfl) rfl rfl (R.assign (v := (.bool true)) rfl) ?_
  refine WL.nil ?_
  refine thn_n ?_
  refine WP.condT rfl ?_
  refine WP.seq ?_
  refine WP.reg ?_
  refine WL.q (Wn.no rfl) rfl rfl (R.buildA (vs := []) (cs := (List.replicate 32 (0 : UInt8)).map vu8) Try.underlying29 Try.sizeOf5 (zv Try.typeInfo29 rfl) rfl rfl) ?_
  refine WL.storeA (b := b_4) (off := 0) [] [(32, (List.replicate 32 (0 : UInt8)).map vu8)] [(32, (List.replicate 32 (0 : UInt8)).map vu8)] [] (ys := (List.replicate 32 (0 : UInt8)).map vu8) h_9 rfl rfl Try.sizeOf29 At.h (by decide) rfl rfl rfl rfl rfl rfl (SsOk.cons (SOk.u8 (List.length_replicate ..)) SsOk.nil) (fun w_10 h_11 => ?_)
  refine WL.q (Wn.no rfl) rfl rfl (R.assign (v := (vi 1)) rfl) ?_
  refine WL.nil ?_
  refine thn_n ?_
  refine WP.ret ?_
  refine inb_r ?_
  refine thn_r ?_
  refine ret_of Try.results25 (RV.cell rfl (h_11.loadA (cs := (List.replicate 32 (0 : UInt8)).map vu8) Try.isAgg29 Try.sizeOf29 (.head _) rfl rfl) (RV.tmp (v := (vi 1)) rfl RV.nil)) ?_
  exact ⟨rfl, h_11.chgS⟩

theorem c_oAsk_0 (ob mp : Nat) (ms : List UInt8) (hms : ms.length = 32) (da : Option Addr) (dn dc u : Nat) (la : Option Addr) (ln lc : Nat) (dm : Int) (key : List UInt8) (qa : Option Addr) (qn qc : Nat) (hk : key.length = 32) (w : World) (hcb : (Ent.blk ob .ro 47 [(1, [(.bool true)]), (32, ms.map vu8), (1, [(.slice da dn dc)]), (1, [(vi ((u : Nat) : Int))]), (1, [(.map (some mp))]), (1, [(.slice la ln lc)])]).ok w.heap.size w) :
    Cs Try.prog 25 [(.pointer (some ⟨ob, 0, none⟩)), (.agg ⟨flat [(1, [(vi 0)]), (32, key.map vu8), (1, [(vi dm)]), (1, [(.slice qa qn qc)])]⟩)].toArray w (fun v w1 => v = (.tuple [(.agg ⟨(List.replicate 32 (0 : UInt8)).map vu8⟩), (vi 2)].toArray) ∧ Chg w w1 []) := by
  refine Cs.of (n := 25) (args := [(.pointer (some ⟨ob, 0, none⟩)), (.agg ⟨flat [(1, [(vi 0)]), (32, key.map vu8), (1, [(vi dm)]), (1, [(.slice qa qn qc)])]⟩)]) Try.func25 rfl rfl rfl ?_
  have h_0 := HP.init w
  have h_00 := h_0.old hcb (fun f hf => by cases hf)
  refine WP.seq ?_
  refine WP.reg ?_
  refine WL.box (v := (.agg ⟨flat [(1, [(vi 0)]), (32, key.map vu8), (1, [(vi dm)]), (1, [(.slice qa qn qc)])]⟩)) (segs := [(1, [(vi 0)]), (32, key.map vu8), (1, [(vi dm)]), (1, [(.slice qa qn qc)])]) h_00 rfl rfl (SsOk.cons (SOk.v rfl) (SsOk.cons (SOk.u8 hk) (SsOk.cons (SOk.v rfl) (SsOk.cons (SOk.v rfl) SsOk.nil)))) rfl (fun b_1 w_2 h_3 => ?_)
  refine WL.alloc (segs := [(32, (List.replicate 32 (0 : UInt8)).map vu8)]) h_3 (zv Try.typeInfo29 rfl) rfl (SsOk.cons (SOk.u8 (List.length_replicate ..)) SsOk.nil) rfl (fun b_4 w_5 h_6 => ?_)
  refine WL.q (Wn.no rfl) rfl rfl (R.assign (v := (vi 0)) rfl) ?_
  refine WL.nil ?_
  refine thn_n ?_
  refine WP.seq ?_
  refine WP.block ?_
  refine WP.seq ?_
  refine WP.reg ?_
  refine WL.q (Wn.no rfl) rfl rfl (R.move (v := (.pointer (some ⟨ob, 0, none⟩))) rfl) ?_
  refine WL.call (al := [(.pointer (some ⟨ob, 0, none⟩))]) Try.call53 rfl rfl (c_othere ob mp ms hms da dn dc u la ln lc _ (h_6.argR (.tail _ (.tail _ (.head _))))) rfl ?_
  rintro _ w_8 ⟨rfl, hc_7⟩
  have h_9 := h_6.same hc_7
  refine WL.q (Wn.no rfl) rfl rfl (R.not (b := true) rfl) ?_
  refine WL.q (Wn.no rfl) rfl rfl (R.assign (v := (.bool false)) rfl) ?_
  refine WL.nil ?_
  refine thn_n ?_
  refine WP.condF rfl ?_
  refine WP.seq ?_
  refine WP.reg ?_
  refine WL.q (Wn.no rfl) rfl rfl (R.loadA (b := b_1) (off := 0) [] [(1, [(vi 0)]), (32, key.map vu8), (1, [(vi dm)]), (1, [(.slice qa qn qc)])] [] (cs := flat [(1, [(vi 0)]), (32, key.map vu8), (1, [(vi dm)]), (1, [(.slice qa qn qc)])]) rfl Try.isAgg64 Try.sizeOf64 (h_9.ok _ (.tail _ (.head _))) rfl rfl rfl rfl) ?_
  refine WL.call (al := [(.agg ⟨flat [(1, [(vi 0)]), (32, key.map vu8), (1, [(vi dm)]), (1, [(.slice qa qn qc)])]⟩)]) Try.call54 rfl rfl (c_may_0 dm key qa qn qc hk _ ) rfl ?_
  rintro _ w_11 ⟨rfl, hc_10⟩
  have h_12 := h_9.same hc_10
  refine WL.q (Wn.no rfl) rfl rfl (R.not (b := false) rfl) ?_
  refine WL.q (Wn.no rfl) rfl rfl (R.move (v := (.bool true)) rfl) ?_
  refine WL.skip rfl rfl rfl ?_
  refine WL.skip rfl rfl rfl ?_
  refine WL.skip rfl rfl rfl ?_
  refine WL.q (Wn.no rfl) rfl rfl (R.pickT (v := (.bool true)) rfl rfl) ?_
  refine WL.q (Wn.no rfl) rfl rfl (R.assign (v := (.bool true)) rfl) ?_
  refine WL.nil ?_
  refine thn_n ?_
  refine WP.condT rfl ?_
  refine WP.seq ?_
  refine WP.reg ?_
  refine WL.q (Wn.no rfl) rfl rfl (R.buildA (vs := []) (cs := (List.replicate 32 (0 : UInt8)).map vu8) Try.underlying29 Try.sizeOf5 (zv Try.typeInfo29 rfl) rfl rfl) ?_
  refine WL.storeA (b := b_4) (off := 0) [] [(32, (List.replicate 32 (0 : UInt8)).map vu8)] [(32, (List.replicate 32 (0 : UInt8)).map vu8)] [] (ys := (List.replicate 32 (0 : UInt8)).map vu8) h_12 rfl rfl Try.sizeOf29 At.h (by decide) rfl rfl rfl rfl rfl rfl (SsOk.cons (SOk.u8 (List.length_replicate ..)) SsOk.nil) (fun w_13 h_14 => ?_)
  refine WL.q (Wn.no rfl) rfl rfl (R.assign (v := (vi 2)) rfl) ?_
  refine WL.nil ?_
  refine thn_n ?_
  refine WP.ret ?_
  refine inb_r ?_
  refine thn_r ?_
  refine ret_of Try.results25 (RV.cell rfl (h_14.loadA (cs := (List.replicate 32 (0 : UInt8)).map vu8) Try.isAgg29 Try.sizeOf29 (.head _) rfl rfl) (RV.tmp (v := (vi 2)) rfl RV.nil)) ?_
  exact ⟨rfl, h_14.chgS⟩

theorem c_oAsk {w00 : World} {L : List Ent} (ob mp : Nat) (ms df : List UInt8) (hms : ms.length = 32) (da : Option Addr) (dn dc u : Nat) (hdf : df.length = 32 * dn) (la : Option Addr) (lc : Nat) (lx : List Value) (lg : Lg) (hu : u ≤ 1000000) (hlg : lg.length ≤ 1000000) (kd dm : Int) (key data : List UInt8) (qa : Option Addr) (qn qc : Nat) (hq : okQ (kd, key, dm, data)) (hdl : data.length = qn) (hk4 : ¬ kd = 4) (hz : kd = 1 → key = List.replicate 32 0) (w : World) (h_0 : HP w00 w (Ent.blk ob .nw 47 [(1, [(.bool true)]), (32, ms.map vu8), (1, [(.slice da dn dc)]), (1, [(vi ((u : Nat) : Int))]), (1, [(.map (some mp))]), (1, [(.slice la lg.length lc)])] :: Ent.row la lg.length lc 71 67 lx :: Ent.obj mp .nw (.map (mArr lg) lg.length) :: Ent.pin (sblks lx) (fun w => Lgs w lx lg) :: Ent.view da (df.map vu8) :: Ent.view qa (data.map vu8) :: L)) :
    Cs Try.prog 25 [(.pointer (some ⟨ob, 0, none⟩)), (.agg ⟨flat [(1, [(vi kd)]), (32, key.map vu8), (1, [(vi dm)]), (1, [(.slice qa qn qc)])]⟩)].toArray w (fun v w1 => ∃ la' lc' lx', v = (.tuple [(.agg ⟨(ansD df dn u lg (kd, key, dm, data)).map vu8⟩), (vi 0)].toArray) ∧ HP w00 w1 (Ent.blk ob .nw 47 [(1, [(.bool true)]), (32, ms.map vu8), (1, [(.slice da dn dc)]), (1, [(vi (((ansU u lg (kd, key, dm, data)) : Nat) : Int))]), (1, [(.map (some mp))]), (1, [(.slice la' ((ansL df dn u lg (kd, key, dm, data)).length) lc')])] :: Ent.row la' ((ansL df dn u lg (kd, key, dm, data)).length) lc' 71 67 lx' :: Ent.obj mp .nw (.map (mArr (ansL df dn u lg (kd, key, dm, data))) ((ansL df dn u lg (kd, key, dm, data)).length)) :: Ent.pin (sblks lx') (fun w => Lgs w lx' (ansL df dn u lg (kd, key, dm, data))) :: Ent.view da (df.map vu8) :: Ent.view qa (data.map vu8) :: L)) := by
  refine Cs.of (n := 25) (args := [(.pointer (some ⟨ob, 0, none⟩)), (.agg ⟨flat [(1, [(vi kd)]), (32, key.map vu8), (1, [(vi dm)]), (1, [(.slice qa qn qc)])]⟩)]) Try.func25 rfl rfl rfl ?_
  refine WP.seq ?_
  refine WP.reg ?_
  refine WL.box (v := (.agg ⟨flat [(1, [(vi kd)]), (32, key.map vu8), (1, [(vi dm)]), (1, [(.slice qa qn qc)])]⟩)) (segs := [(1, [(vi kd)]), (32, key.map vu8), (1, [(vi dm)]), (1, [(.slice qa qn qc)])]) h_0 rfl rfl (SsOk.cons (SOk.v rfl) (SsOk.cons (SOk.u8 hq.1) (SsOk.cons (SOk.v rfl) (SsOk.cons (SOk.v rfl) SsOk.nil)))) rfl (fun b_1 w_2 h_3 => ?_)
  refine WL.alloc (segs := [(32, (List.replicate 32 (0 : UInt8)).map vu8)]) h_3 (zv Try.typeInfo29 rfl) rfl (SsOk.cons (SOk.u8 (List.length_replicate ..)) SsOk.nil) rfl (fun b_4 w_5 h_6 => ?_)
  refine WL.q (Wn.no rfl) rfl rfl (R.assign (v := (vi 0)) rfl) ?_
  refine WL.nil ?_
  refine thn_n ?_
  refine WP.seq ?_
  refine WP.block ?_
  refine WP.seq ?_
  refine WP.reg ?_
  refine WL.q (Wn.no rfl) rfl rfl (R.move (v := (.pointer (some ⟨ob, 0, none⟩))) rfl) ?_
  refine WL.call (al := [(.pointer (some ⟨ob, 0, none⟩))]) Try.call53 rfl rfl (c_othere ob mp ms hms da dn dc u la lg.length lc _ (h_6.argR (.tail _ (.tail _ (.head _))))) rfl ?_
  rintro _ w_8 ⟨rfl, hc_7⟩
  have h_9 := h_6.same hc_7
  refine WL.q (Wn.no rfl) rfl rfl (R.not (b := true) rfl) ?_
  refine WL.q (Wn.no rfl) rfl rfl (R.assign (v := (.bool false)) rfl) ?_
  refine WL.nil ?_
  refine thn_n ?_
  refine WP.condF rfl ?_
  refine WP.seq ?_
  refine WP.reg ?_
  refine WL.q (Wn.no rfl) rfl rfl (R.loadA (b := b_1) (off := 0) [] [(1, [(vi kd)]), (32, key.map vu8), (1, [(vi dm)]), (1, [(.slice qa qn qc)])] [] (cs := flat [(1, [(vi kd)]), (32, key.map vu8), (1, [(vi dm)]), (1, [(.slice qa qn qc)])]) rfl Try.isAgg64 Try.sizeOf64 (h_9.ok _ (.tail _ (.head _))) rfl rfl rfl rfl) ?_
  refine WL.call (al := [(.agg ⟨flat [(1, [(vi kd)]), (32, key.map vu8), (1, [(vi dm)]), (1, [(.slice qa qn qc)])]⟩)]) Try.call54 rfl rfl (c_may kd dm key qa qn qc hq.1 (hq.2.1) (hq.2.2.1) hz _ ) rfl ?_
  rintro _ w_11 ⟨rfl, hc_10⟩
  have h_12 := h_9.same hc_10
  refine WL.q (Wn.no rfl) rfl rfl (R.not (b := true) rfl) ?_
  refine WL.q (Wn.no rfl) rfl rfl (R.move (v := (.bool false)) rfl) ?_
  refine WL.want rfl rfl ?_
  refine WL.q (Wn.no rfl) rfl rfl (R.fieldAddr (b := b_1) (off := 0) (off' := 0) rfl Try.underlying64 rfl Try.sizeOf60 rfl rfl) ?_
  refine WL.want rfl rfl ?_
  refine WL.q (Wn.no rfl) rfl rfl (R.load1 (b := b_1) (off := 0) (v := (vi kd)) rfl Try.isAgg60 (h_12.ok _ (.tail _ (.head _))) Sg.h) ?_
  refine WL.want rfl rfl ?_
  refine WL.q (Wn.no rfl) rfl rfl (R.bin (v := (.bool (decide ((kd : Int) = 4)))) rfl rfl (bi_eql (r := decide ((kd : Int) = 4)) rfl)) ?_
  refine WL.q (Wn.no rfl) rfl rfl (R.pickF (v := (.bool (decide ((kd : Int) = 4)))) rfl rfl) ?_
  refine WL.q (Wn.no rfl) rfl rfl (R.assign (v := (.bool (decide ((kd : Int) = 4)))) rfl) ?_
  refine WL.nil ?_
  refine thn_n ?_
  refine WP.condF (congrArg Value.bool (decide_eq_false hk4)) ?_
  refine WP.skip ?_
  refine inb_n ?_
  refine thn_n ?_
  refine WP.seq ?_
  refine WP.reg ?_
  refine WL.q (Wn.no rfl) rfl rfl (R.move (v := (.pointer (some ⟨ob, 0, none⟩))) rfl) ?_
  refine WL.q (Wn.no rfl) rfl rfl (R.loadA (b := b_1) (off := 0) [] [(1, [(vi kd)]), (32, key.map vu8), (1, [(vi dm)]), (1, [(.slice qa qn qc)])] [] (cs := flat [(1, [(vi kd)]), (32, key.map vu8), (1, [(vi dm)]), (1, [(.slice qa qn qc)])]) rfl Try.isAgg64 Try.sizeOf64 (h_12.ok _ (.tail _ (.head _))) rfl rfl rfl rfl) ?_
  refine WL.q (Wn.no rfl) rfl rfl (R.makeFuncL (fi := []) (ca := [(.pointer (some ⟨b_1, 0, none⟩))]) rfl rfl) ?_
  have h_13 := h_12.up (Pick.t (Pick.t (Pick.t (Pick.t (Pick.t (Pick.t (Pick.t Pick.h)))))))
  have h_14 := h_13.up (Pick.t (Pick.t (Pick.t (Pick.t (Pick.t (Pick.t (Pick.t Pick.h)))))))
  have h_15 := h_14.up (Pick.t (Pick.t (Pick.t (Pick.t (Pick.t (Pick.t (Pick.t Pick.h)))))))
  have h_16 := h_15.up (Pick.t (Pick.t (Pick.t (Pick.t (Pick.t (Pick.t (Pick.t Pick.h)))))))
  have h_17 := h_16.up (Pick.t (Pick.t (Pick.t (Pick.t (Pick.t (Pick.t (Pick.t Pick.h)))))))
  have h_18 := h_17.up (Pick.t (Pick.t (Pick.t (Pick.t (Pick.t (Pick.t (Pick.t Pick.h)))))))
  have h32_w_22 := (Lgs.ok32 (h_18.ok _ (.tail _ (.tail _ (.tail _ (.head _))))).1)
  refine WL.call (al := [(.pointer (some ⟨ob, 0, none⟩)), (.agg ⟨flat [(1, [(vi kd)]), (32, key.map vu8), (1, [(vi dm)]), (1, [(.slice qa qn qc)])]⟩), (Value.func (Fn.func 56) [].toArray [(Value.pointer (some ⟨b_1, 0, none⟩))].toArray)]) Try.call55 rfl rfl (c_ans ob mp ms df hms da dn dc u hdf la lc lx lg (by first | decide | omega) (by first | decide | omega) kd dm key data qa qn qc hq hdl (Value.func (Fn.func 56) [].toArray [(Value.pointer (some ⟨b_1, 0, none⟩))].toArray) _ h_18) rfl ?_
  rintro _ w_22 ⟨la_19, lc_20, lx_21, rfl, h_23⟩
  refine WL.storeA (b := b_4) (off := 0) [] [(32, (List.replicate 32 (0 : UInt8)).map vu8)] [(32, (ansD df dn u lg (kd, key, dm, data)).map vu8)] [] (ys := (ansD df dn u lg (kd, key, dm, data)).map vu8) h_23 rfl rfl Try.sizeOf29 (At.t (At.t (At.t (At.t (At.t (At.t At.h)))))) (by decide) rfl rfl rfl rfl rfl rfl (SsOk.cons (SOk.u8 (ansD_len hdf h32_w_22)) SsOk.nil) (fun w_24 h_25 => ?_)
  refine WL.q (Wn.no rfl) rfl rfl (R.assign (v := (vi 0)) rfl) ?_
  refine WL.nil ?_
  refine thn_n ?_
  refine WP.ret ?_
  refine ret_of Try.results25 (RV.cell rfl (h_25.loadA (cs := (ansD df dn u lg (kd, key, dm, data)).map vu8) Try.isAgg29 Try.sizeOf29 (.tail _ (.tail _ (.tail _ (.tail _ (.tail _ (.tail _ (.head _))))))) rfl rfl) (RV.tmp (v := (vi 0)) rfl RV.nil)) ?_
  have h_26 := h_25.up (Pick.t (Pick.t (Pick.t (Pick.t (Pick.t (Pick.t Pick.h))))))
  have h_27 := h_26.drop rfl
  have h_28 := h_27.up (Pick.t (Pick.t (Pick.t (Pick.t (Pick.t (Pick.t Pick.h))))))
  have h_29 := h_28.drop rfl
  have h_30 := h_29.up (Pick.t (Pick.t (Pick.t (Pick.t (Pick.t Pick.h)))))
  have h_31 := h_30.up (Pick.t (Pick.t (Pick.t (Pick.t (Pick.t Pick.h)))))
  have h_32 := h_31.up (Pick.t (Pick.t (Pick.t (Pick.t (Pick.t Pick.h)))))
  have h_33 := h_32.up (Pick.t (Pick.t (Pick.t (Pick.t (Pick.t Pick.h)))))
  have h_34 := h_33.up (Pick.t (Pick.t (Pick.t (Pick.t (Pick.t Pick.h)))))
  have h_35 := h_34.up (Pick.t (Pick.t (Pick.t (Pick.t (Pick.t Pick.h)))))
  exact ⟨_, _, _, rfl, h_35⟩
end Go.Proofs.Ytbldmljbfokobaa
