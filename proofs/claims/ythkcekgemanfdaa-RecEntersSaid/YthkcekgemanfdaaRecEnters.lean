/- RecEnters holds of every input. Conditions: none. -/
import Derived.Test.YthkcekgemanfdaaB1
namespace Go.Proofs.Ythkcekgemanfdaa
open Go.Vc Go.RowKit
set_option linter.unusedVariables false
set_option linter.unusedSimpArgs false
theorem w_RecEnters_a (rd : Int) (ins : UInt64) (regs : List UInt64) (hr : regs.length = 8) (pc : UInt64) (b_rd : -9223372036854775808 ≤ rd ∧ rd < 9223372036854775808) (ain : List UInt64) (ha : ain.length = 4) (wt : Int) (b_wt : -9223372036854775808 ≤ wt ∧ wt < 9223372036854775808) (w : World) :
    Cs Try.prog 3 [(.agg ⟨flat [(1, [(vi rd)]), (1, [(vu64 ins)]), (8, regs.map vu64), (1, [(vu64 pc)]), (1, [(.bool false)]), (1, [(vi wt)])]⟩), (.agg ⟨ain.map vu64⟩)].toArray w (fun v w1 => v = .bool true ∧ Chg w w1 []) := by
  refine Cs.of (n := 74) (args := [(.agg ⟨flat [(1, [(vi rd)]), (1, [(vu64 ins)]), (8, regs.map vu64), (1, [(vu64 pc)]), (1, [(.bool false)]), (1, [(vi wt)])]⟩), (.agg ⟨ain.map vu64⟩)]) Try.func3 rfl rfl rfl ?_
  have h_0 := HP.init w
  refine WP.seq ?_
  refine WP.reg ?_
  refine WL.box (v := (.agg ⟨flat [(1, [(vi rd)]), (1, [(vu64 ins)]), (8, regs.map vu64), (1, [(vu64 pc)]), (1, [(.bool false)]), (1, [(vi wt)])]⟩)) (segs := [(1, [(vi rd)]), (1, [(vu64 ins)]), (8, regs.map vu64), (1, [(vu64 pc)]), (1, [(.bool false)]), (1, [(vi wt)])]) h_0 rfl rfl (SsOk.cons (SOk.v rfl) (SsOk.cons (SOk.v rfl) (SsOk.cons (SOk.u64 hr) (SsOk.cons (SOk.v rfl) (SsOk.cons (SOk.v rfl) (SsOk.cons (SOk.v rfl) SsOk.nil)))))) rfl (fun b_1 w_2 h_3 => ?_)
  refine WL.box (v := (.agg ⟨ain.map vu64⟩)) (segs := [(4, ain.map vu64)]) h_3 rfl rfl (SsOk.cons (SOk.u64 ha) SsOk.nil) rfl (fun b_4 w_5 h_6 => ?_)
  refine WL.q (Wn.no rfl) rfl rfl (R.assign (v := (.bool false)) rfl) ?_
  refine WL.nil ?_
  refine thn_n ?_
  refine WP.seq ?_
  refine WP.reg ?_
  refine WL.q (Wn.no rfl) rfl rfl (R.loadA (b := b_1) (off := 0) [] [(1, [(vi rd)]), (1, [(vu64 ins)]), (8, regs.map vu64), (1, [(vu64 pc)]), (1, [(.bool false)]), (1, [(vi wt)])] [] (cs := flat [(1, [(vi rd)]), (1, [(vu64 ins)]), (8, regs.map vu64), (1, [(vu64 pc)]), (1, [(.bool false)]), (1, [(vi wt)])]) rfl Try.isAgg28 Try.sizeOf28 (h_6.ok _ (.tail _ (.head _))) rfl rfl rfl rfl) ?_
  refine WL.q (Wn.no rfl) rfl rfl (R.loadA (b := b_4) (off := 0) [] [(4, ain.map vu64)] [] (cs := ain.map vu64) rfl Try.isAgg31 Try.sizeOf31 (h_6.ok _ (.head _)) rfl rfl rfl rfl) ?_
  refine WL.call (al := [(.agg ⟨flat [(1, [(vi rd)]), (1, [(vu64 ins)]), (8, regs.map vu64), (1, [(vu64 pc)]), (1, [(.bool false)]), (1, [(vi wt)])]⟩), (.agg ⟨ain.map vu64⟩)]) Try.call13 rfl rfl (c_Enter_no rd ins regs hr pc false wt ain ha rfl _) rfl ?_
  rintro _ w_8 ⟨rfl, hc_7⟩
  have h_9 := h_6.same hc_7
  refine WL.q (Wn.no rfl) rfl rfl (R.move (v := (.tuple [(.agg ⟨flat [(1, [(vi 0)]), (1, [(vu64 0)]), (8, (List.replicate 8 (0 : UInt64)).map vu64), (1, [(vu64 0)]), (1, [(.bool false)]), (1, [(vi 0)])]⟩), (vi 7)].toArray)) rfl) ?_
  refine WL.q (Wn.no rfl) rfl rfl (R.extract (l := [(.agg ⟨flat [(1, [(vi 0)]), (1, [(vu64 0)]), (8, (List.replicate 8 (0 : UInt64)).map vu64), (1, [(vu64 0)]), (1, [(.bool false)]), (1, [(vi 0)])]⟩), (vi 7)]) (v := (.agg ⟨flat [(1, [(vi 0)]), (1, [(vu64 0)]), (8, (List.replicate 8 (0 : UInt64)).map vu64), (1, [(vu64 0)]), (1, [(.bool false)]), (1, [(vi 0)])]⟩)) rfl rfl) ?_
  refine WL.q (Wn.no rfl) rfl rfl (R.extract (l := [(.agg ⟨flat [(1, [(vi 0)]), (1, [(vu64 0)]), (8, (List.replicate 8 (0 : UInt64)).map vu64), (1, [(vu64 0)]), (1, [(.bool false)]), (1, [(vi 0)])]⟩), (vi 7)]) (v := (vi 7)) rfl rfl) ?_
  refine WL.alloc (segs := [(1, [(vi 0)]), (1, [(vu64 0)]), (8, (List.replicate 8 (0 : UInt64)).map vu64), (1, [(vu64 0)]), (1, [(.bool false)]), (1, [(vi 0)])]) h_9 (zv Try.typeInfo28 rfl) rfl (SsOk.cons (SOk.v rfl) (SsOk.cons (SOk.v rfl) (SsOk.cons (SOk.u64 (List.length_replicate ..)) (SsOk.cons (SOk.v rfl) (SsOk.cons (SOk.v rfl) (SsOk.cons (SOk.v rfl) SsOk.nil)))))) rfl (fun b_10 w_11 h_12 => ?_)
  refine WL.storeA (b := b_10) (off := 0) [] [(1, [(vi 0)]), (1, [(vu64 0)]), (8, (List.replicate 8 (0 : UInt64)).map vu64), (1, [(vu64 0)]), (1, [(.bool false)]), (1, [(vi 0)])] [(1, [(vi 0)]), (1, [(vu64 0)]), (8, (List.replicate 8 (0 : UInt64)).map vu64), (1, [(vu64 0)]), (1, [(.bool false)]), (1, [(vi 0)])] [] (ys := flat [(1, [(vi 0)]), (1, [(vu64 0)]), (8, (List.replicate 8 (0 : UInt64)).map vu64), (1, [(vu64 0)]), (1, [(.bool false)]), (1, [(vi 0)])]) h_12 rfl rfl Try.sizeOf28 At.h (by decide) rfl rfl rfl rfl rfl rfl (SsOk.cons (SOk.v rfl) (SsOk.cons (SOk.v rfl) (SsOk.cons (SOk.u64 (List.length_replicate ..)) (SsOk.cons (SOk.v rfl) (SsOk.cons (SOk.v rfl) (SsOk.cons (SOk.v rfl) SsOk.nil)))))) (fun w_13 h_14 => ?_)
  refine WL.q (Wn.no rfl) rfl rfl (R.assign (v := (vi 7)) rfl) ?_
  refine WL.nil ?_
  refine thn_n ?_
  refine WP.seq ?_
  refine WP.reg ?_
  refine WL.q (Wn.no rfl) rfl rfl (R.fieldAddr (b := b_1) (off := 0) (off' := 11) rfl Try.underlying28 rfl Try.sizeOf4 rfl rfl) ?_
  refine WL.q (Wn.no rfl) rfl rfl (R.load1 (b := b_1) (off := 11) (v := (.bool false)) rfl Try.isAgg4 (h_14.ok _ (.tail _ (.tail _ (.head _)))) (Sg.t rfl (Sg.t rfl (Sg.t rfl (Sg.t rfl Sg.h))))) ?_
  refine WL.q (Wn.no rfl) rfl rfl (R.move (v := (.bool false)) rfl) ?_
  refine WL.skip rfl rfl rfl ?_
  refine WL.skip rfl rfl rfl ?_
  refine WL.skip rfl rfl rfl ?_
  refine WL.q (Wn.no rfl) rfl rfl (R.pickF (v := (.bool false)) rfl rfl) ?_
  refine WL.q (Wn.no rfl) rfl rfl (R.assign (v := (.bool false)) rfl) ?_
  refine WL.nil ?_
  refine thn_n ?_
  refine WP.seq ?_
  refine WP.seq ?_
  refine WP.reg ?_
  refine WL.q (Wn.no rfl) rfl rfl (R.move (v := (.bool false)) rfl) ?_
  refine WL.q (Wn.no rfl) rfl rfl (R.not (b := false) rfl) ?_
  refine WL.nil ?_
  refine thn_n ?_
  refine WP.condT rfl ?_
  refine WP.seq ?_
  refine WP.reg ?_
  refine WL.q (Wn.no rfl) rfl rfl (R.move (v := (vi 7)) rfl) ?_
  refine WL.q (Wn.no rfl) rfl rfl (R.bin (v := (.bool true)) rfl rfl (bi_eql (r := true) (by decide))) ?_
  refine WL.q (Wn.no rfl) rfl rfl (R.move (v := (.bool true)) rfl) ?_
  refine WL.want rfl rfl ?_
  refine WL.q (Wn.no rfl) rfl rfl (R.loadA (b := b_10) (off := 0) [] [(1, [(vi 0)]), (1, [(vu64 0)]), (8, (List.replicate 8 (0 : UInt64)).map vu64), (1, [(vu64 0)]), (1, [(.bool false)]), (1, [(vi 0)])] [] (cs := flat [(1, [(vi 0)]), (1, [(vu64 0)]), (8, (List.replicate 8 (0 : UInt64)).map vu64), (1, [(vu64 0)]), (1, [(.bool false)]), (1, [(vi 0)])]) rfl Try.isAgg28 Try.sizeOf28 (h_14.ok _ (.head _)) rfl rfl rfl rfl) ?_
  refine WL.want rfl rfl ?_
  refine WL.q (Wn.no rfl) rfl rfl (R.buildS (pl := [(0, 1), (1, 1), (2, 9), (11, 1), (12, 1)]) (zs := [(1, [(vi 0)]), (1, [(vu64 0)]), (8, (List.replicate 8 (0 : UInt64)).map vu64), (1, [(vu64 0)]), (1, [(.bool false)]), (1, [(vi 0)])]) (vs := []) (out := [(1, [(vi 0)]), (1, [(vu64 0)]), (8, (List.replicate 8 (0 : UInt64)).map vu64), (1, [(vu64 0)]), (1, [(.bool false)]), (1, [(vi 0)])]) (cs := flat [(1, [(vi 0)]), (1, [(vu64 0)]), (8, (List.replicate 8 (0 : UInt64)).map vu64), (1, [(vu64 0)]), (1, [(.bool false)]), (1, [(vi 0)])]) Try.underlying28 (zv Try.typeInfo28 rfl) rfl (SsOk.cons (SOk.v rfl) (SsOk.cons (SOk.v rfl) (SsOk.cons (SOk.u64 (List.length_replicate ..)) (SsOk.cons (SOk.v rfl) (SsOk.cons (SOk.v rfl) (SsOk.cons (SOk.v rfl) SsOk.nil)))))) (pl28 _ Try.underlying28) rfl FillR.nil rfl) ?_
  refine WL.want rfl rfl ?_
  refine WL.q (Wn.no rfl) rfl rfl (R.eqA (xs := flat [(1, [(vi 0)]), (1, [(vu64 0)]), (8, (List.replicate 8 (0 : UInt64)).map vu64), (1, [(vu64 0)]), (1, [(.bool false)]), (1, [(vi 0)])]) (ys := flat [(1, [(vi 0)]), (1, [(vu64 0)]), (8, (List.replicate 8 (0 : UInt64)).map vu64), (1, [(vu64 0)]), (1, [(.bool false)]), (1, [(vi 0)])]) (r := true) rfl rfl Try.eqGuardType28 kt28 (by decide) ag28 (Typ.struct (h := 3) (r := [(1, [(vi 0)]), (1, [(vu64 0)]), (9, flat [(8, (List.replicate 8 (0 : UInt64)).map vu64), (1, [(vu64 0)])]), (1, [(.bool false)]), (1, [(vi 0)])]) (cs := flat [(1, [(vi 0)]), (1, [(vu64 0)]), (8, (List.replicate 8 (0 : UInt64)).map vu64), (1, [(vu64 0)]), (1, [(.bool false)]), (1, [(vi 0)])]) Try.underlying28 (TypF.cons (k := 1) rfl rfl (by decide) rfl (Typ.int Try.underlying3 ce3 (by decide)) (TypF.cons (k := 1) rfl rfl (by decide) rfl (Typ.int Try.underlying22 ce22 (wfu64 0)) (TypF.cons (k := 9) rfl rfl (by decide) ((SsOk.cons (SOk.u64 (List.length_replicate ..)) (SsOk.cons (SOk.v rfl) SsOk.nil))).len (Typ.struct (h := 2) (r := [(8, (List.replicate 8 (0 : UInt64)).map vu64), (1, [(vu64 0)])]) (cs := flat [(8, (List.replicate 8 (0 : UInt64)).map vu64), (1, [(vu64 0)])]) Try.underlying25 (TypF.cons (k := 8) rfl rfl (by decide) (len_map (List.length_replicate ..)) (Typ.u64s Try.underlying23 ce23 Try.underlying22 ce22 (List.length_replicate ..)) (TypF.cons (k := 1) rfl rfl (by decide) rfl (Typ.int Try.underlying22 ce22 (wfu64 0)) TypF.nil)) rfl (((SsOk.cons (SOk.u64 (List.length_replicate ..)) (SsOk.cons (SOk.v rfl) SsOk.nil))).len.trans ce25.symm)) (TypF.cons (k := 1) rfl rfl (by decide) rfl (Typ.bool Try.underlying4 ce4) (TypF.cons (k := 1) rfl rfl (by decide) rfl (Typ.int Try.underlying26 ce26 (by decide)) TypF.nil))))) (by simp [flat]) (((SsOk.cons (SOk.v rfl) (SsOk.cons (SOk.v rfl) (SsOk.cons (SOk.u64 (List.length_replicate ..)) (SsOk.cons (SOk.v rfl) (SsOk.cons (SOk.v rfl) (SsOk.cons (SOk.v rfl) SsOk.nil))))))).len.trans ce28.symm)) (Typ.struct (h := 3) (r := [(1, [(vi 0)]), (1, [(vu64 0)]), (9, flat [(8, (List.replicate 8 (0 : UInt64)).map vu64), (1, [(vu64 0)])]), (1, [(.bool false)]), (1, [(vi 0)])]) (cs := flat [(1, [(vi 0)]), (1, [(vu64 0)]), (8, (List.replicate 8 (0 : UInt64)).map vu64), (1, [(vu64 0)]), (1, [(.bool false)]), (1, [(vi 0)])]) Try.underlying28 (TypF.cons (k := 1) rfl rfl (by decide) rfl (Typ.int Try.underlying3 ce3 (by decide)) (TypF.cons (k := 1) rfl rfl (by decide) rfl (Typ.int Try.underlying22 ce22 (wfu64 0)) (TypF.cons (k := 9) rfl rfl (by decide) ((SsOk.cons (SOk.u64 (List.length_replicate ..)) (SsOk.cons (SOk.v rfl) SsOk.nil))).len (Typ.struct (h := 2) (r := [(8, (List.replicate 8 (0 : UInt64)).map vu64), (1, [(vu64 0)])]) (cs := flat [(8, (List.replicate 8 (0 : UInt64)).map vu64), (1, [(vu64 0)])]) Try.underlying25 (TypF.cons (k := 8) rfl rfl (by decide) (len_map (List.length_replicate ..)) (Typ.u64s Try.underlying23 ce23 Try.underlying22 ce22 (List.length_replicate ..)) (TypF.cons (k := 1) rfl rfl (by decide) rfl (Typ.int Try.underlying22 ce22 (wfu64 0)) TypF.nil)) rfl (((SsOk.cons (SOk.u64 (List.length_replicate ..)) (SsOk.cons (SOk.v rfl) SsOk.nil))).len.trans ce25.symm)) (TypF.cons (k := 1) rfl rfl (by decide) rfl (Typ.bool Try.underlying4 ce4) (TypF.cons (k := 1) rfl rfl (by decide) rfl (Typ.int Try.underlying26 ce26 (by decide)) TypF.nil))))) (by simp [flat]) (((SsOk.cons (SOk.v rfl) (SsOk.cons (SOk.v rfl) (SsOk.cons (SOk.u64 (List.length_replicate ..)) (SsOk.cons (SOk.v rfl) (SsOk.cons (SOk.v rfl) (SsOk.cons (SOk.v rfl) SsOk.nil))))))).len.trans ce28.symm)) (eqT rfl)) ?_
  refine WL.q (Wn.no rfl) rfl rfl (R.pickT (v := (.bool true)) rfl rfl) ?_
  refine WL.q (Wn.no rfl) rfl rfl (R.move (v := (.bool true)) rfl) ?_
  refine WL.want rfl rfl ?_
  refine WL.q (Wn.no rfl) rfl rfl (R.loadA (b := b_1) (off := 0) [] [(1, [(vi rd)]), (1, [(vu64 ins)]), (8, regs.map vu64), (1, [(vu64 pc)]), (1, [(.bool false)]), (1, [(vi wt)])] [] (cs := flat [(1, [(vi rd)]), (1, [(vu64 ins)]), (8, regs.map vu64), (1, [(vu64 pc)]), (1, [(.bool false)]), (1, [(vi wt)])]) rfl Try.isAgg28 Try.sizeOf28 (h_14.ok _ (.tail _ (.tail _ (.head _)))) rfl rfl rfl rfl) ?_
  refine WL.want rfl rfl ?_
  refine WL.call (al := [(.agg ⟨flat [(1, [(vi rd)]), (1, [(vu64 ins)]), (8, regs.map vu64), (1, [(vu64 pc)]), (1, [(.bool false)]), (1, [(vi wt)])]⟩)]) Try.call14 rfl rfl (c_May rd ins regs hr pc false wt 7 rfl _) rfl ?_
  rintro _ w_17 ⟨rfl, hc_16⟩
  have h_18 := h_14.same hc_16
  refine WL.want rfl rfl ?_
  refine WL.q (Wn.no rfl) rfl rfl (R.bin (v := (.bool true)) rfl rfl (bi_eql (r := true) (by decide))) ?_
  refine WL.q (Wn.no rfl) rfl rfl (R.pickT (v := (.bool true)) rfl rfl) ?_
  refine WL.q (Wn.no rfl) rfl rfl (R.move (v := (.bool true)) rfl) ?_
  refine WL.want rfl rfl ?_
  refine WL.call (al := []) Try.call15 rfl rfl (c_known14  _) rfl ?_
  rintro _ w_20 ⟨rfl, hc_19⟩
  have h_21 := h_18.same hc_19
  refine WL.q (Wn.no rfl) rfl rfl (R.pickT (v := (.bool true)) rfl rfl) ?_
  refine WL.q (Wn.no rfl) rfl rfl (R.assign (v := (.bool true)) rfl) ?_
  refine WL.nil ?_
  refine thn_n ?_
  refine WP.ret ?_
  refine thn_r ?_
  refine ret_of Try.results3 (RV.tmp (v := (.bool true)) rfl RV.nil) ?_
  exact ⟨rfl, h_21.chgS⟩

theorem w_RecEnters_b (rd : Int) (ins : UInt64) (regs : List UInt64) (hr : regs.length = 8) (pc : UInt64) (b_rd : -9223372036854775808 ≤ rd ∧ rd < 9223372036854775808) (ain : List UInt64) (ha : ain.length = 4) (w : World) :
    Cs Try.prog 3 [(.agg ⟨flat [(1, [(vi rd)]), (1, [(vu64 ins)]), (8, regs.map vu64), (1, [(vu64 pc)]), (1, [(.bool true)]), (1, [(vi 3)])]⟩), (.agg ⟨ain.map vu64⟩)].toArray w (fun v w1 => v = .bool true ∧ Chg w w1 []) := by
  refine Cs.of (n := 74) (args := [(.agg ⟨flat [(1, [(vi rd)]), (1, [(vu64 ins)]), (8, regs.map vu64), (1, [(vu64 pc)]), (1, [(.bool true)]), (1, [(vi 3)])]⟩), (.agg ⟨ain.map vu64⟩)]) Try.func3 rfl rfl rfl ?_
  have h_0 := HP.init w
  refine WP.seq ?_
  refine WP.reg ?_
  refine WL.box (v := (.agg ⟨flat [(1, [(vi rd)]), (1, [(vu64 ins)]), (8, regs.map vu64), (1, [(vu64 pc)]), (1, [(.bool true)]), (1, [(vi 3)])]⟩)) (segs := [(1, [(vi rd)]), (1, [(vu64 ins)]), (8, regs.map vu64), (1, [(vu64 pc)]), (1, [(.bool true)]), (1, [(vi 3)])]) h_0 rfl rfl (SsOk.cons (SOk.v rfl) (SsOk.cons (SOk.v rfl) (SsOk.cons (SOk.u64 hr) (SsOk.cons (SOk.v rfl) (SsOk.cons (SOk.v rfl) (SsOk.cons (SOk.v rfl) SsOk.nil)))))) rfl (fun b_1 w_2 h_3 => ?_)
  refine WL.box (v := (.agg ⟨ain.map vu64⟩)) (segs := [(4, ain.map vu64)]) h_3 rfl rfl (SsOk.cons (SOk.u64 ha) SsOk.nil) rfl (fun b_4 w_5 h_6 => ?_)
  refine WL.q (Wn.no rfl) rfl rfl (R.assign (v := (.bool false)) rfl) ?_
  refine WL.nil ?_
  refine thn_n ?_
  refine WP.seq ?_
  refine WP.reg ?_
  refine WL.q (Wn.no rfl) rfl rfl (R.loadA (b := b_1) (off := 0) [] [(1, [(vi rd)]), (1, [(vu64 ins)]), (8, regs.map vu64), (1, [(vu64 pc)]), (1, [(.bool true)]), (1, [(vi 3)])] [] (cs := flat [(1, [(vi rd)]), (1, [(vu64 ins)]), (8, regs.map vu64), (1, [(vu64 pc)]), (1, [(.bool true)]), (1, [(vi 3)])]) rfl Try.isAgg28 Try.sizeOf28 (h_6.ok _ (.tail _ (.head _))) rfl rfl rfl rfl) ?_
  refine WL.q (Wn.no rfl) rfl rfl (R.loadA (b := b_4) (off := 0) [] [(4, ain.map vu64)] [] (cs := ain.map vu64) rfl Try.isAgg31 Try.sizeOf31 (h_6.ok _ (.head _)) rfl rfl rfl rfl) ?_
  refine WL.call (al := [(.agg ⟨flat [(1, [(vi rd)]), (1, [(vu64 ins)]), (8, regs.map vu64), (1, [(vu64 pc)]), (1, [(.bool true)]), (1, [(vi 3)])]⟩), (.agg ⟨ain.map vu64⟩)]) Try.call13 rfl rfl (c_Enter_no rd ins regs hr pc true 3 ain ha rfl _) rfl ?_
  rintro _ w_8 ⟨rfl, hc_7⟩
  have h_9 := h_6.same hc_7
  refine WL.q (Wn.no rfl) rfl rfl (R.move (v := (.tuple [(.agg ⟨flat [(1, [(vi 0)]), (1, [(vu64 0)]), (8, (List.replicate 8 (0 : UInt64)).map vu64), (1, [(vu64 0)]), (1, [(.bool false)]), (1, [(vi 0)])]⟩), (vi 7)].toArray)) rfl) ?_
  refine WL.q (Wn.no rfl) rfl rfl (R.extract (l := [(.agg ⟨flat [(1, [(vi 0)]), (1, [(vu64 0)]), (8, (List.replicate 8 (0 : UInt64)).map vu64), (1, [(vu64 0)]), (1, [(.bool false)]), (1, [(vi 0)])]⟩), (vi 7)]) (v := (.agg ⟨flat [(1, [(vi 0)]), (1, [(vu64 0)]), (8, (List.replicate 8 (0 : UInt64)).map vu64), (1, [(vu64 0)]), (1, [(.bool false)]), (1, [(vi 0)])]⟩)) rfl rfl) ?_
  refine WL.q (Wn.no rfl) rfl rfl (R.extract (l := [(.agg ⟨flat [(1, [(vi 0)]), (1, [(vu64 0)]), (8, (List.replicate 8 (0 : UInt64)).map vu64), (1, [(vu64 0)]), (1, [(.bool false)]), (1, [(vi 0)])]⟩), (vi 7)]) (v := (vi 7)) rfl rfl) ?_
  refine WL.alloc (segs := [(1, [(vi 0)]), (1, [(vu64 0)]), (8, (List.replicate 8 (0 : UInt64)).map vu64), (1, [(vu64 0)]), (1, [(.bool false)]), (1, [(vi 0)])]) h_9 (zv Try.typeInfo28 rfl) rfl (SsOk.cons (SOk.v rfl) (SsOk.cons (SOk.v rfl) (SsOk.cons (SOk.u64 (List.length_replicate ..)) (SsOk.cons (SOk.v rfl) (SsOk.cons (SOk.v rfl) (SsOk.cons (SOk.v rfl) SsOk.nil)))))) rfl (fun b_10 w_11 h_12 => ?_)
  refine WL.storeA (b := b_10) (off := 0) [] [(1, [(vi 0)]), (1, [(vu64 0)]), (8, (List.replicate 8 (0 : UInt64)).map vu64), (1, [(vu64 0)]), (1, [(.bool false)]), (1, [(vi 0)])] [(1, [(vi 0)]), (1, [(vu64 0)]), (8, (List.replicate 8 (0 : UInt64)).map vu64), (1, [(vu64 0)]), (1, [(.bool false)]), (1, [(vi 0)])] [] (ys := flat [(1, [(vi 0)]), (1, [(vu64 0)]), (8, (List.replicate 8 (0 : UInt64)).map vu64), (1, [(vu64 0)]), (1, [(.bool false)]), (1, [(vi 0)])]) h_12 rfl rfl Try.sizeOf28 At.h (by decide) rfl rfl rfl rfl rfl rfl (SsOk.cons (SOk.v rfl) (SsOk.cons (SOk.v rfl) (SsOk.cons (SOk.u64 (List.length_replicate ..)) (SsOk.cons (SOk.v rfl) (SsOk.cons (SOk.v rfl) (SsOk.cons (SOk.v rfl) SsOk.nil)))))) (fun w_13 h_14 => ?_)
  refine WL.q (Wn.no rfl) rfl rfl (R.assign (v := (vi 7)) rfl) ?_
  refine WL.nil ?_
  refine thn_n ?_
  refine WP.seq ?_
  refine WP.reg ?_
  refine WL.q (Wn.no rfl) rfl rfl (R.fieldAddr (b := b_1) (off := 0) (off' := 11) rfl Try.underlying28 rfl Try.sizeOf4 rfl rfl) ?_
  refine WL.q (Wn.no rfl) rfl rfl (R.load1 (b := b_1) (off := 11) (v := (.bool true)) rfl Try.isAgg4 (h_14.ok _ (.tail _ (.tail _ (.head _)))) (Sg.t rfl (Sg.t rfl (Sg.t rfl (Sg.t rfl Sg.h))))) ?_
  refine WL.q (Wn.no rfl) rfl rfl (R.move (v := (.bool true)) rfl) ?_
  refine WL.want rfl rfl ?_
  refine WL.q (Wn.no rfl) rfl rfl (R.fieldAddr (b := b_1) (off := 0) (off' := 12) rfl Try.underlying28 rfl Try.sizeOf26 rfl rfl) ?_
  refine WL.want rfl rfl ?_
  refine WL.q (Wn.no rfl) rfl rfl (R.load1 (b := b_1) (off := 12) (v := (vi 3)) rfl Try.isAgg26 (h_14.ok _ (.tail _ (.tail _ (.head _)))) (Sg.t rfl (Sg.t rfl (Sg.t rfl (Sg.t rfl (Sg.t rfl Sg.h)))))) ?_
  refine WL.want rfl rfl ?_
  refine WL.q (Wn.no rfl) rfl rfl (R.bin (v := (.bool false)) rfl rfl (bi_neq (r := false) (by decide))) ?_
  refine WL.q (Wn.no rfl) rfl rfl (R.pickT (v := (.bool false)) rfl rfl) ?_
  refine WL.q (Wn.no rfl) rfl rfl (R.assign (v := (.bool false)) rfl) ?_
  refine WL.nil ?_
  refine thn_n ?_
  refine WP.seq ?_
  refine WP.seq ?_
  refine WP.reg ?_
  refine WL.q (Wn.no rfl) rfl rfl (R.move (v := (.bool false)) rfl) ?_
  refine WL.q (Wn.no rfl) rfl rfl (R.not (b := false) rfl) ?_
  refine WL.nil ?_
  refine thn_n ?_
  refine WP.condT rfl ?_
  refine WP.seq ?_
  refine WP.reg ?_
  refine WL.q (Wn.no rfl) rfl rfl (R.move (v := (vi 7)) rfl) ?_
  refine WL.q (Wn.no rfl) rfl rfl (R.bin (v := (.bool true)) rfl rfl (bi_eql (r := true) (by decide))) ?_
  refine WL.q (Wn.no rfl) rfl rfl (R.move (v := (.bool true)) rfl) ?_
  refine WL.want rfl rfl ?_
  refine WL.q (Wn.no rfl) rfl rfl (R.loadA (b := b_10) (off := 0) [] [(1, [(vi 0)]), (1, [(vu64 0)]), (8, (List.replicate 8 (0 : UInt64)).map vu64), (1, [(vu64 0)]), (1, [(.bool false)]), (1, [(vi 0)])] [] (cs := flat [(1, [(vi 0)]), (1, [(vu64 0)]), (8, (List.replicate 8 (0 : UInt64)).map vu64), (1, [(vu64 0)]), (1, [(.bool false)]), (1, [(vi 0)])]) rfl Try.isAgg28 Try.sizeOf28 (h_14.ok _ (.head _)) rfl rfl rfl rfl) ?_
  refine WL.want rfl rfl ?_
  refine WL.q (Wn.no rfl) rfl rfl (R.buildS (pl := [(0, 1), (1, 1), (2, 9), (11, 1), (12, 1)]) (zs := [(1, [(vi 0)]), (1, [(vu64 0)]), (8, (List.replicate 8 (0 : UInt64)).map vu64), (1, [(vu64 0)]), (1, [(.bool false)]), (1, [(vi 0)])]) (vs := []) (out := [(1, [(vi 0)]), (1, [(vu64 0)]), (8, (List.replicate 8 (0 : UInt64)).map vu64), (1, [(vu64 0)]), (1, [(.bool false)]), (1, [(vi 0)])]) (cs := flat [(1, [(vi 0)]), (1, [(vu64 0)]), (8, (List.replicate 8 (0 : UInt64)).map vu64), (1, [(vu64 0)]), (1, [(.bool false)]), (1, [(vi 0)])]) Try.underlying28 (zv Try.typeInfo28 rfl) rfl (SsOk.cons (SOk.v rfl) (SsOk.cons (SOk.v rfl) (SsOk.cons (SOk.u64 (List.length_replicate ..)) (SsOk.cons (SOk.v rfl) (SsOk.cons (SOk.v rfl) (SsOk.cons (SOk.v rfl) SsOk.nil)))))) (pl28 _ Try.underlying28) rfl FillR.nil rfl) ?_
  refine WL.want rfl rfl ?_
  refine WL.q (Wn.no rfl) rfl rfl (R.eqA (xs := flat [(1, [(vi 0)]), (1, [(vu64 0)]), (8, (List.replicate 8 (0 : UInt64)).map vu64), (1, [(vu64 0)]), (1, [(.bool false)]), (1, [(vi 0)])]) (ys := flat [(1, [(vi 0)]), (1, [(vu64 0)]), (8, (List.replicate 8 (0 : UInt64)).map vu64), (1, [(vu64 0)]), (1, [(.bool false)]), (1, [(vi 0)])]) (r := true) rfl rfl Try.eqGuardType28 kt28 (by decide) ag28 (Typ.struct (h := 3) (r := [(1, [(vi 0)]), (1, [(vu64 0)]), (9, flat [(8, (List.replicate 8 (0 : UInt64)).map vu64), (1, [(vu64 0)])]), (1, [(.bool false)]), (1, [(vi 0)])]) (cs := flat [(1, [(vi 0)]), (1, [(vu64 0)]), (8, (List.replicate 8 (0 : UInt64)).map vu64), (1, [(vu64 0)]), (1, [(.bool false)]), (1, [(vi 0)])]) Try.underlying28 (TypF.cons (k := 1) rfl rfl (by decide) rfl (Typ.int Try.underlying3 ce3 (by decide)) (TypF.cons (k := 1) rfl rfl (by decide) rfl (Typ.int Try.underlying22 ce22 (wfu64 0)) (TypF.cons (k := 9) rfl rfl (by decide) ((SsOk.cons (SOk.u64 (List.length_replicate ..)) (SsOk.cons (SOk.v rfl) SsOk.nil))).len (Typ.struct (h := 2) (r := [(8, (List.replicate 8 (0 : UInt64)).map vu64), (1, [(vu64 0)])]) (cs := flat [(8, (List.replicate 8 (0 : UInt64)).map vu64), (1, [(vu64 0)])]) Try.underlying25 (TypF.cons (k := 8) rfl rfl (by decide) (len_map (List.length_replicate ..)) (Typ.u64s Try.underlying23 ce23 Try.underlying22 ce22 (List.length_replicate ..)) (TypF.cons (k := 1) rfl rfl (by decide) rfl (Typ.int Try.underlying22 ce22 (wfu64 0)) TypF.nil)) rfl (((SsOk.cons (SOk.u64 (List.length_replicate ..)) (SsOk.cons (SOk.v rfl) SsOk.nil))).len.trans ce25.symm)) (TypF.cons (k := 1) rfl rfl (by decide) rfl (Typ.bool Try.underlying4 ce4) (TypF.cons (k := 1) rfl rfl (by decide) rfl (Typ.int Try.underlying26 ce26 (by decide)) TypF.nil))))) (by simp [flat]) (((SsOk.cons (SOk.v rfl) (SsOk.cons (SOk.v rfl) (SsOk.cons (SOk.u64 (List.length_replicate ..)) (SsOk.cons (SOk.v rfl) (SsOk.cons (SOk.v rfl) (SsOk.cons (SOk.v rfl) SsOk.nil))))))).len.trans ce28.symm)) (Typ.struct (h := 3) (r := [(1, [(vi 0)]), (1, [(vu64 0)]), (9, flat [(8, (List.replicate 8 (0 : UInt64)).map vu64), (1, [(vu64 0)])]), (1, [(.bool false)]), (1, [(vi 0)])]) (cs := flat [(1, [(vi 0)]), (1, [(vu64 0)]), (8, (List.replicate 8 (0 : UInt64)).map vu64), (1, [(vu64 0)]), (1, [(.bool false)]), (1, [(vi 0)])]) Try.underlying28 (TypF.cons (k := 1) rfl rfl (by decide) rfl (Typ.int Try.underlying3 ce3 (by decide)) (TypF.cons (k := 1) rfl rfl (by decide) rfl (Typ.int Try.underlying22 ce22 (wfu64 0)) (TypF.cons (k := 9) rfl rfl (by decide) ((SsOk.cons (SOk.u64 (List.length_replicate ..)) (SsOk.cons (SOk.v rfl) SsOk.nil))).len (Typ.struct (h := 2) (r := [(8, (List.replicate 8 (0 : UInt64)).map vu64), (1, [(vu64 0)])]) (cs := flat [(8, (List.replicate 8 (0 : UInt64)).map vu64), (1, [(vu64 0)])]) Try.underlying25 (TypF.cons (k := 8) rfl rfl (by decide) (len_map (List.length_replicate ..)) (Typ.u64s Try.underlying23 ce23 Try.underlying22 ce22 (List.length_replicate ..)) (TypF.cons (k := 1) rfl rfl (by decide) rfl (Typ.int Try.underlying22 ce22 (wfu64 0)) TypF.nil)) rfl (((SsOk.cons (SOk.u64 (List.length_replicate ..)) (SsOk.cons (SOk.v rfl) SsOk.nil))).len.trans ce25.symm)) (TypF.cons (k := 1) rfl rfl (by decide) rfl (Typ.bool Try.underlying4 ce4) (TypF.cons (k := 1) rfl rfl (by decide) rfl (Typ.int Try.underlying26 ce26 (by decide)) TypF.nil))))) (by simp [flat]) (((SsOk.cons (SOk.v rfl) (SsOk.cons (SOk.v rfl) (SsOk.cons (SOk.u64 (List.length_replicate ..)) (SsOk.cons (SOk.v rfl) (SsOk.cons (SOk.v rfl) (SsOk.cons (SOk.v rfl) SsOk.nil))))))).len.trans ce28.symm)) (eqT rfl)) ?_
  refine WL.q (Wn.no rfl) rfl rfl (R.pickT (v := (.bool true)) rfl rfl) ?_
  refine WL.q (Wn.no rfl) rfl rfl (R.move (v := (.bool true)) rfl) ?_
  refine WL.want rfl rfl ?_
  refine WL.q (Wn.no rfl) rfl rfl (R.loadA (b := b_1) (off := 0) [] [(1, [(vi rd)]), (1, [(vu64 ins)]), (8, regs.map vu64), (1, [(vu64 pc)]), (1, [(.bool true)]), (1, [(vi 3)])] [] (cs := flat [(1, [(vi rd)]), (1, [(vu64 ins)]), (8, regs.map vu64), (1, [(vu64 pc)]), (1, [(.bool true)]), (1, [(vi 3)])]) rfl Try.isAgg28 Try.sizeOf28 (h_14.ok _ (.tail _ (.tail _ (.head _)))) rfl rfl rfl rfl) ?_
  refine WL.want rfl rfl ?_
  refine WL.call (al := [(.agg ⟨flat [(1, [(vi rd)]), (1, [(vu64 ins)]), (8, regs.map vu64), (1, [(vu64 pc)]), (1, [(.bool true)]), (1, [(vi 3)])]⟩)]) Try.call14 rfl rfl (c_May rd ins regs hr pc true 3 7 rfl _) rfl ?_
  rintro _ w_17 ⟨rfl, hc_16⟩
  have h_18 := h_14.same hc_16
  refine WL.want rfl rfl ?_
  refine WL.q (Wn.no rfl) rfl rfl (R.bin (v := (.bool true)) rfl rfl (bi_eql (r := true) (by decide))) ?_
  refine WL.q (Wn.no rfl) rfl rfl (R.pickT (v := (.bool true)) rfl rfl) ?_
  refine WL.q (Wn.no rfl) rfl rfl (R.move (v := (.bool true)) rfl) ?_
  refine WL.want rfl rfl ?_
  refine WL.call (al := []) Try.call15 rfl rfl (c_known14  _) rfl ?_
  rintro _ w_20 ⟨rfl, hc_19⟩
  have h_21 := h_18.same hc_19
  refine WL.q (Wn.no rfl) rfl rfl (R.pickT (v := (.bool true)) rfl rfl) ?_
  refine WL.q (Wn.no rfl) rfl rfl (R.assign (v := (.bool true)) rfl) ?_
  refine WL.nil ?_
  refine thn_n ?_
  refine WP.ret ?_
  refine thn_r ?_
  refine ret_of Try.results3 (RV.tmp (v := (.bool true)) rfl RV.nil) ?_
  exact ⟨rfl, h_21.chgS⟩

theorem w_RecEnters_c (rd : Int) (ins : UInt64) (regs : List UInt64) (hr : regs.length = 8) (pc : UInt64) (b_rd : -9223372036854775808 ≤ rd ∧ rd < 9223372036854775808) (ain : List UInt64) (ha : ain.length = 4) (w : World) :
    Cs Try.prog 3 [(.agg ⟨flat [(1, [(vi rd)]), (1, [(vu64 ins)]), (8, regs.map vu64), (1, [(vu64 pc)]), (1, [(.bool true)]), (1, [(vi 1)])]⟩), (.agg ⟨ain.map vu64⟩)].toArray w (fun v w1 => v = .bool true ∧ Chg w w1 []) := by
  refine Cs.of (n := 74) (args := [(.agg ⟨flat [(1, [(vi rd)]), (1, [(vu64 ins)]), (8, regs.map vu64), (1, [(vu64 pc)]), (1, [(.bool true)]), (1, [(vi 1)])]⟩), (.agg ⟨ain.map vu64⟩)]) Try.func3 rfl rfl rfl ?_
  have h_0 := HP.init w
  refine WP.seq ?_
  refine WP.reg ?_
  refine WL.box (v := (.agg ⟨flat [(1, [(vi rd)]), (1, [(vu64 ins)]), (8, regs.map vu64), (1, [(vu64 pc)]), (1, [(.bool true)]), (1, [(vi 1)])]⟩)) (segs := [(1, [(vi rd)]), (1, [(vu64 ins)]), (8, regs.map vu64), (1, [(vu64 pc)]), (1, [(.bool true)]), (1, [(vi 1)])]) h_0 rfl rfl (SsOk.cons (SOk.v rfl) (SsOk.cons (SOk.v rfl) (SsOk.cons (SOk.u64 hr) (SsOk.cons (SOk.v rfl) (SsOk.cons (SOk.v rfl) (SsOk.cons (SOk.v rfl) SsOk.nil)))))) rfl (fun b_1 w_2 h_3 => ?_)
  refine WL.box (v := (.agg ⟨ain.map vu64⟩)) (segs := [(4, ain.map vu64)]) h_3 rfl rfl (SsOk.cons (SOk.u64 ha) SsOk.nil) rfl (fun b_4 w_5 h_6 => ?_)
  refine WL.q (Wn.no rfl) rfl rfl (R.assign (v := (.bool false)) rfl) ?_
  refine WL.nil ?_
  refine thn_n ?_
  refine WP.seq ?_
  refine WP.reg ?_
  refine WL.q (Wn.no rfl) rfl rfl (R.loadA (b := b_1) (off := 0) [] [(1, [(vi rd)]), (1, [(vu64 ins)]), (8, regs.map vu64), (1, [(vu64 pc)]), (1, [(.bool true)]), (1, [(vi 1)])] [] (cs := flat [(1, [(vi rd)]), (1, [(vu64 ins)]), (8, regs.map vu64), (1, [(vu64 pc)]), (1, [(.bool true)]), (1, [(vi 1)])]) rfl Try.isAgg28 Try.sizeOf28 (h_6.ok _ (.tail _ (.head _))) rfl rfl rfl rfl) ?_
  refine WL.q (Wn.no rfl) rfl rfl (R.loadA (b := b_4) (off := 0) [] [(4, ain.map vu64)] [] (cs := ain.map vu64) rfl Try.isAgg31 Try.sizeOf31 (h_6.ok _ (.head _)) rfl rfl rfl rfl) ?_
  refine WL.call (al := [(.agg ⟨flat [(1, [(vi rd)]), (1, [(vu64 ins)]), (8, regs.map vu64), (1, [(vu64 pc)]), (1, [(.bool true)]), (1, [(vi 1)])]⟩), (.agg ⟨ain.map vu64⟩)]) Try.call13 rfl rfl (c_Enter rd ins regs hr pc true 1 ain ha rfl _) rfl ?_
  rintro _ w_8 ⟨rfl, hc_7⟩
  have h_9 := h_6.same hc_7
  refine WL.q (Wn.no rfl) rfl rfl (R.move (v := (.tuple [(.agg ⟨flat [(1, [(vi rd)]), (1, [(vu64 ins)]), (8, (entRegs 1 ain regs).map vu64), (1, [(vu64 pc)]), (1, [(.bool true)]), (1, [(vi 0)])]⟩), (vi 0)].toArray)) rfl) ?_
  refine WL.q (Wn.no rfl) rfl rfl (R.extract (l := [(.agg ⟨flat [(1, [(vi rd)]), (1, [(vu64 ins)]), (8, (entRegs 1 ain regs).map vu64), (1, [(vu64 pc)]), (1, [(.bool true)]), (1, [(vi 0)])]⟩), (vi 0)]) (v := (.agg ⟨flat [(1, [(vi rd)]), (1, [(vu64 ins)]), (8, (entRegs 1 ain regs).map vu64), (1, [(vu64 pc)]), (1, [(.bool true)]), (1, [(vi 0)])]⟩)) rfl rfl) ?_
  refine WL.q (Wn.no rfl) rfl rfl (R.extract (l := [(.agg ⟨flat [(1, [(vi rd)]), (1, [(vu64 ins)]), (8, (entRegs 1 ain regs).map vu64), (1, [(vu64 pc)]), (1, [(.bool true)]), (1, [(vi 0)])]⟩), (vi 0)]) (v := (vi 0)) rfl rfl) ?_
  refine WL.alloc (segs := [(1, [(vi 0)]), (1, [(vu64 0)]), (8, (List.replicate 8 (0 : UInt64)).map vu64), (1, [(vu64 0)]), (1, [(.bool false)]), (1, [(vi 0)])]) h_9 (zv Try.typeInfo28 rfl) rfl (SsOk.cons (SOk.v rfl) (SsOk.cons (SOk.v rfl) (SsOk.cons (SOk.u64 (List.length_replicate ..)) (SsOk.cons (SOk.v rfl) (SsOk.cons (SOk.v rfl) (SsOk.cons (SOk.v rfl) SsOk.nil)))))) rfl (fun b_10 w_11 h_12 => ?_)
  refine WL.storeA (b := b_10) (off := 0) [] [(1, [(vi 0)]), (1, [(vu64 0)]), (8, (List.replicate 8 (0 : UInt64)).map vu64), (1, [(vu64 0)]), (1, [(.bool false)]), (1, [(vi 0)])] [(1, [(vi rd)]), (1, [(vu64 ins)]), (8, (entRegs 1 ain regs).map vu64), (1, [(vu64 pc)]), (1, [(.bool true)]), (1, [(vi 0)])] [] (ys := flat [(1, [(vi rd)]), (1, [(vu64 ins)]), (8, (entRegs 1 ain regs).map vu64), (1, [(vu64 pc)]), (1, [(.bool true)]), (1, [(vi 0)])]) h_12 rfl rfl Try.sizeOf28 At.h (by decide) rfl rfl rfl rfl rfl rfl (SsOk.cons (SOk.v rfl) (SsOk.cons (SOk.v rfl) (SsOk.cons (SOk.u64 (entRegs_len ha hr)) (SsOk.cons (SOk.v rfl) (SsOk.cons (SOk.v rfl) (SsOk.cons (SOk.v rfl) SsOk.nil)))))) (fun w_13 h_14 => ?_)
  refine WL.q (Wn.no rfl) rfl rfl (R.assign (v := (vi 0)) rfl) ?_
  refine WL.nil ?_
  refine thn_n ?_
  refine WP.seq ?_
  refine WP.reg ?_
  refine WL.q (Wn.no rfl) rfl rfl (R.fieldAddr (b := b_1) (off := 0) (off' := 11) rfl Try.underlying28 rfl Try.sizeOf4 rfl rfl) ?_
  refine WL.q (Wn.no rfl) rfl rfl (R.load1 (b := b_1) (off := 11) (v := (.bool true)) rfl Try.isAgg4 (h_14.ok _ (.tail _ (.tail _ (.head _)))) (Sg.t rfl (Sg.t rfl (Sg.t rfl (Sg.t rfl Sg.h))))) ?_
  refine WL.q (Wn.no rfl) rfl rfl (R.move (v := (.bool true)) rfl) ?_
  refine WL.want rfl rfl ?_
  refine WL.q (Wn.no rfl) rfl rfl (R.fieldAddr (b := b_1) (off := 0) (off' := 12) rfl Try.underlying28 rfl Try.sizeOf26 rfl rfl) ?_
  refine WL.want rfl rfl ?_
  refine WL.q (Wn.no rfl) rfl rfl (R.load1 (b := b_1) (off := 12) (v := (vi 1)) rfl Try.isAgg26 (h_14.ok _ (.tail _ (.tail _ (.head _)))) (Sg.t rfl (Sg.t rfl (Sg.t rfl (Sg.t rfl (Sg.t rfl Sg.h)))))) ?_
  refine WL.want rfl rfl ?_
  refine WL.q (Wn.no rfl) rfl rfl (R.bin (v := (.bool true)) rfl rfl (bi_neq (r := true) (by decide))) ?_
  refine WL.q (Wn.no rfl) rfl rfl (R.pickT (v := (.bool true)) rfl rfl) ?_
  refine WL.q (Wn.no rfl) rfl rfl (R.assign (v := (.bool true)) rfl) ?_
  refine WL.nil ?_
  refine thn_n ?_
  refine WP.seq ?_
  refine WP.seq ?_
  refine WP.reg ?_
  refine WL.q (Wn.no rfl) rfl rfl (R.move (v := (.bool true)) rfl) ?_
  refine WL.q (Wn.no rfl) rfl rfl (R.not (b := true) rfl) ?_
  refine WL.nil ?_
  refine thn_n ?_
  refine WP.condF rfl ?_
  refine WP.skip ?_
  refine thn_n ?_
  refine WP.seq ?_
  refine WP.reg ?_
  refine WL.q (Wn.no rfl) rfl rfl (R.loadA (b := b_1) (off := 0) [] [(1, [(vi rd)]), (1, [(vu64 ins)]), (8, regs.map vu64), (1, [(vu64 pc)]), (1, [(.bool true)]), (1, [(vi 1)])] [] (cs := flat [(1, [(vi rd)]), (1, [(vu64 ins)]), (8, regs.map vu64), (1, [(vu64 pc)]), (1, [(.bool true)]), (1, [(vi 1)])]) rfl Try.isAgg28 Try.sizeOf28 (h_14.ok _ (.tail _ (.tail _ (.head _)))) rfl rfl rfl rfl) ?_
  refine WL.alloc (segs := [(1, [(vi 0)]), (1, [(vu64 0)]), (8, (List.replicate 8 (0 : UInt64)).map vu64), (1, [(vu64 0)]), (1, [(.bool false)]), (1, [(vi 0)])]) h_14 (zv Try.typeInfo28 rfl) rfl (SsOk.cons (SOk.v rfl) (SsOk.cons (SOk.v rfl) (SsOk.cons (SOk.u64 (List.length_replicate ..)) (SsOk.cons (SOk.v rfl) (SsOk.cons (SOk.v rfl) (SsOk.cons (SOk.v rfl) SsOk.nil)))))) rfl (fun b_15 w_16 h_17 => ?_)
  refine WL.storeA (b := b_15) (off := 0) [] [(1, [(vi 0)]), (1, [(vu64 0)]), (8, (List.replicate 8 (0 : UInt64)).map vu64), (1, [(vu64 0)]), (1, [(.bool false)]), (1, [(vi 0)])] [(1, [(vi rd)]), (1, [(vu64 ins)]), (8, regs.map vu64), (1, [(vu64 pc)]), (1, [(.bool true)]), (1, [(vi 1)])] [] (ys := flat [(1, [(vi rd)]), (1, [(vu64 ins)]), (8, regs.map vu64), (1, [(vu64 pc)]), (1, [(.bool true)]), (1, [(vi 1)])]) h_17 rfl rfl Try.sizeOf28 At.h (by decide) rfl rfl rfl rfl rfl rfl (SsOk.cons (SOk.v rfl) (SsOk.cons (SOk.v rfl) (SsOk.cons (SOk.u64 hr) (SsOk.cons (SOk.v rfl) (SsOk.cons (SOk.v rfl) (SsOk.cons (SOk.v rfl) SsOk.nil)))))) (fun w_18 h_19 => ?_)
  refine WL.nil ?_
  refine thn_n ?_
  refine WP.seq ?_
  refine WP.seq ?_
  refine WP.reg ?_
  refine WL.q (Wn.no rfl) rfl rfl (R.assign (v := (vi 0)) rfl) ?_
  refine WL.nil ?_
  refine thn_n ?_
  refine WP.block ?_
  refine WP.loopU (WI.round ?_)
  refine WP.seq ?_
  refine WP.seq ?_
  refine WP.reg ?_
  refine WL.q (Wn.no rfl) rfl rfl (R.move (v := (vi 0)) rfl) ?_
  refine WL.q (Wn.no rfl) rfl rfl (R.bin (v := (.bool true)) rfl rfl (bi_lss (r := true) (by decide))) ?_
  refine WL.q (Wn.no rfl) rfl rfl (R.move (v := (.bool true)) rfl) ?_
  refine WL.want rfl rfl ?_
  refine WL.q (Wn.no rfl) rfl rfl (R.fieldAddr (b := b_1) (off := 0) (off' := 12) rfl Try.underlying28 rfl Try.sizeOf26 rfl rfl) ?_
  refine WL.want rfl rfl ?_
  refine WL.q (Wn.no rfl) rfl rfl (R.load1 (b := b_1) (off := 12) (v := (vi 1)) rfl Try.isAgg26 (h_19.ok _ (.tail _ (.tail _ (.tail _ (.head _))))) (Sg.t rfl (Sg.t rfl (Sg.t rfl (Sg.t rfl (Sg.t rfl Sg.h)))))) ?_
  refine WL.want rfl rfl ?_
  refine WL.q (Wn.no rfl) rfl rfl (R.bin (v := (.bool true)) rfl rfl (bi_eql (r := true) (by decide))) ?_
  refine WL.q (Wn.no rfl) rfl rfl (R.pickT (v := (.bool true)) rfl rfl) ?_
  refine WL.nil ?_
  refine thn_n ?_
  refine WP.condT rfl ?_
  refine WP.skip ?_
  refine thn_n ?_
  refine WP.seq ?_
  refine WP.block ?_
  refine WP.reg ?_
  refine WL.q (Wn.no rfl) rfl rfl (R.move (v := (vi 0)) rfl) ?_
  refine WL.q (Wn.no rfl) rfl rfl (R.move (v := (vi 0)) rfl) ?_
  refine WL.q (Wn.no rfl) rfl rfl (R.fieldAddr (b := b_4) (off := 0) (off' := 0) rfl Try.underlying31 rfl Try.sizeOf29 rfl rfl) ?_
  refine WL.q (Wn.no rfl) rfl rfl (R.indexA (b := b_4) (off := 0) (off' := 0) (i := 0) rfl rfl rfl (by decide) Try.underlying29 Try.sizeOf22 rfl) ?_
  refine WL.q (Wn.no rfl) rfl rfl (R.loadE (b := b_4) (off := 0) (i := 0) (v := (vu64 (ain.getD 0 0))) rfl Try.isAgg22 (h_19.ok _ (.tail _ (.tail _ (.head _)))) Sg.h rfl (get_u64 (lt_len ha (by decide)))) ?_
  refine WL.q (Wn.no rfl) rfl rfl (R.fieldAddr (b := b_15) (off := 0) (off' := 2) rfl Try.underlying28 rfl Try.sizeOf25 rfl rfl) ?_
  refine WL.q (Wn.no rfl) rfl rfl (R.fieldAddr (b := b_15) (off := 2) (off' := 2) rfl Try.underlying25 rfl Try.sizeOf23 rfl rfl) ?_
  refine WL.q (Wn.no rfl) rfl rfl (R.indexA (b := b_15) (off := 2) (off' := 2) (i := 0) rfl rfl rfl (by decide) Try.underlying23 Try.sizeOf22 rfl) ?_
  refine WL.storeE (b := b_15) (off := 2) (i := 0) (v := (vu64 (ain.getD 0 0))) (cs' := (regs.set 0 (ain.getD 0 0)).map vu64) h_19 rfl rfl Try.sizeOf22 rfl At.h (by decide) (Sg.t rfl (Sg.t rfl Sg.h)) rfl (lt_len (len_map hr) (by decide)) (set_u64 _ _ _) (fun w_20 h_21 => ?_)
  refine WL.nil ?_
  refine inb_n ?_
  refine thn_n ?_
  refine WP.reg ?_
  refine WL.q (Wn.no rfl) rfl rfl (R.move (v := (vi 0)) rfl) ?_
  refine WL.q (Wn.no rfl) rfl rfl (R.bin (v := (vi 1)) rfl rfl (bi_add (c := 1) (by omega) (by omega))) ?_
  refine WL.q (Wn.no rfl) rfl rfl (R.assign (v := (vi 1)) rfl) ?_
  refine WL.nil ?_
  refine thn_n ?_
  refine WI.round ?_
  refine WP.seq ?_
  refine WP.seq ?_
  refine WP.reg ?_
  refine WL.q (Wn.no rfl) rfl rfl (R.move (v := (vi 1)) rfl) ?_
  refine WL.q (Wn.no rfl) rfl rfl (R.bin (v := (.bool true)) rfl rfl (bi_lss (r := true) (by decide))) ?_
  refine WL.q (Wn.no rfl) rfl rfl (R.move (v := (.bool true)) rfl) ?_
  refine WL.want rfl rfl ?_
  refine WL.q (Wn.no rfl) rfl rfl (R.fieldAddr (b := b_1) (off := 0) (off' := 12) rfl Try.underlying28 rfl Try.sizeOf26 rfl rfl) ?_
  refine WL.want rfl rfl ?_
  refine WL.q (Wn.no rfl) rfl rfl (R.load1 (b := b_1) (off := 12) (v := (vi 1)) rfl Try.isAgg26 (h_21.ok _ (.tail _ (.tail _ (.tail _ (.head _))))) (Sg.t rfl (Sg.t rfl (Sg.t rfl (Sg.t rfl (Sg.t rfl Sg.h)))))) ?_
  refine WL.want rfl rfl ?_
  refine WL.q (Wn.no rfl) rfl rfl (R.bin (v := (.bool true)) rfl rfl (bi_eql (r := true) (by decide))) ?_
  refine WL.q (Wn.no rfl) rfl rfl (R.pickT (v := (.bool true)) rfl rfl) ?_
  refine WL.nil ?_
  refine thn_n ?_
  refine WP.condT rfl ?_
  refine WP.skip ?_
  refine thn_n ?_
  refine WP.seq ?_
  refine WP.block ?_
  refine WP.reg ?_
  refine WL.q (Wn.no rfl) rfl rfl (R.move (v := (vi 1)) rfl) ?_
  refine WL.q (Wn.no rfl) rfl rfl (R.move (v := (vi 1)) rfl) ?_
  refine WL.q (Wn.no rfl) rfl rfl (R.fieldAddr (b := b_4) (off := 0) (off' := 0) rfl Try.underlying31 rfl Try.sizeOf29 rfl rfl) ?_
  refine WL.q (Wn.no rfl) rfl rfl (R.indexA (b := b_4) (off := 0) (off' := 1) (i := 1) rfl rfl rfl (by decide) Try.underlying29 Try.sizeOf22 rfl) ?_
  refine WL.q (Wn.no rfl) rfl rfl (R.loadE (b := b_4) (off := 1) (i := 1) (v := (vu64 (ain.getD 1 0))) rfl Try.isAgg22 (h_21.ok _ (.tail _ (.tail _ (.head _)))) Sg.h rfl (get_u64 (lt_len ha (by decide)))) ?_
  refine WL.q (Wn.no rfl) rfl rfl (R.fieldAddr (b := b_15) (off := 0) (off' := 2) rfl Try.underlying28 rfl Try.sizeOf25 rfl rfl) ?_
  refine WL.q (Wn.no rfl) rfl rfl (R.fieldAddr (b := b_15) (off := 2) (off' := 2) rfl Try.underlying25 rfl Try.sizeOf23 rfl rfl) ?_
  refine WL.q (Wn.no rfl) rfl rfl (R.indexA (b := b_15) (off := 2) (off' := 3) (i := 1) rfl rfl rfl (by decide) Try.underlying23 Try.sizeOf22 rfl) ?_
  refine WL.storeE (b := b_15) (off := 3) (i := 1) (v := (vu64 (ain.getD 1 0))) (cs' := ((regs.set 0 (ain.getD 0 0)).set 1 (ain.getD 1 0)).map vu64) h_21 rfl rfl Try.sizeOf22 rfl At.h (by decide) (Sg.t rfl (Sg.t rfl Sg.h)) rfl (lt_len (len_map (len_set hr _ _)) (by decide)) (set_u64 _ _ _) (fun w_22 h_23 => ?_)
  refine WL.nil ?_
  refine inb_n ?_
  refine thn_n ?_
  refine WP.reg ?_
  refine WL.q (Wn.no rfl) rfl rfl (R.move (v := (vi 1)) rfl) ?_
  refine WL.q (Wn.no rfl) rfl rfl (R.bin (v := (vi 2)) rfl rfl (bi_add (c := 2) (by omega) (by omega))) ?_
  refine WL.q (Wn.no rfl) rfl rfl (R.assign (v := (vi 2)) rfl) ?_
  refine WL.nil ?_
  refine thn_n ?_
  refine WI.round ?_
  refine WP.seq ?_
  refine WP.seq ?_
  refine WP.reg ?_
  refine WL.q (Wn.no rfl) rfl rfl (R.move (v := (vi 2)) rfl) ?_
  refine WL.q (Wn.no rfl) rfl rfl (R.bin (v := (.bool true)) rfl rfl (bi_lss (r := true) (by decide))) ?_
  refine WL.q (Wn.no rfl) rfl rfl (R.move (v := (.bool true)) rfl) ?_
  refine WL.want rfl rfl ?_
  refine WL.q (Wn.no rfl) rfl rfl (R.fieldAddr (b := b_1) (off := 0) (off' := 12) rfl Try.underlying28 rfl Try.sizeOf26 rfl rfl) ?_
  refine WL.want rfl rfl ?_
  refine WL.q (Wn.no rfl) rfl rfl (R.load1 (b := b_1) (off := 12) (v := (vi 1)) rfl Try.isAgg26 (h_23.ok _ (.tail _ (.tail _ (.tail _ (.head _))))) (Sg.t rfl (Sg.t rfl (Sg.t rfl (Sg.t rfl (Sg.t rfl Sg.h)))))) ?_
  refine WL.want rfl rfl ?_
  refine WL.q (Wn.no rfl) rfl rfl (R.bin (v := (.bool true)) rfl rfl (bi_eql (r := true) (by decide))) ?_
  refine WL.q (Wn.no rfl) rfl rfl (R.pickT (v := (.bool true)) rfl rfl) ?_
  refine WL.nil ?_
  refine thn_n ?_
  refine WP.condT rfl ?_
  refine WP.skip ?_
  refine thn_n ?_
  refine WP.seq ?_
  refine WP.block ?_
  refine WP.reg ?_
  refine WL.q (Wn.no rfl) rfl rfl (R.move (v := (vi 2)) rfl) ?_
  refine WL.q (Wn.no rfl) rfl rfl (R.move (v := (vi 2)) rfl) ?_
  refine WL.q (Wn.no rfl) rfl rfl (R.fieldAddr (b := b_4) (off := 0) (off' := 0) rfl Try.underlying31 rfl Try.sizeOf29 rfl rfl) ?_
  refine WL.q (Wn.no rfl) rfl rfl (R.indexA (b := b_4) (off := 0) (off' := 2) (i := 2) rfl rfl rfl (by decide) Try.underlying29 Try.sizeOf22 rfl) ?_
  refine WL.q (Wn.no rfl) rfl rfl (R.loadE (b := b_4) (off := 2) (i := 2) (v := (vu64 (ain.getD 2 0))) rfl Try.isAgg22 (h_23.ok _ (.tail _ (.tail _ (.head _)))) Sg.h rfl (get_u64 (lt_len ha (by decide)))) ?_
  refine WL.q (Wn.no rfl) rfl rfl (R.fieldAddr (b := b_15) (off := 0) (off' := 2) rfl Try.underlying28 rfl Try.sizeOf25 rfl rfl) ?_
  refine WL.q (Wn.no rfl) rfl rfl (R.fieldAddr (b := b_15) (off := 2) (off' := 2) rfl Try.underlying25 rfl Try.sizeOf23 rfl rfl) ?_
  refine WL.q (Wn.no rfl) rfl rfl (R.indexA (b := b_15) (off := 2) (off' := 4) (i := 2) rfl rfl rfl (by decide) Try.underlying23 Try.sizeOf22 rfl) ?_
  refine WL.storeE (b := b_15) (off := 4) (i := 2) (v := (vu64 (ain.getD 2 0))) (cs' := (((regs.set 0 (ain.getD 0 0)).set 1 (ain.getD 1 0)).set 2 (ain.getD 2 0)).map vu64) h_23 rfl rfl Try.sizeOf22 rfl At.h (by decide) (Sg.t rfl (Sg.t rfl Sg.h)) rfl (lt_len (len_map (len_set (len_set hr _ _) _ _)) (by decide)) (set_u64 _ _ _) (fun w_24 h_25 => ?_)
  refine WL.nil ?_
  refine inb_n ?_
  refine thn_n ?_
  refine WP.reg ?_
  refine WL.q (Wn.no rfl) rfl rfl (R.move (v := (vi 2)) rfl) ?_
  refine WL.q (Wn.no rfl) rfl rfl (R.bin (v := (vi 3)) rfl rfl (bi_add (c := 3) (by omega) (by omega))) ?_
  refine WL.q (Wn.no rfl) rfl rfl (R.assign (v := (vi 3)) rfl) ?_
  refine WL.nil ?_
  refine thn_n ?_
  refine WI.round ?_
  refine WP.seq ?_
  refine WP.seq ?_
  refine WP.reg ?_
  refine WL.q (Wn.no rfl) rfl rfl (R.move (v := (vi 3)) rfl) ?_
  refine WL.q (Wn.no rfl) rfl rfl (R.bin (v := (.bool true)) rfl rfl (bi_lss (r := true) (by decide))) ?_
  refine WL.q (Wn.no rfl) rfl rfl (R.move (v := (.bool true)) rfl) ?_
  refine WL.want rfl rfl ?_
  refine WL.q (Wn.no rfl) rfl rfl (R.fieldAddr (b := b_1) (off := 0) (off' := 12) rfl Try.underlying28 rfl Try.sizeOf26 rfl rfl) ?_
  refine WL.want rfl rfl ?_
  refine WL.q (Wn.no rfl) rfl rfl (R.load1 (b := b_1) (off := 12) (v := (vi 1)) rfl Try.isAgg26 (h_25.ok _ (.tail _ (.tail _ (.tail _ (.head _))))) (Sg.t rfl (Sg.t rfl (Sg.t rfl (Sg.t rfl (Sg.t rfl Sg.h)))))) ?_
  refine WL.want rfl rfl ?_
  refine WL.q (Wn.no rfl) rfl rfl (R.bin (v := (.bool true)) rfl rfl (bi_eql (r := true) (by decide))) ?_
  refine WL.q (Wn.no rfl) rfl rfl (R.pickT (v := (.bool true)) rfl rfl) ?_
  refine WL.nil ?_
  refine thn_n ?_
  refine WP.condT rfl ?_
  refine WP.skip ?_
  refine thn_n ?_
  refine WP.seq ?_
  refine WP.block ?_
  refine WP.reg ?_
  refine WL.q (Wn.no rfl) rfl rfl (R.move (v := (vi 3)) rfl) ?_
  refine WL.q (Wn.no rfl) rfl rfl (R.move (v := (vi 3)) rfl) ?_
  refine WL.q (Wn.no rfl) rfl rfl (R.fieldAddr (b := b_4) (off := 0) (off' := 0) rfl Try.underlying31 rfl Try.sizeOf29 rfl rfl) ?_
  refine WL.q (Wn.no rfl) rfl rfl (R.indexA (b := b_4) (off := 0) (off' := 3) (i := 3) rfl rfl rfl (by decide) Try.underlying29 Try.sizeOf22 rfl) ?_
  refine WL.q (Wn.no rfl) rfl rfl (R.loadE (b := b_4) (off := 3) (i := 3) (v := (vu64 (ain.getD 3 0))) rfl Try.isAgg22 (h_25.ok _ (.tail _ (.tail _ (.head _)))) Sg.h rfl (get_u64 (lt_len ha (by decide)))) ?_
  refine WL.q (Wn.no rfl) rfl rfl (R.fieldAddr (b := b_15) (off := 0) (off' := 2) rfl Try.underlying28 rfl Try.sizeOf25 rfl rfl) ?_
  refine WL.q (Wn.no rfl) rfl rfl (R.fieldAddr (b := b_15) (off := 2) (off' := 2) rfl Try.underlying25 rfl Try.sizeOf23 rfl rfl) ?_
  refine WL.q (Wn.no rfl) rfl rfl (R.indexA (b := b_15) (off := 2) (off' := 5) (i := 3) rfl rfl rfl (by decide) Try.underlying23 Try.sizeOf22 rfl) ?_
  refine WL.storeE (b := b_15) (off := 5) (i := 3) (v := (vu64 (ain.getD 3 0))) (cs' := ((((regs.set 0 (ain.getD 0 0)).set 1 (ain.getD 1 0)).set 2 (ain.getD 2 0)).set 3 (ain.getD 3 0)).map vu64) h_25 rfl rfl Try.sizeOf22 rfl At.h (by decide) (Sg.t rfl (Sg.t rfl Sg.h)) rfl (lt_len (len_map (len_set (len_set (len_set hr _ _) _ _) _ _)) (by decide)) (set_u64 _ _ _) (fun w_26 h_27 => ?_)
  refine WL.nil ?_
  refine inb_n ?_
  refine thn_n ?_
  refine WP.reg ?_
  refine WL.q (Wn.no rfl) rfl rfl (R.move (v := (vi 3)) rfl) ?_
  refine WL.q (Wn.no rfl) rfl rfl (R.bin (v := (vi 4)) rfl rfl (bi_add (c := 4) (by omega) (by omega))) ?_
  refine WL.q (Wn.no rfl) rfl rfl (R.assign (v := (vi 4)) rfl) ?_
  refine WL.nil ?_
  refine thn_n ?_
  refine WI.round ?_
  refine WP.seq ?_
  refine WP.seq ?_
  refine WP.reg ?_
  refine WL.q (Wn.no rfl) rfl rfl (R.move (v := (vi 4)) rfl) ?_
  refine WL.q (Wn.no rfl) rfl rfl (R.bin (v := (.bool false)) rfl rfl (bi_lss (r := false) (by decide))) ?_
  refine WL.q (Wn.no rfl) rfl rfl (R.move (v := (.bool false)) rfl) ?_
  refine WL.skip rfl rfl rfl ?_
  refine WL.skip rfl rfl rfl ?_
  refine WL.skip rfl rfl rfl ?_
  refine WL.q (Wn.no rfl) rfl rfl (R.pickF (v := (.bool false)) rfl rfl) ?_
  refine WL.nil ?_
  refine thn_n ?_
  refine WP.condF rfl ?_
  refine WP.exit ?_
  refine thn_x ?_
  refine thn_x ?_
  refine inb_hit ?_
  refine thn_n ?_
  refine WP.seq ?_
  refine WP.reg ?_
  refine WL.q (Wn.no rfl) rfl rfl (R.fieldAddr (b := b_15) (off := 0) (off' := 12) rfl Try.underlying28 rfl Try.sizeOf26 rfl rfl) ?_
  refine WL.store1 (b := b_15) (off := 12) (v := (vi 0)) h_27 rfl rfl Try.sizeOf26 rfl At.h (by decide) (Sg.t rfl (Sg.t rfl (Sg.t rfl (Sg.t rfl (Sg.t rfl Sg.h))))) (fun w_28 h_29 => ?_)
  refine WL.nil ?_
  refine thn_n ?_
  refine WP.seq ?_
  refine WP.reg ?_
  refine WL.q (Wn.no rfl) rfl rfl (R.move (v := (vi 0)) rfl) ?_
  refine WL.q (Wn.no rfl) rfl rfl (R.bin (v := (.bool true)) rfl rfl (bi_eql (r := true) (by decide))) ?_
  refine WL.q (Wn.no rfl) rfl rfl (R.move (v := (.bool true)) rfl) ?_
  refine WL.want rfl rfl ?_
  refine WL.q (Wn.no rfl) rfl rfl (R.loadA (b := b_10) (off := 0) [] [(1, [(vi rd)]), (1, [(vu64 ins)]), (8, (entRegs 1 ain regs).map vu64), (1, [(vu64 pc)]), (1, [(.bool true)]), (1, [(vi 0)])] [] (cs := flat [(1, [(vi rd)]), (1, [(vu64 ins)]), (8, (entRegs 1 ain regs).map vu64), (1, [(vu64 pc)]), (1, [(.bool true)]), (1, [(vi 0)])]) rfl Try.isAgg28 Try.sizeOf28 (h_29.ok _ (.tail _ (.head _))) rfl rfl rfl rfl) ?_
  refine WL.want rfl rfl ?_
  refine WL.q (Wn.no rfl) rfl rfl (R.loadA (b := b_15) (off := 0) [] [(1, [(vi rd)]), (1, [(vu64 ins)]), (8, ((((regs.set 0 (ain.getD 0 0)).set 1 (ain.getD 1 0)).set 2 (ain.getD 2 0)).set 3 (ain.getD 3 0)).map vu64), (1, [(vu64 pc)]), (1, [(.bool true)]), (1, [(vi 0)])] [] (cs := flat [(1, [(vi rd)]), (1, [(vu64 ins)]), (8, ((((regs.set 0 (ain.getD 0 0)).set 1 (ain.getD 1 0)).set 2 (ain.getD 2 0)).set 3 (ain.getD 3 0)).map vu64), (1, [(vu64 pc)]), (1, [(.bool true)]), (1, [(vi 0)])]) rfl Try.isAgg28 Try.sizeOf28 (h_29.ok _ (.head _)) rfl rfl rfl rfl) ?_
  refine WL.want rfl rfl ?_
  refine WL.q (Wn.no rfl) rfl rfl (R.eqA (xs := flat [(1, [(vi rd)]), (1, [(vu64 ins)]), (8, (entRegs 1 ain regs).map vu64), (1, [(vu64 pc)]), (1, [(.bool true)]), (1, [(vi 0)])]) (ys := flat [(1, [(vi rd)]), (1, [(vu64 ins)]), (8, ((((regs.set 0 (ain.getD 0 0)).set 1 (ain.getD 1 0)).set 2 (ain.getD 2 0)).set 3 (ain.getD 3 0)).map vu64), (1, [(vu64 pc)]), (1, [(.bool true)]), (1, [(vi 0)])]) (r := true) rfl rfl Try.eqGuardType28 kt28 (by decide) ag28 (Typ.struct (h := 3) (r := [(1, [(vi rd)]), (1, [(vu64 ins)]), (9, flat [(8, (entRegs 1 ain regs).map vu64), (1, [(vu64 pc)])]), (1, [(.bool true)]), (1, [(vi 0)])]) (cs := flat [(1, [(vi rd)]), (1, [(vu64 ins)]), (8, (entRegs 1 ain regs).map vu64), (1, [(vu64 pc)]), (1, [(.bool true)]), (1, [(vi 0)])]) Try.underlying28 (TypF.cons (k := 1) rfl rfl (by decide) rfl (Typ.int Try.underlying3 ce3 (WalkArith.wf_i64 (by omega))) (TypF.cons (k := 1) rfl rfl (by decide) rfl (Typ.int Try.underlying22 ce22 (wfu64 ins)) (TypF.cons (k := 9) rfl rfl (by decide) ((SsOk.cons (SOk.u64 (entRegs_len ha hr)) (SsOk.cons (SOk.v rfl) SsOk.nil))).len (Typ.struct (h := 2) (r := [(8, (entRegs 1 ain regs).map vu64), (1, [(vu64 pc)])]) (cs := flat [(8, (entRegs 1 ain regs).map vu64), (1, [(vu64 pc)])]) Try.underlying25 (TypF.cons (k := 8) rfl rfl (by decide) (len_map (entRegs_len ha hr)) (Typ.u64s Try.underlying23 ce23 Try.underlying22 ce22 (entRegs_len ha hr)) (TypF.cons (k := 1) rfl rfl (by decide) rfl (Typ.int Try.underlying22 ce22 (wfu64 pc)) TypF.nil)) rfl (((SsOk.cons (SOk.u64 (entRegs_len ha hr)) (SsOk.cons (SOk.v rfl) SsOk.nil))).len.trans ce25.symm)) (TypF.cons (k := 1) rfl rfl (by decide) rfl (Typ.bool Try.underlying4 ce4) (TypF.cons (k := 1) rfl rfl (by decide) rfl (Typ.int Try.underlying26 ce26 (by decide)) TypF.nil))))) (by simp [flat]) (((SsOk.cons (SOk.v rfl) (SsOk.cons (SOk.v rfl) (SsOk.cons (SOk.u64 (entRegs_len ha hr)) (SsOk.cons (SOk.v rfl) (SsOk.cons (SOk.v rfl) (SsOk.cons (SOk.v rfl) SsOk.nil))))))).len.trans ce28.symm)) (Typ.struct (h := 3) (r := [(1, [(vi rd)]), (1, [(vu64 ins)]), (9, flat [(8, ((((regs.set 0 (ain.getD 0 0)).set 1 (ain.getD 1 0)).set 2 (ain.getD 2 0)).set 3 (ain.getD 3 0)).map vu64), (1, [(vu64 pc)])]), (1, [(.bool true)]), (1, [(vi 0)])]) (cs := flat [(1, [(vi rd)]), (1, [(vu64 ins)]), (8, ((((regs.set 0 (ain.getD 0 0)).set 1 (ain.getD 1 0)).set 2 (ain.getD 2 0)).set 3 (ain.getD 3 0)).map vu64), (1, [(vu64 pc)]), (1, [(.bool true)]), (1, [(vi 0)])]) Try.underlying28 (TypF.cons (k := 1) rfl rfl (by decide) rfl (Typ.int Try.underlying3 ce3 (WalkArith.wf_i64 (by omega))) (TypF.cons (k := 1) rfl rfl (by decide) rfl (Typ.int Try.underlying22 ce22 (wfu64 ins)) (TypF.cons (k := 9) rfl rfl (by decide) ((SsOk.cons (SOk.u64 (len_set (len_set (len_set (len_set hr _ _) _ _) _ _) _ _)) (SsOk.cons (SOk.v rfl) SsOk.nil))).len (Typ.struct (h := 2) (r := [(8, ((((regs.set 0 (ain.getD 0 0)).set 1 (ain.getD 1 0)).set 2 (ain.getD 2 0)).set 3 (ain.getD 3 0)).map vu64), (1, [(vu64 pc)])]) (cs := flat [(8, ((((regs.set 0 (ain.getD 0 0)).set 1 (ain.getD 1 0)).set 2 (ain.getD 2 0)).set 3 (ain.getD 3 0)).map vu64), (1, [(vu64 pc)])]) Try.underlying25 (TypF.cons (k := 8) rfl rfl (by decide) (len_map (len_set (len_set (len_set (len_set hr _ _) _ _) _ _) _ _)) (Typ.u64s Try.underlying23 ce23 Try.underlying22 ce22 (len_set (len_set (len_set (len_set hr _ _) _ _) _ _) _ _)) (TypF.cons (k := 1) rfl rfl (by decide) rfl (Typ.int Try.underlying22 ce22 (wfu64 pc)) TypF.nil)) rfl (((SsOk.cons (SOk.u64 (len_set (len_set (len_set (len_set hr _ _) _ _) _ _) _ _)) (SsOk.cons (SOk.v rfl) SsOk.nil))).len.trans ce25.symm)) (TypF.cons (k := 1) rfl rfl (by decide) rfl (Typ.bool Try.underlying4 ce4) (TypF.cons (k := 1) rfl rfl (by decide) rfl (Typ.int Try.underlying26 ce26 (by decide)) TypF.nil))))) (by simp [flat]) (((SsOk.cons (SOk.v rfl) (SsOk.cons (SOk.v rfl) (SsOk.cons (SOk.u64 (len_set (len_set (len_set (len_set hr _ _) _ _) _ _) _ _)) (SsOk.cons (SOk.v rfl) (SsOk.cons (SOk.v rfl) (SsOk.cons (SOk.v rfl) SsOk.nil))))))).len.trans ce28.symm)) (eqT (by rw [set4 ha hr]))) ?_
  refine WL.q (Wn.no rfl) rfl rfl (R.pickT (v := (.bool true)) rfl rfl) ?_
  refine WL.q (Wn.no rfl) rfl rfl (R.move (v := (.bool true)) rfl) ?_
  refine WL.want rfl rfl ?_
  refine WL.q (Wn.no rfl) rfl rfl (R.loadA (b := b_1) (off := 0) [] [(1, [(vi rd)]), (1, [(vu64 ins)]), (8, regs.map vu64), (1, [(vu64 pc)]), (1, [(.bool true)]), (1, [(vi 1)])] [] (cs := flat [(1, [(vi rd)]), (1, [(vu64 ins)]), (8, regs.map vu64), (1, [(vu64 pc)]), (1, [(.bool true)]), (1, [(vi 1)])]) rfl Try.isAgg28 Try.sizeOf28 (h_29.ok _ (.tail _ (.tail _ (.tail _ (.head _))))) rfl rfl rfl rfl) ?_
  refine WL.want rfl rfl ?_
  refine WL.call (al := [(.agg ⟨flat [(1, [(vi rd)]), (1, [(vu64 ins)]), (8, regs.map vu64), (1, [(vu64 pc)]), (1, [(.bool true)]), (1, [(vi 1)])]⟩)]) Try.call14 rfl rfl (c_May rd ins regs hr pc true 1 0 rfl _) rfl ?_
  rintro _ w_31 ⟨rfl, hc_30⟩
  have h_32 := h_29.same hc_30
  refine WL.want rfl rfl ?_
  refine WL.q (Wn.no rfl) rfl rfl (R.bin (v := (.bool true)) rfl rfl (bi_eql (r := true) (by decide))) ?_
  refine WL.q (Wn.no rfl) rfl rfl (R.pickT (v := (.bool true)) rfl rfl) ?_
  refine WL.q (Wn.no rfl) rfl rfl (R.move (v := (.bool true)) rfl) ?_
  refine WL.want rfl rfl ?_
  refine WL.call (al := []) Try.call15 rfl rfl (c_known14  _) rfl ?_
  rintro _ w_34 ⟨rfl, hc_33⟩
  have h_35 := h_32.same hc_33
  refine WL.q (Wn.no rfl) rfl rfl (R.pickT (v := (.bool true)) rfl rfl) ?_
  refine WL.q (Wn.no rfl) rfl rfl (R.assign (v := (.bool true)) rfl) ?_
  refine WL.nil ?_
  refine thn_n ?_
  refine WP.ret ?_
  refine ret_of Try.results3 (RV.tmp (v := (.bool true)) rfl RV.nil) ?_
  exact ⟨rfl, h_35.chgS⟩

theorem w_RecEnters_d (rd : Int) (ins : UInt64) (regs : List UInt64) (hr : regs.length = 8) (pc : UInt64) (b_rd : -9223372036854775808 ≤ rd ∧ rd < 9223372036854775808) (ain : List UInt64) (ha : ain.length = 4) (wt : Int) (hw1 : wt ≠ 1) (hw3 : wt ≠ 3) (b_wt : -9223372036854775808 ≤ wt ∧ wt < 9223372036854775808) (w : World) :
    Cs Try.prog 3 [(.agg ⟨flat [(1, [(vi rd)]), (1, [(vu64 ins)]), (8, regs.map vu64), (1, [(vu64 pc)]), (1, [(.bool true)]), (1, [(vi wt)])]⟩), (.agg ⟨ain.map vu64⟩)].toArray w (fun v w1 => v = .bool true ∧ Chg w w1 []) := by
  refine Cs.of (n := 74) (args := [(.agg ⟨flat [(1, [(vi rd)]), (1, [(vu64 ins)]), (8, regs.map vu64), (1, [(vu64 pc)]), (1, [(.bool true)]), (1, [(vi wt)])]⟩), (.agg ⟨ain.map vu64⟩)]) Try.func3 rfl rfl rfl ?_
  have h_0 := HP.init w
  refine WP.seq ?_
  refine WP.reg ?_
  refine WL.box (v := (.agg ⟨flat [(1, [(vi rd)]), (1, [(vu64 ins)]), (8, regs.map vu64), (1, [(vu64 pc)]), (1, [(.bool true)]), (1, [(vi wt)])]⟩)) (segs := [(1, [(vi rd)]), (1, [(vu64 ins)]), (8, regs.map vu64), (1, [(vu64 pc)]), (1, [(.bool true)]), (1, [(vi wt)])]) h_0 rfl rfl (SsOk.cons (SOk.v rfl) (SsOk.cons (SOk.v rfl) (SsOk.cons (SOk.u64 hr) (SsOk.cons (SOk.v rfl) (SsOk.cons (SOk.v rfl) (SsOk.cons (SOk.v rfl) SsOk.nil)))))) rfl (fun b_1 w_2 h_3 => ?_)
  refine WL.box (v := (.agg ⟨ain.map vu64⟩)) (segs := [(4, ain.map vu64)]) h_3 rfl rfl (SsOk.cons (SOk.u64 ha) SsOk.nil) rfl (fun b_4 w_5 h_6 => ?_)
  refine WL.q (Wn.no rfl) rfl rfl (R.assign (v := (.bool false)) rfl) ?_
  refine WL.nil ?_
  refine thn_n ?_
  refine WP.seq ?_
  refine WP.reg ?_
  refine WL.q (Wn.no rfl) rfl rfl (R.loadA (b := b_1) (off := 0) [] [(1, [(vi rd)]), (1, [(vu64 ins)]), (8, regs.map vu64), (1, [(vu64 pc)]), (1, [(.bool true)]), (1, [(vi wt)])] [] (cs := flat [(1, [(vi rd)]), (1, [(vu64 ins)]), (8, regs.map vu64), (1, [(vu64 pc)]), (1, [(.bool true)]), (1, [(vi wt)])]) rfl Try.isAgg28 Try.sizeOf28 (h_6.ok _ (.tail _ (.head _))) rfl rfl rfl rfl) ?_
  refine WL.q (Wn.no rfl) rfl rfl (R.loadA (b := b_4) (off := 0) [] [(4, ain.map vu64)] [] (cs := ain.map vu64) rfl Try.isAgg31 Try.sizeOf31 (h_6.ok _ (.head _)) rfl rfl rfl rfl) ?_
  refine WL.call (al := [(.agg ⟨flat [(1, [(vi rd)]), (1, [(vu64 ins)]), (8, regs.map vu64), (1, [(vu64 pc)]), (1, [(.bool true)]), (1, [(vi wt)])]⟩), (.agg ⟨ain.map vu64⟩)]) Try.call13 rfl rfl (c_Enter rd ins regs hr pc true wt ain ha (by simp [mayE, hw3]) _) rfl ?_
  rintro _ w_8 ⟨rfl, hc_7⟩
  have h_9 := h_6.same hc_7
  refine WL.q (Wn.no rfl) rfl rfl (R.move (v := (.tuple [(.agg ⟨flat [(1, [(vi rd)]), (1, [(vu64 ins)]), (8, (entRegs wt ain regs).map vu64), (1, [(vu64 pc)]), (1, [(.bool true)]), (1, [(vi 0)])]⟩), (vi 0)].toArray)) rfl) ?_
  refine WL.q (Wn.no rfl) rfl rfl (R.extract (l := [(.agg ⟨flat [(1, [(vi rd)]), (1, [(vu64 ins)]), (8, (entRegs wt ain regs).map vu64), (1, [(vu64 pc)]), (1, [(.bool true)]), (1, [(vi 0)])]⟩), (vi 0)]) (v := (.agg ⟨flat [(1, [(vi rd)]), (1, [(vu64 ins)]), (8, (entRegs wt ain regs).map vu64), (1, [(vu64 pc)]), (1, [(.bool true)]), (1, [(vi 0)])]⟩)) rfl rfl) ?_
  refine WL.q (Wn.no rfl) rfl rfl (R.extract (l := [(.agg ⟨flat [(1, [(vi rd)]), (1, [(vu64 ins)]), (8, (entRegs wt ain regs).map vu64), (1, [(vu64 pc)]), (1, [(.bool true)]), (1, [(vi 0)])]⟩), (vi 0)]) (v := (vi 0)) rfl rfl) ?_
  refine WL.alloc (segs := [(1, [(vi 0)]), (1, [(vu64 0)]), (8, (List.replicate 8 (0 : UInt64)).map vu64), (1, [(vu64 0)]), (1, [(.bool false)]), (1, [(vi 0)])]) h_9 (zv Try.typeInfo28 rfl) rfl (SsOk.cons (SOk.v rfl) (SsOk.cons (SOk.v rfl) (SsOk.cons (SOk.u64 (List.length_replicate ..)) (SsOk.cons (SOk.v rfl) (SsOk.cons (SOk.v rfl) (SsOk.cons (SOk.v rfl) SsOk.nil)))))) rfl (fun b_10 w_11 h_12 => ?_)
  refine WL.storeA (b := b_10) (off := 0) [] [(1, [(vi 0)]), (1, [(vu64 0)]), (8, (List.replicate 8 (0 : UInt64)).map vu64), (1, [(vu64 0)]), (1, [(.bool false)]), (1, [(vi 0)])] [(1, [(vi rd)]), (1, [(vu64 ins)]), (8, (entRegs wt ain regs).map vu64), (1, [(vu64 pc)]), (1, [(.bool true)]), (1, [(vi 0)])] [] (ys := flat [(1, [(vi rd)]), (1, [(vu64 ins)]), (8, (entRegs wt ain regs).map vu64), (1, [(vu64 pc)]), (1, [(.bool true)]), (1, [(vi 0)])]) h_12 rfl rfl Try.sizeOf28 At.h (by decide) rfl rfl rfl rfl rfl rfl (SsOk.cons (SOk.v rfl) (SsOk.cons (SOk.v rfl) (SsOk.cons (SOk.u64 (entRegs_len ha hr)) (SsOk.cons (SOk.v rfl) (SsOk.cons (SOk.v rfl) (SsOk.cons (SOk.v rfl) SsOk.nil)))))) (fun w_13 h_14 => ?_)
  refine WL.q (Wn.no rfl) rfl rfl (R.assign (v := (vi 0)) rfl) ?_
  refine WL.nil ?_
  refine thn_n ?_
  refine WP.seq ?_
  refine WP.reg ?_
  refine WL.q (Wn.no rfl) rfl rfl (R.fieldAddr (b := b_1) (off := 0) (off' := 11) rfl Try.underlying28 rfl Try.sizeOf4 rfl rfl) ?_
  refine WL.q (Wn.no rfl) rfl rfl (R.load1 (b := b_1) (off := 11) (v := (.bool true)) rfl Try.isAgg4 (h_14.ok _ (.tail _ (.tail _ (.head _)))) (Sg.t rfl (Sg.t rfl (Sg.t rfl (Sg.t rfl Sg.h))))) ?_
  refine WL.q (Wn.no rfl) rfl rfl (R.move (v := (.bool true)) rfl) ?_
  refine WL.want rfl rfl ?_
  refine WL.q (Wn.no rfl) rfl rfl (R.fieldAddr (b := b_1) (off := 0) (off' := 12) rfl Try.underlying28 rfl Try.sizeOf26 rfl rfl) ?_
  refine WL.want rfl rfl ?_
  refine WL.q (Wn.no rfl) rfl rfl (R.load1 (b := b_1) (off := 12) (v := (vi wt)) rfl Try.isAgg26 (h_14.ok _ (.tail _ (.tail _ (.head _)))) (Sg.t rfl (Sg.t rfl (Sg.t rfl (Sg.t rfl (Sg.t rfl Sg.h)))))) ?_
  refine WL.want rfl rfl ?_
  refine WL.q (Wn.no rfl) rfl rfl (R.bin (v := (.bool (decide ((wt : Int) ≠ 3)))) rfl rfl (bi_neq (r := decide ((wt : Int) ≠ 3)) rfl)) ?_
  refine WL.q (Wn.no rfl) rfl rfl (R.pickT (v := (.bool (decide ((wt : Int) ≠ 3)))) rfl rfl) ?_
  refine WL.q (Wn.no rfl) rfl rfl (R.assign (v := (.bool (decide ((wt : Int) ≠ 3)))) rfl) ?_
  refine WL.nil ?_
  refine thn_n ?_
  refine WP.seq ?_
  refine WP.seq ?_
  refine WP.reg ?_
  refine WL.q (Wn.no rfl) rfl rfl (R.move (v := (.bool (decide ((wt : Int) ≠ 3)))) rfl) ?_
  refine WL.q (Wn.no rfl) rfl rfl (R.not (b := true) (congrArg Value.bool (decide_eq_true hw3))) ?_
  refine WL.nil ?_
  refine thn_n ?_
  refine WP.condF rfl ?_
  refine WP.skip ?_
  refine thn_n ?_
  refine WP.seq ?_
  refine WP.reg ?_
  refine WL.q (Wn.no rfl) rfl rfl (R.loadA (b := b_1) (off := 0) [] [(1, [(vi rd)]), (1, [(vu64 ins)]), (8, regs.map vu64), (1, [(vu64 pc)]), (1, [(.bool true)]), (1, [(vi wt)])] [] (cs := flat [(1, [(vi rd)]), (1, [(vu64 ins)]), (8, regs.map vu64), (1, [(vu64 pc)]), (1, [(.bool true)]), (1, [(vi wt)])]) rfl Try.isAgg28 Try.sizeOf28 (h_14.ok _ (.tail _ (.tail _ (.head _)))) rfl rfl rfl rfl) ?_
  refine WL.alloc (segs := [(1, [(vi 0)]), (1, [(vu64 0)]), (8, (List.replicate 8 (0 : UInt64)).map vu64), (1, [(vu64 0)]), (1, [(.bool false)]), (1, [(vi 0)])]) h_14 (zv Try.typeInfo28 rfl) rfl (SsOk.cons (SOk.v rfl) (SsOk.cons (SOk.v rfl) (SsOk.cons (SOk.u64 (List.length_replicate ..)) (SsOk.cons (SOk.v rfl) (SsOk.cons (SOk.v rfl) (SsOk.cons (SOk.v rfl) SsOk.nil)))))) rfl (fun b_15 w_16 h_17 => ?_)
  refine WL.storeA (b := b_15) (off := 0) [] [(1, [(vi 0)]), (1, [(vu64 0)]), (8, (List.replicate 8 (0 : UInt64)).map vu64), (1, [(vu64 0)]), (1, [(.bool false)]), (1, [(vi 0)])] [(1, [(vi rd)]), (1, [(vu64 ins)]), (8, regs.map vu64), (1, [(vu64 pc)]), (1, [(.bool true)]), (1, [(vi wt)])] [] (ys := flat [(1, [(vi rd)]), (1, [(vu64 ins)]), (8, regs.map vu64), (1, [(vu64 pc)]), (1, [(.bool true)]), (1, [(vi wt)])]) h_17 rfl rfl Try.sizeOf28 At.h (by decide) rfl rfl rfl rfl rfl rfl (SsOk.cons (SOk.v rfl) (SsOk.cons (SOk.v rfl) (SsOk.cons (SOk.u64 hr) (SsOk.cons (SOk.v rfl) (SsOk.cons (SOk.v rfl) (SsOk.cons (SOk.v rfl) SsOk.nil)))))) (fun w_18 h_19 => ?_)
  refine WL.nil ?_
  refine thn_n ?_
  refine WP.seq ?_
  refine WP.seq ?_
  refine WP.reg ?_
  refine WL.q (Wn.no rfl) rfl rfl (R.assign (v := (vi 0)) rfl) ?_
  refine WL.nil ?_
  refine thn_n ?_
  refine WP.block ?_
  refine WP.loopU (WI.round ?_)
  refine WP.seq ?_
  refine WP.seq ?_
  refine WP.reg ?_
  refine WL.q (Wn.no rfl) rfl rfl (R.move (v := (vi 0)) rfl) ?_
  refine WL.q (Wn.no rfl) rfl rfl (R.bin (v := (.bool true)) rfl rfl (bi_lss (r := true) (by decide))) ?_
  refine WL.q (Wn.no rfl) rfl rfl (R.move (v := (.bool true)) rfl) ?_
  refine WL.want rfl rfl ?_
  refine WL.q (Wn.no rfl) rfl rfl (R.fieldAddr (b := b_1) (off := 0) (off' := 12) rfl Try.underlying28 rfl Try.sizeOf26 rfl rfl) ?_
  refine WL.want rfl rfl ?_
  refine WL.q (Wn.no rfl) rfl rfl (R.load1 (b := b_1) (off := 12) (v := (vi wt)) rfl Try.isAgg26 (h_19.ok _ (.tail _ (.tail _ (.tail _ (.head _))))) (Sg.t rfl (Sg.t rfl (Sg.t rfl (Sg.t rfl (Sg.t rfl Sg.h)))))) ?_
  refine WL.want rfl rfl ?_
  refine WL.q (Wn.no rfl) rfl rfl (R.bin (v := (.bool (decide ((wt : Int) = 1)))) rfl rfl (bi_eql (r := decide ((wt : Int) = 1)) rfl)) ?_
  refine WL.q (Wn.no rfl) rfl rfl (R.pickT (v := (.bool (decide ((wt : Int) = 1)))) rfl rfl) ?_
  refine WL.nil ?_
  refine thn_n ?_
  refine WP.condF (congrArg Value.bool (decide_eq_false hw1)) ?_
  refine WP.exit ?_
  refine thn_x ?_
  refine thn_x ?_
  refine inb_hit ?_
  refine thn_n ?_
  refine WP.seq ?_
  refine WP.reg ?_
  refine WL.q (Wn.no rfl) rfl rfl (R.fieldAddr (b := b_15) (off := 0) (off' := 12) rfl Try.underlying28 rfl Try.sizeOf26 rfl rfl) ?_
  refine WL.store1 (b := b_15) (off := 12) (v := (vi 0)) h_19 rfl rfl Try.sizeOf26 rfl At.h (by decide) (Sg.t rfl (Sg.t rfl (Sg.t rfl (Sg.t rfl (Sg.t rfl Sg.h))))) (fun w_20 h_21 => ?_)
  refine WL.nil ?_
  refine thn_n ?_
  refine WP.seq ?_
  refine WP.reg ?_
  refine WL.q (Wn.no rfl) rfl rfl (R.move (v := (vi 0)) rfl) ?_
  refine WL.q (Wn.no rfl) rfl rfl (R.bin (v := (.bool true)) rfl rfl (bi_eql (r := true) (by decide))) ?_
  refine WL.q (Wn.no rfl) rfl rfl (R.move (v := (.bool true)) rfl) ?_
  refine WL.want rfl rfl ?_
  refine WL.q (Wn.no rfl) rfl rfl (R.loadA (b := b_10) (off := 0) [] [(1, [(vi rd)]), (1, [(vu64 ins)]), (8, (entRegs wt ain regs).map vu64), (1, [(vu64 pc)]), (1, [(.bool true)]), (1, [(vi 0)])] [] (cs := flat [(1, [(vi rd)]), (1, [(vu64 ins)]), (8, (entRegs wt ain regs).map vu64), (1, [(vu64 pc)]), (1, [(.bool true)]), (1, [(vi 0)])]) rfl Try.isAgg28 Try.sizeOf28 (h_21.ok _ (.tail _ (.head _))) rfl rfl rfl rfl) ?_
  refine WL.want rfl rfl ?_
  refine WL.q (Wn.no rfl) rfl rfl (R.loadA (b := b_15) (off := 0) [] [(1, [(vi rd)]), (1, [(vu64 ins)]), (8, regs.map vu64), (1, [(vu64 pc)]), (1, [(.bool true)]), (1, [(vi 0)])] [] (cs := flat [(1, [(vi rd)]), (1, [(vu64 ins)]), (8, regs.map vu64), (1, [(vu64 pc)]), (1, [(.bool true)]), (1, [(vi 0)])]) rfl Try.isAgg28 Try.sizeOf28 (h_21.ok _ (.head _)) rfl rfl rfl rfl) ?_
  refine WL.want rfl rfl ?_
  refine WL.q (Wn.no rfl) rfl rfl (R.eqA (xs := flat [(1, [(vi rd)]), (1, [(vu64 ins)]), (8, (entRegs wt ain regs).map vu64), (1, [(vu64 pc)]), (1, [(.bool true)]), (1, [(vi 0)])]) (ys := flat [(1, [(vi rd)]), (1, [(vu64 ins)]), (8, regs.map vu64), (1, [(vu64 pc)]), (1, [(.bool true)]), (1, [(vi 0)])]) (r := true) rfl rfl Try.eqGuardType28 kt28 (by decide) ag28 (Typ.struct (h := 3) (r := [(1, [(vi rd)]), (1, [(vu64 ins)]), (9, flat [(8, (entRegs wt ain regs).map vu64), (1, [(vu64 pc)])]), (1, [(.bool true)]), (1, [(vi 0)])]) (cs := flat [(1, [(vi rd)]), (1, [(vu64 ins)]), (8, (entRegs wt ain regs).map vu64), (1, [(vu64 pc)]), (1, [(.bool true)]), (1, [(vi 0)])]) Try.underlying28 (TypF.cons (k := 1) rfl rfl (by decide) rfl (Typ.int Try.underlying3 ce3 (WalkArith.wf_i64 (by omega))) (TypF.cons (k := 1) rfl rfl (by decide) rfl (Typ.int Try.underlying22 ce22 (wfu64 ins)) (TypF.cons (k := 9) rfl rfl (by decide) ((SsOk.cons (SOk.u64 (entRegs_len ha hr)) (SsOk.cons (SOk.v rfl) SsOk.nil))).len (Typ.struct (h := 2) (r := [(8, (entRegs wt ain regs).map vu64), (1, [(vu64 pc)])]) (cs := flat [(8, (entRegs wt ain regs).map vu64), (1, [(vu64 pc)])]) Try.underlying25 (TypF.cons (k := 8) rfl rfl (by decide) (len_map (entRegs_len ha hr)) (Typ.u64s Try.underlying23 ce23 Try.underlying22 ce22 (entRegs_len ha hr)) (TypF.cons (k := 1) rfl rfl (by decide) rfl (Typ.int Try.underlying22 ce22 (wfu64 pc)) TypF.nil)) rfl (((SsOk.cons (SOk.u64 (entRegs_len ha hr)) (SsOk.cons (SOk.v rfl) SsOk.nil))).len.trans ce25.symm)) (TypF.cons (k := 1) rfl rfl (by decide) rfl (Typ.bool Try.underlying4 ce4) (TypF.cons (k := 1) rfl rfl (by decide) rfl (Typ.int Try.underlying26 ce26 (by decide)) TypF.nil))))) (by simp [flat]) (((SsOk.cons (SOk.v rfl) (SsOk.cons (SOk.v rfl) (SsOk.cons (SOk.u64 (entRegs_len ha hr)) (SsOk.cons (SOk.v rfl) (SsOk.cons (SOk.v rfl) (SsOk.cons (SOk.v rfl) SsOk.nil))))))).len.trans ce28.symm)) (Typ.struct (h := 3) (r := [(1, [(vi rd)]), (1, [(vu64 ins)]), (9, flat [(8, regs.map vu64), (1, [(vu64 pc)])]), (1, [(.bool true)]), (1, [(vi 0)])]) (cs := flat [(1, [(vi rd)]), (1, [(vu64 ins)]), (8, regs.map vu64), (1, [(vu64 pc)]), (1, [(.bool true)]), (1, [(vi 0)])]) Try.underlying28 (TypF.cons (k := 1) rfl rfl (by decide) rfl (Typ.int Try.underlying3 ce3 (WalkArith.wf_i64 (by omega))) (TypF.cons (k := 1) rfl rfl (by decide) rfl (Typ.int Try.underlying22 ce22 (wfu64 ins)) (TypF.cons (k := 9) rfl rfl (by decide) ((SsOk.cons (SOk.u64 hr) (SsOk.cons (SOk.v rfl) SsOk.nil))).len (Typ.struct (h := 2) (r := [(8, regs.map vu64), (1, [(vu64 pc)])]) (cs := flat [(8, regs.map vu64), (1, [(vu64 pc)])]) Try.underlying25 (TypF.cons (k := 8) rfl rfl (by decide) (len_map hr) (Typ.u64s Try.underlying23 ce23 Try.underlying22 ce22 hr) (TypF.cons (k := 1) rfl rfl (by decide) rfl (Typ.int Try.underlying22 ce22 (wfu64 pc)) TypF.nil)) rfl (((SsOk.cons (SOk.u64 hr) (SsOk.cons (SOk.v rfl) SsOk.nil))).len.trans ce25.symm)) (TypF.cons (k := 1) rfl rfl (by decide) rfl (Typ.bool Try.underlying4 ce4) (TypF.cons (k := 1) rfl rfl (by decide) rfl (Typ.int Try.underlying26 ce26 (by decide)) TypF.nil))))) (by simp [flat]) (((SsOk.cons (SOk.v rfl) (SsOk.cons (SOk.v rfl) (SsOk.cons (SOk.u64 hr) (SsOk.cons (SOk.v rfl) (SsOk.cons (SOk.v rfl) (SsOk.cons (SOk.v rfl) SsOk.nil))))))).len.trans ce28.symm)) (eqT (by rw [entRegs, if_neg hw1]))) ?_
  refine WL.q (Wn.no rfl) rfl rfl (R.pickT (v := (.bool true)) rfl rfl) ?_
  refine WL.q (Wn.no rfl) rfl rfl (R.move (v := (.bool true)) rfl) ?_
  refine WL.want rfl rfl ?_
  refine WL.q (Wn.no rfl) rfl rfl (R.loadA (b := b_1) (off := 0) [] [(1, [(vi rd)]), (1, [(vu64 ins)]), (8, regs.map vu64), (1, [(vu64 pc)]), (1, [(.bool true)]), (1, [(vi wt)])] [] (cs := flat [(1, [(vi rd)]), (1, [(vu64 ins)]), (8, regs.map vu64), (1, [(vu64 pc)]), (1, [(.bool true)]), (1, [(vi wt)])]) rfl Try.isAgg28 Try.sizeOf28 (h_21.ok _ (.tail _ (.tail _ (.tail _ (.head _))))) rfl rfl rfl rfl) ?_
  refine WL.want rfl rfl ?_
  refine WL.call (al := [(.agg ⟨flat [(1, [(vi rd)]), (1, [(vu64 ins)]), (8, regs.map vu64), (1, [(vu64 pc)]), (1, [(.bool true)]), (1, [(vi wt)])]⟩)]) Try.call14 rfl rfl (c_May rd ins regs hr pc true wt 0 (by simp [mayE, hw3]) _) rfl ?_
  rintro _ w_23 ⟨rfl, hc_22⟩
  have h_24 := h_21.same hc_22
  refine WL.want rfl rfl ?_
  refine WL.q (Wn.no rfl) rfl rfl (R.bin (v := (.bool true)) rfl rfl (bi_eql (r := true) (by decide))) ?_
  refine WL.q (Wn.no rfl) rfl rfl (R.pickT (v := (.bool true)) rfl rfl) ?_
  refine WL.q (Wn.no rfl) rfl rfl (R.move (v := (.bool true)) rfl) ?_
  refine WL.want rfl rfl ?_
  refine WL.call (al := []) Try.call15 rfl rfl (c_known14  _) rfl ?_
  rintro _ w_26 ⟨rfl, hc_25⟩
  have h_27 := h_24.same hc_25
  refine WL.q (Wn.no rfl) rfl rfl (R.pickT (v := (.bool true)) rfl rfl) ?_
  refine WL.q (Wn.no rfl) rfl rfl (R.assign (v := (.bool true)) rfl) ?_
  refine WL.nil ?_
  refine thn_n ?_
  refine WP.ret ?_
  refine ret_of Try.results3 (RV.tmp (v := (.bool true)) rfl RV.nil) ?_
  exact ⟨rfl, h_27.chgS⟩

theorem w_RecEnters (rd : Int) (ins : UInt64) (regs : List UInt64) (hr : regs.length = 8) (pc : UInt64) (run : Bool) (wt : Int) (ain : List UInt64) (ha : ain.length = 4) (b_rd : -9223372036854775808 ≤ rd ∧ rd < 9223372036854775808) (b_wt : -9223372036854775808 ≤ wt ∧ wt < 9223372036854775808) (w : World) :
    Cs Try.prog 3 [(.agg ⟨flat [(1, [(vi rd)]), (1, [(vu64 ins)]), (8, regs.map vu64), (1, [(vu64 pc)]), (1, [(.bool run)]), (1, [(vi wt)])]⟩), (.agg ⟨ain.map vu64⟩)].toArray w (fun v w1 => v = .bool true ∧ Chg w w1 []) := by
  cases run
  · exact w_RecEnters_a rd ins regs hr pc b_rd ain ha wt b_wt w
  · by_cases h3 : wt = 3
    · subst h3; exact w_RecEnters_b rd ins regs hr pc b_rd ain ha w
    · by_cases h1 : wt = 1
      · subst h1; exact w_RecEnters_c rd ins regs hr pc b_rd ain ha w
      · exact w_RecEnters_d rd ins regs hr pc b_rd ain ha wt h1 h3 b_wt w
namespace recEntersDone
open Go.ChangeShapes Go.WideShapes Go.ChangeAt
theorem own : ownKnob Try.prog.godebug = none := by kernel_rfl
theorem laidOut : laidOutB Try.prog = true := by kernel_rfl
set_option maxRecDepth 100000 in
theorem lifted (os : Os) (started : os.Started) (H : Type) (enc : TypeId × Value → H) :
    ReturnsInHanded {} Try.checked os 3 .any (Rows.recEntersSpec.pre6 enc Try.prog Try.f3 Rows.recEntersRow.domain false) (Rows.recEntersSpec.post enc Try.prog Try.f3 false true false false) := by
  refine returnsInHanded_of_change (C := Try.checked) own started (by kernel_rfl) Try.func3
    (ChangeSpec.witness6 (enc := enc) (C := Try.checked) false ⟨#[], #[.agg #[.int .i64 0, .int .u64 0, .int .u64 0, .int .u64 0, .int .u64 0, .int .u64 0, .int .u64 0, .int .u64 0, .int .u64 0, .int .u64 0, .int .u64 0, .bool false, .int .i64 0], .agg #[.int .u64 0, .int .u64 0, .int .u64 0, .int .u64 0]], []⟩ 8 (by kernel_rfl) (by kernel_rfl) (by kernel_rfl) (by kernel_rfl)) ?_
  intro W base args ds gs before hval0 hW hcnd _
  have hval : ∀ (j : Nat) t v, Try.f3.params[j]? = some t → args[j]? = some v → Value.okWide Try.prog W .any base t v := hval0
  have hW' := hW
  obtain ⟨p, q, hA0, hV, rfl, hfz, hnd⟩ := hW
  have hA : DataW.TrodAll enc Try.prog W 0 (fun _ => true) true Try.f3.params.toList args.toList ds p := hA0
  rw [Try.params3] at hA hval
  obtain ⟨v0, vs0, d0, ds0, p0, q0, hargs, rfl, rfl, h0, r0⟩ := trodAll_cons hA
  obtain ⟨v1, vs1, d1, ds1, p1, q1, rfl, rfl, rfl, h1, r1⟩ := trodAll_cons r0
  obtain ⟨rfl, rfl, rfl⟩ := trodAll_nil r1
  obtain rfl : args = #[v0, v1] := by cases args; simp_all
  obtain ⟨rfl, rfl⟩ := trodVars_none hV
  have lt0 : ∀ x ∈ p0, x.block < W.heap.size := by obtain ⟨m, hm⟩ := h0; exact DataW.trod_lt m _ _ _ hm
  obtain ⟨cs0, rfl⟩ := okWide_agg aggT28 (hval 0 28 v0 rfl rfl)
  have tr0 : Tr Try.prog W 28 cs0 := Tr.of h0 rfl
  have tl_x0 := Tr.struct (l := [(1, 3), (1, 22), (9, 25), (1, 4), (1, 26)]) Try.underlying28 ce28 (by kernel_rfl) tr0
  obtain ⟨a_x00, r_x00, rfl, n_x00, t_x00, tl_x00⟩ := tl_x0
  obtain ⟨x00, rfl, b_x00⟩ := Tr.i64 Try.underlying3 t_x00
  obtain ⟨a_x01, r_x01, rfl, n_x01, t_x01, tl_x01⟩ := tl_x00
  obtain ⟨x01, rfl⟩ := Tr.u64 Try.underlying22 t_x01
  obtain ⟨a_x02, r_x02, rfl, n_x02, t_x02, tl_x02⟩ := tl_x01
  have tl_x02 := Tr.struct (l := [(8, 23), (1, 22)]) Try.underlying25 ce25 (by kernel_rfl) t_x02
  obtain ⟨a_x020, r_x020, rfl, n_x020, t_x020, tl_x020⟩ := tl_x02
  obtain ⟨x020, rfl, l_x020⟩ := Tr.arr64 Try.underlying23 ce23 ce22 Try.underlying22 t_x020
  obtain ⟨a_x021, r_x021, rfl, n_x021, t_x021, tl_x021⟩ := tl_x020
  obtain ⟨x021, rfl⟩ := Tr.u64 Try.underlying22 t_x021
  obtain rfl := tl_x021
  obtain ⟨a_x03, r_x03, rfl, n_x03, t_x03, tl_x03⟩ := tl_x02
  obtain ⟨x03, rfl⟩ := Tr.bool Try.underlying4 t_x03
  obtain ⟨a_x04, r_x04, rfl, n_x04, t_x04, tl_x04⟩ := tl_x03
  obtain ⟨x04, rfl, b_x04⟩ := Tr.i64 Try.underlying26 t_x04
  obtain rfl := tl_x04
  have lt1 : ∀ x ∈ p1, x.block < W.heap.size := by obtain ⟨m, hm⟩ := h1; exact DataW.trod_lt m _ _ _ hm
  obtain ⟨cs1, rfl⟩ := okWide_agg aggT31 (hval 1 31 v1 rfl rfl)
  have tr1 : Tr Try.prog W 31 cs1 := Tr.of h1 rfl
  have tl_x1 := Tr.struct (l := [(4, 29)]) Try.underlying31 ce31 (by kernel_rfl) tr1
  obtain ⟨a_x10, r_x10, rfl, n_x10, t_x10, tl_x10⟩ := tl_x1
  obtain ⟨x10, rfl, l_x10⟩ := Tr.arr64 Try.underlying29 ce29 ce22 Try.underlying22 t_x10
  obtain rfl := tl_x10
  clear hA0 hval0
  have hw : Cs Try.prog 3 [(.agg ⟨flat [(1, [(vi x00)]), (1, [(vu64 x01)]), (8, x020.map vu64), (1, [(vu64 x021)]), (1, [(.bool x03)]), (1, [(vi x04)])]⟩), (.agg ⟨x10.map vu64⟩)].toArray W (fun v w1 => v = .bool true ∧ Chg W w1 []) := w_RecEnters x00 x01 x020 l_x020 x021 x03 x04 x10 l_x10 b_x00 b_x04 W
  have ea : ([(.agg ⟨flat [(1, [(vi x00)]), (1, [(vu64 x01)]), (8, x020.map vu64), (1, [(vu64 x021)]), (1, [(.bool x03)]), (1, [(vi x04)])]⟩), (.agg ⟨x10.map vu64⟩)] : List Value).toArray = (#[.agg ⟨([vi x00] ++ ([vu64 x01] ++ ((x020.map vu64 ++ ([vu64 x021] ++ [])) ++ ([.bool x03] ++ ([vi x04] ++ [])))))⟩, .agg ⟨(x10.map vu64 ++ [])⟩] : Array Value) := by simp [flat]
  rw [ea] at hw
  refine Calls.mono (Cs.below hw) fun e W' ⟨he, bel⟩ => ?_
  subst he
  exact ⟨_, rfl, _, _, _, [], _, [], hW', trodAll_mk1 (shut_bool Try.underlying4 _), (trodAll_cons_mk (Below.trod laidOut (by kernel_rfl) (of_decide_eq_true (by kernel_rfl)) h0 bel lt0) (trodAll_cons_mk (Below.trod laidOut (by kernel_rfl) (of_decide_eq_true (by kernel_rfl)) h1 bel lt1) trodAll_mk0)), rfl, bel.frame _, fun h => by cases h⟩
theorem over : Rows.recEntersRow.holds Try.pinned (OpenSpec.ofChange Rows.recEntersSpec) :=
  OpenClaim.holds_of_wide 3 Try.f3 rfl rfl rfl rfl rfl rfl rfl ⟨rfl, rfl, rfl, rfl, rfl⟩ rfl rfl rfl rfl rfl (by kernel_rfl) Try.func3 (by kernel_rfl)
    (of_decide_eq_true (by kernel_rfl)) (by unfold Func.isWrapper; first | (rw [if_pos (by decide +kernel)]; kernel_rfl) | (rw [if_neg (by decide +kernel)]; exact ⟨rfl, rfl⟩))
    (fun os started H enc _ => lifted os started H enc)
theorem proved : Rows.RecEntersSaid := over
end recEntersDone
end Go.Proofs.Ythkcekgemanfdaa
