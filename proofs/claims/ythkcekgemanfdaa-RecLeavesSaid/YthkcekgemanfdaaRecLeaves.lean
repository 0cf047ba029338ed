/- RecLeaves holds of every input. Conditions: none. -/
import Derived.Test.YthkcekgemanfdaaB1
namespace Go.Proofs.Ythkcekgemanfdaa
open Go.Vc Go.RowKit
set_option linter.unusedVariables false
set_option linter.unusedSimpArgs false
theorem w_RecLeaves_a (rd : Int) (ins : UInt64) (regs : List UInt64) (hr : regs.length = 8) (pc : UInt64) (run : Bool) (wt : Int) (cr : List UInt64) (hcr : cr.length = 8) (cpc : UInt64) (rs : Int) (ors : List UInt64) (hor : ors.length = 4) (adr : UInt64) (wr : Bool) (ran : Int) (b_rd : -9223372036854775808 ≤ rd ∧ rd < 9223372036854775808) (b_wt : -9223372036854775808 ≤ wt ∧ wt < 9223372036854775808) (hx : rs < 1) (w : World) :
    Cs Try.prog 4 [(.agg ⟨flat [(1, [(vi rd)]), (1, [(vu64 ins)]), (8, regs.map vu64), (1, [(vu64 pc)]), (1, [(.bool run)]), (1, [(vi wt)])]⟩), (.agg ⟨flat [(8, cr.map vu64), (1, [(vu64 cpc)])]⟩), (.agg ⟨flat [(1, [(vi rs)]), (4, ors.map vu64), (1, [(vu64 adr)]), (1, [(.bool wr)]), (1, [(vi ran)])]⟩)].toArray w (fun v w1 => v = .bool true ∧ Chg w w1 []) := by
  refine Cs.of (n := 58) (args := [(.agg ⟨flat [(1, [(vi rd)]), (1, [(vu64 ins)]), (8, regs.map vu64), (1, [(vu64 pc)]), (1, [(.bool run)]), (1, [(vi wt)])]⟩), (.agg ⟨flat [(8, cr.map vu64), (1, [(vu64 cpc)])]⟩), (.agg ⟨flat [(1, [(vi rs)]), (4, ors.map vu64), (1, [(vu64 adr)]), (1, [(.bool wr)]), (1, [(vi ran)])]⟩)]) Try.func4 rfl rfl rfl ?_
  have h_0 := HP.init w
  refine WP.seq ?_
  refine WP.reg ?_
  refine WL.box (v := (.agg ⟨flat [(1, [(vi rd)]), (1, [(vu64 ins)]), (8, regs.map vu64), (1, [(vu64 pc)]), (1, [(.bool run)]), (1, [(vi wt)])]⟩)) (segs := [(1, [(vi rd)]), (1, [(vu64 ins)]), (8, regs.map vu64), (1, [(vu64 pc)]), (1, [(.bool run)]), (1, [(vi wt)])]) h_0 rfl rfl (SsOk.cons (SOk.v rfl) (SsOk.cons (SOk.v rfl) (SsOk.cons (SOk.u64 hr) (SsOk.cons (SOk.v rfl) (SsOk.cons (SOk.v rfl) (SsOk.cons (SOk.v rfl) SsOk.nil)))))) rfl (fun b_1 w_2 h_3 => ?_)
  refine WL.box (v := (.agg ⟨flat [(8, cr.map vu64), (1, [(vu64 cpc)])]⟩)) (segs := [(8, cr.map vu64), (1, [(vu64 cpc)])]) h_3 rfl rfl (SsOk.cons (SOk.u64 hcr) (SsOk.cons (SOk.v rfl) SsOk.nil)) rfl (fun b_4 w_5 h_6 => ?_)
  refine WL.box (v := (.agg ⟨flat [(1, [(vi rs)]), (4, ors.map vu64), (1, [(vu64 adr)]), (1, [(.bool wr)]), (1, [(vi ran)])]⟩)) (segs := [(1, [(vi rs)]), (4, ors.map vu64), (1, [(vu64 adr)]), (1, [(.bool wr)]), (1, [(vi ran)])]) h_6 rfl rfl (SsOk.cons (SOk.v rfl) (SsOk.cons (SOk.u64 hor) (SsOk.cons (SOk.v rfl) (SsOk.cons (SOk.v rfl) (SsOk.cons (SOk.v rfl) SsOk.nil))))) rfl (fun b_7 w_8 h_9 => ?_)
  refine WL.q (Wn.no rfl) rfl rfl (R.assign (v := (.bool false)) rfl) ?_
  refine WL.nil ?_
  refine thn_n ?_
  refine WP.seq ?_
  refine WP.reg ?_
  refine WL.q (Wn.no rfl) rfl rfl (R.loadA (b := b_1) (off := 0) [] [(1, [(vi rd)]), (1, [(vu64 ins)]), (8, regs.map vu64), (1, [(vu64 pc)]), (1, [(.bool run)]), (1, [(vi wt)])] [] (cs := flat [(1, [(vi rd)]), (1, [(vu64 ins)]), (8, regs.map vu64), (1, [(vu64 pc)]), (1, [(.bool run)]), (1, [(vi wt)])]) rfl Try.isAgg28 Try.sizeOf28 (h_9.ok _ (.tail _ (.tail _ (.head _)))) rfl rfl rfl rfl) ?_
  refine WL.q (Wn.no rfl) rfl rfl (R.loadA (b := b_4) (off := 0) [] [(8, cr.map vu64), (1, [(vu64 cpc)])] [] (cs := flat [(8, cr.map vu64), (1, [(vu64 cpc)])]) rfl Try.isAgg25 Try.sizeOf25 (h_9.ok _ (.tail _ (.head _))) rfl rfl rfl rfl) ?_
  refine WL.q (Wn.no rfl) rfl rfl (R.loadA (b := b_7) (off := 0) [] [(1, [(vi rs)]), (4, ors.map vu64), (1, [(vu64 adr)]), (1, [(.bool wr)]), (1, [(vi ran)])] [] (cs := flat [(1, [(vi rs)]), (4, ors.map vu64), (1, [(vu64 adr)]), (1, [(.bool wr)]), (1, [(vi ran)])]) rfl Try.isAgg40 Try.sizeOf40 (h_9.ok _ (.head _)) rfl rfl rfl rfl) ?_
  refine WL.call (al := [(.agg ⟨flat [(1, [(vi rd)]), (1, [(vu64 ins)]), (8, regs.map vu64), (1, [(vu64 pc)]), (1, [(.bool run)]), (1, [(vi wt)])]⟩), (.agg ⟨flat [(8, cr.map vu64), (1, [(vu64 cpc)])]⟩), (.agg ⟨flat [(1, [(vi rs)]), (4, ors.map vu64), (1, [(vu64 adr)]), (1, [(.bool wr)]), (1, [(vi ran)])]⟩)]) Try.call16 rfl rfl (c_Leave_n1 rd ins regs hr pc run wt cr hcr cpc rs ors hor adr wr ran (.inl hx) _) rfl ?_
  rintro _ w_11 ⟨rfl, hc_10⟩
  have h_12 := h_9.same hc_10
  refine WL.q (Wn.no rfl) rfl rfl (R.move (v := (.tuple [(.agg ⟨flat [(1, [(vi 0)]), (1, [(vu64 0)]), (8, (List.replicate 8 (0 : UInt64)).map vu64), (1, [(vu64 0)]), (1, [(.bool false)]), (1, [(vi 0)])]⟩), (vi 2)].toArray)) rfl) ?_
  refine WL.q (Wn.no rfl) rfl rfl (R.extract (l := [(.agg ⟨flat [(1, [(vi 0)]), (1, [(vu64 0)]), (8, (List.replicate 8 (0 : UInt64)).map vu64), (1, [(vu64 0)]), (1, [(.bool false)]), (1, [(vi 0)])]⟩), (vi 2)]) (v := (.agg ⟨flat [(1, [(vi 0)]), (1, [(vu64 0)]), (8, (List.replicate 8 (0 : UInt64)).map vu64), (1, [(vu64 0)]), (1, [(.bool false)]), (1, [(vi 0)])]⟩)) rfl rfl) ?_
  refine WL.q (Wn.no rfl) rfl rfl (R.extract (l := [(.agg ⟨flat [(1, [(vi 0)]), (1, [(vu64 0)]), (8, (List.replicate 8 (0 : UInt64)).map vu64), (1, [(vu64 0)]), (1, [(.bool false)]), (1, [(vi 0)])]⟩), (vi 2)]) (v := (vi 2)) rfl rfl) ?_
  refine WL.alloc (segs := [(1, [(vi 0)]), (1, [(vu64 0)]), (8, (List.replicate 8 (0 : UInt64)).map vu64), (1, [(vu64 0)]), (1, [(.bool false)]), (1, [(vi 0)])]) h_12 (zv Try.typeInfo28 rfl) rfl (SsOk.cons (SOk.v rfl) (SsOk.cons (SOk.v rfl) (SsOk.cons (SOk.u64 (List.length_replicate ..)) (SsOk.cons (SOk.v rfl) (SsOk.cons (SOk.v rfl) (SsOk.cons (SOk.v rfl) SsOk.nil)))))) rfl (fun b_13 w_14 h_15 => ?_)
  refine WL.storeA (b := b_13) (off := 0) [] [(1, [(vi 0)]), (1, [(vu64 0)]), (8, (List.replicate 8 (0 : UInt64)).map vu64), (1, [(vu64 0)]), (1, [(.bool false)]), (1, [(vi 0)])] [(1, [(vi 0)]), (1, [(vu64 0)]), (8, (List.replicate 8 (0 : UInt64)).map vu64), (1, [(vu64 0)]), (1, [(.bool false)]), (1, [(vi 0)])] [] (ys := flat [(1, [(vi 0)]), (1, [(vu64 0)]), (8, (List.replicate 8 (0 : UInt64)).map vu64), (1, [(vu64 0)]), (1, [(.bool false)]), (1, [(vi 0)])]) h_15 rfl rfl Try.sizeOf28 At.h (by decide) rfl rfl rfl rfl rfl rfl (SsOk.cons (SOk.v rfl) (SsOk.cons (SOk.v rfl) (SsOk.cons (SOk.u64 (List.length_replicate ..)) (SsOk.cons (SOk.v rfl) (SsOk.cons (SOk.v rfl) (SsOk.cons (SOk.v rfl) SsOk.nil)))))) (fun w_16 h_17 => ?_)
  refine WL.q (Wn.no rfl) rfl rfl (R.assign (v := (vi 2)) rfl) ?_
  refine WL.nil ?_
  refine thn_n ?_
  refine WP.seq ?_
  refine WP.seq ?_
  refine WP.reg ?_
  refine WL.q (Wn.no rfl) rfl rfl (R.fieldAddr (b := b_7) (off := 0) (off' := 0) rfl Try.underlying40 rfl Try.sizeOf38 rfl rfl) ?_
  refine WL.q (Wn.no rfl) rfl rfl (R.load1 (b := b_7) (off := 0) (v := (vi rs)) rfl Try.isAgg38 (h_17.ok _ (.tail _ (.head _))) Sg.h) ?_
  refine WL.q (Wn.no rfl) rfl rfl (R.bin (v := (.bool (decide ((rs : Int) < 1)))) rfl rfl (bi_lss (r := decide ((rs : Int) < 1)) rfl)) ?_
  refine WL.q (Wn.no rfl) rfl rfl (R.move (v := (.bool (decide ((rs : Int) < 1)))) rfl) ?_
  refine WL.skip rfl (congrArg Value.bool (decide_eq_true (by omega))) rfl ?_
  refine WL.skip rfl (congrArg Value.bool (decide_eq_true (by omega))) rfl ?_
  refine WL.skip rfl (congrArg Value.bool (decide_eq_true (by omega))) rfl ?_
  refine WL.q (Wn.no rfl) rfl rfl (R.pickT (v := (.bool true)) (congrArg Value.bool (decide_eq_true (by omega))) rfl) ?_
  refine WL.q (Wn.no rfl) rfl rfl (R.move (v := (.bool true)) rfl) ?_
  refine WL.skip rfl rfl rfl ?_
  refine WL.skip rfl rfl rfl ?_
  refine WL.skip rfl rfl rfl ?_
  refine WL.q (Wn.no rfl) rfl rfl (R.pickT (v := (.bool true)) rfl rfl) ?_
  refine WL.nil ?_
  refine thn_n ?_
  refine WP.condT rfl ?_
  refine WP.seq ?_
  refine WP.reg ?_
  refine WL.q (Wn.no rfl) rfl rfl (R.move (v := (vi 2)) rfl) ?_
  refine WL.q (Wn.no rfl) rfl rfl (R.bin (v := (.bool true)) rfl rfl (bi_eql (r := true) (by decide))) ?_
  refine WL.q (Wn.no rfl) rfl rfl (R.move (v := (.bool true)) rfl) ?_
  refine WL.want rfl rfl ?_
  refine WL.q (Wn.no rfl) rfl rfl (R.loadA (b := b_13) (off := 0) [] [(1, [(vi 0)]), (1, [(vu64 0)]), (8, (List.replicate 8 (0 : UInt64)).map vu64), (1, [(vu64 0)]), (1, [(.bool false)]), (1, [(vi 0)])] [] (cs := flat [(1, [(vi 0)]), (1, [(vu64 0)]), (8, (List.replicate 8 (0 : UInt64)).map vu64), (1, [(vu64 0)]), (1, [(.bool false)]), (1, [(vi 0)])]) rfl Try.isAgg28 Try.sizeOf28 (h_17.ok _ (.head _)) rfl rfl rfl rfl) ?_
  refine WL.want rfl rfl ?_
  refine WL.q (Wn.no rfl) rfl rfl (R.buildS (pl := [(0, 1), (1, 1), (2, 9), (11, 1), (12, 1)]) (zs := [(1, [(vi 0)]), (1, [(vu64 0)]), (8, (List.replicate 8 (0 : UInt64)).map vu64), (1, [(vu64 0)]), (1, [(.bool false)]), (1, [(vi 0)])]) (vs := []) (out := [(1, [(vi 0)]), (1, [(vu64 0)]), (8, (List.replicate 8 (0 : UInt64)).map vu64), (1, [(vu64 0)]), (1, [(.bool false)]), (1, [(vi 0)])]) (cs := flat [(1, [(vi 0)]), (1, [(vu64 0)]), (8, (List.replicate 8 (0 : UInt64)).map vu64), (1, [(vu64 0)]), (1, [(.bool false)]), (1, [(vi 0)])]) Try.underlying28 (zv Try.typeInfo28 rfl) rfl (SsOk.cons (SOk.v rfl) (SsOk.cons (SOk.v rfl) (SsOk.cons (SOk.u64 (List.length_replicate ..)) (SsOk.cons (SOk.v rfl) (SsOk.cons (SOk.v rfl) (SsOk.cons (SOk.v rfl) SsOk.nil)))))) (pl28 _ Try.underlying28) rfl FillR.nil rfl) ?_
  refine WL.want rfl rfl ?_
  refine WL.q (Wn.no rfl) rfl rfl (R.eqA (xs := flat [(1, [(vi 0)]), (1, [(vu64 0)]), (8, (List.replicate 8 (0 : UInt64)).map vu64), (1, [(vu64 0)]), (1, [(.bool false)]), (1, [(vi 0)])]) (ys := flat [(1, [(vi 0)]), (1, [(vu64 0)]), (8, (List.replicate 8 (0 : UInt64)).map vu64), (1, [(vu64 0)]), (1, [(.bool false)]), (1, [(vi 0)])]) (r := true) rfl rfl Try.eqGuardType28 kt28 (by decide) ag28 (Typ.struct (h := 3) (r := [(1, [(vi 0)]), (1, [(vu64 0)]), (9, flat [(8, (List.replicate 8 (0 : UInt64)).map vu64), (1, [(vu64 0)])]), (1, [(.bool false)]), (1, [(vi 0)])]) (cs := flat [(1, [(vi 0)]), (1, [(vu64 0)]), (8, (List.replicate 8 (0 : UInt64)).map vu64), (1, [(vu64 0)]), (1, [(.bool false)]), (1, [(vi 0)])]) Try.underlying28 (TypF.cons (k := 1) rfl rfl (by decide) rfl (Typ.int Try.underlying3 ce3 (by decide)) (TypF.cons (k := 1) rfl rfl (by decide) rfl (Typ.int Try.underlying22 ce22 (wfu64 0)) (TypF.cons (k := 9) rfl rfl (by decide) ((SsOk.cons (SOk.u64 (List.length_replicate ..)) (SsOk.cons (SOk.v rfl) SsOk.nil))).len (Typ.struct (h := 2) (r := [(8, (List.replicate 8 (0 : UInt64)).map vu64), (1, [(vu64 0)])]) (cs := flat [(8, (List.replicate 8 (0 : UInt64)).map vu64), (1, [(vu64 0)])]) Try.underlying25 (TypF.cons (k := 8) rfl rfl (by decide) (len_map (List.length_replicate ..)) (Typ.u64s Try.underlying23 ce23 Try.underlying22 ce22 (List.length_replicate ..)) (TypF.cons (k := 1) rfl rfl (by decide) rfl (Typ.int Try.underlying22 ce22 (wfu64 0)) TypF.nil)) rfl (((SsOk.cons (SOk.u64 (List.length_replicate ..)) (SsOk.cons (SOk.v rfl) SsOk.nil))).len.trans ce25.symm)) (TypF.cons (k := 1) rfl rfl (by decide) rfl (Typ.bool Try.underlying4 ce4) (TypF.cons (k := 1) rfl rfl (by decide) rfl (Typ.int Try.underlying26 ce26 (by decide)) TypF.nil))))) (by simp [flat]) (((SsOk.cons (SOk.v rfl) (SsOk.cons (SOk.v rfl) (SsOk.cons (SOk.u64 (List.length_replicate ..)) (SsOk.cons (SOk.v rfl) (SsOk.cons (SOk.v rfl) (SsOk.cons (SOk.v rfl) SsOk.nil))))))).len.trans ce28.symm)) (Typ.struct (h := 3) (r := [(1, [(vi 0)]), (1, [(vu64 0)]), (9, flat [(8, (List.replicate 8 (0 : UInt64)).map vu64), (1, [(vu64 0)])]), (1, [(.bool false)]), (1, [(vi 0)])]) (cs := flat [(1, [(vi 0)]), (1, [(vu64 0)]), (8, (List.replicate 8 (0 : UInt64)).map vu64), (1, [(vu64 0)]), (1, [(.bool false)]), (1, [(vi 0)])]) Try.underlying28 (TypF.cons (k := 1) rfl rfl (by decide) rfl (Typ.int Try.underlying3 ce3 (by decide)) (TypF.cons (k := 1) rfl rfl (by decide) rfl (Typ.int Try.underlying22 ce22 (wfu64 0)) (TypF.cons (k := 9) rfl rfl (by decide) ((SsOk.cons (SOk.u64 (List.length_replicate ..)) (SsOk.cons (SOk.v rfl) SsOk.nil))).len (Typ.struct (h := 2) (r := [(8, (List.replicate 8 (0 : UInt64)).map vu64), (1, [(vu64 0)])]) (cs := flat [(8, (List.replicate 8 (0 : UInt64)).map vu64), (1, [(vu64 0)])]) Try.underlying25 (TypF.cons (k := 8) rfl rfl (by decide) (len_map (List.length_replicate ..)) (Typ.u64s Try.underlying23 ce23 Try.underlying22 ce22 (List.length_replicate ..)) (TypF.cons (k := 1) rfl rfl (by decide) rfl (Typ.int Try.underlying22 ce22 (wfu64 0)) TypF.nil)) rfl (((SsOk.cons (SOk.u64 (List.length_replicate ..)) (SsOk.cons (SOk.v rfl) SsOk.nil))).len.trans ce25.symm)) (TypF.cons (k := 1) rfl rfl (by decide) rfl (Typ.bool Try.underlying4 ce4) (TypF.cons (k := 1) rfl rfl (by decide) rfl (Typ.int Try.underlying26 ce26 (by decide)) TypF.nil))))) (by simp [flat]) (((SsOk.cons (SOk.v rfl) (SsOk.cons (SOk.v rfl) (SsOk.cons (SOk.u64 (List.length_replicate ..)) (SsOk.cons (SOk.v rfl) (SsOk.cons (SOk.v rfl) (SsOk.cons (SOk.v rfl) SsOk.nil))))))).len.trans ce28.symm)) (eqT rfl)) ?_
  refine WL.q (Wn.no rfl) rfl rfl (R.pickT (v := (.bool true)) rfl rfl) ?_
  refine WL.q (Wn.no rfl) rfl rfl (R.move (v := (.bool true)) rfl) ?_
  refine WL.want rfl rfl ?_
  refine WL.call (al := []) Try.call15 rfl rfl (c_known14  _) rfl ?_
  rintro _ w_20 ⟨rfl, hc_19⟩
  have h_21 := h_17.same hc_19
  refine WL.q (Wn.no rfl) rfl rfl (R.pickT (v := (.bool true)) rfl rfl) ?_
  refine WL.q (Wn.no rfl) rfl rfl (R.assign (v := (.bool true)) rfl) ?_
  refine WL.nil ?_
  refine thn_n ?_
  refine WP.ret ?_
  refine thn_r ?_
  refine ret_of Try.results4 (RV.tmp (v := (.bool true)) rfl RV.nil) ?_
  exact ⟨rfl, h_21.chgS⟩

theorem w_RecLeaves_b (rd : Int) (ins : UInt64) (regs : List UInt64) (hr : regs.length = 8) (pc : UInt64) (run : Bool) (wt : Int) (cr : List UInt64) (hcr : cr.length = 8) (cpc : UInt64) (rs : Int) (ors : List UInt64) (hor : ors.length = 4) (adr : UInt64) (wr : Bool) (ran : Int) (b_rd : -9223372036854775808 ≤ rd ∧ rd < 9223372036854775808) (b_wt : -9223372036854775808 ≤ wt ∧ wt < 9223372036854775808) (hx : 5 < rs) (w : World) :
    Cs Try.prog 4 [(.agg ⟨flat [(1, [(vi rd)]), (1, [(vu64 ins)]), (8, regs.map vu64), (1, [(vu64 pc)]), (1, [(.bool run)]), (1, [(vi wt)])]⟩), (.agg ⟨flat [(8, cr.map vu64), (1, [(vu64 cpc)])]⟩), (.agg ⟨flat [(1, [(vi rs)]), (4, ors.map vu64), (1, [(vu64 adr)]), (1, [(.bool wr)]), (1, [(vi ran)])]⟩)].toArray w (fun v w1 => v = .bool true ∧ Chg w w1 []) := by
  refine Cs.of (n := 58) (args := [(.agg ⟨flat [(1, [(vi rd)]), (1, [(vu64 ins)]), (8, regs.map vu64), (1, [(vu64 pc)]), (1, [(.bool run)]), (1, [(vi wt)])]⟩), (.agg ⟨flat [(8, cr.map vu64), (1, [(vu64 cpc)])]⟩), (.agg ⟨flat [(1, [(vi rs)]), (4, ors.map vu64), (1, [(vu64 adr)]), (1, [(.bool wr)]), (1, [(vi ran)])]⟩)]) Try.func4 rfl rfl rfl ?_
  have h_0 := HP.init w
  refine WP.seq ?_
  refine WP.reg ?_
  refine WL.box (v := (.agg ⟨flat [(1, [(vi rd)]), (1, [(vu64 ins)]), (8, regs.map vu64), (1, [(vu64 pc)]), (1, [(.bool run)]), (1, [(vi wt)])]⟩)) (segs := [(1, [(vi rd)]), (1, [(vu64 ins)]), (8, regs.map vu64), (1, [(vu64 pc)]), (1, [(.bool run)]), (1, [(vi wt)])]) h_0 rfl rfl (SsOk.cons (SOk.v rfl) (SsOk.cons (SOk.v rfl) (SsOk.cons (SOk.u64 hr) (SsOk.cons (SOk.v rfl) (SsOk.cons (SOk.v rfl) (SsOk.cons (SOk.v rfl) SsOk.nil)))))) rfl (fun b_1 w_2 h_3 => ?_)
  refine WL.box (v := (.agg ⟨flat [(8, cr.map vu64), (1, [(vu64 cpc)])]⟩)) (segs := [(8, cr.map vu64), (1, [(vu64 cpc)])]) h_3 rfl rfl (SsOk.cons (SOk.u64 hcr) (SsOk.cons (SOk.v rfl) SsOk.nil)) rfl (fun b_4 w_5 h_6 => ?_)
  refine WL.box (v := (.agg ⟨flat [(1, [(vi rs)]), (4, ors.map vu64), (1, [(vu64 adr)]), (1, [(.bool wr)]), (1, [(vi ran)])]⟩)) (segs := [(1, [(vi rs)]), (4, ors.map vu64), (1, [(vu64 adr)]), (1, [(.bool wr)]), (1, [(vi ran)])]) h_6 rfl rfl (SsOk.cons (SOk.v rfl) (SsOk.cons (SOk.u64 hor) (SsOk.cons (SOk.v rfl) (SsOk.cons (SOk.v rfl) (SsOk.cons (SOk.v rfl) SsOk.nil))))) rfl (fun b_7 w_8 h_9 => ?_)
  refine WL.q (Wn.no rfl) rfl rfl (R.assign (v := (.bool false)) rfl) ?_
  refine WL.nil ?_
  refine thn_n ?_
  refine WP.seq ?_
  refine WP.reg ?_
  refine WL.q (Wn.no rfl) rfl rfl (R.loadA (b := b_1) (off := 0) [] [(1, [(vi rd)]), (1, [(vu64 ins)]), (8, regs.map vu64), (1, [(vu64 pc)]), (1, [(.bool run)]), (1, [(vi wt)])] [] (cs := flat [(1, [(vi rd)]), (1, [(vu64 ins)]), (8, regs.map vu64), (1, [(vu64 pc)]), (1, [(.bool run)]), (1, [(vi wt)])]) rfl Try.isAgg28 Try.sizeOf28 (h_9.ok _ (.tail _ (.tail _ (.head _)))) rfl rfl rfl rfl) ?_
  refine WL.q (Wn.no rfl) rfl rfl (R.loadA (b := b_4) (off := 0) [] [(8, cr.map vu64), (1, [(vu64 cpc)])] [] (cs := flat [(8, cr.map vu64), (1, [(vu64 cpc)])]) rfl Try.isAgg25 Try.sizeOf25 (h_9.ok _ (.tail _ (.head _))) rfl rfl rfl rfl) ?_
  refine WL.q (Wn.no rfl) rfl rfl (R.loadA (b := b_7) (off := 0) [] [(1, [(vi rs)]), (4, ors.map vu64), (1, [(vu64 adr)]), (1, [(.bool wr)]), (1, [(vi ran)])] [] (cs := flat [(1, [(vi rs)]), (4, ors.map vu64), (1, [(vu64 adr)]), (1, [(.bool wr)]), (1, [(vi ran)])]) rfl Try.isAgg40 Try.sizeOf40 (h_9.ok _ (.head _)) rfl rfl rfl rfl) ?_
  refine WL.call (al := [(.agg ⟨flat [(1, [(vi rd)]), (1, [(vu64 ins)]), (8, regs.map vu64), (1, [(vu64 pc)]), (1, [(.bool run)]), (1, [(vi wt)])]⟩), (.agg ⟨flat [(8, cr.map vu64), (1, [(vu64 cpc)])]⟩), (.agg ⟨flat [(1, [(vi rs)]), (4, ors.map vu64), (1, [(vu64 adr)]), (1, [(.bool wr)]), (1, [(vi ran)])]⟩)]) Try.call16 rfl rfl (c_Leave_n1 rd ins regs hr pc run wt cr hcr cpc rs ors hor adr wr ran (.inr hx) _) rfl ?_
  rintro _ w_11 ⟨rfl, hc_10⟩
  have h_12 := h_9.same hc_10
  refine WL.q (Wn.no rfl) rfl rfl (R.move (v := (.tuple [(.agg ⟨flat [(1, [(vi 0)]), (1, [(vu64 0)]), (8, (List.replicate 8 (0 : UInt64)).map vu64), (1, [(vu64 0)]), (1, [(.bool false)]), (1, [(vi 0)])]⟩), (vi 2)].toArray)) rfl) ?_
  refine WL.q (Wn.no rfl) rfl rfl (R.extract (l := [(.agg ⟨flat [(1, [(vi 0)]), (1, [(vu64 0)]), (8, (List.replicate 8 (0 : UInt64)).map vu64), (1, [(vu64 0)]), (1, [(.bool false)]), (1, [(vi 0)])]⟩), (vi 2)]) (v := (.agg ⟨flat [(1, [(vi 0)]), (1, [(vu64 0)]), (8, (List.replicate 8 (0 : UInt64)).map vu64), (1, [(vu64 0)]), (1, [(.bool false)]), (1, [(vi 0)])]⟩)) rfl rfl) ?_
  refine WL.q (Wn.no rfl) rfl rfl (R.extract (l := [(.agg ⟨flat [(1, [(vi 0)]), (1, [(vu64 0)]), (8, (List.replicate 8 (0 : UInt64)).map vu64), (1, [(vu64 0)]), (1, [(.bool false)]), (1, [(vi 0)])]⟩), (vi 2)]) (v := (vi 2)) rfl rfl) ?_
  refine WL.alloc (segs := [(1, [(vi 0)]), (1, [(vu64 0)]), (8, (List.replicate 8 (0 : UInt64)).map vu64), (1, [(vu64 0)]), (1, [(.bool false)]), (1, [(vi 0)])]) h_12 (zv Try.typeInfo28 rfl) rfl (SsOk.cons (SOk.v rfl) (SsOk.cons (SOk.v rfl) (SsOk.cons (SOk.u64 (List.length_replicate ..)) (SsOk.cons (SOk.v rfl) (SsOk.cons (SOk.v rfl) (SsOk.cons (SOk.v rfl) SsOk.nil)))))) rfl (fun b_13 w_14 h_15 => ?_)
  refine WL.storeA (b := b_13) (off := 0) [] [(1, [(vi 0)]), (1, [(vu64 0)]), (8, (List.replicate 8 (0 : UInt64)).map vu64), (1, [(vu64 0)]), (1, [(.bool false)]), (1, [(vi 0)])] [(1, [(vi 0)]), (1, [(vu64 0)]), (8, (List.replicate 8 (0 : UInt64)).map vu64), (1, [(vu64 0)]), (1, [(.bool false)]), (1, [(vi 0)])] [] (ys := flat [(1, [(vi 0)]), (1, [(vu64 0)]), (8, (List.replicate 8 (0 : UInt64)).map vu64), (1, [(vu64 0)]), (1, [(.bool false)]), (1, [(vi 0)])]) h_15 rfl rfl Try.sizeOf28 At.h (by decide) rfl rfl rfl rfl rfl rfl (SsOk.cons (SOk.v rfl) (SsOk.cons (SOk.v rfl) (SsOk.cons (SOk.u64 (List.length_replicate ..)) (SsOk.cons (SOk.v rfl) (SsOk.cons (SOk.v rfl) (SsOk.cons (SOk.v rfl) SsOk.nil)))))) (fun w_16 h_17 => ?_)
  refine WL.q (Wn.no rfl) rfl rfl (R.assign (v := (vi 2)) rfl) ?_
  refine WL.nil ?_
  refine thn_n ?_
  refine WP.seq ?_
  refine WP.seq ?_
  refine WP.reg ?_
  refine WL.q (Wn.no rfl) rfl rfl (R.fieldAddr (b := b_7) (off := 0) (off' := 0) rfl Try.underlying40 rfl Try.sizeOf38 rfl rfl) ?_
  refine WL.q (Wn.no rfl) rfl rfl (R.load1 (b := b_7) (off := 0) (v := (vi rs)) rfl Try.isAgg38 (h_17.ok _ (.tail _ (.head _))) Sg.h) ?_
  refine WL.q (Wn.no rfl) rfl rfl (R.bin (v := (.bool (decide ((rs : Int) < 1)))) rfl rfl (bi_lss (r := decide ((rs : Int) < 1)) rfl)) ?_
  refine WL.q (Wn.no rfl) rfl rfl (R.move (v := (.bool (decide ((rs : Int) < 1)))) rfl) ?_
  refine WL.want rfl (congrArg Value.bool (decide_eq_false (by omega))) ?_
  refine WL.q (Wn.no rfl) rfl rfl (R.fieldAddr (b := b_7) (off := 0) (off' := 0) rfl Try.underlying40 rfl Try.sizeOf38 rfl rfl) ?_
  refine WL.want rfl (congrArg Value.bool (decide_eq_false (by omega))) ?_
  refine WL.q (Wn.no rfl) rfl rfl (R.load1 (b := b_7) (off := 0) (v := (vi rs)) rfl Try.isAgg38 (h_17.ok _ (.tail _ (.head _))) Sg.h) ?_
  refine WL.want rfl (congrArg Value.bool (decide_eq_false (by omega))) ?_
  refine WL.q (Wn.no rfl) rfl rfl (R.bin (v := (.bool (decide ((rs : Int) > 5)))) rfl rfl (bi_gtr (r := decide ((rs : Int) > 5)) rfl)) ?_
  refine WL.q (Wn.no rfl) rfl rfl (R.pickF (v := (.bool (decide ((rs : Int) > 5)))) (congrArg Value.bool (decide_eq_false (by omega))) rfl) ?_
  refine WL.q (Wn.no rfl) rfl rfl (R.move (v := (.bool (decide ((rs : Int) > 5)))) rfl) ?_
  refine WL.skip rfl (congrArg Value.bool (decide_eq_true (by omega))) rfl ?_
  refine WL.skip rfl (congrArg Value.bool (decide_eq_true (by omega))) rfl ?_
  refine WL.skip rfl (congrArg Value.bool (decide_eq_true (by omega))) rfl ?_
  refine WL.q (Wn.no rfl) rfl rfl (R.pickT (v := (.bool true)) (congrArg Value.bool (decide_eq_true (by omega))) rfl) ?_
  refine WL.nil ?_
  refine thn_n ?_
  refine WP.condT rfl ?_
  refine WP.seq ?_
  refine WP.reg ?_
  refine WL.q (Wn.no rfl) rfl rfl (R.move (v := (vi 2)) rfl) ?_
  refine WL.q (Wn.no rfl) rfl rfl (R.bin (v := (.bool true)) rfl rfl (bi_eql (r := true) (by decide))) ?_
  refine WL.q (Wn.no rfl) rfl rfl (R.move (v := (.bool true)) rfl) ?_
  refine WL.want rfl rfl ?_
  refine WL.q (Wn.no rfl) rfl rfl (R.loadA (b := b_13) (off := 0) [] [(1, [(vi 0)]), (1, [(vu64 0)]), (8, (List.replicate 8 (0 : UInt64)).map vu64), (1, [(vu64 0)]), (1, [(.bool false)]), (1, [(vi 0)])] [] (cs := flat [(1, [(vi 0)]), (1, [(vu64 0)]), (8, (List.replicate 8 (0 : UInt64)).map vu64), (1, [(vu64 0)]), (1, [(.bool false)]), (1, [(vi 0)])]) rfl Try.isAgg28 Try.sizeOf28 (h_17.ok _ (.head _)) rfl rfl rfl rfl) ?_
  refine WL.want rfl rfl ?_
  refine WL.q (Wn.no rfl) rfl rfl (R.buildS (pl := [(0, 1), (1, 1), (2, 9), (11, 1), (12, 1)]) (zs := [(1, [(vi 0)]), (1, [(vu64 0)]), (8, (List.replicate 8 (0 : UInt64)).map vu64), (1, [(vu64 0)]), (1, [(.bool false)]), (1, [(vi 0)])]) (vs := []) (out := [(1, [(vi 0)]), (1, [(vu64 0)]), (8, (List.replicate 8 (0 : UInt64)).map vu64), (1, [(vu64 0)]), (1, [(.bool false)]), (1, [(vi 0)])]) (cs := flat [(1, [(vi 0)]), (1, [(vu64 0)]), (8, (List.replicate 8 (0 : UInt64)).map vu64), (1, [(vu64 0)]), (1, [(.bool false)]), (1, [(vi 0)])]) Try.underlying28 (zv Try.typeInfo28 rfl) rfl (SsOk.cons (SOk.v rfl) (SsOk.cons (SOk.v rfl) (SsOk.cons (SOk.u64 (List.length_replicate ..)) (SsOk.cons (SOk.v rfl) (SsOk.cons (SOk.v rfl) (SsOk.cons (SOk.v rfl) SsOk.nil)))))) (pl28 _ Try.underlying28) rfl FillR.nil rfl) ?_
  refine WL.want rfl rfl ?_
  refine WL.q (Wn.no rfl) rfl rfl (R.eqA (xs := flat [(1, [(vi 0)]), (1, [(vu64 0)]), (8, (List.replicate 8 (0 : UInt64)).map vu64), (1, [(vu64 0)]), (1, [(.bool false)]), (1, [(vi 0)])]) (ys := flat [(1, [(vi 0)]), (1, [(vu64 0)]), (8, (List.replicate 8 (0 : UInt64)).map vu64), (1, [(vu64 0)]), (1, [(.bool false)]), (1, [(vi 0)])]) (r := true) rfl rfl Try.eqGuardType28 kt28 (by decide) ag28 (Typ.struct (h := 3) (r := [(1, [(vi 0)]), (1, [(vu64 0)]), (9, flat [(8, (List.replicate 8 (0 : UInt64)).map vu64), (1, [(vu64 0)])]), (1, [(.bool false)]), (1, [(vi 0)])]) (cs := flat [(1, [(vi 0)]), (1, [(vu64 0)]), (8, (List.replicate 8 (0 : UInt64)).map vu64), (1, [(vu64 0)]), (1, [(.bool false)]), (1, [(vi 0)])]) Try.underlying28 (TypF.cons (k := 1) rfl rfl (by decide) rfl (Typ.int Try.underlying3 ce3 (by decide)) (TypF.cons (k := 1) rfl rfl (by decide) rfl (Typ.int Try.underlying22 ce22 (wfu64 0)) (TypF.cons (k := 9) rfl rfl (by decide) ((SsOk.cons (SOk.u64 (List.length_replicate ..)) (SsOk.cons (SOk.v rfl) SsOk.nil))).len (Typ.struct (h := 2) (r := [(8, (List.replicate 8 (0 : UInt64)).map vu64), (1, [(vu64 0)])]) (cs := flat [(8, (List.replicate 8 (0 : UInt64)).map vu64), (1, [(vu64 0)])]) Try.underlying25 (TypF.cons (k := 8) rfl rfl (by decide) (len_map (List.length_replicate ..)) (Typ.u64s Try.underlying23 ce23 Try.underlying22 ce22 (List.length_replicate ..)) (TypF.cons (k := 1) rfl rfl (by decide) rfl (Typ.int Try.underlying22 ce22 (wfu64 0)) TypF.nil)) rfl (((SsOk.cons (SOk.u64 (List.length_replicate ..)) (SsOk.cons (SOk.v rfl) SsOk.nil))).len.trans ce25.symm)) (TypF.cons (k := 1) rfl rfl (by decide) rfl (Typ.bool Try.underlying4 ce4) (TypF.cons (k := 1) rfl rfl (by decide) rfl (Typ.int Try.underlying26 ce26 (by decide)) TypF.nil))))) (by simp [flat]) (((SsOk.cons (SOk.v rfl) (SsOk.cons (SOk.v rfl) (SsOk.cons (SOk.u64 (List.length_replicate ..)) (SsOk.cons (SOk.v rfl) (SsOk.cons (SOk.v rfl) (SsOk.cons (SOk.v rfl) SsOk.nil))))))).len.trans ce28.symm)) (Typ.struct (h := 3) (r := [(1, [(vi 0)]), (1, [(vu64 0)]), (9, flat [(8, (List.replicate 8 (0 : UInt64)).map vu64), (1, [(vu64 0)])]), (1, [(.bool false)]), (1, [(vi 0)])]) (cs := flat [(1, [(vi 0)]), (1, [(vu64 0)]), (8, (List.replicate 8 (0 : UInt64)).map vu64), (1, [(vu64 0)]), (1, [(.bool false)]), (1, [(vi 0)])]) Try.underlying28 (TypF.cons (k := 1) rfl rfl (by decide) rfl (Typ.int Try.underlying3 ce3 (by decide)) (TypF.cons (k := 1) rfl rfl (by decide) rfl (Typ.int Try.underlying22 ce22 (wfu64 0)) (TypF.cons (k := 9) rfl rfl (by decide) ((SsOk.cons (SOk.u64 (List.length_replicate ..)) (SsOk.cons (SOk.v rfl) SsOk.nil))).len (Typ.struct (h := 2) (r := [(8, (List.replicate 8 (0 : UInt64)).map vu64), (1, [(vu64 0)])]) (cs := flat [(8, (List.replicate 8 (0 : UInt64)).map vu64), (1, [(vu64 0)])]) Try.underlying25 (TypF.cons (k := 8) rfl rfl (by decide) (len_map (List.length_replicate ..)) (Typ.u64s Try.underlying23 ce23 Try.underlying22 ce22 (List.length_replicate ..)) (TypF.cons (k := 1) rfl rfl (by decide) rfl (Typ.int Try.underlying22 ce22 (wfu64 0)) TypF.nil)) rfl (((SsOk.cons (SOk.u64 (List.length_replicate ..)) (SsOk.cons (SOk.v rfl) SsOk.nil))).len.trans ce25.symm)) (TypF.cons (k := 1) rfl rfl (by decide) rfl (Typ.bool Try.underlying4 ce4) (TypF.cons (k := 1) rfl rfl (by decide) rfl (Typ.int Try.underlying26 ce26 (by decide)) TypF.nil))))) (by simp [flat]) (((SsOk.cons (SOk.v rfl) (SsOk.cons (SOk.v rfl) (SsOk.cons (SOk.u64 (List.length_replicate ..)) (SsOk.cons (SOk.v rfl) (SsOk.cons (SOk.v rfl) (SsOk.cons (SOk.v rfl) SsOk.nil))))))).len.trans ce28.symm)) (eqT rfl)) ?_
  refine WL.q (Wn.no rfl) rfl rfl (R.pickT (v := (.bool true)) rfl rfl) ?_
  refine WL.q (Wn.no rfl) rfl rfl (R.move (v := (.bool true)) rfl) ?_
  refine WL.want rfl rfl ?_
  refine WL.call (al := []) Try.call15 rfl rfl (c_known14  _) rfl ?_
  rintro _ w_20 ⟨rfl, hc_19⟩
  have h_21 := h_17.same hc_19
  refine WL.q (Wn.no rfl) rfl rfl (R.pickT (v := (.bool true)) rfl rfl) ?_
  refine WL.q (Wn.no rfl) rfl rfl (R.assign (v := (.bool true)) rfl) ?_
  refine WL.nil ?_
  refine thn_n ?_
  refine WP.ret ?_
  refine thn_r ?_
  refine ret_of Try.results4 (RV.tmp (v := (.bool true)) rfl RV.nil) ?_
  exact ⟨rfl, h_21.chgS⟩

theorem w_RecLeaves_c (rd : Int) (ins : UInt64) (regs : List UInt64) (hr : regs.length = 8) (pc : UInt64) (run : Bool) (wt : Int) (cr : List UInt64) (hcr : cr.length = 8) (cpc : UInt64) (rs : Int) (ors : List UInt64) (hor : ors.length = 4) (adr : UInt64) (wr : Bool) (ran : Int) (b_rd : -9223372036854775808 ≤ rd ∧ rd < 9223372036854775808) (b_wt : -9223372036854775808 ≤ wt ∧ wt < 9223372036854775808) (h1 : 1 ≤ rs) (h5 : rs ≤ 5) (h0 : ran < 0) (w : World) :
    Cs Try.prog 4 [(.agg ⟨flat [(1, [(vi rd)]), (1, [(vu64 ins)]), (8, regs.map vu64), (1, [(vu64 pc)]), (1, [(.bool run)]), (1, [(vi wt)])]⟩), (.agg ⟨flat [(8, cr.map vu64), (1, [(vu64 cpc)])]⟩), (.agg ⟨flat [(1, [(vi rs)]), (4, ors.map vu64), (1, [(vu64 adr)]), (1, [(.bool wr)]), (1, [(vi ran)])]⟩)].toArray w (fun v w1 => v = .bool true ∧ Chg w w1 []) := by
  refine Cs.of (n := 58) (args := [(.agg ⟨flat [(1, [(vi rd)]), (1, [(vu64 ins)]), (8, regs.map vu64), (1, [(vu64 pc)]), (1, [(.bool run)]), (1, [(vi wt)])]⟩), (.agg ⟨flat [(8, cr.map vu64), (1, [(vu64 cpc)])]⟩), (.agg ⟨flat [(1, [(vi rs)]), (4, ors.map vu64), (1, [(vu64 adr)]), (1, [(.bool wr)]), (1, [(vi ran)])]⟩)]) Try.func4 rfl rfl rfl ?_
  have h_0 := HP.init w
  refine WP.seq ?_
  refine WP.reg ?_
  refine WL.box (v := (.agg ⟨flat [(1, [(vi rd)]), (1, [(vu64 ins)]), (8, regs.map vu64), (1, [(vu64 pc)]), (1, [(.bool run)]), (1, [(vi wt)])]⟩)) (segs := [(1, [(vi rd)]), (1, [(vu64 ins)]), (8, regs.map vu64), (1, [(vu64 pc)]), (1, [(.bool run)]), (1, [(vi wt)])]) h_0 rfl rfl (SsOk.cons (SOk.v rfl) (SsOk.cons (SOk.v rfl) (SsOk.cons (SOk.u64 hr) (SsOk.cons (SOk.v rfl) (SsOk.cons (SOk.v rfl) (SsOk.cons (SOk.v rfl) SsOk.nil)))))) rfl (fun b_1 w_2 h_3 => ?_)
  refine WL.box (v := (.agg ⟨flat [(8, cr.map vu64), (1, [(vu64 cpc)])]⟩)) (segs := [(8, cr.map vu64), (1, [(vu64 cpc)])]) h_3 rfl rfl (SsOk.cons (SOk.u64 hcr) (SsOk.cons (SOk.v rfl) SsOk.nil)) rfl (fun b_4 w_5 h_6 => ?_)
  refine WL.box (v := (.agg ⟨flat [(1, [(vi rs)]), (4, ors.map vu64), (1, [(vu64 adr)]), (1, [(.bool wr)]), (1, [(vi ran)])]⟩)) (segs := [(1, [(vi rs)]), (4, ors.map vu64), (1, [(vu64 adr)]), (1, [(.bool wr)]), (1, [(vi ran)])]) h_6 rfl rfl (SsOk.cons (SOk.v rfl) (SsOk.cons (SOk.u64 hor) (SsOk.cons (SOk.v rfl) (SsOk.cons (SOk.v rfl) (SsOk.cons (SOk.v rfl) SsOk.nil))))) rfl (fun b_7 w_8 h_9 => ?_)
  refine WL.q (Wn.no rfl) rfl rfl (R.assign (v := (.bool false)) rfl) ?_
  refine WL.nil ?_
  refine thn_n ?_
  refine WP.seq ?_
  refine WP.reg ?_
  refine WL.q (Wn.no rfl) rfl rfl (R.loadA (b := b_1) (off := 0) [] [(1, [(vi rd)]), (1, [(vu64 ins)]), (8, regs.map vu64), (1, [(vu64 pc)]), (1, [(.bool run)]), (1, [(vi wt)])] [] (cs := flat [(1, [(vi rd)]), (1, [(vu64 ins)]), (8, regs.map vu64), (1, [(vu64 pc)]), (1, [(.bool run)]), (1, [(vi wt)])]) rfl Try.isAgg28 Try.sizeOf28 (h_9.ok _ (.tail _ (.tail _ (.head _)))) rfl rfl rfl rfl) ?_
  refine WL.q (Wn.no rfl) rfl rfl (R.loadA (b := b_4) (off := 0) [] [(8, cr.map vu64), (1, [(vu64 cpc)])] [] (cs := flat [(8, cr.map vu64), (1, [(vu64 cpc)])]) rfl Try.isAgg25 Try.sizeOf25 (h_9.ok _ (.tail _ (.head _))) rfl rfl rfl rfl) ?_
  refine WL.q (Wn.no rfl) rfl rfl (R.loadA (b := b_7) (off := 0) [] [(1, [(vi rs)]), (4, ors.map vu64), (1, [(vu64 adr)]), (1, [(.bool wr)]), (1, [(vi ran)])] [] (cs := flat [(1, [(vi rs)]), (4, ors.map vu64), (1, [(vu64 adr)]), (1, [(.bool wr)]), (1, [(vi ran)])]) rfl Try.isAgg40 Try.sizeOf40 (h_9.ok _ (.head _)) rfl rfl rfl rfl) ?_
  refine WL.call (al := [(.agg ⟨flat [(1, [(vi rd)]), (1, [(vu64 ins)]), (8, regs.map vu64), (1, [(vu64 pc)]), (1, [(.bool run)]), (1, [(vi wt)])]⟩), (.agg ⟨flat [(8, cr.map vu64), (1, [(vu64 cpc)])]⟩), (.agg ⟨flat [(1, [(vi rs)]), (4, ors.map vu64), (1, [(vu64 adr)]), (1, [(.bool wr)]), (1, [(vi ran)])]⟩)]) Try.call16 rfl rfl (c_Leave_n2 rd ins regs hr pc run wt cr hcr cpc rs ors hor adr wr ran h1 h5 h0 _) rfl ?_
  rintro _ w_11 ⟨rfl, hc_10⟩
  have h_12 := h_9.same hc_10
  refine WL.q (Wn.no rfl) rfl rfl (R.move (v := (.tuple [(.agg ⟨flat [(1, [(vi 0)]), (1, [(vu64 0)]), (8, (List.replicate 8 (0 : UInt64)).map vu64), (1, [(vu64 0)]), (1, [(.bool false)]), (1, [(vi 0)])]⟩), (vi 2)].toArray)) rfl) ?_
  refine WL.q (Wn.no rfl) rfl rfl (R.extract (l := [(.agg ⟨flat [(1, [(vi 0)]), (1, [(vu64 0)]), (8, (List.replicate 8 (0 : UInt64)).map vu64), (1, [(vu64 0)]), (1, [(.bool false)]), (1, [(vi 0)])]⟩), (vi 2)]) (v := (.agg ⟨flat [(1, [(vi 0)]), (1, [(vu64 0)]), (8, (List.replicate 8 (0 : UInt64)).map vu64), (1, [(vu64 0)]), (1, [(.bool false)]), (1, [(vi 0)])]⟩)) rfl rfl) ?_
  refine WL.q (Wn.no rfl) rfl rfl (R.extract (l := [(.agg ⟨flat [(1, [(vi 0)]), (1, [(vu64 0)]), (8, (List.replicate 8 (0 : UInt64)).map vu64), (1, [(vu64 0)]), (1, [(.bool false)]), (1, [(vi 0)])]⟩), (vi 2)]) (v := (vi 2)) rfl rfl) ?_
  refine WL.alloc (segs := [(1, [(vi 0)]), (1, [(vu64 0)]), (8, (List.replicate 8 (0 : UInt64)).map vu64), (1, [(vu64 0)]), (1, [(.bool false)]), (1, [(vi 0)])]) h_12 (zv Try.typeInfo28 rfl) rfl (SsOk.cons (SOk.v rfl) (SsOk.cons (SOk.v rfl) (SsOk.cons (SOk.u64 (List.length_replicate ..)) (SsOk.cons (SOk.v rfl) (SsOk.cons (SOk.v rfl) (SsOk.cons (SOk.v rfl) SsOk.nil)))))) rfl (fun b_13 w_14 h_15 => ?_)
  refine WL.storeA (b := b_13) (off := 0) [] [(1, [(vi 0)]), (1, [(vu64 0)]), (8, (List.replicate 8 (0 : UInt64)).map vu64), (1, [(vu64 0)]), (1, [(.bool false)]), (1, [(vi 0)])] [(1, [(vi 0)]), (1, [(vu64 0)]), (8, (List.replicate 8 (0 : UInt64)).map vu64), (1, [(vu64 0)]), (1, [(.bool false)]), (1, [(vi 0)])] [] (ys := flat [(1, [(vi 0)]), (1, [(vu64 0)]), (8, (List.replicate 8 (0 : UInt64)).map vu64), (1, [(vu64 0)]), (1, [(.bool false)]), (1, [(vi 0)])]) h_15 rfl rfl Try.sizeOf28 At.h (by decide) rfl rfl rfl rfl rfl rfl (SsOk.cons (SOk.v rfl) (SsOk.cons (SOk.v rfl) (SsOk.cons (SOk.u64 (List.length_replicate ..)) (SsOk.cons (SOk.v rfl) (SsOk.cons (SOk.v rfl) (SsOk.cons (SOk.v rfl) SsOk.nil)))))) (fun w_16 h_17 => ?_)
  refine WL.q (Wn.no rfl) rfl rfl (R.assign (v := (vi 2)) rfl) ?_
  refine WL.nil ?_
  refine thn_n ?_
  refine WP.seq ?_
  refine WP.seq ?_
  refine WP.reg ?_
  refine WL.q (Wn.no rfl) rfl rfl (R.fieldAddr (b := b_7) (off := 0) (off' := 0) rfl Try.underlying40 rfl Try.sizeOf38 rfl rfl) ?_
  refine WL.q (Wn.no rfl) rfl rfl (R.load1 (b := b_7) (off := 0) (v := (vi rs)) rfl Try.isAgg38 (h_17.ok _ (.tail _ (.head _))) Sg.h) ?_
  refine WL.q (Wn.no rfl) rfl rfl (R.bin (v := (.bool (decide ((rs : Int) < 1)))) rfl rfl (bi_lss (r := decide ((rs : Int) < 1)) rfl)) ?_
  refine WL.q (Wn.no rfl) rfl rfl (R.move (v := (.bool (decide ((rs : Int) < 1)))) rfl) ?_
  refine WL.want rfl (congrArg Value.bool (decide_eq_false (by omega))) ?_
  refine WL.q (Wn.no rfl) rfl rfl (R.fieldAddr (b := b_7) (off := 0) (off' := 0) rfl Try.underlying40 rfl Try.sizeOf38 rfl rfl) ?_
  refine WL.want rfl (congrArg Value.bool (decide_eq_false (by omega))) ?_
  refine WL.q (Wn.no rfl) rfl rfl (R.load1 (b := b_7) (off := 0) (v := (vi rs)) rfl Try.isAgg38 (h_17.ok _ (.tail _ (.head _))) Sg.h) ?_
  refine WL.want rfl (congrArg Value.bool (decide_eq_false (by omega))) ?_
  refine WL.q (Wn.no rfl) rfl rfl (R.bin (v := (.bool (decide ((rs : Int) > 5)))) rfl rfl (bi_gtr (r := decide ((rs : Int) > 5)) rfl)) ?_
  refine WL.q (Wn.no rfl) rfl rfl (R.pickF (v := (.bool (decide ((rs : Int) > 5)))) (congrArg Value.bool (decide_eq_false (by omega))) rfl) ?_
  refine WL.q (Wn.no rfl) rfl rfl (R.move (v := (.bool (decide ((rs : Int) > 5)))) rfl) ?_
  refine WL.want rfl (congrArg Value.bool (decide_eq_false (by omega))) ?_
  refine WL.q (Wn.no rfl) rfl rfl (R.fieldAddr (b := b_7) (off := 0) (off' := 7) rfl Try.underlying40 rfl Try.sizeOf3 rfl rfl) ?_
  refine WL.want rfl (congrArg Value.bool (decide_eq_false (by omega))) ?_
  refine WL.q (Wn.no rfl) rfl rfl (R.load1 (b := b_7) (off := 7) (v := (vi ran)) rfl Try.isAgg3 (h_17.ok _ (.tail _ (.head _))) (Sg.t rfl (Sg.t rfl (Sg.t rfl (Sg.t rfl Sg.h))))) ?_
  refine WL.want rfl (congrArg Value.bool (decide_eq_false (by omega))) ?_
  refine WL.q (Wn.no rfl) rfl rfl (R.bin (v := (.bool (decide ((ran : Int) < 0)))) rfl rfl (bi_lss (r := decide ((ran : Int) < 0)) rfl)) ?_
  refine WL.q (Wn.no rfl) rfl rfl (R.pickF (v := (.bool (decide ((ran : Int) < 0)))) (congrArg Value.bool (decide_eq_false (by omega))) rfl) ?_
  refine WL.nil ?_
  refine thn_n ?_
  refine WP.condT (congrArg Value.bool (decide_eq_true (by omega))) ?_
  refine WP.seq ?_
  refine WP.reg ?_
  refine WL.q (Wn.no rfl) rfl rfl (R.move (v := (vi 2)) rfl) ?_
  refine WL.q (Wn.no rfl) rfl rfl (R.bin (v := (.bool true)) rfl rfl (bi_eql (r := true) (by decide))) ?_
  refine WL.q (Wn.no rfl) rfl rfl (R.move (v := (.bool true)) rfl) ?_
  refine WL.want rfl rfl ?_
  refine WL.q (Wn.no rfl) rfl rfl (R.loadA (b := b_13) (off := 0) [] [(1, [(vi 0)]), (1, [(vu64 0)]), (8, (List.replicate 8 (0 : UInt64)).map vu64), (1, [(vu64 0)]), (1, [(.bool false)]), (1, [(vi 0)])] [] (cs := flat [(1, [(vi 0)]), (1, [(vu64 0)]), (8, (List.replicate 8 (0 : UInt64)).map vu64), (1, [(vu64 0)]), (1, [(.bool false)]), (1, [(vi 0)])]) rfl Try.isAgg28 Try.sizeOf28 (h_17.ok _ (.head _)) rfl rfl rfl rfl) ?_
  refine WL.want rfl rfl ?_
  refine WL.q (Wn.no rfl) rfl rfl (R.buildS (pl := [(0, 1), (1, 1), (2, 9), (11, 1), (12, 1)]) (zs := [(1, [(vi 0)]), (1, [(vu64 0)]), (8, (List.replicate 8 (0 : UInt64)).map vu64), (1, [(vu64 0)]), (1, [(.bool false)]), (1, [(vi 0)])]) (vs := []) (out := [(1, [(vi 0)]), (1, [(vu64 0)]), (8, (List.replicate 8 (0 : UInt64)).map vu64), (1, [(vu64 0)]), (1, [(.bool false)]), (1, [(vi 0)])]) (cs := flat [(1, [(vi 0)]), (1, [(vu64 0)]), (8, (List.replicate 8 (0 : UInt64)).map vu64), (1, [(vu64 0)]), (1, [(.bool false)]), (1, [(vi 0)])]) Try.underlying28 (zv Try.typeInfo28 rfl) rfl (SsOk.cons (SOk.v rfl) (SsOk.cons (SOk.v rfl) (SsOk.cons (SOk.u64 (List.length_replicate ..)) (SsOk.cons (SOk.v rfl) (SsOk.cons (SOk.v rfl) (SsOk.cons (SOk.v rfl) SsOk.nil)))))) (pl28 _ Try.underlying28) rfl FillR.nil rfl) ?_
  refine WL.want rfl rfl ?_
  refine WL.q (Wn.no rfl) rfl rfl (R.eqA (xs := flat [(1, [(vi 0)]), (1, [(vu64 0)]), (8, (List.replicate 8 (0 : UInt64)).map vu64), (1, [(vu64 0)]), (1, [(.bool false)]), (1, [(vi 0)])]) (ys := flat [(1, [(vi 0)]), (1, [(vu64 0)]), (8, (List.replicate 8 (0 : UInt64)).map vu64), (1, [(vu64 0)]), (1, [(.bool false)]), (1, [(vi 0)])]) (r := true) rfl rfl Try.eqGuardType28 kt28 (by decide) ag28 (Typ.struct (h := 3) (r := [(1, [(vi 0)]), (1, [(vu64 0)]), (9, flat [(8, (List.replicate 8 (0 : UInt64)).map vu64), (1, [(vu64 0)])]), (1, [(.bool false)]), (1, [(vi 0)])]) (cs := flat [(1, [(vi 0)]), (1, [(vu64 0)]), (8, (List.replicate 8 (0 : UInt64)).map vu64), (1, [(vu64 0)]), (1, [(.bool false)]), (1, [(vi 0)])]) Try.underlying28 (TypF.cons (k := 1) rfl rfl (by decide) rfl (Typ.int Try.underlying3 ce3 (by decide)) (TypF.cons (k := 1) rfl rfl (by decide) rfl (Typ.int Try.underlying22 ce22 (wfu64 0)) (TypF.cons (k := 9) rfl rfl (by decide) ((SsOk.cons (SOk.u64 (List.length_replicate ..)) (SsOk.cons (SOk.v rfl) SsOk.nil))).len (Typ.struct (h := 2) (r := [(8, (List.replicate 8 (0 : UInt64)).map vu64), (1, [(vu64 0)])]) (cs := flat [(8, (List.replicate 8 (0 : UInt64)).map vu64), (1, [(vu64 0)])]) Try.underlying25 (TypF.cons (k := 8) rfl rfl (by decide) (len_map (List.length_replicate ..)) (Typ.u64s Try.underlying23 ce23 Try.underlying22 ce22 (List.length_replicate ..)) (TypF.cons (k := 1) rfl rfl (by decide) rfl (Typ.int Try.underlying22 ce22 (wfu64 0)) TypF.nil)) rfl (((SsOk.cons (SOk.u64 (List.length_replicate ..)) (SsOk.cons (SOk.v rfl) SsOk.nil))).len.trans ce25.symm)) (TypF.cons (k := 1) rfl rfl (by decide) rfl (Typ.bool Try.underlying4 ce4) (TypF.cons (k := 1) rfl rfl (by decide) rfl (Typ.int Try.underlying26 ce26 (by decide)) TypF.nil))))) (by simp [flat]) (((SsOk.cons (SOk.v rfl) (SsOk.cons (SOk.v rfl) (SsOk.cons (SOk.u64 (List.length_replicate ..)) (SsOk.cons (SOk.v rfl) (SsOk.cons (SOk.v rfl) (SsOk.cons (SOk.v rfl) SsOk.nil))))))).len.trans ce28.symm)) (Typ.struct (h := 3) (r := [(1, [(vi 0)]), (1, [(vu64 0)]), (9, flat [(8, (List.replicate 8 (0 : UInt64)).map vu64), (1, [(vu64 0)])]), (1, [(.bool false)]), (1, [(vi 0)])]) (cs := flat [(1, [(vi 0)]), (1, [(vu64 0)]), (8, (List.replicate 8 (0 : UInt64)).map vu64), (1, [(vu64 0)]), (1, [(.bool false)]), (1, [(vi 0)])]) Try.underlying28 (TypF.cons (k := 1) rfl rfl (by decide) rfl (Typ.int Try.underlying3 ce3 (by decide)) (TypF.cons (k := 1) rfl rfl (by decide) rfl (Typ.int Try.underlying22 ce22 (wfu64 0)) (TypF.cons (k := 9) rfl rfl (by decide) ((SsOk.cons (SOk.u64 (List.length_replicate ..)) (SsOk.cons (SOk.v rfl) SsOk.nil))).len (Typ.struct (h := 2) (r := [(8, (List.replicate 8 (0 : UInt64)).map vu64), (1, [(vu64 0)])]) (cs := flat [(8, (List.replicate 8 (0 : UInt64)).map vu64), (1, [(vu64 0)])]) Try.underlying25 (TypF.cons (k := 8) rfl rfl (by decide) (len_map (List.length_replicate ..)) (Typ.u64s Try.underlying23 ce23 Try.underlying22 ce22 (List.length_replicate ..)) (TypF.cons (k := 1) rfl rfl (by decide) rfl (Typ.int Try.underlying22 ce22 (wfu64 0)) TypF.nil)) rfl (((SsOk.cons (SOk.u64 (List.length_replicate ..)) (SsOk.cons (SOk.v rfl) SsOk.nil))).len.trans ce25.symm)) (TypF.cons (k := 1) rfl rfl (by decide) rfl (Typ.bool Try.underlying4 ce4) (TypF.cons (k := 1) rfl rfl (by decide) rfl (Typ.int Try.underlying26 ce26 (by decide)) TypF.nil))))) (by simp [flat]) (((SsOk.cons (SOk.v rfl) (SsOk.cons (SOk.v rfl) (SsOk.cons (SOk.u64 (List.length_replicate ..)) (SsOk.cons (SOk.v rfl) (SsOk.cons (SOk.v rfl) (SsOk.cons (SOk.v rfl) SsOk.nil))))))).len.trans ce28.symm)) (eqT rfl)) ?_
  refine WL.q (Wn.no rfl) rfl rfl (R.pickT (v := (.bool true)) rfl rfl) ?_
  refine WL.q (Wn.no rfl) rfl rfl (R.move (v := (.bool true)) rfl) ?_
  refine WL.want rfl rfl ?_
  refine WL.call (al := []) Try.call15 rfl rfl (c_known14  _) rfl ?_
  rintro _ w_20 ⟨rfl, hc_19⟩
  have h_21 := h_17.same hc_19
  refine WL.q (Wn.no rfl) rfl rfl (R.pickT (v := (.bool true)) rfl rfl) ?_
  refine WL.q (Wn.no rfl) rfl rfl (R.assign (v := (.bool true)) rfl) ?_
  refine WL.nil ?_
  refine thn_n ?_
  refine WP.ret ?_
  refine thn_r ?_
  refine ret_of Try.results4 (RV.tmp (v := (.bool true)) rfl RV.nil) ?_
  exact ⟨rfl, h_21.chgS⟩

theorem w_RecLeaves_1 (rd : Int) (ins : UInt64) (regs : List UInt64) (hr : regs.length = 8) (pc : UInt64) (run : Bool) (wt : Int) (cr : List UInt64) (hcr : cr.length = 8) (cpc : UInt64) (ors : List UInt64) (hor : ors.length = 4) (adr : UInt64) (wr : Bool) (ran : Int) (b_rd : -9223372036854775808 ≤ rd ∧ rd < 9223372036854775808) (b_wt : -9223372036854775808 ≤ wt ∧ wt < 9223372036854775808) (h0 : 0 ≤ ran) (w : World) :
    Cs Try.prog 4 [(.agg ⟨flat [(1, [(vi rd)]), (1, [(vu64 ins)]), (8, regs.map vu64), (1, [(vu64 pc)]), (1, [(.bool run)]), (1, [(vi wt)])]⟩), (.agg ⟨flat [(8, cr.map vu64), (1, [(vu64 cpc)])]⟩), (.agg ⟨flat [(1, [(vi 1)]), (4, ors.map vu64), (1, [(vu64 adr)]), (1, [(.bool wr)]), (1, [(vi ran)])]⟩)].toArray w (fun v w1 => v = .bool true ∧ Chg w w1 []) := by
  refine Cs.of (n := 58) (args := [(.agg ⟨flat [(1, [(vi rd)]), (1, [(vu64 ins)]), (8, regs.map vu64), (1, [(vu64 pc)]), (1, [(.bool run)]), (1, [(vi wt)])]⟩), (.agg ⟨flat [(8, cr.map vu64), (1, [(vu64 cpc)])]⟩), (.agg ⟨flat [(1, [(vi 1)]), (4, ors.map vu64), (1, [(vu64 adr)]), (1, [(.bool wr)]), (1, [(vi ran)])]⟩)]) Try.func4 rfl rfl rfl ?_
  have h_0 := HP.init w
  refine WP.seq ?_
  refine WP.reg ?_
  refine WL.box (v := (.agg ⟨flat [(1, [(vi rd)]), (1, [(vu64 ins)]), (8, regs.map vu64), (1, [(vu64 pc)]), (1, [(.bool run)]), (1, [(vi wt)])]⟩)) (segs := [(1, [(vi rd)]), (1, [(vu64 ins)]), (8, regs.map vu64), (1, [(vu64 pc)]), (1, [(.bool run)]), (1, [(vi wt)])]) h_0 rfl rfl (SsOk.cons (SOk.v rfl) (SsOk.cons (SOk.v rfl) (SsOk.cons (SOk.u64 hr) (SsOk.cons (SOk.v rfl) (SsOk.cons (SOk.v rfl) (SsOk.cons (SOk.v rfl) SsOk.nil)))))) rfl (fun b_1 w_2 h_3 => ?_)
  refine WL.box (v := (.agg ⟨flat [(8, cr.map vu64), (1, [(vu64 cpc)])]⟩)) (segs := [(8, cr.map vu64), (1, [(vu64 cpc)])]) h_3 rfl rfl (SsOk.cons (SOk.u64 hcr) (SsOk.cons (SOk.v rfl) SsOk.nil)) rfl (fun b_4 w_5 h_6 => ?_)
  refine WL.box (v := (.agg ⟨flat [(1, [(vi 1)]), (4, ors.map vu64), (1, [(vu64 adr)]), (1, [(.bool wr)]), (1, [(vi ran)])]⟩)) (segs := [(1, [(vi 1)]), (4, ors.map vu64), (1, [(vu64 adr)]), (1, [(.bool wr)]), (1, [(vi ran)])]) h_6 rfl rfl (SsOk.cons (SOk.v rfl) (SsOk.cons (SOk.u64 hor) (SsOk.cons (SOk.v rfl) (SsOk.cons (SOk.v rfl) (SsOk.cons (SOk.v rfl) SsOk.nil))))) rfl (fun b_7 w_8 h_9 => ?_)
  refine WL.q (Wn.no rfl) rfl rfl (R.assign (v := (.bool false)) rfl) ?_
  refine WL.nil ?_
  refine thn_n ?_
  refine WP.seq ?_
  refine WP.reg ?_
  refine WL.q (Wn.no rfl) rfl rfl (R.loadA (b := b_1) (off := 0) [] [(1, [(vi rd)]), (1, [(vu64 ins)]), (8, regs.map vu64), (1, [(vu64 pc)]), (1, [(.bool run)]), (1, [(vi wt)])] [] (cs := flat [(1, [(vi rd)]), (1, [(vu64 ins)]), (8, regs.map vu64), (1, [(vu64 pc)]), (1, [(.bool run)]), (1, [(vi wt)])]) rfl Try.isAgg28 Try.sizeOf28 (h_9.ok _ (.tail _ (.tail _ (.head _)))) rfl rfl rfl rfl) ?_
  refine WL.q (Wn.no rfl) rfl rfl (R.loadA (b := b_4) (off := 0) [] [(8, cr.map vu64), (1, [(vu64 cpc)])] [] (cs := flat [(8, cr.map vu64), (1, [(vu64 cpc)])]) rfl Try.isAgg25 Try.sizeOf25 (h_9.ok _ (.tail _ (.head _))) rfl rfl rfl rfl) ?_
  refine WL.q (Wn.no rfl) rfl rfl (R.loadA (b := b_7) (off := 0) [] [(1, [(vi 1)]), (4, ors.map vu64), (1, [(vu64 adr)]), (1, [(.bool wr)]), (1, [(vi ran)])] [] (cs := flat [(1, [(vi 1)]), (4, ors.map vu64), (1, [(vu64 adr)]), (1, [(.bool wr)]), (1, [(vi ran)])]) rfl Try.isAgg40 Try.sizeOf40 (h_9.ok _ (.head _)) rfl rfl rfl rfl) ?_
  refine WL.call (al := [(.agg ⟨flat [(1, [(vi rd)]), (1, [(vu64 ins)]), (8, regs.map vu64), (1, [(vu64 pc)]), (1, [(.bool run)]), (1, [(vi wt)])]⟩), (.agg ⟨flat [(8, cr.map vu64), (1, [(vu64 cpc)])]⟩), (.agg ⟨flat [(1, [(vi 1)]), (4, ors.map vu64), (1, [(vu64 adr)]), (1, [(.bool wr)]), (1, [(vi ran)])]⟩)]) Try.call16 rfl rfl (c_Leave rd ins regs hr pc run wt cr hcr cpc 1 ors hor adr wr ran (by decide) (by decide) h0 _) rfl ?_
  rintro _ w_11 ⟨rfl, hc_10⟩
  have h_12 := h_9.same hc_10
  refine WL.q (Wn.no rfl) rfl rfl (R.move (v := (.tuple [(.agg ⟨flat [(1, [(vi rd)]), (1, [(vu64 ins)]), (8, cr.map vu64), (1, [(vu64 cpc)]), (1, [(.bool run)]), (1, [(vi 0)])]⟩), (vi 0)].toArray)) rfl) ?_
  refine WL.q (Wn.no rfl) rfl rfl (R.extract (l := [(.agg ⟨flat [(1, [(vi rd)]), (1, [(vu64 ins)]), (8, cr.map vu64), (1, [(vu64 cpc)]), (1, [(.bool run)]), (1, [(vi 0)])]⟩), (vi 0)]) (v := (.agg ⟨flat [(1, [(vi rd)]), (1, [(vu64 ins)]), (8, cr.map vu64), (1, [(vu64 cpc)]), (1, [(.bool run)]), (1, [(vi 0)])]⟩)) rfl rfl) ?_
  refine WL.q (Wn.no rfl) rfl rfl (R.extract (l := [(.agg ⟨flat [(1, [(vi rd)]), (1, [(vu64 ins)]), (8, cr.map vu64), (1, [(vu64 cpc)]), (1, [(.bool run)]), (1, [(vi 0)])]⟩), (vi 0)]) (v := (vi 0)) rfl rfl) ?_
  refine WL.alloc (segs := [(1, [(vi 0)]), (1, [(vu64 0)]), (8, (List.replicate 8 (0 : UInt64)).map vu64), (1, [(vu64 0)]), (1, [(.bool false)]), (1, [(vi 0)])]) h_12 (zv Try.typeInfo28 rfl) rfl (SsOk.cons (SOk.v rfl) (SsOk.cons (SOk.v rfl) (SsOk.cons (SOk.u64 (List.length_replicate ..)) (SsOk.cons (SOk.v rfl) (SsOk.cons (SOk.v rfl) (SsOk.cons (SOk.v rfl) SsOk.nil)))))) rfl (fun b_13 w_14 h_15 => ?_)
  refine WL.storeA (b := b_13) (off := 0) [] [(1, [(vi 0)]), (1, [(vu64 0)]), (8, (List.replicate 8 (0 : UInt64)).map vu64), (1, [(vu64 0)]), (1, [(.bool false)]), (1, [(vi 0)])] [(1, [(vi rd)]), (1, [(vu64 ins)]), (8, cr.map vu64), (1, [(vu64 cpc)]), (1, [(.bool run)]), (1, [(vi 0)])] [] (ys := flat [(1, [(vi rd)]), (1, [(vu64 ins)]), (8, cr.map vu64), (1, [(vu64 cpc)]), (1, [(.bool run)]), (1, [(vi 0)])]) h_15 rfl rfl Try.sizeOf28 At.h (by decide) rfl rfl rfl rfl rfl rfl (SsOk.cons (SOk.v rfl) (SsOk.cons (SOk.v rfl) (SsOk.cons (SOk.u64 hcr) (SsOk.cons (SOk.v rfl) (SsOk.cons (SOk.v rfl) (SsOk.cons (SOk.v rfl) SsOk.nil)))))) (fun w_16 h_17 => ?_)
  refine WL.q (Wn.no rfl) rfl rfl (R.assign (v := (vi 0)) rfl) ?_
  refine WL.nil ?_
  refine thn_n ?_
  refine WP.seq ?_
  refine WP.seq ?_
  refine WP.reg ?_
  refine WL.q (Wn.no rfl) rfl rfl (R.fieldAddr (b := b_7) (off := 0) (off' := 0) rfl Try.underlying40 rfl Try.sizeOf38 rfl rfl) ?_
  refine WL.q (Wn.no rfl) rfl rfl (R.load1 (b := b_7) (off := 0) (v := (vi 1)) rfl Try.isAgg38 (h_17.ok _ (.tail _ (.head _))) Sg.h) ?_
  refine WL.q (Wn.no rfl) rfl rfl (R.bin (v := (.bool false)) rfl rfl (bi_lss (r := false) (by decide))) ?_
  refine WL.q (Wn.no rfl) rfl rfl (R.move (v := (.bool false)) rfl) ?_
  refine WL.want rfl rfl ?_
  refine WL.q (Wn.no rfl) rfl rfl (R.fieldAddr (b := b_7) (off := 0) (off' := 0) rfl Try.underlying40 rfl Try.sizeOf38 rfl rfl) ?_
  refine WL.want rfl rfl ?_
  refine WL.q (Wn.no rfl) rfl rfl (R.load1 (b := b_7) (off := 0) (v := (vi 1)) rfl Try.isAgg38 (h_17.ok _ (.tail _ (.head _))) Sg.h) ?_
  refine WL.want rfl rfl ?_
  refine WL.q (Wn.no rfl) rfl rfl (R.bin (v := (.bool false)) rfl rfl (bi_gtr (r := false) (by decide))) ?_
  refine WL.q (Wn.no rfl) rfl rfl (R.pickF (v := (.bool false)) rfl rfl) ?_
  refine WL.q (Wn.no rfl) rfl rfl (R.move (v := (.bool false)) rfl) ?_
  refine WL.want rfl rfl ?_
  refine WL.q (Wn.no rfl) rfl rfl (R.fieldAddr (b := b_7) (off := 0) (off' := 7) rfl Try.underlying40 rfl Try.sizeOf3 rfl rfl) ?_
  refine WL.want rfl rfl ?_
  refine WL.q (Wn.no rfl) rfl rfl (R.load1 (b := b_7) (off := 7) (v := (vi ran)) rfl Try.isAgg3 (h_17.ok _ (.tail _ (.head _))) (Sg.t rfl (Sg.t rfl (Sg.t rfl (Sg.t rfl Sg.h))))) ?_
  refine WL.want rfl rfl ?_
  refine WL.q (Wn.no rfl) rfl rfl (R.bin (v := (.bool (decide ((ran : Int) < 0)))) rfl rfl (bi_lss (r := decide ((ran : Int) < 0)) rfl)) ?_
  refine WL.q (Wn.no rfl) rfl rfl (R.pickF (v := (.bool (decide ((ran : Int) < 0)))) rfl rfl) ?_
  refine WL.nil ?_
  refine thn_n ?_
  refine WP.condF (congrArg Value.bool (decide_eq_false (by omega))) ?_
  refine WP.skip ?_
  refine thn_n ?_
  refine WP.seq ?_
  refine WP.reg ?_
  refine WL.q (Wn.no rfl) rfl rfl (R.loadA (b := b_1) (off := 0) [] [(1, [(vi rd)]), (1, [(vu64 ins)]), (8, regs.map vu64), (1, [(vu64 pc)]), (1, [(.bool run)]), (1, [(vi wt)])] [] (cs := flat [(1, [(vi rd)]), (1, [(vu64 ins)]), (8, regs.map vu64), (1, [(vu64 pc)]), (1, [(.bool run)]), (1, [(vi wt)])]) rfl Try.isAgg28 Try.sizeOf28 (h_17.ok _ (.tail _ (.tail _ (.tail _ (.head _))))) rfl rfl rfl rfl) ?_
  refine WL.alloc (segs := [(1, [(vi 0)]), (1, [(vu64 0)]), (8, (List.replicate 8 (0 : UInt64)).map vu64), (1, [(vu64 0)]), (1, [(.bool false)]), (1, [(vi 0)])]) h_17 (zv Try.typeInfo28 rfl) rfl (SsOk.cons (SOk.v rfl) (SsOk.cons (SOk.v rfl) (SsOk.cons (SOk.u64 (List.length_replicate ..)) (SsOk.cons (SOk.v rfl) (SsOk.cons (SOk.v rfl) (SsOk.cons (SOk.v rfl) SsOk.nil)))))) rfl (fun b_18 w_19 h_20 => ?_)
  refine WL.storeA (b := b_18) (off := 0) [] [(1, [(vi 0)]), (1, [(vu64 0)]), (8, (List.replicate 8 (0 : UInt64)).map vu64), (1, [(vu64 0)]), (1, [(.bool false)]), (1, [(vi 0)])] [(1, [(vi rd)]), (1, [(vu64 ins)]), (8, regs.map vu64), (1, [(vu64 pc)]), (1, [(.bool run)]), (1, [(vi wt)])] [] (ys := flat [(1, [(vi rd)]), (1, [(vu64 ins)]), (8, regs.map vu64), (1, [(vu64 pc)]), (1, [(.bool run)]), (1, [(vi wt)])]) h_20 rfl rfl Try.sizeOf28 At.h (by decide) rfl rfl rfl rfl rfl rfl (SsOk.cons (SOk.v rfl) (SsOk.cons (SOk.v rfl) (SsOk.cons (SOk.u64 hr) (SsOk.cons (SOk.v rfl) (SsOk.cons (SOk.v rfl) (SsOk.cons (SOk.v rfl) SsOk.nil)))))) (fun w_21 h_22 => ?_)
  refine WL.nil ?_
  refine thn_n ?_
  refine WP.seq ?_
  refine WP.reg ?_
  refine WL.q (Wn.no rfl) rfl rfl (R.loadA (b := b_4) (off := 0) [] [(8, cr.map vu64), (1, [(vu64 cpc)])] [] (cs := flat [(8, cr.map vu64), (1, [(vu64 cpc)])]) rfl Try.isAgg25 Try.sizeOf25 (h_22.ok _ (.tail _ (.tail _ (.tail _ (.head _))))) rfl rfl rfl rfl) ?_
  refine WL.q (Wn.no rfl) rfl rfl (R.fieldAddr (b := b_18) (off := 0) (off' := 2) rfl Try.underlying28 rfl Try.sizeOf25 rfl rfl) ?_
  refine WL.storeA (b := b_18) (off := 2) [(1, [(vi rd)]), (1, [(vu64 ins)])] [(8, regs.map vu64), (1, [(vu64 pc)])] [(8, cr.map vu64), (1, [(vu64 cpc)])] [(1, [(.bool run)]), (1, [(vi wt)])] (ys := flat [(8, cr.map vu64), (1, [(vu64 cpc)])]) h_22 rfl rfl Try.sizeOf25 At.h (by decide) rfl rfl rfl rfl rfl rfl (SsOk.cons (SOk.u64 hcr) (SsOk.cons (SOk.v rfl) SsOk.nil)) (fun w_23 h_24 => ?_)
  refine WL.nil ?_
  refine thn_n ?_
  refine WP.seq ?_
  refine WP.reg ?_
  refine WL.q (Wn.no rfl) rfl rfl (R.buildA (vs := [(0, (vi 0)), (1, (vi 0)), (2, (vi 1)), (3, (vi 2)), (4, (vi 0)), (5, (vi 3))]) (cs := ([0, 0, 1, 2, 0, 3] : List Int).map vi64) Try.underlying42 Try.sizeOf26 (zv Try.typeInfo42 rfl) rfl rfl) ?_
  refine WL.q (Wn.no rfl) rfl rfl (R.fieldAddr (b := b_7) (off := 0) (off' := 0) rfl Try.underlying40 rfl Try.sizeOf38 rfl rfl) ?_
  refine WL.q (Wn.no rfl) rfl rfl (R.load1 (b := b_7) (off := 0) (v := (vi 1)) rfl Try.isAgg38 (h_24.ok _ (.tail _ (.tail _ (.head _)))) Sg.h) ?_
  refine WL.q (Wn.no rfl) rfl rfl (R.indexV (i := 1) (cs := ([0, 0, 1, 2, 0, 3] : List Int).map vi64) (v := (vi 0)) rfl rfl rfl (by decide) Try.underlying42 Try.isAgg26 Try.sizeOf26 (get_i64 (lt_len rfl (by decide)))) ?_
  refine WL.q (Wn.no rfl) rfl rfl (R.fieldAddr (b := b_18) (off := 0) (off' := 12) rfl Try.underlying28 rfl Try.sizeOf26 rfl rfl) ?_
  refine WL.store1 (b := b_18) (off := 12) (v := (vi 0)) h_24 rfl rfl Try.sizeOf26 rfl At.h (by decide) (Sg.t rfl (Sg.t rfl (Sg.t rfl (Sg.t rfl (Sg.t rfl Sg.h))))) (fun w_25 h_26 => ?_)
  refine WL.nil ?_
  refine thn_n ?_
  refine WP.seq ?_
  refine WP.reg ?_
  refine WL.q (Wn.no rfl) rfl rfl (R.move (v := (vi 0)) rfl) ?_
  refine WL.q (Wn.no rfl) rfl rfl (R.bin (v := (.bool true)) rfl rfl (bi_eql (r := true) (by decide))) ?_
  refine WL.q (Wn.no rfl) rfl rfl (R.move (v := (.bool true)) rfl) ?_
  refine WL.want rfl rfl ?_
  refine WL.q (Wn.no rfl) rfl rfl (R.loadA (b := b_13) (off := 0) [] [(1, [(vi rd)]), (1, [(vu64 ins)]), (8, cr.map vu64), (1, [(vu64 cpc)]), (1, [(.bool run)]), (1, [(vi 0)])] [] (cs := flat [(1, [(vi rd)]), (1, [(vu64 ins)]), (8, cr.map vu64), (1, [(vu64 cpc)]), (1, [(.bool run)]), (1, [(vi 0)])]) rfl Try.isAgg28 Try.sizeOf28 (h_26.ok _ (.tail _ (.head _))) rfl rfl rfl rfl) ?_
  refine WL.want rfl rfl ?_
  refine WL.q (Wn.no rfl) rfl rfl (R.loadA (b := b_18) (off := 0) [] [(1, [(vi rd)]), (1, [(vu64 ins)]), (8, cr.map vu64), (1, [(vu64 cpc)]), (1, [(.bool run)]), (1, [(vi 0)])] [] (cs := flat [(1, [(vi rd)]), (1, [(vu64 ins)]), (8, cr.map vu64), (1, [(vu64 cpc)]), (1, [(.bool run)]), (1, [(vi 0)])]) rfl Try.isAgg28 Try.sizeOf28 (h_26.ok _ (.head _)) rfl rfl rfl rfl) ?_
  refine WL.want rfl rfl ?_
  refine WL.q (Wn.no rfl) rfl rfl (R.eqA (xs := flat [(1, [(vi rd)]), (1, [(vu64 ins)]), (8, cr.map vu64), (1, [(vu64 cpc)]), (1, [(.bool run)]), (1, [(vi 0)])]) (ys := flat [(1, [(vi rd)]), (1, [(vu64 ins)]), (8, cr.map vu64), (1, [(vu64 cpc)]), (1, [(.bool run)]), (1, [(vi 0)])]) (r := true) rfl rfl Try.eqGuardType28 kt28 (by decide) ag28 (Typ.struct (h := 3) (r := [(1, [(vi rd)]), (1, [(vu64 ins)]), (9, flat [(8, cr.map vu64), (1, [(vu64 cpc)])]), (1, [(.bool run)]), (1, [(vi 0)])]) (cs := flat [(1, [(vi rd)]), (1, [(vu64 ins)]), (8, cr.map vu64), (1, [(vu64 cpc)]), (1, [(.bool run)]), (1, [(vi 0)])]) Try.underlying28 (TypF.cons (k := 1) rfl rfl (by decide) rfl (Typ.int Try.underlying3 ce3 (WalkArith.wf_i64 (by omega))) (TypF.cons (k := 1) rfl rfl (by decide) rfl (Typ.int Try.underlying22 ce22 (wfu64 ins)) (TypF.cons (k := 9) rfl rfl (by decide) ((SsOk.cons (SOk.u64 hcr) (SsOk.cons (SOk.v rfl) SsOk.nil))).len (Typ.struct (h := 2) (r := [(8, cr.map vu64), (1, [(vu64 cpc)])]) (cs := flat [(8, cr.map vu64), (1, [(vu64 cpc)])]) Try.underlying25 (TypF.cons (k := 8) rfl rfl (by decide) (len_map hcr) (Typ.u64s Try.underlying23 ce23 Try.underlying22 ce22 hcr) (TypF.cons (k := 1) rfl rfl (by decide) rfl (Typ.int Try.underlying22 ce22 (wfu64 cpc)) TypF.nil)) rfl (((SsOk.cons (SOk.u64 hcr) (SsOk.cons (SOk.v rfl) SsOk.nil))).len.trans ce25.symm)) (TypF.cons (k := 1) rfl rfl (by decide) rfl (Typ.bool Try.underlying4 ce4) (TypF.cons (k := 1) rfl rfl (by decide) rfl (Typ.int Try.underlying26 ce26 (by decide)) TypF.nil))))) (by simp [flat]) (((SsOk.cons (SOk.v rfl) (SsOk.cons (SOk.v rfl) (SsOk.cons (SOk.u64 hcr) (SsOk.cons (SOk.v rfl) (SsOk.cons (SOk.v rfl) (SsOk.cons (SOk.v rfl) SsOk.nil))))))).len.trans ce28.symm)) (Typ.struct (h := 3) (r := [(1, [(vi rd)]), (1, [(vu64 ins)]), (9, flat [(8, cr.map vu64), (1, [(vu64 cpc)])]), (1, [(.bool run)]), (1, [(vi 0)])]) (cs := flat [(1, [(vi rd)]), (1, [(vu64 ins)]), (8, cr.map vu64), (1, [(vu64 cpc)]), (1, [(.bool run)]), (1, [(vi 0)])]) Try.underlying28 (TypF.cons (k := 1) rfl rfl (by decide) rfl (Typ.int Try.underlying3 ce3 (WalkArith.wf_i64 (by omega))) (TypF.cons (k := 1) rfl rfl (by decide) rfl (Typ.int Try.underlying22 ce22 (wfu64 ins)) (TypF.cons (k := 9) rfl rfl (by decide) ((SsOk.cons (SOk.u64 hcr) (SsOk.cons (SOk.v rfl) SsOk.nil))).len (Typ.struct (h := 2) (r := [(8, cr.map vu64), (1, [(vu64 cpc)])]) (cs := flat [(8, cr.map vu64), (1, [(vu64 cpc)])]) Try.underlying25 (TypF.cons (k := 8) rfl rfl (by decide) (len_map hcr) (Typ.u64s Try.underlying23 ce23 Try.underlying22 ce22 hcr) (TypF.cons (k := 1) rfl rfl (by decide) rfl (Typ.int Try.underlying22 ce22 (wfu64 cpc)) TypF.nil)) rfl (((SsOk.cons (SOk.u64 hcr) (SsOk.cons (SOk.v rfl) SsOk.nil))).len.trans ce25.symm)) (TypF.cons (k := 1) rfl rfl (by decide) rfl (Typ.bool Try.underlying4 ce4) (TypF.cons (k := 1) rfl rfl (by decide) rfl (Typ.int Try.underlying26 ce26 (by decide)) TypF.nil))))) (by simp [flat]) (((SsOk.cons (SOk.v rfl) (SsOk.cons (SOk.v rfl) (SsOk.cons (SOk.u64 hcr) (SsOk.cons (SOk.v rfl) (SsOk.cons (SOk.v rfl) (SsOk.cons (SOk.v rfl) SsOk.nil))))))).len.trans ce28.symm)) (eqT rfl)) ?_
  refine WL.q (Wn.no rfl) rfl rfl (R.pickT (v := (.bool true)) rfl rfl) ?_
  refine WL.q (Wn.no rfl) rfl rfl (R.move (v := (.bool true)) rfl) ?_
  refine WL.want rfl rfl ?_
  refine WL.call (al := []) Try.call15 rfl rfl (c_known14  _) rfl ?_
  rintro _ w_28 ⟨rfl, hc_27⟩
  have h_29 := h_26.same hc_27
  refine WL.q (Wn.no rfl) rfl rfl (R.pickT (v := (.bool true)) rfl rfl) ?_
  refine WL.q (Wn.no rfl) rfl rfl (R.assign (v := (.bool true)) rfl) ?_
  refine WL.nil ?_
  refine thn_n ?_
  refine WP.ret ?_
  refine ret_of Try.results4 (RV.tmp (v := (.bool true)) rfl RV.nil) ?_
  exact ⟨rfl, h_29.chgS⟩

theorem w_RecLeaves_2 (rd : Int) (ins : UInt64) (regs : List UInt64) (hr : regs.length = 8) (pc : UInt64) (run : Bool) (wt : Int) (cr : List UInt64) (hcr : cr.length = 8) (cpc : UInt64) (ors : List UInt64) (hor : ors.length = 4) (adr : UInt64) (wr : Bool) (ran : Int) (b_rd : -9223372036854775808 ≤ rd ∧ rd < 9223372036854775808) (b_wt : -9223372036854775808 ≤ wt ∧ wt < 9223372036854775808) (h0 : 0 ≤ ran) (w : World) :
    Cs Try.prog 4 [(.agg ⟨flat [(1, [(vi rd)]), (1, [(vu64 ins)]), (8, regs.map vu64), (1, [(vu64 pc)]), (1, [(.bool run)]), (1, [(vi wt)])]⟩), (.agg ⟨flat [(8, cr.map vu64), (1, [(vu64 cpc)])]⟩), (.agg ⟨flat [(1, [(vi 2)]), (4, ors.map vu64), (1, [(vu64 adr)]), (1, [(.bool wr)]), (1, [(vi ran)])]⟩)].toArray w (fun v w1 => v = .bool true ∧ Chg w w1 []) := by
  refine Cs.of (n := 58) (args := [(.agg ⟨flat [(1, [(vi rd)]), (1, [(vu64 ins)]), (8, regs.map vu64), (1, [(vu64 pc)]), (1, [(.bool run)]), (1, [(vi wt)])]⟩), (.agg ⟨flat [(8, cr.map vu64), (1, [(vu64 cpc)])]⟩), (.agg ⟨flat [(1, [(vi 2)]), (4, ors.map vu64), (1, [(vu64 adr)]), (1, [(.bool wr)]), (1, [(vi ran)])]⟩)]) Try.func4 rfl rfl rfl ?_
  have h_0 := HP.init w
  refine WP.seq ?_
  refine WP.reg ?_
  refine WL.box (v := (.agg ⟨flat [(1, [(vi rd)]), (1, [(vu64 ins)]), (8, regs.map vu64), (1, [(vu64 pc)]), (1, [(.bool run)]), (1, [(vi wt)])]⟩)) (segs := [(1, [(vi rd)]), (1, [(vu64 ins)]), (8, regs.map vu64), (1, [(vu64 pc)]), (1, [(.bool run)]), (1, [(vi wt)])]) h_0 rfl rfl (SsOk.cons (SOk.v rfl) (SsOk.cons (SOk.v rfl) (SsOk.cons (SOk.u64 hr) (SsOk.cons (SOk.v rfl) (SsOk.cons (SOk.v rfl) (SsOk.cons (SOk.v rfl) SsOk.nil)))))) rfl (fun b_1 w_2 h_3 => ?_)
  refine WL.box (v := (.agg ⟨flat [(8, cr.map vu64), (1, [(vu64 cpc)])]⟩)) (segs := [(8, cr.map vu64), (1, [(vu64 cpc)])]) h_3 rfl rfl (SsOk.cons (SOk.u64 hcr) (SsOk.cons (SOk.v rfl) SsOk.nil)) rfl (fun b_4 w_5 h_6 => ?_)
  refine WL.box (v := (.agg ⟨flat [(1, [(vi 2)]), (4, ors.map vu64), (1, [(vu64 adr)]), (1, [(.bool wr)]), (1, [(vi ran)])]⟩)) (segs := [(1, [(vi 2)]), (4, ors.map vu64), (1, [(vu64 adr)]), (1, [(.bool wr)]), (1, [(vi ran)])]) h_6 rfl rfl (SsOk.cons (SOk.v rfl) (SsOk.cons (SOk.u64 hor) (SsOk.cons (SOk.v rfl) (SsOk.cons (SOk.v rfl) (SsOk.cons (SOk.v rfl) SsOk.nil))))) rfl (fun b_7 w_8 h_9 => ?_)
  refine WL.q (Wn.no rfl) rfl rfl (R.assign (v := (.bool false)) rfl) ?_
  refine WL.nil ?_
  refine thn_n ?_
  refine WP.seq ?_
  refine WP.reg ?_
  refine WL.q (Wn.no rfl) rfl rfl (R.loadA (b := b_1) (off := 0) [] [(1, [(vi rd)]), (1, [(vu64 ins)]), (8, regs.map vu64), (1, [(vu64 pc)]), (1, [(.bool run)]), (1, [(vi wt)])] [] (cs := flat [(1, [(vi rd)]), (1, [(vu64 ins)]), (8, regs.map vu64), (1, [(vu64 pc)]), (1, [(.bool run)]), (1, [(vi wt)])]) rfl Try.isAgg28 Try.sizeOf28 (h_9.ok _ (.tail _ (.tail _ (.head _)))) rfl rfl rfl rfl) ?_
  refine WL.q (Wn.no rfl) rfl rfl (R.loadA (b := b_4) (off := 0) [] [(8, cr.map vu64), (1, [(vu64 cpc)])] [] (cs := flat [(8, cr.map vu64), (1, [(vu64 cpc)])]) rfl Try.isAgg25 Try.sizeOf25 (h_9.ok _ (.tail _ (.head _))) rfl rfl rfl rfl) ?_
  refine WL.q (Wn.no rfl) rfl rfl (R.loadA (b := b_7) (off := 0) [] [(1, [(vi 2)]), (4, ors.map vu64), (1, [(vu64 adr)]), (1, [(.bool wr)]), (1, [(vi ran)])] [] (cs := flat [(1, [(vi 2)]), (4, ors.map vu64), (1, [(vu64 adr)]), (1, [(.bool wr)]), (1, [(vi ran)])]) rfl Try.isAgg40 Try.sizeOf40 (h_9.ok _ (.head _)) rfl rfl rfl rfl) ?_
  refine WL.call (al := [(.agg ⟨flat [(1, [(vi rd)]), (1, [(vu64 ins)]), (8, regs.map vu64), (1, [(vu64 pc)]), (1, [(.bool run)]), (1, [(vi wt)])]⟩), (.agg ⟨flat [(8, cr.map vu64), (1, [(vu64 cpc)])]⟩), (.agg ⟨flat [(1, [(vi 2)]), (4, ors.map vu64), (1, [(vu64 adr)]), (1, [(.bool wr)]), (1, [(vi ran)])]⟩)]) Try.call16 rfl rfl (c_Leave rd ins regs hr pc run wt cr hcr cpc 2 ors hor adr wr ran (by decide) (by decide) h0 _) rfl ?_
  rintro _ w_11 ⟨rfl, hc_10⟩
  have h_12 := h_9.same hc_10
  refine WL.q (Wn.no rfl) rfl rfl (R.move (v := (.tuple [(.agg ⟨flat [(1, [(vi rd)]), (1, [(vu64 ins)]), (8, cr.map vu64), (1, [(vu64 cpc)]), (1, [(.bool run)]), (1, [(vi 1)])]⟩), (vi 0)].toArray)) rfl) ?_
  refine WL.q (Wn.no rfl) rfl rfl (R.extract (l := [(.agg ⟨flat [(1, [(vi rd)]), (1, [(vu64 ins)]), (8, cr.map vu64), (1, [(vu64 cpc)]), (1, [(.bool run)]), (1, [(vi 1)])]⟩), (vi 0)]) (v := (.agg ⟨flat [(1, [(vi rd)]), (1, [(vu64 ins)]), (8, cr.map vu64), (1, [(vu64 cpc)]), (1, [(.bool run)]), (1, [(vi 1)])]⟩)) rfl rfl) ?_
  refine WL.q (Wn.no rfl) rfl rfl (R.extract (l := [(.agg ⟨flat [(1, [(vi rd)]), (1, [(vu64 ins)]), (8, cr.map vu64), (1, [(vu64 cpc)]), (1, [(.bool run)]), (1, [(vi 1)])]⟩), (vi 0)]) (v := (vi 0)) rfl rfl) ?_
  refine WL.alloc (segs := [(1, [(vi 0)]), (1, [(vu64 0)]), (8, (List.replicate 8 (0 : UInt64)).map vu64), (1, [(vu64 0)]), (1, [(.bool false)]), (1, [(vi 0)])]) h_12 (zv Try.typeInfo28 rfl) rfl (SsOk.cons (SOk.v rfl) (SsOk.cons (SOk.v rfl) (SsOk.cons (SOk.u64 (List.length_replicate ..)) (SsOk.cons (SOk.v rfl) (SsOk.cons (SOk.v rfl) (SsOk.cons (SOk.v rfl) SsOk.nil)))))) rfl (fun b_13 w_14 h_15 => ?_)
  refine WL.storeA (b := b_13) (off := 0) [] [(1, [(vi 0)]), (1, [(vu64 0)]), (8, (List.replicate 8 (0 : UInt64)).map vu64), (1, [(vu64 0)]), (1, [(.bool false)]), (1, [(vi 0)])] [(1, [(vi rd)]), (1, [(vu64 ins)]), (8, cr.map vu64), (1, [(vu64 cpc)]), (1, [(.bool run)]), (1, [(vi 1)])] [] (ys := flat [(1, [(vi rd)]), (1, [(vu64 ins)]), (8, cr.map vu64), (1, [(vu64 cpc)]), (1, [(.bool run)]), (1, [(vi 1)])]) h_15 rfl rfl Try.sizeOf28 At.h (by decide) rfl rfl rfl rfl rfl rfl (SsOk.cons (SOk.v rfl) (SsOk.cons (SOk.v rfl) (SsOk.cons (SOk.u64 hcr) (SsOk.cons (SOk.v rfl) (SsOk.cons (SOk.v rfl) (SsOk.cons (SOk.v rfl) SsOk.nil)))))) (fun w_16 h_17 => ?_)
  refine WL.q (Wn.no rfl) rfl rfl (R.assign (v := (vi 0)) rfl) ?_
  refine WL.nil ?_
  refine thn_n ?_
  refine WP.seq ?_
  refine WP.seq ?_
  refine WP.reg ?_
  refine WL.q (Wn.no rfl) rfl rfl (R.fieldAddr (b := b_7) (off := 0) (off' := 0) rfl Try.underlying40 rfl Try.sizeOf38 rfl rfl) ?_
  refine WL.q (Wn.no rfl) rfl rfl (R.load1 (b := b_7) (off := 0) (v := (vi 2)) rfl Try.isAgg38 (h_17.ok _ (.tail _ (.head _))) Sg.h) ?_
  refine WL.q (Wn.no rfl) rfl rfl (R.bin (v := (.bool false)) rfl rfl (bi_lss (r := false) (by decide))) ?_
  refine WL.q (Wn.no rfl) rfl rfl (R.move (v := (.bool false)) rfl) ?_
  refine WL.want rfl rfl ?_
  refine WL.q (Wn.no rfl) rfl rfl (R.fieldAddr (b := b_7) (off := 0) (off' := 0) rfl Try.underlying40 rfl Try.sizeOf38 rfl rfl) ?_
  refine WL.want rfl rfl ?_
  refine WL.q (Wn.no rfl) rfl rfl (R.load1 (b := b_7) (off := 0) (v := (vi 2)) rfl Try.isAgg38 (h_17.ok _ (.tail _ (.head _))) Sg.h) ?_
  refine WL.want rfl rfl ?_
  refine WL.q (Wn.no rfl) rfl rfl (R.bin (v := (.bool false)) rfl rfl (bi_gtr (r := false) (by decide))) ?_
  refine WL.q (Wn.no rfl) rfl rfl (R.pickF (v := (.bool false)) rfl rfl) ?_
  refine WL.q (Wn.no rfl) rfl rfl (R.move (v := (.bool false)) rfl) ?_
  refine WL.want rfl rfl ?_
  refine WL.q (Wn.no rfl) rfl rfl (R.fieldAddr (b := b_7) (off := 0) (off' := 7) rfl Try.underlying40 rfl Try.sizeOf3 rfl rfl) ?_
  refine WL.want rfl rfl ?_
  refine WL.q (Wn.no rfl) rfl rfl (R.load1 (b := b_7) (off := 7) (v := (vi ran)) rfl Try.isAgg3 (h_17.ok _ (.tail _ (.head _))) (Sg.t rfl (Sg.t rfl (Sg.t rfl (Sg.t rfl Sg.h))))) ?_
  refine WL.want rfl rfl ?_
  refine WL.q (Wn.no rfl) rfl rfl (R.bin (v := (.bool (decide ((ran : Int) < 0)))) rfl rfl (bi_lss (r := decide ((ran : Int) < 0)) rfl)) ?_
  refine WL.q (Wn.no rfl) rfl rfl (R.pickF (v := (.bool (decide ((ran : Int) < 0)))) rfl rfl) ?_
  refine WL.nil ?_
  refine thn_n ?_
  refine WP.condF (congrArg Value.bool (decide_eq_false (by omega))) ?_
  refine WP.skip ?_
  refine thn_n ?_
  refine WP.seq ?_
  refine WP.reg ?_
  refine WL.q (Wn.no rfl) rfl rfl (R.loadA (b := b_1) (off := 0) [] [(1, [(vi rd)]), (1, [(vu64 ins)]), (8, regs.map vu64), (1, [(vu64 pc)]), (1, [(.bool run)]), (1, [(vi wt)])] [] (cs := flat [(1, [(vi rd)]), (1, [(vu64 ins)]), (8, regs.map vu64), (1, [(vu64 pc)]), (1, [(.bool run)]), (1, [(vi wt)])]) rfl Try.isAgg28 Try.sizeOf28 (h_17.ok _ (.tail _ (.tail _ (.tail _ (.head _))))) rfl rfl rfl rfl) ?_
  refine WL.alloc (segs := [(1, [(vi 0)]), (1, [(vu64 0)]), (8, (List.replicate 8 (0 : UInt64)).map vu64), (1, [(vu64 0)]), (1, [(.bool false)]), (1, [(vi 0)])]) h_17 (zv Try.typeInfo28 rfl) rfl (SsOk.cons (SOk.v rfl) (SsOk.cons (SOk.v rfl) (SsOk.cons (SOk.u64 (List.length_replicate ..)) (SsOk.cons (SOk.v rfl) (SsOk.cons (SOk.v rfl) (SsOk.cons (SOk.v rfl) SsOk.nil)))))) rfl (fun b_18 w_19 h_20 => ?_)
  refine WL.storeA (b := b_18) (off := 0) [] [(1, [(vi 0)]), (1, [(vu64 0)]), (8, (List.replicate 8 (0 : UInt64)).map vu64), (1, [(vu64 0)]), (1, [(.bool false)]), (1, [(vi 0)])] [(1, [(vi rd)]), (1, [(vu64 ins)]), (8, regs.map vu64), (1, [(vu64 pc)]), (1, [(.bool run)]), (1, [(vi wt)])] [] (ys := flat [(1, [(vi rd)]), (1, [(vu64 ins)]), (8, regs.map vu64), (1, [(vu64 pc)]), (1, [(.bool run)]), (1, [(vi wt)])]) h_20 rfl rfl Try.sizeOf28 At.h (by decide) rfl rfl rfl rfl rfl rfl (SsOk.cons (SOk.v rfl) (SsOk.cons (SOk.v rfl) (SsOk.cons (SOk.u64 hr) (SsOk.cons (SOk.v rfl) (SsOk.cons (SOk.v rfl) (SsOk.cons (SOk.v rfl) SsOk.nil)))))) (fun w_21 h_22 => ?_)
  refine WL.nil ?_
  refine thn_n ?_
  refine WP.seq ?_
  refine WP.reg ?_
  refine WL.q (Wn.no rfl) rfl rfl (R.loadA (b := b_4) (off := 0) [] [(8, cr.map vu64), (1, [(vu64 cpc)])] [] (cs := flat [(8, cr.map vu64), (1, [(vu64 cpc)])]) rfl Try.isAgg25 Try.sizeOf25 (h_22.ok _ (.tail _ (.tail _ (.tail _ (.head _))))) rfl rfl rfl rfl) ?_
  refine WL.q (Wn.no rfl) rfl rfl (R.fieldAddr (b := b_18) (off := 0) (off' := 2) rfl Try.underlying28 rfl Try.sizeOf25 rfl rfl) ?_
  refine WL.storeA (b := b_18) (off := 2) [(1, [(vi rd)]), (1, [(vu64 ins)])] [(8, regs.map vu64), (1, [(vu64 pc)])] [(8, cr.map vu64), (1, [(vu64 cpc)])] [(1, [(.bool run)]), (1, [(vi wt)])] (ys := flat [(8, cr.map vu64), (1, [(vu64 cpc)])]) h_22 rfl rfl Try.sizeOf25 At.h (by decide) rfl rfl rfl rfl rfl rfl (SsOk.cons (SOk.u64 hcr) (SsOk.cons (SOk.v rfl) SsOk.nil)) (fun w_23 h_24 => ?_)
  refine WL.nil ?_
  refine thn_n ?_
  refine WP.seq ?_
  refine WP.reg ?_
  refine WL.q (Wn.no rfl) rfl rfl (R.buildA (vs := [(0, (vi 0)), (1, (vi 0)), (2, (vi 1)), (3, (vi 2)), (4, (vi 0)), (5, (vi 3))]) (cs := ([0, 0, 1, 2, 0, 3] : List Int).map vi64) Try.underlying42 Try.sizeOf26 (zv Try.typeInfo42 rfl) rfl rfl) ?_
  refine WL.q (Wn.no rfl) rfl rfl (R.fieldAddr (b := b_7) (off := 0) (off' := 0) rfl Try.underlying40 rfl Try.sizeOf38 rfl rfl) ?_
  refine WL.q (Wn.no rfl) rfl rfl (R.load1 (b := b_7) (off := 0) (v := (vi 2)) rfl Try.isAgg38 (h_24.ok _ (.tail _ (.tail _ (.head _)))) Sg.h) ?_
  refine WL.q (Wn.no rfl) rfl rfl (R.indexV (i := 2) (cs := ([0, 0, 1, 2, 0, 3] : List Int).map vi64) (v := (vi 1)) rfl rfl rfl (by decide) Try.underlying42 Try.isAgg26 Try.sizeOf26 (get_i64 (lt_len rfl (by decide)))) ?_
  refine WL.q (Wn.no rfl) rfl rfl (R.fieldAddr (b := b_18) (off := 0) (off' := 12) rfl Try.underlying28 rfl Try.sizeOf26 rfl rfl) ?_
  refine WL.store1 (b := b_18) (off := 12) (v := (vi 1)) h_24 rfl rfl Try.sizeOf26 rfl At.h (by decide) (Sg.t rfl (Sg.t rfl (Sg.t rfl (Sg.t rfl (Sg.t rfl Sg.h))))) (fun w_25 h_26 => ?_)
  refine WL.nil ?_
  refine thn_n ?_
  refine WP.seq ?_
  refine WP.reg ?_
  refine WL.q (Wn.no rfl) rfl rfl (R.move (v := (vi 0)) rfl) ?_
  refine WL.q (Wn.no rfl) rfl rfl (R.bin (v := (.bool true)) rfl rfl (bi_eql (r := true) (by decide))) ?_
  refine WL.q (Wn.no rfl) rfl rfl (R.move (v := (.bool true)) rfl) ?_
  refine WL.want rfl rfl ?_
  refine WL.q (Wn.no rfl) rfl rfl (R.loadA (b := b_13) (off := 0) [] [(1, [(vi rd)]), (1, [(vu64 ins)]), (8, cr.map vu64), (1, [(vu64 cpc)]), (1, [(.bool run)]), (1, [(vi 1)])] [] (cs := flat [(1, [(vi rd)]), (1, [(vu64 ins)]), (8, cr.map vu64), (1, [(vu64 cpc)]), (1, [(.bool run)]), (1, [(vi 1)])]) rfl Try.isAgg28 Try.sizeOf28 (h_26.ok _ (.tail _ (.head _))) rfl rfl rfl rfl) ?_
  refine WL.want rfl rfl ?_
  refine WL.q (Wn.no rfl) rfl rfl (R.loadA (b := b_18) (off := 0) [] [(1, [(vi rd)]), (1, [(vu64 ins)]), (8, cr.map vu64), (1, [(vu64 cpc)]), (1, [(.bool run)]), (1, [(vi 1)])] [] (cs := flat [(1, [(vi rd)]), (1, [(vu64 ins)]), (8, cr.map vu64), (1, [(vu64 cpc)]), (1, [(.bool run)]), (1, [(vi 1)])]) rfl Try.isAgg28 Try.sizeOf28 (h_26.ok _ (.head _)) rfl rfl rfl rfl) ?_
  refine WL.want rfl rfl ?_
  refine WL.q (Wn.no rfl) rfl rfl (R.eqA (xs := flat [(1, [(vi rd)]), (1, [(vu64 ins)]), (8, cr.map vu64), (1, [(vu64 cpc)]), (1, [(.bool run)]), (1, [(vi 1)])]) (ys := flat [(1, [(vi rd)]), (1, [(vu64 ins)]), (8, cr.map vu64), (1, [(vu64 cpc)]), (1, [(.bool run)]), (1, [(vi 1)])]) (r := true) rfl rfl Try.eqGuardType28 kt28 (by decide) ag28 (Typ.struct (h := 3) (r := [(1, [(vi rd)]), (1, [(vu64 ins)]), (9, flat [(8, cr.map vu64), (1, [(vu64 cpc)])]), (1, [(.bool run)]), (1, [(vi 1)])]) (cs := flat [(1, [(vi rd)]), (1, [(vu64 ins)]), (8, cr.map vu64), (1, [(vu64 cpc)]), (1, [(.bool run)]), (1, [(vi 1)])]) Try.underlying28 (TypF.cons (k := 1) rfl rfl (by decide) rfl (Typ.int Try.underlying3 ce3 (WalkArith.wf_i64 (by omega))) (TypF.cons (k := 1) rfl rfl (by decide) rfl (Typ.int Try.underlying22 ce22 (wfu64 ins)) (TypF.cons (k := 9) rfl rfl (by decide) ((SsOk.cons (SOk.u64 hcr) (SsOk.cons (SOk.v rfl) SsOk.nil))).len (Typ.struct (h := 2) (r := [(8, cr.map vu64), (1, [(vu64 cpc)])]) (cs := flat [(8, cr.map vu64), (1, [(vu64 cpc)])]) Try.underlying25 (TypF.cons (k := 8) rfl rfl (by decide) (len_map hcr) (Typ.u64s Try.underlying23 ce23 Try.underlying22 ce22 hcr) (TypF.cons (k := 1) rfl rfl (by decide) rfl (Typ.int Try.underlying22 ce22 (wfu64 cpc)) TypF.nil)) rfl (((SsOk.cons (SOk.u64 hcr) (SsOk.cons (SOk.v rfl) SsOk.nil))).len.trans ce25.symm)) (TypF.cons (k := 1) rfl rfl (by decide) rfl (Typ.bool Try.underlying4 ce4) (TypF.cons (k := 1) rfl rfl (by decide) rfl (Typ.int Try.underlying26 ce26 (by decide)) TypF.nil))))) (by simp [flat]) (((SsOk.cons (SOk.v rfl) (SsOk.cons (SOk.v rfl) (SsOk.cons (SOk.u64 hcr) (SsOk.cons (SOk.v rfl) (SsOk.cons (SOk.v rfl) (SsOk.cons (SOk.v rfl) SsOk.nil))))))).len.trans ce28.symm)) (Typ.struct (h := 3) (r := [(1, [(vi rd)]), (1, [(vu64 ins)]), (9, flat [(8, cr.map vu64), (1, [(vu64 cpc)])]), (1, [(.bool run)]), (1, [(vi 1)])]) (cs := flat [(1, [(vi rd)]), (1, [(vu64 ins)]), (8, cr.map vu64), (1, [(vu64 cpc)]), (1, [(.bool run)]), (1, [(vi 1)])]) Try.underlying28 (TypF.cons (k := 1) rfl rfl (by decide) rfl (Typ.int Try.underlying3 ce3 (WalkArith.wf_i64 (by omega))) (TypF.cons (k := 1) rfl rfl (by decide) rfl (Typ.int Try.underlying22 ce22 (wfu64 ins)) (TypF.cons (k := 9) rfl rfl (by decide) ((SsOk.cons (SOk.u64 hcr) (SsOk.cons (SOk.v rfl) SsOk.nil))).len (Typ.struct (h := 2) (r := [(8, cr.map vu64), (1, [(vu64 cpc)])]) (cs := flat [(8, cr.map vu64), (1, [(vu64 cpc)])]) Try.underlying25 (TypF.cons (k := 8) rfl rfl (by decide) (len_map hcr) (Typ.u64s Try.underlying23 ce23 Try.underlying22 ce22 hcr) (TypF.cons (k := 1) rfl rfl (by decide) rfl (Typ.int Try.underlying22 ce22 (wfu64 cpc)) TypF.nil)) rfl (((SsOk.cons (SOk.u64 hcr) (SsOk.cons (SOk.v rfl) SsOk.nil))).len.trans ce25.symm)) (TypF.cons (k := 1) rfl rfl (by decide) rfl (Typ.bool Try.underlying4 ce4) (TypF.cons (k := 1) rfl rfl (by decide) rfl (Typ.int Try.underlying26 ce26 (by decide)) TypF.nil))))) (by simp [flat]) (((SsOk.cons (SOk.v rfl) (SsOk.cons (SOk.v rfl) (SsOk.cons (SOk.u64 hcr) (SsOk.cons (SOk.v rfl) (SsOk.cons (SOk.v rfl) (SsOk.cons (SOk.v rfl) SsOk.nil))))))).len.trans ce28.symm)) (eqT rfl)) ?_
  refine WL.q (Wn.no rfl) rfl rfl (R.pickT (v := (.bool true)) rfl rfl) ?_
  refine WL.q (Wn.no rfl) rfl rfl (R.move (v := (.bool true)) rfl) ?_
  refine WL.want rfl rfl ?_
  refine WL.call (al := []) Try.call15 rfl rfl (c_known14  _) rfl ?_
  rintro _ w_28 ⟨rfl, hc_27⟩
  have h_29 := h_26.same hc_27
  refine WL.q (Wn.no rfl) rfl rfl (R.pickT (v := (.bool true)) rfl rfl) ?_
  refine WL.q (Wn.no rfl) rfl rfl (R.assign (v := (.bool true)) rfl) ?_
  refine WL.nil ?_
  refine thn_n ?_
  refine WP.ret ?_
  refine ret_of Try.results4 (RV.tmp (v := (.bool true)) rfl RV.nil) ?_
  exact ⟨rfl, h_29.chgS⟩

theorem w_RecLeaves_3 (rd : Int) (ins : UInt64) (regs : List UInt64) (hr : regs.length = 8) (pc : UInt64) (run : Bool) (wt : Int) (cr : List UInt64) (hcr : cr.length = 8) (cpc : UInt64) (ors : List UInt64) (hor : ors.length = 4) (adr : UInt64) (wr : Bool) (ran : Int) (b_rd : -9223372036854775808 ≤ rd ∧ rd < 9223372036854775808) (b_wt : -9223372036854775808 ≤ wt ∧ wt < 9223372036854775808) (h0 : 0 ≤ ran) (w : World) :
    Cs Try.prog 4 [(.agg ⟨flat [(1, [(vi rd)]), (1, [(vu64 ins)]), (8, regs.map vu64), (1, [(vu64 pc)]), (1, [(.bool run)]), (1, [(vi wt)])]⟩), (.agg ⟨flat [(8, cr.map vu64), (1, [(vu64 cpc)])]⟩), (.agg ⟨flat [(1, [(vi 3)]), (4, ors.map vu64), (1, [(vu64 adr)]), (1, [(.bool wr)]), (1, [(vi ran)])]⟩)].toArray w (fun v w1 => v = .bool true ∧ Chg w w1 []) := by
  refine Cs.of (n := 58) (args := [(.agg ⟨flat [(1, [(vi rd)]), (1, [(vu64 ins)]), (8, regs.map vu64), (1, [(vu64 pc)]), (1, [(.bool run)]), (1, [(vi wt)])]⟩), (.agg ⟨flat [(8, cr.map vu64), (1, [(vu64 cpc)])]⟩), (.agg ⟨flat [(1, [(vi 3)]), (4, ors.map vu64), (1, [(vu64 adr)]), (1, [(.bool wr)]), (1, [(vi ran)])]⟩)]) Try.func4 rfl rfl rfl ?_
  have h_0 := HP.init w
  refine WP.seq ?_
  refine WP.reg ?_
  refine WL.box (v := (.agg ⟨flat [(1, [(vi rd)]), (1, [(vu64 ins)]), (8, regs.map vu64), (1, [(vu64 pc)]), (1, [(.bool run)]), (1, [(vi wt)])]⟩)) (segs := [(1, [(vi rd)]), (1, [(vu64 ins)]), (8, regs.map vu64), (1, [(vu64 pc)]), (1, [(.bool run)]), (1, [(vi wt)])]) h_0 rfl rfl (SsOk.cons (SOk.v rfl) (SsOk.cons (SOk.v rfl) (SsOk.cons (SOk.u64 hr) (SsOk.cons (SOk.v rfl) (SsOk.cons (SOk.v rfl) (SsOk.cons (SOk.v rfl) SsOk.nil)))))) rfl (fun b_1 w_2 h_3 => ?_)
  refine WL.box (v := (.agg ⟨flat [(8, cr.map vu64), (1, [(vu64 cpc)])]⟩)) (segs := [(8, cr.map vu64), (1, [(vu64 cpc)])]) h_3 rfl rfl (SsOk.cons (SOk.u64 hcr) (SsOk.cons (SOk.v rfl) SsOk.nil)) rfl (fun b_4 w_5 h_6 => ?_)
  refine WL.box (v := (.agg ⟨flat [(1, [(vi 3)]), (4, ors.map vu64), (1, [(vu64 adr)]), (1, [(.bool wr)]), (1, [(vi ran)])]⟩)) (segs := [(1, [(vi 3)]), (4, ors.map vu64), (1, [(vu64 adr)]), (1, [(.bool wr)]), (1, [(vi ran)])]) h_6 rfl rfl (SsOk.cons (SOk.v rfl) (SsOk.cons (SOk.u64 hor) (SsOk.cons (SOk.v rfl) (SsOk.cons (SOk.v rfl) (SsOk.cons (SOk.v rfl) SsOk.nil))))) rfl (fun b_7 w_8 h_9 => ?_)
  refine WL.q (Wn.no rfl) rfl rfl (R.assign (v := (.bool false)) rfl) ?_
  refine WL.nil ?_
  refine thn_n ?_
  refine WP.seq ?_
  refine WP.reg ?_
  refine WL.q (Wn.no rfl) rfl rfl (R.loadA (b := b_1) (off := 0) [] [(1, [(vi rd)]), (1, [(vu64 ins)]), (8, regs.map vu64), (1, [(vu64 pc)]), (1, [(.bool run)]), (1, [(vi wt)])] [] (cs := flat [(1, [(vi rd)]), (1, [(vu64 ins)]), (8, regs.map vu64), (1, [(vu64 pc)]), (1, [(.bool run)]), (1, [(vi wt)])]) rfl Try.isAgg28 Try.sizeOf28 (h_9.ok _ (.tail _ (.tail _ (.head _)))) rfl rfl rfl rfl) ?_
  refine WL.q (Wn.no rfl) rfl rfl (R.loadA (b := b_4) (off := 0) [] [(8, cr.map vu64), (1, [(vu64 cpc)])] [] (cs := flat [(8, cr.map vu64), (1, [(vu64 cpc)])]) rfl Try.isAgg25 Try.sizeOf25 (h_9.ok _ (.tail _ (.head _))) rfl rfl rfl rfl) ?_
  refine WL.q (Wn.no rfl) rfl rfl (R.loadA (b := b_7) (off := 0) [] [(1, [(vi 3)]), (4, ors.map vu64), (1, [(vu64 adr)]), (1, [(.bool wr)]), (1, [(vi ran)])] [] (cs := flat [(1, [(vi 3)]), (4, ors.map vu64), (1, [(vu64 adr)]), (1, [(.bool wr)]), (1, [(vi ran)])]) rfl Try.isAgg40 Try.sizeOf40 (h_9.ok _ (.head _)) rfl rfl rfl rfl) ?_
  refine WL.call (al := [(.agg ⟨flat [(1, [(vi rd)]), (1, [(vu64 ins)]), (8, regs.map vu64), (1, [(vu64 pc)]), (1, [(.bool run)]), (1, [(vi wt)])]⟩), (.agg ⟨flat [(8, cr.map vu64), (1, [(vu64 cpc)])]⟩), (.agg ⟨flat [(1, [(vi 3)]), (4, ors.map vu64), (1, [(vu64 adr)]), (1, [(.bool wr)]), (1, [(vi ran)])]⟩)]) Try.call16 rfl rfl (c_Leave rd ins regs hr pc run wt cr hcr cpc 3 ors hor adr wr ran (by decide) (by decide) h0 _) rfl ?_
  rintro _ w_11 ⟨rfl, hc_10⟩
  have h_12 := h_9.same hc_10
  refine WL.q (Wn.no rfl) rfl rfl (R.move (v := (.tuple [(.agg ⟨flat [(1, [(vi rd)]), (1, [(vu64 ins)]), (8, cr.map vu64), (1, [(vu64 cpc)]), (1, [(.bool run)]), (1, [(vi 2)])]⟩), (vi 0)].toArray)) rfl) ?_
  refine WL.q (Wn.no rfl) rfl rfl (R.extract (l := [(.agg ⟨flat [(1, [(vi rd)]), (1, [(vu64 ins)]), (8, cr.map vu64), (1, [(vu64 cpc)]), (1, [(.bool run)]), (1, [(vi 2)])]⟩), (vi 0)]) (v := (.agg ⟨flat [(1, [(vi rd)]), (1, [(vu64 ins)]), (8, cr.map vu64), (1, [(vu64 cpc)]), (1, [(.bool run)]), (1, [(vi 2)])]⟩)) rfl rfl) ?_
  refine WL.q (Wn.no rfl) rfl rfl (R.extract (l := [(.agg ⟨flat [(1, [(vi rd)]), (1, [(vu64 ins)]), (8, cr.map vu64), (1, [(vu64 cpc)]), (1, [(.bool run)]), (1, [(vi 2)])]⟩), (vi 0)]) (v := (vi 0)) rfl rfl) ?_
  refine WL.alloc (segs := [(1, [(vi 0)]), (1, [(vu64 0)]), (8, (List.replicate 8 (0 : UInt64)).map vu64), (1, [(vu64 0)]), (1, [(.bool false)]), (1, [(vi 0)])]) h_12 (zv Try.typeInfo28 rfl) rfl (SsOk.cons (SOk.v rfl) (SsOk.cons (SOk.v rfl) (SsOk.cons (SOk.u64 (List.length_replicate ..)) (SsOk.cons (SOk.v rfl) (SsOk.cons (SOk.v rfl) (SsOk.cons (SOk.v rfl) SsOk.nil)))))) rfl (fun b_13 w_14 h_15 => ?_)
  refine WL.storeA (b := b_13) (off := 0) [] [(1, [(vi 0)]), (1, [(vu64 0)]), (8, (List.replicate 8 (0 : UInt64)).map vu64), (1, [(vu64 0)]), (1, [(.bool false)]), (1, [(vi 0)])] [(1, [(vi rd)]), (1, [(vu64 ins)]), (8, cr.map vu64), (1, [(vu64 cpc)]), (1, [(.bool run)]), (1, [(vi 2)])] [] (ys := flat [(1, [(vi rd)]), (1, [(vu64 ins)]), (8, cr.map vu64), (1, [(vu64 cpc)]), (1, [(.bool run)]), (1, [(vi 2)])]) h_15 rfl rfl Try.sizeOf28 At.h (by decide) rfl rfl rfl rfl rfl rfl (SsOk.cons (SOk.v rfl) (SsOk.cons (SOk.v rfl) (SsOk.cons (SOk.u64 hcr) (SsOk.cons (SOk.v rfl) (SsOk.cons (SOk.v rfl) (SsOk.cons (SOk.v rfl) SsOk.nil)))))) (fun w_16 h_17 => ?_)
  refine WL.q (Wn.no rfl) rfl rfl (R.assign (v := (vi 0)) rfl) ?_
  refine WL.nil ?_
  refine thn_n ?_
  refine WP.seq ?_
  refine WP.seq ?_
  refine WP.reg ?_
  refine WL.q (Wn.no rfl) rfl rfl (R.fieldAddr (b := b_7) (off := 0) (off' := 0) rfl Try.underlying40 rfl Try.sizeOf38 rfl rfl) ?_
  refine WL.q (Wn.no rfl) rfl rfl (R.load1 (b := b_7) (off := 0) (v := (vi 3)) rfl Try.isAgg38 (h_17.ok _ (.tail _ (.head _))) Sg.h) ?_
  refine WL.q (Wn.no rfl) rfl rfl (R.bin (v := (.bool false)) rfl rfl (bi_lss (r := false) (by decide))) ?_
  refine WL.q (Wn.no rfl) rfl rfl (R.move (v := (.bool false)) rfl) ?_
  refine WL.want rfl rfl ?_
  refine WL.q (Wn.no rfl) rfl rfl (R.fieldAddr (b := b_7) (off := 0) (off' := 0) rfl Try.underlying40 rfl Try.sizeOf38 rfl rfl) ?_
  refine WL.want rfl rfl ?_
  refine WL.q (Wn.no rfl) rfl rfl (R.load1 (b := b_7) (off := 0) (v := (vi 3)) rfl Try.isAgg38 (h_17.ok _ (.tail _ (.head _))) Sg.h) ?_
  refine WL.want rfl rfl ?_
  refine WL.q (Wn.no rfl) rfl rfl (R.bin (v := (.bool false)) rfl rfl (bi_gtr (r := false) (by decide))) ?_
  refine WL.q (Wn.no rfl) rfl rfl (R.pickF (v := (.bool false)) rfl rfl) ?_
  refine WL.q (Wn.no rfl) rfl rfl (R.move (v := (.bool false)) rfl) ?_
  refine WL.want rfl rfl ?_
  refine WL.q (Wn.no rfl) rfl rfl (R.fieldAddr (b := b_7) (off := 0) (off' := 7) rfl Try.underlying40 rfl Try.sizeOf3 rfl rfl) ?_
  refine WL.want rfl rfl ?_
  refine WL.q (Wn.no rfl) rfl rfl (R.load1 (b := b_7) (off := 7) (v := (vi ran)) rfl Try.isAgg3 (h_17.ok _ (.tail _ (.head _))) (Sg.t rfl (Sg.t rfl (Sg.t rfl (Sg.t rfl Sg.h))))) ?_
  refine WL.want rfl rfl ?_
  refine WL.q (Wn.no rfl) rfl rfl (R.bin (v := (.bool (decide ((ran : Int) < 0)))) rfl rfl (bi_lss (r := decide ((ran : Int) < 0)) rfl)) ?_
  refine WL.q (Wn.no rfl) rfl rfl (R.pickF (v := (.bool (decide ((ran : Int) < 0)))) rfl rfl) ?_
  refine WL.nil ?_
  refine thn_n ?_
  refine WP.condF (congrArg Value.bool (decide_eq_false (by omega))) ?_
  refine WP.skip ?_
  refine thn_n ?_
  refine WP.seq ?_
  refine WP.reg ?_
  refine WL.q (Wn.no rfl) rfl rfl (R.loadA (b := b_1) (off := 0) [] [(1, [(vi rd)]), (1, [(vu64 ins)]), (8, regs.map vu64), (1, [(vu64 pc)]), (1, [(.bool run)]), (1, [(vi wt)])] [] (cs := flat [(1, [(vi rd)]), (1, [(vu64 ins)]), (8, regs.map vu64), (1, [(vu64 pc)]), (1, [(.bool run)]), (1, [(vi wt)])]) rfl Try.isAgg28 Try.sizeOf28 (h_17.ok _ (.tail _ (.tail _ (.tail _ (.head _))))) rfl rfl rfl rfl) ?_
  refine WL.alloc (segs := [(1, [(vi 0)]), (1, [(vu64 0)]), (8, (List.replicate 8 (0 : UInt64)).map vu64), (1, [(vu64 0)]), (1, [(.bool false)]), (1, [(vi 0)])]) h_17 (zv Try.typeInfo28 rfl) rfl (SsOk.cons (SOk.v rfl) (SsOk.cons (SOk.v rfl) (SsOk.cons (SOk.u64 (List.length_replicate ..)) (SsOk.cons (SOk.v rfl) (SsOk.cons (SOk.v rfl) (SsOk.cons (SOk.v rfl) SsOk.nil)))))) rfl (fun b_18 w_19 h_20 => ?_)
  refine WL.storeA (b := b_18) (off := 0) [] [(1, [(vi 0)]), (1, [(vu64 0)]), (8, (List.replicate 8 (0 : UInt64)).map vu64), (1, [(vu64 0)]), (1, [(.bool false)]), (1, [(vi 0)])] [(1, [(vi rd)]), (1, [(vu64 ins)]), (8, regs.map vu64), (1, [(vu64 pc)]), (1, [(.bool run)]), (1, [(vi wt)])] [] (ys := flat [(1, [(vi rd)]), (1, [(vu64 ins)]), (8, regs.map vu64), (1, [(vu64 pc)]), (1, [(.bool run)]), (1, [(vi wt)])]) h_20 rfl rfl Try.sizeOf28 At.h (by decide) rfl rfl rfl rfl rfl rfl (SsOk.cons (SOk.v rfl) (SsOk.cons (SOk.v rfl) (SsOk.cons (SOk.u64 hr) (SsOk.cons (SOk.v rfl) (SsOk.cons (SOk.v rfl) (SsOk.cons (SOk.v rfl) SsOk.nil)))))) (fun w_21 h_22 => ?_)
  refine WL.nil ?_
  refine thn_n ?_
  refine WP.seq ?_
  refine WP.reg ?_
  refine WL.q (Wn.no rfl) rfl rfl (R.loadA (b := b_4) (off := 0) [] [(8, cr.map vu64), (1, [(vu64 cpc)])] [] (cs := flat [(8, cr.map vu64), (1, [(vu64 cpc)])]) rfl Try.isAgg25 Try.sizeOf25 (h_22.ok _ (.tail _ (.tail _ (.tail _ (.head _))))) rfl rfl rfl rfl) ?_
  refine WL.q (Wn.no rfl) rfl rfl (R.fieldAddr (b := b_18) (off := 0) (off' := 2) rfl Try.underlying28 rfl Try.sizeOf25 rfl rfl) ?_
  refine WL.storeA (b := b_18) (off := 2) [(1, [(vi rd)]), (1, [(vu64 ins)])] [(8, regs.map vu64), (1, [(vu64 pc)])] [(8, cr.map vu64), (1, [(vu64 cpc)])] [(1, [(.bool run)]), (1, [(vi wt)])] (ys := flat [(8, cr.map vu64), (1, [(vu64 cpc)])]) h_22 rfl rfl Try.sizeOf25 At.h (by decide) rfl rfl rfl rfl rfl rfl (SsOk.cons (SOk.u64 hcr) (SsOk.cons (SOk.v rfl) SsOk.nil)) (fun w_23 h_24 => ?_)
  refine WL.nil ?_
  refine thn_n ?_
  refine WP.seq ?_
  refine WP.reg ?_
  refine WL.q (Wn.no rfl) rfl rfl (R.buildA (vs := [(0, (vi 0)), (1, (vi 0)), (2, (vi 1)), (3, (vi 2)), (4, (vi 0)), (5, (vi 3))]) (cs := ([0, 0, 1, 2, 0, 3] : List Int).map vi64) Try.underlying42 Try.sizeOf26 (zv Try.typeInfo42 rfl) rfl rfl) ?_
  refine WL.q (Wn.no rfl) rfl rfl (R.fieldAddr (b := b_7) (off := 0) (off' := 0) rfl Try.underlying40 rfl Try.sizeOf38 rfl rfl) ?_
  refine WL.q (Wn.no rfl) rfl rfl (R.load1 (b := b_7) (off := 0) (v := (vi 3)) rfl Try.isAgg38 (h_24.ok _ (.tail _ (.tail _ (.head _)))) Sg.h) ?_
  refine WL.q (Wn.no rfl) rfl rfl (R.indexV (i := 3) (cs := ([0, 0, 1, 2, 0, 3] : List Int).map vi64) (v := (vi 2)) rfl rfl rfl (by decide) Try.underlying42 Try.isAgg26 Try.sizeOf26 (get_i64 (lt_len rfl (by decide)))) ?_
  refine WL.q (Wn.no rfl) rfl rfl (R.fieldAddr (b := b_18) (off := 0) (off' := 12) rfl Try.underlying28 rfl Try.sizeOf26 rfl rfl) ?_
  refine WL.store1 (b := b_18) (off := 12) (v := (vi 2)) h_24 rfl rfl Try.sizeOf26 rfl At.h (by decide) (Sg.t rfl (Sg.t rfl (Sg.t rfl (Sg.t rfl (Sg.t rfl Sg.h))))) (fun w_25 h_26 => ?_)
  refine WL.nil ?_
  refine thn_n ?_
  refine WP.seq ?_
  refine WP.reg ?_
  refine WL.q (Wn.no rfl) rfl rfl (R.move (v := (vi 0)) rfl) ?_
  refine WL.q (Wn.no rfl) rfl rfl (R.bin (v := (.bool true)) rfl rfl (bi_eql (r := true) (by decide))) ?_
  refine WL.q (Wn.no rfl) rfl rfl (R.move (v := (.bool true)) rfl) ?_
  refine WL.want rfl rfl ?_
  refine WL.q (Wn.no rfl) rfl rfl (R.loadA (b := b_13) (off := 0) [] [(1, [(vi rd)]), (1, [(vu64 ins)]), (8, cr.map vu64), (1, [(vu64 cpc)]), (1, [(.bool run)]), (1, [(vi 2)])] [] (cs := flat [(1, [(vi rd)]), (1, [(vu64 ins)]), (8, cr.map vu64), (1, [(vu64 cpc)]), (1, [(.bool run)]), (1, [(vi 2)])]) rfl Try.isAgg28 Try.sizeOf28 (h_26.ok _ (.tail _ (.head _))) rfl rfl rfl rfl) ?_
  refine WL.want rfl rfl ?_
  refine WL.q (Wn.no rfl) rfl rfl (R.loadA (b := b_18) (off := 0) [] [(1, [(vi rd)]), (1, [(vu64 ins)]), (8, cr.map vu64), (1, [(vu64 cpc)]), (1, [(.bool run)]), (1, [(vi 2)])] [] (cs := flat [(1, [(vi rd)]), (1, [(vu64 ins)]), (8, cr.map vu64), (1, [(vu64 cpc)]), (1, [(.bool run)]), (1, [(vi 2)])]) rfl Try.isAgg28 Try.sizeOf28 (h_26.ok _ (.head _)) rfl rfl rfl rfl) ?_
  refine WL.want rfl rfl ?_
  refine WL.q (Wn.no rfl) rfl rfl (R.eqA (xs := flat [(1, [(vi rd)]), (1, [(vu64 ins)]), (8, cr.map vu64), (1, [(vu64 cpc)]), (1, [(.bool run)]), (1, [(vi 2)])]) (ys := flat [(1, [(vi rd)]), (1, [(vu64 ins)]), (8, cr.map vu64), (1, [(vu64 cpc)]), (1, [(.bool run)]), (1, [(vi 2)])]) (r := true) rfl rfl Try.eqGuardType28 kt28 (by decide) ag28 (Typ.struct (h := 3) (r := [(1, [(vi rd)]), (1, [(vu64 ins)]), (9, flat [(8, cr.map vu64), (1, [(vu64 cpc)])]), (1, [(.bool run)]), (1, [(vi 2)])]) (cs := flat [(1, [(vi rd)]), (1, [(vu64 ins)]), (8, cr.map vu64), (1, [(vu64 cpc)]), (1, [(.bool run)]), (1, [(vi 2)])]) Try.underlying28 (TypF.cons (k := 1) rfl rfl (by decide) rfl (Typ.int Try.underlying3 ce3 (WalkArith.wf_i64 (by omega))) (TypF.cons (k := 1) rfl rfl (by decide) rfl (Typ.int Try.underlying22 ce22 (wfu64 ins)) (TypF.cons (k := 9) rfl rfl (by decide) ((SsOk.cons (SOk.u64 hcr) (SsOk.cons (SOk.v rfl) SsOk.nil))).len (Typ.struct (h := 2) (r := [(8, cr.map vu64), (1, [(vu64 cpc)])]) (cs := flat [(8, cr.map vu64), (1, [(vu64 cpc)])]) Try.underlying25 (TypF.cons (k := 8) rfl rfl (by decide) (len_map hcr) (Typ.u64s Try.underlying23 ce23 Try.underlying22 ce22 hcr) (TypF.cons (k := 1) rfl rfl (by decide) rfl (Typ.int Try.underlying22 ce22 (wfu64 cpc)) TypF.nil)) rfl (((SsOk.cons (SOk.u64 hcr) (SsOk.cons (SOk.v rfl) SsOk.nil))).len.trans ce25.symm)) (TypF.cons (k := 1) rfl rfl (by decide) rfl (Typ.bool Try.underlying4 ce4) (TypF.cons (k := 1) rfl rfl (by decide) rfl (Typ.int Try.underlying26 ce26 (by decide)) TypF.nil))))) (by simp [flat]) (((SsOk.cons (SOk.v rfl) (SsOk.cons (SOk.v rfl) (SsOk.cons (SOk.u64 hcr) (SsOk.cons (SOk.v rfl) (SsOk.cons (SOk.v rfl) (SsOk.cons (SOk.v rfl) SsOk.nil))))))).len.trans ce28.symm)) (Typ.struct (h := 3) (r := [(1, [(vi rd)]), (1, [(vu64 ins)]), (9, flat [(8, cr.map vu64), (1, [(vu64 cpc)])]), (1, [(.bool run)]), (1, [(vi 2)])]) (cs := flat [(1, [(vi rd)]), (1, [(vu64 ins)]), (8, cr.map vu64), (1, [(vu64 cpc)]), (1, [(.bool run)]), (1, [(vi 2)])]) Try.underlying28 (TypF.cons (k := 1) rfl rfl (by decide) rfl (Typ.int Try.underlying3 ce3 (WalkArith.wf_i64 (by omega))) (TypF.cons (k := 1) rfl rfl (by decide) rfl (Typ.int Try.underlying22 ce22 (wfu64 ins)) (TypF.cons (k := 9) rfl rfl (by decide) ((SsOk.cons (SOk.u64 hcr) (SsOk.cons (SOk.v rfl) SsOk.nil))).len (Typ.struct (h := 2) (r := [(8, cr.map vu64), (1, [(vu64 cpc)])]) (cs := flat [(8, cr.map vu64), (1, [(vu64 cpc)])]) Try.underlying25 (TypF.cons (k := 8) rfl rfl (by decide) (len_map hcr) (Typ.u64s Try.underlying23 ce23 Try.underlying22 ce22 hcr) (TypF.cons (k := 1) rfl rfl (by decide) rfl (Typ.int Try.underlying22 ce22 (wfu64 cpc)) TypF.nil)) rfl (((SsOk.cons (SOk.u64 hcr) (SsOk.cons (SOk.v rfl) SsOk.nil))).len.trans ce25.symm)) (TypF.cons (k := 1) rfl rfl (by decide) rfl (Typ.bool Try.underlying4 ce4) (TypF.cons (k := 1) rfl rfl (by decide) rfl (Typ.int Try.underlying26 ce26 (by decide)) TypF.nil))))) (by simp [flat]) (((SsOk.cons (SOk.v rfl) (SsOk.cons (SOk.v rfl) (SsOk.cons (SOk.u64 hcr) (SsOk.cons (SOk.v rfl) (SsOk.cons (SOk.v rfl) (SsOk.cons (SOk.v rfl) SsOk.nil))))))).len.trans ce28.symm)) (eqT rfl)) ?_
  refine WL.q (Wn.no rfl) rfl rfl (R.pickT (v := (.bool true)) rfl rfl) ?_
  refine WL.q (Wn.no rfl) rfl rfl (R.move (v := (.bool true)) rfl) ?_
  refine WL.want rfl rfl ?_
  refine WL.call (al := []) Try.call15 rfl rfl (c_known14  _) rfl ?_
  rintro _ w_28 ⟨rfl, hc_27⟩
  have h_29 := h_26.same hc_27
  refine WL.q (Wn.no rfl) rfl rfl (R.pickT (v := (.bool true)) rfl rfl) ?_
  refine WL.q (Wn.no rfl) rfl rfl (R.assign (v := (.bool true)) rfl) ?_
  refine WL.nil ?_
  refine thn_n ?_
  refine WP.ret ?_
  refine ret_of Try.results4 (RV.tmp (v := (.bool true)) rfl RV.nil) ?_
  exact ⟨rfl, h_29.chgS⟩

theorem w_RecLeaves_4 (rd : Int) (ins : UInt64) (regs : List UInt64) (hr : regs.length = 8) (pc : UInt64) (run : Bool) (wt : Int) (cr : List UInt64) (hcr : cr.length = 8) (cpc : UInt64) (ors : List UInt64) (hor : ors.length = 4) (adr : UInt64) (wr : Bool) (ran : Int) (b_rd : -9223372036854775808 ≤ rd ∧ rd < 9223372036854775808) (b_wt : -9223372036854775808 ≤ wt ∧ wt < 9223372036854775808) (h0 : 0 ≤ ran) (w : World) :
    Cs Try.prog 4 [(.agg ⟨flat [(1, [(vi rd)]), (1, [(vu64 ins)]), (8, regs.map vu64), (1, [(vu64 pc)]), (1, [(.bool run)]), (1, [(vi wt)])]⟩), (.agg ⟨flat [(8, cr.map vu64), (1, [(vu64 cpc)])]⟩), (.agg ⟨flat [(1, [(vi 4)]), (4, ors.map vu64), (1, [(vu64 adr)]), (1, [(.bool wr)]), (1, [(vi ran)])]⟩)].toArray w (fun v w1 => v = .bool true ∧ Chg w w1 []) := by
  refine Cs.of (n := 58) (args := [(.agg ⟨flat [(1, [(vi rd)]), (1, [(vu64 ins)]), (8, regs.map vu64), (1, [(vu64 pc)]), (1, [(.bool run)]), (1, [(vi wt)])]⟩), (.agg ⟨flat [(8, cr.map vu64), (1, [(vu64 cpc)])]⟩), (.agg ⟨flat [(1, [(vi 4)]), (4, ors.map vu64), (1, [(vu64 adr)]), (1, [(.bool wr)]), (1, [(vi ran)])]⟩)]) Try.func4 rfl rfl rfl ?_
  have h_0 := HP.init w
  refine WP.seq ?_
  refine WP.reg ?_
  refine WL.box (v := (.agg ⟨flat [(1, [(vi rd)]), (1, [(vu64 ins)]), (8, regs.map vu64), (1, [(vu64 pc)]), (1, [(.bool run)]), (1, [(vi wt)])]⟩)) (segs := [(1, [(vi rd)]), (1, [(vu64 ins)]), (8, regs.map vu64), (1, [(vu64 pc)]), (1, [(.bool run)]), (1, [(vi wt)])]) h_0 rfl rfl (SsOk.cons (SOk.v rfl) (SsOk.cons (SOk.v rfl) (SsOk.cons (SOk.u64 hr) (SsOk.cons (SOk.v rfl) (SsOk.cons (SOk.v rfl) (SsOk.cons (SOk.v rfl) SsOk.nil)))))) rfl (fun b_1 w_2 h_3 => ?_)
  refine WL.box (v := (.agg ⟨flat [(8, cr.map vu64), (1, [(vu64 cpc)])]⟩)) (segs := [(8, cr.map vu64), (1, [(vu64 cpc)])]) h_3 rfl rfl (SsOk.cons (SOk.u64 hcr) (SsOk.cons (SOk.v rfl) SsOk.nil)) rfl (fun b_4 w_5 h_6 => ?_)
  refine WL.box (v := (.agg ⟨flat [(1, [(vi 4)]), (4, ors.map vu64), (1, [(vu64 adr)]), (1, [(.bool wr)]), (1, [(vi ran)])]⟩)) (segs := [(1, [(vi 4)]), (4, ors.map vu64), (1, [(vu64 adr)]), (1, [(.bool wr)]), (1, [(vi ran)])]) h_6 rfl rfl (SsOk.cons (SOk.v rfl) (SsOk.cons (SOk.u64 hor) (SsOk.cons (SOk.v rfl) (SsOk.cons (SOk.v rfl) (SsOk.cons (SOk.v rfl) SsOk.nil))))) rfl (fun b_7 w_8 h_9 => ?_)
  refine WL.q (Wn.no rfl) rfl rfl (R.assign (v := (.bool false)) rfl) ?_
  refine WL.nil ?_
  refine thn_n ?_
  refine WP.seq ?_
  refine WP.reg ?_
  refine WL.q (Wn.no rfl) rfl rfl (R.loadA (b := b_1) (off := 0) [] [(1, [(vi rd)]), (1, [(vu64 ins)]), (8, regs.map vu64), (1, [(vu64 pc)]), (1, [(.bool run)]), (1, [(vi wt)])] [] (cs := flat [(1, [(vi rd)]), (1, [(vu64 ins)]), (8, regs.map vu64), (1, [(vu64 pc)]), (1, [(.bool run)]), (1, [(vi wt)])]) rfl Try.isAgg28 Try.sizeOf28 (h_9.ok _ (.tail _ (.tail _ (.head _)))) rfl rfl rfl rfl) ?_
  refine WL.q (Wn.no rfl) rfl rfl (R.loadA (b := b_4) (off := 0) [] [(8, cr.map vu64), (1, [(vu64 cpc)])] [] (cs := flat [(8, cr.map vu64), (1, [(vu64 cpc)])]) rfl Try.isAgg25 Try.sizeOf25 (h_9.ok _ (.tail _ (.head _))) rfl rfl rfl rfl) ?_
  refine WL.q (Wn.no rfl) rfl rfl (R.loadA (b := b_7) (off := 0) [] [(1, [(vi 4)]), (4, ors.map vu64), (1, [(vu64 adr)]), (1, [(.bool wr)]), (1, [(vi ran)])] [] (cs := flat [(1, [(vi 4)]), (4, ors.map vu64), (1, [(vu64 adr)]), (1, [(.bool wr)]), (1, [(vi ran)])]) rfl Try.isAgg40 Try.sizeOf40 (h_9.ok _ (.head _)) rfl rfl rfl rfl) ?_
  refine WL.call (al := [(.agg ⟨flat [(1, [(vi rd)]), (1, [(vu64 ins)]), (8, regs.map vu64), (1, [(vu64 pc)]), (1, [(.bool run)]), (1, [(vi wt)])]⟩), (.agg ⟨flat [(8, cr.map vu64), (1, [(vu64 cpc)])]⟩), (.agg ⟨flat [(1, [(vi 4)]), (4, ors.map vu64), (1, [(vu64 adr)]), (1, [(.bool wr)]), (1, [(vi ran)])]⟩)]) Try.call16 rfl rfl (c_Leave rd ins regs hr pc run wt cr hcr cpc 4 ors hor adr wr ran (by decide) (by decide) h0 _) rfl ?_
  rintro _ w_11 ⟨rfl, hc_10⟩
  have h_12 := h_9.same hc_10
  refine WL.q (Wn.no rfl) rfl rfl (R.move (v := (.tuple [(.agg ⟨flat [(1, [(vi rd)]), (1, [(vu64 ins)]), (8, cr.map vu64), (1, [(vu64 cpc)]), (1, [(.bool run)]), (1, [(vi 0)])]⟩), (vi 0)].toArray)) rfl) ?_
  refine WL.q (Wn.no rfl) rfl rfl (R.extract (l := [(.agg ⟨flat [(1, [(vi rd)]), (1, [(vu64 ins)]), (8, cr.map vu64), (1, [(vu64 cpc)]), (1, [(.bool run)]), (1, [(vi 0)])]⟩), (vi 0)]) (v := (.agg ⟨flat [(1, [(vi rd)]), (1, [(vu64 ins)]), (8, cr.map vu64), (1, [(vu64 cpc)]), (1, [(.bool run)]), (1, [(vi 0)])]⟩)) rfl rfl) ?_
  refine WL.q (Wn.no rfl) rfl rfl (R.extract (l := [(.agg ⟨flat [(1, [(vi rd)]), (1, [(vu64 ins)]), (8, cr.map vu64), (1, [(vu64 cpc)]), (1, [(.bool run)]), (1, [(vi 0)])]⟩), (vi 0)]) (v := (vi 0)) rfl rfl) ?_
  refine WL.alloc (segs := [(1, [(vi 0)]), (1, [(vu64 0)]), (8, (List.replicate 8 (0 : UInt64)).map vu64), (1, [(vu64 0)]), (1, [(.bool false)]), (1, [(vi 0)])]) h_12 (zv Try.typeInfo28 rfl) rfl (SsOk.cons (SOk.v rfl) (SsOk.cons (SOk.v rfl) (SsOk.cons (SOk.u64 (List.length_replicate ..)) (SsOk.cons (SOk.v rfl) (SsOk.cons (SOk.v rfl) (SsOk.cons (SOk.v rfl) SsOk.nil)))))) rfl (fun b_13 w_14 h_15 => ?_)
  refine WL.storeA (b := b_13) (off := 0) [] [(1, [(vi 0)]), (1, [(vu64 0)]), (8, (List.replicate 8 (0 : UInt64)).map vu64), (1, [(vu64 0)]), (1, [(.bool false)]), (1, [(vi 0)])] [(1, [(vi rd)]), (1, [(vu64 ins)]), (8, cr.map vu64), (1, [(vu64 cpc)]), (1, [(.bool run)]), (1, [(vi 0)])] [] (ys := flat [(1, [(vi rd)]), (1, [(vu64 ins)]), (8, cr.map vu64), (1, [(vu64 cpc)]), (1, [(.bool run)]), (1, [(vi 0)])]) h_15 rfl rfl Try.sizeOf28 At.h (by decide) rfl rfl rfl rfl rfl rfl (SsOk.cons (SOk.v rfl) (SsOk.cons (SOk.v rfl) (SsOk.cons (SOk.u64 hcr) (SsOk.cons (SOk.v rfl) (SsOk.cons (SOk.v rfl) (SsOk.cons (SOk.v rfl) SsOk.nil)))))) (fun w_16 h_17 => ?_)
  refine WL.q (Wn.no rfl) rfl rfl (R.assign (v := (vi 0)) rfl) ?_
  refine WL.nil ?_
  refine thn_n ?_
  refine WP.seq ?_
  refine WP.seq ?_
  refine WP.reg ?_
  refine WL.q (Wn.no rfl) rfl rfl (R.fieldAddr (b := b_7) (off := 0) (off' := 0) rfl Try.underlying40 rfl Try.sizeOf38 rfl rfl) ?_
  refine WL.q (Wn.no rfl) rfl rfl (R.load1 (b := b_7) (off := 0) (v := (vi 4)) rfl Try.isAgg38 (h_17.ok _ (.tail _ (.head _))) Sg.h) ?_
  refine WL.q (Wn.no rfl) rfl rfl (R.bin (v := (.bool false)) rfl rfl (bi_lss (r := false) (by decide))) ?_
  refine WL.q (Wn.no rfl) rfl rfl (R.move (v := (.bool false)) rfl) ?_
  refine WL.want rfl rfl ?_
  refine WL.q (Wn.no rfl) rfl rfl (R.fieldAddr (b := b_7) (off := 0) (off' := 0) rfl Try.underlying40 rfl Try.sizeOf38 rfl rfl) ?_
  refine WL.want rfl rfl ?_
  refine WL.q (Wn.no rfl) rfl rfl (R.load1 (b := b_7) (off := 0) (v := (vi 4)) rfl Try.isAgg38 (h_17.ok _ (.tail _ (.head _))) Sg.h) ?_
  refine WL.want rfl rfl ?_
  refine WL.q (Wn.no rfl) rfl rfl (R.bin (v := (.bool false)) rfl rfl (bi_gtr (r := false) (by decide))) ?_
  refine WL.q (Wn.no rfl) rfl rfl (R.pickF (v := (.bool false)) rfl rfl) ?_
  refine WL.q (Wn.no rfl) rfl rfl (R.move (v := (.bool false)) rfl) ?_
  refine WL.want rfl rfl ?_
  refine WL.q (Wn.no rfl) rfl rfl (R.fieldAddr (b := b_7) (off := 0) (off' := 7) rfl Try.underlying40 rfl Try.sizeOf3 rfl rfl) ?_
  refine WL.want rfl rfl ?_
  refine WL.q (Wn.no rfl) rfl rfl (R.load1 (b := b_7) (off := 7) (v := (vi ran)) rfl Try.isAgg3 (h_17.ok _ (.tail _ (.head _))) (Sg.t rfl (Sg.t rfl (Sg.t rfl (Sg.t rfl Sg.h))))) ?_
  refine WL.want rfl rfl ?_
  refine WL.q (Wn.no rfl) rfl rfl (R.bin (v := (.bool (decide ((ran : Int) < 0)))) rfl rfl (bi_lss (r := decide ((ran : Int) < 0)) rfl)) ?_
  refine WL.q (Wn.no rfl) rfl rfl (R.pickF (v := (.bool (decide ((ran : Int) < 0)))) rfl rfl) ?_
  refine WL.nil ?_
  refine thn_n ?_
  refine WP.condF (congrArg Value.bool (decide_eq_false (by omega))) ?_
  refine WP.skip ?_
  refine thn_n ?_
  refine WP.seq ?_
  refine WP.reg ?_
  refine WL.q (Wn.no rfl) rfl rfl (R.loadA (b := b_1) (off := 0) [] [(1, [(vi rd)]), (1, [(vu64 ins)]), (8, regs.map vu64), (1, [(vu64 pc)]), (1, [(.bool run)]), (1, [(vi wt)])] [] (cs := flat [(1, [(vi rd)]), (1, [(vu64 ins)]), (8, regs.map vu64), (1, [(vu64 pc)]), (1, [(.bool run)]), (1, [(vi wt)])]) rfl Try.isAgg28 Try.sizeOf28 (h_17.ok _ (.tail _ (.tail _ (.tail _ (.head _))))) rfl rfl rfl rfl) ?_
  refine WL.alloc (segs := [(1, [(vi 0)]), (1, [(vu64 0)]), (8, (List.replicate 8 (0 : UInt64)).map vu64), (1, [(vu64 0)]), (1, [(.bool false)]), (1, [(vi 0)])]) h_17 (zv Try.typeInfo28 rfl) rfl (SsOk.cons (SOk.v rfl) (SsOk.cons (SOk.v rfl) (SsOk.cons (SOk.u64 (List.length_replicate ..)) (SsOk.cons (SOk.v rfl) (SsOk.cons (SOk.v rfl) (SsOk.cons (SOk.v rfl) SsOk.nil)))))) rfl (fun b_18 w_19 h_20 => ?_)
  refine WL.storeA (b := b_18) (off := 0) [] [(1, [(vi 0)]), (1, [(vu64 0)]), (8, (List.replicate 8 (0 : UInt64)).map vu64), (1, [(vu64 0)]), (1, [(.bool false)]), (1, [(vi 0)])] [(1, [(vi rd)]), (1, [(vu64 ins)]), (8, regs.map vu64), (1, [(vu64 pc)]), (1, [(.bool run)]), (1, [(vi wt)])] [] (ys := flat [(1, [(vi rd)]), (1, [(vu64 ins)]), (8, regs.map vu64), (1, [(vu64 pc)]), (1, [(.bool run)]), (1, [(vi wt)])]) h_20 rfl rfl Try.sizeOf28 At.h (by decide) rfl rfl rfl rfl rfl rfl (SsOk.cons (SOk.v rfl) (SsOk.cons (SOk.v rfl) (SsOk.cons (SOk.u64 hr) (SsOk.cons (SOk.v rfl) (SsOk.cons (SOk.v rfl) (SsOk.cons (SOk.v rfl) SsOk.nil)))))) (fun w_21 h_22 => ?_)
  refine WL.nil ?_
  refine thn_n ?_
  refine WP.seq ?_
  refine WP.reg ?_
  refine WL.q (Wn.no rfl) rfl rfl (R.loadA (b := b_4) (off := 0) [] [(8, cr.map vu64), (1, [(vu64 cpc)])] [] (cs := flat [(8, cr.map vu64), (1, [(vu64 cpc)])]) rfl Try.isAgg25 Try.sizeOf25 (h_22.ok _ (.tail _ (.tail _ (.tail _ (.head _))))) rfl rfl rfl rfl) ?_
  refine WL.q (Wn.no rfl) rfl rfl (R.fieldAddr (b := b_18) (off := 0) (off' := 2) rfl Try.underlying28 rfl Try.sizeOf25 rfl rfl) ?_
  refine WL.storeA (b := b_18) (off := 2) [(1, [(vi rd)]), (1, [(vu64 ins)])] [(8, regs.map vu64), (1, [(vu64 pc)])] [(8, cr.map vu64), (1, [(vu64 cpc)])] [(1, [(.bool run)]), (1, [(vi wt)])] (ys := flat [(8, cr.map vu64), (1, [(vu64 cpc)])]) h_22 rfl rfl Try.sizeOf25 At.h (by decide) rfl rfl rfl rfl rfl rfl (SsOk.cons (SOk.u64 hcr) (SsOk.cons (SOk.v rfl) SsOk.nil)) (fun w_23 h_24 => ?_)
  refine WL.nil ?_
  refine thn_n ?_
  refine WP.seq ?_
  refine WP.reg ?_
  refine WL.q (Wn.no rfl) rfl rfl (R.buildA (vs := [(0, (vi 0)), (1, (vi 0)), (2, (vi 1)), (3, (vi 2)), (4, (vi 0)), (5, (vi 3))]) (cs := ([0, 0, 1, 2, 0, 3] : List Int).map vi64) Try.underlying42 Try.sizeOf26 (zv Try.typeInfo42 rfl) rfl rfl) ?_
  refine WL.q (Wn.no rfl) rfl rfl (R.fieldAddr (b := b_7) (off := 0) (off' := 0) rfl Try.underlying40 rfl Try.sizeOf38 rfl rfl) ?_
  refine WL.q (Wn.no rfl) rfl rfl (R.load1 (b := b_7) (off := 0) (v := (vi 4)) rfl Try.isAgg38 (h_24.ok _ (.tail _ (.tail _ (.head _)))) Sg.h) ?_
  refine WL.q (Wn.no rfl) rfl rfl (R.indexV (i := 4) (cs := ([0, 0, 1, 2, 0, 3] : List Int).map vi64) (v := (vi 0)) rfl rfl rfl (by decide) Try.underlying42 Try.isAgg26 Try.sizeOf26 (get_i64 (lt_len rfl (by decide)))) ?_
  refine WL.q (Wn.no rfl) rfl rfl (R.fieldAddr (b := b_18) (off := 0) (off' := 12) rfl Try.underlying28 rfl Try.sizeOf26 rfl rfl) ?_
  refine WL.store1 (b := b_18) (off := 12) (v := (vi 0)) h_24 rfl rfl Try.sizeOf26 rfl At.h (by decide) (Sg.t rfl (Sg.t rfl (Sg.t rfl (Sg.t rfl (Sg.t rfl Sg.h))))) (fun w_25 h_26 => ?_)
  refine WL.nil ?_
  refine thn_n ?_
  refine WP.seq ?_
  refine WP.reg ?_
  refine WL.q (Wn.no rfl) rfl rfl (R.move (v := (vi 0)) rfl) ?_
  refine WL.q (Wn.no rfl) rfl rfl (R.bin (v := (.bool true)) rfl rfl (bi_eql (r := true) (by decide))) ?_
  refine WL.q (Wn.no rfl) rfl rfl (R.move (v := (.bool true)) rfl) ?_
  refine WL.want rfl rfl ?_
  refine WL.q (Wn.no rfl) rfl rfl (R.loadA (b := b_13) (off := 0) [] [(1, [(vi rd)]), (1, [(vu64 ins)]), (8, cr.map vu64), (1, [(vu64 cpc)]), (1, [(.bool run)]), (1, [(vi 0)])] [] (cs := flat [(1, [(vi rd)]), (1, [(vu64 ins)]), (8, cr.map vu64), (1, [(vu64 cpc)]), (1, [(.bool run)]), (1, [(vi 0)])]) rfl Try.isAgg28 Try.sizeOf28 (h_26.ok _ (.tail _ (.head _))) rfl rfl rfl rfl) ?_
  refine WL.want rfl rfl ?_
  refine WL.q (Wn.no rfl) rfl rfl (R.loadA (b := b_18) (off := 0) [] [(1, [(vi rd)]), (1, [(vu64 ins)]), (8, cr.map vu64), (1, [(vu64 cpc)]), (1, [(.bool run)]), (1, [(vi 0)])] [] (cs := flat [(1, [(vi rd)]), (1, [(vu64 ins)]), (8, cr.map vu64), (1, [(vu64 cpc)]), (1, [(.bool run)]), (1, [(vi 0)])]) rfl Try.isAgg28 Try.sizeOf28 (h_26.ok _ (.head _)) rfl rfl rfl rfl) ?_
  refine WL.want rfl rfl ?_
  refine WL.q (Wn.no rfl) rfl rfl (R.eqA (xs := flat [(1, [(vi rd)]), (1, [(vu64 ins)]), (8, cr.map vu64), (1, [(vu64 cpc)]), (1, [(.bool run)]), (1, [(vi 0)])]) (ys := flat [(1, [(vi rd)]), (1, [(vu64 ins)]), (8, cr.map vu64), (1, [(vu64 cpc)]), (1, [(.bool run)]), (1, [(vi 0)])]) (r := true) rfl rfl Try.eqGuardType28 kt28 (by decide) ag28 (Typ.struct (h := 3) (r := [(1, [(vi rd)]), (1, [(vu64 ins)]), (9, flat [(8, cr.map vu64), (1, [(vu64 cpc)])]), (1, [(.bool run)]), (1, [(vi 0)])]) (cs := flat [(1, [(vi rd)]), (1, [(vu64 ins)]), (8, cr.map vu64), (1, [(vu64 cpc)]), (1, [(.bool run)]), (1, [(vi 0)])]) Try.underlying28 (TypF.cons (k := 1) rfl rfl (by decide) rfl (Typ.int Try.underlying3 ce3 (WalkArith.wf_i64 (by omega))) (TypF.cons (k := 1) rfl rfl (by decide) rfl (Typ.int Try.underlying22 ce22 (wfu64 ins)) (TypF.cons (k := 9) rfl rfl (by decide) ((SsOk.cons (SOk.u64 hcr) (SsOk.cons (SOk.v rfl) SsOk.nil))).len (Typ.struct (h := 2) (r := [(8, cr.map vu64), (1, [(vu64 cpc)])]) (cs := flat [(8, cr.map vu64), (1, [(vu64 cpc)])]) Try.underlying25 (TypF.cons (k := 8) rfl rfl (by decide) (len_map hcr) (Typ.u64s Try.underlying23 ce23 Try.underlying22 ce22 hcr) (TypF.cons (k := 1) rfl rfl (by decide) rfl (Typ.int Try.underlying22 ce22 (wfu64 cpc)) TypF.nil)) rfl (((SsOk.cons (SOk.u64 hcr) (SsOk.cons (SOk.v rfl) SsOk.nil))).len.trans ce25.symm)) (TypF.cons (k := 1) rfl rfl (by decide) rfl (Typ.bool Try.underlying4 ce4) (TypF.cons (k := 1) rfl rfl (by decide) rfl (Typ.int Try.underlying26 ce26 (by decide)) TypF.nil))))) (by simp [flat]) (((SsOk.cons (SOk.v rfl) (SsOk.cons (SOk.v rfl) (SsOk.cons (SOk.u64 hcr) (SsOk.cons (SOk.v rfl) (SsOk.cons (SOk.v rfl) (SsOk.cons (SOk.v rfl) SsOk.nil))))))).len.trans ce28.symm)) (Typ.struct (h := 3) (r := [(1, [(vi rd)]), (1, [(vu64 ins)]), (9, flat [(8, cr.map vu64), (1, [(vu64 cpc)])]), (1, [(.bool run)]), (1, [(vi 0)])]) (cs := flat [(1, [(vi rd)]), (1, [(vu64 ins)]), (8, cr.map vu64), (1, [(vu64 cpc)]), (1, [(.bool run)]), (1, [(vi 0)])]) Try.underlying28 (TypF.cons (k := 1) rfl rfl (by decide) rfl (Typ.int Try.underlying3 ce3 (WalkArith.wf_i64 (by omega))) (TypF.cons (k := 1) rfl rfl (by decide) rfl (Typ.int Try.underlying22 ce22 (wfu64 ins)) (TypF.cons (k := 9) rfl rfl (by decide) ((SsOk.cons (SOk.u64 hcr) (SsOk.cons (SOk.v rfl) SsOk.nil))).len (Typ.struct (h := 2) (r := [(8, cr.map vu64), (1, [(vu64 cpc)])]) (cs := flat [(8, cr.map vu64), (1, [(vu64 cpc)])]) Try.underlying25 (TypF.cons (k := 8) rfl rfl (by decide) (len_map hcr) (Typ.u64s Try.underlying23 ce23 Try.underlying22 ce22 hcr) (TypF.cons (k := 1) rfl rfl (by decide) rfl (Typ.int Try.underlying22 ce22 (wfu64 cpc)) TypF.nil)) rfl (((SsOk.cons (SOk.u64 hcr) (SsOk.cons (SOk.v rfl) SsOk.nil))).len.trans ce25.symm)) (TypF.cons (k := 1) rfl rfl (by decide) rfl (Typ.bool Try.underlying4 ce4) (TypF.cons (k := 1) rfl rfl (by decide) rfl (Typ.int Try.underlying26 ce26 (by decide)) TypF.nil))))) (by simp [flat]) (((SsOk.cons (SOk.v rfl) (SsOk.cons (SOk.v rfl) (SsOk.cons (SOk.u64 hcr) (SsOk.cons (SOk.v rfl) (SsOk.cons (SOk.v rfl) (SsOk.cons (SOk.v rfl) SsOk.nil))))))).len.trans ce28.symm)) (eqT rfl)) ?_
  refine WL.q (Wn.no rfl) rfl rfl (R.pickT (v := (.bool true)) rfl rfl) ?_
  refine WL.q (Wn.no rfl) rfl rfl (R.move (v := (.bool true)) rfl) ?_
  refine WL.want rfl rfl ?_
  refine WL.call (al := []) Try.call15 rfl rfl (c_known14  _) rfl ?_
  rintro _ w_28 ⟨rfl, hc_27⟩
  have h_29 := h_26.same hc_27
  refine WL.q (Wn.no rfl) rfl rfl (R.pickT (v := (.bool true)) rfl rfl) ?_
  refine WL.q (Wn.no rfl) rfl rfl (R.assign (v := (.bool true)) rfl) ?_
  refine WL.nil ?_
  refine thn_n ?_
  refine WP.ret ?_
  refine ret_of Try.results4 (RV.tmp (v := (.bool true)) rfl RV.nil) ?_
  exact ⟨rfl, h_29.chgS⟩

theorem w_RecLeaves_5 (rd : Int) (ins : UInt64) (regs : List UInt64) (hr : regs.length = 8) (pc : UInt64) (run : Bool) (wt : Int) (cr : List UInt64) (hcr : cr.length = 8) (cpc : UInt64) (ors : List UInt64) (hor : ors.length = 4) (adr : UInt64) (wr : Bool) (ran : Int) (b_rd : -9223372036854775808 ≤ rd ∧ rd < 9223372036854775808) (b_wt : -9223372036854775808 ≤ wt ∧ wt < 9223372036854775808) (h0 : 0 ≤ ran) (w : World) :
    Cs Try.prog 4 [(.agg ⟨flat [(1, [(vi rd)]), (1, [(vu64 ins)]), (8, regs.map vu64), (1, [(vu64 pc)]), (1, [(.bool run)]), (1, [(vi wt)])]⟩), (.agg ⟨flat [(8, cr.map vu64), (1, [(vu64 cpc)])]⟩), (.agg ⟨flat [(1, [(vi 5)]), (4, ors.map vu64), (1, [(vu64 adr)]), (1, [(.bool wr)]), (1, [(vi ran)])]⟩)].toArray w (fun v w1 => v = .bool true ∧ Chg w w1 []) := by
  refine Cs.of (n := 58) (args := [(.agg ⟨flat [(1, [(vi rd)]), (1, [(vu64 ins)]), (8, regs.map vu64), (1, [(vu64 pc)]), (1, [(.bool run)]), (1, [(vi wt)])]⟩), (.agg ⟨flat [(8, cr.map vu64), (1, [(vu64 cpc)])]⟩), (.agg ⟨flat [(1, [(vi 5)]), (4, ors.map vu64), (1, [(vu64 adr)]), (1, [(.bool wr)]), (1, [(vi ran)])]⟩)]) Try.func4 rfl rfl rfl ?_
  have h_0 := HP.init w
  refine WP.seq ?_
  refine WP.reg ?_
  refine WL.box (v := (.agg ⟨flat [(1, [(vi rd)]), (1, [(vu64 ins)]), (8, regs.map vu64), (1, [(vu64 pc)]), (1, [(.bool run)]), (1, [(vi wt)])]⟩)) (segs := [(1, [(vi rd)]), (1, [(vu64 ins)]), (8, regs.map vu64), (1, [(vu64 pc)]), (1, [(.bool run)]), (1, [(vi wt)])]) h_0 rfl rfl (SsOk.cons (SOk.v rfl) (SsOk.cons (SOk.v rfl) (SsOk.cons (SOk.u64 hr) (SsOk.cons (SOk.v rfl) (SsOk.cons (SOk.v rfl) (SsOk.cons (SOk.v rfl) SsOk.nil)))))) rfl (fun b_1 w_2 h_3 => ?_)
  refine WL.box (v := (.agg ⟨flat [(8, cr.map vu64), (1, [(vu64 cpc)])]⟩)) (segs := [(8, cr.map vu64), (1, [(vu64 cpc)])]) h_3 rfl rfl (SsOk.cons (SOk.u64 hcr) (SsOk.cons (SOk.v rfl) SsOk.nil)) rfl (fun b_4 w_5 h_6 => ?_)
  refine WL.box (v := (.agg ⟨flat [(1, [(vi 5)]), (4, ors.map vu64), (1, [(vu64 adr)]), (1, [(.bool wr)]), (1, [(vi ran)])]⟩)) (segs := [(1, [(vi 5)]), (4, ors.map vu64), (1, [(vu64 adr)]), (1, [(.bool wr)]), (1, [(vi ran)])]) h_6 rfl rfl (SsOk.cons (SOk.v rfl) (SsOk.cons (SOk.u64 hor) (SsOk.cons (SOk.v rfl) (SsOk.cons (SOk.v rfl) (SsOk.cons (SOk.v rfl) SsOk.nil))))) rfl (fun b_7 w_8 h_9 => ?_)
  refine WL.q (Wn.no rfl) rfl rfl (R.assign (v := (.bool false)) rfl) ?_
  refine WL.nil ?_
  refine thn_n ?_
  refine WP.seq ?_
  refine WP.reg ?_
  refine WL.q (Wn.no rfl) rfl rfl (R.loadA (b := b_1) (off := 0) [] [(1, [(vi rd)]), (1, [(vu64 ins)]), (8, regs.map vu64), (1, [(vu64 pc)]), (1, [(.bool run)]), (1, [(vi wt)])] [] (cs := flat [(1, [(vi rd)]), (1, [(vu64 ins)]), (8, regs.map vu64), (1, [(vu64 pc)]), (1, [(.bool run)]), (1, [(vi wt)])]) rfl Try.isAgg28 Try.sizeOf28 (h_9.ok _ (.tail _ (.tail _ (.head _)))) rfl rfl rfl rfl) ?_
  refine WL.q (Wn.no rfl) rfl rfl (R.loadA (b := b_4) (off := 0) [] [(8, cr.map vu64), (1, [(vu64 cpc)])] [] (cs := flat [(8, cr.map vu64), (1, [(vu64 cpc)])]) rfl Try.isAgg25 Try.sizeOf25 (h_9.ok _ (.tail _ (.head _))) rfl rfl rfl rfl) ?_
  refine WL.q (Wn.no rfl) rfl rfl (R.loadA (b := b_7) (off := 0) [] [(1, [(vi 5)]), (4, ors.map vu64), (1, [(vu64 adr)]), (1, [(.bool wr)]), (1, [(vi ran)])] [] (cs := flat [(1, [(vi 5)]), (4, ors.map vu64), (1, [(vu64 adr)]), (1, [(.bool wr)]), (1, [(vi ran)])]) rfl Try.isAgg40 Try.sizeOf40 (h_9.ok _ (.head _)) rfl rfl rfl rfl) ?_
  refine WL.call (al := [(.agg ⟨flat [(1, [(vi rd)]), (1, [(vu64 ins)]), (8, regs.map vu64), (1, [(vu64 pc)]), (1, [(.bool run)]), (1, [(vi wt)])]⟩), (.agg ⟨flat [(8, cr.map vu64), (1, [(vu64 cpc)])]⟩), (.agg ⟨flat [(1, [(vi 5)]), (4, ors.map vu64), (1, [(vu64 adr)]), (1, [(.bool wr)]), (1, [(vi ran)])]⟩)]) Try.call16 rfl rfl (c_Leave rd ins regs hr pc run wt cr hcr cpc 5 ors hor adr wr ran (by decide) (by decide) h0 _) rfl ?_
  rintro _ w_11 ⟨rfl, hc_10⟩
  have h_12 := h_9.same hc_10
  refine WL.q (Wn.no rfl) rfl rfl (R.move (v := (.tuple [(.agg ⟨flat [(1, [(vi rd)]), (1, [(vu64 ins)]), (8, cr.map vu64), (1, [(vu64 cpc)]), (1, [(.bool run)]), (1, [(vi 3)])]⟩), (vi 0)].toArray)) rfl) ?_
  refine WL.q (Wn.no rfl) rfl rfl (R.extract (l := [(.agg ⟨flat [(1, [(vi rd)]), (1, [(vu64 ins)]), (8, cr.map vu64), (1, [(vu64 cpc)]), (1, [(.bool run)]), (1, [(vi 3)])]⟩), (vi 0)]) (v := (.agg ⟨flat [(1, [(vi rd)]), (1, [(vu64 ins)]), (8, cr.map vu64), (1, [(vu64 cpc)]), (1, [(.bool run)]), (1, [(vi 3)])]⟩)) rfl rfl) ?_
  refine WL.q (Wn.no rfl) rfl rfl (R.extract (l := [(.agg ⟨flat [(1, [(vi rd)]), (1, [(vu64 ins)]), (8, cr.map vu64), (1, [(vu64 cpc)]), (1, [(.bool run)]), (1, [(vi 3)])]⟩), (vi 0)]) (v := (vi 0)) rfl rfl) ?_
  refine WL.alloc (segs := [(1, [(vi 0)]), (1, [(vu64 0)]), (8, (List.replicate 8 (0 : UInt64)).map vu64), (1, [(vu64 0)]), (1, [(.bool false)]), (1, [(vi 0)])]) h_12 (zv Try.typeInfo28 rfl) rfl (SsOk.cons (SOk.v rfl) (SsOk.cons (SOk.v rfl) (SsOk.cons (SOk.u64 (List.length_replicate ..)) (SsOk.cons (SOk.v rfl) (SsOk.cons (SOk.v rfl) (SsOk.cons (SOk.v rfl) SsOk.nil)))))) rfl (fun b_13 w_14 h_15 => ?_)
  refine WL.storeA (b := b_13) (off := 0) [] [(1, [(vi 0)]), (1, [(vu64 0)]), (8, (List.replicate 8 (0 : UInt64)).map vu64), (1, [(vu64 0)]), (1, [(.bool false)]), (1, [(vi 0)])] [(1, [(vi rd)]), (1, [(vu64 ins)]), (8, cr.map vu64), (1, [(vu64 cpc)]), (1, [(.bool run)]), (1, [(vi 3)])] [] (ys := flat [(1, [(vi rd)]), (1, [(vu64 ins)]), (8, cr.map vu64), (1, [(vu64 cpc)]), (1, [(.bool run)]), (1, [(vi 3)])]) h_15 rfl rfl Try.sizeOf28 At.h (by decide) rfl rfl rfl rfl rfl rfl (SsOk.cons (SOk.v rfl) (SsOk.cons (SOk.v rfl) (SsOk.cons (SOk.u64 hcr) (SsOk.cons (SOk.v rfl) (SsOk.cons (SOk.v rfl) (SsOk.cons (SOk.v rfl) SsOk.nil)))))) (fun w_16 h_17 => ?_)
  refine WL.q (Wn.no rfl) rfl rfl (R.assign (v := (vi 0)) rfl) ?_
  refine WL.nil ?_
  refine thn_n ?_
  refine WP.seq ?_
  refine WP.seq ?_
  refine WP.reg ?_
  refine WL.q (Wn.no rfl) rfl rfl (R.fieldAddr (b := b_7) (off := 0) (off' := 0) rfl Try.underlying40 rfl Try.sizeOf38 rfl rfl) ?_
  refine WL.q (Wn.no rfl) rfl rfl (R.load1 (b := b_7) (off := 0) (v := (vi 5)) rfl Try.isAgg38 (h_17.ok _ (.tail _ (.head _))) Sg.h) ?_
  refine WL.q (Wn.no rfl) rfl rfl (R.bin (v := (.bool false)) rfl rfl (bi_lss (r := false) (by decide))) ?_
  refine WL.q (Wn.no rfl) rfl rfl (R.move (v := (.bool false)) rfl) ?_
  refine WL.want rfl rfl ?_
  refine WL.q (Wn.no rfl) rfl rfl (R.fieldAddr (b := b_7) (off := 0) (off' := 0) rfl Try.underlying40 rfl Try.sizeOf38 rfl rfl) ?_
  refine WL.want rfl rfl ?_
  refine WL.q (Wn.no rfl) rfl rfl (R.load1 (b := b_7) (off := 0) (v := (vi 5)) rfl Try.isAgg38 (h_17.ok _ (.tail _ (.head _))) Sg.h) ?_
  refine WL.want rfl rfl ?_
  refine WL.q (Wn.no rfl) rfl rfl (R.bin (v := (.bool false)) rfl rfl (bi_gtr (r := false) (by decide))) ?_
  refine WL.q (Wn.no rfl) rfl rfl (R.pickF (v := (.bool false)) rfl rfl) ?_
  refine WL.q (Wn.no rfl) rfl rfl (R.move (v := (.bool false)) rfl) ?_
  refine WL.want rfl rfl ?_
  refine WL.q (Wn.no rfl) rfl rfl (R.fieldAddr (b := b_7) (off := 0) (off' := 7) rfl Try.underlying40 rfl Try.sizeOf3 rfl rfl) ?_
  refine WL.want rfl rfl ?_
  refine WL.q (Wn.no rfl) rfl rfl (R.load1 (b := b_7) (off := 7) (v := (vi ran)) rfl Try.isAgg3 (h_17.ok _ (.tail _ (.head _))) (Sg.t rfl (Sg.t rfl (Sg.t rfl (Sg.t rfl Sg.h))))) ?_
  refine WL.want rfl rfl ?_
  refine WL.q (Wn.no rfl) rfl rfl (R.bin (v := (.bool (decide ((ran : Int) < 0)))) rfl rfl (bi_lss (r := decide ((ran : Int) < 0)) rfl)) ?_
  refine WL.q (Wn.no rfl) rfl rfl (R.pickF (v := (.bool (decide ((ran : Int) < 0)))) rfl rfl) ?_
  refine WL.nil ?_
  refine thn_n ?_
  refine WP.condF (congrArg Value.bool (decide_eq_false (by omega))) ?_
  refine WP.skip ?_
  refine thn_n ?_
  refine WP.seq ?_
  refine WP.reg ?_
  refine WL.q (Wn.no rfl) rfl rfl (R.loadA (b := b_1) (off := 0) [] [(1, [(vi rd)]), (1, [(vu64 ins)]), (8, regs.map vu64), (1, [(vu64 pc)]), (1, [(.bool run)]), (1, [(vi wt)])] [] (cs := flat [(1, [(vi rd)]), (1, [(vu64 ins)]), (8, regs.map vu64), (1, [(vu64 pc)]), (1, [(.bool run)]), (1, [(vi wt)])]) rfl Try.isAgg28 Try.sizeOf28 (h_17.ok _ (.tail _ (.tail _ (.tail _ (.head _))))) rfl rfl rfl rfl) ?_
  refine WL.alloc (segs := [(1, [(vi 0)]), (1, [(vu64 0)]), (8, (List.replicate 8 (0 : UInt64)).map vu64), (1, [(vu64 0)]), (1, [(.bool false)]), (1, [(vi 0)])]) h_17 (zv Try.typeInfo28 rfl) rfl (SsOk.cons (SOk.v rfl) (SsOk.cons (SOk.v rfl) (SsOk.cons (SOk.u64 (List.length_replicate ..)) (SsOk.cons (SOk.v rfl) (SsOk.cons (SOk.v rfl) (SsOk.cons (SOk.v rfl) SsOk.nil)))))) rfl (fun b_18 w_19 h_20 => ?_)
  refine WL.storeA (b := b_18) (off := 0) [] [(1, [(vi 0)]), (1, [(vu64 0)]), (8, (List.replicate 8 (0 : UInt64)).map vu64), (1, [(vu64 0)]), (1, [(.bool false)]), (1, [(vi 0)])] [(1, [(vi rd)]), (1, [(vu64 ins)]), (8, regs.map vu64), (1, [(vu64 pc)]), (1, [(.bool run)]), (1, [(vi wt)])] [] (ys := flat [(1, [(vi rd)]), (1, [(vu64 ins)]), (8, regs.map vu64), (1, [(vu64 pc)]), (1, [(.bool run)]), (1, [(vi wt)])]) h_20 rfl rfl Try.sizeOf28 At.h (by decide) rfl rfl rfl rfl rfl rfl (SsOk.cons (SOk.v rfl) (SsOk.cons (SOk.v rfl) (SsOk.cons (SOk.u64 hr) (SsOk.cons (SOk.v rfl) (SsOk.cons (SOk.v rfl) (SsOk.cons (SOk.v rfl) SsOk.nil)))))) (fun w_21 h_22 => ?_)
  refine WL.nil ?_
  refine thn_n ?_
  refine WP.seq ?_
  refine WP.reg ?_
  refine WL.q (Wn.no rfl) rfl rfl (R.loadA (b := b_4) (off := 0) [] [(8, cr.map vu64), (1, [(vu64 cpc)])] [] (cs := flat [(8, cr.map vu64), (1, [(vu64 cpc)])]) rfl Try.isAgg25 Try.sizeOf25 (h_22.ok _ (.tail _ (.tail _ (.tail _ (.head _))))) rfl rfl rfl rfl) ?_
  refine WL.q (Wn.no rfl) rfl rfl (R.fieldAddr (b := b_18) (off := 0) (off' := 2) rfl Try.underlying28 rfl Try.sizeOf25 rfl rfl) ?_
  refine WL.storeA (b := b_18) (off := 2) [(1, [(vi rd)]), (1, [(vu64 ins)])] [(8, regs.map vu64), (1, [(vu64 pc)])] [(8, cr.map vu64), (1, [(vu64 cpc)])] [(1, [(.bool run)]), (1, [(vi wt)])] (ys := flat [(8, cr.map vu64), (1, [(vu64 cpc)])]) h_22 rfl rfl Try.sizeOf25 At.h (by decide) rfl rfl rfl rfl rfl rfl (SsOk.cons (SOk.u64 hcr) (SsOk.cons (SOk.v rfl) SsOk.nil)) (fun w_23 h_24 => ?_)
  refine WL.nil ?_
  refine thn_n ?_
  refine WP.seq ?_
  refine WP.reg ?_
  refine WL.q (Wn.no rfl) rfl rfl (R.buildA (vs := [(0, (vi 0)), (1, (vi 0)), (2, (vi 1)), (3, (vi 2)), (4, (vi 0)), (5, (vi 3))]) (cs := ([0, 0, 1, 2, 0, 3] : List Int).map vi64) Try.underlying42 Try.sizeOf26 (zv Try.typeInfo42 rfl) rfl rfl) ?_
  refine WL.q (Wn.no rfl) rfl rfl (R.fieldAddr (b := b_7) (off := 0) (off' := 0) rfl Try.underlying40 rfl Try.sizeOf38 rfl rfl) ?_
  refine WL.q (Wn.no rfl) rfl rfl (R.load1 (b := b_7) (off := 0) (v := (vi 5)) rfl Try.isAgg38 (h_24.ok _ (.tail _ (.tail _ (.head _)))) Sg.h) ?_
  refine WL.q (Wn.no rfl) rfl rfl (R.indexV (i := 5) (cs := ([0, 0, 1, 2, 0, 3] : List Int).map vi64) (v := (vi 3)) rfl rfl rfl (by decide) Try.underlying42 Try.isAgg26 Try.sizeOf26 (get_i64 (lt_len rfl (by decide)))) ?_
  refine WL.q (Wn.no rfl) rfl rfl (R.fieldAddr (b := b_18) (off := 0) (off' := 12) rfl Try.underlying28 rfl Try.sizeOf26 rfl rfl) ?_
  refine WL.store1 (b := b_18) (off := 12) (v := (vi 3)) h_24 rfl rfl Try.sizeOf26 rfl At.h (by decide) (Sg.t rfl (Sg.t rfl (Sg.t rfl (Sg.t rfl (Sg.t rfl Sg.h))))) (fun w_25 h_26 => ?_)
  refine WL.nil ?_
  refine thn_n ?_
  refine WP.seq ?_
  refine WP.reg ?_
  refine WL.q (Wn.no rfl) rfl rfl (R.move (v := (vi 0)) rfl) ?_
  refine WL.q (Wn.no rfl) rfl rfl (R.bin (v := (.bool true)) rfl rfl (bi_eql (r := true) (by decide))) ?_
  refine WL.q (Wn.no rfl) rfl rfl (R.move (v := (.bool true)) rfl) ?_
  refine WL.want rfl rfl ?_
  refine WL.q (Wn.no rfl) rfl rfl (R.loadA (b := b_13) (off := 0) [] [(1, [(vi rd)]), (1, [(vu64 ins)]), (8, cr.map vu64), (1, [(vu64 cpc)]), (1, [(.bool run)]), (1, [(vi 3)])] [] (cs := flat [(1, [(vi rd)]), (1, [(vu64 ins)]), (8, cr.map vu64), (1, [(vu64 cpc)]), (1, [(.bool run)]), (1, [(vi 3)])]) rfl Try.isAgg28 Try.sizeOf28 (h_26.ok _ (.tail _ (.head _))) rfl rfl rfl rfl) ?_
  refine WL.want rfl rfl ?_
  refine WL.q (Wn.no rfl) rfl rfl (R.loadA (b := b_18) (off := 0) [] [(1, [(vi rd)]), (1, [(vu64 ins)]), (8, cr.map vu64), (1, [(vu64 cpc)]), (1, [(.bool run)]), (1, [(vi 3)])] [] (cs := flat [(1, [(vi rd)]), (1, [(vu64 ins)]), (8, cr.map vu64), (1, [(vu64 cpc)]), (1, [(.bool run)]), (1, [(vi 3)])]) rfl Try.isAgg28 Try.sizeOf28 (h_26.ok _ (.head _)) rfl rfl rfl rfl) ?_
  refine WL.want rfl rfl ?_
  refine WL.q (Wn.no rfl) rfl rfl (R.eqA (xs := flat [(1, [(vi rd)]), (1, [(vu64 ins)]), (8, cr.map vu64), (1, [(vu64 cpc)]), (1, [(.bool run)]), (1, [(vi 3)])]) (ys := flat [(1, [(vi rd)]), (1, [(vu64 ins)]), (8, cr.map vu64), (1, [(vu64 cpc)]), (1, [(.bool run)]), (1, [(vi 3)])]) (r := true) rfl rfl Try.eqGuardType28 kt28 (by decide) ag28 (Typ.struct (h := 3) (r := [(1, [(vi rd)]), (1, [(vu64 ins)]), (9, flat [(8, cr.map vu64), (1, [(vu64 cpc)])]), (1, [(.bool run)]), (1, [(vi 3)])]) (cs := flat [(1, [(vi rd)]), (1, [(vu64 ins)]), (8, cr.map vu64), (1, [(vu64 cpc)]), (1, [(.bool run)]), (1, [(vi 3)])]) Try.underlying28 (TypF.cons (k := 1) rfl rfl (by decide) rfl (Typ.int Try.underlying3 ce3 (WalkArith.wf_i64 (by omega))) (TypF.cons (k := 1) rfl rfl (by decide) rfl (Typ.int Try.underlying22 ce22 (wfu64 ins)) (TypF.cons (k := 9) rfl rfl (by decide) ((SsOk.cons (SOk.u64 hcr) (SsOk.cons (SOk.v rfl) SsOk.nil))).len (Typ.struct (h := 2) (r := [(8, cr.map vu64), (1, [(vu64 cpc)])]) (cs := flat [(8, cr.map vu64), (1, [(vu64 cpc)])]) Try.underlying25 (TypF.cons (k := 8) rfl rfl (by decide) (len_map hcr) (Typ.u64s Try.underlying23 ce23 Try.underlying22 ce22 hcr) (TypF.cons (k := 1) rfl rfl (by decide) rfl (Typ.int Try.underlying22 ce22 (wfu64 cpc)) TypF.nil)) rfl (((SsOk.cons (SOk.u64 hcr) (SsOk.cons (SOk.v rfl) SsOk.nil))).len.trans ce25.symm)) (TypF.cons (k := 1) rfl rfl (by decide) rfl (Typ.bool Try.underlying4 ce4) (TypF.cons (k := 1) rfl rfl (by decide) rfl (Typ.int Try.underlying26 ce26 (by decide)) TypF.nil))))) (by simp [flat]) (((SsOk.cons (SOk.v rfl) (SsOk.cons (SOk.v rfl) (SsOk.cons (SOk.u64 hcr) (SsOk.cons (SOk.v rfl) (SsOk.cons (SOk.v rfl) (SsOk.cons (SOk.v rfl) SsOk.nil))))))).len.trans ce28.symm)) (Typ.struct (h := 3) (r := [(1, [(vi rd)]), (1, [(vu64 ins)]), (9, flat [(8, cr.map vu64), (1, [(vu64 cpc)])]), (1, [(.bool run)]), (1, [(vi 3)])]) (cs := flat [(1, [(vi rd)]), (1, [(vu64 ins)]), (8, cr.map vu64), (1, [(vu64 cpc)]), (1, [(.bool run)]), (1, [(vi 3)])]) Try.underlying28 (TypF.cons (k := 1) rfl rfl (by decide) rfl (Typ.int Try.underlying3 ce3 (WalkArith.wf_i64 (by omega))) (TypF.cons (k := 1) rfl rfl (by decide) rfl (Typ.int Try.underlying22 ce22 (wfu64 ins)) (TypF.cons (k := 9) rfl rfl (by decide) ((SsOk.cons (SOk.u64 hcr) (SsOk.cons (SOk.v rfl) SsOk.nil))).len (Typ.struct (h := 2) (r := [(8, cr.map vu64), (1, [(vu64 cpc)])]) (cs := flat [(8, cr.map vu64), (1, [(vu64 cpc)])]) Try.underlying25 (TypF.cons (k := 8) rfl rfl (by decide) (len_map hcr) (Typ.u64s Try.underlying23 ce23 Try.underlying22 ce22 hcr) (TypF.cons (k := 1) rfl rfl (by decide) rfl (Typ.int Try.underlying22 ce22 (wfu64 cpc)) TypF.nil)) rfl (((SsOk.cons (SOk.u64 hcr) (SsOk.cons (SOk.v rfl) SsOk.nil))).len.trans ce25.symm)) (TypF.cons (k := 1) rfl rfl (by decide) rfl (Typ.bool Try.underlying4 ce4) (TypF.cons (k := 1) rfl rfl (by decide) rfl (Typ.int Try.underlying26 ce26 (by decide)) TypF.nil))))) (by simp [flat]) (((SsOk.cons (SOk.v rfl) (SsOk.cons (SOk.v rfl) (SsOk.cons (SOk.u64 hcr) (SsOk.cons (SOk.v rfl) (SsOk.cons (SOk.v rfl) (SsOk.cons (SOk.v rfl) SsOk.nil))))))).len.trans ce28.symm)) (eqT rfl)) ?_
  refine WL.q (Wn.no rfl) rfl rfl (R.pickT (v := (.bool true)) rfl rfl) ?_
  refine WL.q (Wn.no rfl) rfl rfl (R.move (v := (.bool true)) rfl) ?_
  refine WL.want rfl rfl ?_
  refine WL.call (al := []) Try.call15 rfl rfl (c_known14  _) rfl ?_
  rintro _ w_28 ⟨rfl, hc_27⟩
  have h_29 := h_26.same hc_27
  refine WL.q (Wn.no rfl) rfl rfl (R.pickT (v := (.bool true)) rfl rfl) ?_
  refine WL.q (Wn.no rfl) rfl rfl (R.assign (v := (.bool true)) rfl) ?_
  refine WL.nil ?_
  refine thn_n ?_
  refine WP.ret ?_
  refine ret_of Try.results4 (RV.tmp (v := (.bool true)) rfl RV.nil) ?_
  exact ⟨rfl, h_29.chgS⟩

theorem w_RecLeaves (rd : Int) (ins : UInt64) (regs : List UInt64) (hr : regs.length = 8) (pc : UInt64) (run : Bool) (wt : Int) (cr : List UInt64) (hcr : cr.length = 8) (cpc : UInt64) (rs : Int) (ors : List UInt64) (hor : ors.length = 4) (adr : UInt64) (wr : Bool) (ran : Int) (b_rd : -9223372036854775808 ≤ rd ∧ rd < 9223372036854775808) (b_wt : -9223372036854775808 ≤ wt ∧ wt < 9223372036854775808) (w : World) :
    Cs Try.prog 4 [(.agg ⟨flat [(1, [(vi rd)]), (1, [(vu64 ins)]), (8, regs.map vu64), (1, [(vu64 pc)]), (1, [(.bool run)]), (1, [(vi wt)])]⟩), (.agg ⟨flat [(8, cr.map vu64), (1, [(vu64 cpc)])]⟩), (.agg ⟨flat [(1, [(vi rs)]), (4, ors.map vu64), (1, [(vu64 adr)]), (1, [(.bool wr)]), (1, [(vi ran)])]⟩)].toArray w (fun v w1 => v = .bool true ∧ Chg w w1 []) := by
  by_cases h1 : rs < 1
  · exact w_RecLeaves_a rd ins regs hr pc run wt cr hcr cpc rs ors hor adr wr ran b_rd b_wt h1 w
  by_cases h5 : 5 < rs
  · exact w_RecLeaves_b rd ins regs hr pc run wt cr hcr cpc rs ors hor adr wr ran b_rd b_wt h5 w
  by_cases h0 : ran < 0
  · exact w_RecLeaves_c rd ins regs hr pc run wt cr hcr cpc rs ors hor adr wr ran b_rd b_wt (by omega) (by omega) h0 w
  have hq : rs = 1 ∨ rs = 2 ∨ rs = 3 ∨ rs = 4 ∨ rs = 5 := by omega
  have h0 : 0 ≤ ran := by omega
  rcases hq with rfl | rfl | rfl | rfl | rfl
  · exact w_RecLeaves_1 rd ins regs hr pc run wt cr hcr cpc ors hor adr wr ran b_rd b_wt h0 w
  · exact w_RecLeaves_2 rd ins regs hr pc run wt cr hcr cpc ors hor adr wr ran b_rd b_wt h0 w
  · exact w_RecLeaves_3 rd ins regs hr pc run wt cr hcr cpc ors hor adr wr ran b_rd b_wt h0 w
  · exact w_RecLeaves_4 rd ins regs hr pc run wt cr hcr cpc ors hor adr wr ran b_rd b_wt h0 w
  · exact w_RecLeaves_5 rd ins regs hr pc run wt cr hcr cpc ors hor adr wr ran b_rd b_wt h0 w
namespace recLeavesDone
open Go.ChangeShapes Go.WideShapes Go.ChangeAt
theorem own : ownKnob Try.prog.godebug = none := by kernel_rfl
theorem laidOut : laidOutB Try.prog = true := by kernel_rfl
set_option maxRecDepth 100000 in
theorem lifted (os : Os) (started : os.Started) (H : Type) (enc : TypeId × Value → H) :
    ReturnsInHanded {} Try.checked os 4 .any (Rows.recLeavesSpec.pre6 enc Try.prog Try.f4 Rows.recLeavesRow.domain false) (Rows.recLeavesSpec.post enc Try.prog Try.f4 false true false false) := by
  refine returnsInHanded_of_change (C := Try.checked) own started (by kernel_rfl) Try.func4
    (ChangeSpec.witness6 (enc := enc) (C := Try.checked) false ⟨#[], #[.agg #[.int .i64 0, .int .u64 0, .int .u64 0, .int .u64 0, .int .u64 0, .int .u64 0, .int .u64 0, .int .u64 0, .int .u64 0, .int .u64 0, .int .u64 0, .bool false, .int .i64 0], .agg #[.int .u64 0, .int .u64 0, .int .u64 0, .int .u64 0, .int .u64 0, .int .u64 0, .int .u64 0, .int .u64 0, .int .u64 0], .agg #[.int .i64 0, .int .u64 0, .int .u64 0, .int .u64 0, .int .u64 0, .int .u64 0, .bool false, .int .i64 0]], []⟩ 8 (by kernel_rfl) (by kernel_rfl) (by kernel_rfl) (by kernel_rfl)) ?_
  intro W base args ds gs before hval0 hW hcnd _
  have hval : ∀ (j : Nat) t v, Try.f4.params[j]? = some t → args[j]? = some v → Value.okWide Try.prog W .any base t v := hval0
  have hW' := hW
  obtain ⟨p, q, hA0, hV, rfl, hfz, hnd⟩ := hW
  have hA : DataW.TrodAll enc Try.prog W 0 (fun _ => true) true Try.f4.params.toList args.toList ds p := hA0
  rw [Try.params4] at hA hval
  obtain ⟨v0, vs0, d0, ds0, p0, q0, hargs, rfl, rfl, h0, r0⟩ := trodAll_cons hA
  obtain ⟨v1, vs1, d1, ds1, p1, q1, rfl, rfl, rfl, h1, r1⟩ := trodAll_cons r0
  obtain ⟨v2, vs2, d2, ds2, p2, q2, rfl, rfl, rfl, h2, r2⟩ := trodAll_cons r1
  obtain ⟨rfl, rfl, rfl⟩ := trodAll_nil r2
  obtain rfl : args = #[v0, v1, v2] := by cases args; simp_all
  obtain ⟨rfl, rfl⟩ := trodVars_none hV
  have lt0 : ∀ x ∈ p0, x.block < W.heap.size := by obtain ⟨m, hm⟩ := h0; exact DataW.trod_lt m _ _ _ hm
  obtain ⟨cs0, rfl⟩ := okWide_agg aggT28 (hval 0 28 v0 rfl rfl)
  have tr0 : Tr Try.prog W 28 cs0 := Tr.of h0 rfl
  have tl_x0 := Tr.struct (l := [(1, 3), (1, 22), (9, 25), (1, 4), (1, 26)]) Try.underlying28 ce28 (by kernel_rfl) tr0
  obtain ⟨a_x00, r_x00, rfl, n_x00, t_x00, tl_x00⟩ := tl_x0
  obtain ⟨x00, rfl, b_x00⟩ := Tr.i64 Try.underlying3 t_x00
  obtain ⟨a_x01, r_x01, rfl, n_x01, t_x01, tl_x01⟩ := tl_x00
  obtain ⟨x01, rfl⟩ := Tr.u64 Try.underlying22 t_x01
  obtain ⟨a_x02, r_x02, rfl, n_x02, t_x02, tl_x02⟩ := tl_x01
  have tl_x02 := Tr.struct (l := [(8, 23), (1, 22)]) Try.underlying25 ce25 (by kernel_rfl) t_x02
  obtain ⟨a_x020, r_x020, rfl, n_x020, t_x020, tl_x020⟩ := tl_x02
  obtain ⟨x020, rfl, l_x020⟩ := Tr.arr64 Try.underlying23 ce23 ce22 Try.underlying22 t_x020
  obtain ⟨a_x021, r_x021, rfl, n_x021, t_x021, tl_x021⟩ := tl_x020
  obtain ⟨x021, rfl⟩ := Tr.u64 Try.underlying22 t_x021
  obtain rfl := tl_x021
  obtain ⟨a_x03, r_x03, rfl, n_x03, t_x03, tl_x03⟩ := tl_x02
  obtain ⟨x03, rfl⟩ := Tr.bool Try.underlying4 t_x03
  obtain ⟨a_x04, r_x04, rfl, n_x04, t_x04, tl_x04⟩ := tl_x03
  obtain ⟨x04, rfl, b_x04⟩ := Tr.i64 Try.underlying26 t_x04
  obtain rfl := tl_x04
  have lt1 : ∀ x ∈ p1, x.block < W.heap.size := by obtain ⟨m, hm⟩ := h1; exact DataW.trod_lt m _ _ _ hm
  obtain ⟨cs1, rfl⟩ := okWide_agg aggT25 (hval 1 25 v1 rfl rfl)
  have tr1 : Tr Try.prog W 25 cs1 := Tr.of h1 rfl
  have tl_x1 := Tr.struct (l := [(8, 23), (1, 22)]) Try.underlying25 ce25 (by kernel_rfl) tr1
  obtain ⟨a_x10, r_x10, rfl, n_x10, t_x10, tl_x10⟩ := tl_x1
  obtain ⟨x10, rfl, l_x10⟩ := Tr.arr64 Try.underlying23 ce23 ce22 Try.underlying22 t_x10
  obtain ⟨a_x11, r_x11, rfl, n_x11, t_x11, tl_x11⟩ := tl_x10
  obtain ⟨x11, rfl⟩ := Tr.u64 Try.underlying22 t_x11
  obtain rfl := tl_x11
  have lt2 : ∀ x ∈ p2, x.block < W.heap.size := by obtain ⟨m, hm⟩ := h2; exact DataW.trod_lt m _ _ _ hm
  obtain ⟨cs2, rfl⟩ := okWide_agg aggT40 (hval 2 40 v2 rfl rfl)
  have tr2 : Tr Try.prog W 40 cs2 := Tr.of h2 rfl
  have tl_x2 := Tr.struct (l := [(1, 38), (4, 29), (1, 22), (1, 4), (1, 3)]) Try.underlying40 ce40 (by kernel_rfl) tr2
  obtain ⟨a_x20, r_x20, rfl, n_x20, t_x20, tl_x20⟩ := tl_x2
  obtain ⟨x20, rfl, b_x20⟩ := Tr.i64 Try.underlying38 t_x20
  obtain ⟨a_x21, r_x21, rfl, n_x21, t_x21, tl_x21⟩ := tl_x20
  obtain ⟨x21, rfl, l_x21⟩ := Tr.arr64 Try.underlying29 ce29 ce22 Try.underlying22 t_x21
  obtain ⟨a_x22, r_x22, rfl, n_x22, t_x22, tl_x22⟩ := tl_x21
  obtain ⟨x22, rfl⟩ := Tr.u64 Try.underlying22 t_x22
  obtain ⟨a_x23, r_x23, rfl, n_x23, t_x23, tl_x23⟩ := tl_x22
  obtain ⟨x23, rfl⟩ := Tr.bool Try.underlying4 t_x23
  obtain ⟨a_x24, r_x24, rfl, n_x24, t_x24, tl_x24⟩ := tl_x23
  obtain ⟨x24, rfl, b_x24⟩ := Tr.i64 Try.underlying3 t_x24
  obtain rfl := tl_x24
  clear hA0 hval0
  have hw : Cs Try.prog 4 [(.agg ⟨flat [(1, [(vi x00)]), (1, [(vu64 x01)]), (8, x020.map vu64), (1, [(vu64 x021)]), (1, [(.bool x03)]), (1, [(vi x04)])]⟩), (.agg ⟨flat [(8, x10.map vu64), (1, [(vu64 x11)])]⟩), (.agg ⟨flat [(1, [(vi x20)]), (4, x21.map vu64), (1, [(vu64 x22)]), (1, [(.bool x23)]), (1, [(vi x24)])]⟩)].toArray W (fun v w1 => v = .bool true ∧ Chg W w1 []) := w_RecLeaves x00 x01 x020 l_x020 x021 x03 x04 x10 l_x10 x11 x20 x21 l_x21 x22 x23 x24 b_x00 b_x04 W
  have ea : ([(.agg ⟨flat [(1, [(vi x00)]), (1, [(vu64 x01)]), (8, x020.map vu64), (1, [(vu64 x021)]), (1, [(.bool x03)]), (1, [(vi x04)])]⟩), (.agg ⟨flat [(8, x10.map vu64), (1, [(vu64 x11)])]⟩), (.agg ⟨flat [(1, [(vi x20)]), (4, x21.map vu64), (1, [(vu64 x22)]), (1, [(.bool x23)]), (1, [(vi x24)])]⟩)] : List Value).toArray = (#[.agg ⟨([vi x00] ++ ([vu64 x01] ++ ((x020.map vu64 ++ ([vu64 x021] ++ [])) ++ ([.bool x03] ++ ([vi x04] ++ [])))))⟩, .agg ⟨(x10.map vu64 ++ ([vu64 x11] ++ []))⟩, .agg ⟨([vi x20] ++ (x21.map vu64 ++ ([vu64 x22] ++ ([.bool x23] ++ ([vi x24] ++ [])))))⟩] : Array Value) := by simp [flat]
  rw [ea] at hw
  refine Calls.mono (Cs.below hw) fun e W' ⟨he, bel⟩ => ?_
  subst he
  exact ⟨_, rfl, _, _, _, [], _, [], hW', trodAll_mk1 (shut_bool Try.underlying4 _), (trodAll_cons_mk (Below.trod laidOut (by kernel_rfl) (of_decide_eq_true (by kernel_rfl)) h0 bel lt0) (trodAll_cons_mk (Below.trod laidOut (by kernel_rfl) (of_decide_eq_true (by kernel_rfl)) h1 bel lt1) (trodAll_cons_mk (Below.trod laidOut (by kernel_rfl) (of_decide_eq_true (by kernel_rfl)) h2 bel lt2) trodAll_mk0))), rfl, bel.frame _, fun h => by cases h⟩
theorem over : Rows.recLeavesRow.holds Try.pinned (OpenSpec.ofChange Rows.recLeavesSpec) :=
  OpenClaim.holds_of_wide 4 Try.f4 rfl rfl rfl rfl rfl rfl rfl ⟨rfl, rfl, rfl, rfl, rfl⟩ rfl rfl rfl rfl rfl (by kernel_rfl) Try.func4 (by kernel_rfl)
    (of_decide_eq_true (by kernel_rfl)) (by unfold Func.isWrapper; first | (rw [if_pos (by decide +kernel)]; kernel_rfl) | (rw [if_neg (by decide +kernel)]; exact ⟨rfl, rfl⟩))
    (fun os started H enc _ => lifted os started H enc)
theorem proved : Rows.RecLeavesSaid := over
end recLeavesDone
end Go.Proofs.Ythkcekgemanfdaa
