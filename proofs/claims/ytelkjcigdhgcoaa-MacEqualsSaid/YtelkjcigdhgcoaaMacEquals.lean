/- MacEquals holds of every input. Conditions: none. -/
import Derived.Test.YtelkjcigdhgcoaaPD
namespace Go.Proofs.Ytelkjcigdhgcoaa
open Go.Vc Go.Sh Go.RowKit
set_option linter.unusedVariables false
set_option linter.unusedSimpArgs false
set_option maxRecDepth 20000
theorem aggT28 : aggB Try.prog 28 = true := by unfold aggB; rw [Try.underlying28]
theorem ce67 : Try.prog.cellsOf 67 = 16 := by kernel_rfl
theorem kt67 : Try.prog.keyTypeAt 2 67 = true := by kernel_rfl
theorem ag67 : aggB Try.prog 67 = true := by unfold aggB; rw [Try.underlying67]
theorem w_MacEquals (p q : List UInt8) (hp : p.length = 32) (hq : q.length = 32) (w : World) :
    Cs Try.prog 13 [(.agg ⟨p.map vu8⟩), (.agg ⟨q.map vu8⟩)].toArray w (fun v w1 => v = .bool true ∧ Chg w w1 []) := by
  refine Cs.of (n := 39) (args := [(.agg ⟨p.map vu8⟩), (.agg ⟨q.map vu8⟩)]) Try.func13 rfl rfl rfl ?_
  have h_0 := HP.init w
  refine WP.seq ?_
  refine WP.reg ?_
  refine WL.box (v := (.agg ⟨p.map vu8⟩)) (segs := [(32, p.map vu8)]) h_0 rfl rfl (SsOk.cons (SOk.u8 hp) SsOk.nil) rfl (fun b_1 w_2 h_3 => ?_)
  refine WL.box (v := (.agg ⟨q.map vu8⟩)) (segs := [(32, q.map vu8)]) h_3 rfl rfl (SsOk.cons (SOk.u8 hq) SsOk.nil) rfl (fun b_4 w_5 h_6 => ?_)
  refine WL.q (Wn.no rfl) rfl rfl (R.assign (v := (.bool false)) rfl) ?_
  refine WL.nil ?_
  refine thn_n ?_
  refine WP.seq ?_
  refine WP.reg ?_
  refine WL.q (Wn.no rfl) rfl rfl (R.loadA (b := b_1) (off := 0) [] [(32, p.map vu8)] [] (cs := p.map vu8) rfl Try.isAgg28 Try.sizeOf28 (h_6.ok _ (.tail _ (.head _))) rfl rfl rfl rfl) ?_
  refine WL.call (al := [(.agg ⟨p.map vu8⟩)]) Try.call44 rfl rfl (c_Half p hp _ ) rfl ?_
  rintro _ w_8 ⟨rfl, hc_7⟩
  have h_9 := h_6.same hc_7
  refine WL.q (Wn.no rfl) rfl rfl (R.move (v := (.tuple [(.agg ⟨(halfL p 0).map vu8⟩), (.agg ⟨(halfL p 16).map vu8⟩)].toArray)) rfl) ?_
  refine WL.q (Wn.no rfl) rfl rfl (R.extract (l := [(.agg ⟨(halfL p 0).map vu8⟩), (.agg ⟨(halfL p 16).map vu8⟩)]) (v := (.agg ⟨(halfL p 0).map vu8⟩)) rfl rfl) ?_
  refine WL.q (Wn.no rfl) rfl rfl (R.extract (l := [(.agg ⟨(halfL p 0).map vu8⟩), (.agg ⟨(halfL p 16).map vu8⟩)]) (v := (.agg ⟨(halfL p 16).map vu8⟩)) rfl rfl) ?_
  refine WL.alloc (segs := [(16, (List.replicate 16 (0 : UInt8)).map vu8)]) h_9 (zv Try.typeInfo67 rfl) rfl (SsOk.cons (SOk.u8 (List.length_replicate ..)) SsOk.nil) rfl (fun b_10 w_11 h_12 => ?_)
  refine WL.alloc (segs := [(16, (List.replicate 16 (0 : UInt8)).map vu8)]) h_12 (zv Try.typeInfo67 rfl) rfl (SsOk.cons (SOk.u8 (List.length_replicate ..)) SsOk.nil) rfl (fun b_13 w_14 h_15 => ?_)
  refine WL.storeA (b := b_10) (off := 0) [] [(16, (List.replicate 16 (0 : UInt8)).map vu8)] [(16, (halfL p 0).map vu8)] [] (ys := (halfL p 0).map vu8) h_15 rfl rfl Try.sizeOf67 (At.t At.h) (by decide) rfl rfl rfl rfl rfl rfl (SsOk.cons (SOk.u8 (halfL_len hp (by decide))) SsOk.nil) (fun w_16 h_17 => ?_)
  refine WL.storeA (b := b_13) (off := 0) [] [(16, (List.replicate 16 (0 : UInt8)).map vu8)] [(16, (halfL p 16).map vu8)] [] (ys := (halfL p 16).map vu8) h_17 rfl rfl Try.sizeOf67 At.h (by decide) rfl rfl rfl rfl rfl rfl (SsOk.cons (SOk.u8 (halfL_len hp (by decide))) SsOk.nil) (fun w_18 h_19 => ?_)
  refine WL.nil ?_
  refine thn_n ?_
  refine WP.seq ?_
  refine WP.reg ?_
  refine WL.q (Wn.no rfl) rfl rfl (R.loadA (b := b_1) (off := 0) [] [(32, p.map vu8)] [] (cs := p.map vu8) rfl Try.isAgg28 Try.sizeOf28 (h_19.ok _ (.tail _ (.tail _ (.tail _ (.head _))))) rfl rfl rfl rfl) ?_
  refine WL.call (al := [(.agg ⟨p.map vu8⟩)]) Try.call45 rfl rfl (c_HalfR p hp _ ) rfl ?_
  rintro _ w_21 ⟨rfl, hc_20⟩
  have h_22 := h_19.same hc_20
  refine WL.q (Wn.no rfl) rfl rfl (R.move (v := (.tuple [(.agg ⟨(halfL p 0).map vu8⟩), (.agg ⟨(halfL p 16).map vu8⟩)].toArray)) rfl) ?_
  refine WL.q (Wn.no rfl) rfl rfl (R.extract (l := [(.agg ⟨(halfL p 0).map vu8⟩), (.agg ⟨(halfL p 16).map vu8⟩)]) (v := (.agg ⟨(halfL p 0).map vu8⟩)) rfl rfl) ?_
  refine WL.q (Wn.no rfl) rfl rfl (R.extract (l := [(.agg ⟨(halfL p 0).map vu8⟩), (.agg ⟨(halfL p 16).map vu8⟩)]) (v := (.agg ⟨(halfL p 16).map vu8⟩)) rfl rfl) ?_
  refine WL.alloc (segs := [(16, (List.replicate 16 (0 : UInt8)).map vu8)]) h_22 (zv Try.typeInfo67 rfl) rfl (SsOk.cons (SOk.u8 (List.length_replicate ..)) SsOk.nil) rfl (fun b_23 w_24 h_25 => ?_)
  refine WL.alloc (segs := [(16, (List.replicate 16 (0 : UInt8)).map vu8)]) h_25 (zv Try.typeInfo67 rfl) rfl (SsOk.cons (SOk.u8 (List.length_replicate ..)) SsOk.nil) rfl (fun b_26 w_27 h_28 => ?_)
  refine WL.storeA (b := b_23) (off := 0) [] [(16, (List.replicate 16 (0 : UInt8)).map vu8)] [(16, (halfL p 0).map vu8)] [] (ys := (halfL p 0).map vu8) h_28 rfl rfl Try.sizeOf67 (At.t At.h) (by decide) rfl rfl rfl rfl rfl rfl (SsOk.cons (SOk.u8 (halfL_len hp (by decide))) SsOk.nil) (fun w_29 h_30 => ?_)
  refine WL.storeA (b := b_26) (off := 0) [] [(16, (List.replicate 16 (0 : UInt8)).map vu8)] [(16, (halfL p 16).map vu8)] [] (ys := (halfL p 16).map vu8) h_30 rfl rfl Try.sizeOf67 At.h (by decide) rfl rfl rfl rfl rfl rfl (SsOk.cons (SOk.u8 (halfL_len hp (by decide))) SsOk.nil) (fun w_31 h_32 => ?_)
  refine WL.nil ?_
  refine thn_n ?_
  refine WP.seq ?_
  refine WP.drawT (SL w.heap.size [.blk b_26 .nw 67 [(16, (halfL p 16).map vu8)], .blk b_23 .nw 67 [(16, (halfL p 0).map vu8)], .blk b_13 .nw 67 [(16, (halfL p 16).map vu8)], .blk b_10 .nw 67 [(16, (halfL p 0).map vu8)], .blk b_4 .nw 28 [(32, q.map vu8)], .blk b_1 .nw 28 [(32, p.map vu8)]]) (.q 0 (.q 1 (.q 3 (.q 4 (.q 5 (.s 2 (.q 6 (.q 7 (.q 8 (.q 9 (.q 10 (.q 11 (.q 12 (.q 13 (.q 14 (.q 15 (.q 16 (.q 17 (.s 18 (.q 19 (.q 20 .nil))))))))))))))))))))) (by kernel_rfl) (by kernel_rfl) rfl (by kernel_rfl) (fun w_33 hc_35 => (SL.cons ((h_32.same hc_35).ok _ (.head _)) (SL.cons ((h_32.same hc_35).ok _ (.tail _ (.head _))) (SL.cons ((h_32.same hc_35).ok _ (.tail _ (.tail _ (.head _)))) (SL.cons ((h_32.same hc_35).ok _ (.tail _ (.tail _ (.tail _ (.head _))))) (SL.cons ((h_32.same hc_35).ok _ (.tail _ (.tail _ (.tail _ (.tail _ (.head _)))))) (SL.cons ((h_32.same hc_35).ok _ (.tail _ (.tail _ (.tail _ (.tail _ (.tail _ (.head _))))))) (SL.nil _ _)))))))) (fun w_33 hc_35 => ?_)
  have h_34 := h_32.same hc_35
  refine WT.q rfl (Wn.no rfl) rfl rfl (fun wq hS => R.loadA (b := b_1) (off := 0) [] [(32, p.map vu8)] [] (cs := p.map vu8) rfl Try.isAgg28 Try.sizeOf28 (hS _ (.tail _ (.tail _ (.tail _ (.tail _ (.tail _ (.head _))))))) rfl rfl rfl rfl) ?_
  refine WT.q rfl (Wn.no rfl) rfl rfl (fun wq hS => R.loadA (b := b_4) (off := 0) [] [(32, q.map vu8)] [] (cs := q.map vu8) rfl Try.isAgg28 Try.sizeOf28 (hS _ (.tail _ (.tail _ (.tail _ (.tail _ (.head _)))))) rfl rfl rfl rfl) ?_
  refine WT.q rfl (Wn.no rfl) rfl rfl (fun wq hS => R.loadA (b := b_1) (off := 0) [] [(32, p.map vu8)] [] (cs := p.map vu8) rfl Try.isAgg28 Try.sizeOf28 (hS _ (.tail _ (.tail _ (.tail _ (.tail _ (.tail _ (.head _))))))) rfl rfl rfl rfl) ?_
  refine WT.q rfl (Wn.no rfl) rfl rfl (fun wq hS => R.loadA (b := b_4) (off := 0) [] [(32, q.map vu8)] [] (cs := q.map vu8) rfl Try.isAgg28 Try.sizeOf28 (hS _ (.tail _ (.tail _ (.tail _ (.tail _ (.head _)))))) rfl rfl rfl rfl) ?_
  refine WT.q rfl (Wn.no rfl) rfl rfl (fun wq hS => R.eqA (xs := p.map vu8) (ys := q.map vu8) (r := decide (p = q)) rfl rfl Try.eqGuardType28 kt28 (by decide) ag28 (Typ.u8s Try.underlying28 ce28 Try.underlying5 ce5 hp) (Typ.u8s Try.underlying28 ce28 Try.underlying5 ce5 hq) (map_inj_u8.trans (decT _))) ?_
  refine WT.s ?_
  refine Op1.one rfl (Wn.no rfl) ?_
  refine WL.call (al := [(.agg ⟨p.map vu8⟩), (.agg ⟨q.map vu8⟩)]) Try.call46 rfl rfl (c_Equal p q hp hq _ ) rfl ?_
  rintro _ w_37 ⟨rfl, hc_36⟩
  have h_38 := h_34.same hc_36
  refine WL.nil ?_
  refine ⟨(SL.cons (h_38.ok _ (.head _)) (SL.cons (h_38.ok _ (.tail _ (.head _))) (SL.cons (h_38.ok _ (.tail _ (.tail _ (.head _)))) (SL.cons (h_38.ok _ (.tail _ (.tail _ (.tail _ (.head _))))) (SL.cons (h_38.ok _ (.tail _ (.tail _ (.tail _ (.tail _ (.head _)))))) (SL.cons (h_38.ok _ (.tail _ (.tail _ (.tail _ (.tail _ (.tail _ (.head _))))))) (SL.nil _ _))))))), ?_⟩
  refine WT.q rfl (Wn.no rfl) rfl rfl (fun wq hS => R.eqB (a := decide (p = q)) (b := decide (p = q)) (c := true) rfl rfl Try.underlying4 (by simp)) ?_
  refine WT.q rfl (Wn.no rfl) rfl rfl (fun wq hS => R.move (v := (.bool true)) rfl) ?_
  refine WT.q rfl (Wn.yes rfl rfl rfl) rfl rfl (fun wq hS => R.loadA (b := b_10) (off := 0) [] [(16, (halfL p 0).map vu8)] [] (cs := (halfL p 0).map vu8) rfl Try.isAgg67 Try.sizeOf67 (hS _ (.tail _ (.tail _ (.tail _ (.head _))))) rfl rfl rfl rfl) ?_
  refine WT.q rfl (Wn.yes rfl rfl rfl) rfl rfl (fun wq hS => R.loadA (b := b_23) (off := 0) [] [(16, (halfL p 0).map vu8)] [] (cs := (halfL p 0).map vu8) rfl Try.isAgg67 Try.sizeOf67 (hS _ (.tail _ (.head _))) rfl rfl rfl rfl) ?_
  refine WT.q rfl (Wn.yes rfl rfl rfl) rfl rfl (fun wq hS => R.eqA (xs := (halfL p 0).map vu8) (ys := (halfL p 0).map vu8) (r := true) rfl rfl Try.eqGuardType67 kt67 (by decide) ag67 (Typ.u8s Try.underlying67 ce67 Try.underlying5 ce5 (halfL_len hp (by decide))) (Typ.u8s Try.underlying67 ce67 Try.underlying5 ce5 (halfL_len hp (by decide))) (eqT rfl)) ?_
  refine WT.q rfl (Wn.no rfl) rfl rfl (fun wq hS => R.pickT (v := (.bool true)) rfl rfl) ?_
  refine WT.q rfl (Wn.no rfl) rfl rfl (fun wq hS => R.move (v := (.bool true)) rfl) ?_
  refine WT.q rfl (Wn.yes rfl rfl rfl) rfl rfl (fun wq hS => R.loadA (b := b_13) (off := 0) [] [(16, (halfL p 16).map vu8)] [] (cs := (halfL p 16).map vu8) rfl Try.isAgg67 Try.sizeOf67 (hS _ (.tail _ (.tail _ (.head _)))) rfl rfl rfl rfl) ?_
  refine WT.q rfl (Wn.yes rfl rfl rfl) rfl rfl (fun wq hS => R.loadA (b := b_26) (off := 0) [] [(16, (halfL p 16).map vu8)] [] (cs := (halfL p 16).map vu8) rfl Try.isAgg67 Try.sizeOf67 (hS _ (.head _)) rfl rfl rfl rfl) ?_
  refine WT.q rfl (Wn.yes rfl rfl rfl) rfl rfl (fun wq hS => R.eqA (xs := (halfL p 16).map vu8) (ys := (halfL p 16).map vu8) (r := true) rfl rfl Try.eqGuardType67 kt67 (by decide) ag67 (Typ.u8s Try.underlying67 ce67 Try.underlying5 ce5 (halfL_len hp (by decide))) (Typ.u8s Try.underlying67 ce67 Try.underlying5 ce5 (halfL_len hp (by decide))) (eqT rfl)) ?_
  refine WT.q rfl (Wn.no rfl) rfl rfl (fun wq hS => R.pickT (v := (.bool true)) rfl rfl) ?_
  refine WT.q rfl (Wn.no rfl) rfl rfl (fun wq hS => R.move (v := (.bool true)) rfl) ?_
  refine WT.s ?_
  refine Op1.one rfl (Wn.yes rfl rfl rfl) ?_
  refine WL.call (al := []) Try.call35 rfl rfl (c_known3  _ ) rfl ?_
  rintro _ w_40 ⟨rfl, hc_39⟩
  have h_41 := h_38.same hc_39
  refine WL.nil ?_
  refine ⟨(SL.cons (h_41.ok _ (.head _)) (SL.cons (h_41.ok _ (.tail _ (.head _))) (SL.cons (h_41.ok _ (.tail _ (.tail _ (.head _)))) (SL.cons (h_41.ok _ (.tail _ (.tail _ (.tail _ (.head _))))) (SL.cons (h_41.ok _ (.tail _ (.tail _ (.tail _ (.tail _ (.head _)))))) (SL.cons (h_41.ok _ (.tail _ (.tail _ (.tail _ (.tail _ (.tail _ (.head _))))))) (SL.nil _ _))))))), ?_⟩
  refine WT.q rfl (Wn.no rfl) rfl rfl (fun wq hS => R.pickT (v := (.bool true)) rfl rfl) ?_
  refine WT.q rfl (Wn.no rfl) rfl rfl (fun wq hS => R.assign (v := (.bool true)) rfl) ?_
  refine WT.nil ?_
  refine thn_n ?_
  refine WP.ret ?_
  refine ret_of Try.results13 (RV.tmp (v := (.bool true)) rfl RV.nil) ?_
  exact ⟨rfl, h_41.chgS⟩
namespace macEqualsDone
open Go.ChangeShapes Go.WideShapes Go.ChangeAt
theorem own : ownKnob Try.prog.godebug = none := by kernel_rfl
theorem laidOut : laidOutB Try.prog = true := by kernel_rfl
set_option maxRecDepth 100000 in
theorem lifted (os : Os) (started : os.Started) (H : Type) (enc : TypeId × Value → H) :
    ReturnsInHanded {} Try.checked os 13 .any (Rows.macEqualsSpec.pre6 enc Try.prog Try.f13 Rows.macEqualsRow.domain false) (Rows.macEqualsSpec.post enc Try.prog Try.f13 false true false false) := by
  refine returnsInHanded_of_change (C := Try.checked) own started (by kernel_rfl) Try.func13
    (ChangeSpec.witness6 (enc := enc) (C := Try.checked) false ⟨#[], #[.agg #[.int .u8 0, .int .u8 0, .int .u8 0, .int .u8 0, .int .u8 0, .int .u8 0, .int .u8 0, .int .u8 0, .int .u8 0, .int .u8 0, .int .u8 0, .int .u8 0, .int .u8 0, .int .u8 0, .int .u8 0, .int .u8 0, .int .u8 0, .int .u8 0, .int .u8 0, .int .u8 0, .int .u8 0, .int .u8 0, .int .u8 0, .int .u8 0, .int .u8 0, .int .u8 0, .int .u8 0, .int .u8 0, .int .u8 0, .int .u8 0, .int .u8 0, .int .u8 0], .agg #[.int .u8 0, .int .u8 0, .int .u8 0, .int .u8 0, .int .u8 0, .int .u8 0, .int .u8 0, .int .u8 0, .int .u8 0, .int .u8 0, .int .u8 0, .int .u8 0, .int .u8 0, .int .u8 0, .int .u8 0, .int .u8 0, .int .u8 0, .int .u8 0, .int .u8 0, .int .u8 0, .int .u8 0, .int .u8 0, .int .u8 0, .int .u8 0, .int .u8 0, .int .u8 0, .int .u8 0, .int .u8 0, .int .u8 0, .int .u8 0, .int .u8 0, .int .u8 0]], []⟩ 8 (by kernel_rfl) (by kernel_rfl) (by kernel_rfl) (by kernel_rfl)) ?_
  intro W base args ds gs before hval0 hW hcnd _
  have hval : ∀ (j : Nat) t v, Try.f13.params[j]? = some t → args[j]? = some v → Value.okWide Try.prog W .any base t v := hval0
  have hW' := hW
  obtain ⟨p, q, hA0, hV, rfl, hfz, hnd⟩ := hW
  have hA : DataW.TrodAll enc Try.prog W 0 (fun _ => true) true Try.f13.params.toList args.toList ds p := hA0
  rw [Try.params13] at hA hval
  obtain ⟨v0, vs0, d0, ds0, p0, q0, hargs, rfl, rfl, h0, r0⟩ := trodAll_cons hA
  obtain ⟨v1, vs1, d1, ds1, p1, q1, rfl, rfl, rfl, h1, r1⟩ := trodAll_cons r0
  obtain ⟨rfl, rfl, rfl⟩ := trodAll_nil r1
  obtain rfl : args = #[v0, v1] := by cases args; simp_all
  obtain ⟨rfl, rfl⟩ := trodVars_none hV
  have lt0 : ∀ x ∈ p0, x.block < W.heap.size := by obtain ⟨m, hm⟩ := h0; exact DataW.trod_lt m _ _ _ hm
  obtain ⟨cs0, rfl⟩ := okWide_agg aggT28 (hval 0 28 v0 rfl rfl)
  have tr0 : Tr Try.prog W 28 cs0 := Tr.of h0 rfl
  obtain ⟨x0, rfl, l_x0⟩ := Tr.arr8 Try.underlying28 ce28 ce5 Try.underlying5 tr0
  have lt1 : ∀ x ∈ p1, x.block < W.heap.size := by obtain ⟨m, hm⟩ := h1; exact DataW.trod_lt m _ _ _ hm
  obtain ⟨cs1, rfl⟩ := okWide_agg aggT28 (hval 1 28 v1 rfl rfl)
  have tr1 : Tr Try.prog W 28 cs1 := Tr.of h1 rfl
  obtain ⟨x1, rfl, l_x1⟩ := Tr.arr8 Try.underlying28 ce28 ce5 Try.underlying5 tr1
  clear hA0 hval0
  have hw : Cs Try.prog 13 [(.agg ⟨x0.map vu8⟩), (.agg ⟨x1.map vu8⟩)].toArray W (fun v w1 => v = .bool true ∧ Chg W w1 []) := w_MacEquals x0 x1 l_x0 l_x1 W
  have ea : ([(.agg ⟨x0.map vu8⟩), (.agg ⟨x1.map vu8⟩)] : List Value).toArray = (#[.agg ⟨x0.map vu8⟩, .agg ⟨x1.map vu8⟩] : Array Value) := by simp [flat]
  rw [ea] at hw
  refine Calls.mono (Cs.below hw) fun e W' ⟨he, bel⟩ => ?_
  subst he
  exact ⟨_, rfl, _, _, _, [], _, [], hW', trodAll_mk1 (shut_bool Try.underlying4 _), (trodAll_cons_mk (Below.trod laidOut (by kernel_rfl) (of_decide_eq_true (by kernel_rfl)) h0 bel lt0) (trodAll_cons_mk (Below.trod laidOut (by kernel_rfl) (of_decide_eq_true (by kernel_rfl)) h1 bel lt1) trodAll_mk0)), rfl, bel.frame _, fun h => by cases h⟩
theorem over : Rows.macEqualsRow.holds Try.pinned (OpenSpec.ofChange Rows.macEqualsSpec) :=
  OpenClaim.holds_of_wide 13 Try.f13 rfl rfl rfl rfl rfl rfl rfl ⟨rfl, rfl, rfl, rfl, rfl⟩ rfl rfl rfl rfl rfl (by kernel_rfl) Try.func13 (by kernel_rfl)
    (of_decide_eq_true (by kernel_rfl)) (by unfold Func.isWrapper; first | (rw [if_pos (by decide +kernel)]; kernel_rfl) | (rw [if_neg (by decide +kernel)]; exact ⟨rfl, rfl⟩))
    (fun os started H enc _ => lifted os started H enc)
theorem proved : Rows.MacEqualsSaid := over
end macEqualsDone
end Go.Proofs.Ytelkjcigdhgcoaa
