/- ShaPresses holds of every input. Conditions: none. -/
import Derived.Test.YtelkjcigdhgcoaaPA
namespace Go.Proofs.Ytelkjcigdhgcoaa
open Go.Vc Go.Sh Go.RowKit
set_option linter.unusedVariables false
set_option linter.unusedSimpArgs false
set_option maxRecDepth 20000
theorem aggT33 : aggB Try.prog 33 = true := by unfold aggB; rw [Try.underlying33]
theorem aggT34 : aggB Try.prog 34 = true := by unfold aggB; rw [Try.underlying34]
theorem ce22 : Try.prog.cellsOf 22 = 1 := by kernel_rfl
theorem ce33 : Try.prog.cellsOf 33 = 8 := by kernel_rfl
theorem ce34 : Try.prog.cellsOf 34 = 64 := by kernel_rfl
theorem kt33 : Try.prog.keyTypeAt 2 33 = true := by kernel_rfl
theorem ag33 : aggB Try.prog 33 = true := by unfold aggB; rw [Try.underlying33]
theorem w_ShaPresses (hh : List UInt32) (bs : List UInt8) (hhl : hh.length = 8) (hl : bs.length = 64) (w : World) :
    Cs Try.prog 5 [(.agg ⟨hh.map vu32⟩), (.agg ⟨bs.map vu8⟩)].toArray w (fun v w1 => v = .bool true ∧ Chg w w1 []) := by
  refine Cs.of (n := 16) (args := [(.agg ⟨hh.map vu32⟩), (.agg ⟨bs.map vu8⟩)]) Try.func5 rfl rfl rfl ?_
  have h_0 := HP.init w
  refine WP.seq ?_
  refine WP.reg ?_
  refine WL.box (v := (.agg ⟨hh.map vu32⟩)) (segs := [(8, hh.map vu32)]) h_0 rfl rfl (SsOk.cons (SOk.u32 hhl) SsOk.nil) rfl (fun b_1 w_2 h_3 => ?_)
  refine WL.box (v := (.agg ⟨bs.map vu8⟩)) (segs := [(64, bs.map vu8)]) h_3 rfl rfl (SsOk.cons (SOk.u8 hl) SsOk.nil) rfl (fun b_4 w_5 h_6 => ?_)
  refine WL.q (Wn.no rfl) rfl rfl (R.assign (v := (.bool false)) rfl) ?_
  refine WL.nil ?_
  refine thn_n ?_
  refine WP.seq ?_
  refine WP.drawT (SL w.heap.size [.blk b_4 .nw 34 [(64, bs.map vu8)], .blk b_1 .nw 33 [(8, hh.map vu32)]]) (.q 0 (.q 1 (.q 3 (.q 4 (.s 2 (.s 5 (.s 6 (.q 7 (.q 8 (.s 9 (.q 10 (.q 11 .nil)))))))))))) (by kernel_rfl) (by kernel_rfl) rfl (by kernel_rfl) (fun w_7 hc_9 => (SL.cons ((h_6.same hc_9).ok _ (.head _)) (SL.cons ((h_6.same hc_9).ok _ (.tail _ (.head _))) (SL.nil _ _)))) (fun w_7 hc_9 => ?_)
  have h_8 := h_6.same hc_9
  refine WT.q rfl (Wn.no rfl) rfl rfl (fun wq hS => R.loadA (b := b_1) (off := 0) [] [(8, hh.map vu32)] [] (cs := hh.map vu32) rfl Try.isAgg33 Try.sizeOf33 (hS _ (.tail _ (.head _))) rfl rfl rfl rfl) ?_
  refine WT.q rfl (Wn.no rfl) rfl rfl (fun wq hS => R.loadA (b := b_4) (off := 0) [] [(64, bs.map vu8)] [] (cs := bs.map vu8) rfl Try.isAgg34 Try.sizeOf34 (hS _ (.head _)) rfl rfl rfl rfl) ?_
  refine WT.q rfl (Wn.no rfl) rfl rfl (fun wq hS => R.loadA (b := b_1) (off := 0) [] [(8, hh.map vu32)] [] (cs := hh.map vu32) rfl Try.isAgg33 Try.sizeOf33 (hS _ (.tail _ (.head _))) rfl rfl rfl rfl) ?_
  refine WT.q rfl (Wn.no rfl) rfl rfl (fun wq hS => R.loadA (b := b_4) (off := 0) [] [(64, bs.map vu8)] [] (cs := bs.map vu8) rfl Try.isAgg34 Try.sizeOf34 (hS _ (.head _)) rfl rfl rfl rfl) ?_
  refine WT.s ?_
  refine Op1.one rfl (Wn.no rfl) ?_
  refine WL.call (al := [(.agg ⟨hh.map vu32⟩), (.agg ⟨bs.map vu8⟩)]) Try.call24 rfl rfl (c_Press hh bs hhl hl _ ) rfl ?_
  rintro _ w_11 ⟨rfl, hc_10⟩
  have h_12 := h_8.same hc_10
  refine WL.nil ?_
  refine ⟨(SL.cons (h_12.ok _ (.head _)) (SL.cons (h_12.ok _ (.tail _ (.head _))) (SL.nil _ _))), ?_⟩
  refine WT.s ?_
  refine Op1.one rfl (Wn.no rfl) ?_
  refine WL.call (al := []) Try.call26 rfl rfl (c_ConstantsR _) rfl ?_
  rintro _ w_15 ⟨a_13, cap_14, rfl, hc_16, ho_17⟩
  have h_18 := h_12.gotRow hc_16 ho_17
  refine WL.nil ?_
  refine ⟨(SL.cons (h_18.ok _ (.tail _ (.head _))) (SL.cons (h_18.ok _ (.tail _ (.tail _ (.head _)))) (SL.nil _ _))), ?_⟩
  refine WT.s ?_
  refine Op1.one rfl (Wn.no rfl) ?_
  refine WL.call (al := [(.agg ⟨hh.map vu32⟩), (.agg ⟨bs.map vu8⟩), (.slice a_13 64 cap_14)]) Try.call25 rfl rfl (c_PressR hh kL hhl kL_len bs hl a_13 cap_14 _ (ownView (h_18.ok _ (.head _)))) rfl ?_
  rintro _ w_20 ⟨rfl, hc_19⟩
  have h_21 := h_18.same hc_19
  refine WL.nil ?_
  refine ⟨(SL.cons (h_21.ok _ (.tail _ (.head _))) (SL.cons (h_21.ok _ (.tail _ (.tail _ (.head _)))) (SL.nil _ _))), ?_⟩
  refine WT.q rfl (Wn.no rfl) rfl rfl (fun wq hS => R.eqA (xs := (pressL kL hh bs).map vu32) (ys := (pressL kL hh bs).map vu32) (r := true) rfl rfl Try.eqGuardType33 kt33 (by decide) ag33 (Typ.u32s Try.underlying33 ce33 Try.underlying22 ce22 (pressL_len ..)) (Typ.u32s Try.underlying33 ce33 Try.underlying22 ce22 (pressL_len ..)) (eqT rfl)) ?_
  refine WT.q rfl (Wn.no rfl) rfl rfl (fun wq hS => R.move (v := (.bool true)) rfl) ?_
  refine WT.s ?_
  refine Op1.one rfl (Wn.yes rfl rfl rfl) ?_
  refine WL.call (al := []) Try.call18 rfl rfl (c_known2  _ ) rfl ?_
  rintro _ w_23 ⟨rfl, hc_22⟩
  have h_24 := h_21.same hc_22
  refine WL.nil ?_
  refine ⟨(SL.cons (h_24.ok _ (.tail _ (.head _))) (SL.cons (h_24.ok _ (.tail _ (.tail _ (.head _)))) (SL.nil _ _))), ?_⟩
  refine WT.q rfl (Wn.no rfl) rfl rfl (fun wq hS => R.pickT (v := (.bool true)) rfl rfl) ?_
  refine WT.q rfl (Wn.no rfl) rfl rfl (fun wq hS => R.assign (v := (.bool true)) rfl) ?_
  refine WT.nil ?_
  refine thn_n ?_
  refine WP.ret ?_
  refine ret_of Try.results5 (RV.tmp (v := (.bool true)) rfl RV.nil) ?_
  exact ⟨rfl, h_24.chgS⟩
namespace shaPressesDone
open Go.ChangeShapes Go.WideShapes Go.ChangeAt
theorem own : ownKnob Try.prog.godebug = none := by kernel_rfl
theorem laidOut : laidOutB Try.prog = true := by kernel_rfl
set_option maxRecDepth 100000 in
theorem lifted (os : Os) (started : os.Started) (H : Type) (enc : TypeId × Value → H) :
    ReturnsInHanded {} Try.checked os 5 .any (Rows.shaPressesSpec.pre6 enc Try.prog Try.f5 Rows.shaPressesRow.domain false) (Rows.shaPressesSpec.post enc Try.prog Try.f5 false true false false) := by
  refine returnsInHanded_of_change (C := Try.checked) own started (by kernel_rfl) Try.func5
    (ChangeSpec.witness6 (enc := enc) (C := Try.checked) false ⟨#[], #[.agg #[.int .u32 0, .int .u32 0, .int .u32 0, .int .u32 0, .int .u32 0, .int .u32 0, .int .u32 0, .int .u32 0], .agg #[.int .u8 0, .int .u8 0, .int .u8 0, .int .u8 0, .int .u8 0, .int .u8 0, .int .u8 0, .int .u8 0, .int .u8 0, .int .u8 0, .int .u8 0, .int .u8 0, .int .u8 0, .int .u8 0, .int .u8 0, .int .u8 0, .int .u8 0, .int .u8 0, .int .u8 0, .int .u8 0, .int .u8 0, .int .u8 0, .int .u8 0, .int .u8 0, .int .u8 0, .int .u8 0, .int .u8 0, .int .u8 0, .int .u8 0, .int .u8 0, .int .u8 0, .int .u8 0, .int .u8 0, .int .u8 0, .int .u8 0, .int .u8 0, .int .u8 0, .int .u8 0, .int .u8 0, .int .u8 0, .int .u8 0, .int .u8 0, .int .u8 0, .int .u8 0, .int .u8 0, .int .u8 0, .int .u8 0, .int .u8 0, .int .u8 0, .int .u8 0, .int .u8 0, .int .u8 0, .int .u8 0, .int .u8 0, .int .u8 0, .int .u8 0, .int .u8 0, .int .u8 0, .int .u8 0, .int .u8 0, .int .u8 0, .int .u8 0, .int .u8 0, .int .u8 0]], []⟩ 8 (by kernel_rfl) (by kernel_rfl) (by kernel_rfl) (by kernel_rfl)) ?_
  intro W base args ds gs before hval0 hW hcnd _
  have hval : ∀ (j : Nat) t v, Try.f5.params[j]? = some t → args[j]? = some v → Value.okWide Try.prog W .any base t v := hval0
  have hW' := hW
  obtain ⟨p, q, hA0, hV, rfl, hfz, hnd⟩ := hW
  have hA : DataW.TrodAll enc Try.prog W 0 (fun _ => true) true Try.f5.params.toList args.toList ds p := hA0
  rw [Try.params5] at hA hval
  obtain ⟨v0, vs0, d0, ds0, p0, q0, hargs, rfl, rfl, h0, r0⟩ := trodAll_cons hA
  obtain ⟨v1, vs1, d1, ds1, p1, q1, rfl, rfl, rfl, h1, r1⟩ := trodAll_cons r0
  obtain ⟨rfl, rfl, rfl⟩ := trodAll_nil r1
  obtain rfl : args = #[v0, v1] := by cases args; simp_all
  obtain ⟨rfl, rfl⟩ := trodVars_none hV
  have lt0 : ∀ x ∈ p0, x.block < W.heap.size := by obtain ⟨m, hm⟩ := h0; exact DataW.trod_lt m _ _ _ hm
  obtain ⟨cs0, rfl⟩ := okWide_agg aggT33 (hval 0 33 v0 rfl rfl)
  have tr0 : Tr Try.prog W 33 cs0 := Tr.of h0 rfl
  obtain ⟨x0, rfl, l_x0⟩ := Tr.arr32 Try.underlying33 ce33 ce22 Try.underlying22 tr0
  have lt1 : ∀ x ∈ p1, x.block < W.heap.size := by obtain ⟨m, hm⟩ := h1; exact DataW.trod_lt m _ _ _ hm
  obtain ⟨cs1, rfl⟩ := okWide_agg aggT34 (hval 1 34 v1 rfl rfl)
  have tr1 : Tr Try.prog W 34 cs1 := Tr.of h1 rfl
  obtain ⟨x1, rfl, l_x1⟩ := Tr.arr8 Try.underlying34 ce34 ce5 Try.underlying5 tr1
  clear hA0 hval0
  have hw : Cs Try.prog 5 [(.agg ⟨x0.map vu32⟩), (.agg ⟨x1.map vu8⟩)].toArray W (fun v w1 => v = .bool true ∧ Chg W w1 []) := w_ShaPresses x0 x1 l_x0 l_x1 W
  have ea : ([(.agg ⟨x0.map vu32⟩), (.agg ⟨x1.map vu8⟩)] : List Value).toArray = (#[.agg ⟨x0.map vu32⟩, .agg ⟨x1.map vu8⟩] : Array Value) := by simp [flat]
  rw [ea] at hw
  refine Calls.mono (Cs.below hw) fun e W' ⟨he, bel⟩ => ?_
  subst he
  exact ⟨_, rfl, _, _, _, [], _, [], hW', trodAll_mk1 (shut_bool Try.underlying4 _), (trodAll_cons_mk (Below.trod laidOut (by kernel_rfl) (of_decide_eq_true (by kernel_rfl)) h0 bel lt0) (trodAll_cons_mk (Below.trod laidOut (by kernel_rfl) (of_decide_eq_true (by kernel_rfl)) h1 bel lt1) trodAll_mk0)), rfl, bel.frame _, fun h => by cases h⟩
theorem over : Rows.shaPressesRow.holds Try.pinned (OpenSpec.ofChange Rows.shaPressesSpec) :=
  OpenClaim.holds_of_wide 5 Try.f5 rfl rfl rfl rfl rfl rfl rfl ⟨rfl, rfl, rfl, rfl, rfl⟩ rfl rfl rfl rfl rfl (by kernel_rfl) Try.func5 (by kernel_rfl)
    (of_decide_eq_true (by kernel_rfl)) (by unfold Func.isWrapper; first | (rw [if_pos (by decide +kernel)]; kernel_rfl) | (rw [if_neg (by decide +kernel)]; exact ⟨rfl, rfl⟩))
    (fun os started H enc _ => lifted os started H enc)
theorem proved : Rows.ShaPressesSaid := over
end shaPressesDone
end Go.Proofs.Ytelkjcigdhgcoaa
