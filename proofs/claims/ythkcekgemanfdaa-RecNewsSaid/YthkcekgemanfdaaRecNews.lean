/- RecNews holds of every input. Conditions: none. -/
import Derived.Test.YthkcekgemanfdaaB1
namespace Go.Proofs.Ythkcekgemanfdaa
open Go.Vc Go.RowKit
set_option linter.unusedVariables false
set_option linter.unusedSimpArgs false
theorem w_RecNews (rd : Int) (ins : UInt64) (pc : UInt64) (regs : List UInt64) (hr : regs.length = 8) (run : Bool) (b_rd : -9223372036854775808 ≤ rd ∧ rd < 9223372036854775808) (w : World) :
    Cs Try.prog 5 [(vi rd), (vu64 ins), (.agg ⟨flat [(1, [(vu64 pc)]), (8, regs.map vu64), (1, [(.bool run)])]⟩)].toArray w (fun v w1 => v = .bool true ∧ Chg w w1 []) := by
  refine Cs.of (n := 25) (args := [(vi rd), (vu64 ins), (.agg ⟨flat [(1, [(vu64 pc)]), (8, regs.map vu64), (1, [(.bool run)])]⟩)]) Try.func5 rfl rfl rfl ?_
  have h_0 := HP.init w
  refine WP.seq ?_
  refine WP.reg ?_
  refine WL.box (v := (.agg ⟨flat [(1, [(vu64 pc)]), (8, regs.map vu64), (1, [(.bool run)])]⟩)) (segs := [(1, [(vu64 pc)]), (8, regs.map vu64), (1, [(.bool run)])]) h_0 rfl rfl (SsOk.cons (SOk.v rfl) (SsOk.cons (SOk.u64 hr) (SsOk.cons (SOk.v rfl) SsOk.nil))) rfl (fun b_1 w_2 h_3 => ?_)
  refine WL.q (Wn.no rfl) rfl rfl (R.assign (v := (.bool false)) rfl) ?_
  refine WL.nil ?_
  refine thn_n ?_
  refine WP.seq ?_
  refine WP.draw (SL w.heap.size [.blk b_1 .nw 45 [(1, [(vu64 pc)]), (8, regs.map vu64), (1, [(.bool run)])]]) [(0, true), (1, true), (2, true), (4, true), (5, true), (6, true), (7, true), (8, true), (9, true), (10, true), (11, true), (12, true), (13, true), (3, false), (14, true), (15, true), (16, false), (17, true), (18, true)] (by kernel_rfl) (by kernel_rfl) rfl (by kernel_rfl) (fun w_4 hc_6 => (SL.cons ((h_3.same hc_6).ok _ (.head _)) (SL.nil _ _))) (fun w_4 hc_6 => ?_)
  have h_5 := h_3.same hc_6
  refine WD.q rfl (Wn.no rfl) rfl rfl (fun wq hS => R.move (v := (vi rd)) rfl) ?_
  refine WD.q rfl (Wn.no rfl) rfl rfl (fun wq hS => R.move (v := (vu64 ins)) rfl) ?_
  refine WD.q rfl (Wn.no rfl) rfl rfl (fun wq hS => R.loadA (b := b_1) (off := 0) [] [(1, [(vu64 pc)]), (8, regs.map vu64), (1, [(.bool run)])] [] (cs := flat [(1, [(vu64 pc)]), (8, regs.map vu64), (1, [(.bool run)])]) rfl Try.isAgg45 Try.sizeOf45 (hS _ (.head _)) rfl rfl rfl rfl) ?_
  refine WD.q rfl (Wn.no rfl) rfl rfl (fun wq hS => R.move (v := (vi rd)) rfl) ?_
  refine WD.q rfl (Wn.no rfl) rfl rfl (fun wq hS => R.move (v := (vu64 ins)) rfl) ?_
  refine WD.q rfl (Wn.no rfl) rfl rfl (fun wq hS => R.fieldAddr (b := b_1) (off := 0) (off' := 1) rfl Try.underlying45 rfl Try.sizeOf23 rfl rfl) ?_
  refine WD.q rfl (Wn.no rfl) rfl rfl (fun wq hS => R.loadA (b := b_1) (off := 1) [(1, [(vu64 pc)])] [(8, regs.map vu64)] [(1, [(.bool run)])] (cs := regs.map vu64) rfl Try.isAgg23 Try.sizeOf23 (hS _ (.head _)) rfl rfl rfl rfl) ?_
  refine WD.q rfl (Wn.no rfl) rfl rfl (fun wq hS => R.fieldAddr (b := b_1) (off := 0) (off' := 0) rfl Try.underlying45 rfl Try.sizeOf22 rfl rfl) ?_
  refine WD.q rfl (Wn.no rfl) rfl rfl (fun wq hS => R.load1 (b := b_1) (off := 0) (v := (vu64 pc)) rfl Try.isAgg22 (hS _ (.head _)) Sg.h) ?_
  refine WD.q rfl (Wn.no rfl) rfl rfl (fun wq hS => R.buildS (pl := [(0, 8), (8, 1)]) (zs := [(8, (List.replicate 8 (0 : UInt64)).map vu64), (1, [(vu64 0)])]) (vs := [(0, (.agg ⟨regs.map vu64⟩)), (1, (vu64 pc))]) (out := [(8, regs.map vu64), (1, [(vu64 pc)])]) (cs := flat [(8, regs.map vu64), (1, [(vu64 pc)])]) Try.underlying25 (zv Try.typeInfo25 rfl) rfl (SsOk.cons (SOk.u64 (List.length_replicate ..)) (SsOk.cons (SOk.v rfl) SsOk.nil)) (pl25 _ Try.underlying25) rfl (FillR.cons [] [(8, (List.replicate 8 (0 : UInt64)).map vu64)] [(8, regs.map vu64)] [(1, [(vu64 0)])] rfl rfl rfl rfl (SsOk.cons (SOk.u64 hr) SsOk.nil) rfl rfl rfl (FillR.cons [(8, regs.map vu64)] [(1, [(vu64 0)])] [(1, [(vu64 pc)])] [] rfl rfl rfl rfl (SsOk.cons (SOk.v rfl) SsOk.nil) rfl rfl rfl FillR.nil)) rfl) ?_
  refine WD.q rfl (Wn.no rfl) rfl rfl (fun wq hS => R.fieldAddr (b := b_1) (off := 0) (off' := 9) rfl Try.underlying45 rfl Try.sizeOf4 rfl rfl) ?_
  refine WD.q rfl (Wn.no rfl) rfl rfl (fun wq hS => R.load1 (b := b_1) (off := 9) (v := (.bool run)) rfl Try.isAgg4 (hS _ (.head _)) (Sg.t rfl (Sg.t rfl Sg.h))) ?_
  refine WD.q rfl (Wn.no rfl) rfl rfl (fun wq hS => R.buildS (pl := [(0, 1), (1, 1), (2, 9), (11, 1), (12, 1)]) (zs := [(1, [(vi 0)]), (1, [(vu64 0)]), (8, (List.replicate 8 (0 : UInt64)).map vu64), (1, [(vu64 0)]), (1, [(.bool false)]), (1, [(vi 0)])]) (vs := [(0, (vi rd)), (1, (vu64 ins)), (2, (.agg ⟨flat [(8, regs.map vu64), (1, [(vu64 pc)])]⟩)), (3, (.bool run))]) (out := [(1, [(vi rd)]), (1, [(vu64 ins)]), (8, regs.map vu64), (1, [(vu64 pc)]), (1, [(.bool run)]), (1, [(vi 0)])]) (cs := flat [(1, [(vi rd)]), (1, [(vu64 ins)]), (8, regs.map vu64), (1, [(vu64 pc)]), (1, [(.bool run)]), (1, [(vi 0)])]) Try.underlying28 (zv Try.typeInfo28 rfl) rfl (SsOk.cons (SOk.v rfl) (SsOk.cons (SOk.v rfl) (SsOk.cons (SOk.u64 (List.length_replicate ..)) (SsOk.cons (SOk.v rfl) (SsOk.cons (SOk.v rfl) (SsOk.cons (SOk.v rfl) SsOk.nil)))))) (pl28 _ Try.underlying28) rfl (FillR.cons [] [(1, [(vi 0)])] [(1, [(vi rd)])] [(1, [(vu64 0)]), (8, (List.replicate 8 (0 : UInt64)).map vu64), (1, [(vu64 0)]), (1, [(.bool false)]), (1, [(vi 0)])] rfl rfl rfl rfl (SsOk.cons (SOk.v rfl) SsOk.nil) rfl rfl rfl (FillR.cons [(1, [(vi rd)])] [(1, [(vu64 0)])] [(1, [(vu64 ins)])] [(8, (List.replicate 8 (0 : UInt64)).map vu64), (1, [(vu64 0)]), (1, [(.bool false)]), (1, [(vi 0)])] rfl rfl rfl rfl (SsOk.cons (SOk.v rfl) SsOk.nil) rfl rfl rfl (FillR.cons [(1, [(vi rd)]), (1, [(vu64 ins)])] [(8, (List.replicate 8 (0 : UInt64)).map vu64), (1, [(vu64 0)])] [(8, regs.map vu64), (1, [(vu64 pc)])] [(1, [(.bool false)]), (1, [(vi 0)])] rfl rfl rfl rfl (SsOk.cons (SOk.u64 hr) (SsOk.cons (SOk.v rfl) SsOk.nil)) rfl rfl rfl (FillR.cons [(1, [(vi rd)]), (1, [(vu64 ins)]), (8, regs.map vu64), (1, [(vu64 pc)])] [(1, [(.bool false)])] [(1, [(.bool run)])] [(1, [(vi 0)])] rfl rfl rfl rfl (SsOk.cons (SOk.v rfl) SsOk.nil) rfl rfl rfl FillR.nil)))) rfl) ?_
  refine WD.one rfl (Wn.no rfl) ?_
  refine WL.call (al := [(vi rd), (vu64 ins), (.agg ⟨flat [(1, [(vu64 pc)]), (8, regs.map vu64), (1, [(.bool run)])]⟩)]) Try.call17 rfl rfl (c_New rd ins pc regs hr run _) rfl ?_
  rintro _ w_10 ⟨rfl, hc_9⟩
  have h_11 := h_5.same hc_9
  refine WL.nil ?_
  refine ⟨(SL.cons (h_11.ok _ (.head _)) (SL.nil _ _)), ?_⟩
  refine WD.q rfl (Wn.no rfl) rfl rfl (fun wq hS => R.eqA (xs := flat [(1, [(vi rd)]), (1, [(vu64 ins)]), (8, regs.map vu64), (1, [(vu64 pc)]), (1, [(.bool run)]), (1, [(vi 0)])]) (ys := flat [(1, [(vi rd)]), (1, [(vu64 ins)]), (8, regs.map vu64), (1, [(vu64 pc)]), (1, [(.bool run)]), (1, [(vi 0)])]) (r := true) rfl rfl Try.eqGuardType28 kt28 (by decide) ag28 (Typ.struct (h := 3) (r := [(1, [(vi rd)]), (1, [(vu64 ins)]), (9, flat [(8, regs.map vu64), (1, [(vu64 pc)])]), (1, [(.bool run)]), (1, [(vi 0)])]) (cs := flat [(1, [(vi rd)]), (1, [(vu64 ins)]), (8, regs.map vu64), (1, [(vu64 pc)]), (1, [(.bool run)]), (1, [(vi 0)])]) Try.underlying28 (TypF.cons (k := 1) rfl rfl (by decide) rfl (Typ.int Try.underlying3 ce3 (WalkArith.wf_i64 (by omega))) (TypF.cons (k := 1) rfl rfl (by decide) rfl (Typ.int Try.underlying22 ce22 (wfu64 ins)) (TypF.cons (k := 9) rfl rfl (by decide) ((SsOk.cons (SOk.u64 hr) (SsOk.cons (SOk.v rfl) SsOk.nil))).len (Typ.struct (h := 2) (r := [(8, regs.map vu64), (1, [(vu64 pc)])]) (cs := flat [(8, regs.map vu64), (1, [(vu64 pc)])]) Try.underlying25 (TypF.cons (k := 8) rfl rfl (by decide) (len_map hr) (Typ.u64s Try.underlying23 ce23 Try.underlying22 ce22 hr) (TypF.cons (k := 1) rfl rfl (by decide) rfl (Typ.int Try.underlying22 ce22 (wfu64 pc)) TypF.nil)) rfl (((SsOk.cons (SOk.u64 hr) (SsOk.cons (SOk.v rfl) SsOk.nil))).len.trans ce25.symm)) (TypF.cons (k := 1) rfl rfl (by decide) rfl (Typ.bool Try.underlying4 ce4) (TypF.cons (k := 1) rfl rfl (by decide) rfl (Typ.int Try.underlying26 ce26 (by decide)) TypF.nil))))) (by simp [flat]) (((SsOk.cons (SOk.v rfl) (SsOk.cons (SOk.v rfl) (SsOk.cons (SOk.u64 hr) (SsOk.cons (SOk.v rfl) (SsOk.cons (SOk.v rfl) (SsOk.cons (SOk.v rfl) SsOk.nil))))))).len.trans ce28.symm)) (Typ.struct (h := 3) (r := [(1, [(vi rd)]), (1, [(vu64 ins)]), (9, flat [(8, regs.map vu64), (1, [(vu64 pc)])]), (1, [(.bool run)]), (1, [(vi 0)])]) (cs := flat [(1, [(vi rd)]), (1, [(vu64 ins)]), (8, regs.map vu64), (1, [(vu64 pc)]), (1, [(.bool run)]), (1, [(vi 0)])]) Try.underlying28 (TypF.cons (k := 1) rfl rfl (by decide) rfl (Typ.int Try.underlying3 ce3 (WalkArith.wf_i64 (by omega))) (TypF.cons (k := 1) rfl rfl (by decide) rfl (Typ.int Try.underlying22 ce22 (wfu64 ins)) (TypF.cons (k := 9) rfl rfl (by decide) ((SsOk.cons (SOk.u64 hr) (SsOk.cons (SOk.v rfl) SsOk.nil))).len (Typ.struct (h := 2) (r := [(8, regs.map vu64), (1, [(vu64 pc)])]) (cs := flat [(8, regs.map vu64), (1, [(vu64 pc)])]) Try.underlying25 (TypF.cons (k := 8) rfl rfl (by decide) (len_map hr) (Typ.u64s Try.underlying23 ce23 Try.underlying22 ce22 hr) (TypF.cons (k := 1) rfl rfl (by decide) rfl (Typ.int Try.underlying22 ce22 (wfu64 pc)) TypF.nil)) rfl (((SsOk.cons (SOk.u64 hr) (SsOk.cons (SOk.v rfl) SsOk.nil))).len.trans ce25.symm)) (TypF.cons (k := 1) rfl rfl (by decide) rfl (Typ.bool Try.underlying4 ce4) (TypF.cons (k := 1) rfl rfl (by decide) rfl (Typ.int Try.underlying26 ce26 (by decide)) TypF.nil))))) (by simp [flat]) (((SsOk.cons (SOk.v rfl) (SsOk.cons (SOk.v rfl) (SsOk.cons (SOk.u64 hr) (SsOk.cons (SOk.v rfl) (SsOk.cons (SOk.v rfl) (SsOk.cons (SOk.v rfl) SsOk.nil))))))).len.trans ce28.symm)) (eqT rfl)) ?_
  refine WD.q rfl (Wn.no rfl) rfl rfl (fun wq hS => R.move (v := (.bool true)) rfl) ?_
  refine WD.one rfl (Wn.yes rfl rfl rfl) ?_
  refine WL.call (al := []) Try.call15 rfl rfl (c_known14  _) rfl ?_
  rintro _ w_13 ⟨rfl, hc_12⟩
  have h_14 := h_11.same hc_12
  refine WL.nil ?_
  refine ⟨(SL.cons (h_14.ok _ (.head _)) (SL.nil _ _)), ?_⟩
  refine WD.q rfl (Wn.no rfl) rfl rfl (fun wq hS => R.pickT (v := (.bool true)) rfl rfl) ?_
  refine WD.q rfl (Wn.no rfl) rfl rfl (fun wq hS => R.assign (v := (.bool true)) rfl) ?_
  refine WD.nil ?_
  refine thn_n ?_
  refine WP.ret ?_
  refine ret_of Try.results5 (RV.tmp (v := (.bool true)) rfl RV.nil) ?_
  exact ⟨rfl, h_14.chgS⟩
namespace recNewsDone
open Go.ChangeShapes Go.WideShapes Go.ChangeAt
theorem own : ownKnob Try.prog.godebug = none := by kernel_rfl
theorem laidOut : laidOutB Try.prog = true := by kernel_rfl
set_option maxRecDepth 100000 in
theorem lifted (os : Os) (started : os.Started) (H : Type) (enc : TypeId × Value → H) :
    ReturnsInHanded {} Try.checked os 5 .any (Rows.recNewsSpec.pre6 enc Try.prog Try.f5 Rows.recNewsRow.domain false) (Rows.recNewsSpec.post enc Try.prog Try.f5 false true false false) := by
  refine returnsInHanded_of_change (C := Try.checked) own started (by kernel_rfl) Try.func5
    (ChangeSpec.witness6 (enc := enc) (C := Try.checked) false ⟨#[], #[.int .i64 0, .int .u64 0, .agg #[.int .u64 0, .int .u64 0, .int .u64 0, .int .u64 0, .int .u64 0, .int .u64 0, .int .u64 0, .int .u64 0, .int .u64 0, .bool false]], []⟩ 8 (by kernel_rfl) (by kernel_rfl) (by kernel_rfl) (by kernel_rfl)) ?_
  intro W base args ds gs before hval0 hW hcnd _
  have hval : ∀ (j : Nat) t v, Try.f5.params[j]? = some t → args[j]? = some v → Value.okWide Try.prog W .any base t v := hval0
  have hW' := hW
  obtain ⟨p, q, hA0, hV, rfl, hfz, hnd⟩ := hW
  have hA : DataW.TrodAll enc Try.prog W 0 (fun _ => true) true Try.f5.params.toList args.toList ds p := hA0
  rw [Try.params5] at hA hval
  obtain ⟨v0, vs0, d0, ds0, p0, q0, hargs, rfl, rfl, h0, r0⟩ := trodAll_cons hA
  obtain ⟨v1, vs1, d1, ds1, p1, q1, rfl, rfl, rfl, h1, r1⟩ := trodAll_cons r0
  obtain ⟨v2, vs2, d2, ds2, p2, q2, rfl, rfl, rfl, h2, r2⟩ := trodAll_cons r1
  obtain ⟨rfl, rfl, rfl⟩ := trodAll_nil r2
  obtain rfl : args = #[v0, v1, v2] := by cases args; simp_all
  obtain ⟨rfl, rfl⟩ := trodVars_none hV
  have lt0 : ∀ x ∈ p0, x.block < W.heap.size := by obtain ⟨m, hm⟩ := h0; exact DataW.trod_lt m _ _ _ hm
  obtain ⟨x0, rfl⟩ := okWide_int Try.underlying3 (hval 0 3 v0 rfl rfl)
  have b_x0 := Tr.i64' Try.underlying3 (Tr.of h0 rfl)
  have lt1 : ∀ x ∈ p1, x.block < W.heap.size := by obtain ⟨m, hm⟩ := h1; exact DataW.trod_lt m _ _ _ hm
  obtain ⟨n1, rfl⟩ := okWide_int Try.underlying22 (hval 1 22 v1 rfl rfl)
  obtain ⟨x1, rfl⟩ := Tr.u64' Try.underlying22 (Tr.of h1 rfl)
  have lt2 : ∀ x ∈ p2, x.block < W.heap.size := by obtain ⟨m, hm⟩ := h2; exact DataW.trod_lt m _ _ _ hm
  obtain ⟨cs2, rfl⟩ := okWide_agg aggT45 (hval 2 45 v2 rfl rfl)
  have tr2 : Tr Try.prog W 45 cs2 := Tr.of h2 rfl
  have tl_x2 := Tr.struct (l := [(1, 22), (8, 23), (1, 4)]) Try.underlying45 ce45 (by kernel_rfl) tr2
  obtain ⟨a_x20, r_x20, rfl, n_x20, t_x20, tl_x20⟩ := tl_x2
  obtain ⟨x20, rfl⟩ := Tr.u64 Try.underlying22 t_x20
  obtain ⟨a_x21, r_x21, rfl, n_x21, t_x21, tl_x21⟩ := tl_x20
  obtain ⟨x21, rfl, l_x21⟩ := Tr.arr64 Try.underlying23 ce23 ce22 Try.underlying22 t_x21
  obtain ⟨a_x22, r_x22, rfl, n_x22, t_x22, tl_x22⟩ := tl_x21
  obtain ⟨x22, rfl⟩ := Tr.bool Try.underlying4 t_x22
  obtain rfl := tl_x22
  clear hA0 hval0
  have hw : Cs Try.prog 5 [(vi x0), (vu64 x1), (.agg ⟨flat [(1, [(vu64 x20)]), (8, x21.map vu64), (1, [(.bool x22)])]⟩)].toArray W (fun v w1 => v = .bool true ∧ Chg W w1 []) := w_RecNews x0 x1 x20 x21 l_x21 x22 b_x0 W
  have ea : ([(vi x0), (vu64 x1), (.agg ⟨flat [(1, [(vu64 x20)]), (8, x21.map vu64), (1, [(.bool x22)])]⟩)] : List Value).toArray = (#[(vi x0), (vu64 x1), .agg ⟨([vu64 x20] ++ (x21.map vu64 ++ ([.bool x22] ++ [])))⟩] : Array Value) := by simp [flat]
  rw [ea] at hw
  refine Calls.mono (Cs.below hw) fun e W' ⟨he, bel⟩ => ?_
  subst he
  exact ⟨_, rfl, _, _, _, [], _, [], hW', trodAll_mk1 (shut_bool Try.underlying4 _), (trodAll_cons_mk (Below.trod laidOut (by kernel_rfl) (of_decide_eq_true (by kernel_rfl)) h0 bel lt0) (trodAll_cons_mk (Below.trod laidOut (by kernel_rfl) (of_decide_eq_true (by kernel_rfl)) h1 bel lt1) (trodAll_cons_mk (Below.trod laidOut (by kernel_rfl) (of_decide_eq_true (by kernel_rfl)) h2 bel lt2) trodAll_mk0))), rfl, bel.frame _, fun h => by cases h⟩
theorem over : Rows.recNewsRow.holds Try.pinned (OpenSpec.ofChange Rows.recNewsSpec) :=
  OpenClaim.holds_of_wide 5 Try.f5 rfl rfl rfl rfl rfl rfl rfl ⟨rfl, rfl, rfl, rfl, rfl⟩ rfl rfl rfl rfl rfl (by kernel_rfl) Try.func5 (by kernel_rfl)
    (of_decide_eq_true (by kernel_rfl)) (by unfold Func.isWrapper; first | (rw [if_pos (by decide +kernel)]; kernel_rfl) | (rw [if_neg (by decide +kernel)]; exact ⟨rfl, rfl⟩))
    (fun os started H enc _ => lifted os started H enc)
theorem proved : Rows.RecNewsSaid := over
end recNewsDone
end Go.Proofs.Ythkcekgemanfdaa
