/- AesBlocks holds of every input. Conditions: none. -/
import Derived.Test.YtcmgadjnammahaaE6
namespace Go.Proofs.Ytcmgadjnammahaa
open Go.Vc Go.Ax Go.RowKit
set_option linter.unusedVariables false
set_option linter.unusedSimpArgs false
set_option maxRecDepth 20000
theorem aggT66 : aggB Try.prog 66 = true := by unfold aggB; rw [Try.underlying66]
theorem ce5 : Try.prog.cellsOf 5 = 1 := by kernel_rfl
theorem ce66 : Try.prog.cellsOf 66 = 16 := by kernel_rfl
theorem ce74 : Try.prog.cellsOf 74 = 176 := by kernel_rfl
theorem kt66 : Try.prog.keyTypeAt 2 66 = true := by kernel_rfl
theorem ag66 : aggB Try.prog 66 = true := by unfold aggB; rw [Try.underlying66]
theorem kt74 : Try.prog.keyTypeAt 3 74 = true := by kernel_rfl
theorem ag74 : aggB Try.prog 74 = true := by unfold aggB; rw [Try.underlying74]
theorem w_AesBlocks (key blk : List UInt8) (hkey : key.length = 16) (hbl : blk.length = 16) (w : World) :
    Cs Try.prog 14 [(.agg ⟨key.map vu8⟩), (.agg ⟨blk.map vu8⟩)].toArray w (fun v w1 => v = .bool true ∧ Chg w w1 []) := by
  refine Cs.of (n := 38) (args := [(.agg ⟨key.map vu8⟩), (.agg ⟨blk.map vu8⟩)]) Try.func14 rfl rfl rfl ?_
  have h_0 := HP.init w
  refine WP.seq ?_
  refine WP.reg ?_
  refine WL.box (v := (.agg ⟨key.map vu8⟩)) (segs := [(16, key.map vu8)]) h_0 rfl rfl (SsOk.cons (SOk.u8 hkey) SsOk.nil) rfl (fun b_1 w_2 h_3 => ?_)
  refine WL.box (v := (.agg ⟨blk.map vu8⟩)) (segs := [(16, blk.map vu8)]) h_3 rfl rfl (SsOk.cons (SOk.u8 hbl) SsOk.nil) rfl (fun b_4 w_5 h_6 => ?_)
  refine WL.q (Wn.no rfl) rfl rfl (R.assign (v := (.bool false)) rfl) ?_
  refine WL.nil ?_
  refine thn_n ?_
  refine WP.seq ?_
  refine WP.reg ?_
  refine WL.call (al := []) Try.call57 rfl rfl (c_TableR  _ ) rfl ?_
  rintro _ w_8 ⟨rfl, hc_7⟩
  have h_9 := h_6.same hc_7
  refine WL.alloc (segs := [(256, (List.replicate 256 (0 : UInt8)).map vu8)]) h_9 (zv Try.typeInfo72 rfl) rfl (SsOk.cons (SOk.u8 (List.length_replicate ..)) SsOk.nil) rfl (fun b_10 w_11 h_12 => ?_)
  refine WL.storeA (b := b_10) (off := 0) [] [(256, (List.replicate 256 (0 : UInt8)).map vu8)] [(256, (tabL sub).map vu8)] [] (ys := (tabL sub).map vu8) h_12 rfl rfl Try.sizeOf72 At.h (by decide) rfl rfl rfl rfl rfl rfl (SsOk.cons (SOk.u8 (tabL_len sub)) SsOk.nil) (fun w_13 h_14 => ?_)
  refine WL.nil ?_
  refine thn_n ?_
  refine WP.seq ?_
  refine WP.reg ?_
  refine WL.q (Wn.no rfl) rfl rfl (R.loadA (b := b_1) (off := 0) [] [(16, key.map vu8)] [] (cs := key.map vu8) rfl Try.isAgg66 Try.sizeOf66 (h_14.ok _ (.tail _ (.tail _ (.head _)))) rfl rfl rfl rfl) ?_
  refine WL.q (Wn.no rfl) rfl rfl (R.loadA (b := b_10) (off := 0) [] [(256, (tabL sub).map vu8)] [] (cs := (tabL sub).map vu8) rfl Try.isAgg72 Try.sizeOf72 (h_14.ok _ (.head _)) rfl rfl rfl rfl) ?_
  refine WL.call (al := [(.agg ⟨key.map vu8⟩), (.agg ⟨(tabL sub).map vu8⟩)]) Try.call58 rfl rfl (c_ExpandR (tabL sub) key (tabL_len sub) hkey _ ) rfl ?_
  rintro _ w_16 ⟨rfl, hc_15⟩
  have h_17 := h_14.same hc_15
  refine WL.alloc (segs := [(176, (List.replicate 176 (0 : UInt8)).map vu8)]) h_17 (zv Try.typeInfo74 rfl) rfl (SsOk.cons (SOk.u8 (List.length_replicate ..)) SsOk.nil) rfl (fun b_18 w_19 h_20 => ?_)
  refine WL.storeA (b := b_18) (off := 0) [] [(176, (List.replicate 176 (0 : UInt8)).map vu8)] [(176, (keysL (tabL sub) key).map vu8)] [] (ys := (keysL (tabL sub) key).map vu8) h_20 rfl rfl Try.sizeOf74 At.h (by decide) rfl rfl rfl rfl rfl rfl (SsOk.cons (SOk.u8 (keysL_len ..)) SsOk.nil) (fun w_21 h_22 => ?_)
  refine WL.nil ?_
  refine thn_n ?_
  refine WP.seq ?_
  refine WP.drawT (SL w.heap.size [.blk b_18 .nw 74 [(176, (keysL (tabL sub) key).map vu8)], .blk b_10 .nw 72 [(256, (tabL sub).map vu8)], .blk b_4 .nw 66 [(16, blk.map vu8)], .blk b_1 .nw 66 [(16, key.map vu8)]]) (.q 0 (.q 2 (.s 1 (.q 3 (.q 4 (.q 5 (.q 6 (.q 8 (.q 9 (.q 10 (.s 7 (.s 11 (.q 12 (.q 13 (.q 14 (.q 15 (.q 16 (.q 18 (.q 19 (.q 20 (.s 17 (.s 21 (.q 22 (.q 23 (.q 24 (.s 25 (.q 26 (.q 27 .nil)))))))))))))))))))))))))))) (by kernel_rfl) (by kernel_rfl) rfl (by kernel_rfl) (fun w_23 hc_25 => (SL.cons ((h_22.same hc_25).ok _ (.head _)) (SL.cons ((h_22.same hc_25).ok _ (.tail _ (.head _))) (SL.cons ((h_22.same hc_25).ok _ (.tail _ (.tail _ (.head _)))) (SL.cons ((h_22.same hc_25).ok _ (.tail _ (.tail _ (.tail _ (.head _))))) (SL.nil _ _)))))) (fun w_23 hc_25 => ?_)
  have h_24 := h_22.same hc_25
  refine WT.q rfl (Wn.no rfl) rfl rfl (fun wq hS => R.loadA (b := b_1) (off := 0) [] [(16, key.map vu8)] [] (cs := key.map vu8) rfl Try.isAgg66 Try.sizeOf66 (hS _ (.tail _ (.tail _ (.tail _ (.head _))))) rfl rfl rfl rfl) ?_
  refine WT.q rfl (Wn.no rfl) rfl rfl (fun wq hS => R.loadA (b := b_18) (off := 0) [] [(176, (keysL (tabL sub) key).map vu8)] [] (cs := (keysL (tabL sub) key).map vu8) rfl Try.isAgg74 Try.sizeOf74 (hS _ (.head _)) rfl rfl rfl rfl) ?_
  refine WT.s ?_
  refine Op1.one rfl (Wn.no rfl) ?_
  refine WL.call (al := [(.agg ⟨key.map vu8⟩)]) Try.call59 rfl rfl (c_Expand key hkey _ ) rfl ?_
  rintro _ w_27 ⟨rfl, hc_26⟩
  have h_28 := h_24.same hc_26
  refine WL.nil ?_
  refine ⟨(SL.cons (h_28.ok _ (.head _)) (SL.cons (h_28.ok _ (.tail _ (.head _))) (SL.cons (h_28.ok _ (.tail _ (.tail _ (.head _)))) (SL.cons (h_28.ok _ (.tail _ (.tail _ (.tail _ (.head _))))) (SL.nil _ _))))), ?_⟩
  refine WT.q rfl (Wn.no rfl) rfl rfl (fun wq hS => R.eqA (xs := (keysL (tabL sub) key).map vu8) (ys := (keysL (tabL sub) key).map vu8) (r := true) rfl rfl Try.eqGuardType74 kt74 (by decide) ag74 (Typ.u8ss (n := 11) (s := 16) Try.underlying74 ce74 Try.underlying66 ce66 Try.underlying5 ce5 (keysL_len ..)) (Typ.u8ss (n := 11) (s := 16) Try.underlying74 ce74 Try.underlying66 ce66 Try.underlying5 ce5 (keysL_len ..)) (eqT rfl)) ?_
  refine WT.q rfl (Wn.no rfl) rfl rfl (fun wq hS => R.move (v := (.bool true)) rfl) ?_
  refine WT.q rfl (Wn.yes rfl rfl rfl) rfl rfl (fun wq hS => R.loadA (b := b_1) (off := 0) [] [(16, key.map vu8)] [] (cs := key.map vu8) rfl Try.isAgg66 Try.sizeOf66 (hS _ (.tail _ (.tail _ (.tail _ (.head _))))) rfl rfl rfl rfl) ?_
  refine WT.q rfl (Wn.yes rfl rfl rfl) rfl rfl (fun wq hS => R.loadA (b := b_4) (off := 0) [] [(16, blk.map vu8)] [] (cs := blk.map vu8) rfl Try.isAgg66 Try.sizeOf66 (hS _ (.tail _ (.tail _ (.head _)))) rfl rfl rfl rfl) ?_
  refine WT.q rfl (Wn.yes rfl rfl rfl) rfl rfl (fun wq hS => R.loadA (b := b_18) (off := 0) [] [(176, (keysL (tabL sub) key).map vu8)] [] (cs := (keysL (tabL sub) key).map vu8) rfl Try.isAgg74 Try.sizeOf74 (hS _ (.head _)) rfl rfl rfl rfl) ?_
  refine WT.q rfl (Wn.yes rfl rfl rfl) rfl rfl (fun wq hS => R.loadA (b := b_4) (off := 0) [] [(16, blk.map vu8)] [] (cs := blk.map vu8) rfl Try.isAgg66 Try.sizeOf66 (hS _ (.tail _ (.tail _ (.head _)))) rfl rfl rfl rfl) ?_
  refine WT.q rfl (Wn.yes rfl rfl rfl) rfl rfl (fun wq hS => R.loadA (b := b_10) (off := 0) [] [(256, (tabL sub).map vu8)] [] (cs := (tabL sub).map vu8) rfl Try.isAgg72 Try.sizeOf72 (hS _ (.tail _ (.head _))) rfl rfl rfl rfl) ?_
  refine WT.s ?_
  refine Op1.one rfl (Wn.yes rfl rfl rfl) ?_
  refine WL.call (al := [(.agg ⟨key.map vu8⟩), (.agg ⟨blk.map vu8⟩)]) Try.call60 rfl rfl (c_Encipher key blk hkey hbl _ ) rfl ?_
  rintro _ w_30 ⟨rfl, hc_29⟩
  have h_31 := h_28.same hc_29
  refine WL.nil ?_
  refine ⟨(SL.cons (h_31.ok _ (.head _)) (SL.cons (h_31.ok _ (.tail _ (.head _))) (SL.cons (h_31.ok _ (.tail _ (.tail _ (.head _)))) (SL.cons (h_31.ok _ (.tail _ (.tail _ (.tail _ (.head _))))) (SL.nil _ _))))), ?_⟩
  refine WT.s ?_
  refine Op1.one rfl (Wn.yes rfl rfl rfl) ?_
  refine WL.call (al := [(.agg ⟨(keysL (tabL sub) key).map vu8⟩), (.agg ⟨blk.map vu8⟩), (.agg ⟨(tabL sub).map vu8⟩)]) Try.call61 rfl rfl (c_EncipherR (keysL (tabL sub) key) (tabL sub) blk (keysL_len ..) (tabL_len sub) hbl _ ) rfl ?_
  rintro _ w_33 ⟨rfl, hc_32⟩
  have h_34 := h_31.same hc_32
  refine WL.nil ?_
  refine ⟨(SL.cons (h_34.ok _ (.head _)) (SL.cons (h_34.ok _ (.tail _ (.head _))) (SL.cons (h_34.ok _ (.tail _ (.tail _ (.head _)))) (SL.cons (h_34.ok _ (.tail _ (.tail _ (.tail _ (.head _))))) (SL.nil _ _))))), ?_⟩
  refine WT.q rfl (Wn.yes rfl rfl rfl) rfl rfl (fun wq hS => R.eqA (xs := (enc key blk).map vu8) (ys := (encN (keysL (tabL sub) key) (tabL sub) blk 10).map vu8) (r := true) rfl rfl Try.eqGuardType66 kt66 (by decide) ag66 (Typ.u8s Try.underlying66 ce66 Try.underlying5 ce5 (enc_len hbl)) (Typ.u8s Try.underlying66 ce66 Try.underlying5 ce5 (encN_len (keysL_len ..) hbl (by omega))) (eqT rfl)) ?_
  refine WT.q rfl (Wn.no rfl) rfl rfl (fun wq hS => R.pickT (v := (.bool true)) rfl rfl) ?_
  refine WT.q rfl (Wn.no rfl) rfl rfl (fun wq hS => R.move (v := (.bool true)) rfl) ?_
  refine WT.q rfl (Wn.yes rfl rfl rfl) rfl rfl (fun wq hS => R.loadA (b := b_1) (off := 0) [] [(16, key.map vu8)] [] (cs := key.map vu8) rfl Try.isAgg66 Try.sizeOf66 (hS _ (.tail _ (.tail _ (.tail _ (.head _))))) rfl rfl rfl rfl) ?_
  refine WT.q rfl (Wn.yes rfl rfl rfl) rfl rfl (fun wq hS => R.loadA (b := b_4) (off := 0) [] [(16, blk.map vu8)] [] (cs := blk.map vu8) rfl Try.isAgg66 Try.sizeOf66 (hS _ (.tail _ (.tail _ (.head _)))) rfl rfl rfl rfl) ?_
  refine WT.q rfl (Wn.yes rfl rfl rfl) rfl rfl (fun wq hS => R.loadA (b := b_18) (off := 0) [] [(176, (keysL (tabL sub) key).map vu8)] [] (cs := (keysL (tabL sub) key).map vu8) rfl Try.isAgg74 Try.sizeOf74 (hS _ (.head _)) rfl rfl rfl rfl) ?_
  refine WT.q rfl (Wn.yes rfl rfl rfl) rfl rfl (fun wq hS => R.loadA (b := b_4) (off := 0) [] [(16, blk.map vu8)] [] (cs := blk.map vu8) rfl Try.isAgg66 Try.sizeOf66 (hS _ (.tail _ (.tail _ (.head _)))) rfl rfl rfl rfl) ?_
  refine WT.q rfl (Wn.yes rfl rfl rfl) rfl rfl (fun wq hS => R.loadA (b := b_10) (off := 0) [] [(256, (tabL sub).map vu8)] [] (cs := (tabL sub).map vu8) rfl Try.isAgg72 Try.sizeOf72 (hS _ (.tail _ (.head _))) rfl rfl rfl rfl) ?_
  refine WT.s ?_
  refine Op1.one rfl (Wn.yes rfl rfl rfl) ?_
  refine WL.call (al := [(.agg ⟨key.map vu8⟩), (.agg ⟨blk.map vu8⟩)]) Try.call62 rfl rfl (c_Decipher key blk hkey hbl _ ) rfl ?_
  rintro _ w_36 ⟨rfl, hc_35⟩
  have h_37 := h_34.same hc_35
  refine WL.nil ?_
  refine ⟨(SL.cons (h_37.ok _ (.head _)) (SL.cons (h_37.ok _ (.tail _ (.head _))) (SL.cons (h_37.ok _ (.tail _ (.tail _ (.head _)))) (SL.cons (h_37.ok _ (.tail _ (.tail _ (.tail _ (.head _))))) (SL.nil _ _))))), ?_⟩
  refine WT.s ?_
  refine Op1.one rfl (Wn.yes rfl rfl rfl) ?_
  refine WL.call (al := [(.agg ⟨(keysL (tabL sub) key).map vu8⟩), (.agg ⟨blk.map vu8⟩), (.agg ⟨(tabL sub).map vu8⟩)]) Try.call63 rfl rfl (c_DecipherR (keysL (tabL sub) key) blk (keysL_len ..) hbl _ ) rfl ?_
  rintro _ w_39 ⟨rfl, hc_38⟩
  have h_40 := h_37.same hc_38
  refine WL.nil ?_
  refine ⟨(SL.cons (h_40.ok _ (.head _)) (SL.cons (h_40.ok _ (.tail _ (.head _))) (SL.cons (h_40.ok _ (.tail _ (.tail _ (.head _)))) (SL.cons (h_40.ok _ (.tail _ (.tail _ (.tail _ (.head _))))) (SL.nil _ _))))), ?_⟩
  refine WT.q rfl (Wn.yes rfl rfl rfl) rfl rfl (fun wq hS => R.eqA (xs := (dec (keysL (tabL sub) key) (tabL unsub) blk).map vu8) (ys := (dec (keysL (tabL sub) key) (tabL unsub) blk).map vu8) (r := true) rfl rfl Try.eqGuardType66 kt66 (by decide) ag66 (Typ.u8s Try.underlying66 ce66 Try.underlying5 ce5 (dec_len (keysL_len ..) hbl)) (Typ.u8s Try.underlying66 ce66 Try.underlying5 ce5 (dec_len (keysL_len ..) hbl)) (eqT rfl)) ?_
  refine WT.q rfl (Wn.no rfl) rfl rfl (fun wq hS => R.pickT (v := (.bool true)) rfl rfl) ?_
  refine WT.q rfl (Wn.no rfl) rfl rfl (fun wq hS => R.move (v := (.bool true)) rfl) ?_
  refine WT.s ?_
  refine Op1.one rfl (Wn.yes rfl rfl rfl) ?_
  refine WL.call (al := []) Try.call43 rfl rfl (c_known4  _ ) rfl ?_
  rintro _ w_42 ⟨rfl, hc_41⟩
  have h_43 := h_40.same hc_41
  refine WL.nil ?_
  refine ⟨(SL.cons (h_43.ok _ (.head _)) (SL.cons (h_43.ok _ (.tail _ (.head _))) (SL.cons (h_43.ok _ (.tail _ (.tail _ (.head _)))) (SL.cons (h_43.ok _ (.tail _ (.tail _ (.tail _ (.head _))))) (SL.nil _ _))))), ?_⟩
  refine WT.q rfl (Wn.no rfl) rfl rfl (fun wq hS => R.pickT (v := (.bool true)) rfl rfl) ?_
  refine WT.q rfl (Wn.no rfl) rfl rfl (fun wq hS => R.assign (v := (.bool true)) rfl) ?_
  refine WT.nil ?_
  refine thn_n ?_
  refine WP.ret ?_
  refine ret_of Try.results14 (RV.tmp (v := (.bool true)) rfl RV.nil) ?_
  exact ⟨rfl, h_43.chgS⟩
namespace aesBlocksDone
open Go.ChangeShapes Go.WideShapes Go.ChangeAt
theorem own : ownKnob Try.prog.godebug = none := by kernel_rfl
theorem laidOut : laidOutB Try.prog = true := by kernel_rfl
set_option maxRecDepth 100000 in
theorem lifted (os : Os) (started : os.Started) (H : Type) (enc : TypeId × Value → H) :
    ReturnsInHanded {} Try.checked os 14 .any (Rows.aesBlocksSpec.pre6 enc Try.prog Try.f14 Rows.aesBlocksRow.domain false) (Rows.aesBlocksSpec.post enc Try.prog Try.f14 false true false false) := by
  refine returnsInHanded_of_change (C := Try.checked) own started (by kernel_rfl) Try.func14
    (ChangeSpec.witness6 (enc := enc) (C := Try.checked) false ⟨#[], #[.agg #[.int .u8 0, .int .u8 0, .int .u8 0, .int .u8 0, .int .u8 0, .int .u8 0, .int .u8 0, .int .u8 0, .int .u8 0, .int .u8 0, .int .u8 0, .int .u8 0, .int .u8 0, .int .u8 0, .int .u8 0, .int .u8 0], .agg #[.int .u8 0, .int .u8 0, .int .u8 0, .int .u8 0, .int .u8 0, .int .u8 0, .int .u8 0, .int .u8 0, .int .u8 0, .int .u8 0, .int .u8 0, .int .u8 0, .int .u8 0, .int .u8 0, .int .u8 0, .int .u8 0]], []⟩ 8 (by kernel_rfl) (by kernel_rfl) (by kernel_rfl) (by kernel_rfl)) ?_
  intro W base args ds gs before hval0 hW hcnd _
  have hval : ∀ (j : Nat) t v, Try.f14.params[j]? = some t → args[j]? = some v → Value.okWide Try.prog W .any base t v := hval0
  have hW' := hW
  obtain ⟨p, q, hA0, hV, rfl, hfz, hnd⟩ := hW
  have hA : DataW.TrodAll enc Try.prog W 0 (fun _ => true) true Try.f14.params.toList args.toList ds p := hA0
  rw [Try.params14] at hA hval
  obtain ⟨v0, vs0, d0, ds0, p0, q0, hargs, rfl, rfl, h0, r0⟩ := trodAll_cons hA
  obtain ⟨v1, vs1, d1, ds1, p1, q1, rfl, rfl, rfl, h1, r1⟩ := trodAll_cons r0
  obtain ⟨rfl, rfl, rfl⟩ := trodAll_nil r1
  obtain rfl : args = #[v0, v1] := by cases args; simp_all
  obtain ⟨rfl, rfl⟩ := trodVars_none hV
  have lt0 : ∀ x ∈ p0, x.block < W.heap.size := by obtain ⟨m, hm⟩ := h0; exact DataW.trod_lt m _ _ _ hm
  obtain ⟨cs0, rfl⟩ := okWide_agg aggT66 (hval 0 66 v0 rfl rfl)
  have tr0 : Tr Try.prog W 66 cs0 := Tr.of h0 rfl
  obtain ⟨x0, rfl, l_x0⟩ := Tr.arr8 Try.underlying66 ce66 ce5 Try.underlying5 tr0
  have lt1 : ∀ x ∈ p1, x.block < W.heap.size := by obtain ⟨m, hm⟩ := h1; exact DataW.trod_lt m _ _ _ hm
  obtain ⟨cs1, rfl⟩ := okWide_agg aggT66 (hval 1 66 v1 rfl rfl)
  have tr1 : Tr Try.prog W 66 cs1 := Tr.of h1 rfl
  obtain ⟨x1, rfl, l_x1⟩ := Tr.arr8 Try.underlying66 ce66 ce5 Try.underlying5 tr1
  clear hA0 hval0
  have hw : Cs Try.prog 14 [(.agg ⟨x0.map vu8⟩), (.agg ⟨x1.map vu8⟩)].toArray W (fun v w1 => v = .bool true ∧ Chg W w1 []) := w_AesBlocks x0 x1 l_x0 l_x1 W
  have ea : ([(.agg ⟨x0.map vu8⟩), (.agg ⟨x1.map vu8⟩)] : List Value).toArray = (#[.agg ⟨x0.map vu8⟩, .agg ⟨x1.map vu8⟩] : Array Value) := by simp [flat]
  rw [ea] at hw
  refine Calls.mono (Cs.below hw) fun e W' ⟨he, bel⟩ => ?_
  subst he
  exact ⟨_, rfl, _, _, _, [], _, [], hW', trodAll_mk1 (shut_bool Try.underlying4 _), (trodAll_cons_mk (Below.trod laidOut (by kernel_rfl) (of_decide_eq_true (by kernel_rfl)) h0 bel lt0) (trodAll_cons_mk (Below.trod laidOut (by kernel_rfl) (of_decide_eq_true (by kernel_rfl)) h1 bel lt1) trodAll_mk0)), rfl, bel.frame _, fun h => by cases h⟩
theorem over : Rows.aesBlocksRow.holds Try.pinned (OpenSpec.ofChange Rows.aesBlocksSpec) :=
  OpenClaim.holds_of_wide 14 Try.f14 rfl rfl rfl rfl rfl rfl rfl ⟨rfl, rfl, rfl, rfl, rfl⟩ rfl rfl rfl rfl rfl (by kernel_rfl) Try.func14 (by kernel_rfl)
    (of_decide_eq_true (by kernel_rfl)) (by unfold Func.isWrapper; first | (rw [if_pos (by decide +kernel)]; kernel_rfl) | (rw [if_neg (by decide +kernel)]; exact ⟨rfl, rfl⟩))
    (fun os started H enc _ => lifted os started H enc)
theorem proved : Rows.AesBlocksSaid := over
end aesBlocksDone
end Go.Proofs.Ytcmgadjnammahaa
