/- ParamsRecs holds of every input. Conditions: none. -/
import Derived.Test.YthkcekgemanfdaaC3
namespace Go.Proofs.Ythkcekgemanfdaa
open Go.Vc Go.RowKit
set_option linter.unusedVariables false
set_option linter.unusedSimpArgs false
set_option maxRecDepth 20000
theorem w_ParamsRecs_t (pc : UInt64) (rg : List UInt64) (hrg : rg.length = 8) (run : Bool) (h : mayRec pc = true) (w : World) :
    Cs Try.prog 7 [(.agg ⟨flat [(1, [(vu64 pc)]), (8, rg.map vu64), (1, [(.bool run)])]⟩)].toArray w (fun v w1 => v = .bool true ∧ Chg w w1 []) := by
  refine Cs.of (n := 41) (args := [(.agg ⟨flat [(1, [(vu64 pc)]), (8, rg.map vu64), (1, [(.bool run)])]⟩)]) Try.func7 rfl rfl rfl ?_
  have h_0 := HP.init w
  refine WP.seq ?_
  refine WP.reg ?_
  refine WL.box (v := (.agg ⟨flat [(1, [(vu64 pc)]), (8, rg.map vu64), (1, [(.bool run)])]⟩)) (segs := [(1, [(vu64 pc)]), (8, rg.map vu64), (1, [(.bool run)])]) h_0 rfl rfl (SsOk.cons (SOk.v rfl) (SsOk.cons (SOk.u64 hrg) (SsOk.cons (SOk.v rfl) SsOk.nil))) rfl (fun b_1 w_2 h_3 => ?_)
  refine WL.q (Wn.no rfl) rfl rfl (R.assign (v := (.bool false)) rfl) ?_
  refine WL.nil ?_
  refine thn_n ?_
  refine WP.seq ?_
  refine WP.reg ?_
  refine WL.q (Wn.no rfl) rfl rfl (R.loadA (b := b_1) (off := 0) [] [(1, [(vu64 pc)]), (8, rg.map vu64), (1, [(.bool run)])] [] (cs := flat [(1, [(vu64 pc)]), (8, rg.map vu64), (1, [(.bool run)])]) rfl Try.isAgg45 Try.sizeOf45 (h_3.ok _ (.head _)) rfl rfl rfl rfl) ?_
  refine WL.call (al := [(.agg ⟨flat [(1, [(vu64 pc)]), (8, rg.map vu64), (1, [(.bool run)])]⟩)]) Try.call24 rfl rfl (c_RecBytes_t pc rg hrg run h _ ) rfl ?_
  rintro _ w_5 ⟨rfl, hc_4⟩
  have h_6 := h_3.same hc_4
  refine WL.q (Wn.no rfl) rfl rfl (R.move (v := (.tuple [(.agg ⟨(recB pc rg run).map vu8⟩), (vi 0)].toArray)) rfl) ?_
  refine WL.q (Wn.no rfl) rfl rfl (R.extract (l := [(.agg ⟨(recB pc rg run).map vu8⟩), (vi 0)]) (v := (.agg ⟨(recB pc rg run).map vu8⟩)) rfl rfl) ?_
  refine WL.q (Wn.no rfl) rfl rfl (R.extract (l := [(.agg ⟨(recB pc rg run).map vu8⟩), (vi 0)]) (v := (vi 0)) rfl rfl) ?_
  refine WL.alloc (segs := [(128, (List.replicate 128 (0 : UInt8)).map vu8)]) h_6 (zv Try.typeInfo53 rfl) rfl (SsOk.cons (SOk.u8 (List.length_replicate ..)) SsOk.nil) rfl (fun b_7 w_8 h_9 => ?_)
  refine WL.storeA (b := b_7) (off := 0) [] [(128, (List.replicate 128 (0 : UInt8)).map vu8)] [(128, (recB pc rg run).map vu8)] [] (ys := (recB pc rg run).map vu8) h_9 rfl rfl Try.sizeOf53 At.h (by decide) rfl rfl rfl rfl rfl rfl (SsOk.cons (SOk.u8 (recB_len ..)) SsOk.nil) (fun w_10 h_11 => ?_)
  refine WL.q (Wn.no rfl) rfl rfl (R.assign (v := (vi 0)) rfl) ?_
  refine WL.nil ?_
  refine thn_n ?_
  refine WP.seq ?_
  refine WP.seq ?_
  refine WP.drawT (SL w.heap.size [.blk b_7 .nw 53 [(128, (recB pc rg run).map vu8)], .blk b_1 .nw 45 [(1, [(vu64 pc)]), (8, rg.map vu64), (1, [(.bool run)])]]) (.q 0 (.q 2 (.s 1 (.s 3 (.q 4 .nil))))) (by kernel_rfl) (by kernel_rfl) rfl (by kernel_rfl) (fun w_12 hc_14 => (SL.cons ((h_11.same hc_14).ok _ (.head _)) (SL.cons ((h_11.same hc_14).ok _ (.tail _ (.head _))) (SL.nil _ _)))) (fun w_12 hc_14 => ?_)
  have h_13 := h_11.same hc_14
  refine WT.q rfl (Wn.no rfl) rfl rfl (fun wq hS => R.loadA (b := b_1) (off := 0) [] [(1, [(vu64 pc)]), (8, rg.map vu64), (1, [(.bool run)])] [] (cs := flat [(1, [(vu64 pc)]), (8, rg.map vu64), (1, [(.bool run)])]) rfl Try.isAgg45 Try.sizeOf45 (hS _ (.tail _ (.head _))) rfl rfl rfl rfl) ?_
  refine WT.q rfl (Wn.no rfl) rfl rfl (fun wq hS => R.loadA (b := b_1) (off := 0) [] [(1, [(vu64 pc)]), (8, rg.map vu64), (1, [(.bool run)])] [] (cs := flat [(1, [(vu64 pc)]), (8, rg.map vu64), (1, [(.bool run)])]) rfl Try.isAgg45 Try.sizeOf45 (hS _ (.tail _ (.head _))) rfl rfl rfl rfl) ?_
  refine WT.s ?_
  refine Op1.one rfl (Wn.no rfl) ?_
  refine WL.call (al := [(.agg ⟨flat [(1, [(vu64 pc)]), (8, rg.map vu64), (1, [(.bool run)])]⟩)]) Try.call25 rfl rfl (c_MayRec pc rg hrg run _ ) rfl ?_
  rintro _ w_16 ⟨rfl, hc_15⟩
  have h_17 := h_13.same hc_15
  refine WL.nil ?_
  refine ⟨(SL.cons (h_17.ok _ (.head _)) (SL.cons (h_17.ok _ (.tail _ (.head _))) (SL.nil _ _))), ?_⟩
  refine WT.s ?_
  refine Op1.one rfl (Wn.no rfl) ?_
  refine WL.call (al := [(.agg ⟨flat [(1, [(vu64 pc)]), (8, rg.map vu64), (1, [(.bool run)])]⟩)]) Try.call26 rfl rfl (c_MayRecR pc rg hrg run _ ) rfl ?_
  rintro _ w_19 ⟨rfl, hc_18⟩
  have h_20 := h_17.same hc_18
  refine WL.nil ?_
  refine ⟨(SL.cons (h_20.ok _ (.head _)) (SL.cons (h_20.ok _ (.tail _ (.head _))) (SL.nil _ _))), ?_⟩
  refine WT.q rfl (Wn.no rfl) rfl rfl (fun wq hS => R.neB (a := true) (b := true) (c := false) (congrArg Value.bool h) (congrArg Value.bool h) Try.underlying4 rfl) ?_
  refine WT.nil ?_
  refine thn_n ?_
  refine WP.condF rfl ?_
  refine WP.skip ?_
  refine thn_n ?_
  refine WP.seq ?_
  refine WP.seq ?_
  refine WP.reg ?_
  refine WL.q (Wn.no rfl) rfl rfl (R.loadA (b := b_1) (off := 0) [] [(1, [(vu64 pc)]), (8, rg.map vu64), (1, [(.bool run)])] [] (cs := flat [(1, [(vu64 pc)]), (8, rg.map vu64), (1, [(.bool run)])]) rfl Try.isAgg45 Try.sizeOf45 (h_20.ok _ (.tail _ (.head _))) rfl rfl rfl rfl) ?_
  refine WL.call (al := [(.agg ⟨flat [(1, [(vu64 pc)]), (8, rg.map vu64), (1, [(.bool run)])]⟩)]) Try.call26 rfl rfl (c_MayRecR pc rg hrg run _ ) rfl ?_
  rintro _ w_22 ⟨rfl, hc_21⟩
  have h_23 := h_20.same hc_21
  refine WL.q (Wn.no rfl) rfl rfl (R.not (b := true) (congrArg Value.bool h)) ?_
  refine WL.nil ?_
  refine thn_n ?_
  refine WP.condF rfl ?_
  refine WP.skip ?_
  refine thn_n ?_
  refine WP.seq ?_
  refine WP.drawT (SL w.heap.size [.blk b_7 .nw 53 [(128, (recB pc rg run).map vu8)], .blk b_1 .nw 45 [(1, [(vu64 pc)]), (8, rg.map vu64), (1, [(.bool run)])]]) (.q 0 (.q 1 (.s 2 (.q 3 (.q 4 (.q 5 (.s 6 (.q 7 (.q 8 (.q 9 (.s 10 (.q 11 (.q 12 .nil))))))))))))) (by kernel_rfl) (by kernel_rfl) rfl (by kernel_rfl) (fun w_24 hc_26 => (SL.cons ((h_23.same hc_26).ok _ (.head _)) (SL.cons ((h_23.same hc_26).ok _ (.tail _ (.head _))) (SL.nil _ _)))) (fun w_24 hc_26 => ?_)
  have h_25 := h_23.same hc_26
  refine WT.q rfl (Wn.no rfl) rfl rfl (fun wq hS => R.loadA (b := b_7) (off := 0) [] [(128, (recB pc rg run).map vu8)] [] (cs := (recB pc rg run).map vu8) rfl Try.isAgg53 Try.sizeOf53 (hS _ (.head _)) rfl rfl rfl rfl) ?_
  refine WT.q rfl (Wn.no rfl) rfl rfl (fun wq hS => R.loadA (b := b_1) (off := 0) [] [(1, [(vu64 pc)]), (8, rg.map vu64), (1, [(.bool run)])] [] (cs := flat [(1, [(vu64 pc)]), (8, rg.map vu64), (1, [(.bool run)])]) rfl Try.isAgg45 Try.sizeOf45 (hS _ (.tail _ (.head _))) rfl rfl rfl rfl) ?_
  refine WT.s ?_
  refine Op1.one rfl (Wn.no rfl) ?_
  refine WL.call (al := [(.agg ⟨flat [(1, [(vu64 pc)]), (8, rg.map vu64), (1, [(.bool run)])]⟩)]) Try.call27 rfl rfl (c_RecBytesR pc rg hrg run _ ) rfl ?_
  rintro _ w_28 ⟨rfl, hc_27⟩
  have h_29 := h_25.same hc_27
  refine WL.nil ?_
  refine ⟨(SL.cons (h_29.ok _ (.head _)) (SL.cons (h_29.ok _ (.tail _ (.head _))) (SL.nil _ _))), ?_⟩
  refine WT.q rfl (Wn.no rfl) rfl rfl (fun wq hS => R.eqA (xs := (recB pc rg run).map vu8) (ys := (recB pc rg run).map vu8) (r := true) rfl rfl Try.eqGuardType53 kt53 (by decide) ag53 (Typ.u8s Try.underlying53 ce53 Try.underlying5 ce5 (recB_len ..)) (Typ.u8s Try.underlying53 ce53 Try.underlying5 ce5 (recB_len ..)) (eqT rfl)) ?_
  refine WT.q rfl (Wn.no rfl) rfl rfl (fun wq hS => R.move (v := (.bool true)) rfl) ?_
  refine WT.q rfl (Wn.yes rfl rfl rfl) rfl rfl (fun wq hS => R.move (v := (vi 0)) rfl) ?_
  refine WT.s ?_
  refine Op1.one rfl (Wn.yes rfl rfl rfl) ?_
  refine WL.call (al := [(vi 0)]) Try.call21 rfl rfl (c_num10 0 (by omega) _ ) rfl ?_
  rintro _ w_31 ⟨rfl, hc_30⟩
  have h_32 := h_29.same hc_30
  refine WL.nil ?_
  refine ⟨(SL.cons (h_32.ok _ (.head _)) (SL.cons (h_32.ok _ (.tail _ (.head _))) (SL.nil _ _))), ?_⟩
  refine WT.q rfl (Wn.yes rfl rfl rfl) rfl rfl (fun wq hS => R.bin (v := (.bool true)) rfl rfl (bi_eql (r := true) (by decide))) ?_
  refine WT.q rfl (Wn.no rfl) rfl rfl (fun wq hS => R.pickT (v := (.bool true)) rfl rfl) ?_
  refine WT.q rfl (Wn.no rfl) rfl rfl (fun wq hS => R.move (v := (.bool true)) rfl) ?_
  refine WT.s ?_
  refine Op1.one rfl (Wn.yes rfl rfl rfl) ?_
  refine WL.call (al := []) Try.call22 rfl rfl (c_known  _ ) rfl ?_
  rintro _ w_34 ⟨rfl, hc_33⟩
  have h_35 := h_32.same hc_33
  refine WL.nil ?_
  refine ⟨(SL.cons (h_35.ok _ (.head _)) (SL.cons (h_35.ok _ (.tail _ (.head _))) (SL.nil _ _))), ?_⟩
  refine WT.q rfl (Wn.no rfl) rfl rfl (fun wq hS => R.pickT (v := (.bool true)) rfl rfl) ?_
  refine WT.q rfl (Wn.no rfl) rfl rfl (fun wq hS => R.assign (v := (.bool true)) rfl) ?_
  refine WT.nil ?_
  refine thn_n ?_
  refine WP.ret ?_
  refine ret_of Try.results7 (RV.tmp (v := (.bool true)) rfl RV.nil) ?_
  exact ⟨rfl, h_35.chgS⟩

theorem w_ParamsRecs_f (pc : UInt64) (rg : List UInt64) (hrg : rg.length = 8) (run : Bool) (h : mayRec pc = false) (w : World) :
    Cs Try.prog 7 [(.agg ⟨flat [(1, [(vu64 pc)]), (8, rg.map vu64), (1, [(.bool run)])]⟩)].toArray w (fun v w1 => v = .bool true ∧ Chg w w1 []) := by
  refine Cs.of (n := 41) (args := [(.agg ⟨flat [(1, [(vu64 pc)]), (8, rg.map vu64), (1, [(.bool run)])]⟩)]) Try.func7 rfl rfl rfl ?_
  have h_0 := HP.init w
  refine WP.seq ?_
  refine WP.reg ?_
  refine WL.box (v := (.agg ⟨flat [(1, [(vu64 pc)]), (8, rg.map vu64), (1, [(.bool run)])]⟩)) (segs := [(1, [(vu64 pc)]), (8, rg.map vu64), (1, [(.bool run)])]) h_0 rfl rfl (SsOk.cons (SOk.v rfl) (SsOk.cons (SOk.u64 hrg) (SsOk.cons (SOk.v rfl) SsOk.nil))) rfl (fun b_1 w_2 h_3 => ?_)
  refine WL.q (Wn.no rfl) rfl rfl (R.assign (v := (.bool false)) rfl) ?_
  refine WL.nil ?_
  refine thn_n ?_
  refine WP.seq ?_
  refine WP.reg ?_
  refine WL.q (Wn.no rfl) rfl rfl (R.loadA (b := b_1) (off := 0) [] [(1, [(vu64 pc)]), (8, rg.map vu64), (1, [(.bool run)])] [] (cs := flat [(1, [(vu64 pc)]), (8, rg.map vu64), (1, [(.bool run)])]) rfl Try.isAgg45 Try.sizeOf45 (h_3.ok _ (.head _)) rfl rfl rfl rfl) ?_
  refine WL.call (al := [(.agg ⟨flat [(1, [(vu64 pc)]), (8, rg.map vu64), (1, [(.bool run)])]⟩)]) Try.call24 rfl rfl (c_RecBytes_f pc rg hrg run h _ ) rfl ?_
  rintro _ w_5 ⟨rfl, hc_4⟩
  have h_6 := h_3.same hc_4
  refine WL.q (Wn.no rfl) rfl rfl (R.move (v := (.tuple [(.agg ⟨(List.replicate 128 (0 : UInt8)).map vu8⟩), (vi 2)].toArray)) rfl) ?_
  refine WL.q (Wn.no rfl) rfl rfl (R.extract (l := [(.agg ⟨(List.replicate 128 (0 : UInt8)).map vu8⟩), (vi 2)]) (v := (.agg ⟨(List.replicate 128 (0 : UInt8)).map vu8⟩)) rfl rfl) ?_
  refine WL.q (Wn.no rfl) rfl rfl (R.extract (l := [(.agg ⟨(List.replicate 128 (0 : UInt8)).map vu8⟩), (vi 2)]) (v := (vi 2)) rfl rfl) ?_
  refine WL.alloc (segs := [(128, (List.replicate 128 (0 : UInt8)).map vu8)]) h_6 (zv Try.typeInfo53 rfl) rfl (SsOk.cons (SOk.u8 (List.length_replicate ..)) SsOk.nil) rfl (fun b_7 w_8 h_9 => ?_)
  refine WL.storeA (b := b_7) (off := 0) [] [(128, (List.replicate 128 (0 : UInt8)).map vu8)] [(128, (List.replicate 128 (0 : UInt8)).map vu8)] [] (ys := (List.replicate 128 (0 : UInt8)).map vu8) h_9 rfl rfl Try.sizeOf53 At.h (by decide) rfl rfl rfl rfl rfl rfl (SsOk.cons (SOk.u8 (List.length_replicate ..)) SsOk.nil) (fun w_10 h_11 => ?_)
  refine WL.q (Wn.no rfl) rfl rfl (R.assign (v := (vi 2)) rfl) ?_
  refine WL.nil ?_
  refine thn_n ?_
  refine WP.seq ?_
  refine WP.seq ?_
  refine WP.drawT (SL w.heap.size [.blk b_7 .nw 53 [(128, (List.replicate 128 (0 : UInt8)).map vu8)], .blk b_1 .nw 45 [(1, [(vu64 pc)]), (8, rg.map vu64), (1, [(.bool run)])]]) (.q 0 (.q 2 (.s 1 (.s 3 (.q 4 .nil))))) (by kernel_rfl) (by kernel_rfl) rfl (by kernel_rfl) (fun w_12 hc_14 => (SL.cons ((h_11.same hc_14).ok _ (.head _)) (SL.cons ((h_11.same hc_14).ok _ (.tail _ (.head _))) (SL.nil _ _)))) (fun w_12 hc_14 => ?_)
  have h_13 := h_11.same hc_14
  refine WT.q rfl (Wn.no rfl) rfl rfl (fun wq hS => R.loadA (b := b_1) (off := 0) [] [(1, [(vu64 pc)]), (8, rg.map vu64), (1, [(.bool run)])] [] (cs := flat [(1, [(vu64 pc)]), (8, rg.map vu64), (1, [(.bool run)])]) rfl Try.isAgg45 Try.sizeOf45 (hS _ (.tail _ (.head _))) rfl rfl rfl rfl) ?_
  refine WT.q rfl (Wn.no rfl) rfl rfl (fun wq hS => R.loadA (b := b_1) (off := 0) [] [(1, [(vu64 pc)]), (8, rg.map vu64), (1, [(.bool run)])] [] (cs := flat [(1, [(vu64 pc)]), (8, rg.map vu64), (1, [(.bool run)])]) rfl Try.isAgg45 Try.sizeOf45 (hS _ (.tail _ (.head _))) rfl rfl rfl rfl) ?_
  refine WT.s ?_
  refine Op1.one rfl (Wn.no rfl) ?_
  refine WL.call (al := [(.agg ⟨flat [(1, [(vu64 pc)]), (8, rg.map vu64), (1, [(.bool run)])]⟩)]) Try.call25 rfl rfl (c_MayRec pc rg hrg run _ ) rfl ?_
  rintro _ w_16 ⟨rfl, hc_15⟩
  have h_17 := h_13.same hc_15
  refine WL.nil ?_
  refine ⟨(SL.cons (h_17.ok _ (.head _)) (SL.cons (h_17.ok _ (.tail _ (.head _))) (SL.nil _ _))), ?_⟩
  refine WT.s ?_
  refine Op1.one rfl (Wn.no rfl) ?_
  refine WL.call (al := [(.agg ⟨flat [(1, [(vu64 pc)]), (8, rg.map vu64), (1, [(.bool run)])]⟩)]) Try.call26 rfl rfl (c_MayRecR pc rg hrg run _ ) rfl ?_
  rintro _ w_19 ⟨rfl, hc_18⟩
  have h_20 := h_17.same hc_18
  refine WL.nil ?_
  refine ⟨(SL.cons (h_20.ok _ (.head _)) (SL.cons (h_20.ok _ (.tail _ (.head _))) (SL.nil _ _))), ?_⟩
  refine WT.q rfl (Wn.no rfl) rfl rfl (fun wq hS => R.neB (a := false) (b := false) (c := false) (congrArg Value.bool h) (congrArg Value.bool h) Try.underlying4 rfl) ?_
  refine WT.nil ?_
  refine thn_n ?_
  refine WP.condF rfl ?_
  refine WP.skip ?_
  refine thn_n ?_
  refine WP.seq ?_
  refine WP.seq ?_
  refine WP.reg ?_
  refine WL.q (Wn.no rfl) rfl rfl (R.loadA (b := b_1) (off := 0) [] [(1, [(vu64 pc)]), (8, rg.map vu64), (1, [(.bool run)])] [] (cs := flat [(1, [(vu64 pc)]), (8, rg.map vu64), (1, [(.bool run)])]) rfl Try.isAgg45 Try.sizeOf45 (h_20.ok _ (.tail _ (.head _))) rfl rfl rfl rfl) ?_
  refine WL.call (al := [(.agg ⟨flat [(1, [(vu64 pc)]), (8, rg.map vu64), (1, [(.bool run)])]⟩)]) Try.call26 rfl rfl (c_MayRecR pc rg hrg run _ ) rfl ?_
  rintro _ w_22 ⟨rfl, hc_21⟩
  have h_23 := h_20.same hc_21
  refine WL.q (Wn.no rfl) rfl rfl (R.not (b := false) (congrArg Value.bool h)) ?_
  refine WL.nil ?_
  refine thn_n ?_
  refine WP.condT rfl ?_
  refine WP.seq ?_
  refine WP.reg ?_
  refine WL.q (Wn.no rfl) rfl rfl (R.loadA (b := b_7) (off := 0) [] [(128, (List.replicate 128 (0 : UInt8)).map vu8)] [] (cs := (List.replicate 128 (0 : UInt8)).map vu8) rfl Try.isAgg53 Try.sizeOf53 (h_23.ok _ (.head _)) rfl rfl rfl rfl) ?_
  refine WL.q (Wn.no rfl) rfl rfl (R.buildA (vs := []) (cs := (List.replicate 128 (0 : UInt8)).map vu8) Try.underlying53 Try.sizeOf5 (zv Try.typeInfo53 rfl) rfl rfl) ?_
  refine WL.q (Wn.no rfl) rfl rfl (R.eqA (xs := (List.replicate 128 (0 : UInt8)).map vu8) (ys := (List.replicate 128 (0 : UInt8)).map vu8) (r := true) rfl rfl Try.eqGuardType53 kt53 (by decide) ag53 (Typ.u8s Try.underlying53 ce53 Try.underlying5 ce5 (List.length_replicate ..)) (Typ.u8s Try.underlying53 ce53 Try.underlying5 ce5 (List.length_replicate ..)) (eqT rfl)) ?_
  refine WL.q (Wn.no rfl) rfl rfl (R.move (v := (.bool true)) rfl) ?_
  refine WL.want rfl rfl ?_
  refine WL.q (Wn.no rfl) rfl rfl (R.move (v := (vi 2)) rfl) ?_
  refine WL.want rfl rfl ?_
  refine WL.call (al := [(vi 2)]) Try.call21 rfl rfl (c_num10 2 (by omega) _ ) rfl ?_
  rintro _ w_25 ⟨rfl, hc_24⟩
  have h_26 := h_23.same hc_24
  refine WL.want rfl rfl ?_
  refine WL.q (Wn.no rfl) rfl rfl (R.bin (v := (.bool true)) rfl rfl (bi_eql (r := true) (by decide))) ?_
  refine WL.q (Wn.no rfl) rfl rfl (R.pickT (v := (.bool true)) rfl rfl) ?_
  refine WL.q (Wn.no rfl) rfl rfl (R.move (v := (.bool true)) rfl) ?_
  refine WL.want rfl rfl ?_
  refine WL.call (al := []) Try.call22 rfl rfl (c_known  _ ) rfl ?_
  rintro _ w_28 ⟨rfl, hc_27⟩
  have h_29 := h_26.same hc_27
  refine WL.q (Wn.no rfl) rfl rfl (R.pickT (v := (.bool true)) rfl rfl) ?_
  refine WL.q (Wn.no rfl) rfl rfl (R.assign (v := (.bool true)) rfl) ?_
  refine WL.nil ?_
  refine thn_n ?_
  refine WP.ret ?_
  refine thn_r ?_
  refine ret_of Try.results7 (RV.tmp (v := (.bool true)) rfl RV.nil) ?_
  exact ⟨rfl, h_29.chgS⟩

theorem w_ParamsRecs (pc : UInt64) (rg : List UInt64) (hrg : rg.length = 8) (run : Bool) (w : World) : Cs Try.prog 7 [(.agg ⟨flat [(1, [(vu64 pc)]), (8, rg.map vu64), (1, [(.bool run)])]⟩)].toArray w (fun v w1 => v = .bool true ∧ Chg w w1 []) := by
  rcases Bool.eq_false_or_eq_true (mayRec pc) with h | h
  · exact w_ParamsRecs_t pc rg hrg run h w
  · exact w_ParamsRecs_f pc rg hrg run h w
namespace paramsRecsDone
open Go.ChangeShapes Go.WideShapes Go.ChangeAt
theorem own : ownKnob Try.prog.godebug = none := by kernel_rfl
theorem laidOut : laidOutB Try.prog = true := by kernel_rfl
set_option maxRecDepth 100000 in
theorem lifted (os : Os) (started : os.Started) (H : Type) (enc : TypeId × Value → H) :
    ReturnsInHanded {} Try.checked os 7 .any (Rows.paramsRecsSpec.pre6 enc Try.prog Try.f7 Rows.paramsRecsRow.domain false) (Rows.paramsRecsSpec.post enc Try.prog Try.f7 false true false false) := by
  refine returnsInHanded_of_change (C := Try.checked) own started (by kernel_rfl) Try.func7
    (ChangeSpec.witness6 (enc := enc) (C := Try.checked) false ⟨#[], #[.agg #[.int .u64 0, .int .u64 0, .int .u64 0, .int .u64 0, .int .u64 0, .int .u64 0, .int .u64 0, .int .u64 0, .int .u64 0, .bool false]], []⟩ 8 (by kernel_rfl) (by kernel_rfl) (by kernel_rfl) (by kernel_rfl)) ?_
  intro W base args ds gs before hval0 hW hcnd _
  have hval : ∀ (j : Nat) t v, Try.f7.params[j]? = some t → args[j]? = some v → Value.okWide Try.prog W .any base t v := hval0
  have hW' := hW
  obtain ⟨p, q, hA0, hV, rfl, hfz, hnd⟩ := hW
  have hA : DataW.TrodAll enc Try.prog W 0 (fun _ => true) true Try.f7.params.toList args.toList ds p := hA0
  rw [Try.params7] at hA hval
  obtain ⟨v0, vs0, d0, ds0, p0, q0, hargs, rfl, rfl, h0, r0⟩ := trodAll_cons hA
  obtain ⟨rfl, rfl, rfl⟩ := trodAll_nil r0
  obtain rfl : args = #[v0] := by cases args; simp_all
  obtain ⟨rfl, rfl⟩ := trodVars_none hV
  have lt0 : ∀ x ∈ p0, x.block < W.heap.size := by obtain ⟨m, hm⟩ := h0; exact DataW.trod_lt m _ _ _ hm
  obtain ⟨cs0, rfl⟩ := okWide_agg aggT45 (hval 0 45 v0 rfl rfl)
  have tr0 : Tr Try.prog W 45 cs0 := Tr.of h0 rfl
  have tl_x0 := Tr.struct (l := [(1, 22), (8, 23), (1, 4)]) Try.underlying45 ce45 (by kernel_rfl) tr0
  obtain ⟨a_x00, r_x00, rfl, n_x00, t_x00, tl_x00⟩ := tl_x0
  obtain ⟨x00, rfl⟩ := Tr.u64 Try.underlying22 t_x00
  obtain ⟨a_x01, r_x01, rfl, n_x01, t_x01, tl_x01⟩ := tl_x00
  obtain ⟨x01, rfl, l_x01⟩ := Tr.arr64 Try.underlying23 ce23 ce22 Try.underlying22 t_x01
  obtain ⟨a_x02, r_x02, rfl, n_x02, t_x02, tl_x02⟩ := tl_x01
  obtain ⟨x02, rfl⟩ := Tr.bool Try.underlying4 t_x02
  obtain rfl := tl_x02
  clear hA0 hval0
  have hw : Cs Try.prog 7 [(.agg ⟨flat [(1, [(vu64 x00)]), (8, x01.map vu64), (1, [(.bool x02)])]⟩)].toArray W (fun v w1 => v = .bool true ∧ Chg W w1 []) := w_ParamsRecs x00 x01 l_x01 x02 W
  have ea : ([(.agg ⟨flat [(1, [(vu64 x00)]), (8, x01.map vu64), (1, [(.bool x02)])]⟩)] : List Value).toArray = (#[.agg ⟨([vu64 x00] ++ (x01.map vu64 ++ ([.bool x02] ++ [])))⟩] : Array Value) := by simp [flat]
  rw [ea] at hw
  refine Calls.mono (Cs.below hw) fun e W' ⟨he, bel⟩ => ?_
  subst he
  exact ⟨_, rfl, _, _, _, [], _, [], hW', trodAll_mk1 (shut_bool Try.underlying4 _), (trodAll_cons_mk (Below.trod laidOut (by kernel_rfl) (of_decide_eq_true (by kernel_rfl)) h0 bel lt0) trodAll_mk0), rfl, bel.frame _, fun h => by cases h⟩
theorem over : Rows.paramsRecsRow.holds Try.pinned (OpenSpec.ofChange Rows.paramsRecsSpec) :=
  OpenClaim.holds_of_wide 7 Try.f7 rfl rfl rfl rfl rfl rfl rfl ⟨rfl, rfl, rfl, rfl, rfl⟩ rfl rfl rfl rfl rfl (by kernel_rfl) Try.func7 (by kernel_rfl)
    (of_decide_eq_true (by kernel_rfl)) (by unfold Func.isWrapper; first | (rw [if_pos (by decide +kernel)]; kernel_rfl) | (rw [if_neg (by decide +kernel)]; exact ⟨rfl, rfl⟩))
    (fun os started H enc _ => lifted os started H enc)
theorem proved : Rows.ParamsRecsSaid := over
end paramsRecsDone
end Go.Proofs.Ythkcekgemanfdaa
