/- ParamsRealms holds of every input. Conditions: none. -/
import Derived.Test.YthkcekgemanfdaaC3
namespace Go.Proofs.Ythkcekgemanfdaa
open Go.Vc Go.RowKit
set_option linter.unusedVariables false
set_option linter.unusedSimpArgs false
set_option maxRecDepth 20000
theorem w_ParamsRealms_t (vl : List UInt8) (hvl : vl.length = 32) (nd : UInt64) (h : mayRealm nd = true) (w : World) :
    Cs Try.prog 6 [(.agg ⟨flat [(32, vl.map vu8), (1, [(vu64 nd)])]⟩)].toArray w (fun v w1 => v = .bool true ∧ Chg w w1 []) := by
  refine Cs.of (n := 41) (args := [(.agg ⟨flat [(32, vl.map vu8), (1, [(vu64 nd)])]⟩)]) Try.func6 rfl rfl rfl ?_
  have h_0 := HP.init w
  refine WP.seq ?_
  refine WP.reg ?_
  refine WL.box (v := (.agg ⟨flat [(32, vl.map vu8), (1, [(vu64 nd)])]⟩)) (segs := [(32, vl.map vu8), (1, [(vu64 nd)])]) h_0 rfl rfl (SsOk.cons (SOk.u8 hvl) (SsOk.cons (SOk.v rfl) SsOk.nil)) rfl (fun b_1 w_2 h_3 => ?_)
  refine WL.q (Wn.no rfl) rfl rfl (R.assign (v := (.bool false)) rfl) ?_
  refine WL.nil ?_
  refine thn_n ?_
  refine WP.seq ?_
  refine WP.reg ?_
  refine WL.q (Wn.no rfl) rfl rfl (R.loadA (b := b_1) (off := 0) [] [(32, vl.map vu8), (1, [(vu64 nd)])] [] (cs := flat [(32, vl.map vu8), (1, [(vu64 nd)])]) rfl Try.isAgg51 Try.sizeOf51 (h_3.ok _ (.head _)) rfl rfl rfl rfl) ?_
  refine WL.call (al := [(.agg ⟨flat [(32, vl.map vu8), (1, [(vu64 nd)])]⟩)]) Try.call18 rfl rfl (c_RealmBytes_t vl hvl nd h _ ) rfl ?_
  rintro _ w_5 ⟨rfl, hc_4⟩
  have h_6 := h_3.same hc_4
  refine WL.q (Wn.no rfl) rfl rfl (R.move (v := (.tuple [(.agg ⟨(realmB vl nd).map vu8⟩), (vi 0)].toArray)) rfl) ?_
  refine WL.q (Wn.no rfl) rfl rfl (R.extract (l := [(.agg ⟨(realmB vl nd).map vu8⟩), (vi 0)]) (v := (.agg ⟨(realmB vl nd).map vu8⟩)) rfl rfl) ?_
  refine WL.q (Wn.no rfl) rfl rfl (R.extract (l := [(.agg ⟨(realmB vl nd).map vu8⟩), (vi 0)]) (v := (vi 0)) rfl rfl) ?_
  refine WL.alloc (segs := [(128, (List.replicate 128 (0 : UInt8)).map vu8)]) h_6 (zv Try.typeInfo53 rfl) rfl (SsOk.cons (SOk.u8 (List.length_replicate ..)) SsOk.nil) rfl (fun b_7 w_8 h_9 => ?_)
  refine WL.storeA (b := b_7) (off := 0) [] [(128, (List.replicate 128 (0 : UInt8)).map vu8)] [(128, (realmB vl nd).map vu8)] [] (ys := (realmB vl nd).map vu8) h_9 rfl rfl Try.sizeOf53 At.h (by decide) rfl rfl rfl rfl rfl rfl (SsOk.cons (SOk.u8 (realmB_len hvl)) SsOk.nil) (fun w_10 h_11 => ?_)
  refine WL.q (Wn.no rfl) rfl rfl (R.assign (v := (vi 0)) rfl) ?_
  refine WL.nil ?_
  refine thn_n ?_
  refine WP.seq ?_
  refine WP.seq ?_
  refine WP.drawT (SL w.heap.size [.blk b_7 .nw 53 [(128, (realmB vl nd).map vu8)], .blk b_1 .nw 51 [(32, vl.map vu8), (1, [(vu64 nd)])]]) (.q 0 (.q 2 (.s 1 (.s 3 (.q 4 .nil))))) (by kernel_rfl) (by kernel_rfl) rfl (by kernel_rfl) (fun w_12 hc_14 => (SL.cons ((h_11.same hc_14).ok _ (.head _)) (SL.cons ((h_11.same hc_14).ok _ (.tail _ (.head _))) (SL.nil _ _)))) (fun w_12 hc_14 => ?_)
  have h_13 := h_11.same hc_14
  refine WT.q rfl (Wn.no rfl) rfl rfl (fun wq hS => R.loadA (b := b_1) (off := 0) [] [(32, vl.map vu8), (1, [(vu64 nd)])] [] (cs := flat [(32, vl.map vu8), (1, [(vu64 nd)])]) rfl Try.isAgg51 Try.sizeOf51 (hS _ (.tail _ (.head _))) rfl rfl rfl rfl) ?_
  refine WT.q rfl (Wn.no rfl) rfl rfl (fun wq hS => R.loadA (b := b_1) (off := 0) [] [(32, vl.map vu8), (1, [(vu64 nd)])] [] (cs := flat [(32, vl.map vu8), (1, [(vu64 nd)])]) rfl Try.isAgg51 Try.sizeOf51 (hS _ (.tail _ (.head _))) rfl rfl rfl rfl) ?_
  refine WT.s ?_
  refine Op1.one rfl (Wn.no rfl) ?_
  refine WL.call (al := [(.agg ⟨flat [(32, vl.map vu8), (1, [(vu64 nd)])]⟩)]) Try.call19 rfl rfl (c_MayRealm vl hvl nd _ ) rfl ?_
  rintro _ w_16 ⟨rfl, hc_15⟩
  have h_17 := h_13.same hc_15
  refine WL.nil ?_
  refine ⟨(SL.cons (h_17.ok _ (.head _)) (SL.cons (h_17.ok _ (.tail _ (.head _))) (SL.nil _ _))), ?_⟩
  refine WT.s ?_
  refine Op1.one rfl (Wn.no rfl) ?_
  refine WL.call (al := [(.agg ⟨flat [(32, vl.map vu8), (1, [(vu64 nd)])]⟩)]) Try.call20 rfl rfl (c_MayRealmR vl hvl nd _ ) rfl ?_
  rintro _ w_19 ⟨rfl, hc_18⟩
  have h_20 := h_17.same hc_18
  refine WL.nil ?_
  refine ⟨(SL.cons (h_20.ok _ (.head _)) (SL.cons (h_20.ok _ (.tail _ (.head _))) (SL.nil _ _))), ?_⟩
  refine WT.q rfl (Wn.no rfl) rfl rfl (fun wq hS => R.neB (a := true) (b := true) (c := false) (congrArg Value.bool h) (congrArg Value.bool h) Try.underlying4 rfl) ?_
  refine WT.nil ?_
  refine thn_n ?_
  refine WP.condF rfl ?_
  refine WP.skip ?_
  refine thn_n ?_
  refine WP.seq ?_
  refine WP.seq ?_
  refine WP.reg ?_
  refine WL.q (Wn.no rfl) rfl rfl (R.loadA (b := b_1) (off := 0) [] [(32, vl.map vu8), (1, [(vu64 nd)])] [] (cs := flat [(32, vl.map vu8), (1, [(vu64 nd)])]) rfl Try.isAgg51 Try.sizeOf51 (h_20.ok _ (.tail _ (.head _))) rfl rfl rfl rfl) ?_
  refine WL.call (al := [(.agg ⟨flat [(32, vl.map vu8), (1, [(vu64 nd)])]⟩)]) Try.call20 rfl rfl (c_MayRealmR vl hvl nd _ ) rfl ?_
  rintro _ w_22 ⟨rfl, hc_21⟩
  have h_23 := h_20.same hc_21
  refine WL.q (Wn.no rfl) rfl rfl (R.not (b := true) (congrArg Value.bool h)) ?_
  refine WL.nil ?_
  refine thn_n ?_
  refine WP.condF rfl ?_
  refine WP.skip ?_
  refine thn_n ?_
  refine WP.seq ?_
  refine WP.drawT (SL w.heap.size [.blk b_7 .nw 53 [(128, (realmB vl nd).map vu8)], .blk b_1 .nw 51 [(32, vl.map vu8), (1, [(vu64 nd)])]]) (.q 0 (.q 1 (.s 2 (.q 3 (.q 4 (.q 5 (.s 6 (.q 7 (.q 8 (.q 9 (.s 10 (.q 11 (.q 12 .nil))))))))))))) (by kernel_rfl) (by kernel_rfl) rfl (by kernel_rfl) (fun w_24 hc_26 => (SL.cons ((h_23.same hc_26).ok _ (.head _)) (SL.cons ((h_23.same hc_26).ok _ (.tail _ (.head _))) (SL.nil _ _)))) (fun w_24 hc_26 => ?_)
  have h_25 := h_23.same hc_26
  refine WT.q rfl (Wn.no rfl) rfl rfl (fun wq hS => R.loadA (b := b_7) (off := 0) [] [(128, (realmB vl nd).map vu8)] [] (cs := (realmB vl nd).map vu8) rfl Try.isAgg53 Try.sizeOf53 (hS _ (.head _)) rfl rfl rfl rfl) ?_
  refine WT.q rfl (Wn.no rfl) rfl rfl (fun wq hS => R.loadA (b := b_1) (off := 0) [] [(32, vl.map vu8), (1, [(vu64 nd)])] [] (cs := flat [(32, vl.map vu8), (1, [(vu64 nd)])]) rfl Try.isAgg51 Try.sizeOf51 (hS _ (.tail _ (.head _))) rfl rfl rfl rfl) ?_
  refine WT.s ?_
  refine Op1.one rfl (Wn.no rfl) ?_
  refine WL.call (al := [(.agg ⟨flat [(32, vl.map vu8), (1, [(vu64 nd)])]⟩)]) Try.call23 rfl rfl (c_RealmBytesR vl hvl nd _ ) rfl ?_
  rintro _ w_28 ⟨rfl, hc_27⟩
  have h_29 := h_25.same hc_27
  refine WL.nil ?_
  refine ⟨(SL.cons (h_29.ok _ (.head _)) (SL.cons (h_29.ok _ (.tail _ (.head _))) (SL.nil _ _))), ?_⟩
  refine WT.q rfl (Wn.no rfl) rfl rfl (fun wq hS => R.eqA (xs := (realmB vl nd).map vu8) (ys := (realmB vl nd).map vu8) (r := true) rfl rfl Try.eqGuardType53 kt53 (by decide) ag53 (Typ.u8s Try.underlying53 ce53 Try.underlying5 ce5 (realmB_len hvl)) (Typ.u8s Try.underlying53 ce53 Try.underlying5 ce5 (realmB_len hvl)) (eqT rfl)) ?_
  refine WT.q rfl (Wn.no rfl) rfl rfl (fun wq hS => R.move (v := (.bool true)) rfl) ?_
  refine WT.q rfl (Wn.yes rfl rfl rfl) rfl rfl (fun wq hS => R.move (v := (vi 0)) rfl) ?_
  refine WT.s ?_
  refine Op1.one rfl (Wn.yes rfl rfl rfl) ?_
  refine WL.call (al := [(vi 0)]) Try.call21 rfl rfl (c_num10 0 (by omega) _ ) rfl ?_
  rintro _ w_31 ⟨rfl, hc_30⟩
  have h_32 := h_29.same hc_30
  refine WL.nil ?_
  refine ⟨(SL.cons (h_32.ok _ (.head _)) (SL.cons (h_32.ok _ (.tail _ (.head _))) (SL.nil _ _))), ?_⟩
  refine WT.q rfl (Wn.yes rfl rfl rfl) rfl rfl (fun wq hS => R.bin (v := (.bool true)) rfl rfl (bi_eql (r := true) (by decide))) ?_
  refine WT.q rfl (Wn.no rfl) rfl rfl (fun wq hS => R.pickT (v := (.bool true)) rfl rfl) ?_
  refine WT.q rfl (Wn.no rfl) rfl rfl (fun wq hS => R.move (v := (.bool true)) rfl) ?_
  refine WT.s ?_
  refine Op1.one rfl (Wn.yes rfl rfl rfl) ?_
  refine WL.call (al := []) Try.call22 rfl rfl (c_known  _ ) rfl ?_
  rintro _ w_34 ⟨rfl, hc_33⟩
  have h_35 := h_32.same hc_33
  refine WL.nil ?_
  refine ⟨(SL.cons (h_35.ok _ (.head _)) (SL.cons (h_35.ok _ (.tail _ (.head _))) (SL.nil _ _))), ?_⟩
  refine WT.q rfl (Wn.no rfl) rfl rfl (fun wq hS => R.pickT (v := (.bool true)) rfl rfl) ?_
  refine WT.q rfl (Wn.no rfl) rfl rfl (fun wq hS => R.assign (v := (.bool true)) rfl) ?_
  refine WT.nil ?_
  refine thn_n ?_
  refine WP.ret ?_
  refine ret_of Try.results6 (RV.tmp (v := (.bool true)) rfl RV.nil) ?_
  exact ⟨rfl, h_35.chgS⟩

theorem w_ParamsRealms_f (vl : List UInt8) (hvl : vl.length = 32) (nd : UInt64) (h : mayRealm nd = false) (w : World) :
    Cs Try.prog 6 [(.agg ⟨flat [(32, vl.map vu8), (1, [(vu64 nd)])]⟩)].toArray w (fun v w1 => v = .bool true ∧ Chg w w1 []) := by
  refine Cs.of (n := 41) (args := [(.agg ⟨flat [(32, vl.map vu8), (1, [(vu64 nd)])]⟩)]) Try.func6 rfl rfl rfl ?_
  have h_0 := HP.init w
  refine WP.seq ?_
  refine WP.reg ?_
  refine WL.box (v := (.agg ⟨flat [(32, vl.map vu8), (1, [(vu64 nd)])]⟩)) (segs := [(32, vl.map vu8), (1, [(vu64 nd)])]) h_0 rfl rfl (SsOk.cons (SOk.u8 hvl) (SsOk.cons (SOk.v rfl) SsOk.nil)) rfl (fun b_1 w_2 h_3 => ?_)
  refine WL.q (Wn.no rfl) rfl rfl (R.assign (v := (.bool false)) rfl) ?_
  refine WL.nil ?_
  refine thn_n ?_
  refine WP.seq ?_
  refine WP.reg ?_
  refine WL.q (Wn.no rfl) rfl rfl (R.loadA (b := b_1) (off := 0) [] [(32, vl.map vu8), (1, [(vu64 nd)])] [] (cs := flat [(32, vl.map vu8), (1, [(vu64 nd)])]) rfl Try.isAgg51 Try.sizeOf51 (h_3.ok _ (.head _)) rfl rfl rfl rfl) ?_
  refine WL.call (al := [(.agg ⟨flat [(32, vl.map vu8), (1, [(vu64 nd)])]⟩)]) Try.call18 rfl rfl (c_RealmBytes_f vl hvl nd h _ ) rfl ?_
  rintro _ w_5 ⟨rfl, hc_4⟩
  have h_6 := h_3.same hc_4
  refine WL.q (Wn.no rfl) rfl rfl (R.move (v := (.tuple [(.agg ⟨(List.replicate 128 (0 : UInt8)).map vu8⟩), (vi 2)].toArray)) rfl) ?_
  refine WL.q (Wn.no rfl) rfl rfl (R.extract (l := [(.agg ⟨(List.replicate 128 (0 : UInt8)).map vu8⟩), (vi 2)]) (v := (.agg ⟨(List.replicate 128 (0 : UInt8)).map vu8⟩)) rfl rfl) ?_
  refine WL.q (Wn.no rfl) rfl rfl (R.extract (l := [(.agg ⟨(List.replicate 128 (0 : UInt8)).map vu8⟩), (vi 2)]) (v := (vi 2)) rfl rfl) ?_
  refine WL.alloc (segs := [(128, (List.replicate 128 (0 : UInt8)).map vu8)]) h_6 (zv Try.typeInfo53 rfl) rfl (SsOk.cons (SOk.u8 (List.length_replicate ..)) SsOk.nil) rfl (fun b_7 w_8 h_9 => ?_)
  refine WL.storeA (b := b_7) (off := 0) [] [(128, (List.replicate 128 (0 : UInt8)).map vu8)] [(128, (List.replicate 128 (0 : UInt8)).map vu8)] [] (ys := (List.replicate 128 (0 : UInt8)).map vu8) h_9 rfl rfl Try.sizeOf53 At.h (by decide) rfl rfl rfl rfl rfl rfl (SsOk.cons (SOk.u8 (List.length_replicate ..)) SsOk.nil) (fun w_10 h_11 => ?_)
  refine WL.q (Wn.no rfl) rfl rfl (R.assign (v := (vi 2)) rfl) ?_
  refine WL.nil ?_
  refine thn_n ?_
  refine WP.seq ?_
  refine WP.seq ?_
  refine WP.drawT (SL w.heap.size [.blk b_7 .nw 53 [(128, (List.replicate 128 (0 : UInt8)).map vu8)], .blk b_1 .nw 51 [(32, vl.map vu8), (1, [(vu64 nd)])]]) (.q 0 (.q 2 (.s 1 (.s 3 (.q 4 .nil))))) (by kernel_rfl) (by kernel_rfl) rfl (by kernel_rfl) (fun w_12 hc_14 => (SL.cons ((h_11.same hc_14).ok _ (.head _)) (SL.cons ((h_11.same hc_14).ok _ (.tail _ (.head _))) (SL.nil _ _)))) (fun w_12 hc_14 => ?_)
  have h_13 := h_11.same hc_14
  refine WT.q rfl (Wn.no rfl) rfl rfl (fun wq hS => R.loadA (b := b_1) (off := 0) [] [(32, vl.map vu8), (1, [(vu64 nd)])] [] (cs := flat [(32, vl.map vu8), (1, [(vu64 nd)])]) rfl Try.isAgg51 Try.sizeOf51 (hS _ (.tail _ (.head _))) rfl rfl rfl rfl) ?_
  refine WT.q rfl (Wn.no rfl) rfl rfl (fun wq hS => R.loadA (b := b_1) (off := 0) [] [(32, vl.map vu8), (1, [(vu64 nd)])] [] (cs := flat [(32, vl.map vu8), (1, [(vu64 nd)])]) rfl Try.isAgg51 Try.sizeOf51 (hS _ (.tail _ (.head _))) rfl rfl rfl rfl) ?_
  refine WT.s ?_
  refine Op1.one rfl (Wn.no rfl) ?_
  refine WL.call (al := [(.agg ⟨flat [(32, vl.map vu8), (1, [(vu64 nd)])]⟩)]) Try.call19 rfl rfl (c_MayRealm vl hvl nd _ ) rfl ?_
  rintro _ w_16 ⟨rfl, hc_15⟩
  have h_17 := h_13.same hc_15
  refine WL.nil ?_
  refine ⟨(SL.cons (h_17.ok _ (.head _)) (SL.cons (h_17.ok _ (.tail _ (.head _))) (SL.nil _ _))), ?_⟩
  refine WT.s ?_
  refine Op1.one rfl (Wn.no rfl) ?_
  refine WL.call (al := [(.agg ⟨flat [(32, vl.map vu8), (1, [(vu64 nd)])]⟩)]) Try.call20 rfl rfl (c_MayRealmR vl hvl nd _ ) rfl ?_
  rintro _ w_19 ⟨rfl, hc_18⟩
  have h_20 := h_17.same hc_18
  refine WL.nil ?_
  refine ⟨(SL.cons (h_20.ok _ (.head _)) (SL.cons (h_20.ok _ (.tail _ (.head _))) (SL.nil _ _))), ?_⟩
  refine WT.q rfl (Wn.no rfl) rfl rfl (fun wq hS => R.neB (a := false) (b := false) (c := false) (congrArg Value.bool h) (congrArg Value.bool h) Try.underlying4 rfl) ?_
  refine WT.nil ?_
  refine thn_n ?_
  refine WP.condF rfl ?_
  refine WP.skip ?_
  refine thn_n ?_
  refine WP.seq ?_
  refine WP.seq ?_
  refine WP.reg ?_
  refine WL.q (Wn.no rfl) rfl rfl (R.loadA (b := b_1) (off := 0) [] [(32, vl.map vu8), (1, [(vu64 nd)])] [] (cs := flat [(32, vl.map vu8), (1, [(vu64 nd)])]) rfl Try.isAgg51 Try.sizeOf51 (h_20.ok _ (.tail _ (.head _))) rfl rfl rfl rfl) ?_
  refine WL.call (al := [(.agg ⟨flat [(32, vl.map vu8), (1, [(vu64 nd)])]⟩)]) Try.call20 rfl rfl (c_MayRealmR vl hvl nd _ ) rfl ?_
  rintro _ w_22 ⟨rfl, hc_21⟩
  have h_23 := h_20.same hc_21
  refine WL.q (Wn.no rfl) rfl rfl (R.not (b := false) (congrArg Value.bool h)) ?_
  refine WL.nil ?_
  refine thn_n ?_
  refine WP.condT rfl ?_
  refine WP.seq ?_
  refine WP.reg ?_
  refine WL.q (Wn.no rfl) rfl rfl (R.loadA (b := b_7) (off := 0) [] [(128, (List.replicate 128 (0 : UInt8)).map vu8)] [] (cs := (List.replicate 128 (0 : UInt8)).map vu8) rfl Try.isAgg53 Try.sizeOf53 (h_23.ok _ (.head _)) rfl rfl rfl rfl) ?_
  refine WL.q (Wn.no rfl) rfl rfl (R.buildA (vs := []) (cs := (List.replicate 128 (0 : UInt8)).map vu8) Try.underlying53 Try.sizeOf5 (zv Try.typeInfo53 rfl) rfl rfl) ?_
  refine WL.q (Wn.no rfl) rfl rfl (R.eqA (xs := (List.replicate 128 (0 : UInt8)).map vu8) (ys := (List.replicate 128 (0 : UInt8)).map vu8) (r := true) rfl rfl Try.eqGuardType53 kt53 (by decide) ag53 (Typ.u8s Try.underlying53 ce53 Try.underlying5 ce5 (List.length_replicate ..)) (Typ.u8s Try.underlying53 ce53 Try.underlying5 ce5 (List.length_replicate ..)) (eqT rfl)) ?_
  refine WL.q (Wn.no rfl) rfl rfl (R.move (v := (.bool true)) rfl) ?_
  refine WL.want rfl rfl ?_
  refine WL.q (Wn.no rfl) rfl rfl (R.move (v := (vi 2)) rfl) ?_
  refine WL.want rfl rfl ?_
  refine WL.call (al := [(vi 2)]) Try.call21 rfl rfl (c_num10 2 (by omega) _ ) rfl ?_
  rintro _ w_25 ⟨rfl, hc_24⟩
  have h_26 := h_23.same hc_24
  refine WL.want rfl rfl ?_
  refine WL.q (Wn.no rfl) rfl rfl (R.bin (v := (.bool true)) rfl rfl (bi_eql (r := true) (by decide))) ?_
  refine WL.q (Wn.no rfl) rfl rfl (R.pickT (v := (.bool true)) rfl rfl) ?_
  refine WL.q (Wn.no rfl) rfl rfl (R.move (v := (.bool true)) rfl) ?_
  refine WL.want rfl rfl ?_
  refine WL.call (al := []) Try.call22 rfl rfl (c_known  _ ) rfl ?_
  rintro _ w_28 ⟨rfl, hc_27⟩
  have h_29 := h_26.same hc_27
  refine WL.q (Wn.no rfl) rfl rfl (R.pickT (v := (.bool true)) rfl rfl) ?_
  refine WL.q (Wn.no rfl) rfl rfl (R.assign (v := (.bool true)) rfl) ?_
  refine WL.nil ?_
  refine thn_n ?_
  refine WP.ret ?_
  refine thn_r ?_
  refine ret_of Try.results6 (RV.tmp (v := (.bool true)) rfl RV.nil) ?_
  exact ⟨rfl, h_29.chgS⟩

theorem w_ParamsRealms (vl : List UInt8) (hvl : vl.length = 32) (nd : UInt64) (w : World) : Cs Try.prog 6 [(.agg ⟨flat [(32, vl.map vu8), (1, [(vu64 nd)])]⟩)].toArray w (fun v w1 => v = .bool true ∧ Chg w w1 []) := by
  rcases Bool.eq_false_or_eq_true (mayRealm nd) with h | h
  · exact w_ParamsRealms_t vl hvl nd h w
  · exact w_ParamsRealms_f vl hvl nd h w
namespace paramsRealmsDone
open Go.ChangeShapes Go.WideShapes Go.ChangeAt
theorem own : ownKnob Try.prog.godebug = none := by kernel_rfl
theorem laidOut : laidOutB Try.prog = true := by kernel_rfl
set_option maxRecDepth 100000 in
theorem lifted (os : Os) (started : os.Started) (H : Type) (enc : TypeId × Value → H) :
    ReturnsInHanded {} Try.checked os 6 .any (Rows.paramsRealmsSpec.pre6 enc Try.prog Try.f6 Rows.paramsRealmsRow.domain false) (Rows.paramsRealmsSpec.post enc Try.prog Try.f6 false true false false) := by
  refine returnsInHanded_of_change (C := Try.checked) own started (by kernel_rfl) Try.func6
    (ChangeSpec.witness6 (enc := enc) (C := Try.checked) false ⟨#[], #[.agg #[.int .u8 0, .int .u8 0, .int .u8 0, .int .u8 0, .int .u8 0, .int .u8 0, .int .u8 0, .int .u8 0, .int .u8 0, .int .u8 0, .int .u8 0, .int .u8 0, .int .u8 0, .int .u8 0, .int .u8 0, .int .u8 0, .int .u8 0, .int .u8 0, .int .u8 0, .int .u8 0, .int .u8 0, .int .u8 0, .int .u8 0, .int .u8 0, .int .u8 0, .int .u8 0, .int .u8 0, .int .u8 0, .int .u8 0, .int .u8 0, .int .u8 0, .int .u8 0, .int .u64 0]], []⟩ 8 (by kernel_rfl) (by kernel_rfl) (by kernel_rfl) (by kernel_rfl)) ?_
  intro W base args ds gs before hval0 hW hcnd _
  have hval : ∀ (j : Nat) t v, Try.f6.params[j]? = some t → args[j]? = some v → Value.okWide Try.prog W .any base t v := hval0
  have hW' := hW
  obtain ⟨p, q, hA0, hV, rfl, hfz, hnd⟩ := hW
  have hA : DataW.TrodAll enc Try.prog W 0 (fun _ => true) true Try.f6.params.toList args.toList ds p := hA0
  rw [Try.params6] at hA hval
  obtain ⟨v0, vs0, d0, ds0, p0, q0, hargs, rfl, rfl, h0, r0⟩ := trodAll_cons hA
  obtain ⟨rfl, rfl, rfl⟩ := trodAll_nil r0
  obtain rfl : args = #[v0] := by cases args; simp_all
  obtain ⟨rfl, rfl⟩ := trodVars_none hV
  have lt0 : ∀ x ∈ p0, x.block < W.heap.size := by obtain ⟨m, hm⟩ := h0; exact DataW.trod_lt m _ _ _ hm
  obtain ⟨cs0, rfl⟩ := okWide_agg aggT51 (hval 0 51 v0 rfl rfl)
  have tr0 : Tr Try.prog W 51 cs0 := Tr.of h0 rfl
  have tl_x0 := Tr.struct (l := [(32, 49), (1, 22)]) Try.underlying51 ce51 (by kernel_rfl) tr0
  obtain ⟨a_x00, r_x00, rfl, n_x00, t_x00, tl_x00⟩ := tl_x0
  obtain ⟨x00, rfl, l_x00⟩ := Tr.arr8 Try.underlying49 ce49 ce5 Try.underlying5 t_x00
  obtain ⟨a_x01, r_x01, rfl, n_x01, t_x01, tl_x01⟩ := tl_x00
  obtain ⟨x01, rfl⟩ := Tr.u64 Try.underlying22 t_x01
  obtain rfl := tl_x01
  clear hA0 hval0
  have hw : Cs Try.prog 6 [(.agg ⟨flat [(32, x00.map vu8), (1, [(vu64 x01)])]⟩)].toArray W (fun v w1 => v = .bool true ∧ Chg W w1 []) := w_ParamsRealms x00 l_x00 x01 W
  have ea : ([(.agg ⟨flat [(32, x00.map vu8), (1, [(vu64 x01)])]⟩)] : List Value).toArray = (#[.agg ⟨(x00.map vu8 ++ ([vu64 x01] ++ []))⟩] : Array Value) := by simp [flat]
  rw [ea] at hw
  refine Calls.mono (Cs.below hw) fun e W' ⟨he, bel⟩ => ?_
  subst he
  exact ⟨_, rfl, _, _, _, [], _, [], hW', trodAll_mk1 (shut_bool Try.underlying4 _), (trodAll_cons_mk (Below.trod laidOut (by kernel_rfl) (of_decide_eq_true (by kernel_rfl)) h0 bel lt0) trodAll_mk0), rfl, bel.frame _, fun h => by cases h⟩
theorem over : Rows.paramsRealmsRow.holds Try.pinned (OpenSpec.ofChange Rows.paramsRealmsSpec) :=
  OpenClaim.holds_of_wide 6 Try.f6 rfl rfl rfl rfl rfl rfl rfl ⟨rfl, rfl, rfl, rfl, rfl⟩ rfl rfl rfl rfl rfl (by kernel_rfl) Try.func6 (by kernel_rfl)
    (of_decide_eq_true (by kernel_rfl)) (by unfold Func.isWrapper; first | (rw [if_pos (by decide +kernel)]; kernel_rfl) | (rw [if_neg (by decide +kernel)]; exact ⟨rfl, rfl⟩))
    (fun os started H enc _ => lifted os started H enc)
theorem proved : Rows.ParamsRealmsSaid := over
end paramsRealmsDone
end Go.Proofs.Ythkcekgemanfdaa
