/- ParamsReads holds of every input. Conditions: none. -/
import Derived.Test.YthkcekgemanfdaaC3
namespace Go.Proofs.Ythkcekgemanfdaa
open Go.Vc Go.RowKit
set_option linter.unusedVariables false
set_option linter.unusedSimpArgs false
set_option maxRecDepth 20000
theorem w_ParamsReads_tt (g : List UInt8) (hg : g.length = 128) (h1 : okRealm g = true) (h2 : okRec g = true) (w : World) :
    Cs Try.prog 10 [(.agg ⟨g.map vu8⟩)].toArray w (fun v w1 => v = .bool true ∧ Chg w w1 []) := by
  refine Cs.of (n := 78) (args := [(.agg ⟨g.map vu8⟩)]) Try.func10 rfl rfl rfl ?_
  have h_0 := HP.init w
  refine WP.seq ?_
  refine WP.reg ?_
  refine WL.box (v := (.agg ⟨g.map vu8⟩)) (segs := [(128, g.map vu8)]) h_0 rfl rfl (SsOk.cons (SOk.u8 hg) SsOk.nil) rfl (fun b_1 w_2 h_3 => ?_)
  refine WL.q (Wn.no rfl) rfl rfl (R.assign (v := (.bool false)) rfl) ?_
  refine WL.nil ?_
  refine thn_n ?_
  refine WP.seq ?_
  refine WP.reg ?_
  refine WL.q (Wn.no rfl) rfl rfl (R.loadA (b := b_1) (off := 0) [] [(128, g.map vu8)] [] (cs := g.map vu8) rfl Try.isAgg53 Try.sizeOf53 (h_3.ok _ (.head _)) rfl rfl rfl rfl) ?_
  refine WL.call (al := [(.agg ⟨g.map vu8⟩)]) Try.call32 rfl rfl (c_Realm_t g hg h1 _ ) rfl ?_
  rintro _ w_5 ⟨rfl, hc_4⟩
  have h_6 := h_3.same hc_4
  refine WL.q (Wn.no rfl) rfl rfl (R.move (v := (.tuple [(.agg ⟨flat [(32, (rlV g).map vu8), (1, [(vu64 (wordB g 5))])]⟩), (vi 0)].toArray)) rfl) ?_
  refine WL.q (Wn.no rfl) rfl rfl (R.extract (l := [(.agg ⟨flat [(32, (rlV g).map vu8), (1, [(vu64 (wordB g 5))])]⟩), (vi 0)]) (v := (.agg ⟨flat [(32, (rlV g).map vu8), (1, [(vu64 (wordB g 5))])]⟩)) rfl rfl) ?_
  refine WL.q (Wn.no rfl) rfl rfl (R.extract (l := [(.agg ⟨flat [(32, (rlV g).map vu8), (1, [(vu64 (wordB g 5))])]⟩), (vi 0)]) (v := (vi 0)) rfl rfl) ?_
  refine WL.alloc (segs := [(32, (List.replicate 32 (0 : UInt8)).map vu8), (1, [(vu64 0)])]) h_6 (zv Try.typeInfo51 rfl) rfl (SsOk.cons (SOk.u8 (List.length_replicate ..)) (SsOk.cons (SOk.v rfl) SsOk.nil)) rfl (fun b_7 w_8 h_9 => ?_)
  refine WL.storeA (b := b_7) (off := 0) [] [(32, (List.replicate 32 (0 : UInt8)).map vu8), (1, [(vu64 0)])] [(32, (rlV g).map vu8), (1, [(vu64 (wordB g 5))])] [] (ys := flat [(32, (rlV g).map vu8), (1, [(vu64 (wordB g 5))])]) h_9 rfl rfl Try.sizeOf51 At.h (by decide) rfl rfl rfl rfl rfl rfl (SsOk.cons (SOk.u8 (by simp only [rlV, List.length_take, List.length_drop, hg]; decide)) (SsOk.cons (SOk.v rfl) SsOk.nil)) (fun w_10 h_11 => ?_)
  refine WL.q (Wn.no rfl) rfl rfl (R.assign (v := (vi 0)) rfl) ?_
  refine WL.nil ?_
  refine thn_n ?_
  refine WP.seq ?_
  refine WP.reg ?_
  refine WL.q (Wn.no rfl) rfl rfl (R.loadA (b := b_1) (off := 0) [] [(128, g.map vu8)] [] (cs := g.map vu8) rfl Try.isAgg53 Try.sizeOf53 (h_11.ok _ (.tail _ (.head _))) rfl rfl rfl rfl) ?_
  refine WL.call (al := [(.agg ⟨g.map vu8⟩)]) Try.call33 rfl rfl (c_RealmR_t g hg h1 _ ) rfl ?_
  rintro _ w_13 ⟨rfl, hc_12⟩
  have h_14 := h_11.same hc_12
  refine WL.q (Wn.no rfl) rfl rfl (R.move (v := (.tuple [(.agg ⟨flat [(32, (rlV g).map vu8), (1, [(vu64 (wordB g 5))])]⟩), (.bool true)].toArray)) rfl) ?_
  refine WL.q (Wn.no rfl) rfl rfl (R.extract (l := [(.agg ⟨flat [(32, (rlV g).map vu8), (1, [(vu64 (wordB g 5))])]⟩), (.bool true)]) (v := (.agg ⟨flat [(32, (rlV g).map vu8), (1, [(vu64 (wordB g 5))])]⟩)) rfl rfl) ?_
  refine WL.q (Wn.no rfl) rfl rfl (R.extract (l := [(.agg ⟨flat [(32, (rlV g).map vu8), (1, [(vu64 (wordB g 5))])]⟩), (.bool true)]) (v := (.bool true)) rfl rfl) ?_
  refine WL.alloc (segs := [(32, (List.replicate 32 (0 : UInt8)).map vu8), (1, [(vu64 0)])]) h_14 (zv Try.typeInfo51 rfl) rfl (SsOk.cons (SOk.u8 (List.length_replicate ..)) (SsOk.cons (SOk.v rfl) SsOk.nil)) rfl (fun b_15 w_16 h_17 => ?_)
  refine WL.storeA (b := b_15) (off := 0) [] [(32, (List.replicate 32 (0 : UInt8)).map vu8), (1, [(vu64 0)])] [(32, (rlV g).map vu8), (1, [(vu64 (wordB g 5))])] [] (ys := flat [(32, (rlV g).map vu8), (1, [(vu64 (wordB g 5))])]) h_17 rfl rfl Try.sizeOf51 At.h (by decide) rfl rfl rfl rfl rfl rfl (SsOk.cons (SOk.u8 (by simp only [rlV, List.length_take, List.length_drop, hg]; decide)) (SsOk.cons (SOk.v rfl) SsOk.nil)) (fun w_18 h_19 => ?_)
  refine WL.q (Wn.no rfl) rfl rfl (R.assign (v := (.bool true)) rfl) ?_
  refine WL.nil ?_
  refine thn_n ?_
  refine WP.seq ?_
  refine WP.seq ?_
  refine WP.reg ?_
  refine WL.q (Wn.no rfl) rfl rfl (R.loadA (b := b_7) (off := 0) [] [(32, (rlV g).map vu8), (1, [(vu64 (wordB g 5))])] [] (cs := flat [(32, (rlV g).map vu8), (1, [(vu64 (wordB g 5))])]) rfl Try.isAgg51 Try.sizeOf51 (h_19.ok _ (.tail _ (.head _))) rfl rfl rfl rfl) ?_
  refine WL.q (Wn.no rfl) rfl rfl (R.loadA (b := b_15) (off := 0) [] [(32, (rlV g).map vu8), (1, [(vu64 (wordB g 5))])] [] (cs := flat [(32, (rlV g).map vu8), (1, [(vu64 (wordB g 5))])]) rfl Try.isAgg51 Try.sizeOf51 (h_19.ok _ (.head _)) rfl rfl rfl rfl) ?_
  refine WL.q (Wn.no rfl) rfl rfl (R.neA (xs := flat [(32, (rlV g).map vu8), (1, [(vu64 (wordB g 5))])]) (ys := flat [(32, (rlV g).map vu8), (1, [(vu64 (wordB g 5))])]) (r := false) rfl rfl Try.eqGuardType51 kt51 (by decide) ag51 (Typ.struct (h := 2) (r := [(32, (rlV g).map vu8), (1, [(vu64 (wordB g 5))])]) (cs := flat [(32, (rlV g).map vu8), (1, [(vu64 (wordB g 5))])]) Try.underlying51 (TypF.cons (k := 32) rfl rfl (by decide) (len_map (by simp only [rlV, List.length_take, List.length_drop, hg]; decide)) (Typ.u8s Try.underlying49 ce49 Try.underlying5 ce5 (by simp only [rlV, List.length_take, List.length_drop, hg]; decide)) (TypF.cons (k := 1) rfl rfl (by decide) rfl (Typ.int Try.underlying22 ce22 (wfu64 (wordB g 5))) TypF.nil)) rfl (((SsOk.cons (SOk.u8 (by simp only [rlV, List.length_take, List.length_drop, hg]; decide)) (SsOk.cons (SOk.v rfl) SsOk.nil))).len.trans ce51.symm)) (Typ.struct (h := 2) (r := [(32, (rlV g).map vu8), (1, [(vu64 (wordB g 5))])]) (cs := flat [(32, (rlV g).map vu8), (1, [(vu64 (wordB g 5))])]) Try.underlying51 (TypF.cons (k := 32) rfl rfl (by decide) (len_map (by simp only [rlV, List.length_take, List.length_drop, hg]; decide)) (Typ.u8s Try.underlying49 ce49 Try.underlying5 ce5 (by simp only [rlV, List.length_take, List.length_drop, hg]; decide)) (TypF.cons (k := 1) rfl rfl (by decide) rfl (Typ.int Try.underlying22 ce22 (wfu64 (wordB g 5))) TypF.nil)) rfl (((SsOk.cons (SOk.u8 (by simp only [rlV, List.length_take, List.length_drop, hg]; decide)) (SsOk.cons (SOk.v rfl) SsOk.nil))).len.trans ce51.symm)) (neT rfl)) ?_
  refine WL.q (Wn.no rfl) rfl rfl (R.move (v := (.bool false)) rfl) ?_
  refine WL.want rfl rfl ?_
  refine WL.q (Wn.no rfl) rfl rfl (R.move (v := (vi 0)) rfl) ?_
  refine WL.want rfl rfl ?_
  refine WL.call (al := [(vi 0)]) Try.call21 rfl rfl (c_num10 0 (by omega) _ ) rfl ?_
  rintro _ w_21 ⟨rfl, hc_20⟩
  have h_22 := h_19.same hc_20
  refine WL.want rfl rfl ?_
  refine WL.q (Wn.no rfl) rfl rfl (R.bin (v := (.bool true)) rfl rfl (bi_eql (r := true) (by decide))) ?_
  refine WL.want rfl rfl ?_
  refine WL.q (Wn.no rfl) rfl rfl (R.move (v := (.bool true)) rfl) ?_
  refine WL.want rfl rfl ?_
  refine WL.q (Wn.no rfl) rfl rfl (R.neB (a := true) (b := true) (c := false) rfl rfl Try.underlying4 rfl) ?_
  refine WL.q (Wn.no rfl) rfl rfl (R.pickF (v := (.bool false)) rfl rfl) ?_
  refine WL.q (Wn.no rfl) rfl rfl (R.move (v := (.bool false)) rfl) ?_
  refine WL.want rfl rfl ?_
  refine WL.q (Wn.no rfl) rfl rfl (R.move (v := (.bool true)) rfl) ?_
  refine WL.want rfl rfl ?_
  refine WL.q (Wn.no rfl) rfl rfl (R.not (b := true) rfl) ?_
  refine WL.want rfl rfl ?_
  refine WL.q (Wn.no rfl) rfl rfl (R.move (v := (.bool false)) rfl) ?_
  refine WL.skip rfl rfl rfl ?_
  refine WL.skip rfl rfl rfl ?_
  refine WL.skip rfl rfl rfl ?_
  refine WL.want rfl rfl ?_
  refine WL.q (Wn.no rfl) rfl rfl (R.pickF (v := (.bool false)) rfl rfl) ?_
  refine WL.q (Wn.no rfl) rfl rfl (R.pickF (v := (.bool false)) rfl rfl) ?_
  refine WL.nil ?_
  refine thn_n ?_
  refine WP.condF rfl ?_
  refine WP.skip ?_
  refine thn_n ?_
  refine WP.seq ?_
  refine WP.reg ?_
  refine WL.q (Wn.no rfl) rfl rfl (R.loadA (b := b_1) (off := 0) [] [(128, g.map vu8)] [] (cs := g.map vu8) rfl Try.isAgg53 Try.sizeOf53 (h_22.ok _ (.tail _ (.tail _ (.head _)))) rfl rfl rfl rfl) ?_
  refine WL.call (al := [(.agg ⟨g.map vu8⟩)]) Try.call28 rfl rfl (c_Rec_t g hg h2 _ ) rfl ?_
  rintro _ w_24 ⟨rfl, hc_23⟩
  have h_25 := h_22.same hc_23
  refine WL.q (Wn.no rfl) rfl rfl (R.move (v := (.tuple [(.agg ⟨flat [(1, [(vu64 (wordB g 1))]), (8, (rcR g).map vu64), (1, [(.bool (decide (g.getD 80 0 = 1)))])]⟩), (vi 0)].toArray)) rfl) ?_
  refine WL.q (Wn.no rfl) rfl rfl (R.extract (l := [(.agg ⟨flat [(1, [(vu64 (wordB g 1))]), (8, (rcR g).map vu64), (1, [(.bool (decide (g.getD 80 0 = 1)))])]⟩), (vi 0)]) (v := (.agg ⟨flat [(1, [(vu64 (wordB g 1))]), (8, (rcR g).map vu64), (1, [(.bool (decide (g.getD 80 0 = 1)))])]⟩)) rfl rfl) ?_
  refine WL.q (Wn.no rfl) rfl rfl (R.extract (l := [(.agg ⟨flat [(1, [(vu64 (wordB g 1))]), (8, (rcR g).map vu64), (1, [(.bool (decide (g.getD 80 0 = 1)))])]⟩), (vi 0)]) (v := (vi 0)) rfl rfl) ?_
  refine WL.alloc (segs := [(1, [(vu64 0)]), (8, (List.replicate 8 (0 : UInt64)).map vu64), (1, [(.bool false)])]) h_25 (zv Try.typeInfo45 rfl) rfl (SsOk.cons (SOk.v rfl) (SsOk.cons (SOk.u64 (List.length_replicate ..)) (SsOk.cons (SOk.v rfl) SsOk.nil))) rfl (fun b_26 w_27 h_28 => ?_)
  refine WL.storeA (b := b_26) (off := 0) [] [(1, [(vu64 0)]), (8, (List.replicate 8 (0 : UInt64)).map vu64), (1, [(.bool false)])] [(1, [(vu64 (wordB g 1))]), (8, (rcR g).map vu64), (1, [(.bool (decide (g.getD 80 0 = 1)))])] [] (ys := flat [(1, [(vu64 (wordB g 1))]), (8, (rcR g).map vu64), (1, [(.bool (decide (g.getD 80 0 = 1)))])]) h_28 rfl rfl Try.sizeOf45 At.h (by decide) rfl rfl rfl rfl rfl rfl (SsOk.cons (SOk.v rfl) (SsOk.cons (SOk.u64 (rfl : List.length (rcR g) = 8)) (SsOk.cons (SOk.v rfl) SsOk.nil))) (fun w_29 h_30 => ?_)
  refine WL.q (Wn.no rfl) rfl rfl (R.assign (v := (vi 0)) rfl) ?_
  refine WL.nil ?_
  refine thn_n ?_
  refine WP.seq ?_
  refine WP.reg ?_
  refine WL.q (Wn.no rfl) rfl rfl (R.loadA (b := b_1) (off := 0) [] [(128, g.map vu8)] [] (cs := g.map vu8) rfl Try.isAgg53 Try.sizeOf53 (h_30.ok _ (.tail _ (.tail _ (.tail _ (.head _))))) rfl rfl rfl rfl) ?_
  refine WL.call (al := [(.agg ⟨g.map vu8⟩)]) Try.call34 rfl rfl (c_RecR_t g hg h2 _ ) rfl ?_
  rintro _ w_32 ⟨rfl, hc_31⟩
  have h_33 := h_30.same hc_31
  refine WL.q (Wn.no rfl) rfl rfl (R.move (v := (.tuple [(.agg ⟨flat [(1, [(vu64 (wordB g 1))]), (8, (rcR g).map vu64), (1, [(.bool (decide (g.getD 80 0 = 1)))])]⟩), (.bool true)].toArray)) rfl) ?_
  refine WL.q (Wn.no rfl) rfl rfl (R.extract (l := [(.agg ⟨flat [(1, [(vu64 (wordB g 1))]), (8, (rcR g).map vu64), (1, [(.bool (decide (g.getD 80 0 = 1)))])]⟩), (.bool true)]) (v := (.agg ⟨flat [(1, [(vu64 (wordB g 1))]), (8, (rcR g).map vu64), (1, [(.bool (decide (g.getD 80 0 = 1)))])]⟩)) rfl rfl) ?_
  refine WL.q (Wn.no rfl) rfl rfl (R.extract (l := [(.agg ⟨flat [(1, [(vu64 (wordB g 1))]), (8, (rcR g).map vu64), (1, [(.bool (decide (g.getD 80 0 = 1)))])]⟩), (.bool true)]) (v := (.bool true)) rfl rfl) ?_
  refine WL.alloc (segs := [(1, [(vu64 0)]), (8, (List.replicate 8 (0 : UInt64)).map vu64), (1, [(.bool false)])]) h_33 (zv Try.typeInfo45 rfl) rfl (SsOk.cons (SOk.v rfl) (SsOk.cons (SOk.u64 (List.length_replicate ..)) (SsOk.cons (SOk.v rfl) SsOk.nil))) rfl (fun b_34 w_35 h_36 => ?_)
  refine WL.storeA (b := b_34) (off := 0) [] [(1, [(vu64 0)]), (8, (List.replicate 8 (0 : UInt64)).map vu64), (1, [(.bool false)])] [(1, [(vu64 (wordB g 1))]), (8, (rcR g).map vu64), (1, [(.bool (decide (g.getD 80 0 = 1)))])] [] (ys := flat [(1, [(vu64 (wordB g 1))]), (8, (rcR g).map vu64), (1, [(.bool (decide (g.getD 80 0 = 1)))])]) h_36 rfl rfl Try.sizeOf45 At.h (by decide) rfl rfl rfl rfl rfl rfl (SsOk.cons (SOk.v rfl) (SsOk.cons (SOk.u64 (rfl : List.length (rcR g) = 8)) (SsOk.cons (SOk.v rfl) SsOk.nil))) (fun w_37 h_38 => ?_)
  refine WL.q (Wn.no rfl) rfl rfl (R.assign (v := (.bool true)) rfl) ?_
  refine WL.nil ?_
  refine thn_n ?_
  refine WP.seq ?_
  refine WP.drawT (SL w.heap.size [.blk b_34 .nw 45 [(1, [(vu64 (wordB g 1))]), (8, (rcR g).map vu64), (1, [(.bool (decide (g.getD 80 0 = 1)))])], .blk b_26 .nw 45 [(1, [(vu64 (wordB g 1))]), (8, (rcR g).map vu64), (1, [(.bool (decide (g.getD 80 0 = 1)))])], .blk b_15 .nw 51 [(32, (rlV g).map vu8), (1, [(vu64 (wordB g 5))])], .blk b_7 .nw 51 [(32, (rlV g).map vu8), (1, [(vu64 (wordB g 5))])], .blk b_1 .nw 53 [(128, g.map vu8)]]) (.q 0 (.q 1 (.q 2 (.q 3 (.q 4 (.q 7 (.s 5 (.q 6 (.q 8 (.q 9 (.q 10 (.q 11 (.q 12 (.q 13 (.s 14 (.q 15 (.q 16 (.q 17 (.q 18 (.q 19 (.q 21 (.s 20 (.s 22 (.q 23 (.q 24 (.q 25 (.s 26 (.q 27 (.q 28 .nil))))))))))))))))))))))))))))) (by kernel_rfl) (by kernel_rfl) rfl (by kernel_rfl) (fun w_39 hc_41 => (SL.cons ((h_38.same hc_41).ok _ (.head _)) (SL.cons ((h_38.same hc_41).ok _ (.tail _ (.head _))) (SL.cons ((h_38.same hc_41).ok _ (.tail _ (.tail _ (.head _)))) (SL.cons ((h_38.same hc_41).ok _ (.tail _ (.tail _ (.tail _ (.head _))))) (SL.cons ((h_38.same hc_41).ok _ (.tail _ (.tail _ (.tail _ (.tail _ (.head _)))))) (SL.nil _ _))))))) (fun w_39 hc_41 => ?_)
  have h_40 := h_38.same hc_41
  refine WT.q rfl (Wn.no rfl) rfl rfl (fun wq hS => R.loadA (b := b_26) (off := 0) [] [(1, [(vu64 (wordB g 1))]), (8, (rcR g).map vu64), (1, [(.bool (decide (g.getD 80 0 = 1)))])] [] (cs := flat [(1, [(vu64 (wordB g 1))]), (8, (rcR g).map vu64), (1, [(.bool (decide (g.getD 80 0 = 1)))])]) rfl Try.isAgg45 Try.sizeOf45 (hS _ (.tail _ (.head _))) rfl rfl rfl rfl) ?_
  refine WT.q rfl (Wn.no rfl) rfl rfl (fun wq hS => R.loadA (b := b_34) (off := 0) [] [(1, [(vu64 (wordB g 1))]), (8, (rcR g).map vu64), (1, [(.bool (decide (g.getD 80 0 = 1)))])] [] (cs := flat [(1, [(vu64 (wordB g 1))]), (8, (rcR g).map vu64), (1, [(.bool (decide (g.getD 80 0 = 1)))])]) rfl Try.isAgg45 Try.sizeOf45 (hS _ (.head _)) rfl rfl rfl rfl) ?_
  refine WT.q rfl (Wn.no rfl) rfl rfl (fun wq hS => R.eqA (xs := flat [(1, [(vu64 (wordB g 1))]), (8, (rcR g).map vu64), (1, [(.bool (decide (g.getD 80 0 = 1)))])]) (ys := flat [(1, [(vu64 (wordB g 1))]), (8, (rcR g).map vu64), (1, [(.bool (decide (g.getD 80 0 = 1)))])]) (r := true) rfl rfl Try.eqGuardType45 kt45 (by decide) ag45 (Typ.struct (h := 2) (r := [(1, [(vu64 (wordB g 1))]), (8, (rcR g).map vu64), (1, [(.bool (decide (g.getD 80 0 = 1)))])]) (cs := flat [(1, [(vu64 (wordB g 1))]), (8, (rcR g).map vu64), (1, [(.bool (decide (g.getD 80 0 = 1)))])]) Try.underlying45 (TypF.cons (k := 1) rfl rfl (by decide) rfl (Typ.int Try.underlying22 ce22 (wfu64 (wordB g 1))) (TypF.cons (k := 8) rfl rfl (by decide) (len_map (rfl : List.length (rcR g) = 8)) (Typ.u64s Try.underlying23 ce23 Try.underlying22 ce22 (rfl : List.length (rcR g) = 8)) (TypF.cons (k := 1) rfl rfl (by decide) rfl (Typ.bool Try.underlying4 ce4) TypF.nil))) rfl (((SsOk.cons (SOk.v rfl) (SsOk.cons (SOk.u64 (rfl : List.length (rcR g) = 8)) (SsOk.cons (SOk.v rfl) SsOk.nil)))).len.trans ce45.symm)) (Typ.struct (h := 2) (r := [(1, [(vu64 (wordB g 1))]), (8, (rcR g).map vu64), (1, [(.bool (decide (g.getD 80 0 = 1)))])]) (cs := flat [(1, [(vu64 (wordB g 1))]), (8, (rcR g).map vu64), (1, [(.bool (decide (g.getD 80 0 = 1)))])]) Try.underlying45 (TypF.cons (k := 1) rfl rfl (by decide) rfl (Typ.int Try.underlying22 ce22 (wfu64 (wordB g 1))) (TypF.cons (k := 8) rfl rfl (by decide) (len_map (rfl : List.length (rcR g) = 8)) (Typ.u64s Try.underlying23 ce23 Try.underlying22 ce22 (rfl : List.length (rcR g) = 8)) (TypF.cons (k := 1) rfl rfl (by decide) rfl (Typ.bool Try.underlying4 ce4) TypF.nil))) rfl (((SsOk.cons (SOk.v rfl) (SsOk.cons (SOk.u64 (rfl : List.length (rcR g) = 8)) (SsOk.cons (SOk.v rfl) SsOk.nil)))).len.trans ce45.symm)) (eqT rfl)) ?_
  refine WT.q rfl (Wn.no rfl) rfl rfl (fun wq hS => R.move (v := (.bool true)) rfl) ?_
  refine WT.q rfl (Wn.yes rfl rfl rfl) rfl rfl (fun wq hS => R.move (v := (vi 0)) rfl) ?_
  refine WT.q rfl (Wn.yes rfl rfl rfl) rfl rfl (fun wq hS => R.move (v := (.bool true)) rfl) ?_
  refine WT.s ?_
  refine Op1.one rfl (Wn.yes rfl rfl rfl) ?_
  refine WL.call (al := [(vi 0)]) Try.call21 rfl rfl (c_num10 0 (by omega) _ ) rfl ?_
  rintro _ w_43 ⟨rfl, hc_42⟩
  have h_44 := h_40.same hc_42
  refine WL.nil ?_
  refine ⟨(SL.cons (h_44.ok _ (.head _)) (SL.cons (h_44.ok _ (.tail _ (.head _))) (SL.cons (h_44.ok _ (.tail _ (.tail _ (.head _)))) (SL.cons (h_44.ok _ (.tail _ (.tail _ (.tail _ (.head _))))) (SL.cons (h_44.ok _ (.tail _ (.tail _ (.tail _ (.tail _ (.head _)))))) (SL.nil _ _)))))), ?_⟩
  refine WT.q rfl (Wn.yes rfl rfl rfl) rfl rfl (fun wq hS => R.bin (v := (.bool true)) rfl rfl (bi_eql (r := true) (by decide))) ?_
  refine WT.q rfl (Wn.yes rfl rfl rfl) rfl rfl (fun wq hS => R.eqB (a := true) (b := true) (c := true) rfl rfl Try.underlying4 rfl) ?_
  refine WT.q rfl (Wn.no rfl) rfl rfl (fun wq hS => R.pickT (v := (.bool true)) rfl rfl) ?_
  refine WT.q rfl (Wn.no rfl) rfl rfl (fun wq hS => R.move (v := (.bool true)) rfl) ?_
  refine WT.q rfl (Wn.yes rfl rfl rfl) rfl rfl (fun wq hS => R.move (v := (.bool true)) rfl) ?_
  refine WT.q rfl (Wn.yes rfl rfl rfl) rfl rfl (fun wq hS => R.move (v := (.bool true)) rfl) ?_
  refine WT.skipQ rfl rfl rfl (boolNe (v := .bool true) rfl (by decide)) rfl rfl ?_
  refine WT.s ?_
  refine Op1.skip rfl rfl rfl (boolNe (v := .bool true) rfl (by decide)) rfl rfl ?_
  refine WT.skipQ rfl rfl rfl (boolNe (v := .bool true) rfl (by decide)) rfl rfl ?_
  refine WT.q rfl (Wn.yes rfl rfl rfl) rfl rfl (fun wq hS => R.pickT (v := (.bool true)) rfl rfl) ?_
  refine WT.q rfl (Wn.no rfl) rfl rfl (fun wq hS => R.pickT (v := (.bool true)) rfl rfl) ?_
  refine WT.q rfl (Wn.no rfl) rfl rfl (fun wq hS => R.move (v := (.bool true)) rfl) ?_
  refine WT.q rfl (Wn.yes rfl rfl rfl) rfl rfl (fun wq hS => R.loadA (b := b_1) (off := 0) [] [(128, g.map vu8)] [] (cs := g.map vu8) rfl Try.isAgg53 Try.sizeOf53 (hS _ (.tail _ (.tail _ (.tail _ (.tail _ (.head _)))))) rfl rfl rfl rfl) ?_
  refine WT.q rfl (Wn.yes rfl rfl rfl) rfl rfl (fun wq hS => R.loadA (b := b_1) (off := 0) [] [(128, g.map vu8)] [] (cs := g.map vu8) rfl Try.isAgg53 Try.sizeOf53 (hS _ (.tail _ (.tail _ (.tail _ (.tail _ (.head _)))))) rfl rfl rfl rfl) ?_
  refine WT.s ?_
  refine Op1.one rfl (Wn.yes rfl rfl rfl) ?_
  refine WL.call (al := [(.agg ⟨g.map vu8⟩)]) Try.call35 rfl rfl (c_Kind_r g hg h1 _ ) rfl ?_
  rintro _ w_46 ⟨rfl, hc_45⟩
  have h_47 := h_44.same hc_45
  refine WL.nil ?_
  refine ⟨(SL.cons (h_47.ok _ (.head _)) (SL.cons (h_47.ok _ (.tail _ (.head _))) (SL.cons (h_47.ok _ (.tail _ (.tail _ (.head _)))) (SL.cons (h_47.ok _ (.tail _ (.tail _ (.tail _ (.head _))))) (SL.cons (h_47.ok _ (.tail _ (.tail _ (.tail _ (.tail _ (.head _)))))) (SL.nil _ _)))))), ?_⟩
  refine WT.s ?_
  refine Op1.one rfl (Wn.yes rfl rfl rfl) ?_
  refine WL.call (al := [(.agg ⟨g.map vu8⟩)]) Try.call36 rfl rfl (c_KindR_r g hg h1 _ ) rfl ?_
  rintro _ w_49 ⟨rfl, hc_48⟩
  have h_50 := h_47.same hc_48
  refine WL.nil ?_
  refine ⟨(SL.cons (h_50.ok _ (.head _)) (SL.cons (h_50.ok _ (.tail _ (.head _))) (SL.cons (h_50.ok _ (.tail _ (.tail _ (.head _)))) (SL.cons (h_50.ok _ (.tail _ (.tail _ (.tail _ (.head _))))) (SL.cons (h_50.ok _ (.tail _ (.tail _ (.tail _ (.tail _ (.head _)))))) (SL.nil _ _)))))), ?_⟩
  refine WT.q rfl (Wn.yes rfl rfl rfl) rfl rfl (fun wq hS => R.eqStr (a := ([114, 101, 97, 108, 109] : List UInt8)) (b := ([114, 101, 97, 108, 109] : List UInt8)) (r := true) rfl rfl (by simp)) ?_
  refine WT.q rfl (Wn.no rfl) rfl rfl (fun wq hS => R.pickT (v := (.bool true)) rfl rfl) ?_
  refine WT.q rfl (Wn.no rfl) rfl rfl (fun wq hS => R.move (v := (.bool true)) rfl) ?_
  refine WT.s ?_
  refine Op1.one rfl (Wn.yes rfl rfl rfl) ?_
  refine WL.call (al := []) Try.call22 rfl rfl (c_known  _ ) rfl ?_
  rintro _ w_52 ⟨rfl, hc_51⟩
  have h_53 := h_50.same hc_51
  refine WL.nil ?_
  refine ⟨(SL.cons (h_53.ok _ (.head _)) (SL.cons (h_53.ok _ (.tail _ (.head _))) (SL.cons (h_53.ok _ (.tail _ (.tail _ (.head _)))) (SL.cons (h_53.ok _ (.tail _ (.tail _ (.tail _ (.head _))))) (SL.cons (h_53.ok _ (.tail _ (.tail _ (.tail _ (.tail _ (.head _)))))) (SL.nil _ _)))))), ?_⟩
  refine WT.q rfl (Wn.no rfl) rfl rfl (fun wq hS => R.pickT (v := (.bool true)) rfl rfl) ?_
  refine WT.q rfl (Wn.no rfl) rfl rfl (fun wq hS => R.assign (v := (.bool true)) rfl) ?_
  refine WT.nil ?_
  refine thn_n ?_
  refine WP.ret ?_
  refine ret_of Try.results10 (RV.tmp (v := (.bool true)) rfl RV.nil) ?_
  exact ⟨rfl, h_53.chgS⟩

theorem w_ParamsReads_tf (g : List UInt8) (hg : g.length = 128) (h1 : okRealm g = true) (h2 : okRec g = false) (w : World) :
    Cs Try.prog 10 [(.agg ⟨g.map vu8⟩)].toArray w (fun v w1 => v = .bool true ∧ Chg w w1 []) := by
  refine Cs.of (n := 78) (args := [(.agg ⟨g.map vu8⟩)]) Try.func10 rfl rfl rfl ?_
  have h_0 := HP.init w
  refine WP.seq ?_
  refine WP.reg ?_
  refine WL.box (v := (.agg ⟨g.map vu8⟩)) (segs := [(128, g.map vu8)]) h_0 rfl rfl (SsOk.cons (SOk.u8 hg) SsOk.nil) rfl (fun b_1 w_2 h_3 => ?_)
  refine WL.q (Wn.no rfl) rfl rfl (R.assign (v := (.bool false)) rfl) ?_
  refine WL.nil ?_
  refine thn_n ?_
  refine WP.seq ?_
  refine WP.reg ?_
  refine WL.q (Wn.no rfl) rfl rfl (R.loadA (b := b_1) (off := 0) [] [(128, g.map vu8)] [] (cs := g.map vu8) rfl Try.isAgg53 Try.sizeOf53 (h_3.ok _ (.head _)) rfl rfl rfl rfl) ?_
  refine WL.call (al := [(.agg ⟨g.map vu8⟩)]) Try.call32 rfl rfl (c_Realm_t g hg h1 _ ) rfl ?_
  rintro _ w_5 ⟨rfl, hc_4⟩
  have h_6 := h_3.same hc_4
  refine WL.q (Wn.no rfl) rfl rfl (R.move (v := (.tuple [(.agg ⟨flat [(32, (rlV g).map vu8), (1, [(vu64 (wordB g 5))])]⟩), (vi 0)].toArray)) rfl) ?_
  refine WL.q (Wn.no rfl) rfl rfl (R.extract (l := [(.agg ⟨flat [(32, (rlV g).map vu8), (1, [(vu64 (wordB g 5))])]⟩), (vi 0)]) (v := (.agg ⟨flat [(32, (rlV g).map vu8), (1, [(vu64 (wordB g 5))])]⟩)) rfl rfl) ?_
  refine WL.q (Wn.no rfl) rfl rfl (R.extract (l := [(.agg ⟨flat [(32, (rlV g).map vu8), (1, [(vu64 (wordB g 5))])]⟩), (vi 0)]) (v := (vi 0)) rfl rfl) ?_
  refine WL.alloc (segs := [(32, (List.replicate 32 (0 : UInt8)).map vu8), (1, [(vu64 0)])]) h_6 (zv Try.typeInfo51 rfl) rfl (SsOk.cons (SOk.u8 (List.length_replicate ..)) (SsOk.cons (SOk.v rfl) SsOk.nil)) rfl (fun b_7 w_8 h_9 => ?_)
  refine WL.storeA (b := b_7) (off := 0) [] [(32, (List.replicate 32 (0 : UInt8)).map vu8), (1, [(vu64 0)])] [(32, (rlV g).map vu8), (1, [(vu64 (wordB g 5))])] [] (ys := flat [(32, (rlV g).map vu8), (1, [(vu64 (wordB g 5))])]) h_9 rfl rfl Try.sizeOf51 At.h (by decide) rfl rfl rfl rfl rfl rfl (SsOk.cons (SOk.u8 (by simp only [rlV, List.length_take, List.length_drop, hg]; decide)) (SsOk.cons (SOk.v rfl) SsOk.nil)) (fun w_10 h_11 => ?_)
  refine WL.q (Wn.no rfl) rfl rfl (R.assign (v := (vi 0)) rfl) ?_
  refine WL.nil ?_
  refine thn_n ?_
  refine WP.seq ?_
  refine WP.reg ?_
  refine WL.q (Wn.no rfl) rfl rfl (R.loadA (b := b_1) (off := 0) [] [(128, g.map vu8)] [] (cs := g.map vu8) rfl Try.isAgg53 Try.sizeOf53 (h_11.ok _ (.tail _ (.head _))) rfl rfl rfl rfl) ?_
  refine WL.call (al := [(.agg ⟨g.map vu8⟩)]) Try.call33 rfl rfl (c_RealmR_t g hg h1 _ ) rfl ?_
  rintro _ w_13 ⟨rfl, hc_12⟩
  have h_14 := h_11.same hc_12
  refine WL.q (Wn.no rfl) rfl rfl (R.move (v := (.tuple [(.agg ⟨flat [(32, (rlV g).map vu8), (1, [(vu64 (wordB g 5))])]⟩), (.bool true)].toArray)) rfl) ?_
  refine WL.q (Wn.no rfl) rfl rfl (R.extract (l := [(.agg ⟨flat [(32, (rlV g).map vu8), (1, [(vu64 (wordB g 5))])]⟩), (.bool true)]) (v := (.agg ⟨flat [(32, (rlV g).map vu8), (1, [(vu64 (wordB g 5))])]⟩)) rfl rfl) ?_
  refine WL.q (Wn.no rfl) rfl rfl (R.extract (l := [(.agg ⟨flat [(32, (rlV g).map vu8), (1, [(vu64 (wordB g 5))])]⟩), (.bool true)]) (v := (.bool true)) rfl rfl) ?_
  refine WL.alloc (segs := [(32, (List.replicate 32 (0 : UInt8)).map vu8), (1, [(vu64 0)])]) h_14 (zv Try.typeInfo51 rfl) rfl (SsOk.cons (SOk.u8 (List.length_replicate ..)) (SsOk.cons (SOk.v rfl) SsOk.nil)) rfl (fun b_15 w_16 h_17 => ?_)
  refine WL.storeA (b := b_15) (off := 0) [] [(32, (List.replicate 32 (0 : UInt8)).map vu8), (1, [(vu64 0)])] [(32, (rlV g).map vu8), (1, [(vu64 (wordB g 5))])] [] (ys := flat [(32, (rlV g).map vu8), (1, [(vu64 (wordB g 5))])]) h_17 rfl rfl Try.sizeOf51 At.h (by decide) rfl rfl rfl rfl rfl rfl (SsOk.cons (SOk.u8 (by simp only [rlV, List.length_take, List.length_drop, hg]; decide)) (SsOk.cons (SOk.v rfl) SsOk.nil)) (fun w_18 h_19 => ?_)
  refine WL.q (Wn.no rfl) rfl rfl (R.assign (v := (.bool true)) rfl) ?_
  refine WL.nil ?_
  refine thn_n ?_
  refine WP.seq ?_
  refine WP.seq ?_
  refine WP.reg ?_
  refine WL.q (Wn.no rfl) rfl rfl (R.loadA (b := b_7) (off := 0) [] [(32, (rlV g).map vu8), (1, [(vu64 (wordB g 5))])] [] (cs := flat [(32, (rlV g).map vu8), (1, [(vu64 (wordB g 5))])]) rfl Try.isAgg51 Try.sizeOf51 (h_19.ok _ (.tail _ (.head _))) rfl rfl rfl rfl) ?_
  refine WL.q (Wn.no rfl) rfl rfl (R.loadA (b := b_15) (off := 0) [] [(32, (rlV g).map vu8), (1, [(vu64 (wordB g 5))])] [] (cs := flat [(32, (rlV g).map vu8), (1, [(vu64 (wordB g 5))])]) rfl Try.isAgg51 Try.sizeOf51 (h_19.ok _ (.head _)) rfl rfl rfl rfl) ?_
  refine WL.q (Wn.no rfl) rfl rfl (R.neA (xs := flat [(32, (rlV g).map vu8), (1, [(vu64 (wordB g 5))])]) (ys := flat [(32, (rlV g).map vu8), (1, [(vu64 (wordB g 5))])]) (r := false) rfl rfl Try.eqGuardType51 kt51 (by decide) ag51 (Typ.struct (h := 2) (r := [(32, (rlV g).map vu8), (1, [(vu64 (wordB g 5))])]) (cs := flat [(32, (rlV g).map vu8), (1, [(vu64 (wordB g 5))])]) Try.underlying51 (TypF.cons (k := 32) rfl rfl (by decide) (len_map (by simp only [rlV, List.length_take, List.length_drop, hg]; decide)) (Typ.u8s Try.underlying49 ce49 Try.underlying5 ce5 (by simp only [rlV, List.length_take, List.length_drop, hg]; decide)) (TypF.cons (k := 1) rfl rfl (by decide) rfl (Typ.int Try.underlying22 ce22 (wfu64 (wordB g 5))) TypF.nil)) rfl (((SsOk.cons (SOk.u8 (by simp only [rlV, List.length_take, List.length_drop, hg]; decide)) (SsOk.cons (SOk.v rfl) SsOk.nil))).len.trans ce51.symm)) (Typ.struct (h := 2) (r := [(32, (rlV g).map vu8), (1, [(vu64 (wordB g 5))])]) (cs := flat [(32, (rlV g).map vu8), (1, [(vu64 (wordB g 5))])]) Try.underlying51 (TypF.cons (k := 32) rfl rfl (by decide) (len_map (by simp only [rlV, List.length_take, List.length_drop, hg]; decide)) (Typ.u8s Try.underlying49 ce49 Try.underlying5 ce5 (by simp only [rlV, List.length_take, List.length_drop, hg]; decide)) (TypF.cons (k := 1) rfl rfl (by decide) rfl (Typ.int Try.underlying22 ce22 (wfu64 (wordB g 5))) TypF.nil)) rfl (((SsOk.cons (SOk.u8 (by simp only [rlV, List.length_take, List.length_drop, hg]; decide)) (SsOk.cons (SOk.v rfl) SsOk.nil))).len.trans ce51.symm)) (neT rfl)) ?_
  refine WL.q (Wn.no rfl) rfl rfl (R.move (v := (.bool false)) rfl) ?_
  refine WL.want rfl rfl ?_
  refine WL.q (Wn.no rfl) rfl rfl (R.move (v := (vi 0)) rfl) ?_
  refine WL.want rfl rfl ?_
  refine WL.call (al := [(vi 0)]) Try.call21 rfl rfl (c_num10 0 (by omega) _ ) rfl ?_
  rintro _ w_21 ⟨rfl, hc_20⟩
  have h_22 := h_19.same hc_20
  refine WL.want rfl rfl ?_
  refine WL.q (Wn.no rfl) rfl rfl (R.bin (v := (.bool true)) rfl rfl (bi_eql (r := true) (by decide))) ?_
  refine WL.want rfl rfl ?_
  refine WL.q (Wn.no rfl) rfl rfl (R.move (v := (.bool true)) rfl) ?_
  refine WL.want rfl rfl ?_
  refine WL.q (Wn.no rfl) rfl rfl (R.neB (a := true) (b := true) (c := false) rfl rfl Try.underlying4 rfl) ?_
  refine WL.q (Wn.no rfl) rfl rfl (R.pickF (v := (.bool false)) rfl rfl) ?_
  refine WL.q (Wn.no rfl) rfl rfl (R.move (v := (.bool false)) rfl) ?_
  refine WL.want rfl rfl ?_
  refine WL.q (Wn.no rfl) rfl rfl (R.move (v := (.bool true)) rfl) ?_
  refine WL.want rfl rfl ?_
  refine WL.q (Wn.no rfl) rfl rfl (R.not (b := true) rfl) ?_
  refine WL.want rfl rfl ?_
  refine WL.q (Wn.no rfl) rfl rfl (R.move (v := (.bool false)) rfl) ?_
  refine WL.skip rfl rfl rfl ?_
  refine WL.skip rfl rfl rfl ?_
  refine WL.skip rfl rfl rfl ?_
  refine WL.want rfl rfl ?_
  refine WL.q (Wn.no rfl) rfl rfl (R.pickF (v := (.bool false)) rfl rfl) ?_
  refine WL.q (Wn.no rfl) rfl rfl (R.pickF (v := (.bool false)) rfl rfl) ?_
  refine WL.nil ?_
  refine thn_n ?_
  refine WP.condF rfl ?_
  refine WP.skip ?_
  refine thn_n ?_
  refine WP.seq ?_
  refine WP.reg ?_
  refine WL.q (Wn.no rfl) rfl rfl (R.loadA (b := b_1) (off := 0) [] [(128, g.map vu8)] [] (cs := g.map vu8) rfl Try.isAgg53 Try.sizeOf53 (h_22.ok _ (.tail _ (.tail _ (.head _)))) rfl rfl rfl rfl) ?_
  refine WL.call (al := [(.agg ⟨g.map vu8⟩)]) Try.call28 rfl rfl (c_Rec_f g hg h2 _ ) rfl ?_
  rintro _ w_24 ⟨rfl, hc_23⟩
  have h_25 := h_22.same hc_23
  refine WL.q (Wn.no rfl) rfl rfl (R.move (v := (.tuple [(.agg ⟨flat [(1, [(vu64 0)]), (8, (List.replicate 8 (0 : UInt64)).map vu64), (1, [(.bool false)])]⟩), (vi 4)].toArray)) rfl) ?_
  refine WL.q (Wn.no rfl) rfl rfl (R.extract (l := [(.agg ⟨flat [(1, [(vu64 0)]), (8, (List.replicate 8 (0 : UInt64)).map vu64), (1, [(.bool false)])]⟩), (vi 4)]) (v := (.agg ⟨flat [(1, [(vu64 0)]), (8, (List.replicate 8 (0 : UInt64)).map vu64), (1, [(.bool false)])]⟩)) rfl rfl) ?_
  refine WL.q (Wn.no rfl) rfl rfl (R.extract (l := [(.agg ⟨flat [(1, [(vu64 0)]), (8, (List.replicate 8 (0 : UInt64)).map vu64), (1, [(.bool false)])]⟩), (vi 4)]) (v := (vi 4)) rfl rfl) ?_
  refine WL.alloc (segs := [(1, [(vu64 0)]), (8, (List.replicate 8 (0 : UInt64)).map vu64), (1, [(.bool false)])]) h_25 (zv Try.typeInfo45 rfl) rfl (SsOk.cons (SOk.v rfl) (SsOk.cons (SOk.u64 (List.length_replicate ..)) (SsOk.cons (SOk.v rfl) SsOk.nil))) rfl (fun b_26 w_27 h_28 => ?_)
  refine WL.storeA (b := b_26) (off := 0) [] [(1, [(vu64 0)]), (8, (List.replicate 8 (0 : UInt64)).map vu64), (1, [(.bool false)])] [(1, [(vu64 0)]), (8, (List.replicate 8 (0 : UInt64)).map vu64), (1, [(.bool false)])] [] (ys := flat [(1, [(vu64 0)]), (8, (List.replicate 8 (0 : UInt64)).map vu64), (1, [(.bool false)])]) h_28 rfl rfl Try.sizeOf45 At.h (by decide) rfl rfl rfl rfl rfl rfl (SsOk.cons (SOk.v rfl) (SsOk.cons (SOk.u64 (List.length_replicate ..)) (SsOk.cons (SOk.v rfl) SsOk.nil))) (fun w_29 h_30 => ?_)
  refine WL.q (Wn.no rfl) rfl rfl (R.assign (v := (vi 4)) rfl) ?_
  refine WL.nil ?_
  refine thn_n ?_
  refine WP.seq ?_
  refine WP.reg ?_
  refine WL.q (Wn.no rfl) rfl rfl (R.loadA (b := b_1) (off := 0) [] [(128, g.map vu8)] [] (cs := g.map vu8) rfl Try.isAgg53 Try.sizeOf53 (h_30.ok _ (.tail _ (.tail _ (.tail _ (.head _))))) rfl rfl rfl rfl) ?_
  refine WL.call (al := [(.agg ⟨g.map vu8⟩)]) Try.call34 rfl rfl (c_RecR_f g hg h2 _ ) rfl ?_
  rintro _ w_32 ⟨rfl, hc_31⟩
  have h_33 := h_30.same hc_31
  refine WL.q (Wn.no rfl) rfl rfl (R.move (v := (.tuple [(.agg ⟨flat [(1, [(vu64 0)]), (8, (List.replicate 8 (0 : UInt64)).map vu64), (1, [(.bool false)])]⟩), (.bool false)].toArray)) rfl) ?_
  refine WL.q (Wn.no rfl) rfl rfl (R.extract (l := [(.agg ⟨flat [(1, [(vu64 0)]), (8, (List.replicate 8 (0 : UInt64)).map vu64), (1, [(.bool false)])]⟩), (.bool false)]) (v := (.agg ⟨flat [(1, [(vu64 0)]), (8, (List.replicate 8 (0 : UInt64)).map vu64), (1, [(.bool false)])]⟩)) rfl rfl) ?_
  refine WL.q (Wn.no rfl) rfl rfl (R.extract (l := [(.agg ⟨flat [(1, [(vu64 0)]), (8, (List.replicate 8 (0 : UInt64)).map vu64), (1, [(.bool false)])]⟩), (.bool false)]) (v := (.bool false)) rfl rfl) ?_
  refine WL.alloc (segs := [(1, [(vu64 0)]), (8, (List.replicate 8 (0 : UInt64)).map vu64), (1, [(.bool false)])]) h_33 (zv Try.typeInfo45 rfl) rfl (SsOk.cons (SOk.v rfl) (SsOk.cons (SOk.u64 (List.length_replicate ..)) (SsOk.cons (SOk.v rfl) SsOk.nil))) rfl (fun b_34 w_35 h_36 => ?_)
  refine WL.storeA (b := b_34) (off := 0) [] [(1, [(vu64 0)]), (8, (List.replicate 8 (0 : UInt64)).map vu64), (1, [(.bool false)])] [(1, [(vu64 0)]), (8, (List.replicate 8 (0 : UInt64)).map vu64), (1, [(.bool false)])] [] (ys := flat [(1, [(vu64 0)]), (8, (List.replicate 8 (0 : UInt64)).map vu64), (1, [(.bool false)])]) h_36 rfl rfl Try.sizeOf45 At.h (by decide) rfl rfl rfl rfl rfl rfl (SsOk.cons (SOk.v rfl) (SsOk.cons (SOk.u64 (List.length_replicate ..)) (SsOk.cons (SOk.v rfl) SsOk.nil))) (fun w_37 h_38 => ?_)
  refine WL.q (Wn.no rfl) rfl rfl (R.assign (v := (.bool false)) rfl) ?_
  refine WL.nil ?_
  refine thn_n ?_
  refine WP.seq ?_
  refine WP.drawT (SL w.heap.size [.blk b_34 .nw 45 [(1, [(vu64 0)]), (8, (List.replicate 8 (0 : UInt64)).map vu64), (1, [(.bool false)])], .blk b_26 .nw 45 [(1, [(vu64 0)]), (8, (List.replicate 8 (0 : UInt64)).map vu64), (1, [(.bool false)])], .blk b_15 .nw 51 [(32, (rlV g).map vu8), (1, [(vu64 (wordB g 5))])], .blk b_7 .nw 51 [(32, (rlV g).map vu8), (1, [(vu64 (wordB g 5))])], .blk b_1 .nw 53 [(128, g.map vu8)]]) (.q 0 (.q 1 (.q 2 (.q 3 (.q 4 (.q 7 (.s 5 (.q 6 (.q 8 (.q 9 (.q 10 (.q 11 (.q 12 (.q 13 (.s 14 (.q 15 (.q 16 (.q 17 (.q 18 (.q 19 (.q 21 (.s 20 (.s 22 (.q 23 (.q 24 (.q 25 (.s 26 (.q 27 (.q 28 .nil))))))))))))))))))))))))))))) (by kernel_rfl) (by kernel_rfl) rfl (by kernel_rfl) (fun w_39 hc_41 => (SL.cons ((h_38.same hc_41).ok _ (.head _)) (SL.cons ((h_38.same hc_41).ok _ (.tail _ (.head _))) (SL.cons ((h_38.same hc_41).ok _ (.tail _ (.tail _ (.head _)))) (SL.cons ((h_38.same hc_41).ok _ (.tail _ (.tail _ (.tail _ (.head _))))) (SL.cons ((h_38.same hc_41).ok _ (.tail _ (.tail _ (.tail _ (.tail _ (.head _)))))) (SL.nil _ _))))))) (fun w_39 hc_41 => ?_)
  have h_40 := h_38.same hc_41
  refine WT.q rfl (Wn.no rfl) rfl rfl (fun wq hS => R.loadA (b := b_26) (off := 0) [] [(1, [(vu64 0)]), (8, (List.replicate 8 (0 : UInt64)).map vu64), (1, [(.bool false)])] [] (cs := flat [(1, [(vu64 0)]), (8, (List.replicate 8 (0 : UInt64)).map vu64), (1, [(.bool false)])]) rfl Try.isAgg45 Try.sizeOf45 (hS _ (.tail _ (.head _))) rfl rfl rfl rfl) ?_
  refine WT.q rfl (Wn.no rfl) rfl rfl (fun wq hS => R.loadA (b := b_34) (off := 0) [] [(1, [(vu64 0)]), (8, (List.replicate 8 (0 : UInt64)).map vu64), (1, [(.bool false)])] [] (cs := flat [(1, [(vu64 0)]), (8, (List.replicate 8 (0 : UInt64)).map vu64), (1, [(.bool false)])]) rfl Try.isAgg45 Try.sizeOf45 (hS _ (.head _)) rfl rfl rfl rfl) ?_
  refine WT.q rfl (Wn.no rfl) rfl rfl (fun wq hS => R.eqA (xs := flat [(1, [(vu64 0)]), (8, (List.replicate 8 (0 : UInt64)).map vu64), (1, [(.bool false)])]) (ys := flat [(1, [(vu64 0)]), (8, (List.replicate 8 (0 : UInt64)).map vu64), (1, [(.bool false)])]) (r := true) rfl rfl Try.eqGuardType45 kt45 (by decide) ag45 (Typ.struct (h := 2) (r := [(1, [(vu64 0)]), (8, (List.replicate 8 (0 : UInt64)).map vu64), (1, [(.bool false)])]) (cs := flat [(1, [(vu64 0)]), (8, (List.replicate 8 (0 : UInt64)).map vu64), (1, [(.bool false)])]) Try.underlying45 (TypF.cons (k := 1) rfl rfl (by decide) rfl (Typ.int Try.underlying22 ce22 (wfu64 0)) (TypF.cons (k := 8) rfl rfl (by decide) (len_map (List.length_replicate ..)) (Typ.u64s Try.underlying23 ce23 Try.underlying22 ce22 (List.length_replicate ..)) (TypF.cons (k := 1) rfl rfl (by decide) rfl (Typ.bool Try.underlying4 ce4) TypF.nil))) rfl (((SsOk.cons (SOk.v rfl) (SsOk.cons (SOk.u64 (List.length_replicate ..)) (SsOk.cons (SOk.v rfl) SsOk.nil)))).len.trans ce45.symm)) (Typ.struct (h := 2) (r := [(1, [(vu64 0)]), (8, (List.replicate 8 (0 : UInt64)).map vu64), (1, [(.bool false)])]) (cs := flat [(1, [(vu64 0)]), (8, (List.replicate 8 (0 : UInt64)).map vu64), (1, [(.bool false)])]) Try.underlying45 (TypF.cons (k := 1) rfl rfl (by decide) rfl (Typ.int Try.underlying22 ce22 (wfu64 0)) (TypF.cons (k := 8) rfl rfl (by decide) (len_map (List.length_replicate ..)) (Typ.u64s Try.underlying23 ce23 Try.underlying22 ce22 (List.length_replicate ..)) (TypF.cons (k := 1) rfl rfl (by decide) rfl (Typ.bool Try.underlying4 ce4) TypF.nil))) rfl (((SsOk.cons (SOk.v rfl) (SsOk.cons (SOk.u64 (List.length_replicate ..)) (SsOk.cons (SOk.v rfl) SsOk.nil)))).len.trans ce45.symm)) (eqT rfl)) ?_
  refine WT.q rfl (Wn.no rfl) rfl rfl (fun wq hS => R.move (v := (.bool true)) rfl) ?_
  refine WT.q rfl (Wn.yes rfl rfl rfl) rfl rfl (fun wq hS => R.move (v := (vi 4)) rfl) ?_
  refine WT.q rfl (Wn.yes rfl rfl rfl) rfl rfl (fun wq hS => R.move (v := (.bool false)) rfl) ?_
  refine WT.s ?_
  refine Op1.one rfl (Wn.yes rfl rfl rfl) ?_
  refine WL.call (al := [(vi 4)]) Try.call21 rfl rfl (c_num10 4 (by omega) _ ) rfl ?_
  rintro _ w_43 ⟨rfl, hc_42⟩
  have h_44 := h_40.same hc_42
  refine WL.nil ?_
  refine ⟨(SL.cons (h_44.ok _ (.head _)) (SL.cons (h_44.ok _ (.tail _ (.head _))) (SL.cons (h_44.ok _ (.tail _ (.tail _ (.head _)))) (SL.cons (h_44.ok _ (.tail _ (.tail _ (.tail _ (.head _))))) (SL.cons (h_44.ok _ (.tail _ (.tail _ (.tail _ (.tail _ (.head _)))))) (SL.nil _ _)))))), ?_⟩
  refine WT.q rfl (Wn.yes rfl rfl rfl) rfl rfl (fun wq hS => R.bin (v := (.bool false)) rfl rfl (bi_eql (r := false) (by decide))) ?_
  refine WT.q rfl (Wn.yes rfl rfl rfl) rfl rfl (fun wq hS => R.eqB (a := false) (b := false) (c := true) rfl rfl Try.underlying4 rfl) ?_
  refine WT.q rfl (Wn.no rfl) rfl rfl (fun wq hS => R.pickT (v := (.bool true)) rfl rfl) ?_
  refine WT.q rfl (Wn.no rfl) rfl rfl (fun wq hS => R.move (v := (.bool true)) rfl) ?_
  refine WT.q rfl (Wn.yes rfl rfl rfl) rfl rfl (fun wq hS => R.move (v := (.bool false)) rfl) ?_
  refine WT.q rfl (Wn.yes rfl rfl rfl) rfl rfl (fun wq hS => R.move (v := (.bool false)) rfl) ?_
  refine WT.q rfl (Wn.yes rfl rfl rfl) rfl rfl (fun wq hS => R.move (v := (vi 4)) rfl) ?_
  refine WT.s ?_
  refine Op1.one rfl (Wn.yes rfl rfl rfl) ?_
  refine WL.call (al := [(vi 4)]) Try.call21 rfl rfl (c_num10 4 (by omega) _ ) rfl ?_
  rintro _ w_46 ⟨rfl, hc_45⟩
  have h_47 := h_44.same hc_45
  refine WL.nil ?_
  refine ⟨(SL.cons (h_47.ok _ (.head _)) (SL.cons (h_47.ok _ (.tail _ (.head _))) (SL.cons (h_47.ok _ (.tail _ (.tail _ (.head _)))) (SL.cons (h_47.ok _ (.tail _ (.tail _ (.tail _ (.head _))))) (SL.cons (h_47.ok _ (.tail _ (.tail _ (.tail _ (.tail _ (.head _)))))) (SL.nil _ _)))))), ?_⟩
  refine WT.q rfl (Wn.yes rfl rfl rfl) rfl rfl (fun wq hS => R.bin (v := (.bool true)) rfl rfl (bi_eql (r := true) (by decide))) ?_
  refine WT.q rfl (Wn.yes rfl rfl rfl) rfl rfl (fun wq hS => R.pickF (v := (.bool true)) rfl rfl) ?_
  refine WT.q rfl (Wn.no rfl) rfl rfl (fun wq hS => R.pickT (v := (.bool true)) rfl rfl) ?_
  refine WT.q rfl (Wn.no rfl) rfl rfl (fun wq hS => R.move (v := (.bool true)) rfl) ?_
  refine WT.q rfl (Wn.yes rfl rfl rfl) rfl rfl (fun wq hS => R.loadA (b := b_1) (off := 0) [] [(128, g.map vu8)] [] (cs := g.map vu8) rfl Try.isAgg53 Try.sizeOf53 (hS _ (.tail _ (.tail _ (.tail _ (.tail _ (.head _)))))) rfl rfl rfl rfl) ?_
  refine WT.q rfl (Wn.yes rfl rfl rfl) rfl rfl (fun wq hS => R.loadA (b := b_1) (off := 0) [] [(128, g.map vu8)] [] (cs := g.map vu8) rfl Try.isAgg53 Try.sizeOf53 (hS _ (.tail _ (.tail _ (.tail _ (.tail _ (.head _)))))) rfl rfl rfl rfl) ?_
  refine WT.s ?_
  refine Op1.one rfl (Wn.yes rfl rfl rfl) ?_
  refine WL.call (al := [(.agg ⟨g.map vu8⟩)]) Try.call35 rfl rfl (c_Kind_r g hg h1 _ ) rfl ?_
  rintro _ w_49 ⟨rfl, hc_48⟩
  have h_50 := h_47.same hc_48
  refine WL.nil ?_
  refine ⟨(SL.cons (h_50.ok _ (.head _)) (SL.cons (h_50.ok _ (.tail _ (.head _))) (SL.cons (h_50.ok _ (.tail _ (.tail _ (.head _)))) (SL.cons (h_50.ok _ (.tail _ (.tail _ (.tail _ (.head _))))) (SL.cons (h_50.ok _ (.tail _ (.tail _ (.tail _ (.tail _ (.head _)))))) (SL.nil _ _)))))), ?_⟩
  refine WT.s ?_
  refine Op1.one rfl (Wn.yes rfl rfl rfl) ?_
  refine WL.call (al := [(.agg ⟨g.map vu8⟩)]) Try.call36 rfl rfl (c_KindR_r g hg h1 _ ) rfl ?_
  rintro _ w_52 ⟨rfl, hc_51⟩
  have h_53 := h_50.same hc_51
  refine WL.nil ?_
  refine ⟨(SL.cons (h_53.ok _ (.head _)) (SL.cons (h_53.ok _ (.tail _ (.head _))) (SL.cons (h_53.ok _ (.tail _ (.tail _ (.head _)))) (SL.cons (h_53.ok _ (.tail _ (.tail _ (.tail _ (.head _))))) (SL.cons (h_53.ok _ (.tail _ (.tail _ (.tail _ (.tail _ (.head _)))))) (SL.nil _ _)))))), ?_⟩
  refine WT.q rfl (Wn.yes rfl rfl rfl) rfl rfl (fun wq hS => R.eqStr (a := ([114, 101, 97, 108, 109] : List UInt8)) (b := ([114, 101, 97, 108, 109] : List UInt8)) (r := true) rfl rfl (by simp)) ?_
  refine WT.q rfl (Wn.no rfl) rfl rfl (fun wq hS => R.pickT (v := (.bool true)) rfl rfl) ?_
  refine WT.q rfl (Wn.no rfl) rfl rfl (fun wq hS => R.move (v := (.bool true)) rfl) ?_
  refine WT.s ?_
  refine Op1.one rfl (Wn.yes rfl rfl rfl) ?_
  refine WL.call (al := []) Try.call22 rfl rfl (c_known  _ ) rfl ?_
  rintro _ w_55 ⟨rfl, hc_54⟩
  have h_56 := h_53.same hc_54
  refine WL.nil ?_
  refine ⟨(SL.cons (h_56.ok _ (.head _)) (SL.cons (h_56.ok _ (.tail _ (.head _))) (SL.cons (h_56.ok _ (.tail _ (.tail _ (.head _)))) (SL.cons (h_56.ok _ (.tail _ (.tail _ (.tail _ (.head _))))) (SL.cons (h_56.ok _ (.tail _ (.tail _ (.tail _ (.tail _ (.head _)))))) (SL.nil _ _)))))), ?_⟩
  refine WT.q rfl (Wn.no rfl) rfl rfl (fun wq hS => R.pickT (v := (.bool true)) rfl rfl) ?_
  refine WT.q rfl (Wn.no rfl) rfl rfl (fun wq hS => R.assign (v := (.bool true)) rfl) ?_
  refine WT.nil ?_
  refine thn_n ?_
  refine WP.ret ?_
  refine ret_of Try.results10 (RV.tmp (v := (.bool true)) rfl RV.nil) ?_
  exact ⟨rfl, h_56.chgS⟩

theorem w_ParamsReads_ft (g : List UInt8) (hg : g.length = 128) (h1 : okRealm g = false) (h2 : okRec g = true) (w : World) :
    Cs Try.prog 10 [(.agg ⟨g.map vu8⟩)].toArray w (fun v w1 => v = .bool true ∧ Chg w w1 []) := by
  refine Cs.of (n := 78) (args := [(.agg ⟨g.map vu8⟩)]) Try.func10 rfl rfl rfl ?_
  have h_0 := HP.init w
  refine WP.seq ?_
  refine WP.reg ?_
  refine WL.box (v := (.agg ⟨g.map vu8⟩)) (segs := [(128, g.map vu8)]) h_0 rfl rfl (SsOk.cons (SOk.u8 hg) SsOk.nil) rfl (fun b_1 w_2 h_3 => ?_)
  refine WL.q (Wn.no rfl) rfl rfl (R.assign (v := (.bool false)) rfl) ?_
  refine WL.nil ?_
  refine thn_n ?_
  refine WP.seq ?_
  refine WP.reg ?_
  refine WL.q (Wn.no rfl) rfl rfl (R.loadA (b := b_1) (off := 0) [] [(128, g.map vu8)] [] (cs := g.map vu8) rfl Try.isAgg53 Try.sizeOf53 (h_3.ok _ (.head _)) rfl rfl rfl rfl) ?_
  refine WL.call (al := [(.agg ⟨g.map vu8⟩)]) Try.call32 rfl rfl (c_Realm_f g hg h1 _ ) rfl ?_
  rintro _ w_5 ⟨rfl, hc_4⟩
  have h_6 := h_3.same hc_4
  refine WL.q (Wn.no rfl) rfl rfl (R.move (v := (.tuple [(.agg ⟨flat [(32, (List.replicate 32 (0 : UInt8)).map vu8), (1, [(vu64 0)])]⟩), (vi 4)].toArray)) rfl) ?_
  refine WL.q (Wn.no rfl) rfl rfl (R.extract (l := [(.agg ⟨flat [(32, (List.replicate 32 (0 : UInt8)).map vu8), (1, [(vu64 0)])]⟩), (vi 4)]) (v := (.agg ⟨flat [(32, (List.replicate 32 (0 : UInt8)).map vu8), (1, [(vu64 0)])]⟩)) rfl rfl) ?_
  refine WL.q (Wn.no rfl) rfl rfl (R.extract (l := [(.agg ⟨flat [(32, (List.replicate 32 (0 : UInt8)).map vu8), (1, [(vu64 0)])]⟩), (vi 4)]) (v := (vi 4)) rfl rfl) ?_
  refine WL.alloc (segs := [(32, (List.replicate 32 (0 : UInt8)).map vu8), (1, [(vu64 0)])]) h_6 (zv Try.typeInfo51 rfl) rfl (SsOk.cons (SOk.u8 (List.length_replicate ..)) (SsOk.cons (SOk.v rfl) SsOk.nil)) rfl (fun b_7 w_8 h_9 => ?_)
  refine WL.storeA (b := b_7) (off := 0) [] [(32, (List.replicate 32 (0 : UInt8)).map vu8), (1, [(vu64 0)])] [(32, (List.replicate 32 (0 : UInt8)).map vu8), (1, [(vu64 0)])] [] (ys := flat [(32, (List.replicate 32 (0 : UInt8)).map vu8), (1, [(vu64 0)])]) h_9 rfl rfl Try.sizeOf51 At.h (by decide) rfl rfl rfl rfl rfl rfl (SsOk.cons (SOk.u8 (List.length_replicate ..)) (SsOk.cons (SOk.v rfl) SsOk.nil)) (fun w_10 h_11 => ?_)
  refine WL.q (Wn.no rfl) rfl rfl (R.assign (v := (vi 4)) rfl) ?_
  refine WL.nil ?_
  refine thn_n ?_
  refine WP.seq ?_
  refine WP.reg ?_
  refine WL.q (Wn.no rfl) rfl rfl (R.loadA (b := b_1) (off := 0) [] [(128, g.map vu8)] [] (cs := g.map vu8) rfl Try.isAgg53 Try.sizeOf53 (h_11.ok _ (.tail _ (.head _))) rfl rfl rfl rfl) ?_
  refine WL.call (al := [(.agg ⟨g.map vu8⟩)]) Try.call33 rfl rfl (c_RealmR_f g hg h1 _ ) rfl ?_
  rintro _ w_13 ⟨rfl, hc_12⟩
  have h_14 := h_11.same hc_12
  refine WL.q (Wn.no rfl) rfl rfl (R.move (v := (.tuple [(.agg ⟨flat [(32, (List.replicate 32 (0 : UInt8)).map vu8), (1, [(vu64 0)])]⟩), (.bool false)].toArray)) rfl) ?_
  refine WL.q (Wn.no rfl) rfl rfl (R.extract (l := [(.agg ⟨flat [(32, (List.replicate 32 (0 : UInt8)).map vu8), (1, [(vu64 0)])]⟩), (.bool false)]) (v := (.agg ⟨flat [(32, (List.replicate 32 (0 : UInt8)).map vu8), (1, [(vu64 0)])]⟩)) rfl rfl) ?_
  refine WL.q (Wn.no rfl) rfl rfl (R.extract (l := [(.agg ⟨flat [(32, (List.replicate 32 (0 : UInt8)).map vu8), (1, [(vu64 0)])]⟩), (.bool false)]) (v := (.bool false)) rfl rfl) ?_
  refine WL.alloc (segs := [(32, (List.replicate 32 (0 : UInt8)).map vu8), (1, [(vu64 0)])]) h_14 (zv Try.typeInfo51 rfl) rfl (SsOk.cons (SOk.u8 (List.length_replicate ..)) (SsOk.cons (SOk.v rfl) SsOk.nil)) rfl (fun b_15 w_16 h_17 => ?_)
  refine WL.storeA (b := b_15) (off := 0) [] [(32, (List.replicate 32 (0 : UInt8)).map vu8), (1, [(vu64 0)])] [(32, (List.replicate 32 (0 : UInt8)).map vu8), (1, [(vu64 0)])] [] (ys := flat [(32, (List.replicate 32 (0 : UInt8)).map vu8), (1, [(vu64 0)])]) h_17 rfl rfl Try.sizeOf51 At.h (by decide) rfl rfl rfl rfl rfl rfl (SsOk.cons (SOk.u8 (List.length_replicate ..)) (SsOk.cons (SOk.v rfl) SsOk.nil)) (fun w_18 h_19 => ?_)
  refine WL.q (Wn.no rfl) rfl rfl (R.assign (v := (.bool false)) rfl) ?_
  refine WL.nil ?_
  refine thn_n ?_
  refine WP.seq ?_
  refine WP.seq ?_
  refine WP.reg ?_
  refine WL.q (Wn.no rfl) rfl rfl (R.loadA (b := b_7) (off := 0) [] [(32, (List.replicate 32 (0 : UInt8)).map vu8), (1, [(vu64 0)])] [] (cs := flat [(32, (List.replicate 32 (0 : UInt8)).map vu8), (1, [(vu64 0)])]) rfl Try.isAgg51 Try.sizeOf51 (h_19.ok _ (.tail _ (.head _))) rfl rfl rfl rfl) ?_
  refine WL.q (Wn.no rfl) rfl rfl (R.loadA (b := b_15) (off := 0) [] [(32, (List.replicate 32 (0 : UInt8)).map vu8), (1, [(vu64 0)])] [] (cs := flat [(32, (List.replicate 32 (0 : UInt8)).map vu8), (1, [(vu64 0)])]) rfl Try.isAgg51 Try.sizeOf51 (h_19.ok _ (.head _)) rfl rfl rfl rfl) ?_
  refine WL.q (Wn.no rfl) rfl rfl (R.neA (xs := flat [(32, (List.replicate 32 (0 : UInt8)).map vu8), (1, [(vu64 0)])]) (ys := flat [(32, (List.replicate 32 (0 : UInt8)).map vu8), (1, [(vu64 0)])]) (r := false) rfl rfl Try.eqGuardType51 kt51 (by decide) ag51 (Typ.struct (h := 2) (r := [(32, (List.replicate 32 (0 : UInt8)).map vu8), (1, [(vu64 0)])]) (cs := flat [(32, (List.replicate 32 (0 : UInt8)).map vu8), (1, [(vu64 0)])]) Try.underlying51 (TypF.cons (k := 32) rfl rfl (by decide) (len_map (List.length_replicate ..)) (Typ.u8s Try.underlying49 ce49 Try.underlying5 ce5 (List.length_replicate ..)) (TypF.cons (k := 1) rfl rfl (by decide) rfl (Typ.int Try.underlying22 ce22 (wfu64 0)) TypF.nil)) rfl (((SsOk.cons (SOk.u8 (List.length_replicate ..)) (SsOk.cons (SOk.v rfl) SsOk.nil))).len.trans ce51.symm)) (Typ.struct (h := 2) (r := [(32, (List.replicate 32 (0 : UInt8)).map vu8), (1, [(vu64 0)])]) (cs := flat [(32, (List.replicate 32 (0 : UInt8)).map vu8), (1, [(vu64 0)])]) Try.underlying51 (TypF.cons (k := 32) rfl rfl (by decide) (len_map (List.length_replicate ..)) (Typ.u8s Try.underlying49 ce49 Try.underlying5 ce5 (List.length_replicate ..)) (TypF.cons (k := 1) rfl rfl (by decide) rfl (Typ.int Try.underlying22 ce22 (wfu64 0)) TypF.nil)) rfl (((SsOk.cons (SOk.u8 (List.length_replicate ..)) (SsOk.cons (SOk.v rfl) SsOk.nil))).len.trans ce51.symm)) (neT rfl)) ?_
  refine WL.q (Wn.no rfl) rfl rfl (R.move (v := (.bool false)) rfl) ?_
  refine WL.want rfl rfl ?_
  refine WL.q (Wn.no rfl) rfl rfl (R.move (v := (vi 4)) rfl) ?_
  refine WL.want rfl rfl ?_
  refine WL.call (al := [(vi 4)]) Try.call21 rfl rfl (c_num10 4 (by omega) _ ) rfl ?_
  rintro _ w_21 ⟨rfl, hc_20⟩
  have h_22 := h_19.same hc_20
  refine WL.want rfl rfl ?_
  refine WL.q (Wn.no rfl) rfl rfl (R.bin (v := (.bool false)) rfl rfl (bi_eql (r := false) (by decide))) ?_
  refine WL.want rfl rfl ?_
  refine WL.q (Wn.no rfl) rfl rfl (R.move (v := (.bool false)) rfl) ?_
  refine WL.want rfl rfl ?_
  refine WL.q (Wn.no rfl) rfl rfl (R.neB (a := false) (b := false) (c := false) rfl rfl Try.underlying4 rfl) ?_
  refine WL.q (Wn.no rfl) rfl rfl (R.pickF (v := (.bool false)) rfl rfl) ?_
  refine WL.q (Wn.no rfl) rfl rfl (R.move (v := (.bool false)) rfl) ?_
  refine WL.want rfl rfl ?_
  refine WL.q (Wn.no rfl) rfl rfl (R.move (v := (.bool false)) rfl) ?_
  refine WL.want rfl rfl ?_
  refine WL.q (Wn.no rfl) rfl rfl (R.not (b := false) rfl) ?_
  refine WL.want rfl rfl ?_
  refine WL.q (Wn.no rfl) rfl rfl (R.move (v := (.bool true)) rfl) ?_
  refine WL.want rfl rfl ?_
  refine WL.q (Wn.no rfl) rfl rfl (R.move (v := (vi 4)) rfl) ?_
  refine WL.want rfl rfl ?_
  refine WL.call (al := [(vi 4)]) Try.call21 rfl rfl (c_num10 4 (by omega) _ ) rfl ?_
  rintro _ w_24 ⟨rfl, hc_23⟩
  have h_25 := h_22.same hc_23
  refine WL.want rfl rfl ?_
  refine WL.q (Wn.no rfl) rfl rfl (R.bin (v := (.bool false)) rfl rfl (bi_neq (r := false) (by decide))) ?_
  refine WL.want rfl rfl ?_
  refine WL.q (Wn.no rfl) rfl rfl (R.pickT (v := (.bool false)) rfl rfl) ?_
  refine WL.q (Wn.no rfl) rfl rfl (R.pickF (v := (.bool false)) rfl rfl) ?_
  refine WL.nil ?_
  refine thn_n ?_
  refine WP.condF rfl ?_
  refine WP.skip ?_
  refine thn_n ?_
  refine WP.seq ?_
  refine WP.reg ?_
  refine WL.q (Wn.no rfl) rfl rfl (R.loadA (b := b_1) (off := 0) [] [(128, g.map vu8)] [] (cs := g.map vu8) rfl Try.isAgg53 Try.sizeOf53 (h_25.ok _ (.tail _ (.tail _ (.head _)))) rfl rfl rfl rfl) ?_
  refine WL.call (al := [(.agg ⟨g.map vu8⟩)]) Try.call28 rfl rfl (c_Rec_t g hg h2 _ ) rfl ?_
  rintro _ w_27 ⟨rfl, hc_26⟩
  have h_28 := h_25.same hc_26
  refine WL.q (Wn.no rfl) rfl rfl (R.move (v := (.tuple [(.agg ⟨flat [(1, [(vu64 (wordB g 1))]), (8, (rcR g).map vu64), (1, [(.bool (decide (g.getD 80 0 = 1)))])]⟩), (vi 0)].toArray)) rfl) ?_
  refine WL.q (Wn.no rfl) rfl rfl (R.extract (l := [(.agg ⟨flat [(1, [(vu64 (wordB g 1))]), (8, (rcR g).map vu64), (1, [(.bool (decide (g.getD 80 0 = 1)))])]⟩), (vi 0)]) (v := (.agg ⟨flat [(1, [(vu64 (wordB g 1))]), (8, (rcR g).map vu64), (1, [(.bool (decide (g.getD 80 0 = 1)))])]⟩)) rfl rfl) ?_
  refine WL.q (Wn.no rfl) rfl rfl (R.extract (l := [(.agg ⟨flat [(1, [(vu64 (wordB g 1))]), (8, (rcR g).map vu64), (1, [(.bool (decide (g.getD 80 0 = 1)))])]⟩), (vi 0)]) (v := (vi 0)) rfl rfl) ?_
  refine WL.alloc (segs := [(1, [(vu64 0)]), (8, (List.replicate 8 (0 : UInt64)).map vu64), (1, [(.bool false)])]) h_28 (zv Try.typeInfo45 rfl) rfl (SsOk.cons (SOk.v rfl) (SsOk.cons (SOk.u64 (List.length_replicate ..)) (SsOk.cons (SOk.v rfl) SsOk.nil))) rfl (fun b_29 w_30 h_31 => ?_)
  refine WL.storeA (b := b_29) (off := 0) [] [(1, [(vu64 0)]), (8, (List.replicate 8 (0 : UInt64)).map vu64), (1, [(.bool false)])] [(1, [(vu64 (wordB g 1))]), (8, (rcR g).map vu64), (1, [(.bool (decide (g.getD 80 0 = 1)))])] [] (ys := flat [(1, [(vu64 (wordB g 1))]), (8, (rcR g).map vu64), (1, [(.bool (decide (g.getD 80 0 = 1)))])]) h_31 rfl rfl Try.sizeOf45 At.h (by decide) rfl rfl rfl rfl rfl rfl (SsOk.cons (SOk.v rfl) (SsOk.cons (SOk.u64 (rfl : List.length (rcR g) = 8)) (SsOk.cons (SOk.v rfl) SsOk.nil))) (fun w_32 h_33 => ?_)
  refine WL.q (Wn.no rfl) rfl rfl (R.assign (v := (vi 0)) rfl) ?_
  refine WL.nil ?_
  refine thn_n ?_
  refine WP.seq ?_
  refine WP.reg ?_
  refine WL.q (Wn.no rfl) rfl rfl (R.loadA (b := b_1) (off := 0) [] [(128, g.map vu8)] [] (cs := g.map vu8) rfl Try.isAgg53 Try.sizeOf53 (h_33.ok _ (.tail _ (.tail _ (.tail _ (.head _))))) rfl rfl rfl rfl) ?_
  refine WL.call (al := [(.agg ⟨g.map vu8⟩)]) Try.call34 rfl rfl (c_RecR_t g hg h2 _ ) rfl ?_
  rintro _ w_35 ⟨rfl, hc_34⟩
  have h_36 := h_33.same hc_34
  refine WL.q (Wn.no rfl) rfl rfl (R.move (v := (.tuple [(.agg ⟨flat [(1, [(vu64 (wordB g 1))]), (8, (rcR g).map vu64), (1, [(.bool (decide (g.getD 80 0 = 1)))])]⟩), (.bool true)].toArray)) rfl) ?_
  refine WL.q (Wn.no rfl) rfl rfl (R.extract (l := [(.agg ⟨flat [(1, [(vu64 (wordB g 1))]), (8, (rcR g).map vu64), (1, [(.bool (decide (g.getD 80 0 = 1)))])]⟩), (.bool true)]) (v := (.agg ⟨flat [(1, [(vu64 (wordB g 1))]), (8, (rcR g).map vu64), (1, [(.bool (decide (g.getD 80 0 = 1)))])]⟩)) rfl rfl) ?_
  refine WL.q (Wn.no rfl) rfl rfl (R.extract (l := [(.agg ⟨flat [(1, [(vu64 (wordB g 1))]), (8, (rcR g).map vu64), (1, [(.bool (decide (g.getD 80 0 = 1)))])]⟩), (.bool true)]) (v := (.bool true)) rfl rfl) ?_
  refine WL.alloc (segs := [(1, [(vu64 0)]), (8, (List.replicate 8 (0 : UInt64)).map vu64), (1, [(.bool false)])]) h_36 (zv Try.typeInfo45 rfl) rfl (SsOk.cons (SOk.v rfl) (SsOk.cons (SOk.u64 (List.length_replicate ..)) (SsOk.cons (SOk.v rfl) SsOk.nil))) rfl (fun b_37 w_38 h_39 => ?_)
  refine WL.storeA (b := b_37) (off := 0) [] [(1, [(vu64 0)]), (8, (List.replicate 8 (0 : UInt64)).map vu64), (1, [(.bool false)])] [(1, [(vu64 (wordB g 1))]), (8, (rcR g).map vu64), (1, [(.bool (decide (g.getD 80 0 = 1)))])] [] (ys := flat [(1, [(vu64 (wordB g 1))]), (8, (rcR g).map vu64), (1, [(.bool (decide (g.getD 80 0 = 1)))])]) h_39 rfl rfl Try.sizeOf45 At.h (by decide) rfl rfl rfl rfl rfl rfl (SsOk.cons (SOk.v rfl) (SsOk.cons (SOk.u64 (rfl : List.length (rcR g) = 8)) (SsOk.cons (SOk.v rfl) SsOk.nil))) (fun w_40 h_41 => ?_)
  refine WL.q (Wn.no rfl) rfl rfl (R.assign (v := (.bool true)) rfl) ?_
  refine WL.nil ?_
  refine thn_n ?_
  refine WP.seq ?_
  refine WP.drawT (SL w.heap.size [.blk b_37 .nw 45 [(1, [(vu64 (wordB g 1))]), (8, (rcR g).map vu64), (1, [(.bool (decide (g.getD 80 0 = 1)))])], .blk b_29 .nw 45 [(1, [(vu64 (wordB g 1))]), (8, (rcR g).map vu64), (1, [(.bool (decide (g.getD 80 0 = 1)))])], .blk b_15 .nw 51 [(32, (List.replicate 32 (0 : UInt8)).map vu8), (1, [(vu64 0)])], .blk b_7 .nw 51 [(32, (List.replicate 32 (0 : UInt8)).map vu8), (1, [(vu64 0)])], .blk b_1 .nw 53 [(128, g.map vu8)]]) (.q 0 (.q 1 (.q 2 (.q 3 (.q 4 (.q 7 (.s 5 (.q 6 (.q 8 (.q 9 (.q 10 (.q 11 (.q 12 (.q 13 (.s 14 (.q 15 (.q 16 (.q 17 (.q 18 (.q 19 (.q 21 (.s 20 (.s 22 (.q 23 (.q 24 (.q 25 (.s 26 (.q 27 (.q 28 .nil))))))))))))))))))))))))))))) (by kernel_rfl) (by kernel_rfl) rfl (by kernel_rfl) (fun w_42 hc_44 => (SL.cons ((h_41.same hc_44).ok _ (.head _)) (SL.cons ((h_41.same hc_44).ok _ (.tail _ (.head _))) (SL.cons ((h_41.same hc_44).ok _ (.tail _ (.tail _ (.head _)))) (SL.cons ((h_41.same hc_44).ok _ (.tail _ (.tail _ (.tail _ (.head _))))) (SL.cons ((h_41.same hc_44).ok _ (.tail _ (.tail _ (.tail _ (.tail _ (.head _)))))) (SL.nil _ _))))))) (fun w_42 hc_44 => ?_)
  have h_43 := h_41.same hc_44
  refine WT.q rfl (Wn.no rfl) rfl rfl (fun wq hS => R.loadA (b := b_29) (off := 0) [] [(1, [(vu64 (wordB g 1))]), (8, (rcR g).map vu64), (1, [(.bool (decide (g.getD 80 0 = 1)))])] [] (cs := flat [(1, [(vu64 (wordB g 1))]), (8, (rcR g).map vu64), (1, [(.bool (decide (g.getD 80 0 = 1)))])]) rfl Try.isAgg45 Try.sizeOf45 (hS _ (.tail _ (.head _))) rfl rfl rfl rfl) ?_
  refine WT.q rfl (Wn.no rfl) rfl rfl (fun wq hS => R.loadA (b := b_37) (off := 0) [] [(1, [(vu64 (wordB g 1))]), (8, (rcR g).map vu64), (1, [(.bool (decide (g.getD 80 0 = 1)))])] [] (cs := flat [(1, [(vu64 (wordB g 1))]), (8, (rcR g).map vu64), (1, [(.bool (decide (g.getD 80 0 = 1)))])]) rfl Try.isAgg45 Try.sizeOf45 (hS _ (.head _)) rfl rfl rfl rfl) ?_
  refine WT.q rfl (Wn.no rfl) rfl rfl (fun wq hS => R.eqA (xs := flat [(1, [(vu64 (wordB g 1))]), (8, (rcR g).map vu64), (1, [(.bool (decide (g.getD 80 0 = 1)))])]) (ys := flat [(1, [(vu64 (wordB g 1))]), (8, (rcR g).map vu64), (1, [(.bool (decide (g.getD 80 0 = 1)))])]) (r := true) rfl rfl Try.eqGuardType45 kt45 (by decide) ag45 (Typ.struct (h := 2) (r := [(1, [(vu64 (wordB g 1))]), (8, (rcR g).map vu64), (1, [(.bool (decide (g.getD 80 0 = 1)))])]) (cs := flat [(1, [(vu64 (wordB g 1))]), (8, (rcR g).map vu64), (1, [(.bool (decide (g.getD 80 0 = 1)))])]) Try.underlying45 (TypF.cons (k := 1) rfl rfl (by decide) rfl (Typ.int Try.underlying22 ce22 (wfu64 (wordB g 1))) (TypF.cons (k := 8) rfl rfl (by decide) (len_map (rfl : List.length (rcR g) = 8)) (Typ.u64s Try.underlying23 ce23 Try.underlying22 ce22 (rfl : List.length (rcR g) = 8)) (TypF.cons (k := 1) rfl rfl (by decide) rfl (Typ.bool Try.underlying4 ce4) TypF.nil))) rfl (((SsOk.cons (SOk.v rfl) (SsOk.cons (SOk.u64 (rfl : List.length (rcR g) = 8)) (SsOk.cons (SOk.v rfl) SsOk.nil)))).len.trans ce45.symm)) (Typ.struct (h := 2) (r := [(1, [(vu64 (wordB g 1))]), (8, (rcR g).map vu64), (1, [(.bool (decide (g.getD 80 0 = 1)))])]) (cs := flat [(1, [(vu64 (wordB g 1))]), (8, (rcR g).map vu64), (1, [(.bool (decide (g.getD 80 0 = 1)))])]) Try.underlying45 (TypF.cons (k := 1) rfl rfl (by decide) rfl (Typ.int Try.underlying22 ce22 (wfu64 (wordB g 1))) (TypF.cons (k := 8) rfl rfl (by decide) (len_map (rfl : List.length (rcR g) = 8)) (Typ.u64s Try.underlying23 ce23 Try.underlying22 ce22 (rfl : List.length (rcR g) = 8)) (TypF.cons (k := 1) rfl rfl (by decide) rfl (Typ.bool Try.underlying4 ce4) TypF.nil))) rfl (((SsOk.cons (SOk.v rfl) (SsOk.cons (SOk.u64 (rfl : List.length (rcR g) = 8)) (SsOk.cons (SOk.v rfl) SsOk.nil)))).len.trans ce45.symm)) (eqT rfl)) ?_
  refine WT.q rfl (Wn.no rfl) rfl rfl (fun wq hS => R.move (v := (.bool true)) rfl) ?_
  refine WT.q rfl (Wn.yes rfl rfl rfl) rfl rfl (fun wq hS => R.move (v := (vi 0)) rfl) ?_
  refine WT.q rfl (Wn.yes rfl rfl rfl) rfl rfl (fun wq hS => R.move (v := (.bool true)) rfl) ?_
  refine WT.s ?_
  refine Op1.one rfl (Wn.yes rfl rfl rfl) ?_
  refine WL.call (al := [(vi 0)]) Try.call21 rfl rfl (c_num10 0 (by omega) _ ) rfl ?_
  rintro _ w_46 ⟨rfl, hc_45⟩
  have h_47 := h_43.same hc_45
  refine WL.nil ?_
  refine ⟨(SL.cons (h_47.ok _ (.head _)) (SL.cons (h_47.ok _ (.tail _ (.head _))) (SL.cons (h_47.ok _ (.tail _ (.tail _ (.head _)))) (SL.cons (h_47.ok _ (.tail _ (.tail _ (.tail _ (.head _))))) (SL.cons (h_47.ok _ (.tail _ (.tail _ (.tail _ (.tail _ (.head _)))))) (SL.nil _ _)))))), ?_⟩
  refine WT.q rfl (Wn.yes rfl rfl rfl) rfl rfl (fun wq hS => R.bin (v := (.bool true)) rfl rfl (bi_eql (r := true) (by decide))) ?_
  refine WT.q rfl (Wn.yes rfl rfl rfl) rfl rfl (fun wq hS => R.eqB (a := true) (b := true) (c := true) rfl rfl Try.underlying4 rfl) ?_
  refine WT.q rfl (Wn.no rfl) rfl rfl (fun wq hS => R.pickT (v := (.bool true)) rfl rfl) ?_
  refine WT.q rfl (Wn.no rfl) rfl rfl (fun wq hS => R.move (v := (.bool true)) rfl) ?_
  refine WT.q rfl (Wn.yes rfl rfl rfl) rfl rfl (fun wq hS => R.move (v := (.bool true)) rfl) ?_
  refine WT.q rfl (Wn.yes rfl rfl rfl) rfl rfl (fun wq hS => R.move (v := (.bool true)) rfl) ?_
  refine WT.skipQ rfl rfl rfl (boolNe (v := .bool true) rfl (by decide)) rfl rfl ?_
  refine WT.s ?_
  refine Op1.skip rfl rfl rfl (boolNe (v := .bool true) rfl (by decide)) rfl rfl ?_
  refine WT.skipQ rfl rfl rfl (boolNe (v := .bool true) rfl (by decide)) rfl rfl ?_
  refine WT.q rfl (Wn.yes rfl rfl rfl) rfl rfl (fun wq hS => R.pickT (v := (.bool true)) rfl rfl) ?_
  refine WT.q rfl (Wn.no rfl) rfl rfl (fun wq hS => R.pickT (v := (.bool true)) rfl rfl) ?_
  refine WT.q rfl (Wn.no rfl) rfl rfl (fun wq hS => R.move (v := (.bool true)) rfl) ?_
  refine WT.q rfl (Wn.yes rfl rfl rfl) rfl rfl (fun wq hS => R.loadA (b := b_1) (off := 0) [] [(128, g.map vu8)] [] (cs := g.map vu8) rfl Try.isAgg53 Try.sizeOf53 (hS _ (.tail _ (.tail _ (.tail _ (.tail _ (.head _)))))) rfl rfl rfl rfl) ?_
  refine WT.q rfl (Wn.yes rfl rfl rfl) rfl rfl (fun wq hS => R.loadA (b := b_1) (off := 0) [] [(128, g.map vu8)] [] (cs := g.map vu8) rfl Try.isAgg53 Try.sizeOf53 (hS _ (.tail _ (.tail _ (.tail _ (.tail _ (.head _)))))) rfl rfl rfl rfl) ?_
  refine WT.s ?_
  refine Op1.one rfl (Wn.yes rfl rfl rfl) ?_
  refine WL.call (al := [(.agg ⟨g.map vu8⟩)]) Try.call35 rfl rfl (c_Kind_c g hg h1 h2 _ ) rfl ?_
  rintro _ w_49 ⟨rfl, hc_48⟩
  have h_50 := h_47.same hc_48
  refine WL.nil ?_
  refine ⟨(SL.cons (h_50.ok _ (.head _)) (SL.cons (h_50.ok _ (.tail _ (.head _))) (SL.cons (h_50.ok _ (.tail _ (.tail _ (.head _)))) (SL.cons (h_50.ok _ (.tail _ (.tail _ (.tail _ (.head _))))) (SL.cons (h_50.ok _ (.tail _ (.tail _ (.tail _ (.tail _ (.head _)))))) (SL.nil _ _)))))), ?_⟩
  refine WT.s ?_
  refine Op1.one rfl (Wn.yes rfl rfl rfl) ?_
  refine WL.call (al := [(.agg ⟨g.map vu8⟩)]) Try.call36 rfl rfl (c_KindR_c g hg h1 h2 _ ) rfl ?_
  rintro _ w_52 ⟨rfl, hc_51⟩
  have h_53 := h_50.same hc_51
  refine WL.nil ?_
  refine ⟨(SL.cons (h_53.ok _ (.head _)) (SL.cons (h_53.ok _ (.tail _ (.head _))) (SL.cons (h_53.ok _ (.tail _ (.tail _ (.head _)))) (SL.cons (h_53.ok _ (.tail _ (.tail _ (.tail _ (.head _))))) (SL.cons (h_53.ok _ (.tail _ (.tail _ (.tail _ (.tail _ (.head _)))))) (SL.nil _ _)))))), ?_⟩
  refine WT.q rfl (Wn.yes rfl rfl rfl) rfl rfl (fun wq hS => R.eqStr (a := ([114, 101, 99] : List UInt8)) (b := ([114, 101, 99] : List UInt8)) (r := true) rfl rfl (by simp)) ?_
  refine WT.q rfl (Wn.no rfl) rfl rfl (fun wq hS => R.pickT (v := (.bool true)) rfl rfl) ?_
  refine WT.q rfl (Wn.no rfl) rfl rfl (fun wq hS => R.move (v := (.bool true)) rfl) ?_
  refine WT.s ?_
  refine Op1.one rfl (Wn.yes rfl rfl rfl) ?_
  refine WL.call (al := []) Try.call22 rfl rfl (c_known  _ ) rfl ?_
  rintro _ w_55 ⟨rfl, hc_54⟩
  have h_56 := h_53.same hc_54
  refine WL.nil ?_
  refine ⟨(SL.cons (h_56.ok _ (.head _)) (SL.cons (h_56.ok _ (.tail _ (.head _))) (SL.cons (h_56.ok _ (.tail _ (.tail _ (.head _)))) (SL.cons (h_56.ok _ (.tail _ (.tail _ (.tail _ (.head _))))) (SL.cons (h_56.ok _ (.tail _ (.tail _ (.tail _ (.tail _ (.head _)))))) (SL.nil _ _)))))), ?_⟩
  refine WT.q rfl (Wn.no rfl) rfl rfl (fun wq hS => R.pickT (v := (.bool true)) rfl rfl) ?_
  refine WT.q rfl (Wn.no rfl) rfl rfl (fun wq hS => R.assign (v := (.bool true)) rfl) ?_
  refine WT.nil ?_
  refine thn_n ?_
  refine WP.ret ?_
  refine ret_of Try.results10 (RV.tmp (v := (.bool true)) rfl RV.nil) ?_
  exact ⟨rfl, h_56.chgS⟩

theorem w_ParamsReads_ff (g : List UInt8) (hg : g.length = 128) (h1 : okRealm g = false) (h2 : okRec g = false) (w : World) :
    Cs Try.prog 10 [(.agg ⟨g.map vu8⟩)].toArray w (fun v w1 => v = .bool true ∧ Chg w w1 []) := by
  refine Cs.of (n := 78) (args := [(.agg ⟨g.map vu8⟩)]) Try.func10 rfl rfl rfl ?_
  have h_0 := HP.init w
  refine WP.seq ?_
  refine WP.reg ?_
  refine WL.box (v := (.agg ⟨g.map vu8⟩)) (segs := [(128, g.map vu8)]) h_0 rfl rfl (SsOk.cons (SOk.u8 hg) SsOk.nil) rfl (fun b_1 w_2 h_3 => ?_)
  refine WL.q (Wn.no rfl) rfl rfl (R.assign (v := (.bool false)) rfl) ?_
  refine WL.nil ?_
  refine thn_n ?_
  refine WP.seq ?_
  refine WP.reg ?_
  refine WL.q (Wn.no rfl) rfl rfl (R.loadA (b := b_1) (off := 0) [] [(128, g.map vu8)] [] (cs := g.map vu8) rfl Try.isAgg53 Try.sizeOf53 (h_3.ok _ (.head _)) rfl rfl rfl rfl) ?_
  refine WL.call (al := [(.agg ⟨g.map vu8⟩)]) Try.call32 rfl rfl (c_Realm_f g hg h1 _ ) rfl ?_
  rintro _ w_5 ⟨rfl, hc_4⟩
  have h_6 := h_3.same hc_4
  refine WL.q (Wn.no rfl) rfl rfl (R.move (v := (.tuple [(.agg ⟨flat [(32, (List.replicate 32 (0 : UInt8)).map vu8), (1, [(vu64 0)])]⟩), (vi 4)].toArray)) rfl) ?_
  refine WL.q (Wn.no rfl) rfl rfl (R.extract (l := [(.agg ⟨flat [(32, (List.replicate 32 (0 : UInt8)).map vu8), (1, [(vu64 0)])]⟩), (vi 4)]) (v := (.agg ⟨flat [(32, (List.replicate 32 (0 : UInt8)).map vu8), (1, [(vu64 0)])]⟩)) rfl rfl) ?_
  refine WL.q (Wn.no rfl) rfl rfl (R.extract (l := [(.agg ⟨flat [(32, (List.replicate 32 (0 : UInt8)).map vu8), (1, [(vu64 0)])]⟩), (vi 4)]) (v := (vi 4)) rfl rfl) ?_
  refine WL.alloc (segs := [(32, (List.replicate 32 (0 : UInt8)).map vu8), (1, [(vu64 0)])]) h_6 (zv Try.typeInfo51 rfl) rfl (SsOk.cons (SOk.u8 (List.length_replicate ..)) (SsOk.cons (SOk.v rfl) SsOk.nil)) rfl (fun b_7 w_8 h_9 => ?_)
  refine WL.storeA (b := b_7) (off := 0) [] [(32, (List.replicate 32 (0 : UInt8)).map vu8), (1, [(vu64 0)])] [(32, (List.replicate 32 (0 : UInt8)).map vu8), (1, [(vu64 0)])] [] (ys := flat [(32, (List.replicate 32 (0 : UInt8)).map vu8), (1, [(vu64 0)])]) h_9 rfl rfl Try.sizeOf51 At.h (by decide) rfl rfl rfl rfl rfl rfl (SsOk.cons (SOk.u8 (List.length_replicate ..)) (SsOk.cons (SOk.v rfl) SsOk.nil)) (fun w_10 h_11 => ?_)
  refine WL.q (Wn.no rfl) rfl rfl (R.assign (v := (vi 4)) rfl) ?_
  refine WL.nil ?_
  refine thn_n ?_
  refine WP.seq ?_
  refine WP.reg ?_
  refine WL.q (Wn.no rfl) rfl rfl (R.loadA (b := b_1) (off := 0) [] [(128, g.map vu8)] [] (cs := g.map vu8) rfl Try.isAgg53 Try.sizeOf53 (h_11.ok _ (.tail _ (.head _))) rfl rfl rfl rfl) ?_
  refine WL.call (al := [(.agg ⟨g.map vu8⟩)]) Try.call33 rfl rfl (c_RealmR_f g hg h1 _ ) rfl ?_
  rintro _ w_13 ⟨rfl, hc_12⟩
  have h_14 := h_11.same hc_12
  refine WL.q (Wn.no rfl) rfl rfl (R.move (v := (.tuple [(.agg ⟨flat [(32, (List.replicate 32 (0 : UInt8)).map vu8), (1, [(vu64 0)])]⟩), (.bool false)].toArray)) rfl) ?_
  refine WL.q (Wn.no rfl) rfl rfl (R.extract (l := [(.agg ⟨flat [(32, (List.replicate 32 (0 : UInt8)).map vu8), (1, [(vu64 0)])]⟩), (.bool false)]) (v := (.agg ⟨flat [(32, (List.replicate 32 (0 : UInt8)).map vu8), (1, [(vu64 0)])]⟩)) rfl rfl) ?_
  refine WL.q (Wn.no rfl) rfl rfl (R.extract (l := [(.agg ⟨flat [(32, (List.replicate 32 (0 : UInt8)).map vu8), (1, [(vu64 0)])]⟩), (.bool false)]) (v := (.bool false)) rfl rfl) ?_
  refine WL.alloc (segs := [(32, (List.replicate 32 (0 : UInt8)).map vu8), (1, [(vu64 0)])]) h_14 (zv Try.typeInfo51 rfl) rfl (SsOk.cons (SOk.u8 (List.length_replicate ..)) (SsOk.cons (SOk.v rfl) SsOk.nil)) rfl (fun b_15 w_16 h_17 => ?_)
  refine WL.storeA (b := b_15) (off := 0) [] [(32, (List.replicate 32 (0 : UInt8)).map vu8), (1, [(vu64 0)])] [(32, (List.replicate 32 (0 : UInt8)).map vu8), (1, [(vu64 0)])] [] (ys := flat [(32, (List.replicate 32 (0 : UInt8)).map vu8), (1, [(vu64 0)])]) h_17 rfl rfl Try.sizeOf51 At.h (by decide) rfl rfl rfl rfl rfl rfl (SsOk.cons (SOk.u8 (List.length_replicate ..)) (SsOk.cons (SOk.v rfl) SsOk.nil)) (fun w_18 h_19 => ?_)
  refine WL.q (Wn.no rfl) rfl rfl (R.assign (v := (.bool false)) rfl) ?_
  refine WL.nil ?_
  refine thn_n ?_
  refine WP.seq ?_
  refine WP.seq ?_
  refine WP.reg ?_
  refine WL.q (Wn.no rfl) rfl rfl (R.loadA (b := b_7) (off := 0) [] [(32, (List.replicate 32 (0 : UInt8)).map vu8), (1, [(vu64 0)])] [] (cs := flat [(32, (List.replicate 32 (0 : UInt8)).map vu8), (1, [(vu64 0)])]) rfl Try.isAgg51 Try.sizeOf51 (h_19.ok _ (.tail _ (.head _))) rfl rfl rfl rfl) ?_
  refine WL.q (Wn.no rfl) rfl rfl (R.loadA (b := b_15) (off := 0) [] [(32, (List.replicate 32 (0 : UInt8)).map vu8), (1, [(vu64 0)])] [] (cs := flat [(32, (List.replicate 32 (0 : UInt8)).map vu8), (1, [(vu64 0)])]) rfl Try.isAgg51 Try.sizeOf51 (h_19.ok _ (.head _)) rfl rfl rfl rfl) ?_
  refine WL.q (Wn.no rfl) rfl rfl (R.neA (xs := flat [(32, (List.replicate 32 (0 : UInt8)).map vu8), (1, [(vu64 0)])]) (ys := flat [(32, (List.replicate 32 (0 : UInt8)).map vu8), (1, [(vu64 0)])]) (r := false) rfl rfl Try.eqGuardType51 kt51 (by decide) ag51 (Typ.struct (h := 2) (r := [(32, (List.replicate 32 (0 : UInt8)).map vu8), (1, [(vu64 0)])]) (cs := flat [(32, (List.replicate 32 (0 : UInt8)).map vu8), (1, [(vu64 0)])]) Try.underlying51 (TypF.cons (k := 32) rfl rfl (by decide) (len_map (List.length_replicate ..)) (Typ.u8s Try.underlying49 ce49 Try.underlying5 ce5 (List.length_replicate ..)) (TypF.cons (k := 1) rfl rfl (by decide) rfl (Typ.int Try.underlying22 ce22 (wfu64 0)) TypF.nil)) rfl (((SsOk.cons (SOk.u8 (List.length_replicate ..)) (SsOk.cons (SOk.v rfl) SsOk.nil))).len.trans ce51.symm)) (Typ.struct (h := 2) (r := [(32, (List.replicate 32 (0 : UInt8)).map vu8), (1, [(vu64 0)])]) (cs := flat [(32, (List.replicate 32 (0 : UInt8)).map vu8), (1, [(vu64 0)])]) Try.underlying51 (TypF.cons (k := 32) rfl rfl (by decide) (len_map (List.length_replicate ..)) (Typ.u8s Try.underlying49 ce49 Try.underlying5 ce5 (List.length_replicate ..)) (TypF.cons (k := 1) rfl rfl (by decide) rfl (Typ.int Try.underlying22 ce22 (wfu64 0)) TypF.nil)) rfl (((SsOk.cons (SOk.u8 (List.length_replicate ..)) (SsOk.cons (SOk.v rfl) SsOk.nil))).len.trans ce51.symm)) (neT rfl)) ?_
  refine WL.q (Wn.no rfl) rfl rfl (R.move (v := (.bool false)) rfl) ?_
  refine WL.want rfl rfl ?_
  refine WL.q (Wn.no rfl) rfl rfl (R.move (v := (vi 4)) rfl) ?_
  refine WL.want rfl rfl ?_
  refine WL.call (al := [(vi 4)]) Try.call21 rfl rfl (c_num10 4 (by omega) _ ) rfl ?_
  rintro _ w_21 ⟨rfl, hc_20⟩
  have h_22 := h_19.same hc_20
  refine WL.want rfl rfl ?_
  refine WL.q (Wn.no rfl) rfl rfl (R.bin (v := (.bool false)) rfl rfl (bi_eql (r := false) (by decide))) ?_
  refine WL.want rfl rfl ?_
  refine WL.q (Wn.no rfl) rfl rfl (R.move (v := (.bool false)) rfl) ?_
  refine WL.want rfl rfl ?_
  refine WL.q (Wn.no rfl) rfl rfl (R.neB (a := false) (b := false) (c := false) rfl rfl Try.underlying4 rfl) ?_
  refine WL.q (Wn.no rfl) rfl rfl (R.pickF (v := (.bool false)) rfl rfl) ?_
  refine WL.q (Wn.no rfl) rfl rfl (R.move (v := (.bool false)) rfl) ?_
  refine WL.want rfl rfl ?_
  refine WL.q (Wn.no rfl) rfl rfl (R.move (v := (.bool false)) rfl) ?_
  refine WL.want rfl rfl ?_
  refine WL.q (Wn.no rfl) rfl rfl (R.not (b := false) rfl) ?_
  refine WL.want rfl rfl ?_
  refine WL.q (Wn.no rfl) rfl rfl (R.move (v := (.bool true)) rfl) ?_
  refine WL.want rfl rfl ?_
  refine WL.q (Wn.no rfl) rfl rfl (R.move (v := (vi 4)) rfl) ?_
  refine WL.want rfl rfl ?_
  refine WL.call (al := [(vi 4)]) Try.call21 rfl rfl (c_num10 4 (by omega) _ ) rfl ?_
  rintro _ w_24 ⟨rfl, hc_23⟩
  have h_25 := h_22.same hc_23
  refine WL.want rfl rfl ?_
  refine WL.q (Wn.no rfl) rfl rfl (R.bin (v := (.bool false)) rfl rfl (bi_neq (r := false) (by decide))) ?_
  refine WL.want rfl rfl ?_
  refine WL.q (Wn.no rfl) rfl rfl (R.pickT (v := (.bool false)) rfl rfl) ?_
  refine WL.q (Wn.no rfl) rfl rfl (R.pickF (v := (.bool false)) rfl rfl) ?_
  refine WL.nil ?_
  refine thn_n ?_
  refine WP.condF rfl ?_
  refine WP.skip ?_
  refine thn_n ?_
  refine WP.seq ?_
  refine WP.reg ?_
  refine WL.q (Wn.no rfl) rfl rfl (R.loadA (b := b_1) (off := 0) [] [(128, g.map vu8)] [] (cs := g.map vu8) rfl Try.isAgg53 Try.sizeOf53 (h_25.ok _ (.tail _ (.tail _ (.head _)))) rfl rfl rfl rfl) ?_
  refine WL.call (al := [(.agg ⟨g.map vu8⟩)]) Try.call28 rfl rfl (c_Rec_f g hg h2 _ ) rfl ?_
  rintro _ w_27 ⟨rfl, hc_26⟩
  have h_28 := h_25.same hc_26
  refine WL.q (Wn.no rfl) rfl rfl (R.move (v := (.tuple [(.agg ⟨flat [(1, [(vu64 0)]), (8, (List.replicate 8 (0 : UInt64)).map vu64), (1, [(.bool false)])]⟩), (vi 4)].toArray)) rfl) ?_
  refine WL.q (Wn.no rfl) rfl rfl (R.extract (l := [(.agg ⟨flat [(1, [(vu64 0)]), (8, (List.replicate 8 (0 : UInt64)).map vu64), (1, [(.bool false)])]⟩), (vi 4)]) (v := (.agg ⟨flat [(1, [(vu64 0)]), (8, (List.replicate 8 (0 : UInt64)).map vu64), (1, [(.bool false)])]⟩)) rfl rfl) ?_
  refine WL.q (Wn.no rfl) rfl rfl (R.extract (l := [(.agg ⟨flat [(1, [(vu64 0)]), (8, (List.replicate 8 (0 : UInt64)).map vu64), (1, [(.bool false)])]⟩), (vi 4)]) (v := (vi 4)) rfl rfl) ?_
  refine WL.alloc (segs := [(1, [(vu64 0)]), (8, (List.replicate 8 (0 : UInt64)).map vu64), (1, [(.bool false)])]) h_28 (zv Try.typeInfo45 rfl) rfl (SsOk.cons (SOk.v rfl) (SsOk.cons (SOk.u64 (List.length_replicate ..)) (SsOk.cons (SOk.v rfl) SsOk.nil))) rfl (fun b_29 w_30 h_31 => ?_)
  refine WL.storeA (b := b_29) (off := 0) [] [(1, [(vu64 0)]), (8, (List.replicate 8 (0 : UInt64)).map vu64), (1, [(.bool false)])] [(1, [(vu64 0)]), (8, (List.replicate 8 (0 : UInt64)).map vu64), (1, [(.bool false)])] [] (ys := flat [(1, [(vu64 0)]), (8, (List.replicate 8 (0 : UInt64)).map vu64), (1, [(.bool false)])]) h_31 rfl rfl Try.sizeOf45 At.h (by decide) rfl rfl rfl rfl rfl rfl (SsOk.cons (SOk.v rfl) (SsOk.cons (SOk.u64 (List.length_replicate ..)) (SsOk.cons (SOk.v rfl) SsOk.nil))) (fun w_32 h_33 => ?_)
  refine WL.q (Wn.no rfl) rfl rfl (R.assign (v := (vi 4)) rfl) ?_
  refine WL.nil ?_
  refine thn_n ?_
  refine WP.seq ?_
  refine WP.reg ?_
  refine WL.q (Wn.no rfl) rfl rfl (R.loadA (b := b_1) (off := 0) [] [(128, g.map vu8)] [] (cs := g.map vu8) rfl Try.isAgg53 Try.sizeOf53 (h_33.ok _ (.tail _ (.tail _ (.tail _ (.head _))))) rfl rfl rfl rfl) ?_
  refine WL.call (al := [(.agg ⟨g.map vu8⟩)]) Try.call34 rfl rfl (c_RecR_f g hg h2 _ ) rfl ?_
  rintro _ w_35 ⟨rfl, hc_34⟩
  have h_36 := h_33.same hc_34
  refine WL.q (Wn.no rfl) rfl rfl (R.move (v := (.tuple [(.agg ⟨flat [(1, [(vu64 0)]), (8, (List.replicate 8 (0 : UInt64)).map vu64), (1, [(.bool false)])]⟩), (.bool false)].toArray)) rfl) ?_
  refine WL.q (Wn.no rfl) rfl rfl (R.extract (l := [(.agg ⟨flat [(1, [(vu64 0)]), (8, (List.replicate 8 (0 : UInt64)).map vu64), (1, [(.bool false)])]⟩), (.bool false)]) (v := (.agg ⟨flat [(1, [(vu64 0)]), (8, (List.replicate 8 (0 : UInt64)).map vu64), (1, [(.bool false)])]⟩)) rfl rfl) ?_
  refine WL.q (Wn.no rfl) rfl rfl (R.extract (l := [(.agg ⟨flat [(1, [(vu64 0)]), (8, (List.replicate 8 (0 : UInt64)).map vu64), (1, [(.bool false)])]⟩), (.bool false)]) (v := (.bool false)) rfl rfl) ?_
  refine WL.alloc (segs := [(1, [(vu64 0)]), (8, (List.replicate 8 (0 : UInt64)).map vu64), (1, [(.bool false)])]) h_36 (zv Try.typeInfo45 rfl) rfl (SsOk.cons (SOk.v rfl) (SsOk.cons (SOk.u64 (List.length_replicate ..)) (SsOk.cons (SOk.v rfl) SsOk.nil))) rfl (fun b_37 w_38 h_39 => ?_)
  refine WL.storeA (b := b_37) (off := 0) [] [(1, [(vu64 0)]), (8, (List.replicate 8 (0 : UInt64)).map vu64), (1, [(.bool false)])] [(1, [(vu64 0)]), (8, (List.replicate 8 (0 : UInt64)).map vu64), (1, [(.bool false)])] [] (ys := flat [(1, [(vu64 0)]), (8, (List.replicate 8 (0 : UInt64)).map vu64), (1, [(.bool false)])]) h_39 rfl rfl Try.sizeOf45 At.h (by decide) rfl rfl rfl rfl rfl rfl (SsOk.cons (SOk.v rfl) (SsOk.cons (SOk.u64 (List.length_replicate ..)) (SsOk.cons (SOk.v rfl) SsOk.nil))) (fun w_40 h_41 => ?_)
  refine WL.q (Wn.no rfl) rfl rfl (R.assign (v := (.bool false)) rfl) ?_
  refine WL.nil ?_
  refine thn_n ?_
  refine WP.seq ?_
  refine WP.drawT (SL w.heap.size [.blk b_37 .nw 45 [(1, [(vu64 0)]), (8, (List.replicate 8 (0 : UInt64)).map vu64), (1, [(.bool false)])], .blk b_29 .nw 45 [(1, [(vu64 0)]), (8, (List.replicate 8 (0 : UInt64)).map vu64), (1, [(.bool false)])], .blk b_15 .nw 51 [(32, (List.replicate 32 (0 : UInt8)).map vu8), (1, [(vu64 0)])], .blk b_7 .nw 51 [(32, (List.replicate 32 (0 : UInt8)).map vu8), (1, [(vu64 0)])], .blk b_1 .nw 53 [(128, g.map vu8)]]) (.q 0 (.q 1 (.q 2 (.q 3 (.q 4 (.q 7 (.s 5 (.q 6 (.q 8 (.q 9 (.q 10 (.q 11 (.q 12 (.q 13 (.s 14 (.q 15 (.q 16 (.q 17 (.q 18 (.q 19 (.q 21 (.s 20 (.s 22 (.q 23 (.q 24 (.q 25 (.s 26 (.q 27 (.q 28 .nil))))))))))))))))))))))))))))) (by kernel_rfl) (by kernel_rfl) rfl (by kernel_rfl) (fun w_42 hc_44 => (SL.cons ((h_41.same hc_44).ok _ (.head _)) (SL.cons ((h_41.same hc_44).ok _ (.tail _ (.head _))) (SL.cons ((h_41.same hc_44).ok _ (.tail _ (.tail _ (.head _)))) (SL.cons ((h_41.same hc_44).ok _ (.tail _ (.tail _ (.tail _ (.head _))))) (SL.cons ((h_41.same hc_44).ok _ (.tail _ (.tail _ (.tail _ (.tail _ (.head _)))))) (SL.nil _ _))))))) (fun w_42 hc_44 => ?_)
  have h_43 := h_41.same hc_44
  refine WT.q rfl (Wn.no rfl) rfl rfl (fun wq hS => R.loadA (b := b_29) (off := 0) [] [(1, [(vu64 0)]), (8, (List.replicate 8 (0 : UInt64)).map vu64), (1, [(.bool false)])] [] (cs := flat [(1, [(vu64 0)]), (8, (List.replicate 8 (0 : UInt64)).map vu64), (1, [(.bool false)])]) rfl Try.isAgg45 Try.sizeOf45 (hS _ (.tail _ (.head _))) rfl rfl rfl rfl) ?_
  refine WT.q rfl (Wn.no rfl) rfl rfl (fun wq hS => R.loadA (b := b_37) (off := 0) [] [(1, [(vu64 0)]), (8, (List.replicate 8 (0 : UInt64)).map vu64), (1, [(.bool false)])] [] (cs := flat [(1, [(vu64 0)]), (8, (List.replicate 8 (0 : UInt64)).map vu64), (1, [(.bool false)])]) rfl Try.isAgg45 Try.sizeOf45 (hS _ (.head _)) rfl rfl rfl rfl) ?_
  refine WT.q rfl (Wn.no rfl) rfl rfl (fun wq hS => R.eqA (xs := flat [(1, [(vu64 0)]), (8, (List.replicate 8 (0 : UInt64)).map vu64), (1, [(.bool false)])]) (ys := flat [(1, [(vu64 0)]), (8, (List.replicate 8 (0 : UInt64)).map vu64), (1, [(.bool false)])]) (r := true) rfl rfl Try.eqGuardType45 kt45 (by decide) ag45 (Typ.struct (h := 2) (r := [(1, [(vu64 0)]), (8, (List.replicate 8 (0 : UInt64)).map vu64), (1, [(.bool false)])]) (cs := flat [(1, [(vu64 0)]), (8, (List.replicate 8 (0 : UInt64)).map vu64), (1, [(.bool false)])]) Try.underlying45 (TypF.cons (k := 1) rfl rfl (by decide) rfl (Typ.int Try.underlying22 ce22 (wfu64 0)) (TypF.cons (k := 8) rfl rfl (by decide) (len_map (List.length_replicate ..)) (Typ.u64s Try.underlying23 ce23 Try.underlying22 ce22 (List.length_replicate ..)) (TypF.cons (k := 1) rfl rfl (by decide) rfl (Typ.bool Try.underlying4 ce4) TypF.nil))) rfl (((SsOk.cons (SOk.v rfl) (SsOk.cons (SOk.u64 (List.length_replicate ..)) (SsOk.cons (SOk.v rfl) SsOk.nil)))).len.trans ce45.symm)) (Typ.struct (h := 2) (r := [(1, [(vu64 0)]), (8, (List.replicate 8 (0 : UInt64)).map vu64), (1, [(.bool false)])]) (cs := flat [(1, [(vu64 0)]), (8, (List.replicate 8 (0 : UInt64)).map vu64), (1, [(.bool false)])]) Try.underlying45 (TypF.cons (k := 1) rfl rfl (by decide) rfl (Typ.int Try.underlying22 ce22 (wfu64 0)) (TypF.cons (k := 8) rfl rfl (by decide) (len_map (List.length_replicate ..)) (Typ.u64s Try.underlying23 ce23 Try.underlying22 ce22 (List.length_replicate ..)) (TypF.cons (k := 1) rfl rfl (by decide) rfl (Typ.bool Try.underlying4 ce4) TypF.nil))) rfl (((SsOk.cons (SOk.v rfl) (SsOk.cons (SOk.u64 (List.length_replicate ..)) (SsOk.cons (SOk.v rfl) SsOk.nil)))).len.trans ce45.symm)) (eqT rfl)) ?_
  refine WT.q rfl (Wn.no rfl) rfl rfl (fun wq hS => R.move (v := (.bool true)) rfl) ?_
  refine WT.q rfl (Wn.yes rfl rfl rfl) rfl rfl (fun wq hS => R.move (v := (vi 4)) rfl) ?_
  refine WT.q rfl (Wn.yes rfl rfl rfl) rfl rfl (fun wq hS => R.move (v := (.bool false)) rfl) ?_
  refine WT.s ?_
  refine Op1.one rfl (Wn.yes rfl rfl rfl) ?_
  refine WL.call (al := [(vi 4)]) Try.call21 rfl rfl (c_num10 4 (by omega) _ ) rfl ?_
  rintro _ w_46 ⟨rfl, hc_45⟩
  have h_47 := h_43.same hc_45
  refine WL.nil ?_
  refine ⟨(SL.cons (h_47.ok _ (.head _)) (SL.cons (h_47.ok _ (.tail _ (.head _))) (SL.cons (h_47.ok _ (.tail _ (.tail _ (.head _)))) (SL.cons (h_47.ok _ (.tail _ (.tail _ (.tail _ (.head _))))) (SL.cons (h_47.ok _ (.tail _ (.tail _ (.tail _ (.tail _ (.head _)))))) (SL.nil _ _)))))), ?_⟩
  refine WT.q rfl (Wn.yes rfl rfl rfl) rfl rfl (fun wq hS => R.bin (v := (.bool false)) rfl rfl (bi_eql (r := false) (by decide))) ?_
  refine WT.q rfl (Wn.yes rfl rfl rfl) rfl rfl (fun wq hS => R.eqB (a := false) (b := false) (c := true) rfl rfl Try.underlying4 rfl) ?_
  refine WT.q rfl (Wn.no rfl) rfl rfl (fun wq hS => R.pickT (v := (.bool true)) rfl rfl) ?_
  refine WT.q rfl (Wn.no rfl) rfl rfl (fun wq hS => R.move (v := (.bool true)) rfl) ?_
  refine WT.q rfl (Wn.yes rfl rfl rfl) rfl rfl (fun wq hS => R.move (v := (.bool false)) rfl) ?_
  refine WT.q rfl (Wn.yes rfl rfl rfl) rfl rfl (fun wq hS => R.move (v := (.bool false)) rfl) ?_
  refine WT.q rfl (Wn.yes rfl rfl rfl) rfl rfl (fun wq hS => R.move (v := (vi 4)) rfl) ?_
  refine WT.s ?_
  refine Op1.one rfl (Wn.yes rfl rfl rfl) ?_
  refine WL.call (al := [(vi 4)]) Try.call21 rfl rfl (c_num10 4 (by omega) _ ) rfl ?_
  rintro _ w_49 ⟨rfl, hc_48⟩
  have h_50 := h_47.same hc_48
  refine WL.nil ?_
  refine ⟨(SL.cons (h_50.ok _ (.head _)) (SL.cons (h_50.ok _ (.tail _ (.head _))) (SL.cons (h_50.ok _ (.tail _ (.tail _ (.head _)))) (SL.cons (h_50.ok _ (.tail _ (.tail _ (.tail _ (.head _))))) (SL.cons (h_50.ok _ (.tail _ (.tail _ (.tail _ (.tail _ (.head _)))))) (SL.nil _ _)))))), ?_⟩
  refine WT.q rfl (Wn.yes rfl rfl rfl) rfl rfl (fun wq hS => R.bin (v := (.bool true)) rfl rfl (bi_eql (r := true) (by decide))) ?_
  refine WT.q rfl (Wn.yes rfl rfl rfl) rfl rfl (fun wq hS => R.pickF (v := (.bool true)) rfl rfl) ?_
  refine WT.q rfl (Wn.no rfl) rfl rfl (fun wq hS => R.pickT (v := (.bool true)) rfl rfl) ?_
  refine WT.q rfl (Wn.no rfl) rfl rfl (fun wq hS => R.move (v := (.bool true)) rfl) ?_
  refine WT.q rfl (Wn.yes rfl rfl rfl) rfl rfl (fun wq hS => R.loadA (b := b_1) (off := 0) [] [(128, g.map vu8)] [] (cs := g.map vu8) rfl Try.isAgg53 Try.sizeOf53 (hS _ (.tail _ (.tail _ (.tail _ (.tail _ (.head _)))))) rfl rfl rfl rfl) ?_
  refine WT.q rfl (Wn.yes rfl rfl rfl) rfl rfl (fun wq hS => R.loadA (b := b_1) (off := 0) [] [(128, g.map vu8)] [] (cs := g.map vu8) rfl Try.isAgg53 Try.sizeOf53 (hS _ (.tail _ (.tail _ (.tail _ (.tail _ (.head _)))))) rfl rfl rfl rfl) ?_
  refine WT.s ?_
  refine Op1.one rfl (Wn.yes rfl rfl rfl) ?_
  refine WL.call (al := [(.agg ⟨g.map vu8⟩)]) Try.call35 rfl rfl (c_Kind_n g hg h1 h2 _ ) rfl ?_
  rintro _ w_52 ⟨rfl, hc_51⟩
  have h_53 := h_50.same hc_51
  refine WL.nil ?_
  refine ⟨(SL.cons (h_53.ok _ (.head _)) (SL.cons (h_53.ok _ (.tail _ (.head _))) (SL.cons (h_53.ok _ (.tail _ (.tail _ (.head _)))) (SL.cons (h_53.ok _ (.tail _ (.tail _ (.tail _ (.head _))))) (SL.cons (h_53.ok _ (.tail _ (.tail _ (.tail _ (.tail _ (.head _)))))) (SL.nil _ _)))))), ?_⟩
  refine WT.s ?_
  refine Op1.one rfl (Wn.yes rfl rfl rfl) ?_
  refine WL.call (al := [(.agg ⟨g.map vu8⟩)]) Try.call36 rfl rfl (c_KindR_n g hg h1 h2 _ ) rfl ?_
  rintro _ w_55 ⟨rfl, hc_54⟩
  have h_56 := h_53.same hc_54
  refine WL.nil ?_
  refine ⟨(SL.cons (h_56.ok _ (.head _)) (SL.cons (h_56.ok _ (.tail _ (.head _))) (SL.cons (h_56.ok _ (.tail _ (.tail _ (.head _)))) (SL.cons (h_56.ok _ (.tail _ (.tail _ (.tail _ (.head _))))) (SL.cons (h_56.ok _ (.tail _ (.tail _ (.tail _ (.tail _ (.head _)))))) (SL.nil _ _)))))), ?_⟩
  refine WT.q rfl (Wn.yes rfl rfl rfl) rfl rfl (fun wq hS => R.eqStr (a := ([] : List UInt8)) (b := ([] : List UInt8)) (r := true) rfl rfl (by simp)) ?_
  refine WT.q rfl (Wn.no rfl) rfl rfl (fun wq hS => R.pickT (v := (.bool true)) rfl rfl) ?_
  refine WT.q rfl (Wn.no rfl) rfl rfl (fun wq hS => R.move (v := (.bool true)) rfl) ?_
  refine WT.s ?_
  refine Op1.one rfl (Wn.yes rfl rfl rfl) ?_
  refine WL.call (al := []) Try.call22 rfl rfl (c_known  _ ) rfl ?_
  rintro _ w_58 ⟨rfl, hc_57⟩
  have h_59 := h_56.same hc_57
  refine WL.nil ?_
  refine ⟨(SL.cons (h_59.ok _ (.head _)) (SL.cons (h_59.ok _ (.tail _ (.head _))) (SL.cons (h_59.ok _ (.tail _ (.tail _ (.head _)))) (SL.cons (h_59.ok _ (.tail _ (.tail _ (.tail _ (.head _))))) (SL.cons (h_59.ok _ (.tail _ (.tail _ (.tail _ (.tail _ (.head _)))))) (SL.nil _ _)))))), ?_⟩
  refine WT.q rfl (Wn.no rfl) rfl rfl (fun wq hS => R.pickT (v := (.bool true)) rfl rfl) ?_
  refine WT.q rfl (Wn.no rfl) rfl rfl (fun wq hS => R.assign (v := (.bool true)) rfl) ?_
  refine WT.nil ?_
  refine thn_n ?_
  refine WP.ret ?_
  refine ret_of Try.results10 (RV.tmp (v := (.bool true)) rfl RV.nil) ?_
  exact ⟨rfl, h_59.chgS⟩

theorem w_ParamsReads (g : List UInt8) (hg : g.length = 128) (w : World) : Cs Try.prog 10 [(.agg ⟨g.map vu8⟩)].toArray w (fun v w1 => v = .bool true ∧ Chg w w1 []) := by
  rcases Bool.eq_false_or_eq_true (okRealm g) with h1 | h1 <;> rcases Bool.eq_false_or_eq_true (okRec g) with h2 | h2
  · exact w_ParamsReads_tt g hg h1 h2 w
  · exact w_ParamsReads_tf g hg h1 h2 w
  · exact w_ParamsReads_ft g hg h1 h2 w
  · exact w_ParamsReads_ff g hg h1 h2 w
namespace paramsReadsDone
open Go.ChangeShapes Go.WideShapes Go.ChangeAt
theorem own : ownKnob Try.prog.godebug = none := by kernel_rfl
theorem laidOut : laidOutB Try.prog = true := by kernel_rfl
set_option maxRecDepth 100000 in
theorem lifted (os : Os) (started : os.Started) (H : Type) (enc : TypeId × Value → H) :
    ReturnsInHanded {} Try.checked os 10 .any (Rows.paramsReadsSpec.pre6 enc Try.prog Try.f10 Rows.paramsReadsRow.domain false) (Rows.paramsReadsSpec.post enc Try.prog Try.f10 false true false false) := by
  refine returnsInHanded_of_change (C := Try.checked) own started (by kernel_rfl) Try.func10
    (ChangeSpec.witness6 (enc := enc) (C := Try.checked) false ⟨#[], #[.agg #[.int .u8 0, .int .u8 0, .int .u8 0, .int .u8 0, .int .u8 0, .int .u8 0, .int .u8 0, .int .u8 0, .int .u8 0, .int .u8 0, .int .u8 0, .int .u8 0, .int .u8 0, .int .u8 0, .int .u8 0, .int .u8 0, .int .u8 0, .int .u8 0, .int .u8 0, .int .u8 0, .int .u8 0, .int .u8 0, .int .u8 0, .int .u8 0, .int .u8 0, .int .u8 0, .int .u8 0, .int .u8 0, .int .u8 0, .int .u8 0, .int .u8 0, .int .u8 0, .int .u8 0, .int .u8 0, .int .u8 0, .int .u8 0, .int .u8 0, .int .u8 0, .int .u8 0, .int .u8 0, .int .u8 0, .int .u8 0, .int .u8 0, .int .u8 0, .int .u8 0, .int .u8 0, .int .u8 0, .int .u8 0, .int .u8 0, .int .u8 0, .int .u8 0, .int .u8 0, .int .u8 0, .int .u8 0, .int .u8 0, .int .u8 0, .int .u8 0, .int .u8 0, .int .u8 0, .int .u8 0, .int .u8 0, .int .u8 0, .int .u8 0, .int .u8 0, .int .u8 0, .int .u8 0, .int .u8 0, .int .u8 0, .int .u8 0, .int .u8 0, .int .u8 0, .int .u8 0, .int .u8 0, .int .u8 0, .int .u8 0, .int .u8 0, .int .u8 0, .int .u8 0, .int .u8 0, .int .u8 0, .int .u8 0, .int .u8 0, .int .u8 0, .int .u8 0, .int .u8 0, .int .u8 0, .int .u8 0, .int .u8 0, .int .u8 0, .int .u8 0, .int .u8 0, .int .u8 0, .int .u8 0, .int .u8 0, .int .u8 0, .int .u8 0, .int .u8 0, .int .u8 0, .int .u8 0, .int .u8 0, .int .u8 0, .int .u8 0, .int .u8 0, .int .u8 0, .int .u8 0, .int .u8 0, .int .u8 0, .int .u8 0, .int .u8 0, .int .u8 0, .int .u8 0, .int .u8 0, .int .u8 0, .int .u8 0, .int .u8 0, .int .u8 0, .int .u8 0, .int .u8 0, .int .u8 0, .int .u8 0, .int .u8 0, .int .u8 0, .int .u8 0, .int .u8 0, .int .u8 0, .int .u8 0, .int .u8 0, .int .u8 0]], []⟩ 8 (by kernel_rfl) (by kernel_rfl) (by kernel_rfl) (by kernel_rfl)) ?_
  intro W base args ds gs before hval0 hW hcnd _
  have hval : ∀ (j : Nat) t v, Try.f10.params[j]? = some t → args[j]? = some v → Value.okWide Try.prog W .any base t v := hval0
  have hW' := hW
  obtain ⟨p, q, hA0, hV, rfl, hfz, hnd⟩ := hW
  have hA : DataW.TrodAll enc Try.prog W 0 (fun _ => true) true Try.f10.params.toList args.toList ds p := hA0
  rw [Try.params10] at hA hval
  obtain ⟨v0, vs0, d0, ds0, p0, q0, hargs, rfl, rfl, h0, r0⟩ := trodAll_cons hA
  obtain ⟨rfl, rfl, rfl⟩ := trodAll_nil r0
  obtain rfl : args = #[v0] := by cases args; simp_all
  obtain ⟨rfl, rfl⟩ := trodVars_none hV
  have lt0 : ∀ x ∈ p0, x.block < W.heap.size := by obtain ⟨m, hm⟩ := h0; exact DataW.trod_lt m _ _ _ hm
  obtain ⟨cs0, rfl⟩ := okWide_agg aggT53 (hval 0 53 v0 rfl rfl)
  have tr0 : Tr Try.prog W 53 cs0 := Tr.of h0 rfl
  obtain ⟨x0, rfl, l_x0⟩ := Tr.arr8 Try.underlying53 ce53 ce5 Try.underlying5 tr0
  clear hA0 hval0
  have hw : Cs Try.prog 10 [(.agg ⟨x0.map vu8⟩)].toArray W (fun v w1 => v = .bool true ∧ Chg W w1 []) := w_ParamsReads x0 l_x0 W
  have ea : ([(.agg ⟨x0.map vu8⟩)] : List Value).toArray = (#[.agg ⟨x0.map vu8⟩] : Array Value) := by simp [flat]
  rw [ea] at hw
  refine Calls.mono (Cs.below hw) fun e W' ⟨he, bel⟩ => ?_
  subst he
  exact ⟨_, rfl, _, _, _, [], _, [], hW', trodAll_mk1 (shut_bool Try.underlying4 _), (trodAll_cons_mk (Below.trod laidOut (by kernel_rfl) (of_decide_eq_true (by kernel_rfl)) h0 bel lt0) trodAll_mk0), rfl, bel.frame _, fun h => by cases h⟩
theorem over : Rows.paramsReadsRow.holds Try.pinned (OpenSpec.ofChange Rows.paramsReadsSpec) :=
  OpenClaim.holds_of_wide 10 Try.f10 rfl rfl rfl rfl rfl rfl rfl ⟨rfl, rfl, rfl, rfl, rfl⟩ rfl rfl rfl rfl rfl (by kernel_rfl) Try.func10 (by kernel_rfl)
    (of_decide_eq_true (by kernel_rfl)) (by unfold Func.isWrapper; first | (rw [if_pos (by decide +kernel)]; kernel_rfl) | (rw [if_neg (by decide +kernel)]; exact ⟨rfl, rfl⟩))
    (fun os started H enc _ => lifted os started H enc)
theorem proved : Rows.ParamsReadsSaid := over
end paramsReadsDone
end Go.Proofs.Ythkcekgemanfdaa
