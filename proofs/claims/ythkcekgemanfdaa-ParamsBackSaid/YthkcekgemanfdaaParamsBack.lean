/- ParamsBack holds of every input. Conditions: none. -/
import Derived.Test.YthkcekgemanfdaaC3
namespace Go.Proofs.Ythkcekgemanfdaa
open Go.Vc Go.RowKit
set_option linter.unusedVariables false
set_option linter.unusedSimpArgs false
set_option maxRecDepth 20000
theorem w_ParamsBack_tt (vl : List UInt8) (hvl : vl.length = 32) (nd : UInt64) (pc : UInt64) (rg : List UInt64) (hrg : rg.length = 8) (run : Bool) (h1 : mayRealm nd = true) (h2 : mayRec pc = true) (w : World) :
    Cs Try.prog 11 [(.agg ⟨flat [(32, vl.map vu8), (1, [(vu64 nd)])]⟩), (.agg ⟨flat [(1, [(vu64 pc)]), (8, rg.map vu64), (1, [(.bool run)])]⟩)].toArray w (fun v w1 => v = .bool true ∧ Chg w w1 []) := by
  refine Cs.of (n := 89) (args := [(.agg ⟨flat [(32, vl.map vu8), (1, [(vu64 nd)])]⟩), (.agg ⟨flat [(1, [(vu64 pc)]), (8, rg.map vu64), (1, [(.bool run)])]⟩)]) Try.func11 rfl rfl rfl ?_
  have h_0 := HP.init w
  refine WP.seq ?_
  refine WP.reg ?_
  refine WL.box (v := (.agg ⟨flat [(32, vl.map vu8), (1, [(vu64 nd)])]⟩)) (segs := [(32, vl.map vu8), (1, [(vu64 nd)])]) h_0 rfl rfl (SsOk.cons (SOk.u8 hvl) (SsOk.cons (SOk.v rfl) SsOk.nil)) rfl (fun b_1 w_2 h_3 => ?_)
  refine WL.box (v := (.agg ⟨flat [(1, [(vu64 pc)]), (8, rg.map vu64), (1, [(.bool run)])]⟩)) (segs := [(1, [(vu64 pc)]), (8, rg.map vu64), (1, [(.bool run)])]) h_3 rfl rfl (SsOk.cons (SOk.v rfl) (SsOk.cons (SOk.u64 hrg) (SsOk.cons (SOk.v rfl) SsOk.nil))) rfl (fun b_4 w_5 h_6 => ?_)
  refine WL.q (Wn.no rfl) rfl rfl (R.assign (v := (.bool false)) rfl) ?_
  refine WL.nil ?_
  refine thn_n ?_
  refine WP.seq ?_
  refine WP.seq ?_
  refine WP.reg ?_
  refine WL.call (al := []) Try.call22 rfl rfl (c_known  _ ) rfl ?_
  rintro _ w_8 ⟨rfl, hc_7⟩
  have h_9 := h_6.same hc_7
  refine WL.q (Wn.no rfl) rfl rfl (R.not (b := true) rfl) ?_
  refine WL.nil ?_
  refine thn_n ?_
  refine WP.condF rfl ?_
  refine WP.skip ?_
  refine thn_n ?_
  refine WP.seq ?_
  refine WP.reg ?_
  refine WL.q (Wn.no rfl) rfl rfl (R.loadA (b := b_1) (off := 0) [] [(32, vl.map vu8), (1, [(vu64 nd)])] [] (cs := flat [(32, vl.map vu8), (1, [(vu64 nd)])]) rfl Try.isAgg51 Try.sizeOf51 (h_9.ok _ (.tail _ (.head _))) rfl rfl rfl rfl) ?_
  refine WL.call (al := [(.agg ⟨flat [(32, vl.map vu8), (1, [(vu64 nd)])]⟩)]) Try.call18 rfl rfl (c_RealmBytes_t vl hvl nd h1 _ ) rfl ?_
  rintro _ w_11 ⟨rfl, hc_10⟩
  have h_12 := h_9.same hc_10
  refine WL.q (Wn.no rfl) rfl rfl (R.move (v := (.tuple [(.agg ⟨(realmB vl nd).map vu8⟩), (vi 0)].toArray)) rfl) ?_
  refine WL.q (Wn.no rfl) rfl rfl (R.extract (l := [(.agg ⟨(realmB vl nd).map vu8⟩), (vi 0)]) (v := (.agg ⟨(realmB vl nd).map vu8⟩)) rfl rfl) ?_
  refine WL.q (Wn.no rfl) rfl rfl (R.extract (l := [(.agg ⟨(realmB vl nd).map vu8⟩), (vi 0)]) (v := (vi 0)) rfl rfl) ?_
  refine WL.alloc (segs := [(128, (List.replicate 128 (0 : UInt8)).map vu8)]) h_12 (zv Try.typeInfo53 rfl) rfl (SsOk.cons (SOk.u8 (List.length_replicate ..)) SsOk.nil) rfl (fun b_13 w_14 h_15 => ?_)
  refine WL.storeA (b := b_13) (off := 0) [] [(128, (List.replicate 128 (0 : UInt8)).map vu8)] [(128, (realmB vl nd).map vu8)] [] (ys := (realmB vl nd).map vu8) h_15 rfl rfl Try.sizeOf53 At.h (by decide) rfl rfl rfl rfl rfl rfl (SsOk.cons (SOk.u8 (realmB_len hvl)) SsOk.nil) (fun w_16 h_17 => ?_)
  refine WL.q (Wn.no rfl) rfl rfl (R.assign (v := (vi 0)) rfl) ?_
  refine WL.nil ?_
  refine thn_n ?_
  refine WP.seq ?_
  refine WP.seq ?_
  refine WP.reg ?_
  refine WL.q (Wn.no rfl) rfl rfl (R.move (v := (vi 0)) rfl) ?_
  refine WL.call (al := [(vi 0)]) Try.call21 rfl rfl (c_num10 0 (by omega) _ ) rfl ?_
  rintro _ w_19 ⟨rfl, hc_18⟩
  have h_20 := h_17.same hc_18
  refine WL.q (Wn.no rfl) rfl rfl (R.bin (v := (.bool true)) rfl rfl (bi_eql (r := true) (by decide))) ?_
  refine WL.nil ?_
  refine thn_n ?_
  refine WP.condT rfl ?_
  refine WP.seq ?_
  refine WP.reg ?_
  refine WL.q (Wn.no rfl) rfl rfl (R.loadA (b := b_13) (off := 0) [] [(128, (realmB vl nd).map vu8)] [] (cs := (realmB vl nd).map vu8) rfl Try.isAgg53 Try.sizeOf53 (h_20.ok _ (.head _)) rfl rfl rfl rfl) ?_
  refine WL.call (al := [(.agg ⟨(realmB vl nd).map vu8⟩)]) Try.call32 rfl rfl (c_Realm_t (realmB vl nd) (realmB_len hvl) (realm_ok hvl h1) _ ) rfl ?_
  rintro _ w_22 ⟨rfl, hc_21⟩
  have h_23 := h_20.same hc_21
  refine WL.q (Wn.no rfl) rfl rfl (R.move (v := (.tuple [(.agg ⟨flat [(32, (rlV (realmB vl nd)).map vu8), (1, [(vu64 (wordB (realmB vl nd) 5))])]⟩), (vi 0)].toArray)) rfl) ?_
  refine WL.q (Wn.no rfl) rfl rfl (R.extract (l := [(.agg ⟨flat [(32, (rlV (realmB vl nd)).map vu8), (1, [(vu64 (wordB (realmB vl nd) 5))])]⟩), (vi 0)]) (v := (.agg ⟨flat [(32, (rlV (realmB vl nd)).map vu8), (1, [(vu64 (wordB (realmB vl nd) 5))])]⟩)) rfl rfl) ?_
  refine WL.q (Wn.no rfl) rfl rfl (R.extract (l := [(.agg ⟨flat [(32, (rlV (realmB vl nd)).map vu8), (1, [(vu64 (wordB (realmB vl nd) 5))])]⟩), (vi 0)]) (v := (vi 0)) rfl rfl) ?_
  refine WL.alloc (segs := [(32, (List.replicate 32 (0 : UInt8)).map vu8), (1, [(vu64 0)])]) h_23 (zv Try.typeInfo51 rfl) rfl (SsOk.cons (SOk.u8 (List.length_replicate ..)) (SsOk.cons (SOk.v rfl) SsOk.nil)) rfl (fun b_24 w_25 h_26 => ?_)
  refine WL.storeA (b := b_24) (off := 0) [] [(32, (List.replicate 32 (0 : UInt8)).map vu8), (1, [(vu64 0)])] [(32, (rlV (realmB vl nd)).map vu8), (1, [(vu64 (wordB (realmB vl nd) 5))])] [] (ys := flat [(32, (rlV (realmB vl nd)).map vu8), (1, [(vu64 (wordB (realmB vl nd) 5))])]) h_26 rfl rfl Try.sizeOf51 At.h (by decide) rfl rfl rfl rfl rfl rfl (SsOk.cons (SOk.u8 (by simp only [rlV, List.length_take, List.length_drop, (realmB_len hvl)]; decide)) (SsOk.cons (SOk.v rfl) SsOk.nil)) (fun w_27 h_28 => ?_)
  refine WL.q (Wn.no rfl) rfl rfl (R.assign (v := (vi 0)) rfl) ?_
  refine WL.nil ?_
  refine thn_n ?_
  refine WP.seq ?_
  refine WP.reg ?_
  refine WL.q (Wn.no rfl) rfl rfl (R.loadA (b := b_13) (off := 0) [] [(128, (realmB vl nd).map vu8)] [] (cs := (realmB vl nd).map vu8) rfl Try.isAgg53 Try.sizeOf53 (h_28.ok _ (.tail _ (.head _))) rfl rfl rfl rfl) ?_
  refine WL.call (al := [(.agg ⟨(realmB vl nd).map vu8⟩)]) Try.call28 rfl rfl (c_Rec_f (realmB vl nd) (realmB_len hvl) (realm_no hvl) _ ) rfl ?_
  rintro _ w_30 ⟨rfl, hc_29⟩
  have h_31 := h_28.same hc_29
  refine WL.q (Wn.no rfl) rfl rfl (R.move (v := (.tuple [(.agg ⟨flat [(1, [(vu64 0)]), (8, (List.replicate 8 (0 : UInt64)).map vu64), (1, [(.bool false)])]⟩), (vi 4)].toArray)) rfl) ?_
  refine WL.q (Wn.no rfl) rfl rfl (R.extract (l := [(.agg ⟨flat [(1, [(vu64 0)]), (8, (List.replicate 8 (0 : UInt64)).map vu64), (1, [(.bool false)])]⟩), (vi 4)]) (v := (.agg ⟨flat [(1, [(vu64 0)]), (8, (List.replicate 8 (0 : UInt64)).map vu64), (1, [(.bool false)])]⟩)) rfl rfl) ?_
  refine WL.q (Wn.no rfl) rfl rfl (R.extract (l := [(.agg ⟨flat [(1, [(vu64 0)]), (8, (List.replicate 8 (0 : UInt64)).map vu64), (1, [(.bool false)])]⟩), (vi 4)]) (v := (vi 4)) rfl rfl) ?_
  refine WL.alloc (segs := [(1, [(vu64 0)]), (8, (List.replicate 8 (0 : UInt64)).map vu64), (1, [(.bool false)])]) h_31 (zv Try.typeInfo45 rfl) rfl (SsOk.cons (SOk.v rfl) (SsOk.cons (SOk.u64 (List.length_replicate ..)) (SsOk.cons (SOk.v rfl) SsOk.nil))) rfl (fun b_32 w_33 h_34 => ?_)
  refine WL.storeA (b := b_32) (off := 0) [] [(1, [(vu64 0)]), (8, (List.replicate 8 (0 : UInt64)).map vu64), (1, [(.bool false)])] [(1, [(vu64 0)]), (8, (List.replicate 8 (0 : UInt64)).map vu64), (1, [(.bool false)])] [] (ys := flat [(1, [(vu64 0)]), (8, (List.replicate 8 (0 : UInt64)).map vu64), (1, [(.bool false)])]) h_34 rfl rfl Try.sizeOf45 At.h (by decide) rfl rfl rfl rfl rfl rfl (SsOk.cons (SOk.v rfl) (SsOk.cons (SOk.u64 (List.length_replicate ..)) (SsOk.cons (SOk.v rfl) SsOk.nil))) (fun w_35 h_36 => ?_)
  refine WL.q (Wn.no rfl) rfl rfl (R.assign (v := (vi 4)) rfl) ?_
  refine WL.nil ?_
  refine thn_n ?_
  refine WP.seq ?_
  refine WP.reg ?_
  refine WL.q (Wn.no rfl) rfl rfl (R.move (v := (vi 0)) rfl) ?_
  refine WL.call (al := [(vi 0)]) Try.call21 rfl rfl (c_num10 0 (by omega) _ ) rfl ?_
  rintro _ w_38 ⟨rfl, hc_37⟩
  have h_39 := h_36.same hc_37
  refine WL.q (Wn.no rfl) rfl rfl (R.bin (v := (.bool false)) rfl rfl (bi_neq (r := false) (by decide))) ?_
  refine WL.q (Wn.no rfl) rfl rfl (R.move (v := (.bool false)) rfl) ?_
  refine WL.want rfl rfl ?_
  refine WL.q (Wn.no rfl) rfl rfl (R.loadA (b := b_24) (off := 0) [] [(32, (rlV (realmB vl nd)).map vu8), (1, [(vu64 (wordB (realmB vl nd) 5))])] [] (cs := flat [(32, (rlV (realmB vl nd)).map vu8), (1, [(vu64 (wordB (realmB vl nd) 5))])]) rfl Try.isAgg51 Try.sizeOf51 (h_39.ok _ (.tail _ (.head _))) rfl rfl rfl rfl) ?_
  refine WL.want rfl rfl ?_
  refine WL.q (Wn.no rfl) rfl rfl (R.loadA (b := b_1) (off := 0) [] [(32, vl.map vu8), (1, [(vu64 nd)])] [] (cs := flat [(32, vl.map vu8), (1, [(vu64 nd)])]) rfl Try.isAgg51 Try.sizeOf51 (h_39.ok _ (.tail _ (.tail _ (.tail _ (.tail _ (.head _)))))) rfl rfl rfl rfl) ?_
  refine WL.want rfl rfl ?_
  refine WL.q (Wn.no rfl) rfl rfl (R.neA (xs := flat [(32, (rlV (realmB vl nd)).map vu8), (1, [(vu64 (wordB (realmB vl nd) 5))])]) (ys := flat [(32, vl.map vu8), (1, [(vu64 nd)])]) (r := false) rfl rfl Try.eqGuardType51 kt51 (by decide) ag51 (Typ.struct (h := 2) (r := [(32, (rlV (realmB vl nd)).map vu8), (1, [(vu64 (wordB (realmB vl nd) 5))])]) (cs := flat [(32, (rlV (realmB vl nd)).map vu8), (1, [(vu64 (wordB (realmB vl nd) 5))])]) Try.underlying51 (TypF.cons (k := 32) rfl rfl (by decide) (len_map (by simp only [rlV, List.length_take, List.length_drop, (realmB_len hvl)]; decide)) (Typ.u8s Try.underlying49 ce49 Try.underlying5 ce5 (by simp only [rlV, List.length_take, List.length_drop, (realmB_len hvl)]; decide)) (TypF.cons (k := 1) rfl rfl (by decide) rfl (Typ.int Try.underlying22 ce22 (wfu64 (wordB (realmB vl nd) 5))) TypF.nil)) rfl (((SsOk.cons (SOk.u8 (by simp only [rlV, List.length_take, List.length_drop, (realmB_len hvl)]; decide)) (SsOk.cons (SOk.v rfl) SsOk.nil))).len.trans ce51.symm)) (Typ.struct (h := 2) (r := [(32, vl.map vu8), (1, [(vu64 nd)])]) (cs := flat [(32, vl.map vu8), (1, [(vu64 nd)])]) Try.underlying51 (TypF.cons (k := 32) rfl rfl (by decide) (len_map hvl) (Typ.u8s Try.underlying49 ce49 Try.underlying5 ce5 hvl) (TypF.cons (k := 1) rfl rfl (by decide) rfl (Typ.int Try.underlying22 ce22 (wfu64 nd)) TypF.nil)) rfl (((SsOk.cons (SOk.u8 hvl) (SsOk.cons (SOk.v rfl) SsOk.nil))).len.trans ce51.symm)) (neT (by rw [realm_vl hvl, realm_nd hvl]))) ?_
  refine WL.q (Wn.no rfl) rfl rfl (R.pickF (v := (.bool false)) rfl rfl) ?_
  refine WL.q (Wn.no rfl) rfl rfl (R.move (v := (.bool false)) rfl) ?_
  refine WL.want rfl rfl ?_
  refine WL.q (Wn.no rfl) rfl rfl (R.move (v := (vi 4)) rfl) ?_
  refine WL.want rfl rfl ?_
  refine WL.call (al := [(vi 4)]) Try.call21 rfl rfl (c_num10 4 (by omega) _ ) rfl ?_
  rintro _ w_41 ⟨rfl, hc_40⟩
  have h_42 := h_39.same hc_40
  refine WL.want rfl rfl ?_
  refine WL.q (Wn.no rfl) rfl rfl (R.bin (v := (.bool false)) rfl rfl (bi_neq (r := false) (by decide))) ?_
  refine WL.q (Wn.no rfl) rfl rfl (R.pickF (v := (.bool false)) rfl rfl) ?_
  refine WL.q (Wn.no rfl) rfl rfl (R.move (v := (.bool false)) rfl) ?_
  refine WL.want rfl rfl ?_
  refine WL.q (Wn.no rfl) rfl rfl (R.loadA (b := b_13) (off := 0) [] [(128, (realmB vl nd).map vu8)] [] (cs := (realmB vl nd).map vu8) rfl Try.isAgg53 Try.sizeOf53 (h_42.ok _ (.tail _ (.tail _ (.head _)))) rfl rfl rfl rfl) ?_
  refine WL.want rfl rfl ?_
  refine WL.call (al := [(.agg ⟨(realmB vl nd).map vu8⟩)]) Try.call35 rfl rfl (c_Kind_r (realmB vl nd) (realmB_len hvl) (realm_ok hvl h1) _ ) rfl ?_
  rintro _ w_44 ⟨rfl, hc_43⟩
  have h_45 := h_42.same hc_43
  refine WL.want rfl rfl ?_
  refine WL.q (Wn.no rfl) rfl rfl (R.neStr (a := ([114, 101, 97, 108, 109] : List UInt8)) (b := ([114, 101, 97, 108, 109] : List UInt8)) (r := false) rfl rfl (by simp)) ?_
  refine WL.q (Wn.no rfl) rfl rfl (R.pickF (v := (.bool false)) rfl rfl) ?_
  refine WL.nil ?_
  refine thn_n ?_
  refine WP.condF rfl ?_
  refine WP.skip ?_
  refine thn_n ?_
  refine WP.seq ?_
  refine WP.reg ?_
  refine WL.q (Wn.no rfl) rfl rfl (R.loadA (b := b_4) (off := 0) [] [(1, [(vu64 pc)]), (8, rg.map vu64), (1, [(.bool run)])] [] (cs := flat [(1, [(vu64 pc)]), (8, rg.map vu64), (1, [(.bool run)])]) rfl Try.isAgg45 Try.sizeOf45 (h_45.ok _ (.tail _ (.tail _ (.tail _ (.head _))))) rfl rfl rfl rfl) ?_
  refine WL.call (al := [(.agg ⟨flat [(1, [(vu64 pc)]), (8, rg.map vu64), (1, [(.bool run)])]⟩)]) Try.call24 rfl rfl (c_RecBytes_t pc rg hrg run h2 _ ) rfl ?_
  rintro _ w_47 ⟨rfl, hc_46⟩
  have h_48 := h_45.same hc_46
  refine WL.q (Wn.no rfl) rfl rfl (R.move (v := (.tuple [(.agg ⟨(recB pc rg run).map vu8⟩), (vi 0)].toArray)) rfl) ?_
  refine WL.q (Wn.no rfl) rfl rfl (R.extract (l := [(.agg ⟨(recB pc rg run).map vu8⟩), (vi 0)]) (v := (.agg ⟨(recB pc rg run).map vu8⟩)) rfl rfl) ?_
  refine WL.q (Wn.no rfl) rfl rfl (R.extract (l := [(.agg ⟨(recB pc rg run).map vu8⟩), (vi 0)]) (v := (vi 0)) rfl rfl) ?_
  refine WL.storeA (b := b_13) (off := 0) [] [(128, (realmB vl nd).map vu8)] [(128, (recB pc rg run).map vu8)] [] (ys := (recB pc rg run).map vu8) h_48 rfl rfl Try.sizeOf53 (At.t (At.t At.h)) (by decide) rfl rfl rfl rfl rfl rfl (SsOk.cons (SOk.u8 (recB_len ..)) SsOk.nil) (fun w_49 h_50 => ?_)
  refine WL.q (Wn.no rfl) rfl rfl (R.assign (v := (vi 0)) rfl) ?_
  refine WL.nil ?_
  refine thn_n ?_
  refine WP.seq ?_
  refine WP.seq ?_
  refine WP.reg ?_
  refine WL.q (Wn.no rfl) rfl rfl (R.move (v := (vi 0)) rfl) ?_
  refine WL.call (al := [(vi 0)]) Try.call21 rfl rfl (c_num10 0 (by omega) _ ) rfl ?_
  rintro _ w_52 ⟨rfl, hc_51⟩
  have h_53 := h_50.same hc_51
  refine WL.q (Wn.no rfl) rfl rfl (R.bin (v := (.bool true)) rfl rfl (bi_eql (r := true) (by decide))) ?_
  refine WL.nil ?_
  refine thn_n ?_
  refine WP.condT rfl ?_
  refine WP.seq ?_
  refine WP.reg ?_
  refine WL.q (Wn.no rfl) rfl rfl (R.loadA (b := b_13) (off := 0) [] [(128, (recB pc rg run).map vu8)] [] (cs := (recB pc rg run).map vu8) rfl Try.isAgg53 Try.sizeOf53 (h_53.ok _ (.tail _ (.tail _ (.head _)))) rfl rfl rfl rfl) ?_
  refine WL.call (al := [(.agg ⟨(recB pc rg run).map vu8⟩)]) Try.call28 rfl rfl (c_Rec_t (recB pc rg run) (recB_len ..) (rec_ok hrg h2) _ ) rfl ?_
  rintro _ w_55 ⟨rfl, hc_54⟩
  have h_56 := h_53.same hc_54
  refine WL.q (Wn.no rfl) rfl rfl (R.move (v := (.tuple [(.agg ⟨flat [(1, [(vu64 (wordB (recB pc rg run) 1))]), (8, (rcR (recB pc rg run)).map vu64), (1, [(.bool (decide ((recB pc rg run).getD 80 0 = 1)))])]⟩), (vi 0)].toArray)) rfl) ?_
  refine WL.q (Wn.no rfl) rfl rfl (R.extract (l := [(.agg ⟨flat [(1, [(vu64 (wordB (recB pc rg run) 1))]), (8, (rcR (recB pc rg run)).map vu64), (1, [(.bool (decide ((recB pc rg run).getD 80 0 = 1)))])]⟩), (vi 0)]) (v := (.agg ⟨flat [(1, [(vu64 (wordB (recB pc rg run) 1))]), (8, (rcR (recB pc rg run)).map vu64), (1, [(.bool (decide ((recB pc rg run).getD 80 0 = 1)))])]⟩)) rfl rfl) ?_
  refine WL.q (Wn.no rfl) rfl rfl (R.extract (l := [(.agg ⟨flat [(1, [(vu64 (wordB (recB pc rg run) 1))]), (8, (rcR (recB pc rg run)).map vu64), (1, [(.bool (decide ((recB pc rg run).getD 80 0 = 1)))])]⟩), (vi 0)]) (v := (vi 0)) rfl rfl) ?_
  refine WL.alloc (segs := [(1, [(vu64 0)]), (8, (List.replicate 8 (0 : UInt64)).map vu64), (1, [(.bool false)])]) h_56 (zv Try.typeInfo45 rfl) rfl (SsOk.cons (SOk.v rfl) (SsOk.cons (SOk.u64 (List.length_replicate ..)) (SsOk.cons (SOk.v rfl) SsOk.nil))) rfl (fun b_57 w_58 h_59 => ?_)
  refine WL.storeA (b := b_57) (off := 0) [] [(1, [(vu64 0)]), (8, (List.replicate 8 (0 : UInt64)).map vu64), (1, [(.bool false)])] [(1, [(vu64 (wordB (recB pc rg run) 1))]), (8, (rcR (recB pc rg run)).map vu64), (1, [(.bool (decide ((recB pc rg run).getD 80 0 = 1)))])] [] (ys := flat [(1, [(vu64 (wordB (recB pc rg run) 1))]), (8, (rcR (recB pc rg run)).map vu64), (1, [(.bool (decide ((recB pc rg run).getD 80 0 = 1)))])]) h_59 rfl rfl Try.sizeOf45 At.h (by decide) rfl rfl rfl rfl rfl rfl (SsOk.cons (SOk.v rfl) (SsOk.cons (SOk.u64 (rfl : List.length (rcR (recB pc rg run)) = 8)) (SsOk.cons (SOk.v rfl) SsOk.nil))) (fun w_60 h_61 => ?_)
  refine WL.q (Wn.no rfl) rfl rfl (R.assign (v := (vi 0)) rfl) ?_
  refine WL.nil ?_
  refine thn_n ?_
  refine WP.seq ?_
  refine WP.reg ?_
  refine WL.q (Wn.no rfl) rfl rfl (R.loadA (b := b_13) (off := 0) [] [(128, (recB pc rg run).map vu8)] [] (cs := (recB pc rg run).map vu8) rfl Try.isAgg53 Try.sizeOf53 (h_61.ok _ (.tail _ (.tail _ (.tail _ (.head _))))) rfl rfl rfl rfl) ?_
  refine WL.call (al := [(.agg ⟨(recB pc rg run).map vu8⟩)]) Try.call32 rfl rfl (c_Realm_f (recB pc rg run) (recB_len ..) (rec_no pc rg run) _ ) rfl ?_
  rintro _ w_63 ⟨rfl, hc_62⟩
  have h_64 := h_61.same hc_62
  refine WL.q (Wn.no rfl) rfl rfl (R.move (v := (.tuple [(.agg ⟨flat [(32, (List.replicate 32 (0 : UInt8)).map vu8), (1, [(vu64 0)])]⟩), (vi 4)].toArray)) rfl) ?_
  refine WL.q (Wn.no rfl) rfl rfl (R.extract (l := [(.agg ⟨flat [(32, (List.replicate 32 (0 : UInt8)).map vu8), (1, [(vu64 0)])]⟩), (vi 4)]) (v := (.agg ⟨flat [(32, (List.replicate 32 (0 : UInt8)).map vu8), (1, [(vu64 0)])]⟩)) rfl rfl) ?_
  refine WL.q (Wn.no rfl) rfl rfl (R.extract (l := [(.agg ⟨flat [(32, (List.replicate 32 (0 : UInt8)).map vu8), (1, [(vu64 0)])]⟩), (vi 4)]) (v := (vi 4)) rfl rfl) ?_
  refine WL.alloc (segs := [(32, (List.replicate 32 (0 : UInt8)).map vu8), (1, [(vu64 0)])]) h_64 (zv Try.typeInfo51 rfl) rfl (SsOk.cons (SOk.u8 (List.length_replicate ..)) (SsOk.cons (SOk.v rfl) SsOk.nil)) rfl (fun b_65 w_66 h_67 => ?_)
  refine WL.storeA (b := b_65) (off := 0) [] [(32, (List.replicate 32 (0 : UInt8)).map vu8), (1, [(vu64 0)])] [(32, (List.replicate 32 (0 : UInt8)).map vu8), (1, [(vu64 0)])] [] (ys := flat [(32, (List.replicate 32 (0 : UInt8)).map vu8), (1, [(vu64 0)])]) h_67 rfl rfl Try.sizeOf51 At.h (by decide) rfl rfl rfl rfl rfl rfl (SsOk.cons (SOk.u8 (List.length_replicate ..)) (SsOk.cons (SOk.v rfl) SsOk.nil)) (fun w_68 h_69 => ?_)
  refine WL.q (Wn.no rfl) rfl rfl (R.assign (v := (vi 4)) rfl) ?_
  refine WL.nil ?_
  refine thn_n ?_
  refine WP.seq ?_
  refine WP.reg ?_
  refine WL.q (Wn.no rfl) rfl rfl (R.move (v := (vi 0)) rfl) ?_
  refine WL.call (al := [(vi 0)]) Try.call21 rfl rfl (c_num10 0 (by omega) _ ) rfl ?_
  rintro _ w_71 ⟨rfl, hc_70⟩
  have h_72 := h_69.same hc_70
  refine WL.q (Wn.no rfl) rfl rfl (R.bin (v := (.bool false)) rfl rfl (bi_neq (r := false) (by decide))) ?_
  refine WL.q (Wn.no rfl) rfl rfl (R.move (v := (.bool false)) rfl) ?_
  refine WL.want rfl rfl ?_
  refine WL.q (Wn.no rfl) rfl rfl (R.loadA (b := b_57) (off := 0) [] [(1, [(vu64 (wordB (recB pc rg run) 1))]), (8, (rcR (recB pc rg run)).map vu64), (1, [(.bool (decide ((recB pc rg run).getD 80 0 = 1)))])] [] (cs := flat [(1, [(vu64 (wordB (recB pc rg run) 1))]), (8, (rcR (recB pc rg run)).map vu64), (1, [(.bool (decide ((recB pc rg run).getD 80 0 = 1)))])]) rfl Try.isAgg45 Try.sizeOf45 (h_72.ok _ (.tail _ (.head _))) rfl rfl rfl rfl) ?_
  refine WL.want rfl rfl ?_
  refine WL.q (Wn.no rfl) rfl rfl (R.loadA (b := b_4) (off := 0) [] [(1, [(vu64 pc)]), (8, rg.map vu64), (1, [(.bool run)])] [] (cs := flat [(1, [(vu64 pc)]), (8, rg.map vu64), (1, [(.bool run)])]) rfl Try.isAgg45 Try.sizeOf45 (h_72.ok _ (.tail _ (.tail _ (.tail _ (.tail _ (.tail _ (.head _))))))) rfl rfl rfl rfl) ?_
  refine WL.want rfl rfl ?_
  refine WL.q (Wn.no rfl) rfl rfl (R.neA (xs := flat [(1, [(vu64 (wordB (recB pc rg run) 1))]), (8, (rcR (recB pc rg run)).map vu64), (1, [(.bool (decide ((recB pc rg run).getD 80 0 = 1)))])]) (ys := flat [(1, [(vu64 pc)]), (8, rg.map vu64), (1, [(.bool run)])]) (r := false) rfl rfl Try.eqGuardType45 kt45 (by decide) ag45 (Typ.struct (h := 2) (r := [(1, [(vu64 (wordB (recB pc rg run) 1))]), (8, (rcR (recB pc rg run)).map vu64), (1, [(.bool (decide ((recB pc rg run).getD 80 0 = 1)))])]) (cs := flat [(1, [(vu64 (wordB (recB pc rg run) 1))]), (8, (rcR (recB pc rg run)).map vu64), (1, [(.bool (decide ((recB pc rg run).getD 80 0 = 1)))])]) Try.underlying45 (TypF.cons (k := 1) rfl rfl (by decide) rfl (Typ.int Try.underlying22 ce22 (wfu64 (wordB (recB pc rg run) 1))) (TypF.cons (k := 8) rfl rfl (by decide) (len_map (rfl : List.length (rcR (recB pc rg run)) = 8)) (Typ.u64s Try.underlying23 ce23 Try.underlying22 ce22 (rfl : List.length (rcR (recB pc rg run)) = 8)) (TypF.cons (k := 1) rfl rfl (by decide) rfl (Typ.bool Try.underlying4 ce4) TypF.nil))) rfl (((SsOk.cons (SOk.v rfl) (SsOk.cons (SOk.u64 (rfl : List.length (rcR (recB pc rg run)) = 8)) (SsOk.cons (SOk.v rfl) SsOk.nil)))).len.trans ce45.symm)) (Typ.struct (h := 2) (r := [(1, [(vu64 pc)]), (8, rg.map vu64), (1, [(.bool run)])]) (cs := flat [(1, [(vu64 pc)]), (8, rg.map vu64), (1, [(.bool run)])]) Try.underlying45 (TypF.cons (k := 1) rfl rfl (by decide) rfl (Typ.int Try.underlying22 ce22 (wfu64 pc)) (TypF.cons (k := 8) rfl rfl (by decide) (len_map hrg) (Typ.u64s Try.underlying23 ce23 Try.underlying22 ce22 hrg) (TypF.cons (k := 1) rfl rfl (by decide) rfl (Typ.bool Try.underlying4 ce4) TypF.nil))) rfl (((SsOk.cons (SOk.v rfl) (SsOk.cons (SOk.u64 hrg) (SsOk.cons (SOk.v rfl) SsOk.nil)))).len.trans ce45.symm)) (neT (by rw [rec_pc, rec_rg hrg, rec_run]))) ?_
  refine WL.q (Wn.no rfl) rfl rfl (R.pickF (v := (.bool false)) rfl rfl) ?_
  refine WL.q (Wn.no rfl) rfl rfl (R.move (v := (.bool false)) rfl) ?_
  refine WL.want rfl rfl ?_
  refine WL.q (Wn.no rfl) rfl rfl (R.move (v := (vi 4)) rfl) ?_
  refine WL.want rfl rfl ?_
  refine WL.call (al := [(vi 4)]) Try.call21 rfl rfl (c_num10 4 (by omega) _ ) rfl ?_
  rintro _ w_74 ⟨rfl, hc_73⟩
  have h_75 := h_72.same hc_73
  refine WL.want rfl rfl ?_
  refine WL.q (Wn.no rfl) rfl rfl (R.bin (v := (.bool false)) rfl rfl (bi_neq (r := false) (by decide))) ?_
  refine WL.q (Wn.no rfl) rfl rfl (R.pickF (v := (.bool false)) rfl rfl) ?_
  refine WL.q (Wn.no rfl) rfl rfl (R.move (v := (.bool false)) rfl) ?_
  refine WL.want rfl rfl ?_
  refine WL.q (Wn.no rfl) rfl rfl (R.loadA (b := b_13) (off := 0) [] [(128, (recB pc rg run).map vu8)] [] (cs := (recB pc rg run).map vu8) rfl Try.isAgg53 Try.sizeOf53 (h_75.ok _ (.tail _ (.tail _ (.tail _ (.tail _ (.head _)))))) rfl rfl rfl rfl) ?_
  refine WL.want rfl rfl ?_
  refine WL.call (al := [(.agg ⟨(recB pc rg run).map vu8⟩)]) Try.call35 rfl rfl (c_Kind_c (recB pc rg run) (recB_len ..) (rec_no pc rg run) (rec_ok hrg h2) _ ) rfl ?_
  rintro _ w_77 ⟨rfl, hc_76⟩
  have h_78 := h_75.same hc_76
  refine WL.want rfl rfl ?_
  refine WL.q (Wn.no rfl) rfl rfl (R.neStr (a := ([114, 101, 99] : List UInt8)) (b := ([114, 101, 99] : List UInt8)) (r := false) rfl rfl (by simp)) ?_
  refine WL.q (Wn.no rfl) rfl rfl (R.pickF (v := (.bool false)) rfl rfl) ?_
  refine WL.nil ?_
  refine thn_n ?_
  refine WP.condF rfl ?_
  refine WP.skip ?_
  refine thn_n ?_
  refine WP.seq ?_
  refine WP.reg ?_
  refine WL.q (Wn.no rfl) rfl rfl (R.assign (v := (.bool true)) rfl) ?_
  refine WL.nil ?_
  refine thn_n ?_
  refine WP.ret ?_
  refine ret_of Try.results11 (RV.tmp (v := (.bool true)) rfl RV.nil) ?_
  exact ⟨rfl, h_78.chgS⟩

theorem w_ParamsBack_tf (vl : List UInt8) (hvl : vl.length = 32) (nd : UInt64) (pc : UInt64) (rg : List UInt64) (hrg : rg.length = 8) (run : Bool) (h1 : mayRealm nd = true) (h2 : mayRec pc = false) (w : World) :
    Cs Try.prog 11 [(.agg ⟨flat [(32, vl.map vu8), (1, [(vu64 nd)])]⟩), (.agg ⟨flat [(1, [(vu64 pc)]), (8, rg.map vu64), (1, [(.bool run)])]⟩)].toArray w (fun v w1 => v = .bool true ∧ Chg w w1 []) := by
  refine Cs.of (n := 89) (args := [(.agg ⟨flat [(32, vl.map vu8), (1, [(vu64 nd)])]⟩), (.agg ⟨flat [(1, [(vu64 pc)]), (8, rg.map vu64), (1, [(.bool run)])]⟩)]) Try.func11 rfl rfl rfl ?_
  have h_0 := HP.init w
  refine WP.seq ?_
  refine WP.reg ?_
  refine WL.box (v := (.agg ⟨flat [(32, vl.map vu8), (1, [(vu64 nd)])]⟩)) (segs := [(32, vl.map vu8), (1, [(vu64 nd)])]) h_0 rfl rfl (SsOk.cons (SOk.u8 hvl) (SsOk.cons (SOk.v rfl) SsOk.nil)) rfl (fun b_1 w_2 h_3 => ?_)
  refine WL.box (v := (.agg ⟨flat [(1, [(vu64 pc)]), (8, rg.map vu64), (1, [(.bool run)])]⟩)) (segs := [(1, [(vu64 pc)]), (8, rg.map vu64), (1, [(.bool run)])]) h_3 rfl rfl (SsOk.cons (SOk.v rfl) (SsOk.cons (SOk.u64 hrg) (SsOk.cons (SOk.v rfl) SsOk.nil))) rfl (fun b_4 w_5 h_6 => ?_)
  refine WL.q (Wn.no rfl) rfl rfl (R.assign (v := (.bool false)) rfl) ?_
  refine WL.nil ?_
  refine thn_n ?_
  refine WP.seq ?_
  refine WP.seq ?_
  refine WP.reg ?_
  refine WL.call (al := []) Try.call22 rfl rfl (c_known  _ ) rfl ?_
  rintro _ w_8 ⟨rfl, hc_7⟩
  have h_9 := h_6.same hc_7
  refine WL.q (Wn.no rfl) rfl rfl (R.not (b := true) rfl) ?_
  refine WL.nil ?_
  refine thn_n ?_
  refine WP.condF rfl ?_
  refine WP.skip ?_
  refine thn_n ?_
  refine WP.seq ?_
  refine WP.reg ?_
  refine WL.q (Wn.no rfl) rfl rfl (R.loadA (b := b_1) (off := 0) [] [(32, vl.map vu8), (1, [(vu64 nd)])] [] (cs := flat [(32, vl.map vu8), (1, [(vu64 nd)])]) rfl Try.isAgg51 Try.sizeOf51 (h_9.ok _ (.tail _ (.head _))) rfl rfl rfl rfl) ?_
  refine WL.call (al := [(.agg ⟨flat [(32, vl.map vu8), (1, [(vu64 nd)])]⟩)]) Try.call18 rfl rfl (c_RealmBytes_t vl hvl nd h1 _ ) rfl ?_
  rintro _ w_11 ⟨rfl, hc_10⟩
  have h_12 := h_9.same hc_10
  refine WL.q (Wn.no rfl) rfl rfl (R.move (v := (.tuple [(.agg ⟨(realmB vl nd).map vu8⟩), (vi 0)].toArray)) rfl) ?_
  refine WL.q (Wn.no rfl) rfl rfl (R.extract (l := [(.agg ⟨(realmB vl nd).map vu8⟩), (vi 0)]) (v := (.agg ⟨(realmB vl nd).map vu8⟩)) rfl rfl) ?_
  refine WL.q (Wn.no rfl) rfl rfl (R.extract (l := [(.agg ⟨(realmB vl nd).map vu8⟩), (vi 0)]) (v := (vi 0)) rfl rfl) ?_
  refine WL.alloc (segs := [(128, (List.replicate 128 (0 : UInt8)).map vu8)]) h_12 (zv Try.typeInfo53 rfl) rfl (SsOk.cons (SOk.u8 (List.length_replicate ..)) SsOk.nil) rfl (fun b_13 w_14 h_15 => ?_)
  refine WL.storeA (b := b_13) (off := 0) [] [(128, (List.replicate 128 (0 : UInt8)).map vu8)] [(128, (realmB vl nd).map vu8)] [] (ys := (realmB vl nd).map vu8) h_15 rfl rfl Try.sizeOf53 At.h (by decide) rfl rfl rfl rfl rfl rfl (SsOk.cons (SOk.u8 (realmB_len hvl)) SsOk.nil) (fun w_16 h_17 => ?_)
  refine WL.q (Wn.no rfl) rfl rfl (R.assign (v := (vi 0)) rfl) ?_
  refine WL.nil ?_
  refine thn_n ?_
  refine WP.seq ?_
  refine WP.seq ?_
  refine WP.reg ?_
  refine WL.q (Wn.no rfl) rfl rfl (R.move (v := (vi 0)) rfl) ?_
  refine WL.call (al := [(vi 0)]) Try.call21 rfl rfl (c_num10 0 (by omega) _ ) rfl ?_
  rintro _ w_19 ⟨rfl, hc_18⟩
  have h_20 := h_17.same hc_18
  refine WL.q (Wn.no rfl) rfl rfl (R.bin (v := (.bool true)) rfl rfl (bi_eql (r := true) (by decide))) ?_
  refine WL.nil ?_
  refine thn_n ?_
  refine WP.condT rfl ?_
  refine WP.seq ?_
  refine WP.reg ?_
  refine WL.q (Wn.no rfl) rfl rfl (R.loadA (b := b_13) (off := 0) [] [(128, (realmB vl nd).map vu8)] [] (cs := (realmB vl nd).map vu8) rfl Try.isAgg53 Try.sizeOf53 (h_20.ok _ (.head _)) rfl rfl rfl rfl) ?_
  refine WL.call (al := [(.agg ⟨(realmB vl nd).map vu8⟩)]) Try.call32 rfl rfl (c_Realm_t (realmB vl nd) (realmB_len hvl) (realm_ok hvl h1) _ ) rfl ?_
  rintro _ w_22 ⟨rfl, hc_21⟩
  have h_23 := h_20.same hc_21
  refine WL.q (Wn.no rfl) rfl rfl (R.move (v := (.tuple [(.agg ⟨flat [(32, (rlV (realmB vl nd)).map vu8), (1, [(vu64 (wordB (realmB vl nd) 5))])]⟩), (vi 0)].toArray)) rfl) ?_
  refine WL.q (Wn.no rfl) rfl rfl (R.extract (l := [(.agg ⟨flat [(32, (rlV (realmB vl nd)).map vu8), (1, [(vu64 (wordB (realmB vl nd) 5))])]⟩), (vi 0)]) (v := (.agg ⟨flat [(32, (rlV (realmB vl nd)).map vu8), (1, [(vu64 (wordB (realmB vl nd) 5))])]⟩)) rfl rfl) ?_
  refine WL.q (Wn.no rfl) rfl rfl (R.extract (l := [(.agg ⟨flat [(32, (rlV (realmB vl nd)).map vu8), (1, [(vu64 (wordB (realmB vl nd) 5))])]⟩), (vi 0)]) (v := (vi 0)) rfl rfl) ?_
  refine WL.alloc (segs := [(32, (List.replicate 32 (0 : UInt8)).map vu8), (1, [(vu64 0)])]) h_23 (zv Try.typeInfo51 rfl) rfl (SsOk.cons (SOk.u8 (List.length_replicate ..)) (SsOk.cons (SOk.v rfl) SsOk.nil)) rfl (fun b_24 w_25 h_26 => ?_)
  refine WL.storeA (b := b_24) (off := 0) [] [(32, (List.replicate 32 (0 : UInt8)).map vu8), (1, [(vu64 0)])] [(32, (rlV (realmB vl nd)).map vu8), (1, [(vu64 (wordB (realmB vl nd) 5))])] [] (ys := flat [(32, (rlV (realmB vl nd)).map vu8), (1, [(vu64 (wordB (realmB vl nd) 5))])]) h_26 rfl rfl Try.sizeOf51 At.h (by decide) rfl rfl rfl rfl rfl rfl (SsOk.cons (SOk.u8 (by simp only [rlV, List.length_take, List.length_drop, (realmB_len hvl)]; decide)) (SsOk.cons (SOk.v rfl) SsOk.nil)) (fun w_27 h_28 => ?_)
  refine WL.q (Wn.no rfl) rfl rfl (R.assign (v := (vi 0)) rfl) ?_
  refine WL.nil ?_
  refine thn_n ?_
  refine WP.seq ?_
  refine WP.reg ?_
  refine WL.q (Wn.no rfl) rfl rfl (R.loadA (b := b_13) (off := 0) [] [(128, (realmB vl nd).map vu8)] [] (cs := (realmB vl nd).map vu8) rfl Try.isAgg53 Try.sizeOf53 (h_28.ok _ (.tail _ (.head _))) rfl rfl rfl rfl) ?_
  refine WL.call (al := [(.agg ⟨(realmB vl nd).map vu8⟩)]) Try.call28 rfl rfl (c_Rec_f (realmB vl nd) (realmB_len hvl) (realm_no hvl) _ ) rfl ?_
  rintro _ w_30 ⟨rfl, hc_29⟩
  have h_31 := h_28.same hc_29
  refine WL.q (Wn.no rfl) rfl rfl (R.move (v := (.tuple [(.agg ⟨flat [(1, [(vu64 0)]), (8, (List.replicate 8 (0 : UInt64)).map vu64), (1, [(.bool false)])]⟩), (vi 4)].toArray)) rfl) ?_
  refine WL.q (Wn.no rfl) rfl rfl (R.extract (l := [(.agg ⟨flat [(1, [(vu64 0)]), (8, (List.replicate 8 (0 : UInt64)).map vu64), (1, [(.bool false)])]⟩), (vi 4)]) (v := (.agg ⟨flat [(1, [(vu64 0)]), (8, (List.replicate 8 (0 : UInt64)).map vu64), (1, [(.bool false)])]⟩)) rfl rfl) ?_
  refine WL.q (Wn.no rfl) rfl rfl (R.extract (l := [(.agg ⟨flat [(1, [(vu64 0)]), (8, (List.replicate 8 (0 : UInt64)).map vu64), (1, [(.bool false)])]⟩), (vi 4)]) (v := (vi 4)) rfl rfl) ?_
  refine WL.alloc (segs := [(1, [(vu64 0)]), (8, (List.replicate 8 (0 : UInt64)).map vu64), (1, [(.bool false)])]) h_31 (zv Try.typeInfo45 rfl) rfl (SsOk.cons (SOk.v rfl) (SsOk.cons (SOk.u64 (List.length_replicate ..)) (SsOk.cons (SOk.v rfl) SsOk.nil))) rfl (fun b_32 w_33 h_34 => ?_)
  refine WL.storeA (b := b_32) (off := 0) [] [(1, [(vu64 0)]), (8, (List.replicate 8 (0 : UInt64)).map vu64), (1, [(.bool false)])] [(1, [(vu64 0)]), (8, (List.replicate 8 (0 : UInt64)).map vu64), (1, [(.bool false)])] [] (ys := flat [(1, [(vu64 0)]), (8, (List.replicate 8 (0 : UInt64)).map vu64), (1, [(.bool false)])]) h_34 rfl rfl Try.sizeOf45 At.h (by decide) rfl rfl rfl rfl rfl rfl (SsOk.cons (SOk.v rfl) (SsOk.cons (SOk.u64 (List.length_replicate ..)) (SsOk.cons (SOk.v rfl) SsOk.nil))) (fun w_35 h_36 => ?_)
  refine WL.q (Wn.no rfl) rfl rfl (R.assign (v := (vi 4)) rfl) ?_
  refine WL.nil ?_
  refine thn_n ?_
  refine WP.seq ?_
  refine WP.reg ?_
  refine WL.q (Wn.no rfl) rfl rfl (R.move (v := (vi 0)) rfl) ?_
  refine WL.call (al := [(vi 0)]) Try.call21 rfl rfl (c_num10 0 (by omega) _ ) rfl ?_
  rintro _ w_38 ⟨rfl, hc_37⟩
  have h_39 := h_36.same hc_37
  refine WL.q (Wn.no rfl) rfl rfl (R.bin (v := (.bool false)) rfl rfl (bi_neq (r := false) (by decide))) ?_
  refine WL.q (Wn.no rfl) rfl rfl (R.move (v := (.bool false)) rfl) ?_
  refine WL.want rfl rfl ?_
  refine WL.q (Wn.no rfl) rfl rfl (R.loadA (b := b_24) (off := 0) [] [(32, (rlV (realmB vl nd)).map vu8), (1, [(vu64 (wordB (realmB vl nd) 5))])] [] (cs := flat [(32, (rlV (realmB vl nd)).map vu8), (1, [(vu64 (wordB (realmB vl nd) 5))])]) rfl Try.isAgg51 Try.sizeOf51 (h_39.ok _ (.tail _ (.head _))) rfl rfl rfl rfl) ?_
  refine WL.want rfl rfl ?_
  refine WL.q (Wn.no rfl) rfl rfl (R.loadA (b := b_1) (off := 0) [] [(32, vl.map vu8), (1, [(vu64 nd)])] [] (cs := flat [(32, vl.map vu8), (1, [(vu64 nd)])]) rfl Try.isAgg51 Try.sizeOf51 (h_39.ok _ (.tail _ (.tail _ (.tail _ (.tail _ (.head _)))))) rfl rfl rfl rfl) ?_
  refine WL.want rfl rfl ?_
  refine WL.q (Wn.no rfl) rfl rfl (R.neA (xs := flat [(32, (rlV (realmB vl nd)).map vu8), (1, [(vu64 (wordB (realmB vl nd) 5))])]) (ys := flat [(32, vl.map vu8), (1, [(vu64 nd)])]) (r := false) rfl rfl Try.eqGuardType51 kt51 (by decide) ag51 (Typ.struct (h := 2) (r := [(32, (rlV (realmB vl nd)).map vu8), (1, [(vu64 (wordB (realmB vl nd) 5))])]) (cs := flat [(32, (rlV (realmB vl nd)).map vu8), (1, [(vu64 (wordB (realmB vl nd) 5))])]) Try.underlying51 (TypF.cons (k := 32) rfl rfl (by decide) (len_map (by simp only [rlV, List.length_take, List.length_drop, (realmB_len hvl)]; decide)) (Typ.u8s Try.underlying49 ce49 Try.underlying5 ce5 (by simp only [rlV, List.length_take, List.length_drop, (realmB_len hvl)]; decide)) (TypF.cons (k := 1) rfl rfl (by decide) rfl (Typ.int Try.underlying22 ce22 (wfu64 (wordB (realmB vl nd) 5))) TypF.nil)) rfl (((SsOk.cons (SOk.u8 (by simp only [rlV, List.length_take, List.length_drop, (realmB_len hvl)]; decide)) (SsOk.cons (SOk.v rfl) SsOk.nil))).len.trans ce51.symm)) (Typ.struct (h := 2) (r := [(32, vl.map vu8), (1, [(vu64 nd)])]) (cs := flat [(32, vl.map vu8), (1, [(vu64 nd)])]) Try.underlying51 (TypF.cons (k := 32) rfl rfl (by decide) (len_map hvl) (Typ.u8s Try.underlying49 ce49 Try.underlying5 ce5 hvl) (TypF.cons (k := 1) rfl rfl (by decide) rfl (Typ.int Try.underlying22 ce22 (wfu64 nd)) TypF.nil)) rfl (((SsOk.cons (SOk.u8 hvl) (SsOk.cons (SOk.v rfl) SsOk.nil))).len.trans ce51.symm)) (neT (by rw [realm_vl hvl, realm_nd hvl]))) ?_
  refine WL.q (Wn.no rfl) rfl rfl (R.pickF (v := (.bool false)) rfl rfl) ?_
  refine WL.q (Wn.no rfl) rfl rfl (R.move (v := (.bool false)) rfl) ?_
  refine WL.want rfl rfl ?_
  refine WL.q (Wn.no rfl) rfl rfl (R.move (v := (vi 4)) rfl) ?_
  refine WL.want rfl rfl ?_
  refine WL.call (al := [(vi 4)]) Try.call21 rfl rfl (c_num10 4 (by omega) _ ) rfl ?_
  rintro _ w_41 ⟨rfl, hc_40⟩
  have h_42 := h_39.same hc_40
  refine WL.want rfl rfl ?_
  refine WL.q (Wn.no rfl) rfl rfl (R.bin (v := (.bool false)) rfl rfl (bi_neq (r := false) (by decide))) ?_
  refine WL.q (Wn.no rfl) rfl rfl (R.pickF (v := (.bool false)) rfl rfl) ?_
  refine WL.q (Wn.no rfl) rfl rfl (R.move (v := (.bool false)) rfl) ?_
  refine WL.want rfl rfl ?_
  refine WL.q (Wn.no rfl) rfl rfl (R.loadA (b := b_13) (off := 0) [] [(128, (realmB vl nd).map vu8)] [] (cs := (realmB vl nd).map vu8) rfl Try.isAgg53 Try.sizeOf53 (h_42.ok _ (.tail _ (.tail _ (.head _)))) rfl rfl rfl rfl) ?_
  refine WL.want rfl rfl ?_
  refine WL.call (al := [(.agg ⟨(realmB vl nd).map vu8⟩)]) Try.call35 rfl rfl (c_Kind_r (realmB vl nd) (realmB_len hvl) (realm_ok hvl h1) _ ) rfl ?_
  rintro _ w_44 ⟨rfl, hc_43⟩
  have h_45 := h_42.same hc_43
  refine WL.want rfl rfl ?_
  refine WL.q (Wn.no rfl) rfl rfl (R.neStr (a := ([114, 101, 97, 108, 109] : List UInt8)) (b := ([114, 101, 97, 108, 109] : List UInt8)) (r := false) rfl rfl (by simp)) ?_
  refine WL.q (Wn.no rfl) rfl rfl (R.pickF (v := (.bool false)) rfl rfl) ?_
  refine WL.nil ?_
  refine thn_n ?_
  refine WP.condF rfl ?_
  refine WP.skip ?_
  refine thn_n ?_
  refine WP.seq ?_
  refine WP.reg ?_
  refine WL.q (Wn.no rfl) rfl rfl (R.loadA (b := b_4) (off := 0) [] [(1, [(vu64 pc)]), (8, rg.map vu64), (1, [(.bool run)])] [] (cs := flat [(1, [(vu64 pc)]), (8, rg.map vu64), (1, [(.bool run)])]) rfl Try.isAgg45 Try.sizeOf45 (h_45.ok _ (.tail _ (.tail _ (.tail _ (.head _))))) rfl rfl rfl rfl) ?_
  refine WL.call (al := [(.agg ⟨flat [(1, [(vu64 pc)]), (8, rg.map vu64), (1, [(.bool run)])]⟩)]) Try.call24 rfl rfl (c_RecBytes_f pc rg hrg run h2 _ ) rfl ?_
  rintro _ w_47 ⟨rfl, hc_46⟩
  have h_48 := h_45.same hc_46
  refine WL.q (Wn.no rfl) rfl rfl (R.move (v := (.tuple [(.agg ⟨(List.replicate 128 (0 : UInt8)).map vu8⟩), (vi 2)].toArray)) rfl) ?_
  refine WL.q (Wn.no rfl) rfl rfl (R.extract (l := [(.agg ⟨(List.replicate 128 (0 : UInt8)).map vu8⟩), (vi 2)]) (v := (.agg ⟨(List.replicate 128 (0 : UInt8)).map vu8⟩)) rfl rfl) ?_
  refine WL.q (Wn.no rfl) rfl rfl (R.extract (l := [(.agg ⟨(List.replicate 128 (0 : UInt8)).map vu8⟩), (vi 2)]) (v := (vi 2)) rfl rfl) ?_
  refine WL.storeA (b := b_13) (off := 0) [] [(128, (realmB vl nd).map vu8)] [(128, (List.replicate 128 (0 : UInt8)).map vu8)] [] (ys := (List.replicate 128 (0 : UInt8)).map vu8) h_48 rfl rfl Try.sizeOf53 (At.t (At.t At.h)) (by decide) rfl rfl rfl rfl rfl rfl (SsOk.cons (SOk.u8 (List.length_replicate ..)) SsOk.nil) (fun w_49 h_50 => ?_)
  refine WL.q (Wn.no rfl) rfl rfl (R.assign (v := (vi 2)) rfl) ?_
  refine WL.nil ?_
  refine thn_n ?_
  refine WP.seq ?_
  refine WP.seq ?_
  refine WP.reg ?_
  refine WL.q (Wn.no rfl) rfl rfl (R.move (v := (vi 2)) rfl) ?_
  refine WL.call (al := [(vi 2)]) Try.call21 rfl rfl (c_num10 2 (by omega) _ ) rfl ?_
  rintro _ w_52 ⟨rfl, hc_51⟩
  have h_53 := h_50.same hc_51
  refine WL.q (Wn.no rfl) rfl rfl (R.bin (v := (.bool false)) rfl rfl (bi_eql (r := false) (by decide))) ?_
  refine WL.nil ?_
  refine thn_n ?_
  refine WP.condF rfl ?_
  refine WP.skip ?_
  refine thn_n ?_
  refine WP.seq ?_
  refine WP.reg ?_
  refine WL.q (Wn.no rfl) rfl rfl (R.assign (v := (.bool true)) rfl) ?_
  refine WL.nil ?_
  refine thn_n ?_
  refine WP.ret ?_
  refine ret_of Try.results11 (RV.tmp (v := (.bool true)) rfl RV.nil) ?_
  exact ⟨rfl, h_53.chgS⟩

theorem w_ParamsBack_ft (vl : List UInt8) (hvl : vl.length = 32) (nd : UInt64) (pc : UInt64) (rg : List UInt64) (hrg : rg.length = 8) (run : Bool) (h1 : mayRealm nd = false) (h2 : mayRec pc = true) (w : World) :
    Cs Try.prog 11 [(.agg ⟨flat [(32, vl.map vu8), (1, [(vu64 nd)])]⟩), (.agg ⟨flat [(1, [(vu64 pc)]), (8, rg.map vu64), (1, [(.bool run)])]⟩)].toArray w (fun v w1 => v = .bool true ∧ Chg w w1 []) := by
  refine Cs.of (n := 89) (args := [(.agg ⟨flat [(32, vl.map vu8), (1, [(vu64 nd)])]⟩), (.agg ⟨flat [(1, [(vu64 pc)]), (8, rg.map vu64), (1, [(.bool run)])]⟩)]) Try.func11 rfl rfl rfl ?_
  have h_0 := HP.init w
  refine WP.seq ?_
  refine WP.reg ?_
  refine WL.box (v := (.agg ⟨flat [(32, vl.map vu8), (1, [(vu64 nd)])]⟩)) (segs := [(32, vl.map vu8), (1, [(vu64 nd)])]) h_0 rfl rfl (SsOk.cons (SOk.u8 hvl) (SsOk.cons (SOk.v rfl) SsOk.nil)) rfl (fun b_1 w_2 h_3 => ?_)
  refine WL.box (v := (.agg ⟨flat [(1, [(vu64 pc)]), (8, rg.map vu64), (1, [(.bool run)])]⟩)) (segs := [(1, [(vu64 pc)]), (8, rg.map vu64), (1, [(.bool run)])]) h_3 rfl rfl (SsOk.cons (SOk.v rfl) (SsOk.cons (SOk.u64 hrg) (SsOk.cons (SOk.v rfl) SsOk.nil))) rfl (fun b_4 w_5 h_6 => ?_)
  refine WL.q (Wn.no rfl) rfl rfl (R.assign (v := (.bool false)) rfl) ?_
  refine WL.nil ?_
  refine thn_n ?_
  refine WP.seq ?_
  refine WP.seq ?_
  refine WP.reg ?_
  refine WL.call (al := []) Try.call22 rfl rfl (c_known  _ ) rfl ?_
  rintro _ w_8 ⟨rfl, hc_7⟩
  have h_9 := h_6.same hc_7
  refine WL.q (Wn.no rfl) rfl rfl (R.not (b := true) rfl) ?_
  refine WL.nil ?_
  refine thn_n ?_
  refine WP.condF rfl ?_
  refine WP.skip ?_
  refine thn_n ?_
  refine WP.seq ?_
  refine WP.reg ?_
  refine WL.q (Wn.no rfl) rfl rfl (R.loadA (b := b_1) (off := 0) [] [(32, vl.map vu8), (1, [(vu64 nd)])] [] (cs := flat [(32, vl.map vu8), (1, [(vu64 nd)])]) rfl Try.isAgg51 Try.sizeOf51 (h_9.ok _ (.tail _ (.head _))) rfl rfl rfl rfl) ?_
  refine WL.call (al := [(.agg ⟨flat [(32, vl.map vu8), (1, [(vu64 nd)])]⟩)]) Try.call18 rfl rfl (c_RealmBytes_f vl hvl nd h1 _ ) rfl ?_
  rintro _ w_11 ⟨rfl, hc_10⟩
  have h_12 := h_9.same hc_10
  refine WL.q (Wn.no rfl) rfl rfl (R.move (v := (.tuple [(.agg ⟨(List.replicate 128 (0 : UInt8)).map vu8⟩), (vi 2)].toArray)) rfl) ?_
  refine WL.q (Wn.no rfl) rfl rfl (R.extract (l := [(.agg ⟨(List.replicate 128 (0 : UInt8)).map vu8⟩), (vi 2)]) (v := (.agg ⟨(List.replicate 128 (0 : UInt8)).map vu8⟩)) rfl rfl) ?_
  refine WL.q (Wn.no rfl) rfl rfl (R.extract (l := [(.agg ⟨(List.replicate 128 (0 : UInt8)).map vu8⟩), (vi 2)]) (v := (vi 2)) rfl rfl) ?_
  refine WL.alloc (segs := [(128, (List.replicate 128 (0 : UInt8)).map vu8)]) h_12 (zv Try.typeInfo53 rfl) rfl (SsOk.cons (SOk.u8 (List.length_replicate ..)) SsOk.nil) rfl (fun b_13 w_14 h_15 => ?_)
  refine WL.storeA (b := b_13) (off := 0) [] [(128, (List.replicate 128 (0 : UInt8)).map vu8)] [(128, (List.replicate 128 (0 : UInt8)).map vu8)] [] (ys := (List.replicate 128 (0 : UInt8)).map vu8) h_15 rfl rfl Try.sizeOf53 At.h (by decide) rfl rfl rfl rfl rfl rfl (SsOk.cons (SOk.u8 (List.length_replicate ..)) SsOk.nil) (fun w_16 h_17 => ?_)
  refine WL.q (Wn.no rfl) rfl rfl (R.assign (v := (vi 2)) rfl) ?_
  refine WL.nil ?_
  refine thn_n ?_
  refine WP.seq ?_
  refine WP.seq ?_
  refine WP.reg ?_
  refine WL.q (Wn.no rfl) rfl rfl (R.move (v := (vi 2)) rfl) ?_
  refine WL.call (al := [(vi 2)]) Try.call21 rfl rfl (c_num10 2 (by omega) _ ) rfl ?_
  rintro _ w_19 ⟨rfl, hc_18⟩
  have h_20 := h_17.same hc_18
  refine WL.q (Wn.no rfl) rfl rfl (R.bin (v := (.bool false)) rfl rfl (bi_eql (r := false) (by decide))) ?_
  refine WL.nil ?_
  refine thn_n ?_
  refine WP.condF rfl ?_
  refine WP.skip ?_
  refine thn_n ?_
  refine WP.seq ?_
  refine WP.reg ?_
  refine WL.q (Wn.no rfl) rfl rfl (R.loadA (b := b_4) (off := 0) [] [(1, [(vu64 pc)]), (8, rg.map vu64), (1, [(.bool run)])] [] (cs := flat [(1, [(vu64 pc)]), (8, rg.map vu64), (1, [(.bool run)])]) rfl Try.isAgg45 Try.sizeOf45 (h_20.ok _ (.tail _ (.head _))) rfl rfl rfl rfl) ?_
  refine WL.call (al := [(.agg ⟨flat [(1, [(vu64 pc)]), (8, rg.map vu64), (1, [(.bool run)])]⟩)]) Try.call24 rfl rfl (c_RecBytes_t pc rg hrg run h2 _ ) rfl ?_
  rintro _ w_22 ⟨rfl, hc_21⟩
  have h_23 := h_20.same hc_21
  refine WL.q (Wn.no rfl) rfl rfl (R.move (v := (.tuple [(.agg ⟨(recB pc rg run).map vu8⟩), (vi 0)].toArray)) rfl) ?_
  refine WL.q (Wn.no rfl) rfl rfl (R.extract (l := [(.agg ⟨(recB pc rg run).map vu8⟩), (vi 0)]) (v := (.agg ⟨(recB pc rg run).map vu8⟩)) rfl rfl) ?_
  refine WL.q (Wn.no rfl) rfl rfl (R.extract (l := [(.agg ⟨(recB pc rg run).map vu8⟩), (vi 0)]) (v := (vi 0)) rfl rfl) ?_
  refine WL.storeA (b := b_13) (off := 0) [] [(128, (List.replicate 128 (0 : UInt8)).map vu8)] [(128, (recB pc rg run).map vu8)] [] (ys := (recB pc rg run).map vu8) h_23 rfl rfl Try.sizeOf53 At.h (by decide) rfl rfl rfl rfl rfl rfl (SsOk.cons (SOk.u8 (recB_len ..)) SsOk.nil) (fun w_24 h_25 => ?_)
  refine WL.q (Wn.no rfl) rfl rfl (R.assign (v := (vi 0)) rfl) ?_
  refine WL.nil ?_
  refine thn_n ?_
  refine WP.seq ?_
  refine WP.seq ?_
  refine WP.reg ?_
  refine WL.q (Wn.no rfl) rfl rfl (R.move (v := (vi 0)) rfl) ?_
  refine WL.call (al := [(vi 0)]) Try.call21 rfl rfl (c_num10 0 (by omega) _ ) rfl ?_
  rintro _ w_27 ⟨rfl, hc_26⟩
  have h_28 := h_25.same hc_26
  refine WL.q (Wn.no rfl) rfl rfl (R.bin (v := (.bool true)) rfl rfl (bi_eql (r := true) (by decide))) ?_
  refine WL.nil ?_
  refine thn_n ?_
  refine WP.condT rfl ?_
  refine WP.seq ?_
  refine WP.reg ?_
  refine WL.q (Wn.no rfl) rfl rfl (R.loadA (b := b_13) (off := 0) [] [(128, (recB pc rg run).map vu8)] [] (cs := (recB pc rg run).map vu8) rfl Try.isAgg53 Try.sizeOf53 (h_28.ok _ (.head _)) rfl rfl rfl rfl) ?_
  refine WL.call (al := [(.agg ⟨(recB pc rg run).map vu8⟩)]) Try.call28 rfl rfl (c_Rec_t (recB pc rg run) (recB_len ..) (rec_ok hrg h2) _ ) rfl ?_
  rintro _ w_30 ⟨rfl, hc_29⟩
  have h_31 := h_28.same hc_29
  refine WL.q (Wn.no rfl) rfl rfl (R.move (v := (.tuple [(.agg ⟨flat [(1, [(vu64 (wordB (recB pc rg run) 1))]), (8, (rcR (recB pc rg run)).map vu64), (1, [(.bool (decide ((recB pc rg run).getD 80 0 = 1)))])]⟩), (vi 0)].toArray)) rfl) ?_
  refine WL.q (Wn.no rfl) rfl rfl (R.extract (l := [(.agg ⟨flat [(1, [(vu64 (wordB (recB pc rg run) 1))]), (8, (rcR (recB pc rg run)).map vu64), (1, [(.bool (decide ((recB pc rg run).getD 80 0 = 1)))])]⟩), (vi 0)]) (v := (.agg ⟨flat [(1, [(vu64 (wordB (recB pc rg run) 1))]), (8, (rcR (recB pc rg run)).map vu64), (1, [(.bool (decide ((recB pc rg run).getD 80 0 = 1)))])]⟩)) rfl rfl) ?_
  refine WL.q (Wn.no rfl) rfl rfl (R.extract (l := [(.agg ⟨flat [(1, [(vu64 (wordB (recB pc rg run) 1))]), (8, (rcR (recB pc rg run)).map vu64), (1, [(.bool (decide ((recB pc rg run).getD 80 0 = 1)))])]⟩), (vi 0)]) (v := (vi 0)) rfl rfl) ?_
  refine WL.alloc (segs := [(1, [(vu64 0)]), (8, (List.replicate 8 (0 : UInt64)).map vu64), (1, [(.bool false)])]) h_31 (zv Try.typeInfo45 rfl) rfl (SsOk.cons (SOk.v rfl) (SsOk.cons (SOk.u64 (List.length_replicate ..)) (SsOk.cons (SOk.v rfl) SsOk.nil))) rfl (fun b_32 w_33 h_34 => ?_)
  refine WL.storeA (b := b_32) (off := 0) [] [(1, [(vu64 0)]), (8, (List.replicate 8 (0 : UInt64)).map vu64), (1, [(.bool false)])] [(1, [(vu64 (wordB (recB pc rg run) 1))]), (8, (rcR (recB pc rg run)).map vu64), (1, [(.bool (decide ((recB pc rg run).getD 80 0 = 1)))])] [] (ys := flat [(1, [(vu64 (wordB (recB pc rg run) 1))]), (8, (rcR (recB pc rg run)).map vu64), (1, [(.bool (decide ((recB pc rg run).getD 80 0 = 1)))])]) h_34 rfl rfl Try.sizeOf45 At.h (by decide) rfl rfl rfl rfl rfl rfl (SsOk.cons (SOk.v rfl) (SsOk.cons (SOk.u64 (rfl : List.length (rcR (recB pc rg run)) = 8)) (SsOk.cons (SOk.v rfl) SsOk.nil))) (fun w_35 h_36 => ?_)
  refine WL.q (Wn.no rfl) rfl rfl (R.assign (v := (vi 0)) rfl) ?_
  refine WL.nil ?_
  refine thn_n ?_
  refine WP.seq ?_
  refine WP.reg ?_
  refine WL.q (Wn.no rfl) rfl rfl (R.loadA (b := b_13) (off := 0) [] [(128, (recB pc rg run).map vu8)] [] (cs := (recB pc rg run).map vu8) rfl Try.isAgg53 Try.sizeOf53 (h_36.ok _ (.tail _ (.head _))) rfl rfl rfl rfl) ?_
  refine WL.call (al := [(.agg ⟨(recB pc rg run).map vu8⟩)]) Try.call32 rfl rfl (c_Realm_f (recB pc rg run) (recB_len ..) (rec_no pc rg run) _ ) rfl ?_
  rintro _ w_38 ⟨rfl, hc_37⟩
  have h_39 := h_36.same hc_37
  refine WL.q (Wn.no rfl) rfl rfl (R.move (v := (.tuple [(.agg ⟨flat [(32, (List.replicate 32 (0 : UInt8)).map vu8), (1, [(vu64 0)])]⟩), (vi 4)].toArray)) rfl) ?_
  refine WL.q (Wn.no rfl) rfl rfl (R.extract (l := [(.agg ⟨flat [(32, (List.replicate 32 (0 : UInt8)).map vu8), (1, [(vu64 0)])]⟩), (vi 4)]) (v := (.agg ⟨flat [(32, (List.replicate 32 (0 : UInt8)).map vu8), (1, [(vu64 0)])]⟩)) rfl rfl) ?_
  refine WL.q (Wn.no rfl) rfl rfl (R.extract (l := [(.agg ⟨flat [(32, (List.replicate 32 (0 : UInt8)).map vu8), (1, [(vu64 0)])]⟩), (vi 4)]) (v := (vi 4)) rfl rfl) ?_
  refine WL.alloc (segs := [(32, (List.replicate 32 (0 : UInt8)).map vu8), (1, [(vu64 0)])]) h_39 (zv Try.typeInfo51 rfl) rfl (SsOk.cons (SOk.u8 (List.length_replicate ..)) (SsOk.cons (SOk.v rfl) SsOk.nil)) rfl (fun b_40 w_41 h_42 => ?_)
  refine WL.storeA (b := b_40) (off := 0) [] [(32, (List.replicate 32 (0 : UInt8)).map vu8), (1, [(vu64 0)])] [(32, (List.replicate 32 (0 : UInt8)).map vu8), (1, [(vu64 0)])] [] (ys := flat [(32, (List.replicate 32 (0 : UInt8)).map vu8), (1, [(vu64 0)])]) h_42 rfl rfl Try.sizeOf51 At.h (by decide) rfl rfl rfl rfl rfl rfl (SsOk.cons (SOk.u8 (List.length_replicate ..)) (SsOk.cons (SOk.v rfl) SsOk.nil)) (fun w_43 h_44 => ?_)
  refine WL.q (Wn.no rfl) rfl rfl (R.assign (v := (vi 4)) rfl) ?_
  refine WL.nil ?_
  refine thn_n ?_
  refine WP.seq ?_
  refine WP.reg ?_
  refine WL.q (Wn.no rfl) rfl rfl (R.move (v := (vi 0)) rfl) ?_
  refine WL.call (al := [(vi 0)]) Try.call21 rfl rfl (c_num10 0 (by omega) _ ) rfl ?_
  rintro _ w_46 ⟨rfl, hc_45⟩
  have h_47 := h_44.same hc_45
  refine WL.q (Wn.no rfl) rfl rfl (R.bin (v := (.bool false)) rfl rfl (bi_neq (r := false) (by decide))) ?_
  refine WL.q (Wn.no rfl) rfl rfl (R.move (v := (.bool false)) rfl) ?_
  refine WL.want rfl rfl ?_
  refine WL.q (Wn.no rfl) rfl rfl (R.loadA (b := b_32) (off := 0) [] [(1, [(vu64 (wordB (recB pc rg run) 1))]), (8, (rcR (recB pc rg run)).map vu64), (1, [(.bool (decide ((recB pc rg run).getD 80 0 = 1)))])] [] (cs := flat [(1, [(vu64 (wordB (recB pc rg run) 1))]), (8, (rcR (recB pc rg run)).map vu64), (1, [(.bool (decide ((recB pc rg run).getD 80 0 = 1)))])]) rfl Try.isAgg45 Try.sizeOf45 (h_47.ok _ (.tail _ (.head _))) rfl rfl rfl rfl) ?_
  refine WL.want rfl rfl ?_
  refine WL.q (Wn.no rfl) rfl rfl (R.loadA (b := b_4) (off := 0) [] [(1, [(vu64 pc)]), (8, rg.map vu64), (1, [(.bool run)])] [] (cs := flat [(1, [(vu64 pc)]), (8, rg.map vu64), (1, [(.bool run)])]) rfl Try.isAgg45 Try.sizeOf45 (h_47.ok _ (.tail _ (.tail _ (.tail _ (.head _))))) rfl rfl rfl rfl) ?_
  refine WL.want rfl rfl ?_
  refine WL.q (Wn.no rfl) rfl rfl (R.neA (xs := flat [(1, [(vu64 (wordB (recB pc rg run) 1))]), (8, (rcR (recB pc rg run)).map vu64), (1, [(.bool (decide ((recB pc rg run).getD 80 0 = 1)))])]) (ys := flat [(1, [(vu64 pc)]), (8, rg.map vu64), (1, [(.bool run)])]) (r := false) rfl rfl Try.eqGuardType45 kt45 (by decide) ag45 (Typ.struct (h := 2) (r := [(1, [(vu64 (wordB (recB pc rg run) 1))]), (8, (rcR (recB pc rg run)).map vu64), (1, [(.bool (decide ((recB pc rg run).getD 80 0 = 1)))])]) (cs := flat [(1, [(vu64 (wordB (recB pc rg run) 1))]), (8, (rcR (recB pc rg run)).map vu64), (1, [(.bool (decide ((recB pc rg run).getD 80 0 = 1)))])]) Try.underlying45 (TypF.cons (k := 1) rfl rfl (by decide) rfl (Typ.int Try.underlying22 ce22 (wfu64 (wordB (recB pc rg run) 1))) (TypF.cons (k := 8) rfl rfl (by decide) (len_map (rfl : List.length (rcR (recB pc rg run)) = 8)) (Typ.u64s Try.underlying23 ce23 Try.underlying22 ce22 (rfl : List.length (rcR (recB pc rg run)) = 8)) (TypF.cons (k := 1) rfl rfl (by decide) rfl (Typ.bool Try.underlying4 ce4) TypF.nil))) rfl (((SsOk.cons (SOk.v rfl) (SsOk.cons (SOk.u64 (rfl : List.length (rcR (recB pc rg run)) = 8)) (SsOk.cons (SOk.v rfl) SsOk.nil)))).len.trans ce45.symm)) (Typ.struct (h := 2) (r := [(1, [(vu64 pc)]), (8, rg.map vu64), (1, [(.bool run)])]) (cs := flat [(1, [(vu64 pc)]), (8, rg.map vu64), (1, [(.bool run)])]) Try.underlying45 (TypF.cons (k := 1) rfl rfl (by decide) rfl (Typ.int Try.underlying22 ce22 (wfu64 pc)) (TypF.cons (k := 8) rfl rfl (by decide) (len_map hrg) (Typ.u64s Try.underlying23 ce23 Try.underlying22 ce22 hrg) (TypF.cons (k := 1) rfl rfl (by decide) rfl (Typ.bool Try.underlying4 ce4) TypF.nil))) rfl (((SsOk.cons (SOk.v rfl) (SsOk.cons (SOk.u64 hrg) (SsOk.cons (SOk.v rfl) SsOk.nil)))).len.trans ce45.symm)) (neT (by rw [rec_pc, rec_rg hrg, rec_run]))) ?_
  refine WL.q (Wn.no rfl) rfl rfl (R.pickF (v := (.bool false)) rfl rfl) ?_
  refine WL.q (Wn.no rfl) rfl rfl (R.move (v := (.bool false)) rfl) ?_
  refine WL.want rfl rfl ?_
  refine WL.q (Wn.no rfl) rfl rfl (R.move (v := (vi 4)) rfl) ?_
  refine WL.want rfl rfl ?_
  refine WL.call (al := [(vi 4)]) Try.call21 rfl rfl (c_num10 4 (by omega) _ ) rfl ?_
  rintro _ w_49 ⟨rfl, hc_48⟩
  have h_50 := h_47.same hc_48
  refine WL.want rfl rfl ?_
  refine WL.q (Wn.no rfl) rfl rfl (R.bin (v := (.bool false)) rfl rfl (bi_neq (r := false) (by decide))) ?_
  refine WL.q (Wn.no rfl) rfl rfl (R.pickF (v := (.bool false)) rfl rfl) ?_
  refine WL.q (Wn.no rfl) rfl rfl (R.move (v := (.bool false)) rfl) ?_
  refine WL.want rfl rfl ?_
  refine WL.q (Wn.no rfl) rfl rfl (R.loadA (b := b_13) (off := 0) [] [(128, (recB pc rg run).map vu8)] [] (cs := (recB pc rg run).map vu8) rfl Try.isAgg53 Try.sizeOf53 (h_50.ok _ (.tail _ (.tail _ (.head _)))) rfl rfl rfl rfl) ?_
  refine WL.want rfl rfl ?_
  refine WL.call (al := [(.agg ⟨(recB pc rg run).map vu8⟩)]) Try.call35 rfl rfl (c_Kind_c (recB pc rg run) (recB_len ..) (rec_no pc rg run) (rec_ok hrg h2) _ ) rfl ?_
  rintro _ w_52 ⟨rfl, hc_51⟩
  have h_53 := h_50.same hc_51
  refine WL.want rfl rfl ?_
  refine WL.q (Wn.no rfl) rfl rfl (R.neStr (a := ([114, 101, 99] : List UInt8)) (b := ([114, 101, 99] : List UInt8)) (r := false) rfl rfl (by simp)) ?_
  refine WL.q (Wn.no rfl) rfl rfl (R.pickF (v := (.bool false)) rfl rfl) ?_
  refine WL.nil ?_
  refine thn_n ?_
  refine WP.condF rfl ?_
  refine WP.skip ?_
  refine thn_n ?_
  refine WP.seq ?_
  refine WP.reg ?_
  refine WL.q (Wn.no rfl) rfl rfl (R.assign (v := (.bool true)) rfl) ?_
  refine WL.nil ?_
  refine thn_n ?_
  refine WP.ret ?_
  refine ret_of Try.results11 (RV.tmp (v := (.bool true)) rfl RV.nil) ?_
  exact ⟨rfl, h_53.chgS⟩

theorem w_ParamsBack_ff (vl : List UInt8) (hvl : vl.length = 32) (nd : UInt64) (pc : UInt64) (rg : List UInt64) (hrg : rg.length = 8) (run : Bool) (h1 : mayRealm nd = false) (h2 : mayRec pc = false) (w : World) :
    Cs Try.prog 11 [(.agg ⟨flat [(32, vl.map vu8), (1, [(vu64 nd)])]⟩), (.agg ⟨flat [(1, [(vu64 pc)]), (8, rg.map vu64), (1, [(.bool run)])]⟩)].toArray w (fun v w1 => v = .bool true ∧ Chg w w1 []) := by
  refine Cs.of (n := 89) (args := [(.agg ⟨flat [(32, vl.map vu8), (1, [(vu64 nd)])]⟩), (.agg ⟨flat [(1, [(vu64 pc)]), (8, rg.map vu64), (1, [(.bool run)])]⟩)]) Try.func11 rfl rfl rfl ?_
  have h_0 := HP.init w
  refine WP.seq ?_
  refine WP.reg ?_
  refine WL.box (v := (.agg ⟨flat [(32, vl.map vu8), (1, [(vu64 nd)])]⟩)) (segs := [(32, vl.map vu8), (1, [(vu64 nd)])]) h_0 rfl rfl (SsOk.cons (SOk.u8 hvl) (SsOk.cons (SOk.v rfl) SsOk.nil)) rfl (fun b_1 w_2 h_3 => ?_)
  refine WL.box (v := (.agg ⟨flat [(1, [(vu64 pc)]), (8, rg.map vu64), (1, [(.bool run)])]⟩)) (segs := [(1, [(vu64 pc)]), (8, rg.map vu64), (1, [(.bool run)])]) h_3 rfl rfl (SsOk.cons (SOk.v rfl) (SsOk.cons (SOk.u64 hrg) (SsOk.cons (SOk.v rfl) SsOk.nil))) rfl (fun b_4 w_5 h_6 => ?_)
  refine WL.q (Wn.no rfl) rfl rfl (R.assign (v := (.bool false)) rfl) ?_
  refine WL.nil ?_
  refine thn_n ?_
  refine WP.seq ?_
  refine WP.seq ?_
  refine WP.reg ?_
  refine WL.call (al := []) Try.call22 rfl rfl (c_known  _ ) rfl ?_
  rintro _ w_8 ⟨rfl, hc_7⟩
  have h_9 := h_6.same hc_7
  refine WL.q (Wn.no rfl) rfl rfl (R.not (b := true) rfl) ?_
  refine WL.nil ?_
  refine thn_n ?_
  refine WP.condF rfl ?_
  refine WP.skip ?_
  refine thn_n ?_
  refine WP.seq ?_
  refine WP.reg ?_
  refine WL.q (Wn.no rfl) rfl rfl (R.loadA (b := b_1) (off := 0) [] [(32, vl.map vu8), (1, [(vu64 nd)])] [] (cs := flat [(32, vl.map vu8), (1, [(vu64 nd)])]) rfl Try.isAgg51 Try.sizeOf51 (h_9.ok _ (.tail _ (.head _))) rfl rfl rfl rfl) ?_
  refine WL.call (al := [(.agg ⟨flat [(32, vl.map vu8), (1, [(vu64 nd)])]⟩)]) Try.call18 rfl rfl (c_RealmBytes_f vl hvl nd h1 _ ) rfl ?_
  rintro _ w_11 ⟨rfl, hc_10⟩
  have h_12 := h_9.same hc_10
  refine WL.q (Wn.no rfl) rfl rfl (R.move (v := (.tuple [(.agg ⟨(List.replicate 128 (0 : UInt8)).map vu8⟩), (vi 2)].toArray)) rfl) ?_
  refine WL.q (Wn.no rfl) rfl rfl (R.extract (l := [(.agg ⟨(List.replicate 128 (0 : UInt8)).map vu8⟩), (vi 2)]) (v := (.agg ⟨(List.replicate 128 (0 : UInt8)).map vu8⟩)) rfl rfl) ?_
  refine WL.q (Wn.no rfl) rfl rfl (R.extract (l := [(.agg ⟨(List.replicate 128 (0 : UInt8)).map vu8⟩), (vi 2)]) (v := (vi 2)) rfl rfl) ?_
  refine WL.alloc (segs := [(128, (List.replicate 128 (0 : UInt8)).map vu8)]) h_12 (zv Try.typeInfo53 rfl) rfl (SsOk.cons (SOk.u8 (List.length_replicate ..)) SsOk.nil) rfl (fun b_13 w_14 h_15 => ?_)
  refine WL.storeA (b := b_13) (off := 0) [] [(128, (List.replicate 128 (0 : UInt8)).map vu8)] [(128, (List.replicate 128 (0 : UInt8)).map vu8)] [] (ys := (List.replicate 128 (0 : UInt8)).map vu8) h_15 rfl rfl Try.sizeOf53 At.h (by decide) rfl rfl rfl rfl rfl rfl (SsOk.cons (SOk.u8 (List.length_replicate ..)) SsOk.nil) (fun w_16 h_17 => ?_)
  refine WL.q (Wn.no rfl) rfl rfl (R.assign (v := (vi 2)) rfl) ?_
  refine WL.nil ?_
  refine thn_n ?_
  refine WP.seq ?_
  refine WP.seq ?_
  refine WP.reg ?_
  refine WL.q (Wn.no rfl) rfl rfl (R.move (v := (vi 2)) rfl) ?_
  refine WL.call (al := [(vi 2)]) Try.call21 rfl rfl (c_num10 2 (by omega) _ ) rfl ?_
  rintro _ w_19 ⟨rfl, hc_18⟩
  have h_20 := h_17.same hc_18
  refine WL.q (Wn.no rfl) rfl rfl (R.bin (v := (.bool false)) rfl rfl (bi_eql (r := false) (by decide))) ?_
  refine WL.nil ?_
  refine thn_n ?_
  refine WP.condF rfl ?_
  refine WP.skip ?_
  refine thn_n ?_
  refine WP.seq ?_
  refine WP.reg ?_
  refine WL.q (Wn.no rfl) rfl rfl (R.loadA (b := b_4) (off := 0) [] [(1, [(vu64 pc)]), (8, rg.map vu64), (1, [(.bool run)])] [] (cs := flat [(1, [(vu64 pc)]), (8, rg.map vu64), (1, [(.bool run)])]) rfl Try.isAgg45 Try.sizeOf45 (h_20.ok _ (.tail _ (.head _))) rfl rfl rfl rfl) ?_
  refine WL.call (al := [(.agg ⟨flat [(1, [(vu64 pc)]), (8, rg.map vu64), (1, [(.bool run)])]⟩)]) Try.call24 rfl rfl (c_RecBytes_f pc rg hrg run h2 _ ) rfl ?_
  rintro _ w_22 ⟨rfl, hc_21⟩
  have h_23 := h_20.same hc_21
  refine WL.q (Wn.no rfl) rfl rfl (R.move (v := (.tuple [(.agg ⟨(List.replicate 128 (0 : UInt8)).map vu8⟩), (vi 2)].toArray)) rfl) ?_
  refine WL.q (Wn.no rfl) rfl rfl (R.extract (l := [(.agg ⟨(List.replicate 128 (0 : UInt8)).map vu8⟩), (vi 2)]) (v := (.agg ⟨(List.replicate 128 (0 : UInt8)).map vu8⟩)) rfl rfl) ?_
  refine WL.q (Wn.no rfl) rfl rfl (R.extract (l := [(.agg ⟨(List.replicate 128 (0 : UInt8)).map vu8⟩), (vi 2)]) (v := (vi 2)) rfl rfl) ?_
  refine WL.storeA (b := b_13) (off := 0) [] [(128, (List.replicate 128 (0 : UInt8)).map vu8)] [(128, (List.replicate 128 (0 : UInt8)).map vu8)] [] (ys := (List.replicate 128 (0 : UInt8)).map vu8) h_23 rfl rfl Try.sizeOf53 At.h (by decide) rfl rfl rfl rfl rfl rfl (SsOk.cons (SOk.u8 (List.length_replicate ..)) SsOk.nil) (fun w_24 h_25 => ?_)
  refine WL.q (Wn.no rfl) rfl rfl (R.assign (v := (vi 2)) rfl) ?_
  refine WL.nil ?_
  refine thn_n ?_
  refine WP.seq ?_
  refine WP.seq ?_
  refine WP.reg ?_
  refine WL.q (Wn.no rfl) rfl rfl (R.move (v := (vi 2)) rfl) ?_
  refine WL.call (al := [(vi 2)]) Try.call21 rfl rfl (c_num10 2 (by omega) _ ) rfl ?_
  rintro _ w_27 ⟨rfl, hc_26⟩
  have h_28 := h_25.same hc_26
  refine WL.q (Wn.no rfl) rfl rfl (R.bin (v := (.bool false)) rfl rfl (bi_eql (r := false) (by decide))) ?_
  refine WL.nil ?_
  refine thn_n ?_
  refine WP.condF rfl ?_
  refine WP.skip ?_
  refine thn_n ?_
  refine WP.seq ?_
  refine WP.reg ?_
  refine WL.q (Wn.no rfl) rfl rfl (R.assign (v := (.bool true)) rfl) ?_
  refine WL.nil ?_
  refine thn_n ?_
  refine WP.ret ?_
  refine ret_of Try.results11 (RV.tmp (v := (.bool true)) rfl RV.nil) ?_
  exact ⟨rfl, h_28.chgS⟩

theorem w_ParamsBack (vl : List UInt8) (hvl : vl.length = 32) (nd : UInt64) (pc : UInt64) (rg : List UInt64) (hrg : rg.length = 8) (run : Bool) (w : World) : Cs Try.prog 11 [(.agg ⟨flat [(32, vl.map vu8), (1, [(vu64 nd)])]⟩), (.agg ⟨flat [(1, [(vu64 pc)]), (8, rg.map vu64), (1, [(.bool run)])]⟩)].toArray w (fun v w1 => v = .bool true ∧ Chg w w1 []) := by
  rcases Bool.eq_false_or_eq_true (mayRealm nd) with h1 | h1 <;> rcases Bool.eq_false_or_eq_true (mayRec pc) with h2 | h2
  · exact w_ParamsBack_tt vl hvl nd pc rg hrg run h1 h2 w
  · exact w_ParamsBack_tf vl hvl nd pc rg hrg run h1 h2 w
  · exact w_ParamsBack_ft vl hvl nd pc rg hrg run h1 h2 w
  · exact w_ParamsBack_ff vl hvl nd pc rg hrg run h1 h2 w
namespace paramsBackDone
open Go.ChangeShapes Go.WideShapes Go.ChangeAt
theorem own : ownKnob Try.prog.godebug = none := by kernel_rfl
theorem laidOut : laidOutB Try.prog = true := by kernel_rfl
set_option maxRecDepth 100000 in
theorem lifted (os : Os) (started : os.Started) (H : Type) (enc : TypeId × Value → H) :
    ReturnsInHanded {} Try.checked os 11 .any (Rows.paramsBackSpec.pre6 enc Try.prog Try.f11 Rows.paramsBackRow.domain false) (Rows.paramsBackSpec.post enc Try.prog Try.f11 false true false false) := by
  refine returnsInHanded_of_change (C := Try.checked) own started (by kernel_rfl) Try.func11
    (ChangeSpec.witness6 (enc := enc) (C := Try.checked) false ⟨#[], #[.agg #[.int .u8 0, .int .u8 0, .int .u8 0, .int .u8 0, .int .u8 0, .int .u8 0, .int .u8 0, .int .u8 0, .int .u8 0, .int .u8 0, .int .u8 0, .int .u8 0, .int .u8 0, .int .u8 0, .int .u8 0, .int .u8 0, .int .u8 0, .int .u8 0, .int .u8 0, .int .u8 0, .int .u8 0, .int .u8 0, .int .u8 0, .int .u8 0, .int .u8 0, .int .u8 0, .int .u8 0, .int .u8 0, .int .u8 0, .int .u8 0, .int .u8 0, .int .u8 0, .int .u64 0], .agg #[.int .u64 0, .int .u64 0, .int .u64 0, .int .u64 0, .int .u64 0, .int .u64 0, .int .u64 0, .int .u64 0, .int .u64 0, .bool false]], []⟩ 8 (by kernel_rfl) (by kernel_rfl) (by kernel_rfl) (by kernel_rfl)) ?_
  intro W base args ds gs before hval0 hW hcnd _
  have hval : ∀ (j : Nat) t v, Try.f11.params[j]? = some t → args[j]? = some v → Value.okWide Try.prog W .any base t v := hval0
  have hW' := hW
  obtain ⟨p, q, hA0, hV, rfl, hfz, hnd⟩ := hW
  have hA : DataW.TrodAll enc Try.prog W 0 (fun _ => true) true Try.f11.params.toList args.toList ds p := hA0
  rw [Try.params11] at hA hval
  obtain ⟨v0, vs0, d0, ds0, p0, q0, hargs, rfl, rfl, h0, r0⟩ := trodAll_cons hA
  obtain ⟨v1, vs1, d1, ds1, p1, q1, rfl, rfl, rfl, h1, r1⟩ := trodAll_cons r0
  obtain ⟨rfl, rfl, rfl⟩ := trodAll_nil r1
  obtain rfl : args = #[v0, v1] := by cases args; simp_all
  obtain ⟨rfl, rfl⟩ := trodVars_none hV
  have lt0 : ∀ x ∈ p0, x.block < W.heap.size := by obtain ⟨m, hm⟩ := h0; exact DataW.trod_lt m _ _ _ hm
  obtain ⟨cs0, rfl⟩ := okWide_agg aggT51 (hval 0 51 v0 rfl rfl)
  have tr0 : Tr Try.prog W 51 cs0 := Tr.of h0 rfl
  have tl_x0 := Tr.struct (l := [(32, 49), (1, 22)]) Try.underlying51 ce51 (by kernel_rfl) tr0
  obtain ⟨a_x00, r_x00, rfl, n_x00, t_x00, tl_x00⟩ := tl_x0
  obtain ⟨x00, rfl, l_x00⟩ := Tr.arr8 Try.underlying49 ce49 ce5 Try.underlying5 t_x00
  obtain ⟨a_x01, r_x01, rfl, n_x01, t_x01, tl_x01⟩ := tl_x00
  obtain ⟨x01, rfl⟩ := Tr.u64 Try.underlying22 t_x01
  obtain rfl := tl_x01
  have lt1 : ∀ x ∈ p1, x.block < W.heap.size := by obtain ⟨m, hm⟩ := h1; exact DataW.trod_lt m _ _ _ hm
  obtain ⟨cs1, rfl⟩ := okWide_agg aggT45 (hval 1 45 v1 rfl rfl)
  have tr1 : Tr Try.prog W 45 cs1 := Tr.of h1 rfl
  have tl_x1 := Tr.struct (l := [(1, 22), (8, 23), (1, 4)]) Try.underlying45 ce45 (by kernel_rfl) tr1
  obtain ⟨a_x10, r_x10, rfl, n_x10, t_x10, tl_x10⟩ := tl_x1
  obtain ⟨x10, rfl⟩ := Tr.u64 Try.underlying22 t_x10
  obtain ⟨a_x11, r_x11, rfl, n_x11, t_x11, tl_x11⟩ := tl_x10
  obtain ⟨x11, rfl, l_x11⟩ := Tr.arr64 Try.underlying23 ce23 ce22 Try.underlying22 t_x11
  obtain ⟨a_x12, r_x12, rfl, n_x12, t_x12, tl_x12⟩ := tl_x11
  obtain ⟨x12, rfl⟩ := Tr.bool Try.underlying4 t_x12
  obtain rfl := tl_x12
  clear hA0 hval0
  have hw : Cs Try.prog 11 [(.agg ⟨flat [(32, x00.map vu8), (1, [(vu64 x01)])]⟩), (.agg ⟨flat [(1, [(vu64 x10)]), (8, x11.map vu64), (1, [(.bool x12)])]⟩)].toArray W (fun v w1 => v = .bool true ∧ Chg W w1 []) := w_ParamsBack x00 l_x00 x01 x10 x11 l_x11 x12 W
  have ea : ([(.agg ⟨flat [(32, x00.map vu8), (1, [(vu64 x01)])]⟩), (.agg ⟨flat [(1, [(vu64 x10)]), (8, x11.map vu64), (1, [(.bool x12)])]⟩)] : List Value).toArray = (#[.agg ⟨(x00.map vu8 ++ ([vu64 x01] ++ []))⟩, .agg ⟨([vu64 x10] ++ (x11.map vu64 ++ ([.bool x12] ++ [])))⟩] : Array Value) := by simp [flat]
  rw [ea] at hw
  refine Calls.mono (Cs.below hw) fun e W' ⟨he, bel⟩ => ?_
  subst he
  exact ⟨_, rfl, _, _, _, [], _, [], hW', trodAll_mk1 (shut_bool Try.underlying4 _), (trodAll_cons_mk (Below.trod laidOut (by kernel_rfl) (of_decide_eq_true (by kernel_rfl)) h0 bel lt0) (trodAll_cons_mk (Below.trod laidOut (by kernel_rfl) (of_decide_eq_true (by kernel_rfl)) h1 bel lt1) trodAll_mk0)), rfl, bel.frame _, fun h => by cases h⟩
theorem over : Rows.paramsBackRow.holds Try.pinned (OpenSpec.ofChange Rows.paramsBackSpec) :=
  OpenClaim.holds_of_wide 11 Try.f11 rfl rfl rfl rfl rfl rfl rfl ⟨rfl, rfl, rfl, rfl, rfl⟩ rfl rfl rfl rfl rfl (by kernel_rfl) Try.func11 (by kernel_rfl)
    (of_decide_eq_true (by kernel_rfl)) (by unfold Func.isWrapper; first | (rw [if_pos (by decide +kernel)]; kernel_rfl) | (rw [if_neg (by decide +kernel)]; exact ⟨rfl, rfl⟩))
    (fun os started H enc _ => lifted os started H enc)
theorem proved : Rows.ParamsBackSaid := over
end paramsBackDone
end Go.Proofs.Ythkcekgemanfdaa
