/- AttestNil holds of every input. Conditions: none. -/
import Derived.Test.YtnhppjimimhlkaaA4
namespace Go.Proofs.Ytnhppjimimhlkaa
open Go.Vc Go.Orc Go.RowKit
set_option linter.unusedVariables false
set_option linter.unusedSimpArgs false
set_option maxRecDepth 20000

theorem w_AttestNil  (w : World) :
    Cs Try.prog 4 [].toArray w (fun v w1 => v = (.bool true) ∧ Chg w w1 []) := by
  refine Cs.of (n := 88) (args := []) Try.func4 rfl rfl rfl ?_
  have h_0 := HP.init w
  refine WP.seq ?_
  refine WP.reg ?_
  refine WL.q (Wn.no rfl) rfl rfl (R.assign (v := (.bool false)) rfl) ?_
  refine WL.nil ?_
  refine thn_n ?_
  refine WP.seq ?_
  refine WP.reg ?_
  refine WL.q (Wn.no rfl) rfl rfl (R.buildA (vs := []) (cs := (List.replicate 32 (0 : UInt8)).map vu8) Try.underlying23 Try.sizeOf5 (zv Try.typeInfo23 rfl) rfl rfl) ?_
  have h_1 := HP_viewNil h_0
  refine WL.call (al := [(.bool true), (.agg ⟨(List.replicate 32 (0 : UInt8)).map vu8⟩), (.slice none 0 0)]) Try.call17 rfl rfl (c_ONew (List.replicate 32 (0 : UInt8)) ([] : List UInt8) (List.length_replicate ..) none 0 0 (rfl : List.length ([] : List UInt8) = 32 * 0) (by decide) _ h_1) rfl ?_
  rintro _ w_6 ⟨b_2, b_3, a_4, c_5, rfl, h_7⟩
  refine WL.q (Wn.no rfl) rfl rfl (R.assign (v := (.pointer (some ⟨b_2, 0, none⟩))) rfl) ?_
  refine WL.nil ?_
  refine thn_n ?_
  refine WP.seq ?_
  refine WP.reg ?_
  refine WL.call (al := [(.pointer none), (.slice none 0 0)]) Try.call15 rfl rfl (c_Ver_nil none 0 0 _ ) rfl ?_
  rintro _ w_9 ⟨rfl, hc_8⟩
  have h_10 := h_7.same hc_8
  refine WL.q (Wn.no rfl) rfl rfl (R.move (v := (.tuple [(.agg ⟨flat [(1, [(vu64 0)]), (32, (List.replicate 32 (0 : UInt8)).map vu8), (32, (List.replicate 32 (0 : UInt8)).map vu8)]⟩), (.bool false), (vi 1)].toArray)) rfl) ?_
  refine WL.q (Wn.no rfl) rfl rfl (R.extract (l := [(.agg ⟨flat [(1, [(vu64 0)]), (32, (List.replicate 32 (0 : UInt8)).map vu8), (32, (List.replicate 32 (0 : UInt8)).map vu8)]⟩), (.bool false), (vi 1)]) (v := (.agg ⟨flat [(1, [(vu64 0)]), (32, (List.replicate 32 (0 : UInt8)).map vu8), (32, (List.replicate 32 (0 : UInt8)).map vu8)]⟩)) rfl rfl) ?_
  refine WL.q (Wn.no rfl) rfl rfl (R.extract (l := [(.agg ⟨flat [(1, [(vu64 0)]), (32, (List.replicate 32 (0 : UInt8)).map vu8), (32, (List.replicate 32 (0 : UInt8)).map vu8)]⟩), (.bool false), (vi 1)]) (v := (.bool false)) rfl rfl) ?_
  refine WL.q (Wn.no rfl) rfl rfl (R.extract (l := [(.agg ⟨flat [(1, [(vu64 0)]), (32, (List.replicate 32 (0 : UInt8)).map vu8), (32, (List.replicate 32 (0 : UInt8)).map vu8)]⟩), (.bool false), (vi 1)]) (v := (vi 1)) rfl rfl) ?_
  refine WL.alloc (segs := [(1, [(vu64 0)]), (32, (List.replicate 32 (0 : UInt8)).map vu8), (32, (List.replicate 32 (0 : UInt8)).map vu8)]) h_10 (zv Try.typeInfo30 rfl) rfl (SsOk.cons (SOk.v rfl) (SsOk.cons (SOk.u8 (List.length_replicate ..)) (SsOk.cons (SOk.u8 (List.length_replicate ..)) SsOk.nil))) rfl (fun b_11 w_12 h_13 => ?_)
  refine WL.storeA (b := b_11) (off := 0) [] [(1, [(vu64 0)]), (32, (List.replicate 32 (0 : UInt8)).map vu8), (32, (List.replicate 32 (0 : UInt8)).map vu8)] [(1, [(vu64 0)]), (32, (List.replicate 32 (0 : UInt8)).map vu8), (32, (List.replicate 32 (0 : UInt8)).map vu8)] [] (ys := flat [(1, [(vu64 0)]), (32, (List.replicate 32 (0 : UInt8)).map vu8), (32, (List.replicate 32 (0 : UInt8)).map vu8)]) h_13 rfl rfl Try.sizeOf30 At.h (by decide) rfl rfl rfl rfl rfl rfl (SsOk.cons (SOk.v rfl) (SsOk.cons (SOk.u8 (List.length_replicate ..)) (SsOk.cons (SOk.u8 (List.length_replicate ..)) SsOk.nil))) (fun w_14 h_15 => ?_)
  refine WL.q (Wn.no rfl) rfl rfl (R.assign (v := (.bool false)) rfl) ?_
  refine WL.q (Wn.no rfl) rfl rfl (R.assign (v := (vi 1)) rfl) ?_
  refine WL.nil ?_
  refine thn_n ?_
  refine WP.seq ?_
  refine WP.reg ?_
  refine WL.q (Wn.no rfl) rfl rfl (R.buildS (pl := [(0, 1), (1, 32), (33, 1), (34, 1), (35, 1), (36, 1)]) (zs := [(1, [(.bool false)]), (32, (List.replicate 32 (0 : UInt8)).map vu8), (1, [(.slice none 0 0)]), (1, [(vi 0)]), (1, [(.map none)]), (1, [(.slice none 0 0)])]) (vs := []) (out := [(1, [(.bool false)]), (32, (List.replicate 32 (0 : UInt8)).map vu8), (1, [(.slice none 0 0)]), (1, [(vi 0)]), (1, [(.map none)]), (1, [(.slice none 0 0)])]) (cs := flat [(1, [(.bool false)]), (32, (List.replicate 32 (0 : UInt8)).map vu8), (1, [(.slice none 0 0)]), (1, [(vi 0)]), (1, [(.map none)]), (1, [(.slice none 0 0)])]) Try.underlying50 (zv Try.typeInfo50 rfl) rfl (SsOk.cons (SOk.v rfl) (SsOk.cons (SOk.u8 (List.length_replicate ..)) (SsOk.cons (SOk.v rfl) (SsOk.cons (SOk.v rfl) (SsOk.cons (SOk.v rfl) (SsOk.cons (SOk.v rfl) SsOk.nil)))))) (pl50 _ Try.underlying50) rfl FillR.nil rfl) ?_
  refine WL.box (v := (.agg ⟨flat [(1, [(.bool false)]), (32, (List.replicate 32 (0 : UInt8)).map vu8), (1, [(.slice none 0 0)]), (1, [(vi 0)]), (1, [(.map none)]), (1, [(.slice none 0 0)])]⟩)) (segs := [(1, [(.bool false)]), (32, (List.replicate 32 (0 : UInt8)).map vu8), (1, [(.slice none 0 0)]), (1, [(vi 0)]), (1, [(.map none)]), (1, [(.slice none 0 0)])]) h_15 rfl rfl (SsOk.cons (SOk.v rfl) (SsOk.cons (SOk.u8 (List.length_replicate ..)) (SsOk.cons (SOk.v rfl) (SsOk.cons (SOk.v rfl) (SsOk.cons (SOk.v rfl) (SsOk.cons (SOk.v rfl) SsOk.nil)))))) rfl (fun b_17 w_18 h_19 => ?_)
  refine WL.makeSl (m := 112) (i := Try.t5) (z := vu8 0) h_19 rfl rfl Try.underlying37 rfl rfl rfl rfl (by decide) (by decide) rfl (fun b_20 w_21 h_22 => ?_)
  rw [show List.replicate 112 (vu8 0) = (List.replicate 112 (0 : UInt8)).map vu8 from (List.map_replicate ..).symm] at h_22
  refine WL.call (al := [(.pointer (some ⟨b_17, 0, none⟩)), (.slice (some ⟨b_20, 0, none⟩) 112 112)]) Try.call15 rfl rfl (c_Ver_z b_17 (some ⟨b_20, 0, none⟩) 112 112 _ (h_22.argR (.tail _ (.head _)))) rfl ?_
  rintro _ w_25 ⟨rfl, hc_24⟩
  have h_26 := h_22.same hc_24
  refine WL.q (Wn.no rfl) rfl rfl (R.move (v := (.tuple [(.agg ⟨flat [(1, [(vu64 0)]), (32, (List.replicate 32 (0 : UInt8)).map vu8), (32, (List.replicate 32 (0 : UInt8)).map vu8)]⟩), (.bool false), (vi 1)].toArray)) rfl) ?_
  refine WL.q (Wn.no rfl) rfl rfl (R.extract (l := [(.agg ⟨flat [(1, [(vu64 0)]), (32, (List.replicate 32 (0 : UInt8)).map vu8), (32, (List.replicate 32 (0 : UInt8)).map vu8)]⟩), (.bool false), (vi 1)]) (v := (.agg ⟨flat [(1, [(vu64 0)]), (32, (List.replicate 32 (0 : UInt8)).map vu8), (32, (List.replicate 32 (0 : UInt8)).map vu8)]⟩)) rfl rfl) ?_
  refine WL.q (Wn.no rfl) rfl rfl (R.extract (l := [(.agg ⟨flat [(1, [(vu64 0)]), (32, (List.replicate 32 (0 : UInt8)).map vu8), (32, (List.replicate 32 (0 : UInt8)).map vu8)]⟩), (.bool false), (vi 1)]) (v := (.bool false)) rfl rfl) ?_
  refine WL.q (Wn.no rfl) rfl rfl (R.extract (l := [(.agg ⟨flat [(1, [(vu64 0)]), (32, (List.replicate 32 (0 : UInt8)).map vu8), (32, (List.replicate 32 (0 : UInt8)).map vu8)]⟩), (.bool false), (vi 1)]) (v := (vi 1)) rfl rfl) ?_
  refine WL.alloc (segs := [(1, [(vu64 0)]), (32, (List.replicate 32 (0 : UInt8)).map vu8), (32, (List.replicate 32 (0 : UInt8)).map vu8)]) h_26 (zv Try.typeInfo30 rfl) rfl (SsOk.cons (SOk.v rfl) (SsOk.cons (SOk.u8 (List.length_replicate ..)) (SsOk.cons (SOk.u8 (List.length_replicate ..)) SsOk.nil))) rfl (fun b_27 w_28 h_29 => ?_)
  refine WL.storeA (b := b_27) (off := 0) [] [(1, [(vu64 0)]), (32, (List.replicate 32 (0 : UInt8)).map vu8), (32, (List.replicate 32 (0 : UInt8)).map vu8)] [(1, [(vu64 0)]), (32, (List.replicate 32 (0 : UInt8)).map vu8), (32, (List.replicate 32 (0 : UInt8)).map vu8)] [] (ys := flat [(1, [(vu64 0)]), (32, (List.replicate 32 (0 : UInt8)).map vu8), (32, (List.replicate 32 (0 : UInt8)).map vu8)]) h_29 rfl rfl Try.sizeOf30 At.h (by decide) rfl rfl rfl rfl rfl rfl (SsOk.cons (SOk.v rfl) (SsOk.cons (SOk.u8 (List.length_replicate ..)) (SsOk.cons (SOk.u8 (List.length_replicate ..)) SsOk.nil))) (fun w_30 h_31 => ?_)
  refine WL.q (Wn.no rfl) rfl rfl (R.assign (v := (.bool false)) rfl) ?_
  refine WL.q (Wn.no rfl) rfl rfl (R.assign (v := (vi 1)) rfl) ?_
  refine WL.nil ?_
  refine thn_n ?_
  refine WP.seq ?_
  refine WP.reg ?_
  refine WL.q (Wn.no rfl) rfl rfl (R.move (v := (.pointer (some ⟨b_2, 0, none⟩))) rfl) ?_
  refine WL.makeSl (m := 112) (i := Try.t5) (z := vu8 0) h_31 rfl rfl Try.underlying37 rfl rfl rfl rfl (by decide) (by decide) rfl (fun b_32 w_33 h_34 => ?_)
  rw [show List.replicate 112 (vu8 0) = (List.replicate 112 (0 : UInt8)).map vu8 from (List.map_replicate ..).symm] at h_34
  refine WL.call (al := [(.pointer (some ⟨b_2, 0, none⟩)), (.slice (some ⟨b_32, 0, none⟩) 112 112)]) Try.call15 rfl rfl (c_Ver_no b_2 b_3 (List.replicate 32 (0 : UInt8)) (List.length_replicate ..) a_4 0 c_5 0 none 0 0 (some ⟨b_32, 0, none⟩) 112 (List.replicate 112 (0 : UInt8)) (List.length_replicate ..) (h_34.own (.head _)).2.2.1 (by decide +kernel) _ (h_34.argR (.tail _ (.tail _ (.tail _ (.tail _ (.tail _ (.head _))))))) (ownView (h_34.ok _ (.head _)))) rfl ?_
  rintro _ w_37 ⟨rfl, hc_36⟩
  have h_38 := h_34.same hc_36
  refine WL.q (Wn.no rfl) rfl rfl (R.move (v := (.tuple [(.agg ⟨flat [(1, [(vu64 0)]), (32, (List.replicate 32 (0 : UInt8)).map vu8), (32, (List.replicate 32 (0 : UInt8)).map vu8)]⟩), (.bool false), (vi 4)].toArray)) rfl) ?_
  refine WL.q (Wn.no rfl) rfl rfl (R.extract (l := [(.agg ⟨flat [(1, [(vu64 0)]), (32, (List.replicate 32 (0 : UInt8)).map vu8), (32, (List.replicate 32 (0 : UInt8)).map vu8)]⟩), (.bool false), (vi 4)]) (v := (.agg ⟨flat [(1, [(vu64 0)]), (32, (List.replicate 32 (0 : UInt8)).map vu8), (32, (List.replicate 32 (0 : UInt8)).map vu8)]⟩)) rfl rfl) ?_
  refine WL.q (Wn.no rfl) rfl rfl (R.extract (l := [(.agg ⟨flat [(1, [(vu64 0)]), (32, (List.replicate 32 (0 : UInt8)).map vu8), (32, (List.replicate 32 (0 : UInt8)).map vu8)]⟩), (.bool false), (vi 4)]) (v := (.bool false)) rfl rfl) ?_
  refine WL.q (Wn.no rfl) rfl rfl (R.extract (l := [(.agg ⟨flat [(1, [(vu64 0)]), (32, (List.replicate 32 (0 : UInt8)).map vu8), (32, (List.replicate 32 (0 : UInt8)).map vu8)]⟩), (.bool false), (vi 4)]) (v := (vi 4)) rfl rfl) ?_
  refine WL.alloc (segs := [(1, [(vu64 0)]), (32, (List.replicate 32 (0 : UInt8)).map vu8), (32, (List.replicate 32 (0 : UInt8)).map vu8)]) h_38 (zv Try.typeInfo30 rfl) rfl (SsOk.cons (SOk.v rfl) (SsOk.cons (SOk.u8 (List.length_replicate ..)) (SsOk.cons (SOk.u8 (List.length_replicate ..)) SsOk.nil))) rfl (fun b_39 w_40 h_41 => ?_)
  refine WL.storeA (b := b_39) (off := 0) [] [(1, [(vu64 0)]), (32, (List.replicate 32 (0 : UInt8)).map vu8), (32, (List.replicate 32 (0 : UInt8)).map vu8)] [(1, [(vu64 0)]), (32, (List.replicate 32 (0 : UInt8)).map vu8), (32, (List.replicate 32 (0 : UInt8)).map vu8)] [] (ys := flat [(1, [(vu64 0)]), (32, (List.replicate 32 (0 : UInt8)).map vu8), (32, (List.replicate 32 (0 : UInt8)).map vu8)]) h_41 rfl rfl Try.sizeOf30 At.h (by decide) rfl rfl rfl rfl rfl rfl (SsOk.cons (SOk.v rfl) (SsOk.cons (SOk.u8 (List.length_replicate ..)) (SsOk.cons (SOk.u8 (List.length_replicate ..)) SsOk.nil))) (fun w_42 h_43 => ?_)
  refine WL.q (Wn.no rfl) rfl rfl (R.assign (v := (.bool false)) rfl) ?_
  refine WL.q (Wn.no rfl) rfl rfl (R.assign (v := (vi 4)) rfl) ?_
  refine WL.nil ?_
  refine thn_n ?_
  refine WP.seq ?_
  refine WP.reg ?_
  refine WL.call (al := [(.slice none 0 0)]) Try.call18 rfl rfl (c_Spl_len none 0 0 (by decide) _ ) rfl ?_
  rintro _ w_45 ⟨rfl, hc_44⟩
  have h_46 := h_43.same hc_44
  refine WL.q (Wn.no rfl) rfl rfl (R.move (v := (.tuple [(.agg ⟨flat [(1, [(vu64 0)]), (32, (List.replicate 32 (0 : UInt8)).map vu8), (32, (List.replicate 32 (0 : UInt8)).map vu8)]⟩), (.agg ⟨(List.replicate 32 (0 : UInt8)).map vu8⟩), (vi 4)].toArray)) rfl) ?_
  refine WL.q (Wn.no rfl) rfl rfl (R.extract (l := [(.agg ⟨flat [(1, [(vu64 0)]), (32, (List.replicate 32 (0 : UInt8)).map vu8), (32, (List.replicate 32 (0 : UInt8)).map vu8)]⟩), (.agg ⟨(List.replicate 32 (0 : UInt8)).map vu8⟩), (vi 4)]) (v := (.agg ⟨flat [(1, [(vu64 0)]), (32, (List.replicate 32 (0 : UInt8)).map vu8), (32, (List.replicate 32 (0 : UInt8)).map vu8)]⟩)) rfl rfl) ?_
  refine WL.q (Wn.no rfl) rfl rfl (R.extract (l := [(.agg ⟨flat [(1, [(vu64 0)]), (32, (List.replicate 32 (0 : UInt8)).map vu8), (32, (List.replicate 32 (0 : UInt8)).map vu8)]⟩), (.agg ⟨(List.replicate 32 (0 : UInt8)).map vu8⟩), (vi 4)]) (v := (.agg ⟨(List.replicate 32 (0 : UInt8)).map vu8⟩)) rfl rfl) ?_
  refine WL.q (Wn.no rfl) rfl rfl (R.extract (l := [(.agg ⟨flat [(1, [(vu64 0)]), (32, (List.replicate 32 (0 : UInt8)).map vu8), (32, (List.replicate 32 (0 : UInt8)).map vu8)]⟩), (.agg ⟨(List.replicate 32 (0 : UInt8)).map vu8⟩), (vi 4)]) (v := (vi 4)) rfl rfl) ?_
  refine WL.alloc (segs := [(1, [(vu64 0)]), (32, (List.replicate 32 (0 : UInt8)).map vu8), (32, (List.replicate 32 (0 : UInt8)).map vu8)]) h_46 (zv Try.typeInfo30 rfl) rfl (SsOk.cons (SOk.v rfl) (SsOk.cons (SOk.u8 (List.length_replicate ..)) (SsOk.cons (SOk.u8 (List.length_replicate ..)) SsOk.nil))) rfl (fun b_47 w_48 h_49 => ?_)
  refine WL.alloc (segs := [(32, (List.replicate 32 (0 : UInt8)).map vu8)]) h_49 (zv Try.typeInfo23 rfl) rfl (SsOk.cons (SOk.u8 (List.length_replicate ..)) SsOk.nil) rfl (fun b_50 w_51 h_52 => ?_)
  refine WL.storeA (b := b_47) (off := 0) [] [(1, [(vu64 0)]), (32, (List.replicate 32 (0 : UInt8)).map vu8), (32, (List.replicate 32 (0 : UInt8)).map vu8)] [(1, [(vu64 0)]), (32, (List.replicate 32 (0 : UInt8)).map vu8), (32, (List.replicate 32 (0 : UInt8)).map vu8)] [] (ys := flat [(1, [(vu64 0)]), (32, (List.replicate 32 (0 : UInt8)).map vu8), (32, (List.replicate 32 (0 : UInt8)).map vu8)]) h_52 rfl rfl Try.sizeOf30 (At.t At.h) (by decide) rfl rfl rfl rfl rfl rfl (SsOk.cons (SOk.v rfl) (SsOk.cons (SOk.u8 (List.length_replicate ..)) (SsOk.cons (SOk.u8 (List.length_replicate ..)) SsOk.nil))) (fun w_53 h_54 => ?_)
  refine WL.storeA (b := b_50) (off := 0) [] [(32, (List.replicate 32 (0 : UInt8)).map vu8)] [(32, (List.replicate 32 (0 : UInt8)).map vu8)] [] (ys := (List.replicate 32 (0 : UInt8)).map vu8) h_54 rfl rfl Try.sizeOf23 At.h (by decide) rfl rfl rfl rfl rfl rfl (SsOk.cons (SOk.u8 (List.length_replicate ..)) SsOk.nil) (fun w_55 h_56 => ?_)
  refine WL.q (Wn.no rfl) rfl rfl (R.assign (v := (vi 4)) rfl) ?_
  refine WL.nil ?_
  refine thn_n ?_
  refine WP.seq ?_
  refine WP.reg ?_
  refine WL.q (Wn.no rfl) rfl rfl (R.buildS (pl := [(0, 1), (1, 32), (33, 1), (34, 1), (35, 1), (36, 1)]) (zs := [(1, [(.bool false)]), (32, (List.replicate 32 (0 : UInt8)).map vu8), (1, [(.slice none 0 0)]), (1, [(vi 0)]), (1, [(.map none)]), (1, [(.slice none 0 0)])]) (vs := []) (out := [(1, [(.bool false)]), (32, (List.replicate 32 (0 : UInt8)).map vu8), (1, [(.slice none 0 0)]), (1, [(vi 0)]), (1, [(.map none)]), (1, [(.slice none 0 0)])]) (cs := flat [(1, [(.bool false)]), (32, (List.replicate 32 (0 : UInt8)).map vu8), (1, [(.slice none 0 0)]), (1, [(vi 0)]), (1, [(.map none)]), (1, [(.slice none 0 0)])]) Try.underlying50 (zv Try.typeInfo50 rfl) rfl (SsOk.cons (SOk.v rfl) (SsOk.cons (SOk.u8 (List.length_replicate ..)) (SsOk.cons (SOk.v rfl) (SsOk.cons (SOk.v rfl) (SsOk.cons (SOk.v rfl) (SsOk.cons (SOk.v rfl) SsOk.nil)))))) (pl50 _ Try.underlying50) rfl FillR.nil rfl) ?_
  refine WL.box (v := (.agg ⟨flat [(1, [(.bool false)]), (32, (List.replicate 32 (0 : UInt8)).map vu8), (1, [(.slice none 0 0)]), (1, [(vi 0)]), (1, [(.map none)]), (1, [(.slice none 0 0)])]⟩)) (segs := [(1, [(.bool false)]), (32, (List.replicate 32 (0 : UInt8)).map vu8), (1, [(.slice none 0 0)]), (1, [(vi 0)]), (1, [(.map none)]), (1, [(.slice none 0 0)])]) h_56 rfl rfl (SsOk.cons (SOk.v rfl) (SsOk.cons (SOk.u8 (List.length_replicate ..)) (SsOk.cons (SOk.v rfl) (SsOk.cons (SOk.v rfl) (SsOk.cons (SOk.v rfl) (SsOk.cons (SOk.v rfl) SsOk.nil)))))) rfl (fun b_58 w_59 h_60 => ?_)
  refine WL.q (Wn.no rfl) rfl rfl (R.buildS (pl := [(0, 1), (1, 32), (33, 32)]) (zs := [(1, [(vu64 0)]), (32, (List.replicate 32 (0 : UInt8)).map vu8), (32, (List.replicate 32 (0 : UInt8)).map vu8)]) (vs := []) (out := [(1, [(vu64 0)]), (32, (List.replicate 32 (0 : UInt8)).map vu8), (32, (List.replicate 32 (0 : UInt8)).map vu8)]) (cs := flat [(1, [(vu64 0)]), (32, (List.replicate 32 (0 : UInt8)).map vu8), (32, (List.replicate 32 (0 : UInt8)).map vu8)]) Try.underlying30 (zv Try.typeInfo30 rfl) rfl (SsOk.cons (SOk.v rfl) (SsOk.cons (SOk.u8 (List.length_replicate ..)) (SsOk.cons (SOk.u8 (List.length_replicate ..)) SsOk.nil))) (pl30 _ Try.underlying30) rfl FillR.nil rfl) ?_
  refine WL.call (al := [(.pointer (some ⟨b_58, 0, none⟩)), (.agg ⟨flat [(1, [(vu64 0)]), (32, (List.replicate 32 (0 : UInt8)).map vu8), (32, (List.replicate 32 (0 : UInt8)).map vu8)]⟩)]) Try.call13 rfl rfl (c_Iss_z b_58 (0 : UInt64) (List.replicate 32 (0 : UInt8)) (List.replicate 32 (0 : UInt8)) (List.length_replicate ..) (List.length_replicate ..) _ (h_60.argR (.head _))) rfl ?_
  rintro _ w_63 ⟨rfl, hc_62⟩
  have h_64 := h_60.same hc_62
  refine WL.q (Wn.no rfl) rfl rfl (R.move (v := (.tuple [(.slice none 0 0), (vi 1)].toArray)) rfl) ?_
  refine WL.q (Wn.no rfl) rfl rfl (R.extract (l := [(.slice none 0 0), (vi 1)]) (v := (.slice none 0 0)) rfl rfl) ?_
  refine WL.q (Wn.no rfl) rfl rfl (R.extract (l := [(.slice none 0 0), (vi 1)]) (v := (vi 1)) rfl rfl) ?_
  refine WL.q (Wn.no rfl) rfl rfl (R.assign (v := (.slice none 0 0)) rfl) ?_
  refine WL.q (Wn.no rfl) rfl rfl (R.assign (v := (vi 1)) rfl) ?_
  refine WL.nil ?_
  refine thn_n ?_
  refine WP.seq ?_
  refine WP.reg ?_
  refine WL.q (Wn.no rfl) rfl rfl (R.move (v := (.bool false)) rfl) ?_
  refine WL.q (Wn.no rfl) rfl rfl (R.not (b := false) rfl) ?_
  refine WL.q (Wn.no rfl) rfl rfl (R.move (v := (.bool true)) rfl) ?_
  refine WL.want rfl rfl ?_
  refine WL.q (Wn.no rfl) rfl rfl (R.move (v := (.bool false)) rfl) ?_
  refine WL.want rfl rfl ?_
  refine WL.q (Wn.no rfl) rfl rfl (R.not (b := false) rfl) ?_
  refine WL.q (Wn.no rfl) rfl rfl (R.pickT (v := (.bool true)) rfl rfl) ?_
  refine WL.q (Wn.no rfl) rfl rfl (R.move (v := (.bool true)) rfl) ?_
  refine WL.want rfl rfl ?_
  refine WL.q (Wn.no rfl) rfl rfl (R.move (v := (.bool false)) rfl) ?_
  refine WL.want rfl rfl ?_
  refine WL.q (Wn.no rfl) rfl rfl (R.not (b := false) rfl) ?_
  refine WL.q (Wn.no rfl) rfl rfl (R.pickT (v := (.bool true)) rfl rfl) ?_
  refine WL.q (Wn.no rfl) rfl rfl (R.move (v := (.bool true)) rfl) ?_
  refine WL.want rfl rfl ?_
  refine WL.q (Wn.no rfl) rfl rfl (R.move (v := (vi 1)) rfl) ?_
  refine WL.want rfl rfl ?_
  refine WL.call (al := [(vi 1)]) Try.call14 rfl rfl (c_num19 1 (by omega) _ ) rfl ?_
  rintro _ w_66 ⟨rfl, hc_65⟩
  have h_67 := h_64.same hc_65
  refine WL.want rfl rfl ?_
  refine WL.q (Wn.no rfl) rfl rfl (R.bin (v := (.bool true)) rfl rfl (bi_eql (r := true) (by decide))) ?_
  refine WL.q (Wn.no rfl) rfl rfl (R.pickT (v := (.bool true)) rfl rfl) ?_
  refine WL.q (Wn.no rfl) rfl rfl (R.move (v := (.bool true)) rfl) ?_
  refine WL.want rfl rfl ?_
  refine WL.q (Wn.no rfl) rfl rfl (R.move (v := (vi 1)) rfl) ?_
  refine WL.want rfl rfl ?_
  refine WL.call (al := [(vi 1)]) Try.call14 rfl rfl (c_num19 1 (by omega) _ ) rfl ?_
  rintro _ w_69 ⟨rfl, hc_68⟩
  have h_70 := h_67.same hc_68
  refine WL.want rfl rfl ?_
  refine WL.q (Wn.no rfl) rfl rfl (R.bin (v := (.bool true)) rfl rfl (bi_eql (r := true) (by decide))) ?_
  refine WL.q (Wn.no rfl) rfl rfl (R.pickT (v := (.bool true)) rfl rfl) ?_
  refine WL.q (Wn.no rfl) rfl rfl (R.move (v := (.bool true)) rfl) ?_
  refine WL.want rfl rfl ?_
  refine WL.q (Wn.no rfl) rfl rfl (R.move (v := (vi 4)) rfl) ?_
  refine WL.want rfl rfl ?_
  refine WL.call (al := [(vi 4)]) Try.call14 rfl rfl (c_num19 4 (by omega) _ ) rfl ?_
  rintro _ w_72 ⟨rfl, hc_71⟩
  have h_73 := h_70.same hc_71
  refine WL.want rfl rfl ?_
  refine WL.q (Wn.no rfl) rfl rfl (R.bin (v := (.bool true)) rfl rfl (bi_eql (r := true) (by decide))) ?_
  refine WL.q (Wn.no rfl) rfl rfl (R.pickT (v := (.bool true)) rfl rfl) ?_
  refine WL.q (Wn.no rfl) rfl rfl (R.move (v := (.bool true)) rfl) ?_
  refine WL.want rfl rfl ?_
  refine WL.q (Wn.no rfl) rfl rfl (R.move (v := (vi 4)) rfl) ?_
  refine WL.want rfl rfl ?_
  refine WL.call (al := [(vi 4)]) Try.call14 rfl rfl (c_num19 4 (by omega) _ ) rfl ?_
  rintro _ w_75 ⟨rfl, hc_74⟩
  have h_76 := h_73.same hc_74
  refine WL.want rfl rfl ?_
  refine WL.q (Wn.no rfl) rfl rfl (R.bin (v := (.bool true)) rfl rfl (bi_eql (r := true) (by decide))) ?_
  refine WL.q (Wn.no rfl) rfl rfl (R.pickT (v := (.bool true)) rfl rfl) ?_
  refine WL.q (Wn.no rfl) rfl rfl (R.move (v := (.bool true)) rfl) ?_
  refine WL.want rfl rfl ?_
  refine WL.q (Wn.no rfl) rfl rfl (R.move (v := (vi 1)) rfl) ?_
  refine WL.want rfl rfl ?_
  refine WL.call (al := [(vi 1)]) Try.call14 rfl rfl (c_num19 1 (by omega) _ ) rfl ?_
  rintro _ w_78 ⟨rfl, hc_77⟩
  have h_79 := h_76.same hc_77
  refine WL.want rfl rfl ?_
  refine WL.q (Wn.no rfl) rfl rfl (R.bin (v := (.bool true)) rfl rfl (bi_eql (r := true) (by decide))) ?_
  refine WL.q (Wn.no rfl) rfl rfl (R.pickT (v := (.bool true)) rfl rfl) ?_
  refine WL.q (Wn.no rfl) rfl rfl (R.move (v := (.bool true)) rfl) ?_
  refine WL.want rfl rfl ?_
  refine WL.call (al := []) Try.call11 rfl rfl (c_known19  _ ) rfl ?_
  rintro _ w_81 ⟨rfl, hc_80⟩
  have h_82 := h_79.same hc_80
  refine WL.q (Wn.no rfl) rfl rfl (R.pickT (v := (.bool true)) rfl rfl) ?_
  refine WL.q (Wn.no rfl) rfl rfl (R.assign (v := (.bool true)) rfl) ?_
  refine WL.nil ?_
  refine thn_n ?_
  refine WP.ret ?_
  refine ret_of Try.results4 (RV.tmp (v := (.bool true)) rfl RV.nil) ?_
  exact ⟨rfl, h_82.chgS⟩
namespace attestNilDone
open Go.ChangeShapes Go.WideShapes Go.ChangeAt
theorem own : ownKnob Try.prog.godebug = none := by kernel_rfl
theorem laidOut : laidOutB Try.prog = true := by kernel_rfl
set_option maxRecDepth 100000 in
theorem lifted (os : Os) (started : os.Started) (H : Type) (enc : TypeId × Value → H) :
    ReturnsInHanded {} Try.checked os 4 .any (Rows.attestNilSpec.pre6 enc Try.prog Try.f4 Rows.attestNilRow.domain false) (Rows.attestNilSpec.post enc Try.prog Try.f4 false true false false) := by
  refine returnsInHanded_of_change (C := Try.checked) own started (by kernel_rfl) Try.func4
    (ChangeSpec.witness6 (enc := enc) (C := Try.checked) false ⟨#[], #[], []⟩ 8 (by kernel_rfl) (by kernel_rfl) (by kernel_rfl) (by kernel_rfl)) ?_
  intro W base args ds gs before hval0 hW hcnd _
  have hval : ∀ (j : Nat) t v, Try.f4.params[j]? = some t → args[j]? = some v → Value.okWide Try.prog W .any base t v := hval0
  have hW' := hW
  obtain ⟨p, q, hA0, hV, rfl, hfz, hnd⟩ := hW
  have hA : DataW.TrodAll enc Try.prog W 0 (fun _ => true) true Try.f4.params.toList args.toList ds p := hA0
  rw [Try.params4] at hA hval
  obtain ⟨hargs, rfl, rfl⟩ := trodAll_nil hA
  obtain rfl : args = #[] := by cases args; simp_all
  obtain ⟨rfl, rfl⟩ := trodVars_none hV
  clear hA0 hval0
  have hw : Cs Try.prog 4 [].toArray W (fun v w1 => v = .bool true ∧ Chg W w1 []) := w_AttestNil W
  have ea : ([] : List Value).toArray = (#[] : Array Value) := by simp [flat]
  rw [ea] at hw
  refine Calls.mono (Cs.below hw) fun e W' ⟨he, bel⟩ => ?_
  subst he
  exact ⟨_, rfl, _, _, _, [], _, [], hW', trodAll_mk1 (shut_bool Try.underlying4 _), trodAll_mk0, rfl, bel.frame _, fun h => by cases h⟩
theorem over : Rows.attestNilRow.holds Try.pinned (OpenSpec.ofChange Rows.attestNilSpec) :=
  OpenClaim.holds_of_wide 4 Try.f4 rfl rfl rfl rfl rfl rfl rfl ⟨rfl, rfl, rfl, rfl, rfl⟩ rfl rfl rfl rfl rfl (by kernel_rfl) Try.func4 (by kernel_rfl)
    (of_decide_eq_true (by kernel_rfl)) (by unfold Func.isWrapper; first | (rw [if_pos (by decide +kernel)]; kernel_rfl) | (rw [if_neg (by decide +kernel)]; exact ⟨rfl, rfl⟩))
    (fun os started H enc _ => lifted os started H enc)
theorem proved : Rows.AttestNilSaid := over
end attestNilDone
end Go.Proofs.Ytnhppjimimhlkaa
