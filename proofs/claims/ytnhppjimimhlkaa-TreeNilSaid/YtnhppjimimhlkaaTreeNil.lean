/- TreeNil holds of every input. Conditions: none. -/
import Derived.Test.YtnhppjimimhlkaaU3
namespace Go.Proofs.Ytnhppjimimhlkaa
open Go.Vc Go.Orc Go.RowKit
set_option linter.unusedVariables false
set_option linter.unusedSimpArgs false
set_option maxRecDepth 20000

theorem w_TreeNil  (w : World) :
    Cs Try.prog 9 [].toArray w (fun v w1 => v = (.bool true) ∧ Chg w w1 []) := by
  refine Cs.of (n := 127) (args := []) Try.func9 rfl rfl rfl ?_
  have h_0 := HP.init w
  refine WP.seq ?_
  refine WP.reg ?_
  refine WL.q (Wn.no rfl) rfl rfl (R.assign (v := (.bool false)) rfl) ?_
  refine WL.nil ?_
  refine thn_n ?_
  refine WP.seq ?_
  refine WP.reg ?_
  refine WL.q (Wn.no rfl) rfl rfl (R.buildA (vs := []) (cs := (List.replicate 32 (0 : UInt8)).map vu8) Try.underlying23 Try.sizeOf5 (zv Try.typeInfo23 rfl) rfl rfl) ?_
  have h_1 := HP_viewNil h_0
  refine WL.call (al := [(.bool true), (.agg ⟨(List.replicate 32 (0 : UInt8)).map vu8⟩), (.slice none 0 0)]) Try.call17 rfl rfl (c_ONew (List.replicate 32 (0 : UInt8)) ([] : List UInt8) (List.length_replicate ..) none 0 0 (rfl : List.length ([] : List UInt8) = 32 * 0) (by decide) _ h_1) rfl ?_
  rintro _ w_6 ⟨b_2, b_3, a_4, c_5, rfl, h_7⟩
  refine WL.q (Wn.no rfl) rfl rfl (R.assign (v := (.pointer (some ⟨b_2, 0, none⟩))) rfl) ?_
  refine WL.nil ?_
  refine thn_n ?_
  refine WP.seq ?_
  refine WP.reg ?_
  refine WL.call (al := [(vi 64)]) Try.call33 rfl rfl (c_MNew_64 _ h_7) rfl ?_
  rintro _ w_10 ⟨b_8, a_9, rfl, h_11⟩
  refine WL.q (Wn.no rfl) rfl rfl (R.move (v := (.tuple [(.pointer (some ⟨b_8, 0, none⟩)), (vi 0)].toArray)) rfl) ?_
  refine WL.q (Wn.no rfl) rfl rfl (R.extract (l := [(.pointer (some ⟨b_8, 0, none⟩)), (vi 0)]) (v := (.pointer (some ⟨b_8, 0, none⟩))) rfl rfl) ?_
  refine WL.q (Wn.no rfl) rfl rfl (R.extract (l := [(.pointer (some ⟨b_8, 0, none⟩)), (vi 0)]) (v := (vi 0)) rfl rfl) ?_
  refine WL.q (Wn.no rfl) rfl rfl (R.assign (v := (.pointer (some ⟨b_8, 0, none⟩))) rfl) ?_
  refine WL.q (Wn.no rfl) rfl rfl (R.assign (v := (vi 0)) rfl) ?_
  refine WL.nil ?_
  refine thn_n ?_
  refine WP.seq ?_
  refine WP.reg ?_
  refine WL.call (al := [(.pointer none), (vi 500)]) Try.call34 rfl rfl (c_TNone_n 500 _ ) rfl ?_
  rintro _ w_13 ⟨rfl, hc_12⟩
  have h_14 := h_11.same hc_12
  refine WL.q (Wn.no rfl) rfl rfl (R.move (v := (.tuple [(.agg ⟨(List.replicate 32 (0 : UInt8)).map vu8⟩), (vi 1)].toArray)) rfl) ?_
  refine WL.q (Wn.no rfl) rfl rfl (R.extract (l := [(.agg ⟨(List.replicate 32 (0 : UInt8)).map vu8⟩), (vi 1)]) (v := (.agg ⟨(List.replicate 32 (0 : UInt8)).map vu8⟩)) rfl rfl) ?_
  refine WL.q (Wn.no rfl) rfl rfl (R.extract (l := [(.agg ⟨(List.replicate 32 (0 : UInt8)).map vu8⟩), (vi 1)]) (v := (vi 1)) rfl rfl) ?_
  refine WL.alloc (segs := [(32, (List.replicate 32 (0 : UInt8)).map vu8)]) h_14 (zv Try.typeInfo23 rfl) rfl (SsOk.cons (SOk.u8 (List.length_replicate ..)) SsOk.nil) rfl (fun b_15 w_16 h_17 => ?_)
  refine WL.storeA (b := b_15) (off := 0) [] [(32, (List.replicate 32 (0 : UInt8)).map vu8)] [(32, (List.replicate 32 (0 : UInt8)).map vu8)] [] (ys := (List.replicate 32 (0 : UInt8)).map vu8) h_17 rfl rfl Try.sizeOf23 At.h (by decide) rfl rfl rfl rfl rfl rfl (SsOk.cons (SOk.u8 (List.length_replicate ..)) SsOk.nil) (fun w_18 h_19 => ?_)
  refine WL.q (Wn.no rfl) rfl rfl (R.assign (v := (vi 1)) rfl) ?_
  refine WL.nil ?_
  refine thn_n ?_
  refine WP.seq ?_
  refine WP.reg ?_
  refine WL.q (Wn.no rfl) rfl rfl (R.buildA (vs := []) (cs := (List.replicate 32 (0 : UInt8)).map vu8) Try.underlying23 Try.sizeOf5 (zv Try.typeInfo23 rfl) rfl rfl) ?_
  refine WL.q (Wn.no rfl) rfl rfl (R.buildA (vs := []) (cs := (List.replicate 32 (0 : UInt8)).map vu8) Try.underlying23 Try.sizeOf5 (zv Try.typeInfo23 rfl) rfl rfl) ?_
  refine WL.call (al := [(.pointer none), (vi 500), (.agg ⟨(List.replicate 32 (0 : UInt8)).map vu8⟩), (.agg ⟨(List.replicate 32 (0 : UInt8)).map vu8⟩)]) Try.call35 rfl rfl (c_TNode_n 500 (List.replicate 32 (0 : UInt8)) (List.replicate 32 (0 : UInt8)) (List.length_replicate ..) (List.length_replicate ..) _ ) rfl ?_
  rintro _ w_21 ⟨rfl, hc_20⟩
  have h_22 := h_19.same hc_20
  refine WL.q (Wn.no rfl) rfl rfl (R.move (v := (.tuple [(.agg ⟨(List.replicate 32 (0 : UInt8)).map vu8⟩), (vi 1)].toArray)) rfl) ?_
  refine WL.q (Wn.no rfl) rfl rfl (R.extract (l := [(.agg ⟨(List.replicate 32 (0 : UInt8)).map vu8⟩), (vi 1)]) (v := (.agg ⟨(List.replicate 32 (0 : UInt8)).map vu8⟩)) rfl rfl) ?_
  refine WL.q (Wn.no rfl) rfl rfl (R.extract (l := [(.agg ⟨(List.replicate 32 (0 : UInt8)).map vu8⟩), (vi 1)]) (v := (vi 1)) rfl rfl) ?_
  refine WL.alloc (segs := [(32, (List.replicate 32 (0 : UInt8)).map vu8)]) h_22 (zv Try.typeInfo23 rfl) rfl (SsOk.cons (SOk.u8 (List.length_replicate ..)) SsOk.nil) rfl (fun b_23 w_24 h_25 => ?_)
  refine WL.storeA (b := b_23) (off := 0) [] [(32, (List.replicate 32 (0 : UInt8)).map vu8)] [(32, (List.replicate 32 (0 : UInt8)).map vu8)] [] (ys := (List.replicate 32 (0 : UInt8)).map vu8) h_25 rfl rfl Try.sizeOf23 At.h (by decide) rfl rfl rfl rfl rfl rfl (SsOk.cons (SOk.u8 (List.length_replicate ..)) SsOk.nil) (fun w_26 h_27 => ?_)
  refine WL.q (Wn.no rfl) rfl rfl (R.assign (v := (vi 1)) rfl) ?_
  refine WL.nil ?_
  refine thn_n ?_
  refine WP.seq ?_
  refine WP.reg ?_
  refine WL.q (Wn.no rfl) rfl rfl (R.move (v := (.pointer (some ⟨b_8, 0, none⟩))) rfl) ?_
  refine WL.call (al := [(.pointer none), (.pointer (some ⟨b_8, 0, none⟩)), (vu64 1)]) Try.call36 rfl rfl (c_Lay_n (some ⟨b_8, 0, none⟩) (1 : UInt64) _ ) rfl ?_
  rintro _ w_29 ⟨rfl, hc_28⟩
  have h_30 := h_27.same hc_28
  refine WL.q (Wn.no rfl) rfl rfl (R.move (v := (.tuple [(.agg ⟨(List.replicate 32 (0 : UInt8)).map vu8⟩), (vi 1)].toArray)) rfl) ?_
  refine WL.q (Wn.no rfl) rfl rfl (R.extract (l := [(.agg ⟨(List.replicate 32 (0 : UInt8)).map vu8⟩), (vi 1)]) (v := (.agg ⟨(List.replicate 32 (0 : UInt8)).map vu8⟩)) rfl rfl) ?_
  refine WL.q (Wn.no rfl) rfl rfl (R.extract (l := [(.agg ⟨(List.replicate 32 (0 : UInt8)).map vu8⟩), (vi 1)]) (v := (vi 1)) rfl rfl) ?_
  refine WL.alloc (segs := [(32, (List.replicate 32 (0 : UInt8)).map vu8)]) h_30 (zv Try.typeInfo23 rfl) rfl (SsOk.cons (SOk.u8 (List.length_replicate ..)) SsOk.nil) rfl (fun b_31 w_32 h_33 => ?_)
  refine WL.storeA (b := b_31) (off := 0) [] [(32, (List.replicate 32 (0 : UInt8)).map vu8)] [(32, (List.replicate 32 (0 : UInt8)).map vu8)] [] (ys := (List.replicate 32 (0 : UInt8)).map vu8) h_33 rfl rfl Try.sizeOf23 At.h (by decide) rfl rfl rfl rfl rfl rfl (SsOk.cons (SOk.u8 (List.length_replicate ..)) SsOk.nil) (fun w_34 h_35 => ?_)
  refine WL.q (Wn.no rfl) rfl rfl (R.assign (v := (vi 1)) rfl) ?_
  refine WL.nil ?_
  refine thn_n ?_
  refine WP.seq ?_
  refine WP.reg ?_
  refine WL.q (Wn.no rfl) rfl rfl (R.move (v := (.pointer (some ⟨b_2, 0, none⟩))) rfl) ?_
  refine WL.call (al := [(.pointer (some ⟨b_2, 0, none⟩)), (.pointer none), (vu64 1)]) Try.call36 rfl rfl (c_Lay_m b_2 b_3 (List.replicate 32 (0 : UInt8)) (List.length_replicate ..) a_4 0 c_5 0 none 0 0 (1 : UInt64) _ (h_35.argR (.tail _ (.tail _ (.tail _ (.tail _ (.tail _ (.head _)))))))) rfl ?_
  rintro _ w_37 ⟨rfl, hc_36⟩
  have h_38 := h_35.same hc_36
  refine WL.q (Wn.no rfl) rfl rfl (R.move (v := (.tuple [(.agg ⟨(List.replicate 32 (0 : UInt8)).map vu8⟩), (vi 1)].toArray)) rfl) ?_
  refine WL.q (Wn.no rfl) rfl rfl (R.extract (l := [(.agg ⟨(List.replicate 32 (0 : UInt8)).map vu8⟩), (vi 1)]) (v := (.agg ⟨(List.replicate 32 (0 : UInt8)).map vu8⟩)) rfl rfl) ?_
  refine WL.q (Wn.no rfl) rfl rfl (R.extract (l := [(.agg ⟨(List.replicate 32 (0 : UInt8)).map vu8⟩), (vi 1)]) (v := (vi 1)) rfl rfl) ?_
  refine WL.alloc (segs := [(32, (List.replicate 32 (0 : UInt8)).map vu8)]) h_38 (zv Try.typeInfo23 rfl) rfl (SsOk.cons (SOk.u8 (List.length_replicate ..)) SsOk.nil) rfl (fun b_39 w_40 h_41 => ?_)
  refine WL.storeA (b := b_39) (off := 0) [] [(32, (List.replicate 32 (0 : UInt8)).map vu8)] [(32, (List.replicate 32 (0 : UInt8)).map vu8)] [] (ys := (List.replicate 32 (0 : UInt8)).map vu8) h_41 rfl rfl Try.sizeOf23 At.h (by decide) rfl rfl rfl rfl rfl rfl (SsOk.cons (SOk.u8 (List.length_replicate ..)) SsOk.nil) (fun w_42 h_43 => ?_)
  refine WL.q (Wn.no rfl) rfl rfl (R.assign (v := (vi 1)) rfl) ?_
  refine WL.nil ?_
  refine thn_n ?_
  refine WP.seq ?_
  refine WP.reg ?_
  refine WL.q (Wn.no rfl) rfl rfl (R.move (v := (.pointer (some ⟨b_2, 0, none⟩))) rfl) ?_
  refine WL.q (Wn.no rfl) rfl rfl (R.buildA (vs := []) (cs := (List.replicate 32 (0 : UInt8)).map vu8) Try.underlying23 Try.sizeOf5 (zv Try.typeInfo23 rfl) rfl rfl) ?_
  refine WL.call (al := [(.pointer (some ⟨b_2, 0, none⟩)), (.pointer none), (vu64 1), (vi 500), (.agg ⟨(List.replicate 32 (0 : UInt8)).map vu8⟩)]) Try.call37 rfl rfl (c_Up_m b_2 b_3 (List.replicate 32 (0 : UInt8)) (List.length_replicate ..) a_4 0 c_5 0 none 0 0 (1 : UInt64) 500 (List.replicate 32 (0 : UInt8)) (List.length_replicate ..) _ (h_43.argR (.tail _ (.tail _ (.tail _ (.tail _ (.tail _ (.tail _ (.head _))))))))) rfl ?_
  rintro _ w_45 ⟨rfl, hc_44⟩
  have h_46 := h_43.same hc_44
  refine WL.q (Wn.no rfl) rfl rfl (R.move (v := (.tuple [(.agg ⟨(List.replicate 32 (0 : UInt8)).map vu8⟩), (vi 1)].toArray)) rfl) ?_
  refine WL.q (Wn.no rfl) rfl rfl (R.extract (l := [(.agg ⟨(List.replicate 32 (0 : UInt8)).map vu8⟩), (vi 1)]) (v := (.agg ⟨(List.replicate 32 (0 : UInt8)).map vu8⟩)) rfl rfl) ?_
  refine WL.q (Wn.no rfl) rfl rfl (R.extract (l := [(.agg ⟨(List.replicate 32 (0 : UInt8)).map vu8⟩), (vi 1)]) (v := (vi 1)) rfl rfl) ?_
  refine WL.alloc (segs := [(32, (List.replicate 32 (0 : UInt8)).map vu8)]) h_46 (zv Try.typeInfo23 rfl) rfl (SsOk.cons (SOk.u8 (List.length_replicate ..)) SsOk.nil) rfl (fun b_47 w_48 h_49 => ?_)
  refine WL.storeA (b := b_47) (off := 0) [] [(32, (List.replicate 32 (0 : UInt8)).map vu8)] [(32, (List.replicate 32 (0 : UInt8)).map vu8)] [] (ys := (List.replicate 32 (0 : UInt8)).map vu8) h_49 rfl rfl Try.sizeOf23 At.h (by decide) rfl rfl rfl rfl rfl rfl (SsOk.cons (SOk.u8 (List.length_replicate ..)) SsOk.nil) (fun w_50 h_51 => ?_)
  refine WL.q (Wn.no rfl) rfl rfl (R.assign (v := (vi 1)) rfl) ?_
  refine WL.nil ?_
  refine thn_n ?_
  refine WP.seq ?_
  refine WP.reg ?_
  refine WL.q (Wn.no rfl) rfl rfl (R.move (v := (.pointer (some ⟨b_8, 0, none⟩))) rfl) ?_
  refine WL.q (Wn.no rfl) rfl rfl (R.buildA (vs := []) (cs := (List.replicate 32 (0 : UInt8)).map vu8) Try.underlying23 Try.sizeOf5 (zv Try.typeInfo23 rfl) rfl rfl) ?_
  refine WL.call (al := [(.pointer none), (.pointer (some ⟨b_8, 0, none⟩)), (vu64 1), (vi 500), (.agg ⟨(List.replicate 32 (0 : UInt8)).map vu8⟩)]) Try.call38 rfl rfl (c_Set_n (some ⟨b_8, 0, none⟩) (1 : UInt64) 500 (List.replicate 32 (0 : UInt8)) (List.length_replicate ..) _ ) rfl ?_
  rintro _ w_53 ⟨rfl, hc_52⟩
  have h_54 := h_51.same hc_52
  refine WL.q (Wn.no rfl) rfl rfl (R.move (v := (.tuple [(.agg ⟨(List.replicate 32 (0 : UInt8)).map vu8⟩), (vi 1)].toArray)) rfl) ?_
  refine WL.q (Wn.no rfl) rfl rfl (R.extract (l := [(.agg ⟨(List.replicate 32 (0 : UInt8)).map vu8⟩), (vi 1)]) (v := (.agg ⟨(List.replicate 32 (0 : UInt8)).map vu8⟩)) rfl rfl) ?_
  refine WL.q (Wn.no rfl) rfl rfl (R.extract (l := [(.agg ⟨(List.replicate 32 (0 : UInt8)).map vu8⟩), (vi 1)]) (v := (vi 1)) rfl rfl) ?_
  refine WL.alloc (segs := [(32, (List.replicate 32 (0 : UInt8)).map vu8)]) h_54 (zv Try.typeInfo23 rfl) rfl (SsOk.cons (SOk.u8 (List.length_replicate ..)) SsOk.nil) rfl (fun b_55 w_56 h_57 => ?_)
  refine WL.storeA (b := b_55) (off := 0) [] [(32, (List.replicate 32 (0 : UInt8)).map vu8)] [(32, (List.replicate 32 (0 : UInt8)).map vu8)] [] (ys := (List.replicate 32 (0 : UInt8)).map vu8) h_57 rfl rfl Try.sizeOf23 At.h (by decide) rfl rfl rfl rfl rfl rfl (SsOk.cons (SOk.u8 (List.length_replicate ..)) SsOk.nil) (fun w_58 h_59 => ?_)
  refine WL.q (Wn.no rfl) rfl rfl (R.assign (v := (vi 1)) rfl) ?_
  refine WL.nil ?_
  refine thn_n ?_
  refine WP.seq ?_
  refine WP.reg ?_
  refine WL.q (Wn.no rfl) rfl rfl (R.buildA (vs := []) (cs := (List.replicate 32 (0 : UInt8)).map vu8) Try.underlying23 Try.sizeOf5 (zv Try.typeInfo23 rfl) rfl rfl) ?_
  refine WL.q (Wn.no rfl) rfl rfl (R.buildA (vs := []) (cs := (List.replicate 32 (0 : UInt8)).map vu8) Try.underlying23 Try.sizeOf5 (zv Try.typeInfo23 rfl) rfl rfl) ?_
  refine WL.call (al := [(.pointer none), (.pointer none), (vu64 0), (.agg ⟨(List.replicate 32 (0 : UInt8)).map vu8⟩), (vi 0), (.agg ⟨(List.replicate 32 (0 : UInt8)).map vu8⟩)]) Try.call39 rfl rfl (c_Check_n none (0 : UInt64) 0 (List.replicate 32 (0 : UInt8)) (List.replicate 32 (0 : UInt8)) (List.length_replicate ..) (List.length_replicate ..) _ ) rfl ?_
  rintro _ w_61 ⟨rfl, hc_60⟩
  have h_62 := h_59.same hc_60
  refine WL.q (Wn.no rfl) rfl rfl (R.move (v := (.tuple [(.bool false), (vi 1)].toArray)) rfl) ?_
  refine WL.q (Wn.no rfl) rfl rfl (R.extract (l := [(.bool false), (vi 1)]) (v := (.bool false)) rfl rfl) ?_
  refine WL.q (Wn.no rfl) rfl rfl (R.extract (l := [(.bool false), (vi 1)]) (v := (vi 1)) rfl rfl) ?_
  refine WL.q (Wn.no rfl) rfl rfl (R.assign (v := (.bool false)) rfl) ?_
  refine WL.q (Wn.no rfl) rfl rfl (R.assign (v := (vi 1)) rfl) ?_
  refine WL.nil ?_
  refine thn_n ?_
  refine WP.seq ?_
  refine WP.reg ?_
  refine WL.call (al := [(.pointer none), (vu64 0), (vi 2)]) Try.call40 rfl rfl (c_At_n (0 : UInt64) 2 _ ) rfl ?_
  rintro _ w_64 ⟨rfl, hc_63⟩
  have h_65 := h_62.same hc_63
  refine WL.q (Wn.no rfl) rfl rfl (R.move (v := (.tuple [(.agg ⟨(List.replicate 32 (0 : UInt8)).map vu8⟩), (vi 1)].toArray)) rfl) ?_
  refine WL.q (Wn.no rfl) rfl rfl (R.extract (l := [(.agg ⟨(List.replicate 32 (0 : UInt8)).map vu8⟩), (vi 1)]) (v := (.agg ⟨(List.replicate 32 (0 : UInt8)).map vu8⟩)) rfl rfl) ?_
  refine WL.q (Wn.no rfl) rfl rfl (R.extract (l := [(.agg ⟨(List.replicate 32 (0 : UInt8)).map vu8⟩), (vi 1)]) (v := (vi 1)) rfl rfl) ?_
  refine WL.alloc (segs := [(32, (List.replicate 32 (0 : UInt8)).map vu8)]) h_65 (zv Try.typeInfo23 rfl) rfl (SsOk.cons (SOk.u8 (List.length_replicate ..)) SsOk.nil) rfl (fun b_66 w_67 h_68 => ?_)
  refine WL.storeA (b := b_66) (off := 0) [] [(32, (List.replicate 32 (0 : UInt8)).map vu8)] [(32, (List.replicate 32 (0 : UInt8)).map vu8)] [] (ys := (List.replicate 32 (0 : UInt8)).map vu8) h_68 rfl rfl Try.sizeOf23 At.h (by decide) rfl rfl rfl rfl rfl rfl (SsOk.cons (SOk.u8 (List.length_replicate ..)) SsOk.nil) (fun w_69 h_70 => ?_)
  refine WL.q (Wn.no rfl) rfl rfl (R.assign (v := (vi 1)) rfl) ?_
  refine WL.nil ?_
  refine thn_n ?_
  refine WP.seq ?_
  refine WP.reg ?_
  refine WL.q (Wn.no rfl) rfl rfl (R.move (v := (vi 1)) rfl) ?_
  refine WL.call (al := [(vi 1)]) Try.call31 rfl rfl (c_num15 1 (by omega) _ ) rfl ?_
  rintro _ w_72 ⟨rfl, hc_71⟩
  have h_73 := h_70.same hc_71
  refine WL.q (Wn.no rfl) rfl rfl (R.bin (v := (.bool true)) rfl rfl (bi_eql (r := true) (by decide))) ?_
  refine WL.q (Wn.no rfl) rfl rfl (R.move (v := (.bool true)) rfl) ?_
  refine WL.want rfl rfl ?_
  refine WL.q (Wn.no rfl) rfl rfl (R.move (v := (vi 1)) rfl) ?_
  refine WL.want rfl rfl ?_
  refine WL.call (al := [(vi 1)]) Try.call31 rfl rfl (c_num15 1 (by omega) _ ) rfl ?_
  rintro _ w_75 ⟨rfl, hc_74⟩
  have h_76 := h_73.same hc_74
  refine WL.want rfl rfl ?_
  refine WL.q (Wn.no rfl) rfl rfl (R.bin (v := (.bool true)) rfl rfl (bi_eql (r := true) (by decide))) ?_
  refine WL.q (Wn.no rfl) rfl rfl (R.pickT (v := (.bool true)) rfl rfl) ?_
  refine WL.q (Wn.no rfl) rfl rfl (R.move (v := (.bool true)) rfl) ?_
  refine WL.want rfl rfl ?_
  refine WL.q (Wn.no rfl) rfl rfl (R.move (v := (vi 1)) rfl) ?_
  refine WL.want rfl rfl ?_
  refine WL.call (al := [(vi 1)]) Try.call31 rfl rfl (c_num15 1 (by omega) _ ) rfl ?_
  rintro _ w_78 ⟨rfl, hc_77⟩
  have h_79 := h_76.same hc_77
  refine WL.want rfl rfl ?_
  refine WL.q (Wn.no rfl) rfl rfl (R.bin (v := (.bool true)) rfl rfl (bi_eql (r := true) (by decide))) ?_
  refine WL.q (Wn.no rfl) rfl rfl (R.pickT (v := (.bool true)) rfl rfl) ?_
  refine WL.q (Wn.no rfl) rfl rfl (R.move (v := (.bool true)) rfl) ?_
  refine WL.want rfl rfl ?_
  refine WL.q (Wn.no rfl) rfl rfl (R.move (v := (vi 1)) rfl) ?_
  refine WL.want rfl rfl ?_
  refine WL.call (al := [(vi 1)]) Try.call31 rfl rfl (c_num15 1 (by omega) _ ) rfl ?_
  rintro _ w_81 ⟨rfl, hc_80⟩
  have h_82 := h_79.same hc_80
  refine WL.want rfl rfl ?_
  refine WL.q (Wn.no rfl) rfl rfl (R.bin (v := (.bool true)) rfl rfl (bi_eql (r := true) (by decide))) ?_
  refine WL.q (Wn.no rfl) rfl rfl (R.pickT (v := (.bool true)) rfl rfl) ?_
  refine WL.q (Wn.no rfl) rfl rfl (R.move (v := (.bool true)) rfl) ?_
  refine WL.want rfl rfl ?_
  refine WL.q (Wn.no rfl) rfl rfl (R.move (v := (vi 1)) rfl) ?_
  refine WL.want rfl rfl ?_
  refine WL.call (al := [(vi 1)]) Try.call31 rfl rfl (c_num15 1 (by omega) _ ) rfl ?_
  rintro _ w_84 ⟨rfl, hc_83⟩
  have h_85 := h_82.same hc_83
  refine WL.want rfl rfl ?_
  refine WL.q (Wn.no rfl) rfl rfl (R.bin (v := (.bool true)) rfl rfl (bi_eql (r := true) (by decide))) ?_
  refine WL.q (Wn.no rfl) rfl rfl (R.pickT (v := (.bool true)) rfl rfl) ?_
  refine WL.q (Wn.no rfl) rfl rfl (R.move (v := (.bool true)) rfl) ?_
  refine WL.want rfl rfl ?_
  refine WL.q (Wn.no rfl) rfl rfl (R.move (v := (vi 1)) rfl) ?_
  refine WL.want rfl rfl ?_
  refine WL.call (al := [(vi 1)]) Try.call31 rfl rfl (c_num15 1 (by omega) _ ) rfl ?_
  rintro _ w_87 ⟨rfl, hc_86⟩
  have h_88 := h_85.same hc_86
  refine WL.want rfl rfl ?_
  refine WL.q (Wn.no rfl) rfl rfl (R.bin (v := (.bool true)) rfl rfl (bi_eql (r := true) (by decide))) ?_
  refine WL.q (Wn.no rfl) rfl rfl (R.pickT (v := (.bool true)) rfl rfl) ?_
  refine WL.q (Wn.no rfl) rfl rfl (R.move (v := (.bool true)) rfl) ?_
  refine WL.want rfl rfl ?_
  refine WL.q (Wn.no rfl) rfl rfl (R.move (v := (vi 1)) rfl) ?_
  refine WL.want rfl rfl ?_
  refine WL.call (al := [(vi 1)]) Try.call31 rfl rfl (c_num15 1 (by omega) _ ) rfl ?_
  rintro _ w_90 ⟨rfl, hc_89⟩
  have h_91 := h_88.same hc_89
  refine WL.want rfl rfl ?_
  refine WL.q (Wn.no rfl) rfl rfl (R.bin (v := (.bool true)) rfl rfl (bi_eql (r := true) (by decide))) ?_
  refine WL.q (Wn.no rfl) rfl rfl (R.pickT (v := (.bool true)) rfl rfl) ?_
  refine WL.q (Wn.no rfl) rfl rfl (R.move (v := (.bool true)) rfl) ?_
  refine WL.want rfl rfl ?_
  refine WL.q (Wn.no rfl) rfl rfl (R.move (v := (vi 1)) rfl) ?_
  refine WL.want rfl rfl ?_
  refine WL.call (al := [(vi 1)]) Try.call31 rfl rfl (c_num15 1 (by omega) _ ) rfl ?_
  rintro _ w_93 ⟨rfl, hc_92⟩
  have h_94 := h_91.same hc_92
  refine WL.want rfl rfl ?_
  refine WL.q (Wn.no rfl) rfl rfl (R.bin (v := (.bool true)) rfl rfl (bi_eql (r := true) (by decide))) ?_
  refine WL.q (Wn.no rfl) rfl rfl (R.pickT (v := (.bool true)) rfl rfl) ?_
  refine WL.q (Wn.no rfl) rfl rfl (R.move (v := (.bool true)) rfl) ?_
  refine WL.want rfl rfl ?_
  refine WL.call (al := [(.pointer none), (vu64 0)]) Try.call41 rfl rfl (c_Win_nil (0 : UInt64) _ ) rfl ?_
  rintro _ w_96 ⟨rfl, hc_95⟩
  have h_97 := h_94.same hc_95
  refine WL.want rfl rfl ?_
  refine WL.q (Wn.no rfl) rfl rfl (R.not (b := false) rfl) ?_
  refine WL.q (Wn.no rfl) rfl rfl (R.pickT (v := (.bool true)) rfl rfl) ?_
  refine WL.q (Wn.no rfl) rfl rfl (R.move (v := (.bool true)) rfl) ?_
  refine WL.want rfl rfl ?_
  refine WL.q (Wn.no rfl) rfl rfl (R.move (v := (.pointer (some ⟨b_8, 0, none⟩))) rfl) ?_
  refine WL.want rfl rfl ?_
  refine WL.call (al := [(.pointer (some ⟨b_8, 0, none⟩)), (vu64 0)]) Try.call41 rfl rfl (c_Win_64_0 b_8 a_9 _ (h_97.argR (.tail _ (.tail _ (.tail _ (.tail _ (.tail _ (.tail _ (.tail _ (.head _)))))))))) rfl ?_
  rintro _ w_99 ⟨rfl, hc_98⟩
  have h_100 := h_97.same hc_98
  refine WL.q (Wn.no rfl) rfl rfl (R.pickT (v := (.bool true)) rfl rfl) ?_
  refine WL.q (Wn.no rfl) rfl rfl (R.move (v := (.bool true)) rfl) ?_
  refine WL.want rfl rfl ?_
  refine WL.q (Wn.no rfl) rfl rfl (R.move (v := (.pointer (some ⟨b_8, 0, none⟩))) rfl) ?_
  refine WL.want rfl rfl ?_
  refine WL.call (al := [(.pointer (some ⟨b_8, 0, none⟩)), (vu64 128)]) Try.call41 rfl rfl (c_Win_64_128 b_8 a_9 _ (h_100.argR (.tail _ (.tail _ (.tail _ (.tail _ (.tail _ (.tail _ (.tail _ (.head _)))))))))) rfl ?_
  rintro _ w_102 ⟨rfl, hc_101⟩
  have h_103 := h_100.same hc_101
  refine WL.want rfl rfl ?_
  refine WL.q (Wn.no rfl) rfl rfl (R.not (b := false) rfl) ?_
  refine WL.q (Wn.no rfl) rfl rfl (R.pickT (v := (.bool true)) rfl rfl) ?_
  refine WL.q (Wn.no rfl) rfl rfl (R.move (v := (.bool true)) rfl) ?_
  refine WL.want rfl rfl ?_
  refine WL.q (Wn.no rfl) rfl rfl (R.move (v := (.pointer (some ⟨b_8, 0, none⟩))) rfl) ?_
  refine WL.want rfl rfl ?_
  refine WL.call (al := [(.pointer (some ⟨b_8, 0, none⟩)), (vu64 9223372036854775808)]) Try.call41 rfl rfl (c_Win_64_9223372036854775808 b_8 a_9 _ (h_103.argR (.tail _ (.tail _ (.tail _ (.tail _ (.tail _ (.tail _ (.tail _ (.head _)))))))))) rfl ?_
  rintro _ w_105 ⟨rfl, hc_104⟩
  have h_106 := h_103.same hc_104
  refine WL.want rfl rfl ?_
  refine WL.q (Wn.no rfl) rfl rfl (R.not (b := false) rfl) ?_
  refine WL.q (Wn.no rfl) rfl rfl (R.pickT (v := (.bool true)) rfl rfl) ?_
  refine WL.q (Wn.no rfl) rfl rfl (R.move (v := (.bool true)) rfl) ?_
  refine WL.want rfl rfl ?_
  refine WL.call (al := []) Try.call32 rfl rfl (c_known15  _ ) rfl ?_
  rintro _ w_108 ⟨rfl, hc_107⟩
  have h_109 := h_106.same hc_107
  refine WL.q (Wn.no rfl) rfl rfl (R.pickT (v := (.bool true)) rfl rfl) ?_
  refine WL.q (Wn.no rfl) rfl rfl (R.assign (v := (.bool true)) rfl) ?_
  refine WL.nil ?_
  refine thn_n ?_
  refine WP.ret ?_
  refine ret_of Try.results9 (RV.tmp (v := (.bool true)) rfl RV.nil) ?_
  exact ⟨rfl, h_109.chgS⟩
namespace treeNilDone
open Go.ChangeShapes Go.WideShapes Go.ChangeAt
theorem own : ownKnob Try.prog.godebug = none := by kernel_rfl
theorem laidOut : laidOutB Try.prog = true := by kernel_rfl
set_option maxRecDepth 100000 in
theorem lifted (os : Os) (started : os.Started) (H : Type) (enc : TypeId × Value → H) :
    ReturnsInHanded {} Try.checked os 9 .any (Rows.treeNilSpec.pre6 enc Try.prog Try.f9 Rows.treeNilRow.domain false) (Rows.treeNilSpec.post enc Try.prog Try.f9 false true false false) := by
  refine returnsInHanded_of_change (C := Try.checked) own started (by kernel_rfl) Try.func9
    (ChangeSpec.witness6 (enc := enc) (C := Try.checked) false ⟨#[], #[], []⟩ 8 (by kernel_rfl) (by kernel_rfl) (by kernel_rfl) (by kernel_rfl)) ?_
  intro W base args ds gs before hval0 hW hcnd _
  have hval : ∀ (j : Nat) t v, Try.f9.params[j]? = some t → args[j]? = some v → Value.okWide Try.prog W .any base t v := hval0
  have hW' := hW
  obtain ⟨p, q, hA0, hV, rfl, hfz, hnd⟩ := hW
  have hA : DataW.TrodAll enc Try.prog W 0 (fun _ => true) true Try.f9.params.toList args.toList ds p := hA0
  rw [Try.params9] at hA hval
  obtain ⟨hargs, rfl, rfl⟩ := trodAll_nil hA
  obtain rfl : args = #[] := by cases args; simp_all
  obtain ⟨rfl, rfl⟩ := trodVars_none hV
  clear hA0 hval0
  have hw : Cs Try.prog 9 [].toArray W (fun v w1 => v = .bool true ∧ Chg W w1 []) := w_TreeNil W
  have ea : ([] : List Value).toArray = (#[] : Array Value) := by simp [flat]
  rw [ea] at hw
  refine Calls.mono (Cs.below hw) fun e W' ⟨he, bel⟩ => ?_
  subst he
  exact ⟨_, rfl, _, _, _, [], _, [], hW', trodAll_mk1 (shut_bool Try.underlying4 _), trodAll_mk0, rfl, bel.frame _, fun h => by cases h⟩
theorem over : Rows.treeNilRow.holds Try.pinned (OpenSpec.ofChange Rows.treeNilSpec) :=
  OpenClaim.holds_of_wide 9 Try.f9 rfl rfl rfl rfl rfl rfl rfl ⟨rfl, rfl, rfl, rfl, rfl⟩ rfl rfl rfl rfl rfl (by kernel_rfl) Try.func9 (by kernel_rfl)
    (of_decide_eq_true (by kernel_rfl)) (by unfold Func.isWrapper; first | (rw [if_pos (by decide +kernel)]; kernel_rfl) | (rw [if_neg (by decide +kernel)]; exact ⟨rfl, rfl⟩))
    (fun os started H enc _ => lifted os started H enc)
theorem proved : Rows.TreeNilSaid := over
end treeNilDone
end Go.Proofs.Ytnhppjimimhlkaa
