/- Trees: the rows that are known. Conditions: those that each theorem states. -/
import Derived.Test.YtnhppjimimhlkaaU2
namespace Go.Proofs.Ytnhppjimimhlkaa
open Go.Vc Go.Orc Go.RowKit
set_option linter.unusedVariables false
set_option linter.unusedSimpArgs false
set_option maxRecDepth 20000

theorem c_known15  (w : World) :
    Cs Try.prog 32 [].toArray w (fun v w1 => v = (.bool true) ∧ Chg w w1 []) := by
  refine Cs.of (n := 81) (args := []) Try.func32 rfl rfl rfl ?_
  have h_0 := HP.init w
  refine WP.seq ?_
  refine WP.reg ?_
  refine WL.q (Wn.no rfl) rfl rfl (R.assign (v := (.bool false)) rfl) ?_
  refine WL.nil ?_
  refine thn_n ?_
  refine WP.seq ?_
  refine WP.reg ?_
  refine WL.call (al := [(vi 0)]) Try.call28 rfl rfl (c_Way_t 0 (by omega) _) rfl ?_
  rintro _ w_3 ⟨a_1, cap_2, rfl, hc_4, ho_5⟩
  have h_6 := h_0.gotRow hc_4 ho_5
  refine WL.q (Wn.no rfl) rfl rfl (R.move (v := (.tuple [(.slice a_1 8 cap_2), (vi 0)].toArray)) rfl) ?_
  refine WL.q (Wn.no rfl) rfl rfl (R.extract (l := [(.slice a_1 8 cap_2), (vi 0)]) (v := (.slice a_1 8 cap_2)) rfl rfl) ?_
  refine WL.q (Wn.no rfl) rfl rfl (R.extract (l := [(.slice a_1 8 cap_2), (vi 0)]) (v := (vi 0)) rfl rfl) ?_
  refine WL.q (Wn.no rfl) rfl rfl (R.assign (v := (.slice a_1 8 cap_2)) rfl) ?_
  refine WL.q (Wn.no rfl) rfl rfl (R.assign (v := (vi 0)) rfl) ?_
  refine WL.nil ?_
  refine thn_n ?_
  refine WP.seq ?_
  refine WP.reg ?_
  refine WL.call (al := [(vi 5)]) Try.call29 rfl rfl (c_Bes_t 5 (by omega) _) rfl ?_
  rintro _ w_9 ⟨a_7, cap_8, rfl, hc_10, ho_11⟩
  have h_12 := h_6.gotRow hc_10 ho_11
  refine WL.q (Wn.no rfl) rfl rfl (R.move (v := (.tuple [(.slice a_7 7 cap_8), (vi 0)].toArray)) rfl) ?_
  refine WL.q (Wn.no rfl) rfl rfl (R.extract (l := [(.slice a_7 7 cap_8), (vi 0)]) (v := (.slice a_7 7 cap_8)) rfl rfl) ?_
  refine WL.q (Wn.no rfl) rfl rfl (R.extract (l := [(.slice a_7 7 cap_8), (vi 0)]) (v := (vi 0)) rfl rfl) ?_
  refine WL.q (Wn.no rfl) rfl rfl (R.assign (v := (.slice a_7 7 cap_8)) rfl) ?_
  refine WL.q (Wn.no rfl) rfl rfl (R.assign (v := (vi 0)) rfl) ?_
  refine WL.nil ?_
  refine thn_n ?_
  refine WP.seq ?_
  refine WP.reg ?_
  refine WL.q (Wn.no rfl) rfl rfl (R.buildA (vs := []) (cs := (List.replicate 32 (0 : UInt8)).map vu8) Try.underlying23 Try.sizeOf5 (zv Try.typeInfo23 rfl) rfl rfl) ?_
  have h_13 := HP_viewNil h_12
  refine WL.call (al := [(.bool true), (.agg ⟨(List.replicate 32 (0 : UInt8)).map vu8⟩), (.slice none 0 0)]) Try.call17 rfl rfl (c_ONew (List.replicate 32 (0 : UInt8)) ([] : List UInt8) (List.length_replicate ..) none 0 0 (rfl : List.length ([] : List UInt8) = 32 * 0) (by decide) _ h_13) rfl ?_
  rintro _ w_18 ⟨b_14, b_15, a_16, c_17, rfl, h_19⟩
  refine WL.q (Wn.no rfl) rfl rfl (R.assign (v := (.pointer (some ⟨b_14, 0, none⟩))) rfl) ?_
  refine WL.nil ?_
  refine thn_n ?_
  refine WP.seq ?_
  refine WP.reg ?_
  refine WL.call (al := [(vi 70)]) Try.call33 rfl rfl (c_MNew_70 _ h_19) rfl ?_
  rintro _ w_22 ⟨b_20, a_21, rfl, h_23⟩
  refine WL.q (Wn.no rfl) rfl rfl (R.move (v := (.tuple [(.pointer (some ⟨b_20, 0, none⟩)), (vi 0)].toArray)) rfl) ?_
  refine WL.q (Wn.no rfl) rfl rfl (R.extract (l := [(.pointer (some ⟨b_20, 0, none⟩)), (vi 0)]) (v := (.pointer (some ⟨b_20, 0, none⟩))) rfl rfl) ?_
  refine WL.q (Wn.no rfl) rfl rfl (R.extract (l := [(.pointer (some ⟨b_20, 0, none⟩)), (vi 0)]) (v := (vi 0)) rfl rfl) ?_
  refine WL.q (Wn.no rfl) rfl rfl (R.assign (v := (.pointer (some ⟨b_20, 0, none⟩))) rfl) ?_
  refine WL.q (Wn.no rfl) rfl rfl (R.assign (v := (vi 0)) rfl) ?_
  refine WL.nil ?_
  refine thn_n ?_
  refine WP.seq ?_
  refine WP.reg ?_
  refine WL.q (Wn.no rfl) rfl rfl (R.move (v := (.pointer (some ⟨b_14, 0, none⟩))) rfl) ?_
  refine WL.q (Wn.no rfl) rfl rfl (R.move (v := (.pointer (some ⟨b_20, 0, none⟩))) rfl) ?_
  refine WL.call (al := [(.pointer (some ⟨b_14, 0, none⟩)), (.pointer (some ⟨b_20, 0, none⟩)), (vu64 64)]) Try.call36 rfl rfl (c_Lay_70_64 b_14 b_15 (List.replicate 32 (0 : UInt8)) (List.length_replicate ..) a_16 0 c_17 0 none 0 0 b_20 a_21  _ (h_23.argR (.tail _ (.tail _ (.head _)))) (h_23.argR (.head _))) rfl ?_
  rintro _ w_25 ⟨rfl, hc_24⟩
  have h_26 := h_23.same hc_24
  refine WL.q (Wn.no rfl) rfl rfl (R.move (v := (.tuple [(.agg ⟨(List.replicate 32 (0 : UInt8)).map vu8⟩), (vi 2)].toArray)) rfl) ?_
  refine WL.q (Wn.no rfl) rfl rfl (R.extract (l := [(.agg ⟨(List.replicate 32 (0 : UInt8)).map vu8⟩), (vi 2)]) (v := (.agg ⟨(List.replicate 32 (0 : UInt8)).map vu8⟩)) rfl rfl) ?_
  refine WL.q (Wn.no rfl) rfl rfl (R.extract (l := [(.agg ⟨(List.replicate 32 (0 : UInt8)).map vu8⟩), (vi 2)]) (v := (vi 2)) rfl rfl) ?_
  refine WL.alloc (segs := [(32, (List.replicate 32 (0 : UInt8)).map vu8)]) h_26 (zv Try.typeInfo23 rfl) rfl (SsOk.cons (SOk.u8 (List.length_replicate ..)) SsOk.nil) rfl (fun b_27 w_28 h_29 => ?_)
  refine WL.storeA (b := b_27) (off := 0) [] [(32, (List.replicate 32 (0 : UInt8)).map vu8)] [(32, (List.replicate 32 (0 : UInt8)).map vu8)] [] (ys := (List.replicate 32 (0 : UInt8)).map vu8) h_29 rfl rfl Try.sizeOf23 At.h (by decide) rfl rfl rfl rfl rfl rfl (SsOk.cons (SOk.u8 (List.length_replicate ..)) SsOk.nil) (fun w_30 h_31 => ?_)
  refine WL.q (Wn.no rfl) rfl rfl (R.assign (v := (vi 2)) rfl) ?_
  refine WL.nil ?_
  refine thn_n ?_
  refine WP.seq ?_
  refine WP.reg ?_
  refine WL.q (Wn.no rfl) rfl rfl (R.move (v := (.pointer (some ⟨b_14, 0, none⟩))) rfl) ?_
  refine WL.q (Wn.no rfl) rfl rfl (R.move (v := (.pointer (some ⟨b_20, 0, none⟩))) rfl) ?_
  refine WL.call (al := [(.pointer (some ⟨b_14, 0, none⟩)), (.pointer (some ⟨b_20, 0, none⟩)), (vu64 8832)]) Try.call36 rfl rfl (c_Lay_70_8832 b_14 b_15 (List.replicate 32 (0 : UInt8)) (List.length_replicate ..) a_16 0 c_17 0 none 0 0 b_20 a_21  _ (h_31.argR (.tail _ (.tail _ (.tail _ (.head _))))) (h_31.argR (.tail _ (.head _)))) rfl ?_
  rintro _ w_33 ⟨rfl, hc_32⟩
  have h_34 := h_31.same hc_32
  refine WL.q (Wn.no rfl) rfl rfl (R.move (v := (.tuple [(.agg ⟨(List.replicate 32 (0 : UInt8)).map vu8⟩), (vi 2)].toArray)) rfl) ?_
  refine WL.q (Wn.no rfl) rfl rfl (R.extract (l := [(.agg ⟨(List.replicate 32 (0 : UInt8)).map vu8⟩), (vi 2)]) (v := (.agg ⟨(List.replicate 32 (0 : UInt8)).map vu8⟩)) rfl rfl) ?_
  refine WL.q (Wn.no rfl) rfl rfl (R.extract (l := [(.agg ⟨(List.replicate 32 (0 : UInt8)).map vu8⟩), (vi 2)]) (v := (vi 2)) rfl rfl) ?_
  refine WL.alloc (segs := [(32, (List.replicate 32 (0 : UInt8)).map vu8)]) h_34 (zv Try.typeInfo23 rfl) rfl (SsOk.cons (SOk.u8 (List.length_replicate ..)) SsOk.nil) rfl (fun b_35 w_36 h_37 => ?_)
  refine WL.storeA (b := b_35) (off := 0) [] [(32, (List.replicate 32 (0 : UInt8)).map vu8)] [(32, (List.replicate 32 (0 : UInt8)).map vu8)] [] (ys := (List.replicate 32 (0 : UInt8)).map vu8) h_37 rfl rfl Try.sizeOf23 At.h (by decide) rfl rfl rfl rfl rfl rfl (SsOk.cons (SOk.u8 (List.length_replicate ..)) SsOk.nil) (fun w_38 h_39 => ?_)
  refine WL.q (Wn.no rfl) rfl rfl (R.assign (v := (vi 2)) rfl) ?_
  refine WL.nil ?_
  refine thn_n ?_
  refine WP.seq ?_
  refine WP.reg ?_
  refine WL.q (Wn.no rfl) rfl rfl (R.move (v := (.pointer (some ⟨b_14, 0, none⟩))) rfl) ?_
  refine WL.q (Wn.no rfl) rfl rfl (R.move (v := (.pointer (some ⟨b_20, 0, none⟩))) rfl) ?_
  refine WL.q (Wn.no rfl) rfl rfl (R.buildA (vs := []) (cs := (List.replicate 32 (0 : UInt8)).map vu8) Try.underlying23 Try.sizeOf5 (zv Try.typeInfo23 rfl) rfl rfl) ?_
  refine WL.call (al := [(.pointer (some ⟨b_14, 0, none⟩)), (.pointer (some ⟨b_20, 0, none⟩)), (vu64 0), (vi 128), (.agg ⟨(List.replicate 32 (0 : UInt8)).map vu8⟩)]) Try.call37 rfl rfl (c_Up_70_0_128 b_14 b_15 (List.replicate 32 (0 : UInt8)) (List.length_replicate ..) a_16 0 c_17 0 none 0 0 b_20 a_21 (List.replicate 32 (0 : UInt8)) (List.length_replicate ..) _ (h_39.argR (.tail _ (.tail _ (.tail _ (.tail _ (.head _)))))) (h_39.argR (.tail _ (.tail _ (.head _))))) rfl ?_
  rintro _ w_41 ⟨rfl, hc_40⟩
  have h_42 := h_39.same hc_40
  refine WL.q (Wn.no rfl) rfl rfl (R.move (v := (.tuple [(.agg ⟨(List.replicate 32 (0 : UInt8)).map vu8⟩), (vi 2)].toArray)) rfl) ?_
  refine WL.q (Wn.no rfl) rfl rfl (R.extract (l := [(.agg ⟨(List.replicate 32 (0 : UInt8)).map vu8⟩), (vi 2)]) (v := (.agg ⟨(List.replicate 32 (0 : UInt8)).map vu8⟩)) rfl rfl) ?_
  refine WL.q (Wn.no rfl) rfl rfl (R.extract (l := [(.agg ⟨(List.replicate 32 (0 : UInt8)).map vu8⟩), (vi 2)]) (v := (vi 2)) rfl rfl) ?_
  refine WL.alloc (segs := [(32, (List.replicate 32 (0 : UInt8)).map vu8)]) h_42 (zv Try.typeInfo23 rfl) rfl (SsOk.cons (SOk.u8 (List.length_replicate ..)) SsOk.nil) rfl (fun b_43 w_44 h_45 => ?_)
  refine WL.storeA (b := b_43) (off := 0) [] [(32, (List.replicate 32 (0 : UInt8)).map vu8)] [(32, (List.replicate 32 (0 : UInt8)).map vu8)] [] (ys := (List.replicate 32 (0 : UInt8)).map vu8) h_45 rfl rfl Try.sizeOf23 At.h (by decide) rfl rfl rfl rfl rfl rfl (SsOk.cons (SOk.u8 (List.length_replicate ..)) SsOk.nil) (fun w_46 h_47 => ?_)
  refine WL.q (Wn.no rfl) rfl rfl (R.assign (v := (vi 2)) rfl) ?_
  refine WL.nil ?_
  refine thn_n ?_
  refine WP.seq ?_
  refine WP.reg ?_
  refine WL.q (Wn.no rfl) rfl rfl (R.move (v := (.slice a_1 8 cap_2)) rfl) ?_
  refine WL.buildSl (vs := [(0, (vi 128)), (1, (vi 64)), (2, (vi 32)), (3, (vi 16)), (4, (vi 8)), (5, (vi 4)), (6, (vi 2)), (7, (vi 1))]) (cs := ([128, 64, 32, 16, 8, 4, 2, 1] : List Int).map vi64) h_47 Try.underlying70 Try.sizeOf3 (zv Try.typeInfo3 rfl) rfl rfl (by kernel_rfl) rfl (one_i64 _) rfl rfl (fun b_48 w_49 h_50 => ?_)
  refine WL.call (al := [(.slice a_1 8 cap_2), (.slice (some ⟨b_48, 0, none⟩) 8 8)]) Try.call61 rfl rfl (c_same15 a_1 (some ⟨b_48, 0, none⟩) 8 8 cap_2 8 (wayL 0) ([128, 64, 32, 16, 8, 4, 2, 1] : List Int) (rfl : List.length (wayL 0) = 8) (rfl : List.length ([128, 64, 32, 16, 8, 4, 2, 1] : List Int) = 8) (by omega) (by omega) _ (ownView (h_50.ok _ (.tail _ (.tail _ (.tail _ (.tail _ (.tail _ (.tail _ (.tail _ (.tail _ (.tail _ (.tail _ (.tail _ (.tail _ (.tail _ (.head _)))))))))))))))) (viewB (h_50.ok _ (.head _)) Sg.h)) rfl ?_
  rintro _ w_52 ⟨rfl, hc_51⟩
  have h_53 := h_50.same hc_51
  refine WL.q (Wn.no rfl) rfl rfl (R.move (v := (.bool true)) (congrArg Value.bool (decide_eq_true (by decide)))) ?_
  refine WL.want rfl rfl ?_
  refine WL.q (Wn.no rfl) rfl rfl (R.move (v := (.slice a_7 7 cap_8)) rfl) ?_
  refine WL.want rfl rfl ?_
  refine WL.buildSl (vs := [(0, (vi 132)), (1, (vi 67)), (2, (vi 32)), (3, (vi 17)), (4, (vi 9)), (5, (vi 5)), (6, (vi 3))]) (cs := ([132, 67, 32, 17, 9, 5, 3] : List Int).map vi64) h_53 Try.underlying70 Try.sizeOf3 (zv Try.typeInfo3 rfl) rfl rfl (by kernel_rfl) rfl (one_i64 _) rfl rfl (fun b_54 w_55 h_56 => ?_)
  refine WL.want rfl rfl ?_
  refine WL.call (al := [(.slice a_7 7 cap_8), (.slice (some ⟨b_54, 0, none⟩) 7 7)]) Try.call61 rfl rfl (c_same15 a_7 (some ⟨b_54, 0, none⟩) 7 7 cap_8 7 (bsL 5) ([132, 67, 32, 17, 9, 5, 3] : List Int) (rfl : List.length (bsL 5) = 7) (rfl : List.length ([132, 67, 32, 17, 9, 5, 3] : List Int) = 7) (by omega) (by omega) _ (ownView (h_56.ok _ (.tail _ (.tail _ (.tail _ (.tail _ (.tail _ (.tail _ (.tail _ (.tail _ (.tail _ (.tail _ (.tail _ (.tail _ (.tail _ (.head _)))))))))))))))) (viewB (h_56.ok _ (.head _)) Sg.h)) rfl ?_
  rintro _ w_58 ⟨rfl, hc_57⟩
  have h_59 := h_56.same hc_57
  refine WL.q (Wn.no rfl) rfl rfl (R.pickT (v := (.bool true)) rfl (congrArg Value.bool (decide_eq_true (by decide)))) ?_
  refine WL.q (Wn.no rfl) rfl rfl (R.move (v := (.bool true)) rfl) ?_
  refine WL.want rfl rfl ?_
  refine WL.q (Wn.no rfl) rfl rfl (R.move (v := (vi 0)) rfl) ?_
  refine WL.want rfl rfl ?_
  refine WL.call (al := [(vi 0)]) Try.call31 rfl rfl (c_num15 0 (by omega) _ ) rfl ?_
  rintro _ w_61 ⟨rfl, hc_60⟩
  have h_62 := h_59.same hc_60
  refine WL.want rfl rfl ?_
  refine WL.q (Wn.no rfl) rfl rfl (R.move (v := (vi 0)) rfl) ?_
  refine WL.want rfl rfl ?_
  refine WL.call (al := [(vi 0)]) Try.call31 rfl rfl (c_num15 0 (by omega) _ ) rfl ?_
  rintro _ w_64 ⟨rfl, hc_63⟩
  have h_65 := h_62.same hc_63
  refine WL.want rfl rfl ?_
  refine WL.q (Wn.no rfl) rfl rfl (R.bin (v := (vi 0)) rfl rfl (bi_add (c := 0) (by omega) (by omega))) ?_
  refine WL.want rfl rfl ?_
  refine WL.q (Wn.no rfl) rfl rfl (R.move (v := (vi 0)) rfl) ?_
  refine WL.want rfl rfl ?_
  refine WL.call (al := [(vi 0)]) Try.call31 rfl rfl (c_num15 0 (by omega) _ ) rfl ?_
  rintro _ w_67 ⟨rfl, hc_66⟩
  have h_68 := h_65.same hc_66
  refine WL.want rfl rfl ?_
  refine WL.q (Wn.no rfl) rfl rfl (R.bin (v := (vi 0)) rfl rfl (bi_add (c := 0) (by omega) (by omega))) ?_
  refine WL.want rfl rfl ?_
  refine WL.q (Wn.no rfl) rfl rfl (R.bin (v := (.bool true)) rfl rfl (bi_eql (r := true) (by decide))) ?_
  refine WL.q (Wn.no rfl) rfl rfl (R.pickT (v := (.bool true)) rfl rfl) ?_
  refine WL.q (Wn.no rfl) rfl rfl (R.move (v := (.bool true)) rfl) ?_
  refine WL.want rfl rfl ?_
  refine WL.q (Wn.no rfl) rfl rfl (R.move (v := (vi 2)) rfl) ?_
  refine WL.want rfl rfl ?_
  refine WL.call (al := [(vi 2)]) Try.call31 rfl rfl (c_num15 2 (by omega) _ ) rfl ?_
  rintro _ w_70 ⟨rfl, hc_69⟩
  have h_71 := h_68.same hc_69
  refine WL.want rfl rfl ?_
  refine WL.q (Wn.no rfl) rfl rfl (R.bin (v := (.bool true)) rfl rfl (bi_eql (r := true) (by decide))) ?_
  refine WL.q (Wn.no rfl) rfl rfl (R.pickT (v := (.bool true)) rfl rfl) ?_
  refine WL.q (Wn.no rfl) rfl rfl (R.move (v := (.bool true)) rfl) ?_
  refine WL.want rfl rfl ?_
  refine WL.q (Wn.no rfl) rfl rfl (R.move (v := (vi 2)) rfl) ?_
  refine WL.want rfl rfl ?_
  refine WL.call (al := [(vi 2)]) Try.call31 rfl rfl (c_num15 2 (by omega) _ ) rfl ?_
  rintro _ w_73 ⟨rfl, hc_72⟩
  have h_74 := h_71.same hc_72
  refine WL.want rfl rfl ?_
  refine WL.q (Wn.no rfl) rfl rfl (R.bin (v := (.bool true)) rfl rfl (bi_eql (r := true) (by decide))) ?_
  refine WL.q (Wn.no rfl) rfl rfl (R.pickT (v := (.bool true)) rfl rfl) ?_
  refine WL.q (Wn.no rfl) rfl rfl (R.move (v := (.bool true)) rfl) ?_
  refine WL.want rfl rfl ?_
  refine WL.q (Wn.no rfl) rfl rfl (R.move (v := (vi 2)) rfl) ?_
  refine WL.want rfl rfl ?_
  refine WL.call (al := [(vi 2)]) Try.call31 rfl rfl (c_num15 2 (by omega) _ ) rfl ?_
  rintro _ w_76 ⟨rfl, hc_75⟩
  have h_77 := h_74.same hc_75
  refine WL.want rfl rfl ?_
  refine WL.q (Wn.no rfl) rfl rfl (R.bin (v := (.bool true)) rfl rfl (bi_eql (r := true) (by decide))) ?_
  refine WL.q (Wn.no rfl) rfl rfl (R.pickT (v := (.bool true)) rfl rfl) ?_
  refine WL.q (Wn.no rfl) rfl rfl (R.assign (v := (.bool true)) rfl) ?_
  refine WL.nil ?_
  refine thn_n ?_
  refine WP.ret ?_
  refine ret_of Try.results32 (RV.tmp (v := (.bool true)) rfl RV.nil) ?_
  exact ⟨rfl, h_77.chgS⟩
end Go.Proofs.Ytnhppjimimhlkaa
