/- The rows that are known. Conditions: those that each theorem states. -/
import Derived.Test.YtcmgadjnammahaaT5
namespace Go.Proofs.Ytcmgadjnammahaa
open Go.Vc Go.RowKit
set_option linter.unusedVariables false
set_option linter.unusedSimpArgs false
set_option maxRecDepth 20000

theorem c_known1  (w : World) :
    Cs Try.prog 22 [].toArray w (fun v w1 => v = .bool true ∧ Chg w w1 []) := by
  refine Cs.of (n := 137) (args := []) Try.func22 rfl rfl rfl ?_
  have h_0 := HP.init w
  refine WP.seq ?_
  refine WP.reg ?_
  refine WL.q (Wn.no rfl) rfl rfl (R.assign (v := (.bool false)) rfl) ?_
  refine WL.nil ?_
  refine thn_n ?_
  refine WP.seq ?_
  refine WP.reg ?_
  refine WL.call (al := [(vu64 258), (vi 2)]) Try.call16 rfl rfl (c_Put_a 258 2 (by decide) (by decide) (by decide) _) rfl ?_
  rintro _ w_3 ⟨a_1, cap_2, rfl, hc_4, ho_5⟩
  have h_6 := h_0.gotRow hc_4 ho_5
  refine WL.q (Wn.no rfl) rfl rfl (R.move (v := (.tuple [(.slice a_1 2 cap_2), (vi 0)].toArray)) rfl) ?_
  refine WL.q (Wn.no rfl) rfl rfl (R.extract (l := [(.slice a_1 2 cap_2), (vi 0)]) (v := (.slice a_1 2 cap_2)) rfl rfl) ?_
  refine WL.q (Wn.no rfl) rfl rfl (R.extract (l := [(.slice a_1 2 cap_2), (vi 0)]) (v := (vi 0)) rfl rfl) ?_
  refine WL.q (Wn.no rfl) rfl rfl (R.assign (v := (.slice a_1 2 cap_2)) rfl) ?_
  refine WL.q (Wn.no rfl) rfl rfl (R.assign (v := (vi 0)) rfl) ?_
  refine WL.nil ?_
  refine thn_n ?_
  refine WP.seq ?_
  refine WP.reg ?_
  refine WL.call (al := [(vu64 256), (vi 1)]) Try.call16 rfl rfl (c_Put_no 256 1 (by decide) (by decide) (by decide) _ ) rfl ?_
  rintro _ w_8 ⟨rfl, hc_7⟩
  have h_9 := h_6.same hc_7
  refine WL.q (Wn.no rfl) rfl rfl (R.move (v := (.tuple [(.slice none 0 0), (vi 2)].toArray)) rfl) ?_
  refine WL.q (Wn.no rfl) rfl rfl (R.extract (l := [(.slice none 0 0), (vi 2)]) (v := (.slice none 0 0)) rfl rfl) ?_
  refine WL.q (Wn.no rfl) rfl rfl (R.extract (l := [(.slice none 0 0), (vi 2)]) (v := (vi 2)) rfl rfl) ?_
  refine WL.q (Wn.no rfl) rfl rfl (R.assign (v := (.slice none 0 0)) rfl) ?_
  refine WL.q (Wn.no rfl) rfl rfl (R.assign (v := (vi 2)) rfl) ?_
  refine WL.nil ?_
  refine thn_n ?_
  refine WP.seq ?_
  refine WP.reg ?_
  refine WL.call (al := [(vu64 1), (vi 9)]) Try.call16 rfl rfl (c_Put_hi 1 9 (by decide) _ ) rfl ?_
  rintro _ w_11 ⟨rfl, hc_10⟩
  have h_12 := h_9.same hc_10
  refine WL.q (Wn.no rfl) rfl rfl (R.move (v := (.tuple [(.slice none 0 0), (vi 2)].toArray)) rfl) ?_
  refine WL.q (Wn.no rfl) rfl rfl (R.extract (l := [(.slice none 0 0), (vi 2)]) (v := (.slice none 0 0)) rfl rfl) ?_
  refine WL.q (Wn.no rfl) rfl rfl (R.extract (l := [(.slice none 0 0), (vi 2)]) (v := (vi 2)) rfl rfl) ?_
  refine WL.q (Wn.no rfl) rfl rfl (R.assign (v := (.slice none 0 0)) rfl) ?_
  refine WL.q (Wn.no rfl) rfl rfl (R.assign (v := (vi 2)) rfl) ?_
  refine WL.nil ?_
  refine thn_n ?_
  refine WP.seq ?_
  refine WP.reg ?_
  refine WL.buildSl (vs := [(0, (vu8 2)), (1, (vu8 1))]) (cs := ([2, 1] : List UInt8).map vu8) h_12 Try.underlying23 Try.sizeOf5 (zv Try.typeInfo5 rfl) rfl rfl (by kernel_rfl) rfl (one_u8 _) rfl rfl (fun b_13 w_14 h_15 => ?_)
  refine WL.call (al := [(.slice (some ⟨b_13, 0, none⟩) 2 2)]) Try.call21 rfl rfl (c_Get_ok (some ⟨b_13, 0, none⟩) 2 2 ([2, 1] : List UInt8) (rfl : List.length ([2, 1] : List UInt8) = 2) (by omega) (by omega) _ (viewB (h_15.ok _ (.head _)) Sg.h)) rfl ?_
  rintro _ w_17 ⟨rfl, hc_16⟩
  have h_18 := h_15.same hc_16
  refine WL.q (Wn.no rfl) rfl rfl (R.move (v := (.tuple [(vu64 (UInt64.ofNat (natLE ([2, 1] : List UInt8)))), (vi 0)].toArray)) rfl) ?_
  refine WL.q (Wn.no rfl) rfl rfl (R.extract (l := [(vu64 (UInt64.ofNat (natLE ([2, 1] : List UInt8)))), (vi 0)]) (v := (vu64 (UInt64.ofNat (natLE ([2, 1] : List UInt8))))) rfl rfl) ?_
  refine WL.q (Wn.no rfl) rfl rfl (R.extract (l := [(vu64 (UInt64.ofNat (natLE ([2, 1] : List UInt8)))), (vi 0)]) (v := (vi 0)) rfl rfl) ?_
  refine WL.q (Wn.no rfl) rfl rfl (R.assign (v := (vu64 (UInt64.ofNat (natLE ([2, 1] : List UInt8))))) rfl) ?_
  refine WL.q (Wn.no rfl) rfl rfl (R.assign (v := (vi 0)) rfl) ?_
  refine WL.nil ?_
  refine thn_n ?_
  refine WP.seq ?_
  refine WP.reg ?_
  refine WL.buildSl (vs := [(0, (vu8 7))]) (cs := ([7] : List UInt8).map vu8) h_18 Try.underlying23 Try.sizeOf5 (zv Try.typeInfo5 rfl) rfl rfl (by kernel_rfl) rfl (one_u8 _) rfl rfl (fun b_19 w_20 h_21 => ?_)
  refine WL.buildSl (vs := [(0, (.slice (some ⟨b_19, 0, none⟩) 1 1)), (1, (.slice none 0 0))]) (cs := [(.slice (some ⟨b_19, 0, none⟩) 1 1), (.slice none 0 0)]) h_21 Try.underlying40 Try.sizeOf23 (zv Try.typeInfo23 rfl) rfl rfl (by kernel_rfl) rfl (by simp [Value.oneCell']) rfl rfl (fun b_22 w_23 h_24 => ?_)
  refine WL.call (al := [(.slice (some ⟨b_22, 0, none⟩) 2 2)]) Try.call27 rfl rfl (c_Pack_t (some ⟨b_22, 0, none⟩) 2 2 [(.slice (some ⟨b_19, 0, none⟩) 1 1), (.slice none 0 0)] [([7] : List UInt8), ([] : List UInt8)] rfl (by decide +kernel) _ (viewB (h_24.ok _ (.head _)) Sg.h) (Sls.cons (rfl : List.length ([7] : List UInt8) = 1) (by decide) (viewB (h_24.ok _ (.tail _ (.head _))) Sg.h) (Sls.cons (rfl : List.length ([] : List UInt8) = 0) (by decide) (View.nil _ _) Sls.nil))) rfl ?_
  rintro _ w_27 ⟨a_25, cap_26, rfl, hc_28, ho_29⟩
  have h_30 := h_24.gotRow hc_28 ho_29
  refine WL.q (Wn.no rfl) rfl rfl (R.move (v := (.tuple [(.slice a_25 ((Go.Wr.packL [([7] : List UInt8), ([] : List UInt8)]).length) cap_26), (vi 0)].toArray)) rfl) ?_
  refine WL.q (Wn.no rfl) rfl rfl (R.extract (l := [(.slice a_25 ((Go.Wr.packL [([7] : List UInt8), ([] : List UInt8)]).length) cap_26), (vi 0)]) (v := (.slice a_25 ((Go.Wr.packL [([7] : List UInt8), ([] : List UInt8)]).length) cap_26)) rfl rfl) ?_
  refine WL.q (Wn.no rfl) rfl rfl (R.extract (l := [(.slice a_25 ((Go.Wr.packL [([7] : List UInt8), ([] : List UInt8)]).length) cap_26), (vi 0)]) (v := (vi 0)) rfl rfl) ?_
  refine WL.q (Wn.no rfl) rfl rfl (R.assign (v := (.slice a_25 ((Go.Wr.packL [([7] : List UInt8), ([] : List UInt8)]).length) cap_26)) rfl) ?_
  refine WL.q (Wn.no rfl) rfl rfl (R.assign (v := (vi 0)) rfl) ?_
  refine WL.nil ?_
  refine thn_n ?_
  refine WP.seq ?_
  refine WP.reg ?_
  refine WL.buildSl (vs := [(0, (vu8 1)), (1, (vu8 0)), (2, (vu8 0)), (3, (vu8 0))]) (cs := ([1, 0, 0, 0] : List UInt8).map vu8) h_30 Try.underlying23 Try.sizeOf5 (zv Try.typeInfo5 rfl) rfl rfl (by kernel_rfl) rfl (one_u8 _) rfl rfl (fun b_31 w_32 h_33 => ?_)
  refine WL.call (al := [(.slice (some ⟨b_31, 0, none⟩) 4 4)]) Try.call30 rfl rfl (c_Unpack_k (some ⟨b_31, 0, none⟩) 4 _ (viewB (h_33.ok _ (.head _)) Sg.h)) rfl ?_
  rintro _ w_35 ⟨rfl, hc_34⟩
  have h_36 := h_33.same hc_34
  refine WL.q (Wn.no rfl) rfl rfl (R.move (v := (.tuple [(.slice none 0 0), (vi 4)].toArray)) rfl) ?_
  refine WL.q (Wn.no rfl) rfl rfl (R.extract (l := [(.slice none 0 0), (vi 4)]) (v := (.slice none 0 0)) rfl rfl) ?_
  refine WL.q (Wn.no rfl) rfl rfl (R.extract (l := [(.slice none 0 0), (vi 4)]) (v := (vi 4)) rfl rfl) ?_
  refine WL.q (Wn.no rfl) rfl rfl (R.assign (v := (.slice none 0 0)) rfl) ?_
  refine WL.q (Wn.no rfl) rfl rfl (R.assign (v := (vi 4)) rfl) ?_
  refine WL.nil ?_
  refine thn_n ?_
  refine WP.seq ?_
  refine WP.reg ?_
  refine WL.call (al := [(.string (bstr ([70, 70] : List UInt8)))]) Try.call24 rfl rfl (c_Unhex_no ([70, 70] : List UInt8) 2 rfl (by omega) (by decide +kernel) _ ) rfl ?_
  rintro _ w_38 ⟨rfl, hc_37⟩
  have h_39 := h_36.same hc_37
  refine WL.q (Wn.no rfl) rfl rfl (R.move (v := (.tuple [(.slice none 0 0), (vi 4)].toArray)) rfl) ?_
  refine WL.q (Wn.no rfl) rfl rfl (R.extract (l := [(.slice none 0 0), (vi 4)]) (v := (.slice none 0 0)) rfl rfl) ?_
  refine WL.q (Wn.no rfl) rfl rfl (R.extract (l := [(.slice none 0 0), (vi 4)]) (v := (vi 4)) rfl rfl) ?_
  refine WL.q (Wn.no rfl) rfl rfl (R.assign (v := (.slice none 0 0)) rfl) ?_
  refine WL.q (Wn.no rfl) rfl rfl (R.assign (v := (vi 4)) rfl) ?_
  refine WL.nil ?_
  refine thn_n ?_
  refine WP.seq ?_
  refine WP.reg ?_
  refine WL.call (al := [(.string (bstr ([102] : List UInt8)))]) Try.call24 rfl rfl (c_Unhex_no ([102] : List UInt8) 1 rfl (by omega) (by decide +kernel) _ ) rfl ?_
  rintro _ w_41 ⟨rfl, hc_40⟩
  have h_42 := h_39.same hc_40
  refine WL.q (Wn.no rfl) rfl rfl (R.move (v := (.tuple [(.slice none 0 0), (vi 4)].toArray)) rfl) ?_
  refine WL.q (Wn.no rfl) rfl rfl (R.extract (l := [(.slice none 0 0), (vi 4)]) (v := (.slice none 0 0)) rfl rfl) ?_
  refine WL.q (Wn.no rfl) rfl rfl (R.extract (l := [(.slice none 0 0), (vi 4)]) (v := (vi 4)) rfl rfl) ?_
  refine WL.q (Wn.no rfl) rfl rfl (R.assign (v := (.slice none 0 0)) rfl) ?_
  refine WL.q (Wn.no rfl) rfl rfl (R.assign (v := (vi 4)) rfl) ?_
  refine WL.nil ?_
  refine thn_n ?_
  refine WP.seq ?_
  refine WP.reg ?_
  refine WL.buildSl (vs := [(0, (vu8 1)), (1, (vu8 2)), (2, (vu8 3))]) (cs := ([1, 2, 3] : List UInt8).map vu8) h_42 Try.underlying23 Try.sizeOf5 (zv Try.typeInfo5 rfl) rfl rfl (by kernel_rfl) rfl (one_u8 _) rfl rfl (fun b_43 w_44 h_45 => ?_)
  refine WL.buildSl (vs := [(0, (vi 2)), (1, (vi 1))]) (cs := [(vi 2), (vi 1)]) h_45 Try.underlying60 Try.sizeOf3 (zv Try.typeInfo3 rfl) rfl rfl (by kernel_rfl) rfl (by simp [Value.oneCell']) rfl rfl (fun b_46 w_47 h_48 => ?_)
  refine WL.call (al := [(.slice (some ⟨b_43, 0, none⟩) 3 3), (.slice (some ⟨b_46, 0, none⟩) 2 2)]) Try.call50 rfl rfl (c_Cut_k1 (some ⟨b_43, 0, none⟩) 3 (some ⟨b_46, 0, none⟩) 2 _ (viewB (h_48.ok _ (.tail _ (.head _))) Sg.h) (viewB (h_48.ok _ (.head _)) Sg.h)) rfl ?_
  rintro _ w_52 ⟨a_49, cap_50, xs_51, rfl, hc_53, hv_54, hs_55, hb_56⟩
  have h_57 := h_48.gotSls hc_53 hv_54 hs_55 hb_56
  refine WL.q (Wn.no rfl) rfl rfl (R.move (v := (.tuple [(.slice a_49 2 cap_50), (vi 0)].toArray)) rfl) ?_
  refine WL.q (Wn.no rfl) rfl rfl (R.extract (l := [(.slice a_49 2 cap_50), (vi 0)]) (v := (.slice a_49 2 cap_50)) rfl rfl) ?_
  refine WL.q (Wn.no rfl) rfl rfl (R.extract (l := [(.slice a_49 2 cap_50), (vi 0)]) (v := (vi 0)) rfl rfl) ?_
  refine WL.q (Wn.no rfl) rfl rfl (R.assign (v := (.slice a_49 2 cap_50)) rfl) ?_
  refine WL.q (Wn.no rfl) rfl rfl (R.assign (v := (vi 0)) rfl) ?_
  refine WL.nil ?_
  refine thn_n ?_
  refine WP.seq ?_
  refine WP.reg ?_
  refine WL.buildSl (vs := [(0, (vu8 1))]) (cs := ([1] : List UInt8).map vu8) h_57 Try.underlying23 Try.sizeOf5 (zv Try.typeInfo5 rfl) rfl rfl (by kernel_rfl) rfl (one_u8 _) rfl rfl (fun b_58 w_59 h_60 => ?_)
  refine WL.buildSl (vs := [(0, (vi 2))]) (cs := [(vi 2)]) h_60 Try.underlying60 Try.sizeOf3 (zv Try.typeInfo3 rfl) rfl rfl (by kernel_rfl) rfl (by simp [Value.oneCell']) rfl rfl (fun b_61 w_62 h_63 => ?_)
  refine WL.call (al := [(.slice (some ⟨b_58, 0, none⟩) 1 1), (.slice (some ⟨b_61, 0, none⟩) 1 1)]) Try.call50 rfl rfl (c_Cut_k2 (some ⟨b_58, 0, none⟩) 1 (some ⟨b_61, 0, none⟩) 1 _ (viewB (h_63.ok _ (.tail _ (.head _))) Sg.h) (viewB (h_63.ok _ (.head _)) Sg.h)) rfl ?_
  rintro _ w_65 ⟨rfl, hc_64⟩
  have h_66 := h_63.same hc_64
  refine WL.q (Wn.no rfl) rfl rfl (R.move (v := (.tuple [(.slice none 0 0), (vi 4)].toArray)) rfl) ?_
  refine WL.q (Wn.no rfl) rfl rfl (R.extract (l := [(.slice none 0 0), (vi 4)]) (v := (.slice none 0 0)) rfl rfl) ?_
  refine WL.q (Wn.no rfl) rfl rfl (R.extract (l := [(.slice none 0 0), (vi 4)]) (v := (vi 4)) rfl rfl) ?_
  refine WL.q (Wn.no rfl) rfl rfl (R.assign (v := (.slice none 0 0)) rfl) ?_
  refine WL.q (Wn.no rfl) rfl rfl (R.assign (v := (vi 4)) rfl) ?_
  refine WL.nil ?_
  refine thn_n ?_
  refine WP.seq ?_
  refine WP.reg ?_
  refine WL.q (Wn.no rfl) rfl rfl (R.move (v := (vi 0)) rfl) ?_
  refine WL.call (al := [(vi 0)]) Try.call18 rfl rfl (c_num1 0 (by omega) _ ) rfl ?_
  rintro _ w_68 ⟨rfl, hc_67⟩
  have h_69 := h_66.same hc_67
  refine WL.q (Wn.no rfl) rfl rfl (R.move (v := (vi 0)) rfl) ?_
  refine WL.call (al := [(vi 0)]) Try.call18 rfl rfl (c_num1 0 (by omega) _ ) rfl ?_
  rintro _ w_71 ⟨rfl, hc_70⟩
  have h_72 := h_69.same hc_70
  refine WL.q (Wn.no rfl) rfl rfl (R.bin (v := (vi 0)) rfl rfl (bi_add (c := 0) (by omega) (by omega))) ?_
  refine WL.q (Wn.no rfl) rfl rfl (R.move (v := (vi 0)) rfl) ?_
  refine WL.call (al := [(vi 0)]) Try.call18 rfl rfl (c_num1 0 (by omega) _ ) rfl ?_
  rintro _ w_74 ⟨rfl, hc_73⟩
  have h_75 := h_72.same hc_73
  refine WL.q (Wn.no rfl) rfl rfl (R.bin (v := (vi 0)) rfl rfl (bi_add (c := 0) (by omega) (by omega))) ?_
  refine WL.q (Wn.no rfl) rfl rfl (R.move (v := (vi 0)) rfl) ?_
  refine WL.call (al := [(vi 0)]) Try.call18 rfl rfl (c_num1 0 (by omega) _ ) rfl ?_
  rintro _ w_77 ⟨rfl, hc_76⟩
  have h_78 := h_75.same hc_76
  refine WL.q (Wn.no rfl) rfl rfl (R.bin (v := (vi 0)) rfl rfl (bi_add (c := 0) (by omega) (by omega))) ?_
  refine WL.q (Wn.no rfl) rfl rfl (R.bin (v := (.bool true)) rfl rfl (bi_eql (r := true) (by decide))) ?_
  refine WL.q (Wn.no rfl) rfl rfl (R.move (v := (.bool true)) rfl) ?_
  refine WL.want rfl rfl ?_
  refine WL.q (Wn.no rfl) rfl rfl (R.move (v := (.slice a_1 2 cap_2)) rfl) ?_
  refine WL.want rfl rfl ?_
  refine WL.buildSl (vs := [(0, (vu8 2)), (1, (vu8 1))]) (cs := ([2, 1] : List UInt8).map vu8) h_78 Try.underlying23 Try.sizeOf5 (zv Try.typeInfo5 rfl) rfl rfl (by kernel_rfl) rfl (one_u8 _) rfl rfl (fun b_79 w_80 h_81 => ?_)
  refine WL.want rfl rfl ?_
  refine WL.call (al := [(.slice a_1 2 cap_2), (.slice (some ⟨b_79, 0, none⟩) 2 2)]) Try.call19 rfl rfl (c_SameR a_1 2 cap_2 (leN 2 (258 : UInt64).toNat) (leN_len ..) (some ⟨b_79, 0, none⟩) 2 2 ([2, 1] : List UInt8) (rfl : List.length ([2, 1] : List UInt8) = 2) _ (ownView (h_81.ok _ (.tail _ (.tail _ (.tail _ (.tail _ (.tail _ (.tail _ (.tail _ (.tail _ (.tail _ (.tail _ (.tail _ (.tail _ (.head _))))))))))))))) (viewB (h_81.ok _ (.head _)) Sg.h)) rfl ?_
  rintro _ w_83 ⟨rfl, hc_82⟩
  have h_84 := h_81.same hc_82
  refine WL.q (Wn.no rfl) rfl rfl (R.pickT (v := (.bool true)) rfl (congrArg Value.bool (decide_eq_true (by decide +kernel)))) ?_
  refine WL.q (Wn.no rfl) rfl rfl (R.move (v := (.bool true)) rfl) ?_
  refine WL.want rfl rfl ?_
  refine WL.q (Wn.no rfl) rfl rfl (R.move (v := (vi 2)) rfl) ?_
  refine WL.want rfl rfl ?_
  refine WL.call (al := [(vi 2)]) Try.call18 rfl rfl (c_num1 2 (by omega) _ ) rfl ?_
  rintro _ w_86 ⟨rfl, hc_85⟩
  have h_87 := h_84.same hc_85
  refine WL.want rfl rfl ?_
  refine WL.q (Wn.no rfl) rfl rfl (R.bin (v := (.bool true)) rfl rfl (bi_eql (r := true) (by decide))) ?_
  refine WL.q (Wn.no rfl) rfl rfl (R.pickT (v := (.bool true)) rfl rfl) ?_
  refine WL.q (Wn.no rfl) rfl rfl (R.move (v := (.bool true)) rfl) ?_
  refine WL.want rfl rfl ?_
  refine WL.q (Wn.no rfl) rfl rfl (R.move (v := (vi 2)) rfl) ?_
  refine WL.want rfl rfl ?_
  refine WL.call (al := [(vi 2)]) Try.call18 rfl rfl (c_num1 2 (by omega) _ ) rfl ?_
  rintro _ w_89 ⟨rfl, hc_88⟩
  have h_90 := h_87.same hc_88
  refine WL.want rfl rfl ?_
  refine WL.q (Wn.no rfl) rfl rfl (R.bin (v := (.bool true)) rfl rfl (bi_eql (r := true) (by decide))) ?_
  refine WL.q (Wn.no rfl) rfl rfl (R.pickT (v := (.bool true)) rfl rfl) ?_
  refine WL.q (Wn.no rfl) rfl rfl (R.move (v := (.bool true)) rfl) ?_
  refine WL.want rfl rfl ?_
  refine WL.q (Wn.no rfl) rfl rfl (R.move (v := (vu64 (UInt64.ofNat (natLE ([2, 1] : List UInt8))))) rfl) ?_
  refine WL.want rfl rfl ?_
  refine WL.q (Wn.no rfl) rfl rfl (R.bin (v := (.bool true)) rfl rfl (b64_eql (UInt64.ofNat (natLE ([2, 1] : List UInt8))) 258 (r := true) (by decide +kernel))) ?_
  refine WL.q (Wn.no rfl) rfl rfl (R.pickT (v := (.bool true)) rfl rfl) ?_
  refine WL.q (Wn.no rfl) rfl rfl (R.move (v := (.bool true)) rfl) ?_
  refine WL.want rfl rfl ?_
  refine WL.q (Wn.no rfl) rfl rfl (R.move (v := (.slice a_25 ((Go.Wr.packL [([7] : List UInt8), ([] : List UInt8)]).length) cap_26)) rfl) ?_
  refine WL.want rfl rfl ?_
  refine WL.buildSl (vs := [(0, (vu8 1)), (1, (vu8 0)), (2, (vu8 0)), (3, (vu8 0)), (4, (vu8 7)), (5, (vu8 0)), (6, (vu8 0)), (7, (vu8 0)), (8, (vu8 0))]) (cs := ([1, 0, 0, 0, 7, 0, 0, 0, 0] : List UInt8).map vu8) h_90 Try.underlying23 Try.sizeOf5 (zv Try.typeInfo5 rfl) rfl rfl (by kernel_rfl) rfl (one_u8 _) rfl rfl (fun b_91 w_92 h_93 => ?_)
  refine WL.want rfl rfl ?_
  refine WL.call (al := [(.slice a_25 ((Go.Wr.packL [([7] : List UInt8), ([] : List UInt8)]).length) cap_26), (.slice (some ⟨b_91, 0, none⟩) 9 9)]) Try.call19 rfl rfl (c_SameR a_25 ((Go.Wr.packL [([7] : List UInt8), ([] : List UInt8)]).length) cap_26 (Go.Wr.packL [([7] : List UInt8), ([] : List UInt8)]) (rfl : List.length (Go.Wr.packL [([7] : List UInt8), ([] : List UInt8)]) = (Go.Wr.packL [([7] : List UInt8), ([] : List UInt8)]).length) (some ⟨b_91, 0, none⟩) 9 9 ([1, 0, 0, 0, 7, 0, 0, 0, 0] : List UInt8) (rfl : List.length ([1, 0, 0, 0, 7, 0, 0, 0, 0] : List UInt8) = 9) _ (ownView (h_93.ok _ (.tail _ (.tail _ (.tail _ (.tail _ (.tail _ (.tail _ (.tail _ (.tail _ (.tail _ (.head _)))))))))))) (viewB (h_93.ok _ (.head _)) Sg.h)) rfl ?_
  rintro _ w_95 ⟨rfl, hc_94⟩
  have h_96 := h_93.same hc_94
  refine WL.q (Wn.no rfl) rfl rfl (R.pickT (v := (.bool true)) rfl (congrArg Value.bool (decide_eq_true (by decide +kernel)))) ?_
  refine WL.q (Wn.no rfl) rfl rfl (R.move (v := (.bool true)) rfl) ?_
  refine WL.want rfl rfl ?_
  refine WL.q (Wn.no rfl) rfl rfl (R.move (v := (vi 4)) rfl) ?_
  refine WL.want rfl rfl ?_
  refine WL.call (al := [(vi 4)]) Try.call18 rfl rfl (c_num1 4 (by omega) _ ) rfl ?_
  rintro _ w_98 ⟨rfl, hc_97⟩
  have h_99 := h_96.same hc_97
  refine WL.want rfl rfl ?_
  refine WL.q (Wn.no rfl) rfl rfl (R.bin (v := (.bool true)) rfl rfl (bi_eql (r := true) (by decide))) ?_
  refine WL.q (Wn.no rfl) rfl rfl (R.pickT (v := (.bool true)) rfl rfl) ?_
  refine WL.q (Wn.no rfl) rfl rfl (R.move (v := (.bool true)) rfl) ?_
  refine WL.want rfl rfl ?_
  refine WL.buildSl (vs := [(0, (vu8 255)), (1, (vu8 1))]) (cs := ([255, 1] : List UInt8).map vu8) h_99 Try.underlying23 Try.sizeOf5 (zv Try.typeInfo5 rfl) rfl rfl (by kernel_rfl) rfl (one_u8 _) rfl rfl (fun b_100 w_101 h_102 => ?_)
  refine WL.want rfl rfl ?_
  refine WL.call (al := [(.slice (some ⟨b_100, 0, none⟩) 2 2)]) Try.call33 rfl rfl (c_Hex (some ⟨b_100, 0, none⟩) 2 2 ([255, 1] : List UInt8) (rfl : List.length ([255, 1] : List UInt8) = 2) (by omega) _ (viewB (h_102.ok _ (.head _)) Sg.h)) rfl ?_
  rintro _ w_104 ⟨rfl, hc_103⟩
  have h_105 := h_102.same hc_103
  refine WL.want rfl rfl ?_
  refine WL.q (Wn.no rfl) rfl rfl (R.eqStr (a := Go.Wr.hexL ([255, 1] : List UInt8)) (b := ([102, 102, 48, 49] : List UInt8)) (r := true) rfl rfl (by decide +kernel)) ?_
  refine WL.q (Wn.no rfl) rfl rfl (R.pickT (v := (.bool true)) rfl rfl) ?_
  refine WL.q (Wn.no rfl) rfl rfl (R.move (v := (.bool true)) rfl) ?_
  refine WL.want rfl rfl ?_
  refine WL.q (Wn.no rfl) rfl rfl (R.move (v := (vi 4)) rfl) ?_
  refine WL.want rfl rfl ?_
  refine WL.call (al := [(vi 4)]) Try.call18 rfl rfl (c_num1 4 (by omega) _ ) rfl ?_
  rintro _ w_107 ⟨rfl, hc_106⟩
  have h_108 := h_105.same hc_106
  refine WL.want rfl rfl ?_
  refine WL.q (Wn.no rfl) rfl rfl (R.bin (v := (.bool true)) rfl rfl (bi_eql (r := true) (by decide))) ?_
  refine WL.q (Wn.no rfl) rfl rfl (R.pickT (v := (.bool true)) rfl rfl) ?_
  refine WL.q (Wn.no rfl) rfl rfl (R.move (v := (.bool true)) rfl) ?_
  refine WL.want rfl rfl ?_
  refine WL.q (Wn.no rfl) rfl rfl (R.move (v := (vi 4)) rfl) ?_
  refine WL.want rfl rfl ?_
  refine WL.call (al := [(vi 4)]) Try.call18 rfl rfl (c_num1 4 (by omega) _ ) rfl ?_
  rintro _ w_110 ⟨rfl, hc_109⟩
  have h_111 := h_108.same hc_109
  refine WL.want rfl rfl ?_
  refine WL.q (Wn.no rfl) rfl rfl (R.bin (v := (.bool true)) rfl rfl (bi_eql (r := true) (by decide))) ?_
  refine WL.q (Wn.no rfl) rfl rfl (R.pickT (v := (.bool true)) rfl rfl) ?_
  refine WL.q (Wn.no rfl) rfl rfl (R.move (v := (.bool true)) rfl) ?_
  refine WL.want rfl rfl ?_
  refine WL.q (Wn.no rfl) rfl rfl (R.move (v := (.slice a_49 2 cap_50)) rfl) ?_
  refine WL.want rfl rfl ?_
  refine WL.buildSl (vs := [(0, (vu8 1)), (1, (vu8 2))]) (cs := ([1, 2] : List UInt8).map vu8) h_111 Try.underlying23 Try.sizeOf5 (zv Try.typeInfo5 rfl) rfl rfl (by kernel_rfl) rfl (one_u8 _) rfl rfl (fun b_112 w_113 h_114 => ?_)
  refine WL.want rfl rfl ?_
  refine WL.buildSl (vs := [(0, (vu8 3))]) (cs := ([3] : List UInt8).map vu8) h_114 Try.underlying23 Try.sizeOf5 (zv Try.typeInfo5 rfl) rfl rfl (by kernel_rfl) rfl (one_u8 _) rfl rfl (fun b_115 w_116 h_117 => ?_)
  refine WL.want rfl rfl ?_
  refine WL.buildSl (vs := [(0, (.slice (some ⟨b_112, 0, none⟩) 2 2)), (1, (.slice (some ⟨b_115, 0, none⟩) 1 1))]) (cs := [(.slice (some ⟨b_112, 0, none⟩) 2 2), (.slice (some ⟨b_115, 0, none⟩) 1 1)]) h_117 Try.underlying40 Try.sizeOf23 (zv Try.typeInfo23 rfl) rfl rfl (by kernel_rfl) rfl (by simp [Value.oneCell']) rfl rfl (fun b_118 w_119 h_120 => ?_)
  refine WL.want rfl rfl ?_
  refine WL.call (al := [(.slice a_49 2 cap_50), (.slice (some ⟨b_118, 0, none⟩) 2 2)]) Try.call32 rfl rfl (c_SameLists a_49 2 cap_50 xs_51 [([1, 2] : List UInt8), [3]] rfl (some ⟨b_118, 0, none⟩) 2 2 [(.slice (some ⟨b_112, 0, none⟩) 2 2), (.slice (some ⟨b_115, 0, none⟩) 1 1)] [([1, 2] : List UInt8), ([3] : List UInt8)] rfl (by omega) (by omega) _ (viewV (h_120.ok _ (.tail _ (.tail _ (.tail _ (.tail _ (.tail _ (.tail _ (.tail _ (.tail _ (.tail _ (.head _)))))))))))) (h_120.ok _ (.tail _ (.tail _ (.tail _ (.tail _ (.tail _ (.tail _ (.tail _ (.tail _ (.head _)))))))))).1 (viewB (h_120.ok _ (.head _)) Sg.h) (Sls.cons (rfl : List.length ([1, 2] : List UInt8) = 2) (by decide) (viewB (h_120.ok _ (.tail _ (.tail _ (.head _)))) Sg.h) (Sls.cons (rfl : List.length ([3] : List UInt8) = 1) (by decide) (viewB (h_120.ok _ (.tail _ (.head _))) Sg.h) Sls.nil))) rfl ?_
  rintro _ w_122 ⟨rfl, hc_121⟩
  have h_123 := h_120.same hc_121
  refine WL.q (Wn.no rfl) rfl rfl (R.pickT (v := (.bool true)) rfl (congrArg Value.bool (decide_eq_true (by decide +kernel)))) ?_
  refine WL.q (Wn.no rfl) rfl rfl (R.move (v := (.bool true)) rfl) ?_
  refine WL.want rfl rfl ?_
  refine WL.q (Wn.no rfl) rfl rfl (R.move (v := (vi 4)) rfl) ?_
  refine WL.want rfl rfl ?_
  refine WL.call (al := [(vi 4)]) Try.call18 rfl rfl (c_num1 4 (by omega) _ ) rfl ?_
  rintro _ w_125 ⟨rfl, hc_124⟩
  have h_126 := h_123.same hc_124
  refine WL.want rfl rfl ?_
  refine WL.q (Wn.no rfl) rfl rfl (R.bin (v := (.bool true)) rfl rfl (bi_eql (r := true) (by decide))) ?_
  refine WL.q (Wn.no rfl) rfl rfl (R.pickT (v := (.bool true)) rfl rfl) ?_
  refine WL.q (Wn.no rfl) rfl rfl (R.assign (v := (.bool true)) rfl) ?_
  refine WL.nil ?_
  refine thn_n ?_
  refine WP.ret ?_
  refine ret_of Try.results22 (RV.tmp (v := (.bool true)) rfl RV.nil) ?_
  exact ⟨rfl, h_126.chgS⟩
end Go.Proofs.Ytcmgadjnammahaa
