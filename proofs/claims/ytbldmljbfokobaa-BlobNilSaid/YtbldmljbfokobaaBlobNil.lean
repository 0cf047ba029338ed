/- BlobNil holds of every input. Conditions: none. -/
import Derived.Test.YtbldmljbfokobaaQ8
namespace Go.Proofs.Ytbldmljbfokobaa
open Go.Vc Go.Orc Go.RowKit
set_option linter.unusedVariables false
set_option linter.unusedSimpArgs false
set_option maxRecDepth 20000

theorem w_BlobNil  (w : World) :
    Cs Try.prog 8 [].toArray w (fun v w1 => v = .bool true ∧ Chg w w1 []) := by
  refine Cs.of (n := 69) (args := []) Try.func8 rfl rfl rfl ?_
  have h_0 := HP.init w
  refine WP.seq ?_
  refine WP.reg ?_
  refine WL.q (Wn.no rfl) rfl rfl (R.assign (v := (.bool false)) rfl) ?_
  refine WL.nil ?_
  refine thn_n ?_
  refine WP.seq ?_
  refine WP.reg ?_
  refine WL.q (Wn.no rfl) rfl rfl (R.buildA (vs := []) (cs := (List.replicate 32 (0 : UInt8)).map vu8) Try.underlying29 Try.sizeOf5 (zv Try.typeInfo29 rfl) rfl rfl) ?_
  refine WL.q (Wn.no rfl) rfl rfl (R.buildA (vs := []) (cs := (List.replicate 128 (0 : UInt8)).map vu8) Try.underlying42 Try.sizeOf5 (zv Try.typeInfo42 rfl) rfl rfl) ?_
  refine WL.call (al := [(.pointer none), (.agg ⟨(List.replicate 32 (0 : UInt8)).map vu8⟩), (vi 500), (vu64 0), (.agg ⟨(List.replicate 128 (0 : UInt8)).map vu8⟩)]) Try.call35 rfl rfl (c_Open_nil (List.replicate 32 (0 : UInt8)) (List.replicate 128 (0 : UInt8)) (List.length_replicate ..) (List.length_replicate ..) 500 (0 : UInt64) _ ) rfl ?_
  rintro _ w_2 ⟨rfl, hc_1⟩
  have h_3 := h_0.same hc_1
  refine WL.q (Wn.no rfl) rfl rfl (R.move (v := (.tuple [(.agg ⟨(List.replicate 128 (0 : UInt8)).map vu8⟩), (vi 1)].toArray)) rfl) ?_
  refine WL.q (Wn.no rfl) rfl rfl (R.extract (l := [(.agg ⟨(List.replicate 128 (0 : UInt8)).map vu8⟩), (vi 1)]) (v := (.agg ⟨(List.replicate 128 (0 : UInt8)).map vu8⟩)) rfl rfl) ?_
  refine WL.q (Wn.no rfl) rfl rfl (R.extract (l := [(.agg ⟨(List.replicate 128 (0 : UInt8)).map vu8⟩), (vi 1)]) (v := (vi 1)) rfl rfl) ?_
  refine WL.alloc (segs := [(128, (List.replicate 128 (0 : UInt8)).map vu8)]) h_3 (zv Try.typeInfo42 rfl) rfl (SsOk.cons (SOk.u8 (List.length_replicate ..)) SsOk.nil) rfl (fun b_4 w_5 h_6 => ?_)
  refine WL.storeA (b := b_4) (off := 0) [] [(128, (List.replicate 128 (0 : UInt8)).map vu8)] [(128, (List.replicate 128 (0 : UInt8)).map vu8)] [] (ys := (List.replicate 128 (0 : UInt8)).map vu8) h_6 rfl rfl Try.sizeOf42 At.h (by decide) rfl rfl rfl rfl rfl rfl (SsOk.cons (SOk.u8 (List.length_replicate ..)) SsOk.nil) (fun w_7 h_8 => ?_)
  refine WL.q (Wn.no rfl) rfl rfl (R.assign (v := (vi 1)) rfl) ?_
  refine WL.nil ?_
  refine thn_n ?_
  refine WP.seq ?_
  refine WP.reg ?_
  refine WL.q (Wn.no rfl) rfl rfl (R.buildS (pl := [(0, 1), (1, 32), (33, 1), (34, 1), (35, 1), (36, 1)]) (zs := [(1, [(.bool false)]), (32, (List.replicate 32 (0 : UInt8)).map vu8), (1, [(.slice none 0 0)]), (1, [(vi 0)]), (1, [(.map none)]), (1, [(.slice none 0 0)])]) (vs := []) (out := [(1, [(.bool false)]), (32, (List.replicate 32 (0 : UInt8)).map vu8), (1, [(.slice none 0 0)]), (1, [(vi 0)]), (1, [(.map none)]), (1, [(.slice none 0 0)])]) (cs := flat [(1, [(.bool false)]), (32, (List.replicate 32 (0 : UInt8)).map vu8), (1, [(.slice none 0 0)]), (1, [(vi 0)]), (1, [(.map none)]), (1, [(.slice none 0 0)])]) Try.underlying47 (zv Try.typeInfo47 rfl) rfl (SsOk.cons (SOk.v rfl) (SsOk.cons (SOk.u8 (List.length_replicate ..)) (SsOk.cons (SOk.v rfl) (SsOk.cons (SOk.v rfl) (SsOk.cons (SOk.v rfl) (SsOk.cons (SOk.v rfl) SsOk.nil)))))) (pl47 _ Try.underlying47) rfl FillR.nil rfl) ?_
  refine WL.box (v := (.agg ⟨flat [(1, [(.bool false)]), (32, (List.replicate 32 (0 : UInt8)).map vu8), (1, [(.slice none 0 0)]), (1, [(vi 0)]), (1, [(.map none)]), (1, [(.slice none 0 0)])]⟩)) (segs := [(1, [(.bool false)]), (32, (List.replicate 32 (0 : UInt8)).map vu8), (1, [(.slice none 0 0)]), (1, [(vi 0)]), (1, [(.map none)]), (1, [(.slice none 0 0)])]) h_8 rfl rfl (SsOk.cons (SOk.v rfl) (SsOk.cons (SOk.u8 (List.length_replicate ..)) (SsOk.cons (SOk.v rfl) (SsOk.cons (SOk.v rfl) (SsOk.cons (SOk.v rfl) (SsOk.cons (SOk.v rfl) SsOk.nil)))))) rfl (fun b_10 w_11 h_12 => ?_)
  refine WL.q (Wn.no rfl) rfl rfl (R.buildA (vs := []) (cs := (List.replicate 128 (0 : UInt8)).map vu8) Try.underlying42 Try.sizeOf5 (zv Try.typeInfo42 rfl) rfl rfl) ?_
  refine WL.call (al := [(.pointer (some ⟨b_10, 0, none⟩)), (vi 500), (vu64 0), (.agg ⟨(List.replicate 128 (0 : UInt8)).map vu8⟩)]) Try.call36 rfl rfl (c_Leaf_z b_10 (List.replicate 128 (0 : UInt8)) (List.length_replicate ..) 500 (0 : UInt64) _ (h_12.argR (.head _))) rfl ?_
  rintro _ w_14 ⟨rfl, hc_13⟩
  have h_15 := h_12.same hc_13
  refine WL.q (Wn.no rfl) rfl rfl (R.move (v := (.tuple [(.agg ⟨(List.replicate 32 (0 : UInt8)).map vu8⟩), (vi 1)].toArray)) rfl) ?_
  refine WL.q (Wn.no rfl) rfl rfl (R.extract (l := [(.agg ⟨(List.replicate 32 (0 : UInt8)).map vu8⟩), (vi 1)]) (v := (.agg ⟨(List.replicate 32 (0 : UInt8)).map vu8⟩)) rfl rfl) ?_
  refine WL.q (Wn.no rfl) rfl rfl (R.extract (l := [(.agg ⟨(List.replicate 32 (0 : UInt8)).map vu8⟩), (vi 1)]) (v := (vi 1)) rfl rfl) ?_
  refine WL.alloc (segs := [(32, (List.replicate 32 (0 : UInt8)).map vu8)]) h_15 (zv Try.typeInfo29 rfl) rfl (SsOk.cons (SOk.u8 (List.length_replicate ..)) SsOk.nil) rfl (fun b_16 w_17 h_18 => ?_)
  refine WL.storeA (b := b_16) (off := 0) [] [(32, (List.replicate 32 (0 : UInt8)).map vu8)] [(32, (List.replicate 32 (0 : UInt8)).map vu8)] [] (ys := (List.replicate 32 (0 : UInt8)).map vu8) h_18 rfl rfl Try.sizeOf29 At.h (by decide) rfl rfl rfl rfl rfl rfl (SsOk.cons (SOk.u8 (List.length_replicate ..)) SsOk.nil) (fun w_19 h_20 => ?_)
  refine WL.q (Wn.no rfl) rfl rfl (R.assign (v := (vi 1)) rfl) ?_
  refine WL.nil ?_
  refine thn_n ?_
  refine WP.seq ?_
  refine WP.reg ?_
  refine WL.call (al := [(.pointer none), (vi 500)]) Try.call37 rfl rfl (c_None_nil 500 _ ) rfl ?_
  rintro _ w_22 ⟨rfl, hc_21⟩
  have h_23 := h_20.same hc_21
  refine WL.q (Wn.no rfl) rfl rfl (R.move (v := (.tuple [(.agg ⟨(List.replicate 32 (0 : UInt8)).map vu8⟩), (vi 1)].toArray)) rfl) ?_
  refine WL.q (Wn.no rfl) rfl rfl (R.extract (l := [(.agg ⟨(List.replicate 32 (0 : UInt8)).map vu8⟩), (vi 1)]) (v := (.agg ⟨(List.replicate 32 (0 : UInt8)).map vu8⟩)) rfl rfl) ?_
  refine WL.q (Wn.no rfl) rfl rfl (R.extract (l := [(.agg ⟨(List.replicate 32 (0 : UInt8)).map vu8⟩), (vi 1)]) (v := (vi 1)) rfl rfl) ?_
  refine WL.alloc (segs := [(32, (List.replicate 32 (0 : UInt8)).map vu8)]) h_23 (zv Try.typeInfo29 rfl) rfl (SsOk.cons (SOk.u8 (List.length_replicate ..)) SsOk.nil) rfl (fun b_24 w_25 h_26 => ?_)
  refine WL.storeA (b := b_24) (off := 0) [] [(32, (List.replicate 32 (0 : UInt8)).map vu8)] [(32, (List.replicate 32 (0 : UInt8)).map vu8)] [] (ys := (List.replicate 32 (0 : UInt8)).map vu8) h_26 rfl rfl Try.sizeOf29 At.h (by decide) rfl rfl rfl rfl rfl rfl (SsOk.cons (SOk.u8 (List.length_replicate ..)) SsOk.nil) (fun w_27 h_28 => ?_)
  refine WL.q (Wn.no rfl) rfl rfl (R.assign (v := (vi 1)) rfl) ?_
  refine WL.nil ?_
  refine thn_n ?_
  refine WP.seq ?_
  refine WP.reg ?_
  refine WL.q (Wn.no rfl) rfl rfl (R.buildA (vs := []) (cs := (List.replicate 32 (0 : UInt8)).map vu8) Try.underlying29 Try.sizeOf5 (zv Try.typeInfo29 rfl) rfl rfl) ?_
  have h_29 := HP_viewNil h_28
  refine WL.call (al := [(.bool true), (.agg ⟨(List.replicate 32 (0 : UInt8)).map vu8⟩), (.slice none 0 0)]) Try.call12 rfl rfl (c_ONew (List.replicate 32 (0 : UInt8)) ([] : List UInt8) (List.length_replicate ..) none 0 0 (rfl : List.length ([] : List UInt8) = 32 * 0) (by decide) _ h_29) rfl ?_
  rintro _ w_34 ⟨b_30, b_31, a_32, c_33, rfl, h_35⟩
  refine WL.q (Wn.no rfl) rfl rfl (R.assign (v := (.pointer (some ⟨b_30, 0, none⟩))) rfl) ?_
  refine WL.nil ?_
  refine thn_n ?_
  refine WP.seq ?_
  refine WP.reg ?_
  refine WL.q (Wn.no rfl) rfl rfl (R.move (v := (.pointer (some ⟨b_30, 0, none⟩))) rfl) ?_
  refine WL.q (Wn.no rfl) rfl rfl (R.buildA (vs := []) (cs := (List.replicate 128 (0 : UInt8)).map vu8) Try.underlying42 Try.sizeOf5 (zv Try.typeInfo42 rfl) rfl rfl) ?_
  have h_36 := h_35.up (Pick.t (Pick.t (Pick.t (Pick.t Pick.h))))
  have h_37 := h_36.up (Pick.t (Pick.t (Pick.t (Pick.t Pick.h))))
  have h_38 := h_37.up (Pick.t (Pick.t (Pick.t (Pick.t Pick.h))))
  have h_39 := h_38.up (Pick.t (Pick.t (Pick.t (Pick.t Pick.h))))
  have h_40 := h_39.up (Pick.t (Pick.t (Pick.t (Pick.t Pick.h))))
  have h32_w_44 := Lgs.ok32 (h_40.ok _ (.tail _ (.tail _ (.tail _ (.head _))))).1
  refine WL.call (al := [(.pointer (some ⟨b_30, 0, none⟩)), (vi 127), (vu64 4294967296), (.agg ⟨(List.replicate 128 (0 : UInt8)).map vu8⟩)]) Try.call36 rfl rfl (c_Leaf b_30 b_31 (List.replicate 32 (0 : UInt8)) ([] : List UInt8) (List.length_replicate ..) a_32 0 c_33 0 (rfl : List.length ([] : List UInt8) = 32 * 0) none 0 [] ([] : Lg) (by decide) (by decide) (List.replicate 128 (0 : UInt8)) (List.length_replicate ..) 127 (4294967296 : UInt64) (by omega) (by decide) _ h_40) rfl ?_
  rintro _ w_44 ⟨la_41, lc_42, lx_43, rfl, h_45⟩
  refine WL.q (Wn.no rfl) rfl rfl (R.move (v := (.tuple [(.agg ⟨(ansD ([] : List UInt8) 0 0 ([] : Lg) (1, (List.replicate 32 (0 : UInt8)), 4, [pcB 127 (4294967296 : UInt64), List.replicate 128 (0 : UInt8)].flatten)).map vu8⟩), (vi 0)].toArray)) rfl) ?_
  refine WL.q (Wn.no rfl) rfl rfl (R.extract (l := [(.agg ⟨(ansD ([] : List UInt8) 0 0 ([] : Lg) (1, (List.replicate 32 (0 : UInt8)), 4, [pcB 127 (4294967296 : UInt64), List.replicate 128 (0 : UInt8)].flatten)).map vu8⟩), (vi 0)]) (v := (.agg ⟨(ansD ([] : List UInt8) 0 0 ([] : Lg) (1, (List.replicate 32 (0 : UInt8)), 4, [pcB 127 (4294967296 : UInt64), List.replicate 128 (0 : UInt8)].flatten)).map vu8⟩)) rfl rfl) ?_
  refine WL.q (Wn.no rfl) rfl rfl (R.extract (l := [(.agg ⟨(ansD ([] : List UInt8) 0 0 ([] : Lg) (1, (List.replicate 32 (0 : UInt8)), 4, [pcB 127 (4294967296 : UInt64), List.replicate 128 (0 : UInt8)].flatten)).map vu8⟩), (vi 0)]) (v := (vi 0)) rfl rfl) ?_
  refine WL.alloc (segs := [(32, (List.replicate 32 (0 : UInt8)).map vu8)]) h_45 (zv Try.typeInfo29 rfl) rfl (SsOk.cons (SOk.u8 (List.length_replicate ..)) SsOk.nil) rfl (fun b_46 w_47 h_48 => ?_)
  refine WL.storeA (b := b_46) (off := 0) [] [(32, (List.replicate 32 (0 : UInt8)).map vu8)] [(32, (ansD ([] : List UInt8) 0 0 ([] : Lg) (1, (List.replicate 32 (0 : UInt8)), 4, [pcB 127 (4294967296 : UInt64), List.replicate 128 (0 : UInt8)].flatten)).map vu8)] [] (ys := (ansD ([] : List UInt8) 0 0 ([] : Lg) (1, (List.replicate 32 (0 : UInt8)), 4, [pcB 127 (4294967296 : UInt64), List.replicate 128 (0 : UInt8)].flatten)).map vu8) h_48 rfl rfl Try.sizeOf29 At.h (by decide) rfl rfl rfl rfl rfl rfl (SsOk.cons (SOk.u8 (ansD_len (rfl : List.length ([] : List UInt8) = 32 * 0) h32_w_44)) SsOk.nil) (fun w_49 h_50 => ?_)
  refine WL.q (Wn.no rfl) rfl rfl (R.assign (v := (vi 0)) rfl) ?_
  refine WL.nil ?_
  refine thn_n ?_
  refine WP.seq ?_
  refine WP.reg ?_
  refine WL.q (Wn.no rfl) rfl rfl (R.move (v := (.pointer (some ⟨b_30, 0, none⟩))) rfl) ?_
  refine WL.q (Wn.no rfl) rfl rfl (R.buildA (vs := []) (cs := (List.replicate 128 (0 : UInt8)).map vu8) Try.underlying42 Try.sizeOf5 (zv Try.typeInfo42 rfl) rfl rfl) ?_
  refine WL.call (al := [(.pointer (some ⟨b_30, 0, none⟩)), (vi 127), (vu64 4294967297), (.agg ⟨(List.replicate 128 (0 : UInt8)).map vu8⟩)]) Try.call36 rfl rfl (c_Leaf_ct b_30 b_31 (List.replicate 32 (0 : UInt8)) (List.length_replicate ..) a_32 0 c_33 (ansU 0 ([] : Lg) (1, (List.replicate 32 (0 : UInt8)), 4, [pcB 127 (4294967296 : UInt64), List.replicate 128 (0 : UInt8)].flatten)) la_41 ((ansL ([] : List UInt8) 0 0 ([] : Lg) (1, (List.replicate 32 (0 : UInt8)), 4, [pcB 127 (4294967296 : UInt64), List.replicate 128 (0 : UInt8)].flatten)).length) lc_42 (List.replicate 128 (0 : UInt8)) (List.length_replicate ..) 127 (4294967297 : UInt64) (by omega) (by decide) _ (h_50.argR (.tail _ (.head _)))) rfl ?_
  rintro _ w_52 ⟨rfl, hc_51⟩
  have h_53 := h_50.same hc_51
  refine WL.q (Wn.no rfl) rfl rfl (R.move (v := (.tuple [(.agg ⟨(List.replicate 32 (0 : UInt8)).map vu8⟩), (vi 2)].toArray)) rfl) ?_
  refine WL.q (Wn.no rfl) rfl rfl (R.extract (l := [(.agg ⟨(List.replicate 32 (0 : UInt8)).map vu8⟩), (vi 2)]) (v := (.agg ⟨(List.replicate 32 (0 : UInt8)).map vu8⟩)) rfl rfl) ?_
  refine WL.q (Wn.no rfl) rfl rfl (R.extract (l := [(.agg ⟨(List.replicate 32 (0 : UInt8)).map vu8⟩), (vi 2)]) (v := (vi 2)) rfl rfl) ?_
  refine WL.alloc (segs := [(32, (List.replicate 32 (0 : UInt8)).map vu8)]) h_53 (zv Try.typeInfo29 rfl) rfl (SsOk.cons (SOk.u8 (List.length_replicate ..)) SsOk.nil) rfl (fun b_54 w_55 h_56 => ?_)
  refine WL.storeA (b := b_54) (off := 0) [] [(32, (List.replicate 32 (0 : UInt8)).map vu8)] [(32, (List.replicate 32 (0 : UInt8)).map vu8)] [] (ys := (List.replicate 32 (0 : UInt8)).map vu8) h_56 rfl rfl Try.sizeOf29 At.h (by decide) rfl rfl rfl rfl rfl rfl (SsOk.cons (SOk.u8 (List.length_replicate ..)) SsOk.nil) (fun w_57 h_58 => ?_)
  refine WL.q (Wn.no rfl) rfl rfl (R.assign (v := (vi 2)) rfl) ?_
  refine WL.nil ?_
  refine thn_n ?_
  refine WP.seq ?_
  refine WP.reg ?_
  refine WL.q (Wn.no rfl) rfl rfl (R.move (v := (vi 1)) rfl) ?_
  refine WL.call (al := [(vi 1)]) Try.call38 rfl rfl (c_num16 1 (by omega) _ ) rfl ?_
  rintro _ w_60 ⟨rfl, hc_59⟩
  have h_61 := h_58.same hc_59
  refine WL.q (Wn.no rfl) rfl rfl (R.bin (v := (.bool true)) rfl rfl (bi_eql (r := true) (by decide))) ?_
  refine WL.q (Wn.no rfl) rfl rfl (R.move (v := (.bool true)) rfl) ?_
  refine WL.want rfl rfl ?_
  refine WL.q (Wn.no rfl) rfl rfl (R.move (v := (vi 1)) rfl) ?_
  refine WL.want rfl rfl ?_
  refine WL.call (al := [(vi 1)]) Try.call38 rfl rfl (c_num16 1 (by omega) _ ) rfl ?_
  rintro _ w_63 ⟨rfl, hc_62⟩
  have h_64 := h_61.same hc_62
  refine WL.want rfl rfl ?_
  refine WL.q (Wn.no rfl) rfl rfl (R.bin (v := (.bool true)) rfl rfl (bi_eql (r := true) (by decide))) ?_
  refine WL.q (Wn.no rfl) rfl rfl (R.pickT (v := (.bool true)) rfl rfl) ?_
  refine WL.q (Wn.no rfl) rfl rfl (R.move (v := (.bool true)) rfl) ?_
  refine WL.want rfl rfl ?_
  refine WL.q (Wn.no rfl) rfl rfl (R.move (v := (vi 1)) rfl) ?_
  refine WL.want rfl rfl ?_
  refine WL.call (al := [(vi 1)]) Try.call38 rfl rfl (c_num16 1 (by omega) _ ) rfl ?_
  rintro _ w_66 ⟨rfl, hc_65⟩
  have h_67 := h_64.same hc_65
  refine WL.want rfl rfl ?_
  refine WL.q (Wn.no rfl) rfl rfl (R.bin (v := (.bool true)) rfl rfl (bi_eql (r := true) (by decide))) ?_
  refine WL.q (Wn.no rfl) rfl rfl (R.pickT (v := (.bool true)) rfl rfl) ?_
  refine WL.q (Wn.no rfl) rfl rfl (R.move (v := (.bool true)) rfl) ?_
  refine WL.want rfl rfl ?_
  refine WL.q (Wn.no rfl) rfl rfl (R.move (v := (vi 0)) rfl) ?_
  refine WL.want rfl rfl ?_
  refine WL.call (al := [(vi 0)]) Try.call38 rfl rfl (c_num16 0 (by omega) _ ) rfl ?_
  rintro _ w_69 ⟨rfl, hc_68⟩
  have h_70 := h_67.same hc_68
  refine WL.want rfl rfl ?_
  refine WL.q (Wn.no rfl) rfl rfl (R.bin (v := (.bool true)) rfl rfl (bi_eql (r := true) (by decide))) ?_
  refine WL.q (Wn.no rfl) rfl rfl (R.pickT (v := (.bool true)) rfl rfl) ?_
  refine WL.q (Wn.no rfl) rfl rfl (R.move (v := (.bool true)) rfl) ?_
  refine WL.want rfl rfl ?_
  refine WL.q (Wn.no rfl) rfl rfl (R.move (v := (vi 2)) rfl) ?_
  refine WL.want rfl rfl ?_
  refine WL.call (al := [(vi 2)]) Try.call38 rfl rfl (c_num16 2 (by omega) _ ) rfl ?_
  rintro _ w_72 ⟨rfl, hc_71⟩
  have h_73 := h_70.same hc_71
  refine WL.want rfl rfl ?_
  refine WL.q (Wn.no rfl) rfl rfl (R.bin (v := (.bool true)) rfl rfl (bi_eql (r := true) (by decide))) ?_
  refine WL.q (Wn.no rfl) rfl rfl (R.pickT (v := (.bool true)) rfl rfl) ?_
  refine WL.q (Wn.no rfl) rfl rfl (R.move (v := (.bool true)) rfl) ?_
  refine WL.want rfl rfl ?_
  refine WL.call (al := []) Try.call31 rfl rfl (c_known16  _ ) rfl ?_
  rintro _ w_75 ⟨rfl, hc_74⟩
  have h_76 := h_73.same hc_74
  refine WL.q (Wn.no rfl) rfl rfl (R.pickT (v := (.bool true)) rfl rfl) ?_
  refine WL.q (Wn.no rfl) rfl rfl (R.assign (v := (.bool true)) rfl) ?_
  refine WL.nil ?_
  refine thn_n ?_
  refine WP.ret ?_
  refine ret_of Try.results8 (RV.tmp (v := (.bool true)) rfl RV.nil) ?_
  exact ⟨rfl, h_76.chgS⟩
namespace blobNilDone
open Go.ChangeShapes Go.WideShapes Go.ChangeAt
theorem own : ownKnob Try.prog.godebug = none := by kernel_rfl
theorem laidOut : laidOutB Try.prog = true := by kernel_rfl
set_option maxRecDepth 100000 in
theorem lifted (os : Os) (started : os.Started) (H : Type) (enc : TypeId × Value → H) :
    ReturnsInHanded {} Try.checked os 8 .any (Rows.blobNilSpec.pre6 enc Try.prog Try.f8 Rows.blobNilRow.domain false) (Rows.blobNilSpec.post enc Try.prog Try.f8 false true false false) := by
  refine returnsInHanded_of_change (C := Try.checked) own started (by kernel_rfl) Try.func8
    (ChangeSpec.witness6 (enc := enc) (C := Try.checked) false ⟨#[], #[], []⟩ 8 (by kernel_rfl) (by kernel_rfl) (by kernel_rfl) (by kernel_rfl)) ?_
  intro W base args ds gs before hval0 hW hcnd _
  have hval : ∀ (j : Nat) t v, Try.f8.params[j]? = some t → args[j]? = some v → Value.okWide Try.prog W .any base t v := hval0
  have hW' := hW
  obtain ⟨p, q, hA0, hV, rfl, hfz, hnd⟩ := hW
  have hA : DataW.TrodAll enc Try.prog W 0 (fun _ => true) true Try.f8.params.toList args.toList ds p := hA0
  rw [Try.params8] at hA hval
  obtain ⟨hargs, rfl, rfl⟩ := trodAll_nil hA
  obtain rfl : args = #[] := by cases args; simp_all
  obtain ⟨rfl, rfl⟩ := trodVars_none hV
  clear hA0 hval0
  have hw : Cs Try.prog 8 [].toArray W (fun v w1 => v = .bool true ∧ Chg W w1 []) := w_BlobNil W
  have ea : ([] : List Value).toArray = (#[] : Array Value) := by simp [flat]
  rw [ea] at hw
  refine Calls.mono (Cs.below hw) fun e W' ⟨he, bel⟩ => ?_
  subst he
  exact ⟨_, rfl, _, _, _, [], _, [], hW', trodAll_mk1 (shut_bool Try.underlying4 _), trodAll_mk0, rfl, bel.frame _, fun h => by cases h⟩
theorem over : Rows.blobNilRow.holds Try.pinned (OpenSpec.ofChange Rows.blobNilSpec) :=
  OpenClaim.holds_of_wide 8 Try.f8 rfl rfl rfl rfl rfl rfl rfl ⟨rfl, rfl, rfl, rfl, rfl⟩ rfl rfl rfl rfl rfl (by kernel_rfl) Try.func8 (by kernel_rfl)
    (of_decide_eq_true (by kernel_rfl)) (by unfold Func.isWrapper; first | (rw [if_pos (by decide +kernel)]; kernel_rfl) | (rw [if_neg (by decide +kernel)]; exact ⟨rfl, rfl⟩))
    (fun os started H enc _ => lifted os started H enc)
theorem proved : Rows.BlobNilSaid := over
end blobNilDone
end Go.Proofs.Ytbldmljbfokobaa
