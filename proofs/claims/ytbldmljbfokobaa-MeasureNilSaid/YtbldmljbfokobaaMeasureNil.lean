/- MeasureNil holds of every input. Conditions: none. -/
import Derived.Test.YtbldmljbfokobaaQ9
namespace Go.Proofs.Ytbldmljbfokobaa
open Go.Vc Go.Orc Go.RowKit
set_option linter.unusedVariables false
set_option linter.unusedSimpArgs false
set_option maxRecDepth 20000
theorem pl50 : ∀ fs, Try.prog.underlying 50 = some (.struct fs) → Places Try.prog fs [(0, 1), (1, 8), (9, 1)] := by
  intro fs h w; rw [Try.underlying50] at h; cases h; simp
theorem w_MeasureNil  (w : World) :
    Cs Try.prog 4 [].toArray w (fun v w1 => v = .bool true ∧ Chg w w1 []) := by
  refine Cs.of (n := 98) (args := []) Try.func4 rfl rfl rfl ?_
  have h_0 := HP.init w
  refine WP.seq ?_
  refine WP.reg ?_
  refine WL.q (Wn.no rfl) rfl rfl (R.assign (v := (.bool false)) rfl) ?_
  refine WL.nil ?_
  refine thn_n ?_
  refine WP.seq ?_
  refine WP.reg ?_
  refine WL.q (Wn.no rfl) rfl rfl (R.buildS (pl := [(0, 32), (32, 1)]) (zs := [(32, (List.replicate 32 (0 : UInt8)).map vu8), (1, [(vu64 0)])]) (vs := []) (out := [(32, (List.replicate 32 (0 : UInt8)).map vu8), (1, [(vu64 0)])]) (cs := flat [(32, (List.replicate 32 (0 : UInt8)).map vu8), (1, [(vu64 0)])]) Try.underlying39 (zv Try.typeInfo39 rfl) rfl (SsOk.cons (SOk.u8 (List.length_replicate ..)) (SsOk.cons (SOk.v rfl) SsOk.nil)) (pl39 _ Try.underlying39) rfl FillR.nil rfl) ?_
  refine WL.call (al := [(.pointer none), (.agg ⟨flat [(32, (List.replicate 32 (0 : UInt8)).map vu8), (1, [(vu64 0)])]⟩)]) Try.call16 rfl rfl (c_Begin_nil (List.replicate 32 (0 : UInt8)) (List.length_replicate ..) (0 : UInt64) _ ) rfl ?_
  rintro _ w_3 ⟨rfl, hc_2⟩
  have h_4 := h_0.same hc_2
  refine WL.q (Wn.no rfl) rfl rfl (R.move (v := (.tuple [(.agg ⟨(List.replicate 32 (0 : UInt8)).map vu8⟩), (vi 1)].toArray)) rfl) ?_
  refine WL.q (Wn.no rfl) rfl rfl (R.extract (l := [(.agg ⟨(List.replicate 32 (0 : UInt8)).map vu8⟩), (vi 1)]) (v := (.agg ⟨(List.replicate 32 (0 : UInt8)).map vu8⟩)) rfl rfl) ?_
  refine WL.q (Wn.no rfl) rfl rfl (R.extract (l := [(.agg ⟨(List.replicate 32 (0 : UInt8)).map vu8⟩), (vi 1)]) (v := (vi 1)) rfl rfl) ?_
  refine WL.alloc (segs := [(32, (List.replicate 32 (0 : UInt8)).map vu8)]) h_4 (zv Try.typeInfo29 rfl) rfl (SsOk.cons (SOk.u8 (List.length_replicate ..)) SsOk.nil) rfl (fun b_5 w_6 h_7 => ?_)
  refine WL.storeA (b := b_5) (off := 0) [] [(32, (List.replicate 32 (0 : UInt8)).map vu8)] [(32, (List.replicate 32 (0 : UInt8)).map vu8)] [] (ys := (List.replicate 32 (0 : UInt8)).map vu8) h_7 rfl rfl Try.sizeOf29 At.h (by decide) rfl rfl rfl rfl rfl rfl (SsOk.cons (SOk.u8 (List.length_replicate ..)) SsOk.nil) (fun w_8 h_9 => ?_)
  refine WL.q (Wn.no rfl) rfl rfl (R.assign (v := (vi 1)) rfl) ?_
  refine WL.nil ?_
  refine thn_n ?_
  refine WP.seq ?_
  refine WP.reg ?_
  refine WL.q (Wn.no rfl) rfl rfl (R.buildA (vs := []) (cs := (List.replicate 32 (0 : UInt8)).map vu8) Try.underlying29 Try.sizeOf5 (zv Try.typeInfo29 rfl) rfl rfl) ?_
  refine WL.q (Wn.no rfl) rfl rfl (R.buildA (vs := []) (cs := (List.replicate 128 (0 : UInt8)).map vu8) Try.underlying42 Try.sizeOf5 (zv Try.typeInfo42 rfl) rfl rfl) ?_
  refine WL.call (al := [(.pointer none), (.agg ⟨(List.replicate 32 (0 : UInt8)).map vu8⟩), (vi 500), (.agg ⟨(List.replicate 128 (0 : UInt8)).map vu8⟩)]) Try.call17 rfl rfl (c_Data_nil (List.replicate 32 (0 : UInt8)) (List.replicate 128 (0 : UInt8)) (List.length_replicate ..) (List.length_replicate ..) 500 _ ) rfl ?_
  rintro _ w_11 ⟨rfl, hc_10⟩
  have h_12 := h_9.same hc_10
  refine WL.q (Wn.no rfl) rfl rfl (R.move (v := (.tuple [(.agg ⟨(List.replicate 32 (0 : UInt8)).map vu8⟩), (vi 1)].toArray)) rfl) ?_
  refine WL.q (Wn.no rfl) rfl rfl (R.extract (l := [(.agg ⟨(List.replicate 32 (0 : UInt8)).map vu8⟩), (vi 1)]) (v := (.agg ⟨(List.replicate 32 (0 : UInt8)).map vu8⟩)) rfl rfl) ?_
  refine WL.q (Wn.no rfl) rfl rfl (R.extract (l := [(.agg ⟨(List.replicate 32 (0 : UInt8)).map vu8⟩), (vi 1)]) (v := (vi 1)) rfl rfl) ?_
  refine WL.alloc (segs := [(32, (List.replicate 32 (0 : UInt8)).map vu8)]) h_12 (zv Try.typeInfo29 rfl) rfl (SsOk.cons (SOk.u8 (List.length_replicate ..)) SsOk.nil) rfl (fun b_13 w_14 h_15 => ?_)
  refine WL.storeA (b := b_13) (off := 0) [] [(32, (List.replicate 32 (0 : UInt8)).map vu8)] [(32, (List.replicate 32 (0 : UInt8)).map vu8)] [] (ys := (List.replicate 32 (0 : UInt8)).map vu8) h_15 rfl rfl Try.sizeOf29 At.h (by decide) rfl rfl rfl rfl rfl rfl (SsOk.cons (SOk.u8 (List.length_replicate ..)) SsOk.nil) (fun w_16 h_17 => ?_)
  refine WL.q (Wn.no rfl) rfl rfl (R.assign (v := (vi 1)) rfl) ?_
  refine WL.nil ?_
  refine thn_n ?_
  refine WP.seq ?_
  refine WP.reg ?_
  refine WL.q (Wn.no rfl) rfl rfl (R.buildS (pl := [(0, 1), (1, 32), (33, 1), (34, 1), (35, 1), (36, 1)]) (zs := [(1, [(.bool false)]), (32, (List.replicate 32 (0 : UInt8)).map vu8), (1, [(.slice none 0 0)]), (1, [(vi 0)]), (1, [(.map none)]), (1, [(.slice none 0 0)])]) (vs := []) (out := [(1, [(.bool false)]), (32, (List.replicate 32 (0 : UInt8)).map vu8), (1, [(.slice none 0 0)]), (1, [(vi 0)]), (1, [(.map none)]), (1, [(.slice none 0 0)])]) (cs := flat [(1, [(.bool false)]), (32, (List.replicate 32 (0 : UInt8)).map vu8), (1, [(.slice none 0 0)]), (1, [(vi 0)]), (1, [(.map none)]), (1, [(.slice none 0 0)])]) Try.underlying47 (zv Try.typeInfo47 rfl) rfl (SsOk.cons (SOk.v rfl) (SsOk.cons (SOk.u8 (List.length_replicate ..)) (SsOk.cons (SOk.v rfl) (SsOk.cons (SOk.v rfl) (SsOk.cons (SOk.v rfl) (SsOk.cons (SOk.v rfl) SsOk.nil)))))) (pl47 _ Try.underlying47) rfl FillR.nil rfl) ?_
  refine WL.box (v := (.agg ⟨flat [(1, [(.bool false)]), (32, (List.replicate 32 (0 : UInt8)).map vu8), (1, [(.slice none 0 0)]), (1, [(vi 0)]), (1, [(.map none)]), (1, [(.slice none 0 0)])]⟩)) (segs := [(1, [(.bool false)]), (32, (List.replicate 32 (0 : UInt8)).map vu8), (1, [(.slice none 0 0)]), (1, [(vi 0)]), (1, [(.map none)]), (1, [(.slice none 0 0)])]) h_17 rfl rfl (SsOk.cons (SOk.v rfl) (SsOk.cons (SOk.u8 (List.length_replicate ..)) (SsOk.cons (SOk.v rfl) (SsOk.cons (SOk.v rfl) (SsOk.cons (SOk.v rfl) (SsOk.cons (SOk.v rfl) SsOk.nil)))))) rfl (fun b_19 w_20 h_21 => ?_)
  refine WL.q (Wn.no rfl) rfl rfl (R.buildA (vs := []) (cs := (List.replicate 32 (0 : UInt8)).map vu8) Try.underlying29 Try.sizeOf5 (zv Try.typeInfo29 rfl) rfl rfl) ?_
  refine WL.q (Wn.no rfl) rfl rfl (R.buildS (pl := [(0, 1), (1, 8), (9, 1)]) (zs := [(1, [(vu64 0)]), (8, (List.replicate 8 (0 : UInt64)).map vu64), (1, [(.bool false)])]) (vs := [(0, (vu64 4))]) (out := [(1, [(vu64 4)]), (8, (List.replicate 8 (0 : UInt64)).map vu64), (1, [(.bool false)])]) (cs := flat [(1, [(vu64 4)]), (8, (List.replicate 8 (0 : UInt64)).map vu64), (1, [(.bool false)])]) Try.underlying50 (zv Try.typeInfo50 rfl) rfl (SsOk.cons (SOk.v rfl) (SsOk.cons (SOk.u64 (List.length_replicate ..)) (SsOk.cons (SOk.v rfl) SsOk.nil))) (pl50 _ Try.underlying50) rfl (FillR.cons [] [(1, [(vu64 0)])] [(1, [(vu64 4)])] [(8, (List.replicate 8 (0 : UInt64)).map vu64), (1, [(.bool false)])] rfl rfl rfl rfl (SsOk.cons (SOk.v rfl) SsOk.nil) rfl rfl rfl FillR.nil) rfl) ?_
  refine WL.call (al := [(.pointer (some ⟨b_19, 0, none⟩)), (.agg ⟨(List.replicate 32 (0 : UInt8)).map vu8⟩), (.agg ⟨flat [(1, [(vu64 4)]), (8, (List.replicate 8 (0 : UInt64)).map vu64), (1, [(.bool false)])]⟩)]) Try.call18 rfl rfl (c_Rec_z b_19 (List.replicate 32 (0 : UInt8)) (List.length_replicate ..) (4 : UInt64) (List.replicate 8 (0 : UInt64)) (List.length_replicate ..) false _ (h_21.argR (.head _))) rfl ?_
  rintro _ w_24 ⟨rfl, hc_23⟩
  have h_25 := h_21.same hc_23
  refine WL.q (Wn.no rfl) rfl rfl (R.move (v := (.tuple [(.agg ⟨(List.replicate 32 (0 : UInt8)).map vu8⟩), (vi 1)].toArray)) rfl) ?_
  refine WL.q (Wn.no rfl) rfl rfl (R.extract (l := [(.agg ⟨(List.replicate 32 (0 : UInt8)).map vu8⟩), (vi 1)]) (v := (.agg ⟨(List.replicate 32 (0 : UInt8)).map vu8⟩)) rfl rfl) ?_
  refine WL.q (Wn.no rfl) rfl rfl (R.extract (l := [(.agg ⟨(List.replicate 32 (0 : UInt8)).map vu8⟩), (vi 1)]) (v := (vi 1)) rfl rfl) ?_
  refine WL.alloc (segs := [(32, (List.replicate 32 (0 : UInt8)).map vu8)]) h_25 (zv Try.typeInfo29 rfl) rfl (SsOk.cons (SOk.u8 (List.length_replicate ..)) SsOk.nil) rfl (fun b_26 w_27 h_28 => ?_)
  refine WL.storeA (b := b_26) (off := 0) [] [(32, (List.replicate 32 (0 : UInt8)).map vu8)] [(32, (List.replicate 32 (0 : UInt8)).map vu8)] [] (ys := (List.replicate 32 (0 : UInt8)).map vu8) h_28 rfl rfl Try.sizeOf29 At.h (by decide) rfl rfl rfl rfl rfl rfl (SsOk.cons (SOk.u8 (List.length_replicate ..)) SsOk.nil) (fun w_29 h_30 => ?_)
  refine WL.q (Wn.no rfl) rfl rfl (R.assign (v := (vi 1)) rfl) ?_
  refine WL.nil ?_
  refine thn_n ?_
  refine WP.seq ?_
  refine WP.reg ?_
  refine WL.q (Wn.no rfl) rfl rfl (R.buildA (vs := []) (cs := (List.replicate 32 (0 : UInt8)).map vu8) Try.underlying29 Try.sizeOf5 (zv Try.typeInfo29 rfl) rfl rfl) ?_
  refine WL.q (Wn.no rfl) rfl rfl (R.buildS (pl := [(0, 1), (1, 32), (33, 1), (34, 128), (162, 10)]) (zs := [(1, [(vi 0)]), (32, (List.replicate 32 (0 : UInt8)).map vu8), (1, [(vi 0)]), (128, (List.replicate 128 (0 : UInt8)).map vu8), (1, [(vu64 0)]), (8, (List.replicate 8 (0 : UInt64)).map vu64), (1, [(.bool false)])]) (vs := []) (out := [(1, [(vi 0)]), (32, (List.replicate 32 (0 : UInt8)).map vu8), (1, [(vi 0)]), (128, (List.replicate 128 (0 : UInt8)).map vu8), (1, [(vu64 0)]), (8, (List.replicate 8 (0 : UInt64)).map vu64), (1, [(.bool false)])]) (cs := flat [(1, [(vi 0)]), (32, (List.replicate 32 (0 : UInt8)).map vu8), (1, [(vi 0)]), (128, (List.replicate 128 (0 : UInt8)).map vu8), (1, [(vu64 0)]), (8, (List.replicate 8 (0 : UInt64)).map vu64), (1, [(.bool false)])]) Try.underlying54 (zv Try.typeInfo54 rfl) rfl (SsOk.cons (SOk.v rfl) (SsOk.cons (SOk.u8 (List.length_replicate ..)) (SsOk.cons (SOk.v rfl) (SsOk.cons (SOk.u8 (List.length_replicate ..)) (SsOk.cons (SOk.v rfl) (SsOk.cons (SOk.u64 (List.length_replicate ..)) (SsOk.cons (SOk.v rfl) SsOk.nil))))))) (pl54 _ Try.underlying54) rfl FillR.nil rfl) ?_
  refine WL.call (al := [(.pointer none), (.agg ⟨(List.replicate 32 (0 : UInt8)).map vu8⟩), (.agg ⟨flat [(1, [(vi 0)]), (32, (List.replicate 32 (0 : UInt8)).map vu8), (1, [(vi 0)]), (128, (List.replicate 128 (0 : UInt8)).map vu8), (1, [(vu64 0)]), (8, (List.replicate 8 (0 : UInt64)).map vu64), (1, [(.bool false)])]⟩)]) Try.call19 rfl rfl (c_Next_nil (List.replicate 32 (0 : UInt8)) (List.length_replicate ..) _ ) rfl ?_
  rintro _ w_33 ⟨rfl, hc_32⟩
  have h_34 := h_30.same hc_32
  refine WL.q (Wn.no rfl) rfl rfl (R.move (v := (.tuple [(.agg ⟨(List.replicate 32 (0 : UInt8)).map vu8⟩), (vi 1)].toArray)) rfl) ?_
  refine WL.q (Wn.no rfl) rfl rfl (R.extract (l := [(.agg ⟨(List.replicate 32 (0 : UInt8)).map vu8⟩), (vi 1)]) (v := (.agg ⟨(List.replicate 32 (0 : UInt8)).map vu8⟩)) rfl rfl) ?_
  refine WL.q (Wn.no rfl) rfl rfl (R.extract (l := [(.agg ⟨(List.replicate 32 (0 : UInt8)).map vu8⟩), (vi 1)]) (v := (vi 1)) rfl rfl) ?_
  refine WL.alloc (segs := [(32, (List.replicate 32 (0 : UInt8)).map vu8)]) h_34 (zv Try.typeInfo29 rfl) rfl (SsOk.cons (SOk.u8 (List.length_replicate ..)) SsOk.nil) rfl (fun b_35 w_36 h_37 => ?_)
  refine WL.storeA (b := b_35) (off := 0) [] [(32, (List.replicate 32 (0 : UInt8)).map vu8)] [(32, (List.replicate 32 (0 : UInt8)).map vu8)] [] (ys := (List.replicate 32 (0 : UInt8)).map vu8) h_37 rfl rfl Try.sizeOf29 At.h (by decide) rfl rfl rfl rfl rfl rfl (SsOk.cons (SOk.u8 (List.length_replicate ..)) SsOk.nil) (fun w_38 h_39 => ?_)
  refine WL.q (Wn.no rfl) rfl rfl (R.assign (v := (vi 1)) rfl) ?_
  refine WL.nil ?_
  refine thn_n ?_
  refine WP.seq ?_
  refine WP.reg ?_
  refine WL.call (al := [(.pointer none), (.slice none 0 0)]) Try.call13 rfl rfl (c_Replay_nil  _ ) rfl ?_
  rintro _ w_41 ⟨rfl, hc_40⟩
  have h_42 := h_39.same hc_40
  refine WL.q (Wn.no rfl) rfl rfl (R.move (v := (.tuple [(.agg ⟨(List.replicate 32 (0 : UInt8)).map vu8⟩), (vi 1)].toArray)) rfl) ?_
  refine WL.q (Wn.no rfl) rfl rfl (R.extract (l := [(.agg ⟨(List.replicate 32 (0 : UInt8)).map vu8⟩), (vi 1)]) (v := (.agg ⟨(List.replicate 32 (0 : UInt8)).map vu8⟩)) rfl rfl) ?_
  refine WL.q (Wn.no rfl) rfl rfl (R.extract (l := [(.agg ⟨(List.replicate 32 (0 : UInt8)).map vu8⟩), (vi 1)]) (v := (vi 1)) rfl rfl) ?_
  refine WL.alloc (segs := [(32, (List.replicate 32 (0 : UInt8)).map vu8)]) h_42 (zv Try.typeInfo29 rfl) rfl (SsOk.cons (SOk.u8 (List.length_replicate ..)) SsOk.nil) rfl (fun b_43 w_44 h_45 => ?_)
  refine WL.storeA (b := b_43) (off := 0) [] [(32, (List.replicate 32 (0 : UInt8)).map vu8)] [(32, (List.replicate 32 (0 : UInt8)).map vu8)] [] (ys := (List.replicate 32 (0 : UInt8)).map vu8) h_45 rfl rfl Try.sizeOf29 At.h (by decide) rfl rfl rfl rfl rfl rfl (SsOk.cons (SOk.u8 (List.length_replicate ..)) SsOk.nil) (fun w_46 h_47 => ?_)
  refine WL.q (Wn.no rfl) rfl rfl (R.assign (v := (vi 1)) rfl) ?_
  refine WL.nil ?_
  refine thn_n ?_
  refine WP.seq ?_
  refine WP.reg ?_
  refine WL.q (Wn.no rfl) rfl rfl (R.buildS (pl := [(0, 1), (1, 32), (33, 1), (34, 128), (162, 10)]) (zs := [(1, [(vi 0)]), (32, (List.replicate 32 (0 : UInt8)).map vu8), (1, [(vi 0)]), (128, (List.replicate 128 (0 : UInt8)).map vu8), (1, [(vu64 0)]), (8, (List.replicate 8 (0 : UInt64)).map vu64), (1, [(.bool false)])]) (vs := []) (out := [(1, [(vi 0)]), (32, (List.replicate 32 (0 : UInt8)).map vu8), (1, [(vi 0)]), (128, (List.replicate 128 (0 : UInt8)).map vu8), (1, [(vu64 0)]), (8, (List.replicate 8 (0 : UInt64)).map vu64), (1, [(.bool false)])]) (cs := flat [(1, [(vi 0)]), (32, (List.replicate 32 (0 : UInt8)).map vu8), (1, [(vi 0)]), (128, (List.replicate 128 (0 : UInt8)).map vu8), (1, [(vu64 0)]), (8, (List.replicate 8 (0 : UInt64)).map vu64), (1, [(.bool false)])]) Try.underlying54 (zv Try.typeInfo54 rfl) rfl (SsOk.cons (SOk.v rfl) (SsOk.cons (SOk.u8 (List.length_replicate ..)) (SsOk.cons (SOk.v rfl) (SsOk.cons (SOk.u8 (List.length_replicate ..)) (SsOk.cons (SOk.v rfl) (SsOk.cons (SOk.u64 (List.length_replicate ..)) (SsOk.cons (SOk.v rfl) SsOk.nil))))))) (pl54 _ Try.underlying54) rfl FillR.nil rfl) ?_
  refine WL.call (al := [(.agg ⟨flat [(1, [(vi 0)]), (32, (List.replicate 32 (0 : UInt8)).map vu8), (1, [(vi 0)]), (128, (List.replicate 128 (0 : UInt8)).map vu8), (1, [(vu64 0)]), (8, (List.replicate 8 (0 : UInt64)).map vu64), (1, [(.bool false)])]⟩)]) Try.call20 rfl rfl (c_May_r0  _ ) rfl ?_
  rintro _ w_50 ⟨rfl, hc_49⟩
  have h_51 := h_47.same hc_49
  refine WL.q (Wn.no rfl) rfl rfl (R.move (v := (.bool false)) rfl) ?_
  refine WL.want rfl rfl ?_
  refine WL.q (Wn.no rfl) rfl rfl (R.buildS (pl := [(0, 1), (1, 32), (33, 1), (34, 128), (162, 10)]) (zs := [(1, [(vi 0)]), (32, (List.replicate 32 (0 : UInt8)).map vu8), (1, [(vi 0)]), (128, (List.replicate 128 (0 : UInt8)).map vu8), (1, [(vu64 0)]), (8, (List.replicate 8 (0 : UInt64)).map vu64), (1, [(.bool false)])]) (vs := [(0, (vi 4))]) (out := [(1, [(vi 4)]), (32, (List.replicate 32 (0 : UInt8)).map vu8), (1, [(vi 0)]), (128, (List.replicate 128 (0 : UInt8)).map vu8), (1, [(vu64 0)]), (8, (List.replicate 8 (0 : UInt64)).map vu64), (1, [(.bool false)])]) (cs := flat [(1, [(vi 4)]), (32, (List.replicate 32 (0 : UInt8)).map vu8), (1, [(vi 0)]), (128, (List.replicate 128 (0 : UInt8)).map vu8), (1, [(vu64 0)]), (8, (List.replicate 8 (0 : UInt64)).map vu64), (1, [(.bool false)])]) Try.underlying54 (zv Try.typeInfo54 rfl) rfl (SsOk.cons (SOk.v rfl) (SsOk.cons (SOk.u8 (List.length_replicate ..)) (SsOk.cons (SOk.v rfl) (SsOk.cons (SOk.u8 (List.length_replicate ..)) (SsOk.cons (SOk.v rfl) (SsOk.cons (SOk.u64 (List.length_replicate ..)) (SsOk.cons (SOk.v rfl) SsOk.nil))))))) (pl54 _ Try.underlying54) rfl (FillR.cons [] [(1, [(vi 0)])] [(1, [(vi 4)])] [(32, (List.replicate 32 (0 : UInt8)).map vu8), (1, [(vi 0)]), (128, (List.replicate 128 (0 : UInt8)).map vu8), (1, [(vu64 0)]), (8, (List.replicate 8 (0 : UInt64)).map vu64), (1, [(.bool false)])] rfl rfl rfl rfl (SsOk.cons (SOk.v rfl) SsOk.nil) rfl rfl rfl FillR.nil) rfl) ?_
  refine WL.want rfl rfl ?_
  refine WL.call (al := [(.agg ⟨flat [(1, [(vi 4)]), (32, (List.replicate 32 (0 : UInt8)).map vu8), (1, [(vi 0)]), (128, (List.replicate 128 (0 : UInt8)).map vu8), (1, [(vu64 0)]), (8, (List.replicate 8 (0 : UInt64)).map vu64), (1, [(.bool false)])]⟩)]) Try.call20 rfl rfl (c_May_r4  _ ) rfl ?_
  rintro _ w_54 ⟨rfl, hc_53⟩
  have h_55 := h_51.same hc_53
  refine WL.q (Wn.no rfl) rfl rfl (R.pickF (v := (.bool false)) rfl rfl) ?_
  refine WL.q (Wn.no rfl) rfl rfl (R.move (v := (.bool false)) rfl) ?_
  refine WL.want rfl rfl ?_
  refine WL.q (Wn.no rfl) rfl rfl (R.buildS (pl := [(0, 1), (1, 32), (33, 1), (34, 128), (162, 10)]) (zs := [(1, [(vi 0)]), (32, (List.replicate 32 (0 : UInt8)).map vu8), (1, [(vi 0)]), (128, (List.replicate 128 (0 : UInt8)).map vu8), (1, [(vu64 0)]), (8, (List.replicate 8 (0 : UInt64)).map vu64), (1, [(.bool false)])]) (vs := [(0, (vi 1)), (2, (vi 1))]) (out := [(1, [(vi 1)]), (32, (List.replicate 32 (0 : UInt8)).map vu8), (1, [(vi 1)]), (128, (List.replicate 128 (0 : UInt8)).map vu8), (1, [(vu64 0)]), (8, (List.replicate 8 (0 : UInt64)).map vu64), (1, [(.bool false)])]) (cs := flat [(1, [(vi 1)]), (32, (List.replicate 32 (0 : UInt8)).map vu8), (1, [(vi 1)]), (128, (List.replicate 128 (0 : UInt8)).map vu8), (1, [(vu64 0)]), (8, (List.replicate 8 (0 : UInt64)).map vu64), (1, [(.bool false)])]) Try.underlying54 (zv Try.typeInfo54 rfl) rfl (SsOk.cons (SOk.v rfl) (SsOk.cons (SOk.u8 (List.length_replicate ..)) (SsOk.cons (SOk.v rfl) (SsOk.cons (SOk.u8 (List.length_replicate ..)) (SsOk.cons (SOk.v rfl) (SsOk.cons (SOk.u64 (List.length_replicate ..)) (SsOk.cons (SOk.v rfl) SsOk.nil))))))) (pl54 _ Try.underlying54) rfl (FillR.cons [] [(1, [(vi 0)])] [(1, [(vi 1)])] [(32, (List.replicate 32 (0 : UInt8)).map vu8), (1, [(vi 0)]), (128, (List.replicate 128 (0 : UInt8)).map vu8), (1, [(vu64 0)]), (8, (List.replicate 8 (0 : UInt64)).map vu64), (1, [(.bool false)])] rfl rfl rfl rfl (SsOk.cons (SOk.v rfl) SsOk.nil) rfl rfl rfl (FillR.cons [(1, [(vi 1)]), (32, (List.replicate 32 (0 : UInt8)).map vu8)] [(1, [(vi 0)])] [(1, [(vi 1)])] [(128, (List.replicate 128 (0 : UInt8)).map vu8), (1, [(vu64 0)]), (8, (List.replicate 8 (0 : UInt64)).map vu64), (1, [(.bool false)])] rfl rfl rfl rfl (SsOk.cons (SOk.v rfl) SsOk.nil) rfl rfl rfl FillR.nil)) rfl) ?_
  refine WL.want rfl rfl ?_
  refine WL.call (al := [(.agg ⟨flat [(1, [(vi 1)]), (32, (List.replicate 32 (0 : UInt8)).map vu8), (1, [(vi 1)]), (128, (List.replicate 128 (0 : UInt8)).map vu8), (1, [(vu64 0)]), (8, (List.replicate 8 (0 : UInt64)).map vu64), (1, [(.bool false)])]⟩)]) Try.call20 rfl rfl (c_May_r1p  _ ) rfl ?_
  rintro _ w_58 ⟨rfl, hc_57⟩
  have h_59 := h_55.same hc_57
  refine WL.q (Wn.no rfl) rfl rfl (R.pickF (v := (.bool false)) rfl rfl) ?_
  refine WL.q (Wn.no rfl) rfl rfl (R.move (v := (.bool false)) rfl) ?_
  refine WL.want rfl rfl ?_
  refine WL.call (al := [(vu8 1)]) Try.call21 rfl rfl (c_dr1  _ ) rfl ?_
  rintro _ w_61 ⟨rfl, hc_60⟩
  have h_62 := h_59.same hc_60
  refine WL.want rfl rfl ?_
  refine WL.q (Wn.no rfl) rfl rfl (R.buildS (pl := [(0, 1), (1, 32), (33, 1), (34, 128), (162, 10)]) (zs := [(1, [(vi 0)]), (32, (List.replicate 32 (0 : UInt8)).map vu8), (1, [(vi 0)]), (128, (List.replicate 128 (0 : UInt8)).map vu8), (1, [(vu64 0)]), (8, (List.replicate 8 (0 : UInt64)).map vu64), (1, [(.bool false)])]) (vs := [(0, (vi 2)), (1, (.agg ⟨([1, 0, 0, 0, 0, 0, 0, 0, 0, 0, 0, 0, 0, 0, 0, 0, 0, 0, 0, 0, 0, 0, 0, 0, 0, 0, 0, 0, 0, 0, 0, 2] : List UInt8).map vu8⟩))]) (out := [(1, [(vi 2)]), (32, ([1, 0, 0, 0, 0, 0, 0, 0, 0, 0, 0, 0, 0, 0, 0, 0, 0, 0, 0, 0, 0, 0, 0, 0, 0, 0, 0, 0, 0, 0, 0, 2] : List UInt8).map vu8), (1, [(vi 0)]), (128, (List.replicate 128 (0 : UInt8)).map vu8), (1, [(vu64 0)]), (8, (List.replicate 8 (0 : UInt64)).map vu64), (1, [(.bool false)])]) (cs := flat [(1, [(vi 2)]), (32, ([1, 0, 0, 0, 0, 0, 0, 0, 0, 0, 0, 0, 0, 0, 0, 0, 0, 0, 0, 0, 0, 0, 0, 0, 0, 0, 0, 0, 0, 0, 0, 2] : List UInt8).map vu8), (1, [(vi 0)]), (128, (List.replicate 128 (0 : UInt8)).map vu8), (1, [(vu64 0)]), (8, (List.replicate 8 (0 : UInt64)).map vu64), (1, [(.bool false)])]) Try.underlying54 (zv Try.typeInfo54 rfl) rfl (SsOk.cons (SOk.v rfl) (SsOk.cons (SOk.u8 (List.length_replicate ..)) (SsOk.cons (SOk.v rfl) (SsOk.cons (SOk.u8 (List.length_replicate ..)) (SsOk.cons (SOk.v rfl) (SsOk.cons (SOk.u64 (List.length_replicate ..)) (SsOk.cons (SOk.v rfl) SsOk.nil))))))) (pl54 _ Try.underlying54) rfl (FillR.cons [] [(1, [(vi 0)])] [(1, [(vi 2)])] [(32, (List.replicate 32 (0 : UInt8)).map vu8), (1, [(vi 0)]), (128, (List.replicate 128 (0 : UInt8)).map vu8), (1, [(vu64 0)]), (8, (List.replicate 8 (0 : UInt64)).map vu64), (1, [(.bool false)])] rfl rfl rfl rfl (SsOk.cons (SOk.v rfl) SsOk.nil) rfl rfl rfl (FillR.cons [(1, [(vi 2)])] [(32, (List.replicate 32 (0 : UInt8)).map vu8)] [(32, ([1, 0, 0, 0, 0, 0, 0, 0, 0, 0, 0, 0, 0, 0, 0, 0, 0, 0, 0, 0, 0, 0, 0, 0, 0, 0, 0, 0, 0, 0, 0, 2] : List UInt8).map vu8)] [(1, [(vi 0)]), (128, (List.replicate 128 (0 : UInt8)).map vu8), (1, [(vu64 0)]), (8, (List.replicate 8 (0 : UInt64)).map vu64), (1, [(.bool false)])] rfl rfl rfl rfl (SsOk.cons (SOk.u8 (rfl : List.length ([1, 0, 0, 0, 0, 0, 0, 0, 0, 0, 0, 0, 0, 0, 0, 0, 0, 0, 0, 0, 0, 0, 0, 0, 0, 0, 0, 0, 0, 0, 0, 2] : List UInt8) = 32)) SsOk.nil) rfl rfl rfl FillR.nil)) rfl) ?_
  refine WL.want rfl rfl ?_
  refine WL.call (al := [(.agg ⟨flat [(1, [(vi 2)]), (32, ([1, 0, 0, 0, 0, 0, 0, 0, 0, 0, 0, 0, 0, 0, 0, 0, 0, 0, 0, 0, 0, 0, 0, 0, 0, 0, 0, 0, 0, 0, 0, 2] : List UInt8).map vu8), (1, [(vi 0)]), (128, (List.replicate 128 (0 : UInt8)).map vu8), (1, [(vu64 0)]), (8, (List.replicate 8 (0 : UInt64)).map vu64), (1, [(.bool false)])]⟩)]) Try.call20 rfl rfl (c_May_r2v  _ ) rfl ?_
  rintro _ w_65 ⟨rfl, hc_64⟩
  have h_66 := h_62.same hc_64
  refine WL.q (Wn.no rfl) rfl rfl (R.pickF (v := (.bool false)) rfl rfl) ?_
  refine WL.q (Wn.no rfl) rfl rfl (R.move (v := (.bool false)) rfl) ?_
  refine WL.want rfl rfl ?_
  refine WL.q (Wn.no rfl) rfl rfl (R.buildS (pl := [(0, 1), (1, 32), (33, 1), (34, 128), (162, 10)]) (zs := [(1, [(vi 0)]), (32, (List.replicate 32 (0 : UInt8)).map vu8), (1, [(vi 0)]), (128, (List.replicate 128 (0 : UInt8)).map vu8), (1, [(vu64 0)]), (8, (List.replicate 8 (0 : UInt64)).map vu64), (1, [(.bool false)])]) (vs := [(0, (vi 2)), (2, (vi 128))]) (out := [(1, [(vi 2)]), (32, (List.replicate 32 (0 : UInt8)).map vu8), (1, [(vi 128)]), (128, (List.replicate 128 (0 : UInt8)).map vu8), (1, [(vu64 0)]), (8, (List.replicate 8 (0 : UInt64)).map vu64), (1, [(.bool false)])]) (cs := flat [(1, [(vi 2)]), (32, (List.replicate 32 (0 : UInt8)).map vu8), (1, [(vi 128)]), (128, (List.replicate 128 (0 : UInt8)).map vu8), (1, [(vu64 0)]), (8, (List.replicate 8 (0 : UInt64)).map vu64), (1, [(.bool false)])]) Try.underlying54 (zv Try.typeInfo54 rfl) rfl (SsOk.cons (SOk.v rfl) (SsOk.cons (SOk.u8 (List.length_replicate ..)) (SsOk.cons (SOk.v rfl) (SsOk.cons (SOk.u8 (List.length_replicate ..)) (SsOk.cons (SOk.v rfl) (SsOk.cons (SOk.u64 (List.length_replicate ..)) (SsOk.cons (SOk.v rfl) SsOk.nil))))))) (pl54 _ Try.underlying54) rfl (FillR.cons [] [(1, [(vi 0)])] [(1, [(vi 2)])] [(32, (List.replicate 32 (0 : UInt8)).map vu8), (1, [(vi 0)]), (128, (List.replicate 128 (0 : UInt8)).map vu8), (1, [(vu64 0)]), (8, (List.replicate 8 (0 : UInt64)).map vu64), (1, [(.bool false)])] rfl rfl rfl rfl (SsOk.cons (SOk.v rfl) SsOk.nil) rfl rfl rfl (FillR.cons [(1, [(vi 2)]), (32, (List.replicate 32 (0 : UInt8)).map vu8)] [(1, [(vi 0)])] [(1, [(vi 128)])] [(128, (List.replicate 128 (0 : UInt8)).map vu8), (1, [(vu64 0)]), (8, (List.replicate 8 (0 : UInt64)).map vu64), (1, [(.bool false)])] rfl rfl rfl rfl (SsOk.cons (SOk.v rfl) SsOk.nil) rfl rfl rfl FillR.nil)) rfl) ?_
  refine WL.want rfl rfl ?_
  refine WL.call (al := [(.agg ⟨flat [(1, [(vi 2)]), (32, (List.replicate 32 (0 : UInt8)).map vu8), (1, [(vi 128)]), (128, (List.replicate 128 (0 : UInt8)).map vu8), (1, [(vu64 0)]), (8, (List.replicate 8 (0 : UInt64)).map vu64), (1, [(.bool false)])]⟩)]) Try.call20 rfl rfl (c_May_r2p  _ ) rfl ?_
  rintro _ w_69 ⟨rfl, hc_68⟩
  have h_70 := h_66.same hc_68
  refine WL.q (Wn.no rfl) rfl rfl (R.pickF (v := (.bool false)) rfl rfl) ?_
  refine WL.q (Wn.no rfl) rfl rfl (R.move (v := (.bool false)) rfl) ?_
  refine WL.want rfl rfl ?_
  refine WL.q (Wn.no rfl) rfl rfl (R.buildS (pl := [(0, 1), (1, 8), (9, 1)]) (zs := [(1, [(vu64 0)]), (8, (List.replicate 8 (0 : UInt64)).map vu64), (1, [(.bool false)])]) (vs := [(0, (vu64 4))]) (out := [(1, [(vu64 4)]), (8, (List.replicate 8 (0 : UInt64)).map vu64), (1, [(.bool false)])]) (cs := flat [(1, [(vu64 4)]), (8, (List.replicate 8 (0 : UInt64)).map vu64), (1, [(.bool false)])]) Try.underlying50 (zv Try.typeInfo50 rfl) rfl (SsOk.cons (SOk.v rfl) (SsOk.cons (SOk.u64 (List.length_replicate ..)) (SsOk.cons (SOk.v rfl) SsOk.nil))) (pl50 _ Try.underlying50) rfl (FillR.cons [] [(1, [(vu64 0)])] [(1, [(vu64 4)])] [(8, (List.replicate 8 (0 : UInt64)).map vu64), (1, [(.bool false)])] rfl rfl rfl rfl (SsOk.cons (SOk.v rfl) SsOk.nil) rfl rfl rfl FillR.nil) rfl) ?_
  refine WL.want rfl rfl ?_
  refine WL.q (Wn.no rfl) rfl rfl (R.buildS (pl := [(0, 1), (1, 32), (33, 1), (34, 128), (162, 10)]) (zs := [(1, [(vi 0)]), (32, (List.replicate 32 (0 : UInt8)).map vu8), (1, [(vi 0)]), (128, (List.replicate 128 (0 : UInt8)).map vu8), (1, [(vu64 0)]), (8, (List.replicate 8 (0 : UInt64)).map vu64), (1, [(.bool false)])]) (vs := [(0, (vi 3)), (4, (.agg ⟨flat [(1, [(vu64 4)]), (8, (List.replicate 8 (0 : UInt64)).map vu64), (1, [(.bool false)])]⟩))]) (out := [(1, [(vi 3)]), (32, (List.replicate 32 (0 : UInt8)).map vu8), (1, [(vi 0)]), (128, (List.replicate 128 (0 : UInt8)).map vu8), (1, [(vu64 4)]), (8, (List.replicate 8 (0 : UInt64)).map vu64), (1, [(.bool false)])]) (cs := flat [(1, [(vi 3)]), (32, (List.replicate 32 (0 : UInt8)).map vu8), (1, [(vi 0)]), (128, (List.replicate 128 (0 : UInt8)).map vu8), (1, [(vu64 4)]), (8, (List.replicate 8 (0 : UInt64)).map vu64), (1, [(.bool false)])]) Try.underlying54 (zv Try.typeInfo54 rfl) rfl (SsOk.cons (SOk.v rfl) (SsOk.cons (SOk.u8 (List.length_replicate ..)) (SsOk.cons (SOk.v rfl) (SsOk.cons (SOk.u8 (List.length_replicate ..)) (SsOk.cons (SOk.v rfl) (SsOk.cons (SOk.u64 (List.length_replicate ..)) (SsOk.cons (SOk.v rfl) SsOk.nil))))))) (pl54 _ Try.underlying54) rfl (FillR.cons [] [(1, [(vi 0)])] [(1, [(vi 3)])] [(32, (List.replicate 32 (0 : UInt8)).map vu8), (1, [(vi 0)]), (128, (List.replicate 128 (0 : UInt8)).map vu8), (1, [(vu64 0)]), (8, (List.replicate 8 (0 : UInt64)).map vu64), (1, [(.bool false)])] rfl rfl rfl rfl (SsOk.cons (SOk.v rfl) SsOk.nil) rfl rfl rfl (FillR.cons [(1, [(vi 3)]), (32, (List.replicate 32 (0 : UInt8)).map vu8), (1, [(vi 0)]), (128, (List.replicate 128 (0 : UInt8)).map vu8)] [(1, [(vu64 0)]), (8, (List.replicate 8 (0 : UInt64)).map vu64), (1, [(.bool false)])] [(1, [(vu64 4)]), (8, (List.replicate 8 (0 : UInt64)).map vu64), (1, [(.bool false)])] [] rfl rfl rfl rfl (SsOk.cons (SOk.v rfl) (SsOk.cons (SOk.u64 (List.length_replicate ..)) (SsOk.cons (SOk.v rfl) SsOk.nil))) rfl rfl rfl FillR.nil)) rfl) ?_
  refine WL.want rfl rfl ?_
  refine WL.call (al := [(.agg ⟨flat [(1, [(vi 3)]), (32, (List.replicate 32 (0 : UInt8)).map vu8), (1, [(vi 0)]), (128, (List.replicate 128 (0 : UInt8)).map vu8), (1, [(vu64 4)]), (8, (List.replicate 8 (0 : UInt64)).map vu64), (1, [(.bool false)])]⟩)]) Try.call20 rfl rfl (c_May_r3  _ ) rfl ?_
  rintro _ w_74 ⟨rfl, hc_73⟩
  have h_75 := h_70.same hc_73
  refine WL.q (Wn.no rfl) rfl rfl (R.pickF (v := (.bool false)) rfl rfl) ?_
  refine WL.q (Wn.no rfl) rfl rfl (R.move (v := (.bool false)) rfl) ?_
  refine WL.want rfl rfl ?_
  refine WL.call (al := [(.slice none 0 0)]) Try.call22 rfl rfl (c_MayAll_0  _ ) rfl ?_
  rintro _ w_77 ⟨rfl, hc_76⟩
  have h_78 := h_75.same hc_76
  refine WL.q (Wn.no rfl) rfl rfl (R.pickF (v := (.bool false)) rfl rfl) ?_
  refine WL.q (Wn.no rfl) rfl rfl (R.assign (v := (.bool false)) rfl) ?_
  refine WL.nil ?_
  refine thn_n ?_
  refine WP.seq ?_
  refine WP.reg ?_
  refine WL.q (Wn.no rfl) rfl rfl (R.move (v := (vi 1)) rfl) ?_
  refine WL.call (al := [(vi 1)]) Try.call14 rfl rfl (c_num12 1 (by omega) _ ) rfl ?_
  rintro _ w_80 ⟨rfl, hc_79⟩
  have h_81 := h_78.same hc_79
  refine WL.q (Wn.no rfl) rfl rfl (R.bin (v := (.bool true)) rfl rfl (bi_eql (r := true) (by decide))) ?_
  refine WL.q (Wn.no rfl) rfl rfl (R.move (v := (.bool true)) rfl) ?_
  refine WL.want rfl rfl ?_
  refine WL.q (Wn.no rfl) rfl rfl (R.move (v := (vi 1)) rfl) ?_
  refine WL.want rfl rfl ?_
  refine WL.call (al := [(vi 1)]) Try.call14 rfl rfl (c_num12 1 (by omega) _ ) rfl ?_
  rintro _ w_83 ⟨rfl, hc_82⟩
  have h_84 := h_81.same hc_82
  refine WL.want rfl rfl ?_
  refine WL.q (Wn.no rfl) rfl rfl (R.bin (v := (.bool true)) rfl rfl (bi_eql (r := true) (by decide))) ?_
  refine WL.q (Wn.no rfl) rfl rfl (R.pickT (v := (.bool true)) rfl rfl) ?_
  refine WL.q (Wn.no rfl) rfl rfl (R.move (v := (.bool true)) rfl) ?_
  refine WL.want rfl rfl ?_
  refine WL.q (Wn.no rfl) rfl rfl (R.move (v := (vi 1)) rfl) ?_
  refine WL.want rfl rfl ?_
  refine WL.call (al := [(vi 1)]) Try.call14 rfl rfl (c_num12 1 (by omega) _ ) rfl ?_
  rintro _ w_86 ⟨rfl, hc_85⟩
  have h_87 := h_84.same hc_85
  refine WL.want rfl rfl ?_
  refine WL.q (Wn.no rfl) rfl rfl (R.bin (v := (.bool true)) rfl rfl (bi_eql (r := true) (by decide))) ?_
  refine WL.q (Wn.no rfl) rfl rfl (R.pickT (v := (.bool true)) rfl rfl) ?_
  refine WL.q (Wn.no rfl) rfl rfl (R.move (v := (.bool true)) rfl) ?_
  refine WL.want rfl rfl ?_
  refine WL.q (Wn.no rfl) rfl rfl (R.move (v := (vi 1)) rfl) ?_
  refine WL.want rfl rfl ?_
  refine WL.call (al := [(vi 1)]) Try.call14 rfl rfl (c_num12 1 (by omega) _ ) rfl ?_
  rintro _ w_89 ⟨rfl, hc_88⟩
  have h_90 := h_87.same hc_88
  refine WL.want rfl rfl ?_
  refine WL.q (Wn.no rfl) rfl rfl (R.bin (v := (.bool true)) rfl rfl (bi_eql (r := true) (by decide))) ?_
  refine WL.q (Wn.no rfl) rfl rfl (R.pickT (v := (.bool true)) rfl rfl) ?_
  refine WL.q (Wn.no rfl) rfl rfl (R.move (v := (.bool true)) rfl) ?_
  refine WL.want rfl rfl ?_
  refine WL.q (Wn.no rfl) rfl rfl (R.move (v := (vi 1)) rfl) ?_
  refine WL.want rfl rfl ?_
  refine WL.call (al := [(vi 1)]) Try.call14 rfl rfl (c_num12 1 (by omega) _ ) rfl ?_
  rintro _ w_92 ⟨rfl, hc_91⟩
  have h_93 := h_90.same hc_91
  refine WL.want rfl rfl ?_
  refine WL.q (Wn.no rfl) rfl rfl (R.bin (v := (.bool true)) rfl rfl (bi_eql (r := true) (by decide))) ?_
  refine WL.q (Wn.no rfl) rfl rfl (R.pickT (v := (.bool true)) rfl rfl) ?_
  refine WL.q (Wn.no rfl) rfl rfl (R.move (v := (.bool true)) rfl) ?_
  refine WL.want rfl rfl ?_
  refine WL.q (Wn.no rfl) rfl rfl (R.move (v := (.bool false)) rfl) ?_
  refine WL.want rfl rfl ?_
  refine WL.q (Wn.no rfl) rfl rfl (R.not (b := false) rfl) ?_
  refine WL.q (Wn.no rfl) rfl rfl (R.pickT (v := (.bool true)) rfl rfl) ?_
  refine WL.q (Wn.no rfl) rfl rfl (R.move (v := (.bool true)) rfl) ?_
  refine WL.want rfl rfl ?_
  refine WL.call (al := []) Try.call10 rfl rfl (c_known12  _ ) rfl ?_
  rintro _ w_95 ⟨rfl, hc_94⟩
  have h_96 := h_93.same hc_94
  refine WL.q (Wn.no rfl) rfl rfl (R.pickT (v := (.bool true)) rfl rfl) ?_
  refine WL.q (Wn.no rfl) rfl rfl (R.assign (v := (.bool true)) rfl) ?_
  refine WL.nil ?_
  refine thn_n ?_
  refine WP.ret ?_
  refine ret_of Try.results4 (RV.tmp (v := (.bool true)) rfl RV.nil) ?_
  exact ⟨rfl, h_96.chgS⟩
namespace measureNilDone
open Go.ChangeShapes Go.WideShapes Go.ChangeAt
theorem own : ownKnob Try.prog.godebug = none := by kernel_rfl
theorem laidOut : laidOutB Try.prog = true := by kernel_rfl
set_option maxRecDepth 100000 in
theorem lifted (os : Os) (started : os.Started) (H : Type) (enc : TypeId × Value → H) :
    ReturnsInHanded {} Try.checked os 4 .any (Rows.measureNilSpec.pre6 enc Try.prog Try.f4 Rows.measureNilRow.domain false) (Rows.measureNilSpec.post enc Try.prog Try.f4 false true false false) := by
  refine returnsInHanded_of_change (C := Try.checked) own started (by kernel_rfl) Try.func4
    (ChangeSpec.witness6 (enc := enc) (C := Try.checked) false ⟨#[], #[], []⟩ 8 (by kernel_rfl) (by kernel_rfl) (by kernel_rfl) (by kernel_rfl)) ?_
  intro W base args ds gs before hval0 hW hcnd _
  have hval : ∀ (j : Nat) t v, Try.f4.params[j]? = some t → args[j]? = some v → Value.okWide Try.prog W .any base t v := hval0
  have hW' := hW
  obtain ⟨p, q, hA0, hV, rfl, hfz, hnd⟩ := hW
  have hA : DataW.TrodAll enc Try.prog W 0 (fun _ => true) true Try.f4.params.toList args.toList ds p := hA0
  rw [Try.params4] at hA hval
  obtain ⟨hargs, rfl, rfl⟩ := trodAll_nil hA
  obtain rfl : args = #[] := by cases args; simp_all
  obtain ⟨rfl, rfl⟩ := trodVars_none hV
  clear hA0 hval0
  have hw : Cs Try.prog 4 [].toArray W (fun v w1 => v = .bool true ∧ Chg W w1 []) := w_MeasureNil W
  have ea : ([] : List Value).toArray = (#[] : Array Value) := by simp [flat]
  rw [ea] at hw
  refine Calls.mono (Cs.below hw) fun e W' ⟨he, bel⟩ => ?_
  subst he
  exact ⟨_, rfl, _, _, _, [], _, [], hW', trodAll_mk1 (shut_bool Try.underlying4 _), trodAll_mk0, rfl, bel.frame _, fun h => by cases h⟩
theorem over : Rows.measureNilRow.holds Try.pinned (OpenSpec.ofChange Rows.measureNilSpec) :=
  OpenClaim.holds_of_wide 4 Try.f4 rfl rfl rfl rfl rfl rfl rfl ⟨rfl, rfl, rfl, rfl, rfl⟩ rfl rfl rfl rfl rfl (by kernel_rfl) Try.func4 (by kernel_rfl)
    (of_decide_eq_true (by kernel_rfl)) (by unfold Func.isWrapper; first | (rw [if_pos (by decide +kernel)]; kernel_rfl) | (rw [if_neg (by decide +kernel)]; exact ⟨rfl, rfl⟩))
    (fun os started H enc _ => lifted os started H enc)
theorem proved : Rows.MeasureNilSaid := over
end measureNilDone
end Go.Proofs.Ytbldmljbfokobaa
