/- ParamsBounds holds of every input. Conditions: none. -/
import Derived.Test.YthkcekgemanfdaaC3
namespace Go.Proofs.Ythkcekgemanfdaa
open Go.Vc Go.RowKit
set_option linter.unusedVariables false
set_option linter.unusedSimpArgs false
set_option maxRecDepth 20000
theorem w_ParamsBounds  (w : World) :
    Cs Try.prog 8 [].toArray w (fun v w1 => v = .bool true ∧ Chg w w1 []) := by
  refine Cs.of (n := 74) (args := []) Try.func8 rfl rfl rfl ?_
  have h_0 := HP.init w
  refine WP.seq ?_
  refine WP.reg ?_
  refine WL.q (Wn.no rfl) rfl rfl (R.assign (v := (.bool false)) rfl) ?_
  refine WL.nil ?_
  refine thn_n ?_
  refine WP.seq ?_
  refine WP.reg ?_
  refine WL.q (Wn.no rfl) rfl rfl (R.assign (v := (vu64 516096)) rfl) ?_
  refine WL.nil ?_
  refine thn_n ?_
  refine WP.seq ?_
  refine WP.reg ?_
  refine WL.q (Wn.no rfl) rfl rfl (R.buildS (pl := [(0, 1), (1, 8), (9, 1)]) (zs := [(1, [(vu64 0)]), (8, (List.replicate 8 (0 : UInt64)).map vu64), (1, [(.bool false)])]) (vs := []) (out := [(1, [(vu64 0)]), (8, (List.replicate 8 (0 : UInt64)).map vu64), (1, [(.bool false)])]) (cs := flat [(1, [(vu64 0)]), (8, (List.replicate 8 (0 : UInt64)).map vu64), (1, [(.bool false)])]) Try.underlying45 (zv Try.typeInfo45 rfl) rfl (SsOk.cons (SOk.v rfl) (SsOk.cons (SOk.u64 (List.length_replicate ..)) (SsOk.cons (SOk.v rfl) SsOk.nil))) (pl45 _ Try.underlying45) rfl FillR.nil rfl) ?_
  refine WL.call (al := [(.agg ⟨flat [(1, [(vu64 0)]), (8, (List.replicate 8 (0 : UInt64)).map vu64), (1, [(.bool false)])]⟩)]) Try.call24 rfl rfl (c_RecBytes_t (0 : UInt64) (List.replicate 8 (0 : UInt64)) (List.length_replicate ..) false (by decide +kernel) _ ) rfl ?_
  rintro _ w_3 ⟨rfl, hc_2⟩
  have h_4 := h_0.same hc_2
  refine WL.q (Wn.no rfl) rfl rfl (R.move (v := (.tuple [(.agg ⟨(recB (0 : UInt64) (List.replicate 8 (0 : UInt64)) false).map vu8⟩), (vi 0)].toArray)) rfl) ?_
  refine WL.q (Wn.no rfl) rfl rfl (R.extract (l := [(.agg ⟨(recB (0 : UInt64) (List.replicate 8 (0 : UInt64)) false).map vu8⟩), (vi 0)]) (v := (.agg ⟨(recB (0 : UInt64) (List.replicate 8 (0 : UInt64)) false).map vu8⟩)) rfl rfl) ?_
  refine WL.q (Wn.no rfl) rfl rfl (R.extract (l := [(.agg ⟨(recB (0 : UInt64) (List.replicate 8 (0 : UInt64)) false).map vu8⟩), (vi 0)]) (v := (vi 0)) rfl rfl) ?_
  refine WL.alloc (segs := [(128, (List.replicate 128 (0 : UInt8)).map vu8)]) h_4 (zv Try.typeInfo53 rfl) rfl (SsOk.cons (SOk.u8 (List.length_replicate ..)) SsOk.nil) rfl (fun b_5 w_6 h_7 => ?_)
  refine WL.storeA (b := b_5) (off := 0) [] [(128, (List.replicate 128 (0 : UInt8)).map vu8)] [(128, (recB (0 : UInt64) (List.replicate 8 (0 : UInt64)) false).map vu8)] [] (ys := (recB (0 : UInt64) (List.replicate 8 (0 : UInt64)) false).map vu8) h_7 rfl rfl Try.sizeOf53 At.h (by decide) rfl rfl rfl rfl rfl rfl (SsOk.cons (SOk.u8 (recB_len ..)) SsOk.nil) (fun w_8 h_9 => ?_)
  refine WL.q (Wn.no rfl) rfl rfl (R.assign (v := (vi 0)) rfl) ?_
  refine WL.nil ?_
  refine thn_n ?_
  refine WP.seq ?_
  refine WP.reg ?_
  refine WL.q (Wn.no rfl) rfl rfl (R.indexA (b := b_5) (off := 0) (off' := 80) (i := 80) rfl rfl rfl (by decide) Try.underlying53 Try.sizeOf5 rfl) ?_
  refine WL.storeE (b := b_5) (off := 80) (i := 80) (v := (vu8 2)) (cs' := ((recB (0 : UInt64) (List.replicate 8 (0 : UInt64)) false).set 80 2).map vu8) h_9 rfl rfl Try.sizeOf5 rfl At.h (by decide) Sg.h rfl (lt_len (K := 128) (len_map (recB_len ..)) (by decide)) (set_u8 _ _ _) (fun w_10 h_11 => ?_)
  refine WL.nil ?_
  refine thn_n ?_
  refine WP.seq ?_
  refine WP.reg ?_
  refine WL.q (Wn.no rfl) rfl rfl (R.loadA (b := b_5) (off := 0) [] [(128, ((recB (0 : UInt64) (List.replicate 8 (0 : UInt64)) false).set 80 2).map vu8)] [] (cs := ((recB (0 : UInt64) (List.replicate 8 (0 : UInt64)) false).set 80 2).map vu8) rfl Try.isAgg53 Try.sizeOf53 (h_11.ok _ (.head _)) rfl rfl rfl rfl) ?_
  refine WL.call (al := [(.agg ⟨((recB (0 : UInt64) (List.replicate 8 (0 : UInt64)) false).set 80 2).map vu8⟩)]) Try.call28 rfl rfl (c_Rec_f ((recB (0 : UInt64) (List.replicate 8 (0 : UInt64)) false).set 80 2) (len_set (recB_len ..) _ _) (by decide +kernel) _ ) rfl ?_
  rintro _ w_13 ⟨rfl, hc_12⟩
  have h_14 := h_11.same hc_12
  refine WL.q (Wn.no rfl) rfl rfl (R.move (v := (.tuple [(.agg ⟨flat [(1, [(vu64 0)]), (8, (List.replicate 8 (0 : UInt64)).map vu64), (1, [(.bool false)])]⟩), (vi 4)].toArray)) rfl) ?_
  refine WL.q (Wn.no rfl) rfl rfl (R.extract (l := [(.agg ⟨flat [(1, [(vu64 0)]), (8, (List.replicate 8 (0 : UInt64)).map vu64), (1, [(.bool false)])]⟩), (vi 4)]) (v := (.agg ⟨flat [(1, [(vu64 0)]), (8, (List.replicate 8 (0 : UInt64)).map vu64), (1, [(.bool false)])]⟩)) rfl rfl) ?_
  refine WL.q (Wn.no rfl) rfl rfl (R.extract (l := [(.agg ⟨flat [(1, [(vu64 0)]), (8, (List.replicate 8 (0 : UInt64)).map vu64), (1, [(.bool false)])]⟩), (vi 4)]) (v := (vi 4)) rfl rfl) ?_
  refine WL.alloc (segs := [(1, [(vu64 0)]), (8, (List.replicate 8 (0 : UInt64)).map vu64), (1, [(.bool false)])]) h_14 (zv Try.typeInfo45 rfl) rfl (SsOk.cons (SOk.v rfl) (SsOk.cons (SOk.u64 (List.length_replicate ..)) (SsOk.cons (SOk.v rfl) SsOk.nil))) rfl (fun b_15 w_16 h_17 => ?_)
  refine WL.storeA (b := b_15) (off := 0) [] [(1, [(vu64 0)]), (8, (List.replicate 8 (0 : UInt64)).map vu64), (1, [(.bool false)])] [(1, [(vu64 0)]), (8, (List.replicate 8 (0 : UInt64)).map vu64), (1, [(.bool false)])] [] (ys := flat [(1, [(vu64 0)]), (8, (List.replicate 8 (0 : UInt64)).map vu64), (1, [(.bool false)])]) h_17 rfl rfl Try.sizeOf45 At.h (by decide) rfl rfl rfl rfl rfl rfl (SsOk.cons (SOk.v rfl) (SsOk.cons (SOk.u64 (List.length_replicate ..)) (SsOk.cons (SOk.v rfl) SsOk.nil))) (fun w_18 h_19 => ?_)
  refine WL.q (Wn.no rfl) rfl rfl (R.assign (v := (vi 4)) rfl) ?_
  refine WL.nil ?_
  refine thn_n ?_
  refine WP.seq ?_
  refine WP.reg ?_
  refine WL.q (Wn.no rfl) rfl rfl (R.buildS (pl := [(0, 1), (1, 8), (9, 1)]) (zs := [(1, [(vu64 0)]), (8, (List.replicate 8 (0 : UInt64)).map vu64), (1, [(.bool false)])]) (vs := [(0, (vu64 18446744073709551608))]) (out := [(1, [(vu64 18446744073709551608)]), (8, (List.replicate 8 (0 : UInt64)).map vu64), (1, [(.bool false)])]) (cs := flat [(1, [(vu64 18446744073709551608)]), (8, (List.replicate 8 (0 : UInt64)).map vu64), (1, [(.bool false)])]) Try.underlying45 (zv Try.typeInfo45 rfl) rfl (SsOk.cons (SOk.v rfl) (SsOk.cons (SOk.u64 (List.length_replicate ..)) (SsOk.cons (SOk.v rfl) SsOk.nil))) (pl45 _ Try.underlying45) rfl (FillR.cons [] [(1, [(vu64 0)])] [(1, [(vu64 18446744073709551608)])] [(8, (List.replicate 8 (0 : UInt64)).map vu64), (1, [(.bool false)])] rfl rfl rfl rfl (SsOk.cons (SOk.v rfl) SsOk.nil) rfl rfl rfl FillR.nil) rfl) ?_
  refine WL.call (al := [(.agg ⟨flat [(1, [(vu64 18446744073709551608)]), (8, (List.replicate 8 (0 : UInt64)).map vu64), (1, [(.bool false)])]⟩)]) Try.call24 rfl rfl (c_RecBytes_t (18446744073709551608 : UInt64) (List.replicate 8 (0 : UInt64)) (List.length_replicate ..) false (by decide +kernel) _ ) rfl ?_
  rintro _ w_22 ⟨rfl, hc_21⟩
  have h_23 := h_19.same hc_21
  refine WL.q (Wn.no rfl) rfl rfl (R.move (v := (.tuple [(.agg ⟨(recB (18446744073709551608 : UInt64) (List.replicate 8 (0 : UInt64)) false).map vu8⟩), (vi 0)].toArray)) rfl) ?_
  refine WL.q (Wn.no rfl) rfl rfl (R.extract (l := [(.agg ⟨(recB (18446744073709551608 : UInt64) (List.replicate 8 (0 : UInt64)) false).map vu8⟩), (vi 0)]) (v := (.agg ⟨(recB (18446744073709551608 : UInt64) (List.replicate 8 (0 : UInt64)) false).map vu8⟩)) rfl rfl) ?_
  refine WL.q (Wn.no rfl) rfl rfl (R.extract (l := [(.agg ⟨(recB (18446744073709551608 : UInt64) (List.replicate 8 (0 : UInt64)) false).map vu8⟩), (vi 0)]) (v := (vi 0)) rfl rfl) ?_
  refine WL.alloc (segs := [(128, (List.replicate 128 (0 : UInt8)).map vu8)]) h_23 (zv Try.typeInfo53 rfl) rfl (SsOk.cons (SOk.u8 (List.length_replicate ..)) SsOk.nil) rfl (fun b_24 w_25 h_26 => ?_)
  refine WL.storeA (b := b_24) (off := 0) [] [(128, (List.replicate 128 (0 : UInt8)).map vu8)] [(128, (recB (18446744073709551608 : UInt64) (List.replicate 8 (0 : UInt64)) false).map vu8)] [] (ys := (recB (18446744073709551608 : UInt64) (List.replicate 8 (0 : UInt64)) false).map vu8) h_26 rfl rfl Try.sizeOf53 At.h (by decide) rfl rfl rfl rfl rfl rfl (SsOk.cons (SOk.u8 (recB_len ..)) SsOk.nil) (fun w_27 h_28 => ?_)
  refine WL.q (Wn.no rfl) rfl rfl (R.assign (v := (vi 0)) rfl) ?_
  refine WL.nil ?_
  refine thn_n ?_
  refine WP.seq ?_
  refine WP.reg ?_
  refine WL.q (Wn.no rfl) rfl rfl (R.buildS (pl := [(0, 1), (1, 8), (9, 1)]) (zs := [(1, [(vu64 0)]), (8, (List.replicate 8 (0 : UInt64)).map vu64), (1, [(.bool false)])]) (vs := [(0, (vu64 4))]) (out := [(1, [(vu64 4)]), (8, (List.replicate 8 (0 : UInt64)).map vu64), (1, [(.bool false)])]) (cs := flat [(1, [(vu64 4)]), (8, (List.replicate 8 (0 : UInt64)).map vu64), (1, [(.bool false)])]) Try.underlying45 (zv Try.typeInfo45 rfl) rfl (SsOk.cons (SOk.v rfl) (SsOk.cons (SOk.u64 (List.length_replicate ..)) (SsOk.cons (SOk.v rfl) SsOk.nil))) (pl45 _ Try.underlying45) rfl (FillR.cons [] [(1, [(vu64 0)])] [(1, [(vu64 4)])] [(8, (List.replicate 8 (0 : UInt64)).map vu64), (1, [(.bool false)])] rfl rfl rfl rfl (SsOk.cons (SOk.v rfl) SsOk.nil) rfl rfl rfl FillR.nil) rfl) ?_
  refine WL.call (al := [(.agg ⟨flat [(1, [(vu64 4)]), (8, (List.replicate 8 (0 : UInt64)).map vu64), (1, [(.bool false)])]⟩)]) Try.call24 rfl rfl (c_RecBytes_f (4 : UInt64) (List.replicate 8 (0 : UInt64)) (List.length_replicate ..) false (by decide +kernel) _ ) rfl ?_
  rintro _ w_31 ⟨rfl, hc_30⟩
  have h_32 := h_28.same hc_30
  refine WL.q (Wn.no rfl) rfl rfl (R.move (v := (.tuple [(.agg ⟨(List.replicate 128 (0 : UInt8)).map vu8⟩), (vi 2)].toArray)) rfl) ?_
  refine WL.q (Wn.no rfl) rfl rfl (R.extract (l := [(.agg ⟨(List.replicate 128 (0 : UInt8)).map vu8⟩), (vi 2)]) (v := (.agg ⟨(List.replicate 128 (0 : UInt8)).map vu8⟩)) rfl rfl) ?_
  refine WL.q (Wn.no rfl) rfl rfl (R.extract (l := [(.agg ⟨(List.replicate 128 (0 : UInt8)).map vu8⟩), (vi 2)]) (v := (vi 2)) rfl rfl) ?_
  refine WL.alloc (segs := [(128, (List.replicate 128 (0 : UInt8)).map vu8)]) h_32 (zv Try.typeInfo53 rfl) rfl (SsOk.cons (SOk.u8 (List.length_replicate ..)) SsOk.nil) rfl (fun b_33 w_34 h_35 => ?_)
  refine WL.storeA (b := b_33) (off := 0) [] [(128, (List.replicate 128 (0 : UInt8)).map vu8)] [(128, (List.replicate 128 (0 : UInt8)).map vu8)] [] (ys := (List.replicate 128 (0 : UInt8)).map vu8) h_35 rfl rfl Try.sizeOf53 At.h (by decide) rfl rfl rfl rfl rfl rfl (SsOk.cons (SOk.u8 (List.length_replicate ..)) SsOk.nil) (fun w_36 h_37 => ?_)
  refine WL.q (Wn.no rfl) rfl rfl (R.assign (v := (vi 2)) rfl) ?_
  refine WL.nil ?_
  refine thn_n ?_
  refine WP.seq ?_
  refine WP.reg ?_
  refine WL.q (Wn.no rfl) rfl rfl (R.move (v := (vu64 516096)) rfl) ?_
  refine WL.q (Wn.no rfl) rfl rfl (R.buildS (pl := [(0, 32), (32, 1)]) (zs := [(32, (List.replicate 32 (0 : UInt8)).map vu8), (1, [(vu64 0)])]) (vs := [(1, (vu64 516096))]) (out := [(32, (List.replicate 32 (0 : UInt8)).map vu8), (1, [(vu64 516096)])]) (cs := flat [(32, (List.replicate 32 (0 : UInt8)).map vu8), (1, [(vu64 516096)])]) Try.underlying51 (zv Try.typeInfo51 rfl) rfl (SsOk.cons (SOk.u8 (List.length_replicate ..)) (SsOk.cons (SOk.v rfl) SsOk.nil)) (pl51 _ Try.underlying51) rfl (FillR.cons [(32, (List.replicate 32 (0 : UInt8)).map vu8)] [(1, [(vu64 0)])] [(1, [(vu64 516096)])] [] rfl rfl rfl rfl (SsOk.cons (SOk.v rfl) SsOk.nil) rfl rfl rfl FillR.nil) rfl) ?_
  refine WL.call (al := [(.agg ⟨flat [(32, (List.replicate 32 (0 : UInt8)).map vu8), (1, [(vu64 516096)])]⟩)]) Try.call19 rfl rfl (c_MayRealm (List.replicate 32 (0 : UInt8)) (List.length_replicate ..) (516096 : UInt64) _ ) rfl ?_
  rintro _ w_40 ⟨rfl, hc_39⟩
  have h_41 := h_37.same hc_39
  refine WL.q (Wn.no rfl) rfl rfl (R.move (v := (.bool (mayRealm (516096 : UInt64)))) rfl) ?_
  refine WL.want rfl (congrArg Value.bool (by decide +kernel)) ?_
  refine WL.q (Wn.no rfl) rfl rfl (R.move (v := (vu64 516096)) rfl) ?_
  refine WL.want rfl (congrArg Value.bool (by decide +kernel)) ?_
  refine WL.q (Wn.no rfl) rfl rfl (R.bin (v := (vu64 516224)) rfl rfl ((b64_add 516096 128).trans rfl)) ?_
  refine WL.want rfl (congrArg Value.bool (by decide +kernel)) ?_
  refine WL.q (Wn.no rfl) rfl rfl (R.buildS (pl := [(0, 32), (32, 1)]) (zs := [(32, (List.replicate 32 (0 : UInt8)).map vu8), (1, [(vu64 0)])]) (vs := [(1, (vu64 516224))]) (out := [(32, (List.replicate 32 (0 : UInt8)).map vu8), (1, [(vu64 516224)])]) (cs := flat [(32, (List.replicate 32 (0 : UInt8)).map vu8), (1, [(vu64 516224)])]) Try.underlying51 (zv Try.typeInfo51 rfl) rfl (SsOk.cons (SOk.u8 (List.length_replicate ..)) (SsOk.cons (SOk.v rfl) SsOk.nil)) (pl51 _ Try.underlying51) rfl (FillR.cons [(32, (List.replicate 32 (0 : UInt8)).map vu8)] [(1, [(vu64 0)])] [(1, [(vu64 516224)])] [] rfl rfl rfl rfl (SsOk.cons (SOk.v rfl) SsOk.nil) rfl rfl rfl FillR.nil) rfl) ?_
  refine WL.want rfl (congrArg Value.bool (by decide +kernel)) ?_
  refine WL.call (al := [(.agg ⟨flat [(32, (List.replicate 32 (0 : UInt8)).map vu8), (1, [(vu64 516224)])]⟩)]) Try.call19 rfl rfl (c_MayRealm (List.replicate 32 (0 : UInt8)) (List.length_replicate ..) (516224 : UInt64) _ ) rfl ?_
  rintro _ w_44 ⟨rfl, hc_43⟩
  have h_45 := h_41.same hc_43
  refine WL.want rfl (congrArg Value.bool (by decide +kernel)) ?_
  refine WL.q (Wn.no rfl) rfl rfl (R.not (b := false) (congrArg Value.bool (by decide +kernel))) ?_
  refine WL.q (Wn.no rfl) rfl rfl (R.pickT (v := (.bool true)) (congrArg Value.bool (by decide +kernel)) rfl) ?_
  refine WL.q (Wn.no rfl) rfl rfl (R.move (v := (.bool true)) rfl) ?_
  refine WL.want rfl rfl ?_
  refine WL.q (Wn.no rfl) rfl rfl (R.buildS (pl := [(0, 32), (32, 1)]) (zs := [(32, (List.replicate 32 (0 : UInt8)).map vu8), (1, [(vu64 0)])]) (vs := [(1, (vu64 9223372036854775808))]) (out := [(32, (List.replicate 32 (0 : UInt8)).map vu8), (1, [(vu64 9223372036854775808)])]) (cs := flat [(32, (List.replicate 32 (0 : UInt8)).map vu8), (1, [(vu64 9223372036854775808)])]) Try.underlying51 (zv Try.typeInfo51 rfl) rfl (SsOk.cons (SOk.u8 (List.length_replicate ..)) (SsOk.cons (SOk.v rfl) SsOk.nil)) (pl51 _ Try.underlying51) rfl (FillR.cons [(32, (List.replicate 32 (0 : UInt8)).map vu8)] [(1, [(vu64 0)])] [(1, [(vu64 9223372036854775808)])] [] rfl rfl rfl rfl (SsOk.cons (SOk.v rfl) SsOk.nil) rfl rfl rfl FillR.nil) rfl) ?_
  refine WL.want rfl rfl ?_
  refine WL.call (al := [(.agg ⟨flat [(32, (List.replicate 32 (0 : UInt8)).map vu8), (1, [(vu64 9223372036854775808)])]⟩)]) Try.call19 rfl rfl (c_MayRealm (List.replicate 32 (0 : UInt8)) (List.length_replicate ..) (9223372036854775808 : UInt64) _ ) rfl ?_
  rintro _ w_48 ⟨rfl, hc_47⟩
  have h_49 := h_45.same hc_47
  refine WL.want rfl rfl ?_
  refine WL.q (Wn.no rfl) rfl rfl (R.not (b := false) (congrArg Value.bool (by decide +kernel))) ?_
  refine WL.q (Wn.no rfl) rfl rfl (R.pickT (v := (.bool true)) rfl rfl) ?_
  refine WL.q (Wn.no rfl) rfl rfl (R.move (v := (.bool true)) rfl) ?_
  refine WL.want rfl rfl ?_
  refine WL.q (Wn.no rfl) rfl rfl (R.buildS (pl := [(0, 32), (32, 1)]) (zs := [(32, (List.replicate 32 (0 : UInt8)).map vu8), (1, [(vu64 0)])]) (vs := [(1, (vu64 64))]) (out := [(32, (List.replicate 32 (0 : UInt8)).map vu8), (1, [(vu64 64)])]) (cs := flat [(32, (List.replicate 32 (0 : UInt8)).map vu8), (1, [(vu64 64)])]) Try.underlying51 (zv Try.typeInfo51 rfl) rfl (SsOk.cons (SOk.u8 (List.length_replicate ..)) (SsOk.cons (SOk.v rfl) SsOk.nil)) (pl51 _ Try.underlying51) rfl (FillR.cons [(32, (List.replicate 32 (0 : UInt8)).map vu8)] [(1, [(vu64 0)])] [(1, [(vu64 64)])] [] rfl rfl rfl rfl (SsOk.cons (SOk.v rfl) SsOk.nil) rfl rfl rfl FillR.nil) rfl) ?_
  refine WL.want rfl rfl ?_
  refine WL.call (al := [(.agg ⟨flat [(32, (List.replicate 32 (0 : UInt8)).map vu8), (1, [(vu64 64)])]⟩)]) Try.call19 rfl rfl (c_MayRealm (List.replicate 32 (0 : UInt8)) (List.length_replicate ..) (64 : UInt64) _ ) rfl ?_
  rintro _ w_52 ⟨rfl, hc_51⟩
  have h_53 := h_49.same hc_51
  refine WL.want rfl rfl ?_
  refine WL.q (Wn.no rfl) rfl rfl (R.not (b := false) (congrArg Value.bool (by decide +kernel))) ?_
  refine WL.q (Wn.no rfl) rfl rfl (R.pickT (v := (.bool true)) rfl rfl) ?_
  refine WL.q (Wn.no rfl) rfl rfl (R.move (v := (.bool true)) rfl) ?_
  refine WL.want rfl rfl ?_
  refine WL.q (Wn.no rfl) rfl rfl (R.move (v := (vi 0)) rfl) ?_
  refine WL.want rfl rfl ?_
  refine WL.call (al := [(vi 0)]) Try.call21 rfl rfl (c_num10 0 (by omega) _ ) rfl ?_
  rintro _ w_55 ⟨rfl, hc_54⟩
  have h_56 := h_53.same hc_54
  refine WL.want rfl rfl ?_
  refine WL.q (Wn.no rfl) rfl rfl (R.bin (v := (.bool true)) rfl rfl (bi_eql (r := true) (by decide))) ?_
  refine WL.q (Wn.no rfl) rfl rfl (R.pickT (v := (.bool true)) rfl rfl) ?_
  refine WL.q (Wn.no rfl) rfl rfl (R.move (v := (.bool true)) rfl) ?_
  refine WL.want rfl rfl ?_
  refine WL.q (Wn.no rfl) rfl rfl (R.move (v := (vi 4)) rfl) ?_
  refine WL.want rfl rfl ?_
  refine WL.call (al := [(vi 4)]) Try.call21 rfl rfl (c_num10 4 (by omega) _ ) rfl ?_
  rintro _ w_58 ⟨rfl, hc_57⟩
  have h_59 := h_56.same hc_57
  refine WL.want rfl rfl ?_
  refine WL.q (Wn.no rfl) rfl rfl (R.bin (v := (.bool true)) rfl rfl (bi_eql (r := true) (by decide))) ?_
  refine WL.q (Wn.no rfl) rfl rfl (R.pickT (v := (.bool true)) rfl rfl) ?_
  refine WL.q (Wn.no rfl) rfl rfl (R.move (v := (.bool true)) rfl) ?_
  refine WL.want rfl rfl ?_
  refine WL.q (Wn.no rfl) rfl rfl (R.move (v := (vi 0)) rfl) ?_
  refine WL.want rfl rfl ?_
  refine WL.call (al := [(vi 0)]) Try.call21 rfl rfl (c_num10 0 (by omega) _ ) rfl ?_
  rintro _ w_61 ⟨rfl, hc_60⟩
  have h_62 := h_59.same hc_60
  refine WL.want rfl rfl ?_
  refine WL.q (Wn.no rfl) rfl rfl (R.bin (v := (.bool true)) rfl rfl (bi_eql (r := true) (by decide))) ?_
  refine WL.q (Wn.no rfl) rfl rfl (R.pickT (v := (.bool true)) rfl rfl) ?_
  refine WL.q (Wn.no rfl) rfl rfl (R.move (v := (.bool true)) rfl) ?_
  refine WL.want rfl rfl ?_
  refine WL.q (Wn.no rfl) rfl rfl (R.move (v := (vi 2)) rfl) ?_
  refine WL.want rfl rfl ?_
  refine WL.call (al := [(vi 2)]) Try.call21 rfl rfl (c_num10 2 (by omega) _ ) rfl ?_
  rintro _ w_64 ⟨rfl, hc_63⟩
  have h_65 := h_62.same hc_63
  refine WL.want rfl rfl ?_
  refine WL.q (Wn.no rfl) rfl rfl (R.bin (v := (.bool true)) rfl rfl (bi_eql (r := true) (by decide))) ?_
  refine WL.q (Wn.no rfl) rfl rfl (R.pickT (v := (.bool true)) rfl rfl) ?_
  refine WL.q (Wn.no rfl) rfl rfl (R.move (v := (.bool true)) rfl) ?_
  refine WL.want rfl rfl ?_
  refine WL.call (al := []) Try.call22 rfl rfl (c_known  _ ) rfl ?_
  rintro _ w_67 ⟨rfl, hc_66⟩
  have h_68 := h_65.same hc_66
  refine WL.q (Wn.no rfl) rfl rfl (R.pickT (v := (.bool true)) rfl rfl) ?_
  refine WL.q (Wn.no rfl) rfl rfl (R.assign (v := (.bool true)) rfl) ?_
  refine WL.nil ?_
  refine thn_n ?_
  refine WP.ret ?_
  refine ret_of Try.results8 (RV.tmp (v := (.bool true)) rfl RV.nil) ?_
  exact ⟨rfl, h_68.chgS⟩
namespace paramsBoundsDone
open Go.ChangeShapes Go.WideShapes Go.ChangeAt
theorem own : ownKnob Try.prog.godebug = none := by kernel_rfl
theorem laidOut : laidOutB Try.prog = true := by kernel_rfl
set_option maxRecDepth 100000 in
theorem lifted (os : Os) (started : os.Started) (H : Type) (enc : TypeId × Value → H) :
    ReturnsInHanded {} Try.checked os 8 .any (Rows.paramsBoundsSpec.pre6 enc Try.prog Try.f8 Rows.paramsBoundsRow.domain false) (Rows.paramsBoundsSpec.post enc Try.prog Try.f8 false true false false) := by
  refine returnsInHanded_of_change (C := Try.checked) own started (by kernel_rfl) Try.func8
    (ChangeSpec.witness6 (enc := enc) (C := Try.checked) false ⟨#[], #[], []⟩ 8 (by kernel_rfl) (by kernel_rfl) (by kernel_rfl) (by kernel_rfl)) ?_
  intro W base args ds gs before hval0 hW hcnd _
  have hval : ∀ (j : Nat) t v, Try.f8.params[j]? = some t → args[j]? = some v → Value.okWide Try.prog W .any base t v := hval0
  have hW' := hW
  obtain ⟨p, q, hA0, hV, rfl, hfz, hnd⟩ := hW
  have hA : DataW.TrodAll enc Try.prog W 0 (fun _ => true) true Try.f8.params.toList args.toList ds p := hA0
  rw [Try.params8] at hA hval
  obtain ⟨hargs, rfl, rfl⟩ := trodAll_nil hA
  obtain rfl : args = #[] := by cases args; simp_all
  obtain ⟨rfl, rfl⟩ := trodVars_none hV
  clear hA0 hval0
  have hw : Cs Try.prog 8 [].toArray W (fun v w1 => v = .bool true ∧ Chg W w1 []) := w_ParamsBounds W
  have ea : ([] : List Value).toArray = (#[] : Array Value) := by simp [flat]
  rw [ea] at hw
  refine Calls.mono (Cs.below hw) fun e W' ⟨he, bel⟩ => ?_
  subst he
  exact ⟨_, rfl, _, _, _, [], _, [], hW', trodAll_mk1 (shut_bool Try.underlying4 _), trodAll_mk0, rfl, bel.frame _, fun h => by cases h⟩
theorem over : Rows.paramsBoundsRow.holds Try.pinned (OpenSpec.ofChange Rows.paramsBoundsSpec) :=
  OpenClaim.holds_of_wide 8 Try.f8 rfl rfl rfl rfl rfl rfl rfl ⟨rfl, rfl, rfl, rfl, rfl⟩ rfl rfl rfl rfl rfl (by kernel_rfl) Try.func8 (by kernel_rfl)
    (of_decide_eq_true (by kernel_rfl)) (by unfold Func.isWrapper; first | (rw [if_pos (by decide +kernel)]; kernel_rfl) | (rw [if_neg (by decide +kernel)]; exact ⟨rfl, rfl⟩))
    (fun os started H enc _ => lifted os started H enc)
theorem proved : Rows.ParamsBoundsSaid := over
end paramsBoundsDone
end Go.Proofs.Ythkcekgemanfdaa
