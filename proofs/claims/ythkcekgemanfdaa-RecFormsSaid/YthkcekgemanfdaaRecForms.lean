/- RecForms holds of every input. Conditions: none. -/
import Derived.Test.YthkcekgemanfdaaB3
namespace Go.Proofs.Ythkcekgemanfdaa
open Go.Vc Go.RowKit
set_option linter.unusedVariables false
set_option linter.unusedSimpArgs false
set_option maxRecDepth 20000
theorem w_RecForms (ain : List UInt64) (ha : ain.length = 4) (rs : Int) (ors : List UInt64) (hor : ors.length = 4) (adr : UInt64) (wr : Bool) (ran : Int) (b_rs : -9223372036854775808 ≤ rs ∧ rs < 9223372036854775808) (b_ran : -9223372036854775808 ≤ ran ∧ ran < 9223372036854775808) (gb : List UInt8) (hgb : gb.length = 128) (w : World) :
    Cs Try.prog 12 [(.agg ⟨ain.map vu64⟩), (.agg ⟨flat [(1, [(vi rs)]), (4, ors.map vu64), (1, [(vu64 adr)]), (1, [(.bool wr)]), (1, [(vi ran)])]⟩), (.agg ⟨gb.map vu8⟩)].toArray w (fun v w1 => v = .bool true ∧ Chg w w1 []) := by
  refine Cs.of (n := 181) (args := [(.agg ⟨ain.map vu64⟩), (.agg ⟨flat [(1, [(vi rs)]), (4, ors.map vu64), (1, [(vu64 adr)]), (1, [(.bool wr)]), (1, [(vi ran)])]⟩), (.agg ⟨gb.map vu8⟩)]) Try.func12 rfl rfl rfl ?_
  have h_0 := HP.init w
  refine WP.seq ?_
  refine WP.reg ?_
  refine WL.box (v := (.agg ⟨ain.map vu64⟩)) (segs := [(4, ain.map vu64)]) h_0 rfl rfl (SsOk.cons (SOk.u64 ha) SsOk.nil) rfl (fun b_1 w_2 h_3 => ?_)
  refine WL.box (v := (.agg ⟨flat [(1, [(vi rs)]), (4, ors.map vu64), (1, [(vu64 adr)]), (1, [(.bool wr)]), (1, [(vi ran)])]⟩)) (segs := [(1, [(vi rs)]), (4, ors.map vu64), (1, [(vu64 adr)]), (1, [(.bool wr)]), (1, [(vi ran)])]) h_3 rfl rfl (SsOk.cons (SOk.v rfl) (SsOk.cons (SOk.u64 hor) (SsOk.cons (SOk.v rfl) (SsOk.cons (SOk.v rfl) (SsOk.cons (SOk.v rfl) SsOk.nil))))) rfl (fun b_4 w_5 h_6 => ?_)
  refine WL.box (v := (.agg ⟨gb.map vu8⟩)) (segs := [(128, gb.map vu8)]) h_6 rfl rfl (SsOk.cons (SOk.u8 hgb) SsOk.nil) rfl (fun b_7 w_8 h_9 => ?_)
  refine WL.q (Wn.no rfl) rfl rfl (R.assign (v := (.bool false)) rfl) ?_
  refine WL.nil ?_
  refine thn_n ?_
  refine WP.seq ?_
  refine WP.reg ?_
  refine WL.alloc (segs := [(128, (List.replicate 128 (0 : UInt8)).map vu8)]) h_9 (zv Try.typeInfo53 rfl) rfl (SsOk.cons (SOk.u8 (List.length_replicate ..)) SsOk.nil) rfl (fun b_10 w_11 h_12 => ?_)
  refine WL.nil ?_
  refine thn_n ?_
  refine WP.seq ?_
  refine WP.seq ?_
  refine WP.reg ?_
  refine WL.q (Wn.no rfl) rfl rfl (R.assign (v := (vi 0)) rfl) ?_
  refine WL.nil ?_
  refine thn_n ?_
  refine WP.block ?_
  refine WP.loopU (WI.round ?_)
  refine WP.seq ?_
  refine WP.seq ?_
  refine WP.reg ?_
  refine WL.q (Wn.no rfl) rfl rfl (R.move (v := (vi 0)) rfl) ?_
  refine WL.q (Wn.no rfl) rfl rfl (R.bin (v := (.bool true)) rfl rfl (bi_lss (r := true) (by decide))) ?_
  refine WL.nil ?_
  refine thn_n ?_
  refine WP.condT rfl ?_
  refine WP.skip ?_
  refine thn_n ?_
  refine WP.seq ?_
  refine WP.block ?_
  refine WP.reg ?_
  refine WL.q (Wn.no rfl) rfl rfl (R.move (v := (vi 0)) rfl) ?_
  refine WL.q (Wn.no rfl) rfl rfl (R.move (v := (vi 0)) rfl) ?_
  refine WL.q (Wn.no rfl) rfl rfl (R.fieldAddr (b := b_1) (off := 0) (off' := 0) rfl Try.underlying31 rfl Try.sizeOf29 rfl rfl) ?_
  refine WL.q (Wn.no rfl) rfl rfl (R.indexA (b := b_1) (off := 0) (off' := 0) (i := 0) rfl rfl rfl (by decide) Try.underlying29 Try.sizeOf22 rfl) ?_
  refine WL.q (Wn.no rfl) rfl rfl (R.loadE (b := b_1) (off := 0) (i := 0) (v := (vu64 (ain.getD 0 0))) rfl Try.isAgg22 (h_12.ok _ (.tail _ (.tail _ (.tail _ (.head _))))) Sg.h rfl (get_u64 (lt_len (K := 4) ha (by decide)))) ?_
  refine WL.call (al := [(.pointer (some ⟨b_10, 0, none⟩)), (vi 0), (vu64 (ain.getD 0 0))]) Try.call37 rfl rfl (c_set14 b_10 53 (List.replicate 128 (0 : UInt8)) (List.length_replicate ..) 0 (by omega) (ain.getD 0 0) _ (h_12.arg (.head _))) rfl ?_
  rintro _ w_13 ⟨rfl, hc_14, hk_15⟩
  have h_16 := HP.passed (segs' := [(128, (ovr (List.replicate 128 (0 : UInt8)) (8 * 0) (leN 8 (ain.getD 0 0).toNat)).map vu8)]) h_12 At.h (by decide) hc_14 (SsOk.cons (SOk.u8 (ovr_len (List.length_replicate ..) (by rw [leN_len]; omega))) SsOk.nil) hk_15
  refine WL.nil ?_
  refine inb_n ?_
  refine thn_n ?_
  refine WP.reg ?_
  refine WL.q (Wn.no rfl) rfl rfl (R.move (v := (vi 0)) rfl) ?_
  refine WL.q (Wn.no rfl) rfl rfl (R.bin (v := (vi 1)) rfl rfl (bi_add (c := 1) (by omega) (by omega))) ?_
  refine WL.q (Wn.no rfl) rfl rfl (R.assign (v := (vi 1)) rfl) ?_
  refine WL.nil ?_
  refine thn_n ?_
  refine WI.round ?_
  refine WP.seq ?_
  refine WP.seq ?_
  refine WP.reg ?_
  refine WL.q (Wn.no rfl) rfl rfl (R.move (v := (vi 1)) rfl) ?_
  refine WL.q (Wn.no rfl) rfl rfl (R.bin (v := (.bool true)) rfl rfl (bi_lss (r := true) (by decide))) ?_
  refine WL.nil ?_
  refine thn_n ?_
  refine WP.condT rfl ?_
  refine WP.skip ?_
  refine thn_n ?_
  refine WP.seq ?_
  refine WP.block ?_
  refine WP.reg ?_
  refine WL.q (Wn.no rfl) rfl rfl (R.move (v := (vi 1)) rfl) ?_
  refine WL.q (Wn.no rfl) rfl rfl (R.move (v := (vi 1)) rfl) ?_
  refine WL.q (Wn.no rfl) rfl rfl (R.fieldAddr (b := b_1) (off := 0) (off' := 0) rfl Try.underlying31 rfl Try.sizeOf29 rfl rfl) ?_
  refine WL.q (Wn.no rfl) rfl rfl (R.indexA (b := b_1) (off := 0) (off' := 1) (i := 1) rfl rfl rfl (by decide) Try.underlying29 Try.sizeOf22 rfl) ?_
  refine WL.q (Wn.no rfl) rfl rfl (R.loadE (b := b_1) (off := 1) (i := 1) (v := (vu64 (ain.getD 1 0))) rfl Try.isAgg22 (h_16.ok _ (.tail _ (.tail _ (.tail _ (.head _))))) Sg.h rfl (get_u64 (lt_len (K := 4) ha (by decide)))) ?_
  refine WL.call (al := [(.pointer (some ⟨b_10, 0, none⟩)), (vi 1), (vu64 (ain.getD 1 0))]) Try.call37 rfl rfl (c_set14 b_10 53 (ovr (List.replicate 128 (0 : UInt8)) (8 * 0) (leN 8 (ain.getD 0 0).toNat)) (ovr_len (List.length_replicate ..) (by rw [leN_len]; omega)) 1 (by omega) (ain.getD 1 0) _ (h_16.arg (.head _))) rfl ?_
  rintro _ w_17 ⟨rfl, hc_18, hk_19⟩
  have h_20 := HP.passed (segs' := [(128, (ovr (ovr (List.replicate 128 (0 : UInt8)) (8 * 0) (leN 8 (ain.getD 0 0).toNat)) (8 * 1) (leN 8 (ain.getD 1 0).toNat)).map vu8)]) h_16 At.h (by decide) hc_18 (SsOk.cons (SOk.u8 (ovr_len (ovr_len (List.length_replicate ..) (by rw [leN_len]; omega)) (by rw [leN_len]; omega))) SsOk.nil) hk_19
  refine WL.nil ?_
  refine inb_n ?_
  refine thn_n ?_
  refine WP.reg ?_
  refine WL.q (Wn.no rfl) rfl rfl (R.move (v := (vi 1)) rfl) ?_
  refine WL.q (Wn.no rfl) rfl rfl (R.bin (v := (vi 2)) rfl rfl (bi_add (c := 2) (by omega) (by omega))) ?_
  refine WL.q (Wn.no rfl) rfl rfl (R.assign (v := (vi 2)) rfl) ?_
  refine WL.nil ?_
  refine thn_n ?_
  refine WI.round ?_
  refine WP.seq ?_
  refine WP.seq ?_
  refine WP.reg ?_
  refine WL.q (Wn.no rfl) rfl rfl (R.move (v := (vi 2)) rfl) ?_
  refine WL.q (Wn.no rfl) rfl rfl (R.bin (v := (.bool true)) rfl rfl (bi_lss (r := true) (by decide))) ?_
  refine WL.nil ?_
  refine thn_n ?_
  refine WP.condT rfl ?_
  refine WP.skip ?_
  refine thn_n ?_
  refine WP.seq ?_
  refine WP.block ?_
  refine WP.reg ?_
  refine WL.q (Wn.no rfl) rfl rfl (R.move (v := (vi 2)) rfl) ?_
  refine WL.q (Wn.no rfl) rfl rfl (R.move (v := (vi 2)) rfl) ?_
  refine WL.q (Wn.no rfl) rfl rfl (R.fieldAddr (b := b_1) (off := 0) (off' := 0) rfl Try.underlying31 rfl Try.sizeOf29 rfl rfl) ?_
  refine WL.q (Wn.no rfl) rfl rfl (R.indexA (b := b_1) (off := 0) (off' := 2) (i := 2) rfl rfl rfl (by decide) Try.underlying29 Try.sizeOf22 rfl) ?_
  refine WL.q (Wn.no rfl) rfl rfl (R.loadE (b := b_1) (off := 2) (i := 2) (v := (vu64 (ain.getD 2 0))) rfl Try.isAgg22 (h_20.ok _ (.tail _ (.tail _ (.tail _ (.head _))))) Sg.h rfl (get_u64 (lt_len (K := 4) ha (by decide)))) ?_
  refine WL.call (al := [(.pointer (some ⟨b_10, 0, none⟩)), (vi 2), (vu64 (ain.getD 2 0))]) Try.call37 rfl rfl (c_set14 b_10 53 (ovr (ovr (List.replicate 128 (0 : UInt8)) (8 * 0) (leN 8 (ain.getD 0 0).toNat)) (8 * 1) (leN 8 (ain.getD 1 0).toNat)) (ovr_len (ovr_len (List.length_replicate ..) (by rw [leN_len]; omega)) (by rw [leN_len]; omega)) 2 (by omega) (ain.getD 2 0) _ (h_20.arg (.head _))) rfl ?_
  rintro _ w_21 ⟨rfl, hc_22, hk_23⟩
  have h_24 := HP.passed (segs' := [(128, (ovr (ovr (ovr (List.replicate 128 (0 : UInt8)) (8 * 0) (leN 8 (ain.getD 0 0).toNat)) (8 * 1) (leN 8 (ain.getD 1 0).toNat)) (8 * 2) (leN 8 (ain.getD 2 0).toNat)).map vu8)]) h_20 At.h (by decide) hc_22 (SsOk.cons (SOk.u8 (ovr_len (ovr_len (ovr_len (List.length_replicate ..) (by rw [leN_len]; omega)) (by rw [leN_len]; omega)) (by rw [leN_len]; omega))) SsOk.nil) hk_23
  refine WL.nil ?_
  refine inb_n ?_
  refine thn_n ?_
  refine WP.reg ?_
  refine WL.q (Wn.no rfl) rfl rfl (R.move (v := (vi 2)) rfl) ?_
  refine WL.q (Wn.no rfl) rfl rfl (R.bin (v := (vi 3)) rfl rfl (bi_add (c := 3) (by omega) (by omega))) ?_
  refine WL.q (Wn.no rfl) rfl rfl (R.assign (v := (vi 3)) rfl) ?_
  refine WL.nil ?_
  refine thn_n ?_
  refine WI.round ?_
  refine WP.seq ?_
  refine WP.seq ?_
  refine WP.reg ?_
  refine WL.q (Wn.no rfl) rfl rfl (R.move (v := (vi 3)) rfl) ?_
  refine WL.q (Wn.no rfl) rfl rfl (R.bin (v := (.bool true)) rfl rfl (bi_lss (r := true) (by decide))) ?_
  refine WL.nil ?_
  refine thn_n ?_
  refine WP.condT rfl ?_
  refine WP.skip ?_
  refine thn_n ?_
  refine WP.seq ?_
  refine WP.block ?_
  refine WP.reg ?_
  refine WL.q (Wn.no rfl) rfl rfl (R.move (v := (vi 3)) rfl) ?_
  refine WL.q (Wn.no rfl) rfl rfl (R.move (v := (vi 3)) rfl) ?_
  refine WL.q (Wn.no rfl) rfl rfl (R.fieldAddr (b := b_1) (off := 0) (off' := 0) rfl Try.underlying31 rfl Try.sizeOf29 rfl rfl) ?_
  refine WL.q (Wn.no rfl) rfl rfl (R.indexA (b := b_1) (off := 0) (off' := 3) (i := 3) rfl rfl rfl (by decide) Try.underlying29 Try.sizeOf22 rfl) ?_
  refine WL.q (Wn.no rfl) rfl rfl (R.loadE (b := b_1) (off := 3) (i := 3) (v := (vu64 (ain.getD 3 0))) rfl Try.isAgg22 (h_24.ok _ (.tail _ (.tail _ (.tail _ (.head _))))) Sg.h rfl (get_u64 (lt_len (K := 4) ha (by decide)))) ?_
  refine WL.call (al := [(.pointer (some ⟨b_10, 0, none⟩)), (vi 3), (vu64 (ain.getD 3 0))]) Try.call37 rfl rfl (c_set14 b_10 53 (ovr (ovr (ovr (List.replicate 128 (0 : UInt8)) (8 * 0) (leN 8 (ain.getD 0 0).toNat)) (8 * 1) (leN 8 (ain.getD 1 0).toNat)) (8 * 2) (leN 8 (ain.getD 2 0).toNat)) (ovr_len (ovr_len (ovr_len (List.length_replicate ..) (by rw [leN_len]; omega)) (by rw [leN_len]; omega)) (by rw [leN_len]; omega)) 3 (by omega) (ain.getD 3 0) _ (h_24.arg (.head _))) rfl ?_
  rintro _ w_25 ⟨rfl, hc_26, hk_27⟩
  have h_28 := HP.passed (segs' := [(128, (ovr (ovr (ovr (ovr (List.replicate 128 (0 : UInt8)) (8 * 0) (leN 8 (ain.getD 0 0).toNat)) (8 * 1) (leN 8 (ain.getD 1 0).toNat)) (8 * 2) (leN 8 (ain.getD 2 0).toNat)) (8 * 3) (leN 8 (ain.getD 3 0).toNat)).map vu8)]) h_24 At.h (by decide) hc_26 (SsOk.cons (SOk.u8 (ovr_len (ovr_len (ovr_len (ovr_len (List.length_replicate ..) (by rw [leN_len]; omega)) (by rw [leN_len]; omega)) (by rw [leN_len]; omega)) (by rw [leN_len]; omega))) SsOk.nil) hk_27
  refine WL.nil ?_
  refine inb_n ?_
  refine thn_n ?_
  refine WP.reg ?_
  refine WL.q (Wn.no rfl) rfl rfl (R.move (v := (vi 3)) rfl) ?_
  refine WL.q (Wn.no rfl) rfl rfl (R.bin (v := (vi 4)) rfl rfl (bi_add (c := 4) (by omega) (by omega))) ?_
  refine WL.q (Wn.no rfl) rfl rfl (R.assign (v := (vi 4)) rfl) ?_
  refine WL.nil ?_
  refine thn_n ?_
  refine WI.round ?_
  refine WP.seq ?_
  refine WP.seq ?_
  refine WP.reg ?_
  refine WL.q (Wn.no rfl) rfl rfl (R.move (v := (vi 4)) rfl) ?_
  refine WL.q (Wn.no rfl) rfl rfl (R.bin (v := (.bool false)) rfl rfl (bi_lss (r := false) (by decide))) ?_
  refine WL.nil ?_
  refine thn_n ?_
  refine WP.condF rfl ?_
  refine WP.exit ?_
  refine thn_x ?_
  refine thn_x ?_
  refine inb_hit ?_
  refine thn_n ?_
  refine WP.seq ?_
  refine WP.seq ?_
  refine WP.drawT (SL w.heap.size [.blk b_10 .nw 53 [(128, (ovr (ovr (ovr (ovr (List.replicate 128 (0 : UInt8)) (8 * 0) (leN 8 (ain.getD 0 0).toNat)) (8 * 1) (leN 8 (ain.getD 1 0).toNat)) (8 * 2) (leN 8 (ain.getD 2 0).toNat)) (8 * 3) (leN 8 (ain.getD 3 0).toNat)).map vu8)], .blk b_7 .nw 53 [(128, gb.map vu8)], .blk b_4 .nw 40 [(1, [(vi rs)]), (4, ors.map vu64), (1, [(vu64 adr)]), (1, [(.bool wr)]), (1, [(vi ran)])], .blk b_1 .nw 31 [(4, ain.map vu64)]]) (.q 0 (.q 2 (.s 1 (.q 3 .nil)))) (by kernel_rfl) (by kernel_rfl) rfl (by kernel_rfl) (fun w_29 hc_31 => (SL.cons ((h_28.same hc_31).ok _ (.head _)) (SL.cons ((h_28.same hc_31).ok _ (.tail _ (.head _))) (SL.cons ((h_28.same hc_31).ok _ (.tail _ (.tail _ (.head _)))) (SL.cons ((h_28.same hc_31).ok _ (.tail _ (.tail _ (.tail _ (.head _))))) (SL.nil _ _)))))) (fun w_29 hc_31 => ?_)
  have h_30 := h_28.same hc_31
  refine WT.q rfl (Wn.no rfl) rfl rfl (fun wq hS => R.loadA (b := b_1) (off := 0) [] [(4, ain.map vu64)] [] (cs := ain.map vu64) rfl Try.isAgg31 Try.sizeOf31 (hS _ (.tail _ (.tail _ (.tail _ (.head _))))) rfl rfl rfl rfl) ?_
  refine WT.q rfl (Wn.no rfl) rfl rfl (fun wq hS => R.loadA (b := b_10) (off := 0) [] [(128, (ovr (ovr (ovr (ovr (List.replicate 128 (0 : UInt8)) (8 * 0) (leN 8 (ain.getD 0 0).toNat)) (8 * 1) (leN 8 (ain.getD 1 0).toNat)) (8 * 2) (leN 8 (ain.getD 2 0).toNat)) (8 * 3) (leN 8 (ain.getD 3 0).toNat)).map vu8)] [] (cs := (ovr (ovr (ovr (ovr (List.replicate 128 (0 : UInt8)) (8 * 0) (leN 8 (ain.getD 0 0).toNat)) (8 * 1) (leN 8 (ain.getD 1 0).toNat)) (8 * 2) (leN 8 (ain.getD 2 0).toNat)) (8 * 3) (leN 8 (ain.getD 3 0).toNat)).map vu8) rfl Try.isAgg53 Try.sizeOf53 (hS _ (.head _)) rfl rfl rfl rfl) ?_
  refine WT.s ?_
  refine Op1.one rfl (Wn.no rfl) ?_
  refine WL.call (al := [(.agg ⟨ain.map vu64⟩)]) Try.call38 rfl rfl (c_InBytes ain ha _ ) rfl ?_
  rintro _ w_33 ⟨rfl, hc_32⟩
  have h_34 := h_30.same hc_32
  refine WL.nil ?_
  refine ⟨(SL.cons (h_34.ok _ (.head _)) (SL.cons (h_34.ok _ (.tail _ (.head _))) (SL.cons (h_34.ok _ (.tail _ (.tail _ (.head _)))) (SL.cons (h_34.ok _ (.tail _ (.tail _ (.tail _ (.head _))))) (SL.nil _ _))))), ?_⟩
  refine WT.q rfl (Wn.no rfl) rfl rfl (fun wq hS => R.neA (xs := (inB ain).map vu8) (ys := (ovr (ovr (ovr (ovr (List.replicate 128 (0 : UInt8)) (8 * 0) (leN 8 (ain.getD 0 0).toNat)) (8 * 1) (leN 8 (ain.getD 1 0).toNat)) (8 * 2) (leN 8 (ain.getD 2 0).toNat)) (8 * 3) (leN 8 (ain.getD 3 0).toNat)).map vu8) (r := false) rfl rfl Try.eqGuardType53 kt53 (by decide) ag53 (Typ.u8s Try.underlying53 ce53 Try.underlying5 ce5 (inB_len ha)) (Typ.u8s Try.underlying53 ce53 Try.underlying5 ce5 (ovr_len (ovr_len (ovr_len (ovr_len (List.length_replicate ..) (by rw [leN_len]; omega)) (by rw [leN_len]; omega)) (by rw [leN_len]; omega)) (by rw [leN_len]; omega))) (neT (congrArg (List.map vu8) (in_sets ha).symm))) ?_
  refine WT.nil ?_
  refine thn_n ?_
  refine WP.condF rfl ?_
  refine WP.skip ?_
  refine thn_n ?_
  refine WP.seq ?_
  refine WP.reg ?_
  refine WL.q (Wn.no rfl) rfl rfl (R.loadA (b := b_10) (off := 0) [] [(128, (ovr (ovr (ovr (ovr (List.replicate 128 (0 : UInt8)) (8 * 0) (leN 8 (ain.getD 0 0).toNat)) (8 * 1) (leN 8 (ain.getD 1 0).toNat)) (8 * 2) (leN 8 (ain.getD 2 0).toNat)) (8 * 3) (leN 8 (ain.getD 3 0).toNat)).map vu8)] [] (cs := (ovr (ovr (ovr (ovr (List.replicate 128 (0 : UInt8)) (8 * 0) (leN 8 (ain.getD 0 0).toNat)) (8 * 1) (leN 8 (ain.getD 1 0).toNat)) (8 * 2) (leN 8 (ain.getD 2 0).toNat)) (8 * 3) (leN 8 (ain.getD 3 0).toNat)).map vu8) rfl Try.isAgg53 Try.sizeOf53 (h_34.ok _ (.head _)) rfl rfl rfl rfl) ?_
  refine WL.call (al := [(.agg ⟨(ovr (ovr (ovr (ovr (List.replicate 128 (0 : UInt8)) (8 * 0) (leN 8 (ain.getD 0 0).toNat)) (8 * 1) (leN 8 (ain.getD 1 0).toNat)) (8 * 2) (leN 8 (ain.getD 2 0).toNat)) (8 * 3) (leN 8 (ain.getD 3 0).toNat)).map vu8⟩)]) Try.call39 rfl rfl (c_InOf_y (ovr (ovr (ovr (ovr (List.replicate 128 (0 : UInt8)) (8 * 0) (leN 8 (ain.getD 0 0).toNat)) (8 * 1) (leN 8 (ain.getD 1 0).toNat)) (8 * 2) (leN 8 (ain.getD 2 0).toNat)) (8 * 3) (leN 8 (ain.getD 3 0).toNat)) (ovr_len (ovr_len (ovr_len (ovr_len (List.length_replicate ..) (by rw [leN_len]; omega)) (by rw [leN_len]; omega)) (by rw [leN_len]; omega)) (by rw [leN_len]; omega)) (by rw [in_sets ha, in_word ha]) _ ) rfl ?_
  rintro _ w_36 ⟨rfl, hc_35⟩
  have h_37 := h_34.same hc_35
  refine WL.q (Wn.no rfl) rfl rfl (R.move (v := (.tuple [(.agg ⟨([wordB (ovr (ovr (ovr (ovr (List.replicate 128 (0 : UInt8)) (8 * 0) (leN 8 (ain.getD 0 0).toNat)) (8 * 1) (leN 8 (ain.getD 1 0).toNat)) (8 * 2) (leN 8 (ain.getD 2 0).toNat)) (8 * 3) (leN 8 (ain.getD 3 0).toNat)) 0, wordB (ovr (ovr (ovr (ovr (List.replicate 128 (0 : UInt8)) (8 * 0) (leN 8 (ain.getD 0 0).toNat)) (8 * 1) (leN 8 (ain.getD 1 0).toNat)) (8 * 2) (leN 8 (ain.getD 2 0).toNat)) (8 * 3) (leN 8 (ain.getD 3 0).toNat)) 1, wordB (ovr (ovr (ovr (ovr (List.replicate 128 (0 : UInt8)) (8 * 0) (leN 8 (ain.getD 0 0).toNat)) (8 * 1) (leN 8 (ain.getD 1 0).toNat)) (8 * 2) (leN 8 (ain.getD 2 0).toNat)) (8 * 3) (leN 8 (ain.getD 3 0).toNat)) 2, wordB (ovr (ovr (ovr (ovr (List.replicate 128 (0 : UInt8)) (8 * 0) (leN 8 (ain.getD 0 0).toNat)) (8 * 1) (leN 8 (ain.getD 1 0).toNat)) (8 * 2) (leN 8 (ain.getD 2 0).toNat)) (8 * 3) (leN 8 (ain.getD 3 0).toNat)) 3] : List UInt64).map vu64⟩), (vi 0)].toArray)) rfl) ?_
  refine WL.q (Wn.no rfl) rfl rfl (R.extract (l := [(.agg ⟨([wordB (ovr (ovr (ovr (ovr (List.replicate 128 (0 : UInt8)) (8 * 0) (leN 8 (ain.getD 0 0).toNat)) (8 * 1) (leN 8 (ain.getD 1 0).toNat)) (8 * 2) (leN 8 (ain.getD 2 0).toNat)) (8 * 3) (leN 8 (ain.getD 3 0).toNat)) 0, wordB (ovr (ovr (ovr (ovr (List.replicate 128 (0 : UInt8)) (8 * 0) (leN 8 (ain.getD 0 0).toNat)) (8 * 1) (leN 8 (ain.getD 1 0).toNat)) (8 * 2) (leN 8 (ain.getD 2 0).toNat)) (8 * 3) (leN 8 (ain.getD 3 0).toNat)) 1, wordB (ovr (ovr (ovr (ovr (List.replicate 128 (0 : UInt8)) (8 * 0) (leN 8 (ain.getD 0 0).toNat)) (8 * 1) (leN 8 (ain.getD 1 0).toNat)) (8 * 2) (leN 8 (ain.getD 2 0).toNat)) (8 * 3) (leN 8 (ain.getD 3 0).toNat)) 2, wordB (ovr (ovr (ovr (ovr (List.replicate 128 (0 : UInt8)) (8 * 0) (leN 8 (ain.getD 0 0).toNat)) (8 * 1) (leN 8 (ain.getD 1 0).toNat)) (8 * 2) (leN 8 (ain.getD 2 0).toNat)) (8 * 3) (leN 8 (ain.getD 3 0).toNat)) 3] : List UInt64).map vu64⟩), (vi 0)]) (v := (.agg ⟨([wordB (ovr (ovr (ovr (ovr (List.replicate 128 (0 : UInt8)) (8 * 0) (leN 8 (ain.getD 0 0).toNat)) (8 * 1) (leN 8 (ain.getD 1 0).toNat)) (8 * 2) (leN 8 (ain.getD 2 0).toNat)) (8 * 3) (leN 8 (ain.getD 3 0).toNat)) 0, wordB (ovr (ovr (ovr (ovr (List.replicate 128 (0 : UInt8)) (8 * 0) (leN 8 (ain.getD 0 0).toNat)) (8 * 1) (leN 8 (ain.getD 1 0).toNat)) (8 * 2) (leN 8 (ain.getD 2 0).toNat)) (8 * 3) (leN 8 (ain.getD 3 0).toNat)) 1, wordB (ovr (ovr (ovr (ovr (List.replicate 128 (0 : UInt8)) (8 * 0) (leN 8 (ain.getD 0 0).toNat)) (8 * 1) (leN 8 (ain.getD 1 0).toNat)) (8 * 2) (leN 8 (ain.getD 2 0).toNat)) (8 * 3) (leN 8 (ain.getD 3 0).toNat)) 2, wordB (ovr (ovr (ovr (ovr (List.replicate 128 (0 : UInt8)) (8 * 0) (leN 8 (ain.getD 0 0).toNat)) (8 * 1) (leN 8 (ain.getD 1 0).toNat)) (8 * 2) (leN 8 (ain.getD 2 0).toNat)) (8 * 3) (leN 8 (ain.getD 3 0).toNat)) 3] : List UInt64).map vu64⟩)) rfl rfl) ?_
  refine WL.q (Wn.no rfl) rfl rfl (R.extract (l := [(.agg ⟨([wordB (ovr (ovr (ovr (ovr (List.replicate 128 (0 : UInt8)) (8 * 0) (leN 8 (ain.getD 0 0).toNat)) (8 * 1) (leN 8 (ain.getD 1 0).toNat)) (8 * 2) (leN 8 (ain.getD 2 0).toNat)) (8 * 3) (leN 8 (ain.getD 3 0).toNat)) 0, wordB (ovr (ovr (ovr (ovr (List.replicate 128 (0 : UInt8)) (8 * 0) (leN 8 (ain.getD 0 0).toNat)) (8 * 1) (leN 8 (ain.getD 1 0).toNat)) (8 * 2) (leN 8 (ain.getD 2 0).toNat)) (8 * 3) (leN 8 (ain.getD 3 0).toNat)) 1, wordB (ovr (ovr (ovr (ovr (List.replicate 128 (0 : UInt8)) (8 * 0) (leN 8 (ain.getD 0 0).toNat)) (8 * 1) (leN 8 (ain.getD 1 0).toNat)) (8 * 2) (leN 8 (ain.getD 2 0).toNat)) (8 * 3) (leN 8 (ain.getD 3 0).toNat)) 2, wordB (ovr (ovr (ovr (ovr (List.replicate 128 (0 : UInt8)) (8 * 0) (leN 8 (ain.getD 0 0).toNat)) (8 * 1) (leN 8 (ain.getD 1 0).toNat)) (8 * 2) (leN 8 (ain.getD 2 0).toNat)) (8 * 3) (leN 8 (ain.getD 3 0).toNat)) 3] : List UInt64).map vu64⟩), (vi 0)]) (v := (vi 0)) rfl rfl) ?_
  refine WL.alloc (segs := [(4, (List.replicate 4 (0 : UInt64)).map vu64)]) h_37 (zv Try.typeInfo31 rfl) rfl (SsOk.cons (SOk.u64 (List.length_replicate ..)) SsOk.nil) rfl (fun b_38 w_39 h_40 => ?_)
  refine WL.storeA (b := b_38) (off := 0) [] [(4, (List.replicate 4 (0 : UInt64)).map vu64)] [(4, ([wordB (ovr (ovr (ovr (ovr (List.replicate 128 (0 : UInt8)) (8 * 0) (leN 8 (ain.getD 0 0).toNat)) (8 * 1) (leN 8 (ain.getD 1 0).toNat)) (8 * 2) (leN 8 (ain.getD 2 0).toNat)) (8 * 3) (leN 8 (ain.getD 3 0).toNat)) 0, wordB (ovr (ovr (ovr (ovr (List.replicate 128 (0 : UInt8)) (8 * 0) (leN 8 (ain.getD 0 0).toNat)) (8 * 1) (leN 8 (ain.getD 1 0).toNat)) (8 * 2) (leN 8 (ain.getD 2 0).toNat)) (8 * 3) (leN 8 (ain.getD 3 0).toNat)) 1, wordB (ovr (ovr (ovr (ovr (List.replicate 128 (0 : UInt8)) (8 * 0) (leN 8 (ain.getD 0 0).toNat)) (8 * 1) (leN 8 (ain.getD 1 0).toNat)) (8 * 2) (leN 8 (ain.getD 2 0).toNat)) (8 * 3) (leN 8 (ain.getD 3 0).toNat)) 2, wordB (ovr (ovr (ovr (ovr (List.replicate 128 (0 : UInt8)) (8 * 0) (leN 8 (ain.getD 0 0).toNat)) (8 * 1) (leN 8 (ain.getD 1 0).toNat)) (8 * 2) (leN 8 (ain.getD 2 0).toNat)) (8 * 3) (leN 8 (ain.getD 3 0).toNat)) 3] : List UInt64).map vu64)] [] (ys := ([wordB (ovr (ovr (ovr (ovr (List.replicate 128 (0 : UInt8)) (8 * 0) (leN 8 (ain.getD 0 0).toNat)) (8 * 1) (leN 8 (ain.getD 1 0).toNat)) (8 * 2) (leN 8 (ain.getD 2 0).toNat)) (8 * 3) (leN 8 (ain.getD 3 0).toNat)) 0, wordB (ovr (ovr (ovr (ovr (List.replicate 128 (0 : UInt8)) (8 * 0) (leN 8 (ain.getD 0 0).toNat)) (8 * 1) (leN 8 (ain.getD 1 0).toNat)) (8 * 2) (leN 8 (ain.getD 2 0).toNat)) (8 * 3) (leN 8 (ain.getD 3 0).toNat)) 1, wordB (ovr (ovr (ovr (ovr (List.replicate 128 (0 : UInt8)) (8 * 0) (leN 8 (ain.getD 0 0).toNat)) (8 * 1) (leN 8 (ain.getD 1 0).toNat)) (8 * 2) (leN 8 (ain.getD 2 0).toNat)) (8 * 3) (leN 8 (ain.getD 3 0).toNat)) 2, wordB (ovr (ovr (ovr (ovr (List.replicate 128 (0 : UInt8)) (8 * 0) (leN 8 (ain.getD 0 0).toNat)) (8 * 1) (leN 8 (ain.getD 1 0).toNat)) (8 * 2) (leN 8 (ain.getD 2 0).toNat)) (8 * 3) (leN 8 (ain.getD 3 0).toNat)) 3] : List UInt64).map vu64) h_40 rfl rfl Try.sizeOf31 At.h (by decide) rfl rfl rfl rfl rfl rfl (SsOk.cons (SOk.u64 (rfl : List.length ([wordB (ovr (ovr (ovr (ovr (List.replicate 128 (0 : UInt8)) (8 * 0) (leN 8 (ain.getD 0 0).toNat)) (8 * 1) (leN 8 (ain.getD 1 0).toNat)) (8 * 2) (leN 8 (ain.getD 2 0).toNat)) (8 * 3) (leN 8 (ain.getD 3 0).toNat)) 0, wordB (ovr (ovr (ovr (ovr (List.replicate 128 (0 : UInt8)) (8 * 0) (leN 8 (ain.getD 0 0).toNat)) (8 * 1) (leN 8 (ain.getD 1 0).toNat)) (8 * 2) (leN 8 (ain.getD 2 0).toNat)) (8 * 3) (leN 8 (ain.getD 3 0).toNat)) 1, wordB (ovr (ovr (ovr (ovr (List.replicate 128 (0 : UInt8)) (8 * 0) (leN 8 (ain.getD 0 0).toNat)) (8 * 1) (leN 8 (ain.getD 1 0).toNat)) (8 * 2) (leN 8 (ain.getD 2 0).toNat)) (8 * 3) (leN 8 (ain.getD 3 0).toNat)) 2, wordB (ovr (ovr (ovr (ovr (List.replicate 128 (0 : UInt8)) (8 * 0) (leN 8 (ain.getD 0 0).toNat)) (8 * 1) (leN 8 (ain.getD 1 0).toNat)) (8 * 2) (leN 8 (ain.getD 2 0).toNat)) (8 * 3) (leN 8 (ain.getD 3 0).toNat)) 3] : List UInt64) = 4)) SsOk.nil) (fun w_41 h_42 => ?_)
  refine WL.q (Wn.no rfl) rfl rfl (R.assign (v := (vi 0)) rfl) ?_
  refine WL.nil ?_
  refine thn_n ?_
  refine WP.seq ?_
  refine WP.seq ?_
  refine WP.reg ?_
  refine WL.q (Wn.no rfl) rfl rfl (R.move (v := (vi 0)) rfl) ?_
  refine WL.q (Wn.no rfl) rfl rfl (R.bin (v := (.bool false)) rfl rfl (bi_neq (r := false) (by decide))) ?_
  refine WL.q (Wn.no rfl) rfl rfl (R.move (v := (.bool false)) rfl) ?_
  refine WL.want rfl rfl ?_
  refine WL.q (Wn.no rfl) rfl rfl (R.loadA (b := b_38) (off := 0) [] [(4, ([wordB (ovr (ovr (ovr (ovr (List.replicate 128 (0 : UInt8)) (8 * 0) (leN 8 (ain.getD 0 0).toNat)) (8 * 1) (leN 8 (ain.getD 1 0).toNat)) (8 * 2) (leN 8 (ain.getD 2 0).toNat)) (8 * 3) (leN 8 (ain.getD 3 0).toNat)) 0, wordB (ovr (ovr (ovr (ovr (List.replicate 128 (0 : UInt8)) (8 * 0) (leN 8 (ain.getD 0 0).toNat)) (8 * 1) (leN 8 (ain.getD 1 0).toNat)) (8 * 2) (leN 8 (ain.getD 2 0).toNat)) (8 * 3) (leN 8 (ain.getD 3 0).toNat)) 1, wordB (ovr (ovr (ovr (ovr (List.replicate 128 (0 : UInt8)) (8 * 0) (leN 8 (ain.getD 0 0).toNat)) (8 * 1) (leN 8 (ain.getD 1 0).toNat)) (8 * 2) (leN 8 (ain.getD 2 0).toNat)) (8 * 3) (leN 8 (ain.getD 3 0).toNat)) 2, wordB (ovr (ovr (ovr (ovr (List.replicate 128 (0 : UInt8)) (8 * 0) (leN 8 (ain.getD 0 0).toNat)) (8 * 1) (leN 8 (ain.getD 1 0).toNat)) (8 * 2) (leN 8 (ain.getD 2 0).toNat)) (8 * 3) (leN 8 (ain.getD 3 0).toNat)) 3] : List UInt64).map vu64)] [] (cs := ([wordB (ovr (ovr (ovr (ovr (List.replicate 128 (0 : UInt8)) (8 * 0) (leN 8 (ain.getD 0 0).toNat)) (8 * 1) (leN 8 (ain.getD 1 0).toNat)) (8 * 2) (leN 8 (ain.getD 2 0).toNat)) (8 * 3) (leN 8 (ain.getD 3 0).toNat)) 0, wordB (ovr (ovr (ovr (ovr (List.replicate 128 (0 : UInt8)) (8 * 0) (leN 8 (ain.getD 0 0).toNat)) (8 * 1) (leN 8 (ain.getD 1 0).toNat)) (8 * 2) (leN 8 (ain.getD 2 0).toNat)) (8 * 3) (leN 8 (ain.getD 3 0).toNat)) 1, wordB (ovr (ovr (ovr (ovr (List.replicate 128 (0 : UInt8)) (8 * 0) (leN 8 (ain.getD 0 0).toNat)) (8 * 1) (leN 8 (ain.getD 1 0).toNat)) (8 * 2) (leN 8 (ain.getD 2 0).toNat)) (8 * 3) (leN 8 (ain.getD 3 0).toNat)) 2, wordB (ovr (ovr (ovr (ovr (List.replicate 128 (0 : UInt8)) (8 * 0) (leN 8 (ain.getD 0 0).toNat)) (8 * 1) (leN 8 (ain.getD 1 0).toNat)) (8 * 2) (leN 8 (ain.getD 2 0).toNat)) (8 * 3) (leN 8 (ain.getD 3 0).toNat)) 3] : List UInt64).map vu64) rfl Try.isAgg31 Try.sizeOf31 (h_42.ok _ (.head _)) rfl rfl rfl rfl) ?_
  refine WL.want rfl rfl ?_
  refine WL.q (Wn.no rfl) rfl rfl (R.loadA (b := b_1) (off := 0) [] [(4, ain.map vu64)] [] (cs := ain.map vu64) rfl Try.isAgg31 Try.sizeOf31 (h_42.ok _ (.tail _ (.tail _ (.tail _ (.tail _ (.head _)))))) rfl rfl rfl rfl) ?_
  refine WL.want rfl rfl ?_
  refine WL.q (Wn.no rfl) rfl rfl (R.neA (xs := ([wordB (ovr (ovr (ovr (ovr (List.replicate 128 (0 : UInt8)) (8 * 0) (leN 8 (ain.getD 0 0).toNat)) (8 * 1) (leN 8 (ain.getD 1 0).toNat)) (8 * 2) (leN 8 (ain.getD 2 0).toNat)) (8 * 3) (leN 8 (ain.getD 3 0).toNat)) 0, wordB (ovr (ovr (ovr (ovr (List.replicate 128 (0 : UInt8)) (8 * 0) (leN 8 (ain.getD 0 0).toNat)) (8 * 1) (leN 8 (ain.getD 1 0).toNat)) (8 * 2) (leN 8 (ain.getD 2 0).toNat)) (8 * 3) (leN 8 (ain.getD 3 0).toNat)) 1, wordB (ovr (ovr (ovr (ovr (List.replicate 128 (0 : UInt8)) (8 * 0) (leN 8 (ain.getD 0 0).toNat)) (8 * 1) (leN 8 (ain.getD 1 0).toNat)) (8 * 2) (leN 8 (ain.getD 2 0).toNat)) (8 * 3) (leN 8 (ain.getD 3 0).toNat)) 2, wordB (ovr (ovr (ovr (ovr (List.replicate 128 (0 : UInt8)) (8 * 0) (leN 8 (ain.getD 0 0).toNat)) (8 * 1) (leN 8 (ain.getD 1 0).toNat)) (8 * 2) (leN 8 (ain.getD 2 0).toNat)) (8 * 3) (leN 8 (ain.getD 3 0).toNat)) 3] : List UInt64).map vu64) (ys := ain.map vu64) (r := false) rfl rfl Try.eqGuardType31 kt31 (by decide) ag31 (Typ.struct (h := 2) (r := [(4, ([wordB (ovr (ovr (ovr (ovr (List.replicate 128 (0 : UInt8)) (8 * 0) (leN 8 (ain.getD 0 0).toNat)) (8 * 1) (leN 8 (ain.getD 1 0).toNat)) (8 * 2) (leN 8 (ain.getD 2 0).toNat)) (8 * 3) (leN 8 (ain.getD 3 0).toNat)) 0, wordB (ovr (ovr (ovr (ovr (List.replicate 128 (0 : UInt8)) (8 * 0) (leN 8 (ain.getD 0 0).toNat)) (8 * 1) (leN 8 (ain.getD 1 0).toNat)) (8 * 2) (leN 8 (ain.getD 2 0).toNat)) (8 * 3) (leN 8 (ain.getD 3 0).toNat)) 1, wordB (ovr (ovr (ovr (ovr (List.replicate 128 (0 : UInt8)) (8 * 0) (leN 8 (ain.getD 0 0).toNat)) (8 * 1) (leN 8 (ain.getD 1 0).toNat)) (8 * 2) (leN 8 (ain.getD 2 0).toNat)) (8 * 3) (leN 8 (ain.getD 3 0).toNat)) 2, wordB (ovr (ovr (ovr (ovr (List.replicate 128 (0 : UInt8)) (8 * 0) (leN 8 (ain.getD 0 0).toNat)) (8 * 1) (leN 8 (ain.getD 1 0).toNat)) (8 * 2) (leN 8 (ain.getD 2 0).toNat)) (8 * 3) (leN 8 (ain.getD 3 0).toNat)) 3] : List UInt64).map vu64)]) (cs := ([wordB (ovr (ovr (ovr (ovr (List.replicate 128 (0 : UInt8)) (8 * 0) (leN 8 (ain.getD 0 0).toNat)) (8 * 1) (leN 8 (ain.getD 1 0).toNat)) (8 * 2) (leN 8 (ain.getD 2 0).toNat)) (8 * 3) (leN 8 (ain.getD 3 0).toNat)) 0, wordB (ovr (ovr (ovr (ovr (List.replicate 128 (0 : UInt8)) (8 * 0) (leN 8 (ain.getD 0 0).toNat)) (8 * 1) (leN 8 (ain.getD 1 0).toNat)) (8 * 2) (leN 8 (ain.getD 2 0).toNat)) (8 * 3) (leN 8 (ain.getD 3 0).toNat)) 1, wordB (ovr (ovr (ovr (ovr (List.replicate 128 (0 : UInt8)) (8 * 0) (leN 8 (ain.getD 0 0).toNat)) (8 * 1) (leN 8 (ain.getD 1 0).toNat)) (8 * 2) (leN 8 (ain.getD 2 0).toNat)) (8 * 3) (leN 8 (ain.getD 3 0).toNat)) 2, wordB (ovr (ovr (ovr (ovr (List.replicate 128 (0 : UInt8)) (8 * 0) (leN 8 (ain.getD 0 0).toNat)) (8 * 1) (leN 8 (ain.getD 1 0).toNat)) (8 * 2) (leN 8 (ain.getD 2 0).toNat)) (8 * 3) (leN 8 (ain.getD 3 0).toNat)) 3] : List UInt64).map vu64) Try.underlying31 (TypF.cons (k := 4) rfl rfl (by decide) (len_map (rfl : List.length ([wordB (ovr (ovr (ovr (ovr (List.replicate 128 (0 : UInt8)) (8 * 0) (leN 8 (ain.getD 0 0).toNat)) (8 * 1) (leN 8 (ain.getD 1 0).toNat)) (8 * 2) (leN 8 (ain.getD 2 0).toNat)) (8 * 3) (leN 8 (ain.getD 3 0).toNat)) 0, wordB (ovr (ovr (ovr (ovr (List.replicate 128 (0 : UInt8)) (8 * 0) (leN 8 (ain.getD 0 0).toNat)) (8 * 1) (leN 8 (ain.getD 1 0).toNat)) (8 * 2) (leN 8 (ain.getD 2 0).toNat)) (8 * 3) (leN 8 (ain.getD 3 0).toNat)) 1, wordB (ovr (ovr (ovr (ovr (List.replicate 128 (0 : UInt8)) (8 * 0) (leN 8 (ain.getD 0 0).toNat)) (8 * 1) (leN 8 (ain.getD 1 0).toNat)) (8 * 2) (leN 8 (ain.getD 2 0).toNat)) (8 * 3) (leN 8 (ain.getD 3 0).toNat)) 2, wordB (ovr (ovr (ovr (ovr (List.replicate 128 (0 : UInt8)) (8 * 0) (leN 8 (ain.getD 0 0).toNat)) (8 * 1) (leN 8 (ain.getD 1 0).toNat)) (8 * 2) (leN 8 (ain.getD 2 0).toNat)) (8 * 3) (leN 8 (ain.getD 3 0).toNat)) 3] : List UInt64) = 4)) (Typ.u64s Try.underlying29 ce29 Try.underlying22 ce22 (rfl : List.length ([wordB (ovr (ovr (ovr (ovr (List.replicate 128 (0 : UInt8)) (8 * 0) (leN 8 (ain.getD 0 0).toNat)) (8 * 1) (leN 8 (ain.getD 1 0).toNat)) (8 * 2) (leN 8 (ain.getD 2 0).toNat)) (8 * 3) (leN 8 (ain.getD 3 0).toNat)) 0, wordB (ovr (ovr (ovr (ovr (List.replicate 128 (0 : UInt8)) (8 * 0) (leN 8 (ain.getD 0 0).toNat)) (8 * 1) (leN 8 (ain.getD 1 0).toNat)) (8 * 2) (leN 8 (ain.getD 2 0).toNat)) (8 * 3) (leN 8 (ain.getD 3 0).toNat)) 1, wordB (ovr (ovr (ovr (ovr (List.replicate 128 (0 : UInt8)) (8 * 0) (leN 8 (ain.getD 0 0).toNat)) (8 * 1) (leN 8 (ain.getD 1 0).toNat)) (8 * 2) (leN 8 (ain.getD 2 0).toNat)) (8 * 3) (leN 8 (ain.getD 3 0).toNat)) 2, wordB (ovr (ovr (ovr (ovr (List.replicate 128 (0 : UInt8)) (8 * 0) (leN 8 (ain.getD 0 0).toNat)) (8 * 1) (leN 8 (ain.getD 1 0).toNat)) (8 * 2) (leN 8 (ain.getD 2 0).toNat)) (8 * 3) (leN 8 (ain.getD 3 0).toNat)) 3] : List UInt64) = 4)) TypF.nil) rfl (((SsOk.cons (SOk.u64 (rfl : List.length ([wordB (ovr (ovr (ovr (ovr (List.replicate 128 (0 : UInt8)) (8 * 0) (leN 8 (ain.getD 0 0).toNat)) (8 * 1) (leN 8 (ain.getD 1 0).toNat)) (8 * 2) (leN 8 (ain.getD 2 0).toNat)) (8 * 3) (leN 8 (ain.getD 3 0).toNat)) 0, wordB (ovr (ovr (ovr (ovr (List.replicate 128 (0 : UInt8)) (8 * 0) (leN 8 (ain.getD 0 0).toNat)) (8 * 1) (leN 8 (ain.getD 1 0).toNat)) (8 * 2) (leN 8 (ain.getD 2 0).toNat)) (8 * 3) (leN 8 (ain.getD 3 0).toNat)) 1, wordB (ovr (ovr (ovr (ovr (List.replicate 128 (0 : UInt8)) (8 * 0) (leN 8 (ain.getD 0 0).toNat)) (8 * 1) (leN 8 (ain.getD 1 0).toNat)) (8 * 2) (leN 8 (ain.getD 2 0).toNat)) (8 * 3) (leN 8 (ain.getD 3 0).toNat)) 2, wordB (ovr (ovr (ovr (ovr (List.replicate 128 (0 : UInt8)) (8 * 0) (leN 8 (ain.getD 0 0).toNat)) (8 * 1) (leN 8 (ain.getD 1 0).toNat)) (8 * 2) (leN 8 (ain.getD 2 0).toNat)) (8 * 3) (leN 8 (ain.getD 3 0).toNat)) 3] : List UInt64) = 4)) SsOk.nil)).len.trans ce31.symm)) (Typ.struct (h := 2) (r := [(4, ain.map vu64)]) (cs := ain.map vu64) Try.underlying31 (TypF.cons (k := 4) rfl rfl (by decide) (len_map ha) (Typ.u64s Try.underlying29 ce29 Try.underlying22 ce22 ha) TypF.nil) rfl (((SsOk.cons (SOk.u64 ha) SsOk.nil)).len.trans ce31.symm)) (neT (congrArg (List.map vu64) (by rw [in_sets ha, in_word ha])))) ?_
  refine WL.q (Wn.no rfl) rfl rfl (R.pickF (v := (.bool false)) rfl rfl) ?_
  refine WL.nil ?_
  refine thn_n ?_
  refine WP.condF rfl ?_
  refine WP.skip ?_
  refine thn_n ?_
  refine WP.g4 (G := Unit) [6, 10, 11, 12, 46, 47, 48, 49, 50, 51, 52, 53, 54, 55, 56, 57, 58, 59, 60, 61, 62, 63, 64, 65, 66, 67, 68, 69, 70, 71, 72, 73, 74, 75, 76, 77, 78, 79, 80, 81, 82, 83, 84, 85, 86, 87] (fun _ => [(6, (.bool false)), (47, (.agg ⟨gb.map vu8⟩)), (52, (.bool false)), (65, (.bool false)), (66, (.bool false)), (77, (.bool false)), (78, (.bool false)), (79, (.bool false)), (86, (.bool false)), (87, (.bool false))]) (fun _ w1 => HP w w1 [.blk b_10 .nw 53 [(128, (ovr (ovr (ovr (ovr (List.replicate 128 (0 : UInt8)) (8 * 0) (leN 8 (ain.getD 0 0).toNat)) (8 * 1) (leN 8 (ain.getD 1 0).toNat)) (8 * 2) (leN 8 (ain.getD 2 0).toNat)) (8 * 3) (leN 8 (ain.getD 3 0).toNat)).map vu8)], .blk b_7 .nw 53 [(128, gb.map vu8)], .blk b_4 .nw 40 [(1, [(vi rs)]), (4, ors.map vu64), (1, [(vu64 adr)]), (1, [(.bool wr)]), (1, [(vi ran)])], .blk b_1 .nw 31 [(4, ain.map vu64)]]) ?_ ?_
  · refine WP.reg ?_
    refine WL.q (Wn.no rfl) rfl rfl (R.loadA (b := b_7) (off := 0) [] [(128, gb.map vu8)] [] (cs := gb.map vu8) rfl Try.isAgg53 Try.sizeOf53 (h_42.ok _ (.tail _ (.tail _ (.head _)))) rfl rfl rfl rfl) ?_
    refine WL.call (al := [(.agg ⟨gb.map vu8⟩)]) Try.call39 rfl rfl (c_InOf gb hgb _) rfl ?_
    rintro _ w_45 (⟨hi_43, rfl, hc_44⟩ | ⟨hi_43, rfl, hc_44⟩)
    · have h_46 := h_42.same hc_44
      refine WL.q (Wn.no rfl) rfl rfl (R.move (v := (.tuple [(.agg ⟨([wordB gb 0, wordB gb 1, wordB gb 2, wordB gb 3] : List UInt64).map vu64⟩), (vi 0)].toArray)) rfl) ?_
      refine WL.q (Wn.no rfl) rfl rfl (R.extract (l := [(.agg ⟨([wordB gb 0, wordB gb 1, wordB gb 2, wordB gb 3] : List UInt64).map vu64⟩), (vi 0)]) (v := (.agg ⟨([wordB gb 0, wordB gb 1, wordB gb 2, wordB gb 3] : List UInt64).map vu64⟩)) rfl rfl) ?_
      refine WL.q (Wn.no rfl) rfl rfl (R.extract (l := [(.agg ⟨([wordB gb 0, wordB gb 1, wordB gb 2, wordB gb 3] : List UInt64).map vu64⟩), (vi 0)]) (v := (vi 0)) rfl rfl) ?_
      refine WL.storeA (b := b_38) (off := 0) [] [(4, ([wordB (ovr (ovr (ovr (ovr (List.replicate 128 (0 : UInt8)) (8 * 0) (leN 8 (ain.getD 0 0).toNat)) (8 * 1) (leN 8 (ain.getD 1 0).toNat)) (8 * 2) (leN 8 (ain.getD 2 0).toNat)) (8 * 3) (leN 8 (ain.getD 3 0).toNat)) 0, wordB (ovr (ovr (ovr (ovr (List.replicate 128 (0 : UInt8)) (8 * 0) (leN 8 (ain.getD 0 0).toNat)) (8 * 1) (leN 8 (ain.getD 1 0).toNat)) (8 * 2) (leN 8 (ain.getD 2 0).toNat)) (8 * 3) (leN 8 (ain.getD 3 0).toNat)) 1, wordB (ovr (ovr (ovr (ovr (List.replicate 128 (0 : UInt8)) (8 * 0) (leN 8 (ain.getD 0 0).toNat)) (8 * 1) (leN 8 (ain.getD 1 0).toNat)) (8 * 2) (leN 8 (ain.getD 2 0).toNat)) (8 * 3) (leN 8 (ain.getD 3 0).toNat)) 2, wordB (ovr (ovr (ovr (ovr (List.replicate 128 (0 : UInt8)) (8 * 0) (leN 8 (ain.getD 0 0).toNat)) (8 * 1) (leN 8 (ain.getD 1 0).toNat)) (8 * 2) (leN 8 (ain.getD 2 0).toNat)) (8 * 3) (leN 8 (ain.getD 3 0).toNat)) 3] : List UInt64).map vu64)] [(4, ([wordB gb 0, wordB gb 1, wordB gb 2, wordB gb 3] : List UInt64).map vu64)] [] (ys := ([wordB gb 0, wordB gb 1, wordB gb 2, wordB gb 3] : List UInt64).map vu64) h_46 rfl rfl Try.sizeOf31 At.h (by decide) rfl rfl rfl rfl rfl rfl (SsOk.cons (SOk.u64 (rfl : List.length ([wordB gb 0, wordB gb 1, wordB gb 2, wordB gb 3] : List UInt64) = 4)) SsOk.nil) (fun w_47 h_48 => ?_)
      refine WL.q (Wn.no rfl) rfl rfl (R.assign (v := (vi 0)) rfl) ?_
      refine WL.nil ?_
      refine thn_n ?_
      refine WP.reg ?_
      refine WL.q (Wn.no rfl) rfl rfl (R.assign (v := (.bool true)) rfl) ?_
      refine WL.nil ?_
      refine thn_n ?_
      refine WP.seq ?_
      refine WP.reg ?_
      refine WL.q (Wn.no rfl) rfl rfl (R.assign (v := (vi 32)) rfl) ?_
      refine WL.nil ?_
      refine thn_n ?_
      refine WP.block ?_
      refine WP.loopG (G := Nat) [11, 12, 51, 52, 53, 54, 55, 56, 57, 58, 59, 60, 61] (fun k => [(11, (.bool (fineK gb k))), (12, (vi ((k : Nat) : Int)))]) (fun k m w1 => HP w w1 [.blk b_38 .nw 31 [(4, ([wordB gb 0, wordB gb 1, wordB gb 2, wordB gb 3] : List UInt64).map vu64)], .blk b_10 .nw 53 [(128, (ovr (ovr (ovr (ovr (List.replicate 128 (0 : UInt8)) (8 * 0) (leN 8 (ain.getD 0 0).toNat)) (8 * 1) (leN 8 (ain.getD 1 0).toNat)) (8 * 2) (leN 8 (ain.getD 2 0).toNat)) (8 * 3) (leN 8 (ain.getD 3 0).toNat)).map vu8)], .blk b_7 .nw 53 [(128, gb.map vu8)], .blk b_4 .nw 40 [(1, [(vi rs)]), (4, ors.map vu64), (1, [(vu64 adr)]), (1, [(.bool wr)]), (1, [(vi ran)])], .blk b_1 .nw 31 [(4, ain.map vu64)]] ∧ (32 ≤ k ∧ k ≤ 128) ∧ m = 128 - k) ⟨32, _, ⟨rfl, rfl, trivial⟩, h_48, (by omega), rfl⟩ ?_
      rintro k m_51 J_52 w_49 ⟨h_50, hk, rfl⟩
      refine WP.seq ?_
      refine WP.seq ?_
      refine WP.reg ?_
      refine WL.q (Wn.no rfl) rfl rfl (R.move (v := (vi ((k : Nat) : Int))) rfl) ?_
      refine WL.q (Wn.no rfl) rfl rfl (R.bin (v := (.bool (decide ((((k : Nat) : Int) : Int) < 128)))) rfl rfl (bi_lss (r := decide ((((k : Nat) : Int) : Int) < 128)) rfl)) ?_
      refine WL.nil ?_
      refine thn_n ?_
      refine WP.cond (b := decide ((((k : Nat) : Int) : Int) < 128)) rfl (fun c_53 => ?_) (fun c_53 => ?_)
      · have p_54 := of_decide_eq_true c_53
        refine WP.skip ?_
        refine thn_n ?_
        refine WP.seq ?_
        refine WP.block ?_
        refine WP.reg ?_
        refine WL.q (Wn.no rfl) rfl rfl (R.move (v := (.bool (fineK gb k))) rfl) ?_
        refine WL.q (Wn.no rfl) rfl rfl (R.move (v := (.bool (fineK gb k))) rfl) ?_
        rcases Bool.eq_false_or_eq_true (fineK gb k) with c_55 | c_55
        · refine WL.want rfl (congrArg Value.bool c_55) ?_
          refine WL.q (Wn.no rfl) rfl rfl (R.move (v := (vi ((k : Nat) : Int))) rfl) ?_
          refine WL.want rfl (congrArg Value.bool c_55) ?_
          refine WL.q (Wn.no rfl) rfl rfl (R.indexA (b := b_7) (off := 0) (off' := (0 + k)) (i := k) rfl rfl rfl (by omega) Try.underlying53 Try.sizeOf5 (by rw [Nat.mul_one])) ?_
          refine WL.want rfl (congrArg Value.bool c_55) ?_
          refine WL.q (Wn.no rfl) rfl rfl (R.loadE (b := b_7) (off := (0 + k)) (i := k) (v := (vu8 (gb.getD k 0))) rfl Try.isAgg5 (h_50.ok _ (.tail _ (.tail _ (.head _)))) Sg.h rfl (get_u8 (lt_len (K := 128) hgb (by omega)))) ?_
          refine WL.want rfl (congrArg Value.bool c_55) ?_
          refine WL.q (Wn.no rfl) rfl rfl (R.bin (v := (.bool (decide ((gb.getD k 0 : UInt8) = 0)))) rfl rfl (b8_eql (gb.getD k 0) 0 (r := decide ((gb.getD k 0 : UInt8) = 0)) rfl)) ?_
          refine WL.q (Wn.no rfl) rfl rfl (R.pickT (v := (.bool (decide ((gb.getD k 0 : UInt8) = 0)))) (congrArg Value.bool c_55) rfl) ?_
          refine WL.q (Wn.no rfl) rfl rfl (R.assign (v := (.bool (decide ((gb.getD k 0 : UInt8) = 0)))) rfl) ?_
          refine WL.nil ?_
          refine inb_n ?_
          refine thn_n ?_
          refine WP.reg ?_
          refine WL.q (Wn.no rfl) rfl rfl (R.move (v := (vi ((k : Nat) : Int))) rfl) ?_
          refine WL.q (Wn.no rfl) rfl rfl (R.bin (v := (vi ((k + 1 : Nat) : Int))) rfl rfl (bi_add (c := ((k + 1 : Nat) : Int)) (by omega) (by omega))) ?_
          refine WL.q (Wn.no rfl) rfl rfl (R.assign (v := (vi ((k + 1 : Nat) : Int))) rfl) ?_
          refine WL.nil ?_
          refine thn_n ?_
          exact ⟨k + 1, _, (by omega), (Ag.upd rfl (Ag.upd rfl (Ag.upd rfl (Ag.upd rfl (Ag.upd rfl (Ag.upd rfl (Ag.upd rfl (Ag.upd rfl (Ag.upd rfl (Ag.upd rfl (Ag.upd rfl (Ag.upd rfl (Ag.upd rfl (Ag.updL rfl (Ag.mix _ _ _))))))))))))))), ⟨congrArg Value.bool (by rw [fineK_succ (by omega), c_55, Bool.true_and]), rfl, trivial⟩, h_50, (by omega), rfl⟩
        · refine WL.skip rfl (congrArg Value.bool c_55) rfl ?_
          refine WL.skip rfl (congrArg Value.bool c_55) rfl ?_
          refine WL.skip rfl (congrArg Value.bool c_55) rfl ?_
          refine WL.skip rfl (congrArg Value.bool c_55) rfl ?_
          refine WL.q (Wn.no rfl) rfl rfl (R.pickF (v := (.bool false)) (congrArg Value.bool c_55) rfl) ?_
          refine WL.q (Wn.no rfl) rfl rfl (R.assign (v := (.bool false)) rfl) ?_
          refine WL.nil ?_
          refine inb_n ?_
          refine thn_n ?_
          refine WP.reg ?_
          refine WL.q (Wn.no rfl) rfl rfl (R.move (v := (vi ((k : Nat) : Int))) rfl) ?_
          refine WL.q (Wn.no rfl) rfl rfl (R.bin (v := (vi ((k + 1 : Nat) : Int))) rfl rfl (bi_add (c := ((k + 1 : Nat) : Int)) (by omega) (by omega))) ?_
          refine WL.q (Wn.no rfl) rfl rfl (R.assign (v := (vi ((k + 1 : Nat) : Int))) rfl) ?_
          refine WL.nil ?_
          refine thn_n ?_
          exact ⟨k + 1, _, (by omega), (Ag.upd rfl (Ag.upd rfl (Ag.upd rfl (Ag.upd rfl (Ag.upd rfl (Ag.upd rfl (Ag.upd rfl (Ag.upd rfl (Ag.upd rfl (Ag.upd rfl (Ag.upd rfl (Ag.upd rfl (Ag.upd rfl (Ag.updL rfl (Ag.mix _ _ _))))))))))))))), ⟨congrArg Value.bool (by rw [fineK_succ (by omega), c_55, Bool.false_and]), rfl, trivial⟩, h_50, (by omega), rfl⟩
      · have p_56 := of_decide_eq_false c_53
        have hk_57 : k = 128 := by omega
        have hf_58 : fineK gb k = true := by rw [hk_57]; exact (in_fine hgb).1 hi_43
        refine WP.exit ?_
        refine thn_x ?_
        refine thn_x ?_
        refine inb_hit ?_
        refine thn_n ?_
        refine WP.seq ?_
        refine WP.drawT (SL w.heap.size [.blk b_38 .nw 31 [(4, ([wordB gb 0, wordB gb 1, wordB gb 2, wordB gb 3] : List UInt64).map vu64)], .blk b_10 .nw 53 [(128, (ovr (ovr (ovr (ovr (List.replicate 128 (0 : UInt8)) (8 * 0) (leN 8 (ain.getD 0 0).toNat)) (8 * 1) (leN 8 (ain.getD 1 0).toNat)) (8 * 2) (leN 8 (ain.getD 2 0).toNat)) (8 * 3) (leN 8 (ain.getD 3 0).toNat)).map vu8)], .blk b_7 .nw 53 [(128, gb.map vu8)], .blk b_4 .nw 40 [(1, [(vi rs)]), (4, ors.map vu64), (1, [(vu64 adr)]), (1, [(.bool wr)]), (1, [(vi ran)])], .blk b_1 .nw 31 [(4, ain.map vu64)]]) (.q 0 (.q 1 (.q 2 (.q 3 (.q 4 (.q 5 (.q 6 (.q 7 (.q 8 (.q 9 (.q 10 (.q 11 (.q 12 (.q 13 (.q 14 (.q 15 (.q 16 (.q 17 (.q 18 (.q 19 (.q 20 (.q 22 (.s 21 (.q 23 (.q 24 (.q 25 .nil)))))))))))))))))))))))))) (by kernel_rfl) (by kernel_rfl) rfl (by kernel_rfl) (fun w_59 hc_61 => (SL.cons ((h_50.same hc_61).ok _ (.head _)) (SL.cons ((h_50.same hc_61).ok _ (.tail _ (.head _))) (SL.cons ((h_50.same hc_61).ok _ (.tail _ (.tail _ (.head _)))) (SL.cons ((h_50.same hc_61).ok _ (.tail _ (.tail _ (.tail _ (.head _))))) (SL.cons ((h_50.same hc_61).ok _ (.tail _ (.tail _ (.tail _ (.tail _ (.head _)))))) (SL.nil _ _))))))) (fun w_59 hc_61 => ?_)
        have h_60 := h_50.same hc_61
        refine WT.q rfl (Wn.no rfl) rfl rfl (fun wq hS => R.move (v := (.bool (fineK gb k))) rfl) ?_
        refine WT.q rfl (Wn.no rfl) rfl rfl (fun wq hS => R.move (v := (vi 0)) rfl) ?_
        refine WT.q rfl (Wn.no rfl) rfl rfl (fun wq hS => R.bin (v := (.bool true)) rfl rfl (bi_eql (r := true) (by decide))) ?_
        refine WT.q rfl (Wn.no rfl) rfl rfl (fun wq hS => R.neB (a := true) (b := true) (c := false) (congrArg Value.bool hf_58) rfl Try.underlying4 rfl) ?_
        refine WT.q rfl (Wn.no rfl) rfl rfl (fun wq hS => R.move (v := (.bool false)) rfl) ?_
        refine WT.q rfl (Wn.yes rfl rfl rfl) rfl rfl (fun wq hS => R.move (v := (.bool (fineK gb k))) rfl) ?_
        refine WT.q rfl (Wn.yes rfl rfl rfl) rfl rfl (fun wq hS => R.not (b := true) (congrArg Value.bool hf_58)) ?_
        refine WT.q rfl (Wn.yes rfl rfl rfl) rfl rfl (fun wq hS => R.move (v := (.bool false)) rfl) ?_
        refine WT.skipQ rfl rfl rfl (boolNe (v := .bool false) rfl (by decide)) rfl rfl ?_
        refine WT.skipQ rfl rfl rfl (boolNe (v := .bool false) rfl (by decide)) rfl rfl ?_
        refine WT.skipQ rfl rfl rfl (boolNe (v := .bool false) rfl (by decide)) rfl rfl ?_
        refine WT.skipQ rfl rfl rfl (boolNe (v := undef) rfl (by decide)) rfl rfl ?_
        refine WT.skipQ rfl rfl rfl (boolNe (v := undef) rfl (by decide)) rfl rfl ?_
        refine WT.skipQ rfl rfl rfl (boolNe (v := undef) rfl (by decide)) rfl rfl ?_
        refine WT.skipQ rfl rfl rfl (boolNe (v := .bool false) rfl (by decide)) rfl rfl ?_
        refine WT.q rfl (Wn.yes rfl rfl rfl) rfl rfl (fun wq hS => R.pickF (v := (.bool false)) rfl rfl) ?_
        refine WT.q rfl (Wn.no rfl) rfl rfl (fun wq hS => R.pickF (v := (.bool false)) rfl rfl) ?_
        refine WT.q rfl (Wn.no rfl) rfl rfl (fun wq hS => R.move (v := (.bool false)) rfl) ?_
        refine WT.q rfl (Wn.yes rfl rfl rfl) rfl rfl (fun wq hS => R.move (v := (.bool (fineK gb k))) rfl) ?_
        refine WT.q rfl (Wn.yes rfl rfl rfl) rfl rfl (fun wq hS => R.move (v := (.bool (fineK gb k))) rfl) ?_
        refine WT.q rfl (Wn.yes rfl rfl (congrArg Value.bool hf_58)) rfl rfl (fun wq hS => R.loadA (b := b_38) (off := 0) [] [(4, ([wordB gb 0, wordB gb 1, wordB gb 2, wordB gb 3] : List UInt64).map vu64)] [] (cs := ([wordB gb 0, wordB gb 1, wordB gb 2, wordB gb 3] : List UInt64).map vu64) rfl Try.isAgg31 Try.sizeOf31 (hS _ (.head _)) rfl rfl rfl rfl) ?_
        refine WT.q rfl (Wn.yes rfl rfl (congrArg Value.bool hf_58)) rfl rfl (fun wq hS => R.loadA (b := b_7) (off := 0) [] [(128, gb.map vu8)] [] (cs := gb.map vu8) rfl Try.isAgg53 Try.sizeOf53 (hS _ (.tail _ (.tail _ (.head _)))) rfl rfl rfl rfl) ?_
        refine WT.s ?_
        refine Op1.one rfl (Wn.yes rfl rfl (congrArg Value.bool hf_58)) ?_
        refine WL.call (al := [(.agg ⟨([wordB gb 0, wordB gb 1, wordB gb 2, wordB gb 3] : List UInt64).map vu64⟩)]) Try.call38 rfl rfl (c_InBytes ([wordB gb 0, wordB gb 1, wordB gb 2, wordB gb 3] : List UInt64) (rfl : List.length ([wordB gb 0, wordB gb 1, wordB gb 2, wordB gb 3] : List UInt64) = 4) _ ) rfl ?_
        rintro _ w_63 ⟨rfl, hc_62⟩
        have h_64 := h_60.same hc_62
        refine WL.nil ?_
        refine ⟨(SL.cons (h_64.ok _ (.head _)) (SL.cons (h_64.ok _ (.tail _ (.head _))) (SL.cons (h_64.ok _ (.tail _ (.tail _ (.head _)))) (SL.cons (h_64.ok _ (.tail _ (.tail _ (.tail _ (.head _))))) (SL.cons (h_64.ok _ (.tail _ (.tail _ (.tail _ (.tail _ (.head _)))))) (SL.nil _ _)))))), ?_⟩
        refine WT.q rfl (Wn.yes rfl rfl (congrArg Value.bool hf_58)) rfl rfl (fun wq hS => R.neA (xs := (inB ([wordB gb 0, wordB gb 1, wordB gb 2, wordB gb 3] : List UInt64)).map vu8) (ys := gb.map vu8) (r := false) rfl rfl Try.eqGuardType53 kt53 (by decide) ag53 (Typ.u8s Try.underlying53 ce53 Try.underlying5 ce5 (inB_len (rfl : List.length ([wordB gb 0, wordB gb 1, wordB gb 2, wordB gb 3] : List UInt64) = 4))) (Typ.u8s Try.underlying53 ce53 Try.underlying5 ce5 hgb) (neT (congrArg (List.map vu8) hi_43))) ?_
        refine WT.q rfl (Wn.yes rfl rfl rfl) rfl rfl (fun wq hS => R.pickT (v := (.bool false)) (congrArg Value.bool hf_58) rfl) ?_
        refine WT.q rfl (Wn.no rfl) rfl rfl (fun wq hS => R.pickF (v := (.bool false)) rfl rfl) ?_
        refine WT.nil ?_
        refine thn_n ?_
        refine WP.condF rfl ?_
        refine WP.skip ?_
        refine thn_n ?_
        have h_65 := h_64.up (Pick.t (Pick.t (Pick.t (Pick.t Pick.h))))
        have h_66 := h_65.up (Pick.t (Pick.t (Pick.t (Pick.t Pick.h))))
        have h_67 := h_66.up (Pick.t (Pick.t (Pick.t (Pick.t Pick.h))))
        have h_68 := h_67.up (Pick.t (Pick.t (Pick.t (Pick.t Pick.h))))
        have h_69 := (h_68.up (Pick.t (Pick.t (Pick.t (Pick.t Pick.h))))).drop rfl
        exact ⟨(), (Ag.upd rfl (Ag.upd rfl (Ag.upd rfl (Ag.upd rfl (Ag.upd rfl (Ag.upd rfl (Ag.upd rfl (Ag.upd rfl (Ag.upd rfl (Ag.upd rfl (Ag.upd rfl (Ag.upd rfl (Ag.upd rfl (Ag.upd rfl (Ag.upd rfl (Ag.upd rfl (Ag.upd rfl (Ag.upd rfl (Ag.upd rfl (Ag.upd rfl (Ag.upd rfl (Ag.upd rfl (Ag.upd rfl (Ag.upd rfl (Ag.upd rfl (Ag.upd rfl (Ag.upd rfl (Ag.upd rfl (Ag.updL rfl (Ag.trans (Ag.sub rfl (Ag.mix _ _ _)) (Ag.upd rfl (Ag.upd rfl (Ag.upd rfl (Ag.upd rfl (Ag.upd rfl (Ag.upd rfl (Ag.upd rfl (Ag.upd rfl (Ag.refl _ _))))))))))))))))))))))))))))))))))))))), ⟨rfl, rfl, (congrArg Value.bool c_53), rfl, rfl, rfl, rfl, rfl, rfl, rfl, trivial⟩, h_69⟩
    · have h_70 := h_42.same hc_44
      refine WL.q (Wn.no rfl) rfl rfl (R.move (v := (.tuple [(.agg ⟨(List.replicate 4 (0 : UInt64)).map vu64⟩), (vi 4)].toArray)) rfl) ?_
      refine WL.q (Wn.no rfl) rfl rfl (R.extract (l := [(.agg ⟨(List.replicate 4 (0 : UInt64)).map vu64⟩), (vi 4)]) (v := (.agg ⟨(List.replicate 4 (0 : UInt64)).map vu64⟩)) rfl rfl) ?_
      refine WL.q (Wn.no rfl) rfl rfl (R.extract (l := [(.agg ⟨(List.replicate 4 (0 : UInt64)).map vu64⟩), (vi 4)]) (v := (vi 4)) rfl rfl) ?_
      refine WL.storeA (b := b_38) (off := 0) [] [(4, ([wordB (ovr (ovr (ovr (ovr (List.replicate 128 (0 : UInt8)) (8 * 0) (leN 8 (ain.getD 0 0).toNat)) (8 * 1) (leN 8 (ain.getD 1 0).toNat)) (8 * 2) (leN 8 (ain.getD 2 0).toNat)) (8 * 3) (leN 8 (ain.getD 3 0).toNat)) 0, wordB (ovr (ovr (ovr (ovr (List.replicate 128 (0 : UInt8)) (8 * 0) (leN 8 (ain.getD 0 0).toNat)) (8 * 1) (leN 8 (ain.getD 1 0).toNat)) (8 * 2) (leN 8 (ain.getD 2 0).toNat)) (8 * 3) (leN 8 (ain.getD 3 0).toNat)) 1, wordB (ovr (ovr (ovr (ovr (List.replicate 128 (0 : UInt8)) (8 * 0) (leN 8 (ain.getD 0 0).toNat)) (8 * 1) (leN 8 (ain.getD 1 0).toNat)) (8 * 2) (leN 8 (ain.getD 2 0).toNat)) (8 * 3) (leN 8 (ain.getD 3 0).toNat)) 2, wordB (ovr (ovr (ovr (ovr (List.replicate 128 (0 : UInt8)) (8 * 0) (leN 8 (ain.getD 0 0).toNat)) (8 * 1) (leN 8 (ain.getD 1 0).toNat)) (8 * 2) (leN 8 (ain.getD 2 0).toNat)) (8 * 3) (leN 8 (ain.getD 3 0).toNat)) 3] : List UInt64).map vu64)] [(4, (List.replicate 4 (0 : UInt64)).map vu64)] [] (ys := (List.replicate 4 (0 : UInt64)).map vu64) h_70 rfl rfl Try.sizeOf31 At.h (by decide) rfl rfl rfl rfl rfl rfl (SsOk.cons (SOk.u64 (List.length_replicate ..)) SsOk.nil) (fun w_71 h_72 => ?_)
      refine WL.q (Wn.no rfl) rfl rfl (R.assign (v := (vi 4)) rfl) ?_
      refine WL.nil ?_
      refine thn_n ?_
      refine WP.reg ?_
      refine WL.q (Wn.no rfl) rfl rfl (R.assign (v := (.bool true)) rfl) ?_
      refine WL.nil ?_
      refine thn_n ?_
      refine WP.seq ?_
      refine WP.reg ?_
      refine WL.q (Wn.no rfl) rfl rfl (R.assign (v := (vi 32)) rfl) ?_
      refine WL.nil ?_
      refine thn_n ?_
      refine WP.block ?_
      refine WP.loopG (G := Nat) [11, 12, 51, 52, 53, 54, 55, 56, 57, 58, 59, 60, 61] (fun k => [(11, (.bool (fineK gb k))), (12, (vi ((k : Nat) : Int)))]) (fun k m w1 => HP w w1 [.blk b_38 .nw 31 [(4, (List.replicate 4 (0 : UInt64)).map vu64)], .blk b_10 .nw 53 [(128, (ovr (ovr (ovr (ovr (List.replicate 128 (0 : UInt8)) (8 * 0) (leN 8 (ain.getD 0 0).toNat)) (8 * 1) (leN 8 (ain.getD 1 0).toNat)) (8 * 2) (leN 8 (ain.getD 2 0).toNat)) (8 * 3) (leN 8 (ain.getD 3 0).toNat)).map vu8)], .blk b_7 .nw 53 [(128, gb.map vu8)], .blk b_4 .nw 40 [(1, [(vi rs)]), (4, ors.map vu64), (1, [(vu64 adr)]), (1, [(.bool wr)]), (1, [(vi ran)])], .blk b_1 .nw 31 [(4, ain.map vu64)]] ∧ (32 ≤ k ∧ k ≤ 128) ∧ m = 128 - k) ⟨32, _, ⟨rfl, rfl, trivial⟩, h_72, (by omega), rfl⟩ ?_
      rintro k m_75 J_76 w_73 ⟨h_74, hk, rfl⟩
      refine WP.seq ?_
      refine WP.seq ?_
      refine WP.reg ?_
      refine WL.q (Wn.no rfl) rfl rfl (R.move (v := (vi ((k : Nat) : Int))) rfl) ?_
      refine WL.q (Wn.no rfl) rfl rfl (R.bin (v := (.bool (decide ((((k : Nat) : Int) : Int) < 128)))) rfl rfl (bi_lss (r := decide ((((k : Nat) : Int) : Int) < 128)) rfl)) ?_
      refine WL.nil ?_
      refine thn_n ?_
      refine WP.cond (b := decide ((((k : Nat) : Int) : Int) < 128)) rfl (fun c_77 => ?_) (fun c_77 => ?_)
      · have p_78 := of_decide_eq_true c_77
        refine WP.skip ?_
        refine thn_n ?_
        refine WP.seq ?_
        refine WP.block ?_
        refine WP.reg ?_
        refine WL.q (Wn.no rfl) rfl rfl (R.move (v := (.bool (fineK gb k))) rfl) ?_
        refine WL.q (Wn.no rfl) rfl rfl (R.move (v := (.bool (fineK gb k))) rfl) ?_
        rcases Bool.eq_false_or_eq_true (fineK gb k) with c_79 | c_79
        · refine WL.want rfl (congrArg Value.bool c_79) ?_
          refine WL.q (Wn.no rfl) rfl rfl (R.move (v := (vi ((k : Nat) : Int))) rfl) ?_
          refine WL.want rfl (congrArg Value.bool c_79) ?_
          refine WL.q (Wn.no rfl) rfl rfl (R.indexA (b := b_7) (off := 0) (off' := (0 + k)) (i := k) rfl rfl rfl (by omega) Try.underlying53 Try.sizeOf5 (by rw [Nat.mul_one])) ?_
          refine WL.want rfl (congrArg Value.bool c_79) ?_
          refine WL.q (Wn.no rfl) rfl rfl (R.loadE (b := b_7) (off := (0 + k)) (i := k) (v := (vu8 (gb.getD k 0))) rfl Try.isAgg5 (h_74.ok _ (.tail _ (.tail _ (.head _)))) Sg.h rfl (get_u8 (lt_len (K := 128) hgb (by omega)))) ?_
          refine WL.want rfl (congrArg Value.bool c_79) ?_
          refine WL.q (Wn.no rfl) rfl rfl (R.bin (v := (.bool (decide ((gb.getD k 0 : UInt8) = 0)))) rfl rfl (b8_eql (gb.getD k 0) 0 (r := decide ((gb.getD k 0 : UInt8) = 0)) rfl)) ?_
          refine WL.q (Wn.no rfl) rfl rfl (R.pickT (v := (.bool (decide ((gb.getD k 0 : UInt8) = 0)))) (congrArg Value.bool c_79) rfl) ?_
          refine WL.q (Wn.no rfl) rfl rfl (R.assign (v := (.bool (decide ((gb.getD k 0 : UInt8) = 0)))) rfl) ?_
          refine WL.nil ?_
          refine inb_n ?_
          refine thn_n ?_
          refine WP.reg ?_
          refine WL.q (Wn.no rfl) rfl rfl (R.move (v := (vi ((k : Nat) : Int))) rfl) ?_
          refine WL.q (Wn.no rfl) rfl rfl (R.bin (v := (vi ((k + 1 : Nat) : Int))) rfl rfl (bi_add (c := ((k + 1 : Nat) : Int)) (by omega) (by omega))) ?_
          refine WL.q (Wn.no rfl) rfl rfl (R.assign (v := (vi ((k + 1 : Nat) : Int))) rfl) ?_
          refine WL.nil ?_
          refine thn_n ?_
          exact ⟨k + 1, _, (by omega), (Ag.upd rfl (Ag.upd rfl (Ag.upd rfl (Ag.upd rfl (Ag.upd rfl (Ag.upd rfl (Ag.upd rfl (Ag.upd rfl (Ag.upd rfl (Ag.upd rfl (Ag.upd rfl (Ag.upd rfl (Ag.upd rfl (Ag.updL rfl (Ag.mix _ _ _))))))))))))))), ⟨congrArg Value.bool (by rw [fineK_succ (by omega), c_79, Bool.true_and]), rfl, trivial⟩, h_74, (by omega), rfl⟩
        · refine WL.skip rfl (congrArg Value.bool c_79) rfl ?_
          refine WL.skip rfl (congrArg Value.bool c_79) rfl ?_
          refine WL.skip rfl (congrArg Value.bool c_79) rfl ?_
          refine WL.skip rfl (congrArg Value.bool c_79) rfl ?_
          refine WL.q (Wn.no rfl) rfl rfl (R.pickF (v := (.bool false)) (congrArg Value.bool c_79) rfl) ?_
          refine WL.q (Wn.no rfl) rfl rfl (R.assign (v := (.bool false)) rfl) ?_
          refine WL.nil ?_
          refine inb_n ?_
          refine thn_n ?_
          refine WP.reg ?_
          refine WL.q (Wn.no rfl) rfl rfl (R.move (v := (vi ((k : Nat) : Int))) rfl) ?_
          refine WL.q (Wn.no rfl) rfl rfl (R.bin (v := (vi ((k + 1 : Nat) : Int))) rfl rfl (bi_add (c := ((k + 1 : Nat) : Int)) (by omega) (by omega))) ?_
          refine WL.q (Wn.no rfl) rfl rfl (R.assign (v := (vi ((k + 1 : Nat) : Int))) rfl) ?_
          refine WL.nil ?_
          refine thn_n ?_
          exact ⟨k + 1, _, (by omega), (Ag.upd rfl (Ag.upd rfl (Ag.upd rfl (Ag.upd rfl (Ag.upd rfl (Ag.upd rfl (Ag.upd rfl (Ag.upd rfl (Ag.upd rfl (Ag.upd rfl (Ag.upd rfl (Ag.upd rfl (Ag.upd rfl (Ag.updL rfl (Ag.mix _ _ _))))))))))))))), ⟨congrArg Value.bool (by rw [fineK_succ (by omega), c_79, Bool.false_and]), rfl, trivial⟩, h_74, (by omega), rfl⟩
      · have p_80 := of_decide_eq_false c_77
        have hk_81 : k = 128 := by omega
        have hf_82 : fineK gb k = false := by rw [hk_81]; exact Bool.eq_false_iff.2 (fun h => hi_43 ((in_fine hgb).2 h))
        refine WP.exit ?_
        refine thn_x ?_
        refine thn_x ?_
        refine inb_hit ?_
        refine thn_n ?_
        refine WP.seq ?_
        refine WP.drawT (SL w.heap.size [.blk b_38 .nw 31 [(4, (List.replicate 4 (0 : UInt64)).map vu64)], .blk b_10 .nw 53 [(128, (ovr (ovr (ovr (ovr (List.replicate 128 (0 : UInt8)) (8 * 0) (leN 8 (ain.getD 0 0).toNat)) (8 * 1) (leN 8 (ain.getD 1 0).toNat)) (8 * 2) (leN 8 (ain.getD 2 0).toNat)) (8 * 3) (leN 8 (ain.getD 3 0).toNat)).map vu8)], .blk b_7 .nw 53 [(128, gb.map vu8)], .blk b_4 .nw 40 [(1, [(vi rs)]), (4, ors.map vu64), (1, [(vu64 adr)]), (1, [(.bool wr)]), (1, [(vi ran)])], .blk b_1 .nw 31 [(4, ain.map vu64)]]) (.q 0 (.q 1 (.q 2 (.q 3 (.q 4 (.q 5 (.q 6 (.q 7 (.q 8 (.q 9 (.q 10 (.q 11 (.q 12 (.q 13 (.q 14 (.q 15 (.q 16 (.q 17 (.q 18 (.q 19 (.q 20 (.q 22 (.s 21 (.q 23 (.q 24 (.q 25 .nil)))))))))))))))))))))))))) (by kernel_rfl) (by kernel_rfl) rfl (by kernel_rfl) (fun w_83 hc_85 => (SL.cons ((h_74.same hc_85).ok _ (.head _)) (SL.cons ((h_74.same hc_85).ok _ (.tail _ (.head _))) (SL.cons ((h_74.same hc_85).ok _ (.tail _ (.tail _ (.head _)))) (SL.cons ((h_74.same hc_85).ok _ (.tail _ (.tail _ (.tail _ (.head _))))) (SL.cons ((h_74.same hc_85).ok _ (.tail _ (.tail _ (.tail _ (.tail _ (.head _)))))) (SL.nil _ _))))))) (fun w_83 hc_85 => ?_)
        have h_84 := h_74.same hc_85
        refine WT.q rfl (Wn.no rfl) rfl rfl (fun wq hS => R.move (v := (.bool (fineK gb k))) rfl) ?_
        refine WT.q rfl (Wn.no rfl) rfl rfl (fun wq hS => R.move (v := (vi 4)) rfl) ?_
        refine WT.q rfl (Wn.no rfl) rfl rfl (fun wq hS => R.bin (v := (.bool false)) rfl rfl (bi_eql (r := false) (by decide))) ?_
        refine WT.q rfl (Wn.no rfl) rfl rfl (fun wq hS => R.neB (a := false) (b := false) (c := false) (congrArg Value.bool hf_82) rfl Try.underlying4 rfl) ?_
        refine WT.q rfl (Wn.no rfl) rfl rfl (fun wq hS => R.move (v := (.bool false)) rfl) ?_
        refine WT.q rfl (Wn.yes rfl rfl rfl) rfl rfl (fun wq hS => R.move (v := (.bool (fineK gb k))) rfl) ?_
        refine WT.q rfl (Wn.yes rfl rfl rfl) rfl rfl (fun wq hS => R.not (b := false) (congrArg Value.bool hf_82)) ?_
        refine WT.q rfl (Wn.yes rfl rfl rfl) rfl rfl (fun wq hS => R.move (v := (.bool true)) rfl) ?_
        refine WT.q rfl (Wn.yes rfl rfl rfl) rfl rfl (fun wq hS => R.move (v := (vi 4)) rfl) ?_
        refine WT.q rfl (Wn.yes rfl rfl rfl) rfl rfl (fun wq hS => R.bin (v := (.bool false)) rfl rfl (bi_neq (r := false) (by decide))) ?_
        refine WT.q rfl (Wn.yes rfl rfl rfl) rfl rfl (fun wq hS => R.move (v := (.bool false)) rfl) ?_
        refine WT.q rfl (Wn.yes rfl rfl rfl) rfl rfl (fun wq hS => R.loadA (b := b_38) (off := 0) [] [(4, (List.replicate 4 (0 : UInt64)).map vu64)] [] (cs := (List.replicate 4 (0 : UInt64)).map vu64) rfl Try.isAgg31 Try.sizeOf31 (hS _ (.head _)) rfl rfl rfl rfl) ?_
        refine WT.q rfl (Wn.yes rfl rfl rfl) rfl rfl (fun wq hS => R.buildS (pl := [(0, 4)]) (zs := [(4, (List.replicate 4 (0 : UInt64)).map vu64)]) (vs := []) (out := [(4, (List.replicate 4 (0 : UInt64)).map vu64)]) (cs := (List.replicate 4 (0 : UInt64)).map vu64) Try.underlying31 (zv Try.typeInfo31 rfl) rfl (SsOk.cons (SOk.u64 (List.length_replicate ..)) SsOk.nil) (pl31 _ Try.underlying31) rfl FillR.nil rfl) ?_
        refine WT.q rfl (Wn.yes rfl rfl rfl) rfl rfl (fun wq hS => R.neA (xs := (List.replicate 4 (0 : UInt64)).map vu64) (ys := (List.replicate 4 (0 : UInt64)).map vu64) (r := false) rfl rfl Try.eqGuardType31 kt31 (by decide) ag31 (Typ.struct (h := 2) (r := [(4, (List.replicate 4 (0 : UInt64)).map vu64)]) (cs := (List.replicate 4 (0 : UInt64)).map vu64) Try.underlying31 (TypF.cons (k := 4) rfl rfl (by decide) (len_map (List.length_replicate ..)) (Typ.u64s Try.underlying29 ce29 Try.underlying22 ce22 (List.length_replicate ..)) TypF.nil) rfl (((SsOk.cons (SOk.u64 (List.length_replicate ..)) SsOk.nil)).len.trans ce31.symm)) (Typ.struct (h := 2) (r := [(4, (List.replicate 4 (0 : UInt64)).map vu64)]) (cs := (List.replicate 4 (0 : UInt64)).map vu64) Try.underlying31 (TypF.cons (k := 4) rfl rfl (by decide) (len_map (List.length_replicate ..)) (Typ.u64s Try.underlying29 ce29 Try.underlying22 ce22 (List.length_replicate ..)) TypF.nil) rfl (((SsOk.cons (SOk.u64 (List.length_replicate ..)) SsOk.nil)).len.trans ce31.symm)) (neT rfl)) ?_
        refine WT.q rfl (Wn.yes rfl rfl rfl) rfl rfl (fun wq hS => R.pickF (v := (.bool false)) rfl rfl) ?_
        refine WT.q rfl (Wn.yes rfl rfl rfl) rfl rfl (fun wq hS => R.pickT (v := (.bool false)) rfl rfl) ?_
        refine WT.q rfl (Wn.no rfl) rfl rfl (fun wq hS => R.pickF (v := (.bool false)) rfl rfl) ?_
        refine WT.q rfl (Wn.no rfl) rfl rfl (fun wq hS => R.move (v := (.bool false)) rfl) ?_
        refine WT.q rfl (Wn.yes rfl rfl rfl) rfl rfl (fun wq hS => R.move (v := (.bool (fineK gb k))) rfl) ?_
        refine WT.q rfl (Wn.yes rfl rfl rfl) rfl rfl (fun wq hS => R.move (v := (.bool (fineK gb k))) rfl) ?_
        refine WT.skipQ rfl rfl rfl (boolNe (v := .bool false) (congrArg Value.bool hf_82) (by decide)) rfl rfl ?_
        refine WT.skipQ rfl rfl rfl (boolNe (v := .bool false) (congrArg Value.bool hf_82) (by decide)) rfl rfl ?_
        refine WT.s ?_
        refine Op1.skip rfl rfl rfl (boolNe (v := .bool false) (congrArg Value.bool hf_82) (by decide)) rfl rfl ?_
        refine WT.skipQ rfl rfl rfl (boolNe (v := .bool false) (congrArg Value.bool hf_82) (by decide)) rfl rfl ?_
        refine WT.q rfl (Wn.yes rfl rfl rfl) rfl rfl (fun wq hS => R.pickF (v := (.bool false)) (congrArg Value.bool hf_82) rfl) ?_
        refine WT.q rfl (Wn.no rfl) rfl rfl (fun wq hS => R.pickF (v := (.bool false)) rfl rfl) ?_
        refine WT.nil ?_
        refine thn_n ?_
        refine WP.condF rfl ?_
        refine WP.skip ?_
        refine thn_n ?_
        have h_87 := h_84.up (Pick.t (Pick.t (Pick.t (Pick.t Pick.h))))
        have h_88 := h_87.up (Pick.t (Pick.t (Pick.t (Pick.t Pick.h))))
        have h_89 := h_88.up (Pick.t (Pick.t (Pick.t (Pick.t Pick.h))))
        have h_90 := h_89.up (Pick.t (Pick.t (Pick.t (Pick.t Pick.h))))
        have h_91 := (h_90.up (Pick.t (Pick.t (Pick.t (Pick.t Pick.h))))).drop rfl
        exact ⟨(), (Ag.upd rfl (Ag.upd rfl (Ag.upd rfl (Ag.upd rfl (Ag.upd rfl (Ag.upd rfl (Ag.upd rfl (Ag.upd rfl (Ag.upd rfl (Ag.upd rfl (Ag.upd rfl (Ag.upd rfl (Ag.upd rfl (Ag.upd rfl (Ag.upd rfl (Ag.upd rfl (Ag.upd rfl (Ag.upd rfl (Ag.upd rfl (Ag.upd rfl (Ag.upd rfl (Ag.upd rfl (Ag.upd rfl (Ag.upd rfl (Ag.upd rfl (Ag.upd rfl (Ag.upd rfl (Ag.upd rfl (Ag.updL rfl (Ag.trans (Ag.sub rfl (Ag.mix _ _ _)) (Ag.upd rfl (Ag.upd rfl (Ag.upd rfl (Ag.upd rfl (Ag.upd rfl (Ag.upd rfl (Ag.upd rfl (Ag.upd rfl (Ag.refl _ _))))))))))))))))))))))))))))))))))))))), ⟨rfl, rfl, (congrArg Value.bool c_77), rfl, rfl, rfl, rfl, rfl, rfl, rfl, trivial⟩, h_91⟩
  · rintro _ J_92 w_93 h_94
    refine WP.g2 (G := Nat) [6, 10, 13, 14, 15, 88, 89, 90, 91, 92, 93, 94, 95, 96, 97, 98, 99, 100, 101, 102, 103, 104, 105, 106, 107, 108, 109, 110, 111, 112, 113, 114, 115, 116, 117, 118, 119, 120, 121, 122] (fun bY19Y5Y4Y0 => [(6, (.bool false)), (89, (.agg ⟨flat [(1, [(vi rs)]), (4, ors.map vu64), (1, [(vu64 adr)]), (1, [(.bool wr)]), (1, [(vi ran)])]⟩)), (13, (.pointer (some ⟨bY19Y5Y4Y0, 0, none⟩))), (93, (.agg ⟨flat [(1, [(vi rs)]), (4, ors.map vu64), (1, [(vu64 adr)]), (1, [(.bool wr)]), (1, [(vi ran)])]⟩)), (94, (.bool (mayB rs ors adr wr ran)))]) (fun bY19Y5Y4Y0 w1 => HP w w1 [.blk b_10 .nw 53 [(128, (ovr (ovr (ovr (ovr (List.replicate 128 (0 : UInt8)) (8 * 0) (leN 8 (ain.getD 0 0).toNat)) (8 * 1) (leN 8 (ain.getD 1 0).toNat)) (8 * 2) (leN 8 (ain.getD 2 0).toNat)) (8 * 3) (leN 8 (ain.getD 3 0).toNat)).map vu8)], .blk b_7 .nw 53 [(128, gb.map vu8)], .blk b_4 .nw 40 [(1, [(vi rs)]), (4, ors.map vu64), (1, [(vu64 adr)]), (1, [(.bool wr)]), (1, [(vi ran)])], .blk b_1 .nw 31 [(4, ain.map vu64)]]) ?_ ?_
    · refine WP.reg ?_
      refine WL.q (Wn.no rfl) rfl rfl (R.loadA (b := b_4) (off := 0) [] [(1, [(vi rs)]), (4, ors.map vu64), (1, [(vu64 adr)]), (1, [(.bool wr)]), (1, [(vi ran)])] [] (cs := flat [(1, [(vi rs)]), (4, ors.map vu64), (1, [(vu64 adr)]), (1, [(.bool wr)]), (1, [(vi ran)])]) rfl Try.isAgg40 Try.sizeOf40 (h_94.ok _ (.tail _ (.tail _ (.head _)))) rfl rfl rfl rfl) ?_
      refine WL.call (al := [(.agg ⟨flat [(1, [(vi rs)]), (4, ors.map vu64), (1, [(vu64 adr)]), (1, [(.bool wr)]), (1, [(vi ran)])]⟩)]) Try.call30 rfl rfl (c_OutBytes_p rs ors hor adr wr ran _) rfl ?_
      rintro _ w_97 (⟨hm_95, rfl, hc_96⟩ | ⟨hm_95, rfl, hc_96⟩)
      · have h_98 := h_94.same hc_96
        refine WL.q (Wn.no rfl) rfl rfl (R.move (v := (.tuple [(.agg ⟨(formB rs ors adr wr ran).map vu8⟩), (vi 0)].toArray)) rfl) ?_
        refine WL.q (Wn.no rfl) rfl rfl (R.extract (l := [(.agg ⟨(formB rs ors adr wr ran).map vu8⟩), (vi 0)]) (v := (.agg ⟨(formB rs ors adr wr ran).map vu8⟩)) rfl rfl) ?_
        refine WL.q (Wn.no rfl) rfl rfl (R.extract (l := [(.agg ⟨(formB rs ors adr wr ran).map vu8⟩), (vi 0)]) (v := (vi 0)) rfl rfl) ?_
        refine WL.alloc (segs := [(128, (List.replicate 128 (0 : UInt8)).map vu8)]) h_98 (zv Try.typeInfo53 rfl) rfl (SsOk.cons (SOk.u8 (List.length_replicate ..)) SsOk.nil) rfl (fun b_99 w_100 h_101 => ?_)
        refine WL.storeA (b := b_99) (off := 0) [] [(128, (List.replicate 128 (0 : UInt8)).map vu8)] [(128, (formB rs ors adr wr ran).map vu8)] [] (ys := (formB rs ors adr wr ran).map vu8) h_101 rfl rfl Try.sizeOf53 At.h (by decide) rfl rfl rfl rfl rfl rfl (SsOk.cons (SOk.u8 (formB_len hor)) SsOk.nil) (fun w_102 h_103 => ?_)
        refine WL.q (Wn.no rfl) rfl rfl (R.assign (v := (vi 0)) rfl) ?_
        refine WL.nil ?_
        refine thn_n ?_
        refine WP.seq ?_
        refine WP.reg ?_
        refine WL.q (Wn.no rfl) rfl rfl (R.loadA (b := b_4) (off := 0) [] [(1, [(vi rs)]), (4, ors.map vu64), (1, [(vu64 adr)]), (1, [(.bool wr)]), (1, [(vi ran)])] [] (cs := flat [(1, [(vi rs)]), (4, ors.map vu64), (1, [(vu64 adr)]), (1, [(.bool wr)]), (1, [(vi ran)])]) rfl Try.isAgg40 Try.sizeOf40 (h_103.ok _ (.tail _ (.tail _ (.tail _ (.head _))))) rfl rfl rfl rfl) ?_
        refine WL.call (al := [(.agg ⟨flat [(1, [(vi rs)]), (4, ors.map vu64), (1, [(vu64 adr)]), (1, [(.bool wr)]), (1, [(vi ran)])]⟩)]) Try.call29 rfl rfl (c_may14 rs ors hor adr wr ran _ ) rfl ?_
        rintro _ w_105 ⟨rfl, hc_104⟩
        have h_106 := h_103.same hc_104
        refine WL.q (Wn.no rfl) rfl rfl (R.not (b := true) (congrArg Value.bool hm_95)) ?_
        refine WL.nil ?_
        refine thn_n ?_
        refine WP.condF rfl ?_
        refine WP.seq ?_
        refine WP.seq ?_
        refine WP.drawT (SL w.heap.size [.blk b_99 .nw 53 [(128, (formB rs ors adr wr ran).map vu8)], .blk b_10 .nw 53 [(128, (ovr (ovr (ovr (ovr (List.replicate 128 (0 : UInt8)) (8 * 0) (leN 8 (ain.getD 0 0).toNat)) (8 * 1) (leN 8 (ain.getD 1 0).toNat)) (8 * 2) (leN 8 (ain.getD 2 0).toNat)) (8 * 3) (leN 8 (ain.getD 3 0).toNat)).map vu8)], .blk b_7 .nw 53 [(128, gb.map vu8)], .blk b_4 .nw 40 [(1, [(vi rs)]), (4, ors.map vu64), (1, [(vu64 adr)]), (1, [(.bool wr)]), (1, [(vi ran)])], .blk b_1 .nw 31 [(4, ain.map vu64)]]) (.q 0 (.q 1 (.q 2 (.q 3 (.q 4 (.s 5 (.q 6 (.q 7 .nil)))))))) (by kernel_rfl) (by kernel_rfl) rfl (by kernel_rfl) (fun w_107 hc_109 => (SL.cons ((h_106.same hc_109).ok _ (.head _)) (SL.cons ((h_106.same hc_109).ok _ (.tail _ (.head _))) (SL.cons ((h_106.same hc_109).ok _ (.tail _ (.tail _ (.head _)))) (SL.cons ((h_106.same hc_109).ok _ (.tail _ (.tail _ (.tail _ (.head _))))) (SL.cons ((h_106.same hc_109).ok _ (.tail _ (.tail _ (.tail _ (.tail _ (.head _)))))) (SL.nil _ _))))))) (fun w_107 hc_109 => ?_)
        have h_108 := h_106.same hc_109
        refine WT.q rfl (Wn.no rfl) rfl rfl (fun wq hS => R.move (v := (vi 0)) rfl) ?_
        refine WT.q rfl (Wn.no rfl) rfl rfl (fun wq hS => R.bin (v := (.bool false)) rfl rfl (bi_neq (r := false) (by decide))) ?_
        refine WT.q rfl (Wn.no rfl) rfl rfl (fun wq hS => R.move (v := (.bool false)) rfl) ?_
        refine WT.q rfl (Wn.yes rfl rfl rfl) rfl rfl (fun wq hS => R.loadA (b := b_99) (off := 0) [] [(128, (formB rs ors adr wr ran).map vu8)] [] (cs := (formB rs ors adr wr ran).map vu8) rfl Try.isAgg53 Try.sizeOf53 (hS _ (.head _)) rfl rfl rfl rfl) ?_
        refine WT.q rfl (Wn.yes rfl rfl rfl) rfl rfl (fun wq hS => R.loadA (b := b_4) (off := 0) [] [(1, [(vi rs)]), (4, ors.map vu64), (1, [(vu64 adr)]), (1, [(.bool wr)]), (1, [(vi ran)])] [] (cs := flat [(1, [(vi rs)]), (4, ors.map vu64), (1, [(vu64 adr)]), (1, [(.bool wr)]), (1, [(vi ran)])]) rfl Try.isAgg40 Try.sizeOf40 (hS _ (.tail _ (.tail _ (.tail _ (.head _))))) rfl rfl rfl rfl) ?_
        refine WT.s ?_
        refine Op1.one rfl (Wn.yes rfl rfl rfl) ?_
        refine WL.call (al := [(.agg ⟨flat [(1, [(vi rs)]), (4, ors.map vu64), (1, [(vu64 adr)]), (1, [(.bool wr)]), (1, [(vi ran)])]⟩)]) Try.call40 rfl rfl (c_out14 rs ors hor adr wr ran _ ) rfl ?_
        rintro _ w_111 ⟨rfl, hc_110⟩
        have h_112 := h_108.same hc_110
        refine WL.nil ?_
        refine ⟨(SL.cons (h_112.ok _ (.head _)) (SL.cons (h_112.ok _ (.tail _ (.head _))) (SL.cons (h_112.ok _ (.tail _ (.tail _ (.head _)))) (SL.cons (h_112.ok _ (.tail _ (.tail _ (.tail _ (.head _))))) (SL.cons (h_112.ok _ (.tail _ (.tail _ (.tail _ (.tail _ (.head _)))))) (SL.nil _ _)))))), ?_⟩
        refine WT.q rfl (Wn.yes rfl rfl rfl) rfl rfl (fun wq hS => R.neA (xs := (formB rs ors adr wr ran).map vu8) (ys := (formB rs ors adr wr ran).map vu8) (r := false) rfl rfl Try.eqGuardType53 kt53 (by decide) ag53 (Typ.u8s Try.underlying53 ce53 Try.underlying5 ce5 (formB_len hor)) (Typ.u8s Try.underlying53 ce53 Try.underlying5 ce5 (formB_len hor)) (neT rfl)) ?_
        refine WT.q rfl (Wn.no rfl) rfl rfl (fun wq hS => R.pickF (v := (.bool false)) rfl rfl) ?_
        refine WT.nil ?_
        refine thn_n ?_
        refine WP.condF rfl ?_
        refine WP.skip ?_
        refine thn_n ?_
        refine WP.seq ?_
        refine WP.reg ?_
        refine WL.q (Wn.no rfl) rfl rfl (R.loadA (b := b_99) (off := 0) [] [(128, (formB rs ors adr wr ran).map vu8)] [] (cs := (formB rs ors adr wr ran).map vu8) rfl Try.isAgg53 Try.sizeOf53 (h_112.ok _ (.head _)) rfl rfl rfl rfl) ?_
        refine WL.call (al := [(.agg ⟨(formB rs ors adr wr ran).map vu8⟩)]) Try.call41 rfl rfl (c_OutOf_y (formB rs ors adr wr ran) (formB_len hor) (okOut_form hor hm_95) _ ) rfl ?_
        rintro _ w_114 ⟨rfl, hc_113⟩
        have h_115 := h_112.same hc_113
        refine WL.q (Wn.no rfl) rfl rfl (R.move (v := (.tuple [(.agg ⟨flat [(1, [(vi (u2i (wordB (formB rs ors adr wr ran) 0)))]), (4, ([wordB (formB rs ors adr wr ran) 1, wordB (formB rs ors adr wr ran) 2, wordB (formB rs ors adr wr ran) 3, wordB (formB rs ors adr wr ran) 4] : List UInt64).map vu64), (1, [(vu64 (wordB (formB rs ors adr wr ran) 5))]), (1, [(.bool (decide ((wordB (formB rs ors adr wr ran) 6 : UInt64) = 1)))]), (1, [(vi (u2i (wordB (formB rs ors adr wr ran) 7)))])]⟩), (vi 0)].toArray)) rfl) ?_
        refine WL.q (Wn.no rfl) rfl rfl (R.extract (l := [(.agg ⟨flat [(1, [(vi (u2i (wordB (formB rs ors adr wr ran) 0)))]), (4, ([wordB (formB rs ors adr wr ran) 1, wordB (formB rs ors adr wr ran) 2, wordB (formB rs ors adr wr ran) 3, wordB (formB rs ors adr wr ran) 4] : List UInt64).map vu64), (1, [(vu64 (wordB (formB rs ors adr wr ran) 5))]), (1, [(.bool (decide ((wordB (formB rs ors adr wr ran) 6 : UInt64) = 1)))]), (1, [(vi (u2i (wordB (formB rs ors adr wr ran) 7)))])]⟩), (vi 0)]) (v := (.agg ⟨flat [(1, [(vi (u2i (wordB (formB rs ors adr wr ran) 0)))]), (4, ([wordB (formB rs ors adr wr ran) 1, wordB (formB rs ors adr wr ran) 2, wordB (formB rs ors adr wr ran) 3, wordB (formB rs ors adr wr ran) 4] : List UInt64).map vu64), (1, [(vu64 (wordB (formB rs ors adr wr ran) 5))]), (1, [(.bool (decide ((wordB (formB rs ors adr wr ran) 6 : UInt64) = 1)))]), (1, [(vi (u2i (wordB (formB rs ors adr wr ran) 7)))])]⟩)) rfl rfl) ?_
        refine WL.q (Wn.no rfl) rfl rfl (R.extract (l := [(.agg ⟨flat [(1, [(vi (u2i (wordB (formB rs ors adr wr ran) 0)))]), (4, ([wordB (formB rs ors adr wr ran) 1, wordB (formB rs ors adr wr ran) 2, wordB (formB rs ors adr wr ran) 3, wordB (formB rs ors adr wr ran) 4] : List UInt64).map vu64), (1, [(vu64 (wordB (formB rs ors adr wr ran) 5))]), (1, [(.bool (decide ((wordB (formB rs ors adr wr ran) 6 : UInt64) = 1)))]), (1, [(vi (u2i (wordB (formB rs ors adr wr ran) 7)))])]⟩), (vi 0)]) (v := (vi 0)) rfl rfl) ?_
        refine WL.alloc (segs := [(1, [(vi 0)]), (4, (List.replicate 4 (0 : UInt64)).map vu64), (1, [(vu64 0)]), (1, [(.bool false)]), (1, [(vi 0)])]) h_115 (zv Try.typeInfo40 rfl) rfl (SsOk.cons (SOk.v rfl) (SsOk.cons (SOk.u64 (List.length_replicate ..)) (SsOk.cons (SOk.v rfl) (SsOk.cons (SOk.v rfl) (SsOk.cons (SOk.v rfl) SsOk.nil))))) rfl (fun b_116 w_117 h_118 => ?_)
        refine WL.storeA (b := b_116) (off := 0) [] [(1, [(vi 0)]), (4, (List.replicate 4 (0 : UInt64)).map vu64), (1, [(vu64 0)]), (1, [(.bool false)]), (1, [(vi 0)])] [(1, [(vi (u2i (wordB (formB rs ors adr wr ran) 0)))]), (4, ([wordB (formB rs ors adr wr ran) 1, wordB (formB rs ors adr wr ran) 2, wordB (formB rs ors adr wr ran) 3, wordB (formB rs ors adr wr ran) 4] : List UInt64).map vu64), (1, [(vu64 (wordB (formB rs ors adr wr ran) 5))]), (1, [(.bool (decide ((wordB (formB rs ors adr wr ran) 6 : UInt64) = 1)))]), (1, [(vi (u2i (wordB (formB rs ors adr wr ran) 7)))])] [] (ys := flat [(1, [(vi (u2i (wordB (formB rs ors adr wr ran) 0)))]), (4, ([wordB (formB rs ors adr wr ran) 1, wordB (formB rs ors adr wr ran) 2, wordB (formB rs ors adr wr ran) 3, wordB (formB rs ors adr wr ran) 4] : List UInt64).map vu64), (1, [(vu64 (wordB (formB rs ors adr wr ran) 5))]), (1, [(.bool (decide ((wordB (formB rs ors adr wr ran) 6 : UInt64) = 1)))]), (1, [(vi (u2i (wordB (formB rs ors adr wr ran) 7)))])]) h_118 rfl rfl Try.sizeOf40 At.h (by decide) rfl rfl rfl rfl rfl rfl (SsOk.cons (SOk.v rfl) (SsOk.cons (SOk.u64 (rfl : List.length ([wordB (formB rs ors adr wr ran) 1, wordB (formB rs ors adr wr ran) 2, wordB (formB rs ors adr wr ran) 3, wordB (formB rs ors adr wr ran) 4] : List UInt64) = 4)) (SsOk.cons (SOk.v rfl) (SsOk.cons (SOk.v rfl) (SsOk.cons (SOk.v rfl) SsOk.nil))))) (fun w_119 h_120 => ?_)
        refine WL.q (Wn.no rfl) rfl rfl (R.assign (v := (vi 0)) rfl) ?_
        refine WL.nil ?_
        refine thn_n ?_
        refine WP.seq ?_
        refine WP.reg ?_
        refine WL.q (Wn.no rfl) rfl rfl (R.move (v := (vi 0)) rfl) ?_
        refine WL.q (Wn.no rfl) rfl rfl (R.bin (v := (.bool false)) rfl rfl (bi_neq (r := false) (by decide))) ?_
        refine WL.q (Wn.no rfl) rfl rfl (R.move (v := (.bool false)) rfl) ?_
        refine WL.want rfl rfl ?_
        refine WL.q (Wn.no rfl) rfl rfl (R.loadA (b := b_116) (off := 0) [] [(1, [(vi (u2i (wordB (formB rs ors adr wr ran) 0)))]), (4, ([wordB (formB rs ors adr wr ran) 1, wordB (formB rs ors adr wr ran) 2, wordB (formB rs ors adr wr ran) 3, wordB (formB rs ors adr wr ran) 4] : List UInt64).map vu64), (1, [(vu64 (wordB (formB rs ors adr wr ran) 5))]), (1, [(.bool (decide ((wordB (formB rs ors adr wr ran) 6 : UInt64) = 1)))]), (1, [(vi (u2i (wordB (formB rs ors adr wr ran) 7)))])] [] (cs := flat [(1, [(vi (u2i (wordB (formB rs ors adr wr ran) 0)))]), (4, ([wordB (formB rs ors adr wr ran) 1, wordB (formB rs ors adr wr ran) 2, wordB (formB rs ors adr wr ran) 3, wordB (formB rs ors adr wr ran) 4] : List UInt64).map vu64), (1, [(vu64 (wordB (formB rs ors adr wr ran) 5))]), (1, [(.bool (decide ((wordB (formB rs ors adr wr ran) 6 : UInt64) = 1)))]), (1, [(vi (u2i (wordB (formB rs ors adr wr ran) 7)))])]) rfl Try.isAgg40 Try.sizeOf40 (h_120.ok _ (.head _)) rfl rfl rfl rfl) ?_
        refine WL.want rfl rfl ?_
        refine WL.q (Wn.no rfl) rfl rfl (R.loadA (b := b_4) (off := 0) [] [(1, [(vi rs)]), (4, ors.map vu64), (1, [(vu64 adr)]), (1, [(.bool wr)]), (1, [(vi ran)])] [] (cs := flat [(1, [(vi rs)]), (4, ors.map vu64), (1, [(vu64 adr)]), (1, [(.bool wr)]), (1, [(vi ran)])]) rfl Try.isAgg40 Try.sizeOf40 (h_120.ok _ (.tail _ (.tail _ (.tail _ (.tail _ (.head _)))))) rfl rfl rfl rfl) ?_
        refine WL.want rfl rfl ?_
        refine WL.q (Wn.no rfl) rfl rfl (R.neA (xs := flat [(1, [(vi (u2i (wordB (formB rs ors adr wr ran) 0)))]), (4, ([wordB (formB rs ors adr wr ran) 1, wordB (formB rs ors adr wr ran) 2, wordB (formB rs ors adr wr ran) 3, wordB (formB rs ors adr wr ran) 4] : List UInt64).map vu64), (1, [(vu64 (wordB (formB rs ors adr wr ran) 5))]), (1, [(.bool (decide ((wordB (formB rs ors adr wr ran) 6 : UInt64) = 1)))]), (1, [(vi (u2i (wordB (formB rs ors adr wr ran) 7)))])]) (ys := flat [(1, [(vi rs)]), (4, ors.map vu64), (1, [(vu64 adr)]), (1, [(.bool wr)]), (1, [(vi ran)])]) (r := false) rfl rfl Try.eqGuardType40 kt40 (by decide) ag40 (Typ.struct (h := 2) (r := [(1, [(vi (u2i (wordB (formB rs ors adr wr ran) 0)))]), (4, ([wordB (formB rs ors adr wr ran) 1, wordB (formB rs ors adr wr ran) 2, wordB (formB rs ors adr wr ran) 3, wordB (formB rs ors adr wr ran) 4] : List UInt64).map vu64), (1, [(vu64 (wordB (formB rs ors adr wr ran) 5))]), (1, [(.bool (decide ((wordB (formB rs ors adr wr ran) 6 : UInt64) = 1)))]), (1, [(vi (u2i (wordB (formB rs ors adr wr ran) 7)))])]) (cs := flat [(1, [(vi (u2i (wordB (formB rs ors adr wr ran) 0)))]), (4, ([wordB (formB rs ors adr wr ran) 1, wordB (formB rs ors adr wr ran) 2, wordB (formB rs ors adr wr ran) 3, wordB (formB rs ors adr wr ran) 4] : List UInt64).map vu64), (1, [(vu64 (wordB (formB rs ors adr wr ran) 5))]), (1, [(.bool (decide ((wordB (formB rs ors adr wr ran) 6 : UInt64) = 1)))]), (1, [(vi (u2i (wordB (formB rs ors adr wr ran) 7)))])]) Try.underlying40 (TypF.cons (k := 1) rfl rfl (by decide) rfl (Typ.int Try.underlying38 ce38 (WalkArith.wf_i64 (by have := u2i_bd (wordB (formB rs ors adr wr ran) 0); omega))) (TypF.cons (k := 4) rfl rfl (by decide) (len_map (rfl : List.length ([wordB (formB rs ors adr wr ran) 1, wordB (formB rs ors adr wr ran) 2, wordB (formB rs ors adr wr ran) 3, wordB (formB rs ors adr wr ran) 4] : List UInt64) = 4)) (Typ.u64s Try.underlying29 ce29 Try.underlying22 ce22 (rfl : List.length ([wordB (formB rs ors adr wr ran) 1, wordB (formB rs ors adr wr ran) 2, wordB (formB rs ors adr wr ran) 3, wordB (formB rs ors adr wr ran) 4] : List UInt64) = 4)) (TypF.cons (k := 1) rfl rfl (by decide) rfl (Typ.int Try.underlying22 ce22 (wfu64 (wordB (formB rs ors adr wr ran) 5))) (TypF.cons (k := 1) rfl rfl (by decide) rfl (Typ.bool Try.underlying4 ce4) (TypF.cons (k := 1) rfl rfl (by decide) rfl (Typ.int Try.underlying3 ce3 (WalkArith.wf_i64 (by have := u2i_bd (wordB (formB rs ors adr wr ran) 7); omega))) TypF.nil))))) rfl (((SsOk.cons (SOk.v rfl) (SsOk.cons (SOk.u64 (rfl : List.length ([wordB (formB rs ors adr wr ran) 1, wordB (formB rs ors adr wr ran) 2, wordB (formB rs ors adr wr ran) 3, wordB (formB rs ors adr wr ran) 4] : List UInt64) = 4)) (SsOk.cons (SOk.v rfl) (SsOk.cons (SOk.v rfl) (SsOk.cons (SOk.v rfl) SsOk.nil)))))).len.trans ce40.symm)) (Typ.struct (h := 2) (r := [(1, [(vi rs)]), (4, ors.map vu64), (1, [(vu64 adr)]), (1, [(.bool wr)]), (1, [(vi ran)])]) (cs := flat [(1, [(vi rs)]), (4, ors.map vu64), (1, [(vu64 adr)]), (1, [(.bool wr)]), (1, [(vi ran)])]) Try.underlying40 (TypF.cons (k := 1) rfl rfl (by decide) rfl (Typ.int Try.underlying38 ce38 (WalkArith.wf_i64 (by omega))) (TypF.cons (k := 4) rfl rfl (by decide) (len_map hor) (Typ.u64s Try.underlying29 ce29 Try.underlying22 ce22 hor) (TypF.cons (k := 1) rfl rfl (by decide) rfl (Typ.int Try.underlying22 ce22 (wfu64 adr)) (TypF.cons (k := 1) rfl rfl (by decide) rfl (Typ.bool Try.underlying4 ce4) (TypF.cons (k := 1) rfl rfl (by decide) rfl (Typ.int Try.underlying3 ce3 (WalkArith.wf_i64 (by omega))) TypF.nil))))) rfl (((SsOk.cons (SOk.v rfl) (SsOk.cons (SOk.u64 hor) (SsOk.cons (SOk.v rfl) (SsOk.cons (SOk.v rfl) (SsOk.cons (SOk.v rfl) SsOk.nil)))))).len.trans ce40.symm)) (neT (by obtain ⟨e1, e2, e3, e4, e5⟩ := form_back (adr := adr) (wr := wr) hor b_rs b_ran; rw [e1, e2, e3, e4, e5]))) ?_
        refine WL.q (Wn.no rfl) rfl rfl (R.pickF (v := (.bool false)) rfl rfl) ?_
        refine WL.nil ?_
        refine thn_n ?_
        refine WP.condF rfl ?_
        refine WP.skip ?_
        refine thn_n ?_
        have h_121 := h_120.up (Pick.t (Pick.t (Pick.t (Pick.t (Pick.t Pick.h)))))
        have h_122 := h_121.up (Pick.t (Pick.t (Pick.t (Pick.t (Pick.t Pick.h)))))
        have h_123 := h_122.up (Pick.t (Pick.t (Pick.t (Pick.t (Pick.t Pick.h)))))
        have h_124 := h_123.up (Pick.t (Pick.t (Pick.t (Pick.t (Pick.t Pick.h)))))
        have h_125 := (h_124.up (Pick.t (Pick.t (Pick.t (Pick.t (Pick.t Pick.h)))))).drop rfl
        have h_126 := (h_125.up (Pick.t (Pick.t (Pick.t (Pick.t Pick.h))))).drop rfl
        exact ⟨b_99, (Ag.upd rfl (Ag.upd rfl (Ag.upd rfl (Ag.upd rfl (Ag.upd rfl (Ag.upd rfl (Ag.upd rfl (Ag.upd rfl (Ag.upd rfl (Ag.upd rfl (Ag.upd rfl (Ag.upd rfl (Ag.upd rfl (Ag.upd rfl (Ag.upd rfl (Ag.upd rfl (Ag.upd rfl (Ag.upd rfl (Ag.upd rfl (Ag.upd rfl (Ag.upd rfl (Ag.upd rfl (Ag.upd rfl (Ag.upd rfl (Ag.upd rfl (Ag.upd rfl (Ag.upd rfl (Ag.upd rfl (Ag.upd rfl (Ag.upd rfl (Ag.upd rfl (Ag.upd rfl (Ag.refl _ _))))))))))))))))))))))))))))))))), ⟨rfl, rfl, rfl, rfl, rfl, trivial⟩, h_126⟩
      · have h_127 := h_94.same hc_96
        refine WL.q (Wn.no rfl) rfl rfl (R.move (v := (.tuple [(.agg ⟨(List.replicate 128 (0 : UInt8)).map vu8⟩), (vi 2)].toArray)) rfl) ?_
        refine WL.q (Wn.no rfl) rfl rfl (R.extract (l := [(.agg ⟨(List.replicate 128 (0 : UInt8)).map vu8⟩), (vi 2)]) (v := (.agg ⟨(List.replicate 128 (0 : UInt8)).map vu8⟩)) rfl rfl) ?_
        refine WL.q (Wn.no rfl) rfl rfl (R.extract (l := [(.agg ⟨(List.replicate 128 (0 : UInt8)).map vu8⟩), (vi 2)]) (v := (vi 2)) rfl rfl) ?_
        refine WL.alloc (segs := [(128, (List.replicate 128 (0 : UInt8)).map vu8)]) h_127 (zv Try.typeInfo53 rfl) rfl (SsOk.cons (SOk.u8 (List.length_replicate ..)) SsOk.nil) rfl (fun b_128 w_129 h_130 => ?_)
        refine WL.storeA (b := b_128) (off := 0) [] [(128, (List.replicate 128 (0 : UInt8)).map vu8)] [(128, (List.replicate 128 (0 : UInt8)).map vu8)] [] (ys := (List.replicate 128 (0 : UInt8)).map vu8) h_130 rfl rfl Try.sizeOf53 At.h (by decide) rfl rfl rfl rfl rfl rfl (SsOk.cons (SOk.u8 (List.length_replicate ..)) SsOk.nil) (fun w_131 h_132 => ?_)
        refine WL.q (Wn.no rfl) rfl rfl (R.assign (v := (vi 2)) rfl) ?_
        refine WL.nil ?_
        refine thn_n ?_
        refine WP.seq ?_
        refine WP.reg ?_
        refine WL.q (Wn.no rfl) rfl rfl (R.loadA (b := b_4) (off := 0) [] [(1, [(vi rs)]), (4, ors.map vu64), (1, [(vu64 adr)]), (1, [(.bool wr)]), (1, [(vi ran)])] [] (cs := flat [(1, [(vi rs)]), (4, ors.map vu64), (1, [(vu64 adr)]), (1, [(.bool wr)]), (1, [(vi ran)])]) rfl Try.isAgg40 Try.sizeOf40 (h_132.ok _ (.tail _ (.tail _ (.tail _ (.head _))))) rfl rfl rfl rfl) ?_
        refine WL.call (al := [(.agg ⟨flat [(1, [(vi rs)]), (4, ors.map vu64), (1, [(vu64 adr)]), (1, [(.bool wr)]), (1, [(vi ran)])]⟩)]) Try.call29 rfl rfl (c_may14 rs ors hor adr wr ran _ ) rfl ?_
        rintro _ w_134 ⟨rfl, hc_133⟩
        have h_135 := h_132.same hc_133
        refine WL.q (Wn.no rfl) rfl rfl (R.not (b := false) (congrArg Value.bool hm_95)) ?_
        refine WL.nil ?_
        refine thn_n ?_
        refine WP.condT rfl ?_
        refine WP.seq ?_
        refine WP.reg ?_
        refine WL.q (Wn.no rfl) rfl rfl (R.move (v := (vi 2)) rfl) ?_
        refine WL.q (Wn.no rfl) rfl rfl (R.bin (v := (.bool false)) rfl rfl (bi_neq (r := false) (by decide))) ?_
        refine WL.q (Wn.no rfl) rfl rfl (R.move (v := (.bool false)) rfl) ?_
        refine WL.want rfl rfl ?_
        refine WL.q (Wn.no rfl) rfl rfl (R.loadA (b := b_128) (off := 0) [] [(128, (List.replicate 128 (0 : UInt8)).map vu8)] [] (cs := (List.replicate 128 (0 : UInt8)).map vu8) rfl Try.isAgg53 Try.sizeOf53 (h_135.ok _ (.head _)) rfl rfl rfl rfl) ?_
        refine WL.want rfl rfl ?_
        refine WL.q (Wn.no rfl) rfl rfl (R.buildA (vs := []) (cs := (List.replicate 128 (0 : UInt8)).map vu8) Try.underlying53 Try.sizeOf5 (zv Try.typeInfo53 rfl) rfl rfl) ?_
        refine WL.want rfl rfl ?_
        refine WL.q (Wn.no rfl) rfl rfl (R.neA (xs := (List.replicate 128 (0 : UInt8)).map vu8) (ys := (List.replicate 128 (0 : UInt8)).map vu8) (r := false) rfl rfl Try.eqGuardType53 kt53 (by decide) ag53 (Typ.u8s Try.underlying53 ce53 Try.underlying5 ce5 (List.length_replicate ..)) (Typ.u8s Try.underlying53 ce53 Try.underlying5 ce5 (List.length_replicate ..)) (neT rfl)) ?_
        refine WL.q (Wn.no rfl) rfl rfl (R.pickF (v := (.bool false)) rfl rfl) ?_
        refine WL.nil ?_
        refine thn_n ?_
        refine WP.condF rfl ?_
        refine WP.skip ?_
        refine thn_n ?_
        have h_136 := h_135.up (Pick.t (Pick.t (Pick.t (Pick.t Pick.h))))
        have h_137 := h_136.up (Pick.t (Pick.t (Pick.t (Pick.t Pick.h))))
        have h_138 := h_137.up (Pick.t (Pick.t (Pick.t (Pick.t Pick.h))))
        have h_139 := h_138.up (Pick.t (Pick.t (Pick.t (Pick.t Pick.h))))
        have h_140 := (h_139.up (Pick.t (Pick.t (Pick.t (Pick.t Pick.h))))).drop rfl
        exact ⟨b_128, (Ag.upd rfl (Ag.upd rfl (Ag.upd rfl (Ag.upd rfl (Ag.upd rfl (Ag.upd rfl (Ag.upd rfl (Ag.upd rfl (Ag.upd rfl (Ag.upd rfl (Ag.upd rfl (Ag.upd rfl (Ag.upd rfl (Ag.upd rfl (Ag.upd rfl (Ag.upd rfl (Ag.upd rfl (Ag.refl _ _)))))))))))))))))), ⟨rfl, rfl, rfl, rfl, rfl, trivial⟩, h_140⟩
    · rintro b_144 J_141 w_142 h_143
      refine WP.seq ?_
      refine WP.cutG (G := Nat) [16, 123, 124, 125, 126, 127, 128, 129, 130, 131, 132, 133, 134, 135, 136] (fun bY28Y14Y4Y0 => [(123, (.agg ⟨gb.map vu8⟩)), (127, (.agg ⟨gb.map vu8⟩)), (129, (.agg ⟨gb.map vu8⟩)), (132, (.agg ⟨gb.map vu8⟩)), (124, (vu64 (wordB gb 0))), (125, (vu64 ((wordB gb 0) % 8))), (126, (vi (u2i ((wordB gb 0) % 8)))), (128, (vu64 (wordB gb 5))), (130, (vu64 (wordB gb 6))), (131, (.bool (decide ((wordB gb 6 : UInt64) = 1)))), (133, (vu64 (wordB gb 7))), (134, (vu64 ((wordB gb 7) % 20000))), (135, (vi (u2i ((wordB gb 7) % 20000)))), (136, (.agg ⟨flat [(1, [(vi (u2i ((wordB gb 0) % 8)))]), (4, (List.replicate 4 (0 : UInt64)).map vu64), (1, [(vu64 (wordB gb 5))]), (1, [(.bool (decide ((wordB gb 6 : UInt64) = 1)))]), (1, [(vi (u2i ((wordB gb 7) % 20000)))])]⟩)), (16, (.pointer (some ⟨bY28Y14Y4Y0, 0, none⟩)))]) (fun bY28Y14Y4Y0 w1 => HP w w1 [.blk bY28Y14Y4Y0 .nw 40 [(1, [(vi (u2i ((wordB gb 0) % 8)))]), (4, (List.replicate 4 (0 : UInt64)).map vu64), (1, [(vu64 (wordB gb 5))]), (1, [(.bool (decide ((wordB gb 6 : UInt64) = 1)))]), (1, [(vi (u2i ((wordB gb 7) % 20000)))])], .blk b_10 .nw 53 [(128, (ovr (ovr (ovr (ovr (List.replicate 128 (0 : UInt8)) (8 * 0) (leN 8 (ain.getD 0 0).toNat)) (8 * 1) (leN 8 (ain.getD 1 0).toNat)) (8 * 2) (leN 8 (ain.getD 2 0).toNat)) (8 * 3) (leN 8 (ain.getD 3 0).toNat)).map vu8)], .blk b_7 .nw 53 [(128, gb.map vu8)], .blk b_4 .nw 40 [(1, [(vi rs)]), (4, ors.map vu64), (1, [(vu64 adr)]), (1, [(.bool wr)]), (1, [(vi ran)])], .blk b_1 .nw 31 [(4, ain.map vu64)]]) ?_ ?_
      · refine WP.drawT (SL w.heap.size [.blk b_10 .nw 53 [(128, (ovr (ovr (ovr (ovr (List.replicate 128 (0 : UInt8)) (8 * 0) (leN 8 (ain.getD 0 0).toNat)) (8 * 1) (leN 8 (ain.getD 1 0).toNat)) (8 * 2) (leN 8 (ain.getD 2 0).toNat)) (8 * 3) (leN 8 (ain.getD 3 0).toNat)).map vu8)], .blk b_7 .nw 53 [(128, gb.map vu8)], .blk b_4 .nw 40 [(1, [(vi rs)]), (4, ors.map vu64), (1, [(vu64 adr)]), (1, [(.bool wr)]), (1, [(vi ran)])], .blk b_1 .nw 31 [(4, ain.map vu64)]]) (.q 0 (.q 4 (.q 6 (.q 9 (.s2 1 14 (.q 2 (.q 3 (.s2 5 14 (.s2 7 14 (.q 8 (.s2 10 14 (.q 11 (.q 12 (.q 13 (.s 14 (.s 15 .nil))))) (.s 10 (.q 11 (.q 12 (.q 13 (.s 15 .nil))))))) (.s 7 (.q 8 (.s 10 (.q 11 (.q 12 (.q 13 (.s 15 .nil)))))))) (.s 5 (.s 7 (.q 8 (.s 10 (.q 11 (.q 12 (.q 13 (.s 15 .nil))))))))))) (.s 1 (.q 2 (.q 3 (.s 5 (.s 7 (.q 8 (.s 10 (.q 11 (.q 12 (.q 13 (.s 15 .nil)))))))))))))))) (by kernel_rfl) (by kernel_rfl) rfl (by kernel_rfl) (fun w_145 hc_147 => (SL.cons ((h_143.same hc_147).ok _ (.head _)) (SL.cons ((h_143.same hc_147).ok _ (.tail _ (.head _))) (SL.cons ((h_143.same hc_147).ok _ (.tail _ (.tail _ (.head _)))) (SL.cons ((h_143.same hc_147).ok _ (.tail _ (.tail _ (.tail _ (.head _))))) (SL.nil _ _)))))) (fun w_145 hc_147 => ?_)
        have h_146 := h_143.same hc_147
        refine WT.q rfl (Wn.no rfl) rfl rfl (fun wq hS => R.loadA (b := b_7) (off := 0) [] [(128, gb.map vu8)] [] (cs := gb.map vu8) rfl Try.isAgg53 Try.sizeOf53 (hS _ (.tail _ (.head _))) rfl rfl rfl rfl) ?_
        refine WT.q rfl (Wn.no rfl) rfl rfl (fun wq hS => R.loadA (b := b_7) (off := 0) [] [(128, gb.map vu8)] [] (cs := gb.map vu8) rfl Try.isAgg53 Try.sizeOf53 (hS _ (.tail _ (.head _))) rfl rfl rfl rfl) ?_
        refine WT.q rfl (Wn.no rfl) rfl rfl (fun wq hS => R.loadA (b := b_7) (off := 0) [] [(128, gb.map vu8)] [] (cs := gb.map vu8) rfl Try.isAgg53 Try.sizeOf53 (hS _ (.tail _ (.head _))) rfl rfl rfl rfl) ?_
        refine WT.q rfl (Wn.no rfl) rfl rfl (fun wq hS => R.loadA (b := b_7) (off := 0) [] [(128, gb.map vu8)] [] (cs := gb.map vu8) rfl Try.isAgg53 Try.sizeOf53 (hS _ (.tail _ (.head _))) rfl rfl rfl rfl) ?_
        refine WT.s2 ?_ ?_
        · refine Op1.one rfl (Wn.no rfl) ?_
          refine WL.call (al := [(.agg ⟨gb.map vu8⟩), (vi 0)]) Try.call31 rfl rfl (c_word14 gb hgb 0 (by omega) _ ) rfl ?_
          rintro _ w_149 ⟨rfl, hc_148⟩
          have h_150 := h_146.same hc_148
          refine WL.nil ?_
          refine ⟨(SL.cons (h_150.ok _ (.head _)) (SL.cons (h_150.ok _ (.tail _ (.head _))) (SL.cons (h_150.ok _ (.tail _ (.tail _ (.head _)))) (SL.cons (h_150.ok _ (.tail _ (.tail _ (.tail _ (.head _))))) (SL.nil _ _))))), ?_⟩
          refine WT.q rfl (Wn.no rfl) rfl rfl (fun wq hS => R.bin (v := (vu64 ((wordB gb 0) % 8))) rfl rfl (b64_rem (wordB gb 0) 8 (by decide))) ?_
          refine WT.q rfl (Wn.no rfl) rfl rfl (fun wq hS => R.conv (b := u2i ((wordB gb 0) % 8)) rfl Try.underlying22 Try.underlying38 (wi64_u ((wordB gb 0) % 8))) ?_
          refine WT.s2 ?_ ?_
          · refine Op1.one rfl (Wn.no rfl) ?_
            refine WL.call (al := [(.agg ⟨gb.map vu8⟩), (vi 5)]) Try.call31 rfl rfl (c_word14 gb hgb 5 (by omega) _ ) rfl ?_
            rintro _ w_152 ⟨rfl, hc_151⟩
            have h_153 := h_150.same hc_151
            refine WL.nil ?_
            refine ⟨(SL.cons (h_153.ok _ (.head _)) (SL.cons (h_153.ok _ (.tail _ (.head _))) (SL.cons (h_153.ok _ (.tail _ (.tail _ (.head _)))) (SL.cons (h_153.ok _ (.tail _ (.tail _ (.tail _ (.head _))))) (SL.nil _ _))))), ?_⟩
            refine WT.s2 ?_ ?_
            · refine Op1.one rfl (Wn.no rfl) ?_
              refine WL.call (al := [(.agg ⟨gb.map vu8⟩), (vi 6)]) Try.call31 rfl rfl (c_word14 gb hgb 6 (by omega) _ ) rfl ?_
              rintro _ w_155 ⟨rfl, hc_154⟩
              have h_156 := h_153.same hc_154
              refine WL.nil ?_
              refine ⟨(SL.cons (h_156.ok _ (.head _)) (SL.cons (h_156.ok _ (.tail _ (.head _))) (SL.cons (h_156.ok _ (.tail _ (.tail _ (.head _)))) (SL.cons (h_156.ok _ (.tail _ (.tail _ (.tail _ (.head _))))) (SL.nil _ _))))), ?_⟩
              refine WT.q rfl (Wn.no rfl) rfl rfl (fun wq hS => R.bin (v := (.bool (decide ((wordB gb 6 : UInt64) = 1)))) rfl rfl (b64_eql (wordB gb 6) 1 (r := decide ((wordB gb 6 : UInt64) = 1)) rfl)) ?_
              refine WT.s2 ?_ ?_
              · refine Op1.one rfl (Wn.no rfl) ?_
                refine WL.call (al := [(.agg ⟨gb.map vu8⟩), (vi 7)]) Try.call31 rfl rfl (c_word14 gb hgb 7 (by omega) _ ) rfl ?_
                rintro _ w_158 ⟨rfl, hc_157⟩
                have h_159 := h_156.same hc_157
                refine WL.nil ?_
                refine ⟨(SL.cons (h_159.ok _ (.head _)) (SL.cons (h_159.ok _ (.tail _ (.head _))) (SL.cons (h_159.ok _ (.tail _ (.tail _ (.head _)))) (SL.cons (h_159.ok _ (.tail _ (.tail _ (.tail _ (.head _))))) (SL.nil _ _))))), ?_⟩
                refine WT.q rfl (Wn.no rfl) rfl rfl (fun wq hS => R.bin (v := (vu64 ((wordB gb 7) % 20000))) rfl rfl (b64_rem (wordB gb 7) 20000 (by decide))) ?_
                refine WT.q rfl (Wn.no rfl) rfl rfl (fun wq hS => R.conv (b := u2i ((wordB gb 7) % 20000)) rfl Try.underlying22 Try.underlying3 (wi64_u ((wordB gb 7) % 20000))) ?_
                refine WT.q rfl (Wn.no rfl) rfl rfl (fun wq hS => R.buildS (pl := [(0, 1), (1, 4), (5, 1), (6, 1), (7, 1)]) (zs := [(1, [(vi 0)]), (4, (List.replicate 4 (0 : UInt64)).map vu64), (1, [(vu64 0)]), (1, [(.bool false)]), (1, [(vi 0)])]) (vs := [(0, (vi (u2i ((wordB gb 0) % 8)))), (2, (vu64 (wordB gb 5))), (3, (.bool (decide ((wordB gb 6 : UInt64) = 1)))), (4, (vi (u2i ((wordB gb 7) % 20000))))]) (out := [(1, [(vi (u2i ((wordB gb 0) % 8)))]), (4, (List.replicate 4 (0 : UInt64)).map vu64), (1, [(vu64 (wordB gb 5))]), (1, [(.bool (decide ((wordB gb 6 : UInt64) = 1)))]), (1, [(vi (u2i ((wordB gb 7) % 20000)))])]) (cs := flat [(1, [(vi (u2i ((wordB gb 0) % 8)))]), (4, (List.replicate 4 (0 : UInt64)).map vu64), (1, [(vu64 (wordB gb 5))]), (1, [(.bool (decide ((wordB gb 6 : UInt64) = 1)))]), (1, [(vi (u2i ((wordB gb 7) % 20000)))])]) Try.underlying40 (zv Try.typeInfo40 rfl) rfl (SsOk.cons (SOk.v rfl) (SsOk.cons (SOk.u64 (List.length_replicate ..)) (SsOk.cons (SOk.v rfl) (SsOk.cons (SOk.v rfl) (SsOk.cons (SOk.v rfl) SsOk.nil))))) (pl40 _ Try.underlying40) rfl (FillR.cons [] [(1, [(vi 0)])] [(1, [(vi (u2i ((wordB gb 0) % 8)))])] [(4, (List.replicate 4 (0 : UInt64)).map vu64), (1, [(vu64 0)]), (1, [(.bool false)]), (1, [(vi 0)])] rfl rfl rfl rfl (SsOk.cons (SOk.v rfl) SsOk.nil) rfl rfl rfl (FillR.cons [(1, [(vi (u2i ((wordB gb 0) % 8)))]), (4, (List.replicate 4 (0 : UInt64)).map vu64)] [(1, [(vu64 0)])] [(1, [(vu64 (wordB gb 5))])] [(1, [(.bool false)]), (1, [(vi 0)])] rfl rfl rfl rfl (SsOk.cons (SOk.v rfl) SsOk.nil) rfl rfl rfl (FillR.cons [(1, [(vi (u2i ((wordB gb 0) % 8)))]), (4, (List.replicate 4 (0 : UInt64)).map vu64), (1, [(vu64 (wordB gb 5))])] [(1, [(.bool false)])] [(1, [(.bool (decide ((wordB gb 6 : UInt64) = 1)))])] [(1, [(vi 0)])] rfl rfl rfl rfl (SsOk.cons (SOk.v rfl) SsOk.nil) rfl rfl rfl (FillR.cons [(1, [(vi (u2i ((wordB gb 0) % 8)))]), (4, (List.replicate 4 (0 : UInt64)).map vu64), (1, [(vu64 (wordB gb 5))]), (1, [(.bool (decide ((wordB gb 6 : UInt64) = 1)))])] [(1, [(vi 0)])] [(1, [(vi (u2i ((wordB gb 7) % 20000)))])] [] rfl rfl rfl rfl (SsOk.cons (SOk.v rfl) SsOk.nil) rfl rfl rfl FillR.nil)))) rfl) ?_
                refine WT.s ?_
                refine Op1.one rfl (Wn.no rfl) ?_
                refine WL.alloc (segs := [(1, [(vi 0)]), (4, (List.replicate 4 (0 : UInt64)).map vu64), (1, [(vu64 0)]), (1, [(.bool false)]), (1, [(vi 0)])]) h_159 (zv Try.typeInfo40 rfl) rfl (SsOk.cons (SOk.v rfl) (SsOk.cons (SOk.u64 (List.length_replicate ..)) (SsOk.cons (SOk.v rfl) (SsOk.cons (SOk.v rfl) (SsOk.cons (SOk.v rfl) SsOk.nil))))) rfl (fun b_161 w_162 h_163 => ?_)
                refine WL.nil ?_
                refine ⟨(SL.cons (h_163.ok _ (.tail _ (.head _))) (SL.cons (h_163.ok _ (.tail _ (.tail _ (.head _)))) (SL.cons (h_163.ok _ (.tail _ (.tail _ (.tail _ (.head _))))) (SL.cons (h_163.ok _ (.tail _ (.tail _ (.tail _ (.tail _ (.head _)))))) (SL.nil _ _))))), ?_⟩
                refine WT.s ?_
                refine Op1.one rfl (Wn.no rfl) ?_
                refine WL.storeA (b := b_161) (off := 0) [] [(1, [(vi 0)]), (4, (List.replicate 4 (0 : UInt64)).map vu64), (1, [(vu64 0)]), (1, [(.bool false)]), (1, [(vi 0)])] [(1, [(vi (u2i ((wordB gb 0) % 8)))]), (4, (List.replicate 4 (0 : UInt64)).map vu64), (1, [(vu64 (wordB gb 5))]), (1, [(.bool (decide ((wordB gb 6 : UInt64) = 1)))]), (1, [(vi (u2i ((wordB gb 7) % 20000)))])] [] (ys := flat [(1, [(vi (u2i ((wordB gb 0) % 8)))]), (4, (List.replicate 4 (0 : UInt64)).map vu64), (1, [(vu64 (wordB gb 5))]), (1, [(.bool (decide ((wordB gb 6 : UInt64) = 1)))]), (1, [(vi (u2i ((wordB gb 7) % 20000)))])]) h_163 rfl rfl Try.sizeOf40 At.h (by decide) rfl rfl rfl rfl rfl rfl (SsOk.cons (SOk.v rfl) (SsOk.cons (SOk.u64 (List.length_replicate ..)) (SsOk.cons (SOk.v rfl) (SsOk.cons (SOk.v rfl) (SsOk.cons (SOk.v rfl) SsOk.nil))))) (fun w_164 h_165 => ?_)
                refine WL.nil ?_
                refine ⟨(SL.cons (h_165.ok _ (.tail _ (.head _))) (SL.cons (h_165.ok _ (.tail _ (.tail _ (.head _)))) (SL.cons (h_165.ok _ (.tail _ (.tail _ (.tail _ (.head _))))) (SL.cons (h_165.ok _ (.tail _ (.tail _ (.tail _ (.tail _ (.head _)))))) (SL.nil _ _))))), ?_⟩
                refine WT.nil ?_
                refine thn_n ?_
                exact ⟨b_161, (Ag.upd rfl (Ag.upd rfl (Ag.upd rfl (Ag.upd rfl (Ag.upd rfl (Ag.upd rfl (Ag.upd rfl (Ag.upd rfl (Ag.upd rfl (Ag.upd rfl (Ag.upd rfl (Ag.upd rfl (Ag.upd rfl (Ag.upd rfl (Ag.upd rfl (Ag.refl _ _)))))))))))))))), ⟨rfl, rfl, rfl, rfl, rfl, rfl, rfl, rfl, rfl, rfl, rfl, rfl, rfl, rfl, rfl, trivial⟩, h_165⟩
              · refine Op1.one rfl (Wn.no rfl) ?_
                refine WL.alloc (segs := [(1, [(vi 0)]), (4, (List.replicate 4 (0 : UInt64)).map vu64), (1, [(vu64 0)]), (1, [(.bool false)]), (1, [(vi 0)])]) h_156 (zv Try.typeInfo40 rfl) rfl (SsOk.cons (SOk.v rfl) (SsOk.cons (SOk.u64 (List.length_replicate ..)) (SsOk.cons (SOk.v rfl) (SsOk.cons (SOk.v rfl) (SsOk.cons (SOk.v rfl) SsOk.nil))))) rfl (fun b_166 w_167 h_168 => ?_)
                refine WL.nil ?_
                refine ⟨(SL.cons (h_168.ok _ (.tail _ (.head _))) (SL.cons (h_168.ok _ (.tail _ (.tail _ (.head _)))) (SL.cons (h_168.ok _ (.tail _ (.tail _ (.tail _ (.head _))))) (SL.cons (h_168.ok _ (.tail _ (.tail _ (.tail _ (.tail _ (.head _)))))) (SL.nil _ _))))), ?_⟩
                refine WT.s ?_
                refine Op1.one rfl (Wn.no rfl) ?_
                refine WL.call (al := [(.agg ⟨gb.map vu8⟩), (vi 7)]) Try.call31 rfl rfl (c_word14 gb hgb 7 (by omega) _ ) rfl ?_
                rintro _ w_170 ⟨rfl, hc_169⟩
                have h_171 := h_168.same hc_169
                refine WL.nil ?_
                refine ⟨(SL.cons (h_171.ok _ (.tail _ (.head _))) (SL.cons (h_171.ok _ (.tail _ (.tail _ (.head _)))) (SL.cons (h_171.ok _ (.tail _ (.tail _ (.tail _ (.head _))))) (SL.cons (h_171.ok _ (.tail _ (.tail _ (.tail _ (.tail _ (.head _)))))) (SL.nil _ _))))), ?_⟩
                refine WT.q rfl (Wn.no rfl) rfl rfl (fun wq hS => R.bin (v := (vu64 ((wordB gb 7) % 20000))) rfl rfl (b64_rem (wordB gb 7) 20000 (by decide))) ?_
                refine WT.q rfl (Wn.no rfl) rfl rfl (fun wq hS => R.conv (b := u2i ((wordB gb 7) % 20000)) rfl Try.underlying22 Try.underlying3 (wi64_u ((wordB gb 7) % 20000))) ?_
                refine WT.q rfl (Wn.no rfl) rfl rfl (fun wq hS => R.buildS (pl := [(0, 1), (1, 4), (5, 1), (6, 1), (7, 1)]) (zs := [(1, [(vi 0)]), (4, (List.replicate 4 (0 : UInt64)).map vu64), (1, [(vu64 0)]), (1, [(.bool false)]), (1, [(vi 0)])]) (vs := [(0, (vi (u2i ((wordB gb 0) % 8)))), (2, (vu64 (wordB gb 5))), (3, (.bool (decide ((wordB gb 6 : UInt64) = 1)))), (4, (vi (u2i ((wordB gb 7) % 20000))))]) (out := [(1, [(vi (u2i ((wordB gb 0) % 8)))]), (4, (List.replicate 4 (0 : UInt64)).map vu64), (1, [(vu64 (wordB gb 5))]), (1, [(.bool (decide ((wordB gb 6 : UInt64) = 1)))]), (1, [(vi (u2i ((wordB gb 7) % 20000)))])]) (cs := flat [(1, [(vi (u2i ((wordB gb 0) % 8)))]), (4, (List.replicate 4 (0 : UInt64)).map vu64), (1, [(vu64 (wordB gb 5))]), (1, [(.bool (decide ((wordB gb 6 : UInt64) = 1)))]), (1, [(vi (u2i ((wordB gb 7) % 20000)))])]) Try.underlying40 (zv Try.typeInfo40 rfl) rfl (SsOk.cons (SOk.v rfl) (SsOk.cons (SOk.u64 (List.length_replicate ..)) (SsOk.cons (SOk.v rfl) (SsOk.cons (SOk.v rfl) (SsOk.cons (SOk.v rfl) SsOk.nil))))) (pl40 _ Try.underlying40) rfl (FillR.cons [] [(1, [(vi 0)])] [(1, [(vi (u2i ((wordB gb 0) % 8)))])] [(4, (List.replicate 4 (0 : UInt64)).map vu64), (1, [(vu64 0)]), (1, [(.bool false)]), (1, [(vi 0)])] rfl rfl rfl rfl (SsOk.cons (SOk.v rfl) SsOk.nil) rfl rfl rfl (FillR.cons [(1, [(vi (u2i ((wordB gb 0) % 8)))]), (4, (List.replicate 4 (0 : UInt64)).map vu64)] [(1, [(vu64 0)])] [(1, [(vu64 (wordB gb 5))])] [(1, [(.bool false)]), (1, [(vi 0)])] rfl rfl rfl rfl (SsOk.cons (SOk.v rfl) SsOk.nil) rfl rfl rfl (FillR.cons [(1, [(vi (u2i ((wordB gb 0) % 8)))]), (4, (List.replicate 4 (0 : UInt64)).map vu64), (1, [(vu64 (wordB gb 5))])] [(1, [(.bool false)])] [(1, [(.bool (decide ((wordB gb 6 : UInt64) = 1)))])] [(1, [(vi 0)])] rfl rfl rfl rfl (SsOk.cons (SOk.v rfl) SsOk.nil) rfl rfl rfl (FillR.cons [(1, [(vi (u2i ((wordB gb 0) % 8)))]), (4, (List.replicate 4 (0 : UInt64)).map vu64), (1, [(vu64 (wordB gb 5))]), (1, [(.bool (decide ((wordB gb 6 : UInt64) = 1)))])] [(1, [(vi 0)])] [(1, [(vi (u2i ((wordB gb 7) % 20000)))])] [] rfl rfl rfl rfl (SsOk.cons (SOk.v rfl) SsOk.nil) rfl rfl rfl FillR.nil)))) rfl) ?_
                refine WT.s ?_
                refine Op1.one rfl (Wn.no rfl) ?_
                refine WL.storeA (b := b_166) (off := 0) [] [(1, [(vi 0)]), (4, (List.replicate 4 (0 : UInt64)).map vu64), (1, [(vu64 0)]), (1, [(.bool false)]), (1, [(vi 0)])] [(1, [(vi (u2i ((wordB gb 0) % 8)))]), (4, (List.replicate 4 (0 : UInt64)).map vu64), (1, [(vu64 (wordB gb 5))]), (1, [(.bool (decide ((wordB gb 6 : UInt64) = 1)))]), (1, [(vi (u2i ((wordB gb 7) % 20000)))])] [] (ys := flat [(1, [(vi (u2i ((wordB gb 0) % 8)))]), (4, (List.replicate 4 (0 : UInt64)).map vu64), (1, [(vu64 (wordB gb 5))]), (1, [(.bool (decide ((wordB gb 6 : UInt64) = 1)))]), (1, [(vi (u2i ((wordB gb 7) % 20000)))])]) h_171 rfl rfl Try.sizeOf40 At.h (by decide) rfl rfl rfl rfl rfl rfl (SsOk.cons (SOk.v rfl) (SsOk.cons (SOk.u64 (List.length_replicate ..)) (SsOk.cons (SOk.v rfl) (SsOk.cons (SOk.v rfl) (SsOk.cons (SOk.v rfl) SsOk.nil))))) (fun w_173 h_174 => ?_)
                refine WL.nil ?_
                refine ⟨(SL.cons (h_174.ok _ (.tail _ (.head _))) (SL.cons (h_174.ok _ (.tail _ (.tail _ (.head _)))) (SL.cons (h_174.ok _ (.tail _ (.tail _ (.tail _ (.head _))))) (SL.cons (h_174.ok _ (.tail _ (.tail _ (.tail _ (.tail _ (.head _)))))) (SL.nil _ _))))), ?_⟩
                refine WT.nil ?_
                refine thn_n ?_
                exact ⟨b_166, (Ag.upd rfl (Ag.upd rfl (Ag.upd rfl (Ag.upd rfl (Ag.upd rfl (Ag.upd rfl (Ag.upd rfl (Ag.upd rfl (Ag.upd rfl (Ag.upd rfl (Ag.upd rfl (Ag.upd rfl (Ag.upd rfl (Ag.upd rfl (Ag.upd rfl (Ag.refl _ _)))))))))))))))), ⟨rfl, rfl, rfl, rfl, rfl, rfl, rfl, rfl, rfl, rfl, rfl, rfl, rfl, rfl, rfl, trivial⟩, h_174⟩
            · refine Op1.one rfl (Wn.no rfl) ?_
              refine WL.alloc (segs := [(1, [(vi 0)]), (4, (List.replicate 4 (0 : UInt64)).map vu64), (1, [(vu64 0)]), (1, [(.bool false)]), (1, [(vi 0)])]) h_153 (zv Try.typeInfo40 rfl) rfl (SsOk.cons (SOk.v rfl) (SsOk.cons (SOk.u64 (List.length_replicate ..)) (SsOk.cons (SOk.v rfl) (SsOk.cons (SOk.v rfl) (SsOk.cons (SOk.v rfl) SsOk.nil))))) rfl (fun b_175 w_176 h_177 => ?_)
              refine WL.nil ?_
              refine ⟨(SL.cons (h_177.ok _ (.tail _ (.head _))) (SL.cons (h_177.ok _ (.tail _ (.tail _ (.head _)))) (SL.cons (h_177.ok _ (.tail _ (.tail _ (.tail _ (.head _))))) (SL.cons (h_177.ok _ (.tail _ (.tail _ (.tail _ (.tail _ (.head _)))))) (SL.nil _ _))))), ?_⟩
              refine WT.s ?_
              refine Op1.one rfl (Wn.no rfl) ?_
              refine WL.call (al := [(.agg ⟨gb.map vu8⟩), (vi 6)]) Try.call31 rfl rfl (c_word14 gb hgb 6 (by omega) _ ) rfl ?_
              rintro _ w_179 ⟨rfl, hc_178⟩
              have h_180 := h_177.same hc_178
              refine WL.nil ?_
              refine ⟨(SL.cons (h_180.ok _ (.tail _ (.head _))) (SL.cons (h_180.ok _ (.tail _ (.tail _ (.head _)))) (SL.cons (h_180.ok _ (.tail _ (.tail _ (.tail _ (.head _))))) (SL.cons (h_180.ok _ (.tail _ (.tail _ (.tail _ (.tail _ (.head _)))))) (SL.nil _ _))))), ?_⟩
              refine WT.q rfl (Wn.no rfl) rfl rfl (fun wq hS => R.bin (v := (.bool (decide ((wordB gb 6 : UInt64) = 1)))) rfl rfl (b64_eql (wordB gb 6) 1 (r := decide ((wordB gb 6 : UInt64) = 1)) rfl)) ?_
              refine WT.s ?_
              refine Op1.one rfl (Wn.no rfl) ?_
              refine WL.call (al := [(.agg ⟨gb.map vu8⟩), (vi 7)]) Try.call31 rfl rfl (c_word14 gb hgb 7 (by omega) _ ) rfl ?_
              rintro _ w_182 ⟨rfl, hc_181⟩
              have h_183 := h_180.same hc_181
              refine WL.nil ?_
              refine ⟨(SL.cons (h_183.ok _ (.tail _ (.head _))) (SL.cons (h_183.ok _ (.tail _ (.tail _ (.head _)))) (SL.cons (h_183.ok _ (.tail _ (.tail _ (.tail _ (.head _))))) (SL.cons (h_183.ok _ (.tail _ (.tail _ (.tail _ (.tail _ (.head _)))))) (SL.nil _ _))))), ?_⟩
              refine WT.q rfl (Wn.no rfl) rfl rfl (fun wq hS => R.bin (v := (vu64 ((wordB gb 7) % 20000))) rfl rfl (b64_rem (wordB gb 7) 20000 (by decide))) ?_
              refine WT.q rfl (Wn.no rfl) rfl rfl (fun wq hS => R.conv (b := u2i ((wordB gb 7) % 20000)) rfl Try.underlying22 Try.underlying3 (wi64_u ((wordB gb 7) % 20000))) ?_
              refine WT.q rfl (Wn.no rfl) rfl rfl (fun wq hS => R.buildS (pl := [(0, 1), (1, 4), (5, 1), (6, 1), (7, 1)]) (zs := [(1, [(vi 0)]), (4, (List.replicate 4 (0 : UInt64)).map vu64), (1, [(vu64 0)]), (1, [(.bool false)]), (1, [(vi 0)])]) (vs := [(0, (vi (u2i ((wordB gb 0) % 8)))), (2, (vu64 (wordB gb 5))), (3, (.bool (decide ((wordB gb 6 : UInt64) = 1)))), (4, (vi (u2i ((wordB gb 7) % 20000))))]) (out := [(1, [(vi (u2i ((wordB gb 0) % 8)))]), (4, (List.replicate 4 (0 : UInt64)).map vu64), (1, [(vu64 (wordB gb 5))]), (1, [(.bool (decide ((wordB gb 6 : UInt64) = 1)))]), (1, [(vi (u2i ((wordB gb 7) % 20000)))])]) (cs := flat [(1, [(vi (u2i ((wordB gb 0) % 8)))]), (4, (List.replicate 4 (0 : UInt64)).map vu64), (1, [(vu64 (wordB gb 5))]), (1, [(.bool (decide ((wordB gb 6 : UInt64) = 1)))]), (1, [(vi (u2i ((wordB gb 7) % 20000)))])]) Try.underlying40 (zv Try.typeInfo40 rfl) rfl (SsOk.cons (SOk.v rfl) (SsOk.cons (SOk.u64 (List.length_replicate ..)) (SsOk.cons (SOk.v rfl) (SsOk.cons (SOk.v rfl) (SsOk.cons (SOk.v rfl) SsOk.nil))))) (pl40 _ Try.underlying40) rfl (FillR.cons [] [(1, [(vi 0)])] [(1, [(vi (u2i ((wordB gb 0) % 8)))])] [(4, (List.replicate 4 (0 : UInt64)).map vu64), (1, [(vu64 0)]), (1, [(.bool false)]), (1, [(vi 0)])] rfl rfl rfl rfl (SsOk.cons (SOk.v rfl) SsOk.nil) rfl rfl rfl (FillR.cons [(1, [(vi (u2i ((wordB gb 0) % 8)))]), (4, (List.replicate 4 (0 : UInt64)).map vu64)] [(1, [(vu64 0)])] [(1, [(vu64 (wordB gb 5))])] [(1, [(.bool false)]), (1, [(vi 0)])] rfl rfl rfl rfl (SsOk.cons (SOk.v rfl) SsOk.nil) rfl rfl rfl (FillR.cons [(1, [(vi (u2i ((wordB gb 0) % 8)))]), (4, (List.replicate 4 (0 : UInt64)).map vu64), (1, [(vu64 (wordB gb 5))])] [(1, [(.bool false)])] [(1, [(.bool (decide ((wordB gb 6 : UInt64) = 1)))])] [(1, [(vi 0)])] rfl rfl rfl rfl (SsOk.cons (SOk.v rfl) SsOk.nil) rfl rfl rfl (FillR.cons [(1, [(vi (u2i ((wordB gb 0) % 8)))]), (4, (List.replicate 4 (0 : UInt64)).map vu64), (1, [(vu64 (wordB gb 5))]), (1, [(.bool (decide ((wordB gb 6 : UInt64) = 1)))])] [(1, [(vi 0)])] [(1, [(vi (u2i ((wordB gb 7) % 20000)))])] [] rfl rfl rfl rfl (SsOk.cons (SOk.v rfl) SsOk.nil) rfl rfl rfl FillR.nil)))) rfl) ?_
              refine WT.s ?_
              refine Op1.one rfl (Wn.no rfl) ?_
              refine WL.storeA (b := b_175) (off := 0) [] [(1, [(vi 0)]), (4, (List.replicate 4 (0 : UInt64)).map vu64), (1, [(vu64 0)]), (1, [(.bool false)]), (1, [(vi 0)])] [(1, [(vi (u2i ((wordB gb 0) % 8)))]), (4, (List.replicate 4 (0 : UInt64)).map vu64), (1, [(vu64 (wordB gb 5))]), (1, [(.bool (decide ((wordB gb 6 : UInt64) = 1)))]), (1, [(vi (u2i ((wordB gb 7) % 20000)))])] [] (ys := flat [(1, [(vi (u2i ((wordB gb 0) % 8)))]), (4, (List.replicate 4 (0 : UInt64)).map vu64), (1, [(vu64 (wordB gb 5))]), (1, [(.bool (decide ((wordB gb 6 : UInt64) = 1)))]), (1, [(vi (u2i ((wordB gb 7) % 20000)))])]) h_183 rfl rfl Try.sizeOf40 At.h (by decide) rfl rfl rfl rfl rfl rfl (SsOk.cons (SOk.v rfl) (SsOk.cons (SOk.u64 (List.length_replicate ..)) (SsOk.cons (SOk.v rfl) (SsOk.cons (SOk.v rfl) (SsOk.cons (SOk.v rfl) SsOk.nil))))) (fun w_185 h_186 => ?_)
              refine WL.nil ?_
              refine ⟨(SL.cons (h_186.ok _ (.tail _ (.head _))) (SL.cons (h_186.ok _ (.tail _ (.tail _ (.head _)))) (SL.cons (h_186.ok _ (.tail _ (.tail _ (.tail _ (.head _))))) (SL.cons (h_186.ok _ (.tail _ (.tail _ (.tail _ (.tail _ (.head _)))))) (SL.nil _ _))))), ?_⟩
              refine WT.nil ?_
              refine thn_n ?_
              exact ⟨b_175, (Ag.upd rfl (Ag.upd rfl (Ag.upd rfl (Ag.upd rfl (Ag.upd rfl (Ag.upd rfl (Ag.upd rfl (Ag.upd rfl (Ag.upd rfl (Ag.upd rfl (Ag.upd rfl (Ag.upd rfl (Ag.upd rfl (Ag.upd rfl (Ag.upd rfl (Ag.refl _ _)))))))))))))))), ⟨rfl, rfl, rfl, rfl, rfl, rfl, rfl, rfl, rfl, rfl, rfl, rfl, rfl, rfl, rfl, trivial⟩, h_186⟩
          · refine Op1.one rfl (Wn.no rfl) ?_
            refine WL.alloc (segs := [(1, [(vi 0)]), (4, (List.replicate 4 (0 : UInt64)).map vu64), (1, [(vu64 0)]), (1, [(.bool false)]), (1, [(vi 0)])]) h_150 (zv Try.typeInfo40 rfl) rfl (SsOk.cons (SOk.v rfl) (SsOk.cons (SOk.u64 (List.length_replicate ..)) (SsOk.cons (SOk.v rfl) (SsOk.cons (SOk.v rfl) (SsOk.cons (SOk.v rfl) SsOk.nil))))) rfl (fun b_187 w_188 h_189 => ?_)
            refine WL.nil ?_
            refine ⟨(SL.cons (h_189.ok _ (.tail _ (.head _))) (SL.cons (h_189.ok _ (.tail _ (.tail _ (.head _)))) (SL.cons (h_189.ok _ (.tail _ (.tail _ (.tail _ (.head _))))) (SL.cons (h_189.ok _ (.tail _ (.tail _ (.tail _ (.tail _ (.head _)))))) (SL.nil _ _))))), ?_⟩
            refine WT.s ?_
            refine Op1.one rfl (Wn.no rfl) ?_
            refine WL.call (al := [(.agg ⟨gb.map vu8⟩), (vi 5)]) Try.call31 rfl rfl (c_word14 gb hgb 5 (by omega) _ ) rfl ?_
            rintro _ w_191 ⟨rfl, hc_190⟩
            have h_192 := h_189.same hc_190
            refine WL.nil ?_
            refine ⟨(SL.cons (h_192.ok _ (.tail _ (.head _))) (SL.cons (h_192.ok _ (.tail _ (.tail _ (.head _)))) (SL.cons (h_192.ok _ (.tail _ (.tail _ (.tail _ (.head _))))) (SL.cons (h_192.ok _ (.tail _ (.tail _ (.tail _ (.tail _ (.head _)))))) (SL.nil _ _))))), ?_⟩
            refine WT.s ?_
            refine Op1.one rfl (Wn.no rfl) ?_
            refine WL.call (al := [(.agg ⟨gb.map vu8⟩), (vi 6)]) Try.call31 rfl rfl (c_word14 gb hgb 6 (by omega) _ ) rfl ?_
            rintro _ w_194 ⟨rfl, hc_193⟩
            have h_195 := h_192.same hc_193
            refine WL.nil ?_
            refine ⟨(SL.cons (h_195.ok _ (.tail _ (.head _))) (SL.cons (h_195.ok _ (.tail _ (.tail _ (.head _)))) (SL.cons (h_195.ok _ (.tail _ (.tail _ (.tail _ (.head _))))) (SL.cons (h_195.ok _ (.tail _ (.tail _ (.tail _ (.tail _ (.head _)))))) (SL.nil _ _))))), ?_⟩
            refine WT.q rfl (Wn.no rfl) rfl rfl (fun wq hS => R.bin (v := (.bool (decide ((wordB gb 6 : UInt64) = 1)))) rfl rfl (b64_eql (wordB gb 6) 1 (r := decide ((wordB gb 6 : UInt64) = 1)) rfl)) ?_
            refine WT.s ?_
            refine Op1.one rfl (Wn.no rfl) ?_
            refine WL.call (al := [(.agg ⟨gb.map vu8⟩), (vi 7)]) Try.call31 rfl rfl (c_word14 gb hgb 7 (by omega) _ ) rfl ?_
            rintro _ w_197 ⟨rfl, hc_196⟩
            have h_198 := h_195.same hc_196
            refine WL.nil ?_
            refine ⟨(SL.cons (h_198.ok _ (.tail _ (.head _))) (SL.cons (h_198.ok _ (.tail _ (.tail _ (.head _)))) (SL.cons (h_198.ok _ (.tail _ (.tail _ (.tail _ (.head _))))) (SL.cons (h_198.ok _ (.tail _ (.tail _ (.tail _ (.tail _ (.head _)))))) (SL.nil _ _))))), ?_⟩
            refine WT.q rfl (Wn.no rfl) rfl rfl (fun wq hS => R.bin (v := (vu64 ((wordB gb 7) % 20000))) rfl rfl (b64_rem (wordB gb 7) 20000 (by decide))) ?_
            refine WT.q rfl (Wn.no rfl) rfl rfl (fun wq hS => R.conv (b := u2i ((wordB gb 7) % 20000)) rfl Try.underlying22 Try.underlying3 (wi64_u ((wordB gb 7) % 20000))) ?_
            refine WT.q rfl (Wn.no rfl) rfl rfl (fun wq hS => R.buildS (pl := [(0, 1), (1, 4), (5, 1), (6, 1), (7, 1)]) (zs := [(1, [(vi 0)]), (4, (List.replicate 4 (0 : UInt64)).map vu64), (1, [(vu64 0)]), (1, [(.bool false)]), (1, [(vi 0)])]) (vs := [(0, (vi (u2i ((wordB gb 0) % 8)))), (2, (vu64 (wordB gb 5))), (3, (.bool (decide ((wordB gb 6 : UInt64) = 1)))), (4, (vi (u2i ((wordB gb 7) % 20000))))]) (out := [(1, [(vi (u2i ((wordB gb 0) % 8)))]), (4, (List.replicate 4 (0 : UInt64)).map vu64), (1, [(vu64 (wordB gb 5))]), (1, [(.bool (decide ((wordB gb 6 : UInt64) = 1)))]), (1, [(vi (u2i ((wordB gb 7) % 20000)))])]) (cs := flat [(1, [(vi (u2i ((wordB gb 0) % 8)))]), (4, (List.replicate 4 (0 : UInt64)).map vu64), (1, [(vu64 (wordB gb 5))]), (1, [(.bool (decide ((wordB gb 6 : UInt64) = 1)))]), (1, [(vi (u2i ((wordB gb 7) % 20000)))])]) Try.underlying40 (zv Try.typeInfo40 rfl) rfl (SsOk.cons (SOk.v rfl) (SsOk.cons (SOk.u64 (List.length_replicate ..)) (SsOk.cons (SOk.v rfl) (SsOk.cons (SOk.v rfl) (SsOk.cons (SOk.v rfl) SsOk.nil))))) (pl40 _ Try.underlying40) rfl (FillR.cons [] [(1, [(vi 0)])] [(1, [(vi (u2i ((wordB gb 0) % 8)))])] [(4, (List.replicate 4 (0 : UInt64)).map vu64), (1, [(vu64 0)]), (1, [(.bool false)]), (1, [(vi 0)])] rfl rfl rfl rfl (SsOk.cons (SOk.v rfl) SsOk.nil) rfl rfl rfl (FillR.cons [(1, [(vi (u2i ((wordB gb 0) % 8)))]), (4, (List.replicate 4 (0 : UInt64)).map vu64)] [(1, [(vu64 0)])] [(1, [(vu64 (wordB gb 5))])] [(1, [(.bool false)]), (1, [(vi 0)])] rfl rfl rfl rfl (SsOk.cons (SOk.v rfl) SsOk.nil) rfl rfl rfl (FillR.cons [(1, [(vi (u2i ((wordB gb 0) % 8)))]), (4, (List.replicate 4 (0 : UInt64)).map vu64), (1, [(vu64 (wordB gb 5))])] [(1, [(.bool false)])] [(1, [(.bool (decide ((wordB gb 6 : UInt64) = 1)))])] [(1, [(vi 0)])] rfl rfl rfl rfl (SsOk.cons (SOk.v rfl) SsOk.nil) rfl rfl rfl (FillR.cons [(1, [(vi (u2i ((wordB gb 0) % 8)))]), (4, (List.replicate 4 (0 : UInt64)).map vu64), (1, [(vu64 (wordB gb 5))]), (1, [(.bool (decide ((wordB gb 6 : UInt64) = 1)))])] [(1, [(vi 0)])] [(1, [(vi (u2i ((wordB gb 7) % 20000)))])] [] rfl rfl rfl rfl (SsOk.cons (SOk.v rfl) SsOk.nil) rfl rfl rfl FillR.nil)))) rfl) ?_
            refine WT.s ?_
            refine Op1.one rfl (Wn.no rfl) ?_
            refine WL.storeA (b := b_187) (off := 0) [] [(1, [(vi 0)]), (4, (List.replicate 4 (0 : UInt64)).map vu64), (1, [(vu64 0)]), (1, [(.bool false)]), (1, [(vi 0)])] [(1, [(vi (u2i ((wordB gb 0) % 8)))]), (4, (List.replicate 4 (0 : UInt64)).map vu64), (1, [(vu64 (wordB gb 5))]), (1, [(.bool (decide ((wordB gb 6 : UInt64) = 1)))]), (1, [(vi (u2i ((wordB gb 7) % 20000)))])] [] (ys := flat [(1, [(vi (u2i ((wordB gb 0) % 8)))]), (4, (List.replicate 4 (0 : UInt64)).map vu64), (1, [(vu64 (wordB gb 5))]), (1, [(.bool (decide ((wordB gb 6 : UInt64) = 1)))]), (1, [(vi (u2i ((wordB gb 7) % 20000)))])]) h_198 rfl rfl Try.sizeOf40 At.h (by decide) rfl rfl rfl rfl rfl rfl (SsOk.cons (SOk.v rfl) (SsOk.cons (SOk.u64 (List.length_replicate ..)) (SsOk.cons (SOk.v rfl) (SsOk.cons (SOk.v rfl) (SsOk.cons (SOk.v rfl) SsOk.nil))))) (fun w_200 h_201 => ?_)
            refine WL.nil ?_
            refine ⟨(SL.cons (h_201.ok _ (.tail _ (.head _))) (SL.cons (h_201.ok _ (.tail _ (.tail _ (.head _)))) (SL.cons (h_201.ok _ (.tail _ (.tail _ (.tail _ (.head _))))) (SL.cons (h_201.ok _ (.tail _ (.tail _ (.tail _ (.tail _ (.head _)))))) (SL.nil _ _))))), ?_⟩
            refine WT.nil ?_
            refine thn_n ?_
            exact ⟨b_187, (Ag.upd rfl (Ag.upd rfl (Ag.upd rfl (Ag.upd rfl (Ag.upd rfl (Ag.upd rfl (Ag.upd rfl (Ag.upd rfl (Ag.upd rfl (Ag.upd rfl (Ag.upd rfl (Ag.upd rfl (Ag.upd rfl (Ag.upd rfl (Ag.upd rfl (Ag.refl _ _)))))))))))))))), ⟨rfl, rfl, rfl, rfl, rfl, rfl, rfl, rfl, rfl, rfl, rfl, rfl, rfl, rfl, rfl, trivial⟩, h_201⟩
        · refine Op1.one rfl (Wn.no rfl) ?_
          refine WL.alloc (segs := [(1, [(vi 0)]), (4, (List.replicate 4 (0 : UInt64)).map vu64), (1, [(vu64 0)]), (1, [(.bool false)]), (1, [(vi 0)])]) h_146 (zv Try.typeInfo40 rfl) rfl (SsOk.cons (SOk.v rfl) (SsOk.cons (SOk.u64 (List.length_replicate ..)) (SsOk.cons (SOk.v rfl) (SsOk.cons (SOk.v rfl) (SsOk.cons (SOk.v rfl) SsOk.nil))))) rfl (fun b_202 w_203 h_204 => ?_)
          refine WL.nil ?_
          refine ⟨(SL.cons (h_204.ok _ (.tail _ (.head _))) (SL.cons (h_204.ok _ (.tail _ (.tail _ (.head _)))) (SL.cons (h_204.ok _ (.tail _ (.tail _ (.tail _ (.head _))))) (SL.cons (h_204.ok _ (.tail _ (.tail _ (.tail _ (.tail _ (.head _)))))) (SL.nil _ _))))), ?_⟩
          refine WT.s ?_
          refine Op1.one rfl (Wn.no rfl) ?_
          refine WL.call (al := [(.agg ⟨gb.map vu8⟩), (vi 0)]) Try.call31 rfl rfl (c_word14 gb hgb 0 (by omega) _ ) rfl ?_
          rintro _ w_206 ⟨rfl, hc_205⟩
          have h_207 := h_204.same hc_205
          refine WL.nil ?_
          refine ⟨(SL.cons (h_207.ok _ (.tail _ (.head _))) (SL.cons (h_207.ok _ (.tail _ (.tail _ (.head _)))) (SL.cons (h_207.ok _ (.tail _ (.tail _ (.tail _ (.head _))))) (SL.cons (h_207.ok _ (.tail _ (.tail _ (.tail _ (.tail _ (.head _)))))) (SL.nil _ _))))), ?_⟩
          refine WT.q rfl (Wn.no rfl) rfl rfl (fun wq hS => R.bin (v := (vu64 ((wordB gb 0) % 8))) rfl rfl (b64_rem (wordB gb 0) 8 (by decide))) ?_
          refine WT.q rfl (Wn.no rfl) rfl rfl (fun wq hS => R.conv (b := u2i ((wordB gb 0) % 8)) rfl Try.underlying22 Try.underlying38 (wi64_u ((wordB gb 0) % 8))) ?_
          refine WT.s ?_
          refine Op1.one rfl (Wn.no rfl) ?_
          refine WL.call (al := [(.agg ⟨gb.map vu8⟩), (vi 5)]) Try.call31 rfl rfl (c_word14 gb hgb 5 (by omega) _ ) rfl ?_
          rintro _ w_209 ⟨rfl, hc_208⟩
          have h_210 := h_207.same hc_208
          refine WL.nil ?_
          refine ⟨(SL.cons (h_210.ok _ (.tail _ (.head _))) (SL.cons (h_210.ok _ (.tail _ (.tail _ (.head _)))) (SL.cons (h_210.ok _ (.tail _ (.tail _ (.tail _ (.head _))))) (SL.cons (h_210.ok _ (.tail _ (.tail _ (.tail _ (.tail _ (.head _)))))) (SL.nil _ _))))), ?_⟩
          refine WT.s ?_
          refine Op1.one rfl (Wn.no rfl) ?_
          refine WL.call (al := [(.agg ⟨gb.map vu8⟩), (vi 6)]) Try.call31 rfl rfl (c_word14 gb hgb 6 (by omega) _ ) rfl ?_
          rintro _ w_212 ⟨rfl, hc_211⟩
          have h_213 := h_210.same hc_211
          refine WL.nil ?_
          refine ⟨(SL.cons (h_213.ok _ (.tail _ (.head _))) (SL.cons (h_213.ok _ (.tail _ (.tail _ (.head _)))) (SL.cons (h_213.ok _ (.tail _ (.tail _ (.tail _ (.head _))))) (SL.cons (h_213.ok _ (.tail _ (.tail _ (.tail _ (.tail _ (.head _)))))) (SL.nil _ _))))), ?_⟩
          refine WT.q rfl (Wn.no rfl) rfl rfl (fun wq hS => R.bin (v := (.bool (decide ((wordB gb 6 : UInt64) = 1)))) rfl rfl (b64_eql (wordB gb 6) 1 (r := decide ((wordB gb 6 : UInt64) = 1)) rfl)) ?_
          refine WT.s ?_
          refine Op1.one rfl (Wn.no rfl) ?_
          refine WL.call (al := [(.agg ⟨gb.map vu8⟩), (vi 7)]) Try.call31 rfl rfl (c_word14 gb hgb 7 (by omega) _ ) rfl ?_
          rintro _ w_215 ⟨rfl, hc_214⟩
          have h_216 := h_213.same hc_214
          refine WL.nil ?_
          refine ⟨(SL.cons (h_216.ok _ (.tail _ (.head _))) (SL.cons (h_216.ok _ (.tail _ (.tail _ (.head _)))) (SL.cons (h_216.ok _ (.tail _ (.tail _ (.tail _ (.head _))))) (SL.cons (h_216.ok _ (.tail _ (.tail _ (.tail _ (.tail _ (.head _)))))) (SL.nil _ _))))), ?_⟩
          refine WT.q rfl (Wn.no rfl) rfl rfl (fun wq hS => R.bin (v := (vu64 ((wordB gb 7) % 20000))) rfl rfl (b64_rem (wordB gb 7) 20000 (by decide))) ?_
          refine WT.q rfl (Wn.no rfl) rfl rfl (fun wq hS => R.conv (b := u2i ((wordB gb 7) % 20000)) rfl Try.underlying22 Try.underlying3 (wi64_u ((wordB gb 7) % 20000))) ?_
          refine WT.q rfl (Wn.no rfl) rfl rfl (fun wq hS => R.buildS (pl := [(0, 1), (1, 4), (5, 1), (6, 1), (7, 1)]) (zs := [(1, [(vi 0)]), (4, (List.replicate 4 (0 : UInt64)).map vu64), (1, [(vu64 0)]), (1, [(.bool false)]), (1, [(vi 0)])]) (vs := [(0, (vi (u2i ((wordB gb 0) % 8)))), (2, (vu64 (wordB gb 5))), (3, (.bool (decide ((wordB gb 6 : UInt64) = 1)))), (4, (vi (u2i ((wordB gb 7) % 20000))))]) (out := [(1, [(vi (u2i ((wordB gb 0) % 8)))]), (4, (List.replicate 4 (0 : UInt64)).map vu64), (1, [(vu64 (wordB gb 5))]), (1, [(.bool (decide ((wordB gb 6 : UInt64) = 1)))]), (1, [(vi (u2i ((wordB gb 7) % 20000)))])]) (cs := flat [(1, [(vi (u2i ((wordB gb 0) % 8)))]), (4, (List.replicate 4 (0 : UInt64)).map vu64), (1, [(vu64 (wordB gb 5))]), (1, [(.bool (decide ((wordB gb 6 : UInt64) = 1)))]), (1, [(vi (u2i ((wordB gb 7) % 20000)))])]) Try.underlying40 (zv Try.typeInfo40 rfl) rfl (SsOk.cons (SOk.v rfl) (SsOk.cons (SOk.u64 (List.length_replicate ..)) (SsOk.cons (SOk.v rfl) (SsOk.cons (SOk.v rfl) (SsOk.cons (SOk.v rfl) SsOk.nil))))) (pl40 _ Try.underlying40) rfl (FillR.cons [] [(1, [(vi 0)])] [(1, [(vi (u2i ((wordB gb 0) % 8)))])] [(4, (List.replicate 4 (0 : UInt64)).map vu64), (1, [(vu64 0)]), (1, [(.bool false)]), (1, [(vi 0)])] rfl rfl rfl rfl (SsOk.cons (SOk.v rfl) SsOk.nil) rfl rfl rfl (FillR.cons [(1, [(vi (u2i ((wordB gb 0) % 8)))]), (4, (List.replicate 4 (0 : UInt64)).map vu64)] [(1, [(vu64 0)])] [(1, [(vu64 (wordB gb 5))])] [(1, [(.bool false)]), (1, [(vi 0)])] rfl rfl rfl rfl (SsOk.cons (SOk.v rfl) SsOk.nil) rfl rfl rfl (FillR.cons [(1, [(vi (u2i ((wordB gb 0) % 8)))]), (4, (List.replicate 4 (0 : UInt64)).map vu64), (1, [(vu64 (wordB gb 5))])] [(1, [(.bool false)])] [(1, [(.bool (decide ((wordB gb 6 : UInt64) = 1)))])] [(1, [(vi 0)])] rfl rfl rfl rfl (SsOk.cons (SOk.v rfl) SsOk.nil) rfl rfl rfl (FillR.cons [(1, [(vi (u2i ((wordB gb 0) % 8)))]), (4, (List.replicate 4 (0 : UInt64)).map vu64), (1, [(vu64 (wordB gb 5))]), (1, [(.bool (decide ((wordB gb 6 : UInt64) = 1)))])] [(1, [(vi 0)])] [(1, [(vi (u2i ((wordB gb 7) % 20000)))])] [] rfl rfl rfl rfl (SsOk.cons (SOk.v rfl) SsOk.nil) rfl rfl rfl FillR.nil)))) rfl) ?_
          refine WT.s ?_
          refine Op1.one rfl (Wn.no rfl) ?_
          refine WL.storeA (b := b_202) (off := 0) [] [(1, [(vi 0)]), (4, (List.replicate 4 (0 : UInt64)).map vu64), (1, [(vu64 0)]), (1, [(.bool false)]), (1, [(vi 0)])] [(1, [(vi (u2i ((wordB gb 0) % 8)))]), (4, (List.replicate 4 (0 : UInt64)).map vu64), (1, [(vu64 (wordB gb 5))]), (1, [(.bool (decide ((wordB gb 6 : UInt64) = 1)))]), (1, [(vi (u2i ((wordB gb 7) % 20000)))])] [] (ys := flat [(1, [(vi (u2i ((wordB gb 0) % 8)))]), (4, (List.replicate 4 (0 : UInt64)).map vu64), (1, [(vu64 (wordB gb 5))]), (1, [(.bool (decide ((wordB gb 6 : UInt64) = 1)))]), (1, [(vi (u2i ((wordB gb 7) % 20000)))])]) h_216 rfl rfl Try.sizeOf40 At.h (by decide) rfl rfl rfl rfl rfl rfl (SsOk.cons (SOk.v rfl) (SsOk.cons (SOk.u64 (List.length_replicate ..)) (SsOk.cons (SOk.v rfl) (SsOk.cons (SOk.v rfl) (SsOk.cons (SOk.v rfl) SsOk.nil))))) (fun w_218 h_219 => ?_)
          refine WL.nil ?_
          refine ⟨(SL.cons (h_219.ok _ (.tail _ (.head _))) (SL.cons (h_219.ok _ (.tail _ (.tail _ (.head _)))) (SL.cons (h_219.ok _ (.tail _ (.tail _ (.tail _ (.head _))))) (SL.cons (h_219.ok _ (.tail _ (.tail _ (.tail _ (.tail _ (.head _)))))) (SL.nil _ _))))), ?_⟩
          refine WT.nil ?_
          refine thn_n ?_
          exact ⟨b_202, (Ag.upd rfl (Ag.upd rfl (Ag.upd rfl (Ag.upd rfl (Ag.upd rfl (Ag.upd rfl (Ag.upd rfl (Ag.upd rfl (Ag.upd rfl (Ag.upd rfl (Ag.upd rfl (Ag.upd rfl (Ag.upd rfl (Ag.upd rfl (Ag.upd rfl (Ag.refl _ _)))))))))))))))), ⟨rfl, rfl, rfl, rfl, rfl, rfl, rfl, rfl, rfl, rfl, rfl, rfl, rfl, rfl, rfl, trivial⟩, h_219⟩
      · rintro b_223 J_220 w_221 h_222
        refine thn_n ?_
        refine WP.seq ?_
        refine WP.seq ?_
        refine WP.reg ?_
        refine WL.q (Wn.no rfl) rfl rfl (R.assign (v := (vi 0)) rfl) ?_
        refine WL.nil ?_
        refine thn_n ?_
        refine WP.block ?_
        refine WP.loopU (WI.round ?_)
        refine WP.seq ?_
        refine WP.seq ?_
        refine WP.reg ?_
        refine WL.q (Wn.no rfl) rfl rfl (R.move (v := (vi 0)) rfl) ?_
        refine WL.q (Wn.no rfl) rfl rfl (R.bin (v := (.bool true)) rfl rfl (bi_lss (r := true) (by decide))) ?_
        refine WL.nil ?_
        refine thn_n ?_
        refine WP.condT rfl ?_
        refine WP.skip ?_
        refine thn_n ?_
        refine WP.seq ?_
        refine WP.block ?_
        refine WP.reg ?_
        refine WL.q (Wn.no rfl) rfl rfl (R.move (v := (vi 0)) rfl) ?_
        refine WL.q (Wn.no rfl) rfl rfl (R.loadA (b := b_7) (off := 0) [] [(128, gb.map vu8)] [] (cs := gb.map vu8) rfl Try.isAgg53 Try.sizeOf53 (h_222.ok _ (.tail _ (.tail _ (.head _)))) rfl rfl rfl rfl) ?_
        refine WL.q (Wn.no rfl) rfl rfl (R.move (v := (vi 0)) rfl) ?_
        refine WL.q (Wn.no rfl) rfl rfl (R.bin (v := (vi 1)) rfl rfl (bi_add (c := 1) (by omega) (by omega))) ?_
        refine WL.call (al := [(.agg ⟨gb.map vu8⟩), (vi 1)]) Try.call31 rfl rfl (c_word14 gb hgb 1 (by omega) _ ) rfl ?_
        rintro _ w_225 ⟨rfl, hc_224⟩
        have h_226 := h_222.same hc_224
        refine WL.q (Wn.no rfl) rfl rfl (R.fieldAddr (b := b_223) (off := 0) (off' := 1) rfl Try.underlying40 rfl Try.sizeOf29 rfl rfl) ?_
        refine WL.q (Wn.no rfl) rfl rfl (R.indexA (b := b_223) (off := 1) (off' := 1) (i := 0) rfl rfl rfl (by decide) Try.underlying29 Try.sizeOf22 rfl) ?_
        refine WL.storeE (b := b_223) (off := 1) (i := 0) (v := (vu64 (wordB gb 1))) (cs' := ([wordB gb 1, 0, 0, 0] : List UInt64).map vu64) h_226 rfl rfl Try.sizeOf22 rfl At.h (by decide) (Sg.t rfl Sg.h) rfl (lt_len (K := 4) (len_map (List.length_replicate ..)) (by decide)) ((set_u64 _ _ _).trans rfl) (fun w_227 h_228 => ?_)
        refine WL.nil ?_
        refine inb_n ?_
        refine thn_n ?_
        refine WP.reg ?_
        refine WL.q (Wn.no rfl) rfl rfl (R.move (v := (vi 0)) rfl) ?_
        refine WL.q (Wn.no rfl) rfl rfl (R.bin (v := (vi 1)) rfl rfl (bi_add (c := 1) (by omega) (by omega))) ?_
        refine WL.q (Wn.no rfl) rfl rfl (R.assign (v := (vi 1)) rfl) ?_
        refine WL.nil ?_
        refine thn_n ?_
        refine WI.round ?_
        refine WP.seq ?_
        refine WP.seq ?_
        refine WP.reg ?_
        refine WL.q (Wn.no rfl) rfl rfl (R.move (v := (vi 1)) rfl) ?_
        refine WL.q (Wn.no rfl) rfl rfl (R.bin (v := (.bool true)) rfl rfl (bi_lss (r := true) (by decide))) ?_
        refine WL.nil ?_
        refine thn_n ?_
        refine WP.condT rfl ?_
        refine WP.skip ?_
        refine thn_n ?_
        refine WP.seq ?_
        refine WP.block ?_
        refine WP.reg ?_
        refine WL.q (Wn.no rfl) rfl rfl (R.move (v := (vi 1)) rfl) ?_
        refine WL.q (Wn.no rfl) rfl rfl (R.loadA (b := b_7) (off := 0) [] [(128, gb.map vu8)] [] (cs := gb.map vu8) rfl Try.isAgg53 Try.sizeOf53 (h_228.ok _ (.tail _ (.tail _ (.head _)))) rfl rfl rfl rfl) ?_
        refine WL.q (Wn.no rfl) rfl rfl (R.move (v := (vi 1)) rfl) ?_
        refine WL.q (Wn.no rfl) rfl rfl (R.bin (v := (vi 2)) rfl rfl (bi_add (c := 2) (by omega) (by omega))) ?_
        refine WL.call (al := [(.agg ⟨gb.map vu8⟩), (vi 2)]) Try.call31 rfl rfl (c_word14 gb hgb 2 (by omega) _ ) rfl ?_
        rintro _ w_230 ⟨rfl, hc_229⟩
        have h_231 := h_228.same hc_229
        refine WL.q (Wn.no rfl) rfl rfl (R.fieldAddr (b := b_223) (off := 0) (off' := 1) rfl Try.underlying40 rfl Try.sizeOf29 rfl rfl) ?_
        refine WL.q (Wn.no rfl) rfl rfl (R.indexA (b := b_223) (off := 1) (off' := 2) (i := 1) rfl rfl rfl (by decide) Try.underlying29 Try.sizeOf22 rfl) ?_
        refine WL.storeE (b := b_223) (off := 2) (i := 1) (v := (vu64 (wordB gb 2))) (cs' := ([wordB gb 1, wordB gb 2, 0, 0] : List UInt64).map vu64) h_231 rfl rfl Try.sizeOf22 rfl At.h (by decide) (Sg.t rfl Sg.h) rfl (lt_len (K := 4) (len_map (rfl : List.length ([wordB gb 1, 0, 0, 0] : List UInt64) = 4)) (by decide)) ((set_u64 _ _ _).trans rfl) (fun w_232 h_233 => ?_)
        refine WL.nil ?_
        refine inb_n ?_
        refine thn_n ?_
        refine WP.reg ?_
        refine WL.q (Wn.no rfl) rfl rfl (R.move (v := (vi 1)) rfl) ?_
        refine WL.q (Wn.no rfl) rfl rfl (R.bin (v := (vi 2)) rfl rfl (bi_add (c := 2) (by omega) (by omega))) ?_
        refine WL.q (Wn.no rfl) rfl rfl (R.assign (v := (vi 2)) rfl) ?_
        refine WL.nil ?_
        refine thn_n ?_
        refine WI.round ?_
        refine WP.seq ?_
        refine WP.seq ?_
        refine WP.reg ?_
        refine WL.q (Wn.no rfl) rfl rfl (R.move (v := (vi 2)) rfl) ?_
        refine WL.q (Wn.no rfl) rfl rfl (R.bin (v := (.bool true)) rfl rfl (bi_lss (r := true) (by decide))) ?_
        refine WL.nil ?_
        refine thn_n ?_
        refine WP.condT rfl ?_
        refine WP.skip ?_
        refine thn_n ?_
        refine WP.seq ?_
        refine WP.block ?_
        refine WP.reg ?_
        refine WL.q (Wn.no rfl) rfl rfl (R.move (v := (vi 2)) rfl) ?_
        refine WL.q (Wn.no rfl) rfl rfl (R.loadA (b := b_7) (off := 0) [] [(128, gb.map vu8)] [] (cs := gb.map vu8) rfl Try.isAgg53 Try.sizeOf53 (h_233.ok _ (.tail _ (.tail _ (.head _)))) rfl rfl rfl rfl) ?_
        refine WL.q (Wn.no rfl) rfl rfl (R.move (v := (vi 2)) rfl) ?_
        refine WL.q (Wn.no rfl) rfl rfl (R.bin (v := (vi 3)) rfl rfl (bi_add (c := 3) (by omega) (by omega))) ?_
        refine WL.call (al := [(.agg ⟨gb.map vu8⟩), (vi 3)]) Try.call31 rfl rfl (c_word14 gb hgb 3 (by omega) _ ) rfl ?_
        rintro _ w_235 ⟨rfl, hc_234⟩
        have h_236 := h_233.same hc_234
        refine WL.q (Wn.no rfl) rfl rfl (R.fieldAddr (b := b_223) (off := 0) (off' := 1) rfl Try.underlying40 rfl Try.sizeOf29 rfl rfl) ?_
        refine WL.q (Wn.no rfl) rfl rfl (R.indexA (b := b_223) (off := 1) (off' := 3) (i := 2) rfl rfl rfl (by decide) Try.underlying29 Try.sizeOf22 rfl) ?_
        refine WL.storeE (b := b_223) (off := 3) (i := 2) (v := (vu64 (wordB gb 3))) (cs' := ([wordB gb 1, wordB gb 2, wordB gb 3, 0] : List UInt64).map vu64) h_236 rfl rfl Try.sizeOf22 rfl At.h (by decide) (Sg.t rfl Sg.h) rfl (lt_len (K := 4) (len_map (rfl : List.length ([wordB gb 1, wordB gb 2, 0, 0] : List UInt64) = 4)) (by decide)) ((set_u64 _ _ _).trans rfl) (fun w_237 h_238 => ?_)
        refine WL.nil ?_
        refine inb_n ?_
        refine thn_n ?_
        refine WP.reg ?_
        refine WL.q (Wn.no rfl) rfl rfl (R.move (v := (vi 2)) rfl) ?_
        refine WL.q (Wn.no rfl) rfl rfl (R.bin (v := (vi 3)) rfl rfl (bi_add (c := 3) (by omega) (by omega))) ?_
        refine WL.q (Wn.no rfl) rfl rfl (R.assign (v := (vi 3)) rfl) ?_
        refine WL.nil ?_
        refine thn_n ?_
        refine WI.round ?_
        refine WP.seq ?_
        refine WP.seq ?_
        refine WP.reg ?_
        refine WL.q (Wn.no rfl) rfl rfl (R.move (v := (vi 3)) rfl) ?_
        refine WL.q (Wn.no rfl) rfl rfl (R.bin (v := (.bool true)) rfl rfl (bi_lss (r := true) (by decide))) ?_
        refine WL.nil ?_
        refine thn_n ?_
        refine WP.condT rfl ?_
        refine WP.skip ?_
        refine thn_n ?_
        refine WP.seq ?_
        refine WP.block ?_
        refine WP.reg ?_
        refine WL.q (Wn.no rfl) rfl rfl (R.move (v := (vi 3)) rfl) ?_
        refine WL.q (Wn.no rfl) rfl rfl (R.loadA (b := b_7) (off := 0) [] [(128, gb.map vu8)] [] (cs := gb.map vu8) rfl Try.isAgg53 Try.sizeOf53 (h_238.ok _ (.tail _ (.tail _ (.head _)))) rfl rfl rfl rfl) ?_
        refine WL.q (Wn.no rfl) rfl rfl (R.move (v := (vi 3)) rfl) ?_
        refine WL.q (Wn.no rfl) rfl rfl (R.bin (v := (vi 4)) rfl rfl (bi_add (c := 4) (by omega) (by omega))) ?_
        refine WL.call (al := [(.agg ⟨gb.map vu8⟩), (vi 4)]) Try.call31 rfl rfl (c_word14 gb hgb 4 (by omega) _ ) rfl ?_
        rintro _ w_240 ⟨rfl, hc_239⟩
        have h_241 := h_238.same hc_239
        refine WL.q (Wn.no rfl) rfl rfl (R.fieldAddr (b := b_223) (off := 0) (off' := 1) rfl Try.underlying40 rfl Try.sizeOf29 rfl rfl) ?_
        refine WL.q (Wn.no rfl) rfl rfl (R.indexA (b := b_223) (off := 1) (off' := 4) (i := 3) rfl rfl rfl (by decide) Try.underlying29 Try.sizeOf22 rfl) ?_
        refine WL.storeE (b := b_223) (off := 4) (i := 3) (v := (vu64 (wordB gb 4))) (cs' := ([wordB gb 1, wordB gb 2, wordB gb 3, wordB gb 4] : List UInt64).map vu64) h_241 rfl rfl Try.sizeOf22 rfl At.h (by decide) (Sg.t rfl Sg.h) rfl (lt_len (K := 4) (len_map (rfl : List.length ([wordB gb 1, wordB gb 2, wordB gb 3, 0] : List UInt64) = 4)) (by decide)) ((set_u64 _ _ _).trans rfl) (fun w_242 h_243 => ?_)
        refine WL.nil ?_
        refine inb_n ?_
        refine thn_n ?_
        refine WP.reg ?_
        refine WL.q (Wn.no rfl) rfl rfl (R.move (v := (vi 3)) rfl) ?_
        refine WL.q (Wn.no rfl) rfl rfl (R.bin (v := (vi 4)) rfl rfl (bi_add (c := 4) (by omega) (by omega))) ?_
        refine WL.q (Wn.no rfl) rfl rfl (R.assign (v := (vi 4)) rfl) ?_
        refine WL.nil ?_
        refine thn_n ?_
        refine WI.round ?_
        refine WP.seq ?_
        refine WP.seq ?_
        refine WP.reg ?_
        refine WL.q (Wn.no rfl) rfl rfl (R.move (v := (vi 4)) rfl) ?_
        refine WL.q (Wn.no rfl) rfl rfl (R.bin (v := (.bool false)) rfl rfl (bi_lss (r := false) (by decide))) ?_
        refine WL.nil ?_
        refine thn_n ?_
        refine WP.condF rfl ?_
        refine WP.exit ?_
        refine thn_x ?_
        refine thn_x ?_
        refine inb_hit ?_
        refine thn_n ?_
        refine WP.seq ?_
        refine WP.reg ?_
        refine WL.q (Wn.no rfl) rfl rfl (R.loadA (b := b_7) (off := 0) [] [(128, gb.map vu8)] [] (cs := gb.map vu8) rfl Try.isAgg53 Try.sizeOf53 (h_243.ok _ (.tail _ (.tail _ (.head _)))) rfl rfl rfl rfl) ?_
        refine WL.call (al := [(.agg ⟨gb.map vu8⟩)]) Try.call41 rfl rfl (c_OutOf gb hgb _) rfl ?_
        rintro _ w_246 (⟨ho_244, rfl, hc_245⟩ | ⟨ho_244, rfl, hc_245⟩)
        · have h_247 := h_243.same hc_245
          refine WL.q (Wn.no rfl) rfl rfl (R.move (v := (.tuple [(.agg ⟨flat [(1, [(vi (u2i (wordB gb 0)))]), (4, ([wordB gb 1, wordB gb 2, wordB gb 3, wordB gb 4] : List UInt64).map vu64), (1, [(vu64 (wordB gb 5))]), (1, [(.bool (decide ((wordB gb 6 : UInt64) = 1)))]), (1, [(vi (u2i (wordB gb 7)))])]⟩), (vi 0)].toArray)) rfl) ?_
          refine WL.q (Wn.no rfl) rfl rfl (R.extract (l := [(.agg ⟨flat [(1, [(vi (u2i (wordB gb 0)))]), (4, ([wordB gb 1, wordB gb 2, wordB gb 3, wordB gb 4] : List UInt64).map vu64), (1, [(vu64 (wordB gb 5))]), (1, [(.bool (decide ((wordB gb 6 : UInt64) = 1)))]), (1, [(vi (u2i (wordB gb 7)))])]⟩), (vi 0)]) (v := (.agg ⟨flat [(1, [(vi (u2i (wordB gb 0)))]), (4, ([wordB gb 1, wordB gb 2, wordB gb 3, wordB gb 4] : List UInt64).map vu64), (1, [(vu64 (wordB gb 5))]), (1, [(.bool (decide ((wordB gb 6 : UInt64) = 1)))]), (1, [(vi (u2i (wordB gb 7)))])]⟩)) rfl rfl) ?_
          refine WL.q (Wn.no rfl) rfl rfl (R.extract (l := [(.agg ⟨flat [(1, [(vi (u2i (wordB gb 0)))]), (4, ([wordB gb 1, wordB gb 2, wordB gb 3, wordB gb 4] : List UInt64).map vu64), (1, [(vu64 (wordB gb 5))]), (1, [(.bool (decide ((wordB gb 6 : UInt64) = 1)))]), (1, [(vi (u2i (wordB gb 7)))])]⟩), (vi 0)]) (v := (vi 0)) rfl rfl) ?_
          refine WL.alloc (segs := [(1, [(vi 0)]), (4, (List.replicate 4 (0 : UInt64)).map vu64), (1, [(vu64 0)]), (1, [(.bool false)]), (1, [(vi 0)])]) h_247 (zv Try.typeInfo40 rfl) rfl (SsOk.cons (SOk.v rfl) (SsOk.cons (SOk.u64 (List.length_replicate ..)) (SsOk.cons (SOk.v rfl) (SsOk.cons (SOk.v rfl) (SsOk.cons (SOk.v rfl) SsOk.nil))))) rfl (fun b_248 w_249 h_250 => ?_)
          refine WL.storeA (b := b_248) (off := 0) [] [(1, [(vi 0)]), (4, (List.replicate 4 (0 : UInt64)).map vu64), (1, [(vu64 0)]), (1, [(.bool false)]), (1, [(vi 0)])] [(1, [(vi (u2i (wordB gb 0)))]), (4, ([wordB gb 1, wordB gb 2, wordB gb 3, wordB gb 4] : List UInt64).map vu64), (1, [(vu64 (wordB gb 5))]), (1, [(.bool (decide ((wordB gb 6 : UInt64) = 1)))]), (1, [(vi (u2i (wordB gb 7)))])] [] (ys := flat [(1, [(vi (u2i (wordB gb 0)))]), (4, ([wordB gb 1, wordB gb 2, wordB gb 3, wordB gb 4] : List UInt64).map vu64), (1, [(vu64 (wordB gb 5))]), (1, [(.bool (decide ((wordB gb 6 : UInt64) = 1)))]), (1, [(vi (u2i (wordB gb 7)))])]) h_250 rfl rfl Try.sizeOf40 At.h (by decide) rfl rfl rfl rfl rfl rfl (SsOk.cons (SOk.v rfl) (SsOk.cons (SOk.u64 (rfl : List.length ([wordB gb 1, wordB gb 2, wordB gb 3, wordB gb 4] : List UInt64) = 4)) (SsOk.cons (SOk.v rfl) (SsOk.cons (SOk.v rfl) (SsOk.cons (SOk.v rfl) SsOk.nil))))) (fun w_251 h_252 => ?_)
          refine WL.q (Wn.no rfl) rfl rfl (R.assign (v := (vi 0)) rfl) ?_
          refine WL.nil ?_
          refine thn_n ?_
          refine WP.seq ?_
          refine WP.seq ?_
          refine WP.drawT (SL w.heap.size [.blk b_248 .nw 40 [(1, [(vi (u2i (wordB gb 0)))]), (4, ([wordB gb 1, wordB gb 2, wordB gb 3, wordB gb 4] : List UInt64).map vu64), (1, [(vu64 (wordB gb 5))]), (1, [(.bool (decide ((wordB gb 6 : UInt64) = 1)))]), (1, [(vi (u2i (wordB gb 7)))])], .blk b_223 .nw 40 [(1, [(vi (u2i ((wordB gb 0) % 8)))]), (4, ([wordB gb 1, wordB gb 2, wordB gb 3, wordB gb 4] : List UInt64).map vu64), (1, [(vu64 (wordB gb 5))]), (1, [(.bool (decide ((wordB gb 6 : UInt64) = 1)))]), (1, [(vi (u2i ((wordB gb 7) % 20000)))])], .blk b_10 .nw 53 [(128, (ovr (ovr (ovr (ovr (List.replicate 128 (0 : UInt8)) (8 * 0) (leN 8 (ain.getD 0 0).toNat)) (8 * 1) (leN 8 (ain.getD 1 0).toNat)) (8 * 2) (leN 8 (ain.getD 2 0).toNat)) (8 * 3) (leN 8 (ain.getD 3 0).toNat)).map vu8)], .blk b_7 .nw 53 [(128, gb.map vu8)], .blk b_4 .nw 40 [(1, [(vi rs)]), (4, ors.map vu64), (1, [(vu64 adr)]), (1, [(.bool wr)]), (1, [(vi ran)])], .blk b_1 .nw 31 [(4, ain.map vu64)]]) (.q 0 (.s 1 (.q 2 (.q 3 (.q 5 (.s 4 (.q 6 (.q 7 .nil)))))))) (by kernel_rfl) (by kernel_rfl) rfl (by kernel_rfl) (fun w_253 hc_255 => (SL.cons ((h_252.same hc_255).ok _ (.head _)) (SL.cons ((h_252.same hc_255).ok _ (.tail _ (.head _))) (SL.cons ((h_252.same hc_255).ok _ (.tail _ (.tail _ (.head _)))) (SL.cons ((h_252.same hc_255).ok _ (.tail _ (.tail _ (.tail _ (.head _))))) (SL.cons ((h_252.same hc_255).ok _ (.tail _ (.tail _ (.tail _ (.tail _ (.head _)))))) (SL.cons ((h_252.same hc_255).ok _ (.tail _ (.tail _ (.tail _ (.tail _ (.tail _ (.head _))))))) (SL.nil _ _)))))))) (fun w_253 hc_255 => ?_)
          have h_254 := h_252.same hc_255
          refine WT.q rfl (Wn.no rfl) rfl rfl (fun wq hS => R.loadA (b := b_223) (off := 0) [] [(1, [(vi (u2i ((wordB gb 0) % 8)))]), (4, ([wordB gb 1, wordB gb 2, wordB gb 3, wordB gb 4] : List UInt64).map vu64), (1, [(vu64 (wordB gb 5))]), (1, [(.bool (decide ((wordB gb 6 : UInt64) = 1)))]), (1, [(vi (u2i ((wordB gb 7) % 20000)))])] [] (cs := flat [(1, [(vi (u2i ((wordB gb 0) % 8)))]), (4, ([wordB gb 1, wordB gb 2, wordB gb 3, wordB gb 4] : List UInt64).map vu64), (1, [(vu64 (wordB gb 5))]), (1, [(.bool (decide ((wordB gb 6 : UInt64) = 1)))]), (1, [(vi (u2i ((wordB gb 7) % 20000)))])]) rfl Try.isAgg40 Try.sizeOf40 (hS _ (.tail _ (.head _))) rfl rfl rfl rfl) ?_
          refine WT.s ?_
          refine Op1.one rfl (Wn.no rfl) ?_
          refine WL.call (al := [(.agg ⟨flat [(1, [(vi (u2i ((wordB gb 0) % 8)))]), (4, ([wordB gb 1, wordB gb 2, wordB gb 3, wordB gb 4] : List UInt64).map vu64), (1, [(vu64 (wordB gb 5))]), (1, [(.bool (decide ((wordB gb 6 : UInt64) = 1)))]), (1, [(vi (u2i ((wordB gb 7) % 20000)))])]⟩)]) Try.call29 rfl rfl (c_may14 (u2i ((wordB gb 0) % 8)) ([wordB gb 1, wordB gb 2, wordB gb 3, wordB gb 4] : List UInt64) (rfl : List.length ([wordB gb 1, wordB gb 2, wordB gb 3, wordB gb 4] : List UInt64) = 4) (wordB gb 5) (decide ((wordB gb 6 : UInt64) = 1)) (u2i ((wordB gb 7) % 20000)) _ ) rfl ?_
          rintro _ w_257 ⟨rfl, hc_256⟩
          have h_258 := h_254.same hc_256
          refine WL.nil ?_
          refine ⟨(SL.cons (h_258.ok _ (.head _)) (SL.cons (h_258.ok _ (.tail _ (.head _))) (SL.cons (h_258.ok _ (.tail _ (.tail _ (.head _)))) (SL.cons (h_258.ok _ (.tail _ (.tail _ (.tail _ (.head _))))) (SL.cons (h_258.ok _ (.tail _ (.tail _ (.tail _ (.tail _ (.head _)))))) (SL.cons (h_258.ok _ (.tail _ (.tail _ (.tail _ (.tail _ (.tail _ (.head _))))))) (SL.nil _ _))))))), ?_⟩
          refine WT.q rfl (Wn.no rfl) rfl rfl (fun wq hS => R.move (v := (.bool (mayB (u2i ((wordB gb 0) % 8)) ([wordB gb 1, wordB gb 2, wordB gb 3, wordB gb 4] : List UInt64) (wordB gb 5) (decide ((wordB gb 6 : UInt64) = 1)) (u2i ((wordB gb 7) % 20000))))) rfl) ?_
          refine WT.q rfl (Wn.yes rfl rfl (congrArg Value.bool (by rw [(okOut_z ho_244).1, (okOut_z ho_244).2]; exact ho_244.2.2.1))) rfl rfl (fun wq hS => R.loadA (b := b_223) (off := 0) [] [(1, [(vi (u2i ((wordB gb 0) % 8)))]), (4, ([wordB gb 1, wordB gb 2, wordB gb 3, wordB gb 4] : List UInt64).map vu64), (1, [(vu64 (wordB gb 5))]), (1, [(.bool (decide ((wordB gb 6 : UInt64) = 1)))]), (1, [(vi (u2i ((wordB gb 7) % 20000)))])] [] (cs := flat [(1, [(vi (u2i ((wordB gb 0) % 8)))]), (4, ([wordB gb 1, wordB gb 2, wordB gb 3, wordB gb 4] : List UInt64).map vu64), (1, [(vu64 (wordB gb 5))]), (1, [(.bool (decide ((wordB gb 6 : UInt64) = 1)))]), (1, [(vi (u2i ((wordB gb 7) % 20000)))])]) rfl Try.isAgg40 Try.sizeOf40 (hS _ (.tail _ (.head _))) rfl rfl rfl rfl) ?_
          refine WT.q rfl (Wn.yes rfl rfl (congrArg Value.bool (by rw [(okOut_z ho_244).1, (okOut_z ho_244).2]; exact ho_244.2.2.1))) rfl rfl (fun wq hS => R.loadA (b := b_7) (off := 0) [] [(128, gb.map vu8)] [] (cs := gb.map vu8) rfl Try.isAgg53 Try.sizeOf53 (hS _ (.tail _ (.tail _ (.tail _ (.head _))))) rfl rfl rfl rfl) ?_
          refine WT.s ?_
          refine Op1.one rfl (Wn.yes rfl rfl (congrArg Value.bool (by rw [(okOut_z ho_244).1, (okOut_z ho_244).2]; exact ho_244.2.2.1))) ?_
          refine WL.call (al := [(.agg ⟨flat [(1, [(vi (u2i ((wordB gb 0) % 8)))]), (4, ([wordB gb 1, wordB gb 2, wordB gb 3, wordB gb 4] : List UInt64).map vu64), (1, [(vu64 (wordB gb 5))]), (1, [(.bool (decide ((wordB gb 6 : UInt64) = 1)))]), (1, [(vi (u2i ((wordB gb 7) % 20000)))])]⟩)]) Try.call40 rfl rfl (c_out14 (u2i ((wordB gb 0) % 8)) ([wordB gb 1, wordB gb 2, wordB gb 3, wordB gb 4] : List UInt64) (rfl : List.length ([wordB gb 1, wordB gb 2, wordB gb 3, wordB gb 4] : List UInt64) = 4) (wordB gb 5) (decide ((wordB gb 6 : UInt64) = 1)) (u2i ((wordB gb 7) % 20000)) _ ) rfl ?_
          rintro _ w_260 ⟨rfl, hc_259⟩
          have h_261 := h_258.same hc_259
          refine WL.nil ?_
          refine ⟨(SL.cons (h_261.ok _ (.head _)) (SL.cons (h_261.ok _ (.tail _ (.head _))) (SL.cons (h_261.ok _ (.tail _ (.tail _ (.head _)))) (SL.cons (h_261.ok _ (.tail _ (.tail _ (.tail _ (.head _))))) (SL.cons (h_261.ok _ (.tail _ (.tail _ (.tail _ (.tail _ (.head _)))))) (SL.cons (h_261.ok _ (.tail _ (.tail _ (.tail _ (.tail _ (.tail _ (.head _))))))) (SL.nil _ _))))))), ?_⟩
          refine WT.q rfl (Wn.yes rfl rfl (congrArg Value.bool (by rw [(okOut_z ho_244).1, (okOut_z ho_244).2]; exact ho_244.2.2.1))) rfl rfl (fun wq hS => R.eqA (xs := (formB (u2i ((wordB gb 0) % 8)) ([wordB gb 1, wordB gb 2, wordB gb 3, wordB gb 4] : List UInt64) (wordB gb 5) (decide ((wordB gb 6 : UInt64) = 1)) (u2i ((wordB gb 7) % 20000))).map vu8) (ys := gb.map vu8) (r := decide (formB (u2i ((wordB gb 0) % 8)) ([wordB gb 1, wordB gb 2, wordB gb 3, wordB gb 4] : List UInt64) (wordB gb 5) (decide ((wordB gb 6 : UInt64) = 1)) (u2i ((wordB gb 7) % 20000)) = gb)) rfl rfl Try.eqGuardType53 kt53 (by decide) ag53 (Typ.u8s Try.underlying53 ce53 Try.underlying5 ce5 (formB_len (rfl : List.length ([wordB gb 1, wordB gb 2, wordB gb 3, wordB gb 4] : List UInt64) = 4))) (Typ.u8s Try.underlying53 ce53 Try.underlying5 ce5 hgb) (map_inj_u8.trans (decT _))) ?_
          refine WT.q rfl (Wn.no rfl) rfl rfl (fun wq hS => R.pickT (v := (.bool (decide (formB (u2i ((wordB gb 0) % 8)) ([wordB gb 1, wordB gb 2, wordB gb 3, wordB gb 4] : List UInt64) (wordB gb 5) (decide ((wordB gb 6 : UInt64) = 1)) (u2i ((wordB gb 7) % 20000)) = gb)))) (congrArg Value.bool (by rw [(okOut_z ho_244).1, (okOut_z ho_244).2]; exact ho_244.2.2.1)) rfl) ?_
          refine WT.nil ?_
          refine thn_n ?_
          refine WP.condT (congrArg Value.bool (decide_eq_true (by rw [(okOut_z ho_244).1, (okOut_z ho_244).2]; exact ho_244.2.2.2))) ?_
          refine WP.seq ?_
          refine WP.reg ?_
          refine WL.q (Wn.no rfl) rfl rfl (R.move (v := (vi 0)) rfl) ?_
          refine WL.q (Wn.no rfl) rfl rfl (R.bin (v := (.bool true)) rfl rfl (bi_eql (r := true) (by decide))) ?_
          refine WL.q (Wn.no rfl) rfl rfl (R.move (v := (.bool true)) rfl) ?_
          refine WL.want rfl rfl ?_
          refine WL.q (Wn.no rfl) rfl rfl (R.loadA (b := b_248) (off := 0) [] [(1, [(vi (u2i (wordB gb 0)))]), (4, ([wordB gb 1, wordB gb 2, wordB gb 3, wordB gb 4] : List UInt64).map vu64), (1, [(vu64 (wordB gb 5))]), (1, [(.bool (decide ((wordB gb 6 : UInt64) = 1)))]), (1, [(vi (u2i (wordB gb 7)))])] [] (cs := flat [(1, [(vi (u2i (wordB gb 0)))]), (4, ([wordB gb 1, wordB gb 2, wordB gb 3, wordB gb 4] : List UInt64).map vu64), (1, [(vu64 (wordB gb 5))]), (1, [(.bool (decide ((wordB gb 6 : UInt64) = 1)))]), (1, [(vi (u2i (wordB gb 7)))])]) rfl Try.isAgg40 Try.sizeOf40 (h_261.ok _ (.head _)) rfl rfl rfl rfl) ?_
          refine WL.want rfl rfl ?_
          refine WL.q (Wn.no rfl) rfl rfl (R.loadA (b := b_223) (off := 0) [] [(1, [(vi (u2i ((wordB gb 0) % 8)))]), (4, ([wordB gb 1, wordB gb 2, wordB gb 3, wordB gb 4] : List UInt64).map vu64), (1, [(vu64 (wordB gb 5))]), (1, [(.bool (decide ((wordB gb 6 : UInt64) = 1)))]), (1, [(vi (u2i ((wordB gb 7) % 20000)))])] [] (cs := flat [(1, [(vi (u2i ((wordB gb 0) % 8)))]), (4, ([wordB gb 1, wordB gb 2, wordB gb 3, wordB gb 4] : List UInt64).map vu64), (1, [(vu64 (wordB gb 5))]), (1, [(.bool (decide ((wordB gb 6 : UInt64) = 1)))]), (1, [(vi (u2i ((wordB gb 7) % 20000)))])]) rfl Try.isAgg40 Try.sizeOf40 (h_261.ok _ (.tail _ (.head _))) rfl rfl rfl rfl) ?_
          refine WL.want rfl rfl ?_
          refine WL.q (Wn.no rfl) rfl rfl (R.eqA (xs := flat [(1, [(vi (u2i (wordB gb 0)))]), (4, ([wordB gb 1, wordB gb 2, wordB gb 3, wordB gb 4] : List UInt64).map vu64), (1, [(vu64 (wordB gb 5))]), (1, [(.bool (decide ((wordB gb 6 : UInt64) = 1)))]), (1, [(vi (u2i (wordB gb 7)))])]) (ys := flat [(1, [(vi (u2i ((wordB gb 0) % 8)))]), (4, ([wordB gb 1, wordB gb 2, wordB gb 3, wordB gb 4] : List UInt64).map vu64), (1, [(vu64 (wordB gb 5))]), (1, [(.bool (decide ((wordB gb 6 : UInt64) = 1)))]), (1, [(vi (u2i ((wordB gb 7) % 20000)))])]) (r := true) rfl rfl Try.eqGuardType40 kt40 (by decide) ag40 (Typ.struct (h := 2) (r := [(1, [(vi (u2i (wordB gb 0)))]), (4, ([wordB gb 1, wordB gb 2, wordB gb 3, wordB gb 4] : List UInt64).map vu64), (1, [(vu64 (wordB gb 5))]), (1, [(.bool (decide ((wordB gb 6 : UInt64) = 1)))]), (1, [(vi (u2i (wordB gb 7)))])]) (cs := flat [(1, [(vi (u2i (wordB gb 0)))]), (4, ([wordB gb 1, wordB gb 2, wordB gb 3, wordB gb 4] : List UInt64).map vu64), (1, [(vu64 (wordB gb 5))]), (1, [(.bool (decide ((wordB gb 6 : UInt64) = 1)))]), (1, [(vi (u2i (wordB gb 7)))])]) Try.underlying40 (TypF.cons (k := 1) rfl rfl (by decide) rfl (Typ.int Try.underlying38 ce38 (WalkArith.wf_i64 (by have := u2i_bd (wordB gb 0); omega))) (TypF.cons (k := 4) rfl rfl (by decide) (len_map (rfl : List.length ([wordB gb 1, wordB gb 2, wordB gb 3, wordB gb 4] : List UInt64) = 4)) (Typ.u64s Try.underlying29 ce29 Try.underlying22 ce22 (rfl : List.length ([wordB gb 1, wordB gb 2, wordB gb 3, wordB gb 4] : List UInt64) = 4)) (TypF.cons (k := 1) rfl rfl (by decide) rfl (Typ.int Try.underlying22 ce22 (wfu64 (wordB gb 5))) (TypF.cons (k := 1) rfl rfl (by decide) rfl (Typ.bool Try.underlying4 ce4) (TypF.cons (k := 1) rfl rfl (by decide) rfl (Typ.int Try.underlying3 ce3 (WalkArith.wf_i64 (by have := u2i_bd (wordB gb 7); omega))) TypF.nil))))) rfl (((SsOk.cons (SOk.v rfl) (SsOk.cons (SOk.u64 (rfl : List.length ([wordB gb 1, wordB gb 2, wordB gb 3, wordB gb 4] : List UInt64) = 4)) (SsOk.cons (SOk.v rfl) (SsOk.cons (SOk.v rfl) (SsOk.cons (SOk.v rfl) SsOk.nil)))))).len.trans ce40.symm)) (Typ.struct (h := 2) (r := [(1, [(vi (u2i ((wordB gb 0) % 8)))]), (4, ([wordB gb 1, wordB gb 2, wordB gb 3, wordB gb 4] : List UInt64).map vu64), (1, [(vu64 (wordB gb 5))]), (1, [(.bool (decide ((wordB gb 6 : UInt64) = 1)))]), (1, [(vi (u2i ((wordB gb 7) % 20000)))])]) (cs := flat [(1, [(vi (u2i ((wordB gb 0) % 8)))]), (4, ([wordB gb 1, wordB gb 2, wordB gb 3, wordB gb 4] : List UInt64).map vu64), (1, [(vu64 (wordB gb 5))]), (1, [(.bool (decide ((wordB gb 6 : UInt64) = 1)))]), (1, [(vi (u2i ((wordB gb 7) % 20000)))])]) Try.underlying40 (TypF.cons (k := 1) rfl rfl (by decide) rfl (Typ.int Try.underlying38 ce38 (WalkArith.wf_i64 (by have := u2i_bd ((wordB gb 0) % 8); omega))) (TypF.cons (k := 4) rfl rfl (by decide) (len_map (rfl : List.length ([wordB gb 1, wordB gb 2, wordB gb 3, wordB gb 4] : List UInt64) = 4)) (Typ.u64s Try.underlying29 ce29 Try.underlying22 ce22 (rfl : List.length ([wordB gb 1, wordB gb 2, wordB gb 3, wordB gb 4] : List UInt64) = 4)) (TypF.cons (k := 1) rfl rfl (by decide) rfl (Typ.int Try.underlying22 ce22 (wfu64 (wordB gb 5))) (TypF.cons (k := 1) rfl rfl (by decide) rfl (Typ.bool Try.underlying4 ce4) (TypF.cons (k := 1) rfl rfl (by decide) rfl (Typ.int Try.underlying3 ce3 (WalkArith.wf_i64 (by have := u2i_bd ((wordB gb 7) % 20000); omega))) TypF.nil))))) rfl (((SsOk.cons (SOk.v rfl) (SsOk.cons (SOk.u64 (rfl : List.length ([wordB gb 1, wordB gb 2, wordB gb 3, wordB gb 4] : List UInt64) = 4)) (SsOk.cons (SOk.v rfl) (SsOk.cons (SOk.v rfl) (SsOk.cons (SOk.v rfl) SsOk.nil)))))).len.trans ce40.symm)) (eqT (by rw [(okOut_z ho_244).1, (okOut_z ho_244).2]))) ?_
          refine WL.q (Wn.no rfl) rfl rfl (R.pickT (v := (.bool true)) rfl rfl) ?_
          refine WL.q (Wn.no rfl) rfl rfl (R.move (v := (.bool true)) rfl) ?_
          refine WL.want rfl rfl ?_
          refine WL.call (al := []) Try.call15 rfl rfl (c_known14  _) rfl ?_
          rintro _ w_263 ⟨rfl, hc_262⟩
          have h_264 := h_261.same hc_262
          refine WL.q (Wn.no rfl) rfl rfl (R.pickT (v := (.bool true)) rfl rfl) ?_
          refine WL.q (Wn.no rfl) rfl rfl (R.assign (v := (.bool true)) rfl) ?_
          refine WL.nil ?_
          refine thn_n ?_
          refine WP.ret ?_
          refine thn_r ?_
          refine ret_of Try.results12 (RV.tmp (v := (.bool true)) rfl RV.nil) ?_
          exact ⟨rfl, h_264.chgS⟩
        · have h_265 := h_243.same hc_245
          refine WL.q (Wn.no rfl) rfl rfl (R.move (v := (.tuple [(.agg ⟨flat [(1, [(vi 0)]), (4, (List.replicate 4 (0 : UInt64)).map vu64), (1, [(vu64 0)]), (1, [(.bool false)]), (1, [(vi 0)])]⟩), (vi 4)].toArray)) rfl) ?_
          refine WL.q (Wn.no rfl) rfl rfl (R.extract (l := [(.agg ⟨flat [(1, [(vi 0)]), (4, (List.replicate 4 (0 : UInt64)).map vu64), (1, [(vu64 0)]), (1, [(.bool false)]), (1, [(vi 0)])]⟩), (vi 4)]) (v := (.agg ⟨flat [(1, [(vi 0)]), (4, (List.replicate 4 (0 : UInt64)).map vu64), (1, [(vu64 0)]), (1, [(.bool false)]), (1, [(vi 0)])]⟩)) rfl rfl) ?_
          refine WL.q (Wn.no rfl) rfl rfl (R.extract (l := [(.agg ⟨flat [(1, [(vi 0)]), (4, (List.replicate 4 (0 : UInt64)).map vu64), (1, [(vu64 0)]), (1, [(.bool false)]), (1, [(vi 0)])]⟩), (vi 4)]) (v := (vi 4)) rfl rfl) ?_
          refine WL.alloc (segs := [(1, [(vi 0)]), (4, (List.replicate 4 (0 : UInt64)).map vu64), (1, [(vu64 0)]), (1, [(.bool false)]), (1, [(vi 0)])]) h_265 (zv Try.typeInfo40 rfl) rfl (SsOk.cons (SOk.v rfl) (SsOk.cons (SOk.u64 (List.length_replicate ..)) (SsOk.cons (SOk.v rfl) (SsOk.cons (SOk.v rfl) (SsOk.cons (SOk.v rfl) SsOk.nil))))) rfl (fun b_266 w_267 h_268 => ?_)
          refine WL.storeA (b := b_266) (off := 0) [] [(1, [(vi 0)]), (4, (List.replicate 4 (0 : UInt64)).map vu64), (1, [(vu64 0)]), (1, [(.bool false)]), (1, [(vi 0)])] [(1, [(vi 0)]), (4, (List.replicate 4 (0 : UInt64)).map vu64), (1, [(vu64 0)]), (1, [(.bool false)]), (1, [(vi 0)])] [] (ys := flat [(1, [(vi 0)]), (4, (List.replicate 4 (0 : UInt64)).map vu64), (1, [(vu64 0)]), (1, [(.bool false)]), (1, [(vi 0)])]) h_268 rfl rfl Try.sizeOf40 At.h (by decide) rfl rfl rfl rfl rfl rfl (SsOk.cons (SOk.v rfl) (SsOk.cons (SOk.u64 (List.length_replicate ..)) (SsOk.cons (SOk.v rfl) (SsOk.cons (SOk.v rfl) (SsOk.cons (SOk.v rfl) SsOk.nil))))) (fun w_269 h_270 => ?_)
          refine WL.q (Wn.no rfl) rfl rfl (R.assign (v := (vi 4)) rfl) ?_
          refine WL.nil ?_
          refine thn_n ?_
          refine WP.seq ?_
          refine WP.seq ?_
          refine WP.drawT (SL w.heap.size [.blk b_266 .nw 40 [(1, [(vi 0)]), (4, (List.replicate 4 (0 : UInt64)).map vu64), (1, [(vu64 0)]), (1, [(.bool false)]), (1, [(vi 0)])], .blk b_223 .nw 40 [(1, [(vi (u2i ((wordB gb 0) % 8)))]), (4, ([wordB gb 1, wordB gb 2, wordB gb 3, wordB gb 4] : List UInt64).map vu64), (1, [(vu64 (wordB gb 5))]), (1, [(.bool (decide ((wordB gb 6 : UInt64) = 1)))]), (1, [(vi (u2i ((wordB gb 7) % 20000)))])], .blk b_10 .nw 53 [(128, (ovr (ovr (ovr (ovr (List.replicate 128 (0 : UInt8)) (8 * 0) (leN 8 (ain.getD 0 0).toNat)) (8 * 1) (leN 8 (ain.getD 1 0).toNat)) (8 * 2) (leN 8 (ain.getD 2 0).toNat)) (8 * 3) (leN 8 (ain.getD 3 0).toNat)).map vu8)], .blk b_7 .nw 53 [(128, gb.map vu8)], .blk b_4 .nw 40 [(1, [(vi rs)]), (4, ors.map vu64), (1, [(vu64 adr)]), (1, [(.bool wr)]), (1, [(vi ran)])], .blk b_1 .nw 31 [(4, ain.map vu64)]]) (.q 0 (.s 1 (.q 2 (.q 3 (.q 5 (.s 4 (.q 6 (.q 7 .nil)))))))) (by kernel_rfl) (by kernel_rfl) rfl (by kernel_rfl) (fun w_271 hc_273 => (SL.cons ((h_270.same hc_273).ok _ (.head _)) (SL.cons ((h_270.same hc_273).ok _ (.tail _ (.head _))) (SL.cons ((h_270.same hc_273).ok _ (.tail _ (.tail _ (.head _)))) (SL.cons ((h_270.same hc_273).ok _ (.tail _ (.tail _ (.tail _ (.head _))))) (SL.cons ((h_270.same hc_273).ok _ (.tail _ (.tail _ (.tail _ (.tail _ (.head _)))))) (SL.cons ((h_270.same hc_273).ok _ (.tail _ (.tail _ (.tail _ (.tail _ (.tail _ (.head _))))))) (SL.nil _ _)))))))) (fun w_271 hc_273 => ?_)
          have h_272 := h_270.same hc_273
          refine WT.q rfl (Wn.no rfl) rfl rfl (fun wq hS => R.loadA (b := b_223) (off := 0) [] [(1, [(vi (u2i ((wordB gb 0) % 8)))]), (4, ([wordB gb 1, wordB gb 2, wordB gb 3, wordB gb 4] : List UInt64).map vu64), (1, [(vu64 (wordB gb 5))]), (1, [(.bool (decide ((wordB gb 6 : UInt64) = 1)))]), (1, [(vi (u2i ((wordB gb 7) % 20000)))])] [] (cs := flat [(1, [(vi (u2i ((wordB gb 0) % 8)))]), (4, ([wordB gb 1, wordB gb 2, wordB gb 3, wordB gb 4] : List UInt64).map vu64), (1, [(vu64 (wordB gb 5))]), (1, [(.bool (decide ((wordB gb 6 : UInt64) = 1)))]), (1, [(vi (u2i ((wordB gb 7) % 20000)))])]) rfl Try.isAgg40 Try.sizeOf40 (hS _ (.tail _ (.head _))) rfl rfl rfl rfl) ?_
          refine WT.s ?_
          refine Op1.one rfl (Wn.no rfl) ?_
          refine WL.call (al := [(.agg ⟨flat [(1, [(vi (u2i ((wordB gb 0) % 8)))]), (4, ([wordB gb 1, wordB gb 2, wordB gb 3, wordB gb 4] : List UInt64).map vu64), (1, [(vu64 (wordB gb 5))]), (1, [(.bool (decide ((wordB gb 6 : UInt64) = 1)))]), (1, [(vi (u2i ((wordB gb 7) % 20000)))])]⟩)]) Try.call29 rfl rfl (c_may14 (u2i ((wordB gb 0) % 8)) ([wordB gb 1, wordB gb 2, wordB gb 3, wordB gb 4] : List UInt64) (rfl : List.length ([wordB gb 1, wordB gb 2, wordB gb 3, wordB gb 4] : List UInt64) = 4) (wordB gb 5) (decide ((wordB gb 6 : UInt64) = 1)) (u2i ((wordB gb 7) % 20000)) _ ) rfl ?_
          rintro _ w_275 ⟨rfl, hc_274⟩
          have h_276 := h_272.same hc_274
          refine WL.nil ?_
          refine ⟨(SL.cons (h_276.ok _ (.head _)) (SL.cons (h_276.ok _ (.tail _ (.head _))) (SL.cons (h_276.ok _ (.tail _ (.tail _ (.head _)))) (SL.cons (h_276.ok _ (.tail _ (.tail _ (.tail _ (.head _))))) (SL.cons (h_276.ok _ (.tail _ (.tail _ (.tail _ (.tail _ (.head _)))))) (SL.cons (h_276.ok _ (.tail _ (.tail _ (.tail _ (.tail _ (.tail _ (.head _))))))) (SL.nil _ _))))))), ?_⟩
          refine WT.q rfl (Wn.no rfl) rfl rfl (fun wq hS => R.move (v := (.bool (mayB (u2i ((wordB gb 0) % 8)) ([wordB gb 1, wordB gb 2, wordB gb 3, wordB gb 4] : List UInt64) (wordB gb 5) (decide ((wordB gb 6 : UInt64) = 1)) (u2i ((wordB gb 7) % 20000))))) rfl) ?_
          rcases Bool.eq_false_or_eq_true (mayB (u2i ((wordB gb 0) % 8)) ([wordB gb 1, wordB gb 2, wordB gb 3, wordB gb 4] : List UInt64) (wordB gb 5) (decide ((wordB gb 6 : UInt64) = 1)) (u2i ((wordB gb 7) % 20000))) with c_277 | c_277
          · refine WT.q rfl (Wn.yes rfl rfl (congrArg Value.bool c_277)) rfl rfl (fun wq hS => R.loadA (b := b_223) (off := 0) [] [(1, [(vi (u2i ((wordB gb 0) % 8)))]), (4, ([wordB gb 1, wordB gb 2, wordB gb 3, wordB gb 4] : List UInt64).map vu64), (1, [(vu64 (wordB gb 5))]), (1, [(.bool (decide ((wordB gb 6 : UInt64) = 1)))]), (1, [(vi (u2i ((wordB gb 7) % 20000)))])] [] (cs := flat [(1, [(vi (u2i ((wordB gb 0) % 8)))]), (4, ([wordB gb 1, wordB gb 2, wordB gb 3, wordB gb 4] : List UInt64).map vu64), (1, [(vu64 (wordB gb 5))]), (1, [(.bool (decide ((wordB gb 6 : UInt64) = 1)))]), (1, [(vi (u2i ((wordB gb 7) % 20000)))])]) rfl Try.isAgg40 Try.sizeOf40 (hS _ (.tail _ (.head _))) rfl rfl rfl rfl) ?_
            refine WT.q rfl (Wn.yes rfl rfl (congrArg Value.bool c_277)) rfl rfl (fun wq hS => R.loadA (b := b_7) (off := 0) [] [(128, gb.map vu8)] [] (cs := gb.map vu8) rfl Try.isAgg53 Try.sizeOf53 (hS _ (.tail _ (.tail _ (.tail _ (.head _))))) rfl rfl rfl rfl) ?_
            refine WT.s ?_
            refine Op1.one rfl (Wn.yes rfl rfl (congrArg Value.bool c_277)) ?_
            refine WL.call (al := [(.agg ⟨flat [(1, [(vi (u2i ((wordB gb 0) % 8)))]), (4, ([wordB gb 1, wordB gb 2, wordB gb 3, wordB gb 4] : List UInt64).map vu64), (1, [(vu64 (wordB gb 5))]), (1, [(.bool (decide ((wordB gb 6 : UInt64) = 1)))]), (1, [(vi (u2i ((wordB gb 7) % 20000)))])]⟩)]) Try.call40 rfl rfl (c_out14 (u2i ((wordB gb 0) % 8)) ([wordB gb 1, wordB gb 2, wordB gb 3, wordB gb 4] : List UInt64) (rfl : List.length ([wordB gb 1, wordB gb 2, wordB gb 3, wordB gb 4] : List UInt64) = 4) (wordB gb 5) (decide ((wordB gb 6 : UInt64) = 1)) (u2i ((wordB gb 7) % 20000)) _ ) rfl ?_
            rintro _ w_279 ⟨rfl, hc_278⟩
            have h_280 := h_276.same hc_278
            refine WL.nil ?_
            refine ⟨(SL.cons (h_280.ok _ (.head _)) (SL.cons (h_280.ok _ (.tail _ (.head _))) (SL.cons (h_280.ok _ (.tail _ (.tail _ (.head _)))) (SL.cons (h_280.ok _ (.tail _ (.tail _ (.tail _ (.head _))))) (SL.cons (h_280.ok _ (.tail _ (.tail _ (.tail _ (.tail _ (.head _)))))) (SL.cons (h_280.ok _ (.tail _ (.tail _ (.tail _ (.tail _ (.tail _ (.head _))))))) (SL.nil _ _))))))), ?_⟩
            refine WT.q rfl (Wn.yes rfl rfl (congrArg Value.bool c_277)) rfl rfl (fun wq hS => R.eqA (xs := (formB (u2i ((wordB gb 0) % 8)) ([wordB gb 1, wordB gb 2, wordB gb 3, wordB gb 4] : List UInt64) (wordB gb 5) (decide ((wordB gb 6 : UInt64) = 1)) (u2i ((wordB gb 7) % 20000))).map vu8) (ys := gb.map vu8) (r := decide (formB (u2i ((wordB gb 0) % 8)) ([wordB gb 1, wordB gb 2, wordB gb 3, wordB gb 4] : List UInt64) (wordB gb 5) (decide ((wordB gb 6 : UInt64) = 1)) (u2i ((wordB gb 7) % 20000)) = gb)) rfl rfl Try.eqGuardType53 kt53 (by decide) ag53 (Typ.u8s Try.underlying53 ce53 Try.underlying5 ce5 (formB_len (rfl : List.length ([wordB gb 1, wordB gb 2, wordB gb 3, wordB gb 4] : List UInt64) = 4))) (Typ.u8s Try.underlying53 ce53 Try.underlying5 ce5 hgb) (map_inj_u8.trans (decT _))) ?_
            refine WT.q rfl (Wn.no rfl) rfl rfl (fun wq hS => R.pickT (v := (.bool (decide (formB (u2i ((wordB gb 0) % 8)) ([wordB gb 1, wordB gb 2, wordB gb 3, wordB gb 4] : List UInt64) (wordB gb 5) (decide ((wordB gb 6 : UInt64) = 1)) (u2i ((wordB gb 7) % 20000)) = gb)))) (congrArg Value.bool c_277) rfl) ?_
            refine WT.nil ?_
            refine thn_n ?_
            refine WP.condF (congrArg Value.bool (decide_eq_false (fun h => ho_244 (okOut_of c_277 h)))) ?_
            refine WP.skip ?_
            refine thn_n ?_
            refine WP.seq ?_
            refine WP.reg ?_
            refine WL.q (Wn.no rfl) rfl rfl (R.move (v := (vi 4)) rfl) ?_
            refine WL.q (Wn.no rfl) rfl rfl (R.bin (v := (.bool true)) rfl rfl (bi_eql (r := true) (by decide))) ?_
            refine WL.q (Wn.no rfl) rfl rfl (R.move (v := (.bool true)) rfl) ?_
            refine WL.want rfl rfl ?_
            refine WL.q (Wn.no rfl) rfl rfl (R.loadA (b := b_266) (off := 0) [] [(1, [(vi 0)]), (4, (List.replicate 4 (0 : UInt64)).map vu64), (1, [(vu64 0)]), (1, [(.bool false)]), (1, [(vi 0)])] [] (cs := flat [(1, [(vi 0)]), (4, (List.replicate 4 (0 : UInt64)).map vu64), (1, [(vu64 0)]), (1, [(.bool false)]), (1, [(vi 0)])]) rfl Try.isAgg40 Try.sizeOf40 (h_280.ok _ (.head _)) rfl rfl rfl rfl) ?_
            refine WL.want rfl rfl ?_
            refine WL.q (Wn.no rfl) rfl rfl (R.buildS (pl := [(0, 1), (1, 4), (5, 1), (6, 1), (7, 1)]) (zs := [(1, [(vi 0)]), (4, (List.replicate 4 (0 : UInt64)).map vu64), (1, [(vu64 0)]), (1, [(.bool false)]), (1, [(vi 0)])]) (vs := []) (out := [(1, [(vi 0)]), (4, (List.replicate 4 (0 : UInt64)).map vu64), (1, [(vu64 0)]), (1, [(.bool false)]), (1, [(vi 0)])]) (cs := flat [(1, [(vi 0)]), (4, (List.replicate 4 (0 : UInt64)).map vu64), (1, [(vu64 0)]), (1, [(.bool false)]), (1, [(vi 0)])]) Try.underlying40 (zv Try.typeInfo40 rfl) rfl (SsOk.cons (SOk.v rfl) (SsOk.cons (SOk.u64 (List.length_replicate ..)) (SsOk.cons (SOk.v rfl) (SsOk.cons (SOk.v rfl) (SsOk.cons (SOk.v rfl) SsOk.nil))))) (pl40 _ Try.underlying40) rfl FillR.nil rfl) ?_
            refine WL.want rfl rfl ?_
            refine WL.q (Wn.no rfl) rfl rfl (R.eqA (xs := flat [(1, [(vi 0)]), (4, (List.replicate 4 (0 : UInt64)).map vu64), (1, [(vu64 0)]), (1, [(.bool false)]), (1, [(vi 0)])]) (ys := flat [(1, [(vi 0)]), (4, (List.replicate 4 (0 : UInt64)).map vu64), (1, [(vu64 0)]), (1, [(.bool false)]), (1, [(vi 0)])]) (r := true) rfl rfl Try.eqGuardType40 kt40 (by decide) ag40 (Typ.struct (h := 2) (r := [(1, [(vi 0)]), (4, (List.replicate 4 (0 : UInt64)).map vu64), (1, [(vu64 0)]), (1, [(.bool false)]), (1, [(vi 0)])]) (cs := flat [(1, [(vi 0)]), (4, (List.replicate 4 (0 : UInt64)).map vu64), (1, [(vu64 0)]), (1, [(.bool false)]), (1, [(vi 0)])]) Try.underlying40 (TypF.cons (k := 1) rfl rfl (by decide) rfl (Typ.int Try.underlying38 ce38 (by decide)) (TypF.cons (k := 4) rfl rfl (by decide) (len_map (List.length_replicate ..)) (Typ.u64s Try.underlying29 ce29 Try.underlying22 ce22 (List.length_replicate ..)) (TypF.cons (k := 1) rfl rfl (by decide) rfl (Typ.int Try.underlying22 ce22 (wfu64 0)) (TypF.cons (k := 1) rfl rfl (by decide) rfl (Typ.bool Try.underlying4 ce4) (TypF.cons (k := 1) rfl rfl (by decide) rfl (Typ.int Try.underlying3 ce3 (by decide)) TypF.nil))))) rfl (((SsOk.cons (SOk.v rfl) (SsOk.cons (SOk.u64 (List.length_replicate ..)) (SsOk.cons (SOk.v rfl) (SsOk.cons (SOk.v rfl) (SsOk.cons (SOk.v rfl) SsOk.nil)))))).len.trans ce40.symm)) (Typ.struct (h := 2) (r := [(1, [(vi 0)]), (4, (List.replicate 4 (0 : UInt64)).map vu64), (1, [(vu64 0)]), (1, [(.bool false)]), (1, [(vi 0)])]) (cs := flat [(1, [(vi 0)]), (4, (List.replicate 4 (0 : UInt64)).map vu64), (1, [(vu64 0)]), (1, [(.bool false)]), (1, [(vi 0)])]) Try.underlying40 (TypF.cons (k := 1) rfl rfl (by decide) rfl (Typ.int Try.underlying38 ce38 (by decide)) (TypF.cons (k := 4) rfl rfl (by decide) (len_map (List.length_replicate ..)) (Typ.u64s Try.underlying29 ce29 Try.underlying22 ce22 (List.length_replicate ..)) (TypF.cons (k := 1) rfl rfl (by decide) rfl (Typ.int Try.underlying22 ce22 (wfu64 0)) (TypF.cons (k := 1) rfl rfl (by decide) rfl (Typ.bool Try.underlying4 ce4) (TypF.cons (k := 1) rfl rfl (by decide) rfl (Typ.int Try.underlying3 ce3 (by decide)) TypF.nil))))) rfl (((SsOk.cons (SOk.v rfl) (SsOk.cons (SOk.u64 (List.length_replicate ..)) (SsOk.cons (SOk.v rfl) (SsOk.cons (SOk.v rfl) (SsOk.cons (SOk.v rfl) SsOk.nil)))))).len.trans ce40.symm)) (eqT rfl)) ?_
            refine WL.q (Wn.no rfl) rfl rfl (R.pickT (v := (.bool true)) rfl rfl) ?_
            refine WL.q (Wn.no rfl) rfl rfl (R.move (v := (.bool true)) rfl) ?_
            refine WL.want rfl rfl ?_
            refine WL.call (al := []) Try.call15 rfl rfl (c_known14  _) rfl ?_
            rintro _ w_283 ⟨rfl, hc_282⟩
            have h_284 := h_280.same hc_282
            refine WL.q (Wn.no rfl) rfl rfl (R.pickT (v := (.bool true)) rfl rfl) ?_
            refine WL.q (Wn.no rfl) rfl rfl (R.assign (v := (.bool true)) rfl) ?_
            refine WL.nil ?_
            refine thn_n ?_
            refine WP.ret ?_
            refine ret_of Try.results12 (RV.tmp (v := (.bool true)) rfl RV.nil) ?_
            exact ⟨rfl, h_284.chgS⟩
          · refine WT.skipQ rfl rfl rfl (boolNe (v := .bool false) (congrArg Value.bool c_277) (by decide)) rfl rfl ?_
            refine WT.skipQ rfl rfl rfl (boolNe (v := .bool false) (congrArg Value.bool c_277) (by decide)) rfl rfl ?_
            refine WT.s ?_
            refine Op1.skip rfl rfl rfl (boolNe (v := .bool false) (congrArg Value.bool c_277) (by decide)) rfl rfl ?_
            refine WT.skipQ rfl rfl rfl (boolNe (v := .bool false) (congrArg Value.bool c_277) (by decide)) rfl rfl ?_
            refine WT.q rfl (Wn.no rfl) rfl rfl (fun wq hS => R.pickF (v := (.bool false)) (congrArg Value.bool c_277) rfl) ?_
            refine WT.nil ?_
            refine thn_n ?_
            refine WP.condF rfl ?_
            refine WP.skip ?_
            refine thn_n ?_
            refine WP.seq ?_
            refine WP.reg ?_
            refine WL.q (Wn.no rfl) rfl rfl (R.move (v := (vi 4)) rfl) ?_
            refine WL.q (Wn.no rfl) rfl rfl (R.bin (v := (.bool true)) rfl rfl (bi_eql (r := true) (by decide))) ?_
            refine WL.q (Wn.no rfl) rfl rfl (R.move (v := (.bool true)) rfl) ?_
            refine WL.want rfl rfl ?_
            refine WL.q (Wn.no rfl) rfl rfl (R.loadA (b := b_266) (off := 0) [] [(1, [(vi 0)]), (4, (List.replicate 4 (0 : UInt64)).map vu64), (1, [(vu64 0)]), (1, [(.bool false)]), (1, [(vi 0)])] [] (cs := flat [(1, [(vi 0)]), (4, (List.replicate 4 (0 : UInt64)).map vu64), (1, [(vu64 0)]), (1, [(.bool false)]), (1, [(vi 0)])]) rfl Try.isAgg40 Try.sizeOf40 (h_276.ok _ (.head _)) rfl rfl rfl rfl) ?_
            refine WL.want rfl rfl ?_
            refine WL.q (Wn.no rfl) rfl rfl (R.buildS (pl := [(0, 1), (1, 4), (5, 1), (6, 1), (7, 1)]) (zs := [(1, [(vi 0)]), (4, (List.replicate 4 (0 : UInt64)).map vu64), (1, [(vu64 0)]), (1, [(.bool false)]), (1, [(vi 0)])]) (vs := []) (out := [(1, [(vi 0)]), (4, (List.replicate 4 (0 : UInt64)).map vu64), (1, [(vu64 0)]), (1, [(.bool false)]), (1, [(vi 0)])]) (cs := flat [(1, [(vi 0)]), (4, (List.replicate 4 (0 : UInt64)).map vu64), (1, [(vu64 0)]), (1, [(.bool false)]), (1, [(vi 0)])]) Try.underlying40 (zv Try.typeInfo40 rfl) rfl (SsOk.cons (SOk.v rfl) (SsOk.cons (SOk.u64 (List.length_replicate ..)) (SsOk.cons (SOk.v rfl) (SsOk.cons (SOk.v rfl) (SsOk.cons (SOk.v rfl) SsOk.nil))))) (pl40 _ Try.underlying40) rfl FillR.nil rfl) ?_
            refine WL.want rfl rfl ?_
            refine WL.q (Wn.no rfl) rfl rfl (R.eqA (xs := flat [(1, [(vi 0)]), (4, (List.replicate 4 (0 : UInt64)).map vu64), (1, [(vu64 0)]), (1, [(.bool false)]), (1, [(vi 0)])]) (ys := flat [(1, [(vi 0)]), (4, (List.replicate 4 (0 : UInt64)).map vu64), (1, [(vu64 0)]), (1, [(.bool false)]), (1, [(vi 0)])]) (r := true) rfl rfl Try.eqGuardType40 kt40 (by decide) ag40 (Typ.struct (h := 2) (r := [(1, [(vi 0)]), (4, (List.replicate 4 (0 : UInt64)).map vu64), (1, [(vu64 0)]), (1, [(.bool false)]), (1, [(vi 0)])]) (cs := flat [(1, [(vi 0)]), (4, (List.replicate 4 (0 : UInt64)).map vu64), (1, [(vu64 0)]), (1, [(.bool false)]), (1, [(vi 0)])]) Try.underlying40 (TypF.cons (k := 1) rfl rfl (by decide) rfl (Typ.int Try.underlying38 ce38 (by decide)) (TypF.cons (k := 4) rfl rfl (by decide) (len_map (List.length_replicate ..)) (Typ.u64s Try.underlying29 ce29 Try.underlying22 ce22 (List.length_replicate ..)) (TypF.cons (k := 1) rfl rfl (by decide) rfl (Typ.int Try.underlying22 ce22 (wfu64 0)) (TypF.cons (k := 1) rfl rfl (by decide) rfl (Typ.bool Try.underlying4 ce4) (TypF.cons (k := 1) rfl rfl (by decide) rfl (Typ.int Try.underlying3 ce3 (by decide)) TypF.nil))))) rfl (((SsOk.cons (SOk.v rfl) (SsOk.cons (SOk.u64 (List.length_replicate ..)) (SsOk.cons (SOk.v rfl) (SsOk.cons (SOk.v rfl) (SsOk.cons (SOk.v rfl) SsOk.nil)))))).len.trans ce40.symm)) (Typ.struct (h := 2) (r := [(1, [(vi 0)]), (4, (List.replicate 4 (0 : UInt64)).map vu64), (1, [(vu64 0)]), (1, [(.bool false)]), (1, [(vi 0)])]) (cs := flat [(1, [(vi 0)]), (4, (List.replicate 4 (0 : UInt64)).map vu64), (1, [(vu64 0)]), (1, [(.bool false)]), (1, [(vi 0)])]) Try.underlying40 (TypF.cons (k := 1) rfl rfl (by decide) rfl (Typ.int Try.underlying38 ce38 (by decide)) (TypF.cons (k := 4) rfl rfl (by decide) (len_map (List.length_replicate ..)) (Typ.u64s Try.underlying29 ce29 Try.underlying22 ce22 (List.length_replicate ..)) (TypF.cons (k := 1) rfl rfl (by decide) rfl (Typ.int Try.underlying22 ce22 (wfu64 0)) (TypF.cons (k := 1) rfl rfl (by decide) rfl (Typ.bool Try.underlying4 ce4) (TypF.cons (k := 1) rfl rfl (by decide) rfl (Typ.int Try.underlying3 ce3 (by decide)) TypF.nil))))) rfl (((SsOk.cons (SOk.v rfl) (SsOk.cons (SOk.u64 (List.length_replicate ..)) (SsOk.cons (SOk.v rfl) (SsOk.cons (SOk.v rfl) (SsOk.cons (SOk.v rfl) SsOk.nil)))))).len.trans ce40.symm)) (eqT rfl)) ?_
            refine WL.q (Wn.no rfl) rfl rfl (R.pickT (v := (.bool true)) rfl rfl) ?_
            refine WL.q (Wn.no rfl) rfl rfl (R.move (v := (.bool true)) rfl) ?_
            refine WL.want rfl rfl ?_
            refine WL.call (al := []) Try.call15 rfl rfl (c_known14  _) rfl ?_
            rintro _ w_287 ⟨rfl, hc_286⟩
            have h_288 := h_276.same hc_286
            refine WL.q (Wn.no rfl) rfl rfl (R.pickT (v := (.bool true)) rfl rfl) ?_
            refine WL.q (Wn.no rfl) rfl rfl (R.assign (v := (.bool true)) rfl) ?_
            refine WL.nil ?_
            refine thn_n ?_
            refine WP.ret ?_
            refine ret_of Try.results12 (RV.tmp (v := (.bool true)) rfl RV.nil) ?_
            exact ⟨rfl, h_288.chgS⟩
namespace recFormsDone
open Go.ChangeShapes Go.WideShapes Go.ChangeAt
theorem own : ownKnob Try.prog.godebug = none := by kernel_rfl
theorem laidOut : laidOutB Try.prog = true := by kernel_rfl
set_option maxRecDepth 100000 in
theorem lifted (os : Os) (started : os.Started) (H : Type) (enc : TypeId × Value → H) :
    ReturnsInHanded {} Try.checked os 12 .any (Rows.recFormsSpec.pre6 enc Try.prog Try.f12 Rows.recFormsRow.domain false) (Rows.recFormsSpec.post enc Try.prog Try.f12 false true false false) := by
  refine returnsInHanded_of_change (C := Try.checked) own started (by kernel_rfl) Try.func12
    (ChangeSpec.witness6 (enc := enc) (C := Try.checked) false ⟨#[], #[.agg #[.int .u64 0, .int .u64 0, .int .u64 0, .int .u64 0], .agg #[.int .i64 0, .int .u64 0, .int .u64 0, .int .u64 0, .int .u64 0, .int .u64 0, .bool false, .int .i64 0], .agg #[.int .u8 0, .int .u8 0, .int .u8 0, .int .u8 0, .int .u8 0, .int .u8 0, .int .u8 0, .int .u8 0, .int .u8 0, .int .u8 0, .int .u8 0, .int .u8 0, .int .u8 0, .int .u8 0, .int .u8 0, .int .u8 0, .int .u8 0, .int .u8 0, .int .u8 0, .int .u8 0, .int .u8 0, .int .u8 0, .int .u8 0, .int .u8 0, .int .u8 0, .int .u8 0, .int .u8 0, .int .u8 0, .int .u8 0, .int .u8 0, .int .u8 0, .int .u8 0, .int .u8 0, .int .u8 0, .int .u8 0, .int .u8 0, .int .u8 0, .int .u8 0, .int .u8 0, .int .u8 0, .int .u8 0, .int .u8 0, .int .u8 0, .int .u8 0, .int .u8 0, .int .u8 0, .int .u8 0, .int .u8 0, .int .u8 0, .int .u8 0, .int .u8 0, .int .u8 0, .int .u8 0, .int .u8 0, .int .u8 0, .int .u8 0, .int .u8 0, .int .u8 0, .int .u8 0, .int .u8 0, .int .u8 0, .int .u8 0, .int .u8 0, .int .u8 0, .int .u8 0, .int .u8 0, .int .u8 0, .int .u8 0, .int .u8 0, .int .u8 0, .int .u8 0, .int .u8 0, .int .u8 0, .int .u8 0, .int .u8 0, .int .u8 0, .int .u8 0, .int .u8 0, .int .u8 0, .int .u8 0, .int .u8 0, .int .u8 0, .int .u8 0, .int .u8 0, .int .u8 0, .int .u8 0, .int .u8 0, .int .u8 0, .int .u8 0, .int .u8 0, .int .u8 0, .int .u8 0, .int .u8 0, .int .u8 0, .int .u8 0, .int .u8 0, .int .u8 0, .int .u8 0, .int .u8 0, .int .u8 0, .int .u8 0, .int .u8 0, .int .u8 0, .int .u8 0, .int .u8 0, .int .u8 0, .int .u8 0, .int .u8 0, .int .u8 0, .int .u8 0, .int .u8 0, .int .u8 0, .int .u8 0, .int .u8 0, .int .u8 0, .int .u8 0, .int .u8 0, .int .u8 0, .int .u8 0, .int .u8 0, .int .u8 0, .int .u8 0, .int .u8 0, .int .u8 0, .int .u8 0, .int .u8 0, .int .u8 0, .int .u8 0]], []⟩ 8 (by kernel_rfl) (by kernel_rfl) (by kernel_rfl) (by kernel_rfl)) ?_
  intro W base args ds gs before hval0 hW hcnd _
  have hval : ∀ (j : Nat) t v, Try.f12.params[j]? = some t → args[j]? = some v → Value.okWide Try.prog W .any base t v := hval0
  have hW' := hW
  obtain ⟨p, q, hA0, hV, rfl, hfz, hnd⟩ := hW
  have hA : DataW.TrodAll enc Try.prog W 0 (fun _ => true) true Try.f12.params.toList args.toList ds p := hA0
  rw [Try.params12] at hA hval
  obtain ⟨v0, vs0, d0, ds0, p0, q0, hargs, rfl, rfl, h0, r0⟩ := trodAll_cons hA
  obtain ⟨v1, vs1, d1, ds1, p1, q1, rfl, rfl, rfl, h1, r1⟩ := trodAll_cons r0
  obtain ⟨v2, vs2, d2, ds2, p2, q2, rfl, rfl, rfl, h2, r2⟩ := trodAll_cons r1
  obtain ⟨rfl, rfl, rfl⟩ := trodAll_nil r2
  obtain rfl : args = #[v0, v1, v2] := by cases args; simp_all
  obtain ⟨rfl, rfl⟩ := trodVars_none hV
  have lt0 : ∀ x ∈ p0, x.block < W.heap.size := by obtain ⟨m, hm⟩ := h0; exact DataW.trod_lt m _ _ _ hm
  obtain ⟨cs0, rfl⟩ := okWide_agg aggT31 (hval 0 31 v0 rfl rfl)
  have tr0 : Tr Try.prog W 31 cs0 := Tr.of h0 rfl
  have tl_x0 := Tr.struct (l := [(4, 29)]) Try.underlying31 ce31 (by kernel_rfl) tr0
  obtain ⟨a_x00, r_x00, rfl, n_x00, t_x00, tl_x00⟩ := tl_x0
  obtain ⟨x00, rfl, l_x00⟩ := Tr.arr64 Try.underlying29 ce29 ce22 Try.underlying22 t_x00
  obtain rfl := tl_x00
  have lt1 : ∀ x ∈ p1, x.block < W.heap.size := by obtain ⟨m, hm⟩ := h1; exact DataW.trod_lt m _ _ _ hm
  obtain ⟨cs1, rfl⟩ := okWide_agg aggT40 (hval 1 40 v1 rfl rfl)
  have tr1 : Tr Try.prog W 40 cs1 := Tr.of h1 rfl
  have tl_x1 := Tr.struct (l := [(1, 38), (4, 29), (1, 22), (1, 4), (1, 3)]) Try.underlying40 ce40 (by kernel_rfl) tr1
  obtain ⟨a_x10, r_x10, rfl, n_x10, t_x10, tl_x10⟩ := tl_x1
  obtain ⟨x10, rfl, b_x10⟩ := Tr.i64 Try.underlying38 t_x10
  obtain ⟨a_x11, r_x11, rfl, n_x11, t_x11, tl_x11⟩ := tl_x10
  obtain ⟨x11, rfl, l_x11⟩ := Tr.arr64 Try.underlying29 ce29 ce22 Try.underlying22 t_x11
  obtain ⟨a_x12, r_x12, rfl, n_x12, t_x12, tl_x12⟩ := tl_x11
  obtain ⟨x12, rfl⟩ := Tr.u64 Try.underlying22 t_x12
  obtain ⟨a_x13, r_x13, rfl, n_x13, t_x13, tl_x13⟩ := tl_x12
  obtain ⟨x13, rfl⟩ := Tr.bool Try.underlying4 t_x13
  obtain ⟨a_x14, r_x14, rfl, n_x14, t_x14, tl_x14⟩ := tl_x13
  obtain ⟨x14, rfl, b_x14⟩ := Tr.i64 Try.underlying3 t_x14
  obtain rfl := tl_x14
  have lt2 : ∀ x ∈ p2, x.block < W.heap.size := by obtain ⟨m, hm⟩ := h2; exact DataW.trod_lt m _ _ _ hm
  obtain ⟨cs2, rfl⟩ := okWide_agg aggT53 (hval 2 53 v2 rfl rfl)
  have tr2 : Tr Try.prog W 53 cs2 := Tr.of h2 rfl
  obtain ⟨x2, rfl, l_x2⟩ := Tr.arr8 Try.underlying53 ce53 ce5 Try.underlying5 tr2
  clear hA0 hval0
  have hw : Cs Try.prog 12 [(.agg ⟨x00.map vu64⟩), (.agg ⟨flat [(1, [(vi x10)]), (4, x11.map vu64), (1, [(vu64 x12)]), (1, [(.bool x13)]), (1, [(vi x14)])]⟩), (.agg ⟨x2.map vu8⟩)].toArray W (fun v w1 => v = .bool true ∧ Chg W w1 []) := w_RecForms x00 l_x00 x10 x11 l_x11 x12 x13 x14 b_x10 b_x14 x2 l_x2 W
  have ea : ([(.agg ⟨x00.map vu64⟩), (.agg ⟨flat [(1, [(vi x10)]), (4, x11.map vu64), (1, [(vu64 x12)]), (1, [(.bool x13)]), (1, [(vi x14)])]⟩), (.agg ⟨x2.map vu8⟩)] : List Value).toArray = (#[.agg ⟨(x00.map vu64 ++ [])⟩, .agg ⟨([vi x10] ++ (x11.map vu64 ++ ([vu64 x12] ++ ([.bool x13] ++ ([vi x14] ++ [])))))⟩, .agg ⟨x2.map vu8⟩] : Array Value) := by simp [flat]
  rw [ea] at hw
  refine Calls.mono (Cs.below hw) fun e W' ⟨he, bel⟩ => ?_
  subst he
  exact ⟨_, rfl, _, _, _, [], _, [], hW', trodAll_mk1 (shut_bool Try.underlying4 _), (trodAll_cons_mk (Below.trod laidOut (by kernel_rfl) (of_decide_eq_true (by kernel_rfl)) h0 bel lt0) (trodAll_cons_mk (Below.trod laidOut (by kernel_rfl) (of_decide_eq_true (by kernel_rfl)) h1 bel lt1) (trodAll_cons_mk (Below.trod laidOut (by kernel_rfl) (of_decide_eq_true (by kernel_rfl)) h2 bel lt2) trodAll_mk0))), rfl, bel.frame _, fun h => by cases h⟩
theorem over : Rows.recFormsRow.holds Try.pinned (OpenSpec.ofChange Rows.recFormsSpec) :=
  OpenClaim.holds_of_wide 12 Try.f12 rfl rfl rfl rfl rfl rfl rfl ⟨rfl, rfl, rfl, rfl, rfl⟩ rfl rfl rfl rfl rfl (by kernel_rfl) Try.func12 (by kernel_rfl)
    (of_decide_eq_true (by kernel_rfl)) (by unfold Func.isWrapper; first | (rw [if_pos (by decide +kernel)]; kernel_rfl) | (rw [if_neg (by decide +kernel)]; exact ⟨rfl, rfl⟩))
    (fun os started H enc _ => lifted os started H enc)
theorem proved : Rows.RecFormsSaid := over
end recFormsDone
end Go.Proofs.Ythkcekgemanfdaa
