/- RecRests holds of every input. Conditions: none. Part of the walk. -/
import Derived.Test.YthkcekgemanfdaaB3
namespace Go.Proofs.Ythkcekgemanfdaa
open Go.Vc Go.RowKit
set_option linter.unusedVariables false
set_option linter.unusedSimpArgs false
set_option maxRecDepth 20000
theorem w_RecRests_a (rd : Int) (ins : UInt64) (regs : List UInt64) (hr : regs.length = 8) (pc : UInt64) (ain : List UInt64) (ha : ain.length = 4) (rs : Int) (ors : List UInt64) (hor : ors.length = 4) (adr : UInt64) (wr : Bool) (ran : Int) (b_rd : -9223372036854775808 ≤ rd ∧ rd < 9223372036854775808) (wt : Int) (b_wt : -9223372036854775808 ≤ wt ∧ wt < 9223372036854775808) (w : World) :
    Cs Try.prog 9 [(.agg ⟨flat [(1, [(vi rd)]), (1, [(vu64 ins)]), (8, regs.map vu64), (1, [(vu64 pc)]), (1, [(.bool false)]), (1, [(vi wt)])]⟩), (.agg ⟨ain.map vu64⟩), (.agg ⟨flat [(1, [(vi rs)]), (4, ors.map vu64), (1, [(vu64 adr)]), (1, [(.bool wr)]), (1, [(vi ran)])]⟩)].toArray w (fun v w1 => v = .bool true ∧ Chg w w1 []) := by
  refine Cs.of (n := 118) (args := [(.agg ⟨flat [(1, [(vi rd)]), (1, [(vu64 ins)]), (8, regs.map vu64), (1, [(vu64 pc)]), (1, [(.bool false)]), (1, [(vi wt)])]⟩), (.agg ⟨ain.map vu64⟩), (.agg ⟨flat [(1, [(vi rs)]), (4, ors.map vu64), (1, [(vu64 adr)]), (1, [(.bool wr)]), (1, [(vi ran)])]⟩)]) Try.func9 rfl rfl rfl ?_
  have h_0 := HP.init w
  refine WP.seq ?_
  refine WP.reg ?_
  refine WL.box (v := (.agg ⟨flat [(1, [(vi rd)]), (1, [(vu64 ins)]), (8, regs.map vu64), (1, [(vu64 pc)]), (1, [(.bool false)]), (1, [(vi wt)])]⟩)) (segs := [(1, [(vi rd)]), (1, [(vu64 ins)]), (8, regs.map vu64), (1, [(vu64 pc)]), (1, [(.bool false)]), (1, [(vi wt)])]) h_0 rfl rfl (SsOk.cons (SOk.v rfl) (SsOk.cons (SOk.v rfl) (SsOk.cons (SOk.u64 hr) (SsOk.cons (SOk.v rfl) (SsOk.cons (SOk.v rfl) (SsOk.cons (SOk.v rfl) SsOk.nil)))))) rfl (fun b_1 w_2 h_3 => ?_)
  refine WL.box (v := (.agg ⟨ain.map vu64⟩)) (segs := [(4, ain.map vu64)]) h_3 rfl rfl (SsOk.cons (SOk.u64 ha) SsOk.nil) rfl (fun b_4 w_5 h_6 => ?_)
  refine WL.box (v := (.agg ⟨flat [(1, [(vi rs)]), (4, ors.map vu64), (1, [(vu64 adr)]), (1, [(.bool wr)]), (1, [(vi ran)])]⟩)) (segs := [(1, [(vi rs)]), (4, ors.map vu64), (1, [(vu64 adr)]), (1, [(.bool wr)]), (1, [(vi ran)])]) h_6 rfl rfl (SsOk.cons (SOk.v rfl) (SsOk.cons (SOk.u64 hor) (SsOk.cons (SOk.v rfl) (SsOk.cons (SOk.v rfl) (SsOk.cons (SOk.v rfl) SsOk.nil))))) rfl (fun b_7 w_8 h_9 => ?_)
  refine WL.q (Wn.no rfl) rfl rfl (R.assign (v := (.bool false)) rfl) ?_
  refine WL.nil ?_
  refine thn_n ?_
  refine WP.g1 (G := Unit) [6, 7, 8, 9, 15, 16, 17, 18, 19, 20, 21, 22, 23, 24, 25, 26, 27, 28, 29, 30, 31, 32, 33, 34, 35, 36, 37, 38] (fun _ => [(6, (.bool false)), (15, (.agg ⟨flat [(1, [(vi rs)]), (4, ors.map vu64), (1, [(vu64 adr)]), (1, [(.bool wr)]), (1, [(vi ran)])]⟩))]) (fun _ w1 => HP w w1 [.blk b_7 .nw 40 [(1, [(vi rs)]), (4, ors.map vu64), (1, [(vu64 adr)]), (1, [(.bool wr)]), (1, [(vi ran)])], .blk b_4 .nw 31 [(4, ain.map vu64)], .blk b_1 .nw 28 [(1, [(vi rd)]), (1, [(vu64 ins)]), (8, regs.map vu64), (1, [(vu64 pc)]), (1, [(.bool false)]), (1, [(vi wt)])]]) ?_ ?_
  · refine WP.seq ?_
    refine WP.reg ?_
    refine WL.q (Wn.no rfl) rfl rfl (R.loadA (b := b_7) (off := 0) [] [(1, [(vi rs)]), (4, ors.map vu64), (1, [(vu64 adr)]), (1, [(.bool wr)]), (1, [(vi ran)])] [] (cs := flat [(1, [(vi rs)]), (4, ors.map vu64), (1, [(vu64 adr)]), (1, [(.bool wr)]), (1, [(vi ran)])]) rfl Try.isAgg40 Try.sizeOf40 (h_9.ok _ (.head _)) rfl rfl rfl rfl) ?_
    refine WL.call (al := [(.agg ⟨flat [(1, [(vi rs)]), (4, ors.map vu64), (1, [(vu64 adr)]), (1, [(.bool wr)]), (1, [(vi ran)])]⟩)]) Try.call29 rfl rfl (c_may14 rs ors hor adr wr ran _ ) rfl ?_
    rintro _ w_11 ⟨rfl, hc_10⟩
    have h_12 := h_9.same hc_10
    refine WL.q (Wn.no rfl) rfl rfl (R.move (v := (.bool (mayB rs ors adr wr ran))) rfl) ?_
    rcases Bool.eq_false_or_eq_true (mayB rs ors adr wr ran) with c_13 | c_13
    · refine WL.want rfl (congrArg Value.bool c_13) ?_
      refine WL.q (Wn.no rfl) rfl rfl (R.fieldAddr (b := b_7) (off := 0) (off' := 0) rfl Try.underlying40 rfl Try.sizeOf38 rfl rfl) ?_
      refine WL.want rfl (congrArg Value.bool c_13) ?_
      refine WL.q (Wn.no rfl) rfl rfl (R.load1 (b := b_7) (off := 0) (v := (vi rs)) rfl Try.isAgg38 (h_12.ok _ (.head _)) Sg.h) ?_
      refine WL.want rfl (congrArg Value.bool c_13) ?_
      refine WL.q (Wn.no rfl) rfl rfl (R.bin (v := (.bool (decide ((rs : Int) ≠ 2)))) rfl rfl (bi_neq (r := decide ((rs : Int) ≠ 2)) rfl)) ?_
      refine WL.q (Wn.no rfl) rfl rfl (R.pickT (v := (.bool (decide ((rs : Int) ≠ 2)))) (congrArg Value.bool c_13) rfl) ?_
      refine WL.nil ?_
      refine thn_n ?_
      refine WP.cond (b := decide ((rs : Int) ≠ 2)) rfl (fun c_14 => ?_) (fun c_14 => ?_)
      · have p_15 := of_decide_eq_true c_14
        refine WP.seq ?_
        refine WP.reg ?_
        refine WL.q (Wn.no rfl) rfl rfl (R.loadA (b := b_7) (off := 0) [] [(1, [(vi rs)]), (4, ors.map vu64), (1, [(vu64 adr)]), (1, [(.bool wr)]), (1, [(vi ran)])] [] (cs := flat [(1, [(vi rs)]), (4, ors.map vu64), (1, [(vu64 adr)]), (1, [(.bool wr)]), (1, [(vi ran)])]) rfl Try.isAgg40 Try.sizeOf40 (h_12.ok _ (.head _)) rfl rfl rfl rfl) ?_
        refine WL.call (al := [(.agg ⟨flat [(1, [(vi rs)]), (4, ors.map vu64), (1, [(vu64 adr)]), (1, [(.bool wr)]), (1, [(vi ran)])]⟩)]) Try.call30 rfl rfl (c_OutBytes rs ors hor adr wr ran c_13 _ ) rfl ?_
        rintro _ w_17 ⟨rfl, hc_16⟩
        have h_18 := h_12.same hc_16
        refine WL.q (Wn.no rfl) rfl rfl (R.move (v := (.tuple [(.agg ⟨(formB rs ors adr wr ran).map vu8⟩), (vi 0)].toArray)) rfl) ?_
        refine WL.q (Wn.no rfl) rfl rfl (R.extract (l := [(.agg ⟨(formB rs ors adr wr ran).map vu8⟩), (vi 0)]) (v := (.agg ⟨(formB rs ors adr wr ran).map vu8⟩)) rfl rfl) ?_
        refine WL.q (Wn.no rfl) rfl rfl (R.extract (l := [(.agg ⟨(formB rs ors adr wr ran).map vu8⟩), (vi 0)]) (v := (vi 0)) rfl rfl) ?_
        refine WL.alloc (segs := [(128, (List.replicate 128 (0 : UInt8)).map vu8)]) h_18 (zv Try.typeInfo53 rfl) rfl (SsOk.cons (SOk.u8 (List.length_replicate ..)) SsOk.nil) rfl (fun b_19 w_20 h_21 => ?_)
        refine WL.storeA (b := b_19) (off := 0) [] [(128, (List.replicate 128 (0 : UInt8)).map vu8)] [(128, (formB rs ors adr wr ran).map vu8)] [] (ys := (formB rs ors adr wr ran).map vu8) h_21 rfl rfl Try.sizeOf53 At.h (by decide) rfl rfl rfl rfl rfl rfl (SsOk.cons (SOk.u8 (formB_len hor)) SsOk.nil) (fun w_22 h_23 => ?_)
        refine WL.q (Wn.no rfl) rfl rfl (R.assign (v := (vi 0)) rfl) ?_
        refine WL.nil ?_
        refine thn_n ?_
        refine WP.seq ?_
        refine WP.reg ?_
        refine WL.q (Wn.no rfl) rfl rfl (R.assign (v := (vi 1)) rfl) ?_
        refine WL.nil ?_
        refine thn_n ?_
        refine WP.block ?_
        refine WP.loopU (WI.round ?_)
        refine WP.seq ?_
        refine WP.seq ?_
        refine WP.reg ?_
        refine WL.q (Wn.no rfl) rfl rfl (R.move (v := (vi 1)) rfl) ?_
        refine WL.q (Wn.no rfl) rfl rfl (R.bin (v := (.bool true)) rfl rfl (bi_lss (r := true) (by decide))) ?_
        refine WL.nil ?_
        refine thn_n ?_
        refine WP.condT rfl ?_
        refine WP.skip ?_
        refine thn_n ?_
        refine WP.seq ?_
        refine WP.block ?_
        refine WP.seq ?_
        refine WP.reg ?_
        refine WL.q (Wn.no rfl) rfl rfl (R.move (v := (vi 0)) rfl) ?_
        refine WL.q (Wn.no rfl) rfl rfl (R.bin (v := (.bool false)) rfl rfl (bi_neq (r := false) (by decide))) ?_
        refine WL.q (Wn.no rfl) rfl rfl (R.move (v := (.bool false)) rfl) ?_
        refine WL.want rfl rfl ?_
        refine WL.q (Wn.no rfl) rfl rfl (R.loadA (b := b_19) (off := 0) [] [(128, (formB rs ors adr wr ran).map vu8)] [] (cs := (formB rs ors adr wr ran).map vu8) rfl Try.isAgg53 Try.sizeOf53 (h_23.ok _ (.head _)) rfl rfl rfl rfl) ?_
        refine WL.want rfl rfl ?_
        refine WL.q (Wn.no rfl) rfl rfl (R.move (v := (vi 1)) rfl) ?_
        refine WL.want rfl rfl ?_
        refine WL.call (al := [(.agg ⟨(formB rs ors adr wr ran).map vu8⟩), (vi 1)]) Try.call31 rfl rfl (c_word14 (formB rs ors adr wr ran) (formB_len hor) 1 (by omega) _ ) rfl ?_
        rintro _ w_25 ⟨rfl, hc_24⟩
        have h_26 := h_23.same hc_24
        refine WL.want rfl rfl ?_
        refine WL.q (Wn.no rfl) rfl rfl (R.bin (v := (.bool (decide ((wordB (formB rs ors adr wr ran) 1 : UInt64) ≠ 0)))) rfl rfl (b64_neq (wordB (formB rs ors adr wr ran) 1) 0 (r := decide ((wordB (formB rs ors adr wr ran) 1 : UInt64) ≠ 0)) rfl)) ?_
        refine WL.q (Wn.no rfl) rfl rfl (R.pickF (v := (.bool (decide ((wordB (formB rs ors adr wr ran) 1 : UInt64) ≠ 0)))) rfl rfl) ?_
        refine WL.nil ?_
        refine thn_n ?_
        refine WP.condF (congrArg Value.bool (decide_eq_false (not_not_intro (rest_zero c_13 p_15 (by decide) (by decide))))) ?_
        refine WP.skip ?_
        refine inb_n ?_
        refine thn_n ?_
        refine WP.reg ?_
        refine WL.q (Wn.no rfl) rfl rfl (R.move (v := (vi 1)) rfl) ?_
        refine WL.q (Wn.no rfl) rfl rfl (R.bin (v := (vi 2)) rfl rfl (bi_add (c := 2) (by omega) (by omega))) ?_
        refine WL.q (Wn.no rfl) rfl rfl (R.assign (v := (vi 2)) rfl) ?_
        refine WL.nil ?_
        refine thn_n ?_
        refine WI.round ?_
        refine WP.seq ?_
        refine WP.seq ?_
        refine WP.reg ?_
        refine WL.q (Wn.no rfl) rfl rfl (R.move (v := (vi 2)) rfl) ?_
        refine WL.q (Wn.no rfl) rfl rfl (R.bin (v := (.bool true)) rfl rfl (bi_lss (r := true) (by decide))) ?_
        refine WL.nil ?_
        refine thn_n ?_
        refine WP.condT rfl ?_
        refine WP.skip ?_
        refine thn_n ?_
        refine WP.seq ?_
        refine WP.block ?_
        refine WP.seq ?_
        refine WP.reg ?_
        refine WL.q (Wn.no rfl) rfl rfl (R.move (v := (vi 0)) rfl) ?_
        refine WL.q (Wn.no rfl) rfl rfl (R.bin (v := (.bool false)) rfl rfl (bi_neq (r := false) (by decide))) ?_
        refine WL.q (Wn.no rfl) rfl rfl (R.move (v := (.bool false)) rfl) ?_
        refine WL.want rfl rfl ?_
        refine WL.q (Wn.no rfl) rfl rfl (R.loadA (b := b_19) (off := 0) [] [(128, (formB rs ors adr wr ran).map vu8)] [] (cs := (formB rs ors adr wr ran).map vu8) rfl Try.isAgg53 Try.sizeOf53 (h_26.ok _ (.head _)) rfl rfl rfl rfl) ?_
        refine WL.want rfl rfl ?_
        refine WL.q (Wn.no rfl) rfl rfl (R.move (v := (vi 2)) rfl) ?_
        refine WL.want rfl rfl ?_
        refine WL.call (al := [(.agg ⟨(formB rs ors adr wr ran).map vu8⟩), (vi 2)]) Try.call31 rfl rfl (c_word14 (formB rs ors adr wr ran) (formB_len hor) 2 (by omega) _ ) rfl ?_
        rintro _ w_28 ⟨rfl, hc_27⟩
        have h_29 := h_26.same hc_27
        refine WL.want rfl rfl ?_
        refine WL.q (Wn.no rfl) rfl rfl (R.bin (v := (.bool (decide ((wordB (formB rs ors adr wr ran) 2 : UInt64) ≠ 0)))) rfl rfl (b64_neq (wordB (formB rs ors adr wr ran) 2) 0 (r := decide ((wordB (formB rs ors adr wr ran) 2 : UInt64) ≠ 0)) rfl)) ?_
        refine WL.q (Wn.no rfl) rfl rfl (R.pickF (v := (.bool (decide ((wordB (formB rs ors adr wr ran) 2 : UInt64) ≠ 0)))) rfl rfl) ?_
        refine WL.nil ?_
        refine thn_n ?_
        refine WP.condF (congrArg Value.bool (decide_eq_false (not_not_intro (rest_zero c_13 p_15 (by decide) (by decide))))) ?_
        refine WP.skip ?_
        refine inb_n ?_
        refine thn_n ?_
        refine WP.reg ?_
        refine WL.q (Wn.no rfl) rfl rfl (R.move (v := (vi 2)) rfl) ?_
        refine WL.q (Wn.no rfl) rfl rfl (R.bin (v := (vi 3)) rfl rfl (bi_add (c := 3) (by omega) (by omega))) ?_
        refine WL.q (Wn.no rfl) rfl rfl (R.assign (v := (vi 3)) rfl) ?_
        refine WL.nil ?_
        refine thn_n ?_
        refine WI.round ?_
        refine WP.seq ?_
        refine WP.seq ?_
        refine WP.reg ?_
        refine WL.q (Wn.no rfl) rfl rfl (R.move (v := (vi 3)) rfl) ?_
        refine WL.q (Wn.no rfl) rfl rfl (R.bin (v := (.bool true)) rfl rfl (bi_lss (r := true) (by decide))) ?_
        refine WL.nil ?_
        refine thn_n ?_
        refine WP.condT rfl ?_
        refine WP.skip ?_
        refine thn_n ?_
        refine WP.seq ?_
        refine WP.block ?_
        refine WP.seq ?_
        refine WP.reg ?_
        refine WL.q (Wn.no rfl) rfl rfl (R.move (v := (vi 0)) rfl) ?_
        refine WL.q (Wn.no rfl) rfl rfl (R.bin (v := (.bool false)) rfl rfl (bi_neq (r := false) (by decide))) ?_
        refine WL.q (Wn.no rfl) rfl rfl (R.move (v := (.bool false)) rfl) ?_
        refine WL.want rfl rfl ?_
        refine WL.q (Wn.no rfl) rfl rfl (R.loadA (b := b_19) (off := 0) [] [(128, (formB rs ors adr wr ran).map vu8)] [] (cs := (formB rs ors adr wr ran).map vu8) rfl Try.isAgg53 Try.sizeOf53 (h_29.ok _ (.head _)) rfl rfl rfl rfl) ?_
        refine WL.want rfl rfl ?_
        refine WL.q (Wn.no rfl) rfl rfl (R.move (v := (vi 3)) rfl) ?_
        refine WL.want rfl rfl ?_
        refine WL.call (al := [(.agg ⟨(formB rs ors adr wr ran).map vu8⟩), (vi 3)]) Try.call31 rfl rfl (c_word14 (formB rs ors adr wr ran) (formB_len hor) 3 (by omega) _ ) rfl ?_
        rintro _ w_31 ⟨rfl, hc_30⟩
        have h_32 := h_29.same hc_30
        refine WL.want rfl rfl ?_
        refine WL.q (Wn.no rfl) rfl rfl (R.bin (v := (.bool (decide ((wordB (formB rs ors adr wr ran) 3 : UInt64) ≠ 0)))) rfl rfl (b64_neq (wordB (formB rs ors adr wr ran) 3) 0 (r := decide ((wordB (formB rs ors adr wr ran) 3 : UInt64) ≠ 0)) rfl)) ?_
        refine WL.q (Wn.no rfl) rfl rfl (R.pickF (v := (.bool (decide ((wordB (formB rs ors adr wr ran) 3 : UInt64) ≠ 0)))) rfl rfl) ?_
        refine WL.nil ?_
        refine thn_n ?_
        refine WP.condF (congrArg Value.bool (decide_eq_false (not_not_intro (rest_zero c_13 p_15 (by decide) (by decide))))) ?_
        refine WP.skip ?_
        refine inb_n ?_
        refine thn_n ?_
        refine WP.reg ?_
        refine WL.q (Wn.no rfl) rfl rfl (R.move (v := (vi 3)) rfl) ?_
        refine WL.q (Wn.no rfl) rfl rfl (R.bin (v := (vi 4)) rfl rfl (bi_add (c := 4) (by omega) (by omega))) ?_
        refine WL.q (Wn.no rfl) rfl rfl (R.assign (v := (vi 4)) rfl) ?_
        refine WL.nil ?_
        refine thn_n ?_
        refine WI.round ?_
        refine WP.seq ?_
        refine WP.seq ?_
        refine WP.reg ?_
        refine WL.q (Wn.no rfl) rfl rfl (R.move (v := (vi 4)) rfl) ?_
        refine WL.q (Wn.no rfl) rfl rfl (R.bin (v := (.bool true)) rfl rfl (bi_lss (r := true) (by decide))) ?_
        refine WL.nil ?_
        refine thn_n ?_
        refine WP.condT rfl ?_
        refine WP.skip ?_
        refine thn_n ?_
        refine WP.seq ?_
        refine WP.block ?_
        refine WP.seq ?_
        refine WP.reg ?_
        refine WL.q (Wn.no rfl) rfl rfl (R.move (v := (vi 0)) rfl) ?_
        refine WL.q (Wn.no rfl) rfl rfl (R.bin (v := (.bool false)) rfl rfl (bi_neq (r := false) (by decide))) ?_
        refine WL.q (Wn.no rfl) rfl rfl (R.move (v := (.bool false)) rfl) ?_
        refine WL.want rfl rfl ?_
        refine WL.q (Wn.no rfl) rfl rfl (R.loadA (b := b_19) (off := 0) [] [(128, (formB rs ors adr wr ran).map vu8)] [] (cs := (formB rs ors adr wr ran).map vu8) rfl Try.isAgg53 Try.sizeOf53 (h_32.ok _ (.head _)) rfl rfl rfl rfl) ?_
        refine WL.want rfl rfl ?_
        refine WL.q (Wn.no rfl) rfl rfl (R.move (v := (vi 4)) rfl) ?_
        refine WL.want rfl rfl ?_
        refine WL.call (al := [(.agg ⟨(formB rs ors adr wr ran).map vu8⟩), (vi 4)]) Try.call31 rfl rfl (c_word14 (formB rs ors adr wr ran) (formB_len hor) 4 (by omega) _ ) rfl ?_
        rintro _ w_34 ⟨rfl, hc_33⟩
        have h_35 := h_32.same hc_33
        refine WL.want rfl rfl ?_
        refine WL.q (Wn.no rfl) rfl rfl (R.bin (v := (.bool (decide ((wordB (formB rs ors adr wr ran) 4 : UInt64) ≠ 0)))) rfl rfl (b64_neq (wordB (formB rs ors adr wr ran) 4) 0 (r := decide ((wordB (formB rs ors adr wr ran) 4 : UInt64) ≠ 0)) rfl)) ?_
        refine WL.q (Wn.no rfl) rfl rfl (R.pickF (v := (.bool (decide ((wordB (formB rs ors adr wr ran) 4 : UInt64) ≠ 0)))) rfl rfl) ?_
        refine WL.nil ?_
        refine thn_n ?_
        refine WP.condF (congrArg Value.bool (decide_eq_false (not_not_intro (rest_zero c_13 p_15 (by decide) (by decide))))) ?_
        refine WP.skip ?_
        refine inb_n ?_
        refine thn_n ?_
        refine WP.reg ?_
        refine WL.q (Wn.no rfl) rfl rfl (R.move (v := (vi 4)) rfl) ?_
        refine WL.q (Wn.no rfl) rfl rfl (R.bin (v := (vi 5)) rfl rfl (bi_add (c := 5) (by omega) (by omega))) ?_
        refine WL.q (Wn.no rfl) rfl rfl (R.assign (v := (vi 5)) rfl) ?_
        refine WL.nil ?_
        refine thn_n ?_
        refine WI.round ?_
        refine WP.seq ?_
        refine WP.seq ?_
        refine WP.reg ?_
        refine WL.q (Wn.no rfl) rfl rfl (R.move (v := (vi 5)) rfl) ?_
        refine WL.q (Wn.no rfl) rfl rfl (R.bin (v := (.bool false)) rfl rfl (bi_lss (r := false) (by decide))) ?_
        refine WL.nil ?_
        refine thn_n ?_
        refine WP.condF rfl ?_
        refine WP.exit ?_
        refine thn_x ?_
        refine thn_x ?_
        refine inb_hit ?_
        refine thn_n ?_
        have h_36 := h_35.up (Pick.t (Pick.t (Pick.t Pick.h)))
        have h_37 := h_36.up (Pick.t (Pick.t (Pick.t Pick.h)))
        have h_38 := h_37.up (Pick.t (Pick.t (Pick.t Pick.h)))
        have h_39 := (h_38.up (Pick.t (Pick.t (Pick.t Pick.h)))).drop rfl
        exact ⟨(), (Ag.upd rfl (Ag.upd rfl (Ag.upd rfl (Ag.upd rfl (Ag.upd rfl (Ag.upd rfl (Ag.upd rfl (Ag.upd rfl (Ag.upd rfl (Ag.upd rfl (Ag.upd rfl (Ag.upd rfl (Ag.upd rfl (Ag.upd rfl (Ag.upd rfl (Ag.upd rfl (Ag.upd rfl (Ag.upd rfl (Ag.upd rfl (Ag.upd rfl (Ag.upd rfl (Ag.upd rfl (Ag.upd rfl (Ag.upd rfl (Ag.upd rfl (Ag.upd rfl (Ag.upd rfl (Ag.upd rfl (Ag.upd rfl (Ag.upd rfl (Ag.upd rfl (Ag.upd rfl (Ag.upd rfl (Ag.upd rfl (Ag.upd rfl (Ag.upd rfl (Ag.upd rfl (Ag.upd rfl (Ag.upd rfl (Ag.upd rfl (Ag.upd rfl (Ag.upd rfl (Ag.upd rfl (Ag.upd rfl (Ag.upd rfl (Ag.upd rfl (Ag.upd rfl (Ag.upd rfl (Ag.upd rfl (Ag.upd rfl (Ag.upd rfl (Ag.upd rfl (Ag.upd rfl (Ag.upd rfl (Ag.upd rfl (Ag.upd rfl (Ag.upd rfl (Ag.upd rfl (Ag.upd rfl (Ag.upd rfl (Ag.upd rfl (Ag.upd rfl (Ag.upd rfl (Ag.upd rfl (Ag.upd rfl (Ag.upd rfl (Ag.upd rfl (Ag.upd rfl (Ag.upd rfl (Ag.refl _ _)))))))))))))))))))))))))))))))))))))))))))))))))))))))))))))))))))))), ⟨rfl, rfl, trivial⟩, h_39⟩
      · have p_40 := of_decide_eq_false c_14
        refine WP.skip ?_
        refine thn_n ?_
        exact ⟨(), (Ag.upd rfl (Ag.upd rfl (Ag.upd rfl (Ag.upd rfl (Ag.upd rfl (Ag.upd rfl (Ag.upd rfl (Ag.refl _ _)))))))), ⟨rfl, rfl, trivial⟩, h_12⟩
    · refine WL.skip rfl (congrArg Value.bool c_13) rfl ?_
      refine WL.skip rfl (congrArg Value.bool c_13) rfl ?_
      refine WL.skip rfl (congrArg Value.bool c_13) rfl ?_
      refine WL.q (Wn.no rfl) rfl rfl (R.pickF (v := (.bool false)) (congrArg Value.bool c_13) rfl) ?_
      refine WL.nil ?_
      refine thn_n ?_
      refine WP.condF rfl ?_
      refine WP.skip ?_
      refine thn_n ?_
      exact ⟨(), (Ag.upd rfl (Ag.upd rfl (Ag.upd rfl (Ag.upd rfl (Ag.upd rfl (Ag.upd rfl (Ag.upd rfl (Ag.refl _ _)))))))), ⟨rfl, rfl, trivial⟩, h_12⟩
  · rintro _ J_41 w_42 h_43
    refine WP.seq ?_
    refine WP.reg ?_
    refine WL.q (Wn.no rfl) rfl rfl (R.loadA (b := b_1) (off := 0) [] [(1, [(vi rd)]), (1, [(vu64 ins)]), (8, regs.map vu64), (1, [(vu64 pc)]), (1, [(.bool false)]), (1, [(vi wt)])] [] (cs := flat [(1, [(vi rd)]), (1, [(vu64 ins)]), (8, regs.map vu64), (1, [(vu64 pc)]), (1, [(.bool false)]), (1, [(vi wt)])]) rfl Try.isAgg28 Try.sizeOf28 (h_43.ok _ (.tail _ (.tail _ (.head _)))) rfl rfl rfl rfl) ?_
    refine WL.q (Wn.no rfl) rfl rfl (R.loadA (b := b_4) (off := 0) [] [(4, ain.map vu64)] [] (cs := ain.map vu64) rfl Try.isAgg31 Try.sizeOf31 (h_43.ok _ (.tail _ (.head _))) rfl rfl rfl rfl) ?_
    refine WL.call (al := [(.agg ⟨flat [(1, [(vi rd)]), (1, [(vu64 ins)]), (8, regs.map vu64), (1, [(vu64 pc)]), (1, [(.bool false)]), (1, [(vi wt)])]⟩), (.agg ⟨ain.map vu64⟩)]) Try.call13 rfl rfl (c_Enter_no rd ins regs hr pc false wt ain ha rfl _) rfl ?_
    rintro _ w_45 ⟨rfl, hc_44⟩
    have h_46 := h_43.same hc_44
    refine WL.q (Wn.no rfl) rfl rfl (R.move (v := (.tuple [(.agg ⟨flat [(1, [(vi 0)]), (1, [(vu64 0)]), (8, (List.replicate 8 (0 : UInt64)).map vu64), (1, [(vu64 0)]), (1, [(.bool false)]), (1, [(vi 0)])]⟩), (vi 7)].toArray)) rfl) ?_
    refine WL.q (Wn.no rfl) rfl rfl (R.extract (l := [(.agg ⟨flat [(1, [(vi 0)]), (1, [(vu64 0)]), (8, (List.replicate 8 (0 : UInt64)).map vu64), (1, [(vu64 0)]), (1, [(.bool false)]), (1, [(vi 0)])]⟩), (vi 7)]) (v := (.agg ⟨flat [(1, [(vi 0)]), (1, [(vu64 0)]), (8, (List.replicate 8 (0 : UInt64)).map vu64), (1, [(vu64 0)]), (1, [(.bool false)]), (1, [(vi 0)])]⟩)) rfl rfl) ?_
    refine WL.q (Wn.no rfl) rfl rfl (R.extract (l := [(.agg ⟨flat [(1, [(vi 0)]), (1, [(vu64 0)]), (8, (List.replicate 8 (0 : UInt64)).map vu64), (1, [(vu64 0)]), (1, [(.bool false)]), (1, [(vi 0)])]⟩), (vi 7)]) (v := (vi 7)) rfl rfl) ?_
    refine WL.alloc (segs := [(1, [(vi 0)]), (1, [(vu64 0)]), (8, (List.replicate 8 (0 : UInt64)).map vu64), (1, [(vu64 0)]), (1, [(.bool false)]), (1, [(vi 0)])]) h_46 (zv Try.typeInfo28 rfl) rfl (SsOk.cons (SOk.v rfl) (SsOk.cons (SOk.v rfl) (SsOk.cons (SOk.u64 (List.length_replicate ..)) (SsOk.cons (SOk.v rfl) (SsOk.cons (SOk.v rfl) (SsOk.cons (SOk.v rfl) SsOk.nil)))))) rfl (fun b_47 w_48 h_49 => ?_)
    refine WL.storeA (b := b_47) (off := 0) [] [(1, [(vi 0)]), (1, [(vu64 0)]), (8, (List.replicate 8 (0 : UInt64)).map vu64), (1, [(vu64 0)]), (1, [(.bool false)]), (1, [(vi 0)])] [(1, [(vi 0)]), (1, [(vu64 0)]), (8, (List.replicate 8 (0 : UInt64)).map vu64), (1, [(vu64 0)]), (1, [(.bool false)]), (1, [(vi 0)])] [] (ys := flat [(1, [(vi 0)]), (1, [(vu64 0)]), (8, (List.replicate 8 (0 : UInt64)).map vu64), (1, [(vu64 0)]), (1, [(.bool false)]), (1, [(vi 0)])]) h_49 rfl rfl Try.sizeOf28 At.h (by decide) rfl rfl rfl rfl rfl rfl (SsOk.cons (SOk.v rfl) (SsOk.cons (SOk.v rfl) (SsOk.cons (SOk.u64 (List.length_replicate ..)) (SsOk.cons (SOk.v rfl) (SsOk.cons (SOk.v rfl) (SsOk.cons (SOk.v rfl) SsOk.nil)))))) (fun w_50 h_51 => ?_)
    refine WL.q (Wn.no rfl) rfl rfl (R.assign (v := (vi 7)) rfl) ?_
    refine WL.nil ?_
    refine thn_n ?_
    refine WP.seq ?_
    refine WP.seq ?_
    refine WP.reg ?_
    refine WL.q (Wn.no rfl) rfl rfl (R.move (v := (vi 7)) rfl) ?_
    refine WL.q (Wn.no rfl) rfl rfl (R.bin (v := (.bool true)) rfl rfl (bi_neq (r := true) (by decide))) ?_
    refine WL.nil ?_
    refine thn_n ?_
    refine WP.condT rfl ?_
    refine WP.seq ?_
    refine WP.reg ?_
    refine WL.call (al := []) Try.call15 rfl rfl (c_known14  _) rfl ?_
    rintro _ w_53 ⟨rfl, hc_52⟩
    have h_54 := h_51.same hc_52
    refine WL.q (Wn.no rfl) rfl rfl (R.assign (v := (.bool true)) rfl) ?_
    refine WL.nil ?_
    refine thn_n ?_
    refine WP.ret ?_
    refine thn_r ?_
    refine ret_of Try.results9 (RV.tmp (v := (.bool true)) rfl RV.nil) ?_
    exact ⟨rfl, h_54.chgS⟩

theorem w_RecRests_b (rd : Int) (ins : UInt64) (regs : List UInt64) (hr : regs.length = 8) (pc : UInt64) (ain : List UInt64) (ha : ain.length = 4) (rs : Int) (ors : List UInt64) (hor : ors.length = 4) (adr : UInt64) (wr : Bool) (ran : Int) (b_rd : -9223372036854775808 ≤ rd ∧ rd < 9223372036854775808) (w : World) :
    Cs Try.prog 9 [(.agg ⟨flat [(1, [(vi rd)]), (1, [(vu64 ins)]), (8, regs.map vu64), (1, [(vu64 pc)]), (1, [(.bool true)]), (1, [(vi 3)])]⟩), (.agg ⟨ain.map vu64⟩), (.agg ⟨flat [(1, [(vi rs)]), (4, ors.map vu64), (1, [(vu64 adr)]), (1, [(.bool wr)]), (1, [(vi ran)])]⟩)].toArray w (fun v w1 => v = .bool true ∧ Chg w w1 []) := by
  refine Cs.of (n := 118) (args := [(.agg ⟨flat [(1, [(vi rd)]), (1, [(vu64 ins)]), (8, regs.map vu64), (1, [(vu64 pc)]), (1, [(.bool true)]), (1, [(vi 3)])]⟩), (.agg ⟨ain.map vu64⟩), (.agg ⟨flat [(1, [(vi rs)]), (4, ors.map vu64), (1, [(vu64 adr)]), (1, [(.bool wr)]), (1, [(vi ran)])]⟩)]) Try.func9 rfl rfl rfl ?_
  have h_0 := HP.init w
  refine WP.seq ?_
  refine WP.reg ?_
  refine WL.box (v := (.agg ⟨flat [(1, [(vi rd)]), (1, [(vu64 ins)]), (8, regs.map vu64), (1, [(vu64 pc)]), (1, [(.bool true)]), (1, [(vi 3)])]⟩)) (segs := [(1, [(vi rd)]), (1, [(vu64 ins)]), (8, regs.map vu64), (1, [(vu64 pc)]), (1, [(.bool true)]), (1, [(vi 3)])]) h_0 rfl rfl (SsOk.cons (SOk.v rfl) (SsOk.cons (SOk.v rfl) (SsOk.cons (SOk.u64 hr) (SsOk.cons (SOk.v rfl) (SsOk.cons (SOk.v rfl) (SsOk.cons (SOk.v rfl) SsOk.nil)))))) rfl (fun b_1 w_2 h_3 => ?_)
  refine WL.box (v := (.agg ⟨ain.map vu64⟩)) (segs := [(4, ain.map vu64)]) h_3 rfl rfl (SsOk.cons (SOk.u64 ha) SsOk.nil) rfl (fun b_4 w_5 h_6 => ?_)
  refine WL.box (v := (.agg ⟨flat [(1, [(vi rs)]), (4, ors.map vu64), (1, [(vu64 adr)]), (1, [(.bool wr)]), (1, [(vi ran)])]⟩)) (segs := [(1, [(vi rs)]), (4, ors.map vu64), (1, [(vu64 adr)]), (1, [(.bool wr)]), (1, [(vi ran)])]) h_6 rfl rfl (SsOk.cons (SOk.v rfl) (SsOk.cons (SOk.u64 hor) (SsOk.cons (SOk.v rfl) (SsOk.cons (SOk.v rfl) (SsOk.cons (SOk.v rfl) SsOk.nil))))) rfl (fun b_7 w_8 h_9 => ?_)
  refine WL.q (Wn.no rfl) rfl rfl (R.assign (v := (.bool false)) rfl) ?_
  refine WL.nil ?_
  refine thn_n ?_
  refine WP.g1 (G := Unit) [6, 7, 8, 9, 15, 16, 17, 18, 19, 20, 21, 22, 23, 24, 25, 26, 27, 28, 29, 30, 31, 32, 33, 34, 35, 36, 37, 38] (fun _ => [(6, (.bool false)), (15, (.agg ⟨flat [(1, [(vi rs)]), (4, ors.map vu64), (1, [(vu64 adr)]), (1, [(.bool wr)]), (1, [(vi ran)])]⟩))]) (fun _ w1 => HP w w1 [.blk b_7 .nw 40 [(1, [(vi rs)]), (4, ors.map vu64), (1, [(vu64 adr)]), (1, [(.bool wr)]), (1, [(vi ran)])], .blk b_4 .nw 31 [(4, ain.map vu64)], .blk b_1 .nw 28 [(1, [(vi rd)]), (1, [(vu64 ins)]), (8, regs.map vu64), (1, [(vu64 pc)]), (1, [(.bool true)]), (1, [(vi 3)])]]) ?_ ?_
  · refine WP.seq ?_
    refine WP.reg ?_
    refine WL.q (Wn.no rfl) rfl rfl (R.loadA (b := b_7) (off := 0) [] [(1, [(vi rs)]), (4, ors.map vu64), (1, [(vu64 adr)]), (1, [(.bool wr)]), (1, [(vi ran)])] [] (cs := flat [(1, [(vi rs)]), (4, ors.map vu64), (1, [(vu64 adr)]), (1, [(.bool wr)]), (1, [(vi ran)])]) rfl Try.isAgg40 Try.sizeOf40 (h_9.ok _ (.head _)) rfl rfl rfl rfl) ?_
    refine WL.call (al := [(.agg ⟨flat [(1, [(vi rs)]), (4, ors.map vu64), (1, [(vu64 adr)]), (1, [(.bool wr)]), (1, [(vi ran)])]⟩)]) Try.call29 rfl rfl (c_may14 rs ors hor adr wr ran _ ) rfl ?_
    rintro _ w_11 ⟨rfl, hc_10⟩
    have h_12 := h_9.same hc_10
    refine WL.q (Wn.no rfl) rfl rfl (R.move (v := (.bool (mayB rs ors adr wr ran))) rfl) ?_
    rcases Bool.eq_false_or_eq_true (mayB rs ors adr wr ran) with c_13 | c_13
    · refine WL.want rfl (congrArg Value.bool c_13) ?_
      refine WL.q (Wn.no rfl) rfl rfl (R.fieldAddr (b := b_7) (off := 0) (off' := 0) rfl Try.underlying40 rfl Try.sizeOf38 rfl rfl) ?_
      refine WL.want rfl (congrArg Value.bool c_13) ?_
      refine WL.q (Wn.no rfl) rfl rfl (R.load1 (b := b_7) (off := 0) (v := (vi rs)) rfl Try.isAgg38 (h_12.ok _ (.head _)) Sg.h) ?_
      refine WL.want rfl (congrArg Value.bool c_13) ?_
      refine WL.q (Wn.no rfl) rfl rfl (R.bin (v := (.bool (decide ((rs : Int) ≠ 2)))) rfl rfl (bi_neq (r := decide ((rs : Int) ≠ 2)) rfl)) ?_
      refine WL.q (Wn.no rfl) rfl rfl (R.pickT (v := (.bool (decide ((rs : Int) ≠ 2)))) (congrArg Value.bool c_13) rfl) ?_
      refine WL.nil ?_
      refine thn_n ?_
      refine WP.cond (b := decide ((rs : Int) ≠ 2)) rfl (fun c_14 => ?_) (fun c_14 => ?_)
      · have p_15 := of_decide_eq_true c_14
        refine WP.seq ?_
        refine WP.reg ?_
        refine WL.q (Wn.no rfl) rfl rfl (R.loadA (b := b_7) (off := 0) [] [(1, [(vi rs)]), (4, ors.map vu64), (1, [(vu64 adr)]), (1, [(.bool wr)]), (1, [(vi ran)])] [] (cs := flat [(1, [(vi rs)]), (4, ors.map vu64), (1, [(vu64 adr)]), (1, [(.bool wr)]), (1, [(vi ran)])]) rfl Try.isAgg40 Try.sizeOf40 (h_12.ok _ (.head _)) rfl rfl rfl rfl) ?_
        refine WL.call (al := [(.agg ⟨flat [(1, [(vi rs)]), (4, ors.map vu64), (1, [(vu64 adr)]), (1, [(.bool wr)]), (1, [(vi ran)])]⟩)]) Try.call30 rfl rfl (c_OutBytes rs ors hor adr wr ran c_13 _ ) rfl ?_
        rintro _ w_17 ⟨rfl, hc_16⟩
        have h_18 := h_12.same hc_16
        refine WL.q (Wn.no rfl) rfl rfl (R.move (v := (.tuple [(.agg ⟨(formB rs ors adr wr ran).map vu8⟩), (vi 0)].toArray)) rfl) ?_
        refine WL.q (Wn.no rfl) rfl rfl (R.extract (l := [(.agg ⟨(formB rs ors adr wr ran).map vu8⟩), (vi 0)]) (v := (.agg ⟨(formB rs ors adr wr ran).map vu8⟩)) rfl rfl) ?_
        refine WL.q (Wn.no rfl) rfl rfl (R.extract (l := [(.agg ⟨(formB rs ors adr wr ran).map vu8⟩), (vi 0)]) (v := (vi 0)) rfl rfl) ?_
        refine WL.alloc (segs := [(128, (List.replicate 128 (0 : UInt8)).map vu8)]) h_18 (zv Try.typeInfo53 rfl) rfl (SsOk.cons (SOk.u8 (List.length_replicate ..)) SsOk.nil) rfl (fun b_19 w_20 h_21 => ?_)
        refine WL.storeA (b := b_19) (off := 0) [] [(128, (List.replicate 128 (0 : UInt8)).map vu8)] [(128, (formB rs ors adr wr ran).map vu8)] [] (ys := (formB rs ors adr wr ran).map vu8) h_21 rfl rfl Try.sizeOf53 At.h (by decide) rfl rfl rfl rfl rfl rfl (SsOk.cons (SOk.u8 (formB_len hor)) SsOk.nil) (fun w_22 h_23 => ?_)
        refine WL.q (Wn.no rfl) rfl rfl (R.assign (v := (vi 0)) rfl) ?_
        refine WL.nil ?_
        refine thn_n ?_
        refine WP.seq ?_
        refine WP.reg ?_
        refine WL.q (Wn.no rfl) rfl rfl (R.assign (v := (vi 1)) rfl) ?_
        refine WL.nil ?_
        refine thn_n ?_
        refine WP.block ?_
        refine WP.loopU (WI.round ?_)
        refine WP.seq ?_
        refine WP.seq ?_
        refine WP.reg ?_
        refine WL.q (Wn.no rfl) rfl rfl (R.move (v := (vi 1)) rfl) ?_
        refine WL.q (Wn.no rfl) rfl rfl (R.bin (v := (.bool true)) rfl rfl (bi_lss (r := true) (by decide))) ?_
        refine WL.nil ?_
        refine thn_n ?_
        refine WP.condT rfl ?_
        refine WP.skip ?_
        refine thn_n ?_
        refine WP.seq ?_
        refine WP.block ?_
        refine WP.seq ?_
        refine WP.reg ?_
        refine WL.q (Wn.no rfl) rfl rfl (R.move (v := (vi 0)) rfl) ?_
        refine WL.q (Wn.no rfl) rfl rfl (R.bin (v := (.bool false)) rfl rfl (bi_neq (r := false) (by decide))) ?_
        refine WL.q (Wn.no rfl) rfl rfl (R.move (v := (.bool false)) rfl) ?_
        refine WL.want rfl rfl ?_
        refine WL.q (Wn.no rfl) rfl rfl (R.loadA (b := b_19) (off := 0) [] [(128, (formB rs ors adr wr ran).map vu8)] [] (cs := (formB rs ors adr wr ran).map vu8) rfl Try.isAgg53 Try.sizeOf53 (h_23.ok _ (.head _)) rfl rfl rfl rfl) ?_
        refine WL.want rfl rfl ?_
        refine WL.q (Wn.no rfl) rfl rfl (R.move (v := (vi 1)) rfl) ?_
        refine WL.want rfl rfl ?_
        refine WL.call (al := [(.agg ⟨(formB rs ors adr wr ran).map vu8⟩), (vi 1)]) Try.call31 rfl rfl (c_word14 (formB rs ors adr wr ran) (formB_len hor) 1 (by omega) _ ) rfl ?_
        rintro _ w_25 ⟨rfl, hc_24⟩
        have h_26 := h_23.same hc_24
        refine WL.want rfl rfl ?_
        refine WL.q (Wn.no rfl) rfl rfl (R.bin (v := (.bool (decide ((wordB (formB rs ors adr wr ran) 1 : UInt64) ≠ 0)))) rfl rfl (b64_neq (wordB (formB rs ors adr wr ran) 1) 0 (r := decide ((wordB (formB rs ors adr wr ran) 1 : UInt64) ≠ 0)) rfl)) ?_
        refine WL.q (Wn.no rfl) rfl rfl (R.pickF (v := (.bool (decide ((wordB (formB rs ors adr wr ran) 1 : UInt64) ≠ 0)))) rfl rfl) ?_
        refine WL.nil ?_
        refine thn_n ?_
        refine WP.condF (congrArg Value.bool (decide_eq_false (not_not_intro (rest_zero c_13 p_15 (by decide) (by decide))))) ?_
        refine WP.skip ?_
        refine inb_n ?_
        refine thn_n ?_
        refine WP.reg ?_
        refine WL.q (Wn.no rfl) rfl rfl (R.move (v := (vi 1)) rfl) ?_
        refine WL.q (Wn.no rfl) rfl rfl (R.bin (v := (vi 2)) rfl rfl (bi_add (c := 2) (by omega) (by omega))) ?_
        refine WL.q (Wn.no rfl) rfl rfl (R.assign (v := (vi 2)) rfl) ?_
        refine WL.nil ?_
        refine thn_n ?_
        refine WI.round ?_
        refine WP.seq ?_
        refine WP.seq ?_
        refine WP.reg ?_
        refine WL.q (Wn.no rfl) rfl rfl (R.move (v := (vi 2)) rfl) ?_
        refine WL.q (Wn.no rfl) rfl rfl (R.bin (v := (.bool true)) rfl rfl (bi_lss (r := true) (by decide))) ?_
        refine WL.nil ?_
        refine thn_n ?_
        refine WP.condT rfl ?_
        refine WP.skip ?_
        refine thn_n ?_
        refine WP.seq ?_
        refine WP.block ?_
        refine WP.seq ?_
        refine WP.reg ?_
        refine WL.q (Wn.no rfl) rfl rfl (R.move (v := (vi 0)) rfl) ?_
        refine WL.q (Wn.no rfl) rfl rfl (R.bin (v := (.bool false)) rfl rfl (bi_neq (r := false) (by decide))) ?_
        refine WL.q (Wn.no rfl) rfl rfl (R.move (v := (.bool false)) rfl) ?_
        refine WL.want rfl rfl ?_
        refine WL.q (Wn.no rfl) rfl rfl (R.loadA (b := b_19) (off := 0) [] [(128, (formB rs ors adr wr ran).map vu8)] [] (cs := (formB rs ors adr wr ran).map vu8) rfl Try.isAgg53 Try.sizeOf53 (h_26.ok _ (.head _)) rfl rfl rfl rfl) ?_
        refine WL.want rfl rfl ?_
        refine WL.q (Wn.no rfl) rfl rfl (R.move (v := (vi 2)) rfl) ?_
        refine WL.want rfl rfl ?_
        refine WL.call (al := [(.agg ⟨(formB rs ors adr wr ran).map vu8⟩), (vi 2)]) Try.call31 rfl rfl (c_word14 (formB rs ors adr wr ran) (formB_len hor) 2 (by omega) _ ) rfl ?_
        rintro _ w_28 ⟨rfl, hc_27⟩
        have h_29 := h_26.same hc_27
        refine WL.want rfl rfl ?_
        refine WL.q (Wn.no rfl) rfl rfl (R.bin (v := (.bool (decide ((wordB (formB rs ors adr wr ran) 2 : UInt64) ≠ 0)))) rfl rfl (b64_neq (wordB (formB rs ors adr wr ran) 2) 0 (r := decide ((wordB (formB rs ors adr wr ran) 2 : UInt64) ≠ 0)) rfl)) ?_
        refine WL.q (Wn.no rfl) rfl rfl (R.pickF (v := (.bool (decide ((wordB (formB rs ors adr wr ran) 2 : UInt64) ≠ 0)))) rfl rfl) ?_
        refine WL.nil ?_
        refine thn_n ?_
        refine WP.condF (congrArg Value.bool (decide_eq_false (not_not_intro (rest_zero c_13 p_15 (by decide) (by decide))))) ?_
        refine WP.skip ?_
        refine inb_n ?_
        refine thn_n ?_
        refine WP.reg ?_
        refine WL.q (Wn.no rfl) rfl rfl (R.move (v := (vi 2)) rfl) ?_
        refine WL.q (Wn.no rfl) rfl rfl (R.bin (v := (vi 3)) rfl rfl (bi_add (c := 3) (by omega) (by omega))) ?_
        refine WL.q (Wn.no rfl) rfl rfl (R.assign (v := (vi 3)) rfl) ?_
        refine WL.nil ?_
        refine thn_n ?_
        refine WI.round ?_
        refine WP.seq ?_
        refine WP.seq ?_
        refine WP.reg ?_
        refine WL.q (Wn.no rfl) rfl rfl (R.move (v := (vi 3)) rfl) ?_
        refine WL.q (Wn.no rfl) rfl rfl (R.bin (v := (.bool true)) rfl rfl (bi_lss (r := true) (by decide))) ?_
        refine WL.nil ?_
        refine thn_n ?_
        refine WP.condT rfl ?_
        refine WP.skip ?_
        refine thn_n ?_
        refine WP.seq ?_
        refine WP.block ?_
        refine WP.seq ?_
        refine WP.reg ?_
        refine WL.q (Wn.no rfl) rfl rfl (R.move (v := (vi 0)) rfl) ?_
        refine WL.q (Wn.no rfl) rfl rfl (R.bin (v := (.bool false)) rfl rfl (bi_neq (r := false) (by decide))) ?_
        refine WL.q (Wn.no rfl) rfl rfl (R.move (v := (.bool false)) rfl) ?_
        refine WL.want rfl rfl ?_
        refine WL.q (Wn.no rfl) rfl rfl (R.loadA (b := b_19) (off := 0) [] [(128, (formB rs ors adr wr ran).map vu8)] [] (cs := (formB rs ors adr wr ran).map vu8) rfl Try.isAgg53 Try.sizeOf53 (h_29.ok _ (.head _)) rfl rfl rfl rfl) ?_
        refine WL.want rfl rfl ?_
        refine WL.q (Wn.no rfl) rfl rfl (R.move (v := (vi 3)) rfl) ?_
        refine WL.want rfl rfl ?_
        refine WL.call (al := [(.agg ⟨(formB rs ors adr wr ran).map vu8⟩), (vi 3)]) Try.call31 rfl rfl (c_word14 (formB rs ors adr wr ran) (formB_len hor) 3 (by omega) _ ) rfl ?_
        rintro _ w_31 ⟨rfl, hc_30⟩
        have h_32 := h_29.same hc_30
        refine WL.want rfl rfl ?_
        refine WL.q (Wn.no rfl) rfl rfl (R.bin (v := (.bool (decide ((wordB (formB rs ors adr wr ran) 3 : UInt64) ≠ 0)))) rfl rfl (b64_neq (wordB (formB rs ors adr wr ran) 3) 0 (r := decide ((wordB (formB rs ors adr wr ran) 3 : UInt64) ≠ 0)) rfl)) ?_
        refine WL.q (Wn.no rfl) rfl rfl (R.pickF (v := (.bool (decide ((wordB (formB rs ors adr wr ran) 3 : UInt64) ≠ 0)))) rfl rfl) ?_
        refine WL.nil ?_
        refine thn_n ?_
        refine WP.condF (congrArg Value.bool (decide_eq_false (not_not_intro (rest_zero c_13 p_15 (by decide) (by decide))))) ?_
        refine WP.skip ?_
        refine inb_n ?_
        refine thn_n ?_
        refine WP.reg ?_
        refine WL.q (Wn.no rfl) rfl rfl (R.move (v := (vi 3)) rfl) ?_
        refine WL.q (Wn.no rfl) rfl rfl (R.bin (v := (vi 4)) rfl rfl (bi_add (c := 4) (by omega) (by omega))) ?_
        refine WL.q (Wn.no rfl) rfl rfl (R.assign (v := (vi 4)) rfl) ?_
        refine WL.nil ?_
        refine thn_n ?_
        refine WI.round ?_
        refine WP.seq ?_
        refine WP.seq ?_
        refine WP.reg ?_
        refine WL.q (Wn.no rfl) rfl rfl (R.move (v := (vi 4)) rfl) ?_
        refine WL.q (Wn.no rfl) rfl rfl (R.bin (v := (.bool true)) rfl rfl (bi_lss (r := true) (by decide))) ?_
        refine WL.nil ?_
        refine thn_n ?_
        refine WP.condT rfl ?_
        refine WP.skip ?_
        refine thn_n ?_
        refine WP.seq ?_
        refine WP.block ?_
        refine WP.seq ?_
        refine WP.reg ?_
        refine WL.q (Wn.no rfl) rfl rfl (R.move (v := (vi 0)) rfl) ?_
        refine WL.q (Wn.no rfl) rfl rfl (R.bin (v := (.bool false)) rfl rfl (bi_neq (r := false) (by decide))) ?_
        refine WL.q (Wn.no rfl) rfl rfl (R.move (v := (.bool false)) rfl) ?_
        refine WL.want rfl rfl ?_
        refine WL.q (Wn.no rfl) rfl rfl (R.loadA (b := b_19) (off := 0) [] [(128, (formB rs ors adr wr ran).map vu8)] [] (cs := (formB rs ors adr wr ran).map vu8) rfl Try.isAgg53 Try.sizeOf53 (h_32.ok _ (.head _)) rfl rfl rfl rfl) ?_
        refine WL.want rfl rfl ?_
        refine WL.q (Wn.no rfl) rfl rfl (R.move (v := (vi 4)) rfl) ?_
        refine WL.want rfl rfl ?_
        refine WL.call (al := [(.agg ⟨(formB rs ors adr wr ran).map vu8⟩), (vi 4)]) Try.call31 rfl rfl (c_word14 (formB rs ors adr wr ran) (formB_len hor) 4 (by omega) _ ) rfl ?_
        rintro _ w_34 ⟨rfl, hc_33⟩
        have h_35 := h_32.same hc_33
        refine WL.want rfl rfl ?_
        refine WL.q (Wn.no rfl) rfl rfl (R.bin (v := (.bool (decide ((wordB (formB rs ors adr wr ran) 4 : UInt64) ≠ 0)))) rfl rfl (b64_neq (wordB (formB rs ors adr wr ran) 4) 0 (r := decide ((wordB (formB rs ors adr wr ran) 4 : UInt64) ≠ 0)) rfl)) ?_
        refine WL.q (Wn.no rfl) rfl rfl (R.pickF (v := (.bool (decide ((wordB (formB rs ors adr wr ran) 4 : UInt64) ≠ 0)))) rfl rfl) ?_
        refine WL.nil ?_
        refine thn_n ?_
        refine WP.condF (congrArg Value.bool (decide_eq_false (not_not_intro (rest_zero c_13 p_15 (by decide) (by decide))))) ?_
        refine WP.skip ?_
        refine inb_n ?_
        refine thn_n ?_
        refine WP.reg ?_
        refine WL.q (Wn.no rfl) rfl rfl (R.move (v := (vi 4)) rfl) ?_
        refine WL.q (Wn.no rfl) rfl rfl (R.bin (v := (vi 5)) rfl rfl (bi_add (c := 5) (by omega) (by omega))) ?_
        refine WL.q (Wn.no rfl) rfl rfl (R.assign (v := (vi 5)) rfl) ?_
        refine WL.nil ?_
        refine thn_n ?_
        refine WI.round ?_
        refine WP.seq ?_
        refine WP.seq ?_
        refine WP.reg ?_
        refine WL.q (Wn.no rfl) rfl rfl (R.move (v := (vi 5)) rfl) ?_
        refine WL.q (Wn.no rfl) rfl rfl (R.bin (v := (.bool false)) rfl rfl (bi_lss (r := false) (by decide))) ?_
        refine WL.nil ?_
        refine thn_n ?_
        refine WP.condF rfl ?_
        refine WP.exit ?_
        refine thn_x ?_
        refine thn_x ?_
        refine inb_hit ?_
        refine thn_n ?_
        have h_36 := h_35.up (Pick.t (Pick.t (Pick.t Pick.h)))
        have h_37 := h_36.up (Pick.t (Pick.t (Pick.t Pick.h)))
        have h_38 := h_37.up (Pick.t (Pick.t (Pick.t Pick.h)))
        have h_39 := (h_38.up (Pick.t (Pick.t (Pick.t Pick.h)))).drop rfl
        exact ⟨(), (Ag.upd rfl (Ag.upd rfl (Ag.upd rfl (Ag.upd rfl (Ag.upd rfl (Ag.upd rfl (Ag.upd rfl (Ag.upd rfl (Ag.upd rfl (Ag.upd rfl (Ag.upd rfl (Ag.upd rfl (Ag.upd rfl (Ag.upd rfl (Ag.upd rfl (Ag.upd rfl (Ag.upd rfl (Ag.upd rfl (Ag.upd rfl (Ag.upd rfl (Ag.upd rfl (Ag.upd rfl (Ag.upd rfl (Ag.upd rfl (Ag.upd rfl (Ag.upd rfl (Ag.upd rfl (Ag.upd rfl (Ag.upd rfl (Ag.upd rfl (Ag.upd rfl (Ag.upd rfl (Ag.upd rfl (Ag.upd rfl (Ag.upd rfl (Ag.upd rfl (Ag.upd rfl (Ag.upd rfl (Ag.upd rfl (Ag.upd rfl (Ag.upd rfl (Ag.upd rfl (Ag.upd rfl (Ag.upd rfl (Ag.upd rfl (Ag.upd rfl (Ag.upd rfl (Ag.upd rfl (Ag.upd rfl (Ag.upd rfl (Ag.upd rfl (Ag.upd rfl (Ag.upd rfl (Ag.upd rfl (Ag.upd rfl (Ag.upd rfl (Ag.upd rfl (Ag.upd rfl (Ag.upd rfl (Ag.upd rfl (Ag.upd rfl (Ag.upd rfl (Ag.upd rfl (Ag.upd rfl (Ag.upd rfl (Ag.upd rfl (Ag.upd rfl (Ag.upd rfl (Ag.upd rfl (Ag.refl _ _)))))))))))))))))))))))))))))))))))))))))))))))))))))))))))))))))))))), ⟨rfl, rfl, trivial⟩, h_39⟩
      · have p_40 := of_decide_eq_false c_14
        refine WP.skip ?_
        refine thn_n ?_
        exact ⟨(), (Ag.upd rfl (Ag.upd rfl (Ag.upd rfl (Ag.upd rfl (Ag.upd rfl (Ag.upd rfl (Ag.upd rfl (Ag.refl _ _)))))))), ⟨rfl, rfl, trivial⟩, h_12⟩
    · refine WL.skip rfl (congrArg Value.bool c_13) rfl ?_
      refine WL.skip rfl (congrArg Value.bool c_13) rfl ?_
      refine WL.skip rfl (congrArg Value.bool c_13) rfl ?_
      refine WL.q (Wn.no rfl) rfl rfl (R.pickF (v := (.bool false)) (congrArg Value.bool c_13) rfl) ?_
      refine WL.nil ?_
      refine thn_n ?_
      refine WP.condF rfl ?_
      refine WP.skip ?_
      refine thn_n ?_
      exact ⟨(), (Ag.upd rfl (Ag.upd rfl (Ag.upd rfl (Ag.upd rfl (Ag.upd rfl (Ag.upd rfl (Ag.upd rfl (Ag.refl _ _)))))))), ⟨rfl, rfl, trivial⟩, h_12⟩
  · rintro _ J_41 w_42 h_43
    refine WP.seq ?_
    refine WP.reg ?_
    refine WL.q (Wn.no rfl) rfl rfl (R.loadA (b := b_1) (off := 0) [] [(1, [(vi rd)]), (1, [(vu64 ins)]), (8, regs.map vu64), (1, [(vu64 pc)]), (1, [(.bool true)]), (1, [(vi 3)])] [] (cs := flat [(1, [(vi rd)]), (1, [(vu64 ins)]), (8, regs.map vu64), (1, [(vu64 pc)]), (1, [(.bool true)]), (1, [(vi 3)])]) rfl Try.isAgg28 Try.sizeOf28 (h_43.ok _ (.tail _ (.tail _ (.head _)))) rfl rfl rfl rfl) ?_
    refine WL.q (Wn.no rfl) rfl rfl (R.loadA (b := b_4) (off := 0) [] [(4, ain.map vu64)] [] (cs := ain.map vu64) rfl Try.isAgg31 Try.sizeOf31 (h_43.ok _ (.tail _ (.head _))) rfl rfl rfl rfl) ?_
    refine WL.call (al := [(.agg ⟨flat [(1, [(vi rd)]), (1, [(vu64 ins)]), (8, regs.map vu64), (1, [(vu64 pc)]), (1, [(.bool true)]), (1, [(vi 3)])]⟩), (.agg ⟨ain.map vu64⟩)]) Try.call13 rfl rfl (c_Enter_no rd ins regs hr pc true 3 ain ha rfl _) rfl ?_
    rintro _ w_45 ⟨rfl, hc_44⟩
    have h_46 := h_43.same hc_44
    refine WL.q (Wn.no rfl) rfl rfl (R.move (v := (.tuple [(.agg ⟨flat [(1, [(vi 0)]), (1, [(vu64 0)]), (8, (List.replicate 8 (0 : UInt64)).map vu64), (1, [(vu64 0)]), (1, [(.bool false)]), (1, [(vi 0)])]⟩), (vi 7)].toArray)) rfl) ?_
    refine WL.q (Wn.no rfl) rfl rfl (R.extract (l := [(.agg ⟨flat [(1, [(vi 0)]), (1, [(vu64 0)]), (8, (List.replicate 8 (0 : UInt64)).map vu64), (1, [(vu64 0)]), (1, [(.bool false)]), (1, [(vi 0)])]⟩), (vi 7)]) (v := (.agg ⟨flat [(1, [(vi 0)]), (1, [(vu64 0)]), (8, (List.replicate 8 (0 : UInt64)).map vu64), (1, [(vu64 0)]), (1, [(.bool false)]), (1, [(vi 0)])]⟩)) rfl rfl) ?_
    refine WL.q (Wn.no rfl) rfl rfl (R.extract (l := [(.agg ⟨flat [(1, [(vi 0)]), (1, [(vu64 0)]), (8, (List.replicate 8 (0 : UInt64)).map vu64), (1, [(vu64 0)]), (1, [(.bool false)]), (1, [(vi 0)])]⟩), (vi 7)]) (v := (vi 7)) rfl rfl) ?_
    refine WL.alloc (segs := [(1, [(vi 0)]), (1, [(vu64 0)]), (8, (List.replicate 8 (0 : UInt64)).map vu64), (1, [(vu64 0)]), (1, [(.bool false)]), (1, [(vi 0)])]) h_46 (zv Try.typeInfo28 rfl) rfl (SsOk.cons (SOk.v rfl) (SsOk.cons (SOk.v rfl) (SsOk.cons (SOk.u64 (List.length_replicate ..)) (SsOk.cons (SOk.v rfl) (SsOk.cons (SOk.v rfl) (SsOk.cons (SOk.v rfl) SsOk.nil)))))) rfl (fun b_47 w_48 h_49 => ?_)
    refine WL.storeA (b := b_47) (off := 0) [] [(1, [(vi 0)]), (1, [(vu64 0)]), (8, (List.replicate 8 (0 : UInt64)).map vu64), (1, [(vu64 0)]), (1, [(.bool false)]), (1, [(vi 0)])] [(1, [(vi 0)]), (1, [(vu64 0)]), (8, (List.replicate 8 (0 : UInt64)).map vu64), (1, [(vu64 0)]), (1, [(.bool false)]), (1, [(vi 0)])] [] (ys := flat [(1, [(vi 0)]), (1, [(vu64 0)]), (8, (List.replicate 8 (0 : UInt64)).map vu64), (1, [(vu64 0)]), (1, [(.bool false)]), (1, [(vi 0)])]) h_49 rfl rfl Try.sizeOf28 At.h (by decide) rfl rfl rfl rfl rfl rfl (SsOk.cons (SOk.v rfl) (SsOk.cons (SOk.v rfl) (SsOk.cons (SOk.u64 (List.length_replicate ..)) (SsOk.cons (SOk.v rfl) (SsOk.cons (SOk.v rfl) (SsOk.cons (SOk.v rfl) SsOk.nil)))))) (fun w_50 h_51 => ?_)
    refine WL.q (Wn.no rfl) rfl rfl (R.assign (v := (vi 7)) rfl) ?_
    refine WL.nil ?_
    refine thn_n ?_
    refine WP.seq ?_
    refine WP.seq ?_
    refine WP.reg ?_
    refine WL.q (Wn.no rfl) rfl rfl (R.move (v := (vi 7)) rfl) ?_
    refine WL.q (Wn.no rfl) rfl rfl (R.bin (v := (.bool true)) rfl rfl (bi_neq (r := true) (by decide))) ?_
    refine WL.nil ?_
    refine thn_n ?_
    refine WP.condT rfl ?_
    refine WP.seq ?_
    refine WP.reg ?_
    refine WL.call (al := []) Try.call15 rfl rfl (c_known14  _) rfl ?_
    rintro _ w_53 ⟨rfl, hc_52⟩
    have h_54 := h_51.same hc_52
    refine WL.q (Wn.no rfl) rfl rfl (R.assign (v := (.bool true)) rfl) ?_
    refine WL.nil ?_
    refine thn_n ?_
    refine WP.ret ?_
    refine thn_r ?_
    refine ret_of Try.results9 (RV.tmp (v := (.bool true)) rfl RV.nil) ?_
    exact ⟨rfl, h_54.chgS⟩
end Go.Proofs.Ythkcekgemanfdaa
