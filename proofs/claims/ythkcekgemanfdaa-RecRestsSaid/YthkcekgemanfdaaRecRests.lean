/- RecRests holds of every input. Conditions: none. -/
import Derived.Test.YthkcekgemanfdaaRecRestsP1
namespace Go.Proofs.Ythkcekgemanfdaa
open Go.Vc Go.RowKit
set_option linter.unusedVariables false
set_option linter.unusedSimpArgs false
set_option maxRecDepth 20000
theorem w_RecRests_d (rd : Int) (ins : UInt64) (regs : List UInt64) (hr : regs.length = 8) (pc : UInt64) (ain : List UInt64) (ha : ain.length = 4) (rs : Int) (ors : List UInt64) (hor : ors.length = 4) (adr : UInt64) (wr : Bool) (ran : Int) (b_rd : -9223372036854775808 ≤ rd ∧ rd < 9223372036854775808) (wt : Int) (hw1 : wt ≠ 1) (hw3 : wt ≠ 3) (b_wt : -9223372036854775808 ≤ wt ∧ wt < 9223372036854775808) (w : World) :
    Cs Try.prog 9 [(.agg ⟨flat [(1, [(vi rd)]), (1, [(vu64 ins)]), (8, regs.map vu64), (1, [(vu64 pc)]), (1, [(.bool true)]), (1, [(vi wt)])]⟩), (.agg ⟨ain.map vu64⟩), (.agg ⟨flat [(1, [(vi rs)]), (4, ors.map vu64), (1, [(vu64 adr)]), (1, [(.bool wr)]), (1, [(vi ran)])]⟩)].toArray w (fun v w1 => v = .bool true ∧ Chg w w1 []) := by
  refine Cs.of (n := 118) (args := [(.agg ⟨flat [(1, [(vi rd)]), (1, [(vu64 ins)]), (8, regs.map vu64), (1, [(vu64 pc)]), (1, [(.bool true)]), (1, [(vi wt)])]⟩), (.agg ⟨ain.map vu64⟩), (.agg ⟨flat [(1, [(vi rs)]), (4, ors.map vu64), (1, [(vu64 adr)]), (1, [(.bool wr)]), (1, [(vi ran)])]⟩)]) Try.func9 rfl rfl rfl ?_
  have h_0 := HP.init w
  refine WP.seq ?_
  refine WP.reg ?_
  refine WL.box (v := (.agg ⟨flat [(1, [(vi rd)]), (1, [(vu64 ins)]), (8, regs.map vu64), (1, [(vu64 pc)]), (1, [(.bool true)]), (1, [(vi wt)])]⟩)) (segs := [(1, [(vi rd)]), (1, [(vu64 ins)]), (8, regs.map vu64), (1, [(vu64 pc)]), (1, [(.bool true)]), (1, [(vi wt)])]) h_0 rfl rfl (SsOk.cons (SOk.v rfl) (SsOk.cons (SOk.v rfl) (SsOk.cons (SOk.u64 hr) (SsOk.cons (SOk.v rfl) (SsOk.cons (SOk.v rfl) (SsOk.cons (SOk.v rfl) SsOk.nil)))))) rfl (fun b_1 w_2 h_3 => ?_)
  refine WL.box (v := (.agg ⟨ain.map vu64⟩)) (segs := [(4, ain.map vu64)]) h_3 rfl rfl (SsOk.cons (SOk.u64 ha) SsOk.nil) rfl (fun b_4 w_5 h_6 => ?_)
  refine WL.box (v := (.agg ⟨flat [(1, [(vi rs)]), (4, ors.map vu64), (1, [(vu64 adr)]), (1, [(.bool wr)]), (1, [(vi ran)])]⟩)) (segs := [(1, [(vi rs)]), (4, ors.map vu64), (1, [(vu64 adr)]), (1, [(.bool wr)]), (1, [(vi ran)])]) h_6 rfl rfl (SsOk.cons (SOk.v rfl) (SsOk.cons (SOk.u64 hor) (SsOk.cons (SOk.v rfl) (SsOk.cons (SOk.v rfl) (SsOk.cons (SOk.v rfl) SsOk.nil))))) rfl (fun b_7 w_8 h_9 => ?_)
  refine WL.q (Wn.no rfl) rfl rfl (R.assign (v := (.bool false)) rfl) ?_
  refine WL.nil ?_
  refine thn_n ?_
  refine WP.g1 (G := Unit) [6, 7, 8, 9, 15, 16, 17, 18, 19, 20, 21, 22, 23, 24, 25, 26, 27, 28, 29, 30, 31, 32, 33, 34, 35, 36, 37, 38] (fun _ => [(6, (.bool false)), (15, (.agg ⟨flat [(1, [(vi rs)]), (4, ors.map vu64), (1, [(vu64 adr)]), (1, [(.bool wr)]), (1, [(vi ran)])]⟩))]) (fun _ w1 => HP w w1 [.blk b_7 .nw 40 [(1, [(vi rs)]), (4, ors.map vu64), (1, [(vu64 adr)]), (1, [(.bool wr)]), (1, [(vi ran)])], .blk b_4 .nw 31 [(4, ain.map vu64)], .blk b_1 .nw 28 [(1, [(vi rd)]), (1, [(vu64 ins)]), (8, regs.map vu64), (1, [(vu64 pc)]), (1, [(.bool true)]), (1, [(vi wt)])]]) ?_ ?_
  · refine WP.seq ?_
    refine WP.reg ?_
    refine WL.q (Wn.no rfl) rfl rfl (R.loadA (b := b_7) (off := 0) [] [(1, [(vi rs)]), (4, ors.map vu64), (1, [(vu64 adr)]), (1, [(.bool wr)]), (1, [(vi ran)])] [] (cs := flat [(1, [(vi rs)]), (4, ors.map vu64), (1, [(vu64 adr)]), (1, [(.bool wr)]), (1, [(vi ran)])]) rfl Try.isAgg40 Try.sizeOf40 (h_9.ok _ (.head _)) rfl rfl rfl rfl) ?_
    refine WL.call (al := [(.agg ⟨flat [(1, [(vi rs)]), (4, ors.map vu64), (1, [(vu64 adr)]), (1, [(.bool wr)]), (1, [(vi ran)])]⟩)]) Try.call29 rfl rfl (c_may14 rs ors hor adr wr ran _ ) rfl ?_
    rintro _ w_11 ⟨rfl, hc_10⟩
    have h_12 := h_9.same hc_10
    refine WL.q (Wn.no rfl) rfl rfl (R.move (v := (.bool (mayB rs ors adr wr ran))) rfl) ?_
    rcases Bool.eq_false_or_eq_true (mayB rs ors adr wr ran) with c_13 | c_13
    · refine WL.want rfl (congrArg Value.bool c_13) ?_
      refine WL.q (Wn.no rfl) rfl rfl (R.fieldAddr (b := b_7) (off := 0) (off' := 0) rfl Try.underlying40 rfl Try.sizeOf38 rfl rfl) ?_
      refine WL.want rfl (congrArg Value.bool c_13) ?_
      refine WL.q (Wn.no rfl) rfl rfl (R.load1 (b := b_7) (off := 0) (v := (vi rs)) rfl Try.isAgg38 (h_12.ok _ (.head _)) Sg.h) ?_
      refine WL.want rfl (congrArg Value.bool c_13) ?_
      refine WL.q (Wn.no rfl) rfl rfl (R.bin (v := (.bool (decide ((rs : Int) ≠ 2)))) rfl rfl (bi_neq (r := decide ((rs : Int) ≠ 2)) rfl)) ?_
      refine WL.q (Wn.no rfl) rfl rfl (R.pickT (v := (.bool (decide ((rs : Int) ≠ 2)))) (congrArg Value.bool c_13) rfl) ?_
      refine WL.nil ?_
      refine thn_n ?_
      refine WP.cond (b := decide ((rs : Int) ≠ 2)) rfl (fun c_14 => ?_) (fun c_14 => ?_)
      · have p_15 := of_decide_eq_true c_14
        refine WP.seq ?_
        refine WP.reg ?_
        refine WL.q (Wn.no rfl) rfl rfl (R.loadA (b := b_7) (off := 0) [] [(1, [(vi rs)]), (4, ors.map vu64), (1, [(vu64 adr)]), (1, [(.bool wr)]), (1, [(vi ran)])] [] (cs := flat [(1, [(vi rs)]), (4, ors.map vu64), (1, [(vu64 adr)]), (1, [(.bool wr)]), (1, [(vi ran)])]) rfl Try.isAgg40 Try.sizeOf40 (h_12.ok _ (.head _)) rfl rfl rfl rfl) ?_
        refine WL.call (al := [(.agg ⟨flat [(1, [(vi rs)]), (4, ors.map vu64), (1, [(vu64 adr)]), (1, [(.bool wr)]), (1, [(vi ran)])]⟩)]) Try.call30 rfl rfl (c_OutBytes rs ors hor adr wr ran c_13 _ ) rfl ?_
        rintro _ w_17 ⟨rfl, hc_16⟩
        have h_18 := h_12.same hc_16
        refine WL.q (Wn.no rfl) rfl rfl (R.move (v := (.tuple [(.agg ⟨(formB rs ors adr wr ran).map vu8⟩), (vi 0)].toArray)) rfl) ?_
        refine WL.q (Wn.no rfl) rfl rfl (R.extract (l := [(.agg ⟨(formB rs ors adr wr ran).map vu8⟩), (vi 0)]) (v := (.agg ⟨(formB rs ors adr wr ran).map vu8⟩)) rfl rfl) ?_
        refine WL.q (Wn.no rfl) rfl rfl (R.extract (l := [(.agg ⟨(formB rs ors adr wr ran).map vu8⟩), (vi 0)]) (v := (vi 0)) rfl rfl) ?_
        refine WL.alloc (segs := [(128, (List.replicate 128 (0 : UInt8)).map vu8)]) h_18 (zv Try.typeInfo53 rfl) rfl (SsOk.cons (SOk.u8 (List.length_replicate ..)) SsOk.nil) rfl (fun b_19 w_20 h_21 => ?_)
        refine WL.storeA (b := b_19) (off := 0) [] [(128, (List.replicate 128 (0 : UInt8)).map vu8)] [(128, (formB rs ors adr wr ran).map vu8)] [] (ys := (formB rs ors adr wr ran).map vu8) h_21 rfl rfl Try.sizeOf53 At.h (by decide) rfl rfl rfl rfl rfl rfl (SsOk.cons (SOk.u8 (formB_len hor)) SsOk.nil) (fun w_22 h_23 => ?_)
        refine WL.q (Wn.no rfl) rfl rfl (R.assign (v := (vi 0)) rfl) ?_
        refine WL.nil ?_
        refine thn_n ?_
        refine WP.seq ?_
        refine WP.reg ?_
        refine WL.q (Wn.no rfl) rfl rfl (R.assign (v := (vi 1)) rfl) ?_
        refine WL.nil ?_
        refine thn_n ?_
        refine WP.block ?_
        refine WP.loopU (WI.round ?_)
        refine WP.seq ?_
        refine WP.seq ?_
        refine WP.reg ?_
        refine WL.q (Wn.no rfl) rfl rfl (R.move (v := (vi 1)) rfl) ?_
        refine WL.q (Wn.no rfl) rfl rfl (R.bin (v := (.bool true)) rfl rfl (bi_lss (r := true) (by decide))) ?_
        refine WL.nil ?_
        refine thn_n ?_
        refine WP.condT rfl ?_
        refine WP.skip ?_
        refine thn_n ?_
        refine WP.seq ?_
        refine WP.block ?_
        refine WP.seq ?_
        refine WP.reg ?_
        refine WL.q (Wn.no rfl) rfl rfl (R.move (v := (vi 0)) rfl) ?_
        refine WL.q (Wn.no rfl) rfl rfl (R.bin (v := (.bool false)) rfl rfl (bi_neq (r := false) (by decide))) ?_
        refine WL.q (Wn.no rfl) rfl rfl (R.move (v := (.bool false)) rfl) ?_
        refine WL.want rfl rfl ?_
        refine WL.q (Wn.no rfl) rfl rfl (R.loadA (b := b_19) (off := 0) [] [(128, (formB rs ors adr wr ran).map vu8)] [] (cs := (formB rs ors adr wr ran).map vu8) rfl Try.isAgg53 Try.sizeOf53 (h_23.ok _ (.head _)) rfl rfl rfl rfl) ?_
        refine WL.want rfl rfl ?_
        refine WL.q (Wn.no rfl) rfl rfl (R.move (v := (vi 1)) rfl) ?_
        refine WL.want rfl rfl ?_
        refine WL.call (al := [(.agg ⟨(formB rs ors adr wr ran).map vu8⟩), (vi 1)]) Try.call31 rfl rfl (c_word14 (formB rs ors adr wr ran) (formB_len hor) 1 (by omega) _ ) rfl ?_
        rintro _ w_25 ⟨rfl, hc_24⟩
        have h_26 := h_23.same hc_24
        refine WL.want rfl rfl ?_
        refine WL.q (Wn.no rfl) rfl rfl (R.bin (v := (.bool (decide ((wordB (formB rs ors adr wr ran) 1 : UInt64) ≠ 0)))) rfl rfl (b64_neq (wordB (formB rs ors adr wr ran) 1) 0 (r := decide ((wordB (formB rs ors adr wr ran) 1 : UInt64) ≠ 0)) rfl)) ?_
        refine WL.q (Wn.no rfl) rfl rfl (R.pickF (v := (.bool (decide ((wordB (formB rs ors adr wr ran) 1 : UInt64) ≠ 0)))) rfl rfl) ?_
        refine WL.nil ?_
        refine thn_n ?_
        refine WP.condF (congrArg Value.bool (decide_eq_false (not_not_intro (rest_zero c_13 p_15 (by decide) (by decide))))) ?_
        refine WP.skip ?_
        refine inb_n ?_
        refine thn_n ?_
        refine WP.reg ?_
        refine WL.q (Wn.no rfl) rfl rfl (R.move (v := (vi 1)) rfl) ?_
        refine WL.q (Wn.no rfl) rfl rfl (R.bin (v := (vi 2)) rfl rfl (bi_add (c := 2) (by omega) (by omega))) ?_
        refine WL.q (Wn.no rfl) rfl rfl (R.assign (v := (vi 2)) rfl) ?_
        refine WL.nil ?_
        refine thn_n ?_
        refine WI.round ?_
        refine WP.seq ?_
        refine WP.seq ?_
        refine WP.reg ?_
        refine WL.q (Wn.no rfl) rfl rfl (R.move (v := (vi 2)) rfl) ?_
        refine WL.q (Wn.no rfl) rfl rfl (R.bin (v := (.bool true)) rfl rfl (bi_lss (r := true) (by decide))) ?_
        refine WL.nil ?_
        refine thn_n ?_
        refine WP.condT rfl ?_
        refine WP.skip ?_
        refine thn_n ?_
        refine WP.seq ?_
        refine WP.block ?_
        refine WP.seq ?_
        refine WP.reg ?_
        refine WL.q (Wn.no rfl) rfl rfl (R.move (v := (vi 0)) rfl) ?_
        refine WL.q (Wn.no rfl) rfl rfl (R.bin (v := (.bool false)) rfl rfl (bi_neq (r := false) (by decide))) ?_
        refine WL.q (Wn.no rfl) rfl rfl (R.move (v := (.bool false)) rfl) ?_
        refine WL.want rfl rfl ?_
        refine WL.q (Wn.no rfl) rfl rfl (R.loadA (b := b_19) (off := 0) [] [(128, (formB rs ors adr wr ran).map vu8)] [] (cs := (formB rs ors adr wr ran).map vu8) rfl Try.isAgg53 Try.sizeOf53 (h_26.ok _ (.head _)) rfl rfl rfl rfl) ?_
        refine WL.want rfl rfl ?_
        refine WL.q (Wn.no rfl) rfl rfl (R.move (v := (vi 2)) rfl) ?_
        refine WL.want rfl rfl ?_
        refine WL.call (al := [(.agg ⟨(formB rs ors adr wr ran).map vu8⟩), (vi 2)]) Try.call31 rfl rfl (c_word14 (formB rs ors adr wr ran) (formB_len hor) 2 (by omega) _ ) rfl ?_
        rintro _ w_28 ⟨rfl, hc_27⟩
        have h_29 := h_26.same hc_27
        refine WL.want rfl rfl ?_
        refine WL.q (Wn.no rfl) rfl rfl (R.bin (v := (.bool (decide ((wordB (formB rs ors adr wr ran) 2 : UInt64) ≠ 0)))) rfl rfl (b64_neq (wordB (formB rs ors adr wr ran) 2) 0 (r := decide ((wordB (formB rs ors adr wr ran) 2 : UInt64) ≠ 0)) rfl)) ?_
        refine WL.q (Wn.no rfl) rfl rfl (R.pickF (v := (.bool (decide ((wordB (formB rs ors adr wr ran) 2 : UInt64) ≠ 0)))) rfl rfl) ?_
        refine WL.nil ?_
        refine thn_n ?_
        refine WP.condF (congrArg Value.bool (decide_eq_false (not_not_intro (rest_zero c_13 p_15 (by decide) (by decide))))) ?_
        refine WP.skip ?_
        refine inb_n ?_
        refine thn_n ?_
        refine WP.reg ?_
        refine WL.q (Wn.no rfl) rfl rfl (R.move (v := (vi 2)) rfl) ?_
        refine WL.q (Wn.no rfl) rfl rfl (R.bin (v := (vi 3)) rfl rfl (bi_add (c := 3) (by omega) (by omega))) ?_
        refine WL.q (Wn.no rfl) rfl rfl (R.assign (v := (vi 3)) rfl) ?_
        refine WL.nil ?_
        refine thn_n ?_
        refine WI.round ?_
        refine WP.seq ?_
        refine WP.seq ?_
        refine WP.reg ?_
        refine WL.q (Wn.no rfl) rfl rfl (R.move (v := (vi 3)) rfl) ?_
        refine WL.q (Wn.no rfl) rfl rfl (R.bin (v := (.bool true)) rfl rfl (bi_lss (r := true) (by decide))) ?_
        refine WL.nil ?_
        refine thn_n ?_
        refine WP.condT rfl ?_
        refine WP.skip ?_
        refine thn_n ?_
        refine WP.seq ?_
        refine WP.block ?_
        refine WP.seq ?_
        refine WP.reg ?_
        refine WL.q (Wn.no rfl) rfl rfl (R.move (v := (vi 0)) rfl) ?_
        refine WL.q (Wn.no rfl) rfl rfl (R.bin (v := (.bool false)) rfl rfl (bi_neq (r := false) (by decide))) ?_
        refine WL.q (Wn.no rfl) rfl rfl (R.move (v := (.bool false)) rfl) ?_
        refine WL.want rfl rfl ?_
        refine WL.q (Wn.no rfl) rfl rfl (R.loadA (b := b_19) (off := 0) [] [(128, (formB rs ors adr wr ran).map vu8)] [] (cs := (formB rs ors adr wr ran).map vu8) rfl Try.isAgg53 Try.sizeOf53 (h_29.ok _ (.head _)) rfl rfl rfl rfl) ?_
        refine WL.want rfl rfl ?_
        refine WL.q (Wn.no rfl) rfl rfl (R.move (v := (vi 3)) rfl) ?_
        refine WL.want rfl rfl ?_
        refine WL.call (al := [(.agg ⟨(formB rs ors adr wr ran).map vu8⟩), (vi 3)]) Try.call31 rfl rfl (c_word14 (formB rs ors adr wr ran) (formB_len hor) 3 (by omega) _ ) rfl ?_
        rintro _ w_31 ⟨rfl, hc_30⟩
        have h_32 := h_29.same hc_30
        refine WL.want rfl rfl ?_
        refine WL.q (Wn.no rfl) rfl rfl (R.bin (v := (.bool (decide ((wordB (formB rs ors adr wr ran) 3 : UInt64) ≠ 0)))) rfl rfl (b64_neq (wordB (formB rs ors adr wr ran) 3) 0 (r := decide ((wordB (formB rs ors adr wr ran) 3 : UInt64) ≠ 0)) rfl)) ?_
        refine WL.q (Wn.no rfl) rfl rfl (R.pickF (v := (.bool (decide ((wordB (formB rs ors adr wr ran) 3 : UInt64) ≠ 0)))) rfl rfl) ?_
        refine WL.nil ?_
        refine thn_n ?_
        refine WP.condF (congrArg Value.bool (decide_eq_false (not_not_intro (rest_zero c_13 p_15 (by decide) (by decide))))) ?_
        refine WP.skip ?_
        refine inb_n ?_
        refine thn_n ?_
        refine WP.reg ?_
        refine WL.q (Wn.no rfl) rfl rfl (R.move (v := (vi 3)) rfl) ?_
        refine WL.q (Wn.no rfl) rfl rfl (R.bin (v := (vi 4)) rfl rfl (bi_add (c := 4) (by omega) (by omega))) ?_
        refine WL.q (Wn.no rfl) rfl rfl (R.assign (v := (vi 4)) rfl) ?_
        refine WL.nil ?_
        refine thn_n ?_
        refine WI.round ?_
        refine WP.seq ?_
        refine WP.seq ?_
        refine WP.reg ?_
        refine WL.q (Wn.no rfl) rfl rfl (R.move (v := (vi 4)) rfl) ?_
        refine WL.q (Wn.no rfl) rfl rfl (R.bin (v := (.bool true)) rfl rfl (bi_lss (r := true) (by decide))) ?_
        refine WL.nil ?_
        refine thn_n ?_
        refine WP.condT rfl ?_
        refine WP.skip ?_
        refine thn_n ?_
        refine WP.seq ?_
        refine WP.block ?_
        refine WP.seq ?_
        refine WP.reg ?_
        refine WL.q (Wn.no rfl) rfl rfl (R.move (v := (vi 0)) rfl) ?_
        refine WL.q (Wn.no rfl) rfl rfl (R.bin (v := (.bool false)) rfl rfl (bi_neq (r := false) (by decide))) ?_
        refine WL.q (Wn.no rfl) rfl rfl (R.move (v := (.bool false)) rfl) ?_
        refine WL.want rfl rfl ?_
        refine WL.q (Wn.no rfl) rfl rfl (R.loadA (b := b_19) (off := 0) [] [(128, (formB rs ors adr wr ran).map vu8)] [] (cs := (formB rs ors adr wr ran).map vu8) rfl Try.isAgg53 Try.sizeOf53 (h_32.ok _ (.head _)) rfl rfl rfl rfl) ?_
        refine WL.want rfl rfl ?_
        refine WL.q (Wn.no rfl) rfl rfl (R.move (v := (vi 4)) rfl) ?_
        refine WL.want rfl rfl ?_
        refine WL.call (al := [(.agg ⟨(formB rs ors adr wr ran).map vu8⟩), (vi 4)]) Try.call31 rfl rfl (c_word14 (formB rs ors adr wr ran) (formB_len hor) 4 (by omega) _ ) rfl ?_
        rintro _ w_34 ⟨rfl, hc_33⟩
        have h_35 := h_32.same hc_33
        refine WL.want rfl rfl ?_
        refine WL.q (Wn.no rfl) rfl rfl (R.bin (v := (.bool (decide ((wordB (formB rs ors adr wr ran) 4 : UInt64) ≠ 0)))) rfl rfl (b64_neq (wordB (formB rs ors adr wr ran) 4) 0 (r := decide ((wordB (formB rs ors adr wr ran) 4 : UInt64) ≠ 0)) rfl)) ?_
        refine WL.q (Wn.no rfl) rfl rfl (R.pickF (v := (.bool (decide ((wordB (formB rs ors adr wr ran) 4 : UInt64) ≠ 0)))) rfl rfl) ?_
        refine WL.nil ?_
        refine thn_n ?_
        refine WP.condF (congrArg Value.bool (decide_eq_false (not_not_intro (rest_zero c_13 p_15 (by decide) (by decide))))) ?_
        refine WP.skip ?_
        refine inb_n ?_
        refine thn_n ?_
        refine WP.reg ?_
        refine WL.q (Wn.no rfl) rfl rfl (R.move (v := (vi 4)) rfl) ?_
        refine WL.q (Wn.no rfl) rfl rfl (R.bin (v := (vi 5)) rfl rfl (bi_add (c := 5) (by omega) (by omega))) ?_
        refine WL.q (Wn.no rfl) rfl rfl (R.assign (v := (vi 5)) rfl) ?_
        refine WL.nil ?_
        refine thn_n ?_
        refine WI.round ?_
        refine WP.seq ?_
        refine WP.seq ?_
        refine WP.reg ?_
        refine WL.q (Wn.no rfl) rfl rfl (R.move (v := (vi 5)) rfl) ?_
        refine WL.q (Wn.no rfl) rfl rfl (R.bin (v := (.bool false)) rfl rfl (bi_lss (r := false) (by decide))) ?_
        refine WL.nil ?_
        refine thn_n ?_
        refine WP.condF rfl ?_
        refine WP.exit ?_
        refine thn_x ?_
        refine thn_x ?_
        refine inb_hit ?_
        refine thn_n ?_
        have h_36 := h_35.up (Pick.t (Pick.t (Pick.t Pick.h)))
        have h_37 := h_36.up (Pick.t (Pick.t (Pick.t Pick.h)))
        have h_38 := h_37.up (Pick.t (Pick.t (Pick.t Pick.h)))
        have h_39 := (h_38.up (Pick.t (Pick.t (Pick.t Pick.h)))).drop rfl
        exact ⟨(), (Ag.upd rfl (Ag.upd rfl (Ag.upd rfl (Ag.upd rfl (Ag.upd rfl (Ag.upd rfl (Ag.upd rfl (Ag.upd rfl (Ag.upd rfl (Ag.upd rfl (Ag.upd rfl (Ag.upd rfl (Ag.upd rfl (Ag.upd rfl (Ag.upd rfl (Ag.upd rfl (Ag.upd rfl (Ag.upd rfl (Ag.upd rfl (Ag.upd rfl (Ag.upd rfl (Ag.upd rfl (Ag.upd rfl (Ag.upd rfl (Ag.upd rfl (Ag.upd rfl (Ag.upd rfl (Ag.upd rfl (Ag.upd rfl (Ag.upd rfl (Ag.upd rfl (Ag.upd rfl (Ag.upd rfl (Ag.upd rfl (Ag.upd rfl (Ag.upd rfl (Ag.upd rfl (Ag.upd rfl (Ag.upd rfl (Ag.upd rfl (Ag.upd rfl (Ag.upd rfl (Ag.upd rfl (Ag.upd rfl (Ag.upd rfl (Ag.upd rfl (Ag.upd rfl (Ag.upd rfl (Ag.upd rfl (Ag.upd rfl (Ag.upd rfl (Ag.upd rfl (Ag.upd rfl (Ag.upd rfl (Ag.upd rfl (Ag.upd rfl (Ag.upd rfl (Ag.upd rfl (Ag.upd rfl (Ag.upd rfl (Ag.upd rfl (Ag.upd rfl (Ag.upd rfl (Ag.upd rfl (Ag.upd rfl (Ag.upd rfl (Ag.upd rfl (Ag.upd rfl (Ag.upd rfl (Ag.refl _ _)))))))))))))))))))))))))))))))))))))))))))))))))))))))))))))))))))))), ⟨rfl, rfl, trivial⟩, h_39⟩
      · have p_40 := of_decide_eq_false c_14
        refine WP.skip ?_
        refine thn_n ?_
        exact ⟨(), (Ag.upd rfl (Ag.upd rfl (Ag.upd rfl (Ag.upd rfl (Ag.upd rfl (Ag.upd rfl (Ag.upd rfl (Ag.refl _ _)))))))), ⟨rfl, rfl, trivial⟩, h_12⟩
    · refine WL.skip rfl (congrArg Value.bool c_13) rfl ?_
      refine WL.skip rfl (congrArg Value.bool c_13) rfl ?_
      refine WL.skip rfl (congrArg Value.bool c_13) rfl ?_
      refine WL.q (Wn.no rfl) rfl rfl (R.pickF (v := (.bool false)) (congrArg Value.bool c_13) rfl) ?_
      refine WL.nil ?_
      refine thn_n ?_
      refine WP.condF rfl ?_
      refine WP.skip ?_
      refine thn_n ?_
      exact ⟨(), (Ag.upd rfl (Ag.upd rfl (Ag.upd rfl (Ag.upd rfl (Ag.upd rfl (Ag.upd rfl (Ag.upd rfl (Ag.refl _ _)))))))), ⟨rfl, rfl, trivial⟩, h_12⟩
  · rintro _ J_41 w_42 h_43
    refine WP.seq ?_
    refine WP.reg ?_
    refine WL.q (Wn.no rfl) rfl rfl (R.loadA (b := b_1) (off := 0) [] [(1, [(vi rd)]), (1, [(vu64 ins)]), (8, regs.map vu64), (1, [(vu64 pc)]), (1, [(.bool true)]), (1, [(vi wt)])] [] (cs := flat [(1, [(vi rd)]), (1, [(vu64 ins)]), (8, regs.map vu64), (1, [(vu64 pc)]), (1, [(.bool true)]), (1, [(vi wt)])]) rfl Try.isAgg28 Try.sizeOf28 (h_43.ok _ (.tail _ (.tail _ (.head _)))) rfl rfl rfl rfl) ?_
    refine WL.q (Wn.no rfl) rfl rfl (R.loadA (b := b_4) (off := 0) [] [(4, ain.map vu64)] [] (cs := ain.map vu64) rfl Try.isAgg31 Try.sizeOf31 (h_43.ok _ (.tail _ (.head _))) rfl rfl rfl rfl) ?_
    refine WL.call (al := [(.agg ⟨flat [(1, [(vi rd)]), (1, [(vu64 ins)]), (8, regs.map vu64), (1, [(vu64 pc)]), (1, [(.bool true)]), (1, [(vi wt)])]⟩), (.agg ⟨ain.map vu64⟩)]) Try.call13 rfl rfl (c_Enter rd ins regs hr pc true wt ain ha (by simp [mayE, hw3]) _) rfl ?_
    rintro _ w_45 ⟨rfl, hc_44⟩
    have h_46 := h_43.same hc_44
    refine WL.q (Wn.no rfl) rfl rfl (R.move (v := (.tuple [(.agg ⟨flat [(1, [(vi rd)]), (1, [(vu64 ins)]), (8, (entRegs wt ain regs).map vu64), (1, [(vu64 pc)]), (1, [(.bool true)]), (1, [(vi 0)])]⟩), (vi 0)].toArray)) rfl) ?_
    refine WL.q (Wn.no rfl) rfl rfl (R.extract (l := [(.agg ⟨flat [(1, [(vi rd)]), (1, [(vu64 ins)]), (8, (entRegs wt ain regs).map vu64), (1, [(vu64 pc)]), (1, [(.bool true)]), (1, [(vi 0)])]⟩), (vi 0)]) (v := (.agg ⟨flat [(1, [(vi rd)]), (1, [(vu64 ins)]), (8, (entRegs wt ain regs).map vu64), (1, [(vu64 pc)]), (1, [(.bool true)]), (1, [(vi 0)])]⟩)) rfl rfl) ?_
    refine WL.q (Wn.no rfl) rfl rfl (R.extract (l := [(.agg ⟨flat [(1, [(vi rd)]), (1, [(vu64 ins)]), (8, (entRegs wt ain regs).map vu64), (1, [(vu64 pc)]), (1, [(.bool true)]), (1, [(vi 0)])]⟩), (vi 0)]) (v := (vi 0)) rfl rfl) ?_
    refine WL.alloc (segs := [(1, [(vi 0)]), (1, [(vu64 0)]), (8, (List.replicate 8 (0 : UInt64)).map vu64), (1, [(vu64 0)]), (1, [(.bool false)]), (1, [(vi 0)])]) h_46 (zv Try.typeInfo28 rfl) rfl (SsOk.cons (SOk.v rfl) (SsOk.cons (SOk.v rfl) (SsOk.cons (SOk.u64 (List.length_replicate ..)) (SsOk.cons (SOk.v rfl) (SsOk.cons (SOk.v rfl) (SsOk.cons (SOk.v rfl) SsOk.nil)))))) rfl (fun b_47 w_48 h_49 => ?_)
    refine WL.storeA (b := b_47) (off := 0) [] [(1, [(vi 0)]), (1, [(vu64 0)]), (8, (List.replicate 8 (0 : UInt64)).map vu64), (1, [(vu64 0)]), (1, [(.bool false)]), (1, [(vi 0)])] [(1, [(vi rd)]), (1, [(vu64 ins)]), (8, (entRegs wt ain regs).map vu64), (1, [(vu64 pc)]), (1, [(.bool true)]), (1, [(vi 0)])] [] (ys := flat [(1, [(vi rd)]), (1, [(vu64 ins)]), (8, (entRegs wt ain regs).map vu64), (1, [(vu64 pc)]), (1, [(.bool true)]), (1, [(vi 0)])]) h_49 rfl rfl Try.sizeOf28 At.h (by decide) rfl rfl rfl rfl rfl rfl (SsOk.cons (SOk.v rfl) (SsOk.cons (SOk.v rfl) (SsOk.cons (SOk.u64 (entRegs_len ha hr)) (SsOk.cons (SOk.v rfl) (SsOk.cons (SOk.v rfl) (SsOk.cons (SOk.v rfl) SsOk.nil)))))) (fun w_50 h_51 => ?_)
    refine WL.q (Wn.no rfl) rfl rfl (R.assign (v := (vi 0)) rfl) ?_
    refine WL.nil ?_
    refine thn_n ?_
    refine WP.seq ?_
    refine WP.seq ?_
    refine WP.reg ?_
    refine WL.q (Wn.no rfl) rfl rfl (R.move (v := (vi 0)) rfl) ?_
    refine WL.q (Wn.no rfl) rfl rfl (R.bin (v := (.bool false)) rfl rfl (bi_neq (r := false) (by decide))) ?_
    refine WL.nil ?_
    refine thn_n ?_
    refine WP.condF rfl ?_
    refine WP.skip ?_
    refine thn_n ?_
    refine WP.seq ?_
    refine WP.reg ?_
    refine WL.q (Wn.no rfl) rfl rfl (R.loadA (b := b_47) (off := 0) [] [(1, [(vi rd)]), (1, [(vu64 ins)]), (8, (entRegs wt ain regs).map vu64), (1, [(vu64 pc)]), (1, [(.bool true)]), (1, [(vi 0)])] [] (cs := flat [(1, [(vi rd)]), (1, [(vu64 ins)]), (8, (entRegs wt ain regs).map vu64), (1, [(vu64 pc)]), (1, [(.bool true)]), (1, [(vi 0)])]) rfl Try.isAgg28 Try.sizeOf28 (h_51.ok _ (.head _)) rfl rfl rfl rfl) ?_
    refine WL.q (Wn.no rfl) rfl rfl (R.fieldAddr (b := b_47) (off := 0) (off' := 2) rfl Try.underlying28 rfl Try.sizeOf25 rfl rfl) ?_
    refine WL.q (Wn.no rfl) rfl rfl (R.loadA (b := b_47) (off := 2) [(1, [(vi rd)]), (1, [(vu64 ins)])] [(8, (entRegs wt ain regs).map vu64), (1, [(vu64 pc)])] [(1, [(.bool true)]), (1, [(vi 0)])] (cs := flat [(8, (entRegs wt ain regs).map vu64), (1, [(vu64 pc)])]) rfl Try.isAgg25 Try.sizeOf25 (h_51.ok _ (.head _)) rfl rfl rfl rfl) ?_
    refine WL.q (Wn.no rfl) rfl rfl (R.buildS (pl := [(0, 1), (1, 4), (5, 1), (6, 1), (7, 1)]) (zs := [(1, [(vi 0)]), (4, (List.replicate 4 (0 : UInt64)).map vu64), (1, [(vu64 0)]), (1, [(.bool false)]), (1, [(vi 0)])]) (vs := [(0, (vi 1))]) (out := [(1, [(vi 1)]), (4, (List.replicate 4 (0 : UInt64)).map vu64), (1, [(vu64 0)]), (1, [(.bool false)]), (1, [(vi 0)])]) (cs := flat [(1, [(vi 1)]), (4, (List.replicate 4 (0 : UInt64)).map vu64), (1, [(vu64 0)]), (1, [(.bool false)]), (1, [(vi 0)])]) Try.underlying40 (zv Try.typeInfo40 rfl) rfl (SsOk.cons (SOk.v rfl) (SsOk.cons (SOk.u64 (List.length_replicate ..)) (SsOk.cons (SOk.v rfl) (SsOk.cons (SOk.v rfl) (SsOk.cons (SOk.v rfl) SsOk.nil))))) (pl40 _ Try.underlying40) rfl (FillR.cons [] [(1, [(vi 0)])] [(1, [(vi 1)])] [(4, (List.replicate 4 (0 : UInt64)).map vu64), (1, [(vu64 0)]), (1, [(.bool false)]), (1, [(vi 0)])] rfl rfl rfl rfl (SsOk.cons (SOk.v rfl) SsOk.nil) rfl rfl rfl FillR.nil) rfl) ?_
    refine WL.call (al := [(.agg ⟨flat [(1, [(vi rd)]), (1, [(vu64 ins)]), (8, (entRegs wt ain regs).map vu64), (1, [(vu64 pc)]), (1, [(.bool true)]), (1, [(vi 0)])]⟩), (.agg ⟨flat [(8, (entRegs wt ain regs).map vu64), (1, [(vu64 pc)])]⟩), (.agg ⟨flat [(1, [(vi 1)]), (4, (List.replicate 4 (0 : UInt64)).map vu64), (1, [(vu64 0)]), (1, [(.bool false)]), (1, [(vi 0)])]⟩)]) Try.call16 rfl rfl (c_Leave rd ins (entRegs wt ain regs) (entRegs_len ha hr) pc true 0 (entRegs wt ain regs) (entRegs_len ha hr) pc 1 (List.replicate 4 (0 : UInt64)) (List.length_replicate ..) 0 false 0 (by decide) (by decide) (by decide) _) rfl ?_
    rintro _ w_54 ⟨rfl, hc_53⟩
    have h_55 := h_51.same hc_53
    refine WL.q (Wn.no rfl) rfl rfl (R.move (v := (.tuple [(.agg ⟨flat [(1, [(vi rd)]), (1, [(vu64 ins)]), (8, (entRegs wt ain regs).map vu64), (1, [(vu64 pc)]), (1, [(.bool true)]), (1, [(vi 0)])]⟩), (vi 0)].toArray)) rfl) ?_
    refine WL.q (Wn.no rfl) rfl rfl (R.extract (l := [(.agg ⟨flat [(1, [(vi rd)]), (1, [(vu64 ins)]), (8, (entRegs wt ain regs).map vu64), (1, [(vu64 pc)]), (1, [(.bool true)]), (1, [(vi 0)])]⟩), (vi 0)]) (v := (.agg ⟨flat [(1, [(vi rd)]), (1, [(vu64 ins)]), (8, (entRegs wt ain regs).map vu64), (1, [(vu64 pc)]), (1, [(.bool true)]), (1, [(vi 0)])]⟩)) rfl rfl) ?_
    refine WL.q (Wn.no rfl) rfl rfl (R.extract (l := [(.agg ⟨flat [(1, [(vi rd)]), (1, [(vu64 ins)]), (8, (entRegs wt ain regs).map vu64), (1, [(vu64 pc)]), (1, [(.bool true)]), (1, [(vi 0)])]⟩), (vi 0)]) (v := (vi 0)) rfl rfl) ?_
    refine WL.alloc (segs := [(1, [(vi 0)]), (1, [(vu64 0)]), (8, (List.replicate 8 (0 : UInt64)).map vu64), (1, [(vu64 0)]), (1, [(.bool false)]), (1, [(vi 0)])]) h_55 (zv Try.typeInfo28 rfl) rfl (SsOk.cons (SOk.v rfl) (SsOk.cons (SOk.v rfl) (SsOk.cons (SOk.u64 (List.length_replicate ..)) (SsOk.cons (SOk.v rfl) (SsOk.cons (SOk.v rfl) (SsOk.cons (SOk.v rfl) SsOk.nil)))))) rfl (fun b_56 w_57 h_58 => ?_)
    refine WL.storeA (b := b_56) (off := 0) [] [(1, [(vi 0)]), (1, [(vu64 0)]), (8, (List.replicate 8 (0 : UInt64)).map vu64), (1, [(vu64 0)]), (1, [(.bool false)]), (1, [(vi 0)])] [(1, [(vi rd)]), (1, [(vu64 ins)]), (8, (entRegs wt ain regs).map vu64), (1, [(vu64 pc)]), (1, [(.bool true)]), (1, [(vi 0)])] [] (ys := flat [(1, [(vi rd)]), (1, [(vu64 ins)]), (8, (entRegs wt ain regs).map vu64), (1, [(vu64 pc)]), (1, [(.bool true)]), (1, [(vi 0)])]) h_58 rfl rfl Try.sizeOf28 At.h (by decide) rfl rfl rfl rfl rfl rfl (SsOk.cons (SOk.v rfl) (SsOk.cons (SOk.v rfl) (SsOk.cons (SOk.u64 (entRegs_len ha hr)) (SsOk.cons (SOk.v rfl) (SsOk.cons (SOk.v rfl) (SsOk.cons (SOk.v rfl) SsOk.nil)))))) (fun w_59 h_60 => ?_)
    refine WL.q (Wn.no rfl) rfl rfl (R.assign (v := (vi 0)) rfl) ?_
    refine WL.nil ?_
    refine thn_n ?_
    refine WP.seq ?_
    refine WP.seq ?_
    refine WP.reg ?_
    refine WL.q (Wn.no rfl) rfl rfl (R.move (v := (vi 0)) rfl) ?_
    refine WL.q (Wn.no rfl) rfl rfl (R.bin (v := (.bool false)) rfl rfl (bi_neq (r := false) (by decide))) ?_
    refine WL.q (Wn.no rfl) rfl rfl (R.move (v := (.bool false)) rfl) ?_
    refine WL.want rfl rfl ?_
    refine WL.q (Wn.no rfl) rfl rfl (R.fieldAddr (b := b_56) (off := 0) (off' := 12) rfl Try.underlying28 rfl Try.sizeOf26 rfl rfl) ?_
    refine WL.want rfl rfl ?_
    refine WL.q (Wn.no rfl) rfl rfl (R.load1 (b := b_56) (off := 12) (v := (vi 0)) rfl Try.isAgg26 (h_60.ok _ (.head _)) (Sg.t rfl (Sg.t rfl (Sg.t rfl (Sg.t rfl (Sg.t rfl Sg.h)))))) ?_
    refine WL.want rfl rfl ?_
    refine WL.q (Wn.no rfl) rfl rfl (R.bin (v := (.bool false)) rfl rfl (bi_neq (r := false) (by decide))) ?_
    refine WL.q (Wn.no rfl) rfl rfl (R.pickF (v := (.bool false)) rfl rfl) ?_
    refine WL.q (Wn.no rfl) rfl rfl (R.move (v := (.bool false)) rfl) ?_
    refine WL.want rfl rfl ?_
    refine WL.q (Wn.no rfl) rfl rfl (R.fieldAddr (b := b_56) (off := 0) (off' := 0) rfl Try.underlying28 rfl Try.sizeOf3 rfl rfl) ?_
    refine WL.want rfl rfl ?_
    refine WL.q (Wn.no rfl) rfl rfl (R.load1 (b := b_56) (off := 0) (v := (vi rd)) rfl Try.isAgg3 (h_60.ok _ (.head _)) Sg.h) ?_
    refine WL.want rfl rfl ?_
    refine WL.q (Wn.no rfl) rfl rfl (R.fieldAddr (b := b_1) (off := 0) (off' := 0) rfl Try.underlying28 rfl Try.sizeOf3 rfl rfl) ?_
    refine WL.want rfl rfl ?_
    refine WL.q (Wn.no rfl) rfl rfl (R.load1 (b := b_1) (off := 0) (v := (vi rd)) rfl Try.isAgg3 (h_60.ok _ (.tail _ (.tail _ (.tail _ (.tail _ (.head _)))))) Sg.h) ?_
    refine WL.want rfl rfl ?_
    refine WL.q (Wn.no rfl) rfl rfl (R.bin (v := (.bool false)) rfl rfl (bi_neq (r := false) (by simp))) ?_
    refine WL.q (Wn.no rfl) rfl rfl (R.pickF (v := (.bool false)) rfl rfl) ?_
    refine WL.q (Wn.no rfl) rfl rfl (R.move (v := (.bool false)) rfl) ?_
    refine WL.want rfl rfl ?_
    refine WL.q (Wn.no rfl) rfl rfl (R.fieldAddr (b := b_56) (off := 0) (off' := 1) rfl Try.underlying28 rfl Try.sizeOf22 rfl rfl) ?_
    refine WL.want rfl rfl ?_
    refine WL.q (Wn.no rfl) rfl rfl (R.load1 (b := b_56) (off := 1) (v := (vu64 ins)) rfl Try.isAgg22 (h_60.ok _ (.head _)) (Sg.t rfl Sg.h)) ?_
    refine WL.want rfl rfl ?_
    refine WL.q (Wn.no rfl) rfl rfl (R.fieldAddr (b := b_1) (off := 0) (off' := 1) rfl Try.underlying28 rfl Try.sizeOf22 rfl rfl) ?_
    refine WL.want rfl rfl ?_
    refine WL.q (Wn.no rfl) rfl rfl (R.load1 (b := b_1) (off := 1) (v := (vu64 ins)) rfl Try.isAgg22 (h_60.ok _ (.tail _ (.tail _ (.tail _ (.tail _ (.head _)))))) (Sg.t rfl Sg.h)) ?_
    refine WL.want rfl rfl ?_
    refine WL.q (Wn.no rfl) rfl rfl (R.bin (v := (.bool false)) rfl rfl (b64_neq ins ins (r := false) (by simp))) ?_
    refine WL.q (Wn.no rfl) rfl rfl (R.pickF (v := (.bool false)) rfl rfl) ?_
    refine WL.q (Wn.no rfl) rfl rfl (R.move (v := (.bool false)) rfl) ?_
    refine WL.want rfl rfl ?_
    refine WL.q (Wn.no rfl) rfl rfl (R.fieldAddr (b := b_56) (off := 0) (off' := 11) rfl Try.underlying28 rfl Try.sizeOf4 rfl rfl) ?_
    refine WL.want rfl rfl ?_
    refine WL.q (Wn.no rfl) rfl rfl (R.load1 (b := b_56) (off := 11) (v := (.bool true)) rfl Try.isAgg4 (h_60.ok _ (.head _)) (Sg.t rfl (Sg.t rfl (Sg.t rfl (Sg.t rfl Sg.h))))) ?_
    refine WL.want rfl rfl ?_
    refine WL.q (Wn.no rfl) rfl rfl (R.fieldAddr (b := b_1) (off := 0) (off' := 11) rfl Try.underlying28 rfl Try.sizeOf4 rfl rfl) ?_
    refine WL.want rfl rfl ?_
    refine WL.q (Wn.no rfl) rfl rfl (R.load1 (b := b_1) (off := 11) (v := (.bool true)) rfl Try.isAgg4 (h_60.ok _ (.tail _ (.tail _ (.tail _ (.tail _ (.head _)))))) (Sg.t rfl (Sg.t rfl (Sg.t rfl (Sg.t rfl Sg.h))))) ?_
    refine WL.want rfl rfl ?_
    refine WL.q (Wn.no rfl) rfl rfl (R.neB (a := true) (b := true) (c := false) rfl rfl Try.underlying4 rfl) ?_
    refine WL.q (Wn.no rfl) rfl rfl (R.pickF (v := (.bool false)) rfl rfl) ?_
    refine WL.q (Wn.no rfl) rfl rfl (R.move (v := (.bool false)) rfl) ?_
    refine WL.want rfl rfl ?_
    refine WL.q (Wn.no rfl) rfl rfl (R.fieldAddr (b := b_56) (off := 0) (off' := 2) rfl Try.underlying28 rfl Try.sizeOf25 rfl rfl) ?_
    refine WL.want rfl rfl ?_
    refine WL.q (Wn.no rfl) rfl rfl (R.fieldAddr (b := b_56) (off := 2) (off' := 10) rfl Try.underlying25 rfl Try.sizeOf22 rfl rfl) ?_
    refine WL.want rfl rfl ?_
    refine WL.q (Wn.no rfl) rfl rfl (R.load1 (b := b_56) (off := 10) (v := (vu64 pc)) rfl Try.isAgg22 (h_60.ok _ (.head _)) (Sg.t rfl (Sg.t rfl (Sg.t rfl Sg.h)))) ?_
    refine WL.want rfl rfl ?_
    refine WL.q (Wn.no rfl) rfl rfl (R.fieldAddr (b := b_1) (off := 0) (off' := 2) rfl Try.underlying28 rfl Try.sizeOf25 rfl rfl) ?_
    refine WL.want rfl rfl ?_
    refine WL.q (Wn.no rfl) rfl rfl (R.fieldAddr (b := b_1) (off := 2) (off' := 10) rfl Try.underlying25 rfl Try.sizeOf22 rfl rfl) ?_
    refine WL.want rfl rfl ?_
    refine WL.q (Wn.no rfl) rfl rfl (R.load1 (b := b_1) (off := 10) (v := (vu64 pc)) rfl Try.isAgg22 (h_60.ok _ (.tail _ (.tail _ (.tail _ (.tail _ (.head _)))))) (Sg.t rfl (Sg.t rfl (Sg.t rfl Sg.h)))) ?_
    refine WL.want rfl rfl ?_
    refine WL.q (Wn.no rfl) rfl rfl (R.bin (v := (.bool false)) rfl rfl (b64_neq pc pc (r := false) (by simp))) ?_
    refine WL.q (Wn.no rfl) rfl rfl (R.pickF (v := (.bool false)) rfl rfl) ?_
    refine WL.nil ?_
    refine thn_n ?_
    refine WP.condF rfl ?_
    refine WP.skip ?_
    refine thn_n ?_
    refine WP.seq ?_
    refine WP.seq ?_
    refine WP.reg ?_
    refine WL.q (Wn.no rfl) rfl rfl (R.assign (v := (vi 0)) rfl) ?_
    refine WL.nil ?_
    refine thn_n ?_
    refine WP.block ?_
    refine WP.loopU (WI.round ?_)
    refine WP.seq ?_
    refine WP.seq ?_
    refine WP.reg ?_
    refine WL.q (Wn.no rfl) rfl rfl (R.move (v := (vi 0)) rfl) ?_
    refine WL.q (Wn.no rfl) rfl rfl (R.bin (v := (.bool true)) rfl rfl (bi_lss (r := true) (by decide))) ?_
    refine WL.nil ?_
    refine thn_n ?_
    refine WP.condT rfl ?_
    refine WP.skip ?_
    refine thn_n ?_
    refine WP.g1 (G := Unit) [6, 97, 98, 99, 100, 101, 102, 103, 104, 105, 106, 107, 108, 109, 110, 111, 112, 113, 114, 115, 116] (fun _ => [(6, (.bool false)), (97, (vi 0)), (98, (.pointer (some ⟨b_56, 2, none⟩))), (99, (.pointer (some ⟨b_56, 2, none⟩))), (100, (.pointer (some ⟨b_56, 2, none⟩))), (101, (vu64 ((entRegs wt ain regs).getD 0 0))), (102, (vi 0)), (103, (.pointer (some ⟨b_1, 2, none⟩))), (104, (.pointer (some ⟨b_1, 2, none⟩))), (105, (.pointer (some ⟨b_1, 2, none⟩))), (106, (vu64 (regs.getD 0 0))), (107, (.bool (decide (((entRegs wt ain regs).getD 0 0 : UInt64) ≠ (regs.getD 0 0))))), (108, (.bool (decide (((entRegs wt ain regs).getD 0 0 : UInt64) ≠ (regs.getD 0 0))))), (116, (.bool false))]) (fun _ w1 => HP w w1 [.blk b_56 .nw 28 [(1, [(vi rd)]), (1, [(vu64 ins)]), (8, (entRegs wt ain regs).map vu64), (1, [(vu64 pc)]), (1, [(.bool true)]), (1, [(vi 0)])], .blk b_47 .nw 28 [(1, [(vi rd)]), (1, [(vu64 ins)]), (8, (entRegs wt ain regs).map vu64), (1, [(vu64 pc)]), (1, [(.bool true)]), (1, [(vi 0)])], .blk b_7 .nw 40 [(1, [(vi rs)]), (4, ors.map vu64), (1, [(vu64 adr)]), (1, [(.bool wr)]), (1, [(vi ran)])], .blk b_4 .nw 31 [(4, ain.map vu64)], .blk b_1 .nw 28 [(1, [(vi rd)]), (1, [(vu64 ins)]), (8, regs.map vu64), (1, [(vu64 pc)]), (1, [(.bool true)]), (1, [(vi wt)])]]) ?_ ?_
    · refine WP.block ?_
      refine WP.seq ?_
      refine WP.drawT (SL w.heap.size [.blk b_56 .nw 28 [(1, [(vi rd)]), (1, [(vu64 ins)]), (8, (entRegs wt ain regs).map vu64), (1, [(vu64 pc)]), (1, [(.bool true)]), (1, [(vi 0)])], .blk b_47 .nw 28 [(1, [(vi rd)]), (1, [(vu64 ins)]), (8, (entRegs wt ain regs).map vu64), (1, [(vu64 pc)]), (1, [(.bool true)]), (1, [(vi 0)])], .blk b_7 .nw 40 [(1, [(vi rs)]), (4, ors.map vu64), (1, [(vu64 adr)]), (1, [(.bool wr)]), (1, [(vi ran)])], .blk b_4 .nw 31 [(4, ain.map vu64)], .blk b_1 .nw 28 [(1, [(vi rd)]), (1, [(vu64 ins)]), (8, regs.map vu64), (1, [(vu64 pc)]), (1, [(.bool true)]), (1, [(vi wt)])]]) (.q 0 (.q 1 (.q 2 (.q 3 (.q 4 (.q 5 (.q 6 (.q 7 (.q 8 (.q 9 (.q 10 (.q 11 (.q 12 (.q 13 (.q 14 (.q 15 (.q 16 (.q 17 (.q 18 (.q 19 .nil)))))))))))))))))))) (by kernel_rfl) (by kernel_rfl) rfl (by kernel_rfl) (fun w_61 hc_63 => (SL.cons ((h_60.same hc_63).ok _ (.head _)) (SL.cons ((h_60.same hc_63).ok _ (.tail _ (.head _))) (SL.cons ((h_60.same hc_63).ok _ (.tail _ (.tail _ (.head _)))) (SL.cons ((h_60.same hc_63).ok _ (.tail _ (.tail _ (.tail _ (.head _))))) (SL.cons ((h_60.same hc_63).ok _ (.tail _ (.tail _ (.tail _ (.tail _ (.head _)))))) (SL.nil _ _))))))) (fun w_61 hc_63 => ?_)
      have h_62 := h_60.same hc_63
      refine WT.q rfl (Wn.no rfl) rfl rfl (fun wq hS => R.move (v := (vi 0)) rfl) ?_
      refine WT.q rfl (Wn.no rfl) rfl rfl (fun wq hS => R.fieldAddr (b := b_56) (off := 0) (off' := 2) rfl Try.underlying28 rfl Try.sizeOf25 rfl rfl) ?_
      refine WT.q rfl (Wn.no rfl) rfl rfl (fun wq hS => R.fieldAddr (b := b_56) (off := 2) (off' := 2) rfl Try.underlying25 rfl Try.sizeOf23 rfl rfl) ?_
      refine WT.q rfl (Wn.no rfl) rfl rfl (fun wq hS => R.indexA (b := b_56) (off := 2) (off' := 2) (i := 0) rfl rfl rfl (by decide) Try.underlying23 Try.sizeOf22 rfl) ?_
      refine WT.q rfl (Wn.no rfl) rfl rfl (fun wq hS => R.loadE (b := b_56) (off := 2) (i := 0) (v := (vu64 ((entRegs wt ain regs).getD 0 0))) rfl Try.isAgg22 (hS _ (.head _)) (Sg.t rfl (Sg.t rfl Sg.h)) rfl (get_u64 (lt_len (K := 8) (entRegs_len ha hr) (by decide)))) ?_
      refine WT.q rfl (Wn.no rfl) rfl rfl (fun wq hS => R.move (v := (vi 0)) rfl) ?_
      refine WT.q rfl (Wn.no rfl) rfl rfl (fun wq hS => R.fieldAddr (b := b_1) (off := 0) (off' := 2) rfl Try.underlying28 rfl Try.sizeOf25 rfl rfl) ?_
      refine WT.q rfl (Wn.no rfl) rfl rfl (fun wq hS => R.fieldAddr (b := b_1) (off := 2) (off' := 2) rfl Try.underlying25 rfl Try.sizeOf23 rfl rfl) ?_
      refine WT.q rfl (Wn.no rfl) rfl rfl (fun wq hS => R.indexA (b := b_1) (off := 2) (off' := 2) (i := 0) rfl rfl rfl (by decide) Try.underlying23 Try.sizeOf22 rfl) ?_
      refine WT.q rfl (Wn.no rfl) rfl rfl (fun wq hS => R.loadE (b := b_1) (off := 2) (i := 0) (v := (vu64 (regs.getD 0 0))) rfl Try.isAgg22 (hS _ (.tail _ (.tail _ (.tail _ (.tail _ (.head _)))))) (Sg.t rfl (Sg.t rfl Sg.h)) rfl (get_u64 (lt_len (K := 8) hr (by decide)))) ?_
      refine WT.q rfl (Wn.no rfl) rfl rfl (fun wq hS => R.bin (v := (.bool (decide (((entRegs wt ain regs).getD 0 0 : UInt64) ≠ (regs.getD 0 0))))) rfl rfl (b64_neq ((entRegs wt ain regs).getD 0 0) (regs.getD 0 0) (r := decide (((entRegs wt ain regs).getD 0 0 : UInt64) ≠ (regs.getD 0 0))) rfl)) ?_
      refine WT.q rfl (Wn.no rfl) rfl rfl (fun wq hS => R.move (v := (.bool (decide (((entRegs wt ain regs).getD 0 0 : UInt64) ≠ (regs.getD 0 0))))) rfl) ?_
      refine WT.skipQ rfl rfl rfl (boolNe (v := .bool false) (congrArg Value.bool (decide_eq_false (not_not_intro (by rw [entRegs, if_neg hw1])))) (by decide)) rfl rfl ?_
      refine WT.skipQ rfl rfl rfl (boolNe (v := .bool false) (congrArg Value.bool (decide_eq_false (not_not_intro (by rw [entRegs, if_neg hw1])))) (by decide)) rfl rfl ?_
      refine WT.skipQ rfl rfl rfl (boolNe (v := .bool false) (congrArg Value.bool (decide_eq_false (not_not_intro (by rw [entRegs, if_neg hw1])))) (by decide)) rfl rfl ?_
      refine WT.skipQ rfl rfl rfl (boolNe (v := undef) rfl (by decide)) rfl rfl ?_
      refine WT.skipQ rfl rfl rfl (boolNe (v := undef) rfl (by decide)) rfl rfl ?_
      refine WT.skipQ rfl rfl rfl (boolNe (v := undef) rfl (by decide)) rfl rfl ?_
      refine WT.skipQ rfl rfl rfl (boolNe (v := .bool false) (congrArg Value.bool (decide_eq_false (not_not_intro (by rw [entRegs, if_neg hw1])))) (by decide)) rfl rfl ?_
      refine WT.q rfl (Wn.no rfl) rfl rfl (fun wq hS => R.pickF (v := (.bool false)) (congrArg Value.bool (decide_eq_false (not_not_intro (by rw [entRegs, if_neg hw1])))) rfl) ?_
      refine WT.nil ?_
      refine thn_n ?_
      refine WP.condF rfl ?_
      refine WP.skip ?_
      refine inb_n ?_
      refine thn_n ?_
      exact ⟨(), (Ag.upd rfl (Ag.upd rfl (Ag.upd rfl (Ag.upd rfl (Ag.upd rfl (Ag.upd rfl (Ag.upd rfl (Ag.upd rfl (Ag.upd rfl (Ag.upd rfl (Ag.upd rfl (Ag.upd rfl (Ag.upd rfl (Ag.upd rfl (Ag.upd rfl (Ag.upd rfl (Ag.upd rfl (Ag.upd rfl (Ag.upd rfl (Ag.upd rfl (Ag.refl _ _))))))))))))))))))))), ⟨rfl, rfl, rfl, rfl, rfl, rfl, rfl, rfl, rfl, rfl, rfl, rfl, rfl, rfl, trivial⟩, h_62⟩
    · rintro _ J_64 w_65 h_66
      refine WP.reg ?_
      refine WL.q (Wn.no rfl) rfl rfl (R.move (v := (vi 0)) rfl) ?_
      refine WL.q (Wn.no rfl) rfl rfl (R.bin (v := (vi 1)) rfl rfl (bi_add (c := 1) (by omega) (by omega))) ?_
      refine WL.q (Wn.no rfl) rfl rfl (R.assign (v := (vi 1)) rfl) ?_
      refine WL.nil ?_
      refine thn_n ?_
      refine WI.round ?_
      refine WP.seq ?_
      refine WP.seq ?_
      refine WP.reg ?_
      refine WL.q (Wn.no rfl) rfl rfl (R.move (v := (vi 1)) rfl) ?_
      refine WL.q (Wn.no rfl) rfl rfl (R.bin (v := (.bool true)) rfl rfl (bi_lss (r := true) (by decide))) ?_
      refine WL.nil ?_
      refine thn_n ?_
      refine WP.condT rfl ?_
      refine WP.skip ?_
      refine thn_n ?_
      refine WP.seq ?_
      refine WP.block ?_
      refine WP.seq ?_
      refine WP.drawT (SL w.heap.size [.blk b_56 .nw 28 [(1, [(vi rd)]), (1, [(vu64 ins)]), (8, (entRegs wt ain regs).map vu64), (1, [(vu64 pc)]), (1, [(.bool true)]), (1, [(vi 0)])], .blk b_47 .nw 28 [(1, [(vi rd)]), (1, [(vu64 ins)]), (8, (entRegs wt ain regs).map vu64), (1, [(vu64 pc)]), (1, [(.bool true)]), (1, [(vi 0)])], .blk b_7 .nw 40 [(1, [(vi rs)]), (4, ors.map vu64), (1, [(vu64 adr)]), (1, [(.bool wr)]), (1, [(vi ran)])], .blk b_4 .nw 31 [(4, ain.map vu64)], .blk b_1 .nw 28 [(1, [(vi rd)]), (1, [(vu64 ins)]), (8, regs.map vu64), (1, [(vu64 pc)]), (1, [(.bool true)]), (1, [(vi wt)])]]) (.q 0 (.q 1 (.q 2 (.q 3 (.q 4 (.q 5 (.q 6 (.q 7 (.q 8 (.q 9 (.q 10 (.q 11 (.q 12 (.q 13 (.q 14 (.q 15 (.q 16 (.q 17 (.q 18 (.q 19 .nil)))))))))))))))))))) (by kernel_rfl) (by kernel_rfl) rfl (by kernel_rfl) (fun w_67 hc_69 => (SL.cons ((h_66.same hc_69).ok _ (.head _)) (SL.cons ((h_66.same hc_69).ok _ (.tail _ (.head _))) (SL.cons ((h_66.same hc_69).ok _ (.tail _ (.tail _ (.head _)))) (SL.cons ((h_66.same hc_69).ok _ (.tail _ (.tail _ (.tail _ (.head _))))) (SL.cons ((h_66.same hc_69).ok _ (.tail _ (.tail _ (.tail _ (.tail _ (.head _)))))) (SL.nil _ _))))))) (fun w_67 hc_69 => ?_)
      have h_68 := h_66.same hc_69
      refine WT.q rfl (Wn.no rfl) rfl rfl (fun wq hS => R.move (v := (vi 1)) rfl) ?_
      refine WT.q rfl (Wn.no rfl) rfl rfl (fun wq hS => R.fieldAddr (b := b_56) (off := 0) (off' := 2) rfl Try.underlying28 rfl Try.sizeOf25 rfl rfl) ?_
      refine WT.q rfl (Wn.no rfl) rfl rfl (fun wq hS => R.fieldAddr (b := b_56) (off := 2) (off' := 2) rfl Try.underlying25 rfl Try.sizeOf23 rfl rfl) ?_
      refine WT.q rfl (Wn.no rfl) rfl rfl (fun wq hS => R.indexA (b := b_56) (off := 2) (off' := 3) (i := 1) rfl rfl rfl (by decide) Try.underlying23 Try.sizeOf22 rfl) ?_
      refine WT.q rfl (Wn.no rfl) rfl rfl (fun wq hS => R.loadE (b := b_56) (off := 3) (i := 1) (v := (vu64 ((entRegs wt ain regs).getD 1 0))) rfl Try.isAgg22 (hS _ (.head _)) (Sg.t rfl (Sg.t rfl Sg.h)) rfl (get_u64 (lt_len (K := 8) (entRegs_len ha hr) (by decide)))) ?_
      refine WT.q rfl (Wn.no rfl) rfl rfl (fun wq hS => R.move (v := (vi 1)) rfl) ?_
      refine WT.q rfl (Wn.no rfl) rfl rfl (fun wq hS => R.fieldAddr (b := b_1) (off := 0) (off' := 2) rfl Try.underlying28 rfl Try.sizeOf25 rfl rfl) ?_
      refine WT.q rfl (Wn.no rfl) rfl rfl (fun wq hS => R.fieldAddr (b := b_1) (off := 2) (off' := 2) rfl Try.underlying25 rfl Try.sizeOf23 rfl rfl) ?_
      refine WT.q rfl (Wn.no rfl) rfl rfl (fun wq hS => R.indexA (b := b_1) (off := 2) (off' := 3) (i := 1) rfl rfl rfl (by decide) Try.underlying23 Try.sizeOf22 rfl) ?_
      refine WT.q rfl (Wn.no rfl) rfl rfl (fun wq hS => R.loadE (b := b_1) (off := 3) (i := 1) (v := (vu64 (regs.getD 1 0))) rfl Try.isAgg22 (hS _ (.tail _ (.tail _ (.tail _ (.tail _ (.head _)))))) (Sg.t rfl (Sg.t rfl Sg.h)) rfl (get_u64 (lt_len (K := 8) hr (by decide)))) ?_
      refine WT.q rfl (Wn.no rfl) rfl rfl (fun wq hS => R.bin (v := (.bool (decide (((entRegs wt ain regs).getD 1 0 : UInt64) ≠ (regs.getD 1 0))))) rfl rfl (b64_neq ((entRegs wt ain regs).getD 1 0) (regs.getD 1 0) (r := decide (((entRegs wt ain regs).getD 1 0 : UInt64) ≠ (regs.getD 1 0))) rfl)) ?_
      refine WT.q rfl (Wn.no rfl) rfl rfl (fun wq hS => R.move (v := (.bool (decide (((entRegs wt ain regs).getD 1 0 : UInt64) ≠ (regs.getD 1 0))))) rfl) ?_
      refine WT.skipQ rfl rfl rfl (boolNe (v := .bool false) (congrArg Value.bool (decide_eq_false (not_not_intro (by rw [entRegs, if_neg hw1])))) (by decide)) rfl rfl ?_
      refine WT.skipQ rfl rfl rfl (boolNe (v := .bool false) (congrArg Value.bool (decide_eq_false (not_not_intro (by rw [entRegs, if_neg hw1])))) (by decide)) rfl rfl ?_
      refine WT.skipQ rfl rfl rfl (boolNe (v := .bool false) (congrArg Value.bool (decide_eq_false (not_not_intro (by rw [entRegs, if_neg hw1])))) (by decide)) rfl rfl ?_
      refine WT.skipQ rfl rfl rfl (boolNe (v := undef) rfl (by decide)) rfl rfl ?_
      refine WT.skipQ rfl rfl rfl (boolNe (v := undef) rfl (by decide)) rfl rfl ?_
      refine WT.skipQ rfl rfl rfl (boolNe (v := undef) rfl (by decide)) rfl rfl ?_
      refine WT.skipQ rfl rfl rfl (boolNe (v := .bool false) (congrArg Value.bool (decide_eq_false (not_not_intro (by rw [entRegs, if_neg hw1])))) (by decide)) rfl rfl ?_
      refine WT.q rfl (Wn.no rfl) rfl rfl (fun wq hS => R.pickF (v := (.bool false)) (congrArg Value.bool (decide_eq_false (not_not_intro (by rw [entRegs, if_neg hw1])))) rfl) ?_
      refine WT.nil ?_
      refine thn_n ?_
      refine WP.condF rfl ?_
      refine WP.skip ?_
      refine inb_n ?_
      refine thn_n ?_
      refine WP.reg ?_
      refine WL.q (Wn.no rfl) rfl rfl (R.move (v := (vi 1)) rfl) ?_
      refine WL.q (Wn.no rfl) rfl rfl (R.bin (v := (vi 2)) rfl rfl (bi_add (c := 2) (by omega) (by omega))) ?_
      refine WL.q (Wn.no rfl) rfl rfl (R.assign (v := (vi 2)) rfl) ?_
      refine WL.nil ?_
      refine thn_n ?_
      refine WI.round ?_
      refine WP.seq ?_
      refine WP.seq ?_
      refine WP.reg ?_
      refine WL.q (Wn.no rfl) rfl rfl (R.move (v := (vi 2)) rfl) ?_
      refine WL.q (Wn.no rfl) rfl rfl (R.bin (v := (.bool true)) rfl rfl (bi_lss (r := true) (by decide))) ?_
      refine WL.nil ?_
      refine thn_n ?_
      refine WP.condT rfl ?_
      refine WP.skip ?_
      refine thn_n ?_
      refine WP.seq ?_
      refine WP.block ?_
      refine WP.seq ?_
      refine WP.drawT (SL w.heap.size [.blk b_56 .nw 28 [(1, [(vi rd)]), (1, [(vu64 ins)]), (8, (entRegs wt ain regs).map vu64), (1, [(vu64 pc)]), (1, [(.bool true)]), (1, [(vi 0)])], .blk b_47 .nw 28 [(1, [(vi rd)]), (1, [(vu64 ins)]), (8, (entRegs wt ain regs).map vu64), (1, [(vu64 pc)]), (1, [(.bool true)]), (1, [(vi 0)])], .blk b_7 .nw 40 [(1, [(vi rs)]), (4, ors.map vu64), (1, [(vu64 adr)]), (1, [(.bool wr)]), (1, [(vi ran)])], .blk b_4 .nw 31 [(4, ain.map vu64)], .blk b_1 .nw 28 [(1, [(vi rd)]), (1, [(vu64 ins)]), (8, regs.map vu64), (1, [(vu64 pc)]), (1, [(.bool true)]), (1, [(vi wt)])]]) (.q 0 (.q 1 (.q 2 (.q 3 (.q 4 (.q 5 (.q 6 (.q 7 (.q 8 (.q 9 (.q 10 (.q 11 (.q 12 (.q 13 (.q 14 (.q 15 (.q 16 (.q 17 (.q 18 (.q 19 .nil)))))))))))))))))))) (by kernel_rfl) (by kernel_rfl) rfl (by kernel_rfl) (fun w_70 hc_72 => (SL.cons ((h_68.same hc_72).ok _ (.head _)) (SL.cons ((h_68.same hc_72).ok _ (.tail _ (.head _))) (SL.cons ((h_68.same hc_72).ok _ (.tail _ (.tail _ (.head _)))) (SL.cons ((h_68.same hc_72).ok _ (.tail _ (.tail _ (.tail _ (.head _))))) (SL.cons ((h_68.same hc_72).ok _ (.tail _ (.tail _ (.tail _ (.tail _ (.head _)))))) (SL.nil _ _))))))) (fun w_70 hc_72 => ?_)
      have h_71 := h_68.same hc_72
      refine WT.q rfl (Wn.no rfl) rfl rfl (fun wq hS => R.move (v := (vi 2)) rfl) ?_
      refine WT.q rfl (Wn.no rfl) rfl rfl (fun wq hS => R.fieldAddr (b := b_56) (off := 0) (off' := 2) rfl Try.underlying28 rfl Try.sizeOf25 rfl rfl) ?_
      refine WT.q rfl (Wn.no rfl) rfl rfl (fun wq hS => R.fieldAddr (b := b_56) (off := 2) (off' := 2) rfl Try.underlying25 rfl Try.sizeOf23 rfl rfl) ?_
      refine WT.q rfl (Wn.no rfl) rfl rfl (fun wq hS => R.indexA (b := b_56) (off := 2) (off' := 4) (i := 2) rfl rfl rfl (by decide) Try.underlying23 Try.sizeOf22 rfl) ?_
      refine WT.q rfl (Wn.no rfl) rfl rfl (fun wq hS => R.loadE (b := b_56) (off := 4) (i := 2) (v := (vu64 ((entRegs wt ain regs).getD 2 0))) rfl Try.isAgg22 (hS _ (.head _)) (Sg.t rfl (Sg.t rfl Sg.h)) rfl (get_u64 (lt_len (K := 8) (entRegs_len ha hr) (by decide)))) ?_
      refine WT.q rfl (Wn.no rfl) rfl rfl (fun wq hS => R.move (v := (vi 2)) rfl) ?_
      refine WT.q rfl (Wn.no rfl) rfl rfl (fun wq hS => R.fieldAddr (b := b_1) (off := 0) (off' := 2) rfl Try.underlying28 rfl Try.sizeOf25 rfl rfl) ?_
      refine WT.q rfl (Wn.no rfl) rfl rfl (fun wq hS => R.fieldAddr (b := b_1) (off := 2) (off' := 2) rfl Try.underlying25 rfl Try.sizeOf23 rfl rfl) ?_
      refine WT.q rfl (Wn.no rfl) rfl rfl (fun wq hS => R.indexA (b := b_1) (off := 2) (off' := 4) (i := 2) rfl rfl rfl (by decide) Try.underlying23 Try.sizeOf22 rfl) ?_
      refine WT.q rfl (Wn.no rfl) rfl rfl (fun wq hS => R.loadE (b := b_1) (off := 4) (i := 2) (v := (vu64 (regs.getD 2 0))) rfl Try.isAgg22 (hS _ (.tail _ (.tail _ (.tail _ (.tail _ (.head _)))))) (Sg.t rfl (Sg.t rfl Sg.h)) rfl (get_u64 (lt_len (K := 8) hr (by decide)))) ?_
      refine WT.q rfl (Wn.no rfl) rfl rfl (fun wq hS => R.bin (v := (.bool (decide (((entRegs wt ain regs).getD 2 0 : UInt64) ≠ (regs.getD 2 0))))) rfl rfl (b64_neq ((entRegs wt ain regs).getD 2 0) (regs.getD 2 0) (r := decide (((entRegs wt ain regs).getD 2 0 : UInt64) ≠ (regs.getD 2 0))) rfl)) ?_
      refine WT.q rfl (Wn.no rfl) rfl rfl (fun wq hS => R.move (v := (.bool (decide (((entRegs wt ain regs).getD 2 0 : UInt64) ≠ (regs.getD 2 0))))) rfl) ?_
      refine WT.skipQ rfl rfl rfl (boolNe (v := .bool false) (congrArg Value.bool (decide_eq_false (not_not_intro (by rw [entRegs, if_neg hw1])))) (by decide)) rfl rfl ?_
      refine WT.skipQ rfl rfl rfl (boolNe (v := .bool false) (congrArg Value.bool (decide_eq_false (not_not_intro (by rw [entRegs, if_neg hw1])))) (by decide)) rfl rfl ?_
      refine WT.skipQ rfl rfl rfl (boolNe (v := .bool false) (congrArg Value.bool (decide_eq_false (not_not_intro (by rw [entRegs, if_neg hw1])))) (by decide)) rfl rfl ?_
      refine WT.skipQ rfl rfl rfl (boolNe (v := undef) rfl (by decide)) rfl rfl ?_
      refine WT.skipQ rfl rfl rfl (boolNe (v := undef) rfl (by decide)) rfl rfl ?_
      refine WT.skipQ rfl rfl rfl (boolNe (v := undef) rfl (by decide)) rfl rfl ?_
      refine WT.skipQ rfl rfl rfl (boolNe (v := .bool false) (congrArg Value.bool (decide_eq_false (not_not_intro (by rw [entRegs, if_neg hw1])))) (by decide)) rfl rfl ?_
      refine WT.q rfl (Wn.no rfl) rfl rfl (fun wq hS => R.pickF (v := (.bool false)) (congrArg Value.bool (decide_eq_false (not_not_intro (by rw [entRegs, if_neg hw1])))) rfl) ?_
      refine WT.nil ?_
      refine thn_n ?_
      refine WP.condF rfl ?_
      refine WP.skip ?_
      refine inb_n ?_
      refine thn_n ?_
      refine WP.reg ?_
      refine WL.q (Wn.no rfl) rfl rfl (R.move (v := (vi 2)) rfl) ?_
      refine WL.q (Wn.no rfl) rfl rfl (R.bin (v := (vi 3)) rfl rfl (bi_add (c := 3) (by omega) (by omega))) ?_
      refine WL.q (Wn.no rfl) rfl rfl (R.assign (v := (vi 3)) rfl) ?_
      refine WL.nil ?_
      refine thn_n ?_
      refine WI.round ?_
      refine WP.seq ?_
      refine WP.seq ?_
      refine WP.reg ?_
      refine WL.q (Wn.no rfl) rfl rfl (R.move (v := (vi 3)) rfl) ?_
      refine WL.q (Wn.no rfl) rfl rfl (R.bin (v := (.bool true)) rfl rfl (bi_lss (r := true) (by decide))) ?_
      refine WL.nil ?_
      refine thn_n ?_
      refine WP.condT rfl ?_
      refine WP.skip ?_
      refine thn_n ?_
      refine WP.seq ?_
      refine WP.block ?_
      refine WP.seq ?_
      refine WP.drawT (SL w.heap.size [.blk b_56 .nw 28 [(1, [(vi rd)]), (1, [(vu64 ins)]), (8, (entRegs wt ain regs).map vu64), (1, [(vu64 pc)]), (1, [(.bool true)]), (1, [(vi 0)])], .blk b_47 .nw 28 [(1, [(vi rd)]), (1, [(vu64 ins)]), (8, (entRegs wt ain regs).map vu64), (1, [(vu64 pc)]), (1, [(.bool true)]), (1, [(vi 0)])], .blk b_7 .nw 40 [(1, [(vi rs)]), (4, ors.map vu64), (1, [(vu64 adr)]), (1, [(.bool wr)]), (1, [(vi ran)])], .blk b_4 .nw 31 [(4, ain.map vu64)], .blk b_1 .nw 28 [(1, [(vi rd)]), (1, [(vu64 ins)]), (8, regs.map vu64), (1, [(vu64 pc)]), (1, [(.bool true)]), (1, [(vi wt)])]]) (.q 0 (.q 1 (.q 2 (.q 3 (.q 4 (.q 5 (.q 6 (.q 7 (.q 8 (.q 9 (.q 10 (.q 11 (.q 12 (.q 13 (.q 14 (.q 15 (.q 16 (.q 17 (.q 18 (.q 19 .nil)))))))))))))))))))) (by kernel_rfl) (by kernel_rfl) rfl (by kernel_rfl) (fun w_73 hc_75 => (SL.cons ((h_71.same hc_75).ok _ (.head _)) (SL.cons ((h_71.same hc_75).ok _ (.tail _ (.head _))) (SL.cons ((h_71.same hc_75).ok _ (.tail _ (.tail _ (.head _)))) (SL.cons ((h_71.same hc_75).ok _ (.tail _ (.tail _ (.tail _ (.head _))))) (SL.cons ((h_71.same hc_75).ok _ (.tail _ (.tail _ (.tail _ (.tail _ (.head _)))))) (SL.nil _ _))))))) (fun w_73 hc_75 => ?_)
      have h_74 := h_71.same hc_75
      refine WT.q rfl (Wn.no rfl) rfl rfl (fun wq hS => R.move (v := (vi 3)) rfl) ?_
      refine WT.q rfl (Wn.no rfl) rfl rfl (fun wq hS => R.fieldAddr (b := b_56) (off := 0) (off' := 2) rfl Try.underlying28 rfl Try.sizeOf25 rfl rfl) ?_
      refine WT.q rfl (Wn.no rfl) rfl rfl (fun wq hS => R.fieldAddr (b := b_56) (off := 2) (off' := 2) rfl Try.underlying25 rfl Try.sizeOf23 rfl rfl) ?_
      refine WT.q rfl (Wn.no rfl) rfl rfl (fun wq hS => R.indexA (b := b_56) (off := 2) (off' := 5) (i := 3) rfl rfl rfl (by decide) Try.underlying23 Try.sizeOf22 rfl) ?_
      refine WT.q rfl (Wn.no rfl) rfl rfl (fun wq hS => R.loadE (b := b_56) (off := 5) (i := 3) (v := (vu64 ((entRegs wt ain regs).getD 3 0))) rfl Try.isAgg22 (hS _ (.head _)) (Sg.t rfl (Sg.t rfl Sg.h)) rfl (get_u64 (lt_len (K := 8) (entRegs_len ha hr) (by decide)))) ?_
      refine WT.q rfl (Wn.no rfl) rfl rfl (fun wq hS => R.move (v := (vi 3)) rfl) ?_
      refine WT.q rfl (Wn.no rfl) rfl rfl (fun wq hS => R.fieldAddr (b := b_1) (off := 0) (off' := 2) rfl Try.underlying28 rfl Try.sizeOf25 rfl rfl) ?_
      refine WT.q rfl (Wn.no rfl) rfl rfl (fun wq hS => R.fieldAddr (b := b_1) (off := 2) (off' := 2) rfl Try.underlying25 rfl Try.sizeOf23 rfl rfl) ?_
      refine WT.q rfl (Wn.no rfl) rfl rfl (fun wq hS => R.indexA (b := b_1) (off := 2) (off' := 5) (i := 3) rfl rfl rfl (by decide) Try.underlying23 Try.sizeOf22 rfl) ?_
      refine WT.q rfl (Wn.no rfl) rfl rfl (fun wq hS => R.loadE (b := b_1) (off := 5) (i := 3) (v := (vu64 (regs.getD 3 0))) rfl Try.isAgg22 (hS _ (.tail _ (.tail _ (.tail _ (.tail _ (.head _)))))) (Sg.t rfl (Sg.t rfl Sg.h)) rfl (get_u64 (lt_len (K := 8) hr (by decide)))) ?_
      refine WT.q rfl (Wn.no rfl) rfl rfl (fun wq hS => R.bin (v := (.bool (decide (((entRegs wt ain regs).getD 3 0 : UInt64) ≠ (regs.getD 3 0))))) rfl rfl (b64_neq ((entRegs wt ain regs).getD 3 0) (regs.getD 3 0) (r := decide (((entRegs wt ain regs).getD 3 0 : UInt64) ≠ (regs.getD 3 0))) rfl)) ?_
      refine WT.q rfl (Wn.no rfl) rfl rfl (fun wq hS => R.move (v := (.bool (decide (((entRegs wt ain regs).getD 3 0 : UInt64) ≠ (regs.getD 3 0))))) rfl) ?_
      refine WT.skipQ rfl rfl rfl (boolNe (v := .bool false) (congrArg Value.bool (decide_eq_false (not_not_intro (by rw [entRegs, if_neg hw1])))) (by decide)) rfl rfl ?_
      refine WT.skipQ rfl rfl rfl (boolNe (v := .bool false) (congrArg Value.bool (decide_eq_false (not_not_intro (by rw [entRegs, if_neg hw1])))) (by decide)) rfl rfl ?_
      refine WT.skipQ rfl rfl rfl (boolNe (v := .bool false) (congrArg Value.bool (decide_eq_false (not_not_intro (by rw [entRegs, if_neg hw1])))) (by decide)) rfl rfl ?_
      refine WT.skipQ rfl rfl rfl (boolNe (v := undef) rfl (by decide)) rfl rfl ?_
      refine WT.skipQ rfl rfl rfl (boolNe (v := undef) rfl (by decide)) rfl rfl ?_
      refine WT.skipQ rfl rfl rfl (boolNe (v := undef) rfl (by decide)) rfl rfl ?_
      refine WT.skipQ rfl rfl rfl (boolNe (v := .bool false) (congrArg Value.bool (decide_eq_false (not_not_intro (by rw [entRegs, if_neg hw1])))) (by decide)) rfl rfl ?_
      refine WT.q rfl (Wn.no rfl) rfl rfl (fun wq hS => R.pickF (v := (.bool false)) (congrArg Value.bool (decide_eq_false (not_not_intro (by rw [entRegs, if_neg hw1])))) rfl) ?_
      refine WT.nil ?_
      refine thn_n ?_
      refine WP.condF rfl ?_
      refine WP.skip ?_
      refine inb_n ?_
      refine thn_n ?_
      refine WP.reg ?_
      refine WL.q (Wn.no rfl) rfl rfl (R.move (v := (vi 3)) rfl) ?_
      refine WL.q (Wn.no rfl) rfl rfl (R.bin (v := (vi 4)) rfl rfl (bi_add (c := 4) (by omega) (by omega))) ?_
      refine WL.q (Wn.no rfl) rfl rfl (R.assign (v := (vi 4)) rfl) ?_
      refine WL.nil ?_
      refine thn_n ?_
      refine WI.round ?_
      refine WP.seq ?_
      refine WP.seq ?_
      refine WP.reg ?_
      refine WL.q (Wn.no rfl) rfl rfl (R.move (v := (vi 4)) rfl) ?_
      refine WL.q (Wn.no rfl) rfl rfl (R.bin (v := (.bool true)) rfl rfl (bi_lss (r := true) (by decide))) ?_
      refine WL.nil ?_
      refine thn_n ?_
      refine WP.condT rfl ?_
      refine WP.skip ?_
      refine thn_n ?_
      refine WP.seq ?_
      refine WP.block ?_
      refine WP.seq ?_
      refine WP.drawT (SL w.heap.size [.blk b_56 .nw 28 [(1, [(vi rd)]), (1, [(vu64 ins)]), (8, (entRegs wt ain regs).map vu64), (1, [(vu64 pc)]), (1, [(.bool true)]), (1, [(vi 0)])], .blk b_47 .nw 28 [(1, [(vi rd)]), (1, [(vu64 ins)]), (8, (entRegs wt ain regs).map vu64), (1, [(vu64 pc)]), (1, [(.bool true)]), (1, [(vi 0)])], .blk b_7 .nw 40 [(1, [(vi rs)]), (4, ors.map vu64), (1, [(vu64 adr)]), (1, [(.bool wr)]), (1, [(vi ran)])], .blk b_4 .nw 31 [(4, ain.map vu64)], .blk b_1 .nw 28 [(1, [(vi rd)]), (1, [(vu64 ins)]), (8, regs.map vu64), (1, [(vu64 pc)]), (1, [(.bool true)]), (1, [(vi wt)])]]) (.q 0 (.q 1 (.q 2 (.q 3 (.q 4 (.q 5 (.q 6 (.q 7 (.q 8 (.q 9 (.q 10 (.q 11 (.q 12 (.q 13 (.q 14 (.q 15 (.q 16 (.q 17 (.q 18 (.q 19 .nil)))))))))))))))))))) (by kernel_rfl) (by kernel_rfl) rfl (by kernel_rfl) (fun w_76 hc_78 => (SL.cons ((h_74.same hc_78).ok _ (.head _)) (SL.cons ((h_74.same hc_78).ok _ (.tail _ (.head _))) (SL.cons ((h_74.same hc_78).ok _ (.tail _ (.tail _ (.head _)))) (SL.cons ((h_74.same hc_78).ok _ (.tail _ (.tail _ (.tail _ (.head _))))) (SL.cons ((h_74.same hc_78).ok _ (.tail _ (.tail _ (.tail _ (.tail _ (.head _)))))) (SL.nil _ _))))))) (fun w_76 hc_78 => ?_)
      have h_77 := h_74.same hc_78
      refine WT.q rfl (Wn.no rfl) rfl rfl (fun wq hS => R.move (v := (vi 4)) rfl) ?_
      refine WT.q rfl (Wn.no rfl) rfl rfl (fun wq hS => R.fieldAddr (b := b_56) (off := 0) (off' := 2) rfl Try.underlying28 rfl Try.sizeOf25 rfl rfl) ?_
      refine WT.q rfl (Wn.no rfl) rfl rfl (fun wq hS => R.fieldAddr (b := b_56) (off := 2) (off' := 2) rfl Try.underlying25 rfl Try.sizeOf23 rfl rfl) ?_
      refine WT.q rfl (Wn.no rfl) rfl rfl (fun wq hS => R.indexA (b := b_56) (off := 2) (off' := 6) (i := 4) rfl rfl rfl (by decide) Try.underlying23 Try.sizeOf22 rfl) ?_
      refine WT.q rfl (Wn.no rfl) rfl rfl (fun wq hS => R.loadE (b := b_56) (off := 6) (i := 4) (v := (vu64 ((entRegs wt ain regs).getD 4 0))) rfl Try.isAgg22 (hS _ (.head _)) (Sg.t rfl (Sg.t rfl Sg.h)) rfl (get_u64 (lt_len (K := 8) (entRegs_len ha hr) (by decide)))) ?_
      refine WT.q rfl (Wn.no rfl) rfl rfl (fun wq hS => R.move (v := (vi 4)) rfl) ?_
      refine WT.q rfl (Wn.no rfl) rfl rfl (fun wq hS => R.fieldAddr (b := b_1) (off := 0) (off' := 2) rfl Try.underlying28 rfl Try.sizeOf25 rfl rfl) ?_
      refine WT.q rfl (Wn.no rfl) rfl rfl (fun wq hS => R.fieldAddr (b := b_1) (off := 2) (off' := 2) rfl Try.underlying25 rfl Try.sizeOf23 rfl rfl) ?_
      refine WT.q rfl (Wn.no rfl) rfl rfl (fun wq hS => R.indexA (b := b_1) (off := 2) (off' := 6) (i := 4) rfl rfl rfl (by decide) Try.underlying23 Try.sizeOf22 rfl) ?_
      refine WT.q rfl (Wn.no rfl) rfl rfl (fun wq hS => R.loadE (b := b_1) (off := 6) (i := 4) (v := (vu64 (regs.getD 4 0))) rfl Try.isAgg22 (hS _ (.tail _ (.tail _ (.tail _ (.tail _ (.head _)))))) (Sg.t rfl (Sg.t rfl Sg.h)) rfl (get_u64 (lt_len (K := 8) hr (by decide)))) ?_
      refine WT.q rfl (Wn.no rfl) rfl rfl (fun wq hS => R.bin (v := (.bool (decide (((entRegs wt ain regs).getD 4 0 : UInt64) ≠ (regs.getD 4 0))))) rfl rfl (b64_neq ((entRegs wt ain regs).getD 4 0) (regs.getD 4 0) (r := decide (((entRegs wt ain regs).getD 4 0 : UInt64) ≠ (regs.getD 4 0))) rfl)) ?_
      refine WT.q rfl (Wn.no rfl) rfl rfl (fun wq hS => R.move (v := (.bool (decide (((entRegs wt ain regs).getD 4 0 : UInt64) ≠ (regs.getD 4 0))))) rfl) ?_
      refine WT.skipQ rfl rfl rfl (boolNe (v := .bool false) (congrArg Value.bool (decide_eq_false (not_not_intro (by rw [entRegs, if_neg hw1])))) (by decide)) rfl rfl ?_
      refine WT.skipQ rfl rfl rfl (boolNe (v := .bool false) (congrArg Value.bool (decide_eq_false (not_not_intro (by rw [entRegs, if_neg hw1])))) (by decide)) rfl rfl ?_
      refine WT.skipQ rfl rfl rfl (boolNe (v := .bool false) (congrArg Value.bool (decide_eq_false (not_not_intro (by rw [entRegs, if_neg hw1])))) (by decide)) rfl rfl ?_
      refine WT.skipQ rfl rfl rfl (boolNe (v := undef) rfl (by decide)) rfl rfl ?_
      refine WT.skipQ rfl rfl rfl (boolNe (v := undef) rfl (by decide)) rfl rfl ?_
      refine WT.skipQ rfl rfl rfl (boolNe (v := undef) rfl (by decide)) rfl rfl ?_
      refine WT.skipQ rfl rfl rfl (boolNe (v := .bool false) (congrArg Value.bool (decide_eq_false (not_not_intro (by rw [entRegs, if_neg hw1])))) (by decide)) rfl rfl ?_
      refine WT.q rfl (Wn.no rfl) rfl rfl (fun wq hS => R.pickF (v := (.bool false)) (congrArg Value.bool (decide_eq_false (not_not_intro (by rw [entRegs, if_neg hw1])))) rfl) ?_
      refine WT.nil ?_
      refine thn_n ?_
      refine WP.condF rfl ?_
      refine WP.skip ?_
      refine inb_n ?_
      refine thn_n ?_
      refine WP.reg ?_
      refine WL.q (Wn.no rfl) rfl rfl (R.move (v := (vi 4)) rfl) ?_
      refine WL.q (Wn.no rfl) rfl rfl (R.bin (v := (vi 5)) rfl rfl (bi_add (c := 5) (by omega) (by omega))) ?_
      refine WL.q (Wn.no rfl) rfl rfl (R.assign (v := (vi 5)) rfl) ?_
      refine WL.nil ?_
      refine thn_n ?_
      refine WI.round ?_
      refine WP.seq ?_
      refine WP.seq ?_
      refine WP.reg ?_
      refine WL.q (Wn.no rfl) rfl rfl (R.move (v := (vi 5)) rfl) ?_
      refine WL.q (Wn.no rfl) rfl rfl (R.bin (v := (.bool true)) rfl rfl (bi_lss (r := true) (by decide))) ?_
      refine WL.nil ?_
      refine thn_n ?_
      refine WP.condT rfl ?_
      refine WP.skip ?_
      refine thn_n ?_
      refine WP.seq ?_
      refine WP.block ?_
      refine WP.seq ?_
      refine WP.drawT (SL w.heap.size [.blk b_56 .nw 28 [(1, [(vi rd)]), (1, [(vu64 ins)]), (8, (entRegs wt ain regs).map vu64), (1, [(vu64 pc)]), (1, [(.bool true)]), (1, [(vi 0)])], .blk b_47 .nw 28 [(1, [(vi rd)]), (1, [(vu64 ins)]), (8, (entRegs wt ain regs).map vu64), (1, [(vu64 pc)]), (1, [(.bool true)]), (1, [(vi 0)])], .blk b_7 .nw 40 [(1, [(vi rs)]), (4, ors.map vu64), (1, [(vu64 adr)]), (1, [(.bool wr)]), (1, [(vi ran)])], .blk b_4 .nw 31 [(4, ain.map vu64)], .blk b_1 .nw 28 [(1, [(vi rd)]), (1, [(vu64 ins)]), (8, regs.map vu64), (1, [(vu64 pc)]), (1, [(.bool true)]), (1, [(vi wt)])]]) (.q 0 (.q 1 (.q 2 (.q 3 (.q 4 (.q 5 (.q 6 (.q 7 (.q 8 (.q 9 (.q 10 (.q 11 (.q 12 (.q 13 (.q 14 (.q 15 (.q 16 (.q 17 (.q 18 (.q 19 .nil)))))))))))))))))))) (by kernel_rfl) (by kernel_rfl) rfl (by kernel_rfl) (fun w_79 hc_81 => (SL.cons ((h_77.same hc_81).ok _ (.head _)) (SL.cons ((h_77.same hc_81).ok _ (.tail _ (.head _))) (SL.cons ((h_77.same hc_81).ok _ (.tail _ (.tail _ (.head _)))) (SL.cons ((h_77.same hc_81).ok _ (.tail _ (.tail _ (.tail _ (.head _))))) (SL.cons ((h_77.same hc_81).ok _ (.tail _ (.tail _ (.tail _ (.tail _ (.head _)))))) (SL.nil _ _))))))) (fun w_79 hc_81 => ?_)
      have h_80 := h_77.same hc_81
      refine WT.q rfl (Wn.no rfl) rfl rfl (fun wq hS => R.move (v := (vi 5)) rfl) ?_
      refine WT.q rfl (Wn.no rfl) rfl rfl (fun wq hS => R.fieldAddr (b := b_56) (off := 0) (off' := 2) rfl Try.underlying28 rfl Try.sizeOf25 rfl rfl) ?_
      refine WT.q rfl (Wn.no rfl) rfl rfl (fun wq hS => R.fieldAddr (b := b_56) (off := 2) (off' := 2) rfl Try.underlying25 rfl Try.sizeOf23 rfl rfl) ?_
      refine WT.q rfl (Wn.no rfl) rfl rfl (fun wq hS => R.indexA (b := b_56) (off := 2) (off' := 7) (i := 5) rfl rfl rfl (by decide) Try.underlying23 Try.sizeOf22 rfl) ?_
      refine WT.q rfl (Wn.no rfl) rfl rfl (fun wq hS => R.loadE (b := b_56) (off := 7) (i := 5) (v := (vu64 ((entRegs wt ain regs).getD 5 0))) rfl Try.isAgg22 (hS _ (.head _)) (Sg.t rfl (Sg.t rfl Sg.h)) rfl (get_u64 (lt_len (K := 8) (entRegs_len ha hr) (by decide)))) ?_
      refine WT.q rfl (Wn.no rfl) rfl rfl (fun wq hS => R.move (v := (vi 5)) rfl) ?_
      refine WT.q rfl (Wn.no rfl) rfl rfl (fun wq hS => R.fieldAddr (b := b_1) (off := 0) (off' := 2) rfl Try.underlying28 rfl Try.sizeOf25 rfl rfl) ?_
      refine WT.q rfl (Wn.no rfl) rfl rfl (fun wq hS => R.fieldAddr (b := b_1) (off := 2) (off' := 2) rfl Try.underlying25 rfl Try.sizeOf23 rfl rfl) ?_
      refine WT.q rfl (Wn.no rfl) rfl rfl (fun wq hS => R.indexA (b := b_1) (off := 2) (off' := 7) (i := 5) rfl rfl rfl (by decide) Try.underlying23 Try.sizeOf22 rfl) ?_
      refine WT.q rfl (Wn.no rfl) rfl rfl (fun wq hS => R.loadE (b := b_1) (off := 7) (i := 5) (v := (vu64 (regs.getD 5 0))) rfl Try.isAgg22 (hS _ (.tail _ (.tail _ (.tail _ (.tail _ (.head _)))))) (Sg.t rfl (Sg.t rfl Sg.h)) rfl (get_u64 (lt_len (K := 8) hr (by decide)))) ?_
      refine WT.q rfl (Wn.no rfl) rfl rfl (fun wq hS => R.bin (v := (.bool (decide (((entRegs wt ain regs).getD 5 0 : UInt64) ≠ (regs.getD 5 0))))) rfl rfl (b64_neq ((entRegs wt ain regs).getD 5 0) (regs.getD 5 0) (r := decide (((entRegs wt ain regs).getD 5 0 : UInt64) ≠ (regs.getD 5 0))) rfl)) ?_
      refine WT.q rfl (Wn.no rfl) rfl rfl (fun wq hS => R.move (v := (.bool (decide (((entRegs wt ain regs).getD 5 0 : UInt64) ≠ (regs.getD 5 0))))) rfl) ?_
      refine WT.skipQ rfl rfl rfl (boolNe (v := .bool false) (congrArg Value.bool (decide_eq_false (not_not_intro (by rw [entRegs, if_neg hw1])))) (by decide)) rfl rfl ?_
      refine WT.skipQ rfl rfl rfl (boolNe (v := .bool false) (congrArg Value.bool (decide_eq_false (not_not_intro (by rw [entRegs, if_neg hw1])))) (by decide)) rfl rfl ?_
      refine WT.skipQ rfl rfl rfl (boolNe (v := .bool false) (congrArg Value.bool (decide_eq_false (not_not_intro (by rw [entRegs, if_neg hw1])))) (by decide)) rfl rfl ?_
      refine WT.skipQ rfl rfl rfl (boolNe (v := undef) rfl (by decide)) rfl rfl ?_
      refine WT.skipQ rfl rfl rfl (boolNe (v := undef) rfl (by decide)) rfl rfl ?_
      refine WT.skipQ rfl rfl rfl (boolNe (v := undef) rfl (by decide)) rfl rfl ?_
      refine WT.skipQ rfl rfl rfl (boolNe (v := .bool false) (congrArg Value.bool (decide_eq_false (not_not_intro (by rw [entRegs, if_neg hw1])))) (by decide)) rfl rfl ?_
      refine WT.q rfl (Wn.no rfl) rfl rfl (fun wq hS => R.pickF (v := (.bool false)) (congrArg Value.bool (decide_eq_false (not_not_intro (by rw [entRegs, if_neg hw1])))) rfl) ?_
      refine WT.nil ?_
      refine thn_n ?_
      refine WP.condF rfl ?_
      refine WP.skip ?_
      refine inb_n ?_
      refine thn_n ?_
      refine WP.reg ?_
      refine WL.q (Wn.no rfl) rfl rfl (R.move (v := (vi 5)) rfl) ?_
      refine WL.q (Wn.no rfl) rfl rfl (R.bin (v := (vi 6)) rfl rfl (bi_add (c := 6) (by omega) (by omega))) ?_
      refine WL.q (Wn.no rfl) rfl rfl (R.assign (v := (vi 6)) rfl) ?_
      refine WL.nil ?_
      refine thn_n ?_
      refine WI.round ?_
      refine WP.seq ?_
      refine WP.seq ?_
      refine WP.reg ?_
      refine WL.q (Wn.no rfl) rfl rfl (R.move (v := (vi 6)) rfl) ?_
      refine WL.q (Wn.no rfl) rfl rfl (R.bin (v := (.bool true)) rfl rfl (bi_lss (r := true) (by decide))) ?_
      refine WL.nil ?_
      refine thn_n ?_
      refine WP.condT rfl ?_
      refine WP.skip ?_
      refine thn_n ?_
      refine WP.seq ?_
      refine WP.block ?_
      refine WP.seq ?_
      refine WP.drawT (SL w.heap.size [.blk b_56 .nw 28 [(1, [(vi rd)]), (1, [(vu64 ins)]), (8, (entRegs wt ain regs).map vu64), (1, [(vu64 pc)]), (1, [(.bool true)]), (1, [(vi 0)])], .blk b_47 .nw 28 [(1, [(vi rd)]), (1, [(vu64 ins)]), (8, (entRegs wt ain regs).map vu64), (1, [(vu64 pc)]), (1, [(.bool true)]), (1, [(vi 0)])], .blk b_7 .nw 40 [(1, [(vi rs)]), (4, ors.map vu64), (1, [(vu64 adr)]), (1, [(.bool wr)]), (1, [(vi ran)])], .blk b_4 .nw 31 [(4, ain.map vu64)], .blk b_1 .nw 28 [(1, [(vi rd)]), (1, [(vu64 ins)]), (8, regs.map vu64), (1, [(vu64 pc)]), (1, [(.bool true)]), (1, [(vi wt)])]]) (.q 0 (.q 1 (.q 2 (.q 3 (.q 4 (.q 5 (.q 6 (.q 7 (.q 8 (.q 9 (.q 10 (.q 11 (.q 12 (.q 13 (.q 14 (.q 15 (.q 16 (.q 17 (.q 18 (.q 19 .nil)))))))))))))))))))) (by kernel_rfl) (by kernel_rfl) rfl (by kernel_rfl) (fun w_82 hc_84 => (SL.cons ((h_80.same hc_84).ok _ (.head _)) (SL.cons ((h_80.same hc_84).ok _ (.tail _ (.head _))) (SL.cons ((h_80.same hc_84).ok _ (.tail _ (.tail _ (.head _)))) (SL.cons ((h_80.same hc_84).ok _ (.tail _ (.tail _ (.tail _ (.head _))))) (SL.cons ((h_80.same hc_84).ok _ (.tail _ (.tail _ (.tail _ (.tail _ (.head _)))))) (SL.nil _ _))))))) (fun w_82 hc_84 => ?_)
      have h_83 := h_80.same hc_84
      refine WT.q rfl (Wn.no rfl) rfl rfl (fun wq hS => R.move (v := (vi 6)) rfl) ?_
      refine WT.q rfl (Wn.no rfl) rfl rfl (fun wq hS => R.fieldAddr (b := b_56) (off := 0) (off' := 2) rfl Try.underlying28 rfl Try.sizeOf25 rfl rfl) ?_
      refine WT.q rfl (Wn.no rfl) rfl rfl (fun wq hS => R.fieldAddr (b := b_56) (off := 2) (off' := 2) rfl Try.underlying25 rfl Try.sizeOf23 rfl rfl) ?_
      refine WT.q rfl (Wn.no rfl) rfl rfl (fun wq hS => R.indexA (b := b_56) (off := 2) (off' := 8) (i := 6) rfl rfl rfl (by decide) Try.underlying23 Try.sizeOf22 rfl) ?_
      refine WT.q rfl (Wn.no rfl) rfl rfl (fun wq hS => R.loadE (b := b_56) (off := 8) (i := 6) (v := (vu64 ((entRegs wt ain regs).getD 6 0))) rfl Try.isAgg22 (hS _ (.head _)) (Sg.t rfl (Sg.t rfl Sg.h)) rfl (get_u64 (lt_len (K := 8) (entRegs_len ha hr) (by decide)))) ?_
      refine WT.q rfl (Wn.no rfl) rfl rfl (fun wq hS => R.move (v := (vi 6)) rfl) ?_
      refine WT.q rfl (Wn.no rfl) rfl rfl (fun wq hS => R.fieldAddr (b := b_1) (off := 0) (off' := 2) rfl Try.underlying28 rfl Try.sizeOf25 rfl rfl) ?_
      refine WT.q rfl (Wn.no rfl) rfl rfl (fun wq hS => R.fieldAddr (b := b_1) (off := 2) (off' := 2) rfl Try.underlying25 rfl Try.sizeOf23 rfl rfl) ?_
      refine WT.q rfl (Wn.no rfl) rfl rfl (fun wq hS => R.indexA (b := b_1) (off := 2) (off' := 8) (i := 6) rfl rfl rfl (by decide) Try.underlying23 Try.sizeOf22 rfl) ?_
      refine WT.q rfl (Wn.no rfl) rfl rfl (fun wq hS => R.loadE (b := b_1) (off := 8) (i := 6) (v := (vu64 (regs.getD 6 0))) rfl Try.isAgg22 (hS _ (.tail _ (.tail _ (.tail _ (.tail _ (.head _)))))) (Sg.t rfl (Sg.t rfl Sg.h)) rfl (get_u64 (lt_len (K := 8) hr (by decide)))) ?_
      refine WT.q rfl (Wn.no rfl) rfl rfl (fun wq hS => R.bin (v := (.bool (decide (((entRegs wt ain regs).getD 6 0 : UInt64) ≠ (regs.getD 6 0))))) rfl rfl (b64_neq ((entRegs wt ain regs).getD 6 0) (regs.getD 6 0) (r := decide (((entRegs wt ain regs).getD 6 0 : UInt64) ≠ (regs.getD 6 0))) rfl)) ?_
      refine WT.q rfl (Wn.no rfl) rfl rfl (fun wq hS => R.move (v := (.bool (decide (((entRegs wt ain regs).getD 6 0 : UInt64) ≠ (regs.getD 6 0))))) rfl) ?_
      refine WT.skipQ rfl rfl rfl (boolNe (v := .bool false) (congrArg Value.bool (decide_eq_false (not_not_intro (by rw [entRegs, if_neg hw1])))) (by decide)) rfl rfl ?_
      refine WT.skipQ rfl rfl rfl (boolNe (v := .bool false) (congrArg Value.bool (decide_eq_false (not_not_intro (by rw [entRegs, if_neg hw1])))) (by decide)) rfl rfl ?_
      refine WT.skipQ rfl rfl rfl (boolNe (v := .bool false) (congrArg Value.bool (decide_eq_false (not_not_intro (by rw [entRegs, if_neg hw1])))) (by decide)) rfl rfl ?_
      refine WT.skipQ rfl rfl rfl (boolNe (v := undef) rfl (by decide)) rfl rfl ?_
      refine WT.skipQ rfl rfl rfl (boolNe (v := undef) rfl (by decide)) rfl rfl ?_
      refine WT.skipQ rfl rfl rfl (boolNe (v := undef) rfl (by decide)) rfl rfl ?_
      refine WT.skipQ rfl rfl rfl (boolNe (v := .bool false) (congrArg Value.bool (decide_eq_false (not_not_intro (by rw [entRegs, if_neg hw1])))) (by decide)) rfl rfl ?_
      refine WT.q rfl (Wn.no rfl) rfl rfl (fun wq hS => R.pickF (v := (.bool false)) (congrArg Value.bool (decide_eq_false (not_not_intro (by rw [entRegs, if_neg hw1])))) rfl) ?_
      refine WT.nil ?_
      refine thn_n ?_
      refine WP.condF rfl ?_
      refine WP.skip ?_
      refine inb_n ?_
      refine thn_n ?_
      refine WP.reg ?_
      refine WL.q (Wn.no rfl) rfl rfl (R.move (v := (vi 6)) rfl) ?_
      refine WL.q (Wn.no rfl) rfl rfl (R.bin (v := (vi 7)) rfl rfl (bi_add (c := 7) (by omega) (by omega))) ?_
      refine WL.q (Wn.no rfl) rfl rfl (R.assign (v := (vi 7)) rfl) ?_
      refine WL.nil ?_
      refine thn_n ?_
      refine WI.round ?_
      refine WP.seq ?_
      refine WP.seq ?_
      refine WP.reg ?_
      refine WL.q (Wn.no rfl) rfl rfl (R.move (v := (vi 7)) rfl) ?_
      refine WL.q (Wn.no rfl) rfl rfl (R.bin (v := (.bool true)) rfl rfl (bi_lss (r := true) (by decide))) ?_
      refine WL.nil ?_
      refine thn_n ?_
      refine WP.condT rfl ?_
      refine WP.skip ?_
      refine thn_n ?_
      refine WP.seq ?_
      refine WP.block ?_
      refine WP.seq ?_
      refine WP.drawT (SL w.heap.size [.blk b_56 .nw 28 [(1, [(vi rd)]), (1, [(vu64 ins)]), (8, (entRegs wt ain regs).map vu64), (1, [(vu64 pc)]), (1, [(.bool true)]), (1, [(vi 0)])], .blk b_47 .nw 28 [(1, [(vi rd)]), (1, [(vu64 ins)]), (8, (entRegs wt ain regs).map vu64), (1, [(vu64 pc)]), (1, [(.bool true)]), (1, [(vi 0)])], .blk b_7 .nw 40 [(1, [(vi rs)]), (4, ors.map vu64), (1, [(vu64 adr)]), (1, [(.bool wr)]), (1, [(vi ran)])], .blk b_4 .nw 31 [(4, ain.map vu64)], .blk b_1 .nw 28 [(1, [(vi rd)]), (1, [(vu64 ins)]), (8, regs.map vu64), (1, [(vu64 pc)]), (1, [(.bool true)]), (1, [(vi wt)])]]) (.q 0 (.q 1 (.q 2 (.q 3 (.q 4 (.q 5 (.q 6 (.q 7 (.q 8 (.q 9 (.q 10 (.q 11 (.q 12 (.q 13 (.q 14 (.q 15 (.q 16 (.q 17 (.q 18 (.q 19 .nil)))))))))))))))))))) (by kernel_rfl) (by kernel_rfl) rfl (by kernel_rfl) (fun w_85 hc_87 => (SL.cons ((h_83.same hc_87).ok _ (.head _)) (SL.cons ((h_83.same hc_87).ok _ (.tail _ (.head _))) (SL.cons ((h_83.same hc_87).ok _ (.tail _ (.tail _ (.head _)))) (SL.cons ((h_83.same hc_87).ok _ (.tail _ (.tail _ (.tail _ (.head _))))) (SL.cons ((h_83.same hc_87).ok _ (.tail _ (.tail _ (.tail _ (.tail _ (.head _)))))) (SL.nil _ _))))))) (fun w_85 hc_87 => ?_)
      have h_86 := h_83.same hc_87
      refine WT.q rfl (Wn.no rfl) rfl rfl (fun wq hS => R.move (v := (vi 7)) rfl) ?_
      refine WT.q rfl (Wn.no rfl) rfl rfl (fun wq hS => R.fieldAddr (b := b_56) (off := 0) (off' := 2) rfl Try.underlying28 rfl Try.sizeOf25 rfl rfl) ?_
      refine WT.q rfl (Wn.no rfl) rfl rfl (fun wq hS => R.fieldAddr (b := b_56) (off := 2) (off' := 2) rfl Try.underlying25 rfl Try.sizeOf23 rfl rfl) ?_
      refine WT.q rfl (Wn.no rfl) rfl rfl (fun wq hS => R.indexA (b := b_56) (off := 2) (off' := 9) (i := 7) rfl rfl rfl (by decide) Try.underlying23 Try.sizeOf22 rfl) ?_
      refine WT.q rfl (Wn.no rfl) rfl rfl (fun wq hS => R.loadE (b := b_56) (off := 9) (i := 7) (v := (vu64 ((entRegs wt ain regs).getD 7 0))) rfl Try.isAgg22 (hS _ (.head _)) (Sg.t rfl (Sg.t rfl Sg.h)) rfl (get_u64 (lt_len (K := 8) (entRegs_len ha hr) (by decide)))) ?_
      refine WT.q rfl (Wn.no rfl) rfl rfl (fun wq hS => R.move (v := (vi 7)) rfl) ?_
      refine WT.q rfl (Wn.no rfl) rfl rfl (fun wq hS => R.fieldAddr (b := b_1) (off := 0) (off' := 2) rfl Try.underlying28 rfl Try.sizeOf25 rfl rfl) ?_
      refine WT.q rfl (Wn.no rfl) rfl rfl (fun wq hS => R.fieldAddr (b := b_1) (off := 2) (off' := 2) rfl Try.underlying25 rfl Try.sizeOf23 rfl rfl) ?_
      refine WT.q rfl (Wn.no rfl) rfl rfl (fun wq hS => R.indexA (b := b_1) (off := 2) (off' := 9) (i := 7) rfl rfl rfl (by decide) Try.underlying23 Try.sizeOf22 rfl) ?_
      refine WT.q rfl (Wn.no rfl) rfl rfl (fun wq hS => R.loadE (b := b_1) (off := 9) (i := 7) (v := (vu64 (regs.getD 7 0))) rfl Try.isAgg22 (hS _ (.tail _ (.tail _ (.tail _ (.tail _ (.head _)))))) (Sg.t rfl (Sg.t rfl Sg.h)) rfl (get_u64 (lt_len (K := 8) hr (by decide)))) ?_
      refine WT.q rfl (Wn.no rfl) rfl rfl (fun wq hS => R.bin (v := (.bool (decide (((entRegs wt ain regs).getD 7 0 : UInt64) ≠ (regs.getD 7 0))))) rfl rfl (b64_neq ((entRegs wt ain regs).getD 7 0) (regs.getD 7 0) (r := decide (((entRegs wt ain regs).getD 7 0 : UInt64) ≠ (regs.getD 7 0))) rfl)) ?_
      refine WT.q rfl (Wn.no rfl) rfl rfl (fun wq hS => R.move (v := (.bool (decide (((entRegs wt ain regs).getD 7 0 : UInt64) ≠ (regs.getD 7 0))))) rfl) ?_
      refine WT.skipQ rfl rfl rfl (boolNe (v := .bool false) (congrArg Value.bool (decide_eq_false (not_not_intro (by rw [entRegs, if_neg hw1])))) (by decide)) rfl rfl ?_
      refine WT.skipQ rfl rfl rfl (boolNe (v := .bool false) (congrArg Value.bool (decide_eq_false (not_not_intro (by rw [entRegs, if_neg hw1])))) (by decide)) rfl rfl ?_
      refine WT.skipQ rfl rfl rfl (boolNe (v := .bool false) (congrArg Value.bool (decide_eq_false (not_not_intro (by rw [entRegs, if_neg hw1])))) (by decide)) rfl rfl ?_
      refine WT.skipQ rfl rfl rfl (boolNe (v := undef) rfl (by decide)) rfl rfl ?_
      refine WT.skipQ rfl rfl rfl (boolNe (v := undef) rfl (by decide)) rfl rfl ?_
      refine WT.skipQ rfl rfl rfl (boolNe (v := undef) rfl (by decide)) rfl rfl ?_
      refine WT.skipQ rfl rfl rfl (boolNe (v := .bool false) (congrArg Value.bool (decide_eq_false (not_not_intro (by rw [entRegs, if_neg hw1])))) (by decide)) rfl rfl ?_
      refine WT.q rfl (Wn.no rfl) rfl rfl (fun wq hS => R.pickF (v := (.bool false)) (congrArg Value.bool (decide_eq_false (not_not_intro (by rw [entRegs, if_neg hw1])))) rfl) ?_
      refine WT.nil ?_
      refine thn_n ?_
      refine WP.condF rfl ?_
      refine WP.skip ?_
      refine inb_n ?_
      refine thn_n ?_
      refine WP.reg ?_
      refine WL.q (Wn.no rfl) rfl rfl (R.move (v := (vi 7)) rfl) ?_
      refine WL.q (Wn.no rfl) rfl rfl (R.bin (v := (vi 8)) rfl rfl (bi_add (c := 8) (by omega) (by omega))) ?_
      refine WL.q (Wn.no rfl) rfl rfl (R.assign (v := (vi 8)) rfl) ?_
      refine WL.nil ?_
      refine thn_n ?_
      refine WI.round ?_
      refine WP.seq ?_
      refine WP.seq ?_
      refine WP.reg ?_
      refine WL.q (Wn.no rfl) rfl rfl (R.move (v := (vi 8)) rfl) ?_
      refine WL.q (Wn.no rfl) rfl rfl (R.bin (v := (.bool false)) rfl rfl (bi_lss (r := false) (by decide))) ?_
      refine WL.nil ?_
      refine thn_n ?_
      refine WP.condF rfl ?_
      refine WP.exit ?_
      refine thn_x ?_
      refine thn_x ?_
      refine inb_hit ?_
      refine thn_n ?_
      refine WP.seq ?_
      refine WP.reg ?_
      refine WL.call (al := []) Try.call15 rfl rfl (c_known14  _) rfl ?_
      rintro _ w_89 ⟨rfl, hc_88⟩
      have h_90 := h_86.same hc_88
      refine WL.q (Wn.no rfl) rfl rfl (R.assign (v := (.bool true)) rfl) ?_
      refine WL.nil ?_
      refine thn_n ?_
      refine WP.ret ?_
      refine ret_of Try.results9 (RV.tmp (v := (.bool true)) rfl RV.nil) ?_
      exact ⟨rfl, h_90.chgS⟩

theorem w_RecRests (rd : Int) (ins : UInt64) (regs : List UInt64) (hr : regs.length = 8) (pc : UInt64) (run : Bool) (wt : Int) (ain : List UInt64) (ha : ain.length = 4) (rs : Int) (ors : List UInt64) (hor : ors.length = 4) (adr : UInt64) (wr : Bool) (ran : Int) (b_rd : -9223372036854775808 ≤ rd ∧ rd < 9223372036854775808) (b_wt : -9223372036854775808 ≤ wt ∧ wt < 9223372036854775808) (w : World) :
    Cs Try.prog 9 [(.agg ⟨flat [(1, [(vi rd)]), (1, [(vu64 ins)]), (8, regs.map vu64), (1, [(vu64 pc)]), (1, [(.bool run)]), (1, [(vi wt)])]⟩), (.agg ⟨ain.map vu64⟩), (.agg ⟨flat [(1, [(vi rs)]), (4, ors.map vu64), (1, [(vu64 adr)]), (1, [(.bool wr)]), (1, [(vi ran)])]⟩)].toArray w (fun v w1 => v = .bool true ∧ Chg w w1 []) := by
  cases run
  · exact w_RecRests_a rd ins regs hr pc ain ha rs ors hor adr wr ran b_rd wt b_wt w
  · by_cases h3 : wt = 3
    · subst h3; exact w_RecRests_b rd ins regs hr pc ain ha rs ors hor adr wr ran b_rd w
    · by_cases h1 : wt = 1
      · subst h1; exact w_RecRests_c rd ins regs hr pc ain ha rs ors hor adr wr ran b_rd w
      · exact w_RecRests_d rd ins regs hr pc ain ha rs ors hor adr wr ran b_rd wt h1 h3 b_wt w
namespace recRestsDone
open Go.ChangeShapes Go.WideShapes Go.ChangeAt
theorem own : ownKnob Try.prog.godebug = none := by kernel_rfl
theorem laidOut : laidOutB Try.prog = true := by kernel_rfl
set_option maxRecDepth 100000 in
theorem lifted (os : Os) (started : os.Started) (H : Type) (enc : TypeId × Value → H) :
    ReturnsInHanded {} Try.checked os 9 .any (Rows.recRestsSpec.pre6 enc Try.prog Try.f9 Rows.recRestsRow.domain false) (Rows.recRestsSpec.post enc Try.prog Try.f9 false true false false) := by
  refine returnsInHanded_of_change (C := Try.checked) own started (by kernel_rfl) Try.func9
    (ChangeSpec.witness6 (enc := enc) (C := Try.checked) false ⟨#[], #[.agg #[.int .i64 0, .int .u64 0, .int .u64 0, .int .u64 0, .int .u64 0, .int .u64 0, .int .u64 0, .int .u64 0, .int .u64 0, .int .u64 0, .int .u64 0, .bool false, .int .i64 0], .agg #[.int .u64 0, .int .u64 0, .int .u64 0, .int .u64 0], .agg #[.int .i64 0, .int .u64 0, .int .u64 0, .int .u64 0, .int .u64 0, .int .u64 0, .bool false, .int .i64 0]], []⟩ 8 (by kernel_rfl) (by kernel_rfl) (by kernel_rfl) (by kernel_rfl)) ?_
  intro W base args ds gs before hval0 hW hcnd _
  have hval : ∀ (j : Nat) t v, Try.f9.params[j]? = some t → args[j]? = some v → Value.okWide Try.prog W .any base t v := hval0
  have hW' := hW
  obtain ⟨p, q, hA0, hV, rfl, hfz, hnd⟩ := hW
  have hA : DataW.TrodAll enc Try.prog W 0 (fun _ => true) true Try.f9.params.toList args.toList ds p := hA0
  rw [Try.params9] at hA hval
  obtain ⟨v0, vs0, d0, ds0, p0, q0, hargs, rfl, rfl, h0, r0⟩ := trodAll_cons hA
  obtain ⟨v1, vs1, d1, ds1, p1, q1, rfl, rfl, rfl, h1, r1⟩ := trodAll_cons r0
  obtain ⟨v2, vs2, d2, ds2, p2, q2, rfl, rfl, rfl, h2, r2⟩ := trodAll_cons r1
  obtain ⟨rfl, rfl, rfl⟩ := trodAll_nil r2
  obtain rfl : args = #[v0, v1, v2] := by cases args; simp_all
  obtain ⟨rfl, rfl⟩ := trodVars_none hV
  have lt0 : ∀ x ∈ p0, x.block < W.heap.size := by obtain ⟨m, hm⟩ := h0; exact DataW.trod_lt m _ _ _ hm
  obtain ⟨cs0, rfl⟩ := okWide_agg aggT28 (hval 0 28 v0 rfl rfl)
  have tr0 : Tr Try.prog W 28 cs0 := Tr.of h0 rfl
  have tl_x0 := Tr.struct (l := [(1, 3), (1, 22), (9, 25), (1, 4), (1, 26)]) Try.underlying28 ce28 (by kernel_rfl) tr0
  obtain ⟨a_x00, r_x00, rfl, n_x00, t_x00, tl_x00⟩ := tl_x0
  obtain ⟨x00, rfl, b_x00⟩ := Tr.i64 Try.underlying3 t_x00
  obtain ⟨a_x01, r_x01, rfl, n_x01, t_x01, tl_x01⟩ := tl_x00
  obtain ⟨x01, rfl⟩ := Tr.u64 Try.underlying22 t_x01
  obtain ⟨a_x02, r_x02, rfl, n_x02, t_x02, tl_x02⟩ := tl_x01
  have tl_x02 := Tr.struct (l := [(8, 23), (1, 22)]) Try.underlying25 ce25 (by kernel_rfl) t_x02
  obtain ⟨a_x020, r_x020, rfl, n_x020, t_x020, tl_x020⟩ := tl_x02
  obtain ⟨x020, rfl, l_x020⟩ := Tr.arr64 Try.underlying23 ce23 ce22 Try.underlying22 t_x020
  obtain ⟨a_x021, r_x021, rfl, n_x021, t_x021, tl_x021⟩ := tl_x020
  obtain ⟨x021, rfl⟩ := Tr.u64 Try.underlying22 t_x021
  obtain rfl := tl_x021
  obtain ⟨a_x03, r_x03, rfl, n_x03, t_x03, tl_x03⟩ := tl_x02
  obtain ⟨x03, rfl⟩ := Tr.bool Try.underlying4 t_x03
  obtain ⟨a_x04, r_x04, rfl, n_x04, t_x04, tl_x04⟩ := tl_x03
  obtain ⟨x04, rfl, b_x04⟩ := Tr.i64 Try.underlying26 t_x04
  obtain rfl := tl_x04
  have lt1 : ∀ x ∈ p1, x.block < W.heap.size := by obtain ⟨m, hm⟩ := h1; exact DataW.trod_lt m _ _ _ hm
  obtain ⟨cs1, rfl⟩ := okWide_agg aggT31 (hval 1 31 v1 rfl rfl)
  have tr1 : Tr Try.prog W 31 cs1 := Tr.of h1 rfl
  have tl_x1 := Tr.struct (l := [(4, 29)]) Try.underlying31 ce31 (by kernel_rfl) tr1
  obtain ⟨a_x10, r_x10, rfl, n_x10, t_x10, tl_x10⟩ := tl_x1
  obtain ⟨x10, rfl, l_x10⟩ := Tr.arr64 Try.underlying29 ce29 ce22 Try.underlying22 t_x10
  obtain rfl := tl_x10
  have lt2 : ∀ x ∈ p2, x.block < W.heap.size := by obtain ⟨m, hm⟩ := h2; exact DataW.trod_lt m _ _ _ hm
  obtain ⟨cs2, rfl⟩ := okWide_agg aggT40 (hval 2 40 v2 rfl rfl)
  have tr2 : Tr Try.prog W 40 cs2 := Tr.of h2 rfl
  have tl_x2 := Tr.struct (l := [(1, 38), (4, 29), (1, 22), (1, 4), (1, 3)]) Try.underlying40 ce40 (by kernel_rfl) tr2
  obtain ⟨a_x20, r_x20, rfl, n_x20, t_x20, tl_x20⟩ := tl_x2
  obtain ⟨x20, rfl, b_x20⟩ := Tr.i64 Try.underlying38 t_x20
  obtain ⟨a_x21, r_x21, rfl, n_x21, t_x21, tl_x21⟩ := tl_x20
  obtain ⟨x21, rfl, l_x21⟩ := Tr.arr64 Try.underlying29 ce29 ce22 Try.underlying22 t_x21
  obtain ⟨a_x22, r_x22, rfl, n_x22, t_x22, tl_x22⟩ := tl_x21
  obtain ⟨x22, rfl⟩ := Tr.u64 Try.underlying22 t_x22
  obtain ⟨a_x23, r_x23, rfl, n_x23, t_x23, tl_x23⟩ := tl_x22
  obtain ⟨x23, rfl⟩ := Tr.bool Try.underlying4 t_x23
  obtain ⟨a_x24, r_x24, rfl, n_x24, t_x24, tl_x24⟩ := tl_x23
  obtain ⟨x24, rfl, b_x24⟩ := Tr.i64 Try.underlying3 t_x24
  obtain rfl := tl_x24
  clear hA0 hval0
  have hw : Cs Try.prog 9 [(.agg ⟨flat [(1, [(vi x00)]), (1, [(vu64 x01)]), (8, x020.map vu64), (1, [(vu64 x021)]), (1, [(.bool x03)]), (1, [(vi x04)])]⟩), (.agg ⟨x10.map vu64⟩), (.agg ⟨flat [(1, [(vi x20)]), (4, x21.map vu64), (1, [(vu64 x22)]), (1, [(.bool x23)]), (1, [(vi x24)])]⟩)].toArray W (fun v w1 => v = .bool true ∧ Chg W w1 []) := w_RecRests x00 x01 x020 l_x020 x021 x03 x04 x10 l_x10 x20 x21 l_x21 x22 x23 x24 b_x00 b_x04 W
  have ea : ([(.agg ⟨flat [(1, [(vi x00)]), (1, [(vu64 x01)]), (8, x020.map vu64), (1, [(vu64 x021)]), (1, [(.bool x03)]), (1, [(vi x04)])]⟩), (.agg ⟨x10.map vu64⟩), (.agg ⟨flat [(1, [(vi x20)]), (4, x21.map vu64), (1, [(vu64 x22)]), (1, [(.bool x23)]), (1, [(vi x24)])]⟩)] : List Value).toArray = (#[.agg ⟨([vi x00] ++ ([vu64 x01] ++ ((x020.map vu64 ++ ([vu64 x021] ++ [])) ++ ([.bool x03] ++ ([vi x04] ++ [])))))⟩, .agg ⟨(x10.map vu64 ++ [])⟩, .agg ⟨([vi x20] ++ (x21.map vu64 ++ ([vu64 x22] ++ ([.bool x23] ++ ([vi x24] ++ [])))))⟩] : Array Value) := by simp [flat]
  rw [ea] at hw
  refine Calls.mono (Cs.below hw) fun e W' ⟨he, bel⟩ => ?_
  subst he
  exact ⟨_, rfl, _, _, _, [], _, [], hW', trodAll_mk1 (shut_bool Try.underlying4 _), (trodAll_cons_mk (Below.trod laidOut (by kernel_rfl) (of_decide_eq_true (by kernel_rfl)) h0 bel lt0) (trodAll_cons_mk (Below.trod laidOut (by kernel_rfl) (of_decide_eq_true (by kernel_rfl)) h1 bel lt1) (trodAll_cons_mk (Below.trod laidOut (by kernel_rfl) (of_decide_eq_true (by kernel_rfl)) h2 bel lt2) trodAll_mk0))), rfl, bel.frame _, fun h => by cases h⟩
theorem over : Rows.recRestsRow.holds Try.pinned (OpenSpec.ofChange Rows.recRestsSpec) :=
  OpenClaim.holds_of_wide 9 Try.f9 rfl rfl rfl rfl rfl rfl rfl ⟨rfl, rfl, rfl, rfl, rfl⟩ rfl rfl rfl rfl rfl (by kernel_rfl) Try.func9 (by kernel_rfl)
    (of_decide_eq_true (by kernel_rfl)) (by unfold Func.isWrapper; first | (rw [if_pos (by decide +kernel)]; kernel_rfl) | (rw [if_neg (by decide +kernel)]; exact ⟨rfl, rfl⟩))
    (fun os started H enc _ => lifted os started H enc)
theorem proved : Rows.RecRestsSaid := over
end recRestsDone
end Go.Proofs.Ythkcekgemanfdaa
