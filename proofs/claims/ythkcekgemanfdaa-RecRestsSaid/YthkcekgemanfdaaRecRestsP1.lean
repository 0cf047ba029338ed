/- RecRests holds of every input. Conditions: none. Part of the walk. -/
import Derived.Test.YthkcekgemanfdaaRecRestsP0
namespace Go.Proofs.Ythkcekgemanfdaa
open Go.Vc Go.RowKit
set_option linter.unusedVariables false
set_option linter.unusedSimpArgs false
set_option maxRecDepth 20000
theorem w_RecRests_c (rd : Int) (ins : UInt64) (regs : List UInt64) (hr : regs.length = 8) (pc : UInt64) (ain : List UInt64) (ha : ain.length = 4) (rs : Int) (ors : List UInt64) (hor : ors.length = 4) (adr : UInt64) (wr : Bool) (ran : Int) (b_rd : -9223372036854775808 ≤ rd ∧ rd < 9223372036854775808) (w : World) :
    Cs Try.prog 9 [(.agg ⟨flat [(1, [(vi rd)]), (1, [(vu64 ins)]), (8, regs.map vu64), (1, [(vu64 pc)]), (1, [(.bool true)]), (1, [(vi 1)])]⟩), (.agg ⟨ain.map vu64⟩), (.agg ⟨flat [(1, [(vi rs)]), (4, ors.map vu64), (1, [(vu64 adr)]), (1, [(.bool wr)]), (1, [(vi ran)])]⟩)].toArray w (fun v w1 => v = .bool true ∧ Chg w w1 []) := by
  refine Cs.of (n := 118) (args := [(.agg ⟨flat [(1, [(vi rd)]), (1, [(vu64 ins)]), (8, regs.map vu64), (1, [(vu64 pc)]), (1, [(.bool true)]), (1, [(vi 1)])]⟩), (.agg ⟨ain.map vu64⟩), (.agg ⟨flat [(1, [(vi rs)]), (4, ors.map vu64), (1, [(vu64 adr)]), (1, [(.bool wr)]), (1, [(vi ran)])]⟩)]) Try.func9 rfl rfl rfl ?_
  have h_0 := HP.init w
  refine WP.seq ?_
  refine WP.reg ?_
  refine WL.box (v := (.agg ⟨flat [(1, [(vi rd)]), (1, [(vu64 ins)]), (8, regs.map vu64), (1, [(vu64 pc)]), (1, [(.bool true)]), (1, [(vi 1)])]⟩)) (segs := [(1, [(vi rd)]), (1, [(vu64 ins)]), (8, regs.map vu64), (1, [(vu64 pc)]), (1, [(.bool true)]), (1, [(vi 1)])]) h_0 rfl rfl (SsOk.cons (SOk.v rfl) (SsOk.cons (SOk.v rfl) (SsOk.cons (SOk.u64 hr) (SsOk.cons (SOk.v rfl) (SsOk.cons (SOk.v rfl) (SsOk.cons (SOk.v rfl) SsOk.nil)))))) rfl (fun b_1 w_2 h_3 => ?_)
  refine WL.box (v := (.agg ⟨ain.map vu64⟩)) (segs := [(4, ain.map vu64)]) h_3 rfl rfl (SsOk.cons (SOk.u64 ha) SsOk.nil) rfl (fun b_4 w_5 h_6 => ?_)
  refine WL.box (v := (.agg ⟨flat [(1, [(vi rs)]), (4, ors.map vu64), (1, [(vu64 adr)]), (1, [(.bool wr)]), (1, [(vi ran)])]⟩)) (segs := [(1, [(vi rs)]), (4, ors.map vu64), (1, [(vu64 adr)]), (1, [(.bool wr)]), (1, [(vi ran)])]) h_6 rfl rfl (SsOk.cons (SOk.v rfl) (SsOk.cons (SOk.u64 hor) (SsOk.cons (SOk.v rfl) (SsOk.cons (SOk.v rfl) (SsOk.cons (SOk.v rfl) SsOk.nil))))) rfl (fun b_7 w_8 h_9 => ?_)
  refine WL.q (Wn.no rfl) rfl rfl (R.assign (v := (.bool false)) rfl) ?_
  refine WL.nil ?_
  refine thn_n ?_
  refine WP.g1 (G := Unit) [6, 7, 8, 9, 15, 16, 17, 18, 19, 20, 21, 22, 23, 24, 25, 26, 27, 28, 29, 30, 31, 32, 33, 34, 35, 36, 37, 38] (fun _ => [(6, (.bool false)), (15, (.agg ⟨flat [(1, [(vi rs)]), (4, ors.map vu64), (1, [(vu64 adr)]), (1, [(.bool wr)]), (1, [(vi ran)])]⟩))]) (fun _ w1 => HP w w1 [.blk b_7 .nw 40 [(1, [(vi rs)]), (4, ors.map vu64), (1, [(vu64 adr)]), (1, [(.bool wr)]), (1, [(vi ran)])], .blk b_4 .nw 31 [(4, ain.map vu64)], .blk b_1 .nw 28 [(1, [(vi rd)]), (1, [(vu64 ins)]), (8, regs.map vu64), (1, [(vu64 pc)]), (1, [(.bool true)]), (1, [(vi 1)])]]) ?_ ?_
  · refine WP.seq ?_
    refine WP.reg ?_
    refine WL.q (Wn.no rfl) rfl rfl (R.loadA (b := b_7) (off := 0) [] [(1, [(vi rs)]), (4, ors.map vu64), (1, [(vu64 adr)]), (1, [(.bool wr)]), (1, [(vi ran)])] [] (cs := flat [(1, [(vi rs)]), (4, ors.map vu64), (1, [(vu64 adr)]), (1, [(.bool wr)]), (1, [(vi ran)])]) rfl Try.isAgg40 Try.sizeOf40 (h_9.ok _ (.head _)) rfl rfl rfl rfl) ?_
    refine WL.call (al := [(.agg ⟨flat [(1, [(vi rs)]), (4, ors.map vu64), (1, [(vu64 adr)]), (1, [(.bool wr)]), (1, [(vi ran)])]⟩)]) Try.call29 rfl rfl (c_may14 rs ors hor adr wr ran _ ) rfl ?_
    rintro _ w_11 ⟨rfl, hc_10⟩
    have h_12 := h_9.same hc_10
    refine WL.q (Wn.no rfl) rfl rfl (R.move (v := (.bool (mayB rs ors adr wr ran))) rfl) ?_
    rcases Bool.eq_false_or_eq_true (mayB rs ors adr wr ran) with c_13 | c_13
    · refine WL.want rfl (congrArg Value.bool c_13) ?_
      refine WL.q (Wn.no rfl) rfl rfl (R.fieldAddr (b := b_7) (off := 0) (off' := 0) rfl Try.underlying40 rfl Try.sizeOf38 rfl rfl) ?_
      refine WL.want rfl (congrArg Value.bool c_13) ?_
      refine WL.q (Wn.no rfl) rfl rfl (R.load1 (b := b_7) (off := 0) (v := (vi rs)) rfl Try.isAgg38 (h_12.ok _ (.head _)) Sg.h) ?_
      refine WL.want rfl (congrArg Value.bool c_13) ?_
      refine WL.q (Wn.no rfl) rfl rfl (R.bin (v := (.bool (decide ((rs : Int) ≠ 2)))) rfl rfl (bi_neq (r := decide ((rs : Int) ≠ 2)) rfl)) ?_
      refine WL.q (Wn.no rfl) rfl rfl (R.pickT (v := (.bool (decide ((rs : Int) ≠ 2)))) (congrArg Value.bool c_13) rfl) ?_
      refine WL.nil ?_
      refine thn_n ?_
      refine WP.cond (b := decide ((rs : Int) ≠ 2)) rfl (fun c_14 => ?_) (fun c_14 => ?_)
      · have p_15 := of_decide_eq_true c_14
        refine WP.seq ?_
        refine WP.reg ?_
        refine WL.q (Wn.no rfl) rfl rfl (R.loadA (b := b_7) (off := 0) [] [(1, [(vi rs)]), (4, ors.map vu64), (1, [(vu64 adr)]), (1, [(.bool wr)]), (1, [(vi ran)])] [] (cs := flat [(1, [(vi rs)]), (4, ors.map vu64), (1, [(vu64 adr)]), (1, [(.bool wr)]), (1, [(vi ran)])]) rfl Try.isAgg40 Try.sizeOf40 (h_12.ok _ (.head _)) rfl rfl rfl rfl) ?_
        refine WL.call (al := [(.agg ⟨flat [(1, [(vi rs)]), (4, ors.map vu64), (1, [(vu64 adr)]), (1, [(.bool wr)]), (1, [(vi ran)])]⟩)]) Try.call30 rfl rfl (c_OutBytes rs ors hor adr wr ran c_13 _ ) rfl ?_
        rintro _ w_17 ⟨rfl, hc_16⟩
        have h_18 := h_12.same hc_16
        refine WL.q (Wn.no rfl) rfl rfl (R.move (v := (.tuple [(.agg ⟨(formB rs ors adr wr ran).map vu8⟩), (vi 0)].toArray)) rfl) ?_
        refine WL.q (Wn.no rfl) rfl rfl (R.extract (l := [(.agg ⟨(formB rs ors adr wr ran).map vu8⟩), (vi 0)]) (v := (.agg ⟨(formB rs ors adr wr ran).map vu8⟩)) rfl rfl) ?_
        refine WL.q (Wn.no rfl) rfl rfl (R.extract (l := [(.agg ⟨(formB rs ors adr wr ran).map vu8⟩), (vi 0)]) (v := (vi 0)) rfl rfl) ?_
        refine WL.alloc (segs := [(128, (List.replicate 128 (0 : UInt8)).map vu8)]) h_18 (zv Try.typeInfo53 rfl) rfl (SsOk.cons (SOk.u8 (List.length_replicate ..)) SsOk.nil) rfl (fun b_19 w_20 h_21 => ?_)
        refine WL.storeA (b := b_19) (off := 0) [] [(128, (List.replicate 128 (0 : UInt8)).map vu8)] [(128, (formB rs ors adr wr ran).map vu8)] [] (ys := (formB rs ors adr wr ran).map vu8) h_21 rfl rfl Try.sizeOf53 At.h (by decide) rfl rfl rfl rfl rfl rfl (SsOk.cons (SOk.u8 (formB_len hor)) SsOk.nil) (fun w_22 h_23 => ?_)
        refine WL.q (Wn.no rfl) rfl rfl (R.assign (v := (vi 0)) rfl) ?_
        refine WL.nil ?_
        refine thn_n ?_
        refine WP.seq ?_
        refine WP.reg ?_
        refine WL.q (Wn.no rfl) rfl rfl (R.assign (v := (vi 1)) rfl) ?_
        refine WL.nil ?_
        refine thn_n ?_
        refine WP.block ?_
        refine WP.loopU (WI.round ?_)
        refine WP.seq ?_
        refine WP.seq ?_
        refine WP.reg ?_
        refine WL.q (Wn.no rfl) rfl rfl (R.move (v := (vi 1)) rfl) ?_
        refine WL.q (Wn.no rfl) rfl rfl (R.bin (v := (.bool true)) rfl rfl (bi_lss (r := true) (by decide))) ?_
        refine WL.nil ?_
        refine thn_n ?_
        refine WP.condT rfl ?_
        refine WP.skip ?_
        refine thn_n ?_
        refine WP.seq ?_
        refine WP.block ?_
        refine WP.seq ?_
        refine WP.reg ?_
        refine WL.q (Wn.no rfl) rfl rfl (R.move (v := (vi 0)) rfl) ?_
        refine WL.q (Wn.no rfl) rfl rfl (R.bin (v := (.bool false)) rfl rfl (bi_neq (r := false) (by decide))) ?_
        refine WL.q (Wn.no rfl) rfl rfl (R.move (v := (.bool false)) rfl) ?_
        refine WL.want rfl rfl ?_
        refine WL.q (Wn.no rfl) rfl rfl (R.loadA (b := b_19) (off := 0) [] [(128, (formB rs ors adr wr ran).map vu8)] [] (cs := (formB rs ors adr wr ran).map vu8) rfl Try.isAgg53 Try.sizeOf53 (h_23.ok _ (.head _)) rfl rfl rfl rfl) ?_
        refine WL.want rfl rfl ?_
        refine WL.q (Wn.no rfl) rfl rfl (R.move (v := (vi 1)) rfl) ?_
        refine WL.want rfl rfl ?_
        refine WL.call (al := [(.agg ⟨(formB rs ors adr wr ran).map vu8⟩), (vi 1)]) Try.call31 rfl rfl (c_word14 (formB rs ors adr wr ran) (formB_len hor) 1 (by omega) _ ) rfl ?_
        rintro _ w_25 ⟨rfl, hc_24⟩
        have h_26 := h_23.same hc_24
        refine WL.want rfl rfl ?_
        refine WL.q (Wn.no rfl) rfl rfl (R.bin (v := (.bool (decide ((wordB (formB rs ors adr wr ran) 1 : UInt64) ≠ 0)))) rfl rfl (b64_neq (wordB (formB rs ors adr wr ran) 1) 0 (r := decide ((wordB (formB rs ors adr wr ran) 1 : UInt64) ≠ 0)) rfl)) ?_
        refine WL.q (Wn.no rfl) rfl rfl (R.pickF (v := (.bool (decide ((wordB (formB rs ors adr wr ran) 1 : UInt64) ≠ 0)))) rfl rfl) ?_
        refine WL.nil ?_
        refine thn_n ?_
        refine WP.condF (congrArg Value.bool (decide_eq_false (not_not_intro (rest_zero c_13 p_15 (by decide) (by decide))))) ?_
        refine WP.skip ?_
        refine inb_n ?_
        refine thn_n ?_
        refine WP.reg ?_
        refine WL.q (Wn.no rfl) rfl rfl (R.move (v := (vi 1)) rfl) ?_
        refine WL.q (Wn.no rfl) rfl rfl (R.bin (v := (vi 2)) rfl rfl (bi_add (c := 2) (by omega) (by omega))) ?_
        refine WL.q (Wn.no rfl) rfl rfl (R.assign (v := (vi 2)) rfl) ?_
        refine WL.nil ?_
        refine thn_n ?_
        refine WI.round ?_
        refine WP.seq ?_
        refine WP.seq ?_
        refine WP.reg ?_
        refine WL.q (Wn.no rfl) rfl rfl (R.move (v := (vi 2)) rfl) ?_
        refine WL.q (Wn.no rfl) rfl rfl (R.bin (v := (.bool true)) rfl rfl (bi_lss (r := true) (by decide))) ?_
        refine WL.nil ?_
        refine thn_n ?_
        refine WP.condT rfl ?_
        refine WP.skip ?_
        refine thn_n ?_
        refine WP.seq ?_
        refine WP.block ?_
        refine WP.seq ?_
        refine WP.reg ?_
        refine WL.q (Wn.no rfl) rfl rfl (R.move (v := (vi 0)) rfl) ?_
        refine WL.q (Wn.no rfl) rfl rfl (R.bin (v := (.bool false)) rfl rfl (bi_neq (r := false) (by decide))) ?_
        refine WL.q (Wn.no rfl) rfl rfl (R.move (v := (.bool false)) rfl) ?_
        refine WL.want rfl rfl ?_
        refine WL.q (Wn.no rfl) rfl rfl (R.loadA (b := b_19) (off := 0) [] [(128, (formB rs ors adr wr ran).map vu8)] [] (cs := (formB rs ors adr wr ran).map vu8) rfl Try.isAgg53 Try.sizeOf53 (h_26.ok _ (.head _)) rfl rfl rfl rfl) ?_
        refine WL.want rfl rfl ?_
        refine WL.q (Wn.no rfl) rfl rfl (R.move (v := (vi 2)) rfl) ?_
        refine WL.want rfl rfl ?_
        refine WL.call (al := [(.agg ⟨(formB rs ors adr wr ran).map vu8⟩), (vi 2)]) Try.call31 rfl rfl (c_word14 (formB rs ors adr wr ran) (formB_len hor) 2 (by omega) _ ) rfl ?_
        rintro _ w_28 ⟨rfl, hc_27⟩
        have h_29 := h_26.same hc_27
        refine WL.want rfl rfl ?_
        refine WL.q (Wn.no rfl) rfl rfl (R.bin (v := (.bool (decide ((wordB (formB rs ors adr wr ran) 2 : UInt64) ≠ 0)))) rfl rfl (b64_neq (wordB (formB rs ors adr wr ran) 2) 0 (r := decide ((wordB (formB rs ors adr wr ran) 2 : UInt64) ≠ 0)) rfl)) ?_
        refine WL.q (Wn.no rfl) rfl rfl (R.pickF (v := (.bool (decide ((wordB (formB rs ors adr wr ran) 2 : UInt64) ≠ 0)))) rfl rfl) ?_
        refine WL.nil ?_
        refine thn_n ?_
        refine WP.condF (congrArg Value.bool (decide_eq_false (not_not_intro (rest_zero c_13 p_15 (by decide) (by decide))))) ?_
        refine WP.skip ?_
        refine inb_n ?_
        refine thn_n ?_
        refine WP.reg ?_
        refine WL.q (Wn.no rfl) rfl rfl (R.move (v := (vi 2)) rfl) ?_
        refine WL.q (Wn.no rfl) rfl rfl (R.bin (v := (vi 3)) rfl rfl (bi_add (c := 3) (by omega) (by omega))) ?_
        refine WL.q (Wn.no rfl) rfl rfl (R.assign (v := (vi 3)) rfl) ?_
        refine WL.nil ?_
        refine thn_n ?_
        refine WI.round ?_
        refine WP.seq ?_
        refine WP.seq ?_
        refine WP.reg ?_
        refine WL.q (Wn.no rfl) rfl rfl (R.move (v := (vi 3)) rfl) ?_
        refine WL.q (Wn.no rfl) rfl rfl (R.bin (v := (.bool true)) rfl rfl (bi_lss (r := true) (by decide))) ?_
        refine WL.nil ?_
        refine thn_n ?_
        refine WP.condT rfl ?_
        refine WP.skip ?_
        refine thn_n ?_
        refine WP.seq ?_
        refine WP.block ?_
        refine WP.seq ?_
        refine WP.reg ?_
        refine WL.q (Wn.no rfl) rfl rfl (R.move (v := (vi 0)) rfl) ?_
        refine WL.q (Wn.no rfl) rfl rfl (R.bin (v := (.bool false)) rfl rfl (bi_neq (r := false) (by decide))) ?_
        refine WL.q (Wn.no rfl) rfl rfl (R.move (v := (.bool false)) rfl) ?_
        refine WL.want rfl rfl ?_
        refine WL.q (Wn.no rfl) rfl rfl (R.loadA (b := b_19) (off := 0) [] [(128, (formB rs ors adr wr ran).map vu8)] [] (cs := (formB rs ors adr wr ran).map vu8) rfl Try.isAgg53 Try.sizeOf53 (h_29.ok _ (.head _)) rfl rfl rfl rfl) ?_
        refine WL.want rfl rfl ?_
        refine WL.q (Wn.no rfl) rfl rfl (R.move (v := (vi 3)) rfl) ?_
        refine WL.want rfl rfl ?_
        refine WL.call (al := [(.agg ⟨(formB rs ors adr wr ran).map vu8⟩), (vi 3)]) Try.call31 rfl rfl (c_word14 (formB rs ors adr wr ran) (formB_len hor) 3 (by omega) _ ) rfl ?_
        rintro _ w_31 ⟨rfl, hc_30⟩
        have h_32 := h_29.same hc_30
        refine WL.want rfl rfl ?_
        refine WL.q (Wn.no rfl) rfl rfl (R.bin (v := (.bool (decide ((wordB (formB rs ors adr wr ran) 3 : UInt64) ≠ 0)))) rfl rfl (b64_neq (wordB (formB rs ors adr wr ran) 3) 0 (r := decide ((wordB (formB rs ors adr wr ran) 3 : UInt64) ≠ 0)) rfl)) ?_
        refine WL.q (Wn.no rfl) rfl rfl (R.pickF (v := (.bool (decide ((wordB (formB rs ors adr wr ran) 3 : UInt64) ≠ 0)))) rfl rfl) ?_
        refine WL.nil ?_
        refine thn_n ?_
        refine WP.condF (congrArg Value.bool (decide_eq_false (not_not_intro (rest_zero c_13 p_15 (by decide) (by decide))))) ?_
        refine WP.skip ?_
        refine inb_n ?_
        refine thn_n ?_
        refine WP.reg ?_
        refine WL.q (Wn.no rfl) rfl rfl (R.move (v := (vi 3)) rfl) ?_
        refine WL.q (Wn.no rfl) rfl rfl (R.bin (v := (vi 4)) rfl rfl (bi_add (c := 4) (by omega) (by omega))) ?_
        refine WL.q (Wn.no rfl) rfl rfl (R.assign (v := (vi 4)) rfl) ?_
        refine WL.nil ?_
        refine thn_n ?_
        refine WI.round ?_
        refine WP.seq ?_
        refine WP.seq ?_
        refine WP.reg ?_
        refine WL.q (Wn.no rfl) rfl rfl (R.move (v := (vi 4)) rfl) ?_
        refine WL.q (Wn.no rfl) rfl rfl (R.bin (v := (.bool true)) rfl rfl (bi_lss (r := true) (by decide))) ?_
        refine WL.nil ?_
        refine thn_n ?_
        refine WP.condT rfl ?_
        refine WP.skip ?_
        refine thn_n ?_
        refine WP.seq ?_
        refine WP.block ?_
        refine WP.seq ?_
        refine WP.reg ?_
        refine WL.q (Wn.no rfl) rfl rfl (R.move (v := (vi 0)) rfl) ?_
        refine WL.q (Wn.no rfl) rfl rfl (R.bin (v := (.bool false)) rfl rfl (bi_neq (r := false) (by decide))) ?_
        refine WL.q (Wn.no rfl) rfl rfl (R.move (v := (.bool false)) rfl) ?_
        refine WL.want rfl rfl ?_
        refine WL.q (Wn.no rfl) rfl rfl (R.loadA (b := b_19) (off := 0) [] [(128, (formB rs ors adr wr ran).map vu8)] [] (cs := (formB rs ors adr wr ran).map vu8) rfl Try.isAgg53 Try.sizeOf53 (h_32.ok _ (.head _)) rfl rfl rfl rfl) ?_
        refine WL.want rfl rfl ?_
        refine WL.q (Wn.no rfl) rfl rfl (R.move (v := (vi 4)) rfl) ?_
        refine WL.want rfl rfl ?_
        refine WL.call (al := [(.agg ⟨(formB rs ors adr wr ran).map vu8⟩), (vi 4)]) Try.call31 rfl rfl (c_word14 (formB rs ors adr wr ran) (formB_len hor) 4 (by omega) _ ) rfl ?_
        rintro _ w_34 ⟨rfl, hc_33⟩
        have h_35 := h_32.same hc_33
        refine WL.want rfl rfl ?_
        refine WL.q (Wn.no rfl) rfl rfl (R.bin (v := (.bool (decide ((wordB (formB rs ors adr wr ran) 4 : UInt64) ≠ 0)))) rfl rfl (b64_neq (wordB (formB rs ors adr wr ran) 4) 0 (r := decide ((wordB (formB rs ors adr wr ran) 4 : UInt64) ≠ 0)) rfl)) ?_
        refine WL.q (Wn.no rfl) rfl rfl (R.pickF (v := (.bool (decide ((wordB (formB rs ors adr wr ran) 4 : UInt64) ≠ 0)))) rfl rfl) ?_
        refine WL.nil ?_
        refine thn_n ?_
        refine WP.condF (congrArg Value.bool (decide_eq_false (not_not_intro (rest_zero c_13 p_15 (by decide) (by decide))))) ?_
        refine WP.skip ?_
        refine inb_n ?_
        refine thn_n ?_
        refine WP.reg ?_
        refine WL.q (Wn.no rfl) rfl rfl (R.move (v := (vi 4)) rfl) ?_
        refine WL.q (Wn.no rfl) rfl rfl (R.bin (v := (vi 5)) rfl rfl (bi_add (c := 5) (by omega) (by omega))) ?_
        refine WL.q (Wn.no rfl) rfl rfl (R.assign (v := (vi 5)) rfl) ?_
        refine WL.nil ?_
        refine thn_n ?_
        refine WI.round ?_
        refine WP.seq ?_
        refine WP.seq ?_
        refine WP.reg ?_
        refine WL.q (Wn.no rfl) rfl rfl (R.move (v := (vi 5)) rfl) ?_
        refine WL.q (Wn.no rfl) rfl rfl (R.bin (v := (.bool false)) rfl rfl (bi_lss (r := false) (by decide))) ?_
        refine WL.nil ?_
        refine thn_n ?_
        refine WP.condF rfl ?_
        refine WP.exit ?_
        refine thn_x ?_
        refine thn_x ?_
        refine inb_hit ?_
        refine thn_n ?_
        have h_36 := h_35.up (Pick.t (Pick.t (Pick.t Pick.h)))
        have h_37 := h_36.up (Pick.t (Pick.t (Pick.t Pick.h)))
        have h_38 := h_37.up (Pick.t (Pick.t (Pick.t Pick.h)))
        have h_39 := (h_38.up (Pick.t (Pick.t (Pick.t Pick.h)))).drop rfl
        exact ⟨(), (Ag.upd rfl (Ag.upd rfl (Ag.upd rfl (Ag.upd rfl (Ag.upd rfl (Ag.upd rfl (Ag.upd rfl (Ag.upd rfl (Ag.upd rfl (Ag.upd rfl (Ag.upd rfl (Ag.upd rfl (Ag.upd rfl (Ag.upd rfl (Ag.upd rfl (Ag.upd rfl (Ag.upd rfl (Ag.upd rfl (Ag.upd rfl (Ag.upd rfl (Ag.upd rfl (Ag.upd rfl (Ag.upd rfl (Ag.upd rfl (Ag.upd rfl (Ag.upd rfl (Ag.upd rfl (Ag.upd rfl (Ag.upd rfl (Ag.upd rfl (Ag.upd rfl (Ag.upd rfl (Ag.upd rfl (Ag.upd rfl (Ag.upd rfl (Ag.upd rfl (Ag.upd rfl (Ag.upd rfl (Ag.upd rfl (Ag.upd rfl (Ag.upd rfl (Ag.upd rfl (Ag.upd rfl (Ag.upd rfl (Ag.upd rfl (Ag.upd rfl (Ag.upd rfl (Ag.upd rfl (Ag.upd rfl (Ag.upd rfl (Ag.upd rfl (Ag.upd rfl (Ag.upd rfl (Ag.upd rfl (Ag.upd rfl (Ag.upd rfl (Ag.upd rfl (Ag.upd rfl (Ag.upd rfl (Ag.upd rfl (Ag.upd rfl (Ag.upd rfl (Ag.upd rfl (Ag.upd rfl (Ag.upd rfl (Ag.upd rfl (Ag.upd rfl (Ag.upd rfl (Ag.upd rfl (Ag.refl _ _)))))))))))))))))))))))))))))))))))))))))))))))))))))))))))))))))))))), ⟨rfl, rfl, trivial⟩, h_39⟩
      · have p_40 := of_decide_eq_false c_14
        refine WP.skip ?_
        refine thn_n ?_
        exact ⟨(), (Ag.upd rfl (Ag.upd rfl (Ag.upd rfl (Ag.upd rfl (Ag.upd rfl (Ag.upd rfl (Ag.upd rfl (Ag.refl _ _)))))))), ⟨rfl, rfl, trivial⟩, h_12⟩
    · refine WL.skip rfl (congrArg Value.bool c_13) rfl ?_
      refine WL.skip rfl (congrArg Value.bool c_13) rfl ?_
      refine WL.skip rfl (congrArg Value.bool c_13) rfl ?_
      refine WL.q (Wn.no rfl) rfl rfl (R.pickF (v := (.bool false)) (congrArg Value.bool c_13) rfl) ?_
      refine WL.nil ?_
      refine thn_n ?_
      refine WP.condF rfl ?_
      refine WP.skip ?_
      refine thn_n ?_
      exact ⟨(), (Ag.upd rfl (Ag.upd rfl (Ag.upd rfl (Ag.upd rfl (Ag.upd rfl (Ag.upd rfl (Ag.upd rfl (Ag.refl _ _)))))))), ⟨rfl, rfl, trivial⟩, h_12⟩
  · rintro _ J_41 w_42 h_43
    refine WP.seq ?_
    refine WP.reg ?_
    refine WL.q (Wn.no rfl) rfl rfl (R.loadA (b := b_1) (off := 0) [] [(1, [(vi rd)]), (1, [(vu64 ins)]), (8, regs.map vu64), (1, [(vu64 pc)]), (1, [(.bool true)]), (1, [(vi 1)])] [] (cs := flat [(1, [(vi rd)]), (1, [(vu64 ins)]), (8, regs.map vu64), (1, [(vu64 pc)]), (1, [(.bool true)]), (1, [(vi 1)])]) rfl Try.isAgg28 Try.sizeOf28 (h_43.ok _ (.tail _ (.tail _ (.head _)))) rfl rfl rfl rfl) ?_
    refine WL.q (Wn.no rfl) rfl rfl (R.loadA (b := b_4) (off := 0) [] [(4, ain.map vu64)] [] (cs := ain.map vu64) rfl Try.isAgg31 Try.sizeOf31 (h_43.ok _ (.tail _ (.head _))) rfl rfl rfl rfl) ?_
    refine WL.call (al := [(.agg ⟨flat [(1, [(vi rd)]), (1, [(vu64 ins)]), (8, regs.map vu64), (1, [(vu64 pc)]), (1, [(.bool true)]), (1, [(vi 1)])]⟩), (.agg ⟨ain.map vu64⟩)]) Try.call13 rfl rfl (c_Enter rd ins regs hr pc true 1 ain ha rfl _) rfl ?_
    rintro _ w_45 ⟨rfl, hc_44⟩
    have h_46 := h_43.same hc_44
    refine WL.q (Wn.no rfl) rfl rfl (R.move (v := (.tuple [(.agg ⟨flat [(1, [(vi rd)]), (1, [(vu64 ins)]), (8, (entRegs 1 ain regs).map vu64), (1, [(vu64 pc)]), (1, [(.bool true)]), (1, [(vi 0)])]⟩), (vi 0)].toArray)) rfl) ?_
    refine WL.q (Wn.no rfl) rfl rfl (R.extract (l := [(.agg ⟨flat [(1, [(vi rd)]), (1, [(vu64 ins)]), (8, (entRegs 1 ain regs).map vu64), (1, [(vu64 pc)]), (1, [(.bool true)]), (1, [(vi 0)])]⟩), (vi 0)]) (v := (.agg ⟨flat [(1, [(vi rd)]), (1, [(vu64 ins)]), (8, (entRegs 1 ain regs).map vu64), (1, [(vu64 pc)]), (1, [(.bool true)]), (1, [(vi 0)])]⟩)) rfl rfl) ?_
    refine WL.q (Wn.no rfl) rfl rfl (R.extract (l := [(.agg ⟨flat [(1, [(vi rd)]), (1, [(vu64 ins)]), (8, (entRegs 1 ain regs).map vu64), (1, [(vu64 pc)]), (1, [(.bool true)]), (1, [(vi 0)])]⟩), (vi 0)]) (v := (vi 0)) rfl rfl) ?_
    refine WL.alloc (segs := [(1, [(vi 0)]), (1, [(vu64 0)]), (8, (List.replicate 8 (0 : UInt64)).map vu64), (1, [(vu64 0)]), (1, [(.bool false)]), (1, [(vi 0)])]) h_46 (zv Try.typeInfo28 rfl) rfl (SsOk.cons (SOk.v rfl) (SsOk.cons (SOk.v rfl) (SsOk.cons (SOk.u64 (List.length_replicate ..)) (SsOk.cons (SOk.v rfl) (SsOk.cons (SOk.v rfl) (SsOk.cons (SOk.v rfl) SsOk.nil)))))) rfl (fun b_47 w_48 h_49 => ?_)
    refine WL.storeA (b := b_47) (off := 0) [] [(1, [(vi 0)]), (1, [(vu64 0)]), (8, (List.replicate 8 (0 : UInt64)).map vu64), (1, [(vu64 0)]), (1, [(.bool false)]), (1, [(vi 0)])] [(1, [(vi rd)]), (1, [(vu64 ins)]), (8, (entRegs 1 ain regs).map vu64), (1, [(vu64 pc)]), (1, [(.bool true)]), (1, [(vi 0)])] [] (ys := flat [(1, [(vi rd)]), (1, [(vu64 ins)]), (8, (entRegs 1 ain regs).map vu64), (1, [(vu64 pc)]), (1, [(.bool true)]), (1, [(vi 0)])]) h_49 rfl rfl Try.sizeOf28 At.h (by decide) rfl rfl rfl rfl rfl rfl (SsOk.cons (SOk.v rfl) (SsOk.cons (SOk.v rfl) (SsOk.cons (SOk.u64 (entRegs_len ha hr)) (SsOk.cons (SOk.v rfl) (SsOk.cons (SOk.v rfl) (SsOk.cons (SOk.v rfl) SsOk.nil)))))) (fun w_50 h_51 => ?_)
    refine WL.q (Wn.no rfl) rfl rfl (R.assign (v := (vi 0)) rfl) ?_
    refine WL.nil ?_
    refine thn_n ?_
    refine WP.seq ?_
    refine WP.seq ?_
    refine WP.reg ?_
    refine WL.q (Wn.no rfl) rfl rfl (R.move (v := (vi 0)) rfl) ?_
    refine WL.q (Wn.no rfl) rfl rfl (R.bin (v := (.bool false)) rfl rfl (bi_neq (r := false) (by decide))) ?_
    refine WL.nil ?_
    refine thn_n ?_
    refine WP.condF rfl ?_
    refine WP.skip ?_
    refine thn_n ?_
    refine WP.seq ?_
    refine WP.reg ?_
    refine WL.q (Wn.no rfl) rfl rfl (R.loadA (b := b_47) (off := 0) [] [(1, [(vi rd)]), (1, [(vu64 ins)]), (8, (entRegs 1 ain regs).map vu64), (1, [(vu64 pc)]), (1, [(.bool true)]), (1, [(vi 0)])] [] (cs := flat [(1, [(vi rd)]), (1, [(vu64 ins)]), (8, (entRegs 1 ain regs).map vu64), (1, [(vu64 pc)]), (1, [(.bool true)]), (1, [(vi 0)])]) rfl Try.isAgg28 Try.sizeOf28 (h_51.ok _ (.head _)) rfl rfl rfl rfl) ?_
    refine WL.q (Wn.no rfl) rfl rfl (R.fieldAddr (b := b_47) (off := 0) (off' := 2) rfl Try.underlying28 rfl Try.sizeOf25 rfl rfl) ?_
    refine WL.q (Wn.no rfl) rfl rfl (R.loadA (b := b_47) (off := 2) [(1, [(vi rd)]), (1, [(vu64 ins)])] [(8, (entRegs 1 ain regs).map vu64), (1, [(vu64 pc)])] [(1, [(.bool true)]), (1, [(vi 0)])] (cs := flat [(8, (entRegs 1 ain regs).map vu64), (1, [(vu64 pc)])]) rfl Try.isAgg25 Try.sizeOf25 (h_51.ok _ (.head _)) rfl rfl rfl rfl) ?_
    refine WL.q (Wn.no rfl) rfl rfl (R.buildS (pl := [(0, 1), (1, 4), (5, 1), (6, 1), (7, 1)]) (zs := [(1, [(vi 0)]), (4, (List.replicate 4 (0 : UInt64)).map vu64), (1, [(vu64 0)]), (1, [(.bool false)]), (1, [(vi 0)])]) (vs := [(0, (vi 1))]) (out := [(1, [(vi 1)]), (4, (List.replicate 4 (0 : UInt64)).map vu64), (1, [(vu64 0)]), (1, [(.bool false)]), (1, [(vi 0)])]) (cs := flat [(1, [(vi 1)]), (4, (List.replicate 4 (0 : UInt64)).map vu64), (1, [(vu64 0)]), (1, [(.bool false)]), (1, [(vi 0)])]) Try.underlying40 (zv Try.typeInfo40 rfl) rfl (SsOk.cons (SOk.v rfl) (SsOk.cons (SOk.u64 (List.length_replicate ..)) (SsOk.cons (SOk.v rfl) (SsOk.cons (SOk.v rfl) (SsOk.cons (SOk.v rfl) SsOk.nil))))) (pl40 _ Try.underlying40) rfl (FillR.cons [] [(1, [(vi 0)])] [(1, [(vi 1)])] [(4, (List.replicate 4 (0 : UInt64)).map vu64), (1, [(vu64 0)]), (1, [(.bool false)]), (1, [(vi 0)])] rfl rfl rfl rfl (SsOk.cons (SOk.v rfl) SsOk.nil) rfl rfl rfl FillR.nil) rfl) ?_
    refine WL.call (al := [(.agg ⟨flat [(1, [(vi rd)]), (1, [(vu64 ins)]), (8, (entRegs 1 ain regs).map vu64), (1, [(vu64 pc)]), (1, [(.bool true)]), (1, [(vi 0)])]⟩), (.agg ⟨flat [(8, (entRegs 1 ain regs).map vu64), (1, [(vu64 pc)])]⟩), (.agg ⟨flat [(1, [(vi 1)]), (4, (List.replicate 4 (0 : UInt64)).map vu64), (1, [(vu64 0)]), (1, [(.bool false)]), (1, [(vi 0)])]⟩)]) Try.call16 rfl rfl (c_Leave rd ins (entRegs 1 ain regs) (entRegs_len ha hr) pc true 0 (entRegs 1 ain regs) (entRegs_len ha hr) pc 1 (List.replicate 4 (0 : UInt64)) (List.length_replicate ..) 0 false 0 (by decide) (by decide) (by decide) _) rfl ?_
    rintro _ w_54 ⟨rfl, hc_53⟩
    have h_55 := h_51.same hc_53
    refine WL.q (Wn.no rfl) rfl rfl (R.move (v := (.tuple [(.agg ⟨flat [(1, [(vi rd)]), (1, [(vu64 ins)]), (8, (entRegs 1 ain regs).map vu64), (1, [(vu64 pc)]), (1, [(.bool true)]), (1, [(vi 0)])]⟩), (vi 0)].toArray)) rfl) ?_
    refine WL.q (Wn.no rfl) rfl rfl (R.extract (l := [(.agg ⟨flat [(1, [(vi rd)]), (1, [(vu64 ins)]), (8, (entRegs 1 ain regs).map vu64), (1, [(vu64 pc)]), (1, [(.bool true)]), (1, [(vi 0)])]⟩), (vi 0)]) (v := (.agg ⟨flat [(1, [(vi rd)]), (1, [(vu64 ins)]), (8, (entRegs 1 ain regs).map vu64), (1, [(vu64 pc)]), (1, [(.bool true)]), (1, [(vi 0)])]⟩)) rfl rfl) ?_
    refine WL.q (Wn.no rfl) rfl rfl (R.extract (l := [(.agg ⟨flat [(1, [(vi rd)]), (1, [(vu64 ins)]), (8, (entRegs 1 ain regs).map vu64), (1, [(vu64 pc)]), (1, [(.bool true)]), (1, [(vi 0)])]⟩), (vi 0)]) (v := (vi 0)) rfl rfl) ?_
    refine WL.alloc (segs := [(1, [(vi 0)]), (1, [(vu64 0)]), (8, (List.replicate 8 (0 : UInt64)).map vu64), (1, [(vu64 0)]), (1, [(.bool false)]), (1, [(vi 0)])]) h_55 (zv Try.typeInfo28 rfl) rfl (SsOk.cons (SOk.v rfl) (SsOk.cons (SOk.v rfl) (SsOk.cons (SOk.u64 (List.length_replicate ..)) (SsOk.cons (SOk.v rfl) (SsOk.cons (SOk.v rfl) (SsOk.cons (SOk.v rfl) SsOk.nil)))))) rfl (fun b_56 w_57 h_58 => ?_)
    refine WL.storeA (b := b_56) (off := 0) [] [(1, [(vi 0)]), (1, [(vu64 0)]), (8, (List.replicate 8 (0 : UInt64)).map vu64), (1, [(vu64 0)]), (1, [(.bool false)]), (1, [(vi 0)])] [(1, [(vi rd)]), (1, [(vu64 ins)]), (8, (entRegs 1 ain regs).map vu64), (1, [(vu64 pc)]), (1, [(.bool true)]), (1, [(vi 0)])] [] (ys := flat [(1, [(vi rd)]), (1, [(vu64 ins)]), (8, (entRegs 1 ain regs).map vu64), (1, [(vu64 pc)]), (1, [(.bool true)]), (1, [(vi 0)])]) h_58 rfl rfl Try.sizeOf28 At.h (by decide) rfl rfl rfl rfl rfl rfl (SsOk.cons (SOk.v rfl) (SsOk.cons (SOk.v rfl) (SsOk.cons (SOk.u64 (entRegs_len ha hr)) (SsOk.cons (SOk.v rfl) (SsOk.cons (SOk.v rfl) (SsOk.cons (SOk.v rfl) SsOk.nil)))))) (fun w_59 h_60 => ?_)
    refine WL.q (Wn.no rfl) rfl rfl (R.assign (v := (vi 0)) rfl) ?_
    refine WL.nil ?_
    refine thn_n ?_
    refine WP.seq ?_
    refine WP.seq ?_
    refine WP.reg ?_
    refine WL.q (Wn.no rfl) rfl rfl (R.move (v := (vi 0)) rfl) ?_
    refine WL.q (Wn.no rfl) rfl rfl (R.bin (v := (.bool false)) rfl rfl (bi_neq (r := false) (by decide))) ?_
    refine WL.q (Wn.no rfl) rfl rfl (R.move (v := (.bool false)) rfl) ?_
    refine WL.want rfl rfl ?_
    refine WL.q (Wn.no rfl) rfl rfl (R.fieldAddr (b := b_56) (off := 0) (off' := 12) rfl Try.underlying28 rfl Try.sizeOf26 rfl rfl) ?_
    refine WL.want rfl rfl ?_
    refine WL.q (Wn.no rfl) rfl rfl (R.load1 (b := b_56) (off := 12) (v := (vi 0)) rfl Try.isAgg26 (h_60.ok _ (.head _)) (Sg.t rfl (Sg.t rfl (Sg.t rfl (Sg.t rfl (Sg.t rfl Sg.h)))))) ?_
    refine WL.want rfl rfl ?_
    refine WL.q (Wn.no rfl) rfl rfl (R.bin (v := (.bool false)) rfl rfl (bi_neq (r := false) (by decide))) ?_
    refine WL.q (Wn.no rfl) rfl rfl (R.pickF (v := (.bool false)) rfl rfl) ?_
    refine WL.q (Wn.no rfl) rfl rfl (R.move (v := (.bool false)) rfl) ?_
    refine WL.want rfl rfl ?_
    refine WL.q (Wn.no rfl) rfl rfl (R.fieldAddr (b := b_56) (off := 0) (off' := 0) rfl Try.underlying28 rfl Try.sizeOf3 rfl rfl) ?_
    refine WL.want rfl rfl ?_
    refine WL.q (Wn.no rfl) rfl rfl (R.load1 (b := b_56) (off := 0) (v := (vi rd)) rfl Try.isAgg3 (h_60.ok _ (.head _)) Sg.h) ?_
    refine WL.want rfl rfl ?_
    refine WL.q (Wn.no rfl) rfl rfl (R.fieldAddr (b := b_1) (off := 0) (off' := 0) rfl Try.underlying28 rfl Try.sizeOf3 rfl rfl) ?_
    refine WL.want rfl rfl ?_
    refine WL.q (Wn.no rfl) rfl rfl (R.load1 (b := b_1) (off := 0) (v := (vi rd)) rfl Try.isAgg3 (h_60.ok _ (.tail _ (.tail _ (.tail _ (.tail _ (.head _)))))) Sg.h) ?_
    refine WL.want rfl rfl ?_
    refine WL.q (Wn.no rfl) rfl rfl (R.bin (v := (.bool false)) rfl rfl (bi_neq (r := false) (by simp))) ?_
    refine WL.q (Wn.no rfl) rfl rfl (R.pickF (v := (.bool false)) rfl rfl) ?_
    refine WL.q (Wn.no rfl) rfl rfl (R.move (v := (.bool false)) rfl) ?_
    refine WL.want rfl rfl ?_
    refine WL.q (Wn.no rfl) rfl rfl (R.fieldAddr (b := b_56) (off := 0) (off' := 1) rfl Try.underlying28 rfl Try.sizeOf22 rfl rfl) ?_
    refine WL.want rfl rfl ?_
    refine WL.q (Wn.no rfl) rfl rfl (R.load1 (b := b_56) (off := 1) (v := (vu64 ins)) rfl Try.isAgg22 (h_60.ok _ (.head _)) (Sg.t rfl Sg.h)) ?_
    refine WL.want rfl rfl ?_
    refine WL.q (Wn.no rfl) rfl rfl (R.fieldAddr (b := b_1) (off := 0) (off' := 1) rfl Try.underlying28 rfl Try.sizeOf22 rfl rfl) ?_
    refine WL.want rfl rfl ?_
    refine WL.q (Wn.no rfl) rfl rfl (R.load1 (b := b_1) (off := 1) (v := (vu64 ins)) rfl Try.isAgg22 (h_60.ok _ (.tail _ (.tail _ (.tail _ (.tail _ (.head _)))))) (Sg.t rfl Sg.h)) ?_
    refine WL.want rfl rfl ?_
    refine WL.q (Wn.no rfl) rfl rfl (R.bin (v := (.bool false)) rfl rfl (b64_neq ins ins (r := false) (by simp))) ?_
    refine WL.q (Wn.no rfl) rfl rfl (R.pickF (v := (.bool false)) rfl rfl) ?_
    refine WL.q (Wn.no rfl) rfl rfl (R.move (v := (.bool false)) rfl) ?_
    refine WL.want rfl rfl ?_
    refine WL.q (Wn.no rfl) rfl rfl (R.fieldAddr (b := b_56) (off := 0) (off' := 11) rfl Try.underlying28 rfl Try.sizeOf4 rfl rfl) ?_
    refine WL.want rfl rfl ?_
    refine WL.q (Wn.no rfl) rfl rfl (R.load1 (b := b_56) (off := 11) (v := (.bool true)) rfl Try.isAgg4 (h_60.ok _ (.head _)) (Sg.t rfl (Sg.t rfl (Sg.t rfl (Sg.t rfl Sg.h))))) ?_
    refine WL.want rfl rfl ?_
    refine WL.q (Wn.no rfl) rfl rfl (R.fieldAddr (b := b_1) (off := 0) (off' := 11) rfl Try.underlying28 rfl Try.sizeOf4 rfl rfl) ?_
    refine WL.want rfl rfl ?_
    refine WL.q (Wn.no rfl) rfl rfl (R.load1 (b := b_1) (off := 11) (v := (.bool true)) rfl Try.isAgg4 (h_60.ok _ (.tail _ (.tail _ (.tail _ (.tail _ (.head _)))))) (Sg.t rfl (Sg.t rfl (Sg.t rfl (Sg.t rfl Sg.h))))) ?_
    refine WL.want rfl rfl ?_
    refine WL.q (Wn.no rfl) rfl rfl (R.neB (a := true) (b := true) (c := false) rfl rfl Try.underlying4 rfl) ?_
    refine WL.q (Wn.no rfl) rfl rfl (R.pickF (v := (.bool false)) rfl rfl) ?_
    refine WL.q (Wn.no rfl) rfl rfl (R.move (v := (.bool false)) rfl) ?_
    refine WL.want rfl rfl ?_
    refine WL.q (Wn.no rfl) rfl rfl (R.fieldAddr (b := b_56) (off := 0) (off' := 2) rfl Try.underlying28 rfl Try.sizeOf25 rfl rfl) ?_
    refine WL.want rfl rfl ?_
    refine WL.q (Wn.no rfl) rfl rfl (R.fieldAddr (b := b_56) (off := 2) (off' := 10) rfl Try.underlying25 rfl Try.sizeOf22 rfl rfl) ?_
    refine WL.want rfl rfl ?_
    refine WL.q (Wn.no rfl) rfl rfl (R.load1 (b := b_56) (off := 10) (v := (vu64 pc)) rfl Try.isAgg22 (h_60.ok _ (.head _)) (Sg.t rfl (Sg.t rfl (Sg.t rfl Sg.h)))) ?_
    refine WL.want rfl rfl ?_
    refine WL.q (Wn.no rfl) rfl rfl (R.fieldAddr (b := b_1) (off := 0) (off' := 2) rfl Try.underlying28 rfl Try.sizeOf25 rfl rfl) ?_
    refine WL.want rfl rfl ?_
    refine WL.q (Wn.no rfl) rfl rfl (R.fieldAddr (b := b_1) (off := 2) (off' := 10) rfl Try.underlying25 rfl Try.sizeOf22 rfl rfl) ?_
    refine WL.want rfl rfl ?_
    refine WL.q (Wn.no rfl) rfl rfl (R.load1 (b := b_1) (off := 10) (v := (vu64 pc)) rfl Try.isAgg22 (h_60.ok _ (.tail _ (.tail _ (.tail _ (.tail _ (.head _)))))) (Sg.t rfl (Sg.t rfl (Sg.t rfl Sg.h)))) ?_
    refine WL.want rfl rfl ?_
    refine WL.q (Wn.no rfl) rfl rfl (R.bin (v := (.bool false)) rfl rfl (b64_neq pc pc (r := false) (by simp))) ?_
    refine WL.q (Wn.no rfl) rfl rfl (R.pickF (v := (.bool false)) rfl rfl) ?_
    refine WL.nil ?_
    refine thn_n ?_
    refine WP.condF rfl ?_
    refine WP.skip ?_
    refine thn_n ?_
    refine WP.seq ?_
    refine WP.seq ?_
    refine WP.reg ?_
    refine WL.q (Wn.no rfl) rfl rfl (R.assign (v := (vi 0)) rfl) ?_
    refine WL.nil ?_
    refine thn_n ?_
    refine WP.block ?_
    refine WP.loopU (WI.round ?_)
    refine WP.seq ?_
    refine WP.seq ?_
    refine WP.reg ?_
    refine WL.q (Wn.no rfl) rfl rfl (R.move (v := (vi 0)) rfl) ?_
    refine WL.q (Wn.no rfl) rfl rfl (R.bin (v := (.bool true)) rfl rfl (bi_lss (r := true) (by decide))) ?_
    refine WL.nil ?_
    refine thn_n ?_
    refine WP.condT rfl ?_
    refine WP.skip ?_
    refine thn_n ?_
    refine WP.g1 (G := Unit) [6, 97, 98, 99, 100, 101, 102, 103, 104, 105, 106, 107, 108, 109, 110, 111, 112, 113, 114, 115, 116] (fun _ => [(6, (.bool false)), (97, (vi 0)), (98, (.pointer (some ⟨b_56, 2, none⟩))), (99, (.pointer (some ⟨b_56, 2, none⟩))), (100, (.pointer (some ⟨b_56, 2, none⟩))), (101, (vu64 ((entRegs 1 ain regs).getD 0 0))), (102, (vi 0)), (103, (.pointer (some ⟨b_1, 2, none⟩))), (104, (.pointer (some ⟨b_1, 2, none⟩))), (105, (.pointer (some ⟨b_1, 2, none⟩))), (106, (vu64 (regs.getD 0 0))), (116, (.bool false))]) (fun _ w1 => HP w w1 [.blk b_56 .nw 28 [(1, [(vi rd)]), (1, [(vu64 ins)]), (8, (entRegs 1 ain regs).map vu64), (1, [(vu64 pc)]), (1, [(.bool true)]), (1, [(vi 0)])], .blk b_47 .nw 28 [(1, [(vi rd)]), (1, [(vu64 ins)]), (8, (entRegs 1 ain regs).map vu64), (1, [(vu64 pc)]), (1, [(.bool true)]), (1, [(vi 0)])], .blk b_7 .nw 40 [(1, [(vi rs)]), (4, ors.map vu64), (1, [(vu64 adr)]), (1, [(.bool wr)]), (1, [(vi ran)])], .blk b_4 .nw 31 [(4, ain.map vu64)], .blk b_1 .nw 28 [(1, [(vi rd)]), (1, [(vu64 ins)]), (8, regs.map vu64), (1, [(vu64 pc)]), (1, [(.bool true)]), (1, [(vi 1)])]]) ?_ ?_
    · refine WP.block ?_
      refine WP.seq ?_
      refine WP.drawT (SL w.heap.size [.blk b_56 .nw 28 [(1, [(vi rd)]), (1, [(vu64 ins)]), (8, (entRegs 1 ain regs).map vu64), (1, [(vu64 pc)]), (1, [(.bool true)]), (1, [(vi 0)])], .blk b_47 .nw 28 [(1, [(vi rd)]), (1, [(vu64 ins)]), (8, (entRegs 1 ain regs).map vu64), (1, [(vu64 pc)]), (1, [(.bool true)]), (1, [(vi 0)])], .blk b_7 .nw 40 [(1, [(vi rs)]), (4, ors.map vu64), (1, [(vu64 adr)]), (1, [(.bool wr)]), (1, [(vi ran)])], .blk b_4 .nw 31 [(4, ain.map vu64)], .blk b_1 .nw 28 [(1, [(vi rd)]), (1, [(vu64 ins)]), (8, regs.map vu64), (1, [(vu64 pc)]), (1, [(.bool true)]), (1, [(vi 1)])]]) (.q 0 (.q 1 (.q 2 (.q 3 (.q 4 (.q 5 (.q 6 (.q 7 (.q 8 (.q 9 (.q 10 (.q 11 (.q 12 (.q 13 (.q 14 (.q 15 (.q 16 (.q 17 (.q 18 (.q 19 .nil)))))))))))))))))))) (by kernel_rfl) (by kernel_rfl) rfl (by kernel_rfl) (fun w_61 hc_63 => (SL.cons ((h_60.same hc_63).ok _ (.head _)) (SL.cons ((h_60.same hc_63).ok _ (.tail _ (.head _))) (SL.cons ((h_60.same hc_63).ok _ (.tail _ (.tail _ (.head _)))) (SL.cons ((h_60.same hc_63).ok _ (.tail _ (.tail _ (.tail _ (.head _))))) (SL.cons ((h_60.same hc_63).ok _ (.tail _ (.tail _ (.tail _ (.tail _ (.head _)))))) (SL.nil _ _))))))) (fun w_61 hc_63 => ?_)
      have h_62 := h_60.same hc_63
      refine WT.q rfl (Wn.no rfl) rfl rfl (fun wq hS => R.move (v := (vi 0)) rfl) ?_
      refine WT.q rfl (Wn.no rfl) rfl rfl (fun wq hS => R.fieldAddr (b := b_56) (off := 0) (off' := 2) rfl Try.underlying28 rfl Try.sizeOf25 rfl rfl) ?_
      refine WT.q rfl (Wn.no rfl) rfl rfl (fun wq hS => R.fieldAddr (b := b_56) (off := 2) (off' := 2) rfl Try.underlying25 rfl Try.sizeOf23 rfl rfl) ?_
      refine WT.q rfl (Wn.no rfl) rfl rfl (fun wq hS => R.indexA (b := b_56) (off := 2) (off' := 2) (i := 0) rfl rfl rfl (by decide) Try.underlying23 Try.sizeOf22 rfl) ?_
      refine WT.q rfl (Wn.no rfl) rfl rfl (fun wq hS => R.loadE (b := b_56) (off := 2) (i := 0) (v := (vu64 ((entRegs 1 ain regs).getD 0 0))) rfl Try.isAgg22 (hS _ (.head _)) (Sg.t rfl (Sg.t rfl Sg.h)) rfl (get_u64 (lt_len (K := 8) (entRegs_len ha hr) (by decide)))) ?_
      refine WT.q rfl (Wn.no rfl) rfl rfl (fun wq hS => R.move (v := (vi 0)) rfl) ?_
      refine WT.q rfl (Wn.no rfl) rfl rfl (fun wq hS => R.fieldAddr (b := b_1) (off := 0) (off' := 2) rfl Try.underlying28 rfl Try.sizeOf25 rfl rfl) ?_
      refine WT.q rfl (Wn.no rfl) rfl rfl (fun wq hS => R.fieldAddr (b := b_1) (off := 2) (off' := 2) rfl Try.underlying25 rfl Try.sizeOf23 rfl rfl) ?_
      refine WT.q rfl (Wn.no rfl) rfl rfl (fun wq hS => R.indexA (b := b_1) (off := 2) (off' := 2) (i := 0) rfl rfl rfl (by decide) Try.underlying23 Try.sizeOf22 rfl) ?_
      refine WT.q rfl (Wn.no rfl) rfl rfl (fun wq hS => R.loadE (b := b_1) (off := 2) (i := 0) (v := (vu64 (regs.getD 0 0))) rfl Try.isAgg22 (hS _ (.tail _ (.tail _ (.tail _ (.tail _ (.head _)))))) (Sg.t rfl (Sg.t rfl Sg.h)) rfl (get_u64 (lt_len (K := 8) hr (by decide)))) ?_
      refine WT.q rfl (Wn.no rfl) rfl rfl (fun wq hS => R.bin (v := (.bool (decide (((entRegs 1 ain regs).getD 0 0 : UInt64) ≠ (regs.getD 0 0))))) rfl rfl (b64_neq ((entRegs 1 ain regs).getD 0 0) (regs.getD 0 0) (r := decide (((entRegs 1 ain regs).getD 0 0 : UInt64) ≠ (regs.getD 0 0))) rfl)) ?_
      refine WT.q rfl (Wn.no rfl) rfl rfl (fun wq hS => R.move (v := (.bool (decide (((entRegs 1 ain regs).getD 0 0 : UInt64) ≠ (regs.getD 0 0))))) rfl) ?_
      rcases Bool.eq_false_or_eq_true (decide (((entRegs 1 ain regs).getD 0 0 : UInt64) ≠ (regs.getD 0 0))) with c_64 | c_64
      · have p_65 := of_decide_eq_true c_64
        refine WT.q rfl (Wn.yes rfl rfl (congrArg Value.bool c_64)) rfl rfl (fun wq hS => R.move (v := (vi 0)) rfl) ?_
        refine WT.q rfl (Wn.yes rfl rfl (congrArg Value.bool c_64)) rfl rfl (fun wq hS => R.bin (v := (.bool false)) rfl rfl (bi_gtr (r := false) (by decide))) ?_
        refine WT.q rfl (Wn.yes rfl rfl (congrArg Value.bool c_64)) rfl rfl (fun wq hS => R.move (v := (.bool false)) rfl) ?_
        refine WT.q rfl (Wn.yes rfl rfl rfl) rfl rfl (fun wq hS => R.fieldAddr (b := b_1) (off := 0) (off' := 12) rfl Try.underlying28 rfl Try.sizeOf26 rfl rfl) ?_
        refine WT.q rfl (Wn.yes rfl rfl rfl) rfl rfl (fun wq hS => R.load1 (b := b_1) (off := 12) (v := (vi 1)) rfl Try.isAgg26 (hS _ (.tail _ (.tail _ (.tail _ (.tail _ (.head _)))))) (Sg.t rfl (Sg.t rfl (Sg.t rfl (Sg.t rfl (Sg.t rfl Sg.h)))))) ?_
        refine WT.q rfl (Wn.yes rfl rfl rfl) rfl rfl (fun wq hS => R.bin (v := (.bool false)) rfl rfl (bi_neq (r := false) (by decide))) ?_
        refine WT.q rfl (Wn.yes rfl rfl (congrArg Value.bool c_64)) rfl rfl (fun wq hS => R.pickF (v := (.bool false)) rfl rfl) ?_
        refine WT.q rfl (Wn.no rfl) rfl rfl (fun wq hS => R.pickT (v := (.bool false)) (congrArg Value.bool c_64) rfl) ?_
        refine WT.nil ?_
        refine thn_n ?_
        refine WP.condF rfl ?_
        refine WP.skip ?_
        refine inb_n ?_
        refine thn_n ?_
        exact ⟨(), (Ag.upd rfl (Ag.upd rfl (Ag.upd rfl (Ag.upd rfl (Ag.upd rfl (Ag.upd rfl (Ag.upd rfl (Ag.upd rfl (Ag.upd rfl (Ag.upd rfl (Ag.upd rfl (Ag.upd rfl (Ag.upd rfl (Ag.upd rfl (Ag.upd rfl (Ag.upd rfl (Ag.upd rfl (Ag.upd rfl (Ag.upd rfl (Ag.upd rfl (Ag.refl _ _))))))))))))))))))))), ⟨rfl, rfl, rfl, rfl, rfl, rfl, rfl, rfl, rfl, rfl, rfl, rfl, trivial⟩, h_62⟩
      · have p_66 := of_decide_eq_false c_64
        refine WT.skipQ rfl rfl rfl (boolNe (v := .bool false) (congrArg Value.bool c_64) (by decide)) rfl rfl ?_
        refine WT.skipQ rfl rfl rfl (boolNe (v := .bool false) (congrArg Value.bool c_64) (by decide)) rfl rfl ?_
        refine WT.skipQ rfl rfl rfl (boolNe (v := .bool false) (congrArg Value.bool c_64) (by decide)) rfl rfl ?_
        refine WT.skipQ rfl rfl rfl (boolNe (v := undef) rfl (by decide)) rfl rfl ?_
        refine WT.skipQ rfl rfl rfl (boolNe (v := undef) rfl (by decide)) rfl rfl ?_
        refine WT.skipQ rfl rfl rfl (boolNe (v := undef) rfl (by decide)) rfl rfl ?_
        refine WT.skipQ rfl rfl rfl (boolNe (v := .bool false) (congrArg Value.bool c_64) (by decide)) rfl rfl ?_
        refine WT.q rfl (Wn.no rfl) rfl rfl (fun wq hS => R.pickF (v := (.bool false)) (congrArg Value.bool c_64) rfl) ?_
        refine WT.nil ?_
        refine thn_n ?_
        refine WP.condF rfl ?_
        refine WP.skip ?_
        refine inb_n ?_
        refine thn_n ?_
        exact ⟨(), (Ag.upd rfl (Ag.upd rfl (Ag.upd rfl (Ag.upd rfl (Ag.upd rfl (Ag.upd rfl (Ag.upd rfl (Ag.upd rfl (Ag.upd rfl (Ag.upd rfl (Ag.upd rfl (Ag.upd rfl (Ag.upd rfl (Ag.upd rfl (Ag.upd rfl (Ag.upd rfl (Ag.upd rfl (Ag.upd rfl (Ag.upd rfl (Ag.upd rfl (Ag.refl _ _))))))))))))))))))))), ⟨rfl, rfl, rfl, rfl, rfl, rfl, rfl, rfl, rfl, rfl, rfl, rfl, trivial⟩, h_62⟩
    · rintro _ J_67 w_68 h_69
      refine WP.reg ?_
      refine WL.q (Wn.no rfl) rfl rfl (R.move (v := (vi 0)) rfl) ?_
      refine WL.q (Wn.no rfl) rfl rfl (R.bin (v := (vi 1)) rfl rfl (bi_add (c := 1) (by omega) (by omega))) ?_
      refine WL.q (Wn.no rfl) rfl rfl (R.assign (v := (vi 1)) rfl) ?_
      refine WL.nil ?_
      refine thn_n ?_
      refine WI.round ?_
      refine WP.seq ?_
      refine WP.seq ?_
      refine WP.reg ?_
      refine WL.q (Wn.no rfl) rfl rfl (R.move (v := (vi 1)) rfl) ?_
      refine WL.q (Wn.no rfl) rfl rfl (R.bin (v := (.bool true)) rfl rfl (bi_lss (r := true) (by decide))) ?_
      refine WL.nil ?_
      refine thn_n ?_
      refine WP.condT rfl ?_
      refine WP.skip ?_
      refine thn_n ?_
      refine WP.seq ?_
      refine WP.block ?_
      refine WP.seq ?_
      refine WP.drawT (SL w.heap.size [.blk b_56 .nw 28 [(1, [(vi rd)]), (1, [(vu64 ins)]), (8, (entRegs 1 ain regs).map vu64), (1, [(vu64 pc)]), (1, [(.bool true)]), (1, [(vi 0)])], .blk b_47 .nw 28 [(1, [(vi rd)]), (1, [(vu64 ins)]), (8, (entRegs 1 ain regs).map vu64), (1, [(vu64 pc)]), (1, [(.bool true)]), (1, [(vi 0)])], .blk b_7 .nw 40 [(1, [(vi rs)]), (4, ors.map vu64), (1, [(vu64 adr)]), (1, [(.bool wr)]), (1, [(vi ran)])], .blk b_4 .nw 31 [(4, ain.map vu64)], .blk b_1 .nw 28 [(1, [(vi rd)]), (1, [(vu64 ins)]), (8, regs.map vu64), (1, [(vu64 pc)]), (1, [(.bool true)]), (1, [(vi 1)])]]) (.q 0 (.q 1 (.q 2 (.q 3 (.q 4 (.q 5 (.q 6 (.q 7 (.q 8 (.q 9 (.q 10 (.q 11 (.q 12 (.q 13 (.q 14 (.q 15 (.q 16 (.q 17 (.q 18 (.q 19 .nil)))))))))))))))))))) (by kernel_rfl) (by kernel_rfl) rfl (by kernel_rfl) (fun w_70 hc_72 => (SL.cons ((h_69.same hc_72).ok _ (.head _)) (SL.cons ((h_69.same hc_72).ok _ (.tail _ (.head _))) (SL.cons ((h_69.same hc_72).ok _ (.tail _ (.tail _ (.head _)))) (SL.cons ((h_69.same hc_72).ok _ (.tail _ (.tail _ (.tail _ (.head _))))) (SL.cons ((h_69.same hc_72).ok _ (.tail _ (.tail _ (.tail _ (.tail _ (.head _)))))) (SL.nil _ _))))))) (fun w_70 hc_72 => ?_)
      have h_71 := h_69.same hc_72
      refine WT.q rfl (Wn.no rfl) rfl rfl (fun wq hS => R.move (v := (vi 1)) rfl) ?_
      refine WT.q rfl (Wn.no rfl) rfl rfl (fun wq hS => R.fieldAddr (b := b_56) (off := 0) (off' := 2) rfl Try.underlying28 rfl Try.sizeOf25 rfl rfl) ?_
      refine WT.q rfl (Wn.no rfl) rfl rfl (fun wq hS => R.fieldAddr (b := b_56) (off := 2) (off' := 2) rfl Try.underlying25 rfl Try.sizeOf23 rfl rfl) ?_
      refine WT.q rfl (Wn.no rfl) rfl rfl (fun wq hS => R.indexA (b := b_56) (off := 2) (off' := 3) (i := 1) rfl rfl rfl (by decide) Try.underlying23 Try.sizeOf22 rfl) ?_
      refine WT.q rfl (Wn.no rfl) rfl rfl (fun wq hS => R.loadE (b := b_56) (off := 3) (i := 1) (v := (vu64 ((entRegs 1 ain regs).getD 1 0))) rfl Try.isAgg22 (hS _ (.head _)) (Sg.t rfl (Sg.t rfl Sg.h)) rfl (get_u64 (lt_len (K := 8) (entRegs_len ha hr) (by decide)))) ?_
      refine WT.q rfl (Wn.no rfl) rfl rfl (fun wq hS => R.move (v := (vi 1)) rfl) ?_
      refine WT.q rfl (Wn.no rfl) rfl rfl (fun wq hS => R.fieldAddr (b := b_1) (off := 0) (off' := 2) rfl Try.underlying28 rfl Try.sizeOf25 rfl rfl) ?_
      refine WT.q rfl (Wn.no rfl) rfl rfl (fun wq hS => R.fieldAddr (b := b_1) (off := 2) (off' := 2) rfl Try.underlying25 rfl Try.sizeOf23 rfl rfl) ?_
      refine WT.q rfl (Wn.no rfl) rfl rfl (fun wq hS => R.indexA (b := b_1) (off := 2) (off' := 3) (i := 1) rfl rfl rfl (by decide) Try.underlying23 Try.sizeOf22 rfl) ?_
      refine WT.q rfl (Wn.no rfl) rfl rfl (fun wq hS => R.loadE (b := b_1) (off := 3) (i := 1) (v := (vu64 (regs.getD 1 0))) rfl Try.isAgg22 (hS _ (.tail _ (.tail _ (.tail _ (.tail _ (.head _)))))) (Sg.t rfl (Sg.t rfl Sg.h)) rfl (get_u64 (lt_len (K := 8) hr (by decide)))) ?_
      refine WT.q rfl (Wn.no rfl) rfl rfl (fun wq hS => R.bin (v := (.bool (decide (((entRegs 1 ain regs).getD 1 0 : UInt64) ≠ (regs.getD 1 0))))) rfl rfl (b64_neq ((entRegs 1 ain regs).getD 1 0) (regs.getD 1 0) (r := decide (((entRegs 1 ain regs).getD 1 0 : UInt64) ≠ (regs.getD 1 0))) rfl)) ?_
      refine WT.q rfl (Wn.no rfl) rfl rfl (fun wq hS => R.move (v := (.bool (decide (((entRegs 1 ain regs).getD 1 0 : UInt64) ≠ (regs.getD 1 0))))) rfl) ?_
      rcases Bool.eq_false_or_eq_true (decide (((entRegs 1 ain regs).getD 1 0 : UInt64) ≠ (regs.getD 1 0))) with c_73 | c_73
      · have p_74 := of_decide_eq_true c_73
        refine WT.q rfl (Wn.yes rfl rfl (congrArg Value.bool c_73)) rfl rfl (fun wq hS => R.move (v := (vi 1)) rfl) ?_
        refine WT.q rfl (Wn.yes rfl rfl (congrArg Value.bool c_73)) rfl rfl (fun wq hS => R.bin (v := (.bool false)) rfl rfl (bi_gtr (r := false) (by decide))) ?_
        refine WT.q rfl (Wn.yes rfl rfl (congrArg Value.bool c_73)) rfl rfl (fun wq hS => R.move (v := (.bool false)) rfl) ?_
        refine WT.q rfl (Wn.yes rfl rfl rfl) rfl rfl (fun wq hS => R.fieldAddr (b := b_1) (off := 0) (off' := 12) rfl Try.underlying28 rfl Try.sizeOf26 rfl rfl) ?_
        refine WT.q rfl (Wn.yes rfl rfl rfl) rfl rfl (fun wq hS => R.load1 (b := b_1) (off := 12) (v := (vi 1)) rfl Try.isAgg26 (hS _ (.tail _ (.tail _ (.tail _ (.tail _ (.head _)))))) (Sg.t rfl (Sg.t rfl (Sg.t rfl (Sg.t rfl (Sg.t rfl Sg.h)))))) ?_
        refine WT.q rfl (Wn.yes rfl rfl rfl) rfl rfl (fun wq hS => R.bin (v := (.bool false)) rfl rfl (bi_neq (r := false) (by decide))) ?_
        refine WT.q rfl (Wn.yes rfl rfl (congrArg Value.bool c_73)) rfl rfl (fun wq hS => R.pickF (v := (.bool false)) rfl rfl) ?_
        refine WT.q rfl (Wn.no rfl) rfl rfl (fun wq hS => R.pickT (v := (.bool false)) (congrArg Value.bool c_73) rfl) ?_
        refine WT.nil ?_
        refine thn_n ?_
        refine WP.condF rfl ?_
        refine WP.skip ?_
        refine inb_n ?_
        refine thn_n ?_
        refine WP.reg ?_
        refine WL.q (Wn.no rfl) rfl rfl (R.move (v := (vi 1)) rfl) ?_
        refine WL.q (Wn.no rfl) rfl rfl (R.bin (v := (vi 2)) rfl rfl (bi_add (c := 2) (by omega) (by omega))) ?_
        refine WL.q (Wn.no rfl) rfl rfl (R.assign (v := (vi 2)) rfl) ?_
        refine WL.nil ?_
        refine thn_n ?_
        refine WI.round ?_
        refine WP.seq ?_
        refine WP.seq ?_
        refine WP.reg ?_
        refine WL.q (Wn.no rfl) rfl rfl (R.move (v := (vi 2)) rfl) ?_
        refine WL.q (Wn.no rfl) rfl rfl (R.bin (v := (.bool true)) rfl rfl (bi_lss (r := true) (by decide))) ?_
        refine WL.nil ?_
        refine thn_n ?_
        refine WP.condT rfl ?_
        refine WP.skip ?_
        refine thn_n ?_
        refine WP.seq ?_
        refine WP.block ?_
        refine WP.seq ?_
        refine WP.drawT (SL w.heap.size [.blk b_56 .nw 28 [(1, [(vi rd)]), (1, [(vu64 ins)]), (8, (entRegs 1 ain regs).map vu64), (1, [(vu64 pc)]), (1, [(.bool true)]), (1, [(vi 0)])], .blk b_47 .nw 28 [(1, [(vi rd)]), (1, [(vu64 ins)]), (8, (entRegs 1 ain regs).map vu64), (1, [(vu64 pc)]), (1, [(.bool true)]), (1, [(vi 0)])], .blk b_7 .nw 40 [(1, [(vi rs)]), (4, ors.map vu64), (1, [(vu64 adr)]), (1, [(.bool wr)]), (1, [(vi ran)])], .blk b_4 .nw 31 [(4, ain.map vu64)], .blk b_1 .nw 28 [(1, [(vi rd)]), (1, [(vu64 ins)]), (8, regs.map vu64), (1, [(vu64 pc)]), (1, [(.bool true)]), (1, [(vi 1)])]]) (.q 0 (.q 1 (.q 2 (.q 3 (.q 4 (.q 5 (.q 6 (.q 7 (.q 8 (.q 9 (.q 10 (.q 11 (.q 12 (.q 13 (.q 14 (.q 15 (.q 16 (.q 17 (.q 18 (.q 19 .nil)))))))))))))))))))) (by kernel_rfl) (by kernel_rfl) rfl (by kernel_rfl) (fun w_75 hc_77 => (SL.cons ((h_71.same hc_77).ok _ (.head _)) (SL.cons ((h_71.same hc_77).ok _ (.tail _ (.head _))) (SL.cons ((h_71.same hc_77).ok _ (.tail _ (.tail _ (.head _)))) (SL.cons ((h_71.same hc_77).ok _ (.tail _ (.tail _ (.tail _ (.head _))))) (SL.cons ((h_71.same hc_77).ok _ (.tail _ (.tail _ (.tail _ (.tail _ (.head _)))))) (SL.nil _ _))))))) (fun w_75 hc_77 => ?_)
        have h_76 := h_71.same hc_77
        refine WT.q rfl (Wn.no rfl) rfl rfl (fun wq hS => R.move (v := (vi 2)) rfl) ?_
        refine WT.q rfl (Wn.no rfl) rfl rfl (fun wq hS => R.fieldAddr (b := b_56) (off := 0) (off' := 2) rfl Try.underlying28 rfl Try.sizeOf25 rfl rfl) ?_
        refine WT.q rfl (Wn.no rfl) rfl rfl (fun wq hS => R.fieldAddr (b := b_56) (off := 2) (off' := 2) rfl Try.underlying25 rfl Try.sizeOf23 rfl rfl) ?_
        refine WT.q rfl (Wn.no rfl) rfl rfl (fun wq hS => R.indexA (b := b_56) (off := 2) (off' := 4) (i := 2) rfl rfl rfl (by decide) Try.underlying23 Try.sizeOf22 rfl) ?_
        refine WT.q rfl (Wn.no rfl) rfl rfl (fun wq hS => R.loadE (b := b_56) (off := 4) (i := 2) (v := (vu64 ((entRegs 1 ain regs).getD 2 0))) rfl Try.isAgg22 (hS _ (.head _)) (Sg.t rfl (Sg.t rfl Sg.h)) rfl (get_u64 (lt_len (K := 8) (entRegs_len ha hr) (by decide)))) ?_
        refine WT.q rfl (Wn.no rfl) rfl rfl (fun wq hS => R.move (v := (vi 2)) rfl) ?_
        refine WT.q rfl (Wn.no rfl) rfl rfl (fun wq hS => R.fieldAddr (b := b_1) (off := 0) (off' := 2) rfl Try.underlying28 rfl Try.sizeOf25 rfl rfl) ?_
        refine WT.q rfl (Wn.no rfl) rfl rfl (fun wq hS => R.fieldAddr (b := b_1) (off := 2) (off' := 2) rfl Try.underlying25 rfl Try.sizeOf23 rfl rfl) ?_
        refine WT.q rfl (Wn.no rfl) rfl rfl (fun wq hS => R.indexA (b := b_1) (off := 2) (off' := 4) (i := 2) rfl rfl rfl (by decide) Try.underlying23 Try.sizeOf22 rfl) ?_
        refine WT.q rfl (Wn.no rfl) rfl rfl (fun wq hS => R.loadE (b := b_1) (off := 4) (i := 2) (v := (vu64 (regs.getD 2 0))) rfl Try.isAgg22 (hS _ (.tail _ (.tail _ (.tail _ (.tail _ (.head _)))))) (Sg.t rfl (Sg.t rfl Sg.h)) rfl (get_u64 (lt_len (K := 8) hr (by decide)))) ?_
        refine WT.q rfl (Wn.no rfl) rfl rfl (fun wq hS => R.bin (v := (.bool (decide (((entRegs 1 ain regs).getD 2 0 : UInt64) ≠ (regs.getD 2 0))))) rfl rfl (b64_neq ((entRegs 1 ain regs).getD 2 0) (regs.getD 2 0) (r := decide (((entRegs 1 ain regs).getD 2 0 : UInt64) ≠ (regs.getD 2 0))) rfl)) ?_
        refine WT.q rfl (Wn.no rfl) rfl rfl (fun wq hS => R.move (v := (.bool (decide (((entRegs 1 ain regs).getD 2 0 : UInt64) ≠ (regs.getD 2 0))))) rfl) ?_
        rcases Bool.eq_false_or_eq_true (decide (((entRegs 1 ain regs).getD 2 0 : UInt64) ≠ (regs.getD 2 0))) with c_78 | c_78
        · have p_79 := of_decide_eq_true c_78
          refine WT.q rfl (Wn.yes rfl rfl (congrArg Value.bool c_78)) rfl rfl (fun wq hS => R.move (v := (vi 2)) rfl) ?_
          refine WT.q rfl (Wn.yes rfl rfl (congrArg Value.bool c_78)) rfl rfl (fun wq hS => R.bin (v := (.bool false)) rfl rfl (bi_gtr (r := false) (by decide))) ?_
          refine WT.q rfl (Wn.yes rfl rfl (congrArg Value.bool c_78)) rfl rfl (fun wq hS => R.move (v := (.bool false)) rfl) ?_
          refine WT.q rfl (Wn.yes rfl rfl rfl) rfl rfl (fun wq hS => R.fieldAddr (b := b_1) (off := 0) (off' := 12) rfl Try.underlying28 rfl Try.sizeOf26 rfl rfl) ?_
          refine WT.q rfl (Wn.yes rfl rfl rfl) rfl rfl (fun wq hS => R.load1 (b := b_1) (off := 12) (v := (vi 1)) rfl Try.isAgg26 (hS _ (.tail _ (.tail _ (.tail _ (.tail _ (.head _)))))) (Sg.t rfl (Sg.t rfl (Sg.t rfl (Sg.t rfl (Sg.t rfl Sg.h)))))) ?_
          refine WT.q rfl (Wn.yes rfl rfl rfl) rfl rfl (fun wq hS => R.bin (v := (.bool false)) rfl rfl (bi_neq (r := false) (by decide))) ?_
          refine WT.q rfl (Wn.yes rfl rfl (congrArg Value.bool c_78)) rfl rfl (fun wq hS => R.pickF (v := (.bool false)) rfl rfl) ?_
          refine WT.q rfl (Wn.no rfl) rfl rfl (fun wq hS => R.pickT (v := (.bool false)) (congrArg Value.bool c_78) rfl) ?_
          refine WT.nil ?_
          refine thn_n ?_
          refine WP.condF rfl ?_
          refine WP.skip ?_
          refine inb_n ?_
          refine thn_n ?_
          refine WP.reg ?_
          refine WL.q (Wn.no rfl) rfl rfl (R.move (v := (vi 2)) rfl) ?_
          refine WL.q (Wn.no rfl) rfl rfl (R.bin (v := (vi 3)) rfl rfl (bi_add (c := 3) (by omega) (by omega))) ?_
          refine WL.q (Wn.no rfl) rfl rfl (R.assign (v := (vi 3)) rfl) ?_
          refine WL.nil ?_
          refine thn_n ?_
          refine WI.round ?_
          refine WP.seq ?_
          refine WP.seq ?_
          refine WP.reg ?_
          refine WL.q (Wn.no rfl) rfl rfl (R.move (v := (vi 3)) rfl) ?_
          refine WL.q (Wn.no rfl) rfl rfl (R.bin (v := (.bool true)) rfl rfl (bi_lss (r := true) (by decide))) ?_
          refine WL.nil ?_
          refine thn_n ?_
          refine WP.condT rfl ?_
          refine WP.skip ?_
          refine thn_n ?_
          refine WP.seq ?_
          refine WP.block ?_
          refine WP.seq ?_
          refine WP.drawT (SL w.heap.size [.blk b_56 .nw 28 [(1, [(vi rd)]), (1, [(vu64 ins)]), (8, (entRegs 1 ain regs).map vu64), (1, [(vu64 pc)]), (1, [(.bool true)]), (1, [(vi 0)])], .blk b_47 .nw 28 [(1, [(vi rd)]), (1, [(vu64 ins)]), (8, (entRegs 1 ain regs).map vu64), (1, [(vu64 pc)]), (1, [(.bool true)]), (1, [(vi 0)])], .blk b_7 .nw 40 [(1, [(vi rs)]), (4, ors.map vu64), (1, [(vu64 adr)]), (1, [(.bool wr)]), (1, [(vi ran)])], .blk b_4 .nw 31 [(4, ain.map vu64)], .blk b_1 .nw 28 [(1, [(vi rd)]), (1, [(vu64 ins)]), (8, regs.map vu64), (1, [(vu64 pc)]), (1, [(.bool true)]), (1, [(vi 1)])]]) (.q 0 (.q 1 (.q 2 (.q 3 (.q 4 (.q 5 (.q 6 (.q 7 (.q 8 (.q 9 (.q 10 (.q 11 (.q 12 (.q 13 (.q 14 (.q 15 (.q 16 (.q 17 (.q 18 (.q 19 .nil)))))))))))))))))))) (by kernel_rfl) (by kernel_rfl) rfl (by kernel_rfl) (fun w_80 hc_82 => (SL.cons ((h_76.same hc_82).ok _ (.head _)) (SL.cons ((h_76.same hc_82).ok _ (.tail _ (.head _))) (SL.cons ((h_76.same hc_82).ok _ (.tail _ (.tail _ (.head _)))) (SL.cons ((h_76.same hc_82).ok _ (.tail _ (.tail _ (.tail _ (.head _))))) (SL.cons ((h_76.same hc_82).ok _ (.tail _ (.tail _ (.tail _ (.tail _ (.head _)))))) (SL.nil _ _))))))) (fun w_80 hc_82 => ?_)
          have h_81 := h_76.same hc_82
          refine WT.q rfl (Wn.no rfl) rfl rfl (fun wq hS => R.move (v := (vi 3)) rfl) ?_
          refine WT.q rfl (Wn.no rfl) rfl rfl (fun wq hS => R.fieldAddr (b := b_56) (off := 0) (off' := 2) rfl Try.underlying28 rfl Try.sizeOf25 rfl rfl) ?_
          refine WT.q rfl (Wn.no rfl) rfl rfl (fun wq hS => R.fieldAddr (b := b_56) (off := 2) (off' := 2) rfl Try.underlying25 rfl Try.sizeOf23 rfl rfl) ?_
          refine WT.q rfl (Wn.no rfl) rfl rfl (fun wq hS => R.indexA (b := b_56) (off := 2) (off' := 5) (i := 3) rfl rfl rfl (by decide) Try.underlying23 Try.sizeOf22 rfl) ?_
          refine WT.q rfl (Wn.no rfl) rfl rfl (fun wq hS => R.loadE (b := b_56) (off := 5) (i := 3) (v := (vu64 ((entRegs 1 ain regs).getD 3 0))) rfl Try.isAgg22 (hS _ (.head _)) (Sg.t rfl (Sg.t rfl Sg.h)) rfl (get_u64 (lt_len (K := 8) (entRegs_len ha hr) (by decide)))) ?_
          refine WT.q rfl (Wn.no rfl) rfl rfl (fun wq hS => R.move (v := (vi 3)) rfl) ?_
          refine WT.q rfl (Wn.no rfl) rfl rfl (fun wq hS => R.fieldAddr (b := b_1) (off := 0) (off' := 2) rfl Try.underlying28 rfl Try.sizeOf25 rfl rfl) ?_
          refine WT.q rfl (Wn.no rfl) rfl rfl (fun wq hS => R.fieldAddr (b := b_1) (off := 2) (off' := 2) rfl Try.underlying25 rfl Try.sizeOf23 rfl rfl) ?_
          refine WT.q rfl (Wn.no rfl) rfl rfl (fun wq hS => R.indexA (b := b_1) (off := 2) (off' := 5) (i := 3) rfl rfl rfl (by decide) Try.underlying23 Try.sizeOf22 rfl) ?_
          refine WT.q rfl (Wn.no rfl) rfl rfl (fun wq hS => R.loadE (b := b_1) (off := 5) (i := 3) (v := (vu64 (regs.getD 3 0))) rfl Try.isAgg22 (hS _ (.tail _ (.tail _ (.tail _ (.tail _ (.head _)))))) (Sg.t rfl (Sg.t rfl Sg.h)) rfl (get_u64 (lt_len (K := 8) hr (by decide)))) ?_
          refine WT.q rfl (Wn.no rfl) rfl rfl (fun wq hS => R.bin (v := (.bool (decide (((entRegs 1 ain regs).getD 3 0 : UInt64) ≠ (regs.getD 3 0))))) rfl rfl (b64_neq ((entRegs 1 ain regs).getD 3 0) (regs.getD 3 0) (r := decide (((entRegs 1 ain regs).getD 3 0 : UInt64) ≠ (regs.getD 3 0))) rfl)) ?_
          refine WT.q rfl (Wn.no rfl) rfl rfl (fun wq hS => R.move (v := (.bool (decide (((entRegs 1 ain regs).getD 3 0 : UInt64) ≠ (regs.getD 3 0))))) rfl) ?_
          rcases Bool.eq_false_or_eq_true (decide (((entRegs 1 ain regs).getD 3 0 : UInt64) ≠ (regs.getD 3 0))) with c_83 | c_83
          · have p_84 := of_decide_eq_true c_83
            refine WT.q rfl (Wn.yes rfl rfl (congrArg Value.bool c_83)) rfl rfl (fun wq hS => R.move (v := (vi 3)) rfl) ?_
            refine WT.q rfl (Wn.yes rfl rfl (congrArg Value.bool c_83)) rfl rfl (fun wq hS => R.bin (v := (.bool false)) rfl rfl (bi_gtr (r := false) (by decide))) ?_
            refine WT.q rfl (Wn.yes rfl rfl (congrArg Value.bool c_83)) rfl rfl (fun wq hS => R.move (v := (.bool false)) rfl) ?_
            refine WT.q rfl (Wn.yes rfl rfl rfl) rfl rfl (fun wq hS => R.fieldAddr (b := b_1) (off := 0) (off' := 12) rfl Try.underlying28 rfl Try.sizeOf26 rfl rfl) ?_
            refine WT.q rfl (Wn.yes rfl rfl rfl) rfl rfl (fun wq hS => R.load1 (b := b_1) (off := 12) (v := (vi 1)) rfl Try.isAgg26 (hS _ (.tail _ (.tail _ (.tail _ (.tail _ (.head _)))))) (Sg.t rfl (Sg.t rfl (Sg.t rfl (Sg.t rfl (Sg.t rfl Sg.h)))))) ?_
            refine WT.q rfl (Wn.yes rfl rfl rfl) rfl rfl (fun wq hS => R.bin (v := (.bool false)) rfl rfl (bi_neq (r := false) (by decide))) ?_
            refine WT.q rfl (Wn.yes rfl rfl (congrArg Value.bool c_83)) rfl rfl (fun wq hS => R.pickF (v := (.bool false)) rfl rfl) ?_
            refine WT.q rfl (Wn.no rfl) rfl rfl (fun wq hS => R.pickT (v := (.bool false)) (congrArg Value.bool c_83) rfl) ?_
            refine WT.nil ?_
            refine thn_n ?_
            refine WP.condF rfl ?_
            refine WP.skip ?_
            refine inb_n ?_
            refine thn_n ?_
            refine WP.reg ?_
            refine WL.q (Wn.no rfl) rfl rfl (R.move (v := (vi 3)) rfl) ?_
            refine WL.q (Wn.no rfl) rfl rfl (R.bin (v := (vi 4)) rfl rfl (bi_add (c := 4) (by omega) (by omega))) ?_
            refine WL.q (Wn.no rfl) rfl rfl (R.assign (v := (vi 4)) rfl) ?_
            refine WL.nil ?_
            refine thn_n ?_
            refine WI.round ?_
            refine WP.seq ?_
            refine WP.seq ?_
            refine WP.reg ?_
            refine WL.q (Wn.no rfl) rfl rfl (R.move (v := (vi 4)) rfl) ?_
            refine WL.q (Wn.no rfl) rfl rfl (R.bin (v := (.bool true)) rfl rfl (bi_lss (r := true) (by decide))) ?_
            refine WL.nil ?_
            refine thn_n ?_
            refine WP.condT rfl ?_
            refine WP.skip ?_
            refine thn_n ?_
            refine WP.seq ?_
            refine WP.block ?_
            refine WP.seq ?_
            refine WP.drawT (SL w.heap.size [.blk b_56 .nw 28 [(1, [(vi rd)]), (1, [(vu64 ins)]), (8, (entRegs 1 ain regs).map vu64), (1, [(vu64 pc)]), (1, [(.bool true)]), (1, [(vi 0)])], .blk b_47 .nw 28 [(1, [(vi rd)]), (1, [(vu64 ins)]), (8, (entRegs 1 ain regs).map vu64), (1, [(vu64 pc)]), (1, [(.bool true)]), (1, [(vi 0)])], .blk b_7 .nw 40 [(1, [(vi rs)]), (4, ors.map vu64), (1, [(vu64 adr)]), (1, [(.bool wr)]), (1, [(vi ran)])], .blk b_4 .nw 31 [(4, ain.map vu64)], .blk b_1 .nw 28 [(1, [(vi rd)]), (1, [(vu64 ins)]), (8, regs.map vu64), (1, [(vu64 pc)]), (1, [(.bool true)]), (1, [(vi 1)])]]) (.q 0 (.q 1 (.q 2 (.q 3 (.q 4 (.q 5 (.q 6 (.q 7 (.q 8 (.q 9 (.q 10 (.q 11 (.q 12 (.q 13 (.q 14 (.q 15 (.q 16 (.q 17 (.q 18 (.q 19 .nil)))))))))))))))))))) (by kernel_rfl) (by kernel_rfl) rfl (by kernel_rfl) (fun w_85 hc_87 => (SL.cons ((h_81.same hc_87).ok _ (.head _)) (SL.cons ((h_81.same hc_87).ok _ (.tail _ (.head _))) (SL.cons ((h_81.same hc_87).ok _ (.tail _ (.tail _ (.head _)))) (SL.cons ((h_81.same hc_87).ok _ (.tail _ (.tail _ (.tail _ (.head _))))) (SL.cons ((h_81.same hc_87).ok _ (.tail _ (.tail _ (.tail _ (.tail _ (.head _)))))) (SL.nil _ _))))))) (fun w_85 hc_87 => ?_)
            have h_86 := h_81.same hc_87
            refine WT.q rfl (Wn.no rfl) rfl rfl (fun wq hS => R.move (v := (vi 4)) rfl) ?_
            refine WT.q rfl (Wn.no rfl) rfl rfl (fun wq hS => R.fieldAddr (b := b_56) (off := 0) (off' := 2) rfl Try.underlying28 rfl Try.sizeOf25 rfl rfl) ?_
            refine WT.q rfl (Wn.no rfl) rfl rfl (fun wq hS => R.fieldAddr (b := b_56) (off := 2) (off' := 2) rfl Try.underlying25 rfl Try.sizeOf23 rfl rfl) ?_
            refine WT.q rfl (Wn.no rfl) rfl rfl (fun wq hS => R.indexA (b := b_56) (off := 2) (off' := 6) (i := 4) rfl rfl rfl (by decide) Try.underlying23 Try.sizeOf22 rfl) ?_
            refine WT.q rfl (Wn.no rfl) rfl rfl (fun wq hS => R.loadE (b := b_56) (off := 6) (i := 4) (v := (vu64 ((entRegs 1 ain regs).getD 4 0))) rfl Try.isAgg22 (hS _ (.head _)) (Sg.t rfl (Sg.t rfl Sg.h)) rfl (get_u64 (lt_len (K := 8) (entRegs_len ha hr) (by decide)))) ?_
            refine WT.q rfl (Wn.no rfl) rfl rfl (fun wq hS => R.move (v := (vi 4)) rfl) ?_
            refine WT.q rfl (Wn.no rfl) rfl rfl (fun wq hS => R.fieldAddr (b := b_1) (off := 0) (off' := 2) rfl Try.underlying28 rfl Try.sizeOf25 rfl rfl) ?_
            refine WT.q rfl (Wn.no rfl) rfl rfl (fun wq hS => R.fieldAddr (b := b_1) (off := 2) (off' := 2) rfl Try.underlying25 rfl Try.sizeOf23 rfl rfl) ?_
            refine WT.q rfl (Wn.no rfl) rfl rfl (fun wq hS => R.indexA (b := b_1) (off := 2) (off' := 6) (i := 4) rfl rfl rfl (by decide) Try.underlying23 Try.sizeOf22 rfl) ?_
            refine WT.q rfl (Wn.no rfl) rfl rfl (fun wq hS => R.loadE (b := b_1) (off := 6) (i := 4) (v := (vu64 (regs.getD 4 0))) rfl Try.isAgg22 (hS _ (.tail _ (.tail _ (.tail _ (.tail _ (.head _)))))) (Sg.t rfl (Sg.t rfl Sg.h)) rfl (get_u64 (lt_len (K := 8) hr (by decide)))) ?_
            refine WT.q rfl (Wn.no rfl) rfl rfl (fun wq hS => R.bin (v := (.bool (decide (((entRegs 1 ain regs).getD 4 0 : UInt64) ≠ (regs.getD 4 0))))) rfl rfl (b64_neq ((entRegs 1 ain regs).getD 4 0) (regs.getD 4 0) (r := decide (((entRegs 1 ain regs).getD 4 0 : UInt64) ≠ (regs.getD 4 0))) rfl)) ?_
            refine WT.q rfl (Wn.no rfl) rfl rfl (fun wq hS => R.move (v := (.bool (decide (((entRegs 1 ain regs).getD 4 0 : UInt64) ≠ (regs.getD 4 0))))) rfl) ?_
            refine WT.skipQ rfl rfl rfl (boolNe (v := .bool false) (congrArg Value.bool (decide_eq_false (not_not_intro (ent_high ha hr).1))) (by decide)) rfl rfl ?_
            refine WT.skipQ rfl rfl rfl (boolNe (v := .bool false) (congrArg Value.bool (decide_eq_false (not_not_intro (ent_high ha hr).1))) (by decide)) rfl rfl ?_
            refine WT.skipQ rfl rfl rfl (boolNe (v := .bool false) (congrArg Value.bool (decide_eq_false (not_not_intro (ent_high ha hr).1))) (by decide)) rfl rfl ?_
            refine WT.skipQ rfl rfl rfl (boolNe (v := undef) rfl (by decide)) rfl rfl ?_
            refine WT.skipQ rfl rfl rfl (boolNe (v := undef) rfl (by decide)) rfl rfl ?_
            refine WT.skipQ rfl rfl rfl (boolNe (v := undef) rfl (by decide)) rfl rfl ?_
            refine WT.skipQ rfl rfl rfl (boolNe (v := .bool false) (congrArg Value.bool (decide_eq_false (not_not_intro (ent_high ha hr).1))) (by decide)) rfl rfl ?_
            refine WT.q rfl (Wn.no rfl) rfl rfl (fun wq hS => R.pickF (v := (.bool false)) (congrArg Value.bool (decide_eq_false (not_not_intro (ent_high ha hr).1))) rfl) ?_
            refine WT.nil ?_
            refine thn_n ?_
            refine WP.condF rfl ?_
            refine WP.skip ?_
            refine inb_n ?_
            refine thn_n ?_
            refine WP.reg ?_
            refine WL.q (Wn.no rfl) rfl rfl (R.move (v := (vi 4)) rfl) ?_
            refine WL.q (Wn.no rfl) rfl rfl (R.bin (v := (vi 5)) rfl rfl (bi_add (c := 5) (by omega) (by omega))) ?_
            refine WL.q (Wn.no rfl) rfl rfl (R.assign (v := (vi 5)) rfl) ?_
            refine WL.nil ?_
            refine thn_n ?_
            refine WI.round ?_
            refine WP.seq ?_
            refine WP.seq ?_
            refine WP.reg ?_
            refine WL.q (Wn.no rfl) rfl rfl (R.move (v := (vi 5)) rfl) ?_
            refine WL.q (Wn.no rfl) rfl rfl (R.bin (v := (.bool true)) rfl rfl (bi_lss (r := true) (by decide))) ?_
            refine WL.nil ?_
            refine thn_n ?_
            refine WP.condT rfl ?_
            refine WP.skip ?_
            refine thn_n ?_
            refine WP.seq ?_
            refine WP.block ?_
            refine WP.seq ?_
            refine WP.drawT (SL w.heap.size [.blk b_56 .nw 28 [(1, [(vi rd)]), (1, [(vu64 ins)]), (8, (entRegs 1 ain regs).map vu64), (1, [(vu64 pc)]), (1, [(.bool true)]), (1, [(vi 0)])], .blk b_47 .nw 28 [(1, [(vi rd)]), (1, [(vu64 ins)]), (8, (entRegs 1 ain regs).map vu64), (1, [(vu64 pc)]), (1, [(.bool true)]), (1, [(vi 0)])], .blk b_7 .nw 40 [(1, [(vi rs)]), (4, ors.map vu64), (1, [(vu64 adr)]), (1, [(.bool wr)]), (1, [(vi ran)])], .blk b_4 .nw 31 [(4, ain.map vu64)], .blk b_1 .nw 28 [(1, [(vi rd)]), (1, [(vu64 ins)]), (8, regs.map vu64), (1, [(vu64 pc)]), (1, [(.bool true)]), (1, [(vi 1)])]]) (.q 0 (.q 1 (.q 2 (.q 3 (.q 4 (.q 5 (.q 6 (.q 7 (.q 8 (.q 9 (.q 10 (.q 11 (.q 12 (.q 13 (.q 14 (.q 15 (.q 16 (.q 17 (.q 18 (.q 19 .nil)))))))))))))))))))) (by kernel_rfl) (by kernel_rfl) rfl (by kernel_rfl) (fun w_88 hc_90 => (SL.cons ((h_86.same hc_90).ok _ (.head _)) (SL.cons ((h_86.same hc_90).ok _ (.tail _ (.head _))) (SL.cons ((h_86.same hc_90).ok _ (.tail _ (.tail _ (.head _)))) (SL.cons ((h_86.same hc_90).ok _ (.tail _ (.tail _ (.tail _ (.head _))))) (SL.cons ((h_86.same hc_90).ok _ (.tail _ (.tail _ (.tail _ (.tail _ (.head _)))))) (SL.nil _ _))))))) (fun w_88 hc_90 => ?_)
            have h_89 := h_86.same hc_90
            refine WT.q rfl (Wn.no rfl) rfl rfl (fun wq hS => R.move (v := (vi 5)) rfl) ?_
            refine WT.q rfl (Wn.no rfl) rfl rfl (fun wq hS => R.fieldAddr (b := b_56) (off := 0) (off' := 2) rfl Try.underlying28 rfl Try.sizeOf25 rfl rfl) ?_
            refine WT.q rfl (Wn.no rfl) rfl rfl (fun wq hS => R.fieldAddr (b := b_56) (off := 2) (off' := 2) rfl Try.underlying25 rfl Try.sizeOf23 rfl rfl) ?_
            refine WT.q rfl (Wn.no rfl) rfl rfl (fun wq hS => R.indexA (b := b_56) (off := 2) (off' := 7) (i := 5) rfl rfl rfl (by decide) Try.underlying23 Try.sizeOf22 rfl) ?_
            refine WT.q rfl (Wn.no rfl) rfl rfl (fun wq hS => R.loadE (b := b_56) (off := 7) (i := 5) (v := (vu64 ((entRegs 1 ain regs).getD 5 0))) rfl Try.isAgg22 (hS _ (.head _)) (Sg.t rfl (Sg.t rfl Sg.h)) rfl (get_u64 (lt_len (K := 8) (entRegs_len ha hr) (by decide)))) ?_
            refine WT.q rfl (Wn.no rfl) rfl rfl (fun wq hS => R.move (v := (vi 5)) rfl) ?_
            refine WT.q rfl (Wn.no rfl) rfl rfl (fun wq hS => R.fieldAddr (b := b_1) (off := 0) (off' := 2) rfl Try.underlying28 rfl Try.sizeOf25 rfl rfl) ?_
            refine WT.q rfl (Wn.no rfl) rfl rfl (fun wq hS => R.fieldAddr (b := b_1) (off := 2) (off' := 2) rfl Try.underlying25 rfl Try.sizeOf23 rfl rfl) ?_
            refine WT.q rfl (Wn.no rfl) rfl rfl (fun wq hS => R.indexA (b := b_1) (off := 2) (off' := 7) (i := 5) rfl rfl rfl (by decide) Try.underlying23 Try.sizeOf22 rfl) ?_
            refine WT.q rfl (Wn.no rfl) rfl rfl (fun wq hS => R.loadE (b := b_1) (off := 7) (i := 5) (v := (vu64 (regs.getD 5 0))) rfl Try.isAgg22 (hS _ (.tail _ (.tail _ (.tail _ (.tail _ (.head _)))))) (Sg.t rfl (Sg.t rfl Sg.h)) rfl (get_u64 (lt_len (K := 8) hr (by decide)))) ?_
            refine WT.q rfl (Wn.no rfl) rfl rfl (fun wq hS => R.bin (v := (.bool (decide (((entRegs 1 ain regs).getD 5 0 : UInt64) ≠ (regs.getD 5 0))))) rfl rfl (b64_neq ((entRegs 1 ain regs).getD 5 0) (regs.getD 5 0) (r := decide (((entRegs 1 ain regs).getD 5 0 : UInt64) ≠ (regs.getD 5 0))) rfl)) ?_
            refine WT.q rfl (Wn.no rfl) rfl rfl (fun wq hS => R.move (v := (.bool (decide (((entRegs 1 ain regs).getD 5 0 : UInt64) ≠ (regs.getD 5 0))))) rfl) ?_
            refine WT.skipQ rfl rfl rfl (boolNe (v := .bool false) (congrArg Value.bool (decide_eq_false (not_not_intro (ent_high ha hr).2.1))) (by decide)) rfl rfl ?_
            refine WT.skipQ rfl rfl rfl (boolNe (v := .bool false) (congrArg Value.bool (decide_eq_false (not_not_intro (ent_high ha hr).2.1))) (by decide)) rfl rfl ?_
            refine WT.skipQ rfl rfl rfl (boolNe (v := .bool false) (congrArg Value.bool (decide_eq_false (not_not_intro (ent_high ha hr).2.1))) (by decide)) rfl rfl ?_
            refine WT.skipQ rfl rfl rfl (boolNe (v := undef) rfl (by decide)) rfl rfl ?_
            refine WT.skipQ rfl rfl rfl (boolNe (v := undef) rfl (by decide)) rfl rfl ?_
            refine WT.skipQ rfl rfl rfl (boolNe (v := undef) rfl (by decide)) rfl rfl ?_
            refine WT.skipQ rfl rfl rfl (boolNe (v := .bool false) (congrArg Value.bool (decide_eq_false (not_not_intro (ent_high ha hr).2.1))) (by decide)) rfl rfl ?_
            refine WT.q rfl (Wn.no rfl) rfl rfl (fun wq hS => R.pickF (v := (.bool false)) (congrArg Value.bool (decide_eq_false (not_not_intro (ent_high ha hr).2.1))) rfl) ?_
            refine WT.nil ?_
            refine thn_n ?_
            refine WP.condF rfl ?_
            refine WP.skip ?_
            refine inb_n ?_
            refine thn_n ?_
            refine WP.reg ?_
            refine WL.q (Wn.no rfl) rfl rfl (R.move (v := (vi 5)) rfl) ?_
            refine WL.q (Wn.no rfl) rfl rfl (R.bin (v := (vi 6)) rfl rfl (bi_add (c := 6) (by omega) (by omega))) ?_
            refine WL.q (Wn.no rfl) rfl rfl (R.assign (v := (vi 6)) rfl) ?_
            refine WL.nil ?_
            refine thn_n ?_
            refine WI.round ?_
            refine WP.seq ?_
            refine WP.seq ?_
            refine WP.reg ?_
            refine WL.q (Wn.no rfl) rfl rfl (R.move (v := (vi 6)) rfl) ?_
            refine WL.q (Wn.no rfl) rfl rfl (R.bin (v := (.bool true)) rfl rfl (bi_lss (r := true) (by decide))) ?_
            refine WL.nil ?_
            refine thn_n ?_
            refine WP.condT rfl ?_
            refine WP.skip ?_
            refine thn_n ?_
            refine WP.seq ?_
            refine WP.block ?_
            refine WP.seq ?_
            refine WP.drawT (SL w.heap.size [.blk b_56 .nw 28 [(1, [(vi rd)]), (1, [(vu64 ins)]), (8, (entRegs 1 ain regs).map vu64), (1, [(vu64 pc)]), (1, [(.bool true)]), (1, [(vi 0)])], .blk b_47 .nw 28 [(1, [(vi rd)]), (1, [(vu64 ins)]), (8, (entRegs 1 ain regs).map vu64), (1, [(vu64 pc)]), (1, [(.bool true)]), (1, [(vi 0)])], .blk b_7 .nw 40 [(1, [(vi rs)]), (4, ors.map vu64), (1, [(vu64 adr)]), (1, [(.bool wr)]), (1, [(vi ran)])], .blk b_4 .nw 31 [(4, ain.map vu64)], .blk b_1 .nw 28 [(1, [(vi rd)]), (1, [(vu64 ins)]), (8, regs.map vu64), (1, [(vu64 pc)]), (1, [(.bool true)]), (1, [(vi 1)])]]) (.q 0 (.q 1 (.q 2 (.q 3 (.q 4 (.q 5 (.q 6 (.q 7 (.q 8 (.q 9 (.q 10 (.q 11 (.q 12 (.q 13 (.q 14 (.q 15 (.q 16 (.q 17 (.q 18 (.q 19 .nil)))))))))))))))))))) (by kernel_rfl) (by kernel_rfl) rfl (by kernel_rfl) (fun w_91 hc_93 => (SL.cons ((h_89.same hc_93).ok _ (.head _)) (SL.cons ((h_89.same hc_93).ok _ (.tail _ (.head _))) (SL.cons ((h_89.same hc_93).ok _ (.tail _ (.tail _ (.head _)))) (SL.cons ((h_89.same hc_93).ok _ (.tail _ (.tail _ (.tail _ (.head _))))) (SL.cons ((h_89.same hc_93).ok _ (.tail _ (.tail _ (.tail _ (.tail _ (.head _)))))) (SL.nil _ _))))))) (fun w_91 hc_93 => ?_)
            have h_92 := h_89.same hc_93
            refine WT.q rfl (Wn.no rfl) rfl rfl (fun wq hS => R.move (v := (vi 6)) rfl) ?_
            refine WT.q rfl (Wn.no rfl) rfl rfl (fun wq hS => R.fieldAddr (b := b_56) (off := 0) (off' := 2) rfl Try.underlying28 rfl Try.sizeOf25 rfl rfl) ?_
            refine WT.q rfl (Wn.no rfl) rfl rfl (fun wq hS => R.fieldAddr (b := b_56) (off := 2) (off' := 2) rfl Try.underlying25 rfl Try.sizeOf23 rfl rfl) ?_
            refine WT.q rfl (Wn.no rfl) rfl rfl (fun wq hS => R.indexA (b := b_56) (off := 2) (off' := 8) (i := 6) rfl rfl rfl (by decide) Try.underlying23 Try.sizeOf22 rfl) ?_
            refine WT.q rfl (Wn.no rfl) rfl rfl (fun wq hS => R.loadE (b := b_56) (off := 8) (i := 6) (v := (vu64 ((entRegs 1 ain regs).getD 6 0))) rfl Try.isAgg22 (hS _ (.head _)) (Sg.t rfl (Sg.t rfl Sg.h)) rfl (get_u64 (lt_len (K := 8) (entRegs_len ha hr) (by decide)))) ?_
            refine WT.q rfl (Wn.no rfl) rfl rfl (fun wq hS => R.move (v := (vi 6)) rfl) ?_
            refine WT.q rfl (Wn.no rfl) rfl rfl (fun wq hS => R.fieldAddr (b := b_1) (off := 0) (off' := 2) rfl Try.underlying28 rfl Try.sizeOf25 rfl rfl) ?_
            refine WT.q rfl (Wn.no rfl) rfl rfl (fun wq hS => R.fieldAddr (b := b_1) (off := 2) (off' := 2) rfl Try.underlying25 rfl Try.sizeOf23 rfl rfl) ?_
            refine WT.q rfl (Wn.no rfl) rfl rfl (fun wq hS => R.indexA (b := b_1) (off := 2) (off' := 8) (i := 6) rfl rfl rfl (by decide) Try.underlying23 Try.sizeOf22 rfl) ?_
            refine WT.q rfl (Wn.no rfl) rfl rfl (fun wq hS => R.loadE (b := b_1) (off := 8) (i := 6) (v := (vu64 (regs.getD 6 0))) rfl Try.isAgg22 (hS _ (.tail _ (.tail _ (.tail _ (.tail _ (.head _)))))) (Sg.t rfl (Sg.t rfl Sg.h)) rfl (get_u64 (lt_len (K := 8) hr (by decide)))) ?_
            refine WT.q rfl (Wn.no rfl) rfl rfl (fun wq hS => R.bin (v := (.bool (decide (((entRegs 1 ain regs).getD 6 0 : UInt64) ≠ (regs.getD 6 0))))) rfl rfl (b64_neq ((entRegs 1 ain regs).getD 6 0) (regs.getD 6 0) (r := decide (((entRegs 1 ain regs).getD 6 0 : UInt64) ≠ (regs.getD 6 0))) rfl)) ?_
            refine WT.q rfl (Wn.no rfl) rfl rfl (fun wq hS => R.move (v := (.bool (decide (((entRegs 1 ain regs).getD 6 0 : UInt64) ≠ (regs.getD 6 0))))) rfl) ?_
            refine WT.skipQ rfl rfl rfl (boolNe (v := .bool false) (congrArg Value.bool (decide_eq_false (not_not_intro (ent_high ha hr).2.2.1))) (by decide)) rfl rfl ?_
            refine WT.skipQ rfl rfl rfl (boolNe (v := .bool false) (congrArg Value.bool (decide_eq_false (not_not_intro (ent_high ha hr).2.2.1))) (by decide)) rfl rfl ?_
            refine WT.skipQ rfl rfl rfl (boolNe (v := .bool false) (congrArg Value.bool (decide_eq_false (not_not_intro (ent_high ha hr).2.2.1))) (by decide)) rfl rfl ?_
            refine WT.skipQ rfl rfl rfl (boolNe (v := undef) rfl (by decide)) rfl rfl ?_
            refine WT.skipQ rfl rfl rfl (boolNe (v := undef) rfl (by decide)) rfl rfl ?_
            refine WT.skipQ rfl rfl rfl (boolNe (v := undef) rfl (by decide)) rfl rfl ?_
            refine WT.skipQ rfl rfl rfl (boolNe (v := .bool false) (congrArg Value.bool (decide_eq_false (not_not_intro (ent_high ha hr).2.2.1))) (by decide)) rfl rfl ?_
            refine WT.q rfl (Wn.no rfl) rfl rfl (fun wq hS => R.pickF (v := (.bool false)) (congrArg Value.bool (decide_eq_false (not_not_intro (ent_high ha hr).2.2.1))) rfl) ?_
            refine WT.nil ?_
            refine thn_n ?_
            refine WP.condF rfl ?_
            refine WP.skip ?_
            refine inb_n ?_
            refine thn_n ?_
            refine WP.reg ?_
            refine WL.q (Wn.no rfl) rfl rfl (R.move (v := (vi 6)) rfl) ?_
            refine WL.q (Wn.no rfl) rfl rfl (R.bin (v := (vi 7)) rfl rfl (bi_add (c := 7) (by omega) (by omega))) ?_
            refine WL.q (Wn.no rfl) rfl rfl (R.assign (v := (vi 7)) rfl) ?_
            refine WL.nil ?_
            refine thn_n ?_
            refine WI.round ?_
            refine WP.seq ?_
            refine WP.seq ?_
            refine WP.reg ?_
            refine WL.q (Wn.no rfl) rfl rfl (R.move (v := (vi 7)) rfl) ?_
            refine WL.q (Wn.no rfl) rfl rfl (R.bin (v := (.bool true)) rfl rfl (bi_lss (r := true) (by decide))) ?_
            refine WL.nil ?_
            refine thn_n ?_
            refine WP.condT rfl ?_
            refine WP.skip ?_
            refine thn_n ?_
            refine WP.seq ?_
            refine WP.block ?_
            refine WP.seq ?_
            refine WP.drawT (SL w.heap.size [.blk b_56 .nw 28 [(1, [(vi rd)]), (1, [(vu64 ins)]), (8, (entRegs 1 ain regs).map vu64), (1, [(vu64 pc)]), (1, [(.bool true)]), (1, [(vi 0)])], .blk b_47 .nw 28 [(1, [(vi rd)]), (1, [(vu64 ins)]), (8, (entRegs 1 ain regs).map vu64), (1, [(vu64 pc)]), (1, [(.bool true)]), (1, [(vi 0)])], .blk b_7 .nw 40 [(1, [(vi rs)]), (4, ors.map vu64), (1, [(vu64 adr)]), (1, [(.bool wr)]), (1, [(vi ran)])], .blk b_4 .nw 31 [(4, ain.map vu64)], .blk b_1 .nw 28 [(1, [(vi rd)]), (1, [(vu64 ins)]), (8, regs.map vu64), (1, [(vu64 pc)]), (1, [(.bool true)]), (1, [(vi 1)])]]) (.q 0 (.q 1 (.q 2 (.q 3 (.q 4 (.q 5 (.q 6 (.q 7 (.q 8 (.q 9 (.q 10 (.q 11 (.q 12 (.q 13 (.q 14 (.q 15 (.q 16 (.q 17 (.q 18 (.q 19 .nil)))))))))))))))))))) (by kernel_rfl) (by kernel_rfl) rfl (by kernel_rfl) (fun w_94 hc_96 => (SL.cons ((h_92.same hc_96).ok _ (.head _)) (SL.cons ((h_92.same hc_96).ok _ (.tail _ (.head _))) (SL.cons ((h_92.same hc_96).ok _ (.tail _ (.tail _ (.head _)))) (SL.cons ((h_92.same hc_96).ok _ (.tail _ (.tail _ (.tail _ (.head _))))) (SL.cons ((h_92.same hc_96).ok _ (.tail _ (.tail _ (.tail _ (.tail _ (.head _)))))) (SL.nil _ _))))))) (fun w_94 hc_96 => ?_)
            have h_95 := h_92.same hc_96
            refine WT.q rfl (Wn.no rfl) rfl rfl (fun wq hS => R.move (v := (vi 7)) rfl) ?_
            refine WT.q rfl (Wn.no rfl) rfl rfl (fun wq hS => R.fieldAddr (b := b_56) (off := 0) (off' := 2) rfl Try.underlying28 rfl Try.sizeOf25 rfl rfl) ?_
            refine WT.q rfl (Wn.no rfl) rfl rfl (fun wq hS => R.fieldAddr (b := b_56) (off := 2) (off' := 2) rfl Try.underlying25 rfl Try.sizeOf23 rfl rfl) ?_
            refine WT.q rfl (Wn.no rfl) rfl rfl (fun wq hS => R.indexA (b := b_56) (off := 2) (off' := 9) (i := 7) rfl rfl rfl (by decide) Try.underlying23 Try.sizeOf22 rfl) ?_
            refine WT.q rfl (Wn.no rfl) rfl rfl (fun wq hS => R.loadE (b := b_56) (off := 9) (i := 7) (v := (vu64 ((entRegs 1 ain regs).getD 7 0))) rfl Try.isAgg22 (hS _ (.head _)) (Sg.t rfl (Sg.t rfl Sg.h)) rfl (get_u64 (lt_len (K := 8) (entRegs_len ha hr) (by decide)))) ?_
            refine WT.q rfl (Wn.no rfl) rfl rfl (fun wq hS => R.move (v := (vi 7)) rfl) ?_
            refine WT.q rfl (Wn.no rfl) rfl rfl (fun wq hS => R.fieldAddr (b := b_1) (off := 0) (off' := 2) rfl Try.underlying28 rfl Try.sizeOf25 rfl rfl) ?_
            refine WT.q rfl (Wn.no rfl) rfl rfl (fun wq hS => R.fieldAddr (b := b_1) (off := 2) (off' := 2) rfl Try.underlying25 rfl Try.sizeOf23 rfl rfl) ?_
            refine WT.q rfl (Wn.no rfl) rfl rfl (fun wq hS => R.indexA (b := b_1) (off := 2) (off' := 9) (i := 7) rfl rfl rfl (by decide) Try.underlying23 Try.sizeOf22 rfl) ?_
            refine WT.q rfl (Wn.no rfl) rfl rfl (fun wq hS => R.loadE (b := b_1) (off := 9) (i := 7) (v := (vu64 (regs.getD 7 0))) rfl Try.isAgg22 (hS _ (.tail _ (.tail _ (.tail _ (.tail _ (.head _)))))) (Sg.t rfl (Sg.t rfl Sg.h)) rfl (get_u64 (lt_len (K := 8) hr (by decide)))) ?_
            refine WT.q rfl (Wn.no rfl) rfl rfl (fun wq hS => R.bin (v := (.bool (decide (((entRegs 1 ain regs).getD 7 0 : UInt64) ≠ (regs.getD 7 0))))) rfl rfl (b64_neq ((entRegs 1 ain regs).getD 7 0) (regs.getD 7 0) (r := decide (((entRegs 1 ain regs).getD 7 0 : UInt64) ≠ (regs.getD 7 0))) rfl)) ?_
            refine WT.q rfl (Wn.no rfl) rfl rfl (fun wq hS => R.move (v := (.bool (decide (((entRegs 1 ain regs).getD 7 0 : UInt64) ≠ (regs.getD 7 0))))) rfl) ?_
            refine WT.skipQ rfl rfl rfl (boolNe (v := .bool false) (congrArg Value.bool (decide_eq_false (not_not_intro (ent_high ha hr).2.2.2))) (by decide)) rfl rfl ?_
            refine WT.skipQ rfl rfl rfl (boolNe (v := .bool false) (congrArg Value.bool (decide_eq_false (not_not_intro (ent_high ha hr).2.2.2))) (by decide)) rfl rfl ?_
            refine WT.skipQ rfl rfl rfl (boolNe (v := .bool false) (congrArg Value.bool (decide_eq_false (not_not_intro (ent_high ha hr).2.2.2))) (by decide)) rfl rfl ?_
            refine WT.skipQ rfl rfl rfl (boolNe (v := undef) rfl (by decide)) rfl rfl ?_
            refine WT.skipQ rfl rfl rfl (boolNe (v := undef) rfl (by decide)) rfl rfl ?_
            refine WT.skipQ rfl rfl rfl (boolNe (v := undef) rfl (by decide)) rfl rfl ?_
            refine WT.skipQ rfl rfl rfl (boolNe (v := .bool false) (congrArg Value.bool (decide_eq_false (not_not_intro (ent_high ha hr).2.2.2))) (by decide)) rfl rfl ?_
            refine WT.q rfl (Wn.no rfl) rfl rfl (fun wq hS => R.pickF (v := (.bool false)) (congrArg Value.bool (decide_eq_false (not_not_intro (ent_high ha hr).2.2.2))) rfl) ?_
            refine WT.nil ?_
            refine thn_n ?_
            refine WP.condF rfl ?_
            refine WP.skip ?_
            refine inb_n ?_
            refine thn_n ?_
            refine WP.reg ?_
            refine WL.q (Wn.no rfl) rfl rfl (R.move (v := (vi 7)) rfl) ?_
            refine WL.q (Wn.no rfl) rfl rfl (R.bin (v := (vi 8)) rfl rfl (bi_add (c := 8) (by omega) (by omega))) ?_
            refine WL.q (Wn.no rfl) rfl rfl (R.assign (v := (vi 8)) rfl) ?_
            refine WL.nil ?_
            refine thn_n ?_
            refine WI.round ?_
            refine WP.seq ?_
            refine WP.seq ?_
            refine WP.reg ?_
            refine WL.q (Wn.no rfl) rfl rfl (R.move (v := (vi 8)) rfl) ?_
            refine WL.q (Wn.no rfl) rfl rfl (R.bin (v := (.bool false)) rfl rfl (bi_lss (r := false) (by decide))) ?_
            refine WL.nil ?_
            refine thn_n ?_
            refine WP.condF rfl ?_
            refine WP.exit ?_
            refine thn_x ?_
            refine thn_x ?_
            refine inb_hit ?_
            refine thn_n ?_
            refine WP.seq ?_
            refine WP.reg ?_
            refine WL.call (al := []) Try.call15 rfl rfl (c_known14  _) rfl ?_
            rintro _ w_98 ⟨rfl, hc_97⟩
            have h_99 := h_95.same hc_97
            refine WL.q (Wn.no rfl) rfl rfl (R.assign (v := (.bool true)) rfl) ?_
            refine WL.nil ?_
            refine thn_n ?_
            refine WP.ret ?_
            refine ret_of Try.results9 (RV.tmp (v := (.bool true)) rfl RV.nil) ?_
            exact ⟨rfl, h_99.chgS⟩
          · have p_100 := of_decide_eq_false c_83
            refine WT.skipQ rfl rfl rfl (boolNe (v := .bool false) (congrArg Value.bool c_83) (by decide)) rfl rfl ?_
            refine WT.skipQ rfl rfl rfl (boolNe (v := .bool false) (congrArg Value.bool c_83) (by decide)) rfl rfl ?_
            refine WT.skipQ rfl rfl rfl (boolNe (v := .bool false) (congrArg Value.bool c_83) (by decide)) rfl rfl ?_
            refine WT.skipQ rfl rfl rfl (boolNe (v := undef) rfl (by decide)) rfl rfl ?_
            refine WT.skipQ rfl rfl rfl (boolNe (v := undef) rfl (by decide)) rfl rfl ?_
            refine WT.skipQ rfl rfl rfl (boolNe (v := undef) rfl (by decide)) rfl rfl ?_
            refine WT.skipQ rfl rfl rfl (boolNe (v := .bool false) (congrArg Value.bool c_83) (by decide)) rfl rfl ?_
            refine WT.q rfl (Wn.no rfl) rfl rfl (fun wq hS => R.pickF (v := (.bool false)) (congrArg Value.bool c_83) rfl) ?_
            refine WT.nil ?_
            refine thn_n ?_
            refine WP.condF rfl ?_
            refine WP.skip ?_
            refine inb_n ?_
            refine thn_n ?_
            refine WP.reg ?_
            refine WL.q (Wn.no rfl) rfl rfl (R.move (v := (vi 3)) rfl) ?_
            refine WL.q (Wn.no rfl) rfl rfl (R.bin (v := (vi 4)) rfl rfl (bi_add (c := 4) (by omega) (by omega))) ?_
            refine WL.q (Wn.no rfl) rfl rfl (R.assign (v := (vi 4)) rfl) ?_
            refine WL.nil ?_
            refine thn_n ?_
            refine WI.round ?_
            refine WP.seq ?_
            refine WP.seq ?_
            refine WP.reg ?_
            refine WL.q (Wn.no rfl) rfl rfl (R.move (v := (vi 4)) rfl) ?_
            refine WL.q (Wn.no rfl) rfl rfl (R.bin (v := (.bool true)) rfl rfl (bi_lss (r := true) (by decide))) ?_
            refine WL.nil ?_
            refine thn_n ?_
            refine WP.condT rfl ?_
            refine WP.skip ?_
            refine thn_n ?_
            refine WP.seq ?_
            refine WP.block ?_
            refine WP.seq ?_
            refine WP.drawT (SL w.heap.size [.blk b_56 .nw 28 [(1, [(vi rd)]), (1, [(vu64 ins)]), (8, (entRegs 1 ain regs).map vu64), (1, [(vu64 pc)]), (1, [(.bool true)]), (1, [(vi 0)])], .blk b_47 .nw 28 [(1, [(vi rd)]), (1, [(vu64 ins)]), (8, (entRegs 1 ain regs).map vu64), (1, [(vu64 pc)]), (1, [(.bool true)]), (1, [(vi 0)])], .blk b_7 .nw 40 [(1, [(vi rs)]), (4, ors.map vu64), (1, [(vu64 adr)]), (1, [(.bool wr)]), (1, [(vi ran)])], .blk b_4 .nw 31 [(4, ain.map vu64)], .blk b_1 .nw 28 [(1, [(vi rd)]), (1, [(vu64 ins)]), (8, regs.map vu64), (1, [(vu64 pc)]), (1, [(.bool true)]), (1, [(vi 1)])]]) (.q 0 (.q 1 (.q 2 (.q 3 (.q 4 (.q 5 (.q 6 (.q 7 (.q 8 (.q 9 (.q 10 (.q 11 (.q 12 (.q 13 (.q 14 (.q 15 (.q 16 (.q 17 (.q 18 (.q 19 .nil)))))))))))))))))))) (by kernel_rfl) (by kernel_rfl) rfl (by kernel_rfl) (fun w_101 hc_103 => (SL.cons ((h_81.same hc_103).ok _ (.head _)) (SL.cons ((h_81.same hc_103).ok _ (.tail _ (.head _))) (SL.cons ((h_81.same hc_103).ok _ (.tail _ (.tail _ (.head _)))) (SL.cons ((h_81.same hc_103).ok _ (.tail _ (.tail _ (.tail _ (.head _))))) (SL.cons ((h_81.same hc_103).ok _ (.tail _ (.tail _ (.tail _ (.tail _ (.head _)))))) (SL.nil _ _))))))) (fun w_101 hc_103 => ?_)
            have h_102 := h_81.same hc_103
            refine WT.q rfl (Wn.no rfl) rfl rfl (fun wq hS => R.move (v := (vi 4)) rfl) ?_
            refine WT.q rfl (Wn.no rfl) rfl rfl (fun wq hS => R.fieldAddr (b := b_56) (off := 0) (off' := 2) rfl Try.underlying28 rfl Try.sizeOf25 rfl rfl) ?_
            refine WT.q rfl (Wn.no rfl) rfl rfl (fun wq hS => R.fieldAddr (b := b_56) (off := 2) (off' := 2) rfl Try.underlying25 rfl Try.sizeOf23 rfl rfl) ?_
            refine WT.q rfl (Wn.no rfl) rfl rfl (fun wq hS => R.indexA (b := b_56) (off := 2) (off' := 6) (i := 4) rfl rfl rfl (by decide) Try.underlying23 Try.sizeOf22 rfl) ?_
            refine WT.q rfl (Wn.no rfl) rfl rfl (fun wq hS => R.loadE (b := b_56) (off := 6) (i := 4) (v := (vu64 ((entRegs 1 ain regs).getD 4 0))) rfl Try.isAgg22 (hS _ (.head _)) (Sg.t rfl (Sg.t rfl Sg.h)) rfl (get_u64 (lt_len (K := 8) (entRegs_len ha hr) (by decide)))) ?_
            refine WT.q rfl (Wn.no rfl) rfl rfl (fun wq hS => R.move (v := (vi 4)) rfl) ?_
            refine WT.q rfl (Wn.no rfl) rfl rfl (fun wq hS => R.fieldAddr (b := b_1) (off := 0) (off' := 2) rfl Try.underlying28 rfl Try.sizeOf25 rfl rfl) ?_
            refine WT.q rfl (Wn.no rfl) rfl rfl (fun wq hS => R.fieldAddr (b := b_1) (off := 2) (off' := 2) rfl Try.underlying25 rfl Try.sizeOf23 rfl rfl) ?_
            refine WT.q rfl (Wn.no rfl) rfl rfl (fun wq hS => R.indexA (b := b_1) (off := 2) (off' := 6) (i := 4) rfl rfl rfl (by decide) Try.underlying23 Try.sizeOf22 rfl) ?_
            refine WT.q rfl (Wn.no rfl) rfl rfl (fun wq hS => R.loadE (b := b_1) (off := 6) (i := 4) (v := (vu64 (regs.getD 4 0))) rfl Try.isAgg22 (hS _ (.tail _ (.tail _ (.tail _ (.tail _ (.head _)))))) (Sg.t rfl (Sg.t rfl Sg.h)) rfl (get_u64 (lt_len (K := 8) hr (by decide)))) ?_
            refine WT.q rfl (Wn.no rfl) rfl rfl (fun wq hS => R.bin (v := (.bool (decide (((entRegs 1 ain regs).getD 4 0 : UInt64) ≠ (regs.getD 4 0))))) rfl rfl (b64_neq ((entRegs 1 ain regs).getD 4 0) (regs.getD 4 0) (r := decide (((entRegs 1 ain regs).getD 4 0 : UInt64) ≠ (regs.getD 4 0))) rfl)) ?_
            refine WT.q rfl (Wn.no rfl) rfl rfl (fun wq hS => R.move (v := (.bool (decide (((entRegs 1 ain regs).getD 4 0 : UInt64) ≠ (regs.getD 4 0))))) rfl) ?_
            refine WT.skipQ rfl rfl rfl (boolNe (v := .bool false) (congrArg Value.bool (decide_eq_false (not_not_intro (ent_high ha hr).1))) (by decide)) rfl rfl ?_
            refine WT.skipQ rfl rfl rfl (boolNe (v := .bool false) (congrArg Value.bool (decide_eq_false (not_not_intro (ent_high ha hr).1))) (by decide)) rfl rfl ?_
            refine WT.skipQ rfl rfl rfl (boolNe (v := .bool false) (congrArg Value.bool (decide_eq_false (not_not_intro (ent_high ha hr).1))) (by decide)) rfl rfl ?_
            refine WT.skipQ rfl rfl rfl (boolNe (v := undef) rfl (by decide)) rfl rfl ?_
            refine WT.skipQ rfl rfl rfl (boolNe (v := undef) rfl (by decide)) rfl rfl ?_
            refine WT.skipQ rfl rfl rfl (boolNe (v := undef) rfl (by decide)) rfl rfl ?_
            refine WT.skipQ rfl rfl rfl (boolNe (v := .bool false) (congrArg Value.bool (decide_eq_false (not_not_intro (ent_high ha hr).1))) (by decide)) rfl rfl ?_
            refine WT.q rfl (Wn.no rfl) rfl rfl (fun wq hS => R.pickF (v := (.bool false)) (congrArg Value.bool (decide_eq_false (not_not_intro (ent_high ha hr).1))) rfl) ?_
            refine WT.nil ?_
            refine thn_n ?_
            refine WP.condF rfl ?_
            refine WP.skip ?_
            refine inb_n ?_
            refine thn_n ?_
            refine WP.reg ?_
            refine WL.q (Wn.no rfl) rfl rfl (R.move (v := (vi 4)) rfl) ?_
            refine WL.q (Wn.no rfl) rfl rfl (R.bin (v := (vi 5)) rfl rfl (bi_add (c := 5) (by omega) (by omega))) ?_
            refine WL.q (Wn.no rfl) rfl rfl (R.assign (v := (vi 5)) rfl) ?_
            refine WL.nil ?_
            refine thn_n ?_
            refine WI.round ?_
            refine WP.seq ?_
            refine WP.seq ?_
            refine WP.reg ?_
            refine WL.q (Wn.no rfl) rfl rfl (R.move (v := (vi 5)) rfl) ?_
            refine WL.q (Wn.no rfl) rfl rfl (R.bin (v := (.bool true)) rfl rfl (bi_lss (r := true) (by decide))) ?_
            refine WL.nil ?_
            refine thn_n ?_
            refine WP.condT rfl ?_
            refine WP.skip ?_
            refine thn_n ?_
            refine WP.seq ?_
            refine WP.block ?_
            refine WP.seq ?_
            refine WP.drawT (SL w.heap.size [.blk b_56 .nw 28 [(1, [(vi rd)]), (1, [(vu64 ins)]), (8, (entRegs 1 ain regs).map vu64), (1, [(vu64 pc)]), (1, [(.bool true)]), (1, [(vi 0)])], .blk b_47 .nw 28 [(1, [(vi rd)]), (1, [(vu64 ins)]), (8, (entRegs 1 ain regs).map vu64), (1, [(vu64 pc)]), (1, [(.bool true)]), (1, [(vi 0)])], .blk b_7 .nw 40 [(1, [(vi rs)]), (4, ors.map vu64), (1, [(vu64 adr)]), (1, [(.bool wr)]), (1, [(vi ran)])], .blk b_4 .nw 31 [(4, ain.map vu64)], .blk b_1 .nw 28 [(1, [(vi rd)]), (1, [(vu64 ins)]), (8, regs.map vu64), (1, [(vu64 pc)]), (1, [(.bool true)]), (1, [(vi 1)])]]) (.q 0 (.q 1 (.q 2 (.q 3 (.q 4 (.q 5 (.q 6 (.q 7 (.q 8 (.q 9 (.q 10 (.q 11 (.q 12 (.q 13 (.q 14 (.q 15 (.q 16 (.q 17 (.q 18 (.q 19 .nil)))))))))))))))))))) (by kernel_rfl) (by kernel_rfl) rfl (by kernel_rfl) (fun w_104 hc_106 => (SL.cons ((h_102.same hc_106).ok _ (.head _)) (SL.cons ((h_102.same hc_106).ok _ (.tail _ (.head _))) (SL.cons ((h_102.same hc_106).ok _ (.tail _ (.tail _ (.head _)))) (SL.cons ((h_102.same hc_106).ok _ (.tail _ (.tail _ (.tail _ (.head _))))) (SL.cons ((h_102.same hc_106).ok _ (.tail _ (.tail _ (.tail _ (.tail _ (.head _)))))) (SL.nil _ _))))))) (fun w_104 hc_106 => ?_)
            have h_105 := h_102.same hc_106
            refine WT.q rfl (Wn.no rfl) rfl rfl (fun wq hS => R.move (v := (vi 5)) rfl) ?_
            refine WT.q rfl (Wn.no rfl) rfl rfl (fun wq hS => R.fieldAddr (b := b_56) (off := 0) (off' := 2) rfl Try.underlying28 rfl Try.sizeOf25 rfl rfl) ?_
            refine WT.q rfl (Wn.no rfl) rfl rfl (fun wq hS => R.fieldAddr (b := b_56) (off := 2) (off' := 2) rfl Try.underlying25 rfl Try.sizeOf23 rfl rfl) ?_
            refine WT.q rfl (Wn.no rfl) rfl rfl (fun wq hS => R.indexA (b := b_56) (off := 2) (off' := 7) (i := 5) rfl rfl rfl (by decide) Try.underlying23 Try.sizeOf22 rfl) ?_
            refine WT.q rfl (Wn.no rfl) rfl rfl (fun wq hS => R.loadE (b := b_56) (off := 7) (i := 5) (v := (vu64 ((entRegs 1 ain regs).getD 5 0))) rfl Try.isAgg22 (hS _ (.head _)) (Sg.t rfl (Sg.t rfl Sg.h)) rfl (get_u64 (lt_len (K := 8) (entRegs_len ha hr) (by decide)))) ?_
            refine WT.q rfl (Wn.no rfl) rfl rfl (fun wq hS => R.move (v := (vi 5)) rfl) ?_
            refine WT.q rfl (Wn.no rfl) rfl rfl (fun wq hS => R.fieldAddr (b := b_1) (off := 0) (off' := 2) rfl Try.underlying28 rfl Try.sizeOf25 rfl rfl) ?_
            refine WT.q rfl (Wn.no rfl) rfl rfl (fun wq hS => R.fieldAddr (b := b_1) (off := 2) (off' := 2) rfl Try.underlying25 rfl Try.sizeOf23 rfl rfl) ?_
            refine WT.q rfl (Wn.no rfl) rfl rfl (fun wq hS => R.indexA (b := b_1) (off := 2) (off' := 7) (i := 5) rfl rfl rfl (by decide) Try.underlying23 Try.sizeOf22 rfl) ?_
            refine WT.q rfl (Wn.no rfl) rfl rfl (fun wq hS => R.loadE (b := b_1) (off := 7) (i := 5) (v := (vu64 (regs.getD 5 0))) rfl Try.isAgg22 (hS _ (.tail _ (.tail _ (.tail _ (.tail _ (.head _)))))) (Sg.t rfl (Sg.t rfl Sg.h)) rfl (get_u64 (lt_len (K := 8) hr (by decide)))) ?_
            refine WT.q rfl (Wn.no rfl) rfl rfl (fun wq hS => R.bin (v := (.bool (decide (((entRegs 1 ain regs).getD 5 0 : UInt64) ≠ (regs.getD 5 0))))) rfl rfl (b64_neq ((entRegs 1 ain regs).getD 5 0) (regs.getD 5 0) (r := decide (((entRegs 1 ain regs).getD 5 0 : UInt64) ≠ (regs.getD 5 0))) rfl)) ?_
            refine WT.q rfl (Wn.no rfl) rfl rfl (fun wq hS => R.move (v := (.bool (decide (((entRegs 1 ain regs).getD 5 0 : UInt64) ≠ (regs.getD 5 0))))) rfl) ?_
            refine WT.skipQ rfl rfl rfl (boolNe (v := .bool false) (congrArg Value.bool (decide_eq_false (not_not_intro (ent_high ha hr).2.1))) (by decide)) rfl rfl ?_
            refine WT.skipQ rfl rfl rfl (boolNe (v := .bool false) (congrArg Value.bool (decide_eq_false (not_not_intro (ent_high ha hr).2.1))) (by decide)) rfl rfl ?_
            refine WT.skipQ rfl rfl rfl (boolNe (v := .bool false) (congrArg Value.bool (decide_eq_false (not_not_intro (ent_high ha hr).2.1))) (by decide)) rfl rfl ?_
            refine WT.skipQ rfl rfl rfl (boolNe (v := undef) rfl (by decide)) rfl rfl ?_
            refine WT.skipQ rfl rfl rfl (boolNe (v := undef) rfl (by decide)) rfl rfl ?_
            refine WT.skipQ rfl rfl rfl (boolNe (v := undef) rfl (by decide)) rfl rfl ?_
            refine WT.skipQ rfl rfl rfl (boolNe (v := .bool false) (congrArg Value.bool (decide_eq_false (not_not_intro (ent_high ha hr).2.1))) (by decide)) rfl rfl ?_
            refine WT.q rfl (Wn.no rfl) rfl rfl (fun wq hS => R.pickF (v := (.bool false)) (congrArg Value.bool (decide_eq_false (not_not_intro (ent_high ha hr).2.1))) rfl) ?_
            refine WT.nil ?_
            refine thn_n ?_
            refine WP.condF rfl ?_
            refine WP.skip ?_
            refine inb_n ?_
            refine thn_n ?_
            refine WP.reg ?_
            refine WL.q (Wn.no rfl) rfl rfl (R.move (v := (vi 5)) rfl) ?_
            refine WL.q (Wn.no rfl) rfl rfl (R.bin (v := (vi 6)) rfl rfl (bi_add (c := 6) (by omega) (by omega))) ?_
            refine WL.q (Wn.no rfl) rfl rfl (R.assign (v := (vi 6)) rfl) ?_
            refine WL.nil ?_
            refine thn_n ?_
            refine WI.round ?_
            refine WP.seq ?_
            refine WP.seq ?_
            refine WP.reg ?_
            refine WL.q (Wn.no rfl) rfl rfl (R.move (v := (vi 6)) rfl) ?_
            refine WL.q (Wn.no rfl) rfl rfl (R.bin (v := (.bool true)) rfl rfl (bi_lss (r := true) (by decide))) ?_
            refine WL.nil ?_
            refine thn_n ?_
            refine WP.condT rfl ?_
            refine WP.skip ?_
            refine thn_n ?_
            refine WP.seq ?_
            refine WP.block ?_
            refine WP.seq ?_
            refine WP.drawT (SL w.heap.size [.blk b_56 .nw 28 [(1, [(vi rd)]), (1, [(vu64 ins)]), (8, (entRegs 1 ain regs).map vu64), (1, [(vu64 pc)]), (1, [(.bool true)]), (1, [(vi 0)])], .blk b_47 .nw 28 [(1, [(vi rd)]), (1, [(vu64 ins)]), (8, (entRegs 1 ain regs).map vu64), (1, [(vu64 pc)]), (1, [(.bool true)]), (1, [(vi 0)])], .blk b_7 .nw 40 [(1, [(vi rs)]), (4, ors.map vu64), (1, [(vu64 adr)]), (1, [(.bool wr)]), (1, [(vi ran)])], .blk b_4 .nw 31 [(4, ain.map vu64)], .blk b_1 .nw 28 [(1, [(vi rd)]), (1, [(vu64 ins)]), (8, regs.map vu64), (1, [(vu64 pc)]), (1, [(.bool true)]), (1, [(vi 1)])]]) (.q 0 (.q 1 (.q 2 (.q 3 (.q 4 (.q 5 (.q 6 (.q 7 (.q 8 (.q 9 (.q 10 (.q 11 (.q 12 (.q 13 (.q 14 (.q 15 (.q 16 (.q 17 (.q 18 (.q 19 .nil)))))))))))))))))))) (by kernel_rfl) (by kernel_rfl) rfl (by kernel_rfl) (fun w_107 hc_109 => (SL.cons ((h_105.same hc_109).ok _ (.head _)) (SL.cons ((h_105.same hc_109).ok _ (.tail _ (.head _))) (SL.cons ((h_105.same hc_109).ok _ (.tail _ (.tail _ (.head _)))) (SL.cons ((h_105.same hc_109).ok _ (.tail _ (.tail _ (.tail _ (.head _))))) (SL.cons ((h_105.same hc_109).ok _ (.tail _ (.tail _ (.tail _ (.tail _ (.head _)))))) (SL.nil _ _))))))) (fun w_107 hc_109 => ?_)
            have h_108 := h_105.same hc_109
            refine WT.q rfl (Wn.no rfl) rfl rfl (fun wq hS => R.move (v := (vi 6)) rfl) ?_
            refine WT.q rfl (Wn.no rfl) rfl rfl (fun wq hS => R.fieldAddr (b := b_56) (off := 0) (off' := 2) rfl Try.underlying28 rfl Try.sizeOf25 rfl rfl) ?_
            refine WT.q rfl (Wn.no rfl) rfl rfl (fun wq hS => R.fieldAddr (b := b_56) (off := 2) (off' := 2) rfl Try.underlying25 rfl Try.sizeOf23 rfl rfl) ?_
            refine WT.q rfl (Wn.no rfl) rfl rfl (fun wq hS => R.indexA (b := b_56) (off := 2) (off' := 8) (i := 6) rfl rfl rfl (by decide) Try.underlying23 Try.sizeOf22 rfl) ?_
            refine WT.q rfl (Wn.no rfl) rfl rfl (fun wq hS => R.loadE (b := b_56) (off := 8) (i := 6) (v := (vu64 ((entRegs 1 ain regs).getD 6 0))) rfl Try.isAgg22 (hS _ (.head _)) (Sg.t rfl (Sg.t rfl Sg.h)) rfl (get_u64 (lt_len (K := 8) (entRegs_len ha hr) (by decide)))) ?_
            refine WT.q rfl (Wn.no rfl) rfl rfl (fun wq hS => R.move (v := (vi 6)) rfl) ?_
            refine WT.q rfl (Wn.no rfl) rfl rfl (fun wq hS => R.fieldAddr (b := b_1) (off := 0) (off' := 2) rfl Try.underlying28 rfl Try.sizeOf25 rfl rfl) ?_
            refine WT.q rfl (Wn.no rfl) rfl rfl (fun wq hS => R.fieldAddr (b := b_1) (off := 2) (off' := 2) rfl Try.underlying25 rfl Try.sizeOf23 rfl rfl) ?_
            refine WT.q rfl (Wn.no rfl) rfl rfl (fun wq hS => R.indexA (b := b_1) (off := 2) (off' := 8) (i := 6) rfl rfl rfl (by decide) Try.underlying23 Try.sizeOf22 rfl) ?_
            refine WT.q rfl (Wn.no rfl) rfl rfl (fun wq hS => R.loadE (b := b_1) (off := 8) (i := 6) (v := (vu64 (regs.getD 6 0))) rfl Try.isAgg22 (hS _ (.tail _ (.tail _ (.tail _ (.tail _ (.head _)))))) (Sg.t rfl (Sg.t rfl Sg.h)) rfl (get_u64 (lt_len (K := 8) hr (by decide)))) ?_
            refine WT.q rfl (Wn.no rfl) rfl rfl (fun wq hS => R.bin (v := (.bool (decide (((entRegs 1 ain regs).getD 6 0 : UInt64) ≠ (regs.getD 6 0))))) rfl rfl (b64_neq ((entRegs 1 ain regs).getD 6 0) (regs.getD 6 0) (r := decide (((entRegs 1 ain regs).getD 6 0 : UInt64) ≠ (regs.getD 6 0))) rfl)) ?_
            refine WT.q rfl (Wn.no rfl) rfl rfl (fun wq hS => R.move (v := (.bool (decide (((entRegs 1 ain regs).getD 6 0 : UInt64) ≠ (regs.getD 6 0))))) rfl) ?_
            refine WT.skipQ rfl rfl rfl (boolNe (v := .bool false) (congrArg Value.bool (decide_eq_false (not_not_intro (ent_high ha hr).2.2.1))) (by decide)) rfl rfl ?_
            refine WT.skipQ rfl rfl rfl (boolNe (v := .bool false) (congrArg Value.bool (decide_eq_false (not_not_intro (ent_high ha hr).2.2.1))) (by decide)) rfl rfl ?_
            refine WT.skipQ rfl rfl rfl (boolNe (v := .bool false) (congrArg Value.bool (decide_eq_false (not_not_intro (ent_high ha hr).2.2.1))) (by decide)) rfl rfl ?_
            refine WT.skipQ rfl rfl rfl (boolNe (v := undef) rfl (by decide)) rfl rfl ?_
            refine WT.skipQ rfl rfl rfl (boolNe (v := undef) rfl (by decide)) rfl rfl ?_
            refine WT.skipQ rfl rfl rfl (boolNe (v := undef) rfl (by decide)) rfl rfl ?_
            refine WT.skipQ rfl rfl rfl (boolNe (v := .bool false) (congrArg Value.bool (decide_eq_false (not_not_intro (ent_high ha hr).2.2.1))) (by decide)) rfl rfl ?_
            refine WT.q rfl (Wn.no rfl) rfl rfl (fun wq hS => R.pickF (v := (.bool false)) (congrArg Value.bool (decide_eq_false (not_not_intro (ent_high ha hr).2.2.1))) rfl) ?_
            refine WT.nil ?_
            refine thn_n ?_
            refine WP.condF rfl ?_
            refine WP.skip ?_
            refine inb_n ?_
            refine thn_n ?_
            refine WP.reg ?_
            refine WL.q (Wn.no rfl) rfl rfl (R.move (v := (vi 6)) rfl) ?_
            refine WL.q (Wn.no rfl) rfl rfl (R.bin (v := (vi 7)) rfl rfl (bi_add (c := 7) (by omega) (by omega))) ?_
            refine WL.q (Wn.no rfl) rfl rfl (R.assign (v := (vi 7)) rfl) ?_
            refine WL.nil ?_
            refine thn_n ?_
            refine WI.round ?_
            refine WP.seq ?_
            refine WP.seq ?_
            refine WP.reg ?_
            refine WL.q (Wn.no rfl) rfl rfl (R.move (v := (vi 7)) rfl) ?_
            refine WL.q (Wn.no rfl) rfl rfl (R.bin (v := (.bool true)) rfl rfl (bi_lss (r := true) (by decide))) ?_
            refine WL.nil ?_
            refine thn_n ?_
            refine WP.condT rfl ?_
            refine WP.skip ?_
            refine thn_n ?_
            refine WP.seq ?_
            refine WP.block ?_
            refine WP.seq ?_
            refine WP.drawT (SL w.heap.size [.blk b_56 .nw 28 [(1, [(vi rd)]), (1, [(vu64 ins)]), (8, (entRegs 1 ain regs).map vu64), (1, [(vu64 pc)]), (1, [(.bool true)]), (1, [(vi 0)])], .blk b_47 .nw 28 [(1, [(vi rd)]), (1, [(vu64 ins)]), (8, (entRegs 1 ain regs).map vu64), (1, [(vu64 pc)]), (1, [(.bool true)]), (1, [(vi 0)])], .blk b_7 .nw 40 [(1, [(vi rs)]), (4, ors.map vu64), (1, [(vu64 adr)]), (1, [(.bool wr)]), (1, [(vi ran)])], .blk b_4 .nw 31 [(4, ain.map vu64)], .blk b_1 .nw 28 [(1, [(vi rd)]), (1, [(vu64 ins)]), (8, regs.map vu64), (1, [(vu64 pc)]), (1, [(.bool true)]), (1, [(vi 1)])]]) (.q 0 (.q 1 (.q 2 (.q 3 (.q 4 (.q 5 (.q 6 (.q 7 (.q 8 (.q 9 (.q 10 (.q 11 (.q 12 (.q 13 (.q 14 (.q 15 (.q 16 (.q 17 (.q 18 (.q 19 .nil)))))))))))))))))))) (by kernel_rfl) (by kernel_rfl) rfl (by kernel_rfl) (fun w_110 hc_112 => (SL.cons ((h_108.same hc_112).ok _ (.head _)) (SL.cons ((h_108.same hc_112).ok _ (.tail _ (.head _))) (SL.cons ((h_108.same hc_112).ok _ (.tail _ (.tail _ (.head _)))) (SL.cons ((h_108.same hc_112).ok _ (.tail _ (.tail _ (.tail _ (.head _))))) (SL.cons ((h_108.same hc_112).ok _ (.tail _ (.tail _ (.tail _ (.tail _ (.head _)))))) (SL.nil _ _))))))) (fun w_110 hc_112 => ?_)
            have h_111 := h_108.same hc_112
            refine WT.q rfl (Wn.no rfl) rfl rfl (fun wq hS => R.move (v := (vi 7)) rfl) ?_
            refine WT.q rfl (Wn.no rfl) rfl rfl (fun wq hS => R.fieldAddr (b := b_56) (off := 0) (off' := 2) rfl Try.underlying28 rfl Try.sizeOf25 rfl rfl) ?_
            refine WT.q rfl (Wn.no rfl) rfl rfl (fun wq hS => R.fieldAddr (b := b_56) (off := 2) (off' := 2) rfl Try.underlying25 rfl Try.sizeOf23 rfl rfl) ?_
            refine WT.q rfl (Wn.no rfl) rfl rfl (fun wq hS => R.indexA (b := b_56) (off := 2) (off' := 9) (i := 7) rfl rfl rfl (by decide) Try.underlying23 Try.sizeOf22 rfl) ?_
            refine WT.q rfl (Wn.no rfl) rfl rfl (fun wq hS => R.loadE (b := b_56) (off := 9) (i := 7) (v := (vu64 ((entRegs 1 ain regs).getD 7 0))) rfl Try.isAgg22 (hS _ (.head _)) (Sg.t rfl (Sg.t rfl Sg.h)) rfl (get_u64 (lt_len (K := 8) (entRegs_len ha hr) (by decide)))) ?_
            refine WT.q rfl (Wn.no rfl) rfl rfl (fun wq hS => R.move (v := (vi 7)) rfl) ?_
            refine WT.q rfl (Wn.no rfl) rfl rfl (fun wq hS => R.fieldAddr (b := b_1) (off := 0) (off' := 2) rfl Try.underlying28 rfl Try.sizeOf25 rfl rfl) ?_
            refine WT.q rfl (Wn.no rfl) rfl rfl (fun wq hS => R.fieldAddr (b := b_1) (off := 2) (off' := 2) rfl Try.underlying25 rfl Try.sizeOf23 rfl rfl) ?_
            refine WT.q rfl (Wn.no rfl) rfl rfl (fun wq hS => R.indexA (b := b_1) (off := 2) (off' := 9) (i := 7) rfl rfl rfl (by decide) Try.underlying23 Try.sizeOf22 rfl) ?_
            refine WT.q rfl (Wn.no rfl) rfl rfl (fun wq hS => R.loadE (b := b_1) (off := 9) (i := 7) (v := (vu64 (regs.getD 7 0))) rfl Try.isAgg22 (hS _ (.tail _ (.tail _ (.tail _ (.tail _ (.head _)))))) (Sg.t rfl (Sg.t rfl Sg.h)) rfl (get_u64 (lt_len (K := 8) hr (by decide)))) ?_
            refine WT.q rfl (Wn.no rfl) rfl rfl (fun wq hS => R.bin (v := (.bool (decide (((entRegs 1 ain regs).getD 7 0 : UInt64) ≠ (regs.getD 7 0))))) rfl rfl (b64_neq ((entRegs 1 ain regs).getD 7 0) (regs.getD 7 0) (r := decide (((entRegs 1 ain regs).getD 7 0 : UInt64) ≠ (regs.getD 7 0))) rfl)) ?_
            refine WT.q rfl (Wn.no rfl) rfl rfl (fun wq hS => R.move (v := (.bool (decide (((entRegs 1 ain regs).getD 7 0 : UInt64) ≠ (regs.getD 7 0))))) rfl) ?_
            refine WT.skipQ rfl rfl rfl (boolNe (v := .bool false) (congrArg Value.bool (decide_eq_false (not_not_intro (ent_high ha hr).2.2.2))) (by decide)) rfl rfl ?_
            refine WT.skipQ rfl rfl rfl (boolNe (v := .bool false) (congrArg Value.bool (decide_eq_false (not_not_intro (ent_high ha hr).2.2.2))) (by decide)) rfl rfl ?_
            refine WT.skipQ rfl rfl rfl (boolNe (v := .bool false) (congrArg Value.bool (decide_eq_false (not_not_intro (ent_high ha hr).2.2.2))) (by decide)) rfl rfl ?_
            refine WT.skipQ rfl rfl rfl (boolNe (v := undef) rfl (by decide)) rfl rfl ?_
            refine WT.skipQ rfl rfl rfl (boolNe (v := undef) rfl (by decide)) rfl rfl ?_
            refine WT.skipQ rfl rfl rfl (boolNe (v := undef) rfl (by decide)) rfl rfl ?_
            refine WT.skipQ rfl rfl rfl (boolNe (v := .bool false) (congrArg Value.bool (decide_eq_false (not_not_intro (ent_high ha hr).2.2.2))) (by decide)) rfl rfl ?_
            refine WT.q rfl (Wn.no rfl) rfl rfl (fun wq hS => R.pickF (v := (.bool false)) (congrArg Value.bool (decide_eq_false (not_not_intro (ent_high ha hr).2.2.2))) rfl) ?_
            refine WT.nil ?_
            refine thn_n ?_
            refine WP.condF rfl ?_
            refine WP.skip ?_
            refine inb_n ?_
            refine thn_n ?_
            refine WP.reg ?_
            refine WL.q (Wn.no rfl) rfl rfl (R.move (v := (vi 7)) rfl) ?_
            refine WL.q (Wn.no rfl) rfl rfl (R.bin (v := (vi 8)) rfl rfl (bi_add (c := 8) (by omega) (by omega))) ?_
            refine WL.q (Wn.no rfl) rfl rfl (R.assign (v := (vi 8)) rfl) ?_
            refine WL.nil ?_
            refine thn_n ?_
            refine WI.round ?_
            refine WP.seq ?_
            refine WP.seq ?_
            refine WP.reg ?_
            refine WL.q (Wn.no rfl) rfl rfl (R.move (v := (vi 8)) rfl) ?_
            refine WL.q (Wn.no rfl) rfl rfl (R.bin (v := (.bool false)) rfl rfl (bi_lss (r := false) (by decide))) ?_
            refine WL.nil ?_
            refine thn_n ?_
            refine WP.condF rfl ?_
            refine WP.exit ?_
            refine thn_x ?_
            refine thn_x ?_
            refine inb_hit ?_
            refine thn_n ?_
            refine WP.seq ?_
            refine WP.reg ?_
            refine WL.call (al := []) Try.call15 rfl rfl (c_known14  _) rfl ?_
            rintro _ w_114 ⟨rfl, hc_113⟩
            have h_115 := h_111.same hc_113
            refine WL.q (Wn.no rfl) rfl rfl (R.assign (v := (.bool true)) rfl) ?_
            refine WL.nil ?_
            refine thn_n ?_
            refine WP.ret ?_
            refine ret_of Try.results9 (RV.tmp (v := (.bool true)) rfl RV.nil) ?_
            exact ⟨rfl, h_115.chgS⟩
        · have p_116 := of_decide_eq_false c_78
          refine WT.skipQ rfl rfl rfl (boolNe (v := .bool false) (congrArg Value.bool c_78) (by decide)) rfl rfl ?_
          refine WT.skipQ rfl rfl rfl (boolNe (v := .bool false) (congrArg Value.bool c_78) (by decide)) rfl rfl ?_
          refine WT.skipQ rfl rfl rfl (boolNe (v := .bool false) (congrArg Value.bool c_78) (by decide)) rfl rfl ?_
          refine WT.skipQ rfl rfl rfl (boolNe (v := undef) rfl (by decide)) rfl rfl ?_
          refine WT.skipQ rfl rfl rfl (boolNe (v := undef) rfl (by decide)) rfl rfl ?_
          refine WT.skipQ rfl rfl rfl (boolNe (v := undef) rfl (by decide)) rfl rfl ?_
          refine WT.skipQ rfl rfl rfl (boolNe (v := .bool false) (congrArg Value.bool c_78) (by decide)) rfl rfl ?_
          refine WT.q rfl (Wn.no rfl) rfl rfl (fun wq hS => R.pickF (v := (.bool false)) (congrArg Value.bool c_78) rfl) ?_
          refine WT.nil ?_
          refine thn_n ?_
          refine WP.condF rfl ?_
          refine WP.skip ?_
          refine inb_n ?_
          refine thn_n ?_
          refine WP.reg ?_
          refine WL.q (Wn.no rfl) rfl rfl (R.move (v := (vi 2)) rfl) ?_
          refine WL.q (Wn.no rfl) rfl rfl (R.bin (v := (vi 3)) rfl rfl (bi_add (c := 3) (by omega) (by omega))) ?_
          refine WL.q (Wn.no rfl) rfl rfl (R.assign (v := (vi 3)) rfl) ?_
          refine WL.nil ?_
          refine thn_n ?_
          refine WI.round ?_
          refine WP.seq ?_
          refine WP.seq ?_
          refine WP.reg ?_
          refine WL.q (Wn.no rfl) rfl rfl (R.move (v := (vi 3)) rfl) ?_
          refine WL.q (Wn.no rfl) rfl rfl (R.bin (v := (.bool true)) rfl rfl (bi_lss (r := true) (by decide))) ?_
          refine WL.nil ?_
          refine thn_n ?_
          refine WP.condT rfl ?_
          refine WP.skip ?_
          refine thn_n ?_
          refine WP.seq ?_
          refine WP.block ?_
          refine WP.seq ?_
          refine WP.drawT (SL w.heap.size [.blk b_56 .nw 28 [(1, [(vi rd)]), (1, [(vu64 ins)]), (8, (entRegs 1 ain regs).map vu64), (1, [(vu64 pc)]), (1, [(.bool true)]), (1, [(vi 0)])], .blk b_47 .nw 28 [(1, [(vi rd)]), (1, [(vu64 ins)]), (8, (entRegs 1 ain regs).map vu64), (1, [(vu64 pc)]), (1, [(.bool true)]), (1, [(vi 0)])], .blk b_7 .nw 40 [(1, [(vi rs)]), (4, ors.map vu64), (1, [(vu64 adr)]), (1, [(.bool wr)]), (1, [(vi ran)])], .blk b_4 .nw 31 [(4, ain.map vu64)], .blk b_1 .nw 28 [(1, [(vi rd)]), (1, [(vu64 ins)]), (8, regs.map vu64), (1, [(vu64 pc)]), (1, [(.bool true)]), (1, [(vi 1)])]]) (.q 0 (.q 1 (.q 2 (.q 3 (.q 4 (.q 5 (.q 6 (.q 7 (.q 8 (.q 9 (.q 10 (.q 11 (.q 12 (.q 13 (.q 14 (.q 15 (.q 16 (.q 17 (.q 18 (.q 19 .nil)))))))))))))))))))) (by kernel_rfl) (by kernel_rfl) rfl (by kernel_rfl) (fun w_117 hc_119 => (SL.cons ((h_76.same hc_119).ok _ (.head _)) (SL.cons ((h_76.same hc_119).ok _ (.tail _ (.head _))) (SL.cons ((h_76.same hc_119).ok _ (.tail _ (.tail _ (.head _)))) (SL.cons ((h_76.same hc_119).ok _ (.tail _ (.tail _ (.tail _ (.head _))))) (SL.cons ((h_76.same hc_119).ok _ (.tail _ (.tail _ (.tail _ (.tail _ (.head _)))))) (SL.nil _ _))))))) (fun w_117 hc_119 => ?_)
          have h_118 := h_76.same hc_119
          refine WT.q rfl (Wn.no rfl) rfl rfl (fun wq hS => R.move (v := (vi 3)) rfl) ?_
          refine WT.q rfl (Wn.no rfl) rfl rfl (fun wq hS => R.fieldAddr (b := b_56) (off := 0) (off' := 2) rfl Try.underlying28 rfl Try.sizeOf25 rfl rfl) ?_
          refine WT.q rfl (Wn.no rfl) rfl rfl (fun wq hS => R.fieldAddr (b := b_56) (off := 2) (off' := 2) rfl Try.underlying25 rfl Try.sizeOf23 rfl rfl) ?_
          refine WT.q rfl (Wn.no rfl) rfl rfl (fun wq hS => R.indexA (b := b_56) (off := 2) (off' := 5) (i := 3) rfl rfl rfl (by decide) Try.underlying23 Try.sizeOf22 rfl) ?_
          refine WT.q rfl (Wn.no rfl) rfl rfl (fun wq hS => R.loadE (b := b_56) (off := 5) (i := 3) (v := (vu64 ((entRegs 1 ain regs).getD 3 0))) rfl Try.isAgg22 (hS _ (.head _)) (Sg.t rfl (Sg.t rfl Sg.h)) rfl (get_u64 (lt_len (K := 8) (entRegs_len ha hr) (by decide)))) ?_
          refine WT.q rfl (Wn.no rfl) rfl rfl (fun wq hS => R.move (v := (vi 3)) rfl) ?_
          refine WT.q rfl (Wn.no rfl) rfl rfl (fun wq hS => R.fieldAddr (b := b_1) (off := 0) (off' := 2) rfl Try.underlying28 rfl Try.sizeOf25 rfl rfl) ?_
          refine WT.q rfl (Wn.no rfl) rfl rfl (fun wq hS => R.fieldAddr (b := b_1) (off := 2) (off' := 2) rfl Try.underlying25 rfl Try.sizeOf23 rfl rfl) ?_
          refine WT.q rfl (Wn.no rfl) rfl rfl (fun wq hS => R.indexA (b := b_1) (off := 2) (off' := 5) (i := 3) rfl rfl rfl (by decide) Try.underlying23 Try.sizeOf22 rfl) ?_
          refine WT.q rfl (Wn.no rfl) rfl rfl (fun wq hS => R.loadE (b := b_1) (off := 5) (i := 3) (v := (vu64 (regs.getD 3 0))) rfl Try.isAgg22 (hS _ (.tail _ (.tail _ (.tail _ (.tail _ (.head _)))))) (Sg.t rfl (Sg.t rfl Sg.h)) rfl (get_u64 (lt_len (K := 8) hr (by decide)))) ?_
          refine WT.q rfl (Wn.no rfl) rfl rfl (fun wq hS => R.bin (v := (.bool (decide (((entRegs 1 ain regs).getD 3 0 : UInt64) ≠ (regs.getD 3 0))))) rfl rfl (b64_neq ((entRegs 1 ain regs).getD 3 0) (regs.getD 3 0) (r := decide (((entRegs 1 ain regs).getD 3 0 : UInt64) ≠ (regs.getD 3 0))) rfl)) ?_
          refine WT.q rfl (Wn.no rfl) rfl rfl (fun wq hS => R.move (v := (.bool (decide (((entRegs 1 ain regs).getD 3 0 : UInt64) ≠ (regs.getD 3 0))))) rfl) ?_
          rcases Bool.eq_false_or_eq_true (decide (((entRegs 1 ain regs).getD 3 0 : UInt64) ≠ (regs.getD 3 0))) with c_120 | c_120
          · have p_121 := of_decide_eq_true c_120
            refine WT.q rfl (Wn.yes rfl rfl (congrArg Value.bool c_120)) rfl rfl (fun wq hS => R.move (v := (vi 3)) rfl) ?_
            refine WT.q rfl (Wn.yes rfl rfl (congrArg Value.bool c_120)) rfl rfl (fun wq hS => R.bin (v := (.bool false)) rfl rfl (bi_gtr (r := false) (by decide))) ?_
            refine WT.q rfl (Wn.yes rfl rfl (congrArg Value.bool c_120)) rfl rfl (fun wq hS => R.move (v := (.bool false)) rfl) ?_
            refine WT.q rfl (Wn.yes rfl rfl rfl) rfl rfl (fun wq hS => R.fieldAddr (b := b_1) (off := 0) (off' := 12) rfl Try.underlying28 rfl Try.sizeOf26 rfl rfl) ?_
            refine WT.q rfl (Wn.yes rfl rfl rfl) rfl rfl (fun wq hS => R.load1 (b := b_1) (off := 12) (v := (vi 1)) rfl Try.isAgg26 (hS _ (.tail _ (.tail _ (.tail _ (.tail _ (.head _)))))) (Sg.t rfl (Sg.t rfl (Sg.t rfl (Sg.t rfl (Sg.t rfl Sg.h)))))) ?_
            refine WT.q rfl (Wn.yes rfl rfl rfl) rfl rfl (fun wq hS => R.bin (v := (.bool false)) rfl rfl (bi_neq (r := false) (by decide))) ?_
            refine WT.q rfl (Wn.yes rfl rfl (congrArg Value.bool c_120)) rfl rfl (fun wq hS => R.pickF (v := (.bool false)) rfl rfl) ?_
            refine WT.q rfl (Wn.no rfl) rfl rfl (fun wq hS => R.pickT (v := (.bool false)) (congrArg Value.bool c_120) rfl) ?_
            refine WT.nil ?_
            refine thn_n ?_
            refine WP.condF rfl ?_
            refine WP.skip ?_
            refine inb_n ?_
            refine thn_n ?_
            refine WP.reg ?_
            refine WL.q (Wn.no rfl) rfl rfl (R.move (v := (vi 3)) rfl) ?_
            refine WL.q (Wn.no rfl) rfl rfl (R.bin (v := (vi 4)) rfl rfl (bi_add (c := 4) (by omega) (by omega))) ?_
            refine WL.q (Wn.no rfl) rfl rfl (R.assign (v := (vi 4)) rfl) ?_
            refine WL.nil ?_
            refine thn_n ?_
            refine WI.round ?_
            refine WP.seq ?_
            refine WP.seq ?_
            refine WP.reg ?_
            refine WL.q (Wn.no rfl) rfl rfl (R.move (v := (vi 4)) rfl) ?_
            refine WL.q (Wn.no rfl) rfl rfl (R.bin (v := (.bool true)) rfl rfl (bi_lss (r := true) (by decide))) ?_
            refine WL.nil ?_
            refine thn_n ?_
            refine WP.condT rfl ?_
            refine WP.skip ?_
            refine thn_n ?_
            refine WP.seq ?_
            refine WP.block ?_
            refine WP.seq ?_
            refine WP.drawT (SL w.heap.size [.blk b_56 .nw 28 [(1, [(vi rd)]), (1, [(vu64 ins)]), (8, (entRegs 1 ain regs).map vu64), (1, [(vu64 pc)]), (1, [(.bool true)]), (1, [(vi 0)])], .blk b_47 .nw 28 [(1, [(vi rd)]), (1, [(vu64 ins)]), (8, (entRegs 1 ain regs).map vu64), (1, [(vu64 pc)]), (1, [(.bool true)]), (1, [(vi 0)])], .blk b_7 .nw 40 [(1, [(vi rs)]), (4, ors.map vu64), (1, [(vu64 adr)]), (1, [(.bool wr)]), (1, [(vi ran)])], .blk b_4 .nw 31 [(4, ain.map vu64)], .blk b_1 .nw 28 [(1, [(vi rd)]), (1, [(vu64 ins)]), (8, regs.map vu64), (1, [(vu64 pc)]), (1, [(.bool true)]), (1, [(vi 1)])]]) (.q 0 (.q 1 (.q 2 (.q 3 (.q 4 (.q 5 (.q 6 (.q 7 (.q 8 (.q 9 (.q 10 (.q 11 (.q 12 (.q 13 (.q 14 (.q 15 (.q 16 (.q 17 (.q 18 (.q 19 .nil)))))))))))))))))))) (by kernel_rfl) (by kernel_rfl) rfl (by kernel_rfl) (fun w_122 hc_124 => (SL.cons ((h_118.same hc_124).ok _ (.head _)) (SL.cons ((h_118.same hc_124).ok _ (.tail _ (.head _))) (SL.cons ((h_118.same hc_124).ok _ (.tail _ (.tail _ (.head _)))) (SL.cons ((h_118.same hc_124).ok _ (.tail _ (.tail _ (.tail _ (.head _))))) (SL.cons ((h_118.same hc_124).ok _ (.tail _ (.tail _ (.tail _ (.tail _ (.head _)))))) (SL.nil _ _))))))) (fun w_122 hc_124 => ?_)
            have h_123 := h_118.same hc_124
            refine WT.q rfl (Wn.no rfl) rfl rfl (fun wq hS => R.move (v := (vi 4)) rfl) ?_
            refine WT.q rfl (Wn.no rfl) rfl rfl (fun wq hS => R.fieldAddr (b := b_56) (off := 0) (off' := 2) rfl Try.underlying28 rfl Try.sizeOf25 rfl rfl) ?_
            refine WT.q rfl (Wn.no rfl) rfl rfl (fun wq hS => R.fieldAddr (b := b_56) (off := 2) (off' := 2) rfl Try.underlying25 rfl Try.sizeOf23 rfl rfl) ?_
            refine WT.q rfl (Wn.no rfl) rfl rfl (fun wq hS => R.indexA (b := b_56) (off := 2) (off' := 6) (i := 4) rfl rfl rfl (by decide) Try.underlying23 Try.sizeOf22 rfl) ?_
            refine WT.q rfl (Wn.no rfl) rfl rfl (fun wq hS => R.loadE (b := b_56) (off := 6) (i := 4) (v := (vu64 ((entRegs 1 ain regs).getD 4 0))) rfl Try.isAgg22 (hS _ (.head _)) (Sg.t rfl (Sg.t rfl Sg.h)) rfl (get_u64 (lt_len (K := 8) (entRegs_len ha hr) (by decide)))) ?_
            refine WT.q rfl (Wn.no rfl) rfl rfl (fun wq hS => R.move (v := (vi 4)) rfl) ?_
            refine WT.q rfl (Wn.no rfl) rfl rfl (fun wq hS => R.fieldAddr (b := b_1) (off := 0) (off' := 2) rfl Try.underlying28 rfl Try.sizeOf25 rfl rfl) ?_
            refine WT.q rfl (Wn.no rfl) rfl rfl (fun wq hS => R.fieldAddr (b := b_1) (off := 2) (off' := 2) rfl Try.underlying25 rfl Try.sizeOf23 rfl rfl) ?_
            refine WT.q rfl (Wn.no rfl) rfl rfl (fun wq hS => R.indexA (b := b_1) (off := 2) (off' := 6) (i := 4) rfl rfl rfl (by decide) Try.underlying23 Try.sizeOf22 rfl) ?_
            refine WT.q rfl (Wn.no rfl) rfl rfl (fun wq hS => R.loadE (b := b_1) (off := 6) (i := 4) (v := (vu64 (regs.getD 4 0))) rfl Try.isAgg22 (hS _ (.tail _ (.tail _ (.tail _ (.tail _ (.head _)))))) (Sg.t rfl (Sg.t rfl Sg.h)) rfl (get_u64 (lt_len (K := 8) hr (by decide)))) ?_
            refine WT.q rfl (Wn.no rfl) rfl rfl (fun wq hS => R.bin (v := (.bool (decide (((entRegs 1 ain regs).getD 4 0 : UInt64) ≠ (regs.getD 4 0))))) rfl rfl (b64_neq ((entRegs 1 ain regs).getD 4 0) (regs.getD 4 0) (r := decide (((entRegs 1 ain regs).getD 4 0 : UInt64) ≠ (regs.getD 4 0))) rfl)) ?_
            refine WT.q rfl (Wn.no rfl) rfl rfl (fun wq hS => R.move (v := (.bool (decide (((entRegs 1 ain regs).getD 4 0 : UInt64) ≠ (regs.getD 4 0))))) rfl) ?_
            refine WT.skipQ rfl rfl rfl (boolNe (v := .bool false) (congrArg Value.bool (decide_eq_false (not_not_intro (ent_high ha hr).1))) (by decide)) rfl rfl ?_
            refine WT.skipQ rfl rfl rfl (boolNe (v := .bool false) (congrArg Value.bool (decide_eq_false (not_not_intro (ent_high ha hr).1))) (by decide)) rfl rfl ?_
            refine WT.skipQ rfl rfl rfl (boolNe (v := .bool false) (congrArg Value.bool (decide_eq_false (not_not_intro (ent_high ha hr).1))) (by decide)) rfl rfl ?_
            refine WT.skipQ rfl rfl rfl (boolNe (v := undef) rfl (by decide)) rfl rfl ?_
            refine WT.skipQ rfl rfl rfl (boolNe (v := undef) rfl (by decide)) rfl rfl ?_
            refine WT.skipQ rfl rfl rfl (boolNe (v := undef) rfl (by decide)) rfl rfl ?_
            refine WT.skipQ rfl rfl rfl (boolNe (v := .bool false) (congrArg Value.bool (decide_eq_false (not_not_intro (ent_high ha hr).1))) (by decide)) rfl rfl ?_
            refine WT.q rfl (Wn.no rfl) rfl rfl (fun wq hS => R.pickF (v := (.bool false)) (congrArg Value.bool (decide_eq_false (not_not_intro (ent_high ha hr).1))) rfl) ?_
            refine WT.nil ?_
            refine thn_n ?_
            refine WP.condF rfl ?_
            refine WP.skip ?_
            refine inb_n ?_
            refine thn_n ?_
            refine WP.reg ?_
            refine WL.q (Wn.no rfl) rfl rfl (R.move (v := (vi 4)) rfl) ?_
            refine WL.q (Wn.no rfl) rfl rfl (R.bin (v := (vi 5)) rfl rfl (bi_add (c := 5) (by omega) (by omega))) ?_
            refine WL.q (Wn.no rfl) rfl rfl (R.assign (v := (vi 5)) rfl) ?_
            refine WL.nil ?_
            refine thn_n ?_
            refine WI.round ?_
            refine WP.seq ?_
            refine WP.seq ?_
            refine WP.reg ?_
            refine WL.q (Wn.no rfl) rfl rfl (R.move (v := (vi 5)) rfl) ?_
            refine WL.q (Wn.no rfl) rfl rfl (R.bin (v := (.bool true)) rfl rfl (bi_lss (r := true) (by decide))) ?_
            refine WL.nil ?_
            refine thn_n ?_
            refine WP.condT rfl ?_
            refine WP.skip ?_
            refine thn_n ?_
            refine WP.seq ?_
            refine WP.block ?_
            refine WP.seq ?_
            refine WP.drawT (SL w.heap.size [.blk b_56 .nw 28 [(1, [(vi rd)]), (1, [(vu64 ins)]), (8, (entRegs 1 ain regs).map vu64), (1, [(vu64 pc)]), (1, [(.bool true)]), (1, [(vi 0)])], .blk b_47 .nw 28 [(1, [(vi rd)]), (1, [(vu64 ins)]), (8, (entRegs 1 ain regs).map vu64), (1, [(vu64 pc)]), (1, [(.bool true)]), (1, [(vi 0)])], .blk b_7 .nw 40 [(1, [(vi rs)]), (4, ors.map vu64), (1, [(vu64 adr)]), (1, [(.bool wr)]), (1, [(vi ran)])], .blk b_4 .nw 31 [(4, ain.map vu64)], .blk b_1 .nw 28 [(1, [(vi rd)]), (1, [(vu64 ins)]), (8, regs.map vu64), (1, [(vu64 pc)]), (1, [(.bool true)]), (1, [(vi 1)])]]) (.q 0 (.q 1 (.q 2 (.q 3 (.q 4 (.q 5 (.q 6 (.q 7 (.q 8 (.q 9 (.q 10 (.q 11 (.q 12 (.q 13 (.q 14 (.q 15 (.q 16 (.q 17 (.q 18 (.q 19 .nil)))))))))))))))))))) (by kernel_rfl) (by kernel_rfl) rfl (by kernel_rfl) (fun w_125 hc_127 => (SL.cons ((h_123.same hc_127).ok _ (.head _)) (SL.cons ((h_123.same hc_127).ok _ (.tail _ (.head _))) (SL.cons ((h_123.same hc_127).ok _ (.tail _ (.tail _ (.head _)))) (SL.cons ((h_123.same hc_127).ok _ (.tail _ (.tail _ (.tail _ (.head _))))) (SL.cons ((h_123.same hc_127).ok _ (.tail _ (.tail _ (.tail _ (.tail _ (.head _)))))) (SL.nil _ _))))))) (fun w_125 hc_127 => ?_)
            have h_126 := h_123.same hc_127
            refine WT.q rfl (Wn.no rfl) rfl rfl (fun wq hS => R.move (v := (vi 5)) rfl) ?_
            refine WT.q rfl (Wn.no rfl) rfl rfl (fun wq hS => R.fieldAddr (b := b_56) (off := 0) (off' := 2) rfl Try.underlying28 rfl Try.sizeOf25 rfl rfl) ?_
            refine WT.q rfl (Wn.no rfl) rfl rfl (fun wq hS => R.fieldAddr (b := b_56) (off := 2) (off' := 2) rfl Try.underlying25 rfl Try.sizeOf23 rfl rfl) ?_
            refine WT.q rfl (Wn.no rfl) rfl rfl (fun wq hS => R.indexA (b := b_56) (off := 2) (off' := 7) (i := 5) rfl rfl rfl (by decide) Try.underlying23 Try.sizeOf22 rfl) ?_
            refine WT.q rfl (Wn.no rfl) rfl rfl (fun wq hS => R.loadE (b := b_56) (off := 7) (i := 5) (v := (vu64 ((entRegs 1 ain regs).getD 5 0))) rfl Try.isAgg22 (hS _ (.head _)) (Sg.t rfl (Sg.t rfl Sg.h)) rfl (get_u64 (lt_len (K := 8) (entRegs_len ha hr) (by decide)))) ?_
            refine WT.q rfl (Wn.no rfl) rfl rfl (fun wq hS => R.move (v := (vi 5)) rfl) ?_
            refine WT.q rfl (Wn.no rfl) rfl rfl (fun wq hS => R.fieldAddr (b := b_1) (off := 0) (off' := 2) rfl Try.underlying28 rfl Try.sizeOf25 rfl rfl) ?_
            refine WT.q rfl (Wn.no rfl) rfl rfl (fun wq hS => R.fieldAddr (b := b_1) (off := 2) (off' := 2) rfl Try.underlying25 rfl Try.sizeOf23 rfl rfl) ?_
            refine WT.q rfl (Wn.no rfl) rfl rfl (fun wq hS => R.indexA (b := b_1) (off := 2) (off' := 7) (i := 5) rfl rfl rfl (by decide) Try.underlying23 Try.sizeOf22 rfl) ?_
            refine WT.q rfl (Wn.no rfl) rfl rfl (fun wq hS => R.loadE (b := b_1) (off := 7) (i := 5) (v := (vu64 (regs.getD 5 0))) rfl Try.isAgg22 (hS _ (.tail _ (.tail _ (.tail _ (.tail _ (.head _)))))) (Sg.t rfl (Sg.t rfl Sg.h)) rfl (get_u64 (lt_len (K := 8) hr (by decide)))) ?_
            refine WT.q rfl (Wn.no rfl) rfl rfl (fun wq hS => R.bin (v := (.bool (decide (((entRegs 1 ain regs).getD 5 0 : UInt64) ≠ (regs.getD 5 0))))) rfl rfl (b64_neq ((entRegs 1 ain regs).getD 5 0) (regs.getD 5 0) (r := decide (((entRegs 1 ain regs).getD 5 0 : UInt64) ≠ (regs.getD 5 0))) rfl)) ?_
            refine WT.q rfl (Wn.no rfl) rfl rfl (fun wq hS => R.move (v := (.bool (decide (((entRegs 1 ain regs).getD 5 0 : UInt64) ≠ (regs.getD 5 0))))) rfl) ?_
            refine WT.skipQ rfl rfl rfl (boolNe (v := .bool false) (congrArg Value.bool (decide_eq_false (not_not_intro (ent_high ha hr).2.1))) (by decide)) rfl rfl ?_
            refine WT.skipQ rfl rfl rfl (boolNe (v := .bool false) (congrArg Value.bool (decide_eq_false (not_not_intro (ent_high ha hr).2.1))) (by decide)) rfl rfl ?_
            refine WT.skipQ rfl rfl rfl (boolNe (v := .bool false) (congrArg Value.bool (decide_eq_false (not_not_intro (ent_high ha hr).2.1))) (by decide)) rfl rfl ?_
            refine WT.skipQ rfl rfl rfl (boolNe (v := undef) rfl (by decide)) rfl rfl ?_
            refine WT.skipQ rfl rfl rfl (boolNe (v := undef) rfl (by decide)) rfl rfl ?_
            refine WT.skipQ rfl rfl rfl (boolNe (v := undef) rfl (by decide)) rfl rfl ?_
            refine WT.skipQ rfl rfl rfl (boolNe (v := .bool false) (congrArg Value.bool (decide_eq_false (not_not_intro (ent_high ha hr).2.1))) (by decide)) rfl rfl ?_
            refine WT.q rfl (Wn.no rfl) rfl rfl (fun wq hS => R.pickF (v := (.bool false)) (congrArg Value.bool (decide_eq_false (not_not_intro (ent_high ha hr).2.1))) rfl) ?_
            refine WT.nil ?_
            refine thn_n ?_
            refine WP.condF rfl ?_
            refine WP.skip ?_
            refine inb_n ?_
            refine thn_n ?_
            refine WP.reg ?_
            refine WL.q (Wn.no rfl) rfl rfl (R.move (v := (vi 5)) rfl) ?_
            refine WL.q (Wn.no rfl) rfl rfl (R.bin (v := (vi 6)) rfl rfl (bi_add (c := 6) (by omega) (by omega))) ?_
            refine WL.q (Wn.no rfl) rfl rfl (R.assign (v := (vi 6)) rfl) ?_
            refine WL.nil ?_
            refine thn_n ?_
            refine WI.round ?_
            refine WP.seq ?_
            refine WP.seq ?_
            refine WP.reg ?_
            refine WL.q (Wn.no rfl) rfl rfl (R.move (v := (vi 6)) rfl) ?_
            refine WL.q (Wn.no rfl) rfl rfl (R.bin (v := (.bool true)) rfl rfl (bi_lss (r := true) (by decide))) ?_
            refine WL.nil ?_
            refine thn_n ?_
            refine WP.condT rfl ?_
            refine WP.skip ?_
            refine thn_n ?_
            refine WP.seq ?_
            refine WP.block ?_
            refine WP.seq ?_
            refine WP.drawT (SL w.heap.size [.blk b_56 .nw 28 [(1, [(vi rd)]), (1, [(vu64 ins)]), (8, (entRegs 1 ain regs).map vu64), (1, [(vu64 pc)]), (1, [(.bool true)]), (1, [(vi 0)])], .blk b_47 .nw 28 [(1, [(vi rd)]), (1, [(vu64 ins)]), (8, (entRegs 1 ain regs).map vu64), (1, [(vu64 pc)]), (1, [(.bool true)]), (1, [(vi 0)])], .blk b_7 .nw 40 [(1, [(vi rs)]), (4, ors.map vu64), (1, [(vu64 adr)]), (1, [(.bool wr)]), (1, [(vi ran)])], .blk b_4 .nw 31 [(4, ain.map vu64)], .blk b_1 .nw 28 [(1, [(vi rd)]), (1, [(vu64 ins)]), (8, regs.map vu64), (1, [(vu64 pc)]), (1, [(.bool true)]), (1, [(vi 1)])]]) (.q 0 (.q 1 (.q 2 (.q 3 (.q 4 (.q 5 (.q 6 (.q 7 (.q 8 (.q 9 (.q 10 (.q 11 (.q 12 (.q 13 (.q 14 (.q 15 (.q 16 (.q 17 (.q 18 (.q 19 .nil)))))))))))))))))))) (by kernel_rfl) (by kernel_rfl) rfl (by kernel_rfl) (fun w_128 hc_130 => (SL.cons ((h_126.same hc_130).ok _ (.head _)) (SL.cons ((h_126.same hc_130).ok _ (.tail _ (.head _))) (SL.cons ((h_126.same hc_130).ok _ (.tail _ (.tail _ (.head _)))) (SL.cons ((h_126.same hc_130).ok _ (.tail _ (.tail _ (.tail _ (.head _))))) (SL.cons ((h_126.same hc_130).ok _ (.tail _ (.tail _ (.tail _ (.tail _ (.head _)))))) (SL.nil _ _))))))) (fun w_128 hc_130 => ?_)
            have h_129 := h_126.same hc_130
            refine WT.q rfl (Wn.no rfl) rfl rfl (fun wq hS => R.move (v := (vi 6)) rfl) ?_
            refine WT.q rfl (Wn.no rfl) rfl rfl (fun wq hS => R.fieldAddr (b := b_56) (off := 0) (off' := 2) rfl Try.underlying28 rfl Try.sizeOf25 rfl rfl) ?_
            refine WT.q rfl (Wn.no rfl) rfl rfl (fun wq hS => R.fieldAddr (b := b_56) (off := 2) (off' := 2) rfl Try.underlying25 rfl Try.sizeOf23 rfl rfl) ?_
            refine WT.q rfl (Wn.no rfl) rfl rfl (fun wq hS => R.indexA (b := b_56) (off := 2) (off' := 8) (i := 6) rfl rfl rfl (by decide) Try.underlying23 Try.sizeOf22 rfl) ?_
            refine WT.q rfl (Wn.no rfl) rfl rfl (fun wq hS => R.loadE (b := b_56) (off := 8) (i := 6) (v := (vu64 ((entRegs 1 ain regs).getD 6 0))) rfl Try.isAgg22 (hS _ (.head _)) (Sg.t rfl (Sg.t rfl Sg.h)) rfl (get_u64 (lt_len (K := 8) (entRegs_len ha hr) (by decide)))) ?_
            refine WT.q rfl (Wn.no rfl) rfl rfl (fun wq hS => R.move (v := (vi 6)) rfl) ?_
            refine WT.q rfl (Wn.no rfl) rfl rfl (fun wq hS => R.fieldAddr (b := b_1) (off := 0) (off' := 2) rfl Try.underlying28 rfl Try.sizeOf25 rfl rfl) ?_
            refine WT.q rfl (Wn.no rfl) rfl rfl (fun wq hS => R.fieldAddr (b := b_1) (off := 2) (off' := 2) rfl Try.underlying25 rfl Try.sizeOf23 rfl rfl) ?_
            refine WT.q rfl (Wn.no rfl) rfl rfl (fun wq hS => R.indexA (b := b_1) (off := 2) (off' := 8) (i := 6) rfl rfl rfl (by decide) Try.underlying23 Try.sizeOf22 rfl) ?_
            refine WT.q rfl (Wn.no rfl) rfl rfl (fun wq hS => R.loadE (b := b_1) (off := 8) (i := 6) (v := (vu64 (regs.getD 6 0))) rfl Try.isAgg22 (hS _ (.tail _ (.tail _ (.tail _ (.tail _ (.head _)))))) (Sg.t rfl (Sg.t rfl Sg.h)) rfl (get_u64 (lt_len (K := 8) hr (by decide)))) ?_
            refine WT.q rfl (Wn.no rfl) rfl rfl (fun wq hS => R.bin (v := (.bool (decide (((entRegs 1 ain regs).getD 6 0 : UInt64) ≠ (regs.getD 6 0))))) rfl rfl (b64_neq ((entRegs 1 ain regs).getD 6 0) (regs.getD 6 0) (r := decide (((entRegs 1 ain regs).getD 6 0 : UInt64) ≠ (regs.getD 6 0))) rfl)) ?_
            refine WT.q rfl (Wn.no rfl) rfl rfl (fun wq hS => R.move (v := (.bool (decide (((entRegs 1 ain regs).getD 6 0 : UInt64) ≠ (regs.getD 6 0))))) rfl) ?_
            refine WT.skipQ rfl rfl rfl (boolNe (v := .bool false) (congrArg Value.bool (decide_eq_false (not_not_intro (ent_high ha hr).2.2.1))) (by decide)) rfl rfl ?_
            refine WT.skipQ rfl rfl rfl (boolNe (v := .bool false) (congrArg Value.bool (decide_eq_false (not_not_intro (ent_high ha hr).2.2.1))) (by decide)) rfl rfl ?_
            refine WT.skipQ rfl rfl rfl (boolNe (v := .bool false) (congrArg Value.bool (decide_eq_false (not_not_intro (ent_high ha hr).2.2.1))) (by decide)) rfl rfl ?_
            refine WT.skipQ rfl rfl rfl (boolNe (v := undef) rfl (by decide)) rfl rfl ?_
            refine WT.skipQ rfl rfl rfl (boolNe (v := undef) rfl (by decide)) rfl rfl ?_
            refine WT.skipQ rfl rfl rfl (boolNe (v := undef) rfl (by decide)) rfl rfl ?_
            refine WT.skipQ rfl rfl rfl (boolNe (v := .bool false) (congrArg Value.bool (decide_eq_false (not_not_intro (ent_high ha hr).2.2.1))) (by decide)) rfl rfl ?_
            refine WT.q rfl (Wn.no rfl) rfl rfl (fun wq hS => R.pickF (v := (.bool false)) (congrArg Value.bool (decide_eq_false (not_not_intro (ent_high ha hr).2.2.1))) rfl) ?_
            refine WT.nil ?_
            refine thn_n ?_
            refine WP.condF rfl ?_
            refine WP.skip ?_
            refine inb_n ?_
            refine thn_n ?_
            refine WP.reg ?_
            refine WL.q (Wn.no rfl) rfl rfl (R.move (v := (vi 6)) rfl) ?_
            refine WL.q (Wn.no rfl) rfl rfl (R.bin (v := (vi 7)) rfl rfl (bi_add (c := 7) (by omega) (by omega))) ?_
            refine WL.q (Wn.no rfl) rfl rfl (R.assign (v := (vi 7)) rfl) ?_
            refine WL.nil ?_
            refine thn_n ?_
            refine WI.round ?_
            refine WP.seq ?_
            refine WP.seq ?_
            refine WP.reg ?_
            refine WL.q (Wn.no rfl) rfl rfl (R.move (v := (vi 7)) rfl) ?_
            refine WL.q (Wn.no rfl) rfl rfl (R.bin (v := (.bool true)) rfl rfl (bi_lss (r := true) (by decide))) ?_
            refine WL.nil ?_
            refine thn_n ?_
            refine WP.condT rfl ?_
            refine WP.skip ?_
            refine thn_n ?_
            refine WP.seq ?_
            refine WP.block ?_
            refine WP.seq ?_
            refine WP.drawT (SL w.heap.size [.blk b_56 .nw 28 [(1, [(vi rd)]), (1, [(vu64 ins)]), (8, (entRegs 1 ain regs).map vu64), (1, [(vu64 pc)]), (1, [(.bool true)]), (1, [(vi 0)])], .blk b_47 .nw 28 [(1, [(vi rd)]), (1, [(vu64 ins)]), (8, (entRegs 1 ain regs).map vu64), (1, [(vu64 pc)]), (1, [(.bool true)]), (1, [(vi 0)])], .blk b_7 .nw 40 [(1, [(vi rs)]), (4, ors.map vu64), (1, [(vu64 adr)]), (1, [(.bool wr)]), (1, [(vi ran)])], .blk b_4 .nw 31 [(4, ain.map vu64)], .blk b_1 .nw 28 [(1, [(vi rd)]), (1, [(vu64 ins)]), (8, regs.map vu64), (1, [(vu64 pc)]), (1, [(.bool true)]), (1, [(vi 1)])]]) (.q 0 (.q 1 (.q 2 (.q 3 (.q 4 (.q 5 (.q 6 (.q 7 (.q 8 (.q 9 (.q 10 (.q 11 (.q 12 (.q 13 (.q 14 (.q 15 (.q 16 (.q 17 (.q 18 (.q 19 .nil)))))))))))))))))))) (by kernel_rfl) (by kernel_rfl) rfl (by kernel_rfl) (fun w_131 hc_133 => (SL.cons ((h_129.same hc_133).ok _ (.head _)) (SL.cons ((h_129.same hc_133).ok _ (.tail _ (.head _))) (SL.cons ((h_129.same hc_133).ok _ (.tail _ (.tail _ (.head _)))) (SL.cons ((h_129.same hc_133).ok _ (.tail _ (.tail _ (.tail _ (.head _))))) (SL.cons ((h_129.same hc_133).ok _ (.tail _ (.tail _ (.tail _ (.tail _ (.head _)))))) (SL.nil _ _))))))) (fun w_131 hc_133 => ?_)
            have h_132 := h_129.same hc_133
            refine WT.q rfl (Wn.no rfl) rfl rfl (fun wq hS => R.move (v := (vi 7)) rfl) ?_
            refine WT.q rfl (Wn.no rfl) rfl rfl (fun wq hS => R.fieldAddr (b := b_56) (off := 0) (off' := 2) rfl Try.underlying28 rfl Try.sizeOf25 rfl rfl) ?_
            refine WT.q rfl (Wn.no rfl) rfl rfl (fun wq hS => R.fieldAddr (b := b_56) (off := 2) (off' := 2) rfl Try.underlying25 rfl Try.sizeOf23 rfl rfl) ?_
            refine WT.q rfl (Wn.no rfl) rfl rfl (fun wq hS => R.indexA (b := b_56) (off := 2) (off' := 9) (i := 7) rfl rfl rfl (by decide) Try.underlying23 Try.sizeOf22 rfl) ?_
            refine WT.q rfl (Wn.no rfl) rfl rfl (fun wq hS => R.loadE (b := b_56) (off := 9) (i := 7) (v := (vu64 ((entRegs 1 ain regs).getD 7 0))) rfl Try.isAgg22 (hS _ (.head _)) (Sg.t rfl (Sg.t rfl Sg.h)) rfl (get_u64 (lt_len (K := 8) (entRegs_len ha hr) (by decide)))) ?_
            refine WT.q rfl (Wn.no rfl) rfl rfl (fun wq hS => R.move (v := (vi 7)) rfl) ?_
            refine WT.q rfl (Wn.no rfl) rfl rfl (fun wq hS => R.fieldAddr (b := b_1) (off := 0) (off' := 2) rfl Try.underlying28 rfl Try.sizeOf25 rfl rfl) ?_
            refine WT.q rfl (Wn.no rfl) rfl rfl (fun wq hS => R.fieldAddr (b := b_1) (off := 2) (off' := 2) rfl Try.underlying25 rfl Try.sizeOf23 rfl rfl) ?_
            refine WT.q rfl (Wn.no rfl) rfl rfl (fun wq hS => R.indexA (b := b_1) (off := 2) (off' := 9) (i := 7) rfl rfl rfl (by decide) Try.underlying23 Try.sizeOf22 rfl) ?_
            refine WT.q rfl (Wn.no rfl) rfl rfl (fun wq hS => R.loadE (b := b_1) (off := 9) (i := 7) (v := (vu64 (regs.getD 7 0))) rfl Try.isAgg22 (hS _ (.tail _ (.tail _ (.tail _ (.tail _ (.head _)))))) (Sg.t rfl (Sg.t rfl Sg.h)) rfl (get_u64 (lt_len (K := 8) hr (by decide)))) ?_
            refine WT.q rfl (Wn.no rfl) rfl rfl (fun wq hS => R.bin (v := (.bool (decide (((entRegs 1 ain regs).getD 7 0 : UInt64) ≠ (regs.getD 7 0))))) rfl rfl (b64_neq ((entRegs 1 ain regs).getD 7 0) (regs.getD 7 0) (r := decide (((entRegs 1 ain regs).getD 7 0 : UInt64) ≠ (regs.getD 7 0))) rfl)) ?_
            refine WT.q rfl (Wn.no rfl) rfl rfl (fun wq hS => R.move (v := (.bool (decide (((entRegs 1 ain regs).getD 7 0 : UInt64) ≠ (regs.getD 7 0))))) rfl) ?_
            refine WT.skipQ rfl rfl rfl (boolNe (v := .bool false) (congrArg Value.bool (decide_eq_false (not_not_intro (ent_high ha hr).2.2.2))) (by decide)) rfl rfl ?_
            refine WT.skipQ rfl rfl rfl (boolNe (v := .bool false) (congrArg Value.bool (decide_eq_false (not_not_intro (ent_high ha hr).2.2.2))) (by decide)) rfl rfl ?_
            refine WT.skipQ rfl rfl rfl (boolNe (v := .bool false) (congrArg Value.bool (decide_eq_false (not_not_intro (ent_high ha hr).2.2.2))) (by decide)) rfl rfl ?_
            refine WT.skipQ rfl rfl rfl (boolNe (v := undef) rfl (by decide)) rfl rfl ?_
            refine WT.skipQ rfl rfl rfl (boolNe (v := undef) rfl (by decide)) rfl rfl ?_
            refine WT.skipQ rfl rfl rfl (boolNe (v := undef) rfl (by decide)) rfl rfl ?_
            refine WT.skipQ rfl rfl rfl (boolNe (v := .bool false) (congrArg Value.bool (decide_eq_false (not_not_intro (ent_high ha hr).2.2.2))) (by decide)) rfl rfl ?_
            refine WT.q rfl (Wn.no rfl) rfl rfl (fun wq hS => R.pickF (v := (.bool false)) (congrArg Value.bool (decide_eq_false (not_not_intro (ent_high ha hr).2.2.2))) rfl) ?_
            refine WT.nil ?_
            refine thn_n ?_
            refine WP.condF rfl ?_
            refine WP.skip ?_
            refine inb_n ?_
            refine thn_n ?_
            refine WP.reg ?_
            refine WL.q (Wn.no rfl) rfl rfl (R.move (v := (vi 7)) rfl) ?_
            refine WL.q (Wn.no rfl) rfl rfl (R.bin (v := (vi 8)) rfl rfl (bi_add (c := 8) (by omega) (by omega))) ?_
            refine WL.q (Wn.no rfl) rfl rfl (R.assign (v := (vi 8)) rfl) ?_
            refine WL.nil ?_
            refine thn_n ?_
            refine WI.round ?_
            refine WP.seq ?_
            refine WP.seq ?_
            refine WP.reg ?_
            refine WL.q (Wn.no rfl) rfl rfl (R.move (v := (vi 8)) rfl) ?_
            refine WL.q (Wn.no rfl) rfl rfl (R.bin (v := (.bool false)) rfl rfl (bi_lss (r := false) (by decide))) ?_
            refine WL.nil ?_
            refine thn_n ?_
            refine WP.condF rfl ?_
            refine WP.exit ?_
            refine thn_x ?_
            refine thn_x ?_
            refine inb_hit ?_
            refine thn_n ?_
            refine WP.seq ?_
            refine WP.reg ?_
            refine WL.call (al := []) Try.call15 rfl rfl (c_known14  _) rfl ?_
            rintro _ w_135 ⟨rfl, hc_134⟩
            have h_136 := h_132.same hc_134
            refine WL.q (Wn.no rfl) rfl rfl (R.assign (v := (.bool true)) rfl) ?_
            refine WL.nil ?_
            refine thn_n ?_
            refine WP.ret ?_
            refine ret_of Try.results9 (RV.tmp (v := (.bool true)) rfl RV.nil) ?_
            exact ⟨rfl, h_136.chgS⟩
          · have p_137 := of_decide_eq_false c_120
            refine WT.skipQ rfl rfl rfl (boolNe (v := .bool false) (congrArg Value.bool c_120) (by decide)) rfl rfl ?_
            refine WT.skipQ rfl rfl rfl (boolNe (v := .bool false) (congrArg Value.bool c_120) (by decide)) rfl rfl ?_
            refine WT.skipQ rfl rfl rfl (boolNe (v := .bool false) (congrArg Value.bool c_120) (by decide)) rfl rfl ?_
            refine WT.skipQ rfl rfl rfl (boolNe (v := undef) rfl (by decide)) rfl rfl ?_
            refine WT.skipQ rfl rfl rfl (boolNe (v := undef) rfl (by decide)) rfl rfl ?_
            refine WT.skipQ rfl rfl rfl (boolNe (v := undef) rfl (by decide)) rfl rfl ?_
            refine WT.skipQ rfl rfl rfl (boolNe (v := .bool false) (congrArg Value.bool c_120) (by decide)) rfl rfl ?_
            refine WT.q rfl (Wn.no rfl) rfl rfl (fun wq hS => R.pickF (v := (.bool false)) (congrArg Value.bool c_120) rfl) ?_
            refine WT.nil ?_
            refine thn_n ?_
            refine WP.condF rfl ?_
            refine WP.skip ?_
            refine inb_n ?_
            refine thn_n ?_
            refine WP.reg ?_
            refine WL.q (Wn.no rfl) rfl rfl (R.move (v := (vi 3)) rfl) ?_
            refine WL.q (Wn.no rfl) rfl rfl (R.bin (v := (vi 4)) rfl rfl (bi_add (c := 4) (by omega) (by omega))) ?_
            refine WL.q (Wn.no rfl) rfl rfl (R.assign (v := (vi 4)) rfl) ?_
            refine WL.nil ?_
            refine thn_n ?_
            refine WI.round ?_
            refine WP.seq ?_
            refine WP.seq ?_
            refine WP.reg ?_
            refine WL.q (Wn.no rfl) rfl rfl (R.move (v := (vi 4)) rfl) ?_
            refine WL.q (Wn.no rfl) rfl rfl (R.bin (v := (.bool true)) rfl rfl (bi_lss (r := true) (by decide))) ?_
            refine WL.nil ?_
            refine thn_n ?_
            refine WP.condT rfl ?_
            refine WP.skip ?_
            refine thn_n ?_
            refine WP.seq ?_
            refine WP.block ?_
            refine WP.seq ?_
            refine WP.drawT (SL w.heap.size [.blk b_56 .nw 28 [(1, [(vi rd)]), (1, [(vu64 ins)]), (8, (entRegs 1 ain regs).map vu64), (1, [(vu64 pc)]), (1, [(.bool true)]), (1, [(vi 0)])], .blk b_47 .nw 28 [(1, [(vi rd)]), (1, [(vu64 ins)]), (8, (entRegs 1 ain regs).map vu64), (1, [(vu64 pc)]), (1, [(.bool true)]), (1, [(vi 0)])], .blk b_7 .nw 40 [(1, [(vi rs)]), (4, ors.map vu64), (1, [(vu64 adr)]), (1, [(.bool wr)]), (1, [(vi ran)])], .blk b_4 .nw 31 [(4, ain.map vu64)], .blk b_1 .nw 28 [(1, [(vi rd)]), (1, [(vu64 ins)]), (8, regs.map vu64), (1, [(vu64 pc)]), (1, [(.bool true)]), (1, [(vi 1)])]]) (.q 0 (.q 1 (.q 2 (.q 3 (.q 4 (.q 5 (.q 6 (.q 7 (.q 8 (.q 9 (.q 10 (.q 11 (.q 12 (.q 13 (.q 14 (.q 15 (.q 16 (.q 17 (.q 18 (.q 19 .nil)))))))))))))))))))) (by kernel_rfl) (by kernel_rfl) rfl (by kernel_rfl) (fun w_138 hc_140 => (SL.cons ((h_118.same hc_140).ok _ (.head _)) (SL.cons ((h_118.same hc_140).ok _ (.tail _ (.head _))) (SL.cons ((h_118.same hc_140).ok _ (.tail _ (.tail _ (.head _)))) (SL.cons ((h_118.same hc_140).ok _ (.tail _ (.tail _ (.tail _ (.head _))))) (SL.cons ((h_118.same hc_140).ok _ (.tail _ (.tail _ (.tail _ (.tail _ (.head _)))))) (SL.nil _ _))))))) (fun w_138 hc_140 => ?_)
            have h_139 := h_118.same hc_140
            refine WT.q rfl (Wn.no rfl) rfl rfl (fun wq hS => R.move (v := (vi 4)) rfl) ?_
            refine WT.q rfl (Wn.no rfl) rfl rfl (fun wq hS => R.fieldAddr (b := b_56) (off := 0) (off' := 2) rfl Try.underlying28 rfl Try.sizeOf25 rfl rfl) ?_
            refine WT.q rfl (Wn.no rfl) rfl rfl (fun wq hS => R.fieldAddr (b := b_56) (off := 2) (off' := 2) rfl Try.underlying25 rfl Try.sizeOf23 rfl rfl) ?_
            refine WT.q rfl (Wn.no rfl) rfl rfl (fun wq hS => R.indexA (b := b_56) (off := 2) (off' := 6) (i := 4) rfl rfl rfl (by decide) Try.underlying23 Try.sizeOf22 rfl) ?_
            refine WT.q rfl (Wn.no rfl) rfl rfl (fun wq hS => R.loadE (b := b_56) (off := 6) (i := 4) (v := (vu64 ((entRegs 1 ain regs).getD 4 0))) rfl Try.isAgg22 (hS _ (.head _)) (Sg.t rfl (Sg.t rfl Sg.h)) rfl (get_u64 (lt_len (K := 8) (entRegs_len ha hr) (by decide)))) ?_
            refine WT.q rfl (Wn.no rfl) rfl rfl (fun wq hS => R.move (v := (vi 4)) rfl) ?_
            refine WT.q rfl (Wn.no rfl) rfl rfl (fun wq hS => R.fieldAddr (b := b_1) (off := 0) (off' := 2) rfl Try.underlying28 rfl Try.sizeOf25 rfl rfl) ?_
            refine WT.q rfl (Wn.no rfl) rfl rfl (fun wq hS => R.fieldAddr (b := b_1) (off := 2) (off' := 2) rfl Try.underlying25 rfl Try.sizeOf23 rfl rfl) ?_
            refine WT.q rfl (Wn.no rfl) rfl rfl (fun wq hS => R.indexA (b := b_1) (off := 2) (off' := 6) (i := 4) rfl rfl rfl (by decide) Try.underlying23 Try.sizeOf22 rfl) ?_
            refine WT.q rfl (Wn.no rfl) rfl rfl (fun wq hS => R.loadE (b := b_1) (off := 6) (i := 4) (v := (vu64 (regs.getD 4 0))) rfl Try.isAgg22 (hS _ (.tail _ (.tail _ (.tail _ (.tail _ (.head _)))))) (Sg.t rfl (Sg.t rfl Sg.h)) rfl (get_u64 (lt_len (K := 8) hr (by decide)))) ?_
            refine WT.q rfl (Wn.no rfl) rfl rfl (fun wq hS => R.bin (v := (.bool (decide (((entRegs 1 ain regs).getD 4 0 : UInt64) ≠ (regs.getD 4 0))))) rfl rfl (b64_neq ((entRegs 1 ain regs).getD 4 0) (regs.getD 4 0) (r := decide (((entRegs 1 ain regs).getD 4 0 : UInt64) ≠ (regs.getD 4 0))) rfl)) ?_
            refine WT.q rfl (Wn.no rfl) rfl rfl (fun wq hS => R.move (v := (.bool (decide (((entRegs 1 ain regs).getD 4 0 : UInt64) ≠ (regs.getD 4 0))))) rfl) ?_
            refine WT.skipQ rfl rfl rfl (boolNe (v := .bool false) (congrArg Value.bool (decide_eq_false (not_not_intro (ent_high ha hr).1))) (by decide)) rfl rfl ?_
            refine WT.skipQ rfl rfl rfl (boolNe (v := .bool false) (congrArg Value.bool (decide_eq_false (not_not_intro (ent_high ha hr).1))) (by decide)) rfl rfl ?_
            refine WT.skipQ rfl rfl rfl (boolNe (v := .bool false) (congrArg Value.bool (decide_eq_false (not_not_intro (ent_high ha hr).1))) (by decide)) rfl rfl ?_
            refine WT.skipQ rfl rfl rfl (boolNe (v := undef) rfl (by decide)) rfl rfl ?_
            refine WT.skipQ rfl rfl rfl (boolNe (v := undef) rfl (by decide)) rfl rfl ?_
            refine WT.skipQ rfl rfl rfl (boolNe (v := undef) rfl (by decide)) rfl rfl ?_
            refine WT.skipQ rfl rfl rfl (boolNe (v := .bool false) (congrArg Value.bool (decide_eq_false (not_not_intro (ent_high ha hr).1))) (by decide)) rfl rfl ?_
            refine WT.q rfl (Wn.no rfl) rfl rfl (fun wq hS => R.pickF (v := (.bool false)) (congrArg Value.bool (decide_eq_false (not_not_intro (ent_high ha hr).1))) rfl) ?_
            refine WT.nil ?_
            refine thn_n ?_
            refine WP.condF rfl ?_
            refine WP.skip ?_
            refine inb_n ?_
            refine thn_n ?_
            refine WP.reg ?_
            refine WL.q (Wn.no rfl) rfl rfl (R.move (v := (vi 4)) rfl) ?_
            refine WL.q (Wn.no rfl) rfl rfl (R.bin (v := (vi 5)) rfl rfl (bi_add (c := 5) (by omega) (by omega))) ?_
            refine WL.q (Wn.no rfl) rfl rfl (R.assign (v := (vi 5)) rfl) ?_
            refine WL.nil ?_
            refine thn_n ?_
            refine WI.round ?_
            refine WP.seq ?_
            refine WP.seq ?_
            refine WP.reg ?_
            refine WL.q (Wn.no rfl) rfl rfl (R.move (v := (vi 5)) rfl) ?_
            refine WL.q (Wn.no rfl) rfl rfl (R.bin (v := (.bool true)) rfl rfl (bi_lss (r := true) (by decide))) ?_
            refine WL.nil ?_
            refine thn_n ?_
            refine WP.condT rfl ?_
            refine WP.skip ?_
            refine thn_n ?_
            refine WP.seq ?_
            refine WP.block ?_
            refine WP.seq ?_
            refine WP.drawT (SL w.heap.size [.blk b_56 .nw 28 [(1, [(vi rd)]), (1, [(vu64 ins)]), (8, (entRegs 1 ain regs).map vu64), (1, [(vu64 pc)]), (1, [(.bool true)]), (1, [(vi 0)])], .blk b_47 .nw 28 [(1, [(vi rd)]), (1, [(vu64 ins)]), (8, (entRegs 1 ain regs).map vu64), (1, [(vu64 pc)]), (1, [(.bool true)]), (1, [(vi 0)])], .blk b_7 .nw 40 [(1, [(vi rs)]), (4, ors.map vu64), (1, [(vu64 adr)]), (1, [(.bool wr)]), (1, [(vi ran)])], .blk b_4 .nw 31 [(4, ain.map vu64)], .blk b_1 .nw 28 [(1, [(vi rd)]), (1, [(vu64 ins)]), (8, regs.map vu64), (1, [(vu64 pc)]), (1, [(.bool true)]), (1, [(vi 1)])]]) (.q 0 (.q 1 (.q 2 (.q 3 (.q 4 (.q 5 (.q 6 (.q 7 (.q 8 (.q 9 (.q 10 (.q 11 (.q 12 (.q 13 (.q 14 (.q 15 (.q 16 (.q 17 (.q 18 (.q 19 .nil)))))))))))))))))))) (by kernel_rfl) (by kernel_rfl) rfl (by kernel_rfl) (fun w_141 hc_143 => (SL.cons ((h_139.same hc_143).ok _ (.head _)) (SL.cons ((h_139.same hc_143).ok _ (.tail _ (.head _))) (SL.cons ((h_139.same hc_143).ok _ (.tail _ (.tail _ (.head _)))) (SL.cons ((h_139.same hc_143).ok _ (.tail _ (.tail _ (.tail _ (.head _))))) (SL.cons ((h_139.same hc_143).ok _ (.tail _ (.tail _ (.tail _ (.tail _ (.head _)))))) (SL.nil _ _))))))) (fun w_141 hc_143 => ?_)
            have h_142 := h_139.same hc_143
            refine WT.q rfl (Wn.no rfl) rfl rfl (fun wq hS => R.move (v := (vi 5)) rfl) ?_
            refine WT.q rfl (Wn.no rfl) rfl rfl (fun wq hS => R.fieldAddr (b := b_56) (off := 0) (off' := 2) rfl Try.underlying28 rfl Try.sizeOf25 rfl rfl) ?_
            refine WT.q rfl (Wn.no rfl) rfl rfl (fun wq hS => R.fieldAddr (b := b_56) (off := 2) (off' := 2) rfl Try.underlying25 rfl Try.sizeOf23 rfl rfl) ?_
            refine WT.q rfl (Wn.no rfl) rfl rfl (fun wq hS => R.indexA (b := b_56) (off := 2) (off' := 7) (i := 5) rfl rfl rfl (by decide) Try.underlying23 Try.sizeOf22 rfl) ?_
            refine WT.q rfl (Wn.no rfl) rfl rfl (fun wq hS => R.loadE (b := b_56) (off := 7) (i := 5) (v := (vu64 ((entRegs 1 ain regs).getD 5 0))) rfl Try.isAgg22 (hS _ (.head _)) (Sg.t rfl (Sg.t rfl Sg.h)) rfl (get_u64 (lt_len (K := 8) (entRegs_len ha hr) (by decide)))) ?_
            refine WT.q rfl (Wn.no rfl) rfl rfl (fun wq hS => R.move (v := (vi 5)) rfl) ?_
            refine WT.q rfl (Wn.no rfl) rfl rfl (fun wq hS => R.fieldAddr (b := b_1) (off := 0) (off' := 2) rfl Try.underlying28 rfl Try.sizeOf25 rfl rfl) ?_
            refine WT.q rfl (Wn.no rfl) rfl rfl (fun wq hS => R.fieldAddr (b := b_1) (off := 2) (off' := 2) rfl Try.underlying25 rfl Try.sizeOf23 rfl rfl) ?_
            refine WT.q rfl (Wn.no rfl) rfl rfl (fun wq hS => R.indexA (b := b_1) (off := 2) (off' := 7) (i := 5) rfl rfl rfl (by decide) Try.underlying23 Try.sizeOf22 rfl) ?_
            refine WT.q rfl (Wn.no rfl) rfl rfl (fun wq hS => R.loadE (b := b_1) (off := 7) (i := 5) (v := (vu64 (regs.getD 5 0))) rfl Try.isAgg22 (hS _ (.tail _ (.tail _ (.tail _ (.tail _ (.head _)))))) (Sg.t rfl (Sg.t rfl Sg.h)) rfl (get_u64 (lt_len (K := 8) hr (by decide)))) ?_
            refine WT.q rfl (Wn.no rfl) rfl rfl (fun wq hS => R.bin (v := (.bool (decide (((entRegs 1 ain regs).getD 5 0 : UInt64) ≠ (regs.getD 5 0))))) rfl rfl (b64_neq ((entRegs 1 ain regs).getD 5 0) (regs.getD 5 0) (r := decide (((entRegs 1 ain regs).getD 5 0 : UInt64) ≠ (regs.getD 5 0))) rfl)) ?_
            refine WT.q rfl (Wn.no rfl) rfl rfl (fun wq hS => R.move (v := (.bool (decide (((entRegs 1 ain regs).getD 5 0 : UInt64) ≠ (regs.getD 5 0))))) rfl) ?_
            refine WT.skipQ rfl rfl rfl (boolNe (v := .bool false) (congrArg Value.bool (decide_eq_false (not_not_intro (ent_high ha hr).2.1))) (by decide)) rfl rfl ?_
            refine WT.skipQ rfl rfl rfl (boolNe (v := .bool false) (congrArg Value.bool (decide_eq_false (not_not_intro (ent_high ha hr).2.1))) (by decide)) rfl rfl ?_
            refine WT.skipQ rfl rfl rfl (boolNe (v := .bool false) (congrArg Value.bool (decide_eq_false (not_not_intro (ent_high ha hr).2.1))) (by decide)) rfl rfl ?_
            refine WT.skipQ rfl rfl rfl (boolNe (v := undef) rfl (by decide)) rfl rfl ?_
            refine WT.skipQ rfl rfl rfl (boolNe (v := undef) rfl (by decide)) rfl rfl ?_
            refine WT.skipQ rfl rfl rfl (boolNe (v := undef) rfl (by decide)) rfl rfl ?_
            refine WT.skipQ rfl rfl rfl (boolNe (v := .bool false) (congrArg Value.bool (decide_eq_false (not_not_intro (ent_high ha hr).2.1))) (by decide)) rfl rfl ?_
            refine WT.q rfl (Wn.no rfl) rfl rfl (fun wq hS => R.pickF (v := (.bool false)) (congrArg Value.bool (decide_eq_false (not_not_intro (ent_high ha hr).2.1))) rfl) ?_
            refine WT.nil ?_
            refine thn_n ?_
            refine WP.condF rfl ?_
            refine WP.skip ?_
            refine inb_n ?_
            refine thn_n ?_
            refine WP.reg ?_
            refine WL.q (Wn.no rfl) rfl rfl (R.move (v := (vi 5)) rfl) ?_
            refine WL.q (Wn.no rfl) rfl rfl (R.bin (v := (vi 6)) rfl rfl (bi_add (c := 6) (by omega) (by omega))) ?_
            refine WL.q (Wn.no rfl) rfl rfl (R.assign (v := (vi 6)) rfl) ?_
            refine WL.nil ?_
            refine thn_n ?_
            refine WI.round ?_
            refine WP.seq ?_
            refine WP.seq ?_
            refine WP.reg ?_
            refine WL.q (Wn.no rfl) rfl rfl (R.move (v := (vi 6)) rfl) ?_
            refine WL.q (Wn.no rfl) rfl rfl (R.bin (v := (.bool true)) rfl rfl (bi_lss (r := true) (by decide))) ?_
            refine WL.nil ?_
            refine thn_n ?_
            refine WP.condT rfl ?_
            refine WP.skip ?_
            refine thn_n ?_
            refine WP.seq ?_
            refine WP.block ?_
            refine WP.seq ?_
            refine WP.drawT (SL w.heap.size [.blk b_56 .nw 28 [(1, [(vi rd)]), (1, [(vu64 ins)]), (8, (entRegs 1 ain regs).map vu64), (1, [(vu64 pc)]), (1, [(.bool true)]), (1, [(vi 0)])], .blk b_47 .nw 28 [(1, [(vi rd)]), (1, [(vu64 ins)]), (8, (entRegs 1 ain regs).map vu64), (1, [(vu64 pc)]), (1, [(.bool true)]), (1, [(vi 0)])], .blk b_7 .nw 40 [(1, [(vi rs)]), (4, ors.map vu64), (1, [(vu64 adr)]), (1, [(.bool wr)]), (1, [(vi ran)])], .blk b_4 .nw 31 [(4, ain.map vu64)], .blk b_1 .nw 28 [(1, [(vi rd)]), (1, [(vu64 ins)]), (8, regs.map vu64), (1, [(vu64 pc)]), (1, [(.bool true)]), (1, [(vi 1)])]]) (.q 0 (.q 1 (.q 2 (.q 3 (.q 4 (.q 5 (.q 6 (.q 7 (.q 8 (.q 9 (.q 10 (.q 11 (.q 12 (.q 13 (.q 14 (.q 15 (.q 16 (.q 17 (.q 18 (.q 19 .nil)))))))))))))))))))) (by kernel_rfl) (by kernel_rfl) rfl (by kernel_rfl) (fun w_144 hc_146 => (SL.cons ((h_142.same hc_146).ok _ (.head _)) (SL.cons ((h_142.same hc_146).ok _ (.tail _ (.head _))) (SL.cons ((h_142.same hc_146).ok _ (.tail _ (.tail _ (.head _)))) (SL.cons ((h_142.same hc_146).ok _ (.tail _ (.tail _ (.tail _ (.head _))))) (SL.cons ((h_142.same hc_146).ok _ (.tail _ (.tail _ (.tail _ (.tail _ (.head _)))))) (SL.nil _ _))))))) (fun w_144 hc_146 => ?_)
            have h_145 := h_142.same hc_146
            refine WT.q rfl (Wn.no rfl) rfl rfl (fun wq hS => R.move (v := (vi 6)) rfl) ?_
            refine WT.q rfl (Wn.no rfl) rfl rfl (fun wq hS => R.fieldAddr (b := b_56) (off := 0) (off' := 2) rfl Try.underlying28 rfl Try.sizeOf25 rfl rfl) ?_
            refine WT.q rfl (Wn.no rfl) rfl rfl (fun wq hS => R.fieldAddr (b := b_56) (off := 2) (off' := 2) rfl Try.underlying25 rfl Try.sizeOf23 rfl rfl) ?_
            refine WT.q rfl (Wn.no rfl) rfl rfl (fun wq hS => R.indexA (b := b_56) (off := 2) (off' := 8) (i := 6) rfl rfl rfl (by decide) Try.underlying23 Try.sizeOf22 rfl) ?_
            refine WT.q rfl (Wn.no rfl) rfl rfl (fun wq hS => R.loadE (b := b_56) (off := 8) (i := 6) (v := (vu64 ((entRegs 1 ain regs).getD 6 0))) rfl Try.isAgg22 (hS _ (.head _)) (Sg.t rfl (Sg.t rfl Sg.h)) rfl (get_u64 (lt_len (K := 8) (entRegs_len ha hr) (by decide)))) ?_
            refine WT.q rfl (Wn.no rfl) rfl rfl (fun wq hS => R.move (v := (vi 6)) rfl) ?_
            refine WT.q rfl (Wn.no rfl) rfl rfl (fun wq hS => R.fieldAddr (b := b_1) (off := 0) (off' := 2) rfl Try.underlying28 rfl Try.sizeOf25 rfl rfl) ?_
            refine WT.q rfl (Wn.no rfl) rfl rfl (fun wq hS => R.fieldAddr (b := b_1) (off := 2) (off' := 2) rfl Try.underlying25 rfl Try.sizeOf23 rfl rfl) ?_
            refine WT.q rfl (Wn.no rfl) rfl rfl (fun wq hS => R.indexA (b := b_1) (off := 2) (off' := 8) (i := 6) rfl rfl rfl (by decide) Try.underlying23 Try.sizeOf22 rfl) ?_
            refine WT.q rfl (Wn.no rfl) rfl rfl (fun wq hS => R.loadE (b := b_1) (off := 8) (i := 6) (v := (vu64 (regs.getD 6 0))) rfl Try.isAgg22 (hS _ (.tail _ (.tail _ (.tail _ (.tail _ (.head _)))))) (Sg.t rfl (Sg.t rfl Sg.h)) rfl (get_u64 (lt_len (K := 8) hr (by decide)))) ?_
            refine WT.q rfl (Wn.no rfl) rfl rfl (fun wq hS => R.bin (v := (.bool (decide (((entRegs 1 ain regs).getD 6 0 : UInt64) ≠ (regs.getD 6 0))))) rfl rfl (b64_neq ((entRegs 1 ain regs).getD 6 0) (regs.getD 6 0) (r := decide (((entRegs 1 ain regs).getD 6 0 : UInt64) ≠ (regs.getD 6 0))) rfl)) ?_
            refine WT.q rfl (Wn.no rfl) rfl rfl (fun wq hS => R.move (v := (.bool (decide (((entRegs 1 ain regs).getD 6 0 : UInt64) ≠ (regs.getD 6 0))))) rfl) ?_
            refine WT.skipQ rfl rfl rfl (boolNe (v := .bool false) (congrArg Value.bool (decide_eq_false (not_not_intro (ent_high ha hr).2.2.1))) (by decide)) rfl rfl ?_
            refine WT.skipQ rfl rfl rfl (boolNe (v := .bool false) (congrArg Value.bool (decide_eq_false (not_not_intro (ent_high ha hr).2.2.1))) (by decide)) rfl rfl ?_
            refine WT.skipQ rfl rfl rfl (boolNe (v := .bool false) (congrArg Value.bool (decide_eq_false (not_not_intro (ent_high ha hr).2.2.1))) (by decide)) rfl rfl ?_
            refine WT.skipQ rfl rfl rfl (boolNe (v := undef) rfl (by decide)) rfl rfl ?_
            refine WT.skipQ rfl rfl rfl (boolNe (v := undef) rfl (by decide)) rfl rfl ?_
            refine WT.skipQ rfl rfl rfl (boolNe (v := undef) rfl (by decide)) rfl rfl ?_
            refine WT.skipQ rfl rfl rfl (boolNe (v := .bool false) (congrArg Value.bool (decide_eq_false (not_not_intro (ent_high ha hr).2.2.1))) (by decide)) rfl rfl ?_
            refine WT.q rfl (Wn.no rfl) rfl rfl (fun wq hS => R.pickF (v := (.bool false)) (congrArg Value.bool (decide_eq_false (not_not_intro (ent_high ha hr).2.2.1))) rfl) ?_
            refine WT.nil ?_
            refine thn_n ?_
            refine WP.condF rfl ?_
            refine WP.skip ?_
            refine inb_n ?_
            refine thn_n ?_
            refine WP.reg ?_
            refine WL.q (Wn.no rfl) rfl rfl (R.move (v := (vi 6)) rfl) ?_
            refine WL.q (Wn.no rfl) rfl rfl (R.bin (v := (vi 7)) rfl rfl (bi_add (c := 7) (by omega) (by omega))) ?_
            refine WL.q (Wn.no rfl) rfl rfl (R.assign (v := (vi 7)) rfl) ?_
            refine WL.nil ?_
            refine thn_n ?_
            refine WI.round ?_
            refine WP.seq ?_
            refine WP.seq ?_
            refine WP.reg ?_
            refine WL.q (Wn.no rfl) rfl rfl (R.move (v := (vi 7)) rfl) ?_
            refine WL.q (Wn.no rfl) rfl rfl (R.bin (v := (.bool true)) rfl rfl (bi_lss (r := true) (by decide))) ?_
            refine WL.nil ?_
            refine thn_n ?_
            refine WP.condT rfl ?_
            refine WP.skip ?_
            refine thn_n ?_
            refine WP.seq ?_
            refine WP.block ?_
            refine WP.seq ?_
            refine WP.drawT (SL w.heap.size [.blk b_56 .nw 28 [(1, [(vi rd)]), (1, [(vu64 ins)]), (8, (entRegs 1 ain regs).map vu64), (1, [(vu64 pc)]), (1, [(.bool true)]), (1, [(vi 0)])], .blk b_47 .nw 28 [(1, [(vi rd)]), (1, [(vu64 ins)]), (8, (entRegs 1 ain regs).map vu64), (1, [(vu64 pc)]), (1, [(.bool true)]), (1, [(vi 0)])], .blk b_7 .nw 40 [(1, [(vi rs)]), (4, ors.map vu64), (1, [(vu64 adr)]), (1, [(.bool wr)]), (1, [(vi ran)])], .blk b_4 .nw 31 [(4, ain.map vu64)], .blk b_1 .nw 28 [(1, [(vi rd)]), (1, [(vu64 ins)]), (8, regs.map vu64), (1, [(vu64 pc)]), (1, [(.bool true)]), (1, [(vi 1)])]]) (.q 0 (.q 1 (.q 2 (.q 3 (.q 4 (.q 5 (.q 6 (.q 7 (.q 8 (.q 9 (.q 10 (.q 11 (.q 12 (.q 13 (.q 14 (.q 15 (.q 16 (.q 17 (.q 18 (.q 19 .nil)))))))))))))))))))) (by kernel_rfl) (by kernel_rfl) rfl (by kernel_rfl) (fun w_147 hc_149 => (SL.cons ((h_145.same hc_149).ok _ (.head _)) (SL.cons ((h_145.same hc_149).ok _ (.tail _ (.head _))) (SL.cons ((h_145.same hc_149).ok _ (.tail _ (.tail _ (.head _)))) (SL.cons ((h_145.same hc_149).ok _ (.tail _ (.tail _ (.tail _ (.head _))))) (SL.cons ((h_145.same hc_149).ok _ (.tail _ (.tail _ (.tail _ (.tail _ (.head _)))))) (SL.nil _ _))))))) (fun w_147 hc_149 => ?_)
            have h_148 := h_145.same hc_149
            refine WT.q rfl (Wn.no rfl) rfl rfl (fun wq hS => R.move (v := (vi 7)) rfl) ?_
            refine WT.q rfl (Wn.no rfl) rfl rfl (fun wq hS => R.fieldAddr (b := b_56) (off := 0) (off' := 2) rfl Try.underlying28 rfl Try.sizeOf25 rfl rfl) ?_
            refine WT.q rfl (Wn.no rfl) rfl rfl (fun wq hS => R.fieldAddr (b := b_56) (off := 2) (off' := 2) rfl Try.underlying25 rfl Try.sizeOf23 rfl rfl) ?_
            refine WT.q rfl (Wn.no rfl) rfl rfl (fun wq hS => R.indexA (b := b_56) (off := 2) (off' := 9) (i := 7) rfl rfl rfl (by decide) Try.underlying23 Try.sizeOf22 rfl) ?_
            refine WT.q rfl (Wn.no rfl) rfl rfl (fun wq hS => R.loadE (b := b_56) (off := 9) (i := 7) (v := (vu64 ((entRegs 1 ain regs).getD 7 0))) rfl Try.isAgg22 (hS _ (.head _)) (Sg.t rfl (Sg.t rfl Sg.h)) rfl (get_u64 (lt_len (K := 8) (entRegs_len ha hr) (by decide)))) ?_
            refine WT.q rfl (Wn.no rfl) rfl rfl (fun wq hS => R.move (v := (vi 7)) rfl) ?_
            refine WT.q rfl (Wn.no rfl) rfl rfl (fun wq hS => R.fieldAddr (b := b_1) (off := 0) (off' := 2) rfl Try.underlying28 rfl Try.sizeOf25 rfl rfl) ?_
            refine WT.q rfl (Wn.no rfl) rfl rfl (fun wq hS => R.fieldAddr (b := b_1) (off := 2) (off' := 2) rfl Try.underlying25 rfl Try.sizeOf23 rfl rfl) ?_
            refine WT.q rfl (Wn.no rfl) rfl rfl (fun wq hS => R.indexA (b := b_1) (off := 2) (off' := 9) (i := 7) rfl rfl rfl (by decide) Try.underlying23 Try.sizeOf22 rfl) ?_
            refine WT.q rfl (Wn.no rfl) rfl rfl (fun wq hS => R.loadE (b := b_1) (off := 9) (i := 7) (v := (vu64 (regs.getD 7 0))) rfl Try.isAgg22 (hS _ (.tail _ (.tail _ (.tail _ (.tail _ (.head _)))))) (Sg.t rfl (Sg.t rfl Sg.h)) rfl (get_u64 (lt_len (K := 8) hr (by decide)))) ?_
            refine WT.q rfl (Wn.no rfl) rfl rfl (fun wq hS => R.bin (v := (.bool (decide (((entRegs 1 ain regs).getD 7 0 : UInt64) ≠ (regs.getD 7 0))))) rfl rfl (b64_neq ((entRegs 1 ain regs).getD 7 0) (regs.getD 7 0) (r := decide (((entRegs 1 ain regs).getD 7 0 : UInt64) ≠ (regs.getD 7 0))) rfl)) ?_
            refine WT.q rfl (Wn.no rfl) rfl rfl (fun wq hS => R.move (v := (.bool (decide (((entRegs 1 ain regs).getD 7 0 : UInt64) ≠ (regs.getD 7 0))))) rfl) ?_
            refine WT.skipQ rfl rfl rfl (boolNe (v := .bool false) (congrArg Value.bool (decide_eq_false (not_not_intro (ent_high ha hr).2.2.2))) (by decide)) rfl rfl ?_
            refine WT.skipQ rfl rfl rfl (boolNe (v := .bool false) (congrArg Value.bool (decide_eq_false (not_not_intro (ent_high ha hr).2.2.2))) (by decide)) rfl rfl ?_
            refine WT.skipQ rfl rfl rfl (boolNe (v := .bool false) (congrArg Value.bool (decide_eq_false (not_not_intro (ent_high ha hr).2.2.2))) (by decide)) rfl rfl ?_
            refine WT.skipQ rfl rfl rfl (boolNe (v := undef) rfl (by decide)) rfl rfl ?_
            refine WT.skipQ rfl rfl rfl (boolNe (v := undef) rfl (by decide)) rfl rfl ?_
            refine WT.skipQ rfl rfl rfl (boolNe (v := undef) rfl (by decide)) rfl rfl ?_
            refine WT.skipQ rfl rfl rfl (boolNe (v := .bool false) (congrArg Value.bool (decide_eq_false (not_not_intro (ent_high ha hr).2.2.2))) (by decide)) rfl rfl ?_
            refine WT.q rfl (Wn.no rfl) rfl rfl (fun wq hS => R.pickF (v := (.bool false)) (congrArg Value.bool (decide_eq_false (not_not_intro (ent_high ha hr).2.2.2))) rfl) ?_
            refine WT.nil ?_
            refine thn_n ?_
            refine WP.condF rfl ?_
            refine WP.skip ?_
            refine inb_n ?_
            refine thn_n ?_
            refine WP.reg ?_
            refine WL.q (Wn.no rfl) rfl rfl (R.move (v := (vi 7)) rfl) ?_
            refine WL.q (Wn.no rfl) rfl rfl (R.bin (v := (vi 8)) rfl rfl (bi_add (c := 8) (by omega) (by omega))) ?_
            refine WL.q (Wn.no rfl) rfl rfl (R.assign (v := (vi 8)) rfl) ?_
            refine WL.nil ?_
            refine thn_n ?_
            refine WI.round ?_
            refine WP.seq ?_
            refine WP.seq ?_
            refine WP.reg ?_
            refine WL.q (Wn.no rfl) rfl rfl (R.move (v := (vi 8)) rfl) ?_
            refine WL.q (Wn.no rfl) rfl rfl (R.bin (v := (.bool false)) rfl rfl (bi_lss (r := false) (by decide))) ?_
            refine WL.nil ?_
            refine thn_n ?_
            refine WP.condF rfl ?_
            refine WP.exit ?_
            refine thn_x ?_
            refine thn_x ?_
            refine inb_hit ?_
            refine thn_n ?_
            refine WP.seq ?_
            refine WP.reg ?_
            refine WL.call (al := []) Try.call15 rfl rfl (c_known14  _) rfl ?_
            rintro _ w_151 ⟨rfl, hc_150⟩
            have h_152 := h_148.same hc_150
            refine WL.q (Wn.no rfl) rfl rfl (R.assign (v := (.bool true)) rfl) ?_
            refine WL.nil ?_
            refine thn_n ?_
            refine WP.ret ?_
            refine ret_of Try.results9 (RV.tmp (v := (.bool true)) rfl RV.nil) ?_
            exact ⟨rfl, h_152.chgS⟩
      · have p_153 := of_decide_eq_false c_73
        refine WT.skipQ rfl rfl rfl (boolNe (v := .bool false) (congrArg Value.bool c_73) (by decide)) rfl rfl ?_
        refine WT.skipQ rfl rfl rfl (boolNe (v := .bool false) (congrArg Value.bool c_73) (by decide)) rfl rfl ?_
        refine WT.skipQ rfl rfl rfl (boolNe (v := .bool false) (congrArg Value.bool c_73) (by decide)) rfl rfl ?_
        refine WT.skipQ rfl rfl rfl (boolNe (v := undef) rfl (by decide)) rfl rfl ?_
        refine WT.skipQ rfl rfl rfl (boolNe (v := undef) rfl (by decide)) rfl rfl ?_
        refine WT.skipQ rfl rfl rfl (boolNe (v := undef) rfl (by decide)) rfl rfl ?_
        refine WT.skipQ rfl rfl rfl (boolNe (v := .bool false) (congrArg Value.bool c_73) (by decide)) rfl rfl ?_
        refine WT.q rfl (Wn.no rfl) rfl rfl (fun wq hS => R.pickF (v := (.bool false)) (congrArg Value.bool c_73) rfl) ?_
        refine WT.nil ?_
        refine thn_n ?_
        refine WP.condF rfl ?_
        refine WP.skip ?_
        refine inb_n ?_
        refine thn_n ?_
        refine WP.reg ?_
        refine WL.q (Wn.no rfl) rfl rfl (R.move (v := (vi 1)) rfl) ?_
        refine WL.q (Wn.no rfl) rfl rfl (R.bin (v := (vi 2)) rfl rfl (bi_add (c := 2) (by omega) (by omega))) ?_
        refine WL.q (Wn.no rfl) rfl rfl (R.assign (v := (vi 2)) rfl) ?_
        refine WL.nil ?_
        refine thn_n ?_
        refine WI.round ?_
        refine WP.seq ?_
        refine WP.seq ?_
        refine WP.reg ?_
        refine WL.q (Wn.no rfl) rfl rfl (R.move (v := (vi 2)) rfl) ?_
        refine WL.q (Wn.no rfl) rfl rfl (R.bin (v := (.bool true)) rfl rfl (bi_lss (r := true) (by decide))) ?_
        refine WL.nil ?_
        refine thn_n ?_
        refine WP.condT rfl ?_
        refine WP.skip ?_
        refine thn_n ?_
        refine WP.seq ?_
        refine WP.block ?_
        refine WP.seq ?_
        refine WP.drawT (SL w.heap.size [.blk b_56 .nw 28 [(1, [(vi rd)]), (1, [(vu64 ins)]), (8, (entRegs 1 ain regs).map vu64), (1, [(vu64 pc)]), (1, [(.bool true)]), (1, [(vi 0)])], .blk b_47 .nw 28 [(1, [(vi rd)]), (1, [(vu64 ins)]), (8, (entRegs 1 ain regs).map vu64), (1, [(vu64 pc)]), (1, [(.bool true)]), (1, [(vi 0)])], .blk b_7 .nw 40 [(1, [(vi rs)]), (4, ors.map vu64), (1, [(vu64 adr)]), (1, [(.bool wr)]), (1, [(vi ran)])], .blk b_4 .nw 31 [(4, ain.map vu64)], .blk b_1 .nw 28 [(1, [(vi rd)]), (1, [(vu64 ins)]), (8, regs.map vu64), (1, [(vu64 pc)]), (1, [(.bool true)]), (1, [(vi 1)])]]) (.q 0 (.q 1 (.q 2 (.q 3 (.q 4 (.q 5 (.q 6 (.q 7 (.q 8 (.q 9 (.q 10 (.q 11 (.q 12 (.q 13 (.q 14 (.q 15 (.q 16 (.q 17 (.q 18 (.q 19 .nil)))))))))))))))))))) (by kernel_rfl) (by kernel_rfl) rfl (by kernel_rfl) (fun w_154 hc_156 => (SL.cons ((h_71.same hc_156).ok _ (.head _)) (SL.cons ((h_71.same hc_156).ok _ (.tail _ (.head _))) (SL.cons ((h_71.same hc_156).ok _ (.tail _ (.tail _ (.head _)))) (SL.cons ((h_71.same hc_156).ok _ (.tail _ (.tail _ (.tail _ (.head _))))) (SL.cons ((h_71.same hc_156).ok _ (.tail _ (.tail _ (.tail _ (.tail _ (.head _)))))) (SL.nil _ _))))))) (fun w_154 hc_156 => ?_)
        have h_155 := h_71.same hc_156
        refine WT.q rfl (Wn.no rfl) rfl rfl (fun wq hS => R.move (v := (vi 2)) rfl) ?_
        refine WT.q rfl (Wn.no rfl) rfl rfl (fun wq hS => R.fieldAddr (b := b_56) (off := 0) (off' := 2) rfl Try.underlying28 rfl Try.sizeOf25 rfl rfl) ?_
        refine WT.q rfl (Wn.no rfl) rfl rfl (fun wq hS => R.fieldAddr (b := b_56) (off := 2) (off' := 2) rfl Try.underlying25 rfl Try.sizeOf23 rfl rfl) ?_
        refine WT.q rfl (Wn.no rfl) rfl rfl (fun wq hS => R.indexA (b := b_56) (off := 2) (off' := 4) (i := 2) rfl rfl rfl (by decide) Try.underlying23 Try.sizeOf22 rfl) ?_
        refine WT.q rfl (Wn.no rfl) rfl rfl (fun wq hS => R.loadE (b := b_56) (off := 4) (i := 2) (v := (vu64 ((entRegs 1 ain regs).getD 2 0))) rfl Try.isAgg22 (hS _ (.head _)) (Sg.t rfl (Sg.t rfl Sg.h)) rfl (get_u64 (lt_len (K := 8) (entRegs_len ha hr) (by decide)))) ?_
        refine WT.q rfl (Wn.no rfl) rfl rfl (fun wq hS => R.move (v := (vi 2)) rfl) ?_
        refine WT.q rfl (Wn.no rfl) rfl rfl (fun wq hS => R.fieldAddr (b := b_1) (off := 0) (off' := 2) rfl Try.underlying28 rfl Try.sizeOf25 rfl rfl) ?_
        refine WT.q rfl (Wn.no rfl) rfl rfl (fun wq hS => R.fieldAddr (b := b_1) (off := 2) (off' := 2) rfl Try.underlying25 rfl Try.sizeOf23 rfl rfl) ?_
        refine WT.q rfl (Wn.no rfl) rfl rfl (fun wq hS => R.indexA (b := b_1) (off := 2) (off' := 4) (i := 2) rfl rfl rfl (by decide) Try.underlying23 Try.sizeOf22 rfl) ?_
        refine WT.q rfl (Wn.no rfl) rfl rfl (fun wq hS => R.loadE (b := b_1) (off := 4) (i := 2) (v := (vu64 (regs.getD 2 0))) rfl Try.isAgg22 (hS _ (.tail _ (.tail _ (.tail _ (.tail _ (.head _)))))) (Sg.t rfl (Sg.t rfl Sg.h)) rfl (get_u64 (lt_len (K := 8) hr (by decide)))) ?_
        refine WT.q rfl (Wn.no rfl) rfl rfl (fun wq hS => R.bin (v := (.bool (decide (((entRegs 1 ain regs).getD 2 0 : UInt64) ≠ (regs.getD 2 0))))) rfl rfl (b64_neq ((entRegs 1 ain regs).getD 2 0) (regs.getD 2 0) (r := decide (((entRegs 1 ain regs).getD 2 0 : UInt64) ≠ (regs.getD 2 0))) rfl)) ?_
        refine WT.q rfl (Wn.no rfl) rfl rfl (fun wq hS => R.move (v := (.bool (decide (((entRegs 1 ain regs).getD 2 0 : UInt64) ≠ (regs.getD 2 0))))) rfl) ?_
        rcases Bool.eq_false_or_eq_true (decide (((entRegs 1 ain regs).getD 2 0 : UInt64) ≠ (regs.getD 2 0))) with c_157 | c_157
        · have p_158 := of_decide_eq_true c_157
          refine WT.q rfl (Wn.yes rfl rfl (congrArg Value.bool c_157)) rfl rfl (fun wq hS => R.move (v := (vi 2)) rfl) ?_
          refine WT.q rfl (Wn.yes rfl rfl (congrArg Value.bool c_157)) rfl rfl (fun wq hS => R.bin (v := (.bool false)) rfl rfl (bi_gtr (r := false) (by decide))) ?_
          refine WT.q rfl (Wn.yes rfl rfl (congrArg Value.bool c_157)) rfl rfl (fun wq hS => R.move (v := (.bool false)) rfl) ?_
          refine WT.q rfl (Wn.yes rfl rfl rfl) rfl rfl (fun wq hS => R.fieldAddr (b := b_1) (off := 0) (off' := 12) rfl Try.underlying28 rfl Try.sizeOf26 rfl rfl) ?_
          refine WT.q rfl (Wn.yes rfl rfl rfl) rfl rfl (fun wq hS => R.load1 (b := b_1) (off := 12) (v := (vi 1)) rfl Try.isAgg26 (hS _ (.tail _ (.tail _ (.tail _ (.tail _ (.head _)))))) (Sg.t rfl (Sg.t rfl (Sg.t rfl (Sg.t rfl (Sg.t rfl Sg.h)))))) ?_
          refine WT.q rfl (Wn.yes rfl rfl rfl) rfl rfl (fun wq hS => R.bin (v := (.bool false)) rfl rfl (bi_neq (r := false) (by decide))) ?_
          refine WT.q rfl (Wn.yes rfl rfl (congrArg Value.bool c_157)) rfl rfl (fun wq hS => R.pickF (v := (.bool false)) rfl rfl) ?_
          refine WT.q rfl (Wn.no rfl) rfl rfl (fun wq hS => R.pickT (v := (.bool false)) (congrArg Value.bool c_157) rfl) ?_
          refine WT.nil ?_
          refine thn_n ?_
          refine WP.condF rfl ?_
          refine WP.skip ?_
          refine inb_n ?_
          refine thn_n ?_
          refine WP.reg ?_
          refine WL.q (Wn.no rfl) rfl rfl (R.move (v := (vi 2)) rfl) ?_
          refine WL.q (Wn.no rfl) rfl rfl (R.bin (v := (vi 3)) rfl rfl (bi_add (c := 3) (by omega) (by omega))) ?_
          refine WL.q (Wn.no rfl) rfl rfl (R.assign (v := (vi 3)) rfl) ?_
          refine WL.nil ?_
          refine thn_n ?_
          refine WI.round ?_
          refine WP.seq ?_
          refine WP.seq ?_
          refine WP.reg ?_
          refine WL.q (Wn.no rfl) rfl rfl (R.move (v := (vi 3)) rfl) ?_
          refine WL.q (Wn.no rfl) rfl rfl (R.bin (v := (.bool true)) rfl rfl (bi_lss (r := true) (by decide))) ?_
          refine WL.nil ?_
          refine thn_n ?_
          refine WP.condT rfl ?_
          refine WP.skip ?_
          refine thn_n ?_
          refine WP.seq ?_
          refine WP.block ?_
          refine WP.seq ?_
          refine WP.drawT (SL w.heap.size [.blk b_56 .nw 28 [(1, [(vi rd)]), (1, [(vu64 ins)]), (8, (entRegs 1 ain regs).map vu64), (1, [(vu64 pc)]), (1, [(.bool true)]), (1, [(vi 0)])], .blk b_47 .nw 28 [(1, [(vi rd)]), (1, [(vu64 ins)]), (8, (entRegs 1 ain regs).map vu64), (1, [(vu64 pc)]), (1, [(.bool true)]), (1, [(vi 0)])], .blk b_7 .nw 40 [(1, [(vi rs)]), (4, ors.map vu64), (1, [(vu64 adr)]), (1, [(.bool wr)]), (1, [(vi ran)])], .blk b_4 .nw 31 [(4, ain.map vu64)], .blk b_1 .nw 28 [(1, [(vi rd)]), (1, [(vu64 ins)]), (8, regs.map vu64), (1, [(vu64 pc)]), (1, [(.bool true)]), (1, [(vi 1)])]]) (.q 0 (.q 1 (.q 2 (.q 3 (.q 4 (.q 5 (.q 6 (.q 7 (.q 8 (.q 9 (.q 10 (.q 11 (.q 12 (.q 13 (.q 14 (.q 15 (.q 16 (.q 17 (.q 18 (.q 19 .nil)))))))))))))))))))) (by kernel_rfl) (by kernel_rfl) rfl (by kernel_rfl) (fun w_159 hc_161 => (SL.cons ((h_155.same hc_161).ok _ (.head _)) (SL.cons ((h_155.same hc_161).ok _ (.tail _ (.head _))) (SL.cons ((h_155.same hc_161).ok _ (.tail _ (.tail _ (.head _)))) (SL.cons ((h_155.same hc_161).ok _ (.tail _ (.tail _ (.tail _ (.head _))))) (SL.cons ((h_155.same hc_161).ok _ (.tail _ (.tail _ (.tail _ (.tail _ (.head _)))))) (SL.nil _ _))))))) (fun w_159 hc_161 => ?_)
          have h_160 := h_155.same hc_161
          refine WT.q rfl (Wn.no rfl) rfl rfl (fun wq hS => R.move (v := (vi 3)) rfl) ?_
          refine WT.q rfl (Wn.no rfl) rfl rfl (fun wq hS => R.fieldAddr (b := b_56) (off := 0) (off' := 2) rfl Try.underlying28 rfl Try.sizeOf25 rfl rfl) ?_
          refine WT.q rfl (Wn.no rfl) rfl rfl (fun wq hS => R.fieldAddr (b := b_56) (off := 2) (off' := 2) rfl Try.underlying25 rfl Try.sizeOf23 rfl rfl) ?_
          refine WT.q rfl (Wn.no rfl) rfl rfl (fun wq hS => R.indexA (b := b_56) (off := 2) (off' := 5) (i := 3) rfl rfl rfl (by decide) Try.underlying23 Try.sizeOf22 rfl) ?_
          refine WT.q rfl (Wn.no rfl) rfl rfl (fun wq hS => R.loadE (b := b_56) (off := 5) (i := 3) (v := (vu64 ((entRegs 1 ain regs).getD 3 0))) rfl Try.isAgg22 (hS _ (.head _)) (Sg.t rfl (Sg.t rfl Sg.h)) rfl (get_u64 (lt_len (K := 8) (entRegs_len ha hr) (by decide)))) ?_
          refine WT.q rfl (Wn.no rfl) rfl rfl (fun wq hS => R.move (v := (vi 3)) rfl) ?_
          refine WT.q rfl (Wn.no rfl) rfl rfl (fun wq hS => R.fieldAddr (b := b_1) (off := 0) (off' := 2) rfl Try.underlying28 rfl Try.sizeOf25 rfl rfl) ?_
          refine WT.q rfl (Wn.no rfl) rfl rfl (fun wq hS => R.fieldAddr (b := b_1) (off := 2) (off' := 2) rfl Try.underlying25 rfl Try.sizeOf23 rfl rfl) ?_
          refine WT.q rfl (Wn.no rfl) rfl rfl (fun wq hS => R.indexA (b := b_1) (off := 2) (off' := 5) (i := 3) rfl rfl rfl (by decide) Try.underlying23 Try.sizeOf22 rfl) ?_
          refine WT.q rfl (Wn.no rfl) rfl rfl (fun wq hS => R.loadE (b := b_1) (off := 5) (i := 3) (v := (vu64 (regs.getD 3 0))) rfl Try.isAgg22 (hS _ (.tail _ (.tail _ (.tail _ (.tail _ (.head _)))))) (Sg.t rfl (Sg.t rfl Sg.h)) rfl (get_u64 (lt_len (K := 8) hr (by decide)))) ?_
          refine WT.q rfl (Wn.no rfl) rfl rfl (fun wq hS => R.bin (v := (.bool (decide (((entRegs 1 ain regs).getD 3 0 : UInt64) ≠ (regs.getD 3 0))))) rfl rfl (b64_neq ((entRegs 1 ain regs).getD 3 0) (regs.getD 3 0) (r := decide (((entRegs 1 ain regs).getD 3 0 : UInt64) ≠ (regs.getD 3 0))) rfl)) ?_
          refine WT.q rfl (Wn.no rfl) rfl rfl (fun wq hS => R.move (v := (.bool (decide (((entRegs 1 ain regs).getD 3 0 : UInt64) ≠ (regs.getD 3 0))))) rfl) ?_
          rcases Bool.eq_false_or_eq_true (decide (((entRegs 1 ain regs).getD 3 0 : UInt64) ≠ (regs.getD 3 0))) with c_162 | c_162
          · have p_163 := of_decide_eq_true c_162
            refine WT.q rfl (Wn.yes rfl rfl (congrArg Value.bool c_162)) rfl rfl (fun wq hS => R.move (v := (vi 3)) rfl) ?_
            refine WT.q rfl (Wn.yes rfl rfl (congrArg Value.bool c_162)) rfl rfl (fun wq hS => R.bin (v := (.bool false)) rfl rfl (bi_gtr (r := false) (by decide))) ?_
            refine WT.q rfl (Wn.yes rfl rfl (congrArg Value.bool c_162)) rfl rfl (fun wq hS => R.move (v := (.bool false)) rfl) ?_
            refine WT.q rfl (Wn.yes rfl rfl rfl) rfl rfl (fun wq hS => R.fieldAddr (b := b_1) (off := 0) (off' := 12) rfl Try.underlying28 rfl Try.sizeOf26 rfl rfl) ?_
            refine WT.q rfl (Wn.yes rfl rfl rfl) rfl rfl (fun wq hS => R.load1 (b := b_1) (off := 12) (v := (vi 1)) rfl Try.isAgg26 (hS _ (.tail _ (.tail _ (.tail _ (.tail _ (.head _)))))) (Sg.t rfl (Sg.t rfl (Sg.t rfl (Sg.t rfl (Sg.t rfl Sg.h)))))) ?_
            refine WT.q rfl (Wn.yes rfl rfl rfl) rfl rfl (fun wq hS => R.bin (v := (.bool false)) rfl rfl (bi_neq (r := false) (by decide))) ?_
            refine WT.q rfl (Wn.yes rfl rfl (congrArg Value.bool c_162)) rfl rfl (fun wq hS => R.pickF (v := (.bool false)) rfl rfl) ?_
            refine WT.q rfl (Wn.no rfl) rfl rfl (fun wq hS => R.pickT (v := (.bool false)) (congrArg Value.bool c_162) rfl) ?_
            refine WT.nil ?_
            refine thn_n ?_
            refine WP.condF rfl ?_
            refine WP.skip ?_
            refine inb_n ?_
            refine thn_n ?_
            refine WP.reg ?_
            refine WL.q (Wn.no rfl) rfl rfl (R.move (v := (vi 3)) rfl) ?_
            refine WL.q (Wn.no rfl) rfl rfl (R.bin (v := (vi 4)) rfl rfl (bi_add (c := 4) (by omega) (by omega))) ?_
            refine WL.q (Wn.no rfl) rfl rfl (R.assign (v := (vi 4)) rfl) ?_
            refine WL.nil ?_
            refine thn_n ?_
            refine WI.round ?_
            refine WP.seq ?_
            refine WP.seq ?_
            refine WP.reg ?_
            refine WL.q (Wn.no rfl) rfl rfl (R.move (v := (vi 4)) rfl) ?_
            refine WL.q (Wn.no rfl) rfl rfl (R.bin (v := (.bool true)) rfl rfl (bi_lss (r := true) (by decide))) ?_
            refine WL.nil ?_
            refine thn_n ?_
            refine WP.condT rfl ?_
            refine WP.skip ?_
            refine thn_n ?_
            refine WP.seq ?_
            refine WP.block ?_
            refine WP.seq ?_
            refine WP.drawT (SL w.heap.size [.blk b_56 .nw 28 [(1, [(vi rd)]), (1, [(vu64 ins)]), (8, (entRegs 1 ain regs).map vu64), (1, [(vu64 pc)]), (1, [(.bool true)]), (1, [(vi 0)])], .blk b_47 .nw 28 [(1, [(vi rd)]), (1, [(vu64 ins)]), (8, (entRegs 1 ain regs).map vu64), (1, [(vu64 pc)]), (1, [(.bool true)]), (1, [(vi 0)])], .blk b_7 .nw 40 [(1, [(vi rs)]), (4, ors.map vu64), (1, [(vu64 adr)]), (1, [(.bool wr)]), (1, [(vi ran)])], .blk b_4 .nw 31 [(4, ain.map vu64)], .blk b_1 .nw 28 [(1, [(vi rd)]), (1, [(vu64 ins)]), (8, regs.map vu64), (1, [(vu64 pc)]), (1, [(.bool true)]), (1, [(vi 1)])]]) (.q 0 (.q 1 (.q 2 (.q 3 (.q 4 (.q 5 (.q 6 (.q 7 (.q 8 (.q 9 (.q 10 (.q 11 (.q 12 (.q 13 (.q 14 (.q 15 (.q 16 (.q 17 (.q 18 (.q 19 .nil)))))))))))))))))))) (by kernel_rfl) (by kernel_rfl) rfl (by kernel_rfl) (fun w_164 hc_166 => (SL.cons ((h_160.same hc_166).ok _ (.head _)) (SL.cons ((h_160.same hc_166).ok _ (.tail _ (.head _))) (SL.cons ((h_160.same hc_166).ok _ (.tail _ (.tail _ (.head _)))) (SL.cons ((h_160.same hc_166).ok _ (.tail _ (.tail _ (.tail _ (.head _))))) (SL.cons ((h_160.same hc_166).ok _ (.tail _ (.tail _ (.tail _ (.tail _ (.head _)))))) (SL.nil _ _))))))) (fun w_164 hc_166 => ?_)
            have h_165 := h_160.same hc_166
            refine WT.q rfl (Wn.no rfl) rfl rfl (fun wq hS => R.move (v := (vi 4)) rfl) ?_
            refine WT.q rfl (Wn.no rfl) rfl rfl (fun wq hS => R.fieldAddr (b := b_56) (off := 0) (off' := 2) rfl Try.underlying28 rfl Try.sizeOf25 rfl rfl) ?_
            refine WT.q rfl (Wn.no rfl) rfl rfl (fun wq hS => R.fieldAddr (b := b_56) (off := 2) (off' := 2) rfl Try.underlying25 rfl Try.sizeOf23 rfl rfl) ?_
            refine WT.q rfl (Wn.no rfl) rfl rfl (fun wq hS => R.indexA (b := b_56) (off := 2) (off' := 6) (i := 4) rfl rfl rfl (by decide) Try.underlying23 Try.sizeOf22 rfl) ?_
            refine WT.q rfl (Wn.no rfl) rfl rfl (fun wq hS => R.loadE (b := b_56) (off := 6) (i := 4) (v := (vu64 ((entRegs 1 ain regs).getD 4 0))) rfl Try.isAgg22 (hS _ (.head _)) (Sg.t rfl (Sg.t rfl Sg.h)) rfl (get_u64 (lt_len (K := 8) (entRegs_len ha hr) (by decide)))) ?_
            refine WT.q rfl (Wn.no rfl) rfl rfl (fun wq hS => R.move (v := (vi 4)) rfl) ?_
            refine WT.q rfl (Wn.no rfl) rfl rfl (fun wq hS => R.fieldAddr (b := b_1) (off := 0) (off' := 2) rfl Try.underlying28 rfl Try.sizeOf25 rfl rfl) ?_
            refine WT.q rfl (Wn.no rfl) rfl rfl (fun wq hS => R.fieldAddr (b := b_1) (off := 2) (off' := 2) rfl Try.underlying25 rfl Try.sizeOf23 rfl rfl) ?_
            refine WT.q rfl (Wn.no rfl) rfl rfl (fun wq hS => R.indexA (b := b_1) (off := 2) (off' := 6) (i := 4) rfl rfl rfl (by decide) Try.underlying23 Try.sizeOf22 rfl) ?_
            refine WT.q rfl (Wn.no rfl) rfl rfl (fun wq hS => R.loadE (b := b_1) (off := 6) (i := 4) (v := (vu64 (regs.getD 4 0))) rfl Try.isAgg22 (hS _ (.tail _ (.tail _ (.tail _ (.tail _ (.head _)))))) (Sg.t rfl (Sg.t rfl Sg.h)) rfl (get_u64 (lt_len (K := 8) hr (by decide)))) ?_
            refine WT.q rfl (Wn.no rfl) rfl rfl (fun wq hS => R.bin (v := (.bool (decide (((entRegs 1 ain regs).getD 4 0 : UInt64) ≠ (regs.getD 4 0))))) rfl rfl (b64_neq ((entRegs 1 ain regs).getD 4 0) (regs.getD 4 0) (r := decide (((entRegs 1 ain regs).getD 4 0 : UInt64) ≠ (regs.getD 4 0))) rfl)) ?_
            refine WT.q rfl (Wn.no rfl) rfl rfl (fun wq hS => R.move (v := (.bool (decide (((entRegs 1 ain regs).getD 4 0 : UInt64) ≠ (regs.getD 4 0))))) rfl) ?_
            refine WT.skipQ rfl rfl rfl (boolNe (v := .bool false) (congrArg Value.bool (decide_eq_false (not_not_intro (ent_high ha hr).1))) (by decide)) rfl rfl ?_
            refine WT.skipQ rfl rfl rfl (boolNe (v := .bool false) (congrArg Value.bool (decide_eq_false (not_not_intro (ent_high ha hr).1))) (by decide)) rfl rfl ?_
            refine WT.skipQ rfl rfl rfl (boolNe (v := .bool false) (congrArg Value.bool (decide_eq_false (not_not_intro (ent_high ha hr).1))) (by decide)) rfl rfl ?_
            refine WT.skipQ rfl rfl rfl (boolNe (v := undef) rfl (by decide)) rfl rfl ?_
            refine WT.skipQ rfl rfl rfl (boolNe (v := undef) rfl (by decide)) rfl rfl ?_
            refine WT.skipQ rfl rfl rfl (boolNe (v := undef) rfl (by decide)) rfl rfl ?_
            refine WT.skipQ rfl rfl rfl (boolNe (v := .bool false) (congrArg Value.bool (decide_eq_false (not_not_intro (ent_high ha hr).1))) (by decide)) rfl rfl ?_
            refine WT.q rfl (Wn.no rfl) rfl rfl (fun wq hS => R.pickF (v := (.bool false)) (congrArg Value.bool (decide_eq_false (not_not_intro (ent_high ha hr).1))) rfl) ?_
            refine WT.nil ?_
            refine thn_n ?_
            refine WP.condF rfl ?_
            refine WP.skip ?_
            refine inb_n ?_
            refine thn_n ?_
            refine WP.reg ?_
            refine WL.q (Wn.no rfl) rfl rfl (R.move (v := (vi 4)) rfl) ?_
            refine WL.q (Wn.no rfl) rfl rfl (R.bin (v := (vi 5)) rfl rfl (bi_add (c := 5) (by omega) (by omega))) ?_
            refine WL.q (Wn.no rfl) rfl rfl (R.assign (v := (vi 5)) rfl) ?_
            refine WL.nil ?_
            refine thn_n ?_
            refine WI.round ?_
            refine WP.seq ?_
            refine WP.seq ?_
            refine WP.reg ?_
            refine WL.q (Wn.no rfl) rfl rfl (R.move (v := (vi 5)) rfl) ?_
            refine WL.q (Wn.no rfl) rfl rfl (R.bin (v := (.bool true)) rfl rfl (bi_lss (r := true) (by decide))) ?_
            refine WL.nil ?_
            refine thn_n ?_
            refine WP.condT rfl ?_
            refine WP.skip ?_
            refine thn_n ?_
            refine WP.seq ?_
            refine WP.block ?_
            refine WP.seq ?_
            refine WP.drawT (SL w.heap.size [.blk b_56 .nw 28 [(1, [(vi rd)]), (1, [(vu64 ins)]), (8, (entRegs 1 ain regs).map vu64), (1, [(vu64 pc)]), (1, [(.bool true)]), (1, [(vi 0)])], .blk b_47 .nw 28 [(1, [(vi rd)]), (1, [(vu64 ins)]), (8, (entRegs 1 ain regs).map vu64), (1, [(vu64 pc)]), (1, [(.bool true)]), (1, [(vi 0)])], .blk b_7 .nw 40 [(1, [(vi rs)]), (4, ors.map vu64), (1, [(vu64 adr)]), (1, [(.bool wr)]), (1, [(vi ran)])], .blk b_4 .nw 31 [(4, ain.map vu64)], .blk b_1 .nw 28 [(1, [(vi rd)]), (1, [(vu64 ins)]), (8, regs.map vu64), (1, [(vu64 pc)]), (1, [(.bool true)]), (1, [(vi 1)])]]) (.q 0 (.q 1 (.q 2 (.q 3 (.q 4 (.q 5 (.q 6 (.q 7 (.q 8 (.q 9 (.q 10 (.q 11 (.q 12 (.q 13 (.q 14 (.q 15 (.q 16 (.q 17 (.q 18 (.q 19 .nil)))))))))))))))))))) (by kernel_rfl) (by kernel_rfl) rfl (by kernel_rfl) (fun w_167 hc_169 => (SL.cons ((h_165.same hc_169).ok _ (.head _)) (SL.cons ((h_165.same hc_169).ok _ (.tail _ (.head _))) (SL.cons ((h_165.same hc_169).ok _ (.tail _ (.tail _ (.head _)))) (SL.cons ((h_165.same hc_169).ok _ (.tail _ (.tail _ (.tail _ (.head _))))) (SL.cons ((h_165.same hc_169).ok _ (.tail _ (.tail _ (.tail _ (.tail _ (.head _)))))) (SL.nil _ _))))))) (fun w_167 hc_169 => ?_)
            have h_168 := h_165.same hc_169
            refine WT.q rfl (Wn.no rfl) rfl rfl (fun wq hS => R.move (v := (vi 5)) rfl) ?_
            refine WT.q rfl (Wn.no rfl) rfl rfl (fun wq hS => R.fieldAddr (b := b_56) (off := 0) (off' := 2) rfl Try.underlying28 rfl Try.sizeOf25 rfl rfl) ?_
            refine WT.q rfl (Wn.no rfl) rfl rfl (fun wq hS => R.fieldAddr (b := b_56) (off := 2) (off' := 2) rfl Try.underlying25 rfl Try.sizeOf23 rfl rfl) ?_
            refine WT.q rfl (Wn.no rfl) rfl rfl (fun wq hS => R.indexA (b := b_56) (off := 2) (off' := 7) (i := 5) rfl rfl rfl (by decide) Try.underlying23 Try.sizeOf22 rfl) ?_
            refine WT.q rfl (Wn.no rfl) rfl rfl (fun wq hS => R.loadE (b := b_56) (off := 7) (i := 5) (v := (vu64 ((entRegs 1 ain regs).getD 5 0))) rfl Try.isAgg22 (hS _ (.head _)) (Sg.t rfl (Sg.t rfl Sg.h)) rfl (get_u64 (lt_len (K := 8) (entRegs_len ha hr) (by decide)))) ?_
            refine WT.q rfl (Wn.no rfl) rfl rfl (fun wq hS => R.move (v := (vi 5)) rfl) ?_
            refine WT.q rfl (Wn.no rfl) rfl rfl (fun wq hS => R.fieldAddr (b := b_1) (off := 0) (off' := 2) rfl Try.underlying28 rfl Try.sizeOf25 rfl rfl) ?_
            refine WT.q rfl (Wn.no rfl) rfl rfl (fun wq hS => R.fieldAddr (b := b_1) (off := 2) (off' := 2) rfl Try.underlying25 rfl Try.sizeOf23 rfl rfl) ?_
            refine WT.q rfl (Wn.no rfl) rfl rfl (fun wq hS => R.indexA (b := b_1) (off := 2) (off' := 7) (i := 5) rfl rfl rfl (by decide) Try.underlying23 Try.sizeOf22 rfl) ?_
            refine WT.q rfl (Wn.no rfl) rfl rfl (fun wq hS => R.loadE (b := b_1) (off := 7) (i := 5) (v := (vu64 (regs.getD 5 0))) rfl Try.isAgg22 (hS _ (.tail _ (.tail _ (.tail _ (.tail _ (.head _)))))) (Sg.t rfl (Sg.t rfl Sg.h)) rfl (get_u64 (lt_len (K := 8) hr (by decide)))) ?_
            refine WT.q rfl (Wn.no rfl) rfl rfl (fun wq hS => R.bin (v := (.bool (decide (((entRegs 1 ain regs).getD 5 0 : UInt64) ≠ (regs.getD 5 0))))) rfl rfl (b64_neq ((entRegs 1 ain regs).getD 5 0) (regs.getD 5 0) (r := decide (((entRegs 1 ain regs).getD 5 0 : UInt64) ≠ (regs.getD 5 0))) rfl)) ?_
            refine WT.q rfl (Wn.no rfl) rfl rfl (fun wq hS => R.move (v := (.bool (decide (((entRegs 1 ain regs).getD 5 0 : UInt64) ≠ (regs.getD 5 0))))) rfl) ?_
            refine WT.skipQ rfl rfl rfl (boolNe (v := .bool false) (congrArg Value.bool (decide_eq_false (not_not_intro (ent_high ha hr).2.1))) (by decide)) rfl rfl ?_
            refine WT.skipQ rfl rfl rfl (boolNe (v := .bool false) (congrArg Value.bool (decide_eq_false (not_not_intro (ent_high ha hr).2.1))) (by decide)) rfl rfl ?_
            refine WT.skipQ rfl rfl rfl (boolNe (v := .bool false) (congrArg Value.bool (decide_eq_false (not_not_intro (ent_high ha hr).2.1))) (by decide)) rfl rfl ?_
            refine WT.skipQ rfl rfl rfl (boolNe (v := undef) rfl (by decide)) rfl rfl ?_
            refine WT.skipQ rfl rfl rfl (boolNe (v := undef) rfl (by decide)) rfl rfl ?_
            refine WT.skipQ rfl rfl rfl (boolNe (v := undef) rfl (by decide)) rfl rfl ?_
            refine WT.skipQ rfl rfl rfl (boolNe (v := .bool false) (congrArg Value.bool (decide_eq_false (not_not_intro (ent_high ha hr).2.1))) (by decide)) rfl rfl ?_
            refine WT.q rfl (Wn.no rfl) rfl rfl (fun wq hS => R.pickF (v := (.bool false)) (congrArg Value.bool (decide_eq_false (not_not_intro (ent_high ha hr).2.1))) rfl) ?_
            refine WT.nil ?_
            refine thn_n ?_
            refine WP.condF rfl ?_
            refine WP.skip ?_
            refine inb_n ?_
            refine thn_n ?_
            refine WP.reg ?_
            refine WL.q (Wn.no rfl) rfl rfl (R.move (v := (vi 5)) rfl) ?_
            refine WL.q (Wn.no rfl) rfl rfl (R.bin (v := (vi 6)) rfl rfl (bi_add (c := 6) (by omega) (by omega))) ?_
            refine WL.q (Wn.no rfl) rfl rfl (R.assign (v := (vi 6)) rfl) ?_
            refine WL.nil ?_
            refine thn_n ?_
            refine WI.round ?_
            refine WP.seq ?_
            refine WP.seq ?_
            refine WP.reg ?_
            refine WL.q (Wn.no rfl) rfl rfl (R.move (v := (vi 6)) rfl) ?_
            refine WL.q (Wn.no rfl) rfl rfl (R.bin (v := (.bool true)) rfl rfl (bi_lss (r := true) (by decide))) ?_
            refine WL.nil ?_
            refine thn_n ?_
            refine WP.condT rfl ?_
            refine WP.skip ?_
            refine thn_n ?_
            refine WP.seq ?_
            refine WP.block ?_
            refine WP.seq ?_
            refine WP.drawT (SL w.heap.size [.blk b_56 .nw 28 [(1, [(vi rd)]), (1, [(vu64 ins)]), (8, (entRegs 1 ain regs).map vu64), (1, [(vu64 pc)]), (1, [(.bool true)]), (1, [(vi 0)])], .blk b_47 .nw 28 [(1, [(vi rd)]), (1, [(vu64 ins)]), (8, (entRegs 1 ain regs).map vu64), (1, [(vu64 pc)]), (1, [(.bool true)]), (1, [(vi 0)])], .blk b_7 .nw 40 [(1, [(vi rs)]), (4, ors.map vu64), (1, [(vu64 adr)]), (1, [(.bool wr)]), (1, [(vi ran)])], .blk b_4 .nw 31 [(4, ain.map vu64)], .blk b_1 .nw 28 [(1, [(vi rd)]), (1, [(vu64 ins)]), (8, regs.map vu64), (1, [(vu64 pc)]), (1, [(.bool true)]), (1, [(vi 1)])]]) (.q 0 (.q 1 (.q 2 (.q 3 (.q 4 (.q 5 (.q 6 (.q 7 (.q 8 (.q 9 (.q 10 (.q 11 (.q 12 (.q 13 (.q 14 (.q 15 (.q 16 (.q 17 (.q 18 (.q 19 .nil)))))))))))))))))))) (by kernel_rfl) (by kernel_rfl) rfl (by kernel_rfl) (fun w_170 hc_172 => (SL.cons ((h_168.same hc_172).ok _ (.head _)) (SL.cons ((h_168.same hc_172).ok _ (.tail _ (.head _))) (SL.cons ((h_168.same hc_172).ok _ (.tail _ (.tail _ (.head _)))) (SL.cons ((h_168.same hc_172).ok _ (.tail _ (.tail _ (.tail _ (.head _))))) (SL.cons ((h_168.same hc_172).ok _ (.tail _ (.tail _ (.tail _ (.tail _ (.head _)))))) (SL.nil _ _))))))) (fun w_170 hc_172 => ?_)
            have h_171 := h_168.same hc_172
            refine WT.q rfl (Wn.no rfl) rfl rfl (fun wq hS => R.move (v := (vi 6)) rfl) ?_
            refine WT.q rfl (Wn.no rfl) rfl rfl (fun wq hS => R.fieldAddr (b := b_56) (off := 0) (off' := 2) rfl Try.underlying28 rfl Try.sizeOf25 rfl rfl) ?_
            refine WT.q rfl (Wn.no rfl) rfl rfl (fun wq hS => R.fieldAddr (b := b_56) (off := 2) (off' := 2) rfl Try.underlying25 rfl Try.sizeOf23 rfl rfl) ?_
            refine WT.q rfl (Wn.no rfl) rfl rfl (fun wq hS => R.indexA (b := b_56) (off := 2) (off' := 8) (i := 6) rfl rfl rfl (by decide) Try.underlying23 Try.sizeOf22 rfl) ?_
            refine WT.q rfl (Wn.no rfl) rfl rfl (fun wq hS => R.loadE (b := b_56) (off := 8) (i := 6) (v := (vu64 ((entRegs 1 ain regs).getD 6 0))) rfl Try.isAgg22 (hS _ (.head _)) (Sg.t rfl (Sg.t rfl Sg.h)) rfl (get_u64 (lt_len (K := 8) (entRegs_len ha hr) (by decide)))) ?_
            refine WT.q rfl (Wn.no rfl) rfl rfl (fun wq hS => R.move (v := (vi 6)) rfl) ?_
            refine WT.q rfl (Wn.no rfl) rfl rfl (fun wq hS => R.fieldAddr (b := b_1) (off := 0) (off' := 2) rfl Try.underlying28 rfl Try.sizeOf25 rfl rfl) ?_
            refine WT.q rfl (Wn.no rfl) rfl rfl (fun wq hS => R.fieldAddr (b := b_1) (off := 2) (off' := 2) rfl Try.underlying25 rfl Try.sizeOf23 rfl rfl) ?_
            refine WT.q rfl (Wn.no rfl) rfl rfl (fun wq hS => R.indexA (b := b_1) (off := 2) (off' := 8) (i := 6) rfl rfl rfl (by decide) Try.underlying23 Try.sizeOf22 rfl) ?_
            refine WT.q rfl (Wn.no rfl) rfl rfl (fun wq hS => R.loadE (b := b_1) (off := 8) (i := 6) (v := (vu64 (regs.getD 6 0))) rfl Try.isAgg22 (hS _ (.tail _ (.tail _ (.tail _ (.tail _ (.head _)))))) (Sg.t rfl (Sg.t rfl Sg.h)) rfl (get_u64 (lt_len (K := 8) hr (by decide)))) ?_
            refine WT.q rfl (Wn.no rfl) rfl rfl (fun wq hS => R.bin (v := (.bool (decide (((entRegs 1 ain regs).getD 6 0 : UInt64) ≠ (regs.getD 6 0))))) rfl rfl (b64_neq ((entRegs 1 ain regs).getD 6 0) (regs.getD 6 0) (r := decide (((entRegs 1 ain regs).getD 6 0 : UInt64) ≠ (regs.getD 6 0))) rfl)) ?_
            refine WT.q rfl (Wn.no rfl) rfl rfl (fun wq hS => R.move (v := (.bool (decide (((entRegs 1 ain regs).getD 6 0 : UInt64) ≠ (regs.getD 6 0))))) rfl) ?_
            refine WT.skipQ rfl rfl rfl (boolNe (v := .bool false) (congrArg Value.bool (decide_eq_false (not_not_intro (ent_high ha hr).2.2.1))) (by decide)) rfl rfl ?_
            refine WT.skipQ rfl rfl rfl (boolNe (v := .bool false) (congrArg Value.bool (decide_eq_false (not_not_intro (ent_high ha hr).2.2.1))) (by decide)) rfl rfl ?_
            refine WT.skipQ rfl rfl rfl (boolNe (v := .bool false) (congrArg Value.bool (decide_eq_false (not_not_intro (ent_high ha hr).2.2.1))) (by decide)) rfl rfl ?_
            refine WT.skipQ rfl rfl rfl (boolNe (v := undef) rfl (by decide)) rfl rfl ?_
            refine WT.skipQ rfl rfl rfl (boolNe (v := undef) rfl (by decide)) rfl rfl ?_
            refine WT.skipQ rfl rfl rfl (boolNe (v := undef) rfl (by decide)) rfl rfl ?_
            refine WT.skipQ rfl rfl rfl (boolNe (v := .bool false) (congrArg Value.bool (decide_eq_false (not_not_intro (ent_high ha hr).2.2.1))) (by decide)) rfl rfl ?_
            refine WT.q rfl (Wn.no rfl) rfl rfl (fun wq hS => R.pickF (v := (.bool false)) (congrArg Value.bool (decide_eq_false (not_not_intro (ent_high ha hr).2.2.1))) rfl) ?_
            refine WT.nil ?_
            refine thn_n ?_
            refine WP.condF rfl ?_
            refine WP.skip ?_
            refine inb_n ?_
            refine thn_n ?_
            refine WP.reg ?_
            refine WL.q (Wn.no rfl) rfl rfl (R.move (v := (vi 6)) rfl) ?_
            refine WL.q (Wn.no rfl) rfl rfl (R.bin (v := (vi 7)) rfl rfl (bi_add (c := 7) (by omega) (by omega))) ?_
            refine WL.q (Wn.no rfl) rfl rfl (R.assign (v := (vi 7)) rfl) ?_
            refine WL.nil ?_
            refine thn_n ?_
            refine WI.round ?_
            refine WP.seq ?_
            refine WP.seq ?_
            refine WP.reg ?_
            refine WL.q (Wn.no rfl) rfl rfl (R.move (v := (vi 7)) rfl) ?_
            refine WL.q (Wn.no rfl) rfl rfl (R.bin (v := (.bool true)) rfl rfl (bi_lss (r := true) (by decide))) ?_
            refine WL.nil ?_
            refine thn_n ?_
            refine WP.condT rfl ?_
            refine WP.skip ?_
            refine thn_n ?_
            refine WP.seq ?_
            refine WP.block ?_
            refine WP.seq ?_
            refine WP.drawT (SL w.heap.size [.blk b_56 .nw 28 [(1, [(vi rd)]), (1, [(vu64 ins)]), (8, (entRegs 1 ain regs).map vu64), (1, [(vu64 pc)]), (1, [(.bool true)]), (1, [(vi 0)])], .blk b_47 .nw 28 [(1, [(vi rd)]), (1, [(vu64 ins)]), (8, (entRegs 1 ain regs).map vu64), (1, [(vu64 pc)]), (1, [(.bool true)]), (1, [(vi 0)])], .blk b_7 .nw 40 [(1, [(vi rs)]), (4, ors.map vu64), (1, [(vu64 adr)]), (1, [(.bool wr)]), (1, [(vi ran)])], .blk b_4 .nw 31 [(4, ain.map vu64)], .blk b_1 .nw 28 [(1, [(vi rd)]), (1, [(vu64 ins)]), (8, regs.map vu64), (1, [(vu64 pc)]), (1, [(.bool true)]), (1, [(vi 1)])]]) (.q 0 (.q 1 (.q 2 (.q 3 (.q 4 (.q 5 (.q 6 (.q 7 (.q 8 (.q 9 (.q 10 (.q 11 (.q 12 (.q 13 (.q 14 (.q 15 (.q 16 (.q 17 (.q 18 (.q 19 .nil)))))))))))))))))))) (by kernel_rfl) (by kernel_rfl) rfl (by kernel_rfl) (fun w_173 hc_175 => (SL.cons ((h_171.same hc_175).ok _ (.head _)) (SL.cons ((h_171.same hc_175).ok _ (.tail _ (.head _))) (SL.cons ((h_171.same hc_175).ok _ (.tail _ (.tail _ (.head _)))) (SL.cons ((h_171.same hc_175).ok _ (.tail _ (.tail _ (.tail _ (.head _))))) (SL.cons ((h_171.same hc_175).ok _ (.tail _ (.tail _ (.tail _ (.tail _ (.head _)))))) (SL.nil _ _))))))) (fun w_173 hc_175 => ?_)
            have h_174 := h_171.same hc_175
            refine WT.q rfl (Wn.no rfl) rfl rfl (fun wq hS => R.move (v := (vi 7)) rfl) ?_
            refine WT.q rfl (Wn.no rfl) rfl rfl (fun wq hS => R.fieldAddr (b := b_56) (off := 0) (off' := 2) rfl Try.underlying28 rfl Try.sizeOf25 rfl rfl) ?_
            refine WT.q rfl (Wn.no rfl) rfl rfl (fun wq hS => R.fieldAddr (b := b_56) (off := 2) (off' := 2) rfl Try.underlying25 rfl Try.sizeOf23 rfl rfl) ?_
            refine WT.q rfl (Wn.no rfl) rfl rfl (fun wq hS => R.indexA (b := b_56) (off := 2) (off' := 9) (i := 7) rfl rfl rfl (by decide) Try.underlying23 Try.sizeOf22 rfl) ?_
            refine WT.q rfl (Wn.no rfl) rfl rfl (fun wq hS => R.loadE (b := b_56) (off := 9) (i := 7) (v := (vu64 ((entRegs 1 ain regs).getD 7 0))) rfl Try.isAgg22 (hS _ (.head _)) (Sg.t rfl (Sg.t rfl Sg.h)) rfl (get_u64 (lt_len (K := 8) (entRegs_len ha hr) (by decide)))) ?_
            refine WT.q rfl (Wn.no rfl) rfl rfl (fun wq hS => R.move (v := (vi 7)) rfl) ?_
            refine WT.q rfl (Wn.no rfl) rfl rfl (fun wq hS => R.fieldAddr (b := b_1) (off := 0) (off' := 2) rfl Try.underlying28 rfl Try.sizeOf25 rfl rfl) ?_
            refine WT.q rfl (Wn.no rfl) rfl rfl (fun wq hS => R.fieldAddr (b := b_1) (off := 2) (off' := 2) rfl Try.underlying25 rfl Try.sizeOf23 rfl rfl) ?_
            refine WT.q rfl (Wn.no rfl) rfl rfl (fun wq hS => R.indexA (b := b_1) (off := 2) (off' := 9) (i := 7) rfl rfl rfl (by decide) Try.underlying23 Try.sizeOf22 rfl) ?_
            refine WT.q rfl (Wn.no rfl) rfl rfl (fun wq hS => R.loadE (b := b_1) (off := 9) (i := 7) (v := (vu64 (regs.getD 7 0))) rfl Try.isAgg22 (hS _ (.tail _ (.tail _ (.tail _ (.tail _ (.head _)))))) (Sg.t rfl (Sg.t rfl Sg.h)) rfl (get_u64 (lt_len (K := 8) hr (by decide)))) ?_
            refine WT.q rfl (Wn.no rfl) rfl rfl (fun wq hS => R.bin (v := (.bool (decide (((entRegs 1 ain regs).getD 7 0 : UInt64) ≠ (regs.getD 7 0))))) rfl rfl (b64_neq ((entRegs 1 ain regs).getD 7 0) (regs.getD 7 0) (r := decide (((entRegs 1 ain regs).getD 7 0 : UInt64) ≠ (regs.getD 7 0))) rfl)) ?_
            refine WT.q rfl (Wn.no rfl) rfl rfl (fun wq hS => R.move (v := (.bool (decide (((entRegs 1 ain regs).getD 7 0 : UInt64) ≠ (regs.getD 7 0))))) rfl) ?_
            refine WT.skipQ rfl rfl rfl (boolNe (v := .bool false) (congrArg Value.bool (decide_eq_false (not_not_intro (ent_high ha hr).2.2.2))) (by decide)) rfl rfl ?_
            refine WT.skipQ rfl rfl rfl (boolNe (v := .bool false) (congrArg Value.bool (decide_eq_false (not_not_intro (ent_high ha hr).2.2.2))) (by decide)) rfl rfl ?_
            refine WT.skipQ rfl rfl rfl (boolNe (v := .bool false) (congrArg Value.bool (decide_eq_false (not_not_intro (ent_high ha hr).2.2.2))) (by decide)) rfl rfl ?_
            refine WT.skipQ rfl rfl rfl (boolNe (v := undef) rfl (by decide)) rfl rfl ?_
            refine WT.skipQ rfl rfl rfl (boolNe (v := undef) rfl (by decide)) rfl rfl ?_
            refine WT.skipQ rfl rfl rfl (boolNe (v := undef) rfl (by decide)) rfl rfl ?_
            refine WT.skipQ rfl rfl rfl (boolNe (v := .bool false) (congrArg Value.bool (decide_eq_false (not_not_intro (ent_high ha hr).2.2.2))) (by decide)) rfl rfl ?_
            refine WT.q rfl (Wn.no rfl) rfl rfl (fun wq hS => R.pickF (v := (.bool false)) (congrArg Value.bool (decide_eq_false (not_not_intro (ent_high ha hr).2.2.2))) rfl) ?_
            refine WT.nil ?_
            refine thn_n ?_
            refine WP.condF rfl ?_
            refine WP.skip ?_
            refine inb_n ?_
            refine thn_n ?_
            refine WP.reg ?_
            refine WL.q (Wn.no rfl) rfl rfl (R.move (v := (vi 7)) rfl) ?_
            refine WL.q (Wn.no rfl) rfl rfl (R.bin (v := (vi 8)) rfl rfl (bi_add (c := 8) (by omega) (by omega))) ?_
            refine WL.q (Wn.no rfl) rfl rfl (R.assign (v := (vi 8)) rfl) ?_
            refine WL.nil ?_
            refine thn_n ?_
            refine WI.round ?_
            refine WP.seq ?_
            refine WP.seq ?_
            refine WP.reg ?_
            refine WL.q (Wn.no rfl) rfl rfl (R.move (v := (vi 8)) rfl) ?_
            refine WL.q (Wn.no rfl) rfl rfl (R.bin (v := (.bool false)) rfl rfl (bi_lss (r := false) (by decide))) ?_
            refine WL.nil ?_
            refine thn_n ?_
            refine WP.condF rfl ?_
            refine WP.exit ?_
            refine thn_x ?_
            refine thn_x ?_
            refine inb_hit ?_
            refine thn_n ?_
            refine WP.seq ?_
            refine WP.reg ?_
            refine WL.call (al := []) Try.call15 rfl rfl (c_known14  _) rfl ?_
            rintro _ w_177 ⟨rfl, hc_176⟩
            have h_178 := h_174.same hc_176
            refine WL.q (Wn.no rfl) rfl rfl (R.assign (v := (.bool true)) rfl) ?_
            refine WL.nil ?_
            refine thn_n ?_
            refine WP.ret ?_
            refine ret_of Try.results9 (RV.tmp (v := (.bool true)) rfl RV.nil) ?_
            exact ⟨rfl, h_178.chgS⟩
          · have p_179 := of_decide_eq_false c_162
            refine WT.skipQ rfl rfl rfl (boolNe (v := .bool false) (congrArg Value.bool c_162) (by decide)) rfl rfl ?_
            refine WT.skipQ rfl rfl rfl (boolNe (v := .bool false) (congrArg Value.bool c_162) (by decide)) rfl rfl ?_
            refine WT.skipQ rfl rfl rfl (boolNe (v := .bool false) (congrArg Value.bool c_162) (by decide)) rfl rfl ?_
            refine WT.skipQ rfl rfl rfl (boolNe (v := undef) rfl (by decide)) rfl rfl ?_
            refine WT.skipQ rfl rfl rfl (boolNe (v := undef) rfl (by decide)) rfl rfl ?_
            refine WT.skipQ rfl rfl rfl (boolNe (v := undef) rfl (by decide)) rfl rfl ?_
            refine WT.skipQ rfl rfl rfl (boolNe (v := .bool false) (congrArg Value.bool c_162) (by decide)) rfl rfl ?_
            refine WT.q rfl (Wn.no rfl) rfl rfl (fun wq hS => R.pickF (v := (.bool false)) (congrArg Value.bool c_162) rfl) ?_
            refine WT.nil ?_
            refine thn_n ?_
            refine WP.condF rfl ?_
            refine WP.skip ?_
            refine inb_n ?_
            refine thn_n ?_
            refine WP.reg ?_
            refine WL.q (Wn.no rfl) rfl rfl (R.move (v := (vi 3)) rfl) ?_
            refine WL.q (Wn.no rfl) rfl rfl (R.bin (v := (vi 4)) rfl rfl (bi_add (c := 4) (by omega) (by omega))) ?_
            refine WL.q (Wn.no rfl) rfl rfl (R.assign (v := (vi 4)) rfl) ?_
            refine WL.nil ?_
            refine thn_n ?_
            refine WI.round ?_
            refine WP.seq ?_
            refine WP.seq ?_
            refine WP.reg ?_
            refine WL.q (Wn.no rfl) rfl rfl (R.move (v := (vi 4)) rfl) ?_
            refine WL.q (Wn.no rfl) rfl rfl (R.bin (v := (.bool true)) rfl rfl (bi_lss (r := true) (by decide))) ?_
            refine WL.nil ?_
            refine thn_n ?_
            refine WP.condT rfl ?_
            refine WP.skip ?_
            refine thn_n ?_
            refine WP.seq ?_
            refine WP.block ?_
            refine WP.seq ?_
            refine WP.drawT (SL w.heap.size [.blk b_56 .nw 28 [(1, [(vi rd)]), (1, [(vu64 ins)]), (8, (entRegs 1 ain regs).map vu64), (1, [(vu64 pc)]), (1, [(.bool true)]), (1, [(vi 0)])], .blk b_47 .nw 28 [(1, [(vi rd)]), (1, [(vu64 ins)]), (8, (entRegs 1 ain regs).map vu64), (1, [(vu64 pc)]), (1, [(.bool true)]), (1, [(vi 0)])], .blk b_7 .nw 40 [(1, [(vi rs)]), (4, ors.map vu64), (1, [(vu64 adr)]), (1, [(.bool wr)]), (1, [(vi ran)])], .blk b_4 .nw 31 [(4, ain.map vu64)], .blk b_1 .nw 28 [(1, [(vi rd)]), (1, [(vu64 ins)]), (8, regs.map vu64), (1, [(vu64 pc)]), (1, [(.bool true)]), (1, [(vi 1)])]]) (.q 0 (.q 1 (.q 2 (.q 3 (.q 4 (.q 5 (.q 6 (.q 7 (.q 8 (.q 9 (.q 10 (.q 11 (.q 12 (.q 13 (.q 14 (.q 15 (.q 16 (.q 17 (.q 18 (.q 19 .nil)))))))))))))))))))) (by kernel_rfl) (by kernel_rfl) rfl (by kernel_rfl) (fun w_180 hc_182 => (SL.cons ((h_160.same hc_182).ok _ (.head _)) (SL.cons ((h_160.same hc_182).ok _ (.tail _ (.head _))) (SL.cons ((h_160.same hc_182).ok _ (.tail _ (.tail _ (.head _)))) (SL.cons ((h_160.same hc_182).ok _ (.tail _ (.tail _ (.tail _ (.head _))))) (SL.cons ((h_160.same hc_182).ok _ (.tail _ (.tail _ (.tail _ (.tail _ (.head _)))))) (SL.nil _ _))))))) (fun w_180 hc_182 => ?_)
            have h_181 := h_160.same hc_182
            refine WT.q rfl (Wn.no rfl) rfl rfl (fun wq hS => R.move (v := (vi 4)) rfl) ?_
            refine WT.q rfl (Wn.no rfl) rfl rfl (fun wq hS => R.fieldAddr (b := b_56) (off := 0) (off' := 2) rfl Try.underlying28 rfl Try.sizeOf25 rfl rfl) ?_
            refine WT.q rfl (Wn.no rfl) rfl rfl (fun wq hS => R.fieldAddr (b := b_56) (off := 2) (off' := 2) rfl Try.underlying25 rfl Try.sizeOf23 rfl rfl) ?_
            refine WT.q rfl (Wn.no rfl) rfl rfl (fun wq hS => R.indexA (b := b_56) (off := 2) (off' := 6) (i := 4) rfl rfl rfl (by decide) Try.underlying23 Try.sizeOf22 rfl) ?_
            refine WT.q rfl (Wn.no rfl) rfl rfl (fun wq hS => R.loadE (b := b_56) (off := 6) (i := 4) (v := (vu64 ((entRegs 1 ain regs).getD 4 0))) rfl Try.isAgg22 (hS _ (.head _)) (Sg.t rfl (Sg.t rfl Sg.h)) rfl (get_u64 (lt_len (K := 8) (entRegs_len ha hr) (by decide)))) ?_
            refine WT.q rfl (Wn.no rfl) rfl rfl (fun wq hS => R.move (v := (vi 4)) rfl) ?_
            refine WT.q rfl (Wn.no rfl) rfl rfl (fun wq hS => R.fieldAddr (b := b_1) (off := 0) (off' := 2) rfl Try.underlying28 rfl Try.sizeOf25 rfl rfl) ?_
            refine WT.q rfl (Wn.no rfl) rfl rfl (fun wq hS => R.fieldAddr (b := b_1) (off := 2) (off' := 2) rfl Try.underlying25 rfl Try.sizeOf23 rfl rfl) ?_
            refine WT.q rfl (Wn.no rfl) rfl rfl (fun wq hS => R.indexA (b := b_1) (off := 2) (off' := 6) (i := 4) rfl rfl rfl (by decide) Try.underlying23 Try.sizeOf22 rfl) ?_
            refine WT.q rfl (Wn.no rfl) rfl rfl (fun wq hS => R.loadE (b := b_1) (off := 6) (i := 4) (v := (vu64 (regs.getD 4 0))) rfl Try.isAgg22 (hS _ (.tail _ (.tail _ (.tail _ (.tail _ (.head _)))))) (Sg.t rfl (Sg.t rfl Sg.h)) rfl (get_u64 (lt_len (K := 8) hr (by decide)))) ?_
            refine WT.q rfl (Wn.no rfl) rfl rfl (fun wq hS => R.bin (v := (.bool (decide (((entRegs 1 ain regs).getD 4 0 : UInt64) ≠ (regs.getD 4 0))))) rfl rfl (b64_neq ((entRegs 1 ain regs).getD 4 0) (regs.getD 4 0) (r := decide (((entRegs 1 ain regs).getD 4 0 : UInt64) ≠ (regs.getD 4 0))) rfl)) ?_
            refine WT.q rfl (Wn.no rfl) rfl rfl (fun wq hS => R.move (v := (.bool (decide (((entRegs 1 ain regs).getD 4 0 : UInt64) ≠ (regs.getD 4 0))))) rfl) ?_
            refine WT.skipQ rfl rfl rfl (boolNe (v := .bool false) (congrArg Value.bool (decide_eq_false (not_not_intro (ent_high ha hr).1))) (by decide)) rfl rfl ?_
            refine WT.skipQ rfl rfl rfl (boolNe (v := .bool false) (congrArg Value.bool (decide_eq_false (not_not_intro (ent_high ha hr).1))) (by decide)) rfl rfl ?_
            refine WT.skipQ rfl rfl rfl (boolNe (v := .bool false) (congrArg Value.bool (decide_eq_false (not_not_intro (ent_high ha hr).1))) (by decide)) rfl rfl ?_
            refine WT.skipQ rfl rfl rfl (boolNe (v := undef) rfl (by decide)) rfl rfl ?_
            refine WT.skipQ rfl rfl rfl (boolNe (v := undef) rfl (by decide)) rfl rfl ?_
            refine WT.skipQ rfl rfl rfl (boolNe (v := undef) rfl (by decide)) rfl rfl ?_
            refine WT.skipQ rfl rfl rfl (boolNe (v := .bool false) (congrArg Value.bool (decide_eq_false (not_not_intro (ent_high ha hr).1))) (by decide)) rfl rfl ?_
            refine WT.q rfl (Wn.no rfl) rfl rfl (fun wq hS => R.pickF (v := (.bool false)) (congrArg Value.bool (decide_eq_false (not_not_intro (ent_high ha hr).1))) rfl) ?_
            refine WT.nil ?_
            refine thn_n ?_
            refine WP.condF rfl ?_
            refine WP.skip ?_
            refine inb_n ?_
            refine thn_n ?_
            refine WP.reg ?_
            refine WL.q (Wn.no rfl) rfl rfl (R.move (v := (vi 4)) rfl) ?_
            refine WL.q (Wn.no rfl) rfl rfl (R.bin (v := (vi 5)) rfl rfl (bi_add (c := 5) (by omega) (by omega))) ?_
            refine WL.q (Wn.no rfl) rfl rfl (R.assign (v := (vi 5)) rfl) ?_
            refine WL.nil ?_
            refine thn_n ?_
            refine WI.round ?_
            refine WP.seq ?_
            refine WP.seq ?_
            refine WP.reg ?_
            refine WL.q (Wn.no rfl) rfl rfl (R.move (v := (vi 5)) rfl) ?_
            refine WL.q (Wn.no rfl) rfl rfl (R.bin (v := (.bool true)) rfl rfl (bi_lss (r := true) (by decide))) ?_
            refine WL.nil ?_
            refine thn_n ?_
            refine WP.condT rfl ?_
            refine WP.skip ?_
            refine thn_n ?_
            refine WP.seq ?_
            refine WP.block ?_
            refine WP.seq ?_
            refine WP.drawT (SL w.heap.size [.blk b_56 .nw 28 [(1, [(vi rd)]), (1, [(vu64 ins)]), (8, (entRegs 1 ain regs).map vu64), (1, [(vu64 pc)]), (1, [(.bool true)]), (1, [(vi 0)])], .blk b_47 .nw 28 [(1, [(vi rd)]), (1, [(vu64 ins)]), (8, (entRegs 1 ain regs).map vu64), (1, [(vu64 pc)]), (1, [(.bool true)]), (1, [(vi 0)])], .blk b_7 .nw 40 [(1, [(vi rs)]), (4, ors.map vu64), (1, [(vu64 adr)]), (1, [(.bool wr)]), (1, [(vi ran)])], .blk b_4 .nw 31 [(4, ain.map vu64)], .blk b_1 .nw 28 [(1, [(vi rd)]), (1, [(vu64 ins)]), (8, regs.map vu64), (1, [(vu64 pc)]), (1, [(.bool true)]), (1, [(vi 1)])]]) (.q 0 (.q 1 (.q 2 (.q 3 (.q 4 (.q 5 (.q 6 (.q 7 (.q 8 (.q 9 (.q 10 (.q 11 (.q 12 (.q 13 (.q 14 (.q 15 (.q 16 (.q 17 (.q 18 (.q 19 .nil)))))))))))))))))))) (by kernel_rfl) (by kernel_rfl) rfl (by kernel_rfl) (fun w_183 hc_185 => (SL.cons ((h_181.same hc_185).ok _ (.head _)) (SL.cons ((h_181.same hc_185).ok _ (.tail _ (.head _))) (SL.cons ((h_181.same hc_185).ok _ (.tail _ (.tail _ (.head _)))) (SL.cons ((h_181.same hc_185).ok _ (.tail _ (.tail _ (.tail _ (.head _))))) (SL.cons ((h_181.same hc_185).ok _ (.tail _ (.tail _ (.tail _ (.tail _ (.head _)))))) (SL.nil _ _))))))) (fun w_183 hc_185 => ?_)
            have h_184 := h_181.same hc_185
            refine WT.q rfl (Wn.no rfl) rfl rfl (fun wq hS => R.move (v := (vi 5)) rfl) ?_
            refine WT.q rfl (Wn.no rfl) rfl rfl (fun wq hS => R.fieldAddr (b := b_56) (off := 0) (off' := 2) rfl Try.underlying28 rfl Try.sizeOf25 rfl rfl) ?_
            refine WT.q rfl (Wn.no rfl) rfl rfl (fun wq hS => R.fieldAddr (b := b_56) (off := 2) (off' := 2) rfl Try.underlying25 rfl Try.sizeOf23 rfl rfl) ?_
            refine WT.q rfl (Wn.no rfl) rfl rfl (fun wq hS => R.indexA (b := b_56) (off := 2) (off' := 7) (i := 5) rfl rfl rfl (by decide) Try.underlying23 Try.sizeOf22 rfl) ?_
            refine WT.q rfl (Wn.no rfl) rfl rfl (fun wq hS => R.loadE (b := b_56) (off := 7) (i := 5) (v := (vu64 ((entRegs 1 ain regs).getD 5 0))) rfl Try.isAgg22 (hS _ (.head _)) (Sg.t rfl (Sg.t rfl Sg.h)) rfl (get_u64 (lt_len (K := 8) (entRegs_len ha hr) (by decide)))) ?_
            refine WT.q rfl (Wn.no rfl) rfl rfl (fun wq hS => R.move (v := (vi 5)) rfl) ?_
            refine WT.q rfl (Wn.no rfl) rfl rfl (fun wq hS => R.fieldAddr (b := b_1) (off := 0) (off' := 2) rfl Try.underlying28 rfl Try.sizeOf25 rfl rfl) ?_
            refine WT.q rfl (Wn.no rfl) rfl rfl (fun wq hS => R.fieldAddr (b := b_1) (off := 2) (off' := 2) rfl Try.underlying25 rfl Try.sizeOf23 rfl rfl) ?_
            refine WT.q rfl (Wn.no rfl) rfl rfl (fun wq hS => R.indexA (b := b_1) (off := 2) (off' := 7) (i := 5) rfl rfl rfl (by decide) Try.underlying23 Try.sizeOf22 rfl) ?_
            refine WT.q rfl (Wn.no rfl) rfl rfl (fun wq hS => R.loadE (b := b_1) (off := 7) (i := 5) (v := (vu64 (regs.getD 5 0))) rfl Try.isAgg22 (hS _ (.tail _ (.tail _ (.tail _ (.tail _ (.head _)))))) (Sg.t rfl (Sg.t rfl Sg.h)) rfl (get_u64 (lt_len (K := 8) hr (by decide)))) ?_
            refine WT.q rfl (Wn.no rfl) rfl rfl (fun wq hS => R.bin (v := (.bool (decide (((entRegs 1 ain regs).getD 5 0 : UInt64) ≠ (regs.getD 5 0))))) rfl rfl (b64_neq ((entRegs 1 ain regs).getD 5 0) (regs.getD 5 0) (r := decide (((entRegs 1 ain regs).getD 5 0 : UInt64) ≠ (regs.getD 5 0))) rfl)) ?_
            refine WT.q rfl (Wn.no rfl) rfl rfl (fun wq hS => R.move (v := (.bool (decide (((entRegs 1 ain regs).getD 5 0 : UInt64) ≠ (regs.getD 5 0))))) rfl) ?_
            refine WT.skipQ rfl rfl rfl (boolNe (v := .bool false) (congrArg Value.bool (decide_eq_false (not_not_intro (ent_high ha hr).2.1))) (by decide)) rfl rfl ?_
            refine WT.skipQ rfl rfl rfl (boolNe (v := .bool false) (congrArg Value.bool (decide_eq_false (not_not_intro (ent_high ha hr).2.1))) (by decide)) rfl rfl ?_
            refine WT.skipQ rfl rfl rfl (boolNe (v := .bool false) (congrArg Value.bool (decide_eq_false (not_not_intro (ent_high ha hr).2.1))) (by decide)) rfl rfl ?_
            refine WT.skipQ rfl rfl rfl (boolNe (v := undef) rfl (by decide)) rfl rfl ?_
            refine WT.skipQ rfl rfl rfl (boolNe (v := undef) rfl (by decide)) rfl rfl ?_
            refine WT.skipQ rfl rfl rfl (boolNe (v := undef) rfl (by decide)) rfl rfl ?_
            refine WT.skipQ rfl rfl rfl (boolNe (v := .bool false) (congrArg Value.bool (decide_eq_false (not_not_intro (ent_high ha hr).2.1))) (by decide)) rfl rfl ?_
            refine WT.q rfl (Wn.no rfl) rfl rfl (fun wq hS => R.pickF (v := (.bool false)) (congrArg Value.bool (decide_eq_false (not_not_intro (ent_high ha hr).2.1))) rfl) ?_
            refine WT.nil ?_
            refine thn_n ?_
            refine WP.condF rfl ?_
            refine WP.skip ?_
            refine inb_n ?_
            refine thn_n ?_
            refine WP.reg ?_
            refine WL.q (Wn.no rfl) rfl rfl (R.move (v := (vi 5)) rfl) ?_
            refine WL.q (Wn.no rfl) rfl rfl (R.bin (v := (vi 6)) rfl rfl (bi_add (c := 6) (by omega) (by omega))) ?_
            refine WL.q (Wn.no rfl) rfl rfl (R.assign (v := (vi 6)) rfl) ?_
            refine WL.nil ?_
            refine thn_n ?_
            refine WI.round ?_
            refine WP.seq ?_
            refine WP.seq ?_
            refine WP.reg ?_
            refine WL.q (Wn.no rfl) rfl rfl (R.move (v := (vi 6)) rfl) ?_
            refine WL.q (Wn.no rfl) rfl rfl (R.bin (v := (.bool true)) rfl rfl (bi_lss (r := true) (by decide))) ?_
            refine WL.nil ?_
            refine thn_n ?_
            refine WP.condT rfl ?_
            refine WP.skip ?_
            refine thn_n ?_
            refine WP.seq ?_
            refine WP.block ?_
            refine WP.seq ?_
            refine WP.drawT (SL w.heap.size [.blk b_56 .nw 28 [(1, [(vi rd)]), (1, [(vu64 ins)]), (8, (entRegs 1 ain regs).map vu64), (1, [(vu64 pc)]), (1, [(.bool true)]), (1, [(vi 0)])], .blk b_47 .nw 28 [(1, [(vi rd)]), (1, [(vu64 ins)]), (8, (entRegs 1 ain regs).map vu64), (1, [(vu64 pc)]), (1, [(.bool true)]), (1, [(vi 0)])], .blk b_7 .nw 40 [(1, [(vi rs)]), (4, ors.map vu64), (1, [(vu64 adr)]), (1, [(.bool wr)]), (1, [(vi ran)])], .blk b_4 .nw 31 [(4, ain.map vu64)], .blk b_1 .nw 28 [(1, [(vi rd)]), (1, [(vu64 ins)]), (8, regs.map vu64), (1, [(vu64 pc)]), (1, [(.bool true)]), (1, [(vi 1)])]]) (.q 0 (.q 1 (.q 2 (.q 3 (.q 4 (.q 5 (.q 6 (.q 7 (.q 8 (.q 9 (.q 10 (.q 11 (.q 12 (.q 13 (.q 14 (.q 15 (.q 16 (.q 17 (.q 18 (.q 19 .nil)))))))))))))))))))) (by kernel_rfl) (by kernel_rfl) rfl (by kernel_rfl) (fun w_186 hc_188 => (SL.cons ((h_184.same hc_188).ok _ (.head _)) (SL.cons ((h_184.same hc_188).ok _ (.tail _ (.head _))) (SL.cons ((h_184.same hc_188).ok _ (.tail _ (.tail _ (.head _)))) (SL.cons ((h_184.same hc_188).ok _ (.tail _ (.tail _ (.tail _ (.head _))))) (SL.cons ((h_184.same hc_188).ok _ (.tail _ (.tail _ (.tail _ (.tail _ (.head _)))))) (SL.nil _ _))))))) (fun w_186 hc_188 => ?_)
            have h_187 := h_184.same hc_188
            refine WT.q rfl (Wn.no rfl) rfl rfl (fun wq hS => R.move (v := (vi 6)) rfl) ?_
            refine WT.q rfl (Wn.no rfl) rfl rfl (fun wq hS => R.fieldAddr (b := b_56) (off := 0) (off' := 2) rfl Try.underlying28 rfl Try.sizeOf25 rfl rfl) ?_
            refine WT.q rfl (Wn.no rfl) rfl rfl (fun wq hS => R.fieldAddr (b := b_56) (off := 2) (off' := 2) rfl Try.underlying25 rfl Try.sizeOf23 rfl rfl) ?_
            refine WT.q rfl (Wn.no rfl) rfl rfl (fun wq hS => R.indexA (b := b_56) (off := 2) (off' := 8) (i := 6) rfl rfl rfl (by decide) Try.underlying23 Try.sizeOf22 rfl) ?_
            refine WT.q rfl (Wn.no rfl) rfl rfl (fun wq hS => R.loadE (b := b_56) (off := 8) (i := 6) (v := (vu64 ((entRegs 1 ain regs).getD 6 0))) rfl Try.isAgg22 (hS _ (.head _)) (Sg.t rfl (Sg.t rfl Sg.h)) rfl (get_u64 (lt_len (K := 8) (entRegs_len ha hr) (by decide)))) ?_
            refine WT.q rfl (Wn.no rfl) rfl rfl (fun wq hS => R.move (v := (vi 6)) rfl) ?_
            refine WT.q rfl (Wn.no rfl) rfl rfl (fun wq hS => R.fieldAddr (b := b_1) (off := 0) (off' := 2) rfl Try.underlying28 rfl Try.sizeOf25 rfl rfl) ?_
            refine WT.q rfl (Wn.no rfl) rfl rfl (fun wq hS => R.fieldAddr (b := b_1) (off := 2) (off' := 2) rfl Try.underlying25 rfl Try.sizeOf23 rfl rfl) ?_
            refine WT.q rfl (Wn.no rfl) rfl rfl (fun wq hS => R.indexA (b := b_1) (off := 2) (off' := 8) (i := 6) rfl rfl rfl (by decide) Try.underlying23 Try.sizeOf22 rfl) ?_
            refine WT.q rfl (Wn.no rfl) rfl rfl (fun wq hS => R.loadE (b := b_1) (off := 8) (i := 6) (v := (vu64 (regs.getD 6 0))) rfl Try.isAgg22 (hS _ (.tail _ (.tail _ (.tail _ (.tail _ (.head _)))))) (Sg.t rfl (Sg.t rfl Sg.h)) rfl (get_u64 (lt_len (K := 8) hr (by decide)))) ?_
            refine WT.q rfl (Wn.no rfl) rfl rfl (fun wq hS => R.bin (v := (.bool (decide (((entRegs 1 ain regs).getD 6 0 : UInt64) ≠ (regs.getD 6 0))))) rfl rfl (b64_neq ((entRegs 1 ain regs).getD 6 0) (regs.getD 6 0) (r := decide (((entRegs 1 ain regs).getD 6 0 : UInt64) ≠ (regs.getD 6 0))) rfl)) ?_
            refine WT.q rfl (Wn.no rfl) rfl rfl (fun wq hS => R.move (v := (.bool (decide (((entRegs 1 ain regs).getD 6 0 : UInt64) ≠ (regs.getD 6 0))))) rfl) ?_
            refine WT.skipQ rfl rfl rfl (boolNe (v := .bool false) (congrArg Value.bool (decide_eq_false (not_not_intro (ent_high ha hr).2.2.1))) (by decide)) rfl rfl ?_
            refine WT.skipQ rfl rfl rfl (boolNe (v := .bool false) (congrArg Value.bool (decide_eq_false (not_not_intro (ent_high ha hr).2.2.1))) (by decide)) rfl rfl ?_
            refine WT.skipQ rfl rfl rfl (boolNe (v := .bool false) (congrArg Value.bool (decide_eq_false (not_not_intro (ent_high ha hr).2.2.1))) (by decide)) rfl rfl ?_
            refine WT.skipQ rfl rfl rfl (boolNe (v := undef) rfl (by decide)) rfl rfl ?_
            refine WT.skipQ rfl rfl rfl (boolNe (v := undef) rfl (by decide)) rfl rfl ?_
            refine WT.skipQ rfl rfl rfl (boolNe (v := undef) rfl (by decide)) rfl rfl ?_
            refine WT.skipQ rfl rfl rfl (boolNe (v := .bool false) (congrArg Value.bool (decide_eq_false (not_not_intro (ent_high ha hr).2.2.1))) (by decide)) rfl rfl ?_
            refine WT.q rfl (Wn.no rfl) rfl rfl (fun wq hS => R.pickF (v := (.bool false)) (congrArg Value.bool (decide_eq_false (not_not_intro (ent_high ha hr).2.2.1))) rfl) ?_
            refine WT.nil ?_
            refine thn_n ?_
            refine WP.condF rfl ?_
            refine WP.skip ?_
            refine inb_n ?_
            refine thn_n ?_
            refine WP.reg ?_
            refine WL.q (Wn.no rfl) rfl rfl (R.move (v := (vi 6)) rfl) ?_
            refine WL.q (Wn.no rfl) rfl rfl (R.bin (v := (vi 7)) rfl rfl (bi_add (c := 7) (by omega) (by omega))) ?_
            refine WL.q (Wn.no rfl) rfl rfl (R.assign (v := (vi 7)) rfl) ?_
            refine WL.nil ?_
            refine thn_n ?_
            refine WI.round ?_
            refine WP.seq ?_
            refine WP.seq ?_
            refine WP.reg ?_
            refine WL.q (Wn.no rfl) rfl rfl (R.move (v := (vi 7)) rfl) ?_
            refine WL.q (Wn.no rfl) rfl rfl (R.bin (v := (.bool true)) rfl rfl (bi_lss (r := true) (by decide))) ?_
            refine WL.nil ?_
            refine thn_n ?_
            refine WP.condT rfl ?_
            refine WP.skip ?_
            refine thn_n ?_
            refine WP.seq ?_
            refine WP.block ?_
            refine WP.seq ?_
            refine WP.drawT (SL w.heap.size [.blk b_56 .nw 28 [(1, [(vi rd)]), (1, [(vu64 ins)]), (8, (entRegs 1 ain regs).map vu64), (1, [(vu64 pc)]), (1, [(.bool true)]), (1, [(vi 0)])], .blk b_47 .nw 28 [(1, [(vi rd)]), (1, [(vu64 ins)]), (8, (entRegs 1 ain regs).map vu64), (1, [(vu64 pc)]), (1, [(.bool true)]), (1, [(vi 0)])], .blk b_7 .nw 40 [(1, [(vi rs)]), (4, ors.map vu64), (1, [(vu64 adr)]), (1, [(.bool wr)]), (1, [(vi ran)])], .blk b_4 .nw 31 [(4, ain.map vu64)], .blk b_1 .nw 28 [(1, [(vi rd)]), (1, [(vu64 ins)]), (8, regs.map vu64), (1, [(vu64 pc)]), (1, [(.bool true)]), (1, [(vi 1)])]]) (.q 0 (.q 1 (.q 2 (.q 3 (.q 4 (.q 5 (.q 6 (.q 7 (.q 8 (.q 9 (.q 10 (.q 11 (.q 12 (.q 13 (.q 14 (.q 15 (.q 16 (.q 17 (.q 18 (.q 19 .nil)))))))))))))))))))) (by kernel_rfl) (by kernel_rfl) rfl (by kernel_rfl) (fun w_189 hc_191 => (SL.cons ((h_187.same hc_191).ok _ (.head _)) (SL.cons ((h_187.same hc_191).ok _ (.tail _ (.head _))) (SL.cons ((h_187.same hc_191).ok _ (.tail _ (.tail _ (.head _)))) (SL.cons ((h_187.same hc_191).ok _ (.tail _ (.tail _ (.tail _ (.head _))))) (SL.cons ((h_187.same hc_191).ok _ (.tail _ (.tail _ (.tail _ (.tail _ (.head _)))))) (SL.nil _ _))))))) (fun w_189 hc_191 => ?_)
            have h_190 := h_187.same hc_191
            refine WT.q rfl (Wn.no rfl) rfl rfl (fun wq hS => R.move (v := (vi 7)) rfl) ?_
            refine WT.q rfl (Wn.no rfl) rfl rfl (fun wq hS => R.fieldAddr (b := b_56) (off := 0) (off' := 2) rfl Try.underlying28 rfl Try.sizeOf25 rfl rfl) ?_
            refine WT.q rfl (Wn.no rfl) rfl rfl (fun wq hS => R.fieldAddr (b := b_56) (off := 2) (off' := 2) rfl Try.underlying25 rfl Try.sizeOf23 rfl rfl) ?_
            refine WT.q rfl (Wn.no rfl) rfl rfl (fun wq hS => R.indexA (b := b_56) (off := 2) (off' := 9) (i := 7) rfl rfl rfl (by decide) Try.underlying23 Try.sizeOf22 rfl) ?_
            refine WT.q rfl (Wn.no rfl) rfl rfl (fun wq hS => R.loadE (b := b_56) (off := 9) (i := 7) (v := (vu64 ((entRegs 1 ain regs).getD 7 0))) rfl Try.isAgg22 (hS _ (.head _)) (Sg.t rfl (Sg.t rfl Sg.h)) rfl (get_u64 (lt_len (K := 8) (entRegs_len ha hr) (by decide)))) ?_
            refine WT.q rfl (Wn.no rfl) rfl rfl (fun wq hS => R.move (v := (vi 7)) rfl) ?_
            refine WT.q rfl (Wn.no rfl) rfl rfl (fun wq hS => R.fieldAddr (b := b_1) (off := 0) (off' := 2) rfl Try.underlying28 rfl Try.sizeOf25 rfl rfl) ?_
            refine WT.q rfl (Wn.no rfl) rfl rfl (fun wq hS => R.fieldAddr (b := b_1) (off := 2) (off' := 2) rfl Try.underlying25 rfl Try.sizeOf23 rfl rfl) ?_
            refine WT.q rfl (Wn.no rfl) rfl rfl (fun wq hS => R.indexA (b := b_1) (off := 2) (off' := 9) (i := 7) rfl rfl rfl (by decide) Try.underlying23 Try.sizeOf22 rfl) ?_
            refine WT.q rfl (Wn.no rfl) rfl rfl (fun wq hS => R.loadE (b := b_1) (off := 9) (i := 7) (v := (vu64 (regs.getD 7 0))) rfl Try.isAgg22 (hS _ (.tail _ (.tail _ (.tail _ (.tail _ (.head _)))))) (Sg.t rfl (Sg.t rfl Sg.h)) rfl (get_u64 (lt_len (K := 8) hr (by decide)))) ?_
            refine WT.q rfl (Wn.no rfl) rfl rfl (fun wq hS => R.bin (v := (.bool (decide (((entRegs 1 ain regs).getD 7 0 : UInt64) ≠ (regs.getD 7 0))))) rfl rfl (b64_neq ((entRegs 1 ain regs).getD 7 0) (regs.getD 7 0) (r := decide (((entRegs 1 ain regs).getD 7 0 : UInt64) ≠ (regs.getD 7 0))) rfl)) ?_
            refine WT.q rfl (Wn.no rfl) rfl rfl (fun wq hS => R.move (v := (.bool (decide (((entRegs 1 ain regs).getD 7 0 : UInt64) ≠ (regs.getD 7 0))))) rfl) ?_
            refine WT.skipQ rfl rfl rfl (boolNe (v := .bool false) (congrArg Value.bool (decide_eq_false (not_not_intro (ent_high ha hr).2.2.2))) (by decide)) rfl rfl ?_
            refine WT.skipQ rfl rfl rfl (boolNe (v := .bool false) (congrArg Value.bool (decide_eq_false (not_not_intro (ent_high ha hr).2.2.2))) (by decide)) rfl rfl ?_
            refine WT.skipQ rfl rfl rfl (boolNe (v := .bool false) (congrArg Value.bool (decide_eq_false (not_not_intro (ent_high ha hr).2.2.2))) (by decide)) rfl rfl ?_
            refine WT.skipQ rfl rfl rfl (boolNe (v := undef) rfl (by decide)) rfl rfl ?_
            refine WT.skipQ rfl rfl rfl (boolNe (v := undef) rfl (by decide)) rfl rfl ?_
            refine WT.skipQ rfl rfl rfl (boolNe (v := undef) rfl (by decide)) rfl rfl ?_
            refine WT.skipQ rfl rfl rfl (boolNe (v := .bool false) (congrArg Value.bool (decide_eq_false (not_not_intro (ent_high ha hr).2.2.2))) (by decide)) rfl rfl ?_
            refine WT.q rfl (Wn.no rfl) rfl rfl (fun wq hS => R.pickF (v := (.bool false)) (congrArg Value.bool (decide_eq_false (not_not_intro (ent_high ha hr).2.2.2))) rfl) ?_
            refine WT.nil ?_
            refine thn_n ?_
            refine WP.condF rfl ?_
            refine WP.skip ?_
            refine inb_n ?_
            refine thn_n ?_
            refine WP.reg ?_
            refine WL.q (Wn.no rfl) rfl rfl (R.move (v := (vi 7)) rfl) ?_
            refine WL.q (Wn.no rfl) rfl rfl (R.bin (v := (vi 8)) rfl rfl (bi_add (c := 8) (by omega) (by omega))) ?_
            refine WL.q (Wn.no rfl) rfl rfl (R.assign (v := (vi 8)) rfl) ?_
            refine WL.nil ?_
            refine thn_n ?_
            refine WI.round ?_
            refine WP.seq ?_
            refine WP.seq ?_
            refine WP.reg ?_
            refine WL.q (Wn.no rfl) rfl rfl (R.move (v := (vi 8)) rfl) ?_
            refine WL.q (Wn.no rfl) rfl rfl (R.bin (v := (.bool false)) rfl rfl (bi_lss (r := false) (by decide))) ?_
            refine WL.nil ?_
            refine thn_n ?_
            refine WP.condF rfl ?_
            refine WP.exit ?_
            refine thn_x ?_
            refine thn_x ?_
            refine inb_hit ?_
            refine thn_n ?_
            refine WP.seq ?_
            refine WP.reg ?_
            refine WL.call (al := []) Try.call15 rfl rfl (c_known14  _) rfl ?_
            rintro _ w_193 ⟨rfl, hc_192⟩
            have h_194 := h_190.same hc_192
            refine WL.q (Wn.no rfl) rfl rfl (R.assign (v := (.bool true)) rfl) ?_
            refine WL.nil ?_
            refine thn_n ?_
            refine WP.ret ?_
            refine ret_of Try.results9 (RV.tmp (v := (.bool true)) rfl RV.nil) ?_
            exact ⟨rfl, h_194.chgS⟩
        · have p_195 := of_decide_eq_false c_157
          refine WT.skipQ rfl rfl rfl (boolNe (v := .bool false) (congrArg Value.bool c_157) (by decide)) rfl rfl ?_
          refine WT.skipQ rfl rfl rfl (boolNe (v := .bool false) (congrArg Value.bool c_157) (by decide)) rfl rfl ?_
          refine WT.skipQ rfl rfl rfl (boolNe (v := .bool false) (congrArg Value.bool c_157) (by decide)) rfl rfl ?_
          refine WT.skipQ rfl rfl rfl (boolNe (v := undef) rfl (by decide)) rfl rfl ?_
          refine WT.skipQ rfl rfl rfl (boolNe (v := undef) rfl (by decide)) rfl rfl ?_
          refine WT.skipQ rfl rfl rfl (boolNe (v := undef) rfl (by decide)) rfl rfl ?_
          refine WT.skipQ rfl rfl rfl (boolNe (v := .bool false) (congrArg Value.bool c_157) (by decide)) rfl rfl ?_
          refine WT.q rfl (Wn.no rfl) rfl rfl (fun wq hS => R.pickF (v := (.bool false)) (congrArg Value.bool c_157) rfl) ?_
          refine WT.nil ?_
          refine thn_n ?_
          refine WP.condF rfl ?_
          refine WP.skip ?_
          refine inb_n ?_
          refine thn_n ?_
          refine WP.reg ?_
          refine WL.q (Wn.no rfl) rfl rfl (R.move (v := (vi 2)) rfl) ?_
          refine WL.q (Wn.no rfl) rfl rfl (R.bin (v := (vi 3)) rfl rfl (bi_add (c := 3) (by omega) (by omega))) ?_
          refine WL.q (Wn.no rfl) rfl rfl (R.assign (v := (vi 3)) rfl) ?_
          refine WL.nil ?_
          refine thn_n ?_
          refine WI.round ?_
          refine WP.seq ?_
          refine WP.seq ?_
          refine WP.reg ?_
          refine WL.q (Wn.no rfl) rfl rfl (R.move (v := (vi 3)) rfl) ?_
          refine WL.q (Wn.no rfl) rfl rfl (R.bin (v := (.bool true)) rfl rfl (bi_lss (r := true) (by decide))) ?_
          refine WL.nil ?_
          refine thn_n ?_
          refine WP.condT rfl ?_
          refine WP.skip ?_
          refine thn_n ?_
          refine WP.seq ?_
          refine WP.block ?_
          refine WP.seq ?_
          refine WP.drawT (SL w.heap.size [.blk b_56 .nw 28 [(1, [(vi rd)]), (1, [(vu64 ins)]), (8, (entRegs 1 ain regs).map vu64), (1, [(vu64 pc)]), (1, [(.bool true)]), (1, [(vi 0)])], .blk b_47 .nw 28 [(1, [(vi rd)]), (1, [(vu64 ins)]), (8, (entRegs 1 ain regs).map vu64), (1, [(vu64 pc)]), (1, [(.bool true)]), (1, [(vi 0)])], .blk b_7 .nw 40 [(1, [(vi rs)]), (4, ors.map vu64), (1, [(vu64 adr)]), (1, [(.bool wr)]), (1, [(vi ran)])], .blk b_4 .nw 31 [(4, ain.map vu64)], .blk b_1 .nw 28 [(1, [(vi rd)]), (1, [(vu64 ins)]), (8, regs.map vu64), (1, [(vu64 pc)]), (1, [(.bool true)]), (1, [(vi 1)])]]) (.q 0 (.q 1 (.q 2 (.q 3 (.q 4 (.q 5 (.q 6 (.q 7 (.q 8 (.q 9 (.q 10 (.q 11 (.q 12 (.q 13 (.q 14 (.q 15 (.q 16 (.q 17 (.q 18 (.q 19 .nil)))))))))))))))))))) (by kernel_rfl) (by kernel_rfl) rfl (by kernel_rfl) (fun w_196 hc_198 => (SL.cons ((h_155.same hc_198).ok _ (.head _)) (SL.cons ((h_155.same hc_198).ok _ (.tail _ (.head _))) (SL.cons ((h_155.same hc_198).ok _ (.tail _ (.tail _ (.head _)))) (SL.cons ((h_155.same hc_198).ok _ (.tail _ (.tail _ (.tail _ (.head _))))) (SL.cons ((h_155.same hc_198).ok _ (.tail _ (.tail _ (.tail _ (.tail _ (.head _)))))) (SL.nil _ _))))))) (fun w_196 hc_198 => ?_)
          have h_197 := h_155.same hc_198
          refine WT.q rfl (Wn.no rfl) rfl rfl (fun wq hS => R.move (v := (vi 3)) rfl) ?_
          refine WT.q rfl (Wn.no rfl) rfl rfl (fun wq hS => R.fieldAddr (b := b_56) (off := 0) (off' := 2) rfl Try.underlying28 rfl Try.sizeOf25 rfl rfl) ?_
          refine WT.q rfl (Wn.no rfl) rfl rfl (fun wq hS => R.fieldAddr (b := b_56) (off := 2) (off' := 2) rfl Try.underlying25 rfl Try.sizeOf23 rfl rfl) ?_
          refine WT.q rfl (Wn.no rfl) rfl rfl (fun wq hS => R.indexA (b := b_56) (off := 2) (off' := 5) (i := 3) rfl rfl rfl (by decide) Try.underlying23 Try.sizeOf22 rfl) ?_
          refine WT.q rfl (Wn.no rfl) rfl rfl (fun wq hS => R.loadE (b := b_56) (off := 5) (i := 3) (v := (vu64 ((entRegs 1 ain regs).getD 3 0))) rfl Try.isAgg22 (hS _ (.head _)) (Sg.t rfl (Sg.t rfl Sg.h)) rfl (get_u64 (lt_len (K := 8) (entRegs_len ha hr) (by decide)))) ?_
          refine WT.q rfl (Wn.no rfl) rfl rfl (fun wq hS => R.move (v := (vi 3)) rfl) ?_
          refine WT.q rfl (Wn.no rfl) rfl rfl (fun wq hS => R.fieldAddr (b := b_1) (off := 0) (off' := 2) rfl Try.underlying28 rfl Try.sizeOf25 rfl rfl) ?_
          refine WT.q rfl (Wn.no rfl) rfl rfl (fun wq hS => R.fieldAddr (b := b_1) (off := 2) (off' := 2) rfl Try.underlying25 rfl Try.sizeOf23 rfl rfl) ?_
          refine WT.q rfl (Wn.no rfl) rfl rfl (fun wq hS => R.indexA (b := b_1) (off := 2) (off' := 5) (i := 3) rfl rfl rfl (by decide) Try.underlying23 Try.sizeOf22 rfl) ?_
          refine WT.q rfl (Wn.no rfl) rfl rfl (fun wq hS => R.loadE (b := b_1) (off := 5) (i := 3) (v := (vu64 (regs.getD 3 0))) rfl Try.isAgg22 (hS _ (.tail _ (.tail _ (.tail _ (.tail _ (.head _)))))) (Sg.t rfl (Sg.t rfl Sg.h)) rfl (get_u64 (lt_len (K := 8) hr (by decide)))) ?_
          refine WT.q rfl (Wn.no rfl) rfl rfl (fun wq hS => R.bin (v := (.bool (decide (((entRegs 1 ain regs).getD 3 0 : UInt64) ≠ (regs.getD 3 0))))) rfl rfl (b64_neq ((entRegs 1 ain regs).getD 3 0) (regs.getD 3 0) (r := decide (((entRegs 1 ain regs).getD 3 0 : UInt64) ≠ (regs.getD 3 0))) rfl)) ?_
          refine WT.q rfl (Wn.no rfl) rfl rfl (fun wq hS => R.move (v := (.bool (decide (((entRegs 1 ain regs).getD 3 0 : UInt64) ≠ (regs.getD 3 0))))) rfl) ?_
          rcases Bool.eq_false_or_eq_true (decide (((entRegs 1 ain regs).getD 3 0 : UInt64) ≠ (regs.getD 3 0))) with c_199 | c_199
          · have p_200 := of_decide_eq_true c_199
            refine WT.q rfl (Wn.yes rfl rfl (congrArg Value.bool c_199)) rfl rfl (fun wq hS => R.move (v := (vi 3)) rfl) ?_
            refine WT.q rfl (Wn.yes rfl rfl (congrArg Value.bool c_199)) rfl rfl (fun wq hS => R.bin (v := (.bool false)) rfl rfl (bi_gtr (r := false) (by decide))) ?_
            refine WT.q rfl (Wn.yes rfl rfl (congrArg Value.bool c_199)) rfl rfl (fun wq hS => R.move (v := (.bool false)) rfl) ?_
            refine WT.q rfl (Wn.yes rfl rfl rfl) rfl rfl (fun wq hS => R.fieldAddr (b := b_1) (off := 0) (off' := 12) rfl Try.underlying28 rfl Try.sizeOf26 rfl rfl) ?_
            refine WT.q rfl (Wn.yes rfl rfl rfl) rfl rfl (fun wq hS => R.load1 (b := b_1) (off := 12) (v := (vi 1)) rfl Try.isAgg26 (hS _ (.tail _ (.tail _ (.tail _ (.tail _ (.head _)))))) (Sg.t rfl (Sg.t rfl (Sg.t rfl (Sg.t rfl (Sg.t rfl Sg.h)))))) ?_
            refine WT.q rfl (Wn.yes rfl rfl rfl) rfl rfl (fun wq hS => R.bin (v := (.bool false)) rfl rfl (bi_neq (r := false) (by decide))) ?_
            refine WT.q rfl (Wn.yes rfl rfl (congrArg Value.bool c_199)) rfl rfl (fun wq hS => R.pickF (v := (.bool false)) rfl rfl) ?_
            refine WT.q rfl (Wn.no rfl) rfl rfl (fun wq hS => R.pickT (v := (.bool false)) (congrArg Value.bool c_199) rfl) ?_
            refine WT.nil ?_
            refine thn_n ?_
            refine WP.condF rfl ?_
            refine WP.skip ?_
            refine inb_n ?_
            refine thn_n ?_
            refine WP.reg ?_
            refine WL.q (Wn.no rfl) rfl rfl (R.move (v := (vi 3)) rfl) ?_
            refine WL.q (Wn.no rfl) rfl rfl (R.bin (v := (vi 4)) rfl rfl (bi_add (c := 4) (by omega) (by omega))) ?_
            refine WL.q (Wn.no rfl) rfl rfl (R.assign (v := (vi 4)) rfl) ?_
            refine WL.nil ?_
            refine thn_n ?_
            refine WI.round ?_
            refine WP.seq ?_
            refine WP.seq ?_
            refine WP.reg ?_
            refine WL.q (Wn.no rfl) rfl rfl (R.move (v := (vi 4)) rfl) ?_
            refine WL.q (Wn.no rfl) rfl rfl (R.bin (v := (.bool true)) rfl rfl (bi_lss (r := true) (by decide))) ?_
            refine WL.nil ?_
            refine thn_n ?_
            refine WP.condT rfl ?_
            refine WP.skip ?_
            refine thn_n ?_
            refine WP.seq ?_
            refine WP.block ?_
            refine WP.seq ?_
            refine WP.drawT (SL w.heap.size [.blk b_56 .nw 28 [(1, [(vi rd)]), (1, [(vu64 ins)]), (8, (entRegs 1 ain regs).map vu64), (1, [(vu64 pc)]), (1, [(.bool true)]), (1, [(vi 0)])], .blk b_47 .nw 28 [(1, [(vi rd)]), (1, [(vu64 ins)]), (8, (entRegs 1 ain regs).map vu64), (1, [(vu64 pc)]), (1, [(.bool true)]), (1, [(vi 0)])], .blk b_7 .nw 40 [(1, [(vi rs)]), (4, ors.map vu64), (1, [(vu64 adr)]), (1, [(.bool wr)]), (1, [(vi ran)])], .blk b_4 .nw 31 [(4, ain.map vu64)], .blk b_1 .nw 28 [(1, [(vi rd)]), (1, [(vu64 ins)]), (8, regs.map vu64), (1, [(vu64 pc)]), (1, [(.bool true)]), (1, [(vi 1)])]]) (.q 0 (.q 1 (.q 2 (.q 3 (.q 4 (.q 5 (.q 6 (.q 7 (.q 8 (.q 9 (.q 10 (.q 11 (.q 12 (.q 13 (.q 14 (.q 15 (.q 16 (.q 17 (.q 18 (.q 19 .nil)))))))))))))))))))) (by kernel_rfl) (by kernel_rfl) rfl (by kernel_rfl) (fun w_201 hc_203 => (SL.cons ((h_197.same hc_203).ok _ (.head _)) (SL.cons ((h_197.same hc_203).ok _ (.tail _ (.head _))) (SL.cons ((h_197.same hc_203).ok _ (.tail _ (.tail _ (.head _)))) (SL.cons ((h_197.same hc_203).ok _ (.tail _ (.tail _ (.tail _ (.head _))))) (SL.cons ((h_197.same hc_203).ok _ (.tail _ (.tail _ (.tail _ (.tail _ (.head _)))))) (SL.nil _ _))))))) (fun w_201 hc_203 => ?_)
            have h_202 := h_197.same hc_203
            refine WT.q rfl (Wn.no rfl) rfl rfl (fun wq hS => R.move (v := (vi 4)) rfl) ?_
            refine WT.q rfl (Wn.no rfl) rfl rfl (fun wq hS => R.fieldAddr (b := b_56) (off := 0) (off' := 2) rfl Try.underlying28 rfl Try.sizeOf25 rfl rfl) ?_
            refine WT.q rfl (Wn.no rfl) rfl rfl (fun wq hS => R.fieldAddr (b := b_56) (off := 2) (off' := 2) rfl Try.underlying25 rfl Try.sizeOf23 rfl rfl) ?_
            refine WT.q rfl (Wn.no rfl) rfl rfl (fun wq hS => R.indexA (b := b_56) (off := 2) (off' := 6) (i := 4) rfl rfl rfl (by decide) Try.underlying23 Try.sizeOf22 rfl) ?_
            refine WT.q rfl (Wn.no rfl) rfl rfl (fun wq hS => R.loadE (b := b_56) (off := 6) (i := 4) (v := (vu64 ((entRegs 1 ain regs).getD 4 0))) rfl Try.isAgg22 (hS _ (.head _)) (Sg.t rfl (Sg.t rfl Sg.h)) rfl (get_u64 (lt_len (K := 8) (entRegs_len ha hr) (by decide)))) ?_
            refine WT.q rfl (Wn.no rfl) rfl rfl (fun wq hS => R.move (v := (vi 4)) rfl) ?_
            refine WT.q rfl (Wn.no rfl) rfl rfl (fun wq hS => R.fieldAddr (b := b_1) (off := 0) (off' := 2) rfl Try.underlying28 rfl Try.sizeOf25 rfl rfl) ?_
            refine WT.q rfl (Wn.no rfl) rfl rfl (fun wq hS => R.fieldAddr (b := b_1) (off := 2) (off' := 2) rfl Try.underlying25 rfl Try.sizeOf23 rfl rfl) ?_
            refine WT.q rfl (Wn.no rfl) rfl rfl (fun wq hS => R.indexA (b := b_1) (off := 2) (off' := 6) (i := 4) rfl rfl rfl (by decide) Try.underlying23 Try.sizeOf22 rfl) ?_
            refine WT.q rfl (Wn.no rfl) rfl rfl (fun wq hS => R.loadE (b := b_1) (off := 6) (i := 4) (v := (vu64 (regs.getD 4 0))) rfl Try.isAgg22 (hS _ (.tail _ (.tail _ (.tail _ (.tail _ (.head _)))))) (Sg.t rfl (Sg.t rfl Sg.h)) rfl (get_u64 (lt_len (K := 8) hr (by decide)))) ?_
            refine WT.q rfl (Wn.no rfl) rfl rfl (fun wq hS => R.bin (v := (.bool (decide (((entRegs 1 ain regs).getD 4 0 : UInt64) ≠ (regs.getD 4 0))))) rfl rfl (b64_neq ((entRegs 1 ain regs).getD 4 0) (regs.getD 4 0) (r := decide (((entRegs 1 ain regs).getD 4 0 : UInt64) ≠ (regs.getD 4 0))) rfl)) ?_
            refine WT.q rfl (Wn.no rfl) rfl rfl (fun wq hS => R.move (v := (.bool (decide (((entRegs 1 ain regs).getD 4 0 : UInt64) ≠ (regs.getD 4 0))))) rfl) ?_
            refine WT.skipQ rfl rfl rfl (boolNe (v := .bool false) (congrArg Value.bool (decide_eq_false (not_not_intro (ent_high ha hr).1))) (by decide)) rfl rfl ?_
            refine WT.skipQ rfl rfl rfl (boolNe (v := .bool false) (congrArg Value.bool (decide_eq_false (not_not_intro (ent_high ha hr).1))) (by decide)) rfl rfl ?_
            refine WT.skipQ rfl rfl rfl (boolNe (v := .bool false) (congrArg Value.bool (decide_eq_false (not_not_intro (ent_high ha hr).1))) (by decide)) rfl rfl ?_
            refine WT.skipQ rfl rfl rfl (boolNe (v := undef) rfl (by decide)) rfl rfl ?_
            refine WT.skipQ rfl rfl rfl (boolNe (v := undef) rfl (by decide)) rfl rfl ?_
            refine WT.skipQ rfl rfl rfl (boolNe (v := undef) rfl (by decide)) rfl rfl ?_
            refine WT.skipQ rfl rfl rfl (boolNe (v := .bool false) (congrArg Value.bool (decide_eq_false (not_not_intro (ent_high ha hr).1))) (by decide)) rfl rfl ?_
            refine WT.q rfl (Wn.no rfl) rfl rfl (fun wq hS => R.pickF (v := (.bool false)) (congrArg Value.bool (decide_eq_false (not_not_intro (ent_high ha hr).1))) rfl) ?_
            refine WT.nil ?_
            refine thn_n ?_
            refine WP.condF rfl ?_
            refine WP.skip ?_
            refine inb_n ?_
            refine thn_n ?_
            refine WP.reg ?_
            refine WL.q (Wn.no rfl) rfl rfl (R.move (v := (vi 4)) rfl) ?_
            refine WL.q (Wn.no rfl) rfl rfl (R.bin (v := (vi 5)) rfl rfl (bi_add (c := 5) (by omega) (by omega))) ?_
            refine WL.q (Wn.no rfl) rfl rfl (R.assign (v := (vi 5)) rfl) ?_
            refine WL.nil ?_
            refine thn_n ?_
            refine WI.round ?_
            refine WP.seq ?_
            refine WP.seq ?_
            refine WP.reg ?_
            refine WL.q (Wn.no rfl) rfl rfl (R.move (v := (vi 5)) rfl) ?_
            refine WL.q (Wn.no rfl) rfl rfl (R.bin (v := (.bool true)) rfl rfl (bi_lss (r := true) (by decide))) ?_
            refine WL.nil ?_
            refine thn_n ?_
            refine WP.condT rfl ?_
            refine WP.skip ?_
            refine thn_n ?_
            refine WP.seq ?_
            refine WP.block ?_
            refine WP.seq ?_
            refine WP.drawT (SL w.heap.size [.blk b_56 .nw 28 [(1, [(vi rd)]), (1, [(vu64 ins)]), (8, (entRegs 1 ain regs).map vu64), (1, [(vu64 pc)]), (1, [(.bool true)]), (1, [(vi 0)])], .blk b_47 .nw 28 [(1, [(vi rd)]), (1, [(vu64 ins)]), (8, (entRegs 1 ain regs).map vu64), (1, [(vu64 pc)]), (1, [(.bool true)]), (1, [(vi 0)])], .blk b_7 .nw 40 [(1, [(vi rs)]), (4, ors.map vu64), (1, [(vu64 adr)]), (1, [(.bool wr)]), (1, [(vi ran)])], .blk b_4 .nw 31 [(4, ain.map vu64)], .blk b_1 .nw 28 [(1, [(vi rd)]), (1, [(vu64 ins)]), (8, regs.map vu64), (1, [(vu64 pc)]), (1, [(.bool true)]), (1, [(vi 1)])]]) (.q 0 (.q 1 (.q 2 (.q 3 (.q 4 (.q 5 (.q 6 (.q 7 (.q 8 (.q 9 (.q 10 (.q 11 (.q 12 (.q 13 (.q 14 (.q 15 (.q 16 (.q 17 (.q 18 (.q 19 .nil)))))))))))))))))))) (by kernel_rfl) (by kernel_rfl) rfl (by kernel_rfl) (fun w_204 hc_206 => (SL.cons ((h_202.same hc_206).ok _ (.head _)) (SL.cons ((h_202.same hc_206).ok _ (.tail _ (.head _))) (SL.cons ((h_202.same hc_206).ok _ (.tail _ (.tail _ (.head _)))) (SL.cons ((h_202.same hc_206).ok _ (.tail _ (.tail _ (.tail _ (.head _))))) (SL.cons ((h_202.same hc_206).ok _ (.tail _ (.tail _ (.tail _ (.tail _ (.head _)))))) (SL.nil _ _))))))) (fun w_204 hc_206 => ?_)
            have h_205 := h_202.same hc_206
            refine WT.q rfl (Wn.no rfl) rfl rfl (fun wq hS => R.move (v := (vi 5)) rfl) ?_
            refine WT.q rfl (Wn.no rfl) rfl rfl (fun wq hS => R.fieldAddr (b := b_56) (off := 0) (off' := 2) rfl Try.underlying28 rfl Try.sizeOf25 rfl rfl) ?_
            refine WT.q rfl (Wn.no rfl) rfl rfl (fun wq hS => R.fieldAddr (b := b_56) (off := 2) (off' := 2) rfl Try.underlying25 rfl Try.sizeOf23 rfl rfl) ?_
            refine WT.q rfl (Wn.no rfl) rfl rfl (fun wq hS => R.indexA (b := b_56) (off := 2) (off' := 7) (i := 5) rfl rfl rfl (by decide) Try.underlying23 Try.sizeOf22 rfl) ?_
            refine WT.q rfl (Wn.no rfl) rfl rfl (fun wq hS => R.loadE (b := b_56) (off := 7) (i := 5) (v := (vu64 ((entRegs 1 ain regs).getD 5 0))) rfl Try.isAgg22 (hS _ (.head _)) (Sg.t rfl (Sg.t rfl Sg.h)) rfl (get_u64 (lt_len (K := 8) (entRegs_len ha hr) (by decide)))) ?_
            refine WT.q rfl (Wn.no rfl) rfl rfl (fun wq hS => R.move (v := (vi 5)) rfl) ?_
            refine WT.q rfl (Wn.no rfl) rfl rfl (fun wq hS => R.fieldAddr (b := b_1) (off := 0) (off' := 2) rfl Try.underlying28 rfl Try.sizeOf25 rfl rfl) ?_
            refine WT.q rfl (Wn.no rfl) rfl rfl (fun wq hS => R.fieldAddr (b := b_1) (off := 2) (off' := 2) rfl Try.underlying25 rfl Try.sizeOf23 rfl rfl) ?_
            refine WT.q rfl (Wn.no rfl) rfl rfl (fun wq hS => R.indexA (b := b_1) (off := 2) (off' := 7) (i := 5) rfl rfl rfl (by decide) Try.underlying23 Try.sizeOf22 rfl) ?_
            refine WT.q rfl (Wn.no rfl) rfl rfl (fun wq hS => R.loadE (b := b_1) (off := 7) (i := 5) (v := (vu64 (regs.getD 5 0))) rfl Try.isAgg22 (hS _ (.tail _ (.tail _ (.tail _ (.tail _ (.head _)))))) (Sg.t rfl (Sg.t rfl Sg.h)) rfl (get_u64 (lt_len (K := 8) hr (by decide)))) ?_
            refine WT.q rfl (Wn.no rfl) rfl rfl (fun wq hS => R.bin (v := (.bool (decide (((entRegs 1 ain regs).getD 5 0 : UInt64) ≠ (regs.getD 5 0))))) rfl rfl (b64_neq ((entRegs 1 ain regs).getD 5 0) (regs.getD 5 0) (r := decide (((entRegs 1 ain regs).getD 5 0 : UInt64) ≠ (regs.getD 5 0))) rfl)) ?_
            refine WT.q rfl (Wn.no rfl) rfl rfl (fun wq hS => R.move (v := (.bool (decide (((entRegs 1 ain regs).getD 5 0 : UInt64) ≠ (regs.getD 5 0))))) rfl) ?_
            refine WT.skipQ rfl rfl rfl (boolNe (v := .bool false) (congrArg Value.bool (decide_eq_false (not_not_intro (ent_high ha hr).2.1))) (by decide)) rfl rfl ?_
            refine WT.skipQ rfl rfl rfl (boolNe (v := .bool false) (congrArg Value.bool (decide_eq_false (not_not_intro (ent_high ha hr).2.1))) (by decide)) rfl rfl ?_
            refine WT.skipQ rfl rfl rfl (boolNe (v := .bool false) (congrArg Value.bool (decide_eq_false (not_not_intro (ent_high ha hr).2.1))) (by decide)) rfl rfl ?_
            refine WT.skipQ rfl rfl rfl (boolNe (v := undef) rfl (by decide)) rfl rfl ?_
            refine WT.skipQ rfl rfl rfl (boolNe (v := undef) rfl (by decide)) rfl rfl ?_
            refine WT.skipQ rfl rfl rfl (boolNe (v := undef) rfl (by decide)) rfl rfl ?_
            refine WT.skipQ rfl rfl rfl (boolNe (v := .bool false) (congrArg Value.bool (decide_eq_false (not_not_intro (ent_high ha hr).2.1))) (by decide)) rfl rfl ?_
            refine WT.q rfl (Wn.no rfl) rfl rfl (fun wq hS => R.pickF (v := (.bool false)) (congrArg Value.bool (decide_eq_false (not_not_intro (ent_high ha hr).2.1))) rfl) ?_
            refine WT.nil ?_
            refine thn_n ?_
            refine WP.condF rfl ?_
            refine WP.skip ?_
            refine inb_n ?_
            refine thn_n ?_
            refine WP.reg ?_
            refine WL.q (Wn.no rfl) rfl rfl (R.move (v := (vi 5)) rfl) ?_
            refine WL.q (Wn.no rfl) rfl rfl (R.bin (v := (vi 6)) rfl rfl (bi_add (c := 6) (by omega) (by omega))) ?_
            refine WL.q (Wn.no rfl) rfl rfl (R.assign (v := (vi 6)) rfl) ?_
            refine WL.nil ?_
            refine thn_n ?_
            refine WI.round ?_
            refine WP.seq ?_
            refine WP.seq ?_
            refine WP.reg ?_
            refine WL.q (Wn.no rfl) rfl rfl (R.move (v := (vi 6)) rfl) ?_
            refine WL.q (Wn.no rfl) rfl rfl (R.bin (v := (.bool true)) rfl rfl (bi_lss (r := true) (by decide))) ?_
            refine WL.nil ?_
            refine thn_n ?_
            refine WP.condT rfl ?_
            refine WP.skip ?_
            refine thn_n ?_
            refine WP.seq ?_
            refine WP.block ?_
            refine WP.seq ?_
            refine WP.drawT (SL w.heap.size [.blk b_56 .nw 28 [(1, [(vi rd)]), (1, [(vu64 ins)]), (8, (entRegs 1 ain regs).map vu64), (1, [(vu64 pc)]), (1, [(.bool true)]), (1, [(vi 0)])], .blk b_47 .nw 28 [(1, [(vi rd)]), (1, [(vu64 ins)]), (8, (entRegs 1 ain regs).map vu64), (1, [(vu64 pc)]), (1, [(.bool true)]), (1, [(vi 0)])], .blk b_7 .nw 40 [(1, [(vi rs)]), (4, ors.map vu64), (1, [(vu64 adr)]), (1, [(.bool wr)]), (1, [(vi ran)])], .blk b_4 .nw 31 [(4, ain.map vu64)], .blk b_1 .nw 28 [(1, [(vi rd)]), (1, [(vu64 ins)]), (8, regs.map vu64), (1, [(vu64 pc)]), (1, [(.bool true)]), (1, [(vi 1)])]]) (.q 0 (.q 1 (.q 2 (.q 3 (.q 4 (.q 5 (.q 6 (.q 7 (.q 8 (.q 9 (.q 10 (.q 11 (.q 12 (.q 13 (.q 14 (.q 15 (.q 16 (.q 17 (.q 18 (.q 19 .nil)))))))))))))))))))) (by kernel_rfl) (by kernel_rfl) rfl (by kernel_rfl) (fun w_207 hc_209 => (SL.cons ((h_205.same hc_209).ok _ (.head _)) (SL.cons ((h_205.same hc_209).ok _ (.tail _ (.head _))) (SL.cons ((h_205.same hc_209).ok _ (.tail _ (.tail _ (.head _)))) (SL.cons ((h_205.same hc_209).ok _ (.tail _ (.tail _ (.tail _ (.head _))))) (SL.cons ((h_205.same hc_209).ok _ (.tail _ (.tail _ (.tail _ (.tail _ (.head _)))))) (SL.nil _ _))))))) (fun w_207 hc_209 => ?_)
            have h_208 := h_205.same hc_209
            refine WT.q rfl (Wn.no rfl) rfl rfl (fun wq hS => R.move (v := (vi 6)) rfl) ?_
            refine WT.q rfl (Wn.no rfl) rfl rfl (fun wq hS => R.fieldAddr (b := b_56) (off := 0) (off' := 2) rfl Try.underlying28 rfl Try.sizeOf25 rfl rfl) ?_
            refine WT.q rfl (Wn.no rfl) rfl rfl (fun wq hS => R.fieldAddr (b := b_56) (off := 2) (off' := 2) rfl Try.underlying25 rfl Try.sizeOf23 rfl rfl) ?_
            refine WT.q rfl (Wn.no rfl) rfl rfl (fun wq hS => R.indexA (b := b_56) (off := 2) (off' := 8) (i := 6) rfl rfl rfl (by decide) Try.underlying23 Try.sizeOf22 rfl) ?_
            refine WT.q rfl (Wn.no rfl) rfl rfl (fun wq hS => R.loadE (b := b_56) (off := 8) (i := 6) (v := (vu64 ((entRegs 1 ain regs).getD 6 0))) rfl Try.isAgg22 (hS _ (.head _)) (Sg.t rfl (Sg.t rfl Sg.h)) rfl (get_u64 (lt_len (K := 8) (entRegs_len ha hr) (by decide)))) ?_
            refine WT.q rfl (Wn.no rfl) rfl rfl (fun wq hS => R.move (v := (vi 6)) rfl) ?_
            refine WT.q rfl (Wn.no rfl) rfl rfl (fun wq hS => R.fieldAddr (b := b_1) (off := 0) (off' := 2) rfl Try.underlying28 rfl Try.sizeOf25 rfl rfl) ?_
            refine WT.q rfl (Wn.no rfl) rfl rfl (fun wq hS => R.fieldAddr (b := b_1) (off := 2) (off' := 2) rfl Try.underlying25 rfl Try.sizeOf23 rfl rfl) ?_
            refine WT.q rfl (Wn.no rfl) rfl rfl (fun wq hS => R.indexA (b := b_1) (off := 2) (off' := 8) (i := 6) rfl rfl rfl (by decide) Try.underlying23 Try.sizeOf22 rfl) ?_
            refine WT.q rfl (Wn.no rfl) rfl rfl (fun wq hS => R.loadE (b := b_1) (off := 8) (i := 6) (v := (vu64 (regs.getD 6 0))) rfl Try.isAgg22 (hS _ (.tail _ (.tail _ (.tail _ (.tail _ (.head _)))))) (Sg.t rfl (Sg.t rfl Sg.h)) rfl (get_u64 (lt_len (K := 8) hr (by decide)))) ?_
            refine WT.q rfl (Wn.no rfl) rfl rfl (fun wq hS => R.bin (v := (.bool (decide (((entRegs 1 ain regs).getD 6 0 : UInt64) ≠ (regs.getD 6 0))))) rfl rfl (b64_neq ((entRegs 1 ain regs).getD 6 0) (regs.getD 6 0) (r := decide (((entRegs 1 ain regs).getD 6 0 : UInt64) ≠ (regs.getD 6 0))) rfl)) ?_
            refine WT.q rfl (Wn.no rfl) rfl rfl (fun wq hS => R.move (v := (.bool (decide (((entRegs 1 ain regs).getD 6 0 : UInt64) ≠ (regs.getD 6 0))))) rfl) ?_
            refine WT.skipQ rfl rfl rfl (boolNe (v := .bool false) (congrArg Value.bool (decide_eq_false (not_not_intro (ent_high ha hr).2.2.1))) (by decide)) rfl rfl ?_
            refine WT.skipQ rfl rfl rfl (boolNe (v := .bool false) (congrArg Value.bool (decide_eq_false (not_not_intro (ent_high ha hr).2.2.1))) (by decide)) rfl rfl ?_
            refine WT.skipQ rfl rfl rfl (boolNe (v := .bool false) (congrArg Value.bool (decide_eq_false (not_not_intro (ent_high ha hr).2.2.1))) (by decide)) rfl rfl ?_
            refine WT.skipQ rfl rfl rfl (boolNe (v := undef) rfl (by decide)) rfl rfl ?_
            refine WT.skipQ rfl rfl rfl (boolNe (v := undef) rfl (by decide)) rfl rfl ?_
            refine WT.skipQ rfl rfl rfl (boolNe (v := undef) rfl (by decide)) rfl rfl ?_
            refine WT.skipQ rfl rfl rfl (boolNe (v := .bool false) (congrArg Value.bool (decide_eq_false (not_not_intro (ent_high ha hr).2.2.1))) (by decide)) rfl rfl ?_
            refine WT.q rfl (Wn.no rfl) rfl rfl (fun wq hS => R.pickF (v := (.bool false)) (congrArg Value.bool (decide_eq_false (not_not_intro (ent_high ha hr).2.2.1))) rfl) ?_
            refine WT.nil ?_
            refine thn_n ?_
            refine WP.condF rfl ?_
            refine WP.skip ?_
            refine inb_n ?_
            refine thn_n ?_
            refine WP.reg ?_
            refine WL.q (Wn.no rfl) rfl rfl (R.move (v := (vi 6)) rfl) ?_
            refine WL.q (Wn.no rfl) rfl rfl (R.bin (v := (vi 7)) rfl rfl (bi_add (c := 7) (by omega) (by omega))) ?_
            refine WL.q (Wn.no rfl) rfl rfl (R.assign (v := (vi 7)) rfl) ?_
            refine WL.nil ?_
            refine thn_n ?_
            refine WI.round ?_
            refine WP.seq ?_
            refine WP.seq ?_
            refine WP.reg ?_
            refine WL.q (Wn.no rfl) rfl rfl (R.move (v := (vi 7)) rfl) ?_
            refine WL.q (Wn.no rfl) rfl rfl (R.bin (v := (.bool true)) rfl rfl (bi_lss (r := true) (by decide))) ?_
            refine WL.nil ?_
            refine thn_n ?_
            refine WP.condT rfl ?_
            refine WP.skip ?_
            refine thn_n ?_
            refine WP.seq ?_
            refine WP.block ?_
            refine WP.seq ?_
            refine WP.drawT (SL w.heap.size [.blk b_56 .nw 28 [(1, [(vi rd)]), (1, [(vu64 ins)]), (8, (entRegs 1 ain regs).map vu64), (1, [(vu64 pc)]), (1, [(.bool true)]), (1, [(vi 0)])], .blk b_47 .nw 28 [(1, [(vi rd)]), (1, [(vu64 ins)]), (8, (entRegs 1 ain regs).map vu64), (1, [(vu64 pc)]), (1, [(.bool true)]), (1, [(vi 0)])], .blk b_7 .nw 40 [(1, [(vi rs)]), (4, ors.map vu64), (1, [(vu64 adr)]), (1, [(.bool wr)]), (1, [(vi ran)])], .blk b_4 .nw 31 [(4, ain.map vu64)], .blk b_1 .nw 28 [(1, [(vi rd)]), (1, [(vu64 ins)]), (8, regs.map vu64), (1, [(vu64 pc)]), (1, [(.bool true)]), (1, [(vi 1)])]]) (.q 0 (.q 1 (.q 2 (.q 3 (.q 4 (.q 5 (.q 6 (.q 7 (.q 8 (.q 9 (.q 10 (.q 11 (.q 12 (.q 13 (.q 14 (.q 15 (.q 16 (.q 17 (.q 18 (.q 19 .nil)))))))))))))))))))) (by kernel_rfl) (by kernel_rfl) rfl (by kernel_rfl) (fun w_210 hc_212 => (SL.cons ((h_208.same hc_212).ok _ (.head _)) (SL.cons ((h_208.same hc_212).ok _ (.tail _ (.head _))) (SL.cons ((h_208.same hc_212).ok _ (.tail _ (.tail _ (.head _)))) (SL.cons ((h_208.same hc_212).ok _ (.tail _ (.tail _ (.tail _ (.head _))))) (SL.cons ((h_208.same hc_212).ok _ (.tail _ (.tail _ (.tail _ (.tail _ (.head _)))))) (SL.nil _ _))))))) (fun w_210 hc_212 => ?_)
            have h_211 := h_208.same hc_212
            refine WT.q rfl (Wn.no rfl) rfl rfl (fun wq hS => R.move (v := (vi 7)) rfl) ?_
            refine WT.q rfl (Wn.no rfl) rfl rfl (fun wq hS => R.fieldAddr (b := b_56) (off := 0) (off' := 2) rfl Try.underlying28 rfl Try.sizeOf25 rfl rfl) ?_
            refine WT.q rfl (Wn.no rfl) rfl rfl (fun wq hS => R.fieldAddr (b := b_56) (off := 2) (off' := 2) rfl Try.underlying25 rfl Try.sizeOf23 rfl rfl) ?_
            refine WT.q rfl (Wn.no rfl) rfl rfl (fun wq hS => R.indexA (b := b_56) (off := 2) (off' := 9) (i := 7) rfl rfl rfl (by decide) Try.underlying23 Try.sizeOf22 rfl) ?_
            refine WT.q rfl (Wn.no rfl) rfl rfl (fun wq hS => R.loadE (b := b_56) (off := 9) (i := 7) (v := (vu64 ((entRegs 1 ain regs).getD 7 0))) rfl Try.isAgg22 (hS _ (.head _)) (Sg.t rfl (Sg.t rfl Sg.h)) rfl (get_u64 (lt_len (K := 8) (entRegs_len ha hr) (by decide)))) ?_
            refine WT.q rfl (Wn.no rfl) rfl rfl (fun wq hS => R.move (v := (vi 7)) rfl) ?_
            refine WT.q rfl (Wn.no rfl) rfl rfl (fun wq hS => R.fieldAddr (b := b_1) (off := 0) (off' := 2) rfl Try.underlying28 rfl Try.sizeOf25 rfl rfl) ?_
            refine WT.q rfl (Wn.no rfl) rfl rfl (fun wq hS => R.fieldAddr (b := b_1) (off := 2) (off' := 2) rfl Try.underlying25 rfl Try.sizeOf23 rfl rfl) ?_
            refine WT.q rfl (Wn.no rfl) rfl rfl (fun wq hS => R.indexA (b := b_1) (off := 2) (off' := 9) (i := 7) rfl rfl rfl (by decide) Try.underlying23 Try.sizeOf22 rfl) ?_
            refine WT.q rfl (Wn.no rfl) rfl rfl (fun wq hS => R.loadE (b := b_1) (off := 9) (i := 7) (v := (vu64 (regs.getD 7 0))) rfl Try.isAgg22 (hS _ (.tail _ (.tail _ (.tail _ (.tail _ (.head _)))))) (Sg.t rfl (Sg.t rfl Sg.h)) rfl (get_u64 (lt_len (K := 8) hr (by decide)))) ?_
            refine WT.q rfl (Wn.no rfl) rfl rfl (fun wq hS => R.bin (v := (.bool (decide (((entRegs 1 ain regs).getD 7 0 : UInt64) ≠ (regs.getD 7 0))))) rfl rfl (b64_neq ((entRegs 1 ain regs).getD 7 0) (regs.getD 7 0) (r := decide (((entRegs 1 ain regs).getD 7 0 : UInt64) ≠ (regs.getD 7 0))) rfl)) ?_
            refine WT.q rfl (Wn.no rfl) rfl rfl (fun wq hS => R.move (v := (.bool (decide (((entRegs 1 ain regs).getD 7 0 : UInt64) ≠ (regs.getD 7 0))))) rfl) ?_
            refine WT.skipQ rfl rfl rfl (boolNe (v := .bool false) (congrArg Value.bool (decide_eq_false (not_not_intro (ent_high ha hr).2.2.2))) (by decide)) rfl rfl ?_
            refine WT.skipQ rfl rfl rfl (boolNe (v := .bool false) (congrArg Value.bool (decide_eq_false (not_not_intro (ent_high ha hr).2.2.2))) (by decide)) rfl rfl ?_
            refine WT.skipQ rfl rfl rfl (boolNe (v := .bool false) (congrArg Value.bool (decide_eq_false (not_not_intro (ent_high ha hr).2.2.2))) (by decide)) rfl rfl ?_
            refine WT.skipQ rfl rfl rfl (boolNe (v := undef) rfl (by decide)) rfl rfl ?_
            refine WT.skipQ rfl rfl rfl (boolNe (v := undef) rfl (by decide)) rfl rfl ?_
            refine WT.skipQ rfl rfl rfl (boolNe (v := undef) rfl (by decide)) rfl rfl ?_
            refine WT.skipQ rfl rfl rfl (boolNe (v := .bool false) (congrArg Value.bool (decide_eq_false (not_not_intro (ent_high ha hr).2.2.2))) (by decide)) rfl rfl ?_
            refine WT.q rfl (Wn.no rfl) rfl rfl (fun wq hS => R.pickF (v := (.bool false)) (congrArg Value.bool (decide_eq_false (not_not_intro (ent_high ha hr).2.2.2))) rfl) ?_
            refine WT.nil ?_
            refine thn_n ?_
            refine WP.condF rfl ?_
            refine WP.skip ?_
            refine inb_n ?_
            refine thn_n ?_
            refine WP.reg ?_
            refine WL.q (Wn.no rfl) rfl rfl (R.move (v := (vi 7)) rfl) ?_
            refine WL.q (Wn.no rfl) rfl rfl (R.bin (v := (vi 8)) rfl rfl (bi_add (c := 8) (by omega) (by omega))) ?_
            refine WL.q (Wn.no rfl) rfl rfl (R.assign (v := (vi 8)) rfl) ?_
            refine WL.nil ?_
            refine thn_n ?_
            refine WI.round ?_
            refine WP.seq ?_
            refine WP.seq ?_
            refine WP.reg ?_
            refine WL.q (Wn.no rfl) rfl rfl (R.move (v := (vi 8)) rfl) ?_
            refine WL.q (Wn.no rfl) rfl rfl (R.bin (v := (.bool false)) rfl rfl (bi_lss (r := false) (by decide))) ?_
            refine WL.nil ?_
            refine thn_n ?_
            refine WP.condF rfl ?_
            refine WP.exit ?_
            refine thn_x ?_
            refine thn_x ?_
            refine inb_hit ?_
            refine thn_n ?_
            refine WP.seq ?_
            refine WP.reg ?_
            refine WL.call (al := []) Try.call15 rfl rfl (c_known14  _) rfl ?_
            rintro _ w_214 ⟨rfl, hc_213⟩
            have h_215 := h_211.same hc_213
            refine WL.q (Wn.no rfl) rfl rfl (R.assign (v := (.bool true)) rfl) ?_
            refine WL.nil ?_
            refine thn_n ?_
            refine WP.ret ?_
            refine ret_of Try.results9 (RV.tmp (v := (.bool true)) rfl RV.nil) ?_
            exact ⟨rfl, h_215.chgS⟩
          · have p_216 := of_decide_eq_false c_199
            refine WT.skipQ rfl rfl rfl (boolNe (v := .bool false) (congrArg Value.bool c_199) (by decide)) rfl rfl ?_
            refine WT.skipQ rfl rfl rfl (boolNe (v := .bool false) (congrArg Value.bool c_199) (by decide)) rfl rfl ?_
            refine WT.skipQ rfl rfl rfl (boolNe (v := .bool false) (congrArg Value.bool c_199) (by decide)) rfl rfl ?_
            refine WT.skipQ rfl rfl rfl (boolNe (v := undef) rfl (by decide)) rfl rfl ?_
            refine WT.skipQ rfl rfl rfl (boolNe (v := undef) rfl (by decide)) rfl rfl ?_
            refine WT.skipQ rfl rfl rfl (boolNe (v := undef) rfl (by decide)) rfl rfl ?_
            refine WT.skipQ rfl rfl rfl (boolNe (v := .bool false) (congrArg Value.bool c_199) (by decide)) rfl rfl ?_
            refine WT.q rfl (Wn.no rfl) rfl rfl (fun wq hS => R.pickF (v := (.bool false)) (congrArg Value.bool c_199) rfl) ?_
            refine WT.nil ?_
            refine thn_n ?_
            refine WP.condF rfl ?_
            refine WP.skip ?_
            refine inb_n ?_
            refine thn_n ?_
            refine WP.reg ?_
            refine WL.q (Wn.no rfl) rfl rfl (R.move (v := (vi 3)) rfl) ?_
            refine WL.q (Wn.no rfl) rfl rfl (R.bin (v := (vi 4)) rfl rfl (bi_add (c := 4) (by omega) (by omega))) ?_
            refine WL.q (Wn.no rfl) rfl rfl (R.assign (v := (vi 4)) rfl) ?_
            refine WL.nil ?_
            refine thn_n ?_
            refine WI.round ?_
            refine WP.seq ?_
            refine WP.seq ?_
            refine WP.reg ?_
            refine WL.q (Wn.no rfl) rfl rfl (R.move (v := (vi 4)) rfl) ?_
            refine WL.q (Wn.no rfl) rfl rfl (R.bin (v := (.bool true)) rfl rfl (bi_lss (r := true) (by decide))) ?_
            refine WL.nil ?_
            refine thn_n ?_
            refine WP.condT rfl ?_
            refine WP.skip ?_
            refine thn_n ?_
            refine WP.seq ?_
            refine WP.block ?_
            refine WP.seq ?_
            refine WP.drawT (SL w.heap.size [.blk b_56 .nw 28 [(1, [(vi rd)]), (1, [(vu64 ins)]), (8, (entRegs 1 ain regs).map vu64), (1, [(vu64 pc)]), (1, [(.bool true)]), (1, [(vi 0)])], .blk b_47 .nw 28 [(1, [(vi rd)]), (1, [(vu64 ins)]), (8, (entRegs 1 ain regs).map vu64), (1, [(vu64 pc)]), (1, [(.bool true)]), (1, [(vi 0)])], .blk b_7 .nw 40 [(1, [(vi rs)]), (4, ors.map vu64), (1, [(vu64 adr)]), (1, [(.bool wr)]), (1, [(vi ran)])], .blk b_4 .nw 31 [(4, ain.map vu64)], .blk b_1 .nw 28 [(1, [(vi rd)]), (1, [(vu64 ins)]), (8, regs.map vu64), (1, [(vu64 pc)]), (1, [(.bool true)]), (1, [(vi 1)])]]) (.q 0 (.q 1 (.q 2 (.q 3 (.q 4 (.q 5 (.q 6 (.q 7 (.q 8 (.q 9 (.q 10 (.q 11 (.q 12 (.q 13 (.q 14 (.q 15 (.q 16 (.q 17 (.q 18 (.q 19 .nil)))))))))))))))))))) (by kernel_rfl) (by kernel_rfl) rfl (by kernel_rfl) (fun w_217 hc_219 => (SL.cons ((h_197.same hc_219).ok _ (.head _)) (SL.cons ((h_197.same hc_219).ok _ (.tail _ (.head _))) (SL.cons ((h_197.same hc_219).ok _ (.tail _ (.tail _ (.head _)))) (SL.cons ((h_197.same hc_219).ok _ (.tail _ (.tail _ (.tail _ (.head _))))) (SL.cons ((h_197.same hc_219).ok _ (.tail _ (.tail _ (.tail _ (.tail _ (.head _)))))) (SL.nil _ _))))))) (fun w_217 hc_219 => ?_)
            have h_218 := h_197.same hc_219
            refine WT.q rfl (Wn.no rfl) rfl rfl (fun wq hS => R.move (v := (vi 4)) rfl) ?_
            refine WT.q rfl (Wn.no rfl) rfl rfl (fun wq hS => R.fieldAddr (b := b_56) (off := 0) (off' := 2) rfl Try.underlying28 rfl Try.sizeOf25 rfl rfl) ?_
            refine WT.q rfl (Wn.no rfl) rfl rfl (fun wq hS => R.fieldAddr (b := b_56) (off := 2) (off' := 2) rfl Try.underlying25 rfl Try.sizeOf23 rfl rfl) ?_
            refine WT.q rfl (Wn.no rfl) rfl rfl (fun wq hS => R.indexA (b := b_56) (off := 2) (off' := 6) (i := 4) rfl rfl rfl (by decide) Try.underlying23 Try.sizeOf22 rfl) ?_
            refine WT.q rfl (Wn.no rfl) rfl rfl (fun wq hS => R.loadE (b := b_56) (off := 6) (i := 4) (v := (vu64 ((entRegs 1 ain regs).getD 4 0))) rfl Try.isAgg22 (hS _ (.head _)) (Sg.t rfl (Sg.t rfl Sg.h)) rfl (get_u64 (lt_len (K := 8) (entRegs_len ha hr) (by decide)))) ?_
            refine WT.q rfl (Wn.no rfl) rfl rfl (fun wq hS => R.move (v := (vi 4)) rfl) ?_
            refine WT.q rfl (Wn.no rfl) rfl rfl (fun wq hS => R.fieldAddr (b := b_1) (off := 0) (off' := 2) rfl Try.underlying28 rfl Try.sizeOf25 rfl rfl) ?_
            refine WT.q rfl (Wn.no rfl) rfl rfl (fun wq hS => R.fieldAddr (b := b_1) (off := 2) (off' := 2) rfl Try.underlying25 rfl Try.sizeOf23 rfl rfl) ?_
            refine WT.q rfl (Wn.no rfl) rfl rfl (fun wq hS => R.indexA (b := b_1) (off := 2) (off' := 6) (i := 4) rfl rfl rfl (by decide) Try.underlying23 Try.sizeOf22 rfl) ?_
            refine WT.q rfl (Wn.no rfl) rfl rfl (fun wq hS => R.loadE (b := b_1) (off := 6) (i := 4) (v := (vu64 (regs.getD 4 0))) rfl Try.isAgg22 (hS _ (.tail _ (.tail _ (.tail _ (.tail _ (.head _)))))) (Sg.t rfl (Sg.t rfl Sg.h)) rfl (get_u64 (lt_len (K := 8) hr (by decide)))) ?_
            refine WT.q rfl (Wn.no rfl) rfl rfl (fun wq hS => R.bin (v := (.bool (decide (((entRegs 1 ain regs).getD 4 0 : UInt64) ≠ (regs.getD 4 0))))) rfl rfl (b64_neq ((entRegs 1 ain regs).getD 4 0) (regs.getD 4 0) (r := decide (((entRegs 1 ain regs).getD 4 0 : UInt64) ≠ (regs.getD 4 0))) rfl)) ?_
            refine WT.q rfl (Wn.no rfl) rfl rfl (fun wq hS => R.move (v := (.bool (decide (((entRegs 1 ain regs).getD 4 0 : UInt64) ≠ (regs.getD 4 0))))) rfl) ?_
            refine WT.skipQ rfl rfl rfl (boolNe (v := .bool false) (congrArg Value.bool (decide_eq_false (not_not_intro (ent_high ha hr).1))) (by decide)) rfl rfl ?_
            refine WT.skipQ rfl rfl rfl (boolNe (v := .bool false) (congrArg Value.bool (decide_eq_false (not_not_intro (ent_high ha hr).1))) (by decide)) rfl rfl ?_
            refine WT.skipQ rfl rfl rfl (boolNe (v := .bool false) (congrArg Value.bool (decide_eq_false (not_not_intro (ent_high ha hr).1))) (by decide)) rfl rfl ?_
            refine WT.skipQ rfl rfl rfl (boolNe (v := undef) rfl (by decide)) rfl rfl ?_
            refine WT.skipQ rfl rfl rfl (boolNe (v := undef) rfl (by decide)) rfl rfl ?_
            refine WT.skipQ rfl rfl rfl (boolNe (v := undef) rfl (by decide)) rfl rfl ?_
            refine WT.skipQ rfl rfl rfl (boolNe (v := .bool false) (congrArg Value.bool (decide_eq_false (not_not_intro (ent_high ha hr).1))) (by decide)) rfl rfl ?_
            refine WT.q rfl (Wn.no rfl) rfl rfl (fun wq hS => R.pickF (v := (.bool false)) (congrArg Value.bool (decide_eq_false (not_not_intro (ent_high ha hr).1))) rfl) ?_
            refine WT.nil ?_
            refine thn_n ?_
            refine WP.condF rfl ?_
            refine WP.skip ?_
            refine inb_n ?_
            refine thn_n ?_
            refine WP.reg ?_
            refine WL.q (Wn.no rfl) rfl rfl (R.move (v := (vi 4)) rfl) ?_
            refine WL.q (Wn.no rfl) rfl rfl (R.bin (v := (vi 5)) rfl rfl (bi_add (c := 5) (by omega) (by omega))) ?_
            refine WL.q (Wn.no rfl) rfl rfl (R.assign (v := (vi 5)) rfl) ?_
            refine WL.nil ?_
            refine thn_n ?_
            refine WI.round ?_
            refine WP.seq ?_
            refine WP.seq ?_
            refine WP.reg ?_
            refine WL.q (Wn.no rfl) rfl rfl (R.move (v := (vi 5)) rfl) ?_
            refine WL.q (Wn.no rfl) rfl rfl (R.bin (v := (.bool true)) rfl rfl (bi_lss (r := true) (by decide))) ?_
            refine WL.nil ?_
            refine thn_n ?_
            refine WP.condT rfl ?_
            refine WP.skip ?_
            refine thn_n ?_
            refine WP.seq ?_
            refine WP.block ?_
            refine WP.seq ?_
            refine WP.drawT (SL w.heap.size [.blk b_56 .nw 28 [(1, [(vi rd)]), (1, [(vu64 ins)]), (8, (entRegs 1 ain regs).map vu64), (1, [(vu64 pc)]), (1, [(.bool true)]), (1, [(vi 0)])], .blk b_47 .nw 28 [(1, [(vi rd)]), (1, [(vu64 ins)]), (8, (entRegs 1 ain regs).map vu64), (1, [(vu64 pc)]), (1, [(.bool true)]), (1, [(vi 0)])], .blk b_7 .nw 40 [(1, [(vi rs)]), (4, ors.map vu64), (1, [(vu64 adr)]), (1, [(.bool wr)]), (1, [(vi ran)])], .blk b_4 .nw 31 [(4, ain.map vu64)], .blk b_1 .nw 28 [(1, [(vi rd)]), (1, [(vu64 ins)]), (8, regs.map vu64), (1, [(vu64 pc)]), (1, [(.bool true)]), (1, [(vi 1)])]]) (.q 0 (.q 1 (.q 2 (.q 3 (.q 4 (.q 5 (.q 6 (.q 7 (.q 8 (.q 9 (.q 10 (.q 11 (.q 12 (.q 13 (.q 14 (.q 15 (.q 16 (.q 17 (.q 18 (.q 19 .nil)))))))))))))))))))) (by kernel_rfl) (by kernel_rfl) rfl (by kernel_rfl) (fun w_220 hc_222 => (SL.cons ((h_218.same hc_222).ok _ (.head _)) (SL.cons ((h_218.same hc_222).ok _ (.tail _ (.head _))) (SL.cons ((h_218.same hc_222).ok _ (.tail _ (.tail _ (.head _)))) (SL.cons ((h_218.same hc_222).ok _ (.tail _ (.tail _ (.tail _ (.head _))))) (SL.cons ((h_218.same hc_222).ok _ (.tail _ (.tail _ (.tail _ (.tail _ (.head _)))))) (SL.nil _ _))))))) (fun w_220 hc_222 => ?_)
            have h_221 := h_218.same hc_222
            refine WT.q rfl (Wn.no rfl) rfl rfl (fun wq hS => R.move (v := (vi 5)) rfl) ?_
            refine WT.q rfl (Wn.no rfl) rfl rfl (fun wq hS => R.fieldAddr (b := b_56) (off := 0) (off' := 2) rfl Try.underlying28 rfl Try.sizeOf25 rfl rfl) ?_
            refine WT.q rfl (Wn.no rfl) rfl rfl (fun wq hS => R.fieldAddr (b := b_56) (off := 2) (off' := 2) rfl Try.underlying25 rfl Try.sizeOf23 rfl rfl) ?_
            refine WT.q rfl (Wn.no rfl) rfl rfl (fun wq hS => R.indexA (b := b_56) (off := 2) (off' := 7) (i := 5) rfl rfl rfl (by decide) Try.underlying23 Try.sizeOf22 rfl) ?_
            refine WT.q rfl (Wn.no rfl) rfl rfl (fun wq hS => R.loadE (b := b_56) (off := 7) (i := 5) (v := (vu64 ((entRegs 1 ain regs).getD 5 0))) rfl Try.isAgg22 (hS _ (.head _)) (Sg.t rfl (Sg.t rfl Sg.h)) rfl (get_u64 (lt_len (K := 8) (entRegs_len ha hr) (by decide)))) ?_
            refine WT.q rfl (Wn.no rfl) rfl rfl (fun wq hS => R.move (v := (vi 5)) rfl) ?_
            refine WT.q rfl (Wn.no rfl) rfl rfl (fun wq hS => R.fieldAddr (b := b_1) (off := 0) (off' := 2) rfl Try.underlying28 rfl Try.sizeOf25 rfl rfl) ?_
            refine WT.q rfl (Wn.no rfl) rfl rfl (fun wq hS => R.fieldAddr (b := b_1) (off := 2) (off' := 2) rfl Try.underlying25 rfl Try.sizeOf23 rfl rfl) ?_
            refine WT.q rfl (Wn.no rfl) rfl rfl (fun wq hS => R.indexA (b := b_1) (off := 2) (off' := 7) (i := 5) rfl rfl rfl (by decide) Try.underlying23 Try.sizeOf22 rfl) ?_
            refine WT.q rfl (Wn.no rfl) rfl rfl (fun wq hS => R.loadE (b := b_1) (off := 7) (i := 5) (v := (vu64 (regs.getD 5 0))) rfl Try.isAgg22 (hS _ (.tail _ (.tail _ (.tail _ (.tail _ (.head _)))))) (Sg.t rfl (Sg.t rfl Sg.h)) rfl (get_u64 (lt_len (K := 8) hr (by decide)))) ?_
            refine WT.q rfl (Wn.no rfl) rfl rfl (fun wq hS => R.bin (v := (.bool (decide (((entRegs 1 ain regs).getD 5 0 : UInt64) ≠ (regs.getD 5 0))))) rfl rfl (b64_neq ((entRegs 1 ain regs).getD 5 0) (regs.getD 5 0) (r := decide (((entRegs 1 ain regs).getD 5 0 : UInt64) ≠ (regs.getD 5 0))) rfl)) ?_
            refine WT.q rfl (Wn.no rfl) rfl rfl (fun wq hS => R.move (v := (.bool (decide (((entRegs 1 ain regs).getD 5 0 : UInt64) ≠ (regs.getD 5 0))))) rfl) ?_
            refine WT.skipQ rfl rfl rfl (boolNe (v := .bool false) (congrArg Value.bool (decide_eq_false (not_not_intro (ent_high ha hr).2.1))) (by decide)) rfl rfl ?_
            refine WT.skipQ rfl rfl rfl (boolNe (v := .bool false) (congrArg Value.bool (decide_eq_false (not_not_intro (ent_high ha hr).2.1))) (by decide)) rfl rfl ?_
            refine WT.skipQ rfl rfl rfl (boolNe (v := .bool false) (congrArg Value.bool (decide_eq_false (not_not_intro (ent_high ha hr).2.1))) (by decide)) rfl rfl ?_
            refine WT.skipQ rfl rfl rfl (boolNe (v := undef) rfl (by decide)) rfl rfl ?_
            refine WT.skipQ rfl rfl rfl (boolNe (v := undef) rfl (by decide)) rfl rfl ?_
            refine WT.skipQ rfl rfl rfl (boolNe (v := undef) rfl (by decide)) rfl rfl ?_
            refine WT.skipQ rfl rfl rfl (boolNe (v := .bool false) (congrArg Value.bool (decide_eq_false (not_not_intro (ent_high ha hr).2.1))) (by decide)) rfl rfl ?_
            refine WT.q rfl (Wn.no rfl) rfl rfl (fun wq hS => R.pickF (v := (.bool false)) (congrArg Value.bool (decide_eq_false (not_not_intro (ent_high ha hr).2.1))) rfl) ?_
            refine WT.nil ?_
            refine thn_n ?_
            refine WP.condF rfl ?_
            refine WP.skip ?_
            refine inb_n ?_
            refine thn_n ?_
            refine WP.reg ?_
            refine WL.q (Wn.no rfl) rfl rfl (R.move (v := (vi 5)) rfl) ?_
            refine WL.q (Wn.no rfl) rfl rfl (R.bin (v := (vi 6)) rfl rfl (bi_add (c := 6) (by omega) (by omega))) ?_
            refine WL.q (Wn.no rfl) rfl rfl (R.assign (v := (vi 6)) rfl) ?_
            refine WL.nil ?_
            refine thn_n ?_
            refine WI.round ?_
            refine WP.seq ?_
            refine WP.seq ?_
            refine WP.reg ?_
            refine WL.q (Wn.no rfl) rfl rfl (R.move (v := (vi 6)) rfl) ?_
            refine WL.q (Wn.no rfl) rfl rfl (R.bin (v := (.bool true)) rfl rfl (bi_lss (r := true) (by decide))) ?_
            refine WL.nil ?_
            refine thn_n ?_
            refine WP.condT rfl ?_
            refine WP.skip ?_
            refine thn_n ?_
            refine WP.seq ?_
            refine WP.block ?_
            refine WP.seq ?_
            refine WP.drawT (SL w.heap.size [.blk b_56 .nw 28 [(1, [(vi rd)]), (1, [(vu64 ins)]), (8, (entRegs 1 ain regs).map vu64), (1, [(vu64 pc)]), (1, [(.bool true)]), (1, [(vi 0)])], .blk b_47 .nw 28 [(1, [(vi rd)]), (1, [(vu64 ins)]), (8, (entRegs 1 ain regs).map vu64), (1, [(vu64 pc)]), (1, [(.bool true)]), (1, [(vi 0)])], .blk b_7 .nw 40 [(1, [(vi rs)]), (4, ors.map vu64), (1, [(vu64 adr)]), (1, [(.bool wr)]), (1, [(vi ran)])], .blk b_4 .nw 31 [(4, ain.map vu64)], .blk b_1 .nw 28 [(1, [(vi rd)]), (1, [(vu64 ins)]), (8, regs.map vu64), (1, [(vu64 pc)]), (1, [(.bool true)]), (1, [(vi 1)])]]) (.q 0 (.q 1 (.q 2 (.q 3 (.q 4 (.q 5 (.q 6 (.q 7 (.q 8 (.q 9 (.q 10 (.q 11 (.q 12 (.q 13 (.q 14 (.q 15 (.q 16 (.q 17 (.q 18 (.q 19 .nil)))))))))))))))))))) (by kernel_rfl) (by kernel_rfl) rfl (by kernel_rfl) (fun w_223 hc_225 => (SL.cons ((h_221.same hc_225).ok _ (.head _)) (SL.cons ((h_221.same hc_225).ok _ (.tail _ (.head _))) (SL.cons ((h_221.same hc_225).ok _ (.tail _ (.tail _ (.head _)))) (SL.cons ((h_221.same hc_225).ok _ (.tail _ (.tail _ (.tail _ (.head _))))) (SL.cons ((h_221.same hc_225).ok _ (.tail _ (.tail _ (.tail _ (.tail _ (.head _)))))) (SL.nil _ _))))))) (fun w_223 hc_225 => ?_)
            have h_224 := h_221.same hc_225
            refine WT.q rfl (Wn.no rfl) rfl rfl (fun wq hS => R.move (v := (vi 6)) rfl) ?_
            refine WT.q rfl (Wn.no rfl) rfl rfl (fun wq hS => R.fieldAddr (b := b_56) (off := 0) (off' := 2) rfl Try.underlying28 rfl Try.sizeOf25 rfl rfl) ?_
            refine WT.q rfl (Wn.no rfl) rfl rfl (fun wq hS => R.fieldAddr (b := b_56) (off := 2) (off' := 2) rfl Try.underlying25 rfl Try.sizeOf23 rfl rfl) ?_
            refine WT.q rfl (Wn.no rfl) rfl rfl (fun wq hS => R.indexA (b := b_56) (off := 2) (off' := 8) (i := 6) rfl rfl rfl (by decide) Try.underlying23 Try.sizeOf22 rfl) ?_
            refine WT.q rfl (Wn.no rfl) rfl rfl (fun wq hS => R.loadE (b := b_56) (off := 8) (i := 6) (v := (vu64 ((entRegs 1 ain regs).getD 6 0))) rfl Try.isAgg22 (hS _ (.head _)) (Sg.t rfl (Sg.t rfl Sg.h)) rfl (get_u64 (lt_len (K := 8) (entRegs_len ha hr) (by decide)))) ?_
            refine WT.q rfl (Wn.no rfl) rfl rfl (fun wq hS => R.move (v := (vi 6)) rfl) ?_
            refine WT.q rfl (Wn.no rfl) rfl rfl (fun wq hS => R.fieldAddr (b := b_1) (off := 0) (off' := 2) rfl Try.underlying28 rfl Try.sizeOf25 rfl rfl) ?_
            refine WT.q rfl (Wn.no rfl) rfl rfl (fun wq hS => R.fieldAddr (b := b_1) (off := 2) (off' := 2) rfl Try.underlying25 rfl Try.sizeOf23 rfl rfl) ?_
            refine WT.q rfl (Wn.no rfl) rfl rfl (fun wq hS => R.indexA (b := b_1) (off := 2) (off' := 8) (i := 6) rfl rfl rfl (by decide) Try.underlying23 Try.sizeOf22 rfl) ?_
            refine WT.q rfl (Wn.no rfl) rfl rfl (fun wq hS => R.loadE (b := b_1) (off := 8) (i := 6) (v := (vu64 (regs.getD 6 0))) rfl Try.isAgg22 (hS _ (.tail _ (.tail _ (.tail _ (.tail _ (.head _)))))) (Sg.t rfl (Sg.t rfl Sg.h)) rfl (get_u64 (lt_len (K := 8) hr (by decide)))) ?_
            refine WT.q rfl (Wn.no rfl) rfl rfl (fun wq hS => R.bin (v := (.bool (decide (((entRegs 1 ain regs).getD 6 0 : UInt64) ≠ (regs.getD 6 0))))) rfl rfl (b64_neq ((entRegs 1 ain regs).getD 6 0) (regs.getD 6 0) (r := decide (((entRegs 1 ain regs).getD 6 0 : UInt64) ≠ (regs.getD 6 0))) rfl)) ?_
            refine WT.q rfl (Wn.no rfl) rfl rfl (fun wq hS => R.move (v := (.bool (decide (((entRegs 1 ain regs).getD 6 0 : UInt64) ≠ (regs.getD 6 0))))) rfl) ?_
            refine WT.skipQ rfl rfl rfl (boolNe (v := .bool false) (congrArg Value.bool (decide_eq_false (not_not_intro (ent_high ha hr).2.2.1))) (by decide)) rfl rfl ?_
            refine WT.skipQ rfl rfl rfl (boolNe (v := .bool false) (congrArg Value.bool (decide_eq_false (not_not_intro (ent_high ha hr).2.2.1))) (by decide)) rfl rfl ?_
            refine WT.skipQ rfl rfl rfl (boolNe (v := .bool false) (congrArg Value.bool (decide_eq_false (not_not_intro (ent_high ha hr).2.2.1))) (by decide)) rfl rfl ?_
            refine WT.skipQ rfl rfl rfl (boolNe (v := undef) rfl (by decide)) rfl rfl ?_
            refine WT.skipQ rfl rfl rfl (boolNe (v := undef) rfl (by decide)) rfl rfl ?_
            refine WT.skipQ rfl rfl rfl (boolNe (v := undef) rfl (by decide)) rfl rfl ?_
            refine WT.skipQ rfl rfl rfl (boolNe (v := .bool false) (congrArg Value.bool (decide_eq_false (not_not_intro (ent_high ha hr).2.2.1))) (by decide)) rfl rfl ?_
            refine WT.q rfl (Wn.no rfl) rfl rfl (fun wq hS => R.pickF (v := (.bool false)) (congrArg Value.bool (decide_eq_false (not_not_intro (ent_high ha hr).2.2.1))) rfl) ?_
            refine WT.nil ?_
            refine thn_n ?_
            refine WP.condF rfl ?_
            refine WP.skip ?_
            refine inb_n ?_
            refine thn_n ?_
            refine WP.reg ?_
            refine WL.q (Wn.no rfl) rfl rfl (R.move (v := (vi 6)) rfl) ?_
            refine WL.q (Wn.no rfl) rfl rfl (R.bin (v := (vi 7)) rfl rfl (bi_add (c := 7) (by omega) (by omega))) ?_
            refine WL.q (Wn.no rfl) rfl rfl (R.assign (v := (vi 7)) rfl) ?_
            refine WL.nil ?_
            refine thn_n ?_
            refine WI.round ?_
            refine WP.seq ?_
            refine WP.seq ?_
            refine WP.reg ?_
            refine WL.q (Wn.no rfl) rfl rfl (R.move (v := (vi 7)) rfl) ?_
            refine WL.q (Wn.no rfl) rfl rfl (R.bin (v := (.bool true)) rfl rfl (bi_lss (r := true) (by decide))) ?_
            refine WL.nil ?_
            refine thn_n ?_
            refine WP.condT rfl ?_
            refine WP.skip ?_
            refine thn_n ?_
            refine WP.seq ?_
            refine WP.block ?_
            refine WP.seq ?_
            refine WP.drawT (SL w.heap.size [.blk b_56 .nw 28 [(1, [(vi rd)]), (1, [(vu64 ins)]), (8, (entRegs 1 ain regs).map vu64), (1, [(vu64 pc)]), (1, [(.bool true)]), (1, [(vi 0)])], .blk b_47 .nw 28 [(1, [(vi rd)]), (1, [(vu64 ins)]), (8, (entRegs 1 ain regs).map vu64), (1, [(vu64 pc)]), (1, [(.bool true)]), (1, [(vi 0)])], .blk b_7 .nw 40 [(1, [(vi rs)]), (4, ors.map vu64), (1, [(vu64 adr)]), (1, [(.bool wr)]), (1, [(vi ran)])], .blk b_4 .nw 31 [(4, ain.map vu64)], .blk b_1 .nw 28 [(1, [(vi rd)]), (1, [(vu64 ins)]), (8, regs.map vu64), (1, [(vu64 pc)]), (1, [(.bool true)]), (1, [(vi 1)])]]) (.q 0 (.q 1 (.q 2 (.q 3 (.q 4 (.q 5 (.q 6 (.q 7 (.q 8 (.q 9 (.q 10 (.q 11 (.q 12 (.q 13 (.q 14 (.q 15 (.q 16 (.q 17 (.q 18 (.q 19 .nil)))))))))))))))))))) (by kernel_rfl) (by kernel_rfl) rfl (by kernel_rfl) (fun w_226 hc_228 => (SL.cons ((h_224.same hc_228).ok _ (.head _)) (SL.cons ((h_224.same hc_228).ok _ (.tail _ (.head _))) (SL.cons ((h_224.same hc_228).ok _ (.tail _ (.tail _ (.head _)))) (SL.cons ((h_224.same hc_228).ok _ (.tail _ (.tail _ (.tail _ (.head _))))) (SL.cons ((h_224.same hc_228).ok _ (.tail _ (.tail _ (.tail _ (.tail _ (.head _)))))) (SL.nil _ _))))))) (fun w_226 hc_228 => ?_)
            have h_227 := h_224.same hc_228
            refine WT.q rfl (Wn.no rfl) rfl rfl (fun wq hS => R.move (v := (vi 7)) rfl) ?_
            refine WT.q rfl (Wn.no rfl) rfl rfl (fun wq hS => R.fieldAddr (b := b_56) (off := 0) (off' := 2) rfl Try.underlying28 rfl Try.sizeOf25 rfl rfl) ?_
            refine WT.q rfl (Wn.no rfl) rfl rfl (fun wq hS => R.fieldAddr (b := b_56) (off := 2) (off' := 2) rfl Try.underlying25 rfl Try.sizeOf23 rfl rfl) ?_
            refine WT.q rfl (Wn.no rfl) rfl rfl (fun wq hS => R.indexA (b := b_56) (off := 2) (off' := 9) (i := 7) rfl rfl rfl (by decide) Try.underlying23 Try.sizeOf22 rfl) ?_
            refine WT.q rfl (Wn.no rfl) rfl rfl (fun wq hS => R.loadE (b := b_56) (off := 9) (i := 7) (v := (vu64 ((entRegs 1 ain regs).getD 7 0))) rfl Try.isAgg22 (hS _ (.head _)) (Sg.t rfl (Sg.t rfl Sg.h)) rfl (get_u64 (lt_len (K := 8) (entRegs_len ha hr) (by decide)))) ?_
            refine WT.q rfl (Wn.no rfl) rfl rfl (fun wq hS => R.move (v := (vi 7)) rfl) ?_
            refine WT.q rfl (Wn.no rfl) rfl rfl (fun wq hS => R.fieldAddr (b := b_1) (off := 0) (off' := 2) rfl Try.underlying28 rfl Try.sizeOf25 rfl rfl) ?_
            refine WT.q rfl (Wn.no rfl) rfl rfl (fun wq hS => R.fieldAddr (b := b_1) (off := 2) (off' := 2) rfl Try.underlying25 rfl Try.sizeOf23 rfl rfl) ?_
            refine WT.q rfl (Wn.no rfl) rfl rfl (fun wq hS => R.indexA (b := b_1) (off := 2) (off' := 9) (i := 7) rfl rfl rfl (by decide) Try.underlying23 Try.sizeOf22 rfl) ?_
            refine WT.q rfl (Wn.no rfl) rfl rfl (fun wq hS => R.loadE (b := b_1) (off := 9) (i := 7) (v := (vu64 (regs.getD 7 0))) rfl Try.isAgg22 (hS _ (.tail _ (.tail _ (.tail _ (.tail _ (.head _)))))) (Sg.t rfl (Sg.t rfl Sg.h)) rfl (get_u64 (lt_len (K := 8) hr (by decide)))) ?_
            refine WT.q rfl (Wn.no rfl) rfl rfl (fun wq hS => R.bin (v := (.bool (decide (((entRegs 1 ain regs).getD 7 0 : UInt64) ≠ (regs.getD 7 0))))) rfl rfl (b64_neq ((entRegs 1 ain regs).getD 7 0) (regs.getD 7 0) (r := decide (((entRegs 1 ain regs).getD 7 0 : UInt64) ≠ (regs.getD 7 0))) rfl)) ?_
            refine WT.q rfl (Wn.no rfl) rfl rfl (fun wq hS => R.move (v := (.bool (decide (((entRegs 1 ain regs).getD 7 0 : UInt64) ≠ (regs.getD 7 0))))) rfl) ?_
            refine WT.skipQ rfl rfl rfl (boolNe (v := .bool false) (congrArg Value.bool (decide_eq_false (not_not_intro (ent_high ha hr).2.2.2))) (by decide)) rfl rfl ?_
            refine WT.skipQ rfl rfl rfl (boolNe (v := .bool false) (congrArg Value.bool (decide_eq_false (not_not_intro (ent_high ha hr).2.2.2))) (by decide)) rfl rfl ?_
            refine WT.skipQ rfl rfl rfl (boolNe (v := .bool false) (congrArg Value.bool (decide_eq_false (not_not_intro (ent_high ha hr).2.2.2))) (by decide)) rfl rfl ?_
            refine WT.skipQ rfl rfl rfl (boolNe (v := undef) rfl (by decide)) rfl rfl ?_
            refine WT.skipQ rfl rfl rfl (boolNe (v := undef) rfl (by decide)) rfl rfl ?_
            refine WT.skipQ rfl rfl rfl (boolNe (v := undef) rfl (by decide)) rfl rfl ?_
            refine WT.skipQ rfl rfl rfl (boolNe (v := .bool false) (congrArg Value.bool (decide_eq_false (not_not_intro (ent_high ha hr).2.2.2))) (by decide)) rfl rfl ?_
            refine WT.q rfl (Wn.no rfl) rfl rfl (fun wq hS => R.pickF (v := (.bool false)) (congrArg Value.bool (decide_eq_false (not_not_intro (ent_high ha hr).2.2.2))) rfl) ?_
            refine WT.nil ?_
            refine thn_n ?_
            refine WP.condF rfl ?_
            refine WP.skip ?_
            refine inb_n ?_
            refine thn_n ?_
            refine WP.reg ?_
            refine WL.q (Wn.no rfl) rfl rfl (R.move (v := (vi 7)) rfl) ?_
            refine WL.q (Wn.no rfl) rfl rfl (R.bin (v := (vi 8)) rfl rfl (bi_add (c := 8) (by omega) (by omega))) ?_
            refine WL.q (Wn.no rfl) rfl rfl (R.assign (v := (vi 8)) rfl) ?_
            refine WL.nil ?_
            refine thn_n ?_
            refine WI.round ?_
            refine WP.seq ?_
            refine WP.seq ?_
            refine WP.reg ?_
            refine WL.q (Wn.no rfl) rfl rfl (R.move (v := (vi 8)) rfl) ?_
            refine WL.q (Wn.no rfl) rfl rfl (R.bin (v := (.bool false)) rfl rfl (bi_lss (r := false) (by decide))) ?_
            refine WL.nil ?_
            refine thn_n ?_
            refine WP.condF rfl ?_
            refine WP.exit ?_
            refine thn_x ?_
            refine thn_x ?_
            refine inb_hit ?_
            refine thn_n ?_
            refine WP.seq ?_
            refine WP.reg ?_
            refine WL.call (al := []) Try.call15 rfl rfl (c_known14  _) rfl ?_
            rintro _ w_230 ⟨rfl, hc_229⟩
            have h_231 := h_227.same hc_229
            refine WL.q (Wn.no rfl) rfl rfl (R.assign (v := (.bool true)) rfl) ?_
            refine WL.nil ?_
            refine thn_n ?_
            refine WP.ret ?_
            refine ret_of Try.results9 (RV.tmp (v := (.bool true)) rfl RV.nil) ?_
            exact ⟨rfl, h_231.chgS⟩
end Go.Proofs.Ythkcekgemanfdaa
