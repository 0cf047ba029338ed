/- Contracts of the reference of aes: blocks, keys of rounds. Conditions: those that each theorem states. -/
import Derived.Test.YtcmgadjnammahaaE4
import Derived.Test.YtcmgadjnammahaaX2
import Derived.Test.YtcmgadjnammahaaVcJ
namespace Go.Proofs.Ytcmgadjnammahaa
open Go.Vc Go.Ax Go.RowKit
set_option linter.unusedVariables false
set_option linter.unusedSimpArgs false
set_option maxRecDepth 20000
theorem c_xorR (s k : List UInt8) (hs : s.length = 16) (hk : k.length = 16) (w : World) :
    Cs Try.prog 84 [(.agg ⟨s.map vu8⟩), (.agg ⟨k.map vu8⟩)].toArray w (fun v w1 => v = (.agg ⟨(xorL s k).map vu8⟩) ∧ Chg w w1 []) := by
  refine Cs.of (n := 20) (args := [(.agg ⟨s.map vu8⟩), (.agg ⟨k.map vu8⟩)]) Try.func84 rfl rfl rfl ?_
  have h_0 := HP.init w
  refine WP.seq ?_
  refine WP.reg ?_
  refine WL.box (v := (.agg ⟨s.map vu8⟩)) (segs := [(16, s.map vu8)]) h_0 rfl rfl (SsOk.cons (SOk.u8 hs) SsOk.nil) rfl (fun b_1 w_2 h_3 => ?_)
  refine WL.box (v := (.agg ⟨k.map vu8⟩)) (segs := [(16, k.map vu8)]) h_3 rfl rfl (SsOk.cons (SOk.u8 hk) SsOk.nil) rfl (fun b_4 w_5 h_6 => ?_)
  refine WL.alloc (segs := [(16, (List.replicate 16 (0 : UInt8)).map vu8)]) h_6 (zv Try.typeInfo66 rfl) rfl (SsOk.cons (SOk.u8 (List.length_replicate ..)) SsOk.nil) rfl (fun b_7 w_8 h_9 => ?_)
  refine WL.nil ?_
  refine thn_n ?_
  refine WP.seq ?_
  refine WP.seq ?_
  refine WP.reg ?_
  refine WL.q (Wn.no rfl) rfl rfl (R.assign (v := (vi 0)) rfl) ?_
  refine WL.nil ?_
  refine thn_n ?_
  refine WP.block ?_
  refine WP.loopG (G := Nat) [5, 6, 7, 8, 9, 10, 11, 12, 13, 14, 15, 16, 17, 18] (fun i => [(5, (vi ((i : Nat) : Int)))]) (fun i m w1 => HP w w1 [.blk b_7 .nw 66 [(16, (List.replicate 16 (0 : UInt8)).map vu8)], .blk b_4 .nw 66 [(16, k.map vu8)], .blk b_1 .nw 66 [(16, (xk s k i).map vu8)]] ∧ (i ≤ 16) ∧ m = 16 - i) ⟨0, _, ⟨rfl, trivial⟩, (by rw [xk_0]; exact h_9), (by omega), rfl⟩ ?_
  rintro i m_12 J_13 w_10 ⟨h_11, hi, rfl⟩
  refine WP.seq ?_
  refine WP.seq ?_
  refine WP.reg ?_
  refine WL.q (Wn.no rfl) rfl rfl (R.move (v := (vi ((i : Nat) : Int))) rfl) ?_
  refine WL.q (Wn.no rfl) rfl rfl (R.bin (v := (.bool (decide ((((i : Nat) : Int) : Int) < 16)))) rfl rfl (bi_lss (r := decide ((((i : Nat) : Int) : Int) < 16)) rfl)) ?_
  refine WL.nil ?_
  refine thn_n ?_
  refine WP.cond (b := decide ((((i : Nat) : Int) : Int) < 16)) rfl (fun c_14 => ?_) (fun c_14 => ?_)
  · have p_15 := of_decide_eq_true c_14
    refine WP.skip ?_
    refine thn_n ?_
    refine WP.seq ?_
    refine WP.block ?_
    refine WP.drawZ 9 (SL w.heap.size [.blk b_7 .nw 66 [(16, (List.replicate 16 (0 : UInt8)).map vu8)], .blk b_4 .nw 66 [(16, k.map vu8)], .blk b_1 .nw 66 [(16, (xk s k i).map vu8)]]) (.q 0 (.q 1 (.q 2 (.q 3 (.q 4 (.q 5 (.q 6 (.q 7 (.q 8 (.s 9 .nil)))))))))) (by kernel_rfl) (by kernel_rfl) rfl (by kernel_rfl) (fun w_16 hc_18 => (SL.cons ((h_11.same hc_18).ok _ (.head _)) (SL.cons ((h_11.same hc_18).ok _ (.tail _ (.head _))) (SL.cons ((h_11.same hc_18).ok _ (.tail _ (.tail _ (.head _)))) (SL.nil _ _))))) (fun w_16 hc_18 => ?_)
    have h_17 := h_11.same hc_18
    refine ZT.q rfl (Wn.no rfl) rfl rfl (fun wq hS => R.move (v := (vi ((i : Nat) : Int))) rfl) ?_
    refine ZT.q rfl (Wn.no rfl) rfl rfl (fun wq hS => R.move (v := (vi ((i : Nat) : Int))) rfl) ?_
    refine ZT.q rfl (Wn.no rfl) rfl rfl (fun wq hS => R.indexA (b := b_1) (off := 0) (off' := (0 + i)) (i := i) rfl rfl rfl (by omega) Try.underlying66 Try.sizeOf5 (by rw [Nat.mul_one])) ?_
    refine ZT.q rfl (Wn.no rfl) rfl rfl (fun wq hS => R.loadE (b := b_1) (off := (0 + i)) (i := i) (v := (vu8 ((xk s k i).getD i 0))) rfl Try.isAgg5 (hS _ (.tail _ (.tail _ (.head _)))) Sg.h rfl (get_u8 (lt_len (K := 16) (xk_len hs hk) (by omega)))) ?_
    refine ZT.q rfl (Wn.no rfl) rfl rfl (fun wq hS => R.move (v := (vi ((i : Nat) : Int))) rfl) ?_
    refine ZT.q rfl (Wn.no rfl) rfl rfl (fun wq hS => R.indexA (b := b_4) (off := 0) (off' := (0 + i)) (i := i) rfl rfl rfl (by omega) Try.underlying66 Try.sizeOf5 (by rw [Nat.mul_one])) ?_
    refine ZT.q rfl (Wn.no rfl) rfl rfl (fun wq hS => R.loadE (b := b_4) (off := (0 + i)) (i := i) (v := (vu8 (k.getD i 0))) rfl Try.isAgg5 (hS _ (.tail _ (.head _))) Sg.h rfl (get_u8 (lt_len (K := 16) hk (by omega)))) ?_
    refine ZT.q rfl (Wn.no rfl) rfl rfl (fun wq hS => R.bin (v := (vu8 (((xk s k i).getD i 0) ^^^ (k.getD i 0)))) rfl rfl (b8_xor ((xk s k i).getD i 0) (k.getD i 0))) ?_
    refine ZT.q rfl (Wn.no rfl) rfl rfl (fun wq hS => R.indexA (b := b_1) (off := 0) (off' := (0 + i)) (i := i) rfl rfl rfl (by omega) Try.underlying66 Try.sizeOf5 (by rw [Nat.mul_one])) ?_
    refine ZT.s ?_
    refine OpZ.last rfl (Wn.no rfl) ?_
    refine WL.storeE (b := b_1) (off := (0 + i)) (i := i) (v := (vu8 (((xk s k i).getD i 0) ^^^ (k.getD i 0)))) (cs' := ((xk s k i).set i (((xk s k i).getD i 0) ^^^ (k.getD i 0))).map vu8) h_17 rfl rfl Try.sizeOf5 rfl (At.t (At.t At.h)) (by decide) Sg.h rfl (lt_len (K := 16) (len_map (xk_len hs hk)) (by omega)) (set_u8 _ _ _) (fun w_19 h_20 => ?_)
    refine WL.nil ?_
    refine ZT.nil ?_
    refine inb_n ?_
    refine thn_n ?_
    refine WP.reg ?_
    refine WL.q (Wn.no rfl) rfl rfl (R.move (v := (vi ((i : Nat) : Int))) rfl) ?_
    refine WL.q (Wn.no rfl) rfl rfl (R.bin (v := (vi ((i + 1 : Nat) : Int))) rfl rfl (bi_add (c := ((i + 1 : Nat) : Int)) (by omega) (by omega))) ?_
    refine WL.q (Wn.no rfl) rfl rfl (R.assign (v := (vi ((i + 1 : Nat) : Int))) rfl) ?_
    refine WL.nil ?_
    refine thn_n ?_
    rw [xk_step hs hk (by omega)] at h_20
    exact ⟨i + 1, _, (by omega), (Ag.upd rfl (Ag.upd rfl (Ag.upd rfl (Ag.upd rfl (Ag.upd rfl (Ag.upd rfl (Ag.upd rfl (Ag.upd rfl (Ag.upd rfl (Ag.upd rfl (Ag.upd rfl (Ag.upd rfl (Ag.upd rfl (Ag.upd rfl (Ag.updL rfl (Ag.mix _ _ _)))))))))))))))), ⟨rfl, trivial⟩, h_20, (by omega), rfl⟩
  · have p_21 := of_decide_eq_false c_14
    refine WP.exit ?_
    refine thn_x ?_
    refine thn_x ?_
    refine inb_hit ?_
    refine thn_n ?_
    refine WP.seq ?_
    refine WP.reg ?_
    refine WL.q (Wn.no rfl) rfl rfl (R.loadA (b := b_1) (off := 0) [] [(16, (xk s k i).map vu8)] [] (cs := (xk s k i).map vu8) rfl Try.isAgg66 Try.sizeOf66 (h_11.ok _ (.tail _ (.tail _ (.head _)))) rfl rfl rfl rfl) ?_
    refine WL.storeA (b := b_7) (off := 0) [] [(16, (List.replicate 16 (0 : UInt8)).map vu8)] [(16, (xk s k i).map vu8)] [] (ys := (xk s k i).map vu8) h_11 rfl rfl Try.sizeOf66 At.h (by decide) rfl rfl rfl rfl rfl rfl (SsOk.cons (SOk.u8 (xk_len hs hk)) SsOk.nil) (fun w_22 h_23 => ?_)
    refine WL.nil ?_
    refine thn_n ?_
    refine WP.ret ?_
    refine ret_of Try.results84 (RV.cell rfl (h_23.loadA (cs := (xk s k i).map vu8) Try.isAgg66 Try.sizeOf66 (.head _) rfl rfl) RV.nil) ?_
    have hi2 : i = 16 := by omega
    subst hi2
    exact ⟨by rw [xk_16 hs hk]; rfl, h_23.chgS⟩

theorem c_mixR (s f : List UInt8) (hs : s.length = 16) (hf : f.length = 4) (w : World) :
    Cs Try.prog 85 [(.agg ⟨s.map vu8⟩), (.agg ⟨f.map vu8⟩)].toArray w (fun v w1 => v = (.agg ⟨(mixL s f).map vu8⟩) ∧ Chg w w1 []) := by
  refine Cs.of (n := 48) (args := [(.agg ⟨s.map vu8⟩), (.agg ⟨f.map vu8⟩)]) Try.func85 rfl rfl rfl ?_
  have h_0 := HP.init w
  refine WP.seq ?_
  refine WP.reg ?_
  refine WL.box (v := (.agg ⟨s.map vu8⟩)) (segs := [(16, s.map vu8)]) h_0 rfl rfl (SsOk.cons (SOk.u8 hs) SsOk.nil) rfl (fun b_1 w_2 h_3 => ?_)
  refine WL.box (v := (.agg ⟨f.map vu8⟩)) (segs := [(4, f.map vu8)]) h_3 rfl rfl (SsOk.cons (SOk.u8 hf) SsOk.nil) rfl (fun b_4 w_5 h_6 => ?_)
  refine WL.alloc (segs := [(16, (List.replicate 16 (0 : UInt8)).map vu8)]) h_6 (zv Try.typeInfo66 rfl) rfl (SsOk.cons (SOk.u8 (List.length_replicate ..)) SsOk.nil) rfl (fun b_7 w_8 h_9 => ?_)
  refine WL.nil ?_
  refine thn_n ?_
  refine WP.seq ?_
  refine WP.reg ?_
  refine WL.alloc (segs := [(16, (List.replicate 16 (0 : UInt8)).map vu8)]) h_9 (zv Try.typeInfo66 rfl) rfl (SsOk.cons (SOk.u8 (List.length_replicate ..)) SsOk.nil) rfl (fun b_10 w_11 h_12 => ?_)
  refine WL.nil ?_
  refine thn_n ?_
  refine WP.seq ?_
  refine WP.seq ?_
  refine WP.reg ?_
  refine WL.q (Wn.no rfl) rfl rfl (R.assign (v := (vi 0)) rfl) ?_
  refine WL.nil ?_
  refine thn_n ?_
  refine WP.block ?_
  refine WP.loopG (G := Nat) [6, 7, 8, 9, 10, 11, 12, 13, 14, 15, 16, 17, 18, 19, 20, 21, 22, 23, 24, 25, 26, 27, 28, 29, 30, 31, 32, 33, 34, 35, 36, 37, 38, 39, 40, 41, 42, 43, 44, 45, 46] (fun c => [(6, (vi ((c : Nat) : Int)))]) (fun c m w1 => HP w w1 [.blk b_10 .nw 66 [(16, (pre 16 (mb s f) (4 * c)).map vu8)], .blk b_7 .nw 66 [(16, (List.replicate 16 (0 : UInt8)).map vu8)], .blk b_4 .nw 100 [(4, f.map vu8)], .blk b_1 .nw 66 [(16, s.map vu8)]] ∧ (c ≤ 4) ∧ m = 4 - c) ⟨0, _, ⟨rfl, trivial⟩, (by rw [Nat.mul_zero, pre_0]; exact h_12), (by omega), rfl⟩ ?_
  rintro c m_15 J_16 w_13 ⟨h_14, hc, rfl⟩
  refine WP.seq ?_
  refine WP.seq ?_
  refine WP.reg ?_
  refine WL.q (Wn.no rfl) rfl rfl (R.move (v := (vi ((c : Nat) : Int))) rfl) ?_
  refine WL.q (Wn.no rfl) rfl rfl (R.bin (v := (.bool (decide ((((c : Nat) : Int) : Int) < 4)))) rfl rfl (bi_lss (r := decide ((((c : Nat) : Int) : Int) < 4)) rfl)) ?_
  refine WL.nil ?_
  refine thn_n ?_
  refine WP.cond (b := decide ((((c : Nat) : Int) : Int) < 4)) rfl (fun c_17 => ?_) (fun c_17 => ?_)
  · have p_18 := of_decide_eq_true c_17
    refine WP.skip ?_
    refine thn_n ?_
    refine WP.seq ?_
    refine WP.block ?_
    refine WP.seq ?_
    refine WP.reg ?_
    refine WL.q (Wn.no rfl) rfl rfl (R.assign (v := (vi 0)) rfl) ?_
    refine WL.nil ?_
    refine thn_n ?_
    refine WP.block ?_
    refine WP.loopG (G := Nat) [7, 8, 13, 14, 15, 16, 17, 18, 19, 20, 21, 22, 23, 24, 25, 26, 27, 28, 29, 30, 31, 32, 33, 34, 35, 36, 37, 38, 39, 40, 41, 42, 43, 44, 45, 46] (fun r => [(7, (vi ((r : Nat) : Int)))]) (fun r m w1 => HP w w1 [.blk b_10 .nw 66 [(16, (pre 16 (mb s f) (4 * c + r)).map vu8)], .blk b_7 .nw 66 [(16, (List.replicate 16 (0 : UInt8)).map vu8)], .blk b_4 .nw 100 [(4, f.map vu8)], .blk b_1 .nw 66 [(16, s.map vu8)]] ∧ (r ≤ 4) ∧ m = 4 - r) ⟨0, _, ⟨rfl, trivial⟩, h_14, (by omega), rfl⟩ ?_
    rintro r m_21 J_22 w_19 ⟨h_20, hr, rfl⟩
    refine WP.seq ?_
    refine WP.seq ?_
    refine WP.reg ?_
    refine WL.q (Wn.no rfl) rfl rfl (R.move (v := (vi ((r : Nat) : Int))) rfl) ?_
    refine WL.q (Wn.no rfl) rfl rfl (R.bin (v := (.bool (decide ((((r : Nat) : Int) : Int) < 4)))) rfl rfl (bi_lss (r := decide ((((r : Nat) : Int) : Int) < 4)) rfl)) ?_
    refine WL.nil ?_
    refine thn_n ?_
    refine WP.cond (b := decide ((((r : Nat) : Int) : Int) < 4)) rfl (fun c_23 => ?_) (fun c_23 => ?_)
    · have p_24 := of_decide_eq_true c_23
      refine WP.skip ?_
      refine thn_n ?_
      refine WP.seq ?_
      refine WP.block ?_
      refine WP.seq ?_
      refine WP.reg ?_
      refine WL.q (Wn.no rfl) rfl rfl (R.assign (v := (vi 0)) rfl) ?_
      refine WL.nil ?_
      refine thn_n ?_
      refine WP.block ?_
      refine WP.loopU (WI.round ?_)
      refine WP.seq ?_
      refine WP.seq ?_
      refine WP.reg ?_
      refine WL.q (Wn.no rfl) rfl rfl (R.move (v := (vi 0)) rfl) ?_
      refine WL.q (Wn.no rfl) rfl rfl (R.bin (v := (.bool true)) rfl rfl (bi_lss (r := true) (by decide))) ?_
      refine WL.nil ?_
      refine thn_n ?_
      refine WP.condT rfl ?_
      refine WP.skip ?_
      refine thn_n ?_
      refine WP.seq ?_
      refine WP.block ?_
      refine WP.drawZ 26 (SL w.heap.size [.blk b_10 .nw 66 [(16, (pre 16 (mb s f) (4 * c + r)).map vu8)], .blk b_7 .nw 66 [(16, (List.replicate 16 (0 : UInt8)).map vu8)], .blk b_4 .nw 100 [(4, f.map vu8)], .blk b_1 .nw 66 [(16, s.map vu8)]]) (.q 0 (.q 1 (.q 2 (.q 3 (.q 4 (.q 5 (.q 6 (.q 7 (.q 8 (.q 9 (.q 10 (.q 11 (.q 12 (.q 13 (.q 14 (.q 15 (.q 16 (.q 17 (.q 18 (.q 19 (.q 20 (.q 21 (.q 22 (.s 23 (.q 24 (.q 25 (.s 26 .nil))))))))))))))))))))))))))) (by kernel_rfl) (by kernel_rfl) rfl (by kernel_rfl) (fun w_25 hc_27 => (SL.cons ((h_20.same hc_27).ok _ (.head _)) (SL.cons ((h_20.same hc_27).ok _ (.tail _ (.head _))) (SL.cons ((h_20.same hc_27).ok _ (.tail _ (.tail _ (.head _)))) (SL.cons ((h_20.same hc_27).ok _ (.tail _ (.tail _ (.tail _ (.head _))))) (SL.nil _ _)))))) (fun w_25 hc_27 => ?_)
      have h_26 := h_20.same hc_27
      refine ZT.q rfl (Wn.no rfl) rfl rfl (fun wq hS => R.move (v := (vi ((c : Nat) : Int))) rfl) ?_
      refine ZT.q rfl (Wn.no rfl) rfl rfl (fun wq hS => R.bin (v := (vi ((4 * c : Nat) : Int))) rfl rfl (bi_mul (c := ((4 * c : Nat) : Int)) (by omega) (by omega))) ?_
      refine ZT.q rfl (Wn.no rfl) rfl rfl (fun wq hS => R.move (v := (vi ((r : Nat) : Int))) rfl) ?_
      refine ZT.q rfl (Wn.no rfl) rfl rfl (fun wq hS => R.bin (v := (vi ((4 * c + r : Nat) : Int))) rfl rfl (bi_add (c := ((4 * c + r : Nat) : Int)) (by omega) (by omega))) ?_
      refine ZT.q rfl (Wn.no rfl) rfl rfl (fun wq hS => R.move (v := (vi ((c : Nat) : Int))) rfl) ?_
      refine ZT.q rfl (Wn.no rfl) rfl rfl (fun wq hS => R.bin (v := (vi ((4 * c : Nat) : Int))) rfl rfl (bi_mul (c := ((4 * c : Nat) : Int)) (by omega) (by omega))) ?_
      refine ZT.q rfl (Wn.no rfl) rfl rfl (fun wq hS => R.move (v := (vi ((r : Nat) : Int))) rfl) ?_
      refine ZT.q rfl (Wn.no rfl) rfl rfl (fun wq hS => R.bin (v := (vi ((4 * c + r : Nat) : Int))) rfl rfl (bi_add (c := ((4 * c + r : Nat) : Int)) (by omega) (by omega))) ?_
      refine ZT.q rfl (Wn.no rfl) rfl rfl (fun wq hS => R.indexA (b := b_10) (off := 0) (off' := (0 + (4 * c + r))) (i := 4 * c + r) rfl rfl rfl (by omega) Try.underlying66 Try.sizeOf5 (by rw [Nat.mul_one])) ?_
      refine ZT.q rfl (Wn.no rfl) rfl rfl (fun wq hS => R.loadE (b := b_10) (off := (0 + (4 * c + r))) (i := 4 * c + r) (v := (vu8 ((pre 16 (mb s f) (4 * c + r)).getD (4 * c + r) 0))) rfl Try.isAgg5 (hS _ (.head _)) Sg.h rfl (get_u8 (lt_len (K := 16) (pre_len (by omega)) (by omega)))) ?_
      refine ZT.q rfl (Wn.no rfl) rfl rfl (fun wq hS => R.move (v := (vi ((c : Nat) : Int))) rfl) ?_
      refine ZT.q rfl (Wn.no rfl) rfl rfl (fun wq hS => R.bin (v := (vi ((4 * c : Nat) : Int))) rfl rfl (bi_mul (c := ((4 * c : Nat) : Int)) (by omega) (by omega))) ?_
      refine ZT.q rfl (Wn.no rfl) rfl rfl (fun wq hS => R.move (v := (vi 0)) rfl) ?_
      refine ZT.q rfl (Wn.no rfl) rfl rfl (fun wq hS => R.bin (v := (vi ((4 * c : Nat) : Int))) rfl rfl (bi_add (c := ((4 * c : Nat) : Int)) (by omega) (by omega))) ?_
      refine ZT.q rfl (Wn.no rfl) rfl rfl (fun wq hS => R.indexA (b := b_1) (off := 0) (off' := (0 + (4 * c))) (i := 4 * c) rfl rfl rfl (by omega) Try.underlying66 Try.sizeOf5 (by rw [Nat.mul_one])) ?_
      refine ZT.q rfl (Wn.no rfl) rfl rfl (fun wq hS => R.loadE (b := b_1) (off := (0 + (4 * c))) (i := 4 * c) (v := (vu8 (s.getD (4 * c) 0))) rfl Try.isAgg5 (hS _ (.tail _ (.tail _ (.tail _ (.head _))))) Sg.h rfl (get_u8 (lt_len (K := 16) hs (by omega)))) ?_
      refine ZT.q rfl (Wn.no rfl) rfl rfl (fun wq hS => R.move (v := (vi 0)) rfl) ?_
      refine ZT.q rfl (Wn.no rfl) rfl rfl (fun wq hS => R.move (v := (vi ((r : Nat) : Int))) rfl) ?_
      refine ZT.q rfl (Wn.no rfl) rfl rfl (fun wq hS => R.bin (v := (vi (0 - ((r : Nat) : Int)))) rfl rfl (bi_sub (c := 0 - ((r : Nat) : Int)) (by omega) (by omega))) ?_
      refine ZT.q rfl (Wn.no rfl) rfl rfl (fun wq hS => R.bin (v := (vi ((0 + 4 - r : Nat) : Int))) rfl rfl (bi_add (c := ((0 + 4 - r : Nat) : Int)) (by omega) (by omega))) ?_
      refine ZT.q rfl (Wn.no rfl) rfl rfl (fun wq hS => R.bin (v := (vi (((0 + 4 - r) % 4 : Nat) : Int))) rfl rfl (bi_rem (c := (((0 + 4 - r) % 4 : Nat) : Int)) (Int.natCast_nonneg _) (by omega) (by first | omega | rfl))) ?_
      refine ZT.q rfl (Wn.no rfl) rfl rfl (fun wq hS => R.indexA (b := b_4) (off := 0) (off' := (0 + ((0 + 4 - r) % 4))) (i := (0 + 4 - r) % 4) rfl rfl rfl (by omega) Try.underlying100 Try.sizeOf5 (by rw [Nat.mul_one])) ?_
      refine ZT.q rfl (Wn.no rfl) rfl rfl (fun wq hS => R.loadE (b := b_4) (off := (0 + ((0 + 4 - r) % 4))) (i := (0 + 4 - r) % 4) (v := (vu8 (f.getD ((0 + 4 - r) % 4) 0))) rfl Try.isAgg5 (hS _ (.tail _ (.tail _ (.head _)))) Sg.h rfl (get_u8 (lt_len (K := 4) hf (by omega)))) ?_
      refine ZT.s ?_
      refine OpZ.one rfl (Wn.no rfl) ?_
      refine WL.call (al := [(vu8 (s.getD (4 * c) 0)), (vu8 (f.getD ((0 + 4 - r) % 4) 0))]) Try.call36 rfl rfl (c_TimesR (s.getD (4 * c) 0) (f.getD ((0 + 4 - r) % 4) 0) _ ) rfl ?_
      rintro _ w_29 ⟨rfl, hc_28⟩
      have h_30 := h_26.same hc_28
      refine WL.nil ?_
      refine ⟨(SL.cons (h_30.ok _ (.head _)) (SL.cons (h_30.ok _ (.tail _ (.head _))) (SL.cons (h_30.ok _ (.tail _ (.tail _ (.head _)))) (SL.cons (h_30.ok _ (.tail _ (.tail _ (.tail _ (.head _))))) (SL.nil _ _))))), ?_⟩
      refine ZT.q rfl (Wn.no rfl) rfl rfl (fun wq hS => R.bin (v := (vu8 (((pre 16 (mb s f) (4 * c + r)).getD (4 * c + r) 0) ^^^ (tm (s.getD (4 * c) 0) (f.getD ((0 + 4 - r) % 4) 0))))) rfl rfl (b8_xor ((pre 16 (mb s f) (4 * c + r)).getD (4 * c + r) 0) (tm (s.getD (4 * c) 0) (f.getD ((0 + 4 - r) % 4) 0)))) ?_
      refine ZT.q rfl (Wn.no rfl) rfl rfl (fun wq hS => R.indexA (b := b_10) (off := 0) (off' := (0 + (4 * c + r))) (i := 4 * c + r) rfl rfl rfl (by omega) Try.underlying66 Try.sizeOf5 (by rw [Nat.mul_one])) ?_
      refine ZT.s ?_
      refine OpZ.last rfl (Wn.no rfl) ?_
      refine WL.storeE (b := b_10) (off := (0 + (4 * c + r))) (i := 4 * c + r) (v := (vu8 (((pre 16 (mb s f) (4 * c + r)).getD (4 * c + r) 0) ^^^ (tm (s.getD (4 * c) 0) (f.getD ((0 + 4 - r) % 4) 0))))) (cs' := ((pre 16 (mb s f) (4 * c + r)).set (4 * c + r) (((pre 16 (mb s f) (4 * c + r)).getD (4 * c + r) 0) ^^^ (tm (s.getD (4 * c) 0) (f.getD ((0 + 4 - r) % 4) 0)))).map vu8) h_30 rfl rfl Try.sizeOf5 rfl At.h (by decide) Sg.h rfl (lt_len (K := 16) (len_map (pre_len (by omega))) (by omega)) (set_u8 _ _ _) (fun w_31 h_32 => ?_)
      refine WL.nil ?_
      refine ZT.nil ?_
      refine inb_n ?_
      refine thn_n ?_
      refine WP.reg ?_
      refine WL.q (Wn.no rfl) rfl rfl (R.move (v := (vi 0)) rfl) ?_
      refine WL.q (Wn.no rfl) rfl rfl (R.bin (v := (vi 1)) rfl rfl (bi_add (c := 1) (by omega) (by omega))) ?_
      refine WL.q (Wn.no rfl) rfl rfl (R.assign (v := (vi 1)) rfl) ?_
      refine WL.nil ?_
      refine thn_n ?_
      refine WI.round ?_
      refine WP.seq ?_
      refine WP.seq ?_
      refine WP.reg ?_
      refine WL.q (Wn.no rfl) rfl rfl (R.move (v := (vi 1)) rfl) ?_
      refine WL.q (Wn.no rfl) rfl rfl (R.bin (v := (.bool true)) rfl rfl (bi_lss (r := true) (by decide))) ?_
      refine WL.nil ?_
      refine thn_n ?_
      refine WP.condT rfl ?_
      refine WP.skip ?_
      refine thn_n ?_
      refine WP.seq ?_
      refine WP.block ?_
      refine WP.drawZ 26 (SL w.heap.size [.blk b_10 .nw 66 [(16, ((pre 16 (mb s f) (4 * c + r)).set (4 * c + r) (((pre 16 (mb s f) (4 * c + r)).getD (4 * c + r) 0) ^^^ (tm (s.getD (4 * c) 0) (f.getD ((0 + 4 - r) % 4) 0)))).map vu8)], .blk b_7 .nw 66 [(16, (List.replicate 16 (0 : UInt8)).map vu8)], .blk b_4 .nw 100 [(4, f.map vu8)], .blk b_1 .nw 66 [(16, s.map vu8)]]) (.q 0 (.q 1 (.q 2 (.q 3 (.q 4 (.q 5 (.q 6 (.q 7 (.q 8 (.q 9 (.q 10 (.q 11 (.q 12 (.q 13 (.q 14 (.q 15 (.q 16 (.q 17 (.q 18 (.q 19 (.q 20 (.q 21 (.q 22 (.s 23 (.q 24 (.q 25 (.s 26 .nil))))))))))))))))))))))))))) (by kernel_rfl) (by kernel_rfl) rfl (by kernel_rfl) (fun w_33 hc_35 => (SL.cons ((h_32.same hc_35).ok _ (.head _)) (SL.cons ((h_32.same hc_35).ok _ (.tail _ (.head _))) (SL.cons ((h_32.same hc_35).ok _ (.tail _ (.tail _ (.head _)))) (SL.cons ((h_32.same hc_35).ok _ (.tail _ (.tail _ (.tail _ (.head _))))) (SL.nil _ _)))))) (fun w_33 hc_35 => ?_)
      have h_34 := h_32.same hc_35
      refine ZT.q rfl (Wn.no rfl) rfl rfl (fun wq hS => R.move (v := (vi ((c : Nat) : Int))) rfl) ?_
      refine ZT.q rfl (Wn.no rfl) rfl rfl (fun wq hS => R.bin (v := (vi ((4 * c : Nat) : Int))) rfl rfl (bi_mul (c := ((4 * c : Nat) : Int)) (by omega) (by omega))) ?_
      refine ZT.q rfl (Wn.no rfl) rfl rfl (fun wq hS => R.move (v := (vi ((r : Nat) : Int))) rfl) ?_
      refine ZT.q rfl (Wn.no rfl) rfl rfl (fun wq hS => R.bin (v := (vi ((4 * c + r : Nat) : Int))) rfl rfl (bi_add (c := ((4 * c + r : Nat) : Int)) (by omega) (by omega))) ?_
      refine ZT.q rfl (Wn.no rfl) rfl rfl (fun wq hS => R.move (v := (vi ((c : Nat) : Int))) rfl) ?_
      refine ZT.q rfl (Wn.no rfl) rfl rfl (fun wq hS => R.bin (v := (vi ((4 * c : Nat) : Int))) rfl rfl (bi_mul (c := ((4 * c : Nat) : Int)) (by omega) (by omega))) ?_
      refine ZT.q rfl (Wn.no rfl) rfl rfl (fun wq hS => R.move (v := (vi ((r : Nat) : Int))) rfl) ?_
      refine ZT.q rfl (Wn.no rfl) rfl rfl (fun wq hS => R.bin (v := (vi ((4 * c + r : Nat) : Int))) rfl rfl (bi_add (c := ((4 * c + r : Nat) : Int)) (by omega) (by omega))) ?_
      refine ZT.q rfl (Wn.no rfl) rfl rfl (fun wq hS => R.indexA (b := b_10) (off := 0) (off' := (0 + (4 * c + r))) (i := 4 * c + r) rfl rfl rfl (by omega) Try.underlying66 Try.sizeOf5 (by rw [Nat.mul_one])) ?_
      refine ZT.q rfl (Wn.no rfl) rfl rfl (fun wq hS => R.loadE (b := b_10) (off := (0 + (4 * c + r))) (i := 4 * c + r) (v := (vu8 (((pre 16 (mb s f) (4 * c + r)).set (4 * c + r) (((pre 16 (mb s f) (4 * c + r)).getD (4 * c + r) 0) ^^^ (tm (s.getD (4 * c) 0) (f.getD ((0 + 4 - r) % 4) 0)))).getD (4 * c + r) 0))) rfl Try.isAgg5 (hS _ (.head _)) Sg.h rfl (get_u8 (lt_len (K := 16) (len_set (pre_len (by omega)) _ _) (by omega)))) ?_
      refine ZT.q rfl (Wn.no rfl) rfl rfl (fun wq hS => R.move (v := (vi ((c : Nat) : Int))) rfl) ?_
      refine ZT.q rfl (Wn.no rfl) rfl rfl (fun wq hS => R.bin (v := (vi ((4 * c : Nat) : Int))) rfl rfl (bi_mul (c := ((4 * c : Nat) : Int)) (by omega) (by omega))) ?_
      refine ZT.q rfl (Wn.no rfl) rfl rfl (fun wq hS => R.move (v := (vi 1)) rfl) ?_
      refine ZT.q rfl (Wn.no rfl) rfl rfl (fun wq hS => R.bin (v := (vi ((4 * c + 1 : Nat) : Int))) rfl rfl (bi_add (c := ((4 * c + 1 : Nat) : Int)) (by omega) (by omega))) ?_
      refine ZT.q rfl (Wn.no rfl) rfl rfl (fun wq hS => R.indexA (b := b_1) (off := 0) (off' := (0 + (4 * c + 1))) (i := 4 * c + 1) rfl rfl rfl (by omega) Try.underlying66 Try.sizeOf5 (by rw [Nat.mul_one])) ?_
      refine ZT.q rfl (Wn.no rfl) rfl rfl (fun wq hS => R.loadE (b := b_1) (off := (0 + (4 * c + 1))) (i := 4 * c + 1) (v := (vu8 (s.getD (4 * c + 1) 0))) rfl Try.isAgg5 (hS _ (.tail _ (.tail _ (.tail _ (.head _))))) Sg.h rfl (get_u8 (lt_len (K := 16) hs (by omega)))) ?_
      refine ZT.q rfl (Wn.no rfl) rfl rfl (fun wq hS => R.move (v := (vi 1)) rfl) ?_
      refine ZT.q rfl (Wn.no rfl) rfl rfl (fun wq hS => R.move (v := (vi ((r : Nat) : Int))) rfl) ?_
      refine ZT.q rfl (Wn.no rfl) rfl rfl (fun wq hS => R.bin (v := (vi (1 - ((r : Nat) : Int)))) rfl rfl (bi_sub (c := 1 - ((r : Nat) : Int)) (by omega) (by omega))) ?_
      refine ZT.q rfl (Wn.no rfl) rfl rfl (fun wq hS => R.bin (v := (vi ((1 + 4 - r : Nat) : Int))) rfl rfl (bi_add (c := ((1 + 4 - r : Nat) : Int)) (by omega) (by omega))) ?_
      refine ZT.q rfl (Wn.no rfl) rfl rfl (fun wq hS => R.bin (v := (vi (((1 + 4 - r) % 4 : Nat) : Int))) rfl rfl (bi_rem (c := (((1 + 4 - r) % 4 : Nat) : Int)) (Int.natCast_nonneg _) (by omega) (by first | omega | rfl))) ?_
      refine ZT.q rfl (Wn.no rfl) rfl rfl (fun wq hS => R.indexA (b := b_4) (off := 0) (off' := (0 + ((1 + 4 - r) % 4))) (i := (1 + 4 - r) % 4) rfl rfl rfl (by omega) Try.underlying100 Try.sizeOf5 (by rw [Nat.mul_one])) ?_
      refine ZT.q rfl (Wn.no rfl) rfl rfl (fun wq hS => R.loadE (b := b_4) (off := (0 + ((1 + 4 - r) % 4))) (i := (1 + 4 - r) % 4) (v := (vu8 (f.getD ((1 + 4 - r) % 4) 0))) rfl Try.isAgg5 (hS _ (.tail _ (.tail _ (.head _)))) Sg.h rfl (get_u8 (lt_len (K := 4) hf (by omega)))) ?_
      refine ZT.s ?_
      refine OpZ.one rfl (Wn.no rfl) ?_
      refine WL.call (al := [(vu8 (s.getD (4 * c + 1) 0)), (vu8 (f.getD ((1 + 4 - r) % 4) 0))]) Try.call36 rfl rfl (c_TimesR (s.getD (4 * c + 1) 0) (f.getD ((1 + 4 - r) % 4) 0) _ ) rfl ?_
      rintro _ w_37 ⟨rfl, hc_36⟩
      have h_38 := h_34.same hc_36
      refine WL.nil ?_
      refine ⟨(SL.cons (h_38.ok _ (.head _)) (SL.cons (h_38.ok _ (.tail _ (.head _))) (SL.cons (h_38.ok _ (.tail _ (.tail _ (.head _)))) (SL.cons (h_38.ok _ (.tail _ (.tail _ (.tail _ (.head _))))) (SL.nil _ _))))), ?_⟩
      refine ZT.q rfl (Wn.no rfl) rfl rfl (fun wq hS => R.bin (v := (vu8 ((((pre 16 (mb s f) (4 * c + r)).set (4 * c + r) (((pre 16 (mb s f) (4 * c + r)).getD (4 * c + r) 0) ^^^ (tm (s.getD (4 * c) 0) (f.getD ((0 + 4 - r) % 4) 0)))).getD (4 * c + r) 0) ^^^ (tm (s.getD (4 * c + 1) 0) (f.getD ((1 + 4 - r) % 4) 0))))) rfl rfl (b8_xor (((pre 16 (mb s f) (4 * c + r)).set (4 * c + r) (((pre 16 (mb s f) (4 * c + r)).getD (4 * c + r) 0) ^^^ (tm (s.getD (4 * c) 0) (f.getD ((0 + 4 - r) % 4) 0)))).getD (4 * c + r) 0) (tm (s.getD (4 * c + 1) 0) (f.getD ((1 + 4 - r) % 4) 0)))) ?_
      refine ZT.q rfl (Wn.no rfl) rfl rfl (fun wq hS => R.indexA (b := b_10) (off := 0) (off' := (0 + (4 * c + r))) (i := 4 * c + r) rfl rfl rfl (by omega) Try.underlying66 Try.sizeOf5 (by rw [Nat.mul_one])) ?_
      refine ZT.s ?_
      refine OpZ.last rfl (Wn.no rfl) ?_
      refine WL.storeE (b := b_10) (off := (0 + (4 * c + r))) (i := 4 * c + r) (v := (vu8 ((((pre 16 (mb s f) (4 * c + r)).set (4 * c + r) (((pre 16 (mb s f) (4 * c + r)).getD (4 * c + r) 0) ^^^ (tm (s.getD (4 * c) 0) (f.getD ((0 + 4 - r) % 4) 0)))).getD (4 * c + r) 0) ^^^ (tm (s.getD (4 * c + 1) 0) (f.getD ((1 + 4 - r) % 4) 0))))) (cs' := (((pre 16 (mb s f) (4 * c + r)).set (4 * c + r) (((pre 16 (mb s f) (4 * c + r)).getD (4 * c + r) 0) ^^^ (tm (s.getD (4 * c) 0) (f.getD ((0 + 4 - r) % 4) 0)))).set (4 * c + r) ((((pre 16 (mb s f) (4 * c + r)).set (4 * c + r) (((pre 16 (mb s f) (4 * c + r)).getD (4 * c + r) 0) ^^^ (tm (s.getD (4 * c) 0) (f.getD ((0 + 4 - r) % 4) 0)))).getD (4 * c + r) 0) ^^^ (tm (s.getD (4 * c + 1) 0) (f.getD ((1 + 4 - r) % 4) 0)))).map vu8) h_38 rfl rfl Try.sizeOf5 rfl At.h (by decide) Sg.h rfl (lt_len (K := 16) (len_map (len_set (pre_len (by omega)) _ _)) (by omega)) (set_u8 _ _ _) (fun w_39 h_40 => ?_)
      refine WL.nil ?_
      refine ZT.nil ?_
      refine inb_n ?_
      refine thn_n ?_
      refine WP.reg ?_
      refine WL.q (Wn.no rfl) rfl rfl (R.move (v := (vi 1)) rfl) ?_
      refine WL.q (Wn.no rfl) rfl rfl (R.bin (v := (vi 2)) rfl rfl (bi_add (c := 2) (by omega) (by omega))) ?_
      refine WL.q (Wn.no rfl) rfl rfl (R.assign (v := (vi 2)) rfl) ?_
      refine WL.nil ?_
      refine thn_n ?_
      refine WI.round ?_
      refine WP.seq ?_
      refine WP.seq ?_
      refine WP.reg ?_
      refine WL.q (Wn.no rfl) rfl rfl (R.move (v := (vi 2)) rfl) ?_
      refine WL.q (Wn.no rfl) rfl rfl (R.bin (v := (.bool true)) rfl rfl (bi_lss (r := true) (by decide))) ?_
      refine WL.nil ?_
      refine thn_n ?_
      refine WP.condT rfl ?_
      refine WP.skip ?_
      refine thn_n ?_
      refine WP.seq ?_
      refine WP.block ?_
      refine WP.drawZ 26 (SL w.heap.size [.blk b_10 .nw 66 [(16, (((pre 16 (mb s f) (4 * c + r)).set (4 * c + r) (((pre 16 (mb s f) (4 * c + r)).getD (4 * c + r) 0) ^^^ (tm (s.getD (4 * c) 0) (f.getD ((0 + 4 - r) % 4) 0)))).set (4 * c + r) ((((pre 16 (mb s f) (4 * c + r)).set (4 * c + r) (((pre 16 (mb s f) (4 * c + r)).getD (4 * c + r) 0) ^^^ (tm (s.getD (4 * c) 0) (f.getD ((0 + 4 - r) % 4) 0)))).getD (4 * c + r) 0) ^^^ (tm (s.getD (4 * c + 1) 0) (f.getD ((1 + 4 - r) % 4) 0)))).map vu8)], .blk b_7 .nw 66 [(16, (List.replicate 16 (0 : UInt8)).map vu8)], .blk b_4 .nw 100 [(4, f.map vu8)], .blk b_1 .nw 66 [(16, s.map vu8)]]) (.q 0 (.q 1 (.q 2 (.q 3 (.q 4 (.q 5 (.q 6 (.q 7 (.q 8 (.q 9 (.q 10 (.q 11 (.q 12 (.q 13 (.q 14 (.q 15 (.q 16 (.q 17 (.q 18 (.q 19 (.q 20 (.q 21 (.q 22 (.s 23 (.q 24 (.q 25 (.s 26 .nil))))))))))))))))))))))))))) (by kernel_rfl) (by kernel_rfl) rfl (by kernel_rfl) (fun w_41 hc_43 => (SL.cons ((h_40.same hc_43).ok _ (.head _)) (SL.cons ((h_40.same hc_43).ok _ (.tail _ (.head _))) (SL.cons ((h_40.same hc_43).ok _ (.tail _ (.tail _ (.head _)))) (SL.cons ((h_40.same hc_43).ok _ (.tail _ (.tail _ (.tail _ (.head _))))) (SL.nil _ _)))))) (fun w_41 hc_43 => ?_)
      have h_42 := h_40.same hc_43
      refine ZT.q rfl (Wn.no rfl) rfl rfl (fun wq hS => R.move (v := (vi ((c : Nat) : Int))) rfl) ?_
      refine ZT.q rfl (Wn.no rfl) rfl rfl (fun wq hS => R.bin (v := (vi ((4 * c : Nat) : Int))) rfl rfl (bi_mul (c := ((4 * c : Nat) : Int)) (by omega) (by omega))) ?_
      refine ZT.q rfl (Wn.no rfl) rfl rfl (fun wq hS => R.move (v := (vi ((r : Nat) : Int))) rfl) ?_
      refine ZT.q rfl (Wn.no rfl) rfl rfl (fun wq hS => R.bin (v := (vi ((4 * c + r : Nat) : Int))) rfl rfl (bi_add (c := ((4 * c + r : Nat) : Int)) (by omega) (by omega))) ?_
      refine ZT.q rfl (Wn.no rfl) rfl rfl (fun wq hS => R.move (v := (vi ((c : Nat) : Int))) rfl) ?_
      refine ZT.q rfl (Wn.no rfl) rfl rfl (fun wq hS => R.bin (v := (vi ((4 * c : Nat) : Int))) rfl rfl (bi_mul (c := ((4 * c : Nat) : Int)) (by omega) (by omega))) ?_
      refine ZT.q rfl (Wn.no rfl) rfl rfl (fun wq hS => R.move (v := (vi ((r : Nat) : Int))) rfl) ?_
      refine ZT.q rfl (Wn.no rfl) rfl rfl (fun wq hS => R.bin (v := (vi ((4 * c + r : Nat) : Int))) rfl rfl (bi_add (c := ((4 * c + r : Nat) : Int)) (by omega) (by omega))) ?_
      refine ZT.q rfl (Wn.no rfl) rfl rfl (fun wq hS => R.indexA (b := b_10) (off := 0) (off' := (0 + (4 * c + r))) (i := 4 * c + r) rfl rfl rfl (by omega) Try.underlying66 Try.sizeOf5 (by rw [Nat.mul_one])) ?_
      refine ZT.q rfl (Wn.no rfl) rfl rfl (fun wq hS => R.loadE (b := b_10) (off := (0 + (4 * c + r))) (i := 4 * c + r) (v := (vu8 ((((pre 16 (mb s f) (4 * c + r)).set (4 * c + r) (((pre 16 (mb s f) (4 * c + r)).getD (4 * c + r) 0) ^^^ (tm (s.getD (4 * c) 0) (f.getD ((0 + 4 - r) % 4) 0)))).set (4 * c + r) ((((pre 16 (mb s f) (4 * c + r)).set (4 * c + r) (((pre 16 (mb s f) (4 * c + r)).getD (4 * c + r) 0) ^^^ (tm (s.getD (4 * c) 0) (f.getD ((0 + 4 - r) % 4) 0)))).getD (4 * c + r) 0) ^^^ (tm (s.getD (4 * c + 1) 0) (f.getD ((1 + 4 - r) % 4) 0)))).getD (4 * c + r) 0))) rfl Try.isAgg5 (hS _ (.head _)) Sg.h rfl (get_u8 (lt_len (K := 16) (len_set (len_set (pre_len (by omega)) _ _) _ _) (by omega)))) ?_
      refine ZT.q rfl (Wn.no rfl) rfl rfl (fun wq hS => R.move (v := (vi ((c : Nat) : Int))) rfl) ?_
      refine ZT.q rfl (Wn.no rfl) rfl rfl (fun wq hS => R.bin (v := (vi ((4 * c : Nat) : Int))) rfl rfl (bi_mul (c := ((4 * c : Nat) : Int)) (by omega) (by omega))) ?_
      refine ZT.q rfl (Wn.no rfl) rfl rfl (fun wq hS => R.move (v := (vi 2)) rfl) ?_
      refine ZT.q rfl (Wn.no rfl) rfl rfl (fun wq hS => R.bin (v := (vi ((4 * c + 2 : Nat) : Int))) rfl rfl (bi_add (c := ((4 * c + 2 : Nat) : Int)) (by omega) (by omega))) ?_
      refine ZT.q rfl (Wn.no rfl) rfl rfl (fun wq hS => R.indexA (b := b_1) (off := 0) (off' := (0 + (4 * c + 2))) (i := 4 * c + 2) rfl rfl rfl (by omega) Try.underlying66 Try.sizeOf5 (by rw [Nat.mul_one])) ?_
      refine ZT.q rfl (Wn.no rfl) rfl rfl (fun wq hS => R.loadE (b := b_1) (off := (0 + (4 * c + 2))) (i := 4 * c + 2) (v := (vu8 (s.getD (4 * c + 2) 0))) rfl Try.isAgg5 (hS _ (.tail _ (.tail _ (.tail _ (.head _))))) Sg.h rfl (get_u8 (lt_len (K := 16) hs (by omega)))) ?_
      refine ZT.q rfl (Wn.no rfl) rfl rfl (fun wq hS => R.move (v := (vi 2)) rfl) ?_
      refine ZT.q rfl (Wn.no rfl) rfl rfl (fun wq hS => R.move (v := (vi ((r : Nat) : Int))) rfl) ?_
      refine ZT.q rfl (Wn.no rfl) rfl rfl (fun wq hS => R.bin (v := (vi (2 - ((r : Nat) : Int)))) rfl rfl (bi_sub (c := 2 - ((r : Nat) : Int)) (by omega) (by omega))) ?_
      refine ZT.q rfl (Wn.no rfl) rfl rfl (fun wq hS => R.bin (v := (vi ((2 + 4 - r : Nat) : Int))) rfl rfl (bi_add (c := ((2 + 4 - r : Nat) : Int)) (by omega) (by omega))) ?_
      refine ZT.q rfl (Wn.no rfl) rfl rfl (fun wq hS => R.bin (v := (vi (((2 + 4 - r) % 4 : Nat) : Int))) rfl rfl (bi_rem (c := (((2 + 4 - r) % 4 : Nat) : Int)) (Int.natCast_nonneg _) (by omega) (by first | omega | rfl))) ?_
      refine ZT.q rfl (Wn.no rfl) rfl rfl (fun wq hS => R.indexA (b := b_4) (off := 0) (off' := (0 + ((2 + 4 - r) % 4))) (i := (2 + 4 - r) % 4) rfl rfl rfl (by omega) Try.underlying100 Try.sizeOf5 (by rw [Nat.mul_one])) ?_
      refine ZT.q rfl (Wn.no rfl) rfl rfl (fun wq hS => R.loadE (b := b_4) (off := (0 + ((2 + 4 - r) % 4))) (i := (2 + 4 - r) % 4) (v := (vu8 (f.getD ((2 + 4 - r) % 4) 0))) rfl Try.isAgg5 (hS _ (.tail _ (.tail _ (.head _)))) Sg.h rfl (get_u8 (lt_len (K := 4) hf (by omega)))) ?_
      refine ZT.s ?_
      refine OpZ.one rfl (Wn.no rfl) ?_
      refine WL.call (al := [(vu8 (s.getD (4 * c + 2) 0)), (vu8 (f.getD ((2 + 4 - r) % 4) 0))]) Try.call36 rfl rfl (c_TimesR (s.getD (4 * c + 2) 0) (f.getD ((2 + 4 - r) % 4) 0) _ ) rfl ?_
      rintro _ w_45 ⟨rfl, hc_44⟩
      have h_46 := h_42.same hc_44
      refine WL.nil ?_
      refine ⟨(SL.cons (h_46.ok _ (.head _)) (SL.cons (h_46.ok _ (.tail _ (.head _))) (SL.cons (h_46.ok _ (.tail _ (.tail _ (.head _)))) (SL.cons (h_46.ok _ (.tail _ (.tail _ (.tail _ (.head _))))) (SL.nil _ _))))), ?_⟩
      refine ZT.q rfl (Wn.no rfl) rfl rfl (fun wq hS => R.bin (v := (vu8 (((((pre 16 (mb s f) (4 * c + r)).set (4 * c + r) (((pre 16 (mb s f) (4 * c + r)).getD (4 * c + r) 0) ^^^ (tm (s.getD (4 * c) 0) (f.getD ((0 + 4 - r) % 4) 0)))).set (4 * c + r) ((((pre 16 (mb s f) (4 * c + r)).set (4 * c + r) (((pre 16 (mb s f) (4 * c + r)).getD (4 * c + r) 0) ^^^ (tm (s.getD (4 * c) 0) (f.getD ((0 + 4 - r) % 4) 0)))).getD (4 * c + r) 0) ^^^ (tm (s.getD (4 * c + 1) 0) (f.getD ((1 + 4 - r) % 4) 0)))).getD (4 * c + r) 0) ^^^ (tm (s.getD (4 * c + 2) 0) (f.getD ((2 + 4 - r) % 4) 0))))) rfl rfl (b8_xor ((((pre 16 (mb s f) (4 * c + r)).set (4 * c + r) (((pre 16 (mb s f) (4 * c + r)).getD (4 * c + r) 0) ^^^ (tm (s.getD (4 * c) 0) (f.getD ((0 + 4 - r) % 4) 0)))).set (4 * c + r) ((((pre 16 (mb s f) (4 * c + r)).set (4 * c + r) (((pre 16 (mb s f) (4 * c + r)).getD (4 * c + r) 0) ^^^ (tm (s.getD (4 * c) 0) (f.getD ((0 + 4 - r) % 4) 0)))).getD (4 * c + r) 0) ^^^ (tm (s.getD (4 * c + 1) 0) (f.getD ((1 + 4 - r) % 4) 0)))).getD (4 * c + r) 0) (tm (s.getD (4 * c + 2) 0) (f.getD ((2 + 4 - r) % 4) 0)))) ?_
      refine ZT.q rfl (Wn.no rfl) rfl rfl (fun wq hS => R.indexA (b := b_10) (off := 0) (off' := (0 + (4 * c + r))) (i := 4 * c + r) rfl rfl rfl (by omega) Try.underlying66 Try.sizeOf5 (by rw [Nat.mul_one])) ?_
      refine ZT.s ?_
      refine OpZ.last rfl (Wn.no rfl) ?_
      refine WL.storeE (b := b_10) (off := (0 + (4 * c + r))) (i := 4 * c + r) (v := (vu8 (((((pre 16 (mb s f) (4 * c + r)).set (4 * c + r) (((pre 16 (mb s f) (4 * c + r)).getD (4 * c + r) 0) ^^^ (tm (s.getD (4 * c) 0) (f.getD ((0 + 4 - r) % 4) 0)))).set (4 * c + r) ((((pre 16 (mb s f) (4 * c + r)).set (4 * c + r) (((pre 16 (mb s f) (4 * c + r)).getD (4 * c + r) 0) ^^^ (tm (s.getD (4 * c) 0) (f.getD ((0 + 4 - r) % 4) 0)))).getD (4 * c + r) 0) ^^^ (tm (s.getD (4 * c + 1) 0) (f.getD ((1 + 4 - r) % 4) 0)))).getD (4 * c + r) 0) ^^^ (tm (s.getD (4 * c + 2) 0) (f.getD ((2 + 4 - r) % 4) 0))))) (cs' := ((((pre 16 (mb s f) (4 * c + r)).set (4 * c + r) (((pre 16 (mb s f) (4 * c + r)).getD (4 * c + r) 0) ^^^ (tm (s.getD (4 * c) 0) (f.getD ((0 + 4 - r) % 4) 0)))).set (4 * c + r) ((((pre 16 (mb s f) (4 * c + r)).set (4 * c + r) (((pre 16 (mb s f) (4 * c + r)).getD (4 * c + r) 0) ^^^ (tm (s.getD (4 * c) 0) (f.getD ((0 + 4 - r) % 4) 0)))).getD (4 * c + r) 0) ^^^ (tm (s.getD (4 * c + 1) 0) (f.getD ((1 + 4 - r) % 4) 0)))).set (4 * c + r) (((((pre 16 (mb s f) (4 * c + r)).set (4 * c + r) (((pre 16 (mb s f) (4 * c + r)).getD (4 * c + r) 0) ^^^ (tm (s.getD (4 * c) 0) (f.getD ((0 + 4 - r) % 4) 0)))).set (4 * c + r) ((((pre 16 (mb s f) (4 * c + r)).set (4 * c + r) (((pre 16 (mb s f) (4 * c + r)).getD (4 * c + r) 0) ^^^ (tm (s.getD (4 * c) 0) (f.getD ((0 + 4 - r) % 4) 0)))).getD (4 * c + r) 0) ^^^ (tm (s.getD (4 * c + 1) 0) (f.getD ((1 + 4 - r) % 4) 0)))).getD (4 * c + r) 0) ^^^ (tm (s.getD (4 * c + 2) 0) (f.getD ((2 + 4 - r) % 4) 0)))).map vu8) h_46 rfl rfl Try.sizeOf5 rfl At.h (by decide) Sg.h rfl (lt_len (K := 16) (len_map (len_set (len_set (pre_len (by omega)) _ _) _ _)) (by omega)) (set_u8 _ _ _) (fun w_47 h_48 => ?_)
      refine WL.nil ?_
      refine ZT.nil ?_
      refine inb_n ?_
      refine thn_n ?_
      refine WP.reg ?_
      refine WL.q (Wn.no rfl) rfl rfl (R.move (v := (vi 2)) rfl) ?_
      refine WL.q (Wn.no rfl) rfl rfl (R.bin (v := (vi 3)) rfl rfl (bi_add (c := 3) (by omega) (by omega))) ?_
      refine WL.q (Wn.no rfl) rfl rfl (R.assign (v := (vi 3)) rfl) ?_
      refine WL.nil ?_
      refine thn_n ?_
      refine WI.round ?_
      refine WP.seq ?_
      refine WP.seq ?_
      refine WP.reg ?_
      refine WL.q (Wn.no rfl) rfl rfl (R.move (v := (vi 3)) rfl) ?_
      refine WL.q (Wn.no rfl) rfl rfl (R.bin (v := (.bool true)) rfl rfl (bi_lss (r := true) (by decide))) ?_
      refine WL.nil ?_
      refine thn_n ?_
      refine WP.condT rfl ?_
      refine WP.skip ?_
      refine thn_n ?_
      refine WP.seq ?_
      refine WP.block ?_
      refine WP.drawZ 26 (SL w.heap.size [.blk b_10 .nw 66 [(16, ((((pre 16 (mb s f) (4 * c + r)).set (4 * c + r) (((pre 16 (mb s f) (4 * c + r)).getD (4 * c + r) 0) ^^^ (tm (s.getD (4 * c) 0) (f.getD ((0 + 4 - r) % 4) 0)))).set (4 * c + r) ((((pre 16 (mb s f) (4 * c + r)).set (4 * c + r) (((pre 16 (mb s f) (4 * c + r)).getD (4 * c + r) 0) ^^^ (tm (s.getD (4 * c) 0) (f.getD ((0 + 4 - r) % 4) 0)))).getD (4 * c + r) 0) ^^^ (tm (s.getD (4 * c + 1) 0) (f.getD ((1 + 4 - r) % 4) 0)))).set (4 * c + r) (((((pre 16 (mb s f) (4 * c + r)).set (4 * c + r) (((pre 16 (mb s f) (4 * c + r)).getD (4 * c + r) 0) ^^^ (tm (s.getD (4 * c) 0) (f.getD ((0 + 4 - r) % 4) 0)))).set (4 * c + r) ((((pre 16 (mb s f) (4 * c + r)).set (4 * c + r) (((pre 16 (mb s f) (4 * c + r)).getD (4 * c + r) 0) ^^^ (tm (s.getD (4 * c) 0) (f.getD ((0 + 4 - r) % 4) 0)))).getD (4 * c + r) 0) ^^^ (tm (s.getD (4 * c + 1) 0) (f.getD ((1 + 4 - r) % 4) 0)))).getD (4 * c + r) 0) ^^^ (tm (s.getD (4 * c + 2) 0) (f.getD ((2 + 4 - r) % 4) 0)))).map vu8)], .blk b_7 .nw 66 [(16, (List.replicate 16 (0 : UInt8)).map vu8)], .blk b_4 .nw 100 [(4, f.map vu8)], .blk b_1 .nw 66 [(16, s.map vu8)]]) (.q 0 (.q 1 (.q 2 (.q 3 (.q 4 (.q 5 (.q 6 (.q 7 (.q 8 (.q 9 (.q 10 (.q 11 (.q 12 (.q 13 (.q 14 (.q 15 (.q 16 (.q 17 (.q 18 (.q 19 (.q 20 (.q 21 (.q 22 (.s 23 (.q 24 (.q 25 (.s 26 .nil))))))))))))))))))))))))))) (by kernel_rfl) (by kernel_rfl) rfl (by kernel_rfl) (fun w_49 hc_51 => (SL.cons ((h_48.same hc_51).ok _ (.head _)) (SL.cons ((h_48.same hc_51).ok _ (.tail _ (.head _))) (SL.cons ((h_48.same hc_51).ok _ (.tail _ (.tail _ (.head _)))) (SL.cons ((h_48.same hc_51).ok _ (.tail _ (.tail _ (.tail _ (.head _))))) (SL.nil _ _)))))) (fun w_49 hc_51 => ?_)
      have h_50 := h_48.same hc_51
      refine ZT.q rfl (Wn.no rfl) rfl rfl (fun wq hS => R.move (v := (vi ((c : Nat) : Int))) rfl) ?_
      refine ZT.q rfl (Wn.no rfl) rfl rfl (fun wq hS => R.bin (v := (vi ((4 * c : Nat) : Int))) rfl rfl (bi_mul (c := ((4 * c : Nat) : Int)) (by omega) (by omega))) ?_
      refine ZT.q rfl (Wn.no rfl) rfl rfl (fun wq hS => R.move (v := (vi ((r : Nat) : Int))) rfl) ?_
      refine ZT.q rfl (Wn.no rfl) rfl rfl (fun wq hS => R.bin (v := (vi ((4 * c + r : Nat) : Int))) rfl rfl (bi_add (c := ((4 * c + r : Nat) : Int)) (by omega) (by omega))) ?_
      refine ZT.q rfl (Wn.no rfl) rfl rfl (fun wq hS => R.move (v := (vi ((c : Nat) : Int))) rfl) ?_
      refine ZT.q rfl (Wn.no rfl) rfl rfl (fun wq hS => R.bin (v := (vi ((4 * c : Nat) : Int))) rfl rfl (bi_mul (c := ((4 * c : Nat) : Int)) (by omega) (by omega))) ?_
      refine ZT.q rfl (Wn.no rfl) rfl rfl (fun wq hS => R.move (v := (vi ((r : Nat) : Int))) rfl) ?_
      refine ZT.q rfl (Wn.no rfl) rfl rfl (fun wq hS => R.bin (v := (vi ((4 * c + r : Nat) : Int))) rfl rfl (bi_add (c := ((4 * c + r : Nat) : Int)) (by omega) (by omega))) ?_
      refine ZT.q rfl (Wn.no rfl) rfl rfl (fun wq hS => R.indexA (b := b_10) (off := 0) (off' := (0 + (4 * c + r))) (i := 4 * c + r) rfl rfl rfl (by omega) Try.underlying66 Try.sizeOf5 (by rw [Nat.mul_one])) ?_
      refine ZT.q rfl (Wn.no rfl) rfl rfl (fun wq hS => R.loadE (b := b_10) (off := (0 + (4 * c + r))) (i := 4 * c + r) (v := (vu8 (((((pre 16 (mb s f) (4 * c + r)).set (4 * c + r) (((pre 16 (mb s f) (4 * c + r)).getD (4 * c + r) 0) ^^^ (tm (s.getD (4 * c) 0) (f.getD ((0 + 4 - r) % 4) 0)))).set (4 * c + r) ((((pre 16 (mb s f) (4 * c + r)).set (4 * c + r) (((pre 16 (mb s f) (4 * c + r)).getD (4 * c + r) 0) ^^^ (tm (s.getD (4 * c) 0) (f.getD ((0 + 4 - r) % 4) 0)))).getD (4 * c + r) 0) ^^^ (tm (s.getD (4 * c + 1) 0) (f.getD ((1 + 4 - r) % 4) 0)))).set (4 * c + r) (((((pre 16 (mb s f) (4 * c + r)).set (4 * c + r) (((pre 16 (mb s f) (4 * c + r)).getD (4 * c + r) 0) ^^^ (tm (s.getD (4 * c) 0) (f.getD ((0 + 4 - r) % 4) 0)))).set (4 * c + r) ((((pre 16 (mb s f) (4 * c + r)).set (4 * c + r) (((pre 16 (mb s f) (4 * c + r)).getD (4 * c + r) 0) ^^^ (tm (s.getD (4 * c) 0) (f.getD ((0 + 4 - r) % 4) 0)))).getD (4 * c + r) 0) ^^^ (tm (s.getD (4 * c + 1) 0) (f.getD ((1 + 4 - r) % 4) 0)))).getD (4 * c + r) 0) ^^^ (tm (s.getD (4 * c + 2) 0) (f.getD ((2 + 4 - r) % 4) 0)))).getD (4 * c + r) 0))) rfl Try.isAgg5 (hS _ (.head _)) Sg.h rfl (get_u8 (lt_len (K := 16) (len_set (len_set (len_set (pre_len (by omega)) _ _) _ _) _ _) (by omega)))) ?_
      refine ZT.q rfl (Wn.no rfl) rfl rfl (fun wq hS => R.move (v := (vi ((c : Nat) : Int))) rfl) ?_
      refine ZT.q rfl (Wn.no rfl) rfl rfl (fun wq hS => R.bin (v := (vi ((4 * c : Nat) : Int))) rfl rfl (bi_mul (c := ((4 * c : Nat) : Int)) (by omega) (by omega))) ?_
      refine ZT.q rfl (Wn.no rfl) rfl rfl (fun wq hS => R.move (v := (vi 3)) rfl) ?_
      refine ZT.q rfl (Wn.no rfl) rfl rfl (fun wq hS => R.bin (v := (vi ((4 * c + 3 : Nat) : Int))) rfl rfl (bi_add (c := ((4 * c + 3 : Nat) : Int)) (by omega) (by omega))) ?_
      refine ZT.q rfl (Wn.no rfl) rfl rfl (fun wq hS => R.indexA (b := b_1) (off := 0) (off' := (0 + (4 * c + 3))) (i := 4 * c + 3) rfl rfl rfl (by omega) Try.underlying66 Try.sizeOf5 (by rw [Nat.mul_one])) ?_
      refine ZT.q rfl (Wn.no rfl) rfl rfl (fun wq hS => R.loadE (b := b_1) (off := (0 + (4 * c + 3))) (i := 4 * c + 3) (v := (vu8 (s.getD (4 * c + 3) 0))) rfl Try.isAgg5 (hS _ (.tail _ (.tail _ (.tail _ (.head _))))) Sg.h rfl (get_u8 (lt_len (K := 16) hs (by omega)))) ?_
      refine ZT.q rfl (Wn.no rfl) rfl rfl (fun wq hS => R.move (v := (vi 3)) rfl) ?_
      refine ZT.q rfl (Wn.no rfl) rfl rfl (fun wq hS => R.move (v := (vi ((r : Nat) : Int))) rfl) ?_
      refine ZT.q rfl (Wn.no rfl) rfl rfl (fun wq hS => R.bin (v := (vi (3 - ((r : Nat) : Int)))) rfl rfl (bi_sub (c := 3 - ((r : Nat) : Int)) (by omega) (by omega))) ?_
      refine ZT.q rfl (Wn.no rfl) rfl rfl (fun wq hS => R.bin (v := (vi ((3 + 4 - r : Nat) : Int))) rfl rfl (bi_add (c := ((3 + 4 - r : Nat) : Int)) (by omega) (by omega))) ?_
      refine ZT.q rfl (Wn.no rfl) rfl rfl (fun wq hS => R.bin (v := (vi (((3 + 4 - r) % 4 : Nat) : Int))) rfl rfl (bi_rem (c := (((3 + 4 - r) % 4 : Nat) : Int)) (Int.natCast_nonneg _) (by omega) (by first | omega | rfl))) ?_
      refine ZT.q rfl (Wn.no rfl) rfl rfl (fun wq hS => R.indexA (b := b_4) (off := 0) (off' := (0 + ((3 + 4 - r) % 4))) (i := (3 + 4 - r) % 4) rfl rfl rfl (by omega) Try.underlying100 Try.sizeOf5 (by rw [Nat.mul_one])) ?_
      refine ZT.q rfl (Wn.no rfl) rfl rfl (fun wq hS => R.loadE (b := b_4) (off := (0 + ((3 + 4 - r) % 4))) (i := (3 + 4 - r) % 4) (v := (vu8 (f.getD ((3 + 4 - r) % 4) 0))) rfl Try.isAgg5 (hS _ (.tail _ (.tail _ (.head _)))) Sg.h rfl (get_u8 (lt_len (K := 4) hf (by omega)))) ?_
      refine ZT.s ?_
      refine OpZ.one rfl (Wn.no rfl) ?_
      refine WL.call (al := [(vu8 (s.getD (4 * c + 3) 0)), (vu8 (f.getD ((3 + 4 - r) % 4) 0))]) Try.call36 rfl rfl (c_TimesR (s.getD (4 * c + 3) 0) (f.getD ((3 + 4 - r) % 4) 0) _ ) rfl ?_
      rintro _ w_53 ⟨rfl, hc_52⟩
      have h_54 := h_50.same hc_52
      refine WL.nil ?_
      refine ⟨(SL.cons (h_54.ok _ (.head _)) (SL.cons (h_54.ok _ (.tail _ (.head _))) (SL.cons (h_54.ok _ (.tail _ (.tail _ (.head _)))) (SL.cons (h_54.ok _ (.tail _ (.tail _ (.tail _ (.head _))))) (SL.nil _ _))))), ?_⟩
      refine ZT.q rfl (Wn.no rfl) rfl rfl (fun wq hS => R.bin (v := (vu8 ((((((pre 16 (mb s f) (4 * c + r)).set (4 * c + r) (((pre 16 (mb s f) (4 * c + r)).getD (4 * c + r) 0) ^^^ (tm (s.getD (4 * c) 0) (f.getD ((0 + 4 - r) % 4) 0)))).set (4 * c + r) ((((pre 16 (mb s f) (4 * c + r)).set (4 * c + r) (((pre 16 (mb s f) (4 * c + r)).getD (4 * c + r) 0) ^^^ (tm (s.getD (4 * c) 0) (f.getD ((0 + 4 - r) % 4) 0)))).getD (4 * c + r) 0) ^^^ (tm (s.getD (4 * c + 1) 0) (f.getD ((1 + 4 - r) % 4) 0)))).set (4 * c + r) (((((pre 16 (mb s f) (4 * c + r)).set (4 * c + r) (((pre 16 (mb s f) (4 * c + r)).getD (4 * c + r) 0) ^^^ (tm (s.getD (4 * c) 0) (f.getD ((0 + 4 - r) % 4) 0)))).set (4 * c + r) ((((pre 16 (mb s f) (4 * c + r)).set (4 * c + r) (((pre 16 (mb s f) (4 * c + r)).getD (4 * c + r) 0) ^^^ (tm (s.getD (4 * c) 0) (f.getD ((0 + 4 - r) % 4) 0)))).getD (4 * c + r) 0) ^^^ (tm (s.getD (4 * c + 1) 0) (f.getD ((1 + 4 - r) % 4) 0)))).getD (4 * c + r) 0) ^^^ (tm (s.getD (4 * c + 2) 0) (f.getD ((2 + 4 - r) % 4) 0)))).getD (4 * c + r) 0) ^^^ (tm (s.getD (4 * c + 3) 0) (f.getD ((3 + 4 - r) % 4) 0))))) rfl rfl (b8_xor (((((pre 16 (mb s f) (4 * c + r)).set (4 * c + r) (((pre 16 (mb s f) (4 * c + r)).getD (4 * c + r) 0) ^^^ (tm (s.getD (4 * c) 0) (f.getD ((0 + 4 - r) % 4) 0)))).set (4 * c + r) ((((pre 16 (mb s f) (4 * c + r)).set (4 * c + r) (((pre 16 (mb s f) (4 * c + r)).getD (4 * c + r) 0) ^^^ (tm (s.getD (4 * c) 0) (f.getD ((0 + 4 - r) % 4) 0)))).getD (4 * c + r) 0) ^^^ (tm (s.getD (4 * c + 1) 0) (f.getD ((1 + 4 - r) % 4) 0)))).set (4 * c + r) (((((pre 16 (mb s f) (4 * c + r)).set (4 * c + r) (((pre 16 (mb s f) (4 * c + r)).getD (4 * c + r) 0) ^^^ (tm (s.getD (4 * c) 0) (f.getD ((0 + 4 - r) % 4) 0)))).set (4 * c + r) ((((pre 16 (mb s f) (4 * c + r)).set (4 * c + r) (((pre 16 (mb s f) (4 * c + r)).getD (4 * c + r) 0) ^^^ (tm (s.getD (4 * c) 0) (f.getD ((0 + 4 - r) % 4) 0)))).getD (4 * c + r) 0) ^^^ (tm (s.getD (4 * c + 1) 0) (f.getD ((1 + 4 - r) % 4) 0)))).getD (4 * c + r) 0) ^^^ (tm (s.getD (4 * c + 2) 0) (f.getD ((2 + 4 - r) % 4) 0)))).getD (4 * c + r) 0) (tm (s.getD (4 * c + 3) 0) (f.getD ((3 + 4 - r) % 4) 0)))) ?_
      refine ZT.q rfl (Wn.no rfl) rfl rfl (fun wq hS => R.indexA (b := b_10) (off := 0) (off' := (0 + (4 * c + r))) (i := 4 * c + r) rfl rfl rfl (by omega) Try.underlying66 Try.sizeOf5 (by rw [Nat.mul_one])) ?_
      refine ZT.s ?_
      refine OpZ.last rfl (Wn.no rfl) ?_
      refine WL.storeE (b := b_10) (off := (0 + (4 * c + r))) (i := 4 * c + r) (v := (vu8 ((((((pre 16 (mb s f) (4 * c + r)).set (4 * c + r) (((pre 16 (mb s f) (4 * c + r)).getD (4 * c + r) 0) ^^^ (tm (s.getD (4 * c) 0) (f.getD ((0 + 4 - r) % 4) 0)))).set (4 * c + r) ((((pre 16 (mb s f) (4 * c + r)).set (4 * c + r) (((pre 16 (mb s f) (4 * c + r)).getD (4 * c + r) 0) ^^^ (tm (s.getD (4 * c) 0) (f.getD ((0 + 4 - r) % 4) 0)))).getD (4 * c + r) 0) ^^^ (tm (s.getD (4 * c + 1) 0) (f.getD ((1 + 4 - r) % 4) 0)))).set (4 * c + r) (((((pre 16 (mb s f) (4 * c + r)).set (4 * c + r) (((pre 16 (mb s f) (4 * c + r)).getD (4 * c + r) 0) ^^^ (tm (s.getD (4 * c) 0) (f.getD ((0 + 4 - r) % 4) 0)))).set (4 * c + r) ((((pre 16 (mb s f) (4 * c + r)).set (4 * c + r) (((pre 16 (mb s f) (4 * c + r)).getD (4 * c + r) 0) ^^^ (tm (s.getD (4 * c) 0) (f.getD ((0 + 4 - r) % 4) 0)))).getD (4 * c + r) 0) ^^^ (tm (s.getD (4 * c + 1) 0) (f.getD ((1 + 4 - r) % 4) 0)))).getD (4 * c + r) 0) ^^^ (tm (s.getD (4 * c + 2) 0) (f.getD ((2 + 4 - r) % 4) 0)))).getD (4 * c + r) 0) ^^^ (tm (s.getD (4 * c + 3) 0) (f.getD ((3 + 4 - r) % 4) 0))))) (cs' := (((((pre 16 (mb s f) (4 * c + r)).set (4 * c + r) (((pre 16 (mb s f) (4 * c + r)).getD (4 * c + r) 0) ^^^ (tm (s.getD (4 * c) 0) (f.getD ((0 + 4 - r) % 4) 0)))).set (4 * c + r) ((((pre 16 (mb s f) (4 * c + r)).set (4 * c + r) (((pre 16 (mb s f) (4 * c + r)).getD (4 * c + r) 0) ^^^ (tm (s.getD (4 * c) 0) (f.getD ((0 + 4 - r) % 4) 0)))).getD (4 * c + r) 0) ^^^ (tm (s.getD (4 * c + 1) 0) (f.getD ((1 + 4 - r) % 4) 0)))).set (4 * c + r) (((((pre 16 (mb s f) (4 * c + r)).set (4 * c + r) (((pre 16 (mb s f) (4 * c + r)).getD (4 * c + r) 0) ^^^ (tm (s.getD (4 * c) 0) (f.getD ((0 + 4 - r) % 4) 0)))).set (4 * c + r) ((((pre 16 (mb s f) (4 * c + r)).set (4 * c + r) (((pre 16 (mb s f) (4 * c + r)).getD (4 * c + r) 0) ^^^ (tm (s.getD (4 * c) 0) (f.getD ((0 + 4 - r) % 4) 0)))).getD (4 * c + r) 0) ^^^ (tm (s.getD (4 * c + 1) 0) (f.getD ((1 + 4 - r) % 4) 0)))).getD (4 * c + r) 0) ^^^ (tm (s.getD (4 * c + 2) 0) (f.getD ((2 + 4 - r) % 4) 0)))).set (4 * c + r) ((((((pre 16 (mb s f) (4 * c + r)).set (4 * c + r) (((pre 16 (mb s f) (4 * c + r)).getD (4 * c + r) 0) ^^^ (tm (s.getD (4 * c) 0) (f.getD ((0 + 4 - r) % 4) 0)))).set (4 * c + r) ((((pre 16 (mb s f) (4 * c + r)).set (4 * c + r) (((pre 16 (mb s f) (4 * c + r)).getD (4 * c + r) 0) ^^^ (tm (s.getD (4 * c) 0) (f.getD ((0 + 4 - r) % 4) 0)))).getD (4 * c + r) 0) ^^^ (tm (s.getD (4 * c + 1) 0) (f.getD ((1 + 4 - r) % 4) 0)))).set (4 * c + r) (((((pre 16 (mb s f) (4 * c + r)).set (4 * c + r) (((pre 16 (mb s f) (4 * c + r)).getD (4 * c + r) 0) ^^^ (tm (s.getD (4 * c) 0) (f.getD ((0 + 4 - r) % 4) 0)))).set (4 * c + r) ((((pre 16 (mb s f) (4 * c + r)).set (4 * c + r) (((pre 16 (mb s f) (4 * c + r)).getD (4 * c + r) 0) ^^^ (tm (s.getD (4 * c) 0) (f.getD ((0 + 4 - r) % 4) 0)))).getD (4 * c + r) 0) ^^^ (tm (s.getD (4 * c + 1) 0) (f.getD ((1 + 4 - r) % 4) 0)))).getD (4 * c + r) 0) ^^^ (tm (s.getD (4 * c + 2) 0) (f.getD ((2 + 4 - r) % 4) 0)))).getD (4 * c + r) 0) ^^^ (tm (s.getD (4 * c + 3) 0) (f.getD ((3 + 4 - r) % 4) 0)))).map vu8) h_54 rfl rfl Try.sizeOf5 rfl At.h (by decide) Sg.h rfl (lt_len (K := 16) (len_map (len_set (len_set (len_set (pre_len (by omega)) _ _) _ _) _ _)) (by omega)) (set_u8 _ _ _) (fun w_55 h_56 => ?_)
      refine WL.nil ?_
      refine ZT.nil ?_
      refine inb_n ?_
      refine thn_n ?_
      refine WP.reg ?_
      refine WL.q (Wn.no rfl) rfl rfl (R.move (v := (vi 3)) rfl) ?_
      refine WL.q (Wn.no rfl) rfl rfl (R.bin (v := (vi 4)) rfl rfl (bi_add (c := 4) (by omega) (by omega))) ?_
      refine WL.q (Wn.no rfl) rfl rfl (R.assign (v := (vi 4)) rfl) ?_
      refine WL.nil ?_
      refine thn_n ?_
      refine WI.round ?_
      refine WP.seq ?_
      refine WP.seq ?_
      refine WP.reg ?_
      refine WL.q (Wn.no rfl) rfl rfl (R.move (v := (vi 4)) rfl) ?_
      refine WL.q (Wn.no rfl) rfl rfl (R.bin (v := (.bool false)) rfl rfl (bi_lss (r := false) (by decide))) ?_
      refine WL.nil ?_
      refine thn_n ?_
      refine WP.condF rfl ?_
      refine WP.exit ?_
      refine thn_x ?_
      refine thn_x ?_
      refine inb_hit ?_
      refine inb_n ?_
      refine thn_n ?_
      refine WP.reg ?_
      refine WL.q (Wn.no rfl) rfl rfl (R.move (v := (vi ((r : Nat) : Int))) rfl) ?_
      refine WL.q (Wn.no rfl) rfl rfl (R.bin (v := (vi ((r + 1 : Nat) : Int))) rfl rfl (bi_add (c := ((r + 1 : Nat) : Int)) (by omega) (by omega))) ?_
      refine WL.q (Wn.no rfl) rfl rfl (R.assign (v := (vi ((r + 1 : Nat) : Int))) rfl) ?_
      refine WL.nil ?_
      refine thn_n ?_
      rw [mix_step (s := s) (f := f) (i := 4 * c + r) (a := tm (s.getD (4 * c) 0) (f.getD ((0 + 4 - r) % 4) 0)) (by omega) (mb1_cr (k := 0) (by omega)).symm (mb1_cr (k := 1) (by omega)).symm (mb1_cr (k := 2) (by omega)).symm (mb1_cr (k := 3) (by omega)).symm] at h_56
      exact ⟨r + 1, _, (by omega), (Ag.upd rfl (Ag.upd rfl (Ag.upd rfl (Ag.upd rfl (Ag.upd rfl (Ag.upd rfl (Ag.upd rfl (Ag.upd rfl (Ag.upd rfl (Ag.upd rfl (Ag.upd rfl (Ag.upd rfl (Ag.upd rfl (Ag.upd rfl (Ag.upd rfl (Ag.upd rfl (Ag.upd rfl (Ag.upd rfl (Ag.upd rfl (Ag.upd rfl (Ag.upd rfl (Ag.upd rfl (Ag.upd rfl (Ag.upd rfl (Ag.upd rfl (Ag.upd rfl (Ag.upd rfl (Ag.upd rfl (Ag.upd rfl (Ag.upd rfl (Ag.upd rfl (Ag.upd rfl (Ag.upd rfl (Ag.upd rfl (Ag.upd rfl (Ag.upd rfl (Ag.upd rfl (Ag.upd rfl (Ag.upd rfl (Ag.upd rfl (Ag.upd rfl (Ag.upd rfl (Ag.upd rfl (Ag.upd rfl (Ag.upd rfl (Ag.upd rfl (Ag.upd rfl (Ag.upd rfl (Ag.upd rfl (Ag.upd rfl (Ag.upd rfl (Ag.upd rfl (Ag.upd rfl (Ag.upd rfl (Ag.upd rfl (Ag.upd rfl (Ag.upd rfl (Ag.upd rfl (Ag.upd rfl (Ag.upd rfl (Ag.upd rfl (Ag.upd rfl (Ag.upd rfl (Ag.upd rfl (Ag.upd rfl (Ag.upd rfl (Ag.upd rfl (Ag.upd rfl (Ag.upd rfl (Ag.upd rfl (Ag.upd rfl (Ag.upd rfl (Ag.upd rfl (Ag.upd rfl (Ag.upd rfl (Ag.upd rfl (Ag.upd rfl (Ag.upd rfl (Ag.upd rfl (Ag.upd rfl (Ag.upd rfl (Ag.upd rfl (Ag.upd rfl (Ag.upd rfl (Ag.upd rfl (Ag.upd rfl (Ag.upd rfl (Ag.upd rfl (Ag.upd rfl (Ag.upd rfl (Ag.upd rfl (Ag.upd rfl (Ag.upd rfl (Ag.upd rfl (Ag.upd rfl (Ag.upd rfl (Ag.upd rfl (Ag.upd rfl (Ag.upd rfl (Ag.upd rfl (Ag.upd rfl (Ag.upd rfl (Ag.upd rfl (Ag.upd rfl (Ag.upd rfl (Ag.upd rfl (Ag.upd rfl (Ag.upd rfl (Ag.upd rfl (Ag.upd rfl (Ag.upd rfl (Ag.upd rfl (Ag.upd rfl (Ag.upd rfl (Ag.upd rfl (Ag.upd rfl (Ag.upd rfl (Ag.upd rfl (Ag.upd rfl (Ag.upd rfl (Ag.upd rfl (Ag.upd rfl (Ag.upd rfl (Ag.upd rfl (Ag.upd rfl (Ag.upd rfl (Ag.upd rfl (Ag.upd rfl (Ag.upd rfl (Ag.upd rfl (Ag.upd rfl (Ag.upd rfl (Ag.updL rfl (Ag.mix _ _ _)))))))))))))))))))))))))))))))))))))))))))))))))))))))))))))))))))))))))))))))))))))))))))))))))))))))))))))))))))))))))))))))))))))), ⟨rfl, trivial⟩, h_56, (by omega), rfl⟩
    · have p_57 := of_decide_eq_false c_23
      refine WP.exit ?_
      refine thn_x ?_
      refine thn_x ?_
      refine inb_hit ?_
      refine inb_n ?_
      refine thn_n ?_
      refine WP.reg ?_
      refine WL.q (Wn.no rfl) rfl rfl (R.move (v := (vi ((c : Nat) : Int))) rfl) ?_
      refine WL.q (Wn.no rfl) rfl rfl (R.bin (v := (vi ((c + 1 : Nat) : Int))) rfl rfl (bi_add (c := ((c + 1 : Nat) : Int)) (by omega) (by omega))) ?_
      refine WL.q (Wn.no rfl) rfl rfl (R.assign (v := (vi ((c + 1 : Nat) : Int))) rfl) ?_
      refine WL.nil ?_
      refine thn_n ?_
      have hr4 : r = 4 := by omega
      subst hr4
      rw [show 4 * c + 4 = 4 * (c + 1) by omega] at h_20
      exact ⟨c + 1, _, (by omega), (Ag.upd rfl (Ag.upd rfl (Ag.upd rfl (Ag.upd rfl (Ag.upd rfl (Ag.updL rfl (Ag.trans (Ag.sub rfl (Ag.mix _ _ _)) (Ag.upd rfl (Ag.upd rfl (Ag.upd rfl (Ag.updL rfl (Ag.mix _ _ _)))))))))))), ⟨rfl, trivial⟩, h_20, (by omega), rfl⟩
  · have p_58 := of_decide_eq_false c_17
    refine WP.exit ?_
    refine thn_x ?_
    refine thn_x ?_
    refine inb_hit ?_
    refine thn_n ?_
    refine WP.seq ?_
    refine WP.reg ?_
    refine WL.q (Wn.no rfl) rfl rfl (R.loadA (b := b_10) (off := 0) [] [(16, (pre 16 (mb s f) (4 * c)).map vu8)] [] (cs := (pre 16 (mb s f) (4 * c)).map vu8) rfl Try.isAgg66 Try.sizeOf66 (h_14.ok _ (.head _)) rfl rfl rfl rfl) ?_
    refine WL.storeA (b := b_7) (off := 0) [] [(16, (List.replicate 16 (0 : UInt8)).map vu8)] [(16, (pre 16 (mb s f) (4 * c)).map vu8)] [] (ys := (pre 16 (mb s f) (4 * c)).map vu8) h_14 rfl rfl Try.sizeOf66 (At.t At.h) (by decide) rfl rfl rfl rfl rfl rfl (SsOk.cons (SOk.u8 (pre_len (by omega))) SsOk.nil) (fun w_59 h_60 => ?_)
    refine WL.nil ?_
    refine thn_n ?_
    refine WP.ret ?_
    refine ret_of Try.results85 (RV.cell rfl (h_60.loadA (cs := (pre 16 (mb s f) (4 * c)).map vu8) Try.isAgg66 Try.sizeOf66 (.tail _ (.head _)) rfl rfl) RV.nil) ?_
    have hc4 : c = 4 := by omega
    subst hc4
    exact ⟨by rw [show 4 * 4 = 16 from rfl, pre_all]; rfl, h_60.chgS⟩

theorem c_TableR  (w : World) :
    Cs Try.prog 57 [].toArray w (fun v w1 => v = (.agg ⟨(tabL sub).map vu8⟩) ∧ Chg w w1 []) := by
  refine Cs.of (n := 13) (args := []) Try.func57 rfl rfl rfl ?_
  have h_0 := HP.init w
  refine WP.seq ?_
  refine WP.reg ?_
  refine WL.alloc (segs := [(256, (List.replicate 256 (0 : UInt8)).map vu8)]) h_0 (zv Try.typeInfo72 rfl) rfl (SsOk.cons (SOk.u8 (List.length_replicate ..)) SsOk.nil) rfl (fun b_1 w_2 h_3 => ?_)
  refine WL.nil ?_
  refine thn_n ?_
  refine WP.seq ?_
  refine WP.reg ?_
  refine WL.alloc (segs := [(256, (List.replicate 256 (0 : UInt8)).map vu8)]) h_3 (zv Try.typeInfo72 rfl) rfl (SsOk.cons (SOk.u8 (List.length_replicate ..)) SsOk.nil) rfl (fun b_4 w_5 h_6 => ?_)
  refine WL.nil ?_
  refine thn_n ?_
  refine WP.seq ?_
  refine WP.seq ?_
  refine WP.reg ?_
  refine WL.q (Wn.no rfl) rfl rfl (R.assign (v := (vi 0)) rfl) ?_
  refine WL.nil ?_
  refine thn_n ?_
  refine WP.block ?_
  refine WP.loopG (G := Nat) [2, 3, 4, 5, 6, 7, 8, 9, 10, 11] (fun k => [(2, (vi ((k : Nat) : Int)))]) (fun k m w1 => HP w w1 [.blk b_4 .nw 72 [(256, (pre 256 (fun i => sub (UInt8.ofNat i)) k).map vu8)], .blk b_1 .nw 72 [(256, (List.replicate 256 (0 : UInt8)).map vu8)]] ∧ (k ≤ 256) ∧ m = 256 - k) ⟨0, _, ⟨rfl, trivial⟩, (by rw [pre_0]; exact h_6), (by omega), rfl⟩ ?_
  rintro k m_9 J_10 w_7 ⟨h_8, hk, rfl⟩
  refine WP.seq ?_
  refine WP.seq ?_
  refine WP.reg ?_
  refine WL.q (Wn.no rfl) rfl rfl (R.move (v := (vi ((k : Nat) : Int))) rfl) ?_
  refine WL.q (Wn.no rfl) rfl rfl (R.bin (v := (.bool (decide ((((k : Nat) : Int) : Int) < 256)))) rfl rfl (bi_lss (r := decide ((((k : Nat) : Int) : Int) < 256)) rfl)) ?_
  refine WL.nil ?_
  refine thn_n ?_
  refine WP.cond (b := decide ((((k : Nat) : Int) : Int) < 256)) rfl (fun c_11 => ?_) (fun c_11 => ?_)
  · have p_12 := of_decide_eq_true c_11
    refine WP.skip ?_
    refine thn_n ?_
    refine WP.seq ?_
    refine WP.block ?_
    refine WP.reg ?_
    refine WL.q (Wn.no rfl) rfl rfl (R.move (v := (vi ((k : Nat) : Int))) rfl) ?_
    refine WL.q (Wn.no rfl) rfl rfl (R.move (v := (vi ((k : Nat) : Int))) rfl) ?_
    refine WL.q (Wn.no rfl) rfl rfl (R.conv (b := ((UInt8.ofNat k) : UInt8).toNat) rfl Try.underlying3 Try.underlying5 (w8_nat k)) ?_
    refine WL.call (al := [(vu8 (UInt8.ofNat k))]) Try.call40 rfl rfl (c_SubR (UInt8.ofNat k) _ ) rfl ?_
    rintro _ w_14 ⟨rfl, hc_13⟩
    have h_15 := h_8.same hc_13
    refine WL.q (Wn.no rfl) rfl rfl (R.indexA (b := b_4) (off := 0) (off' := (0 + k)) (i := k) rfl rfl rfl (by omega) Try.underlying72 Try.sizeOf5 (by rw [Nat.mul_one])) ?_
    refine WL.storeE (b := b_4) (off := (0 + k)) (i := k) (v := (vu8 (sub (UInt8.ofNat k)))) (cs' := ((pre 256 (fun i => sub (UInt8.ofNat i)) k).set k (sub (UInt8.ofNat k))).map vu8) h_15 rfl rfl Try.sizeOf5 rfl At.h (by decide) Sg.h rfl (lt_len (K := 256) (len_map (pre_len (by omega))) (by omega)) (set_u8 _ _ _) (fun w_16 h_17 => ?_)
    refine WL.nil ?_
    refine inb_n ?_
    refine thn_n ?_
    refine WP.reg ?_
    refine WL.q (Wn.no rfl) rfl rfl (R.move (v := (vi ((k : Nat) : Int))) rfl) ?_
    refine WL.q (Wn.no rfl) rfl rfl (R.bin (v := (vi ((k + 1 : Nat) : Int))) rfl rfl (bi_add (c := ((k + 1 : Nat) : Int)) (by omega) (by omega))) ?_
    refine WL.q (Wn.no rfl) rfl rfl (R.assign (v := (vi ((k + 1 : Nat) : Int))) rfl) ?_
    refine WL.nil ?_
    refine thn_n ?_
    rw [pre_set (by omega) rfl] at h_17
    exact ⟨k + 1, _, (by omega), (Ag.upd rfl (Ag.upd rfl (Ag.upd rfl (Ag.upd rfl (Ag.upd rfl (Ag.upd rfl (Ag.upd rfl (Ag.upd rfl (Ag.upd rfl (Ag.upd rfl (Ag.updL rfl (Ag.mix _ _ _)))))))))))), ⟨rfl, trivial⟩, h_17, (by omega), rfl⟩
  · have p_18 := of_decide_eq_false c_11
    refine WP.exit ?_
    refine thn_x ?_
    refine thn_x ?_
    refine inb_hit ?_
    refine thn_n ?_
    refine WP.seq ?_
    refine WP.reg ?_
    refine WL.q (Wn.no rfl) rfl rfl (R.loadA (b := b_4) (off := 0) [] [(256, (pre 256 (fun i => sub (UInt8.ofNat i)) k).map vu8)] [] (cs := (pre 256 (fun i => sub (UInt8.ofNat i)) k).map vu8) rfl Try.isAgg72 Try.sizeOf72 (h_8.ok _ (.head _)) rfl rfl rfl rfl) ?_
    refine WL.storeA (b := b_1) (off := 0) [] [(256, (List.replicate 256 (0 : UInt8)).map vu8)] [(256, (pre 256 (fun i => sub (UInt8.ofNat i)) k).map vu8)] [] (ys := (pre 256 (fun i => sub (UInt8.ofNat i)) k).map vu8) h_8 rfl rfl Try.sizeOf72 (At.t At.h) (by decide) rfl rfl rfl rfl rfl rfl (SsOk.cons (SOk.u8 (pre_len (by omega))) SsOk.nil) (fun w_19 h_20 => ?_)
    refine WL.nil ?_
    refine thn_n ?_
    refine WP.ret ?_
    refine ret_of Try.results57 (RV.cell rfl (h_20.loadA (cs := (pre 256 (fun i => sub (UInt8.ofNat i)) k).map vu8) Try.isAgg72 Try.sizeOf72 (.tail _ (.head _)) rfl rfl) RV.nil) ?_
    have hk2 : k = 256 := by omega
    subst hk2
    exact ⟨by rw [pre_all]; rfl, h_20.chgS⟩

theorem c_ExpandR (tb key : List UInt8) (htb : tb.length = 256) (hkey : key.length = 16) (w : World) :
    Cs Try.prog 58 [(.agg ⟨key.map vu8⟩), (.agg ⟨tb.map vu8⟩)].toArray w (fun v w1 => v = (.agg ⟨(keysL tb key).map vu8⟩) ∧ Chg w w1 []) := by
  refine Cs.of (n := 106) (args := [(.agg ⟨key.map vu8⟩), (.agg ⟨tb.map vu8⟩)]) Try.func58 rfl rfl rfl ?_
  have h_0 := HP.init w
  refine WP.seq ?_
  refine WP.reg ?_
  refine WL.box (v := (.agg ⟨key.map vu8⟩)) (segs := [(16, key.map vu8)]) h_0 rfl rfl (SsOk.cons (SOk.u8 hkey) SsOk.nil) rfl (fun b_1 w_2 h_3 => ?_)
  refine WL.box (v := (.agg ⟨tb.map vu8⟩)) (segs := [(256, tb.map vu8)]) h_3 rfl rfl (SsOk.cons (SOk.u8 htb) SsOk.nil) rfl (fun b_4 w_5 h_6 => ?_)
  refine WL.alloc (segs := [(176, (List.replicate 176 (0 : UInt8)).map vu8)]) h_6 (zv Try.typeInfo74 rfl) rfl (SsOk.cons (SOk.u8 (List.length_replicate ..)) SsOk.nil) rfl (fun b_7 w_8 h_9 => ?_)
  refine WL.nil ?_
  refine thn_n ?_
  refine WP.seq ?_
  refine WP.reg ?_
  refine WL.alloc (segs := [(176, (List.replicate 176 (0 : UInt8)).map vu8)]) h_9 (zv Try.typeInfo101 rfl) rfl (SsOk.cons (SOk.u8 (List.length_replicate ..)) SsOk.nil) rfl (fun b_10 w_11 h_12 => ?_)
  refine WL.nil ?_
  refine thn_n ?_
  refine WP.seq ?_
  refine WP.seq ?_
  refine WP.reg ?_
  refine WL.q (Wn.no rfl) rfl rfl (R.assign (v := (vi 0)) rfl) ?_
  refine WL.nil ?_
  refine thn_n ?_
  refine WP.block ?_
  refine WP.loopG (G := Nat) [6, 7, 15, 16, 17, 18, 19, 20, 21, 22, 23, 24, 25, 26, 27, 28, 29, 30, 31, 32] (fun i => [(6, (vi ((i : Nat) : Int)))]) (fun i m w1 => HP w w1 [.blk b_10 .nw 101 [(176, (pre 176 (K tb key) (4 * i)).map vu8)], .blk b_7 .nw 74 [(176, (List.replicate 176 (0 : UInt8)).map vu8)], .blk b_4 .nw 72 [(256, tb.map vu8)], .blk b_1 .nw 66 [(16, key.map vu8)]] ∧ (i ≤ 4) ∧ m = 4 - i) ⟨0, _, ⟨rfl, trivial⟩, (by rw [Nat.mul_zero, pre_0]; exact h_12), (by omega), rfl⟩ ?_
  rintro i m_15 J_16 w_13 ⟨h_14, hi, rfl⟩
  refine WP.seq ?_
  refine WP.seq ?_
  refine WP.reg ?_
  refine WL.q (Wn.no rfl) rfl rfl (R.move (v := (vi ((i : Nat) : Int))) rfl) ?_
  refine WL.q (Wn.no rfl) rfl rfl (R.bin (v := (.bool (decide ((((i : Nat) : Int) : Int) < 4)))) rfl rfl (bi_lss (r := decide ((((i : Nat) : Int) : Int) < 4)) rfl)) ?_
  refine WL.nil ?_
  refine thn_n ?_
  refine WP.cond (b := decide ((((i : Nat) : Int) : Int) < 4)) rfl (fun c_17 => ?_) (fun c_17 => ?_)
  · have p_18 := of_decide_eq_true c_17
    refine WP.skip ?_
    refine thn_n ?_
    refine WP.seq ?_
    refine WP.block ?_
    refine WP.seq ?_
    refine WP.reg ?_
    refine WL.q (Wn.no rfl) rfl rfl (R.assign (v := (vi 0)) rfl) ?_
    refine WL.nil ?_
    refine thn_n ?_
    refine WP.block ?_
    refine WP.loopG (G := Nat) [7, 19, 20, 21, 22, 23, 24, 25, 26, 27, 28, 29, 30, 31, 32] (fun k => [(7, (vi ((k : Nat) : Int)))]) (fun k m w1 => HP w w1 [.blk b_10 .nw 101 [(176, (pre 176 (K tb key) (4 * i + k)).map vu8)], .blk b_7 .nw 74 [(176, (List.replicate 176 (0 : UInt8)).map vu8)], .blk b_4 .nw 72 [(256, tb.map vu8)], .blk b_1 .nw 66 [(16, key.map vu8)]] ∧ (k ≤ 4) ∧ m = 4 - k) ⟨0, _, ⟨rfl, trivial⟩, h_14, (by omega), rfl⟩ ?_
    rintro k m_21 J_22 w_19 ⟨h_20, hk, rfl⟩
    refine WP.seq ?_
    refine WP.seq ?_
    refine WP.reg ?_
    refine WL.q (Wn.no rfl) rfl rfl (R.move (v := (vi ((k : Nat) : Int))) rfl) ?_
    refine WL.q (Wn.no rfl) rfl rfl (R.bin (v := (.bool (decide ((((k : Nat) : Int) : Int) < 4)))) rfl rfl (bi_lss (r := decide ((((k : Nat) : Int) : Int) < 4)) rfl)) ?_
    refine WL.nil ?_
    refine thn_n ?_
    refine WP.cond (b := decide ((((k : Nat) : Int) : Int) < 4)) rfl (fun c_23 => ?_) (fun c_23 => ?_)
    · have p_24 := of_decide_eq_true c_23
      refine WP.skip ?_
      refine thn_n ?_
      refine WP.seq ?_
      refine WP.block ?_
      refine WP.drawT (SL w.heap.size [.blk b_7 .nw 74 [(176, (List.replicate 176 (0 : UInt8)).map vu8)], .blk b_4 .nw 72 [(256, tb.map vu8)], .blk b_1 .nw 66 [(16, key.map vu8)]]) (.q 0 (.q 1 (.q 2 (.q 3 (.q 4 (.q 5 (.q 6 (.q 7 (.q 8 (.q 9 (.s 10 .nil))))))))))) (by kernel_rfl) (by kernel_rfl) rfl (by kernel_rfl) (fun w_25 hc_27 => (SL.cons ((h_20.same hc_27).ok _ (.tail _ (.head _))) (SL.cons ((h_20.same hc_27).ok _ (.tail _ (.tail _ (.head _)))) (SL.cons ((h_20.same hc_27).ok _ (.tail _ (.tail _ (.tail _ (.head _))))) (SL.nil _ _))))) (fun w_25 hc_27 => ?_)
      have h_26 := h_20.same hc_27
      refine WT.q rfl (Wn.no rfl) rfl rfl (fun wq hS => R.move (v := (vi ((i : Nat) : Int))) rfl) ?_
      refine WT.q rfl (Wn.no rfl) rfl rfl (fun wq hS => R.move (v := (vi ((k : Nat) : Int))) rfl) ?_
      refine WT.q rfl (Wn.no rfl) rfl rfl (fun wq hS => R.move (v := (vi ((i : Nat) : Int))) rfl) ?_
      refine WT.q rfl (Wn.no rfl) rfl rfl (fun wq hS => R.bin (v := (vi ((4 * i : Nat) : Int))) rfl rfl (bi_mul (c := ((4 * i : Nat) : Int)) (by omega) (by omega))) ?_
      refine WT.q rfl (Wn.no rfl) rfl rfl (fun wq hS => R.move (v := (vi ((k : Nat) : Int))) rfl) ?_
      refine WT.q rfl (Wn.no rfl) rfl rfl (fun wq hS => R.bin (v := (vi ((4 * i + k : Nat) : Int))) rfl rfl (bi_add (c := ((4 * i + k : Nat) : Int)) (by omega) (by omega))) ?_
      refine WT.q rfl (Wn.no rfl) rfl rfl (fun wq hS => R.indexA (b := b_1) (off := 0) (off' := (0 + (4 * i + k))) (i := 4 * i + k) rfl rfl rfl (by omega) Try.underlying66 Try.sizeOf5 (by rw [Nat.mul_one])) ?_
      refine WT.q rfl (Wn.no rfl) rfl rfl (fun wq hS => R.loadE (b := b_1) (off := (0 + (4 * i + k))) (i := 4 * i + k) (v := (vu8 (key.getD (4 * i + k) 0))) rfl Try.isAgg5 (hS _ (.tail _ (.tail _ (.head _)))) Sg.h rfl (get_u8 (lt_len (K := 16) hkey (by omega)))) ?_
      refine WT.q rfl (Wn.no rfl) rfl rfl (fun wq hS => R.indexA (b := b_10) (off := 0) (off' := (0 + (i * 4))) (i := i) rfl rfl rfl (by omega) Try.underlying101 Try.sizeOf100 rfl) ?_
      refine WT.q rfl (Wn.no rfl) rfl rfl (fun wq hS => R.indexA (b := b_10) (off := (0 + (i * 4))) (off' := (0 + (i * 4 + k))) (i := k) rfl rfl rfl (by omega) Try.underlying100 Try.sizeOf5 (by omega)) ?_
      refine WT.s ?_
      refine Op1.one rfl (Wn.no rfl) ?_
      refine WL.storeE (b := b_10) (off := (0 + (i * 4 + k))) (i := i * 4 + k) (v := (vu8 (key.getD (4 * i + k) 0))) (cs' := ((pre 176 (K tb key) (4 * i + k)).set (i * 4 + k) (key.getD (4 * i + k) 0)).map vu8) h_26 rfl rfl Try.sizeOf5 rfl At.h (by decide) Sg.h rfl (lt_len (K := 176) (len_map (pre_len (by omega))) (by omega)) (set_u8 _ _ _) (fun w_28 h_29 => ?_)
      refine WL.nil ?_
      refine ⟨(SL.cons (h_29.ok _ (.tail _ (.head _))) (SL.cons (h_29.ok _ (.tail _ (.tail _ (.head _)))) (SL.cons (h_29.ok _ (.tail _ (.tail _ (.tail _ (.head _))))) (SL.nil _ _)))), ?_⟩
      refine WT.nil ?_
      refine inb_n ?_
      refine thn_n ?_
      refine WP.reg ?_
      refine WL.q (Wn.no rfl) rfl rfl (R.move (v := (vi ((k : Nat) : Int))) rfl) ?_
      refine WL.q (Wn.no rfl) rfl rfl (R.bin (v := (vi ((k + 1 : Nat) : Int))) rfl rfl (bi_add (c := ((k + 1 : Nat) : Int)) (by omega) (by omega))) ?_
      refine WL.q (Wn.no rfl) rfl rfl (R.assign (v := (vi ((k + 1 : Nat) : Int))) rfl) ?_
      refine WL.nil ?_
      refine thn_n ?_
      rw [w_key (tb := tb) hkey (by omega) (by omega)] at h_29
      exact ⟨k + 1, _, (by omega), (Ag.upd rfl (Ag.upd rfl (Ag.upd rfl (Ag.upd rfl (Ag.upd rfl (Ag.upd rfl (Ag.upd rfl (Ag.upd rfl (Ag.upd rfl (Ag.upd rfl (Ag.upd rfl (Ag.upd rfl (Ag.upd rfl (Ag.upd rfl (Ag.upd rfl (Ag.updL rfl (Ag.mix _ _ _))))))))))))))))), ⟨rfl, trivial⟩, h_29, (by omega), rfl⟩
    · have p_30 := of_decide_eq_false c_23
      refine WP.exit ?_
      refine thn_x ?_
      refine thn_x ?_
      refine inb_hit ?_
      refine inb_n ?_
      refine thn_n ?_
      refine WP.reg ?_
      refine WL.q (Wn.no rfl) rfl rfl (R.move (v := (vi ((i : Nat) : Int))) rfl) ?_
      refine WL.q (Wn.no rfl) rfl rfl (R.bin (v := (vi ((i + 1 : Nat) : Int))) rfl rfl (bi_add (c := ((i + 1 : Nat) : Int)) (by omega) (by omega))) ?_
      refine WL.q (Wn.no rfl) rfl rfl (R.assign (v := (vi ((i + 1 : Nat) : Int))) rfl) ?_
      refine WL.nil ?_
      refine thn_n ?_
      have hk4 : k = 4 := by omega
      subst hk4
      rw [show 4 * i + 4 = 4 * (i + 1) by omega] at h_20
      exact ⟨i + 1, _, (by omega), (Ag.upd rfl (Ag.upd rfl (Ag.upd rfl (Ag.upd rfl (Ag.upd rfl (Ag.updL rfl (Ag.trans (Ag.sub rfl (Ag.mix _ _ _)) (Ag.upd rfl (Ag.upd rfl (Ag.upd rfl (Ag.updL rfl (Ag.mix _ _ _)))))))))))), ⟨rfl, trivial⟩, h_20, (by omega), rfl⟩
  · have p_31 := of_decide_eq_false c_17
    refine WP.exit ?_
    refine thn_x ?_
    refine thn_x ?_
    refine inb_hit ?_
    refine thn_n ?_
    refine WP.seq ?_
    refine WP.reg ?_
    refine WL.q (Wn.no rfl) rfl rfl (R.assign (v := (vu8 1)) rfl) ?_
    refine WL.nil ?_
    refine thn_n ?_
    refine WP.seq ?_
    refine WP.seq ?_
    refine WP.reg ?_
    refine WL.q (Wn.no rfl) rfl rfl (R.assign (v := (vi 4)) rfl) ?_
    refine WL.nil ?_
    refine thn_n ?_
    refine WP.block ?_
    have hi4 : i = 4 := by omega
    subst hi4
    refine WP.loopG (G := Nat) [8, 9, 10, 11, 33, 34, 35, 36, 37, 38, 39, 40, 41, 42, 43, 44, 45, 46, 47, 48, 49, 50, 51, 52, 53, 54, 55, 56, 57, 58, 59, 60, 61, 62, 63, 64, 65, 66, 67, 68, 69, 70, 71, 72, 73, 74, 75, 76, 77, 78, 79, 80, 81, 82] (fun i => [(8, (vu8 (pwN ((i - 1) / 4)))), (9, (vi ((i : Nat) : Int)))]) (fun i m w1 => HP w w1 [.blk b_10 .nw 101 [(176, (pre 176 (K tb key) (4 * i)).map vu8)], .blk b_7 .nw 74 [(176, (List.replicate 176 (0 : UInt8)).map vu8)], .blk b_4 .nw 72 [(256, tb.map vu8)], .blk b_1 .nw 66 [(16, key.map vu8)]] ∧ (4 ≤ i) ∧ (i ≤ 44) ∧ m = 44 - i) ⟨4, _, ⟨rfl, rfl, trivial⟩, h_14, (by omega), (by omega), rfl⟩ ?_
    rintro i m_34 J_35 w_32 ⟨h_33, hi, hi2, rfl⟩
    refine WP.seq ?_
    refine WP.seq ?_
    refine WP.reg ?_
    refine WL.q (Wn.no rfl) rfl rfl (R.move (v := (vi ((i : Nat) : Int))) rfl) ?_
    refine WL.q (Wn.no rfl) rfl rfl (R.bin (v := (.bool (decide ((((i : Nat) : Int) : Int) < 44)))) rfl rfl (bi_lss (r := decide ((((i : Nat) : Int) : Int) < 44)) rfl)) ?_
    refine WL.nil ?_
    refine thn_n ?_
    refine WP.cond (b := decide ((((i : Nat) : Int) : Int) < 44)) rfl (fun c_36 => ?_) (fun c_36 => ?_)
    · have p_37 := of_decide_eq_true c_36
      refine WP.skip ?_
      refine thn_n ?_
      refine WP.seq ?_
      refine WP.block ?_
      refine WP.seq ?_
      refine WP.reg ?_
      refine WL.q (Wn.no rfl) rfl rfl (R.move (v := (vi ((i : Nat) : Int))) rfl) ?_
      refine WL.q (Wn.no rfl) rfl rfl (R.bin (v := (vi ((i - 1 : Nat) : Int))) rfl rfl (bi_sub (c := ((i - 1 : Nat) : Int)) (by omega) (by omega))) ?_
      refine WL.q (Wn.no rfl) rfl rfl (R.indexA (b := b_10) (off := 0) (off' := (0 + ((i - 1) * 4))) (i := i - 1) rfl rfl rfl (by omega) Try.underlying101 Try.sizeOf100 rfl) ?_
      refine WL.q (Wn.no rfl) rfl rfl (R.loadEA (b := b_10) (off := (0 + ((i - 1) * 4))) (i := (i - 1) * 4) (xs := (((pre 176 (K tb key) (4 * i)).drop ((i - 1) * 4)).take 4).map vu8) rfl Try.isAgg100 Try.sizeOf100 (h_33.ok _ (.head _)) Sg.h rfl (by rw [List.map_take, List.map_drop]) (len_map (subLen (K := 176) (pre_len (by omega)) (by omega) : List.length (((pre 176 (K tb key) (4 * i)).drop ((i - 1) * 4)).take 4) = 4))) ?_
      refine WL.alloc (segs := [(4, (List.replicate 4 (0 : UInt8)).map vu8)]) h_33 (zv Try.typeInfo100 rfl) rfl (SsOk.cons (SOk.u8 (List.length_replicate ..)) SsOk.nil) rfl (fun b_38 w_39 h_40 => ?_)
      refine WL.storeA (b := b_38) (off := 0) [] [(4, (List.replicate 4 (0 : UInt8)).map vu8)] [(4, (((pre 176 (K tb key) (4 * i)).drop ((i - 1) * 4)).take 4).map vu8)] [] (ys := (((pre 176 (K tb key) (4 * i)).drop ((i - 1) * 4)).take 4).map vu8) h_40 rfl rfl Try.sizeOf100 At.h (by decide) rfl rfl rfl rfl rfl rfl (SsOk.cons (SOk.u8 (subLen (K := 176) (pre_len (by omega)) (by omega) : List.length (((pre 176 (K tb key) (4 * i)).drop ((i - 1) * 4)).take 4) = 4)) SsOk.nil) (fun w_41 h_42 => ?_)
      refine WL.nil ?_
      refine thn_n ?_
      refine WP.seq ?_
      refine WP.seq ?_
      refine WP.reg ?_
      refine WL.q (Wn.no rfl) rfl rfl (R.move (v := (vi ((i : Nat) : Int))) rfl) ?_
      refine WL.q (Wn.no rfl) rfl rfl (R.bin (v := (vi ((i % 4 : Nat) : Int))) rfl rfl (bi_rem (c := ((i % 4 : Nat) : Int)) (Int.natCast_nonneg _) (by omega) (by first | omega | rfl))) ?_
      refine WL.q (Wn.no rfl) rfl rfl (R.bin (v := (.bool (decide ((((i % 4 : Nat) : Int) : Int) = 0)))) rfl rfl (bi_eql (r := decide ((((i % 4 : Nat) : Int) : Int) = 0)) rfl)) ?_
      refine WL.nil ?_
      refine thn_n ?_
      refine WP.cond (b := decide ((((i % 4 : Nat) : Int) : Int) = 0)) rfl (fun c_43 => ?_) (fun c_43 => ?_)
      · have p_44 := of_decide_eq_true c_43
        refine WP.seq ?_
        refine WP.drawZ 19 (SL w.heap.size [.blk b_38 .nw 100 [(4, (((pre 176 (K tb key) (4 * i)).drop ((i - 1) * 4)).take 4).map vu8)], .blk b_10 .nw 101 [(176, (pre 176 (K tb key) (4 * i)).map vu8)], .blk b_7 .nw 74 [(176, (List.replicate 176 (0 : UInt8)).map vu8)], .blk b_4 .nw 72 [(256, tb.map vu8)], .blk b_1 .nw 66 [(16, key.map vu8)]]) (.q 0 (.q 1 (.q 2 (.q 3 (.q 4 (.q 5 (.q 6 (.q 7 (.q 8 (.q 9 (.q 10 (.q 11 (.q 12 (.q 13 (.q 14 (.q 15 (.q 16 (.q 17 (.q 18 (.s 19 .nil)))))))))))))))))))) (by kernel_rfl) (by kernel_rfl) rfl (by kernel_rfl) (fun w_45 hc_47 => (SL.cons ((h_42.same hc_47).ok _ (.head _)) (SL.cons ((h_42.same hc_47).ok _ (.tail _ (.head _))) (SL.cons ((h_42.same hc_47).ok _ (.tail _ (.tail _ (.head _)))) (SL.cons ((h_42.same hc_47).ok _ (.tail _ (.tail _ (.tail _ (.head _))))) (SL.cons ((h_42.same hc_47).ok _ (.tail _ (.tail _ (.tail _ (.tail _ (.head _)))))) (SL.nil _ _))))))) (fun w_45 hc_47 => ?_)
        have h_46 := h_42.same hc_47
        refine ZT.q rfl (Wn.no rfl) rfl rfl (fun wq hS => R.indexA (b := b_38) (off := 0) (off' := 1) (i := 1) rfl rfl rfl (by decide) Try.underlying100 Try.sizeOf5 rfl) ?_
        refine ZT.q rfl (Wn.no rfl) rfl rfl (fun wq hS => R.loadE (b := b_38) (off := 1) (i := 1) (v := (vu8 ((((pre 176 (K tb key) (4 * i)).drop ((i - 1) * 4)).take 4).getD 1 0))) rfl Try.isAgg5 (hS _ (.head _)) Sg.h rfl (get_u8 (lt_len (K := 4) (subLen (K := 176) (pre_len (by omega)) (by omega) : List.length (((pre 176 (K tb key) (4 * i)).drop ((i - 1) * 4)).take 4) = 4) (by decide)))) ?_
        refine ZT.q rfl (Wn.no rfl) rfl rfl (fun wq hS => R.indexA (b := b_4) (off := 0) (off' := (0 + (((((pre 176 (K tb key) (4 * i)).drop ((i - 1) * 4)).take 4).getD 1 0).toNat))) (i := ((((pre 176 (K tb key) (4 * i)).drop ((i - 1) * 4)).take 4).getD 1 0).toNat) rfl rfl rfl (UInt8.toNat_lt _) Try.underlying72 Try.sizeOf5 (by rw [Nat.mul_one])) ?_
        refine ZT.q rfl (Wn.no rfl) rfl rfl (fun wq hS => R.loadE (b := b_4) (off := (0 + (((((pre 176 (K tb key) (4 * i)).drop ((i - 1) * 4)).take 4).getD 1 0).toNat))) (i := ((((pre 176 (K tb key) (4 * i)).drop ((i - 1) * 4)).take 4).getD 1 0).toNat) (v := (vu8 (tb.getD (((((pre 176 (K tb key) (4 * i)).drop ((i - 1) * 4)).take 4).getD 1 0).toNat) 0))) rfl Try.isAgg5 (hS _ (.tail _ (.tail _ (.tail _ (.head _))))) Sg.h rfl (get_u8 (lt_len (K := 256) htb (UInt8.toNat_lt _)))) ?_
        refine ZT.q rfl (Wn.no rfl) rfl rfl (fun wq hS => R.move (v := (vu8 (pwN ((i - 1) / 4)))) rfl) ?_
        refine ZT.q rfl (Wn.no rfl) rfl rfl (fun wq hS => R.bin (v := (vu8 ((tb.getD (((((pre 176 (K tb key) (4 * i)).drop ((i - 1) * 4)).take 4).getD 1 0).toNat) 0) ^^^ (pwN ((i - 1) / 4))))) rfl rfl (b8_xor (tb.getD (((((pre 176 (K tb key) (4 * i)).drop ((i - 1) * 4)).take 4).getD 1 0).toNat) 0) (pwN ((i - 1) / 4)))) ?_
        refine ZT.q rfl (Wn.no rfl) rfl rfl (fun wq hS => R.indexA (b := b_38) (off := 0) (off' := 2) (i := 2) rfl rfl rfl (by decide) Try.underlying100 Try.sizeOf5 rfl) ?_
        refine ZT.q rfl (Wn.no rfl) rfl rfl (fun wq hS => R.loadE (b := b_38) (off := 2) (i := 2) (v := (vu8 ((((pre 176 (K tb key) (4 * i)).drop ((i - 1) * 4)).take 4).getD 2 0))) rfl Try.isAgg5 (hS _ (.head _)) Sg.h rfl (get_u8 (lt_len (K := 4) (subLen (K := 176) (pre_len (by omega)) (by omega) : List.length (((pre 176 (K tb key) (4 * i)).drop ((i - 1) * 4)).take 4) = 4) (by decide)))) ?_
        refine ZT.q rfl (Wn.no rfl) rfl rfl (fun wq hS => R.indexA (b := b_4) (off := 0) (off' := (0 + (((((pre 176 (K tb key) (4 * i)).drop ((i - 1) * 4)).take 4).getD 2 0).toNat))) (i := ((((pre 176 (K tb key) (4 * i)).drop ((i - 1) * 4)).take 4).getD 2 0).toNat) rfl rfl rfl (UInt8.toNat_lt _) Try.underlying72 Try.sizeOf5 (by rw [Nat.mul_one])) ?_
        refine ZT.q rfl (Wn.no rfl) rfl rfl (fun wq hS => R.loadE (b := b_4) (off := (0 + (((((pre 176 (K tb key) (4 * i)).drop ((i - 1) * 4)).take 4).getD 2 0).toNat))) (i := ((((pre 176 (K tb key) (4 * i)).drop ((i - 1) * 4)).take 4).getD 2 0).toNat) (v := (vu8 (tb.getD (((((pre 176 (K tb key) (4 * i)).drop ((i - 1) * 4)).take 4).getD 2 0).toNat) 0))) rfl Try.isAgg5 (hS _ (.tail _ (.tail _ (.tail _ (.head _))))) Sg.h rfl (get_u8 (lt_len (K := 256) htb (UInt8.toNat_lt _)))) ?_
        refine ZT.q rfl (Wn.no rfl) rfl rfl (fun wq hS => R.indexA (b := b_38) (off := 0) (off' := 3) (i := 3) rfl rfl rfl (by decide) Try.underlying100 Try.sizeOf5 rfl) ?_
        refine ZT.q rfl (Wn.no rfl) rfl rfl (fun wq hS => R.loadE (b := b_38) (off := 3) (i := 3) (v := (vu8 ((((pre 176 (K tb key) (4 * i)).drop ((i - 1) * 4)).take 4).getD 3 0))) rfl Try.isAgg5 (hS _ (.head _)) Sg.h rfl (get_u8 (lt_len (K := 4) (subLen (K := 176) (pre_len (by omega)) (by omega) : List.length (((pre 176 (K tb key) (4 * i)).drop ((i - 1) * 4)).take 4) = 4) (by decide)))) ?_
        refine ZT.q rfl (Wn.no rfl) rfl rfl (fun wq hS => R.indexA (b := b_4) (off := 0) (off' := (0 + (((((pre 176 (K tb key) (4 * i)).drop ((i - 1) * 4)).take 4).getD 3 0).toNat))) (i := ((((pre 176 (K tb key) (4 * i)).drop ((i - 1) * 4)).take 4).getD 3 0).toNat) rfl rfl rfl (UInt8.toNat_lt _) Try.underlying72 Try.sizeOf5 (by rw [Nat.mul_one])) ?_
        refine ZT.q rfl (Wn.no rfl) rfl rfl (fun wq hS => R.loadE (b := b_4) (off := (0 + (((((pre 176 (K tb key) (4 * i)).drop ((i - 1) * 4)).take 4).getD 3 0).toNat))) (i := ((((pre 176 (K tb key) (4 * i)).drop ((i - 1) * 4)).take 4).getD 3 0).toNat) (v := (vu8 (tb.getD (((((pre 176 (K tb key) (4 * i)).drop ((i - 1) * 4)).take 4).getD 3 0).toNat) 0))) rfl Try.isAgg5 (hS _ (.tail _ (.tail _ (.tail _ (.head _))))) Sg.h rfl (get_u8 (lt_len (K := 256) htb (UInt8.toNat_lt _)))) ?_
        refine ZT.q rfl (Wn.no rfl) rfl rfl (fun wq hS => R.indexA (b := b_38) (off := 0) (off' := 0) (i := 0) rfl rfl rfl (by decide) Try.underlying100 Try.sizeOf5 rfl) ?_
        refine ZT.q rfl (Wn.no rfl) rfl rfl (fun wq hS => R.loadE (b := b_38) (off := 0) (i := 0) (v := (vu8 ((((pre 176 (K tb key) (4 * i)).drop ((i - 1) * 4)).take 4).getD 0 0))) rfl Try.isAgg5 (hS _ (.head _)) Sg.h rfl (get_u8 (lt_len (K := 4) (subLen (K := 176) (pre_len (by omega)) (by omega) : List.length (((pre 176 (K tb key) (4 * i)).drop ((i - 1) * 4)).take 4) = 4) (by decide)))) ?_
        refine ZT.q rfl (Wn.no rfl) rfl rfl (fun wq hS => R.indexA (b := b_4) (off := 0) (off' := (0 + (((((pre 176 (K tb key) (4 * i)).drop ((i - 1) * 4)).take 4).getD 0 0).toNat))) (i := ((((pre 176 (K tb key) (4 * i)).drop ((i - 1) * 4)).take 4).getD 0 0).toNat) rfl rfl rfl (UInt8.toNat_lt _) Try.underlying72 Try.sizeOf5 (by rw [Nat.mul_one])) ?_
        refine ZT.q rfl (Wn.no rfl) rfl rfl (fun wq hS => R.loadE (b := b_4) (off := (0 + (((((pre 176 (K tb key) (4 * i)).drop ((i - 1) * 4)).take 4).getD 0 0).toNat))) (i := ((((pre 176 (K tb key) (4 * i)).drop ((i - 1) * 4)).take 4).getD 0 0).toNat) (v := (vu8 (tb.getD (((((pre 176 (K tb key) (4 * i)).drop ((i - 1) * 4)).take 4).getD 0 0).toNat) 0))) rfl Try.isAgg5 (hS _ (.tail _ (.tail _ (.tail _ (.head _))))) Sg.h rfl (get_u8 (lt_len (K := 256) htb (UInt8.toNat_lt _)))) ?_
        refine ZT.q rfl (Wn.no rfl) rfl rfl (fun wq hS => R.buildA (vs := [(0, (vu8 ((tb.getD (((((pre 176 (K tb key) (4 * i)).drop ((i - 1) * 4)).take 4).getD 1 0).toNat) 0) ^^^ (pwN ((i - 1) / 4))))), (1, (vu8 (tb.getD (((((pre 176 (K tb key) (4 * i)).drop ((i - 1) * 4)).take 4).getD 2 0).toNat) 0))), (2, (vu8 (tb.getD (((((pre 176 (K tb key) (4 * i)).drop ((i - 1) * 4)).take 4).getD 3 0).toNat) 0))), (3, (vu8 (tb.getD (((((pre 176 (K tb key) (4 * i)).drop ((i - 1) * 4)).take 4).getD 0 0).toNat) 0)))]) (cs := ([(tb.getD (((((pre 176 (K tb key) (4 * i)).drop ((i - 1) * 4)).take 4).getD 1 0).toNat) 0) ^^^ (pwN ((i - 1) / 4)), tb.getD (((((pre 176 (K tb key) (4 * i)).drop ((i - 1) * 4)).take 4).getD 2 0).toNat) 0, tb.getD (((((pre 176 (K tb key) (4 * i)).drop ((i - 1) * 4)).take 4).getD 3 0).toNat) 0, tb.getD (((((pre 176 (K tb key) (4 * i)).drop ((i - 1) * 4)).take 4).getD 0 0).toNat) 0] : List UInt8).map vu8) Try.underlying100 Try.sizeOf5 (zv Try.typeInfo100 rfl) rfl rfl) ?_
        refine ZT.s ?_
        refine OpZ.last rfl (Wn.no rfl) ?_
        refine WL.storeA (b := b_38) (off := 0) [] [(4, (((pre 176 (K tb key) (4 * i)).drop ((i - 1) * 4)).take 4).map vu8)] [(4, ([(tb.getD (((((pre 176 (K tb key) (4 * i)).drop ((i - 1) * 4)).take 4).getD 1 0).toNat) 0) ^^^ (pwN ((i - 1) / 4)), tb.getD (((((pre 176 (K tb key) (4 * i)).drop ((i - 1) * 4)).take 4).getD 2 0).toNat) 0, tb.getD (((((pre 176 (K tb key) (4 * i)).drop ((i - 1) * 4)).take 4).getD 3 0).toNat) 0, tb.getD (((((pre 176 (K tb key) (4 * i)).drop ((i - 1) * 4)).take 4).getD 0 0).toNat) 0] : List UInt8).map vu8)] [] (ys := ([(tb.getD (((((pre 176 (K tb key) (4 * i)).drop ((i - 1) * 4)).take 4).getD 1 0).toNat) 0) ^^^ (pwN ((i - 1) / 4)), tb.getD (((((pre 176 (K tb key) (4 * i)).drop ((i - 1) * 4)).take 4).getD 2 0).toNat) 0, tb.getD (((((pre 176 (K tb key) (4 * i)).drop ((i - 1) * 4)).take 4).getD 3 0).toNat) 0, tb.getD (((((pre 176 (K tb key) (4 * i)).drop ((i - 1) * 4)).take 4).getD 0 0).toNat) 0] : List UInt8).map vu8) h_46 rfl rfl Try.sizeOf100 At.h (by decide) rfl rfl rfl rfl rfl rfl (SsOk.cons (SOk.u8 (rfl : List.length ([(tb.getD (((((pre 176 (K tb key) (4 * i)).drop ((i - 1) * 4)).take 4).getD 1 0).toNat) 0) ^^^ (pwN ((i - 1) / 4)), tb.getD (((((pre 176 (K tb key) (4 * i)).drop ((i - 1) * 4)).take 4).getD 2 0).toNat) 0, tb.getD (((((pre 176 (K tb key) (4 * i)).drop ((i - 1) * 4)).take 4).getD 3 0).toNat) 0, tb.getD (((((pre 176 (K tb key) (4 * i)).drop ((i - 1) * 4)).take 4).getD 0 0).toNat) 0] : List UInt8) = 4)) SsOk.nil) (fun w_48 h_49 => ?_)
        refine WL.nil ?_
        refine ZT.nil ?_
        refine thn_n ?_
        refine WP.reg ?_
        refine WL.q (Wn.no rfl) rfl rfl (R.move (v := (vu8 (pwN ((i - 1) / 4)))) rfl) ?_
        refine WL.call (al := [(vu8 (pwN ((i - 1) / 4))), (vu8 2)]) Try.call36 rfl rfl (c_TimesR (pwN ((i - 1) / 4)) (2 : UInt8) _ ) rfl ?_
        rintro _ w_51 ⟨rfl, hc_50⟩
        have h_52 := h_49.same hc_50
        refine WL.q (Wn.no rfl) rfl rfl (R.assign (v := (vu8 (tm (pwN ((i - 1) / 4)) (2 : UInt8)))) rfl) ?_
        refine WL.nil ?_
        refine thn_n ?_
        refine WP.seq ?_
        refine WP.reg ?_
        refine WL.q (Wn.no rfl) rfl rfl (R.assign (v := (vi 0)) rfl) ?_
        refine WL.nil ?_
        refine thn_n ?_
        refine WP.block ?_
        refine WP.loopG (G := Nat) [11, 65, 66, 67, 68, 69, 70, 71, 72, 73, 74, 75, 76, 77, 78, 79, 80, 81, 82] (fun k => [(11, (vi ((k : Nat) : Int)))]) (fun k m w1 => HP w w1 [.blk b_38 .nw 100 [(4, ([(tb.getD (((((pre 176 (K tb key) (4 * i)).drop ((i - 1) * 4)).take 4).getD 1 0).toNat) 0) ^^^ (pwN ((i - 1) / 4)), tb.getD (((((pre 176 (K tb key) (4 * i)).drop ((i - 1) * 4)).take 4).getD 2 0).toNat) 0, tb.getD (((((pre 176 (K tb key) (4 * i)).drop ((i - 1) * 4)).take 4).getD 3 0).toNat) 0, tb.getD (((((pre 176 (K tb key) (4 * i)).drop ((i - 1) * 4)).take 4).getD 0 0).toNat) 0] : List UInt8).map vu8)], .blk b_10 .nw 101 [(176, (pre 176 (K tb key) (4 * i + k)).map vu8)], .blk b_7 .nw 74 [(176, (List.replicate 176 (0 : UInt8)).map vu8)], .blk b_4 .nw 72 [(256, tb.map vu8)], .blk b_1 .nw 66 [(16, key.map vu8)]] ∧ (k ≤ 4) ∧ m = 4 - k) ⟨0, _, ⟨rfl, trivial⟩, h_52, (by omega), rfl⟩ ?_
        rintro k m_55 J_56 w_53 ⟨h_54, hk, rfl⟩
        refine WP.seq ?_
        refine WP.seq ?_
        refine WP.reg ?_
        refine WL.q (Wn.no rfl) rfl rfl (R.move (v := (vi ((k : Nat) : Int))) rfl) ?_
        refine WL.q (Wn.no rfl) rfl rfl (R.bin (v := (.bool (decide ((((k : Nat) : Int) : Int) < 4)))) rfl rfl (bi_lss (r := decide ((((k : Nat) : Int) : Int) < 4)) rfl)) ?_
        refine WL.nil ?_
        refine thn_n ?_
        refine WP.cond (b := decide ((((k : Nat) : Int) : Int) < 4)) rfl (fun c_57 => ?_) (fun c_57 => ?_)
        · have p_58 := of_decide_eq_true c_57
          refine WP.skip ?_
          refine thn_n ?_
          refine WP.seq ?_
          refine WP.block ?_
          refine WP.drawT (SL w.heap.size [.blk b_38 .nw 100 [(4, ([(tb.getD (((((pre 176 (K tb key) (4 * i)).drop ((i - 1) * 4)).take 4).getD 1 0).toNat) 0) ^^^ (pwN ((i - 1) / 4)), tb.getD (((((pre 176 (K tb key) (4 * i)).drop ((i - 1) * 4)).take 4).getD 2 0).toNat) 0, tb.getD (((((pre 176 (K tb key) (4 * i)).drop ((i - 1) * 4)).take 4).getD 3 0).toNat) 0, tb.getD (((((pre 176 (K tb key) (4 * i)).drop ((i - 1) * 4)).take 4).getD 0 0).toNat) 0] : List UInt8).map vu8)], .blk b_7 .nw 74 [(176, (List.replicate 176 (0 : UInt8)).map vu8)], .blk b_4 .nw 72 [(256, tb.map vu8)], .blk b_1 .nw 66 [(16, key.map vu8)]]) (.q 0 (.q 1 (.q 2 (.q 3 (.q 4 (.q 5 (.q 6 (.q 8 (.q 9 (.q 10 (.q 12 (.s 7 (.q 11 (.q 13 (.s 14 .nil))))))))))))))) (by kernel_rfl) (by kernel_rfl) rfl (by kernel_rfl) (fun w_59 hc_61 => (SL.cons ((h_54.same hc_61).ok _ (.head _)) (SL.cons ((h_54.same hc_61).ok _ (.tail _ (.tail _ (.head _)))) (SL.cons ((h_54.same hc_61).ok _ (.tail _ (.tail _ (.tail _ (.head _))))) (SL.cons ((h_54.same hc_61).ok _ (.tail _ (.tail _ (.tail _ (.tail _ (.head _)))))) (SL.nil _ _)))))) (fun w_59 hc_61 => ?_)
          have h_60 := h_54.same hc_61
          refine WT.q rfl (Wn.no rfl) rfl rfl (fun wq hS => R.move (v := (vi ((i : Nat) : Int))) rfl) ?_
          refine WT.q rfl (Wn.no rfl) rfl rfl (fun wq hS => R.move (v := (vi ((k : Nat) : Int))) rfl) ?_
          refine WT.q rfl (Wn.no rfl) rfl rfl (fun wq hS => R.move (v := (vi ((i : Nat) : Int))) rfl) ?_
          refine WT.q rfl (Wn.no rfl) rfl rfl (fun wq hS => R.bin (v := (vi ((i - 4 : Nat) : Int))) rfl rfl (bi_sub (c := ((i - 4 : Nat) : Int)) (by omega) (by omega))) ?_
          refine WT.q rfl (Wn.no rfl) rfl rfl (fun wq hS => R.move (v := (vi ((k : Nat) : Int))) rfl) ?_
          refine WT.q rfl (Wn.no rfl) rfl rfl (fun wq hS => R.indexA (b := b_10) (off := 0) (off' := (0 + ((i - 4) * 4))) (i := i - 4) rfl rfl rfl (by omega) Try.underlying101 Try.sizeOf100 rfl) ?_
          refine WT.q rfl (Wn.no rfl) rfl rfl (fun wq hS => R.indexA (b := b_10) (off := (0 + ((i - 4) * 4))) (off' := (0 + ((i - 4) * 4 + k))) (i := k) rfl rfl rfl (by omega) Try.underlying100 Try.sizeOf5 (by omega)) ?_
          refine WT.q rfl (Wn.no rfl) rfl rfl (fun wq hS => R.move (v := (vi ((k : Nat) : Int))) rfl) ?_
          refine WT.q rfl (Wn.no rfl) rfl rfl (fun wq hS => R.indexA (b := b_38) (off := 0) (off' := (0 + k)) (i := k) rfl rfl rfl (by omega) Try.underlying100 Try.sizeOf5 (by rw [Nat.mul_one])) ?_
          refine WT.q rfl (Wn.no rfl) rfl rfl (fun wq hS => R.loadE (b := b_38) (off := (0 + k)) (i := k) (v := (vu8 (([(tb.getD (((((pre 176 (K tb key) (4 * i)).drop ((i - 1) * 4)).take 4).getD 1 0).toNat) 0) ^^^ (pwN ((i - 1) / 4)), tb.getD (((((pre 176 (K tb key) (4 * i)).drop ((i - 1) * 4)).take 4).getD 2 0).toNat) 0, tb.getD (((((pre 176 (K tb key) (4 * i)).drop ((i - 1) * 4)).take 4).getD 3 0).toNat) 0, tb.getD (((((pre 176 (K tb key) (4 * i)).drop ((i - 1) * 4)).take 4).getD 0 0).toNat) 0] : List UInt8).getD k 0))) rfl Try.isAgg5 (hS _ (.head _)) Sg.h rfl (get_u8 (lt_len (K := 4) (rfl : List.length ([(tb.getD (((((pre 176 (K tb key) (4 * i)).drop ((i - 1) * 4)).take 4).getD 1 0).toNat) 0) ^^^ (pwN ((i - 1) / 4)), tb.getD (((((pre 176 (K tb key) (4 * i)).drop ((i - 1) * 4)).take 4).getD 2 0).toNat) 0, tb.getD (((((pre 176 (K tb key) (4 * i)).drop ((i - 1) * 4)).take 4).getD 3 0).toNat) 0, tb.getD (((((pre 176 (K tb key) (4 * i)).drop ((i - 1) * 4)).take 4).getD 0 0).toNat) 0] : List UInt8) = 4) (by omega)))) ?_
          refine WT.q rfl (Wn.no rfl) rfl rfl (fun wq hS => R.indexA (b := b_10) (off := 0) (off' := (0 + (i * 4))) (i := i) rfl rfl rfl (by omega) Try.underlying101 Try.sizeOf100 rfl) ?_
          refine WT.s ?_
          refine Op1.one rfl (Wn.no rfl) ?_
          refine WL.q (Wn.no rfl) rfl rfl (R.loadE (b := b_10) (off := (0 + ((i - 4) * 4 + k))) (i := (i - 4) * 4 + k) (v := (vu8 ((pre 176 (K tb key) (4 * i + k)).getD ((i - 4) * 4 + k) 0))) rfl Try.isAgg5 (h_60.ok _ (.tail _ (.head _))) Sg.h rfl (get_u8 (lt_len (K := 176) (pre_len (by omega)) (by omega)))) ?_
          refine WL.nil ?_
          refine ⟨(SL.cons (h_60.ok _ (.head _)) (SL.cons (h_60.ok _ (.tail _ (.tail _ (.head _)))) (SL.cons (h_60.ok _ (.tail _ (.tail _ (.tail _ (.head _))))) (SL.cons (h_60.ok _ (.tail _ (.tail _ (.tail _ (.tail _ (.head _)))))) (SL.nil _ _))))), ?_⟩
          refine WT.q rfl (Wn.no rfl) rfl rfl (fun wq hS => R.bin (v := (vu8 (((pre 176 (K tb key) (4 * i + k)).getD ((i - 4) * 4 + k) 0) ^^^ (([(tb.getD (((((pre 176 (K tb key) (4 * i)).drop ((i - 1) * 4)).take 4).getD 1 0).toNat) 0) ^^^ (pwN ((i - 1) / 4)), tb.getD (((((pre 176 (K tb key) (4 * i)).drop ((i - 1) * 4)).take 4).getD 2 0).toNat) 0, tb.getD (((((pre 176 (K tb key) (4 * i)).drop ((i - 1) * 4)).take 4).getD 3 0).toNat) 0, tb.getD (((((pre 176 (K tb key) (4 * i)).drop ((i - 1) * 4)).take 4).getD 0 0).toNat) 0] : List UInt8).getD k 0)))) rfl rfl (b8_xor ((pre 176 (K tb key) (4 * i + k)).getD ((i - 4) * 4 + k) 0) (([(tb.getD (((((pre 176 (K tb key) (4 * i)).drop ((i - 1) * 4)).take 4).getD 1 0).toNat) 0) ^^^ (pwN ((i - 1) / 4)), tb.getD (((((pre 176 (K tb key) (4 * i)).drop ((i - 1) * 4)).take 4).getD 2 0).toNat) 0, tb.getD (((((pre 176 (K tb key) (4 * i)).drop ((i - 1) * 4)).take 4).getD 3 0).toNat) 0, tb.getD (((((pre 176 (K tb key) (4 * i)).drop ((i - 1) * 4)).take 4).getD 0 0).toNat) 0] : List UInt8).getD k 0))) ?_
          refine WT.q rfl (Wn.no rfl) rfl rfl (fun wq hS => R.indexA (b := b_10) (off := (0 + (i * 4))) (off' := (0 + (i * 4 + k))) (i := k) rfl rfl rfl (by omega) Try.underlying100 Try.sizeOf5 (by omega)) ?_
          refine WT.s ?_
          refine Op1.one rfl (Wn.no rfl) ?_
          refine WL.storeE (b := b_10) (off := (0 + (i * 4 + k))) (i := i * 4 + k) (v := (vu8 (((pre 176 (K tb key) (4 * i + k)).getD ((i - 4) * 4 + k) 0) ^^^ (([(tb.getD (((((pre 176 (K tb key) (4 * i)).drop ((i - 1) * 4)).take 4).getD 1 0).toNat) 0) ^^^ (pwN ((i - 1) / 4)), tb.getD (((((pre 176 (K tb key) (4 * i)).drop ((i - 1) * 4)).take 4).getD 2 0).toNat) 0, tb.getD (((((pre 176 (K tb key) (4 * i)).drop ((i - 1) * 4)).take 4).getD 3 0).toNat) 0, tb.getD (((((pre 176 (K tb key) (4 * i)).drop ((i - 1) * 4)).take 4).getD 0 0).toNat) 0] : List UInt8).getD k 0)))) (cs' := ((pre 176 (K tb key) (4 * i + k)).set (i * 4 + k) (((pre 176 (K tb key) (4 * i + k)).getD ((i - 4) * 4 + k) 0) ^^^ (([(tb.getD (((((pre 176 (K tb key) (4 * i)).drop ((i - 1) * 4)).take 4).getD 1 0).toNat) 0) ^^^ (pwN ((i - 1) / 4)), tb.getD (((((pre 176 (K tb key) (4 * i)).drop ((i - 1) * 4)).take 4).getD 2 0).toNat) 0, tb.getD (((((pre 176 (K tb key) (4 * i)).drop ((i - 1) * 4)).take 4).getD 3 0).toNat) 0, tb.getD (((((pre 176 (K tb key) (4 * i)).drop ((i - 1) * 4)).take 4).getD 0 0).toNat) 0] : List UInt8).getD k 0))).map vu8) h_60 rfl rfl Try.sizeOf5 rfl (At.t At.h) (by decide) Sg.h rfl (lt_len (K := 176) (len_map (pre_len (by omega))) (by omega)) (set_u8 _ _ _) (fun w_62 h_63 => ?_)
          refine WL.nil ?_
          refine ⟨(SL.cons (h_63.ok _ (.head _)) (SL.cons (h_63.ok _ (.tail _ (.tail _ (.head _)))) (SL.cons (h_63.ok _ (.tail _ (.tail _ (.tail _ (.head _))))) (SL.cons (h_63.ok _ (.tail _ (.tail _ (.tail _ (.tail _ (.head _)))))) (SL.nil _ _))))), ?_⟩
          refine WT.nil ?_
          refine inb_n ?_
          refine thn_n ?_
          refine WP.reg ?_
          refine WL.q (Wn.no rfl) rfl rfl (R.move (v := (vi ((k : Nat) : Int))) rfl) ?_
          refine WL.q (Wn.no rfl) rfl rfl (R.bin (v := (vi ((k + 1 : Nat) : Int))) rfl rfl (bi_add (c := ((k + 1 : Nat) : Int)) (by omega) (by omega))) ?_
          refine WL.q (Wn.no rfl) rfl rfl (R.assign (v := (vi ((k + 1 : Nat) : Int))) rfl) ?_
          refine WL.nil ?_
          refine thn_n ?_
          rw [w_step (tb := tb) hkey (by omega) (by omega) (by omega) (w_new (by omega) (by omega))] at h_63
          exact ⟨k + 1, _, (by omega), (Ag.upd rfl (Ag.upd rfl (Ag.upd rfl (Ag.upd rfl (Ag.upd rfl (Ag.upd rfl (Ag.upd rfl (Ag.upd rfl (Ag.upd rfl (Ag.upd rfl (Ag.upd rfl (Ag.upd rfl (Ag.upd rfl (Ag.upd rfl (Ag.upd rfl (Ag.upd rfl (Ag.upd rfl (Ag.upd rfl (Ag.upd rfl (Ag.updL rfl (Ag.mix _ _ _))))))))))))))))))))), ⟨rfl, trivial⟩, h_63, (by omega), rfl⟩
        · have p_64 := of_decide_eq_false c_57
          refine WP.exit ?_
          refine thn_x ?_
          refine thn_x ?_
          refine inb_hit ?_
          refine inb_n ?_
          refine thn_n ?_
          refine WP.reg ?_
          refine WL.q (Wn.no rfl) rfl rfl (R.move (v := (vi ((i : Nat) : Int))) rfl) ?_
          refine WL.q (Wn.no rfl) rfl rfl (R.bin (v := (vi ((i + 1 : Nat) : Int))) rfl rfl (bi_add (c := ((i + 1 : Nat) : Int)) (by omega) (by omega))) ?_
          refine WL.q (Wn.no rfl) rfl rfl (R.assign (v := (vi ((i + 1 : Nat) : Int))) rfl) ?_
          refine WL.nil ?_
          refine thn_n ?_
          have hk4 : k = 4 := by omega
          subst hk4
          have h_65 := h_54.drop rfl
          rw [show 4 * i + 4 = 4 * (i + 1) by omega] at h_65
          exact ⟨i + 1, _, (by omega), (Ag.upd rfl (Ag.upd rfl (Ag.upd rfl (Ag.upd rfl (Ag.upd rfl (Ag.updL rfl (Ag.trans (Ag.sub rfl (Ag.mix _ _ _)) (Ag.upd rfl (Ag.upd rfl (Ag.upd rfl (Ag.upd rfl (Ag.upd rfl (Ag.upd rfl (Ag.upd rfl (Ag.upd rfl (Ag.upd rfl (Ag.upd rfl (Ag.upd rfl (Ag.upd rfl (Ag.upd rfl (Ag.upd rfl (Ag.upd rfl (Ag.upd rfl (Ag.upd rfl (Ag.upd rfl (Ag.upd rfl (Ag.upd rfl (Ag.upd rfl (Ag.upd rfl (Ag.upd rfl (Ag.upd rfl (Ag.upd rfl (Ag.upd rfl (Ag.upd rfl (Ag.upd rfl (Ag.upd rfl (Ag.upd rfl (Ag.upd rfl (Ag.upd rfl (Ag.upd rfl (Ag.updL rfl (Ag.mix _ _ _)))))))))))))))))))))))))))))))))))))))))), ⟨congrArg vu8 (pw_4 (by omega) (by omega)), rfl, trivial⟩, h_65, (by omega), (by omega), rfl⟩
      · have p_66 := of_decide_eq_false c_43
        refine WP.skip ?_
        refine thn_n ?_
        refine WP.seq ?_
        refine WP.reg ?_
        refine WL.q (Wn.no rfl) rfl rfl (R.assign (v := (vi 0)) rfl) ?_
        refine WL.nil ?_
        refine thn_n ?_
        refine WP.block ?_
        refine WP.loopG (G := Nat) [11, 65, 66, 67, 68, 69, 70, 71, 72, 73, 74, 75, 76, 77, 78, 79, 80, 81, 82] (fun k => [(11, (vi ((k : Nat) : Int)))]) (fun k m w1 => HP w w1 [.blk b_38 .nw 100 [(4, (((pre 176 (K tb key) (4 * i)).drop ((i - 1) * 4)).take 4).map vu8)], .blk b_10 .nw 101 [(176, (pre 176 (K tb key) (4 * i + k)).map vu8)], .blk b_7 .nw 74 [(176, (List.replicate 176 (0 : UInt8)).map vu8)], .blk b_4 .nw 72 [(256, tb.map vu8)], .blk b_1 .nw 66 [(16, key.map vu8)]] ∧ (k ≤ 4) ∧ m = 4 - k) ⟨0, _, ⟨rfl, trivial⟩, h_42, (by omega), rfl⟩ ?_
        rintro k m_69 J_70 w_67 ⟨h_68, hk, rfl⟩
        refine WP.seq ?_
        refine WP.seq ?_
        refine WP.reg ?_
        refine WL.q (Wn.no rfl) rfl rfl (R.move (v := (vi ((k : Nat) : Int))) rfl) ?_
        refine WL.q (Wn.no rfl) rfl rfl (R.bin (v := (.bool (decide ((((k : Nat) : Int) : Int) < 4)))) rfl rfl (bi_lss (r := decide ((((k : Nat) : Int) : Int) < 4)) rfl)) ?_
        refine WL.nil ?_
        refine thn_n ?_
        refine WP.cond (b := decide ((((k : Nat) : Int) : Int) < 4)) rfl (fun c_71 => ?_) (fun c_71 => ?_)
        · have p_72 := of_decide_eq_true c_71
          refine WP.skip ?_
          refine thn_n ?_
          refine WP.seq ?_
          refine WP.block ?_
          refine WP.drawT (SL w.heap.size [.blk b_38 .nw 100 [(4, (((pre 176 (K tb key) (4 * i)).drop ((i - 1) * 4)).take 4).map vu8)], .blk b_7 .nw 74 [(176, (List.replicate 176 (0 : UInt8)).map vu8)], .blk b_4 .nw 72 [(256, tb.map vu8)], .blk b_1 .nw 66 [(16, key.map vu8)]]) (.q 0 (.q 1 (.q 2 (.q 3 (.q 4 (.q 5 (.q 6 (.q 8 (.q 9 (.q 10 (.q 12 (.s 7 (.q 11 (.q 13 (.s 14 .nil))))))))))))))) (by kernel_rfl) (by kernel_rfl) rfl (by kernel_rfl) (fun w_73 hc_75 => (SL.cons ((h_68.same hc_75).ok _ (.head _)) (SL.cons ((h_68.same hc_75).ok _ (.tail _ (.tail _ (.head _)))) (SL.cons ((h_68.same hc_75).ok _ (.tail _ (.tail _ (.tail _ (.head _))))) (SL.cons ((h_68.same hc_75).ok _ (.tail _ (.tail _ (.tail _ (.tail _ (.head _)))))) (SL.nil _ _)))))) (fun w_73 hc_75 => ?_)
          have h_74 := h_68.same hc_75
          refine WT.q rfl (Wn.no rfl) rfl rfl (fun wq hS => R.move (v := (vi ((i : Nat) : Int))) rfl) ?_
          refine WT.q rfl (Wn.no rfl) rfl rfl (fun wq hS => R.move (v := (vi ((k : Nat) : Int))) rfl) ?_
          refine WT.q rfl (Wn.no rfl) rfl rfl (fun wq hS => R.move (v := (vi ((i : Nat) : Int))) rfl) ?_
          refine WT.q rfl (Wn.no rfl) rfl rfl (fun wq hS => R.bin (v := (vi ((i - 4 : Nat) : Int))) rfl rfl (bi_sub (c := ((i - 4 : Nat) : Int)) (by omega) (by omega))) ?_
          refine WT.q rfl (Wn.no rfl) rfl rfl (fun wq hS => R.move (v := (vi ((k : Nat) : Int))) rfl) ?_
          refine WT.q rfl (Wn.no rfl) rfl rfl (fun wq hS => R.indexA (b := b_10) (off := 0) (off' := (0 + ((i - 4) * 4))) (i := i - 4) rfl rfl rfl (by omega) Try.underlying101 Try.sizeOf100 rfl) ?_
          refine WT.q rfl (Wn.no rfl) rfl rfl (fun wq hS => R.indexA (b := b_10) (off := (0 + ((i - 4) * 4))) (off' := (0 + ((i - 4) * 4 + k))) (i := k) rfl rfl rfl (by omega) Try.underlying100 Try.sizeOf5 (by omega)) ?_
          refine WT.q rfl (Wn.no rfl) rfl rfl (fun wq hS => R.move (v := (vi ((k : Nat) : Int))) rfl) ?_
          refine WT.q rfl (Wn.no rfl) rfl rfl (fun wq hS => R.indexA (b := b_38) (off := 0) (off' := (0 + k)) (i := k) rfl rfl rfl (by omega) Try.underlying100 Try.sizeOf5 (by rw [Nat.mul_one])) ?_
          refine WT.q rfl (Wn.no rfl) rfl rfl (fun wq hS => R.loadE (b := b_38) (off := (0 + k)) (i := k) (v := (vu8 ((((pre 176 (K tb key) (4 * i)).drop ((i - 1) * 4)).take 4).getD k 0))) rfl Try.isAgg5 (hS _ (.head _)) Sg.h rfl (get_u8 (lt_len (K := 4) (subLen (K := 176) (pre_len (by omega)) (by omega) : List.length (((pre 176 (K tb key) (4 * i)).drop ((i - 1) * 4)).take 4) = 4) (by omega)))) ?_
          refine WT.q rfl (Wn.no rfl) rfl rfl (fun wq hS => R.indexA (b := b_10) (off := 0) (off' := (0 + (i * 4))) (i := i) rfl rfl rfl (by omega) Try.underlying101 Try.sizeOf100 rfl) ?_
          refine WT.s ?_
          refine Op1.one rfl (Wn.no rfl) ?_
          refine WL.q (Wn.no rfl) rfl rfl (R.loadE (b := b_10) (off := (0 + ((i - 4) * 4 + k))) (i := (i - 4) * 4 + k) (v := (vu8 ((pre 176 (K tb key) (4 * i + k)).getD ((i - 4) * 4 + k) 0))) rfl Try.isAgg5 (h_74.ok _ (.tail _ (.head _))) Sg.h rfl (get_u8 (lt_len (K := 176) (pre_len (by omega)) (by omega)))) ?_
          refine WL.nil ?_
          refine ⟨(SL.cons (h_74.ok _ (.head _)) (SL.cons (h_74.ok _ (.tail _ (.tail _ (.head _)))) (SL.cons (h_74.ok _ (.tail _ (.tail _ (.tail _ (.head _))))) (SL.cons (h_74.ok _ (.tail _ (.tail _ (.tail _ (.tail _ (.head _)))))) (SL.nil _ _))))), ?_⟩
          refine WT.q rfl (Wn.no rfl) rfl rfl (fun wq hS => R.bin (v := (vu8 (((pre 176 (K tb key) (4 * i + k)).getD ((i - 4) * 4 + k) 0) ^^^ ((((pre 176 (K tb key) (4 * i)).drop ((i - 1) * 4)).take 4).getD k 0)))) rfl rfl (b8_xor ((pre 176 (K tb key) (4 * i + k)).getD ((i - 4) * 4 + k) 0) ((((pre 176 (K tb key) (4 * i)).drop ((i - 1) * 4)).take 4).getD k 0))) ?_
          refine WT.q rfl (Wn.no rfl) rfl rfl (fun wq hS => R.indexA (b := b_10) (off := (0 + (i * 4))) (off' := (0 + (i * 4 + k))) (i := k) rfl rfl rfl (by omega) Try.underlying100 Try.sizeOf5 (by omega)) ?_
          refine WT.s ?_
          refine Op1.one rfl (Wn.no rfl) ?_
          refine WL.storeE (b := b_10) (off := (0 + (i * 4 + k))) (i := i * 4 + k) (v := (vu8 (((pre 176 (K tb key) (4 * i + k)).getD ((i - 4) * 4 + k) 0) ^^^ ((((pre 176 (K tb key) (4 * i)).drop ((i - 1) * 4)).take 4).getD k 0)))) (cs' := ((pre 176 (K tb key) (4 * i + k)).set (i * 4 + k) (((pre 176 (K tb key) (4 * i + k)).getD ((i - 4) * 4 + k) 0) ^^^ ((((pre 176 (K tb key) (4 * i)).drop ((i - 1) * 4)).take 4).getD k 0))).map vu8) h_74 rfl rfl Try.sizeOf5 rfl (At.t At.h) (by decide) Sg.h rfl (lt_len (K := 176) (len_map (pre_len (by omega))) (by omega)) (set_u8 _ _ _) (fun w_76 h_77 => ?_)
          refine WL.nil ?_
          refine ⟨(SL.cons (h_77.ok _ (.head _)) (SL.cons (h_77.ok _ (.tail _ (.tail _ (.head _)))) (SL.cons (h_77.ok _ (.tail _ (.tail _ (.tail _ (.head _))))) (SL.cons (h_77.ok _ (.tail _ (.tail _ (.tail _ (.tail _ (.head _)))))) (SL.nil _ _))))), ?_⟩
          refine WT.nil ?_
          refine inb_n ?_
          refine thn_n ?_
          refine WP.reg ?_
          refine WL.q (Wn.no rfl) rfl rfl (R.move (v := (vi ((k : Nat) : Int))) rfl) ?_
          refine WL.q (Wn.no rfl) rfl rfl (R.bin (v := (vi ((k + 1 : Nat) : Int))) rfl rfl (bi_add (c := ((k + 1 : Nat) : Int)) (by omega) (by omega))) ?_
          refine WL.q (Wn.no rfl) rfl rfl (R.assign (v := (vi ((k + 1 : Nat) : Int))) rfl) ?_
          refine WL.nil ?_
          refine thn_n ?_
          rw [w_step (tb := tb) hkey (by omega) (by omega) (by omega) (w_old (by omega) (by omega))] at h_77
          exact ⟨k + 1, _, (by omega), (Ag.upd rfl (Ag.upd rfl (Ag.upd rfl (Ag.upd rfl (Ag.upd rfl (Ag.upd rfl (Ag.upd rfl (Ag.upd rfl (Ag.upd rfl (Ag.upd rfl (Ag.upd rfl (Ag.upd rfl (Ag.upd rfl (Ag.upd rfl (Ag.upd rfl (Ag.upd rfl (Ag.upd rfl (Ag.upd rfl (Ag.upd rfl (Ag.updL rfl (Ag.mix _ _ _))))))))))))))))))))), ⟨rfl, trivial⟩, h_77, (by omega), rfl⟩
        · have p_78 := of_decide_eq_false c_71
          refine WP.exit ?_
          refine thn_x ?_
          refine thn_x ?_
          refine inb_hit ?_
          refine inb_n ?_
          refine thn_n ?_
          refine WP.reg ?_
          refine WL.q (Wn.no rfl) rfl rfl (R.move (v := (vi ((i : Nat) : Int))) rfl) ?_
          refine WL.q (Wn.no rfl) rfl rfl (R.bin (v := (vi ((i + 1 : Nat) : Int))) rfl rfl (bi_add (c := ((i + 1 : Nat) : Int)) (by omega) (by omega))) ?_
          refine WL.q (Wn.no rfl) rfl rfl (R.assign (v := (vi ((i + 1 : Nat) : Int))) rfl) ?_
          refine WL.nil ?_
          refine thn_n ?_
          have hk4 : k = 4 := by omega
          subst hk4
          have h_79 := h_68.drop rfl
          rw [show 4 * i + 4 = 4 * (i + 1) by omega] at h_79
          exact ⟨i + 1, _, (by omega), (Ag.upd rfl (Ag.upd rfl (Ag.upd rfl (Ag.upd rfl (Ag.upd rfl (Ag.updL rfl (Ag.trans (Ag.sub rfl (Ag.mix _ _ _)) (Ag.upd rfl (Ag.upd rfl (Ag.upd rfl (Ag.upd rfl (Ag.upd rfl (Ag.upd rfl (Ag.upd rfl (Ag.upd rfl (Ag.upd rfl (Ag.upd rfl (Ag.upd rfl (Ag.updL rfl (Ag.mix _ _ _)))))))))))))))))))), ⟨congrArg vu8 (pw_no (i := i) (by omega)), rfl, trivial⟩, h_79, (by omega), (by omega), rfl⟩
    · have p_80 := of_decide_eq_false c_36
      refine WP.exit ?_
      refine thn_x ?_
      refine thn_x ?_
      refine inb_hit ?_
      refine thn_n ?_
      refine WP.seq ?_
      refine WP.reg ?_
      refine WL.alloc (segs := [(176, (List.replicate 176 (0 : UInt8)).map vu8)]) h_33 (zv Try.typeInfo74 rfl) rfl (SsOk.cons (SOk.u8 (List.length_replicate ..)) SsOk.nil) rfl (fun b_81 w_82 h_83 => ?_)
      refine WL.nil ?_
      refine thn_n ?_
      refine WP.seq ?_
      refine WP.seq ?_
      refine WP.reg ?_
      refine WL.q (Wn.no rfl) rfl rfl (R.assign (v := (vi 0)) rfl) ?_
      refine WL.nil ?_
      refine thn_n ?_
      refine WP.block ?_
      have hi44 : i = 44 := by omega
      subst hi44
      refine WP.loopG (G := Nat) [13, 14, 83, 84, 85, 86, 87, 88, 89, 90, 91, 92, 93, 94, 95, 96, 97, 98, 99, 100, 101, 102, 103, 104] (fun i => [(13, (vi ((i : Nat) : Int)))]) (fun i m w1 => HP w w1 [.blk b_81 .nw 74 [(176, (pre 176 (K tb key) (4 * i)).map vu8)], .blk b_10 .nw 101 [(176, (pre 176 (K tb key) (4 * 44)).map vu8)], .blk b_7 .nw 74 [(176, (List.replicate 176 (0 : UInt8)).map vu8)], .blk b_4 .nw 72 [(256, tb.map vu8)], .blk b_1 .nw 66 [(16, key.map vu8)]] ∧ (i ≤ 44) ∧ m = 44 - i) ⟨0, _, ⟨rfl, trivial⟩, (by rw [Nat.mul_zero, pre_0]; exact h_83), (by omega), rfl⟩ ?_
      rintro i m_86 J_87 w_84 ⟨h_85, hi, rfl⟩
      refine WP.seq ?_
      refine WP.seq ?_
      refine WP.reg ?_
      refine WL.q (Wn.no rfl) rfl rfl (R.move (v := (vi ((i : Nat) : Int))) rfl) ?_
      refine WL.q (Wn.no rfl) rfl rfl (R.bin (v := (.bool (decide ((((i : Nat) : Int) : Int) < 44)))) rfl rfl (bi_lss (r := decide ((((i : Nat) : Int) : Int) < 44)) rfl)) ?_
      refine WL.nil ?_
      refine thn_n ?_
      refine WP.cond (b := decide ((((i : Nat) : Int) : Int) < 44)) rfl (fun c_88 => ?_) (fun c_88 => ?_)
      · have p_89 := of_decide_eq_true c_88
        refine WP.skip ?_
        refine thn_n ?_
        refine WP.seq ?_
        refine WP.block ?_
        refine WP.seq ?_
        refine WP.reg ?_
        refine WL.q (Wn.no rfl) rfl rfl (R.assign (v := (vi 0)) rfl) ?_
        refine WL.nil ?_
        refine thn_n ?_
        refine WP.block ?_
        refine WP.loopG (G := Nat) [14, 87, 88, 89, 90, 91, 92, 93, 94, 95, 96, 97, 98, 99, 100, 101, 102, 103, 104] (fun k => [(14, (vi ((k : Nat) : Int)))]) (fun k m w1 => HP w w1 [.blk b_81 .nw 74 [(176, (pre 176 (K tb key) (4 * i + k)).map vu8)], .blk b_10 .nw 101 [(176, (pre 176 (K tb key) (4 * 44)).map vu8)], .blk b_7 .nw 74 [(176, (List.replicate 176 (0 : UInt8)).map vu8)], .blk b_4 .nw 72 [(256, tb.map vu8)], .blk b_1 .nw 66 [(16, key.map vu8)]] ∧ (k ≤ 4) ∧ m = 4 - k) ⟨0, _, ⟨rfl, trivial⟩, h_85, (by omega), rfl⟩ ?_
        rintro k m_92 J_93 w_90 ⟨h_91, hk, rfl⟩
        refine WP.seq ?_
        refine WP.seq ?_
        refine WP.reg ?_
        refine WL.q (Wn.no rfl) rfl rfl (R.move (v := (vi ((k : Nat) : Int))) rfl) ?_
        refine WL.q (Wn.no rfl) rfl rfl (R.bin (v := (.bool (decide ((((k : Nat) : Int) : Int) < 4)))) rfl rfl (bi_lss (r := decide ((((k : Nat) : Int) : Int) < 4)) rfl)) ?_
        refine WL.nil ?_
        refine thn_n ?_
        refine WP.cond (b := decide ((((k : Nat) : Int) : Int) < 4)) rfl (fun c_94 => ?_) (fun c_94 => ?_)
        · have p_95 := of_decide_eq_true c_94
          refine WP.skip ?_
          refine thn_n ?_
          refine WP.seq ?_
          refine WP.block ?_
          refine WP.drawT (SL w.heap.size [.blk b_10 .nw 101 [(176, (pre 176 (K tb key) (4 * 44)).map vu8)], .blk b_7 .nw 74 [(176, (List.replicate 176 (0 : UInt8)).map vu8)], .blk b_4 .nw 72 [(256, tb.map vu8)], .blk b_1 .nw 66 [(16, key.map vu8)]]) (.q 0 (.q 1 (.q 2 (.q 3 (.q 4 (.q 5 (.q 6 (.q 7 (.q 8 (.q 9 (.q 10 (.q 11 (.q 12 (.q 13 (.s 14 .nil))))))))))))))) (by kernel_rfl) (by kernel_rfl) rfl (by kernel_rfl) (fun w_96 hc_98 => (SL.cons ((h_91.same hc_98).ok _ (.tail _ (.head _))) (SL.cons ((h_91.same hc_98).ok _ (.tail _ (.tail _ (.head _)))) (SL.cons ((h_91.same hc_98).ok _ (.tail _ (.tail _ (.tail _ (.head _))))) (SL.cons ((h_91.same hc_98).ok _ (.tail _ (.tail _ (.tail _ (.tail _ (.head _)))))) (SL.nil _ _)))))) (fun w_96 hc_98 => ?_)
          have h_97 := h_91.same hc_98
          refine WT.q rfl (Wn.no rfl) rfl rfl (fun wq hS => R.move (v := (vi ((i : Nat) : Int))) rfl) ?_
          refine WT.q rfl (Wn.no rfl) rfl rfl (fun wq hS => R.bin (v := (vi ((i / 4 : Nat) : Int))) rfl rfl (bi_quo (c := ((i / 4 : Nat) : Int)) (by first | omega | exact ⟨Int.natCast_nonneg _, by omega⟩) (by omega) (by first | omega | rfl))) ?_
          refine WT.q rfl (Wn.no rfl) rfl rfl (fun wq hS => R.move (v := (vi ((i : Nat) : Int))) rfl) ?_
          refine WT.q rfl (Wn.no rfl) rfl rfl (fun wq hS => R.bin (v := (vi ((i % 4 : Nat) : Int))) rfl rfl (bi_rem (c := ((i % 4 : Nat) : Int)) (Int.natCast_nonneg _) (by omega) (by first | omega | rfl))) ?_
          refine WT.q rfl (Wn.no rfl) rfl rfl (fun wq hS => R.bin (v := (vi ((4 * (i % 4) : Nat) : Int))) rfl rfl (bi_mul (c := ((4 * (i % 4) : Nat) : Int)) (by omega) (by omega))) ?_
          refine WT.q rfl (Wn.no rfl) rfl rfl (fun wq hS => R.move (v := (vi ((k : Nat) : Int))) rfl) ?_
          refine WT.q rfl (Wn.no rfl) rfl rfl (fun wq hS => R.bin (v := (vi ((4 * (i % 4) + k : Nat) : Int))) rfl rfl (bi_add (c := ((4 * (i % 4) + k : Nat) : Int)) (by omega) (by omega))) ?_
          refine WT.q rfl (Wn.no rfl) rfl rfl (fun wq hS => R.move (v := (vi ((i : Nat) : Int))) rfl) ?_
          refine WT.q rfl (Wn.no rfl) rfl rfl (fun wq hS => R.move (v := (vi ((k : Nat) : Int))) rfl) ?_
          refine WT.q rfl (Wn.no rfl) rfl rfl (fun wq hS => R.indexA (b := b_10) (off := 0) (off' := (0 + (i * 4))) (i := i) rfl rfl rfl (by omega) Try.underlying101 Try.sizeOf100 rfl) ?_
          refine WT.q rfl (Wn.no rfl) rfl rfl (fun wq hS => R.indexA (b := b_10) (off := (0 + (i * 4))) (off' := (0 + (i * 4 + k))) (i := k) rfl rfl rfl (by omega) Try.underlying100 Try.sizeOf5 (by omega)) ?_
          refine WT.q rfl (Wn.no rfl) rfl rfl (fun wq hS => R.loadE (b := b_10) (off := (0 + (i * 4 + k))) (i := i * 4 + k) (v := (vu8 ((pre 176 (K tb key) (4 * 44)).getD (i * 4 + k) 0))) rfl Try.isAgg5 (hS _ (.head _)) Sg.h rfl (get_u8 (lt_len (K := 176) (pre_len (by omega)) (by omega)))) ?_
          refine WT.q rfl (Wn.no rfl) rfl rfl (fun wq hS => R.indexA (b := b_81) (off := 0) (off' := (0 + ((i / 4) * 16))) (i := i / 4) rfl rfl rfl (by omega) Try.underlying74 Try.sizeOf66 rfl) ?_
          refine WT.q rfl (Wn.no rfl) rfl rfl (fun wq hS => R.indexA (b := b_81) (off := (0 + ((i / 4) * 16))) (off' := (0 + ((i / 4) * 16 + (4 * (i % 4) + k)))) (i := 4 * (i % 4) + k) rfl rfl rfl (by omega) Try.underlying66 Try.sizeOf5 (by omega)) ?_
          refine WT.s ?_
          refine Op1.one rfl (Wn.no rfl) ?_
          refine WL.storeE (b := b_81) (off := (0 + ((i / 4) * 16 + (4 * (i % 4) + k)))) (i := (i / 4) * 16 + (4 * (i % 4) + k)) (v := (vu8 ((pre 176 (K tb key) (4 * 44)).getD (i * 4 + k) 0))) (cs' := ((pre 176 (K tb key) (4 * i + k)).set ((i / 4) * 16 + (4 * (i % 4) + k)) ((pre 176 (K tb key) (4 * 44)).getD (i * 4 + k) 0)).map vu8) h_97 rfl rfl Try.sizeOf5 rfl At.h (by decide) Sg.h rfl (lt_len (K := 176) (len_map (pre_len (by omega))) (by omega)) (set_u8 _ _ _) (fun w_99 h_100 => ?_)
          refine WL.nil ?_
          refine ⟨(SL.cons (h_100.ok _ (.tail _ (.head _))) (SL.cons (h_100.ok _ (.tail _ (.tail _ (.head _)))) (SL.cons (h_100.ok _ (.tail _ (.tail _ (.tail _ (.head _))))) (SL.cons (h_100.ok _ (.tail _ (.tail _ (.tail _ (.tail _ (.head _)))))) (SL.nil _ _))))), ?_⟩
          refine WT.nil ?_
          refine inb_n ?_
          refine thn_n ?_
          refine WP.reg ?_
          refine WL.q (Wn.no rfl) rfl rfl (R.move (v := (vi ((k : Nat) : Int))) rfl) ?_
          refine WL.q (Wn.no rfl) rfl rfl (R.bin (v := (vi ((k + 1 : Nat) : Int))) rfl rfl (bi_add (c := ((k + 1 : Nat) : Int)) (by omega) (by omega))) ?_
          refine WL.q (Wn.no rfl) rfl rfl (R.assign (v := (vi ((k + 1 : Nat) : Int))) rfl) ?_
          refine WL.nil ?_
          refine thn_n ?_
          rw [w_copy (by omega) (by omega)] at h_100
          exact ⟨k + 1, _, (by omega), (Ag.upd rfl (Ag.upd rfl (Ag.upd rfl (Ag.upd rfl (Ag.upd rfl (Ag.upd rfl (Ag.upd rfl (Ag.upd rfl (Ag.upd rfl (Ag.upd rfl (Ag.upd rfl (Ag.upd rfl (Ag.upd rfl (Ag.upd rfl (Ag.upd rfl (Ag.upd rfl (Ag.upd rfl (Ag.upd rfl (Ag.upd rfl (Ag.updL rfl (Ag.mix _ _ _))))))))))))))))))))), ⟨rfl, trivial⟩, h_100, (by omega), rfl⟩
        · have p_101 := of_decide_eq_false c_94
          refine WP.exit ?_
          refine thn_x ?_
          refine thn_x ?_
          refine inb_hit ?_
          refine inb_n ?_
          refine thn_n ?_
          refine WP.reg ?_
          refine WL.q (Wn.no rfl) rfl rfl (R.move (v := (vi ((i : Nat) : Int))) rfl) ?_
          refine WL.q (Wn.no rfl) rfl rfl (R.bin (v := (vi ((i + 1 : Nat) : Int))) rfl rfl (bi_add (c := ((i + 1 : Nat) : Int)) (by omega) (by omega))) ?_
          refine WL.q (Wn.no rfl) rfl rfl (R.assign (v := (vi ((i + 1 : Nat) : Int))) rfl) ?_
          refine WL.nil ?_
          refine thn_n ?_
          have hk4 : k = 4 := by omega
          subst hk4
          rw [show 4 * i + 4 = 4 * (i + 1) by omega] at h_91
          exact ⟨i + 1, _, (by omega), (Ag.upd rfl (Ag.upd rfl (Ag.upd rfl (Ag.upd rfl (Ag.upd rfl (Ag.updL rfl (Ag.trans (Ag.sub rfl (Ag.mix _ _ _)) (Ag.upd rfl (Ag.upd rfl (Ag.upd rfl (Ag.updL rfl (Ag.mix _ _ _)))))))))))), ⟨rfl, trivial⟩, h_91, (by omega), rfl⟩
      · have p_102 := of_decide_eq_false c_88
        refine WP.exit ?_
        refine thn_x ?_
        refine thn_x ?_
        refine inb_hit ?_
        refine thn_n ?_
        refine WP.seq ?_
        refine WP.reg ?_
        refine WL.q (Wn.no rfl) rfl rfl (R.loadA (b := b_81) (off := 0) [] [(176, (pre 176 (K tb key) (4 * i)).map vu8)] [] (cs := (pre 176 (K tb key) (4 * i)).map vu8) rfl Try.isAgg74 Try.sizeOf74 (h_85.ok _ (.head _)) rfl rfl rfl rfl) ?_
        refine WL.storeA (b := b_7) (off := 0) [] [(176, (List.replicate 176 (0 : UInt8)).map vu8)] [(176, (pre 176 (K tb key) (4 * i)).map vu8)] [] (ys := (pre 176 (K tb key) (4 * i)).map vu8) h_85 rfl rfl Try.sizeOf74 (At.t (At.t At.h)) (by decide) rfl rfl rfl rfl rfl rfl (SsOk.cons (SOk.u8 (pre_len (by omega))) SsOk.nil) (fun w_103 h_104 => ?_)
        refine WL.nil ?_
        refine thn_n ?_
        refine WP.ret ?_
        refine ret_of Try.results58 (RV.cell rfl (h_104.loadA (cs := (pre 176 (K tb key) (4 * i)).map vu8) Try.isAgg74 Try.sizeOf74 (.tail _ (.tail _ (.head _))) rfl rfl) RV.nil) ?_
        have hi44 : i = 44 := by omega
        subst hi44
        exact ⟨by rw [show 4 * 44 = 176 from rfl, pre_all]; rfl, h_104.chgS⟩
end Go.Proofs.Ytcmgadjnammahaa
