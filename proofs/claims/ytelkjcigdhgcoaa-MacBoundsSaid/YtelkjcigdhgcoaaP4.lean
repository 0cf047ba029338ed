/- A block pressed in, by the document: contracts. Conditions: those that each theorem states. -/
import Derived.Test.YtelkjcigdhgcoaaP3
namespace Go.Proofs.Ytelkjcigdhgcoaa
open Go.Vc Go.Sh Go.RowKit
set_option linter.unusedVariables false
set_option linter.unusedSimpArgs false
set_option maxRecDepth 20000

theorem c_PressR (hh ks : List UInt32) (hhl : hh.length = 8) (hkl : ks.length = 64) (bs : List UInt8) (hl : bs.length = 64) (ak : Option Addr) (kc : Nat) (w : World) (hv : View w ak (ks.map vu32)) :
    Cs Try.prog 25 [(.agg ⟨hh.map vu32⟩), (.agg ⟨bs.map vu8⟩), (.slice ak 64 kc)].toArray w (fun v w1 => v = (.agg ⟨(pressL ks hh bs).map vu32⟩) ∧ Chg w w1 []) := by
  refine Cs.of (n := 204) (args := [(.agg ⟨hh.map vu32⟩), (.agg ⟨bs.map vu8⟩), (.slice ak 64 kc)]) Try.func25 rfl rfl rfl ?_
  have h_0 := HP.init w
  have h_00 := h_0.old (View.arg hv) (fun f hf => by cases hf)
  refine WP.seq ?_
  refine WP.reg ?_
  refine WL.box (v := (.agg ⟨hh.map vu32⟩)) (segs := [(8, hh.map vu32)]) h_00 rfl rfl (SsOk.cons (SOk.u32 hhl) SsOk.nil) rfl (fun b_1 w_2 h_3 => ?_)
  refine WL.box (v := (.agg ⟨bs.map vu8⟩)) (segs := [(64, bs.map vu8)]) h_3 rfl rfl (SsOk.cons (SOk.u8 hl) SsOk.nil) rfl (fun b_4 w_5 h_6 => ?_)
  refine WL.alloc (segs := [(8, (List.replicate 8 (0 : UInt32)).map vu32)]) h_6 (zv Try.typeInfo33 rfl) rfl (SsOk.cons (SOk.u32 (List.length_replicate ..)) SsOk.nil) rfl (fun b_7 w_8 h_9 => ?_)
  refine WL.nil ?_
  refine thn_n ?_
  refine WP.seq ?_
  refine WP.reg ?_
  refine WL.q (Wn.no rfl) rfl rfl (R.assign (v := (.slice none 0 0)) rfl) ?_
  refine WL.nil ?_
  refine thn_n ?_
  refine WP.seq ?_
  refine WP.seq ?_
  refine WP.reg ?_
  refine WL.q (Wn.no rfl) rfl rfl (R.assign (v := (vi 0)) rfl) ?_
  refine WL.nil ?_
  refine thn_n ?_
  refine WP.block ?_
  have h_10 := h_9.rowNil 22 1
  refine WP.loopG (G := Nat × Option Addr × Nat) [7, 8, 25, 26, 27, 28, 29, 30, 31, 32, 33, 34, 35, 36, 37, 38, 39, 40, 41, 42, 43, 44, 45, 46, 47, 48, 49, 50, 51, 52, 53, 54, 55, 56, 57, 58, 59, 60] (fun (i, ra, rc) => [(7, (.slice ra i rc)), (8, (vi ((i : Nat) : Int)))]) (fun (i, ra, rc) m w1 => HP w w1 [.row ra i rc 22 1 ((wL bs i).map vu32), .blk b_7 .nw 33 [(8, (List.replicate 8 (0 : UInt32)).map vu32)], .blk b_4 .nw 34 [(64, bs.map vu8)], .blk b_1 .nw 33 [(8, hh.map vu32)], .view ak (ks.map vu32)] ∧ (i ≤ 16) ∧ m = 16 - i) ⟨(0, none, 0), _, ⟨rfl, rfl, trivial⟩, h_10, Nat.zero_le _, rfl⟩ ?_
  rintro ⟨i, ra, rc⟩ m_13 J_14 w_11 ⟨h_12, hi, rfl⟩
  refine WP.seq ?_
  refine WP.seq ?_
  refine WP.reg ?_
  refine WL.q (Wn.no rfl) rfl rfl (R.move (v := (vi ((i : Nat) : Int))) rfl) ?_
  refine WL.q (Wn.no rfl) rfl rfl (R.bin (v := (.bool (decide ((((i : Nat) : Int) : Int) < 16)))) rfl rfl (bi_lss (r := decide ((((i : Nat) : Int) : Int) < 16)) rfl)) ?_
  refine WL.nil ?_
  refine thn_n ?_
  refine WP.cond (b := decide ((((i : Nat) : Int) : Int) < 16)) rfl (fun c_15 => ?_) (fun c_15 => ?_)
  · have p_16 := of_decide_eq_true c_15
    refine WP.skip ?_
    refine thn_n ?_
    refine WP.seq ?_
    refine WP.block ?_
    refine WP.drawT (SL w.heap.size [.blk b_7 .nw 33 [(8, (List.replicate 8 (0 : UInt32)).map vu32)], .blk b_4 .nw 34 [(64, bs.map vu8)], .blk b_1 .nw 33 [(8, hh.map vu32)], .view ak (ks.map vu32)]) (.q 0 (.q 1 (.q 2 (.q 3 (.q 4 (.q 5 (.q 6 (.q 7 (.q 8 (.q 9 (.q 10 (.q 11 (.q 12 (.q 13 (.q 14 (.q 15 (.q 16 (.q 17 (.q 18 (.q 19 (.q 20 (.q 21 (.q 22 (.q 23 (.q 24 (.q 25 (.q 26 (.q 27 (.q 28 (.q 29 (.s 30 (.s 31 (.q 32 .nil))))))))))))))))))))))))))))))))) (by kernel_rfl) (by kernel_rfl) rfl (by kernel_rfl) (fun w_17 hc_19 => (SL.cons ((h_12.same hc_19).ok _ (.tail _ (.head _))) (SL.cons ((h_12.same hc_19).ok _ (.tail _ (.tail _ (.head _)))) (SL.cons ((h_12.same hc_19).ok _ (.tail _ (.tail _ (.tail _ (.head _))))) (SL.cons ((h_12.same hc_19).ok _ (.tail _ (.tail _ (.tail _ (.tail _ (.head _)))))) (SL.nil _ _)))))) (fun w_17 hc_19 => ?_)
    have h_18 := h_12.same hc_19
    refine WT.q rfl (Wn.no rfl) rfl rfl (fun wq hS => R.move (v := (.slice ra i rc)) rfl) ?_
    refine WT.q rfl (Wn.no rfl) rfl rfl (fun wq hS => R.move (v := (vi ((i : Nat) : Int))) rfl) ?_
    refine WT.q rfl (Wn.no rfl) rfl rfl (fun wq hS => R.bin (v := (vi ((4 * i : Nat) : Int))) rfl rfl (bi_mul (c := ((4 * i : Nat) : Int)) (by omega) (by omega))) ?_
    refine WT.q rfl (Wn.no rfl) rfl rfl (fun wq hS => R.indexA (b := b_4) (off := 0) (off' := (0 + (4 * i))) (i := 4 * i) rfl rfl rfl (by omega) Try.underlying34 Try.sizeOf5 (by rw [Nat.mul_one])) ?_
    refine WT.q rfl (Wn.no rfl) rfl rfl (fun wq hS => R.loadE (b := b_4) (off := (0 + (4 * i))) (i := 4 * i) (v := (vu8 (bs.getD (4 * i) 0))) rfl Try.isAgg5 (hS _ (.tail _ (.head _))) Sg.h rfl (get_u8 (lt_len (K := 64) hl (by omega)))) ?_
    refine WT.q rfl (Wn.no rfl) rfl rfl (fun wq hS => R.conv (b := ((UInt32.ofNat ((bs.getD (4 * i) 0).toNat)) : UInt32).toNat) rfl Try.underlying5 Try.underlying22 (w32_nat ((bs.getD (4 * i) 0).toNat))) ?_
    refine WT.q rfl (Wn.no rfl) rfl rfl (fun wq hS => R.binR (v := vu32 (shl32 (UInt32.ofNat ((bs.getD (4 * i) 0).toNat)) 24)) rfl rfl (run_shl32 _ _ _ (UInt32.ofNat ((bs.getD (4 * i) 0).toNat)) _ 24)) ?_
    refine WT.q rfl (Wn.no rfl) rfl rfl (fun wq hS => R.move (v := (vi ((i : Nat) : Int))) rfl) ?_
    refine WT.q rfl (Wn.no rfl) rfl rfl (fun wq hS => R.bin (v := (vi ((4 * i : Nat) : Int))) rfl rfl (bi_mul (c := ((4 * i : Nat) : Int)) (by omega) (by omega))) ?_
    refine WT.q rfl (Wn.no rfl) rfl rfl (fun wq hS => R.bin (v := (vi ((4 * i + 1 : Nat) : Int))) rfl rfl (bi_add (c := ((4 * i + 1 : Nat) : Int)) (by omega) (by omega))) ?_
    refine WT.q rfl (Wn.no rfl) rfl rfl (fun wq hS => R.indexA (b := b_4) (off := 0) (off' := (0 + (4 * i + 1))) (i := 4 * i + 1) rfl rfl rfl (by omega) Try.underlying34 Try.sizeOf5 (by rw [Nat.mul_one])) ?_
    refine WT.q rfl (Wn.no rfl) rfl rfl (fun wq hS => R.loadE (b := b_4) (off := (0 + (4 * i + 1))) (i := 4 * i + 1) (v := (vu8 (bs.getD (4 * i + 1) 0))) rfl Try.isAgg5 (hS _ (.tail _ (.head _))) Sg.h rfl (get_u8 (lt_len (K := 64) hl (by omega)))) ?_
    refine WT.q rfl (Wn.no rfl) rfl rfl (fun wq hS => R.conv (b := ((UInt32.ofNat ((bs.getD (4 * i + 1) 0).toNat)) : UInt32).toNat) rfl Try.underlying5 Try.underlying22 (w32_nat ((bs.getD (4 * i + 1) 0).toNat))) ?_
    refine WT.q rfl (Wn.no rfl) rfl rfl (fun wq hS => R.binR (v := vu32 (shl32 (UInt32.ofNat ((bs.getD (4 * i + 1) 0).toNat)) 16)) rfl rfl (run_shl32 _ _ _ (UInt32.ofNat ((bs.getD (4 * i + 1) 0).toNat)) _ 16)) ?_
    refine WT.q rfl (Wn.no rfl) rfl rfl (fun wq hS => R.bin (v := (vu32 ((shl32 (UInt32.ofNat ((bs.getD (4 * i) 0).toNat)) 24) + (shl32 (UInt32.ofNat ((bs.getD (4 * i + 1) 0).toNat)) 16)))) rfl rfl (b32_add (shl32 (UInt32.ofNat ((bs.getD (4 * i) 0).toNat)) 24) (shl32 (UInt32.ofNat ((bs.getD (4 * i + 1) 0).toNat)) 16))) ?_
    refine WT.q rfl (Wn.no rfl) rfl rfl (fun wq hS => R.move (v := (vi ((i : Nat) : Int))) rfl) ?_
    refine WT.q rfl (Wn.no rfl) rfl rfl (fun wq hS => R.bin (v := (vi ((4 * i : Nat) : Int))) rfl rfl (bi_mul (c := ((4 * i : Nat) : Int)) (by omega) (by omega))) ?_
    refine WT.q rfl (Wn.no rfl) rfl rfl (fun wq hS => R.bin (v := (vi ((4 * i + 2 : Nat) : Int))) rfl rfl (bi_add (c := ((4 * i + 2 : Nat) : Int)) (by omega) (by omega))) ?_
    refine WT.q rfl (Wn.no rfl) rfl rfl (fun wq hS => R.indexA (b := b_4) (off := 0) (off' := (0 + (4 * i + 2))) (i := 4 * i + 2) rfl rfl rfl (by omega) Try.underlying34 Try.sizeOf5 (by rw [Nat.mul_one])) ?_
    refine WT.q rfl (Wn.no rfl) rfl rfl (fun wq hS => R.loadE (b := b_4) (off := (0 + (4 * i + 2))) (i := 4 * i + 2) (v := (vu8 (bs.getD (4 * i + 2) 0))) rfl Try.isAgg5 (hS _ (.tail _ (.head _))) Sg.h rfl (get_u8 (lt_len (K := 64) hl (by omega)))) ?_
    refine WT.q rfl (Wn.no rfl) rfl rfl (fun wq hS => R.conv (b := ((UInt32.ofNat ((bs.getD (4 * i + 2) 0).toNat)) : UInt32).toNat) rfl Try.underlying5 Try.underlying22 (w32_nat ((bs.getD (4 * i + 2) 0).toNat))) ?_
    refine WT.q rfl (Wn.no rfl) rfl rfl (fun wq hS => R.binR (v := vu32 (shl32 (UInt32.ofNat ((bs.getD (4 * i + 2) 0).toNat)) 8)) rfl rfl (run_shl32 _ _ _ (UInt32.ofNat ((bs.getD (4 * i + 2) 0).toNat)) _ 8)) ?_
    refine WT.q rfl (Wn.no rfl) rfl rfl (fun wq hS => R.bin (v := (vu32 (((shl32 (UInt32.ofNat ((bs.getD (4 * i) 0).toNat)) 24) + (shl32 (UInt32.ofNat ((bs.getD (4 * i + 1) 0).toNat)) 16)) + (shl32 (UInt32.ofNat ((bs.getD (4 * i + 2) 0).toNat)) 8)))) rfl rfl (b32_add ((shl32 (UInt32.ofNat ((bs.getD (4 * i) 0).toNat)) 24) + (shl32 (UInt32.ofNat ((bs.getD (4 * i + 1) 0).toNat)) 16)) (shl32 (UInt32.ofNat ((bs.getD (4 * i + 2) 0).toNat)) 8))) ?_
    refine WT.q rfl (Wn.no rfl) rfl rfl (fun wq hS => R.move (v := (vi ((i : Nat) : Int))) rfl) ?_
    refine WT.q rfl (Wn.no rfl) rfl rfl (fun wq hS => R.bin (v := (vi ((4 * i : Nat) : Int))) rfl rfl (bi_mul (c := ((4 * i : Nat) : Int)) (by omega) (by omega))) ?_
    refine WT.q rfl (Wn.no rfl) rfl rfl (fun wq hS => R.bin (v := (vi ((4 * i + 3 : Nat) : Int))) rfl rfl (bi_add (c := ((4 * i + 3 : Nat) : Int)) (by omega) (by omega))) ?_
    refine WT.q rfl (Wn.no rfl) rfl rfl (fun wq hS => R.indexA (b := b_4) (off := 0) (off' := (0 + (4 * i + 3))) (i := 4 * i + 3) rfl rfl rfl (by omega) Try.underlying34 Try.sizeOf5 (by rw [Nat.mul_one])) ?_
    refine WT.q rfl (Wn.no rfl) rfl rfl (fun wq hS => R.loadE (b := b_4) (off := (0 + (4 * i + 3))) (i := 4 * i + 3) (v := (vu8 (bs.getD (4 * i + 3) 0))) rfl Try.isAgg5 (hS _ (.tail _ (.head _))) Sg.h rfl (get_u8 (lt_len (K := 64) hl (by omega)))) ?_
    refine WT.q rfl (Wn.no rfl) rfl rfl (fun wq hS => R.conv (b := ((UInt32.ofNat ((bs.getD (4 * i + 3) 0).toNat)) : UInt32).toNat) rfl Try.underlying5 Try.underlying22 (w32_nat ((bs.getD (4 * i + 3) 0).toNat))) ?_
    refine WT.q rfl (Wn.no rfl) rfl rfl (fun wq hS => R.bin (v := (vu32 ((((shl32 (UInt32.ofNat ((bs.getD (4 * i) 0).toNat)) 24) + (shl32 (UInt32.ofNat ((bs.getD (4 * i + 1) 0).toNat)) 16)) + (shl32 (UInt32.ofNat ((bs.getD (4 * i + 2) 0).toNat)) 8)) + (UInt32.ofNat ((bs.getD (4 * i + 3) 0).toNat))))) rfl rfl (b32_add (((shl32 (UInt32.ofNat ((bs.getD (4 * i) 0).toNat)) 24) + (shl32 (UInt32.ofNat ((bs.getD (4 * i + 1) 0).toNat)) 16)) + (shl32 (UInt32.ofNat ((bs.getD (4 * i + 2) 0).toNat)) 8)) (UInt32.ofNat ((bs.getD (4 * i + 3) 0).toNat)))) ?_
    refine WT.s ?_
    refine Op1.one rfl (Wn.no rfl) ?_
    refine WL.buildSl (vs := [(0, (vu32 ((((shl32 (UInt32.ofNat ((bs.getD (4 * i) 0).toNat)) 24) + (shl32 (UInt32.ofNat ((bs.getD (4 * i + 1) 0).toNat)) 16)) + (shl32 (UInt32.ofNat ((bs.getD (4 * i + 2) 0).toNat)) 8)) + (UInt32.ofNat ((bs.getD (4 * i + 3) 0).toNat)))))]) (cs := ([(((shl32 (UInt32.ofNat ((bs.getD (4 * i) 0).toNat)) 24) + (shl32 (UInt32.ofNat ((bs.getD (4 * i + 1) 0).toNat)) 16)) + (shl32 (UInt32.ofNat ((bs.getD (4 * i + 2) 0).toNat)) 8)) + (UInt32.ofNat ((bs.getD (4 * i + 3) 0).toNat))] : List UInt32).map vu32) h_18 Try.underlying37 Try.sizeOf22 (zv Try.typeInfo22 rfl) rfl rfl (by kernel_rfl) rfl (one_u32 _) rfl rfl (fun b_20 w_21 h_22 => ?_)
    refine WL.nil ?_
    refine ⟨(SL.cons (h_22.ok _ (.tail _ (.tail _ (.head _)))) (SL.cons (h_22.ok _ (.tail _ (.tail _ (.tail _ (.head _))))) (SL.cons (h_22.ok _ (.tail _ (.tail _ (.tail _ (.tail _ (.head _)))))) (SL.cons (h_22.ok _ (.tail _ (.tail _ (.tail _ (.tail _ (.tail _ (.head _))))))) (SL.nil _ _))))), ?_⟩
    refine WT.s ?_
    refine Op1.one rfl (Wn.no rfl) ?_
    refine WL.append (km := i + 1) (xs := (wL bs i).map vu32) (ys := ([(((shl32 (UInt32.ofNat ((bs.getD (4 * i) 0).toNat)) 24) + (shl32 (UInt32.ofNat ((bs.getD (4 * i + 1) 0).toNat)) 16)) + (shl32 (UInt32.ofNat ((bs.getD (4 * i + 2) 0).toNat)) 8)) + (UInt32.ofNat ((bs.getD (4 * i + 3) 0).toNat))] : List UInt32).map vu32) (zs := ((wL bs i) ++ ([(((shl32 (UInt32.ofNat ((bs.getD (4 * i) 0).toNat)) 24) + (shl32 (UInt32.ofNat ((bs.getD (4 * i + 1) 0).toNat)) 16)) + (shl32 (UInt32.ofNat ((bs.getD (4 * i + 2) 0).toNat)) 8)) + (UInt32.ofNat ((bs.getD (4 * i + 3) 0).toNat))] : List UInt32)).map vu32) h_22 rfl rfl el37 (viewB (h_22.ok _ (.head _)) Sg.h) ((len_map (rfl : List.length ([(((shl32 (UInt32.ofNat ((bs.getD (4 * i) 0).toNat)) 24) + (shl32 (UInt32.ofNat ((bs.getD (4 * i + 1) 0).toNat)) 16)) + (shl32 (UInt32.ofNat ((bs.getD (4 * i + 2) 0).toNat)) 8)) + (UInt32.ofNat ((bs.getD (4 * i + 3) 0).toNat))] : List UInt32) = 1)).trans (Nat.mul_one _).symm) (one_u32 _) (by simp only [List.map_append, List.map_nil]) (by omega) (by omega) (by omega) (fun _ _ => (At.t At.h)) rfl (fun a_23 c_24 w_25 h_26 => ?_)
    refine WL.nil ?_
    refine ⟨(SL.cons (h_26.ok _ (.tail _ (.tail _ (.head _)))) (SL.cons (h_26.ok _ (.tail _ (.tail _ (.tail _ (.head _))))) (SL.cons (h_26.ok _ (.tail _ (.tail _ (.tail _ (.tail _ (.head _)))))) (SL.cons (h_26.ok _ (.tail _ (.tail _ (.tail _ (.tail _ (.tail _ (.head _))))))) (SL.nil _ _))))), ?_⟩
    refine WT.q rfl (Wn.no rfl) rfl rfl (fun wq hS => R.assign (v := (.slice a_23 (i + 1) c_24)) rfl) ?_
    refine WT.nil ?_
    refine inb_n ?_
    refine thn_n ?_
    refine WP.reg ?_
    refine WL.q (Wn.no rfl) rfl rfl (R.move (v := (vi ((i : Nat) : Int))) rfl) ?_
    refine WL.q (Wn.no rfl) rfl rfl (R.bin (v := (vi ((i + 1 : Nat) : Int))) rfl rfl (bi_add (c := ((i + 1 : Nat) : Int)) (by omega) (by omega))) ?_
    refine WL.q (Wn.no rfl) rfl rfl (R.assign (v := (vi ((i + 1 : Nat) : Int))) rfl) ?_
    refine WL.nil ?_
    refine thn_n ?_
    have h_27 := h_26.drop rfl
    have h_28 := h_27.up (Pick.t (Pick.t (Pick.t (Pick.t Pick.h))))
    have h_29 := h_28.up (Pick.t (Pick.t (Pick.t (Pick.t Pick.h))))
    have h_30 := h_29.up (Pick.t (Pick.t (Pick.t (Pick.t Pick.h))))
    have h_31 := h_30.up (Pick.t (Pick.t (Pick.t (Pick.t Pick.h))))
    have h_32 := h_31.up (Pick.t (Pick.t (Pick.t (Pick.t Pick.h))))
    rw [wL_lo4 (i := i) hl (by omega)] at h_32
    exact ⟨(i + 1, a_23, c_24), _, (by omega), (Ag.upd rfl (Ag.upd rfl (Ag.upd rfl (Ag.upd rfl (Ag.upd rfl (Ag.upd rfl (Ag.upd rfl (Ag.upd rfl (Ag.upd rfl (Ag.upd rfl (Ag.upd rfl (Ag.upd rfl (Ag.upd rfl (Ag.upd rfl (Ag.upd rfl (Ag.upd rfl (Ag.upd rfl (Ag.upd rfl (Ag.upd rfl (Ag.upd rfl (Ag.upd rfl (Ag.upd rfl (Ag.upd rfl (Ag.upd rfl (Ag.upd rfl (Ag.upd rfl (Ag.upd rfl (Ag.upd rfl (Ag.upd rfl (Ag.upd rfl (Ag.upd rfl (Ag.upd rfl (Ag.upd rfl (Ag.upd rfl (Ag.upd rfl (Ag.upd rfl (Ag.upd rfl (Ag.upd rfl (Ag.updL rfl (Ag.mix _ _ _)))))))))))))))))))))))))))))))))))))))), ⟨rfl, rfl, trivial⟩, h_32, (by omega), rfl⟩
  · have p_33 := of_decide_eq_false c_15
    refine WP.exit ?_
    refine thn_x ?_
    refine thn_x ?_
    refine inb_hit ?_
    refine thn_n ?_
    refine WP.seq ?_
    refine WP.seq ?_
    refine WP.reg ?_
    refine WL.q (Wn.no rfl) rfl rfl (R.assign (v := (vi 16)) rfl) ?_
    refine WL.nil ?_
    refine thn_n ?_
    refine WP.block ?_
    have hi16 : i = 16 := by omega
    subst hi16
    refine WP.loopG (G := Nat × Option Addr × Nat) [7, 9, 10, 11, 12, 13, 61, 62, 63, 64, 65, 66, 67, 68, 69, 70, 71, 72, 73, 74, 75, 76, 77, 78, 79, 80, 81, 82, 83, 84, 85, 86, 87, 88, 89, 90, 91, 92, 93, 94, 95, 96, 97, 98, 99, 100, 101, 102, 103, 104, 105, 106, 107, 108] (fun (j, ra2, rc2) => [(7, (.slice ra2 j rc2)), (9, (vi ((j : Nat) : Int)))]) (fun (j, ra2, rc2) m w1 => HP w w1 [.row ra2 j rc2 22 1 ((wL bs j).map vu32), .blk b_7 .nw 33 [(8, (List.replicate 8 (0 : UInt32)).map vu32)], .blk b_4 .nw 34 [(64, bs.map vu8)], .blk b_1 .nw 33 [(8, hh.map vu32)], .view ak (ks.map vu32)] ∧ (16 ≤ j) ∧ (j ≤ 64) ∧ m = 64 - j) ⟨(16, ra, rc), _, ⟨rfl, rfl, trivial⟩, h_12, (by omega), (by omega), rfl⟩ ?_
    rintro ⟨j, ra2, rc2⟩ m_36 J_37 w_34 ⟨h_35, hj, hj2, rfl⟩
    refine WP.seq ?_
    refine WP.seq ?_
    refine WP.reg ?_
    refine WL.q (Wn.no rfl) rfl rfl (R.move (v := (vi ((j : Nat) : Int))) rfl) ?_
    refine WL.q (Wn.no rfl) rfl rfl (R.bin (v := (.bool (decide ((((j : Nat) : Int) : Int) < 64)))) rfl rfl (bi_lss (r := decide ((((j : Nat) : Int) : Int) < 64)) rfl)) ?_
    refine WL.nil ?_
    refine thn_n ?_
    refine WP.cond (b := decide ((((j : Nat) : Int) : Int) < 64)) rfl (fun c_38 => ?_) (fun c_38 => ?_)
    · have p_39 := of_decide_eq_true c_38
      refine WP.skip ?_
      refine thn_n ?_
      refine WP.seq ?_
      refine WP.block ?_
      refine WP.seq ?_
      refine WP.drawT (SL w.heap.size [.row ra2 j rc2 22 1 ((wL bs j).map vu32), .blk b_7 .nw 33 [(8, (List.replicate 8 (0 : UInt32)).map vu32)], .blk b_4 .nw 34 [(64, bs.map vu8)], .blk b_1 .nw 33 [(8, hh.map vu32)], .view ak (ks.map vu32)]) (.q 0 (.q 1 (.q 2 (.q 3 (.q 4 (.q 5 (.q 6 (.q 7 (.q 8 (.q 9 (.q 10 (.q 11 .nil)))))))))))) (by kernel_rfl) (by kernel_rfl) rfl (by kernel_rfl) (fun w_40 hc_42 => (SL.cons ((h_35.same hc_42).ok _ (.head _)) (SL.cons ((h_35.same hc_42).ok _ (.tail _ (.head _))) (SL.cons ((h_35.same hc_42).ok _ (.tail _ (.tail _ (.head _)))) (SL.cons ((h_35.same hc_42).ok _ (.tail _ (.tail _ (.tail _ (.head _))))) (SL.cons ((h_35.same hc_42).ok _ (.tail _ (.tail _ (.tail _ (.tail _ (.head _)))))) (SL.nil _ _))))))) (fun w_40 hc_42 => ?_)
      have h_41 := h_35.same hc_42
      refine WT.q rfl (Wn.no rfl) rfl rfl (fun wq hS => R.move (v := (.slice ra2 j rc2)) rfl) ?_
      refine WT.q rfl (Wn.no rfl) rfl rfl (fun wq hS => R.move (v := (vi ((j : Nat) : Int))) rfl) ?_
      refine WT.q rfl (Wn.no rfl) rfl rfl (fun wq hS => R.bin (v := (vi ((j - 15 : Nat) : Int))) rfl rfl (bi_sub (c := ((j - 15 : Nat) : Int)) (by omega) (by omega))) ?_
      refine WT.q rfl (Wn.no rfl) rfl rfl (fun wq hS => R.indexS (a := ra2) (i := j - 15) (off := j - 15) (xs := (wL bs j).map vu32) rfl rfl rfl (by omega) (ownView (hS _ (.head _))) (lt_len (K := j) (len_map (wL_len bs j)) (by omega)) Try.underlying37 Try.sizeOf22 (Nat.mul_one _).symm) ?_
      refine WT.q rfl (Wn.no rfl) rfl rfl (fun wq hS => R.loadG (a := ra2) (i := j - 15) (xs := (wL bs j).map vu32) (v := (vu32 ((wL bs j).getD (j - 15) 0))) rfl (ownView (hS _ (.head _))) Try.isAgg22 (get_u32 (lt_len (K := j) (wL_len bs j) (by omega)))) ?_
      refine WT.q rfl (Wn.no rfl) rfl rfl (fun wq hS => R.move (v := (.slice ra2 j rc2)) rfl) ?_
      refine WT.q rfl (Wn.no rfl) rfl rfl (fun wq hS => R.move (v := (vi ((j : Nat) : Int))) rfl) ?_
      refine WT.q rfl (Wn.no rfl) rfl rfl (fun wq hS => R.bin (v := (vi ((j - 2 : Nat) : Int))) rfl rfl (bi_sub (c := ((j - 2 : Nat) : Int)) (by omega) (by omega))) ?_
      refine WT.q rfl (Wn.no rfl) rfl rfl (fun wq hS => R.indexS (a := ra2) (i := j - 2) (off := j - 2) (xs := (wL bs j).map vu32) rfl rfl rfl (by omega) (ownView (hS _ (.head _))) (lt_len (K := j) (len_map (wL_len bs j)) (by omega)) Try.underlying37 Try.sizeOf22 (Nat.mul_one _).symm) ?_
      refine WT.q rfl (Wn.no rfl) rfl rfl (fun wq hS => R.loadG (a := ra2) (i := j - 2) (xs := (wL bs j).map vu32) (v := (vu32 ((wL bs j).getD (j - 2) 0))) rfl (ownView (hS _ (.head _))) Try.isAgg22 (get_u32 (lt_len (K := j) (wL_len bs j) (by omega)))) ?_
      refine WT.q rfl (Wn.no rfl) rfl rfl (fun wq hS => R.assign (v := (vu32 ((wL bs j).getD (j - 15) 0))) rfl) ?_
      refine WT.q rfl (Wn.no rfl) rfl rfl (fun wq hS => R.assign (v := (vu32 ((wL bs j).getD (j - 2) 0))) rfl) ?_
      refine WT.nil ?_
      refine thn_n ?_
      refine WP.seq ?_
      refine WP.reg ?_
      refine WL.q (Wn.no rfl) rfl rfl (R.move (v := (vu32 ((wL bs j).getD (j - 15) 0))) rfl) ?_
      refine WL.call (al := [(vu32 ((wL bs j).getD (j - 15) 0)), (vu64 7)]) Try.call57 rfl rfl (c_ror7 ((wL bs j).getD (j - 15) 0) _ ) rfl ?_
      rintro _ w_44 ⟨rfl, hc_43⟩
      have h_45 := h_41.same hc_43
      refine WL.q (Wn.no rfl) rfl rfl (R.move (v := (vu32 ((wL bs j).getD (j - 15) 0))) rfl) ?_
      refine WL.call (al := [(vu32 ((wL bs j).getD (j - 15) 0)), (vu64 18)]) Try.call57 rfl rfl (c_ror18 ((wL bs j).getD (j - 15) 0) _ ) rfl ?_
      rintro _ w_47 ⟨rfl, hc_46⟩
      have h_48 := h_45.same hc_46
      refine WL.q (Wn.no rfl) rfl rfl (R.bin (v := (vu32 ((rot ((wL bs j).getD (j - 15) 0) 7) ^^^ (rot ((wL bs j).getD (j - 15) 0) 18)))) rfl rfl (b32_xor (rot ((wL bs j).getD (j - 15) 0) 7) (rot ((wL bs j).getD (j - 15) 0) 18))) ?_
      refine WL.q (Wn.no rfl) rfl rfl (R.move (v := (vu32 ((wL bs j).getD (j - 15) 0))) rfl) ?_
      refine WL.q (Wn.no rfl) rfl rfl (R.binR (v := vu32 (shr32 ((wL bs j).getD (j - 15) 0) 3)) rfl rfl (run_shr32 _ _ _ ((wL bs j).getD (j - 15) 0) _ 3)) ?_
      refine WL.q (Wn.no rfl) rfl rfl (R.bin (v := (vu32 (((rot ((wL bs j).getD (j - 15) 0) 7) ^^^ (rot ((wL bs j).getD (j - 15) 0) 18)) ^^^ (shr32 ((wL bs j).getD (j - 15) 0) 3)))) rfl rfl (b32_xor ((rot ((wL bs j).getD (j - 15) 0) 7) ^^^ (rot ((wL bs j).getD (j - 15) 0) 18)) (shr32 ((wL bs j).getD (j - 15) 0) 3))) ?_
      refine WL.q (Wn.no rfl) rfl rfl (R.assign (v := (vu32 (((rot ((wL bs j).getD (j - 15) 0) 7) ^^^ (rot ((wL bs j).getD (j - 15) 0) 18)) ^^^ (shr32 ((wL bs j).getD (j - 15) 0) 3)))) rfl) ?_
      refine WL.nil ?_
      refine thn_n ?_
      refine WP.seq ?_
      refine WP.reg ?_
      refine WL.q (Wn.no rfl) rfl rfl (R.move (v := (vu32 ((wL bs j).getD (j - 2) 0))) rfl) ?_
      refine WL.call (al := [(vu32 ((wL bs j).getD (j - 2) 0)), (vu64 17)]) Try.call57 rfl rfl (c_ror17 ((wL bs j).getD (j - 2) 0) _ ) rfl ?_
      rintro _ w_50 ⟨rfl, hc_49⟩
      have h_51 := h_48.same hc_49
      refine WL.q (Wn.no rfl) rfl rfl (R.move (v := (vu32 ((wL bs j).getD (j - 2) 0))) rfl) ?_
      refine WL.call (al := [(vu32 ((wL bs j).getD (j - 2) 0)), (vu64 19)]) Try.call57 rfl rfl (c_ror19 ((wL bs j).getD (j - 2) 0) _ ) rfl ?_
      rintro _ w_53 ⟨rfl, hc_52⟩
      have h_54 := h_51.same hc_52
      refine WL.q (Wn.no rfl) rfl rfl (R.bin (v := (vu32 ((rot ((wL bs j).getD (j - 2) 0) 17) ^^^ (rot ((wL bs j).getD (j - 2) 0) 19)))) rfl rfl (b32_xor (rot ((wL bs j).getD (j - 2) 0) 17) (rot ((wL bs j).getD (j - 2) 0) 19))) ?_
      refine WL.q (Wn.no rfl) rfl rfl (R.move (v := (vu32 ((wL bs j).getD (j - 2) 0))) rfl) ?_
      refine WL.q (Wn.no rfl) rfl rfl (R.binR (v := vu32 (shr32 ((wL bs j).getD (j - 2) 0) 10)) rfl rfl (run_shr32 _ _ _ ((wL bs j).getD (j - 2) 0) _ 10)) ?_
      refine WL.q (Wn.no rfl) rfl rfl (R.bin (v := (vu32 (((rot ((wL bs j).getD (j - 2) 0) 17) ^^^ (rot ((wL bs j).getD (j - 2) 0) 19)) ^^^ (shr32 ((wL bs j).getD (j - 2) 0) 10)))) rfl rfl (b32_xor ((rot ((wL bs j).getD (j - 2) 0) 17) ^^^ (rot ((wL bs j).getD (j - 2) 0) 19)) (shr32 ((wL bs j).getD (j - 2) 0) 10))) ?_
      refine WL.q (Wn.no rfl) rfl rfl (R.assign (v := (vu32 (((rot ((wL bs j).getD (j - 2) 0) 17) ^^^ (rot ((wL bs j).getD (j - 2) 0) 19)) ^^^ (shr32 ((wL bs j).getD (j - 2) 0) 10)))) rfl) ?_
      refine WL.nil ?_
      refine thn_n ?_
      refine WP.cutG (G := Option Addr × Nat × Nat) [7, 91, 92, 93, 94, 95, 96, 97, 98, 99, 100, 101, 102, 103, 104, 105, 106, 107, 108] (fun (aY12Y17Y0Y0, cY12Y17Y0Y0, bY12Y16Y0Y0) => [(7, (.slice aY12Y17Y0Y0 (j + 1) cY12Y17Y0Y0)), (91, (.slice ra2 j rc2)), (92, (.slice ra2 j rc2)), (93, (vi ((j : Nat) : Int))), (94, (vi ((j - 16 : Nat) : Int))), (97, (vu32 (((rot ((wL bs j).getD (j - 15) 0) 7) ^^^ (rot ((wL bs j).getD (j - 15) 0) 18)) ^^^ (shr32 ((wL bs j).getD (j - 15) 0) 3)))), (99, (.slice ra2 j rc2)), (100, (vi ((j : Nat) : Int))), (101, (vi ((j - 7 : Nat) : Int))), (105, (vu32 (((rot ((wL bs j).getD (j - 2) 0) 17) ^^^ (rot ((wL bs j).getD (j - 2) 0) 19)) ^^^ (shr32 ((wL bs j).getD (j - 2) 0) 10)))), (95, (.pointer (some (gA ra2 (j - 16))))), (96, (vu32 ((wL bs j).getD (j - 16) 0))), (98, (vu32 (((wL bs j).getD (j - 16) 0) + (((rot ((wL bs j).getD (j - 15) 0) 7) ^^^ (rot ((wL bs j).getD (j - 15) 0) 18)) ^^^ (shr32 ((wL bs j).getD (j - 15) 0) 3))))), (102, (.pointer (some (gA ra2 (j - 7))))), (103, (vu32 ((wL bs j).getD (j - 7) 0))), (104, (vu32 ((((wL bs j).getD (j - 16) 0) + (((rot ((wL bs j).getD (j - 15) 0) 7) ^^^ (rot ((wL bs j).getD (j - 15) 0) 18)) ^^^ (shr32 ((wL bs j).getD (j - 15) 0) 3))) + ((wL bs j).getD (j - 7) 0)))), (106, (vu32 (((((wL bs j).getD (j - 16) 0) + (((rot ((wL bs j).getD (j - 15) 0) 7) ^^^ (rot ((wL bs j).getD (j - 15) 0) 18)) ^^^ (shr32 ((wL bs j).getD (j - 15) 0) 3))) + ((wL bs j).getD (j - 7) 0)) + (((rot ((wL bs j).getD (j - 2) 0) 17) ^^^ (rot ((wL bs j).getD (j - 2) 0) 19)) ^^^ (shr32 ((wL bs j).getD (j - 2) 0) 10))))), (107, (.slice (some ⟨bY12Y16Y0Y0, 0, none⟩) 1 1)), (108, (.slice aY12Y17Y0Y0 (j + 1) cY12Y17Y0Y0))]) (fun (aY12Y17Y0Y0, cY12Y17Y0Y0, bY12Y16Y0Y0) w1 => HP w w1 [.blk bY12Y16Y0Y0 .nw 22 [(1, ([((((wL bs j).getD (j - 16) 0) + (((rot ((wL bs j).getD (j - 15) 0) 7) ^^^ (rot ((wL bs j).getD (j - 15) 0) 18)) ^^^ (shr32 ((wL bs j).getD (j - 15) 0) 3))) + ((wL bs j).getD (j - 7) 0)) + (((rot ((wL bs j).getD (j - 2) 0) 17) ^^^ (rot ((wL bs j).getD (j - 2) 0) 19)) ^^^ (shr32 ((wL bs j).getD (j - 2) 0) 10))] : List UInt32).map vu32)], .row aY12Y17Y0Y0 (j + 1) cY12Y17Y0Y0 22 1 (((wL bs j) ++ ([((((wL bs j).getD (j - 16) 0) + (((rot ((wL bs j).getD (j - 15) 0) 7) ^^^ (rot ((wL bs j).getD (j - 15) 0) 18)) ^^^ (shr32 ((wL bs j).getD (j - 15) 0) 3))) + ((wL bs j).getD (j - 7) 0)) + (((rot ((wL bs j).getD (j - 2) 0) 17) ^^^ (rot ((wL bs j).getD (j - 2) 0) 19)) ^^^ (shr32 ((wL bs j).getD (j - 2) 0) 10))] : List UInt32)).map vu32), .blk b_7 .nw 33 [(8, (List.replicate 8 (0 : UInt32)).map vu32)], .blk b_4 .nw 34 [(64, bs.map vu8)], .blk b_1 .nw 33 [(8, hh.map vu32)], .view ak (ks.map vu32)]) ?_ ?_
      · refine WP.drawT (SL w.heap.size [.blk b_7 .nw 33 [(8, (List.replicate 8 (0 : UInt32)).map vu32)], .blk b_4 .nw 34 [(64, bs.map vu8)], .blk b_1 .nw 33 [(8, hh.map vu32)], .view ak (ks.map vu32)]) (.q 0 (.q 1 (.q 2 (.q 3 (.q 6 (.q 8 (.q 9 (.q 10 (.q 14 (.s2 4 11 (.s2 5 11 (.q 7 (.s 11 (.s 12 (.q 13 (.q 15 (.s 16 (.s 17 (.q 18 .nil)))))))) (.s2 5 12 (.q 7 (.s 12 (.q 13 (.q 15 (.s 16 (.s 17 (.q 18 .nil))))))) (.s 5 (.q 7 (.q 13 (.q 15 (.s 16 (.s 17 (.q 18 .nil))))))))) (.s2 4 12 (.s2 5 12 (.q 7 (.s 12 (.q 13 (.q 15 (.s 16 (.s 17 (.q 18 .nil))))))) (.s 5 (.q 7 (.q 13 (.q 15 (.s 16 (.s 17 (.q 18 .nil)))))))) (.s 4 (.s 5 (.q 7 (.q 13 (.q 15 (.s 16 (.s 17 (.q 18 .nil))))))))))))))))))) (by kernel_rfl) (by kernel_rfl) rfl (by kernel_rfl) (fun w_55 hc_57 => (SL.cons ((h_54.same hc_57).ok _ (.tail _ (.head _))) (SL.cons ((h_54.same hc_57).ok _ (.tail _ (.tail _ (.head _)))) (SL.cons ((h_54.same hc_57).ok _ (.tail _ (.tail _ (.tail _ (.head _))))) (SL.cons ((h_54.same hc_57).ok _ (.tail _ (.tail _ (.tail _ (.tail _ (.head _)))))) (SL.nil _ _)))))) (fun w_55 hc_57 => ?_)
        have h_56 := h_54.same hc_57
        refine WT.q rfl (Wn.no rfl) rfl rfl (fun wq hS => R.move (v := (.slice ra2 j rc2)) rfl) ?_
        refine WT.q rfl (Wn.no rfl) rfl rfl (fun wq hS => R.move (v := (.slice ra2 j rc2)) rfl) ?_
        refine WT.q rfl (Wn.no rfl) rfl rfl (fun wq hS => R.move (v := (vi ((j : Nat) : Int))) rfl) ?_
        refine WT.q rfl (Wn.no rfl) rfl rfl (fun wq hS => R.bin (v := (vi ((j - 16 : Nat) : Int))) rfl rfl (bi_sub (c := ((j - 16 : Nat) : Int)) (by omega) (by omega))) ?_
        refine WT.q rfl (Wn.no rfl) rfl rfl (fun wq hS => R.move (v := (vu32 (((rot ((wL bs j).getD (j - 15) 0) 7) ^^^ (rot ((wL bs j).getD (j - 15) 0) 18)) ^^^ (shr32 ((wL bs j).getD (j - 15) 0) 3)))) rfl) ?_
        refine WT.q rfl (Wn.no rfl) rfl rfl (fun wq hS => R.move (v := (.slice ra2 j rc2)) rfl) ?_
        refine WT.q rfl (Wn.no rfl) rfl rfl (fun wq hS => R.move (v := (vi ((j : Nat) : Int))) rfl) ?_
        refine WT.q rfl (Wn.no rfl) rfl rfl (fun wq hS => R.bin (v := (vi ((j - 7 : Nat) : Int))) rfl rfl (bi_sub (c := ((j - 7 : Nat) : Int)) (by omega) (by omega))) ?_
        refine WT.q rfl (Wn.no rfl) rfl rfl (fun wq hS => R.move (v := (vu32 (((rot ((wL bs j).getD (j - 2) 0) 17) ^^^ (rot ((wL bs j).getD (j - 2) 0) 19)) ^^^ (shr32 ((wL bs j).getD (j - 2) 0) 10)))) rfl) ?_
        refine WT.s2 ?_ ?_
        · refine Op1.one rfl (Wn.no rfl) ?_
          refine WL.q (Wn.no rfl) rfl rfl (R.indexS (a := ra2) (i := j - 16) (off := j - 16) (xs := (wL bs j).map vu32) rfl rfl rfl (by omega) (ownView (h_56.ok _ (.head _))) (lt_len (K := j) (len_map (wL_len bs j)) (by omega)) Try.underlying37 Try.sizeOf22 (Nat.mul_one _).symm) ?_
          refine WL.nil ?_
          refine ⟨(SL.cons (h_56.ok _ (.tail _ (.head _))) (SL.cons (h_56.ok _ (.tail _ (.tail _ (.head _)))) (SL.cons (h_56.ok _ (.tail _ (.tail _ (.tail _ (.head _))))) (SL.cons (h_56.ok _ (.tail _ (.tail _ (.tail _ (.tail _ (.head _)))))) (SL.nil _ _))))), ?_⟩
          refine WT.s2 ?_ ?_
          · refine Op1.one rfl (Wn.no rfl) ?_
            refine WL.q (Wn.no rfl) rfl rfl (R.loadG (a := ra2) (i := j - 16) (xs := (wL bs j).map vu32) (v := (vu32 ((wL bs j).getD (j - 16) 0))) rfl (ownView (h_56.ok _ (.head _))) Try.isAgg22 (get_u32 (lt_len (K := j) (wL_len bs j) (by omega)))) ?_
            refine WL.nil ?_
            refine ⟨(SL.cons (h_56.ok _ (.tail _ (.head _))) (SL.cons (h_56.ok _ (.tail _ (.tail _ (.head _)))) (SL.cons (h_56.ok _ (.tail _ (.tail _ (.tail _ (.head _))))) (SL.cons (h_56.ok _ (.tail _ (.tail _ (.tail _ (.tail _ (.head _)))))) (SL.nil _ _))))), ?_⟩
            refine WT.q rfl (Wn.no rfl) rfl rfl (fun wq hS => R.bin (v := (vu32 (((wL bs j).getD (j - 16) 0) + (((rot ((wL bs j).getD (j - 15) 0) 7) ^^^ (rot ((wL bs j).getD (j - 15) 0) 18)) ^^^ (shr32 ((wL bs j).getD (j - 15) 0) 3))))) rfl rfl (b32_add ((wL bs j).getD (j - 16) 0) (((rot ((wL bs j).getD (j - 15) 0) 7) ^^^ (rot ((wL bs j).getD (j - 15) 0) 18)) ^^^ (shr32 ((wL bs j).getD (j - 15) 0) 3)))) ?_
            refine WT.s ?_
            refine Op1.one rfl (Wn.no rfl) ?_
            refine WL.q (Wn.no rfl) rfl rfl (R.indexS (a := ra2) (i := j - 7) (off := j - 7) (xs := (wL bs j).map vu32) rfl rfl rfl (by omega) (ownView (h_56.ok _ (.head _))) (lt_len (K := j) (len_map (wL_len bs j)) (by omega)) Try.underlying37 Try.sizeOf22 (Nat.mul_one _).symm) ?_
            refine WL.nil ?_
            refine ⟨(SL.cons (h_56.ok _ (.tail _ (.head _))) (SL.cons (h_56.ok _ (.tail _ (.tail _ (.head _)))) (SL.cons (h_56.ok _ (.tail _ (.tail _ (.tail _ (.head _))))) (SL.cons (h_56.ok _ (.tail _ (.tail _ (.tail _ (.tail _ (.head _)))))) (SL.nil _ _))))), ?_⟩
            refine WT.s ?_
            refine Op1.one rfl (Wn.no rfl) ?_
            refine WL.q (Wn.no rfl) rfl rfl (R.loadG (a := ra2) (i := j - 7) (xs := (wL bs j).map vu32) (v := (vu32 ((wL bs j).getD (j - 7) 0))) rfl (ownView (h_56.ok _ (.head _))) Try.isAgg22 (get_u32 (lt_len (K := j) (wL_len bs j) (by omega)))) ?_
            refine WL.nil ?_
            refine ⟨(SL.cons (h_56.ok _ (.tail _ (.head _))) (SL.cons (h_56.ok _ (.tail _ (.tail _ (.head _)))) (SL.cons (h_56.ok _ (.tail _ (.tail _ (.tail _ (.head _))))) (SL.cons (h_56.ok _ (.tail _ (.tail _ (.tail _ (.tail _ (.head _)))))) (SL.nil _ _))))), ?_⟩
            refine WT.q rfl (Wn.no rfl) rfl rfl (fun wq hS => R.bin (v := (vu32 ((((wL bs j).getD (j - 16) 0) + (((rot ((wL bs j).getD (j - 15) 0) 7) ^^^ (rot ((wL bs j).getD (j - 15) 0) 18)) ^^^ (shr32 ((wL bs j).getD (j - 15) 0) 3))) + ((wL bs j).getD (j - 7) 0)))) rfl rfl (b32_add (((wL bs j).getD (j - 16) 0) + (((rot ((wL bs j).getD (j - 15) 0) 7) ^^^ (rot ((wL bs j).getD (j - 15) 0) 18)) ^^^ (shr32 ((wL bs j).getD (j - 15) 0) 3))) ((wL bs j).getD (j - 7) 0))) ?_
            refine WT.q rfl (Wn.no rfl) rfl rfl (fun wq hS => R.bin (v := (vu32 (((((wL bs j).getD (j - 16) 0) + (((rot ((wL bs j).getD (j - 15) 0) 7) ^^^ (rot ((wL bs j).getD (j - 15) 0) 18)) ^^^ (shr32 ((wL bs j).getD (j - 15) 0) 3))) + ((wL bs j).getD (j - 7) 0)) + (((rot ((wL bs j).getD (j - 2) 0) 17) ^^^ (rot ((wL bs j).getD (j - 2) 0) 19)) ^^^ (shr32 ((wL bs j).getD (j - 2) 0) 10))))) rfl rfl (b32_add ((((wL bs j).getD (j - 16) 0) + (((rot ((wL bs j).getD (j - 15) 0) 7) ^^^ (rot ((wL bs j).getD (j - 15) 0) 18)) ^^^ (shr32 ((wL bs j).getD (j - 15) 0) 3))) + ((wL bs j).getD (j - 7) 0)) (((rot ((wL bs j).getD (j - 2) 0) 17) ^^^ (rot ((wL bs j).getD (j - 2) 0) 19)) ^^^ (shr32 ((wL bs j).getD (j - 2) 0) 10)))) ?_
            refine WT.s ?_
            refine Op1.one rfl (Wn.no rfl) ?_
            refine WL.buildSl (vs := [(0, (vu32 (((((wL bs j).getD (j - 16) 0) + (((rot ((wL bs j).getD (j - 15) 0) 7) ^^^ (rot ((wL bs j).getD (j - 15) 0) 18)) ^^^ (shr32 ((wL bs j).getD (j - 15) 0) 3))) + ((wL bs j).getD (j - 7) 0)) + (((rot ((wL bs j).getD (j - 2) 0) 17) ^^^ (rot ((wL bs j).getD (j - 2) 0) 19)) ^^^ (shr32 ((wL bs j).getD (j - 2) 0) 10)))))]) (cs := ([((((wL bs j).getD (j - 16) 0) + (((rot ((wL bs j).getD (j - 15) 0) 7) ^^^ (rot ((wL bs j).getD (j - 15) 0) 18)) ^^^ (shr32 ((wL bs j).getD (j - 15) 0) 3))) + ((wL bs j).getD (j - 7) 0)) + (((rot ((wL bs j).getD (j - 2) 0) 17) ^^^ (rot ((wL bs j).getD (j - 2) 0) 19)) ^^^ (shr32 ((wL bs j).getD (j - 2) 0) 10))] : List UInt32).map vu32) h_56 Try.underlying37 Try.sizeOf22 (zv Try.typeInfo22 rfl) rfl rfl (by kernel_rfl) rfl (one_u32 _) rfl rfl (fun b_58 w_59 h_60 => ?_)
            refine WL.nil ?_
            refine ⟨(SL.cons (h_60.ok _ (.tail _ (.tail _ (.head _)))) (SL.cons (h_60.ok _ (.tail _ (.tail _ (.tail _ (.head _))))) (SL.cons (h_60.ok _ (.tail _ (.tail _ (.tail _ (.tail _ (.head _)))))) (SL.cons (h_60.ok _ (.tail _ (.tail _ (.tail _ (.tail _ (.tail _ (.head _))))))) (SL.nil _ _))))), ?_⟩
            refine WT.s ?_
            refine Op1.one rfl (Wn.no rfl) ?_
            refine WL.append (km := j + 1) (xs := (wL bs j).map vu32) (ys := ([((((wL bs j).getD (j - 16) 0) + (((rot ((wL bs j).getD (j - 15) 0) 7) ^^^ (rot ((wL bs j).getD (j - 15) 0) 18)) ^^^ (shr32 ((wL bs j).getD (j - 15) 0) 3))) + ((wL bs j).getD (j - 7) 0)) + (((rot ((wL bs j).getD (j - 2) 0) 17) ^^^ (rot ((wL bs j).getD (j - 2) 0) 19)) ^^^ (shr32 ((wL bs j).getD (j - 2) 0) 10))] : List UInt32).map vu32) (zs := ((wL bs j) ++ ([((((wL bs j).getD (j - 16) 0) + (((rot ((wL bs j).getD (j - 15) 0) 7) ^^^ (rot ((wL bs j).getD (j - 15) 0) 18)) ^^^ (shr32 ((wL bs j).getD (j - 15) 0) 3))) + ((wL bs j).getD (j - 7) 0)) + (((rot ((wL bs j).getD (j - 2) 0) 17) ^^^ (rot ((wL bs j).getD (j - 2) 0) 19)) ^^^ (shr32 ((wL bs j).getD (j - 2) 0) 10))] : List UInt32)).map vu32) h_60 rfl rfl el37 (viewB (h_60.ok _ (.head _)) Sg.h) ((len_map (rfl : List.length ([((((wL bs j).getD (j - 16) 0) + (((rot ((wL bs j).getD (j - 15) 0) 7) ^^^ (rot ((wL bs j).getD (j - 15) 0) 18)) ^^^ (shr32 ((wL bs j).getD (j - 15) 0) 3))) + ((wL bs j).getD (j - 7) 0)) + (((rot ((wL bs j).getD (j - 2) 0) 17) ^^^ (rot ((wL bs j).getD (j - 2) 0) 19)) ^^^ (shr32 ((wL bs j).getD (j - 2) 0) 10))] : List UInt32) = 1)).trans (Nat.mul_one _).symm) (one_u32 _) (by simp only [List.map_append, List.map_nil]) (by omega) (by omega) (by omega) (fun _ _ => (At.t At.h)) rfl (fun a_61 c_62 w_63 h_64 => ?_)
            refine WL.nil ?_
            refine ⟨(SL.cons (h_64.ok _ (.tail _ (.tail _ (.head _)))) (SL.cons (h_64.ok _ (.tail _ (.tail _ (.tail _ (.head _))))) (SL.cons (h_64.ok _ (.tail _ (.tail _ (.tail _ (.tail _ (.head _)))))) (SL.cons (h_64.ok _ (.tail _ (.tail _ (.tail _ (.tail _ (.tail _ (.head _))))))) (SL.nil _ _))))), ?_⟩
            refine WT.q rfl (Wn.no rfl) rfl rfl (fun wq hS => R.assign (v := (.slice a_61 (j + 1) c_62)) rfl) ?_
            refine WT.nil ?_
            refine thn_n ?_
            exact ⟨(a_61, c_62, b_58), (Ag.upd rfl (Ag.upd rfl (Ag.upd rfl (Ag.upd rfl (Ag.upd rfl (Ag.upd rfl (Ag.upd rfl (Ag.upd rfl (Ag.upd rfl (Ag.upd rfl (Ag.upd rfl (Ag.upd rfl (Ag.upd rfl (Ag.upd rfl (Ag.upd rfl (Ag.upd rfl (Ag.upd rfl (Ag.upd rfl (Ag.upd rfl (Ag.refl _ _)))))))))))))))))))), ⟨rfl, rfl, rfl, rfl, rfl, rfl, rfl, rfl, rfl, rfl, rfl, rfl, rfl, rfl, rfl, rfl, rfl, rfl, rfl, trivial⟩, h_64⟩
          · refine Op1.one rfl (Wn.no rfl) ?_
            refine WL.q (Wn.no rfl) rfl rfl (R.indexS (a := ra2) (i := j - 7) (off := j - 7) (xs := (wL bs j).map vu32) rfl rfl rfl (by omega) (ownView (h_56.ok _ (.head _))) (lt_len (K := j) (len_map (wL_len bs j)) (by omega)) Try.underlying37 Try.sizeOf22 (Nat.mul_one _).symm) ?_
            refine WL.nil ?_
            refine ⟨(SL.cons (h_56.ok _ (.tail _ (.head _))) (SL.cons (h_56.ok _ (.tail _ (.tail _ (.head _)))) (SL.cons (h_56.ok _ (.tail _ (.tail _ (.tail _ (.head _))))) (SL.cons (h_56.ok _ (.tail _ (.tail _ (.tail _ (.tail _ (.head _)))))) (SL.nil _ _))))), ?_⟩
            refine WT.s2 ?_ ?_
            · refine Op1.one rfl (Wn.no rfl) ?_
              refine WL.q (Wn.no rfl) rfl rfl (R.loadG (a := ra2) (i := j - 16) (xs := (wL bs j).map vu32) (v := (vu32 ((wL bs j).getD (j - 16) 0))) rfl (ownView (h_56.ok _ (.head _))) Try.isAgg22 (get_u32 (lt_len (K := j) (wL_len bs j) (by omega)))) ?_
              refine WL.nil ?_
              refine ⟨(SL.cons (h_56.ok _ (.tail _ (.head _))) (SL.cons (h_56.ok _ (.tail _ (.tail _ (.head _)))) (SL.cons (h_56.ok _ (.tail _ (.tail _ (.tail _ (.head _))))) (SL.cons (h_56.ok _ (.tail _ (.tail _ (.tail _ (.tail _ (.head _)))))) (SL.nil _ _))))), ?_⟩
              refine WT.q rfl (Wn.no rfl) rfl rfl (fun wq hS => R.bin (v := (vu32 (((wL bs j).getD (j - 16) 0) + (((rot ((wL bs j).getD (j - 15) 0) 7) ^^^ (rot ((wL bs j).getD (j - 15) 0) 18)) ^^^ (shr32 ((wL bs j).getD (j - 15) 0) 3))))) rfl rfl (b32_add ((wL bs j).getD (j - 16) 0) (((rot ((wL bs j).getD (j - 15) 0) 7) ^^^ (rot ((wL bs j).getD (j - 15) 0) 18)) ^^^ (shr32 ((wL bs j).getD (j - 15) 0) 3)))) ?_
              refine WT.s ?_
              refine Op1.one rfl (Wn.no rfl) ?_
              refine WL.q (Wn.no rfl) rfl rfl (R.loadG (a := ra2) (i := j - 7) (xs := (wL bs j).map vu32) (v := (vu32 ((wL bs j).getD (j - 7) 0))) rfl (ownView (h_56.ok _ (.head _))) Try.isAgg22 (get_u32 (lt_len (K := j) (wL_len bs j) (by omega)))) ?_
              refine WL.nil ?_
              refine ⟨(SL.cons (h_56.ok _ (.tail _ (.head _))) (SL.cons (h_56.ok _ (.tail _ (.tail _ (.head _)))) (SL.cons (h_56.ok _ (.tail _ (.tail _ (.tail _ (.head _))))) (SL.cons (h_56.ok _ (.tail _ (.tail _ (.tail _ (.tail _ (.head _)))))) (SL.nil _ _))))), ?_⟩
              refine WT.q rfl (Wn.no rfl) rfl rfl (fun wq hS => R.bin (v := (vu32 ((((wL bs j).getD (j - 16) 0) + (((rot ((wL bs j).getD (j - 15) 0) 7) ^^^ (rot ((wL bs j).getD (j - 15) 0) 18)) ^^^ (shr32 ((wL bs j).getD (j - 15) 0) 3))) + ((wL bs j).getD (j - 7) 0)))) rfl rfl (b32_add (((wL bs j).getD (j - 16) 0) + (((rot ((wL bs j).getD (j - 15) 0) 7) ^^^ (rot ((wL bs j).getD (j - 15) 0) 18)) ^^^ (shr32 ((wL bs j).getD (j - 15) 0) 3))) ((wL bs j).getD (j - 7) 0))) ?_
              refine WT.q rfl (Wn.no rfl) rfl rfl (fun wq hS => R.bin (v := (vu32 (((((wL bs j).getD (j - 16) 0) + (((rot ((wL bs j).getD (j - 15) 0) 7) ^^^ (rot ((wL bs j).getD (j - 15) 0) 18)) ^^^ (shr32 ((wL bs j).getD (j - 15) 0) 3))) + ((wL bs j).getD (j - 7) 0)) + (((rot ((wL bs j).getD (j - 2) 0) 17) ^^^ (rot ((wL bs j).getD (j - 2) 0) 19)) ^^^ (shr32 ((wL bs j).getD (j - 2) 0) 10))))) rfl rfl (b32_add ((((wL bs j).getD (j - 16) 0) + (((rot ((wL bs j).getD (j - 15) 0) 7) ^^^ (rot ((wL bs j).getD (j - 15) 0) 18)) ^^^ (shr32 ((wL bs j).getD (j - 15) 0) 3))) + ((wL bs j).getD (j - 7) 0)) (((rot ((wL bs j).getD (j - 2) 0) 17) ^^^ (rot ((wL bs j).getD (j - 2) 0) 19)) ^^^ (shr32 ((wL bs j).getD (j - 2) 0) 10)))) ?_
              refine WT.s ?_
              refine Op1.one rfl (Wn.no rfl) ?_
              refine WL.buildSl (vs := [(0, (vu32 (((((wL bs j).getD (j - 16) 0) + (((rot ((wL bs j).getD (j - 15) 0) 7) ^^^ (rot ((wL bs j).getD (j - 15) 0) 18)) ^^^ (shr32 ((wL bs j).getD (j - 15) 0) 3))) + ((wL bs j).getD (j - 7) 0)) + (((rot ((wL bs j).getD (j - 2) 0) 17) ^^^ (rot ((wL bs j).getD (j - 2) 0) 19)) ^^^ (shr32 ((wL bs j).getD (j - 2) 0) 10)))))]) (cs := ([((((wL bs j).getD (j - 16) 0) + (((rot ((wL bs j).getD (j - 15) 0) 7) ^^^ (rot ((wL bs j).getD (j - 15) 0) 18)) ^^^ (shr32 ((wL bs j).getD (j - 15) 0) 3))) + ((wL bs j).getD (j - 7) 0)) + (((rot ((wL bs j).getD (j - 2) 0) 17) ^^^ (rot ((wL bs j).getD (j - 2) 0) 19)) ^^^ (shr32 ((wL bs j).getD (j - 2) 0) 10))] : List UInt32).map vu32) h_56 Try.underlying37 Try.sizeOf22 (zv Try.typeInfo22 rfl) rfl rfl (by kernel_rfl) rfl (one_u32 _) rfl rfl (fun b_65 w_66 h_67 => ?_)
              refine WL.nil ?_
              refine ⟨(SL.cons (h_67.ok _ (.tail _ (.tail _ (.head _)))) (SL.cons (h_67.ok _ (.tail _ (.tail _ (.tail _ (.head _))))) (SL.cons (h_67.ok _ (.tail _ (.tail _ (.tail _ (.tail _ (.head _)))))) (SL.cons (h_67.ok _ (.tail _ (.tail _ (.tail _ (.tail _ (.tail _ (.head _))))))) (SL.nil _ _))))), ?_⟩
              refine WT.s ?_
              refine Op1.one rfl (Wn.no rfl) ?_
              refine WL.append (km := j + 1) (xs := (wL bs j).map vu32) (ys := ([((((wL bs j).getD (j - 16) 0) + (((rot ((wL bs j).getD (j - 15) 0) 7) ^^^ (rot ((wL bs j).getD (j - 15) 0) 18)) ^^^ (shr32 ((wL bs j).getD (j - 15) 0) 3))) + ((wL bs j).getD (j - 7) 0)) + (((rot ((wL bs j).getD (j - 2) 0) 17) ^^^ (rot ((wL bs j).getD (j - 2) 0) 19)) ^^^ (shr32 ((wL bs j).getD (j - 2) 0) 10))] : List UInt32).map vu32) (zs := ((wL bs j) ++ ([((((wL bs j).getD (j - 16) 0) + (((rot ((wL bs j).getD (j - 15) 0) 7) ^^^ (rot ((wL bs j).getD (j - 15) 0) 18)) ^^^ (shr32 ((wL bs j).getD (j - 15) 0) 3))) + ((wL bs j).getD (j - 7) 0)) + (((rot ((wL bs j).getD (j - 2) 0) 17) ^^^ (rot ((wL bs j).getD (j - 2) 0) 19)) ^^^ (shr32 ((wL bs j).getD (j - 2) 0) 10))] : List UInt32)).map vu32) h_67 rfl rfl el37 (viewB (h_67.ok _ (.head _)) Sg.h) ((len_map (rfl : List.length ([((((wL bs j).getD (j - 16) 0) + (((rot ((wL bs j).getD (j - 15) 0) 7) ^^^ (rot ((wL bs j).getD (j - 15) 0) 18)) ^^^ (shr32 ((wL bs j).getD (j - 15) 0) 3))) + ((wL bs j).getD (j - 7) 0)) + (((rot ((wL bs j).getD (j - 2) 0) 17) ^^^ (rot ((wL bs j).getD (j - 2) 0) 19)) ^^^ (shr32 ((wL bs j).getD (j - 2) 0) 10))] : List UInt32) = 1)).trans (Nat.mul_one _).symm) (one_u32 _) (by simp only [List.map_append, List.map_nil]) (by omega) (by omega) (by omega) (fun _ _ => (At.t At.h)) rfl (fun a_68 c_69 w_70 h_71 => ?_)
              refine WL.nil ?_
              refine ⟨(SL.cons (h_71.ok _ (.tail _ (.tail _ (.head _)))) (SL.cons (h_71.ok _ (.tail _ (.tail _ (.tail _ (.head _))))) (SL.cons (h_71.ok _ (.tail _ (.tail _ (.tail _ (.tail _ (.head _)))))) (SL.cons (h_71.ok _ (.tail _ (.tail _ (.tail _ (.tail _ (.tail _ (.head _))))))) (SL.nil _ _))))), ?_⟩
              refine WT.q rfl (Wn.no rfl) rfl rfl (fun wq hS => R.assign (v := (.slice a_68 (j + 1) c_69)) rfl) ?_
              refine WT.nil ?_
              refine thn_n ?_
              exact ⟨(a_68, c_69, b_65), (Ag.upd rfl (Ag.upd rfl (Ag.upd rfl (Ag.upd rfl (Ag.upd rfl (Ag.upd rfl (Ag.upd rfl (Ag.upd rfl (Ag.upd rfl (Ag.upd rfl (Ag.upd rfl (Ag.upd rfl (Ag.upd rfl (Ag.upd rfl (Ag.upd rfl (Ag.upd rfl (Ag.upd rfl (Ag.upd rfl (Ag.upd rfl (Ag.refl _ _)))))))))))))))))))), ⟨rfl, rfl, rfl, rfl, rfl, rfl, rfl, rfl, rfl, rfl, rfl, rfl, rfl, rfl, rfl, rfl, rfl, rfl, rfl, trivial⟩, h_71⟩
            · refine Op1.one rfl (Wn.no rfl) ?_
              refine WL.q (Wn.no rfl) rfl rfl (R.loadG (a := ra2) (i := j - 7) (xs := (wL bs j).map vu32) (v := (vu32 ((wL bs j).getD (j - 7) 0))) rfl (ownView (h_56.ok _ (.head _))) Try.isAgg22 (get_u32 (lt_len (K := j) (wL_len bs j) (by omega)))) ?_
              refine WL.nil ?_
              refine ⟨(SL.cons (h_56.ok _ (.tail _ (.head _))) (SL.cons (h_56.ok _ (.tail _ (.tail _ (.head _)))) (SL.cons (h_56.ok _ (.tail _ (.tail _ (.tail _ (.head _))))) (SL.cons (h_56.ok _ (.tail _ (.tail _ (.tail _ (.tail _ (.head _)))))) (SL.nil _ _))))), ?_⟩
              refine WT.s ?_
              refine Op1.one rfl (Wn.no rfl) ?_
              refine WL.q (Wn.no rfl) rfl rfl (R.loadG (a := ra2) (i := j - 16) (xs := (wL bs j).map vu32) (v := (vu32 ((wL bs j).getD (j - 16) 0))) rfl (ownView (h_56.ok _ (.head _))) Try.isAgg22 (get_u32 (lt_len (K := j) (wL_len bs j) (by omega)))) ?_
              refine WL.nil ?_
              refine ⟨(SL.cons (h_56.ok _ (.tail _ (.head _))) (SL.cons (h_56.ok _ (.tail _ (.tail _ (.head _)))) (SL.cons (h_56.ok _ (.tail _ (.tail _ (.tail _ (.head _))))) (SL.cons (h_56.ok _ (.tail _ (.tail _ (.tail _ (.tail _ (.head _)))))) (SL.nil _ _))))), ?_⟩
              refine WT.q rfl (Wn.no rfl) rfl rfl (fun wq hS => R.bin (v := (vu32 (((wL bs j).getD (j - 16) 0) + (((rot ((wL bs j).getD (j - 15) 0) 7) ^^^ (rot ((wL bs j).getD (j - 15) 0) 18)) ^^^ (shr32 ((wL bs j).getD (j - 15) 0) 3))))) rfl rfl (b32_add ((wL bs j).getD (j - 16) 0) (((rot ((wL bs j).getD (j - 15) 0) 7) ^^^ (rot ((wL bs j).getD (j - 15) 0) 18)) ^^^ (shr32 ((wL bs j).getD (j - 15) 0) 3)))) ?_
              refine WT.q rfl (Wn.no rfl) rfl rfl (fun wq hS => R.bin (v := (vu32 ((((wL bs j).getD (j - 16) 0) + (((rot ((wL bs j).getD (j - 15) 0) 7) ^^^ (rot ((wL bs j).getD (j - 15) 0) 18)) ^^^ (shr32 ((wL bs j).getD (j - 15) 0) 3))) + ((wL bs j).getD (j - 7) 0)))) rfl rfl (b32_add (((wL bs j).getD (j - 16) 0) + (((rot ((wL bs j).getD (j - 15) 0) 7) ^^^ (rot ((wL bs j).getD (j - 15) 0) 18)) ^^^ (shr32 ((wL bs j).getD (j - 15) 0) 3))) ((wL bs j).getD (j - 7) 0))) ?_
              refine WT.q rfl (Wn.no rfl) rfl rfl (fun wq hS => R.bin (v := (vu32 (((((wL bs j).getD (j - 16) 0) + (((rot ((wL bs j).getD (j - 15) 0) 7) ^^^ (rot ((wL bs j).getD (j - 15) 0) 18)) ^^^ (shr32 ((wL bs j).getD (j - 15) 0) 3))) + ((wL bs j).getD (j - 7) 0)) + (((rot ((wL bs j).getD (j - 2) 0) 17) ^^^ (rot ((wL bs j).getD (j - 2) 0) 19)) ^^^ (shr32 ((wL bs j).getD (j - 2) 0) 10))))) rfl rfl (b32_add ((((wL bs j).getD (j - 16) 0) + (((rot ((wL bs j).getD (j - 15) 0) 7) ^^^ (rot ((wL bs j).getD (j - 15) 0) 18)) ^^^ (shr32 ((wL bs j).getD (j - 15) 0) 3))) + ((wL bs j).getD (j - 7) 0)) (((rot ((wL bs j).getD (j - 2) 0) 17) ^^^ (rot ((wL bs j).getD (j - 2) 0) 19)) ^^^ (shr32 ((wL bs j).getD (j - 2) 0) 10)))) ?_
              refine WT.s ?_
              refine Op1.one rfl (Wn.no rfl) ?_
              refine WL.buildSl (vs := [(0, (vu32 (((((wL bs j).getD (j - 16) 0) + (((rot ((wL bs j).getD (j - 15) 0) 7) ^^^ (rot ((wL bs j).getD (j - 15) 0) 18)) ^^^ (shr32 ((wL bs j).getD (j - 15) 0) 3))) + ((wL bs j).getD (j - 7) 0)) + (((rot ((wL bs j).getD (j - 2) 0) 17) ^^^ (rot ((wL bs j).getD (j - 2) 0) 19)) ^^^ (shr32 ((wL bs j).getD (j - 2) 0) 10)))))]) (cs := ([((((wL bs j).getD (j - 16) 0) + (((rot ((wL bs j).getD (j - 15) 0) 7) ^^^ (rot ((wL bs j).getD (j - 15) 0) 18)) ^^^ (shr32 ((wL bs j).getD (j - 15) 0) 3))) + ((wL bs j).getD (j - 7) 0)) + (((rot ((wL bs j).getD (j - 2) 0) 17) ^^^ (rot ((wL bs j).getD (j - 2) 0) 19)) ^^^ (shr32 ((wL bs j).getD (j - 2) 0) 10))] : List UInt32).map vu32) h_56 Try.underlying37 Try.sizeOf22 (zv Try.typeInfo22 rfl) rfl rfl (by kernel_rfl) rfl (one_u32 _) rfl rfl (fun b_72 w_73 h_74 => ?_)
              refine WL.nil ?_
              refine ⟨(SL.cons (h_74.ok _ (.tail _ (.tail _ (.head _)))) (SL.cons (h_74.ok _ (.tail _ (.tail _ (.tail _ (.head _))))) (SL.cons (h_74.ok _ (.tail _ (.tail _ (.tail _ (.tail _ (.head _)))))) (SL.cons (h_74.ok _ (.tail _ (.tail _ (.tail _ (.tail _ (.tail _ (.head _))))))) (SL.nil _ _))))), ?_⟩
              refine WT.s ?_
              refine Op1.one rfl (Wn.no rfl) ?_
              refine WL.append (km := j + 1) (xs := (wL bs j).map vu32) (ys := ([((((wL bs j).getD (j - 16) 0) + (((rot ((wL bs j).getD (j - 15) 0) 7) ^^^ (rot ((wL bs j).getD (j - 15) 0) 18)) ^^^ (shr32 ((wL bs j).getD (j - 15) 0) 3))) + ((wL bs j).getD (j - 7) 0)) + (((rot ((wL bs j).getD (j - 2) 0) 17) ^^^ (rot ((wL bs j).getD (j - 2) 0) 19)) ^^^ (shr32 ((wL bs j).getD (j - 2) 0) 10))] : List UInt32).map vu32) (zs := ((wL bs j) ++ ([((((wL bs j).getD (j - 16) 0) + (((rot ((wL bs j).getD (j - 15) 0) 7) ^^^ (rot ((wL bs j).getD (j - 15) 0) 18)) ^^^ (shr32 ((wL bs j).getD (j - 15) 0) 3))) + ((wL bs j).getD (j - 7) 0)) + (((rot ((wL bs j).getD (j - 2) 0) 17) ^^^ (rot ((wL bs j).getD (j - 2) 0) 19)) ^^^ (shr32 ((wL bs j).getD (j - 2) 0) 10))] : List UInt32)).map vu32) h_74 rfl rfl el37 (viewB (h_74.ok _ (.head _)) Sg.h) ((len_map (rfl : List.length ([((((wL bs j).getD (j - 16) 0) + (((rot ((wL bs j).getD (j - 15) 0) 7) ^^^ (rot ((wL bs j).getD (j - 15) 0) 18)) ^^^ (shr32 ((wL bs j).getD (j - 15) 0) 3))) + ((wL bs j).getD (j - 7) 0)) + (((rot ((wL bs j).getD (j - 2) 0) 17) ^^^ (rot ((wL bs j).getD (j - 2) 0) 19)) ^^^ (shr32 ((wL bs j).getD (j - 2) 0) 10))] : List UInt32) = 1)).trans (Nat.mul_one _).symm) (one_u32 _) (by simp only [List.map_append, List.map_nil]) (by omega) (by omega) (by omega) (fun _ _ => (At.t At.h)) rfl (fun a_75 c_76 w_77 h_78 => ?_)
              refine WL.nil ?_
              refine ⟨(SL.cons (h_78.ok _ (.tail _ (.tail _ (.head _)))) (SL.cons (h_78.ok _ (.tail _ (.tail _ (.tail _ (.head _))))) (SL.cons (h_78.ok _ (.tail _ (.tail _ (.tail _ (.tail _ (.head _)))))) (SL.cons (h_78.ok _ (.tail _ (.tail _ (.tail _ (.tail _ (.tail _ (.head _))))))) (SL.nil _ _))))), ?_⟩
              refine WT.q rfl (Wn.no rfl) rfl rfl (fun wq hS => R.assign (v := (.slice a_75 (j + 1) c_76)) rfl) ?_
              refine WT.nil ?_
              refine thn_n ?_
              exact ⟨(a_75, c_76, b_72), (Ag.upd rfl (Ag.upd rfl (Ag.upd rfl (Ag.upd rfl (Ag.upd rfl (Ag.upd rfl (Ag.upd rfl (Ag.upd rfl (Ag.upd rfl (Ag.upd rfl (Ag.upd rfl (Ag.upd rfl (Ag.upd rfl (Ag.upd rfl (Ag.upd rfl (Ag.upd rfl (Ag.upd rfl (Ag.upd rfl (Ag.upd rfl (Ag.refl _ _)))))))))))))))))))), ⟨rfl, rfl, rfl, rfl, rfl, rfl, rfl, rfl, rfl, rfl, rfl, rfl, rfl, rfl, rfl, rfl, rfl, rfl, rfl, trivial⟩, h_78⟩
        · refine Op1.one rfl (Wn.no rfl) ?_
          refine WL.q (Wn.no rfl) rfl rfl (R.indexS (a := ra2) (i := j - 7) (off := j - 7) (xs := (wL bs j).map vu32) rfl rfl rfl (by omega) (ownView (h_56.ok _ (.head _))) (lt_len (K := j) (len_map (wL_len bs j)) (by omega)) Try.underlying37 Try.sizeOf22 (Nat.mul_one _).symm) ?_
          refine WL.nil ?_
          refine ⟨(SL.cons (h_56.ok _ (.tail _ (.head _))) (SL.cons (h_56.ok _ (.tail _ (.tail _ (.head _)))) (SL.cons (h_56.ok _ (.tail _ (.tail _ (.tail _ (.head _))))) (SL.cons (h_56.ok _ (.tail _ (.tail _ (.tail _ (.tail _ (.head _)))))) (SL.nil _ _))))), ?_⟩
          refine WT.s2 ?_ ?_
          · refine Op1.one rfl (Wn.no rfl) ?_
            refine WL.q (Wn.no rfl) rfl rfl (R.indexS (a := ra2) (i := j - 16) (off := j - 16) (xs := (wL bs j).map vu32) rfl rfl rfl (by omega) (ownView (h_56.ok _ (.head _))) (lt_len (K := j) (len_map (wL_len bs j)) (by omega)) Try.underlying37 Try.sizeOf22 (Nat.mul_one _).symm) ?_
            refine WL.nil ?_
            refine ⟨(SL.cons (h_56.ok _ (.tail _ (.head _))) (SL.cons (h_56.ok _ (.tail _ (.tail _ (.head _)))) (SL.cons (h_56.ok _ (.tail _ (.tail _ (.tail _ (.head _))))) (SL.cons (h_56.ok _ (.tail _ (.tail _ (.tail _ (.tail _ (.head _)))))) (SL.nil _ _))))), ?_⟩
            refine WT.s2 ?_ ?_
            · refine Op1.one rfl (Wn.no rfl) ?_
              refine WL.q (Wn.no rfl) rfl rfl (R.loadG (a := ra2) (i := j - 16) (xs := (wL bs j).map vu32) (v := (vu32 ((wL bs j).getD (j - 16) 0))) rfl (ownView (h_56.ok _ (.head _))) Try.isAgg22 (get_u32 (lt_len (K := j) (wL_len bs j) (by omega)))) ?_
              refine WL.nil ?_
              refine ⟨(SL.cons (h_56.ok _ (.tail _ (.head _))) (SL.cons (h_56.ok _ (.tail _ (.tail _ (.head _)))) (SL.cons (h_56.ok _ (.tail _ (.tail _ (.tail _ (.head _))))) (SL.cons (h_56.ok _ (.tail _ (.tail _ (.tail _ (.tail _ (.head _)))))) (SL.nil _ _))))), ?_⟩
              refine WT.q rfl (Wn.no rfl) rfl rfl (fun wq hS => R.bin (v := (vu32 (((wL bs j).getD (j - 16) 0) + (((rot ((wL bs j).getD (j - 15) 0) 7) ^^^ (rot ((wL bs j).getD (j - 15) 0) 18)) ^^^ (shr32 ((wL bs j).getD (j - 15) 0) 3))))) rfl rfl (b32_add ((wL bs j).getD (j - 16) 0) (((rot ((wL bs j).getD (j - 15) 0) 7) ^^^ (rot ((wL bs j).getD (j - 15) 0) 18)) ^^^ (shr32 ((wL bs j).getD (j - 15) 0) 3)))) ?_
              refine WT.s ?_
              refine Op1.one rfl (Wn.no rfl) ?_
              refine WL.q (Wn.no rfl) rfl rfl (R.loadG (a := ra2) (i := j - 7) (xs := (wL bs j).map vu32) (v := (vu32 ((wL bs j).getD (j - 7) 0))) rfl (ownView (h_56.ok _ (.head _))) Try.isAgg22 (get_u32 (lt_len (K := j) (wL_len bs j) (by omega)))) ?_
              refine WL.nil ?_
              refine ⟨(SL.cons (h_56.ok _ (.tail _ (.head _))) (SL.cons (h_56.ok _ (.tail _ (.tail _ (.head _)))) (SL.cons (h_56.ok _ (.tail _ (.tail _ (.tail _ (.head _))))) (SL.cons (h_56.ok _ (.tail _ (.tail _ (.tail _ (.tail _ (.head _)))))) (SL.nil _ _))))), ?_⟩
              refine WT.q rfl (Wn.no rfl) rfl rfl (fun wq hS => R.bin (v := (vu32 ((((wL bs j).getD (j - 16) 0) + (((rot ((wL bs j).getD (j - 15) 0) 7) ^^^ (rot ((wL bs j).getD (j - 15) 0) 18)) ^^^ (shr32 ((wL bs j).getD (j - 15) 0) 3))) + ((wL bs j).getD (j - 7) 0)))) rfl rfl (b32_add (((wL bs j).getD (j - 16) 0) + (((rot ((wL bs j).getD (j - 15) 0) 7) ^^^ (rot ((wL bs j).getD (j - 15) 0) 18)) ^^^ (shr32 ((wL bs j).getD (j - 15) 0) 3))) ((wL bs j).getD (j - 7) 0))) ?_
              refine WT.q rfl (Wn.no rfl) rfl rfl (fun wq hS => R.bin (v := (vu32 (((((wL bs j).getD (j - 16) 0) + (((rot ((wL bs j).getD (j - 15) 0) 7) ^^^ (rot ((wL bs j).getD (j - 15) 0) 18)) ^^^ (shr32 ((wL bs j).getD (j - 15) 0) 3))) + ((wL bs j).getD (j - 7) 0)) + (((rot ((wL bs j).getD (j - 2) 0) 17) ^^^ (rot ((wL bs j).getD (j - 2) 0) 19)) ^^^ (shr32 ((wL bs j).getD (j - 2) 0) 10))))) rfl rfl (b32_add ((((wL bs j).getD (j - 16) 0) + (((rot ((wL bs j).getD (j - 15) 0) 7) ^^^ (rot ((wL bs j).getD (j - 15) 0) 18)) ^^^ (shr32 ((wL bs j).getD (j - 15) 0) 3))) + ((wL bs j).getD (j - 7) 0)) (((rot ((wL bs j).getD (j - 2) 0) 17) ^^^ (rot ((wL bs j).getD (j - 2) 0) 19)) ^^^ (shr32 ((wL bs j).getD (j - 2) 0) 10)))) ?_
              refine WT.s ?_
              refine Op1.one rfl (Wn.no rfl) ?_
              refine WL.buildSl (vs := [(0, (vu32 (((((wL bs j).getD (j - 16) 0) + (((rot ((wL bs j).getD (j - 15) 0) 7) ^^^ (rot ((wL bs j).getD (j - 15) 0) 18)) ^^^ (shr32 ((wL bs j).getD (j - 15) 0) 3))) + ((wL bs j).getD (j - 7) 0)) + (((rot ((wL bs j).getD (j - 2) 0) 17) ^^^ (rot ((wL bs j).getD (j - 2) 0) 19)) ^^^ (shr32 ((wL bs j).getD (j - 2) 0) 10)))))]) (cs := ([((((wL bs j).getD (j - 16) 0) + (((rot ((wL bs j).getD (j - 15) 0) 7) ^^^ (rot ((wL bs j).getD (j - 15) 0) 18)) ^^^ (shr32 ((wL bs j).getD (j - 15) 0) 3))) + ((wL bs j).getD (j - 7) 0)) + (((rot ((wL bs j).getD (j - 2) 0) 17) ^^^ (rot ((wL bs j).getD (j - 2) 0) 19)) ^^^ (shr32 ((wL bs j).getD (j - 2) 0) 10))] : List UInt32).map vu32) h_56 Try.underlying37 Try.sizeOf22 (zv Try.typeInfo22 rfl) rfl rfl (by kernel_rfl) rfl (one_u32 _) rfl rfl (fun b_79 w_80 h_81 => ?_)
              refine WL.nil ?_
              refine ⟨(SL.cons (h_81.ok _ (.tail _ (.tail _ (.head _)))) (SL.cons (h_81.ok _ (.tail _ (.tail _ (.tail _ (.head _))))) (SL.cons (h_81.ok _ (.tail _ (.tail _ (.tail _ (.tail _ (.head _)))))) (SL.cons (h_81.ok _ (.tail _ (.tail _ (.tail _ (.tail _ (.tail _ (.head _))))))) (SL.nil _ _))))), ?_⟩
              refine WT.s ?_
              refine Op1.one rfl (Wn.no rfl) ?_
              refine WL.append (km := j + 1) (xs := (wL bs j).map vu32) (ys := ([((((wL bs j).getD (j - 16) 0) + (((rot ((wL bs j).getD (j - 15) 0) 7) ^^^ (rot ((wL bs j).getD (j - 15) 0) 18)) ^^^ (shr32 ((wL bs j).getD (j - 15) 0) 3))) + ((wL bs j).getD (j - 7) 0)) + (((rot ((wL bs j).getD (j - 2) 0) 17) ^^^ (rot ((wL bs j).getD (j - 2) 0) 19)) ^^^ (shr32 ((wL bs j).getD (j - 2) 0) 10))] : List UInt32).map vu32) (zs := ((wL bs j) ++ ([((((wL bs j).getD (j - 16) 0) + (((rot ((wL bs j).getD (j - 15) 0) 7) ^^^ (rot ((wL bs j).getD (j - 15) 0) 18)) ^^^ (shr32 ((wL bs j).getD (j - 15) 0) 3))) + ((wL bs j).getD (j - 7) 0)) + (((rot ((wL bs j).getD (j - 2) 0) 17) ^^^ (rot ((wL bs j).getD (j - 2) 0) 19)) ^^^ (shr32 ((wL bs j).getD (j - 2) 0) 10))] : List UInt32)).map vu32) h_81 rfl rfl el37 (viewB (h_81.ok _ (.head _)) Sg.h) ((len_map (rfl : List.length ([((((wL bs j).getD (j - 16) 0) + (((rot ((wL bs j).getD (j - 15) 0) 7) ^^^ (rot ((wL bs j).getD (j - 15) 0) 18)) ^^^ (shr32 ((wL bs j).getD (j - 15) 0) 3))) + ((wL bs j).getD (j - 7) 0)) + (((rot ((wL bs j).getD (j - 2) 0) 17) ^^^ (rot ((wL bs j).getD (j - 2) 0) 19)) ^^^ (shr32 ((wL bs j).getD (j - 2) 0) 10))] : List UInt32) = 1)).trans (Nat.mul_one _).symm) (one_u32 _) (by simp only [List.map_append, List.map_nil]) (by omega) (by omega) (by omega) (fun _ _ => (At.t At.h)) rfl (fun a_82 c_83 w_84 h_85 => ?_)
              refine WL.nil ?_
              refine ⟨(SL.cons (h_85.ok _ (.tail _ (.tail _ (.head _)))) (SL.cons (h_85.ok _ (.tail _ (.tail _ (.tail _ (.head _))))) (SL.cons (h_85.ok _ (.tail _ (.tail _ (.tail _ (.tail _ (.head _)))))) (SL.cons (h_85.ok _ (.tail _ (.tail _ (.tail _ (.tail _ (.tail _ (.head _))))))) (SL.nil _ _))))), ?_⟩
              refine WT.q rfl (Wn.no rfl) rfl rfl (fun wq hS => R.assign (v := (.slice a_82 (j + 1) c_83)) rfl) ?_
              refine WT.nil ?_
              refine thn_n ?_
              exact ⟨(a_82, c_83, b_79), (Ag.upd rfl (Ag.upd rfl (Ag.upd rfl (Ag.upd rfl (Ag.upd rfl (Ag.upd rfl (Ag.upd rfl (Ag.upd rfl (Ag.upd rfl (Ag.upd rfl (Ag.upd rfl (Ag.upd rfl (Ag.upd rfl (Ag.upd rfl (Ag.upd rfl (Ag.upd rfl (Ag.upd rfl (Ag.upd rfl (Ag.upd rfl (Ag.refl _ _)))))))))))))))))))), ⟨rfl, rfl, rfl, rfl, rfl, rfl, rfl, rfl, rfl, rfl, rfl, rfl, rfl, rfl, rfl, rfl, rfl, rfl, rfl, trivial⟩, h_85⟩
            · refine Op1.one rfl (Wn.no rfl) ?_
              refine WL.q (Wn.no rfl) rfl rfl (R.loadG (a := ra2) (i := j - 7) (xs := (wL bs j).map vu32) (v := (vu32 ((wL bs j).getD (j - 7) 0))) rfl (ownView (h_56.ok _ (.head _))) Try.isAgg22 (get_u32 (lt_len (K := j) (wL_len bs j) (by omega)))) ?_
              refine WL.nil ?_
              refine ⟨(SL.cons (h_56.ok _ (.tail _ (.head _))) (SL.cons (h_56.ok _ (.tail _ (.tail _ (.head _)))) (SL.cons (h_56.ok _ (.tail _ (.tail _ (.tail _ (.head _))))) (SL.cons (h_56.ok _ (.tail _ (.tail _ (.tail _ (.tail _ (.head _)))))) (SL.nil _ _))))), ?_⟩
              refine WT.s ?_
              refine Op1.one rfl (Wn.no rfl) ?_
              refine WL.q (Wn.no rfl) rfl rfl (R.loadG (a := ra2) (i := j - 16) (xs := (wL bs j).map vu32) (v := (vu32 ((wL bs j).getD (j - 16) 0))) rfl (ownView (h_56.ok _ (.head _))) Try.isAgg22 (get_u32 (lt_len (K := j) (wL_len bs j) (by omega)))) ?_
              refine WL.nil ?_
              refine ⟨(SL.cons (h_56.ok _ (.tail _ (.head _))) (SL.cons (h_56.ok _ (.tail _ (.tail _ (.head _)))) (SL.cons (h_56.ok _ (.tail _ (.tail _ (.tail _ (.head _))))) (SL.cons (h_56.ok _ (.tail _ (.tail _ (.tail _ (.tail _ (.head _)))))) (SL.nil _ _))))), ?_⟩
              refine WT.q rfl (Wn.no rfl) rfl rfl (fun wq hS => R.bin (v := (vu32 (((wL bs j).getD (j - 16) 0) + (((rot ((wL bs j).getD (j - 15) 0) 7) ^^^ (rot ((wL bs j).getD (j - 15) 0) 18)) ^^^ (shr32 ((wL bs j).getD (j - 15) 0) 3))))) rfl rfl (b32_add ((wL bs j).getD (j - 16) 0) (((rot ((wL bs j).getD (j - 15) 0) 7) ^^^ (rot ((wL bs j).getD (j - 15) 0) 18)) ^^^ (shr32 ((wL bs j).getD (j - 15) 0) 3)))) ?_
              refine WT.q rfl (Wn.no rfl) rfl rfl (fun wq hS => R.bin (v := (vu32 ((((wL bs j).getD (j - 16) 0) + (((rot ((wL bs j).getD (j - 15) 0) 7) ^^^ (rot ((wL bs j).getD (j - 15) 0) 18)) ^^^ (shr32 ((wL bs j).getD (j - 15) 0) 3))) + ((wL bs j).getD (j - 7) 0)))) rfl rfl (b32_add (((wL bs j).getD (j - 16) 0) + (((rot ((wL bs j).getD (j - 15) 0) 7) ^^^ (rot ((wL bs j).getD (j - 15) 0) 18)) ^^^ (shr32 ((wL bs j).getD (j - 15) 0) 3))) ((wL bs j).getD (j - 7) 0))) ?_
              refine WT.q rfl (Wn.no rfl) rfl rfl (fun wq hS => R.bin (v := (vu32 (((((wL bs j).getD (j - 16) 0) + (((rot ((wL bs j).getD (j - 15) 0) 7) ^^^ (rot ((wL bs j).getD (j - 15) 0) 18)) ^^^ (shr32 ((wL bs j).getD (j - 15) 0) 3))) + ((wL bs j).getD (j - 7) 0)) + (((rot ((wL bs j).getD (j - 2) 0) 17) ^^^ (rot ((wL bs j).getD (j - 2) 0) 19)) ^^^ (shr32 ((wL bs j).getD (j - 2) 0) 10))))) rfl rfl (b32_add ((((wL bs j).getD (j - 16) 0) + (((rot ((wL bs j).getD (j - 15) 0) 7) ^^^ (rot ((wL bs j).getD (j - 15) 0) 18)) ^^^ (shr32 ((wL bs j).getD (j - 15) 0) 3))) + ((wL bs j).getD (j - 7) 0)) (((rot ((wL bs j).getD (j - 2) 0) 17) ^^^ (rot ((wL bs j).getD (j - 2) 0) 19)) ^^^ (shr32 ((wL bs j).getD (j - 2) 0) 10)))) ?_
              refine WT.s ?_
              refine Op1.one rfl (Wn.no rfl) ?_
              refine WL.buildSl (vs := [(0, (vu32 (((((wL bs j).getD (j - 16) 0) + (((rot ((wL bs j).getD (j - 15) 0) 7) ^^^ (rot ((wL bs j).getD (j - 15) 0) 18)) ^^^ (shr32 ((wL bs j).getD (j - 15) 0) 3))) + ((wL bs j).getD (j - 7) 0)) + (((rot ((wL bs j).getD (j - 2) 0) 17) ^^^ (rot ((wL bs j).getD (j - 2) 0) 19)) ^^^ (shr32 ((wL bs j).getD (j - 2) 0) 10)))))]) (cs := ([((((wL bs j).getD (j - 16) 0) + (((rot ((wL bs j).getD (j - 15) 0) 7) ^^^ (rot ((wL bs j).getD (j - 15) 0) 18)) ^^^ (shr32 ((wL bs j).getD (j - 15) 0) 3))) + ((wL bs j).getD (j - 7) 0)) + (((rot ((wL bs j).getD (j - 2) 0) 17) ^^^ (rot ((wL bs j).getD (j - 2) 0) 19)) ^^^ (shr32 ((wL bs j).getD (j - 2) 0) 10))] : List UInt32).map vu32) h_56 Try.underlying37 Try.sizeOf22 (zv Try.typeInfo22 rfl) rfl rfl (by kernel_rfl) rfl (one_u32 _) rfl rfl (fun b_86 w_87 h_88 => ?_)
              refine WL.nil ?_
              refine ⟨(SL.cons (h_88.ok _ (.tail _ (.tail _ (.head _)))) (SL.cons (h_88.ok _ (.tail _ (.tail _ (.tail _ (.head _))))) (SL.cons (h_88.ok _ (.tail _ (.tail _ (.tail _ (.tail _ (.head _)))))) (SL.cons (h_88.ok _ (.tail _ (.tail _ (.tail _ (.tail _ (.tail _ (.head _))))))) (SL.nil _ _))))), ?_⟩
              refine WT.s ?_
              refine Op1.one rfl (Wn.no rfl) ?_
              refine WL.append (km := j + 1) (xs := (wL bs j).map vu32) (ys := ([((((wL bs j).getD (j - 16) 0) + (((rot ((wL bs j).getD (j - 15) 0) 7) ^^^ (rot ((wL bs j).getD (j - 15) 0) 18)) ^^^ (shr32 ((wL bs j).getD (j - 15) 0) 3))) + ((wL bs j).getD (j - 7) 0)) + (((rot ((wL bs j).getD (j - 2) 0) 17) ^^^ (rot ((wL bs j).getD (j - 2) 0) 19)) ^^^ (shr32 ((wL bs j).getD (j - 2) 0) 10))] : List UInt32).map vu32) (zs := ((wL bs j) ++ ([((((wL bs j).getD (j - 16) 0) + (((rot ((wL bs j).getD (j - 15) 0) 7) ^^^ (rot ((wL bs j).getD (j - 15) 0) 18)) ^^^ (shr32 ((wL bs j).getD (j - 15) 0) 3))) + ((wL bs j).getD (j - 7) 0)) + (((rot ((wL bs j).getD (j - 2) 0) 17) ^^^ (rot ((wL bs j).getD (j - 2) 0) 19)) ^^^ (shr32 ((wL bs j).getD (j - 2) 0) 10))] : List UInt32)).map vu32) h_88 rfl rfl el37 (viewB (h_88.ok _ (.head _)) Sg.h) ((len_map (rfl : List.length ([((((wL bs j).getD (j - 16) 0) + (((rot ((wL bs j).getD (j - 15) 0) 7) ^^^ (rot ((wL bs j).getD (j - 15) 0) 18)) ^^^ (shr32 ((wL bs j).getD (j - 15) 0) 3))) + ((wL bs j).getD (j - 7) 0)) + (((rot ((wL bs j).getD (j - 2) 0) 17) ^^^ (rot ((wL bs j).getD (j - 2) 0) 19)) ^^^ (shr32 ((wL bs j).getD (j - 2) 0) 10))] : List UInt32) = 1)).trans (Nat.mul_one _).symm) (one_u32 _) (by simp only [List.map_append, List.map_nil]) (by omega) (by omega) (by omega) (fun _ _ => (At.t At.h)) rfl (fun a_89 c_90 w_91 h_92 => ?_)
              refine WL.nil ?_
              refine ⟨(SL.cons (h_92.ok _ (.tail _ (.tail _ (.head _)))) (SL.cons (h_92.ok _ (.tail _ (.tail _ (.tail _ (.head _))))) (SL.cons (h_92.ok _ (.tail _ (.tail _ (.tail _ (.tail _ (.head _)))))) (SL.cons (h_92.ok _ (.tail _ (.tail _ (.tail _ (.tail _ (.tail _ (.head _))))))) (SL.nil _ _))))), ?_⟩
              refine WT.q rfl (Wn.no rfl) rfl rfl (fun wq hS => R.assign (v := (.slice a_89 (j + 1) c_90)) rfl) ?_
              refine WT.nil ?_
              refine thn_n ?_
              exact ⟨(a_89, c_90, b_86), (Ag.upd rfl (Ag.upd rfl (Ag.upd rfl (Ag.upd rfl (Ag.upd rfl (Ag.upd rfl (Ag.upd rfl (Ag.upd rfl (Ag.upd rfl (Ag.upd rfl (Ag.upd rfl (Ag.upd rfl (Ag.upd rfl (Ag.upd rfl (Ag.upd rfl (Ag.upd rfl (Ag.upd rfl (Ag.upd rfl (Ag.upd rfl (Ag.refl _ _)))))))))))))))))))), ⟨rfl, rfl, rfl, rfl, rfl, rfl, rfl, rfl, rfl, rfl, rfl, rfl, rfl, rfl, rfl, rfl, rfl, rfl, rfl, trivial⟩, h_92⟩
          · refine Op1.one rfl (Wn.no rfl) ?_
            refine WL.q (Wn.no rfl) rfl rfl (R.loadG (a := ra2) (i := j - 7) (xs := (wL bs j).map vu32) (v := (vu32 ((wL bs j).getD (j - 7) 0))) rfl (ownView (h_56.ok _ (.head _))) Try.isAgg22 (get_u32 (lt_len (K := j) (wL_len bs j) (by omega)))) ?_
            refine WL.nil ?_
            refine ⟨(SL.cons (h_56.ok _ (.tail _ (.head _))) (SL.cons (h_56.ok _ (.tail _ (.tail _ (.head _)))) (SL.cons (h_56.ok _ (.tail _ (.tail _ (.tail _ (.head _))))) (SL.cons (h_56.ok _ (.tail _ (.tail _ (.tail _ (.tail _ (.head _)))))) (SL.nil _ _))))), ?_⟩
            refine WT.s ?_
            refine Op1.one rfl (Wn.no rfl) ?_
            refine WL.q (Wn.no rfl) rfl rfl (R.indexS (a := ra2) (i := j - 16) (off := j - 16) (xs := (wL bs j).map vu32) rfl rfl rfl (by omega) (ownView (h_56.ok _ (.head _))) (lt_len (K := j) (len_map (wL_len bs j)) (by omega)) Try.underlying37 Try.sizeOf22 (Nat.mul_one _).symm) ?_
            refine WL.nil ?_
            refine ⟨(SL.cons (h_56.ok _ (.tail _ (.head _))) (SL.cons (h_56.ok _ (.tail _ (.tail _ (.head _)))) (SL.cons (h_56.ok _ (.tail _ (.tail _ (.tail _ (.head _))))) (SL.cons (h_56.ok _ (.tail _ (.tail _ (.tail _ (.tail _ (.head _)))))) (SL.nil _ _))))), ?_⟩
            refine WT.s ?_
            refine Op1.one rfl (Wn.no rfl) ?_
            refine WL.q (Wn.no rfl) rfl rfl (R.loadG (a := ra2) (i := j - 16) (xs := (wL bs j).map vu32) (v := (vu32 ((wL bs j).getD (j - 16) 0))) rfl (ownView (h_56.ok _ (.head _))) Try.isAgg22 (get_u32 (lt_len (K := j) (wL_len bs j) (by omega)))) ?_
            refine WL.nil ?_
            refine ⟨(SL.cons (h_56.ok _ (.tail _ (.head _))) (SL.cons (h_56.ok _ (.tail _ (.tail _ (.head _)))) (SL.cons (h_56.ok _ (.tail _ (.tail _ (.tail _ (.head _))))) (SL.cons (h_56.ok _ (.tail _ (.tail _ (.tail _ (.tail _ (.head _)))))) (SL.nil _ _))))), ?_⟩
            refine WT.q rfl (Wn.no rfl) rfl rfl (fun wq hS => R.bin (v := (vu32 (((wL bs j).getD (j - 16) 0) + (((rot ((wL bs j).getD (j - 15) 0) 7) ^^^ (rot ((wL bs j).getD (j - 15) 0) 18)) ^^^ (shr32 ((wL bs j).getD (j - 15) 0) 3))))) rfl rfl (b32_add ((wL bs j).getD (j - 16) 0) (((rot ((wL bs j).getD (j - 15) 0) 7) ^^^ (rot ((wL bs j).getD (j - 15) 0) 18)) ^^^ (shr32 ((wL bs j).getD (j - 15) 0) 3)))) ?_
            refine WT.q rfl (Wn.no rfl) rfl rfl (fun wq hS => R.bin (v := (vu32 ((((wL bs j).getD (j - 16) 0) + (((rot ((wL bs j).getD (j - 15) 0) 7) ^^^ (rot ((wL bs j).getD (j - 15) 0) 18)) ^^^ (shr32 ((wL bs j).getD (j - 15) 0) 3))) + ((wL bs j).getD (j - 7) 0)))) rfl rfl (b32_add (((wL bs j).getD (j - 16) 0) + (((rot ((wL bs j).getD (j - 15) 0) 7) ^^^ (rot ((wL bs j).getD (j - 15) 0) 18)) ^^^ (shr32 ((wL bs j).getD (j - 15) 0) 3))) ((wL bs j).getD (j - 7) 0))) ?_
            refine WT.q rfl (Wn.no rfl) rfl rfl (fun wq hS => R.bin (v := (vu32 (((((wL bs j).getD (j - 16) 0) + (((rot ((wL bs j).getD (j - 15) 0) 7) ^^^ (rot ((wL bs j).getD (j - 15) 0) 18)) ^^^ (shr32 ((wL bs j).getD (j - 15) 0) 3))) + ((wL bs j).getD (j - 7) 0)) + (((rot ((wL bs j).getD (j - 2) 0) 17) ^^^ (rot ((wL bs j).getD (j - 2) 0) 19)) ^^^ (shr32 ((wL bs j).getD (j - 2) 0) 10))))) rfl rfl (b32_add ((((wL bs j).getD (j - 16) 0) + (((rot ((wL bs j).getD (j - 15) 0) 7) ^^^ (rot ((wL bs j).getD (j - 15) 0) 18)) ^^^ (shr32 ((wL bs j).getD (j - 15) 0) 3))) + ((wL bs j).getD (j - 7) 0)) (((rot ((wL bs j).getD (j - 2) 0) 17) ^^^ (rot ((wL bs j).getD (j - 2) 0) 19)) ^^^ (shr32 ((wL bs j).getD (j - 2) 0) 10)))) ?_
            refine WT.s ?_
            refine Op1.one rfl (Wn.no rfl) ?_
            refine WL.buildSl (vs := [(0, (vu32 (((((wL bs j).getD (j - 16) 0) + (((rot ((wL bs j).getD (j - 15) 0) 7) ^^^ (rot ((wL bs j).getD (j - 15) 0) 18)) ^^^ (shr32 ((wL bs j).getD (j - 15) 0) 3))) + ((wL bs j).getD (j - 7) 0)) + (((rot ((wL bs j).getD (j - 2) 0) 17) ^^^ (rot ((wL bs j).getD (j - 2) 0) 19)) ^^^ (shr32 ((wL bs j).getD (j - 2) 0) 10)))))]) (cs := ([((((wL bs j).getD (j - 16) 0) + (((rot ((wL bs j).getD (j - 15) 0) 7) ^^^ (rot ((wL bs j).getD (j - 15) 0) 18)) ^^^ (shr32 ((wL bs j).getD (j - 15) 0) 3))) + ((wL bs j).getD (j - 7) 0)) + (((rot ((wL bs j).getD (j - 2) 0) 17) ^^^ (rot ((wL bs j).getD (j - 2) 0) 19)) ^^^ (shr32 ((wL bs j).getD (j - 2) 0) 10))] : List UInt32).map vu32) h_56 Try.underlying37 Try.sizeOf22 (zv Try.typeInfo22 rfl) rfl rfl (by kernel_rfl) rfl (one_u32 _) rfl rfl (fun b_93 w_94 h_95 => ?_)
            refine WL.nil ?_
            refine ⟨(SL.cons (h_95.ok _ (.tail _ (.tail _ (.head _)))) (SL.cons (h_95.ok _ (.tail _ (.tail _ (.tail _ (.head _))))) (SL.cons (h_95.ok _ (.tail _ (.tail _ (.tail _ (.tail _ (.head _)))))) (SL.cons (h_95.ok _ (.tail _ (.tail _ (.tail _ (.tail _ (.tail _ (.head _))))))) (SL.nil _ _))))), ?_⟩
            refine WT.s ?_
            refine Op1.one rfl (Wn.no rfl) ?_
            refine WL.append (km := j + 1) (xs := (wL bs j).map vu32) (ys := ([((((wL bs j).getD (j - 16) 0) + (((rot ((wL bs j).getD (j - 15) 0) 7) ^^^ (rot ((wL bs j).getD (j - 15) 0) 18)) ^^^ (shr32 ((wL bs j).getD (j - 15) 0) 3))) + ((wL bs j).getD (j - 7) 0)) + (((rot ((wL bs j).getD (j - 2) 0) 17) ^^^ (rot ((wL bs j).getD (j - 2) 0) 19)) ^^^ (shr32 ((wL bs j).getD (j - 2) 0) 10))] : List UInt32).map vu32) (zs := ((wL bs j) ++ ([((((wL bs j).getD (j - 16) 0) + (((rot ((wL bs j).getD (j - 15) 0) 7) ^^^ (rot ((wL bs j).getD (j - 15) 0) 18)) ^^^ (shr32 ((wL bs j).getD (j - 15) 0) 3))) + ((wL bs j).getD (j - 7) 0)) + (((rot ((wL bs j).getD (j - 2) 0) 17) ^^^ (rot ((wL bs j).getD (j - 2) 0) 19)) ^^^ (shr32 ((wL bs j).getD (j - 2) 0) 10))] : List UInt32)).map vu32) h_95 rfl rfl el37 (viewB (h_95.ok _ (.head _)) Sg.h) ((len_map (rfl : List.length ([((((wL bs j).getD (j - 16) 0) + (((rot ((wL bs j).getD (j - 15) 0) 7) ^^^ (rot ((wL bs j).getD (j - 15) 0) 18)) ^^^ (shr32 ((wL bs j).getD (j - 15) 0) 3))) + ((wL bs j).getD (j - 7) 0)) + (((rot ((wL bs j).getD (j - 2) 0) 17) ^^^ (rot ((wL bs j).getD (j - 2) 0) 19)) ^^^ (shr32 ((wL bs j).getD (j - 2) 0) 10))] : List UInt32) = 1)).trans (Nat.mul_one _).symm) (one_u32 _) (by simp only [List.map_append, List.map_nil]) (by omega) (by omega) (by omega) (fun _ _ => (At.t At.h)) rfl (fun a_96 c_97 w_98 h_99 => ?_)
            refine WL.nil ?_
            refine ⟨(SL.cons (h_99.ok _ (.tail _ (.tail _ (.head _)))) (SL.cons (h_99.ok _ (.tail _ (.tail _ (.tail _ (.head _))))) (SL.cons (h_99.ok _ (.tail _ (.tail _ (.tail _ (.tail _ (.head _)))))) (SL.cons (h_99.ok _ (.tail _ (.tail _ (.tail _ (.tail _ (.tail _ (.head _))))))) (SL.nil _ _))))), ?_⟩
            refine WT.q rfl (Wn.no rfl) rfl rfl (fun wq hS => R.assign (v := (.slice a_96 (j + 1) c_97)) rfl) ?_
            refine WT.nil ?_
            refine thn_n ?_
            exact ⟨(a_96, c_97, b_93), (Ag.upd rfl (Ag.upd rfl (Ag.upd rfl (Ag.upd rfl (Ag.upd rfl (Ag.upd rfl (Ag.upd rfl (Ag.upd rfl (Ag.upd rfl (Ag.upd rfl (Ag.upd rfl (Ag.upd rfl (Ag.upd rfl (Ag.upd rfl (Ag.upd rfl (Ag.upd rfl (Ag.upd rfl (Ag.upd rfl (Ag.upd rfl (Ag.refl _ _)))))))))))))))))))), ⟨rfl, rfl, rfl, rfl, rfl, rfl, rfl, rfl, rfl, rfl, rfl, rfl, rfl, rfl, rfl, rfl, rfl, rfl, rfl, trivial⟩, h_99⟩
      · rintro ⟨a_103, c_104, b_105⟩ J_100 w_101 h_102
        refine inb_n ?_
        refine thn_n ?_
        refine WP.reg ?_
        refine WL.q (Wn.no rfl) rfl rfl (R.move (v := (vi ((j : Nat) : Int))) rfl) ?_
        refine WL.q (Wn.no rfl) rfl rfl (R.bin (v := (vi ((j + 1 : Nat) : Int))) rfl rfl (bi_add (c := ((j + 1 : Nat) : Int)) (by omega) (by omega))) ?_
        refine WL.q (Wn.no rfl) rfl rfl (R.assign (v := (vi ((j + 1 : Nat) : Int))) rfl) ?_
        refine WL.nil ?_
        refine thn_n ?_
        have h_106 := h_102.drop rfl
        have h_107 := h_106.up (Pick.t (Pick.t (Pick.t (Pick.t Pick.h))))
        have h_108 := h_107.up (Pick.t (Pick.t (Pick.t (Pick.t Pick.h))))
        have h_109 := h_108.up (Pick.t (Pick.t (Pick.t (Pick.t Pick.h))))
        have h_110 := h_109.up (Pick.t (Pick.t (Pick.t (Pick.t Pick.h))))
        have h_111 := h_110.up (Pick.t (Pick.t (Pick.t (Pick.t Pick.h))))
        have es : (wL bs j) ++ ([((((wL bs j).getD (j - 16) 0) + (((rot ((wL bs j).getD (j - 15) 0) 7) ^^^ (rot ((wL bs j).getD (j - 15) 0) 18)) ^^^ (shr32 ((wL bs j).getD (j - 15) 0) 3))) + ((wL bs j).getD (j - 7) 0)) + (((rot ((wL bs j).getD (j - 2) 0) 17) ^^^ (rot ((wL bs j).getD (j - 2) 0) 19)) ^^^ (shr32 ((wL bs j).getD (j - 2) 0) 10))] : List UInt32) = wL bs (j + 1) := wL_hi4 (by omega) rfl
        rw [es] at h_111
        exact ⟨(j + 1, a_103, c_104), _, (by omega), (Ag.upd rfl (Ag.upd rfl (Ag.upd rfl (Ag.updL rfl (Ag.trans (Ag.sub rfl (Ag.mix _ _ _)) (Ag.upd rfl (Ag.upd rfl (Ag.upd rfl (Ag.upd rfl (Ag.upd rfl (Ag.upd rfl (Ag.upd rfl (Ag.upd rfl (Ag.upd rfl (Ag.upd rfl (Ag.upd rfl (Ag.upd rfl (Ag.upd rfl (Ag.upd rfl (Ag.upd rfl (Ag.upd rfl (Ag.upd rfl (Ag.upd rfl (Ag.upd rfl (Ag.upd rfl (Ag.upd rfl (Ag.upd rfl (Ag.upd rfl (Ag.upd rfl (Ag.upd rfl (Ag.upd rfl (Ag.upd rfl (Ag.upd rfl (Ag.upd rfl (Ag.upd rfl (Ag.upd rfl (Ag.upd rfl (Ag.updL rfl (Ag.mix _ _ _))))))))))))))))))))))))))))))))))))))), ⟨rfl, rfl, trivial⟩, h_111, (by omega), (by omega), rfl⟩
    · have p_112 := of_decide_eq_false c_38
      refine WP.exit ?_
      refine thn_x ?_
      refine thn_x ?_
      refine inb_hit ?_
      refine thn_n ?_
      refine WP.seq ?_
      refine WP.reg ?_
      refine WL.q (Wn.no rfl) rfl rfl (R.loadA (b := b_1) (off := 0) [] [(8, hh.map vu32)] [] (cs := hh.map vu32) rfl Try.isAgg33 Try.sizeOf33 (h_35.ok _ (.tail _ (.tail _ (.tail _ (.head _))))) rfl rfl rfl rfl) ?_
      refine WL.alloc (segs := [(8, (List.replicate 8 (0 : UInt32)).map vu32)]) h_35 (zv Try.typeInfo33 rfl) rfl (SsOk.cons (SOk.u32 (List.length_replicate ..)) SsOk.nil) rfl (fun b_113 w_114 h_115 => ?_)
      refine WL.storeA (b := b_113) (off := 0) [] [(8, (List.replicate 8 (0 : UInt32)).map vu32)] [(8, hh.map vu32)] [] (ys := hh.map vu32) h_115 rfl rfl Try.sizeOf33 At.h (by decide) rfl rfl rfl rfl rfl rfl (SsOk.cons (SOk.u32 hhl) SsOk.nil) (fun w_116 h_117 => ?_)
      refine WL.nil ?_
      refine thn_n ?_
      refine WP.seq ?_
      refine WP.seq ?_
      refine WP.reg ?_
      refine WL.q (Wn.no rfl) rfl rfl (R.assign (v := (vi 0)) rfl) ?_
      refine WL.nil ?_
      refine thn_n ?_
      refine WP.block ?_
      have hj64 : j = 64 := by omega
      subst hj64
      have h_118 : HP w w_116 [.blk b_113 .nw 33 [(8, hh.map vu32)], .row ra2 64 rc2 22 1 ((W bs).map vu32), .blk b_7 .nw 33 [(8, (List.replicate 8 (0 : UInt32)).map vu32)], .blk b_4 .nw 34 [(64, bs.map vu8)], .blk b_1 .nw 33 [(8, hh.map vu32)], .view ak (ks.map vu32)] := h_117
      refine WP.loopG (G := Nat) [15, 16, 17, 18, 19, 20, 21, 22, 23, 110, 111, 112, 113, 114, 115, 116, 117, 118, 119, 120, 121, 122, 123, 124, 125, 126, 127, 128, 129, 130, 131, 132, 133, 134, 135, 136, 137, 138, 139, 140, 141, 142, 143, 144, 145, 146, 147, 148, 149, 150, 151, 152, 153, 154, 155, 156, 157, 158, 159, 160, 161, 162, 163, 164, 165, 166, 167, 168, 169, 170, 171, 172, 173, 174, 175, 176, 177, 178, 179, 180, 181, 182, 183, 184, 185, 186, 187, 188, 189] (fun r => [(15, (vi ((r : Nat) : Int)))]) (fun r m w1 => HP w w1 [.blk b_113 .nw 33 [(8, (stN ks (W bs) hh r).map vu32)], .row ra2 64 rc2 22 1 ((W bs).map vu32), .blk b_7 .nw 33 [(8, (List.replicate 8 (0 : UInt32)).map vu32)], .blk b_4 .nw 34 [(64, bs.map vu8)], .blk b_1 .nw 33 [(8, hh.map vu32)], .view ak (ks.map vu32)] ∧ (r ≤ 64) ∧ m = 64 - r) ⟨0, _, ⟨rfl, trivial⟩, h_118, (by omega), rfl⟩ ?_
      rintro r m_121 J_122 w_119 ⟨h_120, hr, rfl⟩
      refine WP.seq ?_
      refine WP.seq ?_
      refine WP.reg ?_
      refine WL.q (Wn.no rfl) rfl rfl (R.move (v := (vi ((r : Nat) : Int))) rfl) ?_
      refine WL.q (Wn.no rfl) rfl rfl (R.bin (v := (.bool (decide ((((r : Nat) : Int) : Int) < 64)))) rfl rfl (bi_lss (r := decide ((((r : Nat) : Int) : Int) < 64)) rfl)) ?_
      refine WL.nil ?_
      refine thn_n ?_
      refine WP.cond (b := decide ((((r : Nat) : Int) : Int) < 64)) rfl (fun c_123 => ?_) (fun c_123 => ?_)
      · have p_124 := of_decide_eq_true c_123
        refine WP.skip ?_
        refine thn_n ?_
        refine WP.seq ?_
        refine WP.block ?_
        refine WP.seq ?_
        refine WP.drawT (SL w.heap.size [.blk b_113 .nw 33 [(8, (stN ks (W bs) hh r).map vu32)], .row ra2 64 rc2 22 1 ((W bs).map vu32), .blk b_7 .nw 33 [(8, (List.replicate 8 (0 : UInt32)).map vu32)], .blk b_4 .nw 34 [(64, bs.map vu8)], .blk b_1 .nw 33 [(8, hh.map vu32)], .view ak (ks.map vu32)]) (.q 0 (.q 1 (.q 2 (.q 3 (.q 4 (.q 5 (.q 6 (.q 7 (.q 8 (.q 9 (.q 10 (.q 11 (.q 12 (.q 13 (.q 14 (.q 15 (.q 16 (.q 17 .nil)))))))))))))))))) (by kernel_rfl) (by kernel_rfl) rfl (by kernel_rfl) (fun w_125 hc_127 => (SL.cons ((h_120.same hc_127).ok _ (.head _)) (SL.cons ((h_120.same hc_127).ok _ (.tail _ (.head _))) (SL.cons ((h_120.same hc_127).ok _ (.tail _ (.tail _ (.head _)))) (SL.cons ((h_120.same hc_127).ok _ (.tail _ (.tail _ (.tail _ (.head _))))) (SL.cons ((h_120.same hc_127).ok _ (.tail _ (.tail _ (.tail _ (.tail _ (.head _)))))) (SL.cons ((h_120.same hc_127).ok _ (.tail _ (.tail _ (.tail _ (.tail _ (.tail _ (.head _))))))) (SL.nil _ _)))))))) (fun w_125 hc_127 => ?_)
        have h_126 := h_120.same hc_127
        refine WT.q rfl (Wn.no rfl) rfl rfl (fun wq hS => R.indexA (b := b_113) (off := 0) (off' := 0) (i := 0) rfl rfl rfl (by decide) Try.underlying33 Try.sizeOf22 rfl) ?_
        refine WT.q rfl (Wn.no rfl) rfl rfl (fun wq hS => R.loadE (b := b_113) (off := 0) (i := 0) (v := (vu32 ((stN ks (W bs) hh r).getD 0 0))) rfl Try.isAgg22 (hS _ (.head _)) Sg.h rfl (get_u32 (lt_len (K := 8) (stN_len hhl r) (by decide)))) ?_
        refine WT.q rfl (Wn.no rfl) rfl rfl (fun wq hS => R.indexA (b := b_113) (off := 0) (off' := 1) (i := 1) rfl rfl rfl (by decide) Try.underlying33 Try.sizeOf22 rfl) ?_
        refine WT.q rfl (Wn.no rfl) rfl rfl (fun wq hS => R.loadE (b := b_113) (off := 1) (i := 1) (v := (vu32 ((stN ks (W bs) hh r).getD 1 0))) rfl Try.isAgg22 (hS _ (.head _)) Sg.h rfl (get_u32 (lt_len (K := 8) (stN_len hhl r) (by decide)))) ?_
        refine WT.q rfl (Wn.no rfl) rfl rfl (fun wq hS => R.indexA (b := b_113) (off := 0) (off' := 2) (i := 2) rfl rfl rfl (by decide) Try.underlying33 Try.sizeOf22 rfl) ?_
        refine WT.q rfl (Wn.no rfl) rfl rfl (fun wq hS => R.loadE (b := b_113) (off := 2) (i := 2) (v := (vu32 ((stN ks (W bs) hh r).getD 2 0))) rfl Try.isAgg22 (hS _ (.head _)) Sg.h rfl (get_u32 (lt_len (K := 8) (stN_len hhl r) (by decide)))) ?_
        refine WT.q rfl (Wn.no rfl) rfl rfl (fun wq hS => R.indexA (b := b_113) (off := 0) (off' := 4) (i := 4) rfl rfl rfl (by decide) Try.underlying33 Try.sizeOf22 rfl) ?_
        refine WT.q rfl (Wn.no rfl) rfl rfl (fun wq hS => R.loadE (b := b_113) (off := 4) (i := 4) (v := (vu32 ((stN ks (W bs) hh r).getD 4 0))) rfl Try.isAgg22 (hS _ (.head _)) Sg.h rfl (get_u32 (lt_len (K := 8) (stN_len hhl r) (by decide)))) ?_
        refine WT.q rfl (Wn.no rfl) rfl rfl (fun wq hS => R.indexA (b := b_113) (off := 0) (off' := 5) (i := 5) rfl rfl rfl (by decide) Try.underlying33 Try.sizeOf22 rfl) ?_
        refine WT.q rfl (Wn.no rfl) rfl rfl (fun wq hS => R.loadE (b := b_113) (off := 5) (i := 5) (v := (vu32 ((stN ks (W bs) hh r).getD 5 0))) rfl Try.isAgg22 (hS _ (.head _)) Sg.h rfl (get_u32 (lt_len (K := 8) (stN_len hhl r) (by decide)))) ?_
        refine WT.q rfl (Wn.no rfl) rfl rfl (fun wq hS => R.indexA (b := b_113) (off := 0) (off' := 6) (i := 6) rfl rfl rfl (by decide) Try.underlying33 Try.sizeOf22 rfl) ?_
        refine WT.q rfl (Wn.no rfl) rfl rfl (fun wq hS => R.loadE (b := b_113) (off := 6) (i := 6) (v := (vu32 ((stN ks (W bs) hh r).getD 6 0))) rfl Try.isAgg22 (hS _ (.head _)) Sg.h rfl (get_u32 (lt_len (K := 8) (stN_len hhl r) (by decide)))) ?_
        refine WT.q rfl (Wn.no rfl) rfl rfl (fun wq hS => R.assign (v := (vu32 ((stN ks (W bs) hh r).getD 0 0))) rfl) ?_
        refine WT.q rfl (Wn.no rfl) rfl rfl (fun wq hS => R.assign (v := (vu32 ((stN ks (W bs) hh r).getD 1 0))) rfl) ?_
        refine WT.q rfl (Wn.no rfl) rfl rfl (fun wq hS => R.assign (v := (vu32 ((stN ks (W bs) hh r).getD 2 0))) rfl) ?_
        refine WT.q rfl (Wn.no rfl) rfl rfl (fun wq hS => R.assign (v := (vu32 ((stN ks (W bs) hh r).getD 4 0))) rfl) ?_
        refine WT.q rfl (Wn.no rfl) rfl rfl (fun wq hS => R.assign (v := (vu32 ((stN ks (W bs) hh r).getD 5 0))) rfl) ?_
        refine WT.q rfl (Wn.no rfl) rfl rfl (fun wq hS => R.assign (v := (vu32 ((stN ks (W bs) hh r).getD 6 0))) rfl) ?_
        refine WT.nil ?_
        refine thn_n ?_
        refine WP.seq ?_
        refine WP.drawT (SL w.heap.size [.blk b_113 .nw 33 [(8, (stN ks (W bs) hh r).map vu32)], .row ra2 64 rc2 22 1 ((W bs).map vu32), .blk b_7 .nw 33 [(8, (List.replicate 8 (0 : UInt32)).map vu32)], .blk b_4 .nw 34 [(64, bs.map vu8)], .blk b_1 .nw 33 [(8, hh.map vu32)], .view ak (ks.map vu32)]) (.q 0 (.q 1 (.q 2 (.q 4 (.q 7 (.q 11 (.q 12 (.q 13 (.q 14 (.q 15 (.q 16 (.q 17 (.q 18 (.q 20 (.q 21 (.q 22 (.q 23 (.q 25 (.q 26 (.q 27 (.q 28 (.s 3 (.s 5 (.q 6 (.s 8 (.q 9 (.q 10 (.q 19 (.q 24 (.q 29 (.q 30 .nil))))))))))))))))))))))))))))))) (by kernel_rfl) (by kernel_rfl) rfl (by kernel_rfl) (fun w_128 hc_130 => (SL.cons ((h_126.same hc_130).ok _ (.head _)) (SL.cons ((h_126.same hc_130).ok _ (.tail _ (.head _))) (SL.cons ((h_126.same hc_130).ok _ (.tail _ (.tail _ (.head _)))) (SL.cons ((h_126.same hc_130).ok _ (.tail _ (.tail _ (.tail _ (.head _))))) (SL.cons ((h_126.same hc_130).ok _ (.tail _ (.tail _ (.tail _ (.tail _ (.head _)))))) (SL.cons ((h_126.same hc_130).ok _ (.tail _ (.tail _ (.tail _ (.tail _ (.tail _ (.head _))))))) (SL.nil _ _)))))))) (fun w_128 hc_130 => ?_)
        have h_129 := h_126.same hc_130
        refine WT.q rfl (Wn.no rfl) rfl rfl (fun wq hS => R.indexA (b := b_113) (off := 0) (off' := 7) (i := 7) rfl rfl rfl (by decide) Try.underlying33 Try.sizeOf22 rfl) ?_
        refine WT.q rfl (Wn.no rfl) rfl rfl (fun wq hS => R.loadE (b := b_113) (off := 7) (i := 7) (v := (vu32 ((stN ks (W bs) hh r).getD 7 0))) rfl Try.isAgg22 (hS _ (.head _)) Sg.h rfl (get_u32 (lt_len (K := 8) (stN_len hhl r) (by decide)))) ?_
        refine WT.q rfl (Wn.no rfl) rfl rfl (fun wq hS => R.move (v := (vu32 ((stN ks (W bs) hh r).getD 4 0))) rfl) ?_
        refine WT.q rfl (Wn.no rfl) rfl rfl (fun wq hS => R.move (v := (vu32 ((stN ks (W bs) hh r).getD 4 0))) rfl) ?_
        refine WT.q rfl (Wn.no rfl) rfl rfl (fun wq hS => R.move (v := (vu32 ((stN ks (W bs) hh r).getD 4 0))) rfl) ?_
        refine WT.q rfl (Wn.no rfl) rfl rfl (fun wq hS => R.move (v := (vu32 ((stN ks (W bs) hh r).getD 4 0))) rfl) ?_
        refine WT.q rfl (Wn.no rfl) rfl rfl (fun wq hS => R.move (v := (vu32 ((stN ks (W bs) hh r).getD 5 0))) rfl) ?_
        refine WT.q rfl (Wn.no rfl) rfl rfl (fun wq hS => R.bin (v := (vu32 (((stN ks (W bs) hh r).getD 4 0) &&& ((stN ks (W bs) hh r).getD 5 0)))) rfl rfl (b32_and ((stN ks (W bs) hh r).getD 4 0) ((stN ks (W bs) hh r).getD 5 0))) ?_
        refine WT.q rfl (Wn.no rfl) rfl rfl (fun wq hS => R.move (v := (vu32 ((stN ks (W bs) hh r).getD 4 0))) rfl) ?_
        refine WT.q rfl (Wn.no rfl) rfl rfl (fun wq hS => R.un rfl (run_not32 ((stN ks (W bs) hh r).getD 4 0))) ?_
        refine WT.q rfl (Wn.no rfl) rfl rfl (fun wq hS => R.move (v := (vu32 ((stN ks (W bs) hh r).getD 6 0))) rfl) ?_
        refine WT.q rfl (Wn.no rfl) rfl rfl (fun wq hS => R.bin (v := (vu32 ((~~~((stN ks (W bs) hh r).getD 4 0)) &&& ((stN ks (W bs) hh r).getD 6 0)))) rfl rfl (b32_and (~~~((stN ks (W bs) hh r).getD 4 0)) ((stN ks (W bs) hh r).getD 6 0))) ?_
        refine WT.q rfl (Wn.no rfl) rfl rfl (fun wq hS => R.bin (v := (vu32 ((((stN ks (W bs) hh r).getD 4 0) &&& ((stN ks (W bs) hh r).getD 5 0)) ^^^ ((~~~((stN ks (W bs) hh r).getD 4 0)) &&& ((stN ks (W bs) hh r).getD 6 0))))) rfl rfl (b32_xor (((stN ks (W bs) hh r).getD 4 0) &&& ((stN ks (W bs) hh r).getD 5 0)) ((~~~((stN ks (W bs) hh r).getD 4 0)) &&& ((stN ks (W bs) hh r).getD 6 0)))) ?_
        refine WT.q rfl (Wn.no rfl) rfl rfl (fun wq hS => R.move (v := (.slice ak 64 kc)) rfl) ?_
        refine WT.q rfl (Wn.no rfl) rfl rfl (fun wq hS => R.move (v := (vi ((r : Nat) : Int))) rfl) ?_
        refine WT.q rfl (Wn.no rfl) rfl rfl (fun wq hS => R.indexS (a := ak) (i := r) (off := r) (xs := ks.map vu32) rfl rfl rfl (by omega) (viewV (hS _ (.tail _ (.tail _ (.tail _ (.tail _ (.tail _ (.head _)))))))) (lt_len (K := 64) (len_map hkl) (by omega)) Try.underlying37 Try.sizeOf22 (Nat.mul_one _).symm) ?_
        refine WT.q rfl (Wn.no rfl) rfl rfl (fun wq hS => R.loadG (a := ak) (i := r) (xs := ks.map vu32) (v := (vu32 (ks.getD r 0))) rfl (viewV (hS _ (.tail _ (.tail _ (.tail _ (.tail _ (.tail _ (.head _)))))))) Try.isAgg22 (get_u32 (lt_len (K := 64) hkl (by omega)))) ?_
        refine WT.q rfl (Wn.no rfl) rfl rfl (fun wq hS => R.move (v := (.slice ra2 64 rc2)) rfl) ?_
        refine WT.q rfl (Wn.no rfl) rfl rfl (fun wq hS => R.move (v := (vi ((r : Nat) : Int))) rfl) ?_
        refine WT.q rfl (Wn.no rfl) rfl rfl (fun wq hS => R.indexS (a := ra2) (i := r) (off := r) (xs := (W bs).map vu32) rfl rfl rfl (by omega) (ownView (hS _ (.tail _ (.head _)))) (lt_len (K := 64) (len_map (W_len bs)) (by omega)) Try.underlying37 Try.sizeOf22 (Nat.mul_one _).symm) ?_
        refine WT.q rfl (Wn.no rfl) rfl rfl (fun wq hS => R.loadG (a := ra2) (i := r) (xs := (W bs).map vu32) (v := (vu32 ((W bs).getD r 0))) rfl (ownView (hS _ (.tail _ (.head _)))) Try.isAgg22 (get_u32 (lt_len (K := 64) (W_len bs) (by omega)))) ?_
        refine WT.s ?_
        refine Op1.one rfl (Wn.no rfl) ?_
        refine WL.call (al := [(vu32 ((stN ks (W bs) hh r).getD 4 0)), (vu64 6)]) Try.call57 rfl rfl (c_ror6 ((stN ks (W bs) hh r).getD 4 0) _ ) rfl ?_
        rintro _ w_132 ⟨rfl, hc_131⟩
        have h_133 := h_129.same hc_131
        refine WL.nil ?_
        refine ⟨(SL.cons (h_133.ok _ (.head _)) (SL.cons (h_133.ok _ (.tail _ (.head _))) (SL.cons (h_133.ok _ (.tail _ (.tail _ (.head _)))) (SL.cons (h_133.ok _ (.tail _ (.tail _ (.tail _ (.head _))))) (SL.cons (h_133.ok _ (.tail _ (.tail _ (.tail _ (.tail _ (.head _)))))) (SL.cons (h_133.ok _ (.tail _ (.tail _ (.tail _ (.tail _ (.tail _ (.head _))))))) (SL.nil _ _))))))), ?_⟩
        refine WT.s ?_
        refine Op1.one rfl (Wn.no rfl) ?_
        refine WL.call (al := [(vu32 ((stN ks (W bs) hh r).getD 4 0)), (vu64 11)]) Try.call57 rfl rfl (c_ror11 ((stN ks (W bs) hh r).getD 4 0) _ ) rfl ?_
        rintro _ w_135 ⟨rfl, hc_134⟩
        have h_136 := h_133.same hc_134
        refine WL.nil ?_
        refine ⟨(SL.cons (h_136.ok _ (.head _)) (SL.cons (h_136.ok _ (.tail _ (.head _))) (SL.cons (h_136.ok _ (.tail _ (.tail _ (.head _)))) (SL.cons (h_136.ok _ (.tail _ (.tail _ (.tail _ (.head _))))) (SL.cons (h_136.ok _ (.tail _ (.tail _ (.tail _ (.tail _ (.head _)))))) (SL.cons (h_136.ok _ (.tail _ (.tail _ (.tail _ (.tail _ (.tail _ (.head _))))))) (SL.nil _ _))))))), ?_⟩
        refine WT.q rfl (Wn.no rfl) rfl rfl (fun wq hS => R.bin (v := (vu32 ((rot ((stN ks (W bs) hh r).getD 4 0) 6) ^^^ (rot ((stN ks (W bs) hh r).getD 4 0) 11)))) rfl rfl (b32_xor (rot ((stN ks (W bs) hh r).getD 4 0) 6) (rot ((stN ks (W bs) hh r).getD 4 0) 11))) ?_
        refine WT.s ?_
        refine Op1.one rfl (Wn.no rfl) ?_
        refine WL.call (al := [(vu32 ((stN ks (W bs) hh r).getD 4 0)), (vu64 25)]) Try.call57 rfl rfl (c_ror25 ((stN ks (W bs) hh r).getD 4 0) _ ) rfl ?_
        rintro _ w_138 ⟨rfl, hc_137⟩
        have h_139 := h_136.same hc_137
        refine WL.nil ?_
        refine ⟨(SL.cons (h_139.ok _ (.head _)) (SL.cons (h_139.ok _ (.tail _ (.head _))) (SL.cons (h_139.ok _ (.tail _ (.tail _ (.head _)))) (SL.cons (h_139.ok _ (.tail _ (.tail _ (.tail _ (.head _))))) (SL.cons (h_139.ok _ (.tail _ (.tail _ (.tail _ (.tail _ (.head _)))))) (SL.cons (h_139.ok _ (.tail _ (.tail _ (.tail _ (.tail _ (.tail _ (.head _))))))) (SL.nil _ _))))))), ?_⟩
        refine WT.q rfl (Wn.no rfl) rfl rfl (fun wq hS => R.bin (v := (vu32 (((rot ((stN ks (W bs) hh r).getD 4 0) 6) ^^^ (rot ((stN ks (W bs) hh r).getD 4 0) 11)) ^^^ (rot ((stN ks (W bs) hh r).getD 4 0) 25)))) rfl rfl (b32_xor ((rot ((stN ks (W bs) hh r).getD 4 0) 6) ^^^ (rot ((stN ks (W bs) hh r).getD 4 0) 11)) (rot ((stN ks (W bs) hh r).getD 4 0) 25))) ?_
        refine WT.q rfl (Wn.no rfl) rfl rfl (fun wq hS => R.bin (v := (vu32 (((stN ks (W bs) hh r).getD 7 0) + (((rot ((stN ks (W bs) hh r).getD 4 0) 6) ^^^ (rot ((stN ks (W bs) hh r).getD 4 0) 11)) ^^^ (rot ((stN ks (W bs) hh r).getD 4 0) 25))))) rfl rfl (b32_add ((stN ks (W bs) hh r).getD 7 0) (((rot ((stN ks (W bs) hh r).getD 4 0) 6) ^^^ (rot ((stN ks (W bs) hh r).getD 4 0) 11)) ^^^ (rot ((stN ks (W bs) hh r).getD 4 0) 25)))) ?_
        refine WT.q rfl (Wn.no rfl) rfl rfl (fun wq hS => R.bin (v := (vu32 ((((stN ks (W bs) hh r).getD 7 0) + (((rot ((stN ks (W bs) hh r).getD 4 0) 6) ^^^ (rot ((stN ks (W bs) hh r).getD 4 0) 11)) ^^^ (rot ((stN ks (W bs) hh r).getD 4 0) 25))) + ((((stN ks (W bs) hh r).getD 4 0) &&& ((stN ks (W bs) hh r).getD 5 0)) ^^^ ((~~~((stN ks (W bs) hh r).getD 4 0)) &&& ((stN ks (W bs) hh r).getD 6 0)))))) rfl rfl (b32_add (((stN ks (W bs) hh r).getD 7 0) + (((rot ((stN ks (W bs) hh r).getD 4 0) 6) ^^^ (rot ((stN ks (W bs) hh r).getD 4 0) 11)) ^^^ (rot ((stN ks (W bs) hh r).getD 4 0) 25))) ((((stN ks (W bs) hh r).getD 4 0) &&& ((stN ks (W bs) hh r).getD 5 0)) ^^^ ((~~~((stN ks (W bs) hh r).getD 4 0)) &&& ((stN ks (W bs) hh r).getD 6 0))))) ?_
        refine WT.q rfl (Wn.no rfl) rfl rfl (fun wq hS => R.bin (v := (vu32 (((((stN ks (W bs) hh r).getD 7 0) + (((rot ((stN ks (W bs) hh r).getD 4 0) 6) ^^^ (rot ((stN ks (W bs) hh r).getD 4 0) 11)) ^^^ (rot ((stN ks (W bs) hh r).getD 4 0) 25))) + ((((stN ks (W bs) hh r).getD 4 0) &&& ((stN ks (W bs) hh r).getD 5 0)) ^^^ ((~~~((stN ks (W bs) hh r).getD 4 0)) &&& ((stN ks (W bs) hh r).getD 6 0)))) + (ks.getD r 0)))) rfl rfl (b32_add ((((stN ks (W bs) hh r).getD 7 0) + (((rot ((stN ks (W bs) hh r).getD 4 0) 6) ^^^ (rot ((stN ks (W bs) hh r).getD 4 0) 11)) ^^^ (rot ((stN ks (W bs) hh r).getD 4 0) 25))) + ((((stN ks (W bs) hh r).getD 4 0) &&& ((stN ks (W bs) hh r).getD 5 0)) ^^^ ((~~~((stN ks (W bs) hh r).getD 4 0)) &&& ((stN ks (W bs) hh r).getD 6 0)))) (ks.getD r 0))) ?_
        refine WT.q rfl (Wn.no rfl) rfl rfl (fun wq hS => R.bin (v := (vu32 ((((((stN ks (W bs) hh r).getD 7 0) + (((rot ((stN ks (W bs) hh r).getD 4 0) 6) ^^^ (rot ((stN ks (W bs) hh r).getD 4 0) 11)) ^^^ (rot ((stN ks (W bs) hh r).getD 4 0) 25))) + ((((stN ks (W bs) hh r).getD 4 0) &&& ((stN ks (W bs) hh r).getD 5 0)) ^^^ ((~~~((stN ks (W bs) hh r).getD 4 0)) &&& ((stN ks (W bs) hh r).getD 6 0)))) + (ks.getD r 0)) + ((W bs).getD r 0)))) rfl rfl (b32_add (((((stN ks (W bs) hh r).getD 7 0) + (((rot ((stN ks (W bs) hh r).getD 4 0) 6) ^^^ (rot ((stN ks (W bs) hh r).getD 4 0) 11)) ^^^ (rot ((stN ks (W bs) hh r).getD 4 0) 25))) + ((((stN ks (W bs) hh r).getD 4 0) &&& ((stN ks (W bs) hh r).getD 5 0)) ^^^ ((~~~((stN ks (W bs) hh r).getD 4 0)) &&& ((stN ks (W bs) hh r).getD 6 0)))) + (ks.getD r 0)) ((W bs).getD r 0))) ?_
        refine WT.q rfl (Wn.no rfl) rfl rfl (fun wq hS => R.assign (v := (vu32 ((((((stN ks (W bs) hh r).getD 7 0) + (((rot ((stN ks (W bs) hh r).getD 4 0) 6) ^^^ (rot ((stN ks (W bs) hh r).getD 4 0) 11)) ^^^ (rot ((stN ks (W bs) hh r).getD 4 0) 25))) + ((((stN ks (W bs) hh r).getD 4 0) &&& ((stN ks (W bs) hh r).getD 5 0)) ^^^ ((~~~((stN ks (W bs) hh r).getD 4 0)) &&& ((stN ks (W bs) hh r).getD 6 0)))) + (ks.getD r 0)) + ((W bs).getD r 0)))) rfl) ?_
        refine WT.nil ?_
        refine thn_n ?_
        refine WP.seq ?_
        refine WP.reg ?_
        refine WL.q (Wn.no rfl) rfl rfl (R.move (v := (vu32 ((stN ks (W bs) hh r).getD 0 0))) rfl) ?_
        refine WL.call (al := [(vu32 ((stN ks (W bs) hh r).getD 0 0)), (vu64 2)]) Try.call57 rfl rfl (c_ror2 ((stN ks (W bs) hh r).getD 0 0) _ ) rfl ?_
        rintro _ w_141 ⟨rfl, hc_140⟩
        have h_142 := h_139.same hc_140
        refine WL.q (Wn.no rfl) rfl rfl (R.move (v := (vu32 ((stN ks (W bs) hh r).getD 0 0))) rfl) ?_
        refine WL.call (al := [(vu32 ((stN ks (W bs) hh r).getD 0 0)), (vu64 13)]) Try.call57 rfl rfl (c_ror13 ((stN ks (W bs) hh r).getD 0 0) _ ) rfl ?_
        rintro _ w_144 ⟨rfl, hc_143⟩
        have h_145 := h_142.same hc_143
        refine WL.q (Wn.no rfl) rfl rfl (R.bin (v := (vu32 ((rot ((stN ks (W bs) hh r).getD 0 0) 2) ^^^ (rot ((stN ks (W bs) hh r).getD 0 0) 13)))) rfl rfl (b32_xor (rot ((stN ks (W bs) hh r).getD 0 0) 2) (rot ((stN ks (W bs) hh r).getD 0 0) 13))) ?_
        refine WL.q (Wn.no rfl) rfl rfl (R.move (v := (vu32 ((stN ks (W bs) hh r).getD 0 0))) rfl) ?_
        refine WL.call (al := [(vu32 ((stN ks (W bs) hh r).getD 0 0)), (vu64 22)]) Try.call57 rfl rfl (c_ror22 ((stN ks (W bs) hh r).getD 0 0) _ ) rfl ?_
        rintro _ w_147 ⟨rfl, hc_146⟩
        have h_148 := h_145.same hc_146
        refine WL.q (Wn.no rfl) rfl rfl (R.bin (v := (vu32 (((rot ((stN ks (W bs) hh r).getD 0 0) 2) ^^^ (rot ((stN ks (W bs) hh r).getD 0 0) 13)) ^^^ (rot ((stN ks (W bs) hh r).getD 0 0) 22)))) rfl rfl (b32_xor ((rot ((stN ks (W bs) hh r).getD 0 0) 2) ^^^ (rot ((stN ks (W bs) hh r).getD 0 0) 13)) (rot ((stN ks (W bs) hh r).getD 0 0) 22))) ?_
        refine WL.q (Wn.no rfl) rfl rfl (R.move (v := (vu32 ((stN ks (W bs) hh r).getD 0 0))) rfl) ?_
        refine WL.q (Wn.no rfl) rfl rfl (R.move (v := (vu32 ((stN ks (W bs) hh r).getD 1 0))) rfl) ?_
        refine WL.q (Wn.no rfl) rfl rfl (R.bin (v := (vu32 (((stN ks (W bs) hh r).getD 0 0) &&& ((stN ks (W bs) hh r).getD 1 0)))) rfl rfl (b32_and ((stN ks (W bs) hh r).getD 0 0) ((stN ks (W bs) hh r).getD 1 0))) ?_
        refine WL.q (Wn.no rfl) rfl rfl (R.move (v := (vu32 ((stN ks (W bs) hh r).getD 0 0))) rfl) ?_
        refine WL.q (Wn.no rfl) rfl rfl (R.move (v := (vu32 ((stN ks (W bs) hh r).getD 2 0))) rfl) ?_
        refine WL.q (Wn.no rfl) rfl rfl (R.bin (v := (vu32 (((stN ks (W bs) hh r).getD 0 0) &&& ((stN ks (W bs) hh r).getD 2 0)))) rfl rfl (b32_and ((stN ks (W bs) hh r).getD 0 0) ((stN ks (W bs) hh r).getD 2 0))) ?_
        refine WL.q (Wn.no rfl) rfl rfl (R.bin (v := (vu32 ((((stN ks (W bs) hh r).getD 0 0) &&& ((stN ks (W bs) hh r).getD 1 0)) ^^^ (((stN ks (W bs) hh r).getD 0 0) &&& ((stN ks (W bs) hh r).getD 2 0))))) rfl rfl (b32_xor (((stN ks (W bs) hh r).getD 0 0) &&& ((stN ks (W bs) hh r).getD 1 0)) (((stN ks (W bs) hh r).getD 0 0) &&& ((stN ks (W bs) hh r).getD 2 0)))) ?_
        refine WL.q (Wn.no rfl) rfl rfl (R.move (v := (vu32 ((stN ks (W bs) hh r).getD 1 0))) rfl) ?_
        refine WL.q (Wn.no rfl) rfl rfl (R.move (v := (vu32 ((stN ks (W bs) hh r).getD 2 0))) rfl) ?_
        refine WL.q (Wn.no rfl) rfl rfl (R.bin (v := (vu32 (((stN ks (W bs) hh r).getD 1 0) &&& ((stN ks (W bs) hh r).getD 2 0)))) rfl rfl (b32_and ((stN ks (W bs) hh r).getD 1 0) ((stN ks (W bs) hh r).getD 2 0))) ?_
        refine WL.q (Wn.no rfl) rfl rfl (R.bin (v := (vu32 (((((stN ks (W bs) hh r).getD 0 0) &&& ((stN ks (W bs) hh r).getD 1 0)) ^^^ (((stN ks (W bs) hh r).getD 0 0) &&& ((stN ks (W bs) hh r).getD 2 0))) ^^^ (((stN ks (W bs) hh r).getD 1 0) &&& ((stN ks (W bs) hh r).getD 2 0))))) rfl rfl (b32_xor ((((stN ks (W bs) hh r).getD 0 0) &&& ((stN ks (W bs) hh r).getD 1 0)) ^^^ (((stN ks (W bs) hh r).getD 0 0) &&& ((stN ks (W bs) hh r).getD 2 0))) (((stN ks (W bs) hh r).getD 1 0) &&& ((stN ks (W bs) hh r).getD 2 0)))) ?_
        refine WL.q (Wn.no rfl) rfl rfl (R.bin (v := (vu32 ((((rot ((stN ks (W bs) hh r).getD 0 0) 2) ^^^ (rot ((stN ks (W bs) hh r).getD 0 0) 13)) ^^^ (rot ((stN ks (W bs) hh r).getD 0 0) 22)) + (((((stN ks (W bs) hh r).getD 0 0) &&& ((stN ks (W bs) hh r).getD 1 0)) ^^^ (((stN ks (W bs) hh r).getD 0 0) &&& ((stN ks (W bs) hh r).getD 2 0))) ^^^ (((stN ks (W bs) hh r).getD 1 0) &&& ((stN ks (W bs) hh r).getD 2 0)))))) rfl rfl (b32_add (((rot ((stN ks (W bs) hh r).getD 0 0) 2) ^^^ (rot ((stN ks (W bs) hh r).getD 0 0) 13)) ^^^ (rot ((stN ks (W bs) hh r).getD 0 0) 22)) (((((stN ks (W bs) hh r).getD 0 0) &&& ((stN ks (W bs) hh r).getD 1 0)) ^^^ (((stN ks (W bs) hh r).getD 0 0) &&& ((stN ks (W bs) hh r).getD 2 0))) ^^^ (((stN ks (W bs) hh r).getD 1 0) &&& ((stN ks (W bs) hh r).getD 2 0))))) ?_
        refine WL.q (Wn.no rfl) rfl rfl (R.assign (v := (vu32 ((((rot ((stN ks (W bs) hh r).getD 0 0) 2) ^^^ (rot ((stN ks (W bs) hh r).getD 0 0) 13)) ^^^ (rot ((stN ks (W bs) hh r).getD 0 0) 22)) + (((((stN ks (W bs) hh r).getD 0 0) &&& ((stN ks (W bs) hh r).getD 1 0)) ^^^ (((stN ks (W bs) hh r).getD 0 0) &&& ((stN ks (W bs) hh r).getD 2 0))) ^^^ (((stN ks (W bs) hh r).getD 1 0) &&& ((stN ks (W bs) hh r).getD 2 0)))))) rfl) ?_
        refine WL.nil ?_
        refine thn_n ?_
        refine WP.reg ?_
        refine WL.q (Wn.no rfl) rfl rfl (R.move (v := (vu32 ((((((stN ks (W bs) hh r).getD 7 0) + (((rot ((stN ks (W bs) hh r).getD 4 0) 6) ^^^ (rot ((stN ks (W bs) hh r).getD 4 0) 11)) ^^^ (rot ((stN ks (W bs) hh r).getD 4 0) 25))) + ((((stN ks (W bs) hh r).getD 4 0) &&& ((stN ks (W bs) hh r).getD 5 0)) ^^^ ((~~~((stN ks (W bs) hh r).getD 4 0)) &&& ((stN ks (W bs) hh r).getD 6 0)))) + (ks.getD r 0)) + ((W bs).getD r 0)))) rfl) ?_
        refine WL.q (Wn.no rfl) rfl rfl (R.move (v := (vu32 ((((rot ((stN ks (W bs) hh r).getD 0 0) 2) ^^^ (rot ((stN ks (W bs) hh r).getD 0 0) 13)) ^^^ (rot ((stN ks (W bs) hh r).getD 0 0) 22)) + (((((stN ks (W bs) hh r).getD 0 0) &&& ((stN ks (W bs) hh r).getD 1 0)) ^^^ (((stN ks (W bs) hh r).getD 0 0) &&& ((stN ks (W bs) hh r).getD 2 0))) ^^^ (((stN ks (W bs) hh r).getD 1 0) &&& ((stN ks (W bs) hh r).getD 2 0)))))) rfl) ?_
        refine WL.q (Wn.no rfl) rfl rfl (R.bin (v := (vu32 (((((((stN ks (W bs) hh r).getD 7 0) + (((rot ((stN ks (W bs) hh r).getD 4 0) 6) ^^^ (rot ((stN ks (W bs) hh r).getD 4 0) 11)) ^^^ (rot ((stN ks (W bs) hh r).getD 4 0) 25))) + ((((stN ks (W bs) hh r).getD 4 0) &&& ((stN ks (W bs) hh r).getD 5 0)) ^^^ ((~~~((stN ks (W bs) hh r).getD 4 0)) &&& ((stN ks (W bs) hh r).getD 6 0)))) + (ks.getD r 0)) + ((W bs).getD r 0)) + ((((rot ((stN ks (W bs) hh r).getD 0 0) 2) ^^^ (rot ((stN ks (W bs) hh r).getD 0 0) 13)) ^^^ (rot ((stN ks (W bs) hh r).getD 0 0) 22)) + (((((stN ks (W bs) hh r).getD 0 0) &&& ((stN ks (W bs) hh r).getD 1 0)) ^^^ (((stN ks (W bs) hh r).getD 0 0) &&& ((stN ks (W bs) hh r).getD 2 0))) ^^^ (((stN ks (W bs) hh r).getD 1 0) &&& ((stN ks (W bs) hh r).getD 2 0))))))) rfl rfl (b32_add ((((((stN ks (W bs) hh r).getD 7 0) + (((rot ((stN ks (W bs) hh r).getD 4 0) 6) ^^^ (rot ((stN ks (W bs) hh r).getD 4 0) 11)) ^^^ (rot ((stN ks (W bs) hh r).getD 4 0) 25))) + ((((stN ks (W bs) hh r).getD 4 0) &&& ((stN ks (W bs) hh r).getD 5 0)) ^^^ ((~~~((stN ks (W bs) hh r).getD 4 0)) &&& ((stN ks (W bs) hh r).getD 6 0)))) + (ks.getD r 0)) + ((W bs).getD r 0)) ((((rot ((stN ks (W bs) hh r).getD 0 0) 2) ^^^ (rot ((stN ks (W bs) hh r).getD 0 0) 13)) ^^^ (rot ((stN ks (W bs) hh r).getD 0 0) 22)) + (((((stN ks (W bs) hh r).getD 0 0) &&& ((stN ks (W bs) hh r).getD 1 0)) ^^^ (((stN ks (W bs) hh r).getD 0 0) &&& ((stN ks (W bs) hh r).getD 2 0))) ^^^ (((stN ks (W bs) hh r).getD 1 0) &&& ((stN ks (W bs) hh r).getD 2 0)))))) ?_
        refine WL.q (Wn.no rfl) rfl rfl (R.move (v := (vu32 ((stN ks (W bs) hh r).getD 0 0))) rfl) ?_
        refine WL.q (Wn.no rfl) rfl rfl (R.move (v := (vu32 ((stN ks (W bs) hh r).getD 1 0))) rfl) ?_
        refine WL.q (Wn.no rfl) rfl rfl (R.move (v := (vu32 ((stN ks (W bs) hh r).getD 2 0))) rfl) ?_
        refine WL.q (Wn.no rfl) rfl rfl (R.indexA (b := b_113) (off := 0) (off' := 3) (i := 3) rfl rfl rfl (by decide) Try.underlying33 Try.sizeOf22 rfl) ?_
        refine WL.q (Wn.no rfl) rfl rfl (R.loadE (b := b_113) (off := 3) (i := 3) (v := (vu32 ((stN ks (W bs) hh r).getD 3 0))) rfl Try.isAgg22 (h_148.ok _ (.head _)) Sg.h rfl (get_u32 (lt_len (K := 8) (stN_len hhl r) (by decide)))) ?_
        refine WL.q (Wn.no rfl) rfl rfl (R.move (v := (vu32 ((((((stN ks (W bs) hh r).getD 7 0) + (((rot ((stN ks (W bs) hh r).getD 4 0) 6) ^^^ (rot ((stN ks (W bs) hh r).getD 4 0) 11)) ^^^ (rot ((stN ks (W bs) hh r).getD 4 0) 25))) + ((((stN ks (W bs) hh r).getD 4 0) &&& ((stN ks (W bs) hh r).getD 5 0)) ^^^ ((~~~((stN ks (W bs) hh r).getD 4 0)) &&& ((stN ks (W bs) hh r).getD 6 0)))) + (ks.getD r 0)) + ((W bs).getD r 0)))) rfl) ?_
        refine WL.q (Wn.no rfl) rfl rfl (R.bin (v := (vu32 (((stN ks (W bs) hh r).getD 3 0) + ((((((stN ks (W bs) hh r).getD 7 0) + (((rot ((stN ks (W bs) hh r).getD 4 0) 6) ^^^ (rot ((stN ks (W bs) hh r).getD 4 0) 11)) ^^^ (rot ((stN ks (W bs) hh r).getD 4 0) 25))) + ((((stN ks (W bs) hh r).getD 4 0) &&& ((stN ks (W bs) hh r).getD 5 0)) ^^^ ((~~~((stN ks (W bs) hh r).getD 4 0)) &&& ((stN ks (W bs) hh r).getD 6 0)))) + (ks.getD r 0)) + ((W bs).getD r 0))))) rfl rfl (b32_add ((stN ks (W bs) hh r).getD 3 0) ((((((stN ks (W bs) hh r).getD 7 0) + (((rot ((stN ks (W bs) hh r).getD 4 0) 6) ^^^ (rot ((stN ks (W bs) hh r).getD 4 0) 11)) ^^^ (rot ((stN ks (W bs) hh r).getD 4 0) 25))) + ((((stN ks (W bs) hh r).getD 4 0) &&& ((stN ks (W bs) hh r).getD 5 0)) ^^^ ((~~~((stN ks (W bs) hh r).getD 4 0)) &&& ((stN ks (W bs) hh r).getD 6 0)))) + (ks.getD r 0)) + ((W bs).getD r 0)))) ?_
        refine WL.q (Wn.no rfl) rfl rfl (R.move (v := (vu32 ((stN ks (W bs) hh r).getD 4 0))) rfl) ?_
        refine WL.q (Wn.no rfl) rfl rfl (R.move (v := (vu32 ((stN ks (W bs) hh r).getD 5 0))) rfl) ?_
        refine WL.q (Wn.no rfl) rfl rfl (R.move (v := (vu32 ((stN ks (W bs) hh r).getD 6 0))) rfl) ?_
        refine WL.q (Wn.no rfl) rfl rfl (R.buildA (vs := [(0, (vu32 (((((((stN ks (W bs) hh r).getD 7 0) + (((rot ((stN ks (W bs) hh r).getD 4 0) 6) ^^^ (rot ((stN ks (W bs) hh r).getD 4 0) 11)) ^^^ (rot ((stN ks (W bs) hh r).getD 4 0) 25))) + ((((stN ks (W bs) hh r).getD 4 0) &&& ((stN ks (W bs) hh r).getD 5 0)) ^^^ ((~~~((stN ks (W bs) hh r).getD 4 0)) &&& ((stN ks (W bs) hh r).getD 6 0)))) + (ks.getD r 0)) + ((W bs).getD r 0)) + ((((rot ((stN ks (W bs) hh r).getD 0 0) 2) ^^^ (rot ((stN ks (W bs) hh r).getD 0 0) 13)) ^^^ (rot ((stN ks (W bs) hh r).getD 0 0) 22)) + (((((stN ks (W bs) hh r).getD 0 0) &&& ((stN ks (W bs) hh r).getD 1 0)) ^^^ (((stN ks (W bs) hh r).getD 0 0) &&& ((stN ks (W bs) hh r).getD 2 0))) ^^^ (((stN ks (W bs) hh r).getD 1 0) &&& ((stN ks (W bs) hh r).getD 2 0))))))), (1, (vu32 ((stN ks (W bs) hh r).getD 0 0))), (2, (vu32 ((stN ks (W bs) hh r).getD 1 0))), (3, (vu32 ((stN ks (W bs) hh r).getD 2 0))), (4, (vu32 (((stN ks (W bs) hh r).getD 3 0) + ((((((stN ks (W bs) hh r).getD 7 0) + (((rot ((stN ks (W bs) hh r).getD 4 0) 6) ^^^ (rot ((stN ks (W bs) hh r).getD 4 0) 11)) ^^^ (rot ((stN ks (W bs) hh r).getD 4 0) 25))) + ((((stN ks (W bs) hh r).getD 4 0) &&& ((stN ks (W bs) hh r).getD 5 0)) ^^^ ((~~~((stN ks (W bs) hh r).getD 4 0)) &&& ((stN ks (W bs) hh r).getD 6 0)))) + (ks.getD r 0)) + ((W bs).getD r 0))))), (5, (vu32 ((stN ks (W bs) hh r).getD 4 0))), (6, (vu32 ((stN ks (W bs) hh r).getD 5 0))), (7, (vu32 ((stN ks (W bs) hh r).getD 6 0)))]) (cs := ([((((((stN ks (W bs) hh r).getD 7 0) + (((rot ((stN ks (W bs) hh r).getD 4 0) 6) ^^^ (rot ((stN ks (W bs) hh r).getD 4 0) 11)) ^^^ (rot ((stN ks (W bs) hh r).getD 4 0) 25))) + ((((stN ks (W bs) hh r).getD 4 0) &&& ((stN ks (W bs) hh r).getD 5 0)) ^^^ ((~~~((stN ks (W bs) hh r).getD 4 0)) &&& ((stN ks (W bs) hh r).getD 6 0)))) + (ks.getD r 0)) + ((W bs).getD r 0)) + ((((rot ((stN ks (W bs) hh r).getD 0 0) 2) ^^^ (rot ((stN ks (W bs) hh r).getD 0 0) 13)) ^^^ (rot ((stN ks (W bs) hh r).getD 0 0) 22)) + (((((stN ks (W bs) hh r).getD 0 0) &&& ((stN ks (W bs) hh r).getD 1 0)) ^^^ (((stN ks (W bs) hh r).getD 0 0) &&& ((stN ks (W bs) hh r).getD 2 0))) ^^^ (((stN ks (W bs) hh r).getD 1 0) &&& ((stN ks (W bs) hh r).getD 2 0)))), (stN ks (W bs) hh r).getD 0 0, (stN ks (W bs) hh r).getD 1 0, (stN ks (W bs) hh r).getD 2 0, ((stN ks (W bs) hh r).getD 3 0) + ((((((stN ks (W bs) hh r).getD 7 0) + (((rot ((stN ks (W bs) hh r).getD 4 0) 6) ^^^ (rot ((stN ks (W bs) hh r).getD 4 0) 11)) ^^^ (rot ((stN ks (W bs) hh r).getD 4 0) 25))) + ((((stN ks (W bs) hh r).getD 4 0) &&& ((stN ks (W bs) hh r).getD 5 0)) ^^^ ((~~~((stN ks (W bs) hh r).getD 4 0)) &&& ((stN ks (W bs) hh r).getD 6 0)))) + (ks.getD r 0)) + ((W bs).getD r 0)), (stN ks (W bs) hh r).getD 4 0, (stN ks (W bs) hh r).getD 5 0, (stN ks (W bs) hh r).getD 6 0] : List UInt32).map vu32) Try.underlying33 Try.sizeOf22 (zv Try.typeInfo33 rfl) rfl (fill8 rfl _ _ _ _ _ _ _ _)) ?_
        refine WL.storeA (b := b_113) (off := 0) [] [(8, (stN ks (W bs) hh r).map vu32)] [(8, ([((((((stN ks (W bs) hh r).getD 7 0) + (((rot ((stN ks (W bs) hh r).getD 4 0) 6) ^^^ (rot ((stN ks (W bs) hh r).getD 4 0) 11)) ^^^ (rot ((stN ks (W bs) hh r).getD 4 0) 25))) + ((((stN ks (W bs) hh r).getD 4 0) &&& ((stN ks (W bs) hh r).getD 5 0)) ^^^ ((~~~((stN ks (W bs) hh r).getD 4 0)) &&& ((stN ks (W bs) hh r).getD 6 0)))) + (ks.getD r 0)) + ((W bs).getD r 0)) + ((((rot ((stN ks (W bs) hh r).getD 0 0) 2) ^^^ (rot ((stN ks (W bs) hh r).getD 0 0) 13)) ^^^ (rot ((stN ks (W bs) hh r).getD 0 0) 22)) + (((((stN ks (W bs) hh r).getD 0 0) &&& ((stN ks (W bs) hh r).getD 1 0)) ^^^ (((stN ks (W bs) hh r).getD 0 0) &&& ((stN ks (W bs) hh r).getD 2 0))) ^^^ (((stN ks (W bs) hh r).getD 1 0) &&& ((stN ks (W bs) hh r).getD 2 0)))), (stN ks (W bs) hh r).getD 0 0, (stN ks (W bs) hh r).getD 1 0, (stN ks (W bs) hh r).getD 2 0, ((stN ks (W bs) hh r).getD 3 0) + ((((((stN ks (W bs) hh r).getD 7 0) + (((rot ((stN ks (W bs) hh r).getD 4 0) 6) ^^^ (rot ((stN ks (W bs) hh r).getD 4 0) 11)) ^^^ (rot ((stN ks (W bs) hh r).getD 4 0) 25))) + ((((stN ks (W bs) hh r).getD 4 0) &&& ((stN ks (W bs) hh r).getD 5 0)) ^^^ ((~~~((stN ks (W bs) hh r).getD 4 0)) &&& ((stN ks (W bs) hh r).getD 6 0)))) + (ks.getD r 0)) + ((W bs).getD r 0)), (stN ks (W bs) hh r).getD 4 0, (stN ks (W bs) hh r).getD 5 0, (stN ks (W bs) hh r).getD 6 0] : List UInt32).map vu32)] [] (ys := ([((((((stN ks (W bs) hh r).getD 7 0) + (((rot ((stN ks (W bs) hh r).getD 4 0) 6) ^^^ (rot ((stN ks (W bs) hh r).getD 4 0) 11)) ^^^ (rot ((stN ks (W bs) hh r).getD 4 0) 25))) + ((((stN ks (W bs) hh r).getD 4 0) &&& ((stN ks (W bs) hh r).getD 5 0)) ^^^ ((~~~((stN ks (W bs) hh r).getD 4 0)) &&& ((stN ks (W bs) hh r).getD 6 0)))) + (ks.getD r 0)) + ((W bs).getD r 0)) + ((((rot ((stN ks (W bs) hh r).getD 0 0) 2) ^^^ (rot ((stN ks (W bs) hh r).getD 0 0) 13)) ^^^ (rot ((stN ks (W bs) hh r).getD 0 0) 22)) + (((((stN ks (W bs) hh r).getD 0 0) &&& ((stN ks (W bs) hh r).getD 1 0)) ^^^ (((stN ks (W bs) hh r).getD 0 0) &&& ((stN ks (W bs) hh r).getD 2 0))) ^^^ (((stN ks (W bs) hh r).getD 1 0) &&& ((stN ks (W bs) hh r).getD 2 0)))), (stN ks (W bs) hh r).getD 0 0, (stN ks (W bs) hh r).getD 1 0, (stN ks (W bs) hh r).getD 2 0, ((stN ks (W bs) hh r).getD 3 0) + ((((((stN ks (W bs) hh r).getD 7 0) + (((rot ((stN ks (W bs) hh r).getD 4 0) 6) ^^^ (rot ((stN ks (W bs) hh r).getD 4 0) 11)) ^^^ (rot ((stN ks (W bs) hh r).getD 4 0) 25))) + ((((stN ks (W bs) hh r).getD 4 0) &&& ((stN ks (W bs) hh r).getD 5 0)) ^^^ ((~~~((stN ks (W bs) hh r).getD 4 0)) &&& ((stN ks (W bs) hh r).getD 6 0)))) + (ks.getD r 0)) + ((W bs).getD r 0)), (stN ks (W bs) hh r).getD 4 0, (stN ks (W bs) hh r).getD 5 0, (stN ks (W bs) hh r).getD 6 0] : List UInt32).map vu32) h_148 rfl rfl Try.sizeOf33 At.h (by decide) rfl rfl rfl rfl rfl rfl (SsOk.cons (SOk.u32 (rfl : List.length ([((((((stN ks (W bs) hh r).getD 7 0) + (((rot ((stN ks (W bs) hh r).getD 4 0) 6) ^^^ (rot ((stN ks (W bs) hh r).getD 4 0) 11)) ^^^ (rot ((stN ks (W bs) hh r).getD 4 0) 25))) + ((((stN ks (W bs) hh r).getD 4 0) &&& ((stN ks (W bs) hh r).getD 5 0)) ^^^ ((~~~((stN ks (W bs) hh r).getD 4 0)) &&& ((stN ks (W bs) hh r).getD 6 0)))) + (ks.getD r 0)) + ((W bs).getD r 0)) + ((((rot ((stN ks (W bs) hh r).getD 0 0) 2) ^^^ (rot ((stN ks (W bs) hh r).getD 0 0) 13)) ^^^ (rot ((stN ks (W bs) hh r).getD 0 0) 22)) + (((((stN ks (W bs) hh r).getD 0 0) &&& ((stN ks (W bs) hh r).getD 1 0)) ^^^ (((stN ks (W bs) hh r).getD 0 0) &&& ((stN ks (W bs) hh r).getD 2 0))) ^^^ (((stN ks (W bs) hh r).getD 1 0) &&& ((stN ks (W bs) hh r).getD 2 0)))), (stN ks (W bs) hh r).getD 0 0, (stN ks (W bs) hh r).getD 1 0, (stN ks (W bs) hh r).getD 2 0, ((stN ks (W bs) hh r).getD 3 0) + ((((((stN ks (W bs) hh r).getD 7 0) + (((rot ((stN ks (W bs) hh r).getD 4 0) 6) ^^^ (rot ((stN ks (W bs) hh r).getD 4 0) 11)) ^^^ (rot ((stN ks (W bs) hh r).getD 4 0) 25))) + ((((stN ks (W bs) hh r).getD 4 0) &&& ((stN ks (W bs) hh r).getD 5 0)) ^^^ ((~~~((stN ks (W bs) hh r).getD 4 0)) &&& ((stN ks (W bs) hh r).getD 6 0)))) + (ks.getD r 0)) + ((W bs).getD r 0)), (stN ks (W bs) hh r).getD 4 0, (stN ks (W bs) hh r).getD 5 0, (stN ks (W bs) hh r).getD 6 0] : List UInt32) = 8)) SsOk.nil) (fun w_149 h_150 => ?_)
        refine WL.nil ?_
        refine inb_n ?_
        refine thn_n ?_
        refine WP.reg ?_
        refine WL.q (Wn.no rfl) rfl rfl (R.move (v := (vi ((r : Nat) : Int))) rfl) ?_
        refine WL.q (Wn.no rfl) rfl rfl (R.bin (v := (vi ((r + 1 : Nat) : Int))) rfl rfl (bi_add (c := ((r + 1 : Nat) : Int)) (by omega) (by omega))) ?_
        refine WL.q (Wn.no rfl) rfl rfl (R.assign (v := (vi ((r + 1 : Nat) : Int))) rfl) ?_
        refine WL.nil ?_
        refine thn_n ?_
        have h_151 := h_150.up (Pick.t (Pick.t (Pick.t (Pick.t (Pick.t Pick.h)))))
        have h_152 := h_151.up (Pick.t (Pick.t (Pick.t (Pick.t (Pick.t Pick.h)))))
        have h_153 := h_152.up (Pick.t (Pick.t (Pick.t (Pick.t (Pick.t Pick.h)))))
        have h_154 := h_153.up (Pick.t (Pick.t (Pick.t (Pick.t (Pick.t Pick.h)))))
        have h_155 := h_154.up (Pick.t (Pick.t (Pick.t (Pick.t (Pick.t Pick.h)))))
        have h_156 := h_155.up (Pick.t (Pick.t (Pick.t (Pick.t (Pick.t Pick.h)))))
        have h_157 : HP w w_149 [.blk b_113 .nw 33 [(8, (stN ks (W bs) hh (r + 1)).map vu32)], .row ra2 64 rc2 22 1 ((W bs).map vu32), .blk b_7 .nw 33 [(8, (List.replicate 8 (0 : UInt32)).map vu32)], .blk b_4 .nw 34 [(64, bs.map vu8)], .blk b_1 .nw 33 [(8, hh.map vu32)], .view ak (ks.map vu32)] := h_156
        exact ⟨r + 1, _, (by omega), (Ag.upd rfl (Ag.upd rfl (Ag.upd rfl (Ag.upd rfl (Ag.upd rfl (Ag.upd rfl (Ag.upd rfl (Ag.upd rfl (Ag.upd rfl (Ag.upd rfl (Ag.upd rfl (Ag.upd rfl (Ag.upd rfl (Ag.upd rfl (Ag.upd rfl (Ag.upd rfl (Ag.upd rfl (Ag.upd rfl (Ag.upd rfl (Ag.upd rfl (Ag.upd rfl (Ag.upd rfl (Ag.upd rfl (Ag.upd rfl (Ag.upd rfl (Ag.upd rfl (Ag.upd rfl (Ag.upd rfl (Ag.upd rfl (Ag.upd rfl (Ag.upd rfl (Ag.upd rfl (Ag.upd rfl (Ag.upd rfl (Ag.upd rfl (Ag.upd rfl (Ag.upd rfl (Ag.upd rfl (Ag.upd rfl (Ag.upd rfl (Ag.upd rfl (Ag.upd rfl (Ag.upd rfl (Ag.upd rfl (Ag.upd rfl (Ag.upd rfl (Ag.upd rfl (Ag.upd rfl (Ag.upd rfl (Ag.upd rfl (Ag.upd rfl (Ag.upd rfl (Ag.upd rfl (Ag.upd rfl (Ag.upd rfl (Ag.upd rfl (Ag.upd rfl (Ag.upd rfl (Ag.upd rfl (Ag.upd rfl (Ag.upd rfl (Ag.upd rfl (Ag.upd rfl (Ag.upd rfl (Ag.upd rfl (Ag.upd rfl (Ag.upd rfl (Ag.upd rfl (Ag.upd rfl (Ag.upd rfl (Ag.upd rfl (Ag.upd rfl (Ag.upd rfl (Ag.upd rfl (Ag.upd rfl (Ag.upd rfl (Ag.upd rfl (Ag.upd rfl (Ag.upd rfl (Ag.upd rfl (Ag.upd rfl (Ag.upd rfl (Ag.upd rfl (Ag.upd rfl (Ag.upd rfl (Ag.upd rfl (Ag.upd rfl (Ag.upd rfl (Ag.upd rfl (Ag.updL rfl (Ag.mix _ _ _))))))))))))))))))))))))))))))))))))))))))))))))))))))))))))))))))))))))))))))))))))))))))), ⟨rfl, trivial⟩, h_157, (by omega), rfl⟩
      · have p_158 := of_decide_eq_false c_123
        refine WP.exit ?_
        refine thn_x ?_
        refine thn_x ?_
        refine inb_hit ?_
        refine thn_n ?_
        refine WP.seq ?_
        refine WP.seq ?_
        refine WP.reg ?_
        refine WL.q (Wn.no rfl) rfl rfl (R.assign (v := (vi 0)) rfl) ?_
        refine WL.nil ?_
        refine thn_n ?_
        refine WP.block ?_
        have hr64 : r = 64 := by omega
        subst hr64
        refine WP.loopG (G := Nat) [24, 190, 191, 192, 193, 194, 195, 196, 197, 198, 199, 200, 201, 202] (fun q => [(24, (vi ((q : Nat) : Int)))]) (fun q m w1 => HP w w1 [.blk b_113 .nw 33 [(8, (mix (pressL ks hh bs) (stN ks (W bs) hh 64) q).map vu32)], .row ra2 64 rc2 22 1 ((W bs).map vu32), .blk b_7 .nw 33 [(8, (List.replicate 8 (0 : UInt32)).map vu32)], .blk b_4 .nw 34 [(64, bs.map vu8)], .blk b_1 .nw 33 [(8, hh.map vu32)], .view ak (ks.map vu32)] ∧ (q ≤ 8) ∧ m = 8 - q) ⟨0, _, ⟨rfl, trivial⟩, (by rw [mix_0]; exact h_120), (by omega), rfl⟩ ?_
        rintro q m_161 J_162 w_159 ⟨h_160, hq, rfl⟩
        refine WP.seq ?_
        refine WP.seq ?_
        refine WP.reg ?_
        refine WL.q (Wn.no rfl) rfl rfl (R.move (v := (vi ((q : Nat) : Int))) rfl) ?_
        refine WL.q (Wn.no rfl) rfl rfl (R.bin (v := (.bool (decide ((((q : Nat) : Int) : Int) < 8)))) rfl rfl (bi_lss (r := decide ((((q : Nat) : Int) : Int) < 8)) rfl)) ?_
        refine WL.nil ?_
        refine thn_n ?_
        refine WP.cond (b := decide ((((q : Nat) : Int) : Int) < 8)) rfl (fun c_163 => ?_) (fun c_163 => ?_)
        · have p_164 := of_decide_eq_true c_163
          refine WP.skip ?_
          refine thn_n ?_
          refine WP.seq ?_
          refine WP.block ?_
          refine WP.drawZ 9 (SL w.heap.size [.blk b_113 .nw 33 [(8, (mix (pressL ks hh bs) (stN ks (W bs) hh 64) q).map vu32)], .row ra2 64 rc2 22 1 ((W bs).map vu32), .blk b_7 .nw 33 [(8, (List.replicate 8 (0 : UInt32)).map vu32)], .blk b_4 .nw 34 [(64, bs.map vu8)], .blk b_1 .nw 33 [(8, hh.map vu32)], .view ak (ks.map vu32)]) (.q 0 (.q 1 (.q 2 (.q 3 (.q 4 (.q 5 (.q 6 (.q 7 (.q 8 (.s 9 .nil)))))))))) (by kernel_rfl) (by kernel_rfl) rfl (by kernel_rfl) (fun w_165 hc_167 => (SL.cons ((h_160.same hc_167).ok _ (.head _)) (SL.cons ((h_160.same hc_167).ok _ (.tail _ (.head _))) (SL.cons ((h_160.same hc_167).ok _ (.tail _ (.tail _ (.head _)))) (SL.cons ((h_160.same hc_167).ok _ (.tail _ (.tail _ (.tail _ (.head _))))) (SL.cons ((h_160.same hc_167).ok _ (.tail _ (.tail _ (.tail _ (.tail _ (.head _)))))) (SL.cons ((h_160.same hc_167).ok _ (.tail _ (.tail _ (.tail _ (.tail _ (.tail _ (.head _))))))) (SL.nil _ _)))))))) (fun w_165 hc_167 => ?_)
          have h_166 := h_160.same hc_167
          refine ZT.q rfl (Wn.no rfl) rfl rfl (fun wq hS => R.move (v := (vi ((q : Nat) : Int))) rfl) ?_
          refine ZT.q rfl (Wn.no rfl) rfl rfl (fun wq hS => R.move (v := (vi ((q : Nat) : Int))) rfl) ?_
          refine ZT.q rfl (Wn.no rfl) rfl rfl (fun wq hS => R.indexA (b := b_113) (off := 0) (off' := (0 + q)) (i := q) rfl rfl rfl (by omega) Try.underlying33 Try.sizeOf22 (by rw [Nat.mul_one])) ?_
          refine ZT.q rfl (Wn.no rfl) rfl rfl (fun wq hS => R.loadE (b := b_113) (off := (0 + q)) (i := q) (v := (vu32 ((mix (pressL ks hh bs) (stN ks (W bs) hh 64) q).getD q 0))) rfl Try.isAgg22 (hS _ (.head _)) Sg.h rfl (get_u32 (lt_len (K := 8) (mix_len (pressL_len ..) (stN_len hhl 64)) (by omega)))) ?_
          refine ZT.q rfl (Wn.no rfl) rfl rfl (fun wq hS => R.move (v := (vi ((q : Nat) : Int))) rfl) ?_
          refine ZT.q rfl (Wn.no rfl) rfl rfl (fun wq hS => R.indexA (b := b_1) (off := 0) (off' := (0 + q)) (i := q) rfl rfl rfl (by omega) Try.underlying33 Try.sizeOf22 (by rw [Nat.mul_one])) ?_
          refine ZT.q rfl (Wn.no rfl) rfl rfl (fun wq hS => R.loadE (b := b_1) (off := (0 + q)) (i := q) (v := (vu32 (hh.getD q 0))) rfl Try.isAgg22 (hS _ (.tail _ (.tail _ (.tail _ (.tail _ (.head _)))))) Sg.h rfl (get_u32 (lt_len (K := 8) hhl (by omega)))) ?_
          refine ZT.q rfl (Wn.no rfl) rfl rfl (fun wq hS => R.bin (v := (vu32 (((mix (pressL ks hh bs) (stN ks (W bs) hh 64) q).getD q 0) + (hh.getD q 0)))) rfl rfl (b32_add ((mix (pressL ks hh bs) (stN ks (W bs) hh 64) q).getD q 0) (hh.getD q 0))) ?_
          refine ZT.q rfl (Wn.no rfl) rfl rfl (fun wq hS => R.indexA (b := b_113) (off := 0) (off' := (0 + q)) (i := q) rfl rfl rfl (by omega) Try.underlying33 Try.sizeOf22 (by rw [Nat.mul_one])) ?_
          refine ZT.s ?_
          refine OpZ.last rfl (Wn.no rfl) ?_
          refine WL.storeE (b := b_113) (off := (0 + q)) (i := q) (v := (vu32 (((mix (pressL ks hh bs) (stN ks (W bs) hh 64) q).getD q 0) + (hh.getD q 0)))) (cs' := ((mix (pressL ks hh bs) (stN ks (W bs) hh 64) q).set q (((mix (pressL ks hh bs) (stN ks (W bs) hh 64) q).getD q 0) + (hh.getD q 0))).map vu32) h_166 rfl rfl Try.sizeOf22 rfl At.h (by decide) Sg.h rfl (lt_len (K := 8) (len_map (mix_len (pressL_len ..) (stN_len hhl 64))) (by omega)) (set_u32 _ _ _) (fun w_168 h_169 => ?_)
          refine WL.nil ?_
          refine ZT.nil ?_
          refine inb_n ?_
          refine thn_n ?_
          refine WP.reg ?_
          refine WL.q (Wn.no rfl) rfl rfl (R.move (v := (vi ((q : Nat) : Int))) rfl) ?_
          refine WL.q (Wn.no rfl) rfl rfl (R.bin (v := (vi ((q + 1 : Nat) : Int))) rfl rfl (bi_add (c := ((q + 1 : Nat) : Int)) (by omega) (by omega))) ?_
          refine WL.q (Wn.no rfl) rfl rfl (R.assign (v := (vi ((q + 1 : Nat) : Int))) rfl) ?_
          refine WL.nil ?_
          refine thn_n ?_
          have h_170 := h_169.up (Pick.t (Pick.t (Pick.t (Pick.t (Pick.t Pick.h)))))
          have h_171 := h_170.up (Pick.t (Pick.t (Pick.t (Pick.t (Pick.t Pick.h)))))
          have h_172 := h_171.up (Pick.t (Pick.t (Pick.t (Pick.t (Pick.t Pick.h)))))
          have h_173 := h_172.up (Pick.t (Pick.t (Pick.t (Pick.t (Pick.t Pick.h)))))
          have h_174 := h_173.up (Pick.t (Pick.t (Pick.t (Pick.t (Pick.t Pick.h)))))
          have h_175 := h_174.up (Pick.t (Pick.t (Pick.t (Pick.t (Pick.t Pick.h)))))
          rw [pr_stepR hhl (by omega)] at h_175
          exact ⟨q + 1, _, (by omega), (Ag.upd rfl (Ag.upd rfl (Ag.upd rfl (Ag.upd rfl (Ag.upd rfl (Ag.upd rfl (Ag.upd rfl (Ag.upd rfl (Ag.upd rfl (Ag.upd rfl (Ag.upd rfl (Ag.upd rfl (Ag.upd rfl (Ag.upd rfl (Ag.updL rfl (Ag.mix _ _ _)))))))))))))))), ⟨rfl, trivial⟩, h_175, (by omega), rfl⟩
        · have p_176 := of_decide_eq_false c_163
          refine WP.exit ?_
          refine thn_x ?_
          refine thn_x ?_
          refine inb_hit ?_
          refine thn_n ?_
          refine WP.seq ?_
          refine WP.reg ?_
          refine WL.q (Wn.no rfl) rfl rfl (R.loadA (b := b_113) (off := 0) [] [(8, (mix (pressL ks hh bs) (stN ks (W bs) hh 64) q).map vu32)] [] (cs := (mix (pressL ks hh bs) (stN ks (W bs) hh 64) q).map vu32) rfl Try.isAgg33 Try.sizeOf33 (h_160.ok _ (.head _)) rfl rfl rfl rfl) ?_
          refine WL.storeA (b := b_7) (off := 0) [] [(8, (List.replicate 8 (0 : UInt32)).map vu32)] [(8, (mix (pressL ks hh bs) (stN ks (W bs) hh 64) q).map vu32)] [] (ys := (mix (pressL ks hh bs) (stN ks (W bs) hh 64) q).map vu32) h_160 rfl rfl Try.sizeOf33 (At.t (At.t At.h)) (by decide) rfl rfl rfl rfl rfl rfl (SsOk.cons (SOk.u32 (mix_len (pressL_len ..) (stN_len hhl 64))) SsOk.nil) (fun w_177 h_178 => ?_)
          refine WL.nil ?_
          refine thn_n ?_
          refine WP.ret ?_
          refine ret_of Try.results25 (RV.cell rfl (h_178.loadA (cs := (mix (pressL ks hh bs) (stN ks (W bs) hh 64) q).map vu32) Try.isAgg33 Try.sizeOf33 (.tail _ (.tail _ (.head _))) rfl rfl) RV.nil) ?_
          have hq8 : q = 8 := by omega
          subst hq8
          exact ⟨by rw [pr_all (stN_len hhl 64)]; rfl, h_178.chgS⟩
end Go.Proofs.Ytelkjcigdhgcoaa
