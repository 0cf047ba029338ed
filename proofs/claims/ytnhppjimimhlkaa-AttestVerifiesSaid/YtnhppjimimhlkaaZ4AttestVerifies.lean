/- Rules for walks and contracts of the functions that the law reaches, one behind the other. Conditions: none beyond what each theorem states. -/
import Derived.Test.YtnhppjimimhlkaaZ3AttestVerifies
set_option linter.unusedVariables false
set_option linter.unusedSimpArgs false
set_option linter.unusedSectionVars false
namespace Go.Proofs.Ytnhppjimimhlkaa
open Go.Vc Go.Sh Go.RowKit
set_option maxRecDepth 20000

theorem c_PressR (hh ks : List UInt32) (hhl : hh.length = 8) (hkl : ks.length = 64) (bs : List UInt8) (hl : bs.length = 64) (ak : Option Addr) (kc : Nat) (w : World) (hv : View w ak (ks.map vu32)) :
  Cs Try.prog 128 [(.agg ⟨hh.map vu32⟩), (.agg ⟨bs.map vu8⟩), (.slice ak 64 kc)].toArray w (fun v w1 => v = (.agg ⟨(pressL ks hh bs).map vu32⟩) ∧ Chg w w1 []) := by
 refine Cs.of (n := 204) (args := [(.agg ⟨hh.map vu32⟩), (.agg ⟨bs.map vu8⟩), (.slice ak 64 kc)]) Try.func128 rfl rfl rfl ?_
 have h_0 := HP.init w
 have h_00 := h_0.old (View.arg hv) (fun f hf => by cases hf)
 refine WP.seq (WP.reg ?_)
 refine WL.box (v := (.agg ⟨hh.map vu32⟩)) (segs := [(8, hh.map vu32)]) h_00 rfl rfl (SsOk.cons (SOk.u32 hhl) SsOk.nil) rfl (fun b_1 w_2 h_3 => ?_)
 refine WL.box (v := (.agg ⟨bs.map vu8⟩)) (segs := [(64, bs.map vu8)]) h_3 rfl rfl (SsOk.cons (SOk.u8 hl) SsOk.nil) rfl (fun b_4 w_5 h_6 => ?_)
 refine WL.alloc (segs := [(8, (List.replicate 8 (0 : UInt32)).map vu32)]) h_6 (zv Try.typeInfo172 rfl) rfl (SsOk.cons (SOk.u32 lr) SsOk.nil) rfl (fun b_7 w_8 h_9 => ?_)
 refine WL.nil (thn_n (WP.seq (WP.reg ?_)))
 refine qA (.slice none 0 0) rfl rfl ?_
 refine WL.nil (thn_n (WP.seq (WP.seq (WP.reg ?_))))
 refine qA (vi 0) rfl rfl ?_
 refine WL.nil (thn_n (WP.block ?_))
 have h_10 := h_9.rowNil 170 1
 refine WP.loopG (G := Nat × Option Addr × Nat) [7, 8, 25, 26, 27, 28, 29, 30, 31, 32, 33, 34, 35, 36, 37, 38, 39, 40, 41, 42, 43, 44, 45, 46, 47, 48, 49, 50, 51, 52, 53, 54, 55, 56, 57, 58, 59, 60] (fun (i, ra, rc) => [(7, (.slice ra i rc)), (8, (vn i))]) (fun (i, ra, rc) m w1 => HP w w1 [.row ra i rc 170 1 ((wL bs i).map vu32), .blk b_7 .nw 172 [(8, (List.replicate 8 (0 : UInt32)).map vu32)], .blk b_4 .nw 163 [(64, bs.map vu8)], .blk b_1 .nw 172 [(8, hh.map vu32)], .view ak (ks.map vu32)] ∧ (i ≤ 16) ∧ m = 16 - i) ⟨(0, none, 0), _, ⟨rfl, rfl, trivial⟩, h_10, Nat.zero_le _, rfl⟩ ?_
 rintro ⟨i, ra, rc⟩ m_13 J_14 w_11 ⟨h_12, hi, rfl⟩
 refine WP.seq (WP.seq (WP.reg ?_))
 refine qM (vn i) rfl rfl (qV rfl (R.bin rfl rfl (bi_lss (r := decide ((((i : Nat) : Int) : Int) < 16)) rfl)) ?_)
 refine WL.nil (thn_n ?_)
 refine WP.cond (b := decide ((((i : Nat) : Int) : Int) < 16)) rfl (fun c_15 => ?_) (fun c_15 => ?_)
 ·have p_16 := of_decide_eq_true c_15
  refine WP.skip (thn_n (WP.seq (WP.block ?_)))
  refine WP.drawT (SL w.heap.size [.blk b_7 .nw 172 [(8, (List.replicate 8 (0 : UInt32)).map vu32)], .blk b_4 .nw 163 [(64, bs.map vu8)], .blk b_1 .nw 172 [(8, hh.map vu32)], .view ak (ks.map vu32)]) (.q 0 (.q 1 (.q 2 (.q 3 (.q 4 (.q 5 (.q 6 (.q 7 (.q 8 (.q 9 (.q 10 (.q 11 (.q 12 (.q 13 (.q 14 (.q 15 (.q 16 (.q 17 (.q 18 (.q 19 (.q 20 (.q 21 (.q 22 (.q 23 (.q 24 (.q 25 (.q 26 (.q 27 (.q 28 (.q 29 (.s 30 (.s 31 (.q 32 .nil))))))))))))))))))))))))))))))))) (by kernel_rfl) (by kernel_rfl) rfl (by kernel_rfl) (fun w_17 hc_19 => (SL.cons ((h_12.same hc_19).ok _ M1) (SL.cons ((h_12.same hc_19).ok _ M2) (SL.cons ((h_12.same hc_19).ok _ M3) (SL.cons ((h_12.same hc_19).ok _ M4) (SL.nil _ _)))))) (fun w_17 hc_19 => ?_)
  have h_18 := h_12.same hc_19
  refine qT rfl rfl (fun wq hS => R.move (v := (.slice ra i rc)) rfl) ?_
  refine qT rfl rfl (fun wq hS => R.move (v := (vn i)) rfl) ?_
  refine qT rfl rfl (fun wq hS => R.bin rfl rfl (bi_mul (c := ((4 * i : Nat) : Int)) (by omega) (by omega))) ?_
  refine qT rfl rfl (fun wq hS => R.indexA (b := b_4) (off := 0) (off' := (0 + (4 * i))) (i := 4 * i) rfl rfl rfl (by omega) Try.underlying163 Try.sizeOf5 (by rw [Nat.mul_one])) ?_
  refine qT rfl rfl (fun wq hS => R.loadE (b := b_4) (off := (0 + (4 * i))) (i := 4 * i) (v := (vu8 (bs.getD (4 * i) 0))) rfl Try.isAgg5 (hS _ M1) Sg.h rfl (get_u8 (lt_len (K := 64) hl (by omega)))) ?_
  refine qT rfl rfl (fun wq hS => R.conv (b := ((UInt32.ofNat ((bs.getD (4 * i) 0).toNat)) : UInt32).toNat) rfl Try.underlying5 Try.underlying170 (w32_nat ((bs.getD (4 * i) 0).toNat))) ?_
  refine qT rfl rfl (fun wq hS => R.binR (v := vu32 (shl32 (UInt32.ofNat ((bs.getD (4 * i) 0).toNat)) 24)) rfl rfl (run_shl32 _ _ _ (UInt32.ofNat ((bs.getD (4 * i) 0).toNat)) _ 24)) ?_
  refine qT rfl rfl (fun wq hS => R.move (v := (vn i)) rfl) ?_
  refine qT rfl rfl (fun wq hS => R.bin rfl rfl (bi_mul (c := ((4 * i : Nat) : Int)) (by omega) (by omega))) ?_
  refine qT rfl rfl (fun wq hS => R.bin rfl rfl (bi_add (c := ((4 * i + 1 : Nat) : Int)) (by omega) (by omega))) ?_
  refine qT rfl rfl (fun wq hS => R.indexA (b := b_4) (off := 0) (off' := (0 + (4 * i + 1))) (i := 4 * i + 1) rfl rfl rfl (by omega) Try.underlying163 Try.sizeOf5 (by rw [Nat.mul_one])) ?_
  refine qT rfl rfl (fun wq hS => R.loadE (b := b_4) (off := (0 + (4 * i + 1))) (i := 4 * i + 1) (v := (vu8 (bs.getD (4 * i + 1) 0))) rfl Try.isAgg5 (hS _ M1) Sg.h rfl (get_u8 (lt_len (K := 64) hl (by omega)))) ?_
  refine qT rfl rfl (fun wq hS => R.conv (b := ((UInt32.ofNat ((bs.getD (4 * i + 1) 0).toNat)) : UInt32).toNat) rfl Try.underlying5 Try.underlying170 (w32_nat ((bs.getD (4 * i + 1) 0).toNat))) ?_
  refine qT rfl rfl (fun wq hS => R.binR (v := vu32 (shl32 (UInt32.ofNat ((bs.getD (4 * i + 1) 0).toNat)) 16)) rfl rfl (run_shl32 _ _ _ (UInt32.ofNat ((bs.getD (4 * i + 1) 0).toNat)) _ 16)) ?_
  refine qT rfl rfl (fun wq hS => R.bin rfl rfl (b32_add (shl32 (UInt32.ofNat ((bs.getD (4 * i) 0).toNat)) 24) (shl32 (UInt32.ofNat ((bs.getD (4 * i + 1) 0).toNat)) 16))) ?_
  refine qT rfl rfl (fun wq hS => R.move (v := (vn i)) rfl) ?_
  refine qT rfl rfl (fun wq hS => R.bin rfl rfl (bi_mul (c := ((4 * i : Nat) : Int)) (by omega) (by omega))) ?_
  refine qT rfl rfl (fun wq hS => R.bin rfl rfl (bi_add (c := ((4 * i + 2 : Nat) : Int)) (by omega) (by omega))) ?_
  refine qT rfl rfl (fun wq hS => R.indexA (b := b_4) (off := 0) (off' := (0 + (4 * i + 2))) (i := 4 * i + 2) rfl rfl rfl (by omega) Try.underlying163 Try.sizeOf5 (by rw [Nat.mul_one])) ?_
  refine qT rfl rfl (fun wq hS => R.loadE (b := b_4) (off := (0 + (4 * i + 2))) (i := 4 * i + 2) (v := (vu8 (bs.getD (4 * i + 2) 0))) rfl Try.isAgg5 (hS _ M1) Sg.h rfl (get_u8 (lt_len (K := 64) hl (by omega)))) ?_
  refine qT rfl rfl (fun wq hS => R.conv (b := ((UInt32.ofNat ((bs.getD (4 * i + 2) 0).toNat)) : UInt32).toNat) rfl Try.underlying5 Try.underlying170 (w32_nat ((bs.getD (4 * i + 2) 0).toNat))) ?_
  refine qT rfl rfl (fun wq hS => R.binR (v := vu32 (shl32 (UInt32.ofNat ((bs.getD (4 * i + 2) 0).toNat)) 8)) rfl rfl (run_shl32 _ _ _ (UInt32.ofNat ((bs.getD (4 * i + 2) 0).toNat)) _ 8)) ?_
  refine qT rfl rfl (fun wq hS => R.bin rfl rfl (b32_add ((shl32 (UInt32.ofNat ((bs.getD (4 * i) 0).toNat)) 24) + (shl32 (UInt32.ofNat ((bs.getD (4 * i + 1) 0).toNat)) 16)) (shl32 (UInt32.ofNat ((bs.getD (4 * i + 2) 0).toNat)) 8))) ?_
  refine qT rfl rfl (fun wq hS => R.move (v := (vn i)) rfl) ?_
  refine qT rfl rfl (fun wq hS => R.bin rfl rfl (bi_mul (c := ((4 * i : Nat) : Int)) (by omega) (by omega))) ?_
  refine qT rfl rfl (fun wq hS => R.bin rfl rfl (bi_add (c := ((4 * i + 3 : Nat) : Int)) (by omega) (by omega))) ?_
  refine qT rfl rfl (fun wq hS => R.indexA (b := b_4) (off := 0) (off' := (0 + (4 * i + 3))) (i := 4 * i + 3) rfl rfl rfl (by omega) Try.underlying163 Try.sizeOf5 (by rw [Nat.mul_one])) ?_
  refine qT rfl rfl (fun wq hS => R.loadE (b := b_4) (off := (0 + (4 * i + 3))) (i := 4 * i + 3) (v := (vu8 (bs.getD (4 * i + 3) 0))) rfl Try.isAgg5 (hS _ M1) Sg.h rfl (get_u8 (lt_len (K := 64) hl (by omega)))) ?_
  refine qT rfl rfl (fun wq hS => R.conv (b := ((UInt32.ofNat ((bs.getD (4 * i + 3) 0).toNat)) : UInt32).toNat) rfl Try.underlying5 Try.underlying170 (w32_nat ((bs.getD (4 * i + 3) 0).toNat))) ?_
  refine qT rfl rfl (fun wq hS => R.bin rfl rfl (b32_add (((shl32 (UInt32.ofNat ((bs.getD (4 * i) 0).toNat)) 24) + (shl32 (UInt32.ofNat ((bs.getD (4 * i + 1) 0).toNat)) 16)) + (shl32 (UInt32.ofNat ((bs.getD (4 * i + 2) 0).toNat)) 8)) (UInt32.ofNat ((bs.getD (4 * i + 3) 0).toNat)))) ?_
  refine WT.s (Op1.one rfl (Wn.no rfl) ?_)
  refine WL.buildSl (vs := [(0, (vu32 ((((shl32 (UInt32.ofNat ((bs.getD (4 * i) 0).toNat)) 24) + (shl32 (UInt32.ofNat ((bs.getD (4 * i + 1) 0).toNat)) 16)) + (shl32 (UInt32.ofNat ((bs.getD (4 * i + 2) 0).toNat)) 8)) + (UInt32.ofNat ((bs.getD (4 * i + 3) 0).toNat)))))]) (cs := ([(((shl32 (UInt32.ofNat ((bs.getD (4 * i) 0).toNat)) 24) + (shl32 (UInt32.ofNat ((bs.getD (4 * i + 1) 0).toNat)) 16)) + (shl32 (UInt32.ofNat ((bs.getD (4 * i + 2) 0).toNat)) 8)) + (UInt32.ofNat ((bs.getD (4 * i + 3) 0).toNat))] : List UInt32).map vu32) h_18 Try.underlying186 Try.sizeOf170 (zv Try.typeInfo170 rfl) rfl rfl (by kernel_rfl) rfl (one_u32 _) rfl rfl (fun b_20 w_21 h_22 => ?_)
  refine WL.nil ?_
  refine ⟨(SL.cons (h_22.ok _ M2) (SL.cons (h_22.ok _ M3) (SL.cons (h_22.ok _ M4) (SL.cons (h_22.ok _ M5) (SL.nil _ _))))), ?_⟩
  refine WT.s (Op1.one rfl (Wn.no rfl) ?_)
  refine WL.append (km := i + 1) (xs := (wL bs i).map vu32) (ys := ([(((shl32 (UInt32.ofNat ((bs.getD (4 * i) 0).toNat)) 24) + (shl32 (UInt32.ofNat ((bs.getD (4 * i + 1) 0).toNat)) 16)) + (shl32 (UInt32.ofNat ((bs.getD (4 * i + 2) 0).toNat)) 8)) + (UInt32.ofNat ((bs.getD (4 * i + 3) 0).toNat))] : List UInt32).map vu32) (zs := ((wL bs i) ++ ([(((shl32 (UInt32.ofNat ((bs.getD (4 * i) 0).toNat)) 24) + (shl32 (UInt32.ofNat ((bs.getD (4 * i + 1) 0).toNat)) 16)) + (shl32 (UInt32.ofNat ((bs.getD (4 * i + 2) 0).toNat)) 8)) + (UInt32.ofNat ((bs.getD (4 * i + 3) 0).toNat))] : List UInt32)).map vu32) h_22 rfl rfl el186 (viewB (h_22.ok _ M0) Sg.h) ((len_map (rfl : List.length ([(((shl32 (UInt32.ofNat ((bs.getD (4 * i) 0).toNat)) 24) + (shl32 (UInt32.ofNat ((bs.getD (4 * i + 1) 0).toNat)) 16)) + (shl32 (UInt32.ofNat ((bs.getD (4 * i + 2) 0).toNat)) 8)) + (UInt32.ofNat ((bs.getD (4 * i + 3) 0).toNat))] : List UInt32) = 1)).trans (Nat.mul_one _).symm) (one_u32 _) (by simp only [List.map_append, List.map_nil]) (by omega) (by omega) (by omega) (fun _ _ => Y1) rfl (fun a_23 c_24 w_25 h_26 => ?_)
  refine WL.nil ?_
  refine ⟨(SL.cons (h_26.ok _ M2) (SL.cons (h_26.ok _ M3) (SL.cons (h_26.ok _ M4) (SL.cons (h_26.ok _ M5) (SL.nil _ _))))), ?_⟩
  refine qT rfl rfl (fun wq hS => R.assign (v := (.slice a_23 (i + 1) c_24)) rfl) ?_
  refine WT.nil (inb_n (thn_n (WP.reg ?_)))
  refine qM (vn i) rfl rfl (qV rfl (R.bin rfl rfl (bi_add (c := ((i + 1 : Nat) : Int)) (by omega) (by omega))) (qA (vn (i + 1)) rfl rfl ?_))
  refine WL.nil (thn_n ?_)
  have h_32 := (((((h_26.drop rfl).up J4).up J4).up J4).up J4).up J4
  rw [wL_lo4 (i := i) hl (by omega)] at h_32
  exact ⟨(i + 1, a_23, c_24), _, (by omega), (U2 rfl rfl (U4 rfl rfl rfl rfl (U4 rfl rfl rfl rfl (U4 rfl rfl rfl rfl (U4 rfl rfl rfl rfl (U4 rfl rfl rfl rfl (U4 rfl rfl rfl rfl (U4 rfl rfl rfl rfl (U4 rfl rfl rfl rfl (U4 rfl rfl rfl rfl (Ag.updL rfl (Ag.mix _ _ _)))))))))))), ⟨rfl, rfl, trivial⟩, h_32, (by omega), rfl⟩
 ·have p_33 := of_decide_eq_false c_15
  refine WP.exit (thn_x (thn_x (inb_hit (thn_n (WP.seq (WP.seq (WP.reg ?_)))))))
  refine qA (vi 16) rfl rfl ?_
  refine WL.nil (thn_n (WP.block ?_))
  have hi16 : i = 16 := by omega
  subst hi16
  refine WP.loopG (G := Nat × Option Addr × Nat) [7, 9, 10, 11, 12, 13, 61, 62, 63, 64, 65, 66, 67, 68, 69, 70, 71, 72, 73, 74, 75, 76, 77, 78, 79, 80, 81, 82, 83, 84, 85, 86, 87, 88, 89, 90, 91, 92, 93, 94, 95, 96, 97, 98, 99, 100, 101, 102, 103, 104, 105, 106, 107, 108] (fun (j, ra2, rc2) => [(7, (.slice ra2 j rc2)), (9, (vn j))]) (fun (j, ra2, rc2) m w1 => HP w w1 [.row ra2 j rc2 170 1 ((wL bs j).map vu32), .blk b_7 .nw 172 [(8, (List.replicate 8 (0 : UInt32)).map vu32)], .blk b_4 .nw 163 [(64, bs.map vu8)], .blk b_1 .nw 172 [(8, hh.map vu32)], .view ak (ks.map vu32)] ∧ (16 ≤ j) ∧ (j ≤ 64) ∧ m = 64 - j) ⟨(16, ra, rc), _, ⟨rfl, rfl, trivial⟩, h_12, (by omega), (by omega), rfl⟩ ?_
  rintro ⟨j, ra2, rc2⟩ m_36 J_37 w_34 ⟨h_35, hj, hj2, rfl⟩
  refine WP.seq (WP.seq (WP.reg ?_))
  refine qM (vn j) rfl rfl (qV rfl (R.bin rfl rfl (bi_lss (r := decide ((((j : Nat) : Int) : Int) < 64)) rfl)) ?_)
  refine WL.nil (thn_n ?_)
  refine WP.cond (b := decide ((((j : Nat) : Int) : Int) < 64)) rfl (fun c_38 => ?_) (fun c_38 => ?_)
  ·have p_39 := of_decide_eq_true c_38
   refine WP.skip (thn_n (WP.seq (WP.block (WP.seq ?_))))
   refine WP.drawT (SL w.heap.size [.row ra2 j rc2 170 1 ((wL bs j).map vu32), .blk b_7 .nw 172 [(8, (List.replicate 8 (0 : UInt32)).map vu32)], .blk b_4 .nw 163 [(64, bs.map vu8)], .blk b_1 .nw 172 [(8, hh.map vu32)], .view ak (ks.map vu32)]) (.q 0 (.q 1 (.q 2 (.q 3 (.q 4 (.q 5 (.q 6 (.q 7 (.q 8 (.q 9 (.q 10 (.q 11 .nil)))))))))))) (by kernel_rfl) (by kernel_rfl) rfl (by kernel_rfl) (fun w_40 hc_42 => (SL.cons ((h_35.same hc_42).ok _ M0) (SL.cons ((h_35.same hc_42).ok _ M1) (SL.cons ((h_35.same hc_42).ok _ M2) (SL.cons ((h_35.same hc_42).ok _ M3) (SL.cons ((h_35.same hc_42).ok _ M4) (SL.nil _ _))))))) (fun w_40 hc_42 => ?_)
   have h_41 := h_35.same hc_42
   refine qT rfl rfl (fun wq hS => R.move (v := (.slice ra2 j rc2)) rfl) ?_
   refine qT rfl rfl (fun wq hS => R.move (v := (vn j)) rfl) ?_
   refine qT rfl rfl (fun wq hS => R.bin rfl rfl (bi_sub (c := ((j - 15 : Nat) : Int)) (by omega) (by omega))) ?_
   refine qT rfl rfl (fun wq hS => R.indexS (a := ra2) (i := j - 15) (off := j - 15) (xs := (wL bs j).map vu32) rfl rfl rfl (by omega) (ownView (hS _ M0)) (lt_len (K := j) (len_map (wL_len bs j)) (by omega)) Try.underlying186 Try.sizeOf170 (Nat.mul_one _).symm) ?_
   refine qT rfl rfl (fun wq hS => R.loadG (a := ra2) (i := j - 15) (xs := (wL bs j).map vu32) (v := (vu32 ((wL bs j).getD (j - 15) 0))) rfl (ownView (hS _ M0)) Try.isAgg170 (get_u32 (lt_len (K := j) (wL_len bs j) (by omega)))) ?_
   refine qT rfl rfl (fun wq hS => R.move (v := (.slice ra2 j rc2)) rfl) ?_
   refine qT rfl rfl (fun wq hS => R.move (v := (vn j)) rfl) ?_
   refine qT rfl rfl (fun wq hS => R.bin rfl rfl (bi_sub (c := ((j - 2 : Nat) : Int)) (by omega) (by omega))) ?_
   refine qT rfl rfl (fun wq hS => R.indexS (a := ra2) (i := j - 2) (off := j - 2) (xs := (wL bs j).map vu32) rfl rfl rfl (by omega) (ownView (hS _ M0)) (lt_len (K := j) (len_map (wL_len bs j)) (by omega)) Try.underlying186 Try.sizeOf170 (Nat.mul_one _).symm) ?_
   refine qT rfl rfl (fun wq hS => R.loadG (a := ra2) (i := j - 2) (xs := (wL bs j).map vu32) (v := (vu32 ((wL bs j).getD (j - 2) 0))) rfl (ownView (hS _ M0)) Try.isAgg170 (get_u32 (lt_len (K := j) (wL_len bs j) (by omega)))) ?_
   refine qT rfl rfl (fun wq hS => R.assign (v := (vu32 ((wL bs j).getD (j - 15) 0))) rfl) ?_
   refine qT rfl rfl (fun wq hS => R.assign (v := (vu32 ((wL bs j).getD (j - 2) 0))) rfl) ?_
   refine WT.nil (thn_n (WP.seq (WP.reg ?_)))
   refine qM (vu32 ((wL bs j).getD (j - 15) 0)) rfl rfl ?_
   refine WL.call Try.call141 rfl rfl (c_ror7 ((wL bs j).getD (j - 15) 0) _ ) rfl ?_
   rintro _ w_44 ⟨rfl, hc_43⟩
   have h_45 := h_41.same hc_43
   refine qM (vu32 ((wL bs j).getD (j - 15) 0)) rfl rfl ?_
   refine WL.call Try.call141 rfl rfl (c_ror18 ((wL bs j).getD (j - 15) 0) _ ) rfl ?_
   rintro _ w_47 ⟨rfl, hc_46⟩
   have h_48 := h_45.same hc_46
   refine qV rfl (R.bin rfl rfl (b32_xor (rot ((wL bs j).getD (j - 15) 0) 7) (rot ((wL bs j).getD (j - 15) 0) 18))) (qM (vu32 ((wL bs j).getD (j - 15) 0)) rfl rfl (qV rfl (R.binR (v := vu32 (shr32 ((wL bs j).getD (j - 15) 0) 3)) rfl rfl (run_shr32 _ _ _ ((wL bs j).getD (j - 15) 0) _ 3)) (qV rfl (R.bin rfl rfl (b32_xor ((rot ((wL bs j).getD (j - 15) 0) 7) ^^^ (rot ((wL bs j).getD (j - 15) 0) 18)) (shr32 ((wL bs j).getD (j - 15) 0) 3))) (qA (vu32 (((rot ((wL bs j).getD (j - 15) 0) 7) ^^^ (rot ((wL bs j).getD (j - 15) 0) 18)) ^^^ (shr32 ((wL bs j).getD (j - 15) 0) 3))) rfl rfl ?_))))
   refine WL.nil (thn_n (WP.seq (WP.reg ?_)))
   refine qM (vu32 ((wL bs j).getD (j - 2) 0)) rfl rfl ?_
   refine WL.call Try.call141 rfl rfl (c_ror17 ((wL bs j).getD (j - 2) 0) _ ) rfl ?_
   rintro _ w_50 ⟨rfl, hc_49⟩
   have h_51 := h_48.same hc_49
   refine qM (vu32 ((wL bs j).getD (j - 2) 0)) rfl rfl ?_
   refine WL.call Try.call141 rfl rfl (c_ror19 ((wL bs j).getD (j - 2) 0) _ ) rfl ?_
   rintro _ w_53 ⟨rfl, hc_52⟩
   have h_54 := h_51.same hc_52
   refine qV rfl (R.bin rfl rfl (b32_xor (rot ((wL bs j).getD (j - 2) 0) 17) (rot ((wL bs j).getD (j - 2) 0) 19))) (qM (vu32 ((wL bs j).getD (j - 2) 0)) rfl rfl (qV rfl (R.binR (v := vu32 (shr32 ((wL bs j).getD (j - 2) 0) 10)) rfl rfl (run_shr32 _ _ _ ((wL bs j).getD (j - 2) 0) _ 10)) (qV rfl (R.bin rfl rfl (b32_xor ((rot ((wL bs j).getD (j - 2) 0) 17) ^^^ (rot ((wL bs j).getD (j - 2) 0) 19)) (shr32 ((wL bs j).getD (j - 2) 0) 10))) (qA (vu32 (((rot ((wL bs j).getD (j - 2) 0) 17) ^^^ (rot ((wL bs j).getD (j - 2) 0) 19)) ^^^ (shr32 ((wL bs j).getD (j - 2) 0) 10))) rfl rfl ?_))))
   refine WL.nil (thn_n ?_)
   refine WP.cutG (G := Option Addr × Nat × Nat) [7, 91, 92, 93, 94, 95, 96, 97, 98, 99, 100, 101, 102, 103, 104, 105, 106, 107, 108] (fun (aY12Y17Y0Y0, cY12Y17Y0Y0, bY12Y16Y0Y0) => [(7, (.slice aY12Y17Y0Y0 (j + 1) cY12Y17Y0Y0)), (91, (.slice ra2 j rc2)), (92, (.slice ra2 j rc2)), (93, (vn j)), (94, (vn (j - 16))), (97, (vu32 (((rot ((wL bs j).getD (j - 15) 0) 7) ^^^ (rot ((wL bs j).getD (j - 15) 0) 18)) ^^^ (shr32 ((wL bs j).getD (j - 15) 0) 3)))), (99, (.slice ra2 j rc2)), (100, (vn j)), (101, (vn (j - 7))), (105, (vu32 (((rot ((wL bs j).getD (j - 2) 0) 17) ^^^ (rot ((wL bs j).getD (j - 2) 0) 19)) ^^^ (shr32 ((wL bs j).getD (j - 2) 0) 10)))), (95, (.pointer (some (gA ra2 (j - 16))))), (96, (vu32 ((wL bs j).getD (j - 16) 0))), (98, (vu32 (((wL bs j).getD (j - 16) 0) + (((rot ((wL bs j).getD (j - 15) 0) 7) ^^^ (rot ((wL bs j).getD (j - 15) 0) 18)) ^^^ (shr32 ((wL bs j).getD (j - 15) 0) 3))))), (102, (.pointer (some (gA ra2 (j - 7))))), (103, (vu32 ((wL bs j).getD (j - 7) 0))), (104, (vu32 ((((wL bs j).getD (j - 16) 0) + (((rot ((wL bs j).getD (j - 15) 0) 7) ^^^ (rot ((wL bs j).getD (j - 15) 0) 18)) ^^^ (shr32 ((wL bs j).getD (j - 15) 0) 3))) + ((wL bs j).getD (j - 7) 0)))), (106, (vu32 (((((wL bs j).getD (j - 16) 0) + (((rot ((wL bs j).getD (j - 15) 0) 7) ^^^ (rot ((wL bs j).getD (j - 15) 0) 18)) ^^^ (shr32 ((wL bs j).getD (j - 15) 0) 3))) + ((wL bs j).getD (j - 7) 0)) + (((rot ((wL bs j).getD (j - 2) 0) 17) ^^^ (rot ((wL bs j).getD (j - 2) 0) 19)) ^^^ (shr32 ((wL bs j).getD (j - 2) 0) 10))))), (107, (.slice (some ⟨bY12Y16Y0Y0, 0, none⟩) 1 1)), (108, (.slice aY12Y17Y0Y0 (j + 1) cY12Y17Y0Y0))]) (fun (aY12Y17Y0Y0, cY12Y17Y0Y0, bY12Y16Y0Y0) w1 => HP w w1 [.blk bY12Y16Y0Y0 .nw 170 [(1, ([((((wL bs j).getD (j - 16) 0) + (((rot ((wL bs j).getD (j - 15) 0) 7) ^^^ (rot ((wL bs j).getD (j - 15) 0) 18)) ^^^ (shr32 ((wL bs j).getD (j - 15) 0) 3))) + ((wL bs j).getD (j - 7) 0)) + (((rot ((wL bs j).getD (j - 2) 0) 17) ^^^ (rot ((wL bs j).getD (j - 2) 0) 19)) ^^^ (shr32 ((wL bs j).getD (j - 2) 0) 10))] : List UInt32).map vu32)], .row aY12Y17Y0Y0 (j + 1) cY12Y17Y0Y0 170 1 (((wL bs j) ++ ([((((wL bs j).getD (j - 16) 0) + (((rot ((wL bs j).getD (j - 15) 0) 7) ^^^ (rot ((wL bs j).getD (j - 15) 0) 18)) ^^^ (shr32 ((wL bs j).getD (j - 15) 0) 3))) + ((wL bs j).getD (j - 7) 0)) + (((rot ((wL bs j).getD (j - 2) 0) 17) ^^^ (rot ((wL bs j).getD (j - 2) 0) 19)) ^^^ (shr32 ((wL bs j).getD (j - 2) 0) 10))] : List UInt32)).map vu32), .blk b_7 .nw 172 [(8, (List.replicate 8 (0 : UInt32)).map vu32)], .blk b_4 .nw 163 [(64, bs.map vu8)], .blk b_1 .nw 172 [(8, hh.map vu32)], .view ak (ks.map vu32)]) ?_ ?_
   ·refine WP.drawT (SL w.heap.size [.blk b_7 .nw 172 [(8, (List.replicate 8 (0 : UInt32)).map vu32)], .blk b_4 .nw 163 [(64, bs.map vu8)], .blk b_1 .nw 172 [(8, hh.map vu32)], .view ak (ks.map vu32)]) (.q 0 (.q 1 (.q 2 (.q 3 (.q 6 (.q 8 (.q 9 (.q 10 (.q 14 (.s2 4 11 (.s2 5 11 (.q 7 (.s 11 (.s 12 (.q 13 (.q 15 (.s 16 (.s 17 (.q 18 .nil)))))))) (.s2 5 12 (.q 7 (.s 12 (.q 13 (.q 15 (.s 16 (.s 17 (.q 18 .nil))))))) (.s 5 (.q 7 (.q 13 (.q 15 (.s 16 (.s 17 (.q 18 .nil))))))))) (.s2 4 12 (.s2 5 12 (.q 7 (.s 12 (.q 13 (.q 15 (.s 16 (.s 17 (.q 18 .nil))))))) (.s 5 (.q 7 (.q 13 (.q 15 (.s 16 (.s 17 (.q 18 .nil)))))))) (.s 4 (.s 5 (.q 7 (.q 13 (.q 15 (.s 16 (.s 17 (.q 18 .nil))))))))))))))))))) (by kernel_rfl) (by kernel_rfl) rfl (by kernel_rfl) (fun w_55 hc_57 => (SL.cons ((h_54.same hc_57).ok _ M1) (SL.cons ((h_54.same hc_57).ok _ M2) (SL.cons ((h_54.same hc_57).ok _ M3) (SL.cons ((h_54.same hc_57).ok _ M4) (SL.nil _ _)))))) (fun w_55 hc_57 => ?_)
    have h_56 := h_54.same hc_57
    refine qT rfl rfl (fun wq hS => R.move (v := (.slice ra2 j rc2)) rfl) ?_
    refine qT rfl rfl (fun wq hS => R.move (v := (.slice ra2 j rc2)) rfl) ?_
    refine qT rfl rfl (fun wq hS => R.move (v := (vn j)) rfl) ?_
    refine qT rfl rfl (fun wq hS => R.bin rfl rfl (bi_sub (c := ((j - 16 : Nat) : Int)) (by omega) (by omega))) ?_
    refine qT rfl rfl (fun wq hS => R.move (v := (vu32 (((rot ((wL bs j).getD (j - 15) 0) 7) ^^^ (rot ((wL bs j).getD (j - 15) 0) 18)) ^^^ (shr32 ((wL bs j).getD (j - 15) 0) 3)))) rfl) ?_
    refine qT rfl rfl (fun wq hS => R.move (v := (.slice ra2 j rc2)) rfl) ?_
    refine qT rfl rfl (fun wq hS => R.move (v := (vn j)) rfl) ?_
    refine qT rfl rfl (fun wq hS => R.bin rfl rfl (bi_sub (c := ((j - 7 : Nat) : Int)) (by omega) (by omega))) ?_
    refine qT rfl rfl (fun wq hS => R.move (v := (vu32 (((rot ((wL bs j).getD (j - 2) 0) 17) ^^^ (rot ((wL bs j).getD (j - 2) 0) 19)) ^^^ (shr32 ((wL bs j).getD (j - 2) 0) 10)))) rfl) ?_
    refine WT.s2 ?_ ?_
    ·refine Op1.one rfl (Wn.no rfl) ?_
     refine qV rfl (R.indexS (a := ra2) (i := j - 16) (off := j - 16) (xs := (wL bs j).map vu32) rfl rfl rfl (by omega) (ownView (h_56.ok _ M0)) (lt_len (K := j) (len_map (wL_len bs j)) (by omega)) Try.underlying186 Try.sizeOf170 (Nat.mul_one _).symm) ?_
     refine WL.nil ?_
     refine ⟨(SL.cons (h_56.ok _ M1) (SL.cons (h_56.ok _ M2) (SL.cons (h_56.ok _ M3) (SL.cons (h_56.ok _ M4) (SL.nil _ _))))), ?_⟩
     refine WT.s2 ?_ ?_
     ·refine Op1.one rfl (Wn.no rfl) ?_
      refine qV rfl (R.loadG (a := ra2) (i := j - 16) (xs := (wL bs j).map vu32) (v := (vu32 ((wL bs j).getD (j - 16) 0))) rfl (ownView (h_56.ok _ M0)) Try.isAgg170 (get_u32 (lt_len (K := j) (wL_len bs j) (by omega)))) ?_
      refine WL.nil ?_
      refine ⟨(SL.cons (h_56.ok _ M1) (SL.cons (h_56.ok _ M2) (SL.cons (h_56.ok _ M3) (SL.cons (h_56.ok _ M4) (SL.nil _ _))))), ?_⟩
      refine qT rfl rfl (fun wq hS => R.bin rfl rfl (b32_add ((wL bs j).getD (j - 16) 0) (((rot ((wL bs j).getD (j - 15) 0) 7) ^^^ (rot ((wL bs j).getD (j - 15) 0) 18)) ^^^ (shr32 ((wL bs j).getD (j - 15) 0) 3)))) ?_
      refine WT.s (Op1.one rfl (Wn.no rfl) ?_)
      refine qV rfl (R.indexS (a := ra2) (i := j - 7) (off := j - 7) (xs := (wL bs j).map vu32) rfl rfl rfl (by omega) (ownView (h_56.ok _ M0)) (lt_len (K := j) (len_map (wL_len bs j)) (by omega)) Try.underlying186 Try.sizeOf170 (Nat.mul_one _).symm) ?_
      refine WL.nil ?_
      refine ⟨(SL.cons (h_56.ok _ M1) (SL.cons (h_56.ok _ M2) (SL.cons (h_56.ok _ M3) (SL.cons (h_56.ok _ M4) (SL.nil _ _))))), ?_⟩
      refine WT.s (Op1.one rfl (Wn.no rfl) ?_)
      refine qV rfl (R.loadG (a := ra2) (i := j - 7) (xs := (wL bs j).map vu32) (v := (vu32 ((wL bs j).getD (j - 7) 0))) rfl (ownView (h_56.ok _ M0)) Try.isAgg170 (get_u32 (lt_len (K := j) (wL_len bs j) (by omega)))) ?_
      refine WL.nil ?_
      refine ⟨(SL.cons (h_56.ok _ M1) (SL.cons (h_56.ok _ M2) (SL.cons (h_56.ok _ M3) (SL.cons (h_56.ok _ M4) (SL.nil _ _))))), ?_⟩
      refine qT rfl rfl (fun wq hS => R.bin rfl rfl (b32_add (((wL bs j).getD (j - 16) 0) + (((rot ((wL bs j).getD (j - 15) 0) 7) ^^^ (rot ((wL bs j).getD (j - 15) 0) 18)) ^^^ (shr32 ((wL bs j).getD (j - 15) 0) 3))) ((wL bs j).getD (j - 7) 0))) ?_
      refine qT rfl rfl (fun wq hS => R.bin rfl rfl (b32_add ((((wL bs j).getD (j - 16) 0) + (((rot ((wL bs j).getD (j - 15) 0) 7) ^^^ (rot ((wL bs j).getD (j - 15) 0) 18)) ^^^ (shr32 ((wL bs j).getD (j - 15) 0) 3))) + ((wL bs j).getD (j - 7) 0)) (((rot ((wL bs j).getD (j - 2) 0) 17) ^^^ (rot ((wL bs j).getD (j - 2) 0) 19)) ^^^ (shr32 ((wL bs j).getD (j - 2) 0) 10)))) ?_
      refine WT.s (Op1.one rfl (Wn.no rfl) ?_)
      refine WL.buildSl (vs := [(0, (vu32 (((((wL bs j).getD (j - 16) 0) + (((rot ((wL bs j).getD (j - 15) 0) 7) ^^^ (rot ((wL bs j).getD (j - 15) 0) 18)) ^^^ (shr32 ((wL bs j).getD (j - 15) 0) 3))) + ((wL bs j).getD (j - 7) 0)) + (((rot ((wL bs j).getD (j - 2) 0) 17) ^^^ (rot ((wL bs j).getD (j - 2) 0) 19)) ^^^ (shr32 ((wL bs j).getD (j - 2) 0) 10)))))]) (cs := ([((((wL bs j).getD (j - 16) 0) + (((rot ((wL bs j).getD (j - 15) 0) 7) ^^^ (rot ((wL bs j).getD (j - 15) 0) 18)) ^^^ (shr32 ((wL bs j).getD (j - 15) 0) 3))) + ((wL bs j).getD (j - 7) 0)) + (((rot ((wL bs j).getD (j - 2) 0) 17) ^^^ (rot ((wL bs j).getD (j - 2) 0) 19)) ^^^ (shr32 ((wL bs j).getD (j - 2) 0) 10))] : List UInt32).map vu32) h_56 Try.underlying186 Try.sizeOf170 (zv Try.typeInfo170 rfl) rfl rfl (by kernel_rfl) rfl (one_u32 _) rfl rfl (fun b_58 w_59 h_60 => ?_)
      refine WL.nil ?_
      refine ⟨(SL.cons (h_60.ok _ M2) (SL.cons (h_60.ok _ M3) (SL.cons (h_60.ok _ M4) (SL.cons (h_60.ok _ M5) (SL.nil _ _))))), ?_⟩
      refine WT.s (Op1.one rfl (Wn.no rfl) ?_)
      refine WL.append (km := j + 1) (xs := (wL bs j).map vu32) (ys := ([((((wL bs j).getD (j - 16) 0) + (((rot ((wL bs j).getD (j - 15) 0) 7) ^^^ (rot ((wL bs j).getD (j - 15) 0) 18)) ^^^ (shr32 ((wL bs j).getD (j - 15) 0) 3))) + ((wL bs j).getD (j - 7) 0)) + (((rot ((wL bs j).getD (j - 2) 0) 17) ^^^ (rot ((wL bs j).getD (j - 2) 0) 19)) ^^^ (shr32 ((wL bs j).getD (j - 2) 0) 10))] : List UInt32).map vu32) (zs := ((wL bs j) ++ ([((((wL bs j).getD (j - 16) 0) + (((rot ((wL bs j).getD (j - 15) 0) 7) ^^^ (rot ((wL bs j).getD (j - 15) 0) 18)) ^^^ (shr32 ((wL bs j).getD (j - 15) 0) 3))) + ((wL bs j).getD (j - 7) 0)) + (((rot ((wL bs j).getD (j - 2) 0) 17) ^^^ (rot ((wL bs j).getD (j - 2) 0) 19)) ^^^ (shr32 ((wL bs j).getD (j - 2) 0) 10))] : List UInt32)).map vu32) h_60 rfl rfl el186 (viewB (h_60.ok _ M0) Sg.h) ((len_map (rfl : List.length ([((((wL bs j).getD (j - 16) 0) + (((rot ((wL bs j).getD (j - 15) 0) 7) ^^^ (rot ((wL bs j).getD (j - 15) 0) 18)) ^^^ (shr32 ((wL bs j).getD (j - 15) 0) 3))) + ((wL bs j).getD (j - 7) 0)) + (((rot ((wL bs j).getD (j - 2) 0) 17) ^^^ (rot ((wL bs j).getD (j - 2) 0) 19)) ^^^ (shr32 ((wL bs j).getD (j - 2) 0) 10))] : List UInt32) = 1)).trans (Nat.mul_one _).symm) (one_u32 _) (by simp only [List.map_append, List.map_nil]) (by omega) (by omega) (by omega) (fun _ _ => Y1) rfl (fun a_61 c_62 w_63 h_64 => ?_)
      refine WL.nil ?_
      refine ⟨(SL.cons (h_64.ok _ M2) (SL.cons (h_64.ok _ M3) (SL.cons (h_64.ok _ M4) (SL.cons (h_64.ok _ M5) (SL.nil _ _))))), ?_⟩
      refine qT rfl rfl (fun wq hS => R.assign (v := (.slice a_61 (j + 1) c_62)) rfl) ?_
      refine WT.nil (thn_n ?_)
      exact ⟨(a_61, c_62, b_58), (Ag.upd rfl (U2 rfl rfl (U4 rfl rfl rfl rfl (U4 rfl rfl rfl rfl (U4 rfl rfl rfl rfl (U4 rfl rfl rfl rfl (Ag.refl _ _))))))), ⟨rfl, rfl, rfl, rfl, rfl, rfl, rfl, rfl, rfl, rfl, rfl, rfl, rfl, rfl, rfl, rfl, rfl, rfl, rfl, trivial⟩, h_64⟩
     ·refine Op1.one rfl (Wn.no rfl) ?_
      refine qV rfl (R.indexS (a := ra2) (i := j - 7) (off := j - 7) (xs := (wL bs j).map vu32) rfl rfl rfl (by omega) (ownView (h_56.ok _ M0)) (lt_len (K := j) (len_map (wL_len bs j)) (by omega)) Try.underlying186 Try.sizeOf170 (Nat.mul_one _).symm) ?_
      refine WL.nil ?_
      refine ⟨(SL.cons (h_56.ok _ M1) (SL.cons (h_56.ok _ M2) (SL.cons (h_56.ok _ M3) (SL.cons (h_56.ok _ M4) (SL.nil _ _))))), ?_⟩
      refine WT.s2 ?_ ?_
      ·refine Op1.one rfl (Wn.no rfl) ?_
       refine qV rfl (R.loadG (a := ra2) (i := j - 16) (xs := (wL bs j).map vu32) (v := (vu32 ((wL bs j).getD (j - 16) 0))) rfl (ownView (h_56.ok _ M0)) Try.isAgg170 (get_u32 (lt_len (K := j) (wL_len bs j) (by omega)))) ?_
       refine WL.nil ?_
       refine ⟨(SL.cons (h_56.ok _ M1) (SL.cons (h_56.ok _ M2) (SL.cons (h_56.ok _ M3) (SL.cons (h_56.ok _ M4) (SL.nil _ _))))), ?_⟩
       refine qT rfl rfl (fun wq hS => R.bin rfl rfl (b32_add ((wL bs j).getD (j - 16) 0) (((rot ((wL bs j).getD (j - 15) 0) 7) ^^^ (rot ((wL bs j).getD (j - 15) 0) 18)) ^^^ (shr32 ((wL bs j).getD (j - 15) 0) 3)))) ?_
       refine WT.s (Op1.one rfl (Wn.no rfl) ?_)
       refine qV rfl (R.loadG (a := ra2) (i := j - 7) (xs := (wL bs j).map vu32) (v := (vu32 ((wL bs j).getD (j - 7) 0))) rfl (ownView (h_56.ok _ M0)) Try.isAgg170 (get_u32 (lt_len (K := j) (wL_len bs j) (by omega)))) ?_
       refine WL.nil ?_
       refine ⟨(SL.cons (h_56.ok _ M1) (SL.cons (h_56.ok _ M2) (SL.cons (h_56.ok _ M3) (SL.cons (h_56.ok _ M4) (SL.nil _ _))))), ?_⟩
       refine qT rfl rfl (fun wq hS => R.bin rfl rfl (b32_add (((wL bs j).getD (j - 16) 0) + (((rot ((wL bs j).getD (j - 15) 0) 7) ^^^ (rot ((wL bs j).getD (j - 15) 0) 18)) ^^^ (shr32 ((wL bs j).getD (j - 15) 0) 3))) ((wL bs j).getD (j - 7) 0))) ?_
       refine qT rfl rfl (fun wq hS => R.bin rfl rfl (b32_add ((((wL bs j).getD (j - 16) 0) + (((rot ((wL bs j).getD (j - 15) 0) 7) ^^^ (rot ((wL bs j).getD (j - 15) 0) 18)) ^^^ (shr32 ((wL bs j).getD (j - 15) 0) 3))) + ((wL bs j).getD (j - 7) 0)) (((rot ((wL bs j).getD (j - 2) 0) 17) ^^^ (rot ((wL bs j).getD (j - 2) 0) 19)) ^^^ (shr32 ((wL bs j).getD (j - 2) 0) 10)))) ?_
       refine WT.s (Op1.one rfl (Wn.no rfl) ?_)
       refine WL.buildSl (vs := [(0, (vu32 (((((wL bs j).getD (j - 16) 0) + (((rot ((wL bs j).getD (j - 15) 0) 7) ^^^ (rot ((wL bs j).getD (j - 15) 0) 18)) ^^^ (shr32 ((wL bs j).getD (j - 15) 0) 3))) + ((wL bs j).getD (j - 7) 0)) + (((rot ((wL bs j).getD (j - 2) 0) 17) ^^^ (rot ((wL bs j).getD (j - 2) 0) 19)) ^^^ (shr32 ((wL bs j).getD (j - 2) 0) 10)))))]) (cs := ([((((wL bs j).getD (j - 16) 0) + (((rot ((wL bs j).getD (j - 15) 0) 7) ^^^ (rot ((wL bs j).getD (j - 15) 0) 18)) ^^^ (shr32 ((wL bs j).getD (j - 15) 0) 3))) + ((wL bs j).getD (j - 7) 0)) + (((rot ((wL bs j).getD (j - 2) 0) 17) ^^^ (rot ((wL bs j).getD (j - 2) 0) 19)) ^^^ (shr32 ((wL bs j).getD (j - 2) 0) 10))] : List UInt32).map vu32) h_56 Try.underlying186 Try.sizeOf170 (zv Try.typeInfo170 rfl) rfl rfl (by kernel_rfl) rfl (one_u32 _) rfl rfl (fun b_65 w_66 h_67 => ?_)
       refine WL.nil ?_
       refine ⟨(SL.cons (h_67.ok _ M2) (SL.cons (h_67.ok _ M3) (SL.cons (h_67.ok _ M4) (SL.cons (h_67.ok _ M5) (SL.nil _ _))))), ?_⟩
       refine WT.s (Op1.one rfl (Wn.no rfl) ?_)
       refine WL.append (km := j + 1) (xs := (wL bs j).map vu32) (ys := ([((((wL bs j).getD (j - 16) 0) + (((rot ((wL bs j).getD (j - 15) 0) 7) ^^^ (rot ((wL bs j).getD (j - 15) 0) 18)) ^^^ (shr32 ((wL bs j).getD (j - 15) 0) 3))) + ((wL bs j).getD (j - 7) 0)) + (((rot ((wL bs j).getD (j - 2) 0) 17) ^^^ (rot ((wL bs j).getD (j - 2) 0) 19)) ^^^ (shr32 ((wL bs j).getD (j - 2) 0) 10))] : List UInt32).map vu32) (zs := ((wL bs j) ++ ([((((wL bs j).getD (j - 16) 0) + (((rot ((wL bs j).getD (j - 15) 0) 7) ^^^ (rot ((wL bs j).getD (j - 15) 0) 18)) ^^^ (shr32 ((wL bs j).getD (j - 15) 0) 3))) + ((wL bs j).getD (j - 7) 0)) + (((rot ((wL bs j).getD (j - 2) 0) 17) ^^^ (rot ((wL bs j).getD (j - 2) 0) 19)) ^^^ (shr32 ((wL bs j).getD (j - 2) 0) 10))] : List UInt32)).map vu32) h_67 rfl rfl el186 (viewB (h_67.ok _ M0) Sg.h) ((len_map (rfl : List.length ([((((wL bs j).getD (j - 16) 0) + (((rot ((wL bs j).getD (j - 15) 0) 7) ^^^ (rot ((wL bs j).getD (j - 15) 0) 18)) ^^^ (shr32 ((wL bs j).getD (j - 15) 0) 3))) + ((wL bs j).getD (j - 7) 0)) + (((rot ((wL bs j).getD (j - 2) 0) 17) ^^^ (rot ((wL bs j).getD (j - 2) 0) 19)) ^^^ (shr32 ((wL bs j).getD (j - 2) 0) 10))] : List UInt32) = 1)).trans (Nat.mul_one _).symm) (one_u32 _) (by simp only [List.map_append, List.map_nil]) (by omega) (by omega) (by omega) (fun _ _ => Y1) rfl (fun a_68 c_69 w_70 h_71 => ?_)
       refine WL.nil ?_
       refine ⟨(SL.cons (h_71.ok _ M2) (SL.cons (h_71.ok _ M3) (SL.cons (h_71.ok _ M4) (SL.cons (h_71.ok _ M5) (SL.nil _ _))))), ?_⟩
       refine qT rfl rfl (fun wq hS => R.assign (v := (.slice a_68 (j + 1) c_69)) rfl) ?_
       refine WT.nil (thn_n ?_)
       exact ⟨(a_68, c_69, b_65), (Ag.upd rfl (U2 rfl rfl (U4 rfl rfl rfl rfl (U4 rfl rfl rfl rfl (U4 rfl rfl rfl rfl (U4 rfl rfl rfl rfl (Ag.refl _ _))))))), ⟨rfl, rfl, rfl, rfl, rfl, rfl, rfl, rfl, rfl, rfl, rfl, rfl, rfl, rfl, rfl, rfl, rfl, rfl, rfl, trivial⟩, h_71⟩
      ·refine Op1.one rfl (Wn.no rfl) ?_
       refine qV rfl (R.loadG (a := ra2) (i := j - 7) (xs := (wL bs j).map vu32) (v := (vu32 ((wL bs j).getD (j - 7) 0))) rfl (ownView (h_56.ok _ M0)) Try.isAgg170 (get_u32 (lt_len (K := j) (wL_len bs j) (by omega)))) ?_
       refine WL.nil ?_
       refine ⟨(SL.cons (h_56.ok _ M1) (SL.cons (h_56.ok _ M2) (SL.cons (h_56.ok _ M3) (SL.cons (h_56.ok _ M4) (SL.nil _ _))))), ?_⟩
       refine WT.s (Op1.one rfl (Wn.no rfl) ?_)
       refine qV rfl (R.loadG (a := ra2) (i := j - 16) (xs := (wL bs j).map vu32) (v := (vu32 ((wL bs j).getD (j - 16) 0))) rfl (ownView (h_56.ok _ M0)) Try.isAgg170 (get_u32 (lt_len (K := j) (wL_len bs j) (by omega)))) ?_
       refine WL.nil ?_
       refine ⟨(SL.cons (h_56.ok _ M1) (SL.cons (h_56.ok _ M2) (SL.cons (h_56.ok _ M3) (SL.cons (h_56.ok _ M4) (SL.nil _ _))))), ?_⟩
       refine qT rfl rfl (fun wq hS => R.bin rfl rfl (b32_add ((wL bs j).getD (j - 16) 0) (((rot ((wL bs j).getD (j - 15) 0) 7) ^^^ (rot ((wL bs j).getD (j - 15) 0) 18)) ^^^ (shr32 ((wL bs j).getD (j - 15) 0) 3)))) ?_
       refine qT rfl rfl (fun wq hS => R.bin rfl rfl (b32_add (((wL bs j).getD (j - 16) 0) + (((rot ((wL bs j).getD (j - 15) 0) 7) ^^^ (rot ((wL bs j).getD (j - 15) 0) 18)) ^^^ (shr32 ((wL bs j).getD (j - 15) 0) 3))) ((wL bs j).getD (j - 7) 0))) ?_
       refine qT rfl rfl (fun wq hS => R.bin rfl rfl (b32_add ((((wL bs j).getD (j - 16) 0) + (((rot ((wL bs j).getD (j - 15) 0) 7) ^^^ (rot ((wL bs j).getD (j - 15) 0) 18)) ^^^ (shr32 ((wL bs j).getD (j - 15) 0) 3))) + ((wL bs j).getD (j - 7) 0)) (((rot ((wL bs j).getD (j - 2) 0) 17) ^^^ (rot ((wL bs j).getD (j - 2) 0) 19)) ^^^ (shr32 ((wL bs j).getD (j - 2) 0) 10)))) ?_
       refine WT.s (Op1.one rfl (Wn.no rfl) ?_)
       refine WL.buildSl (vs := [(0, (vu32 (((((wL bs j).getD (j - 16) 0) + (((rot ((wL bs j).getD (j - 15) 0) 7) ^^^ (rot ((wL bs j).getD (j - 15) 0) 18)) ^^^ (shr32 ((wL bs j).getD (j - 15) 0) 3))) + ((wL bs j).getD (j - 7) 0)) + (((rot ((wL bs j).getD (j - 2) 0) 17) ^^^ (rot ((wL bs j).getD (j - 2) 0) 19)) ^^^ (shr32 ((wL bs j).getD (j - 2) 0) 10)))))]) (cs := ([((((wL bs j).getD (j - 16) 0) + (((rot ((wL bs j).getD (j - 15) 0) 7) ^^^ (rot ((wL bs j).getD (j - 15) 0) 18)) ^^^ (shr32 ((wL bs j).getD (j - 15) 0) 3))) + ((wL bs j).getD (j - 7) 0)) + (((rot ((wL bs j).getD (j - 2) 0) 17) ^^^ (rot ((wL bs j).getD (j - 2) 0) 19)) ^^^ (shr32 ((wL bs j).getD (j - 2) 0) 10))] : List UInt32).map vu32) h_56 Try.underlying186 Try.sizeOf170 (zv Try.typeInfo170 rfl) rfl rfl (by kernel_rfl) rfl (one_u32 _) rfl rfl (fun b_72 w_73 h_74 => ?_)
       refine WL.nil ?_
       refine ⟨(SL.cons (h_74.ok _ M2) (SL.cons (h_74.ok _ M3) (SL.cons (h_74.ok _ M4) (SL.cons (h_74.ok _ M5) (SL.nil _ _))))), ?_⟩
       refine WT.s (Op1.one rfl (Wn.no rfl) ?_)
       refine WL.append (km := j + 1) (xs := (wL bs j).map vu32) (ys := ([((((wL bs j).getD (j - 16) 0) + (((rot ((wL bs j).getD (j - 15) 0) 7) ^^^ (rot ((wL bs j).getD (j - 15) 0) 18)) ^^^ (shr32 ((wL bs j).getD (j - 15) 0) 3))) + ((wL bs j).getD (j - 7) 0)) + (((rot ((wL bs j).getD (j - 2) 0) 17) ^^^ (rot ((wL bs j).getD (j - 2) 0) 19)) ^^^ (shr32 ((wL bs j).getD (j - 2) 0) 10))] : List UInt32).map vu32) (zs := ((wL bs j) ++ ([((((wL bs j).getD (j - 16) 0) + (((rot ((wL bs j).getD (j - 15) 0) 7) ^^^ (rot ((wL bs j).getD (j - 15) 0) 18)) ^^^ (shr32 ((wL bs j).getD (j - 15) 0) 3))) + ((wL bs j).getD (j - 7) 0)) + (((rot ((wL bs j).getD (j - 2) 0) 17) ^^^ (rot ((wL bs j).getD (j - 2) 0) 19)) ^^^ (shr32 ((wL bs j).getD (j - 2) 0) 10))] : List UInt32)).map vu32) h_74 rfl rfl el186 (viewB (h_74.ok _ M0) Sg.h) ((len_map (rfl : List.length ([((((wL bs j).getD (j - 16) 0) + (((rot ((wL bs j).getD (j - 15) 0) 7) ^^^ (rot ((wL bs j).getD (j - 15) 0) 18)) ^^^ (shr32 ((wL bs j).getD (j - 15) 0) 3))) + ((wL bs j).getD (j - 7) 0)) + (((rot ((wL bs j).getD (j - 2) 0) 17) ^^^ (rot ((wL bs j).getD (j - 2) 0) 19)) ^^^ (shr32 ((wL bs j).getD (j - 2) 0) 10))] : List UInt32) = 1)).trans (Nat.mul_one _).symm) (one_u32 _) (by simp only [List.map_append, List.map_nil]) (by omega) (by omega) (by omega) (fun _ _ => Y1) rfl (fun a_75 c_76 w_77 h_78 => ?_)
       refine WL.nil ?_
       refine ⟨(SL.cons (h_78.ok _ M2) (SL.cons (h_78.ok _ M3) (SL.cons (h_78.ok _ M4) (SL.cons (h_78.ok _ M5) (SL.nil _ _))))), ?_⟩
       refine qT rfl rfl (fun wq hS => R.assign (v := (.slice a_75 (j + 1) c_76)) rfl) ?_
       refine WT.nil (thn_n ?_)
       exact ⟨(a_75, c_76, b_72), (Ag.upd rfl (U2 rfl rfl (U4 rfl rfl rfl rfl (U4 rfl rfl rfl rfl (U4 rfl rfl rfl rfl (U4 rfl rfl rfl rfl (Ag.refl _ _))))))), ⟨rfl, rfl, rfl, rfl, rfl, rfl, rfl, rfl, rfl, rfl, rfl, rfl, rfl, rfl, rfl, rfl, rfl, rfl, rfl, trivial⟩, h_78⟩
    ·refine Op1.one rfl (Wn.no rfl) ?_
     refine qV rfl (R.indexS (a := ra2) (i := j - 7) (off := j - 7) (xs := (wL bs j).map vu32) rfl rfl rfl (by omega) (ownView (h_56.ok _ M0)) (lt_len (K := j) (len_map (wL_len bs j)) (by omega)) Try.underlying186 Try.sizeOf170 (Nat.mul_one _).symm) ?_
     refine WL.nil ?_
     refine ⟨(SL.cons (h_56.ok _ M1) (SL.cons (h_56.ok _ M2) (SL.cons (h_56.ok _ M3) (SL.cons (h_56.ok _ M4) (SL.nil _ _))))), ?_⟩
     refine WT.s2 ?_ ?_
     ·refine Op1.one rfl (Wn.no rfl) ?_
      refine qV rfl (R.indexS (a := ra2) (i := j - 16) (off := j - 16) (xs := (wL bs j).map vu32) rfl rfl rfl (by omega) (ownView (h_56.ok _ M0)) (lt_len (K := j) (len_map (wL_len bs j)) (by omega)) Try.underlying186 Try.sizeOf170 (Nat.mul_one _).symm) ?_
      refine WL.nil ?_
      refine ⟨(SL.cons (h_56.ok _ M1) (SL.cons (h_56.ok _ M2) (SL.cons (h_56.ok _ M3) (SL.cons (h_56.ok _ M4) (SL.nil _ _))))), ?_⟩
      refine WT.s2 ?_ ?_
      ·refine Op1.one rfl (Wn.no rfl) ?_
       refine qV rfl (R.loadG (a := ra2) (i := j - 16) (xs := (wL bs j).map vu32) (v := (vu32 ((wL bs j).getD (j - 16) 0))) rfl (ownView (h_56.ok _ M0)) Try.isAgg170 (get_u32 (lt_len (K := j) (wL_len bs j) (by omega)))) ?_
       refine WL.nil ?_
       refine ⟨(SL.cons (h_56.ok _ M1) (SL.cons (h_56.ok _ M2) (SL.cons (h_56.ok _ M3) (SL.cons (h_56.ok _ M4) (SL.nil _ _))))), ?_⟩
       refine qT rfl rfl (fun wq hS => R.bin rfl rfl (b32_add ((wL bs j).getD (j - 16) 0) (((rot ((wL bs j).getD (j - 15) 0) 7) ^^^ (rot ((wL bs j).getD (j - 15) 0) 18)) ^^^ (shr32 ((wL bs j).getD (j - 15) 0) 3)))) ?_
       refine WT.s (Op1.one rfl (Wn.no rfl) ?_)
       refine qV rfl (R.loadG (a := ra2) (i := j - 7) (xs := (wL bs j).map vu32) (v := (vu32 ((wL bs j).getD (j - 7) 0))) rfl (ownView (h_56.ok _ M0)) Try.isAgg170 (get_u32 (lt_len (K := j) (wL_len bs j) (by omega)))) ?_
       refine WL.nil ?_
       refine ⟨(SL.cons (h_56.ok _ M1) (SL.cons (h_56.ok _ M2) (SL.cons (h_56.ok _ M3) (SL.cons (h_56.ok _ M4) (SL.nil _ _))))), ?_⟩
       refine qT rfl rfl (fun wq hS => R.bin rfl rfl (b32_add (((wL bs j).getD (j - 16) 0) + (((rot ((wL bs j).getD (j - 15) 0) 7) ^^^ (rot ((wL bs j).getD (j - 15) 0) 18)) ^^^ (shr32 ((wL bs j).getD (j - 15) 0) 3))) ((wL bs j).getD (j - 7) 0))) ?_
       refine qT rfl rfl (fun wq hS => R.bin rfl rfl (b32_add ((((wL bs j).getD (j - 16) 0) + (((rot ((wL bs j).getD (j - 15) 0) 7) ^^^ (rot ((wL bs j).getD (j - 15) 0) 18)) ^^^ (shr32 ((wL bs j).getD (j - 15) 0) 3))) + ((wL bs j).getD (j - 7) 0)) (((rot ((wL bs j).getD (j - 2) 0) 17) ^^^ (rot ((wL bs j).getD (j - 2) 0) 19)) ^^^ (shr32 ((wL bs j).getD (j - 2) 0) 10)))) ?_
       refine WT.s (Op1.one rfl (Wn.no rfl) ?_)
       refine WL.buildSl (vs := [(0, (vu32 (((((wL bs j).getD (j - 16) 0) + (((rot ((wL bs j).getD (j - 15) 0) 7) ^^^ (rot ((wL bs j).getD (j - 15) 0) 18)) ^^^ (shr32 ((wL bs j).getD (j - 15) 0) 3))) + ((wL bs j).getD (j - 7) 0)) + (((rot ((wL bs j).getD (j - 2) 0) 17) ^^^ (rot ((wL bs j).getD (j - 2) 0) 19)) ^^^ (shr32 ((wL bs j).getD (j - 2) 0) 10)))))]) (cs := ([((((wL bs j).getD (j - 16) 0) + (((rot ((wL bs j).getD (j - 15) 0) 7) ^^^ (rot ((wL bs j).getD (j - 15) 0) 18)) ^^^ (shr32 ((wL bs j).getD (j - 15) 0) 3))) + ((wL bs j).getD (j - 7) 0)) + (((rot ((wL bs j).getD (j - 2) 0) 17) ^^^ (rot ((wL bs j).getD (j - 2) 0) 19)) ^^^ (shr32 ((wL bs j).getD (j - 2) 0) 10))] : List UInt32).map vu32) h_56 Try.underlying186 Try.sizeOf170 (zv Try.typeInfo170 rfl) rfl rfl (by kernel_rfl) rfl (one_u32 _) rfl rfl (fun b_79 w_80 h_81 => ?_)
       refine WL.nil ?_
       refine ⟨(SL.cons (h_81.ok _ M2) (SL.cons (h_81.ok _ M3) (SL.cons (h_81.ok _ M4) (SL.cons (h_81.ok _ M5) (SL.nil _ _))))), ?_⟩
       refine WT.s (Op1.one rfl (Wn.no rfl) ?_)
       refine WL.append (km := j + 1) (xs := (wL bs j).map vu32) (ys := ([((((wL bs j).getD (j - 16) 0) + (((rot ((wL bs j).getD (j - 15) 0) 7) ^^^ (rot ((wL bs j).getD (j - 15) 0) 18)) ^^^ (shr32 ((wL bs j).getD (j - 15) 0) 3))) + ((wL bs j).getD (j - 7) 0)) + (((rot ((wL bs j).getD (j - 2) 0) 17) ^^^ (rot ((wL bs j).getD (j - 2) 0) 19)) ^^^ (shr32 ((wL bs j).getD (j - 2) 0) 10))] : List UInt32).map vu32) (zs := ((wL bs j) ++ ([((((wL bs j).getD (j - 16) 0) + (((rot ((wL bs j).getD (j - 15) 0) 7) ^^^ (rot ((wL bs j).getD (j - 15) 0) 18)) ^^^ (shr32 ((wL bs j).getD (j - 15) 0) 3))) + ((wL bs j).getD (j - 7) 0)) + (((rot ((wL bs j).getD (j - 2) 0) 17) ^^^ (rot ((wL bs j).getD (j - 2) 0) 19)) ^^^ (shr32 ((wL bs j).getD (j - 2) 0) 10))] : List UInt32)).map vu32) h_81 rfl rfl el186 (viewB (h_81.ok _ M0) Sg.h) ((len_map (rfl : List.length ([((((wL bs j).getD (j - 16) 0) + (((rot ((wL bs j).getD (j - 15) 0) 7) ^^^ (rot ((wL bs j).getD (j - 15) 0) 18)) ^^^ (shr32 ((wL bs j).getD (j - 15) 0) 3))) + ((wL bs j).getD (j - 7) 0)) + (((rot ((wL bs j).getD (j - 2) 0) 17) ^^^ (rot ((wL bs j).getD (j - 2) 0) 19)) ^^^ (shr32 ((wL bs j).getD (j - 2) 0) 10))] : List UInt32) = 1)).trans (Nat.mul_one _).symm) (one_u32 _) (by simp only [List.map_append, List.map_nil]) (by omega) (by omega) (by omega) (fun _ _ => Y1) rfl (fun a_82 c_83 w_84 h_85 => ?_)
       refine WL.nil ?_
       refine ⟨(SL.cons (h_85.ok _ M2) (SL.cons (h_85.ok _ M3) (SL.cons (h_85.ok _ M4) (SL.cons (h_85.ok _ M5) (SL.nil _ _))))), ?_⟩
       refine qT rfl rfl (fun wq hS => R.assign (v := (.slice a_82 (j + 1) c_83)) rfl) ?_
       refine WT.nil (thn_n ?_)
       exact ⟨(a_82, c_83, b_79), (Ag.upd rfl (U2 rfl rfl (U4 rfl rfl rfl rfl (U4 rfl rfl rfl rfl (U4 rfl rfl rfl rfl (U4 rfl rfl rfl rfl (Ag.refl _ _))))))), ⟨rfl, rfl, rfl, rfl, rfl, rfl, rfl, rfl, rfl, rfl, rfl, rfl, rfl, rfl, rfl, rfl, rfl, rfl, rfl, trivial⟩, h_85⟩
      ·refine Op1.one rfl (Wn.no rfl) ?_
       refine qV rfl (R.loadG (a := ra2) (i := j - 7) (xs := (wL bs j).map vu32) (v := (vu32 ((wL bs j).getD (j - 7) 0))) rfl (ownView (h_56.ok _ M0)) Try.isAgg170 (get_u32 (lt_len (K := j) (wL_len bs j) (by omega)))) ?_
       refine WL.nil ?_
       refine ⟨(SL.cons (h_56.ok _ M1) (SL.cons (h_56.ok _ M2) (SL.cons (h_56.ok _ M3) (SL.cons (h_56.ok _ M4) (SL.nil _ _))))), ?_⟩
       refine WT.s (Op1.one rfl (Wn.no rfl) ?_)
       refine qV rfl (R.loadG (a := ra2) (i := j - 16) (xs := (wL bs j).map vu32) (v := (vu32 ((wL bs j).getD (j - 16) 0))) rfl (ownView (h_56.ok _ M0)) Try.isAgg170 (get_u32 (lt_len (K := j) (wL_len bs j) (by omega)))) ?_
       refine WL.nil ?_
       refine ⟨(SL.cons (h_56.ok _ M1) (SL.cons (h_56.ok _ M2) (SL.cons (h_56.ok _ M3) (SL.cons (h_56.ok _ M4) (SL.nil _ _))))), ?_⟩
       refine qT rfl rfl (fun wq hS => R.bin rfl rfl (b32_add ((wL bs j).getD (j - 16) 0) (((rot ((wL bs j).getD (j - 15) 0) 7) ^^^ (rot ((wL bs j).getD (j - 15) 0) 18)) ^^^ (shr32 ((wL bs j).getD (j - 15) 0) 3)))) ?_
       refine qT rfl rfl (fun wq hS => R.bin rfl rfl (b32_add (((wL bs j).getD (j - 16) 0) + (((rot ((wL bs j).getD (j - 15) 0) 7) ^^^ (rot ((wL bs j).getD (j - 15) 0) 18)) ^^^ (shr32 ((wL bs j).getD (j - 15) 0) 3))) ((wL bs j).getD (j - 7) 0))) ?_
       refine qT rfl rfl (fun wq hS => R.bin rfl rfl (b32_add ((((wL bs j).getD (j - 16) 0) + (((rot ((wL bs j).getD (j - 15) 0) 7) ^^^ (rot ((wL bs j).getD (j - 15) 0) 18)) ^^^ (shr32 ((wL bs j).getD (j - 15) 0) 3))) + ((wL bs j).getD (j - 7) 0)) (((rot ((wL bs j).getD (j - 2) 0) 17) ^^^ (rot ((wL bs j).getD (j - 2) 0) 19)) ^^^ (shr32 ((wL bs j).getD (j - 2) 0) 10)))) ?_
       refine WT.s (Op1.one rfl (Wn.no rfl) ?_)
       refine WL.buildSl (vs := [(0, (vu32 (((((wL bs j).getD (j - 16) 0) + (((rot ((wL bs j).getD (j - 15) 0) 7) ^^^ (rot ((wL bs j).getD (j - 15) 0) 18)) ^^^ (shr32 ((wL bs j).getD (j - 15) 0) 3))) + ((wL bs j).getD (j - 7) 0)) + (((rot ((wL bs j).getD (j - 2) 0) 17) ^^^ (rot ((wL bs j).getD (j - 2) 0) 19)) ^^^ (shr32 ((wL bs j).getD (j - 2) 0) 10)))))]) (cs := ([((((wL bs j).getD (j - 16) 0) + (((rot ((wL bs j).getD (j - 15) 0) 7) ^^^ (rot ((wL bs j).getD (j - 15) 0) 18)) ^^^ (shr32 ((wL bs j).getD (j - 15) 0) 3))) + ((wL bs j).getD (j - 7) 0)) + (((rot ((wL bs j).getD (j - 2) 0) 17) ^^^ (rot ((wL bs j).getD (j - 2) 0) 19)) ^^^ (shr32 ((wL bs j).getD (j - 2) 0) 10))] : List UInt32).map vu32) h_56 Try.underlying186 Try.sizeOf170 (zv Try.typeInfo170 rfl) rfl rfl (by kernel_rfl) rfl (one_u32 _) rfl rfl (fun b_86 w_87 h_88 => ?_)
       refine WL.nil ?_
       refine ⟨(SL.cons (h_88.ok _ M2) (SL.cons (h_88.ok _ M3) (SL.cons (h_88.ok _ M4) (SL.cons (h_88.ok _ M5) (SL.nil _ _))))), ?_⟩
       refine WT.s (Op1.one rfl (Wn.no rfl) ?_)
       refine WL.append (km := j + 1) (xs := (wL bs j).map vu32) (ys := ([((((wL bs j).getD (j - 16) 0) + (((rot ((wL bs j).getD (j - 15) 0) 7) ^^^ (rot ((wL bs j).getD (j - 15) 0) 18)) ^^^ (shr32 ((wL bs j).getD (j - 15) 0) 3))) + ((wL bs j).getD (j - 7) 0)) + (((rot ((wL bs j).getD (j - 2) 0) 17) ^^^ (rot ((wL bs j).getD (j - 2) 0) 19)) ^^^ (shr32 ((wL bs j).getD (j - 2) 0) 10))] : List UInt32).map vu32) (zs := ((wL bs j) ++ ([((((wL bs j).getD (j - 16) 0) + (((rot ((wL bs j).getD (j - 15) 0) 7) ^^^ (rot ((wL bs j).getD (j - 15) 0) 18)) ^^^ (shr32 ((wL bs j).getD (j - 15) 0) 3))) + ((wL bs j).getD (j - 7) 0)) + (((rot ((wL bs j).getD (j - 2) 0) 17) ^^^ (rot ((wL bs j).getD (j - 2) 0) 19)) ^^^ (shr32 ((wL bs j).getD (j - 2) 0) 10))] : List UInt32)).map vu32) h_88 rfl rfl el186 (viewB (h_88.ok _ M0) Sg.h) ((len_map (rfl : List.length ([((((wL bs j).getD (j - 16) 0) + (((rot ((wL bs j).getD (j - 15) 0) 7) ^^^ (rot ((wL bs j).getD (j - 15) 0) 18)) ^^^ (shr32 ((wL bs j).getD (j - 15) 0) 3))) + ((wL bs j).getD (j - 7) 0)) + (((rot ((wL bs j).getD (j - 2) 0) 17) ^^^ (rot ((wL bs j).getD (j - 2) 0) 19)) ^^^ (shr32 ((wL bs j).getD (j - 2) 0) 10))] : List UInt32) = 1)).trans (Nat.mul_one _).symm) (one_u32 _) (by simp only [List.map_append, List.map_nil]) (by omega) (by omega) (by omega) (fun _ _ => Y1) rfl (fun a_89 c_90 w_91 h_92 => ?_)
       refine WL.nil ?_
       refine ⟨(SL.cons (h_92.ok _ M2) (SL.cons (h_92.ok _ M3) (SL.cons (h_92.ok _ M4) (SL.cons (h_92.ok _ M5) (SL.nil _ _))))), ?_⟩
       refine qT rfl rfl (fun wq hS => R.assign (v := (.slice a_89 (j + 1) c_90)) rfl) ?_
       refine WT.nil (thn_n ?_)
       exact ⟨(a_89, c_90, b_86), (Ag.upd rfl (U2 rfl rfl (U4 rfl rfl rfl rfl (U4 rfl rfl rfl rfl (U4 rfl rfl rfl rfl (U4 rfl rfl rfl rfl (Ag.refl _ _))))))), ⟨rfl, rfl, rfl, rfl, rfl, rfl, rfl, rfl, rfl, rfl, rfl, rfl, rfl, rfl, rfl, rfl, rfl, rfl, rfl, trivial⟩, h_92⟩
     ·refine Op1.one rfl (Wn.no rfl) ?_
      refine qV rfl (R.loadG (a := ra2) (i := j - 7) (xs := (wL bs j).map vu32) (v := (vu32 ((wL bs j).getD (j - 7) 0))) rfl (ownView (h_56.ok _ M0)) Try.isAgg170 (get_u32 (lt_len (K := j) (wL_len bs j) (by omega)))) ?_
      refine WL.nil ?_
      refine ⟨(SL.cons (h_56.ok _ M1) (SL.cons (h_56.ok _ M2) (SL.cons (h_56.ok _ M3) (SL.cons (h_56.ok _ M4) (SL.nil _ _))))), ?_⟩
      refine WT.s (Op1.one rfl (Wn.no rfl) ?_)
      refine qV rfl (R.indexS (a := ra2) (i := j - 16) (off := j - 16) (xs := (wL bs j).map vu32) rfl rfl rfl (by omega) (ownView (h_56.ok _ M0)) (lt_len (K := j) (len_map (wL_len bs j)) (by omega)) Try.underlying186 Try.sizeOf170 (Nat.mul_one _).symm) ?_
      refine WL.nil ?_
      refine ⟨(SL.cons (h_56.ok _ M1) (SL.cons (h_56.ok _ M2) (SL.cons (h_56.ok _ M3) (SL.cons (h_56.ok _ M4) (SL.nil _ _))))), ?_⟩
      refine WT.s (Op1.one rfl (Wn.no rfl) ?_)
      refine qV rfl (R.loadG (a := ra2) (i := j - 16) (xs := (wL bs j).map vu32) (v := (vu32 ((wL bs j).getD (j - 16) 0))) rfl (ownView (h_56.ok _ M0)) Try.isAgg170 (get_u32 (lt_len (K := j) (wL_len bs j) (by omega)))) ?_
      refine WL.nil ?_
      refine ⟨(SL.cons (h_56.ok _ M1) (SL.cons (h_56.ok _ M2) (SL.cons (h_56.ok _ M3) (SL.cons (h_56.ok _ M4) (SL.nil _ _))))), ?_⟩
      refine qT rfl rfl (fun wq hS => R.bin rfl rfl (b32_add ((wL bs j).getD (j - 16) 0) (((rot ((wL bs j).getD (j - 15) 0) 7) ^^^ (rot ((wL bs j).getD (j - 15) 0) 18)) ^^^ (shr32 ((wL bs j).getD (j - 15) 0) 3)))) ?_
      refine qT rfl rfl (fun wq hS => R.bin rfl rfl (b32_add (((wL bs j).getD (j - 16) 0) + (((rot ((wL bs j).getD (j - 15) 0) 7) ^^^ (rot ((wL bs j).getD (j - 15) 0) 18)) ^^^ (shr32 ((wL bs j).getD (j - 15) 0) 3))) ((wL bs j).getD (j - 7) 0))) ?_
      refine qT rfl rfl (fun wq hS => R.bin rfl rfl (b32_add ((((wL bs j).getD (j - 16) 0) + (((rot ((wL bs j).getD (j - 15) 0) 7) ^^^ (rot ((wL bs j).getD (j - 15) 0) 18)) ^^^ (shr32 ((wL bs j).getD (j - 15) 0) 3))) + ((wL bs j).getD (j - 7) 0)) (((rot ((wL bs j).getD (j - 2) 0) 17) ^^^ (rot ((wL bs j).getD (j - 2) 0) 19)) ^^^ (shr32 ((wL bs j).getD (j - 2) 0) 10)))) ?_
      refine WT.s (Op1.one rfl (Wn.no rfl) ?_)
      refine WL.buildSl (vs := [(0, (vu32 (((((wL bs j).getD (j - 16) 0) + (((rot ((wL bs j).getD (j - 15) 0) 7) ^^^ (rot ((wL bs j).getD (j - 15) 0) 18)) ^^^ (shr32 ((wL bs j).getD (j - 15) 0) 3))) + ((wL bs j).getD (j - 7) 0)) + (((rot ((wL bs j).getD (j - 2) 0) 17) ^^^ (rot ((wL bs j).getD (j - 2) 0) 19)) ^^^ (shr32 ((wL bs j).getD (j - 2) 0) 10)))))]) (cs := ([((((wL bs j).getD (j - 16) 0) + (((rot ((wL bs j).getD (j - 15) 0) 7) ^^^ (rot ((wL bs j).getD (j - 15) 0) 18)) ^^^ (shr32 ((wL bs j).getD (j - 15) 0) 3))) + ((wL bs j).getD (j - 7) 0)) + (((rot ((wL bs j).getD (j - 2) 0) 17) ^^^ (rot ((wL bs j).getD (j - 2) 0) 19)) ^^^ (shr32 ((wL bs j).getD (j - 2) 0) 10))] : List UInt32).map vu32) h_56 Try.underlying186 Try.sizeOf170 (zv Try.typeInfo170 rfl) rfl rfl (by kernel_rfl) rfl (one_u32 _) rfl rfl (fun b_93 w_94 h_95 => ?_)
      refine WL.nil ?_
      refine ⟨(SL.cons (h_95.ok _ M2) (SL.cons (h_95.ok _ M3) (SL.cons (h_95.ok _ M4) (SL.cons (h_95.ok _ M5) (SL.nil _ _))))), ?_⟩
      refine WT.s (Op1.one rfl (Wn.no rfl) ?_)
      refine WL.append (km := j + 1) (xs := (wL bs j).map vu32) (ys := ([((((wL bs j).getD (j - 16) 0) + (((rot ((wL bs j).getD (j - 15) 0) 7) ^^^ (rot ((wL bs j).getD (j - 15) 0) 18)) ^^^ (shr32 ((wL bs j).getD (j - 15) 0) 3))) + ((wL bs j).getD (j - 7) 0)) + (((rot ((wL bs j).getD (j - 2) 0) 17) ^^^ (rot ((wL bs j).getD (j - 2) 0) 19)) ^^^ (shr32 ((wL bs j).getD (j - 2) 0) 10))] : List UInt32).map vu32) (zs := ((wL bs j) ++ ([((((wL bs j).getD (j - 16) 0) + (((rot ((wL bs j).getD (j - 15) 0) 7) ^^^ (rot ((wL bs j).getD (j - 15) 0) 18)) ^^^ (shr32 ((wL bs j).getD (j - 15) 0) 3))) + ((wL bs j).getD (j - 7) 0)) + (((rot ((wL bs j).getD (j - 2) 0) 17) ^^^ (rot ((wL bs j).getD (j - 2) 0) 19)) ^^^ (shr32 ((wL bs j).getD (j - 2) 0) 10))] : List UInt32)).map vu32) h_95 rfl rfl el186 (viewB (h_95.ok _ M0) Sg.h) ((len_map (rfl : List.length ([((((wL bs j).getD (j - 16) 0) + (((rot ((wL bs j).getD (j - 15) 0) 7) ^^^ (rot ((wL bs j).getD (j - 15) 0) 18)) ^^^ (shr32 ((wL bs j).getD (j - 15) 0) 3))) + ((wL bs j).getD (j - 7) 0)) + (((rot ((wL bs j).getD (j - 2) 0) 17) ^^^ (rot ((wL bs j).getD (j - 2) 0) 19)) ^^^ (shr32 ((wL bs j).getD (j - 2) 0) 10))] : List UInt32) = 1)).trans (Nat.mul_one _).symm) (one_u32 _) (by simp only [List.map_append, List.map_nil]) (by omega) (by omega) (by omega) (fun _ _ => Y1) rfl (fun a_96 c_97 w_98 h_99 => ?_)
      refine WL.nil ?_
      refine ⟨(SL.cons (h_99.ok _ M2) (SL.cons (h_99.ok _ M3) (SL.cons (h_99.ok _ M4) (SL.cons (h_99.ok _ M5) (SL.nil _ _))))), ?_⟩
      refine qT rfl rfl (fun wq hS => R.assign (v := (.slice a_96 (j + 1) c_97)) rfl) ?_
      refine WT.nil (thn_n ?_)
      exact ⟨(a_96, c_97, b_93), (Ag.upd rfl (U2 rfl rfl (U4 rfl rfl rfl rfl (U4 rfl rfl rfl rfl (U4 rfl rfl rfl rfl (U4 rfl rfl rfl rfl (Ag.refl _ _))))))), ⟨rfl, rfl, rfl, rfl, rfl, rfl, rfl, rfl, rfl, rfl, rfl, rfl, rfl, rfl, rfl, rfl, rfl, rfl, rfl, trivial⟩, h_99⟩
   ·rintro ⟨a_103, c_104, b_105⟩ J_100 w_101 h_102
    refine inb_n (thn_n (WP.reg ?_))
    refine qM (vn j) rfl rfl (qV rfl (R.bin rfl rfl (bi_add (c := ((j + 1 : Nat) : Int)) (by omega) (by omega))) (qA (vn (j + 1)) rfl rfl ?_))
    refine WL.nil (thn_n ?_)
    have h_111 := (((((h_102.drop rfl).up J4).up J4).up J4).up J4).up J4
    have es : (wL bs j) ++ ([((((wL bs j).getD (j - 16) 0) + (((rot ((wL bs j).getD (j - 15) 0) 7) ^^^ (rot ((wL bs j).getD (j - 15) 0) 18)) ^^^ (shr32 ((wL bs j).getD (j - 15) 0) 3))) + ((wL bs j).getD (j - 7) 0)) + (((rot ((wL bs j).getD (j - 2) 0) 17) ^^^ (rot ((wL bs j).getD (j - 2) 0) 19)) ^^^ (shr32 ((wL bs j).getD (j - 2) 0) 10))] : List UInt32) = wL bs (j + 1) := wL_hi4 (by omega) rfl
    rw [es] at h_111
    exact ⟨(j + 1, a_103, c_104), _, (by omega), (Ag.upd rfl (U2 rfl rfl (Ag.updL rfl (Ag.trans (Ag.sub rfl (Ag.mix _ _ _)) (Ag.upd rfl (Ag.upd rfl (Ag.upd rfl (Ag.upd rfl (Ag.upd rfl (Ag.upd rfl (Ag.upd rfl (Ag.upd rfl (Ag.upd rfl (Ag.upd rfl (Ag.upd rfl (Ag.upd rfl (Ag.upd rfl (Ag.upd rfl (Ag.upd rfl (Ag.upd rfl (Ag.upd rfl (Ag.upd rfl (Ag.upd rfl (Ag.upd rfl (Ag.upd rfl (Ag.upd rfl (Ag.upd rfl (Ag.upd rfl (Ag.upd rfl (Ag.upd rfl (Ag.upd rfl (Ag.upd rfl (Ag.upd rfl (Ag.upd rfl (Ag.upd rfl (Ag.upd rfl (Ag.updL rfl (Ag.mix _ _ _)))))))))))))))))))))))))))))))))))))), ⟨rfl, rfl, trivial⟩, h_111, (by omega), (by omega), rfl⟩
  ·have p_112 := of_decide_eq_false c_38
   refine WP.exit (thn_x (thn_x (inb_hit (thn_n (WP.seq (WP.reg ?_))))))
   refine qV rfl (R.loadA (b := b_1) (off := 0) [] [(8, hh.map vu32)] [] (cs := hh.map vu32) rfl Try.isAgg172 Try.sizeOf172 (h_35.ok _ M3) rfl rfl rfl rfl) ?_
   refine WL.alloc (segs := [(8, (List.replicate 8 (0 : UInt32)).map vu32)]) h_35 (zv Try.typeInfo172 rfl) rfl (SsOk.cons (SOk.u32 lr) SsOk.nil) rfl (fun b_113 w_114 h_115 => ?_)
   refine WL.storeA (b := b_113) (off := 0) [] [(8, (List.replicate 8 (0 : UInt32)).map vu32)] [(8, hh.map vu32)] [] (ys := hh.map vu32) h_115 rfl rfl Try.sizeOf172 At.h (by decide) rfl rfl rfl rfl rfl rfl (SsOk.cons (SOk.u32 hhl) SsOk.nil) (fun w_116 h_117 => ?_)
   refine WL.nil (thn_n (WP.seq (WP.seq (WP.reg ?_))))
   refine qA (vi 0) rfl rfl ?_
   refine WL.nil (thn_n (WP.block ?_))
   have hj64 : j = 64 := by omega
   subst hj64
   have h_118 : HP w w_116 [.blk b_113 .nw 172 [(8, hh.map vu32)], .row ra2 64 rc2 170 1 ((W bs).map vu32), .blk b_7 .nw 172 [(8, (List.replicate 8 (0 : UInt32)).map vu32)], .blk b_4 .nw 163 [(64, bs.map vu8)], .blk b_1 .nw 172 [(8, hh.map vu32)], .view ak (ks.map vu32)] := h_117
   refine WP.loopG (G := Nat) [15, 16, 17, 18, 19, 20, 21, 22, 23, 110, 111, 112, 113, 114, 115, 116, 117, 118, 119, 120, 121, 122, 123, 124, 125, 126, 127, 128, 129, 130, 131, 132, 133, 134, 135, 136, 137, 138, 139, 140, 141, 142, 143, 144, 145, 146, 147, 148, 149, 150, 151, 152, 153, 154, 155, 156, 157, 158, 159, 160, 161, 162, 163, 164, 165, 166, 167, 168, 169, 170, 171, 172, 173, 174, 175, 176, 177, 178, 179, 180, 181, 182, 183, 184, 185, 186, 187, 188, 189] (fun r => [(15, (vn r))]) (fun r m w1 => HP w w1 [.blk b_113 .nw 172 [(8, (stN ks (W bs) hh r).map vu32)], .row ra2 64 rc2 170 1 ((W bs).map vu32), .blk b_7 .nw 172 [(8, (List.replicate 8 (0 : UInt32)).map vu32)], .blk b_4 .nw 163 [(64, bs.map vu8)], .blk b_1 .nw 172 [(8, hh.map vu32)], .view ak (ks.map vu32)] ∧ (r ≤ 64) ∧ m = 64 - r) ⟨0, _, ⟨rfl, trivial⟩, h_118, (by omega), rfl⟩ ?_
   rintro r m_121 J_122 w_119 ⟨h_120, hr, rfl⟩
   refine WP.seq (WP.seq (WP.reg ?_))
   refine qM (vn r) rfl rfl (qV rfl (R.bin rfl rfl (bi_lss (r := decide ((((r : Nat) : Int) : Int) < 64)) rfl)) ?_)
   refine WL.nil (thn_n ?_)
   refine WP.cond (b := decide ((((r : Nat) : Int) : Int) < 64)) rfl (fun c_123 => ?_) (fun c_123 => ?_)
   ·have p_124 := of_decide_eq_true c_123
    refine WP.skip (thn_n (WP.seq (WP.block (WP.seq ?_))))
    refine WP.drawT (SL w.heap.size [.blk b_113 .nw 172 [(8, (stN ks (W bs) hh r).map vu32)], .row ra2 64 rc2 170 1 ((W bs).map vu32), .blk b_7 .nw 172 [(8, (List.replicate 8 (0 : UInt32)).map vu32)], .blk b_4 .nw 163 [(64, bs.map vu8)], .blk b_1 .nw 172 [(8, hh.map vu32)], .view ak (ks.map vu32)]) (.q 0 (.q 1 (.q 2 (.q 3 (.q 4 (.q 5 (.q 6 (.q 7 (.q 8 (.q 9 (.q 10 (.q 11 (.q 12 (.q 13 (.q 14 (.q 15 (.q 16 (.q 17 .nil)))))))))))))))))) (by kernel_rfl) (by kernel_rfl) rfl (by kernel_rfl) (fun w_125 hc_127 => (SL.cons ((h_120.same hc_127).ok _ M0) (SL.cons ((h_120.same hc_127).ok _ M1) (SL.cons ((h_120.same hc_127).ok _ M2) (SL.cons ((h_120.same hc_127).ok _ M3) (SL.cons ((h_120.same hc_127).ok _ M4) (SL.cons ((h_120.same hc_127).ok _ M5) (SL.nil _ _)))))))) (fun w_125 hc_127 => ?_)
    have h_126 := h_120.same hc_127
    refine qT rfl rfl (fun wq hS => R.indexA (b := b_113) (off := 0) (off' := 0) (i := 0) rfl rfl rfl (by decide) Try.underlying172 Try.sizeOf170 rfl) ?_
    refine qT rfl rfl (fun wq hS => R.loadE (b := b_113) (off := 0) (i := 0) (v := (vu32 ((stN ks (W bs) hh r).getD 0 0))) rfl Try.isAgg170 (hS _ M0) Sg.h rfl (get_u32 (lt_len (K := 8) (stN_len hhl r) (by decide)))) ?_
    refine qT rfl rfl (fun wq hS => R.indexA (b := b_113) (off := 0) (off' := 1) (i := 1) rfl rfl rfl (by decide) Try.underlying172 Try.sizeOf170 rfl) ?_
    refine qT rfl rfl (fun wq hS => R.loadE (b := b_113) (off := 1) (i := 1) (v := (vu32 ((stN ks (W bs) hh r).getD 1 0))) rfl Try.isAgg170 (hS _ M0) Sg.h rfl (get_u32 (lt_len (K := 8) (stN_len hhl r) (by decide)))) ?_
    refine qT rfl rfl (fun wq hS => R.indexA (b := b_113) (off := 0) (off' := 2) (i := 2) rfl rfl rfl (by decide) Try.underlying172 Try.sizeOf170 rfl) ?_
    refine qT rfl rfl (fun wq hS => R.loadE (b := b_113) (off := 2) (i := 2) (v := (vu32 ((stN ks (W bs) hh r).getD 2 0))) rfl Try.isAgg170 (hS _ M0) Sg.h rfl (get_u32 (lt_len (K := 8) (stN_len hhl r) (by decide)))) ?_
    refine qT rfl rfl (fun wq hS => R.indexA (b := b_113) (off := 0) (off' := 4) (i := 4) rfl rfl rfl (by decide) Try.underlying172 Try.sizeOf170 rfl) ?_
    refine qT rfl rfl (fun wq hS => R.loadE (b := b_113) (off := 4) (i := 4) (v := (vu32 ((stN ks (W bs) hh r).getD 4 0))) rfl Try.isAgg170 (hS _ M0) Sg.h rfl (get_u32 (lt_len (K := 8) (stN_len hhl r) (by decide)))) ?_
    refine qT rfl rfl (fun wq hS => R.indexA (b := b_113) (off := 0) (off' := 5) (i := 5) rfl rfl rfl (by decide) Try.underlying172 Try.sizeOf170 rfl) ?_
    refine qT rfl rfl (fun wq hS => R.loadE (b := b_113) (off := 5) (i := 5) (v := (vu32 ((stN ks (W bs) hh r).getD 5 0))) rfl Try.isAgg170 (hS _ M0) Sg.h rfl (get_u32 (lt_len (K := 8) (stN_len hhl r) (by decide)))) ?_
    refine qT rfl rfl (fun wq hS => R.indexA (b := b_113) (off := 0) (off' := 6) (i := 6) rfl rfl rfl (by decide) Try.underlying172 Try.sizeOf170 rfl) ?_
    refine qT rfl rfl (fun wq hS => R.loadE (b := b_113) (off := 6) (i := 6) (v := (vu32 ((stN ks (W bs) hh r).getD 6 0))) rfl Try.isAgg170 (hS _ M0) Sg.h rfl (get_u32 (lt_len (K := 8) (stN_len hhl r) (by decide)))) ?_
    refine qT rfl rfl (fun wq hS => R.assign (v := (vu32 ((stN ks (W bs) hh r).getD 0 0))) rfl) ?_
    refine qT rfl rfl (fun wq hS => R.assign (v := (vu32 ((stN ks (W bs) hh r).getD 1 0))) rfl) ?_
    refine qT rfl rfl (fun wq hS => R.assign (v := (vu32 ((stN ks (W bs) hh r).getD 2 0))) rfl) ?_
    refine qT rfl rfl (fun wq hS => R.assign (v := (vu32 ((stN ks (W bs) hh r).getD 4 0))) rfl) ?_
    refine qT rfl rfl (fun wq hS => R.assign (v := (vu32 ((stN ks (W bs) hh r).getD 5 0))) rfl) ?_
    refine qT rfl rfl (fun wq hS => R.assign (v := (vu32 ((stN ks (W bs) hh r).getD 6 0))) rfl) ?_
    refine WT.nil (thn_n (WP.seq ?_))
    refine WP.drawT (SL w.heap.size [.blk b_113 .nw 172 [(8, (stN ks (W bs) hh r).map vu32)], .row ra2 64 rc2 170 1 ((W bs).map vu32), .blk b_7 .nw 172 [(8, (List.replicate 8 (0 : UInt32)).map vu32)], .blk b_4 .nw 163 [(64, bs.map vu8)], .blk b_1 .nw 172 [(8, hh.map vu32)], .view ak (ks.map vu32)]) (.q 0 (.q 1 (.q 2 (.q 4 (.q 7 (.q 11 (.q 12 (.q 13 (.q 14 (.q 15 (.q 16 (.q 17 (.q 18 (.q 20 (.q 21 (.q 22 (.q 23 (.q 25 (.q 26 (.q 27 (.q 28 (.s 3 (.s 5 (.q 6 (.s 8 (.q 9 (.q 10 (.q 19 (.q 24 (.q 29 (.q 30 .nil))))))))))))))))))))))))))))))) (by kernel_rfl) (by kernel_rfl) rfl (by kernel_rfl) (fun w_128 hc_130 => (SL.cons ((h_126.same hc_130).ok _ M0) (SL.cons ((h_126.same hc_130).ok _ M1) (SL.cons ((h_126.same hc_130).ok _ M2) (SL.cons ((h_126.same hc_130).ok _ M3) (SL.cons ((h_126.same hc_130).ok _ M4) (SL.cons ((h_126.same hc_130).ok _ M5) (SL.nil _ _)))))))) (fun w_128 hc_130 => ?_)
    have h_129 := h_126.same hc_130
    refine qT rfl rfl (fun wq hS => R.indexA (b := b_113) (off := 0) (off' := 7) (i := 7) rfl rfl rfl (by decide) Try.underlying172 Try.sizeOf170 rfl) ?_
    refine qT rfl rfl (fun wq hS => R.loadE (b := b_113) (off := 7) (i := 7) (v := (vu32 ((stN ks (W bs) hh r).getD 7 0))) rfl Try.isAgg170 (hS _ M0) Sg.h rfl (get_u32 (lt_len (K := 8) (stN_len hhl r) (by decide)))) ?_
    refine qT rfl rfl (fun wq hS => R.move (v := (vu32 ((stN ks (W bs) hh r).getD 4 0))) rfl) ?_
    refine qT rfl rfl (fun wq hS => R.move (v := (vu32 ((stN ks (W bs) hh r).getD 4 0))) rfl) ?_
    refine qT rfl rfl (fun wq hS => R.move (v := (vu32 ((stN ks (W bs) hh r).getD 4 0))) rfl) ?_
    refine qT rfl rfl (fun wq hS => R.move (v := (vu32 ((stN ks (W bs) hh r).getD 4 0))) rfl) ?_
    refine qT rfl rfl (fun wq hS => R.move (v := (vu32 ((stN ks (W bs) hh r).getD 5 0))) rfl) ?_
    refine qT rfl rfl (fun wq hS => R.bin rfl rfl (b32_and ((stN ks (W bs) hh r).getD 4 0) ((stN ks (W bs) hh r).getD 5 0))) ?_
    refine qT rfl rfl (fun wq hS => R.move (v := (vu32 ((stN ks (W bs) hh r).getD 4 0))) rfl) ?_
    refine qT rfl rfl (fun wq hS => R.un rfl (run_not32 ((stN ks (W bs) hh r).getD 4 0))) ?_
    refine qT rfl rfl (fun wq hS => R.move (v := (vu32 ((stN ks (W bs) hh r).getD 6 0))) rfl) ?_
    refine qT rfl rfl (fun wq hS => R.bin rfl rfl (b32_and (~~~((stN ks (W bs) hh r).getD 4 0)) ((stN ks (W bs) hh r).getD 6 0))) ?_
    refine qT rfl rfl (fun wq hS => R.bin rfl rfl (b32_xor (((stN ks (W bs) hh r).getD 4 0) &&& ((stN ks (W bs) hh r).getD 5 0)) ((~~~((stN ks (W bs) hh r).getD 4 0)) &&& ((stN ks (W bs) hh r).getD 6 0)))) ?_
    refine qT rfl rfl (fun wq hS => R.move (v := (.slice ak 64 kc)) rfl) ?_
    refine qT rfl rfl (fun wq hS => R.move (v := (vn r)) rfl) ?_
    refine qT rfl rfl (fun wq hS => R.indexS (a := ak) (i := r) (off := r) (xs := ks.map vu32) rfl rfl rfl (by omega) (viewV (hS _ M5)) (lt_len (K := 64) (len_map hkl) (by omega)) Try.underlying186 Try.sizeOf170 (Nat.mul_one _).symm) ?_
    refine qT rfl rfl (fun wq hS => R.loadG (a := ak) (i := r) (xs := ks.map vu32) (v := (vu32 (ks.getD r 0))) rfl (viewV (hS _ M5)) Try.isAgg170 (get_u32 (lt_len (K := 64) hkl (by omega)))) ?_
    refine qT rfl rfl (fun wq hS => R.move (v := (.slice ra2 64 rc2)) rfl) ?_
    refine qT rfl rfl (fun wq hS => R.move (v := (vn r)) rfl) ?_
    refine qT rfl rfl (fun wq hS => R.indexS (a := ra2) (i := r) (off := r) (xs := (W bs).map vu32) rfl rfl rfl (by omega) (ownView (hS _ M1)) (lt_len (K := 64) (len_map (W_len bs)) (by omega)) Try.underlying186 Try.sizeOf170 (Nat.mul_one _).symm) ?_
    refine qT rfl rfl (fun wq hS => R.loadG (a := ra2) (i := r) (xs := (W bs).map vu32) (v := (vu32 ((W bs).getD r 0))) rfl (ownView (hS _ M1)) Try.isAgg170 (get_u32 (lt_len (K := 64) (W_len bs) (by omega)))) ?_
    refine WT.s (Op1.one rfl (Wn.no rfl) ?_)
    refine WL.call Try.call141 rfl rfl (c_ror6 ((stN ks (W bs) hh r).getD 4 0) _ ) rfl ?_
    rintro _ w_132 ⟨rfl, hc_131⟩
    have h_133 := h_129.same hc_131
    refine WL.nil ?_
    refine ⟨(SL.cons (h_133.ok _ M0) (SL.cons (h_133.ok _ M1) (SL.cons (h_133.ok _ M2) (SL.cons (h_133.ok _ M3) (SL.cons (h_133.ok _ M4) (SL.cons (h_133.ok _ M5) (SL.nil _ _))))))), ?_⟩
    refine WT.s (Op1.one rfl (Wn.no rfl) ?_)
    refine WL.call Try.call141 rfl rfl (c_ror11 ((stN ks (W bs) hh r).getD 4 0) _ ) rfl ?_
    rintro _ w_135 ⟨rfl, hc_134⟩
    have h_136 := h_133.same hc_134
    refine WL.nil ?_
    refine ⟨(SL.cons (h_136.ok _ M0) (SL.cons (h_136.ok _ M1) (SL.cons (h_136.ok _ M2) (SL.cons (h_136.ok _ M3) (SL.cons (h_136.ok _ M4) (SL.cons (h_136.ok _ M5) (SL.nil _ _))))))), ?_⟩
    refine qT rfl rfl (fun wq hS => R.bin rfl rfl (b32_xor (rot ((stN ks (W bs) hh r).getD 4 0) 6) (rot ((stN ks (W bs) hh r).getD 4 0) 11))) ?_
    refine WT.s (Op1.one rfl (Wn.no rfl) ?_)
    refine WL.call Try.call141 rfl rfl (c_ror25 ((stN ks (W bs) hh r).getD 4 0) _ ) rfl ?_
    rintro _ w_138 ⟨rfl, hc_137⟩
    have h_139 := h_136.same hc_137
    refine WL.nil ?_
    refine ⟨(SL.cons (h_139.ok _ M0) (SL.cons (h_139.ok _ M1) (SL.cons (h_139.ok _ M2) (SL.cons (h_139.ok _ M3) (SL.cons (h_139.ok _ M4) (SL.cons (h_139.ok _ M5) (SL.nil _ _))))))), ?_⟩
    refine qT rfl rfl (fun wq hS => R.bin rfl rfl (b32_xor ((rot ((stN ks (W bs) hh r).getD 4 0) 6) ^^^ (rot ((stN ks (W bs) hh r).getD 4 0) 11)) (rot ((stN ks (W bs) hh r).getD 4 0) 25))) ?_
    refine qT rfl rfl (fun wq hS => R.bin rfl rfl (b32_add ((stN ks (W bs) hh r).getD 7 0) (((rot ((stN ks (W bs) hh r).getD 4 0) 6) ^^^ (rot ((stN ks (W bs) hh r).getD 4 0) 11)) ^^^ (rot ((stN ks (W bs) hh r).getD 4 0) 25)))) ?_
    refine qT rfl rfl (fun wq hS => R.bin rfl rfl (b32_add (((stN ks (W bs) hh r).getD 7 0) + (((rot ((stN ks (W bs) hh r).getD 4 0) 6) ^^^ (rot ((stN ks (W bs) hh r).getD 4 0) 11)) ^^^ (rot ((stN ks (W bs) hh r).getD 4 0) 25))) ((((stN ks (W bs) hh r).getD 4 0) &&& ((stN ks (W bs) hh r).getD 5 0)) ^^^ ((~~~((stN ks (W bs) hh r).getD 4 0)) &&& ((stN ks (W bs) hh r).getD 6 0))))) ?_
    refine qT rfl rfl (fun wq hS => R.bin rfl rfl (b32_add ((((stN ks (W bs) hh r).getD 7 0) + (((rot ((stN ks (W bs) hh r).getD 4 0) 6) ^^^ (rot ((stN ks (W bs) hh r).getD 4 0) 11)) ^^^ (rot ((stN ks (W bs) hh r).getD 4 0) 25))) + ((((stN ks (W bs) hh r).getD 4 0) &&& ((stN ks (W bs) hh r).getD 5 0)) ^^^ ((~~~((stN ks (W bs) hh r).getD 4 0)) &&& ((stN ks (W bs) hh r).getD 6 0)))) (ks.getD r 0))) ?_
    refine qT rfl rfl (fun wq hS => R.bin rfl rfl (b32_add (((((stN ks (W bs) hh r).getD 7 0) + (((rot ((stN ks (W bs) hh r).getD 4 0) 6) ^^^ (rot ((stN ks (W bs) hh r).getD 4 0) 11)) ^^^ (rot ((stN ks (W bs) hh r).getD 4 0) 25))) + ((((stN ks (W bs) hh r).getD 4 0) &&& ((stN ks (W bs) hh r).getD 5 0)) ^^^ ((~~~((stN ks (W bs) hh r).getD 4 0)) &&& ((stN ks (W bs) hh r).getD 6 0)))) + (ks.getD r 0)) ((W bs).getD r 0))) ?_
    refine qT rfl rfl (fun wq hS => R.assign (v := (vu32 ((((((stN ks (W bs) hh r).getD 7 0) + (((rot ((stN ks (W bs) hh r).getD 4 0) 6) ^^^ (rot ((stN ks (W bs) hh r).getD 4 0) 11)) ^^^ (rot ((stN ks (W bs) hh r).getD 4 0) 25))) + ((((stN ks (W bs) hh r).getD 4 0) &&& ((stN ks (W bs) hh r).getD 5 0)) ^^^ ((~~~((stN ks (W bs) hh r).getD 4 0)) &&& ((stN ks (W bs) hh r).getD 6 0)))) + (ks.getD r 0)) + ((W bs).getD r 0)))) rfl) ?_
    refine WT.nil (thn_n (WP.seq (WP.reg ?_)))
    refine qM (vu32 ((stN ks (W bs) hh r).getD 0 0)) rfl rfl ?_
    refine WL.call Try.call141 rfl rfl (c_ror2 ((stN ks (W bs) hh r).getD 0 0) _ ) rfl ?_
    rintro _ w_141 ⟨rfl, hc_140⟩
    have h_142 := h_139.same hc_140
    refine qM (vu32 ((stN ks (W bs) hh r).getD 0 0)) rfl rfl ?_
    refine WL.call Try.call141 rfl rfl (c_ror13 ((stN ks (W bs) hh r).getD 0 0) _ ) rfl ?_
    rintro _ w_144 ⟨rfl, hc_143⟩
    have h_145 := h_142.same hc_143
    refine qV rfl (R.bin rfl rfl (b32_xor (rot ((stN ks (W bs) hh r).getD 0 0) 2) (rot ((stN ks (W bs) hh r).getD 0 0) 13))) (qM (vu32 ((stN ks (W bs) hh r).getD 0 0)) rfl rfl ?_)
    refine WL.call Try.call141 rfl rfl (c_ror22 ((stN ks (W bs) hh r).getD 0 0) _ ) rfl ?_
    rintro _ w_147 ⟨rfl, hc_146⟩
    have h_148 := h_145.same hc_146
    refine qV rfl (R.bin rfl rfl (b32_xor ((rot ((stN ks (W bs) hh r).getD 0 0) 2) ^^^ (rot ((stN ks (W bs) hh r).getD 0 0) 13)) (rot ((stN ks (W bs) hh r).getD 0 0) 22))) (qM (vu32 ((stN ks (W bs) hh r).getD 0 0)) rfl rfl (qM (vu32 ((stN ks (W bs) hh r).getD 1 0)) rfl rfl (qV rfl (R.bin rfl rfl (b32_and ((stN ks (W bs) hh r).getD 0 0) ((stN ks (W bs) hh r).getD 1 0))) (qM (vu32 ((stN ks (W bs) hh r).getD 0 0)) rfl rfl (qM (vu32 ((stN ks (W bs) hh r).getD 2 0)) rfl rfl (qV rfl (R.bin rfl rfl (b32_and ((stN ks (W bs) hh r).getD 0 0) ((stN ks (W bs) hh r).getD 2 0))) (qV rfl (R.bin rfl rfl (b32_xor (((stN ks (W bs) hh r).getD 0 0) &&& ((stN ks (W bs) hh r).getD 1 0)) (((stN ks (W bs) hh r).getD 0 0) &&& ((stN ks (W bs) hh r).getD 2 0)))) (qM (vu32 ((stN ks (W bs) hh r).getD 1 0)) rfl rfl (qM (vu32 ((stN ks (W bs) hh r).getD 2 0)) rfl rfl (qV rfl (R.bin rfl rfl (b32_and ((stN ks (W bs) hh r).getD 1 0) ((stN ks (W bs) hh r).getD 2 0))) (qV rfl (R.bin rfl rfl (b32_xor ((((stN ks (W bs) hh r).getD 0 0) &&& ((stN ks (W bs) hh r).getD 1 0)) ^^^ (((stN ks (W bs) hh r).getD 0 0) &&& ((stN ks (W bs) hh r).getD 2 0))) (((stN ks (W bs) hh r).getD 1 0) &&& ((stN ks (W bs) hh r).getD 2 0)))) ?_)))))))))))
    refine qV rfl (R.bin rfl rfl (b32_add (((rot ((stN ks (W bs) hh r).getD 0 0) 2) ^^^ (rot ((stN ks (W bs) hh r).getD 0 0) 13)) ^^^ (rot ((stN ks (W bs) hh r).getD 0 0) 22)) (((((stN ks (W bs) hh r).getD 0 0) &&& ((stN ks (W bs) hh r).getD 1 0)) ^^^ (((stN ks (W bs) hh r).getD 0 0) &&& ((stN ks (W bs) hh r).getD 2 0))) ^^^ (((stN ks (W bs) hh r).getD 1 0) &&& ((stN ks (W bs) hh r).getD 2 0))))) (qA (vu32 ((((rot ((stN ks (W bs) hh r).getD 0 0) 2) ^^^ (rot ((stN ks (W bs) hh r).getD 0 0) 13)) ^^^ (rot ((stN ks (W bs) hh r).getD 0 0) 22)) + (((((stN ks (W bs) hh r).getD 0 0) &&& ((stN ks (W bs) hh r).getD 1 0)) ^^^ (((stN ks (W bs) hh r).getD 0 0) &&& ((stN ks (W bs) hh r).getD 2 0))) ^^^ (((stN ks (W bs) hh r).getD 1 0) &&& ((stN ks (W bs) hh r).getD 2 0))))) rfl rfl ?_)
    refine WL.nil (thn_n (WP.reg ?_))
    refine qM (vu32 ((((((stN ks (W bs) hh r).getD 7 0) + (((rot ((stN ks (W bs) hh r).getD 4 0) 6) ^^^ (rot ((stN ks (W bs) hh r).getD 4 0) 11)) ^^^ (rot ((stN ks (W bs) hh r).getD 4 0) 25))) + ((((stN ks (W bs) hh r).getD 4 0) &&& ((stN ks (W bs) hh r).getD 5 0)) ^^^ ((~~~((stN ks (W bs) hh r).getD 4 0)) &&& ((stN ks (W bs) hh r).getD 6 0)))) + (ks.getD r 0)) + ((W bs).getD r 0))) rfl rfl (qM (vu32 ((((rot ((stN ks (W bs) hh r).getD 0 0) 2) ^^^ (rot ((stN ks (W bs) hh r).getD 0 0) 13)) ^^^ (rot ((stN ks (W bs) hh r).getD 0 0) 22)) + (((((stN ks (W bs) hh r).getD 0 0) &&& ((stN ks (W bs) hh r).getD 1 0)) ^^^ (((stN ks (W bs) hh r).getD 0 0) &&& ((stN ks (W bs) hh r).getD 2 0))) ^^^ (((stN ks (W bs) hh r).getD 1 0) &&& ((stN ks (W bs) hh r).getD 2 0))))) rfl rfl (qV rfl (R.bin rfl rfl (b32_add ((((((stN ks (W bs) hh r).getD 7 0) + (((rot ((stN ks (W bs) hh r).getD 4 0) 6) ^^^ (rot ((stN ks (W bs) hh r).getD 4 0) 11)) ^^^ (rot ((stN ks (W bs) hh r).getD 4 0) 25))) + ((((stN ks (W bs) hh r).getD 4 0) &&& ((stN ks (W bs) hh r).getD 5 0)) ^^^ ((~~~((stN ks (W bs) hh r).getD 4 0)) &&& ((stN ks (W bs) hh r).getD 6 0)))) + (ks.getD r 0)) + ((W bs).getD r 0)) ((((rot ((stN ks (W bs) hh r).getD 0 0) 2) ^^^ (rot ((stN ks (W bs) hh r).getD 0 0) 13)) ^^^ (rot ((stN ks (W bs) hh r).getD 0 0) 22)) + (((((stN ks (W bs) hh r).getD 0 0) &&& ((stN ks (W bs) hh r).getD 1 0)) ^^^ (((stN ks (W bs) hh r).getD 0 0) &&& ((stN ks (W bs) hh r).getD 2 0))) ^^^ (((stN ks (W bs) hh r).getD 1 0) &&& ((stN ks (W bs) hh r).getD 2 0)))))) (qM (vu32 ((stN ks (W bs) hh r).getD 0 0)) rfl rfl (qM (vu32 ((stN ks (W bs) hh r).getD 1 0)) rfl rfl (qM (vu32 ((stN ks (W bs) hh r).getD 2 0)) rfl rfl (qV rfl (R.indexA (b := b_113) (off := 0) (off' := 3) (i := 3) rfl rfl rfl (by decide) Try.underlying172 Try.sizeOf170 rfl) (qV rfl (R.loadE (b := b_113) (off := 3) (i := 3) (v := (vu32 ((stN ks (W bs) hh r).getD 3 0))) rfl Try.isAgg170 (h_148.ok _ M0) Sg.h rfl (get_u32 (lt_len (K := 8) (stN_len hhl r) (by decide)))) (qM (vu32 ((((((stN ks (W bs) hh r).getD 7 0) + (((rot ((stN ks (W bs) hh r).getD 4 0) 6) ^^^ (rot ((stN ks (W bs) hh r).getD 4 0) 11)) ^^^ (rot ((stN ks (W bs) hh r).getD 4 0) 25))) + ((((stN ks (W bs) hh r).getD 4 0) &&& ((stN ks (W bs) hh r).getD 5 0)) ^^^ ((~~~((stN ks (W bs) hh r).getD 4 0)) &&& ((stN ks (W bs) hh r).getD 6 0)))) + (ks.getD r 0)) + ((W bs).getD r 0))) rfl rfl (qV rfl (R.bin rfl rfl (b32_add ((stN ks (W bs) hh r).getD 3 0) ((((((stN ks (W bs) hh r).getD 7 0) + (((rot ((stN ks (W bs) hh r).getD 4 0) 6) ^^^ (rot ((stN ks (W bs) hh r).getD 4 0) 11)) ^^^ (rot ((stN ks (W bs) hh r).getD 4 0) 25))) + ((((stN ks (W bs) hh r).getD 4 0) &&& ((stN ks (W bs) hh r).getD 5 0)) ^^^ ((~~~((stN ks (W bs) hh r).getD 4 0)) &&& ((stN ks (W bs) hh r).getD 6 0)))) + (ks.getD r 0)) + ((W bs).getD r 0)))) (qM (vu32 ((stN ks (W bs) hh r).getD 4 0)) rfl rfl (qM (vu32 ((stN ks (W bs) hh r).getD 5 0)) rfl rfl ?_)))))))))))
    refine qM (vu32 ((stN ks (W bs) hh r).getD 6 0)) rfl rfl (qV rfl (R.buildA (vs := [(0, (vu32 (((((((stN ks (W bs) hh r).getD 7 0) + (((rot ((stN ks (W bs) hh r).getD 4 0) 6) ^^^ (rot ((stN ks (W bs) hh r).getD 4 0) 11)) ^^^ (rot ((stN ks (W bs) hh r).getD 4 0) 25))) + ((((stN ks (W bs) hh r).getD 4 0) &&& ((stN ks (W bs) hh r).getD 5 0)) ^^^ ((~~~((stN ks (W bs) hh r).getD 4 0)) &&& ((stN ks (W bs) hh r).getD 6 0)))) + (ks.getD r 0)) + ((W bs).getD r 0)) + ((((rot ((stN ks (W bs) hh r).getD 0 0) 2) ^^^ (rot ((stN ks (W bs) hh r).getD 0 0) 13)) ^^^ (rot ((stN ks (W bs) hh r).getD 0 0) 22)) + (((((stN ks (W bs) hh r).getD 0 0) &&& ((stN ks (W bs) hh r).getD 1 0)) ^^^ (((stN ks (W bs) hh r).getD 0 0) &&& ((stN ks (W bs) hh r).getD 2 0))) ^^^ (((stN ks (W bs) hh r).getD 1 0) &&& ((stN ks (W bs) hh r).getD 2 0))))))), (1, (vu32 ((stN ks (W bs) hh r).getD 0 0))), (2, (vu32 ((stN ks (W bs) hh r).getD 1 0))), (3, (vu32 ((stN ks (W bs) hh r).getD 2 0))), (4, (vu32 (((stN ks (W bs) hh r).getD 3 0) + ((((((stN ks (W bs) hh r).getD 7 0) + (((rot ((stN ks (W bs) hh r).getD 4 0) 6) ^^^ (rot ((stN ks (W bs) hh r).getD 4 0) 11)) ^^^ (rot ((stN ks (W bs) hh r).getD 4 0) 25))) + ((((stN ks (W bs) hh r).getD 4 0) &&& ((stN ks (W bs) hh r).getD 5 0)) ^^^ ((~~~((stN ks (W bs) hh r).getD 4 0)) &&& ((stN ks (W bs) hh r).getD 6 0)))) + (ks.getD r 0)) + ((W bs).getD r 0))))), (5, (vu32 ((stN ks (W bs) hh r).getD 4 0))), (6, (vu32 ((stN ks (W bs) hh r).getD 5 0))), (7, (vu32 ((stN ks (W bs) hh r).getD 6 0)))]) (cs := ([((((((stN ks (W bs) hh r).getD 7 0) + (((rot ((stN ks (W bs) hh r).getD 4 0) 6) ^^^ (rot ((stN ks (W bs) hh r).getD 4 0) 11)) ^^^ (rot ((stN ks (W bs) hh r).getD 4 0) 25))) + ((((stN ks (W bs) hh r).getD 4 0) &&& ((stN ks (W bs) hh r).getD 5 0)) ^^^ ((~~~((stN ks (W bs) hh r).getD 4 0)) &&& ((stN ks (W bs) hh r).getD 6 0)))) + (ks.getD r 0)) + ((W bs).getD r 0)) + ((((rot ((stN ks (W bs) hh r).getD 0 0) 2) ^^^ (rot ((stN ks (W bs) hh r).getD 0 0) 13)) ^^^ (rot ((stN ks (W bs) hh r).getD 0 0) 22)) + (((((stN ks (W bs) hh r).getD 0 0) &&& ((stN ks (W bs) hh r).getD 1 0)) ^^^ (((stN ks (W bs) hh r).getD 0 0) &&& ((stN ks (W bs) hh r).getD 2 0))) ^^^ (((stN ks (W bs) hh r).getD 1 0) &&& ((stN ks (W bs) hh r).getD 2 0)))), (stN ks (W bs) hh r).getD 0 0, (stN ks (W bs) hh r).getD 1 0, (stN ks (W bs) hh r).getD 2 0, ((stN ks (W bs) hh r).getD 3 0) + ((((((stN ks (W bs) hh r).getD 7 0) + (((rot ((stN ks (W bs) hh r).getD 4 0) 6) ^^^ (rot ((stN ks (W bs) hh r).getD 4 0) 11)) ^^^ (rot ((stN ks (W bs) hh r).getD 4 0) 25))) + ((((stN ks (W bs) hh r).getD 4 0) &&& ((stN ks (W bs) hh r).getD 5 0)) ^^^ ((~~~((stN ks (W bs) hh r).getD 4 0)) &&& ((stN ks (W bs) hh r).getD 6 0)))) + (ks.getD r 0)) + ((W bs).getD r 0)), (stN ks (W bs) hh r).getD 4 0, (stN ks (W bs) hh r).getD 5 0, (stN ks (W bs) hh r).getD 6 0] : List UInt32).map vu32) Try.underlying172 Try.sizeOf170 (zv Try.typeInfo172 rfl) rfl (fill8 rfl _ _ _ _ _ _ _ _)) ?_)
    refine WL.storeA (b := b_113) (off := 0) [] [(8, (stN ks (W bs) hh r).map vu32)] [(8, ([((((((stN ks (W bs) hh r).getD 7 0) + (((rot ((stN ks (W bs) hh r).getD 4 0) 6) ^^^ (rot ((stN ks (W bs) hh r).getD 4 0) 11)) ^^^ (rot ((stN ks (W bs) hh r).getD 4 0) 25))) + ((((stN ks (W bs) hh r).getD 4 0) &&& ((stN ks (W bs) hh r).getD 5 0)) ^^^ ((~~~((stN ks (W bs) hh r).getD 4 0)) &&& ((stN ks (W bs) hh r).getD 6 0)))) + (ks.getD r 0)) + ((W bs).getD r 0)) + ((((rot ((stN ks (W bs) hh r).getD 0 0) 2) ^^^ (rot ((stN ks (W bs) hh r).getD 0 0) 13)) ^^^ (rot ((stN ks (W bs) hh r).getD 0 0) 22)) + (((((stN ks (W bs) hh r).getD 0 0) &&& ((stN ks (W bs) hh r).getD 1 0)) ^^^ (((stN ks (W bs) hh r).getD 0 0) &&& ((stN ks (W bs) hh r).getD 2 0))) ^^^ (((stN ks (W bs) hh r).getD 1 0) &&& ((stN ks (W bs) hh r).getD 2 0)))), (stN ks (W bs) hh r).getD 0 0, (stN ks (W bs) hh r).getD 1 0, (stN ks (W bs) hh r).getD 2 0, ((stN ks (W bs) hh r).getD 3 0) + ((((((stN ks (W bs) hh r).getD 7 0) + (((rot ((stN ks (W bs) hh r).getD 4 0) 6) ^^^ (rot ((stN ks (W bs) hh r).getD 4 0) 11)) ^^^ (rot ((stN ks (W bs) hh r).getD 4 0) 25))) + ((((stN ks (W bs) hh r).getD 4 0) &&& ((stN ks (W bs) hh r).getD 5 0)) ^^^ ((~~~((stN ks (W bs) hh r).getD 4 0)) &&& ((stN ks (W bs) hh r).getD 6 0)))) + (ks.getD r 0)) + ((W bs).getD r 0)), (stN ks (W bs) hh r).getD 4 0, (stN ks (W bs) hh r).getD 5 0, (stN ks (W bs) hh r).getD 6 0] : List UInt32).map vu32)] [] (ys := ([((((((stN ks (W bs) hh r).getD 7 0) + (((rot ((stN ks (W bs) hh r).getD 4 0) 6) ^^^ (rot ((stN ks (W bs) hh r).getD 4 0) 11)) ^^^ (rot ((stN ks (W bs) hh r).getD 4 0) 25))) + ((((stN ks (W bs) hh r).getD 4 0) &&& ((stN ks (W bs) hh r).getD 5 0)) ^^^ ((~~~((stN ks (W bs) hh r).getD 4 0)) &&& ((stN ks (W bs) hh r).getD 6 0)))) + (ks.getD r 0)) + ((W bs).getD r 0)) + ((((rot ((stN ks (W bs) hh r).getD 0 0) 2) ^^^ (rot ((stN ks (W bs) hh r).getD 0 0) 13)) ^^^ (rot ((stN ks (W bs) hh r).getD 0 0) 22)) + (((((stN ks (W bs) hh r).getD 0 0) &&& ((stN ks (W bs) hh r).getD 1 0)) ^^^ (((stN ks (W bs) hh r).getD 0 0) &&& ((stN ks (W bs) hh r).getD 2 0))) ^^^ (((stN ks (W bs) hh r).getD 1 0) &&& ((stN ks (W bs) hh r).getD 2 0)))), (stN ks (W bs) hh r).getD 0 0, (stN ks (W bs) hh r).getD 1 0, (stN ks (W bs) hh r).getD 2 0, ((stN ks (W bs) hh r).getD 3 0) + ((((((stN ks (W bs) hh r).getD 7 0) + (((rot ((stN ks (W bs) hh r).getD 4 0) 6) ^^^ (rot ((stN ks (W bs) hh r).getD 4 0) 11)) ^^^ (rot ((stN ks (W bs) hh r).getD 4 0) 25))) + ((((stN ks (W bs) hh r).getD 4 0) &&& ((stN ks (W bs) hh r).getD 5 0)) ^^^ ((~~~((stN ks (W bs) hh r).getD 4 0)) &&& ((stN ks (W bs) hh r).getD 6 0)))) + (ks.getD r 0)) + ((W bs).getD r 0)), (stN ks (W bs) hh r).getD 4 0, (stN ks (W bs) hh r).getD 5 0, (stN ks (W bs) hh r).getD 6 0] : List UInt32).map vu32) h_148 rfl rfl Try.sizeOf172 At.h (by decide) rfl rfl rfl rfl rfl rfl (SsOk.cons (SOk.u32 (rfl : List.length ([((((((stN ks (W bs) hh r).getD 7 0) + (((rot ((stN ks (W bs) hh r).getD 4 0) 6) ^^^ (rot ((stN ks (W bs) hh r).getD 4 0) 11)) ^^^ (rot ((stN ks (W bs) hh r).getD 4 0) 25))) + ((((stN ks (W bs) hh r).getD 4 0) &&& ((stN ks (W bs) hh r).getD 5 0)) ^^^ ((~~~((stN ks (W bs) hh r).getD 4 0)) &&& ((stN ks (W bs) hh r).getD 6 0)))) + (ks.getD r 0)) + ((W bs).getD r 0)) + ((((rot ((stN ks (W bs) hh r).getD 0 0) 2) ^^^ (rot ((stN ks (W bs) hh r).getD 0 0) 13)) ^^^ (rot ((stN ks (W bs) hh r).getD 0 0) 22)) + (((((stN ks (W bs) hh r).getD 0 0) &&& ((stN ks (W bs) hh r).getD 1 0)) ^^^ (((stN ks (W bs) hh r).getD 0 0) &&& ((stN ks (W bs) hh r).getD 2 0))) ^^^ (((stN ks (W bs) hh r).getD 1 0) &&& ((stN ks (W bs) hh r).getD 2 0)))), (stN ks (W bs) hh r).getD 0 0, (stN ks (W bs) hh r).getD 1 0, (stN ks (W bs) hh r).getD 2 0, ((stN ks (W bs) hh r).getD 3 0) + ((((((stN ks (W bs) hh r).getD 7 0) + (((rot ((stN ks (W bs) hh r).getD 4 0) 6) ^^^ (rot ((stN ks (W bs) hh r).getD 4 0) 11)) ^^^ (rot ((stN ks (W bs) hh r).getD 4 0) 25))) + ((((stN ks (W bs) hh r).getD 4 0) &&& ((stN ks (W bs) hh r).getD 5 0)) ^^^ ((~~~((stN ks (W bs) hh r).getD 4 0)) &&& ((stN ks (W bs) hh r).getD 6 0)))) + (ks.getD r 0)) + ((W bs).getD r 0)), (stN ks (W bs) hh r).getD 4 0, (stN ks (W bs) hh r).getD 5 0, (stN ks (W bs) hh r).getD 6 0] : List UInt32) = 8)) SsOk.nil) (fun w_149 h_150 => ?_)
    refine WL.nil (inb_n (thn_n (WP.reg ?_)))
    refine qM (vn r) rfl rfl (qV rfl (R.bin rfl rfl (bi_add (c := ((r + 1 : Nat) : Int)) (by omega) (by omega))) (qA (vn (r + 1)) rfl rfl ?_))
    refine WL.nil (thn_n ?_)
    have h_156 := (((((h_150.up J5).up J5).up J5).up J5).up J5).up J5
    have h_157 : HP w w_149 [.blk b_113 .nw 172 [(8, (stN ks (W bs) hh (r + 1)).map vu32)], .row ra2 64 rc2 170 1 ((W bs).map vu32), .blk b_7 .nw 172 [(8, (List.replicate 8 (0 : UInt32)).map vu32)], .blk b_4 .nw 163 [(64, bs.map vu8)], .blk b_1 .nw 172 [(8, hh.map vu32)], .view ak (ks.map vu32)] := h_156
    exact ⟨r + 1, _, (by omega), (Ag.upd rfl (U4 rfl rfl rfl rfl (U4 rfl rfl rfl rfl (U4 rfl rfl rfl rfl (U4 rfl rfl rfl rfl (U4 rfl rfl rfl rfl (U4 rfl rfl rfl rfl (U4 rfl rfl rfl rfl (U4 rfl rfl rfl rfl (U4 rfl rfl rfl rfl (U4 rfl rfl rfl rfl (U4 rfl rfl rfl rfl (U4 rfl rfl rfl rfl (U4 rfl rfl rfl rfl (U4 rfl rfl rfl rfl (U4 rfl rfl rfl rfl (U4 rfl rfl rfl rfl (U4 rfl rfl rfl rfl (U4 rfl rfl rfl rfl (U4 rfl rfl rfl rfl (U4 rfl rfl rfl rfl (U4 rfl rfl rfl rfl (U4 rfl rfl rfl rfl (Ag.updL rfl (Ag.mix _ _ _))))))))))))))))))))))))), ⟨rfl, trivial⟩, h_157, (by omega), rfl⟩
   ·have p_158 := of_decide_eq_false c_123
    refine WP.exit (thn_x (thn_x (inb_hit (thn_n (WP.seq (WP.seq (WP.reg ?_)))))))
    refine qA (vi 0) rfl rfl ?_
    refine WL.nil (thn_n (WP.block ?_))
    have hr64 : r = 64 := by omega
    subst hr64
    refine WP.loopG (G := Nat) [24, 190, 191, 192, 193, 194, 195, 196, 197, 198, 199, 200, 201, 202] (fun q => [(24, (vn q))]) (fun q m w1 => HP w w1 [.blk b_113 .nw 172 [(8, (mix (pressL ks hh bs) (stN ks (W bs) hh 64) q).map vu32)], .row ra2 64 rc2 170 1 ((W bs).map vu32), .blk b_7 .nw 172 [(8, (List.replicate 8 (0 : UInt32)).map vu32)], .blk b_4 .nw 163 [(64, bs.map vu8)], .blk b_1 .nw 172 [(8, hh.map vu32)], .view ak (ks.map vu32)] ∧ (q ≤ 8) ∧ m = 8 - q) ⟨0, _, ⟨rfl, trivial⟩, (by rw [mix_0]; exact h_120), (by omega), rfl⟩ ?_
    rintro q m_161 J_162 w_159 ⟨h_160, hq, rfl⟩
    refine WP.seq (WP.seq (WP.reg ?_))
    refine qM (vn q) rfl rfl (qV rfl (R.bin rfl rfl (bi_lss (r := decide ((((q : Nat) : Int) : Int) < 8)) rfl)) ?_)
    refine WL.nil (thn_n ?_)
    refine WP.cond (b := decide ((((q : Nat) : Int) : Int) < 8)) rfl (fun c_163 => ?_) (fun c_163 => ?_)
    ·have p_164 := of_decide_eq_true c_163
     refine WP.skip (thn_n (WP.seq (WP.block ?_)))
     refine WP.drawZ 9 (SL w.heap.size [.blk b_113 .nw 172 [(8, (mix (pressL ks hh bs) (stN ks (W bs) hh 64) q).map vu32)], .row ra2 64 rc2 170 1 ((W bs).map vu32), .blk b_7 .nw 172 [(8, (List.replicate 8 (0 : UInt32)).map vu32)], .blk b_4 .nw 163 [(64, bs.map vu8)], .blk b_1 .nw 172 [(8, hh.map vu32)], .view ak (ks.map vu32)]) (.q 0 (.q 1 (.q 2 (.q 3 (.q 4 (.q 5 (.q 6 (.q 7 (.q 8 (.s 9 .nil)))))))))) (by kernel_rfl) (by kernel_rfl) rfl (by kernel_rfl) (fun w_165 hc_167 => (SL.cons ((h_160.same hc_167).ok _ M0) (SL.cons ((h_160.same hc_167).ok _ M1) (SL.cons ((h_160.same hc_167).ok _ M2) (SL.cons ((h_160.same hc_167).ok _ M3) (SL.cons ((h_160.same hc_167).ok _ M4) (SL.cons ((h_160.same hc_167).ok _ M5) (SL.nil _ _)))))))) (fun w_165 hc_167 => ?_)
     have h_166 := h_160.same hc_167
     refine ZT.q rfl (Wn.no rfl) rfl rfl (fun wq hS => R.move (v := (vn q)) rfl) ?_
     refine ZT.q rfl (Wn.no rfl) rfl rfl (fun wq hS => R.move (v := (vn q)) rfl) ?_
     refine ZT.q rfl (Wn.no rfl) rfl rfl (fun wq hS => R.indexA (b := b_113) (off := 0) (off' := (0 + q)) (i := q) rfl rfl rfl (by omega) Try.underlying172 Try.sizeOf170 (by rw [Nat.mul_one])) ?_
     refine ZT.q rfl (Wn.no rfl) rfl rfl (fun wq hS => R.loadE (b := b_113) (off := (0 + q)) (i := q) (v := (vu32 ((mix (pressL ks hh bs) (stN ks (W bs) hh 64) q).getD q 0))) rfl Try.isAgg170 (hS _ M0) Sg.h rfl (get_u32 (lt_len (K := 8) (mix_len (pressL_len ..) (stN_len hhl 64)) (by omega)))) ?_
     refine ZT.q rfl (Wn.no rfl) rfl rfl (fun wq hS => R.move (v := (vn q)) rfl) ?_
     refine ZT.q rfl (Wn.no rfl) rfl rfl (fun wq hS => R.indexA (b := b_1) (off := 0) (off' := (0 + q)) (i := q) rfl rfl rfl (by omega) Try.underlying172 Try.sizeOf170 (by rw [Nat.mul_one])) ?_
     refine ZT.q rfl (Wn.no rfl) rfl rfl (fun wq hS => R.loadE (b := b_1) (off := (0 + q)) (i := q) (v := (vu32 (hh.getD q 0))) rfl Try.isAgg170 (hS _ M4) Sg.h rfl (get_u32 (lt_len (K := 8) hhl (by omega)))) ?_
     refine ZT.q rfl (Wn.no rfl) rfl rfl (fun wq hS => R.bin rfl rfl (b32_add ((mix (pressL ks hh bs) (stN ks (W bs) hh 64) q).getD q 0) (hh.getD q 0))) ?_
     refine ZT.q rfl (Wn.no rfl) rfl rfl (fun wq hS => R.indexA (b := b_113) (off := 0) (off' := (0 + q)) (i := q) rfl rfl rfl (by omega) Try.underlying172 Try.sizeOf170 (by rw [Nat.mul_one])) ?_
     refine ZT.s ?_
     refine OpZ.last rfl (Wn.no rfl) ?_
     refine WL.storeE (b := b_113) (off := (0 + q)) (i := q) (v := (vu32 (((mix (pressL ks hh bs) (stN ks (W bs) hh 64) q).getD q 0) + (hh.getD q 0)))) (cs' := ((mix (pressL ks hh bs) (stN ks (W bs) hh 64) q).set q (((mix (pressL ks hh bs) (stN ks (W bs) hh 64) q).getD q 0) + (hh.getD q 0))).map vu32) h_166 rfl rfl Try.sizeOf170 rfl At.h (by decide) Sg.h rfl (lt_len (K := 8) (len_map (mix_len (pressL_len ..) (stN_len hhl 64))) (by omega)) (set_u32 _ _ _) (fun w_168 h_169 => ?_)
     refine WL.nil (ZT.nil (inb_n (thn_n (WP.reg ?_))))
     refine qM (vn q) rfl rfl (qV rfl (R.bin rfl rfl (bi_add (c := ((q + 1 : Nat) : Int)) (by omega) (by omega))) (qA (vn (q + 1)) rfl rfl ?_))
     refine WL.nil (thn_n ?_)
     have h_175 := (((((h_169.up J5).up J5).up J5).up J5).up J5).up J5
     rw [pr_stepR hhl (by omega)] at h_175
     exact ⟨q + 1, _, (by omega), (U2 rfl rfl (U4 rfl rfl rfl rfl (U4 rfl rfl rfl rfl (U4 rfl rfl rfl rfl (Ag.updL rfl (Ag.mix _ _ _)))))), ⟨rfl, trivial⟩, h_175, (by omega), rfl⟩
    ·have p_176 := of_decide_eq_false c_163
     refine WP.exit (thn_x (thn_x (inb_hit (thn_n (WP.seq (WP.reg ?_))))))
     refine qV rfl (R.loadA (b := b_113) (off := 0) [] [(8, (mix (pressL ks hh bs) (stN ks (W bs) hh 64) q).map vu32)] [] (cs := (mix (pressL ks hh bs) (stN ks (W bs) hh 64) q).map vu32) rfl Try.isAgg172 Try.sizeOf172 (h_160.ok _ M0) rfl rfl rfl rfl) ?_
     refine WL.storeA (b := b_7) (off := 0) [] [(8, (List.replicate 8 (0 : UInt32)).map vu32)] [(8, (mix (pressL ks hh bs) (stN ks (W bs) hh 64) q).map vu32)] [] (ys := (mix (pressL ks hh bs) (stN ks (W bs) hh 64) q).map vu32) h_160 rfl rfl Try.sizeOf172 Y2 (by decide) rfl rfl rfl rfl rfl rfl (SsOk.cons (SOk.u32 (mix_len (pressL_len ..) (stN_len hhl 64))) SsOk.nil) (fun w_177 h_178 => ?_)
     refine WL.nil (thn_n (WP.ret ?_))
     refine ret_of Try.results128 (RV.cell rfl (h_178.loadA (cs := (mix (pressL ks hh bs) (stN ks (W bs) hh 64) q).map vu32) Try.isAgg172 Try.sizeOf172 M2 rfl rfl) RV.nil) ?_
     have hq8 : q = 8 := by omega
     subst hq8
     exact ⟨by rw [pr_all (stN_len hhl 64)]; rfl, h_178.chgS⟩
end Go.Proofs.Ytnhppjimimhlkaa

namespace Go.Proofs.Ytnhppjimimhlkaa
open Go.Vc Go.Sh Go.RowKit
set_option maxRecDepth 20000

theorem c_SumR (a : Option Addr) (n cap : Nat) (bs : List UInt8) (hl : bs.length = n) (hn : n ≤ 1000000000000) (w : World) (hv : View w a (bs.map vu8)) :
  Cs Try.prog 115 [(.slice a n cap)].toArray w (fun v w1 => v = (.agg ⟨(sumL bs).map vu8⟩) ∧ Chg w w1 []) := by
 refine Cs.of (n := 57) (args := [(.slice a n cap)]) Try.func115 rfl rfl rfl ?_
 have h_0 := HP.init w
 have h_00 := h_0.old (View.arg hv) (fun f hf => by cases hf)
 refine WP.seq (WP.reg ?_)
 refine WL.alloc (segs := [(32, (List.replicate 32 (0 : UInt8)).map vu8)]) h_00 (zv Try.typeInfo23 rfl) rfl (SsOk.cons (SOk.u8 lr) SsOk.nil) rfl (fun b_1 w_2 h_3 => ?_)
 refine WL.nil (thn_n (WP.seq (WP.reg ?_)))
 refine WL.alloc (segs := [(8, (List.replicate 8 (0 : UInt32)).map vu32)]) h_3 (zv Try.typeInfo172 rfl) rfl (SsOk.cons (SOk.u32 lr) SsOk.nil) rfl (fun b_4 w_5 h_6 => ?_)
 refine WL.nil (thn_n (WP.seq (WP.seq (WP.reg ?_))))
 refine qA (vi 0) rfl rfl ?_
 refine WL.nil (thn_n (WP.block ?_))
 refine WP.loopG (G := Nat) [4, 11, 12, 13, 14, 15, 16, 17, 18] (fun i => [(4, (vn i))]) (fun i m w1 => HP w w1 [.blk b_4 .nw 172 [(8, (mix hL (List.replicate 8 0) i).map vu32)], .blk b_1 .nw 23 [(32, (List.replicate 32 (0 : UInt8)).map vu8)], .view a (bs.map vu8)] ∧ (i ≤ 8) ∧ m = 8 - i) ⟨0, _, ⟨rfl, trivial⟩, (by rw [mix_0]; exact h_6), (by omega), rfl⟩ ?_
 rintro i m_9 J_10 w_7 ⟨h_8, hi, rfl⟩
 refine WP.seq (WP.seq (WP.reg ?_))
 refine qM (vn i) rfl rfl (qV rfl (R.bin rfl rfl (bi_lss (r := decide ((((i : Nat) : Int) : Int) < 8)) rfl)) ?_)
 refine WL.nil (thn_n ?_)
 refine WP.cond (b := decide ((((i : Nat) : Int) : Int) < 8)) rfl (fun c_11 => ?_) (fun c_11 => ?_)
 ·have p_12 := of_decide_eq_true c_11
  refine WP.skip (thn_n (WP.seq (WP.block (WP.reg ?_))))
  refine qM (vn i) rfl rfl (qM (vn i) rfl rfl ?_)
  refine WL.call Try.call125 rfl rfl (c_StartR ((i : Nat) : Int) _ ) rfl ?_
  rintro _ w_14 ⟨rfl, hc_13⟩
  have h_15 := h_8.same hc_13
  refine qV rfl (R.indexA (b := b_4) (off := 0) (off' := (0 + i)) (i := i) rfl rfl rfl (by omega) Try.underlying172 Try.sizeOf170 (by rw [Nat.mul_one])) ?_
  refine WL.storeE (b := b_4) (off := (0 + i)) (i := i) (v := (vu32 (hAt ((i : Nat) : Int)))) (cs' := ((mix hL (List.replicate 8 0) i).set i (hAt ((i : Nat) : Int))).map vu32) h_15 rfl rfl Try.sizeOf170 rfl At.h (by decide) Sg.h rfl (lt_len (K := 8) (len_map (mix_len hL_len lr)) (by omega)) (set_u32 _ _ _) (fun w_16 h_17 => ?_)
  refine WL.nil (inb_n (thn_n (WP.reg ?_)))
  refine qM (vn i) rfl rfl (qV rfl (R.bin rfl rfl (bi_add (c := ((i + 1 : Nat) : Int)) (by omega) (by omega))) (qA (vn (i + 1)) rfl rfl ?_))
  refine WL.nil (thn_n ?_)
  have h_20 := ((h_17.up J2).up J2).up J2
  rw [h_set (by omega)] at h_20
  exact ⟨i + 1, _, (by omega), (Ag.upd rfl (U4 rfl rfl rfl rfl (U4 rfl rfl rfl rfl (Ag.updL rfl (Ag.mix _ _ _))))), ⟨rfl, trivial⟩, h_20, (by omega), rfl⟩
 ·have p_21 := of_decide_eq_false c_11
  refine WP.exit (thn_x (thn_x (inb_hit (thn_n (WP.seq (WP.reg ?_))))))
  refine WL.call Try.call126 rfl rfl (c_ConstantsR _) rfl ?_
  rintro _ w_24 ⟨a_22, cap_23, rfl, hc_25, ho_26⟩
  have h_27 := h_8.gotRow hc_25 ho_26
  refine qA (.slice a_22 64 cap_23) rfl rfl ?_
  refine WL.nil (thn_n (WP.seq (WP.reg ?_)))
  refine qM (.slice a n cap) rfl rfl ?_
  refine WL.call Try.call127 rfl rfl (c_PadR a n cap bs hl (by omega) _ (viewV (h_27.ok _ M3))) rfl ?_
  rintro _ w_30 ⟨a_28, cap_29, rfl, hc_31, ho_32⟩
  have h_33 := h_27.gotRow hc_31 ho_32
  have hq_34 := ho_32.2.2.1
  refine qA (.slice a_28 ((padded bs).length) cap_29) rfl rfl ?_
  refine WL.nil (thn_n (WP.seq (WP.seq (WP.reg ?_))))
  refine qA (vi 0) rfl rfl ?_
  refine WL.nil (thn_n (WP.block ?_))
  have hi8 : i = 8 := by omega
  subst hi8
  have eh : mix hL (List.replicate 8 0) 8 = hL := mix_all hL_len lr (Nat.le_refl _)
  rw [eh] at h_33
  have hpl := padded_len bs
  have hp2 := padded_len2 bs
  rw [hl] at hp2
  refine WP.loopG (G := Nat) [7, 8, 22, 23, 24, 25, 26, 27, 28, 29, 30, 31, 32, 33, 34, 35, 36, 37, 38] (fun k => [(7, (vn (64 * k)))]) (fun k m w1 => HP w w1 [.row a_28 ((padded bs).length) cap_29 5 1 ((padded bs).map vu8), .row a_22 64 cap_23 170 1 (kL.map vu32), .blk b_4 .nw 172 [(8, (hs kL hL (padded bs) k).map vu32)], .blk b_1 .nw 23 [(32, (List.replicate 32 (0 : UInt8)).map vu8)], .view a (bs.map vu8)] ∧ (64 * k ≤ (padded bs).length) ∧ m = (padded bs).length - 64 * k) ⟨0, _, ⟨rfl, trivial⟩, h_33, (by omega), rfl⟩ ?_
  rintro k m_37 J_38 w_35 ⟨h_36, hk, rfl⟩
  refine WP.seq (WP.seq (WP.reg ?_))
  refine qM (vn (64 * k)) rfl rfl (qM (.slice a_28 ((padded bs).length) cap_29) rfl rfl (qV rfl (R.lenS (a := a_28) (m := (padded bs).length) rfl rfl Try.underlying37) (qV rfl (R.bin rfl rfl (bi_lss (r := decide ((((64 * k : Nat) : Int) : Int) < (((padded bs).length : Nat) : Int))) rfl)) ?_)))
  refine WL.nil (thn_n ?_)
  refine WP.cond (b := decide ((((64 * k : Nat) : Int) : Int) < (((padded bs).length : Nat) : Int))) rfl (fun c_39 => ?_) (fun c_39 => ?_)
  ·have p_40 := of_decide_eq_true c_39
   refine WP.skip (thn_n (WP.seq (WP.block (WP.seq (WP.reg ?_)))))
   refine WL.alloc (segs := [(64, (List.replicate 64 (0 : UInt8)).map vu8)]) h_36 (zv Try.typeInfo163 rfl) rfl (SsOk.cons (SOk.u8 lr) SsOk.nil) rfl (fun b_41 w_42 h_43 => ?_)
   refine WL.nil (thn_n (WP.seq ?_))
   refine WP.drawT (SL w.heap.size [.row a_28 ((padded bs).length) cap_29 5 1 ((padded bs).map vu8), .row a_22 64 cap_23 170 1 (kL.map vu32), .blk b_4 .nw 172 [(8, (hs kL hL (padded bs) k).map vu32)], .blk b_1 .nw 23 [(32, (List.replicate 32 (0 : UInt8)).map vu8)], .view a (bs.map vu8)]) (.q 0 (.q 1 (.q 2 (.q 3 (.q 4 (.q 5 (.s 6 .nil))))))) (by kernel_rfl) (by kernel_rfl) rfl (by kernel_rfl) (fun w_44 hc_46 => (SL.cons ((h_43.same hc_46).ok _ M1) (SL.cons ((h_43.same hc_46).ok _ M2) (SL.cons ((h_43.same hc_46).ok _ M3) (SL.cons ((h_43.same hc_46).ok _ M4) (SL.cons ((h_43.same hc_46).ok _ M5) (SL.nil _ _))))))) (fun w_44 hc_46 => ?_)
   have h_45 := h_43.same hc_46
   refine qT rfl rfl (fun wq hS => R.sliceA (b := b_41) (off := 0) (off' := 0) (l := 0) (h := 64) rfl EvB.dflt EvB.dflt (by decide) (by decide) Try.underlying163 Try.sizeOf5 rfl) ?_
   refine qT rfl rfl (fun wq hS => R.move (v := (.slice a_28 ((padded bs).length) cap_29)) rfl) ?_
   refine qT rfl rfl (fun wq hS => R.move (v := (vn (64 * k))) rfl) ?_
   refine qT rfl rfl (fun wq hS => R.move (v := (vn (64 * k))) rfl) ?_
   refine qT rfl rfl (fun wq hS => R.bin rfl rfl (bi_add (c := ((64 * k + 64 : Nat) : Int)) (by omega) (by omega))) ?_
   refine qT rfl rfl (fun wq hS => R.sliceS (a := a_28) (len := (padded bs).length) (l := 64 * k) (h := 64 * k + 64) rfl (EvB.it (l := 64 * k) rfl rfl) (EvB.it (l := 64 * k + 64) rfl rfl) (by omega) (by omega) Try.underlying37 Try.sizeOf5) ?_
   refine WT.s (Op1.one rfl (Wn.no rfl) ?_)
   refine WL.copy (q := 64) (i := 0) (ys := (((padded bs).drop (64 * k)).take 64).map vu8) (cs' := (((padded bs).drop (64 * k)).take 64).map vu8) h_45 rfl (congrArg (fun n => Value.slice (slA a_28 (64 * k) cap_29 1) n (cap_29 - (64 * k))) (show 64 * k + 64 - (64 * k) = 64 from (by omega))) Try.underlying37 Try.sizeOf5 (View.slM (l := 64 * k) (m := cap_29) (k := 64) (ownView (h_45.ok _ M1)) (by omega)) (len_map (subLen (K := (padded bs).length) (rfl : List.length (padded bs) = (padded bs).length) (by omega) : List.length (((padded bs).drop (64 * k)).take 64) = 64)) (one_u8 _) At.h (by decide) Sg.h rfl (by decide) (by rw [len_map lr]; decide) (cpAll (subLen (K := (padded bs).length) (rfl : List.length (padded bs) = (padded bs).length) (by omega) : List.length (((padded bs).drop (64 * k)).take 64) = 64) lr) rfl (fun w_47 h_48 => ?_)
   refine WL.nil ?_
   refine ⟨(SL.cons (h_48.ok _ M1) (SL.cons (h_48.ok _ M2) (SL.cons (h_48.ok _ M3) (SL.cons (h_48.ok _ M4) (SL.cons (h_48.ok _ M5) (SL.nil _ _)))))), ?_⟩
   refine WT.nil (thn_n (WP.reg ?_))
   refine qV rfl (R.loadA (b := b_4) (off := 0) [] [(8, (hs kL hL (padded bs) k).map vu32)] [] (cs := (hs kL hL (padded bs) k).map vu32) rfl Try.isAgg172 Try.sizeOf172 (h_48.ok _ M3) rfl rfl rfl rfl) (qV rfl (R.loadA (b := b_41) (off := 0) [] [(64, (((padded bs).drop (64 * k)).take 64).map vu8)] [] (cs := (((padded bs).drop (64 * k)).take 64).map vu8) rfl Try.isAgg163 Try.sizeOf163 (h_48.ok _ M0) rfl rfl rfl rfl) (qM (.slice a_22 64 cap_23) rfl rfl ?_))
   refine WL.call Try.call128 rfl rfl (c_PressR (hs kL hL (padded bs) k) kL (hs_len hL_len k) kL_len (((padded bs).drop (64 * k)).take 64) (subLen (K := (padded bs).length) (rfl : List.length (padded bs) = (padded bs).length) (by omega) : List.length (((padded bs).drop (64 * k)).take 64) = 64) a_22 cap_23 _ (ownView (h_48.ok _ M2))) rfl ?_
   rintro _ w_50 ⟨rfl, hc_49⟩
   have h_51 := h_48.same hc_49
   refine WL.storeA (b := b_4) (off := 0) [] [(8, (hs kL hL (padded bs) k).map vu32)] [(8, (pressL kL (hs kL hL (padded bs) k) (((padded bs).drop (64 * k)).take 64)).map vu32)] [] (ys := (pressL kL (hs kL hL (padded bs) k) (((padded bs).drop (64 * k)).take 64)).map vu32) h_51 rfl rfl Try.sizeOf172 Y3 (by decide) rfl rfl rfl rfl rfl rfl (SsOk.cons (SOk.u32 (pressL_len ..)) SsOk.nil) (fun w_52 h_53 => ?_)
   refine WL.nil (inb_n (thn_n (WP.reg ?_)))
   refine qM (vn (64 * k)) rfl rfl (qV rfl (R.bin rfl rfl (bi_add (c := ((64 * k + 64 : Nat) : Int)) (by omega) (by omega))) (qA (vn (64 * k + 64)) rfl rfl ?_))
   refine WL.nil (thn_n ?_)
   have h_59 := (((((h_53.drop rfl).up J4).up J4).up J4).up J4).up J4
   have es : pressL kL (hs kL hL (padded bs) k) (((padded bs).drop (64 * k)).take 64) = hs kL hL (padded bs) (k + 1) := rfl
   rw [es] at h_59
   exact ⟨k + 1, _, (by omega), (Ag.upd rfl (U2 rfl rfl (U4 rfl rfl rfl rfl (U4 rfl rfl rfl rfl (U4 rfl rfl rfl rfl (U4 rfl rfl rfl rfl (Ag.updL rfl (Ag.mix _ _ _)))))))), ⟨congrArg vi (by omega), trivial⟩, h_59, (by omega), rfl⟩
  ·have p_60 := of_decide_eq_false c_39
   refine WP.exit (thn_x (thn_x (inb_hit (thn_n (WP.seq (WP.reg ?_))))))
   refine WL.alloc (segs := [(32, (List.replicate 32 (0 : UInt8)).map vu8)]) h_36 (zv Try.typeInfo23 rfl) rfl (SsOk.cons (SOk.u8 lr) SsOk.nil) rfl (fun b_61 w_62 h_63 => ?_)
   refine WL.nil (thn_n (WP.seq (WP.seq (WP.reg ?_))))
   refine qA (vi 0) rfl rfl ?_
   refine WL.nil (thn_n (WP.block ?_))
   have hk2 : k = (padded bs).length / 64 := by omega
   refine WP.loopG (G := Nat) [10, 39, 40, 41, 42, 43, 44, 45, 46, 47, 48, 49, 50, 51, 52, 53, 54, 55] (fun j => [(10, (vn j))]) (fun j m w1 => HP w w1 [.blk b_61 .nw 23 [(32, (mix (digL (hs kL hL (padded bs) k)) (List.replicate 32 0) j).map vu8)], .row a_28 ((padded bs).length) cap_29 5 1 ((padded bs).map vu8), .row a_22 64 cap_23 170 1 (kL.map vu32), .blk b_4 .nw 172 [(8, (hs kL hL (padded bs) k).map vu32)], .blk b_1 .nw 23 [(32, (List.replicate 32 (0 : UInt8)).map vu8)], .view a (bs.map vu8)] ∧ (j ≤ 32) ∧ m = 32 - j) ⟨0, _, ⟨rfl, trivial⟩, (by rw [mix_0]; exact h_63), (by omega), rfl⟩ ?_
   rintro j m_66 J_67 w_64 ⟨h_65, hj, rfl⟩
   have ek : j < 32 → (UInt64.ofNat (24 - 8 * (j % 4))).toNat = 24 - 8 * (j % 4) := fun _ => nat64 (by omega)
   refine WP.seq (WP.seq (WP.reg ?_))
   refine qM (vn j) rfl rfl (qV rfl (R.bin rfl rfl (bi_lss (r := decide ((((j : Nat) : Int) : Int) < 32)) rfl)) ?_)
   refine WL.nil (thn_n ?_)
   refine WP.cond (b := decide ((((j : Nat) : Int) : Int) < 32)) rfl (fun c_68 => ?_) (fun c_68 => ?_)
   ·have p_69 := of_decide_eq_true c_68
    refine WP.skip (thn_n (WP.seq (WP.block (WP.reg ?_))))
    refine qM (vn j) rfl rfl (qM (vn j) rfl rfl (qV rfl (R.bin rfl rfl (bi_quo (c := ((j / 4 : Nat) : Int)) (by first | omega | exact ⟨Int.natCast_nonneg _, by omega⟩) (by omega) (by first | omega | rfl))) (qV rfl (R.indexA (b := b_4) (off := 0) (off' := (0 + (j / 4))) (i := j / 4) rfl rfl rfl (by omega) Try.underlying172 Try.sizeOf170 (by rw [Nat.mul_one])) (qV rfl (R.loadE (b := b_4) (off := (0 + (j / 4))) (i := j / 4) (v := (vu32 ((hs kL hL (padded bs) k).getD (j / 4) 0))) rfl Try.isAgg170 (h_65.ok _ M3) Sg.h rfl (get_u32 (lt_len (K := 8) (hs_len hL_len k) (by omega)))) (qM (vn j) rfl rfl (qV rfl (R.bin rfl rfl (bi_rem (c := ((j % 4 : Nat) : Int)) (Int.natCast_nonneg _) (by omega) (by first | omega | rfl))) (qV rfl (R.bin rfl rfl (bi_mul (c := ((8 * (j % 4) : Nat) : Int)) (by omega) (by omega))) (qV rfl (R.bin rfl rfl (bi_sub (c := ((24 - (8 * (j % 4)) : Nat) : Int)) (by omega) (by omega))) (qV rfl (R.conv (b := ((UInt64.ofNat (24 - (8 * (j % 4)))) : UInt64).toNat) rfl Try.underlying3 Try.underlying168 (w64_nat (24 - (8 * (j % 4))))) (qV rfl (R.binR (v := vu32 (shr32 ((hs kL hL (padded bs) k).getD (j / 4) 0) ((UInt64.ofNat (24 - (8 * (j % 4)))).toNat))) rfl rfl (run_shr32 _ _ _ ((hs kL hL (padded bs) k).getD (j / 4) 0) _ ((UInt64.ofNat (24 - (8 * (j % 4)))).toNat))) (qV rfl (R.conv (b := ((UInt8.ofNat ((shr32 ((hs kL hL (padded bs) k).getD (j / 4) 0) ((UInt64.ofNat (24 - (8 * (j % 4)))).toNat)).toNat)) : UInt8).toNat) rfl Try.underlying170 Try.underlying5 (w8_nat ((shr32 ((hs kL hL (padded bs) k).getD (j / 4) 0) ((UInt64.ofNat (24 - (8 * (j % 4)))).toNat)).toNat))) ?_)))))))))))
    refine qV rfl (R.indexA (b := b_61) (off := 0) (off' := (0 + j)) (i := j) rfl rfl rfl (by omega) Try.underlying23 Try.sizeOf5 (by rw [Nat.mul_one])) ?_
    refine WL.storeE (b := b_61) (off := (0 + j)) (i := j) (v := (vu8 (UInt8.ofNat ((shr32 ((hs kL hL (padded bs) k).getD (j / 4) 0) ((UInt64.ofNat (24 - (8 * (j % 4)))).toNat)).toNat)))) (cs' := ((mix (digL (hs kL hL (padded bs) k)) (List.replicate 32 0) j).set j (UInt8.ofNat ((shr32 ((hs kL hL (padded bs) k).getD (j / 4) 0) ((UInt64.ofNat (24 - (8 * (j % 4)))).toNat)).toNat))).map vu8) h_65 rfl rfl Try.sizeOf5 rfl At.h (by decide) Sg.h rfl (lt_len (K := 32) (len_map (mix_len (digL_len _) lr)) (by omega)) (set_u8 _ _ _) (fun w_70 h_71 => ?_)
    refine WL.nil (inb_n (thn_n (WP.reg ?_)))
    refine qM (vn j) rfl rfl (qV rfl (R.bin rfl rfl (bi_add (c := ((j + 1 : Nat) : Int)) (by omega) (by omega))) (qA (vn (j + 1)) rfl rfl ?_))
    refine WL.nil (thn_n ?_)
    have h_77 := (((((h_71.up J5).up J5).up J5).up J5).up J5).up J5
    rw [ek (by omega), dig_set (by omega)] at h_77
    exact ⟨j + 1, _, (by omega), (U2 rfl rfl (U4 rfl rfl rfl rfl (U4 rfl rfl rfl rfl (U4 rfl rfl rfl rfl (U4 rfl rfl rfl rfl (Ag.updL rfl (Ag.mix _ _ _))))))), ⟨rfl, trivial⟩, h_77, (by omega), rfl⟩
   ·have p_78 := of_decide_eq_false c_68
    refine WP.exit (thn_x (thn_x (inb_hit (thn_n (WP.seq (WP.reg ?_))))))
    refine qV rfl (R.loadA (b := b_61) (off := 0) [] [(32, (mix (digL (hs kL hL (padded bs) k)) (List.replicate 32 0) j).map vu8)] [] (cs := (mix (digL (hs kL hL (padded bs) k)) (List.replicate 32 0) j).map vu8) rfl Try.isAgg23 Try.sizeOf23 (h_65.ok _ M0) rfl rfl rfl rfl) ?_
    refine WL.storeA (b := b_1) (off := 0) [] [(32, (List.replicate 32 (0 : UInt8)).map vu8)] [(32, (mix (digL (hs kL hL (padded bs) k)) (List.replicate 32 0) j).map vu8)] [] (ys := (mix (digL (hs kL hL (padded bs) k)) (List.replicate 32 0) j).map vu8) h_65 rfl rfl Try.sizeOf23 Y4 (by decide) rfl rfl rfl rfl rfl rfl (SsOk.cons (SOk.u8 (mix_len (digL_len _) lr)) SsOk.nil) (fun w_79 h_80 => ?_)
    refine WL.nil (thn_n (WP.ret ?_))
    refine ret_of Try.results115 (RV.cell rfl (h_80.loadA (cs := (mix (digL (hs kL hL (padded bs) k)) (List.replicate 32 0) j).map vu8) Try.isAgg23 Try.sizeOf23 M4 rfl rfl) RV.nil) ?_
    have hj32 : j = 32 := by omega
    subst hj32
    exact ⟨by rw [dig_all, hk2]; rfl, h_80.chgS⟩
end Go.Proofs.Ytnhppjimimhlkaa

namespace Go.Proofs.Ytnhppjimimhlkaa
open Go.Vc Go.Sh Go.RowKit
set_option maxRecDepth 20000

theorem c_TagR_s (a : Option Addr) (n cap : Nat) (key : List UInt8) (hl : key.length = n) (hcap : n ≤ cap) (hn : n ≤ 100000000000) (a2 : Option Addr) (n2 cap2 : Nat) (bs2 : List UInt8) (hl2 : bs2.length = n2) (hcap2 : n2 ≤ cap2) (hn2 : n2 ≤ 100000000000) (h : ¬ 64 < n) (w : World) (hv : View w a (key.map vu8)) (hv2 : View w a2 (bs2.map vu8)) :
  Cs Try.prog 117 [(.slice a n cap), (.slice a2 n2 cap2)].toArray w (fun v w1 => v = (.agg ⟨(tagL key bs2).map vu8⟩) ∧ Chg w w1 []) := by
 refine Cs.of (n := 54) (args := [(.slice a n cap), (.slice a2 n2 cap2)]) Try.func117 rfl rfl rfl ?_
 have h_0 := HP.init w
 have h_01 := h_0.oldV (View.arg hv) rfl (by simp [Ent.mut])
 have h_00 := h_01.oldV (View.arg hv2) rfl (by simp [Ent.mut])
 refine WP.seq (WP.reg ?_)
 refine WL.alloc (segs := [(32, (List.replicate 32 (0 : UInt8)).map vu8)]) h_00 (zv Try.typeInfo23 rfl) rfl (SsOk.cons (SOk.u8 lr) SsOk.nil) rfl (fun b_1 w_2 h_3 => ?_)
 refine WL.nil (thn_n (WP.seq (WP.reg ?_)))
 refine qM (.slice a n cap) rfl rfl ?_
 have h_4 := h_3.rowNil 5 1
 refine WL.append (km := n) (xs := []) (ys := key.map vu8) (zs := key.map vu8) h_4 rfl rfl el37 (viewV (h_4.ok _ M3)) ((len_map hl).trans (Nat.mul_one _).symm) (one_u8 _) rfl (by omega) (by omega) (by omega) (fun _ _ => At.h) rfl (fun a_5 c_6 w_7 h_8 => ?_)
 refine qA (.slice a_5 n c_6) rfl rfl ?_
 refine WL.nil (thn_n (WP.seq (WP.seq (WP.reg ?_))))
 refine qM (.slice a_5 n c_6) rfl rfl (qV rfl (R.lenS (a := a_5) (m := n) rfl rfl Try.underlying37) (qV rfl (R.bin rfl rfl (bi_gtr (r := decide ((((n : Nat) : Int) : Int) > 64)) rfl)) ?_))
 refine WL.nil (thn_n ?_)
 refine WP.condF (congrArg Value.bool (decide_eq_false (by omega))) ?_
 refine WP.skip (thn_n (WP.seq (WP.block ?_)))
 have h_12 := (((h_8.up J3).up J3).up J3).up J3
 refine WP.loopG (G := Nat × Option Addr × Nat) [5, 20, 21, 22, 23, 24, 25] (fun (z, ra, rc) => [(5, (.slice ra (n + z) rc))]) (fun (z, ra, rc) m w1 => HP w w1 [.row ra (n + z) rc 5 1 ((key ++ List.replicate z (0 : UInt8)).map vu8), .blk b_1 .nw 23 [(32, (List.replicate 32 (0 : UInt8)).map vu8)], .view a2 (bs2.map vu8), .view a (key.map vu8)] ∧ (n + z ≤ 64) ∧ m = 64 - z) ⟨(0, a_5, c_6), _, ⟨rfl, trivial⟩, (by rw [List.replicate_zero, List.append_nil]; exact h_12), (by omega), rfl⟩ ?_
 rintro ⟨z, ra, rc⟩ m_15 J_16 w_13 ⟨h_14, hz, rfl⟩
 refine WP.seq (WP.seq (WP.reg ?_))
 refine qM (.slice ra (n + z) rc) rfl rfl (qV rfl (R.lenS (a := ra) (m := n + z) rfl rfl Try.underlying37) (qV rfl (R.bin rfl rfl (bi_lss (r := decide ((((n + z : Nat) : Int) : Int) < 64)) rfl)) ?_))
 refine WL.nil (thn_n ?_)
 refine WP.cond (b := decide ((((n + z : Nat) : Int) : Int) < 64)) rfl (fun c_17 => ?_) (fun c_17 => ?_)
 ·have p_18 := of_decide_eq_true c_17
  refine WP.skip (thn_n (WP.block (WP.reg ?_)))
  refine qM (.slice ra (n + z) rc) rfl rfl ?_
  refine WL.buildSl (vs := [(0, (vu8 0))]) (cs := ([0] : List UInt8).map vu8) h_14 Try.underlying37 Try.sizeOf5 (zv Try.typeInfo5 rfl) rfl rfl (by kernel_rfl) rfl (one_u8 _) rfl rfl (fun b_19 w_20 h_21 => ?_)
  refine WL.append (km := n + z + 1) (xs := (key ++ List.replicate z (0 : UInt8)).map vu8) (ys := ([0] : List UInt8).map vu8) (zs := ((key ++ List.replicate z (0 : UInt8)) ++ ([0] : List UInt8)).map vu8) h_21 rfl rfl el37 (viewB (h_21.ok _ M0) Sg.h) ((len_map (rfl : List.length ([0] : List UInt8) = 1)).trans (Nat.mul_one _).symm) (one_u8 _) (by simp only [List.map_append, List.map_nil]) (by omega) (by omega) (by omega) (fun _ _ => Y1) rfl (fun a_22 c_23 w_24 h_25 => ?_)
  refine qA (.slice a_22 (n + z + 1) c_23) rfl rfl ?_
  refine WL.nil (inb_n (thn_n ?_))
  have h_30 := ((((h_25.drop rfl).up J3).up J3).up J3).up J3
  rw [List.append_assoc, zero_snoc] at h_30
  exact ⟨(z + 1, a_22, c_23), _, (by omega), (Ag.upd rfl (U2 rfl rfl (U4 rfl rfl rfl rfl (Ag.updL rfl (Ag.mix _ _ _))))), ⟨rfl, trivial⟩, h_30, (by omega), rfl⟩
 ·have p_31 := of_decide_eq_false c_17
  refine WP.exit (thn_x (thn_x (inb_hit (thn_n (WP.seq (WP.reg ?_))))))
  refine qA (.slice none 0 0) rfl rfl (qA (.slice none 0 0) rfl rfl ?_)
  refine WL.nil (thn_n (WP.seq (WP.seq (WP.reg ?_))))
  refine qA (vi 0) rfl rfl ?_
  refine WL.nil (thn_n (WP.block ?_))
  have hz64 : n + z = 64 := by omega
  have hpk : (padK key).length = 64 := padK_len hl (by omega)
  rw [pad_z hl hz64, hz64] at h_14
  have h_33 := h_14.rowNil 5 1
  have h_34 := h_33.rowNil 5 1
  refine WP.loopG (G := Nat × Option Addr × Nat × Option Addr × Nat) [7, 8, 9, 26, 27, 28, 29, 30, 31, 32, 33, 34, 35, 36, 37, 38, 39, 40, 41, 42, 43, 44, 45] (fun (j, ia, ic, oa, oc) => [(7, (.slice ia j ic)), (8, (.slice oa j oc)), (9, (vn j))]) (fun (j, ia, ic, oa, oc) m w1 => HP w w1 [.row ia j ic 5 1 (((xm 54 (padK key)).take j).map vu8), .row oa j oc 5 1 (((xm 92 (padK key)).take j).map vu8), .row ra 64 rc 5 1 ((padK key).map vu8), .blk b_1 .nw 23 [(32, (List.replicate 32 (0 : UInt8)).map vu8)], .view a2 (bs2.map vu8), .view a (key.map vu8)] ∧ (j ≤ 64) ∧ m = 64 - j) ⟨(0, none, 0, none, 0), _, ⟨rfl, rfl, rfl, trivial⟩, h_34, Nat.zero_le _, rfl⟩ ?_
  rintro ⟨j, ia, ic, oa, oc⟩ m_37 J_38 w_35 ⟨h_36, hj, rfl⟩
  refine WP.seq (WP.seq (WP.reg ?_))
  refine qM (vn j) rfl rfl (qV rfl (R.bin rfl rfl (bi_lss (r := decide ((((j : Nat) : Int) : Int) < 64)) rfl)) ?_)
  refine WL.nil (thn_n ?_)
  refine WP.cond (b := decide ((((j : Nat) : Int) : Int) < 64)) rfl (fun c_39 => ?_) (fun c_39 => ?_)
  ·have p_40 := of_decide_eq_true c_39
   refine WP.skip (thn_n (WP.seq (WP.block (WP.seq (WP.reg ?_)))))
   refine qM (.slice ia j ic) rfl rfl (qV rfl (R.move (v := (.slice ra 64 rc)) (congrArg (fun n => Value.slice ra n rc) hz64)) (qM (vn j) rfl rfl (qV rfl (R.indexS (a := ra) (i := j) (off := j) (xs := (padK key).map vu8) rfl rfl rfl (by omega) (ownView (h_36.ok _ M2)) (lt_len (K := 64) (len_map hpk) (by omega)) Try.underlying37 Try.sizeOf5 (Nat.mul_one _).symm) (qV rfl (R.loadG (a := ra) (i := j) (xs := (padK key).map vu8) (v := (vu8 ((padK key).getD j 0))) rfl (ownView (h_36.ok _ M2)) Try.isAgg5 (get_u8 (lt_len (K := 64) hpk (by omega)))) (qV rfl (R.bin rfl rfl (b8_xor ((padK key).getD j 0) 54)) ?_)))))
   refine WL.buildSl (vs := [(0, (vu8 (((padK key).getD j 0) ^^^ 54)))]) (cs := ([((padK key).getD j 0) ^^^ 54] : List UInt8).map vu8) h_36 Try.underlying37 Try.sizeOf5 (zv Try.typeInfo5 rfl) rfl rfl (by kernel_rfl) rfl (one_u8 _) rfl rfl (fun b_41 w_42 h_43 => ?_)
   refine WL.append (km := j + 1) (xs := ((xm 54 (padK key)).take j).map vu8) (ys := ([((padK key).getD j 0) ^^^ 54] : List UInt8).map vu8) (zs := (((xm 54 (padK key)).take j) ++ ([((padK key).getD j 0) ^^^ 54] : List UInt8)).map vu8) h_43 rfl rfl el37 (viewB (h_43.ok _ M0) Sg.h) ((len_map (rfl : List.length ([((padK key).getD j 0) ^^^ 54] : List UInt8) = 1)).trans (Nat.mul_one _).symm) (one_u8 _) (by simp only [List.map_append, List.map_nil]) (by omega) (by omega) (by omega) (fun _ _ => Y1) rfl (fun a_44 c_45 w_46 h_47 => ?_)
   refine qA (.slice a_44 (j + 1) c_45) rfl rfl ?_
   refine WL.nil (thn_n (WP.reg ?_))
   refine qM (.slice oa j oc) rfl rfl (qV rfl (R.move (v := (.slice ra 64 rc)) (congrArg (fun n => Value.slice ra n rc) hz64)) (qM (vn j) rfl rfl (qV rfl (R.indexS (a := ra) (i := j) (off := j) (xs := (padK key).map vu8) rfl rfl rfl (by omega) (ownView (h_47.ok _ M3)) (lt_len (K := 64) (len_map hpk) (by omega)) Try.underlying37 Try.sizeOf5 (Nat.mul_one _).symm) (qV rfl (R.loadG (a := ra) (i := j) (xs := (padK key).map vu8) (v := (vu8 ((padK key).getD j 0))) rfl (ownView (h_47.ok _ M3)) Try.isAgg5 (get_u8 (lt_len (K := 64) hpk (by omega)))) (qV rfl (R.bin rfl rfl (b8_xor ((padK key).getD j 0) 92)) ?_)))))
   refine WL.buildSl (vs := [(0, (vu8 (((padK key).getD j 0) ^^^ 92)))]) (cs := ([((padK key).getD j 0) ^^^ 92] : List UInt8).map vu8) h_47 Try.underlying37 Try.sizeOf5 (zv Try.typeInfo5 rfl) rfl rfl (by kernel_rfl) rfl (one_u8 _) rfl rfl (fun b_48 w_49 h_50 => ?_)
   refine WL.append (km := j + 1) (xs := ((xm 92 (padK key)).take j).map vu8) (ys := ([((padK key).getD j 0) ^^^ 92] : List UInt8).map vu8) (zs := (((xm 92 (padK key)).take j) ++ ([((padK key).getD j 0) ^^^ 92] : List UInt8)).map vu8) h_50 rfl rfl el37 (viewB (h_50.ok _ M0) Sg.h) ((len_map (rfl : List.length ([((padK key).getD j 0) ^^^ 92] : List UInt8) = 1)).trans (Nat.mul_one _).symm) (one_u8 _) (by simp only [List.map_append, List.map_nil]) (by omega) (by omega) (by omega) (fun _ _ => Y3) rfl (fun a_51 c_52 w_53 h_54 => ?_)
   refine qA (.slice a_51 (j + 1) c_52) rfl rfl ?_
   refine WL.nil (inb_n (thn_n (WP.reg ?_)))
   refine qM (vn j) rfl rfl (qV rfl (R.bin rfl rfl (bi_add (c := ((j + 1 : Nat) : Int)) (by omega) (by omega))) (qA (vn (j + 1)) rfl rfl ?_))
   refine WL.nil (thn_n ?_)
   have h_62 := (((((((h_54.drop rfl).drop rfl).up J5).up J5).up J5).up J5).up J5).up J5
   rw [xm_snoc (by omega), xm_snoc (by omega)] at h_62
   exact ⟨(j + 1, a_44, c_45, a_51, c_52), _, (by omega), (Ag.upd rfl (U2 rfl rfl (U4 rfl rfl rfl rfl (U4 rfl rfl rfl rfl (U4 rfl rfl rfl rfl (U4 rfl rfl rfl rfl (U4 rfl rfl rfl rfl (Ag.updL rfl (Ag.mix _ _ _))))))))), ⟨rfl, rfl, rfl, trivial⟩, h_62, (by omega), rfl⟩
  ·have p_63 := of_decide_eq_false c_39
   refine WP.exit (thn_x (thn_x (inb_hit (thn_n (WP.seq (WP.reg ?_))))))
   refine qM (.slice ia j ic) rfl rfl (qM (.slice a2 n2 cap2) rfl rfl ?_)
   refine WL.append (km := j + n2) (xs := ((xm 54 (padK key)).take j).map vu8) (ys := bs2.map vu8) (zs := (((xm 54 (padK key)).take j) ++ bs2).map vu8) h_36 rfl rfl el37 (viewV (h_36.ok _ M4)) ((len_map hl2).trans (Nat.mul_one _).symm) (one_u8 _) (by simp only [List.map_append, List.map_nil]) (by omega) (by omega) (by omega) (fun _ _ => At.h) rfl (fun a_64 c_65 w_66 h_67 => ?_)
   refine WL.call Try.call115 rfl rfl (c_SumR a_64 (j + n2) c_65 (((xm 54 (padK key)).take j) ++ bs2) (lenApp (a := j) (b := n2) (by rw [List.length_take, xm_len, hpk]; omega) hl2 (by omega) : List.length (((xm 54 (padK key)).take j) ++ bs2) = j + n2) (by omega) _ (ownView (h_67.ok _ M0))) rfl ?_
   rintro _ w_69 ⟨rfl, hc_68⟩
   have h_70 := h_67.same hc_68
   refine WL.alloc (segs := [(32, (List.replicate 32 (0 : UInt8)).map vu8)]) h_70 (zv Try.typeInfo23 rfl) rfl (SsOk.cons (SOk.u8 lr) SsOk.nil) rfl (fun b_71 w_72 h_73 => ?_)
   refine WL.storeA (b := b_71) (off := 0) [] [(32, (List.replicate 32 (0 : UInt8)).map vu8)] [(32, (sumL (((xm 54 (padK key)).take j) ++ bs2)).map vu8)] [] (ys := (sumL (((xm 54 (padK key)).take j) ++ bs2)).map vu8) h_73 rfl rfl Try.sizeOf23 At.h (by decide) rfl rfl rfl rfl rfl rfl (SsOk.cons (SOk.u8 (sumL_len _)) SsOk.nil) (fun w_74 h_75 => ?_)
   refine WL.nil (thn_n (WP.seq (WP.reg ?_)))
   refine qM (.slice oa j oc) rfl rfl (qV rfl (R.sliceA (b := b_71) (off := 0) (off' := 0) (l := 0) (h := 32) rfl EvB.dflt EvB.dflt (by decide) (by decide) Try.underlying23 Try.sizeOf5 rfl) ?_)
   refine WL.append (km := j + 32) (xs := ((xm 92 (padK key)).take j).map vu8) (ys := (sumL (((xm 54 (padK key)).take j) ++ bs2)).map vu8) (zs := (((xm 92 (padK key)).take j) ++ (sumL (((xm 54 (padK key)).take j) ++ bs2))).map vu8) h_75 rfl rfl el37 (viewB (h_75.ok _ M0) Sg.h) ((len_map (sumL_len _)).trans (Nat.mul_one _).symm) (one_u8 _) (by simp only [List.map_append, List.map_nil]) (by omega) (by omega) (by omega) (fun _ _ => Y2) rfl (fun a_76 c_77 w_78 h_79 => ?_)
   refine WL.call Try.call115 rfl rfl (c_SumR a_76 (j + 32) c_77 (((xm 92 (padK key)).take j) ++ (sumL (((xm 54 (padK key)).take j) ++ bs2))) (lenApp (a := j) (b := 32) (by rw [List.length_take, xm_len, hpk]; omega) (sumL_len _) (by omega) : List.length (((xm 92 (padK key)).take j) ++ (sumL (((xm 54 (padK key)).take j) ++ bs2))) = j + 32) (by omega) _ (ownView (h_79.ok _ M2))) rfl ?_
   rintro _ w_81 ⟨rfl, hc_80⟩
   have h_82 := h_79.same hc_80
   refine WL.storeA (b := b_1) (off := 0) [] [(32, (List.replicate 32 (0 : UInt8)).map vu8)] [(32, (sumL (((xm 92 (padK key)).take j) ++ (sumL (((xm 54 (padK key)).take j) ++ bs2)))).map vu8)] [] (ys := (sumL (((xm 92 (padK key)).take j) ++ (sumL (((xm 54 (padK key)).take j) ++ bs2)))).map vu8) h_82 rfl rfl Try.sizeOf23 Y4 (by decide) rfl rfl rfl rfl rfl rfl (SsOk.cons (SOk.u8 (sumL_len _)) SsOk.nil) (fun w_83 h_84 => ?_)
   refine WL.nil (thn_n (WP.ret ?_))
   refine ret_of Try.results117 (RV.cell rfl (h_84.loadA (cs := (sumL (((xm 92 (padK key)).take j) ++ (sumL (((xm 54 (padK key)).take j) ++ bs2)))).map vu8) Try.isAgg23 Try.sizeOf23 M4 rfl rfl) RV.nil) ?_
   have hj64 : j = 64 := by omega
   have e1 : (xm 54 (padK key)).take j = xm 54 (padK key) := List.take_of_length_le (by rw [xm_len]; omega)
   have e2 : (xm 92 (padK key)).take j = xm 92 (padK key) := List.take_of_length_le (by rw [xm_len]; omega)
   exact ⟨by rw [e1, e2, tag_s hl h]; rfl, h_84.chgS⟩

theorem c_TagR_l (a : Option Addr) (n cap : Nat) (key : List UInt8) (hl : key.length = n) (hcap : n ≤ cap) (hn : n ≤ 100000000000) (a2 : Option Addr) (n2 cap2 : Nat) (bs2 : List UInt8) (hl2 : bs2.length = n2) (hcap2 : n2 ≤ cap2) (hn2 : n2 ≤ 100000000000) (h : 64 < n) (w : World) (hv : View w a (key.map vu8)) (hv2 : View w a2 (bs2.map vu8)) :
  Cs Try.prog 117 [(.slice a n cap), (.slice a2 n2 cap2)].toArray w (fun v w1 => v = (.agg ⟨(tagL key bs2).map vu8⟩) ∧ Chg w w1 []) := by
 refine Cs.of (n := 54) (args := [(.slice a n cap), (.slice a2 n2 cap2)]) Try.func117 rfl rfl rfl ?_
 have h_0 := HP.init w
 have h_01 := h_0.oldV (View.arg hv) rfl (by simp [Ent.mut])
 have h_00 := h_01.oldV (View.arg hv2) rfl (by simp [Ent.mut])
 refine WP.seq (WP.reg ?_)
 refine WL.alloc (segs := [(32, (List.replicate 32 (0 : UInt8)).map vu8)]) h_00 (zv Try.typeInfo23 rfl) rfl (SsOk.cons (SOk.u8 lr) SsOk.nil) rfl (fun b_1 w_2 h_3 => ?_)
 refine WL.nil (thn_n (WP.seq (WP.reg ?_)))
 refine qM (.slice a n cap) rfl rfl ?_
 have h_4 := h_3.rowNil 5 1
 refine WL.append (km := n) (xs := []) (ys := key.map vu8) (zs := key.map vu8) h_4 rfl rfl el37 (viewV (h_4.ok _ M3)) ((len_map hl).trans (Nat.mul_one _).symm) (one_u8 _) rfl (by omega) (by omega) (by omega) (fun _ _ => At.h) rfl (fun a_5 c_6 w_7 h_8 => ?_)
 refine qA (.slice a_5 n c_6) rfl rfl ?_
 refine WL.nil (thn_n (WP.seq (WP.seq (WP.reg ?_))))
 refine qM (.slice a_5 n c_6) rfl rfl (qV rfl (R.lenS (a := a_5) (m := n) rfl rfl Try.underlying37) (qV rfl (R.bin rfl rfl (bi_gtr (r := decide ((((n : Nat) : Int) : Int) > 64)) rfl)) ?_))
 refine WL.nil (thn_n ?_)
 refine WP.condT (congrArg Value.bool (decide_eq_true (by omega))) ?_
 refine WP.seq (WP.reg ?_)
 refine qM (.slice a n cap) rfl rfl ?_
 refine WL.call Try.call115 rfl rfl (c_SumR a n cap key hl (by omega) _ (viewV (h_8.ok _ M3))) rfl ?_
 rintro _ w_10 ⟨rfl, hc_9⟩
 have h_11 := h_8.same hc_9
 refine WL.alloc (segs := [(32, (List.replicate 32 (0 : UInt8)).map vu8)]) h_11 (zv Try.typeInfo23 rfl) rfl (SsOk.cons (SOk.u8 lr) SsOk.nil) rfl (fun b_12 w_13 h_14 => ?_)
 refine WL.storeA (b := b_12) (off := 0) [] [(32, (List.replicate 32 (0 : UInt8)).map vu8)] [(32, (sumL key).map vu8)] [] (ys := (sumL key).map vu8) h_14 rfl rfl Try.sizeOf23 At.h (by decide) rfl rfl rfl rfl rfl rfl (SsOk.cons (SOk.u8 (sumL_len _)) SsOk.nil) (fun w_15 h_16 => ?_)
 refine WL.nil (thn_n (WP.reg ?_))
 refine qV rfl (R.sliceA (b := b_12) (off := 0) (off' := 0) (l := 0) (h := 32) rfl EvB.dflt EvB.dflt (by decide) (by decide) Try.underlying23 Try.sizeOf5 rfl) ?_
 have h_17 := h_16.rowNil 5 1
 refine WL.append (km := 32) (xs := []) (ys := (sumL key).map vu8) (zs := (sumL key).map vu8) h_17 rfl rfl el37 (viewB (h_17.ok _ M1) Sg.h) ((len_map (sumL_len _)).trans (Nat.mul_one _).symm) (one_u8 _) rfl rfl (by omega) (by omega) (fun _ _ => At.h) rfl (fun a_18 c_19 w_20 h_21 => ?_)
 refine qA (.slice a_18 32 c_19) rfl rfl ?_
 refine WL.nil (thn_n (WP.seq (WP.block ?_)))
 have h_29 := (((((((h_21.up J1).drop rfl).up J1).drop rfl).up J3).up J3).up J3).up J3
 refine WP.loopG (G := Nat × Option Addr × Nat) [5, 20, 21, 22, 23, 24, 25] (fun (z, ra, rc) => [(5, (.slice ra (32 + z) rc))]) (fun (z, ra, rc) m w1 => HP w w1 [.row ra (32 + z) rc 5 1 (((sumL key) ++ List.replicate z (0 : UInt8)).map vu8), .blk b_1 .nw 23 [(32, (List.replicate 32 (0 : UInt8)).map vu8)], .view a2 (bs2.map vu8), .view a (key.map vu8)] ∧ (32 + z ≤ 64) ∧ m = 64 - z) ⟨(0, a_18, c_19), _, ⟨rfl, trivial⟩, (by rw [List.replicate_zero, List.append_nil]; exact h_29), (by omega), rfl⟩ ?_
 rintro ⟨z, ra, rc⟩ m_32 J_33 w_30 ⟨h_31, hz, rfl⟩
 refine WP.seq (WP.seq (WP.reg ?_))
 refine qM (.slice ra (32 + z) rc) rfl rfl (qV rfl (R.lenS (a := ra) (m := 32 + z) rfl rfl Try.underlying37) (qV rfl (R.bin rfl rfl (bi_lss (r := decide ((((32 + z : Nat) : Int) : Int) < 64)) rfl)) ?_))
 refine WL.nil (thn_n ?_)
 refine WP.cond (b := decide ((((32 + z : Nat) : Int) : Int) < 64)) rfl (fun c_34 => ?_) (fun c_34 => ?_)
 ·have p_35 := of_decide_eq_true c_34
  refine WP.skip (thn_n (WP.block (WP.reg ?_)))
  refine qM (.slice ra (32 + z) rc) rfl rfl ?_
  refine WL.buildSl (vs := [(0, (vu8 0))]) (cs := ([0] : List UInt8).map vu8) h_31 Try.underlying37 Try.sizeOf5 (zv Try.typeInfo5 rfl) rfl rfl (by kernel_rfl) rfl (one_u8 _) rfl rfl (fun b_36 w_37 h_38 => ?_)
  refine WL.append (km := 32 + z + 1) (xs := ((sumL key) ++ List.replicate z (0 : UInt8)).map vu8) (ys := ([0] : List UInt8).map vu8) (zs := (((sumL key) ++ List.replicate z (0 : UInt8)) ++ ([0] : List UInt8)).map vu8) h_38 rfl rfl el37 (viewB (h_38.ok _ M0) Sg.h) ((len_map (rfl : List.length ([0] : List UInt8) = 1)).trans (Nat.mul_one _).symm) (one_u8 _) (by simp only [List.map_append, List.map_nil]) (by omega) (by omega) (by omega) (fun _ _ => Y1) rfl (fun a_39 c_40 w_41 h_42 => ?_)
  refine qA (.slice a_39 (32 + z + 1) c_40) rfl rfl ?_
  refine WL.nil (inb_n (thn_n ?_))
  have h_47 := ((((h_42.drop rfl).up J3).up J3).up J3).up J3
  rw [List.append_assoc, zero_snoc] at h_47
  exact ⟨(z + 1, a_39, c_40), _, (by omega), (Ag.upd rfl (U2 rfl rfl (U4 rfl rfl rfl rfl (Ag.updL rfl (Ag.mix _ _ _))))), ⟨rfl, trivial⟩, h_47, (by omega), rfl⟩
 ·have p_48 := of_decide_eq_false c_34
  refine WP.exit (thn_x (thn_x (inb_hit (thn_n (WP.seq (WP.reg ?_))))))
  refine qA (.slice none 0 0) rfl rfl (qA (.slice none 0 0) rfl rfl ?_)
  refine WL.nil (thn_n (WP.seq (WP.seq (WP.reg ?_))))
  refine qA (vi 0) rfl rfl ?_
  refine WL.nil (thn_n (WP.block ?_))
  have hz64 : 32 + z = 64 := by omega
  have hpk : (padK (sumL key)).length = 64 := padK_len (sumL_len _) (by omega)
  rw [pad_z (sumL_len _) hz64, hz64] at h_31
  have h_50 := h_31.rowNil 5 1
  have h_51 := h_50.rowNil 5 1
  refine WP.loopG (G := Nat × Option Addr × Nat × Option Addr × Nat) [7, 8, 9, 26, 27, 28, 29, 30, 31, 32, 33, 34, 35, 36, 37, 38, 39, 40, 41, 42, 43, 44, 45] (fun (j, ia, ic, oa, oc) => [(7, (.slice ia j ic)), (8, (.slice oa j oc)), (9, (vn j))]) (fun (j, ia, ic, oa, oc) m w1 => HP w w1 [.row ia j ic 5 1 (((xm 54 (padK (sumL key))).take j).map vu8), .row oa j oc 5 1 (((xm 92 (padK (sumL key))).take j).map vu8), .row ra 64 rc 5 1 ((padK (sumL key)).map vu8), .blk b_1 .nw 23 [(32, (List.replicate 32 (0 : UInt8)).map vu8)], .view a2 (bs2.map vu8), .view a (key.map vu8)] ∧ (j ≤ 64) ∧ m = 64 - j) ⟨(0, none, 0, none, 0), _, ⟨rfl, rfl, rfl, trivial⟩, h_51, Nat.zero_le _, rfl⟩ ?_
  rintro ⟨j, ia, ic, oa, oc⟩ m_54 J_55 w_52 ⟨h_53, hj, rfl⟩
  refine WP.seq (WP.seq (WP.reg ?_))
  refine qM (vn j) rfl rfl (qV rfl (R.bin rfl rfl (bi_lss (r := decide ((((j : Nat) : Int) : Int) < 64)) rfl)) ?_)
  refine WL.nil (thn_n ?_)
  refine WP.cond (b := decide ((((j : Nat) : Int) : Int) < 64)) rfl (fun c_56 => ?_) (fun c_56 => ?_)
  ·have p_57 := of_decide_eq_true c_56
   refine WP.skip (thn_n (WP.seq (WP.block (WP.seq (WP.reg ?_)))))
   refine qM (.slice ia j ic) rfl rfl (qV rfl (R.move (v := (.slice ra 64 rc)) (congrArg (fun n => Value.slice ra n rc) hz64)) (qM (vn j) rfl rfl (qV rfl (R.indexS (a := ra) (i := j) (off := j) (xs := (padK (sumL key)).map vu8) rfl rfl rfl (by omega) (ownView (h_53.ok _ M2)) (lt_len (K := 64) (len_map hpk) (by omega)) Try.underlying37 Try.sizeOf5 (Nat.mul_one _).symm) (qV rfl (R.loadG (a := ra) (i := j) (xs := (padK (sumL key)).map vu8) (v := (vu8 ((padK (sumL key)).getD j 0))) rfl (ownView (h_53.ok _ M2)) Try.isAgg5 (get_u8 (lt_len (K := 64) hpk (by omega)))) (qV rfl (R.bin rfl rfl (b8_xor ((padK (sumL key)).getD j 0) 54)) ?_)))))
   refine WL.buildSl (vs := [(0, (vu8 (((padK (sumL key)).getD j 0) ^^^ 54)))]) (cs := ([((padK (sumL key)).getD j 0) ^^^ 54] : List UInt8).map vu8) h_53 Try.underlying37 Try.sizeOf5 (zv Try.typeInfo5 rfl) rfl rfl (by kernel_rfl) rfl (one_u8 _) rfl rfl (fun b_58 w_59 h_60 => ?_)
   refine WL.append (km := j + 1) (xs := ((xm 54 (padK (sumL key))).take j).map vu8) (ys := ([((padK (sumL key)).getD j 0) ^^^ 54] : List UInt8).map vu8) (zs := (((xm 54 (padK (sumL key))).take j) ++ ([((padK (sumL key)).getD j 0) ^^^ 54] : List UInt8)).map vu8) h_60 rfl rfl el37 (viewB (h_60.ok _ M0) Sg.h) ((len_map (rfl : List.length ([((padK (sumL key)).getD j 0) ^^^ 54] : List UInt8) = 1)).trans (Nat.mul_one _).symm) (one_u8 _) (by simp only [List.map_append, List.map_nil]) (by omega) (by omega) (by omega) (fun _ _ => Y1) rfl (fun a_61 c_62 w_63 h_64 => ?_)
   refine qA (.slice a_61 (j + 1) c_62) rfl rfl ?_
   refine WL.nil (thn_n (WP.reg ?_))
   refine qM (.slice oa j oc) rfl rfl (qV rfl (R.move (v := (.slice ra 64 rc)) (congrArg (fun n => Value.slice ra n rc) hz64)) (qM (vn j) rfl rfl (qV rfl (R.indexS (a := ra) (i := j) (off := j) (xs := (padK (sumL key)).map vu8) rfl rfl rfl (by omega) (ownView (h_64.ok _ M3)) (lt_len (K := 64) (len_map hpk) (by omega)) Try.underlying37 Try.sizeOf5 (Nat.mul_one _).symm) (qV rfl (R.loadG (a := ra) (i := j) (xs := (padK (sumL key)).map vu8) (v := (vu8 ((padK (sumL key)).getD j 0))) rfl (ownView (h_64.ok _ M3)) Try.isAgg5 (get_u8 (lt_len (K := 64) hpk (by omega)))) (qV rfl (R.bin rfl rfl (b8_xor ((padK (sumL key)).getD j 0) 92)) ?_)))))
   refine WL.buildSl (vs := [(0, (vu8 (((padK (sumL key)).getD j 0) ^^^ 92)))]) (cs := ([((padK (sumL key)).getD j 0) ^^^ 92] : List UInt8).map vu8) h_64 Try.underlying37 Try.sizeOf5 (zv Try.typeInfo5 rfl) rfl rfl (by kernel_rfl) rfl (one_u8 _) rfl rfl (fun b_65 w_66 h_67 => ?_)
   refine WL.append (km := j + 1) (xs := ((xm 92 (padK (sumL key))).take j).map vu8) (ys := ([((padK (sumL key)).getD j 0) ^^^ 92] : List UInt8).map vu8) (zs := (((xm 92 (padK (sumL key))).take j) ++ ([((padK (sumL key)).getD j 0) ^^^ 92] : List UInt8)).map vu8) h_67 rfl rfl el37 (viewB (h_67.ok _ M0) Sg.h) ((len_map (rfl : List.length ([((padK (sumL key)).getD j 0) ^^^ 92] : List UInt8) = 1)).trans (Nat.mul_one _).symm) (one_u8 _) (by simp only [List.map_append, List.map_nil]) (by omega) (by omega) (by omega) (fun _ _ => Y3) rfl (fun a_68 c_69 w_70 h_71 => ?_)
   refine qA (.slice a_68 (j + 1) c_69) rfl rfl ?_
   refine WL.nil (inb_n (thn_n (WP.reg ?_)))
   refine qM (vn j) rfl rfl (qV rfl (R.bin rfl rfl (bi_add (c := ((j + 1 : Nat) : Int)) (by omega) (by omega))) (qA (vn (j + 1)) rfl rfl ?_))
   refine WL.nil (thn_n ?_)
   have h_79 := (((((((h_71.drop rfl).drop rfl).up J5).up J5).up J5).up J5).up J5).up J5
   rw [xm_snoc (by omega), xm_snoc (by omega)] at h_79
   exact ⟨(j + 1, a_61, c_62, a_68, c_69), _, (by omega), (Ag.upd rfl (U2 rfl rfl (U4 rfl rfl rfl rfl (U4 rfl rfl rfl rfl (U4 rfl rfl rfl rfl (U4 rfl rfl rfl rfl (U4 rfl rfl rfl rfl (Ag.updL rfl (Ag.mix _ _ _))))))))), ⟨rfl, rfl, rfl, trivial⟩, h_79, (by omega), rfl⟩
  ·have p_80 := of_decide_eq_false c_56
   refine WP.exit (thn_x (thn_x (inb_hit (thn_n (WP.seq (WP.reg ?_))))))
   refine qM (.slice ia j ic) rfl rfl (qM (.slice a2 n2 cap2) rfl rfl ?_)
   refine WL.append (km := j + n2) (xs := ((xm 54 (padK (sumL key))).take j).map vu8) (ys := bs2.map vu8) (zs := (((xm 54 (padK (sumL key))).take j) ++ bs2).map vu8) h_53 rfl rfl el37 (viewV (h_53.ok _ M4)) ((len_map hl2).trans (Nat.mul_one _).symm) (one_u8 _) (by simp only [List.map_append, List.map_nil]) (by omega) (by omega) (by omega) (fun _ _ => At.h) rfl (fun a_81 c_82 w_83 h_84 => ?_)
   refine WL.call Try.call115 rfl rfl (c_SumR a_81 (j + n2) c_82 (((xm 54 (padK (sumL key))).take j) ++ bs2) (lenApp (a := j) (b := n2) (by rw [List.length_take, xm_len, hpk]; omega) hl2 (by omega) : List.length (((xm 54 (padK (sumL key))).take j) ++ bs2) = j + n2) (by omega) _ (ownView (h_84.ok _ M0))) rfl ?_
   rintro _ w_86 ⟨rfl, hc_85⟩
   have h_87 := h_84.same hc_85
   refine WL.alloc (segs := [(32, (List.replicate 32 (0 : UInt8)).map vu8)]) h_87 (zv Try.typeInfo23 rfl) rfl (SsOk.cons (SOk.u8 lr) SsOk.nil) rfl (fun b_88 w_89 h_90 => ?_)
   refine WL.storeA (b := b_88) (off := 0) [] [(32, (List.replicate 32 (0 : UInt8)).map vu8)] [(32, (sumL (((xm 54 (padK (sumL key))).take j) ++ bs2)).map vu8)] [] (ys := (sumL (((xm 54 (padK (sumL key))).take j) ++ bs2)).map vu8) h_90 rfl rfl Try.sizeOf23 At.h (by decide) rfl rfl rfl rfl rfl rfl (SsOk.cons (SOk.u8 (sumL_len _)) SsOk.nil) (fun w_91 h_92 => ?_)
   refine WL.nil (thn_n (WP.seq (WP.reg ?_)))
   refine qM (.slice oa j oc) rfl rfl (qV rfl (R.sliceA (b := b_88) (off := 0) (off' := 0) (l := 0) (h := 32) rfl EvB.dflt EvB.dflt (by decide) (by decide) Try.underlying23 Try.sizeOf5 rfl) ?_)
   refine WL.append (km := j + 32) (xs := ((xm 92 (padK (sumL key))).take j).map vu8) (ys := (sumL (((xm 54 (padK (sumL key))).take j) ++ bs2)).map vu8) (zs := (((xm 92 (padK (sumL key))).take j) ++ (sumL (((xm 54 (padK (sumL key))).take j) ++ bs2))).map vu8) h_92 rfl rfl el37 (viewB (h_92.ok _ M0) Sg.h) ((len_map (sumL_len _)).trans (Nat.mul_one _).symm) (one_u8 _) (by simp only [List.map_append, List.map_nil]) (by omega) (by omega) (by omega) (fun _ _ => Y2) rfl (fun a_93 c_94 w_95 h_96 => ?_)
   refine WL.call Try.call115 rfl rfl (c_SumR a_93 (j + 32) c_94 (((xm 92 (padK (sumL key))).take j) ++ (sumL (((xm 54 (padK (sumL key))).take j) ++ bs2))) (lenApp (a := j) (b := 32) (by rw [List.length_take, xm_len, hpk]; omega) (sumL_len _) (by omega) : List.length (((xm 92 (padK (sumL key))).take j) ++ (sumL (((xm 54 (padK (sumL key))).take j) ++ bs2))) = j + 32) (by omega) _ (ownView (h_96.ok _ M2))) rfl ?_
   rintro _ w_98 ⟨rfl, hc_97⟩
   have h_99 := h_96.same hc_97
   refine WL.storeA (b := b_1) (off := 0) [] [(32, (List.replicate 32 (0 : UInt8)).map vu8)] [(32, (sumL (((xm 92 (padK (sumL key))).take j) ++ (sumL (((xm 54 (padK (sumL key))).take j) ++ bs2)))).map vu8)] [] (ys := (sumL (((xm 92 (padK (sumL key))).take j) ++ (sumL (((xm 54 (padK (sumL key))).take j) ++ bs2)))).map vu8) h_99 rfl rfl Try.sizeOf23 Y4 (by decide) rfl rfl rfl rfl rfl rfl (SsOk.cons (SOk.u8 (sumL_len _)) SsOk.nil) (fun w_100 h_101 => ?_)
   refine WL.nil (thn_n (WP.ret ?_))
   refine ret_of Try.results117 (RV.cell rfl (h_101.loadA (cs := (sumL (((xm 92 (padK (sumL key))).take j) ++ (sumL (((xm 54 (padK (sumL key))).take j) ++ bs2)))).map vu8) Try.isAgg23 Try.sizeOf23 M4 rfl rfl) RV.nil) ?_
   have hj64 : j = 64 := by omega
   have e1 : (xm 54 (padK (sumL key))).take j = xm 54 (padK (sumL key)) := List.take_of_length_le (by rw [xm_len]; omega)
   have e2 : (xm 92 (padK (sumL key))).take j = xm 92 (padK (sumL key)) := List.take_of_length_le (by rw [xm_len]; omega)
   exact ⟨by rw [e1, e2, tag_l hl h]; rfl, h_101.chgS⟩

theorem c_TagR (a : Option Addr) (n cap : Nat) (key : List UInt8) (hl : key.length = n) (hcap : n ≤ cap) (hn : n ≤ 100000000000) (a2 : Option Addr) (n2 cap2 : Nat) (bs2 : List UInt8) (hl2 : bs2.length = n2) (hcap2 : n2 ≤ cap2) (hn2 : n2 ≤ 100000000000) (w : World) (hv : View w a (key.map vu8)) (hv2 : View w a2 (bs2.map vu8)) : Cs Try.prog 117 [.slice a n cap, .slice a2 n2 cap2].toArray w (fun v w1 => v = (.agg ⟨(tagL key bs2).map vu8⟩) ∧ Chg w w1 []) := by
 by_cases h : 64 < n
 ·exact c_TagR_l a n cap key hl hcap hn a2 n2 cap2 bs2 hl2 hcap2 hn2 h w hv hv2
 ·exact c_TagR_s a n cap key hl hcap hn a2 n2 cap2 bs2 hl2 hcap2 hn2 h w hv hv2
end Go.Proofs.Ytnhppjimimhlkaa

namespace Go.Vc
open Go.RowKit Go.WideShapes
section
variable {P : Program} {F : Fr} {w w' w0 : World} {L : List Ent}
variable {ty : TypeId} {pos : String} {after : Array Edge} {dst : Option Tmp} {g : Option (Nat × Bool)}
theorem agg_formed {t : TypeId} {cs : List Value} (hu : aggB P t = true) (hl : cs.length = P.cellsOf t) : (Value.agg ⟨cs⟩).formed P t = true := by
  unfold aggB at hu
  unfold Value.formed
  split at hu <;> simp_all
theorem Ck.agg {K : TypeId} {m h : Nat} {cs : List Value} (hk : P.keyTypeAt m K = true) (hm : Nat.ble m 10000 = true) (hu : aggB P K = true) (t : Typ P h K cs) : Ck P K (.agg ⟨cs⟩) := by
  intro b w
  have hm' := Nat.le_of_ble_eq_true hm
  have := run_checkKey_deep (P := P) b (10000 - m) m K hk w _ (.agg ⟨cs⟩) _ (agg_formed hu t.len) (t.lits h (Nat.le_refl _))
  rwa [show 10000 - m + m = 10000 by omega] at this
def fdx {α : Type} [DecidableEq α] (q : α) : List (α × Value × Nat) → Nat → Option (Nat × Value)
  | [], _ => none
  | e :: r, i => if e.1 = q then some (i, e.2.1) else fdx q r (i + 1)
def ents {α : Type} (kf : α → List Value) (es : List (α × Value × Nat)) : List MapEntry := es.map fun e => { key := .agg ⟨kf e.1⟩, val := e.2.1, born := e.2.2 }
theorem run_asking {α : Type} [DecidableEq α] {kf : α → List Value} {K : TypeId} {m h : Nat} {q : α} (hk : P.keyTypeAt m K = true) (hm : Nat.ble m 10000 = true) (hu : aggB P K = true) (t : Typ P h K (kf q)) (w : World) :
    ∀ (es : List (α × Value × Nat)) (i : Nat), (∀ e ∈ es, Typ P h K (kf e.1) ∧ (kf e.1 = kf q → e.1 = q)) → (Instr.findAsking K (.agg ⟨kf q⟩) (ents kf es) i).run P w = .ok (fdx q es i) w
  | [], i, _ => by simp [ents, Instr.findAsking, fdx]
  | e :: es, i, hall => by
    obtain ⟨te, hinj⟩ := hall e (by simp)
    obtain ⟨r, hr, hiff⟩ := equal_of (w := w) hk (Nat.le_of_ble_eq_true hm) hu t te
    have hr' : (Op.equal K (.agg ⟨kf q⟩) (.agg ⟨kf e.1⟩)).run P w = .ok r w := hr
    by_cases he : e.1 = q
    · have : r = true := hiff.2 (by rw [he])
      subst this
      rw [he] at hr'
      simp [ents, Instr.findAsking, hr', he, fdx]
    · have : r = false := by
        cases r with
        | false => rfl
        | true => exact absurd (hinj (hiff.1 rfl).symm) he
      subst this
      have ih := run_asking hk hm hu t w es (i + 1) (fun y hy => hall y (by simp [hy]))
      simp only [ents] at ih
      simp only [ents, List.map_cons, Instr.findAsking, Sem.run_bind, hr', Result.andThen_ok, Bool.false_eq_true, if_false, ih, fdx, he]
theorem Fk.agg {α : Type} [DecidableEq α] {kf : α → List Value} {K : TypeId} {m h : Nat} {q : α} (hk : P.keyTypeAt m K = true) (hm : Nat.ble m 10000 = true) (hu : aggB P K = true) (t : Typ P h K (kf q)) {es : List (α × Value × Nat)}
    (hall : ∀ e ∈ es, Typ P h K (kf e.1) ∧ (kf e.1 = kf q → e.1 = q)) : Fk P K (.agg ⟨kf q⟩) (ents kf es) (fdx q es 0) := by
  intro w
  rw [run_findKey_eq w hu]
  exact run_asking hk hm hu t w es 0 hall
theorem eq_nilM {T K E : TypeId} {o : Option Nat} (hT : P.underlying T = some (.map K E)) (d : Nat) : (Op.equalIn (d + 1) T (.map o) (.map none)).run P w = .ok o.isNone w := by
  unfold Op.equalIn
  rw [Sem.run_bind, run_underlying hT]
  cases o <;> rfl
theorem R.neNilM {T T' K E : TypeId} {x y : Operand} {o : Option Nat} (hx : evO F x = .map o) (hy : evO F y = .map none) (hT : P.underlying T = some (.map K E)) : (execOp (evO F) ⟨dst, .binOp .neq T x y T', ty, pos, after, g⟩).run P w = .ok (.value (.bool (!o.isNone))) w := R.neOf hx hy rfl (eq_nilM hT) rfl
theorem add_add (a : Addr) (i k : Nat) : (a.add i).add k = a.add (i + k) := by
  unfold Addr.add
  by_cases hi : i = 0
  · subst hi; simp
  · by_cases hk : k = 0
    · subst hk; simp [hi]
    · have : i + k ≠ 0 := by omega
      simp [hi, hk, this, Nat.add_assoc]
theorem gA_add (a : Option Addr) (i k : Nat) : (gA a i).add k = gA a (i + k) := add_add _ _ _
theorem R.fieldG {i off' f z : Nat} {S : TypeId} {x : Operand} {a : Option Addr} {fs : Array Field} {fd : Field} (hx : evO F x = .pointer (some (gA a i))) (hT : P.underlying S = some (.struct fs)) (hf : fs[f]? = some fd)
    (hz : ∀ w, (sizeOf fd.type).run P w = .ok z w) (hz0 : Nat.blt 0 z = true) (hoff : off' = i + fd.offset) : (execOp (evO F) ⟨dst, .fieldAddr S x f, ty, pos, after, g⟩).run P w = .ok (.value (.pointer (some (gA a off')))) w := by
  have hz1 : z ≠ 0 := by rintro rfl; cases hz0
  simp [execOp, hx, Instr.fieldAt, run_underlying hT, hf, Instr.sureAddr, fieldPlace, hz, hz1, gA_add, hoff]
end
end Go.Vc

namespace Go.Orc
open Go.Vc Go.RowKit
abbrev Qn := Int × List UInt8 × Int × List UInt8
abbrev Lg := List (Qn × List UInt8)
def okQ (q : Qn) : Prop := q.2.1.length = 32 ∧ (1 ≤ q.1 ∧ q.1 ≤ 4) ∧ (1 ≤ q.2.2.1 ∧ q.2.2.1 ≤ 16) ∧ q.2.2.2.length ≤ 1000000000
def kC (q : Qn) : List Value := flat [(1, [vi q.1]), (32, q.2.1.map vu8), (1, [vi q.2.2.1]), (1, [.string (bstr q.2.2.2)])]
theorem bstr_inj {a b : List UInt8} (h : bstr a = bstr b) : a = b := by
  have := congrArg ByteArray.toList h
  rwa [bstr_toList, bstr_toList] at this
theorem kC_inj {p q : Qn} (hp : p.2.1.length = 32) (hq : q.2.1.length = 32) (h : kC p = kC q) : p = q := by
  obtain ⟨k, key, d, data⟩ := p
  obtain ⟨k', key', d', data'⟩ := q
  simp only at hp hq
  simp only [kC, flat, List.cons_append, List.nil_append, List.cons.injEq, Value.int.injEq, true_and] at h
  obtain ⟨h1, h2⟩ := h
  obtain ⟨h3, h4⟩ := List.append_inj h2 (by rw [List.length_map, List.length_map, hp, hq])
  simp only [List.cons.injEq, Value.int.injEq, Value.string.injEq, true_and, and_true] at h4
  have e1 : key = key' := by
    have := map_inj_u8 (a := key) (b := key')
    exact this ▸ h3
  rw [h1, e1, h4.1, bstr_inj h4.2]
def mEs : Lg → Nat → List (Qn × Value × Nat)
  | [], _ => []
  | p :: r, i => (p.1, vi (i : Int), i) :: mEs r (i + 1)
theorem mEs_snoc (p : Qn × List UInt8) : ∀ (l : Lg) (i : Nat), mEs (l ++ [p]) i = mEs l i ++ [(p.1, vi ((i + l.length : Nat) : Int), i + l.length)]
  | [], i => by simp [mEs]
  | x :: l, i => by
    rw [List.cons_append, mEs, mEs_snoc p l (i + 1), mEs, List.length_cons, show i + 1 + l.length = i + (l.length + 1) by omega]; rfl
theorem mEs_mem : ∀ {l : Lg} {i : Nat} {e : Qn × Value × Nat}, e ∈ mEs l i → ∃ p ∈ l, e.1 = p.1
  | x :: l, i, e, h => by
    rcases List.mem_cons.1 h with rfl | h
    · exact ⟨x, List.mem_cons_self .., rfl⟩
    · obtain ⟨p, hp, he⟩ := mEs_mem h
      exact ⟨p, List.mem_cons_of_mem _ hp, he⟩
def fdq (q : Qn) : Lg → Nat → Option Nat
  | [], _ => none
  | p :: r, i => if p.1 = q then some i else fdq q r (i + 1)
theorem fdx_fdq (q : Qn) : ∀ (l : Lg) (i : Nat), fdx q (mEs l i) i = (fdq q l i).map fun j : Nat => ((j, vi (j : Int)) : Nat × Value)
  | [], _ => rfl
  | p :: r, i => by
    rw [mEs, fdx, fdq]
    split
    · rfl
    · exact fdx_fdq q r (i + 1)
theorem fdq_lt {q : Qn} : ∀ {l : Lg} {i j : Nat}, fdq q l i = some j → i ≤ j ∧ j < i + l.length
  | p :: r, i, j, h => by
    rw [fdq] at h
    split at h
    · cases h; exact ⟨Nat.le_refl _, by rw [List.length_cons]; omega⟩
    · have := fdq_lt h
      rw [List.length_cons]; omega
def mArr (l : Lg) : Array MapEntry := ⟨ents kC (mEs l 0)⟩
theorem mArr_push (l : Lg) (q : Qn) (d : List UInt8) : mArr (l ++ [(q, d)]) = (mArr l).push { key := .agg ⟨kC q⟩, val := vi (l.length : Int), born := l.length } := by
  apply Array.ext'
  simp [mArr, ents, mEs_snoc]
theorem log_find {P : Program} {K : TypeId} {m h : Nat} {q : Qn} {l : Lg} (hk : P.keyTypeAt m K = true) (hm : Nat.ble m 10000 = true) (hu : aggB P K = true) (hT : ∀ q, okQ q → Typ P h K (kC q)) (hq : okQ q) (hl : ∀ p ∈ l, okQ p.1) :
    Fk P K (.agg ⟨kC q⟩) (mArr l).toList ((fdq q l 0).map fun j : Nat => ((j, vi (j : Int)) : Nat × Value)) := by
  rw [← fdx_fdq]
  refine Fk.agg hk hm hu (hT q hq) fun e he => ?_
  obtain ⟨p, hp, e1⟩ := mEs_mem he
  rw [e1]
  exact ⟨hT _ (hl p hp), fun h => kC_inj (hl p hp).1 hq.1 h⟩
def aC (q : Qn) (s : Value) (d : List UInt8) : List Value := flat [(1, [vi q.1]), (32, q.2.1.map vu8), (1, [vi q.2.2.1]), (1, [s]), (32, d.map vu8)]
theorem aC_len {q : Qn} {s : Value} {d : List UInt8} (h : q.2.1.length = 32) (hd : d.length = 32) : (aC q s d).length = 67 := by simp [aC, flat, h, hd]
inductive Lgs (w : World) : List Value → Lg → Prop
  | nil : Lgs w [] []
  | snoc {a : Option Addr} {n c : Nat} {q : Qn} {d : List UInt8} {xs : List Value} {l : Lg} (r : Lgs w xs l) (hq : okQ q) (hd : d.length = 32) (hl : q.2.2.2.length = n) (hc : n ≤ c) (hv : View w a (q.2.2.2.map vu8)) : Lgs w (xs ++ aC q (.slice a n c) d) (l ++ [(q, d)])
theorem Lgs.len {w : World} {xs : List Value} {l : Lg} (h : Lgs w xs l) : xs.length = l.length * 67 := by
  induction h with
  | nil => rfl
  | snoc r hq hd hl hc hv ih => rw [List.length_append, ih, aC_len hq.1 hd, List.length_append, List.length_cons, List.length_nil]; omega
theorem Lgs.ok {w : World} {xs : List Value} {l : Lg} (h : Lgs w xs l) : ∀ p ∈ l, okQ p.1 := by
  induction h with
  | nil => intro p hp; cases hp
  | snoc r hq hd hl hc hv ih =>
    intro p hp
    rcases List.mem_append.1 hp with hp | hp
    · exact ih p hp
    · rw [List.mem_singleton] at hp; subst hp; exact hq
theorem sblks_u8 : ∀ (l : List UInt8) (b : Nat), b ∉ sblks (l.map vu8)
  | [], b => by simp [sblks]
  | x :: l, b => by
    intro h
    have h' : b ∈ sblk (vu8 x) ++ sblks (l.map vu8) := h
    rcases List.mem_append.1 h' with h | h
    · simp [sblk] at h
    · exact sblks_u8 l b h
theorem sblk_in_view {a : Option Addr} {n c : Nat} {l : List UInt8} (hl : l.length = n) : ∀ b ∈ sblk (.slice a n c), b ∈ (Ent.view a (l.map vu8)).blocks := by
  intro b hb
  cases a with
  | none => simp [sblk] at hb
  | some ad => cases l with
    | nil => simp at hl; subst hl; simp [sblk] at hb
    | cons x r => cases n with
      | zero => simp at hl
      | succ n => simpa [Ent.blocks, sblk] using hb
theorem Lgs.get {w : World} {xs : List Value} {l : Lg} (h : Lgs w xs l) : ∀ {i : Nat} (hi : i < l.length), ∃ a n c, (xs.drop (67 * i)).take 67 = aC (l[i]).1 (.slice a n c) (l[i]).2 ∧ (l[i]).2.length = 32 ∧ (l[i]).1.2.2.2.length = n ∧ n ≤ c ∧ View w a ((l[i]).1.2.2.2.map vu8) ∧ (∀ b ∈ sblk (.slice a n c), b ∈ sblks xs) := by
  induction h with
  | nil => intro i hi; simp at hi
  | @snoc a n c q d xs l r hq hd hl hc hv ih =>
    intro i hi
    have hlen := r.len
    by_cases e : i < l.length
    · obtain ⟨a', n', c', h1, h2, h3, h4, h5, h6⟩ := ih e
      refine ⟨a', n', c', ?_, ?_, ?_, h4, ?_, ?_⟩
      · rw [List.drop_append_of_le_length (by omega), List.take_append_of_le_length (by rw [List.length_drop]; omega), h1, List.getElem_append_left e]
      · rw [List.getElem_append_left e]; exact h2
      · rw [List.getElem_append_left e]; exact h3
      · rw [List.getElem_append_left e]; exact h5
      · intro b hb; rw [sblks_append]; exact List.mem_append.2 (.inl (h6 b hb))
    · have : i = l.length := by rw [List.length_append, List.length_singleton] at hi; omega
      subst this
      have e2 : (l ++ [(q, d)])[l.length] = (q, d) := by simp
      refine ⟨a, n, c, ?_, ?_, ?_, hc, ?_, ?_⟩
      · rw [List.drop_append, List.drop_of_length_le (by omega), List.nil_append, show 67 * l.length - xs.length = 0 by omega, List.drop_zero, List.take_of_length_le (by rw [aC_len hq.1 hd]; exact Nat.le_refl _), e2]
      · rw [e2]; exact hd
      · rw [e2]; exact hl
      · rw [e2]; exact hv
      · intro b hb
        rw [sblks_append]
        refine List.mem_append.2 (.inr ?_)
        simp only [aC, flat, sblks_append]
        refine List.mem_append.2 (.inr (List.mem_append.2 (.inr (List.mem_append.2 (.inr (List.mem_append.2 (.inl ?_)))))))
        simpa [sblks] using hb
end Go.Orc

namespace Go.Orc
open Go.Vc Go.RowKit
theorem Lgs.lt {w : World} {xs : List Value} {l : Lg} (h : Lgs w xs l) : ∀ b ∈ sblks xs, b < w.heap.size := by
  induction h with
  | nil => intro b hb; cases hb
  | @snoc a n c q d xs l r hq hd hl hc hv ih =>
    intro b hb
    rw [sblks_append] at hb
    rcases List.mem_append.1 hb with hb | hb
    · exact ih b hb
    · refine sblk_lt (c := c) hl hv b ?_
      simp only [aC, flat, sblks_append, List.mem_append] at hb
      rcases hb with hb | hb | hb | hb | hb
      · simp [sblks, sblk] at hb
      · exact absurd hb (sblks_u8 _ _)
      · simp [sblks, sblk] at hb
      · simpa [sblks] using hb
      · exact absurd hb (sblks_u8 _ _)
theorem Lgs.same {w w' : World} {xs : List Value} {l : Lg} (h : Lgs w xs l) (hs : ∀ b ∈ sblks xs, w'.heap[b]? = w.heap[b]?) : Lgs w' xs l := by
  induction h with
  | nil => exact .nil
  | @snoc a n c q d xs l r hq hd hl hc hv ih =>
    refine .snoc (ih fun b hb => hs b (by rw [sblks_append]; exact List.mem_append.2 (.inl hb))) hq hd hl hc (sblk_view (c := c) hl hv fun b hb => hs b ?_)
    rw [sblks_append]
    refine List.mem_append.2 (.inr ?_)
    simp only [aC, flat, sblks_append]
    exact List.mem_append.2 (.inr (List.mem_append.2 (.inr (List.mem_append.2 (.inr (List.mem_append.2 (.inl (by simpa [sblks] using hb))))))))
theorem Lgs.pin {B : Nat} {w : World} {xs : List Value} {l : Lg} (h : Lgs w xs l) : (Ent.pin (sblks xs) (fun w => Lgs w xs l)).ok B w := ⟨h, h.lt, fun _ hs => h.same hs⟩
section
variable {w w' w0 : World} {L : List Ent}
theorem HP_logPush {xs : List Value} {l : Lg} {a : Option Addr} {n c : Nat} {E : TypeId} {q : Qn} {d : List UInt8} (h : HP w0 w (.row a n c E 1 (q.2.2.2.map vu8) :: .pin (sblks xs) (fun w => Lgs w xs l) :: L)) (hq : okQ q) (hd : d.length = 32) (hl : q.2.2.2.length = n) :
    HP w0 w (.pin (sblks (xs ++ aC q (.slice a n c) d)) (fun w => Lgs w (xs ++ aC q (.slice a n c) d) (l ++ [(q, d)])) :: .view a (q.2.2.2.map vu8) :: .pin (sblks xs) (fun w => Lgs w xs l) :: L) := by
  have hcap := (h.own (List.mem_cons_self ..)).2.2.1
  have h1 := h.rowView
  have hm1 : Ent.pin (sblks xs) (fun w => Lgs w xs l) ∈ (.view a (q.2.2.2.map vu8) :: .pin (sblks xs) (fun w => Lgs w xs l) :: L) := List.mem_cons_of_mem _ (List.mem_cons_self ..)
  have hm2 : Ent.view a (q.2.2.2.map vu8) ∈ (.view a (q.2.2.2.map vu8) :: .pin (sblks xs) (fun w => Lgs w xs l) :: L) := List.mem_cons_self ..
  have hs : Lgs w xs l := (h1.ok _ hm1).1
  have hv := viewV (h1.ok _ hm2)
  refine h1.within2 hm1 hm2 rfl rfl (Lgs.pin (.snoc hs hq hd hl hcap hv)) rfl rfl fun b hb => ?_
  simp only [Ent.blocks] at hb
  rw [sblks_append] at hb
  rcases List.mem_append.1 hb with hb | hb
  · exact .inl hb
  · right
    simp only [aC, flat, sblks_append, List.mem_append] at hb
    rcases hb with hb | hb | hb | hb | hb
    · simp [sblks, sblk] at hb
    · exact absurd hb (sblks_u8 _ _)
    · simp [sblks, sblk] at hb
    · have hb' : b ∈ sblk (.slice a n c) := by simpa [sblks] using hb
      exact sblk_in_view hl b hb'
    · exact absurd hb (sblks_u8 _ _)
theorem HP_logNil (h : HP w0 w L) : HP w0 w (.pin (sblks []) (fun w => Lgs w [] []) :: L) := h.add (Lgs.pin .nil) rfl fun f _ _ b hb _ => by cases hb
end
theorem aC_drop {q : Qn} {s : Value} {d : List UInt8} (h : q.2.1.length = 32) : (aC q s d).drop 35 = d.map vu8 := by
  have e : aC q s d = ([vi q.1] ++ (q.2.1.map vu8 ++ ([vi q.2.2.1] ++ [s]))) ++ d.map vu8 := by simp [aC, flat]
  rw [e, List.drop_append_of_le_length (by simp [h])]
  simp [h]
theorem Lgs.ans {w : World} {xs : List Value} {l : Lg} (h : Lgs w xs l) {i : Nat} {z : Qn × List UInt8} (hi : i < l.length) : (xs.drop (i * 67 + 35)).take 32 = (l.getD i z).2.map vu8 ∧ (l.getD i z).2.length = 32 := by
  obtain ⟨a, n, c, h1, h2, _⟩ := h.get hi
  have hq := h.ok (l[i]) (List.getElem_mem hi)
  have e : l.getD i z = l[i] := by simp [hi]
  rw [e]
  refine ⟨?_, h2⟩
  have h3 := congrArg (fun x => x.drop 35) h1
  change ((xs.drop (67 * i)).take 67).drop 35 = (aC _ _ _).drop 35 at h3
  rw [aC_drop hq.1, List.drop_take, List.drop_drop, show 67 * i + 35 = i * 67 + 35 by omega, show 67 - 35 = 32 from rfl] at h3
  exact h3
theorem fill_1 {s : Nat} {z : Array Value} {zc cs : List Value} (hz : z = ⟨zc⟩) (ok : SsOk [(s, zc)]) (okc : SsOk [(s, cs)]) : Instr.fill (fun i => some (i * s, s)) z [(0, .agg ⟨cs⟩)] = some ⟨cs⟩ := by
  subst hz
  exact (fill_of (pl := fun i => some (i * s, s)) (segs := [(s, zc)]) (parts := [(0, .agg ⟨cs⟩)]) (out := [(s, cs)]) (FillR.cons [] [(s, zc)] [(s, cs)] [] (by rw [Nat.zero_mul]; rfl) rfl rfl rfl okc rfl rfl rfl FillR.nil) ok).1
theorem aC_ok {q : Qn} {s : Value} {d : List UInt8} (h : q.2.1.length = 32) (hd : d.length = 32) (hs : s.oneCell' = true) : SsOk [(67, aC q s d)] := by
  refine SsOk.cons ⟨aC_len h hd, fun v hv => ?_⟩ SsOk.nil
  exact SsOk.one (SsOk.cons (SOk.v rfl) (SsOk.cons (SOk.u8 h) (SsOk.cons (SOk.v rfl) (SsOk.cons (SOk.v hs) (SsOk.cons (SOk.u8 hd) SsOk.nil))))) v hv
def drawF (df : List UInt8) (dn n : Nat) : List UInt8 := if n < dn then (df.drop (n * 32)).take 32 else leN 8 n ++ (List.replicate 23 0 ++ [1])
theorem drawF_len {df : List UInt8} {dn n : Nat} (h : df.length = 32 * dn) : (drawF df dn n).length = 32 := by
  rw [drawF]; split
  · rw [List.length_take, List.length_drop]; omega
  · simp [leN_len]
def ansD (df : List UInt8) (dn u : Nat) (l : Lg) (q : Qn) : List UInt8 := match fdq q l 0 with
  | some i => (l.getD i (q, [])).2
  | none => drawF df dn u
def ansU (u : Nat) (l : Lg) (q : Qn) : Nat := match fdq q l 0 with
  | some _ => u
  | none => u + 1
def ansL (df : List UInt8) (dn u : Nat) (l : Lg) (q : Qn) : Lg := match fdq q l 0 with
  | some _ => l
  | none => l ++ [(q, drawF df dn u)]
section
variable {df : List UInt8} {dn u : Nat} {l : Lg} {q : Qn} {i : Nat}
end
end Go.Orc
namespace Go.Orc
open Go.Vc Go.RowKit
theorem draw_tail {u : Nat} (h : u < 18446744073709551616) : ((leN 8 (UInt64.ofNat u).toNat) ++ (List.replicate 32 (0 : UInt8)).drop 8).set 31 1 = leN 8 u ++ (List.replicate 23 0 ++ [1]) := by
  have e : (UInt64.ofNat u).toNat = u := by simp; omega
  have hl := leN_len 8 u
  rw [e, List.set_append, if_neg (by omega), hl]
  congr 1
theorem log_hit {P : Program} {K : TypeId} {m h i : Nat} {q : Qn} {l : Lg} (hk : P.keyTypeAt m K = true) (hm : Nat.ble m 10000 = true) (hu : aggB P K = true) (hT : ∀ q, okQ q → Typ P h K (kC q)) (hq : okQ q) (hl : ∀ p ∈ l, okQ p.1) (hf : fdq q l 0 = some i) :
    Fk P K (.agg ⟨kC q⟩) (mArr l).toList (some (i, vi (i : Int))) := by
  have := log_find hk hm hu hT hq hl
  rwa [hf] at this
theorem log_miss {P : Program} {K : TypeId} {m h : Nat} {q : Qn} {l : Lg} (hk : P.keyTypeAt m K = true) (hm : Nat.ble m 10000 = true) (hu : aggB P K = true) (hT : ∀ q, okQ q → Typ P h K (kC q)) (hq : okQ q) (hl : ∀ p ∈ l, okQ p.1) (hf : fdq q l 0 = none) :
    Fk P K (.agg ⟨kC q⟩) (mArr l).toList none := by
  have := log_find hk hm hu hT hq hl
  rwa [hf] at this
theorem snoc_len {l : Lg} {p : Qn × List UInt8} : (l ++ [p]).length = l.length + 1 := by simp
end Go.Orc
namespace Go.Orc
open Go.Vc Go.RowKit
section
variable {w w' w0 : World} {L : List Ent}
theorem HP_viewNil (h : HP w0 w L) : HP w0 w (.view none (([] : List UInt8).map vu8) :: L) :=
  h.add ⟨View.nil _ _, fun ad h => by cases h⟩ rfl fun f _ _ b hb _ => by simp [Ent.blocks] at hb
theorem pair_sep {e f : Ent} : ∀ {L : List Ent}, L.Pairwise Sep → e ∈ L → f ∈ L → e ≠ f → Sep e f
  | [], _, he, _, _ => by cases he
  | g :: L, hp, he, hf, hne => by
    rw [List.pairwise_cons] at hp
    rcases List.mem_cons.1 he with he1 | he1 <;> rcases List.mem_cons.1 hf with hf1 | hf1
    · exact absurd (he1.trans hf1.symm) hne
    · rw [he1]; exact hp.1 f hf1
    · rw [hf1]; exact (hp.1 e he1).symm
    · exact pair_sep hp.2 he1 hf1 hne
theorem HP_within {e' : Ent} (h : HP w0 w L) (hok : e'.ok w0.heap.size w) (hmut' : e'.mut = false) (har : e'.isAr = false) (hbl : ∀ b ∈ e'.blocks, ∃ e ∈ L, e.mut = false ∧ b ∈ e.blocks) : HP w0 w (e' :: L) := by
  refine h.add hok har fun f hf hfm b hb hbf => ?_
  obtain ⟨e, he, hme, hbe⟩ := hbl b hb
  have hfm' : f.mut = true := by simpa [hmut'] using hfm
  have hne : e ≠ f := fun h2 => by rw [h2] at hme; rw [hme] at hfm'; cases hfm'
  exact pair_sep h.sep he hf hne (.inr hfm') b hbe hbf
end
def sS (df : List UInt8) (dn : Nat) (key : List UInt8) (dm : Int) (data : List UInt8) (u : Nat) (lg : Lg) : Nat → Nat × Lg × List UInt8
  | 0 => (u, lg, [])
  | k + 1 => (ansU (sS df dn key dm data u lg k).1 (sS df dn key dm data u lg k).2.1 (4, key, dm, data ++ leN 8 k), ansL df dn (sS df dn key dm data u lg k).1 (sS df dn key dm data u lg k).2.1 (4, key, dm, data ++ leN 8 k), (sS df dn key dm data u lg k).2.2 ++ ansD df dn (sS df dn key dm data u lg k).1 (sS df dn key dm data u lg k).2.1 (4, key, dm, data ++ leN 8 k))
def ok32 (l : Lg) : Prop := ∀ p ∈ l, p.2.length = 32
theorem Lgs.ok32 {w : World} {xs : List Value} {l : Lg} (h : Lgs w xs l) : ok32 l := by
  induction h with
  | nil => intro p hp; cases hp
  | snoc r hq hd hl hc hv ih =>
    intro p hp
    rcases List.mem_append.1 hp with hp | hp
    · exact ih p hp
    · rw [List.mem_singleton] at hp; subst hp; exact hd
section
variable {df : List UInt8} {dn : Nat} {key : List UInt8} {dm : Int} {data : List UInt8} {u : Nat} {lg : Lg}
end
end Go.Orc

namespace Go.Orc
open Go.Vc
def gx (a b : List UInt8) : List UInt8 := List.zipWith (fun x y => x ^^^ y) a b
def pcB (pg : Nat) (ct : UInt64) : List UInt8 := [leN 8 (UInt64.ofNat pg).toNat, leN 8 ct.toNat].flatten
def onesL (x : UInt8) : List UInt8 := List.replicate 32 x
end Go.Orc

namespace Go.Proofs.Ytnhppjimimhlkaa
open Go.Vc Go.Orc Go.Sh Go.RowKit
set_option maxRecDepth 20000
theorem el24 : ElT Try.prog 24 23 32 32 := ElT.mk' Try.underlying24 (i := Try.t23) rfl rfl rfl rfl rfl rfl
theorem c_oword (x : UInt64) (w : World) :
  Cs Try.prog 107 [(vu64 x)].toArray w (fun v w1 => ∃ a cap, v = .slice a 8 cap ∧ Chg w w1 [] ∧ Own w.heap.size w1 5 1 a 8 cap ((leN 8 x.toNat).map vu8)) := by
 refine Cs.of (n := 11) (args := [(vu64 x)]) Try.func107 rfl rfl rfl ?_
 have h_0 := HP.init w
 refine WP.seq (WP.reg ?_)
 refine qA (.slice none 0 0) rfl rfl ?_
 refine WL.nil (thn_n (WP.seq (WP.reg ?_)))
 refine qM (vu64 x) rfl rfl ?_
 refine WL.call Try.call76 rfl rfl (c_Put_b x 8 rfl _) rfl ?_
 rintro _ w_3 ⟨a_1, cap_2, rfl, hc_4, ho_5⟩
 have h_6 := h_0.gotRow hc_4 ho_5
 refine qM (.tuple [(.slice a_1 8 cap_2), (vi 0)].toArray) rfl rfl (qV rfl (R.extract rfl rfl) (qV rfl (R.extract rfl rfl) (qA (.slice a_1 8 cap_2) rfl rfl (qA (vi 0) rfl rfl ?_))))
 refine WL.nil (thn_n (WP.seq (WP.reg ?_)))
 refine qM (.slice a_1 8 cap_2) rfl rfl (qA (.slice a_1 8 cap_2) rfl rfl ?_)
 refine WL.nil (thn_n (WP.ret ?_))
 refine ret_of Try.results107 (RV.tmp (v := (.slice a_1 8 cap_2)) rfl RV.nil) ?_
 exact ⟨_, _, rfl, h_6.chgS, h_6.ok _ M0⟩

theorem c_CloneD (a : Option Addr) (n cap : Nat) (df : List UInt8) (hl : df.length = 32 * n) (hn : n ≤ 1000000000) (w : World) (hv : View w a (df.map vu8)) :
  Cs Try.prog 50 [(.slice a n cap)].toArray w (fun v w1 => ∃ a cap, v = .slice a n cap ∧ Chg w w1 [] ∧ Own w.heap.size w1 23 32 a n cap (df.map vu8)) := by
 refine Cs.of (n := 8) (args := [(.slice a n cap)]) Try.func50 rfl rfl rfl ?_
 have h_0 := HP.init w
 have h_00 := h_0.old (View.arg hv) (fun f hf => by cases hf)
 refine WP.seq (WP.reg ?_)
 refine qA (.slice none 0 0) rfl rfl ?_
 refine WL.nil (thn_n (WP.seq (WP.seq (WP.reg ?_))))
 refine qM (.slice a n cap) rfl rfl (qV rfl (R.eqNilS rfl rfl Try.underlying24) ?_)
 refine WL.nil (thn_n ?_)
 refine WP.cond (b := a.isNone) rfl (fun c_1 => ?_) (fun c_1 => ?_)
 ·refine WP.seq (WP.reg ?_)
  refine qA (.slice none 0 0) rfl rfl ?_
  refine WL.nil (thn_n (WP.ret (thn_r ?_)))
  refine ret_of Try.results50 (RV.tmp (v := (.slice none 0 0)) rfl RV.nil) ?_
  obtain rfl : df = [] := view_none c_1 hv
  obtain rfl : n = 0 := by simp at hl; omega
  exact ⟨none, 0, rfl, h_00.chgS, Own.nil ..⟩
 ·refine WP.skip (thn_n (WP.seq (WP.reg ?_)))
  refine WL.buildSl0 h_00 Try.underlying24 Try.sizeOf23 rfl (fun b_2 w_3 h_4 => ?_)
  refine qM (.slice a n cap) rfl rfl ?_
  refine WL.append (km := n) (xs := []) (ys := df.map vu8) (zs := df.map vu8) h_4 rfl rfl el24 (viewV (h_4.ok _ M1)) ((len_map hl).trans (by omega)) (one_u8 _) rfl (by omega) (by omega) (by omega) (fun _ _ => At.h) rfl (fun a_5 c_6 w_7 h_8 => ?_)
  refine qA (.slice a_5 n c_6) rfl rfl ?_
  refine WL.nil (thn_n (WP.ret ?_))
  refine ret_of Try.results50 (RV.tmp (v := (.slice a_5 n c_6)) rfl RV.nil) ?_
  exact ⟨_, _, rfl, h_8.chgS, h_8.ok _ M0⟩

theorem c_draw {w00 : World} {L : List Ent} (id : Bool) (ob mp : Nat) (ms df : List UInt8) (hms : ms.length = 32) (da : Option Addr) (dn dc u : Nat) (hdf : df.length = 32 * dn) (la : Option Addr) (lc : Nat) (lx : List Value) (lg : Lg) (hu : u ≤ 1000000) (hlg : lg.length ≤ 1000000) (w : World) (h_0 : HP w00 w (Ent.blk ob .nw 50 [(1, [(.bool id)]), (32, ms.map vu8), (1, [(.slice da dn dc)]), (1, [(vi ((u : Nat) : Int))]), (1, [(.map (some mp))]), (1, [(.slice la lg.length lc)])] :: Ent.view da (df.map vu8) :: L)) :
  Cs Try.prog 96 [(.pointer (some ⟨ob, 0, none⟩))].toArray w (fun v w1 => v = (.agg ⟨(drawF df dn u).map vu8⟩) ∧ HP w00 w1 (Ent.blk ob .nw 50 [(1, [(.bool id)]), (32, ms.map vu8), (1, [(.slice da dn dc)]), (1, [(vi (((u + 1) : Nat) : Int))]), (1, [(.map (some mp))]), (1, [(.slice la lg.length lc)])] :: Ent.view da (df.map vu8) :: L)) := by
 refine Cs.of (n := 37) (args := [(pO ob 0)]) Try.func96 rfl rfl rfl ?_
 refine WP.seq (WP.reg ?_)
 refine WL.alloc (segs := [(32, (List.replicate 32 (0 : UInt8)).map vu8)]) h_0 (zv Try.typeInfo23 rfl) rfl (SsOk.cons (SOk.u8 lr) SsOk.nil) rfl (fun b_1 w_2 h_3 => ?_)
 refine WL.nil (thn_n (WP.seq (WP.reg ?_)))
 refine qM (pO ob 0) rfl rfl (qV rfl (R.nilCheck rfl) (qV rfl (R.fieldAddr (b := ob) (off := 0) (off' := 34) rfl Try.underlying50 rfl Try.sizeOf3 rfl rfl) (qV rfl (R.load1 (b := ob) (off := 34) (v := (vn u)) rfl Try.isAgg3 (h_3.ok _ M1) (Sg.t rfl (Sg.t rfl (Sg.t rfl Sg.h)))) (qA (vn u) rfl rfl ?_))))
 refine WL.nil (thn_n (WP.seq (WP.reg ?_)))
 refine qM (pO ob 0) rfl rfl (qV rfl (R.nilCheck rfl) (qV rfl (R.fieldAddr (b := ob) (off := 0) (off' := 34) rfl Try.underlying50 rfl Try.sizeOf3 rfl rfl) (qV rfl (R.load1 (b := ob) (off := 34) (v := (vn u)) rfl Try.isAgg3 (h_3.ok _ M1) (Sg.t rfl (Sg.t rfl (Sg.t rfl Sg.h)))) (qV rfl (R.bin rfl rfl (bi_add (c := ((u + 1 : Nat) : Int)) (by omega) (by omega))) (qV rfl (R.nilCheck rfl) (qV rfl (R.fieldAddr (b := ob) (off := 0) (off' := 34) rfl Try.underlying50 rfl Try.sizeOf3 rfl rfl) ?_))))))
 refine WL.store1 (b := ob) (off := 34) (v := (vn (u + 1))) h_3 rfl rfl Try.sizeOf3 rfl Y1 (by decide) (Sg.t rfl (Sg.t rfl (Sg.t rfl Sg.h))) (fun w_4 h_5 => ?_)
 refine WL.nil (thn_n (WP.seq (WP.seq (WP.reg ?_))))
 refine qM (vn u) rfl rfl (qM (pO ob 0) rfl rfl (qV rfl (R.nilCheck rfl) (qV rfl (R.fieldAddr (b := ob) (off := 0) (off' := 33) rfl Try.underlying50 rfl Try.sizeOf24 rfl rfl) (qV rfl (R.load1 (b := ob) (off := 33) (v := (.slice da dn dc)) rfl Try.isAgg24 (h_5.ok _ M1) (Sg.t rfl (Sg.t rfl Sg.h))) (qV rfl (R.lenS (a := da) (m := dn) rfl rfl Try.underlying24) (qV rfl (R.bin rfl rfl (bi_lss (r := decide ((((u : Nat) : Int) : Int) < ((dn : Nat) : Int))) rfl)) ?_))))))
 refine WL.nil (thn_n ?_)
 refine WP.cond (b := decide ((((u : Nat) : Int) : Int) < ((dn : Nat) : Int))) rfl (fun c_6 => ?_) (fun c_6 => ?_)
 ·have p_7 := of_decide_eq_true c_6
  refine WP.seq (WP.reg ?_)
  refine qM (pO ob 0) rfl rfl (qV rfl (R.nilCheck rfl) (qV rfl (R.fieldAddr (b := ob) (off := 0) (off' := 33) rfl Try.underlying50 rfl Try.sizeOf24 rfl rfl) (qV rfl (R.load1 (b := ob) (off := 33) (v := (.slice da dn dc)) rfl Try.isAgg24 (h_5.ok _ M1) (Sg.t rfl (Sg.t rfl Sg.h))) (qM (vn u) rfl rfl (qV rfl (R.indexS (a := da) (i := u) (off := u * 32) (xs := df.map vu8) rfl rfl rfl (by omega) (viewV (h_5.ok _ M2)) (lt_len (K := 32 * dn) (len_map hdf) (by omega)) Try.underlying24 Try.sizeOf23 rfl) (qV rfl (R.loadGA (a := da) (i := u * 32) (xs := df.map vu8) (cs := (((df).drop (u * 32)).take 32).map vu8) rfl (viewV (h_5.ok _ M2)) Try.isAgg23 Try.sizeOf23 (by rw [List.map_take, List.map_drop]) (len_map (subLen (K := 32 * dn) hdf (by omega) : List.length (((df).drop (u * 32)).take 32) = 32)) (by decide)) ?_))))))
  refine WL.storeA (b := b_1) (off := 0) [] [(32, (List.replicate 32 (0 : UInt8)).map vu8)] [(32, (((df).drop (u * 32)).take 32).map vu8)] [] (ys := (((df).drop (u * 32)).take 32).map vu8) h_5 rfl rfl Try.sizeOf23 At.h (by decide) rfl rfl rfl rfl rfl rfl (SsOk.cons (SOk.u8 (subLen (K := 32 * dn) hdf (by omega) : List.length (((df).drop (u * 32)).take 32) = 32)) SsOk.nil) (fun w_8 h_9 => ?_)
  refine WL.nil (thn_n (WP.ret (thn_r ?_)))
  refine ret_of Try.results96 (RV.cell rfl (h_9.loadA (cs := (((df).drop (u * 32)).take 32).map vu8) Try.isAgg23 Try.sizeOf23 M0 rfl rfl) RV.nil) ?_
  have h_12 := ((h_9.drop rfl).up J1).up J1
  exact ⟨by rw [drawF, if_pos (by omega)]; rfl, h_12⟩
 ·have p_13 := of_decide_eq_false c_6
  refine WP.skip (thn_n (WP.seq (WP.reg ?_)))
  refine WL.alloc (segs := [(32, (List.replicate 32 (0 : UInt8)).map vu8)]) h_5 (zv Try.typeInfo23 rfl) rfl (SsOk.cons (SOk.u8 lr) SsOk.nil) rfl (fun b_14 w_15 h_16 => ?_)
  refine WL.nil (thn_n (WP.seq ?_))
  refine WP.drawT (SL w00.heap.size [.blk b_1 .nw 23 [(32, (List.replicate 32 (0 : UInt8)).map vu8)], .blk ob .nw 50 [(1, [(.bool id)]), (32, ms.map vu8), (1, [(.slice da dn dc)]), (1, [(vn (u + 1))]), (1, [(.map (some mp))]), (1, [(.slice la lg.length lc)])], .view da (df.map vu8)]) (.q 0 (.q 1 (.q 2 (.s 3 (.s 4 .nil))))) (by kernel_rfl) (by kernel_rfl) rfl (by kernel_rfl) (fun w_17 hc_19 => (SL.cons ((h_16.same hc_19).ok _ M1) (SL.cons ((h_16.same hc_19).ok _ M2) (SL.cons ((h_16.same hc_19).ok _ M3) (SL.nil _ _))))) (fun w_17 hc_19 => ?_)
  have h_18 := h_16.same hc_19
  refine qT rfl rfl (fun wq hS => R.sliceA (b := b_14) (off := 0) (off' := 0) (l := 0) (h := 32) rfl EvB.dflt EvB.dflt (by decide) (by decide) Try.underlying23 Try.sizeOf5 rfl) ?_
  refine qT rfl rfl (fun wq hS => R.move (v := (vn u)) rfl) ?_
  refine qT rfl rfl (fun wq hS => R.conv (b := ((UInt64.ofNat u) : UInt64).toNat) rfl Try.underlying3 Try.underlying28 (w64_nat u)) ?_
  refine WT.s (Op1.one rfl (Wn.no rfl) ?_)
  refine WL.call Try.call107 rfl rfl (c_oword (UInt64.ofNat u) _) rfl ?_
  rintro _ w_22 ⟨a_20, cap_21, rfl, hc_23, ho_24⟩
  have h_25 := h_18.gotRow hc_23 ho_24
  refine WL.nil ?_
  refine ⟨(SL.cons (h_25.ok _ M2) (SL.cons (h_25.ok _ M3) (SL.cons (h_25.ok _ M4) (SL.nil _ _)))), ?_⟩
  refine WT.s (Op1.one rfl (Wn.no rfl) ?_)
  refine WL.copy (q := 8) (i := 0) (ys := (leN 8 (UInt64.ofNat u).toNat).map vu8) (cs' := ((leN 8 (UInt64.ofNat u).toNat) ++ (List.replicate 32 (0 : UInt8)).drop 8).map vu8) h_25 rfl rfl Try.underlying37 Try.sizeOf5 (ownView (h_25.ok _ M0)) (len_map (leN_len ..)) (one_u8 _) Y1 (by decide) Sg.h rfl (by decide) (by rw [len_map lr]; decide) (cpPre (leN_len ..)) rfl (fun w_26 h_27 => ?_)
  refine WL.nil ?_
  refine ⟨(SL.cons (h_27.ok _ M2) (SL.cons (h_27.ok _ M3) (SL.cons (h_27.ok _ M4) (SL.nil _ _)))), ?_⟩
  refine WT.nil (thn_n (WP.seq (WP.reg ?_)))
  refine qV rfl (R.indexA (b := b_14) (off := 0) (off' := 31) (i := 31) rfl rfl rfl (by decide) Try.underlying23 Try.sizeOf5 rfl) ?_
  refine WL.storeE (b := b_14) (off := 31) (i := 31) (v := (vu8 1)) (cs' := (((leN 8 (UInt64.ofNat u).toNat) ++ (List.replicate 32 (0 : UInt8)).drop 8).set 31 1).map vu8) h_27 rfl rfl Try.sizeOf5 rfl Y1 (by decide) Sg.h rfl (lt_len (K := 32) (len_map (cpLen (leN_len ..) lr (by decide))) (by decide)) (set_u8 _ _ _) (fun w_28 h_29 => ?_)
  refine WL.nil (thn_n (WP.seq (WP.reg ?_)))
  refine qV rfl (R.loadA (b := b_14) (off := 0) [] [(32, (((leN 8 (UInt64.ofNat u).toNat) ++ (List.replicate 32 (0 : UInt8)).drop 8).set 31 1).map vu8)] [] (cs := (((leN 8 (UInt64.ofNat u).toNat) ++ (List.replicate 32 (0 : UInt8)).drop 8).set 31 1).map vu8) rfl Try.isAgg23 Try.sizeOf23 (h_29.ok _ M1) rfl rfl rfl rfl) ?_
  refine WL.storeA (b := b_1) (off := 0) [] [(32, (List.replicate 32 (0 : UInt8)).map vu8)] [(32, (((leN 8 (UInt64.ofNat u).toNat) ++ (List.replicate 32 (0 : UInt8)).drop 8).set 31 1).map vu8)] [] (ys := (((leN 8 (UInt64.ofNat u).toNat) ++ (List.replicate 32 (0 : UInt8)).drop 8).set 31 1).map vu8) h_29 rfl rfl Try.sizeOf23 Y2 (by decide) rfl rfl rfl rfl rfl rfl (SsOk.cons (SOk.u8 (len_set (cpLen (leN_len ..) lr (by decide)) _ _)) SsOk.nil) (fun w_30 h_31 => ?_)
  refine WL.nil (thn_n (WP.ret ?_))
  refine ret_of Try.results96 (RV.cell rfl (h_31.loadA (cs := (((leN 8 (UInt64.ofNat u).toNat) ++ (List.replicate 32 (0 : UInt8)).drop 8).set 31 1).map vu8) Try.isAgg23 Try.sizeOf23 M2 rfl rfl) RV.nil) ?_
  have h_36 := ((((h_31.drop rfl).drop rfl).drop rfl).up J1).up J1
  exact ⟨by rw [drawF, if_neg (by omega), ← draw_tail (by omega)]; rfl, h_36⟩
end Go.Proofs.Ytnhppjimimhlkaa

namespace Go.Orc
open Go.Vc Go.RowKit
section
variable {w w' w0 : World} {L : List Ent}
theorem HP_blkView {b k : Nat} {T : TypeId} {cs : List Value} (h : HP w0 w (.blk b .nw T [(k, cs)] :: L)) : HP w0 w (.view (some ⟨b, 0, none⟩) cs :: L) := by
  have hb := h.blk (List.mem_cons_self ..)
  have hv : View w (some ⟨b, 0, none⟩) cs := by
    have := hb.2.view 0
    simpa [flat] using this
  refine h.turn .h (View.arg hv) (fun b' hb' => ?_) (fun hm => by cases hm) rfl rfl
  cases cs with
  | nil => simp [Ent.blocks] at hb'
  | cons x r => simpa [Ent.blocks] using hb'
end
end Go.Orc

namespace Go.Orc
open Go.Vc Go.RowKit
end Go.Orc
namespace Go.Orc
open Go.Vc Go.RowKit
end Go.Orc
namespace Go.Orc
open Go.Vc Go.RowKit
end Go.Orc

namespace Go.Orc
open Go.Vc Go.RowKit
def i2u8 (x : Int) : UInt8 := UInt8.ofNat x.toNat
theorem i2u8_w {x : Int} (h : 0 ≤ x) : IntKind.u8.wrap x = ((i2u8 x).toNat : Int) := by
  obtain ⟨n, rfl⟩ := Int.eq_ofNat_of_zero_le h
  rw [w8_nat, i2u8]; rfl
def cT (q : Qn) : List UInt8 := ([i2u8 q.1] ++ q.2.1) ++ [i2u8 q.2.2.1] ++ q.2.2.2
theorem cT_len {q : Qn} {n : Nat} (hq : okQ q) (h : q.2.2.2.length = n) : (cT q).length = 34 + n := by
  obtain ⟨k, key, d, data⟩ := q
  have := hq.1
  simp [cT] at *
  omega
def cF (q : Qn) : List UInt8 := if q.1 = 1 then Go.Sh.sumL (cT q) else Go.Sh.tagL q.2.1 (cT q)
theorem cF_len (q : Qn) : (cF q).length = 32 := by
  unfold cF; split
  · exact Go.Sh.sumL_len _
  · exact Go.Sh.tagL_len _ _
def mF (id : Bool) (df : List UInt8) (dn u : Nat) (q : Qn) : List UInt8 := bif id then drawF df dn u else cF q
theorem mF_len {id : Bool} {df : List UInt8} {dn u : Nat} {q : Qn} (h : df.length = 32 * dn) : (mF id df dn u q).length = 32 := by
  cases id
  · exact cF_len q
  · exact drawF_len h
def anD (id : Bool) (df : List UInt8) (dn u : Nat) (l : Lg) (q : Qn) : List UInt8 := match fdq q l 0 with
  | some i => (l.getD i (q, [])).2
  | none => mF id df dn u q
def anU (id : Bool) (u : Nat) (l : Lg) (q : Qn) : Nat := match fdq q l 0 with
  | some _ => u
  | none => bif id then u + 1 else u
def anL (id : Bool) (df : List UInt8) (dn u : Nat) (l : Lg) (q : Qn) : Lg := match fdq q l 0 with
  | some _ => l
  | none => l ++ [(q, mF id df dn u q)]
section
variable {id : Bool} {df : List UInt8} {dn u : Nat} {l : Lg} {q : Qn} {i : Nat}
theorem anD_hit (h : fdq q l 0 = some i) : anD id df dn u l q = (l.getD i (q, [])).2 := by rw [anD, h]
theorem anU_hit (h : fdq q l 0 = some i) : anU id u l q = u := by rw [anU, h]
theorem anL_hit (h : fdq q l 0 = some i) : anL id df dn u l q = l := by rw [anL, h]
theorem anD_miss (h : fdq q l 0 = none) : anD id df dn u l q = mF id df dn u q := by rw [anD, h]
theorem anU_miss (h : fdq q l 0 = none) : anU id u l q = bif id then u + 1 else u := by rw [anU, h]
theorem anL_miss (h : fdq q l 0 = none) : anL id df dn u l q = l ++ [(q, mF id df dn u q)] := by rw [anL, h]
theorem anU_le (id : Bool) (u : Nat) (l : Lg) (q : Qn) : anU id u l q ≤ u + 1 := by
  rw [anU]; split
  · omega
  · cases id
    · exact Nat.le_succ u
    · exact Nat.le_refl _
theorem anL_le (id : Bool) (df : List UInt8) (dn u : Nat) (l : Lg) (q : Qn) : (anL id df dn u l q).length ≤ l.length + 1 := by
  rw [anL]; split
  · omega
  · rw [snoc_len]; exact Nat.le_refl _
theorem anD_len (h : df.length = 32 * dn) (hl : ok32 l) : (anD id df dn u l q).length = 32 := by
  rw [anD]
  split
  · rename_i i hi
    have := fdq_lt hi
    have hlt : i < l.length := by omega
    have e : l.getD i (q, []) = l[i] := by simp [hlt]
    rw [e]; exact hl _ (List.getElem_mem hlt)
  · exact mF_len h
theorem anL_32 (h : df.length = 32 * dn) (hl : ok32 l) : ok32 (anL id df dn u l q) := by
  rw [anL]
  split
  · exact hl
  · intro p hp
    rcases List.mem_append.1 hp with hp | hp
    · exact hl p hp
    · rw [List.mem_singleton] at hp; subst hp; exact mF_len h
end
end Go.Orc

namespace Go.Proofs.Ytnhppjimimhlkaa
open Go.Vc Go.Orc Go.Sh Go.RowKit
set_option maxRecDepth 20000
theorem ce5 : Try.prog.cellsOf 5 = 1 := by kernel_rfl
theorem ce9 : Try.prog.cellsOf 9 = 1 := by kernel_rfl
theorem ce23 : Try.prog.cellsOf 23 = 32 := by kernel_rfl
theorem ce56 : Try.prog.cellsOf 56 = 1 := by kernel_rfl
theorem ce101 : Try.prog.cellsOf 101 = 1 := by kernel_rfl
theorem ce157 : Try.prog.cellsOf 157 = 35 := by kernel_rfl
theorem el48 : ElT Try.prog 48 111 67 104 := ElT.mk' Try.underlying48 (i := Try.t111) rfl rfl rfl rfl rfl rfl
theorem kt157 : Try.prog.keyTypeAt 3 157 = true := by kernel_rfl
theorem ag157 : aggB Try.prog 157 = true := by unfold aggB; rw [Try.underlying157]
theorem pl111 : ∀ fs, Try.prog.underlying 111 = some (.struct fs) → Places Try.prog fs [(0, 35), (35, 32)] := by
 intro fs h w; rw [Try.underlying111] at h; cases h; simp
theorem pl157 : ∀ fs, Try.prog.underlying 157 = some (.struct fs) → Places Try.prog fs [(0, 1), (1, 32), (33, 1), (34, 1)] := by
 intro fs h w; rw [Try.underlying157] at h; cases h; simp
theorem typQ (q : Qn) (h : okQ q) : Typ Try.prog 3 157 (kC q) := by
 obtain ⟨h0, h1, h2, h3⟩ := h
 have h : okQ q := ⟨h0, h1, h2, h3⟩
 exact (Typ.struct (h := 2) (r := [(1, [(vi q.1)]), (32, q.2.1.map vu8), (1, [(vi q.2.2.1)]), (1, [(.string (bstr q.2.2.2))])]) (cs := flat [(1, [(vi q.1)]), (32, q.2.1.map vu8), (1, [(vi q.2.2.1)]), (1, [(.string (bstr q.2.2.2))])]) Try.underlying157 (TypF.cons (k := 1) rfl rfl (by decide) rfl (Typ.int Try.underlying101 ce101 (WalkArith.wf_i64 (by omega))) (TypF.cons (k := 32) rfl rfl (by decide) (len_map h.1) (Typ.u8s Try.underlying23 ce23 Try.underlying5 ce5 h.1) (TypF.cons (k := 1) rfl rfl (by decide) rfl (Typ.int Try.underlying56 ce56 (WalkArith.wf_i64 (by omega))) (TypF.cons (k := 1) rfl rfl (by decide) rfl (Typ.str Try.underlying9 ce9 (by rw [bstr_size]; simp only [maxLen]; omega)) TypF.nil)))) rfl (((SsOk.cons (SOk.v rfl) (SsOk.cons (SOk.u8 h.1) (SsOk.cons (SOk.v rfl) (SsOk.cons (SOk.v rfl) SsOk.nil))))).len.trans ce157.symm))

theorem c_oText (kd dm : Int) (key data : List UInt8) (qa : Option Addr) (qn qc : Nat) (hq : okQ (kd, key, dm, data)) (hdl : data.length = qn) (w : World) (hv : View w qa (data.map vu8)) :
  Cs Try.prog 82 [(.agg ⟨flat [(1, [(vi kd)]), (32, key.map vu8), (1, [(vi dm)]), (1, [(.slice qa qn qc)])]⟩)].toArray w (fun v w1 => ∃ a cap, v = .slice a (34 + qn) cap ∧ Chg w w1 [] ∧ Own w.heap.size w1 5 1 a (34 + qn) cap ((cT (kd, key, dm, data)).map vu8)) := by
 have hk1 : 1 ≤ kd ∧ kd ≤ 4 := hq.2.1
 have hd1 : 1 ≤ dm ∧ dm ≤ 16 := hq.2.2.1
 have hqn : data.length ≤ 1000000000 := hq.2.2.2
 refine Cs.of (n := 20) (args := [(.agg ⟨flat [(1, [(vi kd)]), (32, key.map vu8), (1, [(vi dm)]), (1, [(.slice qa qn qc)])]⟩)]) Try.func82 rfl rfl rfl ?_
 have h_0 := HP.init w
 have h_00 := h_0.old (View.arg hv) (fun f hf => by cases hf)
 refine WP.seq (WP.reg ?_)
 refine WL.box (v := (.agg ⟨flat [(1, [(vi kd)]), (32, key.map vu8), (1, [(vi dm)]), (1, [(.slice qa qn qc)])]⟩)) (segs := [(1, [(vi kd)]), (32, key.map vu8), (1, [(vi dm)]), (1, [(.slice qa qn qc)])]) h_00 rfl rfl (SsOk.cons (SOk.v rfl) (SsOk.cons (SOk.u8 hq.1) (SsOk.cons (SOk.v rfl) (SsOk.cons (SOk.v rfl) SsOk.nil)))) rfl (fun b_1 w_2 h_3 => ?_)
 refine qA (.slice none 0 0) rfl rfl ?_
 refine WL.nil (thn_n (WP.seq ?_))
 refine WP.drawT (SL w.heap.size [.blk b_1 .nw 103 [(1, [(vi kd)]), (32, key.map vu8), (1, [(vi dm)]), (1, [(.slice qa qn qc)])], .view qa (data.map vu8)]) (.q 0 (.q 1 (.q 2 (.q 4 (.q 5 (.s 3 (.s 6 (.q 7 .nil)))))))) (by kernel_rfl) (by kernel_rfl) rfl (by kernel_rfl) (fun w_4 hc_6 => (SL.cons ((h_3.same hc_6).ok _ M0) (SL.cons ((h_3.same hc_6).ok _ M1) (SL.nil _ _)))) (fun w_4 hc_6 => ?_)
 have h_5 := h_3.same hc_6
 refine qT rfl rfl (fun wq hS => R.fieldAddr (b := b_1) (off := 0) (off' := 0) rfl Try.underlying103 rfl Try.sizeOf101 rfl rfl) ?_
 refine qT rfl rfl (fun wq hS => R.load1 (b := b_1) (off := 0) (v := (vi kd)) rfl Try.isAgg101 (hS _ M0) Sg.h) ?_
 refine qT rfl rfl (fun wq hS => R.conv (b := ((i2u8 kd) : UInt8).toNat) rfl Try.underlying101 Try.underlying5 (i2u8_w (by omega))) ?_
 refine qT rfl rfl (fun wq hS => R.fieldAddr (b := b_1) (off := 0) (off' := 1) rfl Try.underlying103 rfl Try.sizeOf23 rfl rfl) ?_
 refine qT rfl rfl (fun wq hS => R.sliceA (b := b_1) (off := 1) (off' := 1) (l := 0) (h := 32) rfl EvB.dflt EvB.dflt (by decide) (by decide) Try.underlying23 Try.sizeOf5 rfl) ?_
 refine WT.s (Op1.one rfl (Wn.no rfl) ?_)
 refine WL.buildSl (vs := [(0, (vu8 (i2u8 kd)))]) (cs := ([i2u8 kd] : List UInt8).map vu8) h_5 Try.underlying37 Try.sizeOf5 (zv Try.typeInfo5 rfl) rfl rfl (by kernel_rfl) rfl (one_u8 _) rfl rfl (fun b_7 w_8 h_9 => ?_)
 refine WL.nil ?_
 refine ⟨(SL.cons (h_9.ok _ M1) (SL.cons (h_9.ok _ M2) (SL.nil _ _))), ?_⟩
 refine WT.s (Op1.one rfl (Wn.no rfl) ?_)
 have h_10 := HP.blkRow (m := 1) (s := 1) h_9 At.h rfl (by simp only [maxLen]; decide)
 refine WL.append (km := 33) (xs := ([i2u8 kd] : List UInt8).map vu8) (ys := key.map vu8) (zs := (([i2u8 kd] : List UInt8) ++ key).map vu8) h_10 rfl rfl el37 (viewB (h_10.ok _ M1) (Sg.t rfl Sg.h)) ((len_map hq.1).trans (Nat.mul_one _).symm) (one_u8 _) (by simp only [List.map_append, List.map_nil]) rfl (by omega) (by omega) (fun _ _ => At.h) rfl (fun a_11 c_12 w_13 h_14 => ?_)
 refine WL.nil ?_
 refine ⟨(SL.cons (h_14.ok _ M1) (SL.cons (h_14.ok _ M2) (SL.nil _ _))), ?_⟩
 refine qT rfl rfl (fun wq hS => R.assign (v := (.slice a_11 33 c_12)) rfl) ?_
 refine WT.nil (thn_n (WP.seq ?_))
 refine WP.drawT (SL w.heap.size [.blk b_1 .nw 103 [(1, [(vi kd)]), (32, key.map vu8), (1, [(vi dm)]), (1, [(.slice qa qn qc)])], .view qa (data.map vu8)]) (.q 0 (.q 1 (.q 2 (.q 3 (.q 6 (.q 7 (.s 4 (.s 5 (.s 8 (.q 9 .nil)))))))))) (by kernel_rfl) (by kernel_rfl) rfl (by kernel_rfl) (fun w_15 hc_17 => (SL.cons ((h_14.same hc_17).ok _ M1) (SL.cons ((h_14.same hc_17).ok _ M2) (SL.nil _ _)))) (fun w_15 hc_17 => ?_)
 have h_16 := h_14.same hc_17
 refine qT rfl rfl (fun wq hS => R.move (v := (.slice a_11 33 c_12)) rfl) ?_
 refine qT rfl rfl (fun wq hS => R.fieldAddr (b := b_1) (off := 0) (off' := 33) rfl Try.underlying103 rfl Try.sizeOf56 rfl rfl) ?_
 refine qT rfl rfl (fun wq hS => R.load1 (b := b_1) (off := 33) (v := (vi dm)) rfl Try.isAgg56 (hS _ M0) (Sg.t rfl (Sg.t rfl Sg.h))) ?_
 refine qT rfl rfl (fun wq hS => R.conv (b := ((i2u8 dm) : UInt8).toNat) rfl Try.underlying56 Try.underlying5 (i2u8_w (by omega))) ?_
 refine qT rfl rfl (fun wq hS => R.fieldAddr (b := b_1) (off := 0) (off' := 34) rfl Try.underlying103 rfl Try.sizeOf37 rfl rfl) ?_
 refine qT rfl rfl (fun wq hS => R.load1 (b := b_1) (off := 34) (v := (.slice qa qn qc)) rfl Try.isAgg37 (hS _ M0) (Sg.t rfl (Sg.t rfl (Sg.t rfl Sg.h)))) ?_
 refine WT.s (Op1.one rfl (Wn.no rfl) ?_)
 refine WL.buildSl (vs := [(0, (vu8 (i2u8 dm)))]) (cs := ([i2u8 dm] : List UInt8).map vu8) h_16 Try.underlying37 Try.sizeOf5 (zv Try.typeInfo5 rfl) rfl rfl (by kernel_rfl) rfl (one_u8 _) rfl rfl (fun b_18 w_19 h_20 => ?_)
 refine WL.nil ?_
 refine ⟨(SL.cons (h_20.ok _ M2) (SL.cons (h_20.ok _ M3) (SL.nil _ _))), ?_⟩
 refine WT.s (Op1.one rfl (Wn.no rfl) ?_)
 refine WL.append (km := 34) (xs := (([i2u8 kd] : List UInt8) ++ key).map vu8) (ys := ([i2u8 dm] : List UInt8).map vu8) (zs := ((([i2u8 kd] : List UInt8) ++ key) ++ ([i2u8 dm] : List UInt8)).map vu8) h_20 rfl rfl el37 (viewB (h_20.ok _ M0) Sg.h) ((len_map (rfl : List.length ([i2u8 dm] : List UInt8) = 1)).trans (Nat.mul_one _).symm) (one_u8 _) (by simp only [List.map_append, List.map_nil]) rfl (by omega) (by omega) (fun _ _ => Y1) rfl (fun a_21 c_22 w_23 h_24 => ?_)
 refine WL.nil ?_
 refine ⟨(SL.cons (h_24.ok _ M2) (SL.cons (h_24.ok _ M3) (SL.nil _ _))), ?_⟩
 refine WT.s (Op1.one rfl (Wn.no rfl) ?_)
 refine WL.append (km := 34 + qn) (xs := ((([i2u8 kd] : List UInt8) ++ key) ++ ([i2u8 dm] : List UInt8)).map vu8) (ys := data.map vu8) (zs := (((([i2u8 kd] : List UInt8) ++ key) ++ ([i2u8 dm] : List UInt8)) ++ data).map vu8) h_24 rfl rfl el37 (viewV (h_24.ok _ M3)) ((len_map hdl).trans (Nat.mul_one _).symm) (one_u8 _) (by simp only [List.map_append, List.map_nil]) (by omega) (by omega) (by omega) (fun _ _ => Y1) rfl (fun a_25 c_26 w_27 h_28 => ?_)
 refine WL.nil ?_
 refine ⟨(SL.cons (h_28.ok _ M2) (SL.cons (h_28.ok _ M3) (SL.nil _ _))), ?_⟩
 refine qT rfl rfl (fun wq hS => R.assign (v := (.slice a_25 (34 + qn) c_26)) rfl) ?_
 refine WT.nil (thn_n (WP.ret ?_))
 refine ret_of Try.results82 (RV.tmp (v := (.slice a_25 (34 + qn) c_26)) rfl RV.nil) ?_
 exact ⟨_, _, by first | rfl | exact congrArg (fun n => Value.slice _ n _) (by omega), h_28.chgS, by first | exact h_28.ok _ M1 | (have hx := h_28.own M1; rwa [show 34 + qn = 34 + qn by omega] at hx)⟩

theorem c_oCl (kd dm : Int) (key data : List UInt8) (qa : Option Addr) (qn qc : Nat) (hq : okQ (kd, key, dm, data)) (hdl : data.length = qn) (bq : Nat) (w : World) (hv : View w qa (data.map vu8)) (hcb : (Ent.blk bq .ro 103 [(1, [(vi kd)]), (32, key.map vu8), (1, [(vi dm)]), (1, [(.slice qa qn qc)])]).ok w.heap.size w) :
  Cs Try.prog 80 [(.pointer (some ⟨bq, 0, none⟩))].toArray w (fun v w1 => v = (.agg ⟨(cF (kd, key, dm, data)).map vu8⟩) ∧ Chg w w1 []) := by
 have hk1 : 1 ≤ kd ∧ kd ≤ 4 := hq.2.1
 have hd1 : 1 ≤ dm ∧ dm ≤ 16 := hq.2.2.1
 have hqn : data.length ≤ 1000000000 := hq.2.2.2
 refine Cs.of (n := 13) (args := [(pO bq 0)]) Try.func80 rfl rfl rfl ?_
 have h_0 := HP.init w
 have h_01 := h_0.oldV (View.arg hv) rfl (by simp [Ent.mut])
 have h_00 := h_01.oldV hcb rfl (by simp [Ent.mut])
 refine WP.seq (WP.reg ?_)
 refine WL.alloc (segs := [(32, (List.replicate 32 (0 : UInt8)).map vu8)]) h_00 (zv Try.typeInfo23 rfl) rfl (SsOk.cons (SOk.u8 lr) SsOk.nil) rfl (fun b_1 w_2 h_3 => ?_)
 refine WL.nil (thn_n (WP.seq (WP.seq (WP.reg ?_))))
 refine qV rfl (R.fieldAddr (b := bq) (off := 0) (off' := 0) rfl Try.underlying103 rfl Try.sizeOf101 rfl rfl) (qV rfl (R.load1 (b := bq) (off := 0) (v := (vi kd)) rfl Try.isAgg101 (h_3.ok _ M1) Sg.h) (qV rfl (R.bin rfl rfl (bi_eql (r := decide ((kd : Int) = 1)) rfl)) ?_))
 refine WL.nil (thn_n ?_)
 refine WP.cond (b := decide ((kd : Int) = 1)) rfl (fun c_4 => ?_) (fun c_4 => ?_)
 ·have p_5 := of_decide_eq_true c_4
  refine WP.seq (WP.reg ?_)
  refine qV rfl (R.loadA (b := bq) (off := 0) [] [(1, [(vi kd)]), (32, key.map vu8), (1, [(vi dm)]), (1, [(.slice qa qn qc)])] [] (cs := flat [(1, [(vi kd)]), (32, key.map vu8), (1, [(vi dm)]), (1, [(.slice qa qn qc)])]) rfl Try.isAgg103 Try.sizeOf103 (h_3.ok _ M1) rfl rfl rfl rfl) ?_
  refine WL.call Try.call82 rfl rfl (c_oText kd dm key data qa qn qc hq hdl _ (viewV (h_3.ok _ M2))) rfl ?_
  rintro _ w_8 ⟨a_6, cap_7, rfl, hc_9, ho_10⟩
  have h_11 := h_3.gotRow hc_9 ho_10
  refine WL.call Try.call81 rfl rfl (c_Sum a_6 (34 + qn) cap_7 (cT (kd, key, dm, data)) (cT_len hq hdl) (by omega) (h_11.own M0).2.2.1 _ (ownView (h_11.ok _ M0))) rfl ?_
  rintro _ w_13 ⟨rfl, hc_12⟩
  have h_14 := h_11.same hc_12
  refine WL.storeA (b := b_1) (off := 0) [] [(32, (List.replicate 32 (0 : UInt8)).map vu8)] [(32, (sumL (cT (kd, key, dm, data))).map vu8)] [] (ys := (sumL (cT (kd, key, dm, data))).map vu8) h_14 rfl rfl Try.sizeOf23 Y1 (by decide) rfl rfl rfl rfl rfl rfl (SsOk.cons (SOk.u8 (sumL_len _)) SsOk.nil) (fun w_15 h_16 => ?_)
  refine WL.nil (thn_n (WP.ret (thn_r ?_)))
  refine ret_of Try.results80 (RV.cell rfl (h_16.loadA (cs := (sumL (cT (kd, key, dm, data))).map vu8) Try.isAgg23 Try.sizeOf23 M1 rfl rfl) RV.nil) ?_
  exact ⟨by rw [cF, if_pos p_5]; rfl, h_16.chgS⟩
 ·have p_17 := of_decide_eq_false c_4
  refine WP.skip (thn_n (WP.seq ?_))
  refine WP.drawZ 5 (SL w.heap.size [.blk b_1 .nw 23 [(32, (List.replicate 32 (0 : UInt8)).map vu8)], .blk bq .ro 103 [(1, [(vi kd)]), (32, key.map vu8), (1, [(vi dm)]), (1, [(.slice qa qn qc)])], .view qa (data.map vu8)]) (.q 0 (.q 1 (.q 2 (.s 3 (.s 4 (.s 5 .nil)))))) (by kernel_rfl) (by kernel_rfl) rfl (by kernel_rfl) (fun w_18 hc_20 => (SL.cons ((h_3.same hc_20).ok _ M0) (SL.cons ((h_3.same hc_20).ok _ M1) (SL.cons ((h_3.same hc_20).ok _ M2) (SL.nil _ _))))) (fun w_18 hc_20 => ?_)
  have h_19 := h_3.same hc_20
  refine ZT.q rfl (Wn.no rfl) rfl rfl (fun wq hS => R.fieldAddr (b := bq) (off := 0) (off' := 1) rfl Try.underlying103 rfl Try.sizeOf23 rfl rfl) ?_
  refine ZT.q rfl (Wn.no rfl) rfl rfl (fun wq hS => R.sliceA (b := bq) (off := 1) (off' := 1) (l := 0) (h := 32) rfl EvB.dflt EvB.dflt (by decide) (by decide) Try.underlying23 Try.sizeOf5 rfl) ?_
  refine ZT.q rfl (Wn.no rfl) rfl rfl (fun wq hS => R.loadA (b := bq) (off := 0) [] [(1, [(vi kd)]), (32, key.map vu8), (1, [(vi dm)]), (1, [(.slice qa qn qc)])] [] (cs := flat [(1, [(vi kd)]), (32, key.map vu8), (1, [(vi dm)]), (1, [(.slice qa qn qc)])]) rfl Try.isAgg103 Try.sizeOf103 (hS _ M1) rfl rfl rfl rfl) ?_
  refine ZT.s ?_
  refine OpZ.one rfl (Wn.no rfl) ?_
  refine WL.call Try.call82 rfl rfl (c_oText kd dm key data qa qn qc hq hdl _ (viewV (h_19.ok _ M2))) rfl ?_
  rintro _ w_23 ⟨a_21, cap_22, rfl, hc_24, ho_25⟩
  have h_26 := h_19.gotRow hc_24 ho_25
  refine WL.nil ?_
  refine ⟨(SL.cons (h_26.ok _ M1) (SL.cons (h_26.ok _ M2) (SL.cons (h_26.ok _ M3) (SL.nil _ _)))), ?_⟩
  refine ZT.s ?_
  refine OpZ.one rfl (Wn.no rfl) ?_
  refine WL.call Try.call83 rfl rfl (c_Tag (some ⟨bq, 1, none⟩) 32 32 key hq.1 (by decide) (by decide) a_21 (34 + qn) cap_22 (cT (kd, key, dm, data)) (cT_len hq hdl) (h_26.own M0).2.2.1 (by omega) _ (viewB (h_26.ok _ M2) (Sg.t rfl Sg.h)) (ownView (h_26.ok _ M0))) rfl ?_
  rintro _ w_28 ⟨rfl, hc_27⟩
  have h_29 := h_26.same hc_27
  refine WL.nil ?_
  refine ⟨(SL.cons (h_29.ok _ M1) (SL.cons (h_29.ok _ M2) (SL.cons (h_29.ok _ M3) (SL.nil _ _)))), ?_⟩
  refine ZT.s ?_
  refine OpZ.last rfl (Wn.no rfl) ?_
  refine WL.storeA (b := b_1) (off := 0) [] [(32, (List.replicate 32 (0 : UInt8)).map vu8)] [(32, (tagL key (cT (kd, key, dm, data))).map vu8)] [] (ys := (tagL key (cT (kd, key, dm, data))).map vu8) h_29 rfl rfl Try.sizeOf23 Y1 (by decide) rfl rfl rfl rfl rfl rfl (SsOk.cons (SOk.u8 (tagL_len _ _)) SsOk.nil) (fun w_30 h_31 => ?_)
  refine WL.nil (ZT.nil (thn_n (WP.ret ?_)))
  refine ret_of Try.results80 (RV.cell rfl (h_31.loadA (cs := (tagL key (cT (kd, key, dm, data))).map vu8) Try.isAgg23 Try.sizeOf23 M1 rfl rfl) RV.nil) ?_
  exact ⟨by rw [cF, if_neg p_17]; rfl, h_31.chgS⟩

theorem c_ans_hit {w00 : World} {L : List Ent} (id : Bool) (ob mp : Nat) (ms df : List UInt8) (hms : ms.length = 32) (da : Option Addr) (dn dc u : Nat) (hdf : df.length = 32 * dn) (la : Option Addr) (lc : Nat) (lx : List Value) (lg : Lg) (hu : u ≤ 1000000) (hlg : lg.length ≤ 1000000) (kd dm : Int) (key data : List UInt8) (qa : Option Addr) (qn qc : Nat) (hq : okQ (kd, key, dm, data)) (hdl : data.length = qn) (cv : Value) (i : Nat) (hfd : fdq (kd, key, dm, data) lg 0 = some i) (w : World) (h_0 : HP w00 w (Ent.blk ob .nw 50 [(1, [(.bool id)]), (32, ms.map vu8), (1, [(.slice da dn dc)]), (1, [(vi ((u : Nat) : Int))]), (1, [(.map (some mp))]), (1, [(.slice la lg.length lc)])] :: Ent.row la lg.length lc 111 67 lx :: Ent.obj mp .nw (.map (mArr lg) lg.length) :: Ent.pin (sblks lx) (fun w => Lgs w lx lg) :: Ent.view da (df.map vu8) :: Ent.view qa (data.map vu8) :: L)) :
  Cs Try.prog 79 [(.pointer (some ⟨ob, 0, none⟩)), (.agg ⟨flat [(1, [(vi kd)]), (32, key.map vu8), (1, [(vi dm)]), (1, [(.slice qa qn qc)])]⟩), cv].toArray w (fun v w1 => ∃ la' lc' lx', v = (.agg ⟨(anD id df dn u lg (kd, key, dm, data)).map vu8⟩) ∧ HP w00 w1 (Ent.blk ob .nw 50 [(1, [(.bool id)]), (32, ms.map vu8), (1, [(.slice da dn dc)]), (1, [(vi (((anU id u lg (kd, key, dm, data)) : Nat) : Int))]), (1, [(.map (some mp))]), (1, [(.slice la' ((anL id df dn u lg (kd, key, dm, data)).length) lc')])] :: Ent.row la' ((anL id df dn u lg (kd, key, dm, data)).length) lc' 111 67 lx' :: Ent.obj mp .nw (.map (mArr (anL id df dn u lg (kd, key, dm, data))) ((anL id df dn u lg (kd, key, dm, data)).length)) :: Ent.pin (sblks lx') (fun w => Lgs w lx' (anL id df dn u lg (kd, key, dm, data))) :: Ent.view da (df.map vu8) :: Ent.view qa (data.map vu8) :: L)) := by
 have hlgs : Lgs w lx lg := (h_0.ok _ M3).1
 have hlo := hlgs.ok
 have hqn : data.length ≤ 1000000000 := hq.2.2.2
 have hil : i < lg.length := by have := fdq_lt hfd; omega
 refine Cs.of (n := 74) (args := [(pO ob 0), (.agg ⟨flat [(1, [(vi kd)]), (32, key.map vu8), (1, [(vi dm)]), (1, [(.slice qa qn qc)])]⟩), cv]) Try.func79 rfl rfl rfl ?_
 refine WP.seq (WP.reg ?_)
 refine WL.box (v := (.agg ⟨flat [(1, [(vi kd)]), (32, key.map vu8), (1, [(vi dm)]), (1, [(.slice qa qn qc)])]⟩)) (segs := [(1, [(vi kd)]), (32, key.map vu8), (1, [(vi dm)]), (1, [(.slice qa qn qc)])]) h_0 rfl rfl (SsOk.cons (SOk.v rfl) (SsOk.cons (SOk.u8 hq.1) (SsOk.cons (SOk.v rfl) (SsOk.cons (SOk.v rfl) SsOk.nil)))) rfl (fun b_1 w_2 h_3 => ?_)
 refine WL.alloc (segs := [(32, (List.replicate 32 (0 : UInt8)).map vu8)]) h_3 (zv Try.typeInfo23 rfl) rfl (SsOk.cons (SOk.u8 lr) SsOk.nil) rfl (fun b_4 w_5 h_6 => ?_)
 refine WL.nil (thn_n (WP.seq (WP.reg ?_)))
 refine qV rfl (R.fieldAddr (b := b_1) (off := 0) (off' := 0) rfl Try.underlying103 rfl Try.sizeOf101 rfl rfl) (qV rfl (R.load1 (b := b_1) (off := 0) (v := (vi kd)) rfl Try.isAgg101 (h_6.ok _ M1) Sg.h) (qV rfl (R.fieldAddr (b := b_1) (off := 0) (off' := 1) rfl Try.underlying103 rfl Try.sizeOf23 rfl rfl) (qV rfl (R.loadA (b := b_1) (off := 1) [(1, [(vi kd)])] [(32, key.map vu8)] [(1, [(vi dm)]), (1, [(.slice qa qn qc)])] (cs := key.map vu8) rfl Try.isAgg23 Try.sizeOf23 (h_6.ok _ M1) rfl rfl rfl rfl) (qV rfl (R.fieldAddr (b := b_1) (off := 0) (off' := 33) rfl Try.underlying103 rfl Try.sizeOf56 rfl rfl) (qV rfl (R.load1 (b := b_1) (off := 33) (v := (vi dm)) rfl Try.isAgg56 (h_6.ok _ M1) (Sg.t rfl (Sg.t rfl Sg.h))) (qV rfl (R.fieldAddr (b := b_1) (off := 0) (off' := 34) rfl Try.underlying103 rfl Try.sizeOf37 rfl rfl) (qV rfl (R.load1 (b := b_1) (off := 34) (v := (.slice qa qn qc)) rfl Try.isAgg37 (h_6.ok _ M1) (Sg.t rfl (Sg.t rfl (Sg.t rfl Sg.h)))) (qV rfl (R.toStr (bs := data) rfl Try.underlying37 Try.underlying5 Try.underlying9 (viewV (h_6.ok _ M7)) hdl) (qV rfl (R.buildS (pl := [(0, 1), (1, 32), (33, 1), (34, 1)]) (zs := [(1, [(vi 0)]), (32, (List.replicate 32 (0 : UInt8)).map vu8), (1, [(vi 0)]), (1, [(.string (bstr ([] : List UInt8)))])]) (vs := [(0, (vi kd)), (1, (.agg ⟨key.map vu8⟩)), (2, (vi dm)), (3, (.string (bstr data)))]) (out := [(1, [(vi kd)]), (32, key.map vu8), (1, [(vi dm)]), (1, [(.string (bstr data))])]) (cs := flat [(1, [(vi kd)]), (32, key.map vu8), (1, [(vi dm)]), (1, [(.string (bstr data))])]) Try.underlying157 (zv Try.typeInfo157 rfl) rfl (SsOk.cons (SOk.v rfl) (SsOk.cons (SOk.u8 lr) (SsOk.cons (SOk.v rfl) (SsOk.cons (SOk.v rfl) SsOk.nil)))) (pl157 _ Try.underlying157) rfl (FillR.cons [] [(1, [(vi 0)])] [(1, [(vi kd)])] [(32, (List.replicate 32 (0 : UInt8)).map vu8), (1, [(vi 0)]), (1, [(.string (bstr ([] : List UInt8)))])] rfl rfl rfl rfl (SsOk.cons (SOk.v rfl) SsOk.nil) rfl rfl rfl (FillR.cons [(1, [(vi kd)])] [(32, (List.replicate 32 (0 : UInt8)).map vu8)] [(32, key.map vu8)] [(1, [(vi 0)]), (1, [(.string (bstr ([] : List UInt8)))])] rfl rfl rfl rfl (SsOk.cons (SOk.u8 hq.1) SsOk.nil) rfl rfl rfl (FillR.cons [(1, [(vi kd)]), (32, key.map vu8)] [(1, [(vi 0)])] [(1, [(vi dm)])] [(1, [(.string (bstr ([] : List UInt8)))])] rfl rfl rfl rfl (SsOk.cons (SOk.v rfl) SsOk.nil) rfl rfl rfl (FillR.cons [(1, [(vi kd)]), (32, key.map vu8), (1, [(vi dm)])] [(1, [(.string (bstr ([] : List UInt8)))])] [(1, [(.string (bstr data))])] [] rfl rfl rfl rfl (SsOk.cons (SOk.v rfl) SsOk.nil) rfl rfl rfl FillR.nil)))) rfl) ?_)))))))))
 refine WL.alloc (segs := [(1, [(vi 0)]), (32, (List.replicate 32 (0 : UInt8)).map vu8), (1, [(vi 0)]), (1, [(.string (bstr ([] : List UInt8)))])]) h_6 (zv Try.typeInfo157 rfl) rfl (SsOk.cons (SOk.v rfl) (SsOk.cons (SOk.u8 lr) (SsOk.cons (SOk.v rfl) (SsOk.cons (SOk.v rfl) SsOk.nil)))) rfl (fun b_8 w_9 h_10 => ?_)
 refine WL.storeA (b := b_8) (off := 0) [] [(1, [(vi 0)]), (32, (List.replicate 32 (0 : UInt8)).map vu8), (1, [(vi 0)]), (1, [(.string (bstr ([] : List UInt8)))])] [(1, [(vi kd)]), (32, key.map vu8), (1, [(vi dm)]), (1, [(.string (bstr data))])] [] (ys := flat [(1, [(vi kd)]), (32, key.map vu8), (1, [(vi dm)]), (1, [(.string (bstr data))])]) h_10 rfl rfl Try.sizeOf157 At.h (by decide) rfl rfl rfl rfl rfl rfl (SsOk.cons (SOk.v rfl) (SsOk.cons (SOk.u8 hq.1) (SsOk.cons (SOk.v rfl) (SsOk.cons (SOk.v rfl) SsOk.nil)))) (fun w_11 h_12 => ?_)
 refine WL.nil (thn_n (WP.seq (WP.seq ?_)))
 refine WP.drawT (SL w00.heap.size [.blk b_8 .nw 157 [(1, [(vi kd)]), (32, key.map vu8), (1, [(vi dm)]), (1, [(.string (bstr data))])], .blk b_4 .nw 23 [(32, (List.replicate 32 (0 : UInt8)).map vu8)], .blk b_1 .nw 103 [(1, [(vi kd)]), (32, key.map vu8), (1, [(vi dm)]), (1, [(.slice qa qn qc)])], .blk ob .nw 50 [(1, [(.bool id)]), (32, ms.map vu8), (1, [(.slice da dn dc)]), (1, [(vn u)]), (1, [(.map (some mp))]), (1, [(.slice la lg.length lc)])], .row la lg.length lc 111 67 lx, .obj mp .nw (.map (mArr lg) lg.length), .pin (sblks lx) (fun w => Lgs w lx lg), .view da (df.map vu8), .view qa (data.map vu8)]) (.q 0 (.q 1 (.q 2 (.q 3 (.q 4 (.s 5 (.q 6 (.q 7 (.q 8 (.q 9 (.q 10 .nil))))))))))) (by kernel_rfl) (by kernel_rfl) rfl (by kernel_rfl) (fun w_13 hc_15 => (SL.cons ((h_12.same hc_15).ok _ M0) (SL.cons ((h_12.same hc_15).ok _ M1) (SL.cons ((h_12.same hc_15).ok _ M2) (SL.cons ((h_12.same hc_15).ok _ M3) (SL.cons ((h_12.same hc_15).ok _ M4) (SL.cons ((h_12.same hc_15).ok _ M5) (SL.cons ((h_12.same hc_15).ok _ M6) (SL.cons ((h_12.same hc_15).ok _ M7) (SL.cons ((h_12.same hc_15).ok _ M8) (SL.nil _ _))))))))))) (fun w_13 hc_15 => ?_)
 have h_14 := h_12.same hc_15
 refine qT rfl rfl (fun wq hS => R.move (v := (pO ob 0)) rfl) ?_
 refine qT rfl rfl (fun wq hS => R.nilCheck rfl) ?_
 refine qT rfl rfl (fun wq hS => R.fieldAddr (b := ob) (off := 0) (off' := 35) rfl Try.underlying50 rfl Try.sizeOf47 rfl rfl) ?_
 refine qT rfl rfl (fun wq hS => R.load1 (b := ob) (off := 35) (v := (.map (some mp))) rfl Try.isAgg47 (hS _ M3) (Sg.t rfl (Sg.t rfl (Sg.t rfl (Sg.t rfl Sg.h))))) ?_
 refine qT rfl rfl (fun wq hS => R.loadA (b := b_8) (off := 0) [] [(1, [(vi kd)]), (32, key.map vu8), (1, [(vi dm)]), (1, [(.string (bstr data))])] [] (cs := flat [(1, [(vi kd)]), (32, key.map vu8), (1, [(vi dm)]), (1, [(.string (bstr data))])]) rfl Try.isAgg157 Try.sizeOf157 (hS _ M0) rfl rfl rfl rfl) ?_
 refine WT.s (Op1.one rfl (Wn.no rfl) ?_)
 refine qV rfl (R.lookup (r := some (i, vi (i : Int))) (z := (vi 0)) (v := (vn i)) (ok := true) rfl rfl Try.underlying47 (h_14.ok _ M5) (Ck.agg kt157 (by decide) ag157 (typQ (kd, key, dm, data) hq)) (log_hit kt157 (by decide) ag157 typQ hq hlo hfd) (zv Try.typeInfo3 rfl) rfl rfl) ?_
 refine WL.nil ?_
 refine ⟨(SL.cons (h_14.ok _ M0) (SL.cons (h_14.ok _ M1) (SL.cons (h_14.ok _ M2) (SL.cons (h_14.ok _ M3) (SL.cons (h_14.ok _ M4) (SL.cons (h_14.ok _ M5) (SL.cons (h_14.ok _ M6) (SL.cons (h_14.ok _ M7) (SL.cons (h_14.ok _ M8) (SL.nil _ _)))))))))), ?_⟩
 refine qT rfl rfl (fun wq hS => R.move (v := (.tuple [(vn i), (.bool true)].toArray)) rfl) ?_
 refine qT rfl rfl (fun wq hS => R.extract rfl rfl) ?_
 refine qT rfl rfl (fun wq hS => R.extract rfl rfl) ?_
 refine qT rfl rfl (fun wq hS => R.assign (v := (vn i)) rfl) ?_
 refine qT rfl rfl (fun wq hS => R.assign (v := (.bool true)) rfl) ?_
 refine WT.nil (thn_n (WP.seq (WP.reg ?_)))
 refine qM (.bool true) rfl rfl ?_
 refine WL.nil (thn_n ?_)
 refine WP.condT rfl ?_
 refine WP.seq (WP.reg ?_)
 refine qM (pO ob 0) rfl rfl (qV rfl (R.nilCheck rfl) (qV rfl (R.fieldAddr (b := ob) (off := 0) (off' := 36) rfl Try.underlying50 rfl Try.sizeOf48 rfl rfl) (qV rfl (R.load1 (b := ob) (off := 36) (v := (.slice la lg.length lc)) rfl Try.isAgg48 (h_14.ok _ M3) (Sg.t rfl (Sg.t rfl (Sg.t rfl (Sg.t rfl (Sg.t rfl Sg.h)))))) (qM (vn i) rfl rfl (qV rfl (R.indexS (a := la) (i := i) (off := i * 67) (xs := lx) rfl rfl rfl (by omega) (ownView (h_14.ok _ M4)) (by rw [Lgs.len hlgs]; omega) Try.underlying48 Try.sizeOf111 rfl) (qV rfl (R.fieldG (a := la) (i := i * 67) (off' := i * 67 + 35) rfl Try.underlying111 rfl Try.sizeOf23 rfl rfl) (qV rfl (R.loadGA (a := la) (i := i * 67 + 35) (xs := lx) (cs := ((lg.getD i ((kd, key, dm, data), [])).2).map vu8) rfl (ownView (h_14.ok _ M4)) Try.isAgg23 Try.sizeOf23 (Lgs.ans (z := ((kd, key, dm, data), [])) hlgs (i := i) hil).1 (len_map (Lgs.ans (z := ((kd, key, dm, data), [])) hlgs (i := i) hil).2) (by decide)) ?_)))))))
 refine WL.storeA (b := b_4) (off := 0) [] [(32, (List.replicate 32 (0 : UInt8)).map vu8)] [(32, ((lg.getD i ((kd, key, dm, data), [])).2).map vu8)] [] (ys := ((lg.getD i ((kd, key, dm, data), [])).2).map vu8) h_14 rfl rfl Try.sizeOf23 Y1 (by decide) rfl rfl rfl rfl rfl rfl (SsOk.cons (SOk.u8 ((Lgs.ans (z := ((kd, key, dm, data), [])) hlgs (i := i) hil).2)) SsOk.nil) (fun w_16 h_17 => ?_)
 refine WL.nil (thn_n (WP.ret (thn_r ?_)))
 refine ret_of Try.results79 (RV.cell rfl (h_17.loadA (cs := ((lg.getD i ((kd, key, dm, data), [])).2).map vu8) Try.isAgg23 Try.sizeOf23 M1 rfl rfl) RV.nil) ?_
 have h_26 := ((((((((h_17.drop rfl).drop rfl).drop rfl).up J5).up J5).up J5).up J5).up J5).up J5
 exact ⟨la, lc, lx, by rw [anD_hit hfd]; rfl, by rw [anU_hit hfd, anL_hit hfd]; exact h_26⟩

theorem c_ans_missT {w00 : World} {L : List Ent} (ob mp : Nat) (ms df : List UInt8) (hms : ms.length = 32) (da : Option Addr) (dn dc u : Nat) (hdf : df.length = 32 * dn) (la : Option Addr) (lc : Nat) (lx : List Value) (lg : Lg) (hu : u ≤ 1000000) (hlg : lg.length ≤ 1000000) (kd dm : Int) (key data : List UInt8) (qa : Option Addr) (qn qc : Nat) (hq : okQ (kd, key, dm, data)) (hdl : data.length = qn) (cv : Value) (hfd : fdq (kd, key, dm, data) lg 0 = none) (w : World) (h_0 : HP w00 w (Ent.blk ob .nw 50 [(1, [(.bool true)]), (32, ms.map vu8), (1, [(.slice da dn dc)]), (1, [(vi ((u : Nat) : Int))]), (1, [(.map (some mp))]), (1, [(.slice la lg.length lc)])] :: Ent.row la lg.length lc 111 67 lx :: Ent.obj mp .nw (.map (mArr lg) lg.length) :: Ent.pin (sblks lx) (fun w => Lgs w lx lg) :: Ent.view da (df.map vu8) :: Ent.view qa (data.map vu8) :: L)) :
  Cs Try.prog 79 [(.pointer (some ⟨ob, 0, none⟩)), (.agg ⟨flat [(1, [(vi kd)]), (32, key.map vu8), (1, [(vi dm)]), (1, [(.slice qa qn qc)])]⟩), cv].toArray w (fun v w1 => ∃ la' lc' lx', v = (.agg ⟨(anD true df dn u lg (kd, key, dm, data)).map vu8⟩) ∧ HP w00 w1 (Ent.blk ob .nw 50 [(1, [(.bool true)]), (32, ms.map vu8), (1, [(.slice da dn dc)]), (1, [(vi (((anU true u lg (kd, key, dm, data)) : Nat) : Int))]), (1, [(.map (some mp))]), (1, [(.slice la' ((anL true df dn u lg (kd, key, dm, data)).length) lc')])] :: Ent.row la' ((anL true df dn u lg (kd, key, dm, data)).length) lc' 111 67 lx' :: Ent.obj mp .nw (.map (mArr (anL true df dn u lg (kd, key, dm, data))) ((anL true df dn u lg (kd, key, dm, data)).length)) :: Ent.pin (sblks lx') (fun w => Lgs w lx' (anL true df dn u lg (kd, key, dm, data))) :: Ent.view da (df.map vu8) :: Ent.view qa (data.map vu8) :: L)) := by
 have hlgs : Lgs w lx lg := (h_0.ok _ M3).1
 have hlo := hlgs.ok
 have hqn : data.length ≤ 1000000000 := hq.2.2.2
 refine Cs.of (n := 74) (args := [(pO ob 0), (.agg ⟨flat [(1, [(vi kd)]), (32, key.map vu8), (1, [(vi dm)]), (1, [(.slice qa qn qc)])]⟩), cv]) Try.func79 rfl rfl rfl ?_
 refine WP.seq (WP.reg ?_)
 refine WL.box (v := (.agg ⟨flat [(1, [(vi kd)]), (32, key.map vu8), (1, [(vi dm)]), (1, [(.slice qa qn qc)])]⟩)) (segs := [(1, [(vi kd)]), (32, key.map vu8), (1, [(vi dm)]), (1, [(.slice qa qn qc)])]) h_0 rfl rfl (SsOk.cons (SOk.v rfl) (SsOk.cons (SOk.u8 hq.1) (SsOk.cons (SOk.v rfl) (SsOk.cons (SOk.v rfl) SsOk.nil)))) rfl (fun b_1 w_2 h_3 => ?_)
 refine WL.alloc (segs := [(32, (List.replicate 32 (0 : UInt8)).map vu8)]) h_3 (zv Try.typeInfo23 rfl) rfl (SsOk.cons (SOk.u8 lr) SsOk.nil) rfl (fun b_4 w_5 h_6 => ?_)
 refine WL.nil (thn_n (WP.seq (WP.reg ?_)))
 refine qV rfl (R.fieldAddr (b := b_1) (off := 0) (off' := 0) rfl Try.underlying103 rfl Try.sizeOf101 rfl rfl) (qV rfl (R.load1 (b := b_1) (off := 0) (v := (vi kd)) rfl Try.isAgg101 (h_6.ok _ M1) Sg.h) (qV rfl (R.fieldAddr (b := b_1) (off := 0) (off' := 1) rfl Try.underlying103 rfl Try.sizeOf23 rfl rfl) (qV rfl (R.loadA (b := b_1) (off := 1) [(1, [(vi kd)])] [(32, key.map vu8)] [(1, [(vi dm)]), (1, [(.slice qa qn qc)])] (cs := key.map vu8) rfl Try.isAgg23 Try.sizeOf23 (h_6.ok _ M1) rfl rfl rfl rfl) (qV rfl (R.fieldAddr (b := b_1) (off := 0) (off' := 33) rfl Try.underlying103 rfl Try.sizeOf56 rfl rfl) (qV rfl (R.load1 (b := b_1) (off := 33) (v := (vi dm)) rfl Try.isAgg56 (h_6.ok _ M1) (Sg.t rfl (Sg.t rfl Sg.h))) (qV rfl (R.fieldAddr (b := b_1) (off := 0) (off' := 34) rfl Try.underlying103 rfl Try.sizeOf37 rfl rfl) (qV rfl (R.load1 (b := b_1) (off := 34) (v := (.slice qa qn qc)) rfl Try.isAgg37 (h_6.ok _ M1) (Sg.t rfl (Sg.t rfl (Sg.t rfl Sg.h)))) (qV rfl (R.toStr (bs := data) rfl Try.underlying37 Try.underlying5 Try.underlying9 (viewV (h_6.ok _ M7)) hdl) (qV rfl (R.buildS (pl := [(0, 1), (1, 32), (33, 1), (34, 1)]) (zs := [(1, [(vi 0)]), (32, (List.replicate 32 (0 : UInt8)).map vu8), (1, [(vi 0)]), (1, [(.string (bstr ([] : List UInt8)))])]) (vs := [(0, (vi kd)), (1, (.agg ⟨key.map vu8⟩)), (2, (vi dm)), (3, (.string (bstr data)))]) (out := [(1, [(vi kd)]), (32, key.map vu8), (1, [(vi dm)]), (1, [(.string (bstr data))])]) (cs := flat [(1, [(vi kd)]), (32, key.map vu8), (1, [(vi dm)]), (1, [(.string (bstr data))])]) Try.underlying157 (zv Try.typeInfo157 rfl) rfl (SsOk.cons (SOk.v rfl) (SsOk.cons (SOk.u8 lr) (SsOk.cons (SOk.v rfl) (SsOk.cons (SOk.v rfl) SsOk.nil)))) (pl157 _ Try.underlying157) rfl (FillR.cons [] [(1, [(vi 0)])] [(1, [(vi kd)])] [(32, (List.replicate 32 (0 : UInt8)).map vu8), (1, [(vi 0)]), (1, [(.string (bstr ([] : List UInt8)))])] rfl rfl rfl rfl (SsOk.cons (SOk.v rfl) SsOk.nil) rfl rfl rfl (FillR.cons [(1, [(vi kd)])] [(32, (List.replicate 32 (0 : UInt8)).map vu8)] [(32, key.map vu8)] [(1, [(vi 0)]), (1, [(.string (bstr ([] : List UInt8)))])] rfl rfl rfl rfl (SsOk.cons (SOk.u8 hq.1) SsOk.nil) rfl rfl rfl (FillR.cons [(1, [(vi kd)]), (32, key.map vu8)] [(1, [(vi 0)])] [(1, [(vi dm)])] [(1, [(.string (bstr ([] : List UInt8)))])] rfl rfl rfl rfl (SsOk.cons (SOk.v rfl) SsOk.nil) rfl rfl rfl (FillR.cons [(1, [(vi kd)]), (32, key.map vu8), (1, [(vi dm)])] [(1, [(.string (bstr ([] : List UInt8)))])] [(1, [(.string (bstr data))])] [] rfl rfl rfl rfl (SsOk.cons (SOk.v rfl) SsOk.nil) rfl rfl rfl FillR.nil)))) rfl) ?_)))))))))
 refine WL.alloc (segs := [(1, [(vi 0)]), (32, (List.replicate 32 (0 : UInt8)).map vu8), (1, [(vi 0)]), (1, [(.string (bstr ([] : List UInt8)))])]) h_6 (zv Try.typeInfo157 rfl) rfl (SsOk.cons (SOk.v rfl) (SsOk.cons (SOk.u8 lr) (SsOk.cons (SOk.v rfl) (SsOk.cons (SOk.v rfl) SsOk.nil)))) rfl (fun b_8 w_9 h_10 => ?_)
 refine WL.storeA (b := b_8) (off := 0) [] [(1, [(vi 0)]), (32, (List.replicate 32 (0 : UInt8)).map vu8), (1, [(vi 0)]), (1, [(.string (bstr ([] : List UInt8)))])] [(1, [(vi kd)]), (32, key.map vu8), (1, [(vi dm)]), (1, [(.string (bstr data))])] [] (ys := flat [(1, [(vi kd)]), (32, key.map vu8), (1, [(vi dm)]), (1, [(.string (bstr data))])]) h_10 rfl rfl Try.sizeOf157 At.h (by decide) rfl rfl rfl rfl rfl rfl (SsOk.cons (SOk.v rfl) (SsOk.cons (SOk.u8 hq.1) (SsOk.cons (SOk.v rfl) (SsOk.cons (SOk.v rfl) SsOk.nil)))) (fun w_11 h_12 => ?_)
 refine WL.nil (thn_n (WP.seq (WP.seq ?_)))
 refine WP.drawT (SL w00.heap.size [.blk b_8 .nw 157 [(1, [(vi kd)]), (32, key.map vu8), (1, [(vi dm)]), (1, [(.string (bstr data))])], .blk b_4 .nw 23 [(32, (List.replicate 32 (0 : UInt8)).map vu8)], .blk b_1 .nw 103 [(1, [(vi kd)]), (32, key.map vu8), (1, [(vi dm)]), (1, [(.slice qa qn qc)])], .blk ob .nw 50 [(1, [(.bool true)]), (32, ms.map vu8), (1, [(.slice da dn dc)]), (1, [(vn u)]), (1, [(.map (some mp))]), (1, [(.slice la lg.length lc)])], .row la lg.length lc 111 67 lx, .obj mp .nw (.map (mArr lg) lg.length), .pin (sblks lx) (fun w => Lgs w lx lg), .view da (df.map vu8), .view qa (data.map vu8)]) (.q 0 (.q 1 (.q 2 (.q 3 (.q 4 (.s 5 (.q 6 (.q 7 (.q 8 (.q 9 (.q 10 .nil))))))))))) (by kernel_rfl) (by kernel_rfl) rfl (by kernel_rfl) (fun w_13 hc_15 => (SL.cons ((h_12.same hc_15).ok _ M0) (SL.cons ((h_12.same hc_15).ok _ M1) (SL.cons ((h_12.same hc_15).ok _ M2) (SL.cons ((h_12.same hc_15).ok _ M3) (SL.cons ((h_12.same hc_15).ok _ M4) (SL.cons ((h_12.same hc_15).ok _ M5) (SL.cons ((h_12.same hc_15).ok _ M6) (SL.cons ((h_12.same hc_15).ok _ M7) (SL.cons ((h_12.same hc_15).ok _ M8) (SL.nil _ _))))))))))) (fun w_13 hc_15 => ?_)
 have h_14 := h_12.same hc_15
 refine qT rfl rfl (fun wq hS => R.move (v := (pO ob 0)) rfl) ?_
 refine qT rfl rfl (fun wq hS => R.nilCheck rfl) ?_
 refine qT rfl rfl (fun wq hS => R.fieldAddr (b := ob) (off := 0) (off' := 35) rfl Try.underlying50 rfl Try.sizeOf47 rfl rfl) ?_
 refine qT rfl rfl (fun wq hS => R.load1 (b := ob) (off := 35) (v := (.map (some mp))) rfl Try.isAgg47 (hS _ M3) (Sg.t rfl (Sg.t rfl (Sg.t rfl (Sg.t rfl Sg.h))))) ?_
 refine qT rfl rfl (fun wq hS => R.loadA (b := b_8) (off := 0) [] [(1, [(vi kd)]), (32, key.map vu8), (1, [(vi dm)]), (1, [(.string (bstr data))])] [] (cs := flat [(1, [(vi kd)]), (32, key.map vu8), (1, [(vi dm)]), (1, [(.string (bstr data))])]) rfl Try.isAgg157 Try.sizeOf157 (hS _ M0) rfl rfl rfl rfl) ?_
 refine WT.s (Op1.one rfl (Wn.no rfl) ?_)
 refine qV rfl (R.lookup (r := none) (z := (vi 0)) (v := (vi 0)) (ok := false) rfl rfl Try.underlying47 (h_14.ok _ M5) (Ck.agg kt157 (by decide) ag157 (typQ (kd, key, dm, data) hq)) (log_miss kt157 (by decide) ag157 typQ hq hlo hfd) (zv Try.typeInfo3 rfl) rfl rfl) ?_
 refine WL.nil ?_
 refine ⟨(SL.cons (h_14.ok _ M0) (SL.cons (h_14.ok _ M1) (SL.cons (h_14.ok _ M2) (SL.cons (h_14.ok _ M3) (SL.cons (h_14.ok _ M4) (SL.cons (h_14.ok _ M5) (SL.cons (h_14.ok _ M6) (SL.cons (h_14.ok _ M7) (SL.cons (h_14.ok _ M8) (SL.nil _ _)))))))))), ?_⟩
 refine qT rfl rfl (fun wq hS => R.move (v := (.tuple [(vi 0), (.bool false)].toArray)) rfl) ?_
 refine qT rfl rfl (fun wq hS => R.extract rfl rfl) ?_
 refine qT rfl rfl (fun wq hS => R.extract rfl rfl) ?_
 refine qT rfl rfl (fun wq hS => R.assign (v := (vi 0)) rfl) ?_
 refine qT rfl rfl (fun wq hS => R.assign (v := (.bool false)) rfl) ?_
 refine WT.nil (thn_n (WP.seq (WP.reg ?_)))
 refine qM (.bool false) rfl rfl ?_
 refine WL.nil (thn_n ?_)
 refine WP.condF rfl ?_
 refine WP.skip (thn_n (WP.seq (WP.reg ?_)))
 refine WL.alloc (segs := [(32, (List.replicate 32 (0 : UInt8)).map vu8)]) h_14 (zv Try.typeInfo23 rfl) rfl (SsOk.cons (SOk.u8 lr) SsOk.nil) rfl (fun b_16 w_17 h_18 => ?_)
 refine WL.nil (thn_n (WP.seq (WP.seq (WP.reg ?_))))
 refine qM (pO ob 0) rfl rfl (qV rfl (R.nilCheck rfl) (qV rfl (R.fieldAddr (b := ob) (off := 0) (off' := 0) rfl Try.underlying50 rfl Try.sizeOf4 rfl rfl) (qV rfl (R.load1 (b := ob) (off := 0) (v := (.bool true)) rfl Try.isAgg4 (h_18.ok _ M4) Sg.h) ?_)))
 refine WL.nil (thn_n ?_)
 refine WP.condT rfl ?_
 refine WP.reg ?_
 refine qM (pO ob 0) rfl rfl ?_
 have h_20 := (h_18.up J8).up J5
 refine WL.call Try.call96 rfl rfl (c_draw true ob mp ms df hms da dn dc u hdf la lc lx lg (by omega) (by omega) _ h_20) rfl ?_
 rintro _ w_21 ⟨rfl, h_22⟩
 refine WL.storeA (b := b_16) (off := 0) [] [(32, (List.replicate 32 (0 : UInt8)).map vu8)] [(32, (drawF df dn u).map vu8)] [] (ys := (drawF df dn u).map vu8) h_22 rfl rfl Try.sizeOf23 Y2 (by decide) rfl rfl rfl rfl rfl rfl (SsOk.cons (SOk.u8 (drawF_len hdf)) SsOk.nil) (fun w_23 h_24 => ?_)
 refine WL.nil (thn_n (WP.seq (WP.reg ?_)))
 refine qV rfl (R.fieldAddr (b := b_1) (off := 0) (off' := 34) rfl Try.underlying103 rfl Try.sizeOf37 rfl rfl) (qV rfl (R.load1 (b := b_1) (off := 34) (v := (.slice qa qn qc)) rfl Try.isAgg37 (h_24.ok _ M5) (Sg.t rfl (Sg.t rfl (Sg.t rfl Sg.h)))) ?_)
 refine WL.call Try.call58 rfl rfl (c_Clone qa qn qc data hdl (by omega) _ (viewV (h_24.ok _ M9))) rfl ?_
 rintro _ w_27 ⟨a_25, cap_26, rfl, hc_28, ho_29⟩
 have h_30 := h_24.gotRow hc_28 ho_29
 refine qV rfl (R.fieldAddr (b := b_1) (off := 0) (off' := 34) rfl Try.underlying103 rfl Try.sizeOf37 rfl rfl) ?_
 refine WL.store1 (b := b_1) (off := 34) (v := (.slice a_25 qn cap_26)) h_30 rfl rfl Try.sizeOf37 rfl Y6 (by decide) (Sg.t rfl (Sg.t rfl (Sg.t rfl Sg.h))) (fun w_31 h_32 => ?_)
 refine WL.nil (thn_n (WP.seq ?_))
 refine WP.drawT (SL w00.heap.size [.row a_25 qn cap_26 5 1 (data.map vu8), .blk ob .nw 50 [(1, [(.bool true)]), (32, ms.map vu8), (1, [(.slice da dn dc)]), (1, [(vn ((u + 1)))]), (1, [(.map (some mp))]), (1, [(.slice la lg.length lc)])], .view da (df.map vu8), .blk b_16 .nw 23 [(32, (drawF df dn u).map vu8)], .blk b_8 .nw 157 [(1, [(vi kd)]), (32, key.map vu8), (1, [(vi dm)]), (1, [(.string (bstr data))])], .blk b_4 .nw 23 [(32, (List.replicate 32 (0 : UInt8)).map vu8)], .blk b_1 .nw 103 [(1, [(vi kd)]), (32, key.map vu8), (1, [(vi dm)]), (1, [(.slice a_25 qn cap_26)])], .row la lg.length lc 111 67 lx, .pin (sblks lx) (fun w => Lgs w lx lg), .view qa (data.map vu8)]) (.q 0 (.q 1 (.q 2 (.q 3 (.q 4 (.q 5 (.q 6 (.q 7 (.q 8 (.q 9 (.s 10 .nil))))))))))) (by kernel_rfl) (by kernel_rfl) rfl (by kernel_rfl) (fun w_33 hc_35 => (SL.cons ((h_32.same hc_35).ok _ M0) (SL.cons ((h_32.same hc_35).ok _ M1) (SL.cons ((h_32.same hc_35).ok _ M2) (SL.cons ((h_32.same hc_35).ok _ M3) (SL.cons ((h_32.same hc_35).ok _ M4) (SL.cons ((h_32.same hc_35).ok _ M5) (SL.cons ((h_32.same hc_35).ok _ M6) (SL.cons ((h_32.same hc_35).ok _ M7) (SL.cons ((h_32.same hc_35).ok _ M9) (SL.cons ((h_32.same hc_35).ok _ M10) (SL.nil _ _)))))))))))) (fun w_33 hc_35 => ?_)
 have h_34 := h_32.same hc_35
 refine qT rfl rfl (fun wq hS => R.move (v := (pO ob 0)) rfl) ?_
 refine qT rfl rfl (fun wq hS => R.nilCheck rfl) ?_
 refine qT rfl rfl (fun wq hS => R.fieldAddr (b := ob) (off := 0) (off' := 35) rfl Try.underlying50 rfl Try.sizeOf47 rfl rfl) ?_
 refine qT rfl rfl (fun wq hS => R.load1 (b := ob) (off := 35) (v := (.map (some mp))) rfl Try.isAgg47 (hS _ M1) (Sg.t rfl (Sg.t rfl (Sg.t rfl (Sg.t rfl Sg.h))))) ?_
 refine qT rfl rfl (fun wq hS => R.loadA (b := b_8) (off := 0) [] [(1, [(vi kd)]), (32, key.map vu8), (1, [(vi dm)]), (1, [(.string (bstr data))])] [] (cs := flat [(1, [(vi kd)]), (32, key.map vu8), (1, [(vi dm)]), (1, [(.string (bstr data))])]) rfl Try.isAgg157 Try.sizeOf157 (hS _ M4) rfl rfl rfl rfl) ?_
 refine qT rfl rfl (fun wq hS => R.move (v := (pO ob 0)) rfl) ?_
 refine qT rfl rfl (fun wq hS => R.nilCheck rfl) ?_
 refine qT rfl rfl (fun wq hS => R.fieldAddr (b := ob) (off := 0) (off' := 36) rfl Try.underlying50 rfl Try.sizeOf48 rfl rfl) ?_
 refine qT rfl rfl (fun wq hS => R.load1 (b := ob) (off := 36) (v := (.slice la lg.length lc)) rfl Try.isAgg48 (hS _ M1) (Sg.t rfl (Sg.t rfl (Sg.t rfl (Sg.t rfl (Sg.t rfl Sg.h)))))) ?_
 refine qT rfl rfl (fun wq hS => R.lenS (a := la) (m := lg.length) rfl rfl Try.underlying48) ?_
 refine WT.s (Op1.one rfl (Wn.no rfl) ?_)
 refine WL.mapUpdate (k := (.agg ⟨flat [(1, [(vi kd)]), (32, key.map vu8), (1, [(vi dm)]), (1, [(.string (bstr data))])]⟩)) (v := (vn (lg.length))) h_34 rfl rfl rfl Try.underlying47 Y8 (by decide) (Ck.agg kt157 (by decide) ag157 (typQ (kd, key, dm, data) hq)) (log_miss kt157 (by decide) ag157 typQ hq hlo hfd) (fun w_36 h_37 => ?_)
 refine WL.nil ?_
 refine ⟨(SL.cons (h_37.ok _ M0) (SL.cons (h_37.ok _ M1) (SL.cons (h_37.ok _ M2) (SL.cons (h_37.ok _ M3) (SL.cons (h_37.ok _ M4) (SL.cons (h_37.ok _ M5) (SL.cons (h_37.ok _ M6) (SL.cons (h_37.ok _ M7) (SL.cons (h_37.ok _ M9) (SL.cons (h_37.ok _ M10) (SL.nil _ _))))))))))), ?_⟩
 refine WT.nil (thn_n (WP.seq ?_))
 refine WP.cutG (G := Nat × Option Addr × Nat) [61, 62, 63, 64, 65, 66, 67, 68, 69, 70, 71, 72] (fun (bY11Y8Y0Y0, aY11Y9Y0Y0, cY11Y9Y0Y0) => [(61, (pO ob 0)), (62, (pO ob 0)), (63, (pO ob 0)), (64, (pO ob 36)), (66, (.agg ⟨flat [(1, [(vi kd)]), (32, key.map vu8), (1, [(vi dm)]), (1, [(.slice a_25 qn cap_26)])]⟩)), (67, (.agg ⟨(drawF df dn u).map vu8⟩)), (68, (.agg ⟨flat [(1, [(vi kd)]), (32, key.map vu8), (1, [(vi dm)]), (1, [(.slice a_25 qn cap_26)]), (32, (drawF df dn u).map vu8)]⟩)), (65, (.slice la lg.length lc)), (69, (.slice (some ⟨bY11Y8Y0Y0, 0, none⟩) 1 1)), (70, (.slice aY11Y9Y0Y0 (lg.length + 1) cY11Y9Y0Y0)), (71, (pO ob 0)), (72, (pO ob 36))]) (fun (bY11Y8Y0Y0, aY11Y9Y0Y0, cY11Y9Y0Y0) w1 => HP w00 w1 (Ent.blk bY11Y8Y0Y0 .nw 111 [(67, aC (kd, key, dm, data) (.slice a_25 qn cap_26) (drawF df dn u))] :: Ent.row a_25 qn cap_26 5 1 (data.map vu8) :: Ent.blk ob .nw 50 [(1, [(.bool true)]), (32, ms.map vu8), (1, [(.slice da dn dc)]), (1, [(vn ((u + 1)))]), (1, [(.map (some mp))]), (1, [(.slice aY11Y9Y0Y0 (lg.length + 1) cY11Y9Y0Y0)])] :: Ent.view da (df.map vu8) :: Ent.blk b_16 .nw 23 [(32, (drawF df dn u).map vu8)] :: Ent.blk b_8 .nw 157 [(1, [(vi kd)]), (32, key.map vu8), (1, [(vi dm)]), (1, [(.string (bstr data))])] :: Ent.blk b_4 .nw 23 [(32, (List.replicate 32 (0 : UInt8)).map vu8)] :: Ent.blk b_1 .nw 103 [(1, [(vi kd)]), (32, key.map vu8), (1, [(vi dm)]), (1, [(.slice a_25 qn cap_26)])] :: Ent.row aY11Y9Y0Y0 (lg.length + 1) cY11Y9Y0Y0 111 67 (lx ++ aC (kd, key, dm, data) (.slice a_25 qn cap_26) (drawF df dn u)) :: Ent.obj mp .nw (.map ((mArr lg).push { key := (.agg ⟨flat [(1, [(vi kd)]), (32, key.map vu8), (1, [(vi dm)]), (1, [(.string (bstr data))])]⟩), val := (vn (lg.length)), born := lg.length }) (lg.length + 1)) :: Ent.pin (sblks lx) (fun w => Lgs w lx lg) :: Ent.view qa (data.map vu8) :: L)) ?_ ?_
 ·refine WP.drawT (SL w00.heap.size [.row a_25 qn cap_26 5 1 (data.map vu8), .view da (df.map vu8), .blk b_16 .nw 23 [(32, (drawF df dn u).map vu8)], .blk b_8 .nw 157 [(1, [(vi kd)]), (32, key.map vu8), (1, [(vi dm)]), (1, [(.string (bstr data))])], .blk b_4 .nw 23 [(32, (List.replicate 32 (0 : UInt8)).map vu8)], .blk b_1 .nw 103 [(1, [(vi kd)]), (32, key.map vu8), (1, [(vi dm)]), (1, [(.slice a_25 qn cap_26)])], .obj mp .nw (.map ((mArr lg).push { key := (.agg ⟨flat [(1, [(vi kd)]), (32, key.map vu8), (1, [(vi dm)]), (1, [(.string (bstr data))])]⟩), val := (vn (lg.length)), born := lg.length }) (lg.length + 1)), .pin (sblks lx) (fun w => Lgs w lx lg), .view qa (data.map vu8)]) (.q 0 (.q 1 (.q 2 (.q 3 (.q 5 (.q 6 (.q 7 (.s2 4 8 (.s 8 (.s 9 (.q 10 (.q 11 (.s 12 .nil))))) (.s 4 (.s 9 (.q 10 (.q 11 (.s 12 .nil))))))))))))) (by kernel_rfl) (by kernel_rfl) rfl (by kernel_rfl) (fun w_38 hc_40 => (SL.cons ((h_37.same hc_40).ok _ M0) (SL.cons ((h_37.same hc_40).ok _ M2) (SL.cons ((h_37.same hc_40).ok _ M3) (SL.cons ((h_37.same hc_40).ok _ M4) (SL.cons ((h_37.same hc_40).ok _ M5) (SL.cons ((h_37.same hc_40).ok _ M6) (SL.cons ((h_37.same hc_40).ok _ M8) (SL.cons ((h_37.same hc_40).ok _ M9) (SL.cons ((h_37.same hc_40).ok _ M10) (SL.nil _ _))))))))))) (fun w_38 hc_40 => ?_)
  have h_39 := h_37.same hc_40
  refine qT rfl rfl (fun wq hS => R.move (v := (pO ob 0)) rfl) ?_
  refine qT rfl rfl (fun wq hS => R.move (v := (pO ob 0)) rfl) ?_
  refine qT rfl rfl (fun wq hS => R.nilCheck rfl) ?_
  refine qT rfl rfl (fun wq hS => R.fieldAddr (b := ob) (off := 0) (off' := 36) rfl Try.underlying50 rfl Try.sizeOf48 rfl rfl) ?_
  refine qT rfl rfl (fun wq hS => R.loadA (b := b_1) (off := 0) [] [(1, [(vi kd)]), (32, key.map vu8), (1, [(vi dm)]), (1, [(.slice a_25 qn cap_26)])] [] (cs := flat [(1, [(vi kd)]), (32, key.map vu8), (1, [(vi dm)]), (1, [(.slice a_25 qn cap_26)])]) rfl Try.isAgg103 Try.sizeOf103 (hS _ M5) rfl rfl rfl rfl) ?_
  refine qT rfl rfl (fun wq hS => R.loadA (b := b_16) (off := 0) [] [(32, (drawF df dn u).map vu8)] [] (cs := (drawF df dn u).map vu8) rfl Try.isAgg23 Try.sizeOf23 (hS _ M2) rfl rfl rfl rfl) ?_
  refine qT rfl rfl (fun wq hS => R.buildS (pl := [(0, 35), (35, 32)]) (zs := [(1, [(vi 0)]), (32, (List.replicate 32 (0 : UInt8)).map vu8), (1, [(vi 0)]), (1, [(.slice none 0 0)]), (32, (List.replicate 32 (0 : UInt8)).map vu8)]) (vs := [(0, (.agg ⟨flat [(1, [(vi kd)]), (32, key.map vu8), (1, [(vi dm)]), (1, [(.slice a_25 qn cap_26)])]⟩)), (1, (.agg ⟨(drawF df dn u).map vu8⟩))]) (out := [(1, [(vi kd)]), (32, key.map vu8), (1, [(vi dm)]), (1, [(.slice a_25 qn cap_26)]), (32, (drawF df dn u).map vu8)]) (cs := flat [(1, [(vi kd)]), (32, key.map vu8), (1, [(vi dm)]), (1, [(.slice a_25 qn cap_26)]), (32, (drawF df dn u).map vu8)]) Try.underlying111 (zv Try.typeInfo111 rfl) rfl (SsOk.cons (SOk.v rfl) (SsOk.cons (SOk.u8 lr) (SsOk.cons (SOk.v rfl) (SsOk.cons (SOk.v rfl) (SsOk.cons (SOk.u8 lr) SsOk.nil))))) (pl111 _ Try.underlying111) rfl (FillR.cons [] [(1, [(vi 0)]), (32, (List.replicate 32 (0 : UInt8)).map vu8), (1, [(vi 0)]), (1, [(.slice none 0 0)])] [(1, [(vi kd)]), (32, key.map vu8), (1, [(vi dm)]), (1, [(.slice a_25 qn cap_26)])] [(32, (List.replicate 32 (0 : UInt8)).map vu8)] rfl rfl rfl rfl (SsOk.cons (SOk.v rfl) (SsOk.cons (SOk.u8 hq.1) (SsOk.cons (SOk.v rfl) (SsOk.cons (SOk.v rfl) SsOk.nil)))) rfl rfl rfl (FillR.cons [(1, [(vi kd)]), (32, key.map vu8), (1, [(vi dm)]), (1, [(.slice a_25 qn cap_26)])] [(32, (List.replicate 32 (0 : UInt8)).map vu8)] [(32, (drawF df dn u).map vu8)] [] rfl rfl rfl rfl (SsOk.cons (SOk.u8 (drawF_len hdf)) SsOk.nil) rfl rfl rfl FillR.nil)) rfl) ?_
  refine WT.s2 ?_ ?_
  ·refine Op1.one rfl (Wn.no rfl) ?_
   refine qV rfl (R.load1 (b := ob) (off := 36) (v := (.slice la lg.length lc)) rfl Try.isAgg48 (h_39.ok _ M1) (Sg.t rfl (Sg.t rfl (Sg.t rfl (Sg.t rfl (Sg.t rfl Sg.h)))))) ?_
   refine WL.nil ?_
   refine ⟨(SL.cons (h_39.ok _ M0) (SL.cons (h_39.ok _ M2) (SL.cons (h_39.ok _ M3) (SL.cons (h_39.ok _ M4) (SL.cons (h_39.ok _ M5) (SL.cons (h_39.ok _ M6) (SL.cons (h_39.ok _ M8) (SL.cons (h_39.ok _ M9) (SL.cons (h_39.ok _ M10) (SL.nil _ _)))))))))), ?_⟩
   refine WT.s (Op1.one rfl (Wn.no rfl) ?_)
   refine WL.buildSl (vs := [(0, (.agg ⟨flat [(1, [(vi kd)]), (32, key.map vu8), (1, [(vi dm)]), (1, [(.slice a_25 qn cap_26)]), (32, (drawF df dn u).map vu8)]⟩))]) (cs := aC (kd, key, dm, data) (.slice a_25 qn cap_26) (drawF df dn u)) h_39 Try.underlying48 Try.sizeOf111 (zv Try.typeInfo111 rfl) rfl rfl (fill_1 (zc := flat [(1, [vi 0]), (32, List.replicate 32 (vu8 0)), (1, [vi 0]), (1, [.slice none 0 0]), (32, List.replicate 32 (vu8 0))]) (by kernel_rfl) (SsOk.cons (s := (67, flat [(1, [vi 0]), (32, List.replicate 32 (vu8 0)), (1, [vi 0]), (1, [.slice none 0 0]), (32, List.replicate 32 (vu8 0))])) ⟨by decide, SsOk.one (SsOk.cons (SOk.v rfl) (SsOk.cons (SOk.rep rfl) (SsOk.cons (SOk.v rfl) (SsOk.cons (SOk.v rfl) (SsOk.cons (SOk.rep rfl) SsOk.nil)))))⟩ SsOk.nil) (aC_ok (q := (kd, key, dm, data)) (s := (.slice a_25 qn cap_26)) (d := drawF df dn u) hq.1 (drawF_len hdf) rfl)) ((aC_ok (q := (kd, key, dm, data)) (s := (.slice a_25 qn cap_26)) (d := drawF df dn u) hq.1 (drawF_len hdf) rfl)).head.len ((aC_ok (q := (kd, key, dm, data)) (s := (.slice a_25 qn cap_26)) (d := drawF df dn u) hq.1 (drawF_len hdf) rfl)).head.one rfl rfl (fun b_42 w_43 h_44 => ?_)
   refine WL.nil ?_
   refine ⟨(SL.cons (h_44.ok _ M1) (SL.cons (h_44.ok _ M3) (SL.cons (h_44.ok _ M4) (SL.cons (h_44.ok _ M5) (SL.cons (h_44.ok _ M6) (SL.cons (h_44.ok _ M7) (SL.cons (h_44.ok _ M9) (SL.cons (h_44.ok _ M10) (SL.cons (h_44.ok _ M11) (SL.nil _ _)))))))))), ?_⟩
   refine WT.s (Op1.one rfl (Wn.no rfl) ?_)
   refine WL.append (km := lg.length + 1) (xs := lx) (ys := aC (kd, key, dm, data) (.slice a_25 qn cap_26) (drawF df dn u)) (zs := lx ++ aC (kd, key, dm, data) (.slice a_25 qn cap_26) (drawF df dn u)) h_44 rfl rfl el48 (viewB (h_44.ok _ M0) Sg.h) ((aC_ok (q := (kd, key, dm, data)) (s := (.slice a_25 qn cap_26)) (d := drawF df dn u) hq.1 (drawF_len hdf) rfl)).head.len ((aC_ok (q := (kd, key, dm, data)) (s := (.slice a_25 qn cap_26)) (d := drawF df dn u) hq.1 (drawF_len hdf) rfl)).head.one rfl (by omega) (by omega) (by omega) (fun _ _ => Y8) rfl (fun a_45 c_46 w_47 h_48 => ?_)
   refine WL.nil ?_
   refine ⟨(SL.cons (h_48.ok _ M1) (SL.cons (h_48.ok _ M3) (SL.cons (h_48.ok _ M4) (SL.cons (h_48.ok _ M5) (SL.cons (h_48.ok _ M6) (SL.cons (h_48.ok _ M7) (SL.cons (h_48.ok _ M9) (SL.cons (h_48.ok _ M10) (SL.cons (h_48.ok _ M11) (SL.nil _ _)))))))))), ?_⟩
   refine qT rfl rfl (fun wq hS => R.nilCheck rfl) ?_
   refine qT rfl rfl (fun wq hS => R.fieldAddr (b := ob) (off := 0) (off' := 36) rfl Try.underlying50 rfl Try.sizeOf48 rfl rfl) ?_
   refine WT.s (Op1.one rfl (Wn.no rfl) ?_)
   refine WL.store1 (b := ob) (off := 36) (v := (.slice a_45 (lg.length + 1) c_46)) h_48 rfl rfl Try.sizeOf48 rfl Y2 (by decide) (Sg.t rfl (Sg.t rfl (Sg.t rfl (Sg.t rfl (Sg.t rfl Sg.h))))) (fun w_49 h_50 => ?_)
   refine WL.nil ?_
   refine ⟨(SL.cons (h_50.ok _ M1) (SL.cons (h_50.ok _ M3) (SL.cons (h_50.ok _ M4) (SL.cons (h_50.ok _ M5) (SL.cons (h_50.ok _ M6) (SL.cons (h_50.ok _ M7) (SL.cons (h_50.ok _ M9) (SL.cons (h_50.ok _ M10) (SL.cons (h_50.ok _ M11) (SL.nil _ _)))))))))), ?_⟩
   refine WT.nil (thn_n ?_)
   exact ⟨(b_42, a_45, c_46), (U4 rfl rfl rfl rfl (U4 rfl rfl rfl rfl (U4 rfl rfl rfl rfl (Ag.refl _ _)))), ⟨rfl, rfl, rfl, rfl, rfl, rfl, rfl, rfl, rfl, rfl, rfl, rfl, trivial⟩, h_50⟩
  ·refine Op1.one rfl (Wn.no rfl) ?_
   refine WL.buildSl (vs := [(0, (.agg ⟨flat [(1, [(vi kd)]), (32, key.map vu8), (1, [(vi dm)]), (1, [(.slice a_25 qn cap_26)]), (32, (drawF df dn u).map vu8)]⟩))]) (cs := aC (kd, key, dm, data) (.slice a_25 qn cap_26) (drawF df dn u)) h_39 Try.underlying48 Try.sizeOf111 (zv Try.typeInfo111 rfl) rfl rfl (fill_1 (zc := flat [(1, [vi 0]), (32, List.replicate 32 (vu8 0)), (1, [vi 0]), (1, [.slice none 0 0]), (32, List.replicate 32 (vu8 0))]) (by kernel_rfl) (SsOk.cons (s := (67, flat [(1, [vi 0]), (32, List.replicate 32 (vu8 0)), (1, [vi 0]), (1, [.slice none 0 0]), (32, List.replicate 32 (vu8 0))])) ⟨by decide, SsOk.one (SsOk.cons (SOk.v rfl) (SsOk.cons (SOk.rep rfl) (SsOk.cons (SOk.v rfl) (SsOk.cons (SOk.v rfl) (SsOk.cons (SOk.rep rfl) SsOk.nil)))))⟩ SsOk.nil) (aC_ok (q := (kd, key, dm, data)) (s := (.slice a_25 qn cap_26)) (d := drawF df dn u) hq.1 (drawF_len hdf) rfl)) ((aC_ok (q := (kd, key, dm, data)) (s := (.slice a_25 qn cap_26)) (d := drawF df dn u) hq.1 (drawF_len hdf) rfl)).head.len ((aC_ok (q := (kd, key, dm, data)) (s := (.slice a_25 qn cap_26)) (d := drawF df dn u) hq.1 (drawF_len hdf) rfl)).head.one rfl rfl (fun b_51 w_52 h_53 => ?_)
   refine WL.nil ?_
   refine ⟨(SL.cons (h_53.ok _ M1) (SL.cons (h_53.ok _ M3) (SL.cons (h_53.ok _ M4) (SL.cons (h_53.ok _ M5) (SL.cons (h_53.ok _ M6) (SL.cons (h_53.ok _ M7) (SL.cons (h_53.ok _ M9) (SL.cons (h_53.ok _ M10) (SL.cons (h_53.ok _ M11) (SL.nil _ _)))))))))), ?_⟩
   refine WT.s (Op1.one rfl (Wn.no rfl) ?_)
   refine qV rfl (R.load1 (b := ob) (off := 36) (v := (.slice la lg.length lc)) rfl Try.isAgg48 (h_53.ok _ M2) (Sg.t rfl (Sg.t rfl (Sg.t rfl (Sg.t rfl (Sg.t rfl Sg.h)))))) ?_
   refine WL.nil ?_
   refine ⟨(SL.cons (h_53.ok _ M1) (SL.cons (h_53.ok _ M3) (SL.cons (h_53.ok _ M4) (SL.cons (h_53.ok _ M5) (SL.cons (h_53.ok _ M6) (SL.cons (h_53.ok _ M7) (SL.cons (h_53.ok _ M9) (SL.cons (h_53.ok _ M10) (SL.cons (h_53.ok _ M11) (SL.nil _ _)))))))))), ?_⟩
   refine WT.s (Op1.one rfl (Wn.no rfl) ?_)
   refine WL.append (km := lg.length + 1) (xs := lx) (ys := aC (kd, key, dm, data) (.slice a_25 qn cap_26) (drawF df dn u)) (zs := lx ++ aC (kd, key, dm, data) (.slice a_25 qn cap_26) (drawF df dn u)) h_53 rfl rfl el48 (viewB (h_53.ok _ M0) Sg.h) ((aC_ok (q := (kd, key, dm, data)) (s := (.slice a_25 qn cap_26)) (d := drawF df dn u) hq.1 (drawF_len hdf) rfl)).head.len ((aC_ok (q := (kd, key, dm, data)) (s := (.slice a_25 qn cap_26)) (d := drawF df dn u) hq.1 (drawF_len hdf) rfl)).head.one rfl (by omega) (by omega) (by omega) (fun _ _ => Y8) rfl (fun a_54 c_55 w_56 h_57 => ?_)
   refine WL.nil ?_
   refine ⟨(SL.cons (h_57.ok _ M1) (SL.cons (h_57.ok _ M3) (SL.cons (h_57.ok _ M4) (SL.cons (h_57.ok _ M5) (SL.cons (h_57.ok _ M6) (SL.cons (h_57.ok _ M7) (SL.cons (h_57.ok _ M9) (SL.cons (h_57.ok _ M10) (SL.cons (h_57.ok _ M11) (SL.nil _ _)))))))))), ?_⟩
   refine qT rfl rfl (fun wq hS => R.nilCheck rfl) ?_
   refine qT rfl rfl (fun wq hS => R.fieldAddr (b := ob) (off := 0) (off' := 36) rfl Try.underlying50 rfl Try.sizeOf48 rfl rfl) ?_
   refine WT.s (Op1.one rfl (Wn.no rfl) ?_)
   refine WL.store1 (b := ob) (off := 36) (v := (.slice a_54 (lg.length + 1) c_55)) h_57 rfl rfl Try.sizeOf48 rfl Y2 (by decide) (Sg.t rfl (Sg.t rfl (Sg.t rfl (Sg.t rfl (Sg.t rfl Sg.h))))) (fun w_58 h_59 => ?_)
   refine WL.nil ?_
   refine ⟨(SL.cons (h_59.ok _ M1) (SL.cons (h_59.ok _ M3) (SL.cons (h_59.ok _ M4) (SL.cons (h_59.ok _ M5) (SL.cons (h_59.ok _ M6) (SL.cons (h_59.ok _ M7) (SL.cons (h_59.ok _ M9) (SL.cons (h_59.ok _ M10) (SL.cons (h_59.ok _ M11) (SL.nil _ _)))))))))), ?_⟩
   refine WT.nil (thn_n ?_)
   exact ⟨(b_51, a_54, c_55), (U4 rfl rfl rfl rfl (U4 rfl rfl rfl rfl (U4 rfl rfl rfl rfl (Ag.refl _ _)))), ⟨rfl, rfl, rfl, rfl, rfl, rfl, rfl, rfl, rfl, rfl, rfl, rfl, trivial⟩, h_59⟩
 ·rintro ⟨b_63, a_64, c_65⟩ J_60 w_61 h_62
  refine thn_n (WP.seq (WP.reg ?_))
  refine qV rfl (R.loadA (b := b_16) (off := 0) [] [(32, (drawF df dn u).map vu8)] [] (cs := (drawF df dn u).map vu8) rfl Try.isAgg23 Try.sizeOf23 (h_62.ok _ M4) rfl rfl rfl rfl) ?_
  refine WL.storeA (b := b_4) (off := 0) [] [(32, (List.replicate 32 (0 : UInt8)).map vu8)] [(32, (drawF df dn u).map vu8)] [] (ys := (drawF df dn u).map vu8) h_62 rfl rfl Try.sizeOf23 Y6 (by decide) rfl rfl rfl rfl rfl rfl (SsOk.cons (SOk.u8 (drawF_len hdf)) SsOk.nil) (fun w_66 h_67 => ?_)
  refine WL.nil (thn_n (WP.ret ?_))
  refine ret_of Try.results79 (RV.cell rfl (h_67.loadA (cs := (drawF df dn u).map vu8) Try.isAgg23 Try.sizeOf23 M6 rfl rfl) RV.nil) ?_
  have h_83 := (((((((((((((((h_67.drop rfl).up J3).drop rfl).up J3).drop rfl).up J3).drop rfl).up J3).drop rfl).up J6).up J3).up J5).up J5).up J5).up J6).up J6
  have h_84 := HP_logPush (q := (kd, key, dm, data)) (d := drawF df dn u) h_83 hq (drawF_len hdf) hdl
  have h_95 := (((((((((h_84.up J1).drop rfl).up J1).drop rfl).up J5).up J5).up J2).up J5).up J5).up J5
  have hse : lg.length + 1 = (lg ++ [((kd, key, dm, data), drawF df dn u)]).length := snoc_len.symm
  have hme := mArr_push lg (kd, key, dm, data) (drawF df dn u)
  have h_85 := h_95
  rw [hse] at h_85
  exact ⟨_, _, _, by rw [anD_miss hfd]; rfl, by rw [anU_miss hfd, anL_miss hfd]; show HP _ _ (_ :: _ :: .obj _ _ (.map (mArr (lg ++ [((kd, key, dm, data), drawF df dn u)])) _) :: _); rw [hme]; exact h_85⟩

theorem c_ans_missF {w00 : World} {L : List Ent} (ob mp : Nat) (ms df : List UInt8) (hms : ms.length = 32) (da : Option Addr) (dn dc u : Nat) (hdf : df.length = 32 * dn) (la : Option Addr) (lc : Nat) (lx : List Value) (lg : Lg) (hu : u ≤ 1000000) (hlg : lg.length ≤ 1000000) (kd dm : Int) (key data : List UInt8) (qa : Option Addr) (qn qc : Nat) (hq : okQ (kd, key, dm, data)) (hdl : data.length = qn) (bq : Nat) (hfd : fdq (kd, key, dm, data) lg 0 = none) (w : World) (h_0 : HP w00 w (Ent.blk ob .nw 50 [(1, [(.bool false)]), (32, ms.map vu8), (1, [(.slice da dn dc)]), (1, [(vi ((u : Nat) : Int))]), (1, [(.map (some mp))]), (1, [(.slice la lg.length lc)])] :: Ent.row la lg.length lc 111 67 lx :: Ent.obj mp .nw (.map (mArr lg) lg.length) :: Ent.pin (sblks lx) (fun w => Lgs w lx lg) :: Ent.view da (df.map vu8) :: Ent.view qa (data.map vu8) :: Ent.blk bq .nw 103 [(1, [(vi kd)]), (32, key.map vu8), (1, [(vi dm)]), (1, [(.slice qa qn qc)])] :: L)) :
  Cs Try.prog 79 [(.pointer (some ⟨ob, 0, none⟩)), (.agg ⟨flat [(1, [(vi kd)]), (32, key.map vu8), (1, [(vi dm)]), (1, [(.slice qa qn qc)])]⟩), (Value.func (Fn.func 80) [].toArray [(Value.pointer (some ⟨bq, 0, none⟩))].toArray)].toArray w (fun v w1 => ∃ la' lc' lx', v = (.agg ⟨(anD false df dn u lg (kd, key, dm, data)).map vu8⟩) ∧ HP w00 w1 (Ent.blk ob .nw 50 [(1, [(.bool false)]), (32, ms.map vu8), (1, [(.slice da dn dc)]), (1, [(vi (((anU false u lg (kd, key, dm, data)) : Nat) : Int))]), (1, [(.map (some mp))]), (1, [(.slice la' ((anL false df dn u lg (kd, key, dm, data)).length) lc')])] :: Ent.row la' ((anL false df dn u lg (kd, key, dm, data)).length) lc' 111 67 lx' :: Ent.obj mp .nw (.map (mArr (anL false df dn u lg (kd, key, dm, data))) ((anL false df dn u lg (kd, key, dm, data)).length)) :: Ent.pin (sblks lx') (fun w => Lgs w lx' (anL false df dn u lg (kd, key, dm, data))) :: Ent.view da (df.map vu8) :: Ent.view qa (data.map vu8) :: Ent.blk bq .nw 103 [(1, [(vi kd)]), (32, key.map vu8), (1, [(vi dm)]), (1, [(.slice qa qn qc)])] :: L)) := by
 have hlgs : Lgs w lx lg := (h_0.ok _ M3).1
 have hlo := hlgs.ok
 have hqn : data.length ≤ 1000000000 := hq.2.2.2
 refine Cs.of (n := 74) (args := [(pO ob 0), (.agg ⟨flat [(1, [(vi kd)]), (32, key.map vu8), (1, [(vi dm)]), (1, [(.slice qa qn qc)])]⟩), (Value.func (Fn.func 80) [].toArray [(Value.pointer (some ⟨bq, 0, none⟩))].toArray)]) Try.func79 rfl rfl rfl ?_
 refine WP.seq (WP.reg ?_)
 refine WL.box (v := (.agg ⟨flat [(1, [(vi kd)]), (32, key.map vu8), (1, [(vi dm)]), (1, [(.slice qa qn qc)])]⟩)) (segs := [(1, [(vi kd)]), (32, key.map vu8), (1, [(vi dm)]), (1, [(.slice qa qn qc)])]) h_0 rfl rfl (SsOk.cons (SOk.v rfl) (SsOk.cons (SOk.u8 hq.1) (SsOk.cons (SOk.v rfl) (SsOk.cons (SOk.v rfl) SsOk.nil)))) rfl (fun b_1 w_2 h_3 => ?_)
 refine WL.alloc (segs := [(32, (List.replicate 32 (0 : UInt8)).map vu8)]) h_3 (zv Try.typeInfo23 rfl) rfl (SsOk.cons (SOk.u8 lr) SsOk.nil) rfl (fun b_4 w_5 h_6 => ?_)
 refine WL.nil (thn_n (WP.seq (WP.reg ?_)))
 refine qV rfl (R.fieldAddr (b := b_1) (off := 0) (off' := 0) rfl Try.underlying103 rfl Try.sizeOf101 rfl rfl) (qV rfl (R.load1 (b := b_1) (off := 0) (v := (vi kd)) rfl Try.isAgg101 (h_6.ok _ M1) Sg.h) (qV rfl (R.fieldAddr (b := b_1) (off := 0) (off' := 1) rfl Try.underlying103 rfl Try.sizeOf23 rfl rfl) (qV rfl (R.loadA (b := b_1) (off := 1) [(1, [(vi kd)])] [(32, key.map vu8)] [(1, [(vi dm)]), (1, [(.slice qa qn qc)])] (cs := key.map vu8) rfl Try.isAgg23 Try.sizeOf23 (h_6.ok _ M1) rfl rfl rfl rfl) (qV rfl (R.fieldAddr (b := b_1) (off := 0) (off' := 33) rfl Try.underlying103 rfl Try.sizeOf56 rfl rfl) (qV rfl (R.load1 (b := b_1) (off := 33) (v := (vi dm)) rfl Try.isAgg56 (h_6.ok _ M1) (Sg.t rfl (Sg.t rfl Sg.h))) (qV rfl (R.fieldAddr (b := b_1) (off := 0) (off' := 34) rfl Try.underlying103 rfl Try.sizeOf37 rfl rfl) (qV rfl (R.load1 (b := b_1) (off := 34) (v := (.slice qa qn qc)) rfl Try.isAgg37 (h_6.ok _ M1) (Sg.t rfl (Sg.t rfl (Sg.t rfl Sg.h)))) (qV rfl (R.toStr (bs := data) rfl Try.underlying37 Try.underlying5 Try.underlying9 (viewV (h_6.ok _ M7)) hdl) (qV rfl (R.buildS (pl := [(0, 1), (1, 32), (33, 1), (34, 1)]) (zs := [(1, [(vi 0)]), (32, (List.replicate 32 (0 : UInt8)).map vu8), (1, [(vi 0)]), (1, [(.string (bstr ([] : List UInt8)))])]) (vs := [(0, (vi kd)), (1, (.agg ⟨key.map vu8⟩)), (2, (vi dm)), (3, (.string (bstr data)))]) (out := [(1, [(vi kd)]), (32, key.map vu8), (1, [(vi dm)]), (1, [(.string (bstr data))])]) (cs := flat [(1, [(vi kd)]), (32, key.map vu8), (1, [(vi dm)]), (1, [(.string (bstr data))])]) Try.underlying157 (zv Try.typeInfo157 rfl) rfl (SsOk.cons (SOk.v rfl) (SsOk.cons (SOk.u8 lr) (SsOk.cons (SOk.v rfl) (SsOk.cons (SOk.v rfl) SsOk.nil)))) (pl157 _ Try.underlying157) rfl (FillR.cons [] [(1, [(vi 0)])] [(1, [(vi kd)])] [(32, (List.replicate 32 (0 : UInt8)).map vu8), (1, [(vi 0)]), (1, [(.string (bstr ([] : List UInt8)))])] rfl rfl rfl rfl (SsOk.cons (SOk.v rfl) SsOk.nil) rfl rfl rfl (FillR.cons [(1, [(vi kd)])] [(32, (List.replicate 32 (0 : UInt8)).map vu8)] [(32, key.map vu8)] [(1, [(vi 0)]), (1, [(.string (bstr ([] : List UInt8)))])] rfl rfl rfl rfl (SsOk.cons (SOk.u8 hq.1) SsOk.nil) rfl rfl rfl (FillR.cons [(1, [(vi kd)]), (32, key.map vu8)] [(1, [(vi 0)])] [(1, [(vi dm)])] [(1, [(.string (bstr ([] : List UInt8)))])] rfl rfl rfl rfl (SsOk.cons (SOk.v rfl) SsOk.nil) rfl rfl rfl (FillR.cons [(1, [(vi kd)]), (32, key.map vu8), (1, [(vi dm)])] [(1, [(.string (bstr ([] : List UInt8)))])] [(1, [(.string (bstr data))])] [] rfl rfl rfl rfl (SsOk.cons (SOk.v rfl) SsOk.nil) rfl rfl rfl FillR.nil)))) rfl) ?_)))))))))
 refine WL.alloc (segs := [(1, [(vi 0)]), (32, (List.replicate 32 (0 : UInt8)).map vu8), (1, [(vi 0)]), (1, [(.string (bstr ([] : List UInt8)))])]) h_6 (zv Try.typeInfo157 rfl) rfl (SsOk.cons (SOk.v rfl) (SsOk.cons (SOk.u8 lr) (SsOk.cons (SOk.v rfl) (SsOk.cons (SOk.v rfl) SsOk.nil)))) rfl (fun b_8 w_9 h_10 => ?_)
 refine WL.storeA (b := b_8) (off := 0) [] [(1, [(vi 0)]), (32, (List.replicate 32 (0 : UInt8)).map vu8), (1, [(vi 0)]), (1, [(.string (bstr ([] : List UInt8)))])] [(1, [(vi kd)]), (32, key.map vu8), (1, [(vi dm)]), (1, [(.string (bstr data))])] [] (ys := flat [(1, [(vi kd)]), (32, key.map vu8), (1, [(vi dm)]), (1, [(.string (bstr data))])]) h_10 rfl rfl Try.sizeOf157 At.h (by decide) rfl rfl rfl rfl rfl rfl (SsOk.cons (SOk.v rfl) (SsOk.cons (SOk.u8 hq.1) (SsOk.cons (SOk.v rfl) (SsOk.cons (SOk.v rfl) SsOk.nil)))) (fun w_11 h_12 => ?_)
 refine WL.nil (thn_n (WP.seq (WP.seq ?_)))
 refine WP.drawT (SL w00.heap.size [.blk b_8 .nw 157 [(1, [(vi kd)]), (32, key.map vu8), (1, [(vi dm)]), (1, [(.string (bstr data))])], .blk b_4 .nw 23 [(32, (List.replicate 32 (0 : UInt8)).map vu8)], .blk b_1 .nw 103 [(1, [(vi kd)]), (32, key.map vu8), (1, [(vi dm)]), (1, [(.slice qa qn qc)])], .blk ob .nw 50 [(1, [(.bool false)]), (32, ms.map vu8), (1, [(.slice da dn dc)]), (1, [(vn u)]), (1, [(.map (some mp))]), (1, [(.slice la lg.length lc)])], .row la lg.length lc 111 67 lx, .obj mp .nw (.map (mArr lg) lg.length), .pin (sblks lx) (fun w => Lgs w lx lg), .view da (df.map vu8), .view qa (data.map vu8), .blk bq .nw 103 [(1, [(vi kd)]), (32, key.map vu8), (1, [(vi dm)]), (1, [(.slice qa qn qc)])]]) (.q 0 (.q 1 (.q 2 (.q 3 (.q 4 (.s 5 (.q 6 (.q 7 (.q 8 (.q 9 (.q 10 .nil))))))))))) (by kernel_rfl) (by kernel_rfl) rfl (by kernel_rfl) (fun w_13 hc_15 => (SL.cons ((h_12.same hc_15).ok _ M0) (SL.cons ((h_12.same hc_15).ok _ M1) (SL.cons ((h_12.same hc_15).ok _ M2) (SL.cons ((h_12.same hc_15).ok _ M3) (SL.cons ((h_12.same hc_15).ok _ M4) (SL.cons ((h_12.same hc_15).ok _ M5) (SL.cons ((h_12.same hc_15).ok _ M6) (SL.cons ((h_12.same hc_15).ok _ M7) (SL.cons ((h_12.same hc_15).ok _ M8) (SL.cons ((h_12.same hc_15).ok _ M9) (SL.nil _ _)))))))))))) (fun w_13 hc_15 => ?_)
 have h_14 := h_12.same hc_15
 refine qT rfl rfl (fun wq hS => R.move (v := (pO ob 0)) rfl) ?_
 refine qT rfl rfl (fun wq hS => R.nilCheck rfl) ?_
 refine qT rfl rfl (fun wq hS => R.fieldAddr (b := ob) (off := 0) (off' := 35) rfl Try.underlying50 rfl Try.sizeOf47 rfl rfl) ?_
 refine qT rfl rfl (fun wq hS => R.load1 (b := ob) (off := 35) (v := (.map (some mp))) rfl Try.isAgg47 (hS _ M3) (Sg.t rfl (Sg.t rfl (Sg.t rfl (Sg.t rfl Sg.h))))) ?_
 refine qT rfl rfl (fun wq hS => R.loadA (b := b_8) (off := 0) [] [(1, [(vi kd)]), (32, key.map vu8), (1, [(vi dm)]), (1, [(.string (bstr data))])] [] (cs := flat [(1, [(vi kd)]), (32, key.map vu8), (1, [(vi dm)]), (1, [(.string (bstr data))])]) rfl Try.isAgg157 Try.sizeOf157 (hS _ M0) rfl rfl rfl rfl) ?_
 refine WT.s (Op1.one rfl (Wn.no rfl) ?_)
 refine qV rfl (R.lookup (r := none) (z := (vi 0)) (v := (vi 0)) (ok := false) rfl rfl Try.underlying47 (h_14.ok _ M5) (Ck.agg kt157 (by decide) ag157 (typQ (kd, key, dm, data) hq)) (log_miss kt157 (by decide) ag157 typQ hq hlo hfd) (zv Try.typeInfo3 rfl) rfl rfl) ?_
 refine WL.nil ?_
 refine ⟨(SL.cons (h_14.ok _ M0) (SL.cons (h_14.ok _ M1) (SL.cons (h_14.ok _ M2) (SL.cons (h_14.ok _ M3) (SL.cons (h_14.ok _ M4) (SL.cons (h_14.ok _ M5) (SL.cons (h_14.ok _ M6) (SL.cons (h_14.ok _ M7) (SL.cons (h_14.ok _ M8) (SL.cons (h_14.ok _ M9) (SL.nil _ _))))))))))), ?_⟩
 refine qT rfl rfl (fun wq hS => R.move (v := (.tuple [(vi 0), (.bool false)].toArray)) rfl) ?_
 refine qT rfl rfl (fun wq hS => R.extract rfl rfl) ?_
 refine qT rfl rfl (fun wq hS => R.extract rfl rfl) ?_
 refine qT rfl rfl (fun wq hS => R.assign (v := (vi 0)) rfl) ?_
 refine qT rfl rfl (fun wq hS => R.assign (v := (.bool false)) rfl) ?_
 refine WT.nil (thn_n (WP.seq (WP.reg ?_)))
 refine qM (.bool false) rfl rfl ?_
 refine WL.nil (thn_n ?_)
 refine WP.condF rfl ?_
 refine WP.skip (thn_n (WP.seq (WP.reg ?_)))
 refine WL.alloc (segs := [(32, (List.replicate 32 (0 : UInt8)).map vu8)]) h_14 (zv Try.typeInfo23 rfl) rfl (SsOk.cons (SOk.u8 lr) SsOk.nil) rfl (fun b_16 w_17 h_18 => ?_)
 refine WL.nil (thn_n (WP.seq (WP.seq (WP.reg ?_))))
 refine qM (pO ob 0) rfl rfl (qV rfl (R.nilCheck rfl) (qV rfl (R.fieldAddr (b := ob) (off := 0) (off' := 0) rfl Try.underlying50 rfl Try.sizeOf4 rfl rfl) (qV rfl (R.load1 (b := ob) (off := 0) (v := (.bool false)) rfl Try.isAgg4 (h_18.ok _ M4) Sg.h) ?_)))
 refine WL.nil (thn_n ?_)
 refine WP.condF rfl ?_
 refine WP.reg ?_
 refine qM (Value.func (Fn.func 80) [].toArray [(Value.pointer (some ⟨bq, 0, none⟩))].toArray) rfl rfl ?_
 refine WL.call Try.call80 rfl rfl (c_oCl kd dm key data qa qn qc hq hdl bq _ (viewV (h_18.ok _ M9)) (h_18.argR M10)) rfl ?_
 rintro _ w_20 ⟨rfl, hc_19⟩
 have h_21 := h_18.same hc_19
 refine WL.storeA (b := b_16) (off := 0) [] [(32, (List.replicate 32 (0 : UInt8)).map vu8)] [(32, (cF (kd, key, dm, data)).map vu8)] [] (ys := (cF (kd, key, dm, data)).map vu8) h_21 rfl rfl Try.sizeOf23 At.h (by decide) rfl rfl rfl rfl rfl rfl (SsOk.cons (SOk.u8 (cF_len _)) SsOk.nil) (fun w_22 h_23 => ?_)
 refine WL.nil (thn_n (WP.seq (WP.reg ?_)))
 refine qV rfl (R.fieldAddr (b := b_1) (off := 0) (off' := 34) rfl Try.underlying103 rfl Try.sizeOf37 rfl rfl) (qV rfl (R.load1 (b := b_1) (off := 34) (v := (.slice qa qn qc)) rfl Try.isAgg37 (h_23.ok _ M3) (Sg.t rfl (Sg.t rfl (Sg.t rfl Sg.h)))) ?_)
 refine WL.call Try.call58 rfl rfl (c_Clone qa qn qc data hdl (by omega) _ (viewV (h_23.ok _ M9))) rfl ?_
 rintro _ w_26 ⟨a_24, cap_25, rfl, hc_27, ho_28⟩
 have h_29 := h_23.gotRow hc_27 ho_28
 refine qV rfl (R.fieldAddr (b := b_1) (off := 0) (off' := 34) rfl Try.underlying103 rfl Try.sizeOf37 rfl rfl) ?_
 refine WL.store1 (b := b_1) (off := 34) (v := (.slice a_24 qn cap_25)) h_29 rfl rfl Try.sizeOf37 rfl Y4 (by decide) (Sg.t rfl (Sg.t rfl (Sg.t rfl Sg.h))) (fun w_30 h_31 => ?_)
 refine WL.nil (thn_n (WP.seq ?_))
 refine WP.drawT (SL w00.heap.size [.row a_24 qn cap_25 5 1 (data.map vu8), .blk b_16 .nw 23 [(32, (cF (kd, key, dm, data)).map vu8)], .blk b_8 .nw 157 [(1, [(vi kd)]), (32, key.map vu8), (1, [(vi dm)]), (1, [(.string (bstr data))])], .blk b_4 .nw 23 [(32, (List.replicate 32 (0 : UInt8)).map vu8)], .blk b_1 .nw 103 [(1, [(vi kd)]), (32, key.map vu8), (1, [(vi dm)]), (1, [(.slice a_24 qn cap_25)])], .blk ob .nw 50 [(1, [(.bool false)]), (32, ms.map vu8), (1, [(.slice da dn dc)]), (1, [(vn u)]), (1, [(.map (some mp))]), (1, [(.slice la lg.length lc)])], .row la lg.length lc 111 67 lx, .pin (sblks lx) (fun w => Lgs w lx lg), .view da (df.map vu8), .view qa (data.map vu8), .blk bq .nw 103 [(1, [(vi kd)]), (32, key.map vu8), (1, [(vi dm)]), (1, [(.slice qa qn qc)])]]) (.q 0 (.q 1 (.q 2 (.q 3 (.q 4 (.q 5 (.q 6 (.q 7 (.q 8 (.q 9 (.s 10 .nil))))))))))) (by kernel_rfl) (by kernel_rfl) rfl (by kernel_rfl) (fun w_32 hc_34 => (SL.cons ((h_31.same hc_34).ok _ M0) (SL.cons ((h_31.same hc_34).ok _ M1) (SL.cons ((h_31.same hc_34).ok _ M2) (SL.cons ((h_31.same hc_34).ok _ M3) (SL.cons ((h_31.same hc_34).ok _ M4) (SL.cons ((h_31.same hc_34).ok _ M5) (SL.cons ((h_31.same hc_34).ok _ M6) (SL.cons ((h_31.same hc_34).ok _ M8) (SL.cons ((h_31.same hc_34).ok _ M9) (SL.cons ((h_31.same hc_34).ok _ M10) (SL.cons ((h_31.same hc_34).ok _ M11) (SL.nil _ _))))))))))))) (fun w_32 hc_34 => ?_)
 have h_33 := h_31.same hc_34
 refine qT rfl rfl (fun wq hS => R.move (v := (pO ob 0)) rfl) ?_
 refine qT rfl rfl (fun wq hS => R.nilCheck rfl) ?_
 refine qT rfl rfl (fun wq hS => R.fieldAddr (b := ob) (off := 0) (off' := 35) rfl Try.underlying50 rfl Try.sizeOf47 rfl rfl) ?_
 refine qT rfl rfl (fun wq hS => R.load1 (b := ob) (off := 35) (v := (.map (some mp))) rfl Try.isAgg47 (hS _ M5) (Sg.t rfl (Sg.t rfl (Sg.t rfl (Sg.t rfl Sg.h))))) ?_
 refine qT rfl rfl (fun wq hS => R.loadA (b := b_8) (off := 0) [] [(1, [(vi kd)]), (32, key.map vu8), (1, [(vi dm)]), (1, [(.string (bstr data))])] [] (cs := flat [(1, [(vi kd)]), (32, key.map vu8), (1, [(vi dm)]), (1, [(.string (bstr data))])]) rfl Try.isAgg157 Try.sizeOf157 (hS _ M2) rfl rfl rfl rfl) ?_
 refine qT rfl rfl (fun wq hS => R.move (v := (pO ob 0)) rfl) ?_
 refine qT rfl rfl (fun wq hS => R.nilCheck rfl) ?_
 refine qT rfl rfl (fun wq hS => R.fieldAddr (b := ob) (off := 0) (off' := 36) rfl Try.underlying50 rfl Try.sizeOf48 rfl rfl) ?_
 refine qT rfl rfl (fun wq hS => R.load1 (b := ob) (off := 36) (v := (.slice la lg.length lc)) rfl Try.isAgg48 (hS _ M5) (Sg.t rfl (Sg.t rfl (Sg.t rfl (Sg.t rfl (Sg.t rfl Sg.h)))))) ?_
 refine qT rfl rfl (fun wq hS => R.lenS (a := la) (m := lg.length) rfl rfl Try.underlying48) ?_
 refine WT.s (Op1.one rfl (Wn.no rfl) ?_)
 refine WL.mapUpdate (k := (.agg ⟨flat [(1, [(vi kd)]), (32, key.map vu8), (1, [(vi dm)]), (1, [(.string (bstr data))])]⟩)) (v := (vn (lg.length))) h_33 rfl rfl rfl Try.underlying47 Y7 (by decide) (Ck.agg kt157 (by decide) ag157 (typQ (kd, key, dm, data) hq)) (log_miss kt157 (by decide) ag157 typQ hq hlo hfd) (fun w_35 h_36 => ?_)
 refine WL.nil ?_
 refine ⟨(SL.cons (h_36.ok _ M0) (SL.cons (h_36.ok _ M1) (SL.cons (h_36.ok _ M2) (SL.cons (h_36.ok _ M3) (SL.cons (h_36.ok _ M4) (SL.cons (h_36.ok _ M5) (SL.cons (h_36.ok _ M6) (SL.cons (h_36.ok _ M8) (SL.cons (h_36.ok _ M9) (SL.cons (h_36.ok _ M10) (SL.cons (h_36.ok _ M11) (SL.nil _ _)))))))))))), ?_⟩
 refine WT.nil (thn_n (WP.seq ?_))
 refine WP.cutG (G := Nat × Option Addr × Nat) [61, 62, 63, 64, 65, 66, 67, 68, 69, 70, 71, 72] (fun (bY11Y8Y0Y0, aY11Y9Y0Y0, cY11Y9Y0Y0) => [(61, (pO ob 0)), (62, (pO ob 0)), (63, (pO ob 0)), (64, (pO ob 36)), (66, (.agg ⟨flat [(1, [(vi kd)]), (32, key.map vu8), (1, [(vi dm)]), (1, [(.slice a_24 qn cap_25)])]⟩)), (67, (.agg ⟨(cF (kd, key, dm, data)).map vu8⟩)), (68, (.agg ⟨flat [(1, [(vi kd)]), (32, key.map vu8), (1, [(vi dm)]), (1, [(.slice a_24 qn cap_25)]), (32, (cF (kd, key, dm, data)).map vu8)]⟩)), (65, (.slice la lg.length lc)), (69, (.slice (some ⟨bY11Y8Y0Y0, 0, none⟩) 1 1)), (70, (.slice aY11Y9Y0Y0 (lg.length + 1) cY11Y9Y0Y0)), (71, (pO ob 0)), (72, (pO ob 36))]) (fun (bY11Y8Y0Y0, aY11Y9Y0Y0, cY11Y9Y0Y0) w1 => HP w00 w1 (Ent.blk bY11Y8Y0Y0 .nw 111 [(67, aC (kd, key, dm, data) (.slice a_24 qn cap_25) (cF (kd, key, dm, data)))] :: Ent.row a_24 qn cap_25 5 1 (data.map vu8) :: Ent.blk b_16 .nw 23 [(32, (cF (kd, key, dm, data)).map vu8)] :: Ent.blk b_8 .nw 157 [(1, [(vi kd)]), (32, key.map vu8), (1, [(vi dm)]), (1, [(.string (bstr data))])] :: Ent.blk b_4 .nw 23 [(32, (List.replicate 32 (0 : UInt8)).map vu8)] :: Ent.blk b_1 .nw 103 [(1, [(vi kd)]), (32, key.map vu8), (1, [(vi dm)]), (1, [(.slice a_24 qn cap_25)])] :: Ent.blk ob .nw 50 [(1, [(.bool false)]), (32, ms.map vu8), (1, [(.slice da dn dc)]), (1, [(vn u)]), (1, [(.map (some mp))]), (1, [(.slice aY11Y9Y0Y0 (lg.length + 1) cY11Y9Y0Y0)])] :: Ent.row aY11Y9Y0Y0 (lg.length + 1) cY11Y9Y0Y0 111 67 (lx ++ aC (kd, key, dm, data) (.slice a_24 qn cap_25) (cF (kd, key, dm, data))) :: Ent.obj mp .nw (.map ((mArr lg).push { key := (.agg ⟨flat [(1, [(vi kd)]), (32, key.map vu8), (1, [(vi dm)]), (1, [(.string (bstr data))])]⟩), val := (vn (lg.length)), born := lg.length }) (lg.length + 1)) :: Ent.pin (sblks lx) (fun w => Lgs w lx lg) :: Ent.view da (df.map vu8) :: Ent.view qa (data.map vu8) :: Ent.blk bq .nw 103 [(1, [(vi kd)]), (32, key.map vu8), (1, [(vi dm)]), (1, [(.slice qa qn qc)])] :: L)) ?_ ?_
 ·refine WP.drawT (SL w00.heap.size [.row a_24 qn cap_25 5 1 (data.map vu8), .blk b_16 .nw 23 [(32, (cF (kd, key, dm, data)).map vu8)], .blk b_8 .nw 157 [(1, [(vi kd)]), (32, key.map vu8), (1, [(vi dm)]), (1, [(.string (bstr data))])], .blk b_4 .nw 23 [(32, (List.replicate 32 (0 : UInt8)).map vu8)], .blk b_1 .nw 103 [(1, [(vi kd)]), (32, key.map vu8), (1, [(vi dm)]), (1, [(.slice a_24 qn cap_25)])], .obj mp .nw (.map ((mArr lg).push { key := (.agg ⟨flat [(1, [(vi kd)]), (32, key.map vu8), (1, [(vi dm)]), (1, [(.string (bstr data))])]⟩), val := (vn (lg.length)), born := lg.length }) (lg.length + 1)), .pin (sblks lx) (fun w => Lgs w lx lg), .view da (df.map vu8), .view qa (data.map vu8), .blk bq .nw 103 [(1, [(vi kd)]), (32, key.map vu8), (1, [(vi dm)]), (1, [(.slice qa qn qc)])]]) (.q 0 (.q 1 (.q 2 (.q 3 (.q 5 (.q 6 (.q 7 (.s2 4 8 (.s 8 (.s 9 (.q 10 (.q 11 (.s 12 .nil))))) (.s 4 (.s 9 (.q 10 (.q 11 (.s 12 .nil))))))))))))) (by kernel_rfl) (by kernel_rfl) rfl (by kernel_rfl) (fun w_37 hc_39 => (SL.cons ((h_36.same hc_39).ok _ M0) (SL.cons ((h_36.same hc_39).ok _ M1) (SL.cons ((h_36.same hc_39).ok _ M2) (SL.cons ((h_36.same hc_39).ok _ M3) (SL.cons ((h_36.same hc_39).ok _ M4) (SL.cons ((h_36.same hc_39).ok _ M7) (SL.cons ((h_36.same hc_39).ok _ M8) (SL.cons ((h_36.same hc_39).ok _ M9) (SL.cons ((h_36.same hc_39).ok _ M10) (SL.cons ((h_36.same hc_39).ok _ M11) (SL.nil _ _)))))))))))) (fun w_37 hc_39 => ?_)
  have h_38 := h_36.same hc_39
  refine qT rfl rfl (fun wq hS => R.move (v := (pO ob 0)) rfl) ?_
  refine qT rfl rfl (fun wq hS => R.move (v := (pO ob 0)) rfl) ?_
  refine qT rfl rfl (fun wq hS => R.nilCheck rfl) ?_
  refine qT rfl rfl (fun wq hS => R.fieldAddr (b := ob) (off := 0) (off' := 36) rfl Try.underlying50 rfl Try.sizeOf48 rfl rfl) ?_
  refine qT rfl rfl (fun wq hS => R.loadA (b := b_1) (off := 0) [] [(1, [(vi kd)]), (32, key.map vu8), (1, [(vi dm)]), (1, [(.slice a_24 qn cap_25)])] [] (cs := flat [(1, [(vi kd)]), (32, key.map vu8), (1, [(vi dm)]), (1, [(.slice a_24 qn cap_25)])]) rfl Try.isAgg103 Try.sizeOf103 (hS _ M4) rfl rfl rfl rfl) ?_
  refine qT rfl rfl (fun wq hS => R.loadA (b := b_16) (off := 0) [] [(32, (cF (kd, key, dm, data)).map vu8)] [] (cs := (cF (kd, key, dm, data)).map vu8) rfl Try.isAgg23 Try.sizeOf23 (hS _ M1) rfl rfl rfl rfl) ?_
  refine qT rfl rfl (fun wq hS => R.buildS (pl := [(0, 35), (35, 32)]) (zs := [(1, [(vi 0)]), (32, (List.replicate 32 (0 : UInt8)).map vu8), (1, [(vi 0)]), (1, [(.slice none 0 0)]), (32, (List.replicate 32 (0 : UInt8)).map vu8)]) (vs := [(0, (.agg ⟨flat [(1, [(vi kd)]), (32, key.map vu8), (1, [(vi dm)]), (1, [(.slice a_24 qn cap_25)])]⟩)), (1, (.agg ⟨(cF (kd, key, dm, data)).map vu8⟩))]) (out := [(1, [(vi kd)]), (32, key.map vu8), (1, [(vi dm)]), (1, [(.slice a_24 qn cap_25)]), (32, (cF (kd, key, dm, data)).map vu8)]) (cs := flat [(1, [(vi kd)]), (32, key.map vu8), (1, [(vi dm)]), (1, [(.slice a_24 qn cap_25)]), (32, (cF (kd, key, dm, data)).map vu8)]) Try.underlying111 (zv Try.typeInfo111 rfl) rfl (SsOk.cons (SOk.v rfl) (SsOk.cons (SOk.u8 lr) (SsOk.cons (SOk.v rfl) (SsOk.cons (SOk.v rfl) (SsOk.cons (SOk.u8 lr) SsOk.nil))))) (pl111 _ Try.underlying111) rfl (FillR.cons [] [(1, [(vi 0)]), (32, (List.replicate 32 (0 : UInt8)).map vu8), (1, [(vi 0)]), (1, [(.slice none 0 0)])] [(1, [(vi kd)]), (32, key.map vu8), (1, [(vi dm)]), (1, [(.slice a_24 qn cap_25)])] [(32, (List.replicate 32 (0 : UInt8)).map vu8)] rfl rfl rfl rfl (SsOk.cons (SOk.v rfl) (SsOk.cons (SOk.u8 hq.1) (SsOk.cons (SOk.v rfl) (SsOk.cons (SOk.v rfl) SsOk.nil)))) rfl rfl rfl (FillR.cons [(1, [(vi kd)]), (32, key.map vu8), (1, [(vi dm)]), (1, [(.slice a_24 qn cap_25)])] [(32, (List.replicate 32 (0 : UInt8)).map vu8)] [(32, (cF (kd, key, dm, data)).map vu8)] [] rfl rfl rfl rfl (SsOk.cons (SOk.u8 (cF_len _)) SsOk.nil) rfl rfl rfl FillR.nil)) rfl) ?_
  refine WT.s2 ?_ ?_
  ·refine Op1.one rfl (Wn.no rfl) ?_
   refine qV rfl (R.load1 (b := ob) (off := 36) (v := (.slice la lg.length lc)) rfl Try.isAgg48 (h_38.ok _ M5) (Sg.t rfl (Sg.t rfl (Sg.t rfl (Sg.t rfl (Sg.t rfl Sg.h)))))) ?_
   refine WL.nil ?_
   refine ⟨(SL.cons (h_38.ok _ M0) (SL.cons (h_38.ok _ M1) (SL.cons (h_38.ok _ M2) (SL.cons (h_38.ok _ M3) (SL.cons (h_38.ok _ M4) (SL.cons (h_38.ok _ M7) (SL.cons (h_38.ok _ M8) (SL.cons (h_38.ok _ M9) (SL.cons (h_38.ok _ M10) (SL.cons (h_38.ok _ M11) (SL.nil _ _))))))))))), ?_⟩
   refine WT.s (Op1.one rfl (Wn.no rfl) ?_)
   refine WL.buildSl (vs := [(0, (.agg ⟨flat [(1, [(vi kd)]), (32, key.map vu8), (1, [(vi dm)]), (1, [(.slice a_24 qn cap_25)]), (32, (cF (kd, key, dm, data)).map vu8)]⟩))]) (cs := aC (kd, key, dm, data) (.slice a_24 qn cap_25) (cF (kd, key, dm, data))) h_38 Try.underlying48 Try.sizeOf111 (zv Try.typeInfo111 rfl) rfl rfl (fill_1 (zc := flat [(1, [vi 0]), (32, List.replicate 32 (vu8 0)), (1, [vi 0]), (1, [.slice none 0 0]), (32, List.replicate 32 (vu8 0))]) (by kernel_rfl) (SsOk.cons (s := (67, flat [(1, [vi 0]), (32, List.replicate 32 (vu8 0)), (1, [vi 0]), (1, [.slice none 0 0]), (32, List.replicate 32 (vu8 0))])) ⟨by decide, SsOk.one (SsOk.cons (SOk.v rfl) (SsOk.cons (SOk.rep rfl) (SsOk.cons (SOk.v rfl) (SsOk.cons (SOk.v rfl) (SsOk.cons (SOk.rep rfl) SsOk.nil)))))⟩ SsOk.nil) (aC_ok (q := (kd, key, dm, data)) (s := (.slice a_24 qn cap_25)) (d := cF (kd, key, dm, data)) hq.1 (cF_len _) rfl)) ((aC_ok (q := (kd, key, dm, data)) (s := (.slice a_24 qn cap_25)) (d := cF (kd, key, dm, data)) hq.1 (cF_len _) rfl)).head.len ((aC_ok (q := (kd, key, dm, data)) (s := (.slice a_24 qn cap_25)) (d := cF (kd, key, dm, data)) hq.1 (cF_len _) rfl)).head.one rfl rfl (fun b_41 w_42 h_43 => ?_)
   refine WL.nil ?_
   refine ⟨(SL.cons (h_43.ok _ M1) (SL.cons (h_43.ok _ M2) (SL.cons (h_43.ok _ M3) (SL.cons (h_43.ok _ M4) (SL.cons (h_43.ok _ M5) (SL.cons (h_43.ok _ M8) (SL.cons (h_43.ok _ M9) (SL.cons (h_43.ok _ M10) (SL.cons (h_43.ok _ M11) (SL.cons (h_43.ok _ M12) (SL.nil _ _))))))))))), ?_⟩
   refine WT.s (Op1.one rfl (Wn.no rfl) ?_)
   refine WL.append (km := lg.length + 1) (xs := lx) (ys := aC (kd, key, dm, data) (.slice a_24 qn cap_25) (cF (kd, key, dm, data))) (zs := lx ++ aC (kd, key, dm, data) (.slice a_24 qn cap_25) (cF (kd, key, dm, data))) h_43 rfl rfl el48 (viewB (h_43.ok _ M0) Sg.h) ((aC_ok (q := (kd, key, dm, data)) (s := (.slice a_24 qn cap_25)) (d := cF (kd, key, dm, data)) hq.1 (cF_len _) rfl)).head.len ((aC_ok (q := (kd, key, dm, data)) (s := (.slice a_24 qn cap_25)) (d := cF (kd, key, dm, data)) hq.1 (cF_len _) rfl)).head.one rfl (by omega) (by omega) (by omega) (fun _ _ => Y7) rfl (fun a_44 c_45 w_46 h_47 => ?_)
   refine WL.nil ?_
   refine ⟨(SL.cons (h_47.ok _ M1) (SL.cons (h_47.ok _ M2) (SL.cons (h_47.ok _ M3) (SL.cons (h_47.ok _ M4) (SL.cons (h_47.ok _ M5) (SL.cons (h_47.ok _ M8) (SL.cons (h_47.ok _ M9) (SL.cons (h_47.ok _ M10) (SL.cons (h_47.ok _ M11) (SL.cons (h_47.ok _ M12) (SL.nil _ _))))))))))), ?_⟩
   refine qT rfl rfl (fun wq hS => R.nilCheck rfl) ?_
   refine qT rfl rfl (fun wq hS => R.fieldAddr (b := ob) (off := 0) (off' := 36) rfl Try.underlying50 rfl Try.sizeOf48 rfl rfl) ?_
   refine WT.s (Op1.one rfl (Wn.no rfl) ?_)
   refine WL.store1 (b := ob) (off := 36) (v := (.slice a_44 (lg.length + 1) c_45)) h_47 rfl rfl Try.sizeOf48 rfl Y6 (by decide) (Sg.t rfl (Sg.t rfl (Sg.t rfl (Sg.t rfl (Sg.t rfl Sg.h))))) (fun w_48 h_49 => ?_)
   refine WL.nil ?_
   refine ⟨(SL.cons (h_49.ok _ M1) (SL.cons (h_49.ok _ M2) (SL.cons (h_49.ok _ M3) (SL.cons (h_49.ok _ M4) (SL.cons (h_49.ok _ M5) (SL.cons (h_49.ok _ M8) (SL.cons (h_49.ok _ M9) (SL.cons (h_49.ok _ M10) (SL.cons (h_49.ok _ M11) (SL.cons (h_49.ok _ M12) (SL.nil _ _))))))))))), ?_⟩
   refine WT.nil (thn_n ?_)
   exact ⟨(b_41, a_44, c_45), (U4 rfl rfl rfl rfl (U4 rfl rfl rfl rfl (U4 rfl rfl rfl rfl (Ag.refl _ _)))), ⟨rfl, rfl, rfl, rfl, rfl, rfl, rfl, rfl, rfl, rfl, rfl, rfl, trivial⟩, h_49⟩
  ·refine Op1.one rfl (Wn.no rfl) ?_
   refine WL.buildSl (vs := [(0, (.agg ⟨flat [(1, [(vi kd)]), (32, key.map vu8), (1, [(vi dm)]), (1, [(.slice a_24 qn cap_25)]), (32, (cF (kd, key, dm, data)).map vu8)]⟩))]) (cs := aC (kd, key, dm, data) (.slice a_24 qn cap_25) (cF (kd, key, dm, data))) h_38 Try.underlying48 Try.sizeOf111 (zv Try.typeInfo111 rfl) rfl rfl (fill_1 (zc := flat [(1, [vi 0]), (32, List.replicate 32 (vu8 0)), (1, [vi 0]), (1, [.slice none 0 0]), (32, List.replicate 32 (vu8 0))]) (by kernel_rfl) (SsOk.cons (s := (67, flat [(1, [vi 0]), (32, List.replicate 32 (vu8 0)), (1, [vi 0]), (1, [.slice none 0 0]), (32, List.replicate 32 (vu8 0))])) ⟨by decide, SsOk.one (SsOk.cons (SOk.v rfl) (SsOk.cons (SOk.rep rfl) (SsOk.cons (SOk.v rfl) (SsOk.cons (SOk.v rfl) (SsOk.cons (SOk.rep rfl) SsOk.nil)))))⟩ SsOk.nil) (aC_ok (q := (kd, key, dm, data)) (s := (.slice a_24 qn cap_25)) (d := cF (kd, key, dm, data)) hq.1 (cF_len _) rfl)) ((aC_ok (q := (kd, key, dm, data)) (s := (.slice a_24 qn cap_25)) (d := cF (kd, key, dm, data)) hq.1 (cF_len _) rfl)).head.len ((aC_ok (q := (kd, key, dm, data)) (s := (.slice a_24 qn cap_25)) (d := cF (kd, key, dm, data)) hq.1 (cF_len _) rfl)).head.one rfl rfl (fun b_50 w_51 h_52 => ?_)
   refine WL.nil ?_
   refine ⟨(SL.cons (h_52.ok _ M1) (SL.cons (h_52.ok _ M2) (SL.cons (h_52.ok _ M3) (SL.cons (h_52.ok _ M4) (SL.cons (h_52.ok _ M5) (SL.cons (h_52.ok _ M8) (SL.cons (h_52.ok _ M9) (SL.cons (h_52.ok _ M10) (SL.cons (h_52.ok _ M11) (SL.cons (h_52.ok _ M12) (SL.nil _ _))))))))))), ?_⟩
   refine WT.s (Op1.one rfl (Wn.no rfl) ?_)
   refine qV rfl (R.load1 (b := ob) (off := 36) (v := (.slice la lg.length lc)) rfl Try.isAgg48 (h_52.ok _ M6) (Sg.t rfl (Sg.t rfl (Sg.t rfl (Sg.t rfl (Sg.t rfl Sg.h)))))) ?_
   refine WL.nil ?_
   refine ⟨(SL.cons (h_52.ok _ M1) (SL.cons (h_52.ok _ M2) (SL.cons (h_52.ok _ M3) (SL.cons (h_52.ok _ M4) (SL.cons (h_52.ok _ M5) (SL.cons (h_52.ok _ M8) (SL.cons (h_52.ok _ M9) (SL.cons (h_52.ok _ M10) (SL.cons (h_52.ok _ M11) (SL.cons (h_52.ok _ M12) (SL.nil _ _))))))))))), ?_⟩
   refine WT.s (Op1.one rfl (Wn.no rfl) ?_)
   refine WL.append (km := lg.length + 1) (xs := lx) (ys := aC (kd, key, dm, data) (.slice a_24 qn cap_25) (cF (kd, key, dm, data))) (zs := lx ++ aC (kd, key, dm, data) (.slice a_24 qn cap_25) (cF (kd, key, dm, data))) h_52 rfl rfl el48 (viewB (h_52.ok _ M0) Sg.h) ((aC_ok (q := (kd, key, dm, data)) (s := (.slice a_24 qn cap_25)) (d := cF (kd, key, dm, data)) hq.1 (cF_len _) rfl)).head.len ((aC_ok (q := (kd, key, dm, data)) (s := (.slice a_24 qn cap_25)) (d := cF (kd, key, dm, data)) hq.1 (cF_len _) rfl)).head.one rfl (by omega) (by omega) (by omega) (fun _ _ => Y7) rfl (fun a_53 c_54 w_55 h_56 => ?_)
   refine WL.nil ?_
   refine ⟨(SL.cons (h_56.ok _ M1) (SL.cons (h_56.ok _ M2) (SL.cons (h_56.ok _ M3) (SL.cons (h_56.ok _ M4) (SL.cons (h_56.ok _ M5) (SL.cons (h_56.ok _ M8) (SL.cons (h_56.ok _ M9) (SL.cons (h_56.ok _ M10) (SL.cons (h_56.ok _ M11) (SL.cons (h_56.ok _ M12) (SL.nil _ _))))))))))), ?_⟩
   refine qT rfl rfl (fun wq hS => R.nilCheck rfl) ?_
   refine qT rfl rfl (fun wq hS => R.fieldAddr (b := ob) (off := 0) (off' := 36) rfl Try.underlying50 rfl Try.sizeOf48 rfl rfl) ?_
   refine WT.s (Op1.one rfl (Wn.no rfl) ?_)
   refine WL.store1 (b := ob) (off := 36) (v := (.slice a_53 (lg.length + 1) c_54)) h_56 rfl rfl Try.sizeOf48 rfl Y6 (by decide) (Sg.t rfl (Sg.t rfl (Sg.t rfl (Sg.t rfl (Sg.t rfl Sg.h))))) (fun w_57 h_58 => ?_)
   refine WL.nil ?_
   refine ⟨(SL.cons (h_58.ok _ M1) (SL.cons (h_58.ok _ M2) (SL.cons (h_58.ok _ M3) (SL.cons (h_58.ok _ M4) (SL.cons (h_58.ok _ M5) (SL.cons (h_58.ok _ M8) (SL.cons (h_58.ok _ M9) (SL.cons (h_58.ok _ M10) (SL.cons (h_58.ok _ M11) (SL.cons (h_58.ok _ M12) (SL.nil _ _))))))))))), ?_⟩
   refine WT.nil (thn_n ?_)
   exact ⟨(b_50, a_53, c_54), (U4 rfl rfl rfl rfl (U4 rfl rfl rfl rfl (U4 rfl rfl rfl rfl (Ag.refl _ _)))), ⟨rfl, rfl, rfl, rfl, rfl, rfl, rfl, rfl, rfl, rfl, rfl, rfl, trivial⟩, h_58⟩
 ·rintro ⟨b_62, a_63, c_64⟩ J_59 w_60 h_61
  refine thn_n (WP.seq (WP.reg ?_))
  refine qV rfl (R.loadA (b := b_16) (off := 0) [] [(32, (cF (kd, key, dm, data)).map vu8)] [] (cs := (cF (kd, key, dm, data)).map vu8) rfl Try.isAgg23 Try.sizeOf23 (h_61.ok _ M2) rfl rfl rfl rfl) ?_
  refine WL.storeA (b := b_4) (off := 0) [] [(32, (List.replicate 32 (0 : UInt8)).map vu8)] [(32, (cF (kd, key, dm, data)).map vu8)] [] (ys := (cF (kd, key, dm, data)).map vu8) h_61 rfl rfl Try.sizeOf23 Y4 (by decide) rfl rfl rfl rfl rfl rfl (SsOk.cons (SOk.u8 (cF_len _)) SsOk.nil) (fun w_65 h_66 => ?_)
  refine WL.nil (thn_n (WP.ret ?_))
  refine ret_of Try.results79 (RV.cell rfl (h_66.loadA (cs := (cF (kd, key, dm, data)).map vu8) Try.isAgg23 Try.sizeOf23 M4 rfl rfl) RV.nil) ?_
  have h_83 := ((((((((((((((((h_66.drop rfl).up J1).drop rfl).up J1).drop rfl).up J1).drop rfl).up J1).drop rfl).up J7).up J7).up J7).up J6).up J6).up J6).up J7).up J7
  have h_84 := HP_logPush (q := (kd, key, dm, data)) (d := cF (kd, key, dm, data)) h_83 hq (cF_len _) hdl
  have h_96 := ((((((((((h_84.up J1).drop rfl).up J1).drop rfl).up J6).up J6).up J6).up J3).up J6).up J6).up J6
  have hse : lg.length + 1 = (lg ++ [((kd, key, dm, data), cF (kd, key, dm, data))]).length := snoc_len.symm
  have hme := mArr_push lg (kd, key, dm, data) (cF (kd, key, dm, data))
  have h_85 := h_96
  rw [hse] at h_85
  exact ⟨_, _, _, by rw [anD_miss hfd]; rfl, by rw [anU_miss hfd, anL_miss hfd]; show HP _ _ (_ :: _ :: .obj _ _ (.map (mArr (lg ++ [((kd, key, dm, data), cF (kd, key, dm, data))])) _) :: _); rw [hme]; exact h_85⟩

theorem c_ansG {w00 : World} {L : List Ent} (id : Bool) (ob mp : Nat) (ms df : List UInt8) (hms : ms.length = 32) (da : Option Addr) (dn dc u : Nat) (hdf : df.length = 32 * dn) (la : Option Addr) (lc : Nat) (lx : List Value) (lg : Lg) (hu : u ≤ 1000000) (hlg : lg.length ≤ 1000000) (kd dm : Int) (key data : List UInt8) (qa : Option Addr) (qn qc : Nat) (hq : okQ (kd, key, dm, data)) (hdl : data.length = qn) (bq : Nat) (w : World) (h_0 : HP w00 w (Ent.blk ob .nw 50 [(1, [(.bool id)]), (32, ms.map vu8), (1, [(.slice da dn dc)]), (1, [(vi ((u : Nat) : Int))]), (1, [(.map (some mp))]), (1, [(.slice la lg.length lc)])] :: Ent.row la lg.length lc 111 67 lx :: Ent.obj mp .nw (.map (mArr lg) lg.length) :: Ent.pin (sblks lx) (fun w => Lgs w lx lg) :: Ent.view da (df.map vu8) :: Ent.view qa (data.map vu8) :: Ent.blk bq .nw 103 [(1, [(vi kd)]), (32, key.map vu8), (1, [(vi dm)]), (1, [(.slice qa qn qc)])] :: L)) :
  Cs Try.prog 79 [(.pointer (some ⟨ob, 0, none⟩)), (.agg ⟨flat [(1, [(vi kd)]), (32, key.map vu8), (1, [(vi dm)]), (1, [(.slice qa qn qc)])]⟩), (Value.func (Fn.func 80) [].toArray [(Value.pointer (some ⟨bq, 0, none⟩))].toArray)].toArray w (fun v w1 => ∃ la' lc' lx', v = (.agg ⟨(anD id df dn u lg (kd, key, dm, data)).map vu8⟩) ∧ HP w00 w1 (Ent.blk ob .nw 50 [(1, [(.bool id)]), (32, ms.map vu8), (1, [(.slice da dn dc)]), (1, [(vi (((anU id u lg (kd, key, dm, data)) : Nat) : Int))]), (1, [(.map (some mp))]), (1, [(.slice la' ((anL id df dn u lg (kd, key, dm, data)).length) lc')])] :: Ent.row la' ((anL id df dn u lg (kd, key, dm, data)).length) lc' 111 67 lx' :: Ent.obj mp .nw (.map (mArr (anL id df dn u lg (kd, key, dm, data))) ((anL id df dn u lg (kd, key, dm, data)).length)) :: Ent.pin (sblks lx') (fun w => Lgs w lx' (anL id df dn u lg (kd, key, dm, data))) :: Ent.view da (df.map vu8) :: Ent.view qa (data.map vu8) :: Ent.blk bq .nw 103 [(1, [(vi kd)]), (32, key.map vu8), (1, [(vi dm)]), (1, [(.slice qa qn qc)])] :: L)) := by
 cases hfd : fdq (kd, key, dm, data) lg 0 with
 | none => cases id with
  | true => exact c_ans_missT ob mp ms df hms da dn dc u hdf la lc lx lg hu hlg kd dm key data qa qn qc hq hdl _ hfd w h_0
  | false => exact c_ans_missF ob mp ms df hms da dn dc u hdf la lc lx lg hu hlg kd dm key data qa qn qc hq hdl bq hfd w h_0
 | some i => exact c_ans_hit id ob mp ms df hms da dn dc u hdf la lc lx lg hu hlg kd dm key data qa qn qc hq hdl _ i hfd w h_0
end Go.Proofs.Ytnhppjimimhlkaa

namespace Go.Proofs.Ytnhppjimimhlkaa
open Go.Vc Go.Orc Go.Sh Go.RowKit
set_option maxRecDepth 20000
theorem kt23 : Try.prog.keyTypeAt 2 23 = true := by kernel_rfl
theorem ag23 : aggB Try.prog 23 = true := by unfold aggB; rw [Try.underlying23]
theorem c_othere_nil  (w : World) :
  Cs Try.prog 52 [(.pointer none)].toArray w (fun v w1 => v = (.bool false) ∧ Chg w w1 []) := by
 refine Cs.of (n := 12) (args := [(.pointer none)]) Try.func52 rfl rfl rfl ?_
 have h_0 := HP.init w
 refine WP.seq (WP.reg ?_)
 refine qA (.bool false) rfl rfl ?_
 refine WL.nil (thn_n (WP.seq (WP.reg ?_)))
 refine qM (.pointer none) rfl rfl (qV rfl (R.neNilP rfl rfl Try.underlying32) (qM (.bool false) rfl rfl ?_))
 refine WL.skip rfl rfl rfl ?_
 refine WL.skip rfl rfl rfl ?_
 refine WL.skip rfl rfl rfl ?_
 refine WL.skip rfl rfl rfl ?_
 refine WL.skip rfl rfl rfl ?_
 refine qV rfl (R.pickF (v := (.bool false)) rfl rfl) (qA (.bool false) rfl rfl ?_)
 refine WL.nil (thn_n (WP.ret ?_))
 refine ret_of Try.results52 (RV.tmp (v := (.bool false)) rfl RV.nil) ?_
 exact ⟨rfl, h_0.chgS⟩

theorem c_othere (id : Bool) (ob mp : Nat) (ms : List UInt8) (hms : ms.length = 32) (da : Option Addr) (dn dc u : Nat) (la : Option Addr) (ln lc : Nat) (w : World) (hcb : (Ent.blk ob .ro 50 [(1, [(.bool id)]), (32, ms.map vu8), (1, [(.slice da dn dc)]), (1, [(vi ((u : Nat) : Int))]), (1, [(.map (some mp))]), (1, [(.slice la ln lc)])]).ok w.heap.size w) :
  Cs Try.prog 52 [(.pointer (some ⟨ob, 0, none⟩))].toArray w (fun v w1 => v = (.bool true) ∧ Chg w w1 []) := by
 refine Cs.of (n := 12) (args := [(pO ob 0)]) Try.func52 rfl rfl rfl ?_
 have h_0 := HP.init w
 have h_00 := h_0.old hcb (fun f hf => by cases hf)
 refine WP.seq (WP.reg ?_)
 refine qA (.bool false) rfl rfl ?_
 refine WL.nil (thn_n (WP.seq (WP.reg ?_)))
 refine qM (pO ob 0) rfl rfl (qV rfl (R.neNilP rfl rfl Try.underlying32) (qM (.bool true) rfl rfl ?_))
 refine WL.want rfl rfl ?_
 refine qM (pO ob 0) rfl rfl ?_
 refine WL.want rfl rfl ?_
 refine qV rfl (R.nilCheck rfl) ?_
 refine WL.want rfl rfl ?_
 refine qV rfl (R.fieldAddr (b := ob) (off := 0) (off' := 35) rfl Try.underlying50 rfl Try.sizeOf47 rfl rfl) ?_
 refine WL.want rfl rfl ?_
 refine qV rfl (R.load1 (b := ob) (off := 35) (v := (.map (some mp))) rfl Try.isAgg47 (h_00.ok _ M0) (Sg.t rfl (Sg.t rfl (Sg.t rfl (Sg.t rfl Sg.h))))) ?_
 refine WL.want rfl rfl ?_
 refine qV rfl (R.neNilM rfl rfl Try.underlying47) (qV rfl (R.pickT (v := (.bool true)) rfl rfl) (qA (.bool true) rfl rfl ?_))
 refine WL.nil (thn_n (WP.ret ?_))
 refine ret_of Try.results52 (RV.tmp (v := (.bool true)) rfl RV.nil) ?_
 exact ⟨rfl, h_00.chgS⟩

theorem c_may (kd dm : Int) (key : List UInt8) (qa : Option Addr) (qn qc : Nat) (hk : key.length = 32) (h1 : 1 ≤ kd ∧ kd ≤ 4) (h2 : 1 ≤ dm ∧ dm ≤ 16) (hz : kd = 1 → key = List.replicate 32 0) (w : World) :
  Cs Try.prog 78 [(.agg ⟨flat [(1, [(vi kd)]), (32, key.map vu8), (1, [(vi dm)]), (1, [(.slice qa qn qc)])]⟩)].toArray w (fun v w1 => v = (.bool true) ∧ Chg w w1 []) := by
 refine Cs.of (n := 32) (args := [(.agg ⟨flat [(1, [(vi kd)]), (32, key.map vu8), (1, [(vi dm)]), (1, [(.slice qa qn qc)])]⟩)]) Try.func78 rfl rfl rfl ?_
 have h_0 := HP.init w
 refine WP.seq (WP.reg ?_)
 refine WL.box (v := (.agg ⟨flat [(1, [(vi kd)]), (32, key.map vu8), (1, [(vi dm)]), (1, [(.slice qa qn qc)])]⟩)) (segs := [(1, [(vi kd)]), (32, key.map vu8), (1, [(vi dm)]), (1, [(.slice qa qn qc)])]) h_0 rfl rfl (SsOk.cons (SOk.v rfl) (SsOk.cons (SOk.u8 hk) (SsOk.cons (SOk.v rfl) (SsOk.cons (SOk.v rfl) SsOk.nil)))) rfl (fun b_1 w_2 h_3 => ?_)
 refine qA (.bool false) rfl rfl ?_
 refine WL.nil (thn_n (WP.seq (WP.reg ?_)))
 refine qV rfl (R.fieldAddr (b := b_1) (off := 0) (off' := 0) rfl Try.underlying103 rfl Try.sizeOf101 rfl rfl) (qV rfl (R.load1 (b := b_1) (off := 0) (v := (vi kd)) rfl Try.isAgg101 (h_3.ok _ M0) Sg.h) (qV rfl (R.bin rfl rfl (bi_geq (r := decide ((kd : Int) ≥ 1)) rfl)) (qM (.bool (decide ((kd : Int) ≥ 1))) rfl rfl ?_)))
 refine WL.want rfl (congrArg Value.bool (decide_eq_true (by omega))) ?_
 refine qV rfl (R.fieldAddr (b := b_1) (off := 0) (off' := 0) rfl Try.underlying103 rfl Try.sizeOf101 rfl rfl) ?_
 refine WL.want rfl (congrArg Value.bool (decide_eq_true (by omega))) ?_
 refine qV rfl (R.load1 (b := b_1) (off := 0) (v := (vi kd)) rfl Try.isAgg101 (h_3.ok _ M0) Sg.h) ?_
 refine WL.want rfl (congrArg Value.bool (decide_eq_true (by omega))) ?_
 refine qV rfl (R.bin rfl rfl (bi_leq (r := decide ((kd : Int) ≤ 4)) rfl)) (qV rfl (R.pickT (v := (.bool (decide ((kd : Int) ≤ 4)))) (congrArg Value.bool (decide_eq_true (by omega))) rfl) (qM (.bool (decide ((kd : Int) ≤ 4))) rfl rfl ?_))
 refine WL.want rfl (congrArg Value.bool (decide_eq_true (by omega))) ?_
 refine qV rfl (R.fieldAddr (b := b_1) (off := 0) (off' := 33) rfl Try.underlying103 rfl Try.sizeOf56 rfl rfl) ?_
 refine WL.want rfl (congrArg Value.bool (decide_eq_true (by omega))) ?_
 refine qV rfl (R.load1 (b := b_1) (off := 33) (v := (vi dm)) rfl Try.isAgg56 (h_3.ok _ M0) (Sg.t rfl (Sg.t rfl Sg.h))) ?_
 refine WL.want rfl (congrArg Value.bool (decide_eq_true (by omega))) ?_
 refine qV rfl (R.bin rfl rfl (bi_geq (r := decide ((dm : Int) ≥ 1)) rfl)) (qV rfl (R.pickT (v := (.bool (decide ((dm : Int) ≥ 1)))) (congrArg Value.bool (decide_eq_true (by omega))) rfl) (qM (.bool (decide ((dm : Int) ≥ 1))) rfl rfl ?_))
 refine WL.want rfl (congrArg Value.bool (decide_eq_true (by omega))) ?_
 refine qV rfl (R.fieldAddr (b := b_1) (off := 0) (off' := 33) rfl Try.underlying103 rfl Try.sizeOf56 rfl rfl) ?_
 refine WL.want rfl (congrArg Value.bool (decide_eq_true (by omega))) ?_
 refine qV rfl (R.load1 (b := b_1) (off := 33) (v := (vi dm)) rfl Try.isAgg56 (h_3.ok _ M0) (Sg.t rfl (Sg.t rfl Sg.h))) ?_
 refine WL.want rfl (congrArg Value.bool (decide_eq_true (by omega))) ?_
 refine qV rfl (R.bin rfl rfl (bi_leq (r := decide ((dm : Int) ≤ 16)) rfl)) (qV rfl (R.pickT (v := (.bool (decide ((dm : Int) ≤ 16)))) (congrArg Value.bool (decide_eq_true (by omega))) rfl) (qM (.bool (decide ((dm : Int) ≤ 16))) rfl rfl ?_))
 refine WL.want rfl (congrArg Value.bool (decide_eq_true (by omega))) ?_
 refine qV rfl (R.fieldAddr (b := b_1) (off := 0) (off' := 0) rfl Try.underlying103 rfl Try.sizeOf101 rfl rfl) ?_
 refine WL.want rfl (congrArg Value.bool (decide_eq_true (by omega))) ?_
 refine qV rfl (R.load1 (b := b_1) (off := 0) (v := (vi kd)) rfl Try.isAgg101 (h_3.ok _ M0) Sg.h) ?_
 refine WL.want rfl (congrArg Value.bool (decide_eq_true (by omega))) ?_
 refine qV rfl (R.bin rfl rfl (bi_neq (r := decide ((kd : Int) ≠ 1)) rfl)) ?_
 refine WL.want rfl (congrArg Value.bool (decide_eq_true (by omega))) ?_
 refine qM (.bool (decide ((kd : Int) ≠ 1))) rfl rfl ?_
 rcases Bool.eq_false_or_eq_true (decide ((kd : Int) ≠ 1)) with c_4 | c_4
 ·have p_5 := of_decide_eq_true c_4
  refine WL.skip rfl (congrArg Value.bool c_4) rfl ?_
  refine WL.skip rfl (congrArg Value.bool c_4) rfl ?_
  refine WL.skip rfl (congrArg Value.bool c_4) rfl ?_
  refine WL.skip rfl (congrArg Value.bool c_4) rfl ?_
  refine WL.want rfl (congrArg Value.bool (decide_eq_true (by omega))) ?_
  refine qV rfl (R.pickT (v := (.bool true)) (congrArg Value.bool c_4) rfl) (qV rfl (R.pickT (v := (.bool true)) (congrArg Value.bool (decide_eq_true (by omega))) rfl) (qA (.bool true) rfl rfl ?_))
  refine WL.nil (thn_n (WP.ret ?_))
  refine ret_of Try.results78 (RV.tmp (v := (.bool true)) rfl RV.nil) ?_
  exact ⟨rfl, h_3.chgS⟩
 ·have p_6 := of_decide_eq_false c_4
  refine WL.want rfl (congrArg Value.bool c_4) ?_
  refine qV rfl (R.fieldAddr (b := b_1) (off := 0) (off' := 1) rfl Try.underlying103 rfl Try.sizeOf23 rfl rfl) ?_
  refine WL.want rfl (congrArg Value.bool c_4) ?_
  refine qV rfl (R.loadA (b := b_1) (off := 1) [(1, [(vi kd)])] [(32, key.map vu8)] [(1, [(vi dm)]), (1, [(.slice qa qn qc)])] (cs := key.map vu8) rfl Try.isAgg23 Try.sizeOf23 (h_3.ok _ M0) rfl rfl rfl rfl) ?_
  refine WL.want rfl (congrArg Value.bool c_4) ?_
  refine qV rfl (R.buildA (vs := []) (cs := (List.replicate 32 (0 : UInt8)).map vu8) Try.underlying23 Try.sizeOf5 (zv Try.typeInfo23 rfl) rfl rfl) ?_
  refine WL.want rfl (congrArg Value.bool c_4) ?_
  refine qV rfl (R.eqA (xs := key.map vu8) (ys := (List.replicate 32 (0 : UInt8)).map vu8) (r := true) rfl rfl Try.eqGuardType23 kt23 (by decide) ag23 (Typ.u8s Try.underlying23 ce23 Try.underlying5 ce5 hk) (Typ.u8s Try.underlying23 ce23 Try.underlying5 ce5 lr) (eqT (by rw [hz (by omega)]))) ?_
  refine WL.want rfl (congrArg Value.bool (decide_eq_true (by omega))) ?_
  refine qV rfl (R.pickF (v := (.bool true)) (congrArg Value.bool c_4) rfl) (qV rfl (R.pickT (v := (.bool true)) (congrArg Value.bool (decide_eq_true (by omega))) rfl) (qA (.bool true) rfl rfl ?_))
  refine WL.nil (thn_n (WP.ret ?_))
  refine ret_of Try.results78 (RV.tmp (v := (.bool true)) rfl RV.nil) ?_
  exact ⟨rfl, h_3.chgS⟩

theorem c_may_0 (dm : Int) (key : List UInt8) (qa : Option Addr) (qn qc : Nat) (hk : key.length = 32) (w : World) :
  Cs Try.prog 78 [(.agg ⟨flat [(1, [(vi 0)]), (32, key.map vu8), (1, [(vi dm)]), (1, [(.slice qa qn qc)])]⟩)].toArray w (fun v w1 => v = (.bool false) ∧ Chg w w1 []) := by
 refine Cs.of (n := 32) (args := [(.agg ⟨flat [(1, [(vi 0)]), (32, key.map vu8), (1, [(vi dm)]), (1, [(.slice qa qn qc)])]⟩)]) Try.func78 rfl rfl rfl ?_
 have h_0 := HP.init w
 refine WP.seq (WP.reg ?_)
 refine WL.box (v := (.agg ⟨flat [(1, [(vi 0)]), (32, key.map vu8), (1, [(vi dm)]), (1, [(.slice qa qn qc)])]⟩)) (segs := [(1, [(vi 0)]), (32, key.map vu8), (1, [(vi dm)]), (1, [(.slice qa qn qc)])]) h_0 rfl rfl (SsOk.cons (SOk.v rfl) (SsOk.cons (SOk.u8 hk) (SsOk.cons (SOk.v rfl) (SsOk.cons (SOk.v rfl) SsOk.nil)))) rfl (fun b_1 w_2 h_3 => ?_)
 refine qA (.bool false) rfl rfl ?_
 refine WL.nil (thn_n (WP.seq (WP.reg ?_)))
 refine qV rfl (R.fieldAddr (b := b_1) (off := 0) (off' := 0) rfl Try.underlying103 rfl Try.sizeOf101 rfl rfl) (qV rfl (R.load1 (b := b_1) (off := 0) (v := (vi 0)) rfl Try.isAgg101 (h_3.ok _ M0) Sg.h) (qV rfl (R.bin rfl rfl (bi_geq (r := false) (by decide))) (qM (.bool false) rfl rfl ?_)))
 refine WL.skip rfl rfl rfl ?_
 refine WL.skip rfl rfl rfl ?_
 refine WL.skip rfl rfl rfl ?_
 refine qV rfl (R.pickF (v := (.bool false)) rfl rfl) (qM (.bool false) rfl rfl ?_)
 refine WL.skip rfl rfl rfl ?_
 refine WL.skip rfl rfl rfl ?_
 refine WL.skip rfl rfl rfl ?_
 refine qV rfl (R.pickF (v := (.bool false)) rfl rfl) (qM (.bool false) rfl rfl ?_)
 refine WL.skip rfl rfl rfl ?_
 refine WL.skip rfl rfl rfl ?_
 refine WL.skip rfl rfl rfl ?_
 refine qV rfl (R.pickF (v := (.bool false)) rfl rfl) (qM (.bool false) rfl rfl ?_)
 refine WL.skip rfl rfl rfl ?_
 refine WL.skip rfl rfl rfl ?_
 refine WL.skip rfl rfl rfl ?_
 refine WL.skip rfl rfl rfl ?_
 refine WL.skipU rfl rfl rfl ?_
 refine WL.skipU rfl rfl rfl ?_
 refine WL.skipU rfl rfl rfl ?_
 refine WL.skipU rfl rfl rfl ?_
 refine WL.skip rfl rfl rfl ?_
 refine qV rfl (R.pickF (v := (.bool false)) rfl rfl) (qA (.bool false) rfl rfl ?_)
 refine WL.nil (thn_n (WP.ret ?_))
 refine ret_of Try.results78 (RV.tmp (v := (.bool false)) rfl RV.nil) ?_
 exact ⟨rfl, h_3.chgS⟩

theorem c_oAsk_0 (id : Bool) (ob mp : Nat) (ms : List UInt8) (hms : ms.length = 32) (da : Option Addr) (dn dc u : Nat) (la : Option Addr) (ln lc : Nat) (dm : Int) (key : List UInt8) (qa : Option Addr) (qn qc : Nat) (hk : key.length = 32) (w : World) (hcb : (Ent.blk ob .ro 50 [(1, [(.bool id)]), (32, ms.map vu8), (1, [(.slice da dn dc)]), (1, [(vi ((u : Nat) : Int))]), (1, [(.map (some mp))]), (1, [(.slice la ln lc)])]).ok w.heap.size w) :
  Cs Try.prog 48 [(.pointer (some ⟨ob, 0, none⟩)), (.agg ⟨flat [(1, [(vi 0)]), (32, key.map vu8), (1, [(vi dm)]), (1, [(.slice qa qn qc)])]⟩)].toArray w (fun v w1 => v = (.tuple [(.agg ⟨(List.replicate 32 (0 : UInt8)).map vu8⟩), (vi 2)].toArray) ∧ Chg w w1 []) := by
 refine Cs.of (n := 25) (args := [(pO ob 0), (.agg ⟨flat [(1, [(vi 0)]), (32, key.map vu8), (1, [(vi dm)]), (1, [(.slice qa qn qc)])]⟩)]) Try.func48 rfl rfl rfl ?_
 have h_0 := HP.init w
 have h_00 := h_0.old hcb (fun f hf => by cases hf)
 refine WP.seq (WP.reg ?_)
 refine WL.box (v := (.agg ⟨flat [(1, [(vi 0)]), (32, key.map vu8), (1, [(vi dm)]), (1, [(.slice qa qn qc)])]⟩)) (segs := [(1, [(vi 0)]), (32, key.map vu8), (1, [(vi dm)]), (1, [(.slice qa qn qc)])]) h_00 rfl rfl (SsOk.cons (SOk.v rfl) (SsOk.cons (SOk.u8 hk) (SsOk.cons (SOk.v rfl) (SsOk.cons (SOk.v rfl) SsOk.nil)))) rfl (fun b_1 w_2 h_3 => ?_)
 refine WL.alloc (segs := [(32, (List.replicate 32 (0 : UInt8)).map vu8)]) h_3 (zv Try.typeInfo23 rfl) rfl (SsOk.cons (SOk.u8 lr) SsOk.nil) rfl (fun b_4 w_5 h_6 => ?_)
 refine qA (vi 0) rfl rfl ?_
 refine WL.nil (thn_n (WP.seq (WP.block (WP.seq (WP.reg ?_)))))
 refine qM (pO ob 0) rfl rfl ?_
 refine WL.call Try.call52 rfl rfl (c_othere id ob mp ms hms da dn dc u la ln lc _ (h_6.argR M2)) rfl ?_
 rintro _ w_8 ⟨rfl, hc_7⟩
 have h_9 := h_6.same hc_7
 refine qV rfl (R.not (b := true) rfl) (qA (.bool false) rfl rfl ?_)
 refine WL.nil (thn_n ?_)
 refine WP.condF rfl ?_
 refine WP.seq (WP.reg ?_)
 refine qV rfl (R.loadA (b := b_1) (off := 0) [] [(1, [(vi 0)]), (32, key.map vu8), (1, [(vi dm)]), (1, [(.slice qa qn qc)])] [] (cs := flat [(1, [(vi 0)]), (32, key.map vu8), (1, [(vi dm)]), (1, [(.slice qa qn qc)])]) rfl Try.isAgg103 Try.sizeOf103 (h_9.ok _ M1) rfl rfl rfl rfl) ?_
 refine WL.call Try.call78 rfl rfl (c_may_0 dm key qa qn qc hk _ ) rfl ?_
 rintro _ w_11 ⟨rfl, hc_10⟩
 have h_12 := h_9.same hc_10
 refine qV rfl (R.not (b := false) rfl) (qM (.bool true) rfl rfl ?_)
 refine WL.skip rfl rfl rfl ?_
 refine WL.skip rfl rfl rfl ?_
 refine WL.skip rfl rfl rfl ?_
 refine qV rfl (R.pickT (v := (.bool true)) rfl rfl) (qA (.bool true) rfl rfl ?_)
 refine WL.nil (thn_n ?_)
 refine WP.condT rfl ?_
 refine WP.seq (WP.reg ?_)
 refine qV rfl (R.buildA (vs := []) (cs := (List.replicate 32 (0 : UInt8)).map vu8) Try.underlying23 Try.sizeOf5 (zv Try.typeInfo23 rfl) rfl rfl) ?_
 refine WL.storeA (b := b_4) (off := 0) [] [(32, (List.replicate 32 (0 : UInt8)).map vu8)] [(32, (List.replicate 32 (0 : UInt8)).map vu8)] [] (ys := (List.replicate 32 (0 : UInt8)).map vu8) h_12 rfl rfl Try.sizeOf23 At.h (by decide) rfl rfl rfl rfl rfl rfl (SsOk.cons (SOk.u8 lr) SsOk.nil) (fun w_13 h_14 => ?_)
 refine qA (vi 2) rfl rfl ?_
 refine WL.nil (thn_n (WP.ret (inb_r (thn_r ?_))))
 refine ret_of Try.results48 (RV.cell rfl (h_14.loadA (cs := (List.replicate 32 (0 : UInt8)).map vu8) Try.isAgg23 Try.sizeOf23 M0 rfl rfl) (RV.tmp (v := (vi 2)) rfl RV.nil)) ?_
 exact ⟨rfl, h_14.chgS⟩

theorem c_oAsk {w00 : World} {L : List Ent} (id : Bool) (ob mp : Nat) (ms df : List UInt8) (hms : ms.length = 32) (da : Option Addr) (dn dc u : Nat) (hdf : df.length = 32 * dn) (la : Option Addr) (lc : Nat) (lx : List Value) (lg : Lg) (hu : u ≤ 1000000) (hlg : lg.length ≤ 1000000) (kd dm : Int) (key data : List UInt8) (qa : Option Addr) (qn qc : Nat) (hq : okQ (kd, key, dm, data)) (hdl : data.length = qn) (hk4 : ¬ kd = 4) (hz : kd = 1 → key = List.replicate 32 0) (w : World) (h_0 : HP w00 w (Ent.blk ob .nw 50 [(1, [(.bool id)]), (32, ms.map vu8), (1, [(.slice da dn dc)]), (1, [(vi ((u : Nat) : Int))]), (1, [(.map (some mp))]), (1, [(.slice la lg.length lc)])] :: Ent.row la lg.length lc 111 67 lx :: Ent.obj mp .nw (.map (mArr lg) lg.length) :: Ent.pin (sblks lx) (fun w => Lgs w lx lg) :: Ent.view da (df.map vu8) :: Ent.view qa (data.map vu8) :: L)) :
  Cs Try.prog 48 [(.pointer (some ⟨ob, 0, none⟩)), (.agg ⟨flat [(1, [(vi kd)]), (32, key.map vu8), (1, [(vi dm)]), (1, [(.slice qa qn qc)])]⟩)].toArray w (fun v w1 => ∃ la' lc' lx', v = (.tuple [(.agg ⟨(anD id df dn u lg (kd, key, dm, data)).map vu8⟩), (vi 0)].toArray) ∧ HP w00 w1 (Ent.blk ob .nw 50 [(1, [(.bool id)]), (32, ms.map vu8), (1, [(.slice da dn dc)]), (1, [(vi (((anU id u lg (kd, key, dm, data)) : Nat) : Int))]), (1, [(.map (some mp))]), (1, [(.slice la' ((anL id df dn u lg (kd, key, dm, data)).length) lc')])] :: Ent.row la' ((anL id df dn u lg (kd, key, dm, data)).length) lc' 111 67 lx' :: Ent.obj mp .nw (.map (mArr (anL id df dn u lg (kd, key, dm, data))) ((anL id df dn u lg (kd, key, dm, data)).length)) :: Ent.pin (sblks lx') (fun w => Lgs w lx' (anL id df dn u lg (kd, key, dm, data))) :: Ent.view da (df.map vu8) :: Ent.view qa (data.map vu8) :: L)) := by
 refine Cs.of (n := 25) (args := [(pO ob 0), (.agg ⟨flat [(1, [(vi kd)]), (32, key.map vu8), (1, [(vi dm)]), (1, [(.slice qa qn qc)])]⟩)]) Try.func48 rfl rfl rfl ?_
 refine WP.seq (WP.reg ?_)
 refine WL.box (v := (.agg ⟨flat [(1, [(vi kd)]), (32, key.map vu8), (1, [(vi dm)]), (1, [(.slice qa qn qc)])]⟩)) (segs := [(1, [(vi kd)]), (32, key.map vu8), (1, [(vi dm)]), (1, [(.slice qa qn qc)])]) h_0 rfl rfl (SsOk.cons (SOk.v rfl) (SsOk.cons (SOk.u8 hq.1) (SsOk.cons (SOk.v rfl) (SsOk.cons (SOk.v rfl) SsOk.nil)))) rfl (fun b_1 w_2 h_3 => ?_)
 refine WL.alloc (segs := [(32, (List.replicate 32 (0 : UInt8)).map vu8)]) h_3 (zv Try.typeInfo23 rfl) rfl (SsOk.cons (SOk.u8 lr) SsOk.nil) rfl (fun b_4 w_5 h_6 => ?_)
 refine qA (vi 0) rfl rfl ?_
 refine WL.nil (thn_n (WP.seq (WP.block (WP.seq (WP.reg ?_)))))
 refine qM (pO ob 0) rfl rfl ?_
 refine WL.call Try.call52 rfl rfl (c_othere id ob mp ms hms da dn dc u la lg.length lc _ (h_6.argR M2)) rfl ?_
 rintro _ w_8 ⟨rfl, hc_7⟩
 have h_9 := h_6.same hc_7
 refine qV rfl (R.not (b := true) rfl) (qA (.bool false) rfl rfl ?_)
 refine WL.nil (thn_n ?_)
 refine WP.condF rfl ?_
 refine WP.seq (WP.reg ?_)
 refine qV rfl (R.loadA (b := b_1) (off := 0) [] [(1, [(vi kd)]), (32, key.map vu8), (1, [(vi dm)]), (1, [(.slice qa qn qc)])] [] (cs := flat [(1, [(vi kd)]), (32, key.map vu8), (1, [(vi dm)]), (1, [(.slice qa qn qc)])]) rfl Try.isAgg103 Try.sizeOf103 (h_9.ok _ M1) rfl rfl rfl rfl) ?_
 refine WL.call Try.call78 rfl rfl (c_may kd dm key qa qn qc hq.1 (hq.2.1) (hq.2.2.1) hz _ ) rfl ?_
 rintro _ w_11 ⟨rfl, hc_10⟩
 have h_12 := h_9.same hc_10
 refine qV rfl (R.not (b := true) rfl) (qM (.bool false) rfl rfl ?_)
 refine WL.want rfl rfl ?_
 refine qV rfl (R.fieldAddr (b := b_1) (off := 0) (off' := 0) rfl Try.underlying103 rfl Try.sizeOf101 rfl rfl) ?_
 refine WL.want rfl rfl ?_
 refine qV rfl (R.load1 (b := b_1) (off := 0) (v := (vi kd)) rfl Try.isAgg101 (h_12.ok _ M1) Sg.h) ?_
 refine WL.want rfl rfl ?_
 refine qV rfl (R.bin rfl rfl (bi_eql (r := decide ((kd : Int) = 4)) rfl)) (qV rfl (R.pickF (v := (.bool (decide ((kd : Int) = 4)))) rfl rfl) (qA (.bool (decide ((kd : Int) = 4))) rfl rfl ?_))
 refine WL.nil (thn_n ?_)
 refine WP.condF (congrArg Value.bool (decide_eq_false hk4)) ?_
 refine WP.skip (inb_n (thn_n (WP.seq (WP.reg ?_))))
 refine qM (pO ob 0) rfl rfl (qV rfl (R.loadA (b := b_1) (off := 0) [] [(1, [(vi kd)]), (32, key.map vu8), (1, [(vi dm)]), (1, [(.slice qa qn qc)])] [] (cs := flat [(1, [(vi kd)]), (32, key.map vu8), (1, [(vi dm)]), (1, [(.slice qa qn qc)])]) rfl Try.isAgg103 Try.sizeOf103 (h_12.ok _ M1) rfl rfl rfl rfl) (qV rfl (R.makeFuncL (fi := []) (ca := [(pO b_1 0)]) rfl rfl) ?_))
 have h_19 := ((((((h_12.up J1).up J7).up J7).up J7).up J7).up J7).up J7
 have h32_w_23 := (Lgs.ok32 (h_19.ok _ M3).1)
 refine WL.call Try.call79 rfl rfl (c_ansG id ob mp ms df hms da dn dc u hdf la lc lx lg (by first | decide | omega) (by first | decide | omega) kd dm key data qa qn qc hq hdl b_1 _ h_19) rfl ?_
 rintro _ w_23 ⟨la_20, lc_21, lx_22, rfl, h_24⟩
 refine WL.storeA (b := b_4) (off := 0) [] [(32, (List.replicate 32 (0 : UInt8)).map vu8)] [(32, (anD id df dn u lg (kd, key, dm, data)).map vu8)] [] (ys := (anD id df dn u lg (kd, key, dm, data)).map vu8) h_24 rfl rfl Try.sizeOf23 Y7 (by decide) rfl rfl rfl rfl rfl rfl (SsOk.cons (SOk.u8 (anD_len hdf h32_w_23)) SsOk.nil) (fun w_25 h_26 => ?_)
 refine qA (vi 0) rfl rfl ?_
 refine WL.nil (thn_n (WP.ret ?_))
 refine ret_of Try.results48 (RV.cell rfl (h_26.loadA (cs := (anD id df dn u lg (kd, key, dm, data)).map vu8) Try.isAgg23 Try.sizeOf23 M7 rfl rfl) (RV.tmp (v := (vi 0)) rfl RV.nil)) ?_
 have h_36 := (((((((((h_26.up J6).drop rfl).up J6).drop rfl).up J5).up J5).up J5).up J5).up J5).up J5
 exact ⟨_, _, _, rfl, h_36⟩
end Go.Proofs.Ytnhppjimimhlkaa
