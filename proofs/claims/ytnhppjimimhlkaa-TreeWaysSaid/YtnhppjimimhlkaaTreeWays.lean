/- TreeWays holds of every input. Conditions: none. -/
import Derived.Test.YtnhppjimimhlkaaU3
namespace Go.Proofs.Ytnhppjimimhlkaa
open Go.Vc Go.Orc Go.RowKit
set_option linter.unusedVariables false
set_option linter.unusedSimpArgs false
set_option maxRecDepth 20000

theorem xor1 (x : Nat) : x ^^^ 1 = x + 1 - 2 * (x % 2) := by
  have h1 : (x ^^^ 1) % 2 ^ 1 = _ := Nat.xor_mod_two_pow
  have h2 : (x ^^^ 1) >>> 1 = _ := Nat.shiftRight_xor_distrib
  rw [Nat.shiftRight_eq_div_pow, Nat.shiftRight_eq_div_pow] at h2
  have h3 : x % 2 = 0 ∨ x % 2 = 1 := by omega
  have h4 : (1 >>> 1) = 0 := rfl
  rw [h4, Nat.xor_zero] at h2
  rcases h3 with h3 | h3
  · rw [show x % 2 ^ 1 = 0 from h3] at h1
    have h5 : 0 ^^^ 1 % 2 ^ 1 = 1 := rfl
    rw [h5] at h1
    omega
  · rw [show x % 2 ^ 1 = 1 from h3] at h1
    have h5 : 1 ^^^ 1 % 2 ^ 1 = 0 := rfl
    rw [h5] at h1
    omega
theorem wyb (x i : Nat) (h : x ≤ 256) : (x / 2 ^ i) ^^^ 1 ≤ 300 := by
  have := Nat.div_le_self x (2 ^ i)
  rw [xor1]; omega
theorem wy0 (x i : Nat) : x / 2 ^ (i + 1) = x / 2 ^ i / 2 := by rw [Nat.pow_succ, Nat.div_div_eq_div_mul]
theorem wy1 (x i : Nat) : ¬ (((x / 2 ^ (i + 1) : Nat) : Int) ≠ ((x / 2 ^ i / 2 : Nat) : Int)) := fun h => h (by rw [wy0])
theorem wy2 (x i : Nat) : ¬ (((x / 2 ^ i + ((x / 2 ^ i) ^^^ 1) : Nat) : Int) ≠ ((4 * (x / 2 ^ (i + 1)) + 1 : Nat) : Int)) := fun h => h (by rw [wy0, xor1]; generalize x / 2 ^ i = y; omega)
theorem wy3 (x : Nat) : ¬ (((x / 2 : Nat) : Int) ≠ (((x ^^^ 1) / 2 : Nat) : Int)) := fun h => h (by rw [xor1]; omega)
set_option maxHeartbeats 2000000 in
theorem w_Ways_t (pg : Nat) (h : pg < 128) (w : World) :
    Cs Try.prog 8 [(vi ((pg : Nat) : Int))].toArray w (fun v w1 => v = (.bool true) ∧ Chg w w1 []) := by
  have hx0 := wyb (128 + pg) 0 (by omega)
  have hx1 := wyb (128 + pg) 1 (by omega)
  have hx2 := wyb (128 + pg) 2 (by omega)
  have hx3 := wyb (128 + pg) 3 (by omega)
  have hx4 := wyb (128 + pg) 4 (by omega)
  have hx5 := wyb (128 + pg) 5 (by omega)
  have hx6 := wyb (128 + pg) 6 (by omega)
  refine Cs.of (n := 118) (args := [(vi ((pg : Nat) : Int))]) Try.func8 rfl rfl rfl ?_
  have h_0 := HP.init w
  refine WP.seq ?_
  refine WP.reg ?_
  refine WL.q (Wn.no rfl) rfl rfl (R.assign (v := (.bool false)) rfl) ?_
  refine WL.nil ?_
  refine thn_n ?_
  refine WP.seq ?_
  refine WP.reg ?_
  refine WL.q (Wn.no rfl) rfl rfl (R.move (v := (vi ((pg : Nat) : Int))) rfl) ?_
  refine WL.call (al := [(vi ((pg : Nat) : Int))]) Try.call28 rfl rfl (c_Way_t pg (by omega) _) rfl ?_
  rintro _ w_3 ⟨a_1, cap_2, rfl, hc_4, ho_5⟩
  have h_6 := h_0.gotRow hc_4 ho_5
  have hq_7 := ho_5.2.2.1
  refine WL.q (Wn.no rfl) rfl rfl (R.move (v := (.tuple [(.slice a_1 8 cap_2), (vi 0)].toArray)) rfl) ?_
  refine WL.q (Wn.no rfl) rfl rfl (R.extract (l := [(.slice a_1 8 cap_2), (vi 0)]) (v := (.slice a_1 8 cap_2)) rfl rfl) ?_
  refine WL.q (Wn.no rfl) rfl rfl (R.extract (l := [(.slice a_1 8 cap_2), (vi 0)]) (v := (vi 0)) rfl rfl) ?_
  refine WL.q (Wn.no rfl) rfl rfl (R.assign (v := (.slice a_1 8 cap_2)) rfl) ?_
  refine WL.q (Wn.no rfl) rfl rfl (R.assign (v := (vi 0)) rfl) ?_
  refine WL.nil ?_
  refine thn_n ?_
  refine WP.seq ?_
  refine WP.reg ?_
  refine WL.q (Wn.no rfl) rfl rfl (R.move (v := (vi ((pg : Nat) : Int))) rfl) ?_
  refine WL.call (al := [(vi ((pg : Nat) : Int))]) Try.call29 rfl rfl (c_Bes_t pg (by omega) _) rfl ?_
  rintro _ w_10 ⟨a_8, cap_9, rfl, hc_11, ho_12⟩
  have h_13 := h_6.gotRow hc_11 ho_12
  have hq_14 := ho_12.2.2.1
  refine WL.q (Wn.no rfl) rfl rfl (R.move (v := (.tuple [(.slice a_8 7 cap_9), (vi 0)].toArray)) rfl) ?_
  refine WL.q (Wn.no rfl) rfl rfl (R.extract (l := [(.slice a_8 7 cap_9), (vi 0)]) (v := (.slice a_8 7 cap_9)) rfl rfl) ?_
  refine WL.q (Wn.no rfl) rfl rfl (R.extract (l := [(.slice a_8 7 cap_9), (vi 0)]) (v := (vi 0)) rfl rfl) ?_
  refine WL.q (Wn.no rfl) rfl rfl (R.assign (v := (.slice a_8 7 cap_9)) rfl) ?_
  refine WL.q (Wn.no rfl) rfl rfl (R.assign (v := (vi 0)) rfl) ?_
  refine WL.nil ?_
  refine thn_n ?_
  refine WP.seq ?_
  refine WP.seq ?_
  refine WP.reg ?_
  refine WL.q (Wn.no rfl) rfl rfl (R.move (v := (vi ((pg : Nat) : Int))) rfl) ?_
  refine WL.call (al := [(vi ((pg : Nat) : Int))]) Try.call30 rfl rfl (c_mayP_t pg (by omega) _ ) rfl ?_
  rintro _ w_16 ⟨rfl, hc_15⟩
  have h_17 := h_13.same hc_15
  refine WL.q (Wn.no rfl) rfl rfl (R.not (b := true) rfl) ?_
  refine WL.nil ?_
  refine thn_n ?_
  refine WP.condF rfl ?_
  refine WP.skip ?_
  refine thn_n ?_
  refine WP.seq ?_
  refine WP.seq ?_
  refine WP.reg ?_
  refine WL.q (Wn.no rfl) rfl rfl (R.move (v := (.slice a_1 8 cap_2)) rfl) ?_
  refine WL.q (Wn.no rfl) rfl rfl (R.lenS (a := a_1) (m := 8) rfl rfl Try.underlying70) ?_
  refine WL.q (Wn.no rfl) rfl rfl (R.bin (v := (.bool false)) rfl rfl (bi_neq (r := false) (by decide))) ?_
  refine WL.q (Wn.no rfl) rfl rfl (R.move (v := (.bool false)) rfl) ?_
  refine WL.want rfl rfl ?_
  refine WL.q (Wn.no rfl) rfl rfl (R.move (v := (.slice a_8 7 cap_9)) rfl) ?_
  refine WL.want rfl rfl ?_
  refine WL.q (Wn.no rfl) rfl rfl (R.lenS (a := a_8) (m := 7) rfl rfl Try.underlying70) ?_
  refine WL.want rfl rfl ?_
  refine WL.q (Wn.no rfl) rfl rfl (R.bin (v := (.bool false)) rfl rfl (bi_neq (r := false) (by decide))) ?_
  refine WL.q (Wn.no rfl) rfl rfl (R.pickF (v := (.bool false)) rfl rfl) ?_
  refine WL.q (Wn.no rfl) rfl rfl (R.move (v := (.bool false)) rfl) ?_
  refine WL.want rfl rfl ?_
  refine WL.q (Wn.no rfl) rfl rfl (R.move (v := (.slice a_1 8 cap_2)) rfl) ?_
  refine WL.want rfl rfl ?_
  refine WL.q (Wn.no rfl) rfl rfl (R.indexS (a := a_1) (i := 0) (off := 0) (xs := (wayL pg).map vi64) rfl rfl rfl (by decide) (ownView (h_17.ok _ (.tail _ (.head _)))) (lt_len (K := 8) (len_map (rfl : List.length (wayL pg) = 8)) (by omega)) Try.underlying70 Try.sizeOf3 (Nat.mul_one _).symm) ?_
  refine WL.want rfl rfl ?_
  refine WL.q (Wn.no rfl) rfl rfl (R.loadG (a := a_1) (i := 0) (xs := (wayL pg).map vi64) (v := (vi (((128 + pg) / 2 ^ 0 : Nat) : Int))) rfl (ownView (h_17.ok _ (.tail _ (.head _)))) Try.isAgg3 rfl) ?_
  refine WL.want rfl rfl ?_
  refine WL.q (Wn.no rfl) rfl rfl (R.move (v := (vi ((pg : Nat) : Int))) rfl) ?_
  refine WL.want rfl rfl ?_
  refine WL.q (Wn.no rfl) rfl rfl (R.bin (v := (vi ((128 + pg : Nat) : Int))) rfl rfl (bi_add (c := ((128 + pg : Nat) : Int)) (by omega) (by omega))) ?_
  refine WL.want rfl rfl ?_
  refine WL.q (Wn.no rfl) rfl rfl (R.bin (v := (.bool (decide (((((128 + pg) / 2 ^ 0 : Nat) : Int) : Int) ≠ ((128 + pg : Nat) : Int))))) rfl rfl (bi_neq (r := decide (((((128 + pg) / 2 ^ 0 : Nat) : Int) : Int) ≠ ((128 + pg : Nat) : Int))) rfl)) ?_
  refine WL.q (Wn.no rfl) rfl rfl (R.pickF (v := (.bool (decide (((((128 + pg) / 2 ^ 0 : Nat) : Int) : Int) ≠ ((128 + pg : Nat) : Int))))) rfl rfl) ?_
  refine WL.q (Wn.no rfl) rfl rfl (R.move (v := (.bool (decide (((((128 + pg) / 2 ^ 0 : Nat) : Int) : Int) ≠ ((128 + pg : Nat) : Int))))) rfl) ?_
  refine WL.want rfl (congrArg Value.bool (decide_eq_false (by omega))) ?_
  refine WL.q (Wn.no rfl) rfl rfl (R.move (v := (.slice a_1 8 cap_2)) rfl) ?_
  refine WL.want rfl (congrArg Value.bool (decide_eq_false (by omega))) ?_
  refine WL.q (Wn.no rfl) rfl rfl (R.indexS (a := a_1) (i := 7) (off := 7) (xs := (wayL pg).map vi64) rfl rfl rfl (by decide) (ownView (h_17.ok _ (.tail _ (.head _)))) (lt_len (K := 8) (len_map (rfl : List.length (wayL pg) = 8)) (by omega)) Try.underlying70 Try.sizeOf3 (Nat.mul_one _).symm) ?_
  refine WL.want rfl (congrArg Value.bool (decide_eq_false (by omega))) ?_
  refine WL.q (Wn.no rfl) rfl rfl (R.loadG (a := a_1) (i := 7) (xs := (wayL pg).map vi64) (v := (vi (((128 + pg) / 2 ^ 7 : Nat) : Int))) rfl (ownView (h_17.ok _ (.tail _ (.head _)))) Try.isAgg3 rfl) ?_
  refine WL.want rfl (congrArg Value.bool (decide_eq_false (by omega))) ?_
  refine WL.q (Wn.no rfl) rfl rfl (R.bin (v := (.bool (decide (((((128 + pg) / 2 ^ 7 : Nat) : Int) : Int) ≠ 1)))) rfl rfl (bi_neq (r := decide (((((128 + pg) / 2 ^ 7 : Nat) : Int) : Int) ≠ 1)) rfl)) ?_
  refine WL.q (Wn.no rfl) rfl rfl (R.pickF (v := (.bool (decide (((((128 + pg) / 2 ^ 7 : Nat) : Int) : Int) ≠ 1)))) (congrArg Value.bool (decide_eq_false (by omega))) rfl) ?_
  refine WL.q (Wn.no rfl) rfl rfl (R.move (v := (.bool (decide (((((128 + pg) / 2 ^ 7 : Nat) : Int) : Int) ≠ 1)))) rfl) ?_
  refine WL.want rfl (congrArg Value.bool (decide_eq_false (by omega))) ?_
  refine WL.q (Wn.no rfl) rfl rfl (R.move (v := (vi 0)) rfl) ?_
  refine WL.want rfl (congrArg Value.bool (decide_eq_false (by omega))) ?_
  refine WL.call (al := [(vi 0)]) Try.call31 rfl rfl (c_num15 0 (by omega) _ ) rfl ?_
  rintro _ w_19 ⟨rfl, hc_18⟩
  have h_20 := h_17.same hc_18
  refine WL.want rfl (congrArg Value.bool (decide_eq_false (by omega))) ?_
  refine WL.q (Wn.no rfl) rfl rfl (R.move (v := (vi 0)) rfl) ?_
  refine WL.want rfl (congrArg Value.bool (decide_eq_false (by omega))) ?_
  refine WL.call (al := [(vi 0)]) Try.call31 rfl rfl (c_num15 0 (by omega) _ ) rfl ?_
  rintro _ w_22 ⟨rfl, hc_21⟩
  have h_23 := h_20.same hc_21
  refine WL.want rfl (congrArg Value.bool (decide_eq_false (by omega))) ?_
  refine WL.q (Wn.no rfl) rfl rfl (R.bin (v := (vi 0)) rfl rfl (bi_add (c := 0) (by omega) (by omega))) ?_
  refine WL.want rfl (congrArg Value.bool (decide_eq_false (by omega))) ?_
  refine WL.q (Wn.no rfl) rfl rfl (R.bin (v := (.bool false)) rfl rfl (bi_neq (r := false) (by decide))) ?_
  refine WL.q (Wn.no rfl) rfl rfl (R.pickF (v := (.bool false)) (congrArg Value.bool (decide_eq_false (by omega))) rfl) ?_
  refine WL.nil ?_
  refine thn_n ?_
  refine WP.condF rfl ?_
  refine WP.skip ?_
  refine thn_n ?_
  refine WP.seq ?_
  refine WP.seq ?_
  refine WP.reg ?_
  refine WL.q (Wn.no rfl) rfl rfl (R.assign (v := (vi 0)) rfl) ?_
  refine WL.nil ?_
  refine thn_n ?_
  refine WP.block ?_
  refine WP.loopU (WI.round ?_)
  refine WP.seq ?_
  refine WP.seq ?_
  refine WP.reg ?_
  refine WL.q (Wn.no rfl) rfl rfl (R.move (v := (vi 0)) rfl) ?_
  refine WL.q (Wn.no rfl) rfl rfl (R.bin (v := (.bool true)) rfl rfl (bi_lss (r := true) (by decide))) ?_
  refine WL.nil ?_
  refine thn_n ?_
  refine WP.condT rfl ?_
  refine WP.skip ?_
  refine thn_n ?_
  refine WP.seq ?_
  refine WP.block ?_
  refine WP.seq ?_
  refine WP.drawT (SL w.heap.size [.row a_8 7 cap_9 3 1 ((bsL pg).map vi64), .row a_1 8 cap_2 3 1 ((wayL pg).map vi64)]) (.q 0 (.q 1 (.q 2 (.q 3 (.q 4 (.q 5 (.q 6 (.q 7 (.q 8 (.q 9 (.q 10 (.q 11 (.q 12 (.q 13 (.q 14 (.q 15 (.q 16 (.q 17 (.q 18 (.q 19 (.q 20 (.q 21 (.q 22 (.q 23 (.q 24 (.q 25 (.q 26 (.q 27 (.q 28 (.q 29 (.q 30 (.q 31 (.q 32 (.q 33 (.q 34 (.q 35 (.q 36 (.q 37 (.q 38 (.q 39 (.q 40 (.q 41 (.q 42 .nil))))))))))))))))))))))))))))))))))))))))))) (by kernel_rfl) (by kernel_rfl) rfl (by kernel_rfl) (fun w_24 hc_26 => (SL.cons ((h_23.same hc_26).ok _ (.head _)) (SL.cons ((h_23.same hc_26).ok _ (.tail _ (.head _))) (SL.nil _ _)))) (fun w_24 hc_26 => ?_)
  have h_25 := h_23.same hc_26
  refine WT.q rfl (Wn.no rfl) rfl rfl (fun wq hS => R.move (v := (.slice a_1 8 cap_2)) rfl) ?_
  refine WT.q rfl (Wn.no rfl) rfl rfl (fun wq hS => R.move (v := (vi 0)) rfl) ?_
  refine WT.q rfl (Wn.no rfl) rfl rfl (fun wq hS => R.bin (v := (vi 1)) rfl rfl (bi_add (c := 1) (by omega) (by omega))) ?_
  refine WT.q rfl (Wn.no rfl) rfl rfl (fun wq hS => R.indexS (a := a_1) (i := 1) (off := 1) (xs := (wayL pg).map vi64) rfl rfl rfl (by decide) (ownView (hS _ (.tail _ (.head _)))) (lt_len (K := 8) (len_map (rfl : List.length (wayL pg) = 8)) (by omega)) Try.underlying70 Try.sizeOf3 (Nat.mul_one _).symm) ?_
  refine WT.q rfl (Wn.no rfl) rfl rfl (fun wq hS => R.loadG (a := a_1) (i := 1) (xs := (wayL pg).map vi64) (v := (vi (((128 + pg) / 2 ^ 1 : Nat) : Int))) rfl (ownView (hS _ (.tail _ (.head _)))) Try.isAgg3 rfl) ?_
  refine WT.q rfl (Wn.no rfl) rfl rfl (fun wq hS => R.move (v := (.slice a_1 8 cap_2)) rfl) ?_
  refine WT.q rfl (Wn.no rfl) rfl rfl (fun wq hS => R.move (v := (vi 0)) rfl) ?_
  refine WT.q rfl (Wn.no rfl) rfl rfl (fun wq hS => R.indexS (a := a_1) (i := 0) (off := 0) (xs := (wayL pg).map vi64) rfl rfl rfl (by decide) (ownView (hS _ (.tail _ (.head _)))) (lt_len (K := 8) (len_map (rfl : List.length (wayL pg) = 8)) (by omega)) Try.underlying70 Try.sizeOf3 (Nat.mul_one _).symm) ?_
  refine WT.q rfl (Wn.no rfl) rfl rfl (fun wq hS => R.loadG (a := a_1) (i := 0) (xs := (wayL pg).map vi64) (v := (vi (((128 + pg) / 2 ^ 0 : Nat) : Int))) rfl (ownView (hS _ (.tail _ (.head _)))) Try.isAgg3 rfl) ?_
  refine WT.q rfl (Wn.no rfl) rfl rfl (fun wq hS => R.bin (v := (vi ((((128 + pg) / 2 ^ 0) / 2 : Nat) : Int))) rfl rfl (bi_quo (c := ((((128 + pg) / 2 ^ 0) / 2 : Nat) : Int)) (by first | omega | exact ⟨Int.natCast_nonneg _, by omega⟩) (by omega) (by first | omega | rfl))) ?_
  refine WT.q rfl (Wn.no rfl) rfl rfl (fun wq hS => R.bin (v := (.bool (decide (((((128 + pg) / 2 ^ 1 : Nat) : Int) : Int) ≠ ((((128 + pg) / 2 ^ 0) / 2 : Nat) : Int))))) rfl rfl (bi_neq (r := decide (((((128 + pg) / 2 ^ 1 : Nat) : Int) : Int) ≠ ((((128 + pg) / 2 ^ 0) / 2 : Nat) : Int))) rfl)) ?_
  refine WT.q rfl (Wn.no rfl) rfl rfl (fun wq hS => R.move (v := (.bool (decide (((((128 + pg) / 2 ^ 1 : Nat) : Int) : Int) ≠ ((((128 + pg) / 2 ^ 0) / 2 : Nat) : Int))))) rfl) ?_
  refine WT.q rfl (Wn.yes rfl rfl (congrArg Value.bool (decide_eq_false (wy1 (128 + pg) 0)))) rfl rfl (fun wq hS => R.move (v := (.slice a_1 8 cap_2)) rfl) ?_
  refine WT.q rfl (Wn.yes rfl rfl (congrArg Value.bool (decide_eq_false (wy1 (128 + pg) 0)))) rfl rfl (fun wq hS => R.move (v := (vi 0)) rfl) ?_
  refine WT.q rfl (Wn.yes rfl rfl (congrArg Value.bool (decide_eq_false (wy1 (128 + pg) 0)))) rfl rfl (fun wq hS => R.indexS (a := a_1) (i := 0) (off := 0) (xs := (wayL pg).map vi64) rfl rfl rfl (by decide) (ownView (hS _ (.tail _ (.head _)))) (lt_len (K := 8) (len_map (rfl : List.length (wayL pg) = 8)) (by omega)) Try.underlying70 Try.sizeOf3 (Nat.mul_one _).symm) ?_
  refine WT.q rfl (Wn.yes rfl rfl (congrArg Value.bool (decide_eq_false (wy1 (128 + pg) 0)))) rfl rfl (fun wq hS => R.loadG (a := a_1) (i := 0) (xs := (wayL pg).map vi64) (v := (vi (((128 + pg) / 2 ^ 0 : Nat) : Int))) rfl (ownView (hS _ (.tail _ (.head _)))) Try.isAgg3 rfl) ?_
  refine WT.q rfl (Wn.yes rfl rfl (congrArg Value.bool (decide_eq_false (wy1 (128 + pg) 0)))) rfl rfl (fun wq hS => R.move (v := (.slice a_8 7 cap_9)) rfl) ?_
  refine WT.q rfl (Wn.yes rfl rfl (congrArg Value.bool (decide_eq_false (wy1 (128 + pg) 0)))) rfl rfl (fun wq hS => R.move (v := (vi 0)) rfl) ?_
  refine WT.q rfl (Wn.yes rfl rfl (congrArg Value.bool (decide_eq_false (wy1 (128 + pg) 0)))) rfl rfl (fun wq hS => R.indexS (a := a_8) (i := 0) (off := 0) (xs := (bsL pg).map vi64) rfl rfl rfl (by decide) (ownView (hS _ (.head _))) (lt_len (K := 7) (len_map (rfl : List.length (bsL pg) = 7)) (by omega)) Try.underlying70 Try.sizeOf3 (Nat.mul_one _).symm) ?_
  refine WT.q rfl (Wn.yes rfl rfl (congrArg Value.bool (decide_eq_false (wy1 (128 + pg) 0)))) rfl rfl (fun wq hS => R.loadG (a := a_8) (i := 0) (xs := (bsL pg).map vi64) (v := (vi ((((128 + pg) / 2 ^ 0) ^^^ 1 : Nat) : Int))) rfl (ownView (hS _ (.head _))) Try.isAgg3 rfl) ?_
  refine WT.q rfl (Wn.yes rfl rfl (congrArg Value.bool (decide_eq_false (wy1 (128 + pg) 0)))) rfl rfl (fun wq hS => R.bin (v := (vi (((128 + pg) / 2 ^ 0 + (((128 + pg) / 2 ^ 0) ^^^ 1) : Nat) : Int))) rfl rfl (bi_add (c := (((128 + pg) / 2 ^ 0 + (((128 + pg) / 2 ^ 0) ^^^ 1) : Nat) : Int)) (by omega) (by omega))) ?_
  refine WT.q rfl (Wn.yes rfl rfl (congrArg Value.bool (decide_eq_false (wy1 (128 + pg) 0)))) rfl rfl (fun wq hS => R.move (v := (.slice a_1 8 cap_2)) rfl) ?_
  refine WT.q rfl (Wn.yes rfl rfl (congrArg Value.bool (decide_eq_false (wy1 (128 + pg) 0)))) rfl rfl (fun wq hS => R.move (v := (vi 0)) rfl) ?_
  refine WT.q rfl (Wn.yes rfl rfl (congrArg Value.bool (decide_eq_false (wy1 (128 + pg) 0)))) rfl rfl (fun wq hS => R.bin (v := (vi 1)) rfl rfl (bi_add (c := 1) (by omega) (by omega))) ?_
  refine WT.q rfl (Wn.yes rfl rfl (congrArg Value.bool (decide_eq_false (wy1 (128 + pg) 0)))) rfl rfl (fun wq hS => R.indexS (a := a_1) (i := 1) (off := 1) (xs := (wayL pg).map vi64) rfl rfl rfl (by decide) (ownView (hS _ (.tail _ (.head _)))) (lt_len (K := 8) (len_map (rfl : List.length (wayL pg) = 8)) (by omega)) Try.underlying70 Try.sizeOf3 (Nat.mul_one _).symm) ?_
  refine WT.q rfl (Wn.yes rfl rfl (congrArg Value.bool (decide_eq_false (wy1 (128 + pg) 0)))) rfl rfl (fun wq hS => R.loadG (a := a_1) (i := 1) (xs := (wayL pg).map vi64) (v := (vi (((128 + pg) / 2 ^ 1 : Nat) : Int))) rfl (ownView (hS _ (.tail _ (.head _)))) Try.isAgg3 rfl) ?_
  refine WT.q rfl (Wn.yes rfl rfl (congrArg Value.bool (decide_eq_false (wy1 (128 + pg) 0)))) rfl rfl (fun wq hS => R.bin (v := (vi ((4 * ((128 + pg) / 2 ^ 1) : Nat) : Int))) rfl rfl (bi_mul (c := ((4 * ((128 + pg) / 2 ^ 1) : Nat) : Int)) (by omega) (by omega))) ?_
  refine WT.q rfl (Wn.yes rfl rfl (congrArg Value.bool (decide_eq_false (wy1 (128 + pg) 0)))) rfl rfl (fun wq hS => R.bin (v := (vi ((4 * ((128 + pg) / 2 ^ 1) + 1 : Nat) : Int))) rfl rfl (bi_add (c := ((4 * ((128 + pg) / 2 ^ 1) + 1 : Nat) : Int)) (by omega) (by omega))) ?_
  refine WT.q rfl (Wn.yes rfl rfl (congrArg Value.bool (decide_eq_false (wy1 (128 + pg) 0)))) rfl rfl (fun wq hS => R.bin (v := (.bool (decide (((((128 + pg) / 2 ^ 0 + (((128 + pg) / 2 ^ 0) ^^^ 1) : Nat) : Int) : Int) ≠ ((4 * ((128 + pg) / 2 ^ 1) + 1 : Nat) : Int))))) rfl rfl (bi_neq (r := decide (((((128 + pg) / 2 ^ 0 + (((128 + pg) / 2 ^ 0) ^^^ 1) : Nat) : Int) : Int) ≠ ((4 * ((128 + pg) / 2 ^ 1) + 1 : Nat) : Int))) rfl)) ?_
  refine WT.q rfl (Wn.no rfl) rfl rfl (fun wq hS => R.pickF (v := (.bool (decide (((((128 + pg) / 2 ^ 0 + (((128 + pg) / 2 ^ 0) ^^^ 1) : Nat) : Int) : Int) ≠ ((4 * ((128 + pg) / 2 ^ 1) + 1 : Nat) : Int))))) (congrArg Value.bool (decide_eq_false (wy1 (128 + pg) 0))) rfl) ?_
  refine WT.q rfl (Wn.no rfl) rfl rfl (fun wq hS => R.move (v := (.bool (decide (((((128 + pg) / 2 ^ 0 + (((128 + pg) / 2 ^ 0) ^^^ 1) : Nat) : Int) : Int) ≠ ((4 * ((128 + pg) / 2 ^ 1) + 1 : Nat) : Int))))) rfl) ?_
  refine WT.q rfl (Wn.yes rfl rfl (congrArg Value.bool (decide_eq_false (wy2 (128 + pg) 0)))) rfl rfl (fun wq hS => R.move (v := (.slice a_1 8 cap_2)) rfl) ?_
  refine WT.q rfl (Wn.yes rfl rfl (congrArg Value.bool (decide_eq_false (wy2 (128 + pg) 0)))) rfl rfl (fun wq hS => R.move (v := (vi 0)) rfl) ?_
  refine WT.q rfl (Wn.yes rfl rfl (congrArg Value.bool (decide_eq_false (wy2 (128 + pg) 0)))) rfl rfl (fun wq hS => R.indexS (a := a_1) (i := 0) (off := 0) (xs := (wayL pg).map vi64) rfl rfl rfl (by decide) (ownView (hS _ (.tail _ (.head _)))) (lt_len (K := 8) (len_map (rfl : List.length (wayL pg) = 8)) (by omega)) Try.underlying70 Try.sizeOf3 (Nat.mul_one _).symm) ?_
  refine WT.q rfl (Wn.yes rfl rfl (congrArg Value.bool (decide_eq_false (wy2 (128 + pg) 0)))) rfl rfl (fun wq hS => R.loadG (a := a_1) (i := 0) (xs := (wayL pg).map vi64) (v := (vi (((128 + pg) / 2 ^ 0 : Nat) : Int))) rfl (ownView (hS _ (.tail _ (.head _)))) Try.isAgg3 rfl) ?_
  refine WT.q rfl (Wn.yes rfl rfl (congrArg Value.bool (decide_eq_false (wy2 (128 + pg) 0)))) rfl rfl (fun wq hS => R.bin (v := (vi ((((128 + pg) / 2 ^ 0) / 2 : Nat) : Int))) rfl rfl (bi_quo (c := ((((128 + pg) / 2 ^ 0) / 2 : Nat) : Int)) (by first | omega | exact ⟨Int.natCast_nonneg _, by omega⟩) (by omega) (by first | omega | rfl))) ?_
  refine WT.q rfl (Wn.yes rfl rfl (congrArg Value.bool (decide_eq_false (wy2 (128 + pg) 0)))) rfl rfl (fun wq hS => R.move (v := (.slice a_8 7 cap_9)) rfl) ?_
  refine WT.q rfl (Wn.yes rfl rfl (congrArg Value.bool (decide_eq_false (wy2 (128 + pg) 0)))) rfl rfl (fun wq hS => R.move (v := (vi 0)) rfl) ?_
  refine WT.q rfl (Wn.yes rfl rfl (congrArg Value.bool (decide_eq_false (wy2 (128 + pg) 0)))) rfl rfl (fun wq hS => R.indexS (a := a_8) (i := 0) (off := 0) (xs := (bsL pg).map vi64) rfl rfl rfl (by decide) (ownView (hS _ (.head _))) (lt_len (K := 7) (len_map (rfl : List.length (bsL pg) = 7)) (by omega)) Try.underlying70 Try.sizeOf3 (Nat.mul_one _).symm) ?_
  refine WT.q rfl (Wn.yes rfl rfl (congrArg Value.bool (decide_eq_false (wy2 (128 + pg) 0)))) rfl rfl (fun wq hS => R.loadG (a := a_8) (i := 0) (xs := (bsL pg).map vi64) (v := (vi ((((128 + pg) / 2 ^ 0) ^^^ 1 : Nat) : Int))) rfl (ownView (hS _ (.head _))) Try.isAgg3 rfl) ?_
  refine WT.q rfl (Wn.yes rfl rfl (congrArg Value.bool (decide_eq_false (wy2 (128 + pg) 0)))) rfl rfl (fun wq hS => R.bin (v := (vi (((((128 + pg) / 2 ^ 0) ^^^ 1) / 2 : Nat) : Int))) rfl rfl (bi_quo (c := (((((128 + pg) / 2 ^ 0) ^^^ 1) / 2 : Nat) : Int)) (by first | omega | exact ⟨Int.natCast_nonneg _, by omega⟩) (by omega) (by first | omega | rfl))) ?_
  refine WT.q rfl (Wn.yes rfl rfl (congrArg Value.bool (decide_eq_false (wy2 (128 + pg) 0)))) rfl rfl (fun wq hS => R.bin (v := (.bool (decide ((((((128 + pg) / 2 ^ 0) / 2 : Nat) : Int) : Int) ≠ (((((128 + pg) / 2 ^ 0) ^^^ 1) / 2 : Nat) : Int))))) rfl rfl (bi_neq (r := decide ((((((128 + pg) / 2 ^ 0) / 2 : Nat) : Int) : Int) ≠ (((((128 + pg) / 2 ^ 0) ^^^ 1) / 2 : Nat) : Int))) rfl)) ?_
  refine WT.q rfl (Wn.no rfl) rfl rfl (fun wq hS => R.pickF (v := (.bool (decide ((((((128 + pg) / 2 ^ 0) / 2 : Nat) : Int) : Int) ≠ (((((128 + pg) / 2 ^ 0) ^^^ 1) / 2 : Nat) : Int))))) (congrArg Value.bool (decide_eq_false (wy2 (128 + pg) 0))) rfl) ?_
  refine WT.nil ?_
  refine thn_n ?_
  refine WP.condF (congrArg Value.bool (decide_eq_false (wy3 ((128 + pg) / 2 ^ 0)))) ?_
  refine WP.skip ?_
  refine inb_n ?_
  refine thn_n ?_
  refine WP.reg ?_
  refine WL.q (Wn.no rfl) rfl rfl (R.move (v := (vi 0)) rfl) ?_
  refine WL.q (Wn.no rfl) rfl rfl (R.bin (v := (vi 1)) rfl rfl (bi_add (c := 1) (by omega) (by omega))) ?_
  refine WL.q (Wn.no rfl) rfl rfl (R.assign (v := (vi 1)) rfl) ?_
  refine WL.nil ?_
  refine thn_n ?_
  refine WI.round ?_
  refine WP.seq ?_
  refine WP.seq ?_
  refine WP.reg ?_
  refine WL.q (Wn.no rfl) rfl rfl (R.move (v := (vi 1)) rfl) ?_
  refine WL.q (Wn.no rfl) rfl rfl (R.bin (v := (.bool true)) rfl rfl (bi_lss (r := true) (by decide))) ?_
  refine WL.nil ?_
  refine thn_n ?_
  refine WP.condT rfl ?_
  refine WP.skip ?_
  refine thn_n ?_
  refine WP.seq ?_
  refine WP.block ?_
  refine WP.seq ?_
  refine WP.drawT (SL w.heap.size [.row a_8 7 cap_9 3 1 ((bsL pg).map vi64), .row a_1 8 cap_2 3 1 ((wayL pg).map vi64)]) (.q 0 (.q 1 (.q 2 (.q 3 (.q 4 (.q 5 (.q 6 (.q 7 (.q 8 (.q 9 (.q 10 (.q 11 (.q 12 (.q 13 (.q 14 (.q 15 (.q 16 (.q 17 (.q 18 (.q 19 (.q 20 (.q 21 (.q 22 (.q 23 (.q 24 (.q 25 (.q 26 (.q 27 (.q 28 (.q 29 (.q 30 (.q 31 (.q 32 (.q 33 (.q 34 (.q 35 (.q 36 (.q 37 (.q 38 (.q 39 (.q 40 (.q 41 (.q 42 .nil))))))))))))))))))))))))))))))))))))))))))) (by kernel_rfl) (by kernel_rfl) rfl (by kernel_rfl) (fun w_27 hc_29 => (SL.cons ((h_25.same hc_29).ok _ (.head _)) (SL.cons ((h_25.same hc_29).ok _ (.tail _ (.head _))) (SL.nil _ _)))) (fun w_27 hc_29 => ?_)
  have h_28 := h_25.same hc_29
  refine WT.q rfl (Wn.no rfl) rfl rfl (fun wq hS => R.move (v := (.slice a_1 8 cap_2)) rfl) ?_
  refine WT.q rfl (Wn.no rfl) rfl rfl (fun wq hS => R.move (v := (vi 1)) rfl) ?_
  refine WT.q rfl (Wn.no rfl) rfl rfl (fun wq hS => R.bin (v := (vi 2)) rfl rfl (bi_add (c := 2) (by omega) (by omega))) ?_
  refine WT.q rfl (Wn.no rfl) rfl rfl (fun wq hS => R.indexS (a := a_1) (i := 2) (off := 2) (xs := (wayL pg).map vi64) rfl rfl rfl (by decide) (ownView (hS _ (.tail _ (.head _)))) (lt_len (K := 8) (len_map (rfl : List.length (wayL pg) = 8)) (by omega)) Try.underlying70 Try.sizeOf3 (Nat.mul_one _).symm) ?_
  refine WT.q rfl (Wn.no rfl) rfl rfl (fun wq hS => R.loadG (a := a_1) (i := 2) (xs := (wayL pg).map vi64) (v := (vi (((128 + pg) / 2 ^ 2 : Nat) : Int))) rfl (ownView (hS _ (.tail _ (.head _)))) Try.isAgg3 rfl) ?_
  refine WT.q rfl (Wn.no rfl) rfl rfl (fun wq hS => R.move (v := (.slice a_1 8 cap_2)) rfl) ?_
  refine WT.q rfl (Wn.no rfl) rfl rfl (fun wq hS => R.move (v := (vi 1)) rfl) ?_
  refine WT.q rfl (Wn.no rfl) rfl rfl (fun wq hS => R.indexS (a := a_1) (i := 1) (off := 1) (xs := (wayL pg).map vi64) rfl rfl rfl (by decide) (ownView (hS _ (.tail _ (.head _)))) (lt_len (K := 8) (len_map (rfl : List.length (wayL pg) = 8)) (by omega)) Try.underlying70 Try.sizeOf3 (Nat.mul_one _).symm) ?_
  refine WT.q rfl (Wn.no rfl) rfl rfl (fun wq hS => R.loadG (a := a_1) (i := 1) (xs := (wayL pg).map vi64) (v := (vi (((128 + pg) / 2 ^ 1 : Nat) : Int))) rfl (ownView (hS _ (.tail _ (.head _)))) Try.isAgg3 rfl) ?_
  refine WT.q rfl (Wn.no rfl) rfl rfl (fun wq hS => R.bin (v := (vi ((((128 + pg) / 2 ^ 1) / 2 : Nat) : Int))) rfl rfl (bi_quo (c := ((((128 + pg) / 2 ^ 1) / 2 : Nat) : Int)) (by first | omega | exact ⟨Int.natCast_nonneg _, by omega⟩) (by omega) (by first | omega | rfl))) ?_
  refine WT.q rfl (Wn.no rfl) rfl rfl (fun wq hS => R.bin (v := (.bool (decide (((((128 + pg) / 2 ^ 2 : Nat) : Int) : Int) ≠ ((((128 + pg) / 2 ^ 1) / 2 : Nat) : Int))))) rfl rfl (bi_neq (r := decide (((((128 + pg) / 2 ^ 2 : Nat) : Int) : Int) ≠ ((((128 + pg) / 2 ^ 1) / 2 : Nat) : Int))) rfl)) ?_
  refine WT.q rfl (Wn.no rfl) rfl rfl (fun wq hS => R.move (v := (.bool (decide (((((128 + pg) / 2 ^ 2 : Nat) : Int) : Int) ≠ ((((128 + pg) / 2 ^ 1) / 2 : Nat) : Int))))) rfl) ?_
  refine WT.q rfl (Wn.yes rfl rfl (congrArg Value.bool (decide_eq_false (wy1 (128 + pg) 1)))) rfl rfl (fun wq hS => R.move (v := (.slice a_1 8 cap_2)) rfl) ?_
  refine WT.q rfl (Wn.yes rfl rfl (congrArg Value.bool (decide_eq_false (wy1 (128 + pg) 1)))) rfl rfl (fun wq hS => R.move (v := (vi 1)) rfl) ?_
  refine WT.q rfl (Wn.yes rfl rfl (congrArg Value.bool (decide_eq_false (wy1 (128 + pg) 1)))) rfl rfl (fun wq hS => R.indexS (a := a_1) (i := 1) (off := 1) (xs := (wayL pg).map vi64) rfl rfl rfl (by decide) (ownView (hS _ (.tail _ (.head _)))) (lt_len (K := 8) (len_map (rfl : List.length (wayL pg) = 8)) (by omega)) Try.underlying70 Try.sizeOf3 (Nat.mul_one _).symm) ?_
  refine WT.q rfl (Wn.yes rfl rfl (congrArg Value.bool (decide_eq_false (wy1 (128 + pg) 1)))) rfl rfl (fun wq hS => R.loadG (a := a_1) (i := 1) (xs := (wayL pg).map vi64) (v := (vi (((128 + pg) / 2 ^ 1 : Nat) : Int))) rfl (ownView (hS _ (.tail _ (.head _)))) Try.isAgg3 rfl) ?_
  refine WT.q rfl (Wn.yes rfl rfl (congrArg Value.bool (decide_eq_false (wy1 (128 + pg) 1)))) rfl rfl (fun wq hS => R.move (v := (.slice a_8 7 cap_9)) rfl) ?_
  refine WT.q rfl (Wn.yes rfl rfl (congrArg Value.bool (decide_eq_false (wy1 (128 + pg) 1)))) rfl rfl (fun wq hS => R.move (v := (vi 1)) rfl) ?_
  refine WT.q rfl (Wn.yes rfl rfl (congrArg Value.bool (decide_eq_false (wy1 (128 + pg) 1)))) rfl rfl (fun wq hS => R.indexS (a := a_8) (i := 1) (off := 1) (xs := (bsL pg).map vi64) rfl rfl rfl (by decide) (ownView (hS _ (.head _))) (lt_len (K := 7) (len_map (rfl : List.length (bsL pg) = 7)) (by omega)) Try.underlying70 Try.sizeOf3 (Nat.mul_one _).symm) ?_
  refine WT.q rfl (Wn.yes rfl rfl (congrArg Value.bool (decide_eq_false (wy1 (128 + pg) 1)))) rfl rfl (fun wq hS => R.loadG (a := a_8) (i := 1) (xs := (bsL pg).map vi64) (v := (vi ((((128 + pg) / 2 ^ 1) ^^^ 1 : Nat) : Int))) rfl (ownView (hS _ (.head _))) Try.isAgg3 rfl) ?_
  refine WT.q rfl (Wn.yes rfl rfl (congrArg Value.bool (decide_eq_false (wy1 (128 + pg) 1)))) rfl rfl (fun wq hS => R.bin (v := (vi (((128 + pg) / 2 ^ 1 + (((128 + pg) / 2 ^ 1) ^^^ 1) : Nat) : Int))) rfl rfl (bi_add (c := (((128 + pg) / 2 ^ 1 + (((128 + pg) / 2 ^ 1) ^^^ 1) : Nat) : Int)) (by omega) (by omega))) ?_
  refine WT.q rfl (Wn.yes rfl rfl (congrArg Value.bool (decide_eq_false (wy1 (128 + pg) 1)))) rfl rfl (fun wq hS => R.move (v := (.slice a_1 8 cap_2)) rfl) ?_
  refine WT.q rfl (Wn.yes rfl rfl (congrArg Value.bool (decide_eq_false (wy1 (128 + pg) 1)))) rfl rfl (fun wq hS => R.move (v := (vi 1)) rfl) ?_
  refine WT.q rfl (Wn.yes rfl rfl (congrArg Value.bool (decide_eq_false (wy1 (128 + pg) 1)))) rfl rfl (fun wq hS => R.bin (v := (vi 2)) rfl rfl (bi_add (c := 2) (by omega) (by omega))) ?_
  refine WT.q rfl (Wn.yes rfl rfl (congrArg Value.bool (decide_eq_false (wy1 (128 + pg) 1)))) rfl rfl (fun wq hS => R.indexS (a := a_1) (i := 2) (off := 2) (xs := (wayL pg).map vi64) rfl rfl rfl (by decide) (ownView (hS _ (.tail _ (.head _)))) (lt_len (K := 8) (len_map (rfl : List.length (wayL pg) = 8)) (by omega)) Try.underlying70 Try.sizeOf3 (Nat.mul_one _).symm) ?_
  refine WT.q rfl (Wn.yes rfl rfl (congrArg Value.bool (decide_eq_false (wy1 (128 + pg) 1)))) rfl rfl (fun wq hS => R.loadG (a := a_1) (i := 2) (xs := (wayL pg).map vi64) (v := (vi (((128 + pg) / 2 ^ 2 : Nat) : Int))) rfl (ownView (hS _ (.tail _ (.head _)))) Try.isAgg3 rfl) ?_
  refine WT.q rfl (Wn.yes rfl rfl (congrArg Value.bool (decide_eq_false (wy1 (128 + pg) 1)))) rfl rfl (fun wq hS => R.bin (v := (vi ((4 * ((128 + pg) / 2 ^ 2) : Nat) : Int))) rfl rfl (bi_mul (c := ((4 * ((128 + pg) / 2 ^ 2) : Nat) : Int)) (by omega) (by omega))) ?_
  refine WT.q rfl (Wn.yes rfl rfl (congrArg Value.bool (decide_eq_false (wy1 (128 + pg) 1)))) rfl rfl (fun wq hS => R.bin (v := (vi ((4 * ((128 + pg) / 2 ^ 2) + 1 : Nat) : Int))) rfl rfl (bi_add (c := ((4 * ((128 + pg) / 2 ^ 2) + 1 : Nat) : Int)) (by omega) (by omega))) ?_
  refine WT.q rfl (Wn.yes rfl rfl (congrArg Value.bool (decide_eq_false (wy1 (128 + pg) 1)))) rfl rfl (fun wq hS => R.bin (v := (.bool (decide (((((128 + pg) / 2 ^ 1 + (((128 + pg) / 2 ^ 1) ^^^ 1) : Nat) : Int) : Int) ≠ ((4 * ((128 + pg) / 2 ^ 2) + 1 : Nat) : Int))))) rfl rfl (bi_neq (r := decide (((((128 + pg) / 2 ^ 1 + (((128 + pg) / 2 ^ 1) ^^^ 1) : Nat) : Int) : Int) ≠ ((4 * ((128 + pg) / 2 ^ 2) + 1 : Nat) : Int))) rfl)) ?_
  refine WT.q rfl (Wn.no rfl) rfl rfl (fun wq hS => R.pickF (v := (.bool (decide (((((128 + pg) / 2 ^ 1 + (((128 + pg) / 2 ^ 1) ^^^ 1) : Nat) : Int) : Int) ≠ ((4 * ((128 + pg) / 2 ^ 2) + 1 : Nat) : Int))))) (congrArg Value.bool (decide_eq_false (wy1 (128 + pg) 1))) rfl) ?_
  refine WT.q rfl (Wn.no rfl) rfl rfl (fun wq hS => R.move (v := (.bool (decide (((((128 + pg) / 2 ^ 1 + (((128 + pg) / 2 ^ 1) ^^^ 1) : Nat) : Int) : Int) ≠ ((4 * ((128 + pg) / 2 ^ 2) + 1 : Nat) : Int))))) rfl) ?_
  refine WT.q rfl (Wn.yes rfl rfl (congrArg Value.bool (decide_eq_false (wy2 (128 + pg) 1)))) rfl rfl (fun wq hS => R.move (v := (.slice a_1 8 cap_2)) rfl) ?_
  refine WT.q rfl (Wn.yes rfl rfl (congrArg Value.bool (decide_eq_false (wy2 (128 + pg) 1)))) rfl rfl (fun wq hS => R.move (v := (vi 1)) rfl) ?_
  refine WT.q rfl (Wn.yes rfl rfl (congrArg Value.bool (decide_eq_false (wy2 (128 + pg) 1)))) rfl rfl (fun wq hS => R.indexS (a := a_1) (i := 1) (off := 1) (xs := (wayL pg).map vi64) rfl rfl rfl (by decide) (ownView (hS _ (.tail _ (.head _)))) (lt_len (K := 8) (len_map (rfl : List.length (wayL pg) = 8)) (by omega)) Try.underlying70 Try.sizeOf3 (Nat.mul_one _).symm) ?_
  refine WT.q rfl (Wn.yes rfl rfl (congrArg Value.bool (decide_eq_false (wy2 (128 + pg) 1)))) rfl rfl (fun wq hS => R.loadG (a := a_1) (i := 1) (xs := (wayL pg).map vi64) (v := (vi (((128 + pg) / 2 ^ 1 : Nat) : Int))) rfl (ownView (hS _ (.tail _ (.head _)))) Try.isAgg3 rfl) ?_
  refine WT.q rfl (Wn.yes rfl rfl (congrArg Value.bool (decide_eq_false (wy2 (128 + pg) 1)))) rfl rfl (fun wq hS => R.bin (v := (vi ((((128 + pg) / 2 ^ 1) / 2 : Nat) : Int))) rfl rfl (bi_quo (c := ((((128 + pg) / 2 ^ 1) / 2 : Nat) : Int)) (by first | omega | exact ⟨Int.natCast_nonneg _, by omega⟩) (by omega) (by first | omega | rfl))) ?_
  refine WT.q rfl (Wn.yes rfl rfl (congrArg Value.bool (decide_eq_false (wy2 (128 + pg) 1)))) rfl rfl (fun wq hS => R.move (v := (.slice a_8 7 cap_9)) rfl) ?_
  refine WT.q rfl (Wn.yes rfl rfl (congrArg Value.bool (decide_eq_false (wy2 (128 + pg) 1)))) rfl rfl (fun wq hS => R.move (v := (vi 1)) rfl) ?_
  refine WT.q rfl (Wn.yes rfl rfl (congrArg Value.bool (decide_eq_false (wy2 (128 + pg) 1)))) rfl rfl (fun wq hS => R.indexS (a := a_8) (i := 1) (off := 1) (xs := (bsL pg).map vi64) rfl rfl rfl (by decide) (ownView (hS _ (.head _))) (lt_len (K := 7) (len_map (rfl : List.length (bsL pg) = 7)) (by omega)) Try.underlying70 Try.sizeOf3 (Nat.mul_one _).symm) ?_
  refine WT.q rfl (Wn.yes rfl rfl (congrArg Value.bool (decide_eq_false (wy2 (128 + pg) 1)))) rfl rfl (fun wq hS => R.loadG (a := a_8) (i := 1) (xs := (bsL pg).map vi64) (v := (vi ((((128 + pg) / 2 ^ 1) ^^^ 1 : Nat) : Int))) rfl (ownView (hS _ (.head _))) Try.isAgg3 rfl) ?_
  refine WT.q rfl (Wn.yes rfl rfl (congrArg Value.bool (decide_eq_false (wy2 (128 + pg) 1)))) rfl rfl (fun wq hS => R.bin (v := (vi (((((128 + pg) / 2 ^ 1) ^^^ 1) / 2 : Nat) : Int))) rfl rfl (bi_quo (c := (((((128 + pg) / 2 ^ 1) ^^^ 1) / 2 : Nat) : Int)) (by first | omega | exact ⟨Int.natCast_nonneg _, by omega⟩) (by omega) (by first | omega | rfl))) ?_
  refine WT.q rfl (Wn.yes rfl rfl (congrArg Value.bool (decide_eq_false (wy2 (128 + pg) 1)))) rfl rfl (fun wq hS => R.bin (v := (.bool (decide ((((((128 + pg) / 2 ^ 1) / 2 : Nat) : Int) : Int) ≠ (((((128 + pg) / 2 ^ 1) ^^^ 1) / 2 : Nat) : Int))))) rfl rfl (bi_neq (r := decide ((((((128 + pg) / 2 ^ 1) / 2 : Nat) : Int) : Int) ≠ (((((128 + pg) / 2 ^ 1) ^^^ 1) / 2 : Nat) : Int))) rfl)) ?_
  refine WT.q rfl (Wn.no rfl) rfl rfl (fun wq hS => R.pickF (v := (.bool (decide ((((((128 + pg) / 2 ^ 1) / 2 : Nat) : Int) : Int) ≠ (((((128 + pg) / 2 ^ 1) ^^^ 1) / 2 : Nat) : Int))))) (congrArg Value.bool (decide_eq_false (wy2 (128 + pg) 1))) rfl) ?_
  refine WT.nil ?_
  refine thn_n ?_
  refine WP.condF (congrArg Value.bool (decide_eq_false (wy3 ((128 + pg) / 2 ^ 1)))) ?_
  refine WP.skip ?_
  refine inb_n ?_
  refine thn_n ?_
  refine WP.reg ?_
  refine WL.q (Wn.no rfl) rfl rfl (R.move (v := (vi 1)) rfl) ?_
  refine WL.q (Wn.no rfl) rfl rfl (R.bin (v := (vi 2)) rfl rfl (bi_add (c := 2) (by omega) (by omega))) ?_
  refine WL.q (Wn.no rfl) rfl rfl (R.assign (v := (vi 2)) rfl) ?_
  refine WL.nil ?_
  refine thn_n ?_
  refine WI.round ?_
  refine WP.seq ?_
  refine WP.seq ?_
  refine WP.reg ?_
  refine WL.q (Wn.no rfl) rfl rfl (R.move (v := (vi 2)) rfl) ?_
  refine WL.q (Wn.no rfl) rfl rfl (R.bin (v := (.bool true)) rfl rfl (bi_lss (r := true) (by decide))) ?_
  refine WL.nil ?_
  refine thn_n ?_
  refine WP.condT rfl ?_
  refine WP.skip ?_
  refine thn_n ?_
  refine WP.seq ?_
  refine WP.block ?_
  refine WP.seq ?_
  refine WP.drawT (SL w.heap.size [.row a_8 7 cap_9 3 1 ((bsL pg).map vi64), .row a_1 8 cap_2 3 1 ((wayL pg).map vi64)]) (.q 0 (.q 1 (.q 2 (.q 3 (.q 4 (.q 5 (.q 6 (.q 7 (.q 8 (.q 9 (.q 10 (.q 11 (.q 12 (.q 13 (.q 14 (.q 15 (.q 16 (.q 17 (.q 18 (.q 19 (.q 20 (.q 21 (.q 22 (.q 23 (.q 24 (.q 25 (.q 26 (.q 27 (.q 28 (.q 29 (.q 30 (.q 31 (.q 32 (.q 33 (.q 34 (.q 35 (.q 36 (.q 37 (.q 38 (.q 39 (.q 40 (.q 41 (.q 42 .nil))))))))))))))))))))))))))))))))))))))))))) (by kernel_rfl) (by kernel_rfl) rfl (by kernel_rfl) (fun w_30 hc_32 => (SL.cons ((h_28.same hc_32).ok _ (.head _)) (SL.cons ((h_28.same hc_32).ok _ (.tail _ (.head _))) (SL.nil _ _)))) (fun w_30 hc_32 => ?_)
  have h_31 := h_28.same hc_32
  refine WT.q rfl (Wn.no rfl) rfl rfl (fun wq hS => R.move (v := (.slice a_1 8 cap_2)) rfl) ?_
  refine WT.q rfl (Wn.no rfl) rfl rfl (fun wq hS => R.move (v := (vi 2)) rfl) ?_
  refine WT.q rfl (Wn.no rfl) rfl rfl (fun wq hS => R.bin (v := (vi 3)) rfl rfl (bi_add (c := 3) (by omega) (by omega))) ?_
  refine WT.q rfl (Wn.no rfl) rfl rfl (fun wq hS => R.indexS (a := a_1) (i := 3) (off := 3) (xs := (wayL pg).map vi64) rfl rfl rfl (by decide) (ownView (hS _ (.tail _ (.head _)))) (lt_len (K := 8) (len_map (rfl : List.length (wayL pg) = 8)) (by omega)) Try.underlying70 Try.sizeOf3 (Nat.mul_one _).symm) ?_
  refine WT.q rfl (Wn.no rfl) rfl rfl (fun wq hS => R.loadG (a := a_1) (i := 3) (xs := (wayL pg).map vi64) (v := (vi (((128 + pg) / 2 ^ 3 : Nat) : Int))) rfl (ownView (hS _ (.tail _ (.head _)))) Try.isAgg3 rfl) ?_
  refine WT.q rfl (Wn.no rfl) rfl rfl (fun wq hS => R.move (v := (.slice a_1 8 cap_2)) rfl) ?_
  refine WT.q rfl (Wn.no rfl) rfl rfl (fun wq hS => R.move (v := (vi 2)) rfl) ?_
  refine WT.q rfl (Wn.no rfl) rfl rfl (fun wq hS => R.indexS (a := a_1) (i := 2) (off := 2) (xs := (wayL pg).map vi64) rfl rfl rfl (by decide) (ownView (hS _ (.tail _ (.head _)))) (lt_len (K := 8) (len_map (rfl : List.length (wayL pg) = 8)) (by omega)) Try.underlying70 Try.sizeOf3 (Nat.mul_one _).symm) ?_
  refine WT.q rfl (Wn.no rfl) rfl rfl (fun wq hS => R.loadG (a := a_1) (i := 2) (xs := (wayL pg).map vi64) (v := (vi (((128 + pg) / 2 ^ 2 : Nat) : Int))) rfl (ownView (hS _ (.tail _ (.head _)))) Try.isAgg3 rfl) ?_
  refine WT.q rfl (Wn.no rfl) rfl rfl (fun wq hS => R.bin (v := (vi ((((128 + pg) / 2 ^ 2) / 2 : Nat) : Int))) rfl rfl (bi_quo (c := ((((128 + pg) / 2 ^ 2) / 2 : Nat) : Int)) (by first | omega | exact ⟨Int.natCast_nonneg _, by omega⟩) (by omega) (by first | omega | rfl))) ?_
  refine WT.q rfl (Wn.no rfl) rfl rfl (fun wq hS => R.bin (v := (.bool (decide (((((128 + pg) / 2 ^ 3 : Nat) : Int) : Int) ≠ ((((128 + pg) / 2 ^ 2) / 2 : Nat) : Int))))) rfl rfl (bi_neq (r := decide (((((128 + pg) / 2 ^ 3 : Nat) : Int) : Int) ≠ ((((128 + pg) / 2 ^ 2) / 2 : Nat) : Int))) rfl)) ?_
  refine WT.q rfl (Wn.no rfl) rfl rfl (fun wq hS => R.move (v := (.bool (decide (((((128 + pg) / 2 ^ 3 : Nat) : Int) : Int) ≠ ((((128 + pg) / 2 ^ 2) / 2 : Nat) : Int))))) rfl) ?_
  refine WT.q rfl (Wn.yes rfl rfl (congrArg Value.bool (decide_eq_false (wy1 (128 + pg) 2)))) rfl rfl (fun wq hS => R.move (v := (.slice a_1 8 cap_2)) rfl) ?_
  refine WT.q rfl (Wn.yes rfl rfl (congrArg Value.bool (decide_eq_false (wy1 (128 + pg) 2)))) rfl rfl (fun wq hS => R.move (v := (vi 2)) rfl) ?_
  refine WT.q rfl (Wn.yes rfl rfl (congrArg Value.bool (decide_eq_false (wy1 (128 + pg) 2)))) rfl rfl (fun wq hS => R.indexS (a := a_1) (i := 2) (off := 2) (xs := (wayL pg).map vi64) rfl rfl rfl (by decide) (ownView (hS _ (.tail _ (.head _)))) (lt_len (K := 8) (len_map (rfl : List.length (wayL pg) = 8)) (by omega)) Try.underlying70 Try.sizeOf3 (Nat.mul_one _).symm) ?_
  refine WT.q rfl (Wn.yes rfl rfl (congrArg Value.bool (decide_eq_false (wy1 (128 + pg) 2)))) rfl rfl (fun wq hS => R.loadG (a := a_1) (i := 2) (xs := (wayL pg).map vi64) (v := (vi (((128 + pg) / 2 ^ 2 : Nat) : Int))) rfl (ownView (hS _ (.tail _ (.head _)))) Try.isAgg3 rfl) ?_
  refine WT.q rfl (Wn.yes rfl rfl (congrArg Value.bool (decide_eq_false (wy1 (128 + pg) 2)))) rfl rfl (fun wq hS => R.move (v := (.slice a_8 7 cap_9)) rfl) ?_
  refine WT.q rfl (Wn.yes rfl rfl (congrArg Value.bool (decide_eq_false (wy1 (128 + pg) 2)))) rfl rfl (fun wq hS => R.move (v := (vi 2)) rfl) ?_
  refine WT.q rfl (Wn.yes rfl rfl (congrArg Value.bool (decide_eq_false (wy1 (128 + pg) 2)))) rfl rfl (fun wq hS => R.indexS (a := a_8) (i := 2) (off := 2) (xs := (bsL pg).map vi64) rfl rfl rfl (by decide) (ownView (hS _ (.head _))) (lt_len (K := 7) (len_map (rfl : List.length (bsL pg) = 7)) (by omega)) Try.underlying70 Try.sizeOf3 (Nat.mul_one _).symm) ?_
  refine WT.q rfl (Wn.yes rfl rfl (congrArg Value.bool (decide_eq_false (wy1 (128 + pg) 2)))) rfl rfl (fun wq hS => R.loadG (a := a_8) (i := 2) (xs := (bsL pg).map vi64) (v := (vi ((((128 + pg) / 2 ^ 2) ^^^ 1 : Nat) : Int))) rfl (ownView (hS _ (.head _))) Try.isAgg3 rfl) ?_
  refine WT.q rfl (Wn.yes rfl rfl (congrArg Value.bool (decide_eq_false (wy1 (128 + pg) 2)))) rfl rfl (fun wq hS => R.bin (v := (vi (((128 + pg) / 2 ^ 2 + (((128 + pg) / 2 ^ 2) ^^^ 1) : Nat) : Int))) rfl rfl (bi_add (c := (((128 + pg) / 2 ^ 2 + (((128 + pg) / 2 ^ 2) ^^^ 1) : Nat) : Int)) (by omega) (by omega))) ?_
  refine WT.q rfl (Wn.yes rfl rfl (congrArg Value.bool (decide_eq_false (wy1 (128 + pg) 2)))) rfl rfl (fun wq hS => R.move (v := (.slice a_1 8 cap_2)) rfl) ?_
  refine WT.q rfl (Wn.yes rfl rfl (congrArg Value.bool (decide_eq_false (wy1 (128 + pg) 2)))) rfl rfl (fun wq hS => R.move (v := (vi 2)) rfl) ?_
  refine WT.q rfl (Wn.yes rfl rfl (congrArg Value.bool (decide_eq_false (wy1 (128 + pg) 2)))) rfl rfl (fun wq hS => R.bin (v := (vi 3)) rfl rfl (bi_add (c := 3) (by omega) (by omega))) ?_
  refine WT.q rfl (Wn.yes rfl rfl (congrArg Value.bool (decide_eq_false (wy1 (128 + pg) 2)))) rfl rfl (fun wq hS => R.indexS (a := a_1) (i := 3) (off := 3) (xs := (wayL pg).map vi64) rfl rfl rfl (by decide) (ownView (hS _ (.tail _ (.head _)))) (lt_len (K := 8) (len_map (rfl : List.length (wayL pg) = 8)) (by omega)) Try.underlying70 Try.sizeOf3 (Nat.mul_one _).symm) ?_
  refine WT.q rfl (Wn.yes rfl rfl (congrArg Value.bool (decide_eq_false (wy1 (128 + pg) 2)))) rfl rfl (fun wq hS => R.loadG (a := a_1) (i := 3) (xs := (wayL pg).map vi64) (v := (vi (((128 + pg) / 2 ^ 3 : Nat) : Int))) rfl (ownView (hS _ (.tail _ (.head _)))) Try.isAgg3 rfl) ?_
  refine WT.q rfl (Wn.yes rfl rfl (congrArg Value.bool (decide_eq_false (wy1 (128 + pg) 2)))) rfl rfl (fun wq hS => R.bin (v := (vi ((4 * ((128 + pg) / 2 ^ 3) : Nat) : Int))) rfl rfl (bi_mul (c := ((4 * ((128 + pg) / 2 ^ 3) : Nat) : Int)) (by omega) (by omega))) ?_
  refine WT.q rfl (Wn.yes rfl rfl (congrArg Value.bool (decide_eq_false (wy1 (128 + pg) 2)))) rfl rfl (fun wq hS => R.bin (v := (vi ((4 * ((128 + pg) / 2 ^ 3) + 1 : Nat) : Int))) rfl rfl (bi_add (c := ((4 * ((128 + pg) / 2 ^ 3) + 1 : Nat) : Int)) (by omega) (by omega))) ?_
  refine WT.q rfl (Wn.yes rfl rfl (congrArg Value.bool (decide_eq_false (wy1 (128 + pg) 2)))) rfl rfl (fun wq hS => R.bin (v := (.bool (decide (((((128 + pg) / 2 ^ 2 + (((128 + pg) / 2 ^ 2) ^^^ 1) : Nat) : Int) : Int) ≠ ((4 * ((128 + pg) / 2 ^ 3) + 1 : Nat) : Int))))) rfl rfl (bi_neq (r := decide (((((128 + pg) / 2 ^ 2 + (((128 + pg) / 2 ^ 2) ^^^ 1) : Nat) : Int) : Int) ≠ ((4 * ((128 + pg) / 2 ^ 3) + 1 : Nat) : Int))) rfl)) ?_
  refine WT.q rfl (Wn.no rfl) rfl rfl (fun wq hS => R.pickF (v := (.bool (decide (((((128 + pg) / 2 ^ 2 + (((128 + pg) / 2 ^ 2) ^^^ 1) : Nat) : Int) : Int) ≠ ((4 * ((128 + pg) / 2 ^ 3) + 1 : Nat) : Int))))) (congrArg Value.bool (decide_eq_false (wy1 (128 + pg) 2))) rfl) ?_
  refine WT.q rfl (Wn.no rfl) rfl rfl (fun wq hS => R.move (v := (.bool (decide (((((128 + pg) / 2 ^ 2 + (((128 + pg) / 2 ^ 2) ^^^ 1) : Nat) : Int) : Int) ≠ ((4 * ((128 + pg) / 2 ^ 3) + 1 : Nat) : Int))))) rfl) ?_
  refine WT.q rfl (Wn.yes rfl rfl (congrArg Value.bool (decide_eq_false (wy2 (128 + pg) 2)))) rfl rfl (fun wq hS => R.move (v := (.slice a_1 8 cap_2)) rfl) ?_
  refine WT.q rfl (Wn.yes rfl rfl (congrArg Value.bool (decide_eq_false (wy2 (128 + pg) 2)))) rfl rfl (fun wq hS => R.move (v := (vi 2)) rfl) ?_
  refine WT.q rfl (Wn.yes rfl rfl (congrArg Value.bool (decide_eq_false (wy2 (128 + pg) 2)))) rfl rfl (fun wq hS => R.indexS (a := a_1) (i := 2) (off := 2) (xs := (wayL pg).map vi64) rfl rfl rfl (by decide) (ownView (hS _ (.tail _ (.head _)))) (lt_len (K := 8) (len_map (rfl : List.length (wayL pg) = 8)) (by omega)) Try.underlying70 Try.sizeOf3 (Nat.mul_one _).symm) ?_
  refine WT.q rfl (Wn.yes rfl rfl (congrArg Value.bool (decide_eq_false (wy2 (128 + pg) 2)))) rfl rfl (fun wq hS => R.loadG (a := a_1) (i := 2) (xs := (wayL pg).map vi64) (v := (vi (((128 + pg) / 2 ^ 2 : Nat) : Int))) rfl (ownView (hS _ (.tail _ (.head _)))) Try.isAgg3 rfl) ?_
  refine WT.q rfl (Wn.yes rfl rfl (congrArg Value.bool (decide_eq_false (wy2 (128 + pg) 2)))) rfl rfl (fun wq hS => R.bin (v := (vi ((((128 + pg) / 2 ^ 2) / 2 : Nat) : Int))) rfl rfl (bi_quo (c := ((((128 + pg) / 2 ^ 2) / 2 : Nat) : Int)) (by first | omega | exact ⟨Int.natCast_nonneg _, by omega⟩) (by omega) (by first | omega | rfl))) ?_
  refine WT.q rfl (Wn.yes rfl rfl (congrArg Value.bool (decide_eq_false (wy2 (128 + pg) 2)))) rfl rfl (fun wq hS => R.move (v := (.slice a_8 7 cap_9)) rfl) ?_
  refine WT.q rfl (Wn.yes rfl rfl (congrArg Value.bool (decide_eq_false (wy2 (128 + pg) 2)))) rfl rfl (fun wq hS => R.move (v := (vi 2)) rfl) ?_
  refine WT.q rfl (Wn.yes rfl rfl (congrArg Value.bool (decide_eq_false (wy2 (128 + pg) 2)))) rfl rfl (fun wq hS => R.indexS (a := a_8) (i := 2) (off := 2) (xs := (bsL pg).map vi64) rfl rfl rfl (by decide) (ownView (hS _ (.head _))) (lt_len (K := 7) (len_map (rfl : List.length (bsL pg) = 7)) (by omega)) Try.underlying70 Try.sizeOf3 (Nat.mul_one _).symm) ?_
  refine WT.q rfl (Wn.yes rfl rfl (congrArg Value.bool (decide_eq_false (wy2 (128 + pg) 2)))) rfl rfl (fun wq hS => R.loadG (a := a_8) (i := 2) (xs := (bsL pg).map vi64) (v := (vi ((((128 + pg) / 2 ^ 2) ^^^ 1 : Nat) : Int))) rfl (ownView (hS _ (.head _))) Try.isAgg3 rfl) ?_
  refine WT.q rfl (Wn.yes rfl rfl (congrArg Value.bool (decide_eq_false (wy2 (128 + pg) 2)))) rfl rfl (fun wq hS => R.bin (v := (vi (((((128 + pg) / 2 ^ 2) ^^^ 1) / 2 : Nat) : Int))) rfl rfl (bi_quo (c := (((((128 + pg) / 2 ^ 2) ^^^ 1) / 2 : Nat) : Int)) (by first | omega | exact ⟨Int.natCast_nonneg _, by omega⟩) (by omega) (by first | omega | rfl))) ?_
  refine WT.q rfl (Wn.yes rfl rfl (congrArg Value.bool (decide_eq_false (wy2 (128 + pg) 2)))) rfl rfl (fun wq hS => R.bin (v := (.bool (decide ((((((128 + pg) / 2 ^ 2) / 2 : Nat) : Int) : Int) ≠ (((((128 + pg) / 2 ^ 2) ^^^ 1) / 2 : Nat) : Int))))) rfl rfl (bi_neq (r := decide ((((((128 + pg) / 2 ^ 2) / 2 : Nat) : Int) : Int) ≠ (((((128 + pg) / 2 ^ 2) ^^^ 1) / 2 : Nat) : Int))) rfl)) ?_
  refine WT.q rfl (Wn.no rfl) rfl rfl (fun wq hS => R.pickF (v := (.bool (decide ((((((128 + pg) / 2 ^ 2) / 2 : Nat) : Int) : Int) ≠ (((((128 + pg) / 2 ^ 2) ^^^ 1) / 2 : Nat) : Int))))) (congrArg Value.bool (decide_eq_false (wy2 (128 + pg) 2))) rfl) ?_
  refine WT.nil ?_
  refine thn_n ?_
  refine WP.condF (congrArg Value.bool (decide_eq_false (wy3 ((128 + pg) / 2 ^ 2)))) ?_
  refine WP.skip ?_
  refine inb_n ?_
  refine thn_n ?_
  refine WP.reg ?_
  refine WL.q (Wn.no rfl) rfl rfl (R.move (v := (vi 2)) rfl) ?_
  refine WL.q (Wn.no rfl) rfl rfl (R.bin (v := (vi 3)) rfl rfl (bi_add (c := 3) (by omega) (by omega))) ?_
  refine WL.q (Wn.no rfl) rfl rfl (R.assign (v := (vi 3)) rfl) ?_
  refine WL.nil ?_
  refine thn_n ?_
  refine WI.round ?_
  refine WP.seq ?_
  refine WP.seq ?_
  refine WP.reg ?_
  refine WL.q (Wn.no rfl) rfl rfl (R.move (v := (vi 3)) rfl) ?_
  refine WL.q (Wn.no rfl) rfl rfl (R.bin (v := (.bool true)) rfl rfl (bi_lss (r := true) (by decide))) ?_
  refine WL.nil ?_
  refine thn_n ?_
  refine WP.condT rfl ?_
  refine WP.skip ?_
  refine thn_n ?_
  refine WP.seq ?_
  refine WP.block ?_
  refine WP.seq ?_
  refine WP.drawT (SL w.heap.size [.row a_8 7 cap_9 3 1 ((bsL pg).map vi64), .row a_1 8 cap_2 3 1 ((wayL pg).map vi64)]) (.q 0 (.q 1 (.q 2 (.q 3 (.q 4 (.q 5 (.q 6 (.q 7 (.q 8 (.q 9 (.q 10 (.q 11 (.q 12 (.q 13 (.q 14 (.q 15 (.q 16 (.q 17 (.q 18 (.q 19 (.q 20 (.q 21 (.q 22 (.q 23 (.q 24 (.q 25 (.q 26 (.q 27 (.q 28 (.q 29 (.q 30 (.q 31 (.q 32 (.q 33 (.q 34 (.q 35 (.q 36 (.q 37 (.q 38 (.q 39 (.q 40 (.q 41 (.q 42 .nil))))))))))))))))))))))))))))))))))))))))))) (by kernel_rfl) (by kernel_rfl) rfl (by kernel_rfl) (fun w_33 hc_35 => (SL.cons ((h_31.same hc_35).ok _ (.head _)) (SL.cons ((h_31.same hc_35).ok _ (.tail _ (.head _))) (SL.nil _ _)))) (fun w_33 hc_35 => ?_)
  have h_34 := h_31.same hc_35
  refine WT.q rfl (Wn.no rfl) rfl rfl (fun wq hS => R.move (v := (.slice a_1 8 cap_2)) rfl) ?_
  refine WT.q rfl (Wn.no rfl) rfl rfl (fun wq hS => R.move (v := (vi 3)) rfl) ?_
  refine WT.q rfl (Wn.no rfl) rfl rfl (fun wq hS => R.bin (v := (vi 4)) rfl rfl (bi_add (c := 4) (by omega) (by omega))) ?_
  refine WT.q rfl (Wn.no rfl) rfl rfl (fun wq hS => R.indexS (a := a_1) (i := 4) (off := 4) (xs := (wayL pg).map vi64) rfl rfl rfl (by decide) (ownView (hS _ (.tail _ (.head _)))) (lt_len (K := 8) (len_map (rfl : List.length (wayL pg) = 8)) (by omega)) Try.underlying70 Try.sizeOf3 (Nat.mul_one _).symm) ?_
  refine WT.q rfl (Wn.no rfl) rfl rfl (fun wq hS => R.loadG (a := a_1) (i := 4) (xs := (wayL pg).map vi64) (v := (vi (((128 + pg) / 2 ^ 4 : Nat) : Int))) rfl (ownView (hS _ (.tail _ (.head _)))) Try.isAgg3 rfl) ?_
  refine WT.q rfl (Wn.no rfl) rfl rfl (fun wq hS => R.move (v := (.slice a_1 8 cap_2)) rfl) ?_
  refine WT.q rfl (Wn.no rfl) rfl rfl (fun wq hS => R.move (v := (vi 3)) rfl) ?_
  refine WT.q rfl (Wn.no rfl) rfl rfl (fun wq hS => R.indexS (a := a_1) (i := 3) (off := 3) (xs := (wayL pg).map vi64) rfl rfl rfl (by decide) (ownView (hS _ (.tail _ (.head _)))) (lt_len (K := 8) (len_map (rfl : List.length (wayL pg) = 8)) (by omega)) Try.underlying70 Try.sizeOf3 (Nat.mul_one _).symm) ?_
  refine WT.q rfl (Wn.no rfl) rfl rfl (fun wq hS => R.loadG (a := a_1) (i := 3) (xs := (wayL pg).map vi64) (v := (vi (((128 + pg) / 2 ^ 3 : Nat) : Int))) rfl (ownView (hS _ (.tail _ (.head _)))) Try.isAgg3 rfl) ?_
  refine WT.q rfl (Wn.no rfl) rfl rfl (fun wq hS => R.bin (v := (vi ((((128 + pg) / 2 ^ 3) / 2 : Nat) : Int))) rfl rfl (bi_quo (c := ((((128 + pg) / 2 ^ 3) / 2 : Nat) : Int)) (by first | omega | exact ⟨Int.natCast_nonneg _, by omega⟩) (by omega) (by first | omega | rfl))) ?_
  refine WT.q rfl (Wn.no rfl) rfl rfl (fun wq hS => R.bin (v := (.bool (decide (((((128 + pg) / 2 ^ 4 : Nat) : Int) : Int) ≠ ((((128 + pg) / 2 ^ 3) / 2 : Nat) : Int))))) rfl rfl (bi_neq (r := decide (((((128 + pg) / 2 ^ 4 : Nat) : Int) : Int) ≠ ((((128 + pg) / 2 ^ 3) / 2 : Nat) : Int))) rfl)) ?_
  refine WT.q rfl (Wn.no rfl) rfl rfl (fun wq hS => R.move (v := (.bool (decide (((((128 + pg) / 2 ^ 4 : Nat) : Int) : Int) ≠ ((((128 + pg) / 2 ^ 3) / 2 : Nat) : Int))))) rfl) ?_
  refine WT.q rfl (Wn.yes rfl rfl (congrArg Value.bool (decide_eq_false (wy1 (128 + pg) 3)))) rfl rfl (fun wq hS => R.move (v := (.slice a_1 8 cap_2)) rfl) ?_
  refine WT.q rfl (Wn.yes rfl rfl (congrArg Value.bool (decide_eq_false (wy1 (128 + pg) 3)))) rfl rfl (fun wq hS => R.move (v := (vi 3)) rfl) ?_
  refine WT.q rfl (Wn.yes rfl rfl (congrArg Value.bool (decide_eq_false (wy1 (128 + pg) 3)))) rfl rfl (fun wq hS => R.indexS (a := a_1) (i := 3) (off := 3) (xs := (wayL pg).map vi64) rfl rfl rfl (by decide) (ownView (hS _ (.tail _ (.head _)))) (lt_len (K := 8) (len_map (rfl : List.length (wayL pg) = 8)) (by omega)) Try.underlying70 Try.sizeOf3 (Nat.mul_one _).symm) ?_
  refine WT.q rfl (Wn.yes rfl rfl (congrArg Value.bool (decide_eq_false (wy1 (128 + pg) 3)))) rfl rfl (fun wq hS => R.loadG (a := a_1) (i := 3) (xs := (wayL pg).map vi64) (v := (vi (((128 + pg) / 2 ^ 3 : Nat) : Int))) rfl (ownView (hS _ (.tail _ (.head _)))) Try.isAgg3 rfl) ?_
  refine WT.q rfl (Wn.yes rfl rfl (congrArg Value.bool (decide_eq_false (wy1 (128 + pg) 3)))) rfl rfl (fun wq hS => R.move (v := (.slice a_8 7 cap_9)) rfl) ?_
  refine WT.q rfl (Wn.yes rfl rfl (congrArg Value.bool (decide_eq_false (wy1 (128 + pg) 3)))) rfl rfl (fun wq hS => R.move (v := (vi 3)) rfl) ?_
  refine WT.q rfl (Wn.yes rfl rfl (congrArg Value.bool (decide_eq_false (wy1 (128 + pg) 3)))) rfl rfl (fun wq hS => R.indexS (a := a_8) (i := 3) (off := 3) (xs := (bsL pg).map vi64) rfl rfl rfl (by decide) (ownView (hS _ (.head _))) (lt_len (K := 7) (len_map (rfl : List.length (bsL pg) = 7)) (by omega)) Try.underlying70 Try.sizeOf3 (Nat.mul_one _).symm) ?_
  refine WT.q rfl (Wn.yes rfl rfl (congrArg Value.bool (decide_eq_false (wy1 (128 + pg) 3)))) rfl rfl (fun wq hS => R.loadG (a := a_8) (i := 3) (xs := (bsL pg).map vi64) (v := (vi ((((128 + pg) / 2 ^ 3) ^^^ 1 : Nat) : Int))) rfl (ownView (hS _ (.head _))) Try.isAgg3 rfl) ?_
  refine WT.q rfl (Wn.yes rfl rfl (congrArg Value.bool (decide_eq_false (wy1 (128 + pg) 3)))) rfl rfl (fun wq hS => R.bin (v := (vi (((128 + pg) / 2 ^ 3 + (((128 + pg) / 2 ^ 3) ^^^ 1) : Nat) : Int))) rfl rfl (bi_add (c := (((128 + pg) / 2 ^ 3 + (((128 + pg) / 2 ^ 3) ^^^ 1) : Nat) : Int)) (by omega) (by omega))) ?_
  refine WT.q rfl (Wn.yes rfl rfl (congrArg Value.bool (decide_eq_false (wy1 (128 + pg) 3)))) rfl rfl (fun wq hS => R.move (v := (.slice a_1 8 cap_2)) rfl) ?_
  refine WT.q rfl (Wn.yes rfl rfl (congrArg Value.bool (decide_eq_false (wy1 (128 + pg) 3)))) rfl rfl (fun wq hS => R.move (v := (vi 3)) rfl) ?_
  refine WT.q rfl (Wn.yes rfl rfl (congrArg Value.bool (decide_eq_false (wy1 (128 + pg) 3)))) rfl rfl (fun wq hS => R.bin (v := (vi 4)) rfl rfl (bi_add (c := 4) (by omega) (by omega))) ?_
  refine WT.q rfl (Wn.yes rfl rfl (congrArg Value.bool (decide_eq_false (wy1 (128 + pg) 3)))) rfl rfl (fun wq hS => R.indexS (a := a_1) (i := 4) (off := 4) (xs := (wayL pg).map vi64) rfl rfl rfl (by decide) (ownView (hS _ (.tail _ (.head _)))) (lt_len (K := 8) (len_map (rfl : List.length (wayL pg) = 8)) (by omega)) Try.underlying70 Try.sizeOf3 (Nat.mul_one _).symm) ?_
  refine WT.q rfl (Wn.yes rfl rfl (congrArg Value.bool (decide_eq_false (wy1 (128 + pg) 3)))) rfl rfl (fun wq hS => R.loadG (a := a_1) (i := 4) (xs := (wayL pg).map vi64) (v := (vi (((128 + pg) / 2 ^ 4 : Nat) : Int))) rfl (ownView (hS _ (.tail _ (.head _)))) Try.isAgg3 rfl) ?_
  refine WT.q rfl (Wn.yes rfl rfl (congrArg Value.bool (decide_eq_false (wy1 (128 + pg) 3)))) rfl rfl (fun wq hS => R.bin (v := (vi ((4 * ((128 + pg) / 2 ^ 4) : Nat) : Int))) rfl rfl (bi_mul (c := ((4 * ((128 + pg) / 2 ^ 4) : Nat) : Int)) (by omega) (by omega))) ?_
  refine WT.q rfl (Wn.yes rfl rfl (congrArg Value.bool (decide_eq_false (wy1 (128 + pg) 3)))) rfl rfl (fun wq hS => R.bin (v := (vi ((4 * ((128 + pg) / 2 ^ 4) + 1 : Nat) : Int))) rfl rfl (bi_add (c := ((4 * ((128 + pg) / 2 ^ 4) + 1 : Nat) : Int)) (by omega) (by omega))) ?_
  refine WT.q rfl (Wn.yes rfl rfl (congrArg Value.bool (decide_eq_false (wy1 (128 + pg) 3)))) rfl rfl (fun wq hS => R.bin (v := (.bool (decide (((((128 + pg) / 2 ^ 3 + (((128 + pg) / 2 ^ 3) ^^^ 1) : Nat) : Int) : Int) ≠ ((4 * ((128 + pg) / 2 ^ 4) + 1 : Nat) : Int))))) rfl rfl (bi_neq (r := decide (((((128 + pg) / 2 ^ 3 + (((128 + pg) / 2 ^ 3) ^^^ 1) : Nat) : Int) : Int) ≠ ((4 * ((128 + pg) / 2 ^ 4) + 1 : Nat) : Int))) rfl)) ?_
  refine WT.q rfl (Wn.no rfl) rfl rfl (fun wq hS => R.pickF (v := (.bool (decide (((((128 + pg) / 2 ^ 3 + (((128 + pg) / 2 ^ 3) ^^^ 1) : Nat) : Int) : Int) ≠ ((4 * ((128 + pg) / 2 ^ 4) + 1 : Nat) : Int))))) (congrArg Value.bool (decide_eq_false (wy1 (128 + pg) 3))) rfl) ?_
  refine WT.q rfl (Wn.no rfl) rfl rfl (fun wq hS => R.move (v := (.bool (decide (((((128 + pg) / 2 ^ 3 + (((128 + pg) / 2 ^ 3) ^^^ 1) : Nat) : Int) : Int) ≠ ((4 * ((128 + pg) / 2 ^ 4) + 1 : Nat) : Int))))) rfl) ?_
  refine WT.q rfl (Wn.yes rfl rfl (congrArg Value.bool (decide_eq_false (wy2 (128 + pg) 3)))) rfl rfl (fun wq hS => R.move (v := (.slice a_1 8 cap_2)) rfl) ?_
  refine WT.q rfl (Wn.yes rfl rfl (congrArg Value.bool (decide_eq_false (wy2 (128 + pg) 3)))) rfl rfl (fun wq hS => R.move (v := (vi 3)) rfl) ?_
  refine WT.q rfl (Wn.yes rfl rfl (congrArg Value.bool (decide_eq_false (wy2 (128 + pg) 3)))) rfl rfl (fun wq hS => R.indexS (a := a_1) (i := 3) (off := 3) (xs := (wayL pg).map vi64) rfl rfl rfl (by decide) (ownView (hS _ (.tail _ (.head _)))) (lt_len (K := 8) (len_map (rfl : List.length (wayL pg) = 8)) (by omega)) Try.underlying70 Try.sizeOf3 (Nat.mul_one _).symm) ?_
  refine WT.q rfl (Wn.yes rfl rfl (congrArg Value.bool (decide_eq_false (wy2 (128 + pg) 3)))) rfl rfl (fun wq hS => R.loadG (a := a_1) (i := 3) (xs := (wayL pg).map vi64) (v := (vi (((128 + pg) / 2 ^ 3 : Nat) : Int))) rfl (ownView (hS _ (.tail _ (.head _)))) Try.isAgg3 rfl) ?_
  refine WT.q rfl (Wn.yes rfl rfl (congrArg Value.bool (decide_eq_false (wy2 (128 + pg) 3)))) rfl rfl (fun wq hS => R.bin (v := (vi ((((128 + pg) / 2 ^ 3) / 2 : Nat) : Int))) rfl rfl (bi_quo (c := ((((128 + pg) / 2 ^ 3) / 2 : Nat) : Int)) (by first | omega | exact ⟨Int.natCast_nonneg _, by omega⟩) (by omega) (by first | omega | rfl))) ?_
  refine WT.q rfl (Wn.yes rfl rfl (congrArg Value.bool (decide_eq_false (wy2 (128 + pg) 3)))) rfl rfl (fun wq hS => R.move (v := (.slice a_8 7 cap_9)) rfl) ?_
  refine WT.q rfl (Wn.yes rfl rfl (congrArg Value.bool (decide_eq_false (wy2 (128 + pg) 3)))) rfl rfl (fun wq hS => R.move (v := (vi 3)) rfl) ?_
  refine WT.q rfl (Wn.yes rfl rfl (congrArg Value.bool (decide_eq_false (wy2 (128 + pg) 3)))) rfl rfl (fun wq hS => R.indexS (a := a_8) (i := 3) (off := 3) (xs := (bsL pg).map vi64) rfl rfl rfl (by decide) (ownView (hS _ (.head _))) (lt_len (K := 7) (len_map (rfl : List.length (bsL pg) = 7)) (by omega)) Try.underlying70 Try.sizeOf3 (Nat.mul_one _).symm) ?_
  refine WT.q rfl (Wn.yes rfl rfl (congrArg Value.bool (decide_eq_false (wy2 (128 + pg) 3)))) rfl rfl (fun wq hS => R.loadG (a := a_8) (i := 3) (xs := (bsL pg).map vi64) (v := (vi ((((128 + pg) / 2 ^ 3) ^^^ 1 : Nat) : Int))) rfl (ownView (hS _ (.head _))) Try.isAgg3 rfl) ?_
  refine WT.q rfl (Wn.yes rfl rfl (congrArg Value.bool (decide_eq_false (wy2 (128 + pg) 3)))) rfl rfl (fun wq hS => R.bin (v := (vi (((((128 + pg) / 2 ^ 3) ^^^ 1) / 2 : Nat) : Int))) rfl rfl (bi_quo (c := (((((128 + pg) / 2 ^ 3) ^^^ 1) / 2 : Nat) : Int)) (by first | omega | exact ⟨Int.natCast_nonneg _, by omega⟩) (by omega) (by first | omega | rfl))) ?_
  refine WT.q rfl (Wn.yes rfl rfl (congrArg Value.bool (decide_eq_false (wy2 (128 + pg) 3)))) rfl rfl (fun wq hS => R.bin (v := (.bool (decide ((((((128 + pg) / 2 ^ 3) / 2 : Nat) : Int) : Int) ≠ (((((128 + pg) / 2 ^ 3) ^^^ 1) / 2 : Nat) : Int))))) rfl rfl (bi_neq (r := decide ((((((128 + pg) / 2 ^ 3) / 2 : Nat) : Int) : Int) ≠ (((((128 + pg) / 2 ^ 3) ^^^ 1) / 2 : Nat) : Int))) rfl)) ?_
  refine WT.q rfl (Wn.no rfl) rfl rfl (fun wq hS => R.pickF (v := (.bool (decide ((((((128 + pg) / 2 ^ 3) / 2 : Nat) : Int) : Int) ≠ (((((128 + pg) / 2 ^ 3) ^^^ 1) / 2 : Nat) : Int))))) (congrArg Value.bool (decide_eq_false (wy2 (128 + pg) 3))) rfl) ?_
  refine WT.nil ?_
  refine thn_n ?_
  refine WP.condF (congrArg Value.bool (decide_eq_false (wy3 ((128 + pg) / 2 ^ 3)))) ?_
  refine WP.skip ?_
  refine inb_n ?_
  refine thn_n ?_
  refine WP.reg ?_
  refine WL.q (Wn.no rfl) rfl rfl (R.move (v := (vi 3)) rfl) ?_
  refine WL.q (Wn.no rfl) rfl rfl (R.bin (v := (vi 4)) rfl rfl (bi_add (c := 4) (by omega) (by omega))) ?_
  refine WL.q (Wn.no rfl) rfl rfl (R.assign (v := (vi 4)) rfl) ?_
  refine WL.nil ?_
  refine thn_n ?_
  refine WI.round ?_
  refine WP.seq ?_
  refine WP.seq ?_
  refine WP.reg ?_
  refine WL.q (Wn.no rfl) rfl rfl (R.move (v := (vi 4)) rfl) ?_
  refine WL.q (Wn.no rfl) rfl rfl (R.bin (v := (.bool true)) rfl rfl (bi_lss (r := true) (by decide))) ?_
  refine WL.nil ?_
  refine thn_n ?_
  refine WP.condT rfl ?_
  refine WP.skip ?_
  refine thn_n ?_
  refine WP.seq ?_
  refine WP.block ?_
  refine WP.seq ?_
  refine WP.drawT (SL w.heap.size [.row a_8 7 cap_9 3 1 ((bsL pg).map vi64), .row a_1 8 cap_2 3 1 ((wayL pg).map vi64)]) (.q 0 (.q 1 (.q 2 (.q 3 (.q 4 (.q 5 (.q 6 (.q 7 (.q 8 (.q 9 (.q 10 (.q 11 (.q 12 (.q 13 (.q 14 (.q 15 (.q 16 (.q 17 (.q 18 (.q 19 (.q 20 (.q 21 (.q 22 (.q 23 (.q 24 (.q 25 (.q 26 (.q 27 (.q 28 (.q 29 (.q 30 (.q 31 (.q 32 (.q 33 (.q 34 (.q 35 (.q 36 (.q 37 (.q 38 (.q 39 (.q 40 (.q 41 (.q 42 .nil))))))))))))))))))))))))))))))))))))))))))) (by kernel_rfl) (by kernel_rfl) rfl (by kernel_rfl) (fun w_36 hc_38 => (SL.cons ((h_34.same hc_38).ok _ (.head _)) (SL.cons ((h_34.same hc_38).ok _ (.tail _ (.head _))) (SL.nil _ _)))) (fun w_36 hc_38 => ?_)
  have h_37 := h_34.same hc_38
  refine WT.q rfl (Wn.no rfl) rfl rfl (fun wq hS => R.move (v := (.slice a_1 8 cap_2)) rfl) ?_
  refine WT.q rfl (Wn.no rfl) rfl rfl (fun wq hS => R.move (v := (vi 4)) rfl) ?_
  refine WT.q rfl (Wn.no rfl) rfl rfl (fun wq hS => R.bin (v := (vi 5)) rfl rfl (bi_add (c := 5) (by omega) (by omega))) ?_
  refine WT.q rfl (Wn.no rfl) rfl rfl (fun wq hS => R.indexS (a := a_1) (i := 5) (off := 5) (xs := (wayL pg).map vi64) rfl rfl rfl (by decide) (ownView (hS _ (.tail _ (.head _)))) (lt_len (K := 8) (len_map (rfl : List.length (wayL pg) = 8)) (by omega)) Try.underlying70 Try.sizeOf3 (Nat.mul_one _).symm) ?_
  refine WT.q rfl (Wn.no rfl) rfl rfl (fun wq hS => R.loadG (a := a_1) (i := 5) (xs := (wayL pg).map vi64) (v := (vi (((128 + pg) / 2 ^ 5 : Nat) : Int))) rfl (ownView (hS _ (.tail _ (.head _)))) Try.isAgg3 rfl) ?_
  refine WT.q rfl (Wn.no rfl) rfl rfl (fun wq hS => R.move (v := (.slice a_1 8 cap_2)) rfl) ?_
  refine WT.q rfl (Wn.no rfl) rfl rfl (fun wq hS => R.move (v := (vi 4)) rfl) ?_
  refine WT.q rfl (Wn.no rfl) rfl rfl (fun wq hS => R.indexS (a := a_1) (i := 4) (off := 4) (xs := (wayL pg).map vi64) rfl rfl rfl (by decide) (ownView (hS _ (.tail _ (.head _)))) (lt_len (K := 8) (len_map (rfl : List.length (wayL pg) = 8)) (by omega)) Try.underlying70 Try.sizeOf3 (Nat.mul_one _).symm) ?_
  refine WT.q rfl (Wn.no rfl) rfl rfl (fun wq hS => R.loadG (a := a_1) (i := 4) (xs := (wayL pg).map vi64) (v := (vi (((128 + pg) / 2 ^ 4 : Nat) : Int))) rfl (ownView (hS _ (.tail _ (.head _)))) Try.isAgg3 rfl) ?_
  refine WT.q rfl (Wn.no rfl) rfl rfl (fun wq hS => R.bin (v := (vi ((((128 + pg) / 2 ^ 4) / 2 : Nat) : Int))) rfl rfl (bi_quo (c := ((((128 + pg) / 2 ^ 4) / 2 : Nat) : Int)) (by first | omega | exact ⟨Int.natCast_nonneg _, by omega⟩) (by omega) (by first | omega | rfl))) ?_
  refine WT.q rfl (Wn.no rfl) rfl rfl (fun wq hS => R.bin (v := (.bool (decide (((((128 + pg) / 2 ^ 5 : Nat) : Int) : Int) ≠ ((((128 + pg) / 2 ^ 4) / 2 : Nat) : Int))))) rfl rfl (bi_neq (r := decide (((((128 + pg) / 2 ^ 5 : Nat) : Int) : Int) ≠ ((((128 + pg) / 2 ^ 4) / 2 : Nat) : Int))) rfl)) ?_
  refine WT.q rfl (Wn.no rfl) rfl rfl (fun wq hS => R.move (v := (.bool (decide (((((128 + pg) / 2 ^ 5 : Nat) : Int) : Int) ≠ ((((128 + pg) / 2 ^ 4) / 2 : Nat) : Int))))) rfl) ?_
  refine WT.q rfl (Wn.yes rfl rfl (congrArg Value.bool (decide_eq_false (wy1 (128 + pg) 4)))) rfl rfl (fun wq hS => R.move (v := (.slice a_1 8 cap_2)) rfl) ?_
  refine WT.q rfl (Wn.yes rfl rfl (congrArg Value.bool (decide_eq_false (wy1 (128 + pg) 4)))) rfl rfl (fun wq hS => R.move (v := (vi 4)) rfl) ?_
  refine WT.q rfl (Wn.yes rfl rfl (congrArg Value.bool (decide_eq_false (wy1 (128 + pg) 4)))) rfl rfl (fun wq hS => R.indexS (a := a_1) (i := 4) (off := 4) (xs := (wayL pg).map vi64) rfl rfl rfl (by decide) (ownView (hS _ (.tail _ (.head _)))) (lt_len (K := 8) (len_map (rfl : List.length (wayL pg) = 8)) (by omega)) Try.underlying70 Try.sizeOf3 (Nat.mul_one _).symm) ?_
  refine WT.q rfl (Wn.yes rfl rfl (congrArg Value.bool (decide_eq_false (wy1 (128 + pg) 4)))) rfl rfl (fun wq hS => R.loadG (a := a_1) (i := 4) (xs := (wayL pg).map vi64) (v := (vi (((128 + pg) / 2 ^ 4 : Nat) : Int))) rfl (ownView (hS _ (.tail _ (.head _)))) Try.isAgg3 rfl) ?_
  refine WT.q rfl (Wn.yes rfl rfl (congrArg Value.bool (decide_eq_false (wy1 (128 + pg) 4)))) rfl rfl (fun wq hS => R.move (v := (.slice a_8 7 cap_9)) rfl) ?_
  refine WT.q rfl (Wn.yes rfl rfl (congrArg Value.bool (decide_eq_false (wy1 (128 + pg) 4)))) rfl rfl (fun wq hS => R.move (v := (vi 4)) rfl) ?_
  refine WT.q rfl (Wn.yes rfl rfl (congrArg Value.bool (decide_eq_false (wy1 (128 + pg) 4)))) rfl rfl (fun wq hS => R.indexS (a := a_8) (i := 4) (off := 4) (xs := (bsL pg).map vi64) rfl rfl rfl (by decide) (ownView (hS _ (.head _))) (lt_len (K := 7) (len_map (rfl : List.length (bsL pg) = 7)) (by omega)) Try.underlying70 Try.sizeOf3 (Nat.mul_one _).symm) ?_
  refine WT.q rfl (Wn.yes rfl rfl (congrArg Value.bool (decide_eq_false (wy1 (128 + pg) 4)))) rfl rfl (fun wq hS => R.loadG (a := a_8) (i := 4) (xs := (bsL pg).map vi64) (v := (vi ((((128 + pg) / 2 ^ 4) ^^^ 1 : Nat) : Int))) rfl (ownView (hS _ (.head _))) Try.isAgg3 rfl) ?_
  refine WT.q rfl (Wn.yes rfl rfl (congrArg Value.bool (decide_eq_false (wy1 (128 + pg) 4)))) rfl rfl (fun wq hS => R.bin (v := (vi (((128 + pg) / 2 ^ 4 + (((128 + pg) / 2 ^ 4) ^^^ 1) : Nat) : Int))) rfl rfl (bi_add (c := (((128 + pg) / 2 ^ 4 + (((128 + pg) / 2 ^ 4) ^^^ 1) : Nat) : Int)) (by omega) (by omega))) ?_
  refine WT.q rfl (Wn.yes rfl rfl (congrArg Value.bool (decide_eq_false (wy1 (128 + pg) 4)))) rfl rfl (fun wq hS => R.move (v := (.slice a_1 8 cap_2)) rfl) ?_
  refine WT.q rfl (Wn.yes rfl rfl (congrArg Value.bool (decide_eq_false (wy1 (128 + pg) 4)))) rfl rfl (fun wq hS => R.move (v := (vi 4)) rfl) ?_
  refine WT.q rfl (Wn.yes rfl rfl (congrArg Value.bool (decide_eq_false (wy1 (128 + pg) 4)))) rfl rfl (fun wq hS => R.bin (v := (vi 5)) rfl rfl (bi_add (c := 5) (by omega) (by omega))) ?_
  refine WT.q rfl (Wn.yes rfl rfl (congrArg Value.bool (decide_eq_false (wy1 (128 + pg) 4)))) rfl rfl (fun wq hS => R.indexS (a := a_1) (i := 5) (off := 5) (xs := (wayL pg).map vi64) rfl rfl rfl (by decide) (ownView (hS _ (.tail _ (.head _)))) (lt_len (K := 8) (len_map (rfl : List.length (wayL pg) = 8)) (by omega)) Try.underlying70 Try.sizeOf3 (Nat.mul_one _).symm) ?_
  refine WT.q rfl (Wn.yes rfl rfl (congrArg Value.bool (decide_eq_false (wy1 (128 + pg) 4)))) rfl rfl (fun wq hS => R.loadG (a := a_1) (i := 5) (xs := (wayL pg).map vi64) (v := (vi (((128 + pg) / 2 ^ 5 : Nat) : Int))) rfl (ownView (hS _ (.tail _ (.head _)))) Try.isAgg3 rfl) ?_
  refine WT.q rfl (Wn.yes rfl rfl (congrArg Value.bool (decide_eq_false (wy1 (128 + pg) 4)))) rfl rfl (fun wq hS => R.bin (v := (vi ((4 * ((128 + pg) / 2 ^ 5) : Nat) : Int))) rfl rfl (bi_mul (c := ((4 * ((128 + pg) / 2 ^ 5) : Nat) : Int)) (by omega) (by omega))) ?_
  refine WT.q rfl (Wn.yes rfl rfl (congrArg Value.bool (decide_eq_false (wy1 (128 + pg) 4)))) rfl rfl (fun wq hS => R.bin (v := (vi ((4 * ((128 + pg) / 2 ^ 5) + 1 : Nat) : Int))) rfl rfl (bi_add (c := ((4 * ((128 + pg) / 2 ^ 5) + 1 : Nat) : Int)) (by omega) (by omega))) ?_
  refine WT.q rfl (Wn.yes rfl rfl (congrArg Value.bool (decide_eq_false (wy1 (128 + pg) 4)))) rfl rfl (fun wq hS => R.bin (v := (.bool (decide (((((128 + pg) / 2 ^ 4 + (((128 + pg) / 2 ^ 4) ^^^ 1) : Nat) : Int) : Int) ≠ ((4 * ((128 + pg) / 2 ^ 5) + 1 : Nat) : Int))))) rfl rfl (bi_neq (r := decide (((((128 + pg) / 2 ^ 4 + (((128 + pg) / 2 ^ 4) ^^^ 1) : Nat) : Int) : Int) ≠ ((4 * ((128 + pg) / 2 ^ 5) + 1 : Nat) : Int))) rfl)) ?_
  refine WT.q rfl (Wn.no rfl) rfl rfl (fun wq hS => R.pickF (v := (.bool (decide (((((128 + pg) / 2 ^ 4 + (((128 + pg) / 2 ^ 4) ^^^ 1) : Nat) : Int) : Int) ≠ ((4 * ((128 + pg) / 2 ^ 5) + 1 : Nat) : Int))))) (congrArg Value.bool (decide_eq_false (wy1 (128 + pg) 4))) rfl) ?_
  refine WT.q rfl (Wn.no rfl) rfl rfl (fun wq hS => R.move (v := (.bool (decide (((((128 + pg) / 2 ^ 4 + (((128 + pg) / 2 ^ 4) ^^^ 1) : Nat) : Int) : Int) ≠ ((4 * ((128 + pg) / 2 ^ 5) + 1 : Nat) : Int))))) rfl) ?_
  refine WT.q rfl (Wn.yes rfl rfl (congrArg Value.bool (decide_eq_false (wy2 (128 + pg) 4)))) rfl rfl (fun wq hS => R.move (v := (.slice a_1 8 cap_2)) rfl) ?_
  refine WT.q rfl (Wn.yes rfl rfl (congrArg Value.bool (decide_eq_false (wy2 (128 + pg) 4)))) rfl rfl (fun wq hS => R.move (v := (vi 4)) rfl) ?_
  refine WT.q rfl (Wn.yes rfl rfl (congrArg Value.bool (decide_eq_false (wy2 (128 + pg) 4)))) rfl rfl (fun wq hS => R.indexS (a := a_1) (i := 4) (off := 4) (xs := (wayL pg).map vi64) rfl rfl rfl (by decide) (ownView (hS _ (.tail _ (.head _)))) (lt_len (K := 8) (len_map (rfl : List.length (wayL pg) = 8)) (by omega)) Try.underlying70 Try.sizeOf3 (Nat.mul_one _).symm) ?_
  refine WT.q rfl (Wn.yes rfl rfl (congrArg Value.bool (decide_eq_false (wy2 (128 + pg) 4)))) rfl rfl (fun wq hS => R.loadG (a := a_1) (i := 4) (xs := (wayL pg).map vi64) (v := (vi (((128 + pg) / 2 ^ 4 : Nat) : Int))) rfl (ownView (hS _ (.tail _ (.head _)))) Try.isAgg3 rfl) ?_
  refine WT.q rfl (Wn.yes rfl rfl (congrArg Value.bool (decide_eq_false (wy2 (128 + pg) 4)))) rfl rfl (fun wq hS => R.bin (v := (vi ((((128 + pg) / 2 ^ 4) / 2 : Nat) : Int))) rfl rfl (bi_quo (c := ((((128 + pg) / 2 ^ 4) / 2 : Nat) : Int)) (by first | omega | exact ⟨Int.natCast_nonneg _, by omega⟩) (by omega) (by first | omega | rfl))) ?_
  refine WT.q rfl (Wn.yes rfl rfl (congrArg Value.bool (decide_eq_false (wy2 (128 + pg) 4)))) rfl rfl (fun wq hS => R.move (v := (.slice a_8 7 cap_9)) rfl) ?_
  refine WT.q rfl (Wn.yes rfl rfl (congrArg Value.bool (decide_eq_false (wy2 (128 + pg) 4)))) rfl rfl (fun wq hS => R.move (v := (vi 4)) rfl) ?_
  refine WT.q rfl (Wn.yes rfl rfl (congrArg Value.bool (decide_eq_false (wy2 (128 + pg) 4)))) rfl rfl (fun wq hS => R.indexS (a := a_8) (i := 4) (off := 4) (xs := (bsL pg).map vi64) rfl rfl rfl (by decide) (ownView (hS _ (.head _))) (lt_len (K := 7) (len_map (rfl : List.length (bsL pg) = 7)) (by omega)) Try.underlying70 Try.sizeOf3 (Nat.mul_one _).symm) ?_
  refine WT.q rfl (Wn.yes rfl rfl (congrArg Value.bool (decide_eq_false (wy2 (128 + pg) 4)))) rfl rfl (fun wq hS => R.loadG (a := a_8) (i := 4) (xs := (bsL pg).map vi64) (v := (vi ((((128 + pg) / 2 ^ 4) ^^^ 1 : Nat) : Int))) rfl (ownView (hS _ (.head _))) Try.isAgg3 rfl) ?_
  refine WT.q rfl (Wn.yes rfl rfl (congrArg Value.bool (decide_eq_false (wy2 (128 + pg) 4)))) rfl rfl (fun wq hS => R.bin (v := (vi (((((128 + pg) / 2 ^ 4) ^^^ 1) / 2 : Nat) : Int))) rfl rfl (bi_quo (c := (((((128 + pg) / 2 ^ 4) ^^^ 1) / 2 : Nat) : Int)) (by first | omega | exact ⟨Int.natCast_nonneg _, by omega⟩) (by omega) (by first | omega | rfl))) ?_
  refine WT.q rfl (Wn.yes rfl rfl (congrArg Value.bool (decide_eq_false (wy2 (128 + pg) 4)))) rfl rfl (fun wq hS => R.bin (v := (.bool (decide ((((((128 + pg) / 2 ^ 4) / 2 : Nat) : Int) : Int) ≠ (((((128 + pg) / 2 ^ 4) ^^^ 1) / 2 : Nat) : Int))))) rfl rfl (bi_neq (r := decide ((((((128 + pg) / 2 ^ 4) / 2 : Nat) : Int) : Int) ≠ (((((128 + pg) / 2 ^ 4) ^^^ 1) / 2 : Nat) : Int))) rfl)) ?_
  refine WT.q rfl (Wn.no rfl) rfl rfl (fun wq hS => R.pickF (v := (.bool (decide ((((((128 + pg) / 2 ^ 4) / 2 : Nat) : Int) : Int) ≠ (((((128 + pg) / 2 ^ 4) ^^^ 1) / 2 : Nat) : Int))))) (congrArg Value.bool (decide_eq_false (wy2 (128 + pg) 4))) rfl) ?_
  refine WT.nil ?_
  refine thn_n ?_
  refine WP.condF (congrArg Value.bool (decide_eq_false (wy3 ((128 + pg) / 2 ^ 4)))) ?_
  refine WP.skip ?_
  refine inb_n ?_
  refine thn_n ?_
  refine WP.reg ?_
  refine WL.q (Wn.no rfl) rfl rfl (R.move (v := (vi 4)) rfl) ?_
  refine WL.q (Wn.no rfl) rfl rfl (R.bin (v := (vi 5)) rfl rfl (bi_add (c := 5) (by omega) (by omega))) ?_
  refine WL.q (Wn.no rfl) rfl rfl (R.assign (v := (vi 5)) rfl) ?_
  refine WL.nil ?_
  refine thn_n ?_
  refine WI.round ?_
  refine WP.seq ?_
  refine WP.seq ?_
  refine WP.reg ?_
  refine WL.q (Wn.no rfl) rfl rfl (R.move (v := (vi 5)) rfl) ?_
  refine WL.q (Wn.no rfl) rfl rfl (R.bin (v := (.bool true)) rfl rfl (bi_lss (r := true) (by decide))) ?_
  refine WL.nil ?_
  refine thn_n ?_
  refine WP.condT rfl ?_
  refine WP.skip ?_
  refine thn_n ?_
  refine WP.seq ?_
  refine WP.block ?_
  refine WP.seq ?_
  refine WP.drawT (SL w.heap.size [.row a_8 7 cap_9 3 1 ((bsL pg).map vi64), .row a_1 8 cap_2 3 1 ((wayL pg).map vi64)]) (.q 0 (.q 1 (.q 2 (.q 3 (.q 4 (.q 5 (.q 6 (.q 7 (.q 8 (.q 9 (.q 10 (.q 11 (.q 12 (.q 13 (.q 14 (.q 15 (.q 16 (.q 17 (.q 18 (.q 19 (.q 20 (.q 21 (.q 22 (.q 23 (.q 24 (.q 25 (.q 26 (.q 27 (.q 28 (.q 29 (.q 30 (.q 31 (.q 32 (.q 33 (.q 34 (.q 35 (.q 36 (.q 37 (.q 38 (.q 39 (.q 40 (.q 41 (.q 42 .nil))))))))))))))))))))))))))))))))))))))))))) (by kernel_rfl) (by kernel_rfl) rfl (by kernel_rfl) (fun w_39 hc_41 => (SL.cons ((h_37.same hc_41).ok _ (.head _)) (SL.cons ((h_37.same hc_41).ok _ (.tail _ (.head _))) (SL.nil _ _)))) (fun w_39 hc_41 => ?_)
  have h_40 := h_37.same hc_41
  refine WT.q rfl (Wn.no rfl) rfl rfl (fun wq hS => R.move (v := (.slice a_1 8 cap_2)) rfl) ?_
  refine WT.q rfl (Wn.no rfl) rfl rfl (fun wq hS => R.move (v := (vi 5)) rfl) ?_
  refine WT.q rfl (Wn.no rfl) rfl rfl (fun wq hS => R.bin (v := (vi 6)) rfl rfl (bi_add (c := 6) (by omega) (by omega))) ?_
  refine WT.q rfl (Wn.no rfl) rfl rfl (fun wq hS => R.indexS (a := a_1) (i := 6) (off := 6) (xs := (wayL pg).map vi64) rfl rfl rfl (by decide) (ownView (hS _ (.tail _ (.head _)))) (lt_len (K := 8) (len_map (rfl : List.length (wayL pg) = 8)) (by omega)) Try.underlying70 Try.sizeOf3 (Nat.mul_one _).symm) ?_
  refine WT.q rfl (Wn.no rfl) rfl rfl (fun wq hS => R.loadG (a := a_1) (i := 6) (xs := (wayL pg).map vi64) (v := (vi (((128 + pg) / 2 ^ 6 : Nat) : Int))) rfl (ownView (hS _ (.tail _ (.head _)))) Try.isAgg3 rfl) ?_
  refine WT.q rfl (Wn.no rfl) rfl rfl (fun wq hS => R.move (v := (.slice a_1 8 cap_2)) rfl) ?_
  refine WT.q rfl (Wn.no rfl) rfl rfl (fun wq hS => R.move (v := (vi 5)) rfl) ?_
  refine WT.q rfl (Wn.no rfl) rfl rfl (fun wq hS => R.indexS (a := a_1) (i := 5) (off := 5) (xs := (wayL pg).map vi64) rfl rfl rfl (by decide) (ownView (hS _ (.tail _ (.head _)))) (lt_len (K := 8) (len_map (rfl : List.length (wayL pg) = 8)) (by omega)) Try.underlying70 Try.sizeOf3 (Nat.mul_one _).symm) ?_
  refine WT.q rfl (Wn.no rfl) rfl rfl (fun wq hS => R.loadG (a := a_1) (i := 5) (xs := (wayL pg).map vi64) (v := (vi (((128 + pg) / 2 ^ 5 : Nat) : Int))) rfl (ownView (hS _ (.tail _ (.head _)))) Try.isAgg3 rfl) ?_
  refine WT.q rfl (Wn.no rfl) rfl rfl (fun wq hS => R.bin (v := (vi ((((128 + pg) / 2 ^ 5) / 2 : Nat) : Int))) rfl rfl (bi_quo (c := ((((128 + pg) / 2 ^ 5) / 2 : Nat) : Int)) (by first | omega | exact ⟨Int.natCast_nonneg _, by omega⟩) (by omega) (by first | omega | rfl))) ?_
  refine WT.q rfl (Wn.no rfl) rfl rfl (fun wq hS => R.bin (v := (.bool (decide (((((128 + pg) / 2 ^ 6 : Nat) : Int) : Int) ≠ ((((128 + pg) / 2 ^ 5) / 2 : Nat) : Int))))) rfl rfl (bi_neq (r := decide (((((128 + pg) / 2 ^ 6 : Nat) : Int) : Int) ≠ ((((128 + pg) / 2 ^ 5) / 2 : Nat) : Int))) rfl)) ?_
  refine WT.q rfl (Wn.no rfl) rfl rfl (fun wq hS => R.move (v := (.bool (decide (((((128 + pg) / 2 ^ 6 : Nat) : Int) : Int) ≠ ((((128 + pg) / 2 ^ 5) / 2 : Nat) : Int))))) rfl) ?_
  refine WT.q rfl (Wn.yes rfl rfl (congrArg Value.bool (decide_eq_false (wy1 (128 + pg) 5)))) rfl rfl (fun wq hS => R.move (v := (.slice a_1 8 cap_2)) rfl) ?_
  refine WT.q rfl (Wn.yes rfl rfl (congrArg Value.bool (decide_eq_false (wy1 (128 + pg) 5)))) rfl rfl (fun wq hS => R.move (v := (vi 5)) rfl) ?_
  refine WT.q rfl (Wn.yes rfl rfl (congrArg Value.bool (decide_eq_false (wy1 (128 + pg) 5)))) rfl rfl (fun wq hS => R.indexS (a := a_1) (i := 5) (off := 5) (xs := (wayL pg).map vi64) rfl rfl rfl (by decide) (ownView (hS _ (.tail _ (.head _)))) (lt_len (K := 8) (len_map (rfl : List.length (wayL pg) = 8)) (by omega)) Try.underlying70 Try.sizeOf3 (Nat.mul_one _).symm) ?_
  refine WT.q rfl (Wn.yes rfl rfl (congrArg Value.bool (decide_eq_false (wy1 (128 + pg) 5)))) rfl rfl (fun wq hS => R.loadG (a := a_1) (i := 5) (xs := (wayL pg).map vi64) (v := (vi (((128 + pg) / 2 ^ 5 : Nat) : Int))) rfl (ownView (hS _ (.tail _ (.head _)))) Try.isAgg3 rfl) ?_
  refine WT.q rfl (Wn.yes rfl rfl (congrArg Value.bool (decide_eq_false (wy1 (128 + pg) 5)))) rfl rfl (fun wq hS => R.move (v := (.slice a_8 7 cap_9)) rfl) ?_
  refine WT.q rfl (Wn.yes rfl rfl (congrArg Value.bool (decide_eq_false (wy1 (128 + pg) 5)))) rfl rfl (fun wq hS => R.move (v := (vi 5)) rfl) ?_
  refine WT.q rfl (Wn.yes rfl rfl (congrArg Value.bool (decide_eq_false (wy1 (128 + pg) 5)))) rfl rfl (fun wq hS => R.indexS (a := a_8) (i := 5) (off := 5) (xs := (bsL pg).map vi64) rfl rfl rfl (by decide) (ownView (hS _ (.head _))) (lt_len (K := 7) (len_map (rfl : List.length (bsL pg) = 7)) (by omega)) Try.underlying70 Try.sizeOf3 (Nat.mul_one _).symm) ?_
  refine WT.q rfl (Wn.yes rfl rfl (congrArg Value.bool (decide_eq_false (wy1 (128 + pg) 5)))) rfl rfl (fun wq hS => R.loadG (a := a_8) (i := 5) (xs := (bsL pg).map vi64) (v := (vi ((((128 + pg) / 2 ^ 5) ^^^ 1 : Nat) : Int))) rfl (ownView (hS _ (.head _))) Try.isAgg3 rfl) ?_
  refine WT.q rfl (Wn.yes rfl rfl (congrArg Value.bool (decide_eq_false (wy1 (128 + pg) 5)))) rfl rfl (fun wq hS => R.bin (v := (vi (((128 + pg) / 2 ^ 5 + (((128 + pg) / 2 ^ 5) ^^^ 1) : Nat) : Int))) rfl rfl (bi_add (c := (((128 + pg) / 2 ^ 5 + (((128 + pg) / 2 ^ 5) ^^^ 1) : Nat) : Int)) (by omega) (by omega))) ?_
  refine WT.q rfl (Wn.yes rfl rfl (congrArg Value.bool (decide_eq_false (wy1 (128 + pg) 5)))) rfl rfl (fun wq hS => R.move (v := (.slice a_1 8 cap_2)) rfl) ?_
  refine WT.q rfl (Wn.yes rfl rfl (congrArg Value.bool (decide_eq_false (wy1 (128 + pg) 5)))) rfl rfl (fun wq hS => R.move (v := (vi 5)) rfl) ?_
  refine WT.q rfl (Wn.yes rfl rfl (congrArg Value.bool (decide_eq_false (wy1 (128 + pg) 5)))) rfl rfl (fun wq hS => R.bin (v := (vi 6)) rfl rfl (bi_add (c := 6) (by omega) (by omega))) ?_
  refine WT.q rfl (Wn.yes rfl rfl (congrArg Value.bool (decide_eq_false (wy1 (128 + pg) 5)))) rfl rfl (fun wq hS => R.indexS (a := a_1) (i := 6) (off := 6) (xs := (wayL pg).map vi64) rfl rfl rfl (by decide) (ownView (hS _ (.tail _ (.head _)))) (lt_len (K := 8) (len_map (rfl : List.length (wayL pg) = 8)) (by omega)) Try.underlying70 Try.sizeOf3 (Nat.mul_one _).symm) ?_
  refine WT.q rfl (Wn.yes rfl rfl (congrArg Value.bool (decide_eq_false (wy1 (128 + pg) 5)))) rfl rfl (fun wq hS => R.loadG (a := a_1) (i := 6) (xs := (wayL pg).map vi64) (v := (vi (((128 + pg) / 2 ^ 6 : Nat) : Int))) rfl (ownView (hS _ (.tail _ (.head _)))) Try.isAgg3 rfl) ?_
  refine WT.q rfl (Wn.yes rfl rfl (congrArg Value.bool (decide_eq_false (wy1 (128 + pg) 5)))) rfl rfl (fun wq hS => R.bin (v := (vi ((4 * ((128 + pg) / 2 ^ 6) : Nat) : Int))) rfl rfl (bi_mul (c := ((4 * ((128 + pg) / 2 ^ 6) : Nat) : Int)) (by omega) (by omega))) ?_
  refine WT.q rfl (Wn.yes rfl rfl (congrArg Value.bool (decide_eq_false (wy1 (128 + pg) 5)))) rfl rfl (fun wq hS => R.bin (v := (vi ((4 * ((128 + pg) / 2 ^ 6) + 1 : Nat) : Int))) rfl rfl (bi_add (c := ((4 * ((128 + pg) / 2 ^ 6) + 1 : Nat) : Int)) (by omega) (by omega))) ?_
  refine WT.q rfl (Wn.yes rfl rfl (congrArg Value.bool (decide_eq_false (wy1 (128 + pg) 5)))) rfl rfl (fun wq hS => R.bin (v := (.bool (decide (((((128 + pg) / 2 ^ 5 + (((128 + pg) / 2 ^ 5) ^^^ 1) : Nat) : Int) : Int) ≠ ((4 * ((128 + pg) / 2 ^ 6) + 1 : Nat) : Int))))) rfl rfl (bi_neq (r := decide (((((128 + pg) / 2 ^ 5 + (((128 + pg) / 2 ^ 5) ^^^ 1) : Nat) : Int) : Int) ≠ ((4 * ((128 + pg) / 2 ^ 6) + 1 : Nat) : Int))) rfl)) ?_
  refine WT.q rfl (Wn.no rfl) rfl rfl (fun wq hS => R.pickF (v := (.bool (decide (((((128 + pg) / 2 ^ 5 + (((128 + pg) / 2 ^ 5) ^^^ 1) : Nat) : Int) : Int) ≠ ((4 * ((128 + pg) / 2 ^ 6) + 1 : Nat) : Int))))) (congrArg Value.bool (decide_eq_false (wy1 (128 + pg) 5))) rfl) ?_
  refine WT.q rfl (Wn.no rfl) rfl rfl (fun wq hS => R.move (v := (.bool (decide (((((128 + pg) / 2 ^ 5 + (((128 + pg) / 2 ^ 5) ^^^ 1) : Nat) : Int) : Int) ≠ ((4 * ((128 + pg) / 2 ^ 6) + 1 : Nat) : Int))))) rfl) ?_
  refine WT.q rfl (Wn.yes rfl rfl (congrArg Value.bool (decide_eq_false (wy2 (128 + pg) 5)))) rfl rfl (fun wq hS => R.move (v := (.slice a_1 8 cap_2)) rfl) ?_
  refine WT.q rfl (Wn.yes rfl rfl (congrArg Value.bool (decide_eq_false (wy2 (128 + pg) 5)))) rfl rfl (fun wq hS => R.move (v := (vi 5)) rfl) ?_
  refine WT.q rfl (Wn.yes rfl rfl (congrArg Value.bool (decide_eq_false (wy2 (128 + pg) 5)))) rfl rfl (fun wq hS => R.indexS (a := a_1) (i := 5) (off := 5) (xs := (wayL pg).map vi64) rfl rfl rfl (by decide) (ownView (hS _ (.tail _ (.head _)))) (lt_len (K := 8) (len_map (rfl : List.length (wayL pg) = 8)) (by omega)) Try.underlying70 Try.sizeOf3 (Nat.mul_one _).symm) ?_
  refine WT.q rfl (Wn.yes rfl rfl (congrArg Value.bool (decide_eq_false (wy2 (128 + pg) 5)))) rfl rfl (fun wq hS => R.loadG (a := a_1) (i := 5) (xs := (wayL pg).map vi64) (v := (vi (((128 + pg) / 2 ^ 5 : Nat) : Int))) rfl (ownView (hS _ (.tail _ (.head _)))) Try.isAgg3 rfl) ?_
  refine WT.q rfl (Wn.yes rfl rfl (congrArg Value.bool (decide_eq_false (wy2 (128 + pg) 5)))) rfl rfl (fun wq hS => R.bin (v := (vi ((((128 + pg) / 2 ^ 5) / 2 : Nat) : Int))) rfl rfl (bi_quo (c := ((((128 + pg) / 2 ^ 5) / 2 : Nat) : Int)) (by first | omega | exact ⟨Int.natCast_nonneg _, by omega⟩) (by omega) (by first | omega | rfl))) ?_
  refine WT.q rfl (Wn.yes rfl rfl (congrArg Value.bool (decide_eq_false (wy2 (128 + pg) 5)))) rfl rfl (fun wq hS => R.move (v := (.slice a_8 7 cap_9)) rfl) ?_
  refine WT.q rfl (Wn.yes rfl rfl (congrArg Value.bool (decide_eq_false (wy2 (128 + pg) 5)))) rfl rfl (fun wq hS => R.move (v := (vi 5)) rfl) ?_
  refine WT.q rfl (Wn.yes rfl rfl (congrArg Value.bool (decide_eq_false (wy2 (128 + pg) 5)))) rfl rfl (fun wq hS => R.indexS (a := a_8) (i := 5) (off := 5) (xs := (bsL pg).map vi64) rfl rfl rfl (by decide) (ownView (hS _ (.head _))) (lt_len (K := 7) (len_map (rfl : List.length (bsL pg) = 7)) (by omega)) Try.underlying70 Try.sizeOf3 (Nat.mul_one _).symm) ?_
  refine WT.q rfl (Wn.yes rfl rfl (congrArg Value.bool (decide_eq_false (wy2 (128 + pg) 5)))) rfl rfl (fun wq hS => R.loadG (a := a_8) (i := 5) (xs := (bsL pg).map vi64) (v := (vi ((((128 + pg) / 2 ^ 5) ^^^ 1 : Nat) : Int))) rfl (ownView (hS _ (.head _))) Try.isAgg3 rfl) ?_
  refine WT.q rfl (Wn.yes rfl rfl (congrArg Value.bool (decide_eq_false (wy2 (128 + pg) 5)))) rfl rfl (fun wq hS => R.bin (v := (vi (((((128 + pg) / 2 ^ 5) ^^^ 1) / 2 : Nat) : Int))) rfl rfl (bi_quo (c := (((((128 + pg) / 2 ^ 5) ^^^ 1) / 2 : Nat) : Int)) (by first | omega | exact ⟨Int.natCast_nonneg _, by omega⟩) (by omega) (by first | omega | rfl))) ?_
  refine WT.q rfl (Wn.yes rfl rfl (congrArg Value.bool (decide_eq_false (wy2 (128 + pg) 5)))) rfl rfl (fun wq hS => R.bin (v := (.bool (decide ((((((128 + pg) / 2 ^ 5) / 2 : Nat) : Int) : Int) ≠ (((((128 + pg) / 2 ^ 5) ^^^ 1) / 2 : Nat) : Int))))) rfl rfl (bi_neq (r := decide ((((((128 + pg) / 2 ^ 5) / 2 : Nat) : Int) : Int) ≠ (((((128 + pg) / 2 ^ 5) ^^^ 1) / 2 : Nat) : Int))) rfl)) ?_
  refine WT.q rfl (Wn.no rfl) rfl rfl (fun wq hS => R.pickF (v := (.bool (decide ((((((128 + pg) / 2 ^ 5) / 2 : Nat) : Int) : Int) ≠ (((((128 + pg) / 2 ^ 5) ^^^ 1) / 2 : Nat) : Int))))) (congrArg Value.bool (decide_eq_false (wy2 (128 + pg) 5))) rfl) ?_
  refine WT.nil ?_
  refine thn_n ?_
  refine WP.condF (congrArg Value.bool (decide_eq_false (wy3 ((128 + pg) / 2 ^ 5)))) ?_
  refine WP.skip ?_
  refine inb_n ?_
  refine thn_n ?_
  refine WP.reg ?_
  refine WL.q (Wn.no rfl) rfl rfl (R.move (v := (vi 5)) rfl) ?_
  refine WL.q (Wn.no rfl) rfl rfl (R.bin (v := (vi 6)) rfl rfl (bi_add (c := 6) (by omega) (by omega))) ?_
  refine WL.q (Wn.no rfl) rfl rfl (R.assign (v := (vi 6)) rfl) ?_
  refine WL.nil ?_
  refine thn_n ?_
  refine WI.round ?_
  refine WP.seq ?_
  refine WP.seq ?_
  refine WP.reg ?_
  refine WL.q (Wn.no rfl) rfl rfl (R.move (v := (vi 6)) rfl) ?_
  refine WL.q (Wn.no rfl) rfl rfl (R.bin (v := (.bool true)) rfl rfl (bi_lss (r := true) (by decide))) ?_
  refine WL.nil ?_
  refine thn_n ?_
  refine WP.condT rfl ?_
  refine WP.skip ?_
  refine thn_n ?_
  refine WP.seq ?_
  refine WP.block ?_
  refine WP.seq ?_
  refine WP.drawT (SL w.heap.size [.row a_8 7 cap_9 3 1 ((bsL pg).map vi64), .row a_1 8 cap_2 3 1 ((wayL pg).map vi64)]) (.q 0 (.q 1 (.q 2 (.q 3 (.q 4 (.q 5 (.q 6 (.q 7 (.q 8 (.q 9 (.q 10 (.q 11 (.q 12 (.q 13 (.q 14 (.q 15 (.q 16 (.q 17 (.q 18 (.q 19 (.q 20 (.q 21 (.q 22 (.q 23 (.q 24 (.q 25 (.q 26 (.q 27 (.q 28 (.q 29 (.q 30 (.q 31 (.q 32 (.q 33 (.q 34 (.q 35 (.q 36 (.q 37 (.q 38 (.q 39 (.q 40 (.q 41 (.q 42 .nil))))))))))))))))))))))))))))))))))))))))))) (by kernel_rfl) (by kernel_rfl) rfl (by kernel_rfl) (fun w_42 hc_44 => (SL.cons ((h_40.same hc_44).ok _ (.head _)) (SL.cons ((h_40.same hc_44).ok _ (.tail _ (.head _))) (SL.nil _ _)))) (fun w_42 hc_44 => ?_)
  have h_43 := h_40.same hc_44
  refine WT.q rfl (Wn.no rfl) rfl rfl (fun wq hS => R.move (v := (.slice a_1 8 cap_2)) rfl) ?_
  refine WT.q rfl (Wn.no rfl) rfl rfl (fun wq hS => R.move (v := (vi 6)) rfl) ?_
  refine WT.q rfl (Wn.no rfl) rfl rfl (fun wq hS => R.bin (v := (vi 7)) rfl rfl (bi_add (c := 7) (by omega) (by omega))) ?_
  refine WT.q rfl (Wn.no rfl) rfl rfl (fun wq hS => R.indexS (a := a_1) (i := 7) (off := 7) (xs := (wayL pg).map vi64) rfl rfl rfl (by decide) (ownView (hS _ (.tail _ (.head _)))) (lt_len (K := 8) (len_map (rfl : List.length (wayL pg) = 8)) (by omega)) Try.underlying70 Try.sizeOf3 (Nat.mul_one _).symm) ?_
  refine WT.q rfl (Wn.no rfl) rfl rfl (fun wq hS => R.loadG (a := a_1) (i := 7) (xs := (wayL pg).map vi64) (v := (vi (((128 + pg) / 2 ^ 7 : Nat) : Int))) rfl (ownView (hS _ (.tail _ (.head _)))) Try.isAgg3 rfl) ?_
  refine WT.q rfl (Wn.no rfl) rfl rfl (fun wq hS => R.move (v := (.slice a_1 8 cap_2)) rfl) ?_
  refine WT.q rfl (Wn.no rfl) rfl rfl (fun wq hS => R.move (v := (vi 6)) rfl) ?_
  refine WT.q rfl (Wn.no rfl) rfl rfl (fun wq hS => R.indexS (a := a_1) (i := 6) (off := 6) (xs := (wayL pg).map vi64) rfl rfl rfl (by decide) (ownView (hS _ (.tail _ (.head _)))) (lt_len (K := 8) (len_map (rfl : List.length (wayL pg) = 8)) (by omega)) Try.underlying70 Try.sizeOf3 (Nat.mul_one _).symm) ?_
  refine WT.q rfl (Wn.no rfl) rfl rfl (fun wq hS => R.loadG (a := a_1) (i := 6) (xs := (wayL pg).map vi64) (v := (vi (((128 + pg) / 2 ^ 6 : Nat) : Int))) rfl (ownView (hS _ (.tail _ (.head _)))) Try.isAgg3 rfl) ?_
  refine WT.q rfl (Wn.no rfl) rfl rfl (fun wq hS => R.bin (v := (vi ((((128 + pg) / 2 ^ 6) / 2 : Nat) : Int))) rfl rfl (bi_quo (c := ((((128 + pg) / 2 ^ 6) / 2 : Nat) : Int)) (by first | omega | exact ⟨Int.natCast_nonneg _, by omega⟩) (by omega) (by first | omega | rfl))) ?_
  refine WT.q rfl (Wn.no rfl) rfl rfl (fun wq hS => R.bin (v := (.bool (decide (((((128 + pg) / 2 ^ 7 : Nat) : Int) : Int) ≠ ((((128 + pg) / 2 ^ 6) / 2 : Nat) : Int))))) rfl rfl (bi_neq (r := decide (((((128 + pg) / 2 ^ 7 : Nat) : Int) : Int) ≠ ((((128 + pg) / 2 ^ 6) / 2 : Nat) : Int))) rfl)) ?_
  refine WT.q rfl (Wn.no rfl) rfl rfl (fun wq hS => R.move (v := (.bool (decide (((((128 + pg) / 2 ^ 7 : Nat) : Int) : Int) ≠ ((((128 + pg) / 2 ^ 6) / 2 : Nat) : Int))))) rfl) ?_
  refine WT.q rfl (Wn.yes rfl rfl (congrArg Value.bool (decide_eq_false (wy1 (128 + pg) 6)))) rfl rfl (fun wq hS => R.move (v := (.slice a_1 8 cap_2)) rfl) ?_
  refine WT.q rfl (Wn.yes rfl rfl (congrArg Value.bool (decide_eq_false (wy1 (128 + pg) 6)))) rfl rfl (fun wq hS => R.move (v := (vi 6)) rfl) ?_
  refine WT.q rfl (Wn.yes rfl rfl (congrArg Value.bool (decide_eq_false (wy1 (128 + pg) 6)))) rfl rfl (fun wq hS => R.indexS (a := a_1) (i := 6) (off := 6) (xs := (wayL pg).map vi64) rfl rfl rfl (by decide) (ownView (hS _ (.tail _ (.head _)))) (lt_len (K := 8) (len_map (rfl : List.length (wayL pg) = 8)) (by omega)) Try.underlying70 Try.sizeOf3 (Nat.mul_one _).symm) ?_
  refine WT.q rfl (Wn.yes rfl rfl (congrArg Value.bool (decide_eq_false (wy1 (128 + pg) 6)))) rfl rfl (fun wq hS => R.loadG (a := a_1) (i := 6) (xs := (wayL pg).map vi64) (v := (vi (((128 + pg) / 2 ^ 6 : Nat) : Int))) rfl (ownView (hS _ (.tail _ (.head _)))) Try.isAgg3 rfl) ?_
  refine WT.q rfl (Wn.yes rfl rfl (congrArg Value.bool (decide_eq_false (wy1 (128 + pg) 6)))) rfl rfl (fun wq hS => R.move (v := (.slice a_8 7 cap_9)) rfl) ?_
  refine WT.q rfl (Wn.yes rfl rfl (congrArg Value.bool (decide_eq_false (wy1 (128 + pg) 6)))) rfl rfl (fun wq hS => R.move (v := (vi 6)) rfl) ?_
  refine WT.q rfl (Wn.yes rfl rfl (congrArg Value.bool (decide_eq_false (wy1 (128 + pg) 6)))) rfl rfl (fun wq hS => R.indexS (a := a_8) (i := 6) (off := 6) (xs := (bsL pg).map vi64) rfl rfl rfl (by decide) (ownView (hS _ (.head _))) (lt_len (K := 7) (len_map (rfl : List.length (bsL pg) = 7)) (by omega)) Try.underlying70 Try.sizeOf3 (Nat.mul_one _).symm) ?_
  refine WT.q rfl (Wn.yes rfl rfl (congrArg Value.bool (decide_eq_false (wy1 (128 + pg) 6)))) rfl rfl (fun wq hS => R.loadG (a := a_8) (i := 6) (xs := (bsL pg).map vi64) (v := (vi ((((128 + pg) / 2 ^ 6) ^^^ 1 : Nat) : Int))) rfl (ownView (hS _ (.head _))) Try.isAgg3 rfl) ?_
  refine WT.q rfl (Wn.yes rfl rfl (congrArg Value.bool (decide_eq_false (wy1 (128 + pg) 6)))) rfl rfl (fun wq hS => R.bin (v := (vi (((128 + pg) / 2 ^ 6 + (((128 + pg) / 2 ^ 6) ^^^ 1) : Nat) : Int))) rfl rfl (bi_add (c := (((128 + pg) / 2 ^ 6 + (((128 + pg) / 2 ^ 6) ^^^ 1) : Nat) : Int)) (by omega) (by omega))) ?_
  refine WT.q rfl (Wn.yes rfl rfl (congrArg Value.bool (decide_eq_false (wy1 (128 + pg) 6)))) rfl rfl (fun wq hS => R.move (v := (.slice a_1 8 cap_2)) rfl) ?_
  refine WT.q rfl (Wn.yes rfl rfl (congrArg Value.bool (decide_eq_false (wy1 (128 + pg) 6)))) rfl rfl (fun wq hS => R.move (v := (vi 6)) rfl) ?_
  refine WT.q rfl (Wn.yes rfl rfl (congrArg Value.bool (decide_eq_false (wy1 (128 + pg) 6)))) rfl rfl (fun wq hS => R.bin (v := (vi 7)) rfl rfl (bi_add (c := 7) (by omega) (by omega))) ?_
  refine WT.q rfl (Wn.yes rfl rfl (congrArg Value.bool (decide_eq_false (wy1 (128 + pg) 6)))) rfl rfl (fun wq hS => R.indexS (a := a_1) (i := 7) (off := 7) (xs := (wayL pg).map vi64) rfl rfl rfl (by decide) (ownView (hS _ (.tail _ (.head _)))) (lt_len (K := 8) (len_map (rfl : List.length (wayL pg) = 8)) (by omega)) Try.underlying70 Try.sizeOf3 (Nat.mul_one _).symm) ?_
  refine WT.q rfl (Wn.yes rfl rfl (congrArg Value.bool (decide_eq_false (wy1 (128 + pg) 6)))) rfl rfl (fun wq hS => R.loadG (a := a_1) (i := 7) (xs := (wayL pg).map vi64) (v := (vi (((128 + pg) / 2 ^ 7 : Nat) : Int))) rfl (ownView (hS _ (.tail _ (.head _)))) Try.isAgg3 rfl) ?_
  refine WT.q rfl (Wn.yes rfl rfl (congrArg Value.bool (decide_eq_false (wy1 (128 + pg) 6)))) rfl rfl (fun wq hS => R.bin (v := (vi ((4 * ((128 + pg) / 2 ^ 7) : Nat) : Int))) rfl rfl (bi_mul (c := ((4 * ((128 + pg) / 2 ^ 7) : Nat) : Int)) (by omega) (by omega))) ?_
  refine WT.q rfl (Wn.yes rfl rfl (congrArg Value.bool (decide_eq_false (wy1 (128 + pg) 6)))) rfl rfl (fun wq hS => R.bin (v := (vi ((4 * ((128 + pg) / 2 ^ 7) + 1 : Nat) : Int))) rfl rfl (bi_add (c := ((4 * ((128 + pg) / 2 ^ 7) + 1 : Nat) : Int)) (by omega) (by omega))) ?_
  refine WT.q rfl (Wn.yes rfl rfl (congrArg Value.bool (decide_eq_false (wy1 (128 + pg) 6)))) rfl rfl (fun wq hS => R.bin (v := (.bool (decide (((((128 + pg) / 2 ^ 6 + (((128 + pg) / 2 ^ 6) ^^^ 1) : Nat) : Int) : Int) ≠ ((4 * ((128 + pg) / 2 ^ 7) + 1 : Nat) : Int))))) rfl rfl (bi_neq (r := decide (((((128 + pg) / 2 ^ 6 + (((128 + pg) / 2 ^ 6) ^^^ 1) : Nat) : Int) : Int) ≠ ((4 * ((128 + pg) / 2 ^ 7) + 1 : Nat) : Int))) rfl)) ?_
  refine WT.q rfl (Wn.no rfl) rfl rfl (fun wq hS => R.pickF (v := (.bool (decide (((((128 + pg) / 2 ^ 6 + (((128 + pg) / 2 ^ 6) ^^^ 1) : Nat) : Int) : Int) ≠ ((4 * ((128 + pg) / 2 ^ 7) + 1 : Nat) : Int))))) (congrArg Value.bool (decide_eq_false (wy1 (128 + pg) 6))) rfl) ?_
  refine WT.q rfl (Wn.no rfl) rfl rfl (fun wq hS => R.move (v := (.bool (decide (((((128 + pg) / 2 ^ 6 + (((128 + pg) / 2 ^ 6) ^^^ 1) : Nat) : Int) : Int) ≠ ((4 * ((128 + pg) / 2 ^ 7) + 1 : Nat) : Int))))) rfl) ?_
  refine WT.q rfl (Wn.yes rfl rfl (congrArg Value.bool (decide_eq_false (wy2 (128 + pg) 6)))) rfl rfl (fun wq hS => R.move (v := (.slice a_1 8 cap_2)) rfl) ?_
  refine WT.q rfl (Wn.yes rfl rfl (congrArg Value.bool (decide_eq_false (wy2 (128 + pg) 6)))) rfl rfl (fun wq hS => R.move (v := (vi 6)) rfl) ?_
  refine WT.q rfl (Wn.yes rfl rfl (congrArg Value.bool (decide_eq_false (wy2 (128 + pg) 6)))) rfl rfl (fun wq hS => R.indexS (a := a_1) (i := 6) (off := 6) (xs := (wayL pg).map vi64) rfl rfl rfl (by decide) (ownView (hS _ (.tail _ (.head _)))) (lt_len (K := 8) (len_map (rfl : List.length (wayL pg) = 8)) (by omega)) Try.underlying70 Try.sizeOf3 (Nat.mul_one _).symm) ?_
  refine WT.q rfl (Wn.yes rfl rfl (congrArg Value.bool (decide_eq_false (wy2 (128 + pg) 6)))) rfl rfl (fun wq hS => R.loadG (a := a_1) (i := 6) (xs := (wayL pg).map vi64) (v := (vi (((128 + pg) / 2 ^ 6 : Nat) : Int))) rfl (ownView (hS _ (.tail _ (.head _)))) Try.isAgg3 rfl) ?_
  refine WT.q rfl (Wn.yes rfl rfl (congrArg Value.bool (decide_eq_false (wy2 (128 + pg) 6)))) rfl rfl (fun wq hS => R.bin (v := (vi ((((128 + pg) / 2 ^ 6) / 2 : Nat) : Int))) rfl rfl (bi_quo (c := ((((128 + pg) / 2 ^ 6) / 2 : Nat) : Int)) (by first | omega | exact ⟨Int.natCast_nonneg _, by omega⟩) (by omega) (by first | omega | rfl))) ?_
  refine WT.q rfl (Wn.yes rfl rfl (congrArg Value.bool (decide_eq_false (wy2 (128 + pg) 6)))) rfl rfl (fun wq hS => R.move (v := (.slice a_8 7 cap_9)) rfl) ?_
  refine WT.q rfl (Wn.yes rfl rfl (congrArg Value.bool (decide_eq_false (wy2 (128 + pg) 6)))) rfl rfl (fun wq hS => R.move (v := (vi 6)) rfl) ?_
  refine WT.q rfl (Wn.yes rfl rfl (congrArg Value.bool (decide_eq_false (wy2 (128 + pg) 6)))) rfl rfl (fun wq hS => R.indexS (a := a_8) (i := 6) (off := 6) (xs := (bsL pg).map vi64) rfl rfl rfl (by decide) (ownView (hS _ (.head _))) (lt_len (K := 7) (len_map (rfl : List.length (bsL pg) = 7)) (by omega)) Try.underlying70 Try.sizeOf3 (Nat.mul_one _).symm) ?_
  refine WT.q rfl (Wn.yes rfl rfl (congrArg Value.bool (decide_eq_false (wy2 (128 + pg) 6)))) rfl rfl (fun wq hS => R.loadG (a := a_8) (i := 6) (xs := (bsL pg).map vi64) (v := (vi ((((128 + pg) / 2 ^ 6) ^^^ 1 : Nat) : Int))) rfl (ownView (hS _ (.head _))) Try.isAgg3 rfl) ?_
  refine WT.q rfl (Wn.yes rfl rfl (congrArg Value.bool (decide_eq_false (wy2 (128 + pg) 6)))) rfl rfl (fun wq hS => R.bin (v := (vi (((((128 + pg) / 2 ^ 6) ^^^ 1) / 2 : Nat) : Int))) rfl rfl (bi_quo (c := (((((128 + pg) / 2 ^ 6) ^^^ 1) / 2 : Nat) : Int)) (by first | omega | exact ⟨Int.natCast_nonneg _, by omega⟩) (by omega) (by first | omega | rfl))) ?_
  refine WT.q rfl (Wn.yes rfl rfl (congrArg Value.bool (decide_eq_false (wy2 (128 + pg) 6)))) rfl rfl (fun wq hS => R.bin (v := (.bool (decide ((((((128 + pg) / 2 ^ 6) / 2 : Nat) : Int) : Int) ≠ (((((128 + pg) / 2 ^ 6) ^^^ 1) / 2 : Nat) : Int))))) rfl rfl (bi_neq (r := decide ((((((128 + pg) / 2 ^ 6) / 2 : Nat) : Int) : Int) ≠ (((((128 + pg) / 2 ^ 6) ^^^ 1) / 2 : Nat) : Int))) rfl)) ?_
  refine WT.q rfl (Wn.no rfl) rfl rfl (fun wq hS => R.pickF (v := (.bool (decide ((((((128 + pg) / 2 ^ 6) / 2 : Nat) : Int) : Int) ≠ (((((128 + pg) / 2 ^ 6) ^^^ 1) / 2 : Nat) : Int))))) (congrArg Value.bool (decide_eq_false (wy2 (128 + pg) 6))) rfl) ?_
  refine WT.nil ?_
  refine thn_n ?_
  refine WP.condF (congrArg Value.bool (decide_eq_false (wy3 ((128 + pg) / 2 ^ 6)))) ?_
  refine WP.skip ?_
  refine inb_n ?_
  refine thn_n ?_
  refine WP.reg ?_
  refine WL.q (Wn.no rfl) rfl rfl (R.move (v := (vi 6)) rfl) ?_
  refine WL.q (Wn.no rfl) rfl rfl (R.bin (v := (vi 7)) rfl rfl (bi_add (c := 7) (by omega) (by omega))) ?_
  refine WL.q (Wn.no rfl) rfl rfl (R.assign (v := (vi 7)) rfl) ?_
  refine WL.nil ?_
  refine thn_n ?_
  refine WI.round ?_
  refine WP.seq ?_
  refine WP.seq ?_
  refine WP.reg ?_
  refine WL.q (Wn.no rfl) rfl rfl (R.move (v := (vi 7)) rfl) ?_
  refine WL.q (Wn.no rfl) rfl rfl (R.bin (v := (.bool false)) rfl rfl (bi_lss (r := false) (by decide))) ?_
  refine WL.nil ?_
  refine thn_n ?_
  refine WP.condF rfl ?_
  refine WP.exit ?_
  refine thn_x ?_
  refine thn_x ?_
  refine inb_hit ?_
  refine thn_n ?_
  refine WP.seq ?_
  refine WP.reg ?_
  refine WL.call (al := []) Try.call32 rfl rfl (c_known15  _ ) rfl ?_
  rintro _ w_46 ⟨rfl, hc_45⟩
  have h_47 := h_43.same hc_45
  refine WL.q (Wn.no rfl) rfl rfl (R.assign (v := (.bool true)) rfl) ?_
  refine WL.nil ?_
  refine thn_n ?_
  refine WP.ret ?_
  refine ret_of Try.results8 (RV.tmp (v := (.bool true)) rfl RV.nil) ?_
  exact ⟨rfl, h_47.chgS⟩

theorem w_Ways_f (pg : Int) (h : ¬ (0 ≤ pg ∧ pg < 128)) (w : World) :
    Cs Try.prog 8 [(vi pg)].toArray w (fun v w1 => v = (.bool true) ∧ Chg w w1 []) := by
  refine Cs.of (n := 118) (args := [(vi pg)]) Try.func8 rfl rfl rfl ?_
  have h_0 := HP.init w
  refine WP.seq ?_
  refine WP.reg ?_
  refine WL.q (Wn.no rfl) rfl rfl (R.assign (v := (.bool false)) rfl) ?_
  refine WL.nil ?_
  refine thn_n ?_
  refine WP.seq ?_
  refine WP.reg ?_
  refine WL.q (Wn.no rfl) rfl rfl (R.move (v := (vi pg)) rfl) ?_
  refine WL.call (al := [(vi pg)]) Try.call28 rfl rfl (c_Way_f pg (by omega) _ ) rfl ?_
  rintro _ w_2 ⟨rfl, hc_1⟩
  have h_3 := h_0.same hc_1
  refine WL.q (Wn.no rfl) rfl rfl (R.move (v := (.tuple [(.slice none 0 0), (vi 2)].toArray)) rfl) ?_
  refine WL.q (Wn.no rfl) rfl rfl (R.extract (l := [(.slice none 0 0), (vi 2)]) (v := (.slice none 0 0)) rfl rfl) ?_
  refine WL.q (Wn.no rfl) rfl rfl (R.extract (l := [(.slice none 0 0), (vi 2)]) (v := (vi 2)) rfl rfl) ?_
  refine WL.q (Wn.no rfl) rfl rfl (R.assign (v := (.slice none 0 0)) rfl) ?_
  refine WL.q (Wn.no rfl) rfl rfl (R.assign (v := (vi 2)) rfl) ?_
  refine WL.nil ?_
  refine thn_n ?_
  refine WP.seq ?_
  refine WP.reg ?_
  refine WL.q (Wn.no rfl) rfl rfl (R.move (v := (vi pg)) rfl) ?_
  refine WL.call (al := [(vi pg)]) Try.call29 rfl rfl (c_Bes_f pg (by omega) _ ) rfl ?_
  rintro _ w_5 ⟨rfl, hc_4⟩
  have h_6 := h_3.same hc_4
  refine WL.q (Wn.no rfl) rfl rfl (R.move (v := (.tuple [(.slice none 0 0), (vi 2)].toArray)) rfl) ?_
  refine WL.q (Wn.no rfl) rfl rfl (R.extract (l := [(.slice none 0 0), (vi 2)]) (v := (.slice none 0 0)) rfl rfl) ?_
  refine WL.q (Wn.no rfl) rfl rfl (R.extract (l := [(.slice none 0 0), (vi 2)]) (v := (vi 2)) rfl rfl) ?_
  refine WL.q (Wn.no rfl) rfl rfl (R.assign (v := (.slice none 0 0)) rfl) ?_
  refine WL.q (Wn.no rfl) rfl rfl (R.assign (v := (vi 2)) rfl) ?_
  refine WL.nil ?_
  refine thn_n ?_
  refine WP.seq ?_
  refine WP.seq ?_
  refine WP.reg ?_
  refine WL.q (Wn.no rfl) rfl rfl (R.move (v := (vi pg)) rfl) ?_
  refine WL.call (al := [(vi pg)]) Try.call30 rfl rfl (c_mayP_f pg (by omega) _ ) rfl ?_
  rintro _ w_8 ⟨rfl, hc_7⟩
  have h_9 := h_6.same hc_7
  refine WL.q (Wn.no rfl) rfl rfl (R.not (b := false) rfl) ?_
  refine WL.nil ?_
  refine thn_n ?_
  refine WP.condT rfl ?_
  refine WP.seq ?_
  refine WP.reg ?_
  refine WL.q (Wn.no rfl) rfl rfl (R.move (v := (.slice none 0 0)) rfl) ?_
  refine WL.q (Wn.no rfl) rfl rfl (R.lenS (a := none) (m := 0) rfl rfl Try.underlying70) ?_
  refine WL.q (Wn.no rfl) rfl rfl (R.move (v := (.slice none 0 0)) rfl) ?_
  refine WL.q (Wn.no rfl) rfl rfl (R.lenS (a := none) (m := 0) rfl rfl Try.underlying70) ?_
  refine WL.q (Wn.no rfl) rfl rfl (R.bin (v := (vi 0)) rfl rfl (bi_add (c := 0) (by omega) (by omega))) ?_
  refine WL.q (Wn.no rfl) rfl rfl (R.bin (v := (.bool true)) rfl rfl (bi_eql (r := true) (by decide))) ?_
  refine WL.q (Wn.no rfl) rfl rfl (R.move (v := (.bool true)) rfl) ?_
  refine WL.want rfl rfl ?_
  refine WL.q (Wn.no rfl) rfl rfl (R.move (v := (vi 2)) rfl) ?_
  refine WL.want rfl rfl ?_
  refine WL.call (al := [(vi 2)]) Try.call31 rfl rfl (c_num15 2 (by omega) _ ) rfl ?_
  rintro _ w_11 ⟨rfl, hc_10⟩
  have h_12 := h_9.same hc_10
  refine WL.want rfl rfl ?_
  refine WL.q (Wn.no rfl) rfl rfl (R.bin (v := (.bool true)) rfl rfl (bi_eql (r := true) (by decide))) ?_
  refine WL.q (Wn.no rfl) rfl rfl (R.pickT (v := (.bool true)) rfl rfl) ?_
  refine WL.q (Wn.no rfl) rfl rfl (R.move (v := (.bool true)) rfl) ?_
  refine WL.want rfl rfl ?_
  refine WL.q (Wn.no rfl) rfl rfl (R.move (v := (vi 2)) rfl) ?_
  refine WL.want rfl rfl ?_
  refine WL.call (al := [(vi 2)]) Try.call31 rfl rfl (c_num15 2 (by omega) _ ) rfl ?_
  rintro _ w_14 ⟨rfl, hc_13⟩
  have h_15 := h_12.same hc_13
  refine WL.want rfl rfl ?_
  refine WL.q (Wn.no rfl) rfl rfl (R.bin (v := (.bool true)) rfl rfl (bi_eql (r := true) (by decide))) ?_
  refine WL.q (Wn.no rfl) rfl rfl (R.pickT (v := (.bool true)) rfl rfl) ?_
  refine WL.q (Wn.no rfl) rfl rfl (R.move (v := (.bool true)) rfl) ?_
  refine WL.want rfl rfl ?_
  refine WL.call (al := []) Try.call32 rfl rfl (c_known15  _ ) rfl ?_
  rintro _ w_17 ⟨rfl, hc_16⟩
  have h_18 := h_15.same hc_16
  refine WL.q (Wn.no rfl) rfl rfl (R.pickT (v := (.bool true)) rfl rfl) ?_
  refine WL.q (Wn.no rfl) rfl rfl (R.assign (v := (.bool true)) rfl) ?_
  refine WL.nil ?_
  refine thn_n ?_
  refine WP.ret ?_
  refine thn_r ?_
  refine ret_of Try.results8 (RV.tmp (v := (.bool true)) rfl RV.nil) ?_
  exact ⟨rfl, h_18.chgS⟩

theorem w_TreeWays (pg : Int) (w : World) : Cs Try.prog 8 [vi pg].toArray w (fun v w1 => v = .bool true ∧ Chg w w1 []) := by
  by_cases h : 0 ≤ pg ∧ pg < 128
  · obtain ⟨n, rfl⟩ := Int.eq_ofNat_of_zero_le h.1
    exact w_Ways_t n (by omega) w
  · exact w_Ways_f pg h w
namespace treeWaysDone
open Go.ChangeShapes Go.WideShapes Go.ChangeAt
theorem own : ownKnob Try.prog.godebug = none := by kernel_rfl
theorem laidOut : laidOutB Try.prog = true := by kernel_rfl
set_option maxRecDepth 100000 in
theorem lifted (os : Os) (started : os.Started) (H : Type) (enc : TypeId × Value → H) :
    ReturnsInHanded {} Try.checked os 8 .any (Rows.treeWaysSpec.pre6 enc Try.prog Try.f8 Rows.treeWaysRow.domain false) (Rows.treeWaysSpec.post enc Try.prog Try.f8 false true false false) := by
  refine returnsInHanded_of_change (C := Try.checked) own started (by kernel_rfl) Try.func8
    (ChangeSpec.witness6 (enc := enc) (C := Try.checked) false ⟨#[], #[.int .i64 0], []⟩ 8 (by kernel_rfl) (by kernel_rfl) (by kernel_rfl) (by kernel_rfl)) ?_
  intro W base args ds gs before hval0 hW hcnd _
  have hval : ∀ (j : Nat) t v, Try.f8.params[j]? = some t → args[j]? = some v → Value.okWide Try.prog W .any base t v := hval0
  have hW' := hW
  obtain ⟨p, q, hA0, hV, rfl, hfz, hnd⟩ := hW
  have hA : DataW.TrodAll enc Try.prog W 0 (fun _ => true) true Try.f8.params.toList args.toList ds p := hA0
  rw [Try.params8] at hA hval
  obtain ⟨v0, vs0, d0, ds0, p0, q0, hargs, rfl, rfl, h0, r0⟩ := trodAll_cons hA
  obtain ⟨rfl, rfl, rfl⟩ := trodAll_nil r0
  obtain rfl : args = #[v0] := by cases args; simp_all
  obtain ⟨rfl, rfl⟩ := trodVars_none hV
  have lt0 : ∀ x ∈ p0, x.block < W.heap.size := by obtain ⟨m, hm⟩ := h0; exact DataW.trod_lt m _ _ _ hm
  obtain ⟨x0, rfl⟩ := okWide_int Try.underlying3 (hval 0 3 v0 rfl rfl)
  have b_x0 := Tr.i64' Try.underlying3 (Tr.of h0 rfl)
  clear hA0 hval0
  have hw : Cs Try.prog 8 [(vi x0)].toArray W (fun v w1 => v = .bool true ∧ Chg W w1 []) := w_TreeWays x0 W
  have ea : ([(vi x0)] : List Value).toArray = (#[(vi x0)] : Array Value) := by simp [flat]
  rw [ea] at hw
  refine Calls.mono (Cs.below hw) fun e W' ⟨he, bel⟩ => ?_
  subst he
  exact ⟨_, rfl, _, _, _, [], _, [], hW', trodAll_mk1 (shut_bool Try.underlying4 _), (trodAll_cons_mk (Below.trod laidOut (by kernel_rfl) (of_decide_eq_true (by kernel_rfl)) h0 bel lt0) trodAll_mk0), rfl, bel.frame _, fun h => by cases h⟩
theorem over : Rows.treeWaysRow.holds Try.pinned (OpenSpec.ofChange Rows.treeWaysSpec) :=
  OpenClaim.holds_of_wide 8 Try.f8 rfl rfl rfl rfl rfl rfl rfl ⟨rfl, rfl, rfl, rfl, rfl⟩ rfl rfl rfl rfl rfl (by kernel_rfl) Try.func8 (by kernel_rfl)
    (of_decide_eq_true (by kernel_rfl)) (by unfold Func.isWrapper; first | (rw [if_pos (by decide +kernel)]; kernel_rfl) | (rw [if_neg (by decide +kernel)]; exact ⟨rfl, rfl⟩))
    (fun os started H enc _ => lifted os started H enc)
theorem proved : Rows.TreeWaysSaid := over
end treeWaysDone
end Go.Proofs.Ytnhppjimimhlkaa
