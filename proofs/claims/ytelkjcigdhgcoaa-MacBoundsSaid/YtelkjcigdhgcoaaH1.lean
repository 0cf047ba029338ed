/- The first primes: plain laws. Conditions: those that each theorem states. -/
import Derived.Test.YtelkjcigdhgcoaaH0
set_option linter.unusedVariables false
set_option linter.unusedSimpArgs false
namespace Go.Sh
open Go.Vc
def dvd (n p : UInt64) : Bool := decide (n % p = 0)
def prm : Nat → List UInt64
  | 0 => []
  | m + 1 => if (prm m).any (dvd (UInt64.ofNat (m + 2))) then prm m else prm m ++ [UInt64.ofNat (m + 2)]
theorem prm_le : ∀ {m k : Nat}, m ≤ k → (prm m).length ≤ (prm k).length
  | m, 0, h => by have : m = 0 := by omega
                  subst this; exact Nat.le_refl _
  | m, k + 1, h => by
    by_cases e : m = k + 1
    · rw [e]; exact Nat.le_refl _
    · refine Nat.le_trans (prm_le (m := m) (k := k) (by omega)) ?_
      rw [prm]; split
      · exact Nat.le_refl _
      · rw [List.length_append]; omega
theorem prm_step (m : Nat) : (prm (m + 1)).length ≤ (prm m).length + 1 := by
  rw [prm]; split
  · omega
  · rw [List.length_append]; exact Nat.le_refl _
theorem prm_309 : (prm 309).length = 63 := by decide +kernel
theorem prm_310 : prm 310 = primeL := by decide +kernel
theorem prm_lt {m : Nat} (h : (prm m).length < 64) : m < 310 := by
  by_cases hm : m < 310
  · exact hm
  · have := prm_le (m := 310) (k := m) (by omega)
    rw [prm_310, primeL_len] at this; omega
theorem prm_full {m : Nat} (hm : m ≤ 310) (h : ¬ (prm m).length < 64) : prm m = primeL := by
  have : m = 310 := by
    by_cases e : m ≤ 309
    · have := prm_le e; rw [prm_309] at this; omega
    · omega
  rw [this, prm_310]
/-! the document's primes -/
def isK (n k : Nat) : Bool := (List.range' 2 (k - 2)).all fun j => decide (n % j ≠ 0)
def cnt (n : Nat) : Nat := primeL.countP fun p => decide (p.toNat ≤ n)
def isP (n : Nat) : Bool := primeL.any fun p => decide (p.toNat = n)
theorem isK_2 (n : Nat) : isK n 2 = true := rfl
theorem isK_succ {n k : Nat} (h : 2 ≤ k) : isK n (k + 1) = (isK n k && decide (n % k ≠ 0)) := by
  rw [isK, isK, show k + 1 - 2 = (k - 2) + 1 by omega, List.range'_concat, List.all_append, show 2 + 1 * (k - 2) = k by omega]
  simp
theorem isK_all : ∀ n, n < 312 → ∀ k, k < 20 → (2 ≤ n ∧ 2 ≤ k ∧ (k = 2 ∨ (k - 1) * (k - 1) ≤ n) ∧ n < k * k) → isK n k = isP n := by decide +kernel
theorem cnt_step : ∀ n, n < 311 → 1 ≤ n → if isP (n + 1) then cnt (n + 1) = cnt n + 1 ∧ (primeL.getD (cnt n) 0).toNat = n + 1 else cnt (n + 1) = cnt n := by decide +kernel
theorem cnt_1 : cnt 1 = 0 := by decide +kernel
theorem cnt_311 : cnt 311 = 64 := by decide +kernel
theorem cnt_mono {m n : Nat} (h : m ≤ n) : cnt m ≤ cnt n := by
  rw [cnt, cnt]
  refine List.countP_mono_left fun x _ hx => ?_
  simp only [decide_eq_true_eq] at hx ⊢; omega
theorem cnt_lt {n i : Nat} (hi : i < 64) (h : cnt n ≤ i) : n < 311 := by
  by_cases hn : n < 311
  · exact hn
  · have := cnt_mono (m := 311) (n := n) (by omega)
    rw [cnt_311] at this; omega
end Go.Sh
