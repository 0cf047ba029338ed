/- The document's primes and constants: plain laws. Conditions: those that each theorem states. -/
import Derived.Test.YtelkjcigdhgcoaaH3
set_option linter.unusedVariables false
set_option linter.unusedSimpArgs false
namespace Go.Sh
open Go.Vc
theorem nat64 {k : Nat} (h : k < 18446744073709551616) : (UInt64.ofNat k).toNat = k := by simp; omega
theorem sq_bd {k m : Nat} (h : k * k ≤ m) (hm : m < 324) : k < 18 := by
  by_cases hk : k < 18
  · exact hk
  · have := Nat.mul_le_mul (show 18 ≤ k by omega) (show 18 ≤ k by omega); omega
theorem sq_le {k m : Nat} (hk : k < 100) (hm : m < 1000) : (UInt64.ofNat k * UInt64.ofNat k ≤ UInt64.ofNat m) ↔ k * k ≤ m := by
  have h1 : k * k ≤ 100 * 100 := Nat.mul_le_mul (by omega) (by omega)
  rw [UInt64.le_iff_toNat_le, UInt64.toNat_mul, nat64 (by omega), nat64 (by omega), Nat.mod_eq_of_lt (by omega)]
theorem rem_nat {n k : Nat} (hn : n < 1000) (hk : k < 100) : decide (UInt64.ofNat n % UInt64.ofNat k ≠ 0) = decide (n % k ≠ 0) := by
  have e : (UInt64.ofNat n % UInt64.ofNat k).toNat = n % k := by rw [UInt64.toNat_mod, nat64 (by omega), nat64 (by omega)]
  have : (UInt64.ofNat n % UInt64.ofNat k = 0) ↔ n % k = 0 := by
    rw [← UInt64.toNat_inj, e]; rfl
  simp only [ne_eq, this]
theorem nz64 {k : Nat} (h : 2 ≤ k) (hk : k < 100) : UInt64.ofNat k ≠ 0 := by
  intro e
  have := congrArg UInt64.toNat e
  rw [nat64 (by omega)] at this
  have h0 : (0 : UInt64).toNat = 0 := rfl
  omega
theorem isK_t {n k : Nat} (hn : n < 1000) (hk : k < 100) (h2 : 2 ≤ k) (h : isK n k = true) : decide (UInt64.ofNat n % UInt64.ofNat k ≠ 0) = isK n (k + 1) := by
  rw [isK_succ h2, h, rem_nat hn hk, Bool.true_and]
theorem isK_f {n k : Nat} (h2 : 2 ≤ k) (h : isK n k = false) : false = isK n (k + 1) := by rw [isK_succ h2, h]; rfl
theorem isK_end {n k : Nat} (h1 : 2 ≤ n) (hn : n < 312) (h2 : 2 ≤ k) (hk : k < 20) (h3 : k = 2 ∨ (k - 1) * (k - 1) ≤ n) (h4 : ¬ k * k ≤ n) : isK n k = isP n := isK_all n hn k hk ⟨h1, h2, h3, by omega⟩
theorem cnt_yes {q : Nat} (h1 : 1 ≤ q) (h : q < 311) (hp : isP (q + 1) = true) : cnt (q + 1) = cnt q + 1 ∧ primeL.getD (cnt q) 0 = UInt64.ofNat (q + 1) := by
  have := cnt_step q h h1
  rw [if_pos hp] at this
  exact ⟨this.1, by rw [← this.2]; simp⟩
theorem cnt_no {q : Nat} (h1 : 1 ≤ q) (h : q < 311) (hp : isP (q + 1) = false) : cnt (q + 1) = cnt q := by
  have := cnt_step q h h1
  rwa [hp] at this
theorem k_snoc {k : Nat} (h : k < 64) : kL.take k ++ ([kAt (k : Int)] : List UInt32) = kL.take (k + 1) := by
  rw [kAt_nat h, take_snoc kL k 0 (by rw [kL_len]; exact h)]
end Go.Sh
