/- The digest's constants, reckoned: plain laws. Conditions: those that each theorem states. -/
import Derived.Test.YtelkjcigdhgcoaaH2
import Derived.Test.YtelkjcigdhgcoaaVcR
set_option linter.unusedVariables false
set_option linter.unusedSimpArgs false
namespace Go.Sh
open Go.Vc
/-- the upper word of a product -/
def mulHi (x y : UInt64) : UInt64 := shr64 x 32 * shr64 y 32 + shr64 (shr64 x 32 * (y &&& 4294967295) + shr64 ((x &&& 4294967295) * (y &&& 4294967295)) 32) 32 + shr64 ((shr64 x 32 * (y &&& 4294967295) + shr64 ((x &&& 4294967295) * (y &&& 4294967295)) 32 &&& 4294967295) + (x &&& 4294967295) * shr64 y 32) 32
def aboveF (a b : UInt64) (lost : Bool) (p : UInt64) : Bool := decide (a > p) || (decide (a = p) && (decide (b > 0) || lost))
def cubM (x : UInt64) : UInt64 := mulHi (x * x) x
def cubN (x : UInt64) : UInt64 := mulHi x x * x
def cubA (x : UInt64) : UInt64 := shl64 (mulHi (mulHi x x) x + cry (cubN x) (cubM x)) 32 ||| shr64 (cubN x + cubM x) 32
def cubB (x : UInt64) : UInt64 := shl64 (cubN x + cubM x) 32 ||| shr64 (x * x * x) 32
def cubX (x : UInt64) : Bool := decide (shl64 (x * x * x) 32 ≠ 0)
def fC (p x : UInt64) : Bool := aboveF (cubA x) (cubB x) (cubX x) p
def fS (p x : UInt64) : Bool := aboveF (mulHi x x) (x * x) false p
def rtS (f : UInt64 → Bool) (b : Nat) (x : UInt64) : UInt64 := if f (x ||| shl64 1 (37 - b)) then x else x ||| shl64 1 (37 - b)
def rtF (f : UInt64 → Bool) : Nat → UInt64
  | 0 => 0
  | b + 1 => rtS f b (rtF f b)
def rootF (f : UInt64 → Bool) : UInt32 := UInt32.ofNat (rtF f 38).toNat
theorem rt_yes {f : UInt64 → Bool} {b : Nat} (h : f (rtF f b ||| shl64 1 (37 - b)) = true) : rtF f b = rtF f (b + 1) := by rw [rtF, rtS, if_pos h]
theorem rt_no {f : UInt64 → Bool} {b : Nat} (h : f (rtF f b ||| shl64 1 (37 - b)) = false) : rtF f b ||| shl64 1 (37 - b) = rtF f (b + 1) := by rw [rtF, rtS, h]; rfl
theorem tabK : ∀ i : Nat, i < 64 → rootF (fC (primeL.getD i 0)) = kL.getD i 0 := by decide +kernel
theorem tabH : ∀ i : Nat, i < 8 → rootF (fS (primeL.getD i 0)) = hL.getD i 0 := by decide +kernel
/-! the document's roots -/
def pow2 (x p : UInt64) : Bool := decide (mulHi x x < p) || (decide (mulHi x x = p) && decide (x * x = 0))
def pow3 (x p : UInt64) : Bool := if mulHi (mulHi x x) x + cry (cubM x) (cubN x) ≠ shr64 p 32 then decide (mulHi (mulHi x x) x + cry (cubM x) (cubN x) < shr64 p 32) else decide (cubM x + cubN x < shl64 p 32) || (decide (cubM x + cubN x = shl64 p 32) && decide (x * x * x = 0))
def rgS (f : UInt64 → Bool) (b : Nat) (x : UInt64) : UInt64 := if f (x + shl64 1 (37 - b)) then x + shl64 1 (37 - b) else x
def rgF (f : UInt64 → Bool) : Nat → UInt64
  | 0 => 0
  | b + 1 => rgS f b (rgF f b)
def rootR (f : UInt64 → Bool) : UInt32 := UInt32.ofNat (rgF f 38).toNat
theorem rg_yes {f : UInt64 → Bool} {b : Nat} (h : f (rgF f b + shl64 1 (37 - b)) = true) : rgF f b + shl64 1 (37 - b) = rgF f (b + 1) := by rw [rgF, rgS, if_pos h]
theorem rg_no {f : UInt64 → Bool} {b : Nat} (h : f (rgF f b + shl64 1 (37 - b)) = false) : rgF f b = rgF f (b + 1) := by rw [rgF, rgS, h]; rfl
theorem tabKR : ∀ i : Nat, i < 64 → rootR (fun x => pow3 x (primeL.getD i 0)) = kL.getD i 0 := by decide +kernel
theorem tabHR : ∀ i : Nat, i < 8 → rootR (fun x => pow2 x (primeL.getD i 0)) = hL.getD i 0 := by decide +kernel
/-- a constant, or none -/
def kAt (i : Int) : UInt32 := if i < 0 ∨ 63 < i then 0 else kL.getD i.toNat 0
def hAt (i : Int) : UInt32 := if i < 0 ∨ 7 < i then 0 else hL.getD i.toNat 0
theorem kAt_no {i : Int} (h : i < 0 ∨ 63 < i) : kAt i = 0 := if_pos h
theorem hAt_no {i : Int} (h : i < 0 ∨ 7 < i) : hAt i = 0 := if_pos h
theorem kAt_nat {i : Nat} (h : i < 64) : kAt (i : Int) = kL.getD i 0 := by rw [kAt, if_neg (by omega)]; rfl
theorem hAt_nat {i : Nat} (h : i < 8) : hAt (i : Int) = hL.getD i 0 := by rw [hAt, if_neg (by omega)]; rfl
theorem prime_lt : ∀ i : Nat, i < 64 → primeL.getD i 0 ≠ 0 := by decide +kernel
theorem prm_nz : ∀ m : Nat, m < 311 → (prm m).all (fun p => decide (p ≠ 0)) = true := by decide +kernel
theorem prm_ne {m i : Nat} (hm : m ≤ 310) (hi : i < (prm m).length) : (prm m).getD i 0 ≠ 0 := by
  have h := List.all_eq_true.1 (prm_nz m (by omega)) ((prm m).getD i 0) (by simp [hi])
  exact of_decide_eq_true h
theorem prm_yes {m : Nat} (h : (prm m).any (dvd (UInt64.ofNat (m + 2))) = true) : prm m = prm (m + 1) := by rw [prm, if_pos h]
theorem prm_no {m : Nat} (h : (prm m).any (dvd (UInt64.ofNat (m + 2))) = false) : prm m ++ ([UInt64.ofNat (m + 2)] : List UInt64) = prm (m + 1) := by rw [prm, h]; rfl
theorem any_t {zs : List UInt64} {x : UInt64} {k : Nat} (hk : k < zs.length) (h : dvd x (zs.getD k 0) = true) : zs.any (dvd x) = true := by
  rw [List.any_eq_true]
  refine ⟨zs.getD k 0, by simp [hk], h⟩
theorem any_f {zs : List UInt64} {x : UInt64} (h : ∀ k, k < zs.length → dvd x (zs.getD k 0) = false) : zs.any (dvd x) = false := by
  rw [List.any_eq_false]
  intro y hy
  obtain ⟨k, hk, rfl⟩ := List.getElem_of_mem hy
  have := h k hk
  simp [hk] at this
  simp [this]
end Go.Sh
