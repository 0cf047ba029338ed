/- Packed lists: contracts. Conditions: those that each theorem states. -/
import Derived.Test.YtbldmljbfokobaaT2
namespace Go.Proofs.Ytbldmljbfokobaa
open Go.Vc Go.RowKit
set_option linter.unusedVariables false
set_option linter.unusedSimpArgs false
set_option maxRecDepth 20000

theorem all_get {ls : List (List UInt8)} (h : ls.all Go.Wr.small = true) {k : Nat} (hk : k < ls.length) : (ls.getD k []).length ≤ 65536 := by
  have := List.all_eq_true.1 h (ls.getD k []) (by simp [hk])
  simpa [Go.Wr.small] using this
theorem all_of {ls : List (List UInt8)} (h : ∀ k, k < ls.length → (ls.getD k []).length ≤ 65536) : ls.all Go.Wr.small = true := by
  rw [List.all_eq_true]
  intro x hx
  obtain ⟨k, hk, rfl⟩ := List.getElem_of_mem hx
  have := h k hk
  simp [hk] at this
  simp [Go.Wr.small, this]
theorem pk_lt {n : Nat} (h : n ≤ 65536) : (UInt64.ofNat n).toNat < 256 ^ 4 := by
  have : (UInt64.ofNat n).toNat = n := by simp; omega
  rw [this]; exact Nat.lt_of_le_of_lt h (by decide)
theorem pk_snoc {ls : List (List UInt8)} {k m : Nat} (hk : k < ls.length) (hm : (ls.getD k []).length = m) (h : m ≤ 65536) : (Go.Wr.packL (ls.take k) ++ leN 4 (UInt64.ofNat m).toNat) ++ ls.getD k [] = Go.Wr.packL (ls.take (k + 1)) := by
  have : (UInt64.ofNat m).toNat = m := by simp; omega
  rw [this, Go.Wr.packL_snoc hk, Go.Wr.pk1, hm, List.append_assoc]
theorem pk_bound {ls : List (List UInt8)} (h : ls.all Go.Wr.small = true) : ∀ k, k ≤ ls.length → (Go.Wr.packL (ls.take k)).length ≤ 65540 * k
  | 0, _ => by simp [Go.Wr.packL]
  | k + 1, hk => by
    have h1 := pk_bound h k (by omega)
    have h2 := all_get h (k := k) (by omega)
    rw [Go.Wr.packL_snoc (by omega), List.length_append, Go.Wr.pk1, List.length_append, leN_len]
    omega
theorem mp_all {ls : List (List UInt8)} (h : Go.Wr.mayPack ls = true) : ls.all Go.Wr.small = true ∧ ls.length ≤ 64 := by
  simpa [Go.Wr.mayPack] using h
def nonneg (x : Int) : Bool := decide (0 ≤ x)
theorem zall_get {zs : List Int} (h : zs.all nonneg = true) {k : Nat} (hk : k < zs.length) : 0 ≤ zs.getD k 0 := by
  have := List.all_eq_true.1 h (zs.getD k 0) (by simp [hk])
  simpa [nonneg] using this
theorem zall_of {zs : List Int} (h : ∀ k, k < zs.length → 0 ≤ zs.getD k 0) : zs.all nonneg = true := by
  rw [List.all_eq_true]
  intro x hx
  obtain ⟨k, hk, rfl⟩ := List.getElem_of_mem hx
  have := h k hk
  simp [hk] at this
  simp [nonneg, this]
end Go.Proofs.Ytbldmljbfokobaa
