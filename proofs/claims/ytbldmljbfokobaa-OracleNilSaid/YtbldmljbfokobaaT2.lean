/- Texts: contracts. Conditions: those that each theorem states. -/
import Derived.Test.YtbldmljbfokobaaT1
import Derived.Test.YtbldmljbfokobaaVcO
namespace Go.Proofs.Ytbldmljbfokobaa
open Go.Vc Go.RowKit
set_option linter.unusedVariables false
set_option linter.unusedSimpArgs false
set_option maxRecDepth 20000

theorem u8all {p : UInt8 → Prop} (h : ∀ n : Nat, n < 256 → p (UInt8.ofNat n)) (x : UInt8) : p x := by
  have := h x.toNat x.toNat_lt
  simpa using this
theorem hx_hi : ∀ x : UInt8, (shr8 x 4).toNat < 16 := u8all (by decide +kernel)
theorem hx_lo : ∀ x : UInt8, (x &&& 15).toNat < 16 := u8all (by decide +kernel)
theorem hx_a : ∀ x : UInt8, ([48, 49, 50, 51, 52, 53, 54, 55, 56, 57, 97, 98, 99, 100, 101, 102] : List UInt8).getD (shr8 x 4).toNat 0 = Go.Wr.hdg (x / 16) := u8all (by decide +kernel)
theorem hx_b : ∀ x : UInt8, ([48, 49, 50, 51, 52, 53, 54, 55, 56, 57, 97, 98, 99, 100, 101, 102] : List UInt8).getD (x &&& 15).toNat 0 = Go.Wr.hdg (x % 16) := u8all (by decide +kernel)
theorem hx_step {bs : List UInt8} {k : Nat} (hk : k < bs.length) : (Go.Wr.hexL (bs.take k) ++ ([([48, 49, 50, 51, 52, 53, 54, 55, 56, 57, 97, 98, 99, 100, 101, 102] : List UInt8).getD (shr8 (bs.getD k 0) 4).toNat 0] : List UInt8)) ++ ([([48, 49, 50, 51, 52, 53, 54, 55, 56, 57, 97, 98, 99, 100, 101, 102] : List UInt8).getD (bs.getD k 0 &&& 15).toNat 0] : List UInt8) = Go.Wr.hexL (bs.take (k + 1)) := by
  rw [hx_a, hx_b, take_snoc bs k 0 hk, Go.Wr.hexL_app, List.append_assoc]; rfl
theorem hx_take {bs : List UInt8} {k : Nat} (hk : k ≤ bs.length) : (Go.Wr.hexL (bs.take k)).length = 2 * k := by rw [Go.Wr.hexL_len, List.length_take]; omega
def ixd (c : UInt8) : Int := if Go.Wr.dig c ≤ 15 then ((Go.Wr.dig c).toNat : Int) else -1
theorem ix_eq : ∀ c : UInt8, Go.Lib.indexByte ([48, 49, 50, 51, 52, 53, 54, 55, 56, 57, 97, 98, 99, 100, 101, 102] : List UInt8) c = ixd c := u8all (by decide +kernel)
theorem ix_ok {c : UInt8} (h : Go.Lib.indexByte ([48, 49, 50, 51, 52, 53, 54, 55, 56, 57, 97, 98, 99, 100, 101, 102] : List UInt8) c ≥ 0) : Go.Wr.dig c ≤ 15 ∧ Go.Lib.indexByte ([48, 49, 50, 51, 52, 53, 54, 55, 56, 57, 97, 98, 99, 100, 101, 102] : List UInt8) c = ((Go.Wr.dig c).toNat : Int) := by
  rw [ix_eq, ixd] at h ⊢
  by_cases hc : Go.Wr.dig c ≤ 15
  · exact ⟨hc, if_pos hc⟩
  · rw [if_neg hc] at h; omega
theorem ix_bad {c : UInt8} (h : ¬ Go.Lib.indexByte ([48, 49, 50, 51, 52, 53, 54, 55, 56, 57, 97, 98, 99, 100, 101, 102] : List UInt8) c ≥ 0) : ¬ Go.Wr.dig c ≤ 15 := by
  rw [ix_eq, ixd] at h
  intro hc
  rw [if_pos hc] at h; omega
theorem or_byte : ∀ m, m < 16 → ∀ n, n < 16 → UInt8.ofNat (m * 2 ^ 4 ||| n) = UInt8.ofNat m * 16 + UInt8.ofNat n := by decide +kernel
theorem or_dig {x y : UInt8} (hx : x ≤ 15) (hy : y ≤ 15) : UInt8.ofNat (x.toNat * 2 ^ 4 ||| y.toNat) = x * 16 + y := by
  have h1 : x.toNat ≤ 15 := UInt8.le_iff_toNat_le.1 hx
  have h2 : y.toNat ≤ 15 := UInt8.le_iff_toNat_le.1 hy
  have := or_byte x.toNat (by omega) y.toNat (by omega)
  simpa using this
theorem or_lt {x y : UInt8} : x.toNat * 2 ^ 4 < 9223372036854775808 := by have := x.toNat_lt; omega
theorem hg_ok {l : List UInt8} {k : Nat} (h1 : Go.Wr.dig (l.getD (2 * k) 0) ≤ 15) (h2 : Go.Wr.dig (l.getD (2 * k + 1) 0) ≤ 15) : Go.Wr.hg l k = true := by
  rw [Go.Wr.hg, decide_eq_true h1, decide_eq_true h2]; rfl
theorem hg_no {l : List UInt8} {k : Nat} (h : ¬ Go.Wr.dig (l.getD (2 * k) 0) ≤ 15 ∨ ¬ Go.Wr.dig (l.getD (2 * k + 1) 0) ≤ 15) : Go.Wr.hg l k = false := by
  rw [Go.Wr.hg]
  rcases h with h | h
  · rw [decide_eq_false h]; rfl
  · rw [decide_eq_false h, Bool.and_false]
theorem un_snoc {l : List UInt8} {k : Nat} (h1 : Go.Wr.dig (l.getD (2 * k) 0) ≤ 15) (h2 : Go.Wr.dig (l.getD (2 * k + 1) 0) ≤ 15) :
    Go.Wr.unhexL l k ++ ([UInt8.ofNat ((Go.Wr.dig (l.getD (2 * k) 0)).toNat * 2 ^ 4 ||| (Go.Wr.dig (l.getD (2 * k + 1) 0)).toNat)] : List UInt8) = Go.Wr.unhexL l (k + 1) := by
  rw [or_dig h1 h2, Go.Wr.unhexL_succ]; rfl
theorem un_snocR {l : List UInt8} {k : Nat} : Go.Wr.unhexL l k ++ ([Go.Wr.dig (l.getD (2 * k) 0) * 16 + Go.Wr.dig (l.getD (2 * k + 1) 0)] : List UInt8) = Go.Wr.unhexL l (k + 1) := by
  rw [Go.Wr.unhexL_succ]; rfl
theorem okHex_odd {l : List UInt8} {n : Nat} (hl : l.length = n) (h : ¬ n % 2 = 0) : Go.Wr.okHex l = false := by
  rw [Go.Wr.okHex, decide_eq_false (by rw [hl]; exact h), Bool.false_and]
end Go.Proofs.Ytbldmljbfokobaa
