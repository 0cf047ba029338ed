/- Products of bytes: plain laws. Conditions: those that each theorem states. -/
import Derived.Test.YtelkjcigdhgcoaaVcV
set_option linter.unusedVariables false
set_option linter.unusedSimpArgs false
namespace Go.Ax
open Go.Vc
def bit (b : UInt8) (i : UInt8) : UInt8 := (b >>> i) &&& 1
def dbl (a : UInt8) : UInt8 := shl8 a 1 ^^^ (shr8 a 7 * 27)
def tmN : Nat → UInt8 → UInt8 → UInt8 → UInt8
  | 0, _, _, n => n
  | k + 1, a, b, n => tmN k (dbl a) (shr8 b 1) (n ^^^ ((b &&& 1) * a))
def tm (a b : UInt8) : UInt8 := tmN 8 a b 0
theorem all8 {p : UInt8 → Prop} (h : ∀ n : Nat, n < 256 → p (UInt8.ofNat n)) (x : UInt8) : p x := by
  have := h x.toNat x.toNat_lt
  simpa using this
theorem bits8 : ∀ x : UInt8, x = (x &&& 1) ^^^ (x &&& 2) ^^^ (x &&& 4) ^^^ (x &&& 8) ^^^ (x &&& 16) ^^^ (x &&& 32) ^^^ (x &&& 64) ^^^ (x &&& 128) := all8 (by decide +kernel)
theorem bit0 : ∀ x : UInt8, x &&& 1 = 0 ∨ x &&& 1 = 1 := all8 (by decide +kernel)
theorem bit1 : ∀ x : UInt8, x &&& 2 = 0 ∨ x &&& 2 = 2 := all8 (by decide +kernel)
theorem bit2 : ∀ x : UInt8, x &&& 4 = 0 ∨ x &&& 4 = 4 := all8 (by decide +kernel)
theorem bit3 : ∀ x : UInt8, x &&& 8 = 0 ∨ x &&& 8 = 8 := all8 (by decide +kernel)
theorem bit4 : ∀ x : UInt8, x &&& 16 = 0 ∨ x &&& 16 = 16 := all8 (by decide +kernel)
theorem bit5 : ∀ x : UInt8, x &&& 32 = 0 ∨ x &&& 32 = 32 := all8 (by decide +kernel)
theorem bit6 : ∀ x : UInt8, x &&& 64 = 0 ∨ x &&& 64 = 64 := all8 (by decide +kernel)
theorem bit7 : ∀ x : UInt8, x &&& 128 = 0 ∨ x &&& 128 = 128 := all8 (by decide +kernel)
/-- what holds of no bits, of each bit, and of what is put together, holds of all bytes -/
theorem bits_ind {p : UInt8 → Prop} (h0 : p 0) (hx : ∀ x y, p x → p y → p (x ^^^ y)) (hb : ∀ i : Nat, i < 8 → p (UInt8.ofNat (2 ^ i))) (x : UInt8) : p x := by
  have q : ∀ (y : UInt8) (i : Nat), i < 8 → y = 0 ∨ y = UInt8.ofNat (2 ^ i) → p y := fun y i hi h => h.elim (fun e => e ▸ h0) (fun e => e ▸ hb i hi)
  rw [bits8 x]
  exact hx _ _ (hx _ _ (hx _ _ (hx _ _ (hx _ _ (hx _ _ (hx _ _ (q _ 0 (by omega) (bit0 x)) (q _ 1 (by omega) (bit1 x))) (q _ 2 (by omega) (bit2 x))) (q _ 3 (by omega) (bit3 x))) (q _ 4 (by omega) (bit4 x))) (q _ 5 (by omega) (bit5 x))) (q _ 6 (by omega) (bit6 x))) (q _ 7 (by omega) (bit7 x))
theorem xor_shuffle (a b c d : UInt8) : (a ^^^ b) ^^^ (c ^^^ d) = (a ^^^ c) ^^^ (b ^^^ d) := by
  rw [UInt8.xor_assoc, UInt8.xor_assoc, ← UInt8.xor_assoc b, ← UInt8.xor_assoc c, UInt8.xor_comm b c]
theorem and_mul_xor {x y a : UInt8} (hx : x = 0 ∨ x = 1) (hy : y = 0 ∨ y = 1) : (x ^^^ y) * a = x * a ^^^ y * a := by
  rcases hx with rfl | rfl <;> rcases hy with rfl | rfl <;> simp
theorem mul_xor {x a b : UInt8} (hx : x = 0 ∨ x = 1) : x * (a ^^^ b) = x * a ^^^ x * b := by
  rcases hx with rfl | rfl <;> simp
theorem xor_and (a b c : UInt8) : (a ^^^ b) &&& c = (a &&& c) ^^^ (b &&& c) := by
  apply UInt8.toBitVec_inj.1
  simp only [UInt8.toBitVec_and, UInt8.toBitVec_xor]
  ext i hi
  simp only [BitVec.getElem_and, BitVec.getElem_xor]
  cases a.toBitVec[i] <;> cases b.toBitVec[i] <;> cases c.toBitVec[i] <;> rfl
theorem shr7 : ∀ x : UInt8, shr8 x 7 = 0 ∨ shr8 x 7 = 1 := all8 (by decide +kernel)
theorem shr8_eq {k : Nat} (hk : k < 8) (x : UInt8) : shr8 x k = x >>> UInt8.ofNat k := by
  have h : ∀ k, k < 8 → ∀ n, n < 256 → shr8 (UInt8.ofNat n) k = UInt8.ofNat n >>> UInt8.ofNat k := by decide +kernel
  exact all8 (p := fun x => shr8 x k = x >>> UInt8.ofNat k) (h k hk) x
theorem shr8_xor {k : Nat} (hk : k < 8) (a b : UInt8) : shr8 (a ^^^ b) k = shr8 a k ^^^ shr8 b k := by
  rw [shr8_eq hk, shr8_eq hk, shr8_eq hk]; exact UInt8.shiftRight_xor ..
theorem shl1_eq : ∀ x : UInt8, shl8 x 1 = x <<< 1 := all8 (by decide +kernel)
theorem shl1_xor (a b : UInt8) : shl8 (a ^^^ b) 1 = shl8 a 1 ^^^ shl8 b 1 := by
  rw [shl1_eq, shl1_eq, shl1_eq]; exact UInt8.shiftLeft_xor ..
theorem dbl_xor (a b : UInt8) : dbl (a ^^^ b) = dbl a ^^^ dbl b := by
  rw [dbl, shl1_xor, shr8_xor (by decide), and_mul_xor (shr7 a) (shr7 b), dbl, dbl, xor_shuffle]
theorem tmN_b : ∀ (k : Nat) (a b c m n : UInt8), tmN k a (b ^^^ c) (m ^^^ n) = tmN k a b m ^^^ tmN k a c n
  | 0, _, _, _, _, _ => rfl
  | k + 1, a, b, c, m, n => by
    rw [tmN, tmN, tmN, shr8_xor (by decide), xor_and, and_mul_xor (bit0 b) (bit0 c), xor_shuffle, tmN_b k]
theorem tmN_a : ∀ (k : Nat) (a b c m n : UInt8), tmN k (a ^^^ b) c (m ^^^ n) = tmN k a c m ^^^ tmN k b c n
  | 0, _, _, _, _, _ => rfl
  | k + 1, a, b, c, m, n => by
    rw [tmN, tmN, tmN, dbl_xor, mul_xor (bit0 c), xor_shuffle, tmN_a k]
theorem tm_b (a b c : UInt8) : tm a (b ^^^ c) = tm a b ^^^ tm a c := by
  have := tmN_b 8 a b c 0 0
  simpa [tm] using this
theorem tm_a (a b c : UInt8) : tm (a ^^^ b) c = tm a c ^^^ tm b c := by
  have := tmN_a 8 a b c 0 0
  simpa [tm] using this
theorem tm_0 : ∀ a : UInt8, tm a 0 = 0 := all8 (by decide +kernel)
theorem tm_0' : ∀ a : UInt8, tm 0 a = 0 := all8 (by decide +kernel)
theorem tm_1 : ∀ a : UInt8, tm a 1 = a := all8 (by decide +kernel)
theorem tm_comm (a b : UInt8) : tm a b = tm b a := by
  refine bits_ind (p := fun a => tm a b = tm b a) ((tm_0' b).trans (tm_0 b).symm) (fun x y hx hy => by rw [tm_a, tm_b, hx, hy]) (fun i hi => ?_) a
  refine bits_ind (p := fun b => tm (UInt8.ofNat (2 ^ i)) b = tm b (UInt8.ofNat (2 ^ i))) ((tm_0 _).trans (tm_0' _).symm) (fun x y hx hy => by rw [tm_a, tm_b, hx, hy]) (fun j hj => ?_) b
  have : ∀ i, i < 8 → ∀ j, j < 8 → tm (UInt8.ofNat (2 ^ i)) (UInt8.ofNat (2 ^ j)) = tm (UInt8.ofNat (2 ^ j)) (UInt8.ofNat (2 ^ i)) := by decide +kernel
  exact this i hi j hj
theorem tm_assoc (a b c : UInt8) : tm (tm a b) c = tm a (tm b c) := by
  refine bits_ind (p := fun a => tm (tm a b) c = tm a (tm b c)) (by rw [tm_0', tm_0', tm_0']) (fun x y hx hy => by rw [tm_a, tm_a, tm_a, hx, hy]) (fun i hi => ?_) a
  refine bits_ind (p := fun b => tm (tm (UInt8.ofNat (2 ^ i)) b) c = tm (UInt8.ofNat (2 ^ i)) (tm b c)) (by rw [tm_0, tm_0', tm_0]) (fun x y hx hy => by rw [tm_b, tm_a, tm_a, tm_b, hx, hy]) (fun j hj => ?_) b
  refine bits_ind (p := fun c => tm (tm (UInt8.ofNat (2 ^ i)) (UInt8.ofNat (2 ^ j))) c = tm (UInt8.ofNat (2 ^ i)) (tm (UInt8.ofNat (2 ^ j)) c)) (by rw [tm_0, tm_0, tm_0]) (fun x y hx hy => by rw [tm_b, tm_b, tm_b, hx, hy]) (fun k hk => ?_) c
  have : ∀ i, i < 8 → ∀ j, j < 8 → ∀ k, k < 8 → tm (tm (UInt8.ofNat (2 ^ i)) (UInt8.ofNat (2 ^ j))) (UInt8.ofNat (2 ^ k)) = tm (UInt8.ofNat (2 ^ i)) (tm (UInt8.ofNat (2 ^ j)) (UInt8.ofNat (2 ^ k))) := by decide +kernel
  exact this i hi j hj k hk
/-! the product by polynomials -/
def rtA (a b : UInt8) : Nat → Nat
  | 0 => 0
  | k + 1 => if shr8 b k % 2 = 1 then rtA a b k ^^^ (a.toNat * 2 ^ k) else rtA a b k
def rtB (n : Nat) : Nat → Nat
  | 0 => n
  | j + 1 => if rtB n j / 2 ^ (14 - j) % 2 = 1 then rtB n j ^^^ (283 * 2 ^ (14 - j - 8)) else rtB n j
def rt (a b : UInt8) : UInt8 := UInt8.ofNat (rtB (rtA a b 8) 7)
theorem rtA_lt (a b : UInt8) : ∀ k, k ≤ 8 → rtA a b k < 2 ^ 15
  | 0, _ => by rw [rtA]; omega
  | k + 1, h => by
    have ih := rtA_lt a b k (by omega)
    have ha := a.toNat_lt
    have hk : 2 ^ k ≤ 2 ^ 7 := Nat.pow_le_pow_right (by omega) (by omega)
    have : a.toNat * 2 ^ k < 2 ^ 15 := by
      have : a.toNat * 2 ^ k ≤ 255 * 2 ^ 7 := Nat.mul_le_mul (by omega) hk
      omega
    rw [rtA]; split
    · exact Nat.xor_lt_two_pow ih this
    · exact ih
theorem rtB_lt {n : Nat} (hn : n < 2 ^ 15) : ∀ j, j ≤ 7 → rtB n j < 2 ^ 15
  | 0, _ => hn
  | j + 1, h => by
    have ih := rtB_lt hn j (by omega)
    have hk : 2 ^ (14 - j - 8) ≤ 2 ^ 6 := Nat.pow_le_pow_right (by omega) (by omega)
    have : 283 * 2 ^ (14 - j - 8) < 2 ^ 15 := by omega
    rw [rtB]; split
    · exact Nat.xor_lt_two_pow ih this
    · exact ih
theorem bit_of {k : Nat} (hk : k < 8) (x : UInt8) : shr8 x k % 2 = (x >>> UInt8.ofNat k) &&& 1 := by
  have h : ∀ k, k < 8 → ∀ n, n < 256 → shr8 (UInt8.ofNat n) k % 2 = (UInt8.ofNat n >>> UInt8.ofNat k) &&& 1 := by decide +kernel
  exact all8 (p := fun x => shr8 x k % 2 = (x >>> UInt8.ofNat k) &&& 1) (h k hk) x
theorem bit_xor {k : Nat} (hk : k < 8) (a b : UInt8) : shr8 (a ^^^ b) k % 2 = (shr8 a k % 2) ^^^ (shr8 b k % 2) := by
  have h2 : (a ^^^ b) >>> UInt8.ofNat k = a >>> UInt8.ofNat k ^^^ b >>> UInt8.ofNat k := UInt8.shiftRight_xor ..
  rw [bit_of hk, bit_of hk, bit_of hk, h2, xor_and]
theorem bit_01 {k : Nat} (hk : k < 8) (x : UInt8) : shr8 x k % 2 = 0 ∨ shr8 x k % 2 = 1 := by rw [bit_of hk]; exact bit0 _
theorem nxor4 (m n u v : Nat) : (m ^^^ n) ^^^ (u ^^^ v) = (m ^^^ u) ^^^ (n ^^^ v) := by
  rw [Nat.xor_assoc, Nat.xor_assoc, ← Nat.xor_assoc n, ← Nat.xor_assoc u, Nat.xor_comm n u]
theorem if_xor {p q : UInt8} (hp : p = 0 ∨ p = 1) (hq : q = 0 ∨ q = 1) (m n v : Nat) : (if p ^^^ q = 1 then (m ^^^ n) ^^^ v else m ^^^ n) = (if p = 1 then m ^^^ v else m) ^^^ (if q = 1 then n ^^^ v else n) := by
  rcases hp with rfl | rfl <;> rcases hq with rfl | rfl
  · simp
  · simp [Nat.xor_assoc]
  · simp [Nat.xor_assoc, Nat.xor_comm n v]
  · simp only [UInt8.xor_self]
    rw [if_neg (by decide), if_pos trivial, if_pos trivial, nxor4, Nat.xor_self, Nat.xor_zero]
theorem rtA_b (a b c : UInt8) : ∀ k, k ≤ 8 → rtA a (b ^^^ c) k = rtA a b k ^^^ rtA a c k
  | 0, _ => (Nat.xor_self 0).symm
  | k + 1, h => by
    rw [rtA, rtA, rtA, rtA_b a b c k (by omega), bit_xor (by omega), if_xor (bit_01 (by omega) b) (bit_01 (by omega) c)]
theorem rtA_a (a c b : UInt8) : ∀ k, k ≤ 8 → rtA (a ^^^ c) b k = rtA a b k ^^^ rtA c b k
  | 0, _ => (Nat.xor_self 0).symm
  | k + 1, h => by
    have e : (a ^^^ c).toNat * 2 ^ k = (a.toNat * 2 ^ k) ^^^ (c.toNat * 2 ^ k) := by
      rw [UInt8.toNat_xor, ← Nat.shiftLeft_eq, ← Nat.shiftLeft_eq, ← Nat.shiftLeft_eq, Nat.shiftLeft_xor_distrib]
    rw [rtA, rtA, rtA, rtA_a a c b k (by omega), e]
    split
    · exact nxor4 ..
    · rfl
theorem rtB_xor (m n : Nat) : ∀ j, rtB (m ^^^ n) j = rtB m j ^^^ rtB n j
  | 0 => rfl
  | j + 1 => by
    have tb : ∀ x i : Nat, (x / 2 ^ i % 2 = 1) ↔ x.testBit i = true := fun x i => by rw [Nat.testBit_eq_decide_div_mod_eq, decide_eq_true_eq]
    rw [rtB, rtB, rtB, rtB_xor m n j]
    simp only [tb, Nat.testBit_xor]
    cases (rtB m j).testBit (14 - j) <;> cases (rtB n j).testBit (14 - j)
    · simp
    · simp [Nat.xor_assoc]
    · simp [Nat.xor_assoc, Nat.xor_comm (rtB n j)]
    · simp only [Bool.xor_self, if_true]
      rw [nxor4, Nat.xor_self, Nat.xor_zero]; simp
theorem of_xor (m n : Nat) : UInt8.ofNat (m ^^^ n) = UInt8.ofNat m ^^^ UInt8.ofNat n := by
  apply UInt8.toNat_inj.1
  rw [UInt8.toNat_xor]
  simp only [UInt8.toNat_ofNat']
  exact Nat.xor_mod_two_pow (n := 8)
theorem rt_b (a b c : UInt8) : rt a (b ^^^ c) = rt a b ^^^ rt a c := by rw [rt, rt, rt, rtA_b a b c 8 (by omega), rtB_xor, of_xor]
theorem rt_a (a c b : UInt8) : rt (a ^^^ c) b = rt a b ^^^ rt c b := by rw [rt, rt, rt, rtA_a a c b 8 (by omega), rtB_xor, of_xor]
theorem rt_0 : ∀ a : UInt8, rt a 0 = 0 := all8 (by decide +kernel)
theorem rt_0' : ∀ a : UInt8, rt 0 a = 0 := all8 (by decide +kernel)
theorem rt_tm (a b : UInt8) : rt a b = tm a b := by
  refine bits_ind (p := fun a => rt a b = tm a b) (by rw [rt_0', tm_0']) (fun x y hx hy => by rw [rt_a, tm_a, hx, hy]) (fun i hi => ?_) a
  refine bits_ind (p := fun b => rt (UInt8.ofNat (2 ^ i)) b = tm (UInt8.ofNat (2 ^ i)) b) (by rw [rt_0, tm_0]) (fun x y hx hy => by rw [rt_b, tm_b, hx, hy]) (fun j hj => ?_) b
  have : ∀ i, i < 8 → ∀ j, j < 8 → rt (UInt8.ofNat (2 ^ i)) (UInt8.ofNat (2 ^ j)) = tm (UInt8.ofNat (2 ^ i)) (UInt8.ofNat (2 ^ j)) := by decide +kernel
  exact this i hi j hj
end Go.Ax
