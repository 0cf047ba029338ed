/- Words and bytes of digests: plain laws. Conditions: those that each theorem states. -/
import Derived.Test.YtelkjcigdhgcoaaH1
set_option linter.unusedVariables false
set_option linter.unusedSimpArgs false
namespace Go.Sh
open Go.Vc
theorem leN_get : ∀ (n x i : Nat), i < n → (leN n x).getD i 0 = UInt8.ofNat (x / 256 ^ i)
  | 0, _, _, h => by omega
  | n + 1, x, i, h => by
    rw [leN_snoc]
    have hl : (leN n x).length = n := leN_len ..
    by_cases e : i < n
    · have := leN_get n x i e
      simp only [List.getD_eq_getElem?_getD] at this ⊢
      rw [List.getElem?_append_left (by omega), this]
    · have : i = n := by omega
      subst this
      simp [List.getD_eq_getElem?_getD, List.getElem?_append, hl]
theorem rev_get {l : List UInt8} {i n : Nat} (hl : l.length = n) (hi : i < n) : l.reverse.getD i 0 = l.getD (n - 1 - i) 0 := by
  have h2 : n - 1 - i < l.length := by omega
  rw [List.getD_eq_getElem?_getD, List.getD_eq_getElem?_getD, List.getElem?_eq_getElem h2, List.getElem?_eq_getElem (show i < l.reverse.length by rw [List.length_reverse]; omega), List.getElem_reverse]
  simp only [Option.getD_some]
  congr 1; omega
theorem be4_get {x : UInt32} {j : Nat} (hj : j < 4) : ((leN 4 x.toNat).reverse).getD j 0 = UInt8.ofNat (shr32 x (24 - 8 * j)).toNat := by
  have hx := x.toNat_lt
  rw [rev_get (leN_len ..) hj, leN_get _ _ _ (by omega), shr32]
  have h1 : x.toNat / 2 ^ (24 - 8 * j) ≤ x.toNat := Nat.div_le_self _ _
  have h2 : (UInt32.ofNat (x.toNat / 2 ^ (24 - 8 * j))).toNat = x.toNat / 2 ^ (24 - 8 * j) := by simp; omega
  rw [h2, pow256, show 8 * (4 - 1 - j) = 24 - 8 * j by omega]
theorem be8_get {x : UInt64} {j : Nat} (hj : j < 8) : ((leN 8 x.toNat).reverse).getD j 0 = UInt8.ofNat (shr64 x (8 * (7 - j))).toNat := by
  have hx := x.toNat_lt
  rw [rev_get (leN_len ..) hj, leN_get _ _ _ (by omega), shr64]
  have h1 : x.toNat / 2 ^ (8 * (7 - j)) ≤ x.toNat := Nat.div_le_self _ _
  have h2 : (UInt64.ofNat (x.toNat / 2 ^ (8 * (7 - j)))).toNat = x.toNat / 2 ^ (8 * (7 - j)) := by simp; omega
  rw [h2, pow256, show 8 * (8 - 1 - j) = 8 * (7 - j) by omega]
theorem fours {l : List UInt8} {i : Nat} (h : i + 4 ≤ l.length) : (l.drop i).take 4 = [l.getD i 0, l.getD (i + 1) 0, l.getD (i + 2) 0, l.getD (i + 3) 0] := by
  have h0 : i < l.length := by omega
  have h1 : i + 1 < l.length := by omega
  have h2 : i + 2 < l.length := by omega
  have h3 : i + 3 < l.length := by omega
  rw [List.drop_eq_getElem_cons h0, List.drop_eq_getElem_cons h1, List.drop_eq_getElem_cons (show i + 1 + 1 < l.length by omega), List.drop_eq_getElem_cons (show i + 1 + 1 + 1 < l.length by omega)]
  simp only [List.take_succ_cons, List.take_zero]
  simp [List.getD_eq_getElem?_getD, h0, h1, h2, h3]
theorem be_nat (a b c d : UInt8) : natLE [a, b, c, d] = a.toNat + 256 * b.toNat + 65536 * c.toNat + 16777216 * d.toNat := by
  simp only [natLE]; omega
theorem wrd_sum {l : List UInt8} {i : Nat} (h : 4 * i + 4 ≤ l.length) :
    shl32 (UInt32.ofNat (l.getD (4 * i) 0).toNat) 24 + shl32 (UInt32.ofNat (l.getD (4 * i + 1) 0).toNat) 16 + shl32 (UInt32.ofNat (l.getD (4 * i + 2) 0).toNat) 8 + UInt32.ofNat (l.getD (4 * i + 3) 0).toNat = wrd l i := by
  rw [wrd, fours h]
  show _ = UInt32.ofNat (natLE [l.getD (4 * i + 3) 0, l.getD (4 * i + 2) 0, l.getD (4 * i + 1) 0, l.getD (4 * i) 0])
  rw [be_nat]
  generalize l.getD (4 * i) 0 = a
  generalize l.getD (4 * i + 1) 0 = b
  generalize l.getD (4 * i + 2) 0 = c
  generalize l.getD (4 * i + 3) 0 = d
  have ha := a.toNat_lt
  have hb := b.toNat_lt
  have hc := c.toNat_lt
  have hd := d.toNat_lt
  have e : ∀ n : Nat, n < 256 → (UInt32.ofNat n).toNat = n := fun n hn => by simp; omega
  simp only [shl32, e _ ha, e _ hb, e _ hc]
  apply UInt32.toNat_inj.1
  simp only [UInt32.toNat_add, UInt32.toNat_ofNat']
  omega
theorem wrd_get {l : List UInt8} {i : Nat} (h : 4 * i + 4 ≤ l.length) {k : Nat} (hk : k = 4) : UInt32.ofNat (UInt64.ofNat (natLE (((l.drop (4 * i)).take k).reverse))).toNat = wrd l i := by
  subst hk
  have hl : ((l.drop (4 * i)).take 4).reverse.length = 4 := by rw [List.length_reverse, List.length_take, List.length_drop]; omega
  have h1 := natLE_lt ((l.drop (4 * i)).take 4).reverse
  rw [hl] at h1
  have h3 : (256 : Nat) ^ 4 = 4294967296 := by decide
  have h2 : (UInt64.ofNat (natLE ((l.drop (4 * i)).take 4).reverse)).toNat = natLE ((l.drop (4 * i)).take 4).reverse := by simp; omega
  rw [h2, wrd]
/-- the digest, word by word -/
theorem dig_word {h : List UInt32} {i : Nat} (hi : i < 8) : ((digL h).drop (4 * i)).take 4 = (leN 4 (h.getD i 0).toNat).reverse := by
  have hl := digL_len h
  have hr : ((leN 4 (h.getD i 0).toNat).reverse).length = 4 := by rw [List.length_reverse, leN_len]
  have e : ∀ j, j < 4 → (digL h).getD (4 * i + j) 0 = ((leN 4 (h.getD i 0).toNat).reverse).getD j 0 := fun j hj => by
    rw [digL_get (by omega), be4_get hj, show (4 * i + j) / 4 = i by omega, show (4 * i + j) % 4 = j by omega]
  rw [fours (by omega)]
  have e0 := e 0 (by omega)
  rw [Nat.add_zero] at e0
  rw [e0, e 1 (by omega), e 2 (by omega), e 3 (by omega)]
  have := fours (l := (leN 4 (h.getD i 0).toNat).reverse) (i := 0) (by omega)
  rw [List.drop_zero, List.take_of_length_le (by omega)] at this
  rw [← this]
end Go.Sh
