/- Digests: plain laws. Conditions: those that each theorem states. -/
import Derived.Test.YtbldmljbfokobaaW2
set_option linter.unusedVariables false
set_option linter.unusedSimpArgs false
namespace Go.Sh
open Go.Vc
def primeL : List UInt64 := [2, 3, 5, 7, 11, 13, 17, 19, 23, 29, 31, 37, 41, 43, 47, 53, 59, 61, 67, 71, 73, 79, 83, 89, 97, 101, 103, 107, 109, 113, 127, 131, 137, 139, 149, 151, 157, 163, 167, 173, 179, 181, 191, 193, 197, 199, 211, 223, 227, 229, 233, 239, 241, 251, 257, 263, 269, 271, 277, 281, 283, 293, 307, 311]
def kL : List UInt32 := [1116352408, 1899447441, 3049323471, 3921009573, 961987163, 1508970993, 2453635748, 2870763221, 3624381080, 310598401, 607225278, 1426881987, 1925078388, 2162078206, 2614888103, 3248222580, 3835390401, 4022224774, 264347078, 604807628, 770255983, 1249150122, 1555081692, 1996064986, 2554220882, 2821834349, 2952996808, 3210313671, 3336571891, 3584528711, 113926993, 338241895, 666307205, 773529912, 1294757372, 1396182291, 1695183700, 1986661051, 2177026350, 2456956037, 2730485921, 2820302411, 3259730800, 3345764771, 3516065817, 3600352804, 4094571909, 275423344, 430227734, 506948616, 659060556, 883997877, 958139571, 1322822218, 1537002063, 1747873779, 1955562222, 2024104815, 2227730452, 2361852424, 2428436474, 2756734187, 3204031479, 3329325298]
def hL : List UInt32 := [1779033703, 3144134277, 1013904242, 2773480762, 1359893119, 2600822924, 528734635, 1541459225]
theorem primeL_len : primeL.length = 64 := rfl
theorem kL_len : kL.length = 64 := rfl
theorem hL_len : hL.length = 8 := rfl
def rot (x : UInt32) (k : Nat) : UInt32 := shl32 x (32 - k) ||| shr32 x k
def s0 (x : UInt32) : UInt32 := (rot x 7 ^^^ rot x 18) ^^^ shr32 x 3
def s1 (x : UInt32) : UInt32 := (rot x 17 ^^^ rot x 19) ^^^ shr32 x 10
def b0 (x : UInt32) : UInt32 := (rot x 2 ^^^ rot x 13) ^^^ rot x 22
def b1 (x : UInt32) : UInt32 := (rot x 6 ^^^ rot x 11) ^^^ rot x 25
def wrd (blk : List UInt8) (i : Nat) : UInt32 := UInt32.ofNat (natLE ((blk.drop (4 * i)).take 4).reverse)
def wNext (w : List UInt32) (i : Nat) : UInt32 := w.getD (i - 16) 0 + s0 (w.getD (i - 15) 0) + w.getD (i - 7) 0 + s1 (w.getD (i - 2) 0)
def wL (blk : List UInt8) : Nat → List UInt32
  | 0 => []
  | i + 1 => wL blk i ++ [if i < 16 then wrd blk i else wNext (wL blk i) i]
theorem wL_len (blk : List UInt8) : ∀ i, (wL blk i).length = i
  | 0 => rfl
  | i + 1 => by rw [wL, List.length_append, wL_len blk i]; rfl
theorem wL_get {blk : List UInt8} {i j : Nat} (h : j < i) : ∀ m, i ≤ m → (wL blk m).getD j 0 = (wL blk i).getD j 0
  | 0, hm => by omega
  | m + 1, hm => by
    by_cases e : i = m + 1
    · rw [e]
    · rw [wL, ← wL_get h m (by omega)]
      have hl := wL_len blk m
      simp [List.getD_eq_getElem?_getD, List.getElem?_append, hl, show j < m by omega]
/-- the words of a block -/
def W (blk : List UInt8) : List UInt32 := wL blk 64
theorem W_len (blk : List UInt8) : (W blk).length = 64 := wL_len blk 64
theorem W_lo {blk : List UInt8} {i : Nat} (h : i < 16) : (W blk).getD i 0 = wrd blk i := by
  rw [W, wL_get (i := i + 1) (by omega) 64 (by omega), wL, if_pos h]
  have hl := wL_len blk i
  simp [List.getD_eq_getElem?_getD, List.getElem?_append, hl]
theorem W_hi {blk : List UInt8} {i : Nat} (h : ¬ i < 16) (h2 : i < 64) : (W blk).getD i 0 = wNext (W blk) i := by
  have e : ∀ j, j < i → (wL blk i).getD j 0 = (W blk).getD j 0 := fun j hj => (wL_get hj 64 (by omega)).symm
  have hl := wL_len blk i
  rw [W, wL_get (i := i + 1) (by omega) 64 (by omega), wL, if_neg h]
  have : (wL blk i ++ [wNext (wL blk i) i]).getD i 0 = wNext (wL blk i) i := by simp [List.getD_eq_getElem?_getD, List.getElem?_append, hl]
  rw [this, wNext, wNext, e _ (by omega), e _ (by omega), e _ (by omega), e _ (by omega)]; rfl
theorem wL_lo {blk : List UInt8} {i : Nat} (h : i < 16) : wL blk i ++ [wrd blk i] = wL blk (i + 1) := by rw [wL, if_pos h]
theorem wL_hi {blk : List UInt8} {i : Nat} (h : ¬ i < 16) : wL blk i ++ [wNext (wL blk i) i] = wL blk (i + 1) := by rw [wL, if_neg h]
def rT (k w : UInt32) (s : List UInt32) : UInt32 := s.getD 7 0 + b1 (s.getD 4 0) + ((s.getD 4 0 &&& s.getD 5 0) ^^^ (~~~ (s.getD 4 0) &&& s.getD 6 0)) + k + w
def rU (s : List UInt32) : UInt32 := b0 (s.getD 0 0) + (((s.getD 0 0 &&& s.getD 1 0) ^^^ (s.getD 0 0 &&& s.getD 2 0)) ^^^ (s.getD 1 0 &&& s.getD 2 0))
def rnd (k w : UInt32) (s : List UInt32) : List UInt32 := [rT k w s + rU s, s.getD 0 0, s.getD 1 0, s.getD 2 0, s.getD 3 0 + rT k w s, s.getD 4 0, s.getD 5 0, s.getD 6 0]
def stN (K V h : List UInt32) : Nat → List UInt32
  | 0 => h
  | i + 1 => rnd (K.getD i 0) (V.getD i 0) (stN K V h i)
theorem stN_len {K V h : List UInt32} (hh : h.length = 8) : ∀ i, (stN K V h i).length = 8
  | 0 => hh
  | _ + 1 => rfl
def pressL (K h : List UInt32) (blk : List UInt8) : List UInt32 := (List.range 8).map fun i => h.getD i 0 + (stN K (W blk) h 64).getD i 0
theorem pressL_len (K h : List UInt32) (blk : List UInt8) : (pressL K h blk).length = 8 := by simp [pressL]
theorem pressL_get {K h : List UInt32} {blk : List UInt8} {i : Nat} (hi : i < 8) : (pressL K h blk).getD i 0 = h.getD i 0 + (stN K (W blk) h 64).getD i 0 := by simp [pressL, hi]
/-! lists of which the head is new -/
def mix {α : Type} (p h : List α) (i : Nat) : List α := p.take i ++ h.drop i
theorem mix_0 {α : Type} (p h : List α) : mix p h 0 = h := by simp [mix]
theorem mix_all {α : Type} {p h : List α} {n i : Nat} (hp : p.length = n) (hh : h.length = n) (hi : n ≤ i) : mix p h i = p := by rw [mix, List.take_of_length_le (by omega), List.drop_of_length_le (by omega), List.append_nil]
theorem mix_len {α : Type} {p h : List α} {n i : Nat} (hp : p.length = n) (hh : h.length = n) : (mix p h i).length = n := by rw [mix, List.length_append, List.length_take, List.length_drop]; omega
theorem mix_set {α : Type} {p h : List α} {d : α} {n i : Nat} (hp : p.length = n) (hh : h.length = n) (hi : i < n) : (mix p h i).set i (p.getD i d) = mix p h (i + 1) := by
  apply List.ext_getElem
  · rw [List.length_set, mix_len hp hh, mix_len hp hh]
  · intro j h1 h2
    have hj : j < n := by rw [mix_len hp hh] at h2; exact h2
    rw [List.getElem_set]
    by_cases e : i = j
    · subst e
      rw [if_pos rfl]
      simp only [mix, List.getElem_append, List.length_take, hp]
      rw [dif_pos (by omega)]
      simp [hp, hi]
    · rw [if_neg e]
      simp only [mix, List.getElem_append, List.length_take, hp]
      by_cases e2 : j < i
      · rw [dif_pos (by omega), dif_pos (by omega)]; simp
      · rw [dif_neg (by omega), dif_neg (by omega)]
        simp only [List.getElem_drop]
        congr 1; omega
theorem mix_get {α : Type} {p h : List α} {d : α} {n i : Nat} (hp : p.length = n) (hi : i < n) : (mix p h i).getD i d = h.getD i d := by
  have : (p.take i).length = i := by rw [List.length_take]; omega
  simp [mix, List.getD_eq_getElem?_getD, List.getElem?_append, this, List.getElem?_drop]
theorem mix_lt {α : Type} {p h : List α} {d : α} {n i j : Nat} (hp : p.length = n) (hi : i ≤ n) (hj : j < i) : (mix p h i).getD j d = p.getD j d := by
  have : (p.take i).length = i := by rw [List.length_take]; omega
  simp [mix, List.getD_eq_getElem?_getD, List.getElem?_append, this, hj, List.getElem?_take, show j < p.length by omega]
/-! digests -/
def digL (h : List UInt32) : List UInt8 := (List.range 32).map fun i => UInt8.ofNat (shr32 (h.getD (i / 4) 0) (24 - 8 * (i % 4))).toNat
theorem digL_len (h : List UInt32) : (digL h).length = 32 := by simp [digL]
theorem digL_get {h : List UInt32} {i : Nat} (hi : i < 32) : (digL h).getD i 0 = UInt8.ofNat (shr32 (h.getD (i / 4) 0) (24 - 8 * (i % 4))).toNat := by simp [digL, hi]
def padL (n : Nat) : List UInt8 := (128 :: List.replicate ((119 - n % 64) % 64) 0) ++ (leN 8 (n * 8)).reverse
theorem padL_len (n : Nat) : (padL n).length = 9 + (119 - n % 64) % 64 := by simp [padL, leN_len]; omega
/-- the state behind i blocks -/
def hs (K h : List UInt32) (m : List UInt8) : Nat → List UInt32
  | 0 => h
  | i + 1 => pressL K (hs K h m i) ((m.drop (64 * i)).take 64)
theorem hs_len {K h : List UInt32} {m : List UInt8} (hh : h.length = 8) : ∀ i, (hs K h m i).length = 8
  | 0 => hh
  | _ + 1 => pressL_len ..
theorem hs_app {K h : List UInt32} {m x : List UInt8} : ∀ i, 64 * i ≤ m.length → hs K h (m ++ x) i = hs K h m i
  | 0, _ => rfl
  | i + 1, hi => by
    have e : ((m ++ x).drop (64 * i)).take 64 = (m.drop (64 * i)).take 64 := by
      rw [List.drop_append, show 64 * i - m.length = 0 by omega, List.drop_zero, List.take_append_of_le_length (by rw [List.length_drop]; omega)]
    rw [hs, hs, hs_app i (by omega), e]
def padded (m : List UInt8) : List UInt8 := m ++ padL m.length
def sumL (m : List UInt8) : List UInt8 := digL (hs kL hL (padded m) ((padded m).length / 64))
theorem sumL_len (m : List UInt8) : (sumL m).length = 32 := digL_len _
theorem padded_len (m : List UInt8) : (padded m).length % 64 = 0 := by rw [padded, List.length_append, padL_len]; omega
end Go.Sh
