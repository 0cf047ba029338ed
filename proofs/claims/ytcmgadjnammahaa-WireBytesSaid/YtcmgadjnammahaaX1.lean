/- Inverses of bytes, what stands for a byte, tables, keys of rounds, blocks: plain laws. Conditions: those that each theorem states. -/
import Derived.Test.YtcmgadjnammahaaX0
set_option linter.unusedVariables false
set_option linter.unusedSimpArgs false
namespace Go.Ax
open Go.Vc
def invN : Nat → UInt8 → UInt8 → UInt8
  | 0, _, n => n
  | k + 1, a, n => invN k (tm a a) (tm n (tm a a))
def inv (a : UInt8) : UInt8 := invN 7 a 1
theorem inv_mul : ∀ a : UInt8, a ≠ 0 → tm a (inv a) = 1 := all8 (by decide +kernel)
theorem inv_0 : inv 0 = 0 := by decide +kernel
theorem inv_of {a b : UInt8} (h : tm a b = 1) : b = inv a := by
  have ha : a ≠ 0 := by rintro rfl; rw [tm_0'] at h; exact absurd h (by decide)
  have h1 := inv_mul a ha
  have h2 : tm (inv a) (tm a b) = b := by rw [← tm_assoc, tm_comm (inv a) a, h1, tm_comm, tm_1]
  rw [h, tm_1] at h2
  exact h2.symm
theorem inv_inv (a : UInt8) : inv (inv a) = a := by
  by_cases h : a = 0
  · subst h; rw [inv_0, inv_0]
  · exact (inv_of ((tm_comm _ _).trans (inv_mul a h))).symm
def rl (a : UInt8) (k : Nat) : UInt8 := shl8 a k ||| shr8 a (8 - k)
def aff (y : UInt8) : UInt8 := y ^^^ 99 ^^^ rl y 1 ^^^ rl y 2 ^^^ rl y 3 ^^^ rl y 4
def unaff (x : UInt8) : UInt8 := rl x 1 ^^^ rl x 3 ^^^ rl x 6 ^^^ 5
theorem unaff_aff : ∀ y : UInt8, unaff (aff y) = y := all8 (by decide +kernel)
theorem aff_unaff : ∀ y : UInt8, aff (unaff y) = y := all8 (by decide +kernel)
def sub (a : UInt8) : UInt8 := aff (inv a)
def unsub (a : UInt8) : UInt8 := inv (unaff a)
theorem unsub_sub (a : UInt8) : unsub (sub a) = a := by rw [unsub, sub, unaff_aff, inv_inv]
theorem sub_unsub (a : UInt8) : sub (unsub a) = a := by rw [unsub, sub, inv_inv, aff_unaff]
/-! lists that are filled from the front -/
def pre (n : Nat) (g : Nat → UInt8) (i : Nat) : List UInt8 := (List.range i).map g ++ List.replicate (n - i) 0
theorem pre_len {n i : Nat} {g : Nat → UInt8} (h : i ≤ n) : (pre n g i).length = n := by simp [pre]; omega
theorem pre_set {n i : Nat} {g : Nat → UInt8} {x : UInt8} (h : i < n) (hx : x = g i) : (pre n g i).set i x = pre n g (i + 1) := by
  have e : List.replicate (n - i) (0 : UInt8) = 0 :: List.replicate (n - (i + 1)) 0 := by rw [show n - i = n - (i + 1) + 1 by omega]; rfl
  rw [pre, e, List.set_append_right _ _ (by simp), hx]
  simp [pre, List.range_succ]
theorem pre_lt {n i j : Nat} {g : Nat → UInt8} (h : j < i) : (pre n g i).getD j 0 = g j := by
  rw [List.getD_eq_getElem?_getD, pre, List.getElem?_append_left (by simpa using h)]
  simp [h]
theorem pre_ge {n i j : Nat} {g : Nat → UInt8} (h : i ≤ j) : (pre n g i).getD j 0 = 0 := by
  rw [List.getD_eq_getElem?_getD, pre, List.getElem?_append_right (by simpa using h)]
  simp only [List.getElem?_replicate]
  split <;> rfl
theorem pre_all {n : Nat} {g : Nat → UInt8} : pre n g n = (List.range n).map g := by simp [pre]
theorem pre_0 {n : Nat} {g : Nat → UInt8} : pre n g 0 = List.replicate n 0 := by simp [pre]
theorem pre_ext {n i : Nat} {g g' : Nat → UInt8} (h : ∀ j, j < i → g j = g' j) : pre n g i = pre n g' i := by
  unfold pre
  congr 1
  exact List.map_congr_left fun j hj => h j (List.mem_range.1 hj)
theorem range_get {n j : Nat} {g : Nat → UInt8} (h : j < n) : ((List.range n).map g).getD j 0 = g j := by simp [h]
theorem list_range {l : List UInt8} {n : Nat} (h : l.length = n) : (List.range n).map (fun j => l.getD j 0) = l := by
  apply List.ext_getElem
  · simp [h]
  · intro i h1 h2; simp [h2]
theorem sub_get {l : List UInt8} {a k j : Nat} (h : j < k) : ((l.drop a).take k).getD j 0 = l.getD (a + j) 0 := by
  simp [List.getD_eq_getElem?_getD, List.getElem?_take, h, List.getElem?_drop]
def tabL (f : UInt8 → UInt8) : List UInt8 := (List.range 256).map fun i => f (UInt8.ofNat i)
theorem tabL_len (f : UInt8 → UInt8) : (tabL f).length = 256 := by simp [tabL]
theorem tabL_get (f : UInt8 → UInt8) (x : UInt8) : (tabL f).getD x.toNat 0 = f x := by
  have := x.toNat_lt
  rw [tabL, range_get (g := fun i => f (UInt8.ofNat i)) (by omega)]
  simp
/-! two blocks -/
def xorL (s k : List UInt8) : List UInt8 := List.zipWith (· ^^^ ·) s k
theorem xorL_len {s k : List UInt8} {n : Nat} (hs : s.length = n) (hk : k.length = n) : (xorL s k).length = n := by simp [xorL, hs, hk]
def xk (s k : List UInt8) (i : Nat) : List UInt8 := (xorL s k).take i ++ s.drop i
theorem xk_len {s k : List UInt8} {i : Nat} (hs : s.length = 16) (hk : k.length = 16) : (xk s k i).length = 16 := by simp [xk, xorL, hs, hk]; omega
theorem xk_0 {s k : List UInt8} : xk s k 0 = s := by simp [xk]
theorem xk_16 {s k : List UInt8} (hs : s.length = 16) (hk : k.length = 16) : xk s k 16 = xorL s k := by
  rw [xk, List.take_of_length_le (by rw [xorL_len hs hk]; exact Nat.le_refl _), List.drop_of_length_le (by rw [hs]; exact Nat.le_refl _), List.append_nil]
theorem xk_step {s k : List UInt8} {i : Nat} (hs : s.length = 16) (hk : k.length = 16) (hi : i < 16) : (xk s k i).set i ((xk s k i).getD i 0 ^^^ k.getD i 0) = xk s k (i + 1) := by
  have hx := xorL_len hs hk
  have hl : ((xorL s k).take i).length = i := by rw [List.length_take, hx]; omega
  have hd : s.drop i = s.getD i 0 :: s.drop (i + 1) := by rw [List.drop_eq_getElem_cons (by omega)]; simp [hs, hi]
  have hg : (xk s k i).getD i 0 = s.getD i 0 := by
    rw [xk, List.getD_eq_getElem?_getD, List.getElem?_append_right (by omega), hl, Nat.sub_self, hd]; rfl
  have hz : (xorL s k).getD i 0 = s.getD i 0 ^^^ k.getD i 0 := by
    simp [xorL, List.getElem?_zipWith, hs, hk, hi]
  rw [hg, xk, hd, List.set_append_right _ _ (by omega), hl, Nat.sub_self, List.set_cons_zero, xk, take_snoc _ i 0 (by omega), hz, List.append_assoc]
  rfl
/-! columns mixed -/
def mb1 (s f : List UInt8) (i k : Nat) : UInt8 := tm (s.getD (4 * (i / 4) + k) 0) (f.getD ((k + 4 - i % 4) % 4) 0)
def mb (s f : List UInt8) (i : Nat) : UInt8 := (((0 ^^^ mb1 s f i 0) ^^^ mb1 s f i 1) ^^^ mb1 s f i 2) ^^^ mb1 s f i 3
def mixL (s f : List UInt8) : List UInt8 := (List.range 16).map (mb s f)
theorem mixL_len (s f : List UInt8) : (mixL s f).length = 16 := by simp [mixL]
theorem set_get {l : List UInt8} {i : Nat} {x : UInt8} (h : i < l.length) : (l.set i x).getD i 0 = x := by simp [h]
theorem mix_step {s f : List UInt8} {i : Nat} {a b c d : UInt8} (hi : i < 16) (ha : a = mb1 s f i 0) (hb : b = mb1 s f i 1) (hc : c = mb1 s f i 2) (hd : d = mb1 s f i 3) :
    ((((pre 16 (mb s f) i).set i ((pre 16 (mb s f) i).getD i 0 ^^^ a)).set i (((pre 16 (mb s f) i).set i ((pre 16 (mb s f) i).getD i 0 ^^^ a)).getD i 0 ^^^ b)).set i
      ((((pre 16 (mb s f) i).set i ((pre 16 (mb s f) i).getD i 0 ^^^ a)).set i (((pre 16 (mb s f) i).set i ((pre 16 (mb s f) i).getD i 0 ^^^ a)).getD i 0 ^^^ b)).getD i 0 ^^^ c)).set i
      (((((pre 16 (mb s f) i).set i ((pre 16 (mb s f) i).getD i 0 ^^^ a)).set i (((pre 16 (mb s f) i).set i ((pre 16 (mb s f) i).getD i 0 ^^^ a)).getD i 0 ^^^ b)).set i
      ((((pre 16 (mb s f) i).set i ((pre 16 (mb s f) i).getD i 0 ^^^ a)).set i (((pre 16 (mb s f) i).set i ((pre 16 (mb s f) i).getD i 0 ^^^ a)).getD i 0 ^^^ b)).getD i 0 ^^^ c)).getD i 0 ^^^ d) = pre 16 (mb s f) (i + 1) := by
  have hl : (pre 16 (mb s f) i).length = 16 := pre_len (by omega)
  rw [pre_ge (Nat.le_refl i), set_get (by rw [hl]; exact hi)]
  simp only [List.set_set]
  rw [set_get (by rw [hl]; exact hi), set_get (by rw [hl]; exact hi)]
  exact pre_set hi (by rw [mb, ha, hb, hc, hd])
/-! a block enciphered -/
def keyR (keys : List UInt8) (r : Nat) : List UInt8 := (keys.drop (r * 16)).take 16
theorem keyR_len {keys : List UInt8} {r : Nat} (h : keys.length = 176) (hr : r < 11) : (keyR keys r).length = 16 := by simp [keyR, h]; omega
def shb (tb s : List UInt8) (i : Nat) : UInt8 := tb.getD (s.getD ((i + i % 4 * 4) % 16) 0).toNat 0
def shf (tb s : List UInt8) : List UInt8 := (List.range 16).map (shb tb s)
theorem shf_len (tb s : List UInt8) : (shf tb s).length = 16 := by simp [shf]
def encN (keys tb blk : List UInt8) : Nat → List UInt8
  | 0 => xorL blk (keyR keys 0)
  | r + 1 => xorL (if r + 1 < 10 then mixL (shf tb (encN keys tb blk r)) [2, 3, 1, 1] else shf tb (encN keys tb blk r)) (keyR keys (r + 1))
theorem encN_len {keys tb blk : List UInt8} (hk : keys.length = 176) (hb : blk.length = 16) : ∀ {r : Nat}, r < 11 → (encN keys tb blk r).length = 16
  | 0, _ => xorL_len hb (keyR_len hk (by omega))
  | r + 1, h => by
    rw [encN]; split
    · exact xorL_len (mixL_len ..) (keyR_len hk h)
    · exact xorL_len (shf_len ..) (keyR_len hk h)
def unsN (tb t s : List UInt8) : Nat → List UInt8
  | 0 => s
  | i + 1 => (unsN tb t s i).set ((i + i % 4 * 4) % 16) (tb.getD (t.getD i 0).toNat 0)
theorem unsN_len {tb t s : List UInt8} : ∀ i, (unsN tb t s i).length = s.length
  | 0 => rfl
  | i + 1 => by rw [unsN, List.length_set, unsN_len i]
def decN (keys tb blk : List UInt8) : Nat → List UInt8
  | 0 => blk
  | j + 1 => unsN tb (if 10 - j < 10 then mixL (xorL (decN keys tb blk j) (keyR keys (10 - j))) [14, 11, 13, 9] else xorL (decN keys tb blk j) (keyR keys (10 - j))) (decN keys tb blk j) 16
theorem decN_len {keys tb blk : List UInt8} (hb : blk.length = 16) : ∀ j, (decN keys tb blk j).length = 16
  | 0 => hb
  | j + 1 => by rw [decN, unsN_len, decN_len hb j]
def dec (keys tb blk : List UInt8) : List UInt8 := xorL (decN keys tb blk 10) (keyR keys 0)
/-! keys of rounds -/
def pwN : Nat → UInt8
  | 0 => 1
  | k + 1 => dbl (pwN k)
def gK (tb : List UInt8) (l : Nat → UInt8) (r c : Nat) : UInt8 :=
  if c = 0 then tb.getD (l (16 * r - 3)).toNat 0 ^^^ pwN (r - 1) else if c = 3 then tb.getD (l (16 * r - 4)).toNat 0 else tb.getD (l (16 * r + c - 3)).toNat 0
def nb (tb : List UInt8) (l : Nat → UInt8) (j : Nat) : UInt8 := l (j - 16) ^^^ (if j % 16 < 4 then gK tb l (j / 16) (j % 16) else l (j - 4))
def kx (tb key : List UInt8) : Nat → List UInt8
  | 0 => key
  | m + 1 => kx tb key m ++ [nb tb (fun j => (kx tb key m).getD j 0) (16 + m)]
theorem kx_len {tb key : List UInt8} (h : key.length = 16) : ∀ m, (kx tb key m).length = 16 + m
  | 0 => h
  | m + 1 => by rw [kx, List.length_append, kx_len h m]; rfl
theorem kx_get {tb key : List UInt8} (h : key.length = 16) {j m : Nat} : ∀ d, j < 16 + m → (kx tb key (m + d)).getD j 0 = (kx tb key m).getD j 0
  | 0, _ => rfl
  | d + 1, hj => by
    rw [← Nat.add_assoc, kx, List.getD_eq_getElem?_getD, List.getElem?_append_left (by rw [kx_len h]; omega), ← List.getD_eq_getElem?_getD, kx_get h d hj]
def K (tb key : List UInt8) (j : Nat) : UInt8 := (kx tb key 160).getD j 0
theorem gK_ext {tb : List UInt8} {l l' : Nat → UInt8} {r c : Nat} (hr : 1 ≤ r) (hc : c < 4) (h : ∀ j, j < 16 * r → l j = l' j) : gK tb l r c = gK tb l' r c := by
  unfold gK
  rw [h (16 * r - 3) (by omega), h (16 * r - 4) (by omega)]
  split
  · rfl
  · split
    · rfl
    · rw [h (16 * r + c - 3) (by omega)]
theorem nb_ext {tb : List UInt8} {l l' : Nat → UInt8} {j : Nat} (hj : 16 ≤ j) (h : ∀ i, i < j → l i = l' i) : nb tb l j = nb tb l' j := by
  unfold nb
  rw [h (j - 16) (by omega), h (j - 4) (by omega)]
  split
  · rw [gK_ext (by omega) (by omega) fun i hi => h i (by omega)]
  · rfl
theorem K_step {tb key : List UInt8} (h : key.length = 16) {j : Nat} (h1 : 16 ≤ j) (h2 : j < 176) : K tb key j = nb tb (K tb key) j := by
  obtain ⟨m, rfl⟩ : ∃ m, j = 16 + m := ⟨j - 16, by omega⟩
  obtain ⟨d, hd⟩ : ∃ d, 160 = m + 1 + d := ⟨160 - (m + 1), by omega⟩
  have e : K tb key (16 + m) = (kx tb key (m + 1)).getD (16 + m) 0 := by rw [K, hd, kx_get h d (by omega)]
  rw [e, kx, List.getD_eq_getElem?_getD, List.getElem?_append_right (by rw [kx_len h]; exact Nat.le_refl _), kx_len h, Nat.sub_self, List.getElem?_cons_zero, Option.getD_some]
  refine (nb_ext h1 fun i hi => ?_)
  show (kx tb key m).getD i 0 = (kx tb key 160).getD i 0
  obtain ⟨d', hd'⟩ : ∃ d', 160 = m + d' := ⟨160 - m, by omega⟩
  rw [hd', kx_get h d' (by omega)]
theorem K_key {tb key : List UInt8} (h : key.length = 16) {j : Nat} (hj : j < 16) : K tb key j = key.getD j 0 := by
  have := kx_get (tb := tb) h (m := 0) 160 (j := j) (by omega)
  rw [Nat.zero_add] at this
  exact this
def keysL (tb key : List UInt8) : List UInt8 := (List.range 176).map (K tb key)
theorem keysL_len (tb key : List UInt8) : (keysL tb key).length = 176 := by simp [keysL]
theorem pre_key {tb key : List UInt8} (h : key.length = 16) : key ++ List.replicate 160 0 = pre 176 (K tb key) 16 := by
  have e : (List.range 16).map (K tb key) = key := (List.map_congr_left fun j hj => K_key h (List.mem_range.1 hj)).trans (list_range h)
  rw [pre, e]
/-- the four bytes that go along in a round -/
def tv (tb : List UInt8) (l : Nat → UInt8) (r i c : Nat) : UInt8 := if i ≤ c then gK tb l r c else l (16 * r + c + 4 * ((i - 1 - c) / 4))
def tL (tb : List UInt8) (l : Nat → UInt8) (r i : Nat) : List UInt8 := (List.range 4).map (tv tb l r i)
theorem tv_at (tb : List UInt8) (l : Nat → UInt8) {r i : Nat} (hi : i < 16) : tv tb l r i (i % 4) = (if (16 * r + i) % 16 < 4 then gK tb l ((16 * r + i) / 16) ((16 * r + i) % 16) else l (16 * r + i - 4)) := by
  rw [tv, show (16 * r + i) % 16 = i by omega, show (16 * r + i) / 16 = r by omega]
  by_cases h4 : i < 4
  · rw [if_pos (by omega), if_pos h4, Nat.mod_eq_of_lt h4]
  · rw [if_neg (by omega), if_neg h4]; congr 1; omega
theorem tL_at (tb : List UInt8) (l : Nat → UInt8) {r i : Nat} (hr : 1 ≤ r) (hi : i < 16) : l (16 * (r - 1) + i) ^^^ (tL tb l r i).getD (i % 4) 0 = nb tb l (16 * r + i) := by
  have hm : i % 4 < 4 := Nat.mod_lt _ (by omega)
  rw [tL, range_get hm, tv_at tb l hi, nb, show 16 * r + i - 16 = 16 * (r - 1) + i by omega]
theorem tL_get {tb key : List UInt8} (h : key.length = 16) {r i : Nat} (hr : 1 ≤ r) (hr2 : r < 11) (hi : i < 16) : K tb key (16 * (r - 1) + i) ^^^ (tL tb (K tb key) r i).getD (i % 4) 0 = K tb key (16 * r + i) := by
  have e := K_step (tb := tb) h (j := 16 * r + i) (by omega) (by omega)
  have e2 := tL_at tb (K tb key) hr hi
  rw [← e] at e2
  exact e2
theorem tL_set (tb : List UInt8) (l : Nat → UInt8) {r i : Nat} (hi : i < 16) {x : UInt8} (hx : x = l (16 * r + i)) : (tL tb l r i).set (i % 4) x = tL tb l r (i + 1) := by
  subst hx
  have hm : i % 4 < 4 := Nat.mod_lt _ (by omega)
  apply List.ext_getElem
  · simp [tL]
  · intro c h1 h2
    have hc : c < 4 := by simpa [tL] using h2
    simp only [tL, List.getElem_set, List.getElem_map, List.getElem_range]
    split
    · rename_i e
      rw [tv, if_neg (by omega)]; exact congrArg l (by omega)
    · rename_i e
      rw [tv, tv]
      by_cases hic : i ≤ c
      · rw [if_pos hic, if_pos (by omega)]
      · rw [if_neg hic, if_neg (by omega)]; exact congrArg l (by omega)
theorem tL_0 {tb : List UInt8} {l : Nat → UInt8} {r : Nat} : tL tb l r 0 = [gK tb l r 0, gK tb l r 1, gK tb l r 2, gK tb l r 3] := rfl
theorem last_get {tb key : List UInt8} {r i m : Nat} (hr : 1 ≤ r) (hi : i < 16) : (((pre 176 (K tb key) (16 * r + m)).drop ((r - 1) * 16)).take 16).getD i 0 = K tb key (16 * (r - 1) + i) := by
  rw [sub_get hi, pre_lt (by omega), Nat.mul_comm]
theorem ex_t {tb key : List UInt8} {r : Nat} (hr : 1 ≤ r) :
    [tb.getD ((((pre 176 (K tb key) (16 * r)).drop ((r - 1) * 16)).take 16).getD 13 0).toNat 0 ^^^ pwN (r - 1), tb.getD ((((pre 176 (K tb key) (16 * r)).drop ((r - 1) * 16)).take 16).getD 14 0).toNat 0,
      tb.getD ((((pre 176 (K tb key) (16 * r)).drop ((r - 1) * 16)).take 16).getD 15 0).toNat 0, tb.getD ((((pre 176 (K tb key) (16 * r)).drop ((r - 1) * 16)).take 16).getD 12 0).toNat 0] = tL tb (K tb key) r 0 := by
  have e : ∀ i, i < 16 → (((pre 176 (K tb key) (16 * r)).drop ((r - 1) * 16)).take 16).getD i 0 = K tb key (16 * (r - 1) + i) := fun i hi => last_get (m := 0) hr hi
  rw [e 13 (by omega), e 14 (by omega), e 15 (by omega), e 12 (by omega), tL_0]
  generalize K tb key = l
  have e1 : gK tb l r 0 = tb.getD (l (16 * (r - 1) + 13)).toNat 0 ^^^ pwN (r - 1) := by rw [gK, if_pos rfl, show 16 * r - 3 = 16 * (r - 1) + 13 by omega]
  have e2 : gK tb l r 1 = tb.getD (l (16 * (r - 1) + 14)).toNat 0 := by rw [gK, if_neg (by decide), if_neg (by decide), show 16 * r + 1 - 3 = 16 * (r - 1) + 14 by omega]
  have e3 : gK tb l r 2 = tb.getD (l (16 * (r - 1) + 15)).toNat 0 := by rw [gK, if_neg (by decide), if_neg (by decide), show 16 * r + 2 - 3 = 16 * (r - 1) + 15 by omega]
  have e4 : gK tb l r 3 = tb.getD (l (16 * (r - 1) + 12)).toNat 0 := by rw [gK, if_neg (by decide), if_pos rfl, show 16 * r - 4 = 16 * (r - 1) + 12 by omega]
  rw [e1, e2, e3, e4]
theorem tL_len (tb : List UInt8) (l : Nat → UInt8) (r i : Nat) : (tL tb l r i).length = 4 := by simp [tL]
theorem ex_in {tb key : List UInt8} (h : key.length = 16) {r i : Nat} (hr : 1 ≤ r) (hr2 : r < 11) (hi : i < 16) {x : UInt8} (hx : x = K tb key (16 * (r - 1) + i)) :
    (tL tb (K tb key) r i).set (i % 4) ((tL tb (K tb key) r i).getD (i % 4) 0 ^^^ x) = tL tb (K tb key) r (i + 1) ∧
    (pre 176 (K tb key) (16 * r + i)).set (r * 16 + i) (((tL tb (K tb key) r i).set (i % 4) ((tL tb (K tb key) r i).getD (i % 4) 0 ^^^ x)).getD (i % 4) 0) = pre 176 (K tb key) (16 * r + (i + 1)) := by
  have hm : i % 4 < 4 := Nat.mod_lt _ (by omega)
  have e1 : (tL tb (K tb key) r i).getD (i % 4) 0 ^^^ x = K tb key (16 * r + i) := by rw [UInt8.xor_comm, hx, tL_get h hr hr2 hi]
  rw [set_get (by rw [tL_len]; exact hm), e1]
  refine ⟨tL_set tb _ hi rfl, ?_⟩
  rw [Nat.mul_comm r 16]
  exact pre_set (by omega) rfl
theorem ovr_key {tb key : List UInt8} (h : key.length = 16) : ovr (List.replicate 176 (0 : UInt8)) 0 key = pre 176 (K tb key) (16 * 1) := by
  rw [← pre_key h, ovr, h]; rfl
theorem pw_next {r : Nat} (hr : 1 ≤ r) : dbl (pwN (r - 1)) = pwN (r + 1 - 1) := by
  obtain ⟨q, rfl⟩ : ∃ q, r = q + 1 := ⟨r - 1, by omega⟩
  rfl
def enc (key blk : List UInt8) : List UInt8 := encN (keysL (tabL sub) key) (tabL sub) blk 10
theorem enc_len {key blk : List UInt8} (hb : blk.length = 16) : (enc key blk).length = 16 := encN_len (keysL_len ..) hb (by omega)
end Go.Ax
