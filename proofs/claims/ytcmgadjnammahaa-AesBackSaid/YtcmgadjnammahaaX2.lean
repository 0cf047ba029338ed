/- The reference's order of a block's bytes, and of the keys of rounds: plain laws. Conditions: those that each theorem states. -/
import Derived.Test.YtcmgadjnammahaaX1
import Derived.Test.YtcmgadjnammahaaVcK
namespace Go.Ax
open Go.Vc
theorem mb1_cr {s f : List UInt8} {c r k : Nat} (hr : r < 4) : mb1 s f (4 * c + r) k = tm (s.getD (4 * c + k) 0) (f.getD ((k + 4 - r) % 4) 0) := by
  rw [mb1, show (4 * c + r) / 4 = c by omega, show (4 * c + r) % 4 = r by omega]
theorem shb_cr {tb s : List UInt8} {c r : Nat} (hc : c < 4) (hr : r < 4) : tb.getD (s.getD (4 * ((c + r) % 4) + r) 0).toNat 0 = shb tb s (4 * c + r) := by
  rw [shb, show (4 * c + r + (4 * c + r) % 4 * 4) % 16 = 4 * ((c + r) % 4) + r by omega]
theorem uns_cr {tb t s : List UInt8} {c r : Nat} (hc : c < 4) (hr : r < 4) : (unsN tb t s (4 * c + r)).set (4 * ((c + r) % 4) + r) (tb.getD (t.getD (4 * c + r) 0).toNat 0) = unsN tb t s (4 * c + (r + 1)) := by
  show _ = unsN tb t s (4 * c + r + 1)
  rw [unsN, show (4 * c + r + (4 * c + r) % 4 * 4) % 16 = 4 * ((c + r) % 4) + r by omega]
/-- the way back, as it is filled -/
def bk (k : Nat) : List UInt8 := (List.range 256).map fun y => if (unsub (UInt8.ofNat y)).toNat < k then unsub (UInt8.ofNat y) else 0
theorem bk_len (k : Nat) : (bk k).length = 256 := by simp [bk]
theorem bk_0 : bk 0 = List.replicate 256 0 := List.eq_replicate_iff.2 ⟨bk_len 0, fun x hx => by
  obtain ⟨y, _, rfl⟩ := List.mem_map.1 hx
  rw [if_neg (Nat.not_lt_zero _)]⟩
theorem bk_all : bk 256 = tabL unsub := by
  rw [bk, tabL]
  refine List.map_congr_left fun y _ => ?_
  rw [if_pos (UInt8.toNat_lt _)]
theorem bk_step {k : Nat} (hk : k < 256) : (bk k).set ((tabL sub).getD k 0).toNat (UInt8.ofNat k) = bk (k + 1) := by
  have e : (tabL sub).getD k 0 = sub (UInt8.ofNat k) := by rw [tabL, range_get hk]
  rw [e]
  apply List.ext_getElem
  · simp [bk]
  · intro i h1 h2
    have hi : i < 256 := by simpa [bk] using h2
    have hki : (UInt8.ofNat k).toNat = k := by simp; omega
    have hii : (UInt8.ofNat i).toNat = i := by simp; omega
    simp only [bk, List.getElem_set, List.getElem_map, List.getElem_range]
    by_cases h : (sub (UInt8.ofNat k)).toNat = i
    · have : UInt8.ofNat i = sub (UInt8.ofNat k) := by rw [← h]; simp
      rw [if_pos h, this, unsub_sub, hki, if_pos (by omega)]
    · rw [if_neg h]
      have hne : (unsub (UInt8.ofNat i)).toNat ≠ k := by
        intro e2
        apply h
        have : unsub (UInt8.ofNat i) = UInt8.ofNat k := by rw [← e2]; simp
        rw [← this, sub_unsub, hii]
      by_cases h3 : (unsub (UInt8.ofNat i)).toNat < k
      · rw [if_pos h3, if_pos (by omega)]
      · rw [if_neg h3, if_neg (by omega)]
theorem tm_2 : ∀ a : UInt8, tm a 2 = dbl a := all8 (by decide +kernel)
/-- what a word of the keys is made with -/
def wT (tb : List UInt8) (l : Nat → UInt8) (i k : Nat) : UInt8 := if i % 4 = 0 then gK tb l (i / 4) k else l (4 * i + k - 4)
theorem K_word {tb key : List UInt8} (h : key.length = 16) {i k : Nat} (hi : 4 ≤ i) (hi2 : i < 44) (hk : k < 4) : K tb key (4 * i + k) = K tb key (4 * i + k - 16) ^^^ wT tb (K tb key) i k := by
  have e := K_step (tb := tb) h (j := 4 * i + k) (by omega) (by omega)
  rw [e]
  generalize K tb key = l
  rw [nb, wT]
  by_cases h4 : i % 4 = 0
  · rw [if_pos (by omega), if_pos h4, show (4 * i + k) / 16 = i / 4 by omega, show (4 * i + k) % 16 = k by omega]
  · rw [if_neg (by omega), if_neg h4]
theorem w_step {tb key t : List UInt8} (h : key.length = 16) {i k : Nat} (hi : 4 ≤ i) (hi2 : i < 44) (hk : k < 4) (ht : ∀ k, k < 4 → t.getD k 0 = wT tb (K tb key) i k) :
    (pre 176 (K tb key) (4 * i + k)).set (i * 4 + k) ((pre 176 (K tb key) (4 * i + k)).getD ((i - 4) * 4 + k) 0 ^^^ t.getD k 0) = pre 176 (K tb key) (4 * i + (k + 1)) := by
  have e := K_word (tb := tb) h hi hi2 hk
  rw [ht k hk, pre_lt (by omega), show (i - 4) * 4 + k = 4 * i + k - 16 by omega, ← e, Nat.mul_comm i 4]
  exact pre_set (by omega) rfl
theorem wl_get {tb key : List UInt8} {i c m : Nat} (hi : 1 ≤ i) (hc : c < 4) : (((pre 176 (K tb key) (4 * i + m)).drop ((i - 1) * 4)).take 4).getD c 0 = K tb key (4 * (i - 1) + c) := by
  rw [sub_get hc, pre_lt (by omega), Nat.mul_comm]
theorem w_old {tb key : List UInt8} {i : Nat} (hi : 4 ≤ i) (h4 : ¬ i % 4 = 0) : ∀ k, k < 4 → (((pre 176 (K tb key) (4 * i)).drop ((i - 1) * 4)).take 4).getD k 0 = wT tb (K tb key) i k := by
  intro k hk
  have e := wl_get (tb := tb) (key := key) (i := i) (m := 0) (by omega) hk
  rw [Nat.add_zero] at e
  rw [e]
  generalize K tb key = l
  rw [wT, if_neg h4, show 4 * (i - 1) + k = 4 * i + k - 4 by omega]
theorem w_new {tb key : List UInt8} {i : Nat} (hi : 4 ≤ i) (h4 : i % 4 = 0) : ∀ k, k < 4 → ([tb.getD ((((pre 176 (K tb key) (4 * i)).drop ((i - 1) * 4)).take 4).getD 1 0).toNat 0 ^^^ pwN ((i - 1) / 4), tb.getD ((((pre 176 (K tb key) (4 * i)).drop ((i - 1) * 4)).take 4).getD 2 0).toNat 0,
    tb.getD ((((pre 176 (K tb key) (4 * i)).drop ((i - 1) * 4)).take 4).getD 3 0).toNat 0, tb.getD ((((pre 176 (K tb key) (4 * i)).drop ((i - 1) * 4)).take 4).getD 0 0).toNat 0] : List UInt8).getD k 0 = wT tb (K tb key) i k := by
  have e : ∀ c, c < 4 → (((pre 176 (K tb key) (4 * i)).drop ((i - 1) * 4)).take 4).getD c 0 = K tb key (4 * (i - 1) + c) := fun c hc => wl_get (m := 0) (by omega) hc
  rw [e 1 (by omega), e 2 (by omega), e 3 (by omega), e 0 (by omega)]
  generalize K tb key = l
  intro k hk
  have h0 : wT tb l i k = gK tb l (i / 4) k := by rw [wT, if_pos h4]
  rw [h0]
  match k, hk with
  | 0, _ => rw [gK, if_pos rfl, show 16 * (i / 4) - 3 = 4 * (i - 1) + 1 by omega, show i / 4 - 1 = (i - 1) / 4 by omega]; rfl
  | 1, _ => rw [gK, if_neg (by decide), if_neg (by decide), show 16 * (i / 4) + 1 - 3 = 4 * (i - 1) + 2 by omega]; rfl
  | 2, _ => rw [gK, if_neg (by decide), if_neg (by decide), show 16 * (i / 4) + 2 - 3 = 4 * (i - 1) + 3 by omega]; rfl
  | 3, _ => rw [gK, if_neg (by decide), if_pos rfl, show 16 * (i / 4) - 4 = 4 * (i - 1) + 0 by omega]; rfl
theorem w_key {tb key : List UInt8} (h : key.length = 16) {i k : Nat} (hi : i < 4) (hk : k < 4) : (pre 176 (K tb key) (4 * i + k)).set (i * 4 + k) (key.getD (4 * i + k) 0) = pre 176 (K tb key) (4 * i + (k + 1)) := by
  rw [Nat.mul_comm i 4]
  exact pre_set (by omega) (K_key h (by omega)).symm
theorem w_copy {g : Nat → UInt8} {i k : Nat} (hi : i < 44) (hk : k < 4) : (pre 176 g (4 * i + k)).set ((i / 4) * 16 + (4 * (i % 4) + k)) ((pre 176 g (4 * 44)).getD (i * 4 + k) 0) = pre 176 g (4 * i + (k + 1)) := by
  rw [pre_lt (by omega), show (i / 4) * 16 + (4 * (i % 4) + k) = 4 * i + k by omega]
  exact pre_set (by omega) (congrArg g (by omega))
theorem pw_4 {i : Nat} (hi : 4 ≤ i) (h4 : i % 4 = 0) : tm (pwN ((i - 1) / 4)) 2 = pwN ((i + 1 - 1) / 4) := by
  obtain ⟨q, hq⟩ : ∃ q, (i - 1) / 4 = q := ⟨_, rfl⟩
  rw [tm_2, hq, show (i + 1 - 1) / 4 = q + 1 by omega]; rfl
theorem pw_no {i : Nat} (h4 : ¬ i % 4 = 0) : pwN ((i - 1) / 4) = pwN ((i + 1 - 1) / 4) := congrArg pwN (by omega)
end Go.Ax
