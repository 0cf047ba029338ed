/- Streams, what is masked, what is deciphered: plain laws. Conditions: those that each theorem states. -/
import Derived.Test.YtcmgadjnammahaaX2
namespace Go.Ax
open Go.Vc
/-! streams -/
def blkS (key nonce : List UInt8) (i : Nat) : List UInt8 := enc key (nonce ++ (leN 8 i).reverse)
theorem in_len {nonce : List UInt8} {i : Nat} (h : nonce.length = 8) : (nonce ++ (leN 8 i).reverse).length = 16 := by rw [List.length_append, h, List.length_reverse, leN_len]
theorem blkS_len {key nonce : List UInt8} {i : Nat} (h : nonce.length = 8) : (blkS key nonce i).length = 16 := enc_len (in_len h)
def strN (key nonce : List UInt8) : Nat → List UInt8
  | 0 => []
  | i + 1 => strN key nonce i ++ blkS key nonce i
theorem strN_len {key nonce : List UInt8} (h : nonce.length = 8) : ∀ i, (strN key nonce i).length = 16 * i
  | 0 => rfl
  | i + 1 => by rw [strN, List.length_append, strN_len h i, blkS_len h]; omega
theorem strN_pre {key nonce : List UInt8} (h : nonce.length = 8) {n i : Nat} (hi : n ≤ 16 * i) : ∀ d, (strN key nonce (i + d)).take n = (strN key nonce i).take n
  | 0 => rfl
  | d + 1 => by
    rw [← Nat.add_assoc, strN, List.take_append_of_le_length (by rw [strN_len h]; omega), strN_pre h hi d]
def strL (key nonce : List UInt8) (n : Nat) : List UInt8 := (strN key nonce n).take n
theorem strL_len {key nonce : List UInt8} (h : nonce.length = 8) (n : Nat) : (strL key nonce n).length = n := by rw [strL, List.length_take, strN_len h]; omega
theorem strL_of {key nonce : List UInt8} (h : nonce.length = 8) {n i : Nat} (hi : n ≤ 16 * i) : (strN key nonce i).take n = strL key nonce n := by
  rw [strL]
  rcases Nat.le_total i n with hin | hin
  · obtain ⟨d, rfl⟩ : ∃ d, n = i + d := ⟨n - i, by omega⟩
    rw [strN_pre h hi d]
  · obtain ⟨d, rfl⟩ : ∃ d, i = n + d := ⟨i - n, by omega⟩
    rw [strN_pre h (by omega) d]
theorem strL_pre {key nonce : List UInt8} (h : nonce.length = 8) (n d : Nat) : (strL key nonce (n + d)).take n = strL key nonce n := by
  rw [strL, List.take_take, show min n (n + d) = n by omega]
  exact strL_of h (by omega)
theorem u64nat {i : Nat} (h : i < 18446744073709551616) : (UInt64.ofNat i).toNat = i := by simp; omega
/-- the number of a block, byte by byte, from the other end -/
theorem num_rev {i : Nat} (h : i < 18446744073709551616) : ([UInt8.ofNat (shr64 (UInt64.ofNat i) 56).toNat, UInt8.ofNat (shr64 (UInt64.ofNat i) 48).toNat, UInt8.ofNat (shr64 (UInt64.ofNat i) 40).toNat, UInt8.ofNat (shr64 (UInt64.ofNat i) 32).toNat,
    UInt8.ofNat (shr64 (UInt64.ofNat i) 24).toNat, UInt8.ofNat (shr64 (UInt64.ofNat i) 16).toNat, UInt8.ofNat (shr64 (UInt64.ofNat i) 8).toNat, UInt8.ofNat (shr64 (UInt64.ofNat i) 0).toNat] : List UInt8) = (leN 8 i).reverse := by
  have e : ∀ k, UInt8.ofNat (shr64 (UInt64.ofNat i) (8 * k)).toNat = UInt8.ofNat (i / 256 ^ k) := fun k => by rw [shr_byte, u64nat h]
  rw [e 7, e 6, e 5, e 4, e 3, e 2, e 1, e 0]
  simp [leN, Nat.div_div_eq_div_mul]
theorem eight8 {l : List UInt8} (h : l.length = 8) : [l.getD 0 0, l.getD 1 0, l.getD 2 0, l.getD 3 0, l.getD 4 0, l.getD 5 0, l.getD 6 0, l.getD 7 0] = l := by
  match l, h with
  | [_, _, _, _, _, _, _, _], _ => rfl
/-! what is masked -/
def mk (s b : List UInt8) (i : Nat) : List UInt8 := (xorL s b).take i ++ s.drop i
theorem mk_len {s b : List UInt8} {i n : Nat} (hs : s.length = n) (hb : b.length = n) (hi : i ≤ n) : (mk s b i).length = n := by simp [mk, xorL, hs, hb]; omega
theorem mk_0 {s b : List UInt8} : mk s b 0 = s := by simp [mk]
theorem mk_all {s b : List UInt8} {n : Nat} (hs : s.length = n) (hb : b.length = n) : mk s b n = xorL s b := by
  rw [mk, List.take_of_length_le (by rw [xorL_len hs hb]; exact Nat.le_refl _), List.drop_of_length_le (by rw [hs]; exact Nat.le_refl _), List.append_nil]
theorem mk_step {s b : List UInt8} {i n : Nat} (hs : s.length = n) (hb : b.length = n) (hi : i < n) : (mk s b i).set i ((mk s b i).getD i 0 ^^^ b.getD i 0) = mk s b (i + 1) := by
  have hx := xorL_len hs hb
  have hl : ((xorL s b).take i).length = i := by rw [List.length_take, hx]; omega
  have hd : s.drop i = s.getD i 0 :: s.drop (i + 1) := by rw [List.drop_eq_getElem_cons (by omega)]; simp [hs, hi]
  have hg : (mk s b i).getD i 0 = s.getD i 0 := by
    rw [mk, List.getD_eq_getElem?_getD, List.getElem?_append_right (by omega), hl, Nat.sub_self, hd]; rfl
  have hz : (xorL s b).getD i 0 = s.getD i 0 ^^^ b.getD i 0 := by
    simp [xorL, List.getElem?_zipWith, hs, hb, hi]
  rw [hg, mk, hd, List.set_append_right _ _ (by omega), hl, Nat.sub_self, List.set_cons_zero, mk, take_snoc _ i 0 (by omega), hz, List.append_assoc]
  rfl
theorem xorL_get {s b : List UInt8} {i n : Nat} (hs : s.length = n) (hb : b.length = n) (hi : i < n) : (xorL s b).getD i 0 = s.getD i 0 ^^^ b.getD i 0 := by
  simp [xorL, List.getElem?_zipWith, hs, hb, hi]
theorem xorL_twice {s b : List UInt8} {n : Nat} (hs : s.length = n) (hb : b.length = n) : xorL s (xorL s b) = b := by
  apply List.ext_getElem
  · simp [xorL, hs, hb]
  · intro i h1 h2
    simp only [xorL, List.getElem_zipWith]
    rw [← UInt8.xor_assoc, UInt8.xor_self, UInt8.zero_xor]
theorem xorL_back {s k : List UInt8} {n : Nat} (hs : s.length = n) (hk : k.length = n) : xorL (xorL s k) k = s := by
  apply List.ext_getElem
  · simp [xorL, hs, hk]
  · intro i h1 h2
    simp only [xorL, List.getElem_zipWith]
    rw [UInt8.xor_assoc, UInt8.xor_self, UInt8.xor_zero]
/-! the way back -/
def ush (tb t : List UInt8) : List UInt8 := (List.range 16).map fun j => tb.getD (t.getD ((j + (4 - j % 4) * 4) % 16) 0).toNat 0
theorem ush_len (tb t : List UInt8) : (ush tb t).length = 16 := by simp [ush]
theorem list16 {l m : List UInt8} (hl : l.length = 16) (hm : m.length = 16) (h : ∀ j, j < 16 → l.getD j 0 = m.getD j 0) : l = m := by
  apply List.ext_getElem (by rw [hl, hm])
  intro i h1 h2
  have := h i (by omega)
  simpa [h1, h2] using this
theorem uns_get {tb t s : List UInt8} (hs : s.length = 16) : ∀ i, i ≤ 16 → ∀ j, j < 16 → (unsN tb t s i).getD j 0 = if (j + (4 - j % 4) * 4) % 16 < i then tb.getD (t.getD ((j + (4 - j % 4) * 4) % 16) 0).toNat 0 else s.getD j 0
  | 0, _, j, hj => by simp [unsN]
  | i + 1, hi, j, hj => by
    have ih := uns_get (tb := tb) (t := t) hs i (by omega) j hj
    have hl : (unsN tb t s i).length = 16 := by rw [unsN_len, hs]
    rw [unsN]
    by_cases e : (i + i % 4 * 4) % 16 = j
    · have e2 : (j + (4 - j % 4) * 4) % 16 = i := by omega
      rw [e, set_get (by omega), if_pos (by omega), e2]
    · have e2 : (j + (4 - j % 4) * 4) % 16 ≠ i := by omega
      have e3 : ((unsN tb t s i).set ((i + i % 4 * 4) % 16) (tb.getD (t.getD i 0).toNat 0)).getD j 0 = (unsN tb t s i).getD j 0 := by
        simp [List.getD_eq_getElem?_getD, List.getElem?_set, e]
      rw [e3, ih]
      by_cases h3 : (j + (4 - j % 4) * 4) % 16 < i
      · rw [if_pos h3, if_pos (by omega)]
      · rw [if_neg h3, if_neg (by omega)]
theorem uns_ush {tb t s : List UInt8} (hs : s.length = 16) : unsN tb t s 16 = ush tb t := by
  refine list16 (by rw [unsN_len, hs]) (ush_len ..) fun j hj => ?_
  rw [uns_get hs 16 (by omega) j hj, if_pos (Nat.mod_lt _ (by omega)), ush, range_get hj]
theorem ush_shf {s : List UInt8} (hs : s.length = 16) : ush (tabL unsub) (shf (tabL sub) s) = s := by
  refine list16 (ush_len ..) hs fun j hj => ?_
  rw [ush, range_get hj, shf, range_get (Nat.mod_lt _ (by omega)), shb, tabL_get, tabL_get, unsub_sub]
  congr 1; omega
theorem shf_ush {s : List UInt8} (hs : s.length = 16) : shf (tabL sub) (ush (tabL unsub) s) = s := by
  refine list16 (shf_len ..) hs fun j hj => ?_
  rw [shf, range_get hj, shb, ush, range_get (Nat.mod_lt _ (by omega)), tabL_get, tabL_get, sub_unsub]
  congr 1; omega
/-- columns mixed there and back -/
theorem mix_at {s f : List UInt8} {c r : Nat} (hc : c < 4) (hr : r < 4) : (mixL s f).getD (4 * c + r) 0 = (((tm (s.getD (4 * c + 0) 0) (f.getD ((0 + 4 - r) % 4) 0)) ^^^ tm (s.getD (4 * c + 1) 0) (f.getD ((1 + 4 - r) % 4) 0)) ^^^ tm (s.getD (4 * c + 2) 0) (f.getD ((2 + 4 - r) % 4) 0)) ^^^ tm (s.getD (4 * c + 3) 0) (f.getD ((3 + 4 - r) % 4) 0) := by
  rw [mixL, range_get (by omega), mb, UInt8.zero_xor, mb1_cr hr, mb1_cr hr, mb1_cr hr, mb1_cr hr]
theorem xor16 (a0 a1 a2 a3 b0 b1 b2 b3 c0 c1 c2 c3 d0 d1 d2 d3 : UInt8) :
    (((((a0 ^^^ a1) ^^^ a2) ^^^ a3) ^^^ (((b0 ^^^ b1) ^^^ b2) ^^^ b3)) ^^^ (((c0 ^^^ c1) ^^^ c2) ^^^ c3)) ^^^ (((d0 ^^^ d1) ^^^ d2) ^^^ d3) =
    (((((a0 ^^^ b0) ^^^ c0) ^^^ d0) ^^^ (((a1 ^^^ b1) ^^^ c1) ^^^ d1)) ^^^ (((a2 ^^^ b2) ^^^ c2) ^^^ d2)) ^^^ (((a3 ^^^ b3) ^^^ c3) ^^^ d3) := by
  ac_rfl
theorem tm4 (x a b c d p q r s : UInt8) : ((tm (tm x a) p ^^^ tm (tm x b) q) ^^^ tm (tm x c) r) ^^^ tm (tm x d) s = tm x (((tm a p ^^^ tm b q) ^^^ tm c r) ^^^ tm d s) := by
  rw [tm_b, tm_b, tm_b, tm_assoc, tm_assoc, tm_assoc, tm_assoc]
theorem tm_x4 (a b c d f : UInt8) : tm (((a ^^^ b) ^^^ c) ^^^ d) f = ((tm a f ^^^ tm b f) ^^^ tm c f) ^^^ tm d f := by rw [tm_a, tm_a, tm_a]
def mixBack (f g : List UInt8) : Prop := ∀ r, r < 4 → ∀ k, k < 4 → (((tm (f.getD ((k + 4 - 0) % 4) 0) (g.getD ((0 + 4 - r) % 4) 0) ^^^ tm (f.getD ((k + 4 - 1) % 4) 0) (g.getD ((1 + 4 - r) % 4) 0)) ^^^ tm (f.getD ((k + 4 - 2) % 4) 0) (g.getD ((2 + 4 - r) % 4) 0)) ^^^ tm (f.getD ((k + 4 - 3) % 4) 0) (g.getD ((3 + 4 - r) % 4) 0)) = if k = r then 1 else 0
theorem mix_back {s f g : List UInt8} (hs : s.length = 16) (h : mixBack f g) : mixL (mixL s f) g = s := by
  refine list16 (mixL_len ..) hs fun j hj => ?_
  obtain ⟨c, r, hc, hr, rfl⟩ : ∃ c r, c < 4 ∧ r < 4 ∧ j = 4 * c + r := ⟨j / 4, j % 4, by omega, Nat.mod_lt _ (by omega), by omega⟩
  rw [mix_at hc hr, mix_at hc (by omega : 0 < 4), mix_at hc (by omega : 1 < 4), mix_at hc (by omega : 2 < 4), mix_at hc (by omega : 3 < 4), tm_x4, tm_x4, tm_x4, tm_x4, xor16, tm4, tm4, tm4, tm4]
  rw [h r hr 0 (by omega), h r hr 1 (by omega), h r hr 2 (by omega), h r hr 3 (by omega)]
  match r, hr with
  | 0, _ => simp [tm_0, tm_1]
  | 1, _ => simp [tm_0, tm_1]
  | 2, _ => simp [tm_0, tm_1]
  | 3, _ => simp [tm_0, tm_1]
theorem mix_fg : mixBack [2, 3, 1, 1] [14, 11, 13, 9] := by unfold mixBack; decide +kernel
theorem mix_gf : mixBack [14, 11, 13, 9] [2, 3, 1, 1] := by unfold mixBack; decide +kernel
/-! enciphered and deciphered -/
theorem dec_step {keys tb blk : List UInt8} (hb : blk.length = 16) (j : Nat) : Ax.decN keys tb blk (j + 1) = ush tb (if 10 - j < 10 then mixL (xorL (Ax.decN keys tb blk j) (keyR keys (10 - j))) [14, 11, 13, 9] else xorL (Ax.decN keys tb blk j) (keyR keys (10 - j))) := by
  rw [Ax.decN, uns_ush (decN_len hb j)]
theorem dec_at {keys blk : List UInt8} (hk : keys.length = 176) (hb : blk.length = 16) : ∀ j, j ≤ 10 → Ax.decN keys (tabL unsub) (encN keys (tabL sub) blk 10) j = encN keys (tabL sub) blk (10 - j)
  | 0, _ => rfl
  | j + 1, hj => by
    obtain ⟨r, hr⟩ : ∃ r, 10 - j = r + 1 := ⟨10 - j - 1, by omega⟩
    have hl : ∀ r, r < 11 → (encN keys (tabL sub) blk r).length = 16 := fun r h => encN_len hk hb h
    rw [dec_step (hl 10 (by omega)), dec_at hk hb j (by omega), hr, show 10 - (j + 1) = r by omega]
    have hs := shf_len (tabL sub) (encN keys (tabL sub) blk r)
    rw [encN]
    by_cases h : r + 1 < 10
    · rw [if_pos h, if_pos h, xorL_back (mixL_len ..) (keyR_len hk (by omega)), mix_back hs mix_fg, ush_shf (hl r (by omega))]
    · rw [if_neg h, if_neg h, xorL_back hs (keyR_len hk (by omega)), ush_shf (hl r (by omega))]
theorem dec_enc {keys blk : List UInt8} (hk : keys.length = 176) (hb : blk.length = 16) : dec keys (tabL unsub) (encN keys (tabL sub) blk 10) = blk := by
  rw [dec, dec_at hk hb 10 (by omega)]
  show xorL (xorL blk (keyR keys 0)) (keyR keys 0) = blk
  exact xorL_back hb (keyR_len hk (by omega))
theorem enc_at {keys blk : List UInt8} (hk : keys.length = 176) (hb : blk.length = 16) : ∀ r, r ≤ 10 → encN keys (tabL sub) (dec keys (tabL unsub) blk) r = Ax.decN keys (tabL unsub) blk (10 - r)
  | 0, _ => by
    show xorL (xorL (Ax.decN keys (tabL unsub) blk 10) (keyR keys 0)) (keyR keys 0) = _
    exact xorL_back (decN_len hb 10) (keyR_len hk (by omega))
  | r + 1, hr => by
    obtain ⟨j, hj⟩ : ∃ j, 10 - r = j + 1 := ⟨10 - r - 1, by omega⟩
    have hl : (Ax.decN keys (tabL unsub) blk j).length = 16 := decN_len hb j
    have hkl := keyR_len hk (r := r + 1) (by omega)
    have hx := xorL_len hl hkl
    rw [encN, enc_at hk hb r (by omega), hj, dec_step hb, show 10 - j = r + 1 by omega, show 10 - (r + 1) = j by omega]
    by_cases h : r + 1 < 10
    · rw [if_pos h, if_pos h, shf_ush (mixL_len ..), mix_back hx mix_gf, xorL_back hl hkl]
    · rw [if_neg h, if_neg h, shf_ush hx, xorL_back hl hkl]
theorem enc_dec {keys blk : List UInt8} (hk : keys.length = 176) (hb : blk.length = 16) : encN keys (tabL sub) (dec keys (tabL unsub) blk) 10 = blk := enc_at hk hb 10 (by omega)
end Go.Ax
