/- A block pressed in, a message padded: plain laws. Conditions: those that each theorem states. -/
import Derived.Test.YtelkjcigdhgcoaaH4
set_option linter.unusedVariables false
set_option linter.unusedSimpArgs false
namespace Go.Sh
open Go.Vc
theorem eight32 {l : List UInt32} (h : l.length = 8) : ([l.getD 0 0, l.getD 1 0, l.getD 2 0, l.getD 3 0, l.getD 4 0, l.getD 5 0, l.getD 6 0, l.getD 7 0] : List UInt32) = l := by
  match l, h with
  | [a, b, c, d, e, f, g, i], _ => rfl
section
variable (K V h : List UInt32) (i : Nat)
theorem st_0 : (stN K V h (i + 1)).getD 0 0 = rT (K.getD i 0) (V.getD i 0) (stN K V h i) + rU (stN K V h i) := rfl
theorem st_1 : (stN K V h (i + 1)).getD 1 0 = (stN K V h i).getD 0 0 := rfl
theorem st_2 : (stN K V h (i + 1)).getD 2 0 = (stN K V h i).getD 1 0 := rfl
theorem st_3 : (stN K V h (i + 1)).getD 3 0 = (stN K V h i).getD 2 0 := rfl
theorem st_4 : (stN K V h (i + 1)).getD 4 0 = (stN K V h i).getD 3 0 + rT (K.getD i 0) (V.getD i 0) (stN K V h i) := rfl
theorem st_5 : (stN K V h (i + 1)).getD 5 0 = (stN K V h i).getD 4 0 := rfl
theorem st_6 : (stN K V h (i + 1)).getD 6 0 = (stN K V h i).getD 5 0 := rfl
theorem st_7 : (stN K V h (i + 1)).getD 7 0 = (stN K V h i).getD 6 0 := rfl
end
/-- the words of a block in place -/
def WZ (bs : List UInt8) (i : Nat) : List UInt32 := mix (W bs) (List.replicate 64 0) i
theorem WZ_len (bs : List UInt8) (i : Nat) : (WZ bs i).length = 64 := mix_len (W_len bs) (List.length_replicate ..)
theorem WZ_0 (bs : List UInt8) : WZ bs 0 = List.replicate 64 0 := mix_0 _ _
theorem WZ_all (bs : List UInt8) : WZ bs 64 = W bs := mix_all (W_len bs) (List.length_replicate ..) (Nat.le_refl _)
theorem WZ_lo {bs : List UInt8} {i k : Nat} (hb : bs.length = 64) (hi : i < 16) (hk : k = 4) : (WZ bs i).set i (UInt32.ofNat (UInt64.ofNat (natLE (((bs.drop (4 * i)).take k).reverse))).toNat) = WZ bs (i + 1) := by
  rw [wrd_get (by omega) hk, ← W_lo hi]
  exact mix_set (W_len bs) (List.length_replicate ..) (by omega)
theorem WZ_hi {bs : List UInt8} {i : Nat} (h1 : 16 ≤ i) (h2 : i < 64) {x : UInt32} (hx : x = wNext (WZ bs i) i) : (WZ bs i).set i x = WZ bs (i + 1) := by
  have e : ∀ j, j < i → (WZ bs i).getD j 0 = (W bs).getD j 0 := fun j hj => mix_lt (W_len bs) (by omega) hj
  have : x = (W bs).getD i 0 := by
    rw [hx, W_hi (by omega) h2, wNext, wNext, e _ (by omega), e _ (by omega), e _ (by omega), e _ (by omega)]
  rw [this]
  exact mix_set (W_len bs) (List.length_replicate ..) h2
theorem wL_lo4 {bs : List UInt8} {i : Nat} (hb : bs.length = 64) (hi : i < 16) :
    wL bs i ++ ([shl32 (UInt32.ofNat (bs.getD (4 * i) 0).toNat) 24 + shl32 (UInt32.ofNat (bs.getD (4 * i + 1) 0).toNat) 16 + shl32 (UInt32.ofNat (bs.getD (4 * i + 2) 0).toNat) 8 + UInt32.ofNat (bs.getD (4 * i + 3) 0).toNat] : List UInt32) = wL bs (i + 1) := by
  rw [wrd_sum (by omega)]
  exact wL_lo hi
theorem wL_hi4 {bs : List UInt8} {i : Nat} (h1 : 16 ≤ i) {x : UInt32} (hx : x = wNext (wL bs i) i) : wL bs i ++ ([x] : List UInt32) = wL bs (i + 1) := by
  rw [hx]; exact wL_hi (by omega)
/-! what is pressed: from its head on -/
theorem pr_step {K h : List UInt32} {bs : List UInt8} {i : Nat} (hh : h.length = 8) (hi : i < 8) : (mix (pressL K h bs) h i).set i ((mix (pressL K h bs) h i).getD i 0 + (stN K (W bs) h 64).getD i 0) = mix (pressL K h bs) h (i + 1) := by
  rw [mix_get (pressL_len ..) hi, ← pressL_get hi]
  exact mix_set (pressL_len ..) hh hi
theorem pr_stepR {K h : List UInt32} {bs : List UInt8} {i : Nat} (hh : h.length = 8) (hi : i < 8) : (mix (pressL K h bs) (stN K (W bs) h 64) i).set i ((mix (pressL K h bs) (stN K (W bs) h 64) i).getD i 0 + h.getD i 0) = mix (pressL K h bs) (stN K (W bs) h 64) (i + 1) := by
  rw [mix_get (pressL_len ..) hi, UInt32.add_comm, ← pressL_get hi]
  exact mix_set (pressL_len ..) (stN_len hh 64) hi
theorem pr_all {K h s : List UInt32} {bs : List UInt8} (hs : s.length = 8) : mix (pressL K h bs) s 8 = pressL K h bs := mix_all (pressL_len ..) hs (Nat.le_refl _)
/-! padding -/
theorem mul8 (n : Nat) : UInt64.ofNat n * 8 = UInt64.ofNat (n * 8) := by
  apply UInt64.toNat_inj.1
  simp [UInt64.toNat_mul]
theorem zero_snoc (z : Nat) : List.replicate z (0 : UInt8) ++ ([0] : List UInt8) = List.replicate (z + 1) 0 := by
  rw [List.replicate_succ']
theorem pad_P {n : Nat} (hn : n * 8 < 18446744073709551616) : (([128] : List UInt8) ++ List.replicate ((119 - n % 64) % 64) (0 : UInt8)) ++ (leN 8 (UInt64.ofNat (n * 8)).toNat).reverse = padL n := by
  rw [nat64 hn]; rfl
theorem pad_J {bs : List UInt8} {n : Nat} (h : bs.length = n) : [bs, padL n].flatten = padded bs := by
  rw [padded, h]; simp
theorem pad_R {bs : List UInt8} {n z : Nat} (h : bs.length = n) (hz : z = (119 - n % 64) % 64) (hn : n * 8 < 18446744073709551616) : (((bs ++ ([128] : List UInt8)) ++ List.replicate z (0 : UInt8)) ++ ((leN 8 (UInt64.ofNat (n * 8)).toNat).reverse).take 8) = padded bs := by
  rw [List.take_of_length_le (by rw [List.length_reverse, leN_len]; exact Nat.le_refl _), padded, h, ← pad_P hn, hz]
  simp [List.append_assoc]
theorem rev8_snoc {x : UInt64} {j : Nat} (hj : j < 8) : ((leN 8 x.toNat).reverse).take j ++ ([UInt8.ofNat (shr64 x (8 * (7 - j))).toNat] : List UInt8) = ((leN 8 x.toNat).reverse).take (j + 1) := by
  rw [← be8_get hj, ← take_snoc _ _ _ (by rw [List.length_reverse, leN_len]; exact hj)]
theorem padded_len2 (bs : List UInt8) : (padded bs).length = bs.length + 9 + (119 - bs.length % 64) % 64 := by rw [padded, List.length_append, padL_len]; omega
theorem padL_pos (n : Nat) : (padL n).length = 9 + (119 - n % 64) % 64 := padL_len n
/-! a digest's bytes -/
theorem dig_set {h : List UInt32} {i : Nat} (hi : i < 32) : (mix (digL h) (List.replicate 32 0) i).set i (UInt8.ofNat (shr32 (h.getD (i / 4) 0) (24 - 8 * (i % 4))).toNat) = mix (digL h) (List.replicate 32 0) (i + 1) := by
  rw [← digL_get hi]
  exact mix_set (digL_len h) (List.length_replicate ..) hi
theorem dig_all (h : List UInt32) : mix (digL h) (List.replicate 32 0) 32 = digL h := mix_all (digL_len h) (List.length_replicate ..) (Nat.le_refl _)
theorem h_set {i : Nat} (hi : i < 8) : (mix hL (List.replicate 8 0) i).set i (hAt (i : Int)) = mix hL (List.replicate 8 0) (i + 1) := by
  rw [hAt_nat hi]
  exact mix_set hL_len (List.length_replicate ..) hi
theorem ovr_all {l r : List UInt8} {n : Nat} (hl : l.length = n) (hr : r.length = n) : ovr r 0 l = l := by
  rw [ovr]; simp [hl, hr]
theorem fill1 {v : Value} {cells : List Value} {i : Nat} {rest : List (Nat × Value)} (hv : v.cells = #[v]) (hi : i < cells.length) : Instr.fill (fun i => some (i * 1, 1)) ⟨cells⟩ ((i, v) :: rest) = Instr.fill (fun i => some (i * 1, 1)) ⟨cells.set i v⟩ rest := by
  rw [Instr.fill]
  have h1 : ¬ (i + 1 > cells.length) := by omega
  simp [hv, h1]
theorem fill8 {z : Array Value} (hz : z = ⟨List.replicate 8 (vu32 0)⟩) (a b c d e f g h : UInt32) : Instr.fill (fun i => some (i * 1, 1)) z [(0, vu32 a), (1, vu32 b), (2, vu32 c), (3, vu32 d), (4, vu32 e), (5, vu32 f), (6, vu32 g), (7, vu32 h)] = some ⟨([a, b, c, d, e, f, g, h] : List UInt32).map vu32⟩ := by
  subst hz
  generalize ha : vu32 a = A, hb : vu32 b = B, hc : vu32 c = C, hd : vu32 d = D, he : vu32 e = E, hf : vu32 f = F, hg : vu32 g = G, hh : vu32 h = H
  have cA : A.cells = #[A] := by rw [← ha]; rfl
  have cB : B.cells = #[B] := by rw [← hb]; rfl
  have cC : C.cells = #[C] := by rw [← hc]; rfl
  have cD : D.cells = #[D] := by rw [← hd]; rfl
  have cE : E.cells = #[E] := by rw [← he]; rfl
  have cF : F.cells = #[F] := by rw [← hf]; rfl
  have cG : G.cells = #[G] := by rw [← hg]; rfl
  have cH : H.cells = #[H] := by rw [← hh]; rfl
  rw [fill1 cA (by simp), fill1 cB (by simp), fill1 cC (by simp), fill1 cD (by simp), fill1 cE (by simp), fill1 cF (by simp), fill1 cG (by simp), fill1 cH (by simp), Instr.fill]
  simp only [List.map_cons, List.map_nil, ha, hb, hc, hd, he, hf, hg, hh]
  rfl
end Go.Sh
