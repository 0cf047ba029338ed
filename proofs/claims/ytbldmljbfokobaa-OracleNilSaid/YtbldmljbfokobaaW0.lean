/- Hexadecimal texts, packed lists, cut bytes: plain laws. Conditions: those that each theorem states. -/
import Derived.Test.YtbldmljbfokobaaVcZ
set_option linter.unusedVariables false
set_option linter.unusedSimpArgs false
namespace Go.Wr
open Go.Vc
def dig (c : UInt8) : UInt8 := if 48 ≤ c ∧ c ≤ 57 then c - 48 else if 97 ≤ c ∧ c ≤ 102 then c - 97 + 10 else 16
def hdg (k : UInt8) : UInt8 := if k < 10 then 48 + k else 87 + k
def hexL : List UInt8 → List UInt8
  | [] => []
  | b :: r => hdg (b / 16) :: hdg (b % 16) :: hexL r
theorem hexL_len : ∀ l : List UInt8, (hexL l).length = 2 * l.length
  | [] => rfl
  | b :: r => by simp [hexL, hexL_len r]; omega
theorem hexL_app : ∀ a b : List UInt8, hexL (a ++ b) = hexL a ++ hexL b
  | [], b => rfl
  | x :: a, b => by simp [hexL, hexL_app a b]
def hb (l : List UInt8) (j : Nat) : UInt8 := dig (l.getD (2 * j) 0) * 16 + dig (l.getD (2 * j + 1) 0)
def hg (l : List UInt8) (j : Nat) : Bool := decide (dig (l.getD (2 * j) 0) ≤ 15) && decide (dig (l.getD (2 * j + 1) 0) ≤ 15)
def unhexL (l : List UInt8) (k : Nat) : List UInt8 := (List.range k).map (hb l)
theorem unhexL_len (l : List UInt8) (k : Nat) : (unhexL l k).length = k := by simp [unhexL]
theorem unhexL_succ (l : List UInt8) (k : Nat) : unhexL l (k + 1) = unhexL l k ++ [hb l k] := by simp [unhexL, List.range_succ]
def okHex (l : List UInt8) : Bool := decide (l.length % 2 = 0) && (List.range (l.length / 2)).all (hg l)
theorem okHex_bad {l : List UInt8} {k : Nat} (h : 2 * k + 1 < l.length) (hk : hg l k = false) : okHex l = false := by
  have : (List.range (l.length / 2)).all (hg l) = false := by
    rw [List.all_eq_false]; exact ⟨k, List.mem_range.2 (by omega), by simp [hk]⟩
  simp [okHex, this]
theorem okHex_good {l : List UInt8} (h : okHex l = true) : l.length % 2 = 0 ∧ ∀ j, 2 * j < l.length → hg l j = true := by
  simp only [okHex, Bool.and_eq_true, decide_eq_true_eq, List.all_eq_true, List.mem_range] at h
  exact ⟨h.1, fun j hj => h.2 j (by omega)⟩
theorem okHex_of {l : List UInt8} (h : l.length % 2 = 0) (h2 : ∀ j, 2 * j < l.length → hg l j = true) : okHex l = true := by
  simp only [okHex, Bool.and_eq_true, decide_eq_true_eq, List.all_eq_true, List.mem_range]
  exact ⟨h, fun j hj => h2 j (by omega)⟩
theorem dig_hdg : ∀ k : Nat, k < 16 → dig (hdg (UInt8.ofNat k)) = UInt8.ofNat k := by decide
theorem dig_hdg' (k : UInt8) (h : k.toNat < 16) : dig (hdg k) = k := by
  have := dig_hdg k.toNat h
  simpa using this
theorem split_byte (b : UInt8) : b / 16 * 16 + b % 16 = b := by
  apply UInt8.toNat_inj.1
  have := b.toNat_lt
  have e : (16 : UInt8).toNat = 16 := rfl
  simp only [UInt8.toNat_add, UInt8.toNat_mul, UInt8.toNat_div, UInt8.toNat_mod, e]
  omega
theorem hexL_get : ∀ (l : List UInt8) (j : Nat), j < l.length → (hexL l).getD (2 * j) 0 = hdg (l.getD j 0 / 16) ∧ (hexL l).getD (2 * j + 1) 0 = hdg (l.getD j 0 % 16)
  | [], j, h => by simp at h
  | b :: r, 0, _ => ⟨rfl, rfl⟩
  | b :: r, j + 1, h => by
    have := hexL_get r j (by simpa using h)
    rw [show 2 * (j + 1) = 2 * j + 1 + 1 by omega]
    simpa [hexL] using this
theorem hex_hb {l : List UInt8} {j : Nat} (h : j < l.length) : hg (hexL l) j = true ∧ hb (hexL l) j = l.getD j 0 := by
  obtain ⟨h1, h2⟩ := hexL_get l j h
  have hb' := (l.getD j 0).toNat_lt
  have e : (16 : UInt8).toNat = 16 := rfl
  have d1 : dig ((hexL l).getD (2 * j) 0) = l.getD j 0 / 16 := by rw [h1, dig_hdg' _ (by rw [UInt8.toNat_div, e]; omega)]
  have d2 : dig ((hexL l).getD (2 * j + 1) 0) = l.getD j 0 % 16 := by rw [h2, dig_hdg' _ (by rw [UInt8.toNat_mod, e]; omega)]
  refine ⟨?_, by rw [hb, d1, d2, split_byte]⟩
  rw [hg, d1, d2, Bool.and_eq_true]
  refine ⟨decide_eq_true ?_, decide_eq_true ?_⟩
  · rw [UInt8.le_iff_toNat_le, UInt8.toNat_div, e]; show _ ≤ 15; omega
  · rw [UInt8.le_iff_toNat_le, UInt8.toNat_mod, e]; show _ ≤ 15; omega
theorem hex_ok (l : List UInt8) : okHex (hexL l) = true :=
  okHex_of (by rw [hexL_len]; omega) fun j hj => (hex_hb (by rw [hexL_len] at hj; omega)).1
theorem hex_back (l : List UInt8) : unhexL (hexL l) ((hexL l).length / 2) = l := by
  apply List.ext_getElem
  · rw [unhexL_len, hexL_len]; omega
  · intro i h1 h2
    have := (hex_hb h2).2
    simp only [unhexL, List.getElem_map, List.getElem_range, this]
    simp [h2]
/-! packed lists -/
def pk1 (l : List UInt8) : List UInt8 := leN 4 l.length ++ l
def packL : List (List UInt8) → List UInt8
  | [] => []
  | l :: ls => pk1 l ++ packL ls
theorem packL_app : ∀ a b : List (List UInt8), packL (a ++ b) = packL a ++ packL b
  | [], b => rfl
  | x :: a, b => by simp [packL, packL_app a b]
theorem packL_snoc {ls : List (List UInt8)} {k : Nat} (h : k < ls.length) : packL (ls.take (k + 1)) = packL (ls.take k) ++ pk1 (ls.getD k []) := by
  rw [take_snoc ls k [] h, packL_app]; simp [packL]
theorem packL_len : ∀ ls : List (List UInt8), (packL ls).length = 4 * ls.length + ls.flatten.length
  | [] => rfl
  | l :: ls => by simp [packL, pk1, packL_len ls, leN_len]; omega
def small (l : List UInt8) : Bool := decide (l.length ≤ 65536)
def mayPack (ls : List (List UInt8)) : Bool := ls.all small && decide (ls.length ≤ 64)
def unpk : Nat → List UInt8 → Option (List (List UInt8))
  | 0, r => if r = [] then some [] else none
  | c + 1, r => if r = [] then some [] else if r.length < 4 then none else if natLE (r.take 4) > 65536 ∨ natLE (r.take 4) > r.length - 4 then none else
    (unpk c ((r.drop 4).drop (natLE (r.take 4)))).map (((r.drop 4).take (natLE (r.take 4))) :: ·)
theorem unpk_pack : ∀ (c : Nat) (ls : List (List UInt8)), ls.length ≤ c → ls.all small = true → unpk c (packL ls) = some ls
  | 0, [], _, _ => rfl
  | c + 1, [], _, _ => rfl
  | 0, l :: ls, h, _ => by simp at h
  | c + 1, l :: ls, h, hs => by
    simp only [List.all_cons, Bool.and_eq_true, small, decide_eq_true_eq] at hs
    have h1 : l.length < 256 ^ 4 := Nat.lt_of_le_of_lt hs.1 (by decide)
    have hl : (leN 4 l.length).length = 4 := leN_len ..
    have e4 : (packL (l :: ls)).take 4 = leN 4 l.length := by rw [packL, pk1, List.append_assoc, List.take_left' hl]
    have d4 : (packL (l :: ls)).drop 4 = l ++ packL ls := by rw [packL, pk1, List.append_assoc, List.drop_left' hl]
    have n4 : natLE (leN 4 l.length) = l.length := by rw [natLE_leN, Nat.mod_eq_of_lt h1]
    have hn : (packL (l :: ls)).length = 4 + l.length + (packL ls).length := by rw [packL, pk1, List.length_append, List.length_append, hl]
    have hne : packL (l :: ls) ≠ [] := by intro e; rw [e, List.length_nil] at hn; omega
    rw [unpk, if_neg hne, if_neg (by omega), e4, n4, if_neg (by omega), d4, List.drop_left, List.take_left, unpk_pack c ls (by simpa using h) hs.2]
    rfl
theorem pack_back {ls : List (List UInt8)} (h : mayPack ls = true) : unpk 64 (packL ls) = some ls := by
  simp only [mayPack, Bool.and_eq_true, decide_eq_true_eq] at h
  exact unpk_pack 64 ls h.2 h.1
theorem pack_inj {a b : List (List UInt8)} (ha : mayPack a = true) (hb : mayPack b = true) : packL a = packL b ↔ a = b := by
  refine ⟨fun e => ?_, fun e => e ▸ rfl⟩
  have h1 := pack_back ha
  rw [e, pack_back hb] at h1
  exact (Option.some.inj h1).symm
/-! bytes that are cut -/
def cutL : List Nat → List UInt8 → Option (List (List UInt8))
  | [], r => if r = [] then some [] else none
  | n :: ns, r => if n > r.length then none else (cutL ns (r.drop n)).map (r.take n :: ·)
theorem cut_join : ∀ ls : List (List UInt8), cutL (ls.map List.length) ls.flatten = some ls
  | [] => rfl
  | l :: ls => by
    rw [List.map_cons, cutL, List.flatten_cons, if_neg (by rw [List.length_append]; omega), List.drop_left, List.take_left, cut_join ls]; rfl
theorem cut_more : ∀ (ls : List (List UInt8)) (x : UInt8) (r : List UInt8), cutL (ls.map List.length) (ls.flatten ++ (x :: r)) = none
  | [], x, r => rfl
  | l :: ls, x, r => by
    rw [List.map_cons, cutL, List.flatten_cons, if_neg (by simp only [List.length_append]; omega), List.append_assoc, List.drop_left, cut_more ls x r]; rfl
theorem cut_flat : ∀ {ns : List Nat} {r : List UInt8} {ls : List (List UInt8)}, cutL ns r = some ls → ls.flatten = r ∧ ls.map List.length = ns
  | [], r, ls, h => by
    rw [cutL] at h; split at h
    · rename_i e; cases h; simp [e]
    · cases h
  | n :: ns, r, ls, h => by
    rw [cutL] at h; split at h
    · cases h
    · rename_i hn
      rcases e : cutL ns (r.drop n) with _ | m
      · rw [e] at h; cases h
      · rw [e] at h; cases h
        obtain ⟨h1, h2⟩ := cut_flat e
        refine ⟨by rw [List.flatten_cons, h1, List.take_append_drop], by rw [List.map_cons, h2, List.length_take]; congr 1; omega⟩
theorem flat_take_le (ls : List (List UInt8)) (k : Nat) : ((ls.take k).flatten).length ≤ ls.flatten.length := by
  have h : ls.flatten = (ls.take k).flatten ++ (ls.drop k).flatten := by rw [← List.flatten_append, List.take_append_drop]
  rw [h, List.length_append]; omega
theorem flat_take {ls : List (List UInt8)} {k : Nat} (h : k < ls.length) : (ls.take (k + 1)).flatten = (ls.take k).flatten ++ ls.getD k [] := by
  rw [take_snoc ls k [] h, List.flatten_append]; simp
end Go.Wr
