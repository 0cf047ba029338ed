/- Numbers and bytes: rules for walks, proved here for every program of the model. Conditions: none beyond what each theorem states. -/
import Derived.Test.YtbldmljbfokobaaVcL
set_option linter.unusedVariables false
set_option linter.unusedSimpArgs false
namespace Go.Vc
open Go.RowKit
set_option linter.unusedSectionVars false

/-! ## numbers and bytes -/
def natLE : List UInt8 → Nat
  | [] => 0
  | b :: r => b.toNat + 256 * natLE r
def leN : Nat → Nat → List UInt8
  | 0, _ => []
  | n + 1, x => UInt8.ofNat x :: leN n (x / 256)
theorem leN_len : ∀ (n x : Nat), (leN n x).length = n
  | 0, _ => rfl
  | n + 1, x => by simp [leN, leN_len n]
theorem natLE_lt : ∀ (l : List UInt8), natLE l < 256 ^ l.length
  | [] => by simp [natLE]
  | b :: r => by
    have := natLE_lt r
    have hb := b.toNat_lt
    simp only [natLE, List.length_cons, Nat.pow_succ]
    omega
theorem natLE_leN : ∀ (n x : Nat), natLE (leN n x) = x % 256 ^ n
  | 0, x => by simp [leN, natLE, Nat.mod_one]
  | n + 1, x => by
    have h1 : (UInt8.ofNat x).toNat = x % 256 := by simp
    simp only [leN, natLE, natLE_leN n, h1]
    rw [Nat.pow_succ, Nat.mul_comm (256 ^ n) 256, Nat.mod_mul]
theorem leN_natLE : ∀ (l : List UInt8), leN l.length (natLE l) = l
  | [] => rfl
  | b :: r => by
    have hb := b.toNat_lt
    have h1 : (b.toNat + 256 * natLE r) / 256 = natLE r := by omega
    have h2 : UInt8.ofNat (b.toNat + 256 * natLE r) = b := by
      apply UInt8.toNat_inj.1
      simp
    simp only [List.length_cons, natLE, leN, h1, h2, leN_natLE r]
theorem natLE_append : ∀ (a b : List UInt8), natLE (a ++ b) = natLE a + 256 ^ a.length * natLE b
  | [], b => by rw [List.nil_append, natLE, List.length_nil, Nat.pow_zero, Nat.one_mul, Nat.zero_add]
  | x :: a, b => by
    simp only [List.cons_append, natLE, natLE_append a b, List.length_cons, Nat.pow_succ, Nat.mul_add]
    rw [Nat.mul_comm (256 ^ a.length) 256, Nat.mul_assoc, Nat.add_assoc]
theorem take_snoc {α : Type} (l : List α) (k : Nat) (d : α) (hk : k < l.length) : l.take (k + 1) = l.take k ++ [l.getD k d] := by
  rw [List.take_add_one]; simp [hk]
theorem natLE_take (l : List UInt8) (k : Nat) (hk : k < l.length) : natLE (l.take (k + 1)) = natLE (l.take k) + 256 ^ k * (l.getD k 0).toNat := by
  rw [take_snoc l k 0 hk, natLE_append]
  simp only [List.length_take, natLE, Nat.mul_zero, Nat.add_zero]
  rw [Nat.min_eq_left (by omega)]
theorem leN_snoc : ∀ (n x : Nat), leN (n + 1) x = leN n x ++ [UInt8.ofNat (x / 256 ^ n)]
  | 0, x => by simp [leN]
  | n + 1, x => by
    have := leN_snoc n (x / 256)
    rw [leN, this, leN]
    simp only [List.cons_append]
    rw [Nat.pow_succ, Nat.mul_comm (256 ^ n) 256, Nat.div_div_eq_div_mul]
theorem leN_mod : ∀ (n x : Nat), leN n (x % 256 ^ n) = leN n x := by
  intro n x
  have h := leN_natLE (leN n x)
  rw [leN_len, natLE_leN] at h; exact h
theorem pow256 (k : Nat) : 256 ^ k = 2 ^ (8 * k) := by rw [Nat.pow_mul]
theorem or_shl {n b k : Nat} (hn : n < 256 ^ k) (hk : k < 8) (hb : b < 256) : UInt64.ofNat n ||| shl64 (UInt64.ofNat b) (8 * k) = UInt64.ofNat (n + 256 ^ k * b) := by
  have h8 : 256 ^ k * 256 ≤ 256 ^ 8 := by
    rw [← Nat.pow_succ]; exact Nat.pow_le_pow_right (by omega) (by omega)
  have hb' : 256 ^ k * b + 256 ^ k ≤ 256 ^ k * 256 := by
    rw [← Nat.mul_succ]; exact Nat.mul_le_mul_left _ (by omega)
  have e8 : (256 : Nat) ^ 8 = 18446744073709551616 := by decide
  have hk2 : 256 ^ k ≤ 18446744073709551616 := by omega
  apply UInt64.toNat_inj.1
  have h1 : (UInt64.ofNat b).toNat = b := by simp; omega
  have hc : b * 2 ^ (8 * k) = 256 ^ k * b := by rw [← pow256, Nat.mul_comm]
  rw [UInt64.toNat_or, shl64, h1, hc]
  have h2 : (UInt64.ofNat n).toNat = n := by simp; omega
  have h3 : (UInt64.ofNat (256 ^ k * b)).toNat = 256 ^ k * b := by simp; omega
  have h4 : (UInt64.ofNat (n + 256 ^ k * b)).toNat = n + 256 ^ k * b := by simp; omega
  rw [h2, h3, h4]
  have := Nat.shiftLeft_add_eq_or_of_lt (i := 8 * k) (b := n) (by rw [← pow256]; exact hn) b
  rw [Nat.shiftLeft_eq, hc] at this
  rw [Nat.or_comm, ← this, Nat.add_comm]
theorem shr_byte (x : UInt64) (k : Nat) : UInt8.ofNat (shr64 x (8 * k)).toNat = UInt8.ofNat (x.toNat / 256 ^ k) := by
  have hx := x.toNat_lt
  have : x.toNat / 2 ^ (8 * k) ≤ x.toNat := Nat.div_le_self _ _
  rw [shr64, pow256]
  have h1 : (UInt64.ofNat (x.toNat / 2 ^ (8 * k))).toNat = x.toNat / 2 ^ (8 * k) := by simp; omega
  rw [h1]
theorem u64_nat (x : UInt64) : UInt64.ofNat x.toNat = x := by simp
theorem word_back (x : UInt64) : UInt64.ofNat (natLE (leN 8 x.toNat)) = x := by
  have hx := x.toNat_lt
  rw [natLE_leN, Nat.mod_eq_of_lt (by have : (256 : Nat) ^ 8 = 2 ^ 64 := by decide
                                      omega), u64_nat]
theorem bytes_back {l : List UInt8} (h : l.length = 8) : leN 8 (UInt64.ofNat (natLE l)).toNat = l := by
  have h1 := natLE_lt l
  rw [h] at h1
  have : (256 : Nat) ^ 8 = 18446744073709551616 := by decide
  have h2 : (UInt64.ofNat (natLE l)).toNat = natLE l := by simp; omega
  rw [h2]
  conv => lhs; rw [← h]
  exact leN_natLE l
theorem natLE_u64 {l : List UInt8} (h : l.length ≤ 8) : (UInt64.ofNat (natLE l)).toNat = natLE l := by
  have h1 := natLE_lt l
  have h2 : 256 ^ l.length ≤ 256 ^ 8 := Nat.pow_le_pow_right (by omega) h
  have : (256 : Nat) ^ 8 = 18446744073709551616 := by decide
  simp; omega

/-! int to uint64 and back -/
def i2u (x : Int) : UInt64 := UInt64.ofNat (x % 18446744073709551616).toNat
def u2i (x : UInt64) : Int := if x.toNat < 9223372036854775808 then x.toNat else (x.toNat : Int) - 18446744073709551616
theorem w64_int (x : Int) : IntKind.u64.wrap x = (i2u x).toNat := by
  rw [w64, i2u]
  simp; omega
theorem wi64_u (x : UInt64) : IntKind.i64.wrap x.toNat = u2i x := by
  have hx := x.toNat_lt
  have h1 : (2 : Int) ^ IntKind.i64.bits = 18446744073709551616 := by decide
  have h2 : (2 : Int) ^ (IntKind.i64.bits - 1) = 9223372036854775808 := by decide
  unfold IntKind.wrap u2i
  simp only [h1, h2, IntKind.signed, Bool.true_and, decide_eq_true_eq]
  split <;> split <;> omega
theorem i2u_nat (n : Nat) : i2u (n : Int) = UInt64.ofNat n := by
  apply UInt64.toNat_inj.1
  rw [i2u]; simp; omega
theorem u2i_small {x : UInt64} (h : x.toNat < 9223372036854775808) : u2i x = x.toNat := if_pos h
theorem i2u_u2i (x : UInt64) : i2u (u2i x) = x := by
  have hx := x.toNat_lt
  apply UInt64.toNat_inj.1
  rw [i2u, u2i]
  split
  · simp; omega
  · simp; omega
theorem u2i_i2u {x : Int} (h : -9223372036854775808 ≤ x ∧ x < 9223372036854775808) : u2i (i2u x) = x := by
  have h1 : (i2u x).toNat = (x % 18446744073709551616).toNat := by rw [i2u]; simp; omega
  rw [u2i, h1]; split <;> omega
theorem u2i_bd (x : UInt64) : -9223372036854775808 ≤ u2i x ∧ u2i x < 9223372036854775808 := by
  have := x.toNat_lt
  unfold u2i; split <;> omega
theorem four {α : Type} {l : List α} (h : l.length = 4) : ∃ a b c d, l = [a, b, c, d] := by
  match l, h with
  | [a, b, c, d], _ => exact ⟨a, b, c, d, rfl⟩
theorem i2u_inj {x y : Int} (hx : -9223372036854775808 ≤ x ∧ x < 9223372036854775808) (hy : -9223372036854775808 ≤ y ∧ y < 9223372036854775808) (h : i2u x = i2u y) : x = y := by
  rw [← u2i_i2u hx, ← u2i_i2u hy, h]

/-! ## a list written over from i on -/
def ovr {α : Type} (l : List α) (i : Nat) (c : List α) : List α := l.take i ++ (c ++ l.drop (i + c.length))
section
variable {α : Type}
theorem ovr_len {l c : List α} {i K : Nat} (hl : l.length = K) (h : i + c.length ≤ K) : (ovr l i c).length = K := by
  simp only [ovr, List.length_append, List.length_take, List.length_drop, hl]; omega
theorem cpOvr {l c : List α} {i q : Nat} {f : α → Value} (hc : c.length = q) : (l.map f).take i ++ ((c.map f).take q ++ (l.map f).drop (i + q)) = (ovr l i c).map f := by
  subst hc
  rw [ovr, List.take_of_length_le (l := c.map f) (by simp), List.map_append, List.map_append, List.map_take, List.map_drop]
theorem ovr_nil {l : List α} {i : Nat} : ovr l i [] = l := by simp [ovr]
theorem ovr_snoc {l c : List α} {i : Nat} {x : α} (h : i + c.length < l.length) : (ovr l i c).set (i + c.length) x = ovr l i (c ++ [x]) := by
  have h1 : (l.take i ++ c).length = i + c.length := by rw [List.length_append, List.length_take]; omega
  unfold ovr
  rw [← List.append_assoc, List.set_append_right _ _ (by omega), h1, Nat.sub_self, List.drop_eq_getElem_cons h, List.set_cons_zero]
  simp only [List.append_assoc, List.cons_append, List.nil_append, List.length_append, List.length_cons, List.length_nil, Nat.zero_add, Nat.add_assoc]
theorem ovr_get_lt {l c : List α} {i j : Nat} {d : α} (h : j < i) (hi : i ≤ l.length) : (ovr l i c).getD j d = l.getD j d := by
  have h1 : j < (l.take i).length := by rw [List.length_take]; omega
  have h2 : j < l.length := by omega
  simp only [List.getD_eq_getElem?_getD, ovr, List.getElem?_append_left h1, List.getElem?_take, if_pos h]
theorem ovr_mid {l c : List α} {i : Nat} (hi : i ≤ l.length) : ((ovr l i c).drop i).take c.length = c := by
  have h1 : (l.take i).length = i := by rw [List.length_take]; omega
  unfold ovr
  rw [List.drop_append, h1, Nat.sub_self, List.drop_zero, List.drop_of_length_le (by omega), List.nil_append, List.take_left]
/-- a window that the writing does not touch, ahead of it -/
theorem ovr_win_lt {l c : List α} {i j n : Nat} (h : j + n ≤ i) (hi : i + c.length ≤ l.length) : ((ovr l i c).drop j).take n = (l.drop j).take n := by
  have h1 : (l.take i).length = i := by rw [List.length_take]; omega
  have h2 : (l.drop j).take n = ((l.take i).drop j).take n := by
    rw [List.drop_take, List.take_take, Nat.min_eq_left (by omega)]
  rw [h2, ovr, List.drop_append_of_le_length (by omega), List.take_append_of_le_length (by rw [List.length_drop]; omega)]
/-- and behind it -/
theorem ovr_win_gt {l c : List α} {i j n : Nat} (h : i + c.length ≤ j) (hi : i + c.length ≤ l.length) : ((ovr l i c).drop j).take n = (l.drop j).take n := by
  have h1 : (l.take i ++ c).length = i + c.length := by rw [List.length_append, List.length_take]; omega
  rw [ovr, ← List.append_assoc, List.drop_append, List.drop_of_length_le (by omega), List.nil_append, List.drop_drop, h1]
  congr 2; omega
end

theorem take_min {α : Type} (l : List α) (k : Nat) : l.take (min k l.length) = l.take k := by
  by_cases h : k ≤ l.length
  · rw [Nat.min_eq_left h]
  · rw [Nat.min_eq_right (by omega), List.take_of_length_le (by omega), List.take_of_length_le (by omega)]
/-- the number of eight bytes -/
def wordB (bs : List UInt8) (i : Nat) : UInt64 := UInt64.ofNat (natLE ((bs.drop (8 * i)).take 8))
theorem word_cut {α : Type} {bs : List α} {n i : Nat} (hl : bs.length = n) : (bs.drop (min (8 * i) n)).take (min (min (8 * i) n + 8) n - min (8 * i) n) = (bs.drop (8 * i)).take 8 := by
  by_cases h : 8 * i ≤ n
  · rw [Nat.min_eq_left h, ← take_min (bs.drop (8 * i)) 8, List.length_drop, hl]
    congr 1; omega
  · rw [Nat.min_eq_right (a := 8 * i) (by omega), List.drop_of_length_le (by omega), List.drop_of_length_le (by omega), List.take_nil, List.take_nil]
theorem word_none {bs : List UInt8} {n i : Nat} (hl : bs.length = n) (h : n ≤ i) : wordB bs i = 0 := by
  rw [wordB, List.drop_of_length_le (by omega)]; rfl
theorem View.slM {α : Type} {w : World} {f : α → Value} {bs : List α} {a : Option Addr} {l m k : Nat} (h : View w a (bs.map f)) (hk : l + k ≤ m) : View w (slA a l m 1) (((bs.drop l).take k).map f) := by
  have := h.sl l m k 1 hk
  rwa [Nat.mul_one, Nat.mul_one, ← List.map_drop, ← List.map_take] at this

theorem wordB_ovr_eq {g : List UInt8} {i : Nat} {x : UInt64} (h : 8 * i ≤ g.length) : wordB (ovr g (8 * i) (leN 8 x.toNat)) i = x := by
  have := ovr_mid (c := leN 8 x.toNat) h
  rw [leN_len] at this
  rw [wordB, this, word_back]
theorem wordB_ovr_ne {g c : List UInt8} {i j : Nat} (hc : c.length = 8) (h : 8 * j + 8 ≤ g.length) (hij : i ≠ j) : wordB (ovr g (8 * j) c) i = wordB g i := by
  unfold wordB
  rcases Nat.lt_or_gt_of_ne hij with hlt | hgt
  · rw [ovr_win_lt (by omega) (by omega)]
  · rw [ovr_win_gt (by omega) (by omega)]

/-! ## calls that write into a block of the caller's -/
section
variable {P : Program} {w w' w0 : World} {L L' : List Ent}
theorem HP.passed {b : Nat} {m : Md} {T : TypeId} {segs segs' : List Sgm} (h : HP w0 w L) (hat : At (.blk b m T segs) (.blk b m T segs') L L') (hmut : m ≠ .ro) (hc : Chg w w' [b]) (hok : SsOk segs') (hcells : CellsAt w' b T (flat segs')) : HP w0 w' L' := by
  have hmd := (h.ok _ hat.mem).2.2
  refine h.set hat (by simp [Ent.mut, hmut]) hc ⟨hok, hcells, hmd⟩ (fun _ h => .inl h) (fun h => ⟨h, rfl⟩) (fun ha b' hb' => ?_)
  simp only [Ent.blocks, List.mem_singleton] at hb'; subst hb'
  cases m with
  | ro => exact absurd rfl hmut
  | ar => simp [Ent.isAr] at ha
  | nw => exact hmd
theorem HP.arg {b : Nat} {m : Md} {T : TypeId} {segs : List Sgm} (h : HP w0 w L) (hm : Ent.blk b m T segs ∈ L) : (Ent.blk b .ar T segs).ok w.heap.size w :=
  ⟨(h.ok _ hm).1, (h.ok _ hm).2.1, Ent.lt (h.ok _ hm) b (by simp [Ent.blocks])⟩
theorem View.arg {a : Option Addr} {xs : List Value} (h : View w a xs) : (Ent.view a xs).ok w.heap.size w := by
  refine ⟨h, fun ad ha hx => ?_⟩
  obtain ⟨x, r, rfl⟩ := List.exists_cons_of_ne_nil hx
  obtain ⟨ad', e, hcell⟩ := h 0 x rfl
  rw [ha] at e; cases e
  have := block_lt_of_cell hcell
  simpa [Addr.add_block] using this
theorem HP.ne {e f : Ent} {i j : Nat} (h : HP w0 w L) (hi : L[i]? = some e) (hj : L[j]? = some f) (hij : Nat.blt i j = true) : Sep e f := by
  have hij' : i < j := by simpa [Nat.blt_eq] using hij
  obtain ⟨h1, rfl⟩ := List.getElem?_eq_some_iff.1 hi
  obtain ⟨h2, rfl⟩ := List.getElem?_eq_some_iff.1 hj
  exact List.pairwise_iff_getElem.1 h.sep i j h1 h2 hij'
theorem Sep.viewBlk {b b2 off : Nat} {m : Md} {T : TypeId} {segs : List Sgm} {xs : List Value} (h : b2 ≠ b) : Sep (.view (some ⟨b2, off, none⟩) xs) (.blk b m T segs) := by
  intro _ b' hb' hb
  cases xs with
  | nil => simp [Ent.blocks] at hb'
  | cons x r => simp [Ent.blocks] at hb' hb; exact h (hb'.symm.trans hb)
theorem Sep.viewRow {a : Option Addr} {n cap s b : Nat} {m m' : Md} {T T' T'' : TypeId} {segs segs' : List Sgm} {xs ys : List Value} (h : Sep (.row a n cap T s xs) (.blk b m T' segs)) : Sep (.view a ys) (.blk b m' T'' segs') := by
  intro _ b' hb' hb
  refine h (.inl rfl) b' ?_ hb
  cases a with
  | none => simp [Ent.blocks] at hb'
  | some ad => cases ys with
    | nil => simp [Ent.blocks] at hb'
    | cons y r => simpa [Ent.blocks] using hb'
theorem Sep.view {a : Option Addr} {b : Nat} {m m' : Md} {T T' : TypeId} {segs segs' : List Sgm} {xs ys : List Value} (hm : m ≠ .ro) (hy : ys ≠ [] → xs ≠ []) (h : Sep (.view a xs) (.blk b m T segs)) : Sep (.view a ys) (.blk b m' T' segs') := by
  intro _ b' hb' hb
  refine h (.inr (by simp [Ent.mut, hm])) b' ?_ hb
  cases a with
  | none => simp [Ent.blocks] at hb'
  | some ad => cases ys with
    | nil => simp [Ent.blocks] at hb'
    | cons y r => cases xs with
      | nil => exact absurd rfl (hy (by simp))
      | cons x r => simpa [Ent.blocks] using hb'
theorem mul8 {k : Nat} (h : k < 8) : ((8 : UInt64) * UInt64.ofNat k).toNat = 8 * k := by
  match k, h with
  | 0, _ | 1, _ | 2, _ | 3, _ | 4, _ | 5, _ | 6, _ | 7, _ => rfl
theorem shl_byte {l : List UInt8} (b : UInt8) (h : l.length < 8) : shl64 (UInt64.ofNat (natLE l)) 8 + UInt64.ofNat b.toNat = UInt64.ofNat (natLE (b :: l)) := by
  have h1 := natLE_lt l
  have h2 : 256 ^ l.length ≤ 256 ^ 7 := Nat.pow_le_pow_right (by omega) (by omega)
  have h3 : (256 : Nat) ^ 7 = 72057594037927936 := by decide
  have hb := b.toNat_lt
  apply UInt64.toNat_inj.1
  have h4 : (UInt64.ofNat (natLE l)).toNat = natLE l := natLE_u64 (by omega)
  rw [UInt64.toNat_add, shl64, h4]
  simp [natLE]; omega
/-- a row that a callee made -/
theorem HP.gotRow {T : TypeId} {s n cap : Nat} {a : Option Addr} {xs : List Value} (h : HP w0 w L) (hc : Chg w w' []) (ho : Own w.heap.size w' T s a n cap xs) : HP w0 w' (.row a n cap T s xs :: L) := by
  obtain ⟨o1, o2, o3, o4, o5⟩ := ho
  refine h.push hc ⟨o1, o2, o3, o4, ?_⟩ rfl (fun b hb => ?_)
  · rcases o5 with o5 | ⟨g, cur, e, hg, r⟩
    · exact .inl o5
    · exact .inr ⟨g, cur, e, Nat.le_trans h.size hg, r⟩
  · rcases o5 with ⟨rfl, _⟩ | ⟨g, cur, rfl, hg, _⟩
    · simp [Ent.blocks] at hb
    · simp [Ent.blocks] at hb; subst hb; exact hg
end
end Go.Vc
