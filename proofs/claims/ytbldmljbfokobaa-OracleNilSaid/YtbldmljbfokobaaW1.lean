/- Lists of byte slices that are cut from bytes, packed lists and cut bytes step by step: plain laws. Conditions: those that each theorem states. -/
import Derived.Test.YtbldmljbfokobaaVcO
import Derived.Test.YtbldmljbfokobaaW0
set_option linter.unusedVariables false
set_option linter.unusedSimpArgs false
namespace Go.Vc
open Go.RowKit
section
variable {w w' w0 : World} {L L' : List Ent}
theorem sub_ne {l : List UInt8} {i k : Nat} (h : (l.drop i).take k ≠ []) : l ≠ [] := by rintro rfl; simp at h
/-- a list of byte slices grows by the head of the bytes that are left -/
theorem HP.cutPush {xs : List Value} {ls : List (List UInt8)} {a : Option Addr} {q n m B : Nat} {l : List UInt8} (h : HP w0 w L) (hm1 : Ent.pin (sblks xs) (fun w => Sls w xs ls) ∈ L) (hm2 : Ent.view a (l.map vu8) ∈ L)
    (hl : l.length = m) (hn : n ≤ m) (hq : m ≤ q) (hf1 : ∀ b ∈ sblks xs, B ≤ b) (hf2 : ∀ b ∈ (Ent.view a (l.map vu8)).blocks, B ≤ b) :
    HP w0 w (.view (slA a n q 1) ((l.drop n).map vu8) :: .pin (sblks (xs ++ [.slice (slA a 0 n 1) n n])) (fun w => Sls w (xs ++ [.slice (slA a 0 n 1) n n]) (ls ++ [l.take n])) :: L)
    ∧ (∀ b ∈ sblks (xs ++ [.slice (slA a 0 n 1) n n]), B ≤ b) ∧ (∀ b ∈ (Ent.view (slA a n q 1) ((l.drop n).map vu8)).blocks, B ≤ b) := by
  have hv : View w (slA a 0 n 1) ((l.take n).map vu8) := by
    have := View.slM (l := 0) (m := n) (k := n) (viewV (h.ok _ hm2)) (by omega)
    simpa using this
  have hb : ∀ b ∈ sblk (.slice (slA a 0 n 1) n n), b ∈ (Ent.view a (l.map vu8)).blocks := sblk_sl fun h1 => by rintro rfl; simp at hl; omega
  have h1 := h.slsPush hm1 hm2 hv (by rw [List.length_take]; omega) (Nat.le_refl n) hb
  refine ⟨h1.viewDrop (List.mem_cons_of_mem _ hm2) (by omega), fun b hb' => ?_, fun b hb' => hf2 b (view_sl_blocks (fun h2 => by rintro rfl; exact h2 (by simp)) b hb')⟩
  rw [sblks_append] at hb'
  rcases List.mem_append.1 hb' with hb1 | hb1
  · exact hf1 b hb1
  · simp only [sblks, List.append_nil] at hb1
    exact hf2 b (hb b hb1)
/-- a list of byte slices grows by a part of some bytes -/
theorem HP.partPush {xs : List Value} {ls : List (List UInt8)} {a : Option Addr} {i q k c m : Nat} {l : List UInt8} (h : HP w0 w L) (hm1 : Ent.pin (sblks xs) (fun w => Sls w xs ls) ∈ L) (hm2 : Ent.view a (l.map vu8) ∈ L)
    (hl : l.length = m) (hk : i + k ≤ m) (hq : m ≤ q) (hc : k ≤ c) (hf : ∀ b ∈ sblks xs, b ∈ (Ent.view a (l.map vu8)).blocks) :
    HP w0 w (.pin (sblks (xs ++ [.slice (slA a i q 1) k c])) (fun w => Sls w (xs ++ [.slice (slA a i q 1) k c]) (ls ++ [(l.drop i).take k])) :: L)
    ∧ (∀ b ∈ sblks (xs ++ [.slice (slA a i q 1) k c]), b ∈ (Ent.view a (l.map vu8)).blocks) := by
  have hv : View w (slA a i q 1) (((l.drop i).take k).map vu8) := View.slM (l := i) (m := q) (k := k) (viewV (h.ok _ hm2)) (by omega)
  have hb : ∀ b ∈ sblk (.slice (slA a i q 1) k c), b ∈ (Ent.view a (l.map vu8)).blocks := sblk_sl fun h1 => by rintro rfl; simp at hl; omega
  refine ⟨h.slsPush hm1 hm2 hv (by rw [List.length_take, List.length_drop]; omega) hc hb, fun b hb' => ?_⟩
  rw [sblks_append] at hb'
  rcases List.mem_append.1 hb' with hb1 | hb1
  · exact hf b hb1
  · simp only [sblks, List.append_nil] at hb1
    exact hb b hb1
/-- a callee's new list of slices of bytes that are here -/
theorem HP.gotSlsIn {a a2 : Option Addr} {xs : List Value} {ls : List (List UInt8)} {l : List UInt8} (h : HP w0 w L) (hm : Ent.view a2 (l.map vu8) ∈ L) (hc : Chg w w' []) (hv : View w' a xs) (hs : Sls w' xs ls) (hb : ∀ b ∈ (Ent.view a xs).blocks, w.heap.size ≤ b) (hb2 : ∀ b ∈ sblks xs, b ∈ (Ent.view a2 (l.map vu8)).blocks) :
    HP w0 w' (.pin (sblks xs) (fun w => Sls w xs ls) :: .view a xs :: L) :=
  (h.push hc (e := .view a xs) (View.arg hv) rfl hb).within (List.mem_cons_of_mem _ hm) rfl hs.pin rfl rfl hb2
theorem HP.slsNil {L : List Ent} (h : HP w0 w L) : HP w0 w (.pin (sblks []) (fun w => Sls w [] []) :: L) :=
  h.add (Sls.pin .nil) rfl fun f _ _ b hb _ => by cases hb
end
end Go.Vc
namespace Go.Wr
open Go.Vc
theorem unpk_nil : ∀ c, unpk c [] = some []
  | 0 => rfl
  | _ + 1 => rfl
theorem unpk_bad {c : Nat} {r : List UInt8} (h : 0 < r.length) (h2 : r.length < 4 ∨ c = 0) : unpk c r = none := by
  have hr : r ≠ [] := by rintro rfl; simp at h
  cases c with
  | zero => rw [unpk, if_neg hr]
  | succ c => rw [unpk, if_neg hr, if_pos (by omega)]
theorem unpk_big {c : Nat} {r : List UInt8} (h : 4 ≤ r.length) (h2 : natLE (r.take 4) > 65536 ∨ natLE (r.take 4) > r.length - 4) : unpk c r = none := by
  have hr : r ≠ [] := by rintro rfl; simp at h
  cases c with
  | zero => rw [unpk, if_neg hr]
  | succ c => rw [unpk, if_neg hr, if_neg (by omega), if_pos h2]
theorem unpk_next {c n : Nat} {b : Option (List (List UInt8))} {r : List UInt8} {ls : List (List UInt8)} (hs : b = (unpk c r).map (ls ++ ·)) (hc : c ≠ 0) (h : 4 ≤ r.length) (hn : natLE (r.take 4) = n) (h1 : ¬ n > 65536) (h2 : ¬ n > r.length - 4) :
    b = (unpk (c - 1) ((r.drop 4).drop n)).map ((ls ++ [(r.drop 4).take n]) ++ ·) := by
  have hr : r ≠ [] := by rintro rfl; simp at h
  subst hn
  cases c with
  | zero => exact absurd rfl hc
  | succ c =>
    rw [hs, unpk, if_neg hr, if_neg (by omega), if_neg (by omega), Option.map_map, Nat.add_sub_cancel]
    congr 1
    funext x; simp
theorem unpk_none {c : Nat} {b : Option (List (List UInt8))} {r : List UInt8} {ls : List (List UInt8)} (hs : b = (unpk c r).map (ls ++ ·)) (h : unpk c r = none) : b = none := by rw [hs, h]; rfl
theorem unpk_done {c : Nat} {b : Option (List (List UInt8))} {r : List UInt8} {ls : List (List UInt8)} (hs : b = (unpk c r).map (ls ++ ·)) (h : ¬ 0 < r.length) : b = some ls := by
  have : r = [] := List.length_eq_zero_iff.1 (by omega)
  rw [hs, this, unpk_nil]; simp
theorem take4_lt (r : List UInt8) : natLE (r.take 4) < 4294967296 := by
  have h := natLE_lt (r.take 4)
  have h2 : 256 ^ (r.take 4).length ≤ 256 ^ 4 := Nat.pow_le_pow_right (by omega) (by rw [List.length_take]; omega)
  have h3 : (256 : Nat) ^ 4 = 4294967296 := by decide
  omega
theorem take4_int (r : List UInt8) : u2i (UInt64.ofNat (natLE (r.take 4))) = ((natLE (r.take 4) : Nat) : Int) := by
  have h := take4_lt r
  have h2 : (UInt64.ofNat (natLE (r.take 4))).toNat = natLE (r.take 4) := by simp; omega
  rw [u2i_small (by omega), h2]
theorem opt_none {α : Type} {f : α → α} {b o : Option α} (hs : b = o.map f) (h : o = none) : b = none := by rw [hs, h]; rfl
theorem take4_int' (r : List UInt8) {k : Nat} (hk : k = 4) : u2i (UInt64.ofNat (natLE (r.take k))) = ((natLE (r.take 4) : Nat) : Int) := by subst hk; exact take4_int r
theorem unpk_nextR {c n p k : Nat} {b : Option (List (List UInt8))} {bs : List UInt8} {ls : List (List UInt8)} (hs : b = (unpk c (bs.drop p)).map (ls ++ ·)) (hc : c ≠ 0) (h : p + 4 ≤ bs.length) (hn : natLE ((bs.drop p).take 4) = n) (h1 : ¬ n > 65536) (h2 : ¬ n > bs.length - (p + 4)) (hk : k = n) :
    b = (unpk (c - 1) (bs.drop (p + 4 + n))).map ((ls ++ [(bs.drop (p + 4)).take k]) ++ ·) := by
  subst hk
  have := unpk_next hs hc (by rw [List.length_drop]; omega) hn h1 (by rw [List.length_drop]; omega)
  rwa [List.drop_drop, List.drop_drop] at this
theorem cut_big {n : Nat} {ns : List Nat} {k : Nat} {r : List UInt8} (hk : k < ns.length) (hn : ns.getD k 0 = n) (h : n > r.length) : cutL (ns.drop k) r = none := by
  subst hn
  rw [List.drop_eq_getElem_cons hk, cutL, if_pos (by simpa [hk] using h)]
theorem cut_next {n k : Nat} {ns : List Nat} {b : Option (List (List UInt8))} {r : List UInt8} {ls : List (List UInt8)} (hs : b = (cutL (ns.drop k) r).map (ls ++ ·)) (hk : k < ns.length) (hn : ns.getD k 0 = n) (h : ¬ n > r.length) :
    b = (cutL (ns.drop (k + 1)) (r.drop n)).map ((ls ++ [r.take n]) ++ ·) := by
  subst hn
  have e : ns[k] = ns.getD k 0 := by simp [hk]
  rw [hs, List.drop_eq_getElem_cons hk, cutL, e, if_neg h, Option.map_map]
  congr 1
  funext x; simp
theorem cut_nextR {n k p q : Nat} {ns : List Nat} {b : Option (List (List UInt8))} {bs : List UInt8} {ls : List (List UInt8)} (hs : b = (cutL (ns.drop k) (bs.drop p)).map (ls ++ ·)) (hk : k < ns.length) (hn : ns.getD k 0 = n) (h : ¬ n > bs.length - p) (hq : q = n) :
    b = (cutL (ns.drop (k + 1)) (bs.drop (p + n))).map ((ls ++ [(bs.drop p).take q]) ++ ·) := by
  subst hq
  have := cut_next hs hk hn (by rw [List.length_drop]; exact h)
  rwa [List.drop_drop] at this
theorem cut_end {k : Nat} {ns : List Nat} {b : Option (List (List UInt8))} {r : List UInt8} {ls : List (List UInt8)} (hs : b = (cutL (ns.drop k) r).map (ls ++ ·)) (hk : ns.length ≤ k) : b = if r = [] then some ls else none := by
  rw [hs, List.drop_of_length_le hk, cutL]; split <;> simp
/-! how much is there? -/
def total (ls : List (List UInt8)) : Nat := ls.length + ls.flatten.length
theorem ints_get {ns : List Nat} {i : Nat} (h : i < ns.length) : ((ns.map Int.ofNat).map vi64)[i]? = some (vi ((ns.getD i 0 : Nat) : Int)) := by
  simp [h]
theorem ints_of {zs : List Int} (h : ∀ x ∈ zs, 0 ≤ x) : ∃ ns : List Nat, zs = ns.map Int.ofNat := by
  refine ⟨zs.map Int.toNat, ?_⟩
  rw [List.map_map]
  conv => lhs; rw [← List.map_id zs]
  refine List.map_congr_left fun x hx => ?_
  have := h x hx
  simp; omega
end Go.Wr
