/- Lists of byte slices that grow: rules for walks, proved here for every program of the model. Conditions: none beyond what each theorem states. -/
import Derived.Test.YtbldmljbfokobaaVcP
set_option linter.unusedVariables false
set_option linter.unusedSimpArgs false
namespace Go.Vc
open Go.RowKit
set_option linter.unusedSectionVars false
section
variable {w w' w0 : World} {L L' : List Ent}
theorem notT {b : Bool} (h : (!b) = true) : b = false := by cases b <;> simp_all
theorem notF {b : Bool} (h : (!b) = false) : b = true := by cases b <;> simp_all
/-! lists of byte slices that grow -/
theorem slA_blk {a : Option Addr} {i q s : Nat} : ∀ ad, slA a i q s = some ad → ∃ ad0, a = some ad0 ∧ ad.block = ad0.block := by
  intro ad h
  unfold slA at h
  split at h
  · exact ⟨ad, h, rfl⟩
  · cases a with
    | none => cases h
    | some ad0 =>
      simp only [Option.map_some, Option.some.injEq] at h
      exact ⟨ad0, rfl, by rw [← h]; exact Addr.add_block ..⟩
theorem sblk_sl {a : Option Addr} {i q m c : Nat} {l : List UInt8} (h : 1 ≤ m → l ≠ []) : ∀ b ∈ sblk (.slice (slA a i q 1) m c), b ∈ (Ent.view a (l.map vu8)).blocks := by
  intro b hb
  cases m with
  | zero => cases h1 : slA a i q 1 <;> simp [sblk, h1] at hb
  | succ m =>
    cases h1 : slA a i q 1 with
    | none => simp [sblk, h1] at hb
    | some ad =>
      obtain ⟨ad0, rfl, e⟩ := slA_blk ad h1
      simp only [sblk, h1, List.mem_singleton] at hb
      have hne := h (by omega)
      cases l with
      | nil => exact absurd rfl hne
      | cons x r => simp [Ent.blocks, hb, e]
theorem view_sl_blocks {a : Option Addr} {i q : Nat} {l l' : List UInt8} (h : l' ≠ [] → l ≠ []) : ∀ b ∈ (Ent.view (slA a i q 1) (l'.map vu8)).blocks, b ∈ (Ent.view a (l.map vu8)).blocks := by
  intro b hb
  cases h1 : slA a i q 1 with
  | none => simp [Ent.blocks, h1] at hb
  | some ad =>
    obtain ⟨ad0, rfl, e⟩ := slA_blk ad h1
    cases l' with
    | nil => simp [Ent.blocks] at hb
    | cons y r' =>
      have hne := h (by simp)
      cases l with
      | nil => exact absurd rfl hne
      | cons x r =>
        simp only [Ent.blocks, h1, List.map_cons, List.mem_singleton] at hb
        simp [Ent.blocks, hb, e]
theorem HP.slsPush {xs : List Value} {ls : List (List UInt8)} {a a' : Option Addr} {m c : Nat} {l l' : List UInt8} (h : HP w0 w L) (hm1 : Ent.pin (sblks xs) (fun w => Sls w xs ls) ∈ L) (hm2 : Ent.view a (l.map vu8) ∈ L)
    (hv : View w a' (l'.map vu8)) (hl : l'.length = m) (hc : m ≤ c) (hb : ∀ b ∈ sblk (.slice a' m c), b ∈ (Ent.view a (l.map vu8)).blocks) : HP w0 w (.pin (sblks (xs ++ [.slice a' m c])) (fun w => Sls w (xs ++ [.slice a' m c]) (ls ++ [l'])) :: L) := by
  have hs : Sls w xs ls := (h.ok _ hm1).1
  refine h.within2 hm1 hm2 rfl rfl (Sls.pin (hs.append (.cons hl hc hv .nil))) rfl rfl fun b hb' => ?_
  simp only [Ent.blocks, sblks_append] at hb'
  rcases List.mem_append.1 hb' with hb1 | hb1
  · exact .inl hb1
  · simp only [sblks, List.append_nil] at hb1
    exact .inr (hb b hb1)
theorem HP.viewDrop {a : Option Addr} {l : List UInt8} {m q : Nat} (h : HP w0 w L) (hm : Ent.view a (l.map vu8) ∈ L) (hq : l.length ≤ q) : HP w0 w (.view (slA a m q 1) ((l.drop m).map vu8) :: L) := by
  have hv : View w (slA a m q 1) ((l.drop m).map vu8) := by
    by_cases hml : m ≤ l.length
    · have := View.slM (l := m) (m := q) (k := l.length - m) (viewV (h.ok _ hm)) (by omega)
      rwa [List.take_of_length_le (by rw [List.length_drop]; exact Nat.le_refl _)] at this
    · rw [List.drop_of_length_le (by omega)]; exact View.nil _ _
  exact h.within hm rfl (View.arg hv) rfl rfl (view_sl_blocks fun h2 => by rintro rfl; exact h2 (by simp))
theorem row_view {k cap s : Nat} {a : Option Addr} {E : TypeId} {xs : List Value} : ∀ b ∈ (Ent.view a xs).blocks, b ∈ (Ent.row a k cap E s xs).blocks := by
  intro b hb
  cases a with
  | none => simp [Ent.blocks] at hb
  | some ad => cases xs with
    | nil => simp [Ent.blocks] at hb
    | cons x r => simpa [Ent.blocks] using hb
theorem HP.oldV {e : Ent} (h : HP w w L) (hok : e.ok w.heap.size w) (he : e.mut = false) (hL : ∀ f ∈ L, f.mut = false) : HP w w (e :: L) :=
  h.old hok fun f hf hm => by rw [he, hL f hf] at hm; simp at hm
theorem same_lists {ls ms : List (List UInt8)} (hl : ls.length = ms.length) (h : ∀ j, j < ls.length → ls.getD j [] = ms.getD j []) : ls = ms := by
  apply List.ext_getElem hl
  intro i h1 h2
  have := h i h1
  simpa [h1, h2] using this
/-- a row that is read from here on -/
theorem HP.rowView {k cap s : Nat} {a : Option Addr} {E : TypeId} {xs : List Value} (h : HP w0 w (.row a k cap E s xs :: L)) : HP w0 w (.view a xs :: L) :=
  h.turn .h (View.arg (Own.view (h.own (List.mem_cons_self ..)))) row_view (fun hm => by cases hm) rfl rfl
theorem get_nat {ns : List Nat} {i : Nat} (h : i < ns.length) : (ns.map fun n : Nat => vi (n : Int))[i]? = some (vi ((ns.getD i 0 : Nat) : Int)) := by
  simp [h]
end
end Go.Vc
