/- An oracle's log, in memory and plainly: what was asked, its answers. Conditions: those that each theorem states. -/
import Derived.Test.YtbldmljbfokobaaO0
set_option linter.unusedVariables false
set_option linter.unusedSimpArgs false
namespace Go.Orc
open Go.Vc Go.RowKit
/-- a question: its kind, its key, its domain, its bytes -/
abbrev Qn := Int × List UInt8 × Int × List UInt8
abbrev Lg := List (Qn × List UInt8)
def okQ (q : Qn) : Prop := q.2.1.length = 32 ∧ (1 ≤ q.1 ∧ q.1 ≤ 4) ∧ (1 ≤ q.2.2.1 ∧ q.2.2.1 ≤ 16) ∧ q.2.2.2.length ≤ 1000000000
/-- a question as a key of the map -/
def kC (q : Qn) : List Value := flat [(1, [vi q.1]), (32, q.2.1.map vu8), (1, [vi q.2.2.1]), (1, [.string (bstr q.2.2.2)])]
theorem bstr_inj {a b : List UInt8} (h : bstr a = bstr b) : a = b := by
  have := congrArg ByteArray.toList h
  rwa [bstr_toList, bstr_toList] at this
theorem kC_inj {p q : Qn} (hp : p.2.1.length = 32) (hq : q.2.1.length = 32) (h : kC p = kC q) : p = q := by
  obtain ⟨k, key, d, data⟩ := p
  obtain ⟨k', key', d', data'⟩ := q
  simp only at hp hq
  simp only [kC, flat, List.cons_append, List.nil_append, List.cons.injEq, Value.int.injEq, true_and] at h
  obtain ⟨h1, h2⟩ := h
  obtain ⟨h3, h4⟩ := List.append_inj h2 (by rw [List.length_map, List.length_map, hp, hq])
  simp only [List.cons.injEq, Value.int.injEq, Value.string.injEq, true_and, and_true] at h4
  have e1 : key = key' := by
    have := map_inj_u8 (a := key) (b := key')
    exact this ▸ h3
  rw [h1, e1, h4.1, bstr_inj h4.2]
/-- the map of a log -/
def mEs : Lg → Nat → List (Qn × Value × Nat)
  | [], _ => []
  | p :: r, i => (p.1, vi (i : Int), i) :: mEs r (i + 1)
theorem mEs_snoc (p : Qn × List UInt8) : ∀ (l : Lg) (i : Nat), mEs (l ++ [p]) i = mEs l i ++ [(p.1, vi ((i + l.length : Nat) : Int), i + l.length)]
  | [], i => by simp [mEs]
  | x :: l, i => by
    rw [List.cons_append, mEs, mEs_snoc p l (i + 1), mEs, List.length_cons, show i + 1 + l.length = i + (l.length + 1) by omega]; rfl
theorem mEs_mem : ∀ {l : Lg} {i : Nat} {e : Qn × Value × Nat}, e ∈ mEs l i → ∃ p ∈ l, e.1 = p.1
  | x :: l, i, e, h => by
    rcases List.mem_cons.1 h with rfl | h
    · exact ⟨x, List.mem_cons_self .., rfl⟩
    · obtain ⟨p, hp, he⟩ := mEs_mem h
      exact ⟨p, List.mem_cons_of_mem _ hp, he⟩
/-- where a question stands -/
def fdq (q : Qn) : Lg → Nat → Option Nat
  | [], _ => none
  | p :: r, i => if p.1 = q then some i else fdq q r (i + 1)
theorem fdx_fdq (q : Qn) : ∀ (l : Lg) (i : Nat), fdx q (mEs l i) i = (fdq q l i).map fun j : Nat => ((j, vi (j : Int)) : Nat × Value)
  | [], _ => rfl
  | p :: r, i => by
    rw [mEs, fdx, fdq]
    split
    · rfl
    · exact fdx_fdq q r (i + 1)
theorem fdq_lt {q : Qn} : ∀ {l : Lg} {i j : Nat}, fdq q l i = some j → i ≤ j ∧ j < i + l.length
  | p :: r, i, j, h => by
    rw [fdq] at h
    split at h
    · cases h; exact ⟨Nat.le_refl _, by rw [List.length_cons]; omega⟩
    · have := fdq_lt h
      rw [List.length_cons]; omega
def mArr (l : Lg) : Array MapEntry := ⟨ents kC (mEs l 0)⟩
theorem mArr_push (l : Lg) (q : Qn) (d : List UInt8) : mArr (l ++ [(q, d)]) = (mArr l).push { key := .agg ⟨kC q⟩, val := vi (l.length : Int), born := l.length } := by
  apply Array.ext'
  simp [mArr, ents, mEs_snoc]
theorem log_find {P : Program} {K : TypeId} {m h : Nat} {q : Qn} {l : Lg} (hk : P.keyTypeAt m K = true) (hm : Nat.ble m 10000 = true) (hu : aggB P K = true) (hT : ∀ q, okQ q → Typ P h K (kC q)) (hq : okQ q) (hl : ∀ p ∈ l, okQ p.1) :
    Fk P K (.agg ⟨kC q⟩) (mArr l).toList ((fdq q l 0).map fun j : Nat => ((j, vi (j : Int)) : Nat × Value)) := by
  rw [← fdx_fdq]
  refine Fk.agg hk hm hu (hT q hq) fun e he => ?_
  obtain ⟨p, hp, e1⟩ := mEs_mem he
  rw [e1]
  exact ⟨hT _ (hl p hp), fun h => kC_inj (hl p hp).1 hq.1 h⟩
/-! the log's row -/
/-- what a question and its answer are in a row: the bytes are a slice -/
def aC (q : Qn) (s : Value) (d : List UInt8) : List Value := flat [(1, [vi q.1]), (32, q.2.1.map vu8), (1, [vi q.2.2.1]), (1, [s]), (32, d.map vu8)]
theorem aC_len {q : Qn} {s : Value} {d : List UInt8} (h : q.2.1.length = 32) (hd : d.length = 32) : (aC q s d).length = 67 := by simp [aC, flat, h, hd]
inductive Lgs (w : World) : List Value → Lg → Prop
  | nil : Lgs w [] []
  | snoc {a : Option Addr} {n c : Nat} {q : Qn} {d : List UInt8} {xs : List Value} {l : Lg} (r : Lgs w xs l) (hq : okQ q) (hd : d.length = 32) (hl : q.2.2.2.length = n) (hc : n ≤ c) (hv : View w a (q.2.2.2.map vu8)) : Lgs w (xs ++ aC q (.slice a n c) d) (l ++ [(q, d)])
theorem Lgs.len {w : World} {xs : List Value} {l : Lg} (h : Lgs w xs l) : xs.length = l.length * 67 := by
  induction h with
  | nil => rfl
  | snoc r hq hd hl hc hv ih => rw [List.length_append, ih, aC_len hq.1 hd, List.length_append, List.length_cons, List.length_nil]; omega
theorem Lgs.ok {w : World} {xs : List Value} {l : Lg} (h : Lgs w xs l) : ∀ p ∈ l, okQ p.1 := by
  induction h with
  | nil => intro p hp; cases hp
  | snoc r hq hd hl hc hv ih =>
    intro p hp
    rcases List.mem_append.1 hp with hp | hp
    · exact ih p hp
    · rw [List.mem_singleton] at hp; subst hp; exact hq
theorem sblks_u8 : ∀ (l : List UInt8) (b : Nat), b ∉ sblks (l.map vu8)
  | [], b => by simp [sblks]
  | x :: l, b => by
    intro h
    have h' : b ∈ sblk (vu8 x) ++ sblks (l.map vu8) := h
    rcases List.mem_append.1 h' with h | h
    · simp [sblk] at h
    · exact sblks_u8 l b h
theorem sblk_in_view {a : Option Addr} {n c : Nat} {l : List UInt8} (hl : l.length = n) : ∀ b ∈ sblk (.slice a n c), b ∈ (Ent.view a (l.map vu8)).blocks := by
  intro b hb
  cases a with
  | none => simp [sblk] at hb
  | some ad => cases l with
    | nil => simp at hl; subst hl; simp [sblk] at hb
    | cons x r => cases n with
      | zero => simp at hl
      | succ n => simpa [Ent.blocks, sblk] using hb
/-- the i-th of a log -/
theorem Lgs.get {w : World} {xs : List Value} {l : Lg} (h : Lgs w xs l) : ∀ {i : Nat} (hi : i < l.length), ∃ a n c, (xs.drop (67 * i)).take 67 = aC (l[i]).1 (.slice a n c) (l[i]).2 ∧ (l[i]).2.length = 32 ∧ (l[i]).1.2.2.2.length = n ∧ n ≤ c ∧ View w a ((l[i]).1.2.2.2.map vu8) ∧ (∀ b ∈ sblk (.slice a n c), b ∈ sblks xs) := by
  induction h with
  | nil => intro i hi; simp at hi
  | @snoc a n c q d xs l r hq hd hl hc hv ih =>
    intro i hi
    have hlen := r.len
    by_cases e : i < l.length
    · obtain ⟨a', n', c', h1, h2, h3, h4, h5, h6⟩ := ih e
      refine ⟨a', n', c', ?_, ?_, ?_, h4, ?_, ?_⟩
      · rw [List.drop_append_of_le_length (by omega), List.take_append_of_le_length (by rw [List.length_drop]; omega), h1, List.getElem_append_left e]
      · rw [List.getElem_append_left e]; exact h2
      · rw [List.getElem_append_left e]; exact h3
      · rw [List.getElem_append_left e]; exact h5
      · intro b hb; rw [sblks_append]; exact List.mem_append.2 (.inl (h6 b hb))
    · have : i = l.length := by rw [List.length_append, List.length_singleton] at hi; omega
      subst this
      have e2 : (l ++ [(q, d)])[l.length] = (q, d) := by simp
      refine ⟨a, n, c, ?_, ?_, ?_, hc, ?_, ?_⟩
      · rw [List.drop_append, List.drop_of_length_le (by omega), List.nil_append, show 67 * l.length - xs.length = 0 by omega, List.drop_zero, List.take_of_length_le (by rw [aC_len hq.1 hd]; exact Nat.le_refl _), e2]
      · rw [e2]; exact hd
      · rw [e2]; exact hl
      · rw [e2]; exact hv
      · intro b hb
        rw [sblks_append]
        refine List.mem_append.2 (.inr ?_)
        simp only [aC, flat, sblks_append]
        refine List.mem_append.2 (.inr (List.mem_append.2 (.inr (List.mem_append.2 (.inr (List.mem_append.2 (.inl ?_)))))))
        simpa [sblks] using hb
end Go.Orc
