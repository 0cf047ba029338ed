/- Words and forms: plain laws. Conditions: those that each theorem states. -/
import Derived.Test.YthkcekgemanfdaaB2
namespace Go.Proofs.Ythkcekgemanfdaa
open Go.Vc Go.RowKit
set_option linter.unusedVariables false
set_option linter.unusedSimpArgs false
set_option maxRecDepth 20000

theorem words_put {g : List UInt8} {i j : Nat} {x : UInt64} (hg : g.length = 128) (hj : j < 16) : wordB (putW g j [x]) i = if i = j then x else wordB g i := by
  show wordB (ovr g (8 * j) (leN 8 x.toNat)) i = _
  split
  · rename_i h; subst h; exact wordB_ovr_eq (by omega)
  · rename_i h; exact wordB_ovr_ne (leN_len ..) (by omega) h
theorem put_len1 {g : List UInt8} {j : Nat} {x : UInt64} (hg : g.length = 128) (hj : j < 16) : (putW g j [x]).length = 128 := putW_len [x] g j hg (by simp only [List.length_cons, List.length_nil]; omega)
theorem putW_four {g : List UInt8} {j : Nat} {a b c d : UInt64} : putW g j [a, b, c, d] = putW (putW (putW (putW g j [a]) (j + 1) [b]) (j + 1 + 1) [c]) (j + 1 + 1 + 1) [d] := rfl
theorem wordB_zero (i : Nat) : wordB (List.replicate 128 (0 : UInt8)) i = 0 := by
  have h : ∀ n : Nat, natLE (List.replicate n (0 : UInt8)) = 0 := by
    intro n
    induction n with
    | zero => rfl
    | succ n ih => rw [List.replicate_succ, natLE, ih]; rfl
  rw [wordB, List.drop_replicate, List.take_replicate, h]; rfl
/-- the words of a form -/
theorem form_word {rs : Int} {a b c d : UInt64} {adr : UInt64} {wr : Bool} {ran : Int} (i : Nat) : wordB (formB rs [a, b, c, d] adr wr ran) i =
    if i = 7 then i2u ran else if i = 6 then (bif wr then 1 else 0) else if i = 5 then adr else if i = 4 then d else if i = 3 then c else if i = 2 then b else if i = 1 then a else if i = 0 then i2u rs else 0 := by
  have h0 : (List.replicate 128 (0 : UInt8)).length = 128 := List.length_replicate ..
  unfold formB
  cases wr
  · simp only [cond_false, putW_four]
    rw [words_put (by repeat (first | exact h0 | refine put_len1 ?_ (by omega))) (by omega), words_put (by repeat (first | exact h0 | refine put_len1 ?_ (by omega))) (by omega),
      words_put (by repeat (first | exact h0 | refine put_len1 ?_ (by omega))) (by omega), words_put (by repeat (first | exact h0 | refine put_len1 ?_ (by omega))) (by omega),
      words_put (by repeat (first | exact h0 | refine put_len1 ?_ (by omega))) (by omega), words_put (by repeat (first | exact h0 | refine put_len1 ?_ (by omega))) (by omega),
      words_put h0 (by omega), wordB_zero]
    repeat' split
    all_goals first | rfl | omega | simp_all
  · simp only [cond_true, putW_four]
    rw [words_put (by repeat (first | exact h0 | refine put_len1 ?_ (by omega))) (by omega), words_put (by repeat (first | exact h0 | refine put_len1 ?_ (by omega))) (by omega),
      words_put (by repeat (first | exact h0 | refine put_len1 ?_ (by omega))) (by omega), words_put (by repeat (first | exact h0 | refine put_len1 ?_ (by omega))) (by omega),
      words_put (by repeat (first | exact h0 | refine put_len1 ?_ (by omega))) (by omega), words_put (by repeat (first | exact h0 | refine put_len1 ?_ (by omega))) (by omega),
      words_put (by repeat (first | exact h0 | refine put_len1 ?_ (by omega))) (by omega), words_put h0 (by omega), wordB_zero]
    repeat' split
    all_goals first | rfl | omega | simp_all
theorem rest_zero {rs : Int} {ors : List UInt64} {adr : UInt64} {wr : Bool} {ran : Int} (hm : mayB rs ors adr wr ran = true) (h2 : rs ≠ 2) {i : Nat} (h : 1 ≤ i) (h' : i ≤ 4) : wordB (formB rs ors adr wr ran) i = 0 := by
  have : ors = [0, 0, 0, 0] := by
    unfold mayB at hm
    simp only [Bool.and_eq_true, Bool.or_eq_true, decide_eq_true_eq] at hm
    rcases hm.1.2 with h | h
    · exact absurd h h2
    · exact h
  subst this
  rw [form_word]
  repeat' split
  all_goals first | rfl | omega
/-- what was told can be read -/
theorem form_back {rs : Int} {ors : List UInt64} {adr : UInt64} {wr : Bool} {ran : Int} (ho : ors.length = 4) (h1 : -9223372036854775808 ≤ rs ∧ rs < 9223372036854775808) (h2 : -9223372036854775808 ≤ ran ∧ ran < 9223372036854775808) :
    u2i (wordB (formB rs ors adr wr ran) 0) = rs ∧ [wordB (formB rs ors adr wr ran) 1, wordB (formB rs ors adr wr ran) 2, wordB (formB rs ors adr wr ran) 3, wordB (formB rs ors adr wr ran) 4] = ors ∧
    wordB (formB rs ors adr wr ran) 5 = adr ∧ decide ((wordB (formB rs ors adr wr ran) 6 : UInt64) = 1) = wr ∧ u2i (wordB (formB rs ors adr wr ran) 7) = ran := by
  obtain ⟨a, b, c, d, rfl⟩ := four ho
  simp only [form_word]
  refine ⟨by simp [u2i_i2u h1], by simp, by simp, ?_, by simp [u2i_i2u h2]⟩
  cases wr <;> rfl
theorem may_bounds {rs : Int} {ors : List UInt64} {adr : UInt64} {wr : Bool} {ran : Int} (hm : mayB rs ors adr wr ran = true) : 0 ≤ ran ∧ ran ≤ 10000 ∧ 1 ≤ rs ∧ rs ≤ 5 := by
  unfold mayB at hm
  simp only [Bool.and_eq_true, Bool.or_eq_true, decide_eq_true_eq] at hm
  omega
theorem i2u_small {x : Int} (h : 0 ≤ x ∧ x < 9223372036854775808) : (i2u x).toNat = x.toNat := by
  rw [i2u]; simp; omega
theorem okOut_form {rs : Int} {ors : List UInt64} {adr : UInt64} {wr : Bool} {ran : Int} (ho : ors.length = 4) (hm : mayB rs ors adr wr ran = true) : okOut (formB rs ors adr wr ran) := by
  have hb := may_bounds hm
  obtain ⟨e1, e2, e3, e4, e5⟩ := form_back (rs := rs) (ors := ors) (adr := adr) (wr := wr) (ran := ran) ho (by omega) (by omega)
  have w0 : wordB (formB rs ors adr wr ran) 0 = i2u rs := by rw [← e1, i2u_u2i, e1]
  have w7 : wordB (formB rs ors adr wr ran) 7 = i2u ran := by rw [← e5, i2u_u2i, e5]
  refine ⟨decide_eq_false fun h => ?_, decide_eq_false fun h => ?_, ?_, ?_⟩
  · rw [w0] at h
    have := UInt64.lt_iff_toNat_lt.1 h
    rw [i2u_small (by omega)] at this
    have e : (5 : UInt64).toNat = 5 := rfl
    omega
  · rw [w7] at h
    have := UInt64.lt_iff_toNat_lt.1 h
    rw [i2u_small (by omega)] at this
    have e : (10000 : UInt64).toNat = 10000 := rfl
    omega
  · rw [e1, e2, e3, e4, e5]; exact hm
  · rw [e1, e2, e3, e4, e5]
/-- the law's reading of any bytes -/
theorem okOut_z {b : List UInt8} (h : okOut b) : wordB b 0 % 8 = wordB b 0 ∧ wordB b 7 % 20000 = wordB b 7 := by
  obtain ⟨h1, h2, _, _⟩ := h
  have h1 := of_decide_eq_false h1
  have h2 := of_decide_eq_false h2
  have e5 : (5 : UInt64).toNat = 5 := rfl
  have e1 : (10000 : UInt64).toNat = 10000 := rfl
  have e8 : (8 : UInt64).toNat = 8 := rfl
  have e2 : (20000 : UInt64).toNat = 20000 := rfl
  constructor
  · apply UInt64.toNat_inj.1
    rw [UInt64.toNat_mod, e8]
    have : ¬ (5 : UInt64).toNat < (wordB b 0).toNat := fun h => h1 (UInt64.lt_iff_toNat_lt.2 h)
    omega
  · apply UInt64.toNat_inj.1
    rw [UInt64.toNat_mod, e2]
    have : ¬ (10000 : UInt64).toNat < (wordB b 7).toNat := fun h => h2 (UInt64.lt_iff_toNat_lt.2 h)
    omega
theorem okOut_of {b : List UInt8} (hm : mayB (u2i (wordB b 0 % 8)) [wordB b 1, wordB b 2, wordB b 3, wordB b 4] (wordB b 5) (decide ((wordB b 6 : UInt64) = 1)) (u2i (wordB b 7 % 20000)) = true)
    (hf : formB (u2i (wordB b 0 % 8)) [wordB b 1, wordB b 2, wordB b 3, wordB b 4] (wordB b 5) (decide ((wordB b 6 : UInt64) = 1)) (u2i (wordB b 7 % 20000)) = b) : okOut b := by
  have w0 : wordB b 0 = wordB b 0 % 8 := by
    have := congrArg (fun g => wordB g 0) hf
    simp only [form_word, i2u_u2i] at this
    simpa using this.symm
  have w7 : wordB b 7 = wordB b 7 % 20000 := by
    have := congrArg (fun g => wordB g 7) hf
    simp only [form_word, i2u_u2i] at this
    simpa using this.symm
  rw [← hf]
  exact okOut_form rfl hm
/-- noughts from 32 on -/
def fineK (b : List UInt8) (k : Nat) : Bool := (List.range (k - 32)).all fun i => decide (b.getD (32 + i) 0 = 0)
theorem fineK_succ {b : List UInt8} {k : Nat} (h : 32 ≤ k) : fineK b (k + 1) = (fineK b k && decide (b.getD k 0 = 0)) := by
  have e : k + 1 - 32 = k - 32 + 1 := by omega
  have e2 : 32 + (k - 32) = k := by omega
  rw [fineK, fineK, e, List.range_succ, List.all_append]
  simp [e2]
theorem fine_iff {b : List UInt8} : fineK b 128 = true ↔ ∀ i, 32 ≤ i → i < 128 → b.getD i 0 = 0 := by
  unfold fineK
  rw [List.all_eq_true]
  constructor
  · intro h i h1 h2
    have := h (i - 32) (by simp; omega)
    simpa [show 32 + (i - 32) = i by omega] using this
  · intro h i hi
    simp at hi
    simpa using h (32 + i) (by omega) (by omega)
theorem take_getD {α : Type} {a b : List α} {d : α} (hl : a.length = b.length) (h : ∀ i, i < a.length → a.getD i d = b.getD i d) : a = b := by
  apply List.ext_getElem hl
  intro i h1 h2
  have := h i h1
  simpa [List.getD_eq_getElem?_getD, h1, h2] using this
theorem four_words {b : List UInt8} (hb : b.length = 128) : leN 8 (wordB b 0).toNat ++ (leN 8 (wordB b 1).toNat ++ (leN 8 (wordB b 2).toNat ++ leN 8 (wordB b 3).toNat)) = b.take 32 := by
  have e : ∀ i, i < 4 → leN 8 (wordB b i).toNat = (b.drop (8 * i)).take 8 := fun i hi => bytes_back (by simp; omega)
  rw [e 0 (by omega), e 1 (by omega), e 2 (by omega), e 3 (by omega)]
  simp only [Nat.mul_zero, List.drop_zero, Nat.mul_one]
  have t : ∀ (m n : Nat), (b.drop m).take n ++ (b.drop (m + n)).take (32 - (m + n)) = (b.drop m).take (n + (32 - (m + n))) := by
    intro m n
    rw [← List.drop_drop, List.take_add]
  have t3 := t 16 8
  have t2 := t 8 8
  have t1 := t 0 8
  simp only [Nat.reduceAdd, Nat.reduceSub, List.drop_zero, Nat.reduceMul] at t1 t2 t3 ⊢
  rw [t3, t2, t1]
theorem inB_eq {a b c d : UInt64} : inB [a, b, c, d] = leN 8 a.toNat ++ (leN 8 b.toNat ++ (leN 8 c.toNat ++ (leN 8 d.toNat ++ List.replicate 96 0))) := by
  simp only [inB, putW, ovr, leN]
  rfl
theorem in_fine {b : List UInt8} (hb : b.length = 128) : inB [wordB b 0, wordB b 1, wordB b 2, wordB b 3] = b ↔ fineK b 128 = true := by
  have e : inB [wordB b 0, wordB b 1, wordB b 2, wordB b 3] = b.take 32 ++ List.replicate 96 0 := by
    rw [inB_eq, ← four_words hb]; simp only [List.append_assoc]
  rw [e, fine_iff]
  have hd : b = b.take 32 ++ b.drop 32 := (List.take_append_drop ..).symm
  constructor
  · intro h i h1 h2
    rw [← h, List.getD_eq_getElem?_getD, List.getElem?_append_right (by simp; omega), List.getElem?_replicate]
    split <;> rfl
  · intro h
    conv => rhs; rw [hd]
    congr 1
    refine take_getD (d := 0) (by simp [hb]) fun i hi => ?_
    have hi : i < 96 := by simpa using hi
    have := h (32 + i) (by omega) (by omega)
    rw [List.getD_eq_getElem?_getD] at this ⊢
    rw [List.getElem?_replicate, if_pos hi, List.getD_eq_getElem?_getD, List.getElem?_drop, this]; rfl
theorem in_word {ain : List UInt64} (h : ain.length = 4) : [wordB (inB ain) 0, wordB (inB ain) 1, wordB (inB ain) 2, wordB (inB ain) 3] = ain := by
  obtain ⟨a, b, c, d, rfl⟩ := four h
  have h0 : (List.replicate 128 (0 : UInt8)).length = 128 := List.length_replicate ..
  have w : ∀ i, wordB (inB [a, b, c, d]) i = if i = 3 then d else if i = 2 then c else if i = 1 then b else if i = 0 then a else 0 := by
    intro i
    rw [inB, putW_four, words_put (by repeat (first | exact h0 | refine put_len1 ?_ (by omega))) (by omega), words_put (by repeat (first | exact h0 | refine put_len1 ?_ (by omega))) (by omega),
      words_put (by repeat (first | exact h0 | refine put_len1 ?_ (by omega))) (by omega), words_put h0 (by omega), wordB_zero]
  simp [w]
theorem in_sets {ain : List UInt64} (h : ain.length = 4) : ovr (ovr (ovr (ovr (List.replicate 128 (0 : UInt8)) (8 * 0) (leN 8 (ain.getD 0 0).toNat)) (8 * 1) (leN 8 (ain.getD 1 0).toNat)) (8 * 2) (leN 8 (ain.getD 2 0).toNat)) (8 * 3) (leN 8 (ain.getD 3 0).toNat) = inB ain := by
  obtain ⟨a, b, c, d, rfl⟩ := four h; rfl
theorem c_InOf_y (g : List UInt8) (hg : g.length = 128) (hi : inB ([wordB g 0, wordB g 1, wordB g 2, wordB g 3] : List UInt64) = g) (w : World) : Cs Try.prog 39 [(.agg ⟨g.map vu8⟩)].toArray w (fun v w1 => v = (.tuple [(.agg ⟨([wordB g 0, wordB g 1, wordB g 2, wordB g 3] : List UInt64).map vu64⟩), (vi 0)].toArray) ∧ Chg w w1 []) :=
  (c_InOf g hg w).mono fun v w1 h => h.elim (fun h => h.2) (fun h => absurd hi h.1)
theorem c_OutOf_y (g : List UInt8) (hg : g.length = 128) (ho : okOut g) (w : World) : Cs Try.prog 41 [(.agg ⟨g.map vu8⟩)].toArray w (fun v w1 => v = (.tuple [(.agg ⟨flat [(1, [(vi (u2i (wordB g 0)))]), (4, ([wordB g 1, wordB g 2, wordB g 3, wordB g 4] : List UInt64).map vu64), (1, [(vu64 (wordB g 5))]), (1, [(.bool (decide ((wordB g 6 : UInt64) = 1)))]), (1, [(vi (u2i (wordB g 7)))])]⟩), (vi 0)].toArray) ∧ Chg w w1 []) :=
  (c_OutOf g hg w).mono fun v w1 h => h.elim (fun h => h.2) (fun h => absurd ho h.1)
theorem c_OutBytes_p (rs : Int) (ors : List UInt64) (hor : ors.length = 4) (adr : UInt64) (wr : Bool) (ran : Int) (w : World) : Cs Try.prog 30 [(.agg ⟨flat [(1, [(vi rs)]), (4, ors.map vu64), (1, [(vu64 adr)]), (1, [(.bool wr)]), (1, [(vi ran)])]⟩)].toArray w (fun v w1 => (mayB rs ors adr wr ran = true ∧ v = (.tuple [(.agg ⟨(formB rs ors adr wr ran).map vu8⟩), (vi 0)].toArray) ∧ Chg w w1 []) ∨ (mayB rs ors adr wr ran = false ∧ v = (.tuple [(.agg ⟨(List.replicate 128 (0 : UInt8)).map vu8⟩), (vi 2)].toArray) ∧ Chg w w1 [])) := by
  cases hm : mayB rs ors adr wr ran
  · exact (c_OutBytes_no rs ors hor adr wr ran hm w).mono fun v w1 h => .inr ⟨rfl, h⟩
  · exact (c_OutBytes rs ors hor adr wr ran hm w).mono fun v w1 h => .inl ⟨rfl, h⟩
theorem ent_high {wt : Int} {ain regs : List UInt64} (ha : ain.length = 4) (hr : regs.length = 8) : (entRegs wt ain regs).getD 4 0 = regs.getD 4 0 ∧ (entRegs wt ain regs).getD 5 0 = regs.getD 5 0 ∧ (entRegs wt ain regs).getD 6 0 = regs.getD 6 0 ∧ (entRegs wt ain regs).getD 7 0 = regs.getD 7 0 := by
  obtain ⟨a, b, c, d, rfl⟩ := four ha
  match regs, hr with
  | [r0, r1, r2, r3, r4, r5, r6, r7], _ => unfold entRegs; split <;> exact ⟨rfl, rfl, rfl, rfl⟩
end Go.Proofs.Ythkcekgemanfdaa
