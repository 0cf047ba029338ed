/- Regions that end with an operation that waits for all: rules for walks, proved here for every program of the model. Conditions: none beyond what each theorem states. -/
import Derived.Test.YtbldmljbfokobaaVcV
import Derived.OrdersHeld
set_option linter.unusedVariables false
set_option linter.unusedSimpArgs false
namespace Go.Vc
open Go.RowKit
set_option linter.unusedSectionVars false
/-! ## regions that draw their order and end with an operation that waits for all: what that one writes need not stand behind it -/
def waitsZ (ops : Array Oper) (z i : Nat) : Bool := match ops[z]? with
  | none => true
  | some o => (z != i) && o.after.any fun e => Region.binds .any e && (e.on == i)
section
variable {P : Program} {ops : Array Oper} {Q : Exit → Act → World → Prop} {S : World → Prop} {md : Region.Mode}
theorem listed_set {listed : Array Bool} {z : Nat} (h : listed.getD z true = false) : (listed.setIfInBounds z true).getD z false = true := by
  rcases Nat.lt_or_ge z listed.size with h' | h'
  · simp [h']
  · simp [Array.getElem?_eq_none h'] at h
theorem listed_of {listed : Array Bool} {i z : Nat} (h : (listed.setIfInBounds i true).getD z false = false) : listed.getD z false = false := by
  by_cases e : i = z
  · subst e
    rcases Nat.lt_or_ge i listed.size with h' | h'
    · simp [h'] at h
    · simp [Array.getElem?_eq_none h']
  · rwa [getD_set_ne false e] at h
def wpZ (P : Program) (md : Region.Mode) (ops : Array Oper) (Q : Exit → Act → World → Prop) (z : Nat) (S : World → Prop) : Nat → Array Bool → Act → World → Prop
  | 0, listed, a, w => Region.ready md ops listed = [] ∧ Q .normal a w
  | fuel + 1, listed, a, w =>
    (Region.ready md ops listed = [] → Q .normal a w) ∧
    ∀ i ∈ Region.ready md ops listed, wpOp P ops Q i (fun a' w' => (i ≠ z ∧ listed.getD z false = false → S w') ∧ wpZ P md ops Q z S fuel (listed.setIfInBounds i true) a' w') a w
theorem wpAny_ofZ {z : Nat} : ∀ (fuel : Nat) (listed : Array Bool) (a : Act) (w : World), wpZ P md ops Q z S fuel listed a w → wpAny P md ops Q fuel listed a w
  | 0, _, _, _, h => h
  | fuel + 1, _, _, _, h => ⟨h.1, fun i hi => wpOp_mono (fun a' w' h' => wpAny_ofZ fuel _ a' w' h'.2) (h.2 i hi)⟩
theorem wpZ_first {i z : Nat} {oi : Oper} {v : Value} (hi : ops[i]? = some oi) (hsel : ∀ (j : Nat) (o : Oper) cs b, ops[j]? = some o → o.op ≠ .select cs b)
    (hQ : ∀ c a w, Q (.panic c) (a.put oi.dst v) w → Q (.panic c) a w) (hz : ∀ oz, ops[z]? = some oz → z ≠ i ∧ ∃ e ∈ oz.after, Region.binds md e = true ∧ e.on = i) :
    ∀ (fuel : Nat) (listed : Array Bool) (a : Act) (w : World),
      (∀ j oj, ops[j]? = some oj → j ≠ i → listed.getD j true = false → (∀ e ∈ oj.after, Region.binds md e = true → e.on ≠ i) → oi.apart ops oj = true) →
      i ∈ Region.ready md ops listed → listed.getD z false = false → YieldsIf P ops S oi v a → S w →
      wpZ P md ops Q z S fuel (listed.setIfInBounds i true) (a.put oi.dst v) w → wpZ P md ops Q z S (fuel + 1) listed a w := by
  intro fuel
  induction fuel with
  | zero =>
    intro listed a w _ hr hzl hy hS H
    refine ⟨fun h => (by rw [h] at hr; cases hr), fun j hj => ?_⟩
    by_cases hji : j = i
    · subst hji; exact hy.wpOp hi hS ⟨fun _ => hS, H⟩
    · have := ready_mono hj hji
      rw [H.1] at this
      cases this
  | succ fuel ih =>
    intro listed a w hfree hr hzl hy hS H
    refine ⟨fun h => (by rw [h] at hr; cases hr), fun j hj => ?_⟩
    by_cases hji : j = i
    · subst hji; exact hy.wpOp hi hS ⟨fun _ => hS, H⟩
    · have h1 := H.2 j (ready_mono hj hji)
      obtain ⟨hjun, oj, hoj, hall⟩ := mem_ready.1 hj
      have hnot : ∀ e ∈ oj.after, Region.binds md e = true → e.on ≠ i := fun e he hb heq => by
        have h1 := hall e he hb
        have h0 := (mem_ready.1 hr).1
        rw [heq] at h1
        rcases Nat.lt_or_ge i listed.size with h' | h'
        · simp [h'] at h0 h1; rw [h0] at h1; cases h1
        · simp [Array.getElem?_eq_none h'] at h1
      have hjz : j ≠ z := by
        rintro rfl
        obtain ⟨_, e, he, hb, heq⟩ := hz oj hoj
        exact hnot e he hb heq
      have hzi : i ≠ z ∨ ops[z]? = none := by
        rcases h : ops[z]? with _ | oz
        · exact .inr rfl
        · exact .inl (Ne.symm (hz oz h).1)
      have hzi2 : (listed.setIfInBounds i true).getD z false = false := by
        rcases hzi with h | h
        · rw [getD_set_ne false h]; exact hzl
        · by_cases e : i = z
          · subst e; rw [hi] at h; cases h
          · rw [getD_set_ne false e]; exact hzl
      have h2 := wpOp_putIf hoj (hfree j oj hoj hji hjun hnot) (fun cs b => hsel i oi cs b hi) (fun cs b => hsel j oj cs b hoj) hQ hy h1
      have hfree' : ∀ k ok, ops[k]? = some ok → k ≠ i → (listed.setIfInBounds j true).getD k true = false →
          (∀ e ∈ ok.after, Region.binds md e = true → e.on ≠ i) → oi.apart ops ok = true := fun k ok hk hki hun hno => by
        refine hfree k ok hk hki ?_ hno
        by_cases hjk : j = k
        · subst hjk; exact hjun
        · rw [getD_set_ne true hjk] at hun; exact hun
      refine wpOp_mono (fun a' w' h3 => ?_) h2
      have hS' := h3.2.1 ⟨hjz, hzi2⟩
      refine ⟨fun _ => hS', ih (listed.setIfInBounds j true) a' w' hfree' (ready_mono hr (Ne.symm hji)) (by rw [getD_set_ne false hjz]; exact hzl) h3.1 hS' ?_⟩
      rw [Array.setIfInBounds_comm _ _ hji]
      exact h3.2.2
theorem wpZ_take {i z : Nat} {oi : Oper} {v : Value} {fuel : Nat} {listed : Array Bool} {a : Act} {w : World} (hi : ops[i]? = some oi)
    (hs : Region.noSelect ops = true) (hf : Region.free .any ops listed i = true) (hr : (Region.ready .any ops listed).contains i = true)
    (hQ : ∀ c a w, Q (.panic c) (a.put oi.dst v) w → Q (.panic c) a w) (hz : waitsZ ops z i = true) (hzl : listed.getD z false = false) (hy : YieldsIf P ops S oi v a) (hS : S w)
    (h : wpZ P .any ops Q z S fuel (listed.setIfInBounds i true) (a.put oi.dst v) w) : wpZ P .any ops Q z S (fuel + 1) listed a w := by
  refine wpZ_first hi (Region.noSelect_spec hs) hQ (fun oz ho => ?_) fuel listed a w (Region.free_spec hi hf) (by simpa using hr) hzl hy hS h
  unfold waitsZ at hz
  rw [ho] at hz
  simp only [Bool.and_eq_true, bne_iff_ne, Array.any_eq_true, beq_iff_eq] at hz
  obtain ⟨h1, x, hx, h2, h3⟩ := hz
  exact ⟨h1, oz.after[x], Array.getElem_mem .., h2, h3⟩
theorem wpZ_all {z : Nat} {rs : List Nat} {fuel : Nat} {listed : Array Bool} {a : Act} {w : World} (hr : Region.ready md ops listed = rs) (hne : rs ≠ [])
    (h : ∀ i ∈ rs, listed.getD i true = false → wpOp P ops Q i (fun a' w' => (i ≠ z ∧ listed.getD z false = false → S w') ∧ wpZ P md ops Q z S fuel (listed.setIfInBounds i true) a' w') a w) : wpZ P md ops Q z S (fuel + 1) listed a w :=
  ⟨fun h0 => absurd (hr ▸ h0) hne, fun i hi => h i (hr ▸ hi) (mem_ready.1 hi).1⟩
end
def Pn.okZ (ops : Array Oper) (z : Nat) : Pn → Array Bool → Bool
  | .nil, listed => (Region.ready .any ops listed).isEmpty
  | .q i r, listed => waitsZ ops z i && !(listed.getD z false) && (Region.ready .any ops listed).contains i && Region.free .any ops listed i && r.okZ ops z (listed.setIfInBounds i true)
  | .s i r, listed => decide (Region.ready .any ops listed = [i]) && r.okZ ops z (listed.setIfInBounds i true)
  | .s2 i j r r', listed => decide (Region.ready .any ops listed = [i, j]) && decide (r'.len = r.len) && r.okZ ops z (listed.setIfInBounds i true) && r'.okZ ops z (listed.setIfInBounds j true)
  | .s3 i j k r r' r'', listed => decide (Region.ready .any ops listed = [i, j, k]) && decide (r'.len = r.len) && decide (r''.len = r.len) && r.okZ ops z (listed.setIfInBounds i true) && r'.okZ ops z (listed.setIfInBounds j true) && r''.okZ ops z (listed.setIfInBounds k true)

section
variable {P : Program} {n z : Nat} {ops : Array Oper} {Q : Exit → Fr → World → Prop} {S : World → Prop} {K : Fr → World → Prop} {F : Fr} {w w' : World} {r r' r'' : Pn} {i j k : Nat}
def ZT (P : Program) (n : Nat) (ops : Array Oper) (z : Nat) (S : World → Prop) (K : Fr → World → Prop) (r : Pn) (F : Fr) (w : World) : Prop :=
  ∀ listed a, Region.noSelect ops = true → r.okZ ops z listed = true → Rel n a F → (listed.getD z false = false → S w) → wpZ P .any ops (lift n (onlyN K)) z S r.len listed a w

theorem WP.drawZ {id : Nat} {l : List Oper} (z : Nat) (S : World → Prop) (plan : Pn) (hm : P.follows .mixedOrders = true) (hns : Region.noSelect l.toArray = true) (hlen : plan.len = l.length)
    (hp : plan.okZ l.toArray z (Array.replicate l.length false) = true) (hS : ∀ w1, Chg w w1 [] → S w1) (h : ∀ w1, Chg w w1 [] → ZT P n l.toArray z S (Q .normal) plan F w1) : WP P n (.region id l.toArray true) Q F w := by
  intro a ha
  have hc : Chg w { w with drawn := w.drawn + 1 } [] := ⟨rfl, rfl, rfl, Nat.le_refl _, fun _ _ _ => rfl⟩
  have h1 := h _ hc (Array.replicate l.length false) a hns hp ha (fun _ => hS _ hc)
  have h2 : (Code.region id l.toArray true).wp P (lift n (onlyN (Q .normal))) a w := wp_region_any hm (wpAny_ofZ _ _ _ _ (by simpa [hlen] using h1))
  refine Code.wp_mono ?_ h2
  rintro e a w ⟨F, r, q⟩
  cases e <;> first | exact ⟨F, r, q⟩ | exact q.elim

theorem ZT.nil (h : K F w) : ZT P n ops z S K .nil F w := by
  intro listed a hns hp ha _
  exact ⟨by simpa [Pn.okZ] using hp, F, ha, h⟩

theorem ZT.q {o : Oper} {d : Nat} {v : Value} (hi0 : ops.toList[i]? = some o) (hg : Wn ops F o) (hdst : o.dst = some d) (hd : Nat.blt d n = true)
    (hrun : ∀ w, S w → (execOp (evO F) o).run P w = .ok (.value v) w) (k : ZT P n ops z S K r (upd F d v) w) : ZT P n ops z S K (.q i r) F w := by
  have hi : ops[i]? = some o := by rw [← hi0]; simp
  intro listed a hns hp ha hS
  simp only [Pn.okZ, Bool.and_eq_true] at hp
  obtain ⟨⟨⟨⟨hz1, hz2⟩, hp1⟩, hp2⟩, hp3⟩ := hp
  have hz3 : listed.getD z false = false := by simpa using hz2
  refine wpZ_take (v := v) hi hns hp2 hp1 noPan hz1 hz3 (.inl ⟨hg.wanted ha, fun w hw => ?_⟩) (hS hz3) ?_
  · rw [ha.eval]; exact hrun w hw
  · rw [hdst]; exact k _ _ hns hp3 (ha.put hd) (fun _ => hS hz3)

theorem ZT.skipQ {o : Oper} {d j t : Nat} {want : Bool} (hi0 : ops.toList[i]? = some o) (hgd : o.guard = some (j, want)) (hj : (ops[j]?).bind (·.dst) = some t) (hy : boolOf (F t) ≠ some want) (hdst : o.dst = some d) (hd : Nat.blt d n = true)
    (k : ZT P n ops z S K r (upd F d undef) w) : ZT P n ops z S K (.q i r) F w := by
  have hi : ops[i]? = some o := by rw [← hi0]; simp
  intro listed a hns hp ha hS
  simp only [Pn.okZ, Bool.and_eq_true] at hp
  have hu : Region.wanted o (yielded ops a.tmps) = false := by
    simp only [Region.wanted, hgd, yld ha hj]; exact beq_eq_false_iff_ne.2 hy
  obtain ⟨⟨⟨⟨hz1, hz2⟩, hp1⟩, hp2⟩, hp3⟩ := hp
  have hz3 : listed.getD z false = false := by simpa using hz2
  refine wpZ_take hi hns hp2 hp1 noPan hz1 hz3 (.inr ⟨hu, rfl⟩) (hS hz3) ?_
  rw [hdst]; exact k _ _ hns hp3 (ha.put hd) (fun _ => hS hz3)

/-- what is to be shown of one operation that may come up -/
def OpZ (P : Program) (n : Nat) (ops : Array Oper) (z : Nat) (S : World → Prop) (K : Fr → World → Prop) (i : Nat) (r : Pn) (F : Fr) (w : World) : Prop :=
  ∀ (listed : Array Bool) a, Region.noSelect ops = true → r.okZ ops z (listed.setIfInBounds i true) = true → Rel n a F → listed.getD i true = false → (listed.getD z false = false → S w) →
    wpOp P ops (lift n (onlyN K)) i (fun a' w' => (i ≠ z ∧ listed.getD z false = false → S w') ∧ wpZ P .any ops (lift n (onlyN K)) z S r.len (listed.setIfInBounds i true) a' w') a w

theorem OpZ.one {o : Oper} (hi0 : ops.toList[i]? = some o) (hg : Wn ops F o)
    (h : WL P n ops (onlyN fun F' w' => S w' ∧ ZT P n ops z S K r F' w') [⟨o.dst, o.op, o.type, o.pos, o.after, none⟩] F w) : OpZ P n ops z S K i r F w := by
  have hi : ops[i]? = some o := by rw [← hi0]; simp
  intro listed a hns hp ha hun hS
  unfold wpOp
  simp only [hi, hg.wanted ha, if_true]
  have h1 := h a ha
  simp only [wpList, Region.wanted, if_true] at h1
  rcases h1 with h1 | ⟨_, a0, w0, F0, _, q⟩
  · refine .inl ?_
    unfold Oper.wp at h1 ⊢
    have e : execOp a.eval ⟨o.dst, o.op, o.type, o.pos, o.after, none⟩ = execOp a.eval o := rfl
    rw [e] at h1
    have h2 : o.upon P a (fun a' w' => lift n (onlyN fun F' w' => S w' ∧ ZT P n ops z S K r F' w') .normal a' w') (lift n (onlyN fun F' w' => S w' ∧ ZT P n ops z S K r F' w')) ((execOp a.eval o).run P w) := h1
    refine Oper.upon_mono' ?_ ?_ ?_ h2
    · rintro a' w' ⟨F', r', hS', hk⟩
      exact ⟨fun _ => hS', hk _ _ hns hp r' (fun _ => hS')⟩
    · rintro c a' w' ⟨F', r', q⟩; exact q.elim
    · rintro a' w' ⟨F', r', q⟩; exact q.elim
  · exact q.elim

theorem OpZ.last {o : Oper} (hi0 : ops.toList[z]? = some o) (hg : Wn ops F o)
    (h : WL P n ops (onlyN fun F' w' => ZT P n ops z S K r F' w') [⟨o.dst, o.op, o.type, o.pos, o.after, none⟩] F w) : OpZ P n ops z S K z r F w := by
  have hi : ops[z]? = some o := by rw [← hi0]; simp
  intro listed a hns hp ha hun hS
  unfold wpOp
  simp only [hi, hg.wanted ha, if_true]
  have h1 := h a ha
  simp only [wpList, Region.wanted, if_true] at h1
  rcases h1 with h1 | ⟨_, a0, w0, F0, _, q⟩
  · refine .inl ?_
    unfold Oper.wp at h1 ⊢
    have e : execOp a.eval ⟨o.dst, o.op, o.type, o.pos, o.after, none⟩ = execOp a.eval o := rfl
    rw [e] at h1
    have h2 : o.upon P a (fun a' w' => lift n (onlyN fun F' w' => ZT P n ops z S K r F' w') .normal a' w') (lift n (onlyN fun F' w' => ZT P n ops z S K r F' w')) ((execOp a.eval o).run P w) := h1
    refine Oper.upon_mono' ?_ ?_ ?_ h2
    · rintro a' w' ⟨F', r', hk⟩
      exact ⟨fun h => absurd rfl h.1, hk _ _ hns hp r' (fun h => by rw [listed_set hun] at h; cases h)⟩
    · rintro c a' w' ⟨F', r', q⟩; exact q.elim
    · rintro a' w' ⟨F', r', q⟩; exact q.elim
  · exact q.elim

theorem OpZ.skip {o : Oper} {d j t : Nat} {want : Bool} (hi0 : ops.toList[i]? = some o) (hgd : o.guard = some (j, want)) (hj : (ops[j]?).bind (·.dst) = some t) (hy : boolOf (F t) ≠ some want) (hdst : o.dst = some d) (hd : Nat.blt d n = true)
    (k : ZT P n ops z S K r (upd F d undef) w) : OpZ P n ops z S K i r F w := by
  have hi : ops[i]? = some o := by rw [← hi0]; simp
  intro listed a hns hp ha hun hS
  have hu : Region.wanted o (yielded ops a.tmps) = false := by
    simp only [Region.wanted, hgd, yld ha hj]; exact beq_eq_false_iff_ne.2 hy
  unfold wpOp
  simp only [hi, hu, Bool.false_eq_true, if_false]
  refine ⟨fun h => hS h.2, ?_⟩
  rw [hdst]; exact k _ _ hns hp (ha.put hd) (fun h => hS (listed_of h))

theorem OpZ.skip0 {o : Oper} {j t : Nat} {want : Bool} (hi0 : ops.toList[i]? = some o) (hgd : o.guard = some (j, want)) (hj : (ops[j]?).bind (·.dst) = some t) (hy : boolOf (F t) ≠ some want) (hdst : o.dst = none)
    (k : ZT P n ops z S K r F w) : OpZ P n ops z S K i r F w := by
  have hi : ops[i]? = some o := by rw [← hi0]; simp
  intro listed a hns hp ha hun hS
  have hu : Region.wanted o (yielded ops a.tmps) = false := by
    simp only [Region.wanted, hgd, yld ha hj]; exact beq_eq_false_iff_ne.2 hy
  unfold wpOp
  simp only [hi, hu, Bool.false_eq_true, if_false]
  refine ⟨fun h => hS h.2, ?_⟩
  rw [hdst]; exact k _ _ hns hp ha (fun h => hS (listed_of h))

theorem ZT.s (h : OpZ P n ops z S K i r F w) : ZT P n ops z S K (.s i r) F w := by
  intro listed a hns hp ha hS
  simp only [Pn.okZ, Bool.and_eq_true, decide_eq_true_eq] at hp
  refine wpZ_all hp.1 (by simp) fun x hx hun => ?_
  simp only [List.mem_singleton] at hx; subst hx
  exact h listed a hns hp.2 ha hun hS

theorem ZT.s2 (h : OpZ P n ops z S K i r F w) (h' : OpZ P n ops z S K j r' F w) : ZT P n ops z S K (.s2 i j r r') F w := by
  intro listed a hns hp ha hS
  simp only [Pn.okZ, Bool.and_eq_true, decide_eq_true_eq] at hp
  obtain ⟨⟨⟨h1, h2⟩, h3⟩, h4⟩ := hp
  refine wpZ_all h1 (by simp) fun x hx hun => ?_
  simp only [List.mem_cons, List.not_mem_nil, or_false] at hx
  rcases hx with rfl | rfl
  · exact h listed a hns h3 ha hun hS
  · have := h' listed a hns h4 ha hun hS
    rwa [h2] at this

theorem ZT.s3 (h : OpZ P n ops z S K i r F w) (h' : OpZ P n ops z S K j r' F w) (h'' : OpZ P n ops z S K k r'' F w) : ZT P n ops z S K (.s3 i j k r r' r'') F w := by
  intro listed a hns hp ha hS
  simp only [Pn.okZ, Bool.and_eq_true, decide_eq_true_eq] at hp
  obtain ⟨⟨⟨⟨⟨h1, h2⟩, h2'⟩, h3⟩, h4⟩, h5⟩ := hp
  refine wpZ_all h1 (by simp) fun x hx hun => ?_
  simp only [List.mem_cons, List.not_mem_nil, or_false] at hx
  rcases hx with rfl | rfl | rfl
  · exact h listed a hns h3 ha hun hS
  · have := h' listed a hns h4 ha hun hS
    rwa [h2] at this
  · have := h'' listed a hns h5 ha hun hS
    rwa [h2'] at this
end
end Go.Vc
