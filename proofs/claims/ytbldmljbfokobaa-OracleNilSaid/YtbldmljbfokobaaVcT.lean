/- More rules: rules for walks, proved here for every program of the model. Conditions: none beyond what each theorem states. -/
import Derived.Test.YtbldmljbfokobaaVcN
import Derived.OrdersHeld
set_option linter.unusedVariables false
set_option linter.unusedSimpArgs false
namespace Go.Vc
open Go.RowKit
set_option linter.unusedSectionVars false

/-! ## regions that draw their order: more than one operation may come up -/
inductive Pn
  | nil
  | q (i : Nat) (r : Pn)
  | s (i : Nat) (r : Pn)
  | s2 (i j : Nat) (r r' : Pn)
  | s3 (i j k : Nat) (r r' r'' : Pn)
def Pn.len : Pn → Nat
  | .nil => 0
  | .q _ r | .s _ r | .s2 _ _ r _ | .s3 _ _ _ r _ _ => r.len + 1
def Pn.ok (ops : Array Oper) : Pn → Array Bool → Bool
  | .nil, listed => (Region.ready .any ops listed).isEmpty
  | .q i r, listed => (Region.ready .any ops listed).contains i && Region.free .any ops listed i && r.ok ops (listed.setIfInBounds i true)
  | .s i r, listed => decide (Region.ready .any ops listed = [i]) && r.ok ops (listed.setIfInBounds i true)
  | .s2 i j r r', listed => decide (Region.ready .any ops listed = [i, j]) && decide (r'.len = r.len) && r.ok ops (listed.setIfInBounds i true) && r'.ok ops (listed.setIfInBounds j true)
  | .s3 i j k r r' r'', listed => decide (Region.ready .any ops listed = [i, j, k]) && decide (r'.len = r.len) && decide (r''.len = r.len) && r.ok ops (listed.setIfInBounds i true) && r'.ok ops (listed.setIfInBounds j true) && r''.ok ops (listed.setIfInBounds k true)

section
variable {P : Program} {n : Nat} {ops : Array Oper} {Q : Exit → Fr → World → Prop} {S : World → Prop} {K : Fr → World → Prop} {F : Fr} {w w' : World} {r r' r'' : Pn} {i j k : Nat}

def WT (P : Program) (n : Nat) (ops : Array Oper) (S : World → Prop) (K : Fr → World → Prop) (r : Pn) (F : Fr) (w : World) : Prop :=
  ∀ listed a, Region.noSelect ops = true → r.ok ops listed = true → Rel n a F → S w → wpAnyH P .any ops (lift n (onlyN K)) S r.len listed a w

theorem WP.drawT {id : Nat} {l : List Oper} (S : World → Prop) (plan : Pn) (hm : P.follows .mixedOrders = true) (hns : Region.noSelect l.toArray = true) (hlen : plan.len = l.length)
    (hp : plan.ok l.toArray (Array.replicate l.length false) = true) (hS : ∀ w1, Chg w w1 [] → S w1) (h : ∀ w1, Chg w w1 [] → WT P n l.toArray S (Q .normal) plan F w1) : WP P n (.region id l.toArray true) Q F w := by
  intro a ha
  have hc : Chg w { w with drawn := w.drawn + 1 } [] := ⟨rfl, rfl, rfl, Nat.le_refl _, fun _ _ _ => rfl⟩
  have h1 := h _ hc (Array.replicate l.length false) a hns hp ha (hS _ hc)
  have h2 : (Code.region id l.toArray true).wp P (lift n (onlyN (Q .normal))) a w := wp_region_held hm (by simpa [hlen] using h1)
  refine Code.wp_mono ?_ h2
  rintro e a w ⟨F, r, q⟩
  cases e <;> first | exact ⟨F, r, q⟩ | exact q.elim

theorem WT.nil (h : K F w) : WT P n ops S K .nil F w := by
  intro listed a hns hp ha _
  exact ⟨by simpa [Pn.ok] using hp, F, ha, h⟩

theorem WT.q {o : Oper} {d : Nat} {v : Value} (hi0 : ops.toList[i]? = some o) (hg : Wn ops F o) (hdst : o.dst = some d) (hd : Nat.blt d n = true)
    (hrun : ∀ w, S w → (execOp (evO F) o).run P w = .ok (.value v) w) (k : WT P n ops S K r (upd F d v) w) : WT P n ops S K (.q i r) F w := by
  have hi : ops[i]? = some o := by rw [← hi0]; simp
  intro listed a hns hp ha hS
  simp only [Pn.ok, Bool.and_eq_true] at hp
  refine wpAnyH_take (v := v) hi hns hp.1.2 hp.1.1 noPan (.inl ⟨hg.wanted ha, fun w hw => ?_⟩) hS ?_
  · rw [ha.eval]; exact hrun w hw
  · rw [hdst]; exact k _ _ hns hp.2 (ha.put hd) hS

theorem WT.skipQ {o : Oper} {d j t : Nat} {want : Bool} (hi0 : ops.toList[i]? = some o) (hgd : o.guard = some (j, want)) (hj : (ops[j]?).bind (·.dst) = some t) (hy : boolOf (F t) ≠ some want) (hdst : o.dst = some d) (hd : Nat.blt d n = true)
    (k : WT P n ops S K r (upd F d undef) w) : WT P n ops S K (.q i r) F w := by
  have hi : ops[i]? = some o := by rw [← hi0]; simp
  intro listed a hns hp ha hS
  simp only [Pn.ok, Bool.and_eq_true] at hp
  have hu : Region.wanted o (yielded ops a.tmps) = false := by
    simp only [Region.wanted, hgd, yld ha hj]; exact beq_eq_false_iff_ne.2 hy
  refine wpAnyH_take hi hns hp.1.2 hp.1.1 noPan (.inr ⟨hu, rfl⟩) hS ?_
  rw [hdst]; exact k _ _ hns hp.2 (ha.put hd) hS

/-- what is to be shown of one operation that may come up -/
def Op1 (P : Program) (n : Nat) (ops : Array Oper) (S : World → Prop) (K : Fr → World → Prop) (i : Nat) (r : Pn) (F : Fr) (w : World) : Prop :=
  ∀ (listed : Array Bool) a, Region.noSelect ops = true → r.ok ops (listed.setIfInBounds i true) = true → Rel n a F → S w →
    wpOp P ops (lift n (onlyN K)) i (fun a' w' => S w' ∧ wpAnyH P .any ops (lift n (onlyN K)) S r.len (listed.setIfInBounds i true) a' w') a w

theorem Op1.one {o : Oper} (hi0 : ops.toList[i]? = some o) (hg : Wn ops F o)
    (h : WL P n ops (onlyN fun F' w' => S w' ∧ WT P n ops S K r F' w') [⟨o.dst, o.op, o.type, o.pos, o.after, none⟩] F w) : Op1 P n ops S K i r F w := by
  have hi : ops[i]? = some o := by rw [← hi0]; simp
  intro listed a hns hp ha hS
  unfold wpOp
  simp only [hi, hg.wanted ha, if_true]
  have h1 := h a ha
  simp only [wpList, Region.wanted, if_true] at h1
  rcases h1 with h1 | ⟨_, a0, w0, F0, _, q⟩
  · refine .inl ?_
    unfold Oper.wp at h1 ⊢
    have e : execOp a.eval ⟨o.dst, o.op, o.type, o.pos, o.after, none⟩ = execOp a.eval o := rfl
    rw [e] at h1
    have h2 : o.upon P a (fun a' w' => lift n (onlyN fun F' w' => S w' ∧ WT P n ops S K r F' w') .normal a' w') (lift n (onlyN fun F' w' => S w' ∧ WT P n ops S K r F' w')) ((execOp a.eval o).run P w) := h1
    refine Oper.upon_mono' ?_ ?_ ?_ h2
    · rintro a' w' ⟨F', r', hS', hk⟩
      exact ⟨hS', hk _ _ hns hp r' hS'⟩
    · rintro c a' w' ⟨F', r', q⟩; exact q.elim
    · rintro a' w' ⟨F', r', q⟩; exact q.elim
  · exact q.elim

theorem Op1.skip {o : Oper} {d j t : Nat} {want : Bool} (hi0 : ops.toList[i]? = some o) (hgd : o.guard = some (j, want)) (hj : (ops[j]?).bind (·.dst) = some t) (hy : boolOf (F t) ≠ some want) (hdst : o.dst = some d) (hd : Nat.blt d n = true)
    (k : WT P n ops S K r (upd F d undef) w) : Op1 P n ops S K i r F w := by
  have hi : ops[i]? = some o := by rw [← hi0]; simp
  intro listed a hns hp ha hS
  have hu : Region.wanted o (yielded ops a.tmps) = false := by
    simp only [Region.wanted, hgd, yld ha hj]; exact beq_eq_false_iff_ne.2 hy
  unfold wpOp
  simp only [hi, hu, Bool.false_eq_true, if_false]
  refine ⟨hS, ?_⟩
  rw [hdst]; exact k _ _ hns hp (ha.put hd) hS

theorem Op1.skip0 {o : Oper} {j t : Nat} {want : Bool} (hi0 : ops.toList[i]? = some o) (hgd : o.guard = some (j, want)) (hj : (ops[j]?).bind (·.dst) = some t) (hy : boolOf (F t) ≠ some want) (hdst : o.dst = none)
    (k : WT P n ops S K r F w) : Op1 P n ops S K i r F w := by
  have hi : ops[i]? = some o := by rw [← hi0]; simp
  intro listed a hns hp ha hS
  have hu : Region.wanted o (yielded ops a.tmps) = false := by
    simp only [Region.wanted, hgd, yld ha hj]; exact beq_eq_false_iff_ne.2 hy
  unfold wpOp
  simp only [hi, hu, Bool.false_eq_true, if_false]
  refine ⟨hS, ?_⟩
  rw [hdst]; exact k _ _ hns hp ha hS

theorem WT.s (h : Op1 P n ops S K i r F w) : WT P n ops S K (.s i r) F w := by
  intro listed a hns hp ha hS
  simp only [Pn.ok, Bool.and_eq_true, decide_eq_true_eq] at hp
  refine wpAnyH_all hp.1 (by simp) fun x hx => ?_
  simp only [List.mem_singleton] at hx; subst hx
  exact h listed a hns hp.2 ha hS

theorem WT.s2 (h : Op1 P n ops S K i r F w) (h' : Op1 P n ops S K j r' F w) : WT P n ops S K (.s2 i j r r') F w := by
  intro listed a hns hp ha hS
  simp only [Pn.ok, Bool.and_eq_true, decide_eq_true_eq] at hp
  obtain ⟨⟨⟨h1, h2⟩, h3⟩, h4⟩ := hp
  refine wpAnyH_all h1 (by simp) fun x hx => ?_
  simp only [List.mem_cons, List.not_mem_nil, or_false] at hx
  rcases hx with rfl | rfl
  · exact h listed a hns h3 ha hS
  · have := h' listed a hns h4 ha hS
    rwa [h2] at this

theorem WT.s3 (h : Op1 P n ops S K i r F w) (h' : Op1 P n ops S K j r' F w) (h'' : Op1 P n ops S K k r'' F w) : WT P n ops S K (.s3 i j k r r' r'') F w := by
  intro listed a hns hp ha hS
  simp only [Pn.ok, Bool.and_eq_true, decide_eq_true_eq] at hp
  obtain ⟨⟨⟨⟨⟨h1, h2⟩, h2'⟩, h3⟩, h4⟩, h5⟩ := hp
  refine wpAnyH_all h1 (by simp) fun x hx => ?_
  simp only [List.mem_cons, List.not_mem_nil, or_false] at hx
  rcases hx with rfl | rfl | rfl
  · exact h listed a hns h3 ha hS
  · have := h' listed a hns h4 ha hS
    rwa [h2] at this
  · have := h'' listed a hns h5 ha hS
    rwa [h2'] at this
end

/-! ## the entries in another order -/
inductive Pick (e : Ent) : List Ent → List Ent → Prop
  | h {L : List Ent} : Pick e (e :: L) L
  | t {f : Ent} {L L' : List Ent} : Pick e L L' → Pick e (f :: L) (f :: L')
theorem Pick.perm {e : Ent} {L L' : List Ent} (h : Pick e L L') : L.Perm (e :: L') := by
  induction h with
  | h => exact List.Perm.refl _
  | @t f L L' _ ih => exact (List.Perm.cons f ih).trans (List.Perm.swap e f L')
theorem HP.perm {w0 w : World} {L L' : List Ent} (h : HP w0 w L) (hp : L.Perm L') : HP w0 w L' where
  os := h.os
  tape := h.tape
  output := h.output
  size := h.size
  frame := fun k hk hn => h.frame k hk fun e he => hn e (hp.mem_iff.1 he)
  ok := fun e he => h.ok e (hp.mem_iff.2 he)
  sep := (hp.pairwise_iff fun {_ _} h => Sep.symm h).1 h.sep
theorem HP.up {w0 w : World} {e : Ent} {L L' : List Ent} (h : HP w0 w L) (hp : Pick e L L') : HP w0 w (e :: L') := h.perm hp.perm

/-! ## a chain of codes whose ways meet again ahead of the rest -/
section
variable {P : Program} {n : Nat} {Q : Exit → Fr → World → Prop} {F0 : Fr} {w : World} {a b c d e f g x : Code}
theorem thn_mono {K K' : Fr → World → Prop} {Q : Exit → Fr → World → Prop} (h : ∀ F w, K F w → K' F w) : ∀ e F w, thn K Q e F w → thn K' Q e F w := by
  intro e F w q
  cases e <;> first | exact h F w q | exact q
theorem thn_thn {K K' K2 : Fr → World → Prop} {Q : Exit → Fr → World → Prop} (h : ∀ F w, K F w → K' F w) : ∀ e F w, thn K (thn K2 Q) e F w → thn K' Q e F w := by
  intro e F w q
  cases e <;> first | exact h F w q | exact q
theorem WP.c1 (K : Fr → World → Prop) (h : WP P n a (thn K Q) F0 w) (hk : ∀ F w, K F w → WP P n x Q F w) : WP P n (.seq a x) Q F0 w :=
  WP.seq (h.mono (thn_mono hk))
theorem WP.c2 (K : Fr → World → Prop) (h : WP P n a (thn (WP P n b (thn K Q)) (thn K Q)) F0 w) (hk : ∀ F w, K F w → WP P n x Q F w) : WP P n (.seq a (.seq b x)) Q F0 w :=
  WP.seq (h.mono (thn_thn fun _ _ q => WP.c1 K q hk))
theorem WP.c3 (K : Fr → World → Prop) (h : WP P n a (thn (WP P n b (thn (WP P n c (thn K Q)) (thn K Q))) (thn (WP P n c (thn K Q)) (thn K Q))) F0 w) (hk : ∀ F w, K F w → WP P n x Q F w) : WP P n (.seq a (.seq b (.seq c x))) Q F0 w :=
  WP.seq (h.mono fun e F w q => by cases e <;> first | exact WP.c2 K q hk | exact q)
theorem WP.c4 (K : Fr → World → Prop) (h : WP P n a (thn (WP P n b (thn (WP P n c (thn (WP P n d (thn K Q)) (thn K Q))) (thn (WP P n d (thn K Q)) (thn K Q)))) (thn (WP P n c (thn (WP P n d (thn K Q)) (thn K Q))) (thn (WP P n d (thn K Q)) (thn K Q)))) F0 w) (hk : ∀ F w, K F w → WP P n x Q F w) : WP P n (.seq a (.seq b (.seq c (.seq d x)))) Q F0 w :=
  WP.seq (h.mono fun e F w q => by cases e <;> first | exact WP.c3 K q hk | exact q)
theorem WP.c5 (K : Fr → World → Prop) (h : WP P n a (thn (WP P n b (thn (WP P n c (thn (WP P n d (thn (WP P n e (thn K Q)) (thn K Q))) (thn (WP P n e (thn K Q)) (thn K Q)))) (thn (WP P n d (thn (WP P n e (thn K Q)) (thn K Q))) (thn (WP P n e (thn K Q)) (thn K Q))))) (thn (WP P n c (thn (WP P n d (thn (WP P n e (thn K Q)) (thn K Q))) (thn (WP P n e (thn K Q)) (thn K Q)))) (thn (WP P n d (thn (WP P n e (thn K Q)) (thn K Q))) (thn (WP P n e (thn K Q)) (thn K Q))))) F0 w) (hk : ∀ F w, K F w → WP P n x Q F w) : WP P n (.seq a (.seq b (.seq c (.seq d (.seq e x))))) Q F0 w :=
  WP.seq (h.mono fun e F w q => by cases e <;> first | exact WP.c4 K q hk | exact q)
theorem WP.c6 (K : Fr → World → Prop) (h : WP P n a (thn (WP P n b (thn (WP P n c (thn (WP P n d (thn (WP P n e (thn (WP P n f (thn K Q)) (thn K Q))) (thn (WP P n f (thn K Q)) (thn K Q)))) (thn (WP P n e (thn (WP P n f (thn K Q)) (thn K Q))) (thn (WP P n f (thn K Q)) (thn K Q))))) (thn (WP P n d (thn (WP P n e (thn (WP P n f (thn K Q)) (thn K Q))) (thn (WP P n f (thn K Q)) (thn K Q)))) (thn (WP P n e (thn (WP P n f (thn K Q)) (thn K Q))) (thn (WP P n f (thn K Q)) (thn K Q)))))) (thn (WP P n c (thn (WP P n d (thn (WP P n e (thn (WP P n f (thn K Q)) (thn K Q))) (thn (WP P n f (thn K Q)) (thn K Q)))) (thn (WP P n e (thn (WP P n f (thn K Q)) (thn K Q))) (thn (WP P n f (thn K Q)) (thn K Q))))) (thn (WP P n d (thn (WP P n e (thn (WP P n f (thn K Q)) (thn K Q))) (thn (WP P n f (thn K Q)) (thn K Q)))) (thn (WP P n e (thn (WP P n f (thn K Q)) (thn K Q))) (thn (WP P n f (thn K Q)) (thn K Q)))))) F0 w) (hk : ∀ F w, K F w → WP P n x Q F w) : WP P n (.seq a (.seq b (.seq c (.seq d (.seq e (.seq f x)))))) Q F0 w :=
  WP.seq (h.mono fun e F w q => by cases e <;> first | exact WP.c5 K q hk | exact q)
theorem WP.c7 (K : Fr → World → Prop) (h : WP P n a (thn (WP P n b (thn (WP P n c (thn (WP P n d (thn (WP P n e (thn (WP P n f (thn (WP P n g (thn K Q)) (thn K Q))) (thn (WP P n g (thn K Q)) (thn K Q)))) (thn (WP P n f (thn (WP P n g (thn K Q)) (thn K Q))) (thn (WP P n g (thn K Q)) (thn K Q))))) (thn (WP P n e (thn (WP P n f (thn (WP P n g (thn K Q)) (thn K Q))) (thn (WP P n g (thn K Q)) (thn K Q)))) (thn (WP P n f (thn (WP P n g (thn K Q)) (thn K Q))) (thn (WP P n g (thn K Q)) (thn K Q)))))) (thn (WP P n d (thn (WP P n e (thn (WP P n f (thn (WP P n g (thn K Q)) (thn K Q))) (thn (WP P n g (thn K Q)) (thn K Q)))) (thn (WP P n f (thn (WP P n g (thn K Q)) (thn K Q))) (thn (WP P n g (thn K Q)) (thn K Q))))) (thn (WP P n e (thn (WP P n f (thn (WP P n g (thn K Q)) (thn K Q))) (thn (WP P n g (thn K Q)) (thn K Q)))) (thn (WP P n f (thn (WP P n g (thn K Q)) (thn K Q))) (thn (WP P n g (thn K Q)) (thn K Q))))))) (thn (WP P n c (thn (WP P n d (thn (WP P n e (thn (WP P n f (thn (WP P n g (thn K Q)) (thn K Q))) (thn (WP P n g (thn K Q)) (thn K Q)))) (thn (WP P n f (thn (WP P n g (thn K Q)) (thn K Q))) (thn (WP P n g (thn K Q)) (thn K Q))))) (thn (WP P n e (thn (WP P n f (thn (WP P n g (thn K Q)) (thn K Q))) (thn (WP P n g (thn K Q)) (thn K Q)))) (thn (WP P n f (thn (WP P n g (thn K Q)) (thn K Q))) (thn (WP P n g (thn K Q)) (thn K Q)))))) (thn (WP P n d (thn (WP P n e (thn (WP P n f (thn (WP P n g (thn K Q)) (thn K Q))) (thn (WP P n g (thn K Q)) (thn K Q)))) (thn (WP P n f (thn (WP P n g (thn K Q)) (thn K Q))) (thn (WP P n g (thn K Q)) (thn K Q))))) (thn (WP P n e (thn (WP P n f (thn (WP P n g (thn K Q)) (thn K Q))) (thn (WP P n g (thn K Q)) (thn K Q)))) (thn (WP P n f (thn (WP P n g (thn K Q)) (thn K Q))) (thn (WP P n g (thn K Q)) (thn K Q))))))) F0 w) (hk : ∀ F w, K F w → WP P n x Q F w) : WP P n (.seq a (.seq b (.seq c (.seq d (.seq e (.seq f (.seq g x))))))) Q F0 w :=
  WP.seq (h.mono fun e F w q => by cases e <;> first | exact WP.c6 K q hk | exact q)
theorem ofG {G : Type} {M : List Nat} {S : G → List (Nat × Value)} {H : G → World → Prop} (k : ∀ g J w', H g w' → WP P n x Q (updL (S g) (mix M J F0)) w') :
    ∀ F w, (∃ g, Ag M F F0 ∧ Hds F (S g) ∧ H g w) → WP P n x Q F w := by
  rintro F w ⟨g, h1, h2, h3⟩
  rw [eq_mix h1 h2]; exact k g F w h3
theorem WP.g1 {G : Type} (M : List Nat) (S : G → List (Nat × Value)) (H : G → World → Prop) (h : WP P n a (thn (fun F w => ∃ g, Ag M F F0 ∧ Hds F (S g) ∧ H g w) Q) F0 w) (k : ∀ g J w', H g w' → WP P n x Q (updL (S g) (mix M J F0)) w') : WP P n (.seq a x) Q F0 w :=
  WP.c1 _ h (ofG k)
theorem WP.g2 {G : Type} (M : List Nat) (S : G → List (Nat × Value)) (H : G → World → Prop) (h : WP P n a (thn (WP P n b (thn (fun F w => ∃ g, Ag M F F0 ∧ Hds F (S g) ∧ H g w) Q)) (thn (fun F w => ∃ g, Ag M F F0 ∧ Hds F (S g) ∧ H g w) Q)) F0 w) (k : ∀ g J w', H g w' → WP P n x Q (updL (S g) (mix M J F0)) w') : WP P n (.seq a (.seq b x)) Q F0 w :=
  WP.c2 _ h (ofG k)
theorem WP.g3 {G : Type} (M : List Nat) (S : G → List (Nat × Value)) (H : G → World → Prop) (h : WP P n a (thn (WP P n b (thn (WP P n c (thn (fun F w => ∃ g, Ag M F F0 ∧ Hds F (S g) ∧ H g w) Q)) (thn (fun F w => ∃ g, Ag M F F0 ∧ Hds F (S g) ∧ H g w) Q))) (thn (WP P n c (thn (fun F w => ∃ g, Ag M F F0 ∧ Hds F (S g) ∧ H g w) Q)) (thn (fun F w => ∃ g, Ag M F F0 ∧ Hds F (S g) ∧ H g w) Q))) F0 w) (k : ∀ g J w', H g w' → WP P n x Q (updL (S g) (mix M J F0)) w') : WP P n (.seq a (.seq b (.seq c x))) Q F0 w :=
  WP.c3 _ h (ofG k)
theorem WP.g4 {G : Type} (M : List Nat) (S : G → List (Nat × Value)) (H : G → World → Prop) (h : WP P n a (thn (WP P n b (thn (WP P n c (thn (WP P n d (thn (fun F w => ∃ g, Ag M F F0 ∧ Hds F (S g) ∧ H g w) Q)) (thn (fun F w => ∃ g, Ag M F F0 ∧ Hds F (S g) ∧ H g w) Q))) (thn (WP P n d (thn (fun F w => ∃ g, Ag M F F0 ∧ Hds F (S g) ∧ H g w) Q)) (thn (fun F w => ∃ g, Ag M F F0 ∧ Hds F (S g) ∧ H g w) Q)))) (thn (WP P n c (thn (WP P n d (thn (fun F w => ∃ g, Ag M F F0 ∧ Hds F (S g) ∧ H g w) Q)) (thn (fun F w => ∃ g, Ag M F F0 ∧ Hds F (S g) ∧ H g w) Q))) (thn (WP P n d (thn (fun F w => ∃ g, Ag M F F0 ∧ Hds F (S g) ∧ H g w) Q)) (thn (fun F w => ∃ g, Ag M F F0 ∧ Hds F (S g) ∧ H g w) Q)))) F0 w) (k : ∀ g J w', H g w' → WP P n x Q (updL (S g) (mix M J F0)) w') : WP P n (.seq a (.seq b (.seq c (.seq d x)))) Q F0 w :=
  WP.c4 _ h (ofG k)
theorem WP.g5 {G : Type} (M : List Nat) (S : G → List (Nat × Value)) (H : G → World → Prop) (h : WP P n a (thn (WP P n b (thn (WP P n c (thn (WP P n d (thn (WP P n e (thn (fun F w => ∃ g, Ag M F F0 ∧ Hds F (S g) ∧ H g w) Q)) (thn (fun F w => ∃ g, Ag M F F0 ∧ Hds F (S g) ∧ H g w) Q))) (thn (WP P n e (thn (fun F w => ∃ g, Ag M F F0 ∧ Hds F (S g) ∧ H g w) Q)) (thn (fun F w => ∃ g, Ag M F F0 ∧ Hds F (S g) ∧ H g w) Q)))) (thn (WP P n d (thn (WP P n e (thn (fun F w => ∃ g, Ag M F F0 ∧ Hds F (S g) ∧ H g w) Q)) (thn (fun F w => ∃ g, Ag M F F0 ∧ Hds F (S g) ∧ H g w) Q))) (thn (WP P n e (thn (fun F w => ∃ g, Ag M F F0 ∧ Hds F (S g) ∧ H g w) Q)) (thn (fun F w => ∃ g, Ag M F F0 ∧ Hds F (S g) ∧ H g w) Q))))) (thn (WP P n c (thn (WP P n d (thn (WP P n e (thn (fun F w => ∃ g, Ag M F F0 ∧ Hds F (S g) ∧ H g w) Q)) (thn (fun F w => ∃ g, Ag M F F0 ∧ Hds F (S g) ∧ H g w) Q))) (thn (WP P n e (thn (fun F w => ∃ g, Ag M F F0 ∧ Hds F (S g) ∧ H g w) Q)) (thn (fun F w => ∃ g, Ag M F F0 ∧ Hds F (S g) ∧ H g w) Q)))) (thn (WP P n d (thn (WP P n e (thn (fun F w => ∃ g, Ag M F F0 ∧ Hds F (S g) ∧ H g w) Q)) (thn (fun F w => ∃ g, Ag M F F0 ∧ Hds F (S g) ∧ H g w) Q))) (thn (WP P n e (thn (fun F w => ∃ g, Ag M F F0 ∧ Hds F (S g) ∧ H g w) Q)) (thn (fun F w => ∃ g, Ag M F F0 ∧ Hds F (S g) ∧ H g w) Q))))) F0 w) (k : ∀ g J w', H g w' → WP P n x Q (updL (S g) (mix M J F0)) w') : WP P n (.seq a (.seq b (.seq c (.seq d (.seq e x))))) Q F0 w :=
  WP.c5 _ h (ofG k)
theorem WP.g6 {G : Type} (M : List Nat) (S : G → List (Nat × Value)) (H : G → World → Prop) (h : WP P n a (thn (WP P n b (thn (WP P n c (thn (WP P n d (thn (WP P n e (thn (WP P n f (thn (fun F w => ∃ g, Ag M F F0 ∧ Hds F (S g) ∧ H g w) Q)) (thn (fun F w => ∃ g, Ag M F F0 ∧ Hds F (S g) ∧ H g w) Q))) (thn (WP P n f (thn (fun F w => ∃ g, Ag M F F0 ∧ Hds F (S g) ∧ H g w) Q)) (thn (fun F w => ∃ g, Ag M F F0 ∧ Hds F (S g) ∧ H g w) Q)))) (thn (WP P n e (thn (WP P n f (thn (fun F w => ∃ g, Ag M F F0 ∧ Hds F (S g) ∧ H g w) Q)) (thn (fun F w => ∃ g, Ag M F F0 ∧ Hds F (S g) ∧ H g w) Q))) (thn (WP P n f (thn (fun F w => ∃ g, Ag M F F0 ∧ Hds F (S g) ∧ H g w) Q)) (thn (fun F w => ∃ g, Ag M F F0 ∧ Hds F (S g) ∧ H g w) Q))))) (thn (WP P n d (thn (WP P n e (thn (WP P n f (thn (fun F w => ∃ g, Ag M F F0 ∧ Hds F (S g) ∧ H g w) Q)) (thn (fun F w => ∃ g, Ag M F F0 ∧ Hds F (S g) ∧ H g w) Q))) (thn (WP P n f (thn (fun F w => ∃ g, Ag M F F0 ∧ Hds F (S g) ∧ H g w) Q)) (thn (fun F w => ∃ g, Ag M F F0 ∧ Hds F (S g) ∧ H g w) Q)))) (thn (WP P n e (thn (WP P n f (thn (fun F w => ∃ g, Ag M F F0 ∧ Hds F (S g) ∧ H g w) Q)) (thn (fun F w => ∃ g, Ag M F F0 ∧ Hds F (S g) ∧ H g w) Q))) (thn (WP P n f (thn (fun F w => ∃ g, Ag M F F0 ∧ Hds F (S g) ∧ H g w) Q)) (thn (fun F w => ∃ g, Ag M F F0 ∧ Hds F (S g) ∧ H g w) Q)))))) (thn (WP P n c (thn (WP P n d (thn (WP P n e (thn (WP P n f (thn (fun F w => ∃ g, Ag M F F0 ∧ Hds F (S g) ∧ H g w) Q)) (thn (fun F w => ∃ g, Ag M F F0 ∧ Hds F (S g) ∧ H g w) Q))) (thn (WP P n f (thn (fun F w => ∃ g, Ag M F F0 ∧ Hds F (S g) ∧ H g w) Q)) (thn (fun F w => ∃ g, Ag M F F0 ∧ Hds F (S g) ∧ H g w) Q)))) (thn (WP P n e (thn (WP P n f (thn (fun F w => ∃ g, Ag M F F0 ∧ Hds F (S g) ∧ H g w) Q)) (thn (fun F w => ∃ g, Ag M F F0 ∧ Hds F (S g) ∧ H g w) Q))) (thn (WP P n f (thn (fun F w => ∃ g, Ag M F F0 ∧ Hds F (S g) ∧ H g w) Q)) (thn (fun F w => ∃ g, Ag M F F0 ∧ Hds F (S g) ∧ H g w) Q))))) (thn (WP P n d (thn (WP P n e (thn (WP P n f (thn (fun F w => ∃ g, Ag M F F0 ∧ Hds F (S g) ∧ H g w) Q)) (thn (fun F w => ∃ g, Ag M F F0 ∧ Hds F (S g) ∧ H g w) Q))) (thn (WP P n f (thn (fun F w => ∃ g, Ag M F F0 ∧ Hds F (S g) ∧ H g w) Q)) (thn (fun F w => ∃ g, Ag M F F0 ∧ Hds F (S g) ∧ H g w) Q)))) (thn (WP P n e (thn (WP P n f (thn (fun F w => ∃ g, Ag M F F0 ∧ Hds F (S g) ∧ H g w) Q)) (thn (fun F w => ∃ g, Ag M F F0 ∧ Hds F (S g) ∧ H g w) Q))) (thn (WP P n f (thn (fun F w => ∃ g, Ag M F F0 ∧ Hds F (S g) ∧ H g w) Q)) (thn (fun F w => ∃ g, Ag M F F0 ∧ Hds F (S g) ∧ H g w) Q)))))) F0 w) (k : ∀ g J w', H g w' → WP P n x Q (updL (S g) (mix M J F0)) w') : WP P n (.seq a (.seq b (.seq c (.seq d (.seq e (.seq f x)))))) Q F0 w :=
  WP.c6 _ h (ofG k)
theorem WP.g7 {G : Type} (M : List Nat) (S : G → List (Nat × Value)) (H : G → World → Prop) (h : WP P n a (thn (WP P n b (thn (WP P n c (thn (WP P n d (thn (WP P n e (thn (WP P n f (thn (WP P n g (thn (fun F w => ∃ g, Ag M F F0 ∧ Hds F (S g) ∧ H g w) Q)) (thn (fun F w => ∃ g, Ag M F F0 ∧ Hds F (S g) ∧ H g w) Q))) (thn (WP P n g (thn (fun F w => ∃ g, Ag M F F0 ∧ Hds F (S g) ∧ H g w) Q)) (thn (fun F w => ∃ g, Ag M F F0 ∧ Hds F (S g) ∧ H g w) Q)))) (thn (WP P n f (thn (WP P n g (thn (fun F w => ∃ g, Ag M F F0 ∧ Hds F (S g) ∧ H g w) Q)) (thn (fun F w => ∃ g, Ag M F F0 ∧ Hds F (S g) ∧ H g w) Q))) (thn (WP P n g (thn (fun F w => ∃ g, Ag M F F0 ∧ Hds F (S g) ∧ H g w) Q)) (thn (fun F w => ∃ g, Ag M F F0 ∧ Hds F (S g) ∧ H g w) Q))))) (thn (WP P n e (thn (WP P n f (thn (WP P n g (thn (fun F w => ∃ g, Ag M F F0 ∧ Hds F (S g) ∧ H g w) Q)) (thn (fun F w => ∃ g, Ag M F F0 ∧ Hds F (S g) ∧ H g w) Q))) (thn (WP P n g (thn (fun F w => ∃ g, Ag M F F0 ∧ Hds F (S g) ∧ H g w) Q)) (thn (fun F w => ∃ g, Ag M F F0 ∧ Hds F (S g) ∧ H g w) Q)))) (thn (WP P n f (thn (WP P n g (thn (fun F w => ∃ g, Ag M F F0 ∧ Hds F (S g) ∧ H g w) Q)) (thn (fun F w => ∃ g, Ag M F F0 ∧ Hds F (S g) ∧ H g w) Q))) (thn (WP P n g (thn (fun F w => ∃ g, Ag M F F0 ∧ Hds F (S g) ∧ H g w) Q)) (thn (fun F w => ∃ g, Ag M F F0 ∧ Hds F (S g) ∧ H g w) Q)))))) (thn (WP P n d (thn (WP P n e (thn (WP P n f (thn (WP P n g (thn (fun F w => ∃ g, Ag M F F0 ∧ Hds F (S g) ∧ H g w) Q)) (thn (fun F w => ∃ g, Ag M F F0 ∧ Hds F (S g) ∧ H g w) Q))) (thn (WP P n g (thn (fun F w => ∃ g, Ag M F F0 ∧ Hds F (S g) ∧ H g w) Q)) (thn (fun F w => ∃ g, Ag M F F0 ∧ Hds F (S g) ∧ H g w) Q)))) (thn (WP P n f (thn (WP P n g (thn (fun F w => ∃ g, Ag M F F0 ∧ Hds F (S g) ∧ H g w) Q)) (thn (fun F w => ∃ g, Ag M F F0 ∧ Hds F (S g) ∧ H g w) Q))) (thn (WP P n g (thn (fun F w => ∃ g, Ag M F F0 ∧ Hds F (S g) ∧ H g w) Q)) (thn (fun F w => ∃ g, Ag M F F0 ∧ Hds F (S g) ∧ H g w) Q))))) (thn (WP P n e (thn (WP P n f (thn (WP P n g (thn (fun F w => ∃ g, Ag M F F0 ∧ Hds F (S g) ∧ H g w) Q)) (thn (fun F w => ∃ g, Ag M F F0 ∧ Hds F (S g) ∧ H g w) Q))) (thn (WP P n g (thn (fun F w => ∃ g, Ag M F F0 ∧ Hds F (S g) ∧ H g w) Q)) (thn (fun F w => ∃ g, Ag M F F0 ∧ Hds F (S g) ∧ H g w) Q)))) (thn (WP P n f (thn (WP P n g (thn (fun F w => ∃ g, Ag M F F0 ∧ Hds F (S g) ∧ H g w) Q)) (thn (fun F w => ∃ g, Ag M F F0 ∧ Hds F (S g) ∧ H g w) Q))) (thn (WP P n g (thn (fun F w => ∃ g, Ag M F F0 ∧ Hds F (S g) ∧ H g w) Q)) (thn (fun F w => ∃ g, Ag M F F0 ∧ Hds F (S g) ∧ H g w) Q))))))) (thn (WP P n c (thn (WP P n d (thn (WP P n e (thn (WP P n f (thn (WP P n g (thn (fun F w => ∃ g, Ag M F F0 ∧ Hds F (S g) ∧ H g w) Q)) (thn (fun F w => ∃ g, Ag M F F0 ∧ Hds F (S g) ∧ H g w) Q))) (thn (WP P n g (thn (fun F w => ∃ g, Ag M F F0 ∧ Hds F (S g) ∧ H g w) Q)) (thn (fun F w => ∃ g, Ag M F F0 ∧ Hds F (S g) ∧ H g w) Q)))) (thn (WP P n f (thn (WP P n g (thn (fun F w => ∃ g, Ag M F F0 ∧ Hds F (S g) ∧ H g w) Q)) (thn (fun F w => ∃ g, Ag M F F0 ∧ Hds F (S g) ∧ H g w) Q))) (thn (WP P n g (thn (fun F w => ∃ g, Ag M F F0 ∧ Hds F (S g) ∧ H g w) Q)) (thn (fun F w => ∃ g, Ag M F F0 ∧ Hds F (S g) ∧ H g w) Q))))) (thn (WP P n e (thn (WP P n f (thn (WP P n g (thn (fun F w => ∃ g, Ag M F F0 ∧ Hds F (S g) ∧ H g w) Q)) (thn (fun F w => ∃ g, Ag M F F0 ∧ Hds F (S g) ∧ H g w) Q))) (thn (WP P n g (thn (fun F w => ∃ g, Ag M F F0 ∧ Hds F (S g) ∧ H g w) Q)) (thn (fun F w => ∃ g, Ag M F F0 ∧ Hds F (S g) ∧ H g w) Q)))) (thn (WP P n f (thn (WP P n g (thn (fun F w => ∃ g, Ag M F F0 ∧ Hds F (S g) ∧ H g w) Q)) (thn (fun F w => ∃ g, Ag M F F0 ∧ Hds F (S g) ∧ H g w) Q))) (thn (WP P n g (thn (fun F w => ∃ g, Ag M F F0 ∧ Hds F (S g) ∧ H g w) Q)) (thn (fun F w => ∃ g, Ag M F F0 ∧ Hds F (S g) ∧ H g w) Q)))))) (thn (WP P n d (thn (WP P n e (thn (WP P n f (thn (WP P n g (thn (fun F w => ∃ g, Ag M F F0 ∧ Hds F (S g) ∧ H g w) Q)) (thn (fun F w => ∃ g, Ag M F F0 ∧ Hds F (S g) ∧ H g w) Q))) (thn (WP P n g (thn (fun F w => ∃ g, Ag M F F0 ∧ Hds F (S g) ∧ H g w) Q)) (thn (fun F w => ∃ g, Ag M F F0 ∧ Hds F (S g) ∧ H g w) Q)))) (thn (WP P n f (thn (WP P n g (thn (fun F w => ∃ g, Ag M F F0 ∧ Hds F (S g) ∧ H g w) Q)) (thn (fun F w => ∃ g, Ag M F F0 ∧ Hds F (S g) ∧ H g w) Q))) (thn (WP P n g (thn (fun F w => ∃ g, Ag M F F0 ∧ Hds F (S g) ∧ H g w) Q)) (thn (fun F w => ∃ g, Ag M F F0 ∧ Hds F (S g) ∧ H g w) Q))))) (thn (WP P n e (thn (WP P n f (thn (WP P n g (thn (fun F w => ∃ g, Ag M F F0 ∧ Hds F (S g) ∧ H g w) Q)) (thn (fun F w => ∃ g, Ag M F F0 ∧ Hds F (S g) ∧ H g w) Q))) (thn (WP P n g (thn (fun F w => ∃ g, Ag M F F0 ∧ Hds F (S g) ∧ H g w) Q)) (thn (fun F w => ∃ g, Ag M F F0 ∧ Hds F (S g) ∧ H g w) Q)))) (thn (WP P n f (thn (WP P n g (thn (fun F w => ∃ g, Ag M F F0 ∧ Hds F (S g) ∧ H g w) Q)) (thn (fun F w => ∃ g, Ag M F F0 ∧ Hds F (S g) ∧ H g w) Q))) (thn (WP P n g (thn (fun F w => ∃ g, Ag M F F0 ∧ Hds F (S g) ∧ H g w) Q)) (thn (fun F w => ∃ g, Ag M F F0 ∧ Hds F (S g) ∧ H g w) Q))))))) F0 w) (k : ∀ g J w', H g w' → WP P n x Q (updL (S g) (mix M J F0)) w') : WP P n (.seq a (.seq b (.seq c (.seq d (.seq e (.seq f (.seq g x))))))) Q F0 w :=
  WP.c7 _ h (ofG k)
end
end Go.Vc
