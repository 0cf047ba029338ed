/- Regions that draw their order: rules for walks, proved here for every program of the model. Conditions: none beyond what each theorem states. -/
import Derived.Test.YtbldmljbfokobaaVcG
import Derived.OrdersHeld
set_option linter.unusedVariables false
set_option linter.unusedSimpArgs false
namespace Go.Vc
open Go.RowKit

/-! ## a region that draws its order
A plan: the operations in one order that the edges allow; 'true': the operation is quiet (it yields one value in every world that meets S), so it may be taken first; 'false': it alone may come up. -/
def planOk (ops : Array Oper) : List (Nat × Bool) → Array Bool → Bool
  | [], listed => (Region.ready .any ops listed).isEmpty
  | (i, q) :: r, listed =>
    (if q then (Region.ready .any ops listed).contains i && Region.free .any ops listed i else decide (Region.ready .any ops listed = [i])) && planOk ops r (listed.setIfInBounds i true)

section
variable {P : Program} {n : Nat} {ops : Array Oper} {Q : Exit → Fr → World → Prop} {S : World → Prop} {K : Fr → World → Prop} {F : Fr} {w w' : World} {r : List (Nat × Bool)} {i : Nat}

def onlyN (K : Fr → World → Prop) : Exit → Fr → World → Prop
  | .normal, F, w => K F w
  | _, _, _ => False

def WD (P : Program) (n : Nat) (ops : Array Oper) (S : World → Prop) (K : Fr → World → Prop) (r : List (Nat × Bool)) (F : Fr) (w : World) : Prop :=
  ∀ listed a, Region.noSelect ops = true → planOk ops r listed = true → Rel n a F → S w → wpAnyH P .any ops (lift n (onlyN K)) S r.length listed a w

theorem WP.draw {id : Nat} {l : List Oper} (S : World → Prop) (plan : List (Nat × Bool)) (hm : P.follows .mixedOrders = true) (hns : Region.noSelect l.toArray = true) (hlen : plan.length = l.length)
    (hp : planOk l.toArray plan (Array.replicate l.length false) = true) (hS : ∀ w1, Chg w w1 [] → S w1) (h : ∀ w1, Chg w w1 [] → WD P n l.toArray S (Q .normal) plan F w1) : WP P n (.region id l.toArray true) Q F w := by
  intro a ha
  have hc : Chg w { w with drawn := w.drawn + 1 } [] := ⟨rfl, rfl, rfl, Nat.le_refl _, fun _ _ _ => rfl⟩
  have h1 := h _ hc (Array.replicate l.length false) a hns hp ha (hS _ hc)
  have h2 : (Code.region id l.toArray true).wp P (lift n (onlyN (Q .normal))) a w := wp_region_held hm (by simpa [hlen] using h1)
  refine Code.wp_mono ?_ h2
  rintro e a w ⟨F, r, q⟩
  cases e <;> first | exact ⟨F, r, q⟩ | exact q.elim

theorem WD.nil (h : K F w) : WD P n ops S K [] F w := by
  intro listed a hns hp ha _
  exact ⟨by simpa [planOk] using hp, F, ha, h⟩

theorem noPan {d : Option Tmp} {v : Value} : ∀ c a w, lift n (onlyN K) (.panic c) (a.put d v) w → lift n (onlyN K) (.panic c) a w := by
  rintro c a w ⟨F, _, q⟩; exact q.elim

theorem WD.q {o : Oper} {d : Nat} {v : Value} (hi0 : ops.toList[i]? = some o) (hg : Wn ops F o) (hdst : o.dst = some d) (hd : Nat.blt d n = true)
    (hrun : ∀ w, S w → (execOp (evO F) o).run P w = .ok (.value v) w) (k : WD P n ops S K r (upd F d v) w) : WD P n ops S K ((i, true) :: r) F w := by
  have hi : ops[i]? = some o := by rw [← hi0]; simp
  intro listed a hns hp ha hS
  simp only [planOk, if_true, Bool.and_eq_true] at hp
  refine wpAnyH_take (v := v) hi hns hp.1.2 hp.1.1 noPan (.inl ⟨hg.wanted ha, fun w hw => ?_⟩) hS ?_
  · rw [ha.eval]; exact hrun w hw
  · rw [hdst]; exact k _ _ hns hp.2 (ha.put hd) hS

theorem WD.skipQ {o : Oper} {d j t : Nat} {want : Bool} (hi0 : ops.toList[i]? = some o) (hgd : o.guard = some (j, want)) (hj : (ops[j]?).bind (·.dst) = some t) (hy : boolOf (F t) ≠ some want) (hdst : o.dst = some d) (hd : Nat.blt d n = true)
    (k : WD P n ops S K r (upd F d undef) w) : WD P n ops S K ((i, true) :: r) F w := by
  have hi : ops[i]? = some o := by rw [← hi0]; simp
  intro listed a hns hp ha hS
  simp only [planOk, if_true, Bool.and_eq_true] at hp
  have hu : Region.wanted o (yielded ops a.tmps) = false := by
    simp only [Region.wanted, hgd, yld ha hj]; exact beq_eq_false_iff_ne.2 hy
  refine wpAnyH_take hi hns hp.1.2 hp.1.1 noPan (.inr ⟨hu, rfl⟩) hS ?_
  rw [hdst]; exact k _ _ hns hp.2 (ha.put hd) hS

theorem Oper.upon_mono' {o : Oper} {a : Act} {K K' : Act → World → Prop} {Q Q' : Exit → Act → World → Prop} {x : Result Next} (hK : ∀ a w, K a w → K' a w) (hQ : ∀ c a w, Q (.panic c) a w → Q' (.panic c) a w) (hO : ∀ a w, Q .outgrown a w → Q' .outgrown a w) (h : o.upon P a K Q x) : o.upon P a K' Q' x := by
  cases x with
  | ok n w' =>
    cases n <;> simp only [Oper.upon] at h ⊢ <;>
      first
        | exact hK _ _ h
        | exact Calls.mono h (fun e w'' he => by
            cases e with
            | returned v => exact hK _ _ he
            | panicked c => exact hQ _ _ _ he
            | outgrown => obtain ⟨a, w, q⟩ := he; exact ⟨a, w, hO _ _ q⟩)
        | exact Rows.mono h (fun _ _ he => hK _ _ he)
  | halt y w' => cases y <;> simp only [Oper.upon] at h ⊢ <;> exact hQ _ _ _ h

/-- an operation that alone may come up: by the rules of the plain walk -/
theorem WD.one {o : Oper} (hi0 : ops.toList[i]? = some o) (hg : Wn ops F o)
    (h : WL P n ops (onlyN fun F' w' => S w' ∧ WD P n ops S K r F' w') [⟨o.dst, o.op, o.type, o.pos, o.after, none⟩] F w) : WD P n ops S K ((i, false) :: r) F w := by
  have hi : ops[i]? = some o := by rw [← hi0]; simp
  intro listed a hns hp ha hS
  simp only [planOk, Bool.false_eq_true, if_false, Bool.and_eq_true, decide_eq_true_eq] at hp
  refine wpAnyH_all hp.1 (by simp) fun j hj => ?_
  simp only [List.mem_singleton] at hj
  subst hj
  unfold wpOp
  simp only [hi, hg.wanted ha, if_true]
  have h1 := h a ha
  simp only [wpList, Region.wanted, if_true] at h1
  rcases h1 with h1 | ⟨_, a0, w0, F0, _, q⟩
  · refine .inl ?_
    unfold Oper.wp at h1 ⊢
    have e : execOp a.eval ⟨o.dst, o.op, o.type, o.pos, o.after, none⟩ = execOp a.eval o := rfl
    rw [e] at h1
    have h2 : o.upon P a (fun a' w' => lift n (onlyN fun F' w' => S w' ∧ WD P n ops S K r F' w') .normal a' w') (lift n (onlyN fun F' w' => S w' ∧ WD P n ops S K r F' w')) ((execOp a.eval o).run P w) := h1
    refine Oper.upon_mono' ?_ ?_ ?_ h2
    · rintro a' w' ⟨F', r', hS', hk⟩
      exact ⟨hS', hk _ _ hns hp.2 r' hS'⟩
    · rintro c a' w' ⟨F', r', q⟩; exact q.elim
    · rintro a' w' ⟨F', r', q⟩; exact q.elim
  · exact q.elim

theorem WD.skip1 {o : Oper} {d j t : Nat} {want : Bool} (hi0 : ops.toList[i]? = some o) (hgd : o.guard = some (j, want)) (hj : (ops[j]?).bind (·.dst) = some t) (hy : boolOf (F t) ≠ some want) (hdst : o.dst = some d) (hd : Nat.blt d n = true)
    (k : WD P n ops S K r (upd F d undef) w) : WD P n ops S K ((i, false) :: r) F w := by
  have hi : ops[i]? = some o := by rw [← hi0]; simp
  intro listed a hns hp ha hS
  simp only [planOk, Bool.false_eq_true, if_false, Bool.and_eq_true, decide_eq_true_eq] at hp
  have hu : Region.wanted o (yielded ops a.tmps) = false := by
    simp only [Region.wanted, hgd, yld ha hj]; exact beq_eq_false_iff_ne.2 hy
  refine wpAnyH_all hp.1 (by simp) fun j hj => ?_
  simp only [List.mem_singleton] at hj
  subst hj
  unfold wpOp
  simp only [hi, hu, Bool.false_eq_true, if_false]
  refine ⟨hS, ?_⟩
  rw [hdst]; exact k _ _ hns hp.2 (ha.put hd) hS
end

/-! the condition S: some entries stand -/
def SL (B : Nat) (l : List Ent) : World → Prop := fun w => ∀ e ∈ l, e.ok B w
theorem boolNe {F : Fr} {t : Nat} {v : Value} {b : Bool} (h : F t = v) (hv : boolOf v ≠ some b) : boolOf (F t) ≠ some b := by rw [h]; exact hv
theorem SL.nil (B : Nat) (w : World) : SL B [] w := fun _ h => by cases h
theorem SL.cons {B : Nat} {w : World} {e : Ent} {l : List Ent} (h : e.ok B w) (hl : SL B l w) : SL B (e :: l) w := fun f hf => by
  rcases List.mem_cons.1 hf with rfl | hf
  · exact h
  · exact hl f hf
end Go.Vc
