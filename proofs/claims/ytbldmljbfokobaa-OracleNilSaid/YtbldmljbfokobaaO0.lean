/- An oracle's log, in memory and plainly. Conditions: those that each theorem states. -/
import Derived.Test.YtbldmljbfokobaaVcR
import Derived.Test.YtbldmljbfokobaaW1
import Derived.DeepKeys3
set_option linter.unusedVariables false
set_option linter.unusedSimpArgs false
namespace Go.Vc
open Go.RowKit Go.WideShapes
section
variable {P : Program} {F : Fr} {w w' w0 : World} {L : List Ent}
variable {ty : TypeId} {pos : String} {after : Array Edge} {dst : Option Tmp} {g : Option (Nat × Bool)}
/-! maps of which the keys are structs -/
theorem agg_formed {t : TypeId} {cs : List Value} (hu : aggB P t = true) (hl : cs.length = P.cellsOf t) : (Value.agg ⟨cs⟩).formed P t = true := by
  unfold aggB at hu
  unfold Value.formed
  split at hu <;> simp_all
theorem Ck.agg {K : TypeId} {m h : Nat} {cs : List Value} (hk : P.keyTypeAt m K = true) (hm : Nat.ble m 10000 = true) (hu : aggB P K = true) (t : Typ P h K cs) : Ck P K (.agg ⟨cs⟩) := by
  intro b w
  have hm' := Nat.le_of_ble_eq_true hm
  have := run_checkKey_deep (P := P) b (10000 - m) m K hk w _ (.agg ⟨cs⟩) _ (agg_formed hu t.len) (t.lits h (Nat.le_refl _))
  rwa [show 10000 - m + m = 10000 by omega] at this
/-- the first entry of a key -/
def fdx {α : Type} [DecidableEq α] (q : α) : List (α × Value × Nat) → Nat → Option (Nat × Value)
  | [], _ => none
  | e :: r, i => if e.1 = q then some (i, e.2.1) else fdx q r (i + 1)
def ents {α : Type} (kf : α → List Value) (es : List (α × Value × Nat)) : List MapEntry := es.map fun e => { key := .agg ⟨kf e.1⟩, val := e.2.1, born := e.2.2 }
theorem run_asking {α : Type} [DecidableEq α] {kf : α → List Value} {K : TypeId} {m h : Nat} {q : α} (hk : P.keyTypeAt m K = true) (hm : Nat.ble m 10000 = true) (hu : aggB P K = true) (t : Typ P h K (kf q)) (w : World) :
    ∀ (es : List (α × Value × Nat)) (i : Nat), (∀ e ∈ es, Typ P h K (kf e.1) ∧ (kf e.1 = kf q → e.1 = q)) → (Instr.findAsking K (.agg ⟨kf q⟩) (ents kf es) i).run P w = .ok (fdx q es i) w
  | [], i, _ => by simp [ents, Instr.findAsking, fdx]
  | e :: es, i, hall => by
    obtain ⟨te, hinj⟩ := hall e (by simp)
    obtain ⟨r, hr, hiff⟩ := equal_of (w := w) hk (Nat.le_of_ble_eq_true hm) hu t te
    have hr' : (Op.equal K (.agg ⟨kf q⟩) (.agg ⟨kf e.1⟩)).run P w = .ok r w := hr
    by_cases he : e.1 = q
    · have : r = true := hiff.2 (by rw [he])
      subst this
      rw [he] at hr'
      simp [ents, Instr.findAsking, hr', he, fdx]
    · have : r = false := by
        cases r with
        | false => rfl
        | true => exact absurd (hinj (hiff.1 rfl).symm) he
      subst this
      have ih := run_asking hk hm hu t w es (i + 1) (fun y hy => hall y (by simp [hy]))
      simp only [ents] at ih
      simp only [ents, List.map_cons, Instr.findAsking, Sem.run_bind, hr', Result.andThen_ok, Bool.false_eq_true, if_false, ih, fdx, he]
theorem Fk.agg {α : Type} [DecidableEq α] {kf : α → List Value} {K : TypeId} {m h : Nat} {q : α} (hk : P.keyTypeAt m K = true) (hm : Nat.ble m 10000 = true) (hu : aggB P K = true) (t : Typ P h K (kf q)) {es : List (α × Value × Nat)}
    (hall : ∀ e ∈ es, Typ P h K (kf e.1) ∧ (kf e.1 = kf q → e.1 = q)) : Fk P K (.agg ⟨kf q⟩) (ents kf es) (fdx q es 0) := by
  intro w
  rw [run_findKey_eq w hu]
  exact run_asking hk hm hu t w es 0 hall
theorem eq_nilM {T K E : TypeId} {o : Option Nat} (hT : P.underlying T = some (.map K E)) (d : Nat) : (Op.equalIn (d + 1) T (.map o) (.map none)).run P w = .ok o.isNone w := by
  unfold Op.equalIn
  rw [Sem.run_bind, run_underlying hT]
  cases o <;> rfl
theorem R.eqNilM {T T' K E : TypeId} {x y : Operand} {o : Option Nat} (hx : evO F x = .map o) (hy : evO F y = .map none) (hT : P.underlying T = some (.map K E)) : (execOp (evO F) ⟨dst, .binOp .eql T x y T', ty, pos, after, g⟩).run P w = .ok (.value (.bool o.isNone)) w := R.eqOf hx hy rfl (eq_nilM hT) rfl
theorem R.neNilM {T T' K E : TypeId} {x y : Operand} {o : Option Nat} (hx : evO F x = .map o) (hy : evO F y = .map none) (hT : P.underlying T = some (.map K E)) : (execOp (evO F) ⟨dst, .binOp .neq T x y T', ty, pos, after, g⟩).run P w = .ok (.value (.bool (!o.isNone))) w := R.neOf hx hy rfl (eq_nilM hT) rfl
/-! a field of an element of a slice -/
theorem add_add (a : Addr) (i k : Nat) : (a.add i).add k = a.add (i + k) := by
  unfold Addr.add
  by_cases hi : i = 0
  · subst hi; simp
  · by_cases hk : k = 0
    · subst hk; simp [hi]
    · have : i + k ≠ 0 := by omega
      simp [hi, hk, this, Nat.add_assoc]
theorem gA_add (a : Option Addr) (i k : Nat) : (gA a i).add k = gA a (i + k) := add_add _ _ _
theorem R.fieldG {i off' f z : Nat} {S : TypeId} {x : Operand} {a : Option Addr} {fs : Array Field} {fd : Field} (hx : evO F x = .pointer (some (gA a i))) (hT : P.underlying S = some (.struct fs)) (hf : fs[f]? = some fd)
    (hz : ∀ w, (sizeOf fd.type).run P w = .ok z w) (hz0 : Nat.blt 0 z = true) (hoff : off' = i + fd.offset) : (execOp (evO F) ⟨dst, .fieldAddr S x f, ty, pos, after, g⟩).run P w = .ok (.value (.pointer (some (gA a off')))) w := by
  have hz1 : z ≠ 0 := by rintro rfl; cases hz0
  simp [execOp, hx, Instr.fieldAt, run_underlying hT, hf, Instr.sureAddr, fieldPlace, hz, hz1, gA_add, hoff]
end
end Go.Vc
