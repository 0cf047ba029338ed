/- What is compared with nil: rules for walks, proved here for every program of the model. Conditions: none beyond what each theorem states. -/
import Derived.Test.YtbldmljbfokobaaVcK
set_option linter.unusedVariables false
set_option linter.unusedSimpArgs false
namespace Go.Vc
open Go.RowKit
set_option linter.unusedSectionVars false
section
variable {P : Program} {n : Nat} {ops : Array Oper} {Q : Exit → Fr → World → Prop} {rest : List Oper} {F : Fr} {w w' w0 : World} {L L' : List Ent}
variable {ty : TypeId} {pos : String} {after : Array Edge} {dst : Option Tmp} {g : Option (Nat × Bool)}
/-! what is compared with nil -/
theorem R.eqOf {T T' : TypeId} {x y : Operand} {u v : Value} {r : Bool} (hx : evO F x = u) (hy : evO F y = v) (hg : (eqGuard .eql T x y u v).run P w = .ok () w) (h : ∀ d, (Op.equalIn (d + 1) T u v).run P w = .ok r w) (hb : (binOp .eql T u v) = (do pure (Value.bool (← Op.equal T u v)) : Sem Value)) :
    (execOp (evO F) ⟨dst, .binOp .eql T x y T', ty, pos, after, g⟩).run P w = .ok (.value (.bool r)) w := by
  have h2 : (binOp .eql T u v).run P w = .ok (.bool r) w := by
    rw [hb, Sem.run_bind, show (Op.equal T u v).run P w = .ok r w from h 9999]; rfl
  simp only [execOp, hx, hy, Sem.run_bind, hg, h2, Result.andThen_ok, Sem.run_pure]
theorem R.neOf {T T' : TypeId} {x y : Operand} {u v : Value} {r : Bool} (hx : evO F x = u) (hy : evO F y = v) (hg : (eqGuard .neq T x y u v).run P w = .ok () w) (h : ∀ d, (Op.equalIn (d + 1) T u v).run P w = .ok r w) (hb : (binOp .neq T u v) = (do pure (Value.bool (!(← Op.equal T u v))) : Sem Value)) :
    (execOp (evO F) ⟨dst, .binOp .neq T x y T', ty, pos, after, g⟩).run P w = .ok (.value (.bool (!r))) w := by
  have h2 : (binOp .neq T u v).run P w = .ok (.bool (!r)) w := by
    rw [hb, Sem.run_bind, show (Op.equal T u v).run P w = .ok r w from h 9999]; rfl
  simp only [execOp, hx, hy, Sem.run_bind, hg, h2, Result.andThen_ok, Sem.run_pure]
theorem eq_nilS {T E : TypeId} {a : Option Addr} {m c : Nat} (hT : P.underlying T = some (.slice E)) (d : Nat) : (Op.equalIn (d + 1) T (.slice a m c) (.slice none 0 0)).run P w = .ok a.isNone w := by
  unfold Op.equalIn
  rw [Sem.run_bind, run_underlying hT]
  cases a <;> rfl
theorem R.eqNilS {T T' E : TypeId} {x y : Operand} {a : Option Addr} {m c : Nat} (hx : evO F x = .slice a m c) (hy : evO F y = .slice none 0 0) (hT : P.underlying T = some (.slice E)) :
    (execOp (evO F) ⟨dst, .binOp .eql T x y T', ty, pos, after, g⟩).run P w = .ok (.value (.bool a.isNone)) w := R.eqOf hx hy rfl (eq_nilS hT) rfl
theorem R.neNilS {T T' E : TypeId} {x y : Operand} {a : Option Addr} {m c : Nat} (hx : evO F x = .slice a m c) (hy : evO F y = .slice none 0 0) (hT : P.underlying T = some (.slice E)) :
    (execOp (evO F) ⟨dst, .binOp .neq T x y T', ty, pos, after, g⟩).run P w = .ok (.value (.bool (!a.isNone))) w := R.neOf hx hy rfl (eq_nilS hT) rfl
theorem eq_nilP {T E : TypeId} {a : Option Addr} (hT : P.underlying T = some (.pointer E)) (d : Nat) : (Op.equalIn (d + 1) T (.pointer a) (.pointer none)).run P w = .ok a.isNone w := by
  unfold Op.equalIn
  rw [Sem.run_bind, run_underlying hT]
  cases a <;> rfl
theorem R.eqNilP {T T' E : TypeId} {x y : Operand} {a : Option Addr} (hx : evO F x = .pointer a) (hy : evO F y = .pointer none) (hT : P.underlying T = some (.pointer E)) :
    (execOp (evO F) ⟨dst, .binOp .eql T x y T', ty, pos, after, g⟩).run P w = .ok (.value (.bool a.isNone)) w := R.eqOf hx hy rfl (eq_nilP hT) rfl
theorem R.neNilP {T T' E : TypeId} {x y : Operand} {a : Option Addr} (hx : evO F x = .pointer a) (hy : evO F y = .pointer none) (hT : P.underlying T = some (.pointer E)) :
    (execOp (evO F) ⟨dst, .binOp .neq T x y T', ty, pos, after, g⟩).run P w = .ok (.value (.bool (!a.isNone))) w := R.neOf hx hy rfl (eq_nilP hT) rfl
theorem eq_sameP {T E : TypeId} {a : Addr} {z : Nat} (hT : P.underlying T = some (.pointer E)) (hz : ∀ w, (sizeOf E).run P w = .ok z w) (hz0 : Nat.blt 0 z = true) (d : Nat) : (Op.equalIn (d + 1) T (.pointer (some a)) (.pointer (some a))).run P w = .ok true w := by
  have h0 : z ≠ 0 := by rintro rfl; cases hz0
  unfold Op.equalIn
  rw [Sem.run_bind, run_underlying hT]
  simp [Result.andThen_ok, hz, h0, sameAddr]
theorem R.neP {T T' E : TypeId} {x y : Operand} {a : Addr} {z : Nat} (hx : evO F x = .pointer (some a)) (hy : evO F y = .pointer (some a)) (hT : P.underlying T = some (.pointer E)) (hz : ∀ w, (sizeOf E).run P w = .ok z w) (hz0 : Nat.blt 0 z = true) :
    (execOp (evO F) ⟨dst, .binOp .neq T x y T', ty, pos, after, g⟩).run P w = .ok (.value (.bool (!true))) w := R.neOf hx hy rfl (eq_sameP hT hz hz0) rfl
theorem Typ.u8ss {t e e8 : TypeId} {n s : Nat} {bs : List UInt8} (hu : P.underlying t = some (.array n e)) (hc : P.cellsOf t = n * s) (hue : P.underlying e = some (.array s e8)) (hce : P.cellsOf e = s) (he : P.underlying e8 = some (.int .u8)) (hce8 : P.cellsOf e8 = 1) (hl : bs.length = n * s) : Typ P 3 t (bs.map vu8) := by
  refine Typ.arr (s := s) hu hc hce (by simpa using hl) fun i hi => ?_
  rw [← List.map_drop, ← List.map_take]
  refine Typ.u8s hue hce he hce8 ?_
  have h1 : (i + 1) * s ≤ n * s := Nat.mul_le_mul_right s (by omega)
  rw [Nat.add_mul, Nat.one_mul] at h1
  rw [List.length_take, List.length_drop, hl]
  omega
end
end Go.Vc
