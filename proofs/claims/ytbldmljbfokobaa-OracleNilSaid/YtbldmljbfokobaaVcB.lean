/- Operations of a region: rules for walks, proved here for every program of the model. Conditions: none beyond what each theorem states. -/
import Derived.Test.YtbldmljbfokobaaVcA
set_option linter.unusedVariables false
set_option linter.unusedSimpArgs false
namespace Go.Vc
open Go.RowKit

section
variable {P : Program} {n : Nat} {ops : Array Oper} {Q : Exit → Fr → World → Prop} {rest : List Oper} {F : Fr} {w w' : World}
variable {ty : TypeId} {pos : String} {after : Array Edge} {dst : Option Tmp} {g : Option (Nat × Bool)}

theorem WL.nil (h : Q .normal F w) : WL P n ops Q [] F w := fun _ ha => wpList_nil ⟨F, ha, h⟩
theorem WL.nils {K : Fr → World → Prop} (h : K F w) : WL P n ops (thn K Q) [] F w := WL.nil h

/-- an operation is wanted: it has no guard, or its guard says yes -/
def Wn (ops : Array Oper) (F : Fr) (o : Oper) : Prop := o.guard = none ∨ ∃ j want t, o.guard = some (j, want) ∧ (ops[j]?).bind (·.dst) = some t ∧ F t = .bool want

theorem WL.val {o : Oper} {d : Nat} {v : Value} (hg : o.guard = none) (hdst : o.dst = some d) (hd : Nat.blt d n = true)
    (hrun : (execOp (evO F) o).run P w = .ok (.value v) w') (k : WL P n ops Q rest (upd F d v) w') : WL P n ops Q (o :: rest) F w := by
  intro a ha
  refine wpList_plain hg fun K hK => ?_
  unfold Oper.wp
  rw [ha.eval, hrun]
  rw [Oper.upon_value, hdst]
  exact hK _ _ (k _ (ha.put hd))

theorem WL.val0 {o : Oper} {v : Value} (hg : o.guard = none) (hdst : o.dst = none)
    (hrun : (execOp (evO F) o).run P w = .ok (.value v) w') (k : WL P n ops Q rest F w') : WL P n ops Q (o :: rest) F w := by
  intro a ha
  refine wpList_plain hg fun K hK => ?_
  unfold Oper.wp
  rw [ha.eval, hrun]
  rw [Oper.upon_value, hdst]
  exact hK _ _ (k _ ha)

theorem WL.unit {o : Oper} (hg : o.guard = none) (hdst : o.dst = none)
    (hrun : (execOp (evO F) o).run P w = .ok .skip w') (k : WL P n ops Q rest F w') : WL P n ops Q (o :: rest) F w := by
  intro a ha
  refine wpList_plain hg fun K hK => ?_
  unfold Oper.wp
  rw [ha.eval, hrun]
  rw [Oper.upon_skip, hdst]
  exact hK _ _ (k _ ha)

theorem WL.ent {o : Oper} {f : FuncId} {args : Array Value} {R : Value → World → Prop} (hg : o.guard = none)
    (hrun : (execOp (evO F) o).run P w = .ok (.enter f args) w') (hc : Cs P f args w' R)
    (k : ∀ v w'', R v w'' → ∀ a, Rel n a F → wpList P ops (lift n Q) rest (a.put o.dst v) w'') : WL P n ops Q (o :: rest) F w := by
  intro a ha
  refine wpList_plain hg fun K hK => ?_
  unfold Oper.wp
  rw [ha.eval, hrun]
  rw [Oper.upon_enter]
  refine Calls.mono hc ?_
  rintro e w'' ⟨v, rfl, r⟩
  exact hK _ _ (k v w'' r a ha)

/-! guards -/
def boolOf : Value → Option Bool | .bool b => some b | _ => none

theorem yld {a : Act} {j t : Nat} (ha : Rel n a F) (hj : (ops[j]?).bind (·.dst) = some t) : yielded ops a.tmps j = boolOf (F t) := by
  have h1 := ha.get t
  rw [Array.getD_eq_getD_getElem?] at h1
  unfold yielded
  simp only [hj]
  cases h2 : a.tmps[t]? with
  | none =>
    rw [h2] at h1
    simp only [Option.getD_none] at h1
    rw [← h1]
    simp [h2, undef, boolOf]
  | some x =>
    rw [h2] at h1
    simp only [Option.getD_some] at h1
    subst h1
    simp only [Option.bind_some, h2]
    generalize F t = x
    cases x <;> rfl

theorem WL.want {dst : Option Tmp} {op : Op} {j : Nat} {want : Bool} {t : Nat} (hj : (ops[j]?).bind (·.dst) = some t) (hy : F t = .bool want)
    (k : WL P n ops Q (⟨dst, op, ty, pos, after, none⟩ :: rest) F w) : WL P n ops Q (⟨dst, op, ty, pos, after, some (j, want)⟩ :: rest) F w := by
  intro a ha
  have hyl : yielded ops a.tmps j = some want := by rw [yld ha hj, hy]; rfl
  have := k a ha
  unfold wpList at this ⊢
  rw [if_pos (by simp [Region.wanted])] at this
  rw [if_pos (by simp [Region.wanted, hyl])]
  exact this

theorem unwanted {dst : Option Tmp} {op : Op} {j : Nat} {want : Bool} {t : Nat} {a : Act} (ha : Rel n a F) (hj : (ops[j]?).bind (·.dst) = some t) (hy : boolOf (F t) ≠ some want) :
    Region.wanted ⟨dst, op, ty, pos, after, some (j, want)⟩ (yielded ops a.tmps) = false := by
  simp only [Region.wanted, yld ha hj]
  exact beq_eq_false_iff_ne.2 hy

theorem WL.skip {d : Nat} {op : Op} {j : Nat} {want : Bool} {t : Nat} (hj : (ops[j]?).bind (·.dst) = some t) (hy : F t = .bool (!want)) (hd : Nat.blt d n = true)
    (k : WL P n ops Q rest (upd F d undef) w) : WL P n ops Q (⟨some d, op, ty, pos, after, some (j, want)⟩ :: rest) F w := by
  intro a ha
  refine wpList_skip (unwanted ha hj ?_) (k _ (ha.put hd))
  rw [hy]; cases want <;> simp [boolOf]

theorem WL.skipU {d : Nat} {op : Op} {j : Nat} {want : Bool} {t : Nat} (hj : (ops[j]?).bind (·.dst) = some t) (hy : F t = undef) (hd : Nat.blt d n = true)
    (k : WL P n ops Q rest (upd F d undef) w) : WL P n ops Q (⟨some d, op, ty, pos, after, some (j, want)⟩ :: rest) F w := by
  intro a ha
  refine wpList_skip (unwanted ha hj ?_) (k _ (ha.put hd))
  rw [hy]; simp [boolOf, undef]

theorem WL.skip0 {op : Op} {j : Nat} {want : Bool} {t : Nat} (hj : (ops[j]?).bind (·.dst) = some t) (hy : F t = .bool (!want))
    (k : WL P n ops Q rest F w) : WL P n ops Q (⟨none, op, ty, pos, after, some (j, want)⟩ :: rest) F w := by
  intro a ha
  refine wpList_skip (unwanted ha hj ?_) (k a ha)
  rw [hy]; cases want <;> simp [boolOf]

theorem Wn.no {o : Oper} (h : o.guard = none) : Wn ops F o := .inl h
theorem Wn.yes {o : Oper} {j : Nat} {want : Bool} {t : Nat} (h : o.guard = some (j, want)) (hj : (ops[j]?).bind (·.dst) = some t) (hy : F t = .bool want) : Wn ops F o := .inr ⟨j, want, t, h, hj, hy⟩

theorem Wn.wanted {o : Oper} {a : Act} (h : Wn ops F o) (ha : Rel n a F) : Region.wanted o (yielded ops a.tmps) = true := by
  rcases h with h | ⟨j, want, t, h, hj, hy⟩
  · simp [Region.wanted, h]
  · simp only [Region.wanted, h, yld ha hj, hy, boolOf]; simp

theorem WL.q {o : Oper} {d : Nat} {v : Value} (hg : Wn ops F o) (hdst : o.dst = some d) (hd : Nat.blt d n = true)
    (hrun : (execOp (evO F) o).run P w = .ok (.value v) w) (k : WL P n ops Q rest (upd F d v) w) : WL P n ops Q (o :: rest) F w := by
  intro a ha
  refine wpList_step fun K hK => ?_
  rw [if_pos (hg.wanted ha)]
  unfold Oper.wp
  rw [ha.eval, hrun]
  rw [Oper.upon_value, hdst]
  exact hK _ _ (k _ (ha.put hd))

theorem WL.q0 {o : Oper} {v : Value} (hg : Wn ops F o) (hdst : o.dst = none)
    (hrun : (execOp (evO F) o).run P w = .ok (.value v) w) (k : WL P n ops Q rest F w) : WL P n ops Q (o :: rest) F w := by
  intro a ha
  refine wpList_step fun K hK => ?_
  rw [if_pos (hg.wanted ha)]
  unfold Oper.wp
  rw [ha.eval, hrun]
  rw [Oper.upon_value, hdst]
  exact hK _ _ (k _ ha)

/-! ## pure operations -/
theorem R.move {x : Operand} {v : Value} (hx : evO F x = v) : (execOp (evO F) ⟨dst, .move x, ty, pos, after, g⟩).run P w = .ok (.value v) w := by subst hx; rfl

theorem R.assign {x : Operand} {v : Value} (hx : evO F x = v) : (execOp (evO F) ⟨dst, .assign x, ty, pos, after, g⟩).run P w = .ok (.value v) w := by subst hx; rfl

theorem R.pickT {c x y : Operand} {v : Value} (hc : evO F c = .bool true) (hx : evO F x = v) : (execOp (evO F) ⟨dst, .pick c x y, ty, pos, after, g⟩).run P w = .ok (.value v) w := by subst hx; simp [execOp, hc, asBool]

theorem R.pickF {c x y : Operand} {v : Value} (hc : evO F c = .bool false) (hx : evO F y = v) : (execOp (evO F) ⟨dst, .pick c x y, ty, pos, after, g⟩).run P w = .ok (.value v) w := by subst hx; simp [execOp, hc, asBool]

theorem R.extract {x : Operand} {i : Nat} {l : List Value} {v : Value} (hx : evO F x = .tuple l.toArray) (hv : l[i]? = some v) : (execOp (evO F) ⟨dst, .extract x i, ty, pos, after, g⟩).run P w = .ok (.value v) w := by simp [execOp, hx, Instr.extract, hv]

theorem R.nilCheck {x : Operand} {a : Addr} (hx : evO F x = .pointer (some a)) : (execOp (evO F) ⟨dst, .nilCheck x, ty, pos, after, g⟩).run P w = .ok (.value (.pointer (some a))) w := by simp [execOp, hx]

theorem R.nilCheckF {x : Operand} {f : FuncId} {l c : Array Value} (hx : evO F x = .func (.func f) l c) : (execOp (evO F) ⟨dst, .nilCheck x, ty, pos, after, g⟩).run P w = .ok (.value (.func (.func f) l c)) w := by simp [execOp, hx]

theorem R.not {x : Operand} {T : TypeId} {b : Bool} (hx : evO F x = .bool b) : (execOp (evO F) ⟨dst, .unOp .not T x, ty, pos, after, g⟩).run P w = .ok (.value (.bool (!b))) w := by simp [execOp, hx, Op.unary]

theorem R.makeFunc {fn : Fn} {xs ys : Array Operand} : (execOp (evO F) ⟨dst, .makeFunc fn xs ys, ty, pos, after, g⟩).run P w = .ok (.value (.func fn (xs.map (evO F)) (ys.map (evO F)))) w := by simp [execOp, Instr.makeFunc]

/-- binary operations on integers -/
def binI (op : BinOp) (k : IntKind) (a b : Int) : Option Value :=
  match op with
  | .add => some (.int k (k.wrap (a + b)))
  | .sub => some (.int k (k.wrap (a - b)))
  | .mul => some (.int k (k.wrap (a * b)))
  | .quo => if b = 0 then none else some (.int k (k.wrap (a.tdiv b)))
  | .rem => if b = 0 then none else some (.int k (a.tmod b))
  | .and => some (.int k (k.wrap (BitVec.ofInt k.bits a &&& BitVec.ofInt k.bits b).toNat))
  | .or => some (.int k (k.wrap (BitVec.ofInt k.bits a ||| BitVec.ofInt k.bits b).toNat))
  | .xor => some (.int k (k.wrap (BitVec.ofInt k.bits a ^^^ BitVec.ofInt k.bits b).toNat))
  | .andNot => some (.int k (k.wrap (BitVec.ofInt k.bits a &&& ~~~BitVec.ofInt k.bits b).toNat))
  | .eql => some (.bool (a == b))
  | .neq => some (.bool (a != b))
  | .lss => some (.bool (decide (a < b)))
  | .leq => some (.bool (decide (a ≤ b)))
  | .gtr => some (.bool (decide (a > b)))
  | .geq => some (.bool (decide (a ≥ b)))
  | .shl | .shr => none

theorem run_binI {op : BinOp} {k : IntKind} {a b : Int} {v : Value} (T : TypeId) (h : binI op k a b = some v) : (binOp op T (.int k a) (.int k b)).run P w = .ok v w := by
  cases op <;> simp only [binI, Option.some.injEq, reduceCtorEq] at h <;>
    first
    | (subst h; simp [binOp, Op.intArith, Op.intBits, Op.intCmp]; done)
    | (split at h
       · cases h
       · rename_i hb; simp only [Option.some.injEq] at h; subst h; simp [binOp, Op.intDiv, hb])

theorem run_eqGuard_int {op : BinOp} {k k' : IntKind} {a b : Int} (T : TypeId) (x y : Operand) : (eqGuard op T x y (.int k a) (.int k' b)).run P w = .ok () w := by
  unfold eqGuard
  simp only [Sem.run_bind, Sem.run_ite, Sem.run_pure]
  split <;> rfl

theorem R.bin {op : BinOp} {T T' : TypeId} {x y : Operand} {k : IntKind} {a b : Int} {v : Value} (hx : evO F x = .int k a) (hy : evO F y = .int k b)
    (hv : binI op k a b = some v) : (execOp (evO F) ⟨dst, .binOp op T x y T', ty, pos, after, g⟩).run P w = .ok (.value v) w := by
  simp only [execOp, hx, hy, Sem.run_bind, run_eqGuard_int, Result.andThen_ok, run_binI T hv, Sem.run_pure]

theorem wrap_u8 (x : UInt8) : IntKind.u8.wrap x.toNat = x.toNat := by
  have := x.toNat_lt; simp [IntKind.wrap, IntKind.bits, IntKind.signed]; omega
end
end Go.Vc
