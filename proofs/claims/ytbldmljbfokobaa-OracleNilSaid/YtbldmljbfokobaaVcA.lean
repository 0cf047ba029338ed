/- Frames, code walks and calls: rules for walks, proved here for every program of the model. Conditions: none beyond what each theorem states. -/
import Derived.WalkKit
import Derived.WalkSpells
import Derived.WalkLawsBesides
set_option linter.unusedVariables false
set_option linter.unusedSimpArgs false
namespace Go.Vc
open Go.RowKit

/-! ## values -/
abbrev vu8 (x : UInt8) : Value := .int .u8 x.toNat
abbrev vu32 (x : UInt32) : Value := .int .u32 x.toNat
abbrev vu64 (x : UInt64) : Value := .int .u64 x.toNat
abbrev vi (n : Int) : Value := .int .i64 n

/-! ## frames -/
/-- a frame: its temporaries, and the blocks of its loops over functions -/
structure Fr where
  t : Nat → Value
  ds : List Nat
instance : CoeFun Fr (fun _ => Nat → Value) := ⟨Fr.t⟩
def upd (F : Fr) (d : Nat) (v : Value) : Fr := ⟨fun t => bif Nat.beq t d then v else F.t t, F.ds⟩
def fr0 : Fr := ⟨fun _ => undef, []⟩
abbrev markD (D : Nat) : Deferred := { target := .collected D, args := #[] }

theorem upd_same (F : Fr) (d : Nat) (v : Value) : upd F d v d = v := by simp [upd]
theorem upd_ne {F : Fr} {d t : Nat} {v : Value} (h : t ≠ d) : upd F d v t = F t := by
  have : Nat.beq t d = false := by
    cases hb : Nat.beq t d
    · rfl
    · exact absurd (Nat.eq_of_beq_eq_true hb) h
  simp [upd, this]

structure Rel (n : Nat) (a : Act) (F : Fr) : Prop where
  defers : a.defers = F.ds.map markD
  size : a.tmps.size = n
  get : ∀ t, a.tmps.getD t undef = F t

abbrev evO (F : Fr) : Operand → Value
  | .tmp t => F t
  | .const v => v
  | .global g => .pointer (some ⟨g, 0, none⟩)
  | .func f => .func (.func f) #[] #[]

theorem Rel.eval {n : Nat} {a : Act} {F : Fr} (h : Rel n a F) : a.eval = evO F := by
  funext x
  cases x with
  | tmp t => exact h.get t
  | const v => rfl
  | global g => rfl
  | func f => rfl

theorem Rel.put {n d : Nat} {a : Act} {F : Fr} {v : Value} (h : Rel n a F) (hd : Nat.blt d n = true) : Rel n (a.put (some d) v) (upd F d v) := by
  have hd' : d < a.tmps.size := by rw [h.size]; simpa [Nat.blt_eq] using hd
  refine ⟨h.defers, by simp [Act.put, h.size], fun t => ?_⟩
  by_cases e : t = d
  · subst e
    simp [Act.put, upd, hd']
  · rw [upd_ne e, ← h.get t]
    simp only [Act.put, Array.getD_eq_getD_getElem?]
    rw [Array.getElem?_setIfInBounds_ne (fun h => e h.symm)]

theorem Rel.put_none {n : Nat} {a : Act} {F : Fr} {v : Value} (h : Rel n a F) : Rel n (a.put none v) F := h

def lift (n : Nat) (Q : Exit → Fr → World → Prop) : Exit → Act → World → Prop := fun e a w => ∃ F, Rel n a F ∧ Q e F w

def WP (P : Program) (n : Nat) (c : Code) (Q : Exit → Fr → World → Prop) (F : Fr) (w : World) : Prop :=
  ∀ a, Rel n a F → c.wp P (lift n Q) a w

def WL (P : Program) (n : Nat) (ops : Array Oper) (Q : Exit → Fr → World → Prop) (l : List Oper) (F : Fr) (w : World) : Prop :=
  ∀ a, Rel n a F → wpList P ops (lift n Q) l a w

def thn (K : Fr → World → Prop) (Q : Exit → Fr → World → Prop) : Exit → Fr → World → Prop
  | .normal, F, w => K F w
  | e, F, w => Q e F w

def inb (id : Nat) (Q : Exit → Fr → World → Prop) : Exit → Fr → World → Prop
  | .exit id', F, w => if id' = id then Q .normal F w else Q (.exit id') F w
  | e, F, w => Q e F w

section
variable {P : Program} {n : Nat} {Q : Exit → Fr → World → Prop} {F : Fr} {w : World}

theorem WP.mono {c : Code} {Q' : Exit → Fr → World → Prop} (h : WP P n c Q F w) (hq : ∀ e F w, Q e F w → Q' e F w) : WP P n c Q' F w :=
  fun a ha => Code.wp_mono (fun e a w ⟨F, r, q⟩ => ⟨F, r, hq e F w q⟩) (h a ha)

theorem WP.seq {x y : Code} (h : WP P n x (thn (WP P n y Q) Q) F w) : WP P n (.seq x y) Q F w := by
  intro a ha
  refine wp_seq (Code.wp_mono ?_ (h a ha))
  rintro e a w ⟨F, r, q⟩
  cases e with
  | normal => exact q a r
  | exit id => exact ⟨F, r, q⟩
  | goto l => exact ⟨F, r, q⟩
  | ret => exact ⟨F, r, q⟩
  | panic c => exact ⟨F, r, q⟩
  | outgrown => exact ⟨F, r, q⟩

theorem WP.skip (h : Q .normal F w) : WP P n .skip Q F w := fun _ ha => wp_skip ⟨F, ha, h⟩
theorem WP.ret (h : Q .ret F w) : WP P n .ret Q F w := fun _ ha => wp_ret ⟨F, ha, h⟩
theorem WP.exit {id : Nat} (h : Q (.exit id) F w) : WP P n (.exit id) Q F w := fun _ ha => wp_exit ⟨F, ha, h⟩

theorem WP.block {id : Nat} {c : Code} (h : WP P n c (inb id Q) F w) : WP P n (.block id c) Q F w := by
  intro a ha
  refine wp_block (Code.wp_mono ?_ (h a ha))
  rintro e a w ⟨F, r, q⟩
  cases e with
  | exit id' =>
    simp only [Exit.inBlock, inb] at q ⊢
    split
    · rename_i hi; rw [if_pos hi] at q; exact ⟨F, r, q⟩
    · rename_i hi; rw [if_neg hi] at q; exact ⟨F, r, q⟩
  | normal => exact ⟨F, r, q⟩
  | goto l => exact ⟨F, r, q⟩
  | ret => exact ⟨F, r, q⟩
  | panic c => exact ⟨F, r, q⟩
  | outgrown => exact ⟨F, r, q⟩

theorem WP.cond {c : Operand} {x y : Code} {b : Bool} (hc : evO F c = .bool b) (ht : b = true → WP P n x Q F w) (hf : b = false → WP P n y Q F w) :
    WP P n (.cond c x y) Q F w := by
  intro a ha
  refine wp_cond_split (t := b) (by rw [ha.eval]; exact hc) (fun h => ht h a ha) (fun h => hf h a ha)

theorem WP.condT {c : Operand} {x y : Code} (hc : evO F c = .bool true) (h : WP P n x Q F w) : WP P n (.cond c x y) Q F w :=
  WP.cond hc (fun _ => h) (fun h => by cases h)
theorem WP.condF {c : Operand} {x y : Code} (hc : evO F c = .bool false) (h : WP P n y Q F w) : WP P n (.cond c x y) Q F w :=
  WP.cond hc (fun h => by cases h) (fun _ => h)

theorem WP.reg {id : Nat} {l : List Oper} (h : WL P n l.toArray Q l F w) : WP P n (.region id l.toArray false) Q F w :=
  fun a ha => wp_region_lit (h a ha)

/-- the loop: an invariant with a measure -/
theorem WP.loop {c : Code} (I : Nat → Fr → World → Prop) (m : Nat) (h0 : I m F w)
    (round : ∀ m F w, I m F w → WP P n c (thn (fun F' w' => ∃ m', m' < m ∧ I m' F' w') Q) F w) : WP P n (.loop c) Q F w := by
  intro a ha b k cs
  have key : ∀ m a w, (∃ F, Rel n a F ∧ I m F w) →
      ∃ e a' w', lift n Q e a' w' ∧ Arrives P (lone (b.at a (.code c :: .inLoop c :: k)) cs w) b k cs e a' w' := by
    intro m
    induction m using Nat.strongRecOn with
    | _ m ih =>
      rintro a w ⟨F, r, hI⟩
      obtain ⟨e, a₁, w₁, ⟨F₁, r₁, hq⟩, harr⟩ := round m F w hI a r b (.inLoop c :: k) cs
      cases e with
      | normal =>
        obtain ⟨m', hlt, hI₁⟩ := hq
        obtain ⟨e₂, a₂, w₂, hq₂, harr₂⟩ := ih m' hlt a₁ w₁ ⟨F₁, r₁, hI₁⟩
        exact ⟨e₂, a₂, w₂, hq₂, .of_steps (Steps.trans harr (.one step_inLoop)) harr₂⟩
      | exit id => exact ⟨_, a₁, w₁, ⟨F₁, r₁, hq⟩, .pass (x := .inLoop c) rfl (fun _ _ => .inl (by simp)) harr⟩
      | goto l => exact ⟨_, a₁, w₁, ⟨F₁, r₁, hq⟩, .pass (x := .inLoop c) rfl (fun _ _ => .inl (by simp)) harr⟩
      | ret => exact ⟨_, a₁, w₁, ⟨F₁, r₁, hq⟩, .pass (x := .inLoop c) rfl (fun _ _ => .inl (by simp)) harr⟩
      | panic ch => exact ⟨_, a₁, w₁, ⟨F₁, r₁, hq⟩, .pass (x := .inLoop c) rfl (fun _ _ => .inl (by simp)) harr⟩
      | outgrown => exact ⟨_, a₁, w₁, ⟨F₁, r₁, hq⟩, .pass (x := .inLoop c) rfl (fun _ _ => .inl (by simp)) harr⟩
  obtain ⟨e, a', w', hq, harr⟩ := key m a w ⟨F, ha, h0⟩
  exact ⟨e, a', w', hq, .of_steps (.one step_loop) harr⟩

/-- a piece of code by a relation of its own: the ways through it meet again -/
theorem WP.cut {c : Code} (K : Fr → World → Prop) (h : WP P n c (thn K Q) F w) (hk : ∀ F w, K F w → Q .normal F w) : WP P n c Q F w :=
  h.mono fun e F w q => by cases e <;> first | exact hk F w q | exact q

end

/-! ## calls -/
/-- the call returns a value, and R holds of it and of the world -/
def Cs (P : Program) (f : FuncId) (args : Array Value) (w : World) (R : Value → World → Prop) : Prop :=
  Calls P f args w fun e w' => ∃ v, e = .returned v ∧ R v w'

theorem Cs.mono {P : Program} {f : FuncId} {args : Array Value} {w : World} {R R' : Value → World → Prop} (h : Cs P f args w R) (hr : ∀ v w', R v w' → R' v w') : Cs P f args w R' :=
  Calls.mono h fun _ _ ⟨v, e, r⟩ => ⟨v, e, hr v _ r⟩

def retQ (P : Program) (fn : Func) (R : Value → World → Prop) : Exit → Fr → World → Prop
  | .normal, F, w | .ret, F, w => F.ds = [] ∧ ∃ v, (∀ tmps : Array Value, (∀ t, tmps.getD t undef = F t) → (results fn tmps).run P w = .ok v w) ∧ R v w
  | _, _, _ => False

def argF : List Value → Nat → Fr → Fr
  | [], _, F => F
  | v :: l, i, F => argF l (i + 1) (upd F i v)

theorem argF_ds (l : List Value) : ∀ (i : Nat) (F : Fr), (argF l i F).ds = F.ds := by
  induction l with
  | nil => intro i F; rfl
  | cons v l ih => intro i F; rw [argF, ih]; rfl

theorem argF_get (l : List Value) : ∀ (i : Nat) (F : Fr) (t : Nat), argF l i F t = if i ≤ t then (l[t - i]?).getD (F t) else F t := by
  induction l with
  | nil => intro i F t; simp [argF]
  | cons v l ih =>
    intro i F t
    rw [argF, ih]
    by_cases h : i + 1 ≤ t
    · rw [if_pos h, if_pos (by omega)]
      have e : t - i = (t - (i + 1)) + 1 := by omega
      rw [e, List.getElem?_cons_succ, upd_ne (by omega)]
    · rw [if_neg h]
      by_cases e : t = i
      · subst e; simp [upd]
      · rw [upd_ne e, if_neg (by omega)]

theorem Cs.of {P : Program} {f : FuncId} {fn : Func} {c : Code} {args : List Value} {w : World} {R : Value → World → Prop} {n : Nat}
    (hf : P.funcs[f]? = some fn) (hb : fn.body = some c) (hn : fn.ntmps = n) (hl : Nat.ble args.length n = true)
    (h : WP P n c (retQ P fn R) (argF args 0 fr0) w) : Cs P f args.toArray w R := by
  have hl' : args.length ≤ n := Nat.le_of_ble_eq_true hl
  refine calls_of_wp hf hb ?_
  refine Code.wp_mono ?_ (h _ ⟨by rw [argF_ds]; rfl, by simp [hn]; omega, fun t => ?_⟩)
  · rintro e a w ⟨F, r, q⟩
    cases e with
    | normal => obtain ⟨hd, v, hv, hR⟩ := q; exact ⟨by rw [r.defers, hd]; rfl, v, hv _ r.get, v, rfl, hR⟩
    | ret => obtain ⟨hd, v, hv, hR⟩ := q; exact ⟨by rw [r.defers, hd]; rfl, v, hv _ r.get, v, rfl, hR⟩
    | exit id => exact q.elim
    | goto l => exact q.elim
    | panic c => exact q.elim
    | outgrown => exact q.elim
  · rw [argF_get]
    simp only [Nat.zero_le, if_true, Nat.sub_zero, fr0, Array.getD_eq_getD_getElem?]
    by_cases ht : t < args.length
    · simp [Array.getElem?_append, ht]
    · have : args[t]? = none := by simp; omega
      rw [this]
      simp only [Option.getD_none, Array.getElem?_append, List.size_toArray, if_neg ht, Array.getElem?_replicate]
      split <;> rfl

end Go.Vc
