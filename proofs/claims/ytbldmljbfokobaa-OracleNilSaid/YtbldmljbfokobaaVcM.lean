/- Maps, and loops gone through: rules for walks, proved here for every program of the model. Conditions: none beyond what each theorem states. -/
import Derived.Test.YtbldmljbfokobaaVcI
set_option linter.unusedVariables false
set_option linter.unusedSimpArgs false
namespace Go.Vc
open Go.RowKit
set_option linter.unusedSectionVars false
/-! ## maps -/
section
variable {P : Program} {n : Nat} {ops : Array Oper} {Q : Exit → Fr → World → Prop} {rest : List Oper} {F : Fr} {w w' w0 : World} {L : List Ent}
variable {ty : TypeId} {pos : String} {after : Array Edge} {dst : Option Tmp} {g : Option (Nat × Bool)}

/-- a key may be used; the search for it comes to r -/
def Ck (P : Program) (K : TypeId) (k : Value) : Prop := ∀ b w, (Instr.checkKey b 10000 K k).run P w = .ok () w
def Fk (P : Program) (K : TypeId) (k : Value) (es : List MapEntry) (r : Option (Nat × Value)) : Prop := ∀ w, (Instr.findKey K k es).run P w = .ok r w

theorem Ck.int {K : TypeId} {q : IntKind} {k : IntKind} {i : Int} (h : P.underlying K = some (.int q)) : Ck P K (.int k i) := by
  intro b w
  unfold Instr.checkKey
  rw [Sem.run_bind, run_underlying h]
  rfl
theorem Fk.int {K : TypeId} {q k : IntKind} {i : Int} {es : List MapEntry} {r : Option (Nat × Value)} (h : P.underlying K = some (.int q)) (hf : Instr.findNow (.int q) (.int k i) es 0 = some r) : Fk P K (.int k i) es r := by
  intro w
  simp [Instr.findKey, run_underlying h, hf]

theorem HP.pushObj (h : HP w0 w L) {b : Nat} {o : Obj} (hc : Chg w w' []) (hb : w'.heap[b]? = some o) (hge : w.heap.size ≤ b) : HP w0 w' (.obj b .nw o :: L) :=
  h.push hc ⟨hb, Nat.le_trans h.size hge⟩ rfl (fun b' hb' => by simp only [Ent.blocks, List.mem_singleton] at hb'; subst hb'; exact hge)

theorem WL.makeMap {d : Nat} {T : TypeId} (h : HP w0 w L) (hd : Nat.blt d n = true)
    (k : ∀ b w', HP w0 w' (.obj b .nw (.map #[] 0) :: L) → WL P n ops Q rest (upd F d (.map (some b))) w') : WL P n ops Q (⟨some d, .makeMap T none, ty, pos, after, none⟩ :: rest) F w := by
  have hh := h.pushObj (w' := w.alloc (.map #[] 0)) (b := w.heap.size) (o := .map #[] 0) (Chg.alloc _ _ _) (heap_alloc_new _ _) (Nat.le_refl _)
  refine WL.val rfl rfl hd ?_ (k _ _ hh)
  simp [execOp, Instr.makeMap]

theorem setObj_core {b : Nat} {m : Md} {o o' : Obj} {L' : List Ent} (h : HP w0 w L) (hat : At (.obj b m o) (.obj b m o') L L') (hmut : m ≠ .ro) (hm : ∀ c e f, o ≠ .cells c e f) :
    ∃ w', (setObj b o').run P w = .ok () w' ∧ HP w0 w' L' := by
  obtain ⟨hb, hmd⟩ : w.heap[b]? = some o ∧ mdOk w0.heap.size b m := h.ok _ hat.mem
  have hlt : b < w.heap.size := (Array.getElem?_eq_some_iff.1 hb).1
  refine ⟨{ w with heap := w.heap.setIfInBounds b o' }, ?_, ?_⟩
  · simp only [setObj, Sem.run, hb]
  · refine h.set hat (by simp [Ent.mut, hmut]) ⟨rfl, rfl, rfl, by simp, fun k _ hs => ?_⟩ ⟨by simp [hlt], hmd⟩ (fun _ h => .inl h) (fun h => ⟨h, rfl⟩) (fun ha b' hb' => ?_)
    · simp only [Ent.blocks, List.mem_singleton] at hs
      simp [Array.getElem?_setIfInBounds_ne (fun e : b = k => hs e.symm)]
    · simp only [Ent.blocks, List.mem_singleton] at hb'; subst hb'
      cases m with
      | ro => exact absurd rfl hmut
      | ar => simp [Ent.isAr] at ha
      | nw => exact hmd

theorem run_getMap {b : Nat} {es : Array MapEntry} {c : Nat} (hb : w.heap[b]? = some (.map es c)) : (getObj b).run P w = .ok (.map es c) w := by
  simp [getObj, Sem.run, hb]

theorem mapPut_core {T K E : TypeId} {b c : Nat} {es : Array MapEntry} {k v : Value} {m : Md} {L' : List Ent} (h : HP w0 w L) (hT : P.underlying T = some (.map K E)) (hat : At (.obj b m (.map es c)) (.obj b m (.map (es.push { key := k, val := v, born := c }) (c + 1))) L L') (hmut : m ≠ .ro) (hc : Ck P K k) (hf : Fk P K k es.toList none) :
    ∃ w', (Instr.mapUpdate T (.map (some b)) k v).run P w = .ok () w' ∧ HP w0 w' L' := by
  obtain ⟨hb, _⟩ : w.heap[b]? = some (.map es c) ∧ mdOk w0.heap.size b m := h.ok _ hat.mem
  obtain ⟨w', hr, hh⟩ := setObj_core (P := P) h hat hmut (by intro _ _ _ e; cases e)
  refine ⟨w', ?_, hh⟩
  simp only [Instr.mapUpdate, Sem.run_bind, run_underlying hT, Result.andThen_ok, run_getMap hb, hc false w, hf w, hr]

theorem WL.insert {T K E : TypeId} {x y z : Operand} {b c : Nat} {es : Array MapEntry} {k v : Value} {m : Md} {L' : List Ent} (h : HP w0 w L) (hx : evO F x = .map (some b)) (hy : evO F y = k) (hz : evO F z = v) (hT : P.underlying T = some (.map K E)) (hat : At (.obj b m (.map es c)) (.obj b m (.map (es.push { key := k, val := v, born := c }) (c + 1))) L L') (hmut : m ≠ .ro) (hc : Ck P K k) (hf : Fk P K k es.toList none)
    (kk : ∀ w', HP w0 w' L' → WL P n ops Q rest F w') : WL P n ops Q (⟨none, .insert T x y z, ty, pos, after, none⟩ :: rest) F w := by
  obtain ⟨w', hr, hh⟩ := mapPut_core (P := P) h hT hat hmut hc hf
  exact WL.unit rfl rfl (by simp [execOp, hx, hy, hz, hr]) (kk w' hh)
theorem WL.mapUpdate {T K E : TypeId} {x y z : Operand} {b c : Nat} {es : Array MapEntry} {k v : Value} {m : Md} {L' : List Ent} (h : HP w0 w L) (hx : evO F x = .map (some b)) (hy : evO F y = k) (hz : evO F z = v) (hT : P.underlying T = some (.map K E)) (hat : At (.obj b m (.map es c)) (.obj b m (.map (es.push { key := k, val := v, born := c }) (c + 1))) L L') (hmut : m ≠ .ro) (hc : Ck P K k) (hf : Fk P K k es.toList none)
    (kk : ∀ w', HP w0 w' L' → WL P n ops Q rest F w') : WL P n ops Q (⟨none, .mapUpdate T x y z, ty, pos, after, none⟩ :: rest) F w := by
  obtain ⟨w', hr, hh⟩ := mapPut_core (P := P) h hT hat hmut hc hf
  exact WL.unit rfl rfl (by simp [execOp, hx, hy, hz, hr]) (kk w' hh)

def foundV (r : Option (Nat × Value)) (z : Value) : Value := (r.map (·.2)).getD z

theorem R.lookup {T K E : TypeId} {x y : Operand} {B b c : Nat} {es : Array MapEntry} {k z v : Value} {m : Md} {r : Option (Nat × Value)} {ok : Bool} (hx : evO F x = .map (some b)) (hy : evO F y = k) (hT : P.underlying T = some (.map K E)) (he : (Ent.obj b m (.map es c)).ok B w) (hc : Ck P K k) (hf : Fk P K k es.toList r) (hz : ∀ w, (zeroValue E).run P w = .ok z w) (hv : foundV r z = v) (hok : r.isSome = ok) :
    (execOp (evO F) ⟨dst, .lookup T x y true, ty, pos, after, g⟩).run P w = .ok (.value (.tuple [v, .bool ok].toArray)) w := by
  subst hv; subst hok
  have h1 := hc es.isEmpty w
  have h2 := hf w
  cases r with
  | none => simp [execOp, Instr.lookup, hx, hy, run_underlying hT, run_getMap he.1, h1, h2, hz, foundV]
  | some p => simp [execOp, Instr.lookup, hx, hy, run_underlying hT, run_getMap he.1, h1, h2, foundV]

theorem R.lookup1 {T K E : TypeId} {x y : Operand} {B b c : Nat} {es : Array MapEntry} {k z v : Value} {m : Md} {r : Option (Nat × Value)} (hx : evO F x = .map (some b)) (hy : evO F y = k) (hT : P.underlying T = some (.map K E)) (he : (Ent.obj b m (.map es c)).ok B w) (hc : Ck P K k) (hf : Fk P K k es.toList r) (hz : ∀ w, (zeroValue E).run P w = .ok z w) (hv : foundV r z = v) :
    (execOp (evO F) ⟨dst, .lookup T x y false, ty, pos, after, g⟩).run P w = .ok (.value v) w := by
  subst hv
  have h1 := hc es.isEmpty w
  have h2 := hf w
  cases r with
  | none => simp [execOp, Instr.lookup, hx, hy, run_underlying hT, run_getMap he.1, h1, h2, hz, foundV]
  | some p => simp [execOp, Instr.lookup, hx, hy, run_underlying hT, run_getMap he.1, h1, h2, foundV]

end
end Go.Vc
namespace Go.Vc
open Go.RowKit
/-! ## lists of int -/
abbrev vi64 : Int → Value := vi
theorem SOk.i64 {k : Nat} {bs : List Int} (h : bs.length = k) : SOk (k, bs.map vi64) := ⟨by simpa using h, by simp [Value.oneCell']⟩
theorem get_i64 {bs : List Int} {i : Nat} (h : i < bs.length) : (bs.map vi64)[i]? = some (vi (bs.getD i 0)) := by simp [h]
theorem set_i64 (bs : List Int) (i : Nat) (x : Int) : (bs.map vi64).set i (vi x) = (bs.set i x).map vi64 := List.map_set.symm
theorem one_i64 (bs : List Int) : ∀ v ∈ bs.map vi64, v.oneCell' = true := by simp [Value.oneCell']
/-! ## parts of an aggregate -/
section
variable {P : Program} {F : Fr} {w : World}
variable {ty : TypeId} {pos : String} {after : Array Edge} {dst : Option Tmp} {g : Option (Nat × Bool)}
theorem run_part1 {e : TypeId} {cs : List Value} {off : Nat} {v : Value} (hT : ∀ w, (isAgg e).run P w = .ok false w) (hz : ∀ w, (sizeOf e).run P w = .ok 1 w) (hv : cs[off]? = some v) : (part e ⟨cs⟩ off).run P w = .ok v w := by
  obtain ⟨hi, he⟩ := List.getElem?_eq_some_iff.1 hv
  simp [part, hT, hz, hv]
theorem R.indexV {i len : Nat} {T E : TypeId} {x y : Operand} {cs : List Value} {v : Value} {kd : IntKind} {iv : Int} (hx : evO F x = .agg ⟨cs⟩) (hy : evO F y = .int kd iv) (hi : iv = (i : Int)) (hlt : i < len) (hT : P.underlying T = some (.array len E)) (hg : ∀ w, (isAgg E).run P w = .ok false w) (hz : ∀ w, (sizeOf E).run P w = .ok 1 w) (hv : cs[i]? = some v) :
    (execOp (evO F) ⟨dst, .index T x y, ty, pos, after, g⟩).run P w = .ok (.value v) w := by
  subst hi
  have hlt' : (i : Int) < (len : Int) := by omega
  have h0 : (0 : Int) ≤ i := by omega
  simp only [execOp, hx, hy, Instr.index, asIntOf, Sem.run_bind, Sem.run_pure, Result.andThen_ok, run_underlying hT, h0, hlt', and_self, if_true, hz, Int.toNat_natCast, Nat.mul_one, run_part1 hg hz hv]
theorem R.field1 {f off : Nat} {S : TypeId} {fs : Array Field} {fd : Field} {x : Operand} {cs : List Value} {v : Value} (hx : evO F x = .agg ⟨cs⟩) (hT : P.underlying S = some (.struct fs)) (hf : fs[f]? = some fd) (ho : fd.offset = off) (hg : ∀ w, (isAgg fd.type).run P w = .ok false w) (hz : ∀ w, (sizeOf fd.type).run P w = .ok 1 w) (hv : cs[off]? = some v) :
    (execOp (evO F) ⟨dst, .field S x f, ty, pos, after, g⟩).run P w = .ok (.value v) w := by
  subst ho
  simp only [execOp, hx, Instr.field, Sem.run_bind, Sem.run_pure, Result.andThen_ok, run_underlying hT, hf, asAgg, run_part1 hg hz hv]
end
/-! ## loops gone through round by round -/
section
variable {P : Program} {n : Nat} {Q : Exit → Fr → World → Prop} {F : Fr} {w : World} {c : Code}
def WI (P : Program) (n : Nat) (c : Code) (Q : Exit → Fr → World → Prop) (F : Fr) (w : World) : Prop :=
  ∀ a, Rel n a F → ∀ b k cs, ∃ e a' w', lift n Q e a' w' ∧ Arrives P (lone (b.at a (.code c :: .inLoop c :: k)) cs w) b k cs e a' w'
theorem WP.loopU (h : WI P n c Q F w) : WP P n (.loop c) Q F w := by
  intro a ha b k cs
  obtain ⟨e, a', w', hq, harr⟩ := h a ha b k cs
  exact ⟨e, a', w', hq, .of_steps (.one step_loop) harr⟩
theorem WI.round (h : WP P n c (thn (WI P n c Q) Q) F w) : WI P n c Q F w := by
  intro a r b k cs
  obtain ⟨e, a₁, w₁, ⟨F₁, r₁, hq⟩, harr⟩ := h a r b (.inLoop c :: k) cs
  cases e with
  | normal =>
    obtain ⟨e₂, a₂, w₂, hq₂, harr₂⟩ := hq a₁ r₁ b k cs
    exact ⟨e₂, a₂, w₂, hq₂, .of_steps (Steps.trans harr (.one step_inLoop)) harr₂⟩
  | exit id => exact ⟨_, a₁, w₁, ⟨F₁, r₁, hq⟩, .pass (x := .inLoop c) rfl (fun _ _ => .inl (by simp)) harr⟩
  | goto l => exact ⟨_, a₁, w₁, ⟨F₁, r₁, hq⟩, .pass (x := .inLoop c) rfl (fun _ _ => .inl (by simp)) harr⟩
  | ret => exact ⟨_, a₁, w₁, ⟨F₁, r₁, hq⟩, .pass (x := .inLoop c) rfl (fun _ _ => .inl (by simp)) harr⟩
  | panic ch => exact ⟨_, a₁, w₁, ⟨F₁, r₁, hq⟩, .pass (x := .inLoop c) rfl (fun _ _ => .inl (by simp)) harr⟩
  | outgrown => exact ⟨_, a₁, w₁, ⟨F₁, r₁, hq⟩, .pass (x := .inLoop c) rfl (fun _ _ => .inl (by simp)) harr⟩
end
end Go.Vc
