/- A range over a function that tells nothing, and calls that leave with marks. Conditions: those that each theorem states. -/
import Derived.Test.YtbldmljbfokobaaVcR
import Derived.RangeFuncRecord
set_option linter.unusedVariables false
set_option linter.unusedSimpArgs false
namespace Go.Vc
open Go.RowKit
/-- the blocks of the loops are taken, one behind the other -/
def Taken (P : Program) : List Nat → World → World → Prop
  | [], w, w' => w' = w
  | D :: ds, w, w' => ∃ w1, (Instr.takeDeferred D).run P w = .ok [] w1 ∧ Taken P ds w1 w'
def retM (P : Program) (fn : Func) (R : Value → World → Prop) : Exit → Fr → World → Prop
  | .normal, F, w | .ret, F, w => ∃ w', Taken P F.ds w w' ∧ ∃ v, (∀ tmps : Array Value, (∀ t, tmps.getD t undef = F t) → (results fn tmps).run P w' = .ok v w') ∧ R v w'
  | _, _, _ => False
theorem leaves_taken {P : Program} {fn : Func} {tmps : Array Value} {R : Value → World → Prop} {v : Value} {w' : World} (hr : (results fn tmps).run P w' = .ok v w') (hR : R v w') : ∀ (ds : List Nat) (w : World), Taken P ds w w' →
    LeavesInM Fence.wide 0 P fn tmps (fun e w' => ∃ v, e = .returned v ∧ R v w') (ds.map markD) .returning w
  | [], w, h => by
    have h : w' = w := h
    subst h
    exact ⟨v, hr, v, rfl, hR⟩
  | D :: ds, w, h => by
    obtain ⟨w1, h1, h2⟩ := h
    exact ⟨by simp, .inl ⟨D, w1, rfl, h1, leaves_taken hr hR ds w1 h2⟩⟩
theorem Cs.ofM {P : Program} {f : FuncId} {fn : Func} {c : Code} {args : List Value} {w : World} {R : Value → World → Prop} {n : Nat}
    (hf : P.funcs[f]? = some fn) (hb : fn.body = some c) (hn : fn.ntmps = n) (hl : Nat.ble args.length n = true)
    (h : WP P n c (retM P fn R) (argF args 0 fr0) w) : Cs P f args.toArray w R := by
  have hl' : args.length ≤ n := Nat.le_of_ble_eq_true hl
  refine callsIn_wide.1 (callsIn_of_wp_marks (F := Fence.wide) (n := 0) hf hb trivial (wpIn_wide.2 ?_) rfl)
  refine Code.wp_mono ?_ (h _ ⟨by rw [argF_ds]; rfl, by simp [hn]; omega, fun t => ?_⟩)
  · rintro e a w ⟨F, r, q⟩
    cases e with
    | normal => obtain ⟨w', ht, v, hv, hR⟩ := q; show LeavesInM _ _ _ _ _ _ a.defers _ _; rw [r.defers]; exact leaves_taken (hv _ r.get) hR _ _ ht
    | ret => obtain ⟨w', ht, v, hv, hR⟩ := q; show LeavesInM _ _ _ _ _ _ a.defers _ _; rw [r.defers]; exact leaves_taken (hv _ r.get) hR _ _ ht
    | exit id => exact q.elim
    | goto l => exact q.elim
    | panic c => exact q.elim
    | outgrown => exact q.elim
  · rw [argF_get]
    simp only [Nat.zero_le, if_true, Nat.sub_zero, fr0, Array.getD_eq_getD_getElem?]
    by_cases ht : t < args.length
    · simp [Array.getElem?_append, ht]
    · have : args[t]? = none := by simp; omega
      rw [this]
      simp only [Option.getD_none, Array.getElem?_append, List.size_toArray, if_neg ht, Array.getElem?_replicate]
      split <;> rfl
section
variable {P : Program} {n : Nat} {Q : Exit → Fr → World → Prop} {F : Fr} {w w0 : World} {L : List Ent}
theorem WP.rangeNone {g : Operand} {ps : Array Tmp} {assign body : Code} {gf : Nat} {lb : List Value} (h : HP w0 w L) (hg : evO F g = .func (.func gf) #[] lb.toArray) (he : ∀ args w, (callFunc gf args).run P w = .ok (.enter gf args) w)
    (hc : ∀ D l r w1, HP w0 w1 (.obj l .nw (.loop r) :: .obj D .nw (.deferred (some [])) :: L) → Cs P gf (Value.func (.yield l) #[] #[] :: lb).toArray w1 (fun _ w2 => Chg w1 w2 []))
    (k : ∀ D w', HP w0 w' (.obj D .nw (.deferred (some [])) :: L) → Q .normal ⟨F.t, D :: F.ds⟩ w') : WP P n (.rangeFunc g ps assign body) Q F w := by
  intro a ha
  refine wpIn_wide.1 (wpIn_rangeFunc (F := Fence.wide) (n := 0) fun fn _ => ?_)
  obtain ⟨r, hr⟩ : ∃ r : Loop, r = { state := .ready, pending := none, fn, tmps := a.tmps, params := ps, assign, body, defers := w.heap.size } := ⟨_, rfl⟩
  have h1 : HP w0 (w.alloc (.deferred (some []))) (.obj w.heap.size .nw (.deferred (some [])) :: L) :=
    h.push (Chg.alloc w _ []) ⟨World.alloc_heap_new w _, h.size⟩ rfl (fun b hb => by simp only [Ent.blocks, List.mem_singleton] at hb; omega)
  have h2 : HP w0 ((w.alloc (.deferred (some []))).alloc (.loop r)) (.obj (w.heap.size + 1) .nw (.loop r) :: .obj w.heap.size .nw (.deferred (some [])) :: L) := by
    have e := World.alloc_heap_new (w.alloc (.deferred (some []))) (.loop r)
    rw [World.size_alloc] at e
    exact h1.push (Chg.alloc _ _ []) ⟨e, by have := h.size; show w0.heap.size ≤ w.heap.size + 1; omega⟩ rfl (fun b hb => by simp only [Ent.blocks, List.mem_singleton] at hb; rw [World.size_alloc]; omega)
  have hcall := hc w.heap.size (w.heap.size + 1) r _ h2
  obtain ⟨W1, hW1⟩ : ∃ W1, (w.alloc (.deferred (some []))).alloc (.loop r) = W1 := ⟨_, rfl⟩
  rw [hW1] at h2 hcall
  refine ⟨w.heap.size + 1, [{ target := .collected w.heap.size, args := #[] }], W1, { target := .fn (.func gf) lb.toArray, args := #[.func (.yield (w.heap.size + 1)) #[] #[]] }, W1, gf,
    #[.func (.yield (w.heap.size + 1)) #[] #[]] ++ lb.toArray, W1, (by rw [← hW1, hr]; exact run_enterLoop_outer _ _ _ _ _), ?_, fun f' hf' => trivial, ?_, (fun hh => by cases hh), ?_⟩
  · simp only [resolve, ha.eval, hg]
    simp [go_sem]
  · simp [invoke, go_sem, he]
  · refine callsIn_wide.2 ?_
    have e : (#[Value.func (.yield (w.heap.size + 1)) #[] #[]] ++ lb.toArray : Array Value) = (Value.func (.yield (w.heap.size + 1)) #[] #[] :: lb).toArray := by simp
    rw [e]
    subst hr
    refine Calls.mono hcall ?_
    rintro e w2 ⟨v, rfl, hch⟩
    have h3 := h2.same hch
    obtain ⟨hl, _⟩ := h3.ok _ (List.mem_cons_self ..)
    refine ⟨none, _, run_endLoop (P := P) hl (by simp), ?_⟩
    have h4 : HP w0 (w2.putObj (w.heap.size + 1) (.loop { state := .exhausted, pending := none, fn, tmps := a.tmps, params := ps, assign, body, defers := w.heap.size })) (.obj (w.heap.size + 1) .nw (.loop { state := .exhausted, pending := none, fn, tmps := a.tmps, params := ps, assign, body, defers := w.heap.size }) :: .obj w.heap.size .nw (.deferred (some [])) :: L) := by
      have hlt : w.heap.size + 1 < w2.heap.size := (Array.getElem?_eq_some_iff.1 hl).1
      have hB : w0.heap.size ≤ w.heap.size + 1 := by have := h.size; omega
      refine h3.set (e' := .obj (w.heap.size + 1) .nw (.loop { state := .exhausted, pending := none, fn, tmps := a.tmps, params := ps, assign, body, defers := w.heap.size })) .h rfl ⟨rfl, rfl, rfl, by simp, fun k _ hk => World.putObj_heap_other (by simpa [Ent.blocks] using hk)⟩ ⟨World.putObj_heap_same hlt, hB⟩ (fun b hb => .inl hb) (fun hh => by cases hh) (fun _ b hb => by simp only [Ent.blocks, List.mem_singleton] at hb; omega)
    exact ⟨⟨F.t, w.heap.size :: F.ds⟩, ⟨by rw [ha.defers]; rfl, ha.size, ha.get⟩, k _ _ (h4.drop rfl)⟩
/-- at the end: the blocks of the loops are taken -/
theorem HP.taken (R : World → Prop) : ∀ (ds : List Nat) {w : World} {L : List Ent}, HP w0 w (ds.map (fun D => Ent.obj D .nw (.deferred (some []))) ++ L) → ∃ w', Taken P ds w w' ∧ HP w0 w' L
  | [], w, L, h => ⟨w, rfl, h⟩
  | D :: ds, w, L, h => by
    obtain ⟨hD, hB⟩ := h.ok _ (List.mem_cons_self ..)
    have hlt := (Array.getElem?_eq_some_iff.1 hD).1
    have h2 : HP w0 (w.putObj D (.deferred none)) (.obj D .nw (.deferred none) :: (ds.map (fun D => Ent.obj D .nw (.deferred (some []))) ++ L)) :=
      h.set (e' := .obj D .nw (.deferred none)) .h rfl ⟨rfl, rfl, rfl, by simp, fun k _ hk => World.putObj_heap_other (by simpa [Ent.blocks] using hk)⟩ ⟨World.putObj_heap_same hlt, hB⟩ (fun b hb => .inl hb) (fun hh => by cases hh) (fun _ b hb => by simp only [Ent.blocks, List.mem_singleton] at hb; subst hb; exact hB)
    obtain ⟨w', ht, h3⟩ := HP.taken R ds (h2.drop rfl)
    exact ⟨w', ⟨_, run_takeDeferred hD, ht⟩, h3⟩
theorem RV.ds {w : World} {rs : List ResultVar} {vs : List Value} (h : RV P F w rs vs) : RV P ⟨F.t, []⟩ w rs vs := by
  induction h with
  | nil => exact .nil
  | tmp h _ ih => exact .tmp h ih
  | cell h hl _ ih => exact .cell h hl ih
theorem retM_of {fn : Func} {R : Value → World → Prop} {w' : World} {rs : List ResultVar} {vs : List Value} (ht : Taken P F.ds w w') (hr : fn.results = rs.toArray) (h : RV P F w' rs vs) (k : R (packed vs) w') : retM P fn R .ret F w := by
  have h0 := ret_of (fn := fn) (R := R) (F := ⟨F.t, []⟩) hr (w := w') (vs := vs) (RV.ds h) k rfl
  exact ⟨w', ht, h0.2⟩
end
end Go.Vc
namespace Go.Vc
open Go.RowKit
section
variable {P : Program} {F : Fr} {w : World} {ty : TypeId} {pos : String} {after : Array Edge} {dst : Option Tmp} {g : Option (Nat × Bool)}
/-! a function compared with nil -/
theorem eq_nilF {T : TypeId} {ps rs : Array TypeId} {v : Bool} {f : Fn} {fi ca : Array Value} (hT : P.underlying T = some (.func ps rs v)) (d : Nat) : (Op.equalIn (d + 1) T (.func f fi ca) .nilFunc).run P w = .ok false w := by
  unfold Op.equalIn
  rw [Sem.run_bind, run_underlying hT]
  rfl
theorem R.eqNilF {T T' : TypeId} {x y : Operand} {ps rs : Array TypeId} {v : Bool} {f : Fn} {fi ca : Array Value} (hx : evO F x = .func f fi ca) (hy : evO F y = .nilFunc) (hT : P.underlying T = some (.func ps rs v)) :
    (execOp (evO F) ⟨dst, .binOp .eql T x y T', ty, pos, after, g⟩).run P w = .ok (.value (.bool false)) w := R.eqOf hx hy rfl (eq_nilF hT) rfl
end
end Go.Vc
