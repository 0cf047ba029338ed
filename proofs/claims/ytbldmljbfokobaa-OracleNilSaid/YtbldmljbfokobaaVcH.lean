/- Equality of aggregates: rules for walks, proved here for every program of the model. Conditions: none beyond what each theorem states. -/
import Derived.Test.YtbldmljbfokobaaVcW
import Derived.DeepKeys
set_option linter.unusedVariables false
set_option linter.unusedSimpArgs false
namespace Go.Vc
open Go.RowKit
set_option linter.unusedSectionVars false

/-! ## equality of arrays and structs -/
def litV : Value → Lit
  | .bool b => .bool b
  | .int k n => .int k n
  | .string s => .string s.data.toList
  | _ => .bool false

def Pl (v : Value) : Prop := (∃ b, v = .bool b) ∨ (∃ k n, v = .int k n) ∨ (∃ s, v = .string s)

theorem litV_inj {a b : Value} (ha : Pl a) (hb : Pl b) (h : litV a = litV b) : a = b := by
  rcases ha with ⟨x, rfl⟩ | ⟨k, x, rfl⟩ | ⟨x, rfl⟩ <;> rcases hb with ⟨y, rfl⟩ | ⟨k', y, rfl⟩ | ⟨y, rfl⟩ <;> simp [litV] at h ⊢
  · exact h
  · exact h
  · obtain ⟨⟨x⟩⟩ := x; obtain ⟨⟨y⟩⟩ := y; simp at h; simp [h]

theorem litVs_inj : ∀ {a b : List Value}, (∀ v ∈ a, Pl v) → (∀ v ∈ b, Pl v) → a.map litV = b.map litV → a = b
  | [], [], _, _, _ => rfl
  | [], _ :: _, _, _, h => by simp at h
  | _ :: _, [], _, _, h => by simp at h
  | x :: a, y :: b, ha, hb, h => by
    simp only [List.map_cons, List.cons.injEq] at h
    rw [litV_inj (ha x (by simp)) (hb y (by simp)) h.1, litVs_inj (fun v hv => ha v (by simp [hv])) (fun v hv => hb v (by simp [hv])) h.2]

/-- cells that are of a type of bools, integers and strings -/
structure Typ (P : Program) (h : Nat) (t : TypeId) (cs : List Value) : Prop where
  lits : ∀ D, h ≤ D → P.keyLits D t cs = some (cs.map litV)
  pl : ∀ v ∈ cs, Pl v
  len : cs.length = P.cellsOf t

section
variable {P : Program}

theorem Typ.int {t : TypeId} {k : IntKind} {n : Int} (hu : P.underlying t = some (.int k)) (hc : P.cellsOf t = 1) (hw : (Lit.int k n).wf = true) : Typ P 1 t [.int k n] := by
  refine ⟨fun D hD => ?_, by simp [Pl], by simp [hc]⟩
  obtain ⟨D, rfl⟩ : ∃ d, D = d + 1 := ⟨D - 1, by omega⟩
  simp [Program.keyLits, hu, hw, litV]
theorem Typ.bool {t : TypeId} {b : Bool} (hu : P.underlying t = some .bool) (hc : P.cellsOf t = 1) : Typ P 1 t [.bool b] := by
  refine ⟨fun D hD => ?_, by simp [Pl], by simp [hc]⟩
  obtain ⟨D, rfl⟩ : ∃ d, D = d + 1 := ⟨D - 1, by omega⟩
  simp [Program.keyLits, hu, litV]
theorem Typ.str {t : TypeId} {s : ByteArray} (hu : P.underlying t = some .string) (hc : P.cellsOf t = 1) (hs : s.size ≤ maxLen) : Typ P 1 t [.string s] := by
  refine ⟨fun D hD => ?_, by simp [Pl], by simp [hc]⟩
  obtain ⟨D, rfl⟩ : ∃ d, D = d + 1 := ⟨D - 1, by omega⟩
  simp [Program.keyLits, hu, hs, litV]

theorem wfu8 (x : UInt8) : (Lit.int .u8 x.toNat).wf = true := WalkArith.wf_u8 (by have := x.toNat_lt; omega)
theorem wfu32 (x : UInt32) : (Lit.int .u32 x.toNat).wf = true := WalkArith.wf_u32 (by have := x.toNat_lt; omega)
theorem wfu64 (x : UInt64) : (Lit.int .u64 x.toNat).wf = true := WalkArith.wf_u64 (by have := x.toNat_lt; omega)

theorem mapM_range_some {α : Type} (f : Nat → Option α) (g : Nat → α) : ∀ (n : Nat), (∀ i, i < n → f i = some (g i)) → (List.range n).mapM f = some ((List.range n).map g) := by
  intro n h
  have : ∀ l : List Nat, (∀ i ∈ l, f i = some (g i)) → l.mapM f = some (l.map g) := by
    intro l
    induction l with
    | nil => intro _; rfl
    | cons a l ih => intro h; rw [List.mapM_cons, h a (by simp), ih fun i hi => h i (by simp [hi])]; rfl
  exact this _ fun i hi => h i (by simpa using hi)

theorem chunks {α : Type} (s : Nat) : ∀ (n : Nat) (cs : List α), cs.length = n * s → ((List.range n).map fun i => (cs.drop (i * s)).take s).flatten = cs := by
  intro n
  induction n with
  | zero => intro cs h; simp at h; simp [h]
  | succ n ih =>
    intro cs h
    rw [List.range_succ_eq_map, List.map_cons, List.flatten_cons, List.map_map]
    have h1 := ih (cs.drop s) (by rw [List.length_drop, h, Nat.add_mul]; omega)
    have : (fun i => (cs.drop (i * s)).take s) ∘ Nat.succ = fun i => ((cs.drop s).drop (i * s)).take s := by
      funext i; simp [List.drop_drop, Nat.succ_mul, Nat.add_comm]
    rw [this, h1]
    simp

theorem Typ.arr {t e : TypeId} {n s hh : Nat} {cs : List Value} (hu : P.underlying t = some (.array n e)) (hc : P.cellsOf t = n * s) (hs : P.cellsOf e = s) (hl : cs.length = n * s)
    (h : ∀ i, i < n → Typ P hh e ((cs.drop (i * s)).take s)) : Typ P (hh + 1) t cs := by
  have hch := chunks s n cs hl
  refine ⟨fun D hD => ?_, fun v hv => ?_, by rw [hl, hc]⟩
  · obtain ⟨D, rfl⟩ : ∃ d, D = d + 1 := ⟨D - 1, by omega⟩
    unfold Program.keyLits
    simp only [hu]
    rw [if_pos (by rw [hl, hc]), hs, mapM_range_some _ (fun i => ((cs.drop (i * s)).take s).map litV) n (fun i hi => (h i hi).lits D (by omega))]
    simp only [Option.map_some]
    congr 1
    conv => rhs; rw [← hch]
    rw [List.map_flatten, List.map_map]; rfl
  · rw [← hch] at hv
    obtain ⟨l, hl', hv'⟩ := List.mem_flatten.1 hv
    obtain ⟨i, hi, rfl⟩ := List.mem_map.1 hl'
    exact (h i (by simpa using hi)).pl v hv'

theorem Typ.arr1 {t e : TypeId} {n : Nat} {k : IntKind} {cs : List Value} (hu : P.underlying t = some (.array n e)) (hc : P.cellsOf t = n) (he : P.underlying e = some (.int k)) (hce : P.cellsOf e = 1) (hl : cs.length = n)
    (h : ∀ v ∈ cs, ∃ x, v = .int k x ∧ (Lit.int k x).wf = true) : Typ P 2 t cs := by
  refine Typ.arr (s := 1) hu (by simpa using hc) hce (by simpa using hl) fun i hi => ?_
  rw [Nat.mul_one]
  have : (cs.drop i).take 1 = [cs[i]'(by omega)] := by
    rw [List.drop_eq_getElem_cons (by omega)]; rfl
  rw [this]
  obtain ⟨x, e, hw⟩ := h (cs[i]'(by omega)) (List.getElem_mem _)
  rw [e]; exact Typ.int he hce hw

theorem Typ.u8s {t e : TypeId} {n : Nat} {bs : List UInt8} (hu : P.underlying t = some (.array n e)) (hc : P.cellsOf t = n) (he : P.underlying e = some (.int .u8)) (hce : P.cellsOf e = 1) (hl : bs.length = n) : Typ P 2 t (bs.map vu8) :=
  Typ.arr1 hu hc he hce (by simpa using hl) fun v hv => by
    obtain ⟨x, _, rfl⟩ := List.mem_map.1 hv
    exact ⟨_, rfl, wfu8 x⟩
theorem Typ.u32s {t e : TypeId} {n : Nat} {bs : List UInt32} (hu : P.underlying t = some (.array n e)) (hc : P.cellsOf t = n) (he : P.underlying e = some (.int .u32)) (hce : P.cellsOf e = 1) (hl : bs.length = n) : Typ P 2 t (bs.map vu32) :=
  Typ.arr1 hu hc he hce (by simpa using hl) fun v hv => by
    obtain ⟨x, _, rfl⟩ := List.mem_map.1 hv
    exact ⟨_, rfl, wfu32 x⟩
theorem Typ.u64s {t e : TypeId} {n : Nat} {bs : List UInt64} (hu : P.underlying t = some (.array n e)) (hc : P.cellsOf t = n) (he : P.underlying e = some (.int .u64)) (hce : P.cellsOf e = 1) (hl : bs.length = n) : Typ P 2 t (bs.map vu64) :=
  Typ.arr1 hu hc he hce (by simpa using hl) fun v hv => by
    obtain ⟨x, _, rfl⟩ := List.mem_map.1 hv
    exact ⟨_, rfl, wfu64 x⟩

/-- the fields of a struct, one behind the other -/
inductive TypF (P : Program) (h : Nat) : Nat → List Field → List Sgm → Prop
  | nil {o : Nat} : TypF P h o [] []
  | cons {o k h' : Nat} {f : Field} {fs : List Field} {c : List Value} {r : List Sgm} (ho : f.offset = o) (hn : (f.name != "_") = true) (hh : h' ≤ h) (hk : c.length = k) (ht : Typ P h' f.type c) (hr : TypF P h (o + k) fs r) : TypF P h o (f :: fs) ((k, c) :: r)

theorem TypF.run {h : Nat} {o : Nat} {fs : List Field} {r : List Sgm} (hf : TypF P h o fs r) (D : Nat) (hD : h ≤ D) (pre : List Value) (hp : pre.length = o) :
    fs.mapM (fun f => P.keyLits D f.type (((pre ++ flat r).drop f.offset).take (P.cellsOf f.type))) = some (r.map fun s => s.2.map litV) ∧ (∀ f ∈ fs, (f.name != "_") = true) ∧ (∀ v ∈ flat r, Pl v) := by
  induction hf generalizing pre with
  | nil => exact ⟨rfl, by simp, by simp [flat]⟩
  | @cons o k h' f fs c r ho hn hh hk ht hr ih =>
    obtain ⟨h1, h2, h3⟩ := ih (pre ++ c) (by simp [hp, hk])
    refine ⟨?_, ?_, ?_⟩
    · rw [List.mapM_cons]
      have e : (((pre ++ flat ((k, c) :: r)).drop f.offset).take (P.cellsOf f.type)) = c := by
        rw [ho, ← hp, List.drop_left, flat_cons, ← ht.len, List.take_left]
      rw [e, ht.lits D (by omega)]
      have e2 : pre ++ flat ((k, c) :: r) = pre ++ c ++ flat r := by rw [flat_cons, List.append_assoc]
      rw [e2, h1]; rfl
    · intro g hg
      rcases List.mem_cons.1 hg with rfl | hg
      · exact hn
      · exact h2 g hg
    · intro v hv
      rw [flat_cons] at hv
      exact (List.mem_append.1 hv).elim (ht.pl v) (h3 v)

theorem flat_flatten (r : List Sgm) : flat r = (r.map (·.2)).flatten := by
  induction r with
  | nil => rfl
  | cons s r ih => rw [flat_cons, ih]; simp

theorem Typ.struct {t : TypeId} {fs : Array Field} {h : Nat} {r : List Sgm} {cs : List Value} (hu : P.underlying t = some (.struct fs)) (hf : TypF P h 0 fs.toList r) (hcs : flat r = cs) (hl : cs.length = P.cellsOf t) : Typ P (h + 1) t cs := by
  subst hcs
  refine ⟨fun D hD => ?_, (hf.run h (Nat.le_refl _) [] rfl).2.2, hl⟩
  obtain ⟨D, rfl⟩ : ∃ d, D = d + 1 := ⟨D - 1, by omega⟩
  obtain ⟨h1, h2, _⟩ := hf.run D (by omega) [] rfl
  simp only [List.nil_append] at h1
  have hall : fs.all (fun f => f.name != "_") = true := Array.all_eq_true_iff_forall_mem.2 fun f hf => h2 f (Array.mem_toList_iff.2 hf)
  unfold Program.keyLits
  simp only [hu]
  rw [if_pos ⟨hl, hall⟩, h1]
  simp only [Option.map_some, flat_flatten, List.map_flatten, List.map_map]; rfl

variable {n : Nat} {ops : Array Oper} {F : Fr} {w : World} {dst : Option Tmp} {g : Option (Nat × Bool)} {ty : TypeId} {pos : String} {after : Array Edge}

theorem equal_of {t : TypeId} {m h h' : Nat} {xs ys : List Value} (hk : P.keyTypeAt m t = true) (hm : m ≤ 10000) (hu : (match P.underlying t with | some (.array _ _) | some (.struct _) => true | _ => false) = true) (hx : Typ P h t xs) (hy : Typ P h' t ys) :
    ∃ r : Bool, (Op.equalIn 10000 t (.agg ⟨xs⟩) (.agg ⟨ys⟩)).run P w = .ok r w ∧ (r = true ↔ xs = ys) := by
  have fx : ∀ cs : List Value, cs.length = P.cellsOf t → (Value.agg ⟨cs⟩).formed P t = true := by
    intro cs hl
    unfold Value.formed
    split at hu <;> simp_all
  have := run_equalIn_deep (P := P) (10000 - m) m t hk w _ _ (.agg ⟨xs⟩) (.agg ⟨ys⟩) _ _ (fx xs hx.len) (fx ys hy.len) (hx.lits h (Nat.le_refl _)) (hy.lits h' (Nat.le_refl _))
  rw [show 10000 - m + m = 10000 by omega] at this
  obtain ⟨r, h1, h2⟩ := this
  exact ⟨r, h1, h2.trans ⟨litVs_inj hx.pl hy.pl, fun e => by rw [e]⟩⟩

def aggB (P : Program) (T : TypeId) : Bool := match P.underlying T with | some (.array _ _) | some (.struct _) => true | _ => false

theorem R.eqA {T T' : TypeId} {x y : Operand} {m h h' : Nat} {xs ys : List Value} {r : Bool} (hx : evO F x = .agg ⟨xs⟩) (hy : evO F y = .agg ⟨ys⟩) (hg : P.eqGuardType P.depth T = false) (hk : P.keyTypeAt m T = true) (hm : Nat.ble m 10000 = true)
    (hu : aggB P T = true) (tx : Typ P h T xs) (ty' : Typ P h' T ys) (hr : (xs = ys) = (r = true)) :
    (execOp (evO F) ⟨dst, .binOp .eql T x y T', ty, pos, after, g⟩).run P w = .ok (.value (.bool r)) w := by
  obtain ⟨r', h1, h2⟩ := equal_of (w := w) hk (Nat.le_of_ble_eq_true hm) hu tx ty'
  have : r' = r := by rw [Bool.eq_iff_iff, h2, hr]
  subst this
  simp only [execOp, hx, hy, Sem.run_bind, run_eqGuard_agg _ _ _ _ _ _ _ hg, Result.andThen_ok, run_eql_struct, h1, Sem.run_pure]

theorem R.neA {T T' : TypeId} {x y : Operand} {m h h' : Nat} {xs ys : List Value} {r : Bool} (hx : evO F x = .agg ⟨xs⟩) (hy : evO F y = .agg ⟨ys⟩) (hg : P.eqGuardType P.depth T = false) (hk : P.keyTypeAt m T = true) (hm : Nat.ble m 10000 = true)
    (hu : aggB P T = true) (tx : Typ P h T xs) (ty' : Typ P h' T ys) (hr : (xs = ys) = (r = false)) :
    (execOp (evO F) ⟨dst, .binOp .neq T x y T', ty, pos, after, g⟩).run P w = .ok (.value (.bool r)) w := by
  obtain ⟨r', h1, h2⟩ := equal_of (w := w) hk (Nat.le_of_ble_eq_true hm) hu tx ty'
  have : (!r') = r := by
    cases r <;> cases r' <;> simp_all
  subst this
  simp only [execOp, hx, hy, Sem.run_bind, run_eqGuard_agg _ _ _ _ _ _ _ hg, Result.andThen_ok, run_neq_struct, h1, Sem.run_pure]

theorem map_inj_u8 {a b : List UInt8} : (a.map vu8 = b.map vu8) = (a = b) := by
  refine propext ⟨fun h => ?_, fun h => by rw [h]⟩
  refine List.map_inj_right (f := vu8) ?_ |>.1 h
  intro x y h; simp at h; exact UInt8.toNat_inj.1 (by omega)
theorem map_inj_u32 {a b : List UInt32} : (a.map vu32 = b.map vu32) = (a = b) := by
  refine propext ⟨fun h => ?_, fun h => by rw [h]⟩
  refine List.map_inj_right (f := vu32) ?_ |>.1 h
  intro x y h; simp at h; exact UInt32.toNat_inj.1 (by omega)
theorem map_inj_u64 {a b : List UInt64} : (a.map vu64 = b.map vu64) = (a = b) := by
  refine propext ⟨fun h => ?_, fun h => by rw [h]⟩
  refine List.map_inj_right (f := vu64) ?_ |>.1 h
  intro x y h; simp at h; exact UInt64.toNat_inj.1 (by omega)
end
end Go.Vc
