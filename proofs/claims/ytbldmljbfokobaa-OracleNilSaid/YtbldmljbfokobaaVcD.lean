/- Loads, stores and new blocks: rules for walks, proved here for every program of the model. Conditions: none beyond what each theorem states. -/
import Derived.Test.YtbldmljbfokobaaVcC
set_option linter.unusedVariables false
set_option linter.unusedSimpArgs false
namespace Go.Vc
open Go.RowKit

theorem CellsAt.cell {w : World} {b : Nat} {T : TypeId} {cs : List Value} (h : CellsAt w b T cs) (i : Nat) : w.cell? ⟨b, i, none⟩ = cs[i]? := by
  obtain ⟨fz, _, hh⟩ := h
  simp [World.cell?, hh]
theorem CellsAt.frozen {w : World} {b : Nat} {T : TypeId} {cs : List Value} (h : CellsAt w b T cs) {i : Nat} (hi : i < cs.length) : w.frozen? ⟨b, i, none⟩ = false := by
  obtain ⟨⟨lo, hi'⟩, hf, hh⟩ := h
  have := hf.2 i hi
  simp [World.frozen?, hh] at this ⊢
  omega
theorem CellsAt.view {w : World} {b : Nat} {T : TypeId} {cs : List Value} (h : CellsAt w b T cs) (i : Nat) : View w (some ⟨b, i, none⟩) (cs.drop i) := by
  intro j v hv
  refine ⟨_, rfl, ?_⟩
  have e : (⟨b, i, none⟩ : Addr).add j = ⟨b, i + j, none⟩ := by unfold Addr.add; split <;> simp_all
  rw [e, h.cell]
  simpa using hv

theorem View.take {w : World} {a : Option Addr} {xs : List Value} (h : View w a xs) (k : Nat) : View w a (xs.take k) := by
  intro i v hv
  rw [List.getElem?_take] at hv
  split at hv
  · exact h i v hv
  · cases hv

theorem View.drop {w : World} {a : Option Addr} {xs : List Value} (h : View w a xs) (k : Nat) : View w (a.map (·.add k)) (xs.drop k) := by
  intro i v hv
  rw [List.getElem?_drop] at hv
  obtain ⟨ad, rfl, hc⟩ := h _ v hv
  refine ⟨_, rfl, ?_⟩
  have e : (ad.add k).add i = ad.add (k + i) := by
    unfold Addr.add
    by_cases hk : k = 0 <;> by_cases hi : i = 0 <;> simp [hk, hi, Nat.add_assoc]
  rw [e]; exact hc

theorem View.same {w w' : World} {a : Option Addr} {xs : List Value} (h : View w a xs) (hs : ∀ ad, a = some ad → xs ≠ [] → w'.heap[ad.block]? = w.heap[ad.block]?) : View w' a xs := by
  intro i v hv
  obtain ⟨ad, rfl, hc⟩ := h i v hv
  refine ⟨ad, rfl, ?_⟩
  rw [World.cell?_of_block (w := w) (by rw [Addr.add_block]; exact hs ad rfl (by rintro rfl; simp at hv))]
  exact hc

theorem View.chg {w w' : World} {a : Option Addr} {xs : List Value} {S : List Nat} (h : View w a xs) (hc : Chg w w' S) (hs : ∀ ad, a = some ad → ad.block ∉ S) : View w' a xs := by
  refine h.same fun ad ha hx => hc.block _ ?_ (hs ad ha)
  obtain ⟨x, r, rfl⟩ := List.exists_cons_of_ne_nil hx
  obtain ⟨ad', e, hcell⟩ := h 0 x rfl
  rw [ha] at e; cases e
  have := block_lt_of_cell hcell
  simpa [Addr.add_block] using this

theorem View.cells {w : World} {a : Addr} {xs : List Value} (h : View w (some a) xs) : ∀ j u, xs[j]? = some u → w.cell? (a.add j) = some u := by
  intro j u hu
  obtain ⟨ad, e, hc⟩ := h j u hu
  cases e; exact hc

theorem Own.view {B : Nat} {w : World} {T : TypeId} {s : Nat} {a : Option Addr} {n cap : Nat} {xs : List Value} (h : Own B w T s a n cap xs) : View w a xs := by
  obtain ⟨h1, _, _, _, ⟨rfl, rfl, _⟩ | ⟨g, cur, rfl, _, hc, _, ht⟩⟩ := h
  · have : xs = [] := by cases xs <;> simp_all
    subst this; exact View.nil _ _
  · have := (hc.view 0).take (n * s)
    simpa [ht] using this

theorem cells_setCell {w : World} {b : Nat} {T : TypeId} {cs : List Value} {i : Nat} {v : Value} (h : CellsAt w b T cs) : CellsAt (w.setCell ⟨b, i, none⟩ v) b T (cs.set i v) := by
  obtain ⟨fz, hf, hh⟩ := h
  refine ⟨fz, by simpa using hf, ?_⟩
  simp only [World.setCell, Array.getElem?_modify, if_true, hh]
  simp

theorem addr_add (b off j : Nat) : (⟨b, off, none⟩ : Addr).add j = ⟨b, off + j, none⟩ := by
  unfold Addr.add
  by_cases h : j = 0
  · simp [h]
  · simp [h]

theorem chg_setCell (w : World) (b o : Nat) (v : Value) : Chg w (w.setCell ⟨b, o, none⟩ v) [b] :=
  ⟨rfl, rfl, rfl, by simp [World.setCell], fun k _ hs => Below.heap_setCell _ _ _ _ (by simpa using hs)⟩

theorem set_at {α : Type} (pre post : List α) (x v : α) : (pre ++ x :: post).set pre.length v = pre ++ v :: post := by
  induction pre with
  | nil => rfl
  | cons a r ih => simp [ih]

theorem run_storeCells (P : Program) (b o : Nat) (T : TypeId) : ∀ (vs : List Value) (i : Nat) (pre post : List Value) (w : World), CellsAt w b T (pre ++ post) → pre.length = o + i → vs.length ≤ post.length → (∀ v ∈ vs, v.oneCell' = true) →
    ∃ w', (storeCells ⟨b, o, none⟩ vs i).run P w = .ok () w' ∧ CellsAt w' b T (pre ++ vs ++ post.drop vs.length) ∧ Chg w w' [b]
  | [], i, pre, post, w, h, _, _, _ => ⟨w, rfl, by simpa using h, Chg.refl _ _⟩
  | v :: vs, i, pre, post, w, h, hp, hl, h1 => by
    cases post with
    | nil => simp at hl
    | cons x post =>
      have hc : w.cell? ⟨b, o + i, none⟩ = some x := by rw [h.cell, show o + i = pre.length from hp.symm]; simp
      have hf : w.frozen? ⟨b, o + i, none⟩ = false := h.frozen (by rw [show o + i = pre.length from hp.symm]; simp)
      have h' := cells_setCell (i := o + i) (v := v) h
      rw [show o + i = pre.length from hp.symm, set_at] at h'
      have e : pre ++ v :: post = (pre ++ [v]) ++ post := by simp
      rw [e] at h'
      obtain ⟨w', hr, hcells, hch⟩ := run_storeCells P b o T vs (i + 1) (pre ++ [v]) post _ h' (by rw [List.length_append, hp]; rfl) (by simpa using hl) (fun u hu => h1 u (List.mem_cons_of_mem _ hu))
      refine ⟨w', ?_, by simpa using hcells, Chg.trans (chg_setCell w b pre.length v) hch⟩
      have ea : (⟨b, o, none⟩ : Addr).add i = ⟨b, pre.length, none⟩ := by rw [hp]; exact addr_add b o i
      simp only [storeCells, Sem.run_bind]
      rw [run_store _ _ _ _ _ (h1 v (List.mem_cons_self ..)), ea, show w.cell? ⟨b, pre.length, none⟩ = some x by rw [hp]; exact hc, show w.frozen? ⟨b, pre.length, none⟩ = false by rw [hp]; exact hf]
      simp only [Bool.false_eq_true, if_false, Result.andThen_ok]
      exact hr

section
variable {P : Program} {n : Nat} {ops : Array Oper} {Q : Exit → Fr → World → Prop} {rest : List Oper} {F : Fr} {w w' w0 : World} {L L' : List Ent}
variable {ty : TypeId} {pos : String} {after : Array Edge} {dst : Option Tmp} {g : Option (Nat × Bool)}

theorem HP.blk (h : HP w0 w L) {b m T segs} (hm : Ent.blk b m T segs ∈ L) : SsOk segs ∧ CellsAt w b T (flat segs) := ⟨(h.ok _ hm).1, (h.ok _ hm).2.1⟩
theorem ownView {B a n cap T s xs} (he : (Ent.row a n cap T s xs).ok B w) : View w a xs := Own.view he
theorem viewV {B a xs} (he : (Ent.view a xs).ok B w) : View w a xs := he.1
theorem HP.own (h : HP w0 w L) {a n cap T s xs} (hm : Ent.row a n cap T s xs ∈ L) : Own w0.heap.size w T s a n cap xs := h.ok _ hm
theorem HP.view (h : HP w0 w L) {a xs} (hm : Ent.view a xs ∈ L) : View w a xs := (h.ok _ hm).1

/-- a segment at its offset -/
inductive Sg (x x' : Sgm) : Nat → List Sgm → List Sgm → Prop
  | h {r : List Sgm} : Sg x x' 0 (x :: r) (x' :: r)
  | t {s : Sgm} {r r' : List Sgm} {off off' : Nat} (e : off = s.1 + off') : Sg x x' off' r r' → Sg x x' off (s :: r) (s :: r')

theorem Sg.split {x x' : Sgm} {off : Nat} {l l' : List Sgm} (h : Sg x x' off l l') : ∃ pre post, l = pre ++ x :: post ∧ l' = pre ++ x' :: post ∧ lenS pre = off := by
  induction h with
  | h => exact ⟨[], _, rfl, rfl, rfl⟩
  | t e _ ih =>
    obtain ⟨pre, post, rfl, rfl, he⟩ := ih
    exact ⟨_ :: pre, post, rfl, rfl, by simp only [lenS, he, e]⟩

theorem Sg.ok {x x' : Sgm} {off : Nat} {l l' : List Sgm} (h : Sg x x' off l l') (hs : SsOk l) : SOk x := by
  obtain ⟨pre, post, rfl, _⟩ := h.split; exact hs.right.head

theorem Sg.ok' {x x' : Sgm} {off : Nat} {l l' : List Sgm} (h : Sg x x' off l l') (hs : SsOk l) (hx : SOk x') : SsOk l' := by
  obtain ⟨pre, post, rfl, rfl, _⟩ := h.split; exact hs.left.app (SsOk.cons hx hs.right.tail)

theorem Sg.flat {x x' : Sgm} {off : Nat} {l l' : List Sgm} (h : Sg x x' off l l') (hs : SsOk l) : ∃ A B, flat l = A ++ (x.2 ++ B) ∧ Go.Vc.flat l' = A ++ (x'.2 ++ B) ∧ A.length = off := by
  obtain ⟨pre, post, rfl, rfl, he⟩ := h.split
  exact ⟨Go.Vc.flat pre, Go.Vc.flat post, by rw [flat_append, flat_cons], by rw [flat_append, flat_cons], by rw [hs.left.len, he]⟩

theorem Sg.get {x : Sgm} {off : Nat} {l : List Sgm} (h : Sg x x off l l) (hs : SsOk l) (i : Nat) (v : Value) (hv : x.2[i]? = some v) : (Go.Vc.flat l)[off + i]? = some v := by
  obtain ⟨A, B, e, _, hl⟩ := h.flat hs
  have hi : i < x.2.length := (List.getElem?_eq_some_iff.1 hv).1
  rw [e, ← hl, List.getElem?_append_right (by omega), Nat.add_sub_cancel_left, List.getElem?_append_left hi]
  exact hv

/-- a view into a segment of a block -/
theorem viewB {B b m T segs off K cs} (he : (Ent.blk b m T segs).ok B w) (hs : Sg (K, cs) (K, cs) off segs segs) : View w (some ⟨b, off, none⟩) cs := by
  obtain ⟨ok, hc, _⟩ := he
  obtain ⟨A, B, e, _, hl⟩ := hs.flat ok
  have := (hc.view off).take cs.length
  rw [e, ← hl] at this
  simpa [hl] using this

theorem run_loadVar1 {T : TypeId} {a : Addr} {v : Value} (hT : ∀ w, (isAgg T).run P w = .ok false w) (hc : w.cell? a = some v) : (loadVar T a).run P w = .ok v w := by
  simp [loadVar, hT, hc]
theorem run_loadVarA {T : TypeId} {a : Addr} {cs : List Value} {z : Nat} (hT : ∀ w, (isAgg T).run P w = .ok true w) (hz : ∀ w, (sizeOf T).run P w = .ok z w) (hl : cs.length = z)
    (hc : ∀ j v, cs[j]? = some v → w.cell? (a.add j) = some v) : (loadVar T a).run P w = .ok (.agg ⟨cs⟩) w := by
  subst hl
  simp [loadVar, hT, hz, run_loadCells_list w a cs hc]

theorem R.load1 {b off : Nat} {m : Md} {T Tb : TypeId} {x : Operand} {segs : List Sgm} {v : Value} {B : Nat} (hx : evO F x = .pointer (some ⟨b, off, none⟩)) (hT : ∀ w, (isAgg T).run P w = .ok false w)
    (he : (Ent.blk b m Tb segs).ok B w) (hs : Sg (1, [v]) (1, [v]) off segs segs) : (execOp (evO F) ⟨dst, .load T x, ty, pos, after, g⟩).run P w = .ok (.value v) w := by
  obtain ⟨ok, hc, _⟩ := he
  have hcell : w.cell? ⟨b, off, none⟩ = some v := by rw [hc.cell]; exact hs.get ok 0 v rfl
  simp [execOp, hx, Instr.loadAt, Instr.sureAddr, run_loadVar1 hT hcell]

theorem R.loadE {b off base i K : Nat} {m : Md} {T Tb : TypeId} {x : Operand} {segs : List Sgm} {cs : List Value} {v : Value} {B : Nat} (hx : evO F x = .pointer (some ⟨b, off, none⟩)) (hT : ∀ w, (isAgg T).run P w = .ok false w)
    (he : (Ent.blk b m Tb segs).ok B w) (hs : Sg (K, cs) (K, cs) base segs segs) (hoff : off = base + i) (hv : cs[i]? = some v) : (execOp (evO F) ⟨dst, .load T x, ty, pos, after, g⟩).run P w = .ok (.value v) w := by
  obtain ⟨ok, hc, _⟩ := he
  have hcell : w.cell? ⟨b, off, none⟩ = some v := by rw [hc.cell, hoff]; exact hs.get ok i v hv
  simp [execOp, hx, Instr.loadAt, Instr.sureAddr, run_loadVar1 hT hcell]

theorem R.loadA {b off z : Nat} {m : Md} {T Tb : TypeId} {x : Operand} {segs : List Sgm} (pre mid post : List Sgm) {cs : List Value} {B : Nat} (hx : evO F x = .pointer (some ⟨b, off, none⟩)) (hT : ∀ w, (isAgg T).run P w = .ok true w)
    (hz : ∀ w, (sizeOf T).run P w = .ok z w) (he : (Ent.blk b m Tb segs).ok B w) (hsp : segs = pre ++ (mid ++ post)) (hoff : lenS pre = off) (hl : lenS mid = z) (hcs : flat mid = cs) : (execOp (evO F) ⟨dst, .load T x, ty, pos, after, g⟩).run P w = .ok (.value (.agg ⟨cs⟩)) w := by
  obtain ⟨ok, hc, _⟩ := he
  subst hsp
  have hcell : ∀ j v, cs[j]? = some v → w.cell? ((⟨b, off, none⟩ : Addr).add j) = some v := by
    intro j v hv
    rw [addr_add, hc.cell, flat_append, flat_append, hcs, ← hoff, ← ok.left.len]
    have hj : j < cs.length := (List.getElem?_eq_some_iff.1 hv).1
    rw [List.getElem?_append_right (by omega), Nat.add_sub_cancel_left, List.getElem?_append_left hj]
    exact hv
  have hlen : cs.length = z := by rw [← hcs, ok.right.left.len, hl]
  simp [execOp, hx, Instr.loadAt, Instr.sureAddr, run_loadVarA hT hz hlen hcell]

/-- an aggregate out of the middle of one segment (an array of arrays) -/
theorem R.loadEA {b off base i z K : Nat} {m : Md} {T Tb : TypeId} {x : Operand} {segs : List Sgm} {cs xs : List Value} {B : Nat} (hx : evO F x = .pointer (some ⟨b, off, none⟩)) (hT : ∀ w, (isAgg T).run P w = .ok true w)
    (hz : ∀ w, (sizeOf T).run P w = .ok z w) (he : (Ent.blk b m Tb segs).ok B w) (hs : Sg (K, cs) (K, cs) base segs segs) (hoff : off = base + i) (hxs : (cs.drop i).take z = xs) (hl : xs.length = z) :
    (execOp (evO F) ⟨dst, .load T x, ty, pos, after, g⟩).run P w = .ok (.value (.agg ⟨xs⟩)) w := by
  obtain ⟨ok, hc, _⟩ := he
  have hv : View w (some ⟨b, base, none⟩) cs := by
    obtain ⟨A, B, e, _, hl⟩ := hs.flat ok
    have := (hc.view base).take cs.length
    rw [e, ← hl] at this
    simpa [hl] using this
  have hcell : ∀ j v, xs[j]? = some v → w.cell? ((⟨b, off, none⟩ : Addr).add j) = some v := by
    have := (hv.drop i).take z
    rw [hxs] at this
    simp only [Option.map_some, addr_add, ← hoff] at this
    exact this.cells
  simp [execOp, hx, Instr.loadAt, Instr.sureAddr, run_loadVarA hT hz hl hcell]

/-! stores -/
theorem store_core {T Tb : TypeId} {b off : Nat} {m : Md} {segs segs' : List Sgm} {y : Value} {A X Y B : List Value} {z : Nat} (h : HP w0 w L) (hat : At (.blk b m Tb segs) (.blk b m Tb segs') L L') (hmut : m ≠ .ro)
    (hz : ∀ w, (sizeOf T).run P w = .ok z w) (hy : y.cells = ⟨Y⟩) (hyz : Y.length = z) (h1 : ∀ v ∈ Y, v.oneCell' = true) (e : flat segs = A ++ (X ++ B)) (hA : A.length = off) (hX : X.length = Y.length) (e' : flat segs' = A ++ (Y ++ B)) (hok' : SsOk segs') :
    ∃ w', (Instr.storeAt T (.pointer (some ⟨b, off, none⟩)) y).run P w = .ok () w' ∧ HP w0 w' L' := by
  obtain ⟨ok, hc⟩ := h.blk hat.mem
  rw [e] at hc
  obtain ⟨w', hr, hcs, hch⟩ := run_storeCells P b off Tb Y 0 A (X ++ B) w hc (by simpa using hA) (by simp [hX]) h1
  refine ⟨w', ?_, ?_⟩
  · simp [Instr.storeAt, Instr.sureAddr, storeVar, hy, hz, hyz, hr]
  · refine h.set hat (by simp [Ent.mut, hmut]) (by simpa [Ent.blocks] using hch) ⟨hok', ?_, (h.ok _ hat.mem).2.2⟩ (fun b' hb => .inl hb) (fun ha => ⟨ha, rfl⟩) (fun ha b' hb => ?_)
    · rw [e']
      have : A ++ (Y ++ B) = A ++ Y ++ List.drop Y.length (X ++ B) := by simp [← hX]
      rw [this]; exact hcs
    · simp only [Ent.blocks, List.mem_singleton] at hb
      subst hb
      have := (h.ok _ hat.mem).2.2
      cases m with
      | ro => exact absurd rfl hmut
      | ar => simp [Ent.isAr] at ha
      | nw => exact this

theorem Value.cells_one {v : Value} (h : v.oneCell' = true) : v.cells = ⟨[v]⟩ := by cases v <;> first | rfl | cases h

theorem WL.store1 {b off : Nat} {m : Md} {T Tb : TypeId} {x y : Operand} {segs segs' : List Sgm} {u v : Value} (h : HP w0 w L) (hx : evO F x = .pointer (some ⟨b, off, none⟩)) (hy : evO F y = v) (hT : ∀ w, (sizeOf T).run P w = .ok 1 w) (h1 : v.oneCell' = true)
    (hat : At (.blk b m Tb segs) (.blk b m Tb segs') L L') (hmut : m ≠ .ro) (hs : Sg (1, [u]) (1, [v]) off segs segs')
    (k : ∀ w', HP w0 w' L' → WL P n ops Q rest F w') : WL P n ops Q (⟨none, .store T x y, ty, pos, after, none⟩ :: rest) F w := by
  obtain ⟨ok, hc⟩ := h.blk hat.mem
  obtain ⟨A, B, e, e', hl⟩ := hs.flat ok
  obtain ⟨w', hr, hh⟩ := store_core (P := P) h hat hmut hT (Value.cells_one h1) rfl (by simpa using h1) e hl rfl e' (hs.ok' ok (SOk.v h1))
  exact WL.unit rfl rfl (by simp [execOp, hx, hy, hr]) (k w' hh)

theorem set_split {α : Type} {cs : List α} {i : Nat} {u : α} (h : cs[i]? = some u) (v : α) : ∃ A B, cs = A ++ u :: B ∧ cs.set i v = A ++ v :: B ∧ A.length = i := by
  obtain ⟨hi, hu⟩ := List.getElem?_eq_some_iff.1 h
  refine ⟨cs.take i, cs.drop (i + 1), ?_, ?_, by simp; omega⟩
  · rw [← hu]; simp
  · rw [List.set_eq_take_append_cons_drop, if_pos hi]

theorem WL.storeE {b off base i K : Nat} {m : Md} {T Tb : TypeId} {x y : Operand} {segs segs' : List Sgm} {cs cs' : List Value} {v : Value} (h : HP w0 w L) (hx : evO F x = .pointer (some ⟨b, off, none⟩)) (hy : evO F y = v) (hT : ∀ w, (sizeOf T).run P w = .ok 1 w) (h1 : v.oneCell' = true)
    (hat : At (.blk b m Tb segs) (.blk b m Tb segs') L L') (hmut : m ≠ .ro) (hs : Sg (K, cs) (K, cs') base segs segs') (hoff : off = base + i) (hi : i < cs.length) (hcs : cs.set i v = cs')
    (k : ∀ w', HP w0 w' L' → WL P n ops Q rest F w') : WL P n ops Q (⟨none, .store T x y, ty, pos, after, none⟩ :: rest) F w := by
  obtain ⟨ok, hc⟩ := h.blk hat.mem
  obtain ⟨A, B, e, e', hl⟩ := hs.flat ok
  obtain ⟨u, hu⟩ : ∃ u, cs[i]? = some u := ⟨_, List.getElem?_eq_getElem hi⟩
  obtain ⟨C, D, f, f', hC⟩ := set_split hu v
  rw [hcs] at f'
  have hsok := hs.ok ok
  have hok' : SOk (K, cs') := ⟨by rw [← hcs]; simpa using hsok.len, fun z hz => by
    rw [f'] at hz
    rcases List.mem_append.1 hz with hz | hz
    · exact hsok.one z (by simp [f, hz])
    · rcases List.mem_cons.1 hz with rfl | hz
      · exact h1
      · exact hsok.one z (by simp [f, hz])⟩
  obtain ⟨w', hr, hh⟩ := store_core (P := P) (A := A ++ C) (X := [u]) (Y := [v]) (B := D ++ B) h hat hmut hT (Value.cells_one h1) rfl (by simpa using h1) (by rw [e, show (K, cs).2 = cs from rfl, f]; simp) (off := off) (by simp [hl, hC, hoff]) rfl (by rw [e', show (K, cs').2 = cs' from rfl, f']; simp) (hs.ok' ok hok')
  exact WL.unit rfl rfl (by simp [execOp, hx, hy, hr]) (k w' hh)

theorem WL.storeA {b off z : Nat} {m : Md} {T Tb : TypeId} {x y : Operand} {segs segs' : List Sgm} (pre mid mid' post : List Sgm) {ys : List Value} (h : HP w0 w L) (hx : evO F x = .pointer (some ⟨b, off, none⟩)) (hy : evO F y = .agg ⟨ys⟩) (hz : ∀ w, (sizeOf T).run P w = .ok z w)
    (hat : At (.blk b m Tb segs) (.blk b m Tb segs') L L') (hmut : m ≠ .ro) (hsp : segs = pre ++ (mid ++ post)) (hsp' : segs' = pre ++ (mid' ++ post)) (hoff : lenS pre = off) (hl : lenS mid = z) (hl' : lenS mid' = z) (hys : flat mid' = ys) (hok : SsOk mid')
    (k : ∀ w', HP w0 w' L' → WL P n ops Q rest F w') : WL P n ops Q (⟨none, .store T x y, ty, pos, after, none⟩ :: rest) F w := by
  obtain ⟨ok, hc⟩ := h.blk hat.mem
  subst hsp; subst hsp'
  obtain ⟨w', hr, hh⟩ := store_core (P := P) (y := .agg ⟨ys⟩) (Y := ys) (X := flat mid) (A := flat pre) (B := flat post) h hat hmut hz rfl (by rw [← hys, hok.len, hl']) (by rw [← hys]; exact hok.one) (by rw [flat_append, flat_append]) (by rw [ok.left.len, hoff]) (by rw [← hys, hok.len, ok.right.left.len, hl, hl']) (by rw [flat_append, flat_append, hys]) (ok.left.app (hok.app ok.right.right))
  exact WL.unit rfl rfl (by simp [execOp, hx, hy, hr]) (k w' hh)

/-- an aggregate into the middle of one segment -/
theorem WL.storeEA {b off base i z K : Nat} {m : Md} {T Tb : TypeId} {x y : Operand} {segs segs' : List Sgm} {cs cs' ys : List Value} (h : HP w0 w L) (hx : evO F x = .pointer (some ⟨b, off, none⟩)) (hy : evO F y = .agg ⟨ys⟩) (hz : ∀ w, (sizeOf T).run P w = .ok z w)
    (hat : At (.blk b m Tb segs) (.blk b m Tb segs') L L') (hmut : m ≠ .ro) (hs : Sg (K, cs) (K, cs') base segs segs') (hoff : off = base + i) (hl : ys.length = z) (hi : i + z ≤ cs.length) (h1 : ∀ v ∈ ys, v.oneCell' = true) (hcs : cs.take i ++ (ys ++ cs.drop (i + z)) = cs')
    (k : ∀ w', HP w0 w' L' → WL P n ops Q rest F w') : WL P n ops Q (⟨none, .store T x y, ty, pos, after, none⟩ :: rest) F w := by
  obtain ⟨ok, hc⟩ := h.blk hat.mem
  obtain ⟨A, B, e, e', hlA⟩ := hs.flat ok
  have hsok := hs.ok ok
  have hc0 : cs = cs.take i ++ ((cs.drop i).take z ++ cs.drop (i + z)) := by rw [← List.drop_drop, List.take_append_drop, List.take_append_drop]
  have hok' : SOk (K, cs') := ⟨by rw [← hcs, ← hsok.len]; simp [hl]; omega, fun v hv => by
    rw [← hcs] at hv
    rcases List.mem_append.1 hv with hv | hv
    · exact hsok.one v (List.mem_of_mem_take hv)
    · rcases List.mem_append.1 hv with hv | hv
      · exact h1 v hv
      · exact hsok.one v (List.mem_of_mem_drop hv)⟩
  obtain ⟨w', hr, hh⟩ := store_core (P := P) (y := .agg ⟨ys⟩) (Y := ys) (X := (cs.drop i).take z) (A := A ++ cs.take i) (B := cs.drop (i + z) ++ B) h hat hmut hz rfl hl h1 (off := off) (by rw [e]; exact (congrArg (fun t => A ++ (t ++ B)) hc0).trans (by simp only [List.append_assoc])) (by simp [hlA, hoff]; omega) (by simp [hl]; omega) (by rw [e', show (K, cs').2 = cs' from rfl, ← hcs]; simp) (hs.ok' ok hok')
  exact WL.unit rfl rfl (by simp [execOp, hx, hy, hr]) (k w' hh)

/-! new blocks -/
theorem new_core {v : Value} {T : TypeId} {segs : List Sgm} (h : HP w0 w L) (hv : v.cells = ⟨flat segs⟩) (ok : SsOk segs) :
    (newVar T v).run P w = .ok ⟨w.heap.size, 0, none⟩ (w.alloc (.cells ⟨flat segs⟩ T)) ∧ HP w0 (w.alloc (.cells ⟨flat segs⟩ T)) (.blk w.heap.size .nw T segs :: L) := by
  refine ⟨by simp [newVar, newRow, hv], ?_⟩
  refine h.push (Chg.alloc _ _ _) ⟨ok, ⟨(0, 0), Free.zero _, heap_alloc_new w _⟩, h.size⟩ rfl (fun b hb => ?_)
  simp only [Ent.blocks, List.mem_singleton] at hb; subst hb; exact Nat.le_refl _

theorem WL.alloc {d : Nat} {T : TypeId} {z : Value} {segs : List Sgm} (h : HP w0 w L) (hz : ∀ w, (zeroValue T).run P w = .ok z w) (hs : z.cells = ⟨flat segs⟩) (ok : SsOk segs) (hd : Nat.blt d n = true)
    (k : ∀ b w', HP w0 w' (.blk b .nw T segs :: L) → WL P n ops Q rest (upd F d (.pointer (some ⟨b, 0, none⟩))) w') : WL P n ops Q (⟨some d, .alloc T, ty, pos, after, none⟩ :: rest) F w := by
  obtain ⟨hr, hh⟩ := new_core (P := P) (T := T) h hs ok
  refine WL.val rfl rfl hd ?_ (k _ _ hh)
  simp [execOp, Instr.alloc, hz, hr]

theorem WL.box {d : Nat} {T : TypeId} {x : Operand} {v : Value} {segs : List Sgm} (h : HP w0 w L) (hx : evO F x = v) (hs : v.cells = ⟨flat segs⟩) (ok : SsOk segs) (hd : Nat.blt d n = true)
    (k : ∀ b w', HP w0 w' (.blk b .nw T segs :: L) → WL P n ops Q rest (upd F d (.pointer (some ⟨b, 0, none⟩))) w') : WL P n ops Q (⟨some d, .box T x, ty, pos, after, none⟩ :: rest) F w := by
  obtain ⟨hr, hh⟩ := new_core (P := P) (T := T) h hs ok
  refine WL.val rfl rfl hd ?_ (k _ _ hh)
  simp [execOp, Instr.box, hx, hr]

/-! addresses -/
theorem R.fieldAddr {b off off' f z : Nat} {S : TypeId} {x : Operand} {fs : Array Field} {fd : Field} (hx : evO F x = .pointer (some ⟨b, off, none⟩)) (hT : P.underlying S = some (.struct fs)) (hf : fs[f]? = some fd)
    (hz : ∀ w, (sizeOf fd.type).run P w = .ok z w) (hz0 : Nat.blt 0 z = true) (hoff : off' = off + fd.offset) : (execOp (evO F) ⟨dst, .fieldAddr S x f, ty, pos, after, g⟩).run P w = .ok (.value (.pointer (some ⟨b, off', none⟩))) w := by
  have hz1 : z ≠ 0 := by rintro rfl; cases hz0
  simp [execOp, hx, Instr.fieldAt, run_underlying hT, hf, Instr.sureAddr, fieldPlace, hz, hz1, addr_add, hoff]

theorem R.indexA {b off off' i len s : Nat} {T E : TypeId} {x y : Operand} {kd : IntKind} {iv : Int} (hx : evO F x = .pointer (some ⟨b, off, none⟩)) (hy : evO F y = .int kd iv) (hi : iv = (i : Int)) (hlt : i < len)
    (hT : P.underlying T = some (.array len E)) (hs : ∀ w, (sizeOf E).run P w = .ok s w) (hoff : off' = off + i * s) : (execOp (evO F) ⟨dst, .indexAddr T x y, ty, pos, after, g⟩).run P w = .ok (.value (.pointer (some ⟨b, off', none⟩))) w := by
  subst hi
  have hlt' : (i : Int) < (len : Int) := by omega
  have h0 : (0 : Int) ≤ i := by omega
  simp only [execOp, hx, hy, Instr.indexAt, asIntOf, Sem.run_bind, Sem.run_pure, Result.andThen_ok, run_underlying hT, Instr.sureAddr, h0, hlt', and_self, if_true, hs, Int.toNat_natCast, addr_add, hoff]

def gA (a : Option Addr) (i : Nat) : Addr := (a.getD ⟨0, 0, none⟩).add i

theorem R.indexS {i len cap s : Nat} {a : Option Addr} {xs : List Value} {T E : TypeId} {x y : Operand} {kd : IntKind} {iv : Int} {off : Nat} (hx : evO F x = .slice a len cap) (hy : evO F y = .int kd iv) (hi : iv = (i : Int)) (hlt : i < len) (hv : View w a xs) (hne : 0 < xs.length)
    (hT : P.underlying T = some (.slice E)) (hs : ∀ w, (sizeOf E).run P w = .ok s w) (hoff : off = i * s) : (execOp (evO F) ⟨dst, .indexAddr T x y, ty, pos, after, g⟩).run P w = .ok (.value (.pointer (some (gA a off)))) w := by
  subst hi
  obtain ⟨ad, rfl, _⟩ := hv 0 _ (List.getElem?_eq_getElem hne)
  have hlt' : (i : Int) < (len : Int) := by omega
  have h0 : (0 : Int) ≤ i := by omega
  simp only [execOp, hx, hy, Instr.indexAt, asIntOf, Sem.run_bind, Sem.run_pure, Result.andThen_ok, run_underlying hT, h0, hlt', and_self, if_true, hs, Int.toNat_natCast, gA, hoff, Option.getD_some]

theorem R.loadG {i : Nat} {T : TypeId} {x : Operand} {a : Option Addr} {xs : List Value} {v : Value} (hx : evO F x = .pointer (some (gA a i))) (hv : View w a xs) (hT : ∀ w, (isAgg T).run P w = .ok false w) (hvi : xs[i]? = some v) : (execOp (evO F) ⟨dst, .load T x, ty, pos, after, g⟩).run P w = .ok (.value v) w := by
  obtain ⟨ad, rfl, hc⟩ := hv i v hvi
  simp [execOp, hx, Instr.loadAt, Instr.sureAddr, gA, run_loadVar1 hT hc]

theorem R.loadGA {i z : Nat} {T : TypeId} {x : Operand} {a : Option Addr} {xs cs : List Value} (hx : evO F x = .pointer (some (gA a i))) (hv : View w a xs) (hT : ∀ w, (isAgg T).run P w = .ok true w) (hz : ∀ w, (sizeOf T).run P w = .ok z w)
    (hcs : (xs.drop i).take z = cs) (hl : cs.length = z) (hz0 : 0 < z) : (execOp (evO F) ⟨dst, .load T x, ty, pos, after, g⟩).run P w = .ok (.value (.agg ⟨cs⟩)) w := by
  have hv' := (hv.drop i).take z
  rw [hcs] at hv'
  have h0 : 0 < cs.length := by omega
  obtain ⟨ad, e, _⟩ := hv' 0 _ (List.getElem?_eq_getElem h0)
  cases a with
  | none => simp at e
  | some a0 =>
    simp only [Option.map_some] at hv'
    simp [execOp, hx, Instr.loadAt, Instr.sureAddr, gA, run_loadVarA hT hz hl hv'.cells]

end
end Go.Vc
