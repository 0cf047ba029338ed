/- What is known of memory: rules for walks, proved here for every program of the model. Conditions: none beyond what each theorem states. -/
import Derived.Test.YtbldmljbfokobaaVcB
set_option linter.unusedVariables false
set_option linter.unusedSimpArgs false
namespace Go.Vc
open Go.RowKit

/-! ## segments of a block -/
abbrev Sgm := Nat × List Value
def flat : List Sgm → List Value
  | [] => []
  | [s] => s.2
  | s :: t :: r => s.2 ++ flat (t :: r)
theorem flat_cons (s : Sgm) (r : List Sgm) : flat (s :: r) = s.2 ++ flat r := by cases r <;> simp [flat]
theorem flat_append (a b : List Sgm) : flat (a ++ b) = flat a ++ flat b := by
  induction a with
  | nil => simp [flat]
  | cons s r ih => rw [List.cons_append, flat_cons, flat_cons, ih, List.append_assoc]

structure SOk (s : Sgm) : Prop where
  len : s.2.length = s.1
  one : ∀ v ∈ s.2, v.oneCell' = true

theorem SOk.v {x : Value} (h : x.oneCell' = true) : SOk (1, [x]) := ⟨rfl, by simpa using h⟩
theorem SOk.u8 {k : Nat} {bs : List UInt8} (h : bs.length = k) : SOk (k, bs.map vu8) := ⟨by simpa using h, by simp [Value.oneCell']⟩
theorem SOk.u32 {k : Nat} {bs : List UInt32} (h : bs.length = k) : SOk (k, bs.map vu32) := ⟨by simpa using h, by simp [Value.oneCell']⟩
theorem SOk.u64 {k : Nat} {bs : List UInt64} (h : bs.length = k) : SOk (k, bs.map vu64) := ⟨by simpa using h, by simp [Value.oneCell']⟩

def SsOk (l : List Sgm) : Prop := ∀ s ∈ l, SOk s
theorem SsOk.nil : SsOk [] := fun _ h => by cases h
theorem SsOk.cons {s : Sgm} {r : List Sgm} (h : SOk s) (hr : SsOk r) : SsOk (s :: r) := fun x hx => by
  rcases List.mem_cons.1 hx with rfl | hx
  · exact h
  · exact hr x hx
theorem SsOk.head {s : Sgm} {r : List Sgm} (h : SsOk (s :: r)) : SOk s := h s (List.mem_cons_self ..)
theorem SsOk.tail {s : Sgm} {r : List Sgm} (h : SsOk (s :: r)) : SsOk r := fun x hx => h x (List.mem_cons_of_mem _ hx)
theorem SsOk.app {a b : List Sgm} (ha : SsOk a) (hb : SsOk b) : SsOk (a ++ b) := fun x hx => (List.mem_append.1 hx).elim (ha x) (hb x)
theorem SsOk.left {a b : List Sgm} (h : SsOk (a ++ b)) : SsOk a := fun x hx => h x (List.mem_append.2 (.inl hx))
theorem SsOk.right {a b : List Sgm} (h : SsOk (a ++ b)) : SsOk b := fun x hx => h x (List.mem_append.2 (.inr hx))

def lenS : List Sgm → Nat
  | [] => 0
  | s :: r => s.1 + lenS r
theorem SsOk.len {l : List Sgm} (h : SsOk l) : (flat l).length = lenS l := by
  induction l with
  | nil => rfl
  | cons s r ih => rw [flat_cons, List.length_append, h.head.len, ih h.tail]; rfl
theorem SsOk.one {l : List Sgm} (h : SsOk l) : ∀ v ∈ flat l, v.oneCell' = true := by
  induction l with
  | nil => intro v hv; cases hv
  | cons s r ih =>
    intro v hv
    rw [flat_cons] at hv
    exact (List.mem_append.1 hv).elim (h.head.one v) (ih h.tail v)

/-! ## what is known of memory -/
inductive Md | ro | ar | nw
  deriving DecidableEq

inductive Ent
  | blk (b : Nat) (m : Md) (T : TypeId) (segs : List Sgm)
  | row (a : Option Addr) (n cap : Nat) (T : TypeId) (s : Nat) (xs : List Value)
  | view (a : Option Addr) (xs : List Value)
  | pin (bs : List Nat) (p : World → Prop)
  | obj (b : Nat) (m : Md) (o : Obj)

def View (w : World) (a : Option Addr) (xs : List Value) : Prop := ∀ (i : Nat) v, xs[i]? = some v → ∃ ad, a = some ad ∧ w.cell? (ad.add i) = some v

theorem View.nil (w : World) (a : Option Addr) : View w a [] := fun i v h => by simp at h

def Ent.blocks : Ent → List Nat
  | .blk b _ _ _ => [b]
  | .row a _ _ _ _ _ => match a with | some ad => [ad.block] | none => []
  | .view a xs => match a, xs with | some ad, _ :: _ => [ad.block] | _, _ => []
  | .pin bs _ => bs
  | .obj b _ _ => [b]

def Ent.mut : Ent → Bool
  | .blk _ m _ _ | .obj _ m _ => m != .ro
  | .row .. => true
  | .view .. | .pin .. => false

def Ent.isAr : Ent → Bool
  | .blk _ m _ _ | .obj _ m _ => m == .ar
  | _ => false

def mdOk (B b : Nat) : Md → Prop
  | .nw => B ≤ b
  | _ => b < B

/-- no cell below n is frozen -/
def Free (fz : Nat × Nat) (n : Nat) : Prop := fz.1 ≤ fz.2 ∧ ∀ i, i < n → ¬ (fz.1 ≤ i ∧ i < fz.2)
theorem Free.zero (n : Nat) : Free (0, 0) n := ⟨Nat.le_refl _, fun i _ h => by simp at h⟩

/-- block b holds these cells, and may be written -/
def CellsAt (w : World) (b : Nat) (T : TypeId) (cs : List Value) : Prop := ∃ fz, Free fz cs.length ∧ w.heap[b]? = some (.cells ⟨cs⟩ T fz)

/-- a slice of the call's own: nil, or the head of a block from B on -/
def Own (B : Nat) (w : World) (T : TypeId) (s : Nat) (a : Option Addr) (n cap : Nat) (xs : List Value) : Prop :=
  xs.length = n * s ∧ (∀ v ∈ xs, v.oneCell' = true) ∧ n ≤ cap ∧ cap ≤ maxLen ∧
  ((a = none ∧ n = 0 ∧ cap = 0) ∨ ∃ g cur, a = some ⟨g, 0, none⟩ ∧ B ≤ g ∧ CellsAt w g T cur ∧ cap * s ≤ cur.length ∧ cur.take (n * s) = xs)

def Ent.ok (B : Nat) (w : World) : Ent → Prop
  | .blk b m T segs => SsOk segs ∧ CellsAt w b T (flat segs) ∧ mdOk B b m
  | .row a n cap T s xs => Own B w T s a n cap xs
  | .view a xs => View w a xs ∧ ∀ ad, a = some ad → xs ≠ [] → ad.block < w.heap.size
  | .pin bs p => p w ∧ (∀ b ∈ bs, b < w.heap.size) ∧ ∀ w', (∀ b ∈ bs, w'.heap[b]? = w.heap[b]?) → p w'
  | .obj b m o => w.heap[b]? = some o ∧ mdOk B b m

def Sep (e f : Ent) : Prop := (e.mut = true ∨ f.mut = true) → ∀ b ∈ e.blocks, b ∉ f.blocks

/-- of the blocks that were there those in S alone may have turned -/
structure Chg (w w' : World) (S : List Nat) : Prop where
  os : w'.os = w.os
  tape : w'.tape = w.tape
  output : w'.output = w.output
  size : w.heap.size ≤ w'.heap.size
  block : ∀ k, k < w.heap.size → k ∉ S → w'.heap[k]? = w.heap[k]?

theorem Chg.refl (w : World) (S : List Nat) : Chg w w S := ⟨rfl, rfl, rfl, Nat.le_refl _, fun _ _ _ => rfl⟩
theorem Chg.trans {a b c : World} {S : List Nat} (h : Chg a b S) (k : Chg b c S) : Chg a c S :=
  ⟨k.os.trans h.os, k.tape.trans h.tape, k.output.trans h.output, Nat.le_trans h.size k.size,
   fun i hi hs => (k.block i (Nat.lt_of_lt_of_le hi h.size) hs).trans (h.block i hi hs)⟩
theorem Chg.mono {a b : World} {S S' : List Nat} (h : Chg a b S) (hs : ∀ x ∈ S, x ∈ S') : Chg a b S' :=
  ⟨h.os, h.tape, h.output, h.size, fun i hi hn => h.block i hi fun hx => hn (hs i hx)⟩
theorem Chg.below {a b : World} (h : Chg a b []) : Below a.heap.size a b := ⟨h.os, h.tape, h.output, h.size, fun k hk => h.block k hk (by simp)⟩
theorem Chg.of_below {a b : World} (h : Below a.heap.size a b) : Chg a b [] := ⟨h.os, h.tape, h.output, h.size, fun k hk _ => h.block k hk⟩
theorem Chg.alloc (w : World) (o : Obj) (S : List Nat) : Chg w (w.alloc o) S :=
  ⟨rfl, rfl, rfl, by simp, fun k hk _ => Below.heap_alloc w o k hk⟩
theorem Chg.drew (w : World) (S : List Nat) : Chg w w.drew S := ⟨rfl, rfl, rfl, Nat.le_refl _, fun _ _ _ => rfl⟩
theorem Chg.setRow (w : World) (g : Nat) (cs : Array Value) : Chg w (w.setRow g cs) [g] :=
  ⟨rfl, rfl, rfl, by simp, fun k _ hs => setRow_other w g k cs (by simpa using hs)⟩
theorem Chg.grown {w w' : World} {r : Option Nat} (h : w.grownBy w' r) : Chg w w' r.toList :=
  ⟨h.os, h.tape, h.output, h.size, fun k hk hs => h.block k hk (fun e => hs (by rw [← e]; simp))⟩

structure HP (w0 w : World) (L : List Ent) : Prop where
  os : w.os = w0.os
  tape : w.tape = w0.tape
  output : w.output = w0.output
  size : w0.heap.size ≤ w.heap.size
  frame : ∀ k, k < w0.heap.size → (∀ e ∈ L, e.isAr = true → k ∉ e.blocks) → w.heap[k]? = w0.heap[k]?
  ok : ∀ e ∈ L, e.ok w0.heap.size w
  sep : L.Pairwise Sep

theorem HP.init (w : World) : HP w w [] := ⟨rfl, rfl, rfl, Nat.le_refl _, fun _ _ _ => rfl, fun _ h => by simp at h, List.Pairwise.nil⟩

theorem Ent.lt {B : Nat} {w : World} {e : Ent} (h : e.ok B w) : ∀ b ∈ e.blocks, b < w.heap.size := by
  intro b hb
  cases e with
  | blk b' m T segs =>
    simp only [Ent.blocks, List.mem_singleton] at hb; subst hb
    obtain ⟨_, ⟨fz, _, hh⟩, _⟩ := h
    exact (Array.getElem?_eq_some_iff.1 hh).1
  | obj b' m o =>
    simp only [Ent.blocks, List.mem_singleton] at hb; subst hb
    exact (Array.getElem?_eq_some_iff.1 h.1).1
  | row a n cap T s xs =>
    obtain ⟨_, _, _, _, h | ⟨g, cur, rfl, hB, ⟨fz, _, hh⟩, _⟩⟩ := h
    · obtain ⟨rfl, _⟩ := h; simp [Ent.blocks] at hb
    · simp [Ent.blocks] at hb; subst hb; exact (Array.getElem?_eq_some_iff.1 hh).1
  | view a xs =>
    cases a with
    | none => simp [Ent.blocks] at hb
    | some ad =>
      cases xs with
      | nil => simp [Ent.blocks] at hb
      | cons x r =>
        simp [Ent.blocks] at hb; subst hb
        obtain ⟨ad', e, hc⟩ := h.1 0 x rfl
        cases e
        have := block_lt_of_cell hc
        simpa [Addr.add] using this
  | pin bs p => exact h.2.1 b hb

theorem lt_of_same {w w' : World} {b : Nat} (hb : b < w.heap.size) (h : w'.heap[b]? = w.heap[b]?) : b < w'.heap.size := by
  rw [Array.getElem?_eq_getElem hb] at h
  exact (Array.getElem?_eq_some_iff.1 h).1

theorem Addr.add_block (a : Addr) (n : Nat) : (a.add n).block = a.block := by unfold Addr.add; split <;> rfl

theorem Ent.ok_same {B : Nat} {w w' : World} {e : Ent} (h : e.ok B w) (hs : ∀ b ∈ e.blocks, w'.heap[b]? = w.heap[b]?) : e.ok B w' := by
  cases e with
  | blk b m T segs =>
    obtain ⟨h1, ⟨fz, hf, hh⟩, h2⟩ := h
    exact ⟨h1, ⟨fz, hf, (hs b (by simp [Ent.blocks])).trans hh⟩, h2⟩
  | obj b m o => exact ⟨(hs b (by simp [Ent.blocks])).trans h.1, h.2⟩
  | row a n cap T s xs =>
    obtain ⟨h1, h2, h3, h4, h5⟩ := h
    refine ⟨h1, h2, h3, h4, ?_⟩
    rcases h5 with h5 | ⟨g, cur, rfl, hg, ⟨fz, hf, hh⟩, r⟩
    · exact .inl h5
    · exact .inr ⟨g, cur, rfl, hg, ⟨fz, hf, (hs g (by simp [Ent.blocks])).trans hh⟩, r⟩
  | pin bs p => exact ⟨h.2.2 w' hs, fun b hb => lt_of_same (h.2.1 b hb) (hs b hb), fun w'' h2 => h.2.2 w'' fun b hb => (h2 b hb).trans (hs b hb)⟩
  | view a xs =>
    refine ⟨fun i v hv => ?_, fun ad ha hx => lt_of_same (h.2 ad ha hx) (hs _ ?_)⟩
    rotate_left
    · subst ha
      obtain ⟨x, r, rfl⟩ := List.exists_cons_of_ne_nil hx
      simp [Ent.blocks]
    obtain ⟨ad, e, hc⟩ := h.1 i v hv
    refine ⟨ad, e, ?_⟩
    subst e
    cases xs with
    | nil => simp at hv
    | cons x r =>
      rw [World.cell?_of_block (w := w) (by rw [Addr.add_block]; exact hs ad.block (by simp [Ent.blocks]))]
      exact hc

inductive At (e e' : Ent) : List Ent → List Ent → Prop
  | h {L : List Ent} : At e e' (e :: L) (e' :: L)
  | t {f : Ent} {L L' : List Ent} : At e e' L L' → At e e' (f :: L) (f :: L')

theorem At.mem {e e' : Ent} {L L' : List Ent} (h : At e e' L L') : e ∈ L := by
  induction h with
  | h => exact List.mem_cons_self ..
  | t _ ih => exact List.mem_cons_of_mem _ ih

theorem At.mem' {e e' : Ent} {L L' : List Ent} (h : At e e' L L') : e' ∈ L' := by
  induction h with
  | h => exact List.mem_cons_self ..
  | t _ ih => exact List.mem_cons_of_mem _ ih

theorem At.cases_mem {e e' f : Ent} {L L' : List Ent} (h : At e e' L L') (hs : L.Pairwise Sep) (hf : f ∈ L') : f = e' ∨ (f ∈ L ∧ (Sep e f ∨ Sep f e)) := by
  induction h with
  | h =>
    rcases List.mem_cons.1 hf with rfl | hf
    · exact .inl rfl
    · exact .inr ⟨List.mem_cons_of_mem _ hf, .inl ((List.pairwise_cons.1 hs).1 f hf)⟩
  | t hat ih =>
    rcases List.mem_cons.1 hf with rfl | hf
    · exact .inr ⟨List.mem_cons_self .., .inr ((List.pairwise_cons.1 hs).1 _ hat.mem)⟩
    · rcases ih (List.pairwise_cons.1 hs).2 hf with h | ⟨h, k⟩
      · exact .inl h
      · exact .inr ⟨List.mem_cons_of_mem _ h, k⟩

theorem Sep.symm {e f : Ent} (h : Sep e f) : Sep f e := fun hm b hb hb' => h (hm.elim .inr .inl) b hb' hb

theorem At.pairwise {e e' : Ent} {L L' : List Ent} (h : At e e' L L') (hs : L.Pairwise Sep) (hn : ∀ f ∈ L, Sep e f → Sep e' f) : L'.Pairwise Sep := by
  induction h with
  | h =>
    obtain ⟨h1, h2⟩ := List.pairwise_cons.1 hs
    exact List.pairwise_cons.2 ⟨fun f hf => hn f (List.mem_cons_of_mem _ hf) (h1 f hf), h2⟩
  | @t g L L' hat ih =>
    obtain ⟨h1, h2⟩ := List.pairwise_cons.1 hs
    refine List.pairwise_cons.2 ⟨fun f hf => ?_, ih h2 (fun f hf => hn f (List.mem_cons_of_mem _ hf))⟩
    have hge : Sep g e := h1 e hat.mem
    rcases hat.cases_mem h2 hf with rfl | ⟨hf', _⟩
    · exact (hn g (List.mem_cons_self ..) hge.symm).symm
    · exact h1 f hf'

/-- ENTRY e TURNS TO e': in memory its own blocks alone have turned -/
theorem HP.set {w0 w w' : World} {L L' : List Ent} {e e' : Ent} (h : HP w0 w L) (hat : At e e' L L') (hmut : e.mut = true) (hch : Chg w w' e.blocks)
    (hok : e'.ok w0.heap.size w') (hbl : ∀ b ∈ e'.blocks, b ∈ e.blocks ∨ w.heap.size ≤ b) (har : e.isAr = true → e'.isAr = true ∧ e'.blocks = e.blocks) (hown : e.isAr = false → ∀ b ∈ e.blocks, w0.heap.size ≤ b) : HP w0 w' L' where
  os := hch.os.trans h.os
  tape := hch.tape.trans h.tape
  output := hch.output.trans h.output
  size := Nat.le_trans h.size hch.size
  frame := by
    intro k hk hn
    have hke : k ∉ e.blocks := by
      intro hke
      cases hia : e.isAr with
      | true => obtain ⟨h1, h2⟩ := har hia; exact hn e' hat.mem' h1 (h2 ▸ hke)
      | false => have := hown hia k hke; omega
    rw [hch.block k (Nat.lt_of_lt_of_le hk h.size) hke]
    refine h.frame k hk fun f hf hfa => ?_
    by_cases hfe : f = e
    · subst hfe; exact hke
    · -- f is another one: it is in L'
      have : f ∈ L' := by
        clear hn har hown hbl hok hch hmut h
        induction hat with
        | h => rcases List.mem_cons.1 hf with rfl | hf
               · exact absurd rfl hfe
               · exact List.mem_cons_of_mem _ hf
        | t _ ih => rcases List.mem_cons.1 hf with rfl | hf
                    · exact List.mem_cons_self ..
                    · exact List.mem_cons_of_mem _ (ih hf)
      exact hn f this hfa
  ok := by
    intro f hf
    rcases hat.cases_mem h.sep hf with rfl | ⟨hf', hs⟩
    · exact hok
    · have hok' := h.ok f hf'
      refine Ent.ok_same hok' fun b hb => hch.block b (Ent.lt hok' b hb) ?_
      have hsep : Sep e f := hs.elim id Sep.symm
      exact fun hbe => hsep (.inl hmut) b hbe hb
  sep := by
    refine hat.pairwise h.sep fun f hf hs hm b hb hbf => ?_
    rcases hbl b hb with hbe | hge
    · exact hs (.inl hmut) b hbe hbf
    · have := Ent.lt (h.ok f hf) b hbf; omega

theorem HP.same {w0 w w' : World} {L : List Ent} (h : HP w0 w L) (hch : Chg w w' []) : HP w0 w' L where
  os := hch.os.trans h.os
  tape := hch.tape.trans h.tape
  output := hch.output.trans h.output
  size := Nat.le_trans h.size hch.size
  frame := fun k hk hn => (hch.block k (Nat.lt_of_lt_of_le hk h.size) (by simp)).trans (h.frame k hk hn)
  ok := fun f hf => Ent.ok_same (h.ok f hf) fun b hb => hch.block b (Ent.lt (h.ok f hf) b hb) (by simp)
  sep := h.sep

/-- a new entry, in blocks that were not there at world w -/
theorem HP.push {w0 w w' : World} {L : List Ent} {e : Ent} (h : HP w0 w L) (hch : Chg w w' []) (hok : e.ok w0.heap.size w') (har : e.isAr = false) (hb : ∀ b ∈ e.blocks, w.heap.size ≤ b) : HP w0 w' (e :: L) where
  os := hch.os.trans h.os
  tape := hch.tape.trans h.tape
  output := hch.output.trans h.output
  size := Nat.le_trans h.size hch.size
  frame := fun k hk hn => (h.same hch).frame k hk fun f hf => hn f (List.mem_cons_of_mem _ hf)
  ok := fun f hf => (List.mem_cons.1 hf).elim (fun e => e ▸ hok) ((h.same hch).ok f)
  sep := List.pairwise_cons.2 ⟨fun f hf _ b hbe hbf => by have := hb b hbe; have := Ent.lt (h.ok f hf) b hbf; omega, h.sep⟩

theorem HP.drop {w0 w : World} {L : List Ent} {e : Ent} (h : HP w0 w (e :: L)) (har : e.isAr = false) : HP w0 w L where
  os := h.os
  tape := h.tape
  output := h.output
  size := h.size
  frame := fun k hk hn => h.frame k hk fun f hf ha => by
    rcases List.mem_cons.1 hf with rfl | hf
    · rw [har] at ha; cases ha
    · exact hn f hf ha
  ok := fun f hf => h.ok f (List.mem_cons_of_mem _ hf)
  sep := (List.pairwise_cons.1 h.sep).2

/-- entries of what was there when the call began -/
theorem HP.old {w : World} {L : List Ent} {e : Ent} (h : HP w w L) (hok : e.ok w.heap.size w) (hs : ∀ f ∈ L, Sep e f) : HP w w (e :: L) where
  os := rfl
  tape := rfl
  output := rfl
  size := Nat.le_refl _
  frame := fun _ _ _ => rfl
  ok := fun f hf => (List.mem_cons.1 hf).elim (fun e => e ▸ hok) (h.ok f)
  sep := List.pairwise_cons.2 ⟨hs, h.sep⟩

/-- at the end: nothing that was there has turned -/
theorem HP.chg {w0 w : World} {L : List Ent} (h : HP w0 w L) (hn : ∀ e ∈ L, e.isAr = false) : Chg w0 w [] :=
  ⟨h.os, h.tape, h.output, h.size, fun k hk _ => h.frame k hk fun e he ha => by rw [hn e he] at ha; cases ha⟩

def arBlocks : List Ent → List Nat
  | [] => []
  | e :: L => bif e.isAr then e.blocks ++ arBlocks L else arBlocks L

theorem mem_arBlocks {k : Nat} : ∀ {L : List Ent}, (∃ e ∈ L, e.isAr = true ∧ k ∈ e.blocks) → k ∈ arBlocks L
  | [], ⟨_, h, _⟩ => by cases h
  | e :: L, ⟨f, hf, ha, hk⟩ => by
    unfold arBlocks
    rcases List.mem_cons.1 hf with rfl | hf
    · simp [ha, hk]
    · have := mem_arBlocks (L := L) ⟨f, hf, ha, hk⟩
      cases e.isAr <;> simp [this]

theorem HP.chgS {w0 w : World} {L : List Ent} (h : HP w0 w L) : Chg w0 w (arBlocks L) :=
  ⟨h.os, h.tape, h.output, h.size, fun k hk hn => h.frame k hk fun e he ha hke => hn (mem_arBlocks ⟨e, he, ha, hke⟩)⟩

/-- an entry turns to one that says no more of the memory (a row to a view of it) -/
theorem HP.turn {w0 w : World} {L L' : List Ent} {e e' : Ent} (h : HP w0 w L) (hat : At e e' L L') (hok : e'.ok w0.heap.size w) (hbl : ∀ b ∈ e'.blocks, b ∈ e.blocks) (hmut : e'.mut = true → e.mut = true) (har : e.isAr = false) (har' : e'.isAr = false) : HP w0 w L' where
  os := h.os
  tape := h.tape
  output := h.output
  size := h.size
  frame := by
    intro k hk hn
    refine h.frame k hk fun f hf hfa => ?_
    have : f ∈ L' := by
      clear hok hbl hmut hn h
      induction hat with
      | h => rcases List.mem_cons.1 hf with rfl | hf
             · rw [har] at hfa; cases hfa
             · exact List.mem_cons_of_mem _ hf
      | t _ ih => rcases List.mem_cons.1 hf with rfl | hf
                  · exact List.mem_cons_self ..
                  · exact List.mem_cons_of_mem _ (ih hf)
    exact hn f this hfa
  ok := by
    intro f hf
    rcases hat.cases_mem h.sep hf with rfl | ⟨hf', _⟩
    · exact hok
    · exact h.ok f hf'
  sep := hat.pairwise h.sep fun f _ hs hm b hb hbf => hs (hm.elim (fun m => .inl (hmut m)) .inr) b (hbl b hb) hbf

/-- one more entry, of what is there -/
theorem HP.add {w0 w : World} {L : List Ent} {e : Ent} (h : HP w0 w L) (hok : e.ok w0.heap.size w) (har : e.isAr = false) (hs : ∀ f ∈ L, Sep e f) : HP w0 w (e :: L) where
  os := h.os
  tape := h.tape
  output := h.output
  size := h.size
  frame := fun k hk hn => h.frame k hk fun f hf => hn f (List.mem_cons_of_mem _ hf)
  ok := fun f hf => (List.mem_cons.1 hf).elim (fun e => e ▸ hok) (h.ok f)
  sep := List.pairwise_cons.2 ⟨hs, h.sep⟩
/-- an entry that is only read, within the blocks of another one -/
theorem HP.within {w0 w : World} {L : List Ent} {e e' : Ent} (h : HP w0 w L) (hm : e ∈ L) (hmut : e.mut = false) (hok : e'.ok w0.heap.size w) (hmut' : e'.mut = false) (har : e'.isAr = false) (hbl : ∀ b ∈ e'.blocks, b ∈ e.blocks) : HP w0 w (e' :: L) := by
  refine h.add hok har fun f hf hfm b hb hbf => ?_
  rw [hmut'] at hfm
  have hfm : f.mut = true := by simpa using hfm
  have key : ∀ {L : List Ent}, L.Pairwise Sep → e ∈ L → f ∈ L → Sep e f ∨ e = f := by
    intro L
    induction L with
    | nil => intro _ h; cases h
    | cons g L ih =>
      intro hs he hf
      obtain ⟨h1, h2⟩ := List.pairwise_cons.1 hs
      rcases List.mem_cons.1 he with he' | he'
      · rcases List.mem_cons.1 hf with hf' | hf'
        · exact .inr (he'.trans hf'.symm)
        · exact .inl (he' ▸ h1 f hf')
      · rcases List.mem_cons.1 hf with hf' | hf'
        · exact .inl (hf' ▸ (h1 e he').symm)
        · exact ih h2 he' hf'
  rcases key h.sep hm hf with hs | rfl
  · exact hs (.inr hfm) b (hbl b hb) hbf
  · rw [hmut] at hfm; cases hfm

end Go.Vc
