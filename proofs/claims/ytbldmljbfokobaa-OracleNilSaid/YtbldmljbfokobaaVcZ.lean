/- Stores into rows, lists of byte slices: rules for walks, proved here for every program of the model. Conditions: none beyond what each theorem states. -/
import Derived.Test.YtbldmljbfokobaaVcY
set_option linter.unusedVariables false
set_option linter.unusedSimpArgs false
namespace Go.Vc
open Go.RowKit
set_option linter.unusedSectionVars false
section
variable {P : Program} {n : Nat} {ops : Array Oper} {Q : Exit → Fr → World → Prop} {rest : List Oper} {F : Fr} {w w' w0 : World} {L L' : List Ent}
variable {ty : TypeId} {pos : String} {after : Array Edge} {dst : Option Tmp} {g : Option (Nat × Bool)}
/-! a cell of a slice of the call's own is stored -/
theorem WL.storeR {i m cap s : Nat} {a : Option Addr} {T E : TypeId} {x y : Operand} {xs xs' : List Value} {v : Value} (h : HP w0 w L) (hx : evO F x = .pointer (some (gA a i))) (hy : evO F y = v) (hT : ∀ w, (sizeOf T).run P w = .ok 1 w) (h1 : v.oneCell' = true)
    (hat : At (.row a m cap E s xs) (.row a m cap E s xs') L L') (hi : i < xs.length) (hcs : xs.set i v = xs')
    (k : ∀ w', HP w0 w' L' → WL P n ops Q rest F w') : WL P n ops Q (⟨none, .store T x y, ty, pos, after, none⟩ :: rest) F w := by
  obtain ⟨hl, h1s, hn, hc, h5⟩ := h.own hat.mem
  rcases h5 with ⟨_, rfl, _⟩ | ⟨b, cur, rfl, hb, hcell, hcl, htk⟩
  · rw [Nat.zero_mul] at hl; omega
  · have hk : i < m * s := by omega
    have hle : m * s ≤ cap * s := Nat.mul_le_mul_right s hn
    have hic : i < cur.length := by omega
    obtain ⟨C, D, f, f', hC⟩ := set_split (List.getElem?_eq_getElem hic) v
    rw [f] at hcell
    obtain ⟨w', hr, hcs', hch⟩ := run_storeCells P b i E [v] 0 C (cur[i] :: D) w hcell (by simpa using hC) (by simp) (by simpa using h1)
    have e : C ++ [v] ++ List.drop [v].length (cur[i] :: D) = cur.set i v := by rw [f']; simp
    rw [e] at hcs'
    refine WL.unit rfl rfl ?_ (k w' ?_)
    · simp [execOp, hx, hy, gA, addr_add, Instr.storeAt, Instr.sureAddr, storeVar, Value.cells_one h1, hT, hr]
    · refine h.set hat rfl (by simpa [Ent.blocks] using hch) ⟨by rw [← hcs]; simpa using hl, ?_, hn, hc, .inr ⟨b, cur.set i v, rfl, hb, hcs', by simpa using hcl, ?_⟩⟩ (fun b' hb => .inl hb) (fun ha => by cases ha) (fun _ b' hb' => ?_)
      · intro z hz
        rw [← hcs] at hz
        rcases List.mem_or_eq_of_mem_set hz with hz | rfl
        · exact h1s z hz
        · exact h1
      · rw [List.take_set, htk, hcs]
      · simp only [Ent.blocks, List.mem_singleton] at hb'
        subst hb'; exact hb
theorem Own.blk {B : Nat} {T : TypeId} {s k cap : Nat} {a : Option Addr} {xs : List Value} (h : Own B w T s a k cap xs) : ∀ b ∈ (Ent.view a xs).blocks, B ≤ b := by
  obtain ⟨hl, _, _, _, h5⟩ := h
  intro b hb
  rcases h5 with ⟨rfl, _⟩ | ⟨g, cur, rfl, hg, _⟩
  · simp [Ent.blocks] at hb
  · cases xs with
    | nil => simp [Ent.blocks] at hb
    | cons x r => simp [Ent.blocks] at hb; omega
theorem Own.blk2 {B : Nat} {T : TypeId} {s k cap : Nat} {a : Option Addr} {xs : List Value} (h : Own B w T s a k cap xs) : ∀ b ∈ (Ent.row a k cap T s xs).blocks, B ≤ b := by
  obtain ⟨hl, _, _, _, h5⟩ := h
  intro b hb
  rcases h5 with ⟨rfl, _⟩ | ⟨g, cur, rfl, hg, _⟩
  · simp [Ent.blocks] at hb
  · simp [Ent.blocks] at hb; omega
theorem slA0 {B : Nat} {T : TypeId} {s k cap : Nat} {a : Option Addr} {xs : List Value} (h : Own B w T s a k cap xs) (m z : Nat) : slA a 0 m z = a := by
  obtain ⟨_, _, _, _, h5⟩ := h
  rcases h5 with ⟨rfl, _⟩ | ⟨g, cur, rfl, hg, _⟩
  · unfold slA; split <;> rfl
  · unfold slA; split
    · rfl
    · rw [Option.map_some, addr_add, Nat.zero_mul]
theorem HP.rowCut {k m cap s : Nat} {a : Option Addr} {E : TypeId} {xs : List Value} (h : HP w0 w L) (hat : At (.row a m cap E s xs) (.row a k cap E s (xs.take (k * s))) L L') (hk : k ≤ m) : HP w0 w L' := by
  have ho := h.own hat.mem
  obtain ⟨hl, h1s, hn, hc, h5⟩ := ho
  have hks : k * s ≤ m * s := Nat.mul_le_mul_right s hk
  refine h.turn hat ⟨by rw [List.length_take]; omega, fun v hv => h1s v (List.mem_of_mem_take hv), by omega, hc, ?_⟩ (fun b hb => hb) (fun _ => rfl) rfl rfl
  rcases h5 with ⟨rfl, h0, hc0⟩ | ⟨g, cur, rfl, hg, hcell, hcl, htk⟩
  · exact .inl ⟨rfl, by omega, hc0⟩
  · exact .inr ⟨g, cur, rfl, hg, hcell, hcl, by rw [← htk, List.take_take]; congr 1; omega⟩
/-! an entry that is read, within the blocks of two others -/
theorem HP.within2 {e1 e2 e' : Ent} (h : HP w0 w L) (hm1 : e1 ∈ L) (hm2 : e2 ∈ L) (h1 : e1.mut = false) (h2 : e2.mut = false) (hok : e'.ok w0.heap.size w) (hmut' : e'.mut = false) (har : e'.isAr = false) (hbl : ∀ b ∈ e'.blocks, b ∈ e1.blocks ∨ b ∈ e2.blocks) : HP w0 w (e' :: L) := by
  have har1 : ∀ e : Ent, e.mut = false → (Ent.pin (e1.blocks ++ e2.blocks) (fun _ => True)).blocks = e1.blocks ++ e2.blocks := fun _ _ => rfl
  have hok0 : (Ent.pin (e1.blocks ++ e2.blocks) (fun _ => True)).ok w0.heap.size w := ⟨trivial, fun b hb => (List.mem_append.1 hb).elim (Ent.lt (h.ok _ hm1) b) (Ent.lt (h.ok _ hm2) b), fun _ _ => trivial⟩
  have key : ∀ (e f : Ent), e ∈ L → f ∈ L → e.mut = false → f.mut = true → Sep e f := by
    intro e f he hf hme hmf
    have : ∀ {L : List Ent}, L.Pairwise Sep → e ∈ L → f ∈ L → Sep e f ∨ e = f := by
      intro L
      induction L with
      | nil => intro _ h; cases h
      | cons g L ih =>
        intro hs he hf
        obtain ⟨p1, p2⟩ := List.pairwise_cons.1 hs
        rcases List.mem_cons.1 he with he' | he'
        · rcases List.mem_cons.1 hf with hf' | hf'
          · exact .inr (he'.trans hf'.symm)
          · exact .inl (he' ▸ p1 f hf')
        · rcases List.mem_cons.1 hf with hf' | hf'
          · exact .inl (hf' ▸ (p1 e he').symm)
          · exact ih p2 he' hf'
    rcases this h.sep he hf with hs | rfl
    · exact hs
    · rw [hme] at hmf; cases hmf
  refine h.add hok har fun f hf hfm b hb hbf => ?_
  rw [hmut'] at hfm
  have hfm : f.mut = true := by simpa using hfm
  rcases hbl b hb with hb1 | hb2
  · exact key e1 f hm1 hf h1 hfm (.inr hfm) b hb1 hbf
  · exact key e2 f hm2 hf h2 hfm (.inr hfm) b hb2 hbf
/-! a callee returns a list of byte slices -/
theorem HP.gotSls {a : Option Addr} {xs : List Value} {ls : List (List UInt8)} (h : HP w0 w L) (hc : Chg w w' []) (hv : View w' a xs) (hs : Sls w' xs ls) (hb : ∀ b ∈ (Ent.view a xs).blocks ++ sblks xs, w.heap.size ≤ b) : HP w0 w' (.pin (sblks xs) (fun w => Sls w xs ls) :: .view a xs :: L) := by
  have h1 := h.push hc (e := .view a xs) (by exact View.arg hv) rfl (fun b hb1 => hb b (List.mem_append.2 (.inl hb1)))
  refine h1.add hs.pin rfl fun f hf => ?_
  rcases List.mem_cons.1 hf with rfl | hf
  · intro hm; simp [Ent.mut] at hm
  · intro _ b hb1 hbf
    have := hb b (List.mem_append.2 (.inr hb1))
    have := Ent.lt (h.ok f hf) b hbf
    omega
/-! what came in: lists of byte slices, slices of ints -/
def sl8T (w : World) : Type := { x : Option Addr × Nat × Nat × List UInt8 // x.2.2.2.length = x.2.1 ∧ x.2.1 ≤ x.2.2.1 ∧ x.2.2.1 ≤ maxLen ∧ View w x.1 (x.2.2.2.map vu8) }
def sl8V (x : sl8T w) : Value := .slice x.1.1 x.1.2.1 x.1.2.2.1
theorem sls_of : ∀ l : List (sl8T w), Sls w (l.map sl8V) (l.map fun x => x.1.2.2.2)
  | [] => .nil
  | x :: l => .cons x.2.1 x.2.2.1 x.2.2.2.2 (sls_of l)
theorem Tr.slsl {t e e8 : TypeId} {cs : List Value} (hu : P.underlying t = some (.slice e)) (hce : P.cellsOf e = 1) (he : P.underlying e = some (.slice e8)) (hce8 : P.cellsOf e8 = 1) (he8 : P.underlying e8 = some (.int .u8)) (h : Tr P w t cs) :
    ∃ a n cap xs ls, cs = [.slice a n cap] ∧ ls.length = n ∧ n ≤ cap ∧ cap ≤ maxLen ∧ (Ent.view a xs).ok w.heap.size w ∧ Sls w xs ls ∧ ∀ l ∈ ls, l.length ≤ maxLen := by
  obtain ⟨a, n, cap, l, rfl, hl, hn, hc, hv, _⟩ := Tr.sliceOf (α := sl8T w) (f := sl8V) hu hce (fun cs ht => by
    obtain ⟨a, n, c, l, rfl, h1, h2, h3, h4, _⟩ := Tr.sl8 he hce8 he8 ht
    exact ⟨⟨(a, n, c, l), h1, h2, h3, h4.1⟩, rfl⟩) h
  refine ⟨a, n, cap, _, _, rfl, by rw [List.length_map, hl], hn, hc, hv, sls_of l, fun x hx => ?_⟩
  obtain ⟨y, _, rfl⟩ := List.mem_map.1 hx
  have := y.2
  omega
theorem Tr.slint {t e : TypeId} {cs : List Value} (hu : P.underlying t = some (.slice e)) (hce : P.cellsOf e = 1) (he : P.underlying e = some (.int .i64)) (h : Tr P w t cs) :
    ∃ a n cap, ∃ l : List Int, cs = [.slice a n cap] ∧ l.length = n ∧ n ≤ cap ∧ cap ≤ maxLen ∧ (Ent.view a (l.map vi)).ok w.heap.size w ∧ ∀ x ∈ l, -9223372036854775808 ≤ x ∧ x < 9223372036854775808 := by
  obtain ⟨a, n, cap, l, rfl, hl, hn, hc, hv, _⟩ := Tr.sliceOf (α := { x : Int // -9223372036854775808 ≤ x ∧ x < 9223372036854775808 }) (f := fun x => vi x.1) hu hce (fun cs ht => by
    obtain ⟨x, rfl, hb⟩ := Tr.i64 he ht
    exact ⟨⟨x, hb⟩, rfl⟩) h
  refine ⟨a, n, cap, l.map (·.1), rfl, by rw [List.length_map, hl], hn, hc, by rw [List.map_map]; exact hv, fun x hx => ?_⟩
  obtain ⟨y, _, rfl⟩ := List.mem_map.1 hx
  exact y.2
end
end Go.Vc
