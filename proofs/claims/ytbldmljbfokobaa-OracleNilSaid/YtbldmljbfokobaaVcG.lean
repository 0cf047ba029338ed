/- Literals and append: rules for walks, proved here for every program of the model. Conditions: none beyond what each theorem states. -/
import Derived.Test.YtbldmljbfokobaaVcF
set_option linter.unusedVariables false
set_option linter.unusedSimpArgs false
namespace Go.Vc
open Go.RowKit
set_option linter.unusedSectionVars false

theorem lt_len {α : Type} {bs : List α} {i K : Nat} (h : bs.length = K) (hi : i < K) : i < bs.length := by omega
theorem le_len {α : Type} {bs : List α} {i K : Nat} (h : bs.length = K) (hi : i ≤ K) : i ≤ bs.length := by omega
theorem get_u8 {bs : List UInt8} {i : Nat} (h : i < bs.length) : (bs.map vu8)[i]? = some (vu8 (bs.getD i 0)) := by
  simp [h]
theorem get_u32 {bs : List UInt32} {i : Nat} (h : i < bs.length) : (bs.map vu32)[i]? = some (vu32 (bs.getD i 0)) := by
  simp [h]
theorem get_u64 {bs : List UInt64} {i : Nat} (h : i < bs.length) : (bs.map vu64)[i]? = some (vu64 (bs.getD i 0)) := by
  simp [h]
theorem set_u8 (bs : List UInt8) (i : Nat) (x : UInt8) : (bs.map vu8).set i (vu8 x) = (bs.set i x).map vu8 := List.map_set.symm
theorem set_u32 (bs : List UInt32) (i : Nat) (x : UInt32) : (bs.map vu32).set i (vu32 x) = (bs.set i x).map vu32 := List.map_set.symm
theorem set_u64 (bs : List UInt64) (i : Nat) (x : UInt64) : (bs.map vu64).set i (vu64 x) = (bs.set i x).map vu64 := List.map_set.symm
theorem len_set {α : Type} {bs : List α} {K : Nat} (h : bs.length = K) (i : Nat) (x : α) : (bs.set i x).length = K := by simpa using h
theorem len_map {α β : Type} {bs : List α} {K : Nat} {f : α → β} (h : bs.length = K) : (bs.map f).length = K := by simpa using h

section
variable {P : Program} {n : Nat} {ops : Array Oper} {Q : Exit → Fr → World → Prop} {rest : List Oper} {F : Fr} {w w' w0 : World} {L L' : List Ent}
variable {ty : TypeId} {pos : String} {after : Array Edge} {dst : Option Tmp} {g : Option (Nat × Bool)}

theorem zv {T : TypeId} {ti : TypeInfo} {z : Value} (ht : ∀ w, (typeInfo T).run P w = .ok ti w) (hz : ti.zero = some z) : ∀ w, (zeroValue T).run P w = .ok z w := by
  intro w; simp [zeroValue, ht, hz]

/-! build -/
theorem R.buildR {T : TypeId} {parts : Array (Nat × Operand)} {cs : List Value} (hr : (Instr.build T (parts.map fun (i, x) => (i, evO F x))).run P w = .ok (.agg ⟨cs⟩) w) : (execOp (evO F) ⟨dst, .build T parts, ty, pos, after, g⟩).run P w = .ok (.value (.agg ⟨cs⟩)) w := by simp only [execOp, Sem.run_bind, hr, Result.andThen_ok, Sem.run_pure]

/-- the places of a struct's fields -/
def Places (P : Program) (fs : Array Field) (pl : List (Nat × Nat)) : Prop := ∀ w, Sem.run P (fs.mapM fun (f : Field) => (do pure (f.offset, ← sizeOf f.type) : Sem (Nat × Nat))) w = .ok pl.toArray w

inductive FillR (pl : Nat → Option (Nat × Nat)) : List Sgm → List (Nat × Value) → List Sgm → Prop
  | nil {s : List Sgm} : FillR pl s [] s
  | cons {i off sz : Nat} {v : Value} {segs segs' out : List Sgm} {rest : List (Nat × Value)} (pre mid mid' post : List Sgm) (hp : pl i = some (off, sz)) (hs : segs = pre ++ (mid ++ post)) (hs' : segs' = pre ++ (mid' ++ post)) (hv : v.cells = ⟨flat mid'⟩) (hok : SsOk mid')
      (ho : lenS pre = off) (hl : lenS mid = sz) (hl' : lenS mid' = sz) (r : FillR pl segs' rest out) : FillR pl segs ((i, v) :: rest) out

theorem foldl_set (ys : List Value) : ∀ (j : Nat) (A X B : List Value) (off : Nat), A.length = off + j → X.length = ys.length →
    (ys.zipIdx j).foldl (fun (cs : Array Value) (c, i) => cs.setIfInBounds (off + i) c) ⟨A ++ (X ++ B)⟩ = ⟨A ++ (ys ++ B)⟩ := by
  induction ys with
  | nil => intro j A X B off hA hX; simp at hX; subst hX; rfl
  | cons y ys ih =>
    intro j A X B off hA hX
    cases X with
    | nil => simp at hX
    | cons x X =>
      simp only [List.zipIdx_cons, List.foldl_cons]
      have e : (⟨A ++ (x :: X ++ B)⟩ : Array Value).setIfInBounds (off + j) y = ⟨(A ++ [y]) ++ (X ++ B)⟩ := by
        rw [← hA]
        apply Array.ext'
        simp only [Array.toList_setIfInBounds, List.cons_append]
        rw [set_at]; simp
      rw [e, ih (j + 1) (A ++ [y]) X B off (by simp [hA, Nat.add_assoc]) (by simpa using hX)]
      simp

theorem fill_of {pl : Nat → Option (Nat × Nat)} {segs out : List Sgm} {parts : List (Nat × Value)} (h : FillR pl segs parts out) (ok : SsOk segs) : Instr.fill pl ⟨flat segs⟩ parts = some ⟨flat out⟩ ∧ SsOk out := by
  induction h with
  | nil => exact ⟨rfl, ok⟩
  | @cons i off sz v segs segs' out rest pre mid mid' post hp hs hs' hv hok ho hl hl' r ih =>
    subst hs; subst hs'
    have ok2 : SsOk (pre ++ (mid' ++ post)) := ok.left.app (hok.app ok.right.right)
    obtain ⟨h1, h2⟩ := ih ok2
    refine ⟨?_, h2⟩
    have hsz : v.cells.size = sz := by rw [hv]; simp [hok.len, hl']
    have hb : ¬ (off + sz > (⟨flat (pre ++ (mid ++ post))⟩ : Array Value).size) := by
      simp [flat_append, ok.left.len, ok.right.left.len, ho, hl]
    rw [← h1]
    simp only [Instr.fill, hp]
    rw [hsz]
    simp only [ne_eq, not_true_eq_false, bne_self_eq_false, Bool.false_or, decide_eq_true_eq, hb, if_false]
    congr 1
    rw [hv, flat_append, flat_append, flat_append, flat_append]
    have := foldl_set (flat mid') 0 (flat pre) (flat mid) (flat post) off (by rw [ok.left.len, ho]; rfl) (by rw [hok.len, ok.right.left.len, hl, hl'])
    rw [← Array.foldl_toList, Array.toList_zipIdx]
    exact congrArg (fun t => Instr.fill pl t rest) this

theorem R.buildS {T : TypeId} {parts : Array (Nat × Operand)} {fs : Array Field} {z : Value} {pl : List (Nat × Nat)} {zs out : List Sgm} {vs : List (Nat × Value)} {cs : List Value} (hT : P.underlying T = some (.struct fs)) (hz : ∀ w, (zeroValue T).run P w = .ok z w) (hzs : z.cells = ⟨flat zs⟩) (okz : SsOk zs) (hpl : Places P fs pl)
    (hvs : parts.toList.map (fun (i, x) => (i, evO F x)) = vs) (hf : FillR (fun i => pl[i]?) zs vs out) (hcs : flat out = cs) :
    (execOp (evO F) ⟨dst, .build T parts, ty, pos, after, g⟩).run P w = .ok (.value (.agg ⟨cs⟩)) w := by
  obtain ⟨h1, h2⟩ := fill_of hf okz
  refine R.buildR (cs := cs) ?_
  subst hcs
  have hp : (parts.map fun (i, x) => (i, evO F x)).toList = vs := by rw [Array.toList_map]; exact hvs
  have h1' : Instr.fill (fun i => pl.toArray[i]?) z.cells vs = some ⟨flat out⟩ := by rw [hzs]; simpa using h1
  simp only [Instr.build, Sem.run_bind, hz, Result.andThen_ok, run_underlying hT, hpl w, hp, h1', Sem.run_pure]

theorem R.buildA {T E : TypeId} {len s : Nat} {parts : Array (Nat × Operand)} {z : Value} {vs : List (Nat × Value)} {cs : List Value} (hT : P.underlying T = some (.array len E)) (hs : ∀ w, (sizeOf E).run P w = .ok s w) (hz : ∀ w, (zeroValue T).run P w = .ok z w)
    (hvs : parts.toList.map (fun (i, x) => (i, evO F x)) = vs) (hf : Instr.fill (fun i => some (i * s, s)) z.cells vs = some ⟨cs⟩) :
    (execOp (evO F) ⟨dst, .build T parts, ty, pos, after, g⟩).run P w = .ok (.value (.agg ⟨cs⟩)) w := by
  refine R.buildR (cs := cs) ?_
  have hp : (parts.map fun (i, x) => (i, evO F x)).toList = vs := by rw [Array.toList_map]; exact hvs
  simp only [Instr.build, Sem.run_bind, hz, Result.andThen_ok, run_underlying hT, hs, hp, hf, Sem.run_pure]

/-- []T{..} -/
theorem WL.buildSl {d : Nat} {T E : TypeId} {len s : Nat} {parts : Array (Nat × Operand)} {z : Value} {vs : List (Nat × Value)} {cs : List Value} (h : HP w0 w L) (hT : P.underlying T = some (.slice E)) (hs : ∀ w, (sizeOf E).run P w = .ok s w) (hz : ∀ w, (zeroValue E).run P w = .ok z w)
    (hsm : Nat.ble (len * s) 16777216 = true) (hvs : parts.toList.map (fun (i, x) => (i, evO F x)) = vs) (hf : Instr.fill (fun i => some (i * s, s)) ((Array.range (len * s)).map (z.cells[· % z.cells.size]!)) vs = some ⟨cs⟩) (hl : cs.length = len * s) (h1 : ∀ v ∈ cs, v.oneCell' = true) (hpos : Nat.blt 0 (len * s) = true) (hd : Nat.blt d n = true)
    (k : ∀ b w', HP w0 w' (.blk b .nw E [(len * s, cs)] :: L) → WL P n ops Q rest (upd F d (.slice (some ⟨b, 0, none⟩) len len)) w') : WL P n ops Q (⟨some d, .buildSlice T len parts, ty, pos, after, none⟩ :: rest) F w := by
  have hp : (parts.map fun (i, x) => (i, evO F x)).toList = vs := by rw [Array.toList_map]; exact hvs
  have hsm' : ¬ (len * s > 2 ^ 24) := by have := Nat.le_of_ble_eq_true hsm; omega
  have hne : ¬ (len * s = 0) := by rintro e; rw [e] at hpos; cases hpos
  have ok : SsOk [(len * s, cs)] := SsOk.cons ⟨hl, h1⟩ SsOk.nil
  have hnew : HP w0 (w.alloc (.cells ⟨cs⟩ E)) (.blk w.heap.size .nw E [(len * s, cs)] :: L) := by
    refine h.push (Chg.alloc _ _ _) ⟨ok, ⟨(0, 0), Free.zero _, heap_alloc_new w _⟩, h.size⟩ rfl (fun b hb => ?_)
    simp only [Ent.blocks, List.mem_singleton] at hb; subst hb; exact Nat.le_refl _
  refine WL.val rfl rfl hd ?_ (k _ _ hnew)
  simp only [execOp, Instr.buildSlice, Sem.run_bind, run_underlying hT, Result.andThen_ok, hs, hsm', if_false, hne, Sem.run_pure, hz, hp, hf, newRow, run_newObj]
  rfl

/-! append onto a slice of the call's own -/
theorem run_firstCellsV {s m : Nat} {a : Option Addr} {c : Nat} {ys : List Value} (hl : ys.length = m * s) (hv : View w a ys) : (Builtin.firstCells s m (.slice a m c)).run P w = .ok ⟨ys⟩ w := by
  cases a with
  | none =>
    have : ys = [] := by
      cases ys with
      | nil => rfl
      | cons y ys => obtain ⟨ad, e, _⟩ := hv 0 y rfl; cases e
    subst this; simp [Builtin.firstCells]
  | some a => exact run_firstCells_some w s m a m c ys hl hv.cells

theorem Own.new {B g : Nat} {w : World} {T : TypeId} {s k cap : Nat} {cs xs : List Value} (hg : B ≤ g) (hc : CellsAt w g T cs) (hk : k ≤ cap) (hcap : cap ≤ maxLen) (hcs : cap * s ≤ cs.length) (hx : cs.take (k * s) = xs) (h1 : ∀ v ∈ xs, v.oneCell' = true) : Own B w T s (some ⟨g, 0, none⟩) k cap xs := by
  refine ⟨?_, h1, hk, hcap, .inr ⟨g, cs, rfl, hg, hc, hcs, hx⟩⟩
  have h2 := Nat.mul_le_mul_right s hk
  rw [← hx, List.length_take]
  exact Nat.min_eq_left (Nat.le_trans h2 hcs)

theorem append_core {t ty E : TypeId} {i : TypeInfo} {z : Value} {s by_ : Nat} {a a2 : Option Addr} {k cap m c : Nat} {xs ys : List Value} (h : HP w0 w L) (hat : ∀ a' cap', ∃ L', At (.row a k cap E s xs) (.row a' (k + m) cap' E s (xs ++ ys)) L L')
    (ht : P.underlying t = some (.slice E)) (hi : P.info? E = some i) (hz : i.zero = some z) (hs : i.size = s) (hby : i.bytes = by_) (hzs : z.cells.size = s) (hs0 : 0 < s)
    (hl : ys.length = m * s) (hv : View w a2 ys) (h1 : ∀ v ∈ ys, v.oneCell' = true) (hb : (k + m) * by_ ≤ 140737488355328) (hm : k + m ≤ maxLen) :
    ∃ a' cap' w', (Builtin.append_ #[t, t] ty #[.slice a k cap, .slice a2 m c]).run P w = .ok (.slice a' (k + m) cap') w' ∧ (∀ L', At (.row a k cap E s xs) (.row a' (k + m) cap' E s (xs ++ ys)) L L' → HP w0 w' L') := by
  subst hs; subst hby
  obtain ⟨L1, hat1⟩ := hat none 0
  have hown : Own w0.heap.size w E i.size a k cap xs := h.own hat1.mem
  have hf2 := run_firstCellsV (P := P) (w := w) (s := i.size) (m := m) (c := c) hl hv
  have hyl : ys.length = m * i.size := hl
  by_cases hroom : k + m ≤ cap
  · -- in place
    obtain ⟨o1, o2, o3, o4, o5⟩ := hown
    rcases o5 with ⟨rfl, rfl, rfl⟩ | ⟨g, cur, rfl, hg, hc, hcl, htk⟩
    · have hm0 : m = 0 := by omega
      subst hm0
      have hy : ys = [] := by cases ys <;> simp_all
      have hx : xs = [] := by cases xs <;> simp_all
      subst hy; subst hx
      refine ⟨none, 0, w, ?_, ?_⟩
      · simp [Builtin.append_, run_underlying ht, sizeOf, typeInfo, hi, Builtin.lenOf, hf2]
      · intro L' hat'
        exact h.set hat' rfl (Chg.refl _ _) ⟨by simp, by simp, by simp, by simp [maxLen], .inl ⟨rfl, rfl, rfl⟩⟩ (fun b hb => .inl hb) (fun ha => by simp [Ent.isAr] at ha) (fun _ b hb => by simp [Ent.blocks] at hb)
    · have hsp : cur = xs ++ cur.drop (k * i.size) := by rw [← htk, List.take_append_drop]
      have hfit : ys.length ≤ (cur.drop (k * i.size)).length := by
        have h2 : (k + m) * i.size ≤ cap * i.size := Nat.mul_le_mul_right _ hroom
        rw [Nat.add_mul] at h2
        rw [List.length_drop, hyl]; omega
      rw [hsp] at hc
      obtain ⟨w', hr, hc', hch⟩ := run_storeCells P g (k * i.size) E ys 0 xs _ w hc (by simpa using o1) hfit h1
      refine ⟨some ⟨g, 0, none⟩, cap, w', ?_, ?_⟩
      · simp [Builtin.append_, run_underlying ht, sizeOf, typeInfo, hi, Builtin.lenOf, hroom, hf2, addr_add, hr]
      · intro L' hat'
        refine h.set hat' rfl (by simpa [Ent.blocks] using hch) ?_ (fun b hb => .inl hb) (fun ha => by simp [Ent.isAr] at ha) (fun _ b hb => by simp [Ent.blocks] at hb; omega)
        refine Own.new hg hc' hroom o4 ?_ ?_ (fun v hv => (List.mem_append.1 hv).elim (o2 v) (h1 v))
        · have := congrArg List.length hsp
          simp only [List.length_append, List.length_drop] at this hfit ⊢
          omega
        · have : (xs ++ ys).length = (k + m) * i.size := by rw [List.length_append, o1, hyl, Nat.add_mul]
          rw [← this]; exact List.take_left
  · -- it grows
    have hroom' : ¬ (k + m ≤ cap) := hroom
    have hcapk : k ≤ cap := hown.2.2.1
    have hfold := run_firstCellsV (P := P) (w := w) (s := i.size) (m := k) (c := cap) hown.1 hown.view
    have hfold' : (Builtin.firstCells i.size k (.slice a k cap)).run P w.drew = .ok ⟨xs⟩ w.drew := run_firstCellsV (w := w.drew) hown.1 (hown.view)
    have hf2' : (Builtin.firstCells i.size m (.slice a2 m c)).run P w.drew = .ok ⟨ys⟩ w.drew := run_firstCellsV (w := w.drew) hl hv
    have hsm : k + m ≤ 9223372036854775807 := by simp only [maxLen] at hm; omega
    have hge := grownCap_ge w (k + m) cap E
    have hcm := grownCap_le_maxLen w (k + m) cap E hm
    have hnsc : ¬ ((Builtin.nextslicecap (k + m) cap * i.bytes : Nat) > 2 ^ 48) := by
      have h1 : Builtin.nextslicecap (k + m) cap ≤ 2 * (k + m) := by
        have hc1 : cap + 1 ≤ k + m := by omega
        unfold Builtin.nextslicecap
        split
        · omega
        · split
          · omega
          · have : ∀ r c, c ≤ 2 * (k + m) → c < k + m ∨ c ≤ 2 * (k + m) → Builtin.growBy (k + m) r c ≤ 2 * (k + m) := by
              intro r
              induction r with
              | zero => intro c h _; exact h
              | succ r ih =>
                intro c h _
                unfold Builtin.growBy
                split
                · exact h
                · exact ih _ (by omega) (.inr (by omega))
            exact this 4 cap (by omega) (.inl (by omega))
      have h2 : Builtin.nextslicecap (k + m) cap * i.bytes ≤ 2 * (k + m) * i.bytes := Nat.mul_le_mul_right _ h1
      rw [Nat.mul_assoc] at h2
      omega
    refine ⟨some ⟨w.heap.size, 0, none⟩, grownCap w (k + m) cap E, w.drew.alloc (.cells ⟨xs ++ ys ++ (Builtin.zeroCells z.cells (grownCap w (k + m) cap E - (k + m))).toList⟩ E), ?_, ?_⟩
    · have h63' : ¬ (9223372036854775807 < ((k : Int) + (m : Int))) := by omega
      have h48' : ¬ (281474976710656 < Builtin.nextslicecap (k + m) cap * i.bytes) := hnsc
      simp [Builtin.append_, run_underlying ht, sizeOf, typeInfo, zeroValue, hi, hz, Builtin.lenOf, hroom', h63', h48', Question.forced, hfold', hf2', newRow, grownCap]
      congr 2
      apply Array.ext'
      simp [List.append_assoc]
    · intro L' hat'
      refine h.set hat' rfl ?_ ?_ (fun b hb => .inr ?_) (fun ha => by simp [Ent.isAr] at ha) (fun _ b hb => ?_)
      · exact (Chg.trans (Chg.drew w []) (Chg.alloc _ _ _)).mono (by simp)
      · refine Own.new h.size ⟨(0, 0), Free.zero _, heap_alloc_new _ _⟩ hge hcm ?_ ?_ (fun v hv => (List.mem_append.1 hv).elim (hown.2.1 v) (h1 v))
        · simp only [List.length_append, hown.1, hyl, Array.length_toList, size_zeroCells, hzs]
          rw [← Nat.add_mul, ← Nat.add_mul]; exact Nat.mul_le_mul_right _ (by omega)
        · have : (xs ++ ys).length = (k + m) * i.size := by rw [List.length_append, hown.1, hyl, Nat.add_mul]
          rw [← this]; exact List.take_left
      · simp only [Ent.blocks, List.mem_singleton] at hb; subst hb; exact Nat.le_refl _
      · have := hown.2.2.2.2
        rcases this with ⟨rfl, _⟩ | ⟨g, cur, rfl, hg, _⟩
        · simp [Ent.blocks] at hb
        · simp [Ent.blocks] at hb; omega
end
end Go.Vc
