/- Append of zeros: rules for walks, proved here for every program of the model. Conditions: none beyond what each theorem states. -/
import Derived.Test.YtbldmljbfokobaaVcU
set_option linter.unusedVariables false
set_option linter.unusedSimpArgs false
namespace Go.Vc
open Go.RowKit
set_option linter.unusedSectionVars false
section
variable {P : Program} {n : Nat} {ops : Array Oper} {Q : Exit → Fr → World → Prop} {rest : List Oper} {F : Fr} {w w' w0 : World} {L L' : List Ent}
variable {ty : TypeId} {pos : String} {after : Array Edge} {dst : Option Tmp} {g : Option (Nat × Bool)}
theorem appendZ_core {t t2 ty E : TypeId} {qk kk : IntKind} {i : TypeInfo} {a : Option Addr} {k cap m : Nat} {xs : List Value} (h : HP w0 w L) (hat0 : ∀ a' cap', ∃ L', At (.row a k cap E 1 xs) (.row a' (k + m) cap' E 1 (xs ++ List.replicate m (vu8 0))) L L')
    (ht : P.underlying t = some (.slice E)) (ht2 : P.underlying t2 = some (.int qk)) (hi : P.info? E = some i) (hz : i.zero = some (.int .u8 0)) (hs : i.size = 1) (hby : i.bytes = 1) (hb0 : k + m ≤ 140737488355328) :
    ∃ a' cap' w', (Builtin.append_ #[t, t2] ty #[.slice a k cap, .int kk m]).run P w = .ok (.slice a' (k + m) cap') w' ∧ (∀ L', At (.row a k cap E 1 xs) (.row a' (k + m) cap' E 1 (xs ++ List.replicate m (vu8 0))) L L' → HP w0 w' L') := by
  have hm : k + m ≤ maxLen := by unfold maxLen; omega
  have hb : (k + m) * i.bytes ≤ 140737488355328 := by rw [hby]; omega
  have hsz : ∀ w, (sizeOf E).run P w = .ok 1 w := fun w => by simp [sizeOf, typeInfo, hi, hs]
  have hti : ∀ w, (typeInfo E).run P w = .ok i w := fun w => by simp [typeInfo, hi]
  have hzv : ∀ w, (zeroValue E).run P w = .ok (.int .u8 0) w := zv hti hz
  have hneg : ¬ ((m : Int) < 0) := by omega
  have h48b : ¬ ((m : Int) * ((1 : Nat) : Int) > 2 ^ 48) := by omega
  have hwm : IntKind.i64.wrap (m : Int) = m := w64i (by omega)
  generalize hys0 : List.replicate m (vu8 0) = ys at hat0 ⊢
  have hat := hat0
  have hl : ys.length = m * 1 := by rw [← hys0]; simp
  have h1 : ∀ v ∈ ys, v.oneCell' = true := by intro v hv; rw [← hys0] at hv; rw [List.eq_of_mem_replicate hv]; rfl
  have hzc : Builtin.zeroCells (Value.int .u8 0).cells m = ⟨ys⟩ := by
    apply Array.ext'
    rw [← hys0]
    apply List.ext_getElem
    · simp [size_zeroCells, Value.cells]
    · intro i h1 h2
      simp [Builtin.zeroCells, Value.cells, Nat.mod_one]
  have hnew' : ∀ w, Sem.run P (if m = 0 then pure #[] else do
      let __do_lift ← zeroValue E
      pure (Builtin.zeroCells __do_lift.cells m)) w = .ok (⟨ys⟩ : Array Value) w := by
    intro w
    split
    · rename_i h0
      have : ys = [] := by rw [← hys0, h0]; rfl
      rw [this]; rfl
    · simp only [Sem.run_bind, hzv, Result.andThen_ok, Sem.run_pure, hzc]
  have hzs : (Value.int .u8 0).cells.size = 1 := rfl
  obtain ⟨L1, hat1⟩ := hat none 0
  have hown : Own w0.heap.size w E 1 a k cap xs := h.own hat1.mem
  have hyl : ys.length = m * 1 := hl
  by_cases hroom : k + m ≤ cap
  · -- in place
    obtain ⟨o1, o2, o3, o4, o5⟩ := hown
    rcases o5 with ⟨rfl, rfl, rfl⟩ | ⟨g, cur, rfl, hg, hc, hcl, htk⟩
    · have hm0 : m = 0 := by omega
      subst hm0
      have hy : ys = [] := List.eq_nil_of_length_eq_zero (by omega)
      have hx : xs = [] := List.eq_nil_of_length_eq_zero (by omega)
      subst hy; subst hx
      refine ⟨none, 0, w, ?_, ?_⟩
      · unfold Builtin.append_
        simp only [List.getElem?_toArray, List.getElem?_cons_zero, List.getElem?_cons_succ, Sem.run_bind, run_underlying ht, run_underlying ht2, Result.andThen_ok, hsz, hti, Sem.run_pure, asInt, asIntOf, hwm, hneg, if_false, hby, h48b, Int.toNat_natCast, if_true, Bool.not_true, Nat.mul_one, Bool.false_eq_true]
        simp [hnew']
      · intro L' hat'
        exact h.set hat' rfl (Chg.refl _ _) ⟨by simp, by simp, by simp, by simp [maxLen], .inl ⟨rfl, rfl, rfl⟩⟩ (fun b hb => .inl hb) (fun ha => by simp [Ent.isAr] at ha) (fun _ b hb => by simp [Ent.blocks] at hb)
    · have hsp : cur = xs ++ cur.drop (k * 1) := by rw [← htk, List.take_append_drop]
      have hfit : ys.length ≤ (cur.drop (k * 1)).length := by
        have h2 : (k + m) * 1 ≤ cap * 1 := Nat.mul_le_mul_right _ hroom
        rw [Nat.add_mul] at h2
        rw [List.length_drop, hyl]; omega
      rw [hsp] at hc
      obtain ⟨w', hr, hc', hch⟩ := run_storeCells P g (k * 1) E ys 0 xs _ w hc (by simpa using o1) hfit h1
      refine ⟨some ⟨g, 0, none⟩, cap, w', ?_, ?_⟩
      · unfold Builtin.append_
        simp only [List.getElem?_toArray, List.getElem?_cons_zero, List.getElem?_cons_succ, Sem.run_bind, run_underlying ht, run_underlying ht2, Result.andThen_ok, hsz, hti, Sem.run_pure, asInt, asIntOf, hwm, hneg, if_false, hby, h48b, Int.toNat_natCast, if_true, Bool.not_true, Nat.mul_one, Bool.false_eq_true]
        rw [Nat.mul_one] at hr
        by_cases h0 : m = 0
        · have hy0 : ys = [] := List.eq_nil_of_length_eq_zero (by omega)
          rw [hy0] at hr
          simp [hroom, h0, addr_add] at hr ⊢
          simp [hr]
          omega
        · simp [hroom, h0, hzv, hzc, addr_add, hr]
      · intro L' hat'
        refine h.set hat' rfl (by simpa [Ent.blocks] using hch) ?_ (fun b hb => .inl hb) (fun ha => by simp [Ent.isAr] at ha) (fun _ b hb => by simp [Ent.blocks] at hb; omega)
        refine Own.new hg hc' hroom o4 ?_ ?_ (fun v hv => (List.mem_append.1 hv).elim (o2 v) (h1 v))
        · have := congrArg List.length hsp
          simp only [List.length_append, List.length_drop] at this hfit ⊢
          omega
        · have : (xs ++ ys).length = (k + m) * 1 := by rw [List.length_append, o1, hyl, Nat.add_mul]
          rw [← this]; exact List.take_left
  · -- it grows
    have hroom' : ¬ (k + m ≤ cap) := hroom
    have hcapk : k ≤ cap := hown.2.2.1
    have hfold := run_firstCellsV (P := P) (w := w) (s := 1) (m := k) (c := cap) hown.1 hown.view
    have hfold' : (Builtin.firstCells 1 k (.slice a k cap)).run P w.drew = .ok ⟨xs⟩ w.drew := run_firstCellsV (w := w.drew) hown.1 (hown.view)
    have hsm : k + m ≤ 9223372036854775807 := by simp only [maxLen] at hm; omega
    have hge := grownCap_ge w (k + m) cap E
    have hcm := grownCap_le_maxLen w (k + m) cap E hm
    have hnsc : ¬ ((Builtin.nextslicecap (k + m) cap * i.bytes : Nat) > 2 ^ 48) := by
      have h1 : Builtin.nextslicecap (k + m) cap ≤ 2 * (k + m) := by
        have hc1 : cap + 1 ≤ k + m := by omega
        unfold Builtin.nextslicecap
        split
        · omega
        · split
          · omega
          · have : ∀ r c, c ≤ 2 * (k + m) → c < k + m ∨ c ≤ 2 * (k + m) → Builtin.growBy (k + m) r c ≤ 2 * (k + m) := by
              intro r
              induction r with
              | zero => intro c h _; exact h
              | succ r ih =>
                intro c h _
                unfold Builtin.growBy
                split
                · exact h
                · exact ih _ (by omega) (.inr (by omega))
            exact this 4 cap (by omega) (.inl (by omega))
      have h2 : Builtin.nextslicecap (k + m) cap * i.bytes ≤ 2 * (k + m) * i.bytes := Nat.mul_le_mul_right _ h1
      rw [Nat.mul_assoc] at h2
      omega
    refine ⟨some ⟨w.heap.size, 0, none⟩, grownCap w (k + m) cap E, w.drew.alloc (.cells ⟨xs ++ ys ++ (Builtin.zeroCells (Value.int .u8 0).cells (grownCap w (k + m) cap E - (k + m))).toList⟩ E), ?_, ?_⟩
    · have h63' : ¬ (9223372036854775807 < ((k : Int) + (m : Int))) := by omega
      have h48' : ¬ (281474976710656 < Builtin.nextslicecap (k + m) cap * i.bytes) := hnsc
      unfold Builtin.append_
      simp only [List.getElem?_toArray, List.getElem?_cons_zero, List.getElem?_cons_succ, Sem.run_bind, run_underlying ht, run_underlying ht2, Result.andThen_ok, hsz, hti, Sem.run_pure, asInt, asIntOf, hwm, hneg, if_false, hby, h48b, Int.toNat_natCast, if_true, Bool.not_true, Nat.mul_one, Bool.false_eq_true]
      have h0 : m ≠ 0 := by omega
      have h48c : ¬ (281474976710656 < Builtin.nextslicecap (k + m) cap) := by
        have := hnsc
        rw [hby, Nat.mul_one] at this; exact this
      simp [hroom', h63', h48c, h0, hzc, hti, hzv, Question.forced, hfold', newRow, grownCap, hby]
      congr 2
      apply Array.ext'
      simp [List.append_assoc]
    · intro L' hat'
      refine h.set hat' rfl ?_ ?_ (fun b hb => .inr ?_) (fun ha => by simp [Ent.isAr] at ha) (fun _ b hb => ?_)
      · exact (Chg.trans (Chg.drew w []) (Chg.alloc _ _ _)).mono (by simp)
      · refine Own.new h.size ⟨(0, 0), Free.zero _, heap_alloc_new _ _⟩ hge hcm ?_ ?_ (fun v hv => (List.mem_append.1 hv).elim (hown.2.1 v) (h1 v))
        · simp only [List.length_append, hown.1, hyl, Array.length_toList, size_zeroCells, hzs]
          rw [← Nat.add_mul, ← Nat.add_mul]; exact Nat.mul_le_mul_right _ (by omega)
        · have : (xs ++ ys).length = (k + m) * 1 := by rw [List.length_append, hown.1, hyl, Nat.add_mul]
          rw [← this]; exact List.take_left
      · simp only [Ent.blocks, List.mem_singleton] at hb; subst hb; exact Nat.le_refl _
      · have := hown.2.2.2.2
        rcases this with ⟨rfl, _⟩ | ⟨g, cur, rfl, hg, _⟩
        · simp [Ent.blocks] at hb
        · simp [Ent.blocks] at hb; omega

/-- append(x, make([]byte, m)...) -/
theorem WL.appendZ {d : Nat} {x y : Operand} {t t2 E : TypeId} {qk kk : IntKind} {i : TypeInfo} {a : Option Addr} {k cap m km : Nat} {xs zs : List Value} {L' : Option Addr → Nat → List Ent} (h : HP w0 w L) (hx : evO F x = .slice a k cap) (hy : evO F y = .int kk m)
    (ht : P.underlying t = some (.slice E)) (ht2 : P.underlying t2 = some (.int qk)) (hi : P.info? E = some i) (hz : i.zero = some (.int .u8 0)) (hs : i.size = 1) (hby : i.bytes = 1) (hzs : xs ++ List.replicate m (vu8 0) = zs) (hkm : k + m = km) (hb : km ≤ 140737488355328)
    (hat : ∀ a' cap', At (.row a k cap E 1 xs) (.row a' km cap' E 1 zs) L (L' a' cap')) (hd : Nat.blt d n = true)
    (K : ∀ a' cap' w', HP w0 w' (L' a' cap') → WL P n ops Q rest (upd F d (.slice a' km cap')) w') :
    WL P n ops Q (⟨some d, .call { callee := .builtin .append, args := #[x, y], argTypes := #[t, t2] }, ty, pos, after, none⟩ :: rest) F w := by
  subst hzs; subst hkm
  obtain ⟨a', cap', w', hr, hh⟩ := appendZ_core (ty := ty) (kk := kk) h (fun a' cap' => ⟨_, hat a' cap'⟩) ht ht2 hi hz hs hby hb
  refine WL.val rfl rfl hd ?_ (K a' cap' w' (hh _ (hat a' cap')))
  rw [BigFrame.execOp_builtin, BigFrame.builtin_append]
  simp only [List.map_toArray, List.map_cons, List.map_nil, hx, hy, Sem.run_bind, hr, Result.andThen_ok, Sem.run_pure]

theorem R.makeFuncL {fn : Fn} {xs ys : Array Operand} {fi ca : List Value} (hx : xs.toList.map (evO F) = fi) (hy : ys.toList.map (evO F) = ca) : (execOp (evO F) ⟨dst, .makeFunc fn xs ys, ty, pos, after, g⟩).run P w = .ok (.value (.func fn fi.toArray ca.toArray)) w := by
  subst hx; subst hy
  have e : ∀ zs : Array Operand, (zs.toList.map (evO F)).toArray = zs.map (evO F) := fun zs => by apply Array.ext'; simp
  simp only [e]
  exact R.makeFunc

/-- a literal's block read as a row of the call's own -/
theorem HP.blkRow {b K m s : Nat} {E : TypeId} {cs : List Value} (h : HP w0 w L) (hat : At (.blk b .nw E [(K, cs)]) (.row (some ⟨b, 0, none⟩) m m E s cs) L L') (hK : K = m * s) (hm : m ≤ maxLen) : HP w0 w L' := by
  obtain ⟨ok, hc, hmd⟩ := h.ok _ hat.mem
  have hl : cs.length = m * s := ok.head.len.trans hK
  refine h.turn hat (Own.new hmd hc (Nat.le_refl _) hm (Nat.le_of_eq hl.symm) ?_ ok.head.one) (fun b' hb => ?_) (fun _ => rfl) rfl rfl
  · rw [← hl]; exact List.take_length
  · simpa [Ent.blocks] using hb
end
end Go.Vc
