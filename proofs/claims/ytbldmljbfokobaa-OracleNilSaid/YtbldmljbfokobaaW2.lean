/- An append onto bytes that are read from then on. Conditions: those that each theorem states. -/
import Derived.Test.YtbldmljbfokobaaW1
set_option linter.unusedVariables false
set_option linter.unusedSimpArgs false
namespace Go.Vc
open Go.RowKit
set_option linter.unusedSectionVars false
section
variable {P : Program} {n : Nat} {Q : Exit → Fr → World → Prop} {rest : List Oper} {F : Fr} {w w' w0 : World} {L : List Ent} {ops : Array Oper} {pos : String} {after : Array Edge} {ty : TypeId}
theorem append_keep {t ty E : TypeId} {i : TypeInfo} {z : Value} {s by_ : Nat} {a a2 : Option Addr} {k cap m c : Nat} {xs ys : List Value} (h : HP w0 w (.row a k cap E s xs :: L))
    (ht : P.underlying t = some (.slice E)) (hi : P.info? E = some i) (hz : i.zero = some z) (hs : i.size = s) (hby : i.bytes = by_) (hzs : z.cells.size = s) (hs0 : 0 < s)
    (hl : ys.length = m * s) (hv : View w a2 ys) (h1 : ∀ v ∈ ys, v.oneCell' = true) (hb : (k + m) * by_ ≤ 140737488355328) (hm : k + m ≤ maxLen) :
    ∃ a' cap' w', (Builtin.append_ #[t, t] ty #[.slice a k cap, .slice a2 m c]).run P w = .ok (.slice a' (k + m) cap') w' ∧ HP w0 w' (.view a' (xs ++ ys) :: .view a xs :: L) := by
  subst hs; subst hby
  have hown : Own w0.heap.size w E i.size a k cap xs := h.own (List.mem_cons_self ..)
  have hf2 := run_firstCellsV (P := P) (w := w) (s := i.size) (m := m) (c := c) hl hv
  have hyl : ys.length = m * i.size := hl
  by_cases hroom : k + m ≤ cap
  · obtain ⟨o1, o2, o3, o4, o5⟩ := hown
    rcases o5 with ⟨rfl, rfl, rfl⟩ | ⟨g, cur, rfl, hg, hc, hcl, htk⟩
    · have hm0 : m = 0 := by omega
      subst hm0
      have hy : ys = [] := by cases ys <;> simp_all
      have hx : xs = [] := by cases xs <;> simp_all
      subst hy; subst hx
      refine ⟨none, 0, w, ?_, ?_⟩
      · simp [Builtin.append_, run_underlying ht, sizeOf, typeInfo, hi, Builtin.lenOf, hf2]
      · have h2 := h.rowView
        exact h2.within (List.mem_cons_self ..) rfl (View.arg (View.nil _ _)) rfl rfl (fun b hb => hb)
    · have hsp : cur = xs ++ cur.drop (k * i.size) := by rw [← htk, List.take_append_drop]
      have hfit : ys.length ≤ (cur.drop (k * i.size)).length := by
        have h2 : (k + m) * i.size ≤ cap * i.size := Nat.mul_le_mul_right _ hroom
        rw [Nat.add_mul] at h2
        rw [List.length_drop, hyl]; omega
      rw [hsp] at hc
      obtain ⟨w', hr, hc', hch⟩ := run_storeCells P g (k * i.size) E ys 0 xs _ w hc (by simpa using o1) hfit h1
      refine ⟨some ⟨g, 0, none⟩, cap, w', ?_, ?_⟩
      · simp [Builtin.append_, run_underlying ht, sizeOf, typeInfo, hi, Builtin.lenOf, hroom, hf2, addr_add, hr]
      · have h2 : HP w0 w' (.row (some ⟨g, 0, none⟩) (k + m) cap E i.size (xs ++ ys) :: L) := by
          refine h.set .h rfl (by simpa [Ent.blocks] using hch) ?_ (fun b hb => .inl hb) (fun ha => by simp [Ent.isAr] at ha) (fun _ b hb => by simp [Ent.blocks] at hb; omega)
          refine Own.new hg hc' hroom o4 ?_ ?_ (fun v hv => (List.mem_append.1 hv).elim (o2 v) (h1 v))
          · have := congrArg List.length hsp
            simp only [List.length_append, List.length_drop] at this hfit ⊢
            omega
          · have : (xs ++ ys).length = (k + m) * i.size := by rw [List.length_append, o1, hyl, Nat.add_mul]
            rw [← this]; exact List.take_left
        have h3 := h2.rowView
        have hva : View w' (some ⟨g, 0, none⟩) (xs ++ ys) := viewV (h3.ok _ (List.mem_cons_self ..))
        have hvx : View w' (some ⟨g, 0, none⟩) xs := by
          have := hva.take xs.length
          rwa [List.take_left] at this
        have h4 := h3.within (e' := .view (some ⟨g, 0, none⟩) xs) (List.mem_cons_self ..) rfl (View.arg hvx) rfl rfl (fun b hb => by
          cases xs with
          | nil => simp [Ent.blocks] at hb
          | cons x r => simpa [Ent.blocks] using hb)
        exact h4.up (.t .h)
  · have hroom' : ¬ (k + m ≤ cap) := hroom
    have hcapk : k ≤ cap := hown.2.2.1
    have hfold' : (Builtin.firstCells i.size k (.slice a k cap)).run P w.drew = .ok ⟨xs⟩ w.drew := run_firstCellsV (w := w.drew) hown.1 (hown.view)
    have hf2' : (Builtin.firstCells i.size m (.slice a2 m c)).run P w.drew = .ok ⟨ys⟩ w.drew := run_firstCellsV (w := w.drew) hl hv
    have hge := grownCap_ge w (k + m) cap E
    have hcm := grownCap_le_maxLen w (k + m) cap E hm
    have hnsc : ¬ ((Builtin.nextslicecap (k + m) cap * i.bytes : Nat) > 2 ^ 48) := by
      have h1 : Builtin.nextslicecap (k + m) cap ≤ 2 * (k + m) := by
        have hc1 : cap + 1 ≤ k + m := by omega
        unfold Builtin.nextslicecap
        split
        · omega
        · split
          · omega
          · have : ∀ r c, c ≤ 2 * (k + m) → c < k + m ∨ c ≤ 2 * (k + m) → Builtin.growBy (k + m) r c ≤ 2 * (k + m) := by
              intro r
              induction r with
              | zero => intro c h _; exact h
              | succ r ih =>
                intro c h _
                unfold Builtin.growBy
                split
                · exact h
                · exact ih _ (by omega) (.inr (by omega))
            exact this 4 cap (by omega) (.inl (by omega))
      have h2 : Builtin.nextslicecap (k + m) cap * i.bytes ≤ 2 * (k + m) * i.bytes := Nat.mul_le_mul_right _ h1
      rw [Nat.mul_assoc] at h2
      omega
    have hsm : k + m ≤ 9223372036854775807 := by simp only [maxLen] at hm; omega
    refine ⟨some ⟨w.heap.size, 0, none⟩, grownCap w (k + m) cap E, w.drew.alloc (.cells ⟨xs ++ ys ++ (Builtin.zeroCells z.cells (grownCap w (k + m) cap E - (k + m))).toList⟩ E), ?_, ?_⟩
    · have h63' : ¬ (9223372036854775807 < ((k : Int) + (m : Int))) := by omega
      have h48' : ¬ (281474976710656 < Builtin.nextslicecap (k + m) cap * i.bytes) := hnsc
      simp [Builtin.append_, run_underlying ht, sizeOf, typeInfo, zeroValue, hi, hz, Builtin.lenOf, hroom', h63', h48', Question.forced, hfold', hf2', newRow, grownCap]
      congr 2
      apply Array.ext'
      simp [List.append_assoc]
    · have hch : Chg w (w.drew.alloc (.cells ⟨xs ++ ys ++ (Builtin.zeroCells z.cells (grownCap w (k + m) cap E - (k + m))).toList⟩ E)) [] := (Chg.trans (Chg.drew w []) (Chg.alloc _ _ _)).mono (by simp)
      refine (HP.gotRow h.rowView hch (T := E) (s := i.size) (n := k + m) (cap := grownCap w (k + m) cap E) ?_).rowView
      refine Own.new (Nat.le_refl _) ⟨(0, 0), Free.zero _, heap_alloc_new _ _⟩ hge hcm ?_ ?_ (fun v hv => (List.mem_append.1 hv).elim (hown.2.1 v) (h1 v))
      · simp only [List.length_append, hown.1, hyl, Array.length_toList, size_zeroCells, hzs]
        rw [← Nat.add_mul, ← Nat.add_mul]; exact Nat.mul_le_mul_right _ (by omega)
      · have : (xs ++ ys).length = (k + m) * i.size := by rw [List.length_append, hown.1, hyl, Nat.add_mul]
        rw [← this]; exact List.take_left
theorem WL.appendK {d : Nat} {x y : Operand} {t E : TypeId} {s by_ : Nat} {a a2 : Option Addr} {k cap m c km : Nat} {xs ys zs : List Value} (h : HP w0 w (.row a k cap E s xs :: L)) (hx : evO F x = .slice a k cap) (hy : evO F y = .slice a2 m c)
    (hE : ElT P t E s by_) (hv : View w a2 ys) (hl : ys.length = m * s) (h1 : ∀ v ∈ ys, v.oneCell' = true) (hz : xs ++ ys = zs) (hkm : k + m = km) (hb : km * by_ ≤ 140737488355328) (hmx : km ≤ 9223372036854775807)
    (hd : Nat.blt d n = true)
    (kk : ∀ a' cap' w', HP w0 w' (.view a' zs :: .view a xs :: L) → WL P n ops Q rest (upd F d (.slice a' km cap')) w') :
    WL P n ops Q (⟨some d, .call { callee := .builtin .append, args := #[x, y], argTypes := #[t, t] }, ty, pos, after, none⟩ :: rest) F w := by
  subst hz; subst hkm
  obtain ⟨i, z, hi, hz, hs, hby, hzs⟩ := hE.info
  obtain ⟨a', cap', w', hr, hh⟩ := append_keep (ty := ty) (c := c) h hE.sl hi hz hs hby hzs hE.pos hl hv h1 hb (by unfold maxLen; omega)
  refine WL.val rfl rfl hd ?_ (kk a' cap' w' hh)
  rw [BigFrame.execOp_builtin, BigFrame.builtin_append]
  simp only [List.map_toArray, List.map_cons, List.map_nil, hx, hy, Sem.run_bind, hr, Result.andThen_ok, Sem.run_pure]
end
end Go.Vc
namespace Go.Wr
open Go.Vc
theorem unpk_len : ∀ {c : Nat} {r : List UInt8} {ls : List (List UInt8)}, unpk c r = some ls → ls.length ≤ c
  | 0, r, ls, h => by rw [unpk] at h; split at h <;> cases h; exact Nat.le_refl _
  | c + 1, r, ls, h => by
    rw [unpk] at h
    split at h
    · cases h; exact Nat.zero_le _
    split at h
    · cases h
    split at h
    · cases h
    rcases e : unpk c ((r.drop 4).drop (natLE (r.take 4))) with _ | m
    · rw [e] at h; cases h
    · rw [e] at h; cases h
      have := unpk_len e
      simp; omega
end Go.Wr
