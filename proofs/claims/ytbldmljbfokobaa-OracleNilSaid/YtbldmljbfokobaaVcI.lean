/- Append and copy: rules for walks, proved here for every program of the model. Conditions: none beyond what each theorem states. -/
import Derived.Test.YtbldmljbfokobaaVcH
set_option linter.unusedVariables false
set_option linter.unusedSimpArgs false
namespace Go.Vc
open Go.RowKit
set_option linter.unusedSectionVars false
section
variable {P : Program} {n : Nat} {ops : Array Oper} {Q : Exit → Fr → World → Prop} {rest : List Oper} {F : Fr} {w w' w0 : World} {L : List Ent}
variable {ty : TypeId} {pos : String} {after : Array Edge} {dst : Option Tmp} {g : Option (Nat × Bool)}

theorem HP.rowNil (h : HP w0 w L) (T : TypeId) (s : Nat) : HP w0 w (.row none 0 0 T s [] :: L) :=
  h.push (Chg.refl _ _) ⟨by simp, by simp, Nat.le_refl _, by simp [maxLen], .inl ⟨rfl, rfl, rfl⟩⟩ rfl (fun b hb => by simp [Ent.blocks] at hb)

/-- what is asked of the element's type by an append -/
structure ElT (P : Program) (t E : TypeId) (s by_ : Nat) : Prop where
  sl : P.underlying t = some (.slice E)
  info : ∃ i z, P.info? E = some i ∧ i.zero = some z ∧ i.size = s ∧ i.bytes = by_ ∧ z.cells.size = s
  pos : 0 < s

theorem ElT.mk' {t E : TypeId} {s by_ : Nat} {i : TypeInfo} {z : Value} (h : P.underlying t = some (.slice E)) (hi : P.info? E = some i) (hz : i.zero = some z) (hs : i.size = s) (hb : i.bytes = by_) (hzs : z.cells.size = s) (hp : Nat.blt 0 s = true) : ElT P t E s by_ :=
  ⟨h, ⟨i, z, hi, hz, hs, hb, hzs⟩, by simpa [Nat.blt_eq] using hp⟩

theorem WL.append {d : Nat} {x y : Operand} {t E : TypeId} {s by_ : Nat} {a a2 : Option Addr} {k cap m c km : Nat} {xs ys zs : List Value} {L' : Option Addr → Nat → List Ent} (h : HP w0 w L) (hx : evO F x = .slice a k cap) (hy : evO F y = .slice a2 m c)
    (hE : ElT P t E s by_) (hv : View w a2 ys) (hl : ys.length = m * s) (h1 : ∀ v ∈ ys, v.oneCell' = true) (hz : xs ++ ys = zs) (hkm : k + m = km) (hb : km * by_ ≤ 140737488355328) (hmx : km ≤ 9223372036854775807)
    (hat : ∀ a' cap', At (.row a k cap E s xs) (.row a' km cap' E s zs) L (L' a' cap')) (hd : Nat.blt d n = true)
    (kk : ∀ a' cap' w', HP w0 w' (L' a' cap') → WL P n ops Q rest (upd F d (.slice a' km cap')) w') :
    WL P n ops Q (⟨some d, .call { callee := .builtin .append, args := #[x, y], argTypes := #[t, t] }, ty, pos, after, none⟩ :: rest) F w := by
  subst hz; subst hkm
  obtain ⟨i, z, hi, hz, hs, hby, hzs⟩ := hE.info
  obtain ⟨a', cap', w', hr, hh⟩ := append_core (ty := ty) (c := c) h (fun a' cap' => ⟨_, hat a' cap'⟩) hE.sl hi hz hs hby hzs hE.pos hl hv h1 hb (by unfold maxLen; omega)
  refine WL.val rfl rfl hd ?_ (kk a' cap' w' (hh _ (hat a' cap')))
  rw [BigFrame.execOp_builtin, BigFrame.builtin_append]
  simp only [List.map_toArray, List.map_cons, List.map_nil, hx, hy, Sem.run_bind, hr, Result.andThen_ok, Sem.run_pure]

/-! copy into an array (or a part of one) -/
theorem copy_core {t E : TypeId} {b off base i K m c dl dc : Nat} {md : Md} {Tb : TypeId} {segs segs' : List Sgm} {cs cs' ys : List Value} {a2 : Option Addr} {L' : List Ent} {q : Nat} (h : HP w0 w L) (hT : P.underlying t = some (.slice E)) (hs : ∀ w, (sizeOf E).run P w = .ok 1 w)
    (hv : View w a2 ys) (hl : ys.length = m) (h1 : ∀ v ∈ ys, v.oneCell' = true) (hat : At (.blk b md Tb segs) (.blk b md Tb segs') L L') (hmut : md ≠ .ro) (hsg : Sg (K, cs) (K, cs') base segs segs') (hoff : off = base + i) (hq : min m dl = q) (hi : i + q ≤ cs.length) (hcs : cs.take i ++ (ys.take q ++ cs.drop (i + q)) = cs') :
    ∃ w', (Builtin.copy_ #[t, t] ty #[.slice (some ⟨b, off, none⟩) dl dc, .slice a2 m c]).run P w = .ok (vi q) w' ∧ HP w0 w' L' := by
  obtain ⟨ok, hc⟩ := h.blk hat.mem
  obtain ⟨A, B, e, e', hlA⟩ := hsg.flat ok
  have hsok := hsg.ok ok
  have hqm : q ≤ m := by omega
  have hyq : (ys.take q).length = q := by rw [List.length_take, hl]; omega
  have hc0 : cs = cs.take i ++ ((cs.drop i).take q ++ cs.drop (i + q)) := by rw [← List.drop_drop, List.take_append_drop, List.take_append_drop]
  have hok' : SOk (K, cs') := ⟨by
    show cs'.length = K
    have hK : cs.length = K := hsok.len
    rw [← hcs]; simp only [List.length_append, List.length_take, List.length_drop, hl]; omega, fun v hv => by
    have hv : v ∈ cs' := hv
    rw [← hcs] at hv
    rcases List.mem_append.1 hv with hv | hv
    · exact hsok.one v (List.mem_of_mem_take hv)
    · rcases List.mem_append.1 hv with hv | hv
      · exact h1 v (List.mem_of_mem_take hv)
      · exact hsok.one v (List.mem_of_mem_drop hv)⟩
  have e1 : flat segs = (A ++ cs.take i) ++ ((cs.drop i).take q ++ (cs.drop (i + q) ++ B)) := by
    rw [e]; exact (congrArg (fun t => A ++ (t ++ B)) hc0).trans (by simp only [List.append_assoc])
  rw [e1] at hc
  have hlen1 : (A ++ cs.take i).length = off := by rw [List.length_append, List.length_take, hlA, hoff]; omega
  have hlen2 : ((cs.drop i).take q).length = q := by rw [List.length_take, List.length_drop]; omega
  obtain ⟨w', hr, hcs2, hch⟩ := run_storeCells P b off Tb (ys.take q) 0 _ _ w hc (by simpa using hlen1) (by rw [hyq, List.length_append, hlen2]; omega) (fun v hv => h1 v (List.mem_of_mem_take hv))
  have hf : (Builtin.firstCells 1 q (.slice a2 m c)).run P w = .ok ⟨ys.take q⟩ w := by
    have := run_firstCellsV (P := P) (w := w) (s := 1) (m := q) (c := c) (a := a2) (ys := ys.take q) (by rw [hyq]; omega) (hv.take q)
    cases a2 <;> simpa [Builtin.firstCells] using this
  refine ⟨w', ?_, ?_⟩
  · have hq' : Nat.min m dl = q := hq
    simp [Builtin.copy_, run_underlying hT, Builtin.lenOf, hs, hq', hf, hr, goInt]
  · refine h.set hat (by simp [Ent.mut, hmut]) (by simpa [Ent.blocks] using hch) ⟨hsg.ok' ok hok', ?_, (h.ok _ hat.mem).2.2⟩ (fun b' hb => .inl hb) (fun ha => ⟨ha, rfl⟩) (fun ha b' hb => ?_)
    · rw [e']
      have : A ++ (cs' ++ B) = A ++ cs.take i ++ ys.take q ++ List.drop (ys.take q).length ((cs.drop i).take q ++ (cs.drop (i + q) ++ B)) := by
        rw [hyq, show List.drop q ((cs.drop i).take q ++ (cs.drop (i + q) ++ B)) = cs.drop (i + q) ++ B by
          conv => lhs; arg 1; rw [← hlen2]
          exact List.drop_left, ← hcs]
        simp only [List.append_assoc]
      rw [show ((K, cs') : Sgm).2 = cs' from rfl, this]; exact hcs2
    · simp only [Ent.blocks, List.mem_singleton] at hb
      subst hb
      have := (h.ok _ hat.mem).2.2
      cases md with
      | ro => exact absurd rfl hmut
      | ar => simp [Ent.isAr] at ha
      | nw => exact this

theorem WL.copy {d : Nat} {x y : Operand} {t E : TypeId} {b off base i K m c dl dc : Nat} {md : Md} {Tb : TypeId} {segs segs' : List Sgm} {cs cs' ys : List Value} {a2 : Option Addr} {L' : List Ent} {q : Nat} (h : HP w0 w L) (hx : evO F x = .slice (some ⟨b, off, none⟩) dl dc) (hy : evO F y = .slice a2 m c) (hT : P.underlying t = some (.slice E)) (hs : ∀ w, (sizeOf E).run P w = .ok 1 w)
    (hv : View w a2 ys) (hl : ys.length = m) (h1 : ∀ v ∈ ys, v.oneCell' = true) (hat : At (.blk b md Tb segs) (.blk b md Tb segs') L L') (hmut : md ≠ .ro) (hsg : Sg (K, cs) (K, cs') base segs segs') (hoff : off = base + i) (hq : min m dl = q) (hi : i + q ≤ cs.length) (hcs : cs.take i ++ (ys.take q ++ cs.drop (i + q)) = cs') (hd : Nat.blt d n = true)
    (kk : ∀ w', HP w0 w' L' → WL P n ops Q rest (upd F d (vi q)) w') :
    WL P n ops Q (⟨some d, .call { callee := .builtin .copy, args := #[x, y], argTypes := #[t, t] }, ty, pos, after, none⟩ :: rest) F w := by
  obtain ⟨w', hr, hh⟩ := copy_core (P := P) (ty := ty) (c := c) (dc := dc) h hT hs hv hl h1 hat hmut hsg hoff hq hi hcs
  refine WL.val rfl rfl hd ?_ (kk w' hh)
  rw [BigFrame.execOp_builtin, BigFrame.builtin_copy]
  simp only [List.map_toArray, List.map_cons, List.map_nil, hx, hy, Sem.run_bind, hr, Result.andThen_ok, Sem.run_pure]

theorem WL.copy0 {x y : Operand} {t E : TypeId} {b off base i K m c dl dc : Nat} {md : Md} {Tb : TypeId} {segs segs' : List Sgm} {cs cs' ys : List Value} {a2 : Option Addr} {L' : List Ent} {q : Nat} (h : HP w0 w L) (hx : evO F x = .slice (some ⟨b, off, none⟩) dl dc) (hy : evO F y = .slice a2 m c) (hT : P.underlying t = some (.slice E)) (hs : ∀ w, (sizeOf E).run P w = .ok 1 w)
    (hv : View w a2 ys) (hl : ys.length = m) (h1 : ∀ v ∈ ys, v.oneCell' = true) (hat : At (.blk b md Tb segs) (.blk b md Tb segs') L L') (hmut : md ≠ .ro) (hsg : Sg (K, cs) (K, cs') base segs segs') (hoff : off = base + i) (hq : min m dl = q) (hi : i + q ≤ cs.length) (hcs : cs.take i ++ (ys.take q ++ cs.drop (i + q)) = cs')
    (kk : ∀ w', HP w0 w' L' → WL P n ops Q rest F w') :
    WL P n ops Q (⟨none, .call { callee := .builtin .copy, args := #[x, y], argTypes := #[t, t] }, ty, pos, after, none⟩ :: rest) F w := by
  obtain ⟨w', hr, hh⟩ := copy_core (P := P) (ty := ty) (c := c) (dc := dc) h hT hs hv hl h1 hat hmut hsg hoff hq hi hcs
  refine WL.val0 (v := vi q) rfl rfl ?_ (kk w' hh)
  rw [BigFrame.execOp_builtin, BigFrame.builtin_copy]
  simp only [List.map_toArray, List.map_cons, List.map_nil, hx, hy, Sem.run_bind, hr, Result.andThen_ok, Sem.run_pure]

theorem one_u8 (bs : List UInt8) : ∀ v ∈ bs.map vu8, v.oneCell' = true := by simp [Value.oneCell']
theorem one_u32 (bs : List UInt32) : ∀ v ∈ bs.map vu32, v.oneCell' = true := by simp [Value.oneCell']
theorem one_u64 (bs : List UInt64) : ∀ v ∈ bs.map vu64, v.oneCell' = true := by simp [Value.oneCell']
end
end Go.Vc
namespace Go.Vc
theorem eqT {α : Type} {a b : α} (h : a = b) : (a = b) = (true = true) := by simp [h]
theorem eqF {α : Type} {a b : α} (h : a ≠ b) : (a = b) = (false = true) := by simp [h]
theorem neT {α : Type} {a b : α} (h : a = b) : (a = b) = (false = false) := by simp [h]
theorem neF {α : Type} {a b : α} (h : a ≠ b) : (a = b) = (true = false) := by simp [h]
theorem decT (p : Prop) [Decidable p] : p = (decide p = true) := by simp
theorem decN (p : Prop) [Decidable p] : p = ((!decide p) = false) := by simp
def fieldsAt (P : Program) (t : TypeId) : Array Field := match P.underlying t with | some (.struct fs) => fs | _ => #[]
theorem cpAll {α : Type} {K : Nat} {c a : List α} {f : α → Value} (hc : c.length = K) (ha : a.length = K) : (a.map f).take 0 ++ ((c.map f).take K ++ (a.map f).drop (0 + K)) = c.map f := by
  rw [Nat.zero_add, List.take_zero, List.nil_append, List.take_of_length_le (by simp [hc]), List.drop_of_length_le (by simp [ha]), List.append_nil]
theorem cpPre {α : Type} {q : Nat} {c a : List α} {f : α → Value} (hc : c.length = q) : (a.map f).take 0 ++ ((c.map f).take q ++ (a.map f).drop (0 + q)) = (c ++ a.drop q).map f := by
  rw [Nat.zero_add, List.take_zero, List.nil_append, List.take_of_length_le (by simp [hc]), List.map_append, List.map_drop]
theorem cpLen {α : Type} {q K : Nat} {c a : List α} (hc : c.length = q) (ha : a.length = K) (h : Nat.ble q K = true) : (c ++ a.drop q).length = K := by
  have := Nat.le_of_ble_eq_true h
  rw [List.length_append, List.length_drop, hc, ha]; omega
theorem SOk.rep {k : Nat} {v : Value} (h : v.oneCell' = true) : SOk (k, List.replicate k v) := ⟨by simp, fun x hx => by rw [List.eq_of_mem_replicate hx]; exact h⟩
end Go.Vc
