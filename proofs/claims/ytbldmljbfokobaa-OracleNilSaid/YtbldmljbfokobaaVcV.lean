/- Bits of ints, slices that are made: rules for walks, proved here for every program of the model. Conditions: none beyond what each theorem states. -/
import Derived.Test.YtbldmljbfokobaaVcZ
set_option linter.unusedVariables false
set_option linter.unusedSimpArgs false
namespace Go.Vc
open Go.RowKit
set_option linter.unusedSectionVars false
/-! bits of ints that are not negative -/
theorem i64_u8 (x : UInt8) : IntKind.i64.wrap (x.toNat : Int) = ((x.toNat : Nat) : Int) := w64i (by have := x.toNat_lt; omega)
theorem i64_u32 (x : UInt32) : IntKind.i64.wrap (x.toNat : Int) = ((x.toNat : Nat) : Int) := w64i (by have := x.toNat_lt; omega)
theorem xor_lt {m n k : Nat} (hm : m < 2 ^ k) (hn : n < 2 ^ k) : m ^^^ n < 2 ^ k := Nat.xor_lt_two_pow hm hn
theorem bi_xorN {m n : Nat} (hm : m < 9223372036854775808) (hn : n < 9223372036854775808) : binI .xor .i64 (m : Int) (n : Int) = some (vi ((m ^^^ n : Nat) : Int)) := by
  have h : m ^^^ n < 2 ^ 63 := Nat.xor_lt_two_pow hm hn
  have e : ∀ q : Nat, BitVec.ofInt IntKind.i64.bits (q : Int) = BitVec.ofNat 64 q := fun q => BitVec.ofInt_natCast ..
  simp only [binI, e]
  congr 2
  have e2 : (BitVec.ofNat 64 m ^^^ BitVec.ofNat 64 n).toNat = m ^^^ n := by
    rw [BitVec.toNat_xor, BitVec.toNat_ofNat, BitVec.toNat_ofNat, Nat.mod_eq_of_lt (by omega), Nat.mod_eq_of_lt (by omega)]
  show IntKind.i64.wrap (((BitVec.ofNat 64 m ^^^ BitVec.ofNat 64 n).toNat : Nat) : Int) = _
  rw [e2]
  exact w64i (by omega)
theorem run_shlN (P : Program) (w : World) (T : TypeId) (m : Nat) (yk : IntKind) (s : Nat) (hs : s ≤ 64) (h : m * 2 ^ s < 9223372036854775808) : (binOp .shl T (.int .i64 (m : Int)) (.int yk s)).run P w = .ok (vi ((m * 2 ^ s : Nat) : Int)) w := by
  have h0 : ¬ ((s : Int) < 0) := by omega
  simp only [binOp, Op.shift, h0, if_false, Int.toNat_natCast, Sem.run_pure]
  congr 2
  show IntKind.i64.wrap _ = _
  rw [show min s IntKind.i64.bits = s from Nat.min_eq_left hs]
  have e : (m : Int) * 2 ^ s = ((m * 2 ^ s : Nat) : Int) := by rw [Int.natCast_mul, Int.natCast_pow]; rfl
  rw [e]
  exact w64i (by omega)
theorem run_shrN (P : Program) (w : World) (T : TypeId) (m : Nat) (yk : IntKind) (s : Nat) (hs : s ≤ 64) : (binOp .shr T (.int .i64 (m : Int)) (.int yk s)).run P w = .ok (vi ((m / 2 ^ s : Nat) : Int)) w := by
  have h0 : ¬ ((s : Int) < 0) := by omega
  simp only [binOp, Op.shift, h0, if_false, Int.toNat_natCast, Sem.run_pure]
  congr 2
  rw [show min s IntKind.i64.bits = s from Nat.min_eq_left hs]
  rw [Int.fdiv_eq_ediv_of_nonneg _ (Int.le_of_lt (Int.pow_pos (by decide))), Int.natCast_ediv, Int.natCast_pow]; rfl
theorem subLen {α : Type} {l : List α} {K a z : Nat} (hl : l.length = K) (h : a + z ≤ K) : ((l.drop a).take z).length = z := by rw [List.length_take, List.length_drop, hl]; omega
section
variable {P : Program} {n : Nat} {ops : Array Oper} {Q : Exit → Fr → World → Prop} {rest : List Oper} {F : Fr} {w w' w0 : World} {L L' : List Ent}
variable {ty : TypeId} {pos : String} {after : Array Edge} {dst : Option Tmp} {g : Option (Nat × Bool)}
/-! a cell of a slice of a block -/
theorem R.indexP {b off off' i m cap s : Nat} {T E : TypeId} {x y : Operand} {kd : IntKind} {iv : Int} (hx : evO F x = .slice (some ⟨b, off, none⟩) m cap) (hy : evO F y = .int kd iv) (hi : iv = (i : Int)) (hlt : i < m)
    (hT : P.underlying T = some (.slice E)) (hs : ∀ w, (sizeOf E).run P w = .ok s w) (hoff : off' = off + i * s) : (execOp (evO F) ⟨dst, .indexAddr T x y, ty, pos, after, g⟩).run P w = .ok (.value (.pointer (some ⟨b, off', none⟩))) w := by
  subst hi
  have hlt' : (i : Int) < (m : Int) := by omega
  have h0 : (0 : Int) ≤ i := by omega
  simp only [execOp, hx, hy, Instr.indexAt, asIntOf, Sem.run_bind, Sem.run_pure, Result.andThen_ok, run_underlying hT, h0, hlt', and_self, if_true, hs, Int.toNat_natCast, addr_add, hoff]
/-! a callee returns a block of its own, or reads one of the caller's -/
theorem HP.gotBlk {b : Nat} {T : TypeId} {segs : List Sgm} (h : HP w0 w L) (hc : Chg w w' []) (hb : w.heap.size ≤ b) (hok : SsOk segs) (hcells : CellsAt w' b T (flat segs)) : HP w0 w' (.blk b .nw T segs :: L) :=
  h.push hc ⟨hok, hcells, Nat.le_trans h.size hb⟩ rfl (fun b' hb' => by simp only [Ent.blocks, List.mem_singleton] at hb'; subst hb'; exact hb)
theorem HP.argR {b : Nat} {m : Md} {T : TypeId} {segs : List Sgm} (h : HP w0 w L) (hm : Ent.blk b m T segs ∈ L) : (Ent.blk b .ro T segs).ok w.heap.size w :=
  ⟨(h.ok _ hm).1, (h.ok _ hm).2.1, Ent.lt (h.ok _ hm) b (by simp [Ent.blocks])⟩
theorem HP.cells {b : Nat} {m : Md} {T : TypeId} {segs : List Sgm} (h : HP w0 w L) (hm : Ent.blk b m T segs ∈ L) : CellsAt w b T (flat segs) := (h.ok _ hm).2.1
theorem HP.newB {b : Nat} {T : TypeId} {segs : List Sgm} (h : HP w0 w L) (hm : Ent.blk b .nw T segs ∈ L) : w0.heap.size ≤ b := (h.ok _ hm).2.2
/-! a slice that is made -/
theorem WL.makeSl {d m : Nat} {T E : TypeId} {x y : Operand} {kx ky : IntKind} {i : TypeInfo} {z : Value} (h : HP w0 w L) (hx : evO F x = .int kx (m : Int)) (hy : evO F y = .int ky (m : Int)) (hT : P.underlying T = some (.slice E)) (hi : P.info? E = some i) (hz : i.zero = some z) (hs : i.size = 1) (h1 : z.oneCell' = true)
    (hb : i.bytes * m ≤ 281474976710656) (hm : m ≤ 140737488355328) (hd : Nat.blt d n = true) (k : ∀ b w', HP w0 w' (.row (some ⟨b, 0, none⟩) m m E 1 (List.replicate m z) :: L) → WL P n ops Q rest (upd F d (.slice (some ⟨b, 0, none⟩) m m)) w') :
    WL P n ops Q (⟨some d, .makeSlice T x y, ty, pos, after, none⟩ :: rest) F w := by
  have hw : IntKind.i64.wrap (m : Int) = m := w64i (by omega)
  have hsz : ∀ w, (sizeOf E).run P w = .ok 1 w := fun w => by simp [sizeOf, typeInfo, hi, hs]
  have hti : ∀ w, (typeInfo E).run P w = .ok i w := fun w => by simp [typeInfo, hi]
  have hzv : ∀ w, (zeroValue E).run P w = .ok z w := zv hti hz
  have hzc : z.cells = #[z] := by rw [Value.cells_one h1]
  have c1 : ¬ (((m : Int) < 0 ∨ 281474976710656 < (i.bytes : Int) * (m : Int)) ∨ (m : Int) < 0) := by
    have : (i.bytes : Int) * (m : Int) = ((i.bytes * m : Nat) : Int) := by rw [Int.natCast_mul]
    rw [this]; omega
  have hcells : Array.map (fun j => [z][j % 1]?.getD default) (Array.range m) = ⟨List.replicate m z⟩ := by
    apply Array.ext'
    simp only [Array.toList_map, Array.toList_range]
    apply List.ext_getElem
    · simp
    · intro j h1 h2
      simp [Nat.mod_one]
  have hmm : m ≤ maxLen := by unfold maxLen; omega
  have ok : SsOk [(m, List.replicate m z)] := SsOk.cons ⟨by simp, by intro v hv; obtain ⟨_, rfl⟩ := List.mem_replicate.1 hv; exact h1⟩ SsOk.nil
  have hrun : (Instr.makeSlice T (.int kx m) (.int ky m)).run P w = .ok (.slice (some ⟨w.heap.size, 0, none⟩) m m) (w.alloc (.cells ⟨List.replicate m z⟩ E)) := by
    by_cases h0 : m = 0
    · subst h0
      simp [Instr.makeSlice, run_underlying hT, asInt, asIntOf, hti, hsz, newRow, show IntKind.i64.wrap 0 = 0 from hw]
      have e0 : Array.map (fun _ => (default : Value)) (Array.range 0) = (⟨[]⟩ : Array Value) := by apply Array.ext'; simp
      rw [e0]
    · simp [Instr.makeSlice, run_underlying hT, asInt, asIntOf, hw, hti, hsz, newRow, hzv, hzc, h0]
      rw [if_neg c1, hcells]; simp
  obtain ⟨_, hh⟩ := new_core (P := P) (v := .agg ⟨List.replicate m z⟩) (T := E) h rfl ok
  have hh2 := HP.blkRow (m := m) (s := 1) hh At.h (by omega) hmm
  exact WL.val rfl rfl hd (by simp only [execOp, hx, hy, Sem.run_bind, hrun, Result.andThen_ok, Sem.run_pure]; rfl) (k _ _ hh2)
theorem cpOvrA {α : Type} {l c : List α} {i q : Nat} {f : α → Value} (hc : c.length = q) : (l.map f).take i ++ (c.map f ++ (l.map f).drop (i + q)) = (ovr l i c).map f := by
  subst hc
  rw [ovr, List.map_append, List.map_append, List.map_take, List.map_drop]
end
end Go.Vc
