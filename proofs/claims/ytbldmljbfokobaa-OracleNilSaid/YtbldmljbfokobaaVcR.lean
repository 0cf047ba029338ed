/- One-sided operations, carries: rules for walks, proved here for every program of the model. Conditions: none beyond what each theorem states. -/
import Derived.Test.YtbldmljbfokobaaVcO
import Derived.Laws.Externs
set_option linter.unusedVariables false
set_option linter.unusedSimpArgs false
namespace Go.Vc
open Go.RowKit
set_option linter.unusedSectionVars false
section
variable {P : Program} {F : Fr} {w : World}
variable {ty : TypeId} {pos : String} {after : Array Edge} {dst : Option Tmp} {g : Option (Nat × Bool)}
theorem R.un {op : UnOp} {x : Operand} {T : TypeId} {v0 v : Value} (hx : evO F x = v0) (hv : ∀ w, (Op.unary op v0).run P w = .ok v w) : (execOp (evO F) ⟨dst, .unOp op T x, ty, pos, after, g⟩).run P w = .ok (.value v) w := by simp [execOp, hx, hv]
end
theorem run_neg {P : Program} {a c : Int} (hc : c = -a) (h : -9223372036854775808 ≤ c ∧ c < 9223372036854775808) (w : World) : (Op.unary .neg (vi a)).run P w = .ok (vi c) w := by
  show Result.ok (Value.int .i64 (IntKind.i64.wrap (0 - a))) w = _
  rw [w64i (by omega), show (0 : Int) - a = c by omega]
theorem run_not32 {P : Program} (a : UInt32) (w : World) : (Op.unary .xor (vu32 a)).run P w = .ok (vu32 (~~~a)) w := by
  show Result.ok (Value.int .u32 (IntKind.u32.wrap (((BitVec.ofInt IntKind.u32.bits (4294967295 : Int)) ^^^ BitVec.ofInt IntKind.u32.bits (a.toNat : Int)).toNat : Int))) w = _
  rw [bv32]
  have e : @HXor.hXor (BitVec 32) (BitVec 32) (BitVec 32) _ (BitVec.ofInt IntKind.u32.bits (4294967295 : Int)) a.toBitVec = (~~~a).toBitVec := by
    show BitVec.ofInt 32 (4294967295 : Int) ^^^ a.toBitVec = ~~~a.toBitVec
    have : BitVec.ofInt 32 (4294967295 : Int) = BitVec.allOnes 32 := by decide
    rw [this, BitVec.allOnes_xor]
  have e2 := w32_back (@HXor.hXor (BitVec 32) (BitVec 32) (BitVec 32) _ (BitVec.ofInt IntKind.u32.bits (4294967295 : Int)) a.toBitVec)
  refine (congrArg (fun x : Int => Result.ok (Value.int .u32 x) w) e2).trans ?_
  rw [e]; rfl
/-- the carry of two words -/
def cry (x y : UInt64) : UInt64 := UInt64.ofNat ((x.toNat + y.toNat) / 18446744073709551616)
theorem nat_add64 {P : Program} {f : FuncId} {fn : Func} (hf : P.funcs[f]? = some fn) (hname : (fn.name == "runtime.NumGoroutine") = false) (hb : fn.body.isNone = true) (hn : Extern.findNext fn = none) (he : Extern.find fn = some add64Entry) (x y : UInt64) :
    ∀ w, (callFunc f [vu64 x, vu64 y, vu64 0].toArray).run P w = .ok (.value (.tuple [vu64 (x + y), vu64 (cry x y)].toArray)) w := fun w => by
  rw [run_callFunc_extern hf hname hb hn he]
  have hx := x.toNat_lt
  have hy := y.toNat_lt
  have h := run_add64 (P := P) (x.toNat : Int) (y.toNat : Int) 0 (by omega) (by omega) (by omega) (by omega) w
  have e2 : [vu64 x, vu64 y, vu64 0].toArray = #[Value.int .u64 (x.toNat : Int), Value.int .u64 (y.toNat : Int), Value.int .u64 0] := rfl
  rw [e2, h]
  have e3 : ((x.toNat : Int) + (y.toNat : Int) + 0) % 18446744073709551616 = ((x + y).toNat : Int) := by
    rw [UInt64.toNat_add]; omega
  have e4 : ((x.toNat : Int) + (y.toNat : Int) + 0) / 18446744073709551616 = ((cry x y).toNat : Int) := by
    rw [cry, UInt64.toNat_ofNat']; omega
  rw [e3, e4]
  rfl
/-! bytes of a literal, told to be bytes: their room is marked -/
section
variable {P : Program} {n : Nat} {ops : Array Oper} {Q : Exit → Fr → World → Prop} {rest : List Oper} {F : Fr} {w w' w0 : World} {L L' : List Ent}
variable {ty : TypeId} {pos : String} {after : Array Edge} {dst : Option Tmp} {g : Option (Nat × Bool)}
theorem cells_mark {w : World} {b : Nat} {T : TypeId} {cs : List Value} (h : CellsAt w b T cs) : CellsAt (w.freeze ⟨b, cs.length, none⟩ 1) b T cs := by
  obtain ⟨⟨lo, hi⟩, ⟨hle, hf⟩, hh⟩ := h
  refine ⟨if lo == hi then (cs.length, cs.length + 1) else (min lo cs.length, max hi (cs.length + 1)), ?_, ?_⟩
  · by_cases e : lo = hi
    · subst e
      simp only [beq_self_eq_true, if_true]
      exact ⟨Nat.le_succ _, fun i hi h => by have h1 := h.1; simp only at h1; omega⟩
    · have e2 : (lo == hi) = false := by simpa using e
      rw [e2]
      simp only at hle
      have hlo : cs.length ≤ lo := by
        by_cases hc : cs.length ≤ lo
        · exact hc
        · exact absurd ⟨Nat.le_refl lo, show lo < hi by omega⟩ (hf lo (by omega))
      refine ⟨?_, fun i hi2 h => ?_⟩
      · show min lo cs.length ≤ max hi (cs.length + 1)
        omega
      · have h1 : min lo cs.length ≤ i := h.1
        omega
  · simp only [World.freeze, Nat.one_ne_zero, if_false, Array.getElem?_modify, if_true, hh]
    simp
theorem WL.convSl {d : Nat} {S E : TypeId} {x : Operand} {b m c : Nat} {md : Md} {T : TypeId} {segs : List Sgm} (h : HP w0 w L) (hx : evO F x = .slice (some ⟨b, 0, none⟩) m c) (hS : P.underlying S = some (.slice E)) (hE : P.underlying E = some (.int .u8)) (hat : At (.blk b md T segs) (.blk b md T segs) L L) (hmut : md ≠ .ro) (hd : Nat.blt d n = true)
    (k : ∀ w', HP w0 w' L → WL P n ops Q rest (upd F d (.slice (some ⟨b, 0, none⟩) m c)) w') : WL P n ops Q (⟨some d, .convert S S x, ty, pos, after, none⟩ :: rest) F w := by
  obtain ⟨ok, hc⟩ := h.blk hat.mem
  have hmd := (h.ok _ hat.mem).2.2
  obtain ⟨cs, hcs⟩ : ∃ cs, cs = flat segs := ⟨_, rfl⟩
  rw [← hcs] at hc
  have hc2 := cells_mark hc
  have hch : Chg w (w.freeze ⟨b, cs.length, none⟩ 1) [b] := by
    refine ⟨rfl, rfl, rfl, by simp [World.freeze], fun k hk hn => ?_⟩
    have hne : b ≠ k := fun e => hn (by simp [e])
    simp only [World.freeze, Nat.one_ne_zero, if_false, Array.getElem?_modify, hne, if_false]
  have hp : HP w0 (w.freeze ⟨b, cs.length, none⟩ 1) L := h.passed (segs' := segs) hat hmut hch ok (by rw [← hcs]; exact hc2)
  refine WL.val rfl rfl hd ?_ (k _ hp)
  obtain ⟨fz, _, hh⟩ := hc
  have hs2 : World.shape? w b = some (T, cs.length) := by simp [World.shape?, hh]
  simp only [execOp, hx, Sem.run_bind, convert, run_underlying hS, run_underlying hE, Result.andThen_ok, beq_self_eq_true, markStringish, run_shape, hs2, Sem.run_pure]
  rfl
end
end Go.Vc
