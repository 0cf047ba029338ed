/- Pointers of the library, scopes: rules for walks, proved here for every program of the model. Conditions: none beyond what each theorem states. -/
import Derived.Test.YtbldmljbfokobaaVcQ
import Derived.Lib.Builder
import Derived.Lib.UnsafeStr
import Derived.Lib.Bytealg
import Derived.Laws.Externs
import Derived.Scope
set_option linter.unusedVariables false
set_option linter.unusedSimpArgs false
namespace Go.Vc
open Go.RowKit
set_option linter.unusedSectionVars false
section
variable {P : Program} {n : Nat} {ops : Array Oper} {Q : Exit → Fr → World → Prop} {rest : List Oper} {F : Fr} {w w' w0 : World} {L L' : List Ent}
variable {ty : TypeId} {pos : String} {after : Array Edge} {dst : Option Tmp} {g : Option (Nat × Bool)}
/-! pointers turned to numbers of the library's and back -/
theorem shape_blk {b B : Nat} {m : Md} {T : TypeId} {segs : List Sgm} (he : (Ent.blk b m T segs).ok B w) : w.shape? b = some (T, lenS segs) := by
  obtain ⟨ok, ⟨fz, _, hh⟩, _⟩ := he
  simp [World.shape?, hh, ok.len]
theorem R.toUnsafe {b off B : Nat} {m : Md} {T S D t : TypeId} {segs : List Sgm} {x : Operand} {j : TypeInfo} (hx : evO F x = .pointer (some ⟨b, off, none⟩)) (hS : P.underlying S = some (.pointer t)) (hD : P.underlying D = some .unsafePointer) (ht : P.info? t = some j) (hj : Nat.blt 0 j.size = true)
    (he : (Ent.blk b m T segs).ok B w) (ho : Nat.blt off (Go.Vc.lenS segs) = true) : (execOp (evO F) ⟨dst, .convert S D x, ty, pos, after, g⟩).run P w = .ok (.value (.pointer (some ⟨b, off, none⟩))) w := by
  have h0 : j.size ≠ 0 := by intro e; rw [e] at hj; cases hj
  have := Lib.run_to_unsafe w ⟨b, off, none⟩ hS hD ht h0 (shape_blk he) (by simpa [Nat.blt_eq] using ho)
  simp only [execOp, hx, Sem.run_bind, this, Result.andThen_ok, Sem.run_pure]
theorem R.fromUnsafe {b off B : Nat} {m : Md} {T S D u : TypeId} {segs : List Sgm} {x : Operand} {j : TypeInfo} (hx : evO F x = .pointer (some ⟨b, off, none⟩)) (hS : P.underlying S = some .unsafePointer) (hD : P.underlying D = some (.pointer u)) (hu : P.info? u = some j)
    (he : (Ent.blk b m T segs).ok B w) (hl : liesAt P P.depth T (Go.Vc.lenS segs / P.cellsOf T) off u 1 = true) : (execOp (evO F) ⟨dst, .convert S D x, ty, pos, after, g⟩).run P w = .ok (.value (.pointer (some ⟨b, off, none⟩))) w := by
  have := Lib.run_from_unsafe w ⟨b, off, none⟩ hS hD hu (shape_blk he) hl
  simp only [execOp, hx, Sem.run_bind, this, Result.andThen_ok, Sem.run_pure]
/-! a function that the model itself answers -/
theorem R.native {f : Operand} {xs : List Operand} {ats : Array TypeId} {fid : FuncId} {fi ca al : List Value} {v : Value} (hf : evO F f = .func (.func fid) fi.toArray ca.toArray) (hal : fi ++ xs.map (evO F) ++ ca = al) (hcf : ∀ w, (callFunc fid al.toArray).run P w = .ok (.value v) w) :
    (execOp (evO F) ⟨dst, .call { callee := .value f, args := xs.toArray, argTypes := ats }, ty, pos, after, g⟩).run P w = .ok (.value v) w := by
  subst hal
  have h := hcf w
  simp [execOp, resolve, hf, Deferred.ofValue, invoke] at h ⊢
  exact h
/-! the string of a row's bytes -/
theorem R.usdRow {x : Operand} {a : Addr} {m c : Nat} {ats : Array TypeId} (hx : evO F x = .slice (some a) m c) (hc : c ≠ 0) : (execOp (evO F) ⟨dst, .call { callee := .builtin .unsafeSliceData, args := #[x], argTypes := ats }, ty, pos, after, g⟩).run P w = .ok (.value (.pointer (some a))) w := by
  rw [BigFrame.execOp_builtin, BigFrame.builtin_unsafeSliceData]
  have h := Lib.run_unsafeSliceData_row (P := P) (w := w) ats ty a m c hc
  simp only [List.map_toArray, List.map_cons, List.map_nil, hx] at h ⊢
  simp only [Sem.run_bind, h, Result.andThen_ok, Sem.run_pure]
theorem R.usdNil {x : Operand} {m c : Nat} {ats : Array TypeId} (hx : evO F x = .slice none m c) : (execOp (evO F) ⟨dst, .call { callee := .builtin .unsafeSliceData, args := #[x], argTypes := ats }, ty, pos, after, g⟩).run P w = .ok (.value (.pointer none)) w := by
  rw [BigFrame.execOp_builtin, BigFrame.builtin_unsafeSliceData]
  have h := Lib.run_unsafeSliceData_nil (P := P) (w := w) ats ty m c
  simp only [List.map_toArray, List.map_cons, List.map_nil, hx] at h ⊢
  simp only [Sem.run_bind, h, Result.andThen_ok, Sem.run_pure]
theorem R.usStr0 {x y : Operand} {p : Option Addr} {pt it : TypeId} (hx : evO F x = .pointer p) (hy : evO F y = .int .i64 0) : (execOp (evO F) ⟨dst, .call { callee := .builtin .unsafeString, args := #[x, y], argTypes := #[pt, it] }, ty, pos, after, g⟩).run P w = .ok (.value (.string (bstr []))) w := by
  rw [BigFrame.execOp_builtin, BigFrame.builtin_unsafeString]
  have h := Lib.run_unsafeString_none (P := P) w pt it ty p
  simp only [List.map_toArray, List.map_cons, List.map_nil, hx, hy] at h ⊢
  simp only [Sem.run_bind, h, Result.andThen_ok, Sem.run_pure]
  rfl
theorem Chg.freeze (w : World) (b m : Nat) : Chg w (w.freeze ⟨b, 0, none⟩ m) [b] := by
  unfold World.freeze
  split
  · exact Chg.refl _ _
  · refine ⟨rfl, rfl, rfl, by simp, fun k _ hk => ?_⟩
    have hne : b ≠ k := fun e => hk (by simp [e])
    simp [Array.getElem?_modify, hne]
theorem WL.usString {d gb m cap : Nat} {E pt it : TypeId} {x y : Operand} {l : List UInt8} (h : HP w0 w (.row (some ⟨gb, 0, none⟩) m cap E 1 (l.map vu8) :: L)) (hl : l.length = m) (h0 : 1 ≤ m) (hp : P.underlying pt = some (.pointer E)) (hc : P.cellsOf E = 1)
    (hx : evO F x = .pointer (some ⟨gb, 0, none⟩)) (hy : evO F y = .int .i64 (m : Int)) (hm : m ≤ 9223372036854775807) (hd : Nat.blt d n = true) (k : ∀ w', HP w0 w' L → WL P n ops Q rest (upd F d (.string (bstr l))) w') :
    WL P n ops Q (⟨some d, .call { callee := .builtin .unsafeString, args := #[x, y], argTypes := #[pt, it] }, ty, pos, after, none⟩ :: rest) F w := by
  subst hl
  have ho := h.own (List.mem_cons_self ..)
  have hv := ho.view
  have hB := Own.blk2 ho
  obtain ⟨_, _, hn, _, h5⟩ := ho
  rcases h5 with ⟨e, _⟩ | ⟨gb', cur, e, _, hcell, hcl, _⟩
  · cases e
  · cases e
    have hne : l ≠ [] := by intro e; rw [e] at h0; simp at h0
    obtain ⟨fz, _, hh⟩ := hcell
    have hsh : w.shape? gb = some (E, cur.length) := by simp [World.shape?, hh]
    have hrun := Lib.run_unsafeString_row (P := P) w pt it ty E hp hc gb cur.length hsh l hne (by omega) hm (fun j x hj => by
      obtain ⟨ad, e, hc'⟩ := hv j (vu8 x) (by simp [hj])
      cases e; exact hc')
    refine WL.val rfl rfl hd ?_ (k _ (h.lose (by simpa [Ent.blocks] using Chg.freeze w gb l.length) rfl rfl hB))
    rw [BigFrame.execOp_builtin, BigFrame.builtin_unsafeString]
    simp only [List.map_toArray, List.map_cons, List.map_nil, hx, hy] at hrun ⊢
    simp only [Sem.run_bind, hrun, Result.andThen_ok, Sem.run_pure]
    rfl
theorem nat_indexByte {f : FuncId} {fn : Func} (hf : P.funcs[f]? = some fn) (hname : (fn.name == "runtime.NumGoroutine") = false) (hb : fn.body.isNone = true) (hn : Extern.findNext fn = none) (he : Extern.find fn = some Extern.BytealgIndexByte.indexByte) (l : List UInt8) (c : UInt8) :
    ∀ w, (callFunc f [.string (bstr l), vu8 c].toArray).run P w = .ok (.value (vi (Lib.indexByte l c))) w := fun w => by
  rw [run_callFunc_extern hf hname hb hn he]
  have h := Lib.run_indexByteString (P := P) (bstr l) (c.toNat : Int) w
  have e : ((c.toNat : Int).toNat).toUInt8 = c := by simp
  rw [e] at h
  have e2 : [Value.string (bstr l), vu8 c].toArray = #[Value.string (bstr l), .int .u8 (c.toNat : Int)] := rfl
  rw [e2, h]
  rfl
theorem bi_orN {m n : Nat} (hm : m < 9223372036854775808) (hn : n < 9223372036854775808) : binI .or .i64 (m : Int) (n : Int) = some (vi ((m ||| n : Nat) : Int)) := by
  have h : m ||| n < 2 ^ 63 := Nat.or_lt_two_pow hm hn
  have e : ∀ q : Nat, BitVec.ofInt IntKind.i64.bits (q : Int) = BitVec.ofNat 64 q := fun q => BitVec.ofInt_natCast ..
  simp only [binI, e]
  congr 2
  have e2 : (BitVec.ofNat 64 m ||| BitVec.ofNat 64 n).toNat = m ||| n := by
    rw [BitVec.toNat_or, BitVec.toNat_ofNat, BitVec.toNat_ofNat, Nat.mod_eq_of_lt (by omega), Nat.mod_eq_of_lt (by omega)]
  show IntKind.i64.wrap (((BitVec.ofNat 64 m ||| BitVec.ofNat 64 n).toNat : Nat) : Int) = _
  rw [e2]
  exact w64i (by omega)
/-! scopes -/
def ng (Q : Exit → Fr → World → Prop) : Exit → Fr → World → Prop
  | .goto _, _, _ => False
  | e, F, w => Q e F w
theorem ng_n (h : Q .normal F w) : ng Q .normal F w := h
theorem ng_r (h : Q .ret F w) : ng Q .ret F w := h
theorem ng_x {i : Nat} (h : Q (.exit i) F w) : ng Q (.exit i) F w := h
theorem WP.scope {c : Code} (h : WP P n c (ng Q) F w) : WP P n (.scope c) Q F w := by
  intro a ha
  refine wp_scope_straight (Code.wp_mono ?_ (h a ha))
  rintro e a w ⟨F, r, q⟩
  cases e <;> first | exact ⟨F, r, q⟩ | exact q.elim
theorem WP.label {l : Nat} (h : Q .normal F w) : WP P n (.label l) Q F w := fun a ha => wp_label ⟨F, ha, h⟩
end
end Go.Vc
