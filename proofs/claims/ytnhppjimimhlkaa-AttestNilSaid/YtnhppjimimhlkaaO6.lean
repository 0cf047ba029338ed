/- Slices of aggregates that are made; Ways of a tree, plainly. Conditions: those that each theorem states. -/
import Derived.Test.YtnhppjimimhlkaaO5
set_option linter.unusedVariables false
set_option linter.unusedSimpArgs false
namespace Go.Orc
open Go.Vc Go.RowKit
section
variable {P : Program} {n : Nat} {ops : Array Oper} {Q : Exit → Fr → World → Prop} {rest : List Oper} {F : Fr} {w w' w0 : World} {L : List Ent} {ty : TypeId} {pos : String} {after : Array Edge}
/-- a slice that is made, of aggregates of s cells, all z -/
theorem WL_makeSlA {d m s : Nat} {T E : TypeId} {x y : Operand} {kx ky : IntKind} {i : TypeInfo} {z : Value} (h : HP w0 w L) (hx : evO F x = .int kx (m : Int)) (hy : evO F y = .int ky (m : Int)) (hT : P.underlying T = some (.slice E)) (hi : P.info? E = some i) (hz : i.zero = some (.agg ⟨List.replicate s z⟩)) (hs : i.size = s) (hs1 : 1 ≤ s) (h1 : z.oneCell' = true)
    (hb : i.bytes * m ≤ 281474976710656) (hm : m ≤ 140737488355328) (hd : Nat.blt d n = true) (k : ∀ b w', HP w0 w' (.row (some ⟨b, 0, none⟩) m m E s (List.replicate (m * s) z) :: L) → WL P n ops Q rest (upd F d (.slice (some ⟨b, 0, none⟩) m m)) w') :
    WL P n ops Q (⟨some d, .makeSlice T x y, ty, pos, after, none⟩ :: rest) F w := by
  have hw : IntKind.i64.wrap (m : Int) = m := w64i (by omega)
  have hsz : ∀ w, (sizeOf E).run P w = .ok s w := fun w => by simp [sizeOf, typeInfo, hi, hs]
  have hti : ∀ w, (typeInfo E).run P w = .ok i w := fun w => by simp [typeInfo, hi]
  have hzv : ∀ w, (zeroValue E).run P w = .ok (.agg ⟨List.replicate s z⟩) w := zv hti hz
  have c1 : ¬ (((m : Int) < 0 ∨ 281474976710656 < (i.bytes : Int) * (m : Int)) ∨ (m : Int) < 0) := by
    have : (i.bytes : Int) * (m : Int) = ((i.bytes * m : Nat) : Int) := by rw [Int.natCast_mul]
    rw [this]; omega
  have hcells : Array.map (fun x => (Array.replicate s z)[x % s]!) (Array.range (m * s)) = Array.replicate (m * s) z := by
    apply Array.ext
    · simp
    · intro j h1 h2
      have : j % s < s := Nat.mod_lt _ (by omega)
      simp [this]
  have hmm : m ≤ maxLen := by unfold maxLen; omega
  have ok : SsOk [(m * s, List.replicate (m * s) z)] := SsOk.cons ⟨by simp, by intro v hv; obtain ⟨_, rfl⟩ := List.mem_replicate.1 hv; exact h1⟩ SsOk.nil
  have hrun : (Instr.makeSlice T (.int kx m) (.int ky m)).run P w = .ok (.slice (some ⟨w.heap.size, 0, none⟩) m m) (w.alloc (.cells ⟨List.replicate (m * s) z⟩ E)) := by
    by_cases h0 : m = 0
    · subst h0
      simp [Instr.makeSlice, run_underlying hT, asInt, asIntOf, hti, hsz, newRow, show IntKind.i64.wrap 0 = 0 from hw]
      have e0 : Array.map (fun _ => (default : Value)) (Array.range 0) = (⟨[]⟩ : Array Value) := by apply Array.ext'; simp
      rw [e0]
    · have h00 : ¬ m * s = 0 := by
        intro e
        rcases Nat.mul_eq_zero.1 e with e | e <;> omega
      simp [Instr.makeSlice, run_underlying hT, asInt, asIntOf, hw, hti, hsz, newRow, hzv, h0, Value.cells, show ¬ s = 0 by omega]
      rw [if_neg c1]; simp [h00, hcells]
  obtain ⟨_, hh⟩ := new_core (P := P) (v := .agg ⟨List.replicate (m * s) z⟩) (T := E) h rfl ok
  have hh2 := HP.blkRow (m := m) (s := s) hh At.h (by omega) hmm
  exact WL.val rfl rfl hd (by simp only [execOp, hx, hy, Sem.run_bind, hrun, Result.andThen_ok, Sem.run_pure]; rfl) (k _ _ hh2)
end
end Go.Orc
