/- Tags, strings joined, halves of a digest: plain laws. Conditions: those that each theorem states. -/
import Derived.Test.YtelkjcigdhgcoaaH6
set_option linter.unusedVariables false
set_option linter.unusedSimpArgs false
namespace Go.Sh
open Go.Vc
def padK (k : List UInt8) : List UInt8 := k ++ List.replicate (64 - k.length) 0
theorem padK_len {k : List UInt8} {n : Nat} (hl : k.length = n) (h : n ≤ 64) : (padK k).length = 64 := by rw [padK, List.length_append, List.length_replicate]; omega
def xm (m : UInt8) (l : List UInt8) : List UInt8 := l.map fun x => x ^^^ m
theorem xm_len (m : UInt8) (l : List UInt8) : (xm m l).length = l.length := by simp [xm]
theorem xm_get {m : UInt8} {l : List UInt8} {i : Nat} (hi : i < l.length) : (xm m l).getD i 0 = l.getD i 0 ^^^ m := by simp [xm, hi]
theorem xm_snoc {m : UInt8} {l : List UInt8} {j : Nat} (hj : j < l.length) : (xm m l).take j ++ ([l.getD j 0 ^^^ m] : List UInt8) = (xm m l).take (j + 1) := by
  rw [← xm_get hj, ← take_snoc _ _ _ (by rw [xm_len]; exact hj)]
theorem xm_step {m : UInt8} {l : List UInt8} {i n : Nat} (hl : l.length = n) (hi : i < n) : (mix (xm m l) l i).set i ((mix (xm m l) l i).getD i 0 ^^^ m) = mix (xm m l) l (i + 1) := by
  have hx : (xm m l).length = n := by rw [xm_len, hl]
  rw [mix_get hx hi, ← xm_get (by omega)]
  exact mix_set hx hl hi
theorem xm_all {m : UInt8} {l : List UInt8} {n : Nat} (hl : l.length = n) : mix (xm m l) l n = xm m l := mix_all (by rw [xm_len, hl]) hl (Nat.le_refl _)
theorem ovr_pad {k : List UInt8} {n : Nat} (hl : k.length = n) : ovr (List.replicate 64 (0 : UInt8)) 0 k = padK k := by
  rw [ovr, padK, List.take_zero, List.nil_append, Nat.zero_add, List.drop_replicate]
theorem flat2 (a b : List UInt8) : [a, b].flatten = a ++ b := by simp
def tagK (k b : List UInt8) : List UInt8 := sumL (xm 92 (padK k) ++ sumL (xm 54 (padK k) ++ b))
def tagL (key b : List UInt8) : List UInt8 := if 64 < key.length then tagK (sumL key) b else tagK key b
theorem tagK_len (k b : List UInt8) : (tagK k b).length = 32 := sumL_len _
theorem tagL_len (key b : List UInt8) : (tagL key b).length = 32 := by rw [tagL]; split <;> exact tagK_len _ _
theorem tag_s {key b : List UInt8} {n : Nat} (hl : key.length = n) (h : ¬ 64 < n) : tagL key b = tagK key b := if_neg (by omega)
theorem tag_l {key b : List UInt8} {n : Nat} (hl : key.length = n) (h : 64 < n) : tagL key b = tagK (sumL key) b := if_pos (by omega)
theorem pad_z {k : List UInt8} {n z : Nat} (hl : k.length = n) (h : n + z = 64) : k ++ List.replicate z (0 : UInt8) = padK k := by
  rw [padK, show 64 - k.length = z by omega]
/-! are two the same? -/
def difN (a b : List UInt8) : Nat → UInt8
  | 0 => 0
  | i + 1 => difN a b i ||| (a.getD i 0 ^^^ b.getD i 0)
theorem or_zero {x y : UInt8} : x ||| y = 0 ↔ x = 0 ∧ y = 0 := by
  constructor
  · intro h
    have h1 := congrArg UInt8.toNat h
    rw [UInt8.toNat_or] at h1
    have h0 : (0 : UInt8).toNat = 0 := rfl
    rw [h0, Nat.or_eq_zero_iff] at h1
    exact ⟨UInt8.toNat_inj.1 h1.1, UInt8.toNat_inj.1 h1.2⟩
  · rintro ⟨rfl, rfl⟩; rfl
theorem dif_zero {a b : List UInt8} : ∀ i, difN a b i = 0 ↔ ∀ j, j < i → a.getD j 0 = b.getD j 0
  | 0 => ⟨fun _ j h => by omega, fun _ => rfl⟩
  | i + 1 => by
    rw [difN, or_zero, dif_zero i, UInt8.xor_eq_zero_iff]
    constructor
    · rintro ⟨h1, h2⟩ j hj
      by_cases e : j = i
      · rw [e]; exact h2
      · exact h1 j (by omega)
    · intro h; exact ⟨fun j hj => h j (by omega), h i (by omega)⟩
theorem dif_all {a b : List UInt8} {n : Nat} (ha : a.length = n) (hb : b.length = n) : decide (difN a b n = 0) = decide (a = b) := by
  apply decide_eq_decide.2
  rw [dif_zero]
  constructor
  · intro h
    apply List.ext_getElem (by omega)
    intro i h1 h2
    have := h i (by omega)
    simpa [h1, h2] using this
  · rintro rfl j _; rfl
/-! keys of a key -/
def deriveL (key l : List UInt8) (x : UInt64) : List UInt8 := tagL key (Go.Wr.packL [l, leN 8 x.toNat])
theorem deriveL_len (key l : List UInt8) (x : UInt64) : (deriveL key l x).length = 32 := tagL_len _ _
theorem may2 {l : List UInt8} {n : Nat} (hl : l.length = n) (h : n ≤ 64) (x : UInt64) : Go.Wr.mayPack [l, leN 8 x.toNat] = true := by
  have h8 := leN_len 8 x.toNat
  simp [Go.Wr.mayPack, Go.Wr.small, h8, hl]
  omega
theorem pack2_len {l : List UInt8} {n : Nat} (hl : l.length = n) (x : UInt64) : (Go.Wr.packL [l, leN 8 x.toNat]).length = n + 16 := by
  rw [Go.Wr.packL_len]
  simp [leN_len, hl]
  omega
theorem fill_d {z : Array Value} (hz : z = ⟨List.replicate 32 (vu8 0)⟩) {d : List UInt8} (hd : d.length = 32) : Instr.fill (fun i => some (i * 32, 32)) z [(0, .agg ⟨d.map vu8⟩)] = some ⟨d.map vu8⟩ := by
  subst hz
  exact (fill_of (pl := fun i => some (i * 32, 32)) (segs := [(32, List.replicate 32 (vu8 0))]) (parts := [(0, .agg ⟨d.map vu8⟩)]) (out := [(32, d.map vu8)]) (FillR.cons [] [(32, List.replicate 32 (vu8 0))] [(32, d.map vu8)] [] rfl rfl rfl rfl (SsOk.cons (SOk.u8 hd) SsOk.nil) rfl rfl rfl FillR.nil) (SsOk.cons (SOk.rep rfl) SsOk.nil)).1
/-- the first keys of a key, one behind the other -/
def kfL (key l : List UInt8) : Nat → List UInt8
  | 0 => []
  | k + 1 => kfL key l k ++ deriveL key l (UInt64.ofNat k)
theorem kfL_len (key l : List UInt8) : ∀ k, (kfL key l k).length = 32 * k
  | 0 => rfl
  | k + 1 => by rw [kfL, List.length_append, kfL_len key l k, deriveL_len]; omega
theorem kfL_get {key l : List UInt8} {i : Nat} : ∀ n, i < n → ((kfL key l n).drop (i * 32)).take 32 = deriveL key l (UInt64.ofNat i)
  | 0, h => by omega
  | n + 1, h => by
    have hl := kfL_len key l n
    have hd := deriveL_len key l (UInt64.ofNat n)
    rw [kfL]
    by_cases e : i = n
    · subst e
      rw [List.drop_append, List.drop_of_length_le (by omega), List.nil_append, show i * 32 - (kfL key l i).length = 0 by omega, List.drop_zero, List.take_of_length_le (by omega)]
    · rw [List.drop_append_of_le_length (by omega), List.take_append_of_le_length (by rw [List.length_drop]; omega)]
      exact kfL_get n (by omega)
end Go.Sh
namespace Go.Vc
section
variable {P : Program} {F : Fr} {w : World}
variable {ty : TypeId} {pos : String} {after : Array Edge} {dst : Option Tmp} {g : Option (Nat × Bool)}
theorem bstr_app (a b : List UInt8) : bstr a ++ bstr b = bstr (a ++ b) := by
  apply ByteArray.ext
  rw [ByteArray.data_append]
  apply Array.ext'
  simp [bstr]
theorem run_addStr {T : TypeId} {a b : List UInt8} (hm : a.length + b.length ≤ 9223372036854775807) : (binOp .add T (.string (bstr a)) (.string (bstr b))).run P w = .ok (.string (bstr (a ++ b))) w := by
  have e : IntKind.i64.max = 9223372036854775807 := by decide
  have h : ¬ (((bstr a).size + (bstr b).size : Nat) : Int) > IntKind.i64.max := by rw [e, bstr_size, bstr_size]; omega
  rw [← bstr_app]
  show (Op.stringOp .add (bstr a) (bstr b)).run P w = _
  simp only [Op.stringOp, h, if_false, Sem.run_pure]
theorem R.addStr {T T' : TypeId} {x y : Operand} {a b : List UInt8} (hx : evO F x = .string (bstr a)) (hy : evO F y = .string (bstr b)) (hm : a.length + b.length ≤ 9223372036854775807) :
    (execOp (evO F) ⟨dst, .binOp .add T x y T', ty, pos, after, g⟩).run P w = .ok (.value (.string (bstr (a ++ b)))) w := by
  have h1 : (eqGuard .add T x y (.string (bstr a)) (.string (bstr b))).run P w = .ok () w := rfl
  simp only [execOp, hx, hy, Sem.run_bind, h1, Result.andThen_ok, run_addStr hm, Sem.run_pure]
end
end Go.Vc
namespace Go.Sh
open Go.Vc
theorem half_get {d : List UInt8} {c i : Nat} (hd : d.length = 32) (hc : c ≤ 16) (hi : i < 16) : ((d.drop c).take 16).getD i 0 = d.getD (c + i) 0 := by
  simp [List.getD_eq_getElem?_getD, List.getElem?_take, List.getElem?_drop, hi]
def halfL (d : List UInt8) (c : Nat) : List UInt8 := (d.drop c).take 16
theorem halfL_len {d : List UInt8} {c : Nat} (hd : d.length = 32) (hc : c ≤ 16) : (halfL d c).length = 16 := by rw [halfL, List.length_take, List.length_drop]; omega
theorem half_set {d : List UInt8} {c i : Nat} (hd : d.length = 32) (hc : c ≤ 16) (hi : i < 16) : (mix (halfL d c) (List.replicate 16 0) i).set i (d.getD (c + i) 0) = mix (halfL d c) (List.replicate 16 0) (i + 1) := by
  rw [← half_get hd hc hi]
  exact mix_set (halfL_len hd hc) (List.length_replicate ..) hi
theorem half_all {d : List UInt8} {c : Nat} (hd : d.length = 32) (hc : c ≤ 16) : mix (halfL d c) (List.replicate 16 0) 16 = halfL d c := mix_all (halfL_len hd hc) (List.length_replicate ..) (Nat.le_refl _)
/-- the known key -/
def K11 : List UInt8 := List.replicate 20 11
theorem k11_set {i : Nat} (hi : i < 20) : (mix K11 (List.replicate 20 0) i).set i 11 = mix K11 (List.replicate 20 0) (i + 1) := by
  have h : ∀ j : Nat, j < 20 → K11.getD j 0 = 11 := by decide
  have h := h i hi
  have := mix_set (p := K11) (h := List.replicate 20 (0 : UInt8)) (d := 0) (n := 20) (List.length_replicate ..) (List.length_replicate ..) hi
  rwa [h] at this
theorem k11_all : mix K11 (List.replicate 20 0) 20 = K11 := mix_all (List.length_replicate ..) (List.length_replicate ..) (Nat.le_refl _)
end Go.Sh
