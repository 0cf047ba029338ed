/- Granules mixed: plain laws. Conditions: those that each theorem states. -/
import Derived.Test.YtbldmljbfokobaaO2
import Derived.Test.YtbldmljbfokobaaH0
set_option linter.unusedVariables false
set_option linter.unusedSimpArgs false
namespace Go.Orc
open Go.Vc
def gx (a b : List UInt8) : List UInt8 := List.zipWith (fun x y => x ^^^ y) a b
theorem gx_len {a b : List UInt8} {n : Nat} (ha : a.length = n) (hb : b.length = n) : (gx a b).length = n := by simp [gx, ha, hb]
theorem gx_get {a b : List UInt8} {i n : Nat} (ha : a.length = n) (hb : b.length = n) (hi : i < n) : (gx a b).getD i 0 = a.getD i 0 ^^^ b.getD i 0 := by
  simp [gx, List.getD_eq_getElem?_getD, List.getElem?_zipWith, ha, hb, hi]
theorem gx_step {a b : List UInt8} {i n : Nat} (ha : a.length = n) (hb : b.length = n) (hi : i < n) : (Go.Sh.mix (gx a b) a i).set i ((Go.Sh.mix (gx a b) a i).getD i 0 ^^^ b.getD i 0) = Go.Sh.mix (gx a b) a (i + 1) := by
  rw [Go.Sh.mix_get (gx_len ha hb) hi, ← gx_get ha hb hi]
  exact Go.Sh.mix_set (gx_len ha hb) ha hi
theorem gx_all {a b : List UInt8} {n : Nat} (ha : a.length = n) (hb : b.length = n) : Go.Sh.mix (gx a b) a n = gx a b := Go.Sh.mix_all (gx_len ha hb) ha (Nat.le_refl _)
theorem gx_gx {a b : List UInt8} {n : Nat} (ha : a.length = n) (hb : b.length = n) : gx (gx a b) b = a := by
  apply List.ext_getElem
  · rw [gx_len (gx_len ha hb) hb, ha]
  · intro i h1 h2
    simp [gx, UInt8.xor_assoc]
/-- a page's and a counter's bytes -/
def pcB (pg : Nat) (ct : UInt64) : List UInt8 := [leN 8 (UInt64.ofNat pg).toNat, leN 8 ct.toNat].flatten
theorem pcB_len (pg : Nat) (ct : UInt64) : (pcB pg ct).length = 16 := by simp [pcB, leN_len]
def onesL (x : UInt8) : List UInt8 := List.replicate 32 x
theorem onesL_len (x : UInt8) : (onesL x).length = 32 := List.length_replicate ..
theorem ones_set {x : UInt8} {i : Nat} (hi : i < 32) : (Go.Sh.mix (onesL x) (List.replicate 32 0) i).set i x = Go.Sh.mix (onesL x) (List.replicate 32 0) (i + 1) := by
  have h : (onesL x).getD i 0 = x := by rw [onesL, List.getD_eq_getElem?_getD, List.getElem?_replicate, if_pos hi]; rfl
  have := Go.Sh.mix_set (p := onesL x) (h := List.replicate 32 (0 : UInt8)) (d := 0) (n := 32) (onesL_len x) (List.length_replicate ..) hi
  rwa [h] at this
theorem ones_all (x : UInt8) : Go.Sh.mix (onesL x) (List.replicate 32 0) 32 = onesL x := Go.Sh.mix_all (onesL_len x) (List.length_replicate ..) (Nat.le_refl _)
theorem fill_4 {z : Array Value} (hz : z = ⟨List.replicate 128 (vu8 0)⟩) {a b c d : List UInt8} (ha : a.length = 32) (hb : b.length = 32) (hc : c.length = 32) (hd : d.length = 32) :
    Instr.fill (fun i => some (i * 32, 32)) z [(0, .agg ⟨a.map vu8⟩), (1, .agg ⟨b.map vu8⟩), (2, .agg ⟨c.map vu8⟩), (3, .agg ⟨d.map vu8⟩)] = some ⟨(a ++ (b ++ (c ++ d))).map vu8⟩ := by
  have e : (⟨List.replicate 128 (vu8 0)⟩ : Array Value) = ⟨flat [(32, List.replicate 32 (vu8 0)), (32, List.replicate 32 (vu8 0)), (32, List.replicate 32 (vu8 0)), (32, List.replicate 32 (vu8 0))]⟩ := rfl
  rw [hz, e]
  have r : ∀ l : List UInt8, l.length = 32 → SsOk [(32, l.map vu8)] := fun l h => SsOk.cons (SOk.u8 h) SsOk.nil
  have z0 : SOk (32, List.replicate 32 (vu8 0)) := SOk.rep rfl
  have h := (fill_of (pl := fun i => some (i * 32, 32)) (parts := [(0, .agg ⟨a.map vu8⟩), (1, .agg ⟨b.map vu8⟩), (2, .agg ⟨c.map vu8⟩), (3, .agg ⟨d.map vu8⟩)]) (out := [(32, a.map vu8), (32, b.map vu8), (32, c.map vu8), (32, d.map vu8)])
    (FillR.cons [] [(32, List.replicate 32 (vu8 0))] [(32, a.map vu8)] [(32, List.replicate 32 (vu8 0)), (32, List.replicate 32 (vu8 0)), (32, List.replicate 32 (vu8 0))] rfl rfl rfl rfl (r a ha) rfl rfl rfl
    (FillR.cons [(32, a.map vu8)] [(32, List.replicate 32 (vu8 0))] [(32, b.map vu8)] [(32, List.replicate 32 (vu8 0)), (32, List.replicate 32 (vu8 0))] rfl rfl rfl rfl (r b hb) rfl rfl rfl
    (FillR.cons [(32, a.map vu8), (32, b.map vu8)] [(32, List.replicate 32 (vu8 0))] [(32, c.map vu8)] [(32, List.replicate 32 (vu8 0))] rfl rfl rfl rfl (r c hc) rfl rfl rfl
    (FillR.cons [(32, a.map vu8), (32, b.map vu8), (32, c.map vu8)] [(32, List.replicate 32 (vu8 0))] [(32, d.map vu8)] [] rfl rfl rfl rfl (r d hd) rfl rfl rfl FillR.nil))))
    (SsOk.cons z0 (SsOk.cons z0 (SsOk.cons z0 (SsOk.cons z0 SsOk.nil))))).1
  refine h.trans ?_
  simp only [flat, List.map_append]
end Go.Orc
