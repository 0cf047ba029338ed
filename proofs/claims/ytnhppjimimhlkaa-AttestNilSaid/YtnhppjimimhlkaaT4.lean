/- Numbers: contracts. Conditions: those that each theorem states. -/
import Derived.Test.YtnhppjimimhlkaaT3
namespace Go.Proofs.Ytnhppjimimhlkaa
open Go.Vc Go.RowKit
set_option linter.unusedVariables false
set_option linter.unusedSimpArgs false
set_option maxRecDepth 20000

theorem mul_byte {l : List UInt8} (b : UInt8) (h : l.length < 8) : UInt64.ofNat (natLE l) * 256 + UInt64.ofNat b.toNat = UInt64.ofNat (natLE (b :: l)) := by
  have h1 := natLE_lt l
  have h2 : 256 ^ l.length ≤ 256 ^ 7 := Nat.pow_le_pow_right (by omega) (by omega)
  have h3 : (256 : Nat) ^ 7 = 72057594037927936 := by decide
  have hb := b.toNat_lt
  have h4 : (UInt64.ofNat (natLE l)).toNat = natLE l := natLE_u64 (by omega)
  have e : (256 : UInt64).toNat = 256 := rfl
  apply UInt64.toNat_inj.1
  rw [UInt64.toNat_add, UInt64.toNat_mul, h4, e]
  simp [natLE]; omega
theorem drop_lt {bs : List UInt8} {k : Nat} (h1 : 1 ≤ k) (h : k ≤ bs.length) : bs.drop (k - 1) = bs.getD (k - 1) 0 :: bs.drop k := by
  rw [List.drop_eq_getElem_cons (by omega), show k - 1 + 1 = k by omega]
  simp [show k - 1 < bs.length by omega]
theorem div_step (x : UInt64) (k : Nat) : UInt64.ofNat (x.toNat / 256 ^ k) / 256 = UInt64.ofNat (x.toNat / 256 ^ (k + 1)) := by
  have hx := x.toNat_lt
  have h1 : x.toNat / 256 ^ k ≤ x.toNat := Nat.div_le_self _ _
  have h2 : x.toNat / 256 ^ (k + 1) ≤ x.toNat := Nat.div_le_self _ _
  apply UInt64.toNat_inj.1
  have h3 : (UInt64.ofNat (x.toNat / 256 ^ k)).toNat = x.toNat / 256 ^ k := by simp; omega
  have h4 : (UInt64.ofNat (x.toNat / 256 ^ (k + 1))).toNat = x.toNat / 256 ^ (k + 1) := by simp; omega
  have e : (256 : UInt64).toNat = 256 := rfl
  rw [UInt64.toNat_div, h3, h4, e, Nat.div_div_eq_div_mul, ← Nat.pow_succ]
theorem byte_step (x : UInt64) (k : Nat) : UInt8.ofNat (UInt64.ofNat (x.toNat / 256 ^ k) % 256).toNat = UInt8.ofNat (x.toNat / 256 ^ k) := by
  have hx := x.toNat_lt
  have h1 : x.toNat / 256 ^ k ≤ x.toNat := Nat.div_le_self _ _
  have h3 : (UInt64.ofNat (x.toNat / 256 ^ k)).toNat = x.toNat / 256 ^ k := by simp; omega
  have e : (256 : UInt64).toNat = 256 := rfl
  apply UInt8.toNat_inj.1
  rw [UInt64.toNat_mod, h3, e]
  simp
theorem shl_one {n : Nat} (h : n < 8) : (shl64 1 (UInt64.ofNat (8 * n)).toNat).toNat = 256 ^ n := by
  have h1 : (UInt64.ofNat (8 * n)).toNat = 8 * n := by simp; omega
  have h2 : 256 ^ n ≤ 256 ^ 7 := Nat.pow_le_pow_right (by omega) (by omega)
  have h3 : (256 : Nat) ^ 7 = 72057594037927936 := by decide
  rw [h1, shl64]
  have e : (1 : UInt64).toNat = 1 := rfl
  rw [e, Nat.one_mul, ← pow256, UInt64.toNat_ofNat']
  exact Nat.mod_eq_of_lt (by omega)
theorem lt_shl {x : UInt64} {n : Nat} (h : n < 8) : x < shl64 1 (UInt64.ofNat (8 * n)).toNat ↔ x.toNat < 256 ^ n := by rw [UInt64.lt_iff_toNat_lt, shl_one h]
theorem c_SameR (a : Option Addr) (n cap : Nat) (bs : List UInt8) (hl : bs.length = n) (a2 : Option Addr) (n2 cap2 : Nat) (bs2 : List UInt8) (hl2 : bs2.length = n2) (w : World) (hv : View w a (bs.map vu8)) (hv2 : View w a2 (bs2.map vu8)) :
    Cs Try.prog 22 [(.slice a n cap), (.slice a2 n2 cap2)].toArray w (fun v w1 => v = .bool (decide (bs = bs2)) ∧ Chg w w1 []) := by
  refine Cs.of (n := 10) (args := [(.slice a n cap), (.slice a2 n2 cap2)]) Try.func22 rfl rfl rfl ?_
  have h_0 := HP.init w
  have h_01 := h_0.old (View.arg hv) (fun f hf => by cases hf)
  have h_00 := h_01.old (View.arg hv2) (fun f hf => by rw [List.mem_singleton] at hf; subst hf; intro hm; simp [Ent.mut] at hm)
  refine WP.seq ?_
  refine WP.reg ?_
  refine WL.q (Wn.no rfl) rfl rfl (R.assign (v := (.bool false)) rfl) ?_
  refine WL.nil ?_
  refine thn_n ?_
  refine WP.seq ?_
  refine WP.reg ?_
  refine WL.q (Wn.no rfl) rfl rfl (R.move (v := (.slice a n cap)) rfl) ?_
  refine WL.q (Wn.no rfl) rfl rfl (R.toStr (bs := bs) rfl Try.underlying37 Try.underlying5 Try.underlying9 (viewV (h_00.ok _ (.tail _ (.head _)))) hl) ?_
  refine WL.q (Wn.no rfl) rfl rfl (R.move (v := (.slice a2 n2 cap2)) rfl) ?_
  refine WL.q (Wn.no rfl) rfl rfl (R.toStr (bs := bs2) rfl Try.underlying37 Try.underlying5 Try.underlying9 (viewV (h_00.ok _ (.head _))) hl2) ?_
  refine WL.q (Wn.no rfl) rfl rfl (R.eqStr (a := bs) (b := bs2) (r := decide (bs = bs2)) rfl rfl rfl) ?_
  refine WL.q (Wn.no rfl) rfl rfl (R.assign (v := (.bool (decide (bs = bs2)))) rfl) ?_
  refine WL.nil ?_
  refine thn_n ?_
  refine WP.ret ?_
  refine ret_of Try.results22 (RV.tmp (v := (.bool (decide (bs = bs2)))) rfl RV.nil) ?_
  exact ⟨rfl, h_00.chgS⟩

theorem c_Get_lo (a : Option Addr) (n cap : Nat) (bs : List UInt8) (hl : bs.length = n) (h : n < 1) (w : World) (hv : View w a (bs.map vu8)) :
    Cs Try.prog 85 [(.slice a n cap)].toArray w (fun v w1 => v = (.tuple [(vu64 0), (vi 2)].toArray) ∧ Chg w w1 []) := by
  refine Cs.of (n := 14) (args := [(.slice a n cap)]) Try.func85 rfl rfl rfl ?_
  have h_0 := HP.init w
  have h_00 := h_0.old (View.arg hv) (fun f hf => by cases hf)
  refine WP.seq ?_
  refine WP.reg ?_
  refine WL.q (Wn.no rfl) rfl rfl (R.assign (v := (vu64 0)) rfl) ?_
  refine WL.q (Wn.no rfl) rfl rfl (R.assign (v := (vi 0)) rfl) ?_
  refine WL.nil ?_
  refine thn_n ?_
  refine WP.seq ?_
  refine WP.seq ?_
  refine WP.reg ?_
  refine WL.q (Wn.no rfl) rfl rfl (R.move (v := (.slice a n cap)) rfl) ?_
  refine WL.q (Wn.no rfl) rfl rfl (R.lenS (a := a) (m := n) rfl rfl Try.underlying37) ?_
  refine WL.q (Wn.no rfl) rfl rfl (R.bin (v := (.bool (decide ((((n : Nat) : Int) : Int) < 1)))) rfl rfl (bi_lss (r := decide ((((n : Nat) : Int) : Int) < 1)) rfl)) ?_
  refine WL.q (Wn.no rfl) rfl rfl (R.move (v := (.bool (decide ((((n : Nat) : Int) : Int) < 1)))) rfl) ?_
  refine WL.skip rfl (congrArg Value.bool (decide_eq_true (by omega))) rfl ?_
  refine WL.skip rfl (congrArg Value.bool (decide_eq_true (by omega))) rfl ?_
  refine WL.skip rfl (congrArg Value.bool (decide_eq_true (by omega))) rfl ?_
  refine WL.q (Wn.no rfl) rfl rfl (R.pickT (v := (.bool true)) (congrArg Value.bool (decide_eq_true (by omega))) rfl) ?_
  refine WL.nil ?_
  refine thn_n ?_
  refine WP.condT rfl ?_
  refine WP.seq ?_
  refine WP.reg ?_
  refine WL.q (Wn.no rfl) rfl rfl (R.assign (v := (vu64 0)) rfl) ?_
  refine WL.q (Wn.no rfl) rfl rfl (R.assign (v := (vi 2)) rfl) ?_
  refine WL.nil ?_
  refine thn_n ?_
  refine WP.ret ?_
  refine thn_r ?_
  refine ret_of Try.results85 (RV.tmp (v := (vu64 0)) rfl (RV.tmp (v := (vi 2)) rfl RV.nil)) ?_
  exact ⟨rfl, h_00.chgS⟩

theorem c_Get_hi (a : Option Addr) (n cap : Nat) (bs : List UInt8) (hl : bs.length = n) (h : 8 < n) (w : World) (hv : View w a (bs.map vu8)) :
    Cs Try.prog 85 [(.slice a n cap)].toArray w (fun v w1 => v = (.tuple [(vu64 0), (vi 2)].toArray) ∧ Chg w w1 []) := by
  refine Cs.of (n := 14) (args := [(.slice a n cap)]) Try.func85 rfl rfl rfl ?_
  have h_0 := HP.init w
  have h_00 := h_0.old (View.arg hv) (fun f hf => by cases hf)
  refine WP.seq ?_
  refine WP.reg ?_
  refine WL.q (Wn.no rfl) rfl rfl (R.assign (v := (vu64 0)) rfl) ?_
  refine WL.q (Wn.no rfl) rfl rfl (R.assign (v := (vi 0)) rfl) ?_
  refine WL.nil ?_
  refine thn_n ?_
  refine WP.seq ?_
  refine WP.seq ?_
  refine WP.reg ?_
  refine WL.q (Wn.no rfl) rfl rfl (R.move (v := (.slice a n cap)) rfl) ?_
  refine WL.q (Wn.no rfl) rfl rfl (R.lenS (a := a) (m := n) rfl rfl Try.underlying37) ?_
  refine WL.q (Wn.no rfl) rfl rfl (R.bin (v := (.bool (decide ((((n : Nat) : Int) : Int) < 1)))) rfl rfl (bi_lss (r := decide ((((n : Nat) : Int) : Int) < 1)) rfl)) ?_
  refine WL.q (Wn.no rfl) rfl rfl (R.move (v := (.bool (decide ((((n : Nat) : Int) : Int) < 1)))) rfl) ?_
  refine WL.want rfl (congrArg Value.bool (decide_eq_false (by omega))) ?_
  refine WL.q (Wn.no rfl) rfl rfl (R.move (v := (.slice a n cap)) rfl) ?_
  refine WL.want rfl (congrArg Value.bool (decide_eq_false (by omega))) ?_
  refine WL.q (Wn.no rfl) rfl rfl (R.lenS (a := a) (m := n) rfl rfl Try.underlying37) ?_
  refine WL.want rfl (congrArg Value.bool (decide_eq_false (by omega))) ?_
  refine WL.q (Wn.no rfl) rfl rfl (R.bin (v := (.bool (decide ((((n : Nat) : Int) : Int) > 8)))) rfl rfl (bi_gtr (r := decide ((((n : Nat) : Int) : Int) > 8)) rfl)) ?_
  refine WL.q (Wn.no rfl) rfl rfl (R.pickF (v := (.bool (decide ((((n : Nat) : Int) : Int) > 8)))) (congrArg Value.bool (decide_eq_false (by omega))) rfl) ?_
  refine WL.nil ?_
  refine thn_n ?_
  refine WP.condT (congrArg Value.bool (decide_eq_true (by omega))) ?_
  refine WP.seq ?_
  refine WP.reg ?_
  refine WL.q (Wn.no rfl) rfl rfl (R.assign (v := (vu64 0)) rfl) ?_
  refine WL.q (Wn.no rfl) rfl rfl (R.assign (v := (vi 2)) rfl) ?_
  refine WL.nil ?_
  refine thn_n ?_
  refine WP.ret ?_
  refine thn_r ?_
  refine ret_of Try.results85 (RV.tmp (v := (vu64 0)) rfl (RV.tmp (v := (vi 2)) rfl RV.nil)) ?_
  exact ⟨rfl, h_00.chgS⟩

theorem c_Get_ok (a : Option Addr) (n cap : Nat) (bs : List UInt8) (hl : bs.length = n) (h : 1 ≤ n) (h8 : n ≤ 8) (w : World) (hv : View w a (bs.map vu8)) :
    Cs Try.prog 85 [(.slice a n cap)].toArray w (fun v w1 => v = (.tuple [(vu64 (UInt64.ofNat (natLE bs))), (vi 0)].toArray) ∧ Chg w w1 []) := by
  refine Cs.of (n := 14) (args := [(.slice a n cap)]) Try.func85 rfl rfl rfl ?_
  have h_0 := HP.init w
  have h_00 := h_0.old (View.arg hv) (fun f hf => by cases hf)
  refine WP.seq ?_
  refine WP.reg ?_
  refine WL.q (Wn.no rfl) rfl rfl (R.assign (v := (vu64 0)) rfl) ?_
  refine WL.q (Wn.no rfl) rfl rfl (R.assign (v := (vi 0)) rfl) ?_
  refine WL.nil ?_
  refine thn_n ?_
  refine WP.seq ?_
  refine WP.seq ?_
  refine WP.reg ?_
  refine WL.q (Wn.no rfl) rfl rfl (R.move (v := (.slice a n cap)) rfl) ?_
  refine WL.q (Wn.no rfl) rfl rfl (R.lenS (a := a) (m := n) rfl rfl Try.underlying37) ?_
  refine WL.q (Wn.no rfl) rfl rfl (R.bin (v := (.bool (decide ((((n : Nat) : Int) : Int) < 1)))) rfl rfl (bi_lss (r := decide ((((n : Nat) : Int) : Int) < 1)) rfl)) ?_
  refine WL.q (Wn.no rfl) rfl rfl (R.move (v := (.bool (decide ((((n : Nat) : Int) : Int) < 1)))) rfl) ?_
  refine WL.want rfl (congrArg Value.bool (decide_eq_false (by omega))) ?_
  refine WL.q (Wn.no rfl) rfl rfl (R.move (v := (.slice a n cap)) rfl) ?_
  refine WL.want rfl (congrArg Value.bool (decide_eq_false (by omega))) ?_
  refine WL.q (Wn.no rfl) rfl rfl (R.lenS (a := a) (m := n) rfl rfl Try.underlying37) ?_
  refine WL.want rfl (congrArg Value.bool (decide_eq_false (by omega))) ?_
  refine WL.q (Wn.no rfl) rfl rfl (R.bin (v := (.bool (decide ((((n : Nat) : Int) : Int) > 8)))) rfl rfl (bi_gtr (r := decide ((((n : Nat) : Int) : Int) > 8)) rfl)) ?_
  refine WL.q (Wn.no rfl) rfl rfl (R.pickF (v := (.bool (decide ((((n : Nat) : Int) : Int) > 8)))) (congrArg Value.bool (decide_eq_false (by omega))) rfl) ?_
  refine WL.nil ?_
  refine thn_n ?_
  refine WP.condF (congrArg Value.bool (decide_eq_false (by omega))) ?_
  refine WP.skip ?_
  refine thn_n ?_
  refine WP.seq ?_
  refine WP.reg ?_
  refine WL.q (Wn.no rfl) rfl rfl (R.move (v := (.slice a n cap)) rfl) ?_
  refine WL.call (al := [(.slice a n cap)]) Try.call104 rfl rfl (c_get a n cap bs hl (by omega) _ (viewV (h_00.ok _ (.head _)))) rfl ?_
  rintro _ w_2 ⟨rfl, hc_1⟩
  have h_3 := h_00.same hc_1
  refine WL.q (Wn.no rfl) rfl rfl (R.assign (v := (vu64 (UInt64.ofNat (natLE bs)))) rfl) ?_
  refine WL.q (Wn.no rfl) rfl rfl (R.assign (v := (vi 0)) rfl) ?_
  refine WL.nil ?_
  refine thn_n ?_
  refine WP.ret ?_
  refine ret_of Try.results85 (RV.tmp (v := (vu64 (UInt64.ofNat (natLE bs)))) rfl (RV.tmp (v := (vi 0)) rfl RV.nil)) ?_
  exact ⟨rfl, h_3.chgS⟩

theorem c_GetR (a : Option Addr) (n cap : Nat) (bs : List UInt8) (hl : bs.length = n) (h8 : n ≤ 8) (w : World) (hv : View w a (bs.map vu8)) :
    Cs Try.prog 91 [(.slice a n cap)].toArray w (fun v w1 => v = (vu64 (UInt64.ofNat (natLE bs))) ∧ Chg w w1 []) := by
  refine Cs.of (n := 21) (args := [(.slice a n cap)]) Try.func91 rfl rfl rfl ?_
  have h_0 := HP.init w
  have h_00 := h_0.old (View.arg hv) (fun f hf => by cases hf)
  refine WP.seq ?_
  refine WP.reg ?_
  refine WL.q (Wn.no rfl) rfl rfl (R.assign (v := (vu64 0)) rfl) ?_
  refine WL.nil ?_
  refine thn_n ?_
  refine WP.seq ?_
  refine WP.reg ?_
  refine WL.q (Wn.no rfl) rfl rfl (R.assign (v := (vu64 0)) rfl) ?_
  refine WL.nil ?_
  refine thn_n ?_
  refine WP.seq ?_
  refine WP.seq ?_
  refine WP.reg ?_
  refine WL.q (Wn.no rfl) rfl rfl (R.move (v := (.slice a n cap)) rfl) ?_
  refine WL.q (Wn.no rfl) rfl rfl (R.lenS (a := a) (m := n) rfl rfl Try.underlying37) ?_
  refine WL.q (Wn.no rfl) rfl rfl (R.bin (v := (vi ((n : Int) - 1))) rfl rfl (bi_sub (c := (n : Int) - 1) (by omega) (by omega))) ?_
  refine WL.q (Wn.no rfl) rfl rfl (R.assign (v := (vi ((n : Int) - 1))) rfl) ?_
  refine WL.nil ?_
  refine thn_n ?_
  refine WP.block ?_
  refine WP.loopG (G := Nat) [3, 4, 8, 9, 10, 11, 12, 13, 14, 15, 16, 17, 18, 19] (fun k => [(3, (vu64 (UInt64.ofNat (natLE (bs.drop k))))), (4, (vi (((k : Nat) : Int) - 1)))]) (fun k m w1 => HP w w1 [.view a (bs.map vu8)] ∧ (k ≤ n) ∧ m = k + 1) ⟨n, _, ⟨congrArg (fun x : UInt64 => vu64 x) (by rw [List.drop_of_length_le (by omega)]; rfl), congrArg vi (by omega), trivial⟩, h_00, (Nat.le_refl n), rfl⟩ ?_
  rintro k m_3 J_4 w_1 ⟨h_2, hk, rfl⟩
  refine WP.seq ?_
  refine WP.seq ?_
  refine WP.reg ?_
  refine WL.q (Wn.no rfl) rfl rfl (R.move (v := (vi (((k : Nat) : Int) - 1))) rfl) ?_
  refine WL.q (Wn.no rfl) rfl rfl (R.bin (v := (.bool (decide ((((k : Nat) : Int) - 1 : Int) ≥ 0)))) rfl rfl (bi_geq (r := decide ((((k : Nat) : Int) - 1 : Int) ≥ 0)) rfl)) ?_
  refine WL.nil ?_
  refine thn_n ?_
  refine WP.cond (b := decide ((((k : Nat) : Int) - 1 : Int) ≥ 0)) rfl (fun c_5 => ?_) (fun c_5 => ?_)
  · have p_6 := of_decide_eq_true c_5
    refine WP.skip ?_
    refine thn_n ?_
    refine WP.seq ?_
    refine WP.block ?_
    refine WP.reg ?_
    refine WL.q (Wn.no rfl) rfl rfl (R.move (v := (vu64 (UInt64.ofNat (natLE (bs.drop k))))) rfl) ?_
    refine WL.q (Wn.no rfl) rfl rfl (R.bin (v := (vu64 ((UInt64.ofNat (natLE (bs.drop k))) * 256))) rfl rfl (b64_mul (UInt64.ofNat (natLE (bs.drop k))) 256)) ?_
    refine WL.q (Wn.no rfl) rfl rfl (R.move (v := (.slice a n cap)) rfl) ?_
    refine WL.q (Wn.no rfl) rfl rfl (R.move (v := (vi ((k - 1 : Nat) : Int))) (congrArg vi (show ((k : Nat) : Int) - 1 = ((k - 1 : Nat) : Int) by omega))) ?_
    refine WL.q (Wn.no rfl) rfl rfl (R.indexS (a := a) (i := k - 1) (off := k - 1) (xs := bs.map vu8) rfl rfl rfl (by omega) (viewV (h_2.ok _ (.head _))) (lt_len (K := n) (len_map hl) (by omega)) Try.underlying37 Try.sizeOf5 (Nat.mul_one _).symm) ?_
    refine WL.q (Wn.no rfl) rfl rfl (R.loadG (a := a) (i := k - 1) (xs := bs.map vu8) (v := (vu8 (bs.getD (k - 1) 0))) rfl (viewV (h_2.ok _ (.head _))) Try.isAgg5 (get_u8 (lt_len (K := n) hl (by omega)))) ?_
    refine WL.q (Wn.no rfl) rfl rfl (R.conv (b := ((UInt64.ofNat ((bs.getD (k - 1) 0).toNat)) : UInt64).toNat) rfl Try.underlying5 Try.underlying28 (w64_nat ((bs.getD (k - 1) 0).toNat))) ?_
    refine WL.q (Wn.no rfl) rfl rfl (R.bin (v := (vu64 (((UInt64.ofNat (natLE (bs.drop k))) * 256) + (UInt64.ofNat ((bs.getD (k - 1) 0).toNat))))) rfl rfl (b64_add ((UInt64.ofNat (natLE (bs.drop k))) * 256) (UInt64.ofNat ((bs.getD (k - 1) 0).toNat)))) ?_
    refine WL.q (Wn.no rfl) rfl rfl (R.assign (v := (vu64 (((UInt64.ofNat (natLE (bs.drop k))) * 256) + (UInt64.ofNat ((bs.getD (k - 1) 0).toNat))))) rfl) ?_
    refine WL.nil ?_
    refine inb_n ?_
    refine thn_n ?_
    refine WP.reg ?_
    refine WL.q (Wn.no rfl) rfl rfl (R.move (v := (vi (((k : Nat) : Int) - 1))) rfl) ?_
    refine WL.q (Wn.no rfl) rfl rfl (R.bin (v := (vi ((((k : Nat) : Int) - 1) - 1))) rfl rfl (bi_sub (c := (((k : Nat) : Int) - 1) - 1) (by omega) (by omega))) ?_
    refine WL.q (Wn.no rfl) rfl rfl (R.assign (v := (vi ((((k : Nat) : Int) - 1) - 1))) rfl) ?_
    refine WL.nil ?_
    refine thn_n ?_
    exact ⟨k - 1, _, (by omega), (Ag.upd rfl (Ag.upd rfl (Ag.upd rfl (Ag.upd rfl (Ag.upd rfl (Ag.upd rfl (Ag.upd rfl (Ag.upd rfl (Ag.upd rfl (Ag.upd rfl (Ag.upd rfl (Ag.upd rfl (Ag.upd rfl (Ag.upd rfl (Ag.updL rfl (Ag.mix _ _ _)))))))))))))))), ⟨congrArg (fun x : UInt64 => vu64 x) (by rw [drop_lt (k := k) (by omega) (by omega), ← mul_byte _ (by rw [List.length_drop]; omega)]), congrArg vi (by omega), trivial⟩, h_2, (by omega), rfl⟩
  · have p_7 := of_decide_eq_false c_5
    refine WP.exit ?_
    refine thn_x ?_
    refine thn_x ?_
    refine inb_hit ?_
    refine thn_n ?_
    refine WP.seq ?_
    refine WP.reg ?_
    refine WL.q (Wn.no rfl) rfl rfl (R.move (v := (vu64 (UInt64.ofNat (natLE (bs.drop k))))) rfl) ?_
    refine WL.q (Wn.no rfl) rfl rfl (R.assign (v := (vu64 (UInt64.ofNat (natLE (bs.drop k))))) rfl) ?_
    refine WL.nil ?_
    refine thn_n ?_
    refine WP.ret ?_
    refine ret_of Try.results91 (RV.tmp (v := (vu64 (UInt64.ofNat (natLE (bs.drop k))))) rfl RV.nil) ?_
    have hk0 : k = 0 := by omega
    subst hk0
    exact ⟨rfl, h_2.chgS⟩

theorem c_PutR (x : UInt64) (n : Nat) (hn : n ≤ 1099511627776) (w : World) :
    Cs Try.prog 88 [(vu64 x), (vi ((n : Nat) : Int))].toArray w (fun v w1 => ∃ a cap, v = .slice a n cap ∧ Chg w w1 [] ∧ Own w.heap.size w1 5 1 a n cap ((leN n x.toNat).map vu8)) := by
  refine Cs.of (n := 21) (args := [(vu64 x), (vi ((n : Nat) : Int))]) Try.func88 rfl rfl rfl ?_
  have h_0 := HP.init w
  refine WP.seq ?_
  refine WP.reg ?_
  refine WL.q (Wn.no rfl) rfl rfl (R.assign (v := (.slice none 0 0)) rfl) ?_
  refine WL.nil ?_
  refine thn_n ?_
  refine WP.seq ?_
  refine WP.reg ?_
  refine WL.q (Wn.no rfl) rfl rfl (R.assign (v := (.slice none 0 0)) rfl) ?_
  refine WL.nil ?_
  refine thn_n ?_
  refine WP.seq ?_
  refine WP.seq ?_
  refine WP.reg ?_
  refine WL.q (Wn.no rfl) rfl rfl (R.assign (v := (vi 0)) rfl) ?_
  refine WL.nil ?_
  refine thn_n ?_
  refine WP.block ?_
  have h_1 := h_0.rowNil 5 1
  refine WP.loopG (G := Nat × Option Addr × Nat) [0, 5, 6, 7, 8, 9, 10, 11, 12, 13, 14, 15, 16, 17, 18, 19] (fun (k, a, cap) => [(0, (vu64 (UInt64.ofNat (x.toNat / 256 ^ k)))), (5, (.slice a k cap)), (6, (vi ((k : Nat) : Int)))]) (fun (k, a, cap) m w1 => HP w w1 [.row a k cap 5 1 ((leN k x.toNat).map vu8)] ∧ (k ≤ n) ∧ m = n - k) ⟨(0, none, 0), _, ⟨congrArg (fun x : UInt64 => vu64 x) (by rw [Nat.pow_zero, Nat.div_one]; exact (u64_nat x).symm), rfl, rfl, trivial⟩, h_1, Nat.zero_le _, rfl⟩ ?_
  rintro ⟨k, a, cap⟩ m_4 J_5 w_2 ⟨h_3, hk, rfl⟩
  refine WP.seq ?_
  refine WP.seq ?_
  refine WP.reg ?_
  refine WL.q (Wn.no rfl) rfl rfl (R.move (v := (vi ((k : Nat) : Int))) rfl) ?_
  refine WL.q (Wn.no rfl) rfl rfl (R.move (v := (vi ((n : Nat) : Int))) rfl) ?_
  refine WL.q (Wn.no rfl) rfl rfl (R.bin (v := (.bool (decide ((((k : Nat) : Int) : Int) < ((n : Nat) : Int))))) rfl rfl (bi_lss (r := decide ((((k : Nat) : Int) : Int) < ((n : Nat) : Int))) rfl)) ?_
  refine WL.nil ?_
  refine thn_n ?_
  refine WP.cond (b := decide ((((k : Nat) : Int) : Int) < ((n : Nat) : Int))) rfl (fun c_6 => ?_) (fun c_6 => ?_)
  · have p_7 := of_decide_eq_true c_6
    refine WP.skip ?_
    refine thn_n ?_
    refine WP.seq ?_
    refine WP.block ?_
    refine WP.seq ?_
    refine WP.reg ?_
    refine WL.q (Wn.no rfl) rfl rfl (R.move (v := (.slice a k cap)) rfl) ?_
    refine WL.q (Wn.no rfl) rfl rfl (R.move (v := (vu64 (UInt64.ofNat (x.toNat / 256 ^ k)))) rfl) ?_
    refine WL.q (Wn.no rfl) rfl rfl (R.bin (v := (vu64 ((UInt64.ofNat (x.toNat / 256 ^ k)) % 256))) rfl rfl (b64_rem (UInt64.ofNat (x.toNat / 256 ^ k)) 256 (by decide))) ?_
    refine WL.q (Wn.no rfl) rfl rfl (R.conv (b := ((UInt8.ofNat (((UInt64.ofNat (x.toNat / 256 ^ k)) % 256).toNat)) : UInt8).toNat) rfl Try.underlying28 Try.underlying5 (w8_nat (((UInt64.ofNat (x.toNat / 256 ^ k)) % 256).toNat))) ?_
    refine WL.buildSl (vs := [(0, (vu8 (UInt8.ofNat (((UInt64.ofNat (x.toNat / 256 ^ k)) % 256).toNat))))]) (cs := ([UInt8.ofNat (((UInt64.ofNat (x.toNat / 256 ^ k)) % 256).toNat)] : List UInt8).map vu8) h_3 Try.underlying37 Try.sizeOf5 (zv Try.typeInfo5 rfl) rfl rfl (by kernel_rfl) rfl (one_u8 _) rfl rfl (fun b_8 w_9 h_10 => ?_)
    refine WL.append (km := k + 1) (xs := (leN k x.toNat).map vu8) (ys := ([UInt8.ofNat (((UInt64.ofNat (x.toNat / 256 ^ k)) % 256).toNat)] : List UInt8).map vu8) (zs := ((leN k x.toNat).map vu8) ++ (([UInt8.ofNat (((UInt64.ofNat (x.toNat / 256 ^ k)) % 256).toNat)] : List UInt8).map vu8)) h_10 rfl rfl el37 (viewB (h_10.ok _ (.head _)) Sg.h) ((len_map (rfl : List.length ([UInt8.ofNat (((UInt64.ofNat (x.toNat / 256 ^ k)) % 256).toNat)] : List UInt8) = 1)).trans (Nat.mul_one _).symm) (one_u8 _) rfl (by omega) (by omega) (by omega) (fun _ _ => (At.t At.h)) rfl (fun a_11 c_12 w_13 h_14 => ?_)
    refine WL.q (Wn.no rfl) rfl rfl (R.assign (v := (.slice a_11 (k + 1) c_12)) rfl) ?_
    refine WL.nil ?_
    refine thn_n ?_
    refine WP.reg ?_
    refine WL.q (Wn.no rfl) rfl rfl (R.move (v := (vu64 (UInt64.ofNat (x.toNat / 256 ^ k)))) rfl) ?_
    refine WL.q (Wn.no rfl) rfl rfl (R.bin (v := (vu64 ((UInt64.ofNat (x.toNat / 256 ^ k)) / 256))) rfl rfl (b64_quo (UInt64.ofNat (x.toNat / 256 ^ k)) 256 (by decide))) ?_
    refine WL.q (Wn.no rfl) rfl rfl (R.assign (v := (vu64 ((UInt64.ofNat (x.toNat / 256 ^ k)) / 256))) rfl) ?_
    refine WL.nil ?_
    refine inb_n ?_
    refine thn_n ?_
    refine WP.reg ?_
    refine WL.q (Wn.no rfl) rfl rfl (R.move (v := (vi ((k : Nat) : Int))) rfl) ?_
    refine WL.q (Wn.no rfl) rfl rfl (R.bin (v := (vi ((k + 1 : Nat) : Int))) rfl rfl (bi_add (c := ((k + 1 : Nat) : Int)) (by omega) (by omega))) ?_
    refine WL.q (Wn.no rfl) rfl rfl (R.assign (v := (vi ((k + 1 : Nat) : Int))) rfl) ?_
    refine WL.nil ?_
    refine thn_n ?_
    have h_15 := h_14.drop rfl
    have e : leN k x.toNat ++ ([UInt8.ofNat (UInt64.ofNat (x.toNat / 256 ^ k) % 256).toNat] : List UInt8) = leN (k + 1) x.toNat := by rw [leN_snoc, byte_step]
    rw [show ((leN k x.toNat).map vu8) ++ (([UInt8.ofNat (((UInt64.ofNat (x.toNat / 256 ^ k)) % 256).toNat)] : List UInt8).map vu8) = (leN (k + 1) x.toNat).map vu8 from by rw [← e, List.map_append]] at h_15
    exact ⟨(k + 1, a_11, c_12), _, (by omega), (Ag.upd rfl (Ag.upd rfl (Ag.upd rfl (Ag.upd rfl (Ag.upd rfl (Ag.upd rfl (Ag.upd rfl (Ag.upd rfl (Ag.upd rfl (Ag.upd rfl (Ag.upd rfl (Ag.upd rfl (Ag.upd rfl (Ag.upd rfl (Ag.upd rfl (Ag.upd rfl (Ag.updL rfl (Ag.mix _ _ _)))))))))))))))))), ⟨congrArg (fun x : UInt64 => vu64 x) (div_step x k), rfl, rfl, trivial⟩, h_15, (by omega), rfl⟩
  · have p_16 := of_decide_eq_false c_6
    refine WP.exit ?_
    refine thn_x ?_
    refine thn_x ?_
    refine inb_hit ?_
    refine thn_n ?_
    refine WP.seq ?_
    refine WP.reg ?_
    refine WL.q (Wn.no rfl) rfl rfl (R.move (v := (.slice a k cap)) rfl) ?_
    refine WL.q (Wn.no rfl) rfl rfl (R.assign (v := (.slice a k cap)) rfl) ?_
    refine WL.nil ?_
    refine thn_n ?_
    refine WP.ret ?_
    refine ret_of Try.results88 (RV.tmp (v := (.slice a k cap)) rfl RV.nil) ?_
    have hkn : k = n := by omega
    subst hkn
    exact ⟨_, _, rfl, h_3.chgS, h_3.ok _ (.head _)⟩

theorem c_Put_lo (x : UInt64) (n : Int) (h : n < 1) (w : World) :
    Cs Try.prog 76 [(vu64 x), (vi n)].toArray w (fun v w1 => v = (.tuple [(.slice none 0 0), (vi 2)].toArray) ∧ Chg w w1 []) := by
  refine Cs.of (n := 39) (args := [(vu64 x), (vi n)]) Try.func76 rfl rfl rfl ?_
  have h_0 := HP.init w
  refine WP.seq ?_
  refine WP.reg ?_
  refine WL.q (Wn.no rfl) rfl rfl (R.assign (v := (.slice none 0 0)) rfl) ?_
  refine WL.q (Wn.no rfl) rfl rfl (R.assign (v := (vi 0)) rfl) ?_
  refine WL.nil ?_
  refine thn_n ?_
  refine WP.seq ?_
  refine WP.seq ?_
  refine WP.reg ?_
  refine WL.q (Wn.no rfl) rfl rfl (R.move (v := (vi n)) rfl) ?_
  refine WL.q (Wn.no rfl) rfl rfl (R.bin (v := (.bool (decide ((n : Int) < 1)))) rfl rfl (bi_lss (r := decide ((n : Int) < 1)) rfl)) ?_
  refine WL.q (Wn.no rfl) rfl rfl (R.move (v := (.bool (decide ((n : Int) < 1)))) rfl) ?_
  refine WL.skip rfl (congrArg Value.bool (decide_eq_true (by omega))) rfl ?_
  refine WL.skip rfl (congrArg Value.bool (decide_eq_true (by omega))) rfl ?_
  refine WL.q (Wn.no rfl) rfl rfl (R.pickT (v := (.bool true)) (congrArg Value.bool (decide_eq_true (by omega))) rfl) ?_
  refine WL.q (Wn.no rfl) rfl rfl (R.move (v := (.bool true)) rfl) ?_
  refine WL.skip rfl rfl rfl ?_
  refine WL.skip rfl rfl rfl ?_
  refine WL.skip rfl rfl rfl ?_
  refine WL.skipU rfl rfl rfl ?_
  refine WL.skipU rfl rfl rfl ?_
  refine WL.skipU rfl rfl rfl ?_
  refine WL.skipU rfl rfl rfl ?_
  refine WL.skipU rfl rfl rfl ?_
  refine WL.skip rfl rfl rfl ?_
  refine WL.q (Wn.no rfl) rfl rfl (R.pickT (v := (.bool true)) rfl rfl) ?_
  refine WL.nil ?_
  refine thn_n ?_
  refine WP.condT rfl ?_
  refine WP.seq ?_
  refine WP.reg ?_
  refine WL.q (Wn.no rfl) rfl rfl (R.assign (v := (.slice none 0 0)) rfl) ?_
  refine WL.q (Wn.no rfl) rfl rfl (R.assign (v := (vi 2)) rfl) ?_
  refine WL.nil ?_
  refine thn_n ?_
  refine WP.ret ?_
  refine thn_r ?_
  refine ret_of Try.results76 (RV.tmp (v := (.slice none 0 0)) rfl (RV.tmp (v := (vi 2)) rfl RV.nil)) ?_
  exact ⟨rfl, h_0.chgS⟩

theorem c_Put_hi (x : UInt64) (n : Int) (h : 8 < n) (w : World) :
    Cs Try.prog 76 [(vu64 x), (vi n)].toArray w (fun v w1 => v = (.tuple [(.slice none 0 0), (vi 2)].toArray) ∧ Chg w w1 []) := by
  refine Cs.of (n := 39) (args := [(vu64 x), (vi n)]) Try.func76 rfl rfl rfl ?_
  have h_0 := HP.init w
  refine WP.seq ?_
  refine WP.reg ?_
  refine WL.q (Wn.no rfl) rfl rfl (R.assign (v := (.slice none 0 0)) rfl) ?_
  refine WL.q (Wn.no rfl) rfl rfl (R.assign (v := (vi 0)) rfl) ?_
  refine WL.nil ?_
  refine thn_n ?_
  refine WP.seq ?_
  refine WP.seq ?_
  refine WP.reg ?_
  refine WL.q (Wn.no rfl) rfl rfl (R.move (v := (vi n)) rfl) ?_
  refine WL.q (Wn.no rfl) rfl rfl (R.bin (v := (.bool (decide ((n : Int) < 1)))) rfl rfl (bi_lss (r := decide ((n : Int) < 1)) rfl)) ?_
  refine WL.q (Wn.no rfl) rfl rfl (R.move (v := (.bool (decide ((n : Int) < 1)))) rfl) ?_
  refine WL.want rfl (congrArg Value.bool (decide_eq_false (by omega))) ?_
  refine WL.q (Wn.no rfl) rfl rfl (R.move (v := (vi n)) rfl) ?_
  refine WL.want rfl (congrArg Value.bool (decide_eq_false (by omega))) ?_
  refine WL.q (Wn.no rfl) rfl rfl (R.bin (v := (.bool (decide ((n : Int) > 8)))) rfl rfl (bi_gtr (r := decide ((n : Int) > 8)) rfl)) ?_
  refine WL.q (Wn.no rfl) rfl rfl (R.pickF (v := (.bool (decide ((n : Int) > 8)))) (congrArg Value.bool (decide_eq_false (by omega))) rfl) ?_
  refine WL.q (Wn.no rfl) rfl rfl (R.move (v := (.bool (decide ((n : Int) > 8)))) rfl) ?_
  refine WL.skip rfl (congrArg Value.bool (decide_eq_true (by omega))) rfl ?_
  refine WL.skip rfl (congrArg Value.bool (decide_eq_true (by omega))) rfl ?_
  refine WL.skip rfl (congrArg Value.bool (decide_eq_true (by omega))) rfl ?_
  refine WL.skipU rfl rfl rfl ?_
  refine WL.skipU rfl rfl rfl ?_
  refine WL.skipU rfl rfl rfl ?_
  refine WL.skipU rfl rfl rfl ?_
  refine WL.skipU rfl rfl rfl ?_
  refine WL.skip rfl (congrArg Value.bool (decide_eq_true (by omega))) rfl ?_
  refine WL.q (Wn.no rfl) rfl rfl (R.pickT (v := (.bool true)) (congrArg Value.bool (decide_eq_true (by omega))) rfl) ?_
  refine WL.nil ?_
  refine thn_n ?_
  refine WP.condT rfl ?_
  refine WP.seq ?_
  refine WP.reg ?_
  refine WL.q (Wn.no rfl) rfl rfl (R.assign (v := (.slice none 0 0)) rfl) ?_
  refine WL.q (Wn.no rfl) rfl rfl (R.assign (v := (vi 2)) rfl) ?_
  refine WL.nil ?_
  refine thn_n ?_
  refine WP.ret ?_
  refine thn_r ?_
  refine ret_of Try.results76 (RV.tmp (v := (.slice none 0 0)) rfl (RV.tmp (v := (vi 2)) rfl RV.nil)) ?_
  exact ⟨rfl, h_0.chgS⟩

theorem c_Put_no (x : UInt64) (n : Nat) (h1 : 1 ≤ n) (h8 : n < 8) (hx : ¬ x.toNat < 256 ^ n) (w : World) :
    Cs Try.prog 76 [(vu64 x), (vi ((n : Nat) : Int))].toArray w (fun v w1 => v = (.tuple [(.slice none 0 0), (vi 2)].toArray) ∧ Chg w w1 []) := by
  refine Cs.of (n := 39) (args := [(vu64 x), (vi ((n : Nat) : Int))]) Try.func76 rfl rfl rfl ?_
  have h_0 := HP.init w
  refine WP.seq ?_
  refine WP.reg ?_
  refine WL.q (Wn.no rfl) rfl rfl (R.assign (v := (.slice none 0 0)) rfl) ?_
  refine WL.q (Wn.no rfl) rfl rfl (R.assign (v := (vi 0)) rfl) ?_
  refine WL.nil ?_
  refine thn_n ?_
  refine WP.seq ?_
  refine WP.seq ?_
  refine WP.reg ?_
  refine WL.q (Wn.no rfl) rfl rfl (R.move (v := (vi ((n : Nat) : Int))) rfl) ?_
  refine WL.q (Wn.no rfl) rfl rfl (R.bin (v := (.bool (decide ((((n : Nat) : Int) : Int) < 1)))) rfl rfl (bi_lss (r := decide ((((n : Nat) : Int) : Int) < 1)) rfl)) ?_
  refine WL.q (Wn.no rfl) rfl rfl (R.move (v := (.bool (decide ((((n : Nat) : Int) : Int) < 1)))) rfl) ?_
  refine WL.want rfl (congrArg Value.bool (decide_eq_false (by omega))) ?_
  refine WL.q (Wn.no rfl) rfl rfl (R.move (v := (vi ((n : Nat) : Int))) rfl) ?_
  refine WL.want rfl (congrArg Value.bool (decide_eq_false (by omega))) ?_
  refine WL.q (Wn.no rfl) rfl rfl (R.bin (v := (.bool (decide ((((n : Nat) : Int) : Int) > 8)))) rfl rfl (bi_gtr (r := decide ((((n : Nat) : Int) : Int) > 8)) rfl)) ?_
  refine WL.q (Wn.no rfl) rfl rfl (R.pickF (v := (.bool (decide ((((n : Nat) : Int) : Int) > 8)))) (congrArg Value.bool (decide_eq_false (by omega))) rfl) ?_
  refine WL.q (Wn.no rfl) rfl rfl (R.move (v := (.bool (decide ((((n : Nat) : Int) : Int) > 8)))) rfl) ?_
  refine WL.want rfl (congrArg Value.bool (decide_eq_false (by omega))) ?_
  refine WL.q (Wn.no rfl) rfl rfl (R.move (v := (vi ((n : Nat) : Int))) rfl) ?_
  refine WL.want rfl (congrArg Value.bool (decide_eq_false (by omega))) ?_
  refine WL.q (Wn.no rfl) rfl rfl (R.bin (v := (.bool (decide ((((n : Nat) : Int) : Int) < 8)))) rfl rfl (bi_lss (r := decide ((((n : Nat) : Int) : Int) < 8)) rfl)) ?_
  refine WL.want rfl (congrArg Value.bool (decide_eq_false (by omega))) ?_
  refine WL.q (Wn.no rfl) rfl rfl (R.move (v := (.bool (decide ((((n : Nat) : Int) : Int) < 8)))) rfl) ?_
  refine WL.want rfl (congrArg Value.bool (decide_eq_true (by omega))) ?_
  refine WL.q (Wn.no rfl) rfl rfl (R.move (v := (vu64 x)) rfl) ?_
  refine WL.want rfl (congrArg Value.bool (decide_eq_true (by omega))) ?_
  refine WL.q (Wn.no rfl) rfl rfl (R.move (v := (vi ((n : Nat) : Int))) rfl) ?_
  refine WL.want rfl (congrArg Value.bool (decide_eq_true (by omega))) ?_
  refine WL.q (Wn.no rfl) rfl rfl (R.bin (v := (vi ((8 * n : Nat) : Int))) rfl rfl (bi_mul (c := ((8 * n : Nat) : Int)) (by omega) (by omega))) ?_
  refine WL.want rfl (congrArg Value.bool (decide_eq_true (by omega))) ?_
  refine WL.q (Wn.no rfl) rfl rfl (R.binR (v := vu64 (shr64 x (8 * n))) rfl rfl (run_shr64 _ _ _ x _ (8 * n))) ?_
  refine WL.want rfl (congrArg Value.bool (decide_eq_true (by omega))) ?_
  refine WL.q (Wn.no rfl) rfl rfl (R.bin (v := (.bool (decide ((shr64 x (8 * n) : UInt64) ≠ 0)))) rfl rfl (b64_neq (shr64 x (8 * n)) 0 (r := decide ((shr64 x (8 * n) : UInt64) ≠ 0)) rfl)) ?_
  refine WL.want rfl (congrArg Value.bool (decide_eq_false (by omega))) ?_
  refine WL.q (Wn.no rfl) rfl rfl (R.pickT (v := (.bool (decide ((shr64 x (8 * n) : UInt64) ≠ 0)))) (congrArg Value.bool (decide_eq_true (by omega))) rfl) ?_
  refine WL.q (Wn.no rfl) rfl rfl (R.pickF (v := (.bool (decide ((shr64 x (8 * n) : UInt64) ≠ 0)))) (congrArg Value.bool (decide_eq_false (by omega))) rfl) ?_
  refine WL.nil ?_
  refine thn_n ?_
  refine WP.condT (congrArg Value.bool (decide_eq_true (fun h => hx ((shr_zero x n).1 h)))) ?_
  refine WP.seq ?_
  refine WP.reg ?_
  refine WL.q (Wn.no rfl) rfl rfl (R.assign (v := (.slice none 0 0)) rfl) ?_
  refine WL.q (Wn.no rfl) rfl rfl (R.assign (v := (vi 2)) rfl) ?_
  refine WL.nil ?_
  refine thn_n ?_
  refine WP.ret ?_
  refine thn_r ?_
  refine ret_of Try.results76 (RV.tmp (v := (.slice none 0 0)) rfl (RV.tmp (v := (vi 2)) rfl RV.nil)) ?_
  exact ⟨rfl, h_0.chgS⟩
end Go.Proofs.Ytnhppjimimhlkaa
