/- Packed lists: contracts. Conditions: those that each theorem states. -/
import Derived.Test.YtnhppjimimhlkaaT2
namespace Go.Proofs.Ytnhppjimimhlkaa
open Go.Vc Go.RowKit
set_option linter.unusedVariables false
set_option linter.unusedSimpArgs false
set_option maxRecDepth 20000

theorem all_get {ls : List (List UInt8)} (h : ls.all Go.Wr.small = true) {k : Nat} (hk : k < ls.length) : (ls.getD k []).length ≤ 65536 := by
  have := List.all_eq_true.1 h (ls.getD k []) (by simp [hk])
  simpa [Go.Wr.small] using this
theorem all_of {ls : List (List UInt8)} (h : ∀ k, k < ls.length → (ls.getD k []).length ≤ 65536) : ls.all Go.Wr.small = true := by
  rw [List.all_eq_true]
  intro x hx
  obtain ⟨k, hk, rfl⟩ := List.getElem_of_mem hx
  have := h k hk
  simp [hk] at this
  simp [Go.Wr.small, this]
theorem pk_lt {n : Nat} (h : n ≤ 65536) : (UInt64.ofNat n).toNat < 256 ^ 4 := by
  have : (UInt64.ofNat n).toNat = n := by simp; omega
  rw [this]; exact Nat.lt_of_le_of_lt h (by decide)
theorem pk_snoc {ls : List (List UInt8)} {k m : Nat} (hk : k < ls.length) (hm : (ls.getD k []).length = m) (h : m ≤ 65536) : (Go.Wr.packL (ls.take k) ++ leN 4 (UInt64.ofNat m).toNat) ++ ls.getD k [] = Go.Wr.packL (ls.take (k + 1)) := by
  have : (UInt64.ofNat m).toNat = m := by simp; omega
  rw [this, Go.Wr.packL_snoc hk, Go.Wr.pk1, hm, List.append_assoc]
theorem pk_bound {ls : List (List UInt8)} (h : ls.all Go.Wr.small = true) : ∀ k, k ≤ ls.length → (Go.Wr.packL (ls.take k)).length ≤ 65540 * k
  | 0, _ => by simp [Go.Wr.packL]
  | k + 1, hk => by
    have h1 := pk_bound h k (by omega)
    have h2 := all_get h (k := k) (by omega)
    rw [Go.Wr.packL_snoc (by omega), List.length_append, Go.Wr.pk1, List.length_append, leN_len]
    omega
theorem mp_all {ls : List (List UInt8)} (h : Go.Wr.mayPack ls = true) : ls.all Go.Wr.small = true ∧ ls.length ≤ 64 := by
  simpa [Go.Wr.mayPack] using h
def nonneg (x : Int) : Bool := decide (0 ≤ x)
theorem zall_get {zs : List Int} (h : zs.all nonneg = true) {k : Nat} (hk : k < zs.length) : 0 ≤ zs.getD k 0 := by
  have := List.all_eq_true.1 h (zs.getD k 0) (by simp [hk])
  simpa [nonneg] using this
theorem zall_of {zs : List Int} (h : ∀ k, k < zs.length → 0 ≤ zs.getD k 0) : zs.all nonneg = true := by
  rw [List.all_eq_true]
  intro x hx
  obtain ⟨k, hk, rfl⟩ := List.getElem_of_mem hx
  have := h k hk
  simp [hk] at this
  simp [nonneg, this]
theorem c_Cut1 (x : Int) (w : World) :
    Cs Try.prog 103 [(vi x)].toArray w (fun v w1 => v = .bool (decide ((x : Int) < 0)) ∧ Chg w w1 []) := by
  refine Cs.of (n := 5) (args := [(vi x)]) Try.func103 rfl rfl rfl ?_
  have h_0 := HP.init w
  refine WP.seq ?_
  refine WP.reg ?_
  refine WL.q (Wn.no rfl) rfl rfl (R.assign (v := (.bool false)) rfl) ?_
  refine WL.nil ?_
  refine thn_n ?_
  refine WP.seq ?_
  refine WP.reg ?_
  refine WL.q (Wn.no rfl) rfl rfl (R.move (v := (vi x)) rfl) ?_
  refine WL.q (Wn.no rfl) rfl rfl (R.bin (v := (.bool (decide ((x : Int) < 0)))) rfl rfl (bi_lss (r := decide ((x : Int) < 0)) rfl)) ?_
  refine WL.q (Wn.no rfl) rfl rfl (R.assign (v := (.bool (decide ((x : Int) < 0)))) rfl) ?_
  refine WL.nil ?_
  refine thn_n ?_
  refine WP.ret ?_
  refine ret_of Try.results103 (RV.tmp (v := (.bool (decide ((x : Int) < 0)))) rfl RV.nil) ?_
  exact ⟨rfl, h_0.chgS⟩

theorem c_IxZ_t (a : Option Addr) (n cap : Nat) (zs : List Int) (hl : zs.length = n) (hnb : n ≤ 1099511627776) (hx : zs.all nonneg = true) (w : World) (hv : View w a (zs.map vi64)) :
    Cs Try.prog 114 [(.slice a n cap), (Value.func (Fn.func 103) [].toArray [].toArray)].toArray w (fun v w1 => v = vi (-1) ∧ Chg w w1 []) := by
  refine Cs.of (n := 19) (args := [(.slice a n cap), (Value.func (Fn.func 103) [].toArray [].toArray)]) Try.func114 rfl rfl rfl ?_
  have h_0 := HP.init w
  have h_00 := h_0.old (View.arg hv) (fun f hf => by cases hf)
  refine WP.seq ?_
  refine WP.reg ?_
  refine WL.q (Wn.no rfl) rfl rfl (R.assign (v := (vi 0)) rfl) ?_
  refine WL.nil ?_
  refine thn_n ?_
  refine WP.seq ?_
  refine WP.seq ?_
  refine WP.reg ?_
  refine WL.q (Wn.no rfl) rfl rfl (R.move (v := (.slice a n cap)) rfl) ?_
  refine WL.q (Wn.no rfl) rfl rfl (R.lenS (a := a) (m := n) rfl rfl Try.underlying70) ?_
  refine WL.q (Wn.no rfl) rfl rfl (R.move (v := (vi 0)) rfl) ?_
  refine WL.nil ?_
  refine thn_n ?_
  refine WP.block ?_
  refine WP.loopG (G := Nat) [4, 5, 8, 9, 10, 11, 12, 13, 14, 15, 16, 17, 18] (fun k => [(8, (vi ((k : Nat) : Int)))]) (fun k m w1 => HP w w1 [.view a (zs.map vi64)] ∧ (k ≤ n) ∧ (∀ j : Nat, j < k → 0 ≤ zs.getD j 0) ∧ m = n - k) ⟨0, _, ⟨rfl, trivial⟩, h_00, (by omega), (fun j h => by omega), rfl⟩ ?_
  rintro k m_3 J_4 w_1 ⟨h_2, hk, hg, rfl⟩
  refine WP.seq ?_
  refine WP.reg ?_
  refine WL.q (Wn.no rfl) rfl rfl (R.bin (v := (.bool (decide ((((k : Nat) : Int) : Int) < ((n : Nat) : Int))))) rfl rfl (bi_lss (r := decide ((((k : Nat) : Int) : Int) < ((n : Nat) : Int))) rfl)) ?_
  refine WL.nil ?_
  refine thn_n ?_
  refine WP.seq ?_
  refine WP.cond (b := decide ((((k : Nat) : Int) : Int) < ((n : Nat) : Int))) rfl (fun c_5 => ?_) (fun c_5 => ?_)
  · have p_6 := of_decide_eq_true c_5
    refine WP.skip ?_
    refine thn_n ?_
    refine WP.seq ?_
    refine WP.block ?_
    refine WP.seq ?_
    refine WP.reg ?_
    refine WL.q (Wn.no rfl) rfl rfl (R.move (v := (vi ((k : Nat) : Int))) rfl) ?_
    refine WL.q (Wn.no rfl) rfl rfl (R.assign (v := (vi ((k : Nat) : Int))) rfl) ?_
    refine WL.nil ?_
    refine thn_n ?_
    refine WP.seq ?_
    refine WP.reg ?_
    refine WL.q (Wn.no rfl) rfl rfl (R.move (v := (Value.func (Fn.func 103) [].toArray [].toArray)) rfl) ?_
    refine WL.q (Wn.no rfl) rfl rfl (R.move (v := (.slice a n cap)) rfl) ?_
    refine WL.q (Wn.no rfl) rfl rfl (R.move (v := (vi ((k : Nat) : Int))) rfl) ?_
    refine WL.q (Wn.no rfl) rfl rfl (R.indexS (a := a) (i := k) (off := k) (xs := zs.map vi64) rfl rfl rfl (by omega) (viewV (h_2.ok _ (.head _))) (lt_len (K := n) (len_map hl) (by omega)) Try.underlying70 Try.sizeOf3 (Nat.mul_one _).symm) ?_
    refine WL.q (Wn.no rfl) rfl rfl (R.loadG (a := a) (i := k) (xs := zs.map vi64) (v := (vi (zs.getD k 0))) rfl (viewV (h_2.ok _ (.head _))) Try.isAgg3 (get_i64 (lt_len (K := n) hl (by omega)))) ?_
    refine WL.call (al := [(vi (zs.getD k 0))]) Try.call103 rfl rfl (c_Cut1 (zs.getD k 0) _ ) rfl ?_
    rintro _ w_8 ⟨rfl, hc_7⟩
    have h_9 := h_2.same hc_7
    refine WL.nil ?_
    refine thn_n ?_
    refine WP.cond (b := decide ((zs.getD k 0 : Int) < 0)) rfl (fun c_10 => ?_) (fun c_10 => ?_)
    · have p_11 := of_decide_eq_true c_10
      refine WP.seq ?_
      refine WP.reg ?_
      refine WL.q (Wn.no rfl) rfl rfl (R.move (v := (vi ((k : Nat) : Int))) rfl) ?_
      refine WL.q (Wn.no rfl) rfl rfl (R.assign (v := (vi ((k : Nat) : Int))) rfl) ?_
      refine WL.nil ?_
      refine thn_n ?_
      refine WP.ret ?_
      refine inb_r ?_
      refine thn_r ?_
      refine thn_r ?_
      refine inb_r ?_
      refine thn_r ?_
      refine ret_of Try.results114 (RV.tmp (v := (vi ((k : Nat) : Int))) rfl RV.nil) ?_
      exact absurd (zall_get hx (k := k) (by omega)) (by have hp := p_11; omega)
    · have p_12 := of_decide_eq_false c_10
      refine WP.skip ?_
      refine inb_n ?_
      refine thn_n ?_
      refine WP.reg ?_
      refine WL.q (Wn.no rfl) rfl rfl (R.bin (v := (vi ((k + 1 : Nat) : Int))) rfl rfl (bi_add (c := ((k + 1 : Nat) : Int)) (by omega) (by omega))) ?_
      refine WL.q (Wn.no rfl) rfl rfl (R.move (v := (vi ((k + 1 : Nat) : Int))) rfl) ?_
      refine WL.nil ?_
      refine thn_n ?_
      refine ⟨k + 1, _, (by omega), (Ag.upd rfl (Ag.upd rfl (Ag.upd rfl (Ag.upd rfl (Ag.upd rfl (Ag.upd rfl (Ag.upd rfl (Ag.upd rfl (Ag.upd rfl (Ag.upd rfl (Ag.upd rfl (Ag.updL rfl (Ag.mix _ _ _))))))))))))), ⟨rfl, trivial⟩, h_9, (by omega), (fun j hj => ?_), rfl⟩
      rcases Nat.lt_or_eq_of_le (Nat.le_of_lt_succ hj) with hj | rfl
      · exact hg j hj
      · have hp := p_12; omega
  · have p_13 := of_decide_eq_false c_5
    refine WP.exit ?_
    refine thn_x ?_
    refine thn_x ?_
    refine inb_hit ?_
    refine thn_n ?_
    refine WP.seq ?_
    refine WP.reg ?_
    refine WL.q (Wn.no rfl) rfl rfl (R.assign (v := (vi (-1))) rfl) ?_
    refine WL.nil ?_
    refine thn_n ?_
    refine WP.ret ?_
    refine ret_of Try.results114 (RV.tmp (v := (vi (-1))) rfl RV.nil) ?_
    exact ⟨rfl, h_2.chgS⟩

theorem c_IxZ_f (a : Option Addr) (n cap : Nat) (zs : List Int) (hl : zs.length = n) (hnb : n ≤ 1099511627776) (hx : zs.all nonneg = false) (w : World) (hv : View w a (zs.map vi64)) :
    Cs Try.prog 114 [(.slice a n cap), (Value.func (Fn.func 103) [].toArray [].toArray)].toArray w (fun v w1 => ∃ r : Nat, v = vi ((r : Nat) : Int) ∧ Chg w w1 []) := by
  refine Cs.of (n := 19) (args := [(.slice a n cap), (Value.func (Fn.func 103) [].toArray [].toArray)]) Try.func114 rfl rfl rfl ?_
  have h_0 := HP.init w
  have h_00 := h_0.old (View.arg hv) (fun f hf => by cases hf)
  refine WP.seq ?_
  refine WP.reg ?_
  refine WL.q (Wn.no rfl) rfl rfl (R.assign (v := (vi 0)) rfl) ?_
  refine WL.nil ?_
  refine thn_n ?_
  refine WP.seq ?_
  refine WP.seq ?_
  refine WP.reg ?_
  refine WL.q (Wn.no rfl) rfl rfl (R.move (v := (.slice a n cap)) rfl) ?_
  refine WL.q (Wn.no rfl) rfl rfl (R.lenS (a := a) (m := n) rfl rfl Try.underlying70) ?_
  refine WL.q (Wn.no rfl) rfl rfl (R.move (v := (vi 0)) rfl) ?_
  refine WL.nil ?_
  refine thn_n ?_
  refine WP.block ?_
  refine WP.loopG (G := Nat) [4, 5, 8, 9, 10, 11, 12, 13, 14, 15, 16, 17, 18] (fun k => [(8, (vi ((k : Nat) : Int)))]) (fun k m w1 => HP w w1 [.view a (zs.map vi64)] ∧ (k ≤ n) ∧ (∀ j : Nat, j < k → 0 ≤ zs.getD j 0) ∧ m = n - k) ⟨0, _, ⟨rfl, trivial⟩, h_00, (by omega), (fun j h => by omega), rfl⟩ ?_
  rintro k m_3 J_4 w_1 ⟨h_2, hk, hg, rfl⟩
  refine WP.seq ?_
  refine WP.reg ?_
  refine WL.q (Wn.no rfl) rfl rfl (R.bin (v := (.bool (decide ((((k : Nat) : Int) : Int) < ((n : Nat) : Int))))) rfl rfl (bi_lss (r := decide ((((k : Nat) : Int) : Int) < ((n : Nat) : Int))) rfl)) ?_
  refine WL.nil ?_
  refine thn_n ?_
  refine WP.seq ?_
  refine WP.cond (b := decide ((((k : Nat) : Int) : Int) < ((n : Nat) : Int))) rfl (fun c_5 => ?_) (fun c_5 => ?_)
  · have p_6 := of_decide_eq_true c_5
    refine WP.skip ?_
    refine thn_n ?_
    refine WP.seq ?_
    refine WP.block ?_
    refine WP.seq ?_
    refine WP.reg ?_
    refine WL.q (Wn.no rfl) rfl rfl (R.move (v := (vi ((k : Nat) : Int))) rfl) ?_
    refine WL.q (Wn.no rfl) rfl rfl (R.assign (v := (vi ((k : Nat) : Int))) rfl) ?_
    refine WL.nil ?_
    refine thn_n ?_
    refine WP.seq ?_
    refine WP.reg ?_
    refine WL.q (Wn.no rfl) rfl rfl (R.move (v := (Value.func (Fn.func 103) [].toArray [].toArray)) rfl) ?_
    refine WL.q (Wn.no rfl) rfl rfl (R.move (v := (.slice a n cap)) rfl) ?_
    refine WL.q (Wn.no rfl) rfl rfl (R.move (v := (vi ((k : Nat) : Int))) rfl) ?_
    refine WL.q (Wn.no rfl) rfl rfl (R.indexS (a := a) (i := k) (off := k) (xs := zs.map vi64) rfl rfl rfl (by omega) (viewV (h_2.ok _ (.head _))) (lt_len (K := n) (len_map hl) (by omega)) Try.underlying70 Try.sizeOf3 (Nat.mul_one _).symm) ?_
    refine WL.q (Wn.no rfl) rfl rfl (R.loadG (a := a) (i := k) (xs := zs.map vi64) (v := (vi (zs.getD k 0))) rfl (viewV (h_2.ok _ (.head _))) Try.isAgg3 (get_i64 (lt_len (K := n) hl (by omega)))) ?_
    refine WL.call (al := [(vi (zs.getD k 0))]) Try.call103 rfl rfl (c_Cut1 (zs.getD k 0) _ ) rfl ?_
    rintro _ w_8 ⟨rfl, hc_7⟩
    have h_9 := h_2.same hc_7
    refine WL.nil ?_
    refine thn_n ?_
    refine WP.cond (b := decide ((zs.getD k 0 : Int) < 0)) rfl (fun c_10 => ?_) (fun c_10 => ?_)
    · have p_11 := of_decide_eq_true c_10
      refine WP.seq ?_
      refine WP.reg ?_
      refine WL.q (Wn.no rfl) rfl rfl (R.move (v := (vi ((k : Nat) : Int))) rfl) ?_
      refine WL.q (Wn.no rfl) rfl rfl (R.assign (v := (vi ((k : Nat) : Int))) rfl) ?_
      refine WL.nil ?_
      refine thn_n ?_
      refine WP.ret ?_
      refine inb_r ?_
      refine thn_r ?_
      refine thn_r ?_
      refine inb_r ?_
      refine thn_r ?_
      refine ret_of Try.results114 (RV.tmp (v := (vi ((k : Nat) : Int))) rfl RV.nil) ?_
      exact ⟨k, rfl, h_9.chgS⟩
    · have p_12 := of_decide_eq_false c_10
      refine WP.skip ?_
      refine inb_n ?_
      refine thn_n ?_
      refine WP.reg ?_
      refine WL.q (Wn.no rfl) rfl rfl (R.bin (v := (vi ((k + 1 : Nat) : Int))) rfl rfl (bi_add (c := ((k + 1 : Nat) : Int)) (by omega) (by omega))) ?_
      refine WL.q (Wn.no rfl) rfl rfl (R.move (v := (vi ((k + 1 : Nat) : Int))) rfl) ?_
      refine WL.nil ?_
      refine thn_n ?_
      refine ⟨k + 1, _, (by omega), (Ag.upd rfl (Ag.upd rfl (Ag.upd rfl (Ag.upd rfl (Ag.upd rfl (Ag.upd rfl (Ag.upd rfl (Ag.upd rfl (Ag.upd rfl (Ag.upd rfl (Ag.upd rfl (Ag.updL rfl (Ag.mix _ _ _))))))))))))), ⟨rfl, trivial⟩, h_9, (by omega), (fun j hj => ?_), rfl⟩
      rcases Nat.lt_or_eq_of_le (Nat.le_of_lt_succ hj) with hj | rfl
      · exact hg j hj
      · have hp := p_12; omega
  · have p_13 := of_decide_eq_false c_5
    refine WP.exit ?_
    refine thn_x ?_
    refine thn_x ?_
    refine inb_hit ?_
    refine thn_n ?_
    refine WP.seq ?_
    refine WP.reg ?_
    refine WL.q (Wn.no rfl) rfl rfl (R.assign (v := (vi (-1))) rfl) ?_
    refine WL.nil ?_
    refine thn_n ?_
    refine WP.ret ?_
    refine ret_of Try.results114 (RV.tmp (v := (vi (-1))) rfl RV.nil) ?_
    have hb := (zall_of (zs := zs) fun j hj => hg j (by omega))
    rw [hb] at hx
    cases hx

theorem c_CfZ_t (a : Option Addr) (n cap : Nat) (zs : List Int) (hl : zs.length = n) (hnb : n ≤ 1099511627776) (hx : zs.all nonneg = true) (w : World) (hv : View w a (zs.map vi64)) :
    Cs Try.prog 102 [(.slice a n cap), (Value.func (Fn.func 103) [].toArray [].toArray)].toArray w (fun v w1 => v = .bool false ∧ Chg w w1 []) := by
  refine Cs.of (n := 9) (args := [(.slice a n cap), (Value.func (Fn.func 103) [].toArray [].toArray)]) Try.func102 rfl rfl rfl ?_
  have h_0 := HP.init w
  have h_00 := h_0.old (View.arg hv) (fun f hf => by cases hf)
  refine WP.seq ?_
  refine WP.reg ?_
  refine WL.q (Wn.no rfl) rfl rfl (R.assign (v := (.bool false)) rfl) ?_
  refine WL.nil ?_
  refine thn_n ?_
  refine WP.seq ?_
  refine WP.reg ?_
  refine WL.q (Wn.no rfl) rfl rfl (R.move (v := (.slice a n cap)) rfl) ?_
  refine WL.q (Wn.no rfl) rfl rfl (R.move (v := (Value.func (Fn.func 103) [].toArray [].toArray)) rfl) ?_
  refine WL.call (al := [(.slice a n cap), (Value.func (Fn.func 103) [].toArray [].toArray)]) Try.call114 rfl rfl (c_IxZ_t a n cap zs hl (by omega) hx _ (viewV (h_00.ok _ (.head _)))) rfl ?_
  rintro _ w_1 ⟨rfl, hc_2⟩
  have h_4 := h_00.same hc_2
  refine WL.q (Wn.no rfl) rfl rfl (R.bin (v := (.bool false)) rfl rfl (bi_geq (r := false) (by decide))) ?_
  refine WL.q (Wn.no rfl) rfl rfl (R.assign (v := (.bool false)) rfl) ?_
  refine WL.nil ?_
  refine thn_n ?_
  refine WP.ret ?_
  refine ret_of Try.results102 (RV.tmp (v := (.bool false)) rfl RV.nil) ?_
  exact ⟨rfl, h_4.chgS⟩

theorem c_CfZ_f (a : Option Addr) (n cap : Nat) (zs : List Int) (hl : zs.length = n) (hnb : n ≤ 1099511627776) (hx : zs.all nonneg = false) (w : World) (hv : View w a (zs.map vi64)) :
    Cs Try.prog 102 [(.slice a n cap), (Value.func (Fn.func 103) [].toArray [].toArray)].toArray w (fun v w1 => v = .bool true ∧ Chg w w1 []) := by
  refine Cs.of (n := 9) (args := [(.slice a n cap), (Value.func (Fn.func 103) [].toArray [].toArray)]) Try.func102 rfl rfl rfl ?_
  have h_0 := HP.init w
  have h_00 := h_0.old (View.arg hv) (fun f hf => by cases hf)
  refine WP.seq ?_
  refine WP.reg ?_
  refine WL.q (Wn.no rfl) rfl rfl (R.assign (v := (.bool false)) rfl) ?_
  refine WL.nil ?_
  refine thn_n ?_
  refine WP.seq ?_
  refine WP.reg ?_
  refine WL.q (Wn.no rfl) rfl rfl (R.move (v := (.slice a n cap)) rfl) ?_
  refine WL.q (Wn.no rfl) rfl rfl (R.move (v := (Value.func (Fn.func 103) [].toArray [].toArray)) rfl) ?_
  refine WL.call (al := [(.slice a n cap), (Value.func (Fn.func 103) [].toArray [].toArray)]) Try.call114 rfl rfl (c_IxZ_f a n cap zs hl (by omega) hx _ (viewV (h_00.ok _ (.head _)))) rfl ?_
  rintro _ w_1 ⟨r_3, rfl, hc_2⟩
  have h_4 := h_00.same hc_2
  refine WL.q (Wn.no rfl) rfl rfl (R.bin (v := (.bool (decide ((((r_3 : Nat) : Int) : Int) ≥ 0)))) rfl rfl (bi_geq (r := decide ((((r_3 : Nat) : Int) : Int) ≥ 0)) rfl)) ?_
  refine WL.q (Wn.no rfl) rfl rfl (R.assign (v := (.bool (decide ((((r_3 : Nat) : Int) : Int) ≥ 0)))) rfl) ?_
  refine WL.nil ?_
  refine thn_n ?_
  refine WP.ret ?_
  refine ret_of Try.results102 (RV.tmp (v := (.bool (decide ((((r_3 : Nat) : Int) : Int) ≥ 0)))) rfl RV.nil) ?_
  exact ⟨congrArg Value.bool (decide_eq_true (by omega)), h_4.chgS⟩
end Go.Proofs.Ytnhppjimimhlkaa
