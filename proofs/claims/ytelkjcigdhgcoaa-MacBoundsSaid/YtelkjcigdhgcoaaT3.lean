/- Packed lists: contracts. Conditions: those that each theorem states. -/
import Derived.Test.YtelkjcigdhgcoaaT2
namespace Go.Proofs.Ytelkjcigdhgcoaa
open Go.Vc Go.RowKit
set_option linter.unusedVariables false
set_option linter.unusedSimpArgs false
set_option maxRecDepth 20000

theorem all_get {ls : List (List UInt8)} (h : ls.all Go.Wr.small = true) {k : Nat} (hk : k < ls.length) : (ls.getD k []).length ≤ 65536 := by
  have := List.all_eq_true.1 h (ls.getD k []) (by simp [hk])
  simpa [Go.Wr.small] using this
theorem all_of {ls : List (List UInt8)} (h : ∀ k, k < ls.length → (ls.getD k []).length ≤ 65536) : ls.all Go.Wr.small = true := by
  rw [List.all_eq_true]
  intro x hx
  obtain ⟨k, hk, rfl⟩ := List.getElem_of_mem hx
  have := h k hk
  simp [hk] at this
  simp [Go.Wr.small, this]
theorem pk_lt {n : Nat} (h : n ≤ 65536) : (UInt64.ofNat n).toNat < 256 ^ 4 := by
  have : (UInt64.ofNat n).toNat = n := by simp; omega
  rw [this]; exact Nat.lt_of_le_of_lt h (by decide)
theorem pk_snoc {ls : List (List UInt8)} {k m : Nat} (hk : k < ls.length) (hm : (ls.getD k []).length = m) (h : m ≤ 65536) : (Go.Wr.packL (ls.take k) ++ leN 4 (UInt64.ofNat m).toNat) ++ ls.getD k [] = Go.Wr.packL (ls.take (k + 1)) := by
  have : (UInt64.ofNat m).toNat = m := by simp; omega
  rw [this, Go.Wr.packL_snoc hk, Go.Wr.pk1, hm, List.append_assoc]
theorem pk_bound {ls : List (List UInt8)} (h : ls.all Go.Wr.small = true) : ∀ k, k ≤ ls.length → (Go.Wr.packL (ls.take k)).length ≤ 65540 * k
  | 0, _ => by simp [Go.Wr.packL]
  | k + 1, hk => by
    have h1 := pk_bound h k (by omega)
    have h2 := all_get h (k := k) (by omega)
    rw [Go.Wr.packL_snoc (by omega), List.length_append, Go.Wr.pk1, List.length_append, leN_len]
    omega
theorem mp_all {ls : List (List UInt8)} (h : Go.Wr.mayPack ls = true) : ls.all Go.Wr.small = true ∧ ls.length ≤ 64 := by
  simpa [Go.Wr.mayPack] using h
def nonneg (x : Int) : Bool := decide (0 ≤ x)
theorem zall_get {zs : List Int} (h : zs.all nonneg = true) {k : Nat} (hk : k < zs.length) : 0 ≤ zs.getD k 0 := by
  have := List.all_eq_true.1 h (zs.getD k 0) (by simp [hk])
  simpa [nonneg] using this
theorem zall_of {zs : List Int} (h : ∀ k, k < zs.length → 0 ≤ zs.getD k 0) : zs.all nonneg = true := by
  rw [List.all_eq_true]
  intro x hx
  obtain ⟨k, hk, rfl⟩ := List.getElem_of_mem hx
  have := h k hk
  simp [hk] at this
  simp [nonneg, this]
theorem c_Pack1 (a : Option Addr) (n cap : Nat) (w : World) :
    Cs Try.prog 83 [(.slice a n cap)].toArray w (fun v w1 => v = .bool (decide (((n : Nat) : Int) > 65536)) ∧ Chg w w1 []) := by
  refine Cs.of (n := 6) (args := [(.slice a n cap)]) Try.func83 rfl rfl rfl ?_
  have h_0 := HP.init w
  refine WP.seq ?_
  refine WP.reg ?_
  refine WL.q (Wn.no rfl) rfl rfl (R.assign (v := (.bool false)) rfl) ?_
  refine WL.nil ?_
  refine thn_n ?_
  refine WP.seq ?_
  refine WP.reg ?_
  refine WL.q (Wn.no rfl) rfl rfl (R.move (v := (.slice a n cap)) rfl) ?_
  refine WL.q (Wn.no rfl) rfl rfl (R.lenS (a := a) (m := n) rfl rfl Try.underlying26) ?_
  refine WL.q (Wn.no rfl) rfl rfl (R.bin (v := (.bool (decide ((((n : Nat) : Int) : Int) > 65536)))) rfl rfl (bi_gtr (r := decide ((((n : Nat) : Int) : Int) > 65536)) rfl)) ?_
  refine WL.q (Wn.no rfl) rfl rfl (R.assign (v := (.bool (decide ((((n : Nat) : Int) : Int) > 65536)))) rfl) ?_
  refine WL.nil ?_
  refine thn_n ?_
  refine WP.ret ?_
  refine ret_of Try.results83 (RV.tmp (v := (.bool (decide ((((n : Nat) : Int) : Int) > 65536)))) rfl RV.nil) ?_
  exact ⟨rfl, h_0.chgS⟩

theorem c_IxS_t (a : Option Addr) (n cap : Nat) (xs : List Value) (ls : List (List UInt8)) (hln : ls.length = n) (hnb : n ≤ 1099511627776) (hx : ls.all Go.Wr.small = true) (w : World) (hv : View w a xs) (hs : Sls w xs ls) :
    Cs Try.prog 88 [(.slice a n cap), (Value.func (Fn.func 83) [].toArray [].toArray)].toArray w (fun v w1 => v = vi (-1) ∧ Chg w w1 []) := by
  refine Cs.of (n := 19) (args := [(.slice a n cap), (Value.func (Fn.func 83) [].toArray [].toArray)]) Try.func88 rfl rfl rfl ?_
  have h_0 := HP.init w
  have h_01 := h_0.old (View.arg hv) (fun f hf => by cases hf)
  have h_00 := h_01.old hs.pin (fun f hf => by rw [List.mem_singleton] at hf; subst hf; intro hm; simp [Ent.mut] at hm)
  have hxl : xs.length = n := hs.len.trans hln
  refine WP.seq ?_
  refine WP.reg ?_
  refine WL.q (Wn.no rfl) rfl rfl (R.assign (v := (vi 0)) rfl) ?_
  refine WL.nil ?_
  refine thn_n ?_
  refine WP.seq ?_
  refine WP.seq ?_
  refine WP.reg ?_
  refine WL.q (Wn.no rfl) rfl rfl (R.move (v := (.slice a n cap)) rfl) ?_
  refine WL.q (Wn.no rfl) rfl rfl (R.lenS (a := a) (m := n) rfl rfl Try.underlying40) ?_
  refine WL.q (Wn.no rfl) rfl rfl (R.move (v := (vi 0)) rfl) ?_
  refine WL.nil ?_
  refine thn_n ?_
  refine WP.block ?_
  refine WP.loopG (G := Nat) [4, 5, 8, 9, 10, 11, 12, 13, 14, 15, 16, 17, 18] (fun k => [(8, (vi ((k : Nat) : Int)))]) (fun k m w1 => HP w w1 [.pin (sblks xs) (fun w => Sls w xs ls), .view a xs] ∧ (k ≤ n) ∧ (∀ j : Nat, j < k → (ls.getD j []).length ≤ 65536) ∧ m = n - k) ⟨0, _, ⟨rfl, trivial⟩, h_00, (by omega), (fun j h => by omega), rfl⟩ ?_
  rintro k m_3 J_4 w_1 ⟨h_2, hk, hg, rfl⟩
  refine WP.seq ?_
  refine WP.reg ?_
  refine WL.q (Wn.no rfl) rfl rfl (R.bin (v := (.bool (decide ((((k : Nat) : Int) : Int) < ((n : Nat) : Int))))) rfl rfl (bi_lss (r := decide ((((k : Nat) : Int) : Int) < ((n : Nat) : Int))) rfl)) ?_
  refine WL.nil ?_
  refine thn_n ?_
  refine WP.seq ?_
  refine WP.cond (b := decide ((((k : Nat) : Int) : Int) < ((n : Nat) : Int))) rfl (fun c_5 => ?_) (fun c_5 => ?_)
  · have p_6 := of_decide_eq_true c_5
    refine WP.skip ?_
    refine thn_n ?_
    refine WP.seq ?_
    refine WP.block ?_
    refine WP.seq ?_
    refine WP.reg ?_
    refine WL.q (Wn.no rfl) rfl rfl (R.move (v := (vi ((k : Nat) : Int))) rfl) ?_
    refine WL.q (Wn.no rfl) rfl rfl (R.assign (v := (vi ((k : Nat) : Int))) rfl) ?_
    refine WL.nil ?_
    refine thn_n ?_
    refine WP.seq ?_
    refine WP.reg ?_
    refine WL.q (Wn.no rfl) rfl rfl (R.move (v := (Value.func (Fn.func 83) [].toArray [].toArray)) rfl) ?_
    refine WL.q (Wn.no rfl) rfl rfl (R.move (v := (.slice a n cap)) rfl) ?_
    refine WL.q (Wn.no rfl) rfl rfl (R.move (v := (vi ((k : Nat) : Int))) rfl) ?_
    refine WL.q (Wn.no rfl) rfl rfl (R.indexS (a := a) (i := k) (off := k) (xs := xs) rfl rfl rfl (by omega) (viewV (h_2.ok _ (.tail _ (.head _)))) (by omega) Try.underlying40 Try.sizeOf26 (Nat.mul_one _).symm) ?_
    obtain ⟨a_7, n_8, c_9, hx_10, hl_11, hn_12, hv_13, hb_14⟩ := Sls.get (i := k) (h_2.ok _ (.head _)).1 (by rw [hln]; omega)
    have h_15 := h_2.within (e' := .view a_7 ((ls.getD k []).map vu8)) (.head _) rfl (View.arg hv_13) rfl rfl (fun b hb_ => hb_14 _ (view_sblk hl_11 b hb_))
    refine WL.q (Wn.no rfl) rfl rfl (R.loadG (a := a) (i := k) (xs := xs) (v := (.slice a_7 n_8 c_9)) rfl (viewV (h_15.ok _ (.tail _ (.tail _ (.head _))))) Try.isAgg26 hx_10) ?_
    refine WL.call (al := [(.slice a_7 n_8 c_9)]) Try.call83 rfl rfl (c_Pack1 a_7 n_8 c_9 _ ) rfl ?_
    rintro _ w_17 ⟨rfl, hc_16⟩
    have h_18 := h_15.same hc_16
    refine WL.nil ?_
    refine thn_n ?_
    refine WP.cond (b := decide (((n_8 : Nat) : Int) > 65536)) rfl (fun c_19 => ?_) (fun c_19 => ?_)
    · have p_20 := of_decide_eq_true c_19
      refine WP.seq ?_
      refine WP.reg ?_
      refine WL.q (Wn.no rfl) rfl rfl (R.move (v := (vi ((k : Nat) : Int))) rfl) ?_
      refine WL.q (Wn.no rfl) rfl rfl (R.assign (v := (vi ((k : Nat) : Int))) rfl) ?_
      refine WL.nil ?_
      refine thn_n ?_
      refine WP.ret ?_
      refine inb_r ?_
      refine thn_r ?_
      refine thn_r ?_
      refine inb_r ?_
      refine thn_r ?_
      refine ret_of Try.results88 (RV.tmp (v := (vi ((k : Nat) : Int))) rfl RV.nil) ?_
      exact absurd (all_get hx (k := k) (by omega)) (by have hp := p_20; omega)
    · have p_21 := of_decide_eq_false c_19
      refine WP.skip ?_
      refine inb_n ?_
      refine thn_n ?_
      refine WP.reg ?_
      refine WL.q (Wn.no rfl) rfl rfl (R.bin (v := (vi ((k + 1 : Nat) : Int))) rfl rfl (bi_add (c := ((k + 1 : Nat) : Int)) (by omega) (by omega))) ?_
      refine WL.q (Wn.no rfl) rfl rfl (R.move (v := (vi ((k + 1 : Nat) : Int))) rfl) ?_
      refine WL.nil ?_
      refine thn_n ?_
      have h_22 := h_18.drop rfl
      refine ⟨k + 1, _, (by omega), (Ag.upd rfl (Ag.upd rfl (Ag.upd rfl (Ag.upd rfl (Ag.upd rfl (Ag.upd rfl (Ag.upd rfl (Ag.upd rfl (Ag.upd rfl (Ag.upd rfl (Ag.upd rfl (Ag.updL rfl (Ag.mix _ _ _))))))))))))), ⟨rfl, trivial⟩, h_22, (by omega), (fun j hj => ?_), rfl⟩
      rcases Nat.lt_or_eq_of_le (Nat.le_of_lt_succ hj) with hj | rfl
      · exact hg j hj
      · have hp := p_21; omega
  · have p_23 := of_decide_eq_false c_5
    refine WP.exit ?_
    refine thn_x ?_
    refine thn_x ?_
    refine inb_hit ?_
    refine thn_n ?_
    refine WP.seq ?_
    refine WP.reg ?_
    refine WL.q (Wn.no rfl) rfl rfl (R.assign (v := (vi (-1))) rfl) ?_
    refine WL.nil ?_
    refine thn_n ?_
    refine WP.ret ?_
    refine ret_of Try.results88 (RV.tmp (v := (vi (-1))) rfl RV.nil) ?_
    exact ⟨rfl, h_2.chgS⟩

theorem c_IxS_f (a : Option Addr) (n cap : Nat) (xs : List Value) (ls : List (List UInt8)) (hln : ls.length = n) (hnb : n ≤ 1099511627776) (hx : ls.all Go.Wr.small = false) (w : World) (hv : View w a xs) (hs : Sls w xs ls) :
    Cs Try.prog 88 [(.slice a n cap), (Value.func (Fn.func 83) [].toArray [].toArray)].toArray w (fun v w1 => ∃ r : Nat, v = vi ((r : Nat) : Int) ∧ Chg w w1 []) := by
  refine Cs.of (n := 19) (args := [(.slice a n cap), (Value.func (Fn.func 83) [].toArray [].toArray)]) Try.func88 rfl rfl rfl ?_
  have h_0 := HP.init w
  have h_01 := h_0.old (View.arg hv) (fun f hf => by cases hf)
  have h_00 := h_01.old hs.pin (fun f hf => by rw [List.mem_singleton] at hf; subst hf; intro hm; simp [Ent.mut] at hm)
  have hxl : xs.length = n := hs.len.trans hln
  refine WP.seq ?_
  refine WP.reg ?_
  refine WL.q (Wn.no rfl) rfl rfl (R.assign (v := (vi 0)) rfl) ?_
  refine WL.nil ?_
  refine thn_n ?_
  refine WP.seq ?_
  refine WP.seq ?_
  refine WP.reg ?_
  refine WL.q (Wn.no rfl) rfl rfl (R.move (v := (.slice a n cap)) rfl) ?_
  refine WL.q (Wn.no rfl) rfl rfl (R.lenS (a := a) (m := n) rfl rfl Try.underlying40) ?_
  refine WL.q (Wn.no rfl) rfl rfl (R.move (v := (vi 0)) rfl) ?_
  refine WL.nil ?_
  refine thn_n ?_
  refine WP.block ?_
  refine WP.loopG (G := Nat) [4, 5, 8, 9, 10, 11, 12, 13, 14, 15, 16, 17, 18] (fun k => [(8, (vi ((k : Nat) : Int)))]) (fun k m w1 => HP w w1 [.pin (sblks xs) (fun w => Sls w xs ls), .view a xs] ∧ (k ≤ n) ∧ (∀ j : Nat, j < k → (ls.getD j []).length ≤ 65536) ∧ m = n - k) ⟨0, _, ⟨rfl, trivial⟩, h_00, (by omega), (fun j h => by omega), rfl⟩ ?_
  rintro k m_3 J_4 w_1 ⟨h_2, hk, hg, rfl⟩
  refine WP.seq ?_
  refine WP.reg ?_
  refine WL.q (Wn.no rfl) rfl rfl (R.bin (v := (.bool (decide ((((k : Nat) : Int) : Int) < ((n : Nat) : Int))))) rfl rfl (bi_lss (r := decide ((((k : Nat) : Int) : Int) < ((n : Nat) : Int))) rfl)) ?_
  refine WL.nil ?_
  refine thn_n ?_
  refine WP.seq ?_
  refine WP.cond (b := decide ((((k : Nat) : Int) : Int) < ((n : Nat) : Int))) rfl (fun c_5 => ?_) (fun c_5 => ?_)
  · have p_6 := of_decide_eq_true c_5
    refine WP.skip ?_
    refine thn_n ?_
    refine WP.seq ?_
    refine WP.block ?_
    refine WP.seq ?_
    refine WP.reg ?_
    refine WL.q (Wn.no rfl) rfl rfl (R.move (v := (vi ((k : Nat) : Int))) rfl) ?_
    refine WL.q (Wn.no rfl) rfl rfl (R.assign (v := (vi ((k : Nat) : Int))) rfl) ?_
    refine WL.nil ?_
    refine thn_n ?_
    refine WP.seq ?_
    refine WP.reg ?_
    refine WL.q (Wn.no rfl) rfl rfl (R.move (v := (Value.func (Fn.func 83) [].toArray [].toArray)) rfl) ?_
    refine WL.q (Wn.no rfl) rfl rfl (R.move (v := (.slice a n cap)) rfl) ?_
    refine WL.q (Wn.no rfl) rfl rfl (R.move (v := (vi ((k : Nat) : Int))) rfl) ?_
    refine WL.q (Wn.no rfl) rfl rfl (R.indexS (a := a) (i := k) (off := k) (xs := xs) rfl rfl rfl (by omega) (viewV (h_2.ok _ (.tail _ (.head _)))) (by omega) Try.underlying40 Try.sizeOf26 (Nat.mul_one _).symm) ?_
    obtain ⟨a_7, n_8, c_9, hx_10, hl_11, hn_12, hv_13, hb_14⟩ := Sls.get (i := k) (h_2.ok _ (.head _)).1 (by rw [hln]; omega)
    have h_15 := h_2.within (e' := .view a_7 ((ls.getD k []).map vu8)) (.head _) rfl (View.arg hv_13) rfl rfl (fun b hb_ => hb_14 _ (view_sblk hl_11 b hb_))
    refine WL.q (Wn.no rfl) rfl rfl (R.loadG (a := a) (i := k) (xs := xs) (v := (.slice a_7 n_8 c_9)) rfl (viewV (h_15.ok _ (.tail _ (.tail _ (.head _))))) Try.isAgg26 hx_10) ?_
    refine WL.call (al := [(.slice a_7 n_8 c_9)]) Try.call83 rfl rfl (c_Pack1 a_7 n_8 c_9 _ ) rfl ?_
    rintro _ w_17 ⟨rfl, hc_16⟩
    have h_18 := h_15.same hc_16
    refine WL.nil ?_
    refine thn_n ?_
    refine WP.cond (b := decide (((n_8 : Nat) : Int) > 65536)) rfl (fun c_19 => ?_) (fun c_19 => ?_)
    · have p_20 := of_decide_eq_true c_19
      refine WP.seq ?_
      refine WP.reg ?_
      refine WL.q (Wn.no rfl) rfl rfl (R.move (v := (vi ((k : Nat) : Int))) rfl) ?_
      refine WL.q (Wn.no rfl) rfl rfl (R.assign (v := (vi ((k : Nat) : Int))) rfl) ?_
      refine WL.nil ?_
      refine thn_n ?_
      refine WP.ret ?_
      refine inb_r ?_
      refine thn_r ?_
      refine thn_r ?_
      refine inb_r ?_
      refine thn_r ?_
      refine ret_of Try.results88 (RV.tmp (v := (vi ((k : Nat) : Int))) rfl RV.nil) ?_
      exact ⟨k, rfl, h_18.chgS⟩
    · have p_21 := of_decide_eq_false c_19
      refine WP.skip ?_
      refine inb_n ?_
      refine thn_n ?_
      refine WP.reg ?_
      refine WL.q (Wn.no rfl) rfl rfl (R.bin (v := (vi ((k + 1 : Nat) : Int))) rfl rfl (bi_add (c := ((k + 1 : Nat) : Int)) (by omega) (by omega))) ?_
      refine WL.q (Wn.no rfl) rfl rfl (R.move (v := (vi ((k + 1 : Nat) : Int))) rfl) ?_
      refine WL.nil ?_
      refine thn_n ?_
      have h_22 := h_18.drop rfl
      refine ⟨k + 1, _, (by omega), (Ag.upd rfl (Ag.upd rfl (Ag.upd rfl (Ag.upd rfl (Ag.upd rfl (Ag.upd rfl (Ag.upd rfl (Ag.upd rfl (Ag.upd rfl (Ag.upd rfl (Ag.upd rfl (Ag.updL rfl (Ag.mix _ _ _))))))))))))), ⟨rfl, trivial⟩, h_22, (by omega), (fun j hj => ?_), rfl⟩
      rcases Nat.lt_or_eq_of_le (Nat.le_of_lt_succ hj) with hj | rfl
      · exact hg j hj
      · have hp := p_21; omega
  · have p_23 := of_decide_eq_false c_5
    refine WP.exit ?_
    refine thn_x ?_
    refine thn_x ?_
    refine inb_hit ?_
    refine thn_n ?_
    refine WP.seq ?_
    refine WP.reg ?_
    refine WL.q (Wn.no rfl) rfl rfl (R.assign (v := (vi (-1))) rfl) ?_
    refine WL.nil ?_
    refine thn_n ?_
    refine WP.ret ?_
    refine ret_of Try.results88 (RV.tmp (v := (vi (-1))) rfl RV.nil) ?_
    have hb := (all_of (ls := ls) fun j hj => hg j (by omega))
    rw [hb] at hx
    cases hx

theorem c_CfS_t (a : Option Addr) (n cap : Nat) (xs : List Value) (ls : List (List UInt8)) (hln : ls.length = n) (hnb : n ≤ 1099511627776) (hx : ls.all Go.Wr.small = true) (w : World) (hv : View w a xs) (hs : Sls w xs ls) :
    Cs Try.prog 82 [(.slice a n cap), (Value.func (Fn.func 83) [].toArray [].toArray)].toArray w (fun v w1 => v = .bool false ∧ Chg w w1 []) := by
  refine Cs.of (n := 9) (args := [(.slice a n cap), (Value.func (Fn.func 83) [].toArray [].toArray)]) Try.func82 rfl rfl rfl ?_
  have h_0 := HP.init w
  have h_01 := h_0.old (View.arg hv) (fun f hf => by cases hf)
  have h_00 := h_01.old hs.pin (fun f hf => by rw [List.mem_singleton] at hf; subst hf; intro hm; simp [Ent.mut] at hm)
  have hxl : xs.length = n := hs.len.trans hln
  refine WP.seq ?_
  refine WP.reg ?_
  refine WL.q (Wn.no rfl) rfl rfl (R.assign (v := (.bool false)) rfl) ?_
  refine WL.nil ?_
  refine thn_n ?_
  refine WP.seq ?_
  refine WP.reg ?_
  refine WL.q (Wn.no rfl) rfl rfl (R.move (v := (.slice a n cap)) rfl) ?_
  refine WL.q (Wn.no rfl) rfl rfl (R.move (v := (Value.func (Fn.func 83) [].toArray [].toArray)) rfl) ?_
  refine WL.call (al := [(.slice a n cap), (Value.func (Fn.func 83) [].toArray [].toArray)]) Try.call88 rfl rfl (c_IxS_t a n cap xs ls hln (by omega) hx _ (viewV (h_00.ok _ (.tail _ (.head _)))) (h_00.ok _ (.head _)).1) rfl ?_
  rintro _ w_1 ⟨rfl, hc_2⟩
  have h_4 := h_00.same hc_2
  refine WL.q (Wn.no rfl) rfl rfl (R.bin (v := (.bool false)) rfl rfl (bi_geq (r := false) (by decide))) ?_
  refine WL.q (Wn.no rfl) rfl rfl (R.assign (v := (.bool false)) rfl) ?_
  refine WL.nil ?_
  refine thn_n ?_
  refine WP.ret ?_
  refine ret_of Try.results82 (RV.tmp (v := (.bool false)) rfl RV.nil) ?_
  exact ⟨rfl, h_4.chgS⟩

theorem c_CfS_f (a : Option Addr) (n cap : Nat) (xs : List Value) (ls : List (List UInt8)) (hln : ls.length = n) (hnb : n ≤ 1099511627776) (hx : ls.all Go.Wr.small = false) (w : World) (hv : View w a xs) (hs : Sls w xs ls) :
    Cs Try.prog 82 [(.slice a n cap), (Value.func (Fn.func 83) [].toArray [].toArray)].toArray w (fun v w1 => v = .bool true ∧ Chg w w1 []) := by
  refine Cs.of (n := 9) (args := [(.slice a n cap), (Value.func (Fn.func 83) [].toArray [].toArray)]) Try.func82 rfl rfl rfl ?_
  have h_0 := HP.init w
  have h_01 := h_0.old (View.arg hv) (fun f hf => by cases hf)
  have h_00 := h_01.old hs.pin (fun f hf => by rw [List.mem_singleton] at hf; subst hf; intro hm; simp [Ent.mut] at hm)
  have hxl : xs.length = n := hs.len.trans hln
  refine WP.seq ?_
  refine WP.reg ?_
  refine WL.q (Wn.no rfl) rfl rfl (R.assign (v := (.bool false)) rfl) ?_
  refine WL.nil ?_
  refine thn_n ?_
  refine WP.seq ?_
  refine WP.reg ?_
  refine WL.q (Wn.no rfl) rfl rfl (R.move (v := (.slice a n cap)) rfl) ?_
  refine WL.q (Wn.no rfl) rfl rfl (R.move (v := (Value.func (Fn.func 83) [].toArray [].toArray)) rfl) ?_
  refine WL.call (al := [(.slice a n cap), (Value.func (Fn.func 83) [].toArray [].toArray)]) Try.call88 rfl rfl (c_IxS_f a n cap xs ls hln (by omega) hx _ (viewV (h_00.ok _ (.tail _ (.head _)))) (h_00.ok _ (.head _)).1) rfl ?_
  rintro _ w_1 ⟨r_3, rfl, hc_2⟩
  have h_4 := h_00.same hc_2
  refine WL.q (Wn.no rfl) rfl rfl (R.bin (v := (.bool (decide ((((r_3 : Nat) : Int) : Int) ≥ 0)))) rfl rfl (bi_geq (r := decide ((((r_3 : Nat) : Int) : Int) ≥ 0)) rfl)) ?_
  refine WL.q (Wn.no rfl) rfl rfl (R.assign (v := (.bool (decide ((((r_3 : Nat) : Int) : Int) ≥ 0)))) rfl) ?_
  refine WL.nil ?_
  refine thn_n ?_
  refine WP.ret ?_
  refine ret_of Try.results82 (RV.tmp (v := (.bool (decide ((((r_3 : Nat) : Int) : Int) ≥ 0)))) rfl RV.nil) ?_
  exact ⟨congrArg Value.bool (decide_eq_true (by omega)), h_4.chgS⟩

theorem c_Pack_t (a : Option Addr) (n cap : Nat) (xs : List Value) (ls : List (List UInt8)) (hln : ls.length = n) (hm : Go.Wr.mayPack ls = true) (w : World) (hv : View w a xs) (hs : Sls w xs ls) :
    Cs Try.prog 65 [(.slice a n cap)].toArray w (fun v w1 => ∃ a cap, v = .tuple [.slice a (Go.Wr.packL ls).length cap, vi 0].toArray ∧ Chg w w1 [] ∧ Own w.heap.size w1 5 1 a (Go.Wr.packL ls).length cap ((Go.Wr.packL ls).map vu8)) := by
  refine Cs.of (n := 36) (args := [(.slice a n cap)]) Try.func65 rfl rfl rfl ?_
  have h_0 := HP.init w
  have h_01 := h_0.old (View.arg hv) (fun f hf => by cases hf)
  have h_00 := h_01.old hs.pin (fun f hf => by rw [List.mem_singleton] at hf; subst hf; intro hm; simp [Ent.mut] at hm)
  have hxl : xs.length = n := hs.len.trans hln
  have ha := (mp_all hm).1
  have h64 := (mp_all hm).2
  refine WP.seq ?_
  refine WP.reg ?_
  refine WL.q (Wn.no rfl) rfl rfl (R.assign (v := (.slice none 0 0)) rfl) ?_
  refine WL.q (Wn.no rfl) rfl rfl (R.assign (v := (vi 0)) rfl) ?_
  refine WL.nil ?_
  refine thn_n ?_
  refine WP.seq ?_
  refine WP.seq ?_
  refine WP.reg ?_
  refine WL.q (Wn.no rfl) rfl rfl (R.move (v := (.slice a n cap)) rfl) ?_
  refine WL.q (Wn.no rfl) rfl rfl (R.lenS (a := a) (m := n) rfl rfl Try.underlying40) ?_
  refine WL.q (Wn.no rfl) rfl rfl (R.bin (v := (.bool (decide ((((n : Nat) : Int) : Int) > 64)))) rfl rfl (bi_gtr (r := decide ((((n : Nat) : Int) : Int) > 64)) rfl)) ?_
  refine WL.q (Wn.no rfl) rfl rfl (R.move (v := (.bool (decide ((((n : Nat) : Int) : Int) > 64)))) rfl) ?_
  refine WL.want rfl (congrArg Value.bool (decide_eq_false (by omega))) ?_
  refine WL.q (Wn.no rfl) rfl rfl (R.move (v := (.slice a n cap)) rfl) ?_
  refine WL.want rfl (congrArg Value.bool (decide_eq_false (by omega))) ?_
  refine WL.call (al := [(.slice a n cap), (Value.func (Fn.func 83) [].toArray [].toArray)]) Try.call82 rfl rfl (c_CfS_t a n cap xs ls hln (by omega) ha _ (viewV (h_00.ok _ (.tail _ (.head _)))) (h_00.ok _ (.head _)).1) rfl ?_
  rintro _ w_2 ⟨rfl, hc_1⟩
  have h_3 := h_00.same hc_1
  refine WL.q (Wn.no rfl) rfl rfl (R.pickF (v := (.bool false)) (congrArg Value.bool (decide_eq_false (by omega))) rfl) ?_
  refine WL.nil ?_
  refine thn_n ?_
  refine WP.condF rfl ?_
  refine WP.skip ?_
  refine thn_n ?_
  refine WP.seq ?_
  refine WP.reg ?_
  refine WL.q (Wn.no rfl) rfl rfl (R.assign (v := (.slice none 0 0)) rfl) ?_
  refine WL.nil ?_
  refine thn_n ?_
  refine WP.seq ?_
  refine WP.seq ?_
  refine WP.reg ?_
  refine WL.q (Wn.no rfl) rfl rfl (R.move (v := (.slice a n cap)) rfl) ?_
  refine WL.q (Wn.no rfl) rfl rfl (R.lenS (a := a) (m := n) rfl rfl Try.underlying40) ?_
  refine WL.q (Wn.no rfl) rfl rfl (R.move (v := (vi 0)) rfl) ?_
  refine WL.nil ?_
  refine thn_n ?_
  refine WP.block ?_
  have h_4 := h_3.rowNil 5 1
  refine WP.loopG (G := Nat × Option Addr × Nat) [4, 6, 7, 8, 18, 19, 20, 21, 22, 23, 24, 25, 26, 27, 28, 29, 30, 31, 32, 33, 34] (fun (k, ra, rc) => [(4, (.slice ra ((Go.Wr.packL (ls.take k)).length) rc)), (18, (vi ((k : Nat) : Int)))]) (fun (k, ra, rc) m w1 => HP w w1 [.row ra ((Go.Wr.packL (ls.take k)).length) rc 5 1 ((Go.Wr.packL (ls.take k)).map vu8), .pin (sblks xs) (fun w => Sls w xs ls), .view a xs] ∧ (k ≤ n) ∧ m = n - k) ⟨(0, none, 0), _, ⟨rfl, rfl, trivial⟩, h_4, (by omega), rfl⟩ ?_
  rintro ⟨k, ra, rc⟩ m_7 J_8 w_5 ⟨h_6, hk, rfl⟩
  have hbd := pk_bound ha k (by omega)
  have hsm : k < n → (ls.getD k []).length ≤ 65536 := fun h => all_get ha (by omega)
  refine WP.seq ?_
  refine WP.reg ?_
  refine WL.q (Wn.no rfl) rfl rfl (R.bin (v := (.bool (decide ((((k : Nat) : Int) : Int) < ((n : Nat) : Int))))) rfl rfl (bi_lss (r := decide ((((k : Nat) : Int) : Int) < ((n : Nat) : Int))) rfl)) ?_
  refine WL.nil ?_
  refine thn_n ?_
  refine WP.seq ?_
  refine WP.cond (b := decide ((((k : Nat) : Int) : Int) < ((n : Nat) : Int))) rfl (fun c_9 => ?_) (fun c_9 => ?_)
  · have p_10 := of_decide_eq_true c_9
    refine WP.skip ?_
    refine thn_n ?_
    refine WP.seq ?_
    refine WP.block ?_
    refine WP.seq ?_
    refine WP.reg ?_
    refine WL.q (Wn.no rfl) rfl rfl (R.indexS (a := a) (i := k) (off := k) (xs := xs) rfl rfl rfl (by omega) (viewV (h_6.ok _ (.tail _ (.tail _ (.head _))))) (by omega) Try.underlying40 Try.sizeOf26 (Nat.mul_one _).symm) ?_
    obtain ⟨a_11, n_12, c_13, hx_14, hl_15, hn_16, hv_17, hb_18⟩ := Sls.get (i := k) (h_6.ok _ (.tail _ (.head _))).1 (by rw [hln]; omega)
    have h_19 := h_6.within (e' := .view a_11 ((ls.getD k []).map vu8)) (.tail _ (.head _)) rfl (View.arg hv_17) rfl rfl (fun b hb_ => hb_18 _ (view_sblk hl_15 b hb_))
    refine WL.q (Wn.no rfl) rfl rfl (R.loadG (a := a) (i := k) (xs := xs) (v := (.slice a_11 n_12 c_13)) rfl (viewV (h_19.ok _ (.tail _ (.tail _ (.tail _ (.head _)))))) Try.isAgg26 hx_14) ?_
    refine WL.q (Wn.no rfl) rfl rfl (R.assign (v := (.slice a_11 n_12 c_13)) rfl) ?_
    refine WL.nil ?_
    refine thn_n ?_
    refine WP.seq ?_
    refine WP.reg ?_
    refine WL.q (Wn.no rfl) rfl rfl (R.move (v := (.slice a_11 n_12 c_13)) rfl) ?_
    refine WL.q (Wn.no rfl) rfl rfl (R.lenS (a := a_11) (m := n_12) rfl rfl Try.underlying26) ?_
    refine WL.q (Wn.no rfl) rfl rfl (R.conv (b := ((UInt64.ofNat n_12) : UInt64).toNat) rfl Try.underlying3 Try.underlying58 (w64_nat n_12)) ?_
    refine WL.call (al := [(vu64 (UInt64.ofNat n_12)), (vi 4)]) Try.call60 rfl rfl (c_Put_a (UInt64.ofNat n_12) 4 (by decide) (by decide) (pk_lt (by omega)) _) rfl ?_
    rintro _ w_22 ⟨a_20, cap_21, rfl, hc_23, ho_24⟩
    have h_25 := h_19.gotRow hc_23 ho_24
    refine WL.q (Wn.no rfl) rfl rfl (R.move (v := (.tuple [(.slice a_20 4 cap_21), (vi 0)].toArray)) rfl) ?_
    refine WL.q (Wn.no rfl) rfl rfl (R.extract (l := [(.slice a_20 4 cap_21), (vi 0)]) (v := (.slice a_20 4 cap_21)) rfl rfl) ?_
    refine WL.q (Wn.no rfl) rfl rfl (R.extract (l := [(.slice a_20 4 cap_21), (vi 0)]) (v := (vi 0)) rfl rfl) ?_
    refine WL.q (Wn.no rfl) rfl rfl (R.assign (v := (.slice a_20 4 cap_21)) rfl) ?_
    refine WL.q (Wn.no rfl) rfl rfl (R.assign (v := (vi 0)) rfl) ?_
    refine WL.nil ?_
    refine thn_n ?_
    refine WP.reg ?_
    refine WL.q (Wn.no rfl) rfl rfl (R.move (v := (.slice ra ((Go.Wr.packL (ls.take k)).length) rc)) rfl) ?_
    refine WL.q (Wn.no rfl) rfl rfl (R.move (v := (.slice a_20 4 cap_21)) rfl) ?_
    refine WL.append (km := (Go.Wr.packL (ls.take k)).length + 4) (xs := (Go.Wr.packL (ls.take k)).map vu8) (ys := (leN 4 (UInt64.ofNat n_12).toNat).map vu8) (zs := ((Go.Wr.packL (ls.take k)) ++ (leN 4 (UInt64.ofNat n_12).toNat)).map vu8) h_25 rfl rfl el26 (ownView (h_25.ok _ (.head _))) ((len_map (leN_len ..)).trans (Nat.mul_one _).symm) (one_u8 _) (by simp only [List.map_append, List.map_nil]) (by omega) (by omega) (by omega) (fun _ _ => (At.t (At.t At.h))) rfl (fun a_26 c_27 w_28 h_29 => ?_)
    refine WL.q (Wn.no rfl) rfl rfl (R.move (v := (.slice a_11 n_12 c_13)) rfl) ?_
    refine WL.append (km := (Go.Wr.packL (ls.take k)).length + 4 + n_12) (xs := ((Go.Wr.packL (ls.take k)) ++ (leN 4 (UInt64.ofNat n_12).toNat)).map vu8) (ys := (ls.getD k []).map vu8) (zs := (((Go.Wr.packL (ls.take k)) ++ (leN 4 (UInt64.ofNat n_12).toNat)) ++ (ls.getD k [])).map vu8) h_29 rfl rfl el26 (viewV (h_29.ok _ (.tail _ (.head _)))) ((len_map hl_15).trans (Nat.mul_one _).symm) (one_u8 _) (by simp only [List.map_append, List.map_nil]) (by omega) (by omega) (by omega) (fun _ _ => (At.t (At.t At.h))) rfl (fun a_30 c_31 w_32 h_33 => ?_)
    refine WL.q (Wn.no rfl) rfl rfl (R.assign (v := (.slice a_30 ((Go.Wr.packL (ls.take k)).length + 4 + n_12) c_31)) rfl) ?_
    refine WL.nil ?_
    refine inb_n ?_
    refine thn_n ?_
    refine WP.reg ?_
    refine WL.q (Wn.no rfl) rfl rfl (R.bin (v := (vi ((k + 1 : Nat) : Int))) rfl rfl (bi_add (c := ((k + 1 : Nat) : Int)) (by omega) (by omega))) ?_
    refine WL.q (Wn.no rfl) rfl rfl (R.move (v := (vi ((k + 1 : Nat) : Int))) rfl) ?_
    refine WL.nil ?_
    refine thn_n ?_
    have h_34 := h_33.drop rfl
    have h_35 := h_34.drop rfl
    have es := pk_snoc (ls := ls) (k := k) (by omega) hl_15 (by omega)
    have el := congrArg List.length es
    simp only [List.length_append, leN_len] at el
    rw [es, show (Go.Wr.packL (ls.take k)).length + 4 + n_12 = (Go.Wr.packL (ls.take (k + 1))).length by omega] at h_35
    exact ⟨(k + 1, a_30, c_31), _, (by omega), (Ag.upd rfl (Ag.upd rfl (Ag.upd rfl (Ag.upd rfl (Ag.upd rfl (Ag.upd rfl (Ag.upd rfl (Ag.upd rfl (Ag.upd rfl (Ag.upd rfl (Ag.upd rfl (Ag.upd rfl (Ag.upd rfl (Ag.upd rfl (Ag.upd rfl (Ag.upd rfl (Ag.upd rfl (Ag.upd rfl (Ag.upd rfl (Ag.upd rfl (Ag.upd rfl (Ag.updL rfl (Ag.mix _ _ _))))))))))))))))))))))), ⟨by rw [show (Go.Wr.packL (ls.take k)).length + 4 + n_12 = (Go.Wr.packL (ls.take (k + 1))).length by omega]; rfl, rfl, trivial⟩, h_35, (by omega), rfl⟩
  · have p_36 := of_decide_eq_false c_9
    refine WP.exit ?_
    refine thn_x ?_
    refine thn_x ?_
    refine inb_hit ?_
    refine thn_n ?_
    refine WP.seq ?_
    refine WP.reg ?_
    refine WL.q (Wn.no rfl) rfl rfl (R.move (v := (.slice ra ((Go.Wr.packL (ls.take k)).length) rc)) rfl) ?_
    refine WL.q (Wn.no rfl) rfl rfl (R.assign (v := (.slice ra ((Go.Wr.packL (ls.take k)).length) rc)) rfl) ?_
    refine WL.q (Wn.no rfl) rfl rfl (R.assign (v := (vi 0)) rfl) ?_
    refine WL.nil ?_
    refine thn_n ?_
    refine WP.ret ?_
    refine ret_of Try.results65 (RV.tmp (v := (.slice ra ((Go.Wr.packL (ls.take k)).length) rc)) rfl (RV.tmp (v := (vi 0)) rfl RV.nil)) ?_
    have hkn : k = n := by omega
    rw [hkn, List.take_of_length_le (by omega)] at h_6
    refine ⟨_, _, ?_, h_6.chgS, h_6.ok _ (.head _)⟩
    rw [hkn, List.take_of_length_le (by omega)]; rfl

theorem c_Pack_f1 (a : Option Addr) (n cap : Nat) (xs : List Value) (ls : List (List UInt8)) (hln : ls.length = n) (h : 64 < n) (w : World) (hv : View w a xs) (hs : Sls w xs ls) :
    Cs Try.prog 65 [(.slice a n cap)].toArray w (fun v w1 => v = (.tuple [(.slice none 0 0), (vi 2)].toArray) ∧ Chg w w1 []) := by
  refine Cs.of (n := 36) (args := [(.slice a n cap)]) Try.func65 rfl rfl rfl ?_
  have h_0 := HP.init w
  have h_01 := h_0.old (View.arg hv) (fun f hf => by cases hf)
  have h_00 := h_01.old hs.pin (fun f hf => by rw [List.mem_singleton] at hf; subst hf; intro hm; simp [Ent.mut] at hm)
  have hxl : xs.length = n := hs.len.trans hln
  refine WP.seq ?_
  refine WP.reg ?_
  refine WL.q (Wn.no rfl) rfl rfl (R.assign (v := (.slice none 0 0)) rfl) ?_
  refine WL.q (Wn.no rfl) rfl rfl (R.assign (v := (vi 0)) rfl) ?_
  refine WL.nil ?_
  refine thn_n ?_
  refine WP.seq ?_
  refine WP.seq ?_
  refine WP.reg ?_
  refine WL.q (Wn.no rfl) rfl rfl (R.move (v := (.slice a n cap)) rfl) ?_
  refine WL.q (Wn.no rfl) rfl rfl (R.lenS (a := a) (m := n) rfl rfl Try.underlying40) ?_
  refine WL.q (Wn.no rfl) rfl rfl (R.bin (v := (.bool (decide ((((n : Nat) : Int) : Int) > 64)))) rfl rfl (bi_gtr (r := decide ((((n : Nat) : Int) : Int) > 64)) rfl)) ?_
  refine WL.q (Wn.no rfl) rfl rfl (R.move (v := (.bool (decide ((((n : Nat) : Int) : Int) > 64)))) rfl) ?_
  refine WL.skip rfl (congrArg Value.bool (decide_eq_true (by omega))) rfl ?_
  refine WL.skip rfl (congrArg Value.bool (decide_eq_true (by omega))) rfl ?_
  refine WL.q (Wn.no rfl) rfl rfl (R.pickT (v := (.bool true)) (congrArg Value.bool (decide_eq_true (by omega))) rfl) ?_
  refine WL.nil ?_
  refine thn_n ?_
  refine WP.condT rfl ?_
  refine WP.seq ?_
  refine WP.reg ?_
  refine WL.q (Wn.no rfl) rfl rfl (R.assign (v := (.slice none 0 0)) rfl) ?_
  refine WL.q (Wn.no rfl) rfl rfl (R.assign (v := (vi 2)) rfl) ?_
  refine WL.nil ?_
  refine thn_n ?_
  refine WP.ret ?_
  refine thn_r ?_
  refine ret_of Try.results65 (RV.tmp (v := (.slice none 0 0)) rfl (RV.tmp (v := (vi 2)) rfl RV.nil)) ?_
  exact ⟨rfl, h_00.chgS⟩

theorem c_Pack_f2 (a : Option Addr) (n cap : Nat) (xs : List Value) (ls : List (List UInt8)) (hln : ls.length = n) (h : ¬ 64 < n) (hx : ls.all Go.Wr.small = false) (w : World) (hv : View w a xs) (hs : Sls w xs ls) :
    Cs Try.prog 65 [(.slice a n cap)].toArray w (fun v w1 => v = (.tuple [(.slice none 0 0), (vi 2)].toArray) ∧ Chg w w1 []) := by
  refine Cs.of (n := 36) (args := [(.slice a n cap)]) Try.func65 rfl rfl rfl ?_
  have h_0 := HP.init w
  have h_01 := h_0.old (View.arg hv) (fun f hf => by cases hf)
  have h_00 := h_01.old hs.pin (fun f hf => by rw [List.mem_singleton] at hf; subst hf; intro hm; simp [Ent.mut] at hm)
  have hxl : xs.length = n := hs.len.trans hln
  refine WP.seq ?_
  refine WP.reg ?_
  refine WL.q (Wn.no rfl) rfl rfl (R.assign (v := (.slice none 0 0)) rfl) ?_
  refine WL.q (Wn.no rfl) rfl rfl (R.assign (v := (vi 0)) rfl) ?_
  refine WL.nil ?_
  refine thn_n ?_
  refine WP.seq ?_
  refine WP.seq ?_
  refine WP.reg ?_
  refine WL.q (Wn.no rfl) rfl rfl (R.move (v := (.slice a n cap)) rfl) ?_
  refine WL.q (Wn.no rfl) rfl rfl (R.lenS (a := a) (m := n) rfl rfl Try.underlying40) ?_
  refine WL.q (Wn.no rfl) rfl rfl (R.bin (v := (.bool (decide ((((n : Nat) : Int) : Int) > 64)))) rfl rfl (bi_gtr (r := decide ((((n : Nat) : Int) : Int) > 64)) rfl)) ?_
  refine WL.q (Wn.no rfl) rfl rfl (R.move (v := (.bool (decide ((((n : Nat) : Int) : Int) > 64)))) rfl) ?_
  refine WL.want rfl (congrArg Value.bool (decide_eq_false (by omega))) ?_
  refine WL.q (Wn.no rfl) rfl rfl (R.move (v := (.slice a n cap)) rfl) ?_
  refine WL.want rfl (congrArg Value.bool (decide_eq_false (by omega))) ?_
  refine WL.call (al := [(.slice a n cap), (Value.func (Fn.func 83) [].toArray [].toArray)]) Try.call82 rfl rfl (c_CfS_f a n cap xs ls hln (by omega) hx _ (viewV (h_00.ok _ (.tail _ (.head _)))) (h_00.ok _ (.head _)).1) rfl ?_
  rintro _ w_2 ⟨rfl, hc_1⟩
  have h_3 := h_00.same hc_1
  refine WL.q (Wn.no rfl) rfl rfl (R.pickF (v := (.bool true)) (congrArg Value.bool (decide_eq_false (by omega))) rfl) ?_
  refine WL.nil ?_
  refine thn_n ?_
  refine WP.condT rfl ?_
  refine WP.seq ?_
  refine WP.reg ?_
  refine WL.q (Wn.no rfl) rfl rfl (R.assign (v := (.slice none 0 0)) rfl) ?_
  refine WL.q (Wn.no rfl) rfl rfl (R.assign (v := (vi 2)) rfl) ?_
  refine WL.nil ?_
  refine thn_n ?_
  refine WP.ret ?_
  refine thn_r ?_
  refine ret_of Try.results65 (RV.tmp (v := (.slice none 0 0)) rfl (RV.tmp (v := (vi 2)) rfl RV.nil)) ?_
  exact ⟨rfl, h_3.chgS⟩

theorem c_Pack_f (a : Option Addr) (n cap : Nat) (xs : List Value) (ls : List (List UInt8)) (hln : ls.length = n) (hm : Go.Wr.mayPack ls = false) (w : World) (hv : View w a xs) (hs : Sls w xs ls) : Cs Try.prog 65 [.slice a n cap].toArray w (fun v w1 => v = (.tuple [(.slice none 0 0), (vi 2)].toArray) ∧ Chg w w1 []) := by
  by_cases h : 64 < n
  · exact c_Pack_f1 a n cap xs ls hln h w hv hs
  · refine c_Pack_f2 a n cap xs ls hln h ?_ w hv hs
    rw [Go.Wr.mayPack, Bool.and_eq_false_iff] at hm
    rcases hm with hm | hm
    · exact hm
    · rw [decide_eq_true (by omega)] at hm; cases hm
end Go.Proofs.Ytelkjcigdhgcoaa
