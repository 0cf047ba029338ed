/- The constants of the document: contracts. Conditions: those that each theorem states. -/
import Derived.Test.YtelkjcigdhgcoaaP1
import Derived.Test.YtelkjcigdhgcoaaH4
namespace Go.Proofs.Ytelkjcigdhgcoaa
open Go.Vc Go.Sh Go.RowKit
set_option linter.unusedVariables false
set_option linter.unusedSimpArgs false
set_option maxRecDepth 20000
theorem el37 : ElT Try.prog 37 22 1 4 := ElT.mk' Try.underlying37 (i := Try.t22) rfl rfl rfl rfl rfl rfl
theorem c_prime (i : Nat) (hi : i < 64) (w : World) :
    Cs Try.prog 50 [(vi ((i : Nat) : Int))].toArray w (fun v w1 => v = (vu64 (primeL.getD i 0)) ∧ Chg w w1 []) := by
  refine Cs.of (n := 28) (args := [(vi ((i : Nat) : Int))]) Try.func50 rfl rfl rfl ?_
  have h_0 := HP.init w
  refine WP.seq ?_
  refine WP.reg ?_
  refine WL.q (Wn.no rfl) rfl rfl (R.assign (v := (vu64 0)) rfl) ?_
  refine WL.nil ?_
  refine thn_n ?_
  refine WP.seq ?_
  refine WP.reg ?_
  refine WL.q (Wn.no rfl) rfl rfl (R.assign (v := (vu64 1)) rfl) ?_
  refine WL.nil ?_
  refine thn_n ?_
  refine WP.seq ?_
  refine WP.block ?_
  refine WP.loopG (G := Nat) [0, 3, 4, 5, 6, 7, 8, 9, 10, 11, 12, 13, 14, 15, 16, 17, 18, 19, 20, 21, 22, 23, 24, 25, 26] (fun q => [(0, (vi ((i : Int) - (cnt q : Int)))), (3, (vu64 (UInt64.ofNat q)))]) (fun q m w1 => HP w w1 [] ∧ (1 ≤ q) ∧ (q ≤ 311) ∧ (cnt q ≤ i + 1) ∧ (cnt q ≤ i ∨ (cnt q = i + 1 ∧ primeL.getD i 0 = UInt64.ofNat q)) ∧ m = 312 - q) ⟨1, _, ⟨by rw [cnt_1]; exact congrArg vi (by omega), rfl, trivial⟩, h_0, (Nat.le_refl 1), (by decide), (by rw [cnt_1]; omega), (.inl (by rw [cnt_1]; omega)), rfl⟩ ?_
  rintro q m_3 J_4 w_1 ⟨h_2, hq1, hq2, hcb, hin, rfl⟩
  have hq3 : (0 : Int) ≤ (i : Int) - (cnt q : Int) → q < 311 := fun h => cnt_lt hi (by omega)
  refine WP.seq ?_
  refine WP.seq ?_
  refine WP.reg ?_
  refine WL.q (Wn.no rfl) rfl rfl (R.move (v := (vi ((i : Int) - (cnt q : Int)))) rfl) ?_
  refine WL.q (Wn.no rfl) rfl rfl (R.bin (v := (.bool (decide (((i : Int) - (cnt q : Int) : Int) ≥ 0)))) rfl rfl (bi_geq (r := decide (((i : Int) - (cnt q : Int) : Int) ≥ 0)) rfl)) ?_
  refine WL.nil ?_
  refine thn_n ?_
  refine WP.cond (b := decide (((i : Int) - (cnt q : Int) : Int) ≥ 0)) rfl (fun c_5 => ?_) (fun c_5 => ?_)
  · have p_6 := of_decide_eq_true c_5
    refine WP.skip ?_
    refine thn_n ?_
    refine WP.block ?_
    refine WP.seq ?_
    refine WP.reg ?_
    refine WL.q (Wn.no rfl) rfl rfl (R.move (v := (vu64 (UInt64.ofNat q))) rfl) ?_
    refine WL.q (Wn.no rfl) rfl rfl (R.bin (v := (vu64 (UInt64.ofNat (q + 1)))) rfl rfl ((b64_add (UInt64.ofNat q) 1).trans (congrArg (fun x : UInt64 => some (vu64 x)) (u64_succ q)))) ?_
    refine WL.q (Wn.no rfl) rfl rfl (R.assign (v := (vu64 (UInt64.ofNat (q + 1)))) rfl) ?_
    refine WL.nil ?_
    refine thn_n ?_
    refine WP.seq ?_
    refine WP.reg ?_
    refine WL.q (Wn.no rfl) rfl rfl (R.assign (v := (.bool true)) rfl) ?_
    refine WL.nil ?_
    refine thn_n ?_
    refine WP.seq ?_
    refine WP.seq ?_
    refine WP.reg ?_
    refine WL.q (Wn.no rfl) rfl rfl (R.assign (v := (vu64 2)) rfl) ?_
    refine WL.nil ?_
    refine thn_n ?_
    refine WP.block ?_
    have hq4 := hq3 (by omega)
    refine WP.loopG (G := Nat) [4, 5, 10, 11, 12, 13, 14, 15, 16, 17, 18, 19, 20, 21, 22, 23] (fun k => [(4, (.bool (isK (q + 1) k))), (5, (vu64 (UInt64.ofNat k)))]) (fun k m w1 => HP w w1 [] ∧ (2 ≤ k) ∧ (k ≤ 18) ∧ (k = 2 ∨ (k - 1) * (k - 1) ≤ q + 1) ∧ m = 20 - k) ⟨2, _, ⟨congrArg Value.bool (isK_2 _).symm, rfl, trivial⟩, h_2, (Nat.le_refl 2), (by decide), (.inl rfl), rfl⟩ ?_
    rintro k m_9 J_10 w_7 ⟨h_8, hk2, hk, hk3, rfl⟩
    refine WP.seq ?_
    refine WP.seq ?_
    refine WP.reg ?_
    refine WL.q (Wn.no rfl) rfl rfl (R.move (v := (vu64 (UInt64.ofNat k))) rfl) ?_
    refine WL.q (Wn.no rfl) rfl rfl (R.move (v := (vu64 (UInt64.ofNat k))) rfl) ?_
    refine WL.q (Wn.no rfl) rfl rfl (R.bin (v := (vu64 ((UInt64.ofNat k) * (UInt64.ofNat k)))) rfl rfl (b64_mul (UInt64.ofNat k) (UInt64.ofNat k))) ?_
    refine WL.q (Wn.no rfl) rfl rfl (R.move (v := (vu64 (UInt64.ofNat (q + 1)))) rfl) ?_
    refine WL.q (Wn.no rfl) rfl rfl (R.bin (v := (.bool (decide (((UInt64.ofNat k) * (UInt64.ofNat k) : UInt64) ≤ (UInt64.ofNat (q + 1)))))) rfl rfl (b64_leq ((UInt64.ofNat k) * (UInt64.ofNat k)) (UInt64.ofNat (q + 1)) (r := decide (((UInt64.ofNat k) * (UInt64.ofNat k) : UInt64) ≤ (UInt64.ofNat (q + 1)))) rfl)) ?_
    refine WL.nil ?_
    refine thn_n ?_
    refine WP.cond (b := decide (((UInt64.ofNat k) * (UInt64.ofNat k) : UInt64) ≤ (UInt64.ofNat (q + 1)))) rfl (fun c_11 => ?_) (fun c_11 => ?_)
    · have p_12 := of_decide_eq_true c_11
      refine WP.skip ?_
      refine thn_n ?_
      refine WP.seq ?_
      refine WP.block ?_
      refine WP.reg ?_
      refine WL.q (Wn.no rfl) rfl rfl (R.move (v := (.bool (isK (q + 1) k))) rfl) ?_
      refine WL.q (Wn.no rfl) rfl rfl (R.move (v := (.bool (isK (q + 1) k))) rfl) ?_
      rcases Bool.eq_false_or_eq_true (isK (q + 1) k) with c_13 | c_13
      · refine WL.want rfl (congrArg Value.bool c_13) ?_
        refine WL.q (Wn.no rfl) rfl rfl (R.move (v := (vu64 (UInt64.ofNat (q + 1)))) rfl) ?_
        refine WL.want rfl (congrArg Value.bool c_13) ?_
        refine WL.q (Wn.no rfl) rfl rfl (R.move (v := (vu64 (UInt64.ofNat k))) rfl) ?_
        refine WL.want rfl (congrArg Value.bool c_13) ?_
        refine WL.q (Wn.no rfl) rfl rfl (R.bin (v := (vu64 ((UInt64.ofNat (q + 1)) % (UInt64.ofNat k)))) rfl rfl (b64_rem (UInt64.ofNat (q + 1)) (UInt64.ofNat k) (nz64 hk2 (by omega)))) ?_
        refine WL.want rfl (congrArg Value.bool c_13) ?_
        refine WL.q (Wn.no rfl) rfl rfl (R.bin (v := (.bool (decide (((UInt64.ofNat (q + 1)) % (UInt64.ofNat k) : UInt64) ≠ 0)))) rfl rfl (b64_neq ((UInt64.ofNat (q + 1)) % (UInt64.ofNat k)) 0 (r := decide (((UInt64.ofNat (q + 1)) % (UInt64.ofNat k) : UInt64) ≠ 0)) rfl)) ?_
        refine WL.q (Wn.no rfl) rfl rfl (R.pickT (v := (.bool (decide (((UInt64.ofNat (q + 1)) % (UInt64.ofNat k) : UInt64) ≠ 0)))) (congrArg Value.bool c_13) rfl) ?_
        refine WL.q (Wn.no rfl) rfl rfl (R.assign (v := (.bool (decide (((UInt64.ofNat (q + 1)) % (UInt64.ofNat k) : UInt64) ≠ 0)))) rfl) ?_
        refine WL.nil ?_
        refine inb_n ?_
        refine thn_n ?_
        refine WP.reg ?_
        refine WL.q (Wn.no rfl) rfl rfl (R.move (v := (vu64 (UInt64.ofNat k))) rfl) ?_
        refine WL.q (Wn.no rfl) rfl rfl (R.bin (v := (vu64 (UInt64.ofNat (k + 1)))) rfl rfl ((b64_add (UInt64.ofNat k) 1).trans (congrArg (fun x : UInt64 => some (vu64 x)) (u64_succ k)))) ?_
        refine WL.q (Wn.no rfl) rfl rfl (R.assign (v := (vu64 (UInt64.ofNat (k + 1)))) rfl) ?_
        refine WL.nil ?_
        refine thn_n ?_
        have hk5 := (sq_le (by omega) (by omega)).1 p_12
        have hk6 := sq_bd hk5 (by omega)
        exact ⟨k + 1, _, (by omega), (Ag.upd rfl (Ag.upd rfl (Ag.upd rfl (Ag.upd rfl (Ag.upd rfl (Ag.upd rfl (Ag.upd rfl (Ag.upd rfl (Ag.upd rfl (Ag.upd rfl (Ag.upd rfl (Ag.upd rfl (Ag.upd rfl (Ag.upd rfl (Ag.upd rfl (Ag.upd rfl (Ag.updL rfl (Ag.mix _ _ _)))))))))))))))))), ⟨congrArg Value.bool (isK_t (by omega) (by omega) hk2 c_13), rfl, trivial⟩, h_8, (by omega), (by omega), (.inr (by rw [Nat.add_sub_cancel]; exact hk5)), rfl⟩
      · refine WL.skip rfl (congrArg Value.bool c_13) rfl ?_
        refine WL.skip rfl (congrArg Value.bool c_13) rfl ?_
        refine WL.skip rfl (congrArg Value.bool c_13) rfl ?_
        refine WL.skip rfl (congrArg Value.bool c_13) rfl ?_
        refine WL.q (Wn.no rfl) rfl rfl (R.pickF (v := (.bool false)) (congrArg Value.bool c_13) rfl) ?_
        refine WL.q (Wn.no rfl) rfl rfl (R.assign (v := (.bool false)) rfl) ?_
        refine WL.nil ?_
        refine inb_n ?_
        refine thn_n ?_
        refine WP.reg ?_
        refine WL.q (Wn.no rfl) rfl rfl (R.move (v := (vu64 (UInt64.ofNat k))) rfl) ?_
        refine WL.q (Wn.no rfl) rfl rfl (R.bin (v := (vu64 (UInt64.ofNat (k + 1)))) rfl rfl ((b64_add (UInt64.ofNat k) 1).trans (congrArg (fun x : UInt64 => some (vu64 x)) (u64_succ k)))) ?_
        refine WL.q (Wn.no rfl) rfl rfl (R.assign (v := (vu64 (UInt64.ofNat (k + 1)))) rfl) ?_
        refine WL.nil ?_
        refine thn_n ?_
        have hk5 := (sq_le (by omega) (by omega)).1 p_12
        have hk6 := sq_bd hk5 (by omega)
        exact ⟨k + 1, _, (by omega), (Ag.upd rfl (Ag.upd rfl (Ag.upd rfl (Ag.upd rfl (Ag.upd rfl (Ag.upd rfl (Ag.upd rfl (Ag.upd rfl (Ag.upd rfl (Ag.upd rfl (Ag.upd rfl (Ag.upd rfl (Ag.upd rfl (Ag.upd rfl (Ag.upd rfl (Ag.upd rfl (Ag.updL rfl (Ag.mix _ _ _)))))))))))))))))), ⟨congrArg Value.bool (isK_f hk2 c_13), rfl, trivial⟩, h_8, (by omega), (by omega), (.inr (by rw [Nat.add_sub_cancel]; exact hk5)), rfl⟩
    · have p_14 := of_decide_eq_false c_11
      refine WP.exit ?_
      refine thn_x ?_
      refine thn_x ?_
      refine inb_hit ?_
      refine thn_n ?_
      refine WP.seq ?_
      refine WP.reg ?_
      refine WL.q (Wn.no rfl) rfl rfl (R.move (v := (.bool (isK (q + 1) k))) rfl) ?_
      refine WL.nil ?_
      refine thn_n ?_
      refine WP.cond (b := isK (q + 1) k) rfl (fun c_15 => ?_) (fun c_15 => ?_)
      · refine WP.reg ?_
        refine WL.q (Wn.no rfl) rfl rfl (R.move (v := (vi ((i : Int) - (cnt q : Int)))) rfl) ?_
        refine WL.q (Wn.no rfl) rfl rfl (R.bin (v := (vi (((i : Int) - (cnt q : Int)) - 1))) rfl rfl (bi_sub (c := ((i : Int) - (cnt q : Int)) - 1) (by omega) (by omega))) ?_
        refine WL.q (Wn.no rfl) rfl rfl (R.assign (v := (vi (((i : Int) - (cnt q : Int)) - 1))) rfl) ?_
        refine WL.nil ?_
        refine inb_n ?_
        refine thn_n ?_
        have hq4 := hq3 (by omega)
        have hk5 := fun h => p_14 ((sq_le (by omega) (by omega)).2 h)
        have he := isK_end (n := q + 1) (by omega) (by omega) hk2 (by omega) hk3 hk5
        rw [he] at c_15
        have hc := cnt_yes hq1 hq4 c_15
        have hin2 : cnt (q + 1) ≤ i ∨ (cnt (q + 1) = i + 1 ∧ primeL.getD i 0 = UInt64.ofNat (q + 1)) := by
          by_cases hci : cnt q < i
          · exact .inl (by omega)
          · exact .inr ⟨by omega, by rw [← hc.2, show cnt q = i by omega]⟩
        exact ⟨q + 1, _, (by omega), (Ag.upd rfl (Ag.upd rfl (Ag.upd rfl (Ag.upd rfl (Ag.upd rfl (Ag.upd rfl (Ag.upd rfl (Ag.upd rfl (Ag.upd rfl (Ag.updL rfl (Ag.trans (Ag.sub rfl (Ag.mix _ _ _)) (Ag.upd rfl (Ag.upd rfl (Ag.upd rfl (Ag.upd rfl (Ag.upd rfl (Ag.upd rfl (Ag.upd rfl (Ag.updL rfl (Ag.mix _ _ _)))))))))))))))))))), ⟨congrArg vi (by omega), rfl, trivial⟩, h_8, (by omega), (by omega), (by omega), hin2, rfl⟩
      · refine WP.skip ?_
        refine inb_n ?_
        refine thn_n ?_
        have hq4 := hq3 (by omega)
        have hk5 := fun h => p_14 ((sq_le (by omega) (by omega)).2 h)
        have he := isK_end (n := q + 1) (by omega) (by omega) hk2 (by omega) hk3 hk5
        rw [he] at c_15
        have hc := cnt_no hq1 hq4 c_15
        exact ⟨q + 1, _, (by omega), (Ag.upd rfl (Ag.upd rfl (Ag.upd rfl (Ag.upd rfl (Ag.upd rfl (Ag.upd rfl (Ag.updL rfl (Ag.trans (Ag.sub rfl (Ag.mix _ _ _)) (Ag.upd rfl (Ag.upd rfl (Ag.upd rfl (Ag.upd rfl (Ag.upd rfl (Ag.upd rfl (Ag.upd rfl (Ag.updL rfl (Ag.mix _ _ _))))))))))))))))), ⟨congrArg vi (by omega), rfl, trivial⟩, h_8, (by omega), (by omega), (by omega), (.inl (by omega)), rfl⟩
  · have p_16 := of_decide_eq_false c_5
    refine WP.exit ?_
    refine thn_x ?_
    refine thn_x ?_
    refine inb_hit ?_
    refine thn_n ?_
    refine WP.seq ?_
    refine WP.reg ?_
    refine WL.q (Wn.no rfl) rfl rfl (R.move (v := (vu64 (UInt64.ofNat q))) rfl) ?_
    refine WL.q (Wn.no rfl) rfl rfl (R.assign (v := (vu64 (UInt64.ofNat q))) rfl) ?_
    refine WL.nil ?_
    refine thn_n ?_
    refine WP.ret ?_
    refine ret_of Try.results50 (RV.tmp (v := (vu64 (UInt64.ofNat q))) rfl RV.nil) ?_
    have hx : cnt q = i + 1 := by omega
    have hy : primeL.getD i 0 = UInt64.ofNat q := hin.elim (fun h => by omega) (fun h => h.2)
    exact ⟨by rw [hy]; rfl, h_2.chgS⟩

theorem c_power2 (x p : UInt64) (w : World) :
    Cs Try.prog 74 [(vu64 x), (vi 2), (vu64 p)].toArray w (fun v w1 => v = (.bool (pow2 x p)) ∧ Chg w w1 []) := by
  refine Cs.of (n := 79) (args := [(vu64 x), (vi 2), (vu64 p)]) Try.func74 rfl rfl rfl ?_
  have h_0 := HP.init w
  refine WP.seq ?_
  refine WP.reg ?_
  refine WL.q (Wn.no rfl) rfl rfl (R.assign (v := (.bool false)) rfl) ?_
  refine WL.nil ?_
  refine thn_n ?_
  refine WP.seq ?_
  refine WP.reg ?_
  refine WL.q (Wn.no rfl) rfl rfl (R.move (v := (vu64 x)) rfl) ?_
  refine WL.q (Wn.no rfl) rfl rfl (R.move (v := (vu64 x)) rfl) ?_
  refine WL.call (al := [(vu64 x), (vu64 x)]) Try.call84 rfl rfl (c_Mul64 x x _ ) rfl ?_
  rintro _ w_2 ⟨rfl, hc_1⟩
  have h_3 := h_0.same hc_1
  refine WL.q (Wn.no rfl) rfl rfl (R.move (v := (.tuple [(vu64 (mulHi x x)), (vu64 (x * x))].toArray)) rfl) ?_
  refine WL.q (Wn.no rfl) rfl rfl (R.extract (l := [(vu64 (mulHi x x)), (vu64 (x * x))]) (v := (vu64 (mulHi x x))) rfl rfl) ?_
  refine WL.q (Wn.no rfl) rfl rfl (R.extract (l := [(vu64 (mulHi x x)), (vu64 (x * x))]) (v := (vu64 (x * x))) rfl rfl) ?_
  refine WL.q (Wn.no rfl) rfl rfl (R.assign (v := (vu64 (mulHi x x))) rfl) ?_
  refine WL.q (Wn.no rfl) rfl rfl (R.assign (v := (vu64 (x * x))) rfl) ?_
  refine WL.nil ?_
  refine thn_n ?_
  refine WP.seq ?_
  refine WP.seq ?_
  refine WP.reg ?_
  refine WL.q (Wn.no rfl) rfl rfl (R.move (v := (vi 2)) rfl) ?_
  refine WL.q (Wn.no rfl) rfl rfl (R.bin (v := (.bool true)) rfl rfl (bi_eql (r := true) (by decide))) ?_
  refine WL.nil ?_
  refine thn_n ?_
  refine WP.condT rfl ?_
  refine WP.seq ?_
  refine WP.reg ?_
  refine WL.q (Wn.no rfl) rfl rfl (R.move (v := (vu64 (mulHi x x))) rfl) ?_
  refine WL.q (Wn.no rfl) rfl rfl (R.move (v := (vu64 p)) rfl) ?_
  refine WL.q (Wn.no rfl) rfl rfl (R.bin (v := (.bool (decide ((mulHi x x : UInt64) < p)))) rfl rfl (b64_lss (mulHi x x) p (r := decide ((mulHi x x : UInt64) < p)) rfl)) ?_
  refine WL.q (Wn.no rfl) rfl rfl (R.move (v := (.bool (decide ((mulHi x x : UInt64) < p)))) rfl) ?_
  rcases Bool.eq_false_or_eq_true (decide ((mulHi x x : UInt64) < p)) with c_4 | c_4
  · have p_5 := of_decide_eq_true c_4
    refine WL.skip rfl (congrArg Value.bool c_4) rfl ?_
    refine WL.skip rfl (congrArg Value.bool c_4) rfl ?_
    refine WL.skip rfl (congrArg Value.bool c_4) rfl ?_
    refine WL.skip rfl (congrArg Value.bool c_4) rfl ?_
    refine WL.skipU rfl rfl rfl ?_
    refine WL.skipU rfl rfl rfl ?_
    refine WL.skip rfl (congrArg Value.bool c_4) rfl ?_
    refine WL.q (Wn.no rfl) rfl rfl (R.pickT (v := (.bool true)) (congrArg Value.bool c_4) rfl) ?_
    refine WL.q (Wn.no rfl) rfl rfl (R.assign (v := (.bool true)) rfl) ?_
    refine WL.nil ?_
    refine thn_n ?_
    refine WP.ret ?_
    refine thn_r ?_
    refine ret_of Try.results74 (RV.tmp (v := (.bool true)) rfl RV.nil) ?_
    exact ⟨congrArg Value.bool (by simp only [pow2, c_4]; rfl), h_3.chgS⟩
  · have p_6 := of_decide_eq_false c_4
    refine WL.want rfl (congrArg Value.bool c_4) ?_
    refine WL.q (Wn.no rfl) rfl rfl (R.move (v := (vu64 (mulHi x x))) rfl) ?_
    refine WL.want rfl (congrArg Value.bool c_4) ?_
    refine WL.q (Wn.no rfl) rfl rfl (R.move (v := (vu64 p)) rfl) ?_
    refine WL.want rfl (congrArg Value.bool c_4) ?_
    refine WL.q (Wn.no rfl) rfl rfl (R.bin (v := (.bool (decide ((mulHi x x : UInt64) = p)))) rfl rfl (b64_eql (mulHi x x) p (r := decide ((mulHi x x : UInt64) = p)) rfl)) ?_
    refine WL.want rfl (congrArg Value.bool c_4) ?_
    refine WL.q (Wn.no rfl) rfl rfl (R.move (v := (.bool (decide ((mulHi x x : UInt64) = p)))) rfl) ?_
    rcases Bool.eq_false_or_eq_true (decide ((mulHi x x : UInt64) = p)) with c_7 | c_7
    · have p_8 := of_decide_eq_true c_7
      refine WL.want rfl (congrArg Value.bool c_7) ?_
      refine WL.q (Wn.no rfl) rfl rfl (R.move (v := (vu64 (x * x))) rfl) ?_
      refine WL.want rfl (congrArg Value.bool c_7) ?_
      refine WL.q (Wn.no rfl) rfl rfl (R.bin (v := (.bool (decide ((x * x : UInt64) = 0)))) rfl rfl (b64_eql (x * x) 0 (r := decide ((x * x : UInt64) = 0)) rfl)) ?_
      refine WL.want rfl (congrArg Value.bool c_4) ?_
      refine WL.q (Wn.no rfl) rfl rfl (R.pickT (v := (.bool (decide ((x * x : UInt64) = 0)))) (congrArg Value.bool c_7) rfl) ?_
      refine WL.q (Wn.no rfl) rfl rfl (R.pickF (v := (.bool (decide ((x * x : UInt64) = 0)))) (congrArg Value.bool c_4) rfl) ?_
      refine WL.q (Wn.no rfl) rfl rfl (R.assign (v := (.bool (decide ((x * x : UInt64) = 0)))) rfl) ?_
      refine WL.nil ?_
      refine thn_n ?_
      refine WP.ret ?_
      refine thn_r ?_
      refine ret_of Try.results74 (RV.tmp (v := (.bool (decide ((x * x : UInt64) = 0)))) rfl RV.nil) ?_
      exact ⟨congrArg Value.bool (by simp only [pow2, c_4, c_7]; rfl), h_3.chgS⟩
    · have p_9 := of_decide_eq_false c_7
      refine WL.skip rfl (congrArg Value.bool c_7) rfl ?_
      refine WL.skip rfl (congrArg Value.bool c_7) rfl ?_
      refine WL.want rfl (congrArg Value.bool c_4) ?_
      refine WL.q (Wn.no rfl) rfl rfl (R.pickF (v := (.bool false)) (congrArg Value.bool c_7) rfl) ?_
      refine WL.q (Wn.no rfl) rfl rfl (R.pickF (v := (.bool false)) (congrArg Value.bool c_4) rfl) ?_
      refine WL.q (Wn.no rfl) rfl rfl (R.assign (v := (.bool false)) rfl) ?_
      refine WL.nil ?_
      refine thn_n ?_
      refine WP.ret ?_
      refine thn_r ?_
      refine ret_of Try.results74 (RV.tmp (v := (.bool false)) rfl RV.nil) ?_
      exact ⟨congrArg Value.bool (by simp only [pow2, c_4, c_7]; rfl), h_3.chgS⟩

theorem c_power3 (x p : UInt64) (w : World) :
    Cs Try.prog 74 [(vu64 x), (vi 3), (vu64 p)].toArray w (fun v w1 => v = (.bool (pow3 x p)) ∧ Chg w w1 []) := by
  refine Cs.of (n := 79) (args := [(vu64 x), (vi 3), (vu64 p)]) Try.func74 rfl rfl rfl ?_
  have h_0 := HP.init w
  refine WP.seq ?_
  refine WP.reg ?_
  refine WL.q (Wn.no rfl) rfl rfl (R.assign (v := (.bool false)) rfl) ?_
  refine WL.nil ?_
  refine thn_n ?_
  refine WP.seq ?_
  refine WP.reg ?_
  refine WL.q (Wn.no rfl) rfl rfl (R.move (v := (vu64 x)) rfl) ?_
  refine WL.q (Wn.no rfl) rfl rfl (R.move (v := (vu64 x)) rfl) ?_
  refine WL.call (al := [(vu64 x), (vu64 x)]) Try.call84 rfl rfl (c_Mul64 x x _ ) rfl ?_
  rintro _ w_2 ⟨rfl, hc_1⟩
  have h_3 := h_0.same hc_1
  refine WL.q (Wn.no rfl) rfl rfl (R.move (v := (.tuple [(vu64 (mulHi x x)), (vu64 (x * x))].toArray)) rfl) ?_
  refine WL.q (Wn.no rfl) rfl rfl (R.extract (l := [(vu64 (mulHi x x)), (vu64 (x * x))]) (v := (vu64 (mulHi x x))) rfl rfl) ?_
  refine WL.q (Wn.no rfl) rfl rfl (R.extract (l := [(vu64 (mulHi x x)), (vu64 (x * x))]) (v := (vu64 (x * x))) rfl rfl) ?_
  refine WL.q (Wn.no rfl) rfl rfl (R.assign (v := (vu64 (mulHi x x))) rfl) ?_
  refine WL.q (Wn.no rfl) rfl rfl (R.assign (v := (vu64 (x * x))) rfl) ?_
  refine WL.nil ?_
  refine thn_n ?_
  refine WP.seq ?_
  refine WP.seq ?_
  refine WP.reg ?_
  refine WL.q (Wn.no rfl) rfl rfl (R.move (v := (vi 3)) rfl) ?_
  refine WL.q (Wn.no rfl) rfl rfl (R.bin (v := (.bool false)) rfl rfl (bi_eql (r := false) (by decide))) ?_
  refine WL.nil ?_
  refine thn_n ?_
  refine WP.condF rfl ?_
  refine WP.skip ?_
  refine thn_n ?_
  refine WP.seq ?_
  refine WP.reg ?_
  refine WL.q (Wn.no rfl) rfl rfl (R.move (v := (vu64 (x * x))) rfl) ?_
  refine WL.q (Wn.no rfl) rfl rfl (R.move (v := (vu64 x)) rfl) ?_
  refine WL.call (al := [(vu64 (x * x)), (vu64 x)]) Try.call84 rfl rfl (c_Mul64 (x * x) x _ ) rfl ?_
  rintro _ w_5 ⟨rfl, hc_4⟩
  have h_6 := h_3.same hc_4
  refine WL.q (Wn.no rfl) rfl rfl (R.move (v := (.tuple [(vu64 (mulHi (x * x) x)), (vu64 ((x * x) * x))].toArray)) rfl) ?_
  refine WL.q (Wn.no rfl) rfl rfl (R.extract (l := [(vu64 (mulHi (x * x) x)), (vu64 ((x * x) * x))]) (v := (vu64 (mulHi (x * x) x))) rfl rfl) ?_
  refine WL.q (Wn.no rfl) rfl rfl (R.extract (l := [(vu64 (mulHi (x * x) x)), (vu64 ((x * x) * x))]) (v := (vu64 ((x * x) * x))) rfl rfl) ?_
  refine WL.q (Wn.no rfl) rfl rfl (R.assign (v := (vu64 (mulHi (x * x) x))) rfl) ?_
  refine WL.q (Wn.no rfl) rfl rfl (R.assign (v := (vu64 ((x * x) * x))) rfl) ?_
  refine WL.nil ?_
  refine thn_n ?_
  refine WP.seq ?_
  refine WP.reg ?_
  refine WL.q (Wn.no rfl) rfl rfl (R.move (v := (vu64 (mulHi x x))) rfl) ?_
  refine WL.q (Wn.no rfl) rfl rfl (R.move (v := (vu64 x)) rfl) ?_
  refine WL.call (al := [(vu64 (mulHi x x)), (vu64 x)]) Try.call84 rfl rfl (c_Mul64 (mulHi x x) x _ ) rfl ?_
  rintro _ w_8 ⟨rfl, hc_7⟩
  have h_9 := h_6.same hc_7
  refine WL.q (Wn.no rfl) rfl rfl (R.move (v := (.tuple [(vu64 (mulHi (mulHi x x) x)), (vu64 ((mulHi x x) * x))].toArray)) rfl) ?_
  refine WL.q (Wn.no rfl) rfl rfl (R.extract (l := [(vu64 (mulHi (mulHi x x) x)), (vu64 ((mulHi x x) * x))]) (v := (vu64 (mulHi (mulHi x x) x))) rfl rfl) ?_
  refine WL.q (Wn.no rfl) rfl rfl (R.extract (l := [(vu64 (mulHi (mulHi x x) x)), (vu64 ((mulHi x x) * x))]) (v := (vu64 ((mulHi x x) * x))) rfl rfl) ?_
  refine WL.q (Wn.no rfl) rfl rfl (R.assign (v := (vu64 (mulHi (mulHi x x) x))) rfl) ?_
  refine WL.q (Wn.no rfl) rfl rfl (R.assign (v := (vu64 ((mulHi x x) * x))) rfl) ?_
  refine WL.nil ?_
  refine thn_n ?_
  refine WP.seq ?_
  refine WP.reg ?_
  refine WL.q (Wn.no rfl) rfl rfl (R.move (v := (vu64 (mulHi (x * x) x))) rfl) ?_
  refine WL.q (Wn.no rfl) rfl rfl (R.move (v := (vu64 ((mulHi x x) * x))) rfl) ?_
  refine WL.q (Wn.no rfl) rfl rfl (R.native (al := [(vu64 (mulHi (x * x) x)), (vu64 ((mulHi x x) * x)), (vu64 0)]) (v := (.tuple [(vu64 ((mulHi (x * x) x) + ((mulHi x x) * x))), (vu64 (cry (mulHi (x * x) x) ((mulHi x x) * x)))].toArray)) rfl rfl (nat_add64 Try.func85 (by kernel_rfl) (by kernel_rfl) (by kernel_rfl) (by kernel_rfl) (mulHi (x * x) x) ((mulHi x x) * x))) ?_
  refine WL.q (Wn.no rfl) rfl rfl (R.move (v := (.tuple [(vu64 ((mulHi (x * x) x) + ((mulHi x x) * x))), (vu64 (cry (mulHi (x * x) x) ((mulHi x x) * x)))].toArray)) rfl) ?_
  refine WL.q (Wn.no rfl) rfl rfl (R.extract (l := [(vu64 ((mulHi (x * x) x) + ((mulHi x x) * x))), (vu64 (cry (mulHi (x * x) x) ((mulHi x x) * x)))]) (v := (vu64 ((mulHi (x * x) x) + ((mulHi x x) * x)))) rfl rfl) ?_
  refine WL.q (Wn.no rfl) rfl rfl (R.extract (l := [(vu64 ((mulHi (x * x) x) + ((mulHi x x) * x))), (vu64 (cry (mulHi (x * x) x) ((mulHi x x) * x)))]) (v := (vu64 (cry (mulHi (x * x) x) ((mulHi x x) * x)))) rfl rfl) ?_
  refine WL.q (Wn.no rfl) rfl rfl (R.assign (v := (vu64 ((mulHi (x * x) x) + ((mulHi x x) * x)))) rfl) ?_
  refine WL.q (Wn.no rfl) rfl rfl (R.assign (v := (vu64 (cry (mulHi (x * x) x) ((mulHi x x) * x)))) rfl) ?_
  refine WL.nil ?_
  refine thn_n ?_
  refine WP.seq ?_
  refine WP.reg ?_
  refine WL.q (Wn.no rfl) rfl rfl (R.move (v := (vu64 (mulHi (mulHi x x) x))) rfl) ?_
  refine WL.q (Wn.no rfl) rfl rfl (R.move (v := (vu64 (cry (mulHi (x * x) x) ((mulHi x x) * x)))) rfl) ?_
  refine WL.q (Wn.no rfl) rfl rfl (R.bin (v := (vu64 ((mulHi (mulHi x x) x) + (cry (mulHi (x * x) x) ((mulHi x x) * x))))) rfl rfl (b64_add (mulHi (mulHi x x) x) (cry (mulHi (x * x) x) ((mulHi x x) * x)))) ?_
  refine WL.q (Wn.no rfl) rfl rfl (R.assign (v := (vu64 ((mulHi (mulHi x x) x) + (cry (mulHi (x * x) x) ((mulHi x x) * x))))) rfl) ?_
  refine WL.nil ?_
  refine thn_n ?_
  refine WP.seq ?_
  refine WP.seq ?_
  refine WP.reg ?_
  refine WL.q (Wn.no rfl) rfl rfl (R.move (v := (vu64 ((mulHi (mulHi x x) x) + (cry (mulHi (x * x) x) ((mulHi x x) * x))))) rfl) ?_
  refine WL.q (Wn.no rfl) rfl rfl (R.move (v := (vu64 p)) rfl) ?_
  refine WL.q (Wn.no rfl) rfl rfl (R.binR (v := vu64 (shr64 p 32)) rfl rfl (run_shr64 _ _ _ p _ 32)) ?_
  refine WL.q (Wn.no rfl) rfl rfl (R.bin (v := (.bool (decide (((mulHi (mulHi x x) x) + (cry (mulHi (x * x) x) ((mulHi x x) * x)) : UInt64) ≠ (shr64 p 32))))) rfl rfl (b64_neq ((mulHi (mulHi x x) x) + (cry (mulHi (x * x) x) ((mulHi x x) * x))) (shr64 p 32) (r := decide (((mulHi (mulHi x x) x) + (cry (mulHi (x * x) x) ((mulHi x x) * x)) : UInt64) ≠ (shr64 p 32))) rfl)) ?_
  refine WL.nil ?_
  refine thn_n ?_
  refine WP.cond (b := decide (((mulHi (mulHi x x) x) + (cry (mulHi (x * x) x) ((mulHi x x) * x)) : UInt64) ≠ (shr64 p 32))) rfl (fun c_10 => ?_) (fun c_10 => ?_)
  · have p_11 := of_decide_eq_true c_10
    refine WP.seq ?_
    refine WP.reg ?_
    refine WL.q (Wn.no rfl) rfl rfl (R.move (v := (vu64 ((mulHi (mulHi x x) x) + (cry (mulHi (x * x) x) ((mulHi x x) * x))))) rfl) ?_
    refine WL.q (Wn.no rfl) rfl rfl (R.move (v := (vu64 p)) rfl) ?_
    refine WL.q (Wn.no rfl) rfl rfl (R.binR (v := vu64 (shr64 p 32)) rfl rfl (run_shr64 _ _ _ p _ 32)) ?_
    refine WL.q (Wn.no rfl) rfl rfl (R.bin (v := (.bool (decide (((mulHi (mulHi x x) x) + (cry (mulHi (x * x) x) ((mulHi x x) * x)) : UInt64) < (shr64 p 32))))) rfl rfl (b64_lss ((mulHi (mulHi x x) x) + (cry (mulHi (x * x) x) ((mulHi x x) * x))) (shr64 p 32) (r := decide (((mulHi (mulHi x x) x) + (cry (mulHi (x * x) x) ((mulHi x x) * x)) : UInt64) < (shr64 p 32))) rfl)) ?_
    refine WL.q (Wn.no rfl) rfl rfl (R.assign (v := (.bool (decide (((mulHi (mulHi x x) x) + (cry (mulHi (x * x) x) ((mulHi x x) * x)) : UInt64) < (shr64 p 32))))) rfl) ?_
    refine WL.nil ?_
    refine thn_n ?_
    refine WP.ret ?_
    refine thn_r ?_
    refine ret_of Try.results74 (RV.tmp (v := (.bool (decide (((mulHi (mulHi x x) x) + (cry (mulHi (x * x) x) ((mulHi x x) * x)) : UInt64) < (shr64 p 32))))) rfl RV.nil) ?_
    exact ⟨congrArg Value.bool (by unfold pow3 cubM cubN; rw [if_pos p_11]), h_9.chgS⟩
  · have p_12 := of_decide_eq_false c_10
    refine WP.skip ?_
    refine thn_n ?_
    refine WP.seq ?_
    refine WP.reg ?_
    refine WL.q (Wn.no rfl) rfl rfl (R.move (v := (vu64 ((mulHi (x * x) x) + ((mulHi x x) * x)))) rfl) ?_
    refine WL.q (Wn.no rfl) rfl rfl (R.move (v := (vu64 p)) rfl) ?_
    refine WL.q (Wn.no rfl) rfl rfl (R.binR (v := vu64 (shl64 p 32)) rfl rfl (run_shl64 _ _ _ p _ 32)) ?_
    refine WL.q (Wn.no rfl) rfl rfl (R.bin (v := (.bool (decide (((mulHi (x * x) x) + ((mulHi x x) * x) : UInt64) < (shl64 p 32))))) rfl rfl (b64_lss ((mulHi (x * x) x) + ((mulHi x x) * x)) (shl64 p 32) (r := decide (((mulHi (x * x) x) + ((mulHi x x) * x) : UInt64) < (shl64 p 32))) rfl)) ?_
    refine WL.q (Wn.no rfl) rfl rfl (R.move (v := (.bool (decide (((mulHi (x * x) x) + ((mulHi x x) * x) : UInt64) < (shl64 p 32))))) rfl) ?_
    rcases Bool.eq_false_or_eq_true (decide (((mulHi (x * x) x) + ((mulHi x x) * x) : UInt64) < (shl64 p 32))) with c_13 | c_13
    · have p_14 := of_decide_eq_true c_13
      refine WL.skip rfl (congrArg Value.bool c_13) rfl ?_
      refine WL.skip rfl (congrArg Value.bool c_13) rfl ?_
      refine WL.skip rfl (congrArg Value.bool c_13) rfl ?_
      refine WL.skip rfl (congrArg Value.bool c_13) rfl ?_
      refine WL.skip rfl (congrArg Value.bool c_13) rfl ?_
      refine WL.skipU rfl rfl rfl ?_
      refine WL.skipU rfl rfl rfl ?_
      refine WL.skip rfl (congrArg Value.bool c_13) rfl ?_
      refine WL.q (Wn.no rfl) rfl rfl (R.pickT (v := (.bool true)) (congrArg Value.bool c_13) rfl) ?_
      refine WL.q (Wn.no rfl) rfl rfl (R.assign (v := (.bool true)) rfl) ?_
      refine WL.nil ?_
      refine thn_n ?_
      refine WP.ret ?_
      refine ret_of Try.results74 (RV.tmp (v := (.bool true)) rfl RV.nil) ?_
      exact ⟨congrArg Value.bool (by unfold pow3 cubM cubN; rw [if_neg p_12]; simp only [c_13]; rfl), h_9.chgS⟩
    · have p_15 := of_decide_eq_false c_13
      refine WL.want rfl (congrArg Value.bool c_13) ?_
      refine WL.q (Wn.no rfl) rfl rfl (R.move (v := (vu64 ((mulHi (x * x) x) + ((mulHi x x) * x)))) rfl) ?_
      refine WL.want rfl (congrArg Value.bool c_13) ?_
      refine WL.q (Wn.no rfl) rfl rfl (R.move (v := (vu64 p)) rfl) ?_
      refine WL.want rfl (congrArg Value.bool c_13) ?_
      refine WL.q (Wn.no rfl) rfl rfl (R.binR (v := vu64 (shl64 p 32)) rfl rfl (run_shl64 _ _ _ p _ 32)) ?_
      refine WL.want rfl (congrArg Value.bool c_13) ?_
      refine WL.q (Wn.no rfl) rfl rfl (R.bin (v := (.bool (decide (((mulHi (x * x) x) + ((mulHi x x) * x) : UInt64) = (shl64 p 32))))) rfl rfl (b64_eql ((mulHi (x * x) x) + ((mulHi x x) * x)) (shl64 p 32) (r := decide (((mulHi (x * x) x) + ((mulHi x x) * x) : UInt64) = (shl64 p 32))) rfl)) ?_
      refine WL.want rfl (congrArg Value.bool c_13) ?_
      refine WL.q (Wn.no rfl) rfl rfl (R.move (v := (.bool (decide (((mulHi (x * x) x) + ((mulHi x x) * x) : UInt64) = (shl64 p 32))))) rfl) ?_
      rcases Bool.eq_false_or_eq_true (decide (((mulHi (x * x) x) + ((mulHi x x) * x) : UInt64) = (shl64 p 32))) with c_16 | c_16
      · have p_17 := of_decide_eq_true c_16
        refine WL.want rfl (congrArg Value.bool c_16) ?_
        refine WL.q (Wn.no rfl) rfl rfl (R.move (v := (vu64 ((x * x) * x))) rfl) ?_
        refine WL.want rfl (congrArg Value.bool c_16) ?_
        refine WL.q (Wn.no rfl) rfl rfl (R.bin (v := (.bool (decide (((x * x) * x : UInt64) = 0)))) rfl rfl (b64_eql ((x * x) * x) 0 (r := decide (((x * x) * x : UInt64) = 0)) rfl)) ?_
        refine WL.want rfl (congrArg Value.bool c_13) ?_
        refine WL.q (Wn.no rfl) rfl rfl (R.pickT (v := (.bool (decide (((x * x) * x : UInt64) = 0)))) (congrArg Value.bool c_16) rfl) ?_
        refine WL.q (Wn.no rfl) rfl rfl (R.pickF (v := (.bool (decide (((x * x) * x : UInt64) = 0)))) (congrArg Value.bool c_13) rfl) ?_
        refine WL.q (Wn.no rfl) rfl rfl (R.assign (v := (.bool (decide (((x * x) * x : UInt64) = 0)))) rfl) ?_
        refine WL.nil ?_
        refine thn_n ?_
        refine WP.ret ?_
        refine ret_of Try.results74 (RV.tmp (v := (.bool (decide (((x * x) * x : UInt64) = 0)))) rfl RV.nil) ?_
        exact ⟨congrArg Value.bool (by unfold pow3 cubM cubN; rw [if_neg p_12]; simp only [c_13, c_16]; rfl), h_9.chgS⟩
      · have p_18 := of_decide_eq_false c_16
        refine WL.skip rfl (congrArg Value.bool c_16) rfl ?_
        refine WL.skip rfl (congrArg Value.bool c_16) rfl ?_
        refine WL.want rfl (congrArg Value.bool c_13) ?_
        refine WL.q (Wn.no rfl) rfl rfl (R.pickF (v := (.bool false)) (congrArg Value.bool c_16) rfl) ?_
        refine WL.q (Wn.no rfl) rfl rfl (R.pickF (v := (.bool false)) (congrArg Value.bool c_13) rfl) ?_
        refine WL.q (Wn.no rfl) rfl rfl (R.assign (v := (.bool false)) rfl) ?_
        refine WL.nil ?_
        refine thn_n ?_
        refine WP.ret ?_
        refine ret_of Try.results74 (RV.tmp (v := (.bool false)) rfl RV.nil) ?_
        exact ⟨congrArg Value.bool (by unfold pow3 cubM cubN; rw [if_neg p_12]; simp only [c_13, c_16]; rfl), h_9.chgS⟩

theorem c_rootR2 (p : UInt64) (w : World) :
    Cs Try.prog 49 [(vu64 p), (vi 2)].toArray w (fun v w1 => v = (vu32 (rootR (fun x => pow2 x p))) ∧ Chg w w1 []) := by
  refine Cs.of (n := 24) (args := [(vu64 p), (vi 2)]) Try.func49 rfl rfl rfl ?_
  have h_0 := HP.init w
  refine WP.seq ?_
  refine WP.reg ?_
  refine WL.q (Wn.no rfl) rfl rfl (R.assign (v := (vu32 0)) rfl) ?_
  refine WL.nil ?_
  refine thn_n ?_
  refine WP.seq ?_
  refine WP.reg ?_
  refine WL.q (Wn.no rfl) rfl rfl (R.assign (v := (vu64 0)) rfl) ?_
  refine WL.nil ?_
  refine thn_n ?_
  refine WP.seq ?_
  refine WP.seq ?_
  refine WP.reg ?_
  refine WL.q (Wn.no rfl) rfl rfl (R.assign (v := (vi 37)) rfl) ?_
  refine WL.nil ?_
  refine thn_n ?_
  refine WP.block ?_
  refine WP.loopG (G := Nat) [5, 6, 7, 8, 9, 10, 11, 12, 13, 14, 15, 16, 17, 18, 19, 20, 21] (fun j => [(5, (vu64 (rgF (fun x => pow2 x p) j))), (6, (vi (37 - (j : Int))))]) (fun j m w1 => HP w w1 [] ∧ (j ≤ 38) ∧ m = 38 - j) ⟨0, _, ⟨rfl, rfl, trivial⟩, h_0, (by omega), rfl⟩ ?_
  rintro j m_3 J_4 w_1 ⟨h_2, hj, rfl⟩
  have ek : j < 38 → (UInt64.ofNat (37 - j)).toNat = 37 - j := fun _ => nat64 (by omega)
  refine WP.seq ?_
  refine WP.seq ?_
  refine WP.reg ?_
  refine WL.q (Wn.no rfl) rfl rfl (R.move (v := (vi (37 - (j : Int)))) rfl) ?_
  refine WL.q (Wn.no rfl) rfl rfl (R.bin (v := (.bool (decide ((37 - (j : Int) : Int) ≥ 0)))) rfl rfl (bi_geq (r := decide ((37 - (j : Int) : Int) ≥ 0)) rfl)) ?_
  refine WL.nil ?_
  refine thn_n ?_
  refine WP.cond (b := decide ((37 - (j : Int) : Int) ≥ 0)) rfl (fun c_5 => ?_) (fun c_5 => ?_)
  · have p_6 := of_decide_eq_true c_5
    refine WP.skip ?_
    refine thn_n ?_
    refine WP.seq ?_
    refine WP.block ?_
    refine WP.seq ?_
    refine WP.reg ?_
    refine WL.q (Wn.no rfl) rfl rfl (R.move (v := (vu64 (rgF (fun x => pow2 x p) j))) rfl) ?_
    refine WL.q (Wn.no rfl) rfl rfl (R.move (v := (vi ((37 - j : Nat) : Int))) (congrArg vi (show (37 : Int) - (j : Int) = ((37 - j : Nat) : Int) by omega))) ?_
    refine WL.q (Wn.no rfl) rfl rfl (R.conv (b := ((UInt64.ofNat (37 - j)) : UInt64).toNat) rfl Try.underlying3 Try.underlying51 (w64_nat (37 - j))) ?_
    refine WL.q (Wn.no rfl) rfl rfl (R.binR (v := vu64 (shl64 1 ((UInt64.ofNat (37 - j)).toNat))) rfl rfl (run_shl64 _ _ _ 1 _ ((UInt64.ofNat (37 - j)).toNat))) ?_
    refine WL.q (Wn.no rfl) rfl rfl (R.bin (v := (vu64 ((rgF (fun x => pow2 x p) j) + (shl64 1 ((UInt64.ofNat (37 - j)).toNat))))) rfl rfl (b64_add (rgF (fun x => pow2 x p) j) (shl64 1 ((UInt64.ofNat (37 - j)).toNat)))) ?_
    refine WL.q (Wn.no rfl) rfl rfl (R.assign (v := (vu64 ((rgF (fun x => pow2 x p) j) + (shl64 1 ((UInt64.ofNat (37 - j)).toNat))))) rfl) ?_
    refine WL.nil ?_
    refine thn_n ?_
    refine WP.seq ?_
    refine WP.reg ?_
    refine WL.q (Wn.no rfl) rfl rfl (R.move (v := (vu64 ((rgF (fun x => pow2 x p) j) + (shl64 1 ((UInt64.ofNat (37 - j)).toNat))))) rfl) ?_
    refine WL.q (Wn.no rfl) rfl rfl (R.move (v := (vi 2)) rfl) ?_
    refine WL.q (Wn.no rfl) rfl rfl (R.move (v := (vu64 p)) rfl) ?_
    refine WL.call (al := [(vu64 ((rgF (fun x => pow2 x p) j) + (shl64 1 ((UInt64.ofNat (37 - j)).toNat)))), (vi 2), (vu64 p)]) Try.call74 rfl rfl (c_power2 ((rgF (fun x => pow2 x p) j) + (shl64 1 ((UInt64.ofNat (37 - j)).toNat))) p _ ) rfl ?_
    rintro _ w_8 ⟨rfl, hc_7⟩
    have h_9 := h_2.same hc_7
    refine WL.nil ?_
    refine thn_n ?_
    refine WP.cond (b := pow2 ((rgF (fun x => pow2 x p) j) + (shl64 1 ((UInt64.ofNat (37 - j)).toNat))) p) rfl (fun c_10 => ?_) (fun c_10 => ?_)
    · refine WP.reg ?_
      refine WL.q (Wn.no rfl) rfl rfl (R.move (v := (vu64 ((rgF (fun x => pow2 x p) j) + (shl64 1 ((UInt64.ofNat (37 - j)).toNat))))) rfl) ?_
      refine WL.q (Wn.no rfl) rfl rfl (R.assign (v := (vu64 ((rgF (fun x => pow2 x p) j) + (shl64 1 ((UInt64.ofNat (37 - j)).toNat))))) rfl) ?_
      refine WL.nil ?_
      refine inb_n ?_
      refine thn_n ?_
      refine WP.reg ?_
      refine WL.q (Wn.no rfl) rfl rfl (R.move (v := (vi (37 - (j : Int)))) rfl) ?_
      refine WL.q (Wn.no rfl) rfl rfl (R.bin (v := (vi ((37 - (j : Int)) - 1))) rfl rfl (bi_sub (c := (37 - (j : Int)) - 1) (by omega) (by omega))) ?_
      refine WL.q (Wn.no rfl) rfl rfl (R.assign (v := (vi ((37 - (j : Int)) - 1))) rfl) ?_
      refine WL.nil ?_
      refine thn_n ?_
      rw [ek (by omega)] at c_10
      exact ⟨j + 1, _, (by omega), (Ag.upd rfl (Ag.upd rfl (Ag.upd rfl (Ag.upd rfl (Ag.upd rfl (Ag.upd rfl (Ag.upd rfl (Ag.upd rfl (Ag.upd rfl (Ag.upd rfl (Ag.upd rfl (Ag.upd rfl (Ag.upd rfl (Ag.upd rfl (Ag.upd rfl (Ag.upd rfl (Ag.upd rfl (Ag.updL rfl (Ag.mix _ _ _))))))))))))))))))), ⟨congrArg (fun x : UInt64 => vu64 x) (by rw [ek (by omega)]; exact rg_yes (f := (fun x => pow2 x p)) c_10), congrArg vi (by omega), trivial⟩, h_9, (by omega), rfl⟩
    · refine WP.skip ?_
      refine inb_n ?_
      refine thn_n ?_
      refine WP.reg ?_
      refine WL.q (Wn.no rfl) rfl rfl (R.move (v := (vi (37 - (j : Int)))) rfl) ?_
      refine WL.q (Wn.no rfl) rfl rfl (R.bin (v := (vi ((37 - (j : Int)) - 1))) rfl rfl (bi_sub (c := (37 - (j : Int)) - 1) (by omega) (by omega))) ?_
      refine WL.q (Wn.no rfl) rfl rfl (R.assign (v := (vi ((37 - (j : Int)) - 1))) rfl) ?_
      refine WL.nil ?_
      refine thn_n ?_
      rw [ek (by omega)] at c_10
      exact ⟨j + 1, _, (by omega), (Ag.upd rfl (Ag.upd rfl (Ag.upd rfl (Ag.upd rfl (Ag.upd rfl (Ag.upd rfl (Ag.upd rfl (Ag.upd rfl (Ag.upd rfl (Ag.upd rfl (Ag.upd rfl (Ag.upd rfl (Ag.upd rfl (Ag.upd rfl (Ag.upd rfl (Ag.updL rfl (Ag.mix _ _ _))))))))))))))))), ⟨congrArg (fun x : UInt64 => vu64 x) (rg_no (f := (fun x => pow2 x p)) c_10), congrArg vi (by omega), trivial⟩, h_9, (by omega), rfl⟩
  · have p_11 := of_decide_eq_false c_5
    refine WP.exit ?_
    refine thn_x ?_
    refine thn_x ?_
    refine inb_hit ?_
    refine thn_n ?_
    refine WP.seq ?_
    refine WP.reg ?_
    refine WL.q (Wn.no rfl) rfl rfl (R.move (v := (vu64 (rgF (fun x => pow2 x p) j))) rfl) ?_
    refine WL.q (Wn.no rfl) rfl rfl (R.conv (b := ((UInt32.ofNat ((rgF (fun x => pow2 x p) j).toNat)) : UInt32).toNat) rfl Try.underlying58 Try.underlying22 (w32_nat ((rgF (fun x => pow2 x p) j).toNat))) ?_
    refine WL.q (Wn.no rfl) rfl rfl (R.assign (v := (vu32 (UInt32.ofNat ((rgF (fun x => pow2 x p) j).toNat)))) rfl) ?_
    refine WL.nil ?_
    refine thn_n ?_
    refine WP.ret ?_
    refine ret_of Try.results49 (RV.tmp (v := (vu32 (UInt32.ofNat ((rgF (fun x => pow2 x p) j).toNat)))) rfl RV.nil) ?_
    have hj38 : j = 38 := by omega
    subst hj38
    exact ⟨rfl, h_2.chgS⟩

theorem c_rootR3 (p : UInt64) (w : World) :
    Cs Try.prog 49 [(vu64 p), (vi 3)].toArray w (fun v w1 => v = (vu32 (rootR (fun x => pow3 x p))) ∧ Chg w w1 []) := by
  refine Cs.of (n := 24) (args := [(vu64 p), (vi 3)]) Try.func49 rfl rfl rfl ?_
  have h_0 := HP.init w
  refine WP.seq ?_
  refine WP.reg ?_
  refine WL.q (Wn.no rfl) rfl rfl (R.assign (v := (vu32 0)) rfl) ?_
  refine WL.nil ?_
  refine thn_n ?_
  refine WP.seq ?_
  refine WP.reg ?_
  refine WL.q (Wn.no rfl) rfl rfl (R.assign (v := (vu64 0)) rfl) ?_
  refine WL.nil ?_
  refine thn_n ?_
  refine WP.seq ?_
  refine WP.seq ?_
  refine WP.reg ?_
  refine WL.q (Wn.no rfl) rfl rfl (R.assign (v := (vi 37)) rfl) ?_
  refine WL.nil ?_
  refine thn_n ?_
  refine WP.block ?_
  refine WP.loopG (G := Nat) [5, 6, 7, 8, 9, 10, 11, 12, 13, 14, 15, 16, 17, 18, 19, 20, 21] (fun j => [(5, (vu64 (rgF (fun x => pow3 x p) j))), (6, (vi (37 - (j : Int))))]) (fun j m w1 => HP w w1 [] ∧ (j ≤ 38) ∧ m = 38 - j) ⟨0, _, ⟨rfl, rfl, trivial⟩, h_0, (by omega), rfl⟩ ?_
  rintro j m_3 J_4 w_1 ⟨h_2, hj, rfl⟩
  have ek : j < 38 → (UInt64.ofNat (37 - j)).toNat = 37 - j := fun _ => nat64 (by omega)
  refine WP.seq ?_
  refine WP.seq ?_
  refine WP.reg ?_
  refine WL.q (Wn.no rfl) rfl rfl (R.move (v := (vi (37 - (j : Int)))) rfl) ?_
  refine WL.q (Wn.no rfl) rfl rfl (R.bin (v := (.bool (decide ((37 - (j : Int) : Int) ≥ 0)))) rfl rfl (bi_geq (r := decide ((37 - (j : Int) : Int) ≥ 0)) rfl)) ?_
  refine WL.nil ?_
  refine thn_n ?_
  refine WP.cond (b := decide ((37 - (j : Int) : Int) ≥ 0)) rfl (fun c_5 => ?_) (fun c_5 => ?_)
  · have p_6 := of_decide_eq_true c_5
    refine WP.skip ?_
    refine thn_n ?_
    refine WP.seq ?_
    refine WP.block ?_
    refine WP.seq ?_
    refine WP.reg ?_
    refine WL.q (Wn.no rfl) rfl rfl (R.move (v := (vu64 (rgF (fun x => pow3 x p) j))) rfl) ?_
    refine WL.q (Wn.no rfl) rfl rfl (R.move (v := (vi ((37 - j : Nat) : Int))) (congrArg vi (show (37 : Int) - (j : Int) = ((37 - j : Nat) : Int) by omega))) ?_
    refine WL.q (Wn.no rfl) rfl rfl (R.conv (b := ((UInt64.ofNat (37 - j)) : UInt64).toNat) rfl Try.underlying3 Try.underlying51 (w64_nat (37 - j))) ?_
    refine WL.q (Wn.no rfl) rfl rfl (R.binR (v := vu64 (shl64 1 ((UInt64.ofNat (37 - j)).toNat))) rfl rfl (run_shl64 _ _ _ 1 _ ((UInt64.ofNat (37 - j)).toNat))) ?_
    refine WL.q (Wn.no rfl) rfl rfl (R.bin (v := (vu64 ((rgF (fun x => pow3 x p) j) + (shl64 1 ((UInt64.ofNat (37 - j)).toNat))))) rfl rfl (b64_add (rgF (fun x => pow3 x p) j) (shl64 1 ((UInt64.ofNat (37 - j)).toNat)))) ?_
    refine WL.q (Wn.no rfl) rfl rfl (R.assign (v := (vu64 ((rgF (fun x => pow3 x p) j) + (shl64 1 ((UInt64.ofNat (37 - j)).toNat))))) rfl) ?_
    refine WL.nil ?_
    refine thn_n ?_
    refine WP.seq ?_
    refine WP.reg ?_
    refine WL.q (Wn.no rfl) rfl rfl (R.move (v := (vu64 ((rgF (fun x => pow3 x p) j) + (shl64 1 ((UInt64.ofNat (37 - j)).toNat))))) rfl) ?_
    refine WL.q (Wn.no rfl) rfl rfl (R.move (v := (vi 3)) rfl) ?_
    refine WL.q (Wn.no rfl) rfl rfl (R.move (v := (vu64 p)) rfl) ?_
    refine WL.call (al := [(vu64 ((rgF (fun x => pow3 x p) j) + (shl64 1 ((UInt64.ofNat (37 - j)).toNat)))), (vi 3), (vu64 p)]) Try.call74 rfl rfl (c_power3 ((rgF (fun x => pow3 x p) j) + (shl64 1 ((UInt64.ofNat (37 - j)).toNat))) p _ ) rfl ?_
    rintro _ w_8 ⟨rfl, hc_7⟩
    have h_9 := h_2.same hc_7
    refine WL.nil ?_
    refine thn_n ?_
    refine WP.cond (b := pow3 ((rgF (fun x => pow3 x p) j) + (shl64 1 ((UInt64.ofNat (37 - j)).toNat))) p) rfl (fun c_10 => ?_) (fun c_10 => ?_)
    · refine WP.reg ?_
      refine WL.q (Wn.no rfl) rfl rfl (R.move (v := (vu64 ((rgF (fun x => pow3 x p) j) + (shl64 1 ((UInt64.ofNat (37 - j)).toNat))))) rfl) ?_
      refine WL.q (Wn.no rfl) rfl rfl (R.assign (v := (vu64 ((rgF (fun x => pow3 x p) j) + (shl64 1 ((UInt64.ofNat (37 - j)).toNat))))) rfl) ?_
      refine WL.nil ?_
      refine inb_n ?_
      refine thn_n ?_
      refine WP.reg ?_
      refine WL.q (Wn.no rfl) rfl rfl (R.move (v := (vi (37 - (j : Int)))) rfl) ?_
      refine WL.q (Wn.no rfl) rfl rfl (R.bin (v := (vi ((37 - (j : Int)) - 1))) rfl rfl (bi_sub (c := (37 - (j : Int)) - 1) (by omega) (by omega))) ?_
      refine WL.q (Wn.no rfl) rfl rfl (R.assign (v := (vi ((37 - (j : Int)) - 1))) rfl) ?_
      refine WL.nil ?_
      refine thn_n ?_
      rw [ek (by omega)] at c_10
      exact ⟨j + 1, _, (by omega), (Ag.upd rfl (Ag.upd rfl (Ag.upd rfl (Ag.upd rfl (Ag.upd rfl (Ag.upd rfl (Ag.upd rfl (Ag.upd rfl (Ag.upd rfl (Ag.upd rfl (Ag.upd rfl (Ag.upd rfl (Ag.upd rfl (Ag.upd rfl (Ag.upd rfl (Ag.upd rfl (Ag.upd rfl (Ag.updL rfl (Ag.mix _ _ _))))))))))))))))))), ⟨congrArg (fun x : UInt64 => vu64 x) (by rw [ek (by omega)]; exact rg_yes (f := (fun x => pow3 x p)) c_10), congrArg vi (by omega), trivial⟩, h_9, (by omega), rfl⟩
    · refine WP.skip ?_
      refine inb_n ?_
      refine thn_n ?_
      refine WP.reg ?_
      refine WL.q (Wn.no rfl) rfl rfl (R.move (v := (vi (37 - (j : Int)))) rfl) ?_
      refine WL.q (Wn.no rfl) rfl rfl (R.bin (v := (vi ((37 - (j : Int)) - 1))) rfl rfl (bi_sub (c := (37 - (j : Int)) - 1) (by omega) (by omega))) ?_
      refine WL.q (Wn.no rfl) rfl rfl (R.assign (v := (vi ((37 - (j : Int)) - 1))) rfl) ?_
      refine WL.nil ?_
      refine thn_n ?_
      rw [ek (by omega)] at c_10
      exact ⟨j + 1, _, (by omega), (Ag.upd rfl (Ag.upd rfl (Ag.upd rfl (Ag.upd rfl (Ag.upd rfl (Ag.upd rfl (Ag.upd rfl (Ag.upd rfl (Ag.upd rfl (Ag.upd rfl (Ag.upd rfl (Ag.upd rfl (Ag.upd rfl (Ag.upd rfl (Ag.upd rfl (Ag.updL rfl (Ag.mix _ _ _))))))))))))))))), ⟨congrArg (fun x : UInt64 => vu64 x) (rg_no (f := (fun x => pow3 x p)) c_10), congrArg vi (by omega), trivial⟩, h_9, (by omega), rfl⟩
  · have p_11 := of_decide_eq_false c_5
    refine WP.exit ?_
    refine thn_x ?_
    refine thn_x ?_
    refine inb_hit ?_
    refine thn_n ?_
    refine WP.seq ?_
    refine WP.reg ?_
    refine WL.q (Wn.no rfl) rfl rfl (R.move (v := (vu64 (rgF (fun x => pow3 x p) j))) rfl) ?_
    refine WL.q (Wn.no rfl) rfl rfl (R.conv (b := ((UInt32.ofNat ((rgF (fun x => pow3 x p) j).toNat)) : UInt32).toNat) rfl Try.underlying58 Try.underlying22 (w32_nat ((rgF (fun x => pow3 x p) j).toNat))) ?_
    refine WL.q (Wn.no rfl) rfl rfl (R.assign (v := (vu32 (UInt32.ofNat ((rgF (fun x => pow3 x p) j).toNat)))) rfl) ?_
    refine WL.nil ?_
    refine thn_n ?_
    refine WP.ret ?_
    refine ret_of Try.results49 (RV.tmp (v := (vu32 (UInt32.ofNat ((rgF (fun x => pow3 x p) j).toNat)))) rfl RV.nil) ?_
    have hj38 : j = 38 := by omega
    subst hj38
    exact ⟨rfl, h_2.chgS⟩

theorem c_ConstantR_lo (i : Int) (h : i < 0) (w : World) :
    Cs Try.prog 15 [(vi i)].toArray w (fun v w1 => v = (vu32 0) ∧ Chg w w1 []) := by
  refine Cs.of (n := 12) (args := [(vi i)]) Try.func15 rfl rfl rfl ?_
  have h_0 := HP.init w
  refine WP.seq ?_
  refine WP.reg ?_
  refine WL.q (Wn.no rfl) rfl rfl (R.assign (v := (vu32 0)) rfl) ?_
  refine WL.nil ?_
  refine thn_n ?_
  refine WP.seq ?_
  refine WP.seq ?_
  refine WP.reg ?_
  refine WL.q (Wn.no rfl) rfl rfl (R.move (v := (vi i)) rfl) ?_
  refine WL.q (Wn.no rfl) rfl rfl (R.bin (v := (.bool (decide ((i : Int) < 0)))) rfl rfl (bi_lss (r := decide ((i : Int) < 0)) rfl)) ?_
  refine WL.q (Wn.no rfl) rfl rfl (R.move (v := (.bool (decide ((i : Int) < 0)))) rfl) ?_
  refine WL.skip rfl (congrArg Value.bool (decide_eq_true h)) rfl ?_
  refine WL.skip rfl (congrArg Value.bool (decide_eq_true h)) rfl ?_
  refine WL.q (Wn.no rfl) rfl rfl (R.pickT (v := (.bool true)) (congrArg Value.bool (decide_eq_true h)) rfl) ?_
  refine WL.nil ?_
  refine thn_n ?_
  refine WP.condT rfl ?_
  refine WP.seq ?_
  refine WP.reg ?_
  refine WL.q (Wn.no rfl) rfl rfl (R.assign (v := (vu32 0)) rfl) ?_
  refine WL.nil ?_
  refine thn_n ?_
  refine WP.ret ?_
  refine thn_r ?_
  refine ret_of Try.results15 (RV.tmp (v := (vu32 0)) rfl RV.nil) ?_
  exact ⟨rfl, h_0.chgS⟩

theorem c_ConstantR_hi (i : Int) (h : ¬ i < 0) (h2 : 63 < i) (w : World) :
    Cs Try.prog 15 [(vi i)].toArray w (fun v w1 => v = (vu32 0) ∧ Chg w w1 []) := by
  refine Cs.of (n := 12) (args := [(vi i)]) Try.func15 rfl rfl rfl ?_
  have h_0 := HP.init w
  refine WP.seq ?_
  refine WP.reg ?_
  refine WL.q (Wn.no rfl) rfl rfl (R.assign (v := (vu32 0)) rfl) ?_
  refine WL.nil ?_
  refine thn_n ?_
  refine WP.seq ?_
  refine WP.seq ?_
  refine WP.reg ?_
  refine WL.q (Wn.no rfl) rfl rfl (R.move (v := (vi i)) rfl) ?_
  refine WL.q (Wn.no rfl) rfl rfl (R.bin (v := (.bool (decide ((i : Int) < 0)))) rfl rfl (bi_lss (r := decide ((i : Int) < 0)) rfl)) ?_
  refine WL.q (Wn.no rfl) rfl rfl (R.move (v := (.bool (decide ((i : Int) < 0)))) rfl) ?_
  refine WL.want rfl (congrArg Value.bool (decide_eq_false h)) ?_
  refine WL.q (Wn.no rfl) rfl rfl (R.move (v := (vi i)) rfl) ?_
  refine WL.want rfl (congrArg Value.bool (decide_eq_false h)) ?_
  refine WL.q (Wn.no rfl) rfl rfl (R.bin (v := (.bool (decide ((i : Int) > 63)))) rfl rfl (bi_gtr (r := decide ((i : Int) > 63)) rfl)) ?_
  refine WL.q (Wn.no rfl) rfl rfl (R.pickF (v := (.bool (decide ((i : Int) > 63)))) (congrArg Value.bool (decide_eq_false h)) rfl) ?_
  refine WL.nil ?_
  refine thn_n ?_
  refine WP.condT (congrArg Value.bool (decide_eq_true h2)) ?_
  refine WP.seq ?_
  refine WP.reg ?_
  refine WL.q (Wn.no rfl) rfl rfl (R.assign (v := (vu32 0)) rfl) ?_
  refine WL.nil ?_
  refine thn_n ?_
  refine WP.ret ?_
  refine thn_r ?_
  refine ret_of Try.results15 (RV.tmp (v := (vu32 0)) rfl RV.nil) ?_
  exact ⟨rfl, h_0.chgS⟩

theorem c_ConstantR_n (i : Nat) (h : i < 64) (w : World) :
    Cs Try.prog 15 [(vi ((i : Nat) : Int))].toArray w (fun v w1 => v = (vu32 (kL.getD i 0)) ∧ Chg w w1 []) := by
  refine Cs.of (n := 12) (args := [(vi ((i : Nat) : Int))]) Try.func15 rfl rfl rfl ?_
  have h_0 := HP.init w
  refine WP.seq ?_
  refine WP.reg ?_
  refine WL.q (Wn.no rfl) rfl rfl (R.assign (v := (vu32 0)) rfl) ?_
  refine WL.nil ?_
  refine thn_n ?_
  refine WP.seq ?_
  refine WP.seq ?_
  refine WP.reg ?_
  refine WL.q (Wn.no rfl) rfl rfl (R.move (v := (vi ((i : Nat) : Int))) rfl) ?_
  refine WL.q (Wn.no rfl) rfl rfl (R.bin (v := (.bool (decide ((((i : Nat) : Int) : Int) < 0)))) rfl rfl (bi_lss (r := decide ((((i : Nat) : Int) : Int) < 0)) rfl)) ?_
  refine WL.q (Wn.no rfl) rfl rfl (R.move (v := (.bool (decide ((((i : Nat) : Int) : Int) < 0)))) rfl) ?_
  refine WL.want rfl (congrArg Value.bool (decide_eq_false (by omega))) ?_
  refine WL.q (Wn.no rfl) rfl rfl (R.move (v := (vi ((i : Nat) : Int))) rfl) ?_
  refine WL.want rfl (congrArg Value.bool (decide_eq_false (by omega))) ?_
  refine WL.q (Wn.no rfl) rfl rfl (R.bin (v := (.bool (decide ((((i : Nat) : Int) : Int) > 63)))) rfl rfl (bi_gtr (r := decide ((((i : Nat) : Int) : Int) > 63)) rfl)) ?_
  refine WL.q (Wn.no rfl) rfl rfl (R.pickF (v := (.bool (decide ((((i : Nat) : Int) : Int) > 63)))) (congrArg Value.bool (decide_eq_false (by omega))) rfl) ?_
  refine WL.nil ?_
  refine thn_n ?_
  refine WP.condF (congrArg Value.bool (decide_eq_false (by omega))) ?_
  refine WP.skip ?_
  refine thn_n ?_
  refine WP.seq ?_
  refine WP.reg ?_
  refine WL.q (Wn.no rfl) rfl rfl (R.move (v := (vi ((i : Nat) : Int))) rfl) ?_
  refine WL.call (al := [(vi ((i : Nat) : Int))]) Try.call50 rfl rfl (c_prime i (by omega) _ ) rfl ?_
  rintro _ w_2 ⟨rfl, hc_1⟩
  have h_3 := h_0.same hc_1
  refine WL.call (al := [(vu64 (primeL.getD i 0)), (vi 3)]) Try.call49 rfl rfl (c_rootR3 (primeL.getD i 0) _ ) rfl ?_
  rintro _ w_5 ⟨rfl, hc_4⟩
  have h_6 := h_3.same hc_4
  refine WL.q (Wn.no rfl) rfl rfl (R.assign (v := (vu32 (rootR (fun x => pow3 x (primeL.getD i 0))))) rfl) ?_
  refine WL.nil ?_
  refine thn_n ?_
  refine WP.ret ?_
  refine ret_of Try.results15 (RV.tmp (v := (vu32 (rootR (fun x => pow3 x (primeL.getD i 0))))) rfl RV.nil) ?_
  exact ⟨congrArg (fun x : UInt32 => vu32 x) (tabKR i h), h_6.chgS⟩

theorem c_ConstantR (i : Int) (w : World) : Cs Try.prog 15 [vi i].toArray w (fun v w1 => v = vu32 (kAt i) ∧ Chg w w1 []) := by
  by_cases h : i < 0
  · rw [kAt_no (.inl h)]; exact c_ConstantR_lo i h w
  by_cases h2 : 63 < i
  · rw [kAt_no (.inr h2)]; exact c_ConstantR_hi i h h2 w
  obtain ⟨q, rfl⟩ : ∃ q : Nat, i = (q : Int) := ⟨i.toNat, by omega⟩
  rw [kAt_nat (by omega)]; exact c_ConstantR_n q (by omega) w

theorem c_StartR_lo (i : Int) (h : i < 0) (w : World) :
    Cs Try.prog 17 [(vi i)].toArray w (fun v w1 => v = (vu32 0) ∧ Chg w w1 []) := by
  refine Cs.of (n := 12) (args := [(vi i)]) Try.func17 rfl rfl rfl ?_
  have h_0 := HP.init w
  refine WP.seq ?_
  refine WP.reg ?_
  refine WL.q (Wn.no rfl) rfl rfl (R.assign (v := (vu32 0)) rfl) ?_
  refine WL.nil ?_
  refine thn_n ?_
  refine WP.seq ?_
  refine WP.seq ?_
  refine WP.reg ?_
  refine WL.q (Wn.no rfl) rfl rfl (R.move (v := (vi i)) rfl) ?_
  refine WL.q (Wn.no rfl) rfl rfl (R.bin (v := (.bool (decide ((i : Int) < 0)))) rfl rfl (bi_lss (r := decide ((i : Int) < 0)) rfl)) ?_
  refine WL.q (Wn.no rfl) rfl rfl (R.move (v := (.bool (decide ((i : Int) < 0)))) rfl) ?_
  refine WL.skip rfl (congrArg Value.bool (decide_eq_true h)) rfl ?_
  refine WL.skip rfl (congrArg Value.bool (decide_eq_true h)) rfl ?_
  refine WL.q (Wn.no rfl) rfl rfl (R.pickT (v := (.bool true)) (congrArg Value.bool (decide_eq_true h)) rfl) ?_
  refine WL.nil ?_
  refine thn_n ?_
  refine WP.condT rfl ?_
  refine WP.seq ?_
  refine WP.reg ?_
  refine WL.q (Wn.no rfl) rfl rfl (R.assign (v := (vu32 0)) rfl) ?_
  refine WL.nil ?_
  refine thn_n ?_
  refine WP.ret ?_
  refine thn_r ?_
  refine ret_of Try.results17 (RV.tmp (v := (vu32 0)) rfl RV.nil) ?_
  exact ⟨rfl, h_0.chgS⟩

theorem c_StartR_hi (i : Int) (h : ¬ i < 0) (h2 : 7 < i) (w : World) :
    Cs Try.prog 17 [(vi i)].toArray w (fun v w1 => v = (vu32 0) ∧ Chg w w1 []) := by
  refine Cs.of (n := 12) (args := [(vi i)]) Try.func17 rfl rfl rfl ?_
  have h_0 := HP.init w
  refine WP.seq ?_
  refine WP.reg ?_
  refine WL.q (Wn.no rfl) rfl rfl (R.assign (v := (vu32 0)) rfl) ?_
  refine WL.nil ?_
  refine thn_n ?_
  refine WP.seq ?_
  refine WP.seq ?_
  refine WP.reg ?_
  refine WL.q (Wn.no rfl) rfl rfl (R.move (v := (vi i)) rfl) ?_
  refine WL.q (Wn.no rfl) rfl rfl (R.bin (v := (.bool (decide ((i : Int) < 0)))) rfl rfl (bi_lss (r := decide ((i : Int) < 0)) rfl)) ?_
  refine WL.q (Wn.no rfl) rfl rfl (R.move (v := (.bool (decide ((i : Int) < 0)))) rfl) ?_
  refine WL.want rfl (congrArg Value.bool (decide_eq_false h)) ?_
  refine WL.q (Wn.no rfl) rfl rfl (R.move (v := (vi i)) rfl) ?_
  refine WL.want rfl (congrArg Value.bool (decide_eq_false h)) ?_
  refine WL.q (Wn.no rfl) rfl rfl (R.bin (v := (.bool (decide ((i : Int) > 7)))) rfl rfl (bi_gtr (r := decide ((i : Int) > 7)) rfl)) ?_
  refine WL.q (Wn.no rfl) rfl rfl (R.pickF (v := (.bool (decide ((i : Int) > 7)))) (congrArg Value.bool (decide_eq_false h)) rfl) ?_
  refine WL.nil ?_
  refine thn_n ?_
  refine WP.condT (congrArg Value.bool (decide_eq_true h2)) ?_
  refine WP.seq ?_
  refine WP.reg ?_
  refine WL.q (Wn.no rfl) rfl rfl (R.assign (v := (vu32 0)) rfl) ?_
  refine WL.nil ?_
  refine thn_n ?_
  refine WP.ret ?_
  refine thn_r ?_
  refine ret_of Try.results17 (RV.tmp (v := (vu32 0)) rfl RV.nil) ?_
  exact ⟨rfl, h_0.chgS⟩

theorem c_StartR_n (i : Nat) (h : i < 8) (w : World) :
    Cs Try.prog 17 [(vi ((i : Nat) : Int))].toArray w (fun v w1 => v = (vu32 (hL.getD i 0)) ∧ Chg w w1 []) := by
  refine Cs.of (n := 12) (args := [(vi ((i : Nat) : Int))]) Try.func17 rfl rfl rfl ?_
  have h_0 := HP.init w
  refine WP.seq ?_
  refine WP.reg ?_
  refine WL.q (Wn.no rfl) rfl rfl (R.assign (v := (vu32 0)) rfl) ?_
  refine WL.nil ?_
  refine thn_n ?_
  refine WP.seq ?_
  refine WP.seq ?_
  refine WP.reg ?_
  refine WL.q (Wn.no rfl) rfl rfl (R.move (v := (vi ((i : Nat) : Int))) rfl) ?_
  refine WL.q (Wn.no rfl) rfl rfl (R.bin (v := (.bool (decide ((((i : Nat) : Int) : Int) < 0)))) rfl rfl (bi_lss (r := decide ((((i : Nat) : Int) : Int) < 0)) rfl)) ?_
  refine WL.q (Wn.no rfl) rfl rfl (R.move (v := (.bool (decide ((((i : Nat) : Int) : Int) < 0)))) rfl) ?_
  refine WL.want rfl (congrArg Value.bool (decide_eq_false (by omega))) ?_
  refine WL.q (Wn.no rfl) rfl rfl (R.move (v := (vi ((i : Nat) : Int))) rfl) ?_
  refine WL.want rfl (congrArg Value.bool (decide_eq_false (by omega))) ?_
  refine WL.q (Wn.no rfl) rfl rfl (R.bin (v := (.bool (decide ((((i : Nat) : Int) : Int) > 7)))) rfl rfl (bi_gtr (r := decide ((((i : Nat) : Int) : Int) > 7)) rfl)) ?_
  refine WL.q (Wn.no rfl) rfl rfl (R.pickF (v := (.bool (decide ((((i : Nat) : Int) : Int) > 7)))) (congrArg Value.bool (decide_eq_false (by omega))) rfl) ?_
  refine WL.nil ?_
  refine thn_n ?_
  refine WP.condF (congrArg Value.bool (decide_eq_false (by omega))) ?_
  refine WP.skip ?_
  refine thn_n ?_
  refine WP.seq ?_
  refine WP.reg ?_
  refine WL.q (Wn.no rfl) rfl rfl (R.move (v := (vi ((i : Nat) : Int))) rfl) ?_
  refine WL.call (al := [(vi ((i : Nat) : Int))]) Try.call50 rfl rfl (c_prime i (by omega) _ ) rfl ?_
  rintro _ w_2 ⟨rfl, hc_1⟩
  have h_3 := h_0.same hc_1
  refine WL.call (al := [(vu64 (primeL.getD i 0)), (vi 2)]) Try.call49 rfl rfl (c_rootR2 (primeL.getD i 0) _ ) rfl ?_
  rintro _ w_5 ⟨rfl, hc_4⟩
  have h_6 := h_3.same hc_4
  refine WL.q (Wn.no rfl) rfl rfl (R.assign (v := (vu32 (rootR (fun x => pow2 x (primeL.getD i 0))))) rfl) ?_
  refine WL.nil ?_
  refine thn_n ?_
  refine WP.ret ?_
  refine ret_of Try.results17 (RV.tmp (v := (vu32 (rootR (fun x => pow2 x (primeL.getD i 0))))) rfl RV.nil) ?_
  exact ⟨congrArg (fun x : UInt32 => vu32 x) (tabHR i h), h_6.chgS⟩

theorem c_StartR (i : Int) (w : World) : Cs Try.prog 17 [vi i].toArray w (fun v w1 => v = vu32 (hAt i) ∧ Chg w w1 []) := by
  by_cases h : i < 0
  · rw [hAt_no (.inl h)]; exact c_StartR_lo i h w
  by_cases h2 : 7 < i
  · rw [hAt_no (.inr h2)]; exact c_StartR_hi i h h2 w
  obtain ⟨q, rfl⟩ : ∃ q : Nat, i = (q : Int) := ⟨i.toNat, by omega⟩
  rw [hAt_nat (by omega)]; exact c_StartR_n q (by omega) w

theorem c_ConstantsR  (w : World) :
    Cs Try.prog 26 [].toArray w (fun v w1 => ∃ a cap, v = .slice a 64 cap ∧ Chg w w1 [] ∧ Own w.heap.size w1 22 1 a 64 cap ((kL).map vu32)) := by
  refine Cs.of (n := 13) (args := []) Try.func26 rfl rfl rfl ?_
  have h_0 := HP.init w
  refine WP.seq ?_
  refine WP.reg ?_
  refine WL.q (Wn.no rfl) rfl rfl (R.assign (v := (.slice none 0 0)) rfl) ?_
  refine WL.nil ?_
  refine thn_n ?_
  refine WP.seq ?_
  refine WP.reg ?_
  refine WL.q (Wn.no rfl) rfl rfl (R.assign (v := (.slice none 0 0)) rfl) ?_
  refine WL.nil ?_
  refine thn_n ?_
  refine WP.seq ?_
  refine WP.seq ?_
  refine WP.reg ?_
  refine WL.q (Wn.no rfl) rfl rfl (R.assign (v := (vi 0)) rfl) ?_
  refine WL.nil ?_
  refine thn_n ?_
  refine WP.block ?_
  have h_1 := h_0.rowNil 22 1
  refine WP.loopG (G := Nat × Option Addr × Nat) [1, 2, 3, 4, 5, 6, 7, 8, 9, 10, 11] (fun (k, ra, rc) => [(1, (.slice ra k rc)), (2, (vi ((k : Nat) : Int)))]) (fun (k, ra, rc) m w1 => HP w w1 [.row ra k rc 22 1 ((kL.take k).map vu32)] ∧ (k ≤ 64) ∧ m = 64 - k) ⟨(0, none, 0), _, ⟨rfl, rfl, trivial⟩, h_1, Nat.zero_le _, rfl⟩ ?_
  rintro ⟨k, ra, rc⟩ m_4 J_5 w_2 ⟨h_3, hk, rfl⟩
  refine WP.seq ?_
  refine WP.seq ?_
  refine WP.reg ?_
  refine WL.q (Wn.no rfl) rfl rfl (R.move (v := (vi ((k : Nat) : Int))) rfl) ?_
  refine WL.q (Wn.no rfl) rfl rfl (R.bin (v := (.bool (decide ((((k : Nat) : Int) : Int) < 64)))) rfl rfl (bi_lss (r := decide ((((k : Nat) : Int) : Int) < 64)) rfl)) ?_
  refine WL.nil ?_
  refine thn_n ?_
  refine WP.cond (b := decide ((((k : Nat) : Int) : Int) < 64)) rfl (fun c_6 => ?_) (fun c_6 => ?_)
  · have p_7 := of_decide_eq_true c_6
    refine WP.skip ?_
    refine thn_n ?_
    refine WP.seq ?_
    refine WP.block ?_
    refine WP.reg ?_
    refine WL.q (Wn.no rfl) rfl rfl (R.move (v := (.slice ra k rc)) rfl) ?_
    refine WL.q (Wn.no rfl) rfl rfl (R.move (v := (vi ((k : Nat) : Int))) rfl) ?_
    refine WL.call (al := [(vi ((k : Nat) : Int))]) Try.call15 rfl rfl (c_ConstantR ((k : Nat) : Int) _ ) rfl ?_
    rintro _ w_9 ⟨rfl, hc_8⟩
    have h_10 := h_3.same hc_8
    refine WL.buildSl (vs := [(0, (vu32 (kAt ((k : Nat) : Int))))]) (cs := ([kAt ((k : Nat) : Int)] : List UInt32).map vu32) h_10 Try.underlying37 Try.sizeOf22 (zv Try.typeInfo22 rfl) rfl rfl (by kernel_rfl) rfl (one_u32 _) rfl rfl (fun b_11 w_12 h_13 => ?_)
    refine WL.append (km := k + 1) (xs := (kL.take k).map vu32) (ys := ([kAt ((k : Nat) : Int)] : List UInt32).map vu32) (zs := ((kL.take k) ++ ([kAt ((k : Nat) : Int)] : List UInt32)).map vu32) h_13 rfl rfl el37 (viewB (h_13.ok _ (.head _)) Sg.h) ((len_map (rfl : List.length ([kAt ((k : Nat) : Int)] : List UInt32) = 1)).trans (Nat.mul_one _).symm) (one_u32 _) (by simp only [List.map_append, List.map_nil]) (by omega) (by omega) (by omega) (fun _ _ => (At.t At.h)) rfl (fun a_14 c_15 w_16 h_17 => ?_)
    refine WL.q (Wn.no rfl) rfl rfl (R.assign (v := (.slice a_14 (k + 1) c_15)) rfl) ?_
    refine WL.nil ?_
    refine inb_n ?_
    refine thn_n ?_
    refine WP.reg ?_
    refine WL.q (Wn.no rfl) rfl rfl (R.move (v := (vi ((k : Nat) : Int))) rfl) ?_
    refine WL.q (Wn.no rfl) rfl rfl (R.bin (v := (vi ((k + 1 : Nat) : Int))) rfl rfl (bi_add (c := ((k + 1 : Nat) : Int)) (by omega) (by omega))) ?_
    refine WL.q (Wn.no rfl) rfl rfl (R.assign (v := (vi ((k + 1 : Nat) : Int))) rfl) ?_
    refine WL.nil ?_
    refine thn_n ?_
    have h_18 := h_17.drop rfl
    rw [k_snoc (by omega)] at h_18
    exact ⟨(k + 1, a_14, c_15), _, (by omega), (Ag.upd rfl (Ag.upd rfl (Ag.upd rfl (Ag.upd rfl (Ag.upd rfl (Ag.upd rfl (Ag.upd rfl (Ag.upd rfl (Ag.upd rfl (Ag.upd rfl (Ag.upd rfl (Ag.updL rfl (Ag.mix _ _ _))))))))))))), ⟨rfl, rfl, trivial⟩, h_18, (by omega), rfl⟩
  · have p_19 := of_decide_eq_false c_6
    refine WP.exit ?_
    refine thn_x ?_
    refine thn_x ?_
    refine inb_hit ?_
    refine thn_n ?_
    refine WP.seq ?_
    refine WP.reg ?_
    refine WL.q (Wn.no rfl) rfl rfl (R.move (v := (.slice ra k rc)) rfl) ?_
    refine WL.q (Wn.no rfl) rfl rfl (R.assign (v := (.slice ra k rc)) rfl) ?_
    refine WL.nil ?_
    refine thn_n ?_
    refine WP.ret ?_
    refine ret_of Try.results26 (RV.tmp (v := (.slice ra k rc)) rfl RV.nil) ?_
    have hk64 : k = 64 := by omega
    subst hk64
    exact ⟨_, _, rfl, h_3.chgS, h_3.own (.head _)⟩
end Go.Proofs.Ytelkjcigdhgcoaa
