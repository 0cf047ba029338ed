/- Contracts of the reference of aes: bytes. Conditions: those that each theorem states. -/
import Derived.Test.YtcmgadjnammahaaE3
namespace Go.Proofs.Ytcmgadjnammahaa
open Go.Vc Go.Ax Go.RowKit
set_option linter.unusedVariables false
set_option linter.unusedSimpArgs false
set_option maxRecDepth 20000
theorem u64n {k : Nat} (h : k < 256) : (UInt64.ofNat k).toNat = k := by simp; omega
theorem shl_lt (a : UInt8) {k : Nat} (h : k < 8) : a.toNat * 2 ^ k < 2 ^ 15 := by
  have ha := a.toNat_lt
  have hk : 2 ^ k ≤ 2 ^ 7 := Nat.pow_le_pow_right (by omega) (by omega)
  have : a.toNat * 2 ^ k ≤ 255 * 2 ^ 7 := Nat.mul_le_mul (by omega) hk
  omega
theorem shl283 {k : Nat} (h : k < 7) : 283 * 2 ^ k < 2 ^ 15 := by
  have hk : 2 ^ k ≤ 2 ^ 6 := Nat.pow_le_pow_right (by omega) (by omega)
  omega
theorem inv_none {a : UInt8} (h : ∀ j : Nat, 1 ≤ j → j < 256 → tm a (UInt8.ofNat j) ≠ 1) : inv a = 0 := by
  by_cases ha : a = 0
  · subst ha; exact inv_0
  · have h1 := inv_mul a ha
    have h2 := (inv a).toNat_lt
    by_cases h0 : (inv a).toNat = 0
    · have : inv a = 0 := UInt8.toNat_inj.1 h0
      exact this
    · exact absurd (by simpa using h1) (h (inv a).toNat (by omega) h2)
theorem unsub_none {a : UInt8} (h : ∀ j : Nat, j < 256 → sub (UInt8.ofNat j) ≠ a) : False := by
  have := h (unsub a).toNat (unsub a).toNat_lt
  exact this (by rw [show UInt8.ofNat (unsub a).toNat = unsub a by simp, sub_unsub])
theorem unsub_of {a b : UInt8} (h : sub b = a) : b = unsub a := by rw [← h, unsub_sub]
theorem sub_eq (a : UInt8) : inv a ^^^ rl (inv a) 1 ^^^ rl (inv a) 2 ^^^ rl (inv a) 3 ^^^ rl (inv a) 4 ^^^ 99 = sub a := by
  rw [sub, aff]
  generalize inv a = y
  generalize rl y 1 = p, rl y 2 = q, rl y 3 = r, rl y 4 = s
  simp only [UInt8.xor_assoc]
  congr 1
  rw [← UInt8.xor_assoc r, ← UInt8.xor_assoc q, ← UInt8.xor_assoc p, UInt8.xor_comm _ 99]
theorem c_TimesR (a b : UInt8) (w : World) :
    Cs Try.prog 36 [(vu8 a), (vu8 b)].toArray w (fun v w1 => v = (vu8 (tm a b)) ∧ Chg w w1 []) := by
  refine Cs.of (n := 43) (args := [(vu8 a), (vu8 b)]) Try.func36 rfl rfl rfl ?_
  have h_0 := HP.init w
  refine WP.seq ?_
  refine WP.reg ?_
  refine WL.q (Wn.no rfl) rfl rfl (R.assign (v := (vu8 0)) rfl) ?_
  refine WL.nil ?_
  refine thn_n ?_
  refine WP.seq ?_
  refine WP.reg ?_
  refine WL.q (Wn.no rfl) rfl rfl (R.assign (v := (vi 0)) rfl) ?_
  refine WL.nil ?_
  refine thn_n ?_
  refine WP.seq ?_
  refine WP.seq ?_
  refine WP.reg ?_
  refine WL.q (Wn.no rfl) rfl rfl (R.assign (v := (vi 0)) rfl) ?_
  refine WL.nil ?_
  refine thn_n ?_
  refine WP.block ?_
  refine WP.loopG (G := Nat) [5, 6, 8, 9, 10, 11, 12, 13, 14, 15, 16, 17, 18, 19, 20, 21, 22, 23, 24] (fun k => [(5, (vi ((rtA a b k : Nat) : Int))), (6, (vi ((k : Nat) : Int)))]) (fun k m w1 => HP w w1 [] ∧ (k ≤ 8) ∧ m = 8 - k) ⟨0, _, ⟨rfl, rfl, trivial⟩, h_0, (by omega), rfl⟩ ?_
  rintro k m_3 J_4 w_1 ⟨h_2, hk, rfl⟩
  have ek : (UInt64.ofNat k).toNat = k := u64n (by omega)
  refine WP.seq ?_
  refine WP.seq ?_
  refine WP.reg ?_
  refine WL.q (Wn.no rfl) rfl rfl (R.move (v := (vi ((k : Nat) : Int))) rfl) ?_
  refine WL.q (Wn.no rfl) rfl rfl (R.bin (v := (.bool (decide ((((k : Nat) : Int) : Int) < 8)))) rfl rfl (bi_lss (r := decide ((((k : Nat) : Int) : Int) < 8)) rfl)) ?_
  refine WL.nil ?_
  refine thn_n ?_
  refine WP.cond (b := decide ((((k : Nat) : Int) : Int) < 8)) rfl (fun c_5 => ?_) (fun c_5 => ?_)
  · have p_6 := of_decide_eq_true c_5
    refine WP.skip ?_
    refine thn_n ?_
    refine WP.seq ?_
    refine WP.block ?_
    refine WP.seq ?_
    refine WP.reg ?_
    refine WL.q (Wn.no rfl) rfl rfl (R.move (v := (vu8 b)) rfl) ?_
    refine WL.q (Wn.no rfl) rfl rfl (R.move (v := (vi ((k : Nat) : Int))) rfl) ?_
    refine WL.q (Wn.no rfl) rfl rfl (R.conv (b := ((UInt64.ofNat k) : UInt64).toNat) rfl Try.underlying3 Try.underlying81 (w64_nat k)) ?_
    refine WL.q (Wn.no rfl) rfl rfl (R.binR (v := vu8 (shr8 b ((UInt64.ofNat k).toNat))) rfl rfl (run_shr8 _ _ _ b _ ((UInt64.ofNat k).toNat))) ?_
    refine WL.q (Wn.no rfl) rfl rfl (R.bin (v := (vu8 ((shr8 b ((UInt64.ofNat k).toNat)) % 2))) rfl rfl (b8_rem (shr8 b ((UInt64.ofNat k).toNat)) 2 (by decide))) ?_
    refine WL.q (Wn.no rfl) rfl rfl (R.bin (v := (.bool (decide (((shr8 b ((UInt64.ofNat k).toNat)) % 2 : UInt8) = 1)))) rfl rfl (b8_eql ((shr8 b ((UInt64.ofNat k).toNat)) % 2) 1 (r := decide (((shr8 b ((UInt64.ofNat k).toNat)) % 2 : UInt8) = 1)) rfl)) ?_
    refine WL.nil ?_
    refine thn_n ?_
    refine WP.cond (b := decide (((shr8 b ((UInt64.ofNat k).toNat)) % 2 : UInt8) = 1)) rfl (fun c_7 => ?_) (fun c_7 => ?_)
    · have p_8 := of_decide_eq_true c_7
      refine WP.reg ?_
      refine WL.q (Wn.no rfl) rfl rfl (R.move (v := (vi ((rtA a b k : Nat) : Int))) rfl) ?_
      refine WL.q (Wn.no rfl) rfl rfl (R.move (v := (vu8 a)) rfl) ?_
      refine WL.q (Wn.no rfl) rfl rfl (R.conv (b := ((a.toNat : Nat) : Int)) rfl Try.underlying5 Try.underlying3 (i64_u8 a)) ?_
      refine WL.q (Wn.no rfl) rfl rfl (R.move (v := (vi ((k : Nat) : Int))) rfl) ?_
      refine WL.q (Wn.no rfl) rfl rfl (R.conv (b := ((UInt64.ofNat k) : UInt64).toNat) rfl Try.underlying3 Try.underlying81 (w64_nat k)) ?_
      refine WL.q (Wn.no rfl) rfl rfl (R.binR (v := (vi ((a.toNat * 2 ^ ((UInt64.ofNat k).toNat) : Nat) : Int))) rfl rfl (run_shlN _ _ _ a.toNat _ ((UInt64.ofNat k).toNat) (by rw [ek]; omega) (by rw [ek]; exact Nat.lt_trans (shl_lt a (by omega)) (by decide)))) ?_
      refine WL.q (Wn.no rfl) rfl rfl (R.bin (v := (vi (((rtA a b k) ^^^ (a.toNat * 2 ^ ((UInt64.ofNat k).toNat)) : Nat) : Int))) rfl rfl (bi_xorN (m := rtA a b k) (n := a.toNat * 2 ^ ((UInt64.ofNat k).toNat)) (Nat.lt_trans (rtA_lt a b k (by omega)) (by decide)) (by rw [ek]; exact Nat.lt_trans (shl_lt a (by omega)) (by decide)))) ?_
      refine WL.q (Wn.no rfl) rfl rfl (R.assign (v := (vi (((rtA a b k) ^^^ (a.toNat * 2 ^ ((UInt64.ofNat k).toNat)) : Nat) : Int))) rfl) ?_
      refine WL.nil ?_
      refine inb_n ?_
      refine thn_n ?_
      refine WP.reg ?_
      refine WL.q (Wn.no rfl) rfl rfl (R.move (v := (vi ((k : Nat) : Int))) rfl) ?_
      refine WL.q (Wn.no rfl) rfl rfl (R.bin (v := (vi ((k + 1 : Nat) : Int))) rfl rfl (bi_add (c := ((k + 1 : Nat) : Int)) (by omega) (by omega))) ?_
      refine WL.q (Wn.no rfl) rfl rfl (R.assign (v := (vi ((k + 1 : Nat) : Int))) rfl) ?_
      refine WL.nil ?_
      refine thn_n ?_
      rw [ek] at p_8
      have en : (rtA a b k) ^^^ (a.toNat * 2 ^ ((UInt64.ofNat k).toNat)) = rtA a b (k + 1) := by rw [ek, rtA, if_pos p_8]
      exact ⟨k + 1, _, (by omega), (Ag.upd rfl (Ag.upd rfl (Ag.upd rfl (Ag.upd rfl (Ag.upd rfl (Ag.upd rfl (Ag.upd rfl (Ag.upd rfl (Ag.upd rfl (Ag.upd rfl (Ag.upd rfl (Ag.upd rfl (Ag.upd rfl (Ag.upd rfl (Ag.upd rfl (Ag.upd rfl (Ag.upd rfl (Ag.upd rfl (Ag.upd rfl (Ag.updL rfl (Ag.mix _ _ _))))))))))))))))))))), ⟨by rw [← en]; rfl, rfl, trivial⟩, h_2, (by omega), rfl⟩
    · have p_9 := of_decide_eq_false c_7
      refine WP.skip ?_
      refine inb_n ?_
      refine thn_n ?_
      refine WP.reg ?_
      refine WL.q (Wn.no rfl) rfl rfl (R.move (v := (vi ((k : Nat) : Int))) rfl) ?_
      refine WL.q (Wn.no rfl) rfl rfl (R.bin (v := (vi ((k + 1 : Nat) : Int))) rfl rfl (bi_add (c := ((k + 1 : Nat) : Int)) (by omega) (by omega))) ?_
      refine WL.q (Wn.no rfl) rfl rfl (R.assign (v := (vi ((k + 1 : Nat) : Int))) rfl) ?_
      refine WL.nil ?_
      refine thn_n ?_
      rw [ek] at p_9
      have en : rtA a b k = rtA a b (k + 1) := by rw [rtA, if_neg p_9]
      exact ⟨k + 1, _, (by omega), (Ag.upd rfl (Ag.upd rfl (Ag.upd rfl (Ag.upd rfl (Ag.upd rfl (Ag.upd rfl (Ag.upd rfl (Ag.upd rfl (Ag.upd rfl (Ag.upd rfl (Ag.upd rfl (Ag.updL rfl (Ag.mix _ _ _))))))))))))), ⟨by rw [← en]; rfl, rfl, trivial⟩, h_2, (by omega), rfl⟩
  · have p_10 := of_decide_eq_false c_5
    refine WP.exit ?_
    refine thn_x ?_
    refine thn_x ?_
    refine inb_hit ?_
    refine thn_n ?_
    refine WP.seq ?_
    refine WP.seq ?_
    refine WP.reg ?_
    refine WL.q (Wn.no rfl) rfl rfl (R.assign (v := (vi 14)) rfl) ?_
    refine WL.nil ?_
    refine thn_n ?_
    refine WP.block ?_
    have hk8 : k = 8 := by omega
    subst hk8
    refine WP.loopG (G := Nat) [5, 7, 25, 26, 27, 28, 29, 30, 31, 32, 33, 34, 35, 36, 37, 38, 39, 40] (fun j => [(5, (vi ((rtB (rtA a b 8) j : Nat) : Int))), (7, (vi ((14 - j : Nat) : Int)))]) (fun j m w1 => HP w w1 [] ∧ (j ≤ 7) ∧ m = 7 - j) ⟨0, _, ⟨rfl, rfl, trivial⟩, h_2, (by omega), rfl⟩ ?_
    rintro j m_13 J_14 w_11 ⟨h_12, hj, rfl⟩
    have ek : (UInt64.ofNat (14 - j)).toNat = 14 - j := u64n (by omega)
    have ek2 : (UInt64.ofNat (14 - j - 8)).toNat = 14 - j - 8 := u64n (by omega)
    have hlt := rtB_lt (rtA_lt a b 8 (by omega)) j (by omega)
    refine WP.seq ?_
    refine WP.seq ?_
    refine WP.reg ?_
    refine WL.q (Wn.no rfl) rfl rfl (R.move (v := (vi ((14 - j : Nat) : Int))) rfl) ?_
    refine WL.q (Wn.no rfl) rfl rfl (R.bin (v := (.bool (decide ((((14 - j : Nat) : Int) : Int) ≥ 8)))) rfl rfl (bi_geq (r := decide ((((14 - j : Nat) : Int) : Int) ≥ 8)) rfl)) ?_
    refine WL.nil ?_
    refine thn_n ?_
    refine WP.cond (b := decide ((((14 - j : Nat) : Int) : Int) ≥ 8)) rfl (fun c_15 => ?_) (fun c_15 => ?_)
    · have p_16 := of_decide_eq_true c_15
      refine WP.skip ?_
      refine thn_n ?_
      refine WP.seq ?_
      refine WP.block ?_
      refine WP.seq ?_
      refine WP.reg ?_
      refine WL.q (Wn.no rfl) rfl rfl (R.move (v := (vi ((rtB (rtA a b 8) j : Nat) : Int))) rfl) ?_
      refine WL.q (Wn.no rfl) rfl rfl (R.move (v := (vi ((14 - j : Nat) : Int))) rfl) ?_
      refine WL.q (Wn.no rfl) rfl rfl (R.conv (b := ((UInt64.ofNat (14 - j)) : UInt64).toNat) rfl Try.underlying3 Try.underlying81 (w64_nat (14 - j))) ?_
      refine WL.q (Wn.no rfl) rfl rfl (R.binR (v := (vi (((rtB (rtA a b 8) j) / 2 ^ ((UInt64.ofNat (14 - j)).toNat) : Nat) : Int))) rfl rfl (run_shrN _ _ _ (rtB (rtA a b 8) j) _ ((UInt64.ofNat (14 - j)).toNat) (by rw [ek]; omega))) ?_
      refine WL.q (Wn.no rfl) rfl rfl (R.bin (v := (vi ((((rtB (rtA a b 8) j) / 2 ^ ((UInt64.ofNat (14 - j)).toNat)) % 2 : Nat) : Int))) rfl rfl (bi_rem (c := ((((rtB (rtA a b 8) j) / 2 ^ ((UInt64.ofNat (14 - j)).toNat)) % 2 : Nat) : Int)) (Int.natCast_nonneg _) (by omega) (by first | omega | rfl))) ?_
      refine WL.q (Wn.no rfl) rfl rfl (R.bin (v := (.bool (decide ((((((rtB (rtA a b 8) j) / 2 ^ ((UInt64.ofNat (14 - j)).toNat)) % 2 : Nat) : Int) : Int) = 1)))) rfl rfl (bi_eql (r := decide ((((((rtB (rtA a b 8) j) / 2 ^ ((UInt64.ofNat (14 - j)).toNat)) % 2 : Nat) : Int) : Int) = 1)) rfl)) ?_
      refine WL.nil ?_
      refine thn_n ?_
      refine WP.cond (b := decide ((((((rtB (rtA a b 8) j) / 2 ^ ((UInt64.ofNat (14 - j)).toNat)) % 2 : Nat) : Int) : Int) = 1)) rfl (fun c_17 => ?_) (fun c_17 => ?_)
      · have p_18 := of_decide_eq_true c_17
        refine WP.reg ?_
        refine WL.q (Wn.no rfl) rfl rfl (R.move (v := (vi ((rtB (rtA a b 8) j : Nat) : Int))) rfl) ?_
        refine WL.q (Wn.no rfl) rfl rfl (R.move (v := (vi ((14 - j : Nat) : Int))) rfl) ?_
        refine WL.q (Wn.no rfl) rfl rfl (R.bin (v := (vi ((14 - j - 8 : Nat) : Int))) rfl rfl (bi_sub (c := ((14 - j - 8 : Nat) : Int)) (by omega) (by omega))) ?_
        refine WL.q (Wn.no rfl) rfl rfl (R.conv (b := ((UInt64.ofNat (14 - j - 8)) : UInt64).toNat) rfl Try.underlying3 Try.underlying81 (w64_nat (14 - j - 8))) ?_
        refine WL.q (Wn.no rfl) rfl rfl (R.binR (v := (vi ((283 * 2 ^ ((UInt64.ofNat (14 - j - 8)).toNat) : Nat) : Int))) rfl rfl (run_shlN _ _ _ 283 _ ((UInt64.ofNat (14 - j - 8)).toNat) (by rw [ek2]; omega) (by rw [ek2]; exact Nat.lt_trans (shl283 (by omega)) (by decide)))) ?_
        refine WL.q (Wn.no rfl) rfl rfl (R.bin (v := (vi (((rtB (rtA a b 8) j) ^^^ (283 * 2 ^ ((UInt64.ofNat (14 - j - 8)).toNat)) : Nat) : Int))) rfl rfl (bi_xorN (m := rtB (rtA a b 8) j) (n := 283 * 2 ^ ((UInt64.ofNat (14 - j - 8)).toNat)) (Nat.lt_trans hlt (by decide)) (by rw [ek2]; exact Nat.lt_trans (shl283 (by omega)) (by decide)))) ?_
        refine WL.q (Wn.no rfl) rfl rfl (R.assign (v := (vi (((rtB (rtA a b 8) j) ^^^ (283 * 2 ^ ((UInt64.ofNat (14 - j - 8)).toNat)) : Nat) : Int))) rfl) ?_
        refine WL.nil ?_
        refine inb_n ?_
        refine thn_n ?_
        refine WP.reg ?_
        refine WL.q (Wn.no rfl) rfl rfl (R.move (v := (vi ((14 - j : Nat) : Int))) rfl) ?_
        refine WL.q (Wn.no rfl) rfl rfl (R.bin (v := (vi ((14 - j - 1 : Nat) : Int))) rfl rfl (bi_sub (c := ((14 - j - 1 : Nat) : Int)) (by omega) (by omega))) ?_
        refine WL.q (Wn.no rfl) rfl rfl (R.assign (v := (vi ((14 - j - 1 : Nat) : Int))) rfl) ?_
        refine WL.nil ?_
        refine thn_n ?_
        rw [ek] at p_18
        have en : (rtB (rtA a b 8) j) ^^^ (283 * 2 ^ ((UInt64.ofNat (14 - j - 8)).toNat)) = rtB (rtA a b 8) (j + 1) := by rw [ek2, rtB, if_pos (by exact_mod_cast p_18)]
        exact ⟨j + 1, _, (by omega), (Ag.upd rfl (Ag.upd rfl (Ag.upd rfl (Ag.upd rfl (Ag.upd rfl (Ag.upd rfl (Ag.upd rfl (Ag.upd rfl (Ag.upd rfl (Ag.upd rfl (Ag.upd rfl (Ag.upd rfl (Ag.upd rfl (Ag.upd rfl (Ag.upd rfl (Ag.upd rfl (Ag.upd rfl (Ag.upd rfl (Ag.updL rfl (Ag.mix _ _ _)))))))))))))))))))), ⟨by rw [← en]; rfl, congrArg vi (by omega), trivial⟩, h_12, (by omega), rfl⟩
      · have p_19 := of_decide_eq_false c_17
        refine WP.skip ?_
        refine inb_n ?_
        refine thn_n ?_
        refine WP.reg ?_
        refine WL.q (Wn.no rfl) rfl rfl (R.move (v := (vi ((14 - j : Nat) : Int))) rfl) ?_
        refine WL.q (Wn.no rfl) rfl rfl (R.bin (v := (vi ((14 - j - 1 : Nat) : Int))) rfl rfl (bi_sub (c := ((14 - j - 1 : Nat) : Int)) (by omega) (by omega))) ?_
        refine WL.q (Wn.no rfl) rfl rfl (R.assign (v := (vi ((14 - j - 1 : Nat) : Int))) rfl) ?_
        refine WL.nil ?_
        refine thn_n ?_
        rw [ek] at p_19
        have en : rtB (rtA a b 8) j = rtB (rtA a b 8) (j + 1) := by rw [rtB, if_neg (fun e => p_19 (by exact_mod_cast e))]
        exact ⟨j + 1, _, (by omega), (Ag.upd rfl (Ag.upd rfl (Ag.upd rfl (Ag.upd rfl (Ag.upd rfl (Ag.upd rfl (Ag.upd rfl (Ag.upd rfl (Ag.upd rfl (Ag.upd rfl (Ag.upd rfl (Ag.updL rfl (Ag.mix _ _ _))))))))))))), ⟨by rw [← en]; rfl, congrArg vi (by omega), trivial⟩, h_12, (by omega), rfl⟩
    · have p_20 := of_decide_eq_false c_15
      refine WP.exit ?_
      refine thn_x ?_
      refine thn_x ?_
      refine inb_hit ?_
      refine thn_n ?_
      refine WP.seq ?_
      refine WP.reg ?_
      refine WL.q (Wn.no rfl) rfl rfl (R.move (v := (vi ((rtB (rtA a b 8) j : Nat) : Int))) rfl) ?_
      refine WL.q (Wn.no rfl) rfl rfl (R.conv (b := ((UInt8.ofNat (rtB (rtA a b 8) j)) : UInt8).toNat) rfl Try.underlying3 Try.underlying5 (w8_nat (rtB (rtA a b 8) j))) ?_
      refine WL.q (Wn.no rfl) rfl rfl (R.assign (v := (vu8 (UInt8.ofNat (rtB (rtA a b 8) j)))) rfl) ?_
      refine WL.nil ?_
      refine thn_n ?_
      refine WP.ret ?_
      refine ret_of Try.results36 (RV.tmp (v := (vu8 (UInt8.ofNat (rtB (rtA a b 8) j)))) rfl RV.nil) ?_
      have hj7 : j = 7 := by omega
      subst hj7
      exact ⟨congrArg vu8 (rt_tm a b), h_12.chgS⟩

theorem c_InverseR (a : UInt8) (w : World) :
    Cs Try.prog 38 [(vu8 a)].toArray w (fun v w1 => v = (vu8 (inv a)) ∧ Chg w w1 []) := by
  refine Cs.of (n := 15) (args := [(vu8 a)]) Try.func38 rfl rfl rfl ?_
  have h_0 := HP.init w
  refine WP.seq ?_
  refine WP.reg ?_
  refine WL.q (Wn.no rfl) rfl rfl (R.assign (v := (vu8 0)) rfl) ?_
  refine WL.nil ?_
  refine thn_n ?_
  refine WP.seq ?_
  refine WP.seq ?_
  refine WP.reg ?_
  refine WL.q (Wn.no rfl) rfl rfl (R.assign (v := (vi 1)) rfl) ?_
  refine WL.nil ?_
  refine thn_n ?_
  refine WP.block ?_
  refine WP.loopG (G := Nat) [2, 3, 4, 5, 6, 7, 8, 9, 10, 11, 12, 13, 14] (fun b => [(3, (vi ((b : Nat) : Int)))]) (fun b m w1 => HP w w1 [] ∧ (1 ≤ b) ∧ (b ≤ 256) ∧ (∀ j : Nat, 1 ≤ j → j < b → tm a (UInt8.ofNat j) ≠ 1) ∧ m = 256 - b) ⟨1, _, ⟨rfl, trivial⟩, h_0, (by omega), (by omega), (fun j h1 h2 => by omega), rfl⟩ ?_
  rintro b m_3 J_4 w_1 ⟨h_2, hb1, hb2, hno, rfl⟩
  refine WP.seq ?_
  refine WP.seq ?_
  refine WP.reg ?_
  refine WL.q (Wn.no rfl) rfl rfl (R.move (v := (vi ((b : Nat) : Int))) rfl) ?_
  refine WL.q (Wn.no rfl) rfl rfl (R.bin (v := (.bool (decide ((((b : Nat) : Int) : Int) < 256)))) rfl rfl (bi_lss (r := decide ((((b : Nat) : Int) : Int) < 256)) rfl)) ?_
  refine WL.nil ?_
  refine thn_n ?_
  refine WP.cond (b := decide ((((b : Nat) : Int) : Int) < 256)) rfl (fun c_5 => ?_) (fun c_5 => ?_)
  · have p_6 := of_decide_eq_true c_5
    refine WP.skip ?_
    refine thn_n ?_
    refine WP.seq ?_
    refine WP.block ?_
    refine WP.seq ?_
    refine WP.reg ?_
    refine WL.q (Wn.no rfl) rfl rfl (R.move (v := (vu8 a)) rfl) ?_
    refine WL.q (Wn.no rfl) rfl rfl (R.move (v := (vi ((b : Nat) : Int))) rfl) ?_
    refine WL.q (Wn.no rfl) rfl rfl (R.conv (b := ((UInt8.ofNat b) : UInt8).toNat) rfl Try.underlying3 Try.underlying5 (w8_nat b)) ?_
    refine WL.call (al := [(vu8 a), (vu8 (UInt8.ofNat b))]) Try.call36 rfl rfl (c_TimesR a (UInt8.ofNat b) _ ) rfl ?_
    rintro _ w_8 ⟨rfl, hc_7⟩
    have h_9 := h_2.same hc_7
    refine WL.q (Wn.no rfl) rfl rfl (R.bin (v := (.bool (decide ((tm a (UInt8.ofNat b) : UInt8) = 1)))) rfl rfl (b8_eql (tm a (UInt8.ofNat b)) 1 (r := decide ((tm a (UInt8.ofNat b) : UInt8) = 1)) rfl)) ?_
    refine WL.nil ?_
    refine thn_n ?_
    refine WP.cond (b := decide ((tm a (UInt8.ofNat b) : UInt8) = 1)) rfl (fun c_10 => ?_) (fun c_10 => ?_)
    · have p_11 := of_decide_eq_true c_10
      refine WP.seq ?_
      refine WP.reg ?_
      refine WL.q (Wn.no rfl) rfl rfl (R.move (v := (vi ((b : Nat) : Int))) rfl) ?_
      refine WL.q (Wn.no rfl) rfl rfl (R.conv (b := ((UInt8.ofNat b) : UInt8).toNat) rfl Try.underlying3 Try.underlying5 (w8_nat b)) ?_
      refine WL.q (Wn.no rfl) rfl rfl (R.assign (v := (vu8 (UInt8.ofNat b))) rfl) ?_
      refine WL.nil ?_
      refine thn_n ?_
      refine WP.ret ?_
      refine inb_r ?_
      refine thn_r ?_
      refine thn_r ?_
      refine inb_r ?_
      refine thn_r ?_
      refine ret_of Try.results38 (RV.tmp (v := (vu8 (UInt8.ofNat b))) rfl RV.nil) ?_
      exact ⟨congrArg vu8 (inv_of p_11), h_9.chgS⟩
    · have p_12 := of_decide_eq_false c_10
      refine WP.skip ?_
      refine inb_n ?_
      refine thn_n ?_
      refine WP.reg ?_
      refine WL.q (Wn.no rfl) rfl rfl (R.move (v := (vi ((b : Nat) : Int))) rfl) ?_
      refine WL.q (Wn.no rfl) rfl rfl (R.bin (v := (vi ((b + 1 : Nat) : Int))) rfl rfl (bi_add (c := ((b + 1 : Nat) : Int)) (by omega) (by omega))) ?_
      refine WL.q (Wn.no rfl) rfl rfl (R.assign (v := (vi ((b + 1 : Nat) : Int))) rfl) ?_
      refine WL.nil ?_
      refine thn_n ?_
      refine ⟨b + 1, _, (by omega), (Ag.upd rfl (Ag.upd rfl (Ag.upd rfl (Ag.upd rfl (Ag.upd rfl (Ag.upd rfl (Ag.upd rfl (Ag.upd rfl (Ag.upd rfl (Ag.upd rfl (Ag.updL rfl (Ag.mix _ _ _)))))))))))), ⟨rfl, trivial⟩, h_9, (by omega), (by omega), (fun j h1 h2 => ?_), rfl⟩
      rcases Nat.lt_or_eq_of_le (Nat.le_of_lt_succ h2) with h | h
      · exact hno j h1 h
      · rw [h]; exact p_12
  · have p_13 := of_decide_eq_false c_5
    refine WP.exit ?_
    refine thn_x ?_
    refine thn_x ?_
    refine inb_hit ?_
    refine thn_n ?_
    refine WP.seq ?_
    refine WP.reg ?_
    refine WL.q (Wn.no rfl) rfl rfl (R.assign (v := (vu8 0)) rfl) ?_
    refine WL.nil ?_
    refine thn_n ?_
    refine WP.ret ?_
    refine ret_of Try.results38 (RV.tmp (v := (vu8 0)) rfl RV.nil) ?_
    have hb3 : b = 256 := by omega
    subst hb3
    exact ⟨congrArg vu8 (inv_none hno).symm, h_2.chgS⟩

theorem c_SubR (a : UInt8) (w : World) :
    Cs Try.prog 40 [(vu8 a)].toArray w (fun v w1 => v = (vu8 (sub a)) ∧ Chg w w1 []) := by
  refine Cs.of (n := 20) (args := [(vu8 a)]) Try.func40 rfl rfl rfl ?_
  have h_0 := HP.init w
  refine WP.seq ?_
  refine WP.reg ?_
  refine WL.q (Wn.no rfl) rfl rfl (R.assign (v := (vu8 0)) rfl) ?_
  refine WL.nil ?_
  refine thn_n ?_
  refine WP.seq ?_
  refine WP.reg ?_
  refine WL.q (Wn.no rfl) rfl rfl (R.move (v := (vu8 a)) rfl) ?_
  refine WL.call (al := [(vu8 a)]) Try.call38 rfl rfl (c_InverseR a _ ) rfl ?_
  rintro _ w_2 ⟨rfl, hc_1⟩
  have h_3 := h_0.same hc_1
  refine WL.q (Wn.no rfl) rfl rfl (R.assign (v := (vu8 (inv a))) rfl) ?_
  refine WL.nil ?_
  refine thn_n ?_
  refine WP.seq ?_
  refine WP.reg ?_
  refine WL.q (Wn.no rfl) rfl rfl (R.move (v := (vu8 (inv a))) rfl) ?_
  refine WL.q (Wn.no rfl) rfl rfl (R.move (v := (vu8 (inv a))) rfl) ?_
  refine WL.call (al := [(vu8 (inv a)), (vu64 1)]) Try.call75 rfl rfl (c_rol1 (inv a) _ ) rfl ?_
  rintro _ w_5 ⟨rfl, hc_4⟩
  have h_6 := h_3.same hc_4
  refine WL.q (Wn.no rfl) rfl rfl (R.bin (v := (vu8 ((inv a) ^^^ (rl (inv a) 1)))) rfl rfl (b8_xor (inv a) (rl (inv a) 1))) ?_
  refine WL.q (Wn.no rfl) rfl rfl (R.move (v := (vu8 (inv a))) rfl) ?_
  refine WL.call (al := [(vu8 (inv a)), (vu64 2)]) Try.call75 rfl rfl (c_rol2 (inv a) _ ) rfl ?_
  rintro _ w_8 ⟨rfl, hc_7⟩
  have h_9 := h_6.same hc_7
  refine WL.q (Wn.no rfl) rfl rfl (R.bin (v := (vu8 (((inv a) ^^^ (rl (inv a) 1)) ^^^ (rl (inv a) 2)))) rfl rfl (b8_xor ((inv a) ^^^ (rl (inv a) 1)) (rl (inv a) 2))) ?_
  refine WL.q (Wn.no rfl) rfl rfl (R.move (v := (vu8 (inv a))) rfl) ?_
  refine WL.call (al := [(vu8 (inv a)), (vu64 3)]) Try.call75 rfl rfl (c_rol3 (inv a) _ ) rfl ?_
  rintro _ w_11 ⟨rfl, hc_10⟩
  have h_12 := h_9.same hc_10
  refine WL.q (Wn.no rfl) rfl rfl (R.bin (v := (vu8 ((((inv a) ^^^ (rl (inv a) 1)) ^^^ (rl (inv a) 2)) ^^^ (rl (inv a) 3)))) rfl rfl (b8_xor (((inv a) ^^^ (rl (inv a) 1)) ^^^ (rl (inv a) 2)) (rl (inv a) 3))) ?_
  refine WL.q (Wn.no rfl) rfl rfl (R.move (v := (vu8 (inv a))) rfl) ?_
  refine WL.call (al := [(vu8 (inv a)), (vu64 4)]) Try.call75 rfl rfl (c_rol4 (inv a) _ ) rfl ?_
  rintro _ w_14 ⟨rfl, hc_13⟩
  have h_15 := h_12.same hc_13
  refine WL.q (Wn.no rfl) rfl rfl (R.bin (v := (vu8 (((((inv a) ^^^ (rl (inv a) 1)) ^^^ (rl (inv a) 2)) ^^^ (rl (inv a) 3)) ^^^ (rl (inv a) 4)))) rfl rfl (b8_xor ((((inv a) ^^^ (rl (inv a) 1)) ^^^ (rl (inv a) 2)) ^^^ (rl (inv a) 3)) (rl (inv a) 4))) ?_
  refine WL.q (Wn.no rfl) rfl rfl (R.bin (v := (vu8 ((((((inv a) ^^^ (rl (inv a) 1)) ^^^ (rl (inv a) 2)) ^^^ (rl (inv a) 3)) ^^^ (rl (inv a) 4)) ^^^ 99))) rfl rfl (b8_xor (((((inv a) ^^^ (rl (inv a) 1)) ^^^ (rl (inv a) 2)) ^^^ (rl (inv a) 3)) ^^^ (rl (inv a) 4)) 99)) ?_
  refine WL.q (Wn.no rfl) rfl rfl (R.assign (v := (vu8 ((((((inv a) ^^^ (rl (inv a) 1)) ^^^ (rl (inv a) 2)) ^^^ (rl (inv a) 3)) ^^^ (rl (inv a) 4)) ^^^ 99))) rfl) ?_
  refine WL.nil ?_
  refine thn_n ?_
  refine WP.ret ?_
  refine ret_of Try.results40 (RV.tmp (v := (vu8 ((((((inv a) ^^^ (rl (inv a) 1)) ^^^ (rl (inv a) 2)) ^^^ (rl (inv a) 3)) ^^^ (rl (inv a) 4)) ^^^ 99))) rfl RV.nil) ?_
  exact ⟨congrArg vu8 (sub_eq a), h_15.chgS⟩

theorem c_UnsubR (a : UInt8) (w : World) :
    Cs Try.prog 42 [(vu8 a)].toArray w (fun v w1 => v = (vu8 (unsub a)) ∧ Chg w w1 []) := by
  refine Cs.of (n := 15) (args := [(vu8 a)]) Try.func42 rfl rfl rfl ?_
  have h_0 := HP.init w
  refine WP.seq ?_
  refine WP.reg ?_
  refine WL.q (Wn.no rfl) rfl rfl (R.assign (v := (vu8 0)) rfl) ?_
  refine WL.nil ?_
  refine thn_n ?_
  refine WP.seq ?_
  refine WP.seq ?_
  refine WP.reg ?_
  refine WL.q (Wn.no rfl) rfl rfl (R.assign (v := (vi 0)) rfl) ?_
  refine WL.nil ?_
  refine thn_n ?_
  refine WP.block ?_
  refine WP.loopG (G := Nat) [2, 3, 4, 5, 6, 7, 8, 9, 10, 11, 12, 13, 14] (fun b => [(3, (vi ((b : Nat) : Int)))]) (fun b m w1 => HP w w1 [] ∧ (0 ≤ b) ∧ (b ≤ 256) ∧ (∀ j : Nat, 0 ≤ j → j < b → sub (UInt8.ofNat j) ≠ a) ∧ m = 256 - b) ⟨0, _, ⟨rfl, trivial⟩, h_0, (by omega), (by omega), (fun j h1 h2 => by omega), rfl⟩ ?_
  rintro b m_3 J_4 w_1 ⟨h_2, hb1, hb2, hno, rfl⟩
  refine WP.seq ?_
  refine WP.seq ?_
  refine WP.reg ?_
  refine WL.q (Wn.no rfl) rfl rfl (R.move (v := (vi ((b : Nat) : Int))) rfl) ?_
  refine WL.q (Wn.no rfl) rfl rfl (R.bin (v := (.bool (decide ((((b : Nat) : Int) : Int) < 256)))) rfl rfl (bi_lss (r := decide ((((b : Nat) : Int) : Int) < 256)) rfl)) ?_
  refine WL.nil ?_
  refine thn_n ?_
  refine WP.cond (b := decide ((((b : Nat) : Int) : Int) < 256)) rfl (fun c_5 => ?_) (fun c_5 => ?_)
  · have p_6 := of_decide_eq_true c_5
    refine WP.skip ?_
    refine thn_n ?_
    refine WP.seq ?_
    refine WP.block ?_
    refine WP.seq ?_
    refine WP.reg ?_
    refine WL.q (Wn.no rfl) rfl rfl (R.move (v := (vi ((b : Nat) : Int))) rfl) ?_
    refine WL.q (Wn.no rfl) rfl rfl (R.conv (b := ((UInt8.ofNat b) : UInt8).toNat) rfl Try.underlying3 Try.underlying5 (w8_nat b)) ?_
    refine WL.call (al := [(vu8 (UInt8.ofNat b))]) Try.call40 rfl rfl (c_SubR (UInt8.ofNat b) _ ) rfl ?_
    rintro _ w_8 ⟨rfl, hc_7⟩
    have h_9 := h_2.same hc_7
    refine WL.q (Wn.no rfl) rfl rfl (R.move (v := (vu8 a)) rfl) ?_
    refine WL.q (Wn.no rfl) rfl rfl (R.bin (v := (.bool (decide ((sub (UInt8.ofNat b) : UInt8) = a)))) rfl rfl (b8_eql (sub (UInt8.ofNat b)) a (r := decide ((sub (UInt8.ofNat b) : UInt8) = a)) rfl)) ?_
    refine WL.nil ?_
    refine thn_n ?_
    refine WP.cond (b := decide ((sub (UInt8.ofNat b) : UInt8) = a)) rfl (fun c_10 => ?_) (fun c_10 => ?_)
    · have p_11 := of_decide_eq_true c_10
      refine WP.seq ?_
      refine WP.reg ?_
      refine WL.q (Wn.no rfl) rfl rfl (R.move (v := (vi ((b : Nat) : Int))) rfl) ?_
      refine WL.q (Wn.no rfl) rfl rfl (R.conv (b := ((UInt8.ofNat b) : UInt8).toNat) rfl Try.underlying3 Try.underlying5 (w8_nat b)) ?_
      refine WL.q (Wn.no rfl) rfl rfl (R.assign (v := (vu8 (UInt8.ofNat b))) rfl) ?_
      refine WL.nil ?_
      refine thn_n ?_
      refine WP.ret ?_
      refine inb_r ?_
      refine thn_r ?_
      refine thn_r ?_
      refine inb_r ?_
      refine thn_r ?_
      refine ret_of Try.results42 (RV.tmp (v := (vu8 (UInt8.ofNat b))) rfl RV.nil) ?_
      exact ⟨congrArg vu8 (unsub_of p_11), h_9.chgS⟩
    · have p_12 := of_decide_eq_false c_10
      refine WP.skip ?_
      refine inb_n ?_
      refine thn_n ?_
      refine WP.reg ?_
      refine WL.q (Wn.no rfl) rfl rfl (R.move (v := (vi ((b : Nat) : Int))) rfl) ?_
      refine WL.q (Wn.no rfl) rfl rfl (R.bin (v := (vi ((b + 1 : Nat) : Int))) rfl rfl (bi_add (c := ((b + 1 : Nat) : Int)) (by omega) (by omega))) ?_
      refine WL.q (Wn.no rfl) rfl rfl (R.assign (v := (vi ((b + 1 : Nat) : Int))) rfl) ?_
      refine WL.nil ?_
      refine thn_n ?_
      refine ⟨b + 1, _, (by omega), (Ag.upd rfl (Ag.upd rfl (Ag.upd rfl (Ag.upd rfl (Ag.upd rfl (Ag.upd rfl (Ag.upd rfl (Ag.upd rfl (Ag.upd rfl (Ag.upd rfl (Ag.updL rfl (Ag.mix _ _ _)))))))))))), ⟨rfl, trivial⟩, h_9, (by omega), (by omega), (fun j h1 h2 => ?_), rfl⟩
      rcases Nat.lt_or_eq_of_le (Nat.le_of_lt_succ h2) with h | h
      · exact hno j h1 h
      · rw [h]; exact p_12
  · have p_13 := of_decide_eq_false c_5
    refine WP.exit ?_
    refine thn_x ?_
    refine thn_x ?_
    refine inb_hit ?_
    refine thn_n ?_
    refine WP.seq ?_
    refine WP.reg ?_
    refine WL.q (Wn.no rfl) rfl rfl (R.assign (v := (vu8 0)) rfl) ?_
    refine WL.nil ?_
    refine thn_n ?_
    refine WP.ret ?_
    refine ret_of Try.results42 (RV.tmp (v := (vu8 0)) rfl RV.nil) ?_
    have hb3 : b = 256 := by omega
    subst hb3
    exact (unsub_none fun j hj => hno j (by omega) hj).elim
end Go.Proofs.Ytcmgadjnammahaa
