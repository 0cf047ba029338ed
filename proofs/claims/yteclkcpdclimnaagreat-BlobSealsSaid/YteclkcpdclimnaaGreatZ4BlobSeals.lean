/- Rules for walks and contracts of the functions that the law reaches, one behind the other. Conditions: none beyond what each theorem states. -/
import Derived.Test.YteclkcpdclimnaaGreatZ3BlobSeals
set_option linter.unusedVariables false
set_option linter.unusedSimpArgs false
set_option linter.unusedSectionVars false
namespace Go.Proofs.YteclkcpdclimnaaGreat
open Go.Proofs.Tryz
open Go.Vc Go.Orc Go.Sh Go.RowKit
set_option maxRecDepth 20000
theorem pl192 : ∀ fs, Tryz.prog.underlying 192 = some (.struct fs) → Places Tryz.prog fs [(0, 176), (176, 256)] := by
 intro fs h w; rw [underlying192] at h; cases h; simp
open Go.Ax
theorem c_double (a : UInt8) (w : World) :
  Cs Tryz.prog 160 [(vu8 a)].toArray w (fun v w1 => v = (vu8 (dbl a)) ∧ Chg w w1 []) := by
 refine Cs.of (n := 9) (args := [(vu8 a)]) Tryz.func160 rfl rfl rfl ?_
 have h_0 := HP.init w
 refine WP.seq (WP.reg ?_)
 refine qA (vu8 0) rfl rfl ?_
 refine WL.nil (thn_n (WP.seq (WP.reg ?_)))
 refine qM (vu8 a) rfl rfl (qV rfl (R.binR (v := vu8 (shl8 a 1)) rfl rfl (run_shl8 _ _ _ a _ 1)) (qM (vu8 a) rfl rfl (qV rfl (R.binR (v := vu8 (shr8 a 7)) rfl rfl (run_shr8 _ _ _ a _ 7)) (qV rfl (R.bin rfl rfl (b8_mul (shr8 a 7) 27)) (qV rfl (R.bin rfl rfl (b8_xor (shl8 a 1) ((shr8 a 7) * 27))) (qA (vu8 ((shl8 a 1) ^^^ ((shr8 a 7) * 27))) rfl rfl ?_))))))
 refine WL.nil (thn_n (WP.ret ?_))
 refine ret_of results160 (RV.tmp (v := (vu8 ((shl8 a 1) ^^^ ((shr8 a 7) * 27)))) rfl RV.nil) ?_
 exact ⟨rfl, h_0.chgS⟩

theorem c_Times (a b : UInt8) (w : World) :
  Cs Tryz.prog 162 [(vu8 a), (vu8 b)].toArray w (fun v w1 => v = (vu8 (tm a b)) ∧ Chg w w1 []) := by
 refine Cs.of (n := 20) (args := [(vu8 a), (vu8 b)]) Tryz.func162 rfl rfl rfl ?_
 have h_0 := HP.init w
 refine WP.seq (WP.reg ?_)
 refine qA (vu8 0) rfl rfl ?_
 refine WL.nil (thn_n (WP.seq (WP.reg ?_)))
 refine qA (vu8 0) rfl rfl ?_
 refine WL.nil (thn_n (WP.seq (WP.seq (WP.reg ?_))))
 refine qM (vi 0) rfl rfl ?_
 refine WL.nil (thn_n (WP.block ?_))
 refine WP.loopG (G := Nat × UInt8 × UInt8 × UInt8) [0, 1, 5, 6, 7, 8, 9, 10, 11, 12, 13, 14, 15, 16, 17, 18] (fun (k, x, y, n) => [(0, (vu8 x)), (1, (vu8 y)), (5, (vu8 n)), (6, (vn k))]) (fun (k, x, y, n) m w1 => HP w w1 [] ∧ (k ≤ 8) ∧ (tmN (8 - k) x y n = tm a b) ∧ m = 8 - k) ⟨(0, a, b, 0), _, ⟨rfl, rfl, rfl, rfl, trivial⟩, h_0, Nat.zero_le _, rfl, rfl⟩ ?_
 rintro ⟨k, x, y, n⟩ m_3 J_4 w_1 ⟨h_2, hk, hi, rfl⟩
 refine WP.seq (WP.reg ?_)
 refine qV rfl (R.bin rfl rfl (bi_lss (r := decide ((((k : Nat) : Int) : Int) < 8)) rfl)) ?_
 refine WL.nil (thn_n (WP.seq ?_))
 refine WP.cond (b := decide ((((k : Nat) : Int) : Int) < 8)) rfl (fun c_5 => ?_) (fun c_5 => ?_)
 ·have p_6 := of_decide_eq_true c_5
  refine WP.skip (thn_n (WP.seq (WP.block (WP.seq (WP.reg ?_)))))
  refine qM (vu8 n) rfl rfl (qM (vu8 y) rfl rfl (qV rfl (R.bin rfl rfl (b8_and y 1)) (qM (vu8 x) rfl rfl (qV rfl (R.bin rfl rfl (b8_mul (y &&& 1) x)) (qV rfl (R.bin rfl rfl (b8_xor n ((y &&& 1) * x))) (qA (vu8 (n ^^^ ((y &&& 1) * x))) rfl rfl ?_))))))
  refine WL.nil (thn_n (WP.reg ?_))
  refine qM (vu8 x) rfl rfl ?_
  refine WL.call Tryz.call160 rfl rfl (c_double x _ ) rfl ?_
  rintro _ w_8 ⟨rfl, hc_7⟩
  have h_9 := h_2.same hc_7
  refine qM (vu8 y) rfl rfl (qV rfl (R.binR (v := vu8 (shr8 y 1)) rfl rfl (run_shr8 _ _ _ y _ 1)) (qA (vu8 (dbl x)) rfl rfl (qA (vu8 (shr8 y 1)) rfl rfl ?_)))
  refine WL.nil (inb_n (thn_n (WP.reg ?_)))
  refine qV rfl (R.bin rfl rfl (bi_add (c := ((k + 1 : Nat) : Int)) (by omega) (by omega))) (qM (vn (k + 1)) rfl rfl ?_)
  refine WL.nil (thn_n ?_)
  exact ⟨(k + 1, dbl x, shr8 y 1, n ^^^ ((y &&& 1) * x)), _, (by omega), (U4 rfl rfl rfl rfl (U4 rfl rfl rfl rfl (U4 rfl rfl rfl rfl (U4 rfl rfl rfl rfl (Ag.updL rfl (Ag.mix _ _ _)))))), ⟨rfl, rfl, rfl, rfl, trivial⟩, h_9, (by omega), (by rw [← hi, show 8 - k = (8 - (k + 1)) + 1 by omega]; rfl), rfl⟩
 ·have p_10 := of_decide_eq_false c_5
  refine WP.exit (thn_x (thn_x (inb_hit (thn_n (WP.seq (WP.reg ?_))))))
  refine qM (vu8 n) rfl rfl (qA (vu8 n) rfl rfl ?_)
  refine WL.nil (thn_n (WP.ret ?_))
  refine ret_of results162 (RV.tmp (v := (vu8 n)) rfl RV.nil) ?_
  have hk2 : k = 8 := by omega
  subst hk2
  exact ⟨congrArg vu8 hi, h_2.chgS⟩

theorem c_Inverse (a : UInt8) (w : World) :
  Cs Tryz.prog 158 [(vu8 a)].toArray w (fun v w1 => v = (vu8 (inv a)) ∧ Chg w w1 []) := by
 refine Cs.of (n := 14) (args := [(vu8 a)]) Tryz.func158 rfl rfl rfl ?_
 have h_0 := HP.init w
 refine WP.seq (WP.reg ?_)
 refine qA (vu8 0) rfl rfl ?_
 refine WL.nil (thn_n (WP.seq (WP.reg ?_)))
 refine qA (vu8 1) rfl rfl ?_
 refine WL.nil (thn_n (WP.seq (WP.seq (WP.reg ?_))))
 refine qM (vi 0) rfl rfl ?_
 refine WL.nil (thn_n (WP.block ?_))
 refine WP.loopG (G := Nat × UInt8 × UInt8) [0, 3, 4, 5, 6, 7, 8, 9, 10, 11, 12] (fun (k, x, n) => [(0, (vu8 x)), (3, (vu8 n)), (4, (vn k))]) (fun (k, x, n) m w1 => HP w w1 [] ∧ (k ≤ 7) ∧ (invN (7 - k) x n = inv a) ∧ m = 7 - k) ⟨(0, a, 1), _, ⟨rfl, rfl, rfl, trivial⟩, h_0, Nat.zero_le _, rfl, rfl⟩ ?_
 rintro ⟨k, x, n⟩ m_3 J_4 w_1 ⟨h_2, hk, hi, rfl⟩
 refine WP.seq (WP.reg ?_)
 refine qV rfl (R.bin rfl rfl (bi_lss (r := decide ((((k : Nat) : Int) : Int) < 7)) rfl)) ?_
 refine WL.nil (thn_n (WP.seq ?_))
 refine WP.cond (b := decide ((((k : Nat) : Int) : Int) < 7)) rfl (fun c_5 => ?_) (fun c_5 => ?_)
 ·have p_6 := of_decide_eq_true c_5
  refine WP.skip (thn_n (WP.seq (WP.block (WP.seq (WP.reg ?_)))))
  refine qM (vu8 x) rfl rfl (qM (vu8 x) rfl rfl ?_)
  refine WL.call Tryz.call162 rfl rfl (c_Times x x _ ) rfl ?_
  rintro _ w_8 ⟨rfl, hc_7⟩
  have h_9 := h_2.same hc_7
  refine qA (vu8 (tm x x)) rfl rfl ?_
  refine WL.nil (thn_n (WP.reg ?_))
  refine qM (vu8 n) rfl rfl (qM (vu8 (tm x x)) rfl rfl ?_)
  refine WL.call Tryz.call162 rfl rfl (c_Times n (tm x x) _ ) rfl ?_
  rintro _ w_11 ⟨rfl, hc_10⟩
  have h_12 := h_9.same hc_10
  refine qA (vu8 (tm n (tm x x))) rfl rfl ?_
  refine WL.nil (inb_n (thn_n (WP.reg ?_)))
  refine qV rfl (R.bin rfl rfl (bi_add (c := ((k + 1 : Nat) : Int)) (by omega) (by omega))) (qM (vn (k + 1)) rfl rfl ?_)
  refine WL.nil (thn_n ?_)
  exact ⟨(k + 1, tm x x, tm n (tm x x)), _, (by omega), (Ag.upd rfl (U2 rfl rfl (U4 rfl rfl rfl rfl (U4 rfl rfl rfl rfl (Ag.updL rfl (Ag.mix _ _ _)))))), ⟨rfl, rfl, rfl, trivial⟩, h_12, (by omega), (by rw [← hi, show 7 - k = (7 - (k + 1)) + 1 by omega]; rfl), rfl⟩
 ·have p_13 := of_decide_eq_false c_5
  refine WP.exit (thn_x (thn_x (inb_hit (thn_n (WP.seq (WP.reg ?_))))))
  refine qM (vu8 n) rfl rfl (qA (vu8 n) rfl rfl ?_)
  refine WL.nil (thn_n (WP.ret ?_))
  refine ret_of results158 (RV.tmp (v := (vu8 n)) rfl RV.nil) ?_
  have hk2 : k = 7 := by omega
  subst hk2
  exact ⟨congrArg vu8 hi, h_2.chgS⟩

theorem c_rtb1 (a : UInt8) (w : World) :
  Cs Tryz.prog 159 [(vu8 a), (vi 1)].toArray w (fun v w1 => v = (vu8 (rl a 1)) ∧ Chg w w1 []) := by
 refine Cs.of (n := 17) (args := [(vu8 a), (vi 1)]) Tryz.func159 rfl rfl rfl ?_
 have h_0 := HP.init w
 refine WP.seq (WP.reg ?_)
 refine qA (vu8 0) rfl rfl ?_
 refine WL.nil (thn_n (WP.seq (WP.reg ?_)))
 refine qM (vi 1) rfl rfl (qV rfl (R.conv (b := (1 : UInt64).toNat) rfl underlying3 underlying168 (by decide)) (qV rfl (R.bin (v := (vu64 1)) rfl rfl ((b64_and 1 7).trans rfl)) (qA (vu64 1) rfl rfl ?_)))
 refine WL.nil (thn_n (WP.seq (WP.reg ?_)))
 refine qM (vu8 a) rfl rfl (qM (vu64 1) rfl rfl (qV rfl (R.binR (v := vu8 (shl8 a 1)) rfl rfl (run_shl8 _ _ _ a _ 1)) (qM (vu8 a) rfl rfl (qM (vu64 1) rfl rfl (qV rfl (R.bin (v := (vu64 7)) rfl rfl ((b64_sub 8 1).trans rfl)) (qV rfl (R.binR (v := vu8 (shr8 a 7)) rfl rfl (run_shr8 _ _ _ a _ 7)) (qV rfl (R.bin rfl rfl (b8_or (shl8 a 1) (shr8 a 7))) (qA (vu8 ((shl8 a 1) ||| (shr8 a 7))) rfl rfl ?_))))))))
 refine WL.nil (thn_n (WP.ret ?_))
 refine ret_of results159 (RV.tmp (v := (vu8 ((shl8 a 1) ||| (shr8 a 7)))) rfl RV.nil) ?_
 exact ⟨rfl, h_0.chgS⟩

theorem c_rtb2 (a : UInt8) (w : World) :
  Cs Tryz.prog 159 [(vu8 a), (vi 2)].toArray w (fun v w1 => v = (vu8 (rl a 2)) ∧ Chg w w1 []) := by
 refine Cs.of (n := 17) (args := [(vu8 a), (vi 2)]) Tryz.func159 rfl rfl rfl ?_
 have h_0 := HP.init w
 refine WP.seq (WP.reg ?_)
 refine qA (vu8 0) rfl rfl ?_
 refine WL.nil (thn_n (WP.seq (WP.reg ?_)))
 refine qM (vi 2) rfl rfl (qV rfl (R.conv (b := (2 : UInt64).toNat) rfl underlying3 underlying168 (by decide)) (qV rfl (R.bin (v := (vu64 2)) rfl rfl ((b64_and 2 7).trans rfl)) (qA (vu64 2) rfl rfl ?_)))
 refine WL.nil (thn_n (WP.seq (WP.reg ?_)))
 refine qM (vu8 a) rfl rfl (qM (vu64 2) rfl rfl (qV rfl (R.binR (v := vu8 (shl8 a 2)) rfl rfl (run_shl8 _ _ _ a _ 2)) (qM (vu8 a) rfl rfl (qM (vu64 2) rfl rfl (qV rfl (R.bin (v := (vu64 6)) rfl rfl ((b64_sub 8 2).trans rfl)) (qV rfl (R.binR (v := vu8 (shr8 a 6)) rfl rfl (run_shr8 _ _ _ a _ 6)) (qV rfl (R.bin rfl rfl (b8_or (shl8 a 2) (shr8 a 6))) (qA (vu8 ((shl8 a 2) ||| (shr8 a 6))) rfl rfl ?_))))))))
 refine WL.nil (thn_n (WP.ret ?_))
 refine ret_of results159 (RV.tmp (v := (vu8 ((shl8 a 2) ||| (shr8 a 6)))) rfl RV.nil) ?_
 exact ⟨rfl, h_0.chgS⟩

theorem c_rtb3 (a : UInt8) (w : World) :
  Cs Tryz.prog 159 [(vu8 a), (vi 3)].toArray w (fun v w1 => v = (vu8 (rl a 3)) ∧ Chg w w1 []) := by
 refine Cs.of (n := 17) (args := [(vu8 a), (vi 3)]) Tryz.func159 rfl rfl rfl ?_
 have h_0 := HP.init w
 refine WP.seq (WP.reg ?_)
 refine qA (vu8 0) rfl rfl ?_
 refine WL.nil (thn_n (WP.seq (WP.reg ?_)))
 refine qM (vi 3) rfl rfl (qV rfl (R.conv (b := (3 : UInt64).toNat) rfl underlying3 underlying168 (by decide)) (qV rfl (R.bin (v := (vu64 3)) rfl rfl ((b64_and 3 7).trans rfl)) (qA (vu64 3) rfl rfl ?_)))
 refine WL.nil (thn_n (WP.seq (WP.reg ?_)))
 refine qM (vu8 a) rfl rfl (qM (vu64 3) rfl rfl (qV rfl (R.binR (v := vu8 (shl8 a 3)) rfl rfl (run_shl8 _ _ _ a _ 3)) (qM (vu8 a) rfl rfl (qM (vu64 3) rfl rfl (qV rfl (R.bin (v := (vu64 5)) rfl rfl ((b64_sub 8 3).trans rfl)) (qV rfl (R.binR (v := vu8 (shr8 a 5)) rfl rfl (run_shr8 _ _ _ a _ 5)) (qV rfl (R.bin rfl rfl (b8_or (shl8 a 3) (shr8 a 5))) (qA (vu8 ((shl8 a 3) ||| (shr8 a 5))) rfl rfl ?_))))))))
 refine WL.nil (thn_n (WP.ret ?_))
 refine ret_of results159 (RV.tmp (v := (vu8 ((shl8 a 3) ||| (shr8 a 5)))) rfl RV.nil) ?_
 exact ⟨rfl, h_0.chgS⟩

theorem c_rtb4 (a : UInt8) (w : World) :
  Cs Tryz.prog 159 [(vu8 a), (vi 4)].toArray w (fun v w1 => v = (vu8 (rl a 4)) ∧ Chg w w1 []) := by
 refine Cs.of (n := 17) (args := [(vu8 a), (vi 4)]) Tryz.func159 rfl rfl rfl ?_
 have h_0 := HP.init w
 refine WP.seq (WP.reg ?_)
 refine qA (vu8 0) rfl rfl ?_
 refine WL.nil (thn_n (WP.seq (WP.reg ?_)))
 refine qM (vi 4) rfl rfl (qV rfl (R.conv (b := (4 : UInt64).toNat) rfl underlying3 underlying168 (by decide)) (qV rfl (R.bin (v := (vu64 4)) rfl rfl ((b64_and 4 7).trans rfl)) (qA (vu64 4) rfl rfl ?_)))
 refine WL.nil (thn_n (WP.seq (WP.reg ?_)))
 refine qM (vu8 a) rfl rfl (qM (vu64 4) rfl rfl (qV rfl (R.binR (v := vu8 (shl8 a 4)) rfl rfl (run_shl8 _ _ _ a _ 4)) (qM (vu8 a) rfl rfl (qM (vu64 4) rfl rfl (qV rfl (R.bin (v := (vu64 4)) rfl rfl ((b64_sub 8 4).trans rfl)) (qV rfl (R.binR (v := vu8 (shr8 a 4)) rfl rfl (run_shr8 _ _ _ a _ 4)) (qV rfl (R.bin rfl rfl (b8_or (shl8 a 4) (shr8 a 4))) (qA (vu8 ((shl8 a 4) ||| (shr8 a 4))) rfl rfl ?_))))))))
 refine WL.nil (thn_n (WP.ret ?_))
 refine ret_of results159 (RV.tmp (v := (vu8 ((shl8 a 4) ||| (shr8 a 4)))) rfl RV.nil) ?_
 exact ⟨rfl, h_0.chgS⟩

theorem c_rol1 (a : UInt8) (w : World) :
  Cs Tryz.prog 165 [(vu8 a), (vu64 1)].toArray w (fun v w1 => v = (vu8 (rl a 1)) ∧ Chg w w1 []) := by
 refine Cs.of (n := 13) (args := [(vu8 a), (vu64 1)]) Tryz.func165 rfl rfl rfl ?_
 have h_0 := HP.init w
 refine WP.seq (WP.reg ?_)
 refine qA (vu8 0) rfl rfl ?_
 refine WL.nil (thn_n (WP.seq (WP.reg ?_)))
 refine qM (vu8 a) rfl rfl (qM (vu64 1) rfl rfl (qV rfl (R.binR (v := vu8 (shl8 a 1)) rfl rfl (run_shl8 _ _ _ a _ 1)) (qM (vu8 a) rfl rfl (qM (vu64 1) rfl rfl (qV rfl (R.bin (v := (vu64 7)) rfl rfl ((b64_sub 8 1).trans rfl)) (qV rfl (R.binR (v := vu8 (shr8 a 7)) rfl rfl (run_shr8 _ _ _ a _ 7)) (qV rfl (R.bin rfl rfl (b8_or (shl8 a 1) (shr8 a 7))) (qA (vu8 ((shl8 a 1) ||| (shr8 a 7))) rfl rfl ?_))))))))
 refine WL.nil (thn_n (WP.ret ?_))
 refine ret_of results165 (RV.tmp (v := (vu8 ((shl8 a 1) ||| (shr8 a 7)))) rfl RV.nil) ?_
 exact ⟨rfl, h_0.chgS⟩

theorem c_rol2 (a : UInt8) (w : World) :
  Cs Tryz.prog 165 [(vu8 a), (vu64 2)].toArray w (fun v w1 => v = (vu8 (rl a 2)) ∧ Chg w w1 []) := by
 refine Cs.of (n := 13) (args := [(vu8 a), (vu64 2)]) Tryz.func165 rfl rfl rfl ?_
 have h_0 := HP.init w
 refine WP.seq (WP.reg ?_)
 refine qA (vu8 0) rfl rfl ?_
 refine WL.nil (thn_n (WP.seq (WP.reg ?_)))
 refine qM (vu8 a) rfl rfl (qM (vu64 2) rfl rfl (qV rfl (R.binR (v := vu8 (shl8 a 2)) rfl rfl (run_shl8 _ _ _ a _ 2)) (qM (vu8 a) rfl rfl (qM (vu64 2) rfl rfl (qV rfl (R.bin (v := (vu64 6)) rfl rfl ((b64_sub 8 2).trans rfl)) (qV rfl (R.binR (v := vu8 (shr8 a 6)) rfl rfl (run_shr8 _ _ _ a _ 6)) (qV rfl (R.bin rfl rfl (b8_or (shl8 a 2) (shr8 a 6))) (qA (vu8 ((shl8 a 2) ||| (shr8 a 6))) rfl rfl ?_))))))))
 refine WL.nil (thn_n (WP.ret ?_))
 refine ret_of results165 (RV.tmp (v := (vu8 ((shl8 a 2) ||| (shr8 a 6)))) rfl RV.nil) ?_
 exact ⟨rfl, h_0.chgS⟩

theorem c_rol3 (a : UInt8) (w : World) :
  Cs Tryz.prog 165 [(vu8 a), (vu64 3)].toArray w (fun v w1 => v = (vu8 (rl a 3)) ∧ Chg w w1 []) := by
 refine Cs.of (n := 13) (args := [(vu8 a), (vu64 3)]) Tryz.func165 rfl rfl rfl ?_
 have h_0 := HP.init w
 refine WP.seq (WP.reg ?_)
 refine qA (vu8 0) rfl rfl ?_
 refine WL.nil (thn_n (WP.seq (WP.reg ?_)))
 refine qM (vu8 a) rfl rfl (qM (vu64 3) rfl rfl (qV rfl (R.binR (v := vu8 (shl8 a 3)) rfl rfl (run_shl8 _ _ _ a _ 3)) (qM (vu8 a) rfl rfl (qM (vu64 3) rfl rfl (qV rfl (R.bin (v := (vu64 5)) rfl rfl ((b64_sub 8 3).trans rfl)) (qV rfl (R.binR (v := vu8 (shr8 a 5)) rfl rfl (run_shr8 _ _ _ a _ 5)) (qV rfl (R.bin rfl rfl (b8_or (shl8 a 3) (shr8 a 5))) (qA (vu8 ((shl8 a 3) ||| (shr8 a 5))) rfl rfl ?_))))))))
 refine WL.nil (thn_n (WP.ret ?_))
 refine ret_of results165 (RV.tmp (v := (vu8 ((shl8 a 3) ||| (shr8 a 5)))) rfl RV.nil) ?_
 exact ⟨rfl, h_0.chgS⟩

theorem c_rol4 (a : UInt8) (w : World) :
  Cs Tryz.prog 165 [(vu8 a), (vu64 4)].toArray w (fun v w1 => v = (vu8 (rl a 4)) ∧ Chg w w1 []) := by
 refine Cs.of (n := 13) (args := [(vu8 a), (vu64 4)]) Tryz.func165 rfl rfl rfl ?_
 have h_0 := HP.init w
 refine WP.seq (WP.reg ?_)
 refine qA (vu8 0) rfl rfl ?_
 refine WL.nil (thn_n (WP.seq (WP.reg ?_)))
 refine qM (vu8 a) rfl rfl (qM (vu64 4) rfl rfl (qV rfl (R.binR (v := vu8 (shl8 a 4)) rfl rfl (run_shl8 _ _ _ a _ 4)) (qM (vu8 a) rfl rfl (qM (vu64 4) rfl rfl (qV rfl (R.bin (v := (vu64 4)) rfl rfl ((b64_sub 8 4).trans rfl)) (qV rfl (R.binR (v := vu8 (shr8 a 4)) rfl rfl (run_shr8 _ _ _ a _ 4)) (qV rfl (R.bin rfl rfl (b8_or (shl8 a 4) (shr8 a 4))) (qA (vu8 ((shl8 a 4) ||| (shr8 a 4))) rfl rfl ?_))))))))
 refine WL.nil (thn_n (WP.ret ?_))
 refine ret_of results165 (RV.tmp (v := (vu8 ((shl8 a 4) ||| (shr8 a 4)))) rfl RV.nil) ?_
 exact ⟨rfl, h_0.chgS⟩

theorem c_Sub (a : UInt8) (w : World) :
  Cs Tryz.prog 138 [(vu8 a)].toArray w (fun v w1 => v = (vu8 (sub a)) ∧ Chg w w1 []) := by
 refine Cs.of (n := 21) (args := [(vu8 a)]) Tryz.func138 rfl rfl rfl ?_
 have h_0 := HP.init w
 refine WP.seq (WP.reg ?_)
 refine qA (vu8 0) rfl rfl ?_
 refine WL.nil (thn_n (WP.seq (WP.reg ?_)))
 refine qM (vu8 a) rfl rfl ?_
 refine WL.call Tryz.call158 rfl rfl (c_Inverse a _ ) rfl ?_
 rintro _ w_2 ⟨rfl, hc_1⟩
 have h_3 := h_0.same hc_1
 refine qA (vu8 (inv a)) rfl rfl ?_
 refine WL.nil (thn_n (WP.seq (WP.reg ?_)))
 refine qM (vu8 (inv a)) rfl rfl (qV rfl (R.bin rfl rfl (b8_xor (inv a) 99)) (qA (vu8 ((inv a) ^^^ 99)) rfl rfl ?_))
 refine WL.nil (thn_n (WP.seq (WP.seq (WP.reg ?_))))
 refine qM (vi 0) rfl rfl ?_
 refine WL.nil (thn_n (WP.block ?_))
 refine WP.loopU (WI.round ?_)
 refine WP.seq (WP.reg ?_)
 refine qV rfl (R.bin rfl rfl (bi_lss (r := true) (by decide))) ?_
 refine WL.nil (thn_n (WP.seq ?_))
 refine WP.condT rfl ?_
 refine WP.skip (thn_n (WP.seq (WP.block (WP.seq (WP.reg ?_)))))
 refine qM (vi 0) rfl rfl (qA (vi 0) rfl rfl ?_)
 refine WL.nil (thn_n (WP.reg ?_))
 refine qM (vu8 ((inv a) ^^^ 99)) rfl rfl (qM (vu8 (inv a)) rfl rfl (qM (vi 0) rfl rfl (qV rfl (R.bin rfl rfl (bi_add (c := 1) (by omega) (by omega))) ?_)))
 refine WL.call Tryz.call159 rfl rfl (c_rtb1 (inv a) _ ) rfl ?_
 rintro _ w_5 ⟨rfl, hc_4⟩
 have h_6 := h_3.same hc_4
 refine qV rfl (R.bin rfl rfl (b8_xor ((inv a) ^^^ 99) (rl (inv a) 1))) (qA (vu8 (((inv a) ^^^ 99) ^^^ (rl (inv a) 1))) rfl rfl ?_)
 refine WL.nil (inb_n (thn_n (WP.reg ?_)))
 refine qV rfl (R.bin rfl rfl (bi_add (c := 1) (by omega) (by omega))) (qM (vi 1) rfl rfl ?_)
 refine WL.nil (thn_n ?_)
 refine WI.round ?_
 refine WP.seq (WP.reg ?_)
 refine qV rfl (R.bin rfl rfl (bi_lss (r := true) (by decide))) ?_
 refine WL.nil (thn_n (WP.seq ?_))
 refine WP.condT rfl ?_
 refine WP.skip (thn_n (WP.seq (WP.block (WP.seq (WP.reg ?_)))))
 refine qM (vi 1) rfl rfl (qA (vi 1) rfl rfl ?_)
 refine WL.nil (thn_n (WP.reg ?_))
 refine qM (vu8 (((inv a) ^^^ 99) ^^^ (rl (inv a) 1))) rfl rfl (qM (vu8 (inv a)) rfl rfl (qM (vi 1) rfl rfl (qV rfl (R.bin rfl rfl (bi_add (c := 2) (by omega) (by omega))) ?_)))
 refine WL.call Tryz.call159 rfl rfl (c_rtb2 (inv a) _ ) rfl ?_
 rintro _ w_8 ⟨rfl, hc_7⟩
 have h_9 := h_6.same hc_7
 refine qV rfl (R.bin rfl rfl (b8_xor (((inv a) ^^^ 99) ^^^ (rl (inv a) 1)) (rl (inv a) 2))) (qA (vu8 ((((inv a) ^^^ 99) ^^^ (rl (inv a) 1)) ^^^ (rl (inv a) 2))) rfl rfl ?_)
 refine WL.nil (inb_n (thn_n (WP.reg ?_)))
 refine qV rfl (R.bin rfl rfl (bi_add (c := 2) (by omega) (by omega))) (qM (vi 2) rfl rfl ?_)
 refine WL.nil (thn_n ?_)
 refine WI.round ?_
 refine WP.seq (WP.reg ?_)
 refine qV rfl (R.bin rfl rfl (bi_lss (r := true) (by decide))) ?_
 refine WL.nil (thn_n (WP.seq ?_))
 refine WP.condT rfl ?_
 refine WP.skip (thn_n (WP.seq (WP.block (WP.seq (WP.reg ?_)))))
 refine qM (vi 2) rfl rfl (qA (vi 2) rfl rfl ?_)
 refine WL.nil (thn_n (WP.reg ?_))
 refine qM (vu8 ((((inv a) ^^^ 99) ^^^ (rl (inv a) 1)) ^^^ (rl (inv a) 2))) rfl rfl (qM (vu8 (inv a)) rfl rfl (qM (vi 2) rfl rfl (qV rfl (R.bin rfl rfl (bi_add (c := 3) (by omega) (by omega))) ?_)))
 refine WL.call Tryz.call159 rfl rfl (c_rtb3 (inv a) _ ) rfl ?_
 rintro _ w_11 ⟨rfl, hc_10⟩
 have h_12 := h_9.same hc_10
 refine qV rfl (R.bin rfl rfl (b8_xor ((((inv a) ^^^ 99) ^^^ (rl (inv a) 1)) ^^^ (rl (inv a) 2)) (rl (inv a) 3))) (qA (vu8 (((((inv a) ^^^ 99) ^^^ (rl (inv a) 1)) ^^^ (rl (inv a) 2)) ^^^ (rl (inv a) 3))) rfl rfl ?_)
 refine WL.nil (inb_n (thn_n (WP.reg ?_)))
 refine qV rfl (R.bin rfl rfl (bi_add (c := 3) (by omega) (by omega))) (qM (vi 3) rfl rfl ?_)
 refine WL.nil (thn_n ?_)
 refine WI.round ?_
 refine WP.seq (WP.reg ?_)
 refine qV rfl (R.bin rfl rfl (bi_lss (r := true) (by decide))) ?_
 refine WL.nil (thn_n (WP.seq ?_))
 refine WP.condT rfl ?_
 refine WP.skip (thn_n (WP.seq (WP.block (WP.seq (WP.reg ?_)))))
 refine qM (vi 3) rfl rfl (qA (vi 3) rfl rfl ?_)
 refine WL.nil (thn_n (WP.reg ?_))
 refine qM (vu8 (((((inv a) ^^^ 99) ^^^ (rl (inv a) 1)) ^^^ (rl (inv a) 2)) ^^^ (rl (inv a) 3))) rfl rfl (qM (vu8 (inv a)) rfl rfl (qM (vi 3) rfl rfl (qV rfl (R.bin rfl rfl (bi_add (c := 4) (by omega) (by omega))) ?_)))
 refine WL.call Tryz.call159 rfl rfl (c_rtb4 (inv a) _ ) rfl ?_
 rintro _ w_14 ⟨rfl, hc_13⟩
 have h_15 := h_12.same hc_13
 refine qV rfl (R.bin rfl rfl (b8_xor (((((inv a) ^^^ 99) ^^^ (rl (inv a) 1)) ^^^ (rl (inv a) 2)) ^^^ (rl (inv a) 3)) (rl (inv a) 4))) (qA (vu8 ((((((inv a) ^^^ 99) ^^^ (rl (inv a) 1)) ^^^ (rl (inv a) 2)) ^^^ (rl (inv a) 3)) ^^^ (rl (inv a) 4))) rfl rfl ?_)
 refine WL.nil (inb_n (thn_n (WP.reg ?_)))
 refine qV rfl (R.bin rfl rfl (bi_add (c := 4) (by omega) (by omega))) (qM (vi 4) rfl rfl ?_)
 refine WL.nil (thn_n ?_)
 refine WI.round ?_
 refine WP.seq (WP.reg ?_)
 refine qV rfl (R.bin rfl rfl (bi_lss (r := false) (by decide))) ?_
 refine WL.nil (thn_n (WP.seq ?_))
 refine WP.condF rfl ?_
 refine WP.exit (thn_x (thn_x (inb_hit (thn_n (WP.seq (WP.reg ?_))))))
 refine qM (vu8 ((((((inv a) ^^^ 99) ^^^ (rl (inv a) 1)) ^^^ (rl (inv a) 2)) ^^^ (rl (inv a) 3)) ^^^ (rl (inv a) 4))) rfl rfl (qA (vu8 ((((((inv a) ^^^ 99) ^^^ (rl (inv a) 1)) ^^^ (rl (inv a) 2)) ^^^ (rl (inv a) 3)) ^^^ (rl (inv a) 4))) rfl rfl ?_)
 refine WL.nil (thn_n (WP.ret ?_))
 refine ret_of results138 (RV.tmp (v := (vu8 ((((((inv a) ^^^ 99) ^^^ (rl (inv a) 1)) ^^^ (rl (inv a) 2)) ^^^ (rl (inv a) 3)) ^^^ (rl (inv a) 4)))) rfl RV.nil) ?_
 exact ⟨rfl, h_15.chgS⟩

theorem c_tableSub  (w : World) :
  Cs Tryz.prog 137 [(Value.func (Fn.func 138) [].toArray [].toArray)].toArray w (fun v w1 => v = (.agg ⟨(tabL sub).map vu8⟩) ∧ Chg w w1 []) := by
 refine Cs.of (n := 15) (args := [(Value.func (Fn.func 138) [].toArray [].toArray)]) Tryz.func137 rfl rfl rfl ?_
 have h_0 := HP.init w
 refine WP.seq (WP.reg ?_)
 refine WL.alloc (segs := [(256, (zB 256).map vu8)]) h_0 (zv typeInfo175 rfl) rfl (sC (s8 lr) sN) rfl (fun b_1 w_2 h_3 => ?_)
 refine WL.nil (thn_n (WP.seq (WP.seq (WP.reg ?_))))
 refine qM (vi 0) rfl rfl ?_
 refine WL.nil (thn_n (WP.block ?_))
 refine WP.loopG (G := Nat) [3, 4, 5, 6, 7, 8, 9, 10, 11, 12, 13] (fun k => [(4, (vn k))]) (fun k m w1 => HP w w1 [.blk b_1 .nw 175 [(256, (pre 256 (fun i => sub (UInt8.ofNat i)) k).map vu8)]] ∧ (k ≤ 256) ∧ m = 256 - k) ⟨0, _, ⟨rfl, trivial⟩, (by rw [pre_0]; exact h_3), (by omega), rfl⟩ ?_
 rintro k m_6 J_7 w_4 ⟨h_5, hk, rfl⟩
 refine WP.seq (WP.reg ?_)
 refine qV rfl (R.bin rfl rfl (bi_lss (r := decide ((((k : Nat) : Int) : Int) < 256)) rfl)) ?_
 refine WL.nil (thn_n (WP.seq ?_))
 refine WP.cond (b := decide ((((k : Nat) : Int) : Int) < 256)) rfl (fun c_8 => ?_) (fun c_8 => ?_)
 ·have p_9 := of_decide_eq_true c_8
  refine WP.skip (thn_n (WP.seq (WP.block (WP.seq (WP.reg ?_)))))
  refine qM (vn k) rfl rfl (qA (vn k) rfl rfl ?_)
  refine WL.nil (thn_n (WP.reg ?_))
  refine qM (vn k) rfl rfl (qM (Value.func (Fn.func 138) [].toArray [].toArray) rfl rfl (qM (vn k) rfl rfl (qV rfl (R.conv (b := ((UInt8.ofNat k) : UInt8).toNat) rfl underlying3 underlying5 (w8_nat k)) ?_)))
  refine WL.call Tryz.call138 rfl rfl (c_Sub (UInt8.ofNat k) _ ) rfl ?_
  rintro _ w_11 ⟨rfl, hc_10⟩
  have h_12 := h_5.same hc_10
  refine qV rfl (R.indexA (b := b_1) (off := 0) (off' := (0 + k)) (i := k) rfl rfl rfl (by omega) underlying175 sizeOf5 (by rw [Nat.mul_one])) ?_
  refine WL.storeE (b := b_1) (off := (0 + k)) (i := k) (v := (vu8 (sub (UInt8.ofNat k)))) (cs' := ((pre 256 (fun i => sub (UInt8.ofNat i)) k).set k (sub (UInt8.ofNat k))).map vu8) h_12 rfl rfl sizeOf5 rfl At.h (by decide) Sg.h rfl (lt_len (K := 256) (len_map (pre_len hk)) (by omega)) (set_u8 _ _ _) (fun w_13 h_14 => ?_)
  refine WL.nil (inb_n (thn_n (WP.reg ?_)))
  refine qV rfl (R.bin rfl rfl (bi_add (c := ((k + 1 : Nat) : Int)) (by omega) (by omega))) (qM (vn (k + 1)) rfl rfl ?_)
  refine WL.nil (thn_n ?_)
  rw [pre_set (by omega) rfl] at h_14
  exact ⟨k + 1, _, (by omega), (Ag.upd rfl (U2 rfl rfl (U4 rfl rfl rfl rfl (U4 rfl rfl rfl rfl (Ag.updL rfl (Ag.mix _ _ _)))))), ⟨rfl, trivial⟩, h_14, (by omega), rfl⟩
 ·have p_15 := of_decide_eq_false c_8
  refine WP.exit (thn_x (thn_x (inb_hit (thn_n (WP.seq (WP.reg ?_))))))
  refine qV rfl (R.loadA [] [(256, (pre 256 (fun i => sub (UInt8.ofNat i)) k).map vu8)] [] (cs := (pre 256 (fun i => sub (UInt8.ofNat i)) k).map vu8) rfl isAgg175 sizeOf175 (h_5.ok _ M0) rfl rfl rfl rfl) ?_
  refine WL.storeA [] [(256, (pre 256 (fun i => sub (UInt8.ofNat i)) k).map vu8)] [(256, (pre 256 (fun i => sub (UInt8.ofNat i)) k).map vu8)] [] h_5 rfl rfl sizeOf175 At.h (by decide) rfl rfl rfl rfl rfl rfl (sC (s8 (pre_len hk)) sN) (fun w_16 h_17 => ?_)
  refine WL.nil (thn_n (WP.ret ?_))
  refine ret_of results137 (RV.cell rfl (h_17.loadA (cs := (pre 256 (fun i => sub (UInt8.ofNat i)) k).map vu8) isAgg175 sizeOf175 M0 rfl rfl) RV.nil) ?_
  have hk2 : k = 256 := by omega
  subst hk2
  exact ⟨by rw [pre_all]; rfl, h_17.chgS⟩

theorem c_with (s k : List UInt8) (hs : s.length = 16) (hk : k.length = 16) (w : World) :
  Cs Tryz.prog 140 [(.agg ⟨s.map vu8⟩), (.agg ⟨k.map vu8⟩)].toArray w (fun v w1 => v = (.agg ⟨(xorL s k).map vu8⟩) ∧ Chg w w1 []) := by
 refine Cs.of (n := 19) (args := [(.agg ⟨s.map vu8⟩), (.agg ⟨k.map vu8⟩)]) Tryz.func140 rfl rfl rfl ?_
 have h_0 := HP.init w
 refine WP.seq (WP.reg ?_)
 refine WL.box (segs := [(16, s.map vu8)]) h_0 rfl rfl (sC (s8 hs) sN) rfl (fun b_1 w_2 h_3 => ?_)
 refine WL.box (segs := [(16, k.map vu8)]) h_3 rfl rfl (sC (s8 hk) sN) rfl (fun b_4 w_5 h_6 => ?_)
 refine WL.alloc (segs := [(16, (zB 16).map vu8)]) h_6 (zv typeInfo152 rfl) rfl (sC (s8 lr) sN) rfl (fun b_7 w_8 h_9 => ?_)
 refine WL.nil (thn_n (WP.seq (WP.seq (WP.reg ?_))))
 refine qM (vi 0) rfl rfl ?_
 refine WL.nil (thn_n (WP.block ?_))
 refine WP.loopG (G := Nat) [5, 6, 7, 8, 9, 10, 11, 12, 13, 14, 15, 16, 17] (fun i => [(6, (vn i))]) (fun i m w1 => HP w w1 [.blk b_7 .nw 152 [(16, (zB 16).map vu8)], .blk b_4 .nw 152 [(16, k.map vu8)], .blk b_1 .nw 152 [(16, (xk s k i).map vu8)]] ∧ (i ≤ 16) ∧ m = 16 - i) ⟨0, _, ⟨rfl, trivial⟩, (by rw [xk_0]; exact h_9), (by omega), rfl⟩ ?_
 rintro i m_12 J_13 w_10 ⟨h_11, hi, rfl⟩
 refine WP.seq (WP.reg ?_)
 refine qV rfl (R.bin rfl rfl (bi_lss (r := decide ((((i : Nat) : Int) : Int) < 16)) rfl)) ?_
 refine WL.nil (thn_n (WP.seq ?_))
 refine WP.cond (b := decide ((((i : Nat) : Int) : Int) < 16)) rfl (fun c_14 => ?_) (fun c_14 => ?_)
 ·have p_15 := of_decide_eq_true c_14
  refine WP.skip (thn_n (WP.seq (WP.block (WP.seq (WP.reg ?_)))))
  refine qM (vn i) rfl rfl (qA (vn i) rfl rfl ?_)
  refine WL.nil (thn_n ?_)
  refine WP.drawZ 8 (SL w.heap.size [.blk b_7 .nw 152 [(16, (zB 16).map vu8)], .blk b_4 .nw 152 [(16, k.map vu8)], .blk b_1 .nw 152 [(16, (xk s k i).map vu8)]]) (.q 0 (.q 1 (.q 2 (.q 3 (.q 4 (.q 5 (.q 6 (.q 7 (.s 8 .nil))))))))) (by kernel_rfl) (by kernel_rfl) rfl (by kernel_rfl) (fun w_16 hc_18 => (SL.cons ((h_11.same hc_18).ok _ M0) (SL.cons ((h_11.same hc_18).ok _ M1) (SL.cons ((h_11.same hc_18).ok _ M2) (SL.nil _ _))))) (fun w_16 hc_18 => ?_)
  have h_17 := h_11.same hc_18
  refine ZT.q rfl (Wn.no rfl) rfl rfl (fun wq hS => R.move (v := (vn i)) rfl) ?_
  refine ZT.q rfl (Wn.no rfl) rfl rfl (fun wq hS => R.indexA (b := b_1) (off := 0) (off' := (0 + i)) (i := i) rfl rfl rfl (by omega) underlying152 sizeOf5 (by rw [Nat.mul_one])) ?_
  refine ZT.q rfl (Wn.no rfl) rfl rfl (fun wq hS => R.loadE (b := b_1) (off := (0 + i)) (i := i) (v := (vu8 ((xk s k i).getD i 0))) rfl isAgg5 (hS _ M2) Sg.h rfl (get_u8 (lt_len (K := 16) (xk_len hs hk) (by omega)))) ?_
  refine ZT.q rfl (Wn.no rfl) rfl rfl (fun wq hS => R.move (v := (vn i)) rfl) ?_
  refine ZT.q rfl (Wn.no rfl) rfl rfl (fun wq hS => R.indexA (b := b_4) (off := 0) (off' := (0 + i)) (i := i) rfl rfl rfl (by omega) underlying152 sizeOf5 (by rw [Nat.mul_one])) ?_
  refine ZT.q rfl (Wn.no rfl) rfl rfl (fun wq hS => R.loadE (b := b_4) (off := (0 + i)) (i := i) (v := (vu8 (k.getD i 0))) rfl isAgg5 (hS _ M1) Sg.h rfl (get_u8 (lt_len (K := 16) hk (by omega)))) ?_
  refine ZT.q rfl (Wn.no rfl) rfl rfl (fun wq hS => R.bin rfl rfl (b8_xor ((xk s k i).getD i 0) (k.getD i 0))) ?_
  refine ZT.q rfl (Wn.no rfl) rfl rfl (fun wq hS => R.indexA (b := b_1) (off := 0) (off' := (0 + i)) (i := i) rfl rfl rfl (by omega) underlying152 sizeOf5 (by rw [Nat.mul_one])) ?_
  refine ZT.s ?_
  refine OpZ.last rfl (Wn.no rfl) ?_
  refine WL.storeE (b := b_1) (off := (0 + i)) (i := i) (v := (vu8 (((xk s k i).getD i 0) ^^^ (k.getD i 0)))) (cs' := ((xk s k i).set i (((xk s k i).getD i 0) ^^^ (k.getD i 0))).map vu8) h_17 rfl rfl sizeOf5 rfl Y2 (by decide) Sg.h rfl (lt_len (K := 16) (len_map (xk_len hs hk)) (by omega)) (set_u8 _ _ _) (fun w_19 h_20 => ?_)
  refine WL.nil (ZT.nil (inb_n (thn_n (WP.reg ?_))))
  refine qV rfl (R.bin rfl rfl (bi_add (c := ((i + 1 : Nat) : Int)) (by omega) (by omega))) (qM (vn (i + 1)) rfl rfl ?_)
  refine WL.nil (thn_n ?_)
  rw [xk_step hs hk (by omega)] at h_20
  exact ⟨i + 1, _, (by omega), (Ag.upd rfl (U4 rfl rfl rfl rfl (U4 rfl rfl rfl rfl (U4 rfl rfl rfl rfl (Ag.updL rfl (Ag.mix _ _ _)))))), ⟨rfl, trivial⟩, h_20, (by omega), rfl⟩
 ·have p_21 := of_decide_eq_false c_14
  refine WP.exit (thn_x (thn_x (inb_hit (thn_n (WP.seq (WP.reg ?_))))))
  refine qV rfl (R.loadA [] [(16, (xk s k i).map vu8)] [] (cs := (xk s k i).map vu8) rfl isAgg152 sizeOf152 (h_11.ok _ M2) rfl rfl rfl rfl) ?_
  refine WL.storeA [] [(16, (zB 16).map vu8)] [(16, (xk s k i).map vu8)] [] h_11 rfl rfl sizeOf152 At.h (by decide) rfl rfl rfl rfl rfl rfl (sC (s8 (xk_len hs hk)) sN) (fun w_22 h_23 => ?_)
  refine WL.nil (thn_n (WP.ret ?_))
  refine ret_of results140 (RV.cell rfl (h_23.loadA (cs := (xk s k i).map vu8) isAgg152 sizeOf152 M0 rfl rfl) RV.nil) ?_
  have hi2 : i = 16 := by omega
  subst hi2
  exact ⟨by rw [xk_16 hs hk]; rfl, h_23.chgS⟩

theorem c_mix1 (c b : Nat) (hc : c < 4) (w : World) :
  Cs Tryz.prog 161 [(vi ((c : Nat) : Int)), (.pointer (some ⟨b, 0, none⟩))].toArray w (fun v w1 => v = (.slice (some ⟨b, (0 + 4 * c), none⟩) 4 (16 - 4 * c)) ∧ Chg w w1 []) := by
 refine Cs.of (n := 10) (args := [(vn c), (pO b 0)]) Tryz.func161 rfl rfl rfl ?_
 have h_0 := HP.init w
 refine WP.seq (WP.reg ?_)
 refine qA (.slice none 0 0) rfl rfl ?_
 refine WL.nil (thn_n (WP.seq (WP.reg ?_)))
 refine qM (vn c) rfl rfl (qV rfl (R.bin rfl rfl (bi_mul (c := ((4 * c : Nat) : Int)) (by omega) (by omega))) (qM (vn c) rfl rfl (qV rfl (R.bin rfl rfl (bi_mul (c := ((4 * c : Nat) : Int)) (by omega) (by omega))) (qV rfl (R.bin rfl rfl (bi_add (c := ((4 * c + 4 : Nat) : Int)) (by omega) (by omega))) (qV rfl (R.sliceA (b := b) (off := 0) (off' := (0 + (4 * c))) (l := 4 * c) (h := 4 * c + 4) rfl (EvB.it (l := 4 * c) rfl rfl) (EvB.it (l := 4 * c + 4) rfl rfl) (by omega) (by omega) underlying152 sizeOf5 (by rw [if_neg (by omega), Nat.mul_one])) (qA (.slice (some ⟨b, (0 + (4 * c)), none⟩) ((4 * c + 4) - (4 * c)) (16 - (4 * c))) rfl rfl ?_))))))
 refine WL.nil (thn_n (WP.ret ?_))
 refine ret_of results161 (RV.tmp (v := (.slice (some ⟨b, (0 + (4 * c)), none⟩) ((4 * c + 4) - (4 * c)) (16 - (4 * c)))) rfl RV.nil) ?_
 exact ⟨by rw [show 4 * c + 4 - 4 * c = 4 by omega]; rfl, h_0.chgS⟩

theorem c_mix (s f : List UInt8) (hs : s.length = 16) (hf : f.length = 4) (w : World) :
  Cs Tryz.prog 141 [(.agg ⟨s.map vu8⟩), (.agg ⟨f.map vu8⟩)].toArray w (fun v w1 => v = (.agg ⟨(mixL s f).map vu8⟩) ∧ Chg w w1 []) := by
 refine Cs.of (n := 41) (args := [(.agg ⟨s.map vu8⟩), (.agg ⟨f.map vu8⟩)]) Tryz.func141 rfl rfl rfl ?_
 have h_0 := HP.init w
 refine WP.seq (WP.reg ?_)
 refine WL.box (segs := [(16, s.map vu8)]) h_0 rfl rfl (sC (s8 hs) sN) rfl (fun b_1 w_2 h_3 => ?_)
 refine WL.box (segs := [(4, f.map vu8)]) h_3 rfl rfl (sC (s8 hf) sN) rfl (fun b_4 w_5 h_6 => ?_)
 refine WL.alloc (segs := [(16, (zB 16).map vu8)]) h_6 (zv typeInfo152 rfl) rfl (sC (s8 lr) sN) rfl (fun b_7 w_8 h_9 => ?_)
 refine WL.nil (thn_n (WP.seq (WP.reg ?_)))
 refine qV rfl (R.makeFuncL (fi := []) (ca := [(pO b_1 0)]) rfl rfl) (qA (Value.func (Fn.func 161) [].toArray [(Value.pointer (some ⟨b_1, 0, none⟩))].toArray) rfl rfl ?_)
 refine WL.nil (thn_n (WP.seq (WP.seq (WP.reg ?_))))
 refine qM (vi 0) rfl rfl ?_
 refine WL.nil (thn_n (WP.block ?_))
 refine WP.loopG (G := Nat) [6, 7, 8, 10, 11, 12, 13, 14, 15, 16, 17, 18, 19, 20, 21, 22, 23, 24, 25, 26, 27, 28, 29, 30, 31, 32, 33, 34, 35, 36, 37, 38, 39] (fun i => [(10, (vn i))]) (fun i m w1 => HP w w1 [.blk b_7 .nw 152 [(16, (pre 16 (mb s f) i).map vu8)], .blk b_4 .nw 195 [(4, f.map vu8)], .blk b_1 .nw 152 [(16, s.map vu8)]] ∧ (i ≤ 16) ∧ m = 16 - i) ⟨0, _, ⟨rfl, trivial⟩, (by rw [pre_0]; exact h_9), (by omega), rfl⟩ ?_
 rintro i m_12 J_13 w_10 ⟨h_11, hi, rfl⟩
 refine WP.seq (WP.reg ?_)
 refine qV rfl (R.bin rfl rfl (bi_lss (r := decide ((((i : Nat) : Int) : Int) < 16)) rfl)) ?_
 refine WL.nil (thn_n (WP.seq ?_))
 refine WP.cond (b := decide ((((i : Nat) : Int) : Int) < 16)) rfl (fun c_14 => ?_) (fun c_14 => ?_)
 ·have p_15 := of_decide_eq_true c_14
  refine WP.skip (thn_n (WP.seq (WP.block (WP.seq (WP.reg ?_)))))
  refine qM (vn i) rfl rfl (qA (vn i) rfl rfl ?_)
  refine WL.nil (thn_n (WP.seq (WP.reg ?_)))
  refine qM (Value.func (Fn.func 161) [].toArray [(Value.pointer (some ⟨b_1, 0, none⟩))].toArray) rfl rfl (qM (vn i) rfl rfl (qV rfl (R.bin rfl rfl (bi_quo (c := ((i / 4 : Nat) : Int)) (by first | omega | exact ⟨Int.natCast_nonneg _, by omega⟩) (by omega) (by first | omega | rfl))) ?_))
  refine WL.call Tryz.call161 rfl rfl (c_mix1 (i / 4) b_1 (by omega) _) rfl ?_
  rintro _ w_16 ⟨rfl, hc_17⟩
  have h_18 := h_11.same hc_17
  refine qV rfl (R.lenS (a := some ⟨b_1, (0 + 4 * (i / 4)), none⟩) (m := 4) rfl rfl underlying88) (qM (vi 0) rfl rfl ?_)
  refine WL.nil (thn_n (WP.block ?_))
  refine WP.loopU (WI.round ?_)
  refine WP.seq (WP.reg ?_)
  refine qV rfl (R.bin rfl rfl (bi_lss (r := true) (by decide))) ?_
  refine WL.nil (thn_n (WP.seq ?_))
  refine WP.condT rfl ?_
  refine WP.skip (thn_n (WP.seq (WP.block (WP.seq (WP.reg ?_)))))
  refine qM (vi 0) rfl rfl (qV rfl (R.indexP (b := b_1) (off := (0 + (4 * (i / 4)))) (off' := (0 + (4 * (i / 4)))) (i := 0) rfl rfl rfl (by decide) underlying88 sizeOf5 (by omega)) (qV rfl (R.loadE (b := b_1) (off := (0 + (4 * (i / 4)))) (i := 4 * (i / 4)) (v := (vu8 (s.getD (4 * (i / 4)) 0))) rfl isAgg5 (h_18.ok _ M2) Sg.h rfl (get_u8 (lt_len (K := 16) hs (by omega)))) (qA (vi 0) rfl rfl (qA (vu8 (s.getD (4 * (i / 4)) 0)) rfl rfl ?_))))
  refine WL.nil (thn_n ?_)
  refine WP.drawZ 15 (SL w.heap.size [.blk b_7 .nw 152 [(16, (pre 16 (mb s f) i).map vu8)], .blk b_4 .nw 195 [(4, f.map vu8)], .blk b_1 .nw 152 [(16, s.map vu8)]]) (.q 0 (.q 1 (.q 2 (.q 3 (.q 4 (.q 5 (.q 6 (.q 7 (.q 8 (.q 9 (.q 10 (.q 11 (.s 12 (.q 13 (.q 14 (.s 15 .nil)))))))))))))))) (by kernel_rfl) (by kernel_rfl) rfl (by kernel_rfl) (fun w_19 hc_21 => (SL.cons ((h_18.same hc_21).ok _ M0) (SL.cons ((h_18.same hc_21).ok _ M1) (SL.cons ((h_18.same hc_21).ok _ M2) (SL.nil _ _))))) (fun w_19 hc_21 => ?_)
  have h_20 := h_18.same hc_21
  refine ZT.q rfl (Wn.no rfl) rfl rfl (fun wq hS => R.move (v := (vn i)) rfl) ?_
  refine ZT.q rfl (Wn.no rfl) rfl rfl (fun wq hS => R.indexA (b := b_7) (off := 0) (off' := (0 + i)) (i := i) rfl rfl rfl (by omega) underlying152 sizeOf5 (by rw [Nat.mul_one])) ?_
  refine ZT.q rfl (Wn.no rfl) rfl rfl (fun wq hS => R.loadE (b := b_7) (off := (0 + i)) (i := i) (v := (vu8 ((pre 16 (mb s f) i).getD i 0))) rfl isAgg5 (hS _ M0) Sg.h rfl (get_u8 (lt_len (K := 16) (pre_len hi) (by omega)))) ?_
  refine ZT.q rfl (Wn.no rfl) rfl rfl (fun wq hS => R.move (v := (vu8 (s.getD (4 * (i / 4)) 0))) rfl) ?_
  refine ZT.q rfl (Wn.no rfl) rfl rfl (fun wq hS => R.move (v := (vi 0)) rfl) ?_
  refine ZT.q rfl (Wn.no rfl) rfl rfl (fun wq hS => R.move (v := (vn i)) rfl) ?_
  refine ZT.q rfl (Wn.no rfl) rfl rfl (fun wq hS => R.bin rfl rfl (bi_rem (c := ((i % 4 : Nat) : Int)) (Int.natCast_nonneg _) (by omega) (by first | omega | rfl))) ?_
  refine ZT.q rfl (Wn.no rfl) rfl rfl (fun wq hS => R.bin rfl rfl (bi_sub (c := 0 - ((i % 4 : Nat) : Int)) (by omega) (by omega))) ?_
  refine ZT.q rfl (Wn.no rfl) rfl rfl (fun wq hS => R.bin rfl rfl (bi_add (c := ((0 + 4 - i % 4 : Nat) : Int)) (by omega) (by omega))) ?_
  refine ZT.q rfl (Wn.no rfl) rfl rfl (fun wq hS => R.bin rfl rfl (bi_rem (c := (((0 + 4 - i % 4) % 4 : Nat) : Int)) (Int.natCast_nonneg _) (by omega) (by first | omega | rfl))) ?_
  refine ZT.q rfl (Wn.no rfl) rfl rfl (fun wq hS => R.indexA (b := b_4) (off := 0) (off' := (0 + ((0 + 4 - i % 4) % 4))) (i := (0 + 4 - i % 4) % 4) rfl rfl rfl (by omega) underlying195 sizeOf5 (by rw [Nat.mul_one])) ?_
  refine ZT.q rfl (Wn.no rfl) rfl rfl (fun wq hS => R.loadE (b := b_4) (off := (0 + ((0 + 4 - i % 4) % 4))) (i := (0 + 4 - i % 4) % 4) (v := (vu8 (f.getD ((0 + 4 - i % 4) % 4) 0))) rfl isAgg5 (hS _ M1) Sg.h rfl (get_u8 (lt_len (K := 4) hf (by omega)))) ?_
  refine ZT.s ?_
  refine OpZ.one rfl (Wn.no rfl) ?_
  refine WL.call Tryz.call162 rfl rfl (c_Times (s.getD (4 * (i / 4)) 0) (f.getD ((0 + 4 - i % 4) % 4) 0) _ ) rfl ?_
  rintro _ w_23 ⟨rfl, hc_22⟩
  have h_24 := h_20.same hc_22
  refine WL.nil ?_
  refine ⟨(N0_1_2 h_24.ok), ?_⟩
  refine ZT.q rfl (Wn.no rfl) rfl rfl (fun wq hS => R.bin rfl rfl (b8_xor ((pre 16 (mb s f) i).getD i 0) (tm (s.getD (4 * (i / 4)) 0) (f.getD ((0 + 4 - i % 4) % 4) 0)))) ?_
  refine ZT.q rfl (Wn.no rfl) rfl rfl (fun wq hS => R.indexA (b := b_7) (off := 0) (off' := (0 + i)) (i := i) rfl rfl rfl (by omega) underlying152 sizeOf5 (by rw [Nat.mul_one])) ?_
  refine ZT.s ?_
  refine OpZ.last rfl (Wn.no rfl) ?_
  refine WL.storeE (b := b_7) (off := (0 + i)) (i := i) (v := (vu8 (((pre 16 (mb s f) i).getD i 0) ^^^ (tm (s.getD (4 * (i / 4)) 0) (f.getD ((0 + 4 - i % 4) % 4) 0))))) (cs' := ((pre 16 (mb s f) i).set i (((pre 16 (mb s f) i).getD i 0) ^^^ (tm (s.getD (4 * (i / 4)) 0) (f.getD ((0 + 4 - i % 4) % 4) 0)))).map vu8) h_24 rfl rfl sizeOf5 rfl At.h (by decide) Sg.h rfl (lt_len (K := 16) (len_map (pre_len hi)) (by omega)) (set_u8 _ _ _) (fun w_25 h_26 => ?_)
  refine WL.nil (ZT.nil (inb_n (thn_n (WP.reg ?_))))
  refine qV rfl (R.bin rfl rfl (bi_add (c := 1) (by omega) (by omega))) (qM (vi 1) rfl rfl ?_)
  refine WL.nil (thn_n ?_)
  refine WI.round ?_
  refine WP.seq (WP.reg ?_)
  refine qV rfl (R.bin rfl rfl (bi_lss (r := true) (by decide))) ?_
  refine WL.nil (thn_n (WP.seq ?_))
  refine WP.condT rfl ?_
  refine WP.skip (thn_n (WP.seq (WP.block (WP.seq (WP.reg ?_)))))
  refine qM (vi 1) rfl rfl (qV rfl (R.indexP (b := b_1) (off := (0 + (4 * (i / 4)))) (off' := (1 + (4 * (i / 4)))) (i := 1) rfl rfl rfl (by decide) underlying88 sizeOf5 (by omega)) (qV rfl (R.loadE (b := b_1) (off := (1 + (4 * (i / 4)))) (i := 4 * (i / 4) + 1) (v := (vu8 (s.getD (4 * (i / 4) + 1) 0))) rfl isAgg5 (h_26.ok _ M2) Sg.h (by omega) (get_u8 (lt_len (K := 16) hs (by omega)))) (qA (vi 1) rfl rfl (qA (vu8 (s.getD (4 * (i / 4) + 1) 0)) rfl rfl ?_))))
  refine WL.nil (thn_n ?_)
  refine WP.drawZ 15 (SL w.heap.size [.blk b_7 .nw 152 [(16, ((pre 16 (mb s f) i).set i (((pre 16 (mb s f) i).getD i 0) ^^^ (tm (s.getD (4 * (i / 4)) 0) (f.getD ((0 + 4 - i % 4) % 4) 0)))).map vu8)], .blk b_4 .nw 195 [(4, f.map vu8)], .blk b_1 .nw 152 [(16, s.map vu8)]]) (.q 0 (.q 1 (.q 2 (.q 3 (.q 4 (.q 5 (.q 6 (.q 7 (.q 8 (.q 9 (.q 10 (.q 11 (.s 12 (.q 13 (.q 14 (.s 15 .nil)))))))))))))))) (by kernel_rfl) (by kernel_rfl) rfl (by kernel_rfl) (fun w_27 hc_29 => (SL.cons ((h_26.same hc_29).ok _ M0) (SL.cons ((h_26.same hc_29).ok _ M1) (SL.cons ((h_26.same hc_29).ok _ M2) (SL.nil _ _))))) (fun w_27 hc_29 => ?_)
  have h_28 := h_26.same hc_29
  refine ZT.q rfl (Wn.no rfl) rfl rfl (fun wq hS => R.move (v := (vn i)) rfl) ?_
  refine ZT.q rfl (Wn.no rfl) rfl rfl (fun wq hS => R.indexA (b := b_7) (off := 0) (off' := (0 + i)) (i := i) rfl rfl rfl (by omega) underlying152 sizeOf5 (by rw [Nat.mul_one])) ?_
  refine ZT.q rfl (Wn.no rfl) rfl rfl (fun wq hS => R.loadE (b := b_7) (off := (0 + i)) (i := i) (v := (vu8 (((pre 16 (mb s f) i).set i (((pre 16 (mb s f) i).getD i 0) ^^^ (tm (s.getD (4 * (i / 4)) 0) (f.getD ((0 + 4 - i % 4) % 4) 0)))).getD i 0))) rfl isAgg5 (hS _ M0) Sg.h rfl (get_u8 (lt_len (K := 16) (len_set (pre_len hi) _ _) (by omega)))) ?_
  refine ZT.q rfl (Wn.no rfl) rfl rfl (fun wq hS => R.move (v := (vu8 (s.getD (4 * (i / 4) + 1) 0))) rfl) ?_
  refine ZT.q rfl (Wn.no rfl) rfl rfl (fun wq hS => R.move (v := (vi 1)) rfl) ?_
  refine ZT.q rfl (Wn.no rfl) rfl rfl (fun wq hS => R.move (v := (vn i)) rfl) ?_
  refine ZT.q rfl (Wn.no rfl) rfl rfl (fun wq hS => R.bin rfl rfl (bi_rem (c := ((i % 4 : Nat) : Int)) (Int.natCast_nonneg _) (by omega) (by first | omega | rfl))) ?_
  refine ZT.q rfl (Wn.no rfl) rfl rfl (fun wq hS => R.bin rfl rfl (bi_sub (c := 1 - ((i % 4 : Nat) : Int)) (by omega) (by omega))) ?_
  refine ZT.q rfl (Wn.no rfl) rfl rfl (fun wq hS => R.bin rfl rfl (bi_add (c := ((1 + 4 - i % 4 : Nat) : Int)) (by omega) (by omega))) ?_
  refine ZT.q rfl (Wn.no rfl) rfl rfl (fun wq hS => R.bin rfl rfl (bi_rem (c := (((1 + 4 - i % 4) % 4 : Nat) : Int)) (Int.natCast_nonneg _) (by omega) (by first | omega | rfl))) ?_
  refine ZT.q rfl (Wn.no rfl) rfl rfl (fun wq hS => R.indexA (b := b_4) (off := 0) (off' := (0 + ((1 + 4 - i % 4) % 4))) (i := (1 + 4 - i % 4) % 4) rfl rfl rfl (by omega) underlying195 sizeOf5 (by rw [Nat.mul_one])) ?_
  refine ZT.q rfl (Wn.no rfl) rfl rfl (fun wq hS => R.loadE (b := b_4) (off := (0 + ((1 + 4 - i % 4) % 4))) (i := (1 + 4 - i % 4) % 4) (v := (vu8 (f.getD ((1 + 4 - i % 4) % 4) 0))) rfl isAgg5 (hS _ M1) Sg.h rfl (get_u8 (lt_len (K := 4) hf (by omega)))) ?_
  refine ZT.s ?_
  refine OpZ.one rfl (Wn.no rfl) ?_
  refine WL.call Tryz.call162 rfl rfl (c_Times (s.getD (4 * (i / 4) + 1) 0) (f.getD ((1 + 4 - i % 4) % 4) 0) _ ) rfl ?_
  rintro _ w_31 ⟨rfl, hc_30⟩
  have h_32 := h_28.same hc_30
  refine WL.nil ?_
  refine ⟨(N0_1_2 h_32.ok), ?_⟩
  refine ZT.q rfl (Wn.no rfl) rfl rfl (fun wq hS => R.bin rfl rfl (b8_xor (((pre 16 (mb s f) i).set i (((pre 16 (mb s f) i).getD i 0) ^^^ (tm (s.getD (4 * (i / 4)) 0) (f.getD ((0 + 4 - i % 4) % 4) 0)))).getD i 0) (tm (s.getD (4 * (i / 4) + 1) 0) (f.getD ((1 + 4 - i % 4) % 4) 0)))) ?_
  refine ZT.q rfl (Wn.no rfl) rfl rfl (fun wq hS => R.indexA (b := b_7) (off := 0) (off' := (0 + i)) (i := i) rfl rfl rfl (by omega) underlying152 sizeOf5 (by rw [Nat.mul_one])) ?_
  refine ZT.s ?_
  refine OpZ.last rfl (Wn.no rfl) ?_
  refine WL.storeE (b := b_7) (off := (0 + i)) (i := i) (v := (vu8 ((((pre 16 (mb s f) i).set i (((pre 16 (mb s f) i).getD i 0) ^^^ (tm (s.getD (4 * (i / 4)) 0) (f.getD ((0 + 4 - i % 4) % 4) 0)))).getD i 0) ^^^ (tm (s.getD (4 * (i / 4) + 1) 0) (f.getD ((1 + 4 - i % 4) % 4) 0))))) (cs' := (((pre 16 (mb s f) i).set i (((pre 16 (mb s f) i).getD i 0) ^^^ (tm (s.getD (4 * (i / 4)) 0) (f.getD ((0 + 4 - i % 4) % 4) 0)))).set i ((((pre 16 (mb s f) i).set i (((pre 16 (mb s f) i).getD i 0) ^^^ (tm (s.getD (4 * (i / 4)) 0) (f.getD ((0 + 4 - i % 4) % 4) 0)))).getD i 0) ^^^ (tm (s.getD (4 * (i / 4) + 1) 0) (f.getD ((1 + 4 - i % 4) % 4) 0)))).map vu8) h_32 rfl rfl sizeOf5 rfl At.h (by decide) Sg.h rfl (lt_len (K := 16) (len_map (len_set (pre_len hi) _ _)) (by omega)) (set_u8 _ _ _) (fun w_33 h_34 => ?_)
  refine WL.nil (ZT.nil (inb_n (thn_n (WP.reg ?_))))
  refine qV rfl (R.bin rfl rfl (bi_add (c := 2) (by omega) (by omega))) (qM (vi 2) rfl rfl ?_)
  refine WL.nil (thn_n ?_)
  refine WI.round ?_
  refine WP.seq (WP.reg ?_)
  refine qV rfl (R.bin rfl rfl (bi_lss (r := true) (by decide))) ?_
  refine WL.nil (thn_n (WP.seq ?_))
  refine WP.condT rfl ?_
  refine WP.skip (thn_n (WP.seq (WP.block (WP.seq (WP.reg ?_)))))
  refine qM (vi 2) rfl rfl (qV rfl (R.indexP (b := b_1) (off := (0 + (4 * (i / 4)))) (off' := (2 + (4 * (i / 4)))) (i := 2) rfl rfl rfl (by decide) underlying88 sizeOf5 (by omega)) (qV rfl (R.loadE (b := b_1) (off := (2 + (4 * (i / 4)))) (i := 4 * (i / 4) + 2) (v := (vu8 (s.getD (4 * (i / 4) + 2) 0))) rfl isAgg5 (h_34.ok _ M2) Sg.h (by omega) (get_u8 (lt_len (K := 16) hs (by omega)))) (qA (vi 2) rfl rfl (qA (vu8 (s.getD (4 * (i / 4) + 2) 0)) rfl rfl ?_))))
  refine WL.nil (thn_n ?_)
  refine WP.drawZ 15 (SL w.heap.size [.blk b_7 .nw 152 [(16, (((pre 16 (mb s f) i).set i (((pre 16 (mb s f) i).getD i 0) ^^^ (tm (s.getD (4 * (i / 4)) 0) (f.getD ((0 + 4 - i % 4) % 4) 0)))).set i ((((pre 16 (mb s f) i).set i (((pre 16 (mb s f) i).getD i 0) ^^^ (tm (s.getD (4 * (i / 4)) 0) (f.getD ((0 + 4 - i % 4) % 4) 0)))).getD i 0) ^^^ (tm (s.getD (4 * (i / 4) + 1) 0) (f.getD ((1 + 4 - i % 4) % 4) 0)))).map vu8)], .blk b_4 .nw 195 [(4, f.map vu8)], .blk b_1 .nw 152 [(16, s.map vu8)]]) (.q 0 (.q 1 (.q 2 (.q 3 (.q 4 (.q 5 (.q 6 (.q 7 (.q 8 (.q 9 (.q 10 (.q 11 (.s 12 (.q 13 (.q 14 (.s 15 .nil)))))))))))))))) (by kernel_rfl) (by kernel_rfl) rfl (by kernel_rfl) (fun w_35 hc_37 => (SL.cons ((h_34.same hc_37).ok _ M0) (SL.cons ((h_34.same hc_37).ok _ M1) (SL.cons ((h_34.same hc_37).ok _ M2) (SL.nil _ _))))) (fun w_35 hc_37 => ?_)
  have h_36 := h_34.same hc_37
  refine ZT.q rfl (Wn.no rfl) rfl rfl (fun wq hS => R.move (v := (vn i)) rfl) ?_
  refine ZT.q rfl (Wn.no rfl) rfl rfl (fun wq hS => R.indexA (b := b_7) (off := 0) (off' := (0 + i)) (i := i) rfl rfl rfl (by omega) underlying152 sizeOf5 (by rw [Nat.mul_one])) ?_
  refine ZT.q rfl (Wn.no rfl) rfl rfl (fun wq hS => R.loadE (b := b_7) (off := (0 + i)) (i := i) (v := (vu8 ((((pre 16 (mb s f) i).set i (((pre 16 (mb s f) i).getD i 0) ^^^ (tm (s.getD (4 * (i / 4)) 0) (f.getD ((0 + 4 - i % 4) % 4) 0)))).set i ((((pre 16 (mb s f) i).set i (((pre 16 (mb s f) i).getD i 0) ^^^ (tm (s.getD (4 * (i / 4)) 0) (f.getD ((0 + 4 - i % 4) % 4) 0)))).getD i 0) ^^^ (tm (s.getD (4 * (i / 4) + 1) 0) (f.getD ((1 + 4 - i % 4) % 4) 0)))).getD i 0))) rfl isAgg5 (hS _ M0) Sg.h rfl (get_u8 (lt_len (K := 16) (len_set (len_set (pre_len hi) _ _) _ _) (by omega)))) ?_
  refine ZT.q rfl (Wn.no rfl) rfl rfl (fun wq hS => R.move (v := (vu8 (s.getD (4 * (i / 4) + 2) 0))) rfl) ?_
  refine ZT.q rfl (Wn.no rfl) rfl rfl (fun wq hS => R.move (v := (vi 2)) rfl) ?_
  refine ZT.q rfl (Wn.no rfl) rfl rfl (fun wq hS => R.move (v := (vn i)) rfl) ?_
  refine ZT.q rfl (Wn.no rfl) rfl rfl (fun wq hS => R.bin rfl rfl (bi_rem (c := ((i % 4 : Nat) : Int)) (Int.natCast_nonneg _) (by omega) (by first | omega | rfl))) ?_
  refine ZT.q rfl (Wn.no rfl) rfl rfl (fun wq hS => R.bin rfl rfl (bi_sub (c := 2 - ((i % 4 : Nat) : Int)) (by omega) (by omega))) ?_
  refine ZT.q rfl (Wn.no rfl) rfl rfl (fun wq hS => R.bin rfl rfl (bi_add (c := ((2 + 4 - i % 4 : Nat) : Int)) (by omega) (by omega))) ?_
  refine ZT.q rfl (Wn.no rfl) rfl rfl (fun wq hS => R.bin rfl rfl (bi_rem (c := (((2 + 4 - i % 4) % 4 : Nat) : Int)) (Int.natCast_nonneg _) (by omega) (by first | omega | rfl))) ?_
  refine ZT.q rfl (Wn.no rfl) rfl rfl (fun wq hS => R.indexA (b := b_4) (off := 0) (off' := (0 + ((2 + 4 - i % 4) % 4))) (i := (2 + 4 - i % 4) % 4) rfl rfl rfl (by omega) underlying195 sizeOf5 (by rw [Nat.mul_one])) ?_
  refine ZT.q rfl (Wn.no rfl) rfl rfl (fun wq hS => R.loadE (b := b_4) (off := (0 + ((2 + 4 - i % 4) % 4))) (i := (2 + 4 - i % 4) % 4) (v := (vu8 (f.getD ((2 + 4 - i % 4) % 4) 0))) rfl isAgg5 (hS _ M1) Sg.h rfl (get_u8 (lt_len (K := 4) hf (by omega)))) ?_
  refine ZT.s ?_
  refine OpZ.one rfl (Wn.no rfl) ?_
  refine WL.call Tryz.call162 rfl rfl (c_Times (s.getD (4 * (i / 4) + 2) 0) (f.getD ((2 + 4 - i % 4) % 4) 0) _ ) rfl ?_
  rintro _ w_39 ⟨rfl, hc_38⟩
  have h_40 := h_36.same hc_38
  refine WL.nil ?_
  refine ⟨(N0_1_2 h_40.ok), ?_⟩
  refine ZT.q rfl (Wn.no rfl) rfl rfl (fun wq hS => R.bin rfl rfl (b8_xor ((((pre 16 (mb s f) i).set i (((pre 16 (mb s f) i).getD i 0) ^^^ (tm (s.getD (4 * (i / 4)) 0) (f.getD ((0 + 4 - i % 4) % 4) 0)))).set i ((((pre 16 (mb s f) i).set i (((pre 16 (mb s f) i).getD i 0) ^^^ (tm (s.getD (4 * (i / 4)) 0) (f.getD ((0 + 4 - i % 4) % 4) 0)))).getD i 0) ^^^ (tm (s.getD (4 * (i / 4) + 1) 0) (f.getD ((1 + 4 - i % 4) % 4) 0)))).getD i 0) (tm (s.getD (4 * (i / 4) + 2) 0) (f.getD ((2 + 4 - i % 4) % 4) 0)))) ?_
  refine ZT.q rfl (Wn.no rfl) rfl rfl (fun wq hS => R.indexA (b := b_7) (off := 0) (off' := (0 + i)) (i := i) rfl rfl rfl (by omega) underlying152 sizeOf5 (by rw [Nat.mul_one])) ?_
  refine ZT.s ?_
  refine OpZ.last rfl (Wn.no rfl) ?_
  refine WL.storeE (b := b_7) (off := (0 + i)) (i := i) (v := (vu8 (((((pre 16 (mb s f) i).set i (((pre 16 (mb s f) i).getD i 0) ^^^ (tm (s.getD (4 * (i / 4)) 0) (f.getD ((0 + 4 - i % 4) % 4) 0)))).set i ((((pre 16 (mb s f) i).set i (((pre 16 (mb s f) i).getD i 0) ^^^ (tm (s.getD (4 * (i / 4)) 0) (f.getD ((0 + 4 - i % 4) % 4) 0)))).getD i 0) ^^^ (tm (s.getD (4 * (i / 4) + 1) 0) (f.getD ((1 + 4 - i % 4) % 4) 0)))).getD i 0) ^^^ (tm (s.getD (4 * (i / 4) + 2) 0) (f.getD ((2 + 4 - i % 4) % 4) 0))))) (cs' := ((((pre 16 (mb s f) i).set i (((pre 16 (mb s f) i).getD i 0) ^^^ (tm (s.getD (4 * (i / 4)) 0) (f.getD ((0 + 4 - i % 4) % 4) 0)))).set i ((((pre 16 (mb s f) i).set i (((pre 16 (mb s f) i).getD i 0) ^^^ (tm (s.getD (4 * (i / 4)) 0) (f.getD ((0 + 4 - i % 4) % 4) 0)))).getD i 0) ^^^ (tm (s.getD (4 * (i / 4) + 1) 0) (f.getD ((1 + 4 - i % 4) % 4) 0)))).set i (((((pre 16 (mb s f) i).set i (((pre 16 (mb s f) i).getD i 0) ^^^ (tm (s.getD (4 * (i / 4)) 0) (f.getD ((0 + 4 - i % 4) % 4) 0)))).set i ((((pre 16 (mb s f) i).set i (((pre 16 (mb s f) i).getD i 0) ^^^ (tm (s.getD (4 * (i / 4)) 0) (f.getD ((0 + 4 - i % 4) % 4) 0)))).getD i 0) ^^^ (tm (s.getD (4 * (i / 4) + 1) 0) (f.getD ((1 + 4 - i % 4) % 4) 0)))).getD i 0) ^^^ (tm (s.getD (4 * (i / 4) + 2) 0) (f.getD ((2 + 4 - i % 4) % 4) 0)))).map vu8) h_40 rfl rfl sizeOf5 rfl At.h (by decide) Sg.h rfl (lt_len (K := 16) (len_map (len_set (len_set (pre_len hi) _ _) _ _)) (by omega)) (set_u8 _ _ _) (fun w_41 h_42 => ?_)
  refine WL.nil (ZT.nil (inb_n (thn_n (WP.reg ?_))))
  refine qV rfl (R.bin rfl rfl (bi_add (c := 3) (by omega) (by omega))) (qM (vi 3) rfl rfl ?_)
  refine WL.nil (thn_n ?_)
  refine WI.round ?_
  refine WP.seq (WP.reg ?_)
  refine qV rfl (R.bin rfl rfl (bi_lss (r := true) (by decide))) ?_
  refine WL.nil (thn_n (WP.seq ?_))
  refine WP.condT rfl ?_
  refine WP.skip (thn_n (WP.seq (WP.block (WP.seq (WP.reg ?_)))))
  refine qM (vi 3) rfl rfl (qV rfl (R.indexP (b := b_1) (off := (0 + (4 * (i / 4)))) (off' := (3 + (4 * (i / 4)))) (i := 3) rfl rfl rfl (by decide) underlying88 sizeOf5 (by omega)) (qV rfl (R.loadE (b := b_1) (off := (3 + (4 * (i / 4)))) (i := 4 * (i / 4) + 3) (v := (vu8 (s.getD (4 * (i / 4) + 3) 0))) rfl isAgg5 (h_42.ok _ M2) Sg.h (by omega) (get_u8 (lt_len (K := 16) hs (by omega)))) (qA (vi 3) rfl rfl (qA (vu8 (s.getD (4 * (i / 4) + 3) 0)) rfl rfl ?_))))
  refine WL.nil (thn_n ?_)
  refine WP.drawZ 15 (SL w.heap.size [.blk b_7 .nw 152 [(16, ((((pre 16 (mb s f) i).set i (((pre 16 (mb s f) i).getD i 0) ^^^ (tm (s.getD (4 * (i / 4)) 0) (f.getD ((0 + 4 - i % 4) % 4) 0)))).set i ((((pre 16 (mb s f) i).set i (((pre 16 (mb s f) i).getD i 0) ^^^ (tm (s.getD (4 * (i / 4)) 0) (f.getD ((0 + 4 - i % 4) % 4) 0)))).getD i 0) ^^^ (tm (s.getD (4 * (i / 4) + 1) 0) (f.getD ((1 + 4 - i % 4) % 4) 0)))).set i (((((pre 16 (mb s f) i).set i (((pre 16 (mb s f) i).getD i 0) ^^^ (tm (s.getD (4 * (i / 4)) 0) (f.getD ((0 + 4 - i % 4) % 4) 0)))).set i ((((pre 16 (mb s f) i).set i (((pre 16 (mb s f) i).getD i 0) ^^^ (tm (s.getD (4 * (i / 4)) 0) (f.getD ((0 + 4 - i % 4) % 4) 0)))).getD i 0) ^^^ (tm (s.getD (4 * (i / 4) + 1) 0) (f.getD ((1 + 4 - i % 4) % 4) 0)))).getD i 0) ^^^ (tm (s.getD (4 * (i / 4) + 2) 0) (f.getD ((2 + 4 - i % 4) % 4) 0)))).map vu8)], .blk b_4 .nw 195 [(4, f.map vu8)], .blk b_1 .nw 152 [(16, s.map vu8)]]) (.q 0 (.q 1 (.q 2 (.q 3 (.q 4 (.q 5 (.q 6 (.q 7 (.q 8 (.q 9 (.q 10 (.q 11 (.s 12 (.q 13 (.q 14 (.s 15 .nil)))))))))))))))) (by kernel_rfl) (by kernel_rfl) rfl (by kernel_rfl) (fun w_43 hc_45 => (SL.cons ((h_42.same hc_45).ok _ M0) (SL.cons ((h_42.same hc_45).ok _ M1) (SL.cons ((h_42.same hc_45).ok _ M2) (SL.nil _ _))))) (fun w_43 hc_45 => ?_)
  have h_44 := h_42.same hc_45
  refine ZT.q rfl (Wn.no rfl) rfl rfl (fun wq hS => R.move (v := (vn i)) rfl) ?_
  refine ZT.q rfl (Wn.no rfl) rfl rfl (fun wq hS => R.indexA (b := b_7) (off := 0) (off' := (0 + i)) (i := i) rfl rfl rfl (by omega) underlying152 sizeOf5 (by rw [Nat.mul_one])) ?_
  refine ZT.q rfl (Wn.no rfl) rfl rfl (fun wq hS => R.loadE (b := b_7) (off := (0 + i)) (i := i) (v := (vu8 (((((pre 16 (mb s f) i).set i (((pre 16 (mb s f) i).getD i 0) ^^^ (tm (s.getD (4 * (i / 4)) 0) (f.getD ((0 + 4 - i % 4) % 4) 0)))).set i ((((pre 16 (mb s f) i).set i (((pre 16 (mb s f) i).getD i 0) ^^^ (tm (s.getD (4 * (i / 4)) 0) (f.getD ((0 + 4 - i % 4) % 4) 0)))).getD i 0) ^^^ (tm (s.getD (4 * (i / 4) + 1) 0) (f.getD ((1 + 4 - i % 4) % 4) 0)))).set i (((((pre 16 (mb s f) i).set i (((pre 16 (mb s f) i).getD i 0) ^^^ (tm (s.getD (4 * (i / 4)) 0) (f.getD ((0 + 4 - i % 4) % 4) 0)))).set i ((((pre 16 (mb s f) i).set i (((pre 16 (mb s f) i).getD i 0) ^^^ (tm (s.getD (4 * (i / 4)) 0) (f.getD ((0 + 4 - i % 4) % 4) 0)))).getD i 0) ^^^ (tm (s.getD (4 * (i / 4) + 1) 0) (f.getD ((1 + 4 - i % 4) % 4) 0)))).getD i 0) ^^^ (tm (s.getD (4 * (i / 4) + 2) 0) (f.getD ((2 + 4 - i % 4) % 4) 0)))).getD i 0))) rfl isAgg5 (hS _ M0) Sg.h rfl (get_u8 (lt_len (K := 16) (len_set (len_set (len_set (pre_len hi) _ _) _ _) _ _) (by omega)))) ?_
  refine ZT.q rfl (Wn.no rfl) rfl rfl (fun wq hS => R.move (v := (vu8 (s.getD (4 * (i / 4) + 3) 0))) rfl) ?_
  refine ZT.q rfl (Wn.no rfl) rfl rfl (fun wq hS => R.move (v := (vi 3)) rfl) ?_
  refine ZT.q rfl (Wn.no rfl) rfl rfl (fun wq hS => R.move (v := (vn i)) rfl) ?_
  refine ZT.q rfl (Wn.no rfl) rfl rfl (fun wq hS => R.bin rfl rfl (bi_rem (c := ((i % 4 : Nat) : Int)) (Int.natCast_nonneg _) (by omega) (by first | omega | rfl))) ?_
  refine ZT.q rfl (Wn.no rfl) rfl rfl (fun wq hS => R.bin rfl rfl (bi_sub (c := 3 - ((i % 4 : Nat) : Int)) (by omega) (by omega))) ?_
  refine ZT.q rfl (Wn.no rfl) rfl rfl (fun wq hS => R.bin rfl rfl (bi_add (c := ((3 + 4 - i % 4 : Nat) : Int)) (by omega) (by omega))) ?_
  refine ZT.q rfl (Wn.no rfl) rfl rfl (fun wq hS => R.bin rfl rfl (bi_rem (c := (((3 + 4 - i % 4) % 4 : Nat) : Int)) (Int.natCast_nonneg _) (by omega) (by first | omega | rfl))) ?_
  refine ZT.q rfl (Wn.no rfl) rfl rfl (fun wq hS => R.indexA (b := b_4) (off := 0) (off' := (0 + ((3 + 4 - i % 4) % 4))) (i := (3 + 4 - i % 4) % 4) rfl rfl rfl (by omega) underlying195 sizeOf5 (by rw [Nat.mul_one])) ?_
  refine ZT.q rfl (Wn.no rfl) rfl rfl (fun wq hS => R.loadE (b := b_4) (off := (0 + ((3 + 4 - i % 4) % 4))) (i := (3 + 4 - i % 4) % 4) (v := (vu8 (f.getD ((3 + 4 - i % 4) % 4) 0))) rfl isAgg5 (hS _ M1) Sg.h rfl (get_u8 (lt_len (K := 4) hf (by omega)))) ?_
  refine ZT.s ?_
  refine OpZ.one rfl (Wn.no rfl) ?_
  refine WL.call Tryz.call162 rfl rfl (c_Times (s.getD (4 * (i / 4) + 3) 0) (f.getD ((3 + 4 - i % 4) % 4) 0) _ ) rfl ?_
  rintro _ w_47 ⟨rfl, hc_46⟩
  have h_48 := h_44.same hc_46
  refine WL.nil ?_
  refine ⟨(N0_1_2 h_48.ok), ?_⟩
  refine ZT.q rfl (Wn.no rfl) rfl rfl (fun wq hS => R.bin rfl rfl (b8_xor (((((pre 16 (mb s f) i).set i (((pre 16 (mb s f) i).getD i 0) ^^^ (tm (s.getD (4 * (i / 4)) 0) (f.getD ((0 + 4 - i % 4) % 4) 0)))).set i ((((pre 16 (mb s f) i).set i (((pre 16 (mb s f) i).getD i 0) ^^^ (tm (s.getD (4 * (i / 4)) 0) (f.getD ((0 + 4 - i % 4) % 4) 0)))).getD i 0) ^^^ (tm (s.getD (4 * (i / 4) + 1) 0) (f.getD ((1 + 4 - i % 4) % 4) 0)))).set i (((((pre 16 (mb s f) i).set i (((pre 16 (mb s f) i).getD i 0) ^^^ (tm (s.getD (4 * (i / 4)) 0) (f.getD ((0 + 4 - i % 4) % 4) 0)))).set i ((((pre 16 (mb s f) i).set i (((pre 16 (mb s f) i).getD i 0) ^^^ (tm (s.getD (4 * (i / 4)) 0) (f.getD ((0 + 4 - i % 4) % 4) 0)))).getD i 0) ^^^ (tm (s.getD (4 * (i / 4) + 1) 0) (f.getD ((1 + 4 - i % 4) % 4) 0)))).getD i 0) ^^^ (tm (s.getD (4 * (i / 4) + 2) 0) (f.getD ((2 + 4 - i % 4) % 4) 0)))).getD i 0) (tm (s.getD (4 * (i / 4) + 3) 0) (f.getD ((3 + 4 - i % 4) % 4) 0)))) ?_
  refine ZT.q rfl (Wn.no rfl) rfl rfl (fun wq hS => R.indexA (b := b_7) (off := 0) (off' := (0 + i)) (i := i) rfl rfl rfl (by omega) underlying152 sizeOf5 (by rw [Nat.mul_one])) ?_
  refine ZT.s ?_
  refine OpZ.last rfl (Wn.no rfl) ?_
  refine WL.storeE (b := b_7) (off := (0 + i)) (i := i) (v := (vu8 ((((((pre 16 (mb s f) i).set i (((pre 16 (mb s f) i).getD i 0) ^^^ (tm (s.getD (4 * (i / 4)) 0) (f.getD ((0 + 4 - i % 4) % 4) 0)))).set i ((((pre 16 (mb s f) i).set i (((pre 16 (mb s f) i).getD i 0) ^^^ (tm (s.getD (4 * (i / 4)) 0) (f.getD ((0 + 4 - i % 4) % 4) 0)))).getD i 0) ^^^ (tm (s.getD (4 * (i / 4) + 1) 0) (f.getD ((1 + 4 - i % 4) % 4) 0)))).set i (((((pre 16 (mb s f) i).set i (((pre 16 (mb s f) i).getD i 0) ^^^ (tm (s.getD (4 * (i / 4)) 0) (f.getD ((0 + 4 - i % 4) % 4) 0)))).set i ((((pre 16 (mb s f) i).set i (((pre 16 (mb s f) i).getD i 0) ^^^ (tm (s.getD (4 * (i / 4)) 0) (f.getD ((0 + 4 - i % 4) % 4) 0)))).getD i 0) ^^^ (tm (s.getD (4 * (i / 4) + 1) 0) (f.getD ((1 + 4 - i % 4) % 4) 0)))).getD i 0) ^^^ (tm (s.getD (4 * (i / 4) + 2) 0) (f.getD ((2 + 4 - i % 4) % 4) 0)))).getD i 0) ^^^ (tm (s.getD (4 * (i / 4) + 3) 0) (f.getD ((3 + 4 - i % 4) % 4) 0))))) (cs' := (((((pre 16 (mb s f) i).set i (((pre 16 (mb s f) i).getD i 0) ^^^ (tm (s.getD (4 * (i / 4)) 0) (f.getD ((0 + 4 - i % 4) % 4) 0)))).set i ((((pre 16 (mb s f) i).set i (((pre 16 (mb s f) i).getD i 0) ^^^ (tm (s.getD (4 * (i / 4)) 0) (f.getD ((0 + 4 - i % 4) % 4) 0)))).getD i 0) ^^^ (tm (s.getD (4 * (i / 4) + 1) 0) (f.getD ((1 + 4 - i % 4) % 4) 0)))).set i (((((pre 16 (mb s f) i).set i (((pre 16 (mb s f) i).getD i 0) ^^^ (tm (s.getD (4 * (i / 4)) 0) (f.getD ((0 + 4 - i % 4) % 4) 0)))).set i ((((pre 16 (mb s f) i).set i (((pre 16 (mb s f) i).getD i 0) ^^^ (tm (s.getD (4 * (i / 4)) 0) (f.getD ((0 + 4 - i % 4) % 4) 0)))).getD i 0) ^^^ (tm (s.getD (4 * (i / 4) + 1) 0) (f.getD ((1 + 4 - i % 4) % 4) 0)))).getD i 0) ^^^ (tm (s.getD (4 * (i / 4) + 2) 0) (f.getD ((2 + 4 - i % 4) % 4) 0)))).set i ((((((pre 16 (mb s f) i).set i (((pre 16 (mb s f) i).getD i 0) ^^^ (tm (s.getD (4 * (i / 4)) 0) (f.getD ((0 + 4 - i % 4) % 4) 0)))).set i ((((pre 16 (mb s f) i).set i (((pre 16 (mb s f) i).getD i 0) ^^^ (tm (s.getD (4 * (i / 4)) 0) (f.getD ((0 + 4 - i % 4) % 4) 0)))).getD i 0) ^^^ (tm (s.getD (4 * (i / 4) + 1) 0) (f.getD ((1 + 4 - i % 4) % 4) 0)))).set i (((((pre 16 (mb s f) i).set i (((pre 16 (mb s f) i).getD i 0) ^^^ (tm (s.getD (4 * (i / 4)) 0) (f.getD ((0 + 4 - i % 4) % 4) 0)))).set i ((((pre 16 (mb s f) i).set i (((pre 16 (mb s f) i).getD i 0) ^^^ (tm (s.getD (4 * (i / 4)) 0) (f.getD ((0 + 4 - i % 4) % 4) 0)))).getD i 0) ^^^ (tm (s.getD (4 * (i / 4) + 1) 0) (f.getD ((1 + 4 - i % 4) % 4) 0)))).getD i 0) ^^^ (tm (s.getD (4 * (i / 4) + 2) 0) (f.getD ((2 + 4 - i % 4) % 4) 0)))).getD i 0) ^^^ (tm (s.getD (4 * (i / 4) + 3) 0) (f.getD ((3 + 4 - i % 4) % 4) 0)))).map vu8) h_48 rfl rfl sizeOf5 rfl At.h (by decide) Sg.h rfl (lt_len (K := 16) (len_map (len_set (len_set (len_set (pre_len hi) _ _) _ _) _ _)) (by omega)) (set_u8 _ _ _) (fun w_49 h_50 => ?_)
  refine WL.nil (ZT.nil (inb_n (thn_n (WP.reg ?_))))
  refine qV rfl (R.bin rfl rfl (bi_add (c := 4) (by omega) (by omega))) (qM (vi 4) rfl rfl ?_)
  refine WL.nil (thn_n ?_)
  refine WI.round ?_
  refine WP.seq (WP.reg ?_)
  refine qV rfl (R.bin rfl rfl (bi_lss (r := false) (by decide))) ?_
  refine WL.nil (thn_n (WP.seq ?_))
  refine WP.condF rfl ?_
  refine WP.exit (thn_x (thn_x (inb_hit (inb_n (thn_n (WP.reg ?_))))))
  refine qV rfl (R.bin rfl rfl (bi_add (c := ((i + 1 : Nat) : Int)) (by omega) (by omega))) (qM (vn (i + 1)) rfl rfl ?_)
  refine WL.nil (thn_n ?_)
  rw [mix_step (s := s) (f := f) (i := i) (by omega) (by rfl) (by rfl) (by rfl) (by rfl)] at h_50
  exact ⟨i + 1, _, (by omega), (U4 rfl rfl rfl rfl (U4 rfl rfl rfl rfl (U4 rfl rfl rfl rfl (U4 rfl rfl rfl rfl (U4 rfl rfl rfl rfl (U4 rfl rfl rfl rfl (U4 rfl rfl rfl rfl (U4 rfl rfl rfl rfl (U4 rfl rfl rfl rfl (U4 rfl rfl rfl rfl (U4 rfl rfl rfl rfl (U4 rfl rfl rfl rfl (U4 rfl rfl rfl rfl (U4 rfl rfl rfl rfl (U4 rfl rfl rfl rfl (U4 rfl rfl rfl rfl (U4 rfl rfl rfl rfl (U4 rfl rfl rfl rfl (U4 rfl rfl rfl rfl (U4 rfl rfl rfl rfl (U4 rfl rfl rfl rfl (U4 rfl rfl rfl rfl (U4 rfl rfl rfl rfl (U4 rfl rfl rfl rfl (U4 rfl rfl rfl rfl (U4 rfl rfl rfl rfl (Ag.updL rfl (Ag.mix _ _ _)))))))))))))))))))))))))))), ⟨rfl, trivial⟩, h_50, (by omega), rfl⟩
 ·have p_51 := of_decide_eq_false c_14
  refine WP.exit (thn_x (thn_x (inb_hit (thn_n (WP.seq (WP.reg ?_))))))
  refine qV rfl (R.loadA [] [(16, (pre 16 (mb s f) i).map vu8)] [] (cs := (pre 16 (mb s f) i).map vu8) rfl isAgg152 sizeOf152 (h_11.ok _ M0) rfl rfl rfl rfl) ?_
  refine WL.storeA [] [(16, (pre 16 (mb s f) i).map vu8)] [(16, (pre 16 (mb s f) i).map vu8)] [] h_11 rfl rfl sizeOf152 At.h (by decide) rfl rfl rfl rfl rfl rfl (sC (s8 (pre_len hi)) sN) (fun w_52 h_53 => ?_)
  refine WL.nil (thn_n (WP.ret ?_))
  refine ret_of results141 (RV.cell rfl (h_53.loadA (cs := (pre 16 (mb s f) i).map vu8) isAgg152 sizeOf152 M0 rfl rfl) RV.nil) ?_
  have hi2 : i = 16 := by omega
  subst hi2
  exact ⟨by rw [pre_all]; rfl, h_53.chgS⟩
theorem c_expand (tb key : List UInt8) (htb : tb.length = 256) (hkey : key.length = 16) (w : World) :
  Cs Tryz.prog 139 [(.agg ⟨key.map vu8⟩), (.agg ⟨tb.map vu8⟩)].toArray w (fun v w1 => v = (.agg ⟨(keysL tb key).map vu8⟩) ∧ Chg w w1 []) := by
 refine Cs.of (n := 63) (args := [(.agg ⟨key.map vu8⟩), (.agg ⟨tb.map vu8⟩)]) Tryz.func139 rfl rfl rfl ?_
 have h_0 := HP.init w
 refine WP.seq (WP.reg ?_)
 refine WL.box (segs := [(16, key.map vu8)]) h_0 rfl rfl (sC (s8 hkey) sN) rfl (fun b_1 w_2 h_3 => ?_)
 refine WL.box (segs := [(256, tb.map vu8)]) h_3 rfl rfl (sC (s8 htb) sN) rfl (fun b_4 w_5 h_6 => ?_)
 refine WL.alloc (segs := [(176, (zB 176).map vu8)]) h_6 (zv typeInfo177 rfl) rfl (sC (s8 lr) sN) rfl (fun b_7 w_8 h_9 => ?_)
 refine WL.nil (thn_n (WP.seq (WP.reg ?_)))
 refine qV rfl (R.loadA [] [(16, key.map vu8)] [] (cs := key.map vu8) rfl isAgg152 sizeOf152 (h_9.ok _ M2) rfl rfl rfl rfl) (qV rfl (R.indexA (b := b_7) (off := 0) (off' := 0) (i := 0) rfl rfl rfl (by decide) underlying177 sizeOf152 rfl) ?_)
 refine WL.storeEA (b := b_7) (off := 0) (i := 0) (ys := key.map vu8) (cs' := (ovr (zB 176) 0 key).map vu8) h_9 rfl rfl sizeOf152 At.h (by decide) Sg.h rfl (len_map hkey) (by rw [len_map lr]; omega) (one_u8 _) (cpOvrA hkey) (fun w_10 h_11 => ?_)
 refine WL.nil (thn_n (WP.seq (WP.reg ?_)))
 refine qA (vu8 1) rfl rfl ?_
 refine WL.nil (thn_n (WP.seq (WP.seq (WP.reg ?_))))
 refine qA (vi 1) rfl rfl ?_
 refine WL.nil (thn_n (WP.block ?_))
 rw [ovr_key (tb := tb) hkey] at h_11
 refine WP.loopG (G := Nat) [5, 6, 7, 8, 9, 12, 13, 14, 15, 16, 17, 18, 19, 20, 21, 22, 23, 24, 25, 26, 27, 28, 29, 30, 31, 32, 33, 34, 35, 36, 37, 38, 39, 40, 41, 42, 43, 44, 45, 46, 47, 48, 49, 50, 51, 52, 53, 54, 55, 56, 57, 58, 59, 60, 61] (fun r => [(5, (vu8 (pwN (r - 1)))), (6, (vn r))]) (fun r m w1 => HP w w1 [.blk b_7 .nw 177 [(176, (pre 176 (K tb key) (16 * r)).map vu8)], .blk b_4 .nw 175 [(256, tb.map vu8)], .blk b_1 .nw 152 [(16, key.map vu8)]] ∧ (1 ≤ r) ∧ (r ≤ 11) ∧ m = 11 - r) ⟨1, _, ⟨rfl, rfl, trivial⟩, h_11, (by omega), (by omega), rfl⟩ ?_
 rintro r m_14 J_15 w_12 ⟨h_13, hr, hr2, rfl⟩
 refine WP.seq (WP.seq (WP.reg ?_))
 refine qM (vn r) rfl rfl (qV rfl (R.bin rfl rfl (bi_lss (r := decide ((((r : Nat) : Int) : Int) < 11)) rfl)) ?_)
 refine WL.nil (thn_n ?_)
 refine WP.cond (b := decide ((((r : Nat) : Int) : Int) < 11)) rfl (fun c_16 => ?_) (fun c_16 => ?_)
 ·have p_17 := of_decide_eq_true c_16
  refine WP.skip (thn_n (WP.seq (WP.block (WP.seq (WP.reg ?_)))))
  refine qM (vn r) rfl rfl (qV rfl (R.bin rfl rfl (bi_sub (c := ((r - 1 : Nat) : Int)) (by omega) (by omega))) (qV rfl (R.indexA (b := b_7) (off := 0) (off' := (0 + ((r - 1) * 16))) (i := r - 1) rfl rfl rfl (by omega) underlying177 sizeOf152 rfl) (qV rfl (R.loadEA (b := b_7) (off := (0 + ((r - 1) * 16))) (i := (r - 1) * 16) (xs := (((pre 176 (K tb key) (16 * r)).drop ((r - 1) * 16)).take 16).map vu8) rfl isAgg152 sizeOf152 (h_13.ok _ M0) Sg.h rfl (by rw [List.map_take, List.map_drop]) (len_map (subLen (K := 176) (pre_len (by omega)) (by omega) : List.length (((pre 176 (K tb key) (16 * r)).drop ((r - 1) * 16)).take 16) = 16))) ?_)))
  refine WL.alloc (segs := [(16, (zB 16).map vu8)]) h_13 (zv typeInfo152 rfl) rfl (sC (s8 lr) sN) rfl (fun b_18 w_19 h_20 => ?_)
  refine WL.storeA [] [(16, (zB 16).map vu8)] [(16, (((pre 176 (K tb key) (16 * r)).drop ((r - 1) * 16)).take 16).map vu8)] [] h_20 rfl rfl sizeOf152 At.h (by decide) rfl rfl rfl rfl rfl rfl (sC (s8 (subLen (K := 176) (pre_len (by omega)) (by omega) : List.length (((pre 176 (K tb key) (16 * r)).drop ((r - 1) * 16)).take 16) = 16)) sN) (fun w_21 h_22 => ?_)
  refine WL.nil (thn_n (WP.seq ?_))
  refine WP.drawZ 20 (SL w.heap.size [.blk b_18 .nw 152 [(16, (((pre 176 (K tb key) (16 * r)).drop ((r - 1) * 16)).take 16).map vu8)], .blk b_7 .nw 177 [(176, (pre 176 (K tb key) (16 * r)).map vu8)], .blk b_4 .nw 175 [(256, tb.map vu8)], .blk b_1 .nw 152 [(16, key.map vu8)]]) (.q 0 (.q 1 (.q 2 (.q 3 (.q 4 (.q 5 (.q 6 (.q 7 (.q 8 (.q 9 (.q 10 (.q 11 (.q 12 (.q 13 (.q 14 (.q 15 (.q 16 (.q 17 (.q 18 (.s 19 (.s 20 .nil))))))))))))))))))))) (by kernel_rfl) (by kernel_rfl) rfl (by kernel_rfl) (fun w_23 hc_25 => (SL.cons ((h_22.same hc_25).ok _ M0) (SL.cons ((h_22.same hc_25).ok _ M1) (SL.cons ((h_22.same hc_25).ok _ M2) (SL.cons ((h_22.same hc_25).ok _ M3) (SL.nil _ _)))))) (fun w_23 hc_25 => ?_)
  have h_24 := h_22.same hc_25
  refine ZT.q rfl (Wn.no rfl) rfl rfl (fun wq hS => R.indexA (b := b_18) (off := 0) (off' := 13) (i := 13) rfl rfl rfl (by decide) underlying152 sizeOf5 rfl) ?_
  refine ZT.q rfl (Wn.no rfl) rfl rfl (fun wq hS => R.loadE (b := b_18) (off := 13) (i := 13) (v := (vu8 ((((pre 176 (K tb key) (16 * r)).drop ((r - 1) * 16)).take 16).getD 13 0))) rfl isAgg5 (hS _ M0) Sg.h rfl (get_u8 (lt_len (K := 16) (subLen (K := 176) (pre_len (by omega)) (by omega) : List.length (((pre 176 (K tb key) (16 * r)).drop ((r - 1) * 16)).take 16) = 16) (by decide)))) ?_
  refine ZT.q rfl (Wn.no rfl) rfl rfl (fun wq hS => R.indexA (b := b_4) (off := 0) (off' := (0 + (((((pre 176 (K tb key) (16 * r)).drop ((r - 1) * 16)).take 16).getD 13 0).toNat))) (i := ((((pre 176 (K tb key) (16 * r)).drop ((r - 1) * 16)).take 16).getD 13 0).toNat) rfl rfl rfl (UInt8.toNat_lt _) underlying175 sizeOf5 (by rw [Nat.mul_one])) ?_
  refine ZT.q rfl (Wn.no rfl) rfl rfl (fun wq hS => R.loadE (b := b_4) (off := (0 + (((((pre 176 (K tb key) (16 * r)).drop ((r - 1) * 16)).take 16).getD 13 0).toNat))) (i := ((((pre 176 (K tb key) (16 * r)).drop ((r - 1) * 16)).take 16).getD 13 0).toNat) (v := (vu8 (tb.getD (((((pre 176 (K tb key) (16 * r)).drop ((r - 1) * 16)).take 16).getD 13 0).toNat) 0))) rfl isAgg5 (hS _ M2) Sg.h rfl (get_u8 (lt_len (K := 256) htb (UInt8.toNat_lt _)))) ?_
  refine ZT.q rfl (Wn.no rfl) rfl rfl (fun wq hS => R.move (v := (vu8 (pwN (r - 1)))) rfl) ?_
  refine ZT.q rfl (Wn.no rfl) rfl rfl (fun wq hS => R.bin rfl rfl (b8_xor (tb.getD (((((pre 176 (K tb key) (16 * r)).drop ((r - 1) * 16)).take 16).getD 13 0).toNat) 0) (pwN (r - 1)))) ?_
  refine ZT.q rfl (Wn.no rfl) rfl rfl (fun wq hS => R.indexA (b := b_18) (off := 0) (off' := 14) (i := 14) rfl rfl rfl (by decide) underlying152 sizeOf5 rfl) ?_
  refine ZT.q rfl (Wn.no rfl) rfl rfl (fun wq hS => R.loadE (b := b_18) (off := 14) (i := 14) (v := (vu8 ((((pre 176 (K tb key) (16 * r)).drop ((r - 1) * 16)).take 16).getD 14 0))) rfl isAgg5 (hS _ M0) Sg.h rfl (get_u8 (lt_len (K := 16) (subLen (K := 176) (pre_len (by omega)) (by omega) : List.length (((pre 176 (K tb key) (16 * r)).drop ((r - 1) * 16)).take 16) = 16) (by decide)))) ?_
  refine ZT.q rfl (Wn.no rfl) rfl rfl (fun wq hS => R.indexA (b := b_4) (off := 0) (off' := (0 + (((((pre 176 (K tb key) (16 * r)).drop ((r - 1) * 16)).take 16).getD 14 0).toNat))) (i := ((((pre 176 (K tb key) (16 * r)).drop ((r - 1) * 16)).take 16).getD 14 0).toNat) rfl rfl rfl (UInt8.toNat_lt _) underlying175 sizeOf5 (by rw [Nat.mul_one])) ?_
  refine ZT.q rfl (Wn.no rfl) rfl rfl (fun wq hS => R.loadE (b := b_4) (off := (0 + (((((pre 176 (K tb key) (16 * r)).drop ((r - 1) * 16)).take 16).getD 14 0).toNat))) (i := ((((pre 176 (K tb key) (16 * r)).drop ((r - 1) * 16)).take 16).getD 14 0).toNat) (v := (vu8 (tb.getD (((((pre 176 (K tb key) (16 * r)).drop ((r - 1) * 16)).take 16).getD 14 0).toNat) 0))) rfl isAgg5 (hS _ M2) Sg.h rfl (get_u8 (lt_len (K := 256) htb (UInt8.toNat_lt _)))) ?_
  refine ZT.q rfl (Wn.no rfl) rfl rfl (fun wq hS => R.indexA (b := b_18) (off := 0) (off' := 15) (i := 15) rfl rfl rfl (by decide) underlying152 sizeOf5 rfl) ?_
  refine ZT.q rfl (Wn.no rfl) rfl rfl (fun wq hS => R.loadE (b := b_18) (off := 15) (i := 15) (v := (vu8 ((((pre 176 (K tb key) (16 * r)).drop ((r - 1) * 16)).take 16).getD 15 0))) rfl isAgg5 (hS _ M0) Sg.h rfl (get_u8 (lt_len (K := 16) (subLen (K := 176) (pre_len (by omega)) (by omega) : List.length (((pre 176 (K tb key) (16 * r)).drop ((r - 1) * 16)).take 16) = 16) (by decide)))) ?_
  refine ZT.q rfl (Wn.no rfl) rfl rfl (fun wq hS => R.indexA (b := b_4) (off := 0) (off' := (0 + (((((pre 176 (K tb key) (16 * r)).drop ((r - 1) * 16)).take 16).getD 15 0).toNat))) (i := ((((pre 176 (K tb key) (16 * r)).drop ((r - 1) * 16)).take 16).getD 15 0).toNat) rfl rfl rfl (UInt8.toNat_lt _) underlying175 sizeOf5 (by rw [Nat.mul_one])) ?_
  refine ZT.q rfl (Wn.no rfl) rfl rfl (fun wq hS => R.loadE (b := b_4) (off := (0 + (((((pre 176 (K tb key) (16 * r)).drop ((r - 1) * 16)).take 16).getD 15 0).toNat))) (i := ((((pre 176 (K tb key) (16 * r)).drop ((r - 1) * 16)).take 16).getD 15 0).toNat) (v := (vu8 (tb.getD (((((pre 176 (K tb key) (16 * r)).drop ((r - 1) * 16)).take 16).getD 15 0).toNat) 0))) rfl isAgg5 (hS _ M2) Sg.h rfl (get_u8 (lt_len (K := 256) htb (UInt8.toNat_lt _)))) ?_
  refine ZT.q rfl (Wn.no rfl) rfl rfl (fun wq hS => R.indexA (b := b_18) (off := 0) (off' := 12) (i := 12) rfl rfl rfl (by decide) underlying152 sizeOf5 rfl) ?_
  refine ZT.q rfl (Wn.no rfl) rfl rfl (fun wq hS => R.loadE (b := b_18) (off := 12) (i := 12) (v := (vu8 ((((pre 176 (K tb key) (16 * r)).drop ((r - 1) * 16)).take 16).getD 12 0))) rfl isAgg5 (hS _ M0) Sg.h rfl (get_u8 (lt_len (K := 16) (subLen (K := 176) (pre_len (by omega)) (by omega) : List.length (((pre 176 (K tb key) (16 * r)).drop ((r - 1) * 16)).take 16) = 16) (by decide)))) ?_
  refine ZT.q rfl (Wn.no rfl) rfl rfl (fun wq hS => R.indexA (b := b_4) (off := 0) (off' := (0 + (((((pre 176 (K tb key) (16 * r)).drop ((r - 1) * 16)).take 16).getD 12 0).toNat))) (i := ((((pre 176 (K tb key) (16 * r)).drop ((r - 1) * 16)).take 16).getD 12 0).toNat) rfl rfl rfl (UInt8.toNat_lt _) underlying175 sizeOf5 (by rw [Nat.mul_one])) ?_
  refine ZT.q rfl (Wn.no rfl) rfl rfl (fun wq hS => R.loadE (b := b_4) (off := (0 + (((((pre 176 (K tb key) (16 * r)).drop ((r - 1) * 16)).take 16).getD 12 0).toNat))) (i := ((((pre 176 (K tb key) (16 * r)).drop ((r - 1) * 16)).take 16).getD 12 0).toNat) (v := (vu8 (tb.getD (((((pre 176 (K tb key) (16 * r)).drop ((r - 1) * 16)).take 16).getD 12 0).toNat) 0))) rfl isAgg5 (hS _ M2) Sg.h rfl (get_u8 (lt_len (K := 256) htb (UInt8.toNat_lt _)))) ?_
  refine ZT.q rfl (Wn.no rfl) rfl rfl (fun wq hS => R.buildA (vs := [(0, (vu8 ((tb.getD (((((pre 176 (K tb key) (16 * r)).drop ((r - 1) * 16)).take 16).getD 13 0).toNat) 0) ^^^ (pwN (r - 1))))), (1, (vu8 (tb.getD (((((pre 176 (K tb key) (16 * r)).drop ((r - 1) * 16)).take 16).getD 14 0).toNat) 0))), (2, (vu8 (tb.getD (((((pre 176 (K tb key) (16 * r)).drop ((r - 1) * 16)).take 16).getD 15 0).toNat) 0))), (3, (vu8 (tb.getD (((((pre 176 (K tb key) (16 * r)).drop ((r - 1) * 16)).take 16).getD 12 0).toNat) 0)))]) (cs := ([(tb.getD (((((pre 176 (K tb key) (16 * r)).drop ((r - 1) * 16)).take 16).getD 13 0).toNat) 0) ^^^ (pwN (r - 1)), tb.getD (((((pre 176 (K tb key) (16 * r)).drop ((r - 1) * 16)).take 16).getD 14 0).toNat) 0, tb.getD (((((pre 176 (K tb key) (16 * r)).drop ((r - 1) * 16)).take 16).getD 15 0).toNat) 0, tb.getD (((((pre 176 (K tb key) (16 * r)).drop ((r - 1) * 16)).take 16).getD 12 0).toNat) 0] : List UInt8).map vu8) underlying195 sizeOf5 (zv typeInfo195 rfl) rfl rfl) ?_
  refine ZT.s ?_
  refine OpZ.one rfl (Wn.no rfl) ?_
  refine WL.alloc (segs := [(4, (zB 4).map vu8)]) h_24 (zv typeInfo195 rfl) rfl (sC (s8 lr) sN) rfl (fun b_26 w_27 h_28 => ?_)
  refine WL.nil ?_
  refine ⟨(N1_2_3_4 h_28.ok), ?_⟩
  refine ZT.s ?_
  refine OpZ.last rfl (Wn.no rfl) ?_
  refine WL.storeA [] [(4, (zB 4).map vu8)] [(4, ([(tb.getD (((((pre 176 (K tb key) (16 * r)).drop ((r - 1) * 16)).take 16).getD 13 0).toNat) 0) ^^^ (pwN (r - 1)), tb.getD (((((pre 176 (K tb key) (16 * r)).drop ((r - 1) * 16)).take 16).getD 14 0).toNat) 0, tb.getD (((((pre 176 (K tb key) (16 * r)).drop ((r - 1) * 16)).take 16).getD 15 0).toNat) 0, tb.getD (((((pre 176 (K tb key) (16 * r)).drop ((r - 1) * 16)).take 16).getD 12 0).toNat) 0] : List UInt8).map vu8)] [] h_28 rfl rfl sizeOf195 At.h (by decide) rfl rfl rfl rfl rfl rfl (sC (s8 (rfl : List.length ([(tb.getD (((((pre 176 (K tb key) (16 * r)).drop ((r - 1) * 16)).take 16).getD 13 0).toNat) 0) ^^^ (pwN (r - 1)), tb.getD (((((pre 176 (K tb key) (16 * r)).drop ((r - 1) * 16)).take 16).getD 14 0).toNat) 0, tb.getD (((((pre 176 (K tb key) (16 * r)).drop ((r - 1) * 16)).take 16).getD 15 0).toNat) 0, tb.getD (((((pre 176 (K tb key) (16 * r)).drop ((r - 1) * 16)).take 16).getD 12 0).toNat) 0] : List UInt8) = 4)) sN) (fun w_29 h_30 => ?_)
  refine WL.nil (ZT.nil (thn_n (WP.seq (WP.reg ?_))))
  refine qM (vu8 (pwN (r - 1))) rfl rfl ?_
  refine WL.call Tryz.call160 rfl rfl (c_double (pwN (r - 1)) _ ) rfl ?_
  rintro _ w_32 ⟨rfl, hc_31⟩
  have h_33 := h_30.same hc_31
  refine qA (vu8 (dbl (pwN (r - 1)))) rfl rfl ?_
  refine WL.nil (thn_n (WP.seq (WP.reg ?_)))
  refine qM (vi 0) rfl rfl ?_
  refine WL.nil (thn_n (WP.block ?_))
  rw [ex_t hr] at h_33
  refine WP.loopG (G := Nat) [9, 41, 42, 43, 44, 45, 46, 47, 48, 49, 50, 51, 52, 53, 54, 55, 56, 57, 58, 59, 60, 61] (fun i => [(41, (vn i))]) (fun i m w1 => HP w w1 [.blk b_26 .nw 195 [(4, (tL tb (K tb key) r i).map vu8)], .blk b_18 .nw 152 [(16, (((pre 176 (K tb key) (16 * r)).drop ((r - 1) * 16)).take 16).map vu8)], .blk b_7 .nw 177 [(176, (pre 176 (K tb key) (16 * r + i)).map vu8)], .blk b_4 .nw 175 [(256, tb.map vu8)], .blk b_1 .nw 152 [(16, key.map vu8)]] ∧ (i ≤ 16) ∧ m = 16 - i) ⟨0, _, ⟨rfl, trivial⟩, h_33, (by omega), rfl⟩ ?_
  rintro i m_36 J_37 w_34 ⟨h_35, hi, rfl⟩
  refine WP.seq (WP.reg ?_)
  refine qV rfl (R.bin rfl rfl (bi_lss (r := decide ((((i : Nat) : Int) : Int) < 16)) rfl)) ?_
  refine WL.nil (thn_n (WP.seq ?_))
  refine WP.cond (b := decide ((((i : Nat) : Int) : Int) < 16)) rfl (fun c_38 => ?_) (fun c_38 => ?_)
  ·have p_39 := of_decide_eq_true c_38
   refine WP.skip (thn_n (WP.seq (WP.block (WP.seq (WP.reg ?_)))))
   refine qM (vn i) rfl rfl (qA (vn i) rfl rfl ?_)
   refine WL.nil (thn_n (WP.seq ?_))
   refine WP.drawZ 9 (SL w.heap.size [.blk b_26 .nw 195 [(4, (tL tb (K tb key) r i).map vu8)], .blk b_18 .nw 152 [(16, (((pre 176 (K tb key) (16 * r)).drop ((r - 1) * 16)).take 16).map vu8)], .blk b_7 .nw 177 [(176, (pre 176 (K tb key) (16 * r + i)).map vu8)], .blk b_4 .nw 175 [(256, tb.map vu8)], .blk b_1 .nw 152 [(16, key.map vu8)]]) (.q 0 (.q 1 (.q 2 (.q 3 (.q 4 (.q 5 (.q 6 (.q 7 (.q 8 (.s 9 .nil)))))))))) (by kernel_rfl) (by kernel_rfl) rfl (by kernel_rfl) (fun w_40 hc_42 => (SL.cons ((h_35.same hc_42).ok _ M0) (SL.cons ((h_35.same hc_42).ok _ M1) (SL.cons ((h_35.same hc_42).ok _ M2) (SL.cons ((h_35.same hc_42).ok _ M3) (SL.cons ((h_35.same hc_42).ok _ M4) (SL.nil _ _))))))) (fun w_40 hc_42 => ?_)
   have h_41 := h_35.same hc_42
   refine ZT.q rfl (Wn.no rfl) rfl rfl (fun wq hS => R.move (v := (vn i)) rfl) ?_
   refine ZT.q rfl (Wn.no rfl) rfl rfl (fun wq hS => R.bin rfl rfl (bi_rem (c := ((i % 4 : Nat) : Int)) (Int.natCast_nonneg _) (by omega) (by first | omega | rfl))) ?_
   refine ZT.q rfl (Wn.no rfl) rfl rfl (fun wq hS => R.indexA (b := b_26) (off := 0) (off' := (0 + (i % 4))) (i := i % 4) rfl rfl rfl (by omega) underlying195 sizeOf5 (by rw [Nat.mul_one])) ?_
   refine ZT.q rfl (Wn.no rfl) rfl rfl (fun wq hS => R.loadE (b := b_26) (off := (0 + (i % 4))) (i := i % 4) (v := (vu8 ((tL tb (K tb key) r i).getD (i % 4) 0))) rfl isAgg5 (hS _ M0) Sg.h rfl (get_u8 (lt_len (K := 4) (tL_len ..) (by omega)))) ?_
   refine ZT.q rfl (Wn.no rfl) rfl rfl (fun wq hS => R.move (v := (vn i)) rfl) ?_
   refine ZT.q rfl (Wn.no rfl) rfl rfl (fun wq hS => R.indexA (b := b_18) (off := 0) (off' := (0 + i)) (i := i) rfl rfl rfl (by omega) underlying152 sizeOf5 (by rw [Nat.mul_one])) ?_
   refine ZT.q rfl (Wn.no rfl) rfl rfl (fun wq hS => R.loadE (b := b_18) (off := (0 + i)) (i := i) (v := (vu8 ((((pre 176 (K tb key) (16 * r)).drop ((r - 1) * 16)).take 16).getD i 0))) rfl isAgg5 (hS _ M1) Sg.h rfl (get_u8 (lt_len (K := 16) (subLen (K := 176) (pre_len (by omega)) (by omega) : List.length (((pre 176 (K tb key) (16 * r)).drop ((r - 1) * 16)).take 16) = 16) (by omega)))) ?_
   refine ZT.q rfl (Wn.no rfl) rfl rfl (fun wq hS => R.bin rfl rfl (b8_xor ((tL tb (K tb key) r i).getD (i % 4) 0) ((((pre 176 (K tb key) (16 * r)).drop ((r - 1) * 16)).take 16).getD i 0))) ?_
   refine ZT.q rfl (Wn.no rfl) rfl rfl (fun wq hS => R.indexA (b := b_26) (off := 0) (off' := (0 + (i % 4))) (i := i % 4) rfl rfl rfl (by omega) underlying195 sizeOf5 (by rw [Nat.mul_one])) ?_
   refine ZT.s ?_
   refine OpZ.last rfl (Wn.no rfl) ?_
   refine WL.storeE (b := b_26) (off := (0 + (i % 4))) (i := i % 4) (v := (vu8 (((tL tb (K tb key) r i).getD (i % 4) 0) ^^^ ((((pre 176 (K tb key) (16 * r)).drop ((r - 1) * 16)).take 16).getD i 0)))) (cs' := ((tL tb (K tb key) r i).set (i % 4) (((tL tb (K tb key) r i).getD (i % 4) 0) ^^^ ((((pre 176 (K tb key) (16 * r)).drop ((r - 1) * 16)).take 16).getD i 0))).map vu8) h_41 rfl rfl sizeOf5 rfl At.h (by decide) Sg.h rfl (lt_len (K := 4) (len_map (tL_len ..)) (by omega)) (set_u8 _ _ _) (fun w_43 h_44 => ?_)
   refine WL.nil (ZT.nil (thn_n ?_))
   refine WP.drawT (SL w.heap.size [.blk b_26 .nw 195 [(4, ((tL tb (K tb key) r i).set (i % 4) (((tL tb (K tb key) r i).getD (i % 4) 0) ^^^ ((((pre 176 (K tb key) (16 * r)).drop ((r - 1) * 16)).take 16).getD i 0))).map vu8)], .blk b_18 .nw 152 [(16, (((pre 176 (K tb key) (16 * r)).drop ((r - 1) * 16)).take 16).map vu8)], .blk b_4 .nw 175 [(256, tb.map vu8)], .blk b_1 .nw 152 [(16, key.map vu8)]]) (.q 0 (.q 1 (.q 2 (.q 3 (.q 4 (.q 5 (.q 6 (.q 7 (.s 8 .nil))))))))) (by kernel_rfl) (by kernel_rfl) rfl (by kernel_rfl) (fun w_45 hc_47 => (SL.cons ((h_44.same hc_47).ok _ M0) (SL.cons ((h_44.same hc_47).ok _ M1) (SL.cons ((h_44.same hc_47).ok _ M3) (SL.cons ((h_44.same hc_47).ok _ M4) (SL.nil _ _)))))) (fun w_45 hc_47 => ?_)
   have h_46 := h_44.same hc_47
   refine qT rfl rfl (fun wq hS => R.move (v := (vn r)) rfl) ?_
   refine qT rfl rfl (fun wq hS => R.move (v := (vn i)) rfl) ?_
   refine qT rfl rfl (fun wq hS => R.move (v := (vn i)) rfl) ?_
   refine qT rfl rfl (fun wq hS => R.bin rfl rfl (bi_rem (c := ((i % 4 : Nat) : Int)) (Int.natCast_nonneg _) (by omega) (by first | omega | rfl))) ?_
   refine qT rfl rfl (fun wq hS => R.indexA (b := b_26) (off := 0) (off' := (0 + (i % 4))) (i := i % 4) rfl rfl rfl (by omega) underlying195 sizeOf5 (by rw [Nat.mul_one])) ?_
   refine qT rfl rfl (fun wq hS => R.loadE (b := b_26) (off := (0 + (i % 4))) (i := i % 4) (v := (vu8 (((tL tb (K tb key) r i).set (i % 4) (((tL tb (K tb key) r i).getD (i % 4) 0) ^^^ ((((pre 176 (K tb key) (16 * r)).drop ((r - 1) * 16)).take 16).getD i 0))).getD (i % 4) 0))) rfl isAgg5 (hS _ M0) Sg.h rfl (get_u8 (lt_len (K := 4) (len_set (tL_len ..) _ _) (by omega)))) ?_
   refine qT rfl rfl (fun wq hS => R.indexA (b := b_7) (off := 0) (off' := (0 + (r * 16))) (i := r) rfl rfl rfl (by omega) underlying177 sizeOf152 rfl) ?_
   refine qT rfl rfl (fun wq hS => R.indexA (b := b_7) (off := (0 + (r * 16))) (off' := (0 + (r * 16 + i))) (i := i) rfl rfl rfl (by omega) underlying152 sizeOf5 (by omega)) ?_
   refine WT.s (oN rfl ?_)
   refine WL.storeE (b := b_7) (off := (0 + (r * 16 + i))) (i := r * 16 + i) (v := (vu8 (((tL tb (K tb key) r i).set (i % 4) (((tL tb (K tb key) r i).getD (i % 4) 0) ^^^ ((((pre 176 (K tb key) (16 * r)).drop ((r - 1) * 16)).take 16).getD i 0))).getD (i % 4) 0))) (cs' := ((pre 176 (K tb key) (16 * r + i)).set (r * 16 + i) (((tL tb (K tb key) r i).set (i % 4) (((tL tb (K tb key) r i).getD (i % 4) 0) ^^^ ((((pre 176 (K tb key) (16 * r)).drop ((r - 1) * 16)).take 16).getD i 0))).getD (i % 4) 0)).map vu8) h_46 rfl rfl sizeOf5 rfl Y2 (by decide) Sg.h rfl (lt_len (K := 176) (len_map (pre_len (by omega))) (by omega)) (set_u8 _ _ _) (fun w_48 h_49 => ?_)
   refine WL.nil ?_
   refine ⟨(SL.cons (h_49.ok _ M0) (SL.cons (h_49.ok _ M1) (SL.cons (h_49.ok _ M3) (SL.cons (h_49.ok _ M4) (SL.nil _ _))))), ?_⟩
   refine WT.nil (inb_n (thn_n (WP.reg ?_)))
   refine qV rfl (R.bin rfl rfl (bi_add (c := ((i + 1 : Nat) : Int)) (by omega) (by omega))) (qM (vn (i + 1)) rfl rfl ?_)
   refine WL.nil (thn_n ?_)
   have ex := ex_in (tb := tb) hkey hr (by omega) (i := i) (by omega) (x := (((pre 176 (K tb key) (16 * r)).drop ((r - 1) * 16)).take 16).getD i 0) (last_get (m := 0) hr (by omega))
   rw [ex.2, ex.1] at h_49
   exact ⟨i + 1, _, (by omega), (U2 rfl rfl (U4 rfl rfl rfl rfl (U4 rfl rfl rfl rfl (U4 rfl rfl rfl rfl (U4 rfl rfl rfl rfl (U4 rfl rfl rfl rfl (Ag.updL rfl (Ag.mix _ _ _)))))))), ⟨rfl, trivial⟩, h_49, (by omega), rfl⟩
  ·have p_50 := of_decide_eq_false c_38
   refine WP.exit (thn_x (thn_x (inb_hit (inb_n (thn_n (WP.reg ?_))))))
   refine qM (vn r) rfl rfl (qV rfl (R.bin rfl rfl (bi_add (c := ((r + 1 : Nat) : Int)) (by omega) (by omega))) (qA (vn (r + 1)) rfl rfl ?_))
   refine WL.nil (thn_n ?_)
   have hi16 : i = 16 := by omega
   subst hi16
   have h_52 := (h_35.drop rfl).drop rfl
   rw [show 16 * r + 16 = 16 * (r + 1) by omega] at h_52
   exact ⟨r + 1, _, (by omega), (U4 rfl rfl rfl rfl (Ag.updL rfl (Ag.trans (Ag.sub rfl (Ag.mix _ _ _)) (Ag.upd rfl (Ag.upd rfl (Ag.upd rfl (Ag.upd rfl (Ag.upd rfl (Ag.upd rfl (Ag.upd rfl (Ag.upd rfl (Ag.upd rfl (Ag.upd rfl (Ag.upd rfl (Ag.upd rfl (Ag.upd rfl (Ag.upd rfl (Ag.upd rfl (Ag.upd rfl (Ag.upd rfl (Ag.upd rfl (Ag.upd rfl (Ag.upd rfl (Ag.upd rfl (Ag.upd rfl (Ag.upd rfl (Ag.upd rfl (Ag.upd rfl (Ag.upd rfl (Ag.upd rfl (Ag.upd rfl (Ag.upd rfl (Ag.upd rfl (Ag.upd rfl (Ag.updL rfl (Ag.mix _ _ _)))))))))))))))))))))))))))))))))))), ⟨congrArg vu8 (pw_next hr), rfl, trivial⟩, h_52, (by omega), (by omega), rfl⟩
 ·have p_53 := of_decide_eq_false c_16
  refine WP.exit (thn_x (thn_x (inb_hit (thn_n (WP.seq (WP.reg ?_))))))
  refine qV rfl (R.loadA [] [(176, (pre 176 (K tb key) (16 * r)).map vu8)] [] (cs := (pre 176 (K tb key) (16 * r)).map vu8) rfl isAgg177 sizeOf177 (h_13.ok _ M0) rfl rfl rfl rfl) ?_
  refine WL.storeA [] [(176, (pre 176 (K tb key) (16 * r)).map vu8)] [(176, (pre 176 (K tb key) (16 * r)).map vu8)] [] h_13 rfl rfl sizeOf177 At.h (by decide) rfl rfl rfl rfl rfl rfl (sC (s8 (pre_len (by omega))) sN) (fun w_54 h_55 => ?_)
  refine WL.nil (thn_n (WP.ret ?_))
  refine ret_of results139 (RV.cell rfl (h_55.loadA (cs := (pre 176 (K tb key) (16 * r)).map vu8) isAgg177 sizeOf177 M0 rfl rfl) RV.nil) ?_
  have hr11 : r = 11 := by omega
  subst hr11
  exact ⟨by rw [show 16 * 11 = 176 from rfl, pre_all]; rfl, h_55.chgS⟩

theorem c_open (key : List UInt8) (hkey : key.length = 16) (w : World) :
  Cs Tryz.prog 119 [(.agg ⟨key.map vu8⟩)].toArray w (fun v w1 => ∃ b, v = .pointer (some ⟨b, 0, none⟩) ∧ Chg w w1 [] ∧ w.heap.size ≤ b ∧ CellsAt w1 b 192 (flat [(176, (keysL (tabL sub) key).map vu8), (256, (tabL sub).map vu8)])) := by
 refine Cs.of (n := 11) (args := [(.agg ⟨key.map vu8⟩)]) Tryz.func119 rfl rfl rfl ?_
 have h_0 := HP.init w
 refine WP.seq (WP.reg ?_)
 refine WL.box (segs := [(16, key.map vu8)]) h_0 rfl rfl (sC (s8 hkey) sN) rfl (fun b_1 w_2 h_3 => ?_)
 refine qA (.pointer none) rfl rfl ?_
 refine WL.nil (thn_n (WP.seq (WP.reg ?_)))
 refine WL.call Tryz.call137 rfl rfl (c_tableSub  _ ) rfl ?_
 rintro _ w_5 ⟨rfl, hc_4⟩
 have h_6 := h_3.same hc_4
 refine WL.alloc (segs := [(256, (zB 256).map vu8)]) h_6 (zv typeInfo175 rfl) rfl (sC (s8 lr) sN) rfl (fun b_7 w_8 h_9 => ?_)
 refine WL.storeA [] [(256, (zB 256).map vu8)] [(256, (tabL sub).map vu8)] [] h_9 rfl rfl sizeOf175 At.h (by decide) rfl rfl rfl rfl rfl rfl (sC (s8 (tabL_len sub)) sN) (fun w_10 h_11 => ?_)
 refine WL.nil (thn_n (WP.seq ?_))
 refine WP.drawT (SL w.heap.size [.blk b_7 .nw 175 [(256, (tabL sub).map vu8)], .blk b_1 .nw 152 [(16, key.map vu8)]]) (.q 0 (.q 1 (.q 3 (.s 2 (.q 4 (.s 5 (.q 6 .nil))))))) (by kernel_rfl) (by kernel_rfl) rfl (by kernel_rfl) (fun w_12 hc_14 => (SL.cons ((h_11.same hc_14).ok _ M0) (SL.cons ((h_11.same hc_14).ok _ M1) (SL.nil _ _)))) (fun w_12 hc_14 => ?_)
 have h_13 := h_11.same hc_14
 refine qT rfl rfl (fun wq hS => R.loadA [] [(16, key.map vu8)] [] (cs := key.map vu8) rfl isAgg152 sizeOf152 (hS _ M1) rfl rfl rfl rfl) ?_
 refine qT rfl rfl (fun wq hS => R.loadA [] [(256, (tabL sub).map vu8)] [] (cs := (tabL sub).map vu8) rfl isAgg175 sizeOf175 (hS _ M0) rfl rfl rfl rfl) ?_
 refine qT rfl rfl (fun wq hS => R.loadA [] [(256, (tabL sub).map vu8)] [] (cs := (tabL sub).map vu8) rfl isAgg175 sizeOf175 (hS _ M0) rfl rfl rfl rfl) ?_
 refine WT.s (oN rfl ?_)
 refine WL.call Tryz.call139 rfl rfl (c_expand (tabL sub) key (tabL_len sub) hkey _ ) rfl ?_
 rintro _ w_16 ⟨rfl, hc_15⟩
 have h_17 := h_13.same hc_15
 refine WL.nil ?_
 refine ⟨(N0_1 h_17.ok), ?_⟩
 refine qT rfl rfl (fun wq hS => R.buildS (pl := [(0, 176), (176, 256)]) (zs := [(176, (zB 176).map vu8), (256, (zB 256).map vu8)]) (vs := [(0, (.agg ⟨(keysL (tabL sub) key).map vu8⟩)), (1, (.agg ⟨(tabL sub).map vu8⟩))]) (out := [(176, (keysL (tabL sub) key).map vu8), (256, (tabL sub).map vu8)]) underlying192 (zv typeInfo192 rfl) rfl (sC (s8 lr) (sC (s8 lr) sN)) (pl192 _ underlying192) rfl (FillR.cons [] [(176, (zB 176).map vu8)] [(176, (keysL (tabL sub) key).map vu8)] [(256, (zB 256).map vu8)] rfl rfl rfl rfl (sC (s8 (keysL_len ..)) sN) rfl rfl rfl (FillR.cons [(176, (keysL (tabL sub) key).map vu8)] [(256, (zB 256).map vu8)] [(256, (tabL sub).map vu8)] [] rfl rfl rfl rfl (sC (s8 (tabL_len sub)) sN) rfl rfl rfl FillR.nil)) rfl) ?_
 refine WT.s (oN rfl ?_)
 refine WL.box (segs := [(176, (keysL (tabL sub) key).map vu8), (256, (tabL sub).map vu8)]) h_17 rfl rfl (sC (s8 (keysL_len ..)) (sC (s8 (tabL_len sub)) sN)) rfl (fun b_19 w_20 h_21 => ?_)
 refine WL.nil ?_
 refine ⟨(N1_2 h_21.ok), ?_⟩
 refine qT rfl rfl (fun wq hS => R.assign (v := (pO b_19 0)) rfl) ?_
 refine WT.nil (thn_n (WP.ret ?_))
 refine ret_of results119 (RV.tmp (v := (pO b_19 0)) rfl RV.nil) ?_
 exact ⟨_, rfl, h_21.chgS, h_21.newB M0, h_21.cells M0⟩

theorem c_do (keys tb blk : List UInt8) (hks : keys.length = 176) (htb : tb.length = 256) (hbl : blk.length = 16) (bc : Nat) (w : World) (hcb : (Ent.blk bc .ro 192 [(176, keys.map vu8), (256, tb.map vu8)]).ok w.heap.size w) :
  Cs Tryz.prog 120 [(.pointer (some ⟨bc, 0, none⟩)), (.agg ⟨blk.map vu8⟩)].toArray w (fun v w1 => v = (.agg ⟨(encN keys tb blk 10).map vu8⟩) ∧ Chg w w1 []) := by
 refine Cs.of (n := 53) (args := [(pO bc 0), (.agg ⟨blk.map vu8⟩)]) Tryz.func120 rfl rfl rfl ?_
 have h_0 := HP.init w
 have h_00 := h_0.old hcb (fun f hf => by cases hf)
 refine WP.seq (WP.reg ?_)
 refine WL.box (segs := [(16, blk.map vu8)]) h_00 rfl rfl (sC (s8 hbl) sN) rfl (fun b_1 w_2 h_3 => ?_)
 refine WL.alloc (segs := [(16, (zB 16).map vu8)]) h_3 (zv typeInfo152 rfl) rfl (sC (s8 lr) sN) rfl (fun b_4 w_5 h_6 => ?_)
 refine WL.nil (thn_n (WP.seq ?_))
 refine WP.cutG (G := Nat) [5, 9, 10, 11, 12, 13, 14, 15] (fun bY1Y7Y0Y0 => [(9, (.agg ⟨blk.map vu8⟩)), (10, (pO bc 0)), (11, (pO bc 0)), (12, (pO bc 0)), (13, (pO bc 0)), (14, (.agg ⟨((keys.drop 0).take 16).map vu8⟩)), (15, (.agg ⟨(xorL blk ((keys.drop 0).take 16)).map vu8⟩)), (5, (pO bY1Y7Y0Y0 0))]) (fun bY1Y7Y0Y0 w1 => HP w w1 [.blk bY1Y7Y0Y0 .nw 152 [(16, (xorL blk ((keys.drop 0).take 16)).map vu8)], .blk b_4 .nw 152 [(16, (zB 16).map vu8)], .blk b_1 .nw 152 [(16, blk.map vu8)], .blk bc .ro 192 [(176, keys.map vu8), (256, tb.map vu8)]]) ?_ ?_
 ·refine WP.drawZ 8 (SL w.heap.size [.blk b_4 .nw 152 [(16, (zB 16).map vu8)], .blk b_1 .nw 152 [(16, blk.map vu8)], .blk bc .ro 192 [(176, keys.map vu8), (256, tb.map vu8)]]) (.q 0 (.q 1 (.q 2 (.q 3 (.q 4 (.q 5 (.s2 6 7 (.s 7 (.s 8 .nil)) (.s 6 (.s 8 .nil))))))))) (by kernel_rfl) (by kernel_rfl) rfl (by kernel_rfl) (fun w_7 hc_9 => (SL.cons ((h_6.same hc_9).ok _ M0) (SL.cons ((h_6.same hc_9).ok _ M1) (SL.cons ((h_6.same hc_9).ok _ M2) (SL.nil _ _))))) (fun w_7 hc_9 => ?_)
  have h_8 := h_6.same hc_9
  refine ZT.q rfl (Wn.no rfl) rfl rfl (fun wq hS => R.loadA [] [(16, blk.map vu8)] [] (cs := blk.map vu8) rfl isAgg152 sizeOf152 (hS _ M1) rfl rfl rfl rfl) ?_
  refine ZT.q rfl (Wn.no rfl) rfl rfl (fun wq hS => R.move (v := (pO bc 0)) rfl) ?_
  refine ZT.q rfl (Wn.no rfl) rfl rfl (fun wq hS => R.nilCheck rfl) ?_
  refine ZT.q rfl (Wn.no rfl) rfl rfl (fun wq hS => R.fieldAddr (off' := 0) rfl underlying192 rfl sizeOf177 rfl rfl) ?_
  refine ZT.q rfl (Wn.no rfl) rfl rfl (fun wq hS => R.indexA (b := bc) (off := 0) (off' := 0) (i := 0) rfl rfl rfl (by decide) underlying177 sizeOf152 rfl) ?_
  refine ZT.q rfl (Wn.no rfl) rfl rfl (fun wq hS => R.loadEA (b := bc) (off := 0) (i := 0) (xs := ((keys.drop 0).take 16).map vu8) rfl isAgg152 sizeOf152 (hS _ M2) Sg.h rfl (by rw [List.map_take, List.map_drop]) (len_map (subLen (K := 176) hks (by omega) : List.length ((keys.drop 0).take 16) = 16))) ?_
  refine ZT.s2 ?_ ?_
  ·refine OpZ.one rfl (Wn.no rfl) ?_
   refine WL.call Tryz.call140 rfl rfl (c_with blk ((keys.drop 0).take 16) hbl (subLen (K := 176) hks (by omega) : List.length ((keys.drop 0).take 16) = 16) _ ) rfl ?_
   rintro _ w_11 ⟨rfl, hc_10⟩
   have h_12 := h_8.same hc_10
   refine WL.nil ?_
   refine ⟨(N0_1_2 h_12.ok), ?_⟩
   refine ZT.s ?_
   refine OpZ.one rfl (Wn.no rfl) ?_
   refine WL.alloc (segs := [(16, (zB 16).map vu8)]) h_12 (zv typeInfo152 rfl) rfl (sC (s8 lr) sN) rfl (fun b_13 w_14 h_15 => ?_)
   refine WL.nil ?_
   refine ⟨(N1_2_3 h_15.ok), ?_⟩
   refine ZT.s ?_
   refine OpZ.last rfl (Wn.no rfl) ?_
   refine WL.storeA [] [(16, (zB 16).map vu8)] [(16, (xorL blk ((keys.drop 0).take 16)).map vu8)] [] h_15 rfl rfl sizeOf152 At.h (by decide) rfl rfl rfl rfl rfl rfl (sC (s8 (xorL_len hbl (subLen (K := 176) hks (by omega) : List.length ((keys.drop 0).take 16) = 16))) sN) (fun w_16 h_17 => ?_)
   refine WL.nil (ZT.nil (thn_n ?_))
   exact ⟨b_13, (U4 rfl rfl rfl rfl (U4 rfl rfl rfl rfl (Ag.refl _ _))), ⟨rfl, rfl, rfl, rfl, rfl, rfl, rfl, rfl, trivial⟩, h_17⟩
  ·refine OpZ.one rfl (Wn.no rfl) ?_
   refine WL.alloc (segs := [(16, (zB 16).map vu8)]) h_8 (zv typeInfo152 rfl) rfl (sC (s8 lr) sN) rfl (fun b_18 w_19 h_20 => ?_)
   refine WL.nil ?_
   refine ⟨(N1_2_3 h_20.ok), ?_⟩
   refine ZT.s ?_
   refine OpZ.one rfl (Wn.no rfl) ?_
   refine WL.call Tryz.call140 rfl rfl (c_with blk ((keys.drop 0).take 16) hbl (subLen (K := 176) hks (by omega) : List.length ((keys.drop 0).take 16) = 16) _ ) rfl ?_
   rintro _ w_22 ⟨rfl, hc_21⟩
   have h_23 := h_20.same hc_21
   refine WL.nil ?_
   refine ⟨(N1_2_3 h_23.ok), ?_⟩
   refine ZT.s ?_
   refine OpZ.last rfl (Wn.no rfl) ?_
   refine WL.storeA [] [(16, (zB 16).map vu8)] [(16, (xorL blk ((keys.drop 0).take 16)).map vu8)] [] h_23 rfl rfl sizeOf152 At.h (by decide) rfl rfl rfl rfl rfl rfl (sC (s8 (xorL_len hbl (subLen (K := 176) hks (by omega) : List.length ((keys.drop 0).take 16) = 16))) sN) (fun w_24 h_25 => ?_)
   refine WL.nil (ZT.nil (thn_n ?_))
   exact ⟨b_18, (U4 rfl rfl rfl rfl (U4 rfl rfl rfl rfl (Ag.refl _ _))), ⟨rfl, rfl, rfl, rfl, rfl, rfl, rfl, rfl, trivial⟩, h_25⟩
 ·rintro b_29 J_26 w_27 h_28
  refine thn_n (WP.seq (WP.seq (WP.reg ?_)))
  refine qA (vi 1) rfl rfl ?_
  refine WL.nil (thn_n (WP.block ?_))
  refine WP.loopG (G := Nat) [6, 7, 8, 16, 17, 18, 19, 20, 21, 22, 23, 24, 25, 26, 27, 28, 29, 30, 31, 32, 33, 34, 35, 36, 37, 38, 39, 40, 41, 42, 43, 44, 45, 46, 47, 48, 49, 50, 51] (fun r => [(6, (vn r))]) (fun r m w1 => HP w w1 [.blk b_29 .nw 152 [(16, (encN keys tb blk (r - 1)).map vu8)], .blk b_4 .nw 152 [(16, (zB 16).map vu8)], .blk b_1 .nw 152 [(16, blk.map vu8)], .blk bc .ro 192 [(176, keys.map vu8), (256, tb.map vu8)]] ∧ (1 ≤ r) ∧ (r ≤ 11) ∧ m = 11 - r) ⟨1, _, ⟨rfl, trivial⟩, h_28, (by omega), (by omega), rfl⟩ ?_
  rintro r m_32 J_33 w_30 ⟨h_31, hr, hr2, rfl⟩
  refine WP.seq (WP.seq (WP.reg ?_))
  refine qM (vn r) rfl rfl (qV rfl (R.bin rfl rfl (bi_lss (r := decide ((((r : Nat) : Int) : Int) < 11)) rfl)) ?_)
  refine WL.nil (thn_n ?_)
  refine WP.cond (b := decide ((((r : Nat) : Int) : Int) < 11)) rfl (fun c_34 => ?_) (fun c_34 => ?_)
  ·have p_35 := of_decide_eq_true c_34
   refine WP.skip (thn_n (WP.seq (WP.block (WP.seq (WP.reg ?_)))))
   refine WL.alloc (segs := [(16, (zB 16).map vu8)]) h_31 (zv typeInfo152 rfl) rfl (sC (s8 lr) sN) rfl (fun b_36 w_37 h_38 => ?_)
   refine WL.nil (thn_n (WP.seq (WP.seq (WP.reg ?_))))
   refine qM (vi 0) rfl rfl ?_
   refine WL.nil (thn_n (WP.block ?_))
   refine WP.loopG (G := Nat) [8, 20, 21, 22, 23, 24, 25, 26, 27, 28, 29, 30, 31, 32, 33, 34, 35, 36, 37, 38] (fun i => [(20, (vn i))]) (fun i m w1 => HP w w1 [.blk b_36 .nw 152 [(16, (pre 16 (shb tb (encN keys tb blk (r - 1))) i).map vu8)], .blk b_29 .nw 152 [(16, (encN keys tb blk (r - 1)).map vu8)], .blk b_4 .nw 152 [(16, (zB 16).map vu8)], .blk b_1 .nw 152 [(16, blk.map vu8)], .blk bc .ro 192 [(176, keys.map vu8), (256, tb.map vu8)]] ∧ (i ≤ 16) ∧ m = 16 - i) ⟨0, _, ⟨rfl, trivial⟩, (by rw [pre_0]; exact h_38), (by omega), rfl⟩ ?_
   rintro i m_41 J_42 w_39 ⟨h_40, hi, rfl⟩
   refine WP.seq (WP.reg ?_)
   refine qV rfl (R.bin rfl rfl (bi_lss (r := decide ((((i : Nat) : Int) : Int) < 16)) rfl)) ?_
   refine WL.nil (thn_n (WP.seq ?_))
   refine WP.cond (b := decide ((((i : Nat) : Int) : Int) < 16)) rfl (fun c_43 => ?_) (fun c_43 => ?_)
   ·have p_44 := of_decide_eq_true c_43
    refine WP.skip (thn_n (WP.seq (WP.block (WP.seq (WP.reg ?_)))))
    refine qM (vn i) rfl rfl (qA (vn i) rfl rfl ?_)
    refine WL.nil (thn_n ?_)
    refine WP.drawZ 15 (SL w.heap.size [.blk b_36 .nw 152 [(16, (pre 16 (shb tb (encN keys tb blk (r - 1))) i).map vu8)], .blk b_29 .nw 152 [(16, (encN keys tb blk (r - 1)).map vu8)], .blk b_4 .nw 152 [(16, (zB 16).map vu8)], .blk b_1 .nw 152 [(16, blk.map vu8)], .blk bc .ro 192 [(176, keys.map vu8), (256, tb.map vu8)]]) (.q 0 (.q 1 (.q 2 (.q 3 (.q 4 (.q 5 (.q 6 (.q 7 (.q 8 (.q 9 (.q 10 (.q 11 (.q 12 (.q 13 (.q 14 (.s 15 .nil)))))))))))))))) (by kernel_rfl) (by kernel_rfl) rfl (by kernel_rfl) (fun w_45 hc_47 => (SL.cons ((h_40.same hc_47).ok _ M0) (SL.cons ((h_40.same hc_47).ok _ M1) (SL.cons ((h_40.same hc_47).ok _ M2) (SL.cons ((h_40.same hc_47).ok _ M3) (SL.cons ((h_40.same hc_47).ok _ M4) (SL.nil _ _))))))) (fun w_45 hc_47 => ?_)
    have h_46 := h_40.same hc_47
    refine ZT.q rfl (Wn.no rfl) rfl rfl (fun wq hS => R.move (v := (vn i)) rfl) ?_
    refine ZT.q rfl (Wn.no rfl) rfl rfl (fun wq hS => R.move (v := (pO bc 0)) rfl) ?_
    refine ZT.q rfl (Wn.no rfl) rfl rfl (fun wq hS => R.move (v := (vn i)) rfl) ?_
    refine ZT.q rfl (Wn.no rfl) rfl rfl (fun wq hS => R.move (v := (vn i)) rfl) ?_
    refine ZT.q rfl (Wn.no rfl) rfl rfl (fun wq hS => R.bin rfl rfl (bi_rem (c := ((i % 4 : Nat) : Int)) (Int.natCast_nonneg _) (by omega) (by first | omega | rfl))) ?_
    refine ZT.q rfl (Wn.no rfl) rfl rfl (fun wq hS => R.bin rfl rfl (bi_mul (c := (((i % 4) * 4 : Nat) : Int)) (by omega) (by omega))) ?_
    refine ZT.q rfl (Wn.no rfl) rfl rfl (fun wq hS => R.bin rfl rfl (bi_add (c := ((i + ((i % 4) * 4) : Nat) : Int)) (by omega) (by omega))) ?_
    refine ZT.q rfl (Wn.no rfl) rfl rfl (fun wq hS => R.bin rfl rfl (bi_rem (c := (((i + ((i % 4) * 4)) % 16 : Nat) : Int)) (Int.natCast_nonneg _) (by omega) (by first | omega | rfl))) ?_
    refine ZT.q rfl (Wn.no rfl) rfl rfl (fun wq hS => R.indexA (b := b_29) (off := 0) (off' := (0 + ((i + ((i % 4) * 4)) % 16))) (i := (i + ((i % 4) * 4)) % 16) rfl rfl rfl (by omega) underlying152 sizeOf5 (by rw [Nat.mul_one])) ?_
    refine ZT.q rfl (Wn.no rfl) rfl rfl (fun wq hS => R.loadE (b := b_29) (off := (0 + ((i + ((i % 4) * 4)) % 16))) (i := (i + ((i % 4) * 4)) % 16) (v := (vu8 ((encN keys tb blk (r - 1)).getD ((i + ((i % 4) * 4)) % 16) 0))) rfl isAgg5 (hS _ M1) Sg.h rfl (get_u8 (lt_len (K := 16) (encN_len hks hbl (by omega)) (by omega)))) ?_
    refine ZT.q rfl (Wn.no rfl) rfl rfl (fun wq hS => R.nilCheck rfl) ?_
    refine ZT.q rfl (Wn.no rfl) rfl rfl (fun wq hS => R.fieldAddr (off' := 176) rfl underlying192 rfl sizeOf175 rfl rfl) ?_
    refine ZT.q rfl (Wn.no rfl) rfl rfl (fun wq hS => R.indexA (b := bc) (off := 176) (off' := (176 + (((encN keys tb blk (r - 1)).getD ((i + ((i % 4) * 4)) % 16) 0).toNat))) (i := ((encN keys tb blk (r - 1)).getD ((i + ((i % 4) * 4)) % 16) 0).toNat) rfl rfl rfl (UInt8.toNat_lt _) underlying175 sizeOf5 (by rw [Nat.mul_one])) ?_
    refine ZT.q rfl (Wn.no rfl) rfl rfl (fun wq hS => R.loadE (b := bc) (off := (176 + (((encN keys tb blk (r - 1)).getD ((i + ((i % 4) * 4)) % 16) 0).toNat))) (i := ((encN keys tb blk (r - 1)).getD ((i + ((i % 4) * 4)) % 16) 0).toNat) (v := (vu8 (tb.getD (((encN keys tb blk (r - 1)).getD ((i + ((i % 4) * 4)) % 16) 0).toNat) 0))) rfl isAgg5 (hS _ M4) (Sg.t rfl Sg.h) rfl (get_u8 (lt_len (K := 256) htb (UInt8.toNat_lt _)))) ?_
    refine ZT.q rfl (Wn.no rfl) rfl rfl (fun wq hS => R.indexA (b := b_36) (off := 0) (off' := (0 + i)) (i := i) rfl rfl rfl (by omega) underlying152 sizeOf5 (by rw [Nat.mul_one])) ?_
    refine ZT.s ?_
    refine OpZ.last rfl (Wn.no rfl) ?_
    refine WL.storeE (b := b_36) (off := (0 + i)) (i := i) (v := (vu8 (tb.getD (((encN keys tb blk (r - 1)).getD ((i + ((i % 4) * 4)) % 16) 0).toNat) 0))) (cs' := ((pre 16 (shb tb (encN keys tb blk (r - 1))) i).set i (tb.getD (((encN keys tb blk (r - 1)).getD ((i + ((i % 4) * 4)) % 16) 0).toNat) 0)).map vu8) h_46 rfl rfl sizeOf5 rfl At.h (by decide) Sg.h rfl (lt_len (K := 16) (len_map (pre_len (by omega))) (by omega)) (set_u8 _ _ _) (fun w_48 h_49 => ?_)
    refine WL.nil (ZT.nil (inb_n (thn_n (WP.reg ?_))))
    refine qV rfl (R.bin rfl rfl (bi_add (c := ((i + 1 : Nat) : Int)) (by omega) (by omega))) (qM (vn (i + 1)) rfl rfl ?_)
    refine WL.nil (thn_n ?_)
    have es := pre_set (n := 16) (g := shb tb (encN keys tb blk (r - 1))) (i := i) (x := tb.getD ((encN keys tb blk (r - 1)).getD ((i + i % 4 * 4) % 16) 0).toNat 0) (by omega) rfl
    rw [es] at h_49
    exact ⟨i + 1, _, (by omega), (U4 rfl rfl rfl rfl (U4 rfl rfl rfl rfl (U4 rfl rfl rfl rfl (U4 rfl rfl rfl rfl (U4 rfl rfl rfl rfl (Ag.updL rfl (Ag.mix _ _ _))))))), ⟨rfl, trivial⟩, h_49, (by omega), rfl⟩
   ·have p_50 := of_decide_eq_false c_43
    refine WP.exit (thn_x (thn_x (inb_hit (thn_n (WP.seq (WP.seq (WP.reg ?_)))))))
    refine qM (vn r) rfl rfl (qV rfl (R.bin rfl rfl (bi_lss (r := decide ((((r : Nat) : Int) : Int) < 10)) rfl)) ?_)
    refine WL.nil (thn_n ?_)
    refine WP.cond (b := decide ((((r : Nat) : Int) : Int) < 10)) rfl (fun c_51 => ?_) (fun c_51 => ?_)
    ·have p_52 := of_decide_eq_true c_51
     refine WP.reg ?_
     refine qV rfl (R.loadA [] [(16, (pre 16 (shb tb (encN keys tb blk (r - 1))) i).map vu8)] [] (cs := (pre 16 (shb tb (encN keys tb blk (r - 1))) i).map vu8) rfl isAgg152 sizeOf152 (h_40.ok _ M0) rfl rfl rfl rfl) (qV rfl (R.buildA (vs := [(0, (vu8 2)), (1, (vu8 3)), (2, (vu8 1)), (3, (vu8 1))]) (cs := ([2, 3, 1, 1] : List UInt8).map vu8) underlying195 sizeOf5 (zv typeInfo195 rfl) rfl rfl) ?_)
     refine WL.call Tryz.call141 rfl rfl (c_mix (pre 16 (shb tb (encN keys tb blk (r - 1))) i) ([2, 3, 1, 1] : List UInt8) (pre_len (by omega)) (rfl : List.length ([2, 3, 1, 1] : List UInt8) = 4) _ ) rfl ?_
     rintro _ w_54 ⟨rfl, hc_53⟩
     have h_55 := h_40.same hc_53
     refine WL.storeA [] [(16, (pre 16 (shb tb (encN keys tb blk (r - 1))) i).map vu8)] [(16, (mixL (pre 16 (shb tb (encN keys tb blk (r - 1))) i) ([2, 3, 1, 1] : List UInt8)).map vu8)] [] h_55 rfl rfl sizeOf152 At.h (by decide) rfl rfl rfl rfl rfl rfl (sC (s8 (mixL_len ..)) sN) (fun w_56 h_57 => ?_)
     refine WL.nil (thn_n ?_)
     refine WP.drawZ 8 (SL w.heap.size [.blk b_36 .nw 152 [(16, (mixL (pre 16 (shb tb (encN keys tb blk (r - 1))) i) ([2, 3, 1, 1] : List UInt8)).map vu8)], .blk b_29 .nw 152 [(16, (encN keys tb blk (r - 1)).map vu8)], .blk b_4 .nw 152 [(16, (zB 16).map vu8)], .blk b_1 .nw 152 [(16, blk.map vu8)], .blk bc .ro 192 [(176, keys.map vu8), (256, tb.map vu8)]]) (.q 0 (.q 1 (.q 2 (.q 3 (.q 4 (.q 5 (.q 6 (.s 7 (.s 8 .nil))))))))) (by kernel_rfl) (by kernel_rfl) rfl (by kernel_rfl) (fun w_58 hc_60 => (SL.cons ((h_57.same hc_60).ok _ M0) (SL.cons ((h_57.same hc_60).ok _ M1) (SL.cons ((h_57.same hc_60).ok _ M2) (SL.cons ((h_57.same hc_60).ok _ M3) (SL.cons ((h_57.same hc_60).ok _ M4) (SL.nil _ _))))))) (fun w_58 hc_60 => ?_)
     have h_59 := h_57.same hc_60
     refine ZT.q rfl (Wn.no rfl) rfl rfl (fun wq hS => R.loadA [] [(16, (mixL (pre 16 (shb tb (encN keys tb blk (r - 1))) i) ([2, 3, 1, 1] : List UInt8)).map vu8)] [] (cs := (mixL (pre 16 (shb tb (encN keys tb blk (r - 1))) i) ([2, 3, 1, 1] : List UInt8)).map vu8) rfl isAgg152 sizeOf152 (hS _ M0) rfl rfl rfl rfl) ?_
     refine ZT.q rfl (Wn.no rfl) rfl rfl (fun wq hS => R.move (v := (pO bc 0)) rfl) ?_
     refine ZT.q rfl (Wn.no rfl) rfl rfl (fun wq hS => R.move (v := (vn r)) rfl) ?_
     refine ZT.q rfl (Wn.no rfl) rfl rfl (fun wq hS => R.nilCheck rfl) ?_
     refine ZT.q rfl (Wn.no rfl) rfl rfl (fun wq hS => R.fieldAddr (off' := 0) rfl underlying192 rfl sizeOf177 rfl rfl) ?_
     refine ZT.q rfl (Wn.no rfl) rfl rfl (fun wq hS => R.indexA (b := bc) (off := 0) (off' := (0 + (r * 16))) (i := r) rfl rfl rfl (by omega) underlying177 sizeOf152 rfl) ?_
     refine ZT.q rfl (Wn.no rfl) rfl rfl (fun wq hS => R.loadEA (b := bc) (off := (0 + (r * 16))) (i := r * 16) (xs := ((keys.drop (r * 16)).take 16).map vu8) rfl isAgg152 sizeOf152 (hS _ M4) Sg.h rfl (by rw [List.map_take, List.map_drop]) (len_map (subLen (K := 176) hks (by omega) : List.length ((keys.drop (r * 16)).take 16) = 16))) ?_
     refine ZT.s ?_
     refine OpZ.one rfl (Wn.no rfl) ?_
     refine WL.call Tryz.call140 rfl rfl (c_with (mixL (pre 16 (shb tb (encN keys tb blk (r - 1))) i) ([2, 3, 1, 1] : List UInt8)) ((keys.drop (r * 16)).take 16) (mixL_len ..) (subLen (K := 176) hks (by omega) : List.length ((keys.drop (r * 16)).take 16) = 16) _ ) rfl ?_
     rintro _ w_62 ⟨rfl, hc_61⟩
     have h_63 := h_59.same hc_61
     refine WL.nil ?_
     refine ⟨(N0_1_2_3_4 h_63.ok), ?_⟩
     refine ZT.s ?_
     refine OpZ.last rfl (Wn.no rfl) ?_
     refine WL.storeA [] [(16, (encN keys tb blk (r - 1)).map vu8)] [(16, (xorL (mixL (pre 16 (shb tb (encN keys tb blk (r - 1))) i) ([2, 3, 1, 1] : List UInt8)) ((keys.drop (r * 16)).take 16)).map vu8)] [] h_63 rfl rfl sizeOf152 Y1 (by decide) rfl rfl rfl rfl rfl rfl (sC (s8 (xorL_len (mixL_len ..) (subLen (K := 176) hks (by omega) : List.length ((keys.drop (r * 16)).take 16) = 16))) sN) (fun w_64 h_65 => ?_)
     refine WL.nil (ZT.nil (inb_n (thn_n (WP.reg ?_))))
     refine qM (vn r) rfl rfl (qV rfl (R.bin rfl rfl (bi_add (c := ((r + 1 : Nat) : Int)) (by omega) (by omega))) (qA (vn (r + 1)) rfl rfl ?_))
     refine WL.nil (thn_n ?_)
     have hi16 : i = 16 := by omega
     subst hi16
     obtain ⟨q, rfl⟩ : ∃ q, r = q + 1 := ⟨r - 1, by omega⟩
     have h_66 := h_65.drop rfl
     have es : xorL (mixL (pre 16 (shb tb (encN keys tb blk ((q + 1) - 1))) 16) ([2, 3, 1, 1] : List UInt8)) ((keys.drop ((q + 1) * 16)).take 16) = encN keys tb blk (q + 1) := by rw [Nat.add_sub_cancel, pre_all, encN, if_pos (by omega)]; rfl
     rw [es] at h_66
     exact ⟨q + 1 + 1, _, (by omega), (Ag.upd rfl (U4 rfl rfl rfl rfl (U4 rfl rfl rfl rfl (U4 rfl rfl rfl rfl (U4 rfl rfl rfl rfl (Ag.updL rfl (Ag.trans (Ag.sub rfl (Ag.mix _ _ _)) (Ag.upd rfl (Ag.upd rfl (Ag.upd rfl (Ag.upd rfl (Ag.updL rfl (Ag.mix _ _ _))))))))))))), ⟨rfl, trivial⟩, h_66, (by omega), (by omega), rfl⟩
    ·have p_67 := of_decide_eq_false c_51
     refine WP.skip (thn_n ?_)
     refine WP.drawZ 8 (SL w.heap.size [.blk b_36 .nw 152 [(16, (pre 16 (shb tb (encN keys tb blk (r - 1))) i).map vu8)], .blk b_29 .nw 152 [(16, (encN keys tb blk (r - 1)).map vu8)], .blk b_4 .nw 152 [(16, (zB 16).map vu8)], .blk b_1 .nw 152 [(16, blk.map vu8)], .blk bc .ro 192 [(176, keys.map vu8), (256, tb.map vu8)]]) (.q 0 (.q 1 (.q 2 (.q 3 (.q 4 (.q 5 (.q 6 (.s 7 (.s 8 .nil))))))))) (by kernel_rfl) (by kernel_rfl) rfl (by kernel_rfl) (fun w_68 hc_70 => (SL.cons ((h_40.same hc_70).ok _ M0) (SL.cons ((h_40.same hc_70).ok _ M1) (SL.cons ((h_40.same hc_70).ok _ M2) (SL.cons ((h_40.same hc_70).ok _ M3) (SL.cons ((h_40.same hc_70).ok _ M4) (SL.nil _ _))))))) (fun w_68 hc_70 => ?_)
     have h_69 := h_40.same hc_70
     refine ZT.q rfl (Wn.no rfl) rfl rfl (fun wq hS => R.loadA [] [(16, (pre 16 (shb tb (encN keys tb blk (r - 1))) i).map vu8)] [] (cs := (pre 16 (shb tb (encN keys tb blk (r - 1))) i).map vu8) rfl isAgg152 sizeOf152 (hS _ M0) rfl rfl rfl rfl) ?_
     refine ZT.q rfl (Wn.no rfl) rfl rfl (fun wq hS => R.move (v := (pO bc 0)) rfl) ?_
     refine ZT.q rfl (Wn.no rfl) rfl rfl (fun wq hS => R.move (v := (vn r)) rfl) ?_
     refine ZT.q rfl (Wn.no rfl) rfl rfl (fun wq hS => R.nilCheck rfl) ?_
     refine ZT.q rfl (Wn.no rfl) rfl rfl (fun wq hS => R.fieldAddr (off' := 0) rfl underlying192 rfl sizeOf177 rfl rfl) ?_
     refine ZT.q rfl (Wn.no rfl) rfl rfl (fun wq hS => R.indexA (b := bc) (off := 0) (off' := (0 + (r * 16))) (i := r) rfl rfl rfl (by omega) underlying177 sizeOf152 rfl) ?_
     refine ZT.q rfl (Wn.no rfl) rfl rfl (fun wq hS => R.loadEA (b := bc) (off := (0 + (r * 16))) (i := r * 16) (xs := ((keys.drop (r * 16)).take 16).map vu8) rfl isAgg152 sizeOf152 (hS _ M4) Sg.h rfl (by rw [List.map_take, List.map_drop]) (len_map (subLen (K := 176) hks (by omega) : List.length ((keys.drop (r * 16)).take 16) = 16))) ?_
     refine ZT.s ?_
     refine OpZ.one rfl (Wn.no rfl) ?_
     refine WL.call Tryz.call140 rfl rfl (c_with (pre 16 (shb tb (encN keys tb blk (r - 1))) i) ((keys.drop (r * 16)).take 16) (pre_len (by omega)) (subLen (K := 176) hks (by omega) : List.length ((keys.drop (r * 16)).take 16) = 16) _ ) rfl ?_
     rintro _ w_72 ⟨rfl, hc_71⟩
     have h_73 := h_69.same hc_71
     refine WL.nil ?_
     refine ⟨(N0_1_2_3_4 h_73.ok), ?_⟩
     refine ZT.s ?_
     refine OpZ.last rfl (Wn.no rfl) ?_
     refine WL.storeA [] [(16, (encN keys tb blk (r - 1)).map vu8)] [(16, (xorL (pre 16 (shb tb (encN keys tb blk (r - 1))) i) ((keys.drop (r * 16)).take 16)).map vu8)] [] h_73 rfl rfl sizeOf152 Y1 (by decide) rfl rfl rfl rfl rfl rfl (sC (s8 (xorL_len (pre_len (by omega)) (subLen (K := 176) hks (by omega) : List.length ((keys.drop (r * 16)).take 16) = 16))) sN) (fun w_74 h_75 => ?_)
     refine WL.nil (ZT.nil (inb_n (thn_n (WP.reg ?_))))
     refine qM (vn r) rfl rfl (qV rfl (R.bin rfl rfl (bi_add (c := ((r + 1 : Nat) : Int)) (by omega) (by omega))) (qA (vn (r + 1)) rfl rfl ?_))
     refine WL.nil (thn_n ?_)
     have hi16 : i = 16 := by omega
     subst hi16
     obtain ⟨q, rfl⟩ : ∃ q, r = q + 1 := ⟨r - 1, by omega⟩
     have h_76 := h_75.drop rfl
     have es : xorL (pre 16 (shb tb (encN keys tb blk ((q + 1) - 1))) 16) ((keys.drop ((q + 1) * 16)).take 16) = encN keys tb blk (q + 1) := by rw [Nat.add_sub_cancel, pre_all, encN, if_neg (by omega)]; rfl
     rw [es] at h_76
     exact ⟨q + 1 + 1, _, (by omega), (U2 rfl rfl (U4 rfl rfl rfl rfl (U4 rfl rfl rfl rfl (U4 rfl rfl rfl rfl (Ag.updL rfl (Ag.trans (Ag.sub rfl (Ag.mix _ _ _)) (Ag.upd rfl (Ag.upd rfl (Ag.upd rfl (Ag.upd rfl (Ag.updL rfl (Ag.mix _ _ _)))))))))))), ⟨rfl, trivial⟩, h_76, (by omega), (by omega), rfl⟩
  ·have p_77 := of_decide_eq_false c_34
   refine WP.exit (thn_x (thn_x (inb_hit (thn_n (WP.seq (WP.reg ?_))))))
   refine qV rfl (R.loadA [] [(16, (encN keys tb blk (r - 1)).map vu8)] [] (cs := (encN keys tb blk (r - 1)).map vu8) rfl isAgg152 sizeOf152 (h_31.ok _ M0) rfl rfl rfl rfl) ?_
   refine WL.storeA [] [(16, (zB 16).map vu8)] [(16, (encN keys tb blk (r - 1)).map vu8)] [] h_31 rfl rfl sizeOf152 Y1 (by decide) rfl rfl rfl rfl rfl rfl (sC (s8 (encN_len hks hbl (by omega))) sN) (fun w_78 h_79 => ?_)
   refine WL.nil (thn_n (WP.ret ?_))
   refine ret_of results120 (RV.cell rfl (h_79.loadA (cs := (encN keys tb blk (r - 1)).map vu8) isAgg152 sizeOf152 M1 rfl rfl) RV.nil) ?_
   have hr11 : r = 11 := by omega
   subst hr11
   exact ⟨rfl, h_79.chgS⟩
end Go.Proofs.YteclkcpdclimnaaGreat

namespace Go.Ax
open Go.Vc
theorem mb1_cr {s f : List UInt8} {c r k : Nat} (hr : r < 4) : mb1 s f (4 * c + r) k = tm (s.getD (4 * c + k) 0) (f.getD ((k + 4 - r) % 4) 0) := by
  rw [mb1, show (4 * c + r) / 4 = c by omega, show (4 * c + r) % 4 = r by omega]
theorem shb_cr {tb s : List UInt8} {c r : Nat} (hc : c < 4) (hr : r < 4) : tb.getD (s.getD (4 * ((c + r) % 4) + r) 0).toNat 0 = shb tb s (4 * c + r) := by
  rw [shb, show (4 * c + r + (4 * c + r) % 4 * 4) % 16 = 4 * ((c + r) % 4) + r by omega]
def bk (k : Nat) : List UInt8 := (List.range 256).map fun y => if (unsub (UInt8.ofNat y)).toNat < k then unsub (UInt8.ofNat y) else 0
theorem tm_2 : ∀ a : UInt8, tm a 2 = dbl a := all8 (by decide +kernel)
def wT (tb : List UInt8) (l : Nat → UInt8) (i k : Nat) : UInt8 := if i % 4 = 0 then gK tb l (i / 4) k else l (4 * i + k - 4)
theorem K_word {tb key : List UInt8} (h : key.length = 16) {i k : Nat} (hi : 4 ≤ i) (hi2 : i < 44) (hk : k < 4) : K tb key (4 * i + k) = K tb key (4 * i + k - 16) ^^^ wT tb (K tb key) i k := by
  have e := K_step (tb := tb) h (j := 4 * i + k) (by omega) (by omega)
  rw [e]
  generalize K tb key = l
  rw [nb, wT]
  by_cases h4 : i % 4 = 0
  · rw [if_pos (by omega), if_pos h4, show (4 * i + k) / 16 = i / 4 by omega, show (4 * i + k) % 16 = k by omega]
  · rw [if_neg (by omega), if_neg h4]
theorem w_step {tb key t : List UInt8} (h : key.length = 16) {i k : Nat} (hi : 4 ≤ i) (hi2 : i < 44) (hk : k < 4) (ht : ∀ k, k < 4 → t.getD k 0 = wT tb (K tb key) i k) :
    (pre 176 (K tb key) (4 * i + k)).set (i * 4 + k) ((pre 176 (K tb key) (4 * i + k)).getD ((i - 4) * 4 + k) 0 ^^^ t.getD k 0) = pre 176 (K tb key) (4 * i + (k + 1)) := by
  have e := K_word (tb := tb) h hi hi2 hk
  rw [ht k hk, pre_lt (by omega), show (i - 4) * 4 + k = 4 * i + k - 16 by omega, ← e, Nat.mul_comm i 4]
  exact pre_set (by omega) rfl
theorem wl_get {tb key : List UInt8} {i c m : Nat} (hi : 1 ≤ i) (hc : c < 4) : (((pre 176 (K tb key) (4 * i + m)).drop ((i - 1) * 4)).take 4).getD c 0 = K tb key (4 * (i - 1) + c) := by
  rw [sub_get hc, pre_lt (by omega), Nat.mul_comm]
theorem w_old {tb key : List UInt8} {i : Nat} (hi : 4 ≤ i) (h4 : ¬ i % 4 = 0) : ∀ k, k < 4 → (((pre 176 (K tb key) (4 * i)).drop ((i - 1) * 4)).take 4).getD k 0 = wT tb (K tb key) i k := by
  intro k hk
  have e := wl_get (tb := tb) (key := key) (i := i) (m := 0) (by omega) hk
  rw [Nat.add_zero] at e
  rw [e]
  generalize K tb key = l
  rw [wT, if_neg h4, show 4 * (i - 1) + k = 4 * i + k - 4 by omega]
theorem w_new {tb key : List UInt8} {i : Nat} (hi : 4 ≤ i) (h4 : i % 4 = 0) : ∀ k, k < 4 → ([tb.getD ((((pre 176 (K tb key) (4 * i)).drop ((i - 1) * 4)).take 4).getD 1 0).toNat 0 ^^^ pwN ((i - 1) / 4), tb.getD ((((pre 176 (K tb key) (4 * i)).drop ((i - 1) * 4)).take 4).getD 2 0).toNat 0,
    tb.getD ((((pre 176 (K tb key) (4 * i)).drop ((i - 1) * 4)).take 4).getD 3 0).toNat 0, tb.getD ((((pre 176 (K tb key) (4 * i)).drop ((i - 1) * 4)).take 4).getD 0 0).toNat 0] : List UInt8).getD k 0 = wT tb (K tb key) i k := by
  have e : ∀ c, c < 4 → (((pre 176 (K tb key) (4 * i)).drop ((i - 1) * 4)).take 4).getD c 0 = K tb key (4 * (i - 1) + c) := fun c hc => wl_get (m := 0) (by omega) hc
  rw [e 1 (by omega), e 2 (by omega), e 3 (by omega), e 0 (by omega)]
  generalize K tb key = l
  intro k hk
  have h0 : wT tb l i k = gK tb l (i / 4) k := by rw [wT, if_pos h4]
  rw [h0]
  match k, hk with
  | 0, _ => rw [gK, if_pos rfl, show 16 * (i / 4) - 3 = 4 * (i - 1) + 1 by omega, show i / 4 - 1 = (i - 1) / 4 by omega]; rfl
  | 1, _ => rw [gK, if_neg (by decide), if_neg (by decide), show 16 * (i / 4) + 1 - 3 = 4 * (i - 1) + 2 by omega]; rfl
  | 2, _ => rw [gK, if_neg (by decide), if_neg (by decide), show 16 * (i / 4) + 2 - 3 = 4 * (i - 1) + 3 by omega]; rfl
  | 3, _ => rw [gK, if_neg (by decide), if_pos rfl, show 16 * (i / 4) - 4 = 4 * (i - 1) + 0 by omega]; rfl
theorem w_key {tb key : List UInt8} (h : key.length = 16) {i k : Nat} (hi : i < 4) (hk : k < 4) : (pre 176 (K tb key) (4 * i + k)).set (i * 4 + k) (key.getD (4 * i + k) 0) = pre 176 (K tb key) (4 * i + (k + 1)) := by
  rw [Nat.mul_comm i 4]
  exact pre_set (by omega) (K_key h (by omega)).symm
theorem w_copy {g : Nat → UInt8} {i k : Nat} (hi : i < 44) (hk : k < 4) : (pre 176 g (4 * i + k)).set ((i / 4) * 16 + (4 * (i % 4) + k)) ((pre 176 g (4 * 44)).getD (i * 4 + k) 0) = pre 176 g (4 * i + (k + 1)) := by
  rw [pre_lt (by omega), show (i / 4) * 16 + (4 * (i % 4) + k) = 4 * i + k by omega]
  exact pre_set (by omega) (congrArg g (by omega))
theorem pw_4 {i : Nat} (hi : 4 ≤ i) (h4 : i % 4 = 0) : tm (pwN ((i - 1) / 4)) 2 = pwN ((i + 1 - 1) / 4) := by
  obtain ⟨q, hq⟩ : ∃ q, (i - 1) / 4 = q := ⟨_, rfl⟩
  rw [tm_2, hq, show (i + 1 - 1) / 4 = q + 1 by omega]; rfl
theorem pw_no {i : Nat} (h4 : ¬ i % 4 = 0) : pwN ((i - 1) / 4) = pwN ((i + 1 - 1) / 4) := congrArg pwN (by omega)
end Go.Ax

namespace Go.Ax
open Go.Vc
def blkS (key nonce : List UInt8) (i : Nat) : List UInt8 := enc key (nonce ++ (leN 8 i).reverse)
theorem in_len {nonce : List UInt8} {i : Nat} (h : nonce.length = 8) : (nonce ++ (leN 8 i).reverse).length = 16 := by rw [List.length_append, h, List.length_reverse, leN_len]
theorem blkS_len {key nonce : List UInt8} {i : Nat} (h : nonce.length = 8) : (blkS key nonce i).length = 16 := enc_len (in_len h)
def strN (key nonce : List UInt8) : Nat → List UInt8
  | 0 => []
  | i + 1 => strN key nonce i ++ blkS key nonce i
theorem strN_len {key nonce : List UInt8} (h : nonce.length = 8) : ∀ i, (strN key nonce i).length = 16 * i
  | 0 => rfl
  | i + 1 => by rw [strN, List.length_append, strN_len h i, blkS_len h]; omega
theorem strN_pre {key nonce : List UInt8} (h : nonce.length = 8) {n i : Nat} (hi : n ≤ 16 * i) : ∀ d, (strN key nonce (i + d)).take n = (strN key nonce i).take n
  | 0 => rfl
  | d + 1 => by
    rw [← Nat.add_assoc, strN, List.take_append_of_le_length (by rw [strN_len h]; omega), strN_pre h hi d]
def strL (key nonce : List UInt8) (n : Nat) : List UInt8 := (strN key nonce n).take n
theorem strL_len {key nonce : List UInt8} (h : nonce.length = 8) (n : Nat) : (strL key nonce n).length = n := by rw [strL, List.length_take, strN_len h]; omega
theorem strL_of {key nonce : List UInt8} (h : nonce.length = 8) {n i : Nat} (hi : n ≤ 16 * i) : (strN key nonce i).take n = strL key nonce n := by
  rw [strL]
  rcases Nat.le_total i n with hin | hin
  · obtain ⟨d, rfl⟩ : ∃ d, n = i + d := ⟨n - i, by omega⟩
    rw [strN_pre h hi d]
  · obtain ⟨d, rfl⟩ : ∃ d, i = n + d := ⟨i - n, by omega⟩
    rw [strN_pre h (by omega) d]
theorem u64nat {i : Nat} (h : i < 18446744073709551616) : (UInt64.ofNat i).toNat = i := by simp; omega
theorem num_rev {i : Nat} (h : i < 18446744073709551616) : ([UInt8.ofNat (shr64 (UInt64.ofNat i) 56).toNat, UInt8.ofNat (shr64 (UInt64.ofNat i) 48).toNat, UInt8.ofNat (shr64 (UInt64.ofNat i) 40).toNat, UInt8.ofNat (shr64 (UInt64.ofNat i) 32).toNat,
    UInt8.ofNat (shr64 (UInt64.ofNat i) 24).toNat, UInt8.ofNat (shr64 (UInt64.ofNat i) 16).toNat, UInt8.ofNat (shr64 (UInt64.ofNat i) 8).toNat, UInt8.ofNat (shr64 (UInt64.ofNat i) 0).toNat] : List UInt8) = (leN 8 i).reverse := by
  have e : ∀ k, UInt8.ofNat (shr64 (UInt64.ofNat i) (8 * k)).toNat = UInt8.ofNat (i / 256 ^ k) := fun k => by rw [shr_byte, u64nat h]
  rw [e 7, e 6, e 5, e 4, e 3, e 2, e 1, e 0]
  simp [leN, Nat.div_div_eq_div_mul]
theorem eight8 {l : List UInt8} (h : l.length = 8) : [l.getD 0 0, l.getD 1 0, l.getD 2 0, l.getD 3 0, l.getD 4 0, l.getD 5 0, l.getD 6 0, l.getD 7 0] = l := by
  match l, h with
  | [_, _, _, _, _, _, _, _], _ => rfl
def mk (s b : List UInt8) (i : Nat) : List UInt8 := (xorL s b).take i ++ s.drop i
def ush (tb t : List UInt8) : List UInt8 := (List.range 16).map fun j => tb.getD (t.getD ((j + (4 - j % 4) * 4) % 16) 0).toNat 0
def mixBack (f g : List UInt8) : Prop := ∀ r, r < 4 → ∀ k, k < 4 → (((tm (f.getD ((k + 4 - 0) % 4) 0) (g.getD ((0 + 4 - r) % 4) 0) ^^^ tm (f.getD ((k + 4 - 1) % 4) 0) (g.getD ((1 + 4 - r) % 4) 0)) ^^^ tm (f.getD ((k + 4 - 2) % 4) 0) (g.getD ((2 + 4 - r) % 4) 0)) ^^^ tm (f.getD ((k + 4 - 3) % 4) 0) (g.getD ((3 + 4 - r) % 4) 0)) = if k = r then 1 else 0
end Go.Ax

namespace Go.Proofs.YteclkcpdclimnaaGreat
open Go.Proofs.Tryz
open Go.Vc Go.Orc Go.Sh Go.RowKit
set_option maxRecDepth 20000

open Go.Ax
theorem c_Join2 (a : Option Addr) (cap : Nat) (xs : List Value) (l1 l2 : List UInt8) (h1 : l1.length = 8) (h2 : l2.length = 8) (w : World) (hv : View w a xs) (hs : Sls w xs [l1, l2]) :
  Cs Tryz.prog 95 [(.slice a 2 cap)].toArray w (fun v w1 => ∃ a cap, v = .slice a 16 cap ∧ Chg w w1 [] ∧ Own w.heap.size w1 5 1 a 16 cap ((l1 ++ l2).map vu8)) := by
 have e : [l1, l2].flatten = l1 ++ l2 := by simp
 have el : (l1 ++ l2).length = 16 := by rw [List.length_append, h1, h2]
 have h := c_wJoin a 2 cap xs [l1, l2] rfl (by rw [e, el]; decide) (by decide) w hv hs
 rw [e, el] at h
 exact h
theorem of_succ (i : Nat) : UInt64.ofNat i + 1 = UInt64.ofNat (i + 1) := by simp [UInt64.ofNat_add]
theorem c_Stream_n (key nonce : List UInt8) (hkey : key.length = 16) (hno : nonce.length = 8) (n : Nat) (h2 : n ≤ 1048576) (w : World) :
  Cs Tryz.prog 99 [(.agg ⟨key.map vu8⟩), (.agg ⟨nonce.map vu8⟩), (vi ((n : Nat) : Int))].toArray w (fun v w1 => ∃ a, v = .tuple [.slice a n n, vi 0].toArray ∧ Chg w w1 [] ∧ Own w.heap.size w1 5 1 a n n ((strL key nonce n).map vu8)) := by
 refine Cs.of (n := 49) (args := [(.agg ⟨key.map vu8⟩), (.agg ⟨nonce.map vu8⟩), (vn n)]) Tryz.func99 rfl rfl rfl ?_
 have h_0 := HP.init w
 refine WP.seq (WP.reg ?_)
 refine WL.box (segs := [(16, key.map vu8)]) h_0 rfl rfl (sC (s8 hkey) sN) rfl (fun b_1 w_2 h_3 => ?_)
 refine WL.box (segs := [(8, nonce.map vu8)]) h_3 rfl rfl (sC (s8 hno) sN) rfl (fun b_4 w_5 h_6 => ?_)
 refine qA (.slice none 0 0) rfl rfl (qA (vi 0) rfl rfl ?_)
 refine WL.nil (thn_n (WP.seq (WP.seq (WP.reg ?_))))
 refine qM (vn n) rfl rfl (qV rfl (R.bin rfl rfl (bi_lss (r := decide ((((n : Nat) : Int) : Int) < 0)) rfl)) (qM (.bool (decide ((((n : Nat) : Int) : Int) < 0))) rfl rfl ?_))
 refine WL.want rfl (congrArg Value.bool (decide_eq_false (by omega))) ?_
 refine qM (vn n) rfl rfl ?_
 refine WL.want rfl (congrArg Value.bool (decide_eq_false (by omega))) ?_
 refine qV rfl (R.bin rfl rfl (bi_gtr (r := decide ((((n : Nat) : Int) : Int) > 1048576)) rfl)) (qV rfl (R.pickF (v := (.bool (decide ((((n : Nat) : Int) : Int) > 1048576)))) (congrArg Value.bool (decide_eq_false (by omega))) rfl) ?_)
 refine WL.nil (thn_n ?_)
 refine WP.condF (congrArg Value.bool (decide_eq_false (by omega))) ?_
 refine WP.skip (thn_n (WP.seq (WP.reg ?_)))
 refine qV rfl (R.loadA [] [(16, key.map vu8)] [] (cs := key.map vu8) rfl isAgg152 sizeOf152 (h_6.ok _ M1) rfl rfl rfl rfl) ?_
 refine WL.call Tryz.call119 rfl rfl (c_open key hkey _) rfl ?_
 rintro _ w_8 ⟨b_7, rfl, hc_9, hb_10, hk_11⟩
 have h_12 := HP.gotBlk (segs := [(176, (keysL (tabL sub) key).map vu8), (256, (tabL sub).map vu8)]) h_6 hc_9 hb_10 (sC (s8 (keysL_len ..)) (sC (s8 (tabL_len ..)) sN)) hk_11
 refine qA (pO b_7 0) rfl rfl ?_
 refine WL.nil (thn_n (WP.seq (WP.reg ?_)))
 refine qA (.slice none 0 0) rfl rfl ?_
 refine WL.nil (thn_n (WP.seq (WP.seq (WP.reg ?_))))
 refine qA (vu64 0) rfl rfl ?_
 refine WL.nil (thn_n (WP.block ?_))
 have h_13 := h_12.rowNil 5 1
 refine WP.loopG (G := Nat × Option Addr × Nat) [9, 10, 11, 12, 13, 22, 23, 24, 25, 26, 27, 28, 29, 30, 31, 32, 33, 34, 35, 36, 37, 38, 39, 40, 41, 42, 43, 44] (fun (i, ra, rc) => [(9, (.slice ra (16 * i) rc)), (10, (vu64 (UInt64.ofNat i)))]) (fun (i, ra, rc) m w1 => HP w w1 [.row ra (16 * i) rc 5 1 ((strN key nonce i).map vu8), .blk b_7 .nw 192 [(176, (keysL (tabL sub) key).map vu8), (256, (tabL sub).map vu8)], .blk b_4 .nw 153 [(8, nonce.map vu8)], .blk b_1 .nw 152 [(16, key.map vu8)]] ∧ (16 * i ≤ n + 15) ∧ m = n + 16 - 16 * i) ⟨(0, none, 0), _, ⟨rfl, rfl, trivial⟩, h_13, (by omega), rfl⟩ ?_
 rintro ⟨i, ra, rc⟩ m_16 J_17 w_14 ⟨h_15, hi, rfl⟩
 refine WP.seq (WP.seq (WP.reg ?_))
 refine qM (.slice ra (16 * i) rc) rfl rfl (qV rfl (R.lenS (a := ra) (m := 16 * i) rfl rfl underlying88) (qM (vn n) rfl rfl (qV rfl (R.bin rfl rfl (bi_lss (r := decide ((((16 * i : Nat) : Int) : Int) < ((n : Nat) : Int))) rfl)) ?_)))
 refine WL.nil (thn_n ?_)
 refine WP.cond (b := decide ((((16 * i : Nat) : Int) : Int) < ((n : Nat) : Int))) rfl (fun c_18 => ?_) (fun c_18 => ?_)
 ·have p_19 := of_decide_eq_true c_18
  refine WP.skip (thn_n (WP.seq (WP.block (WP.seq (WP.reg ?_)))))
  refine qM (vu64 (UInt64.ofNat i)) rfl rfl ?_
  refine WL.call Tryz.call73 rfl rfl (c_Put_b (UInt64.ofNat i) 8 rfl _) rfl ?_
  rintro _ w_22 ⟨a_20, cap_21, rfl, hc_23, ho_24⟩
  have h_25 := h_15.gotRow hc_23 ho_24
  refine qM (.tuple [(.slice a_20 8 cap_21), (vi 0)].toArray) rfl rfl (qV rfl (R.extract rfl rfl) (qV rfl (R.extract rfl rfl) (qA (.slice a_20 8 cap_21) rfl rfl (qA (vi 0) rfl rfl ?_))))
  refine WL.nil (thn_n (WP.seq ?_))
  refine WP.cutG (G := Option Addr × Nat × Nat × Nat × Nat × Nat) [13, 33, 34, 35, 36, 37, 38, 39, 40, 41] (fun (aY9Y3Y0Y0, capY9Y3Y0Y0, bY9Y4Y0Y0, bY9Y6Y0Y0, capY9Y5Y0Y0, bY9Y9Y0Y0) => [(33, (pO b_7 0)), (34, (.slice (some ⟨b_4, 0, none⟩) 8 8)), (35, (.slice a_20 8 cap_21)), (36, (.slice aY9Y3Y0Y0 8 capY9Y3Y0Y0)), (37, (.slice (some ⟨bY9Y4Y0Y0, 0, none⟩) 2 2)), (38, (.slice (some ⟨bY9Y6Y0Y0, 0, none⟩) 16 capY9Y5Y0Y0)), (39, (.pointer (some (gA (some ⟨bY9Y6Y0Y0, 0, none⟩) 0)))), (40, (.agg ⟨(nonce ++ ((leN 8 (UInt64.ofNat i).toNat).reverse)).map vu8⟩)), (41, (.agg ⟨(encN (keysL (tabL sub) key) (tabL sub) (nonce ++ ((leN 8 (UInt64.ofNat i).toNat).reverse)) 10).map vu8⟩)), (13, (pO bY9Y9Y0Y0 0))]) (fun (aY9Y3Y0Y0, capY9Y3Y0Y0, bY9Y4Y0Y0, bY9Y6Y0Y0, capY9Y5Y0Y0, bY9Y9Y0Y0) w1 => HP w w1 [.blk bY9Y9Y0Y0 .nw 152 [(16, (encN (keysL (tabL sub) key) (tabL sub) (nonce ++ ((leN 8 (UInt64.ofNat i).toNat).reverse)) 10).map vu8)], .row (some ⟨bY9Y6Y0Y0, 0, none⟩) 16 capY9Y5Y0Y0 5 1 ((nonce ++ ((leN 8 (UInt64.ofNat i).toNat).reverse)).map vu8), .blk bY9Y4Y0Y0 .nw 88 [(2, [(.slice (some ⟨b_4, 0, none⟩) 8 8), (.slice aY9Y3Y0Y0 8 capY9Y3Y0Y0)])], .row aY9Y3Y0Y0 8 capY9Y3Y0Y0 5 1 (((leN 8 (UInt64.ofNat i).toNat).reverse).map vu8), .row a_20 8 cap_21 5 1 ((leN 8 (UInt64.ofNat i).toNat).map vu8), .row ra (16 * i) rc 5 1 ((strN key nonce i).map vu8), .blk b_7 .nw 192 [(176, (keysL (tabL sub) key).map vu8), (256, (tabL sub).map vu8)], .blk b_4 .nw 153 [(8, nonce.map vu8)], .blk b_1 .nw 152 [(16, key.map vu8)]]) ?_ ?_
  ·refine WP.drawZ 10 (SL w.heap.size []) (.q 0 (.q 1 (.q 2 (.s2 3 9 (.s2 4 9 (.s2 5 9 (.q 6 (.s2 7 9 (.s2 8 9 (.s 9 (.s 10 .nil)) (.s 8 (.s 10 .nil))) (.s 7 (.s 8 (.s 10 .nil))))) (.s 5 (.q 6 (.s 7 (.s 8 (.s 10 .nil)))))) (.s 4 (.s 5 (.q 6 (.s 7 (.s 8 (.s 10 .nil))))))) (.s 3 (.s 4 (.s 5 (.q 6 (.s 7 (.s 8 (.s 10 .nil))))))))))) (by kernel_rfl) (by kernel_rfl) rfl (by kernel_rfl) (fun w_26 hc_28 => (SL.nil _ _)) (fun w_26 hc_28 => ?_)
   have h_27 := h_25.same hc_28
   refine ZT.q rfl (Wn.no rfl) rfl rfl (fun wq hS => R.move (v := (pO b_7 0)) rfl) ?_
   refine ZT.q rfl (Wn.no rfl) rfl rfl (fun wq hS => R.sliceA (b := b_4) (off := 0) (off' := 0) (l := 0) (h := 8) rfl EvB.dflt EvB.dflt (by decide) (by decide) underlying153 sizeOf5 rfl) ?_
   refine ZT.q rfl (Wn.no rfl) rfl rfl (fun wq hS => R.move (v := (.slice a_20 8 cap_21)) rfl) ?_
   refine ZT.s2 ?_ ?_
   ·refine OpZ.one rfl (Wn.no rfl) ?_
    refine WL.call Tryz.call121 rfl rfl (c_Turned a_20 8 cap_21 (leN 8 (UInt64.ofNat i).toNat) (leN_len ..) (by omega) _ (ownView (h_27.ok _ M0))) rfl ?_
    rintro _ w_31 ⟨a_29, cap_30, rfl, hc_32, ho_33⟩
    have h_34 := h_27.gotRow hc_32 ho_33
    refine WL.nil ?_
    refine ⟨(SL.nil _ _), ?_⟩
    refine ZT.s2 ?_ ?_
    ·refine OpZ.one rfl (Wn.no rfl) ?_
     refine WL.buildSl (vs := [(0, (.slice (some ⟨b_4, 0, none⟩) 8 8)), (1, (.slice a_29 8 cap_30))]) (cs := [(.slice (some ⟨b_4, 0, none⟩) 8 8), (.slice a_29 8 cap_30)]) h_34 underlying128 sizeOf88 (zv typeInfo88 rfl) rfl rfl (by kernel_rfl) rfl (by simp [Value.oneCell']) rfl rfl (fun b_35 w_36 h_37 => ?_)
     refine WL.nil ?_
     refine ⟨(SL.nil _ _), ?_⟩
     refine ZT.s2 ?_ ?_
     ·refine OpZ.one rfl (Wn.no rfl) ?_
      refine WL.call Tryz.call95 rfl rfl (c_Join2 (some ⟨b_35, 0, none⟩) 2 [(.slice (some ⟨b_4, 0, none⟩) 8 8), (.slice a_29 8 cap_30)] nonce ((leN 8 (UInt64.ofNat i).toNat).reverse) hno ((List.length_reverse ..).trans (leN_len ..)) _ (viewB (h_37.ok _ M0) Sg.h) (Sls.cons hno (by decide) (viewB (h_37.ok _ M5) Sg.h) (Sls.cons ((List.length_reverse ..).trans (leN_len ..)) (h_37.own M1).2.2.1 (ownView (h_37.ok _ M1)) Sls.nil))) rfl ?_
      rintro _ w_40 ⟨a_38, cap_39, rfl, hc_41, ho_42⟩
      have h_43 := h_37.gotRow hc_41 ho_42
      refine WL.nil ?_
      refine ⟨(SL.nil _ _), ?_⟩
      obtain ⟨b_44, rr_45, ha_46, hb_47, hc_48⟩ := Own.open (h_43.own M0) (by decide)
      subst ha_46
      refine ZT.q rfl (Wn.no rfl) rfl rfl (fun wq hS => R.s2ap (a := (some ⟨b_44, 0, none⟩)) (k := 16) rfl underlying152 (by decide)) ?_
      refine ZT.s2 ?_ ?_
      ·refine OpZ.one rfl (Wn.no rfl) ?_
       refine qV rfl (R.loadGA (a := (some ⟨b_44, 0, none⟩)) (i := 0) (xs := (nonce ++ ((leN 8 (UInt64.ofNat i).toNat).reverse)).map vu8) (cs := (nonce ++ ((leN 8 (UInt64.ofNat i).toNat).reverse)).map vu8) rfl (ownView (h_43.ok _ M0)) isAgg152 sizeOf152 (by rw [List.drop_zero, List.take_of_length_le (by rw [len_map (lenApp (a := 8) (b := 8) hno ((List.length_reverse ..).trans (leN_len ..)) rfl)]; exact Nat.le_refl _)]) (len_map (lenApp (a := 8) (b := 8) hno ((List.length_reverse ..).trans (leN_len ..)) rfl)) (by decide)) ?_
       refine WL.nil ?_
       refine ⟨(SL.nil _ _), ?_⟩
       refine ZT.s2 ?_ ?_
       ·refine OpZ.one rfl (Wn.no rfl) ?_
        refine WL.call Tryz.call120 rfl rfl (c_do (keysL (tabL sub) key) (tabL sub) (nonce ++ ((leN 8 (UInt64.ofNat i).toNat).reverse)) (keysL_len ..) (tabL_len ..) (lenApp (a := 8) (b := 8) hno ((List.length_reverse ..).trans (leN_len ..)) rfl) b_7 _ (h_43.argR M5)) rfl ?_
        rintro _ w_50 ⟨rfl, hc_49⟩
        have h_51 := h_43.same hc_49
        refine WL.nil ?_
        refine ⟨(SL.nil _ _), ?_⟩
        refine ZT.s ?_
        refine OpZ.one rfl (Wn.no rfl) ?_
        refine WL.alloc (segs := [(16, (zB 16).map vu8)]) h_51 (zv typeInfo152 rfl) rfl (sC (s8 lr) sN) rfl (fun b_52 w_53 h_54 => ?_)
        refine WL.nil ?_
        refine ⟨(SL.nil _ _), ?_⟩
        refine ZT.s ?_
        refine OpZ.last rfl (Wn.no rfl) ?_
        refine WL.storeA [] [(16, (zB 16).map vu8)] [(16, (encN (keysL (tabL sub) key) (tabL sub) (nonce ++ ((leN 8 (UInt64.ofNat i).toNat).reverse)) 10).map vu8)] [] h_54 rfl rfl sizeOf152 At.h (by decide) rfl rfl rfl rfl rfl rfl (sC (s8 (encN_len (keysL_len ..) (lenApp (a := 8) (b := 8) hno ((List.length_reverse ..).trans (leN_len ..)) rfl) (by omega))) sN) (fun w_55 h_56 => ?_)
        refine WL.nil (ZT.nil (thn_n ?_))
        exact ⟨(a_29, cap_30, b_35, b_44, cap_39, b_52), (U2 rfl rfl (U4 rfl rfl rfl rfl (U4 rfl rfl rfl rfl (Ag.refl _ _)))), ⟨rfl, rfl, rfl, rfl, rfl, rfl, rfl, rfl, rfl, rfl, trivial⟩, h_56⟩
       ·refine OpZ.one rfl (Wn.no rfl) ?_
        refine WL.alloc (segs := [(16, (zB 16).map vu8)]) h_43 (zv typeInfo152 rfl) rfl (sC (s8 lr) sN) rfl (fun b_57 w_58 h_59 => ?_)
        refine WL.nil ?_
        refine ⟨(SL.nil _ _), ?_⟩
        refine ZT.s ?_
        refine OpZ.one rfl (Wn.no rfl) ?_
        refine WL.call Tryz.call120 rfl rfl (c_do (keysL (tabL sub) key) (tabL sub) (nonce ++ ((leN 8 (UInt64.ofNat i).toNat).reverse)) (keysL_len ..) (tabL_len ..) (lenApp (a := 8) (b := 8) hno ((List.length_reverse ..).trans (leN_len ..)) rfl) b_7 _ (h_59.argR M6)) rfl ?_
        rintro _ w_61 ⟨rfl, hc_60⟩
        have h_62 := h_59.same hc_60
        refine WL.nil ?_
        refine ⟨(SL.nil _ _), ?_⟩
        refine ZT.s ?_
        refine OpZ.last rfl (Wn.no rfl) ?_
        refine WL.storeA [] [(16, (zB 16).map vu8)] [(16, (encN (keysL (tabL sub) key) (tabL sub) (nonce ++ ((leN 8 (UInt64.ofNat i).toNat).reverse)) 10).map vu8)] [] h_62 rfl rfl sizeOf152 At.h (by decide) rfl rfl rfl rfl rfl rfl (sC (s8 (encN_len (keysL_len ..) (lenApp (a := 8) (b := 8) hno ((List.length_reverse ..).trans (leN_len ..)) rfl) (by omega))) sN) (fun w_63 h_64 => ?_)
        refine WL.nil (ZT.nil (thn_n ?_))
        exact ⟨(a_29, cap_30, b_35, b_44, cap_39, b_57), (U2 rfl rfl (U4 rfl rfl rfl rfl (U4 rfl rfl rfl rfl (Ag.refl _ _)))), ⟨rfl, rfl, rfl, rfl, rfl, rfl, rfl, rfl, rfl, rfl, trivial⟩, h_64⟩
      ·refine OpZ.one rfl (Wn.no rfl) ?_
       refine WL.alloc (segs := [(16, (zB 16).map vu8)]) h_43 (zv typeInfo152 rfl) rfl (sC (s8 lr) sN) rfl (fun b_65 w_66 h_67 => ?_)
       refine WL.nil ?_
       refine ⟨(SL.nil _ _), ?_⟩
       refine ZT.s ?_
       refine OpZ.one rfl (Wn.no rfl) ?_
       refine qV rfl (R.loadGA (a := (some ⟨b_44, 0, none⟩)) (i := 0) (xs := (nonce ++ ((leN 8 (UInt64.ofNat i).toNat).reverse)).map vu8) (cs := (nonce ++ ((leN 8 (UInt64.ofNat i).toNat).reverse)).map vu8) rfl (ownView (h_67.ok _ M1)) isAgg152 sizeOf152 (by rw [List.drop_zero, List.take_of_length_le (by rw [len_map (lenApp (a := 8) (b := 8) hno ((List.length_reverse ..).trans (leN_len ..)) rfl)]; exact Nat.le_refl _)]) (len_map (lenApp (a := 8) (b := 8) hno ((List.length_reverse ..).trans (leN_len ..)) rfl)) (by decide)) ?_
       refine WL.nil ?_
       refine ⟨(SL.nil _ _), ?_⟩
       refine ZT.s ?_
       refine OpZ.one rfl (Wn.no rfl) ?_
       refine WL.call Tryz.call120 rfl rfl (c_do (keysL (tabL sub) key) (tabL sub) (nonce ++ ((leN 8 (UInt64.ofNat i).toNat).reverse)) (keysL_len ..) (tabL_len ..) (lenApp (a := 8) (b := 8) hno ((List.length_reverse ..).trans (leN_len ..)) rfl) b_7 _ (h_67.argR M6)) rfl ?_
       rintro _ w_69 ⟨rfl, hc_68⟩
       have h_70 := h_67.same hc_68
       refine WL.nil ?_
       refine ⟨(SL.nil _ _), ?_⟩
       refine ZT.s ?_
       refine OpZ.last rfl (Wn.no rfl) ?_
       refine WL.storeA [] [(16, (zB 16).map vu8)] [(16, (encN (keysL (tabL sub) key) (tabL sub) (nonce ++ ((leN 8 (UInt64.ofNat i).toNat).reverse)) 10).map vu8)] [] h_70 rfl rfl sizeOf152 At.h (by decide) rfl rfl rfl rfl rfl rfl (sC (s8 (encN_len (keysL_len ..) (lenApp (a := 8) (b := 8) hno ((List.length_reverse ..).trans (leN_len ..)) rfl) (by omega))) sN) (fun w_71 h_72 => ?_)
       refine WL.nil (ZT.nil (thn_n ?_))
       exact ⟨(a_29, cap_30, b_35, b_44, cap_39, b_65), (U2 rfl rfl (U4 rfl rfl rfl rfl (U4 rfl rfl rfl rfl (Ag.refl _ _)))), ⟨rfl, rfl, rfl, rfl, rfl, rfl, rfl, rfl, rfl, rfl, trivial⟩, h_72⟩
     ·refine OpZ.one rfl (Wn.no rfl) ?_
      refine WL.alloc (segs := [(16, (zB 16).map vu8)]) h_37 (zv typeInfo152 rfl) rfl (sC (s8 lr) sN) rfl (fun b_73 w_74 h_75 => ?_)
      refine WL.nil ?_
      refine ⟨(SL.nil _ _), ?_⟩
      refine ZT.s ?_
      refine OpZ.one rfl (Wn.no rfl) ?_
      refine WL.call Tryz.call95 rfl rfl (c_Join2 (some ⟨b_35, 0, none⟩) 2 [(.slice (some ⟨b_4, 0, none⟩) 8 8), (.slice a_29 8 cap_30)] nonce ((leN 8 (UInt64.ofNat i).toNat).reverse) hno ((List.length_reverse ..).trans (leN_len ..)) _ (viewB (h_75.ok _ M1) Sg.h) (Sls.cons hno (by decide) (viewB (h_75.ok _ M6) Sg.h) (Sls.cons ((List.length_reverse ..).trans (leN_len ..)) (h_75.own M2).2.2.1 (ownView (h_75.ok _ M2)) Sls.nil))) rfl ?_
      rintro _ w_78 ⟨a_76, cap_77, rfl, hc_79, ho_80⟩
      have h_81 := h_75.gotRow hc_79 ho_80
      refine WL.nil ?_
      refine ⟨(SL.nil _ _), ?_⟩
      obtain ⟨b_82, rr_83, ha_84, hb_85, hc_86⟩ := Own.open (h_81.own M0) (by decide)
      subst ha_84
      refine ZT.q rfl (Wn.no rfl) rfl rfl (fun wq hS => R.s2ap (a := (some ⟨b_82, 0, none⟩)) (k := 16) rfl underlying152 (by decide)) ?_
      refine ZT.s ?_
      refine OpZ.one rfl (Wn.no rfl) ?_
      refine qV rfl (R.loadGA (a := (some ⟨b_82, 0, none⟩)) (i := 0) (xs := (nonce ++ ((leN 8 (UInt64.ofNat i).toNat).reverse)).map vu8) (cs := (nonce ++ ((leN 8 (UInt64.ofNat i).toNat).reverse)).map vu8) rfl (ownView (h_81.ok _ M0)) isAgg152 sizeOf152 (by rw [List.drop_zero, List.take_of_length_le (by rw [len_map (lenApp (a := 8) (b := 8) hno ((List.length_reverse ..).trans (leN_len ..)) rfl)]; exact Nat.le_refl _)]) (len_map (lenApp (a := 8) (b := 8) hno ((List.length_reverse ..).trans (leN_len ..)) rfl)) (by decide)) ?_
      refine WL.nil ?_
      refine ⟨(SL.nil _ _), ?_⟩
      refine ZT.s ?_
      refine OpZ.one rfl (Wn.no rfl) ?_
      refine WL.call Tryz.call120 rfl rfl (c_do (keysL (tabL sub) key) (tabL sub) (nonce ++ ((leN 8 (UInt64.ofNat i).toNat).reverse)) (keysL_len ..) (tabL_len ..) (lenApp (a := 8) (b := 8) hno ((List.length_reverse ..).trans (leN_len ..)) rfl) b_7 _ (h_81.argR M6)) rfl ?_
      rintro _ w_88 ⟨rfl, hc_87⟩
      have h_89 := h_81.same hc_87
      refine WL.nil ?_
      refine ⟨(SL.nil _ _), ?_⟩
      refine ZT.s ?_
      refine OpZ.last rfl (Wn.no rfl) ?_
      refine WL.storeA [] [(16, (zB 16).map vu8)] [(16, (encN (keysL (tabL sub) key) (tabL sub) (nonce ++ ((leN 8 (UInt64.ofNat i).toNat).reverse)) 10).map vu8)] [] h_89 rfl rfl sizeOf152 Y1 (by decide) rfl rfl rfl rfl rfl rfl (sC (s8 (encN_len (keysL_len ..) (lenApp (a := 8) (b := 8) hno ((List.length_reverse ..).trans (leN_len ..)) rfl) (by omega))) sN) (fun w_90 h_91 => ?_)
      refine WL.nil (ZT.nil (thn_n ?_))
      have h_100 := ((((((((h_91.up J8).up J8).up J8).up J8).up J8).up J8).up J8).up J7).up J8
      exact ⟨(a_29, cap_30, b_35, b_82, cap_77, b_73), (U2 rfl rfl (U4 rfl rfl rfl rfl (U4 rfl rfl rfl rfl (Ag.refl _ _)))), ⟨rfl, rfl, rfl, rfl, rfl, rfl, rfl, rfl, rfl, rfl, trivial⟩, h_100⟩
    ·refine OpZ.one rfl (Wn.no rfl) ?_
     refine WL.alloc (segs := [(16, (zB 16).map vu8)]) h_34 (zv typeInfo152 rfl) rfl (sC (s8 lr) sN) rfl (fun b_101 w_102 h_103 => ?_)
     refine WL.nil ?_
     refine ⟨(SL.nil _ _), ?_⟩
     refine ZT.s ?_
     refine OpZ.one rfl (Wn.no rfl) ?_
     refine WL.buildSl (vs := [(0, (.slice (some ⟨b_4, 0, none⟩) 8 8)), (1, (.slice a_29 8 cap_30))]) (cs := [(.slice (some ⟨b_4, 0, none⟩) 8 8), (.slice a_29 8 cap_30)]) h_103 underlying128 sizeOf88 (zv typeInfo88 rfl) rfl rfl (by kernel_rfl) rfl (by simp [Value.oneCell']) rfl rfl (fun b_104 w_105 h_106 => ?_)
     refine WL.nil ?_
     refine ⟨(SL.nil _ _), ?_⟩
     refine ZT.s ?_
     refine OpZ.one rfl (Wn.no rfl) ?_
     refine WL.call Tryz.call95 rfl rfl (c_Join2 (some ⟨b_104, 0, none⟩) 2 [(.slice (some ⟨b_4, 0, none⟩) 8 8), (.slice a_29 8 cap_30)] nonce ((leN 8 (UInt64.ofNat i).toNat).reverse) hno ((List.length_reverse ..).trans (leN_len ..)) _ (viewB (h_106.ok _ M0) Sg.h) (Sls.cons hno (by decide) (viewB (h_106.ok _ M6) Sg.h) (Sls.cons ((List.length_reverse ..).trans (leN_len ..)) (h_106.own M2).2.2.1 (ownView (h_106.ok _ M2)) Sls.nil))) rfl ?_
     rintro _ w_109 ⟨a_107, cap_108, rfl, hc_110, ho_111⟩
     have h_112 := h_106.gotRow hc_110 ho_111
     refine WL.nil ?_
     refine ⟨(SL.nil _ _), ?_⟩
     obtain ⟨b_113, rr_114, ha_115, hb_116, hc_117⟩ := Own.open (h_112.own M0) (by decide)
     subst ha_115
     refine ZT.q rfl (Wn.no rfl) rfl rfl (fun wq hS => R.s2ap (a := (some ⟨b_113, 0, none⟩)) (k := 16) rfl underlying152 (by decide)) ?_
     refine ZT.s ?_
     refine OpZ.one rfl (Wn.no rfl) ?_
     refine qV rfl (R.loadGA (a := (some ⟨b_113, 0, none⟩)) (i := 0) (xs := (nonce ++ ((leN 8 (UInt64.ofNat i).toNat).reverse)).map vu8) (cs := (nonce ++ ((leN 8 (UInt64.ofNat i).toNat).reverse)).map vu8) rfl (ownView (h_112.ok _ M0)) isAgg152 sizeOf152 (by rw [List.drop_zero, List.take_of_length_le (by rw [len_map (lenApp (a := 8) (b := 8) hno ((List.length_reverse ..).trans (leN_len ..)) rfl)]; exact Nat.le_refl _)]) (len_map (lenApp (a := 8) (b := 8) hno ((List.length_reverse ..).trans (leN_len ..)) rfl)) (by decide)) ?_
     refine WL.nil ?_
     refine ⟨(SL.nil _ _), ?_⟩
     refine ZT.s ?_
     refine OpZ.one rfl (Wn.no rfl) ?_
     refine WL.call Tryz.call120 rfl rfl (c_do (keysL (tabL sub) key) (tabL sub) (nonce ++ ((leN 8 (UInt64.ofNat i).toNat).reverse)) (keysL_len ..) (tabL_len ..) (lenApp (a := 8) (b := 8) hno ((List.length_reverse ..).trans (leN_len ..)) rfl) b_7 _ (h_112.argR M6)) rfl ?_
     rintro _ w_119 ⟨rfl, hc_118⟩
     have h_120 := h_112.same hc_118
     refine WL.nil ?_
     refine ⟨(SL.nil _ _), ?_⟩
     refine ZT.s ?_
     refine OpZ.last rfl (Wn.no rfl) ?_
     refine WL.storeA [] [(16, (zB 16).map vu8)] [(16, (encN (keysL (tabL sub) key) (tabL sub) (nonce ++ ((leN 8 (UInt64.ofNat i).toNat).reverse)) 10).map vu8)] [] h_120 rfl rfl sizeOf152 Y2 (by decide) rfl rfl rfl rfl rfl rfl (sC (s8 (encN_len (keysL_len ..) (lenApp (a := 8) (b := 8) hno ((List.length_reverse ..).trans (leN_len ..)) rfl) (by omega))) sN) (fun w_121 h_122 => ?_)
     refine WL.nil (ZT.nil (thn_n ?_))
     have h_131 := ((((((((h_122.up J8).up J8).up J8).up J8).up J8).up J8).up J7).up J7).up J8
     exact ⟨(a_29, cap_30, b_104, b_113, cap_108, b_101), (U2 rfl rfl (U4 rfl rfl rfl rfl (U4 rfl rfl rfl rfl (Ag.refl _ _)))), ⟨rfl, rfl, rfl, rfl, rfl, rfl, rfl, rfl, rfl, rfl, trivial⟩, h_131⟩
   ·refine OpZ.one rfl (Wn.no rfl) ?_
    refine WL.alloc (segs := [(16, (zB 16).map vu8)]) h_27 (zv typeInfo152 rfl) rfl (sC (s8 lr) sN) rfl (fun b_132 w_133 h_134 => ?_)
    refine WL.nil ?_
    refine ⟨(SL.nil _ _), ?_⟩
    refine ZT.s ?_
    refine OpZ.one rfl (Wn.no rfl) ?_
    refine WL.call Tryz.call121 rfl rfl (c_Turned a_20 8 cap_21 (leN 8 (UInt64.ofNat i).toNat) (leN_len ..) (by omega) _ (ownView (h_134.ok _ M1))) rfl ?_
    rintro _ w_137 ⟨a_135, cap_136, rfl, hc_138, ho_139⟩
    have h_140 := h_134.gotRow hc_138 ho_139
    refine WL.nil ?_
    refine ⟨(SL.nil _ _), ?_⟩
    refine ZT.s ?_
    refine OpZ.one rfl (Wn.no rfl) ?_
    refine WL.buildSl (vs := [(0, (.slice (some ⟨b_4, 0, none⟩) 8 8)), (1, (.slice a_135 8 cap_136))]) (cs := [(.slice (some ⟨b_4, 0, none⟩) 8 8), (.slice a_135 8 cap_136)]) h_140 underlying128 sizeOf88 (zv typeInfo88 rfl) rfl rfl (by kernel_rfl) rfl (by simp [Value.oneCell']) rfl rfl (fun b_141 w_142 h_143 => ?_)
    refine WL.nil ?_
    refine ⟨(SL.nil _ _), ?_⟩
    refine ZT.s ?_
    refine OpZ.one rfl (Wn.no rfl) ?_
    refine WL.call Tryz.call95 rfl rfl (c_Join2 (some ⟨b_141, 0, none⟩) 2 [(.slice (some ⟨b_4, 0, none⟩) 8 8), (.slice a_135 8 cap_136)] nonce ((leN 8 (UInt64.ofNat i).toNat).reverse) hno ((List.length_reverse ..).trans (leN_len ..)) _ (viewB (h_143.ok _ M0) Sg.h) (Sls.cons hno (by decide) (viewB (h_143.ok _ M6) Sg.h) (Sls.cons ((List.length_reverse ..).trans (leN_len ..)) (h_143.own M1).2.2.1 (ownView (h_143.ok _ M1)) Sls.nil))) rfl ?_
    rintro _ w_146 ⟨a_144, cap_145, rfl, hc_147, ho_148⟩
    have h_149 := h_143.gotRow hc_147 ho_148
    refine WL.nil ?_
    refine ⟨(SL.nil _ _), ?_⟩
    obtain ⟨b_150, rr_151, ha_152, hb_153, hc_154⟩ := Own.open (h_149.own M0) (by decide)
    subst ha_152
    refine ZT.q rfl (Wn.no rfl) rfl rfl (fun wq hS => R.s2ap (a := (some ⟨b_150, 0, none⟩)) (k := 16) rfl underlying152 (by decide)) ?_
    refine ZT.s ?_
    refine OpZ.one rfl (Wn.no rfl) ?_
    refine qV rfl (R.loadGA (a := (some ⟨b_150, 0, none⟩)) (i := 0) (xs := (nonce ++ ((leN 8 (UInt64.ofNat i).toNat).reverse)).map vu8) (cs := (nonce ++ ((leN 8 (UInt64.ofNat i).toNat).reverse)).map vu8) rfl (ownView (h_149.ok _ M0)) isAgg152 sizeOf152 (by rw [List.drop_zero, List.take_of_length_le (by rw [len_map (lenApp (a := 8) (b := 8) hno ((List.length_reverse ..).trans (leN_len ..)) rfl)]; exact Nat.le_refl _)]) (len_map (lenApp (a := 8) (b := 8) hno ((List.length_reverse ..).trans (leN_len ..)) rfl)) (by decide)) ?_
    refine WL.nil ?_
    refine ⟨(SL.nil _ _), ?_⟩
    refine ZT.s ?_
    refine OpZ.one rfl (Wn.no rfl) ?_
    refine WL.call Tryz.call120 rfl rfl (c_do (keysL (tabL sub) key) (tabL sub) (nonce ++ ((leN 8 (UInt64.ofNat i).toNat).reverse)) (keysL_len ..) (tabL_len ..) (lenApp (a := 8) (b := 8) hno ((List.length_reverse ..).trans (leN_len ..)) rfl) b_7 _ (h_149.argR M6)) rfl ?_
    rintro _ w_156 ⟨rfl, hc_155⟩
    have h_157 := h_149.same hc_155
    refine WL.nil ?_
    refine ⟨(SL.nil _ _), ?_⟩
    refine ZT.s ?_
    refine OpZ.last rfl (Wn.no rfl) ?_
    refine WL.storeA [] [(16, (zB 16).map vu8)] [(16, (encN (keysL (tabL sub) key) (tabL sub) (nonce ++ ((leN 8 (UInt64.ofNat i).toNat).reverse)) 10).map vu8)] [] h_157 rfl rfl sizeOf152 Y3 (by decide) rfl rfl rfl rfl rfl rfl (sC (s8 (encN_len (keysL_len ..) (lenApp (a := 8) (b := 8) hno ((List.length_reverse ..).trans (leN_len ..)) rfl) (by omega))) sN) (fun w_158 h_159 => ?_)
    refine WL.nil (ZT.nil (thn_n ?_))
    have h_168 := ((((((((h_159.up J8).up J8).up J8).up J8).up J8).up J7).up J7).up J7).up J8
    exact ⟨(a_135, cap_136, b_141, b_150, cap_145, b_132), (U2 rfl rfl (U4 rfl rfl rfl rfl (U4 rfl rfl rfl rfl (Ag.refl _ _)))), ⟨rfl, rfl, rfl, rfl, rfl, rfl, rfl, rfl, rfl, rfl, trivial⟩, h_168⟩
  ·rintro ⟨a_172, cap_173, b_174, b_175, cap_176, b_177⟩ J_169 w_170 h_171
   refine thn_n (WP.reg ?_)
   refine qM (.slice ra (16 * i) rc) rfl rfl (qV rfl (R.sliceA (b := b_177) (off := 0) (off' := 0) (l := 0) (h := 16) rfl EvB.dflt EvB.dflt (by decide) (by decide) underlying152 sizeOf5 rfl) ?_)
   refine WL.append (km := 16 * i + 16) (xs := (strN key nonce i).map vu8) (ys := (encN (keysL (tabL sub) key) (tabL sub) (nonce ++ ((leN 8 (UInt64.ofNat i).toNat).reverse)) 10).map vu8) (zs := ((strN key nonce i) ++ (encN (keysL (tabL sub) key) (tabL sub) (nonce ++ ((leN 8 (UInt64.ofNat i).toNat).reverse)) 10)).map vu8) h_171 rfl rfl el88 (viewB (h_171.ok _ M0) Sg.h) ((len_map (encN_len (keysL_len ..) (lenApp (a := 8) (b := 8) hno ((List.length_reverse ..).trans (leN_len ..)) rfl) (by omega))).trans (Nat.mul_one _).symm) (one_u8 _) (by simp only [List.map_append, List.map_nil]) (by omega) (by omega) (by omega) (fun _ _ => Y5) rfl (fun a_178 c_179 w_180 h_181 => ?_)
   refine qA (.slice a_178 (16 * i + 16) c_179) rfl rfl ?_
   refine WL.nil (inb_n (thn_n (WP.reg ?_)))
   refine qM (vu64 (UInt64.ofNat i)) rfl rfl (qV rfl (R.bin rfl rfl (b64_add (UInt64.ofNat i) 1)) (qA (vu64 ((UInt64.ofNat i) + 1)) rfl rfl ?_))
   refine WL.nil (thn_n ?_)
   have h_190 := ((((((((h_181.drop rfl).drop rfl).drop rfl).drop rfl).drop rfl).up J3).up J3).up J3).up J3
   have es : (strN key nonce i) ++ (encN (keysL (tabL sub) key) (tabL sub) (nonce ++ ((leN 8 (UInt64.ofNat i).toNat).reverse)) 10) = strN key nonce (i + 1) := (by rw [u64nat (by omega)]; rfl)
   rw [es] at h_190
   exact ⟨(i + 1, a_178, c_179), _, (by omega), (Ag.upd rfl (U2 rfl rfl (U4 rfl rfl rfl rfl (Ag.updL rfl (Ag.trans (Ag.sub rfl (Ag.mix _ _ _)) (Ag.upd rfl (Ag.upd rfl (Ag.upd rfl (Ag.upd rfl (Ag.upd rfl (Ag.upd rfl (Ag.upd rfl (Ag.upd rfl (Ag.upd rfl (Ag.upd rfl (Ag.upd rfl (Ag.updL rfl (Ag.mix _ _ _)))))))))))))))))), ⟨rfl, congrArg vu64 (of_succ i), trivial⟩, h_190, (by omega), rfl⟩
 ·have p_191 := of_decide_eq_false c_18
  refine WP.exit (thn_x (thn_x (inb_hit (thn_n (WP.seq (WP.reg ?_))))))
  refine qM (.slice ra (16 * i) rc) rfl rfl (qM (vn n) rfl rfl (qM (vn n) rfl rfl (qV rfl (R.sliceR3 (h := n) rfl EvB.dflt rfl rfl rfl rfl (Nat.le_trans (by omega) (h_15.own M0).2.2.1) underlying88 sizeOf5 (h_15.ok _ M0)) ?_)))
  have h_192 := HP.rowCap (k := n) (ys := ((strN key nonce i).take n).map vu8) h_15 At.h (by omega) (by rw [Nat.mul_one, ← List.map_take])
  refine qA (.slice ra n n) rfl rfl (qA (vi 0) rfl rfl ?_)
  refine WL.nil (thn_n (WP.ret ?_))
  refine ret_of results99 (RV.tmp (v := (.slice ra n n)) rfl (RV.tmp (v := (vi 0)) rfl RV.nil)) ?_
  rw [strL_of hno (by omega)] at h_192
  exact ⟨_, rfl, h_192.chgS, h_192.ok _ M0⟩
end Go.Proofs.YteclkcpdclimnaaGreat

namespace Go.Proofs.YteclkcpdclimnaaGreat
open Go.Proofs.Tryz
open Go.Vc Go.Orc Go.Sh Go.RowKit
set_option maxRecDepth 20000

open Go.Ax
theorem u64n {k : Nat} (h : k < 256) : (UInt64.ofNat k).toNat = k := by simp; omega
theorem shl_lt (a : UInt8) {k : Nat} (h : k < 8) : a.toNat * 2 ^ k < 2 ^ 15 := by
 have ha := a.toNat_lt
 have hk : 2 ^ k ≤ 2 ^ 7 := Nat.pow_le_pow_right (by omega) (by omega)
 have : a.toNat * 2 ^ k ≤ 255 * 2 ^ 7 := Nat.mul_le_mul (by omega) hk
 omega
theorem shl283 {k : Nat} (h : k < 7) : 283 * 2 ^ k < 2 ^ 15 := by
 have hk : 2 ^ k ≤ 2 ^ 6 := Nat.pow_le_pow_right (by omega) (by omega)
 omega
theorem inv_none {a : UInt8} (h : ∀ j : Nat, 1 ≤ j → j < 256 → tm a (UInt8.ofNat j) ≠ 1) : inv a = 0 := by
 by_cases ha : a = 0
 ·subst ha; exact inv_0
 ·have h1 := inv_mul a ha
  have h2 := (inv a).toNat_lt
  by_cases h0 : (inv a).toNat = 0
  ·have : inv a = 0 := UInt8.toNat_inj.1 h0
   exact this
  ·exact absurd (by simpa using h1) (h (inv a).toNat (by omega) h2)
theorem sub_eq (a : UInt8) : inv a ^^^ rl (inv a) 1 ^^^ rl (inv a) 2 ^^^ rl (inv a) 3 ^^^ rl (inv a) 4 ^^^ 99 = sub a := by
 rw [sub, aff]
 generalize inv a = y
 generalize rl y 1 = p, rl y 2 = q, rl y 3 = r, rl y 4 = s
 simp only [UInt8.xor_assoc]
 congr 1
 rw [← UInt8.xor_assoc r, ← UInt8.xor_assoc q, ← UInt8.xor_assoc p, UInt8.xor_comm _ 99]
theorem c_TimesR (a b : UInt8) (w : World) :
  Cs Tryz.prog 148 [(vu8 a), (vu8 b)].toArray w (fun v w1 => v = (vu8 (tm a b)) ∧ Chg w w1 []) := by
 refine Cs.of (n := 43) (args := [(vu8 a), (vu8 b)]) Tryz.func148 rfl rfl rfl ?_
 have h_0 := HP.init w
 refine WP.seq (WP.reg ?_)
 refine qA (vu8 0) rfl rfl ?_
 refine WL.nil (thn_n (WP.seq (WP.reg ?_)))
 refine qA (vi 0) rfl rfl ?_
 refine WL.nil (thn_n (WP.seq (WP.seq (WP.reg ?_))))
 refine qA (vi 0) rfl rfl ?_
 refine WL.nil (thn_n (WP.block ?_))
 refine WP.loopG (G := Nat) [5, 6, 8, 9, 10, 11, 12, 13, 14, 15, 16, 17, 18, 19, 20, 21, 22, 23, 24] (fun k => [(5, (vn (rtA a b k))), (6, (vn k))]) (fun k m w1 => HP w w1 [] ∧ (k ≤ 8) ∧ m = 8 - k) ⟨0, _, ⟨rfl, rfl, trivial⟩, h_0, (by omega), rfl⟩ ?_
 rintro k m_3 J_4 w_1 ⟨h_2, hk, rfl⟩
 have ek : (UInt64.ofNat k).toNat = k := u64n (by omega)
 refine WP.seq (WP.seq (WP.reg ?_))
 refine qM (vn k) rfl rfl (qV rfl (R.bin rfl rfl (bi_lss (r := decide ((((k : Nat) : Int) : Int) < 8)) rfl)) ?_)
 refine WL.nil (thn_n ?_)
 refine WP.cond (b := decide ((((k : Nat) : Int) : Int) < 8)) rfl (fun c_5 => ?_) (fun c_5 => ?_)
 ·have p_6 := of_decide_eq_true c_5
  refine WP.skip (thn_n (WP.seq (WP.block (WP.seq (WP.reg ?_)))))
  refine qM (vu8 b) rfl rfl (qM (vn k) rfl rfl (qV rfl (R.conv (b := ((UInt64.ofNat k) : UInt64).toNat) rfl underlying3 underlying168 (w64_nat k)) (qV rfl (R.binR (v := vu8 (shr8 b ((UInt64.ofNat k).toNat))) rfl rfl (run_shr8 _ _ _ b _ ((UInt64.ofNat k).toNat))) (qV rfl (R.bin (v := (vu8 ((shr8 b ((UInt64.ofNat k).toNat)) % 2))) rfl rfl (b8_rem (shr8 b ((UInt64.ofNat k).toNat)) 2 (by decide))) (qV rfl (R.bin (v := (.bool (decide (((shr8 b ((UInt64.ofNat k).toNat)) % 2 : UInt8) = 1)))) rfl rfl (b8_eql ((shr8 b ((UInt64.ofNat k).toNat)) % 2) 1 (r := decide (((shr8 b ((UInt64.ofNat k).toNat)) % 2 : UInt8) = 1)) rfl)) ?_)))))
  refine WL.nil (thn_n ?_)
  refine WP.cond (b := decide (((shr8 b ((UInt64.ofNat k).toNat)) % 2 : UInt8) = 1)) rfl (fun c_7 => ?_) (fun c_7 => ?_)
  ·have p_8 := of_decide_eq_true c_7
   refine WP.reg ?_
   refine qM (vn (rtA a b k)) rfl rfl (qM (vu8 a) rfl rfl (qV rfl (R.conv (b := ((a.toNat : Nat) : Int)) rfl underlying5 underlying3 (i64_u8 a)) (qM (vn k) rfl rfl (qV rfl (R.conv (b := ((UInt64.ofNat k) : UInt64).toNat) rfl underlying3 underlying168 (w64_nat k)) (qV rfl (R.binR (v := (vn (a.toNat * 2 ^ ((UInt64.ofNat k).toNat)))) rfl rfl (run_shlN _ _ _ a.toNat _ ((UInt64.ofNat k).toNat) (by rw [ek]; omega) (by rw [ek]; exact Nat.lt_trans (shl_lt a (by omega)) (by decide)))) (qV rfl (R.bin (v := (vn ((rtA a b k) ^^^ (a.toNat * 2 ^ ((UInt64.ofNat k).toNat))))) rfl rfl (bi_xorN (m := rtA a b k) (n := a.toNat * 2 ^ ((UInt64.ofNat k).toNat)) (Nat.lt_trans (rtA_lt a b k (by omega)) (by decide)) (by rw [ek]; exact Nat.lt_trans (shl_lt a (by omega)) (by decide)))) (qA (vn ((rtA a b k) ^^^ (a.toNat * 2 ^ ((UInt64.ofNat k).toNat)))) rfl rfl ?_)))))))
   refine WL.nil (inb_n (thn_n (WP.reg ?_)))
   refine qM (vn k) rfl rfl (qV rfl (R.bin rfl rfl (bi_add (c := ((k + 1 : Nat) : Int)) (by omega) (by omega))) (qA (vn (k + 1)) rfl rfl ?_))
   refine WL.nil (thn_n ?_)
   rw [ek] at p_8
   have en : (rtA a b k) ^^^ (a.toNat * 2 ^ ((UInt64.ofNat k).toNat)) = rtA a b (k + 1) := by rw [ek, rtA, if_pos p_8]
   exact ⟨k + 1, _, (by omega), (Ag.upd rfl (U2 rfl rfl (U4 rfl rfl rfl rfl (U4 rfl rfl rfl rfl (U4 rfl rfl rfl rfl (U4 rfl rfl rfl rfl (Ag.updL rfl (Ag.mix _ _ _)))))))), ⟨by rw [← en]; rfl, rfl, trivial⟩, h_2, (by omega), rfl⟩
  ·have p_9 := of_decide_eq_false c_7
   refine WP.skip (inb_n (thn_n (WP.reg ?_)))
   refine qM (vn k) rfl rfl (qV rfl (R.bin rfl rfl (bi_add (c := ((k + 1 : Nat) : Int)) (by omega) (by omega))) (qA (vn (k + 1)) rfl rfl ?_))
   refine WL.nil (thn_n ?_)
   rw [ek] at p_9
   have en : rtA a b k = rtA a b (k + 1) := by rw [rtA, if_neg p_9]
   exact ⟨k + 1, _, (by omega), (Ag.upd rfl (U2 rfl rfl (U4 rfl rfl rfl rfl (U4 rfl rfl rfl rfl (Ag.updL rfl (Ag.mix _ _ _)))))), ⟨by rw [← en]; rfl, rfl, trivial⟩, h_2, (by omega), rfl⟩
 ·have p_10 := of_decide_eq_false c_5
  refine WP.exit (thn_x (thn_x (inb_hit (thn_n (WP.seq (WP.seq (WP.reg ?_)))))))
  refine qA (vi 14) rfl rfl ?_
  refine WL.nil (thn_n (WP.block ?_))
  have hk8 : k = 8 := by omega
  subst hk8
  refine WP.loopG (G := Nat) [5, 7, 25, 26, 27, 28, 29, 30, 31, 32, 33, 34, 35, 36, 37, 38, 39, 40] (fun j => [(5, (vn (rtB (rtA a b 8) j))), (7, (vn (14 - j)))]) (fun j m w1 => HP w w1 [] ∧ (j ≤ 7) ∧ m = 7 - j) ⟨0, _, ⟨rfl, rfl, trivial⟩, h_2, (by omega), rfl⟩ ?_
  rintro j m_13 J_14 w_11 ⟨h_12, hj, rfl⟩
  have ek : (UInt64.ofNat (14 - j)).toNat = 14 - j := u64n (by omega)
  have ek2 : (UInt64.ofNat (14 - j - 8)).toNat = 14 - j - 8 := u64n (by omega)
  have hlt := rtB_lt (rtA_lt a b 8 (by omega)) j (by omega)
  refine WP.seq (WP.seq (WP.reg ?_))
  refine qM (vn (14 - j)) rfl rfl (qV rfl (R.bin rfl rfl (bi_geq (r := decide ((((14 - j : Nat) : Int) : Int) ≥ 8)) rfl)) ?_)
  refine WL.nil (thn_n ?_)
  refine WP.cond (b := decide ((((14 - j : Nat) : Int) : Int) ≥ 8)) rfl (fun c_15 => ?_) (fun c_15 => ?_)
  ·have p_16 := of_decide_eq_true c_15
   refine WP.skip (thn_n (WP.seq (WP.block (WP.seq (WP.reg ?_)))))
   refine qM (vn (rtB (rtA a b 8) j)) rfl rfl (qM (vn (14 - j)) rfl rfl (qV rfl (R.conv (b := ((UInt64.ofNat (14 - j)) : UInt64).toNat) rfl underlying3 underlying168 (w64_nat (14 - j))) (qV rfl (R.binR (v := (vn ((rtB (rtA a b 8) j) / 2 ^ ((UInt64.ofNat (14 - j)).toNat)))) rfl rfl (run_shrN _ _ _ (rtB (rtA a b 8) j) _ ((UInt64.ofNat (14 - j)).toNat) (by rw [ek]; omega))) (qV rfl (R.bin rfl rfl (bi_rem (c := ((((rtB (rtA a b 8) j) / 2 ^ ((UInt64.ofNat (14 - j)).toNat)) % 2 : Nat) : Int)) (Int.natCast_nonneg _) (by omega) (by first | omega | rfl))) (qV rfl (R.bin rfl rfl (bi_eql (r := decide ((((((rtB (rtA a b 8) j) / 2 ^ ((UInt64.ofNat (14 - j)).toNat)) % 2 : Nat) : Int) : Int) = 1)) rfl)) ?_)))))
   refine WL.nil (thn_n ?_)
   refine WP.cond (b := decide ((((((rtB (rtA a b 8) j) / 2 ^ ((UInt64.ofNat (14 - j)).toNat)) % 2 : Nat) : Int) : Int) = 1)) rfl (fun c_17 => ?_) (fun c_17 => ?_)
   ·have p_18 := of_decide_eq_true c_17
    refine WP.reg ?_
    refine qM (vn (rtB (rtA a b 8) j)) rfl rfl (qM (vn (14 - j)) rfl rfl (qV rfl (R.bin rfl rfl (bi_sub (c := ((14 - j - 8 : Nat) : Int)) (by omega) (by omega))) (qV rfl (R.conv (b := ((UInt64.ofNat (14 - j - 8)) : UInt64).toNat) rfl underlying3 underlying168 (w64_nat (14 - j - 8))) (qV rfl (R.binR (v := (vn (283 * 2 ^ ((UInt64.ofNat (14 - j - 8)).toNat)))) rfl rfl (run_shlN _ _ _ 283 _ ((UInt64.ofNat (14 - j - 8)).toNat) (by rw [ek2]; omega) (by rw [ek2]; exact Nat.lt_trans (shl283 (by omega)) (by decide)))) (qV rfl (R.bin (v := (vn ((rtB (rtA a b 8) j) ^^^ (283 * 2 ^ ((UInt64.ofNat (14 - j - 8)).toNat))))) rfl rfl (bi_xorN (m := rtB (rtA a b 8) j) (n := 283 * 2 ^ ((UInt64.ofNat (14 - j - 8)).toNat)) (Nat.lt_trans hlt (by decide)) (by rw [ek2]; exact Nat.lt_trans (shl283 (by omega)) (by decide)))) (qA (vn ((rtB (rtA a b 8) j) ^^^ (283 * 2 ^ ((UInt64.ofNat (14 - j - 8)).toNat)))) rfl rfl ?_))))))
    refine WL.nil (inb_n (thn_n (WP.reg ?_)))
    refine qM (vn (14 - j)) rfl rfl (qV rfl (R.bin rfl rfl (bi_sub (c := ((14 - j - 1 : Nat) : Int)) (by omega) (by omega))) (qA (vn (14 - j - 1)) rfl rfl ?_))
    refine WL.nil (thn_n ?_)
    rw [ek] at p_18
    have en : (rtB (rtA a b 8) j) ^^^ (283 * 2 ^ ((UInt64.ofNat (14 - j - 8)).toNat)) = rtB (rtA a b 8) (j + 1) := by rw [ek2, rtB, if_pos (by exact_mod_cast p_18)]
    exact ⟨j + 1, _, (by omega), (U2 rfl rfl (U4 rfl rfl rfl rfl (U4 rfl rfl rfl rfl (U4 rfl rfl rfl rfl (U4 rfl rfl rfl rfl (Ag.updL rfl (Ag.mix _ _ _))))))), ⟨by rw [← en]; rfl, congrArg vi (by omega), trivial⟩, h_12, (by omega), rfl⟩
   ·have p_19 := of_decide_eq_false c_17
    refine WP.skip (inb_n (thn_n (WP.reg ?_)))
    refine qM (vn (14 - j)) rfl rfl (qV rfl (R.bin rfl rfl (bi_sub (c := ((14 - j - 1 : Nat) : Int)) (by omega) (by omega))) (qA (vn (14 - j - 1)) rfl rfl ?_))
    refine WL.nil (thn_n ?_)
    rw [ek] at p_19
    have en : rtB (rtA a b 8) j = rtB (rtA a b 8) (j + 1) := by rw [rtB, if_neg (fun e => p_19 (by exact_mod_cast e))]
    exact ⟨j + 1, _, (by omega), (Ag.upd rfl (U2 rfl rfl (U4 rfl rfl rfl rfl (U4 rfl rfl rfl rfl (Ag.updL rfl (Ag.mix _ _ _)))))), ⟨by rw [← en]; rfl, congrArg vi (by omega), trivial⟩, h_12, (by omega), rfl⟩
  ·have p_20 := of_decide_eq_false c_15
   refine WP.exit (thn_x (thn_x (inb_hit (thn_n (WP.seq (WP.reg ?_))))))
   refine qM (vn (rtB (rtA a b 8) j)) rfl rfl (qV rfl (R.conv (b := ((UInt8.ofNat (rtB (rtA a b 8) j)) : UInt8).toNat) rfl underlying3 underlying5 (w8_nat (rtB (rtA a b 8) j))) (qA (vu8 (UInt8.ofNat (rtB (rtA a b 8) j))) rfl rfl ?_))
   refine WL.nil (thn_n (WP.ret ?_))
   refine ret_of results148 (RV.tmp (v := (vu8 (UInt8.ofNat (rtB (rtA a b 8) j)))) rfl RV.nil) ?_
   have hj7 : j = 7 := by omega
   subst hj7
   exact ⟨congrArg vu8 (rt_tm a b), h_12.chgS⟩

theorem c_InverseR (a : UInt8) (w : World) :
  Cs Tryz.prog 164 [(vu8 a)].toArray w (fun v w1 => v = (vu8 (inv a)) ∧ Chg w w1 []) := by
 refine Cs.of (n := 15) (args := [(vu8 a)]) Tryz.func164 rfl rfl rfl ?_
 have h_0 := HP.init w
 refine WP.seq (WP.reg ?_)
 refine qA (vu8 0) rfl rfl ?_
 refine WL.nil (thn_n (WP.seq (WP.seq (WP.reg ?_))))
 refine qA (vi 1) rfl rfl ?_
 refine WL.nil (thn_n (WP.block ?_))
 refine WP.loopG (G := Nat) [2, 3, 4, 5, 6, 7, 8, 9, 10, 11, 12, 13, 14] (fun b => [(3, (vn b))]) (fun b m w1 => HP w w1 [] ∧ (1 ≤ b) ∧ (b ≤ 256) ∧ (∀ j : Nat, 1 ≤ j → j < b → tm a (UInt8.ofNat j) ≠ 1) ∧ m = 256 - b) ⟨1, _, ⟨rfl, trivial⟩, h_0, (by omega), (by omega), (fun j h1 h2 => by omega), rfl⟩ ?_
 rintro b m_3 J_4 w_1 ⟨h_2, hb1, hb2, hno, rfl⟩
 refine WP.seq (WP.seq (WP.reg ?_))
 refine qM (vn b) rfl rfl (qV rfl (R.bin rfl rfl (bi_lss (r := decide ((((b : Nat) : Int) : Int) < 256)) rfl)) ?_)
 refine WL.nil (thn_n ?_)
 refine WP.cond (b := decide ((((b : Nat) : Int) : Int) < 256)) rfl (fun c_5 => ?_) (fun c_5 => ?_)
 ·have p_6 := of_decide_eq_true c_5
  refine WP.skip (thn_n (WP.seq (WP.block (WP.seq (WP.reg ?_)))))
  refine qM (vu8 a) rfl rfl (qM (vn b) rfl rfl (qV rfl (R.conv (b := ((UInt8.ofNat b) : UInt8).toNat) rfl underlying3 underlying5 (w8_nat b)) ?_))
  refine WL.call Tryz.call148 rfl rfl (c_TimesR a (UInt8.ofNat b) _ ) rfl ?_
  rintro _ w_8 ⟨rfl, hc_7⟩
  have h_9 := h_2.same hc_7
  refine qV rfl (R.bin (v := (.bool (decide ((tm a (UInt8.ofNat b) : UInt8) = 1)))) rfl rfl (b8_eql (tm a (UInt8.ofNat b)) 1 (r := decide ((tm a (UInt8.ofNat b) : UInt8) = 1)) rfl)) ?_
  refine WL.nil (thn_n ?_)
  refine WP.cond (b := decide ((tm a (UInt8.ofNat b) : UInt8) = 1)) rfl (fun c_10 => ?_) (fun c_10 => ?_)
  ·have p_11 := of_decide_eq_true c_10
   refine WP.seq (WP.reg ?_)
   refine qM (vn b) rfl rfl (qV rfl (R.conv (b := ((UInt8.ofNat b) : UInt8).toNat) rfl underlying3 underlying5 (w8_nat b)) (qA (vu8 (UInt8.ofNat b)) rfl rfl ?_))
   refine WL.nil (thn_n (WP.ret (inb_r (thn_r (thn_r (inb_r (thn_r ?_)))))))
   refine ret_of results164 (RV.tmp (v := (vu8 (UInt8.ofNat b))) rfl RV.nil) ?_
   exact ⟨congrArg vu8 (inv_of p_11), h_9.chgS⟩
  ·have p_12 := of_decide_eq_false c_10
   refine WP.skip (inb_n (thn_n (WP.reg ?_)))
   refine qM (vn b) rfl rfl (qV rfl (R.bin rfl rfl (bi_add (c := ((b + 1 : Nat) : Int)) (by omega) (by omega))) (qA (vn (b + 1)) rfl rfl ?_))
   refine WL.nil (thn_n ?_)
   refine ⟨b + 1, _, (by omega), (U2 rfl rfl (U4 rfl rfl rfl rfl (U4 rfl rfl rfl rfl (Ag.updL rfl (Ag.mix _ _ _))))), ⟨rfl, trivial⟩, h_9, (by omega), (by omega), (fun j h1 h2 => ?_), rfl⟩
   rcases Nat.lt_or_eq_of_le (Nat.le_of_lt_succ h2) with h | h
   ·exact hno j h1 h
   ·rw [h]; exact p_12
 ·have p_13 := of_decide_eq_false c_5
  refine WP.exit (thn_x (thn_x (inb_hit (thn_n (WP.seq (WP.reg ?_))))))
  refine qA (vu8 0) rfl rfl ?_
  refine WL.nil (thn_n (WP.ret ?_))
  refine ret_of results164 (RV.tmp (v := (vu8 0)) rfl RV.nil) ?_
  have hb3 : b = 256 := by omega
  subst hb3
  exact ⟨congrArg vu8 (inv_none hno).symm, h_2.chgS⟩

theorem c_SubR (a : UInt8) (w : World) :
  Cs Tryz.prog 147 [(vu8 a)].toArray w (fun v w1 => v = (vu8 (sub a)) ∧ Chg w w1 []) := by
 refine Cs.of (n := 20) (args := [(vu8 a)]) Tryz.func147 rfl rfl rfl ?_
 have h_0 := HP.init w
 refine WP.seq (WP.reg ?_)
 refine qA (vu8 0) rfl rfl ?_
 refine WL.nil (thn_n (WP.seq (WP.reg ?_)))
 refine qM (vu8 a) rfl rfl ?_
 refine WL.call Tryz.call164 rfl rfl (c_InverseR a _ ) rfl ?_
 rintro _ w_2 ⟨rfl, hc_1⟩
 have h_3 := h_0.same hc_1
 refine qA (vu8 (inv a)) rfl rfl ?_
 refine WL.nil (thn_n (WP.seq (WP.reg ?_)))
 refine qM (vu8 (inv a)) rfl rfl (qM (vu8 (inv a)) rfl rfl ?_)
 refine WL.call Tryz.call165 rfl rfl (c_rol1 (inv a) _ ) rfl ?_
 rintro _ w_5 ⟨rfl, hc_4⟩
 have h_6 := h_3.same hc_4
 refine qV rfl (R.bin rfl rfl (b8_xor (inv a) (rl (inv a) 1))) (qM (vu8 (inv a)) rfl rfl ?_)
 refine WL.call Tryz.call165 rfl rfl (c_rol2 (inv a) _ ) rfl ?_
 rintro _ w_8 ⟨rfl, hc_7⟩
 have h_9 := h_6.same hc_7
 refine qV rfl (R.bin rfl rfl (b8_xor ((inv a) ^^^ (rl (inv a) 1)) (rl (inv a) 2))) (qM (vu8 (inv a)) rfl rfl ?_)
 refine WL.call Tryz.call165 rfl rfl (c_rol3 (inv a) _ ) rfl ?_
 rintro _ w_11 ⟨rfl, hc_10⟩
 have h_12 := h_9.same hc_10
 refine qV rfl (R.bin rfl rfl (b8_xor (((inv a) ^^^ (rl (inv a) 1)) ^^^ (rl (inv a) 2)) (rl (inv a) 3))) (qM (vu8 (inv a)) rfl rfl ?_)
 refine WL.call Tryz.call165 rfl rfl (c_rol4 (inv a) _ ) rfl ?_
 rintro _ w_14 ⟨rfl, hc_13⟩
 have h_15 := h_12.same hc_13
 refine qV rfl (R.bin rfl rfl (b8_xor ((((inv a) ^^^ (rl (inv a) 1)) ^^^ (rl (inv a) 2)) ^^^ (rl (inv a) 3)) (rl (inv a) 4))) (qV rfl (R.bin rfl rfl (b8_xor (((((inv a) ^^^ (rl (inv a) 1)) ^^^ (rl (inv a) 2)) ^^^ (rl (inv a) 3)) ^^^ (rl (inv a) 4)) 99)) (qA (vu8 ((((((inv a) ^^^ (rl (inv a) 1)) ^^^ (rl (inv a) 2)) ^^^ (rl (inv a) 3)) ^^^ (rl (inv a) 4)) ^^^ 99)) rfl rfl ?_))
 refine WL.nil (thn_n (WP.ret ?_))
 refine ret_of results147 (RV.tmp (v := (vu8 ((((((inv a) ^^^ (rl (inv a) 1)) ^^^ (rl (inv a) 2)) ^^^ (rl (inv a) 3)) ^^^ (rl (inv a) 4)) ^^^ 99))) rfl RV.nil) ?_
 exact ⟨congrArg vu8 (sub_eq a), h_15.chgS⟩
end Go.Proofs.YteclkcpdclimnaaGreat

namespace Go.Proofs.YteclkcpdclimnaaGreat
open Go.Proofs.Tryz
open Go.Vc Go.Orc Go.Sh Go.RowKit
set_option maxRecDepth 20000

open Go.Ax
theorem c_xorR (s k : List UInt8) (hs : s.length = 16) (hk : k.length = 16) (w : World) :
  Cs Tryz.prog 149 [(.agg ⟨s.map vu8⟩), (.agg ⟨k.map vu8⟩)].toArray w (fun v w1 => v = (.agg ⟨(xorL s k).map vu8⟩) ∧ Chg w w1 []) := by
 refine Cs.of (n := 20) (args := [(.agg ⟨s.map vu8⟩), (.agg ⟨k.map vu8⟩)]) Tryz.func149 rfl rfl rfl ?_
 have h_0 := HP.init w
 refine WP.seq (WP.reg ?_)
 refine WL.box (segs := [(16, s.map vu8)]) h_0 rfl rfl (sC (s8 hs) sN) rfl (fun b_1 w_2 h_3 => ?_)
 refine WL.box (segs := [(16, k.map vu8)]) h_3 rfl rfl (sC (s8 hk) sN) rfl (fun b_4 w_5 h_6 => ?_)
 refine WL.alloc (segs := [(16, (zB 16).map vu8)]) h_6 (zv typeInfo152 rfl) rfl (sC (s8 lr) sN) rfl (fun b_7 w_8 h_9 => ?_)
 refine WL.nil (thn_n (WP.seq (WP.seq (WP.reg ?_))))
 refine qA (vi 0) rfl rfl ?_
 refine WL.nil (thn_n (WP.block ?_))
 refine WP.loopG (G := Nat) [5, 6, 7, 8, 9, 10, 11, 12, 13, 14, 15, 16, 17, 18] (fun i => [(5, (vn i))]) (fun i m w1 => HP w w1 [.blk b_7 .nw 152 [(16, (zB 16).map vu8)], .blk b_4 .nw 152 [(16, k.map vu8)], .blk b_1 .nw 152 [(16, (xk s k i).map vu8)]] ∧ (i ≤ 16) ∧ m = 16 - i) ⟨0, _, ⟨rfl, trivial⟩, (by rw [xk_0]; exact h_9), (by omega), rfl⟩ ?_
 rintro i m_12 J_13 w_10 ⟨h_11, hi, rfl⟩
 refine WP.seq (WP.seq (WP.reg ?_))
 refine qM (vn i) rfl rfl (qV rfl (R.bin rfl rfl (bi_lss (r := decide ((((i : Nat) : Int) : Int) < 16)) rfl)) ?_)
 refine WL.nil (thn_n ?_)
 refine WP.cond (b := decide ((((i : Nat) : Int) : Int) < 16)) rfl (fun c_14 => ?_) (fun c_14 => ?_)
 ·have p_15 := of_decide_eq_true c_14
  refine WP.skip (thn_n (WP.seq (WP.block ?_)))
  refine WP.drawZ 9 (SL w.heap.size [.blk b_7 .nw 152 [(16, (zB 16).map vu8)], .blk b_4 .nw 152 [(16, k.map vu8)], .blk b_1 .nw 152 [(16, (xk s k i).map vu8)]]) (.q 0 (.q 1 (.q 2 (.q 3 (.q 4 (.q 5 (.q 6 (.q 7 (.q 8 (.s 9 .nil)))))))))) (by kernel_rfl) (by kernel_rfl) rfl (by kernel_rfl) (fun w_16 hc_18 => (SL.cons ((h_11.same hc_18).ok _ M0) (SL.cons ((h_11.same hc_18).ok _ M1) (SL.cons ((h_11.same hc_18).ok _ M2) (SL.nil _ _))))) (fun w_16 hc_18 => ?_)
  have h_17 := h_11.same hc_18
  refine ZT.q rfl (Wn.no rfl) rfl rfl (fun wq hS => R.move (v := (vn i)) rfl) ?_
  refine ZT.q rfl (Wn.no rfl) rfl rfl (fun wq hS => R.move (v := (vn i)) rfl) ?_
  refine ZT.q rfl (Wn.no rfl) rfl rfl (fun wq hS => R.indexA (b := b_1) (off := 0) (off' := (0 + i)) (i := i) rfl rfl rfl (by omega) underlying152 sizeOf5 (by rw [Nat.mul_one])) ?_
  refine ZT.q rfl (Wn.no rfl) rfl rfl (fun wq hS => R.loadE (b := b_1) (off := (0 + i)) (i := i) (v := (vu8 ((xk s k i).getD i 0))) rfl isAgg5 (hS _ M2) Sg.h rfl (get_u8 (lt_len (K := 16) (xk_len hs hk) (by omega)))) ?_
  refine ZT.q rfl (Wn.no rfl) rfl rfl (fun wq hS => R.move (v := (vn i)) rfl) ?_
  refine ZT.q rfl (Wn.no rfl) rfl rfl (fun wq hS => R.indexA (b := b_4) (off := 0) (off' := (0 + i)) (i := i) rfl rfl rfl (by omega) underlying152 sizeOf5 (by rw [Nat.mul_one])) ?_
  refine ZT.q rfl (Wn.no rfl) rfl rfl (fun wq hS => R.loadE (b := b_4) (off := (0 + i)) (i := i) (v := (vu8 (k.getD i 0))) rfl isAgg5 (hS _ M1) Sg.h rfl (get_u8 (lt_len (K := 16) hk (by omega)))) ?_
  refine ZT.q rfl (Wn.no rfl) rfl rfl (fun wq hS => R.bin rfl rfl (b8_xor ((xk s k i).getD i 0) (k.getD i 0))) ?_
  refine ZT.q rfl (Wn.no rfl) rfl rfl (fun wq hS => R.indexA (b := b_1) (off := 0) (off' := (0 + i)) (i := i) rfl rfl rfl (by omega) underlying152 sizeOf5 (by rw [Nat.mul_one])) ?_
  refine ZT.s ?_
  refine OpZ.last rfl (Wn.no rfl) ?_
  refine WL.storeE (b := b_1) (off := (0 + i)) (i := i) (v := (vu8 (((xk s k i).getD i 0) ^^^ (k.getD i 0)))) (cs' := ((xk s k i).set i (((xk s k i).getD i 0) ^^^ (k.getD i 0))).map vu8) h_17 rfl rfl sizeOf5 rfl Y2 (by decide) Sg.h rfl (lt_len (K := 16) (len_map (xk_len hs hk)) (by omega)) (set_u8 _ _ _) (fun w_19 h_20 => ?_)
  refine WL.nil (ZT.nil (inb_n (thn_n (WP.reg ?_))))
  refine qM (vn i) rfl rfl (qV rfl (R.bin rfl rfl (bi_add (c := ((i + 1 : Nat) : Int)) (by omega) (by omega))) (qA (vn (i + 1)) rfl rfl ?_))
  refine WL.nil (thn_n ?_)
  rw [xk_step hs hk (by omega)] at h_20
  exact ⟨i + 1, _, (by omega), (U2 rfl rfl (U4 rfl rfl rfl rfl (U4 rfl rfl rfl rfl (U4 rfl rfl rfl rfl (Ag.updL rfl (Ag.mix _ _ _)))))), ⟨rfl, trivial⟩, h_20, (by omega), rfl⟩
 ·have p_21 := of_decide_eq_false c_14
  refine WP.exit (thn_x (thn_x (inb_hit (thn_n (WP.seq (WP.reg ?_))))))
  refine qV rfl (R.loadA [] [(16, (xk s k i).map vu8)] [] (cs := (xk s k i).map vu8) rfl isAgg152 sizeOf152 (h_11.ok _ M2) rfl rfl rfl rfl) ?_
  refine WL.storeA [] [(16, (zB 16).map vu8)] [(16, (xk s k i).map vu8)] [] h_11 rfl rfl sizeOf152 At.h (by decide) rfl rfl rfl rfl rfl rfl (sC (s8 (xk_len hs hk)) sN) (fun w_22 h_23 => ?_)
  refine WL.nil (thn_n (WP.ret ?_))
  refine ret_of results149 (RV.cell rfl (h_23.loadA (cs := (xk s k i).map vu8) isAgg152 sizeOf152 M0 rfl rfl) RV.nil) ?_
  have hi2 : i = 16 := by omega
  subst hi2
  exact ⟨by rw [xk_16 hs hk]; rfl, h_23.chgS⟩

theorem c_mixR (s f : List UInt8) (hs : s.length = 16) (hf : f.length = 4) (w : World) :
  Cs Tryz.prog 150 [(.agg ⟨s.map vu8⟩), (.agg ⟨f.map vu8⟩)].toArray w (fun v w1 => v = (.agg ⟨(mixL s f).map vu8⟩) ∧ Chg w w1 []) := by
 refine Cs.of (n := 48) (args := [(.agg ⟨s.map vu8⟩), (.agg ⟨f.map vu8⟩)]) Tryz.func150 rfl rfl rfl ?_
 have h_0 := HP.init w
 refine WP.seq (WP.reg ?_)
 refine WL.box (segs := [(16, s.map vu8)]) h_0 rfl rfl (sC (s8 hs) sN) rfl (fun b_1 w_2 h_3 => ?_)
 refine WL.box (segs := [(4, f.map vu8)]) h_3 rfl rfl (sC (s8 hf) sN) rfl (fun b_4 w_5 h_6 => ?_)
 refine WL.alloc (segs := [(16, (zB 16).map vu8)]) h_6 (zv typeInfo152 rfl) rfl (sC (s8 lr) sN) rfl (fun b_7 w_8 h_9 => ?_)
 refine WL.nil (thn_n (WP.seq (WP.reg ?_)))
 refine WL.alloc (segs := [(16, (zB 16).map vu8)]) h_9 (zv typeInfo152 rfl) rfl (sC (s8 lr) sN) rfl (fun b_10 w_11 h_12 => ?_)
 refine WL.nil (thn_n (WP.seq (WP.seq (WP.reg ?_))))
 refine qA (vi 0) rfl rfl ?_
 refine WL.nil (thn_n (WP.block ?_))
 refine WP.loopG (G := Nat) [6, 7, 8, 9, 10, 11, 12, 13, 14, 15, 16, 17, 18, 19, 20, 21, 22, 23, 24, 25, 26, 27, 28, 29, 30, 31, 32, 33, 34, 35, 36, 37, 38, 39, 40, 41, 42, 43, 44, 45, 46] (fun c => [(6, (vn c))]) (fun c m w1 => HP w w1 [.blk b_10 .nw 152 [(16, (pre 16 (mb s f) (4 * c)).map vu8)], .blk b_7 .nw 152 [(16, (zB 16).map vu8)], .blk b_4 .nw 195 [(4, f.map vu8)], .blk b_1 .nw 152 [(16, s.map vu8)]] ∧ (c ≤ 4) ∧ m = 4 - c) ⟨0, _, ⟨rfl, trivial⟩, (by rw [Nat.mul_zero, pre_0]; exact h_12), (by omega), rfl⟩ ?_
 rintro c m_15 J_16 w_13 ⟨h_14, hc, rfl⟩
 refine WP.seq (WP.seq (WP.reg ?_))
 refine qM (vn c) rfl rfl (qV rfl (R.bin rfl rfl (bi_lss (r := decide ((((c : Nat) : Int) : Int) < 4)) rfl)) ?_)
 refine WL.nil (thn_n ?_)
 refine WP.cond (b := decide ((((c : Nat) : Int) : Int) < 4)) rfl (fun c_17 => ?_) (fun c_17 => ?_)
 ·have p_18 := of_decide_eq_true c_17
  refine WP.skip (thn_n (WP.seq (WP.block (WP.seq (WP.reg ?_)))))
  refine qA (vi 0) rfl rfl ?_
  refine WL.nil (thn_n (WP.block ?_))
  refine WP.loopG (G := Nat) [7, 8, 13, 14, 15, 16, 17, 18, 19, 20, 21, 22, 23, 24, 25, 26, 27, 28, 29, 30, 31, 32, 33, 34, 35, 36, 37, 38, 39, 40, 41, 42, 43, 44, 45, 46] (fun r => [(7, (vn r))]) (fun r m w1 => HP w w1 [.blk b_10 .nw 152 [(16, (pre 16 (mb s f) (4 * c + r)).map vu8)], .blk b_7 .nw 152 [(16, (zB 16).map vu8)], .blk b_4 .nw 195 [(4, f.map vu8)], .blk b_1 .nw 152 [(16, s.map vu8)]] ∧ (r ≤ 4) ∧ m = 4 - r) ⟨0, _, ⟨rfl, trivial⟩, h_14, (by omega), rfl⟩ ?_
  rintro r m_21 J_22 w_19 ⟨h_20, hr, rfl⟩
  refine WP.seq (WP.seq (WP.reg ?_))
  refine qM (vn r) rfl rfl (qV rfl (R.bin rfl rfl (bi_lss (r := decide ((((r : Nat) : Int) : Int) < 4)) rfl)) ?_)
  refine WL.nil (thn_n ?_)
  refine WP.cond (b := decide ((((r : Nat) : Int) : Int) < 4)) rfl (fun c_23 => ?_) (fun c_23 => ?_)
  ·have p_24 := of_decide_eq_true c_23
   refine WP.skip (thn_n (WP.seq (WP.block (WP.seq (WP.reg ?_)))))
   refine qA (vi 0) rfl rfl ?_
   refine WL.nil (thn_n (WP.block ?_))
   refine WP.loopU (WI.round ?_)
   refine WP.seq (WP.seq (WP.reg ?_))
   refine qM (vi 0) rfl rfl (qV rfl (R.bin rfl rfl (bi_lss (r := true) (by decide))) ?_)
   refine WL.nil (thn_n ?_)
   refine WP.condT rfl ?_
   refine WP.skip (thn_n (WP.seq (WP.block ?_)))
   refine WP.drawZ 26 (SL w.heap.size [.blk b_10 .nw 152 [(16, (pre 16 (mb s f) (4 * c + r)).map vu8)], .blk b_7 .nw 152 [(16, (zB 16).map vu8)], .blk b_4 .nw 195 [(4, f.map vu8)], .blk b_1 .nw 152 [(16, s.map vu8)]]) (.q 0 (.q 1 (.q 2 (.q 3 (.q 4 (.q 5 (.q 6 (.q 7 (.q 8 (.q 9 (.q 10 (.q 11 (.q 12 (.q 13 (.q 14 (.q 15 (.q 16 (.q 17 (.q 18 (.q 19 (.q 20 (.q 21 (.q 22 (.s 23 (.q 24 (.q 25 (.s 26 .nil))))))))))))))))))))))))))) (by kernel_rfl) (by kernel_rfl) rfl (by kernel_rfl) (fun w_25 hc_27 => (SL.cons ((h_20.same hc_27).ok _ M0) (SL.cons ((h_20.same hc_27).ok _ M1) (SL.cons ((h_20.same hc_27).ok _ M2) (SL.cons ((h_20.same hc_27).ok _ M3) (SL.nil _ _)))))) (fun w_25 hc_27 => ?_)
   have h_26 := h_20.same hc_27
   refine ZT.q rfl (Wn.no rfl) rfl rfl (fun wq hS => R.move (v := (vn c)) rfl) ?_
   refine ZT.q rfl (Wn.no rfl) rfl rfl (fun wq hS => R.bin rfl rfl (bi_mul (c := ((4 * c : Nat) : Int)) (by omega) (by omega))) ?_
   refine ZT.q rfl (Wn.no rfl) rfl rfl (fun wq hS => R.move (v := (vn r)) rfl) ?_
   refine ZT.q rfl (Wn.no rfl) rfl rfl (fun wq hS => R.bin rfl rfl (bi_add (c := ((4 * c + r : Nat) : Int)) (by omega) (by omega))) ?_
   refine ZT.q rfl (Wn.no rfl) rfl rfl (fun wq hS => R.move (v := (vn c)) rfl) ?_
   refine ZT.q rfl (Wn.no rfl) rfl rfl (fun wq hS => R.bin rfl rfl (bi_mul (c := ((4 * c : Nat) : Int)) (by omega) (by omega))) ?_
   refine ZT.q rfl (Wn.no rfl) rfl rfl (fun wq hS => R.move (v := (vn r)) rfl) ?_
   refine ZT.q rfl (Wn.no rfl) rfl rfl (fun wq hS => R.bin rfl rfl (bi_add (c := ((4 * c + r : Nat) : Int)) (by omega) (by omega))) ?_
   refine ZT.q rfl (Wn.no rfl) rfl rfl (fun wq hS => R.indexA (b := b_10) (off := 0) (off' := (0 + (4 * c + r))) (i := 4 * c + r) rfl rfl rfl (by omega) underlying152 sizeOf5 (by rw [Nat.mul_one])) ?_
   refine ZT.q rfl (Wn.no rfl) rfl rfl (fun wq hS => R.loadE (b := b_10) (off := (0 + (4 * c + r))) (i := 4 * c + r) (v := (vu8 ((pre 16 (mb s f) (4 * c + r)).getD (4 * c + r) 0))) rfl isAgg5 (hS _ M0) Sg.h rfl (get_u8 (lt_len (K := 16) (pre_len (by omega)) (by omega)))) ?_
   refine ZT.q rfl (Wn.no rfl) rfl rfl (fun wq hS => R.move (v := (vn c)) rfl) ?_
   refine ZT.q rfl (Wn.no rfl) rfl rfl (fun wq hS => R.bin rfl rfl (bi_mul (c := ((4 * c : Nat) : Int)) (by omega) (by omega))) ?_
   refine ZT.q rfl (Wn.no rfl) rfl rfl (fun wq hS => R.move (v := (vi 0)) rfl) ?_
   refine ZT.q rfl (Wn.no rfl) rfl rfl (fun wq hS => R.bin rfl rfl (bi_add (c := ((4 * c : Nat) : Int)) (by omega) (by omega))) ?_
   refine ZT.q rfl (Wn.no rfl) rfl rfl (fun wq hS => R.indexA (b := b_1) (off := 0) (off' := (0 + (4 * c))) (i := 4 * c) rfl rfl rfl (by omega) underlying152 sizeOf5 (by rw [Nat.mul_one])) ?_
   refine ZT.q rfl (Wn.no rfl) rfl rfl (fun wq hS => R.loadE (b := b_1) (off := (0 + (4 * c))) (i := 4 * c) (v := (vu8 (s.getD (4 * c) 0))) rfl isAgg5 (hS _ M3) Sg.h rfl (get_u8 (lt_len (K := 16) hs (by omega)))) ?_
   refine ZT.q rfl (Wn.no rfl) rfl rfl (fun wq hS => R.move (v := (vi 0)) rfl) ?_
   refine ZT.q rfl (Wn.no rfl) rfl rfl (fun wq hS => R.move (v := (vn r)) rfl) ?_
   refine ZT.q rfl (Wn.no rfl) rfl rfl (fun wq hS => R.bin rfl rfl (bi_sub (c := 0 - ((r : Nat) : Int)) (by omega) (by omega))) ?_
   refine ZT.q rfl (Wn.no rfl) rfl rfl (fun wq hS => R.bin rfl rfl (bi_add (c := ((0 + 4 - r : Nat) : Int)) (by omega) (by omega))) ?_
   refine ZT.q rfl (Wn.no rfl) rfl rfl (fun wq hS => R.bin rfl rfl (bi_rem (c := (((0 + 4 - r) % 4 : Nat) : Int)) (Int.natCast_nonneg _) (by omega) (by first | omega | rfl))) ?_
   refine ZT.q rfl (Wn.no rfl) rfl rfl (fun wq hS => R.indexA (b := b_4) (off := 0) (off' := (0 + ((0 + 4 - r) % 4))) (i := (0 + 4 - r) % 4) rfl rfl rfl (by omega) underlying195 sizeOf5 (by rw [Nat.mul_one])) ?_
   refine ZT.q rfl (Wn.no rfl) rfl rfl (fun wq hS => R.loadE (b := b_4) (off := (0 + ((0 + 4 - r) % 4))) (i := (0 + 4 - r) % 4) (v := (vu8 (f.getD ((0 + 4 - r) % 4) 0))) rfl isAgg5 (hS _ M2) Sg.h rfl (get_u8 (lt_len (K := 4) hf (by omega)))) ?_
   refine ZT.s ?_
   refine OpZ.one rfl (Wn.no rfl) ?_
   refine WL.call Tryz.call148 rfl rfl (c_TimesR (s.getD (4 * c) 0) (f.getD ((0 + 4 - r) % 4) 0) _ ) rfl ?_
   rintro _ w_29 ⟨rfl, hc_28⟩
   have h_30 := h_26.same hc_28
   refine WL.nil ?_
   refine ⟨(N0_1_2_3 h_30.ok), ?_⟩
   refine ZT.q rfl (Wn.no rfl) rfl rfl (fun wq hS => R.bin rfl rfl (b8_xor ((pre 16 (mb s f) (4 * c + r)).getD (4 * c + r) 0) (tm (s.getD (4 * c) 0) (f.getD ((0 + 4 - r) % 4) 0)))) ?_
   refine ZT.q rfl (Wn.no rfl) rfl rfl (fun wq hS => R.indexA (b := b_10) (off := 0) (off' := (0 + (4 * c + r))) (i := 4 * c + r) rfl rfl rfl (by omega) underlying152 sizeOf5 (by rw [Nat.mul_one])) ?_
   refine ZT.s ?_
   refine OpZ.last rfl (Wn.no rfl) ?_
   refine WL.storeE (b := b_10) (off := (0 + (4 * c + r))) (i := 4 * c + r) (v := (vu8 (((pre 16 (mb s f) (4 * c + r)).getD (4 * c + r) 0) ^^^ (tm (s.getD (4 * c) 0) (f.getD ((0 + 4 - r) % 4) 0))))) (cs' := ((pre 16 (mb s f) (4 * c + r)).set (4 * c + r) (((pre 16 (mb s f) (4 * c + r)).getD (4 * c + r) 0) ^^^ (tm (s.getD (4 * c) 0) (f.getD ((0 + 4 - r) % 4) 0)))).map vu8) h_30 rfl rfl sizeOf5 rfl At.h (by decide) Sg.h rfl (lt_len (K := 16) (len_map (pre_len (by omega))) (by omega)) (set_u8 _ _ _) (fun w_31 h_32 => ?_)
   refine WL.nil (ZT.nil (inb_n (thn_n (WP.reg ?_))))
   refine qM (vi 0) rfl rfl (qV rfl (R.bin rfl rfl (bi_add (c := 1) (by omega) (by omega))) (qA (vi 1) rfl rfl ?_))
   refine WL.nil (thn_n ?_)
   refine WI.round ?_
   refine WP.seq (WP.seq (WP.reg ?_))
   refine qM (vi 1) rfl rfl (qV rfl (R.bin rfl rfl (bi_lss (r := true) (by decide))) ?_)
   refine WL.nil (thn_n ?_)
   refine WP.condT rfl ?_
   refine WP.skip (thn_n (WP.seq (WP.block ?_)))
   refine WP.drawZ 26 (SL w.heap.size [.blk b_10 .nw 152 [(16, ((pre 16 (mb s f) (4 * c + r)).set (4 * c + r) (((pre 16 (mb s f) (4 * c + r)).getD (4 * c + r) 0) ^^^ (tm (s.getD (4 * c) 0) (f.getD ((0 + 4 - r) % 4) 0)))).map vu8)], .blk b_7 .nw 152 [(16, (zB 16).map vu8)], .blk b_4 .nw 195 [(4, f.map vu8)], .blk b_1 .nw 152 [(16, s.map vu8)]]) (.q 0 (.q 1 (.q 2 (.q 3 (.q 4 (.q 5 (.q 6 (.q 7 (.q 8 (.q 9 (.q 10 (.q 11 (.q 12 (.q 13 (.q 14 (.q 15 (.q 16 (.q 17 (.q 18 (.q 19 (.q 20 (.q 21 (.q 22 (.s 23 (.q 24 (.q 25 (.s 26 .nil))))))))))))))))))))))))))) (by kernel_rfl) (by kernel_rfl) rfl (by kernel_rfl) (fun w_33 hc_35 => (SL.cons ((h_32.same hc_35).ok _ M0) (SL.cons ((h_32.same hc_35).ok _ M1) (SL.cons ((h_32.same hc_35).ok _ M2) (SL.cons ((h_32.same hc_35).ok _ M3) (SL.nil _ _)))))) (fun w_33 hc_35 => ?_)
   have h_34 := h_32.same hc_35
   refine ZT.q rfl (Wn.no rfl) rfl rfl (fun wq hS => R.move (v := (vn c)) rfl) ?_
   refine ZT.q rfl (Wn.no rfl) rfl rfl (fun wq hS => R.bin rfl rfl (bi_mul (c := ((4 * c : Nat) : Int)) (by omega) (by omega))) ?_
   refine ZT.q rfl (Wn.no rfl) rfl rfl (fun wq hS => R.move (v := (vn r)) rfl) ?_
   refine ZT.q rfl (Wn.no rfl) rfl rfl (fun wq hS => R.bin rfl rfl (bi_add (c := ((4 * c + r : Nat) : Int)) (by omega) (by omega))) ?_
   refine ZT.q rfl (Wn.no rfl) rfl rfl (fun wq hS => R.move (v := (vn c)) rfl) ?_
   refine ZT.q rfl (Wn.no rfl) rfl rfl (fun wq hS => R.bin rfl rfl (bi_mul (c := ((4 * c : Nat) : Int)) (by omega) (by omega))) ?_
   refine ZT.q rfl (Wn.no rfl) rfl rfl (fun wq hS => R.move (v := (vn r)) rfl) ?_
   refine ZT.q rfl (Wn.no rfl) rfl rfl (fun wq hS => R.bin rfl rfl (bi_add (c := ((4 * c + r : Nat) : Int)) (by omega) (by omega))) ?_
   refine ZT.q rfl (Wn.no rfl) rfl rfl (fun wq hS => R.indexA (b := b_10) (off := 0) (off' := (0 + (4 * c + r))) (i := 4 * c + r) rfl rfl rfl (by omega) underlying152 sizeOf5 (by rw [Nat.mul_one])) ?_
   refine ZT.q rfl (Wn.no rfl) rfl rfl (fun wq hS => R.loadE (b := b_10) (off := (0 + (4 * c + r))) (i := 4 * c + r) (v := (vu8 (((pre 16 (mb s f) (4 * c + r)).set (4 * c + r) (((pre 16 (mb s f) (4 * c + r)).getD (4 * c + r) 0) ^^^ (tm (s.getD (4 * c) 0) (f.getD ((0 + 4 - r) % 4) 0)))).getD (4 * c + r) 0))) rfl isAgg5 (hS _ M0) Sg.h rfl (get_u8 (lt_len (K := 16) (len_set (pre_len (by omega)) _ _) (by omega)))) ?_
   refine ZT.q rfl (Wn.no rfl) rfl rfl (fun wq hS => R.move (v := (vn c)) rfl) ?_
   refine ZT.q rfl (Wn.no rfl) rfl rfl (fun wq hS => R.bin rfl rfl (bi_mul (c := ((4 * c : Nat) : Int)) (by omega) (by omega))) ?_
   refine ZT.q rfl (Wn.no rfl) rfl rfl (fun wq hS => R.move (v := (vi 1)) rfl) ?_
   refine ZT.q rfl (Wn.no rfl) rfl rfl (fun wq hS => R.bin rfl rfl (bi_add (c := ((4 * c + 1 : Nat) : Int)) (by omega) (by omega))) ?_
   refine ZT.q rfl (Wn.no rfl) rfl rfl (fun wq hS => R.indexA (b := b_1) (off := 0) (off' := (0 + (4 * c + 1))) (i := 4 * c + 1) rfl rfl rfl (by omega) underlying152 sizeOf5 (by rw [Nat.mul_one])) ?_
   refine ZT.q rfl (Wn.no rfl) rfl rfl (fun wq hS => R.loadE (b := b_1) (off := (0 + (4 * c + 1))) (i := 4 * c + 1) (v := (vu8 (s.getD (4 * c + 1) 0))) rfl isAgg5 (hS _ M3) Sg.h rfl (get_u8 (lt_len (K := 16) hs (by omega)))) ?_
   refine ZT.q rfl (Wn.no rfl) rfl rfl (fun wq hS => R.move (v := (vi 1)) rfl) ?_
   refine ZT.q rfl (Wn.no rfl) rfl rfl (fun wq hS => R.move (v := (vn r)) rfl) ?_
   refine ZT.q rfl (Wn.no rfl) rfl rfl (fun wq hS => R.bin rfl rfl (bi_sub (c := 1 - ((r : Nat) : Int)) (by omega) (by omega))) ?_
   refine ZT.q rfl (Wn.no rfl) rfl rfl (fun wq hS => R.bin rfl rfl (bi_add (c := ((1 + 4 - r : Nat) : Int)) (by omega) (by omega))) ?_
   refine ZT.q rfl (Wn.no rfl) rfl rfl (fun wq hS => R.bin rfl rfl (bi_rem (c := (((1 + 4 - r) % 4 : Nat) : Int)) (Int.natCast_nonneg _) (by omega) (by first | omega | rfl))) ?_
   refine ZT.q rfl (Wn.no rfl) rfl rfl (fun wq hS => R.indexA (b := b_4) (off := 0) (off' := (0 + ((1 + 4 - r) % 4))) (i := (1 + 4 - r) % 4) rfl rfl rfl (by omega) underlying195 sizeOf5 (by rw [Nat.mul_one])) ?_
   refine ZT.q rfl (Wn.no rfl) rfl rfl (fun wq hS => R.loadE (b := b_4) (off := (0 + ((1 + 4 - r) % 4))) (i := (1 + 4 - r) % 4) (v := (vu8 (f.getD ((1 + 4 - r) % 4) 0))) rfl isAgg5 (hS _ M2) Sg.h rfl (get_u8 (lt_len (K := 4) hf (by omega)))) ?_
   refine ZT.s ?_
   refine OpZ.one rfl (Wn.no rfl) ?_
   refine WL.call Tryz.call148 rfl rfl (c_TimesR (s.getD (4 * c + 1) 0) (f.getD ((1 + 4 - r) % 4) 0) _ ) rfl ?_
   rintro _ w_37 ⟨rfl, hc_36⟩
   have h_38 := h_34.same hc_36
   refine WL.nil ?_
   refine ⟨(N0_1_2_3 h_38.ok), ?_⟩
   refine ZT.q rfl (Wn.no rfl) rfl rfl (fun wq hS => R.bin rfl rfl (b8_xor (((pre 16 (mb s f) (4 * c + r)).set (4 * c + r) (((pre 16 (mb s f) (4 * c + r)).getD (4 * c + r) 0) ^^^ (tm (s.getD (4 * c) 0) (f.getD ((0 + 4 - r) % 4) 0)))).getD (4 * c + r) 0) (tm (s.getD (4 * c + 1) 0) (f.getD ((1 + 4 - r) % 4) 0)))) ?_
   refine ZT.q rfl (Wn.no rfl) rfl rfl (fun wq hS => R.indexA (b := b_10) (off := 0) (off' := (0 + (4 * c + r))) (i := 4 * c + r) rfl rfl rfl (by omega) underlying152 sizeOf5 (by rw [Nat.mul_one])) ?_
   refine ZT.s ?_
   refine OpZ.last rfl (Wn.no rfl) ?_
   refine WL.storeE (b := b_10) (off := (0 + (4 * c + r))) (i := 4 * c + r) (v := (vu8 ((((pre 16 (mb s f) (4 * c + r)).set (4 * c + r) (((pre 16 (mb s f) (4 * c + r)).getD (4 * c + r) 0) ^^^ (tm (s.getD (4 * c) 0) (f.getD ((0 + 4 - r) % 4) 0)))).getD (4 * c + r) 0) ^^^ (tm (s.getD (4 * c + 1) 0) (f.getD ((1 + 4 - r) % 4) 0))))) (cs' := (((pre 16 (mb s f) (4 * c + r)).set (4 * c + r) (((pre 16 (mb s f) (4 * c + r)).getD (4 * c + r) 0) ^^^ (tm (s.getD (4 * c) 0) (f.getD ((0 + 4 - r) % 4) 0)))).set (4 * c + r) ((((pre 16 (mb s f) (4 * c + r)).set (4 * c + r) (((pre 16 (mb s f) (4 * c + r)).getD (4 * c + r) 0) ^^^ (tm (s.getD (4 * c) 0) (f.getD ((0 + 4 - r) % 4) 0)))).getD (4 * c + r) 0) ^^^ (tm (s.getD (4 * c + 1) 0) (f.getD ((1 + 4 - r) % 4) 0)))).map vu8) h_38 rfl rfl sizeOf5 rfl At.h (by decide) Sg.h rfl (lt_len (K := 16) (len_map (len_set (pre_len (by omega)) _ _)) (by omega)) (set_u8 _ _ _) (fun w_39 h_40 => ?_)
   refine WL.nil (ZT.nil (inb_n (thn_n (WP.reg ?_))))
   refine qM (vi 1) rfl rfl (qV rfl (R.bin rfl rfl (bi_add (c := 2) (by omega) (by omega))) (qA (vi 2) rfl rfl ?_))
   refine WL.nil (thn_n ?_)
   refine WI.round ?_
   refine WP.seq (WP.seq (WP.reg ?_))
   refine qM (vi 2) rfl rfl (qV rfl (R.bin rfl rfl (bi_lss (r := true) (by decide))) ?_)
   refine WL.nil (thn_n ?_)
   refine WP.condT rfl ?_
   refine WP.skip (thn_n (WP.seq (WP.block ?_)))
   refine WP.drawZ 26 (SL w.heap.size [.blk b_10 .nw 152 [(16, (((pre 16 (mb s f) (4 * c + r)).set (4 * c + r) (((pre 16 (mb s f) (4 * c + r)).getD (4 * c + r) 0) ^^^ (tm (s.getD (4 * c) 0) (f.getD ((0 + 4 - r) % 4) 0)))).set (4 * c + r) ((((pre 16 (mb s f) (4 * c + r)).set (4 * c + r) (((pre 16 (mb s f) (4 * c + r)).getD (4 * c + r) 0) ^^^ (tm (s.getD (4 * c) 0) (f.getD ((0 + 4 - r) % 4) 0)))).getD (4 * c + r) 0) ^^^ (tm (s.getD (4 * c + 1) 0) (f.getD ((1 + 4 - r) % 4) 0)))).map vu8)], .blk b_7 .nw 152 [(16, (zB 16).map vu8)], .blk b_4 .nw 195 [(4, f.map vu8)], .blk b_1 .nw 152 [(16, s.map vu8)]]) (.q 0 (.q 1 (.q 2 (.q 3 (.q 4 (.q 5 (.q 6 (.q 7 (.q 8 (.q 9 (.q 10 (.q 11 (.q 12 (.q 13 (.q 14 (.q 15 (.q 16 (.q 17 (.q 18 (.q 19 (.q 20 (.q 21 (.q 22 (.s 23 (.q 24 (.q 25 (.s 26 .nil))))))))))))))))))))))))))) (by kernel_rfl) (by kernel_rfl) rfl (by kernel_rfl) (fun w_41 hc_43 => (SL.cons ((h_40.same hc_43).ok _ M0) (SL.cons ((h_40.same hc_43).ok _ M1) (SL.cons ((h_40.same hc_43).ok _ M2) (SL.cons ((h_40.same hc_43).ok _ M3) (SL.nil _ _)))))) (fun w_41 hc_43 => ?_)
   have h_42 := h_40.same hc_43
   refine ZT.q rfl (Wn.no rfl) rfl rfl (fun wq hS => R.move (v := (vn c)) rfl) ?_
   refine ZT.q rfl (Wn.no rfl) rfl rfl (fun wq hS => R.bin rfl rfl (bi_mul (c := ((4 * c : Nat) : Int)) (by omega) (by omega))) ?_
   refine ZT.q rfl (Wn.no rfl) rfl rfl (fun wq hS => R.move (v := (vn r)) rfl) ?_
   refine ZT.q rfl (Wn.no rfl) rfl rfl (fun wq hS => R.bin rfl rfl (bi_add (c := ((4 * c + r : Nat) : Int)) (by omega) (by omega))) ?_
   refine ZT.q rfl (Wn.no rfl) rfl rfl (fun wq hS => R.move (v := (vn c)) rfl) ?_
   refine ZT.q rfl (Wn.no rfl) rfl rfl (fun wq hS => R.bin rfl rfl (bi_mul (c := ((4 * c : Nat) : Int)) (by omega) (by omega))) ?_
   refine ZT.q rfl (Wn.no rfl) rfl rfl (fun wq hS => R.move (v := (vn r)) rfl) ?_
   refine ZT.q rfl (Wn.no rfl) rfl rfl (fun wq hS => R.bin rfl rfl (bi_add (c := ((4 * c + r : Nat) : Int)) (by omega) (by omega))) ?_
   refine ZT.q rfl (Wn.no rfl) rfl rfl (fun wq hS => R.indexA (b := b_10) (off := 0) (off' := (0 + (4 * c + r))) (i := 4 * c + r) rfl rfl rfl (by omega) underlying152 sizeOf5 (by rw [Nat.mul_one])) ?_
   refine ZT.q rfl (Wn.no rfl) rfl rfl (fun wq hS => R.loadE (b := b_10) (off := (0 + (4 * c + r))) (i := 4 * c + r) (v := (vu8 ((((pre 16 (mb s f) (4 * c + r)).set (4 * c + r) (((pre 16 (mb s f) (4 * c + r)).getD (4 * c + r) 0) ^^^ (tm (s.getD (4 * c) 0) (f.getD ((0 + 4 - r) % 4) 0)))).set (4 * c + r) ((((pre 16 (mb s f) (4 * c + r)).set (4 * c + r) (((pre 16 (mb s f) (4 * c + r)).getD (4 * c + r) 0) ^^^ (tm (s.getD (4 * c) 0) (f.getD ((0 + 4 - r) % 4) 0)))).getD (4 * c + r) 0) ^^^ (tm (s.getD (4 * c + 1) 0) (f.getD ((1 + 4 - r) % 4) 0)))).getD (4 * c + r) 0))) rfl isAgg5 (hS _ M0) Sg.h rfl (get_u8 (lt_len (K := 16) (len_set (len_set (pre_len (by omega)) _ _) _ _) (by omega)))) ?_
   refine ZT.q rfl (Wn.no rfl) rfl rfl (fun wq hS => R.move (v := (vn c)) rfl) ?_
   refine ZT.q rfl (Wn.no rfl) rfl rfl (fun wq hS => R.bin rfl rfl (bi_mul (c := ((4 * c : Nat) : Int)) (by omega) (by omega))) ?_
   refine ZT.q rfl (Wn.no rfl) rfl rfl (fun wq hS => R.move (v := (vi 2)) rfl) ?_
   refine ZT.q rfl (Wn.no rfl) rfl rfl (fun wq hS => R.bin rfl rfl (bi_add (c := ((4 * c + 2 : Nat) : Int)) (by omega) (by omega))) ?_
   refine ZT.q rfl (Wn.no rfl) rfl rfl (fun wq hS => R.indexA (b := b_1) (off := 0) (off' := (0 + (4 * c + 2))) (i := 4 * c + 2) rfl rfl rfl (by omega) underlying152 sizeOf5 (by rw [Nat.mul_one])) ?_
   refine ZT.q rfl (Wn.no rfl) rfl rfl (fun wq hS => R.loadE (b := b_1) (off := (0 + (4 * c + 2))) (i := 4 * c + 2) (v := (vu8 (s.getD (4 * c + 2) 0))) rfl isAgg5 (hS _ M3) Sg.h rfl (get_u8 (lt_len (K := 16) hs (by omega)))) ?_
   refine ZT.q rfl (Wn.no rfl) rfl rfl (fun wq hS => R.move (v := (vi 2)) rfl) ?_
   refine ZT.q rfl (Wn.no rfl) rfl rfl (fun wq hS => R.move (v := (vn r)) rfl) ?_
   refine ZT.q rfl (Wn.no rfl) rfl rfl (fun wq hS => R.bin rfl rfl (bi_sub (c := 2 - ((r : Nat) : Int)) (by omega) (by omega))) ?_
   refine ZT.q rfl (Wn.no rfl) rfl rfl (fun wq hS => R.bin rfl rfl (bi_add (c := ((2 + 4 - r : Nat) : Int)) (by omega) (by omega))) ?_
   refine ZT.q rfl (Wn.no rfl) rfl rfl (fun wq hS => R.bin rfl rfl (bi_rem (c := (((2 + 4 - r) % 4 : Nat) : Int)) (Int.natCast_nonneg _) (by omega) (by first | omega | rfl))) ?_
   refine ZT.q rfl (Wn.no rfl) rfl rfl (fun wq hS => R.indexA (b := b_4) (off := 0) (off' := (0 + ((2 + 4 - r) % 4))) (i := (2 + 4 - r) % 4) rfl rfl rfl (by omega) underlying195 sizeOf5 (by rw [Nat.mul_one])) ?_
   refine ZT.q rfl (Wn.no rfl) rfl rfl (fun wq hS => R.loadE (b := b_4) (off := (0 + ((2 + 4 - r) % 4))) (i := (2 + 4 - r) % 4) (v := (vu8 (f.getD ((2 + 4 - r) % 4) 0))) rfl isAgg5 (hS _ M2) Sg.h rfl (get_u8 (lt_len (K := 4) hf (by omega)))) ?_
   refine ZT.s ?_
   refine OpZ.one rfl (Wn.no rfl) ?_
   refine WL.call Tryz.call148 rfl rfl (c_TimesR (s.getD (4 * c + 2) 0) (f.getD ((2 + 4 - r) % 4) 0) _ ) rfl ?_
   rintro _ w_45 ⟨rfl, hc_44⟩
   have h_46 := h_42.same hc_44
   refine WL.nil ?_
   refine ⟨(N0_1_2_3 h_46.ok), ?_⟩
   refine ZT.q rfl (Wn.no rfl) rfl rfl (fun wq hS => R.bin rfl rfl (b8_xor ((((pre 16 (mb s f) (4 * c + r)).set (4 * c + r) (((pre 16 (mb s f) (4 * c + r)).getD (4 * c + r) 0) ^^^ (tm (s.getD (4 * c) 0) (f.getD ((0 + 4 - r) % 4) 0)))).set (4 * c + r) ((((pre 16 (mb s f) (4 * c + r)).set (4 * c + r) (((pre 16 (mb s f) (4 * c + r)).getD (4 * c + r) 0) ^^^ (tm (s.getD (4 * c) 0) (f.getD ((0 + 4 - r) % 4) 0)))).getD (4 * c + r) 0) ^^^ (tm (s.getD (4 * c + 1) 0) (f.getD ((1 + 4 - r) % 4) 0)))).getD (4 * c + r) 0) (tm (s.getD (4 * c + 2) 0) (f.getD ((2 + 4 - r) % 4) 0)))) ?_
   refine ZT.q rfl (Wn.no rfl) rfl rfl (fun wq hS => R.indexA (b := b_10) (off := 0) (off' := (0 + (4 * c + r))) (i := 4 * c + r) rfl rfl rfl (by omega) underlying152 sizeOf5 (by rw [Nat.mul_one])) ?_
   refine ZT.s ?_
   refine OpZ.last rfl (Wn.no rfl) ?_
   refine WL.storeE (b := b_10) (off := (0 + (4 * c + r))) (i := 4 * c + r) (v := (vu8 (((((pre 16 (mb s f) (4 * c + r)).set (4 * c + r) (((pre 16 (mb s f) (4 * c + r)).getD (4 * c + r) 0) ^^^ (tm (s.getD (4 * c) 0) (f.getD ((0 + 4 - r) % 4) 0)))).set (4 * c + r) ((((pre 16 (mb s f) (4 * c + r)).set (4 * c + r) (((pre 16 (mb s f) (4 * c + r)).getD (4 * c + r) 0) ^^^ (tm (s.getD (4 * c) 0) (f.getD ((0 + 4 - r) % 4) 0)))).getD (4 * c + r) 0) ^^^ (tm (s.getD (4 * c + 1) 0) (f.getD ((1 + 4 - r) % 4) 0)))).getD (4 * c + r) 0) ^^^ (tm (s.getD (4 * c + 2) 0) (f.getD ((2 + 4 - r) % 4) 0))))) (cs' := ((((pre 16 (mb s f) (4 * c + r)).set (4 * c + r) (((pre 16 (mb s f) (4 * c + r)).getD (4 * c + r) 0) ^^^ (tm (s.getD (4 * c) 0) (f.getD ((0 + 4 - r) % 4) 0)))).set (4 * c + r) ((((pre 16 (mb s f) (4 * c + r)).set (4 * c + r) (((pre 16 (mb s f) (4 * c + r)).getD (4 * c + r) 0) ^^^ (tm (s.getD (4 * c) 0) (f.getD ((0 + 4 - r) % 4) 0)))).getD (4 * c + r) 0) ^^^ (tm (s.getD (4 * c + 1) 0) (f.getD ((1 + 4 - r) % 4) 0)))).set (4 * c + r) (((((pre 16 (mb s f) (4 * c + r)).set (4 * c + r) (((pre 16 (mb s f) (4 * c + r)).getD (4 * c + r) 0) ^^^ (tm (s.getD (4 * c) 0) (f.getD ((0 + 4 - r) % 4) 0)))).set (4 * c + r) ((((pre 16 (mb s f) (4 * c + r)).set (4 * c + r) (((pre 16 (mb s f) (4 * c + r)).getD (4 * c + r) 0) ^^^ (tm (s.getD (4 * c) 0) (f.getD ((0 + 4 - r) % 4) 0)))).getD (4 * c + r) 0) ^^^ (tm (s.getD (4 * c + 1) 0) (f.getD ((1 + 4 - r) % 4) 0)))).getD (4 * c + r) 0) ^^^ (tm (s.getD (4 * c + 2) 0) (f.getD ((2 + 4 - r) % 4) 0)))).map vu8) h_46 rfl rfl sizeOf5 rfl At.h (by decide) Sg.h rfl (lt_len (K := 16) (len_map (len_set (len_set (pre_len (by omega)) _ _) _ _)) (by omega)) (set_u8 _ _ _) (fun w_47 h_48 => ?_)
   refine WL.nil (ZT.nil (inb_n (thn_n (WP.reg ?_))))
   refine qM (vi 2) rfl rfl (qV rfl (R.bin rfl rfl (bi_add (c := 3) (by omega) (by omega))) (qA (vi 3) rfl rfl ?_))
   refine WL.nil (thn_n ?_)
   refine WI.round ?_
   refine WP.seq (WP.seq (WP.reg ?_))
   refine qM (vi 3) rfl rfl (qV rfl (R.bin rfl rfl (bi_lss (r := true) (by decide))) ?_)
   refine WL.nil (thn_n ?_)
   refine WP.condT rfl ?_
   refine WP.skip (thn_n (WP.seq (WP.block ?_)))
   refine WP.drawZ 26 (SL w.heap.size [.blk b_10 .nw 152 [(16, ((((pre 16 (mb s f) (4 * c + r)).set (4 * c + r) (((pre 16 (mb s f) (4 * c + r)).getD (4 * c + r) 0) ^^^ (tm (s.getD (4 * c) 0) (f.getD ((0 + 4 - r) % 4) 0)))).set (4 * c + r) ((((pre 16 (mb s f) (4 * c + r)).set (4 * c + r) (((pre 16 (mb s f) (4 * c + r)).getD (4 * c + r) 0) ^^^ (tm (s.getD (4 * c) 0) (f.getD ((0 + 4 - r) % 4) 0)))).getD (4 * c + r) 0) ^^^ (tm (s.getD (4 * c + 1) 0) (f.getD ((1 + 4 - r) % 4) 0)))).set (4 * c + r) (((((pre 16 (mb s f) (4 * c + r)).set (4 * c + r) (((pre 16 (mb s f) (4 * c + r)).getD (4 * c + r) 0) ^^^ (tm (s.getD (4 * c) 0) (f.getD ((0 + 4 - r) % 4) 0)))).set (4 * c + r) ((((pre 16 (mb s f) (4 * c + r)).set (4 * c + r) (((pre 16 (mb s f) (4 * c + r)).getD (4 * c + r) 0) ^^^ (tm (s.getD (4 * c) 0) (f.getD ((0 + 4 - r) % 4) 0)))).getD (4 * c + r) 0) ^^^ (tm (s.getD (4 * c + 1) 0) (f.getD ((1 + 4 - r) % 4) 0)))).getD (4 * c + r) 0) ^^^ (tm (s.getD (4 * c + 2) 0) (f.getD ((2 + 4 - r) % 4) 0)))).map vu8)], .blk b_7 .nw 152 [(16, (zB 16).map vu8)], .blk b_4 .nw 195 [(4, f.map vu8)], .blk b_1 .nw 152 [(16, s.map vu8)]]) (.q 0 (.q 1 (.q 2 (.q 3 (.q 4 (.q 5 (.q 6 (.q 7 (.q 8 (.q 9 (.q 10 (.q 11 (.q 12 (.q 13 (.q 14 (.q 15 (.q 16 (.q 17 (.q 18 (.q 19 (.q 20 (.q 21 (.q 22 (.s 23 (.q 24 (.q 25 (.s 26 .nil))))))))))))))))))))))))))) (by kernel_rfl) (by kernel_rfl) rfl (by kernel_rfl) (fun w_49 hc_51 => (SL.cons ((h_48.same hc_51).ok _ M0) (SL.cons ((h_48.same hc_51).ok _ M1) (SL.cons ((h_48.same hc_51).ok _ M2) (SL.cons ((h_48.same hc_51).ok _ M3) (SL.nil _ _)))))) (fun w_49 hc_51 => ?_)
   have h_50 := h_48.same hc_51
   refine ZT.q rfl (Wn.no rfl) rfl rfl (fun wq hS => R.move (v := (vn c)) rfl) ?_
   refine ZT.q rfl (Wn.no rfl) rfl rfl (fun wq hS => R.bin rfl rfl (bi_mul (c := ((4 * c : Nat) : Int)) (by omega) (by omega))) ?_
   refine ZT.q rfl (Wn.no rfl) rfl rfl (fun wq hS => R.move (v := (vn r)) rfl) ?_
   refine ZT.q rfl (Wn.no rfl) rfl rfl (fun wq hS => R.bin rfl rfl (bi_add (c := ((4 * c + r : Nat) : Int)) (by omega) (by omega))) ?_
   refine ZT.q rfl (Wn.no rfl) rfl rfl (fun wq hS => R.move (v := (vn c)) rfl) ?_
   refine ZT.q rfl (Wn.no rfl) rfl rfl (fun wq hS => R.bin rfl rfl (bi_mul (c := ((4 * c : Nat) : Int)) (by omega) (by omega))) ?_
   refine ZT.q rfl (Wn.no rfl) rfl rfl (fun wq hS => R.move (v := (vn r)) rfl) ?_
   refine ZT.q rfl (Wn.no rfl) rfl rfl (fun wq hS => R.bin rfl rfl (bi_add (c := ((4 * c + r : Nat) : Int)) (by omega) (by omega))) ?_
   refine ZT.q rfl (Wn.no rfl) rfl rfl (fun wq hS => R.indexA (b := b_10) (off := 0) (off' := (0 + (4 * c + r))) (i := 4 * c + r) rfl rfl rfl (by omega) underlying152 sizeOf5 (by rw [Nat.mul_one])) ?_
   refine ZT.q rfl (Wn.no rfl) rfl rfl (fun wq hS => R.loadE (b := b_10) (off := (0 + (4 * c + r))) (i := 4 * c + r) (v := (vu8 (((((pre 16 (mb s f) (4 * c + r)).set (4 * c + r) (((pre 16 (mb s f) (4 * c + r)).getD (4 * c + r) 0) ^^^ (tm (s.getD (4 * c) 0) (f.getD ((0 + 4 - r) % 4) 0)))).set (4 * c + r) ((((pre 16 (mb s f) (4 * c + r)).set (4 * c + r) (((pre 16 (mb s f) (4 * c + r)).getD (4 * c + r) 0) ^^^ (tm (s.getD (4 * c) 0) (f.getD ((0 + 4 - r) % 4) 0)))).getD (4 * c + r) 0) ^^^ (tm (s.getD (4 * c + 1) 0) (f.getD ((1 + 4 - r) % 4) 0)))).set (4 * c + r) (((((pre 16 (mb s f) (4 * c + r)).set (4 * c + r) (((pre 16 (mb s f) (4 * c + r)).getD (4 * c + r) 0) ^^^ (tm (s.getD (4 * c) 0) (f.getD ((0 + 4 - r) % 4) 0)))).set (4 * c + r) ((((pre 16 (mb s f) (4 * c + r)).set (4 * c + r) (((pre 16 (mb s f) (4 * c + r)).getD (4 * c + r) 0) ^^^ (tm (s.getD (4 * c) 0) (f.getD ((0 + 4 - r) % 4) 0)))).getD (4 * c + r) 0) ^^^ (tm (s.getD (4 * c + 1) 0) (f.getD ((1 + 4 - r) % 4) 0)))).getD (4 * c + r) 0) ^^^ (tm (s.getD (4 * c + 2) 0) (f.getD ((2 + 4 - r) % 4) 0)))).getD (4 * c + r) 0))) rfl isAgg5 (hS _ M0) Sg.h rfl (get_u8 (lt_len (K := 16) (len_set (len_set (len_set (pre_len (by omega)) _ _) _ _) _ _) (by omega)))) ?_
   refine ZT.q rfl (Wn.no rfl) rfl rfl (fun wq hS => R.move (v := (vn c)) rfl) ?_
   refine ZT.q rfl (Wn.no rfl) rfl rfl (fun wq hS => R.bin rfl rfl (bi_mul (c := ((4 * c : Nat) : Int)) (by omega) (by omega))) ?_
   refine ZT.q rfl (Wn.no rfl) rfl rfl (fun wq hS => R.move (v := (vi 3)) rfl) ?_
   refine ZT.q rfl (Wn.no rfl) rfl rfl (fun wq hS => R.bin rfl rfl (bi_add (c := ((4 * c + 3 : Nat) : Int)) (by omega) (by omega))) ?_
   refine ZT.q rfl (Wn.no rfl) rfl rfl (fun wq hS => R.indexA (b := b_1) (off := 0) (off' := (0 + (4 * c + 3))) (i := 4 * c + 3) rfl rfl rfl (by omega) underlying152 sizeOf5 (by rw [Nat.mul_one])) ?_
   refine ZT.q rfl (Wn.no rfl) rfl rfl (fun wq hS => R.loadE (b := b_1) (off := (0 + (4 * c + 3))) (i := 4 * c + 3) (v := (vu8 (s.getD (4 * c + 3) 0))) rfl isAgg5 (hS _ M3) Sg.h rfl (get_u8 (lt_len (K := 16) hs (by omega)))) ?_
   refine ZT.q rfl (Wn.no rfl) rfl rfl (fun wq hS => R.move (v := (vi 3)) rfl) ?_
   refine ZT.q rfl (Wn.no rfl) rfl rfl (fun wq hS => R.move (v := (vn r)) rfl) ?_
   refine ZT.q rfl (Wn.no rfl) rfl rfl (fun wq hS => R.bin rfl rfl (bi_sub (c := 3 - ((r : Nat) : Int)) (by omega) (by omega))) ?_
   refine ZT.q rfl (Wn.no rfl) rfl rfl (fun wq hS => R.bin rfl rfl (bi_add (c := ((3 + 4 - r : Nat) : Int)) (by omega) (by omega))) ?_
   refine ZT.q rfl (Wn.no rfl) rfl rfl (fun wq hS => R.bin rfl rfl (bi_rem (c := (((3 + 4 - r) % 4 : Nat) : Int)) (Int.natCast_nonneg _) (by omega) (by first | omega | rfl))) ?_
   refine ZT.q rfl (Wn.no rfl) rfl rfl (fun wq hS => R.indexA (b := b_4) (off := 0) (off' := (0 + ((3 + 4 - r) % 4))) (i := (3 + 4 - r) % 4) rfl rfl rfl (by omega) underlying195 sizeOf5 (by rw [Nat.mul_one])) ?_
   refine ZT.q rfl (Wn.no rfl) rfl rfl (fun wq hS => R.loadE (b := b_4) (off := (0 + ((3 + 4 - r) % 4))) (i := (3 + 4 - r) % 4) (v := (vu8 (f.getD ((3 + 4 - r) % 4) 0))) rfl isAgg5 (hS _ M2) Sg.h rfl (get_u8 (lt_len (K := 4) hf (by omega)))) ?_
   refine ZT.s ?_
   refine OpZ.one rfl (Wn.no rfl) ?_
   refine WL.call Tryz.call148 rfl rfl (c_TimesR (s.getD (4 * c + 3) 0) (f.getD ((3 + 4 - r) % 4) 0) _ ) rfl ?_
   rintro _ w_53 ⟨rfl, hc_52⟩
   have h_54 := h_50.same hc_52
   refine WL.nil ?_
   refine ⟨(N0_1_2_3 h_54.ok), ?_⟩
   refine ZT.q rfl (Wn.no rfl) rfl rfl (fun wq hS => R.bin rfl rfl (b8_xor (((((pre 16 (mb s f) (4 * c + r)).set (4 * c + r) (((pre 16 (mb s f) (4 * c + r)).getD (4 * c + r) 0) ^^^ (tm (s.getD (4 * c) 0) (f.getD ((0 + 4 - r) % 4) 0)))).set (4 * c + r) ((((pre 16 (mb s f) (4 * c + r)).set (4 * c + r) (((pre 16 (mb s f) (4 * c + r)).getD (4 * c + r) 0) ^^^ (tm (s.getD (4 * c) 0) (f.getD ((0 + 4 - r) % 4) 0)))).getD (4 * c + r) 0) ^^^ (tm (s.getD (4 * c + 1) 0) (f.getD ((1 + 4 - r) % 4) 0)))).set (4 * c + r) (((((pre 16 (mb s f) (4 * c + r)).set (4 * c + r) (((pre 16 (mb s f) (4 * c + r)).getD (4 * c + r) 0) ^^^ (tm (s.getD (4 * c) 0) (f.getD ((0 + 4 - r) % 4) 0)))).set (4 * c + r) ((((pre 16 (mb s f) (4 * c + r)).set (4 * c + r) (((pre 16 (mb s f) (4 * c + r)).getD (4 * c + r) 0) ^^^ (tm (s.getD (4 * c) 0) (f.getD ((0 + 4 - r) % 4) 0)))).getD (4 * c + r) 0) ^^^ (tm (s.getD (4 * c + 1) 0) (f.getD ((1 + 4 - r) % 4) 0)))).getD (4 * c + r) 0) ^^^ (tm (s.getD (4 * c + 2) 0) (f.getD ((2 + 4 - r) % 4) 0)))).getD (4 * c + r) 0) (tm (s.getD (4 * c + 3) 0) (f.getD ((3 + 4 - r) % 4) 0)))) ?_
   refine ZT.q rfl (Wn.no rfl) rfl rfl (fun wq hS => R.indexA (b := b_10) (off := 0) (off' := (0 + (4 * c + r))) (i := 4 * c + r) rfl rfl rfl (by omega) underlying152 sizeOf5 (by rw [Nat.mul_one])) ?_
   refine ZT.s ?_
   refine OpZ.last rfl (Wn.no rfl) ?_
   refine WL.storeE (b := b_10) (off := (0 + (4 * c + r))) (i := 4 * c + r) (v := (vu8 ((((((pre 16 (mb s f) (4 * c + r)).set (4 * c + r) (((pre 16 (mb s f) (4 * c + r)).getD (4 * c + r) 0) ^^^ (tm (s.getD (4 * c) 0) (f.getD ((0 + 4 - r) % 4) 0)))).set (4 * c + r) ((((pre 16 (mb s f) (4 * c + r)).set (4 * c + r) (((pre 16 (mb s f) (4 * c + r)).getD (4 * c + r) 0) ^^^ (tm (s.getD (4 * c) 0) (f.getD ((0 + 4 - r) % 4) 0)))).getD (4 * c + r) 0) ^^^ (tm (s.getD (4 * c + 1) 0) (f.getD ((1 + 4 - r) % 4) 0)))).set (4 * c + r) (((((pre 16 (mb s f) (4 * c + r)).set (4 * c + r) (((pre 16 (mb s f) (4 * c + r)).getD (4 * c + r) 0) ^^^ (tm (s.getD (4 * c) 0) (f.getD ((0 + 4 - r) % 4) 0)))).set (4 * c + r) ((((pre 16 (mb s f) (4 * c + r)).set (4 * c + r) (((pre 16 (mb s f) (4 * c + r)).getD (4 * c + r) 0) ^^^ (tm (s.getD (4 * c) 0) (f.getD ((0 + 4 - r) % 4) 0)))).getD (4 * c + r) 0) ^^^ (tm (s.getD (4 * c + 1) 0) (f.getD ((1 + 4 - r) % 4) 0)))).getD (4 * c + r) 0) ^^^ (tm (s.getD (4 * c + 2) 0) (f.getD ((2 + 4 - r) % 4) 0)))).getD (4 * c + r) 0) ^^^ (tm (s.getD (4 * c + 3) 0) (f.getD ((3 + 4 - r) % 4) 0))))) (cs' := (((((pre 16 (mb s f) (4 * c + r)).set (4 * c + r) (((pre 16 (mb s f) (4 * c + r)).getD (4 * c + r) 0) ^^^ (tm (s.getD (4 * c) 0) (f.getD ((0 + 4 - r) % 4) 0)))).set (4 * c + r) ((((pre 16 (mb s f) (4 * c + r)).set (4 * c + r) (((pre 16 (mb s f) (4 * c + r)).getD (4 * c + r) 0) ^^^ (tm (s.getD (4 * c) 0) (f.getD ((0 + 4 - r) % 4) 0)))).getD (4 * c + r) 0) ^^^ (tm (s.getD (4 * c + 1) 0) (f.getD ((1 + 4 - r) % 4) 0)))).set (4 * c + r) (((((pre 16 (mb s f) (4 * c + r)).set (4 * c + r) (((pre 16 (mb s f) (4 * c + r)).getD (4 * c + r) 0) ^^^ (tm (s.getD (4 * c) 0) (f.getD ((0 + 4 - r) % 4) 0)))).set (4 * c + r) ((((pre 16 (mb s f) (4 * c + r)).set (4 * c + r) (((pre 16 (mb s f) (4 * c + r)).getD (4 * c + r) 0) ^^^ (tm (s.getD (4 * c) 0) (f.getD ((0 + 4 - r) % 4) 0)))).getD (4 * c + r) 0) ^^^ (tm (s.getD (4 * c + 1) 0) (f.getD ((1 + 4 - r) % 4) 0)))).getD (4 * c + r) 0) ^^^ (tm (s.getD (4 * c + 2) 0) (f.getD ((2 + 4 - r) % 4) 0)))).set (4 * c + r) ((((((pre 16 (mb s f) (4 * c + r)).set (4 * c + r) (((pre 16 (mb s f) (4 * c + r)).getD (4 * c + r) 0) ^^^ (tm (s.getD (4 * c) 0) (f.getD ((0 + 4 - r) % 4) 0)))).set (4 * c + r) ((((pre 16 (mb s f) (4 * c + r)).set (4 * c + r) (((pre 16 (mb s f) (4 * c + r)).getD (4 * c + r) 0) ^^^ (tm (s.getD (4 * c) 0) (f.getD ((0 + 4 - r) % 4) 0)))).getD (4 * c + r) 0) ^^^ (tm (s.getD (4 * c + 1) 0) (f.getD ((1 + 4 - r) % 4) 0)))).set (4 * c + r) (((((pre 16 (mb s f) (4 * c + r)).set (4 * c + r) (((pre 16 (mb s f) (4 * c + r)).getD (4 * c + r) 0) ^^^ (tm (s.getD (4 * c) 0) (f.getD ((0 + 4 - r) % 4) 0)))).set (4 * c + r) ((((pre 16 (mb s f) (4 * c + r)).set (4 * c + r) (((pre 16 (mb s f) (4 * c + r)).getD (4 * c + r) 0) ^^^ (tm (s.getD (4 * c) 0) (f.getD ((0 + 4 - r) % 4) 0)))).getD (4 * c + r) 0) ^^^ (tm (s.getD (4 * c + 1) 0) (f.getD ((1 + 4 - r) % 4) 0)))).getD (4 * c + r) 0) ^^^ (tm (s.getD (4 * c + 2) 0) (f.getD ((2 + 4 - r) % 4) 0)))).getD (4 * c + r) 0) ^^^ (tm (s.getD (4 * c + 3) 0) (f.getD ((3 + 4 - r) % 4) 0)))).map vu8) h_54 rfl rfl sizeOf5 rfl At.h (by decide) Sg.h rfl (lt_len (K := 16) (len_map (len_set (len_set (len_set (pre_len (by omega)) _ _) _ _) _ _)) (by omega)) (set_u8 _ _ _) (fun w_55 h_56 => ?_)
   refine WL.nil (ZT.nil (inb_n (thn_n (WP.reg ?_))))
   refine qM (vi 3) rfl rfl (qV rfl (R.bin rfl rfl (bi_add (c := 4) (by omega) (by omega))) (qA (vi 4) rfl rfl ?_))
   refine WL.nil (thn_n ?_)
   refine WI.round ?_
   refine WP.seq (WP.seq (WP.reg ?_))
   refine qM (vi 4) rfl rfl (qV rfl (R.bin rfl rfl (bi_lss (r := false) (by decide))) ?_)
   refine WL.nil (thn_n ?_)
   refine WP.condF rfl ?_
   refine WP.exit (thn_x (thn_x (inb_hit (inb_n (thn_n (WP.reg ?_))))))
   refine qM (vn r) rfl rfl (qV rfl (R.bin rfl rfl (bi_add (c := ((r + 1 : Nat) : Int)) (by omega) (by omega))) (qA (vn (r + 1)) rfl rfl ?_))
   refine WL.nil (thn_n ?_)
   rw [mix_step (s := s) (f := f) (i := 4 * c + r) (a := tm (s.getD (4 * c) 0) (f.getD ((0 + 4 - r) % 4) 0)) (by omega) (mb1_cr (k := 0) (by omega)).symm (mb1_cr (k := 1) (by omega)).symm (mb1_cr (k := 2) (by omega)).symm (mb1_cr (k := 3) (by omega)).symm] at h_56
   exact ⟨r + 1, _, (by omega), (U4 rfl rfl rfl rfl (U4 rfl rfl rfl rfl (U4 rfl rfl rfl rfl (U4 rfl rfl rfl rfl (U4 rfl rfl rfl rfl (U4 rfl rfl rfl rfl (U4 rfl rfl rfl rfl (U4 rfl rfl rfl rfl (U4 rfl rfl rfl rfl (U4 rfl rfl rfl rfl (U4 rfl rfl rfl rfl (U4 rfl rfl rfl rfl (U4 rfl rfl rfl rfl (U4 rfl rfl rfl rfl (U4 rfl rfl rfl rfl (U4 rfl rfl rfl rfl (U4 rfl rfl rfl rfl (U4 rfl rfl rfl rfl (U4 rfl rfl rfl rfl (U4 rfl rfl rfl rfl (U4 rfl rfl rfl rfl (U4 rfl rfl rfl rfl (U4 rfl rfl rfl rfl (U4 rfl rfl rfl rfl (U4 rfl rfl rfl rfl (U4 rfl rfl rfl rfl (U4 rfl rfl rfl rfl (U4 rfl rfl rfl rfl (U4 rfl rfl rfl rfl (U4 rfl rfl rfl rfl (U4 rfl rfl rfl rfl (U4 rfl rfl rfl rfl (U4 rfl rfl rfl rfl (Ag.updL rfl (Ag.mix _ _ _))))))))))))))))))))))))))))))))))), ⟨rfl, trivial⟩, h_56, (by omega), rfl⟩
  ·have p_57 := of_decide_eq_false c_23
   refine WP.exit (thn_x (thn_x (inb_hit (inb_n (thn_n (WP.reg ?_))))))
   refine qM (vn c) rfl rfl (qV rfl (R.bin rfl rfl (bi_add (c := ((c + 1 : Nat) : Int)) (by omega) (by omega))) (qA (vn (c + 1)) rfl rfl ?_))
   refine WL.nil (thn_n ?_)
   have hr4 : r = 4 := by omega
   subst hr4
   rw [show 4 * c + 4 = 4 * (c + 1) by omega] at h_20
   exact ⟨c + 1, _, (by omega), (Ag.upd rfl (U4 rfl rfl rfl rfl (Ag.updL rfl (Ag.trans (Ag.sub rfl (Ag.mix _ _ _)) (Ag.upd rfl (Ag.upd rfl (Ag.upd rfl (Ag.updL rfl (Ag.mix _ _ _))))))))), ⟨rfl, trivial⟩, h_20, (by omega), rfl⟩
 ·have p_58 := of_decide_eq_false c_17
  refine WP.exit (thn_x (thn_x (inb_hit (thn_n (WP.seq (WP.reg ?_))))))
  refine qV rfl (R.loadA [] [(16, (pre 16 (mb s f) (4 * c)).map vu8)] [] (cs := (pre 16 (mb s f) (4 * c)).map vu8) rfl isAgg152 sizeOf152 (h_14.ok _ M0) rfl rfl rfl rfl) ?_
  refine WL.storeA [] [(16, (zB 16).map vu8)] [(16, (pre 16 (mb s f) (4 * c)).map vu8)] [] h_14 rfl rfl sizeOf152 Y1 (by decide) rfl rfl rfl rfl rfl rfl (sC (s8 (pre_len (by omega))) sN) (fun w_59 h_60 => ?_)
  refine WL.nil (thn_n (WP.ret ?_))
  refine ret_of results150 (RV.cell rfl (h_60.loadA (cs := (pre 16 (mb s f) (4 * c)).map vu8) isAgg152 sizeOf152 M1 rfl rfl) RV.nil) ?_
  have hc4 : c = 4 := by omega
  subst hc4
  exact ⟨by rw [show 4 * 4 = 16 from rfl, pre_all]; rfl, h_60.chgS⟩

theorem c_TableR  (w : World) :
  Cs Tryz.prog 126 [].toArray w (fun v w1 => v = (.agg ⟨(tabL sub).map vu8⟩) ∧ Chg w w1 []) := by
 refine Cs.of (n := 13) (args := []) Tryz.func126 rfl rfl rfl ?_
 have h_0 := HP.init w
 refine WP.seq (WP.reg ?_)
 refine WL.alloc (segs := [(256, (zB 256).map vu8)]) h_0 (zv typeInfo175 rfl) rfl (sC (s8 lr) sN) rfl (fun b_1 w_2 h_3 => ?_)
 refine WL.nil (thn_n (WP.seq (WP.reg ?_)))
 refine WL.alloc (segs := [(256, (zB 256).map vu8)]) h_3 (zv typeInfo175 rfl) rfl (sC (s8 lr) sN) rfl (fun b_4 w_5 h_6 => ?_)
 refine WL.nil (thn_n (WP.seq (WP.seq (WP.reg ?_))))
 refine qA (vi 0) rfl rfl ?_
 refine WL.nil (thn_n (WP.block ?_))
 refine WP.loopG (G := Nat) [2, 3, 4, 5, 6, 7, 8, 9, 10, 11] (fun k => [(2, (vn k))]) (fun k m w1 => HP w w1 [.blk b_4 .nw 175 [(256, (pre 256 (fun i => sub (UInt8.ofNat i)) k).map vu8)], .blk b_1 .nw 175 [(256, (zB 256).map vu8)]] ∧ (k ≤ 256) ∧ m = 256 - k) ⟨0, _, ⟨rfl, trivial⟩, (by rw [pre_0]; exact h_6), (by omega), rfl⟩ ?_
 rintro k m_9 J_10 w_7 ⟨h_8, hk, rfl⟩
 refine WP.seq (WP.seq (WP.reg ?_))
 refine qM (vn k) rfl rfl (qV rfl (R.bin rfl rfl (bi_lss (r := decide ((((k : Nat) : Int) : Int) < 256)) rfl)) ?_)
 refine WL.nil (thn_n ?_)
 refine WP.cond (b := decide ((((k : Nat) : Int) : Int) < 256)) rfl (fun c_11 => ?_) (fun c_11 => ?_)
 ·have p_12 := of_decide_eq_true c_11
  refine WP.skip (thn_n (WP.seq (WP.block (WP.reg ?_))))
  refine qM (vn k) rfl rfl (qM (vn k) rfl rfl (qV rfl (R.conv (b := ((UInt8.ofNat k) : UInt8).toNat) rfl underlying3 underlying5 (w8_nat k)) ?_))
  refine WL.call Tryz.call147 rfl rfl (c_SubR (UInt8.ofNat k) _ ) rfl ?_
  rintro _ w_14 ⟨rfl, hc_13⟩
  have h_15 := h_8.same hc_13
  refine qV rfl (R.indexA (b := b_4) (off := 0) (off' := (0 + k)) (i := k) rfl rfl rfl (by omega) underlying175 sizeOf5 (by rw [Nat.mul_one])) ?_
  refine WL.storeE (b := b_4) (off := (0 + k)) (i := k) (v := (vu8 (sub (UInt8.ofNat k)))) (cs' := ((pre 256 (fun i => sub (UInt8.ofNat i)) k).set k (sub (UInt8.ofNat k))).map vu8) h_15 rfl rfl sizeOf5 rfl At.h (by decide) Sg.h rfl (lt_len (K := 256) (len_map (pre_len (by omega))) (by omega)) (set_u8 _ _ _) (fun w_16 h_17 => ?_)
  refine WL.nil (inb_n (thn_n (WP.reg ?_)))
  refine qM (vn k) rfl rfl (qV rfl (R.bin rfl rfl (bi_add (c := ((k + 1 : Nat) : Int)) (by omega) (by omega))) (qA (vn (k + 1)) rfl rfl ?_))
  refine WL.nil (thn_n ?_)
  rw [pre_set (by omega) rfl] at h_17
  exact ⟨k + 1, _, (by omega), (U2 rfl rfl (U4 rfl rfl rfl rfl (U4 rfl rfl rfl rfl (Ag.updL rfl (Ag.mix _ _ _))))), ⟨rfl, trivial⟩, h_17, (by omega), rfl⟩
 ·have p_18 := of_decide_eq_false c_11
  refine WP.exit (thn_x (thn_x (inb_hit (thn_n (WP.seq (WP.reg ?_))))))
  refine qV rfl (R.loadA [] [(256, (pre 256 (fun i => sub (UInt8.ofNat i)) k).map vu8)] [] (cs := (pre 256 (fun i => sub (UInt8.ofNat i)) k).map vu8) rfl isAgg175 sizeOf175 (h_8.ok _ M0) rfl rfl rfl rfl) ?_
  refine WL.storeA [] [(256, (zB 256).map vu8)] [(256, (pre 256 (fun i => sub (UInt8.ofNat i)) k).map vu8)] [] h_8 rfl rfl sizeOf175 Y1 (by decide) rfl rfl rfl rfl rfl rfl (sC (s8 (pre_len (by omega))) sN) (fun w_19 h_20 => ?_)
  refine WL.nil (thn_n (WP.ret ?_))
  refine ret_of results126 (RV.cell rfl (h_20.loadA (cs := (pre 256 (fun i => sub (UInt8.ofNat i)) k).map vu8) isAgg175 sizeOf175 M1 rfl rfl) RV.nil) ?_
  have hk2 : k = 256 := by omega
  subst hk2
  exact ⟨by rw [pre_all]; rfl, h_20.chgS⟩

theorem c_ExpandR (tb key : List UInt8) (htb : tb.length = 256) (hkey : key.length = 16) (w : World) :
  Cs Tryz.prog 127 [(.agg ⟨key.map vu8⟩), (.agg ⟨tb.map vu8⟩)].toArray w (fun v w1 => v = (.agg ⟨(keysL tb key).map vu8⟩) ∧ Chg w w1 []) := by
 refine Cs.of (n := 106) (args := [(.agg ⟨key.map vu8⟩), (.agg ⟨tb.map vu8⟩)]) Tryz.func127 rfl rfl rfl ?_
 have h_0 := HP.init w
 refine WP.seq (WP.reg ?_)
 refine WL.box (segs := [(16, key.map vu8)]) h_0 rfl rfl (sC (s8 hkey) sN) rfl (fun b_1 w_2 h_3 => ?_)
 refine WL.box (segs := [(256, tb.map vu8)]) h_3 rfl rfl (sC (s8 htb) sN) rfl (fun b_4 w_5 h_6 => ?_)
 refine WL.alloc (segs := [(176, (zB 176).map vu8)]) h_6 (zv typeInfo177 rfl) rfl (sC (s8 lr) sN) rfl (fun b_7 w_8 h_9 => ?_)
 refine WL.nil (thn_n (WP.seq (WP.reg ?_)))
 refine WL.alloc (segs := [(176, (zB 176).map vu8)]) h_9 (zv typeInfo200 rfl) rfl (sC (s8 lr) sN) rfl (fun b_10 w_11 h_12 => ?_)
 refine WL.nil (thn_n (WP.seq (WP.seq (WP.reg ?_))))
 refine qA (vi 0) rfl rfl ?_
 refine WL.nil (thn_n (WP.block ?_))
 refine WP.loopG (G := Nat) [6, 7, 15, 16, 17, 18, 19, 20, 21, 22, 23, 24, 25, 26, 27, 28, 29, 30, 31, 32] (fun i => [(6, (vn i))]) (fun i m w1 => HP w w1 [.blk b_10 .nw 200 [(176, (pre 176 (K tb key) (4 * i)).map vu8)], .blk b_7 .nw 177 [(176, (zB 176).map vu8)], .blk b_4 .nw 175 [(256, tb.map vu8)], .blk b_1 .nw 152 [(16, key.map vu8)]] ∧ (i ≤ 4) ∧ m = 4 - i) ⟨0, _, ⟨rfl, trivial⟩, (by rw [Nat.mul_zero, pre_0]; exact h_12), (by omega), rfl⟩ ?_
 rintro i m_15 J_16 w_13 ⟨h_14, hi, rfl⟩
 refine WP.seq (WP.seq (WP.reg ?_))
 refine qM (vn i) rfl rfl (qV rfl (R.bin rfl rfl (bi_lss (r := decide ((((i : Nat) : Int) : Int) < 4)) rfl)) ?_)
 refine WL.nil (thn_n ?_)
 refine WP.cond (b := decide ((((i : Nat) : Int) : Int) < 4)) rfl (fun c_17 => ?_) (fun c_17 => ?_)
 ·have p_18 := of_decide_eq_true c_17
  refine WP.skip (thn_n (WP.seq (WP.block (WP.seq (WP.reg ?_)))))
  refine qA (vi 0) rfl rfl ?_
  refine WL.nil (thn_n (WP.block ?_))
  refine WP.loopG (G := Nat) [7, 19, 20, 21, 22, 23, 24, 25, 26, 27, 28, 29, 30, 31, 32] (fun k => [(7, (vn k))]) (fun k m w1 => HP w w1 [.blk b_10 .nw 200 [(176, (pre 176 (K tb key) (4 * i + k)).map vu8)], .blk b_7 .nw 177 [(176, (zB 176).map vu8)], .blk b_4 .nw 175 [(256, tb.map vu8)], .blk b_1 .nw 152 [(16, key.map vu8)]] ∧ (k ≤ 4) ∧ m = 4 - k) ⟨0, _, ⟨rfl, trivial⟩, h_14, (by omega), rfl⟩ ?_
  rintro k m_21 J_22 w_19 ⟨h_20, hk, rfl⟩
  refine WP.seq (WP.seq (WP.reg ?_))
  refine qM (vn k) rfl rfl (qV rfl (R.bin rfl rfl (bi_lss (r := decide ((((k : Nat) : Int) : Int) < 4)) rfl)) ?_)
  refine WL.nil (thn_n ?_)
  refine WP.cond (b := decide ((((k : Nat) : Int) : Int) < 4)) rfl (fun c_23 => ?_) (fun c_23 => ?_)
  ·have p_24 := of_decide_eq_true c_23
   refine WP.skip (thn_n (WP.seq (WP.block ?_)))
   refine WP.drawT (SL w.heap.size [.blk b_7 .nw 177 [(176, (zB 176).map vu8)], .blk b_4 .nw 175 [(256, tb.map vu8)], .blk b_1 .nw 152 [(16, key.map vu8)]]) (.q 0 (.q 1 (.q 2 (.q 3 (.q 4 (.q 5 (.q 6 (.q 7 (.q 8 (.q 9 (.s 10 .nil))))))))))) (by kernel_rfl) (by kernel_rfl) rfl (by kernel_rfl) (fun w_25 hc_27 => (SL.cons ((h_20.same hc_27).ok _ M1) (SL.cons ((h_20.same hc_27).ok _ M2) (SL.cons ((h_20.same hc_27).ok _ M3) (SL.nil _ _))))) (fun w_25 hc_27 => ?_)
   have h_26 := h_20.same hc_27
   refine qT rfl rfl (fun wq hS => R.move (v := (vn i)) rfl) ?_
   refine qT rfl rfl (fun wq hS => R.move (v := (vn k)) rfl) ?_
   refine qT rfl rfl (fun wq hS => R.move (v := (vn i)) rfl) ?_
   refine qT rfl rfl (fun wq hS => R.bin rfl rfl (bi_mul (c := ((4 * i : Nat) : Int)) (by omega) (by omega))) ?_
   refine qT rfl rfl (fun wq hS => R.move (v := (vn k)) rfl) ?_
   refine qT rfl rfl (fun wq hS => R.bin rfl rfl (bi_add (c := ((4 * i + k : Nat) : Int)) (by omega) (by omega))) ?_
   refine qT rfl rfl (fun wq hS => R.indexA (b := b_1) (off := 0) (off' := (0 + (4 * i + k))) (i := 4 * i + k) rfl rfl rfl (by omega) underlying152 sizeOf5 (by rw [Nat.mul_one])) ?_
   refine qT rfl rfl (fun wq hS => R.loadE (b := b_1) (off := (0 + (4 * i + k))) (i := 4 * i + k) (v := (vu8 (key.getD (4 * i + k) 0))) rfl isAgg5 (hS _ M2) Sg.h rfl (get_u8 (lt_len (K := 16) hkey (by omega)))) ?_
   refine qT rfl rfl (fun wq hS => R.indexA (b := b_10) (off := 0) (off' := (0 + (i * 4))) (i := i) rfl rfl rfl (by omega) underlying200 sizeOf195 rfl) ?_
   refine qT rfl rfl (fun wq hS => R.indexA (b := b_10) (off := (0 + (i * 4))) (off' := (0 + (i * 4 + k))) (i := k) rfl rfl rfl (by omega) underlying195 sizeOf5 (by omega)) ?_
   refine WT.s (oN rfl ?_)
   refine WL.storeE (b := b_10) (off := (0 + (i * 4 + k))) (i := i * 4 + k) (v := (vu8 (key.getD (4 * i + k) 0))) (cs' := ((pre 176 (K tb key) (4 * i + k)).set (i * 4 + k) (key.getD (4 * i + k) 0)).map vu8) h_26 rfl rfl sizeOf5 rfl At.h (by decide) Sg.h rfl (lt_len (K := 176) (len_map (pre_len (by omega))) (by omega)) (set_u8 _ _ _) (fun w_28 h_29 => ?_)
   refine WL.nil ?_
   refine ⟨(N1_2_3 h_29.ok), ?_⟩
   refine WT.nil (inb_n (thn_n (WP.reg ?_)))
   refine qM (vn k) rfl rfl (qV rfl (R.bin rfl rfl (bi_add (c := ((k + 1 : Nat) : Int)) (by omega) (by omega))) (qA (vn (k + 1)) rfl rfl ?_))
   refine WL.nil (thn_n ?_)
   rw [w_key (tb := tb) hkey (by omega) (by omega)] at h_29
   exact ⟨k + 1, _, (by omega), (Ag.upd rfl (U2 rfl rfl (U4 rfl rfl rfl rfl (U4 rfl rfl rfl rfl (U4 rfl rfl rfl rfl (Ag.updL rfl (Ag.mix _ _ _))))))), ⟨rfl, trivial⟩, h_29, (by omega), rfl⟩
  ·have p_30 := of_decide_eq_false c_23
   refine WP.exit (thn_x (thn_x (inb_hit (inb_n (thn_n (WP.reg ?_))))))
   refine qM (vn i) rfl rfl (qV rfl (R.bin rfl rfl (bi_add (c := ((i + 1 : Nat) : Int)) (by omega) (by omega))) (qA (vn (i + 1)) rfl rfl ?_))
   refine WL.nil (thn_n ?_)
   have hk4 : k = 4 := by omega
   subst hk4
   rw [show 4 * i + 4 = 4 * (i + 1) by omega] at h_20
   exact ⟨i + 1, _, (by omega), (Ag.upd rfl (U4 rfl rfl rfl rfl (Ag.updL rfl (Ag.trans (Ag.sub rfl (Ag.mix _ _ _)) (Ag.upd rfl (Ag.upd rfl (Ag.upd rfl (Ag.updL rfl (Ag.mix _ _ _))))))))), ⟨rfl, trivial⟩, h_20, (by omega), rfl⟩
 ·have p_31 := of_decide_eq_false c_17
  refine WP.exit (thn_x (thn_x (inb_hit (thn_n (WP.seq (WP.reg ?_))))))
  refine qA (vu8 1) rfl rfl ?_
  refine WL.nil (thn_n (WP.seq (WP.seq (WP.reg ?_))))
  refine qA (vi 4) rfl rfl ?_
  refine WL.nil (thn_n (WP.block ?_))
  have hi4 : i = 4 := by omega
  subst hi4
  refine WP.loopG (G := Nat) [8, 9, 10, 11, 33, 34, 35, 36, 37, 38, 39, 40, 41, 42, 43, 44, 45, 46, 47, 48, 49, 50, 51, 52, 53, 54, 55, 56, 57, 58, 59, 60, 61, 62, 63, 64, 65, 66, 67, 68, 69, 70, 71, 72, 73, 74, 75, 76, 77, 78, 79, 80, 81, 82] (fun i => [(8, (vu8 (pwN ((i - 1) / 4)))), (9, (vn i))]) (fun i m w1 => HP w w1 [.blk b_10 .nw 200 [(176, (pre 176 (K tb key) (4 * i)).map vu8)], .blk b_7 .nw 177 [(176, (zB 176).map vu8)], .blk b_4 .nw 175 [(256, tb.map vu8)], .blk b_1 .nw 152 [(16, key.map vu8)]] ∧ (4 ≤ i) ∧ (i ≤ 44) ∧ m = 44 - i) ⟨4, _, ⟨rfl, rfl, trivial⟩, h_14, (by omega), (by omega), rfl⟩ ?_
  rintro i m_34 J_35 w_32 ⟨h_33, hi, hi2, rfl⟩
  refine WP.seq (WP.seq (WP.reg ?_))
  refine qM (vn i) rfl rfl (qV rfl (R.bin rfl rfl (bi_lss (r := decide ((((i : Nat) : Int) : Int) < 44)) rfl)) ?_)
  refine WL.nil (thn_n ?_)
  refine WP.cond (b := decide ((((i : Nat) : Int) : Int) < 44)) rfl (fun c_36 => ?_) (fun c_36 => ?_)
  ·have p_37 := of_decide_eq_true c_36
   refine WP.skip (thn_n (WP.seq (WP.block (WP.seq (WP.reg ?_)))))
   refine qM (vn i) rfl rfl (qV rfl (R.bin rfl rfl (bi_sub (c := ((i - 1 : Nat) : Int)) (by omega) (by omega))) (qV rfl (R.indexA (b := b_10) (off := 0) (off' := (0 + ((i - 1) * 4))) (i := i - 1) rfl rfl rfl (by omega) underlying200 sizeOf195 rfl) (qV rfl (R.loadEA (b := b_10) (off := (0 + ((i - 1) * 4))) (i := (i - 1) * 4) (xs := (((pre 176 (K tb key) (4 * i)).drop ((i - 1) * 4)).take 4).map vu8) rfl isAgg195 sizeOf195 (h_33.ok _ M0) Sg.h rfl (by rw [List.map_take, List.map_drop]) (len_map (subLen (K := 176) (pre_len (by omega)) (by omega) : List.length (((pre 176 (K tb key) (4 * i)).drop ((i - 1) * 4)).take 4) = 4))) ?_)))
   refine WL.alloc (segs := [(4, (zB 4).map vu8)]) h_33 (zv typeInfo195 rfl) rfl (sC (s8 lr) sN) rfl (fun b_38 w_39 h_40 => ?_)
   refine WL.storeA [] [(4, (zB 4).map vu8)] [(4, (((pre 176 (K tb key) (4 * i)).drop ((i - 1) * 4)).take 4).map vu8)] [] h_40 rfl rfl sizeOf195 At.h (by decide) rfl rfl rfl rfl rfl rfl (sC (s8 (subLen (K := 176) (pre_len (by omega)) (by omega) : List.length (((pre 176 (K tb key) (4 * i)).drop ((i - 1) * 4)).take 4) = 4)) sN) (fun w_41 h_42 => ?_)
   refine WL.nil (thn_n (WP.seq (WP.seq (WP.reg ?_))))
   refine qM (vn i) rfl rfl (qV rfl (R.bin rfl rfl (bi_rem (c := ((i % 4 : Nat) : Int)) (Int.natCast_nonneg _) (by omega) (by first | omega | rfl))) (qV rfl (R.bin rfl rfl (bi_eql (r := decide ((((i % 4 : Nat) : Int) : Int) = 0)) rfl)) ?_))
   refine WL.nil (thn_n ?_)
   refine WP.cond (b := decide ((((i % 4 : Nat) : Int) : Int) = 0)) rfl (fun c_43 => ?_) (fun c_43 => ?_)
   ·have p_44 := of_decide_eq_true c_43
    refine WP.seq ?_
    refine WP.drawZ 19 (SL w.heap.size [.blk b_38 .nw 195 [(4, (((pre 176 (K tb key) (4 * i)).drop ((i - 1) * 4)).take 4).map vu8)], .blk b_10 .nw 200 [(176, (pre 176 (K tb key) (4 * i)).map vu8)], .blk b_7 .nw 177 [(176, (zB 176).map vu8)], .blk b_4 .nw 175 [(256, tb.map vu8)], .blk b_1 .nw 152 [(16, key.map vu8)]]) (.q 0 (.q 1 (.q 2 (.q 3 (.q 4 (.q 5 (.q 6 (.q 7 (.q 8 (.q 9 (.q 10 (.q 11 (.q 12 (.q 13 (.q 14 (.q 15 (.q 16 (.q 17 (.q 18 (.s 19 .nil)))))))))))))))))))) (by kernel_rfl) (by kernel_rfl) rfl (by kernel_rfl) (fun w_45 hc_47 => (SL.cons ((h_42.same hc_47).ok _ M0) (SL.cons ((h_42.same hc_47).ok _ M1) (SL.cons ((h_42.same hc_47).ok _ M2) (SL.cons ((h_42.same hc_47).ok _ M3) (SL.cons ((h_42.same hc_47).ok _ M4) (SL.nil _ _))))))) (fun w_45 hc_47 => ?_)
    have h_46 := h_42.same hc_47
    refine ZT.q rfl (Wn.no rfl) rfl rfl (fun wq hS => R.indexA (b := b_38) (off := 0) (off' := 1) (i := 1) rfl rfl rfl (by decide) underlying195 sizeOf5 rfl) ?_
    refine ZT.q rfl (Wn.no rfl) rfl rfl (fun wq hS => R.loadE (b := b_38) (off := 1) (i := 1) (v := (vu8 ((((pre 176 (K tb key) (4 * i)).drop ((i - 1) * 4)).take 4).getD 1 0))) rfl isAgg5 (hS _ M0) Sg.h rfl (get_u8 (lt_len (K := 4) (subLen (K := 176) (pre_len (by omega)) (by omega) : List.length (((pre 176 (K tb key) (4 * i)).drop ((i - 1) * 4)).take 4) = 4) (by decide)))) ?_
    refine ZT.q rfl (Wn.no rfl) rfl rfl (fun wq hS => R.indexA (b := b_4) (off := 0) (off' := (0 + (((((pre 176 (K tb key) (4 * i)).drop ((i - 1) * 4)).take 4).getD 1 0).toNat))) (i := ((((pre 176 (K tb key) (4 * i)).drop ((i - 1) * 4)).take 4).getD 1 0).toNat) rfl rfl rfl (UInt8.toNat_lt _) underlying175 sizeOf5 (by rw [Nat.mul_one])) ?_
    refine ZT.q rfl (Wn.no rfl) rfl rfl (fun wq hS => R.loadE (b := b_4) (off := (0 + (((((pre 176 (K tb key) (4 * i)).drop ((i - 1) * 4)).take 4).getD 1 0).toNat))) (i := ((((pre 176 (K tb key) (4 * i)).drop ((i - 1) * 4)).take 4).getD 1 0).toNat) (v := (vu8 (tb.getD (((((pre 176 (K tb key) (4 * i)).drop ((i - 1) * 4)).take 4).getD 1 0).toNat) 0))) rfl isAgg5 (hS _ M3) Sg.h rfl (get_u8 (lt_len (K := 256) htb (UInt8.toNat_lt _)))) ?_
    refine ZT.q rfl (Wn.no rfl) rfl rfl (fun wq hS => R.move (v := (vu8 (pwN ((i - 1) / 4)))) rfl) ?_
    refine ZT.q rfl (Wn.no rfl) rfl rfl (fun wq hS => R.bin rfl rfl (b8_xor (tb.getD (((((pre 176 (K tb key) (4 * i)).drop ((i - 1) * 4)).take 4).getD 1 0).toNat) 0) (pwN ((i - 1) / 4)))) ?_
    refine ZT.q rfl (Wn.no rfl) rfl rfl (fun wq hS => R.indexA (b := b_38) (off := 0) (off' := 2) (i := 2) rfl rfl rfl (by decide) underlying195 sizeOf5 rfl) ?_
    refine ZT.q rfl (Wn.no rfl) rfl rfl (fun wq hS => R.loadE (b := b_38) (off := 2) (i := 2) (v := (vu8 ((((pre 176 (K tb key) (4 * i)).drop ((i - 1) * 4)).take 4).getD 2 0))) rfl isAgg5 (hS _ M0) Sg.h rfl (get_u8 (lt_len (K := 4) (subLen (K := 176) (pre_len (by omega)) (by omega) : List.length (((pre 176 (K tb key) (4 * i)).drop ((i - 1) * 4)).take 4) = 4) (by decide)))) ?_
    refine ZT.q rfl (Wn.no rfl) rfl rfl (fun wq hS => R.indexA (b := b_4) (off := 0) (off' := (0 + (((((pre 176 (K tb key) (4 * i)).drop ((i - 1) * 4)).take 4).getD 2 0).toNat))) (i := ((((pre 176 (K tb key) (4 * i)).drop ((i - 1) * 4)).take 4).getD 2 0).toNat) rfl rfl rfl (UInt8.toNat_lt _) underlying175 sizeOf5 (by rw [Nat.mul_one])) ?_
    refine ZT.q rfl (Wn.no rfl) rfl rfl (fun wq hS => R.loadE (b := b_4) (off := (0 + (((((pre 176 (K tb key) (4 * i)).drop ((i - 1) * 4)).take 4).getD 2 0).toNat))) (i := ((((pre 176 (K tb key) (4 * i)).drop ((i - 1) * 4)).take 4).getD 2 0).toNat) (v := (vu8 (tb.getD (((((pre 176 (K tb key) (4 * i)).drop ((i - 1) * 4)).take 4).getD 2 0).toNat) 0))) rfl isAgg5 (hS _ M3) Sg.h rfl (get_u8 (lt_len (K := 256) htb (UInt8.toNat_lt _)))) ?_
    refine ZT.q rfl (Wn.no rfl) rfl rfl (fun wq hS => R.indexA (b := b_38) (off := 0) (off' := 3) (i := 3) rfl rfl rfl (by decide) underlying195 sizeOf5 rfl) ?_
    refine ZT.q rfl (Wn.no rfl) rfl rfl (fun wq hS => R.loadE (b := b_38) (off := 3) (i := 3) (v := (vu8 ((((pre 176 (K tb key) (4 * i)).drop ((i - 1) * 4)).take 4).getD 3 0))) rfl isAgg5 (hS _ M0) Sg.h rfl (get_u8 (lt_len (K := 4) (subLen (K := 176) (pre_len (by omega)) (by omega) : List.length (((pre 176 (K tb key) (4 * i)).drop ((i - 1) * 4)).take 4) = 4) (by decide)))) ?_
    refine ZT.q rfl (Wn.no rfl) rfl rfl (fun wq hS => R.indexA (b := b_4) (off := 0) (off' := (0 + (((((pre 176 (K tb key) (4 * i)).drop ((i - 1) * 4)).take 4).getD 3 0).toNat))) (i := ((((pre 176 (K tb key) (4 * i)).drop ((i - 1) * 4)).take 4).getD 3 0).toNat) rfl rfl rfl (UInt8.toNat_lt _) underlying175 sizeOf5 (by rw [Nat.mul_one])) ?_
    refine ZT.q rfl (Wn.no rfl) rfl rfl (fun wq hS => R.loadE (b := b_4) (off := (0 + (((((pre 176 (K tb key) (4 * i)).drop ((i - 1) * 4)).take 4).getD 3 0).toNat))) (i := ((((pre 176 (K tb key) (4 * i)).drop ((i - 1) * 4)).take 4).getD 3 0).toNat) (v := (vu8 (tb.getD (((((pre 176 (K tb key) (4 * i)).drop ((i - 1) * 4)).take 4).getD 3 0).toNat) 0))) rfl isAgg5 (hS _ M3) Sg.h rfl (get_u8 (lt_len (K := 256) htb (UInt8.toNat_lt _)))) ?_
    refine ZT.q rfl (Wn.no rfl) rfl rfl (fun wq hS => R.indexA (b := b_38) (off := 0) (off' := 0) (i := 0) rfl rfl rfl (by decide) underlying195 sizeOf5 rfl) ?_
    refine ZT.q rfl (Wn.no rfl) rfl rfl (fun wq hS => R.loadE (b := b_38) (off := 0) (i := 0) (v := (vu8 ((((pre 176 (K tb key) (4 * i)).drop ((i - 1) * 4)).take 4).getD 0 0))) rfl isAgg5 (hS _ M0) Sg.h rfl (get_u8 (lt_len (K := 4) (subLen (K := 176) (pre_len (by omega)) (by omega) : List.length (((pre 176 (K tb key) (4 * i)).drop ((i - 1) * 4)).take 4) = 4) (by decide)))) ?_
    refine ZT.q rfl (Wn.no rfl) rfl rfl (fun wq hS => R.indexA (b := b_4) (off := 0) (off' := (0 + (((((pre 176 (K tb key) (4 * i)).drop ((i - 1) * 4)).take 4).getD 0 0).toNat))) (i := ((((pre 176 (K tb key) (4 * i)).drop ((i - 1) * 4)).take 4).getD 0 0).toNat) rfl rfl rfl (UInt8.toNat_lt _) underlying175 sizeOf5 (by rw [Nat.mul_one])) ?_
    refine ZT.q rfl (Wn.no rfl) rfl rfl (fun wq hS => R.loadE (b := b_4) (off := (0 + (((((pre 176 (K tb key) (4 * i)).drop ((i - 1) * 4)).take 4).getD 0 0).toNat))) (i := ((((pre 176 (K tb key) (4 * i)).drop ((i - 1) * 4)).take 4).getD 0 0).toNat) (v := (vu8 (tb.getD (((((pre 176 (K tb key) (4 * i)).drop ((i - 1) * 4)).take 4).getD 0 0).toNat) 0))) rfl isAgg5 (hS _ M3) Sg.h rfl (get_u8 (lt_len (K := 256) htb (UInt8.toNat_lt _)))) ?_
    refine ZT.q rfl (Wn.no rfl) rfl rfl (fun wq hS => R.buildA (vs := [(0, (vu8 ((tb.getD (((((pre 176 (K tb key) (4 * i)).drop ((i - 1) * 4)).take 4).getD 1 0).toNat) 0) ^^^ (pwN ((i - 1) / 4))))), (1, (vu8 (tb.getD (((((pre 176 (K tb key) (4 * i)).drop ((i - 1) * 4)).take 4).getD 2 0).toNat) 0))), (2, (vu8 (tb.getD (((((pre 176 (K tb key) (4 * i)).drop ((i - 1) * 4)).take 4).getD 3 0).toNat) 0))), (3, (vu8 (tb.getD (((((pre 176 (K tb key) (4 * i)).drop ((i - 1) * 4)).take 4).getD 0 0).toNat) 0)))]) (cs := ([(tb.getD (((((pre 176 (K tb key) (4 * i)).drop ((i - 1) * 4)).take 4).getD 1 0).toNat) 0) ^^^ (pwN ((i - 1) / 4)), tb.getD (((((pre 176 (K tb key) (4 * i)).drop ((i - 1) * 4)).take 4).getD 2 0).toNat) 0, tb.getD (((((pre 176 (K tb key) (4 * i)).drop ((i - 1) * 4)).take 4).getD 3 0).toNat) 0, tb.getD (((((pre 176 (K tb key) (4 * i)).drop ((i - 1) * 4)).take 4).getD 0 0).toNat) 0] : List UInt8).map vu8) underlying195 sizeOf5 (zv typeInfo195 rfl) rfl rfl) ?_
    refine ZT.s ?_
    refine OpZ.last rfl (Wn.no rfl) ?_
    refine WL.storeA [] [(4, (((pre 176 (K tb key) (4 * i)).drop ((i - 1) * 4)).take 4).map vu8)] [(4, ([(tb.getD (((((pre 176 (K tb key) (4 * i)).drop ((i - 1) * 4)).take 4).getD 1 0).toNat) 0) ^^^ (pwN ((i - 1) / 4)), tb.getD (((((pre 176 (K tb key) (4 * i)).drop ((i - 1) * 4)).take 4).getD 2 0).toNat) 0, tb.getD (((((pre 176 (K tb key) (4 * i)).drop ((i - 1) * 4)).take 4).getD 3 0).toNat) 0, tb.getD (((((pre 176 (K tb key) (4 * i)).drop ((i - 1) * 4)).take 4).getD 0 0).toNat) 0] : List UInt8).map vu8)] [] h_46 rfl rfl sizeOf195 At.h (by decide) rfl rfl rfl rfl rfl rfl (sC (s8 (rfl : List.length ([(tb.getD (((((pre 176 (K tb key) (4 * i)).drop ((i - 1) * 4)).take 4).getD 1 0).toNat) 0) ^^^ (pwN ((i - 1) / 4)), tb.getD (((((pre 176 (K tb key) (4 * i)).drop ((i - 1) * 4)).take 4).getD 2 0).toNat) 0, tb.getD (((((pre 176 (K tb key) (4 * i)).drop ((i - 1) * 4)).take 4).getD 3 0).toNat) 0, tb.getD (((((pre 176 (K tb key) (4 * i)).drop ((i - 1) * 4)).take 4).getD 0 0).toNat) 0] : List UInt8) = 4)) sN) (fun w_48 h_49 => ?_)
    refine WL.nil (ZT.nil (thn_n (WP.reg ?_)))
    refine qM (vu8 (pwN ((i - 1) / 4))) rfl rfl ?_
    refine WL.call Tryz.call148 rfl rfl (c_TimesR (pwN ((i - 1) / 4)) (2 : UInt8) _ ) rfl ?_
    rintro _ w_51 ⟨rfl, hc_50⟩
    have h_52 := h_49.same hc_50
    refine qA (vu8 (tm (pwN ((i - 1) / 4)) (2 : UInt8))) rfl rfl ?_
    refine WL.nil (thn_n (WP.seq (WP.reg ?_)))
    refine qA (vi 0) rfl rfl ?_
    refine WL.nil (thn_n (WP.block ?_))
    refine WP.loopG (G := Nat) [11, 65, 66, 67, 68, 69, 70, 71, 72, 73, 74, 75, 76, 77, 78, 79, 80, 81, 82] (fun k => [(11, (vn k))]) (fun k m w1 => HP w w1 [.blk b_38 .nw 195 [(4, ([(tb.getD (((((pre 176 (K tb key) (4 * i)).drop ((i - 1) * 4)).take 4).getD 1 0).toNat) 0) ^^^ (pwN ((i - 1) / 4)), tb.getD (((((pre 176 (K tb key) (4 * i)).drop ((i - 1) * 4)).take 4).getD 2 0).toNat) 0, tb.getD (((((pre 176 (K tb key) (4 * i)).drop ((i - 1) * 4)).take 4).getD 3 0).toNat) 0, tb.getD (((((pre 176 (K tb key) (4 * i)).drop ((i - 1) * 4)).take 4).getD 0 0).toNat) 0] : List UInt8).map vu8)], .blk b_10 .nw 200 [(176, (pre 176 (K tb key) (4 * i + k)).map vu8)], .blk b_7 .nw 177 [(176, (zB 176).map vu8)], .blk b_4 .nw 175 [(256, tb.map vu8)], .blk b_1 .nw 152 [(16, key.map vu8)]] ∧ (k ≤ 4) ∧ m = 4 - k) ⟨0, _, ⟨rfl, trivial⟩, h_52, (by omega), rfl⟩ ?_
    rintro k m_55 J_56 w_53 ⟨h_54, hk, rfl⟩
    refine WP.seq (WP.seq (WP.reg ?_))
    refine qM (vn k) rfl rfl (qV rfl (R.bin rfl rfl (bi_lss (r := decide ((((k : Nat) : Int) : Int) < 4)) rfl)) ?_)
    refine WL.nil (thn_n ?_)
    refine WP.cond (b := decide ((((k : Nat) : Int) : Int) < 4)) rfl (fun c_57 => ?_) (fun c_57 => ?_)
    ·have p_58 := of_decide_eq_true c_57
     refine WP.skip (thn_n (WP.seq (WP.block ?_)))
     refine WP.drawT (SL w.heap.size [.blk b_38 .nw 195 [(4, ([(tb.getD (((((pre 176 (K tb key) (4 * i)).drop ((i - 1) * 4)).take 4).getD 1 0).toNat) 0) ^^^ (pwN ((i - 1) / 4)), tb.getD (((((pre 176 (K tb key) (4 * i)).drop ((i - 1) * 4)).take 4).getD 2 0).toNat) 0, tb.getD (((((pre 176 (K tb key) (4 * i)).drop ((i - 1) * 4)).take 4).getD 3 0).toNat) 0, tb.getD (((((pre 176 (K tb key) (4 * i)).drop ((i - 1) * 4)).take 4).getD 0 0).toNat) 0] : List UInt8).map vu8)], .blk b_7 .nw 177 [(176, (zB 176).map vu8)], .blk b_4 .nw 175 [(256, tb.map vu8)], .blk b_1 .nw 152 [(16, key.map vu8)]]) (.q 0 (.q 1 (.q 2 (.q 3 (.q 4 (.q 5 (.q 6 (.q 8 (.q 9 (.q 10 (.q 12 (.s 7 (.q 11 (.q 13 (.s 14 .nil))))))))))))))) (by kernel_rfl) (by kernel_rfl) rfl (by kernel_rfl) (fun w_59 hc_61 => (SL.cons ((h_54.same hc_61).ok _ M0) (SL.cons ((h_54.same hc_61).ok _ M2) (SL.cons ((h_54.same hc_61).ok _ M3) (SL.cons ((h_54.same hc_61).ok _ M4) (SL.nil _ _)))))) (fun w_59 hc_61 => ?_)
     have h_60 := h_54.same hc_61
     refine qT rfl rfl (fun wq hS => R.move (v := (vn i)) rfl) ?_
     refine qT rfl rfl (fun wq hS => R.move (v := (vn k)) rfl) ?_
     refine qT rfl rfl (fun wq hS => R.move (v := (vn i)) rfl) ?_
     refine qT rfl rfl (fun wq hS => R.bin rfl rfl (bi_sub (c := ((i - 4 : Nat) : Int)) (by omega) (by omega))) ?_
     refine qT rfl rfl (fun wq hS => R.move (v := (vn k)) rfl) ?_
     refine qT rfl rfl (fun wq hS => R.indexA (b := b_10) (off := 0) (off' := (0 + ((i - 4) * 4))) (i := i - 4) rfl rfl rfl (by omega) underlying200 sizeOf195 rfl) ?_
     refine qT rfl rfl (fun wq hS => R.indexA (b := b_10) (off := (0 + ((i - 4) * 4))) (off' := (0 + ((i - 4) * 4 + k))) (i := k) rfl rfl rfl (by omega) underlying195 sizeOf5 (by omega)) ?_
     refine qT rfl rfl (fun wq hS => R.move (v := (vn k)) rfl) ?_
     refine qT rfl rfl (fun wq hS => R.indexA (b := b_38) (off := 0) (off' := (0 + k)) (i := k) rfl rfl rfl (by omega) underlying195 sizeOf5 (by rw [Nat.mul_one])) ?_
     refine qT rfl rfl (fun wq hS => R.loadE (b := b_38) (off := (0 + k)) (i := k) (v := (vu8 (([(tb.getD (((((pre 176 (K tb key) (4 * i)).drop ((i - 1) * 4)).take 4).getD 1 0).toNat) 0) ^^^ (pwN ((i - 1) / 4)), tb.getD (((((pre 176 (K tb key) (4 * i)).drop ((i - 1) * 4)).take 4).getD 2 0).toNat) 0, tb.getD (((((pre 176 (K tb key) (4 * i)).drop ((i - 1) * 4)).take 4).getD 3 0).toNat) 0, tb.getD (((((pre 176 (K tb key) (4 * i)).drop ((i - 1) * 4)).take 4).getD 0 0).toNat) 0] : List UInt8).getD k 0))) rfl isAgg5 (hS _ M0) Sg.h rfl (get_u8 (lt_len (K := 4) (rfl : List.length ([(tb.getD (((((pre 176 (K tb key) (4 * i)).drop ((i - 1) * 4)).take 4).getD 1 0).toNat) 0) ^^^ (pwN ((i - 1) / 4)), tb.getD (((((pre 176 (K tb key) (4 * i)).drop ((i - 1) * 4)).take 4).getD 2 0).toNat) 0, tb.getD (((((pre 176 (K tb key) (4 * i)).drop ((i - 1) * 4)).take 4).getD 3 0).toNat) 0, tb.getD (((((pre 176 (K tb key) (4 * i)).drop ((i - 1) * 4)).take 4).getD 0 0).toNat) 0] : List UInt8) = 4) (by omega)))) ?_
     refine qT rfl rfl (fun wq hS => R.indexA (b := b_10) (off := 0) (off' := (0 + (i * 4))) (i := i) rfl rfl rfl (by omega) underlying200 sizeOf195 rfl) ?_
     refine WT.s (oN rfl ?_)
     refine qV rfl (R.loadE (b := b_10) (off := (0 + ((i - 4) * 4 + k))) (i := (i - 4) * 4 + k) (v := (vu8 ((pre 176 (K tb key) (4 * i + k)).getD ((i - 4) * 4 + k) 0))) rfl isAgg5 (h_60.ok _ M1) Sg.h rfl (get_u8 (lt_len (K := 176) (pre_len (by omega)) (by omega)))) ?_
     refine WL.nil ?_
     refine ⟨(N0_2_3_4 h_60.ok), ?_⟩
     refine qT rfl rfl (fun wq hS => R.bin rfl rfl (b8_xor ((pre 176 (K tb key) (4 * i + k)).getD ((i - 4) * 4 + k) 0) (([(tb.getD (((((pre 176 (K tb key) (4 * i)).drop ((i - 1) * 4)).take 4).getD 1 0).toNat) 0) ^^^ (pwN ((i - 1) / 4)), tb.getD (((((pre 176 (K tb key) (4 * i)).drop ((i - 1) * 4)).take 4).getD 2 0).toNat) 0, tb.getD (((((pre 176 (K tb key) (4 * i)).drop ((i - 1) * 4)).take 4).getD 3 0).toNat) 0, tb.getD (((((pre 176 (K tb key) (4 * i)).drop ((i - 1) * 4)).take 4).getD 0 0).toNat) 0] : List UInt8).getD k 0))) ?_
     refine qT rfl rfl (fun wq hS => R.indexA (b := b_10) (off := (0 + (i * 4))) (off' := (0 + (i * 4 + k))) (i := k) rfl rfl rfl (by omega) underlying195 sizeOf5 (by omega)) ?_
     refine WT.s (oN rfl ?_)
     refine WL.storeE (b := b_10) (off := (0 + (i * 4 + k))) (i := i * 4 + k) (v := (vu8 (((pre 176 (K tb key) (4 * i + k)).getD ((i - 4) * 4 + k) 0) ^^^ (([(tb.getD (((((pre 176 (K tb key) (4 * i)).drop ((i - 1) * 4)).take 4).getD 1 0).toNat) 0) ^^^ (pwN ((i - 1) / 4)), tb.getD (((((pre 176 (K tb key) (4 * i)).drop ((i - 1) * 4)).take 4).getD 2 0).toNat) 0, tb.getD (((((pre 176 (K tb key) (4 * i)).drop ((i - 1) * 4)).take 4).getD 3 0).toNat) 0, tb.getD (((((pre 176 (K tb key) (4 * i)).drop ((i - 1) * 4)).take 4).getD 0 0).toNat) 0] : List UInt8).getD k 0)))) (cs' := ((pre 176 (K tb key) (4 * i + k)).set (i * 4 + k) (((pre 176 (K tb key) (4 * i + k)).getD ((i - 4) * 4 + k) 0) ^^^ (([(tb.getD (((((pre 176 (K tb key) (4 * i)).drop ((i - 1) * 4)).take 4).getD 1 0).toNat) 0) ^^^ (pwN ((i - 1) / 4)), tb.getD (((((pre 176 (K tb key) (4 * i)).drop ((i - 1) * 4)).take 4).getD 2 0).toNat) 0, tb.getD (((((pre 176 (K tb key) (4 * i)).drop ((i - 1) * 4)).take 4).getD 3 0).toNat) 0, tb.getD (((((pre 176 (K tb key) (4 * i)).drop ((i - 1) * 4)).take 4).getD 0 0).toNat) 0] : List UInt8).getD k 0))).map vu8) h_60 rfl rfl sizeOf5 rfl Y1 (by decide) Sg.h rfl (lt_len (K := 176) (len_map (pre_len (by omega))) (by omega)) (set_u8 _ _ _) (fun w_62 h_63 => ?_)
     refine WL.nil ?_
     refine ⟨(N0_2_3_4 h_63.ok), ?_⟩
     refine WT.nil (inb_n (thn_n (WP.reg ?_)))
     refine qM (vn k) rfl rfl (qV rfl (R.bin rfl rfl (bi_add (c := ((k + 1 : Nat) : Int)) (by omega) (by omega))) (qA (vn (k + 1)) rfl rfl ?_))
     refine WL.nil (thn_n ?_)
     rw [w_step (tb := tb) hkey (by omega) (by omega) (by omega) (w_new (by omega) (by omega))] at h_63
     exact ⟨k + 1, _, (by omega), (Ag.upd rfl (U2 rfl rfl (U4 rfl rfl rfl rfl (U4 rfl rfl rfl rfl (U4 rfl rfl rfl rfl (U4 rfl rfl rfl rfl (Ag.updL rfl (Ag.mix _ _ _)))))))), ⟨rfl, trivial⟩, h_63, (by omega), rfl⟩
    ·have p_64 := of_decide_eq_false c_57
     refine WP.exit (thn_x (thn_x (inb_hit (inb_n (thn_n (WP.reg ?_))))))
     refine qM (vn i) rfl rfl (qV rfl (R.bin rfl rfl (bi_add (c := ((i + 1 : Nat) : Int)) (by omega) (by omega))) (qA (vn (i + 1)) rfl rfl ?_))
     refine WL.nil (thn_n ?_)
     have hk4 : k = 4 := by omega
     subst hk4
     have h_65 := h_54.drop rfl
     rw [show 4 * i + 4 = 4 * (i + 1) by omega] at h_65
     exact ⟨i + 1, _, (by omega), (Ag.upd rfl (U4 rfl rfl rfl rfl (Ag.updL rfl (Ag.trans (Ag.sub rfl (Ag.mix _ _ _)) (Ag.upd rfl (Ag.upd rfl (Ag.upd rfl (Ag.upd rfl (Ag.upd rfl (Ag.upd rfl (Ag.upd rfl (Ag.upd rfl (Ag.upd rfl (Ag.upd rfl (Ag.upd rfl (Ag.upd rfl (Ag.upd rfl (Ag.upd rfl (Ag.upd rfl (Ag.upd rfl (Ag.upd rfl (Ag.upd rfl (Ag.upd rfl (Ag.upd rfl (Ag.upd rfl (Ag.upd rfl (Ag.upd rfl (Ag.upd rfl (Ag.upd rfl (Ag.upd rfl (Ag.upd rfl (Ag.upd rfl (Ag.upd rfl (Ag.upd rfl (Ag.upd rfl (Ag.upd rfl (Ag.upd rfl (Ag.updL rfl (Ag.mix _ _ _))))))))))))))))))))))))))))))))))))))), ⟨congrArg vu8 (pw_4 (by omega) (by omega)), rfl, trivial⟩, h_65, (by omega), (by omega), rfl⟩
   ·have p_66 := of_decide_eq_false c_43
    refine WP.skip (thn_n (WP.seq (WP.reg ?_)))
    refine qA (vi 0) rfl rfl ?_
    refine WL.nil (thn_n (WP.block ?_))
    refine WP.loopG (G := Nat) [11, 65, 66, 67, 68, 69, 70, 71, 72, 73, 74, 75, 76, 77, 78, 79, 80, 81, 82] (fun k => [(11, (vn k))]) (fun k m w1 => HP w w1 [.blk b_38 .nw 195 [(4, (((pre 176 (K tb key) (4 * i)).drop ((i - 1) * 4)).take 4).map vu8)], .blk b_10 .nw 200 [(176, (pre 176 (K tb key) (4 * i + k)).map vu8)], .blk b_7 .nw 177 [(176, (zB 176).map vu8)], .blk b_4 .nw 175 [(256, tb.map vu8)], .blk b_1 .nw 152 [(16, key.map vu8)]] ∧ (k ≤ 4) ∧ m = 4 - k) ⟨0, _, ⟨rfl, trivial⟩, h_42, (by omega), rfl⟩ ?_
    rintro k m_69 J_70 w_67 ⟨h_68, hk, rfl⟩
    refine WP.seq (WP.seq (WP.reg ?_))
    refine qM (vn k) rfl rfl (qV rfl (R.bin rfl rfl (bi_lss (r := decide ((((k : Nat) : Int) : Int) < 4)) rfl)) ?_)
    refine WL.nil (thn_n ?_)
    refine WP.cond (b := decide ((((k : Nat) : Int) : Int) < 4)) rfl (fun c_71 => ?_) (fun c_71 => ?_)
    ·have p_72 := of_decide_eq_true c_71
     refine WP.skip (thn_n (WP.seq (WP.block ?_)))
     refine WP.drawT (SL w.heap.size [.blk b_38 .nw 195 [(4, (((pre 176 (K tb key) (4 * i)).drop ((i - 1) * 4)).take 4).map vu8)], .blk b_7 .nw 177 [(176, (zB 176).map vu8)], .blk b_4 .nw 175 [(256, tb.map vu8)], .blk b_1 .nw 152 [(16, key.map vu8)]]) (.q 0 (.q 1 (.q 2 (.q 3 (.q 4 (.q 5 (.q 6 (.q 8 (.q 9 (.q 10 (.q 12 (.s 7 (.q 11 (.q 13 (.s 14 .nil))))))))))))))) (by kernel_rfl) (by kernel_rfl) rfl (by kernel_rfl) (fun w_73 hc_75 => (SL.cons ((h_68.same hc_75).ok _ M0) (SL.cons ((h_68.same hc_75).ok _ M2) (SL.cons ((h_68.same hc_75).ok _ M3) (SL.cons ((h_68.same hc_75).ok _ M4) (SL.nil _ _)))))) (fun w_73 hc_75 => ?_)
     have h_74 := h_68.same hc_75
     refine qT rfl rfl (fun wq hS => R.move (v := (vn i)) rfl) ?_
     refine qT rfl rfl (fun wq hS => R.move (v := (vn k)) rfl) ?_
     refine qT rfl rfl (fun wq hS => R.move (v := (vn i)) rfl) ?_
     refine qT rfl rfl (fun wq hS => R.bin rfl rfl (bi_sub (c := ((i - 4 : Nat) : Int)) (by omega) (by omega))) ?_
     refine qT rfl rfl (fun wq hS => R.move (v := (vn k)) rfl) ?_
     refine qT rfl rfl (fun wq hS => R.indexA (b := b_10) (off := 0) (off' := (0 + ((i - 4) * 4))) (i := i - 4) rfl rfl rfl (by omega) underlying200 sizeOf195 rfl) ?_
     refine qT rfl rfl (fun wq hS => R.indexA (b := b_10) (off := (0 + ((i - 4) * 4))) (off' := (0 + ((i - 4) * 4 + k))) (i := k) rfl rfl rfl (by omega) underlying195 sizeOf5 (by omega)) ?_
     refine qT rfl rfl (fun wq hS => R.move (v := (vn k)) rfl) ?_
     refine qT rfl rfl (fun wq hS => R.indexA (b := b_38) (off := 0) (off' := (0 + k)) (i := k) rfl rfl rfl (by omega) underlying195 sizeOf5 (by rw [Nat.mul_one])) ?_
     refine qT rfl rfl (fun wq hS => R.loadE (b := b_38) (off := (0 + k)) (i := k) (v := (vu8 ((((pre 176 (K tb key) (4 * i)).drop ((i - 1) * 4)).take 4).getD k 0))) rfl isAgg5 (hS _ M0) Sg.h rfl (get_u8 (lt_len (K := 4) (subLen (K := 176) (pre_len (by omega)) (by omega) : List.length (((pre 176 (K tb key) (4 * i)).drop ((i - 1) * 4)).take 4) = 4) (by omega)))) ?_
     refine qT rfl rfl (fun wq hS => R.indexA (b := b_10) (off := 0) (off' := (0 + (i * 4))) (i := i) rfl rfl rfl (by omega) underlying200 sizeOf195 rfl) ?_
     refine WT.s (oN rfl ?_)
     refine qV rfl (R.loadE (b := b_10) (off := (0 + ((i - 4) * 4 + k))) (i := (i - 4) * 4 + k) (v := (vu8 ((pre 176 (K tb key) (4 * i + k)).getD ((i - 4) * 4 + k) 0))) rfl isAgg5 (h_74.ok _ M1) Sg.h rfl (get_u8 (lt_len (K := 176) (pre_len (by omega)) (by omega)))) ?_
     refine WL.nil ?_
     refine ⟨(N0_2_3_4 h_74.ok), ?_⟩
     refine qT rfl rfl (fun wq hS => R.bin rfl rfl (b8_xor ((pre 176 (K tb key) (4 * i + k)).getD ((i - 4) * 4 + k) 0) ((((pre 176 (K tb key) (4 * i)).drop ((i - 1) * 4)).take 4).getD k 0))) ?_
     refine qT rfl rfl (fun wq hS => R.indexA (b := b_10) (off := (0 + (i * 4))) (off' := (0 + (i * 4 + k))) (i := k) rfl rfl rfl (by omega) underlying195 sizeOf5 (by omega)) ?_
     refine WT.s (oN rfl ?_)
     refine WL.storeE (b := b_10) (off := (0 + (i * 4 + k))) (i := i * 4 + k) (v := (vu8 (((pre 176 (K tb key) (4 * i + k)).getD ((i - 4) * 4 + k) 0) ^^^ ((((pre 176 (K tb key) (4 * i)).drop ((i - 1) * 4)).take 4).getD k 0)))) (cs' := ((pre 176 (K tb key) (4 * i + k)).set (i * 4 + k) (((pre 176 (K tb key) (4 * i + k)).getD ((i - 4) * 4 + k) 0) ^^^ ((((pre 176 (K tb key) (4 * i)).drop ((i - 1) * 4)).take 4).getD k 0))).map vu8) h_74 rfl rfl sizeOf5 rfl Y1 (by decide) Sg.h rfl (lt_len (K := 176) (len_map (pre_len (by omega))) (by omega)) (set_u8 _ _ _) (fun w_76 h_77 => ?_)
     refine WL.nil ?_
     refine ⟨(N0_2_3_4 h_77.ok), ?_⟩
     refine WT.nil (inb_n (thn_n (WP.reg ?_)))
     refine qM (vn k) rfl rfl (qV rfl (R.bin rfl rfl (bi_add (c := ((k + 1 : Nat) : Int)) (by omega) (by omega))) (qA (vn (k + 1)) rfl rfl ?_))
     refine WL.nil (thn_n ?_)
     rw [w_step (tb := tb) hkey (by omega) (by omega) (by omega) (w_old (by omega) (by omega))] at h_77
     exact ⟨k + 1, _, (by omega), (Ag.upd rfl (U2 rfl rfl (U4 rfl rfl rfl rfl (U4 rfl rfl rfl rfl (U4 rfl rfl rfl rfl (U4 rfl rfl rfl rfl (Ag.updL rfl (Ag.mix _ _ _)))))))), ⟨rfl, trivial⟩, h_77, (by omega), rfl⟩
    ·have p_78 := of_decide_eq_false c_71
     refine WP.exit (thn_x (thn_x (inb_hit (inb_n (thn_n (WP.reg ?_))))))
     refine qM (vn i) rfl rfl (qV rfl (R.bin rfl rfl (bi_add (c := ((i + 1 : Nat) : Int)) (by omega) (by omega))) (qA (vn (i + 1)) rfl rfl ?_))
     refine WL.nil (thn_n ?_)
     have hk4 : k = 4 := by omega
     subst hk4
     have h_79 := h_68.drop rfl
     rw [show 4 * i + 4 = 4 * (i + 1) by omega] at h_79
     exact ⟨i + 1, _, (by omega), (Ag.upd rfl (U4 rfl rfl rfl rfl (Ag.updL rfl (Ag.trans (Ag.sub rfl (Ag.mix _ _ _)) (Ag.upd rfl (Ag.upd rfl (Ag.upd rfl (Ag.upd rfl (Ag.upd rfl (Ag.upd rfl (Ag.upd rfl (Ag.upd rfl (Ag.upd rfl (Ag.upd rfl (Ag.upd rfl (Ag.updL rfl (Ag.mix _ _ _))))))))))))))))), ⟨congrArg vu8 (pw_no (i := i) (by omega)), rfl, trivial⟩, h_79, (by omega), (by omega), rfl⟩
  ·have p_80 := of_decide_eq_false c_36
   refine WP.exit (thn_x (thn_x (inb_hit (thn_n (WP.seq (WP.reg ?_))))))
   refine WL.alloc (segs := [(176, (zB 176).map vu8)]) h_33 (zv typeInfo177 rfl) rfl (sC (s8 lr) sN) rfl (fun b_81 w_82 h_83 => ?_)
   refine WL.nil (thn_n (WP.seq (WP.seq (WP.reg ?_))))
   refine qA (vi 0) rfl rfl ?_
   refine WL.nil (thn_n (WP.block ?_))
   have hi44 : i = 44 := by omega
   subst hi44
   refine WP.loopG (G := Nat) [13, 14, 83, 84, 85, 86, 87, 88, 89, 90, 91, 92, 93, 94, 95, 96, 97, 98, 99, 100, 101, 102, 103, 104] (fun i => [(13, (vn i))]) (fun i m w1 => HP w w1 [.blk b_81 .nw 177 [(176, (pre 176 (K tb key) (4 * i)).map vu8)], .blk b_10 .nw 200 [(176, (pre 176 (K tb key) (4 * 44)).map vu8)], .blk b_7 .nw 177 [(176, (zB 176).map vu8)], .blk b_4 .nw 175 [(256, tb.map vu8)], .blk b_1 .nw 152 [(16, key.map vu8)]] ∧ (i ≤ 44) ∧ m = 44 - i) ⟨0, _, ⟨rfl, trivial⟩, (by rw [Nat.mul_zero, pre_0]; exact h_83), (by omega), rfl⟩ ?_
   rintro i m_86 J_87 w_84 ⟨h_85, hi, rfl⟩
   refine WP.seq (WP.seq (WP.reg ?_))
   refine qM (vn i) rfl rfl (qV rfl (R.bin rfl rfl (bi_lss (r := decide ((((i : Nat) : Int) : Int) < 44)) rfl)) ?_)
   refine WL.nil (thn_n ?_)
   refine WP.cond (b := decide ((((i : Nat) : Int) : Int) < 44)) rfl (fun c_88 => ?_) (fun c_88 => ?_)
   ·have p_89 := of_decide_eq_true c_88
    refine WP.skip (thn_n (WP.seq (WP.block (WP.seq (WP.reg ?_)))))
    refine qA (vi 0) rfl rfl ?_
    refine WL.nil (thn_n (WP.block ?_))
    refine WP.loopG (G := Nat) [14, 87, 88, 89, 90, 91, 92, 93, 94, 95, 96, 97, 98, 99, 100, 101, 102, 103, 104] (fun k => [(14, (vn k))]) (fun k m w1 => HP w w1 [.blk b_81 .nw 177 [(176, (pre 176 (K tb key) (4 * i + k)).map vu8)], .blk b_10 .nw 200 [(176, (pre 176 (K tb key) (4 * 44)).map vu8)], .blk b_7 .nw 177 [(176, (zB 176).map vu8)], .blk b_4 .nw 175 [(256, tb.map vu8)], .blk b_1 .nw 152 [(16, key.map vu8)]] ∧ (k ≤ 4) ∧ m = 4 - k) ⟨0, _, ⟨rfl, trivial⟩, h_85, (by omega), rfl⟩ ?_
    rintro k m_92 J_93 w_90 ⟨h_91, hk, rfl⟩
    refine WP.seq (WP.seq (WP.reg ?_))
    refine qM (vn k) rfl rfl (qV rfl (R.bin rfl rfl (bi_lss (r := decide ((((k : Nat) : Int) : Int) < 4)) rfl)) ?_)
    refine WL.nil (thn_n ?_)
    refine WP.cond (b := decide ((((k : Nat) : Int) : Int) < 4)) rfl (fun c_94 => ?_) (fun c_94 => ?_)
    ·have p_95 := of_decide_eq_true c_94
     refine WP.skip (thn_n (WP.seq (WP.block ?_)))
     refine WP.drawT (SL w.heap.size [.blk b_10 .nw 200 [(176, (pre 176 (K tb key) (4 * 44)).map vu8)], .blk b_7 .nw 177 [(176, (zB 176).map vu8)], .blk b_4 .nw 175 [(256, tb.map vu8)], .blk b_1 .nw 152 [(16, key.map vu8)]]) (.q 0 (.q 1 (.q 2 (.q 3 (.q 4 (.q 5 (.q 6 (.q 7 (.q 8 (.q 9 (.q 10 (.q 11 (.q 12 (.q 13 (.s 14 .nil))))))))))))))) (by kernel_rfl) (by kernel_rfl) rfl (by kernel_rfl) (fun w_96 hc_98 => (SL.cons ((h_91.same hc_98).ok _ M1) (SL.cons ((h_91.same hc_98).ok _ M2) (SL.cons ((h_91.same hc_98).ok _ M3) (SL.cons ((h_91.same hc_98).ok _ M4) (SL.nil _ _)))))) (fun w_96 hc_98 => ?_)
     have h_97 := h_91.same hc_98
     refine qT rfl rfl (fun wq hS => R.move (v := (vn i)) rfl) ?_
     refine qT rfl rfl (fun wq hS => R.bin rfl rfl (bi_quo (c := ((i / 4 : Nat) : Int)) (by first | omega | exact ⟨Int.natCast_nonneg _, by omega⟩) (by omega) (by first | omega | rfl))) ?_
     refine qT rfl rfl (fun wq hS => R.move (v := (vn i)) rfl) ?_
     refine qT rfl rfl (fun wq hS => R.bin rfl rfl (bi_rem (c := ((i % 4 : Nat) : Int)) (Int.natCast_nonneg _) (by omega) (by first | omega | rfl))) ?_
     refine qT rfl rfl (fun wq hS => R.bin rfl rfl (bi_mul (c := ((4 * (i % 4) : Nat) : Int)) (by omega) (by omega))) ?_
     refine qT rfl rfl (fun wq hS => R.move (v := (vn k)) rfl) ?_
     refine qT rfl rfl (fun wq hS => R.bin rfl rfl (bi_add (c := ((4 * (i % 4) + k : Nat) : Int)) (by omega) (by omega))) ?_
     refine qT rfl rfl (fun wq hS => R.move (v := (vn i)) rfl) ?_
     refine qT rfl rfl (fun wq hS => R.move (v := (vn k)) rfl) ?_
     refine qT rfl rfl (fun wq hS => R.indexA (b := b_10) (off := 0) (off' := (0 + (i * 4))) (i := i) rfl rfl rfl (by omega) underlying200 sizeOf195 rfl) ?_
     refine qT rfl rfl (fun wq hS => R.indexA (b := b_10) (off := (0 + (i * 4))) (off' := (0 + (i * 4 + k))) (i := k) rfl rfl rfl (by omega) underlying195 sizeOf5 (by omega)) ?_
     refine qT rfl rfl (fun wq hS => R.loadE (b := b_10) (off := (0 + (i * 4 + k))) (i := i * 4 + k) (v := (vu8 ((pre 176 (K tb key) (4 * 44)).getD (i * 4 + k) 0))) rfl isAgg5 (hS _ M0) Sg.h rfl (get_u8 (lt_len (K := 176) (pre_len (by omega)) (by omega)))) ?_
     refine qT rfl rfl (fun wq hS => R.indexA (b := b_81) (off := 0) (off' := (0 + ((i / 4) * 16))) (i := i / 4) rfl rfl rfl (by omega) underlying177 sizeOf152 rfl) ?_
     refine qT rfl rfl (fun wq hS => R.indexA (b := b_81) (off := (0 + ((i / 4) * 16))) (off' := (0 + ((i / 4) * 16 + (4 * (i % 4) + k)))) (i := 4 * (i % 4) + k) rfl rfl rfl (by omega) underlying152 sizeOf5 (by omega)) ?_
     refine WT.s (oN rfl ?_)
     refine WL.storeE (b := b_81) (off := (0 + ((i / 4) * 16 + (4 * (i % 4) + k)))) (i := (i / 4) * 16 + (4 * (i % 4) + k)) (v := (vu8 ((pre 176 (K tb key) (4 * 44)).getD (i * 4 + k) 0))) (cs' := ((pre 176 (K tb key) (4 * i + k)).set ((i / 4) * 16 + (4 * (i % 4) + k)) ((pre 176 (K tb key) (4 * 44)).getD (i * 4 + k) 0)).map vu8) h_97 rfl rfl sizeOf5 rfl At.h (by decide) Sg.h rfl (lt_len (K := 176) (len_map (pre_len (by omega))) (by omega)) (set_u8 _ _ _) (fun w_99 h_100 => ?_)
     refine WL.nil ?_
     refine ⟨(N1_2_3_4 h_100.ok), ?_⟩
     refine WT.nil (inb_n (thn_n (WP.reg ?_)))
     refine qM (vn k) rfl rfl (qV rfl (R.bin rfl rfl (bi_add (c := ((k + 1 : Nat) : Int)) (by omega) (by omega))) (qA (vn (k + 1)) rfl rfl ?_))
     refine WL.nil (thn_n ?_)
     rw [w_copy (by omega) (by omega)] at h_100
     exact ⟨k + 1, _, (by omega), (Ag.upd rfl (U2 rfl rfl (U4 rfl rfl rfl rfl (U4 rfl rfl rfl rfl (U4 rfl rfl rfl rfl (U4 rfl rfl rfl rfl (Ag.updL rfl (Ag.mix _ _ _)))))))), ⟨rfl, trivial⟩, h_100, (by omega), rfl⟩
    ·have p_101 := of_decide_eq_false c_94
     refine WP.exit (thn_x (thn_x (inb_hit (inb_n (thn_n (WP.reg ?_))))))
     refine qM (vn i) rfl rfl (qV rfl (R.bin rfl rfl (bi_add (c := ((i + 1 : Nat) : Int)) (by omega) (by omega))) (qA (vn (i + 1)) rfl rfl ?_))
     refine WL.nil (thn_n ?_)
     have hk4 : k = 4 := by omega
     subst hk4
     rw [show 4 * i + 4 = 4 * (i + 1) by omega] at h_91
     exact ⟨i + 1, _, (by omega), (Ag.upd rfl (U4 rfl rfl rfl rfl (Ag.updL rfl (Ag.trans (Ag.sub rfl (Ag.mix _ _ _)) (Ag.upd rfl (Ag.upd rfl (Ag.upd rfl (Ag.updL rfl (Ag.mix _ _ _))))))))), ⟨rfl, trivial⟩, h_91, (by omega), rfl⟩
   ·have p_102 := of_decide_eq_false c_88
    refine WP.exit (thn_x (thn_x (inb_hit (thn_n (WP.seq (WP.reg ?_))))))
    refine qV rfl (R.loadA [] [(176, (pre 176 (K tb key) (4 * i)).map vu8)] [] (cs := (pre 176 (K tb key) (4 * i)).map vu8) rfl isAgg177 sizeOf177 (h_85.ok _ M0) rfl rfl rfl rfl) ?_
    refine WL.storeA [] [(176, (zB 176).map vu8)] [(176, (pre 176 (K tb key) (4 * i)).map vu8)] [] h_85 rfl rfl sizeOf177 Y2 (by decide) rfl rfl rfl rfl rfl rfl (sC (s8 (pre_len (by omega))) sN) (fun w_103 h_104 => ?_)
    refine WL.nil (thn_n (WP.ret ?_))
    refine ret_of results127 (RV.cell rfl (h_104.loadA (cs := (pre 176 (K tb key) (4 * i)).map vu8) isAgg177 sizeOf177 M2 rfl rfl) RV.nil) ?_
    have hi44 : i = 44 := by omega
    subst hi44
    exact ⟨by rw [show 4 * 44 = 176 from rfl, pre_all]; rfl, h_104.chgS⟩
theorem c_EncipherR (keys tb blk : List UInt8) (hks : keys.length = 176) (htb : tb.length = 256) (hbl : blk.length = 16) (w : World) :
  Cs Tryz.prog 128 [(.agg ⟨keys.map vu8⟩), (.agg ⟨blk.map vu8⟩), (.agg ⟨tb.map vu8⟩)].toArray w (fun v w1 => v = (.agg ⟨(encN keys tb blk 10).map vu8⟩) ∧ Chg w w1 []) := by
 refine Cs.of (n := 55) (args := [(.agg ⟨keys.map vu8⟩), (.agg ⟨blk.map vu8⟩), (.agg ⟨tb.map vu8⟩)]) Tryz.func128 rfl rfl rfl ?_
 have h_0 := HP.init w
 refine WP.seq (WP.reg ?_)
 refine WL.box (segs := [(176, keys.map vu8)]) h_0 rfl rfl (sC (s8 hks) sN) rfl (fun b_1 w_2 h_3 => ?_)
 refine WL.box (segs := [(16, blk.map vu8)]) h_3 rfl rfl (sC (s8 hbl) sN) rfl (fun b_4 w_5 h_6 => ?_)
 refine WL.box (segs := [(256, tb.map vu8)]) h_6 rfl rfl (sC (s8 htb) sN) rfl (fun b_7 w_8 h_9 => ?_)
 refine WL.alloc (segs := [(16, (zB 16).map vu8)]) h_9 (zv typeInfo152 rfl) rfl (sC (s8 lr) sN) rfl (fun b_10 w_11 h_12 => ?_)
 refine WL.nil (thn_n (WP.seq (WP.reg ?_)))
 refine qV rfl (R.loadA [] [(16, blk.map vu8)] [] (cs := blk.map vu8) rfl isAgg152 sizeOf152 (h_12.ok _ M2) rfl rfl rfl rfl) (qV rfl (R.indexA (b := b_1) (off := 0) (off' := 0) (i := 0) rfl rfl rfl (by decide) underlying177 sizeOf152 rfl) (qV rfl (R.loadEA (b := b_1) (off := 0) (i := 0) (xs := ((keys.drop 0).take 16).map vu8) rfl isAgg152 sizeOf152 (h_12.ok _ M3) Sg.h rfl (by rw [List.map_take, List.map_drop]) (len_map (subLen (K := 176) hks (by omega) : List.length ((keys.drop 0).take 16) = 16))) ?_))
 refine WL.call Tryz.call149 rfl rfl (c_xorR blk ((keys.drop 0).take 16) hbl (subLen (K := 176) hks (by omega) : List.length ((keys.drop 0).take 16) = 16) _ ) rfl ?_
 rintro _ w_14 ⟨rfl, hc_13⟩
 have h_15 := h_12.same hc_13
 refine WL.alloc (segs := [(16, (zB 16).map vu8)]) h_15 (zv typeInfo152 rfl) rfl (sC (s8 lr) sN) rfl (fun b_16 w_17 h_18 => ?_)
 refine WL.storeA [] [(16, (zB 16).map vu8)] [(16, (xorL blk ((keys.drop 0).take 16)).map vu8)] [] h_18 rfl rfl sizeOf152 At.h (by decide) rfl rfl rfl rfl rfl rfl (sC (s8 (xorL_len hbl (subLen (K := 176) hks (by omega) : List.length ((keys.drop 0).take 16) = 16))) sN) (fun w_19 h_20 => ?_)
 refine WL.nil (thn_n (WP.seq (WP.seq (WP.reg ?_))))
 refine qA (vi 1) rfl rfl ?_
 refine WL.nil (thn_n (WP.block ?_))
 refine WP.loopG (G := Nat) [8, 9, 10, 11, 16, 17, 18, 19, 20, 21, 22, 23, 24, 25, 26, 27, 28, 29, 30, 31, 32, 33, 34, 35, 36, 37, 38, 39, 40, 41, 42, 43, 44, 45, 46, 47, 48, 49, 50, 51, 52, 53] (fun q => [(8, (vn q))]) (fun q m w1 => HP w w1 [.blk b_16 .nw 152 [(16, (encN keys tb blk (q - 1)).map vu8)], .blk b_10 .nw 152 [(16, (zB 16).map vu8)], .blk b_7 .nw 175 [(256, tb.map vu8)], .blk b_4 .nw 152 [(16, blk.map vu8)], .blk b_1 .nw 177 [(176, keys.map vu8)]] ∧ (1 ≤ q) ∧ (q ≤ 11) ∧ m = 11 - q) ⟨1, _, ⟨rfl, trivial⟩, h_20, (by omega), (by omega), rfl⟩ ?_
 rintro q m_23 J_24 w_21 ⟨h_22, hq, hq2, rfl⟩
 refine WP.seq (WP.seq (WP.reg ?_))
 refine qM (vn q) rfl rfl (qV rfl (R.bin rfl rfl (bi_leq (r := decide ((((q : Nat) : Int) : Int) ≤ 10)) rfl)) ?_)
 refine WL.nil (thn_n ?_)
 refine WP.cond (b := decide ((((q : Nat) : Int) : Int) ≤ 10)) rfl (fun c_25 => ?_) (fun c_25 => ?_)
 ·have p_26 := of_decide_eq_true c_25
  refine WP.skip (thn_n (WP.seq (WP.block (WP.seq (WP.reg ?_)))))
  refine WL.alloc (segs := [(16, (zB 16).map vu8)]) h_22 (zv typeInfo152 rfl) rfl (sC (s8 lr) sN) rfl (fun b_27 w_28 h_29 => ?_)
  refine WL.nil (thn_n (WP.seq (WP.seq (WP.reg ?_))))
  refine qA (vi 0) rfl rfl ?_
  refine WL.nil (thn_n (WP.block ?_))
  refine WP.loopG (G := Nat) [10, 11, 20, 21, 22, 23, 24, 25, 26, 27, 28, 29, 30, 31, 32, 33, 34, 35, 36, 37, 38, 39, 40, 41, 42, 43] (fun c => [(10, (vn c))]) (fun c m w1 => HP w w1 [.blk b_27 .nw 152 [(16, (pre 16 (shb tb (encN keys tb blk (q - 1))) (4 * c)).map vu8)], .blk b_16 .nw 152 [(16, (encN keys tb blk (q - 1)).map vu8)], .blk b_10 .nw 152 [(16, (zB 16).map vu8)], .blk b_7 .nw 175 [(256, tb.map vu8)], .blk b_4 .nw 152 [(16, blk.map vu8)], .blk b_1 .nw 177 [(176, keys.map vu8)]] ∧ (c ≤ 4) ∧ m = 4 - c) ⟨0, _, ⟨rfl, trivial⟩, (by rw [Nat.mul_zero, pre_0]; exact h_29), (by omega), rfl⟩ ?_
  rintro c m_32 J_33 w_30 ⟨h_31, hc, rfl⟩
  refine WP.seq (WP.seq (WP.reg ?_))
  refine qM (vn c) rfl rfl (qV rfl (R.bin rfl rfl (bi_lss (r := decide ((((c : Nat) : Int) : Int) < 4)) rfl)) ?_)
  refine WL.nil (thn_n ?_)
  refine WP.cond (b := decide ((((c : Nat) : Int) : Int) < 4)) rfl (fun c_34 => ?_) (fun c_34 => ?_)
  ·have p_35 := of_decide_eq_true c_34
   refine WP.skip (thn_n (WP.seq (WP.block (WP.seq (WP.reg ?_)))))
   refine qA (vi 0) rfl rfl ?_
   refine WL.nil (thn_n (WP.block ?_))
   refine WP.loopG (G := Nat) [11, 24, 25, 26, 27, 28, 29, 30, 31, 32, 33, 34, 35, 36, 37, 38, 39, 40, 41, 42, 43] (fun r => [(11, (vn r))]) (fun r m w1 => HP w w1 [.blk b_27 .nw 152 [(16, (pre 16 (shb tb (encN keys tb blk (q - 1))) (4 * c + r)).map vu8)], .blk b_16 .nw 152 [(16, (encN keys tb blk (q - 1)).map vu8)], .blk b_10 .nw 152 [(16, (zB 16).map vu8)], .blk b_7 .nw 175 [(256, tb.map vu8)], .blk b_4 .nw 152 [(16, blk.map vu8)], .blk b_1 .nw 177 [(176, keys.map vu8)]] ∧ (r ≤ 4) ∧ m = 4 - r) ⟨0, _, ⟨rfl, trivial⟩, h_31, (by omega), rfl⟩ ?_
   rintro r m_38 J_39 w_36 ⟨h_37, hr, rfl⟩
   refine WP.seq (WP.seq (WP.reg ?_))
   refine qM (vn r) rfl rfl (qV rfl (R.bin rfl rfl (bi_lss (r := decide ((((r : Nat) : Int) : Int) < 4)) rfl)) ?_)
   refine WL.nil (thn_n ?_)
   refine WP.cond (b := decide ((((r : Nat) : Int) : Int) < 4)) rfl (fun c_40 => ?_) (fun c_40 => ?_)
   ·have p_41 := of_decide_eq_true c_40
    refine WP.skip (thn_n (WP.seq (WP.block (WP.reg ?_))))
    refine qM (vn c) rfl rfl (qV rfl (R.bin rfl rfl (bi_mul (c := ((4 * c : Nat) : Int)) (by omega) (by omega))) (qM (vn r) rfl rfl (qV rfl (R.bin rfl rfl (bi_add (c := ((4 * c + r : Nat) : Int)) (by omega) (by omega))) (qM (vn c) rfl rfl (qM (vn r) rfl rfl (qV rfl (R.bin rfl rfl (bi_add (c := ((c + r : Nat) : Int)) (by omega) (by omega))) (qV rfl (R.bin rfl rfl (bi_rem (c := (((c + r) % 4 : Nat) : Int)) (Int.natCast_nonneg _) (by omega) (by first | omega | rfl))) (qV rfl (R.bin rfl rfl (bi_mul (c := ((4 * ((c + r) % 4) : Nat) : Int)) (by omega) (by omega))) (qM (vn r) rfl rfl (qV rfl (R.bin rfl rfl (bi_add (c := ((4 * ((c + r) % 4) + r : Nat) : Int)) (by omega) (by omega))) (qV rfl (R.indexA (b := b_16) (off := 0) (off' := (0 + (4 * ((c + r) % 4) + r))) (i := 4 * ((c + r) % 4) + r) rfl rfl rfl (by omega) underlying152 sizeOf5 (by rw [Nat.mul_one])) ?_)))))))))))
    refine qV rfl (R.loadE (b := b_16) (off := (0 + (4 * ((c + r) % 4) + r))) (i := 4 * ((c + r) % 4) + r) (v := (vu8 ((encN keys tb blk (q - 1)).getD (4 * ((c + r) % 4) + r) 0))) rfl isAgg5 (h_37.ok _ M1) Sg.h rfl (get_u8 (lt_len (K := 16) (encN_len hks hbl (by omega)) (by omega)))) (qV rfl (R.indexA (b := b_7) (off := 0) (off' := (0 + (((encN keys tb blk (q - 1)).getD (4 * ((c + r) % 4) + r) 0).toNat))) (i := ((encN keys tb blk (q - 1)).getD (4 * ((c + r) % 4) + r) 0).toNat) rfl rfl rfl (UInt8.toNat_lt _) underlying175 sizeOf5 (by rw [Nat.mul_one])) (qV rfl (R.loadE (b := b_7) (off := (0 + (((encN keys tb blk (q - 1)).getD (4 * ((c + r) % 4) + r) 0).toNat))) (i := ((encN keys tb blk (q - 1)).getD (4 * ((c + r) % 4) + r) 0).toNat) (v := (vu8 (tb.getD (((encN keys tb blk (q - 1)).getD (4 * ((c + r) % 4) + r) 0).toNat) 0))) rfl isAgg5 (h_37.ok _ M3) Sg.h rfl (get_u8 (lt_len (K := 256) htb (UInt8.toNat_lt _)))) (qV rfl (R.indexA (b := b_27) (off := 0) (off' := (0 + (4 * c + r))) (i := 4 * c + r) rfl rfl rfl (by omega) underlying152 sizeOf5 (by rw [Nat.mul_one])) ?_)))
    refine WL.storeE (b := b_27) (off := (0 + (4 * c + r))) (i := 4 * c + r) (v := (vu8 (tb.getD (((encN keys tb blk (q - 1)).getD (4 * ((c + r) % 4) + r) 0).toNat) 0))) (cs' := ((pre 16 (shb tb (encN keys tb blk (q - 1))) (4 * c + r)).set (4 * c + r) (tb.getD (((encN keys tb blk (q - 1)).getD (4 * ((c + r) % 4) + r) 0).toNat) 0)).map vu8) h_37 rfl rfl sizeOf5 rfl At.h (by decide) Sg.h rfl (lt_len (K := 16) (len_map (pre_len (by omega))) (by omega)) (set_u8 _ _ _) (fun w_42 h_43 => ?_)
    refine WL.nil (inb_n (thn_n (WP.reg ?_)))
    refine qM (vn r) rfl rfl (qV rfl (R.bin rfl rfl (bi_add (c := ((r + 1 : Nat) : Int)) (by omega) (by omega))) (qA (vn (r + 1)) rfl rfl ?_))
    refine WL.nil (thn_n ?_)
    have es := pre_set (n := 16) (g := shb tb (encN keys tb blk (q - 1))) (i := 4 * c + r) (by omega) (shb_cr (tb := tb) (s := encN keys tb blk (q - 1)) (c := c) (r := r) (by omega) (by omega))
    rw [es] at h_43
    exact ⟨r + 1, _, (by omega), (Ag.upd rfl (U4 rfl rfl rfl rfl (U4 rfl rfl rfl rfl (U4 rfl rfl rfl rfl (U4 rfl rfl rfl rfl (U4 rfl rfl rfl rfl (Ag.updL rfl (Ag.mix _ _ _)))))))), ⟨rfl, trivial⟩, h_43, (by omega), rfl⟩
   ·have p_44 := of_decide_eq_false c_40
    refine WP.exit (thn_x (thn_x (inb_hit (inb_n (thn_n (WP.reg ?_))))))
    refine qM (vn c) rfl rfl (qV rfl (R.bin rfl rfl (bi_add (c := ((c + 1 : Nat) : Int)) (by omega) (by omega))) (qA (vn (c + 1)) rfl rfl ?_))
    refine WL.nil (thn_n ?_)
    have hr4 : r = 4 := by omega
    subst hr4
    rw [show 4 * c + 4 = 4 * (c + 1) by omega] at h_37
    exact ⟨c + 1, _, (by omega), (Ag.upd rfl (U4 rfl rfl rfl rfl (Ag.updL rfl (Ag.trans (Ag.sub rfl (Ag.mix _ _ _)) (Ag.upd rfl (Ag.upd rfl (Ag.upd rfl (Ag.updL rfl (Ag.mix _ _ _))))))))), ⟨rfl, trivial⟩, h_37, (by omega), rfl⟩
  ·have p_45 := of_decide_eq_false c_34
   refine WP.exit (thn_x (thn_x (inb_hit (thn_n (WP.seq (WP.seq (WP.reg ?_)))))))
   refine qM (vn q) rfl rfl (qV rfl (R.bin rfl rfl (bi_lss (r := decide ((((q : Nat) : Int) : Int) < 10)) rfl)) ?_)
   refine WL.nil (thn_n ?_)
   refine WP.cond (b := decide ((((q : Nat) : Int) : Int) < 10)) rfl (fun c_46 => ?_) (fun c_46 => ?_)
   ·have p_47 := of_decide_eq_true c_46
    refine WP.reg ?_
    refine qV rfl (R.loadA [] [(16, (pre 16 (shb tb (encN keys tb blk (q - 1))) (4 * c)).map vu8)] [] (cs := (pre 16 (shb tb (encN keys tb blk (q - 1))) (4 * c)).map vu8) rfl isAgg152 sizeOf152 (h_31.ok _ M0) rfl rfl rfl rfl) (qV rfl (R.buildA (vs := [(0, (vu8 2)), (1, (vu8 3)), (2, (vu8 1)), (3, (vu8 1))]) (cs := ([2, 3, 1, 1] : List UInt8).map vu8) underlying195 sizeOf5 (zv typeInfo195 rfl) rfl rfl) ?_)
    refine WL.call Tryz.call150 rfl rfl (c_mixR (pre 16 (shb tb (encN keys tb blk (q - 1))) (4 * c)) ([2, 3, 1, 1] : List UInt8) (pre_len (by omega)) (rfl : List.length ([2, 3, 1, 1] : List UInt8) = 4) _ ) rfl ?_
    rintro _ w_49 ⟨rfl, hc_48⟩
    have h_50 := h_31.same hc_48
    refine WL.storeA [] [(16, (pre 16 (shb tb (encN keys tb blk (q - 1))) (4 * c)).map vu8)] [(16, (mixL (pre 16 (shb tb (encN keys tb blk (q - 1))) (4 * c)) ([2, 3, 1, 1] : List UInt8)).map vu8)] [] h_50 rfl rfl sizeOf152 At.h (by decide) rfl rfl rfl rfl rfl rfl (sC (s8 (mixL_len ..)) sN) (fun w_51 h_52 => ?_)
    refine WL.nil (thn_n ?_)
    refine WP.drawZ 5 (SL w.heap.size [.blk b_27 .nw 152 [(16, (mixL (pre 16 (shb tb (encN keys tb blk (q - 1))) (4 * c)) ([2, 3, 1, 1] : List UInt8)).map vu8)], .blk b_16 .nw 152 [(16, (encN keys tb blk (q - 1)).map vu8)], .blk b_10 .nw 152 [(16, (zB 16).map vu8)], .blk b_7 .nw 175 [(256, tb.map vu8)], .blk b_4 .nw 152 [(16, blk.map vu8)], .blk b_1 .nw 177 [(176, keys.map vu8)]]) (.q 0 (.q 1 (.q 2 (.q 3 (.s 4 (.s 5 .nil)))))) (by kernel_rfl) (by kernel_rfl) rfl (by kernel_rfl) (fun w_53 hc_55 => (SL.cons ((h_52.same hc_55).ok _ M0) (SL.cons ((h_52.same hc_55).ok _ M1) (SL.cons ((h_52.same hc_55).ok _ M2) (SL.cons ((h_52.same hc_55).ok _ M3) (SL.cons ((h_52.same hc_55).ok _ M4) (SL.cons ((h_52.same hc_55).ok _ M5) (SL.nil _ _)))))))) (fun w_53 hc_55 => ?_)
    have h_54 := h_52.same hc_55
    refine ZT.q rfl (Wn.no rfl) rfl rfl (fun wq hS => R.loadA [] [(16, (mixL (pre 16 (shb tb (encN keys tb blk (q - 1))) (4 * c)) ([2, 3, 1, 1] : List UInt8)).map vu8)] [] (cs := (mixL (pre 16 (shb tb (encN keys tb blk (q - 1))) (4 * c)) ([2, 3, 1, 1] : List UInt8)).map vu8) rfl isAgg152 sizeOf152 (hS _ M0) rfl rfl rfl rfl) ?_
    refine ZT.q rfl (Wn.no rfl) rfl rfl (fun wq hS => R.move (v := (vn q)) rfl) ?_
    refine ZT.q rfl (Wn.no rfl) rfl rfl (fun wq hS => R.indexA (b := b_1) (off := 0) (off' := (0 + (q * 16))) (i := q) rfl rfl rfl (by omega) underlying177 sizeOf152 rfl) ?_
    refine ZT.q rfl (Wn.no rfl) rfl rfl (fun wq hS => R.loadEA (b := b_1) (off := (0 + (q * 16))) (i := q * 16) (xs := ((keys.drop (q * 16)).take 16).map vu8) rfl isAgg152 sizeOf152 (hS _ M5) Sg.h rfl (by rw [List.map_take, List.map_drop]) (len_map (subLen (K := 176) hks (by omega) : List.length ((keys.drop (q * 16)).take 16) = 16))) ?_
    refine ZT.s ?_
    refine OpZ.one rfl (Wn.no rfl) ?_
    refine WL.call Tryz.call149 rfl rfl (c_xorR (mixL (pre 16 (shb tb (encN keys tb blk (q - 1))) (4 * c)) ([2, 3, 1, 1] : List UInt8)) ((keys.drop (q * 16)).take 16) (mixL_len ..) (subLen (K := 176) hks (by omega) : List.length ((keys.drop (q * 16)).take 16) = 16) _ ) rfl ?_
    rintro _ w_57 ⟨rfl, hc_56⟩
    have h_58 := h_54.same hc_56
    refine WL.nil ?_
    refine ⟨(N0_1_2_3_4_5 h_58.ok), ?_⟩
    refine ZT.s ?_
    refine OpZ.last rfl (Wn.no rfl) ?_
    refine WL.storeA [] [(16, (encN keys tb blk (q - 1)).map vu8)] [(16, (xorL (mixL (pre 16 (shb tb (encN keys tb blk (q - 1))) (4 * c)) ([2, 3, 1, 1] : List UInt8)) ((keys.drop (q * 16)).take 16)).map vu8)] [] h_58 rfl rfl sizeOf152 Y1 (by decide) rfl rfl rfl rfl rfl rfl (sC (s8 (xorL_len (mixL_len ..) (subLen (K := 176) hks (by omega) : List.length ((keys.drop (q * 16)).take 16) = 16))) sN) (fun w_59 h_60 => ?_)
    refine WL.nil (ZT.nil (inb_n (thn_n (WP.reg ?_))))
    refine qM (vn q) rfl rfl (qV rfl (R.bin rfl rfl (bi_add (c := ((q + 1 : Nat) : Int)) (by omega) (by omega))) (qA (vn (q + 1)) rfl rfl ?_))
    refine WL.nil (thn_n ?_)
    have hc4 : c = 4 := by omega
    subst hc4
    have h_61 := h_60.drop rfl
    obtain ⟨p, rfl⟩ : ∃ p, q = p + 1 := ⟨q - 1, by omega⟩
    have es : xorL (mixL (pre 16 (shb tb (encN keys tb blk ((p + 1) - 1))) (4 * 4)) ([2, 3, 1, 1] : List UInt8)) ((keys.drop ((p + 1) * 16)).take 16) = encN keys tb blk (p + 1) := by rw [Nat.add_sub_cancel, show 4 * 4 = 16 from rfl, pre_all, encN, if_pos (by omega)]; rfl
    rw [es] at h_61
    exact ⟨p + 1 + 1, _, (by omega), (Ag.upd rfl (U2 rfl rfl (U4 rfl rfl rfl rfl (U4 rfl rfl rfl rfl (U4 rfl rfl rfl rfl (Ag.updL rfl (Ag.trans (Ag.sub rfl (Ag.mix _ _ _)) (Ag.upd rfl (Ag.upd rfl (Ag.upd rfl (Ag.upd rfl (Ag.updL rfl (Ag.mix _ _ _))))))))))))), ⟨rfl, trivial⟩, h_61, (by omega), (by omega), rfl⟩
   ·have p_62 := of_decide_eq_false c_46
    refine WP.skip (thn_n ?_)
    refine WP.drawZ 5 (SL w.heap.size [.blk b_27 .nw 152 [(16, (pre 16 (shb tb (encN keys tb blk (q - 1))) (4 * c)).map vu8)], .blk b_16 .nw 152 [(16, (encN keys tb blk (q - 1)).map vu8)], .blk b_10 .nw 152 [(16, (zB 16).map vu8)], .blk b_7 .nw 175 [(256, tb.map vu8)], .blk b_4 .nw 152 [(16, blk.map vu8)], .blk b_1 .nw 177 [(176, keys.map vu8)]]) (.q 0 (.q 1 (.q 2 (.q 3 (.s 4 (.s 5 .nil)))))) (by kernel_rfl) (by kernel_rfl) rfl (by kernel_rfl) (fun w_63 hc_65 => (SL.cons ((h_31.same hc_65).ok _ M0) (SL.cons ((h_31.same hc_65).ok _ M1) (SL.cons ((h_31.same hc_65).ok _ M2) (SL.cons ((h_31.same hc_65).ok _ M3) (SL.cons ((h_31.same hc_65).ok _ M4) (SL.cons ((h_31.same hc_65).ok _ M5) (SL.nil _ _)))))))) (fun w_63 hc_65 => ?_)
    have h_64 := h_31.same hc_65
    refine ZT.q rfl (Wn.no rfl) rfl rfl (fun wq hS => R.loadA [] [(16, (pre 16 (shb tb (encN keys tb blk (q - 1))) (4 * c)).map vu8)] [] (cs := (pre 16 (shb tb (encN keys tb blk (q - 1))) (4 * c)).map vu8) rfl isAgg152 sizeOf152 (hS _ M0) rfl rfl rfl rfl) ?_
    refine ZT.q rfl (Wn.no rfl) rfl rfl (fun wq hS => R.move (v := (vn q)) rfl) ?_
    refine ZT.q rfl (Wn.no rfl) rfl rfl (fun wq hS => R.indexA (b := b_1) (off := 0) (off' := (0 + (q * 16))) (i := q) rfl rfl rfl (by omega) underlying177 sizeOf152 rfl) ?_
    refine ZT.q rfl (Wn.no rfl) rfl rfl (fun wq hS => R.loadEA (b := b_1) (off := (0 + (q * 16))) (i := q * 16) (xs := ((keys.drop (q * 16)).take 16).map vu8) rfl isAgg152 sizeOf152 (hS _ M5) Sg.h rfl (by rw [List.map_take, List.map_drop]) (len_map (subLen (K := 176) hks (by omega) : List.length ((keys.drop (q * 16)).take 16) = 16))) ?_
    refine ZT.s ?_
    refine OpZ.one rfl (Wn.no rfl) ?_
    refine WL.call Tryz.call149 rfl rfl (c_xorR (pre 16 (shb tb (encN keys tb blk (q - 1))) (4 * c)) ((keys.drop (q * 16)).take 16) (pre_len (by omega)) (subLen (K := 176) hks (by omega) : List.length ((keys.drop (q * 16)).take 16) = 16) _ ) rfl ?_
    rintro _ w_67 ⟨rfl, hc_66⟩
    have h_68 := h_64.same hc_66
    refine WL.nil ?_
    refine ⟨(N0_1_2_3_4_5 h_68.ok), ?_⟩
    refine ZT.s ?_
    refine OpZ.last rfl (Wn.no rfl) ?_
    refine WL.storeA [] [(16, (encN keys tb blk (q - 1)).map vu8)] [(16, (xorL (pre 16 (shb tb (encN keys tb blk (q - 1))) (4 * c)) ((keys.drop (q * 16)).take 16)).map vu8)] [] h_68 rfl rfl sizeOf152 Y1 (by decide) rfl rfl rfl rfl rfl rfl (sC (s8 (xorL_len (pre_len (by omega)) (subLen (K := 176) hks (by omega) : List.length ((keys.drop (q * 16)).take 16) = 16))) sN) (fun w_69 h_70 => ?_)
    refine WL.nil (ZT.nil (inb_n (thn_n (WP.reg ?_))))
    refine qM (vn q) rfl rfl (qV rfl (R.bin rfl rfl (bi_add (c := ((q + 1 : Nat) : Int)) (by omega) (by omega))) (qA (vn (q + 1)) rfl rfl ?_))
    refine WL.nil (thn_n ?_)
    have hc4 : c = 4 := by omega
    subst hc4
    have h_71 := h_70.drop rfl
    obtain ⟨p, rfl⟩ : ∃ p, q = p + 1 := ⟨q - 1, by omega⟩
    have es : xorL (pre 16 (shb tb (encN keys tb blk ((p + 1) - 1))) (4 * 4)) ((keys.drop ((p + 1) * 16)).take 16) = encN keys tb blk (p + 1) := by rw [Nat.add_sub_cancel, show 4 * 4 = 16 from rfl, pre_all, encN, if_neg (by omega)]; rfl
    rw [es] at h_71
    exact ⟨p + 1 + 1, _, (by omega), (U4 rfl rfl rfl rfl (U4 rfl rfl rfl rfl (U4 rfl rfl rfl rfl (Ag.updL rfl (Ag.trans (Ag.sub rfl (Ag.mix _ _ _)) (Ag.upd rfl (Ag.upd rfl (Ag.upd rfl (Ag.upd rfl (Ag.updL rfl (Ag.mix _ _ _))))))))))), ⟨rfl, trivial⟩, h_71, (by omega), (by omega), rfl⟩
 ·have p_72 := of_decide_eq_false c_25
  refine WP.exit (thn_x (thn_x (inb_hit (thn_n (WP.seq (WP.reg ?_))))))
  refine qV rfl (R.loadA [] [(16, (encN keys tb blk (q - 1)).map vu8)] [] (cs := (encN keys tb blk (q - 1)).map vu8) rfl isAgg152 sizeOf152 (h_22.ok _ M0) rfl rfl rfl rfl) ?_
  refine WL.storeA [] [(16, (zB 16).map vu8)] [(16, (encN keys tb blk (q - 1)).map vu8)] [] h_22 rfl rfl sizeOf152 Y1 (by decide) rfl rfl rfl rfl rfl rfl (sC (s8 (encN_len hks hbl (by omega))) sN) (fun w_73 h_74 => ?_)
  refine WL.nil (thn_n (WP.ret ?_))
  refine ret_of results128 (RV.cell rfl (h_74.loadA (cs := (encN keys tb blk (q - 1)).map vu8) isAgg152 sizeOf152 M1 rfl rfl) RV.nil) ?_
  have hq11 : q = 11 := by omega
  subst hq11
  exact ⟨rfl, h_74.chgS⟩
end Go.Proofs.YteclkcpdclimnaaGreat

namespace Go.Proofs.YteclkcpdclimnaaGreat
open Go.Proofs.Tryz
open Go.Vc Go.Orc Go.Sh Go.RowKit
set_option maxRecDepth 20000

open Go.Ax
theorem blk_in {nonce : List UInt8} {i : Nat} (h : nonce.length = 8) (hi : i < 18446744073709551616) : ([nonce.getD 0 0, nonce.getD 1 0, nonce.getD 2 0, nonce.getD 3 0, nonce.getD 4 0, nonce.getD 5 0, nonce.getD 6 0, nonce.getD 7 0, UInt8.ofNat (shr64 (UInt64.ofNat i) 56).toNat, UInt8.ofNat (shr64 (UInt64.ofNat i) 48).toNat, UInt8.ofNat (shr64 (UInt64.ofNat i) 40).toNat, UInt8.ofNat (shr64 (UInt64.ofNat i) 32).toNat, UInt8.ofNat (shr64 (UInt64.ofNat i) 24).toNat, UInt8.ofNat (shr64 (UInt64.ofNat i) 16).toNat, UInt8.ofNat (shr64 (UInt64.ofNat i) 8).toNat, UInt8.ofNat (shr64 (UInt64.ofNat i) 0).toNat] : List UInt8) = nonce ++ (leN 8 i).reverse := by
 rw [← num_rev hi]
 conv => rhs; rw [← eight8 h]
 rfl
def blN (nonce : List UInt8) (i : Nat) : Nat → List UInt8
 | 0 => List.replicate 16 0
 | k + 1 => ((blN nonce i k).set k (nonce.getD k 0)).set (8 + k) (UInt8.ofNat (shr64 (UInt64.ofNat i) (UInt64.ofNat (56 - 8 * k)).toNat).toNat)
theorem blN_len {nonce : List UInt8} {i : Nat} : ∀ k, (blN nonce i k).length = 16
 | 0 => rfl
 | k + 1 => by rw [blN, List.length_set, List.length_set, blN_len k]
theorem blN_8 {nonce : List UInt8} {i : Nat} (h : nonce.length = 8) (hi : i < 18446744073709551616) : blN nonce i 8 = nonce ++ (leN 8 i).reverse := by
 rw [← blk_in h hi]
 generalize hg : (fun k => nonce.getD k 0) = g
 generalize hf : (fun k => UInt8.ofNat (shr64 (UInt64.ofNat i) k).toNat) = f
 have e1 : ∀ k, nonce.getD k 0 = g k := fun k => congrFun hg k
 have e2 : ∀ k, UInt8.ofNat (shr64 (UInt64.ofNat i) k).toNat = f k := fun k => congrFun hf k
 simp only [blN, e1, e2]
 rfl
theorem c_StreamR (key nonce : List UInt8) (hkey : key.length = 16) (hno : nonce.length = 8) (n : Nat) (h2 : n ≤ 1048576) (w : World) :
  Cs Tryz.prog 105 [(.agg ⟨key.map vu8⟩), (.agg ⟨nonce.map vu8⟩), (vi ((n : Nat) : Int))].toArray w (fun v w1 => ∃ a cap, v = .slice a n cap ∧ Chg w w1 [] ∧ Own w.heap.size w1 5 1 a n cap ((strL key nonce n).map vu8)) := by
 refine Cs.of (n := 53) (args := [(.agg ⟨key.map vu8⟩), (.agg ⟨nonce.map vu8⟩), (vn n)]) Tryz.func105 rfl rfl rfl ?_
 have h_0 := HP.init w
 refine WP.seq (WP.reg ?_)
 refine WL.box (segs := [(16, key.map vu8)]) h_0 rfl rfl (sC (s8 hkey) sN) rfl (fun b_1 w_2 h_3 => ?_)
 refine WL.box (segs := [(8, nonce.map vu8)]) h_3 rfl rfl (sC (s8 hno) sN) rfl (fun b_4 w_5 h_6 => ?_)
 refine qA (.slice none 0 0) rfl rfl ?_
 refine WL.nil (thn_n (WP.seq (WP.reg ?_)))
 refine WL.call Tryz.call126 rfl rfl (c_TableR  _ ) rfl ?_
 rintro _ w_8 ⟨rfl, hc_7⟩
 have h_9 := h_6.same hc_7
 refine WL.alloc (segs := [(256, (zB 256).map vu8)]) h_9 (zv typeInfo175 rfl) rfl (sC (s8 lr) sN) rfl (fun b_10 w_11 h_12 => ?_)
 refine WL.storeA [] [(256, (zB 256).map vu8)] [(256, (tabL sub).map vu8)] [] h_12 rfl rfl sizeOf175 At.h (by decide) rfl rfl rfl rfl rfl rfl (sC (s8 (tabL_len sub)) sN) (fun w_13 h_14 => ?_)
 refine WL.nil (thn_n (WP.seq (WP.reg ?_)))
 refine qV rfl (R.loadA [] [(16, key.map vu8)] [] (cs := key.map vu8) rfl isAgg152 sizeOf152 (h_14.ok _ M2) rfl rfl rfl rfl) (qV rfl (R.loadA [] [(256, (tabL sub).map vu8)] [] (cs := (tabL sub).map vu8) rfl isAgg175 sizeOf175 (h_14.ok _ M0) rfl rfl rfl rfl) ?_)
 refine WL.call Tryz.call127 rfl rfl (c_ExpandR (tabL sub) key (tabL_len sub) hkey _ ) rfl ?_
 rintro _ w_16 ⟨rfl, hc_15⟩
 have h_17 := h_14.same hc_15
 refine WL.alloc (segs := [(176, (zB 176).map vu8)]) h_17 (zv typeInfo177 rfl) rfl (sC (s8 lr) sN) rfl (fun b_18 w_19 h_20 => ?_)
 refine WL.storeA [] [(176, (zB 176).map vu8)] [(176, (keysL (tabL sub) key).map vu8)] [] h_20 rfl rfl sizeOf177 At.h (by decide) rfl rfl rfl rfl rfl rfl (sC (s8 (keysL_len ..)) sN) (fun w_21 h_22 => ?_)
 refine WL.nil (thn_n (WP.seq (WP.reg ?_)))
 refine qA (.slice none 0 0) rfl rfl ?_
 refine WL.nil (thn_n (WP.seq (WP.seq (WP.reg ?_))))
 refine qA (vi 0) rfl rfl ?_
 refine WL.nil (thn_n (WP.block ?_))
 have h_23 := h_22.rowNil 5 1
 refine WP.loopG (G := Nat × Option Addr × Nat) [9, 10, 11, 12, 17, 18, 19, 20, 21, 22, 23, 24, 25, 26, 27, 28, 29, 30, 31, 32, 33, 34, 35, 36, 37, 38, 39, 40, 41, 42, 43, 44, 45, 46, 47, 48, 49] (fun (i, ra, rc) => [(9, (.slice ra (16 * i) rc)), (10, (vn i))]) (fun (i, ra, rc) m w1 => HP w w1 [.row ra (16 * i) rc 5 1 ((strN key nonce i).map vu8), .blk b_18 .nw 177 [(176, (keysL (tabL sub) key).map vu8)], .blk b_10 .nw 175 [(256, (tabL sub).map vu8)], .blk b_4 .nw 153 [(8, nonce.map vu8)], .blk b_1 .nw 152 [(16, key.map vu8)]] ∧ (16 * i ≤ n + 15) ∧ m = n + 16 - 16 * i) ⟨(0, none, 0), _, ⟨rfl, rfl, trivial⟩, h_23, (by omega), rfl⟩ ?_
 rintro ⟨i, ra, rc⟩ m_26 J_27 w_24 ⟨h_25, hi, rfl⟩
 refine WP.seq (WP.seq (WP.reg ?_))
 refine qM (.slice ra (16 * i) rc) rfl rfl (qV rfl (R.lenS (a := ra) (m := 16 * i) rfl rfl underlying88) (qM (vn n) rfl rfl (qV rfl (R.bin rfl rfl (bi_lss (r := decide ((((16 * i : Nat) : Int) : Int) < ((n : Nat) : Int))) rfl)) ?_)))
 refine WL.nil (thn_n ?_)
 refine WP.cond (b := decide ((((16 * i : Nat) : Int) : Int) < ((n : Nat) : Int))) rfl (fun c_28 => ?_) (fun c_28 => ?_)
 ·have p_29 := of_decide_eq_true c_28
  refine WP.skip (thn_n (WP.seq (WP.block (WP.seq (WP.reg ?_)))))
  refine WL.alloc (segs := [(16, (zB 16).map vu8)]) h_25 (zv typeInfo152 rfl) rfl (sC (s8 lr) sN) rfl (fun b_30 w_31 h_32 => ?_)
  refine WL.nil (thn_n (WP.seq (WP.seq (WP.reg ?_))))
  refine qA (vi 0) rfl rfl ?_
  refine WL.nil (thn_n (WP.block ?_))
  refine WP.loopG (G := Nat) [12, 23, 24, 25, 26, 27, 28, 29, 30, 31, 32, 33, 34, 35, 36, 37, 38, 39, 40, 41, 42] (fun k => [(12, (vn k))]) (fun k m w1 => HP w w1 [.blk b_30 .nw 152 [(16, (blN nonce i k).map vu8)], .row ra (16 * i) rc 5 1 ((strN key nonce i).map vu8), .blk b_18 .nw 177 [(176, (keysL (tabL sub) key).map vu8)], .blk b_10 .nw 175 [(256, (tabL sub).map vu8)], .blk b_4 .nw 153 [(8, nonce.map vu8)], .blk b_1 .nw 152 [(16, key.map vu8)]] ∧ (k ≤ 8) ∧ m = 8 - k) ⟨0, _, ⟨rfl, trivial⟩, h_32, Nat.zero_le _, rfl⟩ ?_
  rintro k m_35 J_36 w_33 ⟨h_34, hk, rfl⟩
  refine WP.seq (WP.seq (WP.reg ?_))
  refine qM (vn k) rfl rfl (qV rfl (R.bin rfl rfl (bi_lss (r := decide ((((k : Nat) : Int) : Int) < 8)) rfl)) ?_)
  refine WL.nil (thn_n ?_)
  refine WP.cond (b := decide ((((k : Nat) : Int) : Int) < 8)) rfl (fun c_37 => ?_) (fun c_37 => ?_)
  ·have p_38 := of_decide_eq_true c_37
   refine WP.skip (thn_n (WP.seq (WP.block (WP.seq (WP.reg ?_)))))
   refine qM (vn k) rfl rfl (qM (vn k) rfl rfl (qV rfl (R.indexA (b := b_4) (off := 0) (off' := (0 + k)) (i := k) rfl rfl rfl (by omega) underlying153 sizeOf5 (by rw [Nat.mul_one])) (qV rfl (R.loadE (b := b_4) (off := (0 + k)) (i := k) (v := (vu8 (nonce.getD k 0))) rfl isAgg5 (h_34.ok _ M4) Sg.h rfl (get_u8 (lt_len (K := 8) hno (by omega)))) (qV rfl (R.indexA (b := b_30) (off := 0) (off' := (0 + k)) (i := k) rfl rfl rfl (by omega) underlying152 sizeOf5 (by rw [Nat.mul_one])) ?_))))
   refine WL.storeE (b := b_30) (off := (0 + k)) (i := k) (v := (vu8 (nonce.getD k 0))) (cs' := ((blN nonce i k).set k (nonce.getD k 0)).map vu8) h_34 rfl rfl sizeOf5 rfl At.h (by decide) Sg.h rfl (lt_len (K := 16) (len_map (blN_len k)) (by omega)) (set_u8 _ _ _) (fun w_39 h_40 => ?_)
   refine WL.nil (thn_n (WP.reg ?_))
   refine qM (vn k) rfl rfl (qV rfl (R.bin rfl rfl (bi_add (c := ((8 + k : Nat) : Int)) (by omega) (by omega))) (qM (vn i) rfl rfl (qV rfl (R.conv (b := ((UInt64.ofNat i) : UInt64).toNat) rfl underlying3 underlying27 (w64_nat i)) (qM (vn k) rfl rfl (qV rfl (R.bin rfl rfl (bi_mul (c := ((8 * k : Nat) : Int)) (by omega) (by omega))) (qV rfl (R.bin rfl rfl (bi_sub (c := ((56 - (8 * k) : Nat) : Int)) (by omega) (by omega))) (qV rfl (R.conv (b := ((UInt64.ofNat (56 - (8 * k))) : UInt64).toNat) rfl underlying3 underlying168 (w64_nat (56 - (8 * k)))) (qV rfl (R.binR (v := vu64 (shr64 (UInt64.ofNat i) ((UInt64.ofNat (56 - (8 * k))).toNat))) rfl rfl (run_shr64 _ _ _ (UInt64.ofNat i) _ ((UInt64.ofNat (56 - (8 * k))).toNat))) (qV rfl (R.conv (b := ((UInt8.ofNat ((shr64 (UInt64.ofNat i) ((UInt64.ofNat (56 - (8 * k))).toNat)).toNat)) : UInt8).toNat) rfl underlying27 underlying5 (w8_nat ((shr64 (UInt64.ofNat i) ((UInt64.ofNat (56 - (8 * k))).toNat)).toNat))) (qV rfl (R.indexA (b := b_30) (off := 0) (off' := (0 + (8 + k))) (i := 8 + k) rfl rfl rfl (by omega) underlying152 sizeOf5 (by rw [Nat.mul_one])) ?_))))))))))
   refine WL.storeE (b := b_30) (off := (0 + (8 + k))) (i := 8 + k) (v := (vu8 (UInt8.ofNat ((shr64 (UInt64.ofNat i) ((UInt64.ofNat (56 - (8 * k))).toNat)).toNat)))) (cs' := (((blN nonce i k).set k (nonce.getD k 0)).set (8 + k) (UInt8.ofNat ((shr64 (UInt64.ofNat i) ((UInt64.ofNat (56 - (8 * k))).toNat)).toNat))).map vu8) h_40 rfl rfl sizeOf5 rfl At.h (by decide) Sg.h rfl (lt_len (K := 16) (len_map (len_set (blN_len k) _ _)) (by omega)) (set_u8 _ _ _) (fun w_41 h_42 => ?_)
   refine WL.nil (inb_n (thn_n (WP.reg ?_)))
   refine qM (vn k) rfl rfl (qV rfl (R.bin rfl rfl (bi_add (c := ((k + 1 : Nat) : Int)) (by omega) (by omega))) (qA (vn (k + 1)) rfl rfl ?_))
   refine WL.nil (thn_n ?_)
   have h_48 := (((((h_42.up J5).up J5).up J5).up J5).up J5).up J5
   exact ⟨k + 1, _, (by omega), (Ag.upd rfl (U4 rfl rfl rfl rfl (U4 rfl rfl rfl rfl (U4 rfl rfl rfl rfl (U4 rfl rfl rfl rfl (U4 rfl rfl rfl rfl (Ag.updL rfl (Ag.mix _ _ _)))))))), ⟨rfl, trivial⟩, h_48, (by omega), rfl⟩
  ·have p_49 := of_decide_eq_false c_37
   refine WP.exit (thn_x (thn_x (inb_hit (thn_n (WP.seq ?_)))))
   have hk8 : k = 8 := by omega
   subst hk8
   rw [blN_8 hno (by omega)] at h_34
   refine WP.reg ?_
   refine qV rfl (R.loadA [] [(176, (keysL (tabL sub) key).map vu8)] [] (cs := (keysL (tabL sub) key).map vu8) rfl isAgg177 sizeOf177 (h_34.ok _ M2) rfl rfl rfl rfl) (qV rfl (R.loadA [] [(16, (nonce ++ (leN 8 i).reverse).map vu8)] [] (cs := (nonce ++ (leN 8 i).reverse).map vu8) rfl isAgg152 sizeOf152 (h_34.ok _ M0) rfl rfl rfl rfl) (qV rfl (R.loadA [] [(256, (tabL sub).map vu8)] [] (cs := (tabL sub).map vu8) rfl isAgg175 sizeOf175 (h_34.ok _ M3) rfl rfl rfl rfl) ?_))
   refine WL.call Tryz.call128 rfl rfl (c_EncipherR (keysL (tabL sub) key) (tabL sub) (nonce ++ (leN 8 i).reverse) (keysL_len ..) (tabL_len sub) (in_len hno) _ ) rfl ?_
   rintro _ w_52 ⟨rfl, hc_51⟩
   have h_53 := h_34.same hc_51
   refine WL.storeA [] [(16, (nonce ++ (leN 8 i).reverse).map vu8)] [(16, (encN (keysL (tabL sub) key) (tabL sub) (nonce ++ (leN 8 i).reverse) 10).map vu8)] [] h_53 rfl rfl sizeOf152 At.h (by decide) rfl rfl rfl rfl rfl rfl (sC (s8 (encN_len (keysL_len ..) (in_len hno) (by omega))) sN) (fun w_54 h_55 => ?_)
   refine WL.nil (thn_n (WP.reg ?_))
   refine qM (.slice ra (16 * i) rc) rfl rfl (qV rfl (R.sliceA (b := b_30) (off := 0) (off' := 0) (l := 0) (h := 16) rfl EvB.dflt EvB.dflt (by decide) (by decide) underlying152 sizeOf5 rfl) ?_)
   refine WL.append (km := 16 * i + 16) (xs := (strN key nonce i).map vu8) (ys := (encN (keysL (tabL sub) key) (tabL sub) (nonce ++ (leN 8 i).reverse) 10).map vu8) (zs := ((strN key nonce i) ++ (encN (keysL (tabL sub) key) (tabL sub) (nonce ++ (leN 8 i).reverse) 10)).map vu8) h_55 rfl rfl el88 (viewB (h_55.ok _ M0) Sg.h) ((len_map (encN_len (keysL_len ..) (in_len hno) (by omega))).trans (Nat.mul_one _).symm) (one_u8 _) (by simp only [List.map_append, List.map_nil]) (by omega) (by omega) (by omega) (fun _ _ => Y1) rfl (fun a_56 c_57 w_58 h_59 => ?_)
   refine qA (.slice a_56 (16 * i + 16) c_57) rfl rfl ?_
   refine WL.nil (inb_n (thn_n (WP.reg ?_)))
   refine qM (vn i) rfl rfl (qV rfl (R.bin rfl rfl (bi_add (c := ((i + 1 : Nat) : Int)) (by omega) (by omega))) (qA (vn (i + 1)) rfl rfl ?_))
   refine WL.nil (thn_n ?_)
   have h_65 := (((((h_59.drop rfl).up J4).up J4).up J4).up J4).up J4
   have es : (strN key nonce i) ++ (encN (keysL (tabL sub) key) (tabL sub) (nonce ++ (leN 8 i).reverse) 10) = strN key nonce (i + 1) := rfl
   rw [es] at h_65
   exact ⟨(i + 1, a_56, c_57), _, (by omega), (Ag.upd rfl (U4 rfl rfl rfl rfl (U4 rfl rfl rfl rfl (U4 rfl rfl rfl rfl (Ag.updL rfl (Ag.trans (Ag.sub rfl (Ag.mix _ _ _)) (Ag.upd rfl (Ag.upd rfl (Ag.upd rfl (Ag.upd rfl (Ag.upd rfl (Ag.upd rfl (Ag.updL rfl (Ag.mix _ _ _)))))))))))))), ⟨rfl, rfl, trivial⟩, h_65, (by omega), rfl⟩
 ·have p_66 := of_decide_eq_false c_28
  refine WP.exit (thn_x (thn_x (inb_hit (thn_n (WP.seq (WP.reg ?_))))))
  refine qM (.slice ra (16 * i) rc) rfl rfl (qM (vn n) rfl rfl (qV rfl (R.sliceR0 (h := n) rfl EvB.dflt (EvB.it (l := n) rfl rfl) (Nat.le_trans (by omega) (h_25.own M0).2.2.1) underlying88 sizeOf5 (h_25.ok _ M0)) ?_))
  have h_67 := HP.rowCut (k := n) h_25 At.h (by omega)
  rw [show ((strN key nonce i).map vu8).take (n * 1) = ((strN key nonce i).take n).map vu8 from by rw [Nat.mul_one, ← List.map_take]] at h_67
  refine qA (.slice ra n rc) rfl rfl ?_
  refine WL.nil (thn_n (WP.ret ?_))
  refine ret_of results105 (RV.tmp (v := (.slice ra n rc)) rfl RV.nil) ?_
  rw [strL_of hno (by omega)] at h_67
  exact ⟨_, _, rfl, h_67.chgS, h_67.ok _ M0⟩
end Go.Proofs.YteclkcpdclimnaaGreat
