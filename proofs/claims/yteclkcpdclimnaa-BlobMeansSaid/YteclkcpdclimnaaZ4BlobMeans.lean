/- Rules for walks and contracts of the functions that the law reaches, one behind the other. Conditions: none beyond what each theorem states. -/
import Derived.Test.YteclkcpdclimnaaZ3BlobMeans
set_option linter.unusedVariables false
set_option linter.unusedSimpArgs false
set_option linter.unusedSectionVars false
namespace Go.Proofs.Yteclkcpdclimnaa
open Go.Proofs.Try
open Go.Vc Go.Orc Go.Sh Go.RowKit
set_option maxRecDepth 20000
theorem pl148 : ∀ fs, Try.prog.underlying 148 = some (.struct fs) → Places Try.prog fs [(0, 176), (176, 256)] := by
 intro fs h w; rw [underlying148] at h; cases h; simp
open Go.Ax
theorem c_double (a : UInt8) (w : World) :
  Cs Try.prog 99 [(vu8 a)].toArray w (fun v w1 => v = (vu8 (dbl a)) ∧ Chg w w1 []) := by
 refine Cs.of (n := 9) (args := [(vu8 a)]) Try.func99 rfl rfl rfl ?_
 have h_0 := HP.init w
 refine WP.seq (WP.reg ?_)
 refine qA (vu8 0) rfl rfl ?_
 refine WL.nil (thn_n (WP.seq (WP.reg ?_)))
 refine qM (vu8 a) rfl rfl (qV rfl (R.binR (v := vu8 (shl8 a 1)) rfl rfl (run_shl8 _ _ _ a _ 1)) (qM (vu8 a) rfl rfl (qV rfl (R.binR (v := vu8 (shr8 a 7)) rfl rfl (run_shr8 _ _ _ a _ 7)) (qV rfl (R.bin rfl rfl (b8_mul (shr8 a 7) 27)) (qV rfl (R.bin rfl rfl (b8_xor (shl8 a 1) ((shr8 a 7) * 27))) (qA (vu8 ((shl8 a 1) ^^^ ((shr8 a 7) * 27))) rfl rfl ?_))))))
 refine WL.nil (thn_n (WP.ret ?_))
 refine ret_of results99 (RV.tmp (v := (vu8 ((shl8 a 1) ^^^ ((shr8 a 7) * 27)))) rfl RV.nil) ?_
 exact ⟨rfl, h_0.chgS⟩

theorem c_Times (a b : UInt8) (w : World) :
  Cs Try.prog 101 [(vu8 a), (vu8 b)].toArray w (fun v w1 => v = (vu8 (tm a b)) ∧ Chg w w1 []) := by
 refine Cs.of (n := 20) (args := [(vu8 a), (vu8 b)]) Try.func101 rfl rfl rfl ?_
 have h_0 := HP.init w
 refine WP.seq (WP.reg ?_)
 refine qA (vu8 0) rfl rfl ?_
 refine WL.nil (thn_n (WP.seq (WP.reg ?_)))
 refine qA (vu8 0) rfl rfl ?_
 refine WL.nil (thn_n (WP.seq (WP.seq (WP.reg ?_))))
 refine qM (vi 0) rfl rfl ?_
 refine WL.nil (thn_n (WP.block ?_))
 refine WP.loopU (WI.round ?_)
 refine WP.seq (WP.reg ?_)
 refine qV rfl (R.bin rfl rfl (bi_lss (r := true) (by decide))) ?_
 refine WL.nil (thn_n (WP.seq ?_))
 refine WP.condT rfl ?_
 refine WP.skip (thn_n (WP.seq (WP.block (WP.seq (WP.reg ?_)))))
 refine qM (vu8 0) rfl rfl (qM (vu8 b) rfl rfl (qV rfl (R.bin rfl rfl (b8_and b 1)) (qM (vu8 a) rfl rfl (qV rfl (R.bin rfl rfl (b8_mul (b &&& 1) a)) (qV rfl (R.bin rfl rfl (b8_xor 0 ((b &&& 1) * a))) (qA (vu8 ((0 : UInt8) ^^^ ((b &&& 1) * a))) rfl rfl ?_))))))
 refine WL.nil (thn_n (WP.reg ?_))
 refine qM (vu8 a) rfl rfl ?_
 refine WL.call Try.call99 rfl rfl (c_double a _ ) rfl ?_
 rintro _ w_2 ⟨rfl, hc_1⟩
 have h_3 := h_0.same hc_1
 refine qM (vu8 b) rfl rfl (qV rfl (R.binR (v := vu8 (shr8 b 1)) rfl rfl (run_shr8 _ _ _ b _ 1)) (qA (vu8 (dbl a)) rfl rfl (qA (vu8 (shr8 b 1)) rfl rfl ?_)))
 refine WL.nil (inb_n (thn_n (WP.reg ?_)))
 refine qV rfl (R.bin rfl rfl (bi_add (c := 1) (by omega) (by omega))) (qM (vi 1) rfl rfl ?_)
 refine WL.nil (thn_n ?_)
 refine WI.round ?_
 refine WP.seq (WP.reg ?_)
 refine qV rfl (R.bin rfl rfl (bi_lss (r := true) (by decide))) ?_
 refine WL.nil (thn_n (WP.seq ?_))
 refine WP.condT rfl ?_
 refine WP.skip (thn_n (WP.seq (WP.block (WP.seq (WP.reg ?_)))))
 refine qM (vu8 ((0 : UInt8) ^^^ ((b &&& 1) * a))) rfl rfl (qM (vu8 (shr8 b 1)) rfl rfl (qV rfl (R.bin rfl rfl (b8_and (shr8 b 1) 1)) (qM (vu8 (dbl a)) rfl rfl (qV rfl (R.bin rfl rfl (b8_mul ((shr8 b 1) &&& 1) (dbl a))) (qV rfl (R.bin rfl rfl (b8_xor ((0 : UInt8) ^^^ ((b &&& 1) * a)) (((shr8 b 1) &&& 1) * (dbl a)))) (qA (vu8 (((0 : UInt8) ^^^ ((b &&& 1) * a)) ^^^ (((shr8 b 1) &&& 1) * (dbl a)))) rfl rfl ?_))))))
 refine WL.nil (thn_n (WP.reg ?_))
 refine qM (vu8 (dbl a)) rfl rfl ?_
 refine WL.call Try.call99 rfl rfl (c_double (dbl a) _ ) rfl ?_
 rintro _ w_5 ⟨rfl, hc_4⟩
 have h_6 := h_3.same hc_4
 refine qM (vu8 (shr8 b 1)) rfl rfl (qV rfl (R.binR (v := vu8 (shr8 (shr8 b 1) 1)) rfl rfl (run_shr8 _ _ _ (shr8 b 1) _ 1)) (qA (vu8 (dbl (dbl a))) rfl rfl (qA (vu8 (shr8 (shr8 b 1) 1)) rfl rfl ?_)))
 refine WL.nil (inb_n (thn_n (WP.reg ?_)))
 refine qV rfl (R.bin rfl rfl (bi_add (c := 2) (by omega) (by omega))) (qM (vi 2) rfl rfl ?_)
 refine WL.nil (thn_n ?_)
 refine WI.round ?_
 refine WP.seq (WP.reg ?_)
 refine qV rfl (R.bin rfl rfl (bi_lss (r := true) (by decide))) ?_
 refine WL.nil (thn_n (WP.seq ?_))
 refine WP.condT rfl ?_
 refine WP.skip (thn_n (WP.seq (WP.block (WP.seq (WP.reg ?_)))))
 refine qM (vu8 (((0 : UInt8) ^^^ ((b &&& 1) * a)) ^^^ (((shr8 b 1) &&& 1) * (dbl a)))) rfl rfl (qM (vu8 (shr8 (shr8 b 1) 1)) rfl rfl (qV rfl (R.bin rfl rfl (b8_and (shr8 (shr8 b 1) 1) 1)) (qM (vu8 (dbl (dbl a))) rfl rfl (qV rfl (R.bin rfl rfl (b8_mul ((shr8 (shr8 b 1) 1) &&& 1) (dbl (dbl a)))) (qV rfl (R.bin rfl rfl (b8_xor (((0 : UInt8) ^^^ ((b &&& 1) * a)) ^^^ (((shr8 b 1) &&& 1) * (dbl a))) (((shr8 (shr8 b 1) 1) &&& 1) * (dbl (dbl a))))) (qA (vu8 ((((0 : UInt8) ^^^ ((b &&& 1) * a)) ^^^ (((shr8 b 1) &&& 1) * (dbl a))) ^^^ (((shr8 (shr8 b 1) 1) &&& 1) * (dbl (dbl a))))) rfl rfl ?_))))))
 refine WL.nil (thn_n (WP.reg ?_))
 refine qM (vu8 (dbl (dbl a))) rfl rfl ?_
 refine WL.call Try.call99 rfl rfl (c_double (dbl (dbl a)) _ ) rfl ?_
 rintro _ w_8 ⟨rfl, hc_7⟩
 have h_9 := h_6.same hc_7
 refine qM (vu8 (shr8 (shr8 b 1) 1)) rfl rfl (qV rfl (R.binR (v := vu8 (shr8 (shr8 (shr8 b 1) 1) 1)) rfl rfl (run_shr8 _ _ _ (shr8 (shr8 b 1) 1) _ 1)) (qA (vu8 (dbl (dbl (dbl a)))) rfl rfl (qA (vu8 (shr8 (shr8 (shr8 b 1) 1) 1)) rfl rfl ?_)))
 refine WL.nil (inb_n (thn_n (WP.reg ?_)))
 refine qV rfl (R.bin rfl rfl (bi_add (c := 3) (by omega) (by omega))) (qM (vi 3) rfl rfl ?_)
 refine WL.nil (thn_n ?_)
 refine WI.round ?_
 refine WP.seq (WP.reg ?_)
 refine qV rfl (R.bin rfl rfl (bi_lss (r := true) (by decide))) ?_
 refine WL.nil (thn_n (WP.seq ?_))
 refine WP.condT rfl ?_
 refine WP.skip (thn_n (WP.seq (WP.block (WP.seq (WP.reg ?_)))))
 refine qM (vu8 ((((0 : UInt8) ^^^ ((b &&& 1) * a)) ^^^ (((shr8 b 1) &&& 1) * (dbl a))) ^^^ (((shr8 (shr8 b 1) 1) &&& 1) * (dbl (dbl a))))) rfl rfl (qM (vu8 (shr8 (shr8 (shr8 b 1) 1) 1)) rfl rfl (qV rfl (R.bin rfl rfl (b8_and (shr8 (shr8 (shr8 b 1) 1) 1) 1)) (qM (vu8 (dbl (dbl (dbl a)))) rfl rfl (qV rfl (R.bin rfl rfl (b8_mul ((shr8 (shr8 (shr8 b 1) 1) 1) &&& 1) (dbl (dbl (dbl a))))) (qV rfl (R.bin rfl rfl (b8_xor ((((0 : UInt8) ^^^ ((b &&& 1) * a)) ^^^ (((shr8 b 1) &&& 1) * (dbl a))) ^^^ (((shr8 (shr8 b 1) 1) &&& 1) * (dbl (dbl a)))) (((shr8 (shr8 (shr8 b 1) 1) 1) &&& 1) * (dbl (dbl (dbl a)))))) (qA (vu8 (((((0 : UInt8) ^^^ ((b &&& 1) * a)) ^^^ (((shr8 b 1) &&& 1) * (dbl a))) ^^^ (((shr8 (shr8 b 1) 1) &&& 1) * (dbl (dbl a)))) ^^^ (((shr8 (shr8 (shr8 b 1) 1) 1) &&& 1) * (dbl (dbl (dbl a)))))) rfl rfl ?_))))))
 refine WL.nil (thn_n (WP.reg ?_))
 refine qM (vu8 (dbl (dbl (dbl a)))) rfl rfl ?_
 refine WL.call Try.call99 rfl rfl (c_double (dbl (dbl (dbl a))) _ ) rfl ?_
 rintro _ w_11 ⟨rfl, hc_10⟩
 have h_12 := h_9.same hc_10
 refine qM (vu8 (shr8 (shr8 (shr8 b 1) 1) 1)) rfl rfl (qV rfl (R.binR (v := vu8 (shr8 (shr8 (shr8 (shr8 b 1) 1) 1) 1)) rfl rfl (run_shr8 _ _ _ (shr8 (shr8 (shr8 b 1) 1) 1) _ 1)) (qA (vu8 (dbl (dbl (dbl (dbl a))))) rfl rfl (qA (vu8 (shr8 (shr8 (shr8 (shr8 b 1) 1) 1) 1)) rfl rfl ?_)))
 refine WL.nil (inb_n (thn_n (WP.reg ?_)))
 refine qV rfl (R.bin rfl rfl (bi_add (c := 4) (by omega) (by omega))) (qM (vi 4) rfl rfl ?_)
 refine WL.nil (thn_n ?_)
 refine WI.round ?_
 refine WP.seq (WP.reg ?_)
 refine qV rfl (R.bin rfl rfl (bi_lss (r := true) (by decide))) ?_
 refine WL.nil (thn_n (WP.seq ?_))
 refine WP.condT rfl ?_
 refine WP.skip (thn_n (WP.seq (WP.block (WP.seq (WP.reg ?_)))))
 refine qM (vu8 (((((0 : UInt8) ^^^ ((b &&& 1) * a)) ^^^ (((shr8 b 1) &&& 1) * (dbl a))) ^^^ (((shr8 (shr8 b 1) 1) &&& 1) * (dbl (dbl a)))) ^^^ (((shr8 (shr8 (shr8 b 1) 1) 1) &&& 1) * (dbl (dbl (dbl a)))))) rfl rfl (qM (vu8 (shr8 (shr8 (shr8 (shr8 b 1) 1) 1) 1)) rfl rfl (qV rfl (R.bin rfl rfl (b8_and (shr8 (shr8 (shr8 (shr8 b 1) 1) 1) 1) 1)) (qM (vu8 (dbl (dbl (dbl (dbl a))))) rfl rfl (qV rfl (R.bin rfl rfl (b8_mul ((shr8 (shr8 (shr8 (shr8 b 1) 1) 1) 1) &&& 1) (dbl (dbl (dbl (dbl a)))))) (qV rfl (R.bin rfl rfl (b8_xor (((((0 : UInt8) ^^^ ((b &&& 1) * a)) ^^^ (((shr8 b 1) &&& 1) * (dbl a))) ^^^ (((shr8 (shr8 b 1) 1) &&& 1) * (dbl (dbl a)))) ^^^ (((shr8 (shr8 (shr8 b 1) 1) 1) &&& 1) * (dbl (dbl (dbl a))))) (((shr8 (shr8 (shr8 (shr8 b 1) 1) 1) 1) &&& 1) * (dbl (dbl (dbl (dbl a))))))) (qA (vu8 ((((((0 : UInt8) ^^^ ((b &&& 1) * a)) ^^^ (((shr8 b 1) &&& 1) * (dbl a))) ^^^ (((shr8 (shr8 b 1) 1) &&& 1) * (dbl (dbl a)))) ^^^ (((shr8 (shr8 (shr8 b 1) 1) 1) &&& 1) * (dbl (dbl (dbl a))))) ^^^ (((shr8 (shr8 (shr8 (shr8 b 1) 1) 1) 1) &&& 1) * (dbl (dbl (dbl (dbl a))))))) rfl rfl ?_))))))
 refine WL.nil (thn_n (WP.reg ?_))
 refine qM (vu8 (dbl (dbl (dbl (dbl a))))) rfl rfl ?_
 refine WL.call Try.call99 rfl rfl (c_double (dbl (dbl (dbl (dbl a)))) _ ) rfl ?_
 rintro _ w_14 ⟨rfl, hc_13⟩
 have h_15 := h_12.same hc_13
 refine qM (vu8 (shr8 (shr8 (shr8 (shr8 b 1) 1) 1) 1)) rfl rfl (qV rfl (R.binR (v := vu8 (shr8 (shr8 (shr8 (shr8 (shr8 b 1) 1) 1) 1) 1)) rfl rfl (run_shr8 _ _ _ (shr8 (shr8 (shr8 (shr8 b 1) 1) 1) 1) _ 1)) (qA (vu8 (dbl (dbl (dbl (dbl (dbl a)))))) rfl rfl (qA (vu8 (shr8 (shr8 (shr8 (shr8 (shr8 b 1) 1) 1) 1) 1)) rfl rfl ?_)))
 refine WL.nil (inb_n (thn_n (WP.reg ?_)))
 refine qV rfl (R.bin rfl rfl (bi_add (c := 5) (by omega) (by omega))) (qM (vi 5) rfl rfl ?_)
 refine WL.nil (thn_n ?_)
 refine WI.round ?_
 refine WP.seq (WP.reg ?_)
 refine qV rfl (R.bin rfl rfl (bi_lss (r := true) (by decide))) ?_
 refine WL.nil (thn_n (WP.seq ?_))
 refine WP.condT rfl ?_
 refine WP.skip (thn_n (WP.seq (WP.block (WP.seq (WP.reg ?_)))))
 refine qM (vu8 ((((((0 : UInt8) ^^^ ((b &&& 1) * a)) ^^^ (((shr8 b 1) &&& 1) * (dbl a))) ^^^ (((shr8 (shr8 b 1) 1) &&& 1) * (dbl (dbl a)))) ^^^ (((shr8 (shr8 (shr8 b 1) 1) 1) &&& 1) * (dbl (dbl (dbl a))))) ^^^ (((shr8 (shr8 (shr8 (shr8 b 1) 1) 1) 1) &&& 1) * (dbl (dbl (dbl (dbl a))))))) rfl rfl (qM (vu8 (shr8 (shr8 (shr8 (shr8 (shr8 b 1) 1) 1) 1) 1)) rfl rfl (qV rfl (R.bin rfl rfl (b8_and (shr8 (shr8 (shr8 (shr8 (shr8 b 1) 1) 1) 1) 1) 1)) (qM (vu8 (dbl (dbl (dbl (dbl (dbl a)))))) rfl rfl (qV rfl (R.bin rfl rfl (b8_mul ((shr8 (shr8 (shr8 (shr8 (shr8 b 1) 1) 1) 1) 1) &&& 1) (dbl (dbl (dbl (dbl (dbl a))))))) (qV rfl (R.bin rfl rfl (b8_xor ((((((0 : UInt8) ^^^ ((b &&& 1) * a)) ^^^ (((shr8 b 1) &&& 1) * (dbl a))) ^^^ (((shr8 (shr8 b 1) 1) &&& 1) * (dbl (dbl a)))) ^^^ (((shr8 (shr8 (shr8 b 1) 1) 1) &&& 1) * (dbl (dbl (dbl a))))) ^^^ (((shr8 (shr8 (shr8 (shr8 b 1) 1) 1) 1) &&& 1) * (dbl (dbl (dbl (dbl a)))))) (((shr8 (shr8 (shr8 (shr8 (shr8 b 1) 1) 1) 1) 1) &&& 1) * (dbl (dbl (dbl (dbl (dbl a)))))))) (qA (vu8 (((((((0 : UInt8) ^^^ ((b &&& 1) * a)) ^^^ (((shr8 b 1) &&& 1) * (dbl a))) ^^^ (((shr8 (shr8 b 1) 1) &&& 1) * (dbl (dbl a)))) ^^^ (((shr8 (shr8 (shr8 b 1) 1) 1) &&& 1) * (dbl (dbl (dbl a))))) ^^^ (((shr8 (shr8 (shr8 (shr8 b 1) 1) 1) 1) &&& 1) * (dbl (dbl (dbl (dbl a)))))) ^^^ (((shr8 (shr8 (shr8 (shr8 (shr8 b 1) 1) 1) 1) 1) &&& 1) * (dbl (dbl (dbl (dbl (dbl a)))))))) rfl rfl ?_))))))
 refine WL.nil (thn_n (WP.reg ?_))
 refine qM (vu8 (dbl (dbl (dbl (dbl (dbl a)))))) rfl rfl ?_
 refine WL.call Try.call99 rfl rfl (c_double (dbl (dbl (dbl (dbl (dbl a))))) _ ) rfl ?_
 rintro _ w_17 ⟨rfl, hc_16⟩
 have h_18 := h_15.same hc_16
 refine qM (vu8 (shr8 (shr8 (shr8 (shr8 (shr8 b 1) 1) 1) 1) 1)) rfl rfl (qV rfl (R.binR (v := vu8 (shr8 (shr8 (shr8 (shr8 (shr8 (shr8 b 1) 1) 1) 1) 1) 1)) rfl rfl (run_shr8 _ _ _ (shr8 (shr8 (shr8 (shr8 (shr8 b 1) 1) 1) 1) 1) _ 1)) (qA (vu8 (dbl (dbl (dbl (dbl (dbl (dbl a))))))) rfl rfl (qA (vu8 (shr8 (shr8 (shr8 (shr8 (shr8 (shr8 b 1) 1) 1) 1) 1) 1)) rfl rfl ?_)))
 refine WL.nil (inb_n (thn_n (WP.reg ?_)))
 refine qV rfl (R.bin rfl rfl (bi_add (c := 6) (by omega) (by omega))) (qM (vi 6) rfl rfl ?_)
 refine WL.nil (thn_n ?_)
 refine WI.round ?_
 refine WP.seq (WP.reg ?_)
 refine qV rfl (R.bin rfl rfl (bi_lss (r := true) (by decide))) ?_
 refine WL.nil (thn_n (WP.seq ?_))
 refine WP.condT rfl ?_
 refine WP.skip (thn_n (WP.seq (WP.block (WP.seq (WP.reg ?_)))))
 refine qM (vu8 (((((((0 : UInt8) ^^^ ((b &&& 1) * a)) ^^^ (((shr8 b 1) &&& 1) * (dbl a))) ^^^ (((shr8 (shr8 b 1) 1) &&& 1) * (dbl (dbl a)))) ^^^ (((shr8 (shr8 (shr8 b 1) 1) 1) &&& 1) * (dbl (dbl (dbl a))))) ^^^ (((shr8 (shr8 (shr8 (shr8 b 1) 1) 1) 1) &&& 1) * (dbl (dbl (dbl (dbl a)))))) ^^^ (((shr8 (shr8 (shr8 (shr8 (shr8 b 1) 1) 1) 1) 1) &&& 1) * (dbl (dbl (dbl (dbl (dbl a)))))))) rfl rfl (qM (vu8 (shr8 (shr8 (shr8 (shr8 (shr8 (shr8 b 1) 1) 1) 1) 1) 1)) rfl rfl (qV rfl (R.bin rfl rfl (b8_and (shr8 (shr8 (shr8 (shr8 (shr8 (shr8 b 1) 1) 1) 1) 1) 1) 1)) (qM (vu8 (dbl (dbl (dbl (dbl (dbl (dbl a))))))) rfl rfl (qV rfl (R.bin rfl rfl (b8_mul ((shr8 (shr8 (shr8 (shr8 (shr8 (shr8 b 1) 1) 1) 1) 1) 1) &&& 1) (dbl (dbl (dbl (dbl (dbl (dbl a)))))))) (qV rfl (R.bin rfl rfl (b8_xor (((((((0 : UInt8) ^^^ ((b &&& 1) * a)) ^^^ (((shr8 b 1) &&& 1) * (dbl a))) ^^^ (((shr8 (shr8 b 1) 1) &&& 1) * (dbl (dbl a)))) ^^^ (((shr8 (shr8 (shr8 b 1) 1) 1) &&& 1) * (dbl (dbl (dbl a))))) ^^^ (((shr8 (shr8 (shr8 (shr8 b 1) 1) 1) 1) &&& 1) * (dbl (dbl (dbl (dbl a)))))) ^^^ (((shr8 (shr8 (shr8 (shr8 (shr8 b 1) 1) 1) 1) 1) &&& 1) * (dbl (dbl (dbl (dbl (dbl a))))))) (((shr8 (shr8 (shr8 (shr8 (shr8 (shr8 b 1) 1) 1) 1) 1) 1) &&& 1) * (dbl (dbl (dbl (dbl (dbl (dbl a))))))))) (qA (vu8 ((((((((0 : UInt8) ^^^ ((b &&& 1) * a)) ^^^ (((shr8 b 1) &&& 1) * (dbl a))) ^^^ (((shr8 (shr8 b 1) 1) &&& 1) * (dbl (dbl a)))) ^^^ (((shr8 (shr8 (shr8 b 1) 1) 1) &&& 1) * (dbl (dbl (dbl a))))) ^^^ (((shr8 (shr8 (shr8 (shr8 b 1) 1) 1) 1) &&& 1) * (dbl (dbl (dbl (dbl a)))))) ^^^ (((shr8 (shr8 (shr8 (shr8 (shr8 b 1) 1) 1) 1) 1) &&& 1) * (dbl (dbl (dbl (dbl (dbl a))))))) ^^^ (((shr8 (shr8 (shr8 (shr8 (shr8 (shr8 b 1) 1) 1) 1) 1) 1) &&& 1) * (dbl (dbl (dbl (dbl (dbl (dbl a))))))))) rfl rfl ?_))))))
 refine WL.nil (thn_n (WP.reg ?_))
 refine qM (vu8 (dbl (dbl (dbl (dbl (dbl (dbl a))))))) rfl rfl ?_
 refine WL.call Try.call99 rfl rfl (c_double (dbl (dbl (dbl (dbl (dbl (dbl a)))))) _ ) rfl ?_
 rintro _ w_20 ⟨rfl, hc_19⟩
 have h_21 := h_18.same hc_19
 refine qM (vu8 (shr8 (shr8 (shr8 (shr8 (shr8 (shr8 b 1) 1) 1) 1) 1) 1)) rfl rfl (qV rfl (R.binR (v := vu8 (shr8 (shr8 (shr8 (shr8 (shr8 (shr8 (shr8 b 1) 1) 1) 1) 1) 1) 1)) rfl rfl (run_shr8 _ _ _ (shr8 (shr8 (shr8 (shr8 (shr8 (shr8 b 1) 1) 1) 1) 1) 1) _ 1)) (qA (vu8 (dbl (dbl (dbl (dbl (dbl (dbl (dbl a)))))))) rfl rfl (qA (vu8 (shr8 (shr8 (shr8 (shr8 (shr8 (shr8 (shr8 b 1) 1) 1) 1) 1) 1) 1)) rfl rfl ?_)))
 refine WL.nil (inb_n (thn_n (WP.reg ?_)))
 refine qV rfl (R.bin rfl rfl (bi_add (c := 7) (by omega) (by omega))) (qM (vi 7) rfl rfl ?_)
 refine WL.nil (thn_n ?_)
 refine WI.round ?_
 refine WP.seq (WP.reg ?_)
 refine qV rfl (R.bin rfl rfl (bi_lss (r := true) (by decide))) ?_
 refine WL.nil (thn_n (WP.seq ?_))
 refine WP.condT rfl ?_
 refine WP.skip (thn_n (WP.seq (WP.block (WP.seq (WP.reg ?_)))))
 refine qM (vu8 ((((((((0 : UInt8) ^^^ ((b &&& 1) * a)) ^^^ (((shr8 b 1) &&& 1) * (dbl a))) ^^^ (((shr8 (shr8 b 1) 1) &&& 1) * (dbl (dbl a)))) ^^^ (((shr8 (shr8 (shr8 b 1) 1) 1) &&& 1) * (dbl (dbl (dbl a))))) ^^^ (((shr8 (shr8 (shr8 (shr8 b 1) 1) 1) 1) &&& 1) * (dbl (dbl (dbl (dbl a)))))) ^^^ (((shr8 (shr8 (shr8 (shr8 (shr8 b 1) 1) 1) 1) 1) &&& 1) * (dbl (dbl (dbl (dbl (dbl a))))))) ^^^ (((shr8 (shr8 (shr8 (shr8 (shr8 (shr8 b 1) 1) 1) 1) 1) 1) &&& 1) * (dbl (dbl (dbl (dbl (dbl (dbl a))))))))) rfl rfl (qM (vu8 (shr8 (shr8 (shr8 (shr8 (shr8 (shr8 (shr8 b 1) 1) 1) 1) 1) 1) 1)) rfl rfl (qV rfl (R.bin rfl rfl (b8_and (shr8 (shr8 (shr8 (shr8 (shr8 (shr8 (shr8 b 1) 1) 1) 1) 1) 1) 1) 1)) (qM (vu8 (dbl (dbl (dbl (dbl (dbl (dbl (dbl a)))))))) rfl rfl (qV rfl (R.bin rfl rfl (b8_mul ((shr8 (shr8 (shr8 (shr8 (shr8 (shr8 (shr8 b 1) 1) 1) 1) 1) 1) 1) &&& 1) (dbl (dbl (dbl (dbl (dbl (dbl (dbl a))))))))) (qV rfl (R.bin rfl rfl (b8_xor ((((((((0 : UInt8) ^^^ ((b &&& 1) * a)) ^^^ (((shr8 b 1) &&& 1) * (dbl a))) ^^^ (((shr8 (shr8 b 1) 1) &&& 1) * (dbl (dbl a)))) ^^^ (((shr8 (shr8 (shr8 b 1) 1) 1) &&& 1) * (dbl (dbl (dbl a))))) ^^^ (((shr8 (shr8 (shr8 (shr8 b 1) 1) 1) 1) &&& 1) * (dbl (dbl (dbl (dbl a)))))) ^^^ (((shr8 (shr8 (shr8 (shr8 (shr8 b 1) 1) 1) 1) 1) &&& 1) * (dbl (dbl (dbl (dbl (dbl a))))))) ^^^ (((shr8 (shr8 (shr8 (shr8 (shr8 (shr8 b 1) 1) 1) 1) 1) 1) &&& 1) * (dbl (dbl (dbl (dbl (dbl (dbl a)))))))) (((shr8 (shr8 (shr8 (shr8 (shr8 (shr8 (shr8 b 1) 1) 1) 1) 1) 1) 1) &&& 1) * (dbl (dbl (dbl (dbl (dbl (dbl (dbl a)))))))))) (qA (vu8 (((((((((0 : UInt8) ^^^ ((b &&& 1) * a)) ^^^ (((shr8 b 1) &&& 1) * (dbl a))) ^^^ (((shr8 (shr8 b 1) 1) &&& 1) * (dbl (dbl a)))) ^^^ (((shr8 (shr8 (shr8 b 1) 1) 1) &&& 1) * (dbl (dbl (dbl a))))) ^^^ (((shr8 (shr8 (shr8 (shr8 b 1) 1) 1) 1) &&& 1) * (dbl (dbl (dbl (dbl a)))))) ^^^ (((shr8 (shr8 (shr8 (shr8 (shr8 b 1) 1) 1) 1) 1) &&& 1) * (dbl (dbl (dbl (dbl (dbl a))))))) ^^^ (((shr8 (shr8 (shr8 (shr8 (shr8 (shr8 b 1) 1) 1) 1) 1) 1) &&& 1) * (dbl (dbl (dbl (dbl (dbl (dbl a)))))))) ^^^ (((shr8 (shr8 (shr8 (shr8 (shr8 (shr8 (shr8 b 1) 1) 1) 1) 1) 1) 1) &&& 1) * (dbl (dbl (dbl (dbl (dbl (dbl (dbl a)))))))))) rfl rfl ?_))))))
 refine WL.nil (thn_n (WP.reg ?_))
 refine qM (vu8 (dbl (dbl (dbl (dbl (dbl (dbl (dbl a)))))))) rfl rfl ?_
 refine WL.call Try.call99 rfl rfl (c_double (dbl (dbl (dbl (dbl (dbl (dbl (dbl a))))))) _ ) rfl ?_
 rintro _ w_23 ⟨rfl, hc_22⟩
 have h_24 := h_21.same hc_22
 refine qM (vu8 (shr8 (shr8 (shr8 (shr8 (shr8 (shr8 (shr8 b 1) 1) 1) 1) 1) 1) 1)) rfl rfl (qV rfl (R.binR (v := vu8 (shr8 (shr8 (shr8 (shr8 (shr8 (shr8 (shr8 (shr8 b 1) 1) 1) 1) 1) 1) 1) 1)) rfl rfl (run_shr8 _ _ _ (shr8 (shr8 (shr8 (shr8 (shr8 (shr8 (shr8 b 1) 1) 1) 1) 1) 1) 1) _ 1)) (qA (vu8 (dbl (dbl (dbl (dbl (dbl (dbl (dbl (dbl a))))))))) rfl rfl (qA (vu8 (shr8 (shr8 (shr8 (shr8 (shr8 (shr8 (shr8 (shr8 b 1) 1) 1) 1) 1) 1) 1) 1)) rfl rfl ?_)))
 refine WL.nil (inb_n (thn_n (WP.reg ?_)))
 refine qV rfl (R.bin rfl rfl (bi_add (c := 8) (by omega) (by omega))) (qM (vi 8) rfl rfl ?_)
 refine WL.nil (thn_n ?_)
 refine WI.round ?_
 refine WP.seq (WP.reg ?_)
 refine qV rfl (R.bin rfl rfl (bi_lss (r := false) (by decide))) ?_
 refine WL.nil (thn_n (WP.seq ?_))
 refine WP.condF rfl ?_
 refine WP.exit (thn_x (thn_x (inb_hit (thn_n (WP.seq (WP.reg ?_))))))
 refine qM (vu8 (((((((((0 : UInt8) ^^^ ((b &&& 1) * a)) ^^^ (((shr8 b 1) &&& 1) * (dbl a))) ^^^ (((shr8 (shr8 b 1) 1) &&& 1) * (dbl (dbl a)))) ^^^ (((shr8 (shr8 (shr8 b 1) 1) 1) &&& 1) * (dbl (dbl (dbl a))))) ^^^ (((shr8 (shr8 (shr8 (shr8 b 1) 1) 1) 1) &&& 1) * (dbl (dbl (dbl (dbl a)))))) ^^^ (((shr8 (shr8 (shr8 (shr8 (shr8 b 1) 1) 1) 1) 1) &&& 1) * (dbl (dbl (dbl (dbl (dbl a))))))) ^^^ (((shr8 (shr8 (shr8 (shr8 (shr8 (shr8 b 1) 1) 1) 1) 1) 1) &&& 1) * (dbl (dbl (dbl (dbl (dbl (dbl a)))))))) ^^^ (((shr8 (shr8 (shr8 (shr8 (shr8 (shr8 (shr8 b 1) 1) 1) 1) 1) 1) 1) &&& 1) * (dbl (dbl (dbl (dbl (dbl (dbl (dbl a)))))))))) rfl rfl (qA (vu8 (((((((((0 : UInt8) ^^^ ((b &&& 1) * a)) ^^^ (((shr8 b 1) &&& 1) * (dbl a))) ^^^ (((shr8 (shr8 b 1) 1) &&& 1) * (dbl (dbl a)))) ^^^ (((shr8 (shr8 (shr8 b 1) 1) 1) &&& 1) * (dbl (dbl (dbl a))))) ^^^ (((shr8 (shr8 (shr8 (shr8 b 1) 1) 1) 1) &&& 1) * (dbl (dbl (dbl (dbl a)))))) ^^^ (((shr8 (shr8 (shr8 (shr8 (shr8 b 1) 1) 1) 1) 1) &&& 1) * (dbl (dbl (dbl (dbl (dbl a))))))) ^^^ (((shr8 (shr8 (shr8 (shr8 (shr8 (shr8 b 1) 1) 1) 1) 1) 1) &&& 1) * (dbl (dbl (dbl (dbl (dbl (dbl a)))))))) ^^^ (((shr8 (shr8 (shr8 (shr8 (shr8 (shr8 (shr8 b 1) 1) 1) 1) 1) 1) 1) &&& 1) * (dbl (dbl (dbl (dbl (dbl (dbl (dbl a)))))))))) rfl rfl ?_)
 refine WL.nil (thn_n (WP.ret ?_))
 refine ret_of results101 (RV.tmp (v := (vu8 (((((((((0 : UInt8) ^^^ ((b &&& 1) * a)) ^^^ (((shr8 b 1) &&& 1) * (dbl a))) ^^^ (((shr8 (shr8 b 1) 1) &&& 1) * (dbl (dbl a)))) ^^^ (((shr8 (shr8 (shr8 b 1) 1) 1) &&& 1) * (dbl (dbl (dbl a))))) ^^^ (((shr8 (shr8 (shr8 (shr8 b 1) 1) 1) 1) &&& 1) * (dbl (dbl (dbl (dbl a)))))) ^^^ (((shr8 (shr8 (shr8 (shr8 (shr8 b 1) 1) 1) 1) 1) &&& 1) * (dbl (dbl (dbl (dbl (dbl a))))))) ^^^ (((shr8 (shr8 (shr8 (shr8 (shr8 (shr8 b 1) 1) 1) 1) 1) 1) &&& 1) * (dbl (dbl (dbl (dbl (dbl (dbl a)))))))) ^^^ (((shr8 (shr8 (shr8 (shr8 (shr8 (shr8 (shr8 b 1) 1) 1) 1) 1) 1) 1) &&& 1) * (dbl (dbl (dbl (dbl (dbl (dbl (dbl a))))))))))) rfl RV.nil) ?_
 exact ⟨rfl, h_24.chgS⟩

theorem c_Inverse (a : UInt8) (w : World) :
  Cs Try.prog 97 [(vu8 a)].toArray w (fun v w1 => v = (vu8 (inv a)) ∧ Chg w w1 []) := by
 refine Cs.of (n := 14) (args := [(vu8 a)]) Try.func97 rfl rfl rfl ?_
 have h_0 := HP.init w
 refine WP.seq (WP.reg ?_)
 refine qA (vu8 0) rfl rfl ?_
 refine WL.nil (thn_n (WP.seq (WP.reg ?_)))
 refine qA (vu8 1) rfl rfl ?_
 refine WL.nil (thn_n (WP.seq (WP.seq (WP.reg ?_))))
 refine qM (vi 0) rfl rfl ?_
 refine WL.nil (thn_n (WP.block ?_))
 refine WP.loopU (WI.round ?_)
 refine WP.seq (WP.reg ?_)
 refine qV rfl (R.bin rfl rfl (bi_lss (r := true) (by decide))) ?_
 refine WL.nil (thn_n (WP.seq ?_))
 refine WP.condT rfl ?_
 refine WP.skip (thn_n (WP.seq (WP.block (WP.seq (WP.reg ?_)))))
 refine qM (vu8 a) rfl rfl (qM (vu8 a) rfl rfl ?_)
 refine WL.call Try.call101 rfl rfl (c_Times a a _ ) rfl ?_
 rintro _ w_2 ⟨rfl, hc_1⟩
 have h_3 := h_0.same hc_1
 refine qA (vu8 (tm a a)) rfl rfl ?_
 refine WL.nil (thn_n (WP.reg ?_))
 refine qM (vu8 1) rfl rfl (qM (vu8 (tm a a)) rfl rfl ?_)
 refine WL.call Try.call101 rfl rfl (c_Times (1 : UInt8) (tm a a) _ ) rfl ?_
 rintro _ w_5 ⟨rfl, hc_4⟩
 have h_6 := h_3.same hc_4
 refine qA (vu8 (tm (1 : UInt8) (tm a a))) rfl rfl ?_
 refine WL.nil (inb_n (thn_n (WP.reg ?_)))
 refine qV rfl (R.bin rfl rfl (bi_add (c := 1) (by omega) (by omega))) (qM (vi 1) rfl rfl ?_)
 refine WL.nil (thn_n ?_)
 refine WI.round ?_
 refine WP.seq (WP.reg ?_)
 refine qV rfl (R.bin rfl rfl (bi_lss (r := true) (by decide))) ?_
 refine WL.nil (thn_n (WP.seq ?_))
 refine WP.condT rfl ?_
 refine WP.skip (thn_n (WP.seq (WP.block (WP.seq (WP.reg ?_)))))
 refine qM (vu8 (tm a a)) rfl rfl (qM (vu8 (tm a a)) rfl rfl ?_)
 refine WL.call Try.call101 rfl rfl (c_Times (tm a a) (tm a a) _ ) rfl ?_
 rintro _ w_8 ⟨rfl, hc_7⟩
 have h_9 := h_6.same hc_7
 refine qA (vu8 (tm (tm a a) (tm a a))) rfl rfl ?_
 refine WL.nil (thn_n (WP.reg ?_))
 refine qM (vu8 (tm (1 : UInt8) (tm a a))) rfl rfl (qM (vu8 (tm (tm a a) (tm a a))) rfl rfl ?_)
 refine WL.call Try.call101 rfl rfl (c_Times (tm (1 : UInt8) (tm a a)) (tm (tm a a) (tm a a)) _ ) rfl ?_
 rintro _ w_11 ⟨rfl, hc_10⟩
 have h_12 := h_9.same hc_10
 refine qA (vu8 (tm (tm (1 : UInt8) (tm a a)) (tm (tm a a) (tm a a)))) rfl rfl ?_
 refine WL.nil (inb_n (thn_n (WP.reg ?_)))
 refine qV rfl (R.bin rfl rfl (bi_add (c := 2) (by omega) (by omega))) (qM (vi 2) rfl rfl ?_)
 refine WL.nil (thn_n ?_)
 refine WI.round ?_
 refine WP.seq (WP.reg ?_)
 refine qV rfl (R.bin rfl rfl (bi_lss (r := true) (by decide))) ?_
 refine WL.nil (thn_n (WP.seq ?_))
 refine WP.condT rfl ?_
 refine WP.skip (thn_n (WP.seq (WP.block (WP.seq (WP.reg ?_)))))
 refine qM (vu8 (tm (tm a a) (tm a a))) rfl rfl (qM (vu8 (tm (tm a a) (tm a a))) rfl rfl ?_)
 refine WL.call Try.call101 rfl rfl (c_Times (tm (tm a a) (tm a a)) (tm (tm a a) (tm a a)) _ ) rfl ?_
 rintro _ w_14 ⟨rfl, hc_13⟩
 have h_15 := h_12.same hc_13
 refine qA (vu8 (tm (tm (tm a a) (tm a a)) (tm (tm a a) (tm a a)))) rfl rfl ?_
 refine WL.nil (thn_n (WP.reg ?_))
 refine qM (vu8 (tm (tm (1 : UInt8) (tm a a)) (tm (tm a a) (tm a a)))) rfl rfl (qM (vu8 (tm (tm (tm a a) (tm a a)) (tm (tm a a) (tm a a)))) rfl rfl ?_)
 refine WL.call Try.call101 rfl rfl (c_Times (tm (tm (1 : UInt8) (tm a a)) (tm (tm a a) (tm a a))) (tm (tm (tm a a) (tm a a)) (tm (tm a a) (tm a a))) _ ) rfl ?_
 rintro _ w_17 ⟨rfl, hc_16⟩
 have h_18 := h_15.same hc_16
 refine qA (vu8 (tm (tm (tm (1 : UInt8) (tm a a)) (tm (tm a a) (tm a a))) (tm (tm (tm a a) (tm a a)) (tm (tm a a) (tm a a))))) rfl rfl ?_
 refine WL.nil (inb_n (thn_n (WP.reg ?_)))
 refine qV rfl (R.bin rfl rfl (bi_add (c := 3) (by omega) (by omega))) (qM (vi 3) rfl rfl ?_)
 refine WL.nil (thn_n ?_)
 refine WI.round ?_
 refine WP.seq (WP.reg ?_)
 refine qV rfl (R.bin rfl rfl (bi_lss (r := true) (by decide))) ?_
 refine WL.nil (thn_n (WP.seq ?_))
 refine WP.condT rfl ?_
 refine WP.skip (thn_n (WP.seq (WP.block (WP.seq (WP.reg ?_)))))
 refine qM (vu8 (tm (tm (tm a a) (tm a a)) (tm (tm a a) (tm a a)))) rfl rfl (qM (vu8 (tm (tm (tm a a) (tm a a)) (tm (tm a a) (tm a a)))) rfl rfl ?_)
 refine WL.call Try.call101 rfl rfl (c_Times (tm (tm (tm a a) (tm a a)) (tm (tm a a) (tm a a))) (tm (tm (tm a a) (tm a a)) (tm (tm a a) (tm a a))) _ ) rfl ?_
 rintro _ w_20 ⟨rfl, hc_19⟩
 have h_21 := h_18.same hc_19
 refine qA (vu8 (tm (tm (tm (tm a a) (tm a a)) (tm (tm a a) (tm a a))) (tm (tm (tm a a) (tm a a)) (tm (tm a a) (tm a a))))) rfl rfl ?_
 refine WL.nil (thn_n (WP.reg ?_))
 refine qM (vu8 (tm (tm (tm (1 : UInt8) (tm a a)) (tm (tm a a) (tm a a))) (tm (tm (tm a a) (tm a a)) (tm (tm a a) (tm a a))))) rfl rfl (qM (vu8 (tm (tm (tm (tm a a) (tm a a)) (tm (tm a a) (tm a a))) (tm (tm (tm a a) (tm a a)) (tm (tm a a) (tm a a))))) rfl rfl ?_)
 refine WL.call Try.call101 rfl rfl (c_Times (tm (tm (tm (1 : UInt8) (tm a a)) (tm (tm a a) (tm a a))) (tm (tm (tm a a) (tm a a)) (tm (tm a a) (tm a a)))) (tm (tm (tm (tm a a) (tm a a)) (tm (tm a a) (tm a a))) (tm (tm (tm a a) (tm a a)) (tm (tm a a) (tm a a)))) _ ) rfl ?_
 rintro _ w_23 ⟨rfl, hc_22⟩
 have h_24 := h_21.same hc_22
 refine qA (vu8 (tm (tm (tm (tm (1 : UInt8) (tm a a)) (tm (tm a a) (tm a a))) (tm (tm (tm a a) (tm a a)) (tm (tm a a) (tm a a)))) (tm (tm (tm (tm a a) (tm a a)) (tm (tm a a) (tm a a))) (tm (tm (tm a a) (tm a a)) (tm (tm a a) (tm a a)))))) rfl rfl ?_
 refine WL.nil (inb_n (thn_n (WP.reg ?_)))
 refine qV rfl (R.bin rfl rfl (bi_add (c := 4) (by omega) (by omega))) (qM (vi 4) rfl rfl ?_)
 refine WL.nil (thn_n ?_)
 refine WI.round ?_
 refine WP.seq (WP.reg ?_)
 refine qV rfl (R.bin rfl rfl (bi_lss (r := true) (by decide))) ?_
 refine WL.nil (thn_n (WP.seq ?_))
 refine WP.condT rfl ?_
 refine WP.skip (thn_n (WP.seq (WP.block (WP.seq (WP.reg ?_)))))
 refine qM (vu8 (tm (tm (tm (tm a a) (tm a a)) (tm (tm a a) (tm a a))) (tm (tm (tm a a) (tm a a)) (tm (tm a a) (tm a a))))) rfl rfl (qM (vu8 (tm (tm (tm (tm a a) (tm a a)) (tm (tm a a) (tm a a))) (tm (tm (tm a a) (tm a a)) (tm (tm a a) (tm a a))))) rfl rfl ?_)
 refine WL.call Try.call101 rfl rfl (c_Times (tm (tm (tm (tm a a) (tm a a)) (tm (tm a a) (tm a a))) (tm (tm (tm a a) (tm a a)) (tm (tm a a) (tm a a)))) (tm (tm (tm (tm a a) (tm a a)) (tm (tm a a) (tm a a))) (tm (tm (tm a a) (tm a a)) (tm (tm a a) (tm a a)))) _ ) rfl ?_
 rintro _ w_26 ⟨rfl, hc_25⟩
 have h_27 := h_24.same hc_25
 refine qA (vu8 (tm (tm (tm (tm (tm a a) (tm a a)) (tm (tm a a) (tm a a))) (tm (tm (tm a a) (tm a a)) (tm (tm a a) (tm a a)))) (tm (tm (tm (tm a a) (tm a a)) (tm (tm a a) (tm a a))) (tm (tm (tm a a) (tm a a)) (tm (tm a a) (tm a a)))))) rfl rfl ?_
 refine WL.nil (thn_n (WP.reg ?_))
 refine qM (vu8 (tm (tm (tm (tm (1 : UInt8) (tm a a)) (tm (tm a a) (tm a a))) (tm (tm (tm a a) (tm a a)) (tm (tm a a) (tm a a)))) (tm (tm (tm (tm a a) (tm a a)) (tm (tm a a) (tm a a))) (tm (tm (tm a a) (tm a a)) (tm (tm a a) (tm a a)))))) rfl rfl (qM (vu8 (tm (tm (tm (tm (tm a a) (tm a a)) (tm (tm a a) (tm a a))) (tm (tm (tm a a) (tm a a)) (tm (tm a a) (tm a a)))) (tm (tm (tm (tm a a) (tm a a)) (tm (tm a a) (tm a a))) (tm (tm (tm a a) (tm a a)) (tm (tm a a) (tm a a)))))) rfl rfl ?_)
 refine WL.call Try.call101 rfl rfl (c_Times (tm (tm (tm (tm (1 : UInt8) (tm a a)) (tm (tm a a) (tm a a))) (tm (tm (tm a a) (tm a a)) (tm (tm a a) (tm a a)))) (tm (tm (tm (tm a a) (tm a a)) (tm (tm a a) (tm a a))) (tm (tm (tm a a) (tm a a)) (tm (tm a a) (tm a a))))) (tm (tm (tm (tm (tm a a) (tm a a)) (tm (tm a a) (tm a a))) (tm (tm (tm a a) (tm a a)) (tm (tm a a) (tm a a)))) (tm (tm (tm (tm a a) (tm a a)) (tm (tm a a) (tm a a))) (tm (tm (tm a a) (tm a a)) (tm (tm a a) (tm a a))))) _ ) rfl ?_
 rintro _ w_29 ⟨rfl, hc_28⟩
 have h_30 := h_27.same hc_28
 refine qA (vu8 (tm (tm (tm (tm (tm (1 : UInt8) (tm a a)) (tm (tm a a) (tm a a))) (tm (tm (tm a a) (tm a a)) (tm (tm a a) (tm a a)))) (tm (tm (tm (tm a a) (tm a a)) (tm (tm a a) (tm a a))) (tm (tm (tm a a) (tm a a)) (tm (tm a a) (tm a a))))) (tm (tm (tm (tm (tm a a) (tm a a)) (tm (tm a a) (tm a a))) (tm (tm (tm a a) (tm a a)) (tm (tm a a) (tm a a)))) (tm (tm (tm (tm a a) (tm a a)) (tm (tm a a) (tm a a))) (tm (tm (tm a a) (tm a a)) (tm (tm a a) (tm a a))))))) rfl rfl ?_
 refine WL.nil (inb_n (thn_n (WP.reg ?_)))
 refine qV rfl (R.bin rfl rfl (bi_add (c := 5) (by omega) (by omega))) (qM (vi 5) rfl rfl ?_)
 refine WL.nil (thn_n ?_)
 refine WI.round ?_
 refine WP.seq (WP.reg ?_)
 refine qV rfl (R.bin rfl rfl (bi_lss (r := true) (by decide))) ?_
 refine WL.nil (thn_n (WP.seq ?_))
 refine WP.condT rfl ?_
 refine WP.skip (thn_n (WP.seq (WP.block (WP.seq (WP.reg ?_)))))
 refine qM (vu8 (tm (tm (tm (tm (tm a a) (tm a a)) (tm (tm a a) (tm a a))) (tm (tm (tm a a) (tm a a)) (tm (tm a a) (tm a a)))) (tm (tm (tm (tm a a) (tm a a)) (tm (tm a a) (tm a a))) (tm (tm (tm a a) (tm a a)) (tm (tm a a) (tm a a)))))) rfl rfl (qM (vu8 (tm (tm (tm (tm (tm a a) (tm a a)) (tm (tm a a) (tm a a))) (tm (tm (tm a a) (tm a a)) (tm (tm a a) (tm a a)))) (tm (tm (tm (tm a a) (tm a a)) (tm (tm a a) (tm a a))) (tm (tm (tm a a) (tm a a)) (tm (tm a a) (tm a a)))))) rfl rfl ?_)
 refine WL.call Try.call101 rfl rfl (c_Times (tm (tm (tm (tm (tm a a) (tm a a)) (tm (tm a a) (tm a a))) (tm (tm (tm a a) (tm a a)) (tm (tm a a) (tm a a)))) (tm (tm (tm (tm a a) (tm a a)) (tm (tm a a) (tm a a))) (tm (tm (tm a a) (tm a a)) (tm (tm a a) (tm a a))))) (tm (tm (tm (tm (tm a a) (tm a a)) (tm (tm a a) (tm a a))) (tm (tm (tm a a) (tm a a)) (tm (tm a a) (tm a a)))) (tm (tm (tm (tm a a) (tm a a)) (tm (tm a a) (tm a a))) (tm (tm (tm a a) (tm a a)) (tm (tm a a) (tm a a))))) _ ) rfl ?_
 rintro _ w_32 ⟨rfl, hc_31⟩
 have h_33 := h_30.same hc_31
 refine qA (vu8 (tm (tm (tm (tm (tm (tm a a) (tm a a)) (tm (tm a a) (tm a a))) (tm (tm (tm a a) (tm a a)) (tm (tm a a) (tm a a)))) (tm (tm (tm (tm a a) (tm a a)) (tm (tm a a) (tm a a))) (tm (tm (tm a a) (tm a a)) (tm (tm a a) (tm a a))))) (tm (tm (tm (tm (tm a a) (tm a a)) (tm (tm a a) (tm a a))) (tm (tm (tm a a) (tm a a)) (tm (tm a a) (tm a a)))) (tm (tm (tm (tm a a) (tm a a)) (tm (tm a a) (tm a a))) (tm (tm (tm a a) (tm a a)) (tm (tm a a) (tm a a))))))) rfl rfl ?_
 refine WL.nil (thn_n (WP.reg ?_))
 refine qM (vu8 (tm (tm (tm (tm (tm (1 : UInt8) (tm a a)) (tm (tm a a) (tm a a))) (tm (tm (tm a a) (tm a a)) (tm (tm a a) (tm a a)))) (tm (tm (tm (tm a a) (tm a a)) (tm (tm a a) (tm a a))) (tm (tm (tm a a) (tm a a)) (tm (tm a a) (tm a a))))) (tm (tm (tm (tm (tm a a) (tm a a)) (tm (tm a a) (tm a a))) (tm (tm (tm a a) (tm a a)) (tm (tm a a) (tm a a)))) (tm (tm (tm (tm a a) (tm a a)) (tm (tm a a) (tm a a))) (tm (tm (tm a a) (tm a a)) (tm (tm a a) (tm a a))))))) rfl rfl (qM (vu8 (tm (tm (tm (tm (tm (tm a a) (tm a a)) (tm (tm a a) (tm a a))) (tm (tm (tm a a) (tm a a)) (tm (tm a a) (tm a a)))) (tm (tm (tm (tm a a) (tm a a)) (tm (tm a a) (tm a a))) (tm (tm (tm a a) (tm a a)) (tm (tm a a) (tm a a))))) (tm (tm (tm (tm (tm a a) (tm a a)) (tm (tm a a) (tm a a))) (tm (tm (tm a a) (tm a a)) (tm (tm a a) (tm a a)))) (tm (tm (tm (tm a a) (tm a a)) (tm (tm a a) (tm a a))) (tm (tm (tm a a) (tm a a)) (tm (tm a a) (tm a a))))))) rfl rfl ?_)
 refine WL.call Try.call101 rfl rfl (c_Times (tm (tm (tm (tm (tm (1 : UInt8) (tm a a)) (tm (tm a a) (tm a a))) (tm (tm (tm a a) (tm a a)) (tm (tm a a) (tm a a)))) (tm (tm (tm (tm a a) (tm a a)) (tm (tm a a) (tm a a))) (tm (tm (tm a a) (tm a a)) (tm (tm a a) (tm a a))))) (tm (tm (tm (tm (tm a a) (tm a a)) (tm (tm a a) (tm a a))) (tm (tm (tm a a) (tm a a)) (tm (tm a a) (tm a a)))) (tm (tm (tm (tm a a) (tm a a)) (tm (tm a a) (tm a a))) (tm (tm (tm a a) (tm a a)) (tm (tm a a) (tm a a)))))) (tm (tm (tm (tm (tm (tm a a) (tm a a)) (tm (tm a a) (tm a a))) (tm (tm (tm a a) (tm a a)) (tm (tm a a) (tm a a)))) (tm (tm (tm (tm a a) (tm a a)) (tm (tm a a) (tm a a))) (tm (tm (tm a a) (tm a a)) (tm (tm a a) (tm a a))))) (tm (tm (tm (tm (tm a a) (tm a a)) (tm (tm a a) (tm a a))) (tm (tm (tm a a) (tm a a)) (tm (tm a a) (tm a a)))) (tm (tm (tm (tm a a) (tm a a)) (tm (tm a a) (tm a a))) (tm (tm (tm a a) (tm a a)) (tm (tm a a) (tm a a)))))) _ ) rfl ?_
 rintro _ w_35 ⟨rfl, hc_34⟩
 have h_36 := h_33.same hc_34
 refine qA (vu8 (tm (tm (tm (tm (tm (tm (1 : UInt8) (tm a a)) (tm (tm a a) (tm a a))) (tm (tm (tm a a) (tm a a)) (tm (tm a a) (tm a a)))) (tm (tm (tm (tm a a) (tm a a)) (tm (tm a a) (tm a a))) (tm (tm (tm a a) (tm a a)) (tm (tm a a) (tm a a))))) (tm (tm (tm (tm (tm a a) (tm a a)) (tm (tm a a) (tm a a))) (tm (tm (tm a a) (tm a a)) (tm (tm a a) (tm a a)))) (tm (tm (tm (tm a a) (tm a a)) (tm (tm a a) (tm a a))) (tm (tm (tm a a) (tm a a)) (tm (tm a a) (tm a a)))))) (tm (tm (tm (tm (tm (tm a a) (tm a a)) (tm (tm a a) (tm a a))) (tm (tm (tm a a) (tm a a)) (tm (tm a a) (tm a a)))) (tm (tm (tm (tm a a) (tm a a)) (tm (tm a a) (tm a a))) (tm (tm (tm a a) (tm a a)) (tm (tm a a) (tm a a))))) (tm (tm (tm (tm (tm a a) (tm a a)) (tm (tm a a) (tm a a))) (tm (tm (tm a a) (tm a a)) (tm (tm a a) (tm a a)))) (tm (tm (tm (tm a a) (tm a a)) (tm (tm a a) (tm a a))) (tm (tm (tm a a) (tm a a)) (tm (tm a a) (tm a a)))))))) rfl rfl ?_
 refine WL.nil (inb_n (thn_n (WP.reg ?_)))
 refine qV rfl (R.bin rfl rfl (bi_add (c := 6) (by omega) (by omega))) (qM (vi 6) rfl rfl ?_)
 refine WL.nil (thn_n ?_)
 refine WI.round ?_
 refine WP.seq (WP.reg ?_)
 refine qV rfl (R.bin rfl rfl (bi_lss (r := true) (by decide))) ?_
 refine WL.nil (thn_n (WP.seq ?_))
 refine WP.condT rfl ?_
 refine WP.skip (thn_n (WP.seq (WP.block (WP.seq (WP.reg ?_)))))
 refine qM (vu8 (tm (tm (tm (tm (tm (tm a a) (tm a a)) (tm (tm a a) (tm a a))) (tm (tm (tm a a) (tm a a)) (tm (tm a a) (tm a a)))) (tm (tm (tm (tm a a) (tm a a)) (tm (tm a a) (tm a a))) (tm (tm (tm a a) (tm a a)) (tm (tm a a) (tm a a))))) (tm (tm (tm (tm (tm a a) (tm a a)) (tm (tm a a) (tm a a))) (tm (tm (tm a a) (tm a a)) (tm (tm a a) (tm a a)))) (tm (tm (tm (tm a a) (tm a a)) (tm (tm a a) (tm a a))) (tm (tm (tm a a) (tm a a)) (tm (tm a a) (tm a a))))))) rfl rfl (qM (vu8 (tm (tm (tm (tm (tm (tm a a) (tm a a)) (tm (tm a a) (tm a a))) (tm (tm (tm a a) (tm a a)) (tm (tm a a) (tm a a)))) (tm (tm (tm (tm a a) (tm a a)) (tm (tm a a) (tm a a))) (tm (tm (tm a a) (tm a a)) (tm (tm a a) (tm a a))))) (tm (tm (tm (tm (tm a a) (tm a a)) (tm (tm a a) (tm a a))) (tm (tm (tm a a) (tm a a)) (tm (tm a a) (tm a a)))) (tm (tm (tm (tm a a) (tm a a)) (tm (tm a a) (tm a a))) (tm (tm (tm a a) (tm a a)) (tm (tm a a) (tm a a))))))) rfl rfl ?_)
 refine WL.call Try.call101 rfl rfl (c_Times (tm (tm (tm (tm (tm (tm a a) (tm a a)) (tm (tm a a) (tm a a))) (tm (tm (tm a a) (tm a a)) (tm (tm a a) (tm a a)))) (tm (tm (tm (tm a a) (tm a a)) (tm (tm a a) (tm a a))) (tm (tm (tm a a) (tm a a)) (tm (tm a a) (tm a a))))) (tm (tm (tm (tm (tm a a) (tm a a)) (tm (tm a a) (tm a a))) (tm (tm (tm a a) (tm a a)) (tm (tm a a) (tm a a)))) (tm (tm (tm (tm a a) (tm a a)) (tm (tm a a) (tm a a))) (tm (tm (tm a a) (tm a a)) (tm (tm a a) (tm a a)))))) (tm (tm (tm (tm (tm (tm a a) (tm a a)) (tm (tm a a) (tm a a))) (tm (tm (tm a a) (tm a a)) (tm (tm a a) (tm a a)))) (tm (tm (tm (tm a a) (tm a a)) (tm (tm a a) (tm a a))) (tm (tm (tm a a) (tm a a)) (tm (tm a a) (tm a a))))) (tm (tm (tm (tm (tm a a) (tm a a)) (tm (tm a a) (tm a a))) (tm (tm (tm a a) (tm a a)) (tm (tm a a) (tm a a)))) (tm (tm (tm (tm a a) (tm a a)) (tm (tm a a) (tm a a))) (tm (tm (tm a a) (tm a a)) (tm (tm a a) (tm a a)))))) _ ) rfl ?_
 rintro _ w_38 ⟨rfl, hc_37⟩
 have h_39 := h_36.same hc_37
 refine qA (vu8 (tm (tm (tm (tm (tm (tm (tm a a) (tm a a)) (tm (tm a a) (tm a a))) (tm (tm (tm a a) (tm a a)) (tm (tm a a) (tm a a)))) (tm (tm (tm (tm a a) (tm a a)) (tm (tm a a) (tm a a))) (tm (tm (tm a a) (tm a a)) (tm (tm a a) (tm a a))))) (tm (tm (tm (tm (tm a a) (tm a a)) (tm (tm a a) (tm a a))) (tm (tm (tm a a) (tm a a)) (tm (tm a a) (tm a a)))) (tm (tm (tm (tm a a) (tm a a)) (tm (tm a a) (tm a a))) (tm (tm (tm a a) (tm a a)) (tm (tm a a) (tm a a)))))) (tm (tm (tm (tm (tm (tm a a) (tm a a)) (tm (tm a a) (tm a a))) (tm (tm (tm a a) (tm a a)) (tm (tm a a) (tm a a)))) (tm (tm (tm (tm a a) (tm a a)) (tm (tm a a) (tm a a))) (tm (tm (tm a a) (tm a a)) (tm (tm a a) (tm a a))))) (tm (tm (tm (tm (tm a a) (tm a a)) (tm (tm a a) (tm a a))) (tm (tm (tm a a) (tm a a)) (tm (tm a a) (tm a a)))) (tm (tm (tm (tm a a) (tm a a)) (tm (tm a a) (tm a a))) (tm (tm (tm a a) (tm a a)) (tm (tm a a) (tm a a)))))))) rfl rfl ?_
 refine WL.nil (thn_n (WP.reg ?_))
 refine qM (vu8 (tm (tm (tm (tm (tm (tm (1 : UInt8) (tm a a)) (tm (tm a a) (tm a a))) (tm (tm (tm a a) (tm a a)) (tm (tm a a) (tm a a)))) (tm (tm (tm (tm a a) (tm a a)) (tm (tm a a) (tm a a))) (tm (tm (tm a a) (tm a a)) (tm (tm a a) (tm a a))))) (tm (tm (tm (tm (tm a a) (tm a a)) (tm (tm a a) (tm a a))) (tm (tm (tm a a) (tm a a)) (tm (tm a a) (tm a a)))) (tm (tm (tm (tm a a) (tm a a)) (tm (tm a a) (tm a a))) (tm (tm (tm a a) (tm a a)) (tm (tm a a) (tm a a)))))) (tm (tm (tm (tm (tm (tm a a) (tm a a)) (tm (tm a a) (tm a a))) (tm (tm (tm a a) (tm a a)) (tm (tm a a) (tm a a)))) (tm (tm (tm (tm a a) (tm a a)) (tm (tm a a) (tm a a))) (tm (tm (tm a a) (tm a a)) (tm (tm a a) (tm a a))))) (tm (tm (tm (tm (tm a a) (tm a a)) (tm (tm a a) (tm a a))) (tm (tm (tm a a) (tm a a)) (tm (tm a a) (tm a a)))) (tm (tm (tm (tm a a) (tm a a)) (tm (tm a a) (tm a a))) (tm (tm (tm a a) (tm a a)) (tm (tm a a) (tm a a)))))))) rfl rfl (qM (vu8 (tm (tm (tm (tm (tm (tm (tm a a) (tm a a)) (tm (tm a a) (tm a a))) (tm (tm (tm a a) (tm a a)) (tm (tm a a) (tm a a)))) (tm (tm (tm (tm a a) (tm a a)) (tm (tm a a) (tm a a))) (tm (tm (tm a a) (tm a a)) (tm (tm a a) (tm a a))))) (tm (tm (tm (tm (tm a a) (tm a a)) (tm (tm a a) (tm a a))) (tm (tm (tm a a) (tm a a)) (tm (tm a a) (tm a a)))) (tm (tm (tm (tm a a) (tm a a)) (tm (tm a a) (tm a a))) (tm (tm (tm a a) (tm a a)) (tm (tm a a) (tm a a)))))) (tm (tm (tm (tm (tm (tm a a) (tm a a)) (tm (tm a a) (tm a a))) (tm (tm (tm a a) (tm a a)) (tm (tm a a) (tm a a)))) (tm (tm (tm (tm a a) (tm a a)) (tm (tm a a) (tm a a))) (tm (tm (tm a a) (tm a a)) (tm (tm a a) (tm a a))))) (tm (tm (tm (tm (tm a a) (tm a a)) (tm (tm a a) (tm a a))) (tm (tm (tm a a) (tm a a)) (tm (tm a a) (tm a a)))) (tm (tm (tm (tm a a) (tm a a)) (tm (tm a a) (tm a a))) (tm (tm (tm a a) (tm a a)) (tm (tm a a) (tm a a)))))))) rfl rfl ?_)
 refine WL.call Try.call101 rfl rfl (c_Times (tm (tm (tm (tm (tm (tm (1 : UInt8) (tm a a)) (tm (tm a a) (tm a a))) (tm (tm (tm a a) (tm a a)) (tm (tm a a) (tm a a)))) (tm (tm (tm (tm a a) (tm a a)) (tm (tm a a) (tm a a))) (tm (tm (tm a a) (tm a a)) (tm (tm a a) (tm a a))))) (tm (tm (tm (tm (tm a a) (tm a a)) (tm (tm a a) (tm a a))) (tm (tm (tm a a) (tm a a)) (tm (tm a a) (tm a a)))) (tm (tm (tm (tm a a) (tm a a)) (tm (tm a a) (tm a a))) (tm (tm (tm a a) (tm a a)) (tm (tm a a) (tm a a)))))) (tm (tm (tm (tm (tm (tm a a) (tm a a)) (tm (tm a a) (tm a a))) (tm (tm (tm a a) (tm a a)) (tm (tm a a) (tm a a)))) (tm (tm (tm (tm a a) (tm a a)) (tm (tm a a) (tm a a))) (tm (tm (tm a a) (tm a a)) (tm (tm a a) (tm a a))))) (tm (tm (tm (tm (tm a a) (tm a a)) (tm (tm a a) (tm a a))) (tm (tm (tm a a) (tm a a)) (tm (tm a a) (tm a a)))) (tm (tm (tm (tm a a) (tm a a)) (tm (tm a a) (tm a a))) (tm (tm (tm a a) (tm a a)) (tm (tm a a) (tm a a))))))) (tm (tm (tm (tm (tm (tm (tm a a) (tm a a)) (tm (tm a a) (tm a a))) (tm (tm (tm a a) (tm a a)) (tm (tm a a) (tm a a)))) (tm (tm (tm (tm a a) (tm a a)) (tm (tm a a) (tm a a))) (tm (tm (tm a a) (tm a a)) (tm (tm a a) (tm a a))))) (tm (tm (tm (tm (tm a a) (tm a a)) (tm (tm a a) (tm a a))) (tm (tm (tm a a) (tm a a)) (tm (tm a a) (tm a a)))) (tm (tm (tm (tm a a) (tm a a)) (tm (tm a a) (tm a a))) (tm (tm (tm a a) (tm a a)) (tm (tm a a) (tm a a)))))) (tm (tm (tm (tm (tm (tm a a) (tm a a)) (tm (tm a a) (tm a a))) (tm (tm (tm a a) (tm a a)) (tm (tm a a) (tm a a)))) (tm (tm (tm (tm a a) (tm a a)) (tm (tm a a) (tm a a))) (tm (tm (tm a a) (tm a a)) (tm (tm a a) (tm a a))))) (tm (tm (tm (tm (tm a a) (tm a a)) (tm (tm a a) (tm a a))) (tm (tm (tm a a) (tm a a)) (tm (tm a a) (tm a a)))) (tm (tm (tm (tm a a) (tm a a)) (tm (tm a a) (tm a a))) (tm (tm (tm a a) (tm a a)) (tm (tm a a) (tm a a))))))) _ ) rfl ?_
 rintro _ w_41 ⟨rfl, hc_40⟩
 have h_42 := h_39.same hc_40
 refine qA (vu8 (tm (tm (tm (tm (tm (tm (tm (1 : UInt8) (tm a a)) (tm (tm a a) (tm a a))) (tm (tm (tm a a) (tm a a)) (tm (tm a a) (tm a a)))) (tm (tm (tm (tm a a) (tm a a)) (tm (tm a a) (tm a a))) (tm (tm (tm a a) (tm a a)) (tm (tm a a) (tm a a))))) (tm (tm (tm (tm (tm a a) (tm a a)) (tm (tm a a) (tm a a))) (tm (tm (tm a a) (tm a a)) (tm (tm a a) (tm a a)))) (tm (tm (tm (tm a a) (tm a a)) (tm (tm a a) (tm a a))) (tm (tm (tm a a) (tm a a)) (tm (tm a a) (tm a a)))))) (tm (tm (tm (tm (tm (tm a a) (tm a a)) (tm (tm a a) (tm a a))) (tm (tm (tm a a) (tm a a)) (tm (tm a a) (tm a a)))) (tm (tm (tm (tm a a) (tm a a)) (tm (tm a a) (tm a a))) (tm (tm (tm a a) (tm a a)) (tm (tm a a) (tm a a))))) (tm (tm (tm (tm (tm a a) (tm a a)) (tm (tm a a) (tm a a))) (tm (tm (tm a a) (tm a a)) (tm (tm a a) (tm a a)))) (tm (tm (tm (tm a a) (tm a a)) (tm (tm a a) (tm a a))) (tm (tm (tm a a) (tm a a)) (tm (tm a a) (tm a a))))))) (tm (tm (tm (tm (tm (tm (tm a a) (tm a a)) (tm (tm a a) (tm a a))) (tm (tm (tm a a) (tm a a)) (tm (tm a a) (tm a a)))) (tm (tm (tm (tm a a) (tm a a)) (tm (tm a a) (tm a a))) (tm (tm (tm a a) (tm a a)) (tm (tm a a) (tm a a))))) (tm (tm (tm (tm (tm a a) (tm a a)) (tm (tm a a) (tm a a))) (tm (tm (tm a a) (tm a a)) (tm (tm a a) (tm a a)))) (tm (tm (tm (tm a a) (tm a a)) (tm (tm a a) (tm a a))) (tm (tm (tm a a) (tm a a)) (tm (tm a a) (tm a a)))))) (tm (tm (tm (tm (tm (tm a a) (tm a a)) (tm (tm a a) (tm a a))) (tm (tm (tm a a) (tm a a)) (tm (tm a a) (tm a a)))) (tm (tm (tm (tm a a) (tm a a)) (tm (tm a a) (tm a a))) (tm (tm (tm a a) (tm a a)) (tm (tm a a) (tm a a))))) (tm (tm (tm (tm (tm a a) (tm a a)) (tm (tm a a) (tm a a))) (tm (tm (tm a a) (tm a a)) (tm (tm a a) (tm a a)))) (tm (tm (tm (tm a a) (tm a a)) (tm (tm a a) (tm a a))) (tm (tm (tm a a) (tm a a)) (tm (tm a a) (tm a a))))))))) rfl rfl ?_
 refine WL.nil (inb_n (thn_n (WP.reg ?_)))
 refine qV rfl (R.bin rfl rfl (bi_add (c := 7) (by omega) (by omega))) (qM (vi 7) rfl rfl ?_)
 refine WL.nil (thn_n ?_)
 refine WI.round ?_
 refine WP.seq (WP.reg ?_)
 refine qV rfl (R.bin rfl rfl (bi_lss (r := false) (by decide))) ?_
 refine WL.nil (thn_n (WP.seq ?_))
 refine WP.condF rfl ?_
 refine WP.exit (thn_x (thn_x (inb_hit (thn_n (WP.seq (WP.reg ?_))))))
 refine qM (vu8 (tm (tm (tm (tm (tm (tm (tm (1 : UInt8) (tm a a)) (tm (tm a a) (tm a a))) (tm (tm (tm a a) (tm a a)) (tm (tm a a) (tm a a)))) (tm (tm (tm (tm a a) (tm a a)) (tm (tm a a) (tm a a))) (tm (tm (tm a a) (tm a a)) (tm (tm a a) (tm a a))))) (tm (tm (tm (tm (tm a a) (tm a a)) (tm (tm a a) (tm a a))) (tm (tm (tm a a) (tm a a)) (tm (tm a a) (tm a a)))) (tm (tm (tm (tm a a) (tm a a)) (tm (tm a a) (tm a a))) (tm (tm (tm a a) (tm a a)) (tm (tm a a) (tm a a)))))) (tm (tm (tm (tm (tm (tm a a) (tm a a)) (tm (tm a a) (tm a a))) (tm (tm (tm a a) (tm a a)) (tm (tm a a) (tm a a)))) (tm (tm (tm (tm a a) (tm a a)) (tm (tm a a) (tm a a))) (tm (tm (tm a a) (tm a a)) (tm (tm a a) (tm a a))))) (tm (tm (tm (tm (tm a a) (tm a a)) (tm (tm a a) (tm a a))) (tm (tm (tm a a) (tm a a)) (tm (tm a a) (tm a a)))) (tm (tm (tm (tm a a) (tm a a)) (tm (tm a a) (tm a a))) (tm (tm (tm a a) (tm a a)) (tm (tm a a) (tm a a))))))) (tm (tm (tm (tm (tm (tm (tm a a) (tm a a)) (tm (tm a a) (tm a a))) (tm (tm (tm a a) (tm a a)) (tm (tm a a) (tm a a)))) (tm (tm (tm (tm a a) (tm a a)) (tm (tm a a) (tm a a))) (tm (tm (tm a a) (tm a a)) (tm (tm a a) (tm a a))))) (tm (tm (tm (tm (tm a a) (tm a a)) (tm (tm a a) (tm a a))) (tm (tm (tm a a) (tm a a)) (tm (tm a a) (tm a a)))) (tm (tm (tm (tm a a) (tm a a)) (tm (tm a a) (tm a a))) (tm (tm (tm a a) (tm a a)) (tm (tm a a) (tm a a)))))) (tm (tm (tm (tm (tm (tm a a) (tm a a)) (tm (tm a a) (tm a a))) (tm (tm (tm a a) (tm a a)) (tm (tm a a) (tm a a)))) (tm (tm (tm (tm a a) (tm a a)) (tm (tm a a) (tm a a))) (tm (tm (tm a a) (tm a a)) (tm (tm a a) (tm a a))))) (tm (tm (tm (tm (tm a a) (tm a a)) (tm (tm a a) (tm a a))) (tm (tm (tm a a) (tm a a)) (tm (tm a a) (tm a a)))) (tm (tm (tm (tm a a) (tm a a)) (tm (tm a a) (tm a a))) (tm (tm (tm a a) (tm a a)) (tm (tm a a) (tm a a))))))))) rfl rfl (qA (vu8 (tm (tm (tm (tm (tm (tm (tm (1 : UInt8) (tm a a)) (tm (tm a a) (tm a a))) (tm (tm (tm a a) (tm a a)) (tm (tm a a) (tm a a)))) (tm (tm (tm (tm a a) (tm a a)) (tm (tm a a) (tm a a))) (tm (tm (tm a a) (tm a a)) (tm (tm a a) (tm a a))))) (tm (tm (tm (tm (tm a a) (tm a a)) (tm (tm a a) (tm a a))) (tm (tm (tm a a) (tm a a)) (tm (tm a a) (tm a a)))) (tm (tm (tm (tm a a) (tm a a)) (tm (tm a a) (tm a a))) (tm (tm (tm a a) (tm a a)) (tm (tm a a) (tm a a)))))) (tm (tm (tm (tm (tm (tm a a) (tm a a)) (tm (tm a a) (tm a a))) (tm (tm (tm a a) (tm a a)) (tm (tm a a) (tm a a)))) (tm (tm (tm (tm a a) (tm a a)) (tm (tm a a) (tm a a))) (tm (tm (tm a a) (tm a a)) (tm (tm a a) (tm a a))))) (tm (tm (tm (tm (tm a a) (tm a a)) (tm (tm a a) (tm a a))) (tm (tm (tm a a) (tm a a)) (tm (tm a a) (tm a a)))) (tm (tm (tm (tm a a) (tm a a)) (tm (tm a a) (tm a a))) (tm (tm (tm a a) (tm a a)) (tm (tm a a) (tm a a))))))) (tm (tm (tm (tm (tm (tm (tm a a) (tm a a)) (tm (tm a a) (tm a a))) (tm (tm (tm a a) (tm a a)) (tm (tm a a) (tm a a)))) (tm (tm (tm (tm a a) (tm a a)) (tm (tm a a) (tm a a))) (tm (tm (tm a a) (tm a a)) (tm (tm a a) (tm a a))))) (tm (tm (tm (tm (tm a a) (tm a a)) (tm (tm a a) (tm a a))) (tm (tm (tm a a) (tm a a)) (tm (tm a a) (tm a a)))) (tm (tm (tm (tm a a) (tm a a)) (tm (tm a a) (tm a a))) (tm (tm (tm a a) (tm a a)) (tm (tm a a) (tm a a)))))) (tm (tm (tm (tm (tm (tm a a) (tm a a)) (tm (tm a a) (tm a a))) (tm (tm (tm a a) (tm a a)) (tm (tm a a) (tm a a)))) (tm (tm (tm (tm a a) (tm a a)) (tm (tm a a) (tm a a))) (tm (tm (tm a a) (tm a a)) (tm (tm a a) (tm a a))))) (tm (tm (tm (tm (tm a a) (tm a a)) (tm (tm a a) (tm a a))) (tm (tm (tm a a) (tm a a)) (tm (tm a a) (tm a a)))) (tm (tm (tm (tm a a) (tm a a)) (tm (tm a a) (tm a a))) (tm (tm (tm a a) (tm a a)) (tm (tm a a) (tm a a))))))))) rfl rfl ?_)
 refine WL.nil (thn_n (WP.ret ?_))
 refine ret_of results97 (RV.tmp (v := (vu8 (tm (tm (tm (tm (tm (tm (tm (1 : UInt8) (tm a a)) (tm (tm a a) (tm a a))) (tm (tm (tm a a) (tm a a)) (tm (tm a a) (tm a a)))) (tm (tm (tm (tm a a) (tm a a)) (tm (tm a a) (tm a a))) (tm (tm (tm a a) (tm a a)) (tm (tm a a) (tm a a))))) (tm (tm (tm (tm (tm a a) (tm a a)) (tm (tm a a) (tm a a))) (tm (tm (tm a a) (tm a a)) (tm (tm a a) (tm a a)))) (tm (tm (tm (tm a a) (tm a a)) (tm (tm a a) (tm a a))) (tm (tm (tm a a) (tm a a)) (tm (tm a a) (tm a a)))))) (tm (tm (tm (tm (tm (tm a a) (tm a a)) (tm (tm a a) (tm a a))) (tm (tm (tm a a) (tm a a)) (tm (tm a a) (tm a a)))) (tm (tm (tm (tm a a) (tm a a)) (tm (tm a a) (tm a a))) (tm (tm (tm a a) (tm a a)) (tm (tm a a) (tm a a))))) (tm (tm (tm (tm (tm a a) (tm a a)) (tm (tm a a) (tm a a))) (tm (tm (tm a a) (tm a a)) (tm (tm a a) (tm a a)))) (tm (tm (tm (tm a a) (tm a a)) (tm (tm a a) (tm a a))) (tm (tm (tm a a) (tm a a)) (tm (tm a a) (tm a a))))))) (tm (tm (tm (tm (tm (tm (tm a a) (tm a a)) (tm (tm a a) (tm a a))) (tm (tm (tm a a) (tm a a)) (tm (tm a a) (tm a a)))) (tm (tm (tm (tm a a) (tm a a)) (tm (tm a a) (tm a a))) (tm (tm (tm a a) (tm a a)) (tm (tm a a) (tm a a))))) (tm (tm (tm (tm (tm a a) (tm a a)) (tm (tm a a) (tm a a))) (tm (tm (tm a a) (tm a a)) (tm (tm a a) (tm a a)))) (tm (tm (tm (tm a a) (tm a a)) (tm (tm a a) (tm a a))) (tm (tm (tm a a) (tm a a)) (tm (tm a a) (tm a a)))))) (tm (tm (tm (tm (tm (tm a a) (tm a a)) (tm (tm a a) (tm a a))) (tm (tm (tm a a) (tm a a)) (tm (tm a a) (tm a a)))) (tm (tm (tm (tm a a) (tm a a)) (tm (tm a a) (tm a a))) (tm (tm (tm a a) (tm a a)) (tm (tm a a) (tm a a))))) (tm (tm (tm (tm (tm a a) (tm a a)) (tm (tm a a) (tm a a))) (tm (tm (tm a a) (tm a a)) (tm (tm a a) (tm a a)))) (tm (tm (tm (tm a a) (tm a a)) (tm (tm a a) (tm a a))) (tm (tm (tm a a) (tm a a)) (tm (tm a a) (tm a a)))))))))) rfl RV.nil) ?_
 exact ⟨rfl, h_42.chgS⟩

theorem c_rtb1 (a : UInt8) (w : World) :
  Cs Try.prog 98 [(vu8 a), (vi 1)].toArray w (fun v w1 => v = (vu8 (rl a 1)) ∧ Chg w w1 []) := by
 refine Cs.of (n := 17) (args := [(vu8 a), (vi 1)]) Try.func98 rfl rfl rfl ?_
 have h_0 := HP.init w
 refine WP.seq (WP.reg ?_)
 refine qA (vu8 0) rfl rfl ?_
 refine WL.nil (thn_n (WP.seq (WP.reg ?_)))
 refine qM (vi 1) rfl rfl (qV rfl (R.conv (b := (1 : UInt64).toNat) rfl underlying3 underlying162 (by decide)) (qV rfl (R.bin (v := (vu64 1)) rfl rfl ((b64_and 1 7).trans rfl)) (qA (vu64 1) rfl rfl ?_)))
 refine WL.nil (thn_n (WP.seq (WP.reg ?_)))
 refine qM (vu8 a) rfl rfl (qM (vu64 1) rfl rfl (qV rfl (R.binR (v := vu8 (shl8 a 1)) rfl rfl (run_shl8 _ _ _ a _ 1)) (qM (vu8 a) rfl rfl (qM (vu64 1) rfl rfl (qV rfl (R.bin (v := (vu64 7)) rfl rfl ((b64_sub 8 1).trans rfl)) (qV rfl (R.binR (v := vu8 (shr8 a 7)) rfl rfl (run_shr8 _ _ _ a _ 7)) (qV rfl (R.bin rfl rfl (b8_or (shl8 a 1) (shr8 a 7))) (qA (vu8 ((shl8 a 1) ||| (shr8 a 7))) rfl rfl ?_))))))))
 refine WL.nil (thn_n (WP.ret ?_))
 refine ret_of results98 (RV.tmp (v := (vu8 ((shl8 a 1) ||| (shr8 a 7)))) rfl RV.nil) ?_
 exact ⟨rfl, h_0.chgS⟩

theorem c_rtb2 (a : UInt8) (w : World) :
  Cs Try.prog 98 [(vu8 a), (vi 2)].toArray w (fun v w1 => v = (vu8 (rl a 2)) ∧ Chg w w1 []) := by
 refine Cs.of (n := 17) (args := [(vu8 a), (vi 2)]) Try.func98 rfl rfl rfl ?_
 have h_0 := HP.init w
 refine WP.seq (WP.reg ?_)
 refine qA (vu8 0) rfl rfl ?_
 refine WL.nil (thn_n (WP.seq (WP.reg ?_)))
 refine qM (vi 2) rfl rfl (qV rfl (R.conv (b := (2 : UInt64).toNat) rfl underlying3 underlying162 (by decide)) (qV rfl (R.bin (v := (vu64 2)) rfl rfl ((b64_and 2 7).trans rfl)) (qA (vu64 2) rfl rfl ?_)))
 refine WL.nil (thn_n (WP.seq (WP.reg ?_)))
 refine qM (vu8 a) rfl rfl (qM (vu64 2) rfl rfl (qV rfl (R.binR (v := vu8 (shl8 a 2)) rfl rfl (run_shl8 _ _ _ a _ 2)) (qM (vu8 a) rfl rfl (qM (vu64 2) rfl rfl (qV rfl (R.bin (v := (vu64 6)) rfl rfl ((b64_sub 8 2).trans rfl)) (qV rfl (R.binR (v := vu8 (shr8 a 6)) rfl rfl (run_shr8 _ _ _ a _ 6)) (qV rfl (R.bin rfl rfl (b8_or (shl8 a 2) (shr8 a 6))) (qA (vu8 ((shl8 a 2) ||| (shr8 a 6))) rfl rfl ?_))))))))
 refine WL.nil (thn_n (WP.ret ?_))
 refine ret_of results98 (RV.tmp (v := (vu8 ((shl8 a 2) ||| (shr8 a 6)))) rfl RV.nil) ?_
 exact ⟨rfl, h_0.chgS⟩

theorem c_rtb3 (a : UInt8) (w : World) :
  Cs Try.prog 98 [(vu8 a), (vi 3)].toArray w (fun v w1 => v = (vu8 (rl a 3)) ∧ Chg w w1 []) := by
 refine Cs.of (n := 17) (args := [(vu8 a), (vi 3)]) Try.func98 rfl rfl rfl ?_
 have h_0 := HP.init w
 refine WP.seq (WP.reg ?_)
 refine qA (vu8 0) rfl rfl ?_
 refine WL.nil (thn_n (WP.seq (WP.reg ?_)))
 refine qM (vi 3) rfl rfl (qV rfl (R.conv (b := (3 : UInt64).toNat) rfl underlying3 underlying162 (by decide)) (qV rfl (R.bin (v := (vu64 3)) rfl rfl ((b64_and 3 7).trans rfl)) (qA (vu64 3) rfl rfl ?_)))
 refine WL.nil (thn_n (WP.seq (WP.reg ?_)))
 refine qM (vu8 a) rfl rfl (qM (vu64 3) rfl rfl (qV rfl (R.binR (v := vu8 (shl8 a 3)) rfl rfl (run_shl8 _ _ _ a _ 3)) (qM (vu8 a) rfl rfl (qM (vu64 3) rfl rfl (qV rfl (R.bin (v := (vu64 5)) rfl rfl ((b64_sub 8 3).trans rfl)) (qV rfl (R.binR (v := vu8 (shr8 a 5)) rfl rfl (run_shr8 _ _ _ a _ 5)) (qV rfl (R.bin rfl rfl (b8_or (shl8 a 3) (shr8 a 5))) (qA (vu8 ((shl8 a 3) ||| (shr8 a 5))) rfl rfl ?_))))))))
 refine WL.nil (thn_n (WP.ret ?_))
 refine ret_of results98 (RV.tmp (v := (vu8 ((shl8 a 3) ||| (shr8 a 5)))) rfl RV.nil) ?_
 exact ⟨rfl, h_0.chgS⟩

theorem c_rtb4 (a : UInt8) (w : World) :
  Cs Try.prog 98 [(vu8 a), (vi 4)].toArray w (fun v w1 => v = (vu8 (rl a 4)) ∧ Chg w w1 []) := by
 refine Cs.of (n := 17) (args := [(vu8 a), (vi 4)]) Try.func98 rfl rfl rfl ?_
 have h_0 := HP.init w
 refine WP.seq (WP.reg ?_)
 refine qA (vu8 0) rfl rfl ?_
 refine WL.nil (thn_n (WP.seq (WP.reg ?_)))
 refine qM (vi 4) rfl rfl (qV rfl (R.conv (b := (4 : UInt64).toNat) rfl underlying3 underlying162 (by decide)) (qV rfl (R.bin (v := (vu64 4)) rfl rfl ((b64_and 4 7).trans rfl)) (qA (vu64 4) rfl rfl ?_)))
 refine WL.nil (thn_n (WP.seq (WP.reg ?_)))
 refine qM (vu8 a) rfl rfl (qM (vu64 4) rfl rfl (qV rfl (R.binR (v := vu8 (shl8 a 4)) rfl rfl (run_shl8 _ _ _ a _ 4)) (qM (vu8 a) rfl rfl (qM (vu64 4) rfl rfl (qV rfl (R.bin (v := (vu64 4)) rfl rfl ((b64_sub 8 4).trans rfl)) (qV rfl (R.binR (v := vu8 (shr8 a 4)) rfl rfl (run_shr8 _ _ _ a _ 4)) (qV rfl (R.bin rfl rfl (b8_or (shl8 a 4) (shr8 a 4))) (qA (vu8 ((shl8 a 4) ||| (shr8 a 4))) rfl rfl ?_))))))))
 refine WL.nil (thn_n (WP.ret ?_))
 refine ret_of results98 (RV.tmp (v := (vu8 ((shl8 a 4) ||| (shr8 a 4)))) rfl RV.nil) ?_
 exact ⟨rfl, h_0.chgS⟩

theorem c_Sub (a : UInt8) (w : World) :
  Cs Try.prog 85 [(vu8 a)].toArray w (fun v w1 => v = (vu8 (sub a)) ∧ Chg w w1 []) := by
 refine Cs.of (n := 21) (args := [(vu8 a)]) Try.func85 rfl rfl rfl ?_
 have h_0 := HP.init w
 refine WP.seq (WP.reg ?_)
 refine qA (vu8 0) rfl rfl ?_
 refine WL.nil (thn_n (WP.seq (WP.reg ?_)))
 refine qM (vu8 a) rfl rfl ?_
 refine WL.call Try.call97 rfl rfl (c_Inverse a _ ) rfl ?_
 rintro _ w_2 ⟨rfl, hc_1⟩
 have h_3 := h_0.same hc_1
 refine qA (vu8 (inv a)) rfl rfl ?_
 refine WL.nil (thn_n (WP.seq (WP.reg ?_)))
 refine qM (vu8 (inv a)) rfl rfl (qV rfl (R.bin rfl rfl (b8_xor (inv a) 99)) (qA (vu8 ((inv a) ^^^ 99)) rfl rfl ?_))
 refine WL.nil (thn_n (WP.seq (WP.seq (WP.reg ?_))))
 refine qM (vi 0) rfl rfl ?_
 refine WL.nil (thn_n (WP.block ?_))
 refine WP.loopU (WI.round ?_)
 refine WP.seq (WP.reg ?_)
 refine qV rfl (R.bin rfl rfl (bi_lss (r := true) (by decide))) ?_
 refine WL.nil (thn_n (WP.seq ?_))
 refine WP.condT rfl ?_
 refine WP.skip (thn_n (WP.seq (WP.block (WP.seq (WP.reg ?_)))))
 refine qM (vi 0) rfl rfl (qA (vi 0) rfl rfl ?_)
 refine WL.nil (thn_n (WP.reg ?_))
 refine qM (vu8 ((inv a) ^^^ 99)) rfl rfl (qM (vu8 (inv a)) rfl rfl (qM (vi 0) rfl rfl (qV rfl (R.bin rfl rfl (bi_add (c := 1) (by omega) (by omega))) ?_)))
 refine WL.call Try.call98 rfl rfl (c_rtb1 (inv a) _ ) rfl ?_
 rintro _ w_5 ⟨rfl, hc_4⟩
 have h_6 := h_3.same hc_4
 refine qV rfl (R.bin rfl rfl (b8_xor ((inv a) ^^^ 99) (rl (inv a) 1))) (qA (vu8 (((inv a) ^^^ 99) ^^^ (rl (inv a) 1))) rfl rfl ?_)
 refine WL.nil (inb_n (thn_n (WP.reg ?_)))
 refine qV rfl (R.bin rfl rfl (bi_add (c := 1) (by omega) (by omega))) (qM (vi 1) rfl rfl ?_)
 refine WL.nil (thn_n ?_)
 refine WI.round ?_
 refine WP.seq (WP.reg ?_)
 refine qV rfl (R.bin rfl rfl (bi_lss (r := true) (by decide))) ?_
 refine WL.nil (thn_n (WP.seq ?_))
 refine WP.condT rfl ?_
 refine WP.skip (thn_n (WP.seq (WP.block (WP.seq (WP.reg ?_)))))
 refine qM (vi 1) rfl rfl (qA (vi 1) rfl rfl ?_)
 refine WL.nil (thn_n (WP.reg ?_))
 refine qM (vu8 (((inv a) ^^^ 99) ^^^ (rl (inv a) 1))) rfl rfl (qM (vu8 (inv a)) rfl rfl (qM (vi 1) rfl rfl (qV rfl (R.bin rfl rfl (bi_add (c := 2) (by omega) (by omega))) ?_)))
 refine WL.call Try.call98 rfl rfl (c_rtb2 (inv a) _ ) rfl ?_
 rintro _ w_8 ⟨rfl, hc_7⟩
 have h_9 := h_6.same hc_7
 refine qV rfl (R.bin rfl rfl (b8_xor (((inv a) ^^^ 99) ^^^ (rl (inv a) 1)) (rl (inv a) 2))) (qA (vu8 ((((inv a) ^^^ 99) ^^^ (rl (inv a) 1)) ^^^ (rl (inv a) 2))) rfl rfl ?_)
 refine WL.nil (inb_n (thn_n (WP.reg ?_)))
 refine qV rfl (R.bin rfl rfl (bi_add (c := 2) (by omega) (by omega))) (qM (vi 2) rfl rfl ?_)
 refine WL.nil (thn_n ?_)
 refine WI.round ?_
 refine WP.seq (WP.reg ?_)
 refine qV rfl (R.bin rfl rfl (bi_lss (r := true) (by decide))) ?_
 refine WL.nil (thn_n (WP.seq ?_))
 refine WP.condT rfl ?_
 refine WP.skip (thn_n (WP.seq (WP.block (WP.seq (WP.reg ?_)))))
 refine qM (vi 2) rfl rfl (qA (vi 2) rfl rfl ?_)
 refine WL.nil (thn_n (WP.reg ?_))
 refine qM (vu8 ((((inv a) ^^^ 99) ^^^ (rl (inv a) 1)) ^^^ (rl (inv a) 2))) rfl rfl (qM (vu8 (inv a)) rfl rfl (qM (vi 2) rfl rfl (qV rfl (R.bin rfl rfl (bi_add (c := 3) (by omega) (by omega))) ?_)))
 refine WL.call Try.call98 rfl rfl (c_rtb3 (inv a) _ ) rfl ?_
 rintro _ w_11 ⟨rfl, hc_10⟩
 have h_12 := h_9.same hc_10
 refine qV rfl (R.bin rfl rfl (b8_xor ((((inv a) ^^^ 99) ^^^ (rl (inv a) 1)) ^^^ (rl (inv a) 2)) (rl (inv a) 3))) (qA (vu8 (((((inv a) ^^^ 99) ^^^ (rl (inv a) 1)) ^^^ (rl (inv a) 2)) ^^^ (rl (inv a) 3))) rfl rfl ?_)
 refine WL.nil (inb_n (thn_n (WP.reg ?_)))
 refine qV rfl (R.bin rfl rfl (bi_add (c := 3) (by omega) (by omega))) (qM (vi 3) rfl rfl ?_)
 refine WL.nil (thn_n ?_)
 refine WI.round ?_
 refine WP.seq (WP.reg ?_)
 refine qV rfl (R.bin rfl rfl (bi_lss (r := true) (by decide))) ?_
 refine WL.nil (thn_n (WP.seq ?_))
 refine WP.condT rfl ?_
 refine WP.skip (thn_n (WP.seq (WP.block (WP.seq (WP.reg ?_)))))
 refine qM (vi 3) rfl rfl (qA (vi 3) rfl rfl ?_)
 refine WL.nil (thn_n (WP.reg ?_))
 refine qM (vu8 (((((inv a) ^^^ 99) ^^^ (rl (inv a) 1)) ^^^ (rl (inv a) 2)) ^^^ (rl (inv a) 3))) rfl rfl (qM (vu8 (inv a)) rfl rfl (qM (vi 3) rfl rfl (qV rfl (R.bin rfl rfl (bi_add (c := 4) (by omega) (by omega))) ?_)))
 refine WL.call Try.call98 rfl rfl (c_rtb4 (inv a) _ ) rfl ?_
 rintro _ w_14 ⟨rfl, hc_13⟩
 have h_15 := h_12.same hc_13
 refine qV rfl (R.bin rfl rfl (b8_xor (((((inv a) ^^^ 99) ^^^ (rl (inv a) 1)) ^^^ (rl (inv a) 2)) ^^^ (rl (inv a) 3)) (rl (inv a) 4))) (qA (vu8 ((((((inv a) ^^^ 99) ^^^ (rl (inv a) 1)) ^^^ (rl (inv a) 2)) ^^^ (rl (inv a) 3)) ^^^ (rl (inv a) 4))) rfl rfl ?_)
 refine WL.nil (inb_n (thn_n (WP.reg ?_)))
 refine qV rfl (R.bin rfl rfl (bi_add (c := 4) (by omega) (by omega))) (qM (vi 4) rfl rfl ?_)
 refine WL.nil (thn_n ?_)
 refine WI.round ?_
 refine WP.seq (WP.reg ?_)
 refine qV rfl (R.bin rfl rfl (bi_lss (r := false) (by decide))) ?_
 refine WL.nil (thn_n (WP.seq ?_))
 refine WP.condF rfl ?_
 refine WP.exit (thn_x (thn_x (inb_hit (thn_n (WP.seq (WP.reg ?_))))))
 refine qM (vu8 ((((((inv a) ^^^ 99) ^^^ (rl (inv a) 1)) ^^^ (rl (inv a) 2)) ^^^ (rl (inv a) 3)) ^^^ (rl (inv a) 4))) rfl rfl (qA (vu8 ((((((inv a) ^^^ 99) ^^^ (rl (inv a) 1)) ^^^ (rl (inv a) 2)) ^^^ (rl (inv a) 3)) ^^^ (rl (inv a) 4))) rfl rfl ?_)
 refine WL.nil (thn_n (WP.ret ?_))
 refine ret_of results85 (RV.tmp (v := (vu8 ((((((inv a) ^^^ 99) ^^^ (rl (inv a) 1)) ^^^ (rl (inv a) 2)) ^^^ (rl (inv a) 3)) ^^^ (rl (inv a) 4)))) rfl RV.nil) ?_
 exact ⟨rfl, h_15.chgS⟩

theorem c_tableSub  (w : World) :
  Cs Try.prog 84 [(Value.func (Fn.func 85) [].toArray [].toArray)].toArray w (fun v w1 => v = (.agg ⟨(tabL sub).map vu8⟩) ∧ Chg w w1 []) := by
 refine Cs.of (n := 15) (args := [(Value.func (Fn.func 85) [].toArray [].toArray)]) Try.func84 rfl rfl rfl ?_
 have h_0 := HP.init w
 refine WP.seq (WP.reg ?_)
 refine WL.alloc (segs := [(256, (zB 256).map vu8)]) h_0 (zv typeInfo142 rfl) rfl (sC (s8 lr) sN) rfl (fun b_1 w_2 h_3 => ?_)
 refine WL.nil (thn_n (WP.seq (WP.seq (WP.reg ?_))))
 refine qM (vi 0) rfl rfl ?_
 refine WL.nil (thn_n (WP.block ?_))
 refine WP.loopG (G := Nat) [3, 4, 5, 6, 7, 8, 9, 10, 11, 12, 13] (fun k => [(4, (vn k))]) (fun k m w1 => HP w w1 [.blk b_1 .nw 142 [(256, (pre 256 (fun i => sub (UInt8.ofNat i)) k).map vu8)]] ∧ (k ≤ 256) ∧ m = 256 - k) ⟨0, _, ⟨rfl, trivial⟩, (by rw [pre_0]; exact h_3), (by omega), rfl⟩ ?_
 rintro k m_6 J_7 w_4 ⟨h_5, hk, rfl⟩
 refine WP.seq (WP.reg ?_)
 refine qV rfl (R.bin rfl rfl (bi_lss (r := decide ((((k : Nat) : Int) : Int) < 256)) rfl)) ?_
 refine WL.nil (thn_n (WP.seq ?_))
 refine WP.cond (b := decide ((((k : Nat) : Int) : Int) < 256)) rfl (fun c_8 => ?_) (fun c_8 => ?_)
 ·have p_9 := of_decide_eq_true c_8
  refine WP.skip (thn_n (WP.seq (WP.block (WP.seq (WP.reg ?_)))))
  refine qM (vn k) rfl rfl (qA (vn k) rfl rfl ?_)
  refine WL.nil (thn_n (WP.reg ?_))
  refine qM (vn k) rfl rfl (qM (Value.func (Fn.func 85) [].toArray [].toArray) rfl rfl (qM (vn k) rfl rfl (qV rfl (R.conv (b := ((UInt8.ofNat k) : UInt8).toNat) rfl underlying3 underlying5 (w8_nat k)) ?_)))
  refine WL.call Try.call85 rfl rfl (c_Sub (UInt8.ofNat k) _ ) rfl ?_
  rintro _ w_11 ⟨rfl, hc_10⟩
  have h_12 := h_5.same hc_10
  refine qV rfl (R.indexA (b := b_1) (off := 0) (off' := (0 + k)) (i := k) rfl rfl rfl (by omega) underlying142 sizeOf5 (by rw [Nat.mul_one])) ?_
  refine WL.storeE (b := b_1) (off := (0 + k)) (i := k) (v := (vu8 (sub (UInt8.ofNat k)))) (cs' := ((pre 256 (fun i => sub (UInt8.ofNat i)) k).set k (sub (UInt8.ofNat k))).map vu8) h_12 rfl rfl sizeOf5 rfl At.h (by decide) Sg.h rfl (lt_len (K := 256) (len_map (pre_len hk)) (by omega)) (set_u8 _ _ _) (fun w_13 h_14 => ?_)
  refine WL.nil (inb_n (thn_n (WP.reg ?_)))
  refine qV rfl (R.bin rfl rfl (bi_add (c := ((k + 1 : Nat) : Int)) (by omega) (by omega))) (qM (vn (k + 1)) rfl rfl ?_)
  refine WL.nil (thn_n ?_)
  rw [pre_set (by omega) rfl] at h_14
  exact ⟨k + 1, _, (by omega), (Ag.upd rfl (U2 rfl rfl (U4 rfl rfl rfl rfl (U4 rfl rfl rfl rfl (Ag.updL rfl (Ag.mix _ _ _)))))), ⟨rfl, trivial⟩, h_14, (by omega), rfl⟩
 ·have p_15 := of_decide_eq_false c_8
  refine WP.exit (thn_x (thn_x (inb_hit (thn_n (WP.seq (WP.reg ?_))))))
  refine qV rfl (R.loadA [] [(256, (pre 256 (fun i => sub (UInt8.ofNat i)) k).map vu8)] [] (cs := (pre 256 (fun i => sub (UInt8.ofNat i)) k).map vu8) rfl isAgg142 sizeOf142 (h_5.ok _ M0) rfl rfl rfl rfl) ?_
  refine WL.storeA [] [(256, (pre 256 (fun i => sub (UInt8.ofNat i)) k).map vu8)] [(256, (pre 256 (fun i => sub (UInt8.ofNat i)) k).map vu8)] [] h_5 rfl rfl sizeOf142 At.h (by decide) rfl rfl rfl rfl rfl rfl (sC (s8 (pre_len hk)) sN) (fun w_16 h_17 => ?_)
  refine WL.nil (thn_n (WP.ret ?_))
  refine ret_of results84 (RV.cell rfl (h_17.loadA (cs := (pre 256 (fun i => sub (UInt8.ofNat i)) k).map vu8) isAgg142 sizeOf142 M0 rfl rfl) RV.nil) ?_
  have hk2 : k = 256 := by omega
  subst hk2
  exact ⟨by rw [pre_all]; rfl, h_17.chgS⟩

theorem c_with (s k : List UInt8) (hs : s.length = 16) (hk : k.length = 16) (w : World) :
  Cs Try.prog 87 [(.agg ⟨s.map vu8⟩), (.agg ⟨k.map vu8⟩)].toArray w (fun v w1 => v = (.agg ⟨(xorL s k).map vu8⟩) ∧ Chg w w1 []) := by
 refine Cs.of (n := 19) (args := [(.agg ⟨s.map vu8⟩), (.agg ⟨k.map vu8⟩)]) Try.func87 rfl rfl rfl ?_
 have h_0 := HP.init w
 refine WP.seq (WP.reg ?_)
 refine WL.box (segs := [(16, s.map vu8)]) h_0 rfl rfl (sC (s8 hs) sN) rfl (fun b_1 w_2 h_3 => ?_)
 refine WL.box (segs := [(16, k.map vu8)]) h_3 rfl rfl (sC (s8 hk) sN) rfl (fun b_4 w_5 h_6 => ?_)
 refine WL.alloc (segs := [(16, (zB 16).map vu8)]) h_6 (zv typeInfo110 rfl) rfl (sC (s8 lr) sN) rfl (fun b_7 w_8 h_9 => ?_)
 refine WL.nil (thn_n (WP.seq (WP.seq (WP.reg ?_))))
 refine qM (vi 0) rfl rfl ?_
 refine WL.nil (thn_n (WP.block ?_))
 refine WP.loopG (G := Nat) [5, 6, 7, 8, 9, 10, 11, 12, 13, 14, 15, 16, 17] (fun i => [(6, (vn i))]) (fun i m w1 => HP w w1 [.blk b_7 .nw 110 [(16, (zB 16).map vu8)], .blk b_4 .nw 110 [(16, k.map vu8)], .blk b_1 .nw 110 [(16, (xk s k i).map vu8)]] ∧ (i ≤ 16) ∧ m = 16 - i) ⟨0, _, ⟨rfl, trivial⟩, (by rw [xk_0]; exact h_9), (by omega), rfl⟩ ?_
 rintro i m_12 J_13 w_10 ⟨h_11, hi, rfl⟩
 refine WP.seq (WP.reg ?_)
 refine qV rfl (R.bin rfl rfl (bi_lss (r := decide ((((i : Nat) : Int) : Int) < 16)) rfl)) ?_
 refine WL.nil (thn_n (WP.seq ?_))
 refine WP.cond (b := decide ((((i : Nat) : Int) : Int) < 16)) rfl (fun c_14 => ?_) (fun c_14 => ?_)
 ·have p_15 := of_decide_eq_true c_14
  refine WP.skip (thn_n (WP.seq (WP.block (WP.seq (WP.reg ?_)))))
  refine qM (vn i) rfl rfl (qA (vn i) rfl rfl ?_)
  refine WL.nil (thn_n ?_)
  refine WP.drawZ 8 (SL w.heap.size [.blk b_7 .nw 110 [(16, (zB 16).map vu8)], .blk b_4 .nw 110 [(16, k.map vu8)], .blk b_1 .nw 110 [(16, (xk s k i).map vu8)]]) (.q 0 (.q 1 (.q 2 (.q 3 (.q 4 (.q 5 (.q 6 (.q 7 (.s 8 .nil))))))))) (by kernel_rfl) (by kernel_rfl) rfl (by kernel_rfl) (fun w_16 hc_18 => (SL.cons ((h_11.same hc_18).ok _ M0) (SL.cons ((h_11.same hc_18).ok _ M1) (SL.cons ((h_11.same hc_18).ok _ M2) (SL.nil _ _))))) (fun w_16 hc_18 => ?_)
  have h_17 := h_11.same hc_18
  refine ZT.q rfl (Wn.no rfl) rfl rfl (fun wq hS => R.move (v := (vn i)) rfl) ?_
  refine ZT.q rfl (Wn.no rfl) rfl rfl (fun wq hS => R.indexA (b := b_1) (off := 0) (off' := (0 + i)) (i := i) rfl rfl rfl (by omega) underlying110 sizeOf5 (by rw [Nat.mul_one])) ?_
  refine ZT.q rfl (Wn.no rfl) rfl rfl (fun wq hS => R.loadE (b := b_1) (off := (0 + i)) (i := i) (v := (vu8 ((xk s k i).getD i 0))) rfl isAgg5 (hS _ M2) Sg.h rfl (get_u8 (lt_len (K := 16) (xk_len hs hk) (by omega)))) ?_
  refine ZT.q rfl (Wn.no rfl) rfl rfl (fun wq hS => R.move (v := (vn i)) rfl) ?_
  refine ZT.q rfl (Wn.no rfl) rfl rfl (fun wq hS => R.indexA (b := b_4) (off := 0) (off' := (0 + i)) (i := i) rfl rfl rfl (by omega) underlying110 sizeOf5 (by rw [Nat.mul_one])) ?_
  refine ZT.q rfl (Wn.no rfl) rfl rfl (fun wq hS => R.loadE (b := b_4) (off := (0 + i)) (i := i) (v := (vu8 (k.getD i 0))) rfl isAgg5 (hS _ M1) Sg.h rfl (get_u8 (lt_len (K := 16) hk (by omega)))) ?_
  refine ZT.q rfl (Wn.no rfl) rfl rfl (fun wq hS => R.bin rfl rfl (b8_xor ((xk s k i).getD i 0) (k.getD i 0))) ?_
  refine ZT.q rfl (Wn.no rfl) rfl rfl (fun wq hS => R.indexA (b := b_1) (off := 0) (off' := (0 + i)) (i := i) rfl rfl rfl (by omega) underlying110 sizeOf5 (by rw [Nat.mul_one])) ?_
  refine ZT.s ?_
  refine OpZ.last rfl (Wn.no rfl) ?_
  refine WL.storeE (b := b_1) (off := (0 + i)) (i := i) (v := (vu8 (((xk s k i).getD i 0) ^^^ (k.getD i 0)))) (cs' := ((xk s k i).set i (((xk s k i).getD i 0) ^^^ (k.getD i 0))).map vu8) h_17 rfl rfl sizeOf5 rfl Y2 (by decide) Sg.h rfl (lt_len (K := 16) (len_map (xk_len hs hk)) (by omega)) (set_u8 _ _ _) (fun w_19 h_20 => ?_)
  refine WL.nil (ZT.nil (inb_n (thn_n (WP.reg ?_))))
  refine qV rfl (R.bin rfl rfl (bi_add (c := ((i + 1 : Nat) : Int)) (by omega) (by omega))) (qM (vn (i + 1)) rfl rfl ?_)
  refine WL.nil (thn_n ?_)
  rw [xk_step hs hk (by omega)] at h_20
  exact ⟨i + 1, _, (by omega), (Ag.upd rfl (U4 rfl rfl rfl rfl (U4 rfl rfl rfl rfl (U4 rfl rfl rfl rfl (Ag.updL rfl (Ag.mix _ _ _)))))), ⟨rfl, trivial⟩, h_20, (by omega), rfl⟩
 ·have p_21 := of_decide_eq_false c_14
  refine WP.exit (thn_x (thn_x (inb_hit (thn_n (WP.seq (WP.reg ?_))))))
  refine qV rfl (R.loadA [] [(16, (xk s k i).map vu8)] [] (cs := (xk s k i).map vu8) rfl isAgg110 sizeOf110 (h_11.ok _ M2) rfl rfl rfl rfl) ?_
  refine WL.storeA [] [(16, (zB 16).map vu8)] [(16, (xk s k i).map vu8)] [] h_11 rfl rfl sizeOf110 At.h (by decide) rfl rfl rfl rfl rfl rfl (sC (s8 (xk_len hs hk)) sN) (fun w_22 h_23 => ?_)
  refine WL.nil (thn_n (WP.ret ?_))
  refine ret_of results87 (RV.cell rfl (h_23.loadA (cs := (xk s k i).map vu8) isAgg110 sizeOf110 M0 rfl rfl) RV.nil) ?_
  have hi2 : i = 16 := by omega
  subst hi2
  exact ⟨by rw [xk_16 hs hk]; rfl, h_23.chgS⟩

theorem c_mix1 (c b : Nat) (hc : c < 4) (w : World) :
  Cs Try.prog 100 [(vi ((c : Nat) : Int)), (.pointer (some ⟨b, 0, none⟩))].toArray w (fun v w1 => v = (.slice (some ⟨b, (0 + 4 * c), none⟩) 4 (16 - 4 * c)) ∧ Chg w w1 []) := by
 refine Cs.of (n := 10) (args := [(vn c), (pO b 0)]) Try.func100 rfl rfl rfl ?_
 have h_0 := HP.init w
 refine WP.seq (WP.reg ?_)
 refine qA (.slice none 0 0) rfl rfl ?_
 refine WL.nil (thn_n (WP.seq (WP.reg ?_)))
 refine qM (vn c) rfl rfl (qV rfl (R.bin rfl rfl (bi_mul (c := ((4 * c : Nat) : Int)) (by omega) (by omega))) (qM (vn c) rfl rfl (qV rfl (R.bin rfl rfl (bi_mul (c := ((4 * c : Nat) : Int)) (by omega) (by omega))) (qV rfl (R.bin rfl rfl (bi_add (c := ((4 * c + 4 : Nat) : Int)) (by omega) (by omega))) (qV rfl (R.sliceA (b := b) (off := 0) (off' := (0 + (4 * c))) (l := 4 * c) (h := 4 * c + 4) rfl (EvB.it (l := 4 * c) rfl rfl) (EvB.it (l := 4 * c + 4) rfl rfl) (by omega) (by omega) underlying110 sizeOf5 (by rw [if_neg (by omega), Nat.mul_one])) (qA (.slice (some ⟨b, (0 + (4 * c)), none⟩) ((4 * c + 4) - (4 * c)) (16 - (4 * c))) rfl rfl ?_))))))
 refine WL.nil (thn_n (WP.ret ?_))
 refine ret_of results100 (RV.tmp (v := (.slice (some ⟨b, (0 + (4 * c)), none⟩) ((4 * c + 4) - (4 * c)) (16 - (4 * c)))) rfl RV.nil) ?_
 exact ⟨by rw [show 4 * c + 4 - 4 * c = 4 by omega]; rfl, h_0.chgS⟩

theorem c_mix (s f : List UInt8) (hs : s.length = 16) (hf : f.length = 4) (w : World) :
  Cs Try.prog 88 [(.agg ⟨s.map vu8⟩), (.agg ⟨f.map vu8⟩)].toArray w (fun v w1 => v = (.agg ⟨(mixL s f).map vu8⟩) ∧ Chg w w1 []) := by
 refine Cs.of (n := 41) (args := [(.agg ⟨s.map vu8⟩), (.agg ⟨f.map vu8⟩)]) Try.func88 rfl rfl rfl ?_
 have h_0 := HP.init w
 refine WP.seq (WP.reg ?_)
 refine WL.box (segs := [(16, s.map vu8)]) h_0 rfl rfl (sC (s8 hs) sN) rfl (fun b_1 w_2 h_3 => ?_)
 refine WL.box (segs := [(4, f.map vu8)]) h_3 rfl rfl (sC (s8 hf) sN) rfl (fun b_4 w_5 h_6 => ?_)
 refine WL.alloc (segs := [(16, (zB 16).map vu8)]) h_6 (zv typeInfo110 rfl) rfl (sC (s8 lr) sN) rfl (fun b_7 w_8 h_9 => ?_)
 refine WL.nil (thn_n (WP.seq (WP.reg ?_)))
 refine qV rfl (R.makeFuncL (fi := []) (ca := [(pO b_1 0)]) rfl rfl) (qA (Value.func (Fn.func 100) [].toArray [(Value.pointer (some ⟨b_1, 0, none⟩))].toArray) rfl rfl ?_)
 refine WL.nil (thn_n (WP.seq (WP.seq (WP.reg ?_))))
 refine qM (vi 0) rfl rfl ?_
 refine WL.nil (thn_n (WP.block ?_))
 refine WP.loopG (G := Nat) [6, 7, 8, 10, 11, 12, 13, 14, 15, 16, 17, 18, 19, 20, 21, 22, 23, 24, 25, 26, 27, 28, 29, 30, 31, 32, 33, 34, 35, 36, 37, 38, 39] (fun i => [(10, (vn i))]) (fun i m w1 => HP w w1 [.blk b_7 .nw 110 [(16, (pre 16 (mb s f) i).map vu8)], .blk b_4 .nw 151 [(4, f.map vu8)], .blk b_1 .nw 110 [(16, s.map vu8)]] ∧ (i ≤ 16) ∧ m = 16 - i) ⟨0, _, ⟨rfl, trivial⟩, (by rw [pre_0]; exact h_9), (by omega), rfl⟩ ?_
 rintro i m_12 J_13 w_10 ⟨h_11, hi, rfl⟩
 refine WP.seq (WP.reg ?_)
 refine qV rfl (R.bin rfl rfl (bi_lss (r := decide ((((i : Nat) : Int) : Int) < 16)) rfl)) ?_
 refine WL.nil (thn_n (WP.seq ?_))
 refine WP.cond (b := decide ((((i : Nat) : Int) : Int) < 16)) rfl (fun c_14 => ?_) (fun c_14 => ?_)
 ·have p_15 := of_decide_eq_true c_14
  refine WP.skip (thn_n (WP.seq (WP.block (WP.seq (WP.reg ?_)))))
  refine qM (vn i) rfl rfl (qA (vn i) rfl rfl ?_)
  refine WL.nil (thn_n (WP.seq (WP.reg ?_)))
  refine qM (Value.func (Fn.func 100) [].toArray [(Value.pointer (some ⟨b_1, 0, none⟩))].toArray) rfl rfl (qM (vn i) rfl rfl (qV rfl (R.bin rfl rfl (bi_quo (c := ((i / 4 : Nat) : Int)) (by first | omega | exact ⟨Int.natCast_nonneg _, by omega⟩) (by omega) (by first | omega | rfl))) ?_))
  refine WL.call Try.call100 rfl rfl (c_mix1 (i / 4) b_1 (by omega) _) rfl ?_
  rintro _ w_16 ⟨rfl, hc_17⟩
  have h_18 := h_11.same hc_17
  refine qV rfl (R.lenS (a := some ⟨b_1, (0 + 4 * (i / 4)), none⟩) (m := 4) rfl rfl underlying54) (qM (vi 0) rfl rfl ?_)
  refine WL.nil (thn_n (WP.block ?_))
  refine WP.loopU (WI.round ?_)
  refine WP.seq (WP.reg ?_)
  refine qV rfl (R.bin rfl rfl (bi_lss (r := true) (by decide))) ?_
  refine WL.nil (thn_n (WP.seq ?_))
  refine WP.condT rfl ?_
  refine WP.skip (thn_n (WP.seq (WP.block (WP.seq (WP.reg ?_)))))
  refine qM (vi 0) rfl rfl (qV rfl (R.indexP (b := b_1) (off := (0 + (4 * (i / 4)))) (off' := (0 + (4 * (i / 4)))) (i := 0) rfl rfl rfl (by decide) underlying54 sizeOf5 (by omega)) (qV rfl (R.loadE (b := b_1) (off := (0 + (4 * (i / 4)))) (i := 4 * (i / 4)) (v := (vu8 (s.getD (4 * (i / 4)) 0))) rfl isAgg5 (h_18.ok _ M2) Sg.h rfl (get_u8 (lt_len (K := 16) hs (by omega)))) (qA (vi 0) rfl rfl (qA (vu8 (s.getD (4 * (i / 4)) 0)) rfl rfl ?_))))
  refine WL.nil (thn_n ?_)
  refine WP.drawZ 15 (SL w.heap.size [.blk b_7 .nw 110 [(16, (pre 16 (mb s f) i).map vu8)], .blk b_4 .nw 151 [(4, f.map vu8)], .blk b_1 .nw 110 [(16, s.map vu8)]]) (.q 0 (.q 1 (.q 2 (.q 3 (.q 4 (.q 5 (.q 6 (.q 7 (.q 8 (.q 9 (.q 10 (.q 11 (.s 12 (.q 13 (.q 14 (.s 15 .nil)))))))))))))))) (by kernel_rfl) (by kernel_rfl) rfl (by kernel_rfl) (fun w_19 hc_21 => (SL.cons ((h_18.same hc_21).ok _ M0) (SL.cons ((h_18.same hc_21).ok _ M1) (SL.cons ((h_18.same hc_21).ok _ M2) (SL.nil _ _))))) (fun w_19 hc_21 => ?_)
  have h_20 := h_18.same hc_21
  refine ZT.q rfl (Wn.no rfl) rfl rfl (fun wq hS => R.move (v := (vn i)) rfl) ?_
  refine ZT.q rfl (Wn.no rfl) rfl rfl (fun wq hS => R.indexA (b := b_7) (off := 0) (off' := (0 + i)) (i := i) rfl rfl rfl (by omega) underlying110 sizeOf5 (by rw [Nat.mul_one])) ?_
  refine ZT.q rfl (Wn.no rfl) rfl rfl (fun wq hS => R.loadE (b := b_7) (off := (0 + i)) (i := i) (v := (vu8 ((pre 16 (mb s f) i).getD i 0))) rfl isAgg5 (hS _ M0) Sg.h rfl (get_u8 (lt_len (K := 16) (pre_len hi) (by omega)))) ?_
  refine ZT.q rfl (Wn.no rfl) rfl rfl (fun wq hS => R.move (v := (vu8 (s.getD (4 * (i / 4)) 0))) rfl) ?_
  refine ZT.q rfl (Wn.no rfl) rfl rfl (fun wq hS => R.move (v := (vi 0)) rfl) ?_
  refine ZT.q rfl (Wn.no rfl) rfl rfl (fun wq hS => R.move (v := (vn i)) rfl) ?_
  refine ZT.q rfl (Wn.no rfl) rfl rfl (fun wq hS => R.bin rfl rfl (bi_rem (c := ((i % 4 : Nat) : Int)) (Int.natCast_nonneg _) (by omega) (by first | omega | rfl))) ?_
  refine ZT.q rfl (Wn.no rfl) rfl rfl (fun wq hS => R.bin rfl rfl (bi_sub (c := 0 - ((i % 4 : Nat) : Int)) (by omega) (by omega))) ?_
  refine ZT.q rfl (Wn.no rfl) rfl rfl (fun wq hS => R.bin rfl rfl (bi_add (c := ((0 + 4 - i % 4 : Nat) : Int)) (by omega) (by omega))) ?_
  refine ZT.q rfl (Wn.no rfl) rfl rfl (fun wq hS => R.bin rfl rfl (bi_rem (c := (((0 + 4 - i % 4) % 4 : Nat) : Int)) (Int.natCast_nonneg _) (by omega) (by first | omega | rfl))) ?_
  refine ZT.q rfl (Wn.no rfl) rfl rfl (fun wq hS => R.indexA (b := b_4) (off := 0) (off' := (0 + ((0 + 4 - i % 4) % 4))) (i := (0 + 4 - i % 4) % 4) rfl rfl rfl (by omega) underlying151 sizeOf5 (by rw [Nat.mul_one])) ?_
  refine ZT.q rfl (Wn.no rfl) rfl rfl (fun wq hS => R.loadE (b := b_4) (off := (0 + ((0 + 4 - i % 4) % 4))) (i := (0 + 4 - i % 4) % 4) (v := (vu8 (f.getD ((0 + 4 - i % 4) % 4) 0))) rfl isAgg5 (hS _ M1) Sg.h rfl (get_u8 (lt_len (K := 4) hf (by omega)))) ?_
  refine ZT.s ?_
  refine OpZ.one rfl (Wn.no rfl) ?_
  refine WL.call Try.call101 rfl rfl (c_Times (s.getD (4 * (i / 4)) 0) (f.getD ((0 + 4 - i % 4) % 4) 0) _ ) rfl ?_
  rintro _ w_23 ⟨rfl, hc_22⟩
  have h_24 := h_20.same hc_22
  refine WL.nil ?_
  refine ⟨(N0_1_2 h_24.ok), ?_⟩
  refine ZT.q rfl (Wn.no rfl) rfl rfl (fun wq hS => R.bin rfl rfl (b8_xor ((pre 16 (mb s f) i).getD i 0) (tm (s.getD (4 * (i / 4)) 0) (f.getD ((0 + 4 - i % 4) % 4) 0)))) ?_
  refine ZT.q rfl (Wn.no rfl) rfl rfl (fun wq hS => R.indexA (b := b_7) (off := 0) (off' := (0 + i)) (i := i) rfl rfl rfl (by omega) underlying110 sizeOf5 (by rw [Nat.mul_one])) ?_
  refine ZT.s ?_
  refine OpZ.last rfl (Wn.no rfl) ?_
  refine WL.storeE (b := b_7) (off := (0 + i)) (i := i) (v := (vu8 (((pre 16 (mb s f) i).getD i 0) ^^^ (tm (s.getD (4 * (i / 4)) 0) (f.getD ((0 + 4 - i % 4) % 4) 0))))) (cs' := ((pre 16 (mb s f) i).set i (((pre 16 (mb s f) i).getD i 0) ^^^ (tm (s.getD (4 * (i / 4)) 0) (f.getD ((0 + 4 - i % 4) % 4) 0)))).map vu8) h_24 rfl rfl sizeOf5 rfl At.h (by decide) Sg.h rfl (lt_len (K := 16) (len_map (pre_len hi)) (by omega)) (set_u8 _ _ _) (fun w_25 h_26 => ?_)
  refine WL.nil (ZT.nil (inb_n (thn_n (WP.reg ?_))))
  refine qV rfl (R.bin rfl rfl (bi_add (c := 1) (by omega) (by omega))) (qM (vi 1) rfl rfl ?_)
  refine WL.nil (thn_n ?_)
  refine WI.round ?_
  refine WP.seq (WP.reg ?_)
  refine qV rfl (R.bin rfl rfl (bi_lss (r := true) (by decide))) ?_
  refine WL.nil (thn_n (WP.seq ?_))
  refine WP.condT rfl ?_
  refine WP.skip (thn_n (WP.seq (WP.block (WP.seq (WP.reg ?_)))))
  refine qM (vi 1) rfl rfl (qV rfl (R.indexP (b := b_1) (off := (0 + (4 * (i / 4)))) (off' := (1 + (4 * (i / 4)))) (i := 1) rfl rfl rfl (by decide) underlying54 sizeOf5 (by omega)) (qV rfl (R.loadE (b := b_1) (off := (1 + (4 * (i / 4)))) (i := 4 * (i / 4) + 1) (v := (vu8 (s.getD (4 * (i / 4) + 1) 0))) rfl isAgg5 (h_26.ok _ M2) Sg.h (by omega) (get_u8 (lt_len (K := 16) hs (by omega)))) (qA (vi 1) rfl rfl (qA (vu8 (s.getD (4 * (i / 4) + 1) 0)) rfl rfl ?_))))
  refine WL.nil (thn_n ?_)
  refine WP.drawZ 15 (SL w.heap.size [.blk b_7 .nw 110 [(16, ((pre 16 (mb s f) i).set i (((pre 16 (mb s f) i).getD i 0) ^^^ (tm (s.getD (4 * (i / 4)) 0) (f.getD ((0 + 4 - i % 4) % 4) 0)))).map vu8)], .blk b_4 .nw 151 [(4, f.map vu8)], .blk b_1 .nw 110 [(16, s.map vu8)]]) (.q 0 (.q 1 (.q 2 (.q 3 (.q 4 (.q 5 (.q 6 (.q 7 (.q 8 (.q 9 (.q 10 (.q 11 (.s 12 (.q 13 (.q 14 (.s 15 .nil)))))))))))))))) (by kernel_rfl) (by kernel_rfl) rfl (by kernel_rfl) (fun w_27 hc_29 => (SL.cons ((h_26.same hc_29).ok _ M0) (SL.cons ((h_26.same hc_29).ok _ M1) (SL.cons ((h_26.same hc_29).ok _ M2) (SL.nil _ _))))) (fun w_27 hc_29 => ?_)
  have h_28 := h_26.same hc_29
  refine ZT.q rfl (Wn.no rfl) rfl rfl (fun wq hS => R.move (v := (vn i)) rfl) ?_
  refine ZT.q rfl (Wn.no rfl) rfl rfl (fun wq hS => R.indexA (b := b_7) (off := 0) (off' := (0 + i)) (i := i) rfl rfl rfl (by omega) underlying110 sizeOf5 (by rw [Nat.mul_one])) ?_
  refine ZT.q rfl (Wn.no rfl) rfl rfl (fun wq hS => R.loadE (b := b_7) (off := (0 + i)) (i := i) (v := (vu8 (((pre 16 (mb s f) i).set i (((pre 16 (mb s f) i).getD i 0) ^^^ (tm (s.getD (4 * (i / 4)) 0) (f.getD ((0 + 4 - i % 4) % 4) 0)))).getD i 0))) rfl isAgg5 (hS _ M0) Sg.h rfl (get_u8 (lt_len (K := 16) (len_set (pre_len hi) _ _) (by omega)))) ?_
  refine ZT.q rfl (Wn.no rfl) rfl rfl (fun wq hS => R.move (v := (vu8 (s.getD (4 * (i / 4) + 1) 0))) rfl) ?_
  refine ZT.q rfl (Wn.no rfl) rfl rfl (fun wq hS => R.move (v := (vi 1)) rfl) ?_
  refine ZT.q rfl (Wn.no rfl) rfl rfl (fun wq hS => R.move (v := (vn i)) rfl) ?_
  refine ZT.q rfl (Wn.no rfl) rfl rfl (fun wq hS => R.bin rfl rfl (bi_rem (c := ((i % 4 : Nat) : Int)) (Int.natCast_nonneg _) (by omega) (by first | omega | rfl))) ?_
  refine ZT.q rfl (Wn.no rfl) rfl rfl (fun wq hS => R.bin rfl rfl (bi_sub (c := 1 - ((i % 4 : Nat) : Int)) (by omega) (by omega))) ?_
  refine ZT.q rfl (Wn.no rfl) rfl rfl (fun wq hS => R.bin rfl rfl (bi_add (c := ((1 + 4 - i % 4 : Nat) : Int)) (by omega) (by omega))) ?_
  refine ZT.q rfl (Wn.no rfl) rfl rfl (fun wq hS => R.bin rfl rfl (bi_rem (c := (((1 + 4 - i % 4) % 4 : Nat) : Int)) (Int.natCast_nonneg _) (by omega) (by first | omega | rfl))) ?_
  refine ZT.q rfl (Wn.no rfl) rfl rfl (fun wq hS => R.indexA (b := b_4) (off := 0) (off' := (0 + ((1 + 4 - i % 4) % 4))) (i := (1 + 4 - i % 4) % 4) rfl rfl rfl (by omega) underlying151 sizeOf5 (by rw [Nat.mul_one])) ?_
  refine ZT.q rfl (Wn.no rfl) rfl rfl (fun wq hS => R.loadE (b := b_4) (off := (0 + ((1 + 4 - i % 4) % 4))) (i := (1 + 4 - i % 4) % 4) (v := (vu8 (f.getD ((1 + 4 - i % 4) % 4) 0))) rfl isAgg5 (hS _ M1) Sg.h rfl (get_u8 (lt_len (K := 4) hf (by omega)))) ?_
  refine ZT.s ?_
  refine OpZ.one rfl (Wn.no rfl) ?_
  refine WL.call Try.call101 rfl rfl (c_Times (s.getD (4 * (i / 4) + 1) 0) (f.getD ((1 + 4 - i % 4) % 4) 0) _ ) rfl ?_
  rintro _ w_31 ⟨rfl, hc_30⟩
  have h_32 := h_28.same hc_30
  refine WL.nil ?_
  refine ⟨(N0_1_2 h_32.ok), ?_⟩
  refine ZT.q rfl (Wn.no rfl) rfl rfl (fun wq hS => R.bin rfl rfl (b8_xor (((pre 16 (mb s f) i).set i (((pre 16 (mb s f) i).getD i 0) ^^^ (tm (s.getD (4 * (i / 4)) 0) (f.getD ((0 + 4 - i % 4) % 4) 0)))).getD i 0) (tm (s.getD (4 * (i / 4) + 1) 0) (f.getD ((1 + 4 - i % 4) % 4) 0)))) ?_
  refine ZT.q rfl (Wn.no rfl) rfl rfl (fun wq hS => R.indexA (b := b_7) (off := 0) (off' := (0 + i)) (i := i) rfl rfl rfl (by omega) underlying110 sizeOf5 (by rw [Nat.mul_one])) ?_
  refine ZT.s ?_
  refine OpZ.last rfl (Wn.no rfl) ?_
  refine WL.storeE (b := b_7) (off := (0 + i)) (i := i) (v := (vu8 ((((pre 16 (mb s f) i).set i (((pre 16 (mb s f) i).getD i 0) ^^^ (tm (s.getD (4 * (i / 4)) 0) (f.getD ((0 + 4 - i % 4) % 4) 0)))).getD i 0) ^^^ (tm (s.getD (4 * (i / 4) + 1) 0) (f.getD ((1 + 4 - i % 4) % 4) 0))))) (cs' := (((pre 16 (mb s f) i).set i (((pre 16 (mb s f) i).getD i 0) ^^^ (tm (s.getD (4 * (i / 4)) 0) (f.getD ((0 + 4 - i % 4) % 4) 0)))).set i ((((pre 16 (mb s f) i).set i (((pre 16 (mb s f) i).getD i 0) ^^^ (tm (s.getD (4 * (i / 4)) 0) (f.getD ((0 + 4 - i % 4) % 4) 0)))).getD i 0) ^^^ (tm (s.getD (4 * (i / 4) + 1) 0) (f.getD ((1 + 4 - i % 4) % 4) 0)))).map vu8) h_32 rfl rfl sizeOf5 rfl At.h (by decide) Sg.h rfl (lt_len (K := 16) (len_map (len_set (pre_len hi) _ _)) (by omega)) (set_u8 _ _ _) (fun w_33 h_34 => ?_)
  refine WL.nil (ZT.nil (inb_n (thn_n (WP.reg ?_))))
  refine qV rfl (R.bin rfl rfl (bi_add (c := 2) (by omega) (by omega))) (qM (vi 2) rfl rfl ?_)
  refine WL.nil (thn_n ?_)
  refine WI.round ?_
  refine WP.seq (WP.reg ?_)
  refine qV rfl (R.bin rfl rfl (bi_lss (r := true) (by decide))) ?_
  refine WL.nil (thn_n (WP.seq ?_))
  refine WP.condT rfl ?_
  refine WP.skip (thn_n (WP.seq (WP.block (WP.seq (WP.reg ?_)))))
  refine qM (vi 2) rfl rfl (qV rfl (R.indexP (b := b_1) (off := (0 + (4 * (i / 4)))) (off' := (2 + (4 * (i / 4)))) (i := 2) rfl rfl rfl (by decide) underlying54 sizeOf5 (by omega)) (qV rfl (R.loadE (b := b_1) (off := (2 + (4 * (i / 4)))) (i := 4 * (i / 4) + 2) (v := (vu8 (s.getD (4 * (i / 4) + 2) 0))) rfl isAgg5 (h_34.ok _ M2) Sg.h (by omega) (get_u8 (lt_len (K := 16) hs (by omega)))) (qA (vi 2) rfl rfl (qA (vu8 (s.getD (4 * (i / 4) + 2) 0)) rfl rfl ?_))))
  refine WL.nil (thn_n ?_)
  refine WP.drawZ 15 (SL w.heap.size [.blk b_7 .nw 110 [(16, (((pre 16 (mb s f) i).set i (((pre 16 (mb s f) i).getD i 0) ^^^ (tm (s.getD (4 * (i / 4)) 0) (f.getD ((0 + 4 - i % 4) % 4) 0)))).set i ((((pre 16 (mb s f) i).set i (((pre 16 (mb s f) i).getD i 0) ^^^ (tm (s.getD (4 * (i / 4)) 0) (f.getD ((0 + 4 - i % 4) % 4) 0)))).getD i 0) ^^^ (tm (s.getD (4 * (i / 4) + 1) 0) (f.getD ((1 + 4 - i % 4) % 4) 0)))).map vu8)], .blk b_4 .nw 151 [(4, f.map vu8)], .blk b_1 .nw 110 [(16, s.map vu8)]]) (.q 0 (.q 1 (.q 2 (.q 3 (.q 4 (.q 5 (.q 6 (.q 7 (.q 8 (.q 9 (.q 10 (.q 11 (.s 12 (.q 13 (.q 14 (.s 15 .nil)))))))))))))))) (by kernel_rfl) (by kernel_rfl) rfl (by kernel_rfl) (fun w_35 hc_37 => (SL.cons ((h_34.same hc_37).ok _ M0) (SL.cons ((h_34.same hc_37).ok _ M1) (SL.cons ((h_34.same hc_37).ok _ M2) (SL.nil _ _))))) (fun w_35 hc_37 => ?_)
  have h_36 := h_34.same hc_37
  refine ZT.q rfl (Wn.no rfl) rfl rfl (fun wq hS => R.move (v := (vn i)) rfl) ?_
  refine ZT.q rfl (Wn.no rfl) rfl rfl (fun wq hS => R.indexA (b := b_7) (off := 0) (off' := (0 + i)) (i := i) rfl rfl rfl (by omega) underlying110 sizeOf5 (by rw [Nat.mul_one])) ?_
  refine ZT.q rfl (Wn.no rfl) rfl rfl (fun wq hS => R.loadE (b := b_7) (off := (0 + i)) (i := i) (v := (vu8 ((((pre 16 (mb s f) i).set i (((pre 16 (mb s f) i).getD i 0) ^^^ (tm (s.getD (4 * (i / 4)) 0) (f.getD ((0 + 4 - i % 4) % 4) 0)))).set i ((((pre 16 (mb s f) i).set i (((pre 16 (mb s f) i).getD i 0) ^^^ (tm (s.getD (4 * (i / 4)) 0) (f.getD ((0 + 4 - i % 4) % 4) 0)))).getD i 0) ^^^ (tm (s.getD (4 * (i / 4) + 1) 0) (f.getD ((1 + 4 - i % 4) % 4) 0)))).getD i 0))) rfl isAgg5 (hS _ M0) Sg.h rfl (get_u8 (lt_len (K := 16) (len_set (len_set (pre_len hi) _ _) _ _) (by omega)))) ?_
  refine ZT.q rfl (Wn.no rfl) rfl rfl (fun wq hS => R.move (v := (vu8 (s.getD (4 * (i / 4) + 2) 0))) rfl) ?_
  refine ZT.q rfl (Wn.no rfl) rfl rfl (fun wq hS => R.move (v := (vi 2)) rfl) ?_
  refine ZT.q rfl (Wn.no rfl) rfl rfl (fun wq hS => R.move (v := (vn i)) rfl) ?_
  refine ZT.q rfl (Wn.no rfl) rfl rfl (fun wq hS => R.bin rfl rfl (bi_rem (c := ((i % 4 : Nat) : Int)) (Int.natCast_nonneg _) (by omega) (by first | omega | rfl))) ?_
  refine ZT.q rfl (Wn.no rfl) rfl rfl (fun wq hS => R.bin rfl rfl (bi_sub (c := 2 - ((i % 4 : Nat) : Int)) (by omega) (by omega))) ?_
  refine ZT.q rfl (Wn.no rfl) rfl rfl (fun wq hS => R.bin rfl rfl (bi_add (c := ((2 + 4 - i % 4 : Nat) : Int)) (by omega) (by omega))) ?_
  refine ZT.q rfl (Wn.no rfl) rfl rfl (fun wq hS => R.bin rfl rfl (bi_rem (c := (((2 + 4 - i % 4) % 4 : Nat) : Int)) (Int.natCast_nonneg _) (by omega) (by first | omega | rfl))) ?_
  refine ZT.q rfl (Wn.no rfl) rfl rfl (fun wq hS => R.indexA (b := b_4) (off := 0) (off' := (0 + ((2 + 4 - i % 4) % 4))) (i := (2 + 4 - i % 4) % 4) rfl rfl rfl (by omega) underlying151 sizeOf5 (by rw [Nat.mul_one])) ?_
  refine ZT.q rfl (Wn.no rfl) rfl rfl (fun wq hS => R.loadE (b := b_4) (off := (0 + ((2 + 4 - i % 4) % 4))) (i := (2 + 4 - i % 4) % 4) (v := (vu8 (f.getD ((2 + 4 - i % 4) % 4) 0))) rfl isAgg5 (hS _ M1) Sg.h rfl (get_u8 (lt_len (K := 4) hf (by omega)))) ?_
  refine ZT.s ?_
  refine OpZ.one rfl (Wn.no rfl) ?_
  refine WL.call Try.call101 rfl rfl (c_Times (s.getD (4 * (i / 4) + 2) 0) (f.getD ((2 + 4 - i % 4) % 4) 0) _ ) rfl ?_
  rintro _ w_39 ⟨rfl, hc_38⟩
  have h_40 := h_36.same hc_38
  refine WL.nil ?_
  refine ⟨(N0_1_2 h_40.ok), ?_⟩
  refine ZT.q rfl (Wn.no rfl) rfl rfl (fun wq hS => R.bin rfl rfl (b8_xor ((((pre 16 (mb s f) i).set i (((pre 16 (mb s f) i).getD i 0) ^^^ (tm (s.getD (4 * (i / 4)) 0) (f.getD ((0 + 4 - i % 4) % 4) 0)))).set i ((((pre 16 (mb s f) i).set i (((pre 16 (mb s f) i).getD i 0) ^^^ (tm (s.getD (4 * (i / 4)) 0) (f.getD ((0 + 4 - i % 4) % 4) 0)))).getD i 0) ^^^ (tm (s.getD (4 * (i / 4) + 1) 0) (f.getD ((1 + 4 - i % 4) % 4) 0)))).getD i 0) (tm (s.getD (4 * (i / 4) + 2) 0) (f.getD ((2 + 4 - i % 4) % 4) 0)))) ?_
  refine ZT.q rfl (Wn.no rfl) rfl rfl (fun wq hS => R.indexA (b := b_7) (off := 0) (off' := (0 + i)) (i := i) rfl rfl rfl (by omega) underlying110 sizeOf5 (by rw [Nat.mul_one])) ?_
  refine ZT.s ?_
  refine OpZ.last rfl (Wn.no rfl) ?_
  refine WL.storeE (b := b_7) (off := (0 + i)) (i := i) (v := (vu8 (((((pre 16 (mb s f) i).set i (((pre 16 (mb s f) i).getD i 0) ^^^ (tm (s.getD (4 * (i / 4)) 0) (f.getD ((0 + 4 - i % 4) % 4) 0)))).set i ((((pre 16 (mb s f) i).set i (((pre 16 (mb s f) i).getD i 0) ^^^ (tm (s.getD (4 * (i / 4)) 0) (f.getD ((0 + 4 - i % 4) % 4) 0)))).getD i 0) ^^^ (tm (s.getD (4 * (i / 4) + 1) 0) (f.getD ((1 + 4 - i % 4) % 4) 0)))).getD i 0) ^^^ (tm (s.getD (4 * (i / 4) + 2) 0) (f.getD ((2 + 4 - i % 4) % 4) 0))))) (cs' := ((((pre 16 (mb s f) i).set i (((pre 16 (mb s f) i).getD i 0) ^^^ (tm (s.getD (4 * (i / 4)) 0) (f.getD ((0 + 4 - i % 4) % 4) 0)))).set i ((((pre 16 (mb s f) i).set i (((pre 16 (mb s f) i).getD i 0) ^^^ (tm (s.getD (4 * (i / 4)) 0) (f.getD ((0 + 4 - i % 4) % 4) 0)))).getD i 0) ^^^ (tm (s.getD (4 * (i / 4) + 1) 0) (f.getD ((1 + 4 - i % 4) % 4) 0)))).set i (((((pre 16 (mb s f) i).set i (((pre 16 (mb s f) i).getD i 0) ^^^ (tm (s.getD (4 * (i / 4)) 0) (f.getD ((0 + 4 - i % 4) % 4) 0)))).set i ((((pre 16 (mb s f) i).set i (((pre 16 (mb s f) i).getD i 0) ^^^ (tm (s.getD (4 * (i / 4)) 0) (f.getD ((0 + 4 - i % 4) % 4) 0)))).getD i 0) ^^^ (tm (s.getD (4 * (i / 4) + 1) 0) (f.getD ((1 + 4 - i % 4) % 4) 0)))).getD i 0) ^^^ (tm (s.getD (4 * (i / 4) + 2) 0) (f.getD ((2 + 4 - i % 4) % 4) 0)))).map vu8) h_40 rfl rfl sizeOf5 rfl At.h (by decide) Sg.h rfl (lt_len (K := 16) (len_map (len_set (len_set (pre_len hi) _ _) _ _)) (by omega)) (set_u8 _ _ _) (fun w_41 h_42 => ?_)
  refine WL.nil (ZT.nil (inb_n (thn_n (WP.reg ?_))))
  refine qV rfl (R.bin rfl rfl (bi_add (c := 3) (by omega) (by omega))) (qM (vi 3) rfl rfl ?_)
  refine WL.nil (thn_n ?_)
  refine WI.round ?_
  refine WP.seq (WP.reg ?_)
  refine qV rfl (R.bin rfl rfl (bi_lss (r := true) (by decide))) ?_
  refine WL.nil (thn_n (WP.seq ?_))
  refine WP.condT rfl ?_
  refine WP.skip (thn_n (WP.seq (WP.block (WP.seq (WP.reg ?_)))))
  refine qM (vi 3) rfl rfl (qV rfl (R.indexP (b := b_1) (off := (0 + (4 * (i / 4)))) (off' := (3 + (4 * (i / 4)))) (i := 3) rfl rfl rfl (by decide) underlying54 sizeOf5 (by omega)) (qV rfl (R.loadE (b := b_1) (off := (3 + (4 * (i / 4)))) (i := 4 * (i / 4) + 3) (v := (vu8 (s.getD (4 * (i / 4) + 3) 0))) rfl isAgg5 (h_42.ok _ M2) Sg.h (by omega) (get_u8 (lt_len (K := 16) hs (by omega)))) (qA (vi 3) rfl rfl (qA (vu8 (s.getD (4 * (i / 4) + 3) 0)) rfl rfl ?_))))
  refine WL.nil (thn_n ?_)
  refine WP.drawZ 15 (SL w.heap.size [.blk b_7 .nw 110 [(16, ((((pre 16 (mb s f) i).set i (((pre 16 (mb s f) i).getD i 0) ^^^ (tm (s.getD (4 * (i / 4)) 0) (f.getD ((0 + 4 - i % 4) % 4) 0)))).set i ((((pre 16 (mb s f) i).set i (((pre 16 (mb s f) i).getD i 0) ^^^ (tm (s.getD (4 * (i / 4)) 0) (f.getD ((0 + 4 - i % 4) % 4) 0)))).getD i 0) ^^^ (tm (s.getD (4 * (i / 4) + 1) 0) (f.getD ((1 + 4 - i % 4) % 4) 0)))).set i (((((pre 16 (mb s f) i).set i (((pre 16 (mb s f) i).getD i 0) ^^^ (tm (s.getD (4 * (i / 4)) 0) (f.getD ((0 + 4 - i % 4) % 4) 0)))).set i ((((pre 16 (mb s f) i).set i (((pre 16 (mb s f) i).getD i 0) ^^^ (tm (s.getD (4 * (i / 4)) 0) (f.getD ((0 + 4 - i % 4) % 4) 0)))).getD i 0) ^^^ (tm (s.getD (4 * (i / 4) + 1) 0) (f.getD ((1 + 4 - i % 4) % 4) 0)))).getD i 0) ^^^ (tm (s.getD (4 * (i / 4) + 2) 0) (f.getD ((2 + 4 - i % 4) % 4) 0)))).map vu8)], .blk b_4 .nw 151 [(4, f.map vu8)], .blk b_1 .nw 110 [(16, s.map vu8)]]) (.q 0 (.q 1 (.q 2 (.q 3 (.q 4 (.q 5 (.q 6 (.q 7 (.q 8 (.q 9 (.q 10 (.q 11 (.s 12 (.q 13 (.q 14 (.s 15 .nil)))))))))))))))) (by kernel_rfl) (by kernel_rfl) rfl (by kernel_rfl) (fun w_43 hc_45 => (SL.cons ((h_42.same hc_45).ok _ M0) (SL.cons ((h_42.same hc_45).ok _ M1) (SL.cons ((h_42.same hc_45).ok _ M2) (SL.nil _ _))))) (fun w_43 hc_45 => ?_)
  have h_44 := h_42.same hc_45
  refine ZT.q rfl (Wn.no rfl) rfl rfl (fun wq hS => R.move (v := (vn i)) rfl) ?_
  refine ZT.q rfl (Wn.no rfl) rfl rfl (fun wq hS => R.indexA (b := b_7) (off := 0) (off' := (0 + i)) (i := i) rfl rfl rfl (by omega) underlying110 sizeOf5 (by rw [Nat.mul_one])) ?_
  refine ZT.q rfl (Wn.no rfl) rfl rfl (fun wq hS => R.loadE (b := b_7) (off := (0 + i)) (i := i) (v := (vu8 (((((pre 16 (mb s f) i).set i (((pre 16 (mb s f) i).getD i 0) ^^^ (tm (s.getD (4 * (i / 4)) 0) (f.getD ((0 + 4 - i % 4) % 4) 0)))).set i ((((pre 16 (mb s f) i).set i (((pre 16 (mb s f) i).getD i 0) ^^^ (tm (s.getD (4 * (i / 4)) 0) (f.getD ((0 + 4 - i % 4) % 4) 0)))).getD i 0) ^^^ (tm (s.getD (4 * (i / 4) + 1) 0) (f.getD ((1 + 4 - i % 4) % 4) 0)))).set i (((((pre 16 (mb s f) i).set i (((pre 16 (mb s f) i).getD i 0) ^^^ (tm (s.getD (4 * (i / 4)) 0) (f.getD ((0 + 4 - i % 4) % 4) 0)))).set i ((((pre 16 (mb s f) i).set i (((pre 16 (mb s f) i).getD i 0) ^^^ (tm (s.getD (4 * (i / 4)) 0) (f.getD ((0 + 4 - i % 4) % 4) 0)))).getD i 0) ^^^ (tm (s.getD (4 * (i / 4) + 1) 0) (f.getD ((1 + 4 - i % 4) % 4) 0)))).getD i 0) ^^^ (tm (s.getD (4 * (i / 4) + 2) 0) (f.getD ((2 + 4 - i % 4) % 4) 0)))).getD i 0))) rfl isAgg5 (hS _ M0) Sg.h rfl (get_u8 (lt_len (K := 16) (len_set (len_set (len_set (pre_len hi) _ _) _ _) _ _) (by omega)))) ?_
  refine ZT.q rfl (Wn.no rfl) rfl rfl (fun wq hS => R.move (v := (vu8 (s.getD (4 * (i / 4) + 3) 0))) rfl) ?_
  refine ZT.q rfl (Wn.no rfl) rfl rfl (fun wq hS => R.move (v := (vi 3)) rfl) ?_
  refine ZT.q rfl (Wn.no rfl) rfl rfl (fun wq hS => R.move (v := (vn i)) rfl) ?_
  refine ZT.q rfl (Wn.no rfl) rfl rfl (fun wq hS => R.bin rfl rfl (bi_rem (c := ((i % 4 : Nat) : Int)) (Int.natCast_nonneg _) (by omega) (by first | omega | rfl))) ?_
  refine ZT.q rfl (Wn.no rfl) rfl rfl (fun wq hS => R.bin rfl rfl (bi_sub (c := 3 - ((i % 4 : Nat) : Int)) (by omega) (by omega))) ?_
  refine ZT.q rfl (Wn.no rfl) rfl rfl (fun wq hS => R.bin rfl rfl (bi_add (c := ((3 + 4 - i % 4 : Nat) : Int)) (by omega) (by omega))) ?_
  refine ZT.q rfl (Wn.no rfl) rfl rfl (fun wq hS => R.bin rfl rfl (bi_rem (c := (((3 + 4 - i % 4) % 4 : Nat) : Int)) (Int.natCast_nonneg _) (by omega) (by first | omega | rfl))) ?_
  refine ZT.q rfl (Wn.no rfl) rfl rfl (fun wq hS => R.indexA (b := b_4) (off := 0) (off' := (0 + ((3 + 4 - i % 4) % 4))) (i := (3 + 4 - i % 4) % 4) rfl rfl rfl (by omega) underlying151 sizeOf5 (by rw [Nat.mul_one])) ?_
  refine ZT.q rfl (Wn.no rfl) rfl rfl (fun wq hS => R.loadE (b := b_4) (off := (0 + ((3 + 4 - i % 4) % 4))) (i := (3 + 4 - i % 4) % 4) (v := (vu8 (f.getD ((3 + 4 - i % 4) % 4) 0))) rfl isAgg5 (hS _ M1) Sg.h rfl (get_u8 (lt_len (K := 4) hf (by omega)))) ?_
  refine ZT.s ?_
  refine OpZ.one rfl (Wn.no rfl) ?_
  refine WL.call Try.call101 rfl rfl (c_Times (s.getD (4 * (i / 4) + 3) 0) (f.getD ((3 + 4 - i % 4) % 4) 0) _ ) rfl ?_
  rintro _ w_47 ⟨rfl, hc_46⟩
  have h_48 := h_44.same hc_46
  refine WL.nil ?_
  refine ⟨(N0_1_2 h_48.ok), ?_⟩
  refine ZT.q rfl (Wn.no rfl) rfl rfl (fun wq hS => R.bin rfl rfl (b8_xor (((((pre 16 (mb s f) i).set i (((pre 16 (mb s f) i).getD i 0) ^^^ (tm (s.getD (4 * (i / 4)) 0) (f.getD ((0 + 4 - i % 4) % 4) 0)))).set i ((((pre 16 (mb s f) i).set i (((pre 16 (mb s f) i).getD i 0) ^^^ (tm (s.getD (4 * (i / 4)) 0) (f.getD ((0 + 4 - i % 4) % 4) 0)))).getD i 0) ^^^ (tm (s.getD (4 * (i / 4) + 1) 0) (f.getD ((1 + 4 - i % 4) % 4) 0)))).set i (((((pre 16 (mb s f) i).set i (((pre 16 (mb s f) i).getD i 0) ^^^ (tm (s.getD (4 * (i / 4)) 0) (f.getD ((0 + 4 - i % 4) % 4) 0)))).set i ((((pre 16 (mb s f) i).set i (((pre 16 (mb s f) i).getD i 0) ^^^ (tm (s.getD (4 * (i / 4)) 0) (f.getD ((0 + 4 - i % 4) % 4) 0)))).getD i 0) ^^^ (tm (s.getD (4 * (i / 4) + 1) 0) (f.getD ((1 + 4 - i % 4) % 4) 0)))).getD i 0) ^^^ (tm (s.getD (4 * (i / 4) + 2) 0) (f.getD ((2 + 4 - i % 4) % 4) 0)))).getD i 0) (tm (s.getD (4 * (i / 4) + 3) 0) (f.getD ((3 + 4 - i % 4) % 4) 0)))) ?_
  refine ZT.q rfl (Wn.no rfl) rfl rfl (fun wq hS => R.indexA (b := b_7) (off := 0) (off' := (0 + i)) (i := i) rfl rfl rfl (by omega) underlying110 sizeOf5 (by rw [Nat.mul_one])) ?_
  refine ZT.s ?_
  refine OpZ.last rfl (Wn.no rfl) ?_
  refine WL.storeE (b := b_7) (off := (0 + i)) (i := i) (v := (vu8 ((((((pre 16 (mb s f) i).set i (((pre 16 (mb s f) i).getD i 0) ^^^ (tm (s.getD (4 * (i / 4)) 0) (f.getD ((0 + 4 - i % 4) % 4) 0)))).set i ((((pre 16 (mb s f) i).set i (((pre 16 (mb s f) i).getD i 0) ^^^ (tm (s.getD (4 * (i / 4)) 0) (f.getD ((0 + 4 - i % 4) % 4) 0)))).getD i 0) ^^^ (tm (s.getD (4 * (i / 4) + 1) 0) (f.getD ((1 + 4 - i % 4) % 4) 0)))).set i (((((pre 16 (mb s f) i).set i (((pre 16 (mb s f) i).getD i 0) ^^^ (tm (s.getD (4 * (i / 4)) 0) (f.getD ((0 + 4 - i % 4) % 4) 0)))).set i ((((pre 16 (mb s f) i).set i (((pre 16 (mb s f) i).getD i 0) ^^^ (tm (s.getD (4 * (i / 4)) 0) (f.getD ((0 + 4 - i % 4) % 4) 0)))).getD i 0) ^^^ (tm (s.getD (4 * (i / 4) + 1) 0) (f.getD ((1 + 4 - i % 4) % 4) 0)))).getD i 0) ^^^ (tm (s.getD (4 * (i / 4) + 2) 0) (f.getD ((2 + 4 - i % 4) % 4) 0)))).getD i 0) ^^^ (tm (s.getD (4 * (i / 4) + 3) 0) (f.getD ((3 + 4 - i % 4) % 4) 0))))) (cs' := (((((pre 16 (mb s f) i).set i (((pre 16 (mb s f) i).getD i 0) ^^^ (tm (s.getD (4 * (i / 4)) 0) (f.getD ((0 + 4 - i % 4) % 4) 0)))).set i ((((pre 16 (mb s f) i).set i (((pre 16 (mb s f) i).getD i 0) ^^^ (tm (s.getD (4 * (i / 4)) 0) (f.getD ((0 + 4 - i % 4) % 4) 0)))).getD i 0) ^^^ (tm (s.getD (4 * (i / 4) + 1) 0) (f.getD ((1 + 4 - i % 4) % 4) 0)))).set i (((((pre 16 (mb s f) i).set i (((pre 16 (mb s f) i).getD i 0) ^^^ (tm (s.getD (4 * (i / 4)) 0) (f.getD ((0 + 4 - i % 4) % 4) 0)))).set i ((((pre 16 (mb s f) i).set i (((pre 16 (mb s f) i).getD i 0) ^^^ (tm (s.getD (4 * (i / 4)) 0) (f.getD ((0 + 4 - i % 4) % 4) 0)))).getD i 0) ^^^ (tm (s.getD (4 * (i / 4) + 1) 0) (f.getD ((1 + 4 - i % 4) % 4) 0)))).getD i 0) ^^^ (tm (s.getD (4 * (i / 4) + 2) 0) (f.getD ((2 + 4 - i % 4) % 4) 0)))).set i ((((((pre 16 (mb s f) i).set i (((pre 16 (mb s f) i).getD i 0) ^^^ (tm (s.getD (4 * (i / 4)) 0) (f.getD ((0 + 4 - i % 4) % 4) 0)))).set i ((((pre 16 (mb s f) i).set i (((pre 16 (mb s f) i).getD i 0) ^^^ (tm (s.getD (4 * (i / 4)) 0) (f.getD ((0 + 4 - i % 4) % 4) 0)))).getD i 0) ^^^ (tm (s.getD (4 * (i / 4) + 1) 0) (f.getD ((1 + 4 - i % 4) % 4) 0)))).set i (((((pre 16 (mb s f) i).set i (((pre 16 (mb s f) i).getD i 0) ^^^ (tm (s.getD (4 * (i / 4)) 0) (f.getD ((0 + 4 - i % 4) % 4) 0)))).set i ((((pre 16 (mb s f) i).set i (((pre 16 (mb s f) i).getD i 0) ^^^ (tm (s.getD (4 * (i / 4)) 0) (f.getD ((0 + 4 - i % 4) % 4) 0)))).getD i 0) ^^^ (tm (s.getD (4 * (i / 4) + 1) 0) (f.getD ((1 + 4 - i % 4) % 4) 0)))).getD i 0) ^^^ (tm (s.getD (4 * (i / 4) + 2) 0) (f.getD ((2 + 4 - i % 4) % 4) 0)))).getD i 0) ^^^ (tm (s.getD (4 * (i / 4) + 3) 0) (f.getD ((3 + 4 - i % 4) % 4) 0)))).map vu8) h_48 rfl rfl sizeOf5 rfl At.h (by decide) Sg.h rfl (lt_len (K := 16) (len_map (len_set (len_set (len_set (pre_len hi) _ _) _ _) _ _)) (by omega)) (set_u8 _ _ _) (fun w_49 h_50 => ?_)
  refine WL.nil (ZT.nil (inb_n (thn_n (WP.reg ?_))))
  refine qV rfl (R.bin rfl rfl (bi_add (c := 4) (by omega) (by omega))) (qM (vi 4) rfl rfl ?_)
  refine WL.nil (thn_n ?_)
  refine WI.round ?_
  refine WP.seq (WP.reg ?_)
  refine qV rfl (R.bin rfl rfl (bi_lss (r := false) (by decide))) ?_
  refine WL.nil (thn_n (WP.seq ?_))
  refine WP.condF rfl ?_
  refine WP.exit (thn_x (thn_x (inb_hit (inb_n (thn_n (WP.reg ?_))))))
  refine qV rfl (R.bin rfl rfl (bi_add (c := ((i + 1 : Nat) : Int)) (by omega) (by omega))) (qM (vn (i + 1)) rfl rfl ?_)
  refine WL.nil (thn_n ?_)
  rw [mix_step (s := s) (f := f) (i := i) (by omega) (by rfl) (by rfl) (by rfl) (by rfl)] at h_50
  exact ⟨i + 1, _, (by omega), (U4 rfl rfl rfl rfl (U4 rfl rfl rfl rfl (U4 rfl rfl rfl rfl (U4 rfl rfl rfl rfl (U4 rfl rfl rfl rfl (U4 rfl rfl rfl rfl (U4 rfl rfl rfl rfl (U4 rfl rfl rfl rfl (U4 rfl rfl rfl rfl (U4 rfl rfl rfl rfl (U4 rfl rfl rfl rfl (U4 rfl rfl rfl rfl (U4 rfl rfl rfl rfl (U4 rfl rfl rfl rfl (U4 rfl rfl rfl rfl (U4 rfl rfl rfl rfl (U4 rfl rfl rfl rfl (U4 rfl rfl rfl rfl (U4 rfl rfl rfl rfl (U4 rfl rfl rfl rfl (U4 rfl rfl rfl rfl (U4 rfl rfl rfl rfl (U4 rfl rfl rfl rfl (U4 rfl rfl rfl rfl (U4 rfl rfl rfl rfl (U4 rfl rfl rfl rfl (Ag.updL rfl (Ag.mix _ _ _)))))))))))))))))))))))))))), ⟨rfl, trivial⟩, h_50, (by omega), rfl⟩
 ·have p_51 := of_decide_eq_false c_14
  refine WP.exit (thn_x (thn_x (inb_hit (thn_n (WP.seq (WP.reg ?_))))))
  refine qV rfl (R.loadA [] [(16, (pre 16 (mb s f) i).map vu8)] [] (cs := (pre 16 (mb s f) i).map vu8) rfl isAgg110 sizeOf110 (h_11.ok _ M0) rfl rfl rfl rfl) ?_
  refine WL.storeA [] [(16, (pre 16 (mb s f) i).map vu8)] [(16, (pre 16 (mb s f) i).map vu8)] [] h_11 rfl rfl sizeOf110 At.h (by decide) rfl rfl rfl rfl rfl rfl (sC (s8 (pre_len hi)) sN) (fun w_52 h_53 => ?_)
  refine WL.nil (thn_n (WP.ret ?_))
  refine ret_of results88 (RV.cell rfl (h_53.loadA (cs := (pre 16 (mb s f) i).map vu8) isAgg110 sizeOf110 M0 rfl rfl) RV.nil) ?_
  have hi2 : i = 16 := by omega
  subst hi2
  exact ⟨by rw [pre_all]; rfl, h_53.chgS⟩
theorem c_expand (tb key : List UInt8) (htb : tb.length = 256) (hkey : key.length = 16) (w : World) :
  Cs Try.prog 86 [(.agg ⟨key.map vu8⟩), (.agg ⟨tb.map vu8⟩)].toArray w (fun v w1 => v = (.agg ⟨(keysL tb key).map vu8⟩) ∧ Chg w w1 []) := by
 refine Cs.of (n := 63) (args := [(.agg ⟨key.map vu8⟩), (.agg ⟨tb.map vu8⟩)]) Try.func86 rfl rfl rfl ?_
 have h_0 := HP.init w
 refine WP.seq (WP.reg ?_)
 refine WL.box (segs := [(16, key.map vu8)]) h_0 rfl rfl (sC (s8 hkey) sN) rfl (fun b_1 w_2 h_3 => ?_)
 refine WL.box (segs := [(256, tb.map vu8)]) h_3 rfl rfl (sC (s8 htb) sN) rfl (fun b_4 w_5 h_6 => ?_)
 refine WL.alloc (segs := [(176, (zB 176).map vu8)]) h_6 (zv typeInfo145 rfl) rfl (sC (s8 lr) sN) rfl (fun b_7 w_8 h_9 => ?_)
 refine WL.nil (thn_n (WP.seq (WP.reg ?_)))
 refine qV rfl (R.loadA [] [(16, key.map vu8)] [] (cs := key.map vu8) rfl isAgg110 sizeOf110 (h_9.ok _ M2) rfl rfl rfl rfl) (qV rfl (R.indexA (b := b_7) (off := 0) (off' := 0) (i := 0) rfl rfl rfl (by decide) underlying145 sizeOf110 rfl) ?_)
 refine WL.storeEA (b := b_7) (off := 0) (i := 0) (ys := key.map vu8) (cs' := (ovr (zB 176) 0 key).map vu8) h_9 rfl rfl sizeOf110 At.h (by decide) Sg.h rfl (len_map hkey) (by rw [len_map lr]; omega) (one_u8 _) (cpOvrA hkey) (fun w_10 h_11 => ?_)
 refine WL.nil (thn_n (WP.seq (WP.reg ?_)))
 refine qA (vu8 1) rfl rfl ?_
 refine WL.nil (thn_n (WP.seq (WP.seq (WP.reg ?_))))
 refine qA (vi 1) rfl rfl ?_
 refine WL.nil (thn_n (WP.block ?_))
 rw [ovr_key (tb := tb) hkey] at h_11
 refine WP.loopG (G := Nat) [5, 6, 7, 8, 9, 12, 13, 14, 15, 16, 17, 18, 19, 20, 21, 22, 23, 24, 25, 26, 27, 28, 29, 30, 31, 32, 33, 34, 35, 36, 37, 38, 39, 40, 41, 42, 43, 44, 45, 46, 47, 48, 49, 50, 51, 52, 53, 54, 55, 56, 57, 58, 59, 60, 61] (fun r => [(5, (vu8 (pwN (r - 1)))), (6, (vn r))]) (fun r m w1 => HP w w1 [.blk b_7 .nw 145 [(176, (pre 176 (K tb key) (16 * r)).map vu8)], .blk b_4 .nw 142 [(256, tb.map vu8)], .blk b_1 .nw 110 [(16, key.map vu8)]] ∧ (1 ≤ r) ∧ (r ≤ 11) ∧ m = 11 - r) ⟨1, _, ⟨rfl, rfl, trivial⟩, h_11, (by omega), (by omega), rfl⟩ ?_
 rintro r m_14 J_15 w_12 ⟨h_13, hr, hr2, rfl⟩
 refine WP.seq (WP.seq (WP.reg ?_))
 refine qM (vn r) rfl rfl (qV rfl (R.bin rfl rfl (bi_lss (r := decide ((((r : Nat) : Int) : Int) < 11)) rfl)) ?_)
 refine WL.nil (thn_n ?_)
 refine WP.cond (b := decide ((((r : Nat) : Int) : Int) < 11)) rfl (fun c_16 => ?_) (fun c_16 => ?_)
 ·have p_17 := of_decide_eq_true c_16
  refine WP.skip (thn_n (WP.seq (WP.block (WP.seq (WP.reg ?_)))))
  refine qM (vn r) rfl rfl (qV rfl (R.bin rfl rfl (bi_sub (c := ((r - 1 : Nat) : Int)) (by omega) (by omega))) (qV rfl (R.indexA (b := b_7) (off := 0) (off' := (0 + ((r - 1) * 16))) (i := r - 1) rfl rfl rfl (by omega) underlying145 sizeOf110 rfl) (qV rfl (R.loadEA (b := b_7) (off := (0 + ((r - 1) * 16))) (i := (r - 1) * 16) (xs := (((pre 176 (K tb key) (16 * r)).drop ((r - 1) * 16)).take 16).map vu8) rfl isAgg110 sizeOf110 (h_13.ok _ M0) Sg.h rfl (by rw [List.map_take, List.map_drop]) (len_map (subLen (K := 176) (pre_len (by omega)) (by omega) : List.length (((pre 176 (K tb key) (16 * r)).drop ((r - 1) * 16)).take 16) = 16))) ?_)))
  refine WL.alloc (segs := [(16, (zB 16).map vu8)]) h_13 (zv typeInfo110 rfl) rfl (sC (s8 lr) sN) rfl (fun b_18 w_19 h_20 => ?_)
  refine WL.storeA [] [(16, (zB 16).map vu8)] [(16, (((pre 176 (K tb key) (16 * r)).drop ((r - 1) * 16)).take 16).map vu8)] [] h_20 rfl rfl sizeOf110 At.h (by decide) rfl rfl rfl rfl rfl rfl (sC (s8 (subLen (K := 176) (pre_len (by omega)) (by omega) : List.length (((pre 176 (K tb key) (16 * r)).drop ((r - 1) * 16)).take 16) = 16)) sN) (fun w_21 h_22 => ?_)
  refine WL.nil (thn_n (WP.seq ?_))
  refine WP.drawZ 20 (SL w.heap.size [.blk b_18 .nw 110 [(16, (((pre 176 (K tb key) (16 * r)).drop ((r - 1) * 16)).take 16).map vu8)], .blk b_7 .nw 145 [(176, (pre 176 (K tb key) (16 * r)).map vu8)], .blk b_4 .nw 142 [(256, tb.map vu8)], .blk b_1 .nw 110 [(16, key.map vu8)]]) (.q 0 (.q 1 (.q 2 (.q 3 (.q 4 (.q 5 (.q 6 (.q 7 (.q 8 (.q 9 (.q 10 (.q 11 (.q 12 (.q 13 (.q 14 (.q 15 (.q 16 (.q 17 (.q 18 (.s 19 (.s 20 .nil))))))))))))))))))))) (by kernel_rfl) (by kernel_rfl) rfl (by kernel_rfl) (fun w_23 hc_25 => (SL.cons ((h_22.same hc_25).ok _ M0) (SL.cons ((h_22.same hc_25).ok _ M1) (SL.cons ((h_22.same hc_25).ok _ M2) (SL.cons ((h_22.same hc_25).ok _ M3) (SL.nil _ _)))))) (fun w_23 hc_25 => ?_)
  have h_24 := h_22.same hc_25
  refine ZT.q rfl (Wn.no rfl) rfl rfl (fun wq hS => R.indexA (b := b_18) (off := 0) (off' := 13) (i := 13) rfl rfl rfl (by decide) underlying110 sizeOf5 rfl) ?_
  refine ZT.q rfl (Wn.no rfl) rfl rfl (fun wq hS => R.loadE (b := b_18) (off := 13) (i := 13) (v := (vu8 ((((pre 176 (K tb key) (16 * r)).drop ((r - 1) * 16)).take 16).getD 13 0))) rfl isAgg5 (hS _ M0) Sg.h rfl (get_u8 (lt_len (K := 16) (subLen (K := 176) (pre_len (by omega)) (by omega) : List.length (((pre 176 (K tb key) (16 * r)).drop ((r - 1) * 16)).take 16) = 16) (by decide)))) ?_
  refine ZT.q rfl (Wn.no rfl) rfl rfl (fun wq hS => R.indexA (b := b_4) (off := 0) (off' := (0 + (((((pre 176 (K tb key) (16 * r)).drop ((r - 1) * 16)).take 16).getD 13 0).toNat))) (i := ((((pre 176 (K tb key) (16 * r)).drop ((r - 1) * 16)).take 16).getD 13 0).toNat) rfl rfl rfl (UInt8.toNat_lt _) underlying142 sizeOf5 (by rw [Nat.mul_one])) ?_
  refine ZT.q rfl (Wn.no rfl) rfl rfl (fun wq hS => R.loadE (b := b_4) (off := (0 + (((((pre 176 (K tb key) (16 * r)).drop ((r - 1) * 16)).take 16).getD 13 0).toNat))) (i := ((((pre 176 (K tb key) (16 * r)).drop ((r - 1) * 16)).take 16).getD 13 0).toNat) (v := (vu8 (tb.getD (((((pre 176 (K tb key) (16 * r)).drop ((r - 1) * 16)).take 16).getD 13 0).toNat) 0))) rfl isAgg5 (hS _ M2) Sg.h rfl (get_u8 (lt_len (K := 256) htb (UInt8.toNat_lt _)))) ?_
  refine ZT.q rfl (Wn.no rfl) rfl rfl (fun wq hS => R.move (v := (vu8 (pwN (r - 1)))) rfl) ?_
  refine ZT.q rfl (Wn.no rfl) rfl rfl (fun wq hS => R.bin rfl rfl (b8_xor (tb.getD (((((pre 176 (K tb key) (16 * r)).drop ((r - 1) * 16)).take 16).getD 13 0).toNat) 0) (pwN (r - 1)))) ?_
  refine ZT.q rfl (Wn.no rfl) rfl rfl (fun wq hS => R.indexA (b := b_18) (off := 0) (off' := 14) (i := 14) rfl rfl rfl (by decide) underlying110 sizeOf5 rfl) ?_
  refine ZT.q rfl (Wn.no rfl) rfl rfl (fun wq hS => R.loadE (b := b_18) (off := 14) (i := 14) (v := (vu8 ((((pre 176 (K tb key) (16 * r)).drop ((r - 1) * 16)).take 16).getD 14 0))) rfl isAgg5 (hS _ M0) Sg.h rfl (get_u8 (lt_len (K := 16) (subLen (K := 176) (pre_len (by omega)) (by omega) : List.length (((pre 176 (K tb key) (16 * r)).drop ((r - 1) * 16)).take 16) = 16) (by decide)))) ?_
  refine ZT.q rfl (Wn.no rfl) rfl rfl (fun wq hS => R.indexA (b := b_4) (off := 0) (off' := (0 + (((((pre 176 (K tb key) (16 * r)).drop ((r - 1) * 16)).take 16).getD 14 0).toNat))) (i := ((((pre 176 (K tb key) (16 * r)).drop ((r - 1) * 16)).take 16).getD 14 0).toNat) rfl rfl rfl (UInt8.toNat_lt _) underlying142 sizeOf5 (by rw [Nat.mul_one])) ?_
  refine ZT.q rfl (Wn.no rfl) rfl rfl (fun wq hS => R.loadE (b := b_4) (off := (0 + (((((pre 176 (K tb key) (16 * r)).drop ((r - 1) * 16)).take 16).getD 14 0).toNat))) (i := ((((pre 176 (K tb key) (16 * r)).drop ((r - 1) * 16)).take 16).getD 14 0).toNat) (v := (vu8 (tb.getD (((((pre 176 (K tb key) (16 * r)).drop ((r - 1) * 16)).take 16).getD 14 0).toNat) 0))) rfl isAgg5 (hS _ M2) Sg.h rfl (get_u8 (lt_len (K := 256) htb (UInt8.toNat_lt _)))) ?_
  refine ZT.q rfl (Wn.no rfl) rfl rfl (fun wq hS => R.indexA (b := b_18) (off := 0) (off' := 15) (i := 15) rfl rfl rfl (by decide) underlying110 sizeOf5 rfl) ?_
  refine ZT.q rfl (Wn.no rfl) rfl rfl (fun wq hS => R.loadE (b := b_18) (off := 15) (i := 15) (v := (vu8 ((((pre 176 (K tb key) (16 * r)).drop ((r - 1) * 16)).take 16).getD 15 0))) rfl isAgg5 (hS _ M0) Sg.h rfl (get_u8 (lt_len (K := 16) (subLen (K := 176) (pre_len (by omega)) (by omega) : List.length (((pre 176 (K tb key) (16 * r)).drop ((r - 1) * 16)).take 16) = 16) (by decide)))) ?_
  refine ZT.q rfl (Wn.no rfl) rfl rfl (fun wq hS => R.indexA (b := b_4) (off := 0) (off' := (0 + (((((pre 176 (K tb key) (16 * r)).drop ((r - 1) * 16)).take 16).getD 15 0).toNat))) (i := ((((pre 176 (K tb key) (16 * r)).drop ((r - 1) * 16)).take 16).getD 15 0).toNat) rfl rfl rfl (UInt8.toNat_lt _) underlying142 sizeOf5 (by rw [Nat.mul_one])) ?_
  refine ZT.q rfl (Wn.no rfl) rfl rfl (fun wq hS => R.loadE (b := b_4) (off := (0 + (((((pre 176 (K tb key) (16 * r)).drop ((r - 1) * 16)).take 16).getD 15 0).toNat))) (i := ((((pre 176 (K tb key) (16 * r)).drop ((r - 1) * 16)).take 16).getD 15 0).toNat) (v := (vu8 (tb.getD (((((pre 176 (K tb key) (16 * r)).drop ((r - 1) * 16)).take 16).getD 15 0).toNat) 0))) rfl isAgg5 (hS _ M2) Sg.h rfl (get_u8 (lt_len (K := 256) htb (UInt8.toNat_lt _)))) ?_
  refine ZT.q rfl (Wn.no rfl) rfl rfl (fun wq hS => R.indexA (b := b_18) (off := 0) (off' := 12) (i := 12) rfl rfl rfl (by decide) underlying110 sizeOf5 rfl) ?_
  refine ZT.q rfl (Wn.no rfl) rfl rfl (fun wq hS => R.loadE (b := b_18) (off := 12) (i := 12) (v := (vu8 ((((pre 176 (K tb key) (16 * r)).drop ((r - 1) * 16)).take 16).getD 12 0))) rfl isAgg5 (hS _ M0) Sg.h rfl (get_u8 (lt_len (K := 16) (subLen (K := 176) (pre_len (by omega)) (by omega) : List.length (((pre 176 (K tb key) (16 * r)).drop ((r - 1) * 16)).take 16) = 16) (by decide)))) ?_
  refine ZT.q rfl (Wn.no rfl) rfl rfl (fun wq hS => R.indexA (b := b_4) (off := 0) (off' := (0 + (((((pre 176 (K tb key) (16 * r)).drop ((r - 1) * 16)).take 16).getD 12 0).toNat))) (i := ((((pre 176 (K tb key) (16 * r)).drop ((r - 1) * 16)).take 16).getD 12 0).toNat) rfl rfl rfl (UInt8.toNat_lt _) underlying142 sizeOf5 (by rw [Nat.mul_one])) ?_
  refine ZT.q rfl (Wn.no rfl) rfl rfl (fun wq hS => R.loadE (b := b_4) (off := (0 + (((((pre 176 (K tb key) (16 * r)).drop ((r - 1) * 16)).take 16).getD 12 0).toNat))) (i := ((((pre 176 (K tb key) (16 * r)).drop ((r - 1) * 16)).take 16).getD 12 0).toNat) (v := (vu8 (tb.getD (((((pre 176 (K tb key) (16 * r)).drop ((r - 1) * 16)).take 16).getD 12 0).toNat) 0))) rfl isAgg5 (hS _ M2) Sg.h rfl (get_u8 (lt_len (K := 256) htb (UInt8.toNat_lt _)))) ?_
  refine ZT.q rfl (Wn.no rfl) rfl rfl (fun wq hS => R.buildA (vs := [(0, (vu8 ((tb.getD (((((pre 176 (K tb key) (16 * r)).drop ((r - 1) * 16)).take 16).getD 13 0).toNat) 0) ^^^ (pwN (r - 1))))), (1, (vu8 (tb.getD (((((pre 176 (K tb key) (16 * r)).drop ((r - 1) * 16)).take 16).getD 14 0).toNat) 0))), (2, (vu8 (tb.getD (((((pre 176 (K tb key) (16 * r)).drop ((r - 1) * 16)).take 16).getD 15 0).toNat) 0))), (3, (vu8 (tb.getD (((((pre 176 (K tb key) (16 * r)).drop ((r - 1) * 16)).take 16).getD 12 0).toNat) 0)))]) (cs := ([(tb.getD (((((pre 176 (K tb key) (16 * r)).drop ((r - 1) * 16)).take 16).getD 13 0).toNat) 0) ^^^ (pwN (r - 1)), tb.getD (((((pre 176 (K tb key) (16 * r)).drop ((r - 1) * 16)).take 16).getD 14 0).toNat) 0, tb.getD (((((pre 176 (K tb key) (16 * r)).drop ((r - 1) * 16)).take 16).getD 15 0).toNat) 0, tb.getD (((((pre 176 (K tb key) (16 * r)).drop ((r - 1) * 16)).take 16).getD 12 0).toNat) 0] : List UInt8).map vu8) underlying151 sizeOf5 (zv typeInfo151 rfl) rfl rfl) ?_
  refine ZT.s ?_
  refine OpZ.one rfl (Wn.no rfl) ?_
  refine WL.alloc (segs := [(4, (zB 4).map vu8)]) h_24 (zv typeInfo151 rfl) rfl (sC (s8 lr) sN) rfl (fun b_26 w_27 h_28 => ?_)
  refine WL.nil ?_
  refine ⟨(N1_2_3_4 h_28.ok), ?_⟩
  refine ZT.s ?_
  refine OpZ.last rfl (Wn.no rfl) ?_
  refine WL.storeA [] [(4, (zB 4).map vu8)] [(4, ([(tb.getD (((((pre 176 (K tb key) (16 * r)).drop ((r - 1) * 16)).take 16).getD 13 0).toNat) 0) ^^^ (pwN (r - 1)), tb.getD (((((pre 176 (K tb key) (16 * r)).drop ((r - 1) * 16)).take 16).getD 14 0).toNat) 0, tb.getD (((((pre 176 (K tb key) (16 * r)).drop ((r - 1) * 16)).take 16).getD 15 0).toNat) 0, tb.getD (((((pre 176 (K tb key) (16 * r)).drop ((r - 1) * 16)).take 16).getD 12 0).toNat) 0] : List UInt8).map vu8)] [] h_28 rfl rfl sizeOf151 At.h (by decide) rfl rfl rfl rfl rfl rfl (sC (s8 (rfl : List.length ([(tb.getD (((((pre 176 (K tb key) (16 * r)).drop ((r - 1) * 16)).take 16).getD 13 0).toNat) 0) ^^^ (pwN (r - 1)), tb.getD (((((pre 176 (K tb key) (16 * r)).drop ((r - 1) * 16)).take 16).getD 14 0).toNat) 0, tb.getD (((((pre 176 (K tb key) (16 * r)).drop ((r - 1) * 16)).take 16).getD 15 0).toNat) 0, tb.getD (((((pre 176 (K tb key) (16 * r)).drop ((r - 1) * 16)).take 16).getD 12 0).toNat) 0] : List UInt8) = 4)) sN) (fun w_29 h_30 => ?_)
  refine WL.nil (ZT.nil (thn_n (WP.seq (WP.reg ?_))))
  refine qM (vu8 (pwN (r - 1))) rfl rfl ?_
  refine WL.call Try.call99 rfl rfl (c_double (pwN (r - 1)) _ ) rfl ?_
  rintro _ w_32 ⟨rfl, hc_31⟩
  have h_33 := h_30.same hc_31
  refine qA (vu8 (dbl (pwN (r - 1)))) rfl rfl ?_
  refine WL.nil (thn_n (WP.seq (WP.reg ?_)))
  refine qM (vi 0) rfl rfl ?_
  refine WL.nil (thn_n (WP.block ?_))
  rw [ex_t hr] at h_33
  refine WP.loopG (G := Nat) [9, 41, 42, 43, 44, 45, 46, 47, 48, 49, 50, 51, 52, 53, 54, 55, 56, 57, 58, 59, 60, 61] (fun i => [(41, (vn i))]) (fun i m w1 => HP w w1 [.blk b_26 .nw 151 [(4, (tL tb (K tb key) r i).map vu8)], .blk b_18 .nw 110 [(16, (((pre 176 (K tb key) (16 * r)).drop ((r - 1) * 16)).take 16).map vu8)], .blk b_7 .nw 145 [(176, (pre 176 (K tb key) (16 * r + i)).map vu8)], .blk b_4 .nw 142 [(256, tb.map vu8)], .blk b_1 .nw 110 [(16, key.map vu8)]] ∧ (i ≤ 16) ∧ m = 16 - i) ⟨0, _, ⟨rfl, trivial⟩, h_33, (by omega), rfl⟩ ?_
  rintro i m_36 J_37 w_34 ⟨h_35, hi, rfl⟩
  refine WP.seq (WP.reg ?_)
  refine qV rfl (R.bin rfl rfl (bi_lss (r := decide ((((i : Nat) : Int) : Int) < 16)) rfl)) ?_
  refine WL.nil (thn_n (WP.seq ?_))
  refine WP.cond (b := decide ((((i : Nat) : Int) : Int) < 16)) rfl (fun c_38 => ?_) (fun c_38 => ?_)
  ·have p_39 := of_decide_eq_true c_38
   refine WP.skip (thn_n (WP.seq (WP.block (WP.seq (WP.reg ?_)))))
   refine qM (vn i) rfl rfl (qA (vn i) rfl rfl ?_)
   refine WL.nil (thn_n (WP.seq ?_))
   refine WP.drawZ 9 (SL w.heap.size [.blk b_26 .nw 151 [(4, (tL tb (K tb key) r i).map vu8)], .blk b_18 .nw 110 [(16, (((pre 176 (K tb key) (16 * r)).drop ((r - 1) * 16)).take 16).map vu8)], .blk b_7 .nw 145 [(176, (pre 176 (K tb key) (16 * r + i)).map vu8)], .blk b_4 .nw 142 [(256, tb.map vu8)], .blk b_1 .nw 110 [(16, key.map vu8)]]) (.q 0 (.q 1 (.q 2 (.q 3 (.q 4 (.q 5 (.q 6 (.q 7 (.q 8 (.s 9 .nil)))))))))) (by kernel_rfl) (by kernel_rfl) rfl (by kernel_rfl) (fun w_40 hc_42 => (SL.cons ((h_35.same hc_42).ok _ M0) (SL.cons ((h_35.same hc_42).ok _ M1) (SL.cons ((h_35.same hc_42).ok _ M2) (SL.cons ((h_35.same hc_42).ok _ M3) (SL.cons ((h_35.same hc_42).ok _ M4) (SL.nil _ _))))))) (fun w_40 hc_42 => ?_)
   have h_41 := h_35.same hc_42
   refine ZT.q rfl (Wn.no rfl) rfl rfl (fun wq hS => R.move (v := (vn i)) rfl) ?_
   refine ZT.q rfl (Wn.no rfl) rfl rfl (fun wq hS => R.bin rfl rfl (bi_rem (c := ((i % 4 : Nat) : Int)) (Int.natCast_nonneg _) (by omega) (by first | omega | rfl))) ?_
   refine ZT.q rfl (Wn.no rfl) rfl rfl (fun wq hS => R.indexA (b := b_26) (off := 0) (off' := (0 + (i % 4))) (i := i % 4) rfl rfl rfl (by omega) underlying151 sizeOf5 (by rw [Nat.mul_one])) ?_
   refine ZT.q rfl (Wn.no rfl) rfl rfl (fun wq hS => R.loadE (b := b_26) (off := (0 + (i % 4))) (i := i % 4) (v := (vu8 ((tL tb (K tb key) r i).getD (i % 4) 0))) rfl isAgg5 (hS _ M0) Sg.h rfl (get_u8 (lt_len (K := 4) (tL_len ..) (by omega)))) ?_
   refine ZT.q rfl (Wn.no rfl) rfl rfl (fun wq hS => R.move (v := (vn i)) rfl) ?_
   refine ZT.q rfl (Wn.no rfl) rfl rfl (fun wq hS => R.indexA (b := b_18) (off := 0) (off' := (0 + i)) (i := i) rfl rfl rfl (by omega) underlying110 sizeOf5 (by rw [Nat.mul_one])) ?_
   refine ZT.q rfl (Wn.no rfl) rfl rfl (fun wq hS => R.loadE (b := b_18) (off := (0 + i)) (i := i) (v := (vu8 ((((pre 176 (K tb key) (16 * r)).drop ((r - 1) * 16)).take 16).getD i 0))) rfl isAgg5 (hS _ M1) Sg.h rfl (get_u8 (lt_len (K := 16) (subLen (K := 176) (pre_len (by omega)) (by omega) : List.length (((pre 176 (K tb key) (16 * r)).drop ((r - 1) * 16)).take 16) = 16) (by omega)))) ?_
   refine ZT.q rfl (Wn.no rfl) rfl rfl (fun wq hS => R.bin rfl rfl (b8_xor ((tL tb (K tb key) r i).getD (i % 4) 0) ((((pre 176 (K tb key) (16 * r)).drop ((r - 1) * 16)).take 16).getD i 0))) ?_
   refine ZT.q rfl (Wn.no rfl) rfl rfl (fun wq hS => R.indexA (b := b_26) (off := 0) (off' := (0 + (i % 4))) (i := i % 4) rfl rfl rfl (by omega) underlying151 sizeOf5 (by rw [Nat.mul_one])) ?_
   refine ZT.s ?_
   refine OpZ.last rfl (Wn.no rfl) ?_
   refine WL.storeE (b := b_26) (off := (0 + (i % 4))) (i := i % 4) (v := (vu8 (((tL tb (K tb key) r i).getD (i % 4) 0) ^^^ ((((pre 176 (K tb key) (16 * r)).drop ((r - 1) * 16)).take 16).getD i 0)))) (cs' := ((tL tb (K tb key) r i).set (i % 4) (((tL tb (K tb key) r i).getD (i % 4) 0) ^^^ ((((pre 176 (K tb key) (16 * r)).drop ((r - 1) * 16)).take 16).getD i 0))).map vu8) h_41 rfl rfl sizeOf5 rfl At.h (by decide) Sg.h rfl (lt_len (K := 4) (len_map (tL_len ..)) (by omega)) (set_u8 _ _ _) (fun w_43 h_44 => ?_)
   refine WL.nil (ZT.nil (thn_n ?_))
   refine WP.drawT (SL w.heap.size [.blk b_26 .nw 151 [(4, ((tL tb (K tb key) r i).set (i % 4) (((tL tb (K tb key) r i).getD (i % 4) 0) ^^^ ((((pre 176 (K tb key) (16 * r)).drop ((r - 1) * 16)).take 16).getD i 0))).map vu8)], .blk b_18 .nw 110 [(16, (((pre 176 (K tb key) (16 * r)).drop ((r - 1) * 16)).take 16).map vu8)], .blk b_4 .nw 142 [(256, tb.map vu8)], .blk b_1 .nw 110 [(16, key.map vu8)]]) (.q 0 (.q 1 (.q 2 (.q 3 (.q 4 (.q 5 (.q 6 (.q 7 (.s 8 .nil))))))))) (by kernel_rfl) (by kernel_rfl) rfl (by kernel_rfl) (fun w_45 hc_47 => (SL.cons ((h_44.same hc_47).ok _ M0) (SL.cons ((h_44.same hc_47).ok _ M1) (SL.cons ((h_44.same hc_47).ok _ M3) (SL.cons ((h_44.same hc_47).ok _ M4) (SL.nil _ _)))))) (fun w_45 hc_47 => ?_)
   have h_46 := h_44.same hc_47
   refine qT rfl rfl (fun wq hS => R.move (v := (vn r)) rfl) ?_
   refine qT rfl rfl (fun wq hS => R.move (v := (vn i)) rfl) ?_
   refine qT rfl rfl (fun wq hS => R.move (v := (vn i)) rfl) ?_
   refine qT rfl rfl (fun wq hS => R.bin rfl rfl (bi_rem (c := ((i % 4 : Nat) : Int)) (Int.natCast_nonneg _) (by omega) (by first | omega | rfl))) ?_
   refine qT rfl rfl (fun wq hS => R.indexA (b := b_26) (off := 0) (off' := (0 + (i % 4))) (i := i % 4) rfl rfl rfl (by omega) underlying151 sizeOf5 (by rw [Nat.mul_one])) ?_
   refine qT rfl rfl (fun wq hS => R.loadE (b := b_26) (off := (0 + (i % 4))) (i := i % 4) (v := (vu8 (((tL tb (K tb key) r i).set (i % 4) (((tL tb (K tb key) r i).getD (i % 4) 0) ^^^ ((((pre 176 (K tb key) (16 * r)).drop ((r - 1) * 16)).take 16).getD i 0))).getD (i % 4) 0))) rfl isAgg5 (hS _ M0) Sg.h rfl (get_u8 (lt_len (K := 4) (len_set (tL_len ..) _ _) (by omega)))) ?_
   refine qT rfl rfl (fun wq hS => R.indexA (b := b_7) (off := 0) (off' := (0 + (r * 16))) (i := r) rfl rfl rfl (by omega) underlying145 sizeOf110 rfl) ?_
   refine qT rfl rfl (fun wq hS => R.indexA (b := b_7) (off := (0 + (r * 16))) (off' := (0 + (r * 16 + i))) (i := i) rfl rfl rfl (by omega) underlying110 sizeOf5 (by omega)) ?_
   refine WT.s (oN rfl ?_)
   refine WL.storeE (b := b_7) (off := (0 + (r * 16 + i))) (i := r * 16 + i) (v := (vu8 (((tL tb (K tb key) r i).set (i % 4) (((tL tb (K tb key) r i).getD (i % 4) 0) ^^^ ((((pre 176 (K tb key) (16 * r)).drop ((r - 1) * 16)).take 16).getD i 0))).getD (i % 4) 0))) (cs' := ((pre 176 (K tb key) (16 * r + i)).set (r * 16 + i) (((tL tb (K tb key) r i).set (i % 4) (((tL tb (K tb key) r i).getD (i % 4) 0) ^^^ ((((pre 176 (K tb key) (16 * r)).drop ((r - 1) * 16)).take 16).getD i 0))).getD (i % 4) 0)).map vu8) h_46 rfl rfl sizeOf5 rfl Y2 (by decide) Sg.h rfl (lt_len (K := 176) (len_map (pre_len (by omega))) (by omega)) (set_u8 _ _ _) (fun w_48 h_49 => ?_)
   refine WL.nil ?_
   refine ⟨(SL.cons (h_49.ok _ M0) (SL.cons (h_49.ok _ M1) (SL.cons (h_49.ok _ M3) (SL.cons (h_49.ok _ M4) (SL.nil _ _))))), ?_⟩
   refine WT.nil (inb_n (thn_n (WP.reg ?_)))
   refine qV rfl (R.bin rfl rfl (bi_add (c := ((i + 1 : Nat) : Int)) (by omega) (by omega))) (qM (vn (i + 1)) rfl rfl ?_)
   refine WL.nil (thn_n ?_)
   have ex := ex_in (tb := tb) hkey hr (by omega) (i := i) (by omega) (x := (((pre 176 (K tb key) (16 * r)).drop ((r - 1) * 16)).take 16).getD i 0) (last_get (m := 0) hr (by omega))
   rw [ex.2, ex.1] at h_49
   exact ⟨i + 1, _, (by omega), (U2 rfl rfl (U4 rfl rfl rfl rfl (U4 rfl rfl rfl rfl (U4 rfl rfl rfl rfl (U4 rfl rfl rfl rfl (U4 rfl rfl rfl rfl (Ag.updL rfl (Ag.mix _ _ _)))))))), ⟨rfl, trivial⟩, h_49, (by omega), rfl⟩
  ·have p_50 := of_decide_eq_false c_38
   refine WP.exit (thn_x (thn_x (inb_hit (inb_n (thn_n (WP.reg ?_))))))
   refine qM (vn r) rfl rfl (qV rfl (R.bin rfl rfl (bi_add (c := ((r + 1 : Nat) : Int)) (by omega) (by omega))) (qA (vn (r + 1)) rfl rfl ?_))
   refine WL.nil (thn_n ?_)
   have hi16 : i = 16 := by omega
   subst hi16
   have h_52 := (h_35.drop rfl).drop rfl
   rw [show 16 * r + 16 = 16 * (r + 1) by omega] at h_52
   exact ⟨r + 1, _, (by omega), (U4 rfl rfl rfl rfl (Ag.updL rfl (Ag.trans (Ag.sub rfl (Ag.mix _ _ _)) (Ag.upd rfl (Ag.upd rfl (Ag.upd rfl (Ag.upd rfl (Ag.upd rfl (Ag.upd rfl (Ag.upd rfl (Ag.upd rfl (Ag.upd rfl (Ag.upd rfl (Ag.upd rfl (Ag.upd rfl (Ag.upd rfl (Ag.upd rfl (Ag.upd rfl (Ag.upd rfl (Ag.upd rfl (Ag.upd rfl (Ag.upd rfl (Ag.upd rfl (Ag.upd rfl (Ag.upd rfl (Ag.upd rfl (Ag.upd rfl (Ag.upd rfl (Ag.upd rfl (Ag.upd rfl (Ag.upd rfl (Ag.upd rfl (Ag.upd rfl (Ag.upd rfl (Ag.updL rfl (Ag.mix _ _ _)))))))))))))))))))))))))))))))))))), ⟨congrArg vu8 (pw_next hr), rfl, trivial⟩, h_52, (by omega), (by omega), rfl⟩
 ·have p_53 := of_decide_eq_false c_16
  refine WP.exit (thn_x (thn_x (inb_hit (thn_n (WP.seq (WP.reg ?_))))))
  refine qV rfl (R.loadA [] [(176, (pre 176 (K tb key) (16 * r)).map vu8)] [] (cs := (pre 176 (K tb key) (16 * r)).map vu8) rfl isAgg145 sizeOf145 (h_13.ok _ M0) rfl rfl rfl rfl) ?_
  refine WL.storeA [] [(176, (pre 176 (K tb key) (16 * r)).map vu8)] [(176, (pre 176 (K tb key) (16 * r)).map vu8)] [] h_13 rfl rfl sizeOf145 At.h (by decide) rfl rfl rfl rfl rfl rfl (sC (s8 (pre_len (by omega))) sN) (fun w_54 h_55 => ?_)
  refine WL.nil (thn_n (WP.ret ?_))
  refine ret_of results86 (RV.cell rfl (h_55.loadA (cs := (pre 176 (K tb key) (16 * r)).map vu8) isAgg145 sizeOf145 M0 rfl rfl) RV.nil) ?_
  have hr11 : r = 11 := by omega
  subst hr11
  exact ⟨by rw [show 16 * 11 = 176 from rfl, pre_all]; rfl, h_55.chgS⟩

theorem c_open (key : List UInt8) (hkey : key.length = 16) (w : World) :
  Cs Try.prog 70 [(.agg ⟨key.map vu8⟩)].toArray w (fun v w1 => ∃ b, v = .pointer (some ⟨b, 0, none⟩) ∧ Chg w w1 [] ∧ w.heap.size ≤ b ∧ CellsAt w1 b 148 (flat [(176, (keysL (tabL sub) key).map vu8), (256, (tabL sub).map vu8)])) := by
 refine Cs.of (n := 11) (args := [(.agg ⟨key.map vu8⟩)]) Try.func70 rfl rfl rfl ?_
 have h_0 := HP.init w
 refine WP.seq (WP.reg ?_)
 refine WL.box (segs := [(16, key.map vu8)]) h_0 rfl rfl (sC (s8 hkey) sN) rfl (fun b_1 w_2 h_3 => ?_)
 refine qA (.pointer none) rfl rfl ?_
 refine WL.nil (thn_n (WP.seq (WP.reg ?_)))
 refine WL.call Try.call84 rfl rfl (c_tableSub  _ ) rfl ?_
 rintro _ w_5 ⟨rfl, hc_4⟩
 have h_6 := h_3.same hc_4
 refine WL.alloc (segs := [(256, (zB 256).map vu8)]) h_6 (zv typeInfo142 rfl) rfl (sC (s8 lr) sN) rfl (fun b_7 w_8 h_9 => ?_)
 refine WL.storeA [] [(256, (zB 256).map vu8)] [(256, (tabL sub).map vu8)] [] h_9 rfl rfl sizeOf142 At.h (by decide) rfl rfl rfl rfl rfl rfl (sC (s8 (tabL_len sub)) sN) (fun w_10 h_11 => ?_)
 refine WL.nil (thn_n (WP.seq ?_))
 refine WP.drawT (SL w.heap.size [.blk b_7 .nw 142 [(256, (tabL sub).map vu8)], .blk b_1 .nw 110 [(16, key.map vu8)]]) (.q 0 (.q 1 (.q 3 (.s 2 (.q 4 (.s 5 (.q 6 .nil))))))) (by kernel_rfl) (by kernel_rfl) rfl (by kernel_rfl) (fun w_12 hc_14 => (SL.cons ((h_11.same hc_14).ok _ M0) (SL.cons ((h_11.same hc_14).ok _ M1) (SL.nil _ _)))) (fun w_12 hc_14 => ?_)
 have h_13 := h_11.same hc_14
 refine qT rfl rfl (fun wq hS => R.loadA [] [(16, key.map vu8)] [] (cs := key.map vu8) rfl isAgg110 sizeOf110 (hS _ M1) rfl rfl rfl rfl) ?_
 refine qT rfl rfl (fun wq hS => R.loadA [] [(256, (tabL sub).map vu8)] [] (cs := (tabL sub).map vu8) rfl isAgg142 sizeOf142 (hS _ M0) rfl rfl rfl rfl) ?_
 refine qT rfl rfl (fun wq hS => R.loadA [] [(256, (tabL sub).map vu8)] [] (cs := (tabL sub).map vu8) rfl isAgg142 sizeOf142 (hS _ M0) rfl rfl rfl rfl) ?_
 refine WT.s (oN rfl ?_)
 refine WL.call Try.call86 rfl rfl (c_expand (tabL sub) key (tabL_len sub) hkey _ ) rfl ?_
 rintro _ w_16 ⟨rfl, hc_15⟩
 have h_17 := h_13.same hc_15
 refine WL.nil ?_
 refine ⟨(N0_1 h_17.ok), ?_⟩
 refine qT rfl rfl (fun wq hS => R.buildS (pl := [(0, 176), (176, 256)]) (zs := [(176, (zB 176).map vu8), (256, (zB 256).map vu8)]) (vs := [(0, (.agg ⟨(keysL (tabL sub) key).map vu8⟩)), (1, (.agg ⟨(tabL sub).map vu8⟩))]) (out := [(176, (keysL (tabL sub) key).map vu8), (256, (tabL sub).map vu8)]) underlying148 (zv typeInfo148 rfl) rfl (sC (s8 lr) (sC (s8 lr) sN)) (pl148 _ underlying148) rfl (FillR.cons [] [(176, (zB 176).map vu8)] [(176, (keysL (tabL sub) key).map vu8)] [(256, (zB 256).map vu8)] rfl rfl rfl rfl (sC (s8 (keysL_len ..)) sN) rfl rfl rfl (FillR.cons [(176, (keysL (tabL sub) key).map vu8)] [(256, (zB 256).map vu8)] [(256, (tabL sub).map vu8)] [] rfl rfl rfl rfl (sC (s8 (tabL_len sub)) sN) rfl rfl rfl FillR.nil)) rfl) ?_
 refine WT.s (oN rfl ?_)
 refine WL.box (segs := [(176, (keysL (tabL sub) key).map vu8), (256, (tabL sub).map vu8)]) h_17 rfl rfl (sC (s8 (keysL_len ..)) (sC (s8 (tabL_len sub)) sN)) rfl (fun b_19 w_20 h_21 => ?_)
 refine WL.nil ?_
 refine ⟨(N1_2 h_21.ok), ?_⟩
 refine qT rfl rfl (fun wq hS => R.assign (v := (pO b_19 0)) rfl) ?_
 refine WT.nil (thn_n (WP.ret ?_))
 refine ret_of results70 (RV.tmp (v := (pO b_19 0)) rfl RV.nil) ?_
 exact ⟨_, rfl, h_21.chgS, h_21.newB M0, h_21.cells M0⟩

theorem c_do (keys tb blk : List UInt8) (hks : keys.length = 176) (htb : tb.length = 256) (hbl : blk.length = 16) (bc : Nat) (w : World) (hcb : (Ent.blk bc .ro 148 [(176, keys.map vu8), (256, tb.map vu8)]).ok w.heap.size w) :
  Cs Try.prog 71 [(.pointer (some ⟨bc, 0, none⟩)), (.agg ⟨blk.map vu8⟩)].toArray w (fun v w1 => v = (.agg ⟨(encN keys tb blk 10).map vu8⟩) ∧ Chg w w1 []) := by
 refine Cs.of (n := 53) (args := [(pO bc 0), (.agg ⟨blk.map vu8⟩)]) Try.func71 rfl rfl rfl ?_
 have h_0 := HP.init w
 have h_00 := h_0.old hcb (fun f hf => by cases hf)
 refine WP.seq (WP.reg ?_)
 refine WL.box (segs := [(16, blk.map vu8)]) h_00 rfl rfl (sC (s8 hbl) sN) rfl (fun b_1 w_2 h_3 => ?_)
 refine WL.alloc (segs := [(16, (zB 16).map vu8)]) h_3 (zv typeInfo110 rfl) rfl (sC (s8 lr) sN) rfl (fun b_4 w_5 h_6 => ?_)
 refine WL.nil (thn_n (WP.seq ?_))
 refine WP.cutG (G := Nat) [5, 9, 10, 11, 12, 13, 14, 15] (fun bY1Y7Y0Y0 => [(9, (.agg ⟨blk.map vu8⟩)), (10, (pO bc 0)), (11, (pO bc 0)), (12, (pO bc 0)), (13, (pO bc 0)), (14, (.agg ⟨((keys.drop 0).take 16).map vu8⟩)), (15, (.agg ⟨(xorL blk ((keys.drop 0).take 16)).map vu8⟩)), (5, (pO bY1Y7Y0Y0 0))]) (fun bY1Y7Y0Y0 w1 => HP w w1 [.blk bY1Y7Y0Y0 .nw 110 [(16, (xorL blk ((keys.drop 0).take 16)).map vu8)], .blk b_4 .nw 110 [(16, (zB 16).map vu8)], .blk b_1 .nw 110 [(16, blk.map vu8)], .blk bc .ro 148 [(176, keys.map vu8), (256, tb.map vu8)]]) ?_ ?_
 ·refine WP.drawZ 8 (SL w.heap.size [.blk b_4 .nw 110 [(16, (zB 16).map vu8)], .blk b_1 .nw 110 [(16, blk.map vu8)], .blk bc .ro 148 [(176, keys.map vu8), (256, tb.map vu8)]]) (.q 0 (.q 1 (.q 2 (.q 3 (.q 4 (.q 5 (.s2 6 7 (.s 7 (.s 8 .nil)) (.s 6 (.s 8 .nil))))))))) (by kernel_rfl) (by kernel_rfl) rfl (by kernel_rfl) (fun w_7 hc_9 => (SL.cons ((h_6.same hc_9).ok _ M0) (SL.cons ((h_6.same hc_9).ok _ M1) (SL.cons ((h_6.same hc_9).ok _ M2) (SL.nil _ _))))) (fun w_7 hc_9 => ?_)
  have h_8 := h_6.same hc_9
  refine ZT.q rfl (Wn.no rfl) rfl rfl (fun wq hS => R.loadA [] [(16, blk.map vu8)] [] (cs := blk.map vu8) rfl isAgg110 sizeOf110 (hS _ M1) rfl rfl rfl rfl) ?_
  refine ZT.q rfl (Wn.no rfl) rfl rfl (fun wq hS => R.move (v := (pO bc 0)) rfl) ?_
  refine ZT.q rfl (Wn.no rfl) rfl rfl (fun wq hS => R.nilCheck rfl) ?_
  refine ZT.q rfl (Wn.no rfl) rfl rfl (fun wq hS => R.fieldAddr (off' := 0) rfl underlying148 rfl sizeOf145 rfl rfl) ?_
  refine ZT.q rfl (Wn.no rfl) rfl rfl (fun wq hS => R.indexA (b := bc) (off := 0) (off' := 0) (i := 0) rfl rfl rfl (by decide) underlying145 sizeOf110 rfl) ?_
  refine ZT.q rfl (Wn.no rfl) rfl rfl (fun wq hS => R.loadEA (b := bc) (off := 0) (i := 0) (xs := ((keys.drop 0).take 16).map vu8) rfl isAgg110 sizeOf110 (hS _ M2) Sg.h rfl (by rw [List.map_take, List.map_drop]) (len_map (subLen (K := 176) hks (by omega) : List.length ((keys.drop 0).take 16) = 16))) ?_
  refine ZT.s2 ?_ ?_
  ·refine OpZ.one rfl (Wn.no rfl) ?_
   refine WL.call Try.call87 rfl rfl (c_with blk ((keys.drop 0).take 16) hbl (subLen (K := 176) hks (by omega) : List.length ((keys.drop 0).take 16) = 16) _ ) rfl ?_
   rintro _ w_11 ⟨rfl, hc_10⟩
   have h_12 := h_8.same hc_10
   refine WL.nil ?_
   refine ⟨(N0_1_2 h_12.ok), ?_⟩
   refine ZT.s ?_
   refine OpZ.one rfl (Wn.no rfl) ?_
   refine WL.alloc (segs := [(16, (zB 16).map vu8)]) h_12 (zv typeInfo110 rfl) rfl (sC (s8 lr) sN) rfl (fun b_13 w_14 h_15 => ?_)
   refine WL.nil ?_
   refine ⟨(N1_2_3 h_15.ok), ?_⟩
   refine ZT.s ?_
   refine OpZ.last rfl (Wn.no rfl) ?_
   refine WL.storeA [] [(16, (zB 16).map vu8)] [(16, (xorL blk ((keys.drop 0).take 16)).map vu8)] [] h_15 rfl rfl sizeOf110 At.h (by decide) rfl rfl rfl rfl rfl rfl (sC (s8 (xorL_len hbl (subLen (K := 176) hks (by omega) : List.length ((keys.drop 0).take 16) = 16))) sN) (fun w_16 h_17 => ?_)
   refine WL.nil (ZT.nil (thn_n ?_))
   exact ⟨b_13, (U4 rfl rfl rfl rfl (U4 rfl rfl rfl rfl (Ag.refl _ _))), ⟨rfl, rfl, rfl, rfl, rfl, rfl, rfl, rfl, trivial⟩, h_17⟩
  ·refine OpZ.one rfl (Wn.no rfl) ?_
   refine WL.alloc (segs := [(16, (zB 16).map vu8)]) h_8 (zv typeInfo110 rfl) rfl (sC (s8 lr) sN) rfl (fun b_18 w_19 h_20 => ?_)
   refine WL.nil ?_
   refine ⟨(N1_2_3 h_20.ok), ?_⟩
   refine ZT.s ?_
   refine OpZ.one rfl (Wn.no rfl) ?_
   refine WL.call Try.call87 rfl rfl (c_with blk ((keys.drop 0).take 16) hbl (subLen (K := 176) hks (by omega) : List.length ((keys.drop 0).take 16) = 16) _ ) rfl ?_
   rintro _ w_22 ⟨rfl, hc_21⟩
   have h_23 := h_20.same hc_21
   refine WL.nil ?_
   refine ⟨(N1_2_3 h_23.ok), ?_⟩
   refine ZT.s ?_
   refine OpZ.last rfl (Wn.no rfl) ?_
   refine WL.storeA [] [(16, (zB 16).map vu8)] [(16, (xorL blk ((keys.drop 0).take 16)).map vu8)] [] h_23 rfl rfl sizeOf110 At.h (by decide) rfl rfl rfl rfl rfl rfl (sC (s8 (xorL_len hbl (subLen (K := 176) hks (by omega) : List.length ((keys.drop 0).take 16) = 16))) sN) (fun w_24 h_25 => ?_)
   refine WL.nil (ZT.nil (thn_n ?_))
   exact ⟨b_18, (U4 rfl rfl rfl rfl (U4 rfl rfl rfl rfl (Ag.refl _ _))), ⟨rfl, rfl, rfl, rfl, rfl, rfl, rfl, rfl, trivial⟩, h_25⟩
 ·rintro b_29 J_26 w_27 h_28
  refine thn_n (WP.seq (WP.seq (WP.reg ?_)))
  refine qA (vi 1) rfl rfl ?_
  refine WL.nil (thn_n (WP.block ?_))
  refine WP.loopG (G := Nat) [6, 7, 8, 16, 17, 18, 19, 20, 21, 22, 23, 24, 25, 26, 27, 28, 29, 30, 31, 32, 33, 34, 35, 36, 37, 38, 39, 40, 41, 42, 43, 44, 45, 46, 47, 48, 49, 50, 51] (fun r => [(6, (vn r))]) (fun r m w1 => HP w w1 [.blk b_29 .nw 110 [(16, (encN keys tb blk (r - 1)).map vu8)], .blk b_4 .nw 110 [(16, (zB 16).map vu8)], .blk b_1 .nw 110 [(16, blk.map vu8)], .blk bc .ro 148 [(176, keys.map vu8), (256, tb.map vu8)]] ∧ (1 ≤ r) ∧ (r ≤ 11) ∧ m = 11 - r) ⟨1, _, ⟨rfl, trivial⟩, h_28, (by omega), (by omega), rfl⟩ ?_
  rintro r m_32 J_33 w_30 ⟨h_31, hr, hr2, rfl⟩
  refine WP.seq (WP.seq (WP.reg ?_))
  refine qM (vn r) rfl rfl (qV rfl (R.bin rfl rfl (bi_lss (r := decide ((((r : Nat) : Int) : Int) < 11)) rfl)) ?_)
  refine WL.nil (thn_n ?_)
  refine WP.cond (b := decide ((((r : Nat) : Int) : Int) < 11)) rfl (fun c_34 => ?_) (fun c_34 => ?_)
  ·have p_35 := of_decide_eq_true c_34
   refine WP.skip (thn_n (WP.seq (WP.block (WP.seq (WP.reg ?_)))))
   refine WL.alloc (segs := [(16, (zB 16).map vu8)]) h_31 (zv typeInfo110 rfl) rfl (sC (s8 lr) sN) rfl (fun b_36 w_37 h_38 => ?_)
   refine WL.nil (thn_n (WP.seq (WP.seq (WP.reg ?_))))
   refine qM (vi 0) rfl rfl ?_
   refine WL.nil (thn_n (WP.block ?_))
   refine WP.loopG (G := Nat) [8, 20, 21, 22, 23, 24, 25, 26, 27, 28, 29, 30, 31, 32, 33, 34, 35, 36, 37, 38] (fun i => [(20, (vn i))]) (fun i m w1 => HP w w1 [.blk b_36 .nw 110 [(16, (pre 16 (shb tb (encN keys tb blk (r - 1))) i).map vu8)], .blk b_29 .nw 110 [(16, (encN keys tb blk (r - 1)).map vu8)], .blk b_4 .nw 110 [(16, (zB 16).map vu8)], .blk b_1 .nw 110 [(16, blk.map vu8)], .blk bc .ro 148 [(176, keys.map vu8), (256, tb.map vu8)]] ∧ (i ≤ 16) ∧ m = 16 - i) ⟨0, _, ⟨rfl, trivial⟩, (by rw [pre_0]; exact h_38), (by omega), rfl⟩ ?_
   rintro i m_41 J_42 w_39 ⟨h_40, hi, rfl⟩
   refine WP.seq (WP.reg ?_)
   refine qV rfl (R.bin rfl rfl (bi_lss (r := decide ((((i : Nat) : Int) : Int) < 16)) rfl)) ?_
   refine WL.nil (thn_n (WP.seq ?_))
   refine WP.cond (b := decide ((((i : Nat) : Int) : Int) < 16)) rfl (fun c_43 => ?_) (fun c_43 => ?_)
   ·have p_44 := of_decide_eq_true c_43
    refine WP.skip (thn_n (WP.seq (WP.block (WP.seq (WP.reg ?_)))))
    refine qM (vn i) rfl rfl (qA (vn i) rfl rfl ?_)
    refine WL.nil (thn_n ?_)
    refine WP.drawZ 15 (SL w.heap.size [.blk b_36 .nw 110 [(16, (pre 16 (shb tb (encN keys tb blk (r - 1))) i).map vu8)], .blk b_29 .nw 110 [(16, (encN keys tb blk (r - 1)).map vu8)], .blk b_4 .nw 110 [(16, (zB 16).map vu8)], .blk b_1 .nw 110 [(16, blk.map vu8)], .blk bc .ro 148 [(176, keys.map vu8), (256, tb.map vu8)]]) (.q 0 (.q 1 (.q 2 (.q 3 (.q 4 (.q 5 (.q 6 (.q 7 (.q 8 (.q 9 (.q 10 (.q 11 (.q 12 (.q 13 (.q 14 (.s 15 .nil)))))))))))))))) (by kernel_rfl) (by kernel_rfl) rfl (by kernel_rfl) (fun w_45 hc_47 => (SL.cons ((h_40.same hc_47).ok _ M0) (SL.cons ((h_40.same hc_47).ok _ M1) (SL.cons ((h_40.same hc_47).ok _ M2) (SL.cons ((h_40.same hc_47).ok _ M3) (SL.cons ((h_40.same hc_47).ok _ M4) (SL.nil _ _))))))) (fun w_45 hc_47 => ?_)
    have h_46 := h_40.same hc_47
    refine ZT.q rfl (Wn.no rfl) rfl rfl (fun wq hS => R.move (v := (vn i)) rfl) ?_
    refine ZT.q rfl (Wn.no rfl) rfl rfl (fun wq hS => R.move (v := (pO bc 0)) rfl) ?_
    refine ZT.q rfl (Wn.no rfl) rfl rfl (fun wq hS => R.move (v := (vn i)) rfl) ?_
    refine ZT.q rfl (Wn.no rfl) rfl rfl (fun wq hS => R.move (v := (vn i)) rfl) ?_
    refine ZT.q rfl (Wn.no rfl) rfl rfl (fun wq hS => R.bin rfl rfl (bi_rem (c := ((i % 4 : Nat) : Int)) (Int.natCast_nonneg _) (by omega) (by first | omega | rfl))) ?_
    refine ZT.q rfl (Wn.no rfl) rfl rfl (fun wq hS => R.bin rfl rfl (bi_mul (c := (((i % 4) * 4 : Nat) : Int)) (by omega) (by omega))) ?_
    refine ZT.q rfl (Wn.no rfl) rfl rfl (fun wq hS => R.bin rfl rfl (bi_add (c := ((i + ((i % 4) * 4) : Nat) : Int)) (by omega) (by omega))) ?_
    refine ZT.q rfl (Wn.no rfl) rfl rfl (fun wq hS => R.bin rfl rfl (bi_rem (c := (((i + ((i % 4) * 4)) % 16 : Nat) : Int)) (Int.natCast_nonneg _) (by omega) (by first | omega | rfl))) ?_
    refine ZT.q rfl (Wn.no rfl) rfl rfl (fun wq hS => R.indexA (b := b_29) (off := 0) (off' := (0 + ((i + ((i % 4) * 4)) % 16))) (i := (i + ((i % 4) * 4)) % 16) rfl rfl rfl (by omega) underlying110 sizeOf5 (by rw [Nat.mul_one])) ?_
    refine ZT.q rfl (Wn.no rfl) rfl rfl (fun wq hS => R.loadE (b := b_29) (off := (0 + ((i + ((i % 4) * 4)) % 16))) (i := (i + ((i % 4) * 4)) % 16) (v := (vu8 ((encN keys tb blk (r - 1)).getD ((i + ((i % 4) * 4)) % 16) 0))) rfl isAgg5 (hS _ M1) Sg.h rfl (get_u8 (lt_len (K := 16) (encN_len hks hbl (by omega)) (by omega)))) ?_
    refine ZT.q rfl (Wn.no rfl) rfl rfl (fun wq hS => R.nilCheck rfl) ?_
    refine ZT.q rfl (Wn.no rfl) rfl rfl (fun wq hS => R.fieldAddr (off' := 176) rfl underlying148 rfl sizeOf142 rfl rfl) ?_
    refine ZT.q rfl (Wn.no rfl) rfl rfl (fun wq hS => R.indexA (b := bc) (off := 176) (off' := (176 + (((encN keys tb blk (r - 1)).getD ((i + ((i % 4) * 4)) % 16) 0).toNat))) (i := ((encN keys tb blk (r - 1)).getD ((i + ((i % 4) * 4)) % 16) 0).toNat) rfl rfl rfl (UInt8.toNat_lt _) underlying142 sizeOf5 (by rw [Nat.mul_one])) ?_
    refine ZT.q rfl (Wn.no rfl) rfl rfl (fun wq hS => R.loadE (b := bc) (off := (176 + (((encN keys tb blk (r - 1)).getD ((i + ((i % 4) * 4)) % 16) 0).toNat))) (i := ((encN keys tb blk (r - 1)).getD ((i + ((i % 4) * 4)) % 16) 0).toNat) (v := (vu8 (tb.getD (((encN keys tb blk (r - 1)).getD ((i + ((i % 4) * 4)) % 16) 0).toNat) 0))) rfl isAgg5 (hS _ M4) (Sg.t rfl Sg.h) rfl (get_u8 (lt_len (K := 256) htb (UInt8.toNat_lt _)))) ?_
    refine ZT.q rfl (Wn.no rfl) rfl rfl (fun wq hS => R.indexA (b := b_36) (off := 0) (off' := (0 + i)) (i := i) rfl rfl rfl (by omega) underlying110 sizeOf5 (by rw [Nat.mul_one])) ?_
    refine ZT.s ?_
    refine OpZ.last rfl (Wn.no rfl) ?_
    refine WL.storeE (b := b_36) (off := (0 + i)) (i := i) (v := (vu8 (tb.getD (((encN keys tb blk (r - 1)).getD ((i + ((i % 4) * 4)) % 16) 0).toNat) 0))) (cs' := ((pre 16 (shb tb (encN keys tb blk (r - 1))) i).set i (tb.getD (((encN keys tb blk (r - 1)).getD ((i + ((i % 4) * 4)) % 16) 0).toNat) 0)).map vu8) h_46 rfl rfl sizeOf5 rfl At.h (by decide) Sg.h rfl (lt_len (K := 16) (len_map (pre_len (by omega))) (by omega)) (set_u8 _ _ _) (fun w_48 h_49 => ?_)
    refine WL.nil (ZT.nil (inb_n (thn_n (WP.reg ?_))))
    refine qV rfl (R.bin rfl rfl (bi_add (c := ((i + 1 : Nat) : Int)) (by omega) (by omega))) (qM (vn (i + 1)) rfl rfl ?_)
    refine WL.nil (thn_n ?_)
    have es := pre_set (n := 16) (g := shb tb (encN keys tb blk (r - 1))) (i := i) (x := tb.getD ((encN keys tb blk (r - 1)).getD ((i + i % 4 * 4) % 16) 0).toNat 0) (by omega) rfl
    rw [es] at h_49
    exact ⟨i + 1, _, (by omega), (U4 rfl rfl rfl rfl (U4 rfl rfl rfl rfl (U4 rfl rfl rfl rfl (U4 rfl rfl rfl rfl (U4 rfl rfl rfl rfl (Ag.updL rfl (Ag.mix _ _ _))))))), ⟨rfl, trivial⟩, h_49, (by omega), rfl⟩
   ·have p_50 := of_decide_eq_false c_43
    refine WP.exit (thn_x (thn_x (inb_hit (thn_n (WP.seq (WP.seq (WP.reg ?_)))))))
    refine qM (vn r) rfl rfl (qV rfl (R.bin rfl rfl (bi_lss (r := decide ((((r : Nat) : Int) : Int) < 10)) rfl)) ?_)
    refine WL.nil (thn_n ?_)
    refine WP.cond (b := decide ((((r : Nat) : Int) : Int) < 10)) rfl (fun c_51 => ?_) (fun c_51 => ?_)
    ·have p_52 := of_decide_eq_true c_51
     refine WP.reg ?_
     refine qV rfl (R.loadA [] [(16, (pre 16 (shb tb (encN keys tb blk (r - 1))) i).map vu8)] [] (cs := (pre 16 (shb tb (encN keys tb blk (r - 1))) i).map vu8) rfl isAgg110 sizeOf110 (h_40.ok _ M0) rfl rfl rfl rfl) (qV rfl (R.buildA (vs := [(0, (vu8 2)), (1, (vu8 3)), (2, (vu8 1)), (3, (vu8 1))]) (cs := ([2, 3, 1, 1] : List UInt8).map vu8) underlying151 sizeOf5 (zv typeInfo151 rfl) rfl rfl) ?_)
     refine WL.call Try.call88 rfl rfl (c_mix (pre 16 (shb tb (encN keys tb blk (r - 1))) i) ([2, 3, 1, 1] : List UInt8) (pre_len (by omega)) (rfl : List.length ([2, 3, 1, 1] : List UInt8) = 4) _ ) rfl ?_
     rintro _ w_54 ⟨rfl, hc_53⟩
     have h_55 := h_40.same hc_53
     refine WL.storeA [] [(16, (pre 16 (shb tb (encN keys tb blk (r - 1))) i).map vu8)] [(16, (mixL (pre 16 (shb tb (encN keys tb blk (r - 1))) i) ([2, 3, 1, 1] : List UInt8)).map vu8)] [] h_55 rfl rfl sizeOf110 At.h (by decide) rfl rfl rfl rfl rfl rfl (sC (s8 (mixL_len ..)) sN) (fun w_56 h_57 => ?_)
     refine WL.nil (thn_n ?_)
     refine WP.drawZ 8 (SL w.heap.size [.blk b_36 .nw 110 [(16, (mixL (pre 16 (shb tb (encN keys tb blk (r - 1))) i) ([2, 3, 1, 1] : List UInt8)).map vu8)], .blk b_29 .nw 110 [(16, (encN keys tb blk (r - 1)).map vu8)], .blk b_4 .nw 110 [(16, (zB 16).map vu8)], .blk b_1 .nw 110 [(16, blk.map vu8)], .blk bc .ro 148 [(176, keys.map vu8), (256, tb.map vu8)]]) (.q 0 (.q 1 (.q 2 (.q 3 (.q 4 (.q 5 (.q 6 (.s 7 (.s 8 .nil))))))))) (by kernel_rfl) (by kernel_rfl) rfl (by kernel_rfl) (fun w_58 hc_60 => (SL.cons ((h_57.same hc_60).ok _ M0) (SL.cons ((h_57.same hc_60).ok _ M1) (SL.cons ((h_57.same hc_60).ok _ M2) (SL.cons ((h_57.same hc_60).ok _ M3) (SL.cons ((h_57.same hc_60).ok _ M4) (SL.nil _ _))))))) (fun w_58 hc_60 => ?_)
     have h_59 := h_57.same hc_60
     refine ZT.q rfl (Wn.no rfl) rfl rfl (fun wq hS => R.loadA [] [(16, (mixL (pre 16 (shb tb (encN keys tb blk (r - 1))) i) ([2, 3, 1, 1] : List UInt8)).map vu8)] [] (cs := (mixL (pre 16 (shb tb (encN keys tb blk (r - 1))) i) ([2, 3, 1, 1] : List UInt8)).map vu8) rfl isAgg110 sizeOf110 (hS _ M0) rfl rfl rfl rfl) ?_
     refine ZT.q rfl (Wn.no rfl) rfl rfl (fun wq hS => R.move (v := (pO bc 0)) rfl) ?_
     refine ZT.q rfl (Wn.no rfl) rfl rfl (fun wq hS => R.move (v := (vn r)) rfl) ?_
     refine ZT.q rfl (Wn.no rfl) rfl rfl (fun wq hS => R.nilCheck rfl) ?_
     refine ZT.q rfl (Wn.no rfl) rfl rfl (fun wq hS => R.fieldAddr (off' := 0) rfl underlying148 rfl sizeOf145 rfl rfl) ?_
     refine ZT.q rfl (Wn.no rfl) rfl rfl (fun wq hS => R.indexA (b := bc) (off := 0) (off' := (0 + (r * 16))) (i := r) rfl rfl rfl (by omega) underlying145 sizeOf110 rfl) ?_
     refine ZT.q rfl (Wn.no rfl) rfl rfl (fun wq hS => R.loadEA (b := bc) (off := (0 + (r * 16))) (i := r * 16) (xs := ((keys.drop (r * 16)).take 16).map vu8) rfl isAgg110 sizeOf110 (hS _ M4) Sg.h rfl (by rw [List.map_take, List.map_drop]) (len_map (subLen (K := 176) hks (by omega) : List.length ((keys.drop (r * 16)).take 16) = 16))) ?_
     refine ZT.s ?_
     refine OpZ.one rfl (Wn.no rfl) ?_
     refine WL.call Try.call87 rfl rfl (c_with (mixL (pre 16 (shb tb (encN keys tb blk (r - 1))) i) ([2, 3, 1, 1] : List UInt8)) ((keys.drop (r * 16)).take 16) (mixL_len ..) (subLen (K := 176) hks (by omega) : List.length ((keys.drop (r * 16)).take 16) = 16) _ ) rfl ?_
     rintro _ w_62 ⟨rfl, hc_61⟩
     have h_63 := h_59.same hc_61
     refine WL.nil ?_
     refine ⟨(N0_1_2_3_4 h_63.ok), ?_⟩
     refine ZT.s ?_
     refine OpZ.last rfl (Wn.no rfl) ?_
     refine WL.storeA [] [(16, (encN keys tb blk (r - 1)).map vu8)] [(16, (xorL (mixL (pre 16 (shb tb (encN keys tb blk (r - 1))) i) ([2, 3, 1, 1] : List UInt8)) ((keys.drop (r * 16)).take 16)).map vu8)] [] h_63 rfl rfl sizeOf110 Y1 (by decide) rfl rfl rfl rfl rfl rfl (sC (s8 (xorL_len (mixL_len ..) (subLen (K := 176) hks (by omega) : List.length ((keys.drop (r * 16)).take 16) = 16))) sN) (fun w_64 h_65 => ?_)
     refine WL.nil (ZT.nil (inb_n (thn_n (WP.reg ?_))))
     refine qM (vn r) rfl rfl (qV rfl (R.bin rfl rfl (bi_add (c := ((r + 1 : Nat) : Int)) (by omega) (by omega))) (qA (vn (r + 1)) rfl rfl ?_))
     refine WL.nil (thn_n ?_)
     have hi16 : i = 16 := by omega
     subst hi16
     obtain ⟨q, rfl⟩ : ∃ q, r = q + 1 := ⟨r - 1, by omega⟩
     have h_66 := h_65.drop rfl
     have es : xorL (mixL (pre 16 (shb tb (encN keys tb blk ((q + 1) - 1))) 16) ([2, 3, 1, 1] : List UInt8)) ((keys.drop ((q + 1) * 16)).take 16) = encN keys tb blk (q + 1) := by rw [Nat.add_sub_cancel, pre_all, encN, if_pos (by omega)]; rfl
     rw [es] at h_66
     exact ⟨q + 1 + 1, _, (by omega), (Ag.upd rfl (U4 rfl rfl rfl rfl (U4 rfl rfl rfl rfl (U4 rfl rfl rfl rfl (U4 rfl rfl rfl rfl (Ag.updL rfl (Ag.trans (Ag.sub rfl (Ag.mix _ _ _)) (Ag.upd rfl (Ag.upd rfl (Ag.upd rfl (Ag.upd rfl (Ag.updL rfl (Ag.mix _ _ _))))))))))))), ⟨rfl, trivial⟩, h_66, (by omega), (by omega), rfl⟩
    ·have p_67 := of_decide_eq_false c_51
     refine WP.skip (thn_n ?_)
     refine WP.drawZ 8 (SL w.heap.size [.blk b_36 .nw 110 [(16, (pre 16 (shb tb (encN keys tb blk (r - 1))) i).map vu8)], .blk b_29 .nw 110 [(16, (encN keys tb blk (r - 1)).map vu8)], .blk b_4 .nw 110 [(16, (zB 16).map vu8)], .blk b_1 .nw 110 [(16, blk.map vu8)], .blk bc .ro 148 [(176, keys.map vu8), (256, tb.map vu8)]]) (.q 0 (.q 1 (.q 2 (.q 3 (.q 4 (.q 5 (.q 6 (.s 7 (.s 8 .nil))))))))) (by kernel_rfl) (by kernel_rfl) rfl (by kernel_rfl) (fun w_68 hc_70 => (SL.cons ((h_40.same hc_70).ok _ M0) (SL.cons ((h_40.same hc_70).ok _ M1) (SL.cons ((h_40.same hc_70).ok _ M2) (SL.cons ((h_40.same hc_70).ok _ M3) (SL.cons ((h_40.same hc_70).ok _ M4) (SL.nil _ _))))))) (fun w_68 hc_70 => ?_)
     have h_69 := h_40.same hc_70
     refine ZT.q rfl (Wn.no rfl) rfl rfl (fun wq hS => R.loadA [] [(16, (pre 16 (shb tb (encN keys tb blk (r - 1))) i).map vu8)] [] (cs := (pre 16 (shb tb (encN keys tb blk (r - 1))) i).map vu8) rfl isAgg110 sizeOf110 (hS _ M0) rfl rfl rfl rfl) ?_
     refine ZT.q rfl (Wn.no rfl) rfl rfl (fun wq hS => R.move (v := (pO bc 0)) rfl) ?_
     refine ZT.q rfl (Wn.no rfl) rfl rfl (fun wq hS => R.move (v := (vn r)) rfl) ?_
     refine ZT.q rfl (Wn.no rfl) rfl rfl (fun wq hS => R.nilCheck rfl) ?_
     refine ZT.q rfl (Wn.no rfl) rfl rfl (fun wq hS => R.fieldAddr (off' := 0) rfl underlying148 rfl sizeOf145 rfl rfl) ?_
     refine ZT.q rfl (Wn.no rfl) rfl rfl (fun wq hS => R.indexA (b := bc) (off := 0) (off' := (0 + (r * 16))) (i := r) rfl rfl rfl (by omega) underlying145 sizeOf110 rfl) ?_
     refine ZT.q rfl (Wn.no rfl) rfl rfl (fun wq hS => R.loadEA (b := bc) (off := (0 + (r * 16))) (i := r * 16) (xs := ((keys.drop (r * 16)).take 16).map vu8) rfl isAgg110 sizeOf110 (hS _ M4) Sg.h rfl (by rw [List.map_take, List.map_drop]) (len_map (subLen (K := 176) hks (by omega) : List.length ((keys.drop (r * 16)).take 16) = 16))) ?_
     refine ZT.s ?_
     refine OpZ.one rfl (Wn.no rfl) ?_
     refine WL.call Try.call87 rfl rfl (c_with (pre 16 (shb tb (encN keys tb blk (r - 1))) i) ((keys.drop (r * 16)).take 16) (pre_len (by omega)) (subLen (K := 176) hks (by omega) : List.length ((keys.drop (r * 16)).take 16) = 16) _ ) rfl ?_
     rintro _ w_72 ⟨rfl, hc_71⟩
     have h_73 := h_69.same hc_71
     refine WL.nil ?_
     refine ⟨(N0_1_2_3_4 h_73.ok), ?_⟩
     refine ZT.s ?_
     refine OpZ.last rfl (Wn.no rfl) ?_
     refine WL.storeA [] [(16, (encN keys tb blk (r - 1)).map vu8)] [(16, (xorL (pre 16 (shb tb (encN keys tb blk (r - 1))) i) ((keys.drop (r * 16)).take 16)).map vu8)] [] h_73 rfl rfl sizeOf110 Y1 (by decide) rfl rfl rfl rfl rfl rfl (sC (s8 (xorL_len (pre_len (by omega)) (subLen (K := 176) hks (by omega) : List.length ((keys.drop (r * 16)).take 16) = 16))) sN) (fun w_74 h_75 => ?_)
     refine WL.nil (ZT.nil (inb_n (thn_n (WP.reg ?_))))
     refine qM (vn r) rfl rfl (qV rfl (R.bin rfl rfl (bi_add (c := ((r + 1 : Nat) : Int)) (by omega) (by omega))) (qA (vn (r + 1)) rfl rfl ?_))
     refine WL.nil (thn_n ?_)
     have hi16 : i = 16 := by omega
     subst hi16
     obtain ⟨q, rfl⟩ : ∃ q, r = q + 1 := ⟨r - 1, by omega⟩
     have h_76 := h_75.drop rfl
     have es : xorL (pre 16 (shb tb (encN keys tb blk ((q + 1) - 1))) 16) ((keys.drop ((q + 1) * 16)).take 16) = encN keys tb blk (q + 1) := by rw [Nat.add_sub_cancel, pre_all, encN, if_neg (by omega)]; rfl
     rw [es] at h_76
     exact ⟨q + 1 + 1, _, (by omega), (U2 rfl rfl (U4 rfl rfl rfl rfl (U4 rfl rfl rfl rfl (U4 rfl rfl rfl rfl (Ag.updL rfl (Ag.trans (Ag.sub rfl (Ag.mix _ _ _)) (Ag.upd rfl (Ag.upd rfl (Ag.upd rfl (Ag.upd rfl (Ag.updL rfl (Ag.mix _ _ _)))))))))))), ⟨rfl, trivial⟩, h_76, (by omega), (by omega), rfl⟩
  ·have p_77 := of_decide_eq_false c_34
   refine WP.exit (thn_x (thn_x (inb_hit (thn_n (WP.seq (WP.reg ?_))))))
   refine qV rfl (R.loadA [] [(16, (encN keys tb blk (r - 1)).map vu8)] [] (cs := (encN keys tb blk (r - 1)).map vu8) rfl isAgg110 sizeOf110 (h_31.ok _ M0) rfl rfl rfl rfl) ?_
   refine WL.storeA [] [(16, (zB 16).map vu8)] [(16, (encN keys tb blk (r - 1)).map vu8)] [] h_31 rfl rfl sizeOf110 Y1 (by decide) rfl rfl rfl rfl rfl rfl (sC (s8 (encN_len hks hbl (by omega))) sN) (fun w_78 h_79 => ?_)
   refine WL.nil (thn_n (WP.ret ?_))
   refine ret_of results71 (RV.cell rfl (h_79.loadA (cs := (encN keys tb blk (r - 1)).map vu8) isAgg110 sizeOf110 M1 rfl rfl) RV.nil) ?_
   have hr11 : r = 11 := by omega
   subst hr11
   exact ⟨rfl, h_79.chgS⟩
end Go.Proofs.Yteclkcpdclimnaa

namespace Go.Ax
open Go.Vc
def bk (k : Nat) : List UInt8 := (List.range 256).map fun y => if (unsub (UInt8.ofNat y)).toNat < k then unsub (UInt8.ofNat y) else 0
def wT (tb : List UInt8) (l : Nat → UInt8) (i k : Nat) : UInt8 := if i % 4 = 0 then gK tb l (i / 4) k else l (4 * i + k - 4)
end Go.Ax

namespace Go.Ax
open Go.Vc
def blkS (key nonce : List UInt8) (i : Nat) : List UInt8 := enc key (nonce ++ (leN 8 i).reverse)
theorem in_len {nonce : List UInt8} {i : Nat} (h : nonce.length = 8) : (nonce ++ (leN 8 i).reverse).length = 16 := by rw [List.length_append, h, List.length_reverse, leN_len]
theorem blkS_len {key nonce : List UInt8} {i : Nat} (h : nonce.length = 8) : (blkS key nonce i).length = 16 := enc_len (in_len h)
def strN (key nonce : List UInt8) : Nat → List UInt8
  | 0 => []
  | i + 1 => strN key nonce i ++ blkS key nonce i
theorem strN_len {key nonce : List UInt8} (h : nonce.length = 8) : ∀ i, (strN key nonce i).length = 16 * i
  | 0 => rfl
  | i + 1 => by rw [strN, List.length_append, strN_len h i, blkS_len h]; omega
theorem strN_pre {key nonce : List UInt8} (h : nonce.length = 8) {n i : Nat} (hi : n ≤ 16 * i) : ∀ d, (strN key nonce (i + d)).take n = (strN key nonce i).take n
  | 0 => rfl
  | d + 1 => by
    rw [← Nat.add_assoc, strN, List.take_append_of_le_length (by rw [strN_len h]; omega), strN_pre h hi d]
def strL (key nonce : List UInt8) (n : Nat) : List UInt8 := (strN key nonce n).take n
theorem strL_len {key nonce : List UInt8} (h : nonce.length = 8) (n : Nat) : (strL key nonce n).length = n := by rw [strL, List.length_take, strN_len h]; omega
theorem strL_of {key nonce : List UInt8} (h : nonce.length = 8) {n i : Nat} (hi : n ≤ 16 * i) : (strN key nonce i).take n = strL key nonce n := by
  rw [strL]
  rcases Nat.le_total i n with hin | hin
  · obtain ⟨d, rfl⟩ : ∃ d, n = i + d := ⟨n - i, by omega⟩
    rw [strN_pre h hi d]
  · obtain ⟨d, rfl⟩ : ∃ d, i = n + d := ⟨i - n, by omega⟩
    rw [strN_pre h (by omega) d]
theorem u64nat {i : Nat} (h : i < 18446744073709551616) : (UInt64.ofNat i).toNat = i := by simp; omega
def mk (s b : List UInt8) (i : Nat) : List UInt8 := (xorL s b).take i ++ s.drop i
def ush (tb t : List UInt8) : List UInt8 := (List.range 16).map fun j => tb.getD (t.getD ((j + (4 - j % 4) * 4) % 16) 0).toNat 0
def mixBack (f g : List UInt8) : Prop := ∀ r, r < 4 → ∀ k, k < 4 → (((tm (f.getD ((k + 4 - 0) % 4) 0) (g.getD ((0 + 4 - r) % 4) 0) ^^^ tm (f.getD ((k + 4 - 1) % 4) 0) (g.getD ((1 + 4 - r) % 4) 0)) ^^^ tm (f.getD ((k + 4 - 2) % 4) 0) (g.getD ((2 + 4 - r) % 4) 0)) ^^^ tm (f.getD ((k + 4 - 3) % 4) 0) (g.getD ((3 + 4 - r) % 4) 0)) = if k = r then 1 else 0
end Go.Ax

namespace Go.Proofs.Yteclkcpdclimnaa
open Go.Proofs.Try
open Go.Vc Go.Orc Go.Sh Go.RowKit
set_option maxRecDepth 20000

open Go.Ax
theorem c_Join2 (a : Option Addr) (cap : Nat) (xs : List Value) (l1 l2 : List UInt8) (h1 : l1.length = 8) (h2 : l2.length = 8) (w : World) (hv : View w a xs) (hs : Sls w xs [l1, l2]) :
  Cs Try.prog 56 [(.slice a 2 cap)].toArray w (fun v w1 => ∃ a cap, v = .slice a 16 cap ∧ Chg w w1 [] ∧ Own w.heap.size w1 5 1 a 16 cap ((l1 ++ l2).map vu8)) := by
 have e : [l1, l2].flatten = l1 ++ l2 := by simp
 have el : (l1 ++ l2).length = 16 := by rw [List.length_append, h1, h2]
 have h := c_wJoin a 2 cap xs [l1, l2] rfl (by rw [e, el]; decide) (by decide) w hv hs
 rw [e, el] at h
 exact h
theorem of_succ (i : Nat) : UInt64.ofNat i + 1 = UInt64.ofNat (i + 1) := by simp [UInt64.ofNat_add]
theorem c_Stream_n (key nonce : List UInt8) (hkey : key.length = 16) (hno : nonce.length = 8) (n : Nat) (h2 : n ≤ 1048576) (w : World) :
  Cs Try.prog 59 [(.agg ⟨key.map vu8⟩), (.agg ⟨nonce.map vu8⟩), (vi ((n : Nat) : Int))].toArray w (fun v w1 => ∃ a, v = .tuple [.slice a n n, vi 0].toArray ∧ Chg w w1 [] ∧ Own w.heap.size w1 5 1 a n n ((strL key nonce n).map vu8)) := by
 refine Cs.of (n := 49) (args := [(.agg ⟨key.map vu8⟩), (.agg ⟨nonce.map vu8⟩), (vn n)]) Try.func59 rfl rfl rfl ?_
 have h_0 := HP.init w
 refine WP.seq (WP.reg ?_)
 refine WL.box (segs := [(16, key.map vu8)]) h_0 rfl rfl (sC (s8 hkey) sN) rfl (fun b_1 w_2 h_3 => ?_)
 refine WL.box (segs := [(8, nonce.map vu8)]) h_3 rfl rfl (sC (s8 hno) sN) rfl (fun b_4 w_5 h_6 => ?_)
 refine qA (.slice none 0 0) rfl rfl (qA (vi 0) rfl rfl ?_)
 refine WL.nil (thn_n (WP.seq (WP.seq (WP.reg ?_))))
 refine qM (vn n) rfl rfl (qV rfl (R.bin rfl rfl (bi_lss (r := decide ((((n : Nat) : Int) : Int) < 0)) rfl)) (qM (.bool (decide ((((n : Nat) : Int) : Int) < 0))) rfl rfl ?_))
 refine WL.want rfl (congrArg Value.bool (decide_eq_false (by omega))) ?_
 refine qM (vn n) rfl rfl ?_
 refine WL.want rfl (congrArg Value.bool (decide_eq_false (by omega))) ?_
 refine qV rfl (R.bin rfl rfl (bi_gtr (r := decide ((((n : Nat) : Int) : Int) > 1048576)) rfl)) (qV rfl (R.pickF (v := (.bool (decide ((((n : Nat) : Int) : Int) > 1048576)))) (congrArg Value.bool (decide_eq_false (by omega))) rfl) ?_)
 refine WL.nil (thn_n ?_)
 refine WP.condF (congrArg Value.bool (decide_eq_false (by omega))) ?_
 refine WP.skip (thn_n (WP.seq (WP.reg ?_)))
 refine qV rfl (R.loadA [] [(16, key.map vu8)] [] (cs := key.map vu8) rfl isAgg110 sizeOf110 (h_6.ok _ M1) rfl rfl rfl rfl) ?_
 refine WL.call Try.call70 rfl rfl (c_open key hkey _) rfl ?_
 rintro _ w_8 ⟨b_7, rfl, hc_9, hb_10, hk_11⟩
 have h_12 := HP.gotBlk (segs := [(176, (keysL (tabL sub) key).map vu8), (256, (tabL sub).map vu8)]) h_6 hc_9 hb_10 (sC (s8 (keysL_len ..)) (sC (s8 (tabL_len ..)) sN)) hk_11
 refine qA (pO b_7 0) rfl rfl ?_
 refine WL.nil (thn_n (WP.seq (WP.reg ?_)))
 refine qA (.slice none 0 0) rfl rfl ?_
 refine WL.nil (thn_n (WP.seq (WP.seq (WP.reg ?_))))
 refine qA (vu64 0) rfl rfl ?_
 refine WL.nil (thn_n (WP.block ?_))
 have h_13 := h_12.rowNil 5 1
 refine WP.loopG (G := Nat × Option Addr × Nat) [9, 10, 11, 12, 13, 22, 23, 24, 25, 26, 27, 28, 29, 30, 31, 32, 33, 34, 35, 36, 37, 38, 39, 40, 41, 42, 43, 44] (fun (i, ra, rc) => [(9, (.slice ra (16 * i) rc)), (10, (vu64 (UInt64.ofNat i)))]) (fun (i, ra, rc) m w1 => HP w w1 [.row ra (16 * i) rc 5 1 ((strN key nonce i).map vu8), .blk b_7 .nw 148 [(176, (keysL (tabL sub) key).map vu8), (256, (tabL sub).map vu8)], .blk b_4 .nw 111 [(8, nonce.map vu8)], .blk b_1 .nw 110 [(16, key.map vu8)]] ∧ (16 * i ≤ n + 15) ∧ m = n + 16 - 16 * i) ⟨(0, none, 0), _, ⟨rfl, rfl, trivial⟩, h_13, (by omega), rfl⟩ ?_
 rintro ⟨i, ra, rc⟩ m_16 J_17 w_14 ⟨h_15, hi, rfl⟩
 refine WP.seq (WP.seq (WP.reg ?_))
 refine qM (.slice ra (16 * i) rc) rfl rfl (qV rfl (R.lenS (a := ra) (m := 16 * i) rfl rfl underlying54) (qM (vn n) rfl rfl (qV rfl (R.bin rfl rfl (bi_lss (r := decide ((((16 * i : Nat) : Int) : Int) < ((n : Nat) : Int))) rfl)) ?_)))
 refine WL.nil (thn_n ?_)
 refine WP.cond (b := decide ((((16 * i : Nat) : Int) : Int) < ((n : Nat) : Int))) rfl (fun c_18 => ?_) (fun c_18 => ?_)
 ·have p_19 := of_decide_eq_true c_18
  refine WP.skip (thn_n (WP.seq (WP.block (WP.seq (WP.reg ?_)))))
  refine qM (vu64 (UInt64.ofNat i)) rfl rfl ?_
  refine WL.call Try.call61 rfl rfl (c_Put_b (UInt64.ofNat i) 8 rfl _) rfl ?_
  rintro _ w_22 ⟨a_20, cap_21, rfl, hc_23, ho_24⟩
  have h_25 := h_15.gotRow hc_23 ho_24
  refine qM (.tuple [(.slice a_20 8 cap_21), (vi 0)].toArray) rfl rfl (qV rfl (R.extract rfl rfl) (qV rfl (R.extract rfl rfl) (qA (.slice a_20 8 cap_21) rfl rfl (qA (vi 0) rfl rfl ?_))))
  refine WL.nil (thn_n (WP.seq ?_))
  refine WP.cutG (G := Option Addr × Nat × Nat × Nat × Nat × Nat) [13, 33, 34, 35, 36, 37, 38, 39, 40, 41] (fun (aY9Y3Y0Y0, capY9Y3Y0Y0, bY9Y4Y0Y0, bY9Y6Y0Y0, capY9Y5Y0Y0, bY9Y9Y0Y0) => [(33, (pO b_7 0)), (34, (.slice (some ⟨b_4, 0, none⟩) 8 8)), (35, (.slice a_20 8 cap_21)), (36, (.slice aY9Y3Y0Y0 8 capY9Y3Y0Y0)), (37, (.slice (some ⟨bY9Y4Y0Y0, 0, none⟩) 2 2)), (38, (.slice (some ⟨bY9Y6Y0Y0, 0, none⟩) 16 capY9Y5Y0Y0)), (39, (.pointer (some (gA (some ⟨bY9Y6Y0Y0, 0, none⟩) 0)))), (40, (.agg ⟨(nonce ++ ((leN 8 (UInt64.ofNat i).toNat).reverse)).map vu8⟩)), (41, (.agg ⟨(encN (keysL (tabL sub) key) (tabL sub) (nonce ++ ((leN 8 (UInt64.ofNat i).toNat).reverse)) 10).map vu8⟩)), (13, (pO bY9Y9Y0Y0 0))]) (fun (aY9Y3Y0Y0, capY9Y3Y0Y0, bY9Y4Y0Y0, bY9Y6Y0Y0, capY9Y5Y0Y0, bY9Y9Y0Y0) w1 => HP w w1 [.blk bY9Y9Y0Y0 .nw 110 [(16, (encN (keysL (tabL sub) key) (tabL sub) (nonce ++ ((leN 8 (UInt64.ofNat i).toNat).reverse)) 10).map vu8)], .row (some ⟨bY9Y6Y0Y0, 0, none⟩) 16 capY9Y5Y0Y0 5 1 ((nonce ++ ((leN 8 (UInt64.ofNat i).toNat).reverse)).map vu8), .blk bY9Y4Y0Y0 .nw 54 [(2, [(.slice (some ⟨b_4, 0, none⟩) 8 8), (.slice aY9Y3Y0Y0 8 capY9Y3Y0Y0)])], .row aY9Y3Y0Y0 8 capY9Y3Y0Y0 5 1 (((leN 8 (UInt64.ofNat i).toNat).reverse).map vu8), .row a_20 8 cap_21 5 1 ((leN 8 (UInt64.ofNat i).toNat).map vu8), .row ra (16 * i) rc 5 1 ((strN key nonce i).map vu8), .blk b_7 .nw 148 [(176, (keysL (tabL sub) key).map vu8), (256, (tabL sub).map vu8)], .blk b_4 .nw 111 [(8, nonce.map vu8)], .blk b_1 .nw 110 [(16, key.map vu8)]]) ?_ ?_
  ·refine WP.drawZ 10 (SL w.heap.size []) (.q 0 (.q 1 (.q 2 (.s2 3 9 (.s2 4 9 (.s2 5 9 (.q 6 (.s2 7 9 (.s2 8 9 (.s 9 (.s 10 .nil)) (.s 8 (.s 10 .nil))) (.s 7 (.s 8 (.s 10 .nil))))) (.s 5 (.q 6 (.s 7 (.s 8 (.s 10 .nil)))))) (.s 4 (.s 5 (.q 6 (.s 7 (.s 8 (.s 10 .nil))))))) (.s 3 (.s 4 (.s 5 (.q 6 (.s 7 (.s 8 (.s 10 .nil))))))))))) (by kernel_rfl) (by kernel_rfl) rfl (by kernel_rfl) (fun w_26 hc_28 => (SL.nil _ _)) (fun w_26 hc_28 => ?_)
   have h_27 := h_25.same hc_28
   refine ZT.q rfl (Wn.no rfl) rfl rfl (fun wq hS => R.move (v := (pO b_7 0)) rfl) ?_
   refine ZT.q rfl (Wn.no rfl) rfl rfl (fun wq hS => R.sliceA (b := b_4) (off := 0) (off' := 0) (l := 0) (h := 8) rfl EvB.dflt EvB.dflt (by decide) (by decide) underlying111 sizeOf5 rfl) ?_
   refine ZT.q rfl (Wn.no rfl) rfl rfl (fun wq hS => R.move (v := (.slice a_20 8 cap_21)) rfl) ?_
   refine ZT.s2 ?_ ?_
   ·refine OpZ.one rfl (Wn.no rfl) ?_
    refine WL.call Try.call72 rfl rfl (c_Turned a_20 8 cap_21 (leN 8 (UInt64.ofNat i).toNat) (leN_len ..) (by omega) _ (ownView (h_27.ok _ M0))) rfl ?_
    rintro _ w_31 ⟨a_29, cap_30, rfl, hc_32, ho_33⟩
    have h_34 := h_27.gotRow hc_32 ho_33
    refine WL.nil ?_
    refine ⟨(SL.nil _ _), ?_⟩
    refine ZT.s2 ?_ ?_
    ·refine OpZ.one rfl (Wn.no rfl) ?_
     refine WL.buildSl (vs := [(0, (.slice (some ⟨b_4, 0, none⟩) 8 8)), (1, (.slice a_29 8 cap_30))]) (cs := [(.slice (some ⟨b_4, 0, none⟩) 8 8), (.slice a_29 8 cap_30)]) h_34 underlying101 sizeOf54 (zv typeInfo54 rfl) rfl rfl (by kernel_rfl) rfl (by simp [Value.oneCell']) rfl rfl (fun b_35 w_36 h_37 => ?_)
     refine WL.nil ?_
     refine ⟨(SL.nil _ _), ?_⟩
     refine ZT.s2 ?_ ?_
     ·refine OpZ.one rfl (Wn.no rfl) ?_
      refine WL.call Try.call56 rfl rfl (c_Join2 (some ⟨b_35, 0, none⟩) 2 [(.slice (some ⟨b_4, 0, none⟩) 8 8), (.slice a_29 8 cap_30)] nonce ((leN 8 (UInt64.ofNat i).toNat).reverse) hno ((List.length_reverse ..).trans (leN_len ..)) _ (viewB (h_37.ok _ M0) Sg.h) (Sls.cons hno (by decide) (viewB (h_37.ok _ M5) Sg.h) (Sls.cons ((List.length_reverse ..).trans (leN_len ..)) (h_37.own M1).2.2.1 (ownView (h_37.ok _ M1)) Sls.nil))) rfl ?_
      rintro _ w_40 ⟨a_38, cap_39, rfl, hc_41, ho_42⟩
      have h_43 := h_37.gotRow hc_41 ho_42
      refine WL.nil ?_
      refine ⟨(SL.nil _ _), ?_⟩
      obtain ⟨b_44, rr_45, ha_46, hb_47, hc_48⟩ := Own.open (h_43.own M0) (by decide)
      subst ha_46
      refine ZT.q rfl (Wn.no rfl) rfl rfl (fun wq hS => R.s2ap (a := (some ⟨b_44, 0, none⟩)) (k := 16) rfl underlying110 (by decide)) ?_
      refine ZT.s2 ?_ ?_
      ·refine OpZ.one rfl (Wn.no rfl) ?_
       refine qV rfl (R.loadGA (a := (some ⟨b_44, 0, none⟩)) (i := 0) (xs := (nonce ++ ((leN 8 (UInt64.ofNat i).toNat).reverse)).map vu8) (cs := (nonce ++ ((leN 8 (UInt64.ofNat i).toNat).reverse)).map vu8) rfl (ownView (h_43.ok _ M0)) isAgg110 sizeOf110 (by rw [List.drop_zero, List.take_of_length_le (by rw [len_map (lenApp (a := 8) (b := 8) hno ((List.length_reverse ..).trans (leN_len ..)) rfl)]; exact Nat.le_refl _)]) (len_map (lenApp (a := 8) (b := 8) hno ((List.length_reverse ..).trans (leN_len ..)) rfl)) (by decide)) ?_
       refine WL.nil ?_
       refine ⟨(SL.nil _ _), ?_⟩
       refine ZT.s2 ?_ ?_
       ·refine OpZ.one rfl (Wn.no rfl) ?_
        refine WL.call Try.call71 rfl rfl (c_do (keysL (tabL sub) key) (tabL sub) (nonce ++ ((leN 8 (UInt64.ofNat i).toNat).reverse)) (keysL_len ..) (tabL_len ..) (lenApp (a := 8) (b := 8) hno ((List.length_reverse ..).trans (leN_len ..)) rfl) b_7 _ (h_43.argR M5)) rfl ?_
        rintro _ w_50 ⟨rfl, hc_49⟩
        have h_51 := h_43.same hc_49
        refine WL.nil ?_
        refine ⟨(SL.nil _ _), ?_⟩
        refine ZT.s ?_
        refine OpZ.one rfl (Wn.no rfl) ?_
        refine WL.alloc (segs := [(16, (zB 16).map vu8)]) h_51 (zv typeInfo110 rfl) rfl (sC (s8 lr) sN) rfl (fun b_52 w_53 h_54 => ?_)
        refine WL.nil ?_
        refine ⟨(SL.nil _ _), ?_⟩
        refine ZT.s ?_
        refine OpZ.last rfl (Wn.no rfl) ?_
        refine WL.storeA [] [(16, (zB 16).map vu8)] [(16, (encN (keysL (tabL sub) key) (tabL sub) (nonce ++ ((leN 8 (UInt64.ofNat i).toNat).reverse)) 10).map vu8)] [] h_54 rfl rfl sizeOf110 At.h (by decide) rfl rfl rfl rfl rfl rfl (sC (s8 (encN_len (keysL_len ..) (lenApp (a := 8) (b := 8) hno ((List.length_reverse ..).trans (leN_len ..)) rfl) (by omega))) sN) (fun w_55 h_56 => ?_)
        refine WL.nil (ZT.nil (thn_n ?_))
        exact ⟨(a_29, cap_30, b_35, b_44, cap_39, b_52), (U2 rfl rfl (U4 rfl rfl rfl rfl (U4 rfl rfl rfl rfl (Ag.refl _ _)))), ⟨rfl, rfl, rfl, rfl, rfl, rfl, rfl, rfl, rfl, rfl, trivial⟩, h_56⟩
       ·refine OpZ.one rfl (Wn.no rfl) ?_
        refine WL.alloc (segs := [(16, (zB 16).map vu8)]) h_43 (zv typeInfo110 rfl) rfl (sC (s8 lr) sN) rfl (fun b_57 w_58 h_59 => ?_)
        refine WL.nil ?_
        refine ⟨(SL.nil _ _), ?_⟩
        refine ZT.s ?_
        refine OpZ.one rfl (Wn.no rfl) ?_
        refine WL.call Try.call71 rfl rfl (c_do (keysL (tabL sub) key) (tabL sub) (nonce ++ ((leN 8 (UInt64.ofNat i).toNat).reverse)) (keysL_len ..) (tabL_len ..) (lenApp (a := 8) (b := 8) hno ((List.length_reverse ..).trans (leN_len ..)) rfl) b_7 _ (h_59.argR M6)) rfl ?_
        rintro _ w_61 ⟨rfl, hc_60⟩
        have h_62 := h_59.same hc_60
        refine WL.nil ?_
        refine ⟨(SL.nil _ _), ?_⟩
        refine ZT.s ?_
        refine OpZ.last rfl (Wn.no rfl) ?_
        refine WL.storeA [] [(16, (zB 16).map vu8)] [(16, (encN (keysL (tabL sub) key) (tabL sub) (nonce ++ ((leN 8 (UInt64.ofNat i).toNat).reverse)) 10).map vu8)] [] h_62 rfl rfl sizeOf110 At.h (by decide) rfl rfl rfl rfl rfl rfl (sC (s8 (encN_len (keysL_len ..) (lenApp (a := 8) (b := 8) hno ((List.length_reverse ..).trans (leN_len ..)) rfl) (by omega))) sN) (fun w_63 h_64 => ?_)
        refine WL.nil (ZT.nil (thn_n ?_))
        exact ⟨(a_29, cap_30, b_35, b_44, cap_39, b_57), (U2 rfl rfl (U4 rfl rfl rfl rfl (U4 rfl rfl rfl rfl (Ag.refl _ _)))), ⟨rfl, rfl, rfl, rfl, rfl, rfl, rfl, rfl, rfl, rfl, trivial⟩, h_64⟩
      ·refine OpZ.one rfl (Wn.no rfl) ?_
       refine WL.alloc (segs := [(16, (zB 16).map vu8)]) h_43 (zv typeInfo110 rfl) rfl (sC (s8 lr) sN) rfl (fun b_65 w_66 h_67 => ?_)
       refine WL.nil ?_
       refine ⟨(SL.nil _ _), ?_⟩
       refine ZT.s ?_
       refine OpZ.one rfl (Wn.no rfl) ?_
       refine qV rfl (R.loadGA (a := (some ⟨b_44, 0, none⟩)) (i := 0) (xs := (nonce ++ ((leN 8 (UInt64.ofNat i).toNat).reverse)).map vu8) (cs := (nonce ++ ((leN 8 (UInt64.ofNat i).toNat).reverse)).map vu8) rfl (ownView (h_67.ok _ M1)) isAgg110 sizeOf110 (by rw [List.drop_zero, List.take_of_length_le (by rw [len_map (lenApp (a := 8) (b := 8) hno ((List.length_reverse ..).trans (leN_len ..)) rfl)]; exact Nat.le_refl _)]) (len_map (lenApp (a := 8) (b := 8) hno ((List.length_reverse ..).trans (leN_len ..)) rfl)) (by decide)) ?_
       refine WL.nil ?_
       refine ⟨(SL.nil _ _), ?_⟩
       refine ZT.s ?_
       refine OpZ.one rfl (Wn.no rfl) ?_
       refine WL.call Try.call71 rfl rfl (c_do (keysL (tabL sub) key) (tabL sub) (nonce ++ ((leN 8 (UInt64.ofNat i).toNat).reverse)) (keysL_len ..) (tabL_len ..) (lenApp (a := 8) (b := 8) hno ((List.length_reverse ..).trans (leN_len ..)) rfl) b_7 _ (h_67.argR M6)) rfl ?_
       rintro _ w_69 ⟨rfl, hc_68⟩
       have h_70 := h_67.same hc_68
       refine WL.nil ?_
       refine ⟨(SL.nil _ _), ?_⟩
       refine ZT.s ?_
       refine OpZ.last rfl (Wn.no rfl) ?_
       refine WL.storeA [] [(16, (zB 16).map vu8)] [(16, (encN (keysL (tabL sub) key) (tabL sub) (nonce ++ ((leN 8 (UInt64.ofNat i).toNat).reverse)) 10).map vu8)] [] h_70 rfl rfl sizeOf110 At.h (by decide) rfl rfl rfl rfl rfl rfl (sC (s8 (encN_len (keysL_len ..) (lenApp (a := 8) (b := 8) hno ((List.length_reverse ..).trans (leN_len ..)) rfl) (by omega))) sN) (fun w_71 h_72 => ?_)
       refine WL.nil (ZT.nil (thn_n ?_))
       exact ⟨(a_29, cap_30, b_35, b_44, cap_39, b_65), (U2 rfl rfl (U4 rfl rfl rfl rfl (U4 rfl rfl rfl rfl (Ag.refl _ _)))), ⟨rfl, rfl, rfl, rfl, rfl, rfl, rfl, rfl, rfl, rfl, trivial⟩, h_72⟩
     ·refine OpZ.one rfl (Wn.no rfl) ?_
      refine WL.alloc (segs := [(16, (zB 16).map vu8)]) h_37 (zv typeInfo110 rfl) rfl (sC (s8 lr) sN) rfl (fun b_73 w_74 h_75 => ?_)
      refine WL.nil ?_
      refine ⟨(SL.nil _ _), ?_⟩
      refine ZT.s ?_
      refine OpZ.one rfl (Wn.no rfl) ?_
      refine WL.call Try.call56 rfl rfl (c_Join2 (some ⟨b_35, 0, none⟩) 2 [(.slice (some ⟨b_4, 0, none⟩) 8 8), (.slice a_29 8 cap_30)] nonce ((leN 8 (UInt64.ofNat i).toNat).reverse) hno ((List.length_reverse ..).trans (leN_len ..)) _ (viewB (h_75.ok _ M1) Sg.h) (Sls.cons hno (by decide) (viewB (h_75.ok _ M6) Sg.h) (Sls.cons ((List.length_reverse ..).trans (leN_len ..)) (h_75.own M2).2.2.1 (ownView (h_75.ok _ M2)) Sls.nil))) rfl ?_
      rintro _ w_78 ⟨a_76, cap_77, rfl, hc_79, ho_80⟩
      have h_81 := h_75.gotRow hc_79 ho_80
      refine WL.nil ?_
      refine ⟨(SL.nil _ _), ?_⟩
      obtain ⟨b_82, rr_83, ha_84, hb_85, hc_86⟩ := Own.open (h_81.own M0) (by decide)
      subst ha_84
      refine ZT.q rfl (Wn.no rfl) rfl rfl (fun wq hS => R.s2ap (a := (some ⟨b_82, 0, none⟩)) (k := 16) rfl underlying110 (by decide)) ?_
      refine ZT.s ?_
      refine OpZ.one rfl (Wn.no rfl) ?_
      refine qV rfl (R.loadGA (a := (some ⟨b_82, 0, none⟩)) (i := 0) (xs := (nonce ++ ((leN 8 (UInt64.ofNat i).toNat).reverse)).map vu8) (cs := (nonce ++ ((leN 8 (UInt64.ofNat i).toNat).reverse)).map vu8) rfl (ownView (h_81.ok _ M0)) isAgg110 sizeOf110 (by rw [List.drop_zero, List.take_of_length_le (by rw [len_map (lenApp (a := 8) (b := 8) hno ((List.length_reverse ..).trans (leN_len ..)) rfl)]; exact Nat.le_refl _)]) (len_map (lenApp (a := 8) (b := 8) hno ((List.length_reverse ..).trans (leN_len ..)) rfl)) (by decide)) ?_
      refine WL.nil ?_
      refine ⟨(SL.nil _ _), ?_⟩
      refine ZT.s ?_
      refine OpZ.one rfl (Wn.no rfl) ?_
      refine WL.call Try.call71 rfl rfl (c_do (keysL (tabL sub) key) (tabL sub) (nonce ++ ((leN 8 (UInt64.ofNat i).toNat).reverse)) (keysL_len ..) (tabL_len ..) (lenApp (a := 8) (b := 8) hno ((List.length_reverse ..).trans (leN_len ..)) rfl) b_7 _ (h_81.argR M6)) rfl ?_
      rintro _ w_88 ⟨rfl, hc_87⟩
      have h_89 := h_81.same hc_87
      refine WL.nil ?_
      refine ⟨(SL.nil _ _), ?_⟩
      refine ZT.s ?_
      refine OpZ.last rfl (Wn.no rfl) ?_
      refine WL.storeA [] [(16, (zB 16).map vu8)] [(16, (encN (keysL (tabL sub) key) (tabL sub) (nonce ++ ((leN 8 (UInt64.ofNat i).toNat).reverse)) 10).map vu8)] [] h_89 rfl rfl sizeOf110 Y1 (by decide) rfl rfl rfl rfl rfl rfl (sC (s8 (encN_len (keysL_len ..) (lenApp (a := 8) (b := 8) hno ((List.length_reverse ..).trans (leN_len ..)) rfl) (by omega))) sN) (fun w_90 h_91 => ?_)
      refine WL.nil (ZT.nil (thn_n ?_))
      have h_100 := ((((((((h_91.up J8).up J8).up J8).up J8).up J8).up J8).up J8).up J7).up J8
      exact ⟨(a_29, cap_30, b_35, b_82, cap_77, b_73), (U2 rfl rfl (U4 rfl rfl rfl rfl (U4 rfl rfl rfl rfl (Ag.refl _ _)))), ⟨rfl, rfl, rfl, rfl, rfl, rfl, rfl, rfl, rfl, rfl, trivial⟩, h_100⟩
    ·refine OpZ.one rfl (Wn.no rfl) ?_
     refine WL.alloc (segs := [(16, (zB 16).map vu8)]) h_34 (zv typeInfo110 rfl) rfl (sC (s8 lr) sN) rfl (fun b_101 w_102 h_103 => ?_)
     refine WL.nil ?_
     refine ⟨(SL.nil _ _), ?_⟩
     refine ZT.s ?_
     refine OpZ.one rfl (Wn.no rfl) ?_
     refine WL.buildSl (vs := [(0, (.slice (some ⟨b_4, 0, none⟩) 8 8)), (1, (.slice a_29 8 cap_30))]) (cs := [(.slice (some ⟨b_4, 0, none⟩) 8 8), (.slice a_29 8 cap_30)]) h_103 underlying101 sizeOf54 (zv typeInfo54 rfl) rfl rfl (by kernel_rfl) rfl (by simp [Value.oneCell']) rfl rfl (fun b_104 w_105 h_106 => ?_)
     refine WL.nil ?_
     refine ⟨(SL.nil _ _), ?_⟩
     refine ZT.s ?_
     refine OpZ.one rfl (Wn.no rfl) ?_
     refine WL.call Try.call56 rfl rfl (c_Join2 (some ⟨b_104, 0, none⟩) 2 [(.slice (some ⟨b_4, 0, none⟩) 8 8), (.slice a_29 8 cap_30)] nonce ((leN 8 (UInt64.ofNat i).toNat).reverse) hno ((List.length_reverse ..).trans (leN_len ..)) _ (viewB (h_106.ok _ M0) Sg.h) (Sls.cons hno (by decide) (viewB (h_106.ok _ M6) Sg.h) (Sls.cons ((List.length_reverse ..).trans (leN_len ..)) (h_106.own M2).2.2.1 (ownView (h_106.ok _ M2)) Sls.nil))) rfl ?_
     rintro _ w_109 ⟨a_107, cap_108, rfl, hc_110, ho_111⟩
     have h_112 := h_106.gotRow hc_110 ho_111
     refine WL.nil ?_
     refine ⟨(SL.nil _ _), ?_⟩
     obtain ⟨b_113, rr_114, ha_115, hb_116, hc_117⟩ := Own.open (h_112.own M0) (by decide)
     subst ha_115
     refine ZT.q rfl (Wn.no rfl) rfl rfl (fun wq hS => R.s2ap (a := (some ⟨b_113, 0, none⟩)) (k := 16) rfl underlying110 (by decide)) ?_
     refine ZT.s ?_
     refine OpZ.one rfl (Wn.no rfl) ?_
     refine qV rfl (R.loadGA (a := (some ⟨b_113, 0, none⟩)) (i := 0) (xs := (nonce ++ ((leN 8 (UInt64.ofNat i).toNat).reverse)).map vu8) (cs := (nonce ++ ((leN 8 (UInt64.ofNat i).toNat).reverse)).map vu8) rfl (ownView (h_112.ok _ M0)) isAgg110 sizeOf110 (by rw [List.drop_zero, List.take_of_length_le (by rw [len_map (lenApp (a := 8) (b := 8) hno ((List.length_reverse ..).trans (leN_len ..)) rfl)]; exact Nat.le_refl _)]) (len_map (lenApp (a := 8) (b := 8) hno ((List.length_reverse ..).trans (leN_len ..)) rfl)) (by decide)) ?_
     refine WL.nil ?_
     refine ⟨(SL.nil _ _), ?_⟩
     refine ZT.s ?_
     refine OpZ.one rfl (Wn.no rfl) ?_
     refine WL.call Try.call71 rfl rfl (c_do (keysL (tabL sub) key) (tabL sub) (nonce ++ ((leN 8 (UInt64.ofNat i).toNat).reverse)) (keysL_len ..) (tabL_len ..) (lenApp (a := 8) (b := 8) hno ((List.length_reverse ..).trans (leN_len ..)) rfl) b_7 _ (h_112.argR M6)) rfl ?_
     rintro _ w_119 ⟨rfl, hc_118⟩
     have h_120 := h_112.same hc_118
     refine WL.nil ?_
     refine ⟨(SL.nil _ _), ?_⟩
     refine ZT.s ?_
     refine OpZ.last rfl (Wn.no rfl) ?_
     refine WL.storeA [] [(16, (zB 16).map vu8)] [(16, (encN (keysL (tabL sub) key) (tabL sub) (nonce ++ ((leN 8 (UInt64.ofNat i).toNat).reverse)) 10).map vu8)] [] h_120 rfl rfl sizeOf110 Y2 (by decide) rfl rfl rfl rfl rfl rfl (sC (s8 (encN_len (keysL_len ..) (lenApp (a := 8) (b := 8) hno ((List.length_reverse ..).trans (leN_len ..)) rfl) (by omega))) sN) (fun w_121 h_122 => ?_)
     refine WL.nil (ZT.nil (thn_n ?_))
     have h_131 := ((((((((h_122.up J8).up J8).up J8).up J8).up J8).up J8).up J7).up J7).up J8
     exact ⟨(a_29, cap_30, b_104, b_113, cap_108, b_101), (U2 rfl rfl (U4 rfl rfl rfl rfl (U4 rfl rfl rfl rfl (Ag.refl _ _)))), ⟨rfl, rfl, rfl, rfl, rfl, rfl, rfl, rfl, rfl, rfl, trivial⟩, h_131⟩
   ·refine OpZ.one rfl (Wn.no rfl) ?_
    refine WL.alloc (segs := [(16, (zB 16).map vu8)]) h_27 (zv typeInfo110 rfl) rfl (sC (s8 lr) sN) rfl (fun b_132 w_133 h_134 => ?_)
    refine WL.nil ?_
    refine ⟨(SL.nil _ _), ?_⟩
    refine ZT.s ?_
    refine OpZ.one rfl (Wn.no rfl) ?_
    refine WL.call Try.call72 rfl rfl (c_Turned a_20 8 cap_21 (leN 8 (UInt64.ofNat i).toNat) (leN_len ..) (by omega) _ (ownView (h_134.ok _ M1))) rfl ?_
    rintro _ w_137 ⟨a_135, cap_136, rfl, hc_138, ho_139⟩
    have h_140 := h_134.gotRow hc_138 ho_139
    refine WL.nil ?_
    refine ⟨(SL.nil _ _), ?_⟩
    refine ZT.s ?_
    refine OpZ.one rfl (Wn.no rfl) ?_
    refine WL.buildSl (vs := [(0, (.slice (some ⟨b_4, 0, none⟩) 8 8)), (1, (.slice a_135 8 cap_136))]) (cs := [(.slice (some ⟨b_4, 0, none⟩) 8 8), (.slice a_135 8 cap_136)]) h_140 underlying101 sizeOf54 (zv typeInfo54 rfl) rfl rfl (by kernel_rfl) rfl (by simp [Value.oneCell']) rfl rfl (fun b_141 w_142 h_143 => ?_)
    refine WL.nil ?_
    refine ⟨(SL.nil _ _), ?_⟩
    refine ZT.s ?_
    refine OpZ.one rfl (Wn.no rfl) ?_
    refine WL.call Try.call56 rfl rfl (c_Join2 (some ⟨b_141, 0, none⟩) 2 [(.slice (some ⟨b_4, 0, none⟩) 8 8), (.slice a_135 8 cap_136)] nonce ((leN 8 (UInt64.ofNat i).toNat).reverse) hno ((List.length_reverse ..).trans (leN_len ..)) _ (viewB (h_143.ok _ M0) Sg.h) (Sls.cons hno (by decide) (viewB (h_143.ok _ M6) Sg.h) (Sls.cons ((List.length_reverse ..).trans (leN_len ..)) (h_143.own M1).2.2.1 (ownView (h_143.ok _ M1)) Sls.nil))) rfl ?_
    rintro _ w_146 ⟨a_144, cap_145, rfl, hc_147, ho_148⟩
    have h_149 := h_143.gotRow hc_147 ho_148
    refine WL.nil ?_
    refine ⟨(SL.nil _ _), ?_⟩
    obtain ⟨b_150, rr_151, ha_152, hb_153, hc_154⟩ := Own.open (h_149.own M0) (by decide)
    subst ha_152
    refine ZT.q rfl (Wn.no rfl) rfl rfl (fun wq hS => R.s2ap (a := (some ⟨b_150, 0, none⟩)) (k := 16) rfl underlying110 (by decide)) ?_
    refine ZT.s ?_
    refine OpZ.one rfl (Wn.no rfl) ?_
    refine qV rfl (R.loadGA (a := (some ⟨b_150, 0, none⟩)) (i := 0) (xs := (nonce ++ ((leN 8 (UInt64.ofNat i).toNat).reverse)).map vu8) (cs := (nonce ++ ((leN 8 (UInt64.ofNat i).toNat).reverse)).map vu8) rfl (ownView (h_149.ok _ M0)) isAgg110 sizeOf110 (by rw [List.drop_zero, List.take_of_length_le (by rw [len_map (lenApp (a := 8) (b := 8) hno ((List.length_reverse ..).trans (leN_len ..)) rfl)]; exact Nat.le_refl _)]) (len_map (lenApp (a := 8) (b := 8) hno ((List.length_reverse ..).trans (leN_len ..)) rfl)) (by decide)) ?_
    refine WL.nil ?_
    refine ⟨(SL.nil _ _), ?_⟩
    refine ZT.s ?_
    refine OpZ.one rfl (Wn.no rfl) ?_
    refine WL.call Try.call71 rfl rfl (c_do (keysL (tabL sub) key) (tabL sub) (nonce ++ ((leN 8 (UInt64.ofNat i).toNat).reverse)) (keysL_len ..) (tabL_len ..) (lenApp (a := 8) (b := 8) hno ((List.length_reverse ..).trans (leN_len ..)) rfl) b_7 _ (h_149.argR M6)) rfl ?_
    rintro _ w_156 ⟨rfl, hc_155⟩
    have h_157 := h_149.same hc_155
    refine WL.nil ?_
    refine ⟨(SL.nil _ _), ?_⟩
    refine ZT.s ?_
    refine OpZ.last rfl (Wn.no rfl) ?_
    refine WL.storeA [] [(16, (zB 16).map vu8)] [(16, (encN (keysL (tabL sub) key) (tabL sub) (nonce ++ ((leN 8 (UInt64.ofNat i).toNat).reverse)) 10).map vu8)] [] h_157 rfl rfl sizeOf110 Y3 (by decide) rfl rfl rfl rfl rfl rfl (sC (s8 (encN_len (keysL_len ..) (lenApp (a := 8) (b := 8) hno ((List.length_reverse ..).trans (leN_len ..)) rfl) (by omega))) sN) (fun w_158 h_159 => ?_)
    refine WL.nil (ZT.nil (thn_n ?_))
    have h_168 := ((((((((h_159.up J8).up J8).up J8).up J8).up J8).up J7).up J7).up J7).up J8
    exact ⟨(a_135, cap_136, b_141, b_150, cap_145, b_132), (U2 rfl rfl (U4 rfl rfl rfl rfl (U4 rfl rfl rfl rfl (Ag.refl _ _)))), ⟨rfl, rfl, rfl, rfl, rfl, rfl, rfl, rfl, rfl, rfl, trivial⟩, h_168⟩
  ·rintro ⟨a_172, cap_173, b_174, b_175, cap_176, b_177⟩ J_169 w_170 h_171
   refine thn_n (WP.reg ?_)
   refine qM (.slice ra (16 * i) rc) rfl rfl (qV rfl (R.sliceA (b := b_177) (off := 0) (off' := 0) (l := 0) (h := 16) rfl EvB.dflt EvB.dflt (by decide) (by decide) underlying110 sizeOf5 rfl) ?_)
   refine WL.append (km := 16 * i + 16) (xs := (strN key nonce i).map vu8) (ys := (encN (keysL (tabL sub) key) (tabL sub) (nonce ++ ((leN 8 (UInt64.ofNat i).toNat).reverse)) 10).map vu8) (zs := ((strN key nonce i) ++ (encN (keysL (tabL sub) key) (tabL sub) (nonce ++ ((leN 8 (UInt64.ofNat i).toNat).reverse)) 10)).map vu8) h_171 rfl rfl el54 (viewB (h_171.ok _ M0) Sg.h) ((len_map (encN_len (keysL_len ..) (lenApp (a := 8) (b := 8) hno ((List.length_reverse ..).trans (leN_len ..)) rfl) (by omega))).trans (Nat.mul_one _).symm) (one_u8 _) (by simp only [List.map_append, List.map_nil]) (by omega) (by omega) (by omega) (fun _ _ => Y5) rfl (fun a_178 c_179 w_180 h_181 => ?_)
   refine qA (.slice a_178 (16 * i + 16) c_179) rfl rfl ?_
   refine WL.nil (inb_n (thn_n (WP.reg ?_)))
   refine qM (vu64 (UInt64.ofNat i)) rfl rfl (qV rfl (R.bin rfl rfl (b64_add (UInt64.ofNat i) 1)) (qA (vu64 ((UInt64.ofNat i) + 1)) rfl rfl ?_))
   refine WL.nil (thn_n ?_)
   have h_190 := ((((((((h_181.drop rfl).drop rfl).drop rfl).drop rfl).drop rfl).up J3).up J3).up J3).up J3
   have es : (strN key nonce i) ++ (encN (keysL (tabL sub) key) (tabL sub) (nonce ++ ((leN 8 (UInt64.ofNat i).toNat).reverse)) 10) = strN key nonce (i + 1) := (by rw [u64nat (by omega)]; rfl)
   rw [es] at h_190
   exact ⟨(i + 1, a_178, c_179), _, (by omega), (Ag.upd rfl (U2 rfl rfl (U4 rfl rfl rfl rfl (Ag.updL rfl (Ag.trans (Ag.sub rfl (Ag.mix _ _ _)) (Ag.upd rfl (Ag.upd rfl (Ag.upd rfl (Ag.upd rfl (Ag.upd rfl (Ag.upd rfl (Ag.upd rfl (Ag.upd rfl (Ag.upd rfl (Ag.upd rfl (Ag.upd rfl (Ag.updL rfl (Ag.mix _ _ _)))))))))))))))))), ⟨rfl, congrArg vu64 (of_succ i), trivial⟩, h_190, (by omega), rfl⟩
 ·have p_191 := of_decide_eq_false c_18
  refine WP.exit (thn_x (thn_x (inb_hit (thn_n (WP.seq (WP.reg ?_))))))
  refine qM (.slice ra (16 * i) rc) rfl rfl (qM (vn n) rfl rfl (qM (vn n) rfl rfl (qV rfl (R.sliceR3 (h := n) rfl EvB.dflt rfl rfl rfl rfl (Nat.le_trans (by omega) (h_15.own M0).2.2.1) underlying54 sizeOf5 (h_15.ok _ M0)) ?_)))
  have h_192 := HP.rowCap (k := n) (ys := ((strN key nonce i).take n).map vu8) h_15 At.h (by omega) (by rw [Nat.mul_one, ← List.map_take])
  refine qA (.slice ra n n) rfl rfl (qA (vi 0) rfl rfl ?_)
  refine WL.nil (thn_n (WP.ret ?_))
  refine ret_of results59 (RV.tmp (v := (.slice ra n n)) rfl (RV.tmp (v := (vi 0)) rfl RV.nil)) ?_
  rw [strL_of hno (by omega)] at h_192
  exact ⟨_, rfl, h_192.chgS, h_192.ok _ M0⟩
end Go.Proofs.Yteclkcpdclimnaa

namespace Go.Orc
open Go.Vc Go.RowKit
def lk (q : Qn) (l : Lg) : Option (List UInt8) := (fdq q l 0).map fun i => (l.getD i (q, [])).2
theorem fdq_app {q : Qn} (x : Qn × List UInt8) : ∀ {l : Lg} {i j : Nat}, fdq q l i = some j → fdq q (l ++ [x]) i = some j
  | p :: r, i, j, h => by
    rw [List.cons_append]
    rw [fdq] at h ⊢
    split
    · rename_i e; rw [if_pos e] at h; exact h
    · rename_i e; rw [if_neg e] at h; exact fdq_app x h
theorem fdq_new {q : Qn} (d : List UInt8) : ∀ {l : Lg} {i : Nat}, fdq q l i = none → fdq q (l ++ [(q, d)]) i = some (i + l.length)
  | [], i, _ => by simp [fdq]
  | p :: r, i, h => by
    rw [List.cons_append]
    rw [fdq] at h ⊢
    split
    · rename_i e; rw [if_pos e] at h; cases h
    · rename_i e; rw [if_neg e] at h; rw [fdq_new d h, List.length_cons]; congr 1; omega
theorem lk_app {q : Qn} {l : Lg} {d : List UInt8} (x : Qn × List UInt8) (h : lk q l = some d) : lk q (l ++ [x]) = some d := by
  unfold lk at h ⊢
  cases hf : fdq q l 0 with
  | none => rw [hf] at h; cases h
  | some i =>
    rw [hf] at h
    have hlt := fdq_lt hf
    rw [fdq_app x hf]
    have e : (l ++ [x]).getD i (q, []) = l.getD i (q, []) := by
      have h2 : i < l.length := by omega
      have h3 : i < (l ++ [x]).length := by rw [snoc_len]; omega
      simp [List.getD_eq_getElem?_getD, h2, List.getElem?_append_left]
    simpa only [Option.map_some, e] using h
section
variable {id : Bool} {df : List UInt8} {dn u : Nat} {l : Lg} {q q' : Qn} {d : List UInt8}
theorem anD_lk (h : lk q l = some d) : anD id df dn u l q = d := by
  unfold lk at h
  cases hf : fdq q l 0 with
  | none => rw [hf] at h; cases h
  | some i => rw [hf] at h; rw [anD_hit hf]; simpa using h
theorem anU_lk (h : lk q l = some d) : anU id u l q = u := by
  unfold lk at h
  cases hf : fdq q l 0 with
  | none => rw [hf] at h; cases h
  | some i => rw [anU_hit hf]
theorem anL_lk (h : lk q l = some d) : anL id df dn u l q = l := by
  unfold lk at h
  cases hf : fdq q l 0 with
  | none => rw [hf] at h; cases h
  | some i => rw [anL_hit hf]
theorem lk_self : lk q (anL id df dn u l q) = some (anD id df dn u l q) := by
  cases hf : fdq q l 0 with
  | none =>
    rw [anL_miss hf, anD_miss hf]
    unfold lk
    rw [fdq_new _ hf]
    simp
  | some i =>
    rw [anL_hit hf, anD_hit hf]
    unfold lk
    rw [hf]; rfl
theorem lk_anL (h : lk q l = some d) : lk q (anL id df dn u l q') = some d := by
  cases hf : fdq q' l 0 with
  | none => rw [anL_miss hf]; exact lk_app _ h
  | some i => rw [anL_hit hf]; exact h
end
end Go.Orc
namespace Go.Vc
open Go.RowKit Go.ChangeShapes Go.WideShapes Go.ChangeAt
section
variable {P : Program} {w : World} {t : TypeId} {cs : List Value}
theorem cells?_all {a : Addr} {n : Nat} {ys : List Value} (h : w.cells? 0 a n = some ys) : ys.length = n ∧ ∀ (i : Nat) v, ys[i]? = some v → w.cell? (a.add i) = some v := by
  simp only [World.cells?, Nat.zero_le, if_true] at h
  have key : ∀ (f : Nat → Option Value) (L : List Nat) (l : List Value), L.mapM f = some l → l.length = L.length ∧ ∀ (i : Nat) v, l[i]? = some v → ∃ x, L[i]? = some x ∧ f x = some v := by
    intro f L
    induction L with
    | nil => intro l h; simp at h; subst h; exact ⟨rfl, fun i v h => by simp at h⟩
    | cons a L ih =>
      intro l h
      rw [List.mapM_cons] at h
      obtain ⟨y, hy, h⟩ := Option.bind_eq_some_iff.1 h
      obtain ⟨l', hl', h⟩ := Option.bind_eq_some_iff.1 h
      simp at h; subst h
      obtain ⟨h1, h2⟩ := ih l' hl'
      refine ⟨by simp [h1], fun i v hv => ?_⟩
      cases i with
      | zero => simp at hv; subst hv; exact ⟨a, rfl, hy⟩
      | succ i => exact h2 i v (by simpa using hv)
  obtain ⟨h1, h2⟩ := key _ _ _ h
  refine ⟨by simpa using h1, fun i v hv => ?_⟩
  obtain ⟨x, hx, hf⟩ := h2 i v hv
  have hi : i < n := by
    have := (List.getElem?_eq_some_iff.1 hx).1
    simpa using this
  rw [List.getElem?_range hi] at hx
  cases hx
  exact hf
theorem Tr.slA8 {e e8 : TypeId} {s : Nat} (hu : P.underlying t = some (.slice e)) (hce : P.cellsOf e = s) (he : P.underlying e = some (.array s e8)) (hce8 : P.cellsOf e8 = 1) (he8 : P.underlying e8 = some (.int .u8)) (h : Tr P w t cs) :
    ∃ a n cap, ∃ l : List UInt8, cs = [.slice a n cap] ∧ l.length = s * n ∧ n ≤ cap ∧ cap ≤ maxLen ∧ (Ent.view a (l.map vu8)).ok w.heap.size w := by
  rcases Tr.nilOrSlice hu h with rfl | ⟨a, len, cap, rfl, h1, h2, h3⟩
  · exact ⟨none, 0, 0, [], rfl, rfl, Nat.le_refl _, by simp [maxLen], ⟨View.nil _ _, fun ad h => by cases h⟩⟩
  · have key : ∀ k, k ≤ len → ∃ l : List UInt8, l.length = s * k ∧ View w (some a) (l.map vu8) := by
      intro k
      induction k with
      | zero => intro _; exact ⟨[], rfl, View.nil _ _⟩
      | succ k ih =>
        intro hk
        obtain ⟨l, hl, hv⟩ := ih (by omega)
        obtain ⟨ys, hys, ht⟩ := h3 k (by omega)
        rw [hce] at hys
        obtain ⟨hyl, hyc⟩ := cells?_all hys
        obtain ⟨m, rfl, hm⟩ := Tr.arr8 he hce hce8 he8 ht
        refine ⟨l ++ m, by rw [List.length_append, hl, hm, Nat.mul_succ], fun i v hv' => ?_⟩
        rw [List.map_append] at hv'
        by_cases hi : i < l.length
        · refine hv i v ?_
          rw [List.getElem?_append_left (by simpa using hi)] at hv'
          exact hv'
        · rw [List.getElem?_append_right (by simpa using hi)] at hv'
          have h4 := hyc _ v hv'
          rw [add_add, List.length_map, hl, Nat.mul_comm, show s * k + (i - s * k) = i by omega] at h4
          exact ⟨a, rfl, h4⟩
    obtain ⟨l, hl, hv⟩ := key len (Nat.le_refl _)
    refine ⟨some a, len, cap, l, rfl, hl, h1, h2, ⟨hv, fun ad ha hne => ?_⟩⟩
    cases ha
    cases l with
    | nil => simp at hne
    | cons x l =>
      obtain ⟨ad', e, hc⟩ := hv 0 (vu8 x) rfl
      cases e
      have := block_lt_of_cell hc
      rwa [Addr.add_block] at this
end
end Go.Vc

namespace Go.Orc
open Go.Vc Go.RowKit
end Go.Orc
namespace Go.Orc
open Go.Vc Go.RowKit
end Go.Orc
namespace Go.Orc
open Go.Vc Go.RowKit
end Go.Orc
namespace Go.Orc
open Go.Vc Go.RowKit
end Go.Orc
namespace Go.Orc
open Go.Vc Go.RowKit
theorem sub_blk {a : Option Addr} {l m : Nat} {xs ys : List Value} (h : 0 < xs.length) : ∀ b ∈ (Ent.view (slA a l m 1) ys).blocks, b ∈ (Ent.view a xs).blocks := by
  intro b hb
  cases a with
  | none => simp [slA, Ent.blocks] at hb
  | some ad =>
    cases xs with
    | nil => simp at h
    | cons x r =>
      have e : slA (some ad) l m 1 = some ad ∨ slA (some ad) l m 1 = some (ad.add (l * 1)) := by
        unfold slA; split
        · exact .inl rfl
        · exact .inr rfl
      rcases e with e | e <;> rw [e] at hb <;> cases ys <;> simp [Ent.blocks, Addr.add_block] at hb ⊢ <;> exact hb
end Go.Orc

namespace Go.Vc
open Go.RowKit Go.ChangeShapes Go.WideShapes Go.ChangeAt
section
variable {P : Program} {w : World} {t : TypeId} {cs : List Value}
end
end Go.Vc

namespace Go.Orc
open Go.Vc Go.RowKit
def dr (df : List UInt8) (i : Nat) : List UInt8 := (df.drop (i * 32)).take 32
def Unl (df : List UInt8) (n : Nat) (d : List UInt8) : Prop := (∀ i, i < n → (∀ k, k < i → dr df k ≠ dr df i) ∧ df.getD (i * 32 + 31) 0 ≠ 1 ∧ dr df i ≠ d) ∧ d.getD 31 0 ≠ 1
def Apt (df : List UInt8) (n : Nat) : Prop := ∀ i, i < n → (∀ k, k < i → dr df k ≠ dr df i) ∧ df.getD (i * 32 + 31) 0 ≠ 1
section
variable {df : List UInt8} {n : Nat} {d : List UInt8}
theorem drawF_lt {i : Nat} (h : i < n) : drawF df n i = dr df i := by rw [drawF, if_pos h]; rfl
theorem dr_31 {i : Nat} : (dr df i).getD 31 0 = df.getD (i * 32 + 31) 0 := by
  simp [dr, List.getD_eq_getElem?_getD, List.getElem?_take, List.getElem?_drop]
theorem drawF_ge {i : Nat} (h : ¬ i < n) : drawF df n i = leN 8 i ++ (List.replicate 23 0 ++ [1]) := by rw [drawF, if_neg h]
theorem drawF_31 {i : Nat} (h : ¬ i < n) : (drawF df n i).getD 31 0 = 1 := by
  have e := leN_len 8 i
  rw [drawF_ge h, List.getD_eq_getElem?_getD, List.getElem?_append_right (by omega), e]; rfl
theorem draw_inj (ha : Apt df n) {i j : Nat} (hi : i < 18446744073709551616) (hj : j < 18446744073709551616) (hne : i ≠ j) : drawF df n i ≠ drawF df n j := by
  intro h
  by_cases h1 : i < n
  · by_cases h2 : j < n
    · rw [drawF_lt h1, drawF_lt h2] at h
      rcases Nat.lt_or_gt_of_ne hne with hl | hl
      · exact (ha j h2).1 i hl h
      · exact (ha i h1).1 j hl h.symm
    · have := drawF_31 (df := df) h2
      rw [← h, drawF_lt h1, dr_31] at this
      exact (ha i h1).2 this
  · by_cases h2 : j < n
    · have := drawF_31 (df := df) h1
      rw [h, drawF_lt h2, dr_31] at this
      exact (ha j h2).2 this
    · rw [drawF_ge h1, drawF_ge h2] at h
      have h3 := congrArg natLE (List.append_inj_left h (by rw [leN_len, leN_len]))
      rw [natLE_leN, natLE_leN] at h3
      omega
def DL (df : List UInt8) (n u : Nat) (l : Lg) : Prop := u = l.length ∧ ∀ i, i < l.length → (l.getD i ((0, [], 0, []), [])).2 = drawF df n i
theorem DL.nil : DL df n 0 [] := ⟨rfl, fun i h => by simp at h⟩
theorem DL.an {u : Nat} {l : Lg} {q : Qn} (h : DL df n u l) : DL df n (anU true u l q) (anL true df n u l q) := by
  cases hf : fdq q l 0 with
  | some i => rw [anU_hit hf, anL_hit hf]; exact h
  | none =>
    rw [anU_miss hf, anL_miss hf]
    refine ⟨by rw [snoc_len]; exact congrArg (· + 1) h.1, fun i hi => ?_⟩
    rw [snoc_len] at hi
    by_cases e : i < l.length
    · have := h.2 i e
      simpa [List.getD_eq_getElem?_getD, List.getElem?_append_left, e] using this
    · have e2 : i = l.length := by omega
      subst e2
      have : (l ++ [(q, mF true df n u q)]).getD l.length ((0, [], 0, []), []) = (q, mF true df n u q) := by simp
      rw [this, h.1]; rfl
theorem fdq_get {q : Qn} {z : Qn × List UInt8} : ∀ {l : Lg} {s j : Nat}, fdq q l s = some j → s ≤ j ∧ j < s + l.length ∧ (l.getD (j - s) z).1 = q
  | p :: r, s, j, h => by
    rw [fdq] at h
    split at h
    · rename_i e
      cases h
      exact ⟨Nat.le_refl _, by rw [List.length_cons]; omega, by rw [Nat.sub_self]; simpa using e⟩
    · obtain ⟨h1, h2, h3⟩ := fdq_get (z := z) h
      refine ⟨by omega, by rw [List.length_cons]; omega, ?_⟩
      have e : j - s = (j - (s + 1)) + 1 := by omega
      rw [e]; simpa using h3
theorem lk_draw {u : Nat} {l : Lg} {q : Qn} {a : List UInt8} (h : DL df n u l) (hk : lk q l = some a) : ∃ i, i < l.length ∧ (l.getD i ((0, [], 0, []), [])).1 = q ∧ a = drawF df n i := by
  unfold lk at hk
  cases hf : fdq q l 0 with
  | none => rw [hf] at hk; cases hk
  | some i =>
    rw [hf] at hk
    obtain ⟨h1, h2, h3⟩ := fdq_get (z := ((0, [], 0, []), [])) hf
    have hi : i < l.length := by omega
    refine ⟨i, hi, by simpa using h3, ?_⟩
    have h4 := h.2 i hi
    have e : l.getD i (q, []) = l.getD i ((0, [], 0, []), []) := by simp [hi]
    simp only [Option.map_some, Option.some.injEq] at hk
    rw [← hk, e, h4]
theorem lk_ne {u : Nat} {l : Lg} {q q' : Qn} {a a' : List UInt8} (ha : Apt df n) (h : DL df n u l) (hl : l.length < 18446744073709551616) (h1 : lk q l = some a) (h2 : lk q' l = some a') (hne : q ≠ q') : a ≠ a' := by
  obtain ⟨i, hi, e1, e2⟩ := lk_draw h h1
  obtain ⟨j, hj, e3, e4⟩ := lk_draw h h2
  subst e2 e4
  refine draw_inj ha (by omega) (by omega) fun e => hne ?_
  subst e
  rw [← e1, ← e3]
end
end Go.Orc
namespace Go.Vc
open Go.RowKit
section
variable {P : Program} {F : Fr} {w : World} {ty : TypeId} {pos : String} {after : Array Edge} {dst : Option Tmp} {g : Option (Nat × Bool)}
theorem R.indexG {i j off' len s : Nat} {a : Option Addr} {T E : TypeId} {x y : Operand} {kd : IntKind} {iv : Int} (hx : evO F x = .pointer (some (gA a j))) (hy : evO F y = .int kd iv) (hi : iv = (i : Int)) (hlt : i < len)
    (hT : P.underlying T = some (.array len E)) (hs : ∀ w, (sizeOf E).run P w = .ok s w) (hoff : off' = j + i * s) : (execOp (evO F) ⟨dst, .indexAddr T x y, ty, pos, after, g⟩).run P w = .ok (.value (.pointer (some (gA a off')))) w := by
  subst hi
  have hlt' : (i : Int) < (len : Int) := by omega
  have h0 : (0 : Int) ≤ i := by omega
  simp only [execOp, hx, hy, Instr.indexAt, asIntOf, Sem.run_bind, Sem.run_pure, Result.andThen_ok, run_underlying hT, Instr.sureAddr, h0, hlt', and_self, if_true, hs, Int.toNat_natCast, gA_add, hoff]
end
end Go.Vc
namespace Go.Vc
open Go.RowKit
section
variable {P : Program} {F : Fr} {w : World} {ty : TypeId} {pos : String} {after : Array Edge} {dst : Option Tmp} {g : Option (Nat × Bool)}
end
end Go.Vc

namespace Go.Vc
open Go.RowKit
end Go.Vc
namespace Go.Orc
open Go.Vc Go.RowKit
def nL (q : Qn) (n : Nat) : List UInt8 := Go.Ax.strL (q.2.1.take 16) ((Go.Sh.sumL (cT q)).take 8) n
theorem nL_len (q : Qn) (n : Nat) : (nL q n).length = n := Go.Ax.strL_len (by rw [List.length_take, Go.Sh.sumL_len]; rfl) n
def sL (q : Qn) (d : List UInt8) (lg : Lg) : Lg := match fdq q lg 0 with
  | some _ => lg
  | none => lg ++ [(q, d)]
section
variable {q : Qn} {d : List UInt8} {lg : Lg} {i : Nat}
theorem sL_hit (h : fdq q lg 0 = some i) : sL q d lg = lg := by rw [sL, h]
theorem sL_miss (h : fdq q lg 0 = none) : sL q d lg = lg ++ [(q, d)] := by rw [sL, h]
theorem sL_le : (sL q d lg).length ≤ lg.length + 1 := by
  unfold sL; split
  · omega
  · rw [snoc_len]; exact Nat.le_refl _
theorem sL_32 (hd : d.length = 32) (h : ok32 lg) : ok32 (sL q d lg) := by
  unfold sL; split
  · exact h
  · intro p hp
    rcases List.mem_append.1 hp with hp | hp
    · exact h p hp
    · rw [List.mem_singleton] at hp; subst hp; exact hd
theorem sL_again : sL q d (sL q d lg) = sL q d lg := by
  cases hf : fdq q lg 0 with
  | some i => rw [sL_hit hf, sL_hit hf]
  | none =>
    rw [sL_miss hf]
    exact sL_hit (fdq_new d hf)
end
def gSt (id : Bool) (df : List UInt8) (dn : Nat) (key : List UInt8) (dm : Int) (data : List UInt8) (u : Nat) (lg : Lg) : Nat × Lg × List UInt8 :=
  bif id then ((sT df dn key dm data u lg 4).1, (sT df dn key dm data u lg 4).2.1, (sT df dn key dm data u lg 4).2.2.take 128)
  else (u, sL (4, key, dm, data) ((nL (4, key, dm, data) 128).take 32) lg, nL (4, key, dm, data) 128)
section
variable {id : Bool} {df : List UInt8} {dn : Nat} {key : List UInt8} {dm : Int} {data : List UInt8} {u : Nat} {lg : Lg}
theorem gSt_F : gSt false df dn key dm data u lg = (u, sL (4, key, dm, data) ((nL (4, key, dm, data) 128).take 32) lg, nL (4, key, dm, data) 128) := rfl
theorem gSt_T : gSt true df dn key dm data u lg = ((sT df dn key dm data u lg 4).1, (sT df dn key dm data u lg 4).2.1, (sT df dn key dm data u lg 4).2.2.take 128) := rfl
theorem nL_32 {q : Qn} : ((nL q 128).take 32).length = 32 := by rw [List.length_take, nL_len]; rfl
theorem gSt_u : (gSt id df dn key dm data u lg).1 ≤ u + 4 := by
  cases id
  · exact Nat.le_add_right _ _
  · exact sT_u 4
theorem gSt_l : (gSt id df dn key dm data u lg).2.1.length ≤ lg.length + 4 := by
  cases id
  · exact Nat.le_trans sL_le (by omega)
  · exact sT_l 4
theorem gSt_32 (h : df.length = 32 * dn) (hl : ok32 lg) : ok32 (gSt id df dn key dm data u lg).2.1 := by
  cases id
  · exact sL_32 nL_32 hl
  · exact sT_32 h hl 4
theorem gSt_len (h : df.length = 32 * dn) (hl : ok32 lg) : (gSt id df dn key dm data u lg).2.2.length = 128 := by
  cases id
  · simp only [gSt, cond_false]; exact nL_len _ _
  · simp only [gSt, cond_true, List.length_take, sT_len h hl]; decide
theorem sT_lk {q : Qn} {d : List UInt8} {k : Nat} (h : lk q (sT df dn key dm data u lg k).2.1 = some d) : ∀ {m}, k ≤ m → lk q (sT df dn key dm data u lg m).2.1 = some d
  | 0, hm => by
    have e : k = 0 := by omega
    subst e; exact h
  | m + 1, hm => by
    by_cases e : k = m + 1
    · subst e; exact h
    · have hk : k ≤ m := by omega
      exact lk_anL (sT_lk h hk)
theorem sT_again {m : Nat} : ∀ {k}, k ≤ m → sT df dn key dm data (sT df dn key dm data u lg m).1 (sT df dn key dm data u lg m).2.1 k = ((sT df dn key dm data u lg m).1, (sT df dn key dm data u lg m).2.1, (sT df dn key dm data u lg k).2.2)
  | 0, _ => rfl
  | k + 1, hk => by
    have hkm : k ≤ m := by omega
    have ih := sT_again (m := m) (k := k) hkm
    have hl : lk (4, key, dm, data ++ leN 8 k) (sT df dn key dm data u lg m).2.1 = some (anD true df dn (sT df dn key dm data u lg k).1 (sT df dn key dm data u lg k).2.1 (4, key, dm, data ++ leN 8 k)) := sT_lk (k := k + 1) lk_self hk
    show (anU true (sT df dn key dm data (sT df dn key dm data u lg m).1 (sT df dn key dm data u lg m).2.1 k).1 _ _, anL true df dn _ _ _, _ ++ anD true df dn _ _ _) = _
    rw [ih]
    simp only
    rw [anU_lk hl, anL_lk hl, anD_lk hl]
    rfl
theorem gSt_again : gSt id df dn key dm data (gSt id df dn key dm data u lg).1 (gSt id df dn key dm data u lg).2.1 = gSt id df dn key dm data u lg := by
  cases id
  · show (u, sL _ _ (sL _ _ lg), _) = (u, sL _ _ lg, _)
    rw [sL_again]
  · show ((sT df dn key dm data (sT df dn key dm data u lg 4).1 (sT df dn key dm data u lg 4).2.1 4).1, (sT df dn key dm data (sT df dn key dm data u lg 4).1 (sT df dn key dm data u lg 4).2.1 4).2.1, (sT df dn key dm data (sT df dn key dm data u lg 4).1 (sT df dn key dm data u lg 4).2.1 4).2.2.take 128) = _
    rw [sT_again (Nat.le_refl 4)]
    rfl
theorem DL.sT (h : DL df dn u lg) : ∀ k, DL df dn (sT df dn key dm data u lg k).1 (sT df dn key dm data u lg k).2.1
  | 0 => h
  | k + 1 => DL.an (DL.sT h k)
theorem DL.gSt (hid : id = true) (h : DL df dn u lg) : DL df dn (gSt id df dn key dm data u lg).1 (gSt id df dn key dm data u lg).2.1 := by
  subst hid; exact DL.sT h 4
end
theorem lk_iff {df : List UInt8} {n u : Nat} {l : Lg} {q q' : Qn} {a a' : List UInt8} (ha : Apt df n) (h : DL df n u l) (hl : l.length < 18446744073709551616) (h1 : lk q l = some a) (h2 : lk q' l = some a') : a = a' ↔ q = q' := by
  constructor
  · intro e; exact Classical.byContradiction fun hn => lk_ne ha h hl h1 h2 hn e
  · intro e; subst e; rw [h1] at h2; exact Option.some.inj h2
theorem pcB_inj {p p' : Nat} {c c' : UInt64} (hp : p < 128) (hp' : p' < 128) (h : pcB p c = pcB p' c') : p = p' ∧ c = c' := by
  simp only [pcB, List.flatten_cons, List.flatten_nil, List.append_nil] at h
  obtain ⟨h1, h2⟩ := List.append_inj h (by rw [leN_len, leN_len])
  have e1 := congrArg natLE h1
  have e2 := congrArg natLE h2
  have b1 := c.toNat_lt
  have b2 := c'.toNat_lt
  have f1 : (UInt64.ofNat p).toNat = p := by simp; omega
  have f2 : (UInt64.ofNat p').toNat = p' := by simp; omega
  rw [natLE_leN, natLE_leN, f1, f2] at e1
  rw [natLE_leN, natLE_leN] at e2
  exact ⟨by omega, UInt64.toNat_inj.1 (by omega)⟩
def qLf (p : Nat) (c : UInt64) (a : List UInt8) : Qn := (1, List.replicate 32 0, 4, [pcB p c, a].flatten)
def qNo (p : Nat) : Qn := (1, List.replicate 32 0, 6, leN 8 (UInt64.ofNat p).toNat)
theorem qLf_inj {p p' : Nat} {c c' : UInt64} {a a' : List UInt8} (hp : p < 128) (hp' : p' < 128) : qLf p c a = qLf p' c' a' ↔ (p = p' ∧ c = c' ∧ a = a') := by
  constructor
  · intro h
    have h2 := congrArg (fun q : Qn => q.2.2.2) h
    simp only [qLf, List.flatten_cons, List.flatten_nil, List.append_nil] at h2
    obtain ⟨e1, e2⟩ := List.append_inj h2 (by rw [pcB_len, pcB_len])
    obtain ⟨e3, e4⟩ := pcB_inj hp hp' e1
    exact ⟨e3, e4, e2⟩
  · rintro ⟨rfl, rfl, rfl⟩; rfl
theorem qLf_no {p p' : Nat} {c : UInt64} {a : List UInt8} : qLf p c a ≠ qNo p' := by
  intro h
  have h2 := congrArg (fun q : Qn => q.2.2.1) h
  exact absurd h2 (show ¬ ((4 : Int) = 6) by decide)
section
variable {id : Bool} {df : List UInt8} {n u : Nat} {l : Lg}
theorem three (hid : id = true) (ha : Apt df n) (h : DL df n u l) (hl : l.length ≤ 1000) (q q' q2 : Qn) :
    (anD id df n u l q = anD id df n (anU id u l q) (anL id df n u l q) q' ↔ q = q') ∧
    (anD id df n u l q = anD id df n (anU id (anU id u l q) (anL id df n u l q) q') (anL id df n (anU id u l q) (anL id df n u l q) q') q2 ↔ q = q2) ∧
    (anD id df n (anU id u l q) (anL id df n u l q) q' = anD id df n (anU id (anU id u l q) (anL id df n u l q) q') (anL id df n (anU id u l q) (anL id df n u l q) q') q2 ↔ q' = q2) := by
  subst hid
  have h1 := DL.an (q := q) h
  have h2 := DL.an (q := q') h1
  have h3 := DL.an (q := q2) h2
  have b1 := anL_le true df n u l q
  have b2 := anL_le true df n (anU true u l q) (anL true df n u l q) q'
  have b3 := anL_le true df n (anU true (anU true u l q) (anL true df n u l q) q') (anL true df n (anU true u l q) (anL true df n u l q) q') q2
  have k1 : lk q (anL true df n (anU true u l q) (anL true df n u l q) q') = some (anD true df n u l q) := lk_anL lk_self
  have k2 := lk_self (id := true) (df := df) (dn := n) (u := anU true u l q) (l := anL true df n u l q) (q := q')
  have k3 := lk_self (id := true) (df := df) (dn := n) (u := anU true (anU true u l q) (anL true df n u l q) q') (l := anL true df n (anU true u l q) (anL true df n u l q) q') (q := q2)
  exact ⟨lk_iff ha h2 (by omega) k1 k2, lk_iff ha h3 (by omega) (lk_anL k1) k3, lk_iff ha h3 (by omega) (lk_anL k2) k3⟩
end
end Go.Orc
namespace Go.Orc
open Go.Vc Go.RowKit
section
variable {id : Bool} {df : List UInt8} {n u : Nat} {l : Lg} {p p' : Nat} {c c' : UInt64} {a a' : List UInt8}
theorem leaf_eq (hid : id = true) (ha : Apt df n) (h : DL df n u l) (hl : l.length ≤ 1000) (hp : p < 128) (hp' : p' < 128) :
    anD id df n u l (qLf p c a) = anD id df n (anU id u l (qLf p c a)) (anL id df n u l (qLf p c a)) (qLf p' c' a') ↔ (p = p' ∧ c = c' ∧ a = a') :=
  (three hid ha h hl (qLf p c a) (qLf p' c' a') (qNo p')).1.trans (qLf_inj hp hp')
theorem leaf_n1 (hid : id = true) (ha : Apt df n) (h : DL df n u l) (hl : l.length ≤ 1000) :
    anD id df n u l (qLf p c a) ≠ anD id df n (anU id (anU id u l (qLf p c a)) (anL id df n u l (qLf p c a)) (qLf p' c' a')) (anL id df n (anU id u l (qLf p c a)) (anL id df n u l (qLf p c a)) (qLf p' c' a')) (qNo p') :=
  fun e => qLf_no ((three hid ha h hl (qLf p c a) (qLf p' c' a') (qNo p')).2.1.1 e)
theorem leaf_n2 (hid : id = true) (ha : Apt df n) (h : DL df n u l) (hl : l.length ≤ 1000) :
    anD id df n (anU id u l (qLf p c a)) (anL id df n u l (qLf p c a)) (qLf p' c' a') ≠ anD id df n (anU id (anU id u l (qLf p c a)) (anL id df n u l (qLf p c a)) (qLf p' c' a')) (anL id df n (anU id u l (qLf p c a)) (anL id df n u l (qLf p c a)) (qLf p' c' a')) (qNo p') :=
  fun e => qLf_no ((three hid ha h hl (qLf p c a) (qLf p' c' a') (qNo p')).2.2.1 e)
theorem same_t {P Q R : Prop} {A : Prop} [Decidable A] [Decidable R] (h : A ↔ (P ∧ Q ∧ R)) (hP : P) (hQ : Q) : (decide A == decide R) = true :=
  beq_iff_eq.2 (decide_eq_decide.2 ⟨fun x => (h.1 x).2.2, fun x => h.2 ⟨hP, hQ, x⟩⟩)
theorem same_f {P Q R : Prop} {A : Prop} [Decidable A] (h : A ↔ (P ∧ Q ∧ R)) (hn : ¬ (P ∧ Q)) : (decide A == false) = true :=
  beq_iff_eq.2 (decide_eq_false fun x => hn ⟨(h.1 x).1, (h.1 x).2.1⟩)
theorem nidb {b : Bool} (h : (!b) = false) : b = true := by simpa using h
end
end Go.Orc

namespace Go.Proofs.Yteclkcpdclimnaa
open Go.Proofs.Try
open Go.Vc Go.Orc Go.Sh Go.RowKit
set_option maxRecDepth 20000

theorem c_sCl (l : List UInt8) (hl : l.length = 128) (oa : Option Addr) (bo bn : Nat) (w : World) (hv : View w oa (l.map vu8)) (hco : (Ent.blk bo .ro 54 [(1, [(.slice oa 128 128)])]).ok w.heap.size w) (hcn : (Ent.blk bn .ro 3 [(1, [(vi 128)])]).ok w.heap.size w) :
  Cs Try.prog 60 [(.pointer (some ⟨bo, 0, none⟩)), (.pointer (some ⟨bn, 0, none⟩))].toArray w (fun v w1 => v = (.agg ⟨(l.take 32).map vu8⟩) ∧ Chg w w1 []) := by
 refine Cs.of (n := 11) (args := [(pO bo 0), (pO bn 0)]) Try.func60 rfl rfl rfl ?_
 have h_0 := HP.init w
 have h_01 := h_0.oldV (View.arg hv) rfl (by simp [Ent.mut])
 have h_02 := h_01.oldV hcn rfl (by simp [Ent.mut])
 have h_00 := h_02.oldV hco rfl (by simp [Ent.mut])
 refine WP.seq (WP.reg ?_)
 refine WL.alloc (segs := [(32, (zB 32).map vu8)]) h_00 (zv typeInfo23 rfl) rfl (sC (s8 lr) sN) rfl (fun b_1 w_2 h_3 => ?_)
 refine WL.nil (thn_n (WP.seq (WP.reg ?_)))
 refine WL.alloc (segs := [(32, (zB 32).map vu8)]) h_3 (zv typeInfo23 rfl) rfl (sC (s8 lr) sN) rfl (fun b_4 w_5 h_6 => ?_)
 refine WL.nil (thn_n (WP.seq ?_))
 refine WP.drawT (SL w.heap.size [.blk b_1 .nw 23 [(32, (zB 32).map vu8)], .blk bo .ro 54 [(1, [(.slice oa 128 128)])], .blk bn .ro 3 [(1, [(vi 128)])], .view oa (l.map vu8)]) (.q 0 (.q 1 (.q 2 (.q 3 (.q 4 (.s 5 .nil)))))) (by kernel_rfl) (by kernel_rfl) rfl (by kernel_rfl) (fun w_7 hc_9 => (SL.cons ((h_6.same hc_9).ok _ M1) (SL.cons ((h_6.same hc_9).ok _ M2) (SL.cons ((h_6.same hc_9).ok _ M3) (SL.cons ((h_6.same hc_9).ok _ M4) (SL.nil _ _)))))) (fun w_7 hc_9 => ?_)
 have h_8 := h_6.same hc_9
 refine qT rfl rfl (fun wq hS => R.sliceA (b := b_4) (off := 0) (off' := 0) (l := 0) (h := 32) rfl EvB.dflt EvB.dflt (by decide) (by decide) underlying23 sizeOf5 rfl) ?_
 refine qT rfl rfl (fun wq hS => R.load1 rfl isAgg54 (hS _ M1) Sg.h) ?_
 refine qT rfl rfl (fun wq hS => R.load1 rfl isAgg3 (hS _ M2) Sg.h) ?_
 refine qT rfl rfl (fun wq hS => R.minI (c := 32) rfl rfl (by decide)) ?_
 refine qT rfl rfl (fun wq hS => R.sliceS (a := oa) (len := 128) (l := 0) (h := 32) rfl EvB.dflt (EvB.it (l := 32) rfl rfl) (by decide) (by omega) underlying54 sizeOf5) ?_
 refine WT.s (oN rfl ?_)
 refine WL.copy (q := 32) (i := 0) (ys := ((l.drop 0).take 32).map vu8) (cs' := ((l.drop 0).take 32).map vu8) h_8 rfl rfl underlying54 sizeOf5 (View.slM (l := 0) (m := 128) (k := 32) (viewV (h_8.ok _ M4)) (by omega)) (len_map (subLen (K := 128) hl (by omega) : List.length ((l.drop 0).take 32) = 32)) (one_u8 _) At.h (by decide) Sg.h rfl (by decide) (by rw [len_map lr]; decide) (cpAll (subLen (K := 128) hl (by omega) : List.length ((l.drop 0).take 32) = 32) lr) rfl (fun w_10 h_11 => ?_)
 refine WL.nil ?_
 refine ⟨(N1_2_3_4 h_11.ok), ?_⟩
 refine WT.nil (thn_n (WP.seq (WP.reg ?_)))
 refine qV rfl (R.loadA [] [(32, ((l.drop 0).take 32).map vu8)] [] (cs := ((l.drop 0).take 32).map vu8) rfl isAgg23 sizeOf23 (h_11.ok _ M0) rfl rfl rfl rfl) ?_
 refine WL.storeA [] [(32, (zB 32).map vu8)] [(32, ((l.drop 0).take 32).map vu8)] [] h_11 rfl rfl sizeOf23 Y1 (by decide) rfl rfl rfl rfl rfl rfl (sC (s8 (subLen (K := 128) hl (by omega) : List.length ((l.drop 0).take 32) = 32)) sN) (fun w_12 h_13 => ?_)
 refine WL.nil (thn_n (WP.ret ?_))
 refine ret_of results60 (RV.cell rfl (h_13.loadA (cs := ((l.drop 0).take 32).map vu8) isAgg23 sizeOf23 M1 rfl rfl) RV.nil) ?_
 exact ⟨rfl, h_13.chgS⟩

theorem c_ans_missS {w00 : World} {L : List Ent} (ob mp : Nat) (ms df : List UInt8) (hms : ms.length = 32) (da : Option Addr) (dn dc u : Nat) (hdf : df.length = 32 * dn) (la : Option Addr) (lc : Nat) (lx : List Value) (lg : Lg) (hu : u ≤ 1000000) (hlg : lg.length ≤ 1000000) (kd dm : Int) (key data : List UInt8) (qa : Option Addr) (qn qc : Nat) (hq : okQ (kd, key, dm, data)) (hdl : data.length = qn) (l : List UInt8) (hl : l.length = 128) (oa : Option Addr) (bo bn : Nat) (hfd : fdq (kd, key, dm, data) lg 0 = none) (w : World) (h_0 : HP w00 w (Ent.blk ob .nw 90 [(1, [(.bool false)]), (32, ms.map vu8), (1, [(.slice da dn dc)]), (1, [(vi ((u : Nat) : Int))]), (1, [(.map (some mp))]), (1, [(.slice la lg.length lc)])] :: Ent.row la lg.length lc 64 67 lx :: Ent.obj mp .nw (.map (mArr lg) lg.length) :: Ent.pin (sblks lx) (fun w => Lgs w lx lg) :: Ent.view da (df.map vu8) :: Ent.view qa (data.map vu8) :: Ent.blk bo .nw 54 [(1, [(.slice oa 128 128)])] :: Ent.blk bn .nw 3 [(1, [(vi 128)])] :: Ent.row oa 128 128 5 1 (l.map vu8) :: L)) :
  Cs Try.prog 46 [(.pointer (some ⟨ob, 0, none⟩)), (.agg ⟨flat [(1, [(vi kd)]), (32, key.map vu8), (1, [(vi dm)]), (1, [(.slice qa qn qc)])]⟩), (Value.func (Fn.func 60) [].toArray [(Value.pointer (some ⟨bo, 0, none⟩)), (Value.pointer (some ⟨bn, 0, none⟩))].toArray)].toArray w (fun v w1 => ∃ la' lc' lx', ∃ d : List UInt8, v = (.agg ⟨d.map vu8⟩) ∧ d.length = 32 ∧ HP w00 w1 (Ent.blk ob .nw 90 [(1, [(.bool false)]), (32, ms.map vu8), (1, [(.slice da dn dc)]), (1, [(vi ((u : Nat) : Int))]), (1, [(.map (some mp))]), (1, [(.slice la' ((sL (kd, key, dm, data) (l.take 32) lg).length) lc')])] :: Ent.row la' ((sL (kd, key, dm, data) (l.take 32) lg).length) lc' 64 67 lx' :: Ent.obj mp .nw (.map (mArr (sL (kd, key, dm, data) (l.take 32) lg)) ((sL (kd, key, dm, data) (l.take 32) lg).length)) :: Ent.pin (sblks lx') (fun w => Lgs w lx' (sL (kd, key, dm, data) (l.take 32) lg)) :: Ent.view da (df.map vu8) :: Ent.view qa (data.map vu8) :: Ent.blk bo .nw 54 [(1, [(.slice oa 128 128)])] :: Ent.blk bn .nw 3 [(1, [(vi 128)])] :: Ent.row oa 128 128 5 1 (l.map vu8) :: L)) := by
 have hlgs : Lgs w lx lg := (h_0.ok _ M3).1
 have hlo := hlgs.ok
 have hqn : data.length ≤ 1000000000 := hq.2.2.2
 have hl32 : (l.take 32).length = 32 := by rw [List.length_take, hl]; decide
 refine Cs.of (n := 74) (args := [(pO ob 0), (.agg ⟨flat [(1, [(vi kd)]), (32, key.map vu8), (1, [(vi dm)]), (1, [(.slice qa qn qc)])]⟩), (Value.func (Fn.func 60) [].toArray [(Value.pointer (some ⟨bo, 0, none⟩)), (Value.pointer (some ⟨bn, 0, none⟩))].toArray)]) Try.func46 rfl rfl rfl ?_
 refine WP.seq (WP.reg ?_)
 refine WL.box (segs := [(1, [(vi kd)]), (32, key.map vu8), (1, [(vi dm)]), (1, [(.slice qa qn qc)])]) h_0 rfl rfl (sC sV (sC (s8 hq.1) (sC sV (sC sV sN)))) rfl (fun b_1 w_2 h_3 => ?_)
 refine WL.alloc (segs := [(32, (zB 32).map vu8)]) h_3 (zv typeInfo23 rfl) rfl (sC (s8 lr) sN) rfl (fun b_4 w_5 h_6 => ?_)
 refine WL.nil (thn_n (WP.seq (WP.reg ?_)))
 refine qV rfl (R.fieldAddr (off' := 0) rfl underlying56 rfl sizeOf52 rfl rfl) (qV rfl (R.load1 rfl isAgg52 (h_6.ok _ M1) Sg.h) (qV rfl (R.fieldAddr (off' := 1) rfl underlying56 rfl sizeOf23 rfl rfl) (qV rfl (R.loadA [(1, [(vi kd)])] [(32, key.map vu8)] [(1, [(vi dm)]), (1, [(.slice qa qn qc)])] (cs := key.map vu8) rfl isAgg23 sizeOf23 (h_6.ok _ M1) rfl rfl rfl rfl) (qV rfl (R.fieldAddr (off' := 33) rfl underlying56 rfl sizeOf53 rfl rfl) (qV rfl (R.load1 rfl isAgg53 (h_6.ok _ M1) (Sg.t rfl (Sg.t rfl Sg.h))) (qV rfl (R.fieldAddr (off' := 34) rfl underlying56 rfl sizeOf54 rfl rfl) (qV rfl (R.load1 rfl isAgg54 (h_6.ok _ M1) (Sg.t rfl (Sg.t rfl (Sg.t rfl Sg.h)))) (qV rfl (R.toStr (bs := data) rfl underlying54 underlying5 underlying9 (viewV (h_6.ok _ M7)) hdl) (qV rfl (R.buildS (pl := [(0, 1), (1, 32), (33, 1), (34, 1)]) (zs := [(1, [(vi 0)]), (32, (zB 32).map vu8), (1, [(vi 0)]), (1, [(.string (bstr ([] : List UInt8)))])]) (vs := [(0, (vi kd)), (1, (.agg ⟨key.map vu8⟩)), (2, (vi dm)), (3, (.string (bstr data)))]) (out := [(1, [(vi kd)]), (32, key.map vu8), (1, [(vi dm)]), (1, [(.string (bstr data))])]) underlying118 (zv typeInfo118 rfl) rfl (sC sV (sC (s8 lr) (sC sV (sC sV sN)))) (pl118 _ underlying118) rfl (FillR.cons [] [(1, [(vi 0)])] [(1, [(vi kd)])] [(32, (zB 32).map vu8), (1, [(vi 0)]), (1, [(.string (bstr ([] : List UInt8)))])] rfl rfl rfl rfl (sC sV sN) rfl rfl rfl (FillR.cons [(1, [(vi kd)])] [(32, (zB 32).map vu8)] [(32, key.map vu8)] [(1, [(vi 0)]), (1, [(.string (bstr ([] : List UInt8)))])] rfl rfl rfl rfl (sC (s8 hq.1) sN) rfl rfl rfl (FillR.cons [(1, [(vi kd)]), (32, key.map vu8)] [(1, [(vi 0)])] [(1, [(vi dm)])] [(1, [(.string (bstr ([] : List UInt8)))])] rfl rfl rfl rfl (sC sV sN) rfl rfl rfl (FillR.cons [(1, [(vi kd)]), (32, key.map vu8), (1, [(vi dm)])] [(1, [(.string (bstr ([] : List UInt8)))])] [(1, [(.string (bstr data))])] [] rfl rfl rfl rfl (sC sV sN) rfl rfl rfl FillR.nil)))) rfl) ?_)))))))))
 refine WL.alloc (segs := [(1, [(vi 0)]), (32, (zB 32).map vu8), (1, [(vi 0)]), (1, [(.string (bstr ([] : List UInt8)))])]) h_6 (zv typeInfo118 rfl) rfl (sC sV (sC (s8 lr) (sC sV (sC sV sN)))) rfl (fun b_8 w_9 h_10 => ?_)
 refine WL.storeA [] [(1, [(vi 0)]), (32, (zB 32).map vu8), (1, [(vi 0)]), (1, [(.string (bstr ([] : List UInt8)))])] [(1, [(vi kd)]), (32, key.map vu8), (1, [(vi dm)]), (1, [(.string (bstr data))])] [] h_10 rfl rfl sizeOf118 At.h (by decide) rfl rfl rfl rfl rfl rfl (sC sV (sC (s8 hq.1) (sC sV (sC sV sN)))) (fun w_11 h_12 => ?_)
 refine WL.nil (thn_n (WP.seq (WP.seq ?_)))
 refine WP.drawT (SL w00.heap.size [.blk b_8 .nw 118 [(1, [(vi kd)]), (32, key.map vu8), (1, [(vi dm)]), (1, [(.string (bstr data))])], .blk b_4 .nw 23 [(32, (zB 32).map vu8)], .blk b_1 .nw 56 [(1, [(vi kd)]), (32, key.map vu8), (1, [(vi dm)]), (1, [(.slice qa qn qc)])], .blk ob .nw 90 [(1, [(.bool false)]), (32, ms.map vu8), (1, [(.slice da dn dc)]), (1, [(vn u)]), (1, [(.map (some mp))]), (1, [(.slice la lg.length lc)])], .row la lg.length lc 64 67 lx, .obj mp .nw (.map (mArr lg) lg.length), .pin (sblks lx) (fun w => Lgs w lx lg), .view da (df.map vu8), .view qa (data.map vu8), .blk bo .nw 54 [(1, [(.slice oa 128 128)])], .blk bn .nw 3 [(1, [(vi 128)])], .row oa 128 128 5 1 (l.map vu8)]) (.q 0 (.q 1 (.q 2 (.q 3 (.q 4 (.s 5 (.q 6 (.q 7 (.q 8 (.q 9 (.q 10 .nil))))))))))) (by kernel_rfl) (by kernel_rfl) rfl (by kernel_rfl) (fun w_13 hc_15 => (SL.cons ((h_12.same hc_15).ok _ M0) (SL.cons ((h_12.same hc_15).ok _ M1) (SL.cons ((h_12.same hc_15).ok _ M2) (SL.cons ((h_12.same hc_15).ok _ M3) (SL.cons ((h_12.same hc_15).ok _ M4) (SL.cons ((h_12.same hc_15).ok _ M5) (SL.cons ((h_12.same hc_15).ok _ M6) (SL.cons ((h_12.same hc_15).ok _ M7) (SL.cons ((h_12.same hc_15).ok _ M8) (SL.cons ((h_12.same hc_15).ok _ M9) (SL.cons ((h_12.same hc_15).ok _ M10) (SL.cons ((h_12.same hc_15).ok _ M11) (SL.nil _ _)))))))))))))) (fun w_13 hc_15 => ?_)
 have h_14 := h_12.same hc_15
 refine qT rfl rfl (fun wq hS => R.move (v := (pO ob 0)) rfl) ?_
 refine qT rfl rfl (fun wq hS => R.nilCheck rfl) ?_
 refine qT rfl rfl (fun wq hS => R.fieldAddr (off' := 35) rfl underlying90 rfl sizeOf88 rfl rfl) ?_
 refine qT rfl rfl (fun wq hS => R.load1 rfl isAgg88 (hS _ M3) (Sg.t rfl (Sg.t rfl (Sg.t rfl (Sg.t rfl Sg.h))))) ?_
 refine qT rfl rfl (fun wq hS => R.loadA [] [(1, [(vi kd)]), (32, key.map vu8), (1, [(vi dm)]), (1, [(.string (bstr data))])] [] rfl isAgg118 sizeOf118 (hS _ M0) rfl rfl rfl rfl) ?_
 refine WT.s (oN rfl ?_)
 refine qV rfl (R.lookup (r := none) (z := (vi 0)) (v := (vi 0)) (ok := false) rfl rfl underlying88 (h_14.ok _ M5) (Ck.agg kt118 (by decide) ag118 (typQ (kd, key, dm, data) hq)) (log_miss kt118 (by decide) ag118 typQ hq hlo hfd) (zv typeInfo3 rfl) rfl rfl) ?_
 refine WL.nil ?_
 refine ⟨(SL.cons (h_14.ok _ M0) (SL.cons (h_14.ok _ M1) (SL.cons (h_14.ok _ M2) (SL.cons (h_14.ok _ M3) (SL.cons (h_14.ok _ M4) (SL.cons (h_14.ok _ M5) (SL.cons (h_14.ok _ M6) (SL.cons (h_14.ok _ M7) (SL.cons (h_14.ok _ M8) (SL.cons (h_14.ok _ M9) (SL.cons (h_14.ok _ M10) (SL.cons (h_14.ok _ M11) (SL.nil _ _))))))))))))), ?_⟩
 refine qT rfl rfl (fun wq hS => R.move (v := (.tuple [(vi 0), (.bool false)].toArray)) rfl) ?_
 refine qT rfl rfl (fun wq hS => R.extract rfl rfl) ?_
 refine qT rfl rfl (fun wq hS => R.extract rfl rfl) ?_
 refine qT rfl rfl (fun wq hS => R.assign (v := (vi 0)) rfl) ?_
 refine qT rfl rfl (fun wq hS => R.assign (v := (.bool false)) rfl) ?_
 refine WT.nil (thn_n (WP.seq (WP.reg ?_)))
 refine qM (.bool false) rfl rfl ?_
 refine WL.nil (thn_n ?_)
 refine WP.condF rfl ?_
 refine WP.skip (thn_n (WP.seq (WP.reg ?_)))
 refine WL.alloc (segs := [(32, (zB 32).map vu8)]) h_14 (zv typeInfo23 rfl) rfl (sC (s8 lr) sN) rfl (fun b_16 w_17 h_18 => ?_)
 refine WL.nil (thn_n (WP.seq (WP.seq (WP.reg ?_))))
 refine qM (pO ob 0) rfl rfl (qV rfl (R.nilCheck rfl) (qV rfl (R.fieldAddr (off' := 0) rfl underlying90 rfl sizeOf4 rfl rfl) (qV rfl (R.load1 rfl isAgg4 (h_18.ok _ M4) Sg.h) ?_)))
 refine WL.nil (thn_n ?_)
 refine WP.condF rfl ?_
 refine WP.reg ?_
 refine qM (Value.func (Fn.func 60) [].toArray [(Value.pointer (some ⟨bo, 0, none⟩)), (Value.pointer (some ⟨bn, 0, none⟩))].toArray) rfl rfl ?_
 refine WL.call Try.call60 rfl rfl (c_sCl l hl oa bo bn _ (ownView (h_18.ok _ M12)) (h_18.argR M10) (h_18.argR M11)) rfl ?_
 rintro _ w_20 ⟨rfl, hc_19⟩
 have h_21 := h_18.same hc_19
 refine WL.storeA [] [(32, (zB 32).map vu8)] [(32, (l.take 32).map vu8)] [] h_21 rfl rfl sizeOf23 At.h (by decide) rfl rfl rfl rfl rfl rfl (sC (s8 (by rw [List.length_take, hl]; decide)) sN) (fun w_22 h_23 => ?_)
 refine WL.nil (thn_n (WP.seq (WP.reg ?_)))
 refine qV rfl (R.fieldAddr (off' := 34) rfl underlying56 rfl sizeOf54 rfl rfl) (qV rfl (R.load1 rfl isAgg54 (h_23.ok _ M3) (Sg.t rfl (Sg.t rfl (Sg.t rfl Sg.h)))) ?_)
 refine WL.call Try.call53 rfl rfl (c_Clone qa qn qc data hdl (by omega) _ (viewV (h_23.ok _ M9))) rfl ?_
 rintro _ w_26 ⟨a_24, cap_25, rfl, hc_27, ho_28⟩
 have h_29 := h_23.gotRow hc_27 ho_28
 refine qV rfl (R.fieldAddr (off' := 34) rfl underlying56 rfl sizeOf54 rfl rfl) ?_
 refine WL.store1 h_29 rfl rfl sizeOf54 rfl Y4 (by decide) (Sg.t rfl (Sg.t rfl (Sg.t rfl Sg.h))) (fun w_30 h_31 => ?_)
 refine WL.nil (thn_n (WP.seq ?_))
 refine WP.drawT (SL w00.heap.size [.row a_24 qn cap_25 5 1 (data.map vu8), .blk b_16 .nw 23 [(32, (l.take 32).map vu8)], .blk b_8 .nw 118 [(1, [(vi kd)]), (32, key.map vu8), (1, [(vi dm)]), (1, [(.string (bstr data))])], .blk b_4 .nw 23 [(32, (zB 32).map vu8)], .blk b_1 .nw 56 [(1, [(vi kd)]), (32, key.map vu8), (1, [(vi dm)]), (1, [(.slice a_24 qn cap_25)])], .blk ob .nw 90 [(1, [(.bool false)]), (32, ms.map vu8), (1, [(.slice da dn dc)]), (1, [(vn u)]), (1, [(.map (some mp))]), (1, [(.slice la lg.length lc)])], .row la lg.length lc 64 67 lx, .pin (sblks lx) (fun w => Lgs w lx lg), .view da (df.map vu8), .view qa (data.map vu8), .blk bo .nw 54 [(1, [(.slice oa 128 128)])], .blk bn .nw 3 [(1, [(vi 128)])], .row oa 128 128 5 1 (l.map vu8)]) (.q 0 (.q 1 (.q 2 (.q 3 (.q 4 (.q 5 (.q 6 (.q 7 (.q 8 (.q 9 (.s 10 .nil))))))))))) (by kernel_rfl) (by kernel_rfl) rfl (by kernel_rfl) (fun w_32 hc_34 => (SL.cons ((h_31.same hc_34).ok _ M0) (SL.cons ((h_31.same hc_34).ok _ M1) (SL.cons ((h_31.same hc_34).ok _ M2) (SL.cons ((h_31.same hc_34).ok _ M3) (SL.cons ((h_31.same hc_34).ok _ M4) (SL.cons ((h_31.same hc_34).ok _ M5) (SL.cons ((h_31.same hc_34).ok _ M6) (SL.cons ((h_31.same hc_34).ok _ M8) (SL.cons ((h_31.same hc_34).ok _ M9) (SL.cons ((h_31.same hc_34).ok _ M10) (SL.cons ((h_31.same hc_34).ok _ M11) (SL.cons ((h_31.same hc_34).ok _ M12) (SL.cons ((h_31.same hc_34).ok _ M13) (SL.nil _ _))))))))))))))) (fun w_32 hc_34 => ?_)
 have h_33 := h_31.same hc_34
 refine qT rfl rfl (fun wq hS => R.move (v := (pO ob 0)) rfl) ?_
 refine qT rfl rfl (fun wq hS => R.nilCheck rfl) ?_
 refine qT rfl rfl (fun wq hS => R.fieldAddr (off' := 35) rfl underlying90 rfl sizeOf88 rfl rfl) ?_
 refine qT rfl rfl (fun wq hS => R.load1 rfl isAgg88 (hS _ M5) (Sg.t rfl (Sg.t rfl (Sg.t rfl (Sg.t rfl Sg.h))))) ?_
 refine qT rfl rfl (fun wq hS => R.loadA [] [(1, [(vi kd)]), (32, key.map vu8), (1, [(vi dm)]), (1, [(.string (bstr data))])] [] rfl isAgg118 sizeOf118 (hS _ M2) rfl rfl rfl rfl) ?_
 refine qT rfl rfl (fun wq hS => R.move (v := (pO ob 0)) rfl) ?_
 refine qT rfl rfl (fun wq hS => R.nilCheck rfl) ?_
 refine qT rfl rfl (fun wq hS => R.fieldAddr (off' := 36) rfl underlying90 rfl sizeOf61 rfl rfl) ?_
 refine qT rfl rfl (fun wq hS => R.load1 rfl isAgg61 (hS _ M5) (Sg.t rfl (Sg.t rfl (Sg.t rfl (Sg.t rfl (Sg.t rfl Sg.h)))))) ?_
 refine qT rfl rfl (fun wq hS => R.lenS (a := la) (m := lg.length) rfl rfl underlying61) ?_
 refine WT.s (oN rfl ?_)
 refine WL.mapUpdate (k := (.agg ⟨flat [(1, [(vi kd)]), (32, key.map vu8), (1, [(vi dm)]), (1, [(.string (bstr data))])]⟩)) (v := (vn (lg.length))) h_33 rfl rfl rfl underlying88 Y7 (by decide) (Ck.agg kt118 (by decide) ag118 (typQ (kd, key, dm, data) hq)) (log_miss kt118 (by decide) ag118 typQ hq hlo hfd) (fun w_35 h_36 => ?_)
 refine WL.nil ?_
 refine ⟨(SL.cons (h_36.ok _ M0) (SL.cons (h_36.ok _ M1) (SL.cons (h_36.ok _ M2) (SL.cons (h_36.ok _ M3) (SL.cons (h_36.ok _ M4) (SL.cons (h_36.ok _ M5) (SL.cons (h_36.ok _ M6) (SL.cons (h_36.ok _ M8) (SL.cons (h_36.ok _ M9) (SL.cons (h_36.ok _ M10) (SL.cons (h_36.ok _ M11) (SL.cons (h_36.ok _ M12) (SL.cons (h_36.ok _ M13) (SL.nil _ _)))))))))))))), ?_⟩
 refine WT.nil (thn_n (WP.seq ?_))
 refine WP.cutG (G := Nat × Option Addr × Nat) [61, 62, 63, 64, 65, 66, 67, 68, 69, 70, 71, 72] (fun (bY11Y8Y0Y0, aY11Y9Y0Y0, cY11Y9Y0Y0) => [(61, (pO ob 0)), (62, (pO ob 0)), (63, (pO ob 0)), (64, (pO ob 36)), (66, (.agg ⟨flat [(1, [(vi kd)]), (32, key.map vu8), (1, [(vi dm)]), (1, [(.slice a_24 qn cap_25)])]⟩)), (67, (.agg ⟨(l.take 32).map vu8⟩)), (68, (.agg ⟨flat [(1, [(vi kd)]), (32, key.map vu8), (1, [(vi dm)]), (1, [(.slice a_24 qn cap_25)]), (32, (l.take 32).map vu8)]⟩)), (65, (.slice la lg.length lc)), (69, (.slice (some ⟨bY11Y8Y0Y0, 0, none⟩) 1 1)), (70, (.slice aY11Y9Y0Y0 (lg.length + 1) cY11Y9Y0Y0)), (71, (pO ob 0)), (72, (pO ob 36))]) (fun (bY11Y8Y0Y0, aY11Y9Y0Y0, cY11Y9Y0Y0) w1 => HP w00 w1 (Ent.blk bY11Y8Y0Y0 .nw 64 [(67, aC (kd, key, dm, data) (.slice a_24 qn cap_25) (l.take 32))] :: Ent.row a_24 qn cap_25 5 1 (data.map vu8) :: Ent.blk b_16 .nw 23 [(32, (l.take 32).map vu8)] :: Ent.blk b_8 .nw 118 [(1, [(vi kd)]), (32, key.map vu8), (1, [(vi dm)]), (1, [(.string (bstr data))])] :: Ent.blk b_4 .nw 23 [(32, (zB 32).map vu8)] :: Ent.blk b_1 .nw 56 [(1, [(vi kd)]), (32, key.map vu8), (1, [(vi dm)]), (1, [(.slice a_24 qn cap_25)])] :: Ent.blk ob .nw 90 [(1, [(.bool false)]), (32, ms.map vu8), (1, [(.slice da dn dc)]), (1, [(vn u)]), (1, [(.map (some mp))]), (1, [(.slice aY11Y9Y0Y0 (lg.length + 1) cY11Y9Y0Y0)])] :: Ent.row aY11Y9Y0Y0 (lg.length + 1) cY11Y9Y0Y0 64 67 (lx ++ aC (kd, key, dm, data) (.slice a_24 qn cap_25) (l.take 32)) :: Ent.obj mp .nw (.map ((mArr lg).push { key := (.agg ⟨flat [(1, [(vi kd)]), (32, key.map vu8), (1, [(vi dm)]), (1, [(.string (bstr data))])]⟩), val := (vn (lg.length)), born := lg.length }) (lg.length + 1)) :: Ent.pin (sblks lx) (fun w => Lgs w lx lg) :: Ent.view da (df.map vu8) :: Ent.view qa (data.map vu8) :: Ent.blk bo .nw 54 [(1, [(.slice oa 128 128)])] :: Ent.blk bn .nw 3 [(1, [(vi 128)])] :: Ent.row oa 128 128 5 1 (l.map vu8) :: L)) ?_ ?_
 ·refine WP.drawT (SL w00.heap.size [.row a_24 qn cap_25 5 1 (data.map vu8), .blk b_16 .nw 23 [(32, (l.take 32).map vu8)], .blk b_8 .nw 118 [(1, [(vi kd)]), (32, key.map vu8), (1, [(vi dm)]), (1, [(.string (bstr data))])], .blk b_4 .nw 23 [(32, (zB 32).map vu8)], .blk b_1 .nw 56 [(1, [(vi kd)]), (32, key.map vu8), (1, [(vi dm)]), (1, [(.slice a_24 qn cap_25)])], .obj mp .nw (.map ((mArr lg).push { key := (.agg ⟨flat [(1, [(vi kd)]), (32, key.map vu8), (1, [(vi dm)]), (1, [(.string (bstr data))])]⟩), val := (vn (lg.length)), born := lg.length }) (lg.length + 1)), .pin (sblks lx) (fun w => Lgs w lx lg), .view da (df.map vu8), .view qa (data.map vu8), .blk bo .nw 54 [(1, [(.slice oa 128 128)])], .blk bn .nw 3 [(1, [(vi 128)])], .row oa 128 128 5 1 (l.map vu8)]) (.q 0 (.q 1 (.q 2 (.q 3 (.q 5 (.q 6 (.q 7 (.s2 4 8 (.s 8 (.s 9 (.q 10 (.q 11 (.s 12 .nil))))) (.s 4 (.s 9 (.q 10 (.q 11 (.s 12 .nil))))))))))))) (by kernel_rfl) (by kernel_rfl) rfl (by kernel_rfl) (fun w_37 hc_39 => (SL.cons ((h_36.same hc_39).ok _ M0) (SL.cons ((h_36.same hc_39).ok _ M1) (SL.cons ((h_36.same hc_39).ok _ M2) (SL.cons ((h_36.same hc_39).ok _ M3) (SL.cons ((h_36.same hc_39).ok _ M4) (SL.cons ((h_36.same hc_39).ok _ M7) (SL.cons ((h_36.same hc_39).ok _ M8) (SL.cons ((h_36.same hc_39).ok _ M9) (SL.cons ((h_36.same hc_39).ok _ M10) (SL.cons ((h_36.same hc_39).ok _ M11) (SL.cons ((h_36.same hc_39).ok _ M12) (SL.cons ((h_36.same hc_39).ok _ M13) (SL.nil _ _)))))))))))))) (fun w_37 hc_39 => ?_)
  have h_38 := h_36.same hc_39
  refine qT rfl rfl (fun wq hS => R.move (v := (pO ob 0)) rfl) ?_
  refine qT rfl rfl (fun wq hS => R.move (v := (pO ob 0)) rfl) ?_
  refine qT rfl rfl (fun wq hS => R.nilCheck rfl) ?_
  refine qT rfl rfl (fun wq hS => R.fieldAddr (off' := 36) rfl underlying90 rfl sizeOf61 rfl rfl) ?_
  refine qT rfl rfl (fun wq hS => R.loadA [] [(1, [(vi kd)]), (32, key.map vu8), (1, [(vi dm)]), (1, [(.slice a_24 qn cap_25)])] [] rfl isAgg56 sizeOf56 (hS _ M4) rfl rfl rfl rfl) ?_
  refine qT rfl rfl (fun wq hS => R.loadA [] [(32, (l.take 32).map vu8)] [] (cs := (l.take 32).map vu8) rfl isAgg23 sizeOf23 (hS _ M1) rfl rfl rfl rfl) ?_
  refine qT rfl rfl (fun wq hS => R.buildS (pl := [(0, 35), (35, 32)]) (zs := [(1, [(vi 0)]), (32, (zB 32).map vu8), (1, [(vi 0)]), (1, [(.slice none 0 0)]), (32, (zB 32).map vu8)]) (vs := [(0, (.agg ⟨flat [(1, [(vi kd)]), (32, key.map vu8), (1, [(vi dm)]), (1, [(.slice a_24 qn cap_25)])]⟩)), (1, (.agg ⟨(l.take 32).map vu8⟩))]) (out := [(1, [(vi kd)]), (32, key.map vu8), (1, [(vi dm)]), (1, [(.slice a_24 qn cap_25)]), (32, (l.take 32).map vu8)]) underlying64 (zv typeInfo64 rfl) rfl (sC sV (sC (s8 lr) (sC sV (sC sV (sC (s8 lr) sN))))) (pl64 _ underlying64) rfl (FillR.cons [] [(1, [(vi 0)]), (32, (zB 32).map vu8), (1, [(vi 0)]), (1, [(.slice none 0 0)])] [(1, [(vi kd)]), (32, key.map vu8), (1, [(vi dm)]), (1, [(.slice a_24 qn cap_25)])] [(32, (zB 32).map vu8)] rfl rfl rfl rfl (sC sV (sC (s8 hq.1) (sC sV (sC sV sN)))) rfl rfl rfl (FillR.cons [(1, [(vi kd)]), (32, key.map vu8), (1, [(vi dm)]), (1, [(.slice a_24 qn cap_25)])] [(32, (zB 32).map vu8)] [(32, (l.take 32).map vu8)] [] rfl rfl rfl rfl (sC (s8 (by rw [List.length_take, hl]; decide)) sN) rfl rfl rfl FillR.nil)) rfl) ?_
  refine WT.s2 ?_ ?_
  ·refine oN rfl ?_
   refine qV rfl (R.load1 rfl isAgg61 (h_38.ok _ M5) (Sg.t rfl (Sg.t rfl (Sg.t rfl (Sg.t rfl (Sg.t rfl Sg.h)))))) ?_
   refine WL.nil ?_
   refine ⟨(SL.cons (h_38.ok _ M0) (SL.cons (h_38.ok _ M1) (SL.cons (h_38.ok _ M2) (SL.cons (h_38.ok _ M3) (SL.cons (h_38.ok _ M4) (SL.cons (h_38.ok _ M7) (SL.cons (h_38.ok _ M8) (SL.cons (h_38.ok _ M9) (SL.cons (h_38.ok _ M10) (SL.cons (h_38.ok _ M11) (SL.cons (h_38.ok _ M12) (SL.cons (h_38.ok _ M13) (SL.nil _ _))))))))))))), ?_⟩
   refine WT.s (oN rfl ?_)
   refine WL.buildSl (vs := [(0, (.agg ⟨flat [(1, [(vi kd)]), (32, key.map vu8), (1, [(vi dm)]), (1, [(.slice a_24 qn cap_25)]), (32, (l.take 32).map vu8)]⟩))]) (cs := aC (kd, key, dm, data) (.slice a_24 qn cap_25) (l.take 32)) h_38 underlying61 sizeOf64 (zv typeInfo64 rfl) rfl rfl (fill_1 (zc := flat [(1, [vi 0]), (32, List.replicate 32 (vu8 0)), (1, [vi 0]), (1, [.slice none 0 0]), (32, List.replicate 32 (vu8 0))]) (by kernel_rfl) (sC (s := (67, flat [(1, [vi 0]), (32, List.replicate 32 (vu8 0)), (1, [vi 0]), (1, [.slice none 0 0]), (32, List.replicate 32 (vu8 0))])) ⟨by decide, SsOk.one (sC sV (sC (SOk.rep rfl) (sC sV (sC sV (sC (SOk.rep rfl) sN)))))⟩ sN) (aC_ok (q := (kd, key, dm, data)) (s := (.slice a_24 qn cap_25)) (d := l.take 32) hq.1 (by rw [List.length_take, hl]; decide) rfl)) ((aC_ok (q := (kd, key, dm, data)) (s := (.slice a_24 qn cap_25)) (d := l.take 32) hq.1 (by rw [List.length_take, hl]; decide) rfl)).head.len ((aC_ok (q := (kd, key, dm, data)) (s := (.slice a_24 qn cap_25)) (d := l.take 32) hq.1 (by rw [List.length_take, hl]; decide) rfl)).head.one rfl rfl (fun b_41 w_42 h_43 => ?_)
   refine WL.nil ?_
   refine ⟨(N1_2_3_4_5_8_9_10_11_12_13_14 h_43.ok), ?_⟩
   refine WT.s (oN rfl ?_)
   refine WL.append (km := lg.length + 1) (xs := lx) (ys := aC (kd, key, dm, data) (.slice a_24 qn cap_25) (l.take 32)) (zs := lx ++ aC (kd, key, dm, data) (.slice a_24 qn cap_25) (l.take 32)) h_43 rfl rfl el61 (viewB (h_43.ok _ M0) Sg.h) ((aC_ok (q := (kd, key, dm, data)) (s := (.slice a_24 qn cap_25)) (d := l.take 32) hq.1 hl32 rfl)).head.len ((aC_ok (q := (kd, key, dm, data)) (s := (.slice a_24 qn cap_25)) (d := l.take 32) hq.1 hl32 rfl)).head.one rfl (by omega) (by omega) (by omega) (fun _ _ => Y7) rfl (fun a_44 c_45 w_46 h_47 => ?_)
   refine WL.nil ?_
   refine ⟨(N1_2_3_4_5_8_9_10_11_12_13_14 h_47.ok), ?_⟩
   refine qT rfl rfl (fun wq hS => R.nilCheck rfl) ?_
   refine qT rfl rfl (fun wq hS => R.fieldAddr (off' := 36) rfl underlying90 rfl sizeOf61 rfl rfl) ?_
   refine WT.s (oN rfl ?_)
   refine WL.store1 h_47 rfl rfl sizeOf61 rfl Y6 (by decide) (Sg.t rfl (Sg.t rfl (Sg.t rfl (Sg.t rfl (Sg.t rfl Sg.h))))) (fun w_48 h_49 => ?_)
   refine WL.nil ?_
   refine ⟨(N1_2_3_4_5_8_9_10_11_12_13_14 h_49.ok), ?_⟩
   refine WT.nil (thn_n ?_)
   exact ⟨(b_41, a_44, c_45), (U4 rfl rfl rfl rfl (U4 rfl rfl rfl rfl (U4 rfl rfl rfl rfl (Ag.refl _ _)))), ⟨rfl, rfl, rfl, rfl, rfl, rfl, rfl, rfl, rfl, rfl, rfl, rfl, trivial⟩, h_49⟩
  ·refine oN rfl ?_
   refine WL.buildSl (vs := [(0, (.agg ⟨flat [(1, [(vi kd)]), (32, key.map vu8), (1, [(vi dm)]), (1, [(.slice a_24 qn cap_25)]), (32, (l.take 32).map vu8)]⟩))]) (cs := aC (kd, key, dm, data) (.slice a_24 qn cap_25) (l.take 32)) h_38 underlying61 sizeOf64 (zv typeInfo64 rfl) rfl rfl (fill_1 (zc := flat [(1, [vi 0]), (32, List.replicate 32 (vu8 0)), (1, [vi 0]), (1, [.slice none 0 0]), (32, List.replicate 32 (vu8 0))]) (by kernel_rfl) (sC (s := (67, flat [(1, [vi 0]), (32, List.replicate 32 (vu8 0)), (1, [vi 0]), (1, [.slice none 0 0]), (32, List.replicate 32 (vu8 0))])) ⟨by decide, SsOk.one (sC sV (sC (SOk.rep rfl) (sC sV (sC sV (sC (SOk.rep rfl) sN)))))⟩ sN) (aC_ok (q := (kd, key, dm, data)) (s := (.slice a_24 qn cap_25)) (d := l.take 32) hq.1 (by rw [List.length_take, hl]; decide) rfl)) ((aC_ok (q := (kd, key, dm, data)) (s := (.slice a_24 qn cap_25)) (d := l.take 32) hq.1 (by rw [List.length_take, hl]; decide) rfl)).head.len ((aC_ok (q := (kd, key, dm, data)) (s := (.slice a_24 qn cap_25)) (d := l.take 32) hq.1 (by rw [List.length_take, hl]; decide) rfl)).head.one rfl rfl (fun b_50 w_51 h_52 => ?_)
   refine WL.nil ?_
   refine ⟨(N1_2_3_4_5_8_9_10_11_12_13_14 h_52.ok), ?_⟩
   refine WT.s (oN rfl ?_)
   refine qV rfl (R.load1 rfl isAgg61 (h_52.ok _ M6) (Sg.t rfl (Sg.t rfl (Sg.t rfl (Sg.t rfl (Sg.t rfl Sg.h)))))) ?_
   refine WL.nil ?_
   refine ⟨(N1_2_3_4_5_8_9_10_11_12_13_14 h_52.ok), ?_⟩
   refine WT.s (oN rfl ?_)
   refine WL.append (km := lg.length + 1) (xs := lx) (ys := aC (kd, key, dm, data) (.slice a_24 qn cap_25) (l.take 32)) (zs := lx ++ aC (kd, key, dm, data) (.slice a_24 qn cap_25) (l.take 32)) h_52 rfl rfl el61 (viewB (h_52.ok _ M0) Sg.h) ((aC_ok (q := (kd, key, dm, data)) (s := (.slice a_24 qn cap_25)) (d := l.take 32) hq.1 hl32 rfl)).head.len ((aC_ok (q := (kd, key, dm, data)) (s := (.slice a_24 qn cap_25)) (d := l.take 32) hq.1 hl32 rfl)).head.one rfl (by omega) (by omega) (by omega) (fun _ _ => Y7) rfl (fun a_53 c_54 w_55 h_56 => ?_)
   refine WL.nil ?_
   refine ⟨(N1_2_3_4_5_8_9_10_11_12_13_14 h_56.ok), ?_⟩
   refine qT rfl rfl (fun wq hS => R.nilCheck rfl) ?_
   refine qT rfl rfl (fun wq hS => R.fieldAddr (off' := 36) rfl underlying90 rfl sizeOf61 rfl rfl) ?_
   refine WT.s (oN rfl ?_)
   refine WL.store1 h_56 rfl rfl sizeOf61 rfl Y6 (by decide) (Sg.t rfl (Sg.t rfl (Sg.t rfl (Sg.t rfl (Sg.t rfl Sg.h))))) (fun w_57 h_58 => ?_)
   refine WL.nil ?_
   refine ⟨(N1_2_3_4_5_8_9_10_11_12_13_14 h_58.ok), ?_⟩
   refine WT.nil (thn_n ?_)
   exact ⟨(b_50, a_53, c_54), (U4 rfl rfl rfl rfl (U4 rfl rfl rfl rfl (U4 rfl rfl rfl rfl (Ag.refl _ _)))), ⟨rfl, rfl, rfl, rfl, rfl, rfl, rfl, rfl, rfl, rfl, rfl, rfl, trivial⟩, h_58⟩
 ·rintro ⟨b_62, a_63, c_64⟩ J_59 w_60 h_61
  refine thn_n (WP.seq (WP.reg ?_))
  refine qV rfl (R.loadA [] [(32, (l.take 32).map vu8)] [] (cs := (l.take 32).map vu8) rfl isAgg23 sizeOf23 (h_61.ok _ M2) rfl rfl rfl rfl) ?_
  refine WL.storeA [] [(32, (zB 32).map vu8)] [(32, (l.take 32).map vu8)] [] h_61 rfl rfl sizeOf23 Y4 (by decide) rfl rfl rfl rfl rfl rfl (sC (s8 (by rw [List.length_take, hl]; decide)) sN) (fun w_65 h_66 => ?_)
  refine WL.nil (thn_n (WP.ret ?_))
  refine ret_of results46 (RV.cell rfl (h_66.loadA (cs := (l.take 32).map vu8) isAgg23 sizeOf23 M4 rfl rfl) RV.nil) ?_
  have h_85 := ((((((((((((((((((h_66.drop rfl).up J1).drop rfl).up J1).drop rfl).up J1).drop rfl).up J1).drop rfl).up J9).up J9).up J9).up J9).up J9).up J8).up J8).up J8).up J9).up J9
  have h_86 := HP_logPush (q := (kd, key, dm, data)) (d := l.take 32) h_85 hq hl32 hdl
  have h_100 := ((((((((((((h_86.up J1).drop rfl).up J1).drop rfl).up J8).up J8).up J8).up J8).up J8).up J5).up J8).up J8).up J8
  have hse : lg.length + 1 = (lg ++ [((kd, key, dm, data), l.take 32)]).length := snoc_len.symm
  have hme := mArr_push lg (kd, key, dm, data) (l.take 32)
  have h_87 := h_100
  rw [hse] at h_87
  exact ⟨_, _, _, l.take 32, rfl, hl32, by rw [sL_miss hfd]; show HP _ _ (_ :: _ :: .obj _ _ (.map (mArr (lg ++ [((kd, key, dm, data), l.take 32)])) _) :: _); rw [hme]; exact h_87⟩

theorem c_ansS {w00 : World} {L : List Ent} (ob mp : Nat) (ms df : List UInt8) (hms : ms.length = 32) (da : Option Addr) (dn dc u : Nat) (hdf : df.length = 32 * dn) (la : Option Addr) (lc : Nat) (lx : List Value) (lg : Lg) (hu : u ≤ 1000000) (hlg : lg.length ≤ 1000000) (kd dm : Int) (key data : List UInt8) (qa : Option Addr) (qn qc : Nat) (hq : okQ (kd, key, dm, data)) (hdl : data.length = qn) (l : List UInt8) (hl : l.length = 128) (oa : Option Addr) (bo bn : Nat) (w : World) (h_0 : HP w00 w (Ent.blk ob .nw 90 [(1, [(.bool false)]), (32, ms.map vu8), (1, [(.slice da dn dc)]), (1, [(vi ((u : Nat) : Int))]), (1, [(.map (some mp))]), (1, [(.slice la lg.length lc)])] :: Ent.row la lg.length lc 64 67 lx :: Ent.obj mp .nw (.map (mArr lg) lg.length) :: Ent.pin (sblks lx) (fun w => Lgs w lx lg) :: Ent.view da (df.map vu8) :: Ent.view qa (data.map vu8) :: Ent.blk bo .nw 54 [(1, [(.slice oa 128 128)])] :: Ent.blk bn .nw 3 [(1, [(vi 128)])] :: Ent.row oa 128 128 5 1 (l.map vu8) :: L)) :
  Cs Try.prog 46 [(.pointer (some ⟨ob, 0, none⟩)), (.agg ⟨flat [(1, [(vi kd)]), (32, key.map vu8), (1, [(vi dm)]), (1, [(.slice qa qn qc)])]⟩), (Value.func (Fn.func 60) [].toArray [(Value.pointer (some ⟨bo, 0, none⟩)), (Value.pointer (some ⟨bn, 0, none⟩))].toArray)].toArray w (fun v w1 => ∃ la' lc' lx', ∃ d : List UInt8, v = (.agg ⟨d.map vu8⟩) ∧ d.length = 32 ∧ HP w00 w1 (Ent.blk ob .nw 90 [(1, [(.bool false)]), (32, ms.map vu8), (1, [(.slice da dn dc)]), (1, [(vi ((u : Nat) : Int))]), (1, [(.map (some mp))]), (1, [(.slice la' ((sL (kd, key, dm, data) (l.take 32) lg).length) lc')])] :: Ent.row la' ((sL (kd, key, dm, data) (l.take 32) lg).length) lc' 64 67 lx' :: Ent.obj mp .nw (.map (mArr (sL (kd, key, dm, data) (l.take 32) lg)) ((sL (kd, key, dm, data) (l.take 32) lg).length)) :: Ent.pin (sblks lx') (fun w => Lgs w lx' (sL (kd, key, dm, data) (l.take 32) lg)) :: Ent.view da (df.map vu8) :: Ent.view qa (data.map vu8) :: Ent.blk bo .nw 54 [(1, [(.slice oa 128 128)])] :: Ent.blk bn .nw 3 [(1, [(vi 128)])] :: Ent.row oa 128 128 5 1 (l.map vu8) :: L)) := by
 cases hfd : fdq (kd, key, dm, data) lg 0 with
 | none => exact c_ans_missS ob mp ms df hms da dn dc u hdf la lc lx lg hu hlg kd dm key data qa qn qc hq hdl l hl oa bo bn hfd w h_0
 | some i =>
  have h32 : ok32 lg := Lgs.ok32 (h_0.ok _ M3).1
  refine (c_ans_hit false ob mp ms df hms da dn dc u hdf la lc lx lg hu hlg kd dm key data qa qn qc hq hdl _ i hfd w h_0).mono fun v w1 h => ?_
  obtain ⟨la', lc', lx', rfl, h⟩ := h
  rw [anU_hit hfd, anL_hit hfd] at h
  exact ⟨la', lc', lx', _, rfl, anD_len hdf h32, by rw [sL_hit hfd]; exact h⟩

theorem c_oStreamF {w00 : World} {L : List Ent} (ob mp : Nat) (ms df : List UInt8) (hms : ms.length = 32) (da : Option Addr) (dn dc u : Nat) (hdf : df.length = 32 * dn) (la : Option Addr) (lc : Nat) (lx : List Value) (lg : Lg) (hu : u ≤ 1000000) (hlg : lg.length ≤ 1000000) (dm : Int) (key data : List UInt8) (qa : Option Addr) (qn qc : Nat) (hk : key.length = 32) (hdm : 1 ≤ dm ∧ dm ≤ 16) (hdl : data.length = qn) (hqn : qn ≤ 100000) (w : World) (h_0 : HP w00 w (Ent.blk ob .nw 90 [(1, [(.bool false)]), (32, ms.map vu8), (1, [(.slice da dn dc)]), (1, [(vi ((u : Nat) : Int))]), (1, [(.map (some mp))]), (1, [(.slice la lg.length lc)])] :: Ent.row la lg.length lc 64 67 lx :: Ent.obj mp .nw (.map (mArr lg) lg.length) :: Ent.pin (sblks lx) (fun w => Lgs w lx lg) :: Ent.view da (df.map vu8) :: Ent.view qa (data.map vu8) :: L)) :
  Cs Try.prog 31 [(.pointer (some ⟨ob, 0, none⟩)), (.agg ⟨flat [(1, [(vi 4)]), (32, key.map vu8), (1, [(vi dm)]), (1, [(.slice qa qn qc)])]⟩), (vi 128)].toArray w (fun v w1 => ∃ a la' lc' lx', v = .tuple [.slice a 128 128, vi 0].toArray ∧ HP w00 w1 (Ent.row a 128 128 5 1 ((nL ((4 : Int), key, dm, data) 128).map vu8) :: Ent.blk ob .nw 90 [(1, [(.bool false)]), (32, ms.map vu8), (1, [(.slice da dn dc)]), (1, [(vi ((u : Nat) : Int))]), (1, [(.map (some mp))]), (1, [(.slice la' ((sL ((4 : Int), key, dm, data) ((nL ((4 : Int), key, dm, data) 128).take 32) lg).length) lc')])] :: Ent.row la' ((sL ((4 : Int), key, dm, data) ((nL ((4 : Int), key, dm, data) 128).take 32) lg).length) lc' 64 67 lx' :: Ent.obj mp .nw (.map (mArr (sL ((4 : Int), key, dm, data) ((nL ((4 : Int), key, dm, data) 128).take 32) lg)) ((sL ((4 : Int), key, dm, data) ((nL ((4 : Int), key, dm, data) 128).take 32) lg).length)) :: Ent.pin (sblks lx') (fun w => Lgs w lx' (sL ((4 : Int), key, dm, data) ((nL ((4 : Int), key, dm, data) 128).take 32) lg)) :: Ent.view da (df.map vu8) :: Ent.view qa (data.map vu8) :: L)) := by
 have hqd : data.length ≤ 1000000000 := by omega
 refine Cs.of (n := 88) (args := [(pO ob 0), (.agg ⟨flat [(1, [(vi 4)]), (32, key.map vu8), (1, [(vi dm)]), (1, [(.slice qa qn qc)])]⟩), (vi 128)]) Try.func31 rfl rfl rfl ?_
 refine WP.seq (WP.reg ?_)
 refine WL.box (segs := [(1, [(vi 4)]), (32, key.map vu8), (1, [(vi dm)]), (1, [(.slice qa qn qc)])]) h_0 rfl rfl (sC sV (sC (s8 hk) (sC sV (sC sV sN)))) rfl (fun b_1 w_2 h_3 => ?_)
 refine WL.box (segs := [(1, [(vi 128)])]) h_3 rfl rfl (sC sV sN) rfl (fun b_4 w_5 h_6 => ?_)
 refine qA (.slice none 0 0) rfl rfl (qA (vi 0) rfl rfl ?_)
 refine WL.nil (thn_n (WP.seq (WP.block (WP.seq (WP.reg ?_)))))
 refine qM (pO ob 0) rfl rfl ?_
 refine WL.call Try.call44 rfl rfl (c_othere false ob mp ms hms da dn dc u la lg.length lc _ (h_6.argR M2)) rfl ?_
 rintro _ w_8 ⟨rfl, hc_7⟩
 have h_9 := h_6.same hc_7
 refine qV rfl (R.not (b := true) rfl) (qA (.bool false) rfl rfl ?_)
 refine WL.nil (thn_n ?_)
 refine WP.condF rfl ?_
 refine WP.seq (WP.reg ?_)
 refine qV rfl (R.loadA [] [(1, [(vi 4)]), (32, key.map vu8), (1, [(vi dm)]), (1, [(.slice qa qn qc)])] [] rfl isAgg56 sizeOf56 (h_9.ok _ M1) rfl rfl rfl rfl) ?_
 refine WL.call Try.call45 rfl rfl (c_may 4 dm key qa qn qc hk (by omega) hdm (fun h => by omega) _ ) rfl ?_
 rintro _ w_11 ⟨rfl, hc_10⟩
 have h_12 := h_9.same hc_10
 refine qV rfl (R.not (b := true) rfl) (qM (.bool false) rfl rfl ?_)
 refine WL.want rfl rfl ?_
 refine qV rfl (R.fieldAddr (off' := 0) rfl underlying56 rfl sizeOf52 rfl rfl) ?_
 refine WL.want rfl rfl ?_
 refine qV rfl (R.load1 rfl isAgg52 (h_12.ok _ M1) Sg.h) ?_
 refine WL.want rfl rfl ?_
 refine qV rfl (R.bin rfl rfl (bi_neq (r := false) (by decide))) (qV rfl (R.pickF (v := (.bool false)) rfl rfl) (qM (.bool false) rfl rfl ?_))
 refine WL.want rfl rfl ?_
 refine qV rfl (R.load1 rfl isAgg3 (h_12.ok _ M0) Sg.h) ?_
 refine WL.want rfl rfl ?_
 refine qV rfl (R.bin rfl rfl (bi_lss (r := false) (by decide))) (qV rfl (R.pickF (v := (.bool false)) rfl rfl) (qM (.bool false) rfl rfl ?_))
 refine WL.want rfl rfl ?_
 refine qV rfl (R.load1 rfl isAgg3 (h_12.ok _ M0) Sg.h) ?_
 refine WL.want rfl rfl ?_
 refine qV rfl (R.bin rfl rfl (bi_gtr (r := false) (by decide))) (qV rfl (R.pickF (v := (.bool false)) rfl rfl) (qA (.bool false) rfl rfl ?_))
 refine WL.nil (thn_n ?_)
 refine WP.condF rfl ?_
 refine WP.skip (inb_n (thn_n (WP.seq (WP.seq (WP.reg ?_)))))
 refine qM (pO ob 0) rfl rfl (qV rfl (R.nilCheck rfl) (qV rfl (R.fieldAddr (off' := 0) rfl underlying90 rfl sizeOf4 rfl rfl) (qV rfl (R.load1 rfl isAgg4 (h_12.ok _ M2) Sg.h) ?_)))
 refine WL.nil (thn_n ?_)
 refine WP.condF rfl ?_
 refine WP.skip (thn_n (WP.seq (WP.reg ?_)))
 refine qV rfl (R.loadA [] [(1, [(vi 4)]), (32, key.map vu8), (1, [(vi dm)]), (1, [(.slice qa qn qc)])] [] rfl isAgg56 sizeOf56 (h_12.ok _ M1) rfl rfl rfl rfl) ?_
 refine WL.call Try.call49 rfl rfl (c_oText 4 dm key data qa qn qc ⟨hk, by show (1 : Int) ≤ 4 ∧ (4 : Int) ≤ 4; decide, hdm, hqd⟩ hdl _ (viewV (h_12.ok _ M7))) rfl ?_
 rintro _ w_15 ⟨a_13, cap_14, rfl, hc_16, ho_17⟩
 have h_18 := h_12.gotRow hc_16 ho_17
 refine WL.call Try.call48 rfl rfl (c_Sum a_13 (34 + qn) cap_14 (cT (4, key, dm, data)) (cT_len ⟨hk, by show (1 : Int) ≤ 4 ∧ (4 : Int) ≤ 4; decide, hdm, hqd⟩ hdl) (by omega) (h_18.own M0).2.2.1 _ (ownView (h_18.ok _ M0))) rfl ?_
 rintro _ w_20 ⟨rfl, hc_19⟩
 have h_21 := h_18.same hc_19
 refine WL.alloc (segs := [(32, (zB 32).map vu8)]) h_21 (zv typeInfo23 rfl) rfl (sC (s8 lr) sN) rfl (fun b_22 w_23 h_24 => ?_)
 refine WL.storeA [] [(32, (zB 32).map vu8)] [(32, (sumL (cT (4, key, dm, data))).map vu8)] [] h_24 rfl rfl sizeOf23 At.h (by decide) rfl rfl rfl rfl rfl rfl (sC (s8 (sumL_len _)) sN) (fun w_25 h_26 => ?_)
 refine WL.nil (thn_n (WP.seq ?_))
 refine WP.cutG (G := Option Addr × Nat) [13, 14, 67, 68, 69, 70, 71, 72, 73, 74, 75, 76, 77, 78, 79] (fun (aY16Y9Y0Y0, bY16Y13Y0Y0) => [(68, (pO b_1 1)), (69, (.slice (some ⟨b_1, 1, none⟩) 16 32)), (70, (pO b_1 1)), (71, (.agg ⟨((key.drop 0).take 16).map vu8⟩)), (72, (.slice (some ⟨b_22, 0, none⟩) 8 32)), (73, (pO b_22 0)), (74, (.agg ⟨(((sumL (cT (4, key, dm, data))).drop 0).take 8).map vu8⟩)), (75, (vi 128)), (76, (vi 128)), (77, (.tuple [(.slice aY16Y9Y0Y0 128 128), (vi 0)].toArray)), (67, (.tuple [(.slice aY16Y9Y0Y0 128 128), (vi 0)].toArray)), (78, (.slice aY16Y9Y0Y0 128 128)), (79, (vi 0)), (13, (pO bY16Y13Y0Y0 0)), (14, (vi 0))]) (fun (aY16Y9Y0Y0, bY16Y13Y0Y0) w1 => HP w00 w1 (Ent.blk bY16Y13Y0Y0 .nw 54 [(1, [(.slice aY16Y9Y0Y0 128 128)])] :: Ent.row aY16Y9Y0Y0 128 128 5 1 ((Go.Ax.strL ((key.drop 0).take 16) (((sumL (cT (4, key, dm, data))).drop 0).take 8) 128).map vu8) :: Ent.blk b_22 .nw 23 [(32, (sumL (cT (4, key, dm, data))).map vu8)] :: Ent.row a_13 (34 + qn) cap_14 5 1 ((cT (4, key, dm, data)).map vu8) :: Ent.blk b_4 .nw 3 [(1, [(vi 128)])] :: Ent.blk b_1 .nw 56 [(1, [(vi 4)]), (32, key.map vu8), (1, [(vi dm)]), (1, [(.slice qa qn qc)])] :: Ent.blk ob .nw 90 [(1, [(.bool false)]), (32, ms.map vu8), (1, [(.slice da dn dc)]), (1, [(vn u)]), (1, [(.map (some mp))]), (1, [(.slice la lg.length lc)])] :: Ent.row la lg.length lc 64 67 lx :: Ent.obj mp .nw (.map (mArr lg) lg.length) :: Ent.pin (sblks lx) (fun w => Lgs w lx lg) :: Ent.view da (df.map vu8) :: Ent.view qa (data.map vu8) :: L)) ?_ ?_
 ·refine WP.drawT (SL w00.heap.size [.blk b_22 .nw 23 [(32, (sumL (cT (4, key, dm, data))).map vu8)], .row a_13 (34 + qn) cap_14 5 1 ((cT (4, key, dm, data)).map vu8), .blk b_4 .nw 3 [(1, [(vi 128)])], .blk b_1 .nw 56 [(1, [(vi 4)]), (32, key.map vu8), (1, [(vi dm)]), (1, [(.slice qa qn qc)])], .blk ob .nw 90 [(1, [(.bool false)]), (32, ms.map vu8), (1, [(.slice da dn dc)]), (1, [(vn u)]), (1, [(.map (some mp))]), (1, [(.slice la lg.length lc)])], .row la lg.length lc 64 67 lx, .obj mp .nw (.map (mArr lg) lg.length), .pin (sblks lx) (fun w => Lgs w lx lg), .view da (df.map vu8), .view qa (data.map vu8)]) (.q 0 (.q 1 (.q 2 (.q 3 (.q 4 (.q 5 (.q 6 (.q 7 (.q 8 (.s2 9 13 (.q 10 (.q 11 (.q 12 (.s 13 (.s 14 (.q 15 .nil)))))) (.s 9 (.q 10 (.q 11 (.q 12 (.s 14 (.q 15 .nil)))))))))))))))) (by kernel_rfl) (by kernel_rfl) rfl (by kernel_rfl) (fun w_27 hc_29 => (SL.cons ((h_26.same hc_29).ok _ M0) (SL.cons ((h_26.same hc_29).ok _ M1) (SL.cons ((h_26.same hc_29).ok _ M2) (SL.cons ((h_26.same hc_29).ok _ M3) (SL.cons ((h_26.same hc_29).ok _ M4) (SL.cons ((h_26.same hc_29).ok _ M5) (SL.cons ((h_26.same hc_29).ok _ M6) (SL.cons ((h_26.same hc_29).ok _ M7) (SL.cons ((h_26.same hc_29).ok _ M8) (SL.cons ((h_26.same hc_29).ok _ M9) (SL.nil _ _)))))))))))) (fun w_27 hc_29 => ?_)
  have h_28 := h_26.same hc_29
  refine qT rfl rfl (fun wq hS => R.fieldAddr (off' := 1) rfl underlying56 rfl sizeOf23 rfl rfl) ?_
  refine qT rfl rfl (fun wq hS => R.sliceA (b := b_1) (off := 1) (off' := 1) (l := 0) (h := 16) rfl EvB.dflt (EvB.it (l := 16) rfl rfl) (by decide) (by decide) underlying23 sizeOf5 rfl) ?_
  refine qT rfl rfl (fun wq hS => R.s2ap (a := some ⟨b_1, 1, none⟩) (k := 16) rfl underlying110 (by decide)) ?_
  refine qT rfl rfl (fun wq hS => R.loadEA (b := b_1) (off := 1) (i := 0) (xs := ((key.drop 0).take 16).map vu8) rfl isAgg110 sizeOf110 (hS _ M3) (Sg.t rfl Sg.h) rfl (by rw [List.map_take, List.map_drop]) (len_map (subLen (K := 32) hk (by omega) : List.length ((key.drop 0).take 16) = 16))) ?_
  refine qT rfl rfl (fun wq hS => R.sliceA (b := b_22) (off := 0) (off' := 0) (l := 0) (h := 8) rfl EvB.dflt (EvB.it (l := 8) rfl rfl) (by decide) (by decide) underlying23 sizeOf5 rfl) ?_
  refine qT rfl rfl (fun wq hS => R.s2ap (a := some ⟨b_22, 0, none⟩) (k := 8) rfl underlying111 (by decide)) ?_
  refine qT rfl rfl (fun wq hS => R.loadEA (b := b_22) (off := 0) (i := 0) (xs := (((sumL (cT (4, key, dm, data))).drop 0).take 8).map vu8) rfl isAgg111 sizeOf111 (hS _ M0) Sg.h rfl (by rw [List.map_take, List.map_drop]) (len_map (subLen (K := 32) (sumL_len _) (by omega) : List.length (((sumL (cT (4, key, dm, data))).drop 0).take 8) = 8))) ?_
  refine qT rfl rfl (fun wq hS => R.load1 rfl isAgg3 (hS _ M2) Sg.h) ?_
  refine qT rfl rfl (fun wq hS => R.maxI (c := 128) rfl rfl (by decide)) ?_
  refine WT.s2 ?_ ?_
  ·refine oN rfl ?_
   refine WL.call Try.call59 rfl rfl (c_Stream_n ((key.drop 0).take 16) (((sumL (cT (4, key, dm, data))).drop 0).take 8) (subLen (K := 32) hk (by omega) : List.length ((key.drop 0).take 16) = 16) (subLen (K := 32) (sumL_len _) (by omega) : List.length (((sumL (cT (4, key, dm, data))).drop 0).take 8) = 8) 128 (by decide) _) rfl ?_
   rintro _ w_31 ⟨a_30, rfl, hc_32, ho_33⟩
   have h_34 := h_28.gotRow hc_32 ho_33
   refine WL.nil ?_
   refine ⟨(N1_2_3_4_5_6_7_8_9_10 h_34.ok), ?_⟩
   refine qT rfl rfl (fun wq hS => R.move (v := (.tuple [(.slice a_30 128 128), (vi 0)].toArray)) rfl) ?_
   refine qT rfl rfl (fun wq hS => R.extract rfl rfl) ?_
   refine qT rfl rfl (fun wq hS => R.extract rfl rfl) ?_
   refine WT.s (oN rfl ?_)
   refine WL.alloc (segs := [(1, [(.slice none 0 0)])]) h_34 (zv typeInfo54 rfl) rfl (sC sV sN) rfl (fun b_35 w_36 h_37 => ?_)
   refine WL.nil ?_
   refine ⟨(N2_3_4_5_6_7_8_9_10_11 h_37.ok), ?_⟩
   refine WT.s (oN rfl ?_)
   refine WL.store1 h_37 rfl rfl sizeOf54 rfl At.h (by decide) Sg.h (fun w_38 h_39 => ?_)
   refine WL.nil ?_
   refine ⟨(N2_3_4_5_6_7_8_9_10_11 h_39.ok), ?_⟩
   refine qT rfl rfl (fun wq hS => R.assign (v := (vi 0)) rfl) ?_
   refine WT.nil (thn_n ?_)
   exact ⟨(a_30, b_35), (Ag.upd rfl (U2 rfl rfl (U4 rfl rfl rfl rfl (U4 rfl rfl rfl rfl (U4 rfl rfl rfl rfl (Ag.refl _ _)))))), ⟨rfl, rfl, rfl, rfl, rfl, rfl, rfl, rfl, rfl, rfl, rfl, rfl, rfl, rfl, rfl, trivial⟩, h_39⟩
  ·refine oN rfl ?_
   refine WL.alloc (segs := [(1, [(.slice none 0 0)])]) h_28 (zv typeInfo54 rfl) rfl (sC sV sN) rfl (fun b_40 w_41 h_42 => ?_)
   refine WL.nil ?_
   refine ⟨(N1_2_3_4_5_6_7_8_9_10 h_42.ok), ?_⟩
   refine WT.s (oN rfl ?_)
   refine WL.call Try.call59 rfl rfl (c_Stream_n ((key.drop 0).take 16) (((sumL (cT (4, key, dm, data))).drop 0).take 8) (subLen (K := 32) hk (by omega) : List.length ((key.drop 0).take 16) = 16) (subLen (K := 32) (sumL_len _) (by omega) : List.length (((sumL (cT (4, key, dm, data))).drop 0).take 8) = 8) 128 (by decide) _) rfl ?_
   rintro _ w_44 ⟨a_43, rfl, hc_45, ho_46⟩
   have h_47 := h_42.gotRow hc_45 ho_46
   refine WL.nil ?_
   refine ⟨(N2_3_4_5_6_7_8_9_10_11 h_47.ok), ?_⟩
   refine qT rfl rfl (fun wq hS => R.move (v := (.tuple [(.slice a_43 128 128), (vi 0)].toArray)) rfl) ?_
   refine qT rfl rfl (fun wq hS => R.extract rfl rfl) ?_
   refine qT rfl rfl (fun wq hS => R.extract rfl rfl) ?_
   refine WT.s (oN rfl ?_)
   refine WL.store1 h_47 rfl rfl sizeOf54 rfl Y1 (by decide) Sg.h (fun w_48 h_49 => ?_)
   refine WL.nil ?_
   refine ⟨(N2_3_4_5_6_7_8_9_10_11 h_49.ok), ?_⟩
   refine qT rfl rfl (fun wq hS => R.assign (v := (vi 0)) rfl) ?_
   refine WT.nil (thn_n ?_)
   have h_61 := (((((((((((h_49.up J11).up J11).up J11).up J11).up J11).up J11).up J11).up J11).up J11).up J11).up J10).up J11
   exact ⟨(a_43, b_40), (Ag.upd rfl (U2 rfl rfl (U4 rfl rfl rfl rfl (U4 rfl rfl rfl rfl (U4 rfl rfl rfl rfl (Ag.refl _ _)))))), ⟨rfl, rfl, rfl, rfl, rfl, rfl, rfl, rfl, rfl, rfl, rfl, rfl, rfl, rfl, rfl, trivial⟩, h_61⟩
 ·rintro ⟨a_65, b_66⟩ J_62 w_63 h_64
  refine thn_n (WP.seq (WP.reg ?_))
  refine qM (pO ob 0) rfl rfl (qV rfl (R.loadA [] [(1, [(vi 4)]), (32, key.map vu8), (1, [(vi dm)]), (1, [(.slice qa qn qc)])] [] rfl isAgg56 sizeOf56 (h_64.ok _ M5) rfl rfl rfl rfl) (qV rfl (R.makeFuncL (fi := []) (ca := [(pO b_66 0), (pO b_4 0)]) rfl rfl) ?_))
  have h_75 := ((((((((h_64.up J1).up J4).up J2).up J11).up J11).up J11).up J11).up J11).up J11
  refine WL.call Try.call46 rfl rfl (c_ansS ob mp ms df hms da dn dc u hdf la lc lx lg hu hlg 4 dm key data qa qn qc ⟨hk, by show (1 : Int) ≤ 4 ∧ (4 : Int) ≤ 4; decide, hdm, hqd⟩ hdl (Go.Ax.strL ((key.drop 0).take 16) (((sumL (cT (4, key, dm, data))).drop 0).take 8) 128) (Go.Ax.strL_len (subLen (K := 32) (sumL_len _) (by omega) : List.length (((sumL (cT (4, key, dm, data))).drop 0).take 8) = 8) _) a_65 b_66 b_4 _ h_75) rfl ?_
  rintro _ w_81 ⟨la_76, lc_77, lx_78, d_79, rfl, hd_80, h_82⟩
  refine WL.nil (thn_n (WP.seq (WP.reg ?_)))
  refine qV rfl (R.load1 rfl isAgg54 (h_82.ok _ M6) Sg.h) (qV rfl (R.load1 rfl isAgg3 (h_82.ok _ M7) Sg.h) (qV rfl (R.load1 rfl isAgg3 (h_82.ok _ M7) Sg.h) (qV rfl (R.sliceR3 (h := 128) rfl EvB.dflt rfl rfl rfl rfl (Nat.le_trans (by decide) (h_82.own M8).2.2.1) underlying54 sizeOf5 (h_82.ok _ M8)) ?_)))
  have h_83 := HP.rowCap (k := 128) (ys := (Go.Ax.strL ((key.drop 0).take 16) (((sumL (cT (4, key, dm, data))).drop 0).take 8) 128).map vu8) h_82 Y8 (by decide) (by rw [Nat.mul_one, List.take_of_length_le (by rw [len_map (Go.Ax.strL_len (subLen (K := 32) (sumL_len _) (by omega) : List.length (((sumL (cT (4, key, dm, data))).drop 0).take 8) = 8) _)]; exact Nat.le_refl _)])
  refine qA (.slice a_65 128 128) rfl rfl (qA (vi 0) rfl rfl ?_)
  refine WL.nil (thn_n (WP.ret ?_))
  refine ret_of results31 (RV.tmp (v := (.slice a_65 128 128)) rfl (RV.tmp (v := (vi 0)) rfl RV.nil)) ?_
  have h_100 := ((((((((((((((((h_83.up J6).drop rfl).up J6).drop rfl).up J7).drop rfl).up J7).drop rfl).up J7).drop rfl).up J5).up J5).up J5).up J5).up J5).up J5).up J6
  simp only [List.drop_zero] at h_100
  exact ⟨a_65, _, _, _, rfl, h_100⟩

theorem c_gStream {w00 : World} {L : List Ent} (id : Bool) (ob mp : Nat) (ms df : List UInt8) (hms : ms.length = 32) (da : Option Addr) (dn dc u : Nat) (hdf : df.length = 32 * dn) (la : Option Addr) (lc : Nat) (lx : List Value) (lg : Lg) (hu : u ≤ 500000) (hlg : lg.length ≤ 500000) (dm : Int) (key data : List UInt8) (qa : Option Addr) (qn qc : Nat) (hk : key.length = 32) (hdm : 1 ≤ dm ∧ dm ≤ 16) (hdl : data.length = qn) (hqn : qn ≤ 100000) (w : World) (h_0 : HP w00 w (Ent.blk ob .nw 90 [(1, [(.bool id)]), (32, ms.map vu8), (1, [(.slice da dn dc)]), (1, [(vi ((u : Nat) : Int))]), (1, [(.map (some mp))]), (1, [(.slice la lg.length lc)])] :: Ent.row la lg.length lc 64 67 lx :: Ent.obj mp .nw (.map (mArr lg) lg.length) :: Ent.pin (sblks lx) (fun w => Lgs w lx lg) :: Ent.view da (df.map vu8) :: Ent.view qa (data.map vu8) :: L)) :
  Cs Try.prog 31 [(.pointer (some ⟨ob, 0, none⟩)), (.agg ⟨flat [(1, [(vi 4)]), (32, key.map vu8), (1, [(vi dm)]), (1, [(.slice qa qn qc)])]⟩), (vi 128)].toArray w (fun v w1 => ∃ a la' lc' lx', v = .tuple [.slice a 128 128, vi 0].toArray ∧ HP w00 w1 (Ent.row a 128 128 5 1 ((gSt id df dn key dm data u lg).2.2.map vu8) :: Ent.blk ob .nw 90 [(1, [(.bool id)]), (32, ms.map vu8), (1, [(.slice da dn dc)]), (1, [(vi (((gSt id df dn key dm data u lg).1 : Nat) : Int))]), (1, [(.map (some mp))]), (1, [(.slice la' ((gSt id df dn key dm data u lg).2.1.length) lc')])] :: Ent.row la' ((gSt id df dn key dm data u lg).2.1.length) lc' 64 67 lx' :: Ent.obj mp .nw (.map (mArr ((gSt id df dn key dm data u lg).2.1)) ((gSt id df dn key dm data u lg).2.1.length)) :: Ent.pin (sblks lx') (fun w => Lgs w lx' ((gSt id df dn key dm data u lg).2.1)) :: Ent.view da (df.map vu8) :: Ent.view qa (data.map vu8) :: L)) := by
 cases id with
 | false =>
  have hu2 : u ≤ 1000000 := by omega
  have hlg2 : lg.length ≤ 1000000 := by omega
  simp only [gSt_F]
  exact c_oStreamF ob mp ms df hms da dn dc u hdf la lc lx lg hu2 hlg2 dm key data qa qn qc hk hdm hdl hqn w h_0
 | true =>
  simp only [gSt_T]
  refine (c_oStream ob mp ms df hms da dn dc u hdf la lc lx lg hu hlg dm key data qa qn qc hk hdm hdl hqn 128 (by decide) w h_0).mono fun v w1 h => ?_
  obtain ⟨a, la', lc', lx', rfl, h⟩ := h
  simp only [show (128 + 31) / 32 = 4 from rfl] at h
  exact ⟨a, la', lc', lx', rfl, h⟩
end Go.Proofs.Yteclkcpdclimnaa

namespace Go.Proofs.Yteclkcpdclimnaa
open Go.Proofs.Try
open Go.Vc Go.Orc Go.Sh Go.RowKit
set_option maxRecDepth 20000
theorem ce29 : Try.prog.cellsOf 29 = 128 := by kernel_rfl
end Go.Proofs.Yteclkcpdclimnaa
