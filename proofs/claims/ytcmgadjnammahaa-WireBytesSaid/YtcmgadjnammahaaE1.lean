/- Contracts of package aes: bytes and blocks. Conditions: those that each theorem states. -/
import Derived.Test.YtcmgadjnammahaaRows
import Derived.Test.YtcmgadjnammahaaX1
namespace Go.Proofs.Ytcmgadjnammahaa
open Go.Vc Go.Ax Go.RowKit
set_option linter.unusedVariables false
set_option linter.unusedSimpArgs false
set_option maxRecDepth 20000
theorem el23 : ElT Try.prog 23 5 1 1 := ElT.mk' Try.underlying23 (i := Try.t5) rfl rfl rfl rfl rfl rfl
theorem pl109 : ∀ fs, Try.prog.underlying 109 = some (.struct fs) → Places Try.prog fs [(0, 176), (176, 256)] := by
  intro fs h w; rw [Try.underlying109] at h; cases h; simp
theorem c_double (a : UInt8) (w : World) :
    Cs Try.prog 73 [(vu8 a)].toArray w (fun v w1 => v = (vu8 (dbl a)) ∧ Chg w w1 []) := by
  refine Cs.of (n := 9) (args := [(vu8 a)]) Try.func73 rfl rfl rfl ?_
  have h_0 := HP.init w
  refine WP.seq ?_
  refine WP.reg ?_
  refine WL.q (Wn.no rfl) rfl rfl (R.assign (v := (vu8 0)) rfl) ?_
  refine WL.nil ?_
  refine thn_n ?_
  refine WP.seq ?_
  refine WP.reg ?_
  refine WL.q (Wn.no rfl) rfl rfl (R.move (v := (vu8 a)) rfl) ?_
  refine WL.q (Wn.no rfl) rfl rfl (R.binR (v := vu8 (shl8 a 1)) rfl rfl (run_shl8 _ _ _ a _ 1)) ?_
  refine WL.q (Wn.no rfl) rfl rfl (R.move (v := (vu8 a)) rfl) ?_
  refine WL.q (Wn.no rfl) rfl rfl (R.binR (v := vu8 (shr8 a 7)) rfl rfl (run_shr8 _ _ _ a _ 7)) ?_
  refine WL.q (Wn.no rfl) rfl rfl (R.bin (v := (vu8 ((shr8 a 7) * 27))) rfl rfl (b8_mul (shr8 a 7) 27)) ?_
  refine WL.q (Wn.no rfl) rfl rfl (R.bin (v := (vu8 ((shl8 a 1) ^^^ ((shr8 a 7) * 27)))) rfl rfl (b8_xor (shl8 a 1) ((shr8 a 7) * 27))) ?_
  refine WL.q (Wn.no rfl) rfl rfl (R.assign (v := (vu8 ((shl8 a 1) ^^^ ((shr8 a 7) * 27)))) rfl) ?_
  refine WL.nil ?_
  refine thn_n ?_
  refine WP.ret ?_
  refine ret_of Try.results73 (RV.tmp (v := (vu8 ((shl8 a 1) ^^^ ((shr8 a 7) * 27)))) rfl RV.nil) ?_
  exact ⟨rfl, h_0.chgS⟩

theorem c_Times (a b : UInt8) (w : World) :
    Cs Try.prog 35 [(vu8 a), (vu8 b)].toArray w (fun v w1 => v = (vu8 (tm a b)) ∧ Chg w w1 []) := by
  refine Cs.of (n := 20) (args := [(vu8 a), (vu8 b)]) Try.func35 rfl rfl rfl ?_
  have h_0 := HP.init w
  refine WP.seq ?_
  refine WP.reg ?_
  refine WL.q (Wn.no rfl) rfl rfl (R.assign (v := (vu8 0)) rfl) ?_
  refine WL.nil ?_
  refine thn_n ?_
  refine WP.seq ?_
  refine WP.reg ?_
  refine WL.q (Wn.no rfl) rfl rfl (R.assign (v := (vu8 0)) rfl) ?_
  refine WL.nil ?_
  refine thn_n ?_
  refine WP.seq ?_
  refine WP.seq ?_
  refine WP.reg ?_
  refine WL.q (Wn.no rfl) rfl rfl (R.move (v := (vi 0)) rfl) ?_
  refine WL.nil ?_
  refine thn_n ?_
  refine WP.block ?_
  refine WP.loopU (WI.round ?_)
  refine WP.seq ?_
  refine WP.reg ?_
  refine WL.q (Wn.no rfl) rfl rfl (R.bin (v := (.bool true)) rfl rfl (bi_lss (r := true) (by decide))) ?_
  refine WL.nil ?_
  refine thn_n ?_
  refine WP.seq ?_
  refine WP.condT rfl ?_
  refine WP.skip ?_
  refine thn_n ?_
  refine WP.seq ?_
  refine WP.block ?_
  refine WP.seq ?_
  refine WP.reg ?_
  refine WL.q (Wn.no rfl) rfl rfl (R.move (v := (vu8 0)) rfl) ?_
  refine WL.q (Wn.no rfl) rfl rfl (R.move (v := (vu8 b)) rfl) ?_
  refine WL.q (Wn.no rfl) rfl rfl (R.bin (v := (vu8 (b &&& 1))) rfl rfl (b8_and b 1)) ?_
  refine WL.q (Wn.no rfl) rfl rfl (R.move (v := (vu8 a)) rfl) ?_
  refine WL.q (Wn.no rfl) rfl rfl (R.bin (v := (vu8 ((b &&& 1) * a))) rfl rfl (b8_mul (b &&& 1) a)) ?_
  refine WL.q (Wn.no rfl) rfl rfl (R.bin (v := (vu8 ((0 : UInt8) ^^^ ((b &&& 1) * a)))) rfl rfl (b8_xor 0 ((b &&& 1) * a))) ?_
  refine WL.q (Wn.no rfl) rfl rfl (R.assign (v := (vu8 ((0 : UInt8) ^^^ ((b &&& 1) * a)))) rfl) ?_
  refine WL.nil ?_
  refine thn_n ?_
  refine WP.reg ?_
  refine WL.q (Wn.no rfl) rfl rfl (R.move (v := (vu8 a)) rfl) ?_
  refine WL.call (al := [(vu8 a)]) Try.call73 rfl rfl (c_double a _ ) rfl ?_
  rintro _ w_2 ⟨rfl, hc_1⟩
  have h_3 := h_0.same hc_1
  refine WL.q (Wn.no rfl) rfl rfl (R.move (v := (vu8 b)) rfl) ?_
  refine WL.q (Wn.no rfl) rfl rfl (R.binR (v := vu8 (shr8 b 1)) rfl rfl (run_shr8 _ _ _ b _ 1)) ?_
  refine WL.q (Wn.no rfl) rfl rfl (R.assign (v := (vu8 (dbl a))) rfl) ?_
  refine WL.q (Wn.no rfl) rfl rfl (R.assign (v := (vu8 (shr8 b 1))) rfl) ?_
  refine WL.nil ?_
  refine inb_n ?_
  refine thn_n ?_
  refine WP.reg ?_
  refine WL.q (Wn.no rfl) rfl rfl (R.bin (v := (vi 1)) rfl rfl (bi_add (c := 1) (by omega) (by omega))) ?_
  refine WL.q (Wn.no rfl) rfl rfl (R.move (v := (vi 1)) rfl) ?_
  refine WL.nil ?_
  refine thn_n ?_
  refine WI.round ?_
  refine WP.seq ?_
  refine WP.reg ?_
  refine WL.q (Wn.no rfl) rfl rfl (R.bin (v := (.bool true)) rfl rfl (bi_lss (r := true) (by decide))) ?_
  refine WL.nil ?_
  refine thn_n ?_
  refine WP.seq ?_
  refine WP.condT rfl ?_
  refine WP.skip ?_
  refine thn_n ?_
  refine WP.seq ?_
  refine WP.block ?_
  refine WP.seq ?_
  refine WP.reg ?_
  refine WL.q (Wn.no rfl) rfl rfl (R.move (v := (vu8 ((0 : UInt8) ^^^ ((b &&& 1) * a)))) rfl) ?_
  refine WL.q (Wn.no rfl) rfl rfl (R.move (v := (vu8 (shr8 b 1))) rfl) ?_
  refine WL.q (Wn.no rfl) rfl rfl (R.bin (v := (vu8 ((shr8 b 1) &&& 1))) rfl rfl (b8_and (shr8 b 1) 1)) ?_
  refine WL.q (Wn.no rfl) rfl rfl (R.move (v := (vu8 (dbl a))) rfl) ?_
  refine WL.q (Wn.no rfl) rfl rfl (R.bin (v := (vu8 (((shr8 b 1) &&& 1) * (dbl a)))) rfl rfl (b8_mul ((shr8 b 1) &&& 1) (dbl a))) ?_
  refine WL.q (Wn.no rfl) rfl rfl (R.bin (v := (vu8 (((0 : UInt8) ^^^ ((b &&& 1) * a)) ^^^ (((shr8 b 1) &&& 1) * (dbl a))))) rfl rfl (b8_xor ((0 : UInt8) ^^^ ((b &&& 1) * a)) (((shr8 b 1) &&& 1) * (dbl a)))) ?_
  refine WL.q (Wn.no rfl) rfl rfl (R.assign (v := (vu8 (((0 : UInt8) ^^^ ((b &&& 1) * a)) ^^^ (((shr8 b 1) &&& 1) * (dbl a))))) rfl) ?_
  refine WL.nil ?_
  refine thn_n ?_
  refine WP.reg ?_
  refine WL.q (Wn.no rfl) rfl rfl (R.move (v := (vu8 (dbl a))) rfl) ?_
  refine WL.call (al := [(vu8 (dbl a))]) Try.call73 rfl rfl (c_double (dbl a) _ ) rfl ?_
  rintro _ w_5 ⟨rfl, hc_4⟩
  have h_6 := h_3.same hc_4
  refine WL.q (Wn.no rfl) rfl rfl (R.move (v := (vu8 (shr8 b 1))) rfl) ?_
  refine WL.q (Wn.no rfl) rfl rfl (R.binR (v := vu8 (shr8 (shr8 b 1) 1)) rfl rfl (run_shr8 _ _ _ (shr8 b 1) _ 1)) ?_
  refine WL.q (Wn.no rfl) rfl rfl (R.assign (v := (vu8 (dbl (dbl a)))) rfl) ?_
  refine WL.q (Wn.no rfl) rfl rfl (R.assign (v := (vu8 (shr8 (shr8 b 1) 1))) rfl) ?_
  refine WL.nil ?_
  refine inb_n ?_
  refine thn_n ?_
  refine WP.reg ?_
  refine WL.q (Wn.no rfl) rfl rfl (R.bin (v := (vi 2)) rfl rfl (bi_add (c := 2) (by omega) (by omega))) ?_
  refine WL.q (Wn.no rfl) rfl rfl (R.move (v := (vi 2)) rfl) ?_
  refine WL.nil ?_
  refine thn_n ?_
  refine WI.round ?_
  refine WP.seq ?_
  refine WP.reg ?_
  refine WL.q (Wn.no rfl) rfl rfl (R.bin (v := (.bool true)) rfl rfl (bi_lss (r := true) (by decide))) ?_
  refine WL.nil ?_
  refine thn_n ?_
  refine WP.seq ?_
  refine WP.condT rfl ?_
  refine WP.skip ?_
  refine thn_n ?_
  refine WP.seq ?_
  refine WP.block ?_
  refine WP.seq ?_
  refine WP.reg ?_
  refine WL.q (Wn.no rfl) rfl rfl (R.move (v := (vu8 (((0 : UInt8) ^^^ ((b &&& 1) * a)) ^^^ (((shr8 b 1) &&& 1) * (dbl a))))) rfl) ?_
  refine WL.q (Wn.no rfl) rfl rfl (R.move (v := (vu8 (shr8 (shr8 b 1) 1))) rfl) ?_
  refine WL.q (Wn.no rfl) rfl rfl (R.bin (v := (vu8 ((shr8 (shr8 b 1) 1) &&& 1))) rfl rfl (b8_and (shr8 (shr8 b 1) 1) 1)) ?_
  refine WL.q (Wn.no rfl) rfl rfl (R.move (v := (vu8 (dbl (dbl a)))) rfl) ?_
  refine WL.q (Wn.no rfl) rfl rfl (R.bin (v := (vu8 (((shr8 (shr8 b 1) 1) &&& 1) * (dbl (dbl a))))) rfl rfl (b8_mul ((shr8 (shr8 b 1) 1) &&& 1) (dbl (dbl a)))) ?_
  refine WL.q (Wn.no rfl) rfl rfl (R.bin (v := (vu8 ((((0 : UInt8) ^^^ ((b &&& 1) * a)) ^^^ (((shr8 b 1) &&& 1) * (dbl a))) ^^^ (((shr8 (shr8 b 1) 1) &&& 1) * (dbl (dbl a)))))) rfl rfl (b8_xor (((0 : UInt8) ^^^ ((b &&& 1) * a)) ^^^ (((shr8 b 1) &&& 1) * (dbl a))) (((shr8 (shr8 b 1) 1) &&& 1) * (dbl (dbl a))))) ?_
  refine WL.q (Wn.no rfl) rfl rfl (R.assign (v := (vu8 ((((0 : UInt8) ^^^ ((b &&& 1) * a)) ^^^ (((shr8 b 1) &&& 1) * (dbl a))) ^^^ (((shr8 (shr8 b 1) 1) &&& 1) * (dbl (dbl a)))))) rfl) ?_
  refine WL.nil ?_
  refine thn_n ?_
  refine WP.reg ?_
  refine WL.q (Wn.no rfl) rfl rfl (R.move (v := (vu8 (dbl (dbl a)))) rfl) ?_
  refine WL.call (al := [(vu8 (dbl (dbl a)))]) Try.call73 rfl rfl (c_double (dbl (dbl a)) _ ) rfl ?_
  rintro _ w_8 ⟨rfl, hc_7⟩
  have h_9 := h_6.same hc_7
  refine WL.q (Wn.no rfl) rfl rfl (R.move (v := (vu8 (shr8 (shr8 b 1) 1))) rfl) ?_
  refine WL.q (Wn.no rfl) rfl rfl (R.binR (v := vu8 (shr8 (shr8 (shr8 b 1) 1) 1)) rfl rfl (run_shr8 _ _ _ (shr8 (shr8 b 1) 1) _ 1)) ?_
  refine WL.q (Wn.no rfl) rfl rfl (R.assign (v := (vu8 (dbl (dbl (dbl a))))) rfl) ?_
  refine WL.q (Wn.no rfl) rfl rfl (R.assign (v := (vu8 (shr8 (shr8 (shr8 b 1) 1) 1))) rfl) ?_
  refine WL.nil ?_
  refine inb_n ?_
  refine thn_n ?_
  refine WP.reg ?_
  refine WL.q (Wn.no rfl) rfl rfl (R.bin (v := (vi 3)) rfl rfl (bi_add (c := 3) (by omega) (by omega))) ?_
  refine WL.q (Wn.no rfl) rfl rfl (R.move (v := (vi 3)) rfl) ?_
  refine WL.nil ?_
  refine thn_n ?_
  refine WI.round ?_
  refine WP.seq ?_
  refine WP.reg ?_
  refine WL.q (Wn.no rfl) rfl rfl (R.bin (v := (.bool true)) rfl rfl (bi_lss (r := true) (by decide))) ?_
  refine WL.nil ?_
  refine thn_n ?_
  refine WP.seq ?_
  refine WP.condT rfl ?_
  refine WP.skip ?_
  refine thn_n ?_
  refine WP.seq ?_
  refine WP.block ?_
  refine WP.seq ?_
  refine WP.reg ?_
  refine WL.q (Wn.no rfl) rfl rfl (R.move (v := (vu8 ((((0 : UInt8) ^^^ ((b &&& 1) * a)) ^^^ (((shr8 b 1) &&& 1) * (dbl a))) ^^^ (((shr8 (shr8 b 1) 1) &&& 1) * (dbl (dbl a)))))) rfl) ?_
  refine WL.q (Wn.no rfl) rfl rfl (R.move (v := (vu8 (shr8 (shr8 (shr8 b 1) 1) 1))) rfl) ?_
  refine WL.q (Wn.no rfl) rfl rfl (R.bin (v := (vu8 ((shr8 (shr8 (shr8 b 1) 1) 1) &&& 1))) rfl rfl (b8_and (shr8 (shr8 (shr8 b 1) 1) 1) 1)) ?_
  refine WL.q (Wn.no rfl) rfl rfl (R.move (v := (vu8 (dbl (dbl (dbl a))))) rfl) ?_
  refine WL.q (Wn.no rfl) rfl rfl (R.bin (v := (vu8 (((shr8 (shr8 (shr8 b 1) 1) 1) &&& 1) * (dbl (dbl (dbl a)))))) rfl rfl (b8_mul ((shr8 (shr8 (shr8 b 1) 1) 1) &&& 1) (dbl (dbl (dbl a))))) ?_
  refine WL.q (Wn.no rfl) rfl rfl (R.bin (v := (vu8 (((((0 : UInt8) ^^^ ((b &&& 1) * a)) ^^^ (((shr8 b 1) &&& 1) * (dbl a))) ^^^ (((shr8 (shr8 b 1) 1) &&& 1) * (dbl (dbl a)))) ^^^ (((shr8 (shr8 (shr8 b 1) 1) 1) &&& 1) * (dbl (dbl (dbl a))))))) rfl rfl (b8_xor ((((0 : UInt8) ^^^ ((b &&& 1) * a)) ^^^ (((shr8 b 1) &&& 1) * (dbl a))) ^^^ (((shr8 (shr8 b 1) 1) &&& 1) * (dbl (dbl a)))) (((shr8 (shr8 (shr8 b 1) 1) 1) &&& 1) * (dbl (dbl (dbl a)))))) ?_
  refine WL.q (Wn.no rfl) rfl rfl (R.assign (v := (vu8 (((((0 : UInt8) ^^^ ((b &&& 1) * a)) ^^^ (((shr8 b 1) &&& 1) * (dbl a))) ^^^ (((shr8 (shr8 b 1) 1) &&& 1) * (dbl (dbl a)))) ^^^ (((shr8 (shr8 (shr8 b 1) 1) 1) &&& 1) * (dbl (dbl (dbl a))))))) rfl) ?_
  refine WL.nil ?_
  refine thn_n ?_
  refine WP.reg ?_
  refine WL.q (Wn.no rfl) rfl rfl (R.move (v := (vu8 (dbl (dbl (dbl a))))) rfl) ?_
  refine WL.call (al := [(vu8 (dbl (dbl (dbl a))))]) Try.call73 rfl rfl (c_double (dbl (dbl (dbl a))) _ ) rfl ?_
  rintro _ w_11 ⟨rfl, hc_10⟩
  have h_12 := h_9.same hc_10
  refine WL.q (Wn.no rfl) rfl rfl (R.move (v := (vu8 (shr8 (shr8 (shr8 b 1) 1) 1))) rfl) ?_
  refine WL.q (Wn.no rfl) rfl rfl (R.binR (v := vu8 (shr8 (shr8 (shr8 (shr8 b 1) 1) 1) 1)) rfl rfl (run_shr8 _ _ _ (shr8 (shr8 (shr8 b 1) 1) 1) _ 1)) ?_
  refine WL.q (Wn.no rfl) rfl rfl (R.assign (v := (vu8 (dbl (dbl (dbl (dbl a)))))) rfl) ?_
  refine WL.q (Wn.no rfl) rfl rfl (R.assign (v := (vu8 (shr8 (shr8 (shr8 (shr8 b 1) 1) 1) 1))) rfl) ?_
  refine WL.nil ?_
  refine inb_n ?_
  refine thn_n ?_
  refine WP.reg ?_
  refine WL.q (Wn.no rfl) rfl rfl (R.bin (v := (vi 4)) rfl rfl (bi_add (c := 4) (by omega) (by omega))) ?_
  refine WL.q (Wn.no rfl) rfl rfl (R.move (v := (vi 4)) rfl) ?_
  refine WL.nil ?_
  refine thn_n ?_
  refine WI.round ?_
  refine WP.seq ?_
  refine WP.reg ?_
  refine WL.q (Wn.no rfl) rfl rfl (R.bin (v := (.bool true)) rfl rfl (bi_lss (r := true) (by decide))) ?_
  refine WL.nil ?_
  refine thn_n ?_
  refine WP.seq ?_
  refine WP.condT rfl ?_
  refine WP.skip ?_
  refine thn_n ?_
  refine WP.seq ?_
  refine WP.block ?_
  refine WP.seq ?_
  refine WP.reg ?_
  refine WL.q (Wn.no rfl) rfl rfl (R.move (v := (vu8 (((((0 : UInt8) ^^^ ((b &&& 1) * a)) ^^^ (((shr8 b 1) &&& 1) * (dbl a))) ^^^ (((shr8 (shr8 b 1) 1) &&& 1) * (dbl (dbl a)))) ^^^ (((shr8 (shr8 (shr8 b 1) 1) 1) &&& 1) * (dbl (dbl (dbl a))))))) rfl) ?_
  refine WL.q (Wn.no rfl) rfl rfl (R.move (v := (vu8 (shr8 (shr8 (shr8 (shr8 b 1) 1) 1) 1))) rfl) ?_
  refine WL.q (Wn.no rfl) rfl rfl (R.bin (v := (vu8 ((shr8 (shr8 (shr8 (shr8 b 1) 1) 1) 1) &&& 1))) rfl rfl (b8_and (shr8 (shr8 (shr8 (shr8 b 1) 1) 1) 1) 1)) ?_
  refine WL.q (Wn.no rfl) rfl rfl (R.move (v := (vu8 (dbl (dbl (dbl (dbl a)))))) rfl) ?_
  refine WL.q (Wn.no rfl) rfl rfl (R.bin (v := (vu8 (((shr8 (shr8 (shr8 (shr8 b 1) 1) 1) 1) &&& 1) * (dbl (dbl (dbl (dbl a))))))) rfl rfl (b8_mul ((shr8 (shr8 (shr8 (shr8 b 1) 1) 1) 1) &&& 1) (dbl (dbl (dbl (dbl a)))))) ?_
  refine WL.q (Wn.no rfl) rfl rfl (R.bin (v := (vu8 ((((((0 : UInt8) ^^^ ((b &&& 1) * a)) ^^^ (((shr8 b 1) &&& 1) * (dbl a))) ^^^ (((shr8 (shr8 b 1) 1) &&& 1) * (dbl (dbl a)))) ^^^ (((shr8 (shr8 (shr8 b 1) 1) 1) &&& 1) * (dbl (dbl (dbl a))))) ^^^ (((shr8 (shr8 (shr8 (shr8 b 1) 1) 1) 1) &&& 1) * (dbl (dbl (dbl (dbl a)))))))) rfl rfl (b8_xor (((((0 : UInt8) ^^^ ((b &&& 1) * a)) ^^^ (((shr8 b 1) &&& 1) * (dbl a))) ^^^ (((shr8 (shr8 b 1) 1) &&& 1) * (dbl (dbl a)))) ^^^ (((shr8 (shr8 (shr8 b 1) 1) 1) &&& 1) * (dbl (dbl (dbl a))))) (((shr8 (shr8 (shr8 (shr8 b 1) 1) 1) 1) &&& 1) * (dbl (dbl (dbl (dbl a))))))) ?_
  refine WL.q (Wn.no rfl) rfl rfl (R.assign (v := (vu8 ((((((0 : UInt8) ^^^ ((b &&& 1) * a)) ^^^ (((shr8 b 1) &&& 1) * (dbl a))) ^^^ (((shr8 (shr8 b 1) 1) &&& 1) * (dbl (dbl a)))) ^^^ (((shr8 (shr8 (shr8 b 1) 1) 1) &&& 1) * (dbl (dbl (dbl a))))) ^^^ (((shr8 (shr8 (shr8 (shr8 b 1) 1) 1) 1) &&& 1) * (dbl (dbl (dbl (dbl a)))))))) rfl) ?_
  refine WL.nil ?_
  refine thn_n ?_
  refine WP.reg ?_
  refine WL.q (Wn.no rfl) rfl rfl (R.move (v := (vu8 (dbl (dbl (dbl (dbl a)))))) rfl) ?_
  refine WL.call (al := [(vu8 (dbl (dbl (dbl (dbl a)))))]) Try.call73 rfl rfl (c_double (dbl (dbl (dbl (dbl a)))) _ ) rfl ?_
  rintro _ w_14 ⟨rfl, hc_13⟩
  have h_15 := h_12.same hc_13
  refine WL.q (Wn.no rfl) rfl rfl (R.move (v := (vu8 (shr8 (shr8 (shr8 (shr8 b 1) 1) 1) 1))) rfl) ?_
  refine WL.q (Wn.no rfl) rfl rfl (R.binR (v := vu8 (shr8 (shr8 (shr8 (shr8 (shr8 b 1) 1) 1) 1) 1)) rfl rfl (run_shr8 _ _ _ (shr8 (shr8 (shr8 (shr8 b 1) 1) 1) 1) _ 1)) ?_
  refine WL.q (Wn.no rfl) rfl rfl (R.assign (v := (vu8 (dbl (dbl (dbl (dbl (dbl a))))))) rfl) ?_
  refine WL.q (Wn.no rfl) rfl rfl (R.assign (v := (vu8 (shr8 (shr8 (shr8 (shr8 (shr8 b 1) 1) 1) 1) 1))) rfl) ?_
  refine WL.nil ?_
  refine inb_n ?_
  refine thn_n ?_
  refine WP.reg ?_
  refine WL.q (Wn.no rfl) rfl rfl (R.bin (v := (vi 5)) rfl rfl (bi_add (c := 5) (by omega) (by omega))) ?_
  refine WL.q (Wn.no rfl) rfl rfl (R.move (v := (vi 5)) rfl) ?_
  refine WL.nil ?_
  refine thn_n ?_
  refine WI.round ?_
  refine WP.seq ?_
  refine WP.reg ?_
  refine WL.q (Wn.no rfl) rfl rfl (R.bin (v := (.bool true)) rfl rfl (bi_lss (r := true) (by decide))) ?_
  refine WL.nil ?_
  refine thn_n ?_
  refine WP.seq ?_
  refine WP.condT rfl ?_
  refine WP.skip ?_
  refine thn_n ?_
  refine WP.seq ?_
  refine WP.block ?_
  refine WP.seq ?_
  refine WP.reg ?_
  refine WL.q (Wn.no rfl) rfl rfl (R.move (v := (vu8 ((((((0 : UInt8) ^^^ ((b &&& 1) * a)) ^^^ (((shr8 b 1) &&& 1) * (dbl a))) ^^^ (((shr8 (shr8 b 1) 1) &&& 1) * (dbl (dbl a)))) ^^^ (((shr8 (shr8 (shr8 b 1) 1) 1) &&& 1) * (dbl (dbl (dbl a))))) ^^^ (((shr8 (shr8 (shr8 (shr8 b 1) 1) 1) 1) &&& 1) * (dbl (dbl (dbl (dbl a)))))))) rfl) ?_
  refine WL.q (Wn.no rfl) rfl rfl (R.move (v := (vu8 (shr8 (shr8 (shr8 (shr8 (shr8 b 1) 1) 1) 1) 1))) rfl) ?_
  refine WL.q (Wn.no rfl) rfl rfl (R.bin (v := (vu8 ((shr8 (shr8 (shr8 (shr8 (shr8 b 1) 1) 1) 1) 1) &&& 1))) rfl rfl (b8_and (shr8 (shr8 (shr8 (shr8 (shr8 b 1) 1) 1) 1) 1) 1)) ?_
  refine WL.q (Wn.no rfl) rfl rfl (R.move (v := (vu8 (dbl (dbl (dbl (dbl (dbl a))))))) rfl) ?_
  refine WL.q (Wn.no rfl) rfl rfl (R.bin (v := (vu8 (((shr8 (shr8 (shr8 (shr8 (shr8 b 1) 1) 1) 1) 1) &&& 1) * (dbl (dbl (dbl (dbl (dbl a)))))))) rfl rfl (b8_mul ((shr8 (shr8 (shr8 (shr8 (shr8 b 1) 1) 1) 1) 1) &&& 1) (dbl (dbl (dbl (dbl (dbl a))))))) ?_
  refine WL.q (Wn.no rfl) rfl rfl (R.bin (v := (vu8 (((((((0 : UInt8) ^^^ ((b &&& 1) * a)) ^^^ (((shr8 b 1) &&& 1) * (dbl a))) ^^^ (((shr8 (shr8 b 1) 1) &&& 1) * (dbl (dbl a)))) ^^^ (((shr8 (shr8 (shr8 b 1) 1) 1) &&& 1) * (dbl (dbl (dbl a))))) ^^^ (((shr8 (shr8 (shr8 (shr8 b 1) 1) 1) 1) &&& 1) * (dbl (dbl (dbl (dbl a)))))) ^^^ (((shr8 (shr8 (shr8 (shr8 (shr8 b 1) 1) 1) 1) 1) &&& 1) * (dbl (dbl (dbl (dbl (dbl a))))))))) rfl rfl (b8_xor ((((((0 : UInt8) ^^^ ((b &&& 1) * a)) ^^^ (((shr8 b 1) &&& 1) * (dbl a))) ^^^ (((shr8 (shr8 b 1) 1) &&& 1) * (dbl (dbl a)))) ^^^ (((shr8 (shr8 (shr8 b 1) 1) 1) &&& 1) * (dbl (dbl (dbl a))))) ^^^ (((shr8 (shr8 (shr8 (shr8 b 1) 1) 1) 1) &&& 1) * (dbl (dbl (dbl (dbl a)))))) (((shr8 (shr8 (shr8 (shr8 (shr8 b 1) 1) 1) 1) 1) &&& 1) * (dbl (dbl (dbl (dbl (dbl a)))))))) ?_
  refine WL.q (Wn.no rfl) rfl rfl (R.assign (v := (vu8 (((((((0 : UInt8) ^^^ ((b &&& 1) * a)) ^^^ (((shr8 b 1) &&& 1) * (dbl a))) ^^^ (((shr8 (shr8 b 1) 1) &&& 1) * (dbl (dbl a)))) ^^^ (((shr8 (shr8 (shr8 b 1) 1) 1) &&& 1) * (dbl (dbl (dbl a))))) ^^^ (((shr8 (shr8 (shr8 (shr8 b 1) 1) 1) 1) &&& 1) * (dbl (dbl (dbl (dbl a)))))) ^^^ (((shr8 (shr8 (shr8 (shr8 (shr8 b 1) 1) 1) 1) 1) &&& 1) * (dbl (dbl (dbl (dbl (dbl a))))))))) rfl) ?_
  refine WL.nil ?_
  refine thn_n ?_
  refine WP.reg ?_
  refine WL.q (Wn.no rfl) rfl rfl (R.move (v := (vu8 (dbl (dbl (dbl (dbl (dbl a))))))) rfl) ?_
  refine WL.call (al := [(vu8 (dbl (dbl (dbl (dbl (dbl a))))))]) Try.call73 rfl rfl (c_double (dbl (dbl (dbl (dbl (dbl a))))) _ ) rfl ?_
  rintro _ w_17 ⟨rfl, hc_16⟩
  have h_18 := h_15.same hc_16
  refine WL.q (Wn.no rfl) rfl rfl (R.move (v := (vu8 (shr8 (shr8 (shr8 (shr8 (shr8 b 1) 1) 1) 1) 1))) rfl) ?_
  refine WL.q (Wn.no rfl) rfl rfl (R.binR (v := vu8 (shr8 (shr8 (shr8 (shr8 (shr8 (shr8 b 1) 1) 1) 1) 1) 1)) rfl rfl (run_shr8 _ _ _ (shr8 (shr8 (shr8 (shr8 (shr8 b 1) 1) 1) 1) 1) _ 1)) ?_
  refine WL.q (Wn.no rfl) rfl rfl (R.assign (v := (vu8 (dbl (dbl (dbl (dbl (dbl (dbl a)))))))) rfl) ?_
  refine WL.q (Wn.no rfl) rfl rfl (R.assign (v := (vu8 (shr8 (shr8 (shr8 (shr8 (shr8 (shr8 b 1) 1) 1) 1) 1) 1))) rfl) ?_
  refine WL.nil ?_
  refine inb_n ?_
  refine thn_n ?_
  refine WP.reg ?_
  refine WL.q (Wn.no rfl) rfl rfl (R.bin (v := (vi 6)) rfl rfl (bi_add (c := 6) (by omega) (by omega))) ?_
  refine WL.q (Wn.no rfl) rfl rfl (R.move (v := (vi 6)) rfl) ?_
  refine WL.nil ?_
  refine thn_n ?_
  refine WI.round ?_
  refine WP.seq ?_
  refine WP.reg ?_
  refine WL.q (Wn.no rfl) rfl rfl (R.bin (v := (.bool true)) rfl rfl (bi_lss (r := true) (by decide))) ?_
  refine WL.nil ?_
  refine thn_n ?_
  refine WP.seq ?_
  refine WP.condT rfl ?_
  refine WP.skip ?_
  refine thn_n ?_
  refine WP.seq ?_
  refine WP.block ?_
  refine WP.seq ?_
  refine WP.reg ?_
  refine WL.q (Wn.no rfl) rfl rfl (R.move (v := (vu8 (((((((0 : UInt8) ^^^ ((b &&& 1) * a)) ^^^ (((shr8 b 1) &&& 1) * (dbl a))) ^^^ (((shr8 (shr8 b 1) 1) &&& 1) * (dbl (dbl a)))) ^^^ (((shr8 (shr8 (shr8 b 1) 1) 1) &&& 1) * (dbl (dbl (dbl a))))) ^^^ (((shr8 (shr8 (shr8 (shr8 b 1) 1) 1) 1) &&& 1) * (dbl (dbl (dbl (dbl a)))))) ^^^ (((shr8 (shr8 (shr8 (shr8 (shr8 b 1) 1) 1) 1) 1) &&& 1) * (dbl (dbl (dbl (dbl (dbl a))))))))) rfl) ?_
  refine WL.q (Wn.no rfl) rfl rfl (R.move (v := (vu8 (shr8 (shr8 (shr8 (shr8 (shr8 (shr8 b 1) 1) 1) 1) 1) 1))) rfl) ?_
  refine WL.q (Wn.no rfl) rfl rfl (R.bin (v := (vu8 ((shr8 (shr8 (shr8 (shr8 (shr8 (shr8 b 1) 1) 1) 1) 1) 1) &&& 1))) rfl rfl (b8_and (shr8 (shr8 (shr8 (shr8 (shr8 (shr8 b 1) 1) 1) 1) 1) 1) 1)) ?_
  refine WL.q (Wn.no rfl) rfl rfl (R.move (v := (vu8 (dbl (dbl (dbl (dbl (dbl (dbl a)))))))) rfl) ?_
  refine WL.q (Wn.no rfl) rfl rfl (R.bin (v := (vu8 (((shr8 (shr8 (shr8 (shr8 (shr8 (shr8 b 1) 1) 1) 1) 1) 1) &&& 1) * (dbl (dbl (dbl (dbl (dbl (dbl a))))))))) rfl rfl (b8_mul ((shr8 (shr8 (shr8 (shr8 (shr8 (shr8 b 1) 1) 1) 1) 1) 1) &&& 1) (dbl (dbl (dbl (dbl (dbl (dbl a)))))))) ?_
  refine WL.q (Wn.no rfl) rfl rfl (R.bin (v := (vu8 ((((((((0 : UInt8) ^^^ ((b &&& 1) * a)) ^^^ (((shr8 b 1) &&& 1) * (dbl a))) ^^^ (((shr8 (shr8 b 1) 1) &&& 1) * (dbl (dbl a)))) ^^^ (((shr8 (shr8 (shr8 b 1) 1) 1) &&& 1) * (dbl (dbl (dbl a))))) ^^^ (((shr8 (shr8 (shr8 (shr8 b 1) 1) 1) 1) &&& 1) * (dbl (dbl (dbl (dbl a)))))) ^^^ (((shr8 (shr8 (shr8 (shr8 (shr8 b 1) 1) 1) 1) 1) &&& 1) * (dbl (dbl (dbl (dbl (dbl a))))))) ^^^ (((shr8 (shr8 (shr8 (shr8 (shr8 (shr8 b 1) 1) 1) 1) 1) 1) &&& 1) * (dbl (dbl (dbl (dbl (dbl (dbl a)))))))))) rfl rfl (b8_xor (((((((0 : UInt8) ^^^ ((b &&& 1) * a)) ^^^ (((shr8 b 1) &&& 1) * (dbl a))) ^^^ (((shr8 (shr8 b 1) 1) &&& 1) * (dbl (dbl a)))) ^^^ (((shr8 (shr8 (shr8 b 1) 1) 1) &&& 1) * (dbl (dbl (dbl a))))) ^^^ (((shr8 (shr8 (shr8 (shr8 b 1) 1) 1) 1) &&& 1) * (dbl (dbl (dbl (dbl a)))))) ^^^ (((shr8 (shr8 (shr8 (shr8 (shr8 b 1) 1) 1) 1) 1) &&& 1) * (dbl (dbl (dbl (dbl (dbl a))))))) (((shr8 (shr8 (shr8 (shr8 (shr8 (shr8 b 1) 1) 1) 1) 1) 1) &&& 1) * (dbl (dbl (dbl (dbl (dbl (dbl a))))))))) ?_
  refine WL.q (Wn.no rfl) rfl rfl (R.assign (v := (vu8 ((((((((0 : UInt8) ^^^ ((b &&& 1) * a)) ^^^ (((shr8 b 1) &&& 1) * (dbl a))) ^^^ (((shr8 (shr8 b 1) 1) &&& 1) * (dbl (dbl a)))) ^^^ (((shr8 (shr8 (shr8 b 1) 1) 1) &&& 1) * (dbl (dbl (dbl a))))) ^^^ (((shr8 (shr8 (shr8 (shr8 b 1) 1) 1) 1) &&& 1) * (dbl (dbl (dbl (dbl a)))))) ^^^ (((shr8 (shr8 (shr8 (shr8 (shr8 b 1) 1) 1) 1) 1) &&& 1) * (dbl (dbl (dbl (dbl (dbl a))))))) ^^^ (((shr8 (shr8 (shr8 (shr8 (shr8 (shr8 b 1) 1) 1) 1) 1) 1) &&& 1) * (dbl (dbl (dbl (dbl (dbl (dbl a)))))))))) rfl) ?_
  refine WL.nil ?_
  refine thn_n ?_
  refine WP.reg ?_
  refine WL.q (Wn.no rfl) rfl rfl (R.move (v := (vu8 (dbl (dbl (dbl (dbl (dbl (dbl a)))))))) rfl) ?_
  refine WL.call (al := [(vu8 (dbl (dbl (dbl (dbl (dbl (dbl a)))))))]) Try.call73 rfl rfl (c_double (dbl (dbl (dbl (dbl (dbl (dbl a)))))) _ ) rfl ?_
  rintro _ w_20 ⟨rfl, hc_19⟩
  have h_21 := h_18.same hc_19
  refine WL.q (Wn.no rfl) rfl rfl (R.move (v := (vu8 (shr8 (shr8 (shr8 (shr8 (shr8 (shr8 b 1) 1) 1) 1) 1) 1))) rfl) ?_
  refine WL.q (Wn.no rfl) rfl rfl (R.binR (v := vu8 (shr8 (shr8 (shr8 (shr8 (shr8 (shr8 (shr8 b 1) 1) 1) 1) 1) 1) 1)) rfl rfl (run_shr8 _ _ _ (shr8 (shr8 (shr8 (shr8 (shr8 (shr8 b 1) 1) 1) 1) 1) 1) _ 1)) ?_
  refine WL.q (Wn.no rfl) rfl rfl (R.assign (v := (vu8 (dbl (dbl (dbl (dbl (dbl (dbl (dbl a))))))))) rfl) ?_
  refine WL.q (Wn.no rfl) rfl rfl (R.assign (v := (vu8 (shr8 (shr8 (shr8 (shr8 (shr8 (shr8 (shr8 b 1) 1) 1) 1) 1) 1) 1))) rfl) ?_
  refine WL.nil ?_
  refine inb_n ?_
  refine thn_n ?_
  refine WP.reg ?_
  refine WL.q (Wn.no rfl) rfl rfl (R.bin (v := (vi 7)) rfl rfl (bi_add (c := 7) (by omega) (by omega))) ?_
  refine WL.q (Wn.no rfl) rfl rfl (R.move (v := (vi 7)) rfl) ?_
  refine WL.nil ?_
  refine thn_n ?_
  refine WI.round ?_
  refine WP.seq ?_
  refine WP.reg ?_
  refine WL.q (Wn.no rfl) rfl rfl (R.bin (v := (.bool true)) rfl rfl (bi_lss (r := true) (by decide))) ?_
  refine WL.nil ?_
  refine thn_n ?_
  refine WP.seq ?_
  refine WP.condT rfl ?_
  refine WP.skip ?_
  refine thn_n ?_
  refine WP.seq ?_
  refine WP.block ?_
  refine WP.seq ?_
  refine WP.reg ?_
  refine WL.q (Wn.no rfl) rfl rfl (R.move (v := (vu8 ((((((((0 : UInt8) ^^^ ((b &&& 1) * a)) ^^^ (((shr8 b 1) &&& 1) * (dbl a))) ^^^ (((shr8 (shr8 b 1) 1) &&& 1) * (dbl (dbl a)))) ^^^ (((shr8 (shr8 (shr8 b 1) 1) 1) &&& 1) * (dbl (dbl (dbl a))))) ^^^ (((shr8 (shr8 (shr8 (shr8 b 1) 1) 1) 1) &&& 1) * (dbl (dbl (dbl (dbl a)))))) ^^^ (((shr8 (shr8 (shr8 (shr8 (shr8 b 1) 1) 1) 1) 1) &&& 1) * (dbl (dbl (dbl (dbl (dbl a))))))) ^^^ (((shr8 (shr8 (shr8 (shr8 (shr8 (shr8 b 1) 1) 1) 1) 1) 1) &&& 1) * (dbl (dbl (dbl (dbl (dbl (dbl a)))))))))) rfl) ?_
  refine WL.q (Wn.no rfl) rfl rfl (R.move (v := (vu8 (shr8 (shr8 (shr8 (shr8 (shr8 (shr8 (shr8 b 1) 1) 1) 1) 1) 1) 1))) rfl) ?_
  refine WL.q (Wn.no rfl) rfl rfl (R.bin (v := (vu8 ((shr8 (shr8 (shr8 (shr8 (shr8 (shr8 (shr8 b 1) 1) 1) 1) 1) 1) 1) &&& 1))) rfl rfl (b8_and (shr8 (shr8 (shr8 (shr8 (shr8 (shr8 (shr8 b 1) 1) 1) 1) 1) 1) 1) 1)) ?_
  refine WL.q (Wn.no rfl) rfl rfl (R.move (v := (vu8 (dbl (dbl (dbl (dbl (dbl (dbl (dbl a))))))))) rfl) ?_
  refine WL.q (Wn.no rfl) rfl rfl (R.bin (v := (vu8 (((shr8 (shr8 (shr8 (shr8 (shr8 (shr8 (shr8 b 1) 1) 1) 1) 1) 1) 1) &&& 1) * (dbl (dbl (dbl (dbl (dbl (dbl (dbl a)))))))))) rfl rfl (b8_mul ((shr8 (shr8 (shr8 (shr8 (shr8 (shr8 (shr8 b 1) 1) 1) 1) 1) 1) 1) &&& 1) (dbl (dbl (dbl (dbl (dbl (dbl (dbl a))))))))) ?_
  refine WL.q (Wn.no rfl) rfl rfl (R.bin (v := (vu8 (((((((((0 : UInt8) ^^^ ((b &&& 1) * a)) ^^^ (((shr8 b 1) &&& 1) * (dbl a))) ^^^ (((shr8 (shr8 b 1) 1) &&& 1) * (dbl (dbl a)))) ^^^ (((shr8 (shr8 (shr8 b 1) 1) 1) &&& 1) * (dbl (dbl (dbl a))))) ^^^ (((shr8 (shr8 (shr8 (shr8 b 1) 1) 1) 1) &&& 1) * (dbl (dbl (dbl (dbl a)))))) ^^^ (((shr8 (shr8 (shr8 (shr8 (shr8 b 1) 1) 1) 1) 1) &&& 1) * (dbl (dbl (dbl (dbl (dbl a))))))) ^^^ (((shr8 (shr8 (shr8 (shr8 (shr8 (shr8 b 1) 1) 1) 1) 1) 1) &&& 1) * (dbl (dbl (dbl (dbl (dbl (dbl a)))))))) ^^^ (((shr8 (shr8 (shr8 (shr8 (shr8 (shr8 (shr8 b 1) 1) 1) 1) 1) 1) 1) &&& 1) * (dbl (dbl (dbl (dbl (dbl (dbl (dbl a))))))))))) rfl rfl (b8_xor ((((((((0 : UInt8) ^^^ ((b &&& 1) * a)) ^^^ (((shr8 b 1) &&& 1) * (dbl a))) ^^^ (((shr8 (shr8 b 1) 1) &&& 1) * (dbl (dbl a)))) ^^^ (((shr8 (shr8 (shr8 b 1) 1) 1) &&& 1) * (dbl (dbl (dbl a))))) ^^^ (((shr8 (shr8 (shr8 (shr8 b 1) 1) 1) 1) &&& 1) * (dbl (dbl (dbl (dbl a)))))) ^^^ (((shr8 (shr8 (shr8 (shr8 (shr8 b 1) 1) 1) 1) 1) &&& 1) * (dbl (dbl (dbl (dbl (dbl a))))))) ^^^ (((shr8 (shr8 (shr8 (shr8 (shr8 (shr8 b 1) 1) 1) 1) 1) 1) &&& 1) * (dbl (dbl (dbl (dbl (dbl (dbl a)))))))) (((shr8 (shr8 (shr8 (shr8 (shr8 (shr8 (shr8 b 1) 1) 1) 1) 1) 1) 1) &&& 1) * (dbl (dbl (dbl (dbl (dbl (dbl (dbl a)))))))))) ?_
  refine WL.q (Wn.no rfl) rfl rfl (R.assign (v := (vu8 (((((((((0 : UInt8) ^^^ ((b &&& 1) * a)) ^^^ (((shr8 b 1) &&& 1) * (dbl a))) ^^^ (((shr8 (shr8 b 1) 1) &&& 1) * (dbl (dbl a)))) ^^^ (((shr8 (shr8 (shr8 b 1) 1) 1) &&& 1) * (dbl (dbl (dbl a))))) ^^^ (((shr8 (shr8 (shr8 (shr8 b 1) 1) 1) 1) &&& 1) * (dbl (dbl (dbl (dbl a)))))) ^^^ (((shr8 (shr8 (shr8 (shr8 (shr8 b 1) 1) 1) 1) 1) &&& 1) * (dbl (dbl (dbl (dbl (dbl a))))))) ^^^ (((shr8 (shr8 (shr8 (shr8 (shr8 (shr8 b 1) 1) 1) 1) 1) 1) &&& 1) * (dbl (dbl (dbl (dbl (dbl (dbl a)))))))) ^^^ (((shr8 (shr8 (shr8 (shr8 (shr8 (shr8 (shr8 b 1) 1) 1) 1) 1) 1) 1) &&& 1) * (dbl (dbl (dbl (dbl (dbl (dbl (dbl a))))))))))) rfl) ?_
  refine WL.nil ?_
  refine thn_n ?_
  refine WP.reg ?_
  refine WL.q (Wn.no rfl) rfl rfl (R.move (v := (vu8 (dbl (dbl (dbl (dbl (dbl (dbl (dbl a))))))))) rfl) ?_
  refine WL.call (al := [(vu8 (dbl (dbl (dbl (dbl (dbl (dbl (dbl a))))))))]) Try.call73 rfl rfl (c_double (dbl (dbl (dbl (dbl (dbl (dbl (dbl a))))))) _ ) rfl ?_
  rintro _ w_23 ⟨rfl, hc_22⟩
  have h_24 := h_21.same hc_22
  refine WL.q (Wn.no rfl) rfl rfl (R.move (v := (vu8 (shr8 (shr8 (shr8 (shr8 (shr8 (shr8 (shr8 b 1) 1) 1) 1) 1) 1) 1))) rfl) ?_
  refine WL.q (Wn.no rfl) rfl rfl (R.binR (v := vu8 (shr8 (shr8 (shr8 (shr8 (shr8 (shr8 (shr8 (shr8 b 1) 1) 1) 1) 1) 1) 1) 1)) rfl rfl (run_shr8 _ _ _ (shr8 (shr8 (shr8 (shr8 (shr8 (shr8 (shr8 b 1) 1) 1) 1) 1) 1) 1) _ 1)) ?_
  refine WL.q (Wn.no rfl) rfl rfl (R.assign (v := (vu8 (dbl (dbl (dbl (dbl (dbl (dbl (dbl (dbl a)))))))))) rfl) ?_
  refine WL.q (Wn.no rfl) rfl rfl (R.assign (v := (vu8 (shr8 (shr8 (shr8 (shr8 (shr8 (shr8 (shr8 (shr8 b 1) 1) 1) 1) 1) 1) 1) 1))) rfl) ?_
  refine WL.nil ?_
  refine inb_n ?_
  refine thn_n ?_
  refine WP.reg ?_
  refine WL.q (Wn.no rfl) rfl rfl (R.bin (v := (vi 8)) rfl rfl (bi_add (c := 8) (by omega) (by omega))) ?_
  refine WL.q (Wn.no rfl) rfl rfl (R.move (v := (vi 8)) rfl) ?_
  refine WL.nil ?_
  refine thn_n ?_
  refine WI.round ?_
  refine WP.seq ?_
  refine WP.reg ?_
  refine WL.q (Wn.no rfl) rfl rfl (R.bin (v := (.bool false)) rfl rfl (bi_lss (r := false) (by decide))) ?_
  refine WL.nil ?_
  refine thn_n ?_
  refine WP.seq ?_
  refine WP.condF rfl ?_
  refine WP.exit ?_
  refine thn_x ?_
  refine thn_x ?_
  refine inb_hit ?_
  refine thn_n ?_
  refine WP.seq ?_
  refine WP.reg ?_
  refine WL.q (Wn.no rfl) rfl rfl (R.move (v := (vu8 (((((((((0 : UInt8) ^^^ ((b &&& 1) * a)) ^^^ (((shr8 b 1) &&& 1) * (dbl a))) ^^^ (((shr8 (shr8 b 1) 1) &&& 1) * (dbl (dbl a)))) ^^^ (((shr8 (shr8 (shr8 b 1) 1) 1) &&& 1) * (dbl (dbl (dbl a))))) ^^^ (((shr8 (shr8 (shr8 (shr8 b 1) 1) 1) 1) &&& 1) * (dbl (dbl (dbl (dbl a)))))) ^^^ (((shr8 (shr8 (shr8 (shr8 (shr8 b 1) 1) 1) 1) 1) &&& 1) * (dbl (dbl (dbl (dbl (dbl a))))))) ^^^ (((shr8 (shr8 (shr8 (shr8 (shr8 (shr8 b 1) 1) 1) 1) 1) 1) &&& 1) * (dbl (dbl (dbl (dbl (dbl (dbl a)))))))) ^^^ (((shr8 (shr8 (shr8 (shr8 (shr8 (shr8 (shr8 b 1) 1) 1) 1) 1) 1) 1) &&& 1) * (dbl (dbl (dbl (dbl (dbl (dbl (dbl a))))))))))) rfl) ?_
  refine WL.q (Wn.no rfl) rfl rfl (R.assign (v := (vu8 (((((((((0 : UInt8) ^^^ ((b &&& 1) * a)) ^^^ (((shr8 b 1) &&& 1) * (dbl a))) ^^^ (((shr8 (shr8 b 1) 1) &&& 1) * (dbl (dbl a)))) ^^^ (((shr8 (shr8 (shr8 b 1) 1) 1) &&& 1) * (dbl (dbl (dbl a))))) ^^^ (((shr8 (shr8 (shr8 (shr8 b 1) 1) 1) 1) &&& 1) * (dbl (dbl (dbl (dbl a)))))) ^^^ (((shr8 (shr8 (shr8 (shr8 (shr8 b 1) 1) 1) 1) 1) &&& 1) * (dbl (dbl (dbl (dbl (dbl a))))))) ^^^ (((shr8 (shr8 (shr8 (shr8 (shr8 (shr8 b 1) 1) 1) 1) 1) 1) &&& 1) * (dbl (dbl (dbl (dbl (dbl (dbl a)))))))) ^^^ (((shr8 (shr8 (shr8 (shr8 (shr8 (shr8 (shr8 b 1) 1) 1) 1) 1) 1) 1) &&& 1) * (dbl (dbl (dbl (dbl (dbl (dbl (dbl a))))))))))) rfl) ?_
  refine WL.nil ?_
  refine thn_n ?_
  refine WP.ret ?_
  refine ret_of Try.results35 (RV.tmp (v := (vu8 (((((((((0 : UInt8) ^^^ ((b &&& 1) * a)) ^^^ (((shr8 b 1) &&& 1) * (dbl a))) ^^^ (((shr8 (shr8 b 1) 1) &&& 1) * (dbl (dbl a)))) ^^^ (((shr8 (shr8 (shr8 b 1) 1) 1) &&& 1) * (dbl (dbl (dbl a))))) ^^^ (((shr8 (shr8 (shr8 (shr8 b 1) 1) 1) 1) &&& 1) * (dbl (dbl (dbl (dbl a)))))) ^^^ (((shr8 (shr8 (shr8 (shr8 (shr8 b 1) 1) 1) 1) 1) &&& 1) * (dbl (dbl (dbl (dbl (dbl a))))))) ^^^ (((shr8 (shr8 (shr8 (shr8 (shr8 (shr8 b 1) 1) 1) 1) 1) 1) &&& 1) * (dbl (dbl (dbl (dbl (dbl (dbl a)))))))) ^^^ (((shr8 (shr8 (shr8 (shr8 (shr8 (shr8 (shr8 b 1) 1) 1) 1) 1) 1) 1) &&& 1) * (dbl (dbl (dbl (dbl (dbl (dbl (dbl a))))))))))) rfl RV.nil) ?_
  exact ⟨rfl, h_24.chgS⟩

theorem c_Inverse (a : UInt8) (w : World) :
    Cs Try.prog 37 [(vu8 a)].toArray w (fun v w1 => v = (vu8 (inv a)) ∧ Chg w w1 []) := by
  refine Cs.of (n := 14) (args := [(vu8 a)]) Try.func37 rfl rfl rfl ?_
  have h_0 := HP.init w
  refine WP.seq ?_
  refine WP.reg ?_
  refine WL.q (Wn.no rfl) rfl rfl (R.assign (v := (vu8 0)) rfl) ?_
  refine WL.nil ?_
  refine thn_n ?_
  refine WP.seq ?_
  refine WP.reg ?_
  refine WL.q (Wn.no rfl) rfl rfl (R.assign (v := (vu8 1)) rfl) ?_
  refine WL.nil ?_
  refine thn_n ?_
  refine WP.seq ?_
  refine WP.seq ?_
  refine WP.reg ?_
  refine WL.q (Wn.no rfl) rfl rfl (R.move (v := (vi 0)) rfl) ?_
  refine WL.nil ?_
  refine thn_n ?_
  refine WP.block ?_
  refine WP.loopU (WI.round ?_)
  refine WP.seq ?_
  refine WP.reg ?_
  refine WL.q (Wn.no rfl) rfl rfl (R.bin (v := (.bool true)) rfl rfl (bi_lss (r := true) (by decide))) ?_
  refine WL.nil ?_
  refine thn_n ?_
  refine WP.seq ?_
  refine WP.condT rfl ?_
  refine WP.skip ?_
  refine thn_n ?_
  refine WP.seq ?_
  refine WP.block ?_
  refine WP.seq ?_
  refine WP.reg ?_
  refine WL.q (Wn.no rfl) rfl rfl (R.move (v := (vu8 a)) rfl) ?_
  refine WL.q (Wn.no rfl) rfl rfl (R.move (v := (vu8 a)) rfl) ?_
  refine WL.call (al := [(vu8 a), (vu8 a)]) Try.call35 rfl rfl (c_Times a a _ ) rfl ?_
  rintro _ w_2 ⟨rfl, hc_1⟩
  have h_3 := h_0.same hc_1
  refine WL.q (Wn.no rfl) rfl rfl (R.assign (v := (vu8 (tm a a))) rfl) ?_
  refine WL.nil ?_
  refine thn_n ?_
  refine WP.reg ?_
  refine WL.q (Wn.no rfl) rfl rfl (R.move (v := (vu8 1)) rfl) ?_
  refine WL.q (Wn.no rfl) rfl rfl (R.move (v := (vu8 (tm a a))) rfl) ?_
  refine WL.call (al := [(vu8 1), (vu8 (tm a a))]) Try.call35 rfl rfl (c_Times (1 : UInt8) (tm a a) _ ) rfl ?_
  rintro _ w_5 ⟨rfl, hc_4⟩
  have h_6 := h_3.same hc_4
  refine WL.q (Wn.no rfl) rfl rfl (R.assign (v := (vu8 (tm (1 : UInt8) (tm a a)))) rfl) ?_
  refine WL.nil ?_
  refine inb_n ?_
  refine thn_n ?_
  refine WP.reg ?_
  refine WL.q (Wn.no rfl) rfl rfl (R.bin (v := (vi 1)) rfl rfl (bi_add (c := 1) (by omega) (by omega))) ?_
  refine WL.q (Wn.no rfl) rfl rfl (R.move (v := (vi 1)) rfl) ?_
  refine WL.nil ?_
  refine thn_n ?_
  refine WI.round ?_
  refine WP.seq ?_
  refine WP.reg ?_
  refine WL.q (Wn.no rfl) rfl rfl (R.bin (v := (.bool true)) rfl rfl (bi_lss (r := true) (by decide))) ?_
  refine WL.nil ?_
  refine thn_n ?_
  refine WP.seq ?_
  refine WP.condT rfl ?_
  refine WP.skip ?_
  refine thn_n ?_
  refine WP.seq ?_
  refine WP.block ?_
  refine WP.seq ?_
  refine WP.reg ?_
  refine WL.q (Wn.no rfl) rfl rfl (R.move (v := (vu8 (tm a a))) rfl) ?_
  refine WL.q (Wn.no rfl) rfl rfl (R.move (v := (vu8 (tm a a))) rfl) ?_
  refine WL.call (al := [(vu8 (tm a a)), (vu8 (tm a a))]) Try.call35 rfl rfl (c_Times (tm a a) (tm a a) _ ) rfl ?_
  rintro _ w_8 ⟨rfl, hc_7⟩
  have h_9 := h_6.same hc_7
  refine WL.q (Wn.no rfl) rfl rfl (R.assign (v := (vu8 (tm (tm a a) (tm a a)))) rfl) ?_
  refine WL.nil ?_
  refine thn_n ?_
  refine WP.reg ?_
  refine WL.q (Wn.no rfl) rfl rfl (R.move (v := (vu8 (tm (1 : UInt8) (tm a a)))) rfl) ?_
  refine WL.q (Wn.no rfl) rfl rfl (R.move (v := (vu8 (tm (tm a a) (tm a a)))) rfl) ?_
  refine WL.call (al := [(vu8 (tm (1 : UInt8) (tm a a))), (vu8 (tm (tm a a) (tm a a)))]) Try.call35 rfl rfl (c_Times (tm (1 : UInt8) (tm a a)) (tm (tm a a) (tm a a)) _ ) rfl ?_
  rintro _ w_11 ⟨rfl, hc_10⟩
  have h_12 := h_9.same hc_10
  refine WL.q (Wn.no rfl) rfl rfl (R.assign (v := (vu8 (tm (tm (1 : UInt8) (tm a a)) (tm (tm a a) (tm a a))))) rfl) ?_
  refine WL.nil ?_
  refine inb_n ?_
  refine thn_n ?_
  refine WP.reg ?_
  refine WL.q (Wn.no rfl) rfl rfl (R.bin (v := (vi 2)) rfl rfl (bi_add (c := 2) (by omega) (by omega))) ?_
  refine WL.q (Wn.no rfl) rfl rfl (R.move (v := (vi 2)) rfl) ?_
  refine WL.nil ?_
  refine thn_n ?_
  refine WI.round ?_
  refine WP.seq ?_
  refine WP.reg ?_
  refine WL.q (Wn.no rfl) rfl rfl (R.bin (v := (.bool true)) rfl rfl (bi_lss (r := true) (by decide))) ?_
  refine WL.nil ?_
  refine thn_n ?_
  refine WP.seq ?_
  refine WP.condT rfl ?_
  refine WP.skip ?_
  refine thn_n ?_
  refine WP.seq ?_
  refine WP.block ?_
  refine WP.seq ?_
  refine WP.reg ?_
  refine WL.q (Wn.no rfl) rfl rfl (R.move (v := (vu8 (tm (tm a a) (tm a a)))) rfl) ?_
  refine WL.q (Wn.no rfl) rfl rfl (R.move (v := (vu8 (tm (tm a a) (tm a a)))) rfl) ?_
  refine WL.call (al := [(vu8 (tm (tm a a) (tm a a))), (vu8 (tm (tm a a) (tm a a)))]) Try.call35 rfl rfl (c_Times (tm (tm a a) (tm a a)) (tm (tm a a) (tm a a)) _ ) rfl ?_
  rintro _ w_14 ⟨rfl, hc_13⟩
  have h_15 := h_12.same hc_13
  refine WL.q (Wn.no rfl) rfl rfl (R.assign (v := (vu8 (tm (tm (tm a a) (tm a a)) (tm (tm a a) (tm a a))))) rfl) ?_
  refine WL.nil ?_
  refine thn_n ?_
  refine WP.reg ?_
  refine WL.q (Wn.no rfl) rfl rfl (R.move (v := (vu8 (tm (tm (1 : UInt8) (tm a a)) (tm (tm a a) (tm a a))))) rfl) ?_
  refine WL.q (Wn.no rfl) rfl rfl (R.move (v := (vu8 (tm (tm (tm a a) (tm a a)) (tm (tm a a) (tm a a))))) rfl) ?_
  refine WL.call (al := [(vu8 (tm (tm (1 : UInt8) (tm a a)) (tm (tm a a) (tm a a)))), (vu8 (tm (tm (tm a a) (tm a a)) (tm (tm a a) (tm a a))))]) Try.call35 rfl rfl (c_Times (tm (tm (1 : UInt8) (tm a a)) (tm (tm a a) (tm a a))) (tm (tm (tm a a) (tm a a)) (tm (tm a a) (tm a a))) _ ) rfl ?_
  rintro _ w_17 ⟨rfl, hc_16⟩
  have h_18 := h_15.same hc_16
  refine WL.q (Wn.no rfl) rfl rfl (R.assign (v := (vu8 (tm (tm (tm (1 : UInt8) (tm a a)) (tm (tm a a) (tm a a))) (tm (tm (tm a a) (tm a a)) (tm (tm a a) (tm a a)))))) rfl) ?_
  refine WL.nil ?_
  refine inb_n ?_
  refine thn_n ?_
  refine WP.reg ?_
  refine WL.q (Wn.no rfl) rfl rfl (R.bin (v := (vi 3)) rfl rfl (bi_add (c := 3) (by omega) (by omega))) ?_
  refine WL.q (Wn.no rfl) rfl rfl (R.move (v := (vi 3)) rfl) ?_
  refine WL.nil ?_
  refine thn_n ?_
  refine WI.round ?_
  refine WP.seq ?_
  refine WP.reg ?_
  refine WL.q (Wn.no rfl) rfl rfl (R.bin (v := (.bool true)) rfl rfl (bi_lss (r := true) (by decide))) ?_
  refine WL.nil ?_
  refine thn_n ?_
  refine WP.seq ?_
  refine WP.condT rfl ?_
  refine WP.skip ?_
  refine thn_n ?_
  refine WP.seq ?_
  refine WP.block ?_
  refine WP.seq ?_
  refine WP.reg ?_
  refine WL.q (Wn.no rfl) rfl rfl (R.move (v := (vu8 (tm (tm (tm a a) (tm a a)) (tm (tm a a) (tm a a))))) rfl) ?_
  refine WL.q (Wn.no rfl) rfl rfl (R.move (v := (vu8 (tm (tm (tm a a) (tm a a)) (tm (tm a a) (tm a a))))) rfl) ?_
  refine WL.call (al := [(vu8 (tm (tm (tm a a) (tm a a)) (tm (tm a a) (tm a a)))), (vu8 (tm (tm (tm a a) (tm a a)) (tm (tm a a) (tm a a))))]) Try.call35 rfl rfl (c_Times (tm (tm (tm a a) (tm a a)) (tm (tm a a) (tm a a))) (tm (tm (tm a a) (tm a a)) (tm (tm a a) (tm a a))) _ ) rfl ?_
  rintro _ w_20 ⟨rfl, hc_19⟩
  have h_21 := h_18.same hc_19
  refine WL.q (Wn.no rfl) rfl rfl (R.assign (v := (vu8 (tm (tm (tm (tm a a) (tm a a)) (tm (tm a a) (tm a a))) (tm (tm (tm a a) (tm a a)) (tm (tm a a) (tm a a)))))) rfl) ?_
  refine WL.nil ?_
  refine thn_n ?_
  refine WP.reg ?_
  refine WL.q (Wn.no rfl) rfl rfl (R.move (v := (vu8 (tm (tm (tm (1 : UInt8) (tm a a)) (tm (tm a a) (tm a a))) (tm (tm (tm a a) (tm a a)) (tm (tm a a) (tm a a)))))) rfl) ?_
  refine WL.q (Wn.no rfl) rfl rfl (R.move (v := (vu8 (tm (tm (tm (tm a a) (tm a a)) (tm (tm a a) (tm a a))) (tm (tm (tm a a) (tm a a)) (tm (tm a a) (tm a a)))))) rfl) ?_
  refine WL.call (al := [(vu8 (tm (tm (tm (1 : UInt8) (tm a a)) (tm (tm a a) (tm a a))) (tm (tm (tm a a) (tm a a)) (tm (tm a a) (tm a a))))), (vu8 (tm (tm (tm (tm a a) (tm a a)) (tm (tm a a) (tm a a))) (tm (tm (tm a a) (tm a a)) (tm (tm a a) (tm a a)))))]) Try.call35 rfl rfl (c_Times (tm (tm (tm (1 : UInt8) (tm a a)) (tm (tm a a) (tm a a))) (tm (tm (tm a a) (tm a a)) (tm (tm a a) (tm a a)))) (tm (tm (tm (tm a a) (tm a a)) (tm (tm a a) (tm a a))) (tm (tm (tm a a) (tm a a)) (tm (tm a a) (tm a a)))) _ ) rfl ?_
  rintro _ w_23 ⟨rfl, hc_22⟩
  have h_24 := h_21.same hc_22
  refine WL.q (Wn.no rfl) rfl rfl (R.assign (v := (vu8 (tm (tm (tm (tm (1 : UInt8) (tm a a)) (tm (tm a a) (tm a a))) (tm (tm (tm a a) (tm a a)) (tm (tm a a) (tm a a)))) (tm (tm (tm (tm a a) (tm a a)) (tm (tm a a) (tm a a))) (tm (tm (tm a a) (tm a a)) (tm (tm a a) (tm a a))))))) rfl) ?_
  refine WL.nil ?_
  refine inb_n ?_
  refine thn_n ?_
  refine WP.reg ?_
  refine WL.q (Wn.no rfl) rfl rfl (R.bin (v := (vi 4)) rfl rfl (bi_add (c := 4) (by omega) (by omega))) ?_
  refine WL.q (Wn.no rfl) rfl rfl (R.move (v := (vi 4)) rfl) ?_
  refine WL.nil ?_
  refine thn_n ?_
  refine WI.round ?_
  refine WP.seq ?_
  refine WP.reg ?_
  refine WL.q (Wn.no rfl) rfl rfl (R.bin (v := (.bool true)) rfl rfl (bi_lss (r := true) (by decide))) ?_
  refine WL.nil ?_
  refine thn_n ?_
  refine WP.seq ?_
  refine WP.condT rfl ?_
  refine WP.skip ?_
  refine thn_n ?_
  refine WP.seq ?_
  refine WP.block ?_
  refine WP.seq ?_
  refine WP.reg ?_
  refine WL.q (Wn.no rfl) rfl rfl (R.move (v := (vu8 (tm (tm (tm (tm a a) (tm a a)) (tm (tm a a) (tm a a))) (tm (tm (tm a a) (tm a a)) (tm (tm a a) (tm a a)))))) rfl) ?_
  refine WL.q (Wn.no rfl) rfl rfl (R.move (v := (vu8 (tm (tm (tm (tm a a) (tm a a)) (tm (tm a a) (tm a a))) (tm (tm (tm a a) (tm a a)) (tm (tm a a) (tm a a)))))) rfl) ?_
  refine WL.call (al := [(vu8 (tm (tm (tm (tm a a) (tm a a)) (tm (tm a a) (tm a a))) (tm (tm (tm a a) (tm a a)) (tm (tm a a) (tm a a))))), (vu8 (tm (tm (tm (tm a a) (tm a a)) (tm (tm a a) (tm a a))) (tm (tm (tm a a) (tm a a)) (tm (tm a a) (tm a a)))))]) Try.call35 rfl rfl (c_Times (tm (tm (tm (tm a a) (tm a a)) (tm (tm a a) (tm a a))) (tm (tm (tm a a) (tm a a)) (tm (tm a a) (tm a a)))) (tm (tm (tm (tm a a) (tm a a)) (tm (tm a a) (tm a a))) (tm (tm (tm a a) (tm a a)) (tm (tm a a) (tm a a)))) _ ) rfl ?_
  rintro _ w_26 ⟨rfl, hc_25⟩
  have h_27 := h_24.same hc_25
  refine WL.q (Wn.no rfl) rfl rfl (R.assign (v := (vu8 (tm (tm (tm (tm (tm a a) (tm a a)) (tm (tm a a) (tm a a))) (tm (tm (tm a a) (tm a a)) (tm (tm a a) (tm a a)))) (tm (tm (tm (tm a a) (tm a a)) (tm (tm a a) (tm a a))) (tm (tm (tm a a) (tm a a)) (tm (tm a a) (tm a a))))))) rfl) ?_
  refine WL.nil ?_
  refine thn_n ?_
  refine WP.reg ?_
  refine WL.q (Wn.no rfl) rfl rfl (R.move (v := (vu8 (tm (tm (tm (tm (1 : UInt8) (tm a a)) (tm (tm a a) (tm a a))) (tm (tm (tm a a) (tm a a)) (tm (tm a a) (tm a a)))) (tm (tm (tm (tm a a) (tm a a)) (tm (tm a a) (tm a a))) (tm (tm (tm a a) (tm a a)) (tm (tm a a) (tm a a))))))) rfl) ?_
  refine WL.q (Wn.no rfl) rfl rfl (R.move (v := (vu8 (tm (tm (tm (tm (tm a a) (tm a a)) (tm (tm a a) (tm a a))) (tm (tm (tm a a) (tm a a)) (tm (tm a a) (tm a a)))) (tm (tm (tm (tm a a) (tm a a)) (tm (tm a a) (tm a a))) (tm (tm (tm a a) (tm a a)) (tm (tm a a) (tm a a))))))) rfl) ?_
  refine WL.call (al := [(vu8 (tm (tm (tm (tm (1 : UInt8) (tm a a)) (tm (tm a a) (tm a a))) (tm (tm (tm a a) (tm a a)) (tm (tm a a) (tm a a)))) (tm (tm (tm (tm a a) (tm a a)) (tm (tm a a) (tm a a))) (tm (tm (tm a a) (tm a a)) (tm (tm a a) (tm a a)))))), (vu8 (tm (tm (tm (tm (tm a a) (tm a a)) (tm (tm a a) (tm a a))) (tm (tm (tm a a) (tm a a)) (tm (tm a a) (tm a a)))) (tm (tm (tm (tm a a) (tm a a)) (tm (tm a a) (tm a a))) (tm (tm (tm a a) (tm a a)) (tm (tm a a) (tm a a))))))]) Try.call35 rfl rfl (c_Times (tm (tm (tm (tm (1 : UInt8) (tm a a)) (tm (tm a a) (tm a a))) (tm (tm (tm a a) (tm a a)) (tm (tm a a) (tm a a)))) (tm (tm (tm (tm a a) (tm a a)) (tm (tm a a) (tm a a))) (tm (tm (tm a a) (tm a a)) (tm (tm a a) (tm a a))))) (tm (tm (tm (tm (tm a a) (tm a a)) (tm (tm a a) (tm a a))) (tm (tm (tm a a) (tm a a)) (tm (tm a a) (tm a a)))) (tm (tm (tm (tm a a) (tm a a)) (tm (tm a a) (tm a a))) (tm (tm (tm a a) (tm a a)) (tm (tm a a) (tm a a))))) _ ) rfl ?_
  rintro _ w_29 ⟨rfl, hc_28⟩
  have h_30 := h_27.same hc_28
  refine WL.q (Wn.no rfl) rfl rfl (R.assign (v := (vu8 (tm (tm (tm (tm (tm (1 : UInt8) (tm a a)) (tm (tm a a) (tm a a))) (tm (tm (tm a a) (tm a a)) (tm (tm a a) (tm a a)))) (tm (tm (tm (tm a a) (tm a a)) (tm (tm a a) (tm a a))) (tm (tm (tm a a) (tm a a)) (tm (tm a a) (tm a a))))) (tm (tm (tm (tm (tm a a) (tm a a)) (tm (tm a a) (tm a a))) (tm (tm (tm a a) (tm a a)) (tm (tm a a) (tm a a)))) (tm (tm (tm (tm a a) (tm a a)) (tm (tm a a) (tm a a))) (tm (tm (tm a a) (tm a a)) (tm (tm a a) (tm a a)))))))) rfl) ?_
  refine WL.nil ?_
  refine inb_n ?_
  refine thn_n ?_
  refine WP.reg ?_
  refine WL.q (Wn.no rfl) rfl rfl (R.bin (v := (vi 5)) rfl rfl (bi_add (c := 5) (by omega) (by omega))) ?_
  refine WL.q (Wn.no rfl) rfl rfl (R.move (v := (vi 5)) rfl) ?_
  refine WL.nil ?_
  refine thn_n ?_
  refine WI.round ?_
  refine WP.seq ?_
  refine WP.reg ?_
  refine WL.q (Wn.no rfl) rfl rfl (R.bin (v := (.bool true)) rfl rfl (bi_lss (r := true) (by decide))) ?_
  refine WL.nil ?_
  refine thn_n ?_
  refine WP.seq ?_
  refine WP.condT rfl ?_
  refine WP.skip ?_
  refine thn_n ?_
  refine WP.seq ?_
  refine WP.block ?_
  refine WP.seq ?_
  refine WP.reg ?_
  refine WL.q (Wn.no rfl) rfl rfl (R.move (v := (vu8 (tm (tm (tm (tm (tm a a) (tm a a)) (tm (tm a a) (tm a a))) (tm (tm (tm a a) (tm a a)) (tm (tm a a) (tm a a)))) (tm (tm (tm (tm a a) (tm a a)) (tm (tm a a) (tm a a))) (tm (tm (tm a a) (tm a a)) (tm (tm a a) (tm a a))))))) rfl) ?_
  refine WL.q (Wn.no rfl) rfl rfl (R.move (v := (vu8 (tm (tm (tm (tm (tm a a) (tm a a)) (tm (tm a a) (tm a a))) (tm (tm (tm a a) (tm a a)) (tm (tm a a) (tm a a)))) (tm (tm (tm (tm a a) (tm a a)) (tm (tm a a) (tm a a))) (tm (tm (tm a a) (tm a a)) (tm (tm a a) (tm a a))))))) rfl) ?_
  refine WL.call (al := [(vu8 (tm (tm (tm (tm (tm a a) (tm a a)) (tm (tm a a) (tm a a))) (tm (tm (tm a a) (tm a a)) (tm (tm a a) (tm a a)))) (tm (tm (tm (tm a a) (tm a a)) (tm (tm a a) (tm a a))) (tm (tm (tm a a) (tm a a)) (tm (tm a a) (tm a a)))))), (vu8 (tm (tm (tm (tm (tm a a) (tm a a)) (tm (tm a a) (tm a a))) (tm (tm (tm a a) (tm a a)) (tm (tm a a) (tm a a)))) (tm (tm (tm (tm a a) (tm a a)) (tm (tm a a) (tm a a))) (tm (tm (tm a a) (tm a a)) (tm (tm a a) (tm a a))))))]) Try.call35 rfl rfl (c_Times (tm (tm (tm (tm (tm a a) (tm a a)) (tm (tm a a) (tm a a))) (tm (tm (tm a a) (tm a a)) (tm (tm a a) (tm a a)))) (tm (tm (tm (tm a a) (tm a a)) (tm (tm a a) (tm a a))) (tm (tm (tm a a) (tm a a)) (tm (tm a a) (tm a a))))) (tm (tm (tm (tm (tm a a) (tm a a)) (tm (tm a a) (tm a a))) (tm (tm (tm a a) (tm a a)) (tm (tm a a) (tm a a)))) (tm (tm (tm (tm a a) (tm a a)) (tm (tm a a) (tm a a))) (tm (tm (tm a a) (tm a a)) (tm (tm a a) (tm a a))))) _ ) rfl ?_
  rintro _ w_32 ⟨rfl, hc_31⟩
  have h_33 := h_30.same hc_31
  refine WL.q (Wn.no rfl) rfl rfl (R.assign (v := (vu8 (tm (tm (tm (tm (tm (tm a a) (tm a a)) (tm (tm a a) (tm a a))) (tm (tm (tm a a) (tm a a)) (tm (tm a a) (tm a a)))) (tm (tm (tm (tm a a) (tm a a)) (tm (tm a a) (tm a a))) (tm (tm (tm a a) (tm a a)) (tm (tm a a) (tm a a))))) (tm (tm (tm (tm (tm a a) (tm a a)) (tm (tm a a) (tm a a))) (tm (tm (tm a a) (tm a a)) (tm (tm a a) (tm a a)))) (tm (tm (tm (tm a a) (tm a a)) (tm (tm a a) (tm a a))) (tm (tm (tm a a) (tm a a)) (tm (tm a a) (tm a a)))))))) rfl) ?_
  refine WL.nil ?_
  refine thn_n ?_
  refine WP.reg ?_
  refine WL.q (Wn.no rfl) rfl rfl (R.move (v := (vu8 (tm (tm (tm (tm (tm (1 : UInt8) (tm a a)) (tm (tm a a) (tm a a))) (tm (tm (tm a a) (tm a a)) (tm (tm a a) (tm a a)))) (tm (tm (tm (tm a a) (tm a a)) (tm (tm a a) (tm a a))) (tm (tm (tm a a) (tm a a)) (tm (tm a a) (tm a a))))) (tm (tm (tm (tm (tm a a) (tm a a)) (tm (tm a a) (tm a a))) (tm (tm (tm a a) (tm a a)) (tm (tm a a) (tm a a)))) (tm (tm (tm (tm a a) (tm a a)) (tm (tm a a) (tm a a))) (tm (tm (tm a a) (tm a a)) (tm (tm a a) (tm a a)))))))) rfl) ?_
  refine WL.q (Wn.no rfl) rfl rfl (R.move (v := (vu8 (tm (tm (tm (tm (tm (tm a a) (tm a a)) (tm (tm a a) (tm a a))) (tm (tm (tm a a) (tm a a)) (tm (tm a a) (tm a a)))) (tm (tm (tm (tm a a) (tm a a)) (tm (tm a a) (tm a a))) (tm (tm (tm a a) (tm a a)) (tm (tm a a) (tm a a))))) (tm (tm (tm (tm (tm a a) (tm a a)) (tm (tm a a) (tm a a))) (tm (tm (tm a a) (tm a a)) (tm (tm a a) (tm a a)))) (tm (tm (tm (tm a a) (tm a a)) (tm (tm a a) (tm a a))) (tm (tm (tm a a) (tm a a)) (tm (tm a a) (tm a a)))))))) rfl) ?_
  refine WL.call (al := [(vu8 (tm (tm (tm (tm (tm (1 : UInt8) (tm a a)) (tm (tm a a) (tm a a))) (tm (tm (tm a a) (tm a a)) (tm (tm a a) (tm a a)))) (tm (tm (tm (tm a a) (tm a a)) (tm (tm a a) (tm a a))) (tm (tm (tm a a) (tm a a)) (tm (tm a a) (tm a a))))) (tm (tm (tm (tm (tm a a) (tm a a)) (tm (tm a a) (tm a a))) (tm (tm (tm a a) (tm a a)) (tm (tm a a) (tm a a)))) (tm (tm (tm (tm a a) (tm a a)) (tm (tm a a) (tm a a))) (tm (tm (tm a a) (tm a a)) (tm (tm a a) (tm a a))))))), (vu8 (tm (tm (tm (tm (tm (tm a a) (tm a a)) (tm (tm a a) (tm a a))) (tm (tm (tm a a) (tm a a)) (tm (tm a a) (tm a a)))) (tm (tm (tm (tm a a) (tm a a)) (tm (tm a a) (tm a a))) (tm (tm (tm a a) (tm a a)) (tm (tm a a) (tm a a))))) (tm (tm (tm (tm (tm a a) (tm a a)) (tm (tm a a) (tm a a))) (tm (tm (tm a a) (tm a a)) (tm (tm a a) (tm a a)))) (tm (tm (tm (tm a a) (tm a a)) (tm (tm a a) (tm a a))) (tm (tm (tm a a) (tm a a)) (tm (tm a a) (tm a a)))))))]) Try.call35 rfl rfl (c_Times (tm (tm (tm (tm (tm (1 : UInt8) (tm a a)) (tm (tm a a) (tm a a))) (tm (tm (tm a a) (tm a a)) (tm (tm a a) (tm a a)))) (tm (tm (tm (tm a a) (tm a a)) (tm (tm a a) (tm a a))) (tm (tm (tm a a) (tm a a)) (tm (tm a a) (tm a a))))) (tm (tm (tm (tm (tm a a) (tm a a)) (tm (tm a a) (tm a a))) (tm (tm (tm a a) (tm a a)) (tm (tm a a) (tm a a)))) (tm (tm (tm (tm a a) (tm a a)) (tm (tm a a) (tm a a))) (tm (tm (tm a a) (tm a a)) (tm (tm a a) (tm a a)))))) (tm (tm (tm (tm (tm (tm a a) (tm a a)) (tm (tm a a) (tm a a))) (tm (tm (tm a a) (tm a a)) (tm (tm a a) (tm a a)))) (tm (tm (tm (tm a a) (tm a a)) (tm (tm a a) (tm a a))) (tm (tm (tm a a) (tm a a)) (tm (tm a a) (tm a a))))) (tm (tm (tm (tm (tm a a) (tm a a)) (tm (tm a a) (tm a a))) (tm (tm (tm a a) (tm a a)) (tm (tm a a) (tm a a)))) (tm (tm (tm (tm a a) (tm a a)) (tm (tm a a) (tm a a))) (tm (tm (tm a a) (tm a a)) (tm (tm a a) (tm a a)))))) _ ) rfl ?_
  rintro _ w_35 ⟨rfl, hc_34⟩
  have h_36 := h_33.same hc_34
  refine WL.q (Wn.no rfl) rfl rfl (R.assign (v := (vu8 (tm (tm (tm (tm (tm (tm (1 : UInt8) (tm a a)) (tm (tm a a) (tm a a))) (tm (tm (tm a a) (tm a a)) (tm (tm a a) (tm a a)))) (tm (tm (tm (tm a a) (tm a a)) (tm (tm a a) (tm a a))) (tm (tm (tm a a) (tm a a)) (tm (tm a a) (tm a a))))) (tm (tm (tm (tm (tm a a) (tm a a)) (tm (tm a a) (tm a a))) (tm (tm (tm a a) (tm a a)) (tm (tm a a) (tm a a)))) (tm (tm (tm (tm a a) (tm a a)) (tm (tm a a) (tm a a))) (tm (tm (tm a a) (tm a a)) (tm (tm a a) (tm a a)))))) (tm (tm (tm (tm (tm (tm a a) (tm a a)) (tm (tm a a) (tm a a))) (tm (tm (tm a a) (tm a a)) (tm (tm a a) (tm a a)))) (tm (tm (tm (tm a a) (tm a a)) (tm (tm a a) (tm a a))) (tm (tm (tm a a) (tm a a)) (tm (tm a a) (tm a a))))) (tm (tm (tm (tm (tm a a) (tm a a)) (tm (tm a a) (tm a a))) (tm (tm (tm a a) (tm a a)) (tm (tm a a) (tm a a)))) (tm (tm (tm (tm a a) (tm a a)) (tm (tm a a) (tm a a))) (tm (tm (tm a a) (tm a a)) (tm (tm a a) (tm a a))))))))) rfl) ?_
  refine WL.nil ?_
  refine inb_n ?_
  refine thn_n ?_
  refine WP.reg ?_
  refine WL.q (Wn.no rfl) rfl rfl (R.bin (v := (vi 6)) rfl rfl (bi_add (c := 6) (by omega) (by omega))) ?_
  refine WL.q (Wn.no rfl) rfl rfl (R.move (v := (vi 6)) rfl) ?_
  refine WL.nil ?_
  refine thn_n ?_
  refine WI.round ?_
  refine WP.seq ?_
  refine WP.reg ?_
  refine WL.q (Wn.no rfl) rfl rfl (R.bin (v := (.bool true)) rfl rfl (bi_lss (r := true) (by decide))) ?_
  refine WL.nil ?_
  refine thn_n ?_
  refine WP.seq ?_
  refine WP.condT rfl ?_
  refine WP.skip ?_
  refine thn_n ?_
  refine WP.seq ?_
  refine WP.block ?_
  refine WP.seq ?_
  refine WP.reg ?_
  refine WL.q (Wn.no rfl) rfl rfl (R.move (v := (vu8 (tm (tm (tm (tm (tm (tm a a) (tm a a)) (tm (tm a a) (tm a a))) (tm (tm (tm a a) (tm a a)) (tm (tm a a) (tm a a)))) (tm (tm (tm (tm a a) (tm a a)) (tm (tm a a) (tm a a))) (tm (tm (tm a a) (tm a a)) (tm (tm a a) (tm a a))))) (tm (tm (tm (tm (tm a a) (tm a a)) (tm (tm a a) (tm a a))) (tm (tm (tm a a) (tm a a)) (tm (tm a a) (tm a a)))) (tm (tm (tm (tm a a) (tm a a)) (tm (tm a a) (tm a a))) (tm (tm (tm a a) (tm a a)) (tm (tm a a) (tm a a)))))))) rfl) ?_
  refine WL.q (Wn.no rfl) rfl rfl (R.move (v := (vu8 (tm (tm (tm (tm (tm (tm a a) (tm a a)) (tm (tm a a) (tm a a))) (tm (tm (tm a a) (tm a a)) (tm (tm a a) (tm a a)))) (tm (tm (tm (tm a a) (tm a a)) (tm (tm a a) (tm a a))) (tm (tm (tm a a) (tm a a)) (tm (tm a a) (tm a a))))) (tm (tm (tm (tm (tm a a) (tm a a)) (tm (tm a a) (tm a a))) (tm (tm (tm a a) (tm a a)) (tm (tm a a) (tm a a)))) (tm (tm (tm (tm a a) (tm a a)) (tm (tm a a) (tm a a))) (tm (tm (tm a a) (tm a a)) (tm (tm a a) (tm a a)))))))) rfl) ?_
  refine WL.call (al := [(vu8 (tm (tm (tm (tm (tm (tm a a) (tm a a)) (tm (tm a a) (tm a a))) (tm (tm (tm a a) (tm a a)) (tm (tm a a) (tm a a)))) (tm (tm (tm (tm a a) (tm a a)) (tm (tm a a) (tm a a))) (tm (tm (tm a a) (tm a a)) (tm (tm a a) (tm a a))))) (tm (tm (tm (tm (tm a a) (tm a a)) (tm (tm a a) (tm a a))) (tm (tm (tm a a) (tm a a)) (tm (tm a a) (tm a a)))) (tm (tm (tm (tm a a) (tm a a)) (tm (tm a a) (tm a a))) (tm (tm (tm a a) (tm a a)) (tm (tm a a) (tm a a))))))), (vu8 (tm (tm (tm (tm (tm (tm a a) (tm a a)) (tm (tm a a) (tm a a))) (tm (tm (tm a a) (tm a a)) (tm (tm a a) (tm a a)))) (tm (tm (tm (tm a a) (tm a a)) (tm (tm a a) (tm a a))) (tm (tm (tm a a) (tm a a)) (tm (tm a a) (tm a a))))) (tm (tm (tm (tm (tm a a) (tm a a)) (tm (tm a a) (tm a a))) (tm (tm (tm a a) (tm a a)) (tm (tm a a) (tm a a)))) (tm (tm (tm (tm a a) (tm a a)) (tm (tm a a) (tm a a))) (tm (tm (tm a a) (tm a a)) (tm (tm a a) (tm a a)))))))]) Try.call35 rfl rfl (c_Times (tm (tm (tm (tm (tm (tm a a) (tm a a)) (tm (tm a a) (tm a a))) (tm (tm (tm a a) (tm a a)) (tm (tm a a) (tm a a)))) (tm (tm (tm (tm a a) (tm a a)) (tm (tm a a) (tm a a))) (tm (tm (tm a a) (tm a a)) (tm (tm a a) (tm a a))))) (tm (tm (tm (tm (tm a a) (tm a a)) (tm (tm a a) (tm a a))) (tm (tm (tm a a) (tm a a)) (tm (tm a a) (tm a a)))) (tm (tm (tm (tm a a) (tm a a)) (tm (tm a a) (tm a a))) (tm (tm (tm a a) (tm a a)) (tm (tm a a) (tm a a)))))) (tm (tm (tm (tm (tm (tm a a) (tm a a)) (tm (tm a a) (tm a a))) (tm (tm (tm a a) (tm a a)) (tm (tm a a) (tm a a)))) (tm (tm (tm (tm a a) (tm a a)) (tm (tm a a) (tm a a))) (tm (tm (tm a a) (tm a a)) (tm (tm a a) (tm a a))))) (tm (tm (tm (tm (tm a a) (tm a a)) (tm (tm a a) (tm a a))) (tm (tm (tm a a) (tm a a)) (tm (tm a a) (tm a a)))) (tm (tm (tm (tm a a) (tm a a)) (tm (tm a a) (tm a a))) (tm (tm (tm a a) (tm a a)) (tm (tm a a) (tm a a)))))) _ ) rfl ?_
  rintro _ w_38 ⟨rfl, hc_37⟩
  have h_39 := h_36.same hc_37
  refine WL.q (Wn.no rfl) rfl rfl (R.assign (v := (vu8 (tm (tm (tm (tm (tm (tm (tm a a) (tm a a)) (tm (tm a a) (tm a a))) (tm (tm (tm a a) (tm a a)) (tm (tm a a) (tm a a)))) (tm (tm (tm (tm a a) (tm a a)) (tm (tm a a) (tm a a))) (tm (tm (tm a a) (tm a a)) (tm (tm a a) (tm a a))))) (tm (tm (tm (tm (tm a a) (tm a a)) (tm (tm a a) (tm a a))) (tm (tm (tm a a) (tm a a)) (tm (tm a a) (tm a a)))) (tm (tm (tm (tm a a) (tm a a)) (tm (tm a a) (tm a a))) (tm (tm (tm a a) (tm a a)) (tm (tm a a) (tm a a)))))) (tm (tm (tm (tm (tm (tm a a) (tm a a)) (tm (tm a a) (tm a a))) (tm (tm (tm a a) (tm a a)) (tm (tm a a) (tm a a)))) (tm (tm (tm (tm a a) (tm a a)) (tm (tm a a) (tm a a))) (tm (tm (tm a a) (tm a a)) (tm (tm a a) (tm a a))))) (tm (tm (tm (tm (tm a a) (tm a a)) (tm (tm a a) (tm a a))) (tm (tm (tm a a) (tm a a)) (tm (tm a a) (tm a a)))) (tm (tm (tm (tm a a) (tm a a)) (tm (tm a a) (tm a a))) (tm (tm (tm a a) (tm a a)) (tm (tm a a) (tm a a))))))))) rfl) ?_
  refine WL.nil ?_
  refine thn_n ?_
  refine WP.reg ?_
  refine WL.q (Wn.no rfl) rfl rfl (R.move (v := (vu8 (tm (tm (tm (tm (tm (tm (1 : UInt8) (tm a a)) (tm (tm a a) (tm a a))) (tm (tm (tm a a) (tm a a)) (tm (tm a a) (tm a a)))) (tm (tm (tm (tm a a) (tm a a)) (tm (tm a a) (tm a a))) (tm (tm (tm a a) (tm a a)) (tm (tm a a) (tm a a))))) (tm (tm (tm (tm (tm a a) (tm a a)) (tm (tm a a) (tm a a))) (tm (tm (tm a a) (tm a a)) (tm (tm a a) (tm a a)))) (tm (tm (tm (tm a a) (tm a a)) (tm (tm a a) (tm a a))) (tm (tm (tm a a) (tm a a)) (tm (tm a a) (tm a a)))))) (tm (tm (tm (tm (tm (tm a a) (tm a a)) (tm (tm a a) (tm a a))) (tm (tm (tm a a) (tm a a)) (tm (tm a a) (tm a a)))) (tm (tm (tm (tm a a) (tm a a)) (tm (tm a a) (tm a a))) (tm (tm (tm a a) (tm a a)) (tm (tm a a) (tm a a))))) (tm (tm (tm (tm (tm a a) (tm a a)) (tm (tm a a) (tm a a))) (tm (tm (tm a a) (tm a a)) (tm (tm a a) (tm a a)))) (tm (tm (tm (tm a a) (tm a a)) (tm (tm a a) (tm a a))) (tm (tm (tm a a) (tm a a)) (tm (tm a a) (tm a a))))))))) rfl) ?_
  refine WL.q (Wn.no rfl) rfl rfl (R.move (v := (vu8 (tm (tm (tm (tm (tm (tm (tm a a) (tm a a)) (tm (tm a a) (tm a a))) (tm (tm (tm a a) (tm a a)) (tm (tm a a) (tm a a)))) (tm (tm (tm (tm a a) (tm a a)) (tm (tm a a) (tm a a))) (tm (tm (tm a a) (tm a a)) (tm (tm a a) (tm a a))))) (tm (tm (tm (tm (tm a a) (tm a a)) (tm (tm a a) (tm a a))) (tm (tm (tm a a) (tm a a)) (tm (tm a a) (tm a a)))) (tm (tm (tm (tm a a) (tm a a)) (tm (tm a a) (tm a a))) (tm (tm (tm a a) (tm a a)) (tm (tm a a) (tm a a)))))) (tm (tm (tm (tm (tm (tm a a) (tm a a)) (tm (tm a a) (tm a a))) (tm (tm (tm a a) (tm a a)) (tm (tm a a) (tm a a)))) (tm (tm (tm (tm a a) (tm a a)) (tm (tm a a) (tm a a))) (tm (tm (tm a a) (tm a a)) (tm (tm a a) (tm a a))))) (tm (tm (tm (tm (tm a a) (tm a a)) (tm (tm a a) (tm a a))) (tm (tm (tm a a) (tm a a)) (tm (tm a a) (tm a a)))) (tm (tm (tm (tm a a) (tm a a)) (tm (tm a a) (tm a a))) (tm (tm (tm a a) (tm a a)) (tm (tm a a) (tm a a))))))))) rfl) ?_
  refine WL.call (al := [(vu8 (tm (tm (tm (tm (tm (tm (1 : UInt8) (tm a a)) (tm (tm a a) (tm a a))) (tm (tm (tm a a) (tm a a)) (tm (tm a a) (tm a a)))) (tm (tm (tm (tm a a) (tm a a)) (tm (tm a a) (tm a a))) (tm (tm (tm a a) (tm a a)) (tm (tm a a) (tm a a))))) (tm (tm (tm (tm (tm a a) (tm a a)) (tm (tm a a) (tm a a))) (tm (tm (tm a a) (tm a a)) (tm (tm a a) (tm a a)))) (tm (tm (tm (tm a a) (tm a a)) (tm (tm a a) (tm a a))) (tm (tm (tm a a) (tm a a)) (tm (tm a a) (tm a a)))))) (tm (tm (tm (tm (tm (tm a a) (tm a a)) (tm (tm a a) (tm a a))) (tm (tm (tm a a) (tm a a)) (tm (tm a a) (tm a a)))) (tm (tm (tm (tm a a) (tm a a)) (tm (tm a a) (tm a a))) (tm (tm (tm a a) (tm a a)) (tm (tm a a) (tm a a))))) (tm (tm (tm (tm (tm a a) (tm a a)) (tm (tm a a) (tm a a))) (tm (tm (tm a a) (tm a a)) (tm (tm a a) (tm a a)))) (tm (tm (tm (tm a a) (tm a a)) (tm (tm a a) (tm a a))) (tm (tm (tm a a) (tm a a)) (tm (tm a a) (tm a a)))))))), (vu8 (tm (tm (tm (tm (tm (tm (tm a a) (tm a a)) (tm (tm a a) (tm a a))) (tm (tm (tm a a) (tm a a)) (tm (tm a a) (tm a a)))) (tm (tm (tm (tm a a) (tm a a)) (tm (tm a a) (tm a a))) (tm (tm (tm a a) (tm a a)) (tm (tm a a) (tm a a))))) (tm (tm (tm (tm (tm a a) (tm a a)) (tm (tm a a) (tm a a))) (tm (tm (tm a a) (tm a a)) (tm (tm a a) (tm a a)))) (tm (tm (tm (tm a a) (tm a a)) (tm (tm a a) (tm a a))) (tm (tm (tm a a) (tm a a)) (tm (tm a a) (tm a a)))))) (tm (tm (tm (tm (tm (tm a a) (tm a a)) (tm (tm a a) (tm a a))) (tm (tm (tm a a) (tm a a)) (tm (tm a a) (tm a a)))) (tm (tm (tm (tm a a) (tm a a)) (tm (tm a a) (tm a a))) (tm (tm (tm a a) (tm a a)) (tm (tm a a) (tm a a))))) (tm (tm (tm (tm (tm a a) (tm a a)) (tm (tm a a) (tm a a))) (tm (tm (tm a a) (tm a a)) (tm (tm a a) (tm a a)))) (tm (tm (tm (tm a a) (tm a a)) (tm (tm a a) (tm a a))) (tm (tm (tm a a) (tm a a)) (tm (tm a a) (tm a a))))))))]) Try.call35 rfl rfl (c_Times (tm (tm (tm (tm (tm (tm (1 : UInt8) (tm a a)) (tm (tm a a) (tm a a))) (tm (tm (tm a a) (tm a a)) (tm (tm a a) (tm a a)))) (tm (tm (tm (tm a a) (tm a a)) (tm (tm a a) (tm a a))) (tm (tm (tm a a) (tm a a)) (tm (tm a a) (tm a a))))) (tm (tm (tm (tm (tm a a) (tm a a)) (tm (tm a a) (tm a a))) (tm (tm (tm a a) (tm a a)) (tm (tm a a) (tm a a)))) (tm (tm (tm (tm a a) (tm a a)) (tm (tm a a) (tm a a))) (tm (tm (tm a a) (tm a a)) (tm (tm a a) (tm a a)))))) (tm (tm (tm (tm (tm (tm a a) (tm a a)) (tm (tm a a) (tm a a))) (tm (tm (tm a a) (tm a a)) (tm (tm a a) (tm a a)))) (tm (tm (tm (tm a a) (tm a a)) (tm (tm a a) (tm a a))) (tm (tm (tm a a) (tm a a)) (tm (tm a a) (tm a a))))) (tm (tm (tm (tm (tm a a) (tm a a)) (tm (tm a a) (tm a a))) (tm (tm (tm a a) (tm a a)) (tm (tm a a) (tm a a)))) (tm (tm (tm (tm a a) (tm a a)) (tm (tm a a) (tm a a))) (tm (tm (tm a a) (tm a a)) (tm (tm a a) (tm a a))))))) (tm (tm (tm (tm (tm (tm (tm a a) (tm a a)) (tm (tm a a) (tm a a))) (tm (tm (tm a a) (tm a a)) (tm (tm a a) (tm a a)))) (tm (tm (tm (tm a a) (tm a a)) (tm (tm a a) (tm a a))) (tm (tm (tm a a) (tm a a)) (tm (tm a a) (tm a a))))) (tm (tm (tm (tm (tm a a) (tm a a)) (tm (tm a a) (tm a a))) (tm (tm (tm a a) (tm a a)) (tm (tm a a) (tm a a)))) (tm (tm (tm (tm a a) (tm a a)) (tm (tm a a) (tm a a))) (tm (tm (tm a a) (tm a a)) (tm (tm a a) (tm a a)))))) (tm (tm (tm (tm (tm (tm a a) (tm a a)) (tm (tm a a) (tm a a))) (tm (tm (tm a a) (tm a a)) (tm (tm a a) (tm a a)))) (tm (tm (tm (tm a a) (tm a a)) (tm (tm a a) (tm a a))) (tm (tm (tm a a) (tm a a)) (tm (tm a a) (tm a a))))) (tm (tm (tm (tm (tm a a) (tm a a)) (tm (tm a a) (tm a a))) (tm (tm (tm a a) (tm a a)) (tm (tm a a) (tm a a)))) (tm (tm (tm (tm a a) (tm a a)) (tm (tm a a) (tm a a))) (tm (tm (tm a a) (tm a a)) (tm (tm a a) (tm a a))))))) _ ) rfl ?_
  rintro _ w_41 ⟨rfl, hc_40⟩
  have h_42 := h_39.same hc_40
  refine WL.q (Wn.no rfl) rfl rfl (R.assign (v := (vu8 (tm (tm (tm (tm (tm (tm (tm (1 : UInt8) (tm a a)) (tm (tm a a) (tm a a))) (tm (tm (tm a a) (tm a a)) (tm (tm a a) (tm a a)))) (tm (tm (tm (tm a a) (tm a a)) (tm (tm a a) (tm a a))) (tm (tm (tm a a) (tm a a)) (tm (tm a a) (tm a a))))) (tm (tm (tm (tm (tm a a) (tm a a)) (tm (tm a a) (tm a a))) (tm (tm (tm a a) (tm a a)) (tm (tm a a) (tm a a)))) (tm (tm (tm (tm a a) (tm a a)) (tm (tm a a) (tm a a))) (tm (tm (tm a a) (tm a a)) (tm (tm a a) (tm a a)))))) (tm (tm (tm (tm (tm (tm a a) (tm a a)) (tm (tm a a) (tm a a))) (tm (tm (tm a a) (tm a a)) (tm (tm a a) (tm a a)))) (tm (tm (tm (tm a a) (tm a a)) (tm (tm a a) (tm a a))) (tm (tm (tm a a) (tm a a)) (tm (tm a a) (tm a a))))) (tm (tm (tm (tm (tm a a) (tm a a)) (tm (tm a a) (tm a a))) (tm (tm (tm a a) (tm a a)) (tm (tm a a) (tm a a)))) (tm (tm (tm (tm a a) (tm a a)) (tm (tm a a) (tm a a))) (tm (tm (tm a a) (tm a a)) (tm (tm a a) (tm a a))))))) (tm (tm (tm (tm (tm (tm (tm a a) (tm a a)) (tm (tm a a) (tm a a))) (tm (tm (tm a a) (tm a a)) (tm (tm a a) (tm a a)))) (tm (tm (tm (tm a a) (tm a a)) (tm (tm a a) (tm a a))) (tm (tm (tm a a) (tm a a)) (tm (tm a a) (tm a a))))) (tm (tm (tm (tm (tm a a) (tm a a)) (tm (tm a a) (tm a a))) (tm (tm (tm a a) (tm a a)) (tm (tm a a) (tm a a)))) (tm (tm (tm (tm a a) (tm a a)) (tm (tm a a) (tm a a))) (tm (tm (tm a a) (tm a a)) (tm (tm a a) (tm a a)))))) (tm (tm (tm (tm (tm (tm a a) (tm a a)) (tm (tm a a) (tm a a))) (tm (tm (tm a a) (tm a a)) (tm (tm a a) (tm a a)))) (tm (tm (tm (tm a a) (tm a a)) (tm (tm a a) (tm a a))) (tm (tm (tm a a) (tm a a)) (tm (tm a a) (tm a a))))) (tm (tm (tm (tm (tm a a) (tm a a)) (tm (tm a a) (tm a a))) (tm (tm (tm a a) (tm a a)) (tm (tm a a) (tm a a)))) (tm (tm (tm (tm a a) (tm a a)) (tm (tm a a) (tm a a))) (tm (tm (tm a a) (tm a a)) (tm (tm a a) (tm a a)))))))))) rfl) ?_
  refine WL.nil ?_
  refine inb_n ?_
  refine thn_n ?_
  refine WP.reg ?_
  refine WL.q (Wn.no rfl) rfl rfl (R.bin (v := (vi 7)) rfl rfl (bi_add (c := 7) (by omega) (by omega))) ?_
  refine WL.q (Wn.no rfl) rfl rfl (R.move (v := (vi 7)) rfl) ?_
  refine WL.nil ?_
  refine thn_n ?_
  refine WI.round ?_
  refine WP.seq ?_
  refine WP.reg ?_
  refine WL.q (Wn.no rfl) rfl rfl (R.bin (v := (.bool false)) rfl rfl (bi_lss (r := false) (by decide))) ?_
  refine WL.nil ?_
  refine thn_n ?_
  refine WP.seq ?_
  refine WP.condF rfl ?_
  refine WP.exit ?_
  refine thn_x ?_
  refine thn_x ?_
  refine inb_hit ?_
  refine thn_n ?_
  refine WP.seq ?_
  refine WP.reg ?_
  refine WL.q (Wn.no rfl) rfl rfl (R.move (v := (vu8 (tm (tm (tm (tm (tm (tm (tm (1 : UInt8) (tm a a)) (tm (tm a a) (tm a a))) (tm (tm (tm a a) (tm a a)) (tm (tm a a) (tm a a)))) (tm (tm (tm (tm a a) (tm a a)) (tm (tm a a) (tm a a))) (tm (tm (tm a a) (tm a a)) (tm (tm a a) (tm a a))))) (tm (tm (tm (tm (tm a a) (tm a a)) (tm (tm a a) (tm a a))) (tm (tm (tm a a) (tm a a)) (tm (tm a a) (tm a a)))) (tm (tm (tm (tm a a) (tm a a)) (tm (tm a a) (tm a a))) (tm (tm (tm a a) (tm a a)) (tm (tm a a) (tm a a)))))) (tm (tm (tm (tm (tm (tm a a) (tm a a)) (tm (tm a a) (tm a a))) (tm (tm (tm a a) (tm a a)) (tm (tm a a) (tm a a)))) (tm (tm (tm (tm a a) (tm a a)) (tm (tm a a) (tm a a))) (tm (tm (tm a a) (tm a a)) (tm (tm a a) (tm a a))))) (tm (tm (tm (tm (tm a a) (tm a a)) (tm (tm a a) (tm a a))) (tm (tm (tm a a) (tm a a)) (tm (tm a a) (tm a a)))) (tm (tm (tm (tm a a) (tm a a)) (tm (tm a a) (tm a a))) (tm (tm (tm a a) (tm a a)) (tm (tm a a) (tm a a))))))) (tm (tm (tm (tm (tm (tm (tm a a) (tm a a)) (tm (tm a a) (tm a a))) (tm (tm (tm a a) (tm a a)) (tm (tm a a) (tm a a)))) (tm (tm (tm (tm a a) (tm a a)) (tm (tm a a) (tm a a))) (tm (tm (tm a a) (tm a a)) (tm (tm a a) (tm a a))))) (tm (tm (tm (tm (tm a a) (tm a a)) (tm (tm a a) (tm a a))) (tm (tm (tm a a) (tm a a)) (tm (tm a a) (tm a a)))) (tm (tm (tm (tm a a) (tm a a)) (tm (tm a a) (tm a a))) (tm (tm (tm a a) (tm a a)) (tm (tm a a) (tm a a)))))) (tm (tm (tm (tm (tm (tm a a) (tm a a)) (tm (tm a a) (tm a a))) (tm (tm (tm a a) (tm a a)) (tm (tm a a) (tm a a)))) (tm (tm (tm (tm a a) (tm a a)) (tm (tm a a) (tm a a))) (tm (tm (tm a a) (tm a a)) (tm (tm a a) (tm a a))))) (tm (tm (tm (tm (tm a a) (tm a a)) (tm (tm a a) (tm a a))) (tm (tm (tm a a) (tm a a)) (tm (tm a a) (tm a a)))) (tm (tm (tm (tm a a) (tm a a)) (tm (tm a a) (tm a a))) (tm (tm (tm a a) (tm a a)) (tm (tm a a) (tm a a)))))))))) rfl) ?_
  refine WL.q (Wn.no rfl) rfl rfl (R.assign (v := (vu8 (tm (tm (tm (tm (tm (tm (tm (1 : UInt8) (tm a a)) (tm (tm a a) (tm a a))) (tm (tm (tm a a) (tm a a)) (tm (tm a a) (tm a a)))) (tm (tm (tm (tm a a) (tm a a)) (tm (tm a a) (tm a a))) (tm (tm (tm a a) (tm a a)) (tm (tm a a) (tm a a))))) (tm (tm (tm (tm (tm a a) (tm a a)) (tm (tm a a) (tm a a))) (tm (tm (tm a a) (tm a a)) (tm (tm a a) (tm a a)))) (tm (tm (tm (tm a a) (tm a a)) (tm (tm a a) (tm a a))) (tm (tm (tm a a) (tm a a)) (tm (tm a a) (tm a a)))))) (tm (tm (tm (tm (tm (tm a a) (tm a a)) (tm (tm a a) (tm a a))) (tm (tm (tm a a) (tm a a)) (tm (tm a a) (tm a a)))) (tm (tm (tm (tm a a) (tm a a)) (tm (tm a a) (tm a a))) (tm (tm (tm a a) (tm a a)) (tm (tm a a) (tm a a))))) (tm (tm (tm (tm (tm a a) (tm a a)) (tm (tm a a) (tm a a))) (tm (tm (tm a a) (tm a a)) (tm (tm a a) (tm a a)))) (tm (tm (tm (tm a a) (tm a a)) (tm (tm a a) (tm a a))) (tm (tm (tm a a) (tm a a)) (tm (tm a a) (tm a a))))))) (tm (tm (tm (tm (tm (tm (tm a a) (tm a a)) (tm (tm a a) (tm a a))) (tm (tm (tm a a) (tm a a)) (tm (tm a a) (tm a a)))) (tm (tm (tm (tm a a) (tm a a)) (tm (tm a a) (tm a a))) (tm (tm (tm a a) (tm a a)) (tm (tm a a) (tm a a))))) (tm (tm (tm (tm (tm a a) (tm a a)) (tm (tm a a) (tm a a))) (tm (tm (tm a a) (tm a a)) (tm (tm a a) (tm a a)))) (tm (tm (tm (tm a a) (tm a a)) (tm (tm a a) (tm a a))) (tm (tm (tm a a) (tm a a)) (tm (tm a a) (tm a a)))))) (tm (tm (tm (tm (tm (tm a a) (tm a a)) (tm (tm a a) (tm a a))) (tm (tm (tm a a) (tm a a)) (tm (tm a a) (tm a a)))) (tm (tm (tm (tm a a) (tm a a)) (tm (tm a a) (tm a a))) (tm (tm (tm a a) (tm a a)) (tm (tm a a) (tm a a))))) (tm (tm (tm (tm (tm a a) (tm a a)) (tm (tm a a) (tm a a))) (tm (tm (tm a a) (tm a a)) (tm (tm a a) (tm a a)))) (tm (tm (tm (tm a a) (tm a a)) (tm (tm a a) (tm a a))) (tm (tm (tm a a) (tm a a)) (tm (tm a a) (tm a a)))))))))) rfl) ?_
  refine WL.nil ?_
  refine thn_n ?_
  refine WP.ret ?_
  refine ret_of Try.results37 (RV.tmp (v := (vu8 (tm (tm (tm (tm (tm (tm (tm (1 : UInt8) (tm a a)) (tm (tm a a) (tm a a))) (tm (tm (tm a a) (tm a a)) (tm (tm a a) (tm a a)))) (tm (tm (tm (tm a a) (tm a a)) (tm (tm a a) (tm a a))) (tm (tm (tm a a) (tm a a)) (tm (tm a a) (tm a a))))) (tm (tm (tm (tm (tm a a) (tm a a)) (tm (tm a a) (tm a a))) (tm (tm (tm a a) (tm a a)) (tm (tm a a) (tm a a)))) (tm (tm (tm (tm a a) (tm a a)) (tm (tm a a) (tm a a))) (tm (tm (tm a a) (tm a a)) (tm (tm a a) (tm a a)))))) (tm (tm (tm (tm (tm (tm a a) (tm a a)) (tm (tm a a) (tm a a))) (tm (tm (tm a a) (tm a a)) (tm (tm a a) (tm a a)))) (tm (tm (tm (tm a a) (tm a a)) (tm (tm a a) (tm a a))) (tm (tm (tm a a) (tm a a)) (tm (tm a a) (tm a a))))) (tm (tm (tm (tm (tm a a) (tm a a)) (tm (tm a a) (tm a a))) (tm (tm (tm a a) (tm a a)) (tm (tm a a) (tm a a)))) (tm (tm (tm (tm a a) (tm a a)) (tm (tm a a) (tm a a))) (tm (tm (tm a a) (tm a a)) (tm (tm a a) (tm a a))))))) (tm (tm (tm (tm (tm (tm (tm a a) (tm a a)) (tm (tm a a) (tm a a))) (tm (tm (tm a a) (tm a a)) (tm (tm a a) (tm a a)))) (tm (tm (tm (tm a a) (tm a a)) (tm (tm a a) (tm a a))) (tm (tm (tm a a) (tm a a)) (tm (tm a a) (tm a a))))) (tm (tm (tm (tm (tm a a) (tm a a)) (tm (tm a a) (tm a a))) (tm (tm (tm a a) (tm a a)) (tm (tm a a) (tm a a)))) (tm (tm (tm (tm a a) (tm a a)) (tm (tm a a) (tm a a))) (tm (tm (tm a a) (tm a a)) (tm (tm a a) (tm a a)))))) (tm (tm (tm (tm (tm (tm a a) (tm a a)) (tm (tm a a) (tm a a))) (tm (tm (tm a a) (tm a a)) (tm (tm a a) (tm a a)))) (tm (tm (tm (tm a a) (tm a a)) (tm (tm a a) (tm a a))) (tm (tm (tm a a) (tm a a)) (tm (tm a a) (tm a a))))) (tm (tm (tm (tm (tm a a) (tm a a)) (tm (tm a a) (tm a a))) (tm (tm (tm a a) (tm a a)) (tm (tm a a) (tm a a)))) (tm (tm (tm (tm a a) (tm a a)) (tm (tm a a) (tm a a))) (tm (tm (tm a a) (tm a a)) (tm (tm a a) (tm a a)))))))))) rfl RV.nil) ?_
  exact ⟨rfl, h_42.chgS⟩

theorem c_rot1 (a : UInt8) (w : World) :
    Cs Try.prog 74 [(vu8 a), (vi 1)].toArray w (fun v w1 => v = (vu8 (rl a 1)) ∧ Chg w w1 []) := by
  refine Cs.of (n := 17) (args := [(vu8 a), (vi 1)]) Try.func74 rfl rfl rfl ?_
  have h_0 := HP.init w
  refine WP.seq ?_
  refine WP.reg ?_
  refine WL.q (Wn.no rfl) rfl rfl (R.assign (v := (vu8 0)) rfl) ?_
  refine WL.nil ?_
  refine thn_n ?_
  refine WP.seq ?_
  refine WP.reg ?_
  refine WL.q (Wn.no rfl) rfl rfl (R.move (v := (vi 1)) rfl) ?_
  refine WL.q (Wn.no rfl) rfl rfl (R.conv (b := (1 : UInt64).toNat) rfl Try.underlying3 Try.underlying81 (by decide)) ?_
  refine WL.q (Wn.no rfl) rfl rfl (R.bin (v := (vu64 1)) rfl rfl ((b64_and 1 7).trans rfl)) ?_
  refine WL.q (Wn.no rfl) rfl rfl (R.assign (v := (vu64 1)) rfl) ?_
  refine WL.nil ?_
  refine thn_n ?_
  refine WP.seq ?_
  refine WP.reg ?_
  refine WL.q (Wn.no rfl) rfl rfl (R.move (v := (vu8 a)) rfl) ?_
  refine WL.q (Wn.no rfl) rfl rfl (R.move (v := (vu64 1)) rfl) ?_
  refine WL.q (Wn.no rfl) rfl rfl (R.binR (v := vu8 (shl8 a 1)) rfl rfl (run_shl8 _ _ _ a _ 1)) ?_
  refine WL.q (Wn.no rfl) rfl rfl (R.move (v := (vu8 a)) rfl) ?_
  refine WL.q (Wn.no rfl) rfl rfl (R.move (v := (vu64 1)) rfl) ?_
  refine WL.q (Wn.no rfl) rfl rfl (R.bin (v := (vu64 7)) rfl rfl ((b64_sub 8 1).trans rfl)) ?_
  refine WL.q (Wn.no rfl) rfl rfl (R.binR (v := vu8 (shr8 a 7)) rfl rfl (run_shr8 _ _ _ a _ 7)) ?_
  refine WL.q (Wn.no rfl) rfl rfl (R.bin (v := (vu8 ((shl8 a 1) ||| (shr8 a 7)))) rfl rfl (b8_or (shl8 a 1) (shr8 a 7))) ?_
  refine WL.q (Wn.no rfl) rfl rfl (R.assign (v := (vu8 ((shl8 a 1) ||| (shr8 a 7)))) rfl) ?_
  refine WL.nil ?_
  refine thn_n ?_
  refine WP.ret ?_
  refine ret_of Try.results74 (RV.tmp (v := (vu8 ((shl8 a 1) ||| (shr8 a 7)))) rfl RV.nil) ?_
  exact ⟨rfl, h_0.chgS⟩

theorem c_rot2 (a : UInt8) (w : World) :
    Cs Try.prog 74 [(vu8 a), (vi 2)].toArray w (fun v w1 => v = (vu8 (rl a 2)) ∧ Chg w w1 []) := by
  refine Cs.of (n := 17) (args := [(vu8 a), (vi 2)]) Try.func74 rfl rfl rfl ?_
  have h_0 := HP.init w
  refine WP.seq ?_
  refine WP.reg ?_
  refine WL.q (Wn.no rfl) rfl rfl (R.assign (v := (vu8 0)) rfl) ?_
  refine WL.nil ?_
  refine thn_n ?_
  refine WP.seq ?_
  refine WP.reg ?_
  refine WL.q (Wn.no rfl) rfl rfl (R.move (v := (vi 2)) rfl) ?_
  refine WL.q (Wn.no rfl) rfl rfl (R.conv (b := (2 : UInt64).toNat) rfl Try.underlying3 Try.underlying81 (by decide)) ?_
  refine WL.q (Wn.no rfl) rfl rfl (R.bin (v := (vu64 2)) rfl rfl ((b64_and 2 7).trans rfl)) ?_
  refine WL.q (Wn.no rfl) rfl rfl (R.assign (v := (vu64 2)) rfl) ?_
  refine WL.nil ?_
  refine thn_n ?_
  refine WP.seq ?_
  refine WP.reg ?_
  refine WL.q (Wn.no rfl) rfl rfl (R.move (v := (vu8 a)) rfl) ?_
  refine WL.q (Wn.no rfl) rfl rfl (R.move (v := (vu64 2)) rfl) ?_
  refine WL.q (Wn.no rfl) rfl rfl (R.binR (v := vu8 (shl8 a 2)) rfl rfl (run_shl8 _ _ _ a _ 2)) ?_
  refine WL.q (Wn.no rfl) rfl rfl (R.move (v := (vu8 a)) rfl) ?_
  refine WL.q (Wn.no rfl) rfl rfl (R.move (v := (vu64 2)) rfl) ?_
  refine WL.q (Wn.no rfl) rfl rfl (R.bin (v := (vu64 6)) rfl rfl ((b64_sub 8 2).trans rfl)) ?_
  refine WL.q (Wn.no rfl) rfl rfl (R.binR (v := vu8 (shr8 a 6)) rfl rfl (run_shr8 _ _ _ a _ 6)) ?_
  refine WL.q (Wn.no rfl) rfl rfl (R.bin (v := (vu8 ((shl8 a 2) ||| (shr8 a 6)))) rfl rfl (b8_or (shl8 a 2) (shr8 a 6))) ?_
  refine WL.q (Wn.no rfl) rfl rfl (R.assign (v := (vu8 ((shl8 a 2) ||| (shr8 a 6)))) rfl) ?_
  refine WL.nil ?_
  refine thn_n ?_
  refine WP.ret ?_
  refine ret_of Try.results74 (RV.tmp (v := (vu8 ((shl8 a 2) ||| (shr8 a 6)))) rfl RV.nil) ?_
  exact ⟨rfl, h_0.chgS⟩

theorem c_rot3 (a : UInt8) (w : World) :
    Cs Try.prog 74 [(vu8 a), (vi 3)].toArray w (fun v w1 => v = (vu8 (rl a 3)) ∧ Chg w w1 []) := by
  refine Cs.of (n := 17) (args := [(vu8 a), (vi 3)]) Try.func74 rfl rfl rfl ?_
  have h_0 := HP.init w
  refine WP.seq ?_
  refine WP.reg ?_
  refine WL.q (Wn.no rfl) rfl rfl (R.assign (v := (vu8 0)) rfl) ?_
  refine WL.nil ?_
  refine thn_n ?_
  refine WP.seq ?_
  refine WP.reg ?_
  refine WL.q (Wn.no rfl) rfl rfl (R.move (v := (vi 3)) rfl) ?_
  refine WL.q (Wn.no rfl) rfl rfl (R.conv (b := (3 : UInt64).toNat) rfl Try.underlying3 Try.underlying81 (by decide)) ?_
  refine WL.q (Wn.no rfl) rfl rfl (R.bin (v := (vu64 3)) rfl rfl ((b64_and 3 7).trans rfl)) ?_
  refine WL.q (Wn.no rfl) rfl rfl (R.assign (v := (vu64 3)) rfl) ?_
  refine WL.nil ?_
  refine thn_n ?_
  refine WP.seq ?_
  refine WP.reg ?_
  refine WL.q (Wn.no rfl) rfl rfl (R.move (v := (vu8 a)) rfl) ?_
  refine WL.q (Wn.no rfl) rfl rfl (R.move (v := (vu64 3)) rfl) ?_
  refine WL.q (Wn.no rfl) rfl rfl (R.binR (v := vu8 (shl8 a 3)) rfl rfl (run_shl8 _ _ _ a _ 3)) ?_
  refine WL.q (Wn.no rfl) rfl rfl (R.move (v := (vu8 a)) rfl) ?_
  refine WL.q (Wn.no rfl) rfl rfl (R.move (v := (vu64 3)) rfl) ?_
  refine WL.q (Wn.no rfl) rfl rfl (R.bin (v := (vu64 5)) rfl rfl ((b64_sub 8 3).trans rfl)) ?_
  refine WL.q (Wn.no rfl) rfl rfl (R.binR (v := vu8 (shr8 a 5)) rfl rfl (run_shr8 _ _ _ a _ 5)) ?_
  refine WL.q (Wn.no rfl) rfl rfl (R.bin (v := (vu8 ((shl8 a 3) ||| (shr8 a 5)))) rfl rfl (b8_or (shl8 a 3) (shr8 a 5))) ?_
  refine WL.q (Wn.no rfl) rfl rfl (R.assign (v := (vu8 ((shl8 a 3) ||| (shr8 a 5)))) rfl) ?_
  refine WL.nil ?_
  refine thn_n ?_
  refine WP.ret ?_
  refine ret_of Try.results74 (RV.tmp (v := (vu8 ((shl8 a 3) ||| (shr8 a 5)))) rfl RV.nil) ?_
  exact ⟨rfl, h_0.chgS⟩

theorem c_rot4 (a : UInt8) (w : World) :
    Cs Try.prog 74 [(vu8 a), (vi 4)].toArray w (fun v w1 => v = (vu8 (rl a 4)) ∧ Chg w w1 []) := by
  refine Cs.of (n := 17) (args := [(vu8 a), (vi 4)]) Try.func74 rfl rfl rfl ?_
  have h_0 := HP.init w
  refine WP.seq ?_
  refine WP.reg ?_
  refine WL.q (Wn.no rfl) rfl rfl (R.assign (v := (vu8 0)) rfl) ?_
  refine WL.nil ?_
  refine thn_n ?_
  refine WP.seq ?_
  refine WP.reg ?_
  refine WL.q (Wn.no rfl) rfl rfl (R.move (v := (vi 4)) rfl) ?_
  refine WL.q (Wn.no rfl) rfl rfl (R.conv (b := (4 : UInt64).toNat) rfl Try.underlying3 Try.underlying81 (by decide)) ?_
  refine WL.q (Wn.no rfl) rfl rfl (R.bin (v := (vu64 4)) rfl rfl ((b64_and 4 7).trans rfl)) ?_
  refine WL.q (Wn.no rfl) rfl rfl (R.assign (v := (vu64 4)) rfl) ?_
  refine WL.nil ?_
  refine thn_n ?_
  refine WP.seq ?_
  refine WP.reg ?_
  refine WL.q (Wn.no rfl) rfl rfl (R.move (v := (vu8 a)) rfl) ?_
  refine WL.q (Wn.no rfl) rfl rfl (R.move (v := (vu64 4)) rfl) ?_
  refine WL.q (Wn.no rfl) rfl rfl (R.binR (v := vu8 (shl8 a 4)) rfl rfl (run_shl8 _ _ _ a _ 4)) ?_
  refine WL.q (Wn.no rfl) rfl rfl (R.move (v := (vu8 a)) rfl) ?_
  refine WL.q (Wn.no rfl) rfl rfl (R.move (v := (vu64 4)) rfl) ?_
  refine WL.q (Wn.no rfl) rfl rfl (R.bin (v := (vu64 4)) rfl rfl ((b64_sub 8 4).trans rfl)) ?_
  refine WL.q (Wn.no rfl) rfl rfl (R.binR (v := vu8 (shr8 a 4)) rfl rfl (run_shr8 _ _ _ a _ 4)) ?_
  refine WL.q (Wn.no rfl) rfl rfl (R.bin (v := (vu8 ((shl8 a 4) ||| (shr8 a 4)))) rfl rfl (b8_or (shl8 a 4) (shr8 a 4))) ?_
  refine WL.q (Wn.no rfl) rfl rfl (R.assign (v := (vu8 ((shl8 a 4) ||| (shr8 a 4)))) rfl) ?_
  refine WL.nil ?_
  refine thn_n ?_
  refine WP.ret ?_
  refine ret_of Try.results74 (RV.tmp (v := (vu8 ((shl8 a 4) ||| (shr8 a 4)))) rfl RV.nil) ?_
  exact ⟨rfl, h_0.chgS⟩

theorem c_rot6 (a : UInt8) (w : World) :
    Cs Try.prog 74 [(vu8 a), (vi 6)].toArray w (fun v w1 => v = (vu8 (rl a 6)) ∧ Chg w w1 []) := by
  refine Cs.of (n := 17) (args := [(vu8 a), (vi 6)]) Try.func74 rfl rfl rfl ?_
  have h_0 := HP.init w
  refine WP.seq ?_
  refine WP.reg ?_
  refine WL.q (Wn.no rfl) rfl rfl (R.assign (v := (vu8 0)) rfl) ?_
  refine WL.nil ?_
  refine thn_n ?_
  refine WP.seq ?_
  refine WP.reg ?_
  refine WL.q (Wn.no rfl) rfl rfl (R.move (v := (vi 6)) rfl) ?_
  refine WL.q (Wn.no rfl) rfl rfl (R.conv (b := (6 : UInt64).toNat) rfl Try.underlying3 Try.underlying81 (by decide)) ?_
  refine WL.q (Wn.no rfl) rfl rfl (R.bin (v := (vu64 6)) rfl rfl ((b64_and 6 7).trans rfl)) ?_
  refine WL.q (Wn.no rfl) rfl rfl (R.assign (v := (vu64 6)) rfl) ?_
  refine WL.nil ?_
  refine thn_n ?_
  refine WP.seq ?_
  refine WP.reg ?_
  refine WL.q (Wn.no rfl) rfl rfl (R.move (v := (vu8 a)) rfl) ?_
  refine WL.q (Wn.no rfl) rfl rfl (R.move (v := (vu64 6)) rfl) ?_
  refine WL.q (Wn.no rfl) rfl rfl (R.binR (v := vu8 (shl8 a 6)) rfl rfl (run_shl8 _ _ _ a _ 6)) ?_
  refine WL.q (Wn.no rfl) rfl rfl (R.move (v := (vu8 a)) rfl) ?_
  refine WL.q (Wn.no rfl) rfl rfl (R.move (v := (vu64 6)) rfl) ?_
  refine WL.q (Wn.no rfl) rfl rfl (R.bin (v := (vu64 2)) rfl rfl ((b64_sub 8 6).trans rfl)) ?_
  refine WL.q (Wn.no rfl) rfl rfl (R.binR (v := vu8 (shr8 a 2)) rfl rfl (run_shr8 _ _ _ a _ 2)) ?_
  refine WL.q (Wn.no rfl) rfl rfl (R.bin (v := (vu8 ((shl8 a 6) ||| (shr8 a 2)))) rfl rfl (b8_or (shl8 a 6) (shr8 a 2))) ?_
  refine WL.q (Wn.no rfl) rfl rfl (R.assign (v := (vu8 ((shl8 a 6) ||| (shr8 a 2)))) rfl) ?_
  refine WL.nil ?_
  refine thn_n ?_
  refine WP.ret ?_
  refine ret_of Try.results74 (RV.tmp (v := (vu8 ((shl8 a 6) ||| (shr8 a 2)))) rfl RV.nil) ?_
  exact ⟨rfl, h_0.chgS⟩

theorem c_rol1 (a : UInt8) (w : World) :
    Cs Try.prog 75 [(vu8 a), (vu64 1)].toArray w (fun v w1 => v = (vu8 (rl a 1)) ∧ Chg w w1 []) := by
  refine Cs.of (n := 13) (args := [(vu8 a), (vu64 1)]) Try.func75 rfl rfl rfl ?_
  have h_0 := HP.init w
  refine WP.seq ?_
  refine WP.reg ?_
  refine WL.q (Wn.no rfl) rfl rfl (R.assign (v := (vu8 0)) rfl) ?_
  refine WL.nil ?_
  refine thn_n ?_
  refine WP.seq ?_
  refine WP.reg ?_
  refine WL.q (Wn.no rfl) rfl rfl (R.move (v := (vu8 a)) rfl) ?_
  refine WL.q (Wn.no rfl) rfl rfl (R.move (v := (vu64 1)) rfl) ?_
  refine WL.q (Wn.no rfl) rfl rfl (R.binR (v := vu8 (shl8 a 1)) rfl rfl (run_shl8 _ _ _ a _ 1)) ?_
  refine WL.q (Wn.no rfl) rfl rfl (R.move (v := (vu8 a)) rfl) ?_
  refine WL.q (Wn.no rfl) rfl rfl (R.move (v := (vu64 1)) rfl) ?_
  refine WL.q (Wn.no rfl) rfl rfl (R.bin (v := (vu64 7)) rfl rfl ((b64_sub 8 1).trans rfl)) ?_
  refine WL.q (Wn.no rfl) rfl rfl (R.binR (v := vu8 (shr8 a 7)) rfl rfl (run_shr8 _ _ _ a _ 7)) ?_
  refine WL.q (Wn.no rfl) rfl rfl (R.bin (v := (vu8 ((shl8 a 1) ||| (shr8 a 7)))) rfl rfl (b8_or (shl8 a 1) (shr8 a 7))) ?_
  refine WL.q (Wn.no rfl) rfl rfl (R.assign (v := (vu8 ((shl8 a 1) ||| (shr8 a 7)))) rfl) ?_
  refine WL.nil ?_
  refine thn_n ?_
  refine WP.ret ?_
  refine ret_of Try.results75 (RV.tmp (v := (vu8 ((shl8 a 1) ||| (shr8 a 7)))) rfl RV.nil) ?_
  exact ⟨rfl, h_0.chgS⟩

theorem c_rol2 (a : UInt8) (w : World) :
    Cs Try.prog 75 [(vu8 a), (vu64 2)].toArray w (fun v w1 => v = (vu8 (rl a 2)) ∧ Chg w w1 []) := by
  refine Cs.of (n := 13) (args := [(vu8 a), (vu64 2)]) Try.func75 rfl rfl rfl ?_
  have h_0 := HP.init w
  refine WP.seq ?_
  refine WP.reg ?_
  refine WL.q (Wn.no rfl) rfl rfl (R.assign (v := (vu8 0)) rfl) ?_
  refine WL.nil ?_
  refine thn_n ?_
  refine WP.seq ?_
  refine WP.reg ?_
  refine WL.q (Wn.no rfl) rfl rfl (R.move (v := (vu8 a)) rfl) ?_
  refine WL.q (Wn.no rfl) rfl rfl (R.move (v := (vu64 2)) rfl) ?_
  refine WL.q (Wn.no rfl) rfl rfl (R.binR (v := vu8 (shl8 a 2)) rfl rfl (run_shl8 _ _ _ a _ 2)) ?_
  refine WL.q (Wn.no rfl) rfl rfl (R.move (v := (vu8 a)) rfl) ?_
  refine WL.q (Wn.no rfl) rfl rfl (R.move (v := (vu64 2)) rfl) ?_
  refine WL.q (Wn.no rfl) rfl rfl (R.bin (v := (vu64 6)) rfl rfl ((b64_sub 8 2).trans rfl)) ?_
  refine WL.q (Wn.no rfl) rfl rfl (R.binR (v := vu8 (shr8 a 6)) rfl rfl (run_shr8 _ _ _ a _ 6)) ?_
  refine WL.q (Wn.no rfl) rfl rfl (R.bin (v := (vu8 ((shl8 a 2) ||| (shr8 a 6)))) rfl rfl (b8_or (shl8 a 2) (shr8 a 6))) ?_
  refine WL.q (Wn.no rfl) rfl rfl (R.assign (v := (vu8 ((shl8 a 2) ||| (shr8 a 6)))) rfl) ?_
  refine WL.nil ?_
  refine thn_n ?_
  refine WP.ret ?_
  refine ret_of Try.results75 (RV.tmp (v := (vu8 ((shl8 a 2) ||| (shr8 a 6)))) rfl RV.nil) ?_
  exact ⟨rfl, h_0.chgS⟩

theorem c_rol3 (a : UInt8) (w : World) :
    Cs Try.prog 75 [(vu8 a), (vu64 3)].toArray w (fun v w1 => v = (vu8 (rl a 3)) ∧ Chg w w1 []) := by
  refine Cs.of (n := 13) (args := [(vu8 a), (vu64 3)]) Try.func75 rfl rfl rfl ?_
  have h_0 := HP.init w
  refine WP.seq ?_
  refine WP.reg ?_
  refine WL.q (Wn.no rfl) rfl rfl (R.assign (v := (vu8 0)) rfl) ?_
  refine WL.nil ?_
  refine thn_n ?_
  refine WP.seq ?_
  refine WP.reg ?_
  refine WL.q (Wn.no rfl) rfl rfl (R.move (v := (vu8 a)) rfl) ?_
  refine WL.q (Wn.no rfl) rfl rfl (R.move (v := (vu64 3)) rfl) ?_
  refine WL.q (Wn.no rfl) rfl rfl (R.binR (v := vu8 (shl8 a 3)) rfl rfl (run_shl8 _ _ _ a _ 3)) ?_
  refine WL.q (Wn.no rfl) rfl rfl (R.move (v := (vu8 a)) rfl) ?_
  refine WL.q (Wn.no rfl) rfl rfl (R.move (v := (vu64 3)) rfl) ?_
  refine WL.q (Wn.no rfl) rfl rfl (R.bin (v := (vu64 5)) rfl rfl ((b64_sub 8 3).trans rfl)) ?_
  refine WL.q (Wn.no rfl) rfl rfl (R.binR (v := vu8 (shr8 a 5)) rfl rfl (run_shr8 _ _ _ a _ 5)) ?_
  refine WL.q (Wn.no rfl) rfl rfl (R.bin (v := (vu8 ((shl8 a 3) ||| (shr8 a 5)))) rfl rfl (b8_or (shl8 a 3) (shr8 a 5))) ?_
  refine WL.q (Wn.no rfl) rfl rfl (R.assign (v := (vu8 ((shl8 a 3) ||| (shr8 a 5)))) rfl) ?_
  refine WL.nil ?_
  refine thn_n ?_
  refine WP.ret ?_
  refine ret_of Try.results75 (RV.tmp (v := (vu8 ((shl8 a 3) ||| (shr8 a 5)))) rfl RV.nil) ?_
  exact ⟨rfl, h_0.chgS⟩

theorem c_rol4 (a : UInt8) (w : World) :
    Cs Try.prog 75 [(vu8 a), (vu64 4)].toArray w (fun v w1 => v = (vu8 (rl a 4)) ∧ Chg w w1 []) := by
  refine Cs.of (n := 13) (args := [(vu8 a), (vu64 4)]) Try.func75 rfl rfl rfl ?_
  have h_0 := HP.init w
  refine WP.seq ?_
  refine WP.reg ?_
  refine WL.q (Wn.no rfl) rfl rfl (R.assign (v := (vu8 0)) rfl) ?_
  refine WL.nil ?_
  refine thn_n ?_
  refine WP.seq ?_
  refine WP.reg ?_
  refine WL.q (Wn.no rfl) rfl rfl (R.move (v := (vu8 a)) rfl) ?_
  refine WL.q (Wn.no rfl) rfl rfl (R.move (v := (vu64 4)) rfl) ?_
  refine WL.q (Wn.no rfl) rfl rfl (R.binR (v := vu8 (shl8 a 4)) rfl rfl (run_shl8 _ _ _ a _ 4)) ?_
  refine WL.q (Wn.no rfl) rfl rfl (R.move (v := (vu8 a)) rfl) ?_
  refine WL.q (Wn.no rfl) rfl rfl (R.move (v := (vu64 4)) rfl) ?_
  refine WL.q (Wn.no rfl) rfl rfl (R.bin (v := (vu64 4)) rfl rfl ((b64_sub 8 4).trans rfl)) ?_
  refine WL.q (Wn.no rfl) rfl rfl (R.binR (v := vu8 (shr8 a 4)) rfl rfl (run_shr8 _ _ _ a _ 4)) ?_
  refine WL.q (Wn.no rfl) rfl rfl (R.bin (v := (vu8 ((shl8 a 4) ||| (shr8 a 4)))) rfl rfl (b8_or (shl8 a 4) (shr8 a 4))) ?_
  refine WL.q (Wn.no rfl) rfl rfl (R.assign (v := (vu8 ((shl8 a 4) ||| (shr8 a 4)))) rfl) ?_
  refine WL.nil ?_
  refine thn_n ?_
  refine WP.ret ?_
  refine ret_of Try.results75 (RV.tmp (v := (vu8 ((shl8 a 4) ||| (shr8 a 4)))) rfl RV.nil) ?_
  exact ⟨rfl, h_0.chgS⟩

theorem c_Sub (a : UInt8) (w : World) :
    Cs Try.prog 39 [(vu8 a)].toArray w (fun v w1 => v = (vu8 (sub a)) ∧ Chg w w1 []) := by
  refine Cs.of (n := 21) (args := [(vu8 a)]) Try.func39 rfl rfl rfl ?_
  have h_0 := HP.init w
  refine WP.seq ?_
  refine WP.reg ?_
  refine WL.q (Wn.no rfl) rfl rfl (R.assign (v := (vu8 0)) rfl) ?_
  refine WL.nil ?_
  refine thn_n ?_
  refine WP.seq ?_
  refine WP.reg ?_
  refine WL.q (Wn.no rfl) rfl rfl (R.move (v := (vu8 a)) rfl) ?_
  refine WL.call (al := [(vu8 a)]) Try.call37 rfl rfl (c_Inverse a _ ) rfl ?_
  rintro _ w_2 ⟨rfl, hc_1⟩
  have h_3 := h_0.same hc_1
  refine WL.q (Wn.no rfl) rfl rfl (R.assign (v := (vu8 (inv a))) rfl) ?_
  refine WL.nil ?_
  refine thn_n ?_
  refine WP.seq ?_
  refine WP.reg ?_
  refine WL.q (Wn.no rfl) rfl rfl (R.move (v := (vu8 (inv a))) rfl) ?_
  refine WL.q (Wn.no rfl) rfl rfl (R.bin (v := (vu8 ((inv a) ^^^ 99))) rfl rfl (b8_xor (inv a) 99)) ?_
  refine WL.q (Wn.no rfl) rfl rfl (R.assign (v := (vu8 ((inv a) ^^^ 99))) rfl) ?_
  refine WL.nil ?_
  refine thn_n ?_
  refine WP.seq ?_
  refine WP.seq ?_
  refine WP.reg ?_
  refine WL.q (Wn.no rfl) rfl rfl (R.move (v := (vi 0)) rfl) ?_
  refine WL.nil ?_
  refine thn_n ?_
  refine WP.block ?_
  refine WP.loopU (WI.round ?_)
  refine WP.seq ?_
  refine WP.reg ?_
  refine WL.q (Wn.no rfl) rfl rfl (R.bin (v := (.bool true)) rfl rfl (bi_lss (r := true) (by decide))) ?_
  refine WL.nil ?_
  refine thn_n ?_
  refine WP.seq ?_
  refine WP.condT rfl ?_
  refine WP.skip ?_
  refine thn_n ?_
  refine WP.seq ?_
  refine WP.block ?_
  refine WP.seq ?_
  refine WP.reg ?_
  refine WL.q (Wn.no rfl) rfl rfl (R.move (v := (vi 0)) rfl) ?_
  refine WL.q (Wn.no rfl) rfl rfl (R.assign (v := (vi 0)) rfl) ?_
  refine WL.nil ?_
  refine thn_n ?_
  refine WP.reg ?_
  refine WL.q (Wn.no rfl) rfl rfl (R.move (v := (vu8 ((inv a) ^^^ 99))) rfl) ?_
  refine WL.q (Wn.no rfl) rfl rfl (R.move (v := (vu8 (inv a))) rfl) ?_
  refine WL.q (Wn.no rfl) rfl rfl (R.move (v := (vi 0)) rfl) ?_
  refine WL.q (Wn.no rfl) rfl rfl (R.bin (v := (vi 1)) rfl rfl (bi_add (c := 1) (by omega) (by omega))) ?_
  refine WL.call (al := [(vu8 (inv a)), (vi 1)]) Try.call74 rfl rfl (c_rot1 (inv a) _ ) rfl ?_
  rintro _ w_5 ⟨rfl, hc_4⟩
  have h_6 := h_3.same hc_4
  refine WL.q (Wn.no rfl) rfl rfl (R.bin (v := (vu8 (((inv a) ^^^ 99) ^^^ (rl (inv a) 1)))) rfl rfl (b8_xor ((inv a) ^^^ 99) (rl (inv a) 1))) ?_
  refine WL.q (Wn.no rfl) rfl rfl (R.assign (v := (vu8 (((inv a) ^^^ 99) ^^^ (rl (inv a) 1)))) rfl) ?_
  refine WL.nil ?_
  refine inb_n ?_
  refine thn_n ?_
  refine WP.reg ?_
  refine WL.q (Wn.no rfl) rfl rfl (R.bin (v := (vi 1)) rfl rfl (bi_add (c := 1) (by omega) (by omega))) ?_
  refine WL.q (Wn.no rfl) rfl rfl (R.move (v := (vi 1)) rfl) ?_
  refine WL.nil ?_
  refine thn_n ?_
  refine WI.round ?_
  refine WP.seq ?_
  refine WP.reg ?_
  refine WL.q (Wn.no rfl) rfl rfl (R.bin (v := (.bool true)) rfl rfl (bi_lss (r := true) (by decide))) ?_
  refine WL.nil ?_
  refine thn_n ?_
  refine WP.seq ?_
  refine WP.condT rfl ?_
  refine WP.skip ?_
  refine thn_n ?_
  refine WP.seq ?_
  refine WP.block ?_
  refine WP.seq ?_
  refine WP.reg ?_
  refine WL.q (Wn.no rfl) rfl rfl (R.move (v := (vi 1)) rfl) ?_
  refine WL.q (Wn.no rfl) rfl rfl (R.assign (v := (vi 1)) rfl) ?_
  refine WL.nil ?_
  refine thn_n ?_
  refine WP.reg ?_
  refine WL.q (Wn.no rfl) rfl rfl (R.move (v := (vu8 (((inv a) ^^^ 99) ^^^ (rl (inv a) 1)))) rfl) ?_
  refine WL.q (Wn.no rfl) rfl rfl (R.move (v := (vu8 (inv a))) rfl) ?_
  refine WL.q (Wn.no rfl) rfl rfl (R.move (v := (vi 1)) rfl) ?_
  refine WL.q (Wn.no rfl) rfl rfl (R.bin (v := (vi 2)) rfl rfl (bi_add (c := 2) (by omega) (by omega))) ?_
  refine WL.call (al := [(vu8 (inv a)), (vi 2)]) Try.call74 rfl rfl (c_rot2 (inv a) _ ) rfl ?_
  rintro _ w_8 ⟨rfl, hc_7⟩
  have h_9 := h_6.same hc_7
  refine WL.q (Wn.no rfl) rfl rfl (R.bin (v := (vu8 ((((inv a) ^^^ 99) ^^^ (rl (inv a) 1)) ^^^ (rl (inv a) 2)))) rfl rfl (b8_xor (((inv a) ^^^ 99) ^^^ (rl (inv a) 1)) (rl (inv a) 2))) ?_
  refine WL.q (Wn.no rfl) rfl rfl (R.assign (v := (vu8 ((((inv a) ^^^ 99) ^^^ (rl (inv a) 1)) ^^^ (rl (inv a) 2)))) rfl) ?_
  refine WL.nil ?_
  refine inb_n ?_
  refine thn_n ?_
  refine WP.reg ?_
  refine WL.q (Wn.no rfl) rfl rfl (R.bin (v := (vi 2)) rfl rfl (bi_add (c := 2) (by omega) (by omega))) ?_
  refine WL.q (Wn.no rfl) rfl rfl (R.move (v := (vi 2)) rfl) ?_
  refine WL.nil ?_
  refine thn_n ?_
  refine WI.round ?_
  refine WP.seq ?_
  refine WP.reg ?_
  refine WL.q (Wn.no rfl) rfl rfl (R.bin (v := (.bool true)) rfl rfl (bi_lss (r := true) (by decide))) ?_
  refine WL.nil ?_
  refine thn_n ?_
  refine WP.seq ?_
  refine WP.condT rfl ?_
  refine WP.skip ?_
  refine thn_n ?_
  refine WP.seq ?_
  refine WP.block ?_
  refine WP.seq ?_
  refine WP.reg ?_
  refine WL.q (Wn.no rfl) rfl rfl (R.move (v := (vi 2)) rfl) ?_
  refine WL.q (Wn.no rfl) rfl rfl (R.assign (v := (vi 2)) rfl) ?_
  refine WL.nil ?_
  refine thn_n ?_
  refine WP.reg ?_
  refine WL.q (Wn.no rfl) rfl rfl (R.move (v := (vu8 ((((inv a) ^^^ 99) ^^^ (rl (inv a) 1)) ^^^ (rl (inv a) 2)))) rfl) ?_
  refine WL.q (Wn.no rfl) rfl rfl (R.move (v := (vu8 (inv a))) rfl) ?_
  refine WL.q (Wn.no rfl) rfl rfl (R.move (v := (vi 2)) rfl) ?_
  refine WL.q (Wn.no rfl) rfl rfl (R.bin (v := (vi 3)) rfl rfl (bi_add (c := 3) (by omega) (by omega))) ?_
  refine WL.call (al := [(vu8 (inv a)), (vi 3)]) Try.call74 rfl rfl (c_rot3 (inv a) _ ) rfl ?_
  rintro _ w_11 ⟨rfl, hc_10⟩
  have h_12 := h_9.same hc_10
  refine WL.q (Wn.no rfl) rfl rfl (R.bin (v := (vu8 (((((inv a) ^^^ 99) ^^^ (rl (inv a) 1)) ^^^ (rl (inv a) 2)) ^^^ (rl (inv a) 3)))) rfl rfl (b8_xor ((((inv a) ^^^ 99) ^^^ (rl (inv a) 1)) ^^^ (rl (inv a) 2)) (rl (inv a) 3))) ?_
  refine WL.q (Wn.no rfl) rfl rfl (R.assign (v := (vu8 (((((inv a) ^^^ 99) ^^^ (rl (inv a) 1)) ^^^ (rl (inv a) 2)) ^^^ (rl (inv a) 3)))) rfl) ?_
  refine WL.nil ?_
  refine inb_n ?_
  refine thn_n ?_
  refine WP.reg ?_
  refine WL.q (Wn.no rfl) rfl rfl (R.bin (v := (vi 3)) rfl rfl (bi_add (c := 3) (by omega) (by omega))) ?_
  refine WL.q (Wn.no rfl) rfl rfl (R.move (v := (vi 3)) rfl) ?_
  refine WL.nil ?_
  refine thn_n ?_
  refine WI.round ?_
  refine WP.seq ?_
  refine WP.reg ?_
  refine WL.q (Wn.no rfl) rfl rfl (R.bin (v := (.bool true)) rfl rfl (bi_lss (r := true) (by decide))) ?_
  refine WL.nil ?_
  refine thn_n ?_
  refine WP.seq ?_
  refine WP.condT rfl ?_
  refine WP.skip ?_
  refine thn_n ?_
  refine WP.seq ?_
  refine WP.block ?_
  refine WP.seq ?_
  refine WP.reg ?_
  refine WL.q (Wn.no rfl) rfl rfl (R.move (v := (vi 3)) rfl) ?_
  refine WL.q (Wn.no rfl) rfl rfl (R.assign (v := (vi 3)) rfl) ?_
  refine WL.nil ?_
  refine thn_n ?_
  refine WP.reg ?_
  refine WL.q (Wn.no rfl) rfl rfl (R.move (v := (vu8 (((((inv a) ^^^ 99) ^^^ (rl (inv a) 1)) ^^^ (rl (inv a) 2)) ^^^ (rl (inv a) 3)))) rfl) ?_
  refine WL.q (Wn.no rfl) rfl rfl (R.move (v := (vu8 (inv a))) rfl) ?_
  refine WL.q (Wn.no rfl) rfl rfl (R.move (v := (vi 3)) rfl) ?_
  refine WL.q (Wn.no rfl) rfl rfl (R.bin (v := (vi 4)) rfl rfl (bi_add (c := 4) (by omega) (by omega))) ?_
  refine WL.call (al := [(vu8 (inv a)), (vi 4)]) Try.call74 rfl rfl (c_rot4 (inv a) _ ) rfl ?_
  rintro _ w_14 ⟨rfl, hc_13⟩
  have h_15 := h_12.same hc_13
  refine WL.q (Wn.no rfl) rfl rfl (R.bin (v := (vu8 ((((((inv a) ^^^ 99) ^^^ (rl (inv a) 1)) ^^^ (rl (inv a) 2)) ^^^ (rl (inv a) 3)) ^^^ (rl (inv a) 4)))) rfl rfl (b8_xor (((((inv a) ^^^ 99) ^^^ (rl (inv a) 1)) ^^^ (rl (inv a) 2)) ^^^ (rl (inv a) 3)) (rl (inv a) 4))) ?_
  refine WL.q (Wn.no rfl) rfl rfl (R.assign (v := (vu8 ((((((inv a) ^^^ 99) ^^^ (rl (inv a) 1)) ^^^ (rl (inv a) 2)) ^^^ (rl (inv a) 3)) ^^^ (rl (inv a) 4)))) rfl) ?_
  refine WL.nil ?_
  refine inb_n ?_
  refine thn_n ?_
  refine WP.reg ?_
  refine WL.q (Wn.no rfl) rfl rfl (R.bin (v := (vi 4)) rfl rfl (bi_add (c := 4) (by omega) (by omega))) ?_
  refine WL.q (Wn.no rfl) rfl rfl (R.move (v := (vi 4)) rfl) ?_
  refine WL.nil ?_
  refine thn_n ?_
  refine WI.round ?_
  refine WP.seq ?_
  refine WP.reg ?_
  refine WL.q (Wn.no rfl) rfl rfl (R.bin (v := (.bool false)) rfl rfl (bi_lss (r := false) (by decide))) ?_
  refine WL.nil ?_
  refine thn_n ?_
  refine WP.seq ?_
  refine WP.condF rfl ?_
  refine WP.exit ?_
  refine thn_x ?_
  refine thn_x ?_
  refine inb_hit ?_
  refine thn_n ?_
  refine WP.seq ?_
  refine WP.reg ?_
  refine WL.q (Wn.no rfl) rfl rfl (R.move (v := (vu8 ((((((inv a) ^^^ 99) ^^^ (rl (inv a) 1)) ^^^ (rl (inv a) 2)) ^^^ (rl (inv a) 3)) ^^^ (rl (inv a) 4)))) rfl) ?_
  refine WL.q (Wn.no rfl) rfl rfl (R.assign (v := (vu8 ((((((inv a) ^^^ 99) ^^^ (rl (inv a) 1)) ^^^ (rl (inv a) 2)) ^^^ (rl (inv a) 3)) ^^^ (rl (inv a) 4)))) rfl) ?_
  refine WL.nil ?_
  refine thn_n ?_
  refine WP.ret ?_
  refine ret_of Try.results39 (RV.tmp (v := (vu8 ((((((inv a) ^^^ 99) ^^^ (rl (inv a) 1)) ^^^ (rl (inv a) 2)) ^^^ (rl (inv a) 3)) ^^^ (rl (inv a) 4)))) rfl RV.nil) ?_
  exact ⟨rfl, h_15.chgS⟩

theorem c_Unsub (a : UInt8) (w : World) :
    Cs Try.prog 41 [(vu8 a)].toArray w (fun v w1 => v = (vu8 (unsub a)) ∧ Chg w w1 []) := by
  refine Cs.of (n := 15) (args := [(vu8 a)]) Try.func41 rfl rfl rfl ?_
  have h_0 := HP.init w
  refine WP.seq ?_
  refine WP.reg ?_
  refine WL.q (Wn.no rfl) rfl rfl (R.assign (v := (vu8 0)) rfl) ?_
  refine WL.nil ?_
  refine thn_n ?_
  refine WP.seq ?_
  refine WP.reg ?_
  refine WL.q (Wn.no rfl) rfl rfl (R.move (v := (vu8 a)) rfl) ?_
  refine WL.call (al := [(vu8 a), (vi 1)]) Try.call74 rfl rfl (c_rot1 a _ ) rfl ?_
  rintro _ w_2 ⟨rfl, hc_1⟩
  have h_3 := h_0.same hc_1
  refine WL.q (Wn.no rfl) rfl rfl (R.move (v := (vu8 a)) rfl) ?_
  refine WL.call (al := [(vu8 a), (vi 3)]) Try.call74 rfl rfl (c_rot3 a _ ) rfl ?_
  rintro _ w_5 ⟨rfl, hc_4⟩
  have h_6 := h_3.same hc_4
  refine WL.q (Wn.no rfl) rfl rfl (R.bin (v := (vu8 ((rl a 1) ^^^ (rl a 3)))) rfl rfl (b8_xor (rl a 1) (rl a 3))) ?_
  refine WL.q (Wn.no rfl) rfl rfl (R.move (v := (vu8 a)) rfl) ?_
  refine WL.call (al := [(vu8 a), (vi 6)]) Try.call74 rfl rfl (c_rot6 a _ ) rfl ?_
  rintro _ w_8 ⟨rfl, hc_7⟩
  have h_9 := h_6.same hc_7
  refine WL.q (Wn.no rfl) rfl rfl (R.bin (v := (vu8 (((rl a 1) ^^^ (rl a 3)) ^^^ (rl a 6)))) rfl rfl (b8_xor ((rl a 1) ^^^ (rl a 3)) (rl a 6))) ?_
  refine WL.q (Wn.no rfl) rfl rfl (R.bin (v := (vu8 ((((rl a 1) ^^^ (rl a 3)) ^^^ (rl a 6)) ^^^ 5))) rfl rfl (b8_xor (((rl a 1) ^^^ (rl a 3)) ^^^ (rl a 6)) 5)) ?_
  refine WL.q (Wn.no rfl) rfl rfl (R.assign (v := (vu8 ((((rl a 1) ^^^ (rl a 3)) ^^^ (rl a 6)) ^^^ 5))) rfl) ?_
  refine WL.nil ?_
  refine thn_n ?_
  refine WP.seq ?_
  refine WP.reg ?_
  refine WL.q (Wn.no rfl) rfl rfl (R.move (v := (vu8 ((((rl a 1) ^^^ (rl a 3)) ^^^ (rl a 6)) ^^^ 5))) rfl) ?_
  refine WL.call (al := [(vu8 ((((rl a 1) ^^^ (rl a 3)) ^^^ (rl a 6)) ^^^ 5))]) Try.call37 rfl rfl (c_Inverse ((((rl a 1) ^^^ (rl a 3)) ^^^ (rl a 6)) ^^^ 5) _ ) rfl ?_
  rintro _ w_11 ⟨rfl, hc_10⟩
  have h_12 := h_9.same hc_10
  refine WL.q (Wn.no rfl) rfl rfl (R.assign (v := (vu8 (inv ((((rl a 1) ^^^ (rl a 3)) ^^^ (rl a 6)) ^^^ 5)))) rfl) ?_
  refine WL.nil ?_
  refine thn_n ?_
  refine WP.ret ?_
  refine ret_of Try.results41 (RV.tmp (v := (vu8 (inv ((((rl a 1) ^^^ (rl a 3)) ^^^ (rl a 6)) ^^^ 5)))) rfl RV.nil) ?_
  exact ⟨rfl, h_12.chgS⟩

theorem c_tableSub  (w : World) :
    Cs Try.prog 83 [(.func (.func 39) [].toArray [].toArray)].toArray w (fun v w1 => v = (.agg ⟨(tabL sub).map vu8⟩) ∧ Chg w w1 []) := by
  refine Cs.of (n := 15) (args := [(.func (.func 39) [].toArray [].toArray)]) Try.func83 rfl rfl rfl ?_
  have h_0 := HP.init w
  refine WP.seq ?_
  refine WP.reg ?_
  refine WL.alloc (segs := [(256, (List.replicate 256 (0 : UInt8)).map vu8)]) h_0 (zv Try.typeInfo72 rfl) rfl (SsOk.cons (SOk.u8 (List.length_replicate ..)) SsOk.nil) rfl (fun b_1 w_2 h_3 => ?_)
  refine WL.nil ?_
  refine thn_n ?_
  refine WP.seq ?_
  refine WP.seq ?_
  refine WP.reg ?_
  refine WL.q (Wn.no rfl) rfl rfl (R.move (v := (vi 0)) rfl) ?_
  refine WL.nil ?_
  refine thn_n ?_
  refine WP.block ?_
  refine WP.loopG (G := Nat) [3, 4, 5, 6, 7, 8, 9, 10, 11, 12, 13] (fun k => [(4, (vi ((k : Nat) : Int)))]) (fun k m w1 => HP w w1 [.blk b_1 .nw 72 [(256, (pre 256 (fun i => sub (UInt8.ofNat i)) k).map vu8)]] ∧ (k ≤ 256) ∧ m = 256 - k) ⟨0, _, ⟨rfl, trivial⟩, (by rw [pre_0]; exact h_3), (by omega), rfl⟩ ?_
  rintro k m_6 J_7 w_4 ⟨h_5, hk, rfl⟩
  refine WP.seq ?_
  refine WP.reg ?_
  refine WL.q (Wn.no rfl) rfl rfl (R.bin (v := (.bool (decide ((((k : Nat) : Int) : Int) < 256)))) rfl rfl (bi_lss (r := decide ((((k : Nat) : Int) : Int) < 256)) rfl)) ?_
  refine WL.nil ?_
  refine thn_n ?_
  refine WP.seq ?_
  refine WP.cond (b := decide ((((k : Nat) : Int) : Int) < 256)) rfl (fun c_8 => ?_) (fun c_8 => ?_)
  · have p_9 := of_decide_eq_true c_8
    refine WP.skip ?_
    refine thn_n ?_
    refine WP.seq ?_
    refine WP.block ?_
    refine WP.seq ?_
    refine WP.reg ?_
    refine WL.q (Wn.no rfl) rfl rfl (R.move (v := (vi ((k : Nat) : Int))) rfl) ?_
    refine WL.q (Wn.no rfl) rfl rfl (R.assign (v := (vi ((k : Nat) : Int))) rfl) ?_
    refine WL.nil ?_
    refine thn_n ?_
    refine WP.reg ?_
    refine WL.q (Wn.no rfl) rfl rfl (R.move (v := (vi ((k : Nat) : Int))) rfl) ?_
    refine WL.q (Wn.no rfl) rfl rfl (R.move (v := (.func (.func 39) [].toArray [].toArray)) rfl) ?_
    refine WL.q (Wn.no rfl) rfl rfl (R.move (v := (vi ((k : Nat) : Int))) rfl) ?_
    refine WL.q (Wn.no rfl) rfl rfl (R.conv (b := ((UInt8.ofNat k) : UInt8).toNat) rfl Try.underlying3 Try.underlying5 (w8_nat k)) ?_
    refine WL.call (al := [(vu8 (UInt8.ofNat k))]) Try.call39 rfl rfl (c_Sub (UInt8.ofNat k) _ ) rfl ?_
    rintro _ w_11 ⟨rfl, hc_10⟩
    have h_12 := h_5.same hc_10
    refine WL.q (Wn.no rfl) rfl rfl (R.indexA (b := b_1) (off := 0) (off' := (0 + k)) (i := k) rfl rfl rfl (by omega) Try.underlying72 Try.sizeOf5 (by rw [Nat.mul_one])) ?_
    refine WL.storeE (b := b_1) (off := (0 + k)) (i := k) (v := (vu8 (sub (UInt8.ofNat k)))) (cs' := ((pre 256 (fun i => sub (UInt8.ofNat i)) k).set k (sub (UInt8.ofNat k))).map vu8) h_12 rfl rfl Try.sizeOf5 rfl At.h (by decide) Sg.h rfl (lt_len (K := 256) (len_map (pre_len hk)) (by omega)) (set_u8 _ _ _) (fun w_13 h_14 => ?_)
    refine WL.nil ?_
    refine inb_n ?_
    refine thn_n ?_
    refine WP.reg ?_
    refine WL.q (Wn.no rfl) rfl rfl (R.bin (v := (vi ((k + 1 : Nat) : Int))) rfl rfl (bi_add (c := ((k + 1 : Nat) : Int)) (by omega) (by omega))) ?_
    refine WL.q (Wn.no rfl) rfl rfl (R.move (v := (vi ((k + 1 : Nat) : Int))) rfl) ?_
    refine WL.nil ?_
    refine thn_n ?_
    rw [pre_set (by omega) rfl] at h_14
    exact ⟨k + 1, _, (by omega), (Ag.upd rfl (Ag.upd rfl (Ag.upd rfl (Ag.upd rfl (Ag.upd rfl (Ag.upd rfl (Ag.upd rfl (Ag.upd rfl (Ag.upd rfl (Ag.upd rfl (Ag.upd rfl (Ag.updL rfl (Ag.mix _ _ _))))))))))))), ⟨rfl, trivial⟩, h_14, (by omega), rfl⟩
  · have p_15 := of_decide_eq_false c_8
    refine WP.exit ?_
    refine thn_x ?_
    refine thn_x ?_
    refine inb_hit ?_
    refine thn_n ?_
    refine WP.seq ?_
    refine WP.reg ?_
    refine WL.q (Wn.no rfl) rfl rfl (R.loadA (b := b_1) (off := 0) [] [(256, (pre 256 (fun i => sub (UInt8.ofNat i)) k).map vu8)] [] (cs := (pre 256 (fun i => sub (UInt8.ofNat i)) k).map vu8) rfl Try.isAgg72 Try.sizeOf72 (h_5.ok _ (.head _)) rfl rfl rfl rfl) ?_
    refine WL.storeA (b := b_1) (off := 0) [] [(256, (pre 256 (fun i => sub (UInt8.ofNat i)) k).map vu8)] [(256, (pre 256 (fun i => sub (UInt8.ofNat i)) k).map vu8)] [] (ys := (pre 256 (fun i => sub (UInt8.ofNat i)) k).map vu8) h_5 rfl rfl Try.sizeOf72 At.h (by decide) rfl rfl rfl rfl rfl rfl (SsOk.cons (SOk.u8 (pre_len hk)) SsOk.nil) (fun w_16 h_17 => ?_)
    refine WL.nil ?_
    refine thn_n ?_
    refine WP.ret ?_
    refine ret_of Try.results83 (RV.cell rfl (h_17.loadA (cs := (pre 256 (fun i => sub (UInt8.ofNat i)) k).map vu8) Try.isAgg72 Try.sizeOf72 (.head _) rfl rfl) RV.nil) ?_
    have hk2 : k = 256 := by omega
    subst hk2
    exact ⟨by rw [pre_all]; rfl, h_17.chgS⟩

theorem c_tableUnsub  (w : World) :
    Cs Try.prog 83 [(.func (.func 41) [].toArray [].toArray)].toArray w (fun v w1 => v = (.agg ⟨(tabL unsub).map vu8⟩) ∧ Chg w w1 []) := by
  refine Cs.of (n := 15) (args := [(.func (.func 41) [].toArray [].toArray)]) Try.func83 rfl rfl rfl ?_
  have h_0 := HP.init w
  refine WP.seq ?_
  refine WP.reg ?_
  refine WL.alloc (segs := [(256, (List.replicate 256 (0 : UInt8)).map vu8)]) h_0 (zv Try.typeInfo72 rfl) rfl (SsOk.cons (SOk.u8 (List.length_replicate ..)) SsOk.nil) rfl (fun b_1 w_2 h_3 => ?_)
  refine WL.nil ?_
  refine thn_n ?_
  refine WP.seq ?_
  refine WP.seq ?_
  refine WP.reg ?_
  refine WL.q (Wn.no rfl) rfl rfl (R.move (v := (vi 0)) rfl) ?_
  refine WL.nil ?_
  refine thn_n ?_
  refine WP.block ?_
  refine WP.loopG (G := Nat) [3, 4, 5, 6, 7, 8, 9, 10, 11, 12, 13] (fun k => [(4, (vi ((k : Nat) : Int)))]) (fun k m w1 => HP w w1 [.blk b_1 .nw 72 [(256, (pre 256 (fun i => unsub (UInt8.ofNat i)) k).map vu8)]] ∧ (k ≤ 256) ∧ m = 256 - k) ⟨0, _, ⟨rfl, trivial⟩, (by rw [pre_0]; exact h_3), (by omega), rfl⟩ ?_
  rintro k m_6 J_7 w_4 ⟨h_5, hk, rfl⟩
  refine WP.seq ?_
  refine WP.reg ?_
  refine WL.q (Wn.no rfl) rfl rfl (R.bin (v := (.bool (decide ((((k : Nat) : Int) : Int) < 256)))) rfl rfl (bi_lss (r := decide ((((k : Nat) : Int) : Int) < 256)) rfl)) ?_
  refine WL.nil ?_
  refine thn_n ?_
  refine WP.seq ?_
  refine WP.cond (b := decide ((((k : Nat) : Int) : Int) < 256)) rfl (fun c_8 => ?_) (fun c_8 => ?_)
  · have p_9 := of_decide_eq_true c_8
    refine WP.skip ?_
    refine thn_n ?_
    refine WP.seq ?_
    refine WP.block ?_
    refine WP.seq ?_
    refine WP.reg ?_
    refine WL.q (Wn.no rfl) rfl rfl (R.move (v := (vi ((k : Nat) : Int))) rfl) ?_
    refine WL.q (Wn.no rfl) rfl rfl (R.assign (v := (vi ((k : Nat) : Int))) rfl) ?_
    refine WL.nil ?_
    refine thn_n ?_
    refine WP.reg ?_
    refine WL.q (Wn.no rfl) rfl rfl (R.move (v := (vi ((k : Nat) : Int))) rfl) ?_
    refine WL.q (Wn.no rfl) rfl rfl (R.move (v := (.func (.func 41) [].toArray [].toArray)) rfl) ?_
    refine WL.q (Wn.no rfl) rfl rfl (R.move (v := (vi ((k : Nat) : Int))) rfl) ?_
    refine WL.q (Wn.no rfl) rfl rfl (R.conv (b := ((UInt8.ofNat k) : UInt8).toNat) rfl Try.underlying3 Try.underlying5 (w8_nat k)) ?_
    refine WL.call (al := [(vu8 (UInt8.ofNat k))]) Try.call41 rfl rfl (c_Unsub (UInt8.ofNat k) _ ) rfl ?_
    rintro _ w_11 ⟨rfl, hc_10⟩
    have h_12 := h_5.same hc_10
    refine WL.q (Wn.no rfl) rfl rfl (R.indexA (b := b_1) (off := 0) (off' := (0 + k)) (i := k) rfl rfl rfl (by omega) Try.underlying72 Try.sizeOf5 (by rw [Nat.mul_one])) ?_
    refine WL.storeE (b := b_1) (off := (0 + k)) (i := k) (v := (vu8 (unsub (UInt8.ofNat k)))) (cs' := ((pre 256 (fun i => unsub (UInt8.ofNat i)) k).set k (unsub (UInt8.ofNat k))).map vu8) h_12 rfl rfl Try.sizeOf5 rfl At.h (by decide) Sg.h rfl (lt_len (K := 256) (len_map (pre_len hk)) (by omega)) (set_u8 _ _ _) (fun w_13 h_14 => ?_)
    refine WL.nil ?_
    refine inb_n ?_
    refine thn_n ?_
    refine WP.reg ?_
    refine WL.q (Wn.no rfl) rfl rfl (R.bin (v := (vi ((k + 1 : Nat) : Int))) rfl rfl (bi_add (c := ((k + 1 : Nat) : Int)) (by omega) (by omega))) ?_
    refine WL.q (Wn.no rfl) rfl rfl (R.move (v := (vi ((k + 1 : Nat) : Int))) rfl) ?_
    refine WL.nil ?_
    refine thn_n ?_
    rw [pre_set (by omega) rfl] at h_14
    exact ⟨k + 1, _, (by omega), (Ag.upd rfl (Ag.upd rfl (Ag.upd rfl (Ag.upd rfl (Ag.upd rfl (Ag.upd rfl (Ag.upd rfl (Ag.upd rfl (Ag.upd rfl (Ag.upd rfl (Ag.upd rfl (Ag.updL rfl (Ag.mix _ _ _))))))))))))), ⟨rfl, trivial⟩, h_14, (by omega), rfl⟩
  · have p_15 := of_decide_eq_false c_8
    refine WP.exit ?_
    refine thn_x ?_
    refine thn_x ?_
    refine inb_hit ?_
    refine thn_n ?_
    refine WP.seq ?_
    refine WP.reg ?_
    refine WL.q (Wn.no rfl) rfl rfl (R.loadA (b := b_1) (off := 0) [] [(256, (pre 256 (fun i => unsub (UInt8.ofNat i)) k).map vu8)] [] (cs := (pre 256 (fun i => unsub (UInt8.ofNat i)) k).map vu8) rfl Try.isAgg72 Try.sizeOf72 (h_5.ok _ (.head _)) rfl rfl rfl rfl) ?_
    refine WL.storeA (b := b_1) (off := 0) [] [(256, (pre 256 (fun i => unsub (UInt8.ofNat i)) k).map vu8)] [(256, (pre 256 (fun i => unsub (UInt8.ofNat i)) k).map vu8)] [] (ys := (pre 256 (fun i => unsub (UInt8.ofNat i)) k).map vu8) h_5 rfl rfl Try.sizeOf72 At.h (by decide) rfl rfl rfl rfl rfl rfl (SsOk.cons (SOk.u8 (pre_len hk)) SsOk.nil) (fun w_16 h_17 => ?_)
    refine WL.nil ?_
    refine thn_n ?_
    refine WP.ret ?_
    refine ret_of Try.results83 (RV.cell rfl (h_17.loadA (cs := (pre 256 (fun i => unsub (UInt8.ofNat i)) k).map vu8) Try.isAgg72 Try.sizeOf72 (.head _) rfl rfl) RV.nil) ?_
    have hk2 : k = 256 := by omega
    subst hk2
    exact ⟨by rw [pre_all]; rfl, h_17.chgS⟩

theorem c_with (s k : List UInt8) (hs : s.length = 16) (hk : k.length = 16) (w : World) :
    Cs Try.prog 86 [(.agg ⟨s.map vu8⟩), (.agg ⟨k.map vu8⟩)].toArray w (fun v w1 => v = (.agg ⟨(xorL s k).map vu8⟩) ∧ Chg w w1 []) := by
  refine Cs.of (n := 19) (args := [(.agg ⟨s.map vu8⟩), (.agg ⟨k.map vu8⟩)]) Try.func86 rfl rfl rfl ?_
  have h_0 := HP.init w
  refine WP.seq ?_
  refine WP.reg ?_
  refine WL.box (v := (.agg ⟨s.map vu8⟩)) (segs := [(16, s.map vu8)]) h_0 rfl rfl (SsOk.cons (SOk.u8 hs) SsOk.nil) rfl (fun b_1 w_2 h_3 => ?_)
  refine WL.box (v := (.agg ⟨k.map vu8⟩)) (segs := [(16, k.map vu8)]) h_3 rfl rfl (SsOk.cons (SOk.u8 hk) SsOk.nil) rfl (fun b_4 w_5 h_6 => ?_)
  refine WL.alloc (segs := [(16, (List.replicate 16 (0 : UInt8)).map vu8)]) h_6 (zv Try.typeInfo66 rfl) rfl (SsOk.cons (SOk.u8 (List.length_replicate ..)) SsOk.nil) rfl (fun b_7 w_8 h_9 => ?_)
  refine WL.nil ?_
  refine thn_n ?_
  refine WP.seq ?_
  refine WP.seq ?_
  refine WP.reg ?_
  refine WL.q (Wn.no rfl) rfl rfl (R.move (v := (vi 0)) rfl) ?_
  refine WL.nil ?_
  refine thn_n ?_
  refine WP.block ?_
  refine WP.loopG (G := Nat) [5, 6, 7, 8, 9, 10, 11, 12, 13, 14, 15, 16, 17] (fun i => [(6, (vi ((i : Nat) : Int)))]) (fun i m w1 => HP w w1 [.blk b_7 .nw 66 [(16, (List.replicate 16 (0 : UInt8)).map vu8)], .blk b_4 .nw 66 [(16, k.map vu8)], .blk b_1 .nw 66 [(16, (xk s k i).map vu8)]] ∧ (i ≤ 16) ∧ m = 16 - i) ⟨0, _, ⟨rfl, trivial⟩, (by rw [xk_0]; exact h_9), (by omega), rfl⟩ ?_
  rintro i m_12 J_13 w_10 ⟨h_11, hi, rfl⟩
  refine WP.seq ?_
  refine WP.reg ?_
  refine WL.q (Wn.no rfl) rfl rfl (R.bin (v := (.bool (decide ((((i : Nat) : Int) : Int) < 16)))) rfl rfl (bi_lss (r := decide ((((i : Nat) : Int) : Int) < 16)) rfl)) ?_
  refine WL.nil ?_
  refine thn_n ?_
  refine WP.seq ?_
  refine WP.cond (b := decide ((((i : Nat) : Int) : Int) < 16)) rfl (fun c_14 => ?_) (fun c_14 => ?_)
  · have p_15 := of_decide_eq_true c_14
    refine WP.skip ?_
    refine thn_n ?_
    refine WP.seq ?_
    refine WP.block ?_
    refine WP.seq ?_
    refine WP.reg ?_
    refine WL.q (Wn.no rfl) rfl rfl (R.move (v := (vi ((i : Nat) : Int))) rfl) ?_
    refine WL.q (Wn.no rfl) rfl rfl (R.assign (v := (vi ((i : Nat) : Int))) rfl) ?_
    refine WL.nil ?_
    refine thn_n ?_
    refine WP.drawT (SL w.heap.size [.blk b_7 .nw 66 [(16, (List.replicate 16 (0 : UInt8)).map vu8)], .blk b_4 .nw 66 [(16, k.map vu8)]]) (.q 0 (.q 1 (.q 3 (.q 4 (.q 5 (.s 2 (.q 6 (.q 7 (.s 8 .nil))))))))) (by kernel_rfl) (by kernel_rfl) rfl (by kernel_rfl) (fun w_16 hc_18 => (SL.cons ((h_11.same hc_18).ok _ (.head _)) (SL.cons ((h_11.same hc_18).ok _ (.tail _ (.head _))) (SL.nil _ _)))) (fun w_16 hc_18 => ?_)
    have h_17 := h_11.same hc_18
    refine WT.q rfl (Wn.no rfl) rfl rfl (fun wq hS => R.move (v := (vi ((i : Nat) : Int))) rfl) ?_
    refine WT.q rfl (Wn.no rfl) rfl rfl (fun wq hS => R.indexA (b := b_1) (off := 0) (off' := (0 + i)) (i := i) rfl rfl rfl (by omega) Try.underlying66 Try.sizeOf5 (by rw [Nat.mul_one])) ?_
    refine WT.q rfl (Wn.no rfl) rfl rfl (fun wq hS => R.move (v := (vi ((i : Nat) : Int))) rfl) ?_
    refine WT.q rfl (Wn.no rfl) rfl rfl (fun wq hS => R.indexA (b := b_4) (off := 0) (off' := (0 + i)) (i := i) rfl rfl rfl (by omega) Try.underlying66 Try.sizeOf5 (by rw [Nat.mul_one])) ?_
    refine WT.q rfl (Wn.no rfl) rfl rfl (fun wq hS => R.loadE (b := b_4) (off := (0 + i)) (i := i) (v := (vu8 (k.getD i 0))) rfl Try.isAgg5 (hS _ (.tail _ (.head _))) Sg.h rfl (get_u8 (lt_len (K := 16) hk (by omega)))) ?_
    refine WT.s ?_
    refine Op1.one rfl (Wn.no rfl) ?_
    refine WL.q (Wn.no rfl) rfl rfl (R.loadE (b := b_1) (off := (0 + i)) (i := i) (v := (vu8 ((xk s k i).getD i 0))) rfl Try.isAgg5 (h_17.ok _ (.tail _ (.tail _ (.head _)))) Sg.h rfl (get_u8 (lt_len (K := 16) (xk_len hs hk) (by omega)))) ?_
    refine WL.nil ?_
    refine ⟨(SL.cons (h_17.ok _ (.head _)) (SL.cons (h_17.ok _ (.tail _ (.head _))) (SL.nil _ _))), ?_⟩
    refine WT.q rfl (Wn.no rfl) rfl rfl (fun wq hS => R.bin (v := (vu8 (((xk s k i).getD i 0) ^^^ (k.getD i 0)))) rfl rfl (b8_xor ((xk s k i).getD i 0) (k.getD i 0))) ?_
    refine WT.q rfl (Wn.no rfl) rfl rfl (fun wq hS => R.indexA (b := b_1) (off := 0) (off' := (0 + i)) (i := i) rfl rfl rfl (by omega) Try.underlying66 Try.sizeOf5 (by rw [Nat.mul_one])) ?_
    refine WT.s ?_
    refine Op1.one rfl (Wn.no rfl) ?_
    refine WL.storeE (b := b_1) (off := (0 + i)) (i := i) (v := (vu8 (((xk s k i).getD i 0) ^^^ (k.getD i 0)))) (cs' := ((xk s k i).set i (((xk s k i).getD i 0) ^^^ (k.getD i 0))).map vu8) h_17 rfl rfl Try.sizeOf5 rfl (At.t (At.t At.h)) (by decide) Sg.h rfl (lt_len (K := 16) (len_map (xk_len hs hk)) (by omega)) (set_u8 _ _ _) (fun w_19 h_20 => ?_)
    refine WL.nil ?_
    refine ⟨(SL.cons (h_20.ok _ (.head _)) (SL.cons (h_20.ok _ (.tail _ (.head _))) (SL.nil _ _))), ?_⟩
    refine WT.nil ?_
    refine inb_n ?_
    refine thn_n ?_
    refine WP.reg ?_
    refine WL.q (Wn.no rfl) rfl rfl (R.bin (v := (vi ((i + 1 : Nat) : Int))) rfl rfl (bi_add (c := ((i + 1 : Nat) : Int)) (by omega) (by omega))) ?_
    refine WL.q (Wn.no rfl) rfl rfl (R.move (v := (vi ((i + 1 : Nat) : Int))) rfl) ?_
    refine WL.nil ?_
    refine thn_n ?_
    rw [xk_step hs hk (by omega)] at h_20
    exact ⟨i + 1, _, (by omega), (Ag.upd rfl (Ag.upd rfl (Ag.upd rfl (Ag.upd rfl (Ag.upd rfl (Ag.upd rfl (Ag.upd rfl (Ag.upd rfl (Ag.upd rfl (Ag.upd rfl (Ag.upd rfl (Ag.upd rfl (Ag.upd rfl (Ag.updL rfl (Ag.mix _ _ _))))))))))))))), ⟨rfl, trivial⟩, h_20, (by omega), rfl⟩
  · have p_21 := of_decide_eq_false c_14
    refine WP.exit ?_
    refine thn_x ?_
    refine thn_x ?_
    refine inb_hit ?_
    refine thn_n ?_
    refine WP.seq ?_
    refine WP.reg ?_
    refine WL.q (Wn.no rfl) rfl rfl (R.loadA (b := b_1) (off := 0) [] [(16, (xk s k i).map vu8)] [] (cs := (xk s k i).map vu8) rfl Try.isAgg66 Try.sizeOf66 (h_11.ok _ (.tail _ (.tail _ (.head _)))) rfl rfl rfl rfl) ?_
    refine WL.storeA (b := b_7) (off := 0) [] [(16, (List.replicate 16 (0 : UInt8)).map vu8)] [(16, (xk s k i).map vu8)] [] (ys := (xk s k i).map vu8) h_11 rfl rfl Try.sizeOf66 At.h (by decide) rfl rfl rfl rfl rfl rfl (SsOk.cons (SOk.u8 (xk_len hs hk)) SsOk.nil) (fun w_22 h_23 => ?_)
    refine WL.nil ?_
    refine thn_n ?_
    refine WP.ret ?_
    refine ret_of Try.results86 (RV.cell rfl (h_23.loadA (cs := (xk s k i).map vu8) Try.isAgg66 Try.sizeOf66 (.head _) rfl rfl) RV.nil) ?_
    have hi2 : i = 16 := by omega
    subst hi2
    exact ⟨by rw [xk_16 hs hk]; rfl, h_23.chgS⟩

theorem c_mix1 (c b : Nat) (hc : c < 4) (w : World) :
    Cs Try.prog 93 [(vi ((c : Nat) : Int)), (.pointer (some ⟨b, 0, none⟩))].toArray w (fun v w1 => v = (.slice (some ⟨b, (0 + 4 * c), none⟩) 4 (16 - 4 * c)) ∧ Chg w w1 []) := by
  refine Cs.of (n := 10) (args := [(vi ((c : Nat) : Int)), (.pointer (some ⟨b, 0, none⟩))]) Try.func93 rfl rfl rfl ?_
  have h_0 := HP.init w
  refine WP.seq ?_
  refine WP.reg ?_
  refine WL.q (Wn.no rfl) rfl rfl (R.assign (v := (.slice none 0 0)) rfl) ?_
  refine WL.nil ?_
  refine thn_n ?_
  refine WP.seq ?_
  refine WP.reg ?_
  refine WL.q (Wn.no rfl) rfl rfl (R.move (v := (vi ((c : Nat) : Int))) rfl) ?_
  refine WL.q (Wn.no rfl) rfl rfl (R.bin (v := (vi ((4 * c : Nat) : Int))) rfl rfl (bi_mul (c := ((4 * c : Nat) : Int)) (by omega) (by omega))) ?_
  refine WL.q (Wn.no rfl) rfl rfl (R.move (v := (vi ((c : Nat) : Int))) rfl) ?_
  refine WL.q (Wn.no rfl) rfl rfl (R.bin (v := (vi ((4 * c : Nat) : Int))) rfl rfl (bi_mul (c := ((4 * c : Nat) : Int)) (by omega) (by omega))) ?_
  refine WL.q (Wn.no rfl) rfl rfl (R.bin (v := (vi ((4 * c + 4 : Nat) : Int))) rfl rfl (bi_add (c := ((4 * c + 4 : Nat) : Int)) (by omega) (by omega))) ?_
  refine WL.q (Wn.no rfl) rfl rfl (R.sliceA (b := b) (off := 0) (off' := (0 + (4 * c))) (l := 4 * c) (h := 4 * c + 4) rfl (EvB.it (l := 4 * c) rfl rfl) (EvB.it (l := 4 * c + 4) rfl rfl) (by omega) (by omega) Try.underlying66 Try.sizeOf5 (by rw [if_neg (by omega), Nat.mul_one])) ?_
  refine WL.q (Wn.no rfl) rfl rfl (R.assign (v := (.slice (some ⟨b, (0 + (4 * c)), none⟩) ((4 * c + 4) - (4 * c)) (16 - (4 * c)))) rfl) ?_
  refine WL.nil ?_
  refine thn_n ?_
  refine WP.ret ?_
  refine ret_of Try.results93 (RV.tmp (v := (.slice (some ⟨b, (0 + (4 * c)), none⟩) ((4 * c + 4) - (4 * c)) (16 - (4 * c)))) rfl RV.nil) ?_
  exact ⟨by rw [show 4 * c + 4 - 4 * c = 4 by omega]; rfl, h_0.chgS⟩

theorem c_mix (s f : List UInt8) (hs : s.length = 16) (hf : f.length = 4) (w : World) :
    Cs Try.prog 87 [(.agg ⟨s.map vu8⟩), (.agg ⟨f.map vu8⟩)].toArray w (fun v w1 => v = (.agg ⟨(mixL s f).map vu8⟩) ∧ Chg w w1 []) := by
  refine Cs.of (n := 41) (args := [(.agg ⟨s.map vu8⟩), (.agg ⟨f.map vu8⟩)]) Try.func87 rfl rfl rfl ?_
  have h_0 := HP.init w
  refine WP.seq ?_
  refine WP.reg ?_
  refine WL.box (v := (.agg ⟨s.map vu8⟩)) (segs := [(16, s.map vu8)]) h_0 rfl rfl (SsOk.cons (SOk.u8 hs) SsOk.nil) rfl (fun b_1 w_2 h_3 => ?_)
  refine WL.box (v := (.agg ⟨f.map vu8⟩)) (segs := [(4, f.map vu8)]) h_3 rfl rfl (SsOk.cons (SOk.u8 hf) SsOk.nil) rfl (fun b_4 w_5 h_6 => ?_)
  refine WL.alloc (segs := [(16, (List.replicate 16 (0 : UInt8)).map vu8)]) h_6 (zv Try.typeInfo66 rfl) rfl (SsOk.cons (SOk.u8 (List.length_replicate ..)) SsOk.nil) rfl (fun b_7 w_8 h_9 => ?_)
  refine WL.nil ?_
  refine thn_n ?_
  refine WP.seq ?_
  refine WP.reg ?_
  refine WL.q (Wn.no rfl) rfl rfl (R.makeFuncL (fi := []) (ca := [(.pointer (some ⟨b_1, 0, none⟩))]) rfl rfl) ?_
  refine WL.q (Wn.no rfl) rfl rfl (R.assign (v := (.func (.func 93) [].toArray [(.pointer (some ⟨b_1, 0, none⟩))].toArray)) rfl) ?_
  refine WL.nil ?_
  refine thn_n ?_
  refine WP.seq ?_
  refine WP.seq ?_
  refine WP.reg ?_
  refine WL.q (Wn.no rfl) rfl rfl (R.move (v := (vi 0)) rfl) ?_
  refine WL.nil ?_
  refine thn_n ?_
  refine WP.block ?_
  refine WP.loopG (G := Nat) [6, 7, 8, 10, 11, 12, 13, 14, 15, 16, 17, 18, 19, 20, 21, 22, 23, 24, 25, 26, 27, 28, 29, 30, 31, 32, 33, 34, 35, 36, 37, 38, 39] (fun i => [(10, (vi ((i : Nat) : Int)))]) (fun i m w1 => HP w w1 [.blk b_7 .nw 66 [(16, (pre 16 (mb s f) i).map vu8)], .blk b_4 .nw 100 [(4, f.map vu8)], .blk b_1 .nw 66 [(16, s.map vu8)]] ∧ (i ≤ 16) ∧ m = 16 - i) ⟨0, _, ⟨rfl, trivial⟩, (by rw [pre_0]; exact h_9), (by omega), rfl⟩ ?_
  rintro i m_12 J_13 w_10 ⟨h_11, hi, rfl⟩
  refine WP.seq ?_
  refine WP.reg ?_
  refine WL.q (Wn.no rfl) rfl rfl (R.bin (v := (.bool (decide ((((i : Nat) : Int) : Int) < 16)))) rfl rfl (bi_lss (r := decide ((((i : Nat) : Int) : Int) < 16)) rfl)) ?_
  refine WL.nil ?_
  refine thn_n ?_
  refine WP.seq ?_
  refine WP.cond (b := decide ((((i : Nat) : Int) : Int) < 16)) rfl (fun c_14 => ?_) (fun c_14 => ?_)
  · have p_15 := of_decide_eq_true c_14
    refine WP.skip ?_
    refine thn_n ?_
    refine WP.seq ?_
    refine WP.block ?_
    refine WP.seq ?_
    refine WP.reg ?_
    refine WL.q (Wn.no rfl) rfl rfl (R.move (v := (vi ((i : Nat) : Int))) rfl) ?_
    refine WL.q (Wn.no rfl) rfl rfl (R.assign (v := (vi ((i : Nat) : Int))) rfl) ?_
    refine WL.nil ?_
    refine thn_n ?_
    refine WP.seq ?_
    refine WP.reg ?_
    refine WL.q (Wn.no rfl) rfl rfl (R.move (v := (.func (.func 93) [].toArray [(.pointer (some ⟨b_1, 0, none⟩))].toArray)) rfl) ?_
    refine WL.q (Wn.no rfl) rfl rfl (R.move (v := (vi ((i : Nat) : Int))) rfl) ?_
    refine WL.q (Wn.no rfl) rfl rfl (R.bin (v := (vi ((i / 4 : Nat) : Int))) rfl rfl (bi_quo (c := ((i / 4 : Nat) : Int)) (by first | omega | exact ⟨Int.natCast_nonneg _, by omega⟩) (by omega) (by first | omega | rfl))) ?_
    refine WL.call (al := [(vi ((i / 4 : Nat) : Int)), (.pointer (some ⟨b_1, 0, none⟩))]) Try.call93 rfl rfl (c_mix1 (i / 4) b_1 (by omega) _) rfl ?_
    rintro _ w_16 ⟨rfl, hc_17⟩
    have h_18 := h_11.same hc_17
    refine WL.q (Wn.no rfl) rfl rfl (R.lenS (a := some ⟨b_1, (0 + 4 * (i / 4)), none⟩) (m := 4) rfl rfl Try.underlying23) ?_
    refine WL.q (Wn.no rfl) rfl rfl (R.move (v := (vi 0)) rfl) ?_
    refine WL.nil ?_
    refine thn_n ?_
    refine WP.block ?_
    refine WP.loopU (WI.round ?_)
    refine WP.seq ?_
    refine WP.reg ?_
    refine WL.q (Wn.no rfl) rfl rfl (R.bin (v := (.bool true)) rfl rfl (bi_lss (r := true) (by decide))) ?_
    refine WL.nil ?_
    refine thn_n ?_
    refine WP.seq ?_
    refine WP.condT rfl ?_
    refine WP.skip ?_
    refine thn_n ?_
    refine WP.seq ?_
    refine WP.block ?_
    refine WP.seq ?_
    refine WP.reg ?_
    refine WL.q (Wn.no rfl) rfl rfl (R.move (v := (vi 0)) rfl) ?_
    refine WL.q (Wn.no rfl) rfl rfl (R.indexP (b := b_1) (off := (0 + (4 * (i / 4)))) (off' := (0 + (4 * (i / 4)))) (i := 0) rfl rfl rfl (by decide) Try.underlying23 Try.sizeOf5 (by omega)) ?_
    refine WL.q (Wn.no rfl) rfl rfl (R.loadE (b := b_1) (off := (0 + (4 * (i / 4)))) (i := 4 * (i / 4)) (v := (vu8 (s.getD (4 * (i / 4)) 0))) rfl Try.isAgg5 (h_18.ok _ (.tail _ (.tail _ (.head _)))) Sg.h rfl (get_u8 (lt_len (K := 16) hs (by omega)))) ?_
    refine WL.q (Wn.no rfl) rfl rfl (R.assign (v := (vi 0)) rfl) ?_
    refine WL.q (Wn.no rfl) rfl rfl (R.assign (v := (vu8 (s.getD (4 * (i / 4)) 0))) rfl) ?_
    refine WL.nil ?_
    refine thn_n ?_
    refine WP.cutG (G := Unit) [23, 24, 25, 26, 27, 28, 29, 30, 31, 32, 33, 34, 35, 36, 37] (fun _ => [(23, (vi ((i : Nat) : Int))), (24, (.pointer (some ⟨b_7, (0 + i), none⟩))), (26, (vu8 (s.getD (4 * (i / 4)) 0))), (27, (vi 0)), (28, (vi ((i : Nat) : Int))), (29, (vi ((i % 4 : Nat) : Int))), (30, (vi (0 - ((i % 4 : Nat) : Int)))), (31, (vi ((0 + 4 - i % 4 : Nat) : Int))), (32, (vi (((0 + 4 - i % 4) % 4 : Nat) : Int))), (33, (.pointer (some ⟨b_4, (0 + ((0 + 4 - i % 4) % 4)), none⟩))), (34, (vu8 (f.getD ((0 + 4 - i % 4) % 4) 0))), (25, (vu8 ((pre 16 (mb s f) i).getD i 0))), (35, (vu8 (tm (s.getD (4 * (i / 4)) 0) (f.getD ((0 + 4 - i % 4) % 4) 0)))), (36, (vu8 (((pre 16 (mb s f) i).getD i 0) ^^^ (tm (s.getD (4 * (i / 4)) 0) (f.getD ((0 + 4 - i % 4) % 4) 0))))), (37, (.pointer (some ⟨b_7, (0 + i), none⟩)))]) (fun _ w1 => HP w w1 [.blk b_7 .nw 66 [(16, ((pre 16 (mb s f) i).set i (((pre 16 (mb s f) i).getD i 0) ^^^ (tm (s.getD (4 * (i / 4)) 0) (f.getD ((0 + 4 - i % 4) % 4) 0)))).map vu8)], .blk b_4 .nw 100 [(4, f.map vu8)], .blk b_1 .nw 66 [(16, s.map vu8)]]) ?_ ?_
    · refine WP.drawT (SL w.heap.size [.blk b_4 .nw 100 [(4, f.map vu8)], .blk b_1 .nw 66 [(16, s.map vu8)]]) (.q 0 (.q 1 (.q 3 (.q 4 (.q 5 (.q 6 (.q 7 (.q 8 (.q 9 (.q 10 (.q 11 (.s2 2 12 (.s 12 (.q 13 (.q 14 (.s 15 .nil)))) (.s 2 (.q 13 (.q 14 (.s 15 .nil)))))))))))))))) (by kernel_rfl) (by kernel_rfl) rfl (by kernel_rfl) (fun w_19 hc_21 => (SL.cons ((h_18.same hc_21).ok _ (.tail _ (.head _))) (SL.cons ((h_18.same hc_21).ok _ (.tail _ (.tail _ (.head _)))) (SL.nil _ _)))) (fun w_19 hc_21 => ?_)
      have h_20 := h_18.same hc_21
      refine WT.q rfl (Wn.no rfl) rfl rfl (fun wq hS => R.move (v := (vi ((i : Nat) : Int))) rfl) ?_
      refine WT.q rfl (Wn.no rfl) rfl rfl (fun wq hS => R.indexA (b := b_7) (off := 0) (off' := (0 + i)) (i := i) rfl rfl rfl (by omega) Try.underlying66 Try.sizeOf5 (by rw [Nat.mul_one])) ?_
      refine WT.q rfl (Wn.no rfl) rfl rfl (fun wq hS => R.move (v := (vu8 (s.getD (4 * (i / 4)) 0))) rfl) ?_
      refine WT.q rfl (Wn.no rfl) rfl rfl (fun wq hS => R.move (v := (vi 0)) rfl) ?_
      refine WT.q rfl (Wn.no rfl) rfl rfl (fun wq hS => R.move (v := (vi ((i : Nat) : Int))) rfl) ?_
      refine WT.q rfl (Wn.no rfl) rfl rfl (fun wq hS => R.bin (v := (vi ((i % 4 : Nat) : Int))) rfl rfl (bi_rem (c := ((i % 4 : Nat) : Int)) (Int.natCast_nonneg _) (by omega) (by first | omega | rfl))) ?_
      refine WT.q rfl (Wn.no rfl) rfl rfl (fun wq hS => R.bin (v := (vi (0 - ((i % 4 : Nat) : Int)))) rfl rfl (bi_sub (c := 0 - ((i % 4 : Nat) : Int)) (by omega) (by omega))) ?_
      refine WT.q rfl (Wn.no rfl) rfl rfl (fun wq hS => R.bin (v := (vi ((0 + 4 - i % 4 : Nat) : Int))) rfl rfl (bi_add (c := ((0 + 4 - i % 4 : Nat) : Int)) (by omega) (by omega))) ?_
      refine WT.q rfl (Wn.no rfl) rfl rfl (fun wq hS => R.bin (v := (vi (((0 + 4 - i % 4) % 4 : Nat) : Int))) rfl rfl (bi_rem (c := (((0 + 4 - i % 4) % 4 : Nat) : Int)) (Int.natCast_nonneg _) (by omega) (by first | omega | rfl))) ?_
      refine WT.q rfl (Wn.no rfl) rfl rfl (fun wq hS => R.indexA (b := b_4) (off := 0) (off' := (0 + ((0 + 4 - i % 4) % 4))) (i := (0 + 4 - i % 4) % 4) rfl rfl rfl (by omega) Try.underlying100 Try.sizeOf5 (by rw [Nat.mul_one])) ?_
      refine WT.q rfl (Wn.no rfl) rfl rfl (fun wq hS => R.loadE (b := b_4) (off := (0 + ((0 + 4 - i % 4) % 4))) (i := (0 + 4 - i % 4) % 4) (v := (vu8 (f.getD ((0 + 4 - i % 4) % 4) 0))) rfl Try.isAgg5 (hS _ (.head _)) Sg.h rfl (get_u8 (lt_len (K := 4) hf (by omega)))) ?_
      refine WT.s2 ?_ ?_
      · refine Op1.one rfl (Wn.no rfl) ?_
        refine WL.q (Wn.no rfl) rfl rfl (R.loadE (b := b_7) (off := (0 + i)) (i := i) (v := (vu8 ((pre 16 (mb s f) i).getD i 0))) rfl Try.isAgg5 (h_20.ok _ (.head _)) Sg.h rfl (get_u8 (lt_len (K := 16) (pre_len hi) (by omega)))) ?_
        refine WL.nil ?_
        refine ⟨(SL.cons (h_20.ok _ (.tail _ (.head _))) (SL.cons (h_20.ok _ (.tail _ (.tail _ (.head _)))) (SL.nil _ _))), ?_⟩
        refine WT.s ?_
        refine Op1.one rfl (Wn.no rfl) ?_
        refine WL.call (al := [(vu8 (s.getD (4 * (i / 4)) 0)), (vu8 (f.getD ((0 + 4 - i % 4) % 4) 0))]) Try.call35 rfl rfl (c_Times (s.getD (4 * (i / 4)) 0) (f.getD ((0 + 4 - i % 4) % 4) 0) _ ) rfl ?_
        rintro _ w_23 ⟨rfl, hc_22⟩
        have h_24 := h_20.same hc_22
        refine WL.nil ?_
        refine ⟨(SL.cons (h_24.ok _ (.tail _ (.head _))) (SL.cons (h_24.ok _ (.tail _ (.tail _ (.head _)))) (SL.nil _ _))), ?_⟩
        refine WT.q rfl (Wn.no rfl) rfl rfl (fun wq hS => R.bin (v := (vu8 (((pre 16 (mb s f) i).getD i 0) ^^^ (tm (s.getD (4 * (i / 4)) 0) (f.getD ((0 + 4 - i % 4) % 4) 0))))) rfl rfl (b8_xor ((pre 16 (mb s f) i).getD i 0) (tm (s.getD (4 * (i / 4)) 0) (f.getD ((0 + 4 - i % 4) % 4) 0)))) ?_
        refine WT.q rfl (Wn.no rfl) rfl rfl (fun wq hS => R.indexA (b := b_7) (off := 0) (off' := (0 + i)) (i := i) rfl rfl rfl (by omega) Try.underlying66 Try.sizeOf5 (by rw [Nat.mul_one])) ?_
        refine WT.s ?_
        refine Op1.one rfl (Wn.no rfl) ?_
        refine WL.storeE (b := b_7) (off := (0 + i)) (i := i) (v := (vu8 (((pre 16 (mb s f) i).getD i 0) ^^^ (tm (s.getD (4 * (i / 4)) 0) (f.getD ((0 + 4 - i % 4) % 4) 0))))) (cs' := ((pre 16 (mb s f) i).set i (((pre 16 (mb s f) i).getD i 0) ^^^ (tm (s.getD (4 * (i / 4)) 0) (f.getD ((0 + 4 - i % 4) % 4) 0)))).map vu8) h_24 rfl rfl Try.sizeOf5 rfl At.h (by decide) Sg.h rfl (lt_len (K := 16) (len_map (pre_len hi)) (by omega)) (set_u8 _ _ _) (fun w_25 h_26 => ?_)
        refine WL.nil ?_
        refine ⟨(SL.cons (h_26.ok _ (.tail _ (.head _))) (SL.cons (h_26.ok _ (.tail _ (.tail _ (.head _)))) (SL.nil _ _))), ?_⟩
        refine WT.nil ?_
        refine thn_n ?_
        exact ⟨(), (Ag.upd rfl (Ag.upd rfl (Ag.upd rfl (Ag.upd rfl (Ag.upd rfl (Ag.upd rfl (Ag.upd rfl (Ag.upd rfl (Ag.upd rfl (Ag.upd rfl (Ag.upd rfl (Ag.upd rfl (Ag.upd rfl (Ag.upd rfl (Ag.upd rfl (Ag.refl _ _)))))))))))))))), ⟨rfl, rfl, rfl, rfl, rfl, rfl, rfl, rfl, rfl, rfl, rfl, rfl, rfl, rfl, rfl, trivial⟩, h_26⟩
      · refine Op1.one rfl (Wn.no rfl) ?_
        refine WL.call (al := [(vu8 (s.getD (4 * (i / 4)) 0)), (vu8 (f.getD ((0 + 4 - i % 4) % 4) 0))]) Try.call35 rfl rfl (c_Times (s.getD (4 * (i / 4)) 0) (f.getD ((0 + 4 - i % 4) % 4) 0) _ ) rfl ?_
        rintro _ w_28 ⟨rfl, hc_27⟩
        have h_29 := h_20.same hc_27
        refine WL.nil ?_
        refine ⟨(SL.cons (h_29.ok _ (.tail _ (.head _))) (SL.cons (h_29.ok _ (.tail _ (.tail _ (.head _)))) (SL.nil _ _))), ?_⟩
        refine WT.s ?_
        refine Op1.one rfl (Wn.no rfl) ?_
        refine WL.q (Wn.no rfl) rfl rfl (R.loadE (b := b_7) (off := (0 + i)) (i := i) (v := (vu8 ((pre 16 (mb s f) i).getD i 0))) rfl Try.isAgg5 (h_29.ok _ (.head _)) Sg.h rfl (get_u8 (lt_len (K := 16) (pre_len hi) (by omega)))) ?_
        refine WL.nil ?_
        refine ⟨(SL.cons (h_29.ok _ (.tail _ (.head _))) (SL.cons (h_29.ok _ (.tail _ (.tail _ (.head _)))) (SL.nil _ _))), ?_⟩
        refine WT.q rfl (Wn.no rfl) rfl rfl (fun wq hS => R.bin (v := (vu8 (((pre 16 (mb s f) i).getD i 0) ^^^ (tm (s.getD (4 * (i / 4)) 0) (f.getD ((0 + 4 - i % 4) % 4) 0))))) rfl rfl (b8_xor ((pre 16 (mb s f) i).getD i 0) (tm (s.getD (4 * (i / 4)) 0) (f.getD ((0 + 4 - i % 4) % 4) 0)))) ?_
        refine WT.q rfl (Wn.no rfl) rfl rfl (fun wq hS => R.indexA (b := b_7) (off := 0) (off' := (0 + i)) (i := i) rfl rfl rfl (by omega) Try.underlying66 Try.sizeOf5 (by rw [Nat.mul_one])) ?_
        refine WT.s ?_
        refine Op1.one rfl (Wn.no rfl) ?_
        refine WL.storeE (b := b_7) (off := (0 + i)) (i := i) (v := (vu8 (((pre 16 (mb s f) i).getD i 0) ^^^ (tm (s.getD (4 * (i / 4)) 0) (f.getD ((0 + 4 - i % 4) % 4) 0))))) (cs' := ((pre 16 (mb s f) i).set i (((pre 16 (mb s f) i).getD i 0) ^^^ (tm (s.getD (4 * (i / 4)) 0) (f.getD ((0 + 4 - i % 4) % 4) 0)))).map vu8) h_29 rfl rfl Try.sizeOf5 rfl At.h (by decide) Sg.h rfl (lt_len (K := 16) (len_map (pre_len hi)) (by omega)) (set_u8 _ _ _) (fun w_30 h_31 => ?_)
        refine WL.nil ?_
        refine ⟨(SL.cons (h_31.ok _ (.tail _ (.head _))) (SL.cons (h_31.ok _ (.tail _ (.tail _ (.head _)))) (SL.nil _ _))), ?_⟩
        refine WT.nil ?_
        refine thn_n ?_
        exact ⟨(), (Ag.upd rfl (Ag.upd rfl (Ag.upd rfl (Ag.upd rfl (Ag.upd rfl (Ag.upd rfl (Ag.upd rfl (Ag.upd rfl (Ag.upd rfl (Ag.upd rfl (Ag.upd rfl (Ag.upd rfl (Ag.upd rfl (Ag.upd rfl (Ag.upd rfl (Ag.refl _ _)))))))))))))))), ⟨rfl, rfl, rfl, rfl, rfl, rfl, rfl, rfl, rfl, rfl, rfl, rfl, rfl, rfl, rfl, trivial⟩, h_31⟩
    · rintro _ J_32 w_33 h_34
      refine inb_n ?_
      refine thn_n ?_
      refine WP.reg ?_
      refine WL.q (Wn.no rfl) rfl rfl (R.bin (v := (vi 1)) rfl rfl (bi_add (c := 1) (by omega) (by omega))) ?_
      refine WL.q (Wn.no rfl) rfl rfl (R.move (v := (vi 1)) rfl) ?_
      refine WL.nil ?_
      refine thn_n ?_
      refine WI.round ?_
      refine WP.seq ?_
      refine WP.reg ?_
      refine WL.q (Wn.no rfl) rfl rfl (R.bin (v := (.bool true)) rfl rfl (bi_lss (r := true) (by decide))) ?_
      refine WL.nil ?_
      refine thn_n ?_
      refine WP.seq ?_
      refine WP.condT rfl ?_
      refine WP.skip ?_
      refine thn_n ?_
      refine WP.seq ?_
      refine WP.block ?_
      refine WP.seq ?_
      refine WP.reg ?_
      refine WL.q (Wn.no rfl) rfl rfl (R.move (v := (vi 1)) rfl) ?_
      refine WL.q (Wn.no rfl) rfl rfl (R.indexP (b := b_1) (off := (0 + (4 * (i / 4)))) (off' := (1 + (4 * (i / 4)))) (i := 1) rfl rfl rfl (by decide) Try.underlying23 Try.sizeOf5 (by omega)) ?_
      refine WL.q (Wn.no rfl) rfl rfl (R.loadE (b := b_1) (off := (1 + (4 * (i / 4)))) (i := 4 * (i / 4) + 1) (v := (vu8 (s.getD (4 * (i / 4) + 1) 0))) rfl Try.isAgg5 (h_34.ok _ (.tail _ (.tail _ (.head _)))) Sg.h (by omega) (get_u8 (lt_len (K := 16) hs (by omega)))) ?_
      refine WL.q (Wn.no rfl) rfl rfl (R.assign (v := (vi 1)) rfl) ?_
      refine WL.q (Wn.no rfl) rfl rfl (R.assign (v := (vu8 (s.getD (4 * (i / 4) + 1) 0))) rfl) ?_
      refine WL.nil ?_
      refine thn_n ?_
      refine WP.drawT (SL w.heap.size [.blk b_4 .nw 100 [(4, f.map vu8)], .blk b_1 .nw 66 [(16, s.map vu8)]]) (.q 0 (.q 1 (.q 3 (.q 4 (.q 5 (.q 6 (.q 7 (.q 8 (.q 9 (.q 10 (.q 11 (.s2 2 12 (.s 12 (.q 13 (.q 14 (.s 15 .nil)))) (.s 2 (.q 13 (.q 14 (.s 15 .nil)))))))))))))))) (by kernel_rfl) (by kernel_rfl) rfl (by kernel_rfl) (fun w_35 hc_37 => (SL.cons ((h_34.same hc_37).ok _ (.tail _ (.head _))) (SL.cons ((h_34.same hc_37).ok _ (.tail _ (.tail _ (.head _)))) (SL.nil _ _)))) (fun w_35 hc_37 => ?_)
      have h_36 := h_34.same hc_37
      refine WT.q rfl (Wn.no rfl) rfl rfl (fun wq hS => R.move (v := (vi ((i : Nat) : Int))) rfl) ?_
      refine WT.q rfl (Wn.no rfl) rfl rfl (fun wq hS => R.indexA (b := b_7) (off := 0) (off' := (0 + i)) (i := i) rfl rfl rfl (by omega) Try.underlying66 Try.sizeOf5 (by rw [Nat.mul_one])) ?_
      refine WT.q rfl (Wn.no rfl) rfl rfl (fun wq hS => R.move (v := (vu8 (s.getD (4 * (i / 4) + 1) 0))) rfl) ?_
      refine WT.q rfl (Wn.no rfl) rfl rfl (fun wq hS => R.move (v := (vi 1)) rfl) ?_
      refine WT.q rfl (Wn.no rfl) rfl rfl (fun wq hS => R.move (v := (vi ((i : Nat) : Int))) rfl) ?_
      refine WT.q rfl (Wn.no rfl) rfl rfl (fun wq hS => R.bin (v := (vi ((i % 4 : Nat) : Int))) rfl rfl (bi_rem (c := ((i % 4 : Nat) : Int)) (Int.natCast_nonneg _) (by omega) (by first | omega | rfl))) ?_
      refine WT.q rfl (Wn.no rfl) rfl rfl (fun wq hS => R.bin (v := (vi (1 - ((i % 4 : Nat) : Int)))) rfl rfl (bi_sub (c := 1 - ((i % 4 : Nat) : Int)) (by omega) (by omega))) ?_
      refine WT.q rfl (Wn.no rfl) rfl rfl (fun wq hS => R.bin (v := (vi ((1 + 4 - i % 4 : Nat) : Int))) rfl rfl (bi_add (c := ((1 + 4 - i % 4 : Nat) : Int)) (by omega) (by omega))) ?_
      refine WT.q rfl (Wn.no rfl) rfl rfl (fun wq hS => R.bin (v := (vi (((1 + 4 - i % 4) % 4 : Nat) : Int))) rfl rfl (bi_rem (c := (((1 + 4 - i % 4) % 4 : Nat) : Int)) (Int.natCast_nonneg _) (by omega) (by first | omega | rfl))) ?_
      refine WT.q rfl (Wn.no rfl) rfl rfl (fun wq hS => R.indexA (b := b_4) (off := 0) (off' := (0 + ((1 + 4 - i % 4) % 4))) (i := (1 + 4 - i % 4) % 4) rfl rfl rfl (by omega) Try.underlying100 Try.sizeOf5 (by rw [Nat.mul_one])) ?_
      refine WT.q rfl (Wn.no rfl) rfl rfl (fun wq hS => R.loadE (b := b_4) (off := (0 + ((1 + 4 - i % 4) % 4))) (i := (1 + 4 - i % 4) % 4) (v := (vu8 (f.getD ((1 + 4 - i % 4) % 4) 0))) rfl Try.isAgg5 (hS _ (.head _)) Sg.h rfl (get_u8 (lt_len (K := 4) hf (by omega)))) ?_
      refine WT.s2 ?_ ?_
      · refine Op1.one rfl (Wn.no rfl) ?_
        refine WL.q (Wn.no rfl) rfl rfl (R.loadE (b := b_7) (off := (0 + i)) (i := i) (v := (vu8 (((pre 16 (mb s f) i).set i (((pre 16 (mb s f) i).getD i 0) ^^^ (tm (s.getD (4 * (i / 4)) 0) (f.getD ((0 + 4 - i % 4) % 4) 0)))).getD i 0))) rfl Try.isAgg5 (h_36.ok _ (.head _)) Sg.h rfl (get_u8 (lt_len (K := 16) (len_set (pre_len hi) _ _) (by omega)))) ?_
        refine WL.nil ?_
        refine ⟨(SL.cons (h_36.ok _ (.tail _ (.head _))) (SL.cons (h_36.ok _ (.tail _ (.tail _ (.head _)))) (SL.nil _ _))), ?_⟩
        refine WT.s ?_
        refine Op1.one rfl (Wn.no rfl) ?_
        refine WL.call (al := [(vu8 (s.getD (4 * (i / 4) + 1) 0)), (vu8 (f.getD ((1 + 4 - i % 4) % 4) 0))]) Try.call35 rfl rfl (c_Times (s.getD (4 * (i / 4) + 1) 0) (f.getD ((1 + 4 - i % 4) % 4) 0) _ ) rfl ?_
        rintro _ w_39 ⟨rfl, hc_38⟩
        have h_40 := h_36.same hc_38
        refine WL.nil ?_
        refine ⟨(SL.cons (h_40.ok _ (.tail _ (.head _))) (SL.cons (h_40.ok _ (.tail _ (.tail _ (.head _)))) (SL.nil _ _))), ?_⟩
        refine WT.q rfl (Wn.no rfl) rfl rfl (fun wq hS => R.bin (v := (vu8 ((((pre 16 (mb s f) i).set i (((pre 16 (mb s f) i).getD i 0) ^^^ (tm (s.getD (4 * (i / 4)) 0) (f.getD ((0 + 4 - i % 4) % 4) 0)))).getD i 0) ^^^ (tm (s.getD (4 * (i / 4) + 1) 0) (f.getD ((1 + 4 - i % 4) % 4) 0))))) rfl rfl (b8_xor (((pre 16 (mb s f) i).set i (((pre 16 (mb s f) i).getD i 0) ^^^ (tm (s.getD (4 * (i / 4)) 0) (f.getD ((0 + 4 - i % 4) % 4) 0)))).getD i 0) (tm (s.getD (4 * (i / 4) + 1) 0) (f.getD ((1 + 4 - i % 4) % 4) 0)))) ?_
        refine WT.q rfl (Wn.no rfl) rfl rfl (fun wq hS => R.indexA (b := b_7) (off := 0) (off' := (0 + i)) (i := i) rfl rfl rfl (by omega) Try.underlying66 Try.sizeOf5 (by rw [Nat.mul_one])) ?_
        refine WT.s ?_
        refine Op1.one rfl (Wn.no rfl) ?_
        refine WL.storeE (b := b_7) (off := (0 + i)) (i := i) (v := (vu8 ((((pre 16 (mb s f) i).set i (((pre 16 (mb s f) i).getD i 0) ^^^ (tm (s.getD (4 * (i / 4)) 0) (f.getD ((0 + 4 - i % 4) % 4) 0)))).getD i 0) ^^^ (tm (s.getD (4 * (i / 4) + 1) 0) (f.getD ((1 + 4 - i % 4) % 4) 0))))) (cs' := (((pre 16 (mb s f) i).set i (((pre 16 (mb s f) i).getD i 0) ^^^ (tm (s.getD (4 * (i / 4)) 0) (f.getD ((0 + 4 - i % 4) % 4) 0)))).set i ((((pre 16 (mb s f) i).set i (((pre 16 (mb s f) i).getD i 0) ^^^ (tm (s.getD (4 * (i / 4)) 0) (f.getD ((0 + 4 - i % 4) % 4) 0)))).getD i 0) ^^^ (tm (s.getD (4 * (i / 4) + 1) 0) (f.getD ((1 + 4 - i % 4) % 4) 0)))).map vu8) h_40 rfl rfl Try.sizeOf5 rfl At.h (by decide) Sg.h rfl (lt_len (K := 16) (len_map (len_set (pre_len hi) _ _)) (by omega)) (set_u8 _ _ _) (fun w_41 h_42 => ?_)
        refine WL.nil ?_
        refine ⟨(SL.cons (h_42.ok _ (.tail _ (.head _))) (SL.cons (h_42.ok _ (.tail _ (.tail _ (.head _)))) (SL.nil _ _))), ?_⟩
        refine WT.nil ?_
        refine inb_n ?_
        refine thn_n ?_
        refine WP.reg ?_
        refine WL.q (Wn.no rfl) rfl rfl (R.bin (v := (vi 2)) rfl rfl (bi_add (c := 2) (by omega) (by omega))) ?_
        refine WL.q (Wn.no rfl) rfl rfl (R.move (v := (vi 2)) rfl) ?_
        refine WL.nil ?_
        refine thn_n ?_
        refine WI.round ?_
        refine WP.seq ?_
        refine WP.reg ?_
        refine WL.q (Wn.no rfl) rfl rfl (R.bin (v := (.bool true)) rfl rfl (bi_lss (r := true) (by decide))) ?_
        refine WL.nil ?_
        refine thn_n ?_
        refine WP.seq ?_
        refine WP.condT rfl ?_
        refine WP.skip ?_
        refine thn_n ?_
        refine WP.seq ?_
        refine WP.block ?_
        refine WP.seq ?_
        refine WP.reg ?_
        refine WL.q (Wn.no rfl) rfl rfl (R.move (v := (vi 2)) rfl) ?_
        refine WL.q (Wn.no rfl) rfl rfl (R.indexP (b := b_1) (off := (0 + (4 * (i / 4)))) (off' := (2 + (4 * (i / 4)))) (i := 2) rfl rfl rfl (by decide) Try.underlying23 Try.sizeOf5 (by omega)) ?_
        refine WL.q (Wn.no rfl) rfl rfl (R.loadE (b := b_1) (off := (2 + (4 * (i / 4)))) (i := 4 * (i / 4) + 2) (v := (vu8 (s.getD (4 * (i / 4) + 2) 0))) rfl Try.isAgg5 (h_42.ok _ (.tail _ (.tail _ (.head _)))) Sg.h (by omega) (get_u8 (lt_len (K := 16) hs (by omega)))) ?_
        refine WL.q (Wn.no rfl) rfl rfl (R.assign (v := (vi 2)) rfl) ?_
        refine WL.q (Wn.no rfl) rfl rfl (R.assign (v := (vu8 (s.getD (4 * (i / 4) + 2) 0))) rfl) ?_
        refine WL.nil ?_
        refine thn_n ?_
        refine WP.drawT (SL w.heap.size [.blk b_4 .nw 100 [(4, f.map vu8)], .blk b_1 .nw 66 [(16, s.map vu8)]]) (.q 0 (.q 1 (.q 3 (.q 4 (.q 5 (.q 6 (.q 7 (.q 8 (.q 9 (.q 10 (.q 11 (.s2 2 12 (.s 12 (.q 13 (.q 14 (.s 15 .nil)))) (.s 2 (.q 13 (.q 14 (.s 15 .nil)))))))))))))))) (by kernel_rfl) (by kernel_rfl) rfl (by kernel_rfl) (fun w_43 hc_45 => (SL.cons ((h_42.same hc_45).ok _ (.tail _ (.head _))) (SL.cons ((h_42.same hc_45).ok _ (.tail _ (.tail _ (.head _)))) (SL.nil _ _)))) (fun w_43 hc_45 => ?_)
        have h_44 := h_42.same hc_45
        refine WT.q rfl (Wn.no rfl) rfl rfl (fun wq hS => R.move (v := (vi ((i : Nat) : Int))) rfl) ?_
        refine WT.q rfl (Wn.no rfl) rfl rfl (fun wq hS => R.indexA (b := b_7) (off := 0) (off' := (0 + i)) (i := i) rfl rfl rfl (by omega) Try.underlying66 Try.sizeOf5 (by rw [Nat.mul_one])) ?_
        refine WT.q rfl (Wn.no rfl) rfl rfl (fun wq hS => R.move (v := (vu8 (s.getD (4 * (i / 4) + 2) 0))) rfl) ?_
        refine WT.q rfl (Wn.no rfl) rfl rfl (fun wq hS => R.move (v := (vi 2)) rfl) ?_
        refine WT.q rfl (Wn.no rfl) rfl rfl (fun wq hS => R.move (v := (vi ((i : Nat) : Int))) rfl) ?_
        refine WT.q rfl (Wn.no rfl) rfl rfl (fun wq hS => R.bin (v := (vi ((i % 4 : Nat) : Int))) rfl rfl (bi_rem (c := ((i % 4 : Nat) : Int)) (Int.natCast_nonneg _) (by omega) (by first | omega | rfl))) ?_
        refine WT.q rfl (Wn.no rfl) rfl rfl (fun wq hS => R.bin (v := (vi (2 - ((i % 4 : Nat) : Int)))) rfl rfl (bi_sub (c := 2 - ((i % 4 : Nat) : Int)) (by omega) (by omega))) ?_
        refine WT.q rfl (Wn.no rfl) rfl rfl (fun wq hS => R.bin (v := (vi ((2 + 4 - i % 4 : Nat) : Int))) rfl rfl (bi_add (c := ((2 + 4 - i % 4 : Nat) : Int)) (by omega) (by omega))) ?_
        refine WT.q rfl (Wn.no rfl) rfl rfl (fun wq hS => R.bin (v := (vi (((2 + 4 - i % 4) % 4 : Nat) : Int))) rfl rfl (bi_rem (c := (((2 + 4 - i % 4) % 4 : Nat) : Int)) (Int.natCast_nonneg _) (by omega) (by first | omega | rfl))) ?_
        refine WT.q rfl (Wn.no rfl) rfl rfl (fun wq hS => R.indexA (b := b_4) (off := 0) (off' := (0 + ((2 + 4 - i % 4) % 4))) (i := (2 + 4 - i % 4) % 4) rfl rfl rfl (by omega) Try.underlying100 Try.sizeOf5 (by rw [Nat.mul_one])) ?_
        refine WT.q rfl (Wn.no rfl) rfl rfl (fun wq hS => R.loadE (b := b_4) (off := (0 + ((2 + 4 - i % 4) % 4))) (i := (2 + 4 - i % 4) % 4) (v := (vu8 (f.getD ((2 + 4 - i % 4) % 4) 0))) rfl Try.isAgg5 (hS _ (.head _)) Sg.h rfl (get_u8 (lt_len (K := 4) hf (by omega)))) ?_
        refine WT.s2 ?_ ?_
        · refine Op1.one rfl (Wn.no rfl) ?_
          refine WL.q (Wn.no rfl) rfl rfl (R.loadE (b := b_7) (off := (0 + i)) (i := i) (v := (vu8 ((((pre 16 (mb s f) i).set i (((pre 16 (mb s f) i).getD i 0) ^^^ (tm (s.getD (4 * (i / 4)) 0) (f.getD ((0 + 4 - i % 4) % 4) 0)))).set i ((((pre 16 (mb s f) i).set i (((pre 16 (mb s f) i).getD i 0) ^^^ (tm (s.getD (4 * (i / 4)) 0) (f.getD ((0 + 4 - i % 4) % 4) 0)))).getD i 0) ^^^ (tm (s.getD (4 * (i / 4) + 1) 0) (f.getD ((1 + 4 - i % 4) % 4) 0)))).getD i 0))) rfl Try.isAgg5 (h_44.ok _ (.head _)) Sg.h rfl (get_u8 (lt_len (K := 16) (len_set (len_set (pre_len hi) _ _) _ _) (by omega)))) ?_
          refine WL.nil ?_
          refine ⟨(SL.cons (h_44.ok _ (.tail _ (.head _))) (SL.cons (h_44.ok _ (.tail _ (.tail _ (.head _)))) (SL.nil _ _))), ?_⟩
          refine WT.s ?_
          refine Op1.one rfl (Wn.no rfl) ?_
          refine WL.call (al := [(vu8 (s.getD (4 * (i / 4) + 2) 0)), (vu8 (f.getD ((2 + 4 - i % 4) % 4) 0))]) Try.call35 rfl rfl (c_Times (s.getD (4 * (i / 4) + 2) 0) (f.getD ((2 + 4 - i % 4) % 4) 0) _ ) rfl ?_
          rintro _ w_47 ⟨rfl, hc_46⟩
          have h_48 := h_44.same hc_46
          refine WL.nil ?_
          refine ⟨(SL.cons (h_48.ok _ (.tail _ (.head _))) (SL.cons (h_48.ok _ (.tail _ (.tail _ (.head _)))) (SL.nil _ _))), ?_⟩
          refine WT.q rfl (Wn.no rfl) rfl rfl (fun wq hS => R.bin (v := (vu8 (((((pre 16 (mb s f) i).set i (((pre 16 (mb s f) i).getD i 0) ^^^ (tm (s.getD (4 * (i / 4)) 0) (f.getD ((0 + 4 - i % 4) % 4) 0)))).set i ((((pre 16 (mb s f) i).set i (((pre 16 (mb s f) i).getD i 0) ^^^ (tm (s.getD (4 * (i / 4)) 0) (f.getD ((0 + 4 - i % 4) % 4) 0)))).getD i 0) ^^^ (tm (s.getD (4 * (i / 4) + 1) 0) (f.getD ((1 + 4 - i % 4) % 4) 0)))).getD i 0) ^^^ (tm (s.getD (4 * (i / 4) + 2) 0) (f.getD ((2 + 4 - i % 4) % 4) 0))))) rfl rfl (b8_xor ((((pre 16 (mb s f) i).set i (((pre 16 (mb s f) i).getD i 0) ^^^ (tm (s.getD (4 * (i / 4)) 0) (f.getD ((0 + 4 - i % 4) % 4) 0)))).set i ((((pre 16 (mb s f) i).set i (((pre 16 (mb s f) i).getD i 0) ^^^ (tm (s.getD (4 * (i / 4)) 0) (f.getD ((0 + 4 - i % 4) % 4) 0)))).getD i 0) ^^^ (tm (s.getD (4 * (i / 4) + 1) 0) (f.getD ((1 + 4 - i % 4) % 4) 0)))).getD i 0) (tm (s.getD (4 * (i / 4) + 2) 0) (f.getD ((2 + 4 - i % 4) % 4) 0)))) ?_
          refine WT.q rfl (Wn.no rfl) rfl rfl (fun wq hS => R.indexA (b := b_7) (off := 0) (off' := (0 + i)) (i := i) rfl rfl rfl (by omega) Try.underlying66 Try.sizeOf5 (by rw [Nat.mul_one])) ?_
          refine WT.s ?_
          refine Op1.one rfl (Wn.no rfl) ?_
          refine WL.storeE (b := b_7) (off := (0 + i)) (i := i) (v := (vu8 (((((pre 16 (mb s f) i).set i (((pre 16 (mb s f) i).getD i 0) ^^^ (tm (s.getD (4 * (i / 4)) 0) (f.getD ((0 + 4 - i % 4) % 4) 0)))).set i ((((pre 16 (mb s f) i).set i (((pre 16 (mb s f) i).getD i 0) ^^^ (tm (s.getD (4 * (i / 4)) 0) (f.getD ((0 + 4 - i % 4) % 4) 0)))).getD i 0) ^^^ (tm (s.getD (4 * (i / 4) + 1) 0) (f.getD ((1 + 4 - i % 4) % 4) 0)))).getD i 0) ^^^ (tm (s.getD (4 * (i / 4) + 2) 0) (f.getD ((2 + 4 - i % 4) % 4) 0))))) (cs' := ((((pre 16 (mb s f) i).set i (((pre 16 (mb s f) i).getD i 0) ^^^ (tm (s.getD (4 * (i / 4)) 0) (f.getD ((0 + 4 - i % 4) % 4) 0)))).set i ((((pre 16 (mb s f) i).set i (((pre 16 (mb s f) i).getD i 0) ^^^ (tm (s.getD (4 * (i / 4)) 0) (f.getD ((0 + 4 - i % 4) % 4) 0)))).getD i 0) ^^^ (tm (s.getD (4 * (i / 4) + 1) 0) (f.getD ((1 + 4 - i % 4) % 4) 0)))).set i (((((pre 16 (mb s f) i).set i (((pre 16 (mb s f) i).getD i 0) ^^^ (tm (s.getD (4 * (i / 4)) 0) (f.getD ((0 + 4 - i % 4) % 4) 0)))).set i ((((pre 16 (mb s f) i).set i (((pre 16 (mb s f) i).getD i 0) ^^^ (tm (s.getD (4 * (i / 4)) 0) (f.getD ((0 + 4 - i % 4) % 4) 0)))).getD i 0) ^^^ (tm (s.getD (4 * (i / 4) + 1) 0) (f.getD ((1 + 4 - i % 4) % 4) 0)))).getD i 0) ^^^ (tm (s.getD (4 * (i / 4) + 2) 0) (f.getD ((2 + 4 - i % 4) % 4) 0)))).map vu8) h_48 rfl rfl Try.sizeOf5 rfl At.h (by decide) Sg.h rfl (lt_len (K := 16) (len_map (len_set (len_set (pre_len hi) _ _) _ _)) (by omega)) (set_u8 _ _ _) (fun w_49 h_50 => ?_)
          refine WL.nil ?_
          refine ⟨(SL.cons (h_50.ok _ (.tail _ (.head _))) (SL.cons (h_50.ok _ (.tail _ (.tail _ (.head _)))) (SL.nil _ _))), ?_⟩
          refine WT.nil ?_
          refine inb_n ?_
          refine thn_n ?_
          refine WP.reg ?_
          refine WL.q (Wn.no rfl) rfl rfl (R.bin (v := (vi 3)) rfl rfl (bi_add (c := 3) (by omega) (by omega))) ?_
          refine WL.q (Wn.no rfl) rfl rfl (R.move (v := (vi 3)) rfl) ?_
          refine WL.nil ?_
          refine thn_n ?_
          refine WI.round ?_
          refine WP.seq ?_
          refine WP.reg ?_
          refine WL.q (Wn.no rfl) rfl rfl (R.bin (v := (.bool true)) rfl rfl (bi_lss (r := true) (by decide))) ?_
          refine WL.nil ?_
          refine thn_n ?_
          refine WP.seq ?_
          refine WP.condT rfl ?_
          refine WP.skip ?_
          refine thn_n ?_
          refine WP.seq ?_
          refine WP.block ?_
          refine WP.seq ?_
          refine WP.reg ?_
          refine WL.q (Wn.no rfl) rfl rfl (R.move (v := (vi 3)) rfl) ?_
          refine WL.q (Wn.no rfl) rfl rfl (R.indexP (b := b_1) (off := (0 + (4 * (i / 4)))) (off' := (3 + (4 * (i / 4)))) (i := 3) rfl rfl rfl (by decide) Try.underlying23 Try.sizeOf5 (by omega)) ?_
          refine WL.q (Wn.no rfl) rfl rfl (R.loadE (b := b_1) (off := (3 + (4 * (i / 4)))) (i := 4 * (i / 4) + 3) (v := (vu8 (s.getD (4 * (i / 4) + 3) 0))) rfl Try.isAgg5 (h_50.ok _ (.tail _ (.tail _ (.head _)))) Sg.h (by omega) (get_u8 (lt_len (K := 16) hs (by omega)))) ?_
          refine WL.q (Wn.no rfl) rfl rfl (R.assign (v := (vi 3)) rfl) ?_
          refine WL.q (Wn.no rfl) rfl rfl (R.assign (v := (vu8 (s.getD (4 * (i / 4) + 3) 0))) rfl) ?_
          refine WL.nil ?_
          refine thn_n ?_
          refine WP.drawT (SL w.heap.size [.blk b_4 .nw 100 [(4, f.map vu8)], .blk b_1 .nw 66 [(16, s.map vu8)]]) (.q 0 (.q 1 (.q 3 (.q 4 (.q 5 (.q 6 (.q 7 (.q 8 (.q 9 (.q 10 (.q 11 (.s2 2 12 (.s 12 (.q 13 (.q 14 (.s 15 .nil)))) (.s 2 (.q 13 (.q 14 (.s 15 .nil)))))))))))))))) (by kernel_rfl) (by kernel_rfl) rfl (by kernel_rfl) (fun w_51 hc_53 => (SL.cons ((h_50.same hc_53).ok _ (.tail _ (.head _))) (SL.cons ((h_50.same hc_53).ok _ (.tail _ (.tail _ (.head _)))) (SL.nil _ _)))) (fun w_51 hc_53 => ?_)
          have h_52 := h_50.same hc_53
          refine WT.q rfl (Wn.no rfl) rfl rfl (fun wq hS => R.move (v := (vi ((i : Nat) : Int))) rfl) ?_
          refine WT.q rfl (Wn.no rfl) rfl rfl (fun wq hS => R.indexA (b := b_7) (off := 0) (off' := (0 + i)) (i := i) rfl rfl rfl (by omega) Try.underlying66 Try.sizeOf5 (by rw [Nat.mul_one])) ?_
          refine WT.q rfl (Wn.no rfl) rfl rfl (fun wq hS => R.move (v := (vu8 (s.getD (4 * (i / 4) + 3) 0))) rfl) ?_
          refine WT.q rfl (Wn.no rfl) rfl rfl (fun wq hS => R.move (v := (vi 3)) rfl) ?_
          refine WT.q rfl (Wn.no rfl) rfl rfl (fun wq hS => R.move (v := (vi ((i : Nat) : Int))) rfl) ?_
          refine WT.q rfl (Wn.no rfl) rfl rfl (fun wq hS => R.bin (v := (vi ((i % 4 : Nat) : Int))) rfl rfl (bi_rem (c := ((i % 4 : Nat) : Int)) (Int.natCast_nonneg _) (by omega) (by first | omega | rfl))) ?_
          refine WT.q rfl (Wn.no rfl) rfl rfl (fun wq hS => R.bin (v := (vi (3 - ((i % 4 : Nat) : Int)))) rfl rfl (bi_sub (c := 3 - ((i % 4 : Nat) : Int)) (by omega) (by omega))) ?_
          refine WT.q rfl (Wn.no rfl) rfl rfl (fun wq hS => R.bin (v := (vi ((3 + 4 - i % 4 : Nat) : Int))) rfl rfl (bi_add (c := ((3 + 4 - i % 4 : Nat) : Int)) (by omega) (by omega))) ?_
          refine WT.q rfl (Wn.no rfl) rfl rfl (fun wq hS => R.bin (v := (vi (((3 + 4 - i % 4) % 4 : Nat) : Int))) rfl rfl (bi_rem (c := (((3 + 4 - i % 4) % 4 : Nat) : Int)) (Int.natCast_nonneg _) (by omega) (by first | omega | rfl))) ?_
          refine WT.q rfl (Wn.no rfl) rfl rfl (fun wq hS => R.indexA (b := b_4) (off := 0) (off' := (0 + ((3 + 4 - i % 4) % 4))) (i := (3 + 4 - i % 4) % 4) rfl rfl rfl (by omega) Try.underlying100 Try.sizeOf5 (by rw [Nat.mul_one])) ?_
          refine WT.q rfl (Wn.no rfl) rfl rfl (fun wq hS => R.loadE (b := b_4) (off := (0 + ((3 + 4 - i % 4) % 4))) (i := (3 + 4 - i % 4) % 4) (v := (vu8 (f.getD ((3 + 4 - i % 4) % 4) 0))) rfl Try.isAgg5 (hS _ (.head _)) Sg.h rfl (get_u8 (lt_len (K := 4) hf (by omega)))) ?_
          refine WT.s2 ?_ ?_
          · refine Op1.one rfl (Wn.no rfl) ?_
            refine WL.q (Wn.no rfl) rfl rfl (R.loadE (b := b_7) (off := (0 + i)) (i := i) (v := (vu8 (((((pre 16 (mb s f) i).set i (((pre 16 (mb s f) i).getD i 0) ^^^ (tm (s.getD (4 * (i / 4)) 0) (f.getD ((0 + 4 - i % 4) % 4) 0)))).set i ((((pre 16 (mb s f) i).set i (((pre 16 (mb s f) i).getD i 0) ^^^ (tm (s.getD (4 * (i / 4)) 0) (f.getD ((0 + 4 - i % 4) % 4) 0)))).getD i 0) ^^^ (tm (s.getD (4 * (i / 4) + 1) 0) (f.getD ((1 + 4 - i % 4) % 4) 0)))).set i (((((pre 16 (mb s f) i).set i (((pre 16 (mb s f) i).getD i 0) ^^^ (tm (s.getD (4 * (i / 4)) 0) (f.getD ((0 + 4 - i % 4) % 4) 0)))).set i ((((pre 16 (mb s f) i).set i (((pre 16 (mb s f) i).getD i 0) ^^^ (tm (s.getD (4 * (i / 4)) 0) (f.getD ((0 + 4 - i % 4) % 4) 0)))).getD i 0) ^^^ (tm (s.getD (4 * (i / 4) + 1) 0) (f.getD ((1 + 4 - i % 4) % 4) 0)))).getD i 0) ^^^ (tm (s.getD (4 * (i / 4) + 2) 0) (f.getD ((2 + 4 - i % 4) % 4) 0)))).getD i 0))) rfl Try.isAgg5 (h_52.ok _ (.head _)) Sg.h rfl (get_u8 (lt_len (K := 16) (len_set (len_set (len_set (pre_len hi) _ _) _ _) _ _) (by omega)))) ?_
            refine WL.nil ?_
            refine ⟨(SL.cons (h_52.ok _ (.tail _ (.head _))) (SL.cons (h_52.ok _ (.tail _ (.tail _ (.head _)))) (SL.nil _ _))), ?_⟩
            refine WT.s ?_
            refine Op1.one rfl (Wn.no rfl) ?_
            refine WL.call (al := [(vu8 (s.getD (4 * (i / 4) + 3) 0)), (vu8 (f.getD ((3 + 4 - i % 4) % 4) 0))]) Try.call35 rfl rfl (c_Times (s.getD (4 * (i / 4) + 3) 0) (f.getD ((3 + 4 - i % 4) % 4) 0) _ ) rfl ?_
            rintro _ w_55 ⟨rfl, hc_54⟩
            have h_56 := h_52.same hc_54
            refine WL.nil ?_
            refine ⟨(SL.cons (h_56.ok _ (.tail _ (.head _))) (SL.cons (h_56.ok _ (.tail _ (.tail _ (.head _)))) (SL.nil _ _))), ?_⟩
            refine WT.q rfl (Wn.no rfl) rfl rfl (fun wq hS => R.bin (v := (vu8 ((((((pre 16 (mb s f) i).set i (((pre 16 (mb s f) i).getD i 0) ^^^ (tm (s.getD (4 * (i / 4)) 0) (f.getD ((0 + 4 - i % 4) % 4) 0)))).set i ((((pre 16 (mb s f) i).set i (((pre 16 (mb s f) i).getD i 0) ^^^ (tm (s.getD (4 * (i / 4)) 0) (f.getD ((0 + 4 - i % 4) % 4) 0)))).getD i 0) ^^^ (tm (s.getD (4 * (i / 4) + 1) 0) (f.getD ((1 + 4 - i % 4) % 4) 0)))).set i (((((pre 16 (mb s f) i).set i (((pre 16 (mb s f) i).getD i 0) ^^^ (tm (s.getD (4 * (i / 4)) 0) (f.getD ((0 + 4 - i % 4) % 4) 0)))).set i ((((pre 16 (mb s f) i).set i (((pre 16 (mb s f) i).getD i 0) ^^^ (tm (s.getD (4 * (i / 4)) 0) (f.getD ((0 + 4 - i % 4) % 4) 0)))).getD i 0) ^^^ (tm (s.getD (4 * (i / 4) + 1) 0) (f.getD ((1 + 4 - i % 4) % 4) 0)))).getD i 0) ^^^ (tm (s.getD (4 * (i / 4) + 2) 0) (f.getD ((2 + 4 - i % 4) % 4) 0)))).getD i 0) ^^^ (tm (s.getD (4 * (i / 4) + 3) 0) (f.getD ((3 + 4 - i % 4) % 4) 0))))) rfl rfl (b8_xor (((((pre 16 (mb s f) i).set i (((pre 16 (mb s f) i).getD i 0) ^^^ (tm (s.getD (4 * (i / 4)) 0) (f.getD ((0 + 4 - i % 4) % 4) 0)))).set i ((((pre 16 (mb s f) i).set i (((pre 16 (mb s f) i).getD i 0) ^^^ (tm (s.getD (4 * (i / 4)) 0) (f.getD ((0 + 4 - i % 4) % 4) 0)))).getD i 0) ^^^ (tm (s.getD (4 * (i / 4) + 1) 0) (f.getD ((1 + 4 - i % 4) % 4) 0)))).set i (((((pre 16 (mb s f) i).set i (((pre 16 (mb s f) i).getD i 0) ^^^ (tm (s.getD (4 * (i / 4)) 0) (f.getD ((0 + 4 - i % 4) % 4) 0)))).set i ((((pre 16 (mb s f) i).set i (((pre 16 (mb s f) i).getD i 0) ^^^ (tm (s.getD (4 * (i / 4)) 0) (f.getD ((0 + 4 - i % 4) % 4) 0)))).getD i 0) ^^^ (tm (s.getD (4 * (i / 4) + 1) 0) (f.getD ((1 + 4 - i % 4) % 4) 0)))).getD i 0) ^^^ (tm (s.getD (4 * (i / 4) + 2) 0) (f.getD ((2 + 4 - i % 4) % 4) 0)))).getD i 0) (tm (s.getD (4 * (i / 4) + 3) 0) (f.getD ((3 + 4 - i % 4) % 4) 0)))) ?_
            refine WT.q rfl (Wn.no rfl) rfl rfl (fun wq hS => R.indexA (b := b_7) (off := 0) (off' := (0 + i)) (i := i) rfl rfl rfl (by omega) Try.underlying66 Try.sizeOf5 (by rw [Nat.mul_one])) ?_
            refine WT.s ?_
            refine Op1.one rfl (Wn.no rfl) ?_
            refine WL.storeE (b := b_7) (off := (0 + i)) (i := i) (v := (vu8 ((((((pre 16 (mb s f) i).set i (((pre 16 (mb s f) i).getD i 0) ^^^ (tm (s.getD (4 * (i / 4)) 0) (f.getD ((0 + 4 - i % 4) % 4) 0)))).set i ((((pre 16 (mb s f) i).set i (((pre 16 (mb s f) i).getD i 0) ^^^ (tm (s.getD (4 * (i / 4)) 0) (f.getD ((0 + 4 - i % 4) % 4) 0)))).getD i 0) ^^^ (tm (s.getD (4 * (i / 4) + 1) 0) (f.getD ((1 + 4 - i % 4) % 4) 0)))).set i (((((pre 16 (mb s f) i).set i (((pre 16 (mb s f) i).getD i 0) ^^^ (tm (s.getD (4 * (i / 4)) 0) (f.getD ((0 + 4 - i % 4) % 4) 0)))).set i ((((pre 16 (mb s f) i).set i (((pre 16 (mb s f) i).getD i 0) ^^^ (tm (s.getD (4 * (i / 4)) 0) (f.getD ((0 + 4 - i % 4) % 4) 0)))).getD i 0) ^^^ (tm (s.getD (4 * (i / 4) + 1) 0) (f.getD ((1 + 4 - i % 4) % 4) 0)))).getD i 0) ^^^ (tm (s.getD (4 * (i / 4) + 2) 0) (f.getD ((2 + 4 - i % 4) % 4) 0)))).getD i 0) ^^^ (tm (s.getD (4 * (i / 4) + 3) 0) (f.getD ((3 + 4 - i % 4) % 4) 0))))) (cs' := (((((pre 16 (mb s f) i).set i (((pre 16 (mb s f) i).getD i 0) ^^^ (tm (s.getD (4 * (i / 4)) 0) (f.getD ((0 + 4 - i % 4) % 4) 0)))).set i ((((pre 16 (mb s f) i).set i (((pre 16 (mb s f) i).getD i 0) ^^^ (tm (s.getD (4 * (i / 4)) 0) (f.getD ((0 + 4 - i % 4) % 4) 0)))).getD i 0) ^^^ (tm (s.getD (4 * (i / 4) + 1) 0) (f.getD ((1 + 4 - i % 4) % 4) 0)))).set i (((((pre 16 (mb s f) i).set i (((pre 16 (mb s f) i).getD i 0) ^^^ (tm (s.getD (4 * (i / 4)) 0) (f.getD ((0 + 4 - i % 4) % 4) 0)))).set i ((((pre 16 (mb s f) i).set i (((pre 16 (mb s f) i).getD i 0) ^^^ (tm (s.getD (4 * (i / 4)) 0) (f.getD ((0 + 4 - i % 4) % 4) 0)))).getD i 0) ^^^ (tm (s.getD (4 * (i / 4) + 1) 0) (f.getD ((1 + 4 - i % 4) % 4) 0)))).getD i 0) ^^^ (tm (s.getD (4 * (i / 4) + 2) 0) (f.getD ((2 + 4 - i % 4) % 4) 0)))).set i ((((((pre 16 (mb s f) i).set i (((pre 16 (mb s f) i).getD i 0) ^^^ (tm (s.getD (4 * (i / 4)) 0) (f.getD ((0 + 4 - i % 4) % 4) 0)))).set i ((((pre 16 (mb s f) i).set i (((pre 16 (mb s f) i).getD i 0) ^^^ (tm (s.getD (4 * (i / 4)) 0) (f.getD ((0 + 4 - i % 4) % 4) 0)))).getD i 0) ^^^ (tm (s.getD (4 * (i / 4) + 1) 0) (f.getD ((1 + 4 - i % 4) % 4) 0)))).set i (((((pre 16 (mb s f) i).set i (((pre 16 (mb s f) i).getD i 0) ^^^ (tm (s.getD (4 * (i / 4)) 0) (f.getD ((0 + 4 - i % 4) % 4) 0)))).set i ((((pre 16 (mb s f) i).set i (((pre 16 (mb s f) i).getD i 0) ^^^ (tm (s.getD (4 * (i / 4)) 0) (f.getD ((0 + 4 - i % 4) % 4) 0)))).getD i 0) ^^^ (tm (s.getD (4 * (i / 4) + 1) 0) (f.getD ((1 + 4 - i % 4) % 4) 0)))).getD i 0) ^^^ (tm (s.getD (4 * (i / 4) + 2) 0) (f.getD ((2 + 4 - i % 4) % 4) 0)))).getD i 0) ^^^ (tm (s.getD (4 * (i / 4) + 3) 0) (f.getD ((3 + 4 - i % 4) % 4) 0)))).map vu8) h_56 rfl rfl Try.sizeOf5 rfl At.h (by decide) Sg.h rfl (lt_len (K := 16) (len_map (len_set (len_set (len_set (pre_len hi) _ _) _ _) _ _)) (by omega)) (set_u8 _ _ _) (fun w_57 h_58 => ?_)
            refine WL.nil ?_
            refine ⟨(SL.cons (h_58.ok _ (.tail _ (.head _))) (SL.cons (h_58.ok _ (.tail _ (.tail _ (.head _)))) (SL.nil _ _))), ?_⟩
            refine WT.nil ?_
            refine inb_n ?_
            refine thn_n ?_
            refine WP.reg ?_
            refine WL.q (Wn.no rfl) rfl rfl (R.bin (v := (vi 4)) rfl rfl (bi_add (c := 4) (by omega) (by omega))) ?_
            refine WL.q (Wn.no rfl) rfl rfl (R.move (v := (vi 4)) rfl) ?_
            refine WL.nil ?_
            refine thn_n ?_
            refine WI.round ?_
            refine WP.seq ?_
            refine WP.reg ?_
            refine WL.q (Wn.no rfl) rfl rfl (R.bin (v := (.bool false)) rfl rfl (bi_lss (r := false) (by decide))) ?_
            refine WL.nil ?_
            refine thn_n ?_
            refine WP.seq ?_
            refine WP.condF rfl ?_
            refine WP.exit ?_
            refine thn_x ?_
            refine thn_x ?_
            refine inb_hit ?_
            refine inb_n ?_
            refine thn_n ?_
            refine WP.reg ?_
            refine WL.q (Wn.no rfl) rfl rfl (R.bin (v := (vi ((i + 1 : Nat) : Int))) rfl rfl (bi_add (c := ((i + 1 : Nat) : Int)) (by omega) (by omega))) ?_
            refine WL.q (Wn.no rfl) rfl rfl (R.move (v := (vi ((i + 1 : Nat) : Int))) rfl) ?_
            refine WL.nil ?_
            refine thn_n ?_
            rw [mix_step (s := s) (f := f) (i := i) (by omega) (by rfl) (by rfl) (by rfl) (by rfl)] at h_58
            exact ⟨i + 1, _, (by omega), (Ag.upd rfl (Ag.upd rfl (Ag.upd rfl (Ag.upd rfl (Ag.upd rfl (Ag.upd rfl (Ag.upd rfl (Ag.upd rfl (Ag.upd rfl (Ag.upd rfl (Ag.upd rfl (Ag.upd rfl (Ag.upd rfl (Ag.upd rfl (Ag.upd rfl (Ag.upd rfl (Ag.upd rfl (Ag.upd rfl (Ag.upd rfl (Ag.upd rfl (Ag.upd rfl (Ag.upd rfl (Ag.upd rfl (Ag.upd rfl (Ag.upd rfl (Ag.upd rfl (Ag.upd rfl (Ag.upd rfl (Ag.upd rfl (Ag.upd rfl (Ag.upd rfl (Ag.upd rfl (Ag.upd rfl (Ag.upd rfl (Ag.upd rfl (Ag.upd rfl (Ag.upd rfl (Ag.upd rfl (Ag.upd rfl (Ag.upd rfl (Ag.upd rfl (Ag.upd rfl (Ag.upd rfl (Ag.upd rfl (Ag.upd rfl (Ag.upd rfl (Ag.upd rfl (Ag.upd rfl (Ag.upd rfl (Ag.upd rfl (Ag.upd rfl (Ag.upd rfl (Ag.upd rfl (Ag.upd rfl (Ag.upd rfl (Ag.upd rfl (Ag.upd rfl (Ag.upd rfl (Ag.upd rfl (Ag.upd rfl (Ag.upd rfl (Ag.upd rfl (Ag.upd rfl (Ag.upd rfl (Ag.upd rfl (Ag.upd rfl (Ag.upd rfl (Ag.upd rfl (Ag.upd rfl (Ag.upd rfl (Ag.upd rfl (Ag.upd rfl (Ag.upd rfl (Ag.upd rfl (Ag.updL rfl (Ag.trans (Ag.sub rfl (Ag.mix _ _ _)) (Ag.upd rfl (Ag.upd rfl (Ag.upd rfl (Ag.upd rfl (Ag.upd rfl (Ag.upd rfl (Ag.upd rfl (Ag.upd rfl (Ag.upd rfl (Ag.upd rfl (Ag.upd rfl (Ag.upd rfl (Ag.upd rfl (Ag.upd rfl (Ag.upd rfl (Ag.updL rfl (Ag.mix _ _ _))))))))))))))))))))))))))))))))))))))))))))))))))))))))))))))))))))))))))))))))))))))))))))), ⟨rfl, trivial⟩, h_58, (by omega), rfl⟩
          · refine Op1.one rfl (Wn.no rfl) ?_
            refine WL.call (al := [(vu8 (s.getD (4 * (i / 4) + 3) 0)), (vu8 (f.getD ((3 + 4 - i % 4) % 4) 0))]) Try.call35 rfl rfl (c_Times (s.getD (4 * (i / 4) + 3) 0) (f.getD ((3 + 4 - i % 4) % 4) 0) _ ) rfl ?_
            rintro _ w_60 ⟨rfl, hc_59⟩
            have h_61 := h_52.same hc_59
            refine WL.nil ?_
            refine ⟨(SL.cons (h_61.ok _ (.tail _ (.head _))) (SL.cons (h_61.ok _ (.tail _ (.tail _ (.head _)))) (SL.nil _ _))), ?_⟩
            refine WT.s ?_
            refine Op1.one rfl (Wn.no rfl) ?_
            refine WL.q (Wn.no rfl) rfl rfl (R.loadE (b := b_7) (off := (0 + i)) (i := i) (v := (vu8 (((((pre 16 (mb s f) i).set i (((pre 16 (mb s f) i).getD i 0) ^^^ (tm (s.getD (4 * (i / 4)) 0) (f.getD ((0 + 4 - i % 4) % 4) 0)))).set i ((((pre 16 (mb s f) i).set i (((pre 16 (mb s f) i).getD i 0) ^^^ (tm (s.getD (4 * (i / 4)) 0) (f.getD ((0 + 4 - i % 4) % 4) 0)))).getD i 0) ^^^ (tm (s.getD (4 * (i / 4) + 1) 0) (f.getD ((1 + 4 - i % 4) % 4) 0)))).set i (((((pre 16 (mb s f) i).set i (((pre 16 (mb s f) i).getD i 0) ^^^ (tm (s.getD (4 * (i / 4)) 0) (f.getD ((0 + 4 - i % 4) % 4) 0)))).set i ((((pre 16 (mb s f) i).set i (((pre 16 (mb s f) i).getD i 0) ^^^ (tm (s.getD (4 * (i / 4)) 0) (f.getD ((0 + 4 - i % 4) % 4) 0)))).getD i 0) ^^^ (tm (s.getD (4 * (i / 4) + 1) 0) (f.getD ((1 + 4 - i % 4) % 4) 0)))).getD i 0) ^^^ (tm (s.getD (4 * (i / 4) + 2) 0) (f.getD ((2 + 4 - i % 4) % 4) 0)))).getD i 0))) rfl Try.isAgg5 (h_61.ok _ (.head _)) Sg.h rfl (get_u8 (lt_len (K := 16) (len_set (len_set (len_set (pre_len hi) _ _) _ _) _ _) (by omega)))) ?_
            refine WL.nil ?_
            refine ⟨(SL.cons (h_61.ok _ (.tail _ (.head _))) (SL.cons (h_61.ok _ (.tail _ (.tail _ (.head _)))) (SL.nil _ _))), ?_⟩
            refine WT.q rfl (Wn.no rfl) rfl rfl (fun wq hS => R.bin (v := (vu8 ((((((pre 16 (mb s f) i).set i (((pre 16 (mb s f) i).getD i 0) ^^^ (tm (s.getD (4 * (i / 4)) 0) (f.getD ((0 + 4 - i % 4) % 4) 0)))).set i ((((pre 16 (mb s f) i).set i (((pre 16 (mb s f) i).getD i 0) ^^^ (tm (s.getD (4 * (i / 4)) 0) (f.getD ((0 + 4 - i % 4) % 4) 0)))).getD i 0) ^^^ (tm (s.getD (4 * (i / 4) + 1) 0) (f.getD ((1 + 4 - i % 4) % 4) 0)))).set i (((((pre 16 (mb s f) i).set i (((pre 16 (mb s f) i).getD i 0) ^^^ (tm (s.getD (4 * (i / 4)) 0) (f.getD ((0 + 4 - i % 4) % 4) 0)))).set i ((((pre 16 (mb s f) i).set i (((pre 16 (mb s f) i).getD i 0) ^^^ (tm (s.getD (4 * (i / 4)) 0) (f.getD ((0 + 4 - i % 4) % 4) 0)))).getD i 0) ^^^ (tm (s.getD (4 * (i / 4) + 1) 0) (f.getD ((1 + 4 - i % 4) % 4) 0)))).getD i 0) ^^^ (tm (s.getD (4 * (i / 4) + 2) 0) (f.getD ((2 + 4 - i % 4) % 4) 0)))).getD i 0) ^^^ (tm (s.getD (4 * (i / 4) + 3) 0) (f.getD ((3 + 4 - i % 4) % 4) 0))))) rfl rfl (b8_xor (((((pre 16 (mb s f) i).set i (((pre 16 (mb s f) i).getD i 0) ^^^ (tm (s.getD (4 * (i / 4)) 0) (f.getD ((0 + 4 - i % 4) % 4) 0)))).set i ((((pre 16 (mb s f) i).set i (((pre 16 (mb s f) i).getD i 0) ^^^ (tm (s.getD (4 * (i / 4)) 0) (f.getD ((0 + 4 - i % 4) % 4) 0)))).getD i 0) ^^^ (tm (s.getD (4 * (i / 4) + 1) 0) (f.getD ((1 + 4 - i % 4) % 4) 0)))).set i (((((pre 16 (mb s f) i).set i (((pre 16 (mb s f) i).getD i 0) ^^^ (tm (s.getD (4 * (i / 4)) 0) (f.getD ((0 + 4 - i % 4) % 4) 0)))).set i ((((pre 16 (mb s f) i).set i (((pre 16 (mb s f) i).getD i 0) ^^^ (tm (s.getD (4 * (i / 4)) 0) (f.getD ((0 + 4 - i % 4) % 4) 0)))).getD i 0) ^^^ (tm (s.getD (4 * (i / 4) + 1) 0) (f.getD ((1 + 4 - i % 4) % 4) 0)))).getD i 0) ^^^ (tm (s.getD (4 * (i / 4) + 2) 0) (f.getD ((2 + 4 - i % 4) % 4) 0)))).getD i 0) (tm (s.getD (4 * (i / 4) + 3) 0) (f.getD ((3 + 4 - i % 4) % 4) 0)))) ?_
            refine WT.q rfl (Wn.no rfl) rfl rfl (fun wq hS => R.indexA (b := b_7) (off := 0) (off' := (0 + i)) (i := i) rfl rfl rfl (by omega) Try.underlying66 Try.sizeOf5 (by rw [Nat.mul_one])) ?_
            refine WT.s ?_
            refine Op1.one rfl (Wn.no rfl) ?_
            refine WL.storeE (b := b_7) (off := (0 + i)) (i := i) (v := (vu8 ((((((pre 16 (mb s f) i).set i (((pre 16 (mb s f) i).getD i 0) ^^^ (tm (s.getD (4 * (i / 4)) 0) (f.getD ((0 + 4 - i % 4) % 4) 0)))).set i ((((pre 16 (mb s f) i).set i (((pre 16 (mb s f) i).getD i 0) ^^^ (tm (s.getD (4 * (i / 4)) 0) (f.getD ((0 + 4 - i % 4) % 4) 0)))).getD i 0) ^^^ (tm (s.getD (4 * (i / 4) + 1) 0) (f.getD ((1 + 4 - i % 4) % 4) 0)))).set i (((((pre 16 (mb s f) i).set i (((pre 16 (mb s f) i).getD i 0) ^^^ (tm (s.getD (4 * (i / 4)) 0) (f.getD ((0 + 4 - i % 4) % 4) 0)))).set i ((((pre 16 (mb s f) i).set i (((pre 16 (mb s f) i).getD i 0) ^^^ (tm (s.getD (4 * (i / 4)) 0) (f.getD ((0 + 4 - i % 4) % 4) 0)))).getD i 0) ^^^ (tm (s.getD (4 * (i / 4) + 1) 0) (f.getD ((1 + 4 - i % 4) % 4) 0)))).getD i 0) ^^^ (tm (s.getD (4 * (i / 4) + 2) 0) (f.getD ((2 + 4 - i % 4) % 4) 0)))).getD i 0) ^^^ (tm (s.getD (4 * (i / 4) + 3) 0) (f.getD ((3 + 4 - i % 4) % 4) 0))))) (cs' := (((((pre 16 (mb s f) i).set i (((pre 16 (mb s f) i).getD i 0) ^^^ (tm (s.getD (4 * (i / 4)) 0) (f.getD ((0 + 4 - i % 4) % 4) 0)))).set i ((((pre 16 (mb s f) i).set i (((pre 16 (mb s f) i).getD i 0) ^^^ (tm (s.getD (4 * (i / 4)) 0) (f.getD ((0 + 4 - i % 4) % 4) 0)))).getD i 0) ^^^ (tm (s.getD (4 * (i / 4) + 1) 0) (f.getD ((1 + 4 - i % 4) % 4) 0)))).set i (((((pre 16 (mb s f) i).set i (((pre 16 (mb s f) i).getD i 0) ^^^ (tm (s.getD (4 * (i / 4)) 0) (f.getD ((0 + 4 - i % 4) % 4) 0)))).set i ((((pre 16 (mb s f) i).set i (((pre 16 (mb s f) i).getD i 0) ^^^ (tm (s.getD (4 * (i / 4)) 0) (f.getD ((0 + 4 - i % 4) % 4) 0)))).getD i 0) ^^^ (tm (s.getD (4 * (i / 4) + 1) 0) (f.getD ((1 + 4 - i % 4) % 4) 0)))).getD i 0) ^^^ (tm (s.getD (4 * (i / 4) + 2) 0) (f.getD ((2 + 4 - i % 4) % 4) 0)))).set i ((((((pre 16 (mb s f) i).set i (((pre 16 (mb s f) i).getD i 0) ^^^ (tm (s.getD (4 * (i / 4)) 0) (f.getD ((0 + 4 - i % 4) % 4) 0)))).set i ((((pre 16 (mb s f) i).set i (((pre 16 (mb s f) i).getD i 0) ^^^ (tm (s.getD (4 * (i / 4)) 0) (f.getD ((0 + 4 - i % 4) % 4) 0)))).getD i 0) ^^^ (tm (s.getD (4 * (i / 4) + 1) 0) (f.getD ((1 + 4 - i % 4) % 4) 0)))).set i (((((pre 16 (mb s f) i).set i (((pre 16 (mb s f) i).getD i 0) ^^^ (tm (s.getD (4 * (i / 4)) 0) (f.getD ((0 + 4 - i % 4) % 4) 0)))).set i ((((pre 16 (mb s f) i).set i (((pre 16 (mb s f) i).getD i 0) ^^^ (tm (s.getD (4 * (i / 4)) 0) (f.getD ((0 + 4 - i % 4) % 4) 0)))).getD i 0) ^^^ (tm (s.getD (4 * (i / 4) + 1) 0) (f.getD ((1 + 4 - i % 4) % 4) 0)))).getD i 0) ^^^ (tm (s.getD (4 * (i / 4) + 2) 0) (f.getD ((2 + 4 - i % 4) % 4) 0)))).getD i 0) ^^^ (tm (s.getD (4 * (i / 4) + 3) 0) (f.getD ((3 + 4 - i % 4) % 4) 0)))).map vu8) h_61 rfl rfl Try.sizeOf5 rfl At.h (by decide) Sg.h rfl (lt_len (K := 16) (len_map (len_set (len_set (len_set (pre_len hi) _ _) _ _) _ _)) (by omega)) (set_u8 _ _ _) (fun w_62 h_63 => ?_)
            refine WL.nil ?_
            refine ⟨(SL.cons (h_63.ok _ (.tail _ (.head _))) (SL.cons (h_63.ok _ (.tail _ (.tail _ (.head _)))) (SL.nil _ _))), ?_⟩
            refine WT.nil ?_
            refine inb_n ?_
            refine thn_n ?_
            refine WP.reg ?_
            refine WL.q (Wn.no rfl) rfl rfl (R.bin (v := (vi 4)) rfl rfl (bi_add (c := 4) (by omega) (by omega))) ?_
            refine WL.q (Wn.no rfl) rfl rfl (R.move (v := (vi 4)) rfl) ?_
            refine WL.nil ?_
            refine thn_n ?_
            refine WI.round ?_
            refine WP.seq ?_
            refine WP.reg ?_
            refine WL.q (Wn.no rfl) rfl rfl (R.bin (v := (.bool false)) rfl rfl (bi_lss (r := false) (by decide))) ?_
            refine WL.nil ?_
            refine thn_n ?_
            refine WP.seq ?_
            refine WP.condF rfl ?_
            refine WP.exit ?_
            refine thn_x ?_
            refine thn_x ?_
            refine inb_hit ?_
            refine inb_n ?_
            refine thn_n ?_
            refine WP.reg ?_
            refine WL.q (Wn.no rfl) rfl rfl (R.bin (v := (vi ((i + 1 : Nat) : Int))) rfl rfl (bi_add (c := ((i + 1 : Nat) : Int)) (by omega) (by omega))) ?_
            refine WL.q (Wn.no rfl) rfl rfl (R.move (v := (vi ((i + 1 : Nat) : Int))) rfl) ?_
            refine WL.nil ?_
            refine thn_n ?_
            rw [mix_step (s := s) (f := f) (i := i) (by omega) (by rfl) (by rfl) (by rfl) (by rfl)] at h_63
            exact ⟨i + 1, _, (by omega), (Ag.upd rfl (Ag.upd rfl (Ag.upd rfl (Ag.upd rfl (Ag.upd rfl (Ag.upd rfl (Ag.upd rfl (Ag.upd rfl (Ag.upd rfl (Ag.upd rfl (Ag.upd rfl (Ag.upd rfl (Ag.upd rfl (Ag.upd rfl (Ag.upd rfl (Ag.upd rfl (Ag.upd rfl (Ag.upd rfl (Ag.upd rfl (Ag.upd rfl (Ag.upd rfl (Ag.upd rfl (Ag.upd rfl (Ag.upd rfl (Ag.upd rfl (Ag.upd rfl (Ag.upd rfl (Ag.upd rfl (Ag.upd rfl (Ag.upd rfl (Ag.upd rfl (Ag.upd rfl (Ag.upd rfl (Ag.upd rfl (Ag.upd rfl (Ag.upd rfl (Ag.upd rfl (Ag.upd rfl (Ag.upd rfl (Ag.upd rfl (Ag.upd rfl (Ag.upd rfl (Ag.upd rfl (Ag.upd rfl (Ag.upd rfl (Ag.upd rfl (Ag.upd rfl (Ag.upd rfl (Ag.upd rfl (Ag.upd rfl (Ag.upd rfl (Ag.upd rfl (Ag.upd rfl (Ag.upd rfl (Ag.upd rfl (Ag.upd rfl (Ag.upd rfl (Ag.upd rfl (Ag.upd rfl (Ag.upd rfl (Ag.upd rfl (Ag.upd rfl (Ag.upd rfl (Ag.upd rfl (Ag.upd rfl (Ag.upd rfl (Ag.upd rfl (Ag.upd rfl (Ag.upd rfl (Ag.upd rfl (Ag.upd rfl (Ag.upd rfl (Ag.upd rfl (Ag.upd rfl (Ag.updL rfl (Ag.trans (Ag.sub rfl (Ag.mix _ _ _)) (Ag.upd rfl (Ag.upd rfl (Ag.upd rfl (Ag.upd rfl (Ag.upd rfl (Ag.upd rfl (Ag.upd rfl (Ag.upd rfl (Ag.upd rfl (Ag.upd rfl (Ag.upd rfl (Ag.upd rfl (Ag.upd rfl (Ag.upd rfl (Ag.upd rfl (Ag.updL rfl (Ag.mix _ _ _))))))))))))))))))))))))))))))))))))))))))))))))))))))))))))))))))))))))))))))))))))))))))))), ⟨rfl, trivial⟩, h_63, (by omega), rfl⟩
        · refine Op1.one rfl (Wn.no rfl) ?_
          refine WL.call (al := [(vu8 (s.getD (4 * (i / 4) + 2) 0)), (vu8 (f.getD ((2 + 4 - i % 4) % 4) 0))]) Try.call35 rfl rfl (c_Times (s.getD (4 * (i / 4) + 2) 0) (f.getD ((2 + 4 - i % 4) % 4) 0) _ ) rfl ?_
          rintro _ w_65 ⟨rfl, hc_64⟩
          have h_66 := h_44.same hc_64
          refine WL.nil ?_
          refine ⟨(SL.cons (h_66.ok _ (.tail _ (.head _))) (SL.cons (h_66.ok _ (.tail _ (.tail _ (.head _)))) (SL.nil _ _))), ?_⟩
          refine WT.s ?_
          refine Op1.one rfl (Wn.no rfl) ?_
          refine WL.q (Wn.no rfl) rfl rfl (R.loadE (b := b_7) (off := (0 + i)) (i := i) (v := (vu8 ((((pre 16 (mb s f) i).set i (((pre 16 (mb s f) i).getD i 0) ^^^ (tm (s.getD (4 * (i / 4)) 0) (f.getD ((0 + 4 - i % 4) % 4) 0)))).set i ((((pre 16 (mb s f) i).set i (((pre 16 (mb s f) i).getD i 0) ^^^ (tm (s.getD (4 * (i / 4)) 0) (f.getD ((0 + 4 - i % 4) % 4) 0)))).getD i 0) ^^^ (tm (s.getD (4 * (i / 4) + 1) 0) (f.getD ((1 + 4 - i % 4) % 4) 0)))).getD i 0))) rfl Try.isAgg5 (h_66.ok _ (.head _)) Sg.h rfl (get_u8 (lt_len (K := 16) (len_set (len_set (pre_len hi) _ _) _ _) (by omega)))) ?_
          refine WL.nil ?_
          refine ⟨(SL.cons (h_66.ok _ (.tail _ (.head _))) (SL.cons (h_66.ok _ (.tail _ (.tail _ (.head _)))) (SL.nil _ _))), ?_⟩
          refine WT.q rfl (Wn.no rfl) rfl rfl (fun wq hS => R.bin (v := (vu8 (((((pre 16 (mb s f) i).set i (((pre 16 (mb s f) i).getD i 0) ^^^ (tm (s.getD (4 * (i / 4)) 0) (f.getD ((0 + 4 - i % 4) % 4) 0)))).set i ((((pre 16 (mb s f) i).set i (((pre 16 (mb s f) i).getD i 0) ^^^ (tm (s.getD (4 * (i / 4)) 0) (f.getD ((0 + 4 - i % 4) % 4) 0)))).getD i 0) ^^^ (tm (s.getD (4 * (i / 4) + 1) 0) (f.getD ((1 + 4 - i % 4) % 4) 0)))).getD i 0) ^^^ (tm (s.getD (4 * (i / 4) + 2) 0) (f.getD ((2 + 4 - i % 4) % 4) 0))))) rfl rfl (b8_xor ((((pre 16 (mb s f) i).set i (((pre 16 (mb s f) i).getD i 0) ^^^ (tm (s.getD (4 * (i / 4)) 0) (f.getD ((0 + 4 - i % 4) % 4) 0)))).set i ((((pre 16 (mb s f) i).set i (((pre 16 (mb s f) i).getD i 0) ^^^ (tm (s.getD (4 * (i / 4)) 0) (f.getD ((0 + 4 - i % 4) % 4) 0)))).getD i 0) ^^^ (tm (s.getD (4 * (i / 4) + 1) 0) (f.getD ((1 + 4 - i % 4) % 4) 0)))).getD i 0) (tm (s.getD (4 * (i / 4) + 2) 0) (f.getD ((2 + 4 - i % 4) % 4) 0)))) ?_
          refine WT.q rfl (Wn.no rfl) rfl rfl (fun wq hS => R.indexA (b := b_7) (off := 0) (off' := (0 + i)) (i := i) rfl rfl rfl (by omega) Try.underlying66 Try.sizeOf5 (by rw [Nat.mul_one])) ?_
          refine WT.s ?_
          refine Op1.one rfl (Wn.no rfl) ?_
          refine WL.storeE (b := b_7) (off := (0 + i)) (i := i) (v := (vu8 (((((pre 16 (mb s f) i).set i (((pre 16 (mb s f) i).getD i 0) ^^^ (tm (s.getD (4 * (i / 4)) 0) (f.getD ((0 + 4 - i % 4) % 4) 0)))).set i ((((pre 16 (mb s f) i).set i (((pre 16 (mb s f) i).getD i 0) ^^^ (tm (s.getD (4 * (i / 4)) 0) (f.getD ((0 + 4 - i % 4) % 4) 0)))).getD i 0) ^^^ (tm (s.getD (4 * (i / 4) + 1) 0) (f.getD ((1 + 4 - i % 4) % 4) 0)))).getD i 0) ^^^ (tm (s.getD (4 * (i / 4) + 2) 0) (f.getD ((2 + 4 - i % 4) % 4) 0))))) (cs' := ((((pre 16 (mb s f) i).set i (((pre 16 (mb s f) i).getD i 0) ^^^ (tm (s.getD (4 * (i / 4)) 0) (f.getD ((0 + 4 - i % 4) % 4) 0)))).set i ((((pre 16 (mb s f) i).set i (((pre 16 (mb s f) i).getD i 0) ^^^ (tm (s.getD (4 * (i / 4)) 0) (f.getD ((0 + 4 - i % 4) % 4) 0)))).getD i 0) ^^^ (tm (s.getD (4 * (i / 4) + 1) 0) (f.getD ((1 + 4 - i % 4) % 4) 0)))).set i (((((pre 16 (mb s f) i).set i (((pre 16 (mb s f) i).getD i 0) ^^^ (tm (s.getD (4 * (i / 4)) 0) (f.getD ((0 + 4 - i % 4) % 4) 0)))).set i ((((pre 16 (mb s f) i).set i (((pre 16 (mb s f) i).getD i 0) ^^^ (tm (s.getD (4 * (i / 4)) 0) (f.getD ((0 + 4 - i % 4) % 4) 0)))).getD i 0) ^^^ (tm (s.getD (4 * (i / 4) + 1) 0) (f.getD ((1 + 4 - i % 4) % 4) 0)))).getD i 0) ^^^ (tm (s.getD (4 * (i / 4) + 2) 0) (f.getD ((2 + 4 - i % 4) % 4) 0)))).map vu8) h_66 rfl rfl Try.sizeOf5 rfl At.h (by decide) Sg.h rfl (lt_len (K := 16) (len_map (len_set (len_set (pre_len hi) _ _) _ _)) (by omega)) (set_u8 _ _ _) (fun w_67 h_68 => ?_)
          refine WL.nil ?_
          refine ⟨(SL.cons (h_68.ok _ (.tail _ (.head _))) (SL.cons (h_68.ok _ (.tail _ (.tail _ (.head _)))) (SL.nil _ _))), ?_⟩
          refine WT.nil ?_
          refine inb_n ?_
          refine thn_n ?_
          refine WP.reg ?_
          refine WL.q (Wn.no rfl) rfl rfl (R.bin (v := (vi 3)) rfl rfl (bi_add (c := 3) (by omega) (by omega))) ?_
          refine WL.q (Wn.no rfl) rfl rfl (R.move (v := (vi 3)) rfl) ?_
          refine WL.nil ?_
          refine thn_n ?_
          refine WI.round ?_
          refine WP.seq ?_
          refine WP.reg ?_
          refine WL.q (Wn.no rfl) rfl rfl (R.bin (v := (.bool true)) rfl rfl (bi_lss (r := true) (by decide))) ?_
          refine WL.nil ?_
          refine thn_n ?_
          refine WP.seq ?_
          refine WP.condT rfl ?_
          refine WP.skip ?_
          refine thn_n ?_
          refine WP.seq ?_
          refine WP.block ?_
          refine WP.seq ?_
          refine WP.reg ?_
          refine WL.q (Wn.no rfl) rfl rfl (R.move (v := (vi 3)) rfl) ?_
          refine WL.q (Wn.no rfl) rfl rfl (R.indexP (b := b_1) (off := (0 + (4 * (i / 4)))) (off' := (3 + (4 * (i / 4)))) (i := 3) rfl rfl rfl (by decide) Try.underlying23 Try.sizeOf5 (by omega)) ?_
          refine WL.q (Wn.no rfl) rfl rfl (R.loadE (b := b_1) (off := (3 + (4 * (i / 4)))) (i := 4 * (i / 4) + 3) (v := (vu8 (s.getD (4 * (i / 4) + 3) 0))) rfl Try.isAgg5 (h_68.ok _ (.tail _ (.tail _ (.head _)))) Sg.h (by omega) (get_u8 (lt_len (K := 16) hs (by omega)))) ?_
          refine WL.q (Wn.no rfl) rfl rfl (R.assign (v := (vi 3)) rfl) ?_
          refine WL.q (Wn.no rfl) rfl rfl (R.assign (v := (vu8 (s.getD (4 * (i / 4) + 3) 0))) rfl) ?_
          refine WL.nil ?_
          refine thn_n ?_
          refine WP.drawT (SL w.heap.size [.blk b_4 .nw 100 [(4, f.map vu8)], .blk b_1 .nw 66 [(16, s.map vu8)]]) (.q 0 (.q 1 (.q 3 (.q 4 (.q 5 (.q 6 (.q 7 (.q 8 (.q 9 (.q 10 (.q 11 (.s2 2 12 (.s 12 (.q 13 (.q 14 (.s 15 .nil)))) (.s 2 (.q 13 (.q 14 (.s 15 .nil)))))))))))))))) (by kernel_rfl) (by kernel_rfl) rfl (by kernel_rfl) (fun w_69 hc_71 => (SL.cons ((h_68.same hc_71).ok _ (.tail _ (.head _))) (SL.cons ((h_68.same hc_71).ok _ (.tail _ (.tail _ (.head _)))) (SL.nil _ _)))) (fun w_69 hc_71 => ?_)
          have h_70 := h_68.same hc_71
          refine WT.q rfl (Wn.no rfl) rfl rfl (fun wq hS => R.move (v := (vi ((i : Nat) : Int))) rfl) ?_
          refine WT.q rfl (Wn.no rfl) rfl rfl (fun wq hS => R.indexA (b := b_7) (off := 0) (off' := (0 + i)) (i := i) rfl rfl rfl (by omega) Try.underlying66 Try.sizeOf5 (by rw [Nat.mul_one])) ?_
          refine WT.q rfl (Wn.no rfl) rfl rfl (fun wq hS => R.move (v := (vu8 (s.getD (4 * (i / 4) + 3) 0))) rfl) ?_
          refine WT.q rfl (Wn.no rfl) rfl rfl (fun wq hS => R.move (v := (vi 3)) rfl) ?_
          refine WT.q rfl (Wn.no rfl) rfl rfl (fun wq hS => R.move (v := (vi ((i : Nat) : Int))) rfl) ?_
          refine WT.q rfl (Wn.no rfl) rfl rfl (fun wq hS => R.bin (v := (vi ((i % 4 : Nat) : Int))) rfl rfl (bi_rem (c := ((i % 4 : Nat) : Int)) (Int.natCast_nonneg _) (by omega) (by first | omega | rfl))) ?_
          refine WT.q rfl (Wn.no rfl) rfl rfl (fun wq hS => R.bin (v := (vi (3 - ((i % 4 : Nat) : Int)))) rfl rfl (bi_sub (c := 3 - ((i % 4 : Nat) : Int)) (by omega) (by omega))) ?_
          refine WT.q rfl (Wn.no rfl) rfl rfl (fun wq hS => R.bin (v := (vi ((3 + 4 - i % 4 : Nat) : Int))) rfl rfl (bi_add (c := ((3 + 4 - i % 4 : Nat) : Int)) (by omega) (by omega))) ?_
          refine WT.q rfl (Wn.no rfl) rfl rfl (fun wq hS => R.bin (v := (vi (((3 + 4 - i % 4) % 4 : Nat) : Int))) rfl rfl (bi_rem (c := (((3 + 4 - i % 4) % 4 : Nat) : Int)) (Int.natCast_nonneg _) (by omega) (by first | omega | rfl))) ?_
          refine WT.q rfl (Wn.no rfl) rfl rfl (fun wq hS => R.indexA (b := b_4) (off := 0) (off' := (0 + ((3 + 4 - i % 4) % 4))) (i := (3 + 4 - i % 4) % 4) rfl rfl rfl (by omega) Try.underlying100 Try.sizeOf5 (by rw [Nat.mul_one])) ?_
          refine WT.q rfl (Wn.no rfl) rfl rfl (fun wq hS => R.loadE (b := b_4) (off := (0 + ((3 + 4 - i % 4) % 4))) (i := (3 + 4 - i % 4) % 4) (v := (vu8 (f.getD ((3 + 4 - i % 4) % 4) 0))) rfl Try.isAgg5 (hS _ (.head _)) Sg.h rfl (get_u8 (lt_len (K := 4) hf (by omega)))) ?_
          refine WT.s2 ?_ ?_
          · refine Op1.one rfl (Wn.no rfl) ?_
            refine WL.q (Wn.no rfl) rfl rfl (R.loadE (b := b_7) (off := (0 + i)) (i := i) (v := (vu8 (((((pre 16 (mb s f) i).set i (((pre 16 (mb s f) i).getD i 0) ^^^ (tm (s.getD (4 * (i / 4)) 0) (f.getD ((0 + 4 - i % 4) % 4) 0)))).set i ((((pre 16 (mb s f) i).set i (((pre 16 (mb s f) i).getD i 0) ^^^ (tm (s.getD (4 * (i / 4)) 0) (f.getD ((0 + 4 - i % 4) % 4) 0)))).getD i 0) ^^^ (tm (s.getD (4 * (i / 4) + 1) 0) (f.getD ((1 + 4 - i % 4) % 4) 0)))).set i (((((pre 16 (mb s f) i).set i (((pre 16 (mb s f) i).getD i 0) ^^^ (tm (s.getD (4 * (i / 4)) 0) (f.getD ((0 + 4 - i % 4) % 4) 0)))).set i ((((pre 16 (mb s f) i).set i (((pre 16 (mb s f) i).getD i 0) ^^^ (tm (s.getD (4 * (i / 4)) 0) (f.getD ((0 + 4 - i % 4) % 4) 0)))).getD i 0) ^^^ (tm (s.getD (4 * (i / 4) + 1) 0) (f.getD ((1 + 4 - i % 4) % 4) 0)))).getD i 0) ^^^ (tm (s.getD (4 * (i / 4) + 2) 0) (f.getD ((2 + 4 - i % 4) % 4) 0)))).getD i 0))) rfl Try.isAgg5 (h_70.ok _ (.head _)) Sg.h rfl (get_u8 (lt_len (K := 16) (len_set (len_set (len_set (pre_len hi) _ _) _ _) _ _) (by omega)))) ?_
            refine WL.nil ?_
            refine ⟨(SL.cons (h_70.ok _ (.tail _ (.head _))) (SL.cons (h_70.ok _ (.tail _ (.tail _ (.head _)))) (SL.nil _ _))), ?_⟩
            refine WT.s ?_
            refine Op1.one rfl (Wn.no rfl) ?_
            refine WL.call (al := [(vu8 (s.getD (4 * (i / 4) + 3) 0)), (vu8 (f.getD ((3 + 4 - i % 4) % 4) 0))]) Try.call35 rfl rfl (c_Times (s.getD (4 * (i / 4) + 3) 0) (f.getD ((3 + 4 - i % 4) % 4) 0) _ ) rfl ?_
            rintro _ w_73 ⟨rfl, hc_72⟩
            have h_74 := h_70.same hc_72
            refine WL.nil ?_
            refine ⟨(SL.cons (h_74.ok _ (.tail _ (.head _))) (SL.cons (h_74.ok _ (.tail _ (.tail _ (.head _)))) (SL.nil _ _))), ?_⟩
            refine WT.q rfl (Wn.no rfl) rfl rfl (fun wq hS => R.bin (v := (vu8 ((((((pre 16 (mb s f) i).set i (((pre 16 (mb s f) i).getD i 0) ^^^ (tm (s.getD (4 * (i / 4)) 0) (f.getD ((0 + 4 - i % 4) % 4) 0)))).set i ((((pre 16 (mb s f) i).set i (((pre 16 (mb s f) i).getD i 0) ^^^ (tm (s.getD (4 * (i / 4)) 0) (f.getD ((0 + 4 - i % 4) % 4) 0)))).getD i 0) ^^^ (tm (s.getD (4 * (i / 4) + 1) 0) (f.getD ((1 + 4 - i % 4) % 4) 0)))).set i (((((pre 16 (mb s f) i).set i (((pre 16 (mb s f) i).getD i 0) ^^^ (tm (s.getD (4 * (i / 4)) 0) (f.getD ((0 + 4 - i % 4) % 4) 0)))).set i ((((pre 16 (mb s f) i).set i (((pre 16 (mb s f) i).getD i 0) ^^^ (tm (s.getD (4 * (i / 4)) 0) (f.getD ((0 + 4 - i % 4) % 4) 0)))).getD i 0) ^^^ (tm (s.getD (4 * (i / 4) + 1) 0) (f.getD ((1 + 4 - i % 4) % 4) 0)))).getD i 0) ^^^ (tm (s.getD (4 * (i / 4) + 2) 0) (f.getD ((2 + 4 - i % 4) % 4) 0)))).getD i 0) ^^^ (tm (s.getD (4 * (i / 4) + 3) 0) (f.getD ((3 + 4 - i % 4) % 4) 0))))) rfl rfl (b8_xor (((((pre 16 (mb s f) i).set i (((pre 16 (mb s f) i).getD i 0) ^^^ (tm (s.getD (4 * (i / 4)) 0) (f.getD ((0 + 4 - i % 4) % 4) 0)))).set i ((((pre 16 (mb s f) i).set i (((pre 16 (mb s f) i).getD i 0) ^^^ (tm (s.getD (4 * (i / 4)) 0) (f.getD ((0 + 4 - i % 4) % 4) 0)))).getD i 0) ^^^ (tm (s.getD (4 * (i / 4) + 1) 0) (f.getD ((1 + 4 - i % 4) % 4) 0)))).set i (((((pre 16 (mb s f) i).set i (((pre 16 (mb s f) i).getD i 0) ^^^ (tm (s.getD (4 * (i / 4)) 0) (f.getD ((0 + 4 - i % 4) % 4) 0)))).set i ((((pre 16 (mb s f) i).set i (((pre 16 (mb s f) i).getD i 0) ^^^ (tm (s.getD (4 * (i / 4)) 0) (f.getD ((0 + 4 - i % 4) % 4) 0)))).getD i 0) ^^^ (tm (s.getD (4 * (i / 4) + 1) 0) (f.getD ((1 + 4 - i % 4) % 4) 0)))).getD i 0) ^^^ (tm (s.getD (4 * (i / 4) + 2) 0) (f.getD ((2 + 4 - i % 4) % 4) 0)))).getD i 0) (tm (s.getD (4 * (i / 4) + 3) 0) (f.getD ((3 + 4 - i % 4) % 4) 0)))) ?_
            refine WT.q rfl (Wn.no rfl) rfl rfl (fun wq hS => R.indexA (b := b_7) (off := 0) (off' := (0 + i)) (i := i) rfl rfl rfl (by omega) Try.underlying66 Try.sizeOf5 (by rw [Nat.mul_one])) ?_
            refine WT.s ?_
            refine Op1.one rfl (Wn.no rfl) ?_
            refine WL.storeE (b := b_7) (off := (0 + i)) (i := i) (v := (vu8 ((((((pre 16 (mb s f) i).set i (((pre 16 (mb s f) i).getD i 0) ^^^ (tm (s.getD (4 * (i / 4)) 0) (f.getD ((0 + 4 - i % 4) % 4) 0)))).set i ((((pre 16 (mb s f) i).set i (((pre 16 (mb s f) i).getD i 0) ^^^ (tm (s.getD (4 * (i / 4)) 0) (f.getD ((0 + 4 - i % 4) % 4) 0)))).getD i 0) ^^^ (tm (s.getD (4 * (i / 4) + 1) 0) (f.getD ((1 + 4 - i % 4) % 4) 0)))).set i (((((pre 16 (mb s f) i).set i (((pre 16 (mb s f) i).getD i 0) ^^^ (tm (s.getD (4 * (i / 4)) 0) (f.getD ((0 + 4 - i % 4) % 4) 0)))).set i ((((pre 16 (mb s f) i).set i (((pre 16 (mb s f) i).getD i 0) ^^^ (tm (s.getD (4 * (i / 4)) 0) (f.getD ((0 + 4 - i % 4) % 4) 0)))).getD i 0) ^^^ (tm (s.getD (4 * (i / 4) + 1) 0) (f.getD ((1 + 4 - i % 4) % 4) 0)))).getD i 0) ^^^ (tm (s.getD (4 * (i / 4) + 2) 0) (f.getD ((2 + 4 - i % 4) % 4) 0)))).getD i 0) ^^^ (tm (s.getD (4 * (i / 4) + 3) 0) (f.getD ((3 + 4 - i % 4) % 4) 0))))) (cs' := (((((pre 16 (mb s f) i).set i (((pre 16 (mb s f) i).getD i 0) ^^^ (tm (s.getD (4 * (i / 4)) 0) (f.getD ((0 + 4 - i % 4) % 4) 0)))).set i ((((pre 16 (mb s f) i).set i (((pre 16 (mb s f) i).getD i 0) ^^^ (tm (s.getD (4 * (i / 4)) 0) (f.getD ((0 + 4 - i % 4) % 4) 0)))).getD i 0) ^^^ (tm (s.getD (4 * (i / 4) + 1) 0) (f.getD ((1 + 4 - i % 4) % 4) 0)))).set i (((((pre 16 (mb s f) i).set i (((pre 16 (mb s f) i).getD i 0) ^^^ (tm (s.getD (4 * (i / 4)) 0) (f.getD ((0 + 4 - i % 4) % 4) 0)))).set i ((((pre 16 (mb s f) i).set i (((pre 16 (mb s f) i).getD i 0) ^^^ (tm (s.getD (4 * (i / 4)) 0) (f.getD ((0 + 4 - i % 4) % 4) 0)))).getD i 0) ^^^ (tm (s.getD (4 * (i / 4) + 1) 0) (f.getD ((1 + 4 - i % 4) % 4) 0)))).getD i 0) ^^^ (tm (s.getD (4 * (i / 4) + 2) 0) (f.getD ((2 + 4 - i % 4) % 4) 0)))).set i ((((((pre 16 (mb s f) i).set i (((pre 16 (mb s f) i).getD i 0) ^^^ (tm (s.getD (4 * (i / 4)) 0) (f.getD ((0 + 4 - i % 4) % 4) 0)))).set i ((((pre 16 (mb s f) i).set i (((pre 16 (mb s f) i).getD i 0) ^^^ (tm (s.getD (4 * (i / 4)) 0) (f.getD ((0 + 4 - i % 4) % 4) 0)))).getD i 0) ^^^ (tm (s.getD (4 * (i / 4) + 1) 0) (f.getD ((1 + 4 - i % 4) % 4) 0)))).set i (((((pre 16 (mb s f) i).set i (((pre 16 (mb s f) i).getD i 0) ^^^ (tm (s.getD (4 * (i / 4)) 0) (f.getD ((0 + 4 - i % 4) % 4) 0)))).set i ((((pre 16 (mb s f) i).set i (((pre 16 (mb s f) i).getD i 0) ^^^ (tm (s.getD (4 * (i / 4)) 0) (f.getD ((0 + 4 - i % 4) % 4) 0)))).getD i 0) ^^^ (tm (s.getD (4 * (i / 4) + 1) 0) (f.getD ((1 + 4 - i % 4) % 4) 0)))).getD i 0) ^^^ (tm (s.getD (4 * (i / 4) + 2) 0) (f.getD ((2 + 4 - i % 4) % 4) 0)))).getD i 0) ^^^ (tm (s.getD (4 * (i / 4) + 3) 0) (f.getD ((3 + 4 - i % 4) % 4) 0)))).map vu8) h_74 rfl rfl Try.sizeOf5 rfl At.h (by decide) Sg.h rfl (lt_len (K := 16) (len_map (len_set (len_set (len_set (pre_len hi) _ _) _ _) _ _)) (by omega)) (set_u8 _ _ _) (fun w_75 h_76 => ?_)
            refine WL.nil ?_
            refine ⟨(SL.cons (h_76.ok _ (.tail _ (.head _))) (SL.cons (h_76.ok _ (.tail _ (.tail _ (.head _)))) (SL.nil _ _))), ?_⟩
            refine WT.nil ?_
            refine inb_n ?_
            refine thn_n ?_
            refine WP.reg ?_
            refine WL.q (Wn.no rfl) rfl rfl (R.bin (v := (vi 4)) rfl rfl (bi_add (c := 4) (by omega) (by omega))) ?_
            refine WL.q (Wn.no rfl) rfl rfl (R.move (v := (vi 4)) rfl) ?_
            refine WL.nil ?_
            refine thn_n ?_
            refine WI.round ?_
            refine WP.seq ?_
            refine WP.reg ?_
            refine WL.q (Wn.no rfl) rfl rfl (R.bin (v := (.bool false)) rfl rfl (bi_lss (r := false) (by decide))) ?_
            refine WL.nil ?_
            refine thn_n ?_
            refine WP.seq ?_
            refine WP.condF rfl ?_
            refine WP.exit ?_
            refine thn_x ?_
            refine thn_x ?_
            refine inb_hit ?_
            refine inb_n ?_
            refine thn_n ?_
            refine WP.reg ?_
            refine WL.q (Wn.no rfl) rfl rfl (R.bin (v := (vi ((i + 1 : Nat) : Int))) rfl rfl (bi_add (c := ((i + 1 : Nat) : Int)) (by omega) (by omega))) ?_
            refine WL.q (Wn.no rfl) rfl rfl (R.move (v := (vi ((i + 1 : Nat) : Int))) rfl) ?_
            refine WL.nil ?_
            refine thn_n ?_
            rw [mix_step (s := s) (f := f) (i := i) (by omega) (by rfl) (by rfl) (by rfl) (by rfl)] at h_76
            exact ⟨i + 1, _, (by omega), (Ag.upd rfl (Ag.upd rfl (Ag.upd rfl (Ag.upd rfl (Ag.upd rfl (Ag.upd rfl (Ag.upd rfl (Ag.upd rfl (Ag.upd rfl (Ag.upd rfl (Ag.upd rfl (Ag.upd rfl (Ag.upd rfl (Ag.upd rfl (Ag.upd rfl (Ag.upd rfl (Ag.upd rfl (Ag.upd rfl (Ag.upd rfl (Ag.upd rfl (Ag.upd rfl (Ag.upd rfl (Ag.upd rfl (Ag.upd rfl (Ag.upd rfl (Ag.upd rfl (Ag.upd rfl (Ag.upd rfl (Ag.upd rfl (Ag.upd rfl (Ag.upd rfl (Ag.upd rfl (Ag.upd rfl (Ag.upd rfl (Ag.upd rfl (Ag.upd rfl (Ag.upd rfl (Ag.upd rfl (Ag.upd rfl (Ag.upd rfl (Ag.upd rfl (Ag.upd rfl (Ag.upd rfl (Ag.upd rfl (Ag.upd rfl (Ag.upd rfl (Ag.upd rfl (Ag.upd rfl (Ag.upd rfl (Ag.upd rfl (Ag.upd rfl (Ag.upd rfl (Ag.upd rfl (Ag.upd rfl (Ag.upd rfl (Ag.upd rfl (Ag.upd rfl (Ag.upd rfl (Ag.upd rfl (Ag.upd rfl (Ag.upd rfl (Ag.upd rfl (Ag.upd rfl (Ag.upd rfl (Ag.upd rfl (Ag.upd rfl (Ag.upd rfl (Ag.upd rfl (Ag.upd rfl (Ag.upd rfl (Ag.upd rfl (Ag.upd rfl (Ag.upd rfl (Ag.upd rfl (Ag.updL rfl (Ag.trans (Ag.sub rfl (Ag.mix _ _ _)) (Ag.upd rfl (Ag.upd rfl (Ag.upd rfl (Ag.upd rfl (Ag.upd rfl (Ag.upd rfl (Ag.upd rfl (Ag.upd rfl (Ag.upd rfl (Ag.upd rfl (Ag.upd rfl (Ag.upd rfl (Ag.upd rfl (Ag.upd rfl (Ag.upd rfl (Ag.updL rfl (Ag.mix _ _ _))))))))))))))))))))))))))))))))))))))))))))))))))))))))))))))))))))))))))))))))))))))))))))), ⟨rfl, trivial⟩, h_76, (by omega), rfl⟩
          · refine Op1.one rfl (Wn.no rfl) ?_
            refine WL.call (al := [(vu8 (s.getD (4 * (i / 4) + 3) 0)), (vu8 (f.getD ((3 + 4 - i % 4) % 4) 0))]) Try.call35 rfl rfl (c_Times (s.getD (4 * (i / 4) + 3) 0) (f.getD ((3 + 4 - i % 4) % 4) 0) _ ) rfl ?_
            rintro _ w_78 ⟨rfl, hc_77⟩
            have h_79 := h_70.same hc_77
            refine WL.nil ?_
            refine ⟨(SL.cons (h_79.ok _ (.tail _ (.head _))) (SL.cons (h_79.ok _ (.tail _ (.tail _ (.head _)))) (SL.nil _ _))), ?_⟩
            refine WT.s ?_
            refine Op1.one rfl (Wn.no rfl) ?_
            refine WL.q (Wn.no rfl) rfl rfl (R.loadE (b := b_7) (off := (0 + i)) (i := i) (v := (vu8 (((((pre 16 (mb s f) i).set i (((pre 16 (mb s f) i).getD i 0) ^^^ (tm (s.getD (4 * (i / 4)) 0) (f.getD ((0 + 4 - i % 4) % 4) 0)))).set i ((((pre 16 (mb s f) i).set i (((pre 16 (mb s f) i).getD i 0) ^^^ (tm (s.getD (4 * (i / 4)) 0) (f.getD ((0 + 4 - i % 4) % 4) 0)))).getD i 0) ^^^ (tm (s.getD (4 * (i / 4) + 1) 0) (f.getD ((1 + 4 - i % 4) % 4) 0)))).set i (((((pre 16 (mb s f) i).set i (((pre 16 (mb s f) i).getD i 0) ^^^ (tm (s.getD (4 * (i / 4)) 0) (f.getD ((0 + 4 - i % 4) % 4) 0)))).set i ((((pre 16 (mb s f) i).set i (((pre 16 (mb s f) i).getD i 0) ^^^ (tm (s.getD (4 * (i / 4)) 0) (f.getD ((0 + 4 - i % 4) % 4) 0)))).getD i 0) ^^^ (tm (s.getD (4 * (i / 4) + 1) 0) (f.getD ((1 + 4 - i % 4) % 4) 0)))).getD i 0) ^^^ (tm (s.getD (4 * (i / 4) + 2) 0) (f.getD ((2 + 4 - i % 4) % 4) 0)))).getD i 0))) rfl Try.isAgg5 (h_79.ok _ (.head _)) Sg.h rfl (get_u8 (lt_len (K := 16) (len_set (len_set (len_set (pre_len hi) _ _) _ _) _ _) (by omega)))) ?_
            refine WL.nil ?_
            refine ⟨(SL.cons (h_79.ok _ (.tail _ (.head _))) (SL.cons (h_79.ok _ (.tail _ (.tail _ (.head _)))) (SL.nil _ _))), ?_⟩
            refine WT.q rfl (Wn.no rfl) rfl rfl (fun wq hS => R.bin (v := (vu8 ((((((pre 16 (mb s f) i).set i (((pre 16 (mb s f) i).getD i 0) ^^^ (tm (s.getD (4 * (i / 4)) 0) (f.getD ((0 + 4 - i % 4) % 4) 0)))).set i ((((pre 16 (mb s f) i).set i (((pre 16 (mb s f) i).getD i 0) ^^^ (tm (s.getD (4 * (i / 4)) 0) (f.getD ((0 + 4 - i % 4) % 4) 0)))).getD i 0) ^^^ (tm (s.getD (4 * (i / 4) + 1) 0) (f.getD ((1 + 4 - i % 4) % 4) 0)))).set i (((((pre 16 (mb s f) i).set i (((pre 16 (mb s f) i).getD i 0) ^^^ (tm (s.getD (4 * (i / 4)) 0) (f.getD ((0 + 4 - i % 4) % 4) 0)))).set i ((((pre 16 (mb s f) i).set i (((pre 16 (mb s f) i).getD i 0) ^^^ (tm (s.getD (4 * (i / 4)) 0) (f.getD ((0 + 4 - i % 4) % 4) 0)))).getD i 0) ^^^ (tm (s.getD (4 * (i / 4) + 1) 0) (f.getD ((1 + 4 - i % 4) % 4) 0)))).getD i 0) ^^^ (tm (s.getD (4 * (i / 4) + 2) 0) (f.getD ((2 + 4 - i % 4) % 4) 0)))).getD i 0) ^^^ (tm (s.getD (4 * (i / 4) + 3) 0) (f.getD ((3 + 4 - i % 4) % 4) 0))))) rfl rfl (b8_xor (((((pre 16 (mb s f) i).set i (((pre 16 (mb s f) i).getD i 0) ^^^ (tm (s.getD (4 * (i / 4)) 0) (f.getD ((0 + 4 - i % 4) % 4) 0)))).set i ((((pre 16 (mb s f) i).set i (((pre 16 (mb s f) i).getD i 0) ^^^ (tm (s.getD (4 * (i / 4)) 0) (f.getD ((0 + 4 - i % 4) % 4) 0)))).getD i 0) ^^^ (tm (s.getD (4 * (i / 4) + 1) 0) (f.getD ((1 + 4 - i % 4) % 4) 0)))).set i (((((pre 16 (mb s f) i).set i (((pre 16 (mb s f) i).getD i 0) ^^^ (tm (s.getD (4 * (i / 4)) 0) (f.getD ((0 + 4 - i % 4) % 4) 0)))).set i ((((pre 16 (mb s f) i).set i (((pre 16 (mb s f) i).getD i 0) ^^^ (tm (s.getD (4 * (i / 4)) 0) (f.getD ((0 + 4 - i % 4) % 4) 0)))).getD i 0) ^^^ (tm (s.getD (4 * (i / 4) + 1) 0) (f.getD ((1 + 4 - i % 4) % 4) 0)))).getD i 0) ^^^ (tm (s.getD (4 * (i / 4) + 2) 0) (f.getD ((2 + 4 - i % 4) % 4) 0)))).getD i 0) (tm (s.getD (4 * (i / 4) + 3) 0) (f.getD ((3 + 4 - i % 4) % 4) 0)))) ?_
            refine WT.q rfl (Wn.no rfl) rfl rfl (fun wq hS => R.indexA (b := b_7) (off := 0) (off' := (0 + i)) (i := i) rfl rfl rfl (by omega) Try.underlying66 Try.sizeOf5 (by rw [Nat.mul_one])) ?_
            refine WT.s ?_
            refine Op1.one rfl (Wn.no rfl) ?_
            refine WL.storeE (b := b_7) (off := (0 + i)) (i := i) (v := (vu8 ((((((pre 16 (mb s f) i).set i (((pre 16 (mb s f) i).getD i 0) ^^^ (tm (s.getD (4 * (i / 4)) 0) (f.getD ((0 + 4 - i % 4) % 4) 0)))).set i ((((pre 16 (mb s f) i).set i (((pre 16 (mb s f) i).getD i 0) ^^^ (tm (s.getD (4 * (i / 4)) 0) (f.getD ((0 + 4 - i % 4) % 4) 0)))).getD i 0) ^^^ (tm (s.getD (4 * (i / 4) + 1) 0) (f.getD ((1 + 4 - i % 4) % 4) 0)))).set i (((((pre 16 (mb s f) i).set i (((pre 16 (mb s f) i).getD i 0) ^^^ (tm (s.getD (4 * (i / 4)) 0) (f.getD ((0 + 4 - i % 4) % 4) 0)))).set i ((((pre 16 (mb s f) i).set i (((pre 16 (mb s f) i).getD i 0) ^^^ (tm (s.getD (4 * (i / 4)) 0) (f.getD ((0 + 4 - i % 4) % 4) 0)))).getD i 0) ^^^ (tm (s.getD (4 * (i / 4) + 1) 0) (f.getD ((1 + 4 - i % 4) % 4) 0)))).getD i 0) ^^^ (tm (s.getD (4 * (i / 4) + 2) 0) (f.getD ((2 + 4 - i % 4) % 4) 0)))).getD i 0) ^^^ (tm (s.getD (4 * (i / 4) + 3) 0) (f.getD ((3 + 4 - i % 4) % 4) 0))))) (cs' := (((((pre 16 (mb s f) i).set i (((pre 16 (mb s f) i).getD i 0) ^^^ (tm (s.getD (4 * (i / 4)) 0) (f.getD ((0 + 4 - i % 4) % 4) 0)))).set i ((((pre 16 (mb s f) i).set i (((pre 16 (mb s f) i).getD i 0) ^^^ (tm (s.getD (4 * (i / 4)) 0) (f.getD ((0 + 4 - i % 4) % 4) 0)))).getD i 0) ^^^ (tm (s.getD (4 * (i / 4) + 1) 0) (f.getD ((1 + 4 - i % 4) % 4) 0)))).set i (((((pre 16 (mb s f) i).set i (((pre 16 (mb s f) i).getD i 0) ^^^ (tm (s.getD (4 * (i / 4)) 0) (f.getD ((0 + 4 - i % 4) % 4) 0)))).set i ((((pre 16 (mb s f) i).set i (((pre 16 (mb s f) i).getD i 0) ^^^ (tm (s.getD (4 * (i / 4)) 0) (f.getD ((0 + 4 - i % 4) % 4) 0)))).getD i 0) ^^^ (tm (s.getD (4 * (i / 4) + 1) 0) (f.getD ((1 + 4 - i % 4) % 4) 0)))).getD i 0) ^^^ (tm (s.getD (4 * (i / 4) + 2) 0) (f.getD ((2 + 4 - i % 4) % 4) 0)))).set i ((((((pre 16 (mb s f) i).set i (((pre 16 (mb s f) i).getD i 0) ^^^ (tm (s.getD (4 * (i / 4)) 0) (f.getD ((0 + 4 - i % 4) % 4) 0)))).set i ((((pre 16 (mb s f) i).set i (((pre 16 (mb s f) i).getD i 0) ^^^ (tm (s.getD (4 * (i / 4)) 0) (f.getD ((0 + 4 - i % 4) % 4) 0)))).getD i 0) ^^^ (tm (s.getD (4 * (i / 4) + 1) 0) (f.getD ((1 + 4 - i % 4) % 4) 0)))).set i (((((pre 16 (mb s f) i).set i (((pre 16 (mb s f) i).getD i 0) ^^^ (tm (s.getD (4 * (i / 4)) 0) (f.getD ((0 + 4 - i % 4) % 4) 0)))).set i ((((pre 16 (mb s f) i).set i (((pre 16 (mb s f) i).getD i 0) ^^^ (tm (s.getD (4 * (i / 4)) 0) (f.getD ((0 + 4 - i % 4) % 4) 0)))).getD i 0) ^^^ (tm (s.getD (4 * (i / 4) + 1) 0) (f.getD ((1 + 4 - i % 4) % 4) 0)))).getD i 0) ^^^ (tm (s.getD (4 * (i / 4) + 2) 0) (f.getD ((2 + 4 - i % 4) % 4) 0)))).getD i 0) ^^^ (tm (s.getD (4 * (i / 4) + 3) 0) (f.getD ((3 + 4 - i % 4) % 4) 0)))).map vu8) h_79 rfl rfl Try.sizeOf5 rfl At.h (by decide) Sg.h rfl (lt_len (K := 16) (len_map (len_set (len_set (len_set (pre_len hi) _ _) _ _) _ _)) (by omega)) (set_u8 _ _ _) (fun w_80 h_81 => ?_)
            refine WL.nil ?_
            refine ⟨(SL.cons (h_81.ok _ (.tail _ (.head _))) (SL.cons (h_81.ok _ (.tail _ (.tail _ (.head _)))) (SL.nil _ _))), ?_⟩
            refine WT.nil ?_
            refine inb_n ?_
            refine thn_n ?_
            refine WP.reg ?_
            refine WL.q (Wn.no rfl) rfl rfl (R.bin (v := (vi 4)) rfl rfl (bi_add (c := 4) (by omega) (by omega))) ?_
            refine WL.q (Wn.no rfl) rfl rfl (R.move (v := (vi 4)) rfl) ?_
            refine WL.nil ?_
            refine thn_n ?_
            refine WI.round ?_
            refine WP.seq ?_
            refine WP.reg ?_
            refine WL.q (Wn.no rfl) rfl rfl (R.bin (v := (.bool false)) rfl rfl (bi_lss (r := false) (by decide))) ?_
            refine WL.nil ?_
            refine thn_n ?_
            refine WP.seq ?_
            refine WP.condF rfl ?_
            refine WP.exit ?_
            refine thn_x ?_
            refine thn_x ?_
            refine inb_hit ?_
            refine inb_n ?_
            refine thn_n ?_
            refine WP.reg ?_
            refine WL.q (Wn.no rfl) rfl rfl (R.bin (v := (vi ((i + 1 : Nat) : Int))) rfl rfl (bi_add (c := ((i + 1 : Nat) : Int)) (by omega) (by omega))) ?_
            refine WL.q (Wn.no rfl) rfl rfl (R.move (v := (vi ((i + 1 : Nat) : Int))) rfl) ?_
            refine WL.nil ?_
            refine thn_n ?_
            rw [mix_step (s := s) (f := f) (i := i) (by omega) (by rfl) (by rfl) (by rfl) (by rfl)] at h_81
            exact ⟨i + 1, _, (by omega), (Ag.upd rfl (Ag.upd rfl (Ag.upd rfl (Ag.upd rfl (Ag.upd rfl (Ag.upd rfl (Ag.upd rfl (Ag.upd rfl (Ag.upd rfl (Ag.upd rfl (Ag.upd rfl (Ag.upd rfl (Ag.upd rfl (Ag.upd rfl (Ag.upd rfl (Ag.upd rfl (Ag.upd rfl (Ag.upd rfl (Ag.upd rfl (Ag.upd rfl (Ag.upd rfl (Ag.upd rfl (Ag.upd rfl (Ag.upd rfl (Ag.upd rfl (Ag.upd rfl (Ag.upd rfl (Ag.upd rfl (Ag.upd rfl (Ag.upd rfl (Ag.upd rfl (Ag.upd rfl (Ag.upd rfl (Ag.upd rfl (Ag.upd rfl (Ag.upd rfl (Ag.upd rfl (Ag.upd rfl (Ag.upd rfl (Ag.upd rfl (Ag.upd rfl (Ag.upd rfl (Ag.upd rfl (Ag.upd rfl (Ag.upd rfl (Ag.upd rfl (Ag.upd rfl (Ag.upd rfl (Ag.upd rfl (Ag.upd rfl (Ag.upd rfl (Ag.upd rfl (Ag.upd rfl (Ag.upd rfl (Ag.upd rfl (Ag.upd rfl (Ag.upd rfl (Ag.upd rfl (Ag.upd rfl (Ag.upd rfl (Ag.upd rfl (Ag.upd rfl (Ag.upd rfl (Ag.upd rfl (Ag.upd rfl (Ag.upd rfl (Ag.upd rfl (Ag.upd rfl (Ag.upd rfl (Ag.upd rfl (Ag.upd rfl (Ag.upd rfl (Ag.upd rfl (Ag.upd rfl (Ag.updL rfl (Ag.trans (Ag.sub rfl (Ag.mix _ _ _)) (Ag.upd rfl (Ag.upd rfl (Ag.upd rfl (Ag.upd rfl (Ag.upd rfl (Ag.upd rfl (Ag.upd rfl (Ag.upd rfl (Ag.upd rfl (Ag.upd rfl (Ag.upd rfl (Ag.upd rfl (Ag.upd rfl (Ag.upd rfl (Ag.upd rfl (Ag.updL rfl (Ag.mix _ _ _))))))))))))))))))))))))))))))))))))))))))))))))))))))))))))))))))))))))))))))))))))))))))))), ⟨rfl, trivial⟩, h_81, (by omega), rfl⟩
      · refine Op1.one rfl (Wn.no rfl) ?_
        refine WL.call (al := [(vu8 (s.getD (4 * (i / 4) + 1) 0)), (vu8 (f.getD ((1 + 4 - i % 4) % 4) 0))]) Try.call35 rfl rfl (c_Times (s.getD (4 * (i / 4) + 1) 0) (f.getD ((1 + 4 - i % 4) % 4) 0) _ ) rfl ?_
        rintro _ w_83 ⟨rfl, hc_82⟩
        have h_84 := h_36.same hc_82
        refine WL.nil ?_
        refine ⟨(SL.cons (h_84.ok _ (.tail _ (.head _))) (SL.cons (h_84.ok _ (.tail _ (.tail _ (.head _)))) (SL.nil _ _))), ?_⟩
        refine WT.s ?_
        refine Op1.one rfl (Wn.no rfl) ?_
        refine WL.q (Wn.no rfl) rfl rfl (R.loadE (b := b_7) (off := (0 + i)) (i := i) (v := (vu8 (((pre 16 (mb s f) i).set i (((pre 16 (mb s f) i).getD i 0) ^^^ (tm (s.getD (4 * (i / 4)) 0) (f.getD ((0 + 4 - i % 4) % 4) 0)))).getD i 0))) rfl Try.isAgg5 (h_84.ok _ (.head _)) Sg.h rfl (get_u8 (lt_len (K := 16) (len_set (pre_len hi) _ _) (by omega)))) ?_
        refine WL.nil ?_
        refine ⟨(SL.cons (h_84.ok _ (.tail _ (.head _))) (SL.cons (h_84.ok _ (.tail _ (.tail _ (.head _)))) (SL.nil _ _))), ?_⟩
        refine WT.q rfl (Wn.no rfl) rfl rfl (fun wq hS => R.bin (v := (vu8 ((((pre 16 (mb s f) i).set i (((pre 16 (mb s f) i).getD i 0) ^^^ (tm (s.getD (4 * (i / 4)) 0) (f.getD ((0 + 4 - i % 4) % 4) 0)))).getD i 0) ^^^ (tm (s.getD (4 * (i / 4) + 1) 0) (f.getD ((1 + 4 - i % 4) % 4) 0))))) rfl rfl (b8_xor (((pre 16 (mb s f) i).set i (((pre 16 (mb s f) i).getD i 0) ^^^ (tm (s.getD (4 * (i / 4)) 0) (f.getD ((0 + 4 - i % 4) % 4) 0)))).getD i 0) (tm (s.getD (4 * (i / 4) + 1) 0) (f.getD ((1 + 4 - i % 4) % 4) 0)))) ?_
        refine WT.q rfl (Wn.no rfl) rfl rfl (fun wq hS => R.indexA (b := b_7) (off := 0) (off' := (0 + i)) (i := i) rfl rfl rfl (by omega) Try.underlying66 Try.sizeOf5 (by rw [Nat.mul_one])) ?_
        refine WT.s ?_
        refine Op1.one rfl (Wn.no rfl) ?_
        refine WL.storeE (b := b_7) (off := (0 + i)) (i := i) (v := (vu8 ((((pre 16 (mb s f) i).set i (((pre 16 (mb s f) i).getD i 0) ^^^ (tm (s.getD (4 * (i / 4)) 0) (f.getD ((0 + 4 - i % 4) % 4) 0)))).getD i 0) ^^^ (tm (s.getD (4 * (i / 4) + 1) 0) (f.getD ((1 + 4 - i % 4) % 4) 0))))) (cs' := (((pre 16 (mb s f) i).set i (((pre 16 (mb s f) i).getD i 0) ^^^ (tm (s.getD (4 * (i / 4)) 0) (f.getD ((0 + 4 - i % 4) % 4) 0)))).set i ((((pre 16 (mb s f) i).set i (((pre 16 (mb s f) i).getD i 0) ^^^ (tm (s.getD (4 * (i / 4)) 0) (f.getD ((0 + 4 - i % 4) % 4) 0)))).getD i 0) ^^^ (tm (s.getD (4 * (i / 4) + 1) 0) (f.getD ((1 + 4 - i % 4) % 4) 0)))).map vu8) h_84 rfl rfl Try.sizeOf5 rfl At.h (by decide) Sg.h rfl (lt_len (K := 16) (len_map (len_set (pre_len hi) _ _)) (by omega)) (set_u8 _ _ _) (fun w_85 h_86 => ?_)
        refine WL.nil ?_
        refine ⟨(SL.cons (h_86.ok _ (.tail _ (.head _))) (SL.cons (h_86.ok _ (.tail _ (.tail _ (.head _)))) (SL.nil _ _))), ?_⟩
        refine WT.nil ?_
        refine inb_n ?_
        refine thn_n ?_
        refine WP.reg ?_
        refine WL.q (Wn.no rfl) rfl rfl (R.bin (v := (vi 2)) rfl rfl (bi_add (c := 2) (by omega) (by omega))) ?_
        refine WL.q (Wn.no rfl) rfl rfl (R.move (v := (vi 2)) rfl) ?_
        refine WL.nil ?_
        refine thn_n ?_
        refine WI.round ?_
        refine WP.seq ?_
        refine WP.reg ?_
        refine WL.q (Wn.no rfl) rfl rfl (R.bin (v := (.bool true)) rfl rfl (bi_lss (r := true) (by decide))) ?_
        refine WL.nil ?_
        refine thn_n ?_
        refine WP.seq ?_
        refine WP.condT rfl ?_
        refine WP.skip ?_
        refine thn_n ?_
        refine WP.seq ?_
        refine WP.block ?_
        refine WP.seq ?_
        refine WP.reg ?_
        refine WL.q (Wn.no rfl) rfl rfl (R.move (v := (vi 2)) rfl) ?_
        refine WL.q (Wn.no rfl) rfl rfl (R.indexP (b := b_1) (off := (0 + (4 * (i / 4)))) (off' := (2 + (4 * (i / 4)))) (i := 2) rfl rfl rfl (by decide) Try.underlying23 Try.sizeOf5 (by omega)) ?_
        refine WL.q (Wn.no rfl) rfl rfl (R.loadE (b := b_1) (off := (2 + (4 * (i / 4)))) (i := 4 * (i / 4) + 2) (v := (vu8 (s.getD (4 * (i / 4) + 2) 0))) rfl Try.isAgg5 (h_86.ok _ (.tail _ (.tail _ (.head _)))) Sg.h (by omega) (get_u8 (lt_len (K := 16) hs (by omega)))) ?_
        refine WL.q (Wn.no rfl) rfl rfl (R.assign (v := (vi 2)) rfl) ?_
        refine WL.q (Wn.no rfl) rfl rfl (R.assign (v := (vu8 (s.getD (4 * (i / 4) + 2) 0))) rfl) ?_
        refine WL.nil ?_
        refine thn_n ?_
        refine WP.drawT (SL w.heap.size [.blk b_4 .nw 100 [(4, f.map vu8)], .blk b_1 .nw 66 [(16, s.map vu8)]]) (.q 0 (.q 1 (.q 3 (.q 4 (.q 5 (.q 6 (.q 7 (.q 8 (.q 9 (.q 10 (.q 11 (.s2 2 12 (.s 12 (.q 13 (.q 14 (.s 15 .nil)))) (.s 2 (.q 13 (.q 14 (.s 15 .nil)))))))))))))))) (by kernel_rfl) (by kernel_rfl) rfl (by kernel_rfl) (fun w_87 hc_89 => (SL.cons ((h_86.same hc_89).ok _ (.tail _ (.head _))) (SL.cons ((h_86.same hc_89).ok _ (.tail _ (.tail _ (.head _)))) (SL.nil _ _)))) (fun w_87 hc_89 => ?_)
        have h_88 := h_86.same hc_89
        refine WT.q rfl (Wn.no rfl) rfl rfl (fun wq hS => R.move (v := (vi ((i : Nat) : Int))) rfl) ?_
        refine WT.q rfl (Wn.no rfl) rfl rfl (fun wq hS => R.indexA (b := b_7) (off := 0) (off' := (0 + i)) (i := i) rfl rfl rfl (by omega) Try.underlying66 Try.sizeOf5 (by rw [Nat.mul_one])) ?_
        refine WT.q rfl (Wn.no rfl) rfl rfl (fun wq hS => R.move (v := (vu8 (s.getD (4 * (i / 4) + 2) 0))) rfl) ?_
        refine WT.q rfl (Wn.no rfl) rfl rfl (fun wq hS => R.move (v := (vi 2)) rfl) ?_
        refine WT.q rfl (Wn.no rfl) rfl rfl (fun wq hS => R.move (v := (vi ((i : Nat) : Int))) rfl) ?_
        refine WT.q rfl (Wn.no rfl) rfl rfl (fun wq hS => R.bin (v := (vi ((i % 4 : Nat) : Int))) rfl rfl (bi_rem (c := ((i % 4 : Nat) : Int)) (Int.natCast_nonneg _) (by omega) (by first | omega | rfl))) ?_
        refine WT.q rfl (Wn.no rfl) rfl rfl (fun wq hS => R.bin (v := (vi (2 - ((i % 4 : Nat) : Int)))) rfl rfl (bi_sub (c := 2 - ((i % 4 : Nat) : Int)) (by omega) (by omega))) ?_
        refine WT.q rfl (Wn.no rfl) rfl rfl (fun wq hS => R.bin (v := (vi ((2 + 4 - i % 4 : Nat) : Int))) rfl rfl (bi_add (c := ((2 + 4 - i % 4 : Nat) : Int)) (by omega) (by omega))) ?_
        refine WT.q rfl (Wn.no rfl) rfl rfl (fun wq hS => R.bin (v := (vi (((2 + 4 - i % 4) % 4 : Nat) : Int))) rfl rfl (bi_rem (c := (((2 + 4 - i % 4) % 4 : Nat) : Int)) (Int.natCast_nonneg _) (by omega) (by first | omega | rfl))) ?_
        refine WT.q rfl (Wn.no rfl) rfl rfl (fun wq hS => R.indexA (b := b_4) (off := 0) (off' := (0 + ((2 + 4 - i % 4) % 4))) (i := (2 + 4 - i % 4) % 4) rfl rfl rfl (by omega) Try.underlying100 Try.sizeOf5 (by rw [Nat.mul_one])) ?_
        refine WT.q rfl (Wn.no rfl) rfl rfl (fun wq hS => R.loadE (b := b_4) (off := (0 + ((2 + 4 - i % 4) % 4))) (i := (2 + 4 - i % 4) % 4) (v := (vu8 (f.getD ((2 + 4 - i % 4) % 4) 0))) rfl Try.isAgg5 (hS _ (.head _)) Sg.h rfl (get_u8 (lt_len (K := 4) hf (by omega)))) ?_
        refine WT.s2 ?_ ?_
        · refine Op1.one rfl (Wn.no rfl) ?_
          refine WL.q (Wn.no rfl) rfl rfl (R.loadE (b := b_7) (off := (0 + i)) (i := i) (v := (vu8 ((((pre 16 (mb s f) i).set i (((pre 16 (mb s f) i).getD i 0) ^^^ (tm (s.getD (4 * (i / 4)) 0) (f.getD ((0 + 4 - i % 4) % 4) 0)))).set i ((((pre 16 (mb s f) i).set i (((pre 16 (mb s f) i).getD i 0) ^^^ (tm (s.getD (4 * (i / 4)) 0) (f.getD ((0 + 4 - i % 4) % 4) 0)))).getD i 0) ^^^ (tm (s.getD (4 * (i / 4) + 1) 0) (f.getD ((1 + 4 - i % 4) % 4) 0)))).getD i 0))) rfl Try.isAgg5 (h_88.ok _ (.head _)) Sg.h rfl (get_u8 (lt_len (K := 16) (len_set (len_set (pre_len hi) _ _) _ _) (by omega)))) ?_
          refine WL.nil ?_
          refine ⟨(SL.cons (h_88.ok _ (.tail _ (.head _))) (SL.cons (h_88.ok _ (.tail _ (.tail _ (.head _)))) (SL.nil _ _))), ?_⟩
          refine WT.s ?_
          refine Op1.one rfl (Wn.no rfl) ?_
          refine WL.call (al := [(vu8 (s.getD (4 * (i / 4) + 2) 0)), (vu8 (f.getD ((2 + 4 - i % 4) % 4) 0))]) Try.call35 rfl rfl (c_Times (s.getD (4 * (i / 4) + 2) 0) (f.getD ((2 + 4 - i % 4) % 4) 0) _ ) rfl ?_
          rintro _ w_91 ⟨rfl, hc_90⟩
          have h_92 := h_88.same hc_90
          refine WL.nil ?_
          refine ⟨(SL.cons (h_92.ok _ (.tail _ (.head _))) (SL.cons (h_92.ok _ (.tail _ (.tail _ (.head _)))) (SL.nil _ _))), ?_⟩
          refine WT.q rfl (Wn.no rfl) rfl rfl (fun wq hS => R.bin (v := (vu8 (((((pre 16 (mb s f) i).set i (((pre 16 (mb s f) i).getD i 0) ^^^ (tm (s.getD (4 * (i / 4)) 0) (f.getD ((0 + 4 - i % 4) % 4) 0)))).set i ((((pre 16 (mb s f) i).set i (((pre 16 (mb s f) i).getD i 0) ^^^ (tm (s.getD (4 * (i / 4)) 0) (f.getD ((0 + 4 - i % 4) % 4) 0)))).getD i 0) ^^^ (tm (s.getD (4 * (i / 4) + 1) 0) (f.getD ((1 + 4 - i % 4) % 4) 0)))).getD i 0) ^^^ (tm (s.getD (4 * (i / 4) + 2) 0) (f.getD ((2 + 4 - i % 4) % 4) 0))))) rfl rfl (b8_xor ((((pre 16 (mb s f) i).set i (((pre 16 (mb s f) i).getD i 0) ^^^ (tm (s.getD (4 * (i / 4)) 0) (f.getD ((0 + 4 - i % 4) % 4) 0)))).set i ((((pre 16 (mb s f) i).set i (((pre 16 (mb s f) i).getD i 0) ^^^ (tm (s.getD (4 * (i / 4)) 0) (f.getD ((0 + 4 - i % 4) % 4) 0)))).getD i 0) ^^^ (tm (s.getD (4 * (i / 4) + 1) 0) (f.getD ((1 + 4 - i % 4) % 4) 0)))).getD i 0) (tm (s.getD (4 * (i / 4) + 2) 0) (f.getD ((2 + 4 - i % 4) % 4) 0)))) ?_
          refine WT.q rfl (Wn.no rfl) rfl rfl (fun wq hS => R.indexA (b := b_7) (off := 0) (off' := (0 + i)) (i := i) rfl rfl rfl (by omega) Try.underlying66 Try.sizeOf5 (by rw [Nat.mul_one])) ?_
          refine WT.s ?_
          refine Op1.one rfl (Wn.no rfl) ?_
          refine WL.storeE (b := b_7) (off := (0 + i)) (i := i) (v := (vu8 (((((pre 16 (mb s f) i).set i (((pre 16 (mb s f) i).getD i 0) ^^^ (tm (s.getD (4 * (i / 4)) 0) (f.getD ((0 + 4 - i % 4) % 4) 0)))).set i ((((pre 16 (mb s f) i).set i (((pre 16 (mb s f) i).getD i 0) ^^^ (tm (s.getD (4 * (i / 4)) 0) (f.getD ((0 + 4 - i % 4) % 4) 0)))).getD i 0) ^^^ (tm (s.getD (4 * (i / 4) + 1) 0) (f.getD ((1 + 4 - i % 4) % 4) 0)))).getD i 0) ^^^ (tm (s.getD (4 * (i / 4) + 2) 0) (f.getD ((2 + 4 - i % 4) % 4) 0))))) (cs' := ((((pre 16 (mb s f) i).set i (((pre 16 (mb s f) i).getD i 0) ^^^ (tm (s.getD (4 * (i / 4)) 0) (f.getD ((0 + 4 - i % 4) % 4) 0)))).set i ((((pre 16 (mb s f) i).set i (((pre 16 (mb s f) i).getD i 0) ^^^ (tm (s.getD (4 * (i / 4)) 0) (f.getD ((0 + 4 - i % 4) % 4) 0)))).getD i 0) ^^^ (tm (s.getD (4 * (i / 4) + 1) 0) (f.getD ((1 + 4 - i % 4) % 4) 0)))).set i (((((pre 16 (mb s f) i).set i (((pre 16 (mb s f) i).getD i 0) ^^^ (tm (s.getD (4 * (i / 4)) 0) (f.getD ((0 + 4 - i % 4) % 4) 0)))).set i ((((pre 16 (mb s f) i).set i (((pre 16 (mb s f) i).getD i 0) ^^^ (tm (s.getD (4 * (i / 4)) 0) (f.getD ((0 + 4 - i % 4) % 4) 0)))).getD i 0) ^^^ (tm (s.getD (4 * (i / 4) + 1) 0) (f.getD ((1 + 4 - i % 4) % 4) 0)))).getD i 0) ^^^ (tm (s.getD (4 * (i / 4) + 2) 0) (f.getD ((2 + 4 - i % 4) % 4) 0)))).map vu8) h_92 rfl rfl Try.sizeOf5 rfl At.h (by decide) Sg.h rfl (lt_len (K := 16) (len_map (len_set (len_set (pre_len hi) _ _) _ _)) (by omega)) (set_u8 _ _ _) (fun w_93 h_94 => ?_)
          refine WL.nil ?_
          refine ⟨(SL.cons (h_94.ok _ (.tail _ (.head _))) (SL.cons (h_94.ok _ (.tail _ (.tail _ (.head _)))) (SL.nil _ _))), ?_⟩
          refine WT.nil ?_
          refine inb_n ?_
          refine thn_n ?_
          refine WP.reg ?_
          refine WL.q (Wn.no rfl) rfl rfl (R.bin (v := (vi 3)) rfl rfl (bi_add (c := 3) (by omega) (by omega))) ?_
          refine WL.q (Wn.no rfl) rfl rfl (R.move (v := (vi 3)) rfl) ?_
          refine WL.nil ?_
          refine thn_n ?_
          refine WI.round ?_
          refine WP.seq ?_
          refine WP.reg ?_
          refine WL.q (Wn.no rfl) rfl rfl (R.bin (v := (.bool true)) rfl rfl (bi_lss (r := true) (by decide))) ?_
          refine WL.nil ?_
          refine thn_n ?_
          refine WP.seq ?_
          refine WP.condT rfl ?_
          refine WP.skip ?_
          refine thn_n ?_
          refine WP.seq ?_
          refine WP.block ?_
          refine WP.seq ?_
          refine WP.reg ?_
          refine WL.q (Wn.no rfl) rfl rfl (R.move (v := (vi 3)) rfl) ?_
          refine WL.q (Wn.no rfl) rfl rfl (R.indexP (b := b_1) (off := (0 + (4 * (i / 4)))) (off' := (3 + (4 * (i / 4)))) (i := 3) rfl rfl rfl (by decide) Try.underlying23 Try.sizeOf5 (by omega)) ?_
          refine WL.q (Wn.no rfl) rfl rfl (R.loadE (b := b_1) (off := (3 + (4 * (i / 4)))) (i := 4 * (i / 4) + 3) (v := (vu8 (s.getD (4 * (i / 4) + 3) 0))) rfl Try.isAgg5 (h_94.ok _ (.tail _ (.tail _ (.head _)))) Sg.h (by omega) (get_u8 (lt_len (K := 16) hs (by omega)))) ?_
          refine WL.q (Wn.no rfl) rfl rfl (R.assign (v := (vi 3)) rfl) ?_
          refine WL.q (Wn.no rfl) rfl rfl (R.assign (v := (vu8 (s.getD (4 * (i / 4) + 3) 0))) rfl) ?_
          refine WL.nil ?_
          refine thn_n ?_
          refine WP.drawT (SL w.heap.size [.blk b_4 .nw 100 [(4, f.map vu8)], .blk b_1 .nw 66 [(16, s.map vu8)]]) (.q 0 (.q 1 (.q 3 (.q 4 (.q 5 (.q 6 (.q 7 (.q 8 (.q 9 (.q 10 (.q 11 (.s2 2 12 (.s 12 (.q 13 (.q 14 (.s 15 .nil)))) (.s 2 (.q 13 (.q 14 (.s 15 .nil)))))))))))))))) (by kernel_rfl) (by kernel_rfl) rfl (by kernel_rfl) (fun w_95 hc_97 => (SL.cons ((h_94.same hc_97).ok _ (.tail _ (.head _))) (SL.cons ((h_94.same hc_97).ok _ (.tail _ (.tail _ (.head _)))) (SL.nil _ _)))) (fun w_95 hc_97 => ?_)
          have h_96 := h_94.same hc_97
          refine WT.q rfl (Wn.no rfl) rfl rfl (fun wq hS => R.move (v := (vi ((i : Nat) : Int))) rfl) ?_
          refine WT.q rfl (Wn.no rfl) rfl rfl (fun wq hS => R.indexA (b := b_7) (off := 0) (off' := (0 + i)) (i := i) rfl rfl rfl (by omega) Try.underlying66 Try.sizeOf5 (by rw [Nat.mul_one])) ?_
          refine WT.q rfl (Wn.no rfl) rfl rfl (fun wq hS => R.move (v := (vu8 (s.getD (4 * (i / 4) + 3) 0))) rfl) ?_
          refine WT.q rfl (Wn.no rfl) rfl rfl (fun wq hS => R.move (v := (vi 3)) rfl) ?_
          refine WT.q rfl (Wn.no rfl) rfl rfl (fun wq hS => R.move (v := (vi ((i : Nat) : Int))) rfl) ?_
          refine WT.q rfl (Wn.no rfl) rfl rfl (fun wq hS => R.bin (v := (vi ((i % 4 : Nat) : Int))) rfl rfl (bi_rem (c := ((i % 4 : Nat) : Int)) (Int.natCast_nonneg _) (by omega) (by first | omega | rfl))) ?_
          refine WT.q rfl (Wn.no rfl) rfl rfl (fun wq hS => R.bin (v := (vi (3 - ((i % 4 : Nat) : Int)))) rfl rfl (bi_sub (c := 3 - ((i % 4 : Nat) : Int)) (by omega) (by omega))) ?_
          refine WT.q rfl (Wn.no rfl) rfl rfl (fun wq hS => R.bin (v := (vi ((3 + 4 - i % 4 : Nat) : Int))) rfl rfl (bi_add (c := ((3 + 4 - i % 4 : Nat) : Int)) (by omega) (by omega))) ?_
          refine WT.q rfl (Wn.no rfl) rfl rfl (fun wq hS => R.bin (v := (vi (((3 + 4 - i % 4) % 4 : Nat) : Int))) rfl rfl (bi_rem (c := (((3 + 4 - i % 4) % 4 : Nat) : Int)) (Int.natCast_nonneg _) (by omega) (by first | omega | rfl))) ?_
          refine WT.q rfl (Wn.no rfl) rfl rfl (fun wq hS => R.indexA (b := b_4) (off := 0) (off' := (0 + ((3 + 4 - i % 4) % 4))) (i := (3 + 4 - i % 4) % 4) rfl rfl rfl (by omega) Try.underlying100 Try.sizeOf5 (by rw [Nat.mul_one])) ?_
          refine WT.q rfl (Wn.no rfl) rfl rfl (fun wq hS => R.loadE (b := b_4) (off := (0 + ((3 + 4 - i % 4) % 4))) (i := (3 + 4 - i % 4) % 4) (v := (vu8 (f.getD ((3 + 4 - i % 4) % 4) 0))) rfl Try.isAgg5 (hS _ (.head _)) Sg.h rfl (get_u8 (lt_len (K := 4) hf (by omega)))) ?_
          refine WT.s2 ?_ ?_
          · refine Op1.one rfl (Wn.no rfl) ?_
            refine WL.q (Wn.no rfl) rfl rfl (R.loadE (b := b_7) (off := (0 + i)) (i := i) (v := (vu8 (((((pre 16 (mb s f) i).set i (((pre 16 (mb s f) i).getD i 0) ^^^ (tm (s.getD (4 * (i / 4)) 0) (f.getD ((0 + 4 - i % 4) % 4) 0)))).set i ((((pre 16 (mb s f) i).set i (((pre 16 (mb s f) i).getD i 0) ^^^ (tm (s.getD (4 * (i / 4)) 0) (f.getD ((0 + 4 - i % 4) % 4) 0)))).getD i 0) ^^^ (tm (s.getD (4 * (i / 4) + 1) 0) (f.getD ((1 + 4 - i % 4) % 4) 0)))).set i (((((pre 16 (mb s f) i).set i (((pre 16 (mb s f) i).getD i 0) ^^^ (tm (s.getD (4 * (i / 4)) 0) (f.getD ((0 + 4 - i % 4) % 4) 0)))).set i ((((pre 16 (mb s f) i).set i (((pre 16 (mb s f) i).getD i 0) ^^^ (tm (s.getD (4 * (i / 4)) 0) (f.getD ((0 + 4 - i % 4) % 4) 0)))).getD i 0) ^^^ (tm (s.getD (4 * (i / 4) + 1) 0) (f.getD ((1 + 4 - i % 4) % 4) 0)))).getD i 0) ^^^ (tm (s.getD (4 * (i / 4) + 2) 0) (f.getD ((2 + 4 - i % 4) % 4) 0)))).getD i 0))) rfl Try.isAgg5 (h_96.ok _ (.head _)) Sg.h rfl (get_u8 (lt_len (K := 16) (len_set (len_set (len_set (pre_len hi) _ _) _ _) _ _) (by omega)))) ?_
            refine WL.nil ?_
            refine ⟨(SL.cons (h_96.ok _ (.tail _ (.head _))) (SL.cons (h_96.ok _ (.tail _ (.tail _ (.head _)))) (SL.nil _ _))), ?_⟩
            refine WT.s ?_
            refine Op1.one rfl (Wn.no rfl) ?_
            refine WL.call (al := [(vu8 (s.getD (4 * (i / 4) + 3) 0)), (vu8 (f.getD ((3 + 4 - i % 4) % 4) 0))]) Try.call35 rfl rfl (c_Times (s.getD (4 * (i / 4) + 3) 0) (f.getD ((3 + 4 - i % 4) % 4) 0) _ ) rfl ?_
            rintro _ w_99 ⟨rfl, hc_98⟩
            have h_100 := h_96.same hc_98
            refine WL.nil ?_
            refine ⟨(SL.cons (h_100.ok _ (.tail _ (.head _))) (SL.cons (h_100.ok _ (.tail _ (.tail _ (.head _)))) (SL.nil _ _))), ?_⟩
            refine WT.q rfl (Wn.no rfl) rfl rfl (fun wq hS => R.bin (v := (vu8 ((((((pre 16 (mb s f) i).set i (((pre 16 (mb s f) i).getD i 0) ^^^ (tm (s.getD (4 * (i / 4)) 0) (f.getD ((0 + 4 - i % 4) % 4) 0)))).set i ((((pre 16 (mb s f) i).set i (((pre 16 (mb s f) i).getD i 0) ^^^ (tm (s.getD (4 * (i / 4)) 0) (f.getD ((0 + 4 - i % 4) % 4) 0)))).getD i 0) ^^^ (tm (s.getD (4 * (i / 4) + 1) 0) (f.getD ((1 + 4 - i % 4) % 4) 0)))).set i (((((pre 16 (mb s f) i).set i (((pre 16 (mb s f) i).getD i 0) ^^^ (tm (s.getD (4 * (i / 4)) 0) (f.getD ((0 + 4 - i % 4) % 4) 0)))).set i ((((pre 16 (mb s f) i).set i (((pre 16 (mb s f) i).getD i 0) ^^^ (tm (s.getD (4 * (i / 4)) 0) (f.getD ((0 + 4 - i % 4) % 4) 0)))).getD i 0) ^^^ (tm (s.getD (4 * (i / 4) + 1) 0) (f.getD ((1 + 4 - i % 4) % 4) 0)))).getD i 0) ^^^ (tm (s.getD (4 * (i / 4) + 2) 0) (f.getD ((2 + 4 - i % 4) % 4) 0)))).getD i 0) ^^^ (tm (s.getD (4 * (i / 4) + 3) 0) (f.getD ((3 + 4 - i % 4) % 4) 0))))) rfl rfl (b8_xor (((((pre 16 (mb s f) i).set i (((pre 16 (mb s f) i).getD i 0) ^^^ (tm (s.getD (4 * (i / 4)) 0) (f.getD ((0 + 4 - i % 4) % 4) 0)))).set i ((((pre 16 (mb s f) i).set i (((pre 16 (mb s f) i).getD i 0) ^^^ (tm (s.getD (4 * (i / 4)) 0) (f.getD ((0 + 4 - i % 4) % 4) 0)))).getD i 0) ^^^ (tm (s.getD (4 * (i / 4) + 1) 0) (f.getD ((1 + 4 - i % 4) % 4) 0)))).set i (((((pre 16 (mb s f) i).set i (((pre 16 (mb s f) i).getD i 0) ^^^ (tm (s.getD (4 * (i / 4)) 0) (f.getD ((0 + 4 - i % 4) % 4) 0)))).set i ((((pre 16 (mb s f) i).set i (((pre 16 (mb s f) i).getD i 0) ^^^ (tm (s.getD (4 * (i / 4)) 0) (f.getD ((0 + 4 - i % 4) % 4) 0)))).getD i 0) ^^^ (tm (s.getD (4 * (i / 4) + 1) 0) (f.getD ((1 + 4 - i % 4) % 4) 0)))).getD i 0) ^^^ (tm (s.getD (4 * (i / 4) + 2) 0) (f.getD ((2 + 4 - i % 4) % 4) 0)))).getD i 0) (tm (s.getD (4 * (i / 4) + 3) 0) (f.getD ((3 + 4 - i % 4) % 4) 0)))) ?_
            refine WT.q rfl (Wn.no rfl) rfl rfl (fun wq hS => R.indexA (b := b_7) (off := 0) (off' := (0 + i)) (i := i) rfl rfl rfl (by omega) Try.underlying66 Try.sizeOf5 (by rw [Nat.mul_one])) ?_
            refine WT.s ?_
            refine Op1.one rfl (Wn.no rfl) ?_
            refine WL.storeE (b := b_7) (off := (0 + i)) (i := i) (v := (vu8 ((((((pre 16 (mb s f) i).set i (((pre 16 (mb s f) i).getD i 0) ^^^ (tm (s.getD (4 * (i / 4)) 0) (f.getD ((0 + 4 - i % 4) % 4) 0)))).set i ((((pre 16 (mb s f) i).set i (((pre 16 (mb s f) i).getD i 0) ^^^ (tm (s.getD (4 * (i / 4)) 0) (f.getD ((0 + 4 - i % 4) % 4) 0)))).getD i 0) ^^^ (tm (s.getD (4 * (i / 4) + 1) 0) (f.getD ((1 + 4 - i % 4) % 4) 0)))).set i (((((pre 16 (mb s f) i).set i (((pre 16 (mb s f) i).getD i 0) ^^^ (tm (s.getD (4 * (i / 4)) 0) (f.getD ((0 + 4 - i % 4) % 4) 0)))).set i ((((pre 16 (mb s f) i).set i (((pre 16 (mb s f) i).getD i 0) ^^^ (tm (s.getD (4 * (i / 4)) 0) (f.getD ((0 + 4 - i % 4) % 4) 0)))).getD i 0) ^^^ (tm (s.getD (4 * (i / 4) + 1) 0) (f.getD ((1 + 4 - i % 4) % 4) 0)))).getD i 0) ^^^ (tm (s.getD (4 * (i / 4) + 2) 0) (f.getD ((2 + 4 - i % 4) % 4) 0)))).getD i 0) ^^^ (tm (s.getD (4 * (i / 4) + 3) 0) (f.getD ((3 + 4 - i % 4) % 4) 0))))) (cs' := (((((pre 16 (mb s f) i).set i (((pre 16 (mb s f) i).getD i 0) ^^^ (tm (s.getD (4 * (i / 4)) 0) (f.getD ((0 + 4 - i % 4) % 4) 0)))).set i ((((pre 16 (mb s f) i).set i (((pre 16 (mb s f) i).getD i 0) ^^^ (tm (s.getD (4 * (i / 4)) 0) (f.getD ((0 + 4 - i % 4) % 4) 0)))).getD i 0) ^^^ (tm (s.getD (4 * (i / 4) + 1) 0) (f.getD ((1 + 4 - i % 4) % 4) 0)))).set i (((((pre 16 (mb s f) i).set i (((pre 16 (mb s f) i).getD i 0) ^^^ (tm (s.getD (4 * (i / 4)) 0) (f.getD ((0 + 4 - i % 4) % 4) 0)))).set i ((((pre 16 (mb s f) i).set i (((pre 16 (mb s f) i).getD i 0) ^^^ (tm (s.getD (4 * (i / 4)) 0) (f.getD ((0 + 4 - i % 4) % 4) 0)))).getD i 0) ^^^ (tm (s.getD (4 * (i / 4) + 1) 0) (f.getD ((1 + 4 - i % 4) % 4) 0)))).getD i 0) ^^^ (tm (s.getD (4 * (i / 4) + 2) 0) (f.getD ((2 + 4 - i % 4) % 4) 0)))).set i ((((((pre 16 (mb s f) i).set i (((pre 16 (mb s f) i).getD i 0) ^^^ (tm (s.getD (4 * (i / 4)) 0) (f.getD ((0 + 4 - i % 4) % 4) 0)))).set i ((((pre 16 (mb s f) i).set i (((pre 16 (mb s f) i).getD i 0) ^^^ (tm (s.getD (4 * (i / 4)) 0) (f.getD ((0 + 4 - i % 4) % 4) 0)))).getD i 0) ^^^ (tm (s.getD (4 * (i / 4) + 1) 0) (f.getD ((1 + 4 - i % 4) % 4) 0)))).set i (((((pre 16 (mb s f) i).set i (((pre 16 (mb s f) i).getD i 0) ^^^ (tm (s.getD (4 * (i / 4)) 0) (f.getD ((0 + 4 - i % 4) % 4) 0)))).set i ((((pre 16 (mb s f) i).set i (((pre 16 (mb s f) i).getD i 0) ^^^ (tm (s.getD (4 * (i / 4)) 0) (f.getD ((0 + 4 - i % 4) % 4) 0)))).getD i 0) ^^^ (tm (s.getD (4 * (i / 4) + 1) 0) (f.getD ((1 + 4 - i % 4) % 4) 0)))).getD i 0) ^^^ (tm (s.getD (4 * (i / 4) + 2) 0) (f.getD ((2 + 4 - i % 4) % 4) 0)))).getD i 0) ^^^ (tm (s.getD (4 * (i / 4) + 3) 0) (f.getD ((3 + 4 - i % 4) % 4) 0)))).map vu8) h_100 rfl rfl Try.sizeOf5 rfl At.h (by decide) Sg.h rfl (lt_len (K := 16) (len_map (len_set (len_set (len_set (pre_len hi) _ _) _ _) _ _)) (by omega)) (set_u8 _ _ _) (fun w_101 h_102 => ?_)
            refine WL.nil ?_
            refine ⟨(SL.cons (h_102.ok _ (.tail _ (.head _))) (SL.cons (h_102.ok _ (.tail _ (.tail _ (.head _)))) (SL.nil _ _))), ?_⟩
            refine WT.nil ?_
            refine inb_n ?_
            refine thn_n ?_
            refine WP.reg ?_
            refine WL.q (Wn.no rfl) rfl rfl (R.bin (v := (vi 4)) rfl rfl (bi_add (c := 4) (by omega) (by omega))) ?_
            refine WL.q (Wn.no rfl) rfl rfl (R.move (v := (vi 4)) rfl) ?_
            refine WL.nil ?_
            refine thn_n ?_
            refine WI.round ?_
            refine WP.seq ?_
            refine WP.reg ?_
            refine WL.q (Wn.no rfl) rfl rfl (R.bin (v := (.bool false)) rfl rfl (bi_lss (r := false) (by decide))) ?_
            refine WL.nil ?_
            refine thn_n ?_
            refine WP.seq ?_
            refine WP.condF rfl ?_
            refine WP.exit ?_
            refine thn_x ?_
            refine thn_x ?_
            refine inb_hit ?_
            refine inb_n ?_
            refine thn_n ?_
            refine WP.reg ?_
            refine WL.q (Wn.no rfl) rfl rfl (R.bin (v := (vi ((i + 1 : Nat) : Int))) rfl rfl (bi_add (c := ((i + 1 : Nat) : Int)) (by omega) (by omega))) ?_
            refine WL.q (Wn.no rfl) rfl rfl (R.move (v := (vi ((i + 1 : Nat) : Int))) rfl) ?_
            refine WL.nil ?_
            refine thn_n ?_
            rw [mix_step (s := s) (f := f) (i := i) (by omega) (by rfl) (by rfl) (by rfl) (by rfl)] at h_102
            exact ⟨i + 1, _, (by omega), (Ag.upd rfl (Ag.upd rfl (Ag.upd rfl (Ag.upd rfl (Ag.upd rfl (Ag.upd rfl (Ag.upd rfl (Ag.upd rfl (Ag.upd rfl (Ag.upd rfl (Ag.upd rfl (Ag.upd rfl (Ag.upd rfl (Ag.upd rfl (Ag.upd rfl (Ag.upd rfl (Ag.upd rfl (Ag.upd rfl (Ag.upd rfl (Ag.upd rfl (Ag.upd rfl (Ag.upd rfl (Ag.upd rfl (Ag.upd rfl (Ag.upd rfl (Ag.upd rfl (Ag.upd rfl (Ag.upd rfl (Ag.upd rfl (Ag.upd rfl (Ag.upd rfl (Ag.upd rfl (Ag.upd rfl (Ag.upd rfl (Ag.upd rfl (Ag.upd rfl (Ag.upd rfl (Ag.upd rfl (Ag.upd rfl (Ag.upd rfl (Ag.upd rfl (Ag.upd rfl (Ag.upd rfl (Ag.upd rfl (Ag.upd rfl (Ag.upd rfl (Ag.upd rfl (Ag.upd rfl (Ag.upd rfl (Ag.upd rfl (Ag.upd rfl (Ag.upd rfl (Ag.upd rfl (Ag.upd rfl (Ag.upd rfl (Ag.upd rfl (Ag.upd rfl (Ag.upd rfl (Ag.upd rfl (Ag.upd rfl (Ag.upd rfl (Ag.upd rfl (Ag.upd rfl (Ag.upd rfl (Ag.upd rfl (Ag.upd rfl (Ag.upd rfl (Ag.upd rfl (Ag.upd rfl (Ag.upd rfl (Ag.upd rfl (Ag.upd rfl (Ag.upd rfl (Ag.upd rfl (Ag.updL rfl (Ag.trans (Ag.sub rfl (Ag.mix _ _ _)) (Ag.upd rfl (Ag.upd rfl (Ag.upd rfl (Ag.upd rfl (Ag.upd rfl (Ag.upd rfl (Ag.upd rfl (Ag.upd rfl (Ag.upd rfl (Ag.upd rfl (Ag.upd rfl (Ag.upd rfl (Ag.upd rfl (Ag.upd rfl (Ag.upd rfl (Ag.updL rfl (Ag.mix _ _ _))))))))))))))))))))))))))))))))))))))))))))))))))))))))))))))))))))))))))))))))))))))))))))), ⟨rfl, trivial⟩, h_102, (by omega), rfl⟩
          · refine Op1.one rfl (Wn.no rfl) ?_
            refine WL.call (al := [(vu8 (s.getD (4 * (i / 4) + 3) 0)), (vu8 (f.getD ((3 + 4 - i % 4) % 4) 0))]) Try.call35 rfl rfl (c_Times (s.getD (4 * (i / 4) + 3) 0) (f.getD ((3 + 4 - i % 4) % 4) 0) _ ) rfl ?_
            rintro _ w_104 ⟨rfl, hc_103⟩
            have h_105 := h_96.same hc_103
            refine WL.nil ?_
            refine ⟨(SL.cons (h_105.ok _ (.tail _ (.head _))) (SL.cons (h_105.ok _ (.tail _ (.tail _ (.head _)))) (SL.nil _ _))), ?_⟩
            refine WT.s ?_
            refine Op1.one rfl (Wn.no rfl) ?_
            refine WL.q (Wn.no rfl) rfl rfl (R.loadE (b := b_7) (off := (0 + i)) (i := i) (v := (vu8 (((((pre 16 (mb s f) i).set i (((pre 16 (mb s f) i).getD i 0) ^^^ (tm (s.getD (4 * (i / 4)) 0) (f.getD ((0 + 4 - i % 4) % 4) 0)))).set i ((((pre 16 (mb s f) i).set i (((pre 16 (mb s f) i).getD i 0) ^^^ (tm (s.getD (4 * (i / 4)) 0) (f.getD ((0 + 4 - i % 4) % 4) 0)))).getD i 0) ^^^ (tm (s.getD (4 * (i / 4) + 1) 0) (f.getD ((1 + 4 - i % 4) % 4) 0)))).set i (((((pre 16 (mb s f) i).set i (((pre 16 (mb s f) i).getD i 0) ^^^ (tm (s.getD (4 * (i / 4)) 0) (f.getD ((0 + 4 - i % 4) % 4) 0)))).set i ((((pre 16 (mb s f) i).set i (((pre 16 (mb s f) i).getD i 0) ^^^ (tm (s.getD (4 * (i / 4)) 0) (f.getD ((0 + 4 - i % 4) % 4) 0)))).getD i 0) ^^^ (tm (s.getD (4 * (i / 4) + 1) 0) (f.getD ((1 + 4 - i % 4) % 4) 0)))).getD i 0) ^^^ (tm (s.getD (4 * (i / 4) + 2) 0) (f.getD ((2 + 4 - i % 4) % 4) 0)))).getD i 0))) rfl Try.isAgg5 (h_105.ok _ (.head _)) Sg.h rfl (get_u8 (lt_len (K := 16) (len_set (len_set (len_set (pre_len hi) _ _) _ _) _ _) (by omega)))) ?_
            refine WL.nil ?_
            refine ⟨(SL.cons (h_105.ok _ (.tail _ (.head _))) (SL.cons (h_105.ok _ (.tail _ (.tail _ (.head _)))) (SL.nil _ _))), ?_⟩
            refine WT.q rfl (Wn.no rfl) rfl rfl (fun wq hS => R.bin (v := (vu8 ((((((pre 16 (mb s f) i).set i (((pre 16 (mb s f) i).getD i 0) ^^^ (tm (s.getD (4 * (i / 4)) 0) (f.getD ((0 + 4 - i % 4) % 4) 0)))).set i ((((pre 16 (mb s f) i).set i (((pre 16 (mb s f) i).getD i 0) ^^^ (tm (s.getD (4 * (i / 4)) 0) (f.getD ((0 + 4 - i % 4) % 4) 0)))).getD i 0) ^^^ (tm (s.getD (4 * (i / 4) + 1) 0) (f.getD ((1 + 4 - i % 4) % 4) 0)))).set i (((((pre 16 (mb s f) i).set i (((pre 16 (mb s f) i).getD i 0) ^^^ (tm (s.getD (4 * (i / 4)) 0) (f.getD ((0 + 4 - i % 4) % 4) 0)))).set i ((((pre 16 (mb s f) i).set i (((pre 16 (mb s f) i).getD i 0) ^^^ (tm (s.getD (4 * (i / 4)) 0) (f.getD ((0 + 4 - i % 4) % 4) 0)))).getD i 0) ^^^ (tm (s.getD (4 * (i / 4) + 1) 0) (f.getD ((1 + 4 - i % 4) % 4) 0)))).getD i 0) ^^^ (tm (s.getD (4 * (i / 4) + 2) 0) (f.getD ((2 + 4 - i % 4) % 4) 0)))).getD i 0) ^^^ (tm (s.getD (4 * (i / 4) + 3) 0) (f.getD ((3 + 4 - i % 4) % 4) 0))))) rfl rfl (b8_xor (((((pre 16 (mb s f) i).set i (((pre 16 (mb s f) i).getD i 0) ^^^ (tm (s.getD (4 * (i / 4)) 0) (f.getD ((0 + 4 - i % 4) % 4) 0)))).set i ((((pre 16 (mb s f) i).set i (((pre 16 (mb s f) i).getD i 0) ^^^ (tm (s.getD (4 * (i / 4)) 0) (f.getD ((0 + 4 - i % 4) % 4) 0)))).getD i 0) ^^^ (tm (s.getD (4 * (i / 4) + 1) 0) (f.getD ((1 + 4 - i % 4) % 4) 0)))).set i (((((pre 16 (mb s f) i).set i (((pre 16 (mb s f) i).getD i 0) ^^^ (tm (s.getD (4 * (i / 4)) 0) (f.getD ((0 + 4 - i % 4) % 4) 0)))).set i ((((pre 16 (mb s f) i).set i (((pre 16 (mb s f) i).getD i 0) ^^^ (tm (s.getD (4 * (i / 4)) 0) (f.getD ((0 + 4 - i % 4) % 4) 0)))).getD i 0) ^^^ (tm (s.getD (4 * (i / 4) + 1) 0) (f.getD ((1 + 4 - i % 4) % 4) 0)))).getD i 0) ^^^ (tm (s.getD (4 * (i / 4) + 2) 0) (f.getD ((2 + 4 - i % 4) % 4) 0)))).getD i 0) (tm (s.getD (4 * (i / 4) + 3) 0) (f.getD ((3 + 4 - i % 4) % 4) 0)))) ?_
            refine WT.q rfl (Wn.no rfl) rfl rfl (fun wq hS => R.indexA (b := b_7) (off := 0) (off' := (0 + i)) (i := i) rfl rfl rfl (by omega) Try.underlying66 Try.sizeOf5 (by rw [Nat.mul_one])) ?_
            refine WT.s ?_
            refine Op1.one rfl (Wn.no rfl) ?_
            refine WL.storeE (b := b_7) (off := (0 + i)) (i := i) (v := (vu8 ((((((pre 16 (mb s f) i).set i (((pre 16 (mb s f) i).getD i 0) ^^^ (tm (s.getD (4 * (i / 4)) 0) (f.getD ((0 + 4 - i % 4) % 4) 0)))).set i ((((pre 16 (mb s f) i).set i (((pre 16 (mb s f) i).getD i 0) ^^^ (tm (s.getD (4 * (i / 4)) 0) (f.getD ((0 + 4 - i % 4) % 4) 0)))).getD i 0) ^^^ (tm (s.getD (4 * (i / 4) + 1) 0) (f.getD ((1 + 4 - i % 4) % 4) 0)))).set i (((((pre 16 (mb s f) i).set i (((pre 16 (mb s f) i).getD i 0) ^^^ (tm (s.getD (4 * (i / 4)) 0) (f.getD ((0 + 4 - i % 4) % 4) 0)))).set i ((((pre 16 (mb s f) i).set i (((pre 16 (mb s f) i).getD i 0) ^^^ (tm (s.getD (4 * (i / 4)) 0) (f.getD ((0 + 4 - i % 4) % 4) 0)))).getD i 0) ^^^ (tm (s.getD (4 * (i / 4) + 1) 0) (f.getD ((1 + 4 - i % 4) % 4) 0)))).getD i 0) ^^^ (tm (s.getD (4 * (i / 4) + 2) 0) (f.getD ((2 + 4 - i % 4) % 4) 0)))).getD i 0) ^^^ (tm (s.getD (4 * (i / 4) + 3) 0) (f.getD ((3 + 4 - i % 4) % 4) 0))))) (cs' := (((((pre 16 (mb s f) i).set i (((pre 16 (mb s f) i).getD i 0) ^^^ (tm (s.getD (4 * (i / 4)) 0) (f.getD ((0 + 4 - i % 4) % 4) 0)))).set i ((((pre 16 (mb s f) i).set i (((pre 16 (mb s f) i).getD i 0) ^^^ (tm (s.getD (4 * (i / 4)) 0) (f.getD ((0 + 4 - i % 4) % 4) 0)))).getD i 0) ^^^ (tm (s.getD (4 * (i / 4) + 1) 0) (f.getD ((1 + 4 - i % 4) % 4) 0)))).set i (((((pre 16 (mb s f) i).set i (((pre 16 (mb s f) i).getD i 0) ^^^ (tm (s.getD (4 * (i / 4)) 0) (f.getD ((0 + 4 - i % 4) % 4) 0)))).set i ((((pre 16 (mb s f) i).set i (((pre 16 (mb s f) i).getD i 0) ^^^ (tm (s.getD (4 * (i / 4)) 0) (f.getD ((0 + 4 - i % 4) % 4) 0)))).getD i 0) ^^^ (tm (s.getD (4 * (i / 4) + 1) 0) (f.getD ((1 + 4 - i % 4) % 4) 0)))).getD i 0) ^^^ (tm (s.getD (4 * (i / 4) + 2) 0) (f.getD ((2 + 4 - i % 4) % 4) 0)))).set i ((((((pre 16 (mb s f) i).set i (((pre 16 (mb s f) i).getD i 0) ^^^ (tm (s.getD (4 * (i / 4)) 0) (f.getD ((0 + 4 - i % 4) % 4) 0)))).set i ((((pre 16 (mb s f) i).set i (((pre 16 (mb s f) i).getD i 0) ^^^ (tm (s.getD (4 * (i / 4)) 0) (f.getD ((0 + 4 - i % 4) % 4) 0)))).getD i 0) ^^^ (tm (s.getD (4 * (i / 4) + 1) 0) (f.getD ((1 + 4 - i % 4) % 4) 0)))).set i (((((pre 16 (mb s f) i).set i (((pre 16 (mb s f) i).getD i 0) ^^^ (tm (s.getD (4 * (i / 4)) 0) (f.getD ((0 + 4 - i % 4) % 4) 0)))).set i ((((pre 16 (mb s f) i).set i (((pre 16 (mb s f) i).getD i 0) ^^^ (tm (s.getD (4 * (i / 4)) 0) (f.getD ((0 + 4 - i % 4) % 4) 0)))).getD i 0) ^^^ (tm (s.getD (4 * (i / 4) + 1) 0) (f.getD ((1 + 4 - i % 4) % 4) 0)))).getD i 0) ^^^ (tm (s.getD (4 * (i / 4) + 2) 0) (f.getD ((2 + 4 - i % 4) % 4) 0)))).getD i 0) ^^^ (tm (s.getD (4 * (i / 4) + 3) 0) (f.getD ((3 + 4 - i % 4) % 4) 0)))).map vu8) h_105 rfl rfl Try.sizeOf5 rfl At.h (by decide) Sg.h rfl (lt_len (K := 16) (len_map (len_set (len_set (len_set (pre_len hi) _ _) _ _) _ _)) (by omega)) (set_u8 _ _ _) (fun w_106 h_107 => ?_)
            refine WL.nil ?_
            refine ⟨(SL.cons (h_107.ok _ (.tail _ (.head _))) (SL.cons (h_107.ok _ (.tail _ (.tail _ (.head _)))) (SL.nil _ _))), ?_⟩
            refine WT.nil ?_
            refine inb_n ?_
            refine thn_n ?_
            refine WP.reg ?_
            refine WL.q (Wn.no rfl) rfl rfl (R.bin (v := (vi 4)) rfl rfl (bi_add (c := 4) (by omega) (by omega))) ?_
            refine WL.q (Wn.no rfl) rfl rfl (R.move (v := (vi 4)) rfl) ?_
            refine WL.nil ?_
            refine thn_n ?_
            refine WI.round ?_
            refine WP.seq ?_
            refine WP.reg ?_
            refine WL.q (Wn.no rfl) rfl rfl (R.bin (v := (.bool false)) rfl rfl (bi_lss (r := false) (by decide))) ?_
            refine WL.nil ?_
            refine thn_n ?_
            refine WP.seq ?_
            refine WP.condF rfl ?_
            refine WP.exit ?_
            refine thn_x ?_
            refine thn_x ?_
            refine inb_hit ?_
            refine inb_n ?_
            refine thn_n ?_
            refine WP.reg ?_
            refine WL.q (Wn.no rfl) rfl rfl (R.bin (v := (vi ((i + 1 : Nat) : Int))) rfl rfl (bi_add (c := ((i + 1 : Nat) : Int)) (by omega) (by omega))) ?_
            refine WL.q (Wn.no rfl) rfl rfl (R.move (v := (vi ((i + 1 : Nat) : Int))) rfl) ?_
            refine WL.nil ?_
            refine thn_n ?_
            rw [mix_step (s := s) (f := f) (i := i) (by omega) (by rfl) (by rfl) (by rfl) (by rfl)] at h_107
            exact ⟨i + 1, _, (by omega), (Ag.upd rfl (Ag.upd rfl (Ag.upd rfl (Ag.upd rfl (Ag.upd rfl (Ag.upd rfl (Ag.upd rfl (Ag.upd rfl (Ag.upd rfl (Ag.upd rfl (Ag.upd rfl (Ag.upd rfl (Ag.upd rfl (Ag.upd rfl (Ag.upd rfl (Ag.upd rfl (Ag.upd rfl (Ag.upd rfl (Ag.upd rfl (Ag.upd rfl (Ag.upd rfl (Ag.upd rfl (Ag.upd rfl (Ag.upd rfl (Ag.upd rfl (Ag.upd rfl (Ag.upd rfl (Ag.upd rfl (Ag.upd rfl (Ag.upd rfl (Ag.upd rfl (Ag.upd rfl (Ag.upd rfl (Ag.upd rfl (Ag.upd rfl (Ag.upd rfl (Ag.upd rfl (Ag.upd rfl (Ag.upd rfl (Ag.upd rfl (Ag.upd rfl (Ag.upd rfl (Ag.upd rfl (Ag.upd rfl (Ag.upd rfl (Ag.upd rfl (Ag.upd rfl (Ag.upd rfl (Ag.upd rfl (Ag.upd rfl (Ag.upd rfl (Ag.upd rfl (Ag.upd rfl (Ag.upd rfl (Ag.upd rfl (Ag.upd rfl (Ag.upd rfl (Ag.upd rfl (Ag.upd rfl (Ag.upd rfl (Ag.upd rfl (Ag.upd rfl (Ag.upd rfl (Ag.upd rfl (Ag.upd rfl (Ag.upd rfl (Ag.upd rfl (Ag.upd rfl (Ag.upd rfl (Ag.upd rfl (Ag.upd rfl (Ag.upd rfl (Ag.upd rfl (Ag.upd rfl (Ag.updL rfl (Ag.trans (Ag.sub rfl (Ag.mix _ _ _)) (Ag.upd rfl (Ag.upd rfl (Ag.upd rfl (Ag.upd rfl (Ag.upd rfl (Ag.upd rfl (Ag.upd rfl (Ag.upd rfl (Ag.upd rfl (Ag.upd rfl (Ag.upd rfl (Ag.upd rfl (Ag.upd rfl (Ag.upd rfl (Ag.upd rfl (Ag.updL rfl (Ag.mix _ _ _))))))))))))))))))))))))))))))))))))))))))))))))))))))))))))))))))))))))))))))))))))))))))))), ⟨rfl, trivial⟩, h_107, (by omega), rfl⟩
        · refine Op1.one rfl (Wn.no rfl) ?_
          refine WL.call (al := [(vu8 (s.getD (4 * (i / 4) + 2) 0)), (vu8 (f.getD ((2 + 4 - i % 4) % 4) 0))]) Try.call35 rfl rfl (c_Times (s.getD (4 * (i / 4) + 2) 0) (f.getD ((2 + 4 - i % 4) % 4) 0) _ ) rfl ?_
          rintro _ w_109 ⟨rfl, hc_108⟩
          have h_110 := h_88.same hc_108
          refine WL.nil ?_
          refine ⟨(SL.cons (h_110.ok _ (.tail _ (.head _))) (SL.cons (h_110.ok _ (.tail _ (.tail _ (.head _)))) (SL.nil _ _))), ?_⟩
          refine WT.s ?_
          refine Op1.one rfl (Wn.no rfl) ?_
          refine WL.q (Wn.no rfl) rfl rfl (R.loadE (b := b_7) (off := (0 + i)) (i := i) (v := (vu8 ((((pre 16 (mb s f) i).set i (((pre 16 (mb s f) i).getD i 0) ^^^ (tm (s.getD (4 * (i / 4)) 0) (f.getD ((0 + 4 - i % 4) % 4) 0)))).set i ((((pre 16 (mb s f) i).set i (((pre 16 (mb s f) i).getD i 0) ^^^ (tm (s.getD (4 * (i / 4)) 0) (f.getD ((0 + 4 - i % 4) % 4) 0)))).getD i 0) ^^^ (tm (s.getD (4 * (i / 4) + 1) 0) (f.getD ((1 + 4 - i % 4) % 4) 0)))).getD i 0))) rfl Try.isAgg5 (h_110.ok _ (.head _)) Sg.h rfl (get_u8 (lt_len (K := 16) (len_set (len_set (pre_len hi) _ _) _ _) (by omega)))) ?_
          refine WL.nil ?_
          refine ⟨(SL.cons (h_110.ok _ (.tail _ (.head _))) (SL.cons (h_110.ok _ (.tail _ (.tail _ (.head _)))) (SL.nil _ _))), ?_⟩
          refine WT.q rfl (Wn.no rfl) rfl rfl (fun wq hS => R.bin (v := (vu8 (((((pre 16 (mb s f) i).set i (((pre 16 (mb s f) i).getD i 0) ^^^ (tm (s.getD (4 * (i / 4)) 0) (f.getD ((0 + 4 - i % 4) % 4) 0)))).set i ((((pre 16 (mb s f) i).set i (((pre 16 (mb s f) i).getD i 0) ^^^ (tm (s.getD (4 * (i / 4)) 0) (f.getD ((0 + 4 - i % 4) % 4) 0)))).getD i 0) ^^^ (tm (s.getD (4 * (i / 4) + 1) 0) (f.getD ((1 + 4 - i % 4) % 4) 0)))).getD i 0) ^^^ (tm (s.getD (4 * (i / 4) + 2) 0) (f.getD ((2 + 4 - i % 4) % 4) 0))))) rfl rfl (b8_xor ((((pre 16 (mb s f) i).set i (((pre 16 (mb s f) i).getD i 0) ^^^ (tm (s.getD (4 * (i / 4)) 0) (f.getD ((0 + 4 - i % 4) % 4) 0)))).set i ((((pre 16 (mb s f) i).set i (((pre 16 (mb s f) i).getD i 0) ^^^ (tm (s.getD (4 * (i / 4)) 0) (f.getD ((0 + 4 - i % 4) % 4) 0)))).getD i 0) ^^^ (tm (s.getD (4 * (i / 4) + 1) 0) (f.getD ((1 + 4 - i % 4) % 4) 0)))).getD i 0) (tm (s.getD (4 * (i / 4) + 2) 0) (f.getD ((2 + 4 - i % 4) % 4) 0)))) ?_
          refine WT.q rfl (Wn.no rfl) rfl rfl (fun wq hS => R.indexA (b := b_7) (off := 0) (off' := (0 + i)) (i := i) rfl rfl rfl (by omega) Try.underlying66 Try.sizeOf5 (by rw [Nat.mul_one])) ?_
          refine WT.s ?_
          refine Op1.one rfl (Wn.no rfl) ?_
          refine WL.storeE (b := b_7) (off := (0 + i)) (i := i) (v := (vu8 (((((pre 16 (mb s f) i).set i (((pre 16 (mb s f) i).getD i 0) ^^^ (tm (s.getD (4 * (i / 4)) 0) (f.getD ((0 + 4 - i % 4) % 4) 0)))).set i ((((pre 16 (mb s f) i).set i (((pre 16 (mb s f) i).getD i 0) ^^^ (tm (s.getD (4 * (i / 4)) 0) (f.getD ((0 + 4 - i % 4) % 4) 0)))).getD i 0) ^^^ (tm (s.getD (4 * (i / 4) + 1) 0) (f.getD ((1 + 4 - i % 4) % 4) 0)))).getD i 0) ^^^ (tm (s.getD (4 * (i / 4) + 2) 0) (f.getD ((2 + 4 - i % 4) % 4) 0))))) (cs' := ((((pre 16 (mb s f) i).set i (((pre 16 (mb s f) i).getD i 0) ^^^ (tm (s.getD (4 * (i / 4)) 0) (f.getD ((0 + 4 - i % 4) % 4) 0)))).set i ((((pre 16 (mb s f) i).set i (((pre 16 (mb s f) i).getD i 0) ^^^ (tm (s.getD (4 * (i / 4)) 0) (f.getD ((0 + 4 - i % 4) % 4) 0)))).getD i 0) ^^^ (tm (s.getD (4 * (i / 4) + 1) 0) (f.getD ((1 + 4 - i % 4) % 4) 0)))).set i (((((pre 16 (mb s f) i).set i (((pre 16 (mb s f) i).getD i 0) ^^^ (tm (s.getD (4 * (i / 4)) 0) (f.getD ((0 + 4 - i % 4) % 4) 0)))).set i ((((pre 16 (mb s f) i).set i (((pre 16 (mb s f) i).getD i 0) ^^^ (tm (s.getD (4 * (i / 4)) 0) (f.getD ((0 + 4 - i % 4) % 4) 0)))).getD i 0) ^^^ (tm (s.getD (4 * (i / 4) + 1) 0) (f.getD ((1 + 4 - i % 4) % 4) 0)))).getD i 0) ^^^ (tm (s.getD (4 * (i / 4) + 2) 0) (f.getD ((2 + 4 - i % 4) % 4) 0)))).map vu8) h_110 rfl rfl Try.sizeOf5 rfl At.h (by decide) Sg.h rfl (lt_len (K := 16) (len_map (len_set (len_set (pre_len hi) _ _) _ _)) (by omega)) (set_u8 _ _ _) (fun w_111 h_112 => ?_)
          refine WL.nil ?_
          refine ⟨(SL.cons (h_112.ok _ (.tail _ (.head _))) (SL.cons (h_112.ok _ (.tail _ (.tail _ (.head _)))) (SL.nil _ _))), ?_⟩
          refine WT.nil ?_
          refine inb_n ?_
          refine thn_n ?_
          refine WP.reg ?_
          refine WL.q (Wn.no rfl) rfl rfl (R.bin (v := (vi 3)) rfl rfl (bi_add (c := 3) (by omega) (by omega))) ?_
          refine WL.q (Wn.no rfl) rfl rfl (R.move (v := (vi 3)) rfl) ?_
          refine WL.nil ?_
          refine thn_n ?_
          refine WI.round ?_
          refine WP.seq ?_
          refine WP.reg ?_
          refine WL.q (Wn.no rfl) rfl rfl (R.bin (v := (.bool true)) rfl rfl (bi_lss (r := true) (by decide))) ?_
          refine WL.nil ?_
          refine thn_n ?_
          refine WP.seq ?_
          refine WP.condT rfl ?_
          refine WP.skip ?_
          refine thn_n ?_
          refine WP.seq ?_
          refine WP.block ?_
          refine WP.seq ?_
          refine WP.reg ?_
          refine WL.q (Wn.no rfl) rfl rfl (R.move (v := (vi 3)) rfl) ?_
          refine WL.q (Wn.no rfl) rfl rfl (R.indexP (b := b_1) (off := (0 + (4 * (i / 4)))) (off' := (3 + (4 * (i / 4)))) (i := 3) rfl rfl rfl (by decide) Try.underlying23 Try.sizeOf5 (by omega)) ?_
          refine WL.q (Wn.no rfl) rfl rfl (R.loadE (b := b_1) (off := (3 + (4 * (i / 4)))) (i := 4 * (i / 4) + 3) (v := (vu8 (s.getD (4 * (i / 4) + 3) 0))) rfl Try.isAgg5 (h_112.ok _ (.tail _ (.tail _ (.head _)))) Sg.h (by omega) (get_u8 (lt_len (K := 16) hs (by omega)))) ?_
          refine WL.q (Wn.no rfl) rfl rfl (R.assign (v := (vi 3)) rfl) ?_
          refine WL.q (Wn.no rfl) rfl rfl (R.assign (v := (vu8 (s.getD (4 * (i / 4) + 3) 0))) rfl) ?_
          refine WL.nil ?_
          refine thn_n ?_
          refine WP.drawT (SL w.heap.size [.blk b_4 .nw 100 [(4, f.map vu8)], .blk b_1 .nw 66 [(16, s.map vu8)]]) (.q 0 (.q 1 (.q 3 (.q 4 (.q 5 (.q 6 (.q 7 (.q 8 (.q 9 (.q 10 (.q 11 (.s2 2 12 (.s 12 (.q 13 (.q 14 (.s 15 .nil)))) (.s 2 (.q 13 (.q 14 (.s 15 .nil)))))))))))))))) (by kernel_rfl) (by kernel_rfl) rfl (by kernel_rfl) (fun w_113 hc_115 => (SL.cons ((h_112.same hc_115).ok _ (.tail _ (.head _))) (SL.cons ((h_112.same hc_115).ok _ (.tail _ (.tail _ (.head _)))) (SL.nil _ _)))) (fun w_113 hc_115 => ?_)
          have h_114 := h_112.same hc_115
          refine WT.q rfl (Wn.no rfl) rfl rfl (fun wq hS => R.move (v := (vi ((i : Nat) : Int))) rfl) ?_
          refine WT.q rfl (Wn.no rfl) rfl rfl (fun wq hS => R.indexA (b := b_7) (off := 0) (off' := (0 + i)) (i := i) rfl rfl rfl (by omega) Try.underlying66 Try.sizeOf5 (by rw [Nat.mul_one])) ?_
          refine WT.q rfl (Wn.no rfl) rfl rfl (fun wq hS => R.move (v := (vu8 (s.getD (4 * (i / 4) + 3) 0))) rfl) ?_
          refine WT.q rfl (Wn.no rfl) rfl rfl (fun wq hS => R.move (v := (vi 3)) rfl) ?_
          refine WT.q rfl (Wn.no rfl) rfl rfl (fun wq hS => R.move (v := (vi ((i : Nat) : Int))) rfl) ?_
          refine WT.q rfl (Wn.no rfl) rfl rfl (fun wq hS => R.bin (v := (vi ((i % 4 : Nat) : Int))) rfl rfl (bi_rem (c := ((i % 4 : Nat) : Int)) (Int.natCast_nonneg _) (by omega) (by first | omega | rfl))) ?_
          refine WT.q rfl (Wn.no rfl) rfl rfl (fun wq hS => R.bin (v := (vi (3 - ((i % 4 : Nat) : Int)))) rfl rfl (bi_sub (c := 3 - ((i % 4 : Nat) : Int)) (by omega) (by omega))) ?_
          refine WT.q rfl (Wn.no rfl) rfl rfl (fun wq hS => R.bin (v := (vi ((3 + 4 - i % 4 : Nat) : Int))) rfl rfl (bi_add (c := ((3 + 4 - i % 4 : Nat) : Int)) (by omega) (by omega))) ?_
          refine WT.q rfl (Wn.no rfl) rfl rfl (fun wq hS => R.bin (v := (vi (((3 + 4 - i % 4) % 4 : Nat) : Int))) rfl rfl (bi_rem (c := (((3 + 4 - i % 4) % 4 : Nat) : Int)) (Int.natCast_nonneg _) (by omega) (by first | omega | rfl))) ?_
          refine WT.q rfl (Wn.no rfl) rfl rfl (fun wq hS => R.indexA (b := b_4) (off := 0) (off' := (0 + ((3 + 4 - i % 4) % 4))) (i := (3 + 4 - i % 4) % 4) rfl rfl rfl (by omega) Try.underlying100 Try.sizeOf5 (by rw [Nat.mul_one])) ?_
          refine WT.q rfl (Wn.no rfl) rfl rfl (fun wq hS => R.loadE (b := b_4) (off := (0 + ((3 + 4 - i % 4) % 4))) (i := (3 + 4 - i % 4) % 4) (v := (vu8 (f.getD ((3 + 4 - i % 4) % 4) 0))) rfl Try.isAgg5 (hS _ (.head _)) Sg.h rfl (get_u8 (lt_len (K := 4) hf (by omega)))) ?_
          refine WT.s2 ?_ ?_
          · refine Op1.one rfl (Wn.no rfl) ?_
            refine WL.q (Wn.no rfl) rfl rfl (R.loadE (b := b_7) (off := (0 + i)) (i := i) (v := (vu8 (((((pre 16 (mb s f) i).set i (((pre 16 (mb s f) i).getD i 0) ^^^ (tm (s.getD (4 * (i / 4)) 0) (f.getD ((0 + 4 - i % 4) % 4) 0)))).set i ((((pre 16 (mb s f) i).set i (((pre 16 (mb s f) i).getD i 0) ^^^ (tm (s.getD (4 * (i / 4)) 0) (f.getD ((0 + 4 - i % 4) % 4) 0)))).getD i 0) ^^^ (tm (s.getD (4 * (i / 4) + 1) 0) (f.getD ((1 + 4 - i % 4) % 4) 0)))).set i (((((pre 16 (mb s f) i).set i (((pre 16 (mb s f) i).getD i 0) ^^^ (tm (s.getD (4 * (i / 4)) 0) (f.getD ((0 + 4 - i % 4) % 4) 0)))).set i ((((pre 16 (mb s f) i).set i (((pre 16 (mb s f) i).getD i 0) ^^^ (tm (s.getD (4 * (i / 4)) 0) (f.getD ((0 + 4 - i % 4) % 4) 0)))).getD i 0) ^^^ (tm (s.getD (4 * (i / 4) + 1) 0) (f.getD ((1 + 4 - i % 4) % 4) 0)))).getD i 0) ^^^ (tm (s.getD (4 * (i / 4) + 2) 0) (f.getD ((2 + 4 - i % 4) % 4) 0)))).getD i 0))) rfl Try.isAgg5 (h_114.ok _ (.head _)) Sg.h rfl (get_u8 (lt_len (K := 16) (len_set (len_set (len_set (pre_len hi) _ _) _ _) _ _) (by omega)))) ?_
            refine WL.nil ?_
            refine ⟨(SL.cons (h_114.ok _ (.tail _ (.head _))) (SL.cons (h_114.ok _ (.tail _ (.tail _ (.head _)))) (SL.nil _ _))), ?_⟩
            refine WT.s ?_
            refine Op1.one rfl (Wn.no rfl) ?_
            refine WL.call (al := [(vu8 (s.getD (4 * (i / 4) + 3) 0)), (vu8 (f.getD ((3 + 4 - i % 4) % 4) 0))]) Try.call35 rfl rfl (c_Times (s.getD (4 * (i / 4) + 3) 0) (f.getD ((3 + 4 - i % 4) % 4) 0) _ ) rfl ?_
            rintro _ w_117 ⟨rfl, hc_116⟩
            have h_118 := h_114.same hc_116
            refine WL.nil ?_
            refine ⟨(SL.cons (h_118.ok _ (.tail _ (.head _))) (SL.cons (h_118.ok _ (.tail _ (.tail _ (.head _)))) (SL.nil _ _))), ?_⟩
            refine WT.q rfl (Wn.no rfl) rfl rfl (fun wq hS => R.bin (v := (vu8 ((((((pre 16 (mb s f) i).set i (((pre 16 (mb s f) i).getD i 0) ^^^ (tm (s.getD (4 * (i / 4)) 0) (f.getD ((0 + 4 - i % 4) % 4) 0)))).set i ((((pre 16 (mb s f) i).set i (((pre 16 (mb s f) i).getD i 0) ^^^ (tm (s.getD (4 * (i / 4)) 0) (f.getD ((0 + 4 - i % 4) % 4) 0)))).getD i 0) ^^^ (tm (s.getD (4 * (i / 4) + 1) 0) (f.getD ((1 + 4 - i % 4) % 4) 0)))).set i (((((pre 16 (mb s f) i).set i (((pre 16 (mb s f) i).getD i 0) ^^^ (tm (s.getD (4 * (i / 4)) 0) (f.getD ((0 + 4 - i % 4) % 4) 0)))).set i ((((pre 16 (mb s f) i).set i (((pre 16 (mb s f) i).getD i 0) ^^^ (tm (s.getD (4 * (i / 4)) 0) (f.getD ((0 + 4 - i % 4) % 4) 0)))).getD i 0) ^^^ (tm (s.getD (4 * (i / 4) + 1) 0) (f.getD ((1 + 4 - i % 4) % 4) 0)))).getD i 0) ^^^ (tm (s.getD (4 * (i / 4) + 2) 0) (f.getD ((2 + 4 - i % 4) % 4) 0)))).getD i 0) ^^^ (tm (s.getD (4 * (i / 4) + 3) 0) (f.getD ((3 + 4 - i % 4) % 4) 0))))) rfl rfl (b8_xor (((((pre 16 (mb s f) i).set i (((pre 16 (mb s f) i).getD i 0) ^^^ (tm (s.getD (4 * (i / 4)) 0) (f.getD ((0 + 4 - i % 4) % 4) 0)))).set i ((((pre 16 (mb s f) i).set i (((pre 16 (mb s f) i).getD i 0) ^^^ (tm (s.getD (4 * (i / 4)) 0) (f.getD ((0 + 4 - i % 4) % 4) 0)))).getD i 0) ^^^ (tm (s.getD (4 * (i / 4) + 1) 0) (f.getD ((1 + 4 - i % 4) % 4) 0)))).set i (((((pre 16 (mb s f) i).set i (((pre 16 (mb s f) i).getD i 0) ^^^ (tm (s.getD (4 * (i / 4)) 0) (f.getD ((0 + 4 - i % 4) % 4) 0)))).set i ((((pre 16 (mb s f) i).set i (((pre 16 (mb s f) i).getD i 0) ^^^ (tm (s.getD (4 * (i / 4)) 0) (f.getD ((0 + 4 - i % 4) % 4) 0)))).getD i 0) ^^^ (tm (s.getD (4 * (i / 4) + 1) 0) (f.getD ((1 + 4 - i % 4) % 4) 0)))).getD i 0) ^^^ (tm (s.getD (4 * (i / 4) + 2) 0) (f.getD ((2 + 4 - i % 4) % 4) 0)))).getD i 0) (tm (s.getD (4 * (i / 4) + 3) 0) (f.getD ((3 + 4 - i % 4) % 4) 0)))) ?_
            refine WT.q rfl (Wn.no rfl) rfl rfl (fun wq hS => R.indexA (b := b_7) (off := 0) (off' := (0 + i)) (i := i) rfl rfl rfl (by omega) Try.underlying66 Try.sizeOf5 (by rw [Nat.mul_one])) ?_
            refine WT.s ?_
            refine Op1.one rfl (Wn.no rfl) ?_
            refine WL.storeE (b := b_7) (off := (0 + i)) (i := i) (v := (vu8 ((((((pre 16 (mb s f) i).set i (((pre 16 (mb s f) i).getD i 0) ^^^ (tm (s.getD (4 * (i / 4)) 0) (f.getD ((0 + 4 - i % 4) % 4) 0)))).set i ((((pre 16 (mb s f) i).set i (((pre 16 (mb s f) i).getD i 0) ^^^ (tm (s.getD (4 * (i / 4)) 0) (f.getD ((0 + 4 - i % 4) % 4) 0)))).getD i 0) ^^^ (tm (s.getD (4 * (i / 4) + 1) 0) (f.getD ((1 + 4 - i % 4) % 4) 0)))).set i (((((pre 16 (mb s f) i).set i (((pre 16 (mb s f) i).getD i 0) ^^^ (tm (s.getD (4 * (i / 4)) 0) (f.getD ((0 + 4 - i % 4) % 4) 0)))).set i ((((pre 16 (mb s f) i).set i (((pre 16 (mb s f) i).getD i 0) ^^^ (tm (s.getD (4 * (i / 4)) 0) (f.getD ((0 + 4 - i % 4) % 4) 0)))).getD i 0) ^^^ (tm (s.getD (4 * (i / 4) + 1) 0) (f.getD ((1 + 4 - i % 4) % 4) 0)))).getD i 0) ^^^ (tm (s.getD (4 * (i / 4) + 2) 0) (f.getD ((2 + 4 - i % 4) % 4) 0)))).getD i 0) ^^^ (tm (s.getD (4 * (i / 4) + 3) 0) (f.getD ((3 + 4 - i % 4) % 4) 0))))) (cs' := (((((pre 16 (mb s f) i).set i (((pre 16 (mb s f) i).getD i 0) ^^^ (tm (s.getD (4 * (i / 4)) 0) (f.getD ((0 + 4 - i % 4) % 4) 0)))).set i ((((pre 16 (mb s f) i).set i (((pre 16 (mb s f) i).getD i 0) ^^^ (tm (s.getD (4 * (i / 4)) 0) (f.getD ((0 + 4 - i % 4) % 4) 0)))).getD i 0) ^^^ (tm (s.getD (4 * (i / 4) + 1) 0) (f.getD ((1 + 4 - i % 4) % 4) 0)))).set i (((((pre 16 (mb s f) i).set i (((pre 16 (mb s f) i).getD i 0) ^^^ (tm (s.getD (4 * (i / 4)) 0) (f.getD ((0 + 4 - i % 4) % 4) 0)))).set i ((((pre 16 (mb s f) i).set i (((pre 16 (mb s f) i).getD i 0) ^^^ (tm (s.getD (4 * (i / 4)) 0) (f.getD ((0 + 4 - i % 4) % 4) 0)))).getD i 0) ^^^ (tm (s.getD (4 * (i / 4) + 1) 0) (f.getD ((1 + 4 - i % 4) % 4) 0)))).getD i 0) ^^^ (tm (s.getD (4 * (i / 4) + 2) 0) (f.getD ((2 + 4 - i % 4) % 4) 0)))).set i ((((((pre 16 (mb s f) i).set i (((pre 16 (mb s f) i).getD i 0) ^^^ (tm (s.getD (4 * (i / 4)) 0) (f.getD ((0 + 4 - i % 4) % 4) 0)))).set i ((((pre 16 (mb s f) i).set i (((pre 16 (mb s f) i).getD i 0) ^^^ (tm (s.getD (4 * (i / 4)) 0) (f.getD ((0 + 4 - i % 4) % 4) 0)))).getD i 0) ^^^ (tm (s.getD (4 * (i / 4) + 1) 0) (f.getD ((1 + 4 - i % 4) % 4) 0)))).set i (((((pre 16 (mb s f) i).set i (((pre 16 (mb s f) i).getD i 0) ^^^ (tm (s.getD (4 * (i / 4)) 0) (f.getD ((0 + 4 - i % 4) % 4) 0)))).set i ((((pre 16 (mb s f) i).set i (((pre 16 (mb s f) i).getD i 0) ^^^ (tm (s.getD (4 * (i / 4)) 0) (f.getD ((0 + 4 - i % 4) % 4) 0)))).getD i 0) ^^^ (tm (s.getD (4 * (i / 4) + 1) 0) (f.getD ((1 + 4 - i % 4) % 4) 0)))).getD i 0) ^^^ (tm (s.getD (4 * (i / 4) + 2) 0) (f.getD ((2 + 4 - i % 4) % 4) 0)))).getD i 0) ^^^ (tm (s.getD (4 * (i / 4) + 3) 0) (f.getD ((3 + 4 - i % 4) % 4) 0)))).map vu8) h_118 rfl rfl Try.sizeOf5 rfl At.h (by decide) Sg.h rfl (lt_len (K := 16) (len_map (len_set (len_set (len_set (pre_len hi) _ _) _ _) _ _)) (by omega)) (set_u8 _ _ _) (fun w_119 h_120 => ?_)
            refine WL.nil ?_
            refine ⟨(SL.cons (h_120.ok _ (.tail _ (.head _))) (SL.cons (h_120.ok _ (.tail _ (.tail _ (.head _)))) (SL.nil _ _))), ?_⟩
            refine WT.nil ?_
            refine inb_n ?_
            refine thn_n ?_
            refine WP.reg ?_
            refine WL.q (Wn.no rfl) rfl rfl (R.bin (v := (vi 4)) rfl rfl (bi_add (c := 4) (by omega) (by omega))) ?_
            refine WL.q (Wn.no rfl) rfl rfl (R.move (v := (vi 4)) rfl) ?_
            refine WL.nil ?_
            refine thn_n ?_
            refine WI.round ?_
            refine WP.seq ?_
            refine WP.reg ?_
            refine WL.q (Wn.no rfl) rfl rfl (R.bin (v := (.bool false)) rfl rfl (bi_lss (r := false) (by decide))) ?_
            refine WL.nil ?_
            refine thn_n ?_
            refine WP.seq ?_
            refine WP.condF rfl ?_
            refine WP.exit ?_
            refine thn_x ?_
            refine thn_x ?_
            refine inb_hit ?_
            refine inb_n ?_
            refine thn_n ?_
            refine WP.reg ?_
            refine WL.q (Wn.no rfl) rfl rfl (R.bin (v := (vi ((i + 1 : Nat) : Int))) rfl rfl (bi_add (c := ((i + 1 : Nat) : Int)) (by omega) (by omega))) ?_
            refine WL.q (Wn.no rfl) rfl rfl (R.move (v := (vi ((i + 1 : Nat) : Int))) rfl) ?_
            refine WL.nil ?_
            refine thn_n ?_
            rw [mix_step (s := s) (f := f) (i := i) (by omega) (by rfl) (by rfl) (by rfl) (by rfl)] at h_120
            exact ⟨i + 1, _, (by omega), (Ag.upd rfl (Ag.upd rfl (Ag.upd rfl (Ag.upd rfl (Ag.upd rfl (Ag.upd rfl (Ag.upd rfl (Ag.upd rfl (Ag.upd rfl (Ag.upd rfl (Ag.upd rfl (Ag.upd rfl (Ag.upd rfl (Ag.upd rfl (Ag.upd rfl (Ag.upd rfl (Ag.upd rfl (Ag.upd rfl (Ag.upd rfl (Ag.upd rfl (Ag.upd rfl (Ag.upd rfl (Ag.upd rfl (Ag.upd rfl (Ag.upd rfl (Ag.upd rfl (Ag.upd rfl (Ag.upd rfl (Ag.upd rfl (Ag.upd rfl (Ag.upd rfl (Ag.upd rfl (Ag.upd rfl (Ag.upd rfl (Ag.upd rfl (Ag.upd rfl (Ag.upd rfl (Ag.upd rfl (Ag.upd rfl (Ag.upd rfl (Ag.upd rfl (Ag.upd rfl (Ag.upd rfl (Ag.upd rfl (Ag.upd rfl (Ag.upd rfl (Ag.upd rfl (Ag.upd rfl (Ag.upd rfl (Ag.upd rfl (Ag.upd rfl (Ag.upd rfl (Ag.upd rfl (Ag.upd rfl (Ag.upd rfl (Ag.upd rfl (Ag.upd rfl (Ag.upd rfl (Ag.upd rfl (Ag.upd rfl (Ag.upd rfl (Ag.upd rfl (Ag.upd rfl (Ag.upd rfl (Ag.upd rfl (Ag.upd rfl (Ag.upd rfl (Ag.upd rfl (Ag.upd rfl (Ag.upd rfl (Ag.upd rfl (Ag.upd rfl (Ag.upd rfl (Ag.upd rfl (Ag.updL rfl (Ag.trans (Ag.sub rfl (Ag.mix _ _ _)) (Ag.upd rfl (Ag.upd rfl (Ag.upd rfl (Ag.upd rfl (Ag.upd rfl (Ag.upd rfl (Ag.upd rfl (Ag.upd rfl (Ag.upd rfl (Ag.upd rfl (Ag.upd rfl (Ag.upd rfl (Ag.upd rfl (Ag.upd rfl (Ag.upd rfl (Ag.updL rfl (Ag.mix _ _ _))))))))))))))))))))))))))))))))))))))))))))))))))))))))))))))))))))))))))))))))))))))))))))), ⟨rfl, trivial⟩, h_120, (by omega), rfl⟩
          · refine Op1.one rfl (Wn.no rfl) ?_
            refine WL.call (al := [(vu8 (s.getD (4 * (i / 4) + 3) 0)), (vu8 (f.getD ((3 + 4 - i % 4) % 4) 0))]) Try.call35 rfl rfl (c_Times (s.getD (4 * (i / 4) + 3) 0) (f.getD ((3 + 4 - i % 4) % 4) 0) _ ) rfl ?_
            rintro _ w_122 ⟨rfl, hc_121⟩
            have h_123 := h_114.same hc_121
            refine WL.nil ?_
            refine ⟨(SL.cons (h_123.ok _ (.tail _ (.head _))) (SL.cons (h_123.ok _ (.tail _ (.tail _ (.head _)))) (SL.nil _ _))), ?_⟩
            refine WT.s ?_
            refine Op1.one rfl (Wn.no rfl) ?_
            refine WL.q (Wn.no rfl) rfl rfl (R.loadE (b := b_7) (off := (0 + i)) (i := i) (v := (vu8 (((((pre 16 (mb s f) i).set i (((pre 16 (mb s f) i).getD i 0) ^^^ (tm (s.getD (4 * (i / 4)) 0) (f.getD ((0 + 4 - i % 4) % 4) 0)))).set i ((((pre 16 (mb s f) i).set i (((pre 16 (mb s f) i).getD i 0) ^^^ (tm (s.getD (4 * (i / 4)) 0) (f.getD ((0 + 4 - i % 4) % 4) 0)))).getD i 0) ^^^ (tm (s.getD (4 * (i / 4) + 1) 0) (f.getD ((1 + 4 - i % 4) % 4) 0)))).set i (((((pre 16 (mb s f) i).set i (((pre 16 (mb s f) i).getD i 0) ^^^ (tm (s.getD (4 * (i / 4)) 0) (f.getD ((0 + 4 - i % 4) % 4) 0)))).set i ((((pre 16 (mb s f) i).set i (((pre 16 (mb s f) i).getD i 0) ^^^ (tm (s.getD (4 * (i / 4)) 0) (f.getD ((0 + 4 - i % 4) % 4) 0)))).getD i 0) ^^^ (tm (s.getD (4 * (i / 4) + 1) 0) (f.getD ((1 + 4 - i % 4) % 4) 0)))).getD i 0) ^^^ (tm (s.getD (4 * (i / 4) + 2) 0) (f.getD ((2 + 4 - i % 4) % 4) 0)))).getD i 0))) rfl Try.isAgg5 (h_123.ok _ (.head _)) Sg.h rfl (get_u8 (lt_len (K := 16) (len_set (len_set (len_set (pre_len hi) _ _) _ _) _ _) (by omega)))) ?_
            refine WL.nil ?_
            refine ⟨(SL.cons (h_123.ok _ (.tail _ (.head _))) (SL.cons (h_123.ok _ (.tail _ (.tail _ (.head _)))) (SL.nil _ _))), ?_⟩
            refine WT.q rfl (Wn.no rfl) rfl rfl (fun wq hS => R.bin (v := (vu8 ((((((pre 16 (mb s f) i).set i (((pre 16 (mb s f) i).getD i 0) ^^^ (tm (s.getD (4 * (i / 4)) 0) (f.getD ((0 + 4 - i % 4) % 4) 0)))).set i ((((pre 16 (mb s f) i).set i (((pre 16 (mb s f) i).getD i 0) ^^^ (tm (s.getD (4 * (i / 4)) 0) (f.getD ((0 + 4 - i % 4) % 4) 0)))).getD i 0) ^^^ (tm (s.getD (4 * (i / 4) + 1) 0) (f.getD ((1 + 4 - i % 4) % 4) 0)))).set i (((((pre 16 (mb s f) i).set i (((pre 16 (mb s f) i).getD i 0) ^^^ (tm (s.getD (4 * (i / 4)) 0) (f.getD ((0 + 4 - i % 4) % 4) 0)))).set i ((((pre 16 (mb s f) i).set i (((pre 16 (mb s f) i).getD i 0) ^^^ (tm (s.getD (4 * (i / 4)) 0) (f.getD ((0 + 4 - i % 4) % 4) 0)))).getD i 0) ^^^ (tm (s.getD (4 * (i / 4) + 1) 0) (f.getD ((1 + 4 - i % 4) % 4) 0)))).getD i 0) ^^^ (tm (s.getD (4 * (i / 4) + 2) 0) (f.getD ((2 + 4 - i % 4) % 4) 0)))).getD i 0) ^^^ (tm (s.getD (4 * (i / 4) + 3) 0) (f.getD ((3 + 4 - i % 4) % 4) 0))))) rfl rfl (b8_xor (((((pre 16 (mb s f) i).set i (((pre 16 (mb s f) i).getD i 0) ^^^ (tm (s.getD (4 * (i / 4)) 0) (f.getD ((0 + 4 - i % 4) % 4) 0)))).set i ((((pre 16 (mb s f) i).set i (((pre 16 (mb s f) i).getD i 0) ^^^ (tm (s.getD (4 * (i / 4)) 0) (f.getD ((0 + 4 - i % 4) % 4) 0)))).getD i 0) ^^^ (tm (s.getD (4 * (i / 4) + 1) 0) (f.getD ((1 + 4 - i % 4) % 4) 0)))).set i (((((pre 16 (mb s f) i).set i (((pre 16 (mb s f) i).getD i 0) ^^^ (tm (s.getD (4 * (i / 4)) 0) (f.getD ((0 + 4 - i % 4) % 4) 0)))).set i ((((pre 16 (mb s f) i).set i (((pre 16 (mb s f) i).getD i 0) ^^^ (tm (s.getD (4 * (i / 4)) 0) (f.getD ((0 + 4 - i % 4) % 4) 0)))).getD i 0) ^^^ (tm (s.getD (4 * (i / 4) + 1) 0) (f.getD ((1 + 4 - i % 4) % 4) 0)))).getD i 0) ^^^ (tm (s.getD (4 * (i / 4) + 2) 0) (f.getD ((2 + 4 - i % 4) % 4) 0)))).getD i 0) (tm (s.getD (4 * (i / 4) + 3) 0) (f.getD ((3 + 4 - i % 4) % 4) 0)))) ?_
            refine WT.q rfl (Wn.no rfl) rfl rfl (fun wq hS => R.indexA (b := b_7) (off := 0) (off' := (0 + i)) (i := i) rfl rfl rfl (by omega) Try.underlying66 Try.sizeOf5 (by rw [Nat.mul_one])) ?_
            refine WT.s ?_
            refine Op1.one rfl (Wn.no rfl) ?_
            refine WL.storeE (b := b_7) (off := (0 + i)) (i := i) (v := (vu8 ((((((pre 16 (mb s f) i).set i (((pre 16 (mb s f) i).getD i 0) ^^^ (tm (s.getD (4 * (i / 4)) 0) (f.getD ((0 + 4 - i % 4) % 4) 0)))).set i ((((pre 16 (mb s f) i).set i (((pre 16 (mb s f) i).getD i 0) ^^^ (tm (s.getD (4 * (i / 4)) 0) (f.getD ((0 + 4 - i % 4) % 4) 0)))).getD i 0) ^^^ (tm (s.getD (4 * (i / 4) + 1) 0) (f.getD ((1 + 4 - i % 4) % 4) 0)))).set i (((((pre 16 (mb s f) i).set i (((pre 16 (mb s f) i).getD i 0) ^^^ (tm (s.getD (4 * (i / 4)) 0) (f.getD ((0 + 4 - i % 4) % 4) 0)))).set i ((((pre 16 (mb s f) i).set i (((pre 16 (mb s f) i).getD i 0) ^^^ (tm (s.getD (4 * (i / 4)) 0) (f.getD ((0 + 4 - i % 4) % 4) 0)))).getD i 0) ^^^ (tm (s.getD (4 * (i / 4) + 1) 0) (f.getD ((1 + 4 - i % 4) % 4) 0)))).getD i 0) ^^^ (tm (s.getD (4 * (i / 4) + 2) 0) (f.getD ((2 + 4 - i % 4) % 4) 0)))).getD i 0) ^^^ (tm (s.getD (4 * (i / 4) + 3) 0) (f.getD ((3 + 4 - i % 4) % 4) 0))))) (cs' := (((((pre 16 (mb s f) i).set i (((pre 16 (mb s f) i).getD i 0) ^^^ (tm (s.getD (4 * (i / 4)) 0) (f.getD ((0 + 4 - i % 4) % 4) 0)))).set i ((((pre 16 (mb s f) i).set i (((pre 16 (mb s f) i).getD i 0) ^^^ (tm (s.getD (4 * (i / 4)) 0) (f.getD ((0 + 4 - i % 4) % 4) 0)))).getD i 0) ^^^ (tm (s.getD (4 * (i / 4) + 1) 0) (f.getD ((1 + 4 - i % 4) % 4) 0)))).set i (((((pre 16 (mb s f) i).set i (((pre 16 (mb s f) i).getD i 0) ^^^ (tm (s.getD (4 * (i / 4)) 0) (f.getD ((0 + 4 - i % 4) % 4) 0)))).set i ((((pre 16 (mb s f) i).set i (((pre 16 (mb s f) i).getD i 0) ^^^ (tm (s.getD (4 * (i / 4)) 0) (f.getD ((0 + 4 - i % 4) % 4) 0)))).getD i 0) ^^^ (tm (s.getD (4 * (i / 4) + 1) 0) (f.getD ((1 + 4 - i % 4) % 4) 0)))).getD i 0) ^^^ (tm (s.getD (4 * (i / 4) + 2) 0) (f.getD ((2 + 4 - i % 4) % 4) 0)))).set i ((((((pre 16 (mb s f) i).set i (((pre 16 (mb s f) i).getD i 0) ^^^ (tm (s.getD (4 * (i / 4)) 0) (f.getD ((0 + 4 - i % 4) % 4) 0)))).set i ((((pre 16 (mb s f) i).set i (((pre 16 (mb s f) i).getD i 0) ^^^ (tm (s.getD (4 * (i / 4)) 0) (f.getD ((0 + 4 - i % 4) % 4) 0)))).getD i 0) ^^^ (tm (s.getD (4 * (i / 4) + 1) 0) (f.getD ((1 + 4 - i % 4) % 4) 0)))).set i (((((pre 16 (mb s f) i).set i (((pre 16 (mb s f) i).getD i 0) ^^^ (tm (s.getD (4 * (i / 4)) 0) (f.getD ((0 + 4 - i % 4) % 4) 0)))).set i ((((pre 16 (mb s f) i).set i (((pre 16 (mb s f) i).getD i 0) ^^^ (tm (s.getD (4 * (i / 4)) 0) (f.getD ((0 + 4 - i % 4) % 4) 0)))).getD i 0) ^^^ (tm (s.getD (4 * (i / 4) + 1) 0) (f.getD ((1 + 4 - i % 4) % 4) 0)))).getD i 0) ^^^ (tm (s.getD (4 * (i / 4) + 2) 0) (f.getD ((2 + 4 - i % 4) % 4) 0)))).getD i 0) ^^^ (tm (s.getD (4 * (i / 4) + 3) 0) (f.getD ((3 + 4 - i % 4) % 4) 0)))).map vu8) h_123 rfl rfl Try.sizeOf5 rfl At.h (by decide) Sg.h rfl (lt_len (K := 16) (len_map (len_set (len_set (len_set (pre_len hi) _ _) _ _) _ _)) (by omega)) (set_u8 _ _ _) (fun w_124 h_125 => ?_)
            refine WL.nil ?_
            refine ⟨(SL.cons (h_125.ok _ (.tail _ (.head _))) (SL.cons (h_125.ok _ (.tail _ (.tail _ (.head _)))) (SL.nil _ _))), ?_⟩
            refine WT.nil ?_
            refine inb_n ?_
            refine thn_n ?_
            refine WP.reg ?_
            refine WL.q (Wn.no rfl) rfl rfl (R.bin (v := (vi 4)) rfl rfl (bi_add (c := 4) (by omega) (by omega))) ?_
            refine WL.q (Wn.no rfl) rfl rfl (R.move (v := (vi 4)) rfl) ?_
            refine WL.nil ?_
            refine thn_n ?_
            refine WI.round ?_
            refine WP.seq ?_
            refine WP.reg ?_
            refine WL.q (Wn.no rfl) rfl rfl (R.bin (v := (.bool false)) rfl rfl (bi_lss (r := false) (by decide))) ?_
            refine WL.nil ?_
            refine thn_n ?_
            refine WP.seq ?_
            refine WP.condF rfl ?_
            refine WP.exit ?_
            refine thn_x ?_
            refine thn_x ?_
            refine inb_hit ?_
            refine inb_n ?_
            refine thn_n ?_
            refine WP.reg ?_
            refine WL.q (Wn.no rfl) rfl rfl (R.bin (v := (vi ((i + 1 : Nat) : Int))) rfl rfl (bi_add (c := ((i + 1 : Nat) : Int)) (by omega) (by omega))) ?_
            refine WL.q (Wn.no rfl) rfl rfl (R.move (v := (vi ((i + 1 : Nat) : Int))) rfl) ?_
            refine WL.nil ?_
            refine thn_n ?_
            rw [mix_step (s := s) (f := f) (i := i) (by omega) (by rfl) (by rfl) (by rfl) (by rfl)] at h_125
            exact ⟨i + 1, _, (by omega), (Ag.upd rfl (Ag.upd rfl (Ag.upd rfl (Ag.upd rfl (Ag.upd rfl (Ag.upd rfl (Ag.upd rfl (Ag.upd rfl (Ag.upd rfl (Ag.upd rfl (Ag.upd rfl (Ag.upd rfl (Ag.upd rfl (Ag.upd rfl (Ag.upd rfl (Ag.upd rfl (Ag.upd rfl (Ag.upd rfl (Ag.upd rfl (Ag.upd rfl (Ag.upd rfl (Ag.upd rfl (Ag.upd rfl (Ag.upd rfl (Ag.upd rfl (Ag.upd rfl (Ag.upd rfl (Ag.upd rfl (Ag.upd rfl (Ag.upd rfl (Ag.upd rfl (Ag.upd rfl (Ag.upd rfl (Ag.upd rfl (Ag.upd rfl (Ag.upd rfl (Ag.upd rfl (Ag.upd rfl (Ag.upd rfl (Ag.upd rfl (Ag.upd rfl (Ag.upd rfl (Ag.upd rfl (Ag.upd rfl (Ag.upd rfl (Ag.upd rfl (Ag.upd rfl (Ag.upd rfl (Ag.upd rfl (Ag.upd rfl (Ag.upd rfl (Ag.upd rfl (Ag.upd rfl (Ag.upd rfl (Ag.upd rfl (Ag.upd rfl (Ag.upd rfl (Ag.upd rfl (Ag.upd rfl (Ag.upd rfl (Ag.upd rfl (Ag.upd rfl (Ag.upd rfl (Ag.upd rfl (Ag.upd rfl (Ag.upd rfl (Ag.upd rfl (Ag.upd rfl (Ag.upd rfl (Ag.upd rfl (Ag.upd rfl (Ag.upd rfl (Ag.upd rfl (Ag.upd rfl (Ag.updL rfl (Ag.trans (Ag.sub rfl (Ag.mix _ _ _)) (Ag.upd rfl (Ag.upd rfl (Ag.upd rfl (Ag.upd rfl (Ag.upd rfl (Ag.upd rfl (Ag.upd rfl (Ag.upd rfl (Ag.upd rfl (Ag.upd rfl (Ag.upd rfl (Ag.upd rfl (Ag.upd rfl (Ag.upd rfl (Ag.upd rfl (Ag.updL rfl (Ag.mix _ _ _))))))))))))))))))))))))))))))))))))))))))))))))))))))))))))))))))))))))))))))))))))))))))))), ⟨rfl, trivial⟩, h_125, (by omega), rfl⟩
  · have p_126 := of_decide_eq_false c_14
    refine WP.exit ?_
    refine thn_x ?_
    refine thn_x ?_
    refine inb_hit ?_
    refine thn_n ?_
    refine WP.seq ?_
    refine WP.reg ?_
    refine WL.q (Wn.no rfl) rfl rfl (R.loadA (b := b_7) (off := 0) [] [(16, (pre 16 (mb s f) i).map vu8)] [] (cs := (pre 16 (mb s f) i).map vu8) rfl Try.isAgg66 Try.sizeOf66 (h_11.ok _ (.head _)) rfl rfl rfl rfl) ?_
    refine WL.storeA (b := b_7) (off := 0) [] [(16, (pre 16 (mb s f) i).map vu8)] [(16, (pre 16 (mb s f) i).map vu8)] [] (ys := (pre 16 (mb s f) i).map vu8) h_11 rfl rfl Try.sizeOf66 At.h (by decide) rfl rfl rfl rfl rfl rfl (SsOk.cons (SOk.u8 (pre_len hi)) SsOk.nil) (fun w_127 h_128 => ?_)
    refine WL.nil ?_
    refine thn_n ?_
    refine WP.ret ?_
    refine ret_of Try.results87 (RV.cell rfl (h_128.loadA (cs := (pre 16 (mb s f) i).map vu8) Try.isAgg66 Try.sizeOf66 (.head _) rfl rfl) RV.nil) ?_
    have hi2 : i = 16 := by omega
    subst hi2
    exact ⟨by rw [pre_all]; rfl, h_128.chgS⟩
end Go.Proofs.Ytcmgadjnammahaa
