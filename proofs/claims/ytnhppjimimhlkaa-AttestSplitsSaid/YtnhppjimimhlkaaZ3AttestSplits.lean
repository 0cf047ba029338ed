/- Rules for walks and contracts of the functions that the law reaches, one behind the other. Conditions: none beyond what each theorem states. -/
import Derived.Test.YtnhppjimimhlkaaZ2AttestSplits
set_option linter.unusedVariables false
set_option linter.unusedSimpArgs false
set_option linter.unusedSectionVars false
namespace Go.Proofs.Ytnhppjimimhlkaa
open Go.Vc Go.Sh Go.RowKit
set_option maxRecDepth 20000

theorem c_rot2 (x : UInt32) (w : World) :
    Cs Try.prog 123 [(vu32 x), (vi (-2))].toArray w (fun v w1 => v = (vu32 (rot x 2)) ∧ Chg w w1 []) := by
  refine Cs.of (n := 17) (args := [(vu32 x), (vi (-2))]) Try.func123 rfl rfl rfl ?_
  have h_0 := HP.init w
  refine WP.seq ?_
  refine WP.reg ?_
  refine WL.q (Wn.no rfl) rfl rfl (R.assign (v := (vu32 0)) rfl) ?_
  refine WL.nil ?_
  refine thn_n ?_
  refine WP.seq ?_
  refine WP.reg ?_
  refine WL.q (Wn.no rfl) rfl rfl (R.move (v := (vi (-2))) rfl) ?_
  refine WL.q (Wn.no rfl) rfl rfl (R.conv (b := (18446744073709551614 : UInt64).toNat) rfl Try.underlying3 Try.underlying168 (by decide)) ?_
  refine WL.q (Wn.no rfl) rfl rfl (R.bin (v := (vu64 30)) rfl rfl ((b64_and 18446744073709551614 31).trans rfl)) ?_
  refine WL.q (Wn.no rfl) rfl rfl (R.assign (v := (vu64 30)) rfl) ?_
  refine WL.nil ?_
  refine thn_n ?_
  refine WP.seq ?_
  refine WP.reg ?_
  refine WL.q (Wn.no rfl) rfl rfl (R.move (v := (vu32 x)) rfl) ?_
  refine WL.q (Wn.no rfl) rfl rfl (R.move (v := (vu64 30)) rfl) ?_
  refine WL.q (Wn.no rfl) rfl rfl (R.binR (v := vu32 (shl32 x 30)) rfl rfl (run_shl32 _ _ _ x _ 30)) ?_
  refine WL.q (Wn.no rfl) rfl rfl (R.move (v := (vu32 x)) rfl) ?_
  refine WL.q (Wn.no rfl) rfl rfl (R.move (v := (vu64 30)) rfl) ?_
  refine WL.q (Wn.no rfl) rfl rfl (R.bin (v := (vu64 2)) rfl rfl ((b64_sub 32 30).trans rfl)) ?_
  refine WL.q (Wn.no rfl) rfl rfl (R.binR (v := vu32 (shr32 x 2)) rfl rfl (run_shr32 _ _ _ x _ 2)) ?_
  refine WL.q (Wn.no rfl) rfl rfl (R.bin (v := (vu32 ((shl32 x 30) ||| (shr32 x 2)))) rfl rfl (b32_or (shl32 x 30) (shr32 x 2))) ?_
  refine WL.q (Wn.no rfl) rfl rfl (R.assign (v := (vu32 ((shl32 x 30) ||| (shr32 x 2)))) rfl) ?_
  refine WL.nil ?_
  refine thn_n ?_
  refine WP.ret ?_
  refine ret_of Try.results123 (RV.tmp (v := (vu32 ((shl32 x 30) ||| (shr32 x 2)))) rfl RV.nil) ?_
  exact ⟨rfl, h_0.chgS⟩

theorem c_rot6 (x : UInt32) (w : World) :
    Cs Try.prog 123 [(vu32 x), (vi (-6))].toArray w (fun v w1 => v = (vu32 (rot x 6)) ∧ Chg w w1 []) := by
  refine Cs.of (n := 17) (args := [(vu32 x), (vi (-6))]) Try.func123 rfl rfl rfl ?_
  have h_0 := HP.init w
  refine WP.seq ?_
  refine WP.reg ?_
  refine WL.q (Wn.no rfl) rfl rfl (R.assign (v := (vu32 0)) rfl) ?_
  refine WL.nil ?_
  refine thn_n ?_
  refine WP.seq ?_
  refine WP.reg ?_
  refine WL.q (Wn.no rfl) rfl rfl (R.move (v := (vi (-6))) rfl) ?_
  refine WL.q (Wn.no rfl) rfl rfl (R.conv (b := (18446744073709551610 : UInt64).toNat) rfl Try.underlying3 Try.underlying168 (by decide)) ?_
  refine WL.q (Wn.no rfl) rfl rfl (R.bin (v := (vu64 26)) rfl rfl ((b64_and 18446744073709551610 31).trans rfl)) ?_
  refine WL.q (Wn.no rfl) rfl rfl (R.assign (v := (vu64 26)) rfl) ?_
  refine WL.nil ?_
  refine thn_n ?_
  refine WP.seq ?_
  refine WP.reg ?_
  refine WL.q (Wn.no rfl) rfl rfl (R.move (v := (vu32 x)) rfl) ?_
  refine WL.q (Wn.no rfl) rfl rfl (R.move (v := (vu64 26)) rfl) ?_
  refine WL.q (Wn.no rfl) rfl rfl (R.binR (v := vu32 (shl32 x 26)) rfl rfl (run_shl32 _ _ _ x _ 26)) ?_
  refine WL.q (Wn.no rfl) rfl rfl (R.move (v := (vu32 x)) rfl) ?_
  refine WL.q (Wn.no rfl) rfl rfl (R.move (v := (vu64 26)) rfl) ?_
  refine WL.q (Wn.no rfl) rfl rfl (R.bin (v := (vu64 6)) rfl rfl ((b64_sub 32 26).trans rfl)) ?_
  refine WL.q (Wn.no rfl) rfl rfl (R.binR (v := vu32 (shr32 x 6)) rfl rfl (run_shr32 _ _ _ x _ 6)) ?_
  refine WL.q (Wn.no rfl) rfl rfl (R.bin (v := (vu32 ((shl32 x 26) ||| (shr32 x 6)))) rfl rfl (b32_or (shl32 x 26) (shr32 x 6))) ?_
  refine WL.q (Wn.no rfl) rfl rfl (R.assign (v := (vu32 ((shl32 x 26) ||| (shr32 x 6)))) rfl) ?_
  refine WL.nil ?_
  refine thn_n ?_
  refine WP.ret ?_
  refine ret_of Try.results123 (RV.tmp (v := (vu32 ((shl32 x 26) ||| (shr32 x 6)))) rfl RV.nil) ?_
  exact ⟨rfl, h_0.chgS⟩

theorem c_rot7 (x : UInt32) (w : World) :
    Cs Try.prog 123 [(vu32 x), (vi (-7))].toArray w (fun v w1 => v = (vu32 (rot x 7)) ∧ Chg w w1 []) := by
  refine Cs.of (n := 17) (args := [(vu32 x), (vi (-7))]) Try.func123 rfl rfl rfl ?_
  have h_0 := HP.init w
  refine WP.seq ?_
  refine WP.reg ?_
  refine WL.q (Wn.no rfl) rfl rfl (R.assign (v := (vu32 0)) rfl) ?_
  refine WL.nil ?_
  refine thn_n ?_
  refine WP.seq ?_
  refine WP.reg ?_
  refine WL.q (Wn.no rfl) rfl rfl (R.move (v := (vi (-7))) rfl) ?_
  refine WL.q (Wn.no rfl) rfl rfl (R.conv (b := (18446744073709551609 : UInt64).toNat) rfl Try.underlying3 Try.underlying168 (by decide)) ?_
  refine WL.q (Wn.no rfl) rfl rfl (R.bin (v := (vu64 25)) rfl rfl ((b64_and 18446744073709551609 31).trans rfl)) ?_
  refine WL.q (Wn.no rfl) rfl rfl (R.assign (v := (vu64 25)) rfl) ?_
  refine WL.nil ?_
  refine thn_n ?_
  refine WP.seq ?_
  refine WP.reg ?_
  refine WL.q (Wn.no rfl) rfl rfl (R.move (v := (vu32 x)) rfl) ?_
  refine WL.q (Wn.no rfl) rfl rfl (R.move (v := (vu64 25)) rfl) ?_
  refine WL.q (Wn.no rfl) rfl rfl (R.binR (v := vu32 (shl32 x 25)) rfl rfl (run_shl32 _ _ _ x _ 25)) ?_
  refine WL.q (Wn.no rfl) rfl rfl (R.move (v := (vu32 x)) rfl) ?_
  refine WL.q (Wn.no rfl) rfl rfl (R.move (v := (vu64 25)) rfl) ?_
  refine WL.q (Wn.no rfl) rfl rfl (R.bin (v := (vu64 7)) rfl rfl ((b64_sub 32 25).trans rfl)) ?_
  refine WL.q (Wn.no rfl) rfl rfl (R.binR (v := vu32 (shr32 x 7)) rfl rfl (run_shr32 _ _ _ x _ 7)) ?_
  refine WL.q (Wn.no rfl) rfl rfl (R.bin (v := (vu32 ((shl32 x 25) ||| (shr32 x 7)))) rfl rfl (b32_or (shl32 x 25) (shr32 x 7))) ?_
  refine WL.q (Wn.no rfl) rfl rfl (R.assign (v := (vu32 ((shl32 x 25) ||| (shr32 x 7)))) rfl) ?_
  refine WL.nil ?_
  refine thn_n ?_
  refine WP.ret ?_
  refine ret_of Try.results123 (RV.tmp (v := (vu32 ((shl32 x 25) ||| (shr32 x 7)))) rfl RV.nil) ?_
  exact ⟨rfl, h_0.chgS⟩

theorem c_rot11 (x : UInt32) (w : World) :
    Cs Try.prog 123 [(vu32 x), (vi (-11))].toArray w (fun v w1 => v = (vu32 (rot x 11)) ∧ Chg w w1 []) := by
  refine Cs.of (n := 17) (args := [(vu32 x), (vi (-11))]) Try.func123 rfl rfl rfl ?_
  have h_0 := HP.init w
  refine WP.seq ?_
  refine WP.reg ?_
  refine WL.q (Wn.no rfl) rfl rfl (R.assign (v := (vu32 0)) rfl) ?_
  refine WL.nil ?_
  refine thn_n ?_
  refine WP.seq ?_
  refine WP.reg ?_
  refine WL.q (Wn.no rfl) rfl rfl (R.move (v := (vi (-11))) rfl) ?_
  refine WL.q (Wn.no rfl) rfl rfl (R.conv (b := (18446744073709551605 : UInt64).toNat) rfl Try.underlying3 Try.underlying168 (by decide)) ?_
  refine WL.q (Wn.no rfl) rfl rfl (R.bin (v := (vu64 21)) rfl rfl ((b64_and 18446744073709551605 31).trans rfl)) ?_
  refine WL.q (Wn.no rfl) rfl rfl (R.assign (v := (vu64 21)) rfl) ?_
  refine WL.nil ?_
  refine thn_n ?_
  refine WP.seq ?_
  refine WP.reg ?_
  refine WL.q (Wn.no rfl) rfl rfl (R.move (v := (vu32 x)) rfl) ?_
  refine WL.q (Wn.no rfl) rfl rfl (R.move (v := (vu64 21)) rfl) ?_
  refine WL.q (Wn.no rfl) rfl rfl (R.binR (v := vu32 (shl32 x 21)) rfl rfl (run_shl32 _ _ _ x _ 21)) ?_
  refine WL.q (Wn.no rfl) rfl rfl (R.move (v := (vu32 x)) rfl) ?_
  refine WL.q (Wn.no rfl) rfl rfl (R.move (v := (vu64 21)) rfl) ?_
  refine WL.q (Wn.no rfl) rfl rfl (R.bin (v := (vu64 11)) rfl rfl ((b64_sub 32 21).trans rfl)) ?_
  refine WL.q (Wn.no rfl) rfl rfl (R.binR (v := vu32 (shr32 x 11)) rfl rfl (run_shr32 _ _ _ x _ 11)) ?_
  refine WL.q (Wn.no rfl) rfl rfl (R.bin (v := (vu32 ((shl32 x 21) ||| (shr32 x 11)))) rfl rfl (b32_or (shl32 x 21) (shr32 x 11))) ?_
  refine WL.q (Wn.no rfl) rfl rfl (R.assign (v := (vu32 ((shl32 x 21) ||| (shr32 x 11)))) rfl) ?_
  refine WL.nil ?_
  refine thn_n ?_
  refine WP.ret ?_
  refine ret_of Try.results123 (RV.tmp (v := (vu32 ((shl32 x 21) ||| (shr32 x 11)))) rfl RV.nil) ?_
  exact ⟨rfl, h_0.chgS⟩

theorem c_rot13 (x : UInt32) (w : World) :
    Cs Try.prog 123 [(vu32 x), (vi (-13))].toArray w (fun v w1 => v = (vu32 (rot x 13)) ∧ Chg w w1 []) := by
  refine Cs.of (n := 17) (args := [(vu32 x), (vi (-13))]) Try.func123 rfl rfl rfl ?_
  have h_0 := HP.init w
  refine WP.seq ?_
  refine WP.reg ?_
  refine WL.q (Wn.no rfl) rfl rfl (R.assign (v := (vu32 0)) rfl) ?_
  refine WL.nil ?_
  refine thn_n ?_
  refine WP.seq ?_
  refine WP.reg ?_
  refine WL.q (Wn.no rfl) rfl rfl (R.move (v := (vi (-13))) rfl) ?_
  refine WL.q (Wn.no rfl) rfl rfl (R.conv (b := (18446744073709551603 : UInt64).toNat) rfl Try.underlying3 Try.underlying168 (by decide)) ?_
  refine WL.q (Wn.no rfl) rfl rfl (R.bin (v := (vu64 19)) rfl rfl ((b64_and 18446744073709551603 31).trans rfl)) ?_
  refine WL.q (Wn.no rfl) rfl rfl (R.assign (v := (vu64 19)) rfl) ?_
  refine WL.nil ?_
  refine thn_n ?_
  refine WP.seq ?_
  refine WP.reg ?_
  refine WL.q (Wn.no rfl) rfl rfl (R.move (v := (vu32 x)) rfl) ?_
  refine WL.q (Wn.no rfl) rfl rfl (R.move (v := (vu64 19)) rfl) ?_
  refine WL.q (Wn.no rfl) rfl rfl (R.binR (v := vu32 (shl32 x 19)) rfl rfl (run_shl32 _ _ _ x _ 19)) ?_
  refine WL.q (Wn.no rfl) rfl rfl (R.move (v := (vu32 x)) rfl) ?_
  refine WL.q (Wn.no rfl) rfl rfl (R.move (v := (vu64 19)) rfl) ?_
  refine WL.q (Wn.no rfl) rfl rfl (R.bin (v := (vu64 13)) rfl rfl ((b64_sub 32 19).trans rfl)) ?_
  refine WL.q (Wn.no rfl) rfl rfl (R.binR (v := vu32 (shr32 x 13)) rfl rfl (run_shr32 _ _ _ x _ 13)) ?_
  refine WL.q (Wn.no rfl) rfl rfl (R.bin (v := (vu32 ((shl32 x 19) ||| (shr32 x 13)))) rfl rfl (b32_or (shl32 x 19) (shr32 x 13))) ?_
  refine WL.q (Wn.no rfl) rfl rfl (R.assign (v := (vu32 ((shl32 x 19) ||| (shr32 x 13)))) rfl) ?_
  refine WL.nil ?_
  refine thn_n ?_
  refine WP.ret ?_
  refine ret_of Try.results123 (RV.tmp (v := (vu32 ((shl32 x 19) ||| (shr32 x 13)))) rfl RV.nil) ?_
  exact ⟨rfl, h_0.chgS⟩

theorem c_rot17 (x : UInt32) (w : World) :
    Cs Try.prog 123 [(vu32 x), (vi (-17))].toArray w (fun v w1 => v = (vu32 (rot x 17)) ∧ Chg w w1 []) := by
  refine Cs.of (n := 17) (args := [(vu32 x), (vi (-17))]) Try.func123 rfl rfl rfl ?_
  have h_0 := HP.init w
  refine WP.seq ?_
  refine WP.reg ?_
  refine WL.q (Wn.no rfl) rfl rfl (R.assign (v := (vu32 0)) rfl) ?_
  refine WL.nil ?_
  refine thn_n ?_
  refine WP.seq ?_
  refine WP.reg ?_
  refine WL.q (Wn.no rfl) rfl rfl (R.move (v := (vi (-17))) rfl) ?_
  refine WL.q (Wn.no rfl) rfl rfl (R.conv (b := (18446744073709551599 : UInt64).toNat) rfl Try.underlying3 Try.underlying168 (by decide)) ?_
  refine WL.q (Wn.no rfl) rfl rfl (R.bin (v := (vu64 15)) rfl rfl ((b64_and 18446744073709551599 31).trans rfl)) ?_
  refine WL.q (Wn.no rfl) rfl rfl (R.assign (v := (vu64 15)) rfl) ?_
  refine WL.nil ?_
  refine thn_n ?_
  refine WP.seq ?_
  refine WP.reg ?_
  refine WL.q (Wn.no rfl) rfl rfl (R.move (v := (vu32 x)) rfl) ?_
  refine WL.q (Wn.no rfl) rfl rfl (R.move (v := (vu64 15)) rfl) ?_
  refine WL.q (Wn.no rfl) rfl rfl (R.binR (v := vu32 (shl32 x 15)) rfl rfl (run_shl32 _ _ _ x _ 15)) ?_
  refine WL.q (Wn.no rfl) rfl rfl (R.move (v := (vu32 x)) rfl) ?_
  refine WL.q (Wn.no rfl) rfl rfl (R.move (v := (vu64 15)) rfl) ?_
  refine WL.q (Wn.no rfl) rfl rfl (R.bin (v := (vu64 17)) rfl rfl ((b64_sub 32 15).trans rfl)) ?_
  refine WL.q (Wn.no rfl) rfl rfl (R.binR (v := vu32 (shr32 x 17)) rfl rfl (run_shr32 _ _ _ x _ 17)) ?_
  refine WL.q (Wn.no rfl) rfl rfl (R.bin (v := (vu32 ((shl32 x 15) ||| (shr32 x 17)))) rfl rfl (b32_or (shl32 x 15) (shr32 x 17))) ?_
  refine WL.q (Wn.no rfl) rfl rfl (R.assign (v := (vu32 ((shl32 x 15) ||| (shr32 x 17)))) rfl) ?_
  refine WL.nil ?_
  refine thn_n ?_
  refine WP.ret ?_
  refine ret_of Try.results123 (RV.tmp (v := (vu32 ((shl32 x 15) ||| (shr32 x 17)))) rfl RV.nil) ?_
  exact ⟨rfl, h_0.chgS⟩

theorem c_rot18 (x : UInt32) (w : World) :
    Cs Try.prog 123 [(vu32 x), (vi (-18))].toArray w (fun v w1 => v = (vu32 (rot x 18)) ∧ Chg w w1 []) := by
  refine Cs.of (n := 17) (args := [(vu32 x), (vi (-18))]) Try.func123 rfl rfl rfl ?_
  have h_0 := HP.init w
  refine WP.seq ?_
  refine WP.reg ?_
  refine WL.q (Wn.no rfl) rfl rfl (R.assign (v := (vu32 0)) rfl) ?_
  refine WL.nil ?_
  refine thn_n ?_
  refine WP.seq ?_
  refine WP.reg ?_
  refine WL.q (Wn.no rfl) rfl rfl (R.move (v := (vi (-18))) rfl) ?_
  refine WL.q (Wn.no rfl) rfl rfl (R.conv (b := (18446744073709551598 : UInt64).toNat) rfl Try.underlying3 Try.underlying168 (by decide)) ?_
  refine WL.q (Wn.no rfl) rfl rfl (R.bin (v := (vu64 14)) rfl rfl ((b64_and 18446744073709551598 31).trans rfl)) ?_
  refine WL.q (Wn.no rfl) rfl rfl (R.assign (v := (vu64 14)) rfl) ?_
  refine WL.nil ?_
  refine thn_n ?_
  refine WP.seq ?_
  refine WP.reg ?_
  refine WL.q (Wn.no rfl) rfl rfl (R.move (v := (vu32 x)) rfl) ?_
  refine WL.q (Wn.no rfl) rfl rfl (R.move (v := (vu64 14)) rfl) ?_
  refine WL.q (Wn.no rfl) rfl rfl (R.binR (v := vu32 (shl32 x 14)) rfl rfl (run_shl32 _ _ _ x _ 14)) ?_
  refine WL.q (Wn.no rfl) rfl rfl (R.move (v := (vu32 x)) rfl) ?_
  refine WL.q (Wn.no rfl) rfl rfl (R.move (v := (vu64 14)) rfl) ?_
  refine WL.q (Wn.no rfl) rfl rfl (R.bin (v := (vu64 18)) rfl rfl ((b64_sub 32 14).trans rfl)) ?_
  refine WL.q (Wn.no rfl) rfl rfl (R.binR (v := vu32 (shr32 x 18)) rfl rfl (run_shr32 _ _ _ x _ 18)) ?_
  refine WL.q (Wn.no rfl) rfl rfl (R.bin (v := (vu32 ((shl32 x 14) ||| (shr32 x 18)))) rfl rfl (b32_or (shl32 x 14) (shr32 x 18))) ?_
  refine WL.q (Wn.no rfl) rfl rfl (R.assign (v := (vu32 ((shl32 x 14) ||| (shr32 x 18)))) rfl) ?_
  refine WL.nil ?_
  refine thn_n ?_
  refine WP.ret ?_
  refine ret_of Try.results123 (RV.tmp (v := (vu32 ((shl32 x 14) ||| (shr32 x 18)))) rfl RV.nil) ?_
  exact ⟨rfl, h_0.chgS⟩

theorem c_rot19 (x : UInt32) (w : World) :
    Cs Try.prog 123 [(vu32 x), (vi (-19))].toArray w (fun v w1 => v = (vu32 (rot x 19)) ∧ Chg w w1 []) := by
  refine Cs.of (n := 17) (args := [(vu32 x), (vi (-19))]) Try.func123 rfl rfl rfl ?_
  have h_0 := HP.init w
  refine WP.seq ?_
  refine WP.reg ?_
  refine WL.q (Wn.no rfl) rfl rfl (R.assign (v := (vu32 0)) rfl) ?_
  refine WL.nil ?_
  refine thn_n ?_
  refine WP.seq ?_
  refine WP.reg ?_
  refine WL.q (Wn.no rfl) rfl rfl (R.move (v := (vi (-19))) rfl) ?_
  refine WL.q (Wn.no rfl) rfl rfl (R.conv (b := (18446744073709551597 : UInt64).toNat) rfl Try.underlying3 Try.underlying168 (by decide)) ?_
  refine WL.q (Wn.no rfl) rfl rfl (R.bin (v := (vu64 13)) rfl rfl ((b64_and 18446744073709551597 31).trans rfl)) ?_
  refine WL.q (Wn.no rfl) rfl rfl (R.assign (v := (vu64 13)) rfl) ?_
  refine WL.nil ?_
  refine thn_n ?_
  refine WP.seq ?_
  refine WP.reg ?_
  refine WL.q (Wn.no rfl) rfl rfl (R.move (v := (vu32 x)) rfl) ?_
  refine WL.q (Wn.no rfl) rfl rfl (R.move (v := (vu64 13)) rfl) ?_
  refine WL.q (Wn.no rfl) rfl rfl (R.binR (v := vu32 (shl32 x 13)) rfl rfl (run_shl32 _ _ _ x _ 13)) ?_
  refine WL.q (Wn.no rfl) rfl rfl (R.move (v := (vu32 x)) rfl) ?_
  refine WL.q (Wn.no rfl) rfl rfl (R.move (v := (vu64 13)) rfl) ?_
  refine WL.q (Wn.no rfl) rfl rfl (R.bin (v := (vu64 19)) rfl rfl ((b64_sub 32 13).trans rfl)) ?_
  refine WL.q (Wn.no rfl) rfl rfl (R.binR (v := vu32 (shr32 x 19)) rfl rfl (run_shr32 _ _ _ x _ 19)) ?_
  refine WL.q (Wn.no rfl) rfl rfl (R.bin (v := (vu32 ((shl32 x 13) ||| (shr32 x 19)))) rfl rfl (b32_or (shl32 x 13) (shr32 x 19))) ?_
  refine WL.q (Wn.no rfl) rfl rfl (R.assign (v := (vu32 ((shl32 x 13) ||| (shr32 x 19)))) rfl) ?_
  refine WL.nil ?_
  refine thn_n ?_
  refine WP.ret ?_
  refine ret_of Try.results123 (RV.tmp (v := (vu32 ((shl32 x 13) ||| (shr32 x 19)))) rfl RV.nil) ?_
  exact ⟨rfl, h_0.chgS⟩

theorem c_rot22 (x : UInt32) (w : World) :
    Cs Try.prog 123 [(vu32 x), (vi (-22))].toArray w (fun v w1 => v = (vu32 (rot x 22)) ∧ Chg w w1 []) := by
  refine Cs.of (n := 17) (args := [(vu32 x), (vi (-22))]) Try.func123 rfl rfl rfl ?_
  have h_0 := HP.init w
  refine WP.seq ?_
  refine WP.reg ?_
  refine WL.q (Wn.no rfl) rfl rfl (R.assign (v := (vu32 0)) rfl) ?_
  refine WL.nil ?_
  refine thn_n ?_
  refine WP.seq ?_
  refine WP.reg ?_
  refine WL.q (Wn.no rfl) rfl rfl (R.move (v := (vi (-22))) rfl) ?_
  refine WL.q (Wn.no rfl) rfl rfl (R.conv (b := (18446744073709551594 : UInt64).toNat) rfl Try.underlying3 Try.underlying168 (by decide)) ?_
  refine WL.q (Wn.no rfl) rfl rfl (R.bin (v := (vu64 10)) rfl rfl ((b64_and 18446744073709551594 31).trans rfl)) ?_
  refine WL.q (Wn.no rfl) rfl rfl (R.assign (v := (vu64 10)) rfl) ?_
  refine WL.nil ?_
  refine thn_n ?_
  refine WP.seq ?_
  refine WP.reg ?_
  refine WL.q (Wn.no rfl) rfl rfl (R.move (v := (vu32 x)) rfl) ?_
  refine WL.q (Wn.no rfl) rfl rfl (R.move (v := (vu64 10)) rfl) ?_
  refine WL.q (Wn.no rfl) rfl rfl (R.binR (v := vu32 (shl32 x 10)) rfl rfl (run_shl32 _ _ _ x _ 10)) ?_
  refine WL.q (Wn.no rfl) rfl rfl (R.move (v := (vu32 x)) rfl) ?_
  refine WL.q (Wn.no rfl) rfl rfl (R.move (v := (vu64 10)) rfl) ?_
  refine WL.q (Wn.no rfl) rfl rfl (R.bin (v := (vu64 22)) rfl rfl ((b64_sub 32 10).trans rfl)) ?_
  refine WL.q (Wn.no rfl) rfl rfl (R.binR (v := vu32 (shr32 x 22)) rfl rfl (run_shr32 _ _ _ x _ 22)) ?_
  refine WL.q (Wn.no rfl) rfl rfl (R.bin (v := (vu32 ((shl32 x 10) ||| (shr32 x 22)))) rfl rfl (b32_or (shl32 x 10) (shr32 x 22))) ?_
  refine WL.q (Wn.no rfl) rfl rfl (R.assign (v := (vu32 ((shl32 x 10) ||| (shr32 x 22)))) rfl) ?_
  refine WL.nil ?_
  refine thn_n ?_
  refine WP.ret ?_
  refine ret_of Try.results123 (RV.tmp (v := (vu32 ((shl32 x 10) ||| (shr32 x 22)))) rfl RV.nil) ?_
  exact ⟨rfl, h_0.chgS⟩

theorem c_rot25 (x : UInt32) (w : World) :
    Cs Try.prog 123 [(vu32 x), (vi (-25))].toArray w (fun v w1 => v = (vu32 (rot x 25)) ∧ Chg w w1 []) := by
  refine Cs.of (n := 17) (args := [(vu32 x), (vi (-25))]) Try.func123 rfl rfl rfl ?_
  have h_0 := HP.init w
  refine WP.seq ?_
  refine WP.reg ?_
  refine WL.q (Wn.no rfl) rfl rfl (R.assign (v := (vu32 0)) rfl) ?_
  refine WL.nil ?_
  refine thn_n ?_
  refine WP.seq ?_
  refine WP.reg ?_
  refine WL.q (Wn.no rfl) rfl rfl (R.move (v := (vi (-25))) rfl) ?_
  refine WL.q (Wn.no rfl) rfl rfl (R.conv (b := (18446744073709551591 : UInt64).toNat) rfl Try.underlying3 Try.underlying168 (by decide)) ?_
  refine WL.q (Wn.no rfl) rfl rfl (R.bin (v := (vu64 7)) rfl rfl ((b64_and 18446744073709551591 31).trans rfl)) ?_
  refine WL.q (Wn.no rfl) rfl rfl (R.assign (v := (vu64 7)) rfl) ?_
  refine WL.nil ?_
  refine thn_n ?_
  refine WP.seq ?_
  refine WP.reg ?_
  refine WL.q (Wn.no rfl) rfl rfl (R.move (v := (vu32 x)) rfl) ?_
  refine WL.q (Wn.no rfl) rfl rfl (R.move (v := (vu64 7)) rfl) ?_
  refine WL.q (Wn.no rfl) rfl rfl (R.binR (v := vu32 (shl32 x 7)) rfl rfl (run_shl32 _ _ _ x _ 7)) ?_
  refine WL.q (Wn.no rfl) rfl rfl (R.move (v := (vu32 x)) rfl) ?_
  refine WL.q (Wn.no rfl) rfl rfl (R.move (v := (vu64 7)) rfl) ?_
  refine WL.q (Wn.no rfl) rfl rfl (R.bin (v := (vu64 25)) rfl rfl ((b64_sub 32 7).trans rfl)) ?_
  refine WL.q (Wn.no rfl) rfl rfl (R.binR (v := vu32 (shr32 x 25)) rfl rfl (run_shr32 _ _ _ x _ 25)) ?_
  refine WL.q (Wn.no rfl) rfl rfl (R.bin (v := (vu32 ((shl32 x 7) ||| (shr32 x 25)))) rfl rfl (b32_or (shl32 x 7) (shr32 x 25))) ?_
  refine WL.q (Wn.no rfl) rfl rfl (R.assign (v := (vu32 ((shl32 x 7) ||| (shr32 x 25)))) rfl) ?_
  refine WL.nil ?_
  refine thn_n ?_
  refine WP.ret ?_
  refine ret_of Try.results123 (RV.tmp (v := (vu32 ((shl32 x 7) ||| (shr32 x 25)))) rfl RV.nil) ?_
  exact ⟨rfl, h_0.chgS⟩

theorem c_rors_7_18 (x : UInt32) (a : Option Addr) (cap : Nat) (w : World) (hv : View w a (([7, 18] : List Int).map vi64)) :
    Cs Try.prog 122 [(vu32 x), (.slice a 2 cap)].toArray w (fun v w1 => v = (vu32 (rot x 7 ^^^ rot x 18)) ∧ Chg w w1 []) := by
  refine Cs.of (n := 22) (args := [(vu32 x), (.slice a 2 cap)]) Try.func122 rfl rfl rfl ?_
  have h_0 := HP.init w
  have h_00 := h_0.old (View.arg hv) (fun f hf => by cases hf)
  refine WP.seq ?_
  refine WP.reg ?_
  refine WL.q (Wn.no rfl) rfl rfl (R.assign (v := (vu32 0)) rfl) ?_
  refine WL.nil ?_
  refine thn_n ?_
  refine WP.seq ?_
  refine WP.reg ?_
  refine WL.q (Wn.no rfl) rfl rfl (R.assign (v := (vu32 0)) rfl) ?_
  refine WL.nil ?_
  refine thn_n ?_
  refine WP.seq ?_
  refine WP.seq ?_
  refine WP.reg ?_
  refine WL.q (Wn.no rfl) rfl rfl (R.move (v := (.slice a 2 cap)) rfl) ?_
  refine WL.q (Wn.no rfl) rfl rfl (R.lenS (a := a) (m := 2) rfl rfl Try.underlying70) ?_
  refine WL.q (Wn.no rfl) rfl rfl (R.move (v := (vi 0)) rfl) ?_
  refine WL.nil ?_
  refine thn_n ?_
  refine WP.block ?_
  refine WP.loopU (WI.round ?_)
  refine WP.seq ?_
  refine WP.reg ?_
  refine WL.q (Wn.no rfl) rfl rfl (R.bin (v := (.bool true)) rfl rfl (bi_lss (r := true) (by decide))) ?_
  refine WL.nil ?_
  refine thn_n ?_
  refine WP.seq ?_
  refine WP.condT rfl ?_
  refine WP.skip ?_
  refine thn_n ?_
  refine WP.seq ?_
  refine WP.block ?_
  refine WP.seq ?_
  refine WP.reg ?_
  refine WL.q (Wn.no rfl) rfl rfl (R.indexS (a := a) (i := 0) (off := 0) (xs := ([7, 18] : List Int).map vi64) rfl rfl rfl (by decide) (viewV (h_00.ok _ (.head _))) (lt_len (K := 2) (len_map (rfl : List.length ([7, 18] : List Int) = 2)) (by omega)) Try.underlying70 Try.sizeOf3 (Nat.mul_one _).symm) ?_
  refine WL.q (Wn.no rfl) rfl rfl (R.loadG (a := a) (i := 0) (xs := ([7, 18] : List Int).map vi64) (v := (vi 7)) rfl (viewV (h_00.ok _ (.head _))) Try.isAgg3 rfl) ?_
  refine WL.q (Wn.no rfl) rfl rfl (R.assign (v := (vi 7)) rfl) ?_
  refine WL.nil ?_
  refine thn_n ?_
  refine WP.reg ?_
  refine WL.q (Wn.no rfl) rfl rfl (R.move (v := (vu32 0)) rfl) ?_
  refine WL.q (Wn.no rfl) rfl rfl (R.move (v := (vu32 x)) rfl) ?_
  refine WL.q (Wn.no rfl) rfl rfl (R.move (v := (vi 7)) rfl) ?_
  refine WL.q (Wn.no rfl) rfl rfl (R.un rfl (run_neg (c := -7) (by omega) (by omega))) ?_
  refine WL.call (al := [(vu32 x), (vi (-7))]) Try.call123 rfl rfl (c_rot7 x _ ) rfl ?_
  rintro _ w_2 ⟨rfl, hc_1⟩
  have h_3 := h_00.same hc_1
  refine WL.q (Wn.no rfl) rfl rfl (R.bin (v := (vu32 ((0 : UInt32) ^^^ (rot x 7)))) rfl rfl (b32_xor 0 (rot x 7))) ?_
  refine WL.q (Wn.no rfl) rfl rfl (R.assign (v := (vu32 ((0 : UInt32) ^^^ (rot x 7)))) rfl) ?_
  refine WL.nil ?_
  refine inb_n ?_
  refine thn_n ?_
  refine WP.reg ?_
  refine WL.q (Wn.no rfl) rfl rfl (R.bin (v := (vi 1)) rfl rfl (bi_add (c := 1) (by omega) (by omega))) ?_
  refine WL.q (Wn.no rfl) rfl rfl (R.move (v := (vi 1)) rfl) ?_
  refine WL.nil ?_
  refine thn_n ?_
  refine WI.round ?_
  refine WP.seq ?_
  refine WP.reg ?_
  refine WL.q (Wn.no rfl) rfl rfl (R.bin (v := (.bool true)) rfl rfl (bi_lss (r := true) (by decide))) ?_
  refine WL.nil ?_
  refine thn_n ?_
  refine WP.seq ?_
  refine WP.condT rfl ?_
  refine WP.skip ?_
  refine thn_n ?_
  refine WP.seq ?_
  refine WP.block ?_
  refine WP.seq ?_
  refine WP.reg ?_
  refine WL.q (Wn.no rfl) rfl rfl (R.indexS (a := a) (i := 1) (off := 1) (xs := ([7, 18] : List Int).map vi64) rfl rfl rfl (by decide) (viewV (h_3.ok _ (.head _))) (lt_len (K := 2) (len_map (rfl : List.length ([7, 18] : List Int) = 2)) (by omega)) Try.underlying70 Try.sizeOf3 (Nat.mul_one _).symm) ?_
  refine WL.q (Wn.no rfl) rfl rfl (R.loadG (a := a) (i := 1) (xs := ([7, 18] : List Int).map vi64) (v := (vi 18)) rfl (viewV (h_3.ok _ (.head _))) Try.isAgg3 rfl) ?_
  refine WL.q (Wn.no rfl) rfl rfl (R.assign (v := (vi 18)) rfl) ?_
  refine WL.nil ?_
  refine thn_n ?_
  refine WP.reg ?_
  refine WL.q (Wn.no rfl) rfl rfl (R.move (v := (vu32 ((0 : UInt32) ^^^ (rot x 7)))) rfl) ?_
  refine WL.q (Wn.no rfl) rfl rfl (R.move (v := (vu32 x)) rfl) ?_
  refine WL.q (Wn.no rfl) rfl rfl (R.move (v := (vi 18)) rfl) ?_
  refine WL.q (Wn.no rfl) rfl rfl (R.un rfl (run_neg (c := -18) (by omega) (by omega))) ?_
  refine WL.call (al := [(vu32 x), (vi (-18))]) Try.call123 rfl rfl (c_rot18 x _ ) rfl ?_
  rintro _ w_5 ⟨rfl, hc_4⟩
  have h_6 := h_3.same hc_4
  refine WL.q (Wn.no rfl) rfl rfl (R.bin (v := (vu32 (((0 : UInt32) ^^^ (rot x 7)) ^^^ (rot x 18)))) rfl rfl (b32_xor ((0 : UInt32) ^^^ (rot x 7)) (rot x 18))) ?_
  refine WL.q (Wn.no rfl) rfl rfl (R.assign (v := (vu32 (((0 : UInt32) ^^^ (rot x 7)) ^^^ (rot x 18)))) rfl) ?_
  refine WL.nil ?_
  refine inb_n ?_
  refine thn_n ?_
  refine WP.reg ?_
  refine WL.q (Wn.no rfl) rfl rfl (R.bin (v := (vi 2)) rfl rfl (bi_add (c := 2) (by omega) (by omega))) ?_
  refine WL.q (Wn.no rfl) rfl rfl (R.move (v := (vi 2)) rfl) ?_
  refine WL.nil ?_
  refine thn_n ?_
  refine WI.round ?_
  refine WP.seq ?_
  refine WP.reg ?_
  refine WL.q (Wn.no rfl) rfl rfl (R.bin (v := (.bool false)) rfl rfl (bi_lss (r := false) (by decide))) ?_
  refine WL.nil ?_
  refine thn_n ?_
  refine WP.seq ?_
  refine WP.condF rfl ?_
  refine WP.exit ?_
  refine thn_x ?_
  refine thn_x ?_
  refine inb_hit ?_
  refine thn_n ?_
  refine WP.seq ?_
  refine WP.reg ?_
  refine WL.q (Wn.no rfl) rfl rfl (R.move (v := (vu32 (((0 : UInt32) ^^^ (rot x 7)) ^^^ (rot x 18)))) rfl) ?_
  refine WL.q (Wn.no rfl) rfl rfl (R.assign (v := (vu32 (((0 : UInt32) ^^^ (rot x 7)) ^^^ (rot x 18)))) rfl) ?_
  refine WL.nil ?_
  refine thn_n ?_
  refine WP.ret ?_
  refine ret_of Try.results122 (RV.tmp (v := (vu32 (((0 : UInt32) ^^^ (rot x 7)) ^^^ (rot x 18)))) rfl RV.nil) ?_
  exact ⟨congrArg (fun x : UInt32 => vu32 x) (by rw [UInt32.zero_xor]), h_6.chgS⟩

theorem c_rors_17_19 (x : UInt32) (a : Option Addr) (cap : Nat) (w : World) (hv : View w a (([17, 19] : List Int).map vi64)) :
    Cs Try.prog 122 [(vu32 x), (.slice a 2 cap)].toArray w (fun v w1 => v = (vu32 (rot x 17 ^^^ rot x 19)) ∧ Chg w w1 []) := by
  refine Cs.of (n := 22) (args := [(vu32 x), (.slice a 2 cap)]) Try.func122 rfl rfl rfl ?_
  have h_0 := HP.init w
  have h_00 := h_0.old (View.arg hv) (fun f hf => by cases hf)
  refine WP.seq ?_
  refine WP.reg ?_
  refine WL.q (Wn.no rfl) rfl rfl (R.assign (v := (vu32 0)) rfl) ?_
  refine WL.nil ?_
  refine thn_n ?_
  refine WP.seq ?_
  refine WP.reg ?_
  refine WL.q (Wn.no rfl) rfl rfl (R.assign (v := (vu32 0)) rfl) ?_
  refine WL.nil ?_
  refine thn_n ?_
  refine WP.seq ?_
  refine WP.seq ?_
  refine WP.reg ?_
  refine WL.q (Wn.no rfl) rfl rfl (R.move (v := (.slice a 2 cap)) rfl) ?_
  refine WL.q (Wn.no rfl) rfl rfl (R.lenS (a := a) (m := 2) rfl rfl Try.underlying70) ?_
  refine WL.q (Wn.no rfl) rfl rfl (R.move (v := (vi 0)) rfl) ?_
  refine WL.nil ?_
  refine thn_n ?_
  refine WP.block ?_
  refine WP.loopU (WI.round ?_)
  refine WP.seq ?_
  refine WP.reg ?_
  refine WL.q (Wn.no rfl) rfl rfl (R.bin (v := (.bool true)) rfl rfl (bi_lss (r := true) (by decide))) ?_
  refine WL.nil ?_
  refine thn_n ?_
  refine WP.seq ?_
  refine WP.condT rfl ?_
  refine WP.skip ?_
  refine thn_n ?_
  refine WP.seq ?_
  refine WP.block ?_
  refine WP.seq ?_
  refine WP.reg ?_
  refine WL.q (Wn.no rfl) rfl rfl (R.indexS (a := a) (i := 0) (off := 0) (xs := ([17, 19] : List Int).map vi64) rfl rfl rfl (by decide) (viewV (h_00.ok _ (.head _))) (lt_len (K := 2) (len_map (rfl : List.length ([17, 19] : List Int) = 2)) (by omega)) Try.underlying70 Try.sizeOf3 (Nat.mul_one _).symm) ?_
  refine WL.q (Wn.no rfl) rfl rfl (R.loadG (a := a) (i := 0) (xs := ([17, 19] : List Int).map vi64) (v := (vi 17)) rfl (viewV (h_00.ok _ (.head _))) Try.isAgg3 rfl) ?_
  refine WL.q (Wn.no rfl) rfl rfl (R.assign (v := (vi 17)) rfl) ?_
  refine WL.nil ?_
  refine thn_n ?_
  refine WP.reg ?_
  refine WL.q (Wn.no rfl) rfl rfl (R.move (v := (vu32 0)) rfl) ?_
  refine WL.q (Wn.no rfl) rfl rfl (R.move (v := (vu32 x)) rfl) ?_
  refine WL.q (Wn.no rfl) rfl rfl (R.move (v := (vi 17)) rfl) ?_
  refine WL.q (Wn.no rfl) rfl rfl (R.un rfl (run_neg (c := -17) (by omega) (by omega))) ?_
  refine WL.call (al := [(vu32 x), (vi (-17))]) Try.call123 rfl rfl (c_rot17 x _ ) rfl ?_
  rintro _ w_2 ⟨rfl, hc_1⟩
  have h_3 := h_00.same hc_1
  refine WL.q (Wn.no rfl) rfl rfl (R.bin (v := (vu32 ((0 : UInt32) ^^^ (rot x 17)))) rfl rfl (b32_xor 0 (rot x 17))) ?_
  refine WL.q (Wn.no rfl) rfl rfl (R.assign (v := (vu32 ((0 : UInt32) ^^^ (rot x 17)))) rfl) ?_
  refine WL.nil ?_
  refine inb_n ?_
  refine thn_n ?_
  refine WP.reg ?_
  refine WL.q (Wn.no rfl) rfl rfl (R.bin (v := (vi 1)) rfl rfl (bi_add (c := 1) (by omega) (by omega))) ?_
  refine WL.q (Wn.no rfl) rfl rfl (R.move (v := (vi 1)) rfl) ?_
  refine WL.nil ?_
  refine thn_n ?_
  refine WI.round ?_
  refine WP.seq ?_
  refine WP.reg ?_
  refine WL.q (Wn.no rfl) rfl rfl (R.bin (v := (.bool true)) rfl rfl (bi_lss (r := true) (by decide))) ?_
  refine WL.nil ?_
  refine thn_n ?_
  refine WP.seq ?_
  refine WP.condT rfl ?_
  refine WP.skip ?_
  refine thn_n ?_
  refine WP.seq ?_
  refine WP.block ?_
  refine WP.seq ?_
  refine WP.reg ?_
  refine WL.q (Wn.no rfl) rfl rfl (R.indexS (a := a) (i := 1) (off := 1) (xs := ([17, 19] : List Int).map vi64) rfl rfl rfl (by decide) (viewV (h_3.ok _ (.head _))) (lt_len (K := 2) (len_map (rfl : List.length ([17, 19] : List Int) = 2)) (by omega)) Try.underlying70 Try.sizeOf3 (Nat.mul_one _).symm) ?_
  refine WL.q (Wn.no rfl) rfl rfl (R.loadG (a := a) (i := 1) (xs := ([17, 19] : List Int).map vi64) (v := (vi 19)) rfl (viewV (h_3.ok _ (.head _))) Try.isAgg3 rfl) ?_
  refine WL.q (Wn.no rfl) rfl rfl (R.assign (v := (vi 19)) rfl) ?_
  refine WL.nil ?_
  refine thn_n ?_
  refine WP.reg ?_
  refine WL.q (Wn.no rfl) rfl rfl (R.move (v := (vu32 ((0 : UInt32) ^^^ (rot x 17)))) rfl) ?_
  refine WL.q (Wn.no rfl) rfl rfl (R.move (v := (vu32 x)) rfl) ?_
  refine WL.q (Wn.no rfl) rfl rfl (R.move (v := (vi 19)) rfl) ?_
  refine WL.q (Wn.no rfl) rfl rfl (R.un rfl (run_neg (c := -19) (by omega) (by omega))) ?_
  refine WL.call (al := [(vu32 x), (vi (-19))]) Try.call123 rfl rfl (c_rot19 x _ ) rfl ?_
  rintro _ w_5 ⟨rfl, hc_4⟩
  have h_6 := h_3.same hc_4
  refine WL.q (Wn.no rfl) rfl rfl (R.bin (v := (vu32 (((0 : UInt32) ^^^ (rot x 17)) ^^^ (rot x 19)))) rfl rfl (b32_xor ((0 : UInt32) ^^^ (rot x 17)) (rot x 19))) ?_
  refine WL.q (Wn.no rfl) rfl rfl (R.assign (v := (vu32 (((0 : UInt32) ^^^ (rot x 17)) ^^^ (rot x 19)))) rfl) ?_
  refine WL.nil ?_
  refine inb_n ?_
  refine thn_n ?_
  refine WP.reg ?_
  refine WL.q (Wn.no rfl) rfl rfl (R.bin (v := (vi 2)) rfl rfl (bi_add (c := 2) (by omega) (by omega))) ?_
  refine WL.q (Wn.no rfl) rfl rfl (R.move (v := (vi 2)) rfl) ?_
  refine WL.nil ?_
  refine thn_n ?_
  refine WI.round ?_
  refine WP.seq ?_
  refine WP.reg ?_
  refine WL.q (Wn.no rfl) rfl rfl (R.bin (v := (.bool false)) rfl rfl (bi_lss (r := false) (by decide))) ?_
  refine WL.nil ?_
  refine thn_n ?_
  refine WP.seq ?_
  refine WP.condF rfl ?_
  refine WP.exit ?_
  refine thn_x ?_
  refine thn_x ?_
  refine inb_hit ?_
  refine thn_n ?_
  refine WP.seq ?_
  refine WP.reg ?_
  refine WL.q (Wn.no rfl) rfl rfl (R.move (v := (vu32 (((0 : UInt32) ^^^ (rot x 17)) ^^^ (rot x 19)))) rfl) ?_
  refine WL.q (Wn.no rfl) rfl rfl (R.assign (v := (vu32 (((0 : UInt32) ^^^ (rot x 17)) ^^^ (rot x 19)))) rfl) ?_
  refine WL.nil ?_
  refine thn_n ?_
  refine WP.ret ?_
  refine ret_of Try.results122 (RV.tmp (v := (vu32 (((0 : UInt32) ^^^ (rot x 17)) ^^^ (rot x 19)))) rfl RV.nil) ?_
  exact ⟨congrArg (fun x : UInt32 => vu32 x) (by rw [UInt32.zero_xor]), h_6.chgS⟩

theorem c_rors_6_11_25 (x : UInt32) (a : Option Addr) (cap : Nat) (w : World) (hv : View w a (([6, 11, 25] : List Int).map vi64)) :
    Cs Try.prog 122 [(vu32 x), (.slice a 3 cap)].toArray w (fun v w1 => v = (vu32 ((rot x 6 ^^^ rot x 11) ^^^ rot x 25)) ∧ Chg w w1 []) := by
  refine Cs.of (n := 22) (args := [(vu32 x), (.slice a 3 cap)]) Try.func122 rfl rfl rfl ?_
  have h_0 := HP.init w
  have h_00 := h_0.old (View.arg hv) (fun f hf => by cases hf)
  refine WP.seq ?_
  refine WP.reg ?_
  refine WL.q (Wn.no rfl) rfl rfl (R.assign (v := (vu32 0)) rfl) ?_
  refine WL.nil ?_
  refine thn_n ?_
  refine WP.seq ?_
  refine WP.reg ?_
  refine WL.q (Wn.no rfl) rfl rfl (R.assign (v := (vu32 0)) rfl) ?_
  refine WL.nil ?_
  refine thn_n ?_
  refine WP.seq ?_
  refine WP.seq ?_
  refine WP.reg ?_
  refine WL.q (Wn.no rfl) rfl rfl (R.move (v := (.slice a 3 cap)) rfl) ?_
  refine WL.q (Wn.no rfl) rfl rfl (R.lenS (a := a) (m := 3) rfl rfl Try.underlying70) ?_
  refine WL.q (Wn.no rfl) rfl rfl (R.move (v := (vi 0)) rfl) ?_
  refine WL.nil ?_
  refine thn_n ?_
  refine WP.block ?_
  refine WP.loopU (WI.round ?_)
  refine WP.seq ?_
  refine WP.reg ?_
  refine WL.q (Wn.no rfl) rfl rfl (R.bin (v := (.bool true)) rfl rfl (bi_lss (r := true) (by decide))) ?_
  refine WL.nil ?_
  refine thn_n ?_
  refine WP.seq ?_
  refine WP.condT rfl ?_
  refine WP.skip ?_
  refine thn_n ?_
  refine WP.seq ?_
  refine WP.block ?_
  refine WP.seq ?_
  refine WP.reg ?_
  refine WL.q (Wn.no rfl) rfl rfl (R.indexS (a := a) (i := 0) (off := 0) (xs := ([6, 11, 25] : List Int).map vi64) rfl rfl rfl (by decide) (viewV (h_00.ok _ (.head _))) (lt_len (K := 3) (len_map (rfl : List.length ([6, 11, 25] : List Int) = 3)) (by omega)) Try.underlying70 Try.sizeOf3 (Nat.mul_one _).symm) ?_
  refine WL.q (Wn.no rfl) rfl rfl (R.loadG (a := a) (i := 0) (xs := ([6, 11, 25] : List Int).map vi64) (v := (vi 6)) rfl (viewV (h_00.ok _ (.head _))) Try.isAgg3 rfl) ?_
  refine WL.q (Wn.no rfl) rfl rfl (R.assign (v := (vi 6)) rfl) ?_
  refine WL.nil ?_
  refine thn_n ?_
  refine WP.reg ?_
  refine WL.q (Wn.no rfl) rfl rfl (R.move (v := (vu32 0)) rfl) ?_
  refine WL.q (Wn.no rfl) rfl rfl (R.move (v := (vu32 x)) rfl) ?_
  refine WL.q (Wn.no rfl) rfl rfl (R.move (v := (vi 6)) rfl) ?_
  refine WL.q (Wn.no rfl) rfl rfl (R.un rfl (run_neg (c := -6) (by omega) (by omega))) ?_
  refine WL.call (al := [(vu32 x), (vi (-6))]) Try.call123 rfl rfl (c_rot6 x _ ) rfl ?_
  rintro _ w_2 ⟨rfl, hc_1⟩
  have h_3 := h_00.same hc_1
  refine WL.q (Wn.no rfl) rfl rfl (R.bin (v := (vu32 ((0 : UInt32) ^^^ (rot x 6)))) rfl rfl (b32_xor 0 (rot x 6))) ?_
  refine WL.q (Wn.no rfl) rfl rfl (R.assign (v := (vu32 ((0 : UInt32) ^^^ (rot x 6)))) rfl) ?_
  refine WL.nil ?_
  refine inb_n ?_
  refine thn_n ?_
  refine WP.reg ?_
  refine WL.q (Wn.no rfl) rfl rfl (R.bin (v := (vi 1)) rfl rfl (bi_add (c := 1) (by omega) (by omega))) ?_
  refine WL.q (Wn.no rfl) rfl rfl (R.move (v := (vi 1)) rfl) ?_
  refine WL.nil ?_
  refine thn_n ?_
  refine WI.round ?_
  refine WP.seq ?_
  refine WP.reg ?_
  refine WL.q (Wn.no rfl) rfl rfl (R.bin (v := (.bool true)) rfl rfl (bi_lss (r := true) (by decide))) ?_
  refine WL.nil ?_
  refine thn_n ?_
  refine WP.seq ?_
  refine WP.condT rfl ?_
  refine WP.skip ?_
  refine thn_n ?_
  refine WP.seq ?_
  refine WP.block ?_
  refine WP.seq ?_
  refine WP.reg ?_
  refine WL.q (Wn.no rfl) rfl rfl (R.indexS (a := a) (i := 1) (off := 1) (xs := ([6, 11, 25] : List Int).map vi64) rfl rfl rfl (by decide) (viewV (h_3.ok _ (.head _))) (lt_len (K := 3) (len_map (rfl : List.length ([6, 11, 25] : List Int) = 3)) (by omega)) Try.underlying70 Try.sizeOf3 (Nat.mul_one _).symm) ?_
  refine WL.q (Wn.no rfl) rfl rfl (R.loadG (a := a) (i := 1) (xs := ([6, 11, 25] : List Int).map vi64) (v := (vi 11)) rfl (viewV (h_3.ok _ (.head _))) Try.isAgg3 rfl) ?_
  refine WL.q (Wn.no rfl) rfl rfl (R.assign (v := (vi 11)) rfl) ?_
  refine WL.nil ?_
  refine thn_n ?_
  refine WP.reg ?_
  refine WL.q (Wn.no rfl) rfl rfl (R.move (v := (vu32 ((0 : UInt32) ^^^ (rot x 6)))) rfl) ?_
  refine WL.q (Wn.no rfl) rfl rfl (R.move (v := (vu32 x)) rfl) ?_
  refine WL.q (Wn.no rfl) rfl rfl (R.move (v := (vi 11)) rfl) ?_
  refine WL.q (Wn.no rfl) rfl rfl (R.un rfl (run_neg (c := -11) (by omega) (by omega))) ?_
  refine WL.call (al := [(vu32 x), (vi (-11))]) Try.call123 rfl rfl (c_rot11 x _ ) rfl ?_
  rintro _ w_5 ⟨rfl, hc_4⟩
  have h_6 := h_3.same hc_4
  refine WL.q (Wn.no rfl) rfl rfl (R.bin (v := (vu32 (((0 : UInt32) ^^^ (rot x 6)) ^^^ (rot x 11)))) rfl rfl (b32_xor ((0 : UInt32) ^^^ (rot x 6)) (rot x 11))) ?_
  refine WL.q (Wn.no rfl) rfl rfl (R.assign (v := (vu32 (((0 : UInt32) ^^^ (rot x 6)) ^^^ (rot x 11)))) rfl) ?_
  refine WL.nil ?_
  refine inb_n ?_
  refine thn_n ?_
  refine WP.reg ?_
  refine WL.q (Wn.no rfl) rfl rfl (R.bin (v := (vi 2)) rfl rfl (bi_add (c := 2) (by omega) (by omega))) ?_
  refine WL.q (Wn.no rfl) rfl rfl (R.move (v := (vi 2)) rfl) ?_
  refine WL.nil ?_
  refine thn_n ?_
  refine WI.round ?_
  refine WP.seq ?_
  refine WP.reg ?_
  refine WL.q (Wn.no rfl) rfl rfl (R.bin (v := (.bool true)) rfl rfl (bi_lss (r := true) (by decide))) ?_
  refine WL.nil ?_
  refine thn_n ?_
  refine WP.seq ?_
  refine WP.condT rfl ?_
  refine WP.skip ?_
  refine thn_n ?_
  refine WP.seq ?_
  refine WP.block ?_
  refine WP.seq ?_
  refine WP.reg ?_
  refine WL.q (Wn.no rfl) rfl rfl (R.indexS (a := a) (i := 2) (off := 2) (xs := ([6, 11, 25] : List Int).map vi64) rfl rfl rfl (by decide) (viewV (h_6.ok _ (.head _))) (lt_len (K := 3) (len_map (rfl : List.length ([6, 11, 25] : List Int) = 3)) (by omega)) Try.underlying70 Try.sizeOf3 (Nat.mul_one _).symm) ?_
  refine WL.q (Wn.no rfl) rfl rfl (R.loadG (a := a) (i := 2) (xs := ([6, 11, 25] : List Int).map vi64) (v := (vi 25)) rfl (viewV (h_6.ok _ (.head _))) Try.isAgg3 rfl) ?_
  refine WL.q (Wn.no rfl) rfl rfl (R.assign (v := (vi 25)) rfl) ?_
  refine WL.nil ?_
  refine thn_n ?_
  refine WP.reg ?_
  refine WL.q (Wn.no rfl) rfl rfl (R.move (v := (vu32 (((0 : UInt32) ^^^ (rot x 6)) ^^^ (rot x 11)))) rfl) ?_
  refine WL.q (Wn.no rfl) rfl rfl (R.move (v := (vu32 x)) rfl) ?_
  refine WL.q (Wn.no rfl) rfl rfl (R.move (v := (vi 25)) rfl) ?_
  refine WL.q (Wn.no rfl) rfl rfl (R.un rfl (run_neg (c := -25) (by omega) (by omega))) ?_
  refine WL.call (al := [(vu32 x), (vi (-25))]) Try.call123 rfl rfl (c_rot25 x _ ) rfl ?_
  rintro _ w_8 ⟨rfl, hc_7⟩
  have h_9 := h_6.same hc_7
  refine WL.q (Wn.no rfl) rfl rfl (R.bin (v := (vu32 ((((0 : UInt32) ^^^ (rot x 6)) ^^^ (rot x 11)) ^^^ (rot x 25)))) rfl rfl (b32_xor (((0 : UInt32) ^^^ (rot x 6)) ^^^ (rot x 11)) (rot x 25))) ?_
  refine WL.q (Wn.no rfl) rfl rfl (R.assign (v := (vu32 ((((0 : UInt32) ^^^ (rot x 6)) ^^^ (rot x 11)) ^^^ (rot x 25)))) rfl) ?_
  refine WL.nil ?_
  refine inb_n ?_
  refine thn_n ?_
  refine WP.reg ?_
  refine WL.q (Wn.no rfl) rfl rfl (R.bin (v := (vi 3)) rfl rfl (bi_add (c := 3) (by omega) (by omega))) ?_
  refine WL.q (Wn.no rfl) rfl rfl (R.move (v := (vi 3)) rfl) ?_
  refine WL.nil ?_
  refine thn_n ?_
  refine WI.round ?_
  refine WP.seq ?_
  refine WP.reg ?_
  refine WL.q (Wn.no rfl) rfl rfl (R.bin (v := (.bool false)) rfl rfl (bi_lss (r := false) (by decide))) ?_
  refine WL.nil ?_
  refine thn_n ?_
  refine WP.seq ?_
  refine WP.condF rfl ?_
  refine WP.exit ?_
  refine thn_x ?_
  refine thn_x ?_
  refine inb_hit ?_
  refine thn_n ?_
  refine WP.seq ?_
  refine WP.reg ?_
  refine WL.q (Wn.no rfl) rfl rfl (R.move (v := (vu32 ((((0 : UInt32) ^^^ (rot x 6)) ^^^ (rot x 11)) ^^^ (rot x 25)))) rfl) ?_
  refine WL.q (Wn.no rfl) rfl rfl (R.assign (v := (vu32 ((((0 : UInt32) ^^^ (rot x 6)) ^^^ (rot x 11)) ^^^ (rot x 25)))) rfl) ?_
  refine WL.nil ?_
  refine thn_n ?_
  refine WP.ret ?_
  refine ret_of Try.results122 (RV.tmp (v := (vu32 ((((0 : UInt32) ^^^ (rot x 6)) ^^^ (rot x 11)) ^^^ (rot x 25)))) rfl RV.nil) ?_
  exact ⟨congrArg (fun x : UInt32 => vu32 x) (by rw [UInt32.zero_xor]), h_9.chgS⟩

theorem c_rors_2_13_22 (x : UInt32) (a : Option Addr) (cap : Nat) (w : World) (hv : View w a (([2, 13, 22] : List Int).map vi64)) :
    Cs Try.prog 122 [(vu32 x), (.slice a 3 cap)].toArray w (fun v w1 => v = (vu32 ((rot x 2 ^^^ rot x 13) ^^^ rot x 22)) ∧ Chg w w1 []) := by
  refine Cs.of (n := 22) (args := [(vu32 x), (.slice a 3 cap)]) Try.func122 rfl rfl rfl ?_
  have h_0 := HP.init w
  have h_00 := h_0.old (View.arg hv) (fun f hf => by cases hf)
  refine WP.seq ?_
  refine WP.reg ?_
  refine WL.q (Wn.no rfl) rfl rfl (R.assign (v := (vu32 0)) rfl) ?_
  refine WL.nil ?_
  refine thn_n ?_
  refine WP.seq ?_
  refine WP.reg ?_
  refine WL.q (Wn.no rfl) rfl rfl (R.assign (v := (vu32 0)) rfl) ?_
  refine WL.nil ?_
  refine thn_n ?_
  refine WP.seq ?_
  refine WP.seq ?_
  refine WP.reg ?_
  refine WL.q (Wn.no rfl) rfl rfl (R.move (v := (.slice a 3 cap)) rfl) ?_
  refine WL.q (Wn.no rfl) rfl rfl (R.lenS (a := a) (m := 3) rfl rfl Try.underlying70) ?_
  refine WL.q (Wn.no rfl) rfl rfl (R.move (v := (vi 0)) rfl) ?_
  refine WL.nil ?_
  refine thn_n ?_
  refine WP.block ?_
  refine WP.loopU (WI.round ?_)
  refine WP.seq ?_
  refine WP.reg ?_
  refine WL.q (Wn.no rfl) rfl rfl (R.bin (v := (.bool true)) rfl rfl (bi_lss (r := true) (by decide))) ?_
  refine WL.nil ?_
  refine thn_n ?_
  refine WP.seq ?_
  refine WP.condT rfl ?_
  refine WP.skip ?_
  refine thn_n ?_
  refine WP.seq ?_
  refine WP.block ?_
  refine WP.seq ?_
  refine WP.reg ?_
  refine WL.q (Wn.no rfl) rfl rfl (R.indexS (a := a) (i := 0) (off := 0) (xs := ([2, 13, 22] : List Int).map vi64) rfl rfl rfl (by decide) (viewV (h_00.ok _ (.head _))) (lt_len (K := 3) (len_map (rfl : List.length ([2, 13, 22] : List Int) = 3)) (by omega)) Try.underlying70 Try.sizeOf3 (Nat.mul_one _).symm) ?_
  refine WL.q (Wn.no rfl) rfl rfl (R.loadG (a := a) (i := 0) (xs := ([2, 13, 22] : List Int).map vi64) (v := (vi 2)) rfl (viewV (h_00.ok _ (.head _))) Try.isAgg3 rfl) ?_
  refine WL.q (Wn.no rfl) rfl rfl (R.assign (v := (vi 2)) rfl) ?_
  refine WL.nil ?_
  refine thn_n ?_
  refine WP.reg ?_
  refine WL.q (Wn.no rfl) rfl rfl (R.move (v := (vu32 0)) rfl) ?_
  refine WL.q (Wn.no rfl) rfl rfl (R.move (v := (vu32 x)) rfl) ?_
  refine WL.q (Wn.no rfl) rfl rfl (R.move (v := (vi 2)) rfl) ?_
  refine WL.q (Wn.no rfl) rfl rfl (R.un rfl (run_neg (c := -2) (by omega) (by omega))) ?_
  refine WL.call (al := [(vu32 x), (vi (-2))]) Try.call123 rfl rfl (c_rot2 x _ ) rfl ?_
  rintro _ w_2 ⟨rfl, hc_1⟩
  have h_3 := h_00.same hc_1
  refine WL.q (Wn.no rfl) rfl rfl (R.bin (v := (vu32 ((0 : UInt32) ^^^ (rot x 2)))) rfl rfl (b32_xor 0 (rot x 2))) ?_
  refine WL.q (Wn.no rfl) rfl rfl (R.assign (v := (vu32 ((0 : UInt32) ^^^ (rot x 2)))) rfl) ?_
  refine WL.nil ?_
  refine inb_n ?_
  refine thn_n ?_
  refine WP.reg ?_
  refine WL.q (Wn.no rfl) rfl rfl (R.bin (v := (vi 1)) rfl rfl (bi_add (c := 1) (by omega) (by omega))) ?_
  refine WL.q (Wn.no rfl) rfl rfl (R.move (v := (vi 1)) rfl) ?_
  refine WL.nil ?_
  refine thn_n ?_
  refine WI.round ?_
  refine WP.seq ?_
  refine WP.reg ?_
  refine WL.q (Wn.no rfl) rfl rfl (R.bin (v := (.bool true)) rfl rfl (bi_lss (r := true) (by decide))) ?_
  refine WL.nil ?_
  refine thn_n ?_
  refine WP.seq ?_
  refine WP.condT rfl ?_
  refine WP.skip ?_
  refine thn_n ?_
  refine WP.seq ?_
  refine WP.block ?_
  refine WP.seq ?_
  refine WP.reg ?_
  refine WL.q (Wn.no rfl) rfl rfl (R.indexS (a := a) (i := 1) (off := 1) (xs := ([2, 13, 22] : List Int).map vi64) rfl rfl rfl (by decide) (viewV (h_3.ok _ (.head _))) (lt_len (K := 3) (len_map (rfl : List.length ([2, 13, 22] : List Int) = 3)) (by omega)) Try.underlying70 Try.sizeOf3 (Nat.mul_one _).symm) ?_
  refine WL.q (Wn.no rfl) rfl rfl (R.loadG (a := a) (i := 1) (xs := ([2, 13, 22] : List Int).map vi64) (v := (vi 13)) rfl (viewV (h_3.ok _ (.head _))) Try.isAgg3 rfl) ?_
  refine WL.q (Wn.no rfl) rfl rfl (R.assign (v := (vi 13)) rfl) ?_
  refine WL.nil ?_
  refine thn_n ?_
  refine WP.reg ?_
  refine WL.q (Wn.no rfl) rfl rfl (R.move (v := (vu32 ((0 : UInt32) ^^^ (rot x 2)))) rfl) ?_
  refine WL.q (Wn.no rfl) rfl rfl (R.move (v := (vu32 x)) rfl) ?_
  refine WL.q (Wn.no rfl) rfl rfl (R.move (v := (vi 13)) rfl) ?_
  refine WL.q (Wn.no rfl) rfl rfl (R.un rfl (run_neg (c := -13) (by omega) (by omega))) ?_
  refine WL.call (al := [(vu32 x), (vi (-13))]) Try.call123 rfl rfl (c_rot13 x _ ) rfl ?_
  rintro _ w_5 ⟨rfl, hc_4⟩
  have h_6 := h_3.same hc_4
  refine WL.q (Wn.no rfl) rfl rfl (R.bin (v := (vu32 (((0 : UInt32) ^^^ (rot x 2)) ^^^ (rot x 13)))) rfl rfl (b32_xor ((0 : UInt32) ^^^ (rot x 2)) (rot x 13))) ?_
  refine WL.q (Wn.no rfl) rfl rfl (R.assign (v := (vu32 (((0 : UInt32) ^^^ (rot x 2)) ^^^ (rot x 13)))) rfl) ?_
  refine WL.nil ?_
  refine inb_n ?_
  refine thn_n ?_
  refine WP.reg ?_
  refine WL.q (Wn.no rfl) rfl rfl (R.bin (v := (vi 2)) rfl rfl (bi_add (c := 2) (by omega) (by omega))) ?_
  refine WL.q (Wn.no rfl) rfl rfl (R.move (v := (vi 2)) rfl) ?_
  refine WL.nil ?_
  refine thn_n ?_
  refine WI.round ?_
  refine WP.seq ?_
  refine WP.reg ?_
  refine WL.q (Wn.no rfl) rfl rfl (R.bin (v := (.bool true)) rfl rfl (bi_lss (r := true) (by decide))) ?_
  refine WL.nil ?_
  refine thn_n ?_
  refine WP.seq ?_
  refine WP.condT rfl ?_
  refine WP.skip ?_
  refine thn_n ?_
  refine WP.seq ?_
  refine WP.block ?_
  refine WP.seq ?_
  refine WP.reg ?_
  refine WL.q (Wn.no rfl) rfl rfl (R.indexS (a := a) (i := 2) (off := 2) (xs := ([2, 13, 22] : List Int).map vi64) rfl rfl rfl (by decide) (viewV (h_6.ok _ (.head _))) (lt_len (K := 3) (len_map (rfl : List.length ([2, 13, 22] : List Int) = 3)) (by omega)) Try.underlying70 Try.sizeOf3 (Nat.mul_one _).symm) ?_
  refine WL.q (Wn.no rfl) rfl rfl (R.loadG (a := a) (i := 2) (xs := ([2, 13, 22] : List Int).map vi64) (v := (vi 22)) rfl (viewV (h_6.ok _ (.head _))) Try.isAgg3 rfl) ?_
  refine WL.q (Wn.no rfl) rfl rfl (R.assign (v := (vi 22)) rfl) ?_
  refine WL.nil ?_
  refine thn_n ?_
  refine WP.reg ?_
  refine WL.q (Wn.no rfl) rfl rfl (R.move (v := (vu32 (((0 : UInt32) ^^^ (rot x 2)) ^^^ (rot x 13)))) rfl) ?_
  refine WL.q (Wn.no rfl) rfl rfl (R.move (v := (vu32 x)) rfl) ?_
  refine WL.q (Wn.no rfl) rfl rfl (R.move (v := (vi 22)) rfl) ?_
  refine WL.q (Wn.no rfl) rfl rfl (R.un rfl (run_neg (c := -22) (by omega) (by omega))) ?_
  refine WL.call (al := [(vu32 x), (vi (-22))]) Try.call123 rfl rfl (c_rot22 x _ ) rfl ?_
  rintro _ w_8 ⟨rfl, hc_7⟩
  have h_9 := h_6.same hc_7
  refine WL.q (Wn.no rfl) rfl rfl (R.bin (v := (vu32 ((((0 : UInt32) ^^^ (rot x 2)) ^^^ (rot x 13)) ^^^ (rot x 22)))) rfl rfl (b32_xor (((0 : UInt32) ^^^ (rot x 2)) ^^^ (rot x 13)) (rot x 22))) ?_
  refine WL.q (Wn.no rfl) rfl rfl (R.assign (v := (vu32 ((((0 : UInt32) ^^^ (rot x 2)) ^^^ (rot x 13)) ^^^ (rot x 22)))) rfl) ?_
  refine WL.nil ?_
  refine inb_n ?_
  refine thn_n ?_
  refine WP.reg ?_
  refine WL.q (Wn.no rfl) rfl rfl (R.bin (v := (vi 3)) rfl rfl (bi_add (c := 3) (by omega) (by omega))) ?_
  refine WL.q (Wn.no rfl) rfl rfl (R.move (v := (vi 3)) rfl) ?_
  refine WL.nil ?_
  refine thn_n ?_
  refine WI.round ?_
  refine WP.seq ?_
  refine WP.reg ?_
  refine WL.q (Wn.no rfl) rfl rfl (R.bin (v := (.bool false)) rfl rfl (bi_lss (r := false) (by decide))) ?_
  refine WL.nil ?_
  refine thn_n ?_
  refine WP.seq ?_
  refine WP.condF rfl ?_
  refine WP.exit ?_
  refine thn_x ?_
  refine thn_x ?_
  refine inb_hit ?_
  refine thn_n ?_
  refine WP.seq ?_
  refine WP.reg ?_
  refine WL.q (Wn.no rfl) rfl rfl (R.move (v := (vu32 ((((0 : UInt32) ^^^ (rot x 2)) ^^^ (rot x 13)) ^^^ (rot x 22)))) rfl) ?_
  refine WL.q (Wn.no rfl) rfl rfl (R.assign (v := (vu32 ((((0 : UInt32) ^^^ (rot x 2)) ^^^ (rot x 13)) ^^^ (rot x 22)))) rfl) ?_
  refine WL.nil ?_
  refine thn_n ?_
  refine WP.ret ?_
  refine ret_of Try.results122 (RV.tmp (v := (vu32 ((((0 : UInt32) ^^^ (rot x 2)) ^^^ (rot x 13)) ^^^ (rot x 22)))) rfl RV.nil) ?_
  exact ⟨congrArg (fun x : UInt32 => vu32 x) (by rw [UInt32.zero_xor]), h_9.chgS⟩

theorem c_press (hh ks : List UInt32) (hhl : hh.length = 8) (hkl : ks.length = 64) (a : Option Addr) (cap : Nat) (bs : List UInt8) (hl : bs.length = 64) (hcap : 64 ≤ cap) (w : World) (hv : View w a (bs.map vu8)) :
    Cs Try.prog 110 [(.agg ⟨hh.map vu32⟩), (.slice a 64 cap), (.agg ⟨ks.map vu32⟩)].toArray w (fun v w1 => v = (.agg ⟨(pressL ks hh bs).map vu32⟩) ∧ Chg w w1 []) := by
  refine Cs.of (n := 179) (args := [(.agg ⟨hh.map vu32⟩), (.slice a 64 cap), (.agg ⟨ks.map vu32⟩)]) Try.func110 rfl rfl rfl ?_
  have h_0 := HP.init w
  have h_00 := h_0.old (View.arg hv) (fun f hf => by cases hf)
  refine WP.seq ?_
  refine WP.reg ?_
  refine WL.box (v := (.agg ⟨hh.map vu32⟩)) (segs := [(8, hh.map vu32)]) h_00 rfl rfl (SsOk.cons (SOk.u32 hhl) SsOk.nil) rfl (fun b_1 w_2 h_3 => ?_)
  refine WL.box (v := (.agg ⟨ks.map vu32⟩)) (segs := [(64, ks.map vu32)]) h_3 rfl rfl (SsOk.cons (SOk.u32 hkl) SsOk.nil) rfl (fun b_4 w_5 h_6 => ?_)
  refine WL.alloc (segs := [(8, (List.replicate 8 (0 : UInt32)).map vu32)]) h_6 (zv Try.typeInfo172 rfl) rfl (SsOk.cons (SOk.u32 (List.length_replicate ..)) SsOk.nil) rfl (fun b_7 w_8 h_9 => ?_)
  refine WL.nil ?_
  refine thn_n ?_
  refine WP.seq ?_
  refine WP.reg ?_
  refine WL.q (Wn.no rfl) rfl rfl (R.assign (v := (Value.func (Fn.func 122) [].toArray [].toArray)) rfl) ?_
  refine WL.nil ?_
  refine thn_n ?_
  refine WP.seq ?_
  refine WP.reg ?_
  refine WL.alloc (segs := [(64, (List.replicate 64 (0 : UInt32)).map vu32)]) h_9 (zv Try.typeInfo171 rfl) rfl (SsOk.cons (SOk.u32 (List.length_replicate ..)) SsOk.nil) rfl (fun b_10 w_11 h_12 => ?_)
  refine WL.nil ?_
  refine thn_n ?_
  refine WP.seq ?_
  refine WP.seq ?_
  refine WP.reg ?_
  refine WL.q (Wn.no rfl) rfl rfl (R.move (v := (vi 0)) rfl) ?_
  refine WL.nil ?_
  refine thn_n ?_
  refine WP.block ?_
  refine WP.loopG (G := Nat) [9, 10, 11, 28, 29, 30, 31, 32, 33, 34, 35, 36, 37, 38, 39, 40, 41, 42, 43, 44, 45, 46, 47] (fun i => [(28, (vi ((i : Nat) : Int)))]) (fun i m w1 => HP w w1 [.blk b_10 .nw 171 [(64, (WZ bs i).map vu32)], .blk b_7 .nw 172 [(8, (List.replicate 8 (0 : UInt32)).map vu32)], .blk b_4 .nw 171 [(64, ks.map vu32)], .blk b_1 .nw 172 [(8, hh.map vu32)], .view a (bs.map vu8)] ∧ (i ≤ 16) ∧ m = 16 - i) ⟨0, _, ⟨rfl, trivial⟩, (by rw [WZ_0]; exact h_12), (by omega), rfl⟩ ?_
  rintro i m_15 J_16 w_13 ⟨h_14, hi, rfl⟩
  refine WP.seq ?_
  refine WP.reg ?_
  refine WL.q (Wn.no rfl) rfl rfl (R.bin (v := (.bool (decide ((((i : Nat) : Int) : Int) < 16)))) rfl rfl (bi_lss (r := decide ((((i : Nat) : Int) : Int) < 16)) rfl)) ?_
  refine WL.nil ?_
  refine thn_n ?_
  refine WP.seq ?_
  refine WP.cond (b := decide ((((i : Nat) : Int) : Int) < 16)) rfl (fun c_17 => ?_) (fun c_17 => ?_)
  · have p_18 := of_decide_eq_true c_17
    refine WP.skip ?_
    refine thn_n ?_
    refine WP.seq ?_
    refine WP.block ?_
    refine WP.seq ?_
    refine WP.reg ?_
    refine WL.q (Wn.no rfl) rfl rfl (R.move (v := (vi ((i : Nat) : Int))) rfl) ?_
    refine WL.q (Wn.no rfl) rfl rfl (R.assign (v := (vi ((i : Nat) : Int))) rfl) ?_
    refine WL.nil ?_
    refine thn_n ?_
    refine WP.seq ?_
    refine WP.reg ?_
    refine WL.q (Wn.no rfl) rfl rfl (R.move (v := (.slice a 64 cap)) rfl) ?_
    refine WL.q (Wn.no rfl) rfl rfl (R.move (v := (vi ((i : Nat) : Int))) rfl) ?_
    refine WL.q (Wn.no rfl) rfl rfl (R.bin (v := (vi ((4 * i : Nat) : Int))) rfl rfl (bi_mul (c := ((4 * i : Nat) : Int)) (by omega) (by omega))) ?_
    refine WL.q (Wn.no rfl) rfl rfl (R.move (v := (vi ((i : Nat) : Int))) rfl) ?_
    refine WL.q (Wn.no rfl) rfl rfl (R.bin (v := (vi ((4 * i : Nat) : Int))) rfl rfl (bi_mul (c := ((4 * i : Nat) : Int)) (by omega) (by omega))) ?_
    refine WL.q (Wn.no rfl) rfl rfl (R.bin (v := (vi ((4 * i + 4 : Nat) : Int))) rfl rfl (bi_add (c := ((4 * i + 4 : Nat) : Int)) (by omega) (by omega))) ?_
    refine WL.q (Wn.no rfl) rfl rfl (R.sliceS (a := a) (len := 64) (l := 4 * i) (h := 4 * i + 4) rfl (EvB.it (l := 4 * i) rfl rfl) (EvB.it (l := 4 * i + 4) rfl rfl) (by omega) (by omega) Try.underlying37 Try.sizeOf5) ?_
    refine WL.call (al := [(.slice (slA a (4 * i) cap 1) (4 * i + 4 - (4 * i)) (cap - (4 * i)))]) Try.call113 rfl rfl (c_Turned (slA a (4 * i) cap 1) (4 * i + 4 - (4 * i)) (cap - (4 * i)) ((bs.drop (4 * i)).take (4 * i + 4 - (4 * i))) (subLen (K := 64) hl (by omega) : List.length ((bs.drop (4 * i)).take (4 * i + 4 - (4 * i))) = 4 * i + 4 - (4 * i)) (by omega) _ (View.slM (l := 4 * i) (m := cap) (k := 4 * i + 4 - (4 * i)) (viewV (h_14.ok _ (.tail _ (.tail _ (.tail _ (.tail _ (.head _))))))) (by omega))) rfl ?_
    rintro _ w_21 ⟨a_19, cap_20, rfl, hc_22, ho_23⟩
    have h_24 := h_14.gotRow hc_22 ho_23
    refine WL.call (al := [(.slice a_19 (4 * i + 4 - (4 * i)) cap_20)]) Try.call85 rfl rfl (c_Get_ok a_19 (4 * i + 4 - (4 * i)) cap_20 (((bs.drop (4 * i)).take (4 * i + 4 - (4 * i))).reverse) ((List.length_reverse ..).trans (subLen (K := 64) hl (by omega) : List.length ((bs.drop (4 * i)).take (4 * i + 4 - (4 * i))) = 4 * i + 4 - (4 * i))) (by omega) (by omega) _ (ownView (h_24.ok _ (.head _)))) rfl ?_
    rintro _ w_26 ⟨rfl, hc_25⟩
    have h_27 := h_24.same hc_25
    refine WL.q (Wn.no rfl) rfl rfl (R.move (v := (.tuple [(vu64 (UInt64.ofNat (natLE (((bs.drop (4 * i)).take (4 * i + 4 - (4 * i))).reverse)))), (vi 0)].toArray)) rfl) ?_
    refine WL.q (Wn.no rfl) rfl rfl (R.extract (l := [(vu64 (UInt64.ofNat (natLE (((bs.drop (4 * i)).take (4 * i + 4 - (4 * i))).reverse)))), (vi 0)]) (v := (vu64 (UInt64.ofNat (natLE (((bs.drop (4 * i)).take (4 * i + 4 - (4 * i))).reverse))))) rfl rfl) ?_
    refine WL.q (Wn.no rfl) rfl rfl (R.extract (l := [(vu64 (UInt64.ofNat (natLE (((bs.drop (4 * i)).take (4 * i + 4 - (4 * i))).reverse)))), (vi 0)]) (v := (vi 0)) rfl rfl) ?_
    refine WL.q (Wn.no rfl) rfl rfl (R.assign (v := (vu64 (UInt64.ofNat (natLE (((bs.drop (4 * i)).take (4 * i + 4 - (4 * i))).reverse))))) rfl) ?_
    refine WL.q (Wn.no rfl) rfl rfl (R.assign (v := (vi 0)) rfl) ?_
    refine WL.nil ?_
    refine thn_n ?_
    refine WP.reg ?_
    refine WL.q (Wn.no rfl) rfl rfl (R.move (v := (vi ((i : Nat) : Int))) rfl) ?_
    refine WL.q (Wn.no rfl) rfl rfl (R.move (v := (vu64 (UInt64.ofNat (natLE (((bs.drop (4 * i)).take (4 * i + 4 - (4 * i))).reverse))))) rfl) ?_
    refine WL.q (Wn.no rfl) rfl rfl (R.conv (b := ((UInt32.ofNat ((UInt64.ofNat (natLE (((bs.drop (4 * i)).take (4 * i + 4 - (4 * i))).reverse))).toNat)) : UInt32).toNat) rfl Try.underlying28 Try.underlying170 (w32_nat ((UInt64.ofNat (natLE (((bs.drop (4 * i)).take (4 * i + 4 - (4 * i))).reverse))).toNat))) ?_
    refine WL.q (Wn.no rfl) rfl rfl (R.indexA (b := b_10) (off := 0) (off' := (0 + i)) (i := i) rfl rfl rfl (by omega) Try.underlying171 Try.sizeOf170 (by rw [Nat.mul_one])) ?_
    refine WL.storeE (b := b_10) (off := (0 + i)) (i := i) (v := (vu32 (UInt32.ofNat ((UInt64.ofNat (natLE (((bs.drop (4 * i)).take (4 * i + 4 - (4 * i))).reverse))).toNat)))) (cs' := ((WZ bs i).set i (UInt32.ofNat ((UInt64.ofNat (natLE (((bs.drop (4 * i)).take (4 * i + 4 - (4 * i))).reverse))).toNat))).map vu32) h_27 rfl rfl Try.sizeOf170 rfl (At.t At.h) (by decide) Sg.h rfl (lt_len (K := 64) (len_map (WZ_len ..)) (by omega)) (set_u32 _ _ _) (fun w_28 h_29 => ?_)
    refine WL.nil ?_
    refine inb_n ?_
    refine thn_n ?_
    refine WP.reg ?_
    refine WL.q (Wn.no rfl) rfl rfl (R.bin (v := (vi ((i + 1 : Nat) : Int))) rfl rfl (bi_add (c := ((i + 1 : Nat) : Int)) (by omega) (by omega))) ?_
    refine WL.q (Wn.no rfl) rfl rfl (R.move (v := (vi ((i + 1 : Nat) : Int))) rfl) ?_
    refine WL.nil ?_
    refine thn_n ?_
    have h_30 := h_29.drop rfl
    have h_31 := h_30.up (Pick.t (Pick.t (Pick.t (Pick.t Pick.h))))
    have h_32 := h_31.up (Pick.t (Pick.t (Pick.t (Pick.t Pick.h))))
    have h_33 := h_32.up (Pick.t (Pick.t (Pick.t (Pick.t Pick.h))))
    have h_34 := h_33.up (Pick.t (Pick.t (Pick.t (Pick.t Pick.h))))
    have h_35 := h_34.up (Pick.t (Pick.t (Pick.t (Pick.t Pick.h))))
    rw [WZ_lo (i := i) hl (by omega) (by omega)] at h_35
    exact ⟨i + 1, _, (by omega), (Ag.upd rfl (Ag.upd rfl (Ag.upd rfl (Ag.upd rfl (Ag.upd rfl (Ag.upd rfl (Ag.upd rfl (Ag.upd rfl (Ag.upd rfl (Ag.upd rfl (Ag.upd rfl (Ag.upd rfl (Ag.upd rfl (Ag.upd rfl (Ag.upd rfl (Ag.upd rfl (Ag.upd rfl (Ag.upd rfl (Ag.upd rfl (Ag.upd rfl (Ag.upd rfl (Ag.upd rfl (Ag.upd rfl (Ag.updL rfl (Ag.mix _ _ _))))))))))))))))))))))))), ⟨rfl, trivial⟩, h_35, (by omega), rfl⟩
  · have p_36 := of_decide_eq_false c_17
    refine WP.exit ?_
    refine thn_x ?_
    refine thn_x ?_
    refine inb_hit ?_
    refine thn_n ?_
    refine WP.seq ?_
    refine WP.seq ?_
    refine WP.reg ?_
    refine WL.q (Wn.no rfl) rfl rfl (R.assign (v := (vi 16)) rfl) ?_
    refine WL.nil ?_
    refine thn_n ?_
    refine WP.block ?_
    have hi16 : i = 16 := by omega
    subst hi16
    refine WP.loopG (G := Nat) [12, 13, 14, 48, 49, 50, 51, 52, 53, 54, 55, 56, 57, 58, 59, 60, 61, 62, 63, 64, 65, 66, 67, 68, 69, 70, 71, 72, 73, 74, 75, 76, 77, 78, 79, 80, 81, 82, 83, 84, 85, 86] (fun j => [(12, (vi ((j : Nat) : Int)))]) (fun j m w1 => HP w w1 [.blk b_10 .nw 171 [(64, (WZ bs j).map vu32)], .blk b_7 .nw 172 [(8, (List.replicate 8 (0 : UInt32)).map vu32)], .blk b_4 .nw 171 [(64, ks.map vu32)], .blk b_1 .nw 172 [(8, hh.map vu32)], .view a (bs.map vu8)] ∧ (16 ≤ j) ∧ (j ≤ 64) ∧ m = 64 - j) ⟨16, _, ⟨rfl, trivial⟩, h_14, (by omega), (by omega), rfl⟩ ?_
    rintro j m_39 J_40 w_37 ⟨h_38, hj, hj2, rfl⟩
    refine WP.seq ?_
    refine WP.seq ?_
    refine WP.reg ?_
    refine WL.q (Wn.no rfl) rfl rfl (R.move (v := (vi ((j : Nat) : Int))) rfl) ?_
    refine WL.q (Wn.no rfl) rfl rfl (R.bin (v := (.bool (decide ((((j : Nat) : Int) : Int) < 64)))) rfl rfl (bi_lss (r := decide ((((j : Nat) : Int) : Int) < 64)) rfl)) ?_
    refine WL.nil ?_
    refine thn_n ?_
    refine WP.cond (b := decide ((((j : Nat) : Int) : Int) < 64)) rfl (fun c_41 => ?_) (fun c_41 => ?_)
    · have p_42 := of_decide_eq_true c_41
      refine WP.skip ?_
      refine thn_n ?_
      refine WP.seq ?_
      refine WP.block ?_
      refine WP.seq ?_
      refine WP.drawT (SL w.heap.size [.blk b_10 .nw 171 [(64, (WZ bs j).map vu32)], .blk b_7 .nw 172 [(8, (List.replicate 8 (0 : UInt32)).map vu32)], .blk b_4 .nw 171 [(64, ks.map vu32)], .blk b_1 .nw 172 [(8, hh.map vu32)], .view a (bs.map vu8)]) (.q 0 (.q 1 (.q 2 (.q 3 (.q 4 (.q 5 (.q 6 (.q 7 (.q 8 (.q 9 .nil)))))))))) (by kernel_rfl) (by kernel_rfl) rfl (by kernel_rfl) (fun w_43 hc_45 => (SL.cons ((h_38.same hc_45).ok _ (.head _)) (SL.cons ((h_38.same hc_45).ok _ (.tail _ (.head _))) (SL.cons ((h_38.same hc_45).ok _ (.tail _ (.tail _ (.head _)))) (SL.cons ((h_38.same hc_45).ok _ (.tail _ (.tail _ (.tail _ (.head _))))) (SL.cons ((h_38.same hc_45).ok _ (.tail _ (.tail _ (.tail _ (.tail _ (.head _)))))) (SL.nil _ _))))))) (fun w_43 hc_45 => ?_)
      have h_44 := h_38.same hc_45
      refine WT.q rfl (Wn.no rfl) rfl rfl (fun wq hS => R.move (v := (vi ((j : Nat) : Int))) rfl) ?_
      refine WT.q rfl (Wn.no rfl) rfl rfl (fun wq hS => R.bin (v := (vi ((j - 15 : Nat) : Int))) rfl rfl (bi_sub (c := ((j - 15 : Nat) : Int)) (by omega) (by omega))) ?_
      refine WT.q rfl (Wn.no rfl) rfl rfl (fun wq hS => R.indexA (b := b_10) (off := 0) (off' := (0 + (j - 15))) (i := j - 15) rfl rfl rfl (by omega) Try.underlying171 Try.sizeOf170 (by rw [Nat.mul_one])) ?_
      refine WT.q rfl (Wn.no rfl) rfl rfl (fun wq hS => R.loadE (b := b_10) (off := (0 + (j - 15))) (i := j - 15) (v := (vu32 ((WZ bs j).getD (j - 15) 0))) rfl Try.isAgg170 (hS _ (.head _)) Sg.h rfl (get_u32 (lt_len (K := 64) (WZ_len ..) (by omega)))) ?_
      refine WT.q rfl (Wn.no rfl) rfl rfl (fun wq hS => R.move (v := (vi ((j : Nat) : Int))) rfl) ?_
      refine WT.q rfl (Wn.no rfl) rfl rfl (fun wq hS => R.bin (v := (vi ((j - 2 : Nat) : Int))) rfl rfl (bi_sub (c := ((j - 2 : Nat) : Int)) (by omega) (by omega))) ?_
      refine WT.q rfl (Wn.no rfl) rfl rfl (fun wq hS => R.indexA (b := b_10) (off := 0) (off' := (0 + (j - 2))) (i := j - 2) rfl rfl rfl (by omega) Try.underlying171 Try.sizeOf170 (by rw [Nat.mul_one])) ?_
      refine WT.q rfl (Wn.no rfl) rfl rfl (fun wq hS => R.loadE (b := b_10) (off := (0 + (j - 2))) (i := j - 2) (v := (vu32 ((WZ bs j).getD (j - 2) 0))) rfl Try.isAgg170 (hS _ (.head _)) Sg.h rfl (get_u32 (lt_len (K := 64) (WZ_len ..) (by omega)))) ?_
      refine WT.q rfl (Wn.no rfl) rfl rfl (fun wq hS => R.assign (v := (vu32 ((WZ bs j).getD (j - 15) 0))) rfl) ?_
      refine WT.q rfl (Wn.no rfl) rfl rfl (fun wq hS => R.assign (v := (vu32 ((WZ bs j).getD (j - 2) 0))) rfl) ?_
      refine WT.nil ?_
      refine thn_n ?_
      refine WP.cutG (G := Nat × Nat) [60, 61, 62, 63, 64, 65, 66, 67, 68, 69, 70, 71, 72, 73, 74, 75, 76, 77, 78, 79, 80, 81, 82, 83, 84, 85, 86] (fun (bY13Y7Y0Y0, bY13Y20Y0Y0) => [(60, (vi ((j : Nat) : Int))), (61, (vi ((j : Nat) : Int))), (62, (vi ((j - 16 : Nat) : Int))), (63, (.pointer (some ⟨b_10, (0 + (j - 16)), none⟩))), (64, (vu32 ((WZ bs j).getD (j - 16) 0))), (65, (Value.func (Fn.func 122) [].toArray [].toArray)), (66, (vu32 ((WZ bs j).getD (j - 15) 0))), (69, (vu32 ((WZ bs j).getD (j - 15) 0))), (70, (vu32 (shr32 ((WZ bs j).getD (j - 15) 0) 3))), (73, (vi ((j : Nat) : Int))), (74, (vi ((j - 7 : Nat) : Int))), (75, (.pointer (some ⟨b_10, (0 + (j - 7)), none⟩))), (76, (vu32 ((WZ bs j).getD (j - 7) 0))), (78, (Value.func (Fn.func 122) [].toArray [].toArray)), (79, (vu32 ((WZ bs j).getD (j - 2) 0))), (82, (vu32 ((WZ bs j).getD (j - 2) 0))), (83, (vu32 (shr32 ((WZ bs j).getD (j - 2) 0) 10))), (67, (.slice (some ⟨bY13Y7Y0Y0, 0, none⟩) 2 2)), (68, (vu32 (rot ((WZ bs j).getD (j - 15) 0) 7 ^^^ rot ((WZ bs j).getD (j - 15) 0) 18))), (71, (vu32 ((rot ((WZ bs j).getD (j - 15) 0) 7 ^^^ rot ((WZ bs j).getD (j - 15) 0) 18) ^^^ (shr32 ((WZ bs j).getD (j - 15) 0) 3)))), (72, (vu32 (((WZ bs j).getD (j - 16) 0) + ((rot ((WZ bs j).getD (j - 15) 0) 7 ^^^ rot ((WZ bs j).getD (j - 15) 0) 18) ^^^ (shr32 ((WZ bs j).getD (j - 15) 0) 3))))), (77, (vu32 ((((WZ bs j).getD (j - 16) 0) + ((rot ((WZ bs j).getD (j - 15) 0) 7 ^^^ rot ((WZ bs j).getD (j - 15) 0) 18) ^^^ (shr32 ((WZ bs j).getD (j - 15) 0) 3))) + ((WZ bs j).getD (j - 7) 0)))), (80, (.slice (some ⟨bY13Y20Y0Y0, 0, none⟩) 2 2)), (81, (vu32 (rot ((WZ bs j).getD (j - 2) 0) 17 ^^^ rot ((WZ bs j).getD (j - 2) 0) 19))), (84, (vu32 ((rot ((WZ bs j).getD (j - 2) 0) 17 ^^^ rot ((WZ bs j).getD (j - 2) 0) 19) ^^^ (shr32 ((WZ bs j).getD (j - 2) 0) 10)))), (85, (vu32 (((((WZ bs j).getD (j - 16) 0) + ((rot ((WZ bs j).getD (j - 15) 0) 7 ^^^ rot ((WZ bs j).getD (j - 15) 0) 18) ^^^ (shr32 ((WZ bs j).getD (j - 15) 0) 3))) + ((WZ bs j).getD (j - 7) 0)) + ((rot ((WZ bs j).getD (j - 2) 0) 17 ^^^ rot ((WZ bs j).getD (j - 2) 0) 19) ^^^ (shr32 ((WZ bs j).getD (j - 2) 0) 10))))), (86, (.pointer (some ⟨b_10, (0 + j), none⟩)))]) (fun (bY13Y7Y0Y0, bY13Y20Y0Y0) w1 => HP w w1 [.blk bY13Y20Y0Y0 .nw 3 [(2, [(vi 17), (vi 19)])], .blk bY13Y7Y0Y0 .nw 3 [(2, [(vi 7), (vi 18)])], .blk b_10 .nw 171 [(64, ((WZ bs j).set j (((((WZ bs j).getD (j - 16) 0) + ((rot ((WZ bs j).getD (j - 15) 0) 7 ^^^ rot ((WZ bs j).getD (j - 15) 0) 18) ^^^ (shr32 ((WZ bs j).getD (j - 15) 0) 3))) + ((WZ bs j).getD (j - 7) 0)) + ((rot ((WZ bs j).getD (j - 2) 0) 17 ^^^ rot ((WZ bs j).getD (j - 2) 0) 19) ^^^ (shr32 ((WZ bs j).getD (j - 2) 0) 10)))).map vu32)], .blk b_7 .nw 172 [(8, (List.replicate 8 (0 : UInt32)).map vu32)], .blk b_4 .nw 171 [(64, ks.map vu32)], .blk b_1 .nw 172 [(8, hh.map vu32)], .view a (bs.map vu8)]) ?_ ?_
      · refine WP.drawZ 27 (SL w.heap.size [.blk b_10 .nw 171 [(64, (WZ bs j).map vu32)], .blk b_7 .nw 172 [(8, (List.replicate 8 (0 : UInt32)).map vu32)], .blk b_4 .nw 171 [(64, ks.map vu32)], .blk b_1 .nw 172 [(8, hh.map vu32)], .view a (bs.map vu8)]) (.q 0 (.q 1 (.q 2 (.q 3 (.q 4 (.q 5 (.q 6 (.q 9 (.q 10 (.q 13 (.q 14 (.q 15 (.q 16 (.q 18 (.q 19 (.q 22 (.q 23 (.s2 7 20 (.s2 8 20 (.q 11 (.q 12 (.q 17 (.s 20 (.s 21 (.q 24 (.q 25 (.q 26 (.s 27 .nil))))))))) (.s 8 (.q 11 (.q 12 (.q 17 (.s 21 (.q 24 (.q 25 (.q 26 (.s 27 .nil)))))))))) (.s 7 (.s 8 (.q 11 (.q 12 (.q 17 (.s 21 (.q 24 (.q 25 (.q 26 (.s 27 .nil)))))))))))))))))))))))))))) (by kernel_rfl) (by kernel_rfl) rfl (by kernel_rfl) (fun w_46 hc_48 => (SL.cons ((h_44.same hc_48).ok _ (.head _)) (SL.cons ((h_44.same hc_48).ok _ (.tail _ (.head _))) (SL.cons ((h_44.same hc_48).ok _ (.tail _ (.tail _ (.head _)))) (SL.cons ((h_44.same hc_48).ok _ (.tail _ (.tail _ (.tail _ (.head _))))) (SL.cons ((h_44.same hc_48).ok _ (.tail _ (.tail _ (.tail _ (.tail _ (.head _)))))) (SL.nil _ _))))))) (fun w_46 hc_48 => ?_)
        have h_47 := h_44.same hc_48
        refine ZT.q rfl (Wn.no rfl) rfl rfl (fun wq hS => R.move (v := (vi ((j : Nat) : Int))) rfl) ?_
        refine ZT.q rfl (Wn.no rfl) rfl rfl (fun wq hS => R.move (v := (vi ((j : Nat) : Int))) rfl) ?_
        refine ZT.q rfl (Wn.no rfl) rfl rfl (fun wq hS => R.bin (v := (vi ((j - 16 : Nat) : Int))) rfl rfl (bi_sub (c := ((j - 16 : Nat) : Int)) (by omega) (by omega))) ?_
        refine ZT.q rfl (Wn.no rfl) rfl rfl (fun wq hS => R.indexA (b := b_10) (off := 0) (off' := (0 + (j - 16))) (i := j - 16) rfl rfl rfl (by omega) Try.underlying171 Try.sizeOf170 (by rw [Nat.mul_one])) ?_
        refine ZT.q rfl (Wn.no rfl) rfl rfl (fun wq hS => R.loadE (b := b_10) (off := (0 + (j - 16))) (i := j - 16) (v := (vu32 ((WZ bs j).getD (j - 16) 0))) rfl Try.isAgg170 (hS _ (.head _)) Sg.h rfl (get_u32 (lt_len (K := 64) (WZ_len ..) (by omega)))) ?_
        refine ZT.q rfl (Wn.no rfl) rfl rfl (fun wq hS => R.move (v := (Value.func (Fn.func 122) [].toArray [].toArray)) rfl) ?_
        refine ZT.q rfl (Wn.no rfl) rfl rfl (fun wq hS => R.move (v := (vu32 ((WZ bs j).getD (j - 15) 0))) rfl) ?_
        refine ZT.q rfl (Wn.no rfl) rfl rfl (fun wq hS => R.move (v := (vu32 ((WZ bs j).getD (j - 15) 0))) rfl) ?_
        refine ZT.q rfl (Wn.no rfl) rfl rfl (fun wq hS => R.binR (v := vu32 (shr32 ((WZ bs j).getD (j - 15) 0) 3)) rfl rfl (run_shr32 _ _ _ ((WZ bs j).getD (j - 15) 0) _ 3)) ?_
        refine ZT.q rfl (Wn.no rfl) rfl rfl (fun wq hS => R.move (v := (vi ((j : Nat) : Int))) rfl) ?_
        refine ZT.q rfl (Wn.no rfl) rfl rfl (fun wq hS => R.bin (v := (vi ((j - 7 : Nat) : Int))) rfl rfl (bi_sub (c := ((j - 7 : Nat) : Int)) (by omega) (by omega))) ?_
        refine ZT.q rfl (Wn.no rfl) rfl rfl (fun wq hS => R.indexA (b := b_10) (off := 0) (off' := (0 + (j - 7))) (i := j - 7) rfl rfl rfl (by omega) Try.underlying171 Try.sizeOf170 (by rw [Nat.mul_one])) ?_
        refine ZT.q rfl (Wn.no rfl) rfl rfl (fun wq hS => R.loadE (b := b_10) (off := (0 + (j - 7))) (i := j - 7) (v := (vu32 ((WZ bs j).getD (j - 7) 0))) rfl Try.isAgg170 (hS _ (.head _)) Sg.h rfl (get_u32 (lt_len (K := 64) (WZ_len ..) (by omega)))) ?_
        refine ZT.q rfl (Wn.no rfl) rfl rfl (fun wq hS => R.move (v := (Value.func (Fn.func 122) [].toArray [].toArray)) rfl) ?_
        refine ZT.q rfl (Wn.no rfl) rfl rfl (fun wq hS => R.move (v := (vu32 ((WZ bs j).getD (j - 2) 0))) rfl) ?_
        refine ZT.q rfl (Wn.no rfl) rfl rfl (fun wq hS => R.move (v := (vu32 ((WZ bs j).getD (j - 2) 0))) rfl) ?_
        refine ZT.q rfl (Wn.no rfl) rfl rfl (fun wq hS => R.binR (v := vu32 (shr32 ((WZ bs j).getD (j - 2) 0) 10)) rfl rfl (run_shr32 _ _ _ ((WZ bs j).getD (j - 2) 0) _ 10)) ?_
        refine ZT.s2 ?_ ?_
        · refine OpZ.one rfl (Wn.no rfl) ?_
          refine WL.buildSl (vs := [(0, (vi 7)), (1, (vi 18))]) (cs := [(vi 7), (vi 18)]) h_47 Try.underlying70 Try.sizeOf3 (zv Try.typeInfo3 rfl) rfl rfl (by kernel_rfl) rfl (by simp [Value.oneCell']) rfl rfl (fun b_49 w_50 h_51 => ?_)
          refine WL.nil ?_
          refine ⟨(SL.cons (h_51.ok _ (.tail _ (.head _))) (SL.cons (h_51.ok _ (.tail _ (.tail _ (.head _)))) (SL.cons (h_51.ok _ (.tail _ (.tail _ (.tail _ (.head _))))) (SL.cons (h_51.ok _ (.tail _ (.tail _ (.tail _ (.tail _ (.head _)))))) (SL.cons (h_51.ok _ (.tail _ (.tail _ (.tail _ (.tail _ (.tail _ (.head _))))))) (SL.nil _ _)))))), ?_⟩
          refine ZT.s2 ?_ ?_
          · refine OpZ.one rfl (Wn.no rfl) ?_
            refine WL.call (al := [(vu32 ((WZ bs j).getD (j - 15) 0)), (.slice (some ⟨b_49, 0, none⟩) 2 2)]) Try.call122 rfl rfl (c_rors_7_18 ((WZ bs j).getD (j - 15) 0) (some ⟨b_49, 0, none⟩) 2 _ (viewB (h_51.ok _ (.head _)) Sg.h)) rfl ?_
            rintro _ w_53 ⟨rfl, hc_52⟩
            have h_54 := h_51.same hc_52
            refine WL.nil ?_
            refine ⟨(SL.cons (h_54.ok _ (.tail _ (.head _))) (SL.cons (h_54.ok _ (.tail _ (.tail _ (.head _)))) (SL.cons (h_54.ok _ (.tail _ (.tail _ (.tail _ (.head _))))) (SL.cons (h_54.ok _ (.tail _ (.tail _ (.tail _ (.tail _ (.head _)))))) (SL.cons (h_54.ok _ (.tail _ (.tail _ (.tail _ (.tail _ (.tail _ (.head _))))))) (SL.nil _ _)))))), ?_⟩
            refine ZT.q rfl (Wn.no rfl) rfl rfl (fun wq hS => R.bin (v := (vu32 ((rot ((WZ bs j).getD (j - 15) 0) 7 ^^^ rot ((WZ bs j).getD (j - 15) 0) 18) ^^^ (shr32 ((WZ bs j).getD (j - 15) 0) 3)))) rfl rfl (b32_xor (rot ((WZ bs j).getD (j - 15) 0) 7 ^^^ rot ((WZ bs j).getD (j - 15) 0) 18) (shr32 ((WZ bs j).getD (j - 15) 0) 3))) ?_
            refine ZT.q rfl (Wn.no rfl) rfl rfl (fun wq hS => R.bin (v := (vu32 (((WZ bs j).getD (j - 16) 0) + ((rot ((WZ bs j).getD (j - 15) 0) 7 ^^^ rot ((WZ bs j).getD (j - 15) 0) 18) ^^^ (shr32 ((WZ bs j).getD (j - 15) 0) 3))))) rfl rfl (b32_add ((WZ bs j).getD (j - 16) 0) ((rot ((WZ bs j).getD (j - 15) 0) 7 ^^^ rot ((WZ bs j).getD (j - 15) 0) 18) ^^^ (shr32 ((WZ bs j).getD (j - 15) 0) 3)))) ?_
            refine ZT.q rfl (Wn.no rfl) rfl rfl (fun wq hS => R.bin (v := (vu32 ((((WZ bs j).getD (j - 16) 0) + ((rot ((WZ bs j).getD (j - 15) 0) 7 ^^^ rot ((WZ bs j).getD (j - 15) 0) 18) ^^^ (shr32 ((WZ bs j).getD (j - 15) 0) 3))) + ((WZ bs j).getD (j - 7) 0)))) rfl rfl (b32_add (((WZ bs j).getD (j - 16) 0) + ((rot ((WZ bs j).getD (j - 15) 0) 7 ^^^ rot ((WZ bs j).getD (j - 15) 0) 18) ^^^ (shr32 ((WZ bs j).getD (j - 15) 0) 3))) ((WZ bs j).getD (j - 7) 0))) ?_
            refine ZT.s ?_
            refine OpZ.one rfl (Wn.no rfl) ?_
            refine WL.buildSl (vs := [(0, (vi 17)), (1, (vi 19))]) (cs := [(vi 17), (vi 19)]) h_54 Try.underlying70 Try.sizeOf3 (zv Try.typeInfo3 rfl) rfl rfl (by kernel_rfl) rfl (by simp [Value.oneCell']) rfl rfl (fun b_55 w_56 h_57 => ?_)
            refine WL.nil ?_
            refine ⟨(SL.cons (h_57.ok _ (.tail _ (.tail _ (.head _)))) (SL.cons (h_57.ok _ (.tail _ (.tail _ (.tail _ (.head _))))) (SL.cons (h_57.ok _ (.tail _ (.tail _ (.tail _ (.tail _ (.head _)))))) (SL.cons (h_57.ok _ (.tail _ (.tail _ (.tail _ (.tail _ (.tail _ (.head _))))))) (SL.cons (h_57.ok _ (.tail _ (.tail _ (.tail _ (.tail _ (.tail _ (.tail _ (.head _)))))))) (SL.nil _ _)))))), ?_⟩
            refine ZT.s ?_
            refine OpZ.one rfl (Wn.no rfl) ?_
            refine WL.call (al := [(vu32 ((WZ bs j).getD (j - 2) 0)), (.slice (some ⟨b_55, 0, none⟩) 2 2)]) Try.call122 rfl rfl (c_rors_17_19 ((WZ bs j).getD (j - 2) 0) (some ⟨b_55, 0, none⟩) 2 _ (viewB (h_57.ok _ (.head _)) Sg.h)) rfl ?_
            rintro _ w_59 ⟨rfl, hc_58⟩
            have h_60 := h_57.same hc_58
            refine WL.nil ?_
            refine ⟨(SL.cons (h_60.ok _ (.tail _ (.tail _ (.head _)))) (SL.cons (h_60.ok _ (.tail _ (.tail _ (.tail _ (.head _))))) (SL.cons (h_60.ok _ (.tail _ (.tail _ (.tail _ (.tail _ (.head _)))))) (SL.cons (h_60.ok _ (.tail _ (.tail _ (.tail _ (.tail _ (.tail _ (.head _))))))) (SL.cons (h_60.ok _ (.tail _ (.tail _ (.tail _ (.tail _ (.tail _ (.tail _ (.head _)))))))) (SL.nil _ _)))))), ?_⟩
            refine ZT.q rfl (Wn.no rfl) rfl rfl (fun wq hS => R.bin (v := (vu32 ((rot ((WZ bs j).getD (j - 2) 0) 17 ^^^ rot ((WZ bs j).getD (j - 2) 0) 19) ^^^ (shr32 ((WZ bs j).getD (j - 2) 0) 10)))) rfl rfl (b32_xor (rot ((WZ bs j).getD (j - 2) 0) 17 ^^^ rot ((WZ bs j).getD (j - 2) 0) 19) (shr32 ((WZ bs j).getD (j - 2) 0) 10))) ?_
            refine ZT.q rfl (Wn.no rfl) rfl rfl (fun wq hS => R.bin (v := (vu32 (((((WZ bs j).getD (j - 16) 0) + ((rot ((WZ bs j).getD (j - 15) 0) 7 ^^^ rot ((WZ bs j).getD (j - 15) 0) 18) ^^^ (shr32 ((WZ bs j).getD (j - 15) 0) 3))) + ((WZ bs j).getD (j - 7) 0)) + ((rot ((WZ bs j).getD (j - 2) 0) 17 ^^^ rot ((WZ bs j).getD (j - 2) 0) 19) ^^^ (shr32 ((WZ bs j).getD (j - 2) 0) 10))))) rfl rfl (b32_add ((((WZ bs j).getD (j - 16) 0) + ((rot ((WZ bs j).getD (j - 15) 0) 7 ^^^ rot ((WZ bs j).getD (j - 15) 0) 18) ^^^ (shr32 ((WZ bs j).getD (j - 15) 0) 3))) + ((WZ bs j).getD (j - 7) 0)) ((rot ((WZ bs j).getD (j - 2) 0) 17 ^^^ rot ((WZ bs j).getD (j - 2) 0) 19) ^^^ (shr32 ((WZ bs j).getD (j - 2) 0) 10)))) ?_
            refine ZT.q rfl (Wn.no rfl) rfl rfl (fun wq hS => R.indexA (b := b_10) (off := 0) (off' := (0 + j)) (i := j) rfl rfl rfl (by omega) Try.underlying171 Try.sizeOf170 (by rw [Nat.mul_one])) ?_
            refine ZT.s ?_
            refine OpZ.last rfl (Wn.no rfl) ?_
            refine WL.storeE (b := b_10) (off := (0 + j)) (i := j) (v := (vu32 (((((WZ bs j).getD (j - 16) 0) + ((rot ((WZ bs j).getD (j - 15) 0) 7 ^^^ rot ((WZ bs j).getD (j - 15) 0) 18) ^^^ (shr32 ((WZ bs j).getD (j - 15) 0) 3))) + ((WZ bs j).getD (j - 7) 0)) + ((rot ((WZ bs j).getD (j - 2) 0) 17 ^^^ rot ((WZ bs j).getD (j - 2) 0) 19) ^^^ (shr32 ((WZ bs j).getD (j - 2) 0) 10))))) (cs' := ((WZ bs j).set j (((((WZ bs j).getD (j - 16) 0) + ((rot ((WZ bs j).getD (j - 15) 0) 7 ^^^ rot ((WZ bs j).getD (j - 15) 0) 18) ^^^ (shr32 ((WZ bs j).getD (j - 15) 0) 3))) + ((WZ bs j).getD (j - 7) 0)) + ((rot ((WZ bs j).getD (j - 2) 0) 17 ^^^ rot ((WZ bs j).getD (j - 2) 0) 19) ^^^ (shr32 ((WZ bs j).getD (j - 2) 0) 10)))).map vu32) h_60 rfl rfl Try.sizeOf170 rfl (At.t (At.t At.h)) (by decide) Sg.h rfl (lt_len (K := 64) (len_map (WZ_len ..)) (by omega)) (set_u32 _ _ _) (fun w_61 h_62 => ?_)
            refine WL.nil ?_
            refine ZT.nil ?_
            refine thn_n ?_
            exact ⟨(b_49, b_55), (Ag.upd rfl (Ag.upd rfl (Ag.upd rfl (Ag.upd rfl (Ag.upd rfl (Ag.upd rfl (Ag.upd rfl (Ag.upd rfl (Ag.upd rfl (Ag.upd rfl (Ag.upd rfl (Ag.upd rfl (Ag.upd rfl (Ag.upd rfl (Ag.upd rfl (Ag.upd rfl (Ag.upd rfl (Ag.upd rfl (Ag.upd rfl (Ag.upd rfl (Ag.upd rfl (Ag.upd rfl (Ag.upd rfl (Ag.upd rfl (Ag.upd rfl (Ag.upd rfl (Ag.upd rfl (Ag.refl _ _)))))))))))))))))))))))))))), ⟨rfl, rfl, rfl, rfl, rfl, rfl, rfl, rfl, rfl, rfl, rfl, rfl, rfl, rfl, rfl, rfl, rfl, rfl, rfl, rfl, rfl, rfl, rfl, rfl, rfl, rfl, rfl, trivial⟩, h_62⟩
          · refine OpZ.one rfl (Wn.no rfl) ?_
            refine WL.buildSl (vs := [(0, (vi 17)), (1, (vi 19))]) (cs := [(vi 17), (vi 19)]) h_51 Try.underlying70 Try.sizeOf3 (zv Try.typeInfo3 rfl) rfl rfl (by kernel_rfl) rfl (by simp [Value.oneCell']) rfl rfl (fun b_63 w_64 h_65 => ?_)
            refine WL.nil ?_
            refine ⟨(SL.cons (h_65.ok _ (.tail _ (.tail _ (.head _)))) (SL.cons (h_65.ok _ (.tail _ (.tail _ (.tail _ (.head _))))) (SL.cons (h_65.ok _ (.tail _ (.tail _ (.tail _ (.tail _ (.head _)))))) (SL.cons (h_65.ok _ (.tail _ (.tail _ (.tail _ (.tail _ (.tail _ (.head _))))))) (SL.cons (h_65.ok _ (.tail _ (.tail _ (.tail _ (.tail _ (.tail _ (.tail _ (.head _)))))))) (SL.nil _ _)))))), ?_⟩
            refine ZT.s ?_
            refine OpZ.one rfl (Wn.no rfl) ?_
            refine WL.call (al := [(vu32 ((WZ bs j).getD (j - 15) 0)), (.slice (some ⟨b_49, 0, none⟩) 2 2)]) Try.call122 rfl rfl (c_rors_7_18 ((WZ bs j).getD (j - 15) 0) (some ⟨b_49, 0, none⟩) 2 _ (viewB (h_65.ok _ (.tail _ (.head _))) Sg.h)) rfl ?_
            rintro _ w_67 ⟨rfl, hc_66⟩
            have h_68 := h_65.same hc_66
            refine WL.nil ?_
            refine ⟨(SL.cons (h_68.ok _ (.tail _ (.tail _ (.head _)))) (SL.cons (h_68.ok _ (.tail _ (.tail _ (.tail _ (.head _))))) (SL.cons (h_68.ok _ (.tail _ (.tail _ (.tail _ (.tail _ (.head _)))))) (SL.cons (h_68.ok _ (.tail _ (.tail _ (.tail _ (.tail _ (.tail _ (.head _))))))) (SL.cons (h_68.ok _ (.tail _ (.tail _ (.tail _ (.tail _ (.tail _ (.tail _ (.head _)))))))) (SL.nil _ _)))))), ?_⟩
            refine ZT.q rfl (Wn.no rfl) rfl rfl (fun wq hS => R.bin (v := (vu32 ((rot ((WZ bs j).getD (j - 15) 0) 7 ^^^ rot ((WZ bs j).getD (j - 15) 0) 18) ^^^ (shr32 ((WZ bs j).getD (j - 15) 0) 3)))) rfl rfl (b32_xor (rot ((WZ bs j).getD (j - 15) 0) 7 ^^^ rot ((WZ bs j).getD (j - 15) 0) 18) (shr32 ((WZ bs j).getD (j - 15) 0) 3))) ?_
            refine ZT.q rfl (Wn.no rfl) rfl rfl (fun wq hS => R.bin (v := (vu32 (((WZ bs j).getD (j - 16) 0) + ((rot ((WZ bs j).getD (j - 15) 0) 7 ^^^ rot ((WZ bs j).getD (j - 15) 0) 18) ^^^ (shr32 ((WZ bs j).getD (j - 15) 0) 3))))) rfl rfl (b32_add ((WZ bs j).getD (j - 16) 0) ((rot ((WZ bs j).getD (j - 15) 0) 7 ^^^ rot ((WZ bs j).getD (j - 15) 0) 18) ^^^ (shr32 ((WZ bs j).getD (j - 15) 0) 3)))) ?_
            refine ZT.q rfl (Wn.no rfl) rfl rfl (fun wq hS => R.bin (v := (vu32 ((((WZ bs j).getD (j - 16) 0) + ((rot ((WZ bs j).getD (j - 15) 0) 7 ^^^ rot ((WZ bs j).getD (j - 15) 0) 18) ^^^ (shr32 ((WZ bs j).getD (j - 15) 0) 3))) + ((WZ bs j).getD (j - 7) 0)))) rfl rfl (b32_add (((WZ bs j).getD (j - 16) 0) + ((rot ((WZ bs j).getD (j - 15) 0) 7 ^^^ rot ((WZ bs j).getD (j - 15) 0) 18) ^^^ (shr32 ((WZ bs j).getD (j - 15) 0) 3))) ((WZ bs j).getD (j - 7) 0))) ?_
            refine ZT.s ?_
            refine OpZ.one rfl (Wn.no rfl) ?_
            refine WL.call (al := [(vu32 ((WZ bs j).getD (j - 2) 0)), (.slice (some ⟨b_63, 0, none⟩) 2 2)]) Try.call122 rfl rfl (c_rors_17_19 ((WZ bs j).getD (j - 2) 0) (some ⟨b_63, 0, none⟩) 2 _ (viewB (h_68.ok _ (.head _)) Sg.h)) rfl ?_
            rintro _ w_70 ⟨rfl, hc_69⟩
            have h_71 := h_68.same hc_69
            refine WL.nil ?_
            refine ⟨(SL.cons (h_71.ok _ (.tail _ (.tail _ (.head _)))) (SL.cons (h_71.ok _ (.tail _ (.tail _ (.tail _ (.head _))))) (SL.cons (h_71.ok _ (.tail _ (.tail _ (.tail _ (.tail _ (.head _)))))) (SL.cons (h_71.ok _ (.tail _ (.tail _ (.tail _ (.tail _ (.tail _ (.head _))))))) (SL.cons (h_71.ok _ (.tail _ (.tail _ (.tail _ (.tail _ (.tail _ (.tail _ (.head _)))))))) (SL.nil _ _)))))), ?_⟩
            refine ZT.q rfl (Wn.no rfl) rfl rfl (fun wq hS => R.bin (v := (vu32 ((rot ((WZ bs j).getD (j - 2) 0) 17 ^^^ rot ((WZ bs j).getD (j - 2) 0) 19) ^^^ (shr32 ((WZ bs j).getD (j - 2) 0) 10)))) rfl rfl (b32_xor (rot ((WZ bs j).getD (j - 2) 0) 17 ^^^ rot ((WZ bs j).getD (j - 2) 0) 19) (shr32 ((WZ bs j).getD (j - 2) 0) 10))) ?_
            refine ZT.q rfl (Wn.no rfl) rfl rfl (fun wq hS => R.bin (v := (vu32 (((((WZ bs j).getD (j - 16) 0) + ((rot ((WZ bs j).getD (j - 15) 0) 7 ^^^ rot ((WZ bs j).getD (j - 15) 0) 18) ^^^ (shr32 ((WZ bs j).getD (j - 15) 0) 3))) + ((WZ bs j).getD (j - 7) 0)) + ((rot ((WZ bs j).getD (j - 2) 0) 17 ^^^ rot ((WZ bs j).getD (j - 2) 0) 19) ^^^ (shr32 ((WZ bs j).getD (j - 2) 0) 10))))) rfl rfl (b32_add ((((WZ bs j).getD (j - 16) 0) + ((rot ((WZ bs j).getD (j - 15) 0) 7 ^^^ rot ((WZ bs j).getD (j - 15) 0) 18) ^^^ (shr32 ((WZ bs j).getD (j - 15) 0) 3))) + ((WZ bs j).getD (j - 7) 0)) ((rot ((WZ bs j).getD (j - 2) 0) 17 ^^^ rot ((WZ bs j).getD (j - 2) 0) 19) ^^^ (shr32 ((WZ bs j).getD (j - 2) 0) 10)))) ?_
            refine ZT.q rfl (Wn.no rfl) rfl rfl (fun wq hS => R.indexA (b := b_10) (off := 0) (off' := (0 + j)) (i := j) rfl rfl rfl (by omega) Try.underlying171 Try.sizeOf170 (by rw [Nat.mul_one])) ?_
            refine ZT.s ?_
            refine OpZ.last rfl (Wn.no rfl) ?_
            refine WL.storeE (b := b_10) (off := (0 + j)) (i := j) (v := (vu32 (((((WZ bs j).getD (j - 16) 0) + ((rot ((WZ bs j).getD (j - 15) 0) 7 ^^^ rot ((WZ bs j).getD (j - 15) 0) 18) ^^^ (shr32 ((WZ bs j).getD (j - 15) 0) 3))) + ((WZ bs j).getD (j - 7) 0)) + ((rot ((WZ bs j).getD (j - 2) 0) 17 ^^^ rot ((WZ bs j).getD (j - 2) 0) 19) ^^^ (shr32 ((WZ bs j).getD (j - 2) 0) 10))))) (cs' := ((WZ bs j).set j (((((WZ bs j).getD (j - 16) 0) + ((rot ((WZ bs j).getD (j - 15) 0) 7 ^^^ rot ((WZ bs j).getD (j - 15) 0) 18) ^^^ (shr32 ((WZ bs j).getD (j - 15) 0) 3))) + ((WZ bs j).getD (j - 7) 0)) + ((rot ((WZ bs j).getD (j - 2) 0) 17 ^^^ rot ((WZ bs j).getD (j - 2) 0) 19) ^^^ (shr32 ((WZ bs j).getD (j - 2) 0) 10)))).map vu32) h_71 rfl rfl Try.sizeOf170 rfl (At.t (At.t At.h)) (by decide) Sg.h rfl (lt_len (K := 64) (len_map (WZ_len ..)) (by omega)) (set_u32 _ _ _) (fun w_72 h_73 => ?_)
            refine WL.nil ?_
            refine ZT.nil ?_
            refine thn_n ?_
            exact ⟨(b_49, b_63), (Ag.upd rfl (Ag.upd rfl (Ag.upd rfl (Ag.upd rfl (Ag.upd rfl (Ag.upd rfl (Ag.upd rfl (Ag.upd rfl (Ag.upd rfl (Ag.upd rfl (Ag.upd rfl (Ag.upd rfl (Ag.upd rfl (Ag.upd rfl (Ag.upd rfl (Ag.upd rfl (Ag.upd rfl (Ag.upd rfl (Ag.upd rfl (Ag.upd rfl (Ag.upd rfl (Ag.upd rfl (Ag.upd rfl (Ag.upd rfl (Ag.upd rfl (Ag.upd rfl (Ag.upd rfl (Ag.refl _ _)))))))))))))))))))))))))))), ⟨rfl, rfl, rfl, rfl, rfl, rfl, rfl, rfl, rfl, rfl, rfl, rfl, rfl, rfl, rfl, rfl, rfl, rfl, rfl, rfl, rfl, rfl, rfl, rfl, rfl, rfl, rfl, trivial⟩, h_73⟩
        · refine OpZ.one rfl (Wn.no rfl) ?_
          refine WL.buildSl (vs := [(0, (vi 17)), (1, (vi 19))]) (cs := [(vi 17), (vi 19)]) h_47 Try.underlying70 Try.sizeOf3 (zv Try.typeInfo3 rfl) rfl rfl (by kernel_rfl) rfl (by simp [Value.oneCell']) rfl rfl (fun b_74 w_75 h_76 => ?_)
          refine WL.nil ?_
          refine ⟨(SL.cons (h_76.ok _ (.tail _ (.head _))) (SL.cons (h_76.ok _ (.tail _ (.tail _ (.head _)))) (SL.cons (h_76.ok _ (.tail _ (.tail _ (.tail _ (.head _))))) (SL.cons (h_76.ok _ (.tail _ (.tail _ (.tail _ (.tail _ (.head _)))))) (SL.cons (h_76.ok _ (.tail _ (.tail _ (.tail _ (.tail _ (.tail _ (.head _))))))) (SL.nil _ _)))))), ?_⟩
          refine ZT.s ?_
          refine OpZ.one rfl (Wn.no rfl) ?_
          refine WL.buildSl (vs := [(0, (vi 7)), (1, (vi 18))]) (cs := [(vi 7), (vi 18)]) h_76 Try.underlying70 Try.sizeOf3 (zv Try.typeInfo3 rfl) rfl rfl (by kernel_rfl) rfl (by simp [Value.oneCell']) rfl rfl (fun b_77 w_78 h_79 => ?_)
          refine WL.nil ?_
          refine ⟨(SL.cons (h_79.ok _ (.tail _ (.tail _ (.head _)))) (SL.cons (h_79.ok _ (.tail _ (.tail _ (.tail _ (.head _))))) (SL.cons (h_79.ok _ (.tail _ (.tail _ (.tail _ (.tail _ (.head _)))))) (SL.cons (h_79.ok _ (.tail _ (.tail _ (.tail _ (.tail _ (.tail _ (.head _))))))) (SL.cons (h_79.ok _ (.tail _ (.tail _ (.tail _ (.tail _ (.tail _ (.tail _ (.head _)))))))) (SL.nil _ _)))))), ?_⟩
          refine ZT.s ?_
          refine OpZ.one rfl (Wn.no rfl) ?_
          refine WL.call (al := [(vu32 ((WZ bs j).getD (j - 15) 0)), (.slice (some ⟨b_77, 0, none⟩) 2 2)]) Try.call122 rfl rfl (c_rors_7_18 ((WZ bs j).getD (j - 15) 0) (some ⟨b_77, 0, none⟩) 2 _ (viewB (h_79.ok _ (.head _)) Sg.h)) rfl ?_
          rintro _ w_81 ⟨rfl, hc_80⟩
          have h_82 := h_79.same hc_80
          refine WL.nil ?_
          refine ⟨(SL.cons (h_82.ok _ (.tail _ (.tail _ (.head _)))) (SL.cons (h_82.ok _ (.tail _ (.tail _ (.tail _ (.head _))))) (SL.cons (h_82.ok _ (.tail _ (.tail _ (.tail _ (.tail _ (.head _)))))) (SL.cons (h_82.ok _ (.tail _ (.tail _ (.tail _ (.tail _ (.tail _ (.head _))))))) (SL.cons (h_82.ok _ (.tail _ (.tail _ (.tail _ (.tail _ (.tail _ (.tail _ (.head _)))))))) (SL.nil _ _)))))), ?_⟩
          refine ZT.q rfl (Wn.no rfl) rfl rfl (fun wq hS => R.bin (v := (vu32 ((rot ((WZ bs j).getD (j - 15) 0) 7 ^^^ rot ((WZ bs j).getD (j - 15) 0) 18) ^^^ (shr32 ((WZ bs j).getD (j - 15) 0) 3)))) rfl rfl (b32_xor (rot ((WZ bs j).getD (j - 15) 0) 7 ^^^ rot ((WZ bs j).getD (j - 15) 0) 18) (shr32 ((WZ bs j).getD (j - 15) 0) 3))) ?_
          refine ZT.q rfl (Wn.no rfl) rfl rfl (fun wq hS => R.bin (v := (vu32 (((WZ bs j).getD (j - 16) 0) + ((rot ((WZ bs j).getD (j - 15) 0) 7 ^^^ rot ((WZ bs j).getD (j - 15) 0) 18) ^^^ (shr32 ((WZ bs j).getD (j - 15) 0) 3))))) rfl rfl (b32_add ((WZ bs j).getD (j - 16) 0) ((rot ((WZ bs j).getD (j - 15) 0) 7 ^^^ rot ((WZ bs j).getD (j - 15) 0) 18) ^^^ (shr32 ((WZ bs j).getD (j - 15) 0) 3)))) ?_
          refine ZT.q rfl (Wn.no rfl) rfl rfl (fun wq hS => R.bin (v := (vu32 ((((WZ bs j).getD (j - 16) 0) + ((rot ((WZ bs j).getD (j - 15) 0) 7 ^^^ rot ((WZ bs j).getD (j - 15) 0) 18) ^^^ (shr32 ((WZ bs j).getD (j - 15) 0) 3))) + ((WZ bs j).getD (j - 7) 0)))) rfl rfl (b32_add (((WZ bs j).getD (j - 16) 0) + ((rot ((WZ bs j).getD (j - 15) 0) 7 ^^^ rot ((WZ bs j).getD (j - 15) 0) 18) ^^^ (shr32 ((WZ bs j).getD (j - 15) 0) 3))) ((WZ bs j).getD (j - 7) 0))) ?_
          refine ZT.s ?_
          refine OpZ.one rfl (Wn.no rfl) ?_
          refine WL.call (al := [(vu32 ((WZ bs j).getD (j - 2) 0)), (.slice (some ⟨b_74, 0, none⟩) 2 2)]) Try.call122 rfl rfl (c_rors_17_19 ((WZ bs j).getD (j - 2) 0) (some ⟨b_74, 0, none⟩) 2 _ (viewB (h_82.ok _ (.tail _ (.head _))) Sg.h)) rfl ?_
          rintro _ w_84 ⟨rfl, hc_83⟩
          have h_85 := h_82.same hc_83
          refine WL.nil ?_
          refine ⟨(SL.cons (h_85.ok _ (.tail _ (.tail _ (.head _)))) (SL.cons (h_85.ok _ (.tail _ (.tail _ (.tail _ (.head _))))) (SL.cons (h_85.ok _ (.tail _ (.tail _ (.tail _ (.tail _ (.head _)))))) (SL.cons (h_85.ok _ (.tail _ (.tail _ (.tail _ (.tail _ (.tail _ (.head _))))))) (SL.cons (h_85.ok _ (.tail _ (.tail _ (.tail _ (.tail _ (.tail _ (.tail _ (.head _)))))))) (SL.nil _ _)))))), ?_⟩
          refine ZT.q rfl (Wn.no rfl) rfl rfl (fun wq hS => R.bin (v := (vu32 ((rot ((WZ bs j).getD (j - 2) 0) 17 ^^^ rot ((WZ bs j).getD (j - 2) 0) 19) ^^^ (shr32 ((WZ bs j).getD (j - 2) 0) 10)))) rfl rfl (b32_xor (rot ((WZ bs j).getD (j - 2) 0) 17 ^^^ rot ((WZ bs j).getD (j - 2) 0) 19) (shr32 ((WZ bs j).getD (j - 2) 0) 10))) ?_
          refine ZT.q rfl (Wn.no rfl) rfl rfl (fun wq hS => R.bin (v := (vu32 (((((WZ bs j).getD (j - 16) 0) + ((rot ((WZ bs j).getD (j - 15) 0) 7 ^^^ rot ((WZ bs j).getD (j - 15) 0) 18) ^^^ (shr32 ((WZ bs j).getD (j - 15) 0) 3))) + ((WZ bs j).getD (j - 7) 0)) + ((rot ((WZ bs j).getD (j - 2) 0) 17 ^^^ rot ((WZ bs j).getD (j - 2) 0) 19) ^^^ (shr32 ((WZ bs j).getD (j - 2) 0) 10))))) rfl rfl (b32_add ((((WZ bs j).getD (j - 16) 0) + ((rot ((WZ bs j).getD (j - 15) 0) 7 ^^^ rot ((WZ bs j).getD (j - 15) 0) 18) ^^^ (shr32 ((WZ bs j).getD (j - 15) 0) 3))) + ((WZ bs j).getD (j - 7) 0)) ((rot ((WZ bs j).getD (j - 2) 0) 17 ^^^ rot ((WZ bs j).getD (j - 2) 0) 19) ^^^ (shr32 ((WZ bs j).getD (j - 2) 0) 10)))) ?_
          refine ZT.q rfl (Wn.no rfl) rfl rfl (fun wq hS => R.indexA (b := b_10) (off := 0) (off' := (0 + j)) (i := j) rfl rfl rfl (by omega) Try.underlying171 Try.sizeOf170 (by rw [Nat.mul_one])) ?_
          refine ZT.s ?_
          refine OpZ.last rfl (Wn.no rfl) ?_
          refine WL.storeE (b := b_10) (off := (0 + j)) (i := j) (v := (vu32 (((((WZ bs j).getD (j - 16) 0) + ((rot ((WZ bs j).getD (j - 15) 0) 7 ^^^ rot ((WZ bs j).getD (j - 15) 0) 18) ^^^ (shr32 ((WZ bs j).getD (j - 15) 0) 3))) + ((WZ bs j).getD (j - 7) 0)) + ((rot ((WZ bs j).getD (j - 2) 0) 17 ^^^ rot ((WZ bs j).getD (j - 2) 0) 19) ^^^ (shr32 ((WZ bs j).getD (j - 2) 0) 10))))) (cs' := ((WZ bs j).set j (((((WZ bs j).getD (j - 16) 0) + ((rot ((WZ bs j).getD (j - 15) 0) 7 ^^^ rot ((WZ bs j).getD (j - 15) 0) 18) ^^^ (shr32 ((WZ bs j).getD (j - 15) 0) 3))) + ((WZ bs j).getD (j - 7) 0)) + ((rot ((WZ bs j).getD (j - 2) 0) 17 ^^^ rot ((WZ bs j).getD (j - 2) 0) 19) ^^^ (shr32 ((WZ bs j).getD (j - 2) 0) 10)))).map vu32) h_85 rfl rfl Try.sizeOf170 rfl (At.t (At.t At.h)) (by decide) Sg.h rfl (lt_len (K := 64) (len_map (WZ_len ..)) (by omega)) (set_u32 _ _ _) (fun w_86 h_87 => ?_)
          refine WL.nil ?_
          refine ZT.nil ?_
          refine thn_n ?_
          have h_88 := h_87.up (Pick.t (Pick.t (Pick.t (Pick.t (Pick.t (Pick.t Pick.h))))))
          have h_89 := h_88.up (Pick.t (Pick.t (Pick.t (Pick.t (Pick.t (Pick.t Pick.h))))))
          have h_90 := h_89.up (Pick.t (Pick.t (Pick.t (Pick.t (Pick.t (Pick.t Pick.h))))))
          have h_91 := h_90.up (Pick.t (Pick.t (Pick.t (Pick.t (Pick.t (Pick.t Pick.h))))))
          have h_92 := h_91.up (Pick.t (Pick.t (Pick.t (Pick.t (Pick.t (Pick.t Pick.h))))))
          have h_93 := h_92.up (Pick.t (Pick.t (Pick.t (Pick.t (Pick.t Pick.h)))))
          have h_94 := h_93.up (Pick.t (Pick.t (Pick.t (Pick.t (Pick.t (Pick.t Pick.h))))))
          exact ⟨(b_77, b_74), (Ag.upd rfl (Ag.upd rfl (Ag.upd rfl (Ag.upd rfl (Ag.upd rfl (Ag.upd rfl (Ag.upd rfl (Ag.upd rfl (Ag.upd rfl (Ag.upd rfl (Ag.upd rfl (Ag.upd rfl (Ag.upd rfl (Ag.upd rfl (Ag.upd rfl (Ag.upd rfl (Ag.upd rfl (Ag.upd rfl (Ag.upd rfl (Ag.upd rfl (Ag.upd rfl (Ag.upd rfl (Ag.upd rfl (Ag.upd rfl (Ag.upd rfl (Ag.upd rfl (Ag.upd rfl (Ag.refl _ _)))))))))))))))))))))))))))), ⟨rfl, rfl, rfl, rfl, rfl, rfl, rfl, rfl, rfl, rfl, rfl, rfl, rfl, rfl, rfl, rfl, rfl, rfl, rfl, rfl, rfl, rfl, rfl, rfl, rfl, rfl, rfl, trivial⟩, h_94⟩
      · rintro ⟨b_98, b_99⟩ J_95 w_96 h_97
        refine inb_n ?_
        refine thn_n ?_
        refine WP.reg ?_
        refine WL.q (Wn.no rfl) rfl rfl (R.move (v := (vi ((j : Nat) : Int))) rfl) ?_
        refine WL.q (Wn.no rfl) rfl rfl (R.bin (v := (vi ((j + 1 : Nat) : Int))) rfl rfl (bi_add (c := ((j + 1 : Nat) : Int)) (by omega) (by omega))) ?_
        refine WL.q (Wn.no rfl) rfl rfl (R.assign (v := (vi ((j + 1 : Nat) : Int))) rfl) ?_
        refine WL.nil ?_
        refine thn_n ?_
        have h_100 := h_97.drop rfl
        have h_101 := h_100.drop rfl
        have h_102 := h_101.up (Pick.t (Pick.t (Pick.t (Pick.t Pick.h))))
        have h_103 := h_102.up (Pick.t (Pick.t (Pick.t (Pick.t Pick.h))))
        have h_104 := h_103.up (Pick.t (Pick.t (Pick.t (Pick.t Pick.h))))
        have h_105 := h_104.up (Pick.t (Pick.t (Pick.t (Pick.t Pick.h))))
        have h_106 := h_105.up (Pick.t (Pick.t (Pick.t (Pick.t Pick.h))))
        have es : (WZ bs j).set j (((((WZ bs j).getD (j - 16) 0) + ((rot ((WZ bs j).getD (j - 15) 0) 7 ^^^ rot ((WZ bs j).getD (j - 15) 0) 18) ^^^ (shr32 ((WZ bs j).getD (j - 15) 0) 3))) + ((WZ bs j).getD (j - 7) 0)) + ((rot ((WZ bs j).getD (j - 2) 0) 17 ^^^ rot ((WZ bs j).getD (j - 2) 0) 19) ^^^ (shr32 ((WZ bs j).getD (j - 2) 0) 10))) = WZ bs (j + 1) := WZ_hi (by omega) (by omega) rfl
        rw [es] at h_106
        exact ⟨j + 1, _, (by omega), (Ag.upd rfl (Ag.upd rfl (Ag.upd rfl (Ag.updL rfl (Ag.trans (Ag.sub rfl (Ag.mix _ _ _)) (Ag.upd rfl (Ag.upd rfl (Ag.upd rfl (Ag.upd rfl (Ag.upd rfl (Ag.upd rfl (Ag.upd rfl (Ag.upd rfl (Ag.upd rfl (Ag.upd rfl (Ag.upd rfl (Ag.upd rfl (Ag.updL rfl (Ag.mix _ _ _))))))))))))))))))), ⟨rfl, trivial⟩, h_106, (by omega), (by omega), rfl⟩
    · have p_107 := of_decide_eq_false c_41
      refine WP.exit ?_
      refine thn_x ?_
      refine thn_x ?_
      refine inb_hit ?_
      refine thn_n ?_
      refine WP.seq ?_
      refine WP.drawT (SL w.heap.size [.blk b_10 .nw 171 [(64, (WZ bs j).map vu32)], .blk b_7 .nw 172 [(8, (List.replicate 8 (0 : UInt32)).map vu32)], .blk b_4 .nw 171 [(64, ks.map vu32)], .blk b_1 .nw 172 [(8, hh.map vu32)], .view a (bs.map vu8)]) (.q 0 (.q 1 (.q 2 (.q 3 (.q 4 (.q 5 (.q 6 (.q 7 (.q 8 (.q 9 (.q 10 (.q 11 (.q 12 (.q 13 (.q 14 (.q 15 (.q 16 (.q 17 (.q 18 (.q 19 (.q 20 (.q 21 (.q 22 (.q 23 .nil)))))))))))))))))))))))) (by kernel_rfl) (by kernel_rfl) rfl (by kernel_rfl) (fun w_108 hc_110 => (SL.cons ((h_38.same hc_110).ok _ (.head _)) (SL.cons ((h_38.same hc_110).ok _ (.tail _ (.head _))) (SL.cons ((h_38.same hc_110).ok _ (.tail _ (.tail _ (.head _)))) (SL.cons ((h_38.same hc_110).ok _ (.tail _ (.tail _ (.tail _ (.head _))))) (SL.cons ((h_38.same hc_110).ok _ (.tail _ (.tail _ (.tail _ (.tail _ (.head _)))))) (SL.nil _ _))))))) (fun w_108 hc_110 => ?_)
      have h_109 := h_38.same hc_110
      refine WT.q rfl (Wn.no rfl) rfl rfl (fun wq hS => R.indexA (b := b_1) (off := 0) (off' := 0) (i := 0) rfl rfl rfl (by decide) Try.underlying172 Try.sizeOf170 rfl) ?_
      refine WT.q rfl (Wn.no rfl) rfl rfl (fun wq hS => R.loadE (b := b_1) (off := 0) (i := 0) (v := (vu32 (hh.getD 0 0))) rfl Try.isAgg170 (hS _ (.tail _ (.tail _ (.tail _ (.head _))))) Sg.h rfl (get_u32 (lt_len (K := 8) hhl (by decide)))) ?_
      refine WT.q rfl (Wn.no rfl) rfl rfl (fun wq hS => R.indexA (b := b_1) (off := 0) (off' := 1) (i := 1) rfl rfl rfl (by decide) Try.underlying172 Try.sizeOf170 rfl) ?_
      refine WT.q rfl (Wn.no rfl) rfl rfl (fun wq hS => R.loadE (b := b_1) (off := 1) (i := 1) (v := (vu32 (hh.getD 1 0))) rfl Try.isAgg170 (hS _ (.tail _ (.tail _ (.tail _ (.head _))))) Sg.h rfl (get_u32 (lt_len (K := 8) hhl (by decide)))) ?_
      refine WT.q rfl (Wn.no rfl) rfl rfl (fun wq hS => R.indexA (b := b_1) (off := 0) (off' := 2) (i := 2) rfl rfl rfl (by decide) Try.underlying172 Try.sizeOf170 rfl) ?_
      refine WT.q rfl (Wn.no rfl) rfl rfl (fun wq hS => R.loadE (b := b_1) (off := 2) (i := 2) (v := (vu32 (hh.getD 2 0))) rfl Try.isAgg170 (hS _ (.tail _ (.tail _ (.tail _ (.head _))))) Sg.h rfl (get_u32 (lt_len (K := 8) hhl (by decide)))) ?_
      refine WT.q rfl (Wn.no rfl) rfl rfl (fun wq hS => R.indexA (b := b_1) (off := 0) (off' := 3) (i := 3) rfl rfl rfl (by decide) Try.underlying172 Try.sizeOf170 rfl) ?_
      refine WT.q rfl (Wn.no rfl) rfl rfl (fun wq hS => R.loadE (b := b_1) (off := 3) (i := 3) (v := (vu32 (hh.getD 3 0))) rfl Try.isAgg170 (hS _ (.tail _ (.tail _ (.tail _ (.head _))))) Sg.h rfl (get_u32 (lt_len (K := 8) hhl (by decide)))) ?_
      refine WT.q rfl (Wn.no rfl) rfl rfl (fun wq hS => R.indexA (b := b_1) (off := 0) (off' := 4) (i := 4) rfl rfl rfl (by decide) Try.underlying172 Try.sizeOf170 rfl) ?_
      refine WT.q rfl (Wn.no rfl) rfl rfl (fun wq hS => R.loadE (b := b_1) (off := 4) (i := 4) (v := (vu32 (hh.getD 4 0))) rfl Try.isAgg170 (hS _ (.tail _ (.tail _ (.tail _ (.head _))))) Sg.h rfl (get_u32 (lt_len (K := 8) hhl (by decide)))) ?_
      refine WT.q rfl (Wn.no rfl) rfl rfl (fun wq hS => R.indexA (b := b_1) (off := 0) (off' := 5) (i := 5) rfl rfl rfl (by decide) Try.underlying172 Try.sizeOf170 rfl) ?_
      refine WT.q rfl (Wn.no rfl) rfl rfl (fun wq hS => R.loadE (b := b_1) (off := 5) (i := 5) (v := (vu32 (hh.getD 5 0))) rfl Try.isAgg170 (hS _ (.tail _ (.tail _ (.tail _ (.head _))))) Sg.h rfl (get_u32 (lt_len (K := 8) hhl (by decide)))) ?_
      refine WT.q rfl (Wn.no rfl) rfl rfl (fun wq hS => R.indexA (b := b_1) (off := 0) (off' := 6) (i := 6) rfl rfl rfl (by decide) Try.underlying172 Try.sizeOf170 rfl) ?_
      refine WT.q rfl (Wn.no rfl) rfl rfl (fun wq hS => R.loadE (b := b_1) (off := 6) (i := 6) (v := (vu32 (hh.getD 6 0))) rfl Try.isAgg170 (hS _ (.tail _ (.tail _ (.tail _ (.head _))))) Sg.h rfl (get_u32 (lt_len (K := 8) hhl (by decide)))) ?_
      refine WT.q rfl (Wn.no rfl) rfl rfl (fun wq hS => R.indexA (b := b_1) (off := 0) (off' := 7) (i := 7) rfl rfl rfl (by decide) Try.underlying172 Try.sizeOf170 rfl) ?_
      refine WT.q rfl (Wn.no rfl) rfl rfl (fun wq hS => R.loadE (b := b_1) (off := 7) (i := 7) (v := (vu32 (hh.getD 7 0))) rfl Try.isAgg170 (hS _ (.tail _ (.tail _ (.tail _ (.head _))))) Sg.h rfl (get_u32 (lt_len (K := 8) hhl (by decide)))) ?_
      refine WT.q rfl (Wn.no rfl) rfl rfl (fun wq hS => R.assign (v := (vu32 (hh.getD 0 0))) rfl) ?_
      refine WT.q rfl (Wn.no rfl) rfl rfl (fun wq hS => R.assign (v := (vu32 (hh.getD 1 0))) rfl) ?_
      refine WT.q rfl (Wn.no rfl) rfl rfl (fun wq hS => R.assign (v := (vu32 (hh.getD 2 0))) rfl) ?_
      refine WT.q rfl (Wn.no rfl) rfl rfl (fun wq hS => R.assign (v := (vu32 (hh.getD 3 0))) rfl) ?_
      refine WT.q rfl (Wn.no rfl) rfl rfl (fun wq hS => R.assign (v := (vu32 (hh.getD 4 0))) rfl) ?_
      refine WT.q rfl (Wn.no rfl) rfl rfl (fun wq hS => R.assign (v := (vu32 (hh.getD 5 0))) rfl) ?_
      refine WT.q rfl (Wn.no rfl) rfl rfl (fun wq hS => R.assign (v := (vu32 (hh.getD 6 0))) rfl) ?_
      refine WT.q rfl (Wn.no rfl) rfl rfl (fun wq hS => R.assign (v := (vu32 (hh.getD 7 0))) rfl) ?_
      refine WT.nil ?_
      refine thn_n ?_
      refine WP.seq ?_
      refine WP.seq ?_
      refine WP.reg ?_
      refine WL.q (Wn.no rfl) rfl rfl (R.move (v := (vi 0)) rfl) ?_
      refine WL.nil ?_
      refine thn_n ?_
      refine WP.block ?_
      have hj64 : j = 64 := by omega
      subst hj64
      rw [WZ_all] at h_109
      refine WP.loopG (G := Nat) [15, 16, 17, 18, 19, 20, 21, 22, 23, 24, 25, 103, 104, 105, 106, 107, 108, 109, 110, 111, 112, 113, 114, 115, 116, 117, 118, 119, 120, 121, 122, 123, 124, 125, 126, 127, 128, 129, 130, 131, 132, 133, 134, 135, 136, 137, 138, 139, 140, 141, 142, 143, 144, 145, 146, 147, 148, 149, 150, 151, 152, 153, 154, 155, 156, 157] (fun r => [(15, (vu32 ((stN ks (W bs) hh r).getD 0 0))), (16, (vu32 ((stN ks (W bs) hh r).getD 1 0))), (17, (vu32 ((stN ks (W bs) hh r).getD 2 0))), (18, (vu32 ((stN ks (W bs) hh r).getD 3 0))), (19, (vu32 ((stN ks (W bs) hh r).getD 4 0))), (20, (vu32 ((stN ks (W bs) hh r).getD 5 0))), (21, (vu32 ((stN ks (W bs) hh r).getD 6 0))), (22, (vu32 ((stN ks (W bs) hh r).getD 7 0))), (103, (vi ((r : Nat) : Int)))]) (fun r m w1 => HP w w1 [.blk b_10 .nw 171 [(64, (W bs).map vu32)], .blk b_7 .nw 172 [(8, (List.replicate 8 (0 : UInt32)).map vu32)], .blk b_4 .nw 171 [(64, ks.map vu32)], .blk b_1 .nw 172 [(8, hh.map vu32)], .view a (bs.map vu8)] ∧ (r ≤ 64) ∧ m = 64 - r) ⟨0, _, ⟨rfl, rfl, rfl, rfl, rfl, rfl, rfl, rfl, rfl, trivial⟩, h_109, (by omega), rfl⟩ ?_
      rintro r m_113 J_114 w_111 ⟨h_112, hr, rfl⟩
      refine WP.seq ?_
      refine WP.reg ?_
      refine WL.q (Wn.no rfl) rfl rfl (R.bin (v := (.bool (decide ((((r : Nat) : Int) : Int) < 64)))) rfl rfl (bi_lss (r := decide ((((r : Nat) : Int) : Int) < 64)) rfl)) ?_
      refine WL.nil ?_
      refine thn_n ?_
      refine WP.seq ?_
      refine WP.cond (b := decide ((((r : Nat) : Int) : Int) < 64)) rfl (fun c_115 => ?_) (fun c_115 => ?_)
      · have p_116 := of_decide_eq_true c_115
        refine WP.skip ?_
        refine thn_n ?_
        refine WP.seq ?_
        refine WP.block ?_
        refine WP.seq ?_
        refine WP.reg ?_
        refine WL.q (Wn.no rfl) rfl rfl (R.move (v := (vi ((r : Nat) : Int))) rfl) ?_
        refine WL.q (Wn.no rfl) rfl rfl (R.assign (v := (vi ((r : Nat) : Int))) rfl) ?_
        refine WL.nil ?_
        refine thn_n ?_
        refine WP.seq ?_
        refine WP.drawT (SL w.heap.size [.blk b_10 .nw 171 [(64, (W bs).map vu32)], .blk b_7 .nw 172 [(8, (List.replicate 8 (0 : UInt32)).map vu32)], .blk b_4 .nw 171 [(64, ks.map vu32)], .blk b_1 .nw 172 [(8, hh.map vu32)], .view a (bs.map vu8)]) (.q 0 (.q 1 (.q 2 (.q 6 (.q 7 (.q 8 (.q 9 (.q 10 (.q 11 (.q 12 (.q 13 (.q 15 (.q 16 (.q 17 (.q 19 (.q 20 (.q 21 (.s 3 (.s 4 (.q 5 (.q 14 (.q 18 (.q 22 (.q 23 .nil)))))))))))))))))))))))) (by kernel_rfl) (by kernel_rfl) rfl (by kernel_rfl) (fun w_117 hc_119 => (SL.cons ((h_112.same hc_119).ok _ (.head _)) (SL.cons ((h_112.same hc_119).ok _ (.tail _ (.head _))) (SL.cons ((h_112.same hc_119).ok _ (.tail _ (.tail _ (.head _)))) (SL.cons ((h_112.same hc_119).ok _ (.tail _ (.tail _ (.tail _ (.head _))))) (SL.cons ((h_112.same hc_119).ok _ (.tail _ (.tail _ (.tail _ (.tail _ (.head _)))))) (SL.nil _ _))))))) (fun w_117 hc_119 => ?_)
        have h_118 := h_112.same hc_119
        refine WT.q rfl (Wn.no rfl) rfl rfl (fun wq hS => R.move (v := (vu32 ((stN ks (W bs) hh r).getD 7 0))) rfl) ?_
        refine WT.q rfl (Wn.no rfl) rfl rfl (fun wq hS => R.move (v := (Value.func (Fn.func 122) [].toArray [].toArray)) rfl) ?_
        refine WT.q rfl (Wn.no rfl) rfl rfl (fun wq hS => R.move (v := (vu32 ((stN ks (W bs) hh r).getD 4 0))) rfl) ?_
        refine WT.q rfl (Wn.no rfl) rfl rfl (fun wq hS => R.move (v := (vu32 ((stN ks (W bs) hh r).getD 4 0))) rfl) ?_
        refine WT.q rfl (Wn.no rfl) rfl rfl (fun wq hS => R.move (v := (vu32 ((stN ks (W bs) hh r).getD 5 0))) rfl) ?_
        refine WT.q rfl (Wn.no rfl) rfl rfl (fun wq hS => R.bin (v := (vu32 (((stN ks (W bs) hh r).getD 4 0) &&& ((stN ks (W bs) hh r).getD 5 0)))) rfl rfl (b32_and ((stN ks (W bs) hh r).getD 4 0) ((stN ks (W bs) hh r).getD 5 0))) ?_
        refine WT.q rfl (Wn.no rfl) rfl rfl (fun wq hS => R.move (v := (vu32 ((stN ks (W bs) hh r).getD 4 0))) rfl) ?_
        refine WT.q rfl (Wn.no rfl) rfl rfl (fun wq hS => R.un rfl (run_not32 ((stN ks (W bs) hh r).getD 4 0))) ?_
        refine WT.q rfl (Wn.no rfl) rfl rfl (fun wq hS => R.move (v := (vu32 ((stN ks (W bs) hh r).getD 6 0))) rfl) ?_
        refine WT.q rfl (Wn.no rfl) rfl rfl (fun wq hS => R.bin (v := (vu32 ((~~~((stN ks (W bs) hh r).getD 4 0)) &&& ((stN ks (W bs) hh r).getD 6 0)))) rfl rfl (b32_and (~~~((stN ks (W bs) hh r).getD 4 0)) ((stN ks (W bs) hh r).getD 6 0))) ?_
        refine WT.q rfl (Wn.no rfl) rfl rfl (fun wq hS => R.bin (v := (vu32 ((((stN ks (W bs) hh r).getD 4 0) &&& ((stN ks (W bs) hh r).getD 5 0)) ^^^ ((~~~((stN ks (W bs) hh r).getD 4 0)) &&& ((stN ks (W bs) hh r).getD 6 0))))) rfl rfl (b32_xor (((stN ks (W bs) hh r).getD 4 0) &&& ((stN ks (W bs) hh r).getD 5 0)) ((~~~((stN ks (W bs) hh r).getD 4 0)) &&& ((stN ks (W bs) hh r).getD 6 0)))) ?_
        refine WT.q rfl (Wn.no rfl) rfl rfl (fun wq hS => R.move (v := (vi ((r : Nat) : Int))) rfl) ?_
        refine WT.q rfl (Wn.no rfl) rfl rfl (fun wq hS => R.indexA (b := b_4) (off := 0) (off' := (0 + r)) (i := r) rfl rfl rfl (by omega) Try.underlying171 Try.sizeOf170 (by rw [Nat.mul_one])) ?_
        refine WT.q rfl (Wn.no rfl) rfl rfl (fun wq hS => R.loadE (b := b_4) (off := (0 + r)) (i := r) (v := (vu32 (ks.getD r 0))) rfl Try.isAgg170 (hS _ (.tail _ (.tail _ (.head _)))) Sg.h rfl (get_u32 (lt_len (K := 64) hkl (by omega)))) ?_
        refine WT.q rfl (Wn.no rfl) rfl rfl (fun wq hS => R.move (v := (vi ((r : Nat) : Int))) rfl) ?_
        refine WT.q rfl (Wn.no rfl) rfl rfl (fun wq hS => R.indexA (b := b_10) (off := 0) (off' := (0 + r)) (i := r) rfl rfl rfl (by omega) Try.underlying171 Try.sizeOf170 (by rw [Nat.mul_one])) ?_
        refine WT.q rfl (Wn.no rfl) rfl rfl (fun wq hS => R.loadE (b := b_10) (off := (0 + r)) (i := r) (v := (vu32 ((W bs).getD r 0))) rfl Try.isAgg170 (hS _ (.head _)) Sg.h rfl (get_u32 (lt_len (K := 64) (W_len bs) (by omega)))) ?_
        refine WT.s ?_
        refine Op1.one rfl (Wn.no rfl) ?_
        refine WL.buildSl (vs := [(0, (vi 6)), (1, (vi 11)), (2, (vi 25))]) (cs := [(vi 6), (vi 11), (vi 25)]) h_118 Try.underlying70 Try.sizeOf3 (zv Try.typeInfo3 rfl) rfl rfl (by kernel_rfl) rfl (by simp [Value.oneCell']) rfl rfl (fun b_120 w_121 h_122 => ?_)
        refine WL.nil ?_
        refine ⟨(SL.cons (h_122.ok _ (.tail _ (.head _))) (SL.cons (h_122.ok _ (.tail _ (.tail _ (.head _)))) (SL.cons (h_122.ok _ (.tail _ (.tail _ (.tail _ (.head _))))) (SL.cons (h_122.ok _ (.tail _ (.tail _ (.tail _ (.tail _ (.head _)))))) (SL.cons (h_122.ok _ (.tail _ (.tail _ (.tail _ (.tail _ (.tail _ (.head _))))))) (SL.nil _ _)))))), ?_⟩
        refine WT.s ?_
        refine Op1.one rfl (Wn.no rfl) ?_
        refine WL.call (al := [(vu32 ((stN ks (W bs) hh r).getD 4 0)), (.slice (some ⟨b_120, 0, none⟩) 3 3)]) Try.call122 rfl rfl (c_rors_6_11_25 ((stN ks (W bs) hh r).getD 4 0) (some ⟨b_120, 0, none⟩) 3 _ (viewB (h_122.ok _ (.head _)) Sg.h)) rfl ?_
        rintro _ w_124 ⟨rfl, hc_123⟩
        have h_125 := h_122.same hc_123
        refine WL.nil ?_
        refine ⟨(SL.cons (h_125.ok _ (.tail _ (.head _))) (SL.cons (h_125.ok _ (.tail _ (.tail _ (.head _)))) (SL.cons (h_125.ok _ (.tail _ (.tail _ (.tail _ (.head _))))) (SL.cons (h_125.ok _ (.tail _ (.tail _ (.tail _ (.tail _ (.head _)))))) (SL.cons (h_125.ok _ (.tail _ (.tail _ (.tail _ (.tail _ (.tail _ (.head _))))))) (SL.nil _ _)))))), ?_⟩
        refine WT.q rfl (Wn.no rfl) rfl rfl (fun wq hS => R.bin (v := (vu32 (((stN ks (W bs) hh r).getD 7 0) + ((rot ((stN ks (W bs) hh r).getD 4 0) 6 ^^^ rot ((stN ks (W bs) hh r).getD 4 0) 11) ^^^ rot ((stN ks (W bs) hh r).getD 4 0) 25)))) rfl rfl (b32_add ((stN ks (W bs) hh r).getD 7 0) ((rot ((stN ks (W bs) hh r).getD 4 0) 6 ^^^ rot ((stN ks (W bs) hh r).getD 4 0) 11) ^^^ rot ((stN ks (W bs) hh r).getD 4 0) 25))) ?_
        refine WT.q rfl (Wn.no rfl) rfl rfl (fun wq hS => R.bin (v := (vu32 ((((stN ks (W bs) hh r).getD 7 0) + ((rot ((stN ks (W bs) hh r).getD 4 0) 6 ^^^ rot ((stN ks (W bs) hh r).getD 4 0) 11) ^^^ rot ((stN ks (W bs) hh r).getD 4 0) 25)) + ((((stN ks (W bs) hh r).getD 4 0) &&& ((stN ks (W bs) hh r).getD 5 0)) ^^^ ((~~~((stN ks (W bs) hh r).getD 4 0)) &&& ((stN ks (W bs) hh r).getD 6 0)))))) rfl rfl (b32_add (((stN ks (W bs) hh r).getD 7 0) + ((rot ((stN ks (W bs) hh r).getD 4 0) 6 ^^^ rot ((stN ks (W bs) hh r).getD 4 0) 11) ^^^ rot ((stN ks (W bs) hh r).getD 4 0) 25)) ((((stN ks (W bs) hh r).getD 4 0) &&& ((stN ks (W bs) hh r).getD 5 0)) ^^^ ((~~~((stN ks (W bs) hh r).getD 4 0)) &&& ((stN ks (W bs) hh r).getD 6 0))))) ?_
        refine WT.q rfl (Wn.no rfl) rfl rfl (fun wq hS => R.bin (v := (vu32 (((((stN ks (W bs) hh r).getD 7 0) + ((rot ((stN ks (W bs) hh r).getD 4 0) 6 ^^^ rot ((stN ks (W bs) hh r).getD 4 0) 11) ^^^ rot ((stN ks (W bs) hh r).getD 4 0) 25)) + ((((stN ks (W bs) hh r).getD 4 0) &&& ((stN ks (W bs) hh r).getD 5 0)) ^^^ ((~~~((stN ks (W bs) hh r).getD 4 0)) &&& ((stN ks (W bs) hh r).getD 6 0)))) + (ks.getD r 0)))) rfl rfl (b32_add ((((stN ks (W bs) hh r).getD 7 0) + ((rot ((stN ks (W bs) hh r).getD 4 0) 6 ^^^ rot ((stN ks (W bs) hh r).getD 4 0) 11) ^^^ rot ((stN ks (W bs) hh r).getD 4 0) 25)) + ((((stN ks (W bs) hh r).getD 4 0) &&& ((stN ks (W bs) hh r).getD 5 0)) ^^^ ((~~~((stN ks (W bs) hh r).getD 4 0)) &&& ((stN ks (W bs) hh r).getD 6 0)))) (ks.getD r 0))) ?_
        refine WT.q rfl (Wn.no rfl) rfl rfl (fun wq hS => R.bin (v := (vu32 ((((((stN ks (W bs) hh r).getD 7 0) + ((rot ((stN ks (W bs) hh r).getD 4 0) 6 ^^^ rot ((stN ks (W bs) hh r).getD 4 0) 11) ^^^ rot ((stN ks (W bs) hh r).getD 4 0) 25)) + ((((stN ks (W bs) hh r).getD 4 0) &&& ((stN ks (W bs) hh r).getD 5 0)) ^^^ ((~~~((stN ks (W bs) hh r).getD 4 0)) &&& ((stN ks (W bs) hh r).getD 6 0)))) + (ks.getD r 0)) + ((W bs).getD r 0)))) rfl rfl (b32_add (((((stN ks (W bs) hh r).getD 7 0) + ((rot ((stN ks (W bs) hh r).getD 4 0) 6 ^^^ rot ((stN ks (W bs) hh r).getD 4 0) 11) ^^^ rot ((stN ks (W bs) hh r).getD 4 0) 25)) + ((((stN ks (W bs) hh r).getD 4 0) &&& ((stN ks (W bs) hh r).getD 5 0)) ^^^ ((~~~((stN ks (W bs) hh r).getD 4 0)) &&& ((stN ks (W bs) hh r).getD 6 0)))) + (ks.getD r 0)) ((W bs).getD r 0))) ?_
        refine WT.q rfl (Wn.no rfl) rfl rfl (fun wq hS => R.assign (v := (vu32 ((((((stN ks (W bs) hh r).getD 7 0) + ((rot ((stN ks (W bs) hh r).getD 4 0) 6 ^^^ rot ((stN ks (W bs) hh r).getD 4 0) 11) ^^^ rot ((stN ks (W bs) hh r).getD 4 0) 25)) + ((((stN ks (W bs) hh r).getD 4 0) &&& ((stN ks (W bs) hh r).getD 5 0)) ^^^ ((~~~((stN ks (W bs) hh r).getD 4 0)) &&& ((stN ks (W bs) hh r).getD 6 0)))) + (ks.getD r 0)) + ((W bs).getD r 0)))) rfl) ?_
        refine WT.nil ?_
        refine thn_n ?_
        refine WP.seq ?_
        refine WP.reg ?_
        refine WL.q (Wn.no rfl) rfl rfl (R.move (v := (Value.func (Fn.func 122) [].toArray [].toArray)) rfl) ?_
        refine WL.q (Wn.no rfl) rfl rfl (R.move (v := (vu32 ((stN ks (W bs) hh r).getD 0 0))) rfl) ?_
        refine WL.buildSl (vs := [(0, (vi 2)), (1, (vi 13)), (2, (vi 22))]) (cs := [(vi 2), (vi 13), (vi 22)]) h_125 Try.underlying70 Try.sizeOf3 (zv Try.typeInfo3 rfl) rfl rfl (by kernel_rfl) rfl (by simp [Value.oneCell']) rfl rfl (fun b_126 w_127 h_128 => ?_)
        refine WL.call (al := [(vu32 ((stN ks (W bs) hh r).getD 0 0)), (.slice (some ⟨b_126, 0, none⟩) 3 3)]) Try.call122 rfl rfl (c_rors_2_13_22 ((stN ks (W bs) hh r).getD 0 0) (some ⟨b_126, 0, none⟩) 3 _ (viewB (h_128.ok _ (.head _)) Sg.h)) rfl ?_
        rintro _ w_130 ⟨rfl, hc_129⟩
        have h_131 := h_128.same hc_129
        refine WL.q (Wn.no rfl) rfl rfl (R.move (v := (vu32 ((stN ks (W bs) hh r).getD 0 0))) rfl) ?_
        refine WL.q (Wn.no rfl) rfl rfl (R.move (v := (vu32 ((stN ks (W bs) hh r).getD 1 0))) rfl) ?_
        refine WL.q (Wn.no rfl) rfl rfl (R.bin (v := (vu32 (((stN ks (W bs) hh r).getD 0 0) &&& ((stN ks (W bs) hh r).getD 1 0)))) rfl rfl (b32_and ((stN ks (W bs) hh r).getD 0 0) ((stN ks (W bs) hh r).getD 1 0))) ?_
        refine WL.q (Wn.no rfl) rfl rfl (R.move (v := (vu32 ((stN ks (W bs) hh r).getD 0 0))) rfl) ?_
        refine WL.q (Wn.no rfl) rfl rfl (R.move (v := (vu32 ((stN ks (W bs) hh r).getD 2 0))) rfl) ?_
        refine WL.q (Wn.no rfl) rfl rfl (R.bin (v := (vu32 (((stN ks (W bs) hh r).getD 0 0) &&& ((stN ks (W bs) hh r).getD 2 0)))) rfl rfl (b32_and ((stN ks (W bs) hh r).getD 0 0) ((stN ks (W bs) hh r).getD 2 0))) ?_
        refine WL.q (Wn.no rfl) rfl rfl (R.bin (v := (vu32 ((((stN ks (W bs) hh r).getD 0 0) &&& ((stN ks (W bs) hh r).getD 1 0)) ^^^ (((stN ks (W bs) hh r).getD 0 0) &&& ((stN ks (W bs) hh r).getD 2 0))))) rfl rfl (b32_xor (((stN ks (W bs) hh r).getD 0 0) &&& ((stN ks (W bs) hh r).getD 1 0)) (((stN ks (W bs) hh r).getD 0 0) &&& ((stN ks (W bs) hh r).getD 2 0)))) ?_
        refine WL.q (Wn.no rfl) rfl rfl (R.move (v := (vu32 ((stN ks (W bs) hh r).getD 1 0))) rfl) ?_
        refine WL.q (Wn.no rfl) rfl rfl (R.move (v := (vu32 ((stN ks (W bs) hh r).getD 2 0))) rfl) ?_
        refine WL.q (Wn.no rfl) rfl rfl (R.bin (v := (vu32 (((stN ks (W bs) hh r).getD 1 0) &&& ((stN ks (W bs) hh r).getD 2 0)))) rfl rfl (b32_and ((stN ks (W bs) hh r).getD 1 0) ((stN ks (W bs) hh r).getD 2 0))) ?_
        refine WL.q (Wn.no rfl) rfl rfl (R.bin (v := (vu32 (((((stN ks (W bs) hh r).getD 0 0) &&& ((stN ks (W bs) hh r).getD 1 0)) ^^^ (((stN ks (W bs) hh r).getD 0 0) &&& ((stN ks (W bs) hh r).getD 2 0))) ^^^ (((stN ks (W bs) hh r).getD 1 0) &&& ((stN ks (W bs) hh r).getD 2 0))))) rfl rfl (b32_xor ((((stN ks (W bs) hh r).getD 0 0) &&& ((stN ks (W bs) hh r).getD 1 0)) ^^^ (((stN ks (W bs) hh r).getD 0 0) &&& ((stN ks (W bs) hh r).getD 2 0))) (((stN ks (W bs) hh r).getD 1 0) &&& ((stN ks (W bs) hh r).getD 2 0)))) ?_
        refine WL.q (Wn.no rfl) rfl rfl (R.bin (v := (vu32 (((rot ((stN ks (W bs) hh r).getD 0 0) 2 ^^^ rot ((stN ks (W bs) hh r).getD 0 0) 13) ^^^ rot ((stN ks (W bs) hh r).getD 0 0) 22) + (((((stN ks (W bs) hh r).getD 0 0) &&& ((stN ks (W bs) hh r).getD 1 0)) ^^^ (((stN ks (W bs) hh r).getD 0 0) &&& ((stN ks (W bs) hh r).getD 2 0))) ^^^ (((stN ks (W bs) hh r).getD 1 0) &&& ((stN ks (W bs) hh r).getD 2 0)))))) rfl rfl (b32_add ((rot ((stN ks (W bs) hh r).getD 0 0) 2 ^^^ rot ((stN ks (W bs) hh r).getD 0 0) 13) ^^^ rot ((stN ks (W bs) hh r).getD 0 0) 22) (((((stN ks (W bs) hh r).getD 0 0) &&& ((stN ks (W bs) hh r).getD 1 0)) ^^^ (((stN ks (W bs) hh r).getD 0 0) &&& ((stN ks (W bs) hh r).getD 2 0))) ^^^ (((stN ks (W bs) hh r).getD 1 0) &&& ((stN ks (W bs) hh r).getD 2 0))))) ?_
        refine WL.q (Wn.no rfl) rfl rfl (R.assign (v := (vu32 (((rot ((stN ks (W bs) hh r).getD 0 0) 2 ^^^ rot ((stN ks (W bs) hh r).getD 0 0) 13) ^^^ rot ((stN ks (W bs) hh r).getD 0 0) 22) + (((((stN ks (W bs) hh r).getD 0 0) &&& ((stN ks (W bs) hh r).getD 1 0)) ^^^ (((stN ks (W bs) hh r).getD 0 0) &&& ((stN ks (W bs) hh r).getD 2 0))) ^^^ (((stN ks (W bs) hh r).getD 1 0) &&& ((stN ks (W bs) hh r).getD 2 0)))))) rfl) ?_
        refine WL.nil ?_
        refine thn_n ?_
        refine WP.reg ?_
        refine WL.q (Wn.no rfl) rfl rfl (R.move (v := (vu32 ((((((stN ks (W bs) hh r).getD 7 0) + ((rot ((stN ks (W bs) hh r).getD 4 0) 6 ^^^ rot ((stN ks (W bs) hh r).getD 4 0) 11) ^^^ rot ((stN ks (W bs) hh r).getD 4 0) 25)) + ((((stN ks (W bs) hh r).getD 4 0) &&& ((stN ks (W bs) hh r).getD 5 0)) ^^^ ((~~~((stN ks (W bs) hh r).getD 4 0)) &&& ((stN ks (W bs) hh r).getD 6 0)))) + (ks.getD r 0)) + ((W bs).getD r 0)))) rfl) ?_
        refine WL.q (Wn.no rfl) rfl rfl (R.move (v := (vu32 (((rot ((stN ks (W bs) hh r).getD 0 0) 2 ^^^ rot ((stN ks (W bs) hh r).getD 0 0) 13) ^^^ rot ((stN ks (W bs) hh r).getD 0 0) 22) + (((((stN ks (W bs) hh r).getD 0 0) &&& ((stN ks (W bs) hh r).getD 1 0)) ^^^ (((stN ks (W bs) hh r).getD 0 0) &&& ((stN ks (W bs) hh r).getD 2 0))) ^^^ (((stN ks (W bs) hh r).getD 1 0) &&& ((stN ks (W bs) hh r).getD 2 0)))))) rfl) ?_
        refine WL.q (Wn.no rfl) rfl rfl (R.bin (v := (vu32 (((((((stN ks (W bs) hh r).getD 7 0) + ((rot ((stN ks (W bs) hh r).getD 4 0) 6 ^^^ rot ((stN ks (W bs) hh r).getD 4 0) 11) ^^^ rot ((stN ks (W bs) hh r).getD 4 0) 25)) + ((((stN ks (W bs) hh r).getD 4 0) &&& ((stN ks (W bs) hh r).getD 5 0)) ^^^ ((~~~((stN ks (W bs) hh r).getD 4 0)) &&& ((stN ks (W bs) hh r).getD 6 0)))) + (ks.getD r 0)) + ((W bs).getD r 0)) + (((rot ((stN ks (W bs) hh r).getD 0 0) 2 ^^^ rot ((stN ks (W bs) hh r).getD 0 0) 13) ^^^ rot ((stN ks (W bs) hh r).getD 0 0) 22) + (((((stN ks (W bs) hh r).getD 0 0) &&& ((stN ks (W bs) hh r).getD 1 0)) ^^^ (((stN ks (W bs) hh r).getD 0 0) &&& ((stN ks (W bs) hh r).getD 2 0))) ^^^ (((stN ks (W bs) hh r).getD 1 0) &&& ((stN ks (W bs) hh r).getD 2 0))))))) rfl rfl (b32_add ((((((stN ks (W bs) hh r).getD 7 0) + ((rot ((stN ks (W bs) hh r).getD 4 0) 6 ^^^ rot ((stN ks (W bs) hh r).getD 4 0) 11) ^^^ rot ((stN ks (W bs) hh r).getD 4 0) 25)) + ((((stN ks (W bs) hh r).getD 4 0) &&& ((stN ks (W bs) hh r).getD 5 0)) ^^^ ((~~~((stN ks (W bs) hh r).getD 4 0)) &&& ((stN ks (W bs) hh r).getD 6 0)))) + (ks.getD r 0)) + ((W bs).getD r 0)) (((rot ((stN ks (W bs) hh r).getD 0 0) 2 ^^^ rot ((stN ks (W bs) hh r).getD 0 0) 13) ^^^ rot ((stN ks (W bs) hh r).getD 0 0) 22) + (((((stN ks (W bs) hh r).getD 0 0) &&& ((stN ks (W bs) hh r).getD 1 0)) ^^^ (((stN ks (W bs) hh r).getD 0 0) &&& ((stN ks (W bs) hh r).getD 2 0))) ^^^ (((stN ks (W bs) hh r).getD 1 0) &&& ((stN ks (W bs) hh r).getD 2 0)))))) ?_
        refine WL.q (Wn.no rfl) rfl rfl (R.move (v := (vu32 ((stN ks (W bs) hh r).getD 0 0))) rfl) ?_
        refine WL.q (Wn.no rfl) rfl rfl (R.move (v := (vu32 ((stN ks (W bs) hh r).getD 1 0))) rfl) ?_
        refine WL.q (Wn.no rfl) rfl rfl (R.move (v := (vu32 ((stN ks (W bs) hh r).getD 2 0))) rfl) ?_
        refine WL.q (Wn.no rfl) rfl rfl (R.move (v := (vu32 ((stN ks (W bs) hh r).getD 3 0))) rfl) ?_
        refine WL.q (Wn.no rfl) rfl rfl (R.move (v := (vu32 ((((((stN ks (W bs) hh r).getD 7 0) + ((rot ((stN ks (W bs) hh r).getD 4 0) 6 ^^^ rot ((stN ks (W bs) hh r).getD 4 0) 11) ^^^ rot ((stN ks (W bs) hh r).getD 4 0) 25)) + ((((stN ks (W bs) hh r).getD 4 0) &&& ((stN ks (W bs) hh r).getD 5 0)) ^^^ ((~~~((stN ks (W bs) hh r).getD 4 0)) &&& ((stN ks (W bs) hh r).getD 6 0)))) + (ks.getD r 0)) + ((W bs).getD r 0)))) rfl) ?_
        refine WL.q (Wn.no rfl) rfl rfl (R.bin (v := (vu32 (((stN ks (W bs) hh r).getD 3 0) + ((((((stN ks (W bs) hh r).getD 7 0) + ((rot ((stN ks (W bs) hh r).getD 4 0) 6 ^^^ rot ((stN ks (W bs) hh r).getD 4 0) 11) ^^^ rot ((stN ks (W bs) hh r).getD 4 0) 25)) + ((((stN ks (W bs) hh r).getD 4 0) &&& ((stN ks (W bs) hh r).getD 5 0)) ^^^ ((~~~((stN ks (W bs) hh r).getD 4 0)) &&& ((stN ks (W bs) hh r).getD 6 0)))) + (ks.getD r 0)) + ((W bs).getD r 0))))) rfl rfl (b32_add ((stN ks (W bs) hh r).getD 3 0) ((((((stN ks (W bs) hh r).getD 7 0) + ((rot ((stN ks (W bs) hh r).getD 4 0) 6 ^^^ rot ((stN ks (W bs) hh r).getD 4 0) 11) ^^^ rot ((stN ks (W bs) hh r).getD 4 0) 25)) + ((((stN ks (W bs) hh r).getD 4 0) &&& ((stN ks (W bs) hh r).getD 5 0)) ^^^ ((~~~((stN ks (W bs) hh r).getD 4 0)) &&& ((stN ks (W bs) hh r).getD 6 0)))) + (ks.getD r 0)) + ((W bs).getD r 0)))) ?_
        refine WL.q (Wn.no rfl) rfl rfl (R.move (v := (vu32 ((stN ks (W bs) hh r).getD 4 0))) rfl) ?_
        refine WL.q (Wn.no rfl) rfl rfl (R.move (v := (vu32 ((stN ks (W bs) hh r).getD 5 0))) rfl) ?_
        refine WL.q (Wn.no rfl) rfl rfl (R.move (v := (vu32 ((stN ks (W bs) hh r).getD 6 0))) rfl) ?_
        refine WL.q (Wn.no rfl) rfl rfl (R.assign (v := (vu32 (((((((stN ks (W bs) hh r).getD 7 0) + ((rot ((stN ks (W bs) hh r).getD 4 0) 6 ^^^ rot ((stN ks (W bs) hh r).getD 4 0) 11) ^^^ rot ((stN ks (W bs) hh r).getD 4 0) 25)) + ((((stN ks (W bs) hh r).getD 4 0) &&& ((stN ks (W bs) hh r).getD 5 0)) ^^^ ((~~~((stN ks (W bs) hh r).getD 4 0)) &&& ((stN ks (W bs) hh r).getD 6 0)))) + (ks.getD r 0)) + ((W bs).getD r 0)) + (((rot ((stN ks (W bs) hh r).getD 0 0) 2 ^^^ rot ((stN ks (W bs) hh r).getD 0 0) 13) ^^^ rot ((stN ks (W bs) hh r).getD 0 0) 22) + (((((stN ks (W bs) hh r).getD 0 0) &&& ((stN ks (W bs) hh r).getD 1 0)) ^^^ (((stN ks (W bs) hh r).getD 0 0) &&& ((stN ks (W bs) hh r).getD 2 0))) ^^^ (((stN ks (W bs) hh r).getD 1 0) &&& ((stN ks (W bs) hh r).getD 2 0))))))) rfl) ?_
        refine WL.q (Wn.no rfl) rfl rfl (R.assign (v := (vu32 ((stN ks (W bs) hh r).getD 0 0))) rfl) ?_
        refine WL.q (Wn.no rfl) rfl rfl (R.assign (v := (vu32 ((stN ks (W bs) hh r).getD 1 0))) rfl) ?_
        refine WL.q (Wn.no rfl) rfl rfl (R.assign (v := (vu32 ((stN ks (W bs) hh r).getD 2 0))) rfl) ?_
        refine WL.q (Wn.no rfl) rfl rfl (R.assign (v := (vu32 (((stN ks (W bs) hh r).getD 3 0) + ((((((stN ks (W bs) hh r).getD 7 0) + ((rot ((stN ks (W bs) hh r).getD 4 0) 6 ^^^ rot ((stN ks (W bs) hh r).getD 4 0) 11) ^^^ rot ((stN ks (W bs) hh r).getD 4 0) 25)) + ((((stN ks (W bs) hh r).getD 4 0) &&& ((stN ks (W bs) hh r).getD 5 0)) ^^^ ((~~~((stN ks (W bs) hh r).getD 4 0)) &&& ((stN ks (W bs) hh r).getD 6 0)))) + (ks.getD r 0)) + ((W bs).getD r 0))))) rfl) ?_
        refine WL.q (Wn.no rfl) rfl rfl (R.assign (v := (vu32 ((stN ks (W bs) hh r).getD 4 0))) rfl) ?_
        refine WL.q (Wn.no rfl) rfl rfl (R.assign (v := (vu32 ((stN ks (W bs) hh r).getD 5 0))) rfl) ?_
        refine WL.q (Wn.no rfl) rfl rfl (R.assign (v := (vu32 ((stN ks (W bs) hh r).getD 6 0))) rfl) ?_
        refine WL.nil ?_
        refine inb_n ?_
        refine thn_n ?_
        refine WP.reg ?_
        refine WL.q (Wn.no rfl) rfl rfl (R.bin (v := (vi ((r + 1 : Nat) : Int))) rfl rfl (bi_add (c := ((r + 1 : Nat) : Int)) (by omega) (by omega))) ?_
        refine WL.q (Wn.no rfl) rfl rfl (R.move (v := (vi ((r + 1 : Nat) : Int))) rfl) ?_
        refine WL.nil ?_
        refine thn_n ?_
        have h_132 := h_131.drop rfl
        have h_133 := h_132.drop rfl
        have h_134 := h_133.up (Pick.t (Pick.t (Pick.t (Pick.t Pick.h))))
        have h_135 := h_134.up (Pick.t (Pick.t (Pick.t (Pick.t Pick.h))))
        have h_136 := h_135.up (Pick.t (Pick.t (Pick.t (Pick.t Pick.h))))
        have h_137 := h_136.up (Pick.t (Pick.t (Pick.t (Pick.t Pick.h))))
        have h_138 := h_137.up (Pick.t (Pick.t (Pick.t (Pick.t Pick.h))))
        exact ⟨r + 1, _, (by omega), (Ag.upd rfl (Ag.upd rfl (Ag.upd rfl (Ag.upd rfl (Ag.upd rfl (Ag.upd rfl (Ag.upd rfl (Ag.upd rfl (Ag.upd rfl (Ag.upd rfl (Ag.upd rfl (Ag.upd rfl (Ag.upd rfl (Ag.upd rfl (Ag.upd rfl (Ag.upd rfl (Ag.upd rfl (Ag.upd rfl (Ag.upd rfl (Ag.upd rfl (Ag.upd rfl (Ag.upd rfl (Ag.upd rfl (Ag.upd rfl (Ag.upd rfl (Ag.upd rfl (Ag.upd rfl (Ag.upd rfl (Ag.upd rfl (Ag.upd rfl (Ag.upd rfl (Ag.upd rfl (Ag.upd rfl (Ag.upd rfl (Ag.upd rfl (Ag.upd rfl (Ag.upd rfl (Ag.upd rfl (Ag.upd rfl (Ag.upd rfl (Ag.upd rfl (Ag.upd rfl (Ag.upd rfl (Ag.upd rfl (Ag.upd rfl (Ag.upd rfl (Ag.upd rfl (Ag.upd rfl (Ag.upd rfl (Ag.upd rfl (Ag.upd rfl (Ag.upd rfl (Ag.upd rfl (Ag.upd rfl (Ag.upd rfl (Ag.upd rfl (Ag.upd rfl (Ag.upd rfl (Ag.upd rfl (Ag.upd rfl (Ag.upd rfl (Ag.upd rfl (Ag.upd rfl (Ag.upd rfl (Ag.upd rfl (Ag.upd rfl (Ag.updL rfl (Ag.mix _ _ _)))))))))))))))))))))))))))))))))))))))))))))))))))))))))))))))))))), ⟨congrArg (fun x : UInt32 => vu32 x) (st_0 ks (W bs) hh r).symm, congrArg (fun x : UInt32 => vu32 x) (st_1 ks (W bs) hh r).symm, congrArg (fun x : UInt32 => vu32 x) (st_2 ks (W bs) hh r).symm, congrArg (fun x : UInt32 => vu32 x) (st_3 ks (W bs) hh r).symm, congrArg (fun x : UInt32 => vu32 x) (st_4 ks (W bs) hh r).symm, congrArg (fun x : UInt32 => vu32 x) (st_5 ks (W bs) hh r).symm, congrArg (fun x : UInt32 => vu32 x) (st_6 ks (W bs) hh r).symm, congrArg (fun x : UInt32 => vu32 x) (st_7 ks (W bs) hh r).symm, rfl, trivial⟩, h_138, (by omega), rfl⟩
      · have p_139 := of_decide_eq_false c_115
        refine WP.exit ?_
        refine thn_x ?_
        refine thn_x ?_
        refine inb_hit ?_
        refine thn_n ?_
        refine WP.seq ?_
        refine WP.seq ?_
        refine WP.reg ?_
        refine WL.q (Wn.no rfl) rfl rfl (R.move (v := (vu32 ((stN ks (W bs) hh r).getD 0 0))) rfl) ?_
        refine WL.q (Wn.no rfl) rfl rfl (R.move (v := (vu32 ((stN ks (W bs) hh r).getD 1 0))) rfl) ?_
        refine WL.q (Wn.no rfl) rfl rfl (R.move (v := (vu32 ((stN ks (W bs) hh r).getD 2 0))) rfl) ?_
        refine WL.q (Wn.no rfl) rfl rfl (R.move (v := (vu32 ((stN ks (W bs) hh r).getD 3 0))) rfl) ?_
        refine WL.q (Wn.no rfl) rfl rfl (R.move (v := (vu32 ((stN ks (W bs) hh r).getD 4 0))) rfl) ?_
        refine WL.q (Wn.no rfl) rfl rfl (R.move (v := (vu32 ((stN ks (W bs) hh r).getD 5 0))) rfl) ?_
        refine WL.q (Wn.no rfl) rfl rfl (R.move (v := (vu32 ((stN ks (W bs) hh r).getD 6 0))) rfl) ?_
        refine WL.q (Wn.no rfl) rfl rfl (R.move (v := (vu32 ((stN ks (W bs) hh r).getD 7 0))) rfl) ?_
        refine WL.q (Wn.no rfl) rfl rfl (R.buildA (vs := [(0, (vu32 ((stN ks (W bs) hh r).getD 0 0))), (1, (vu32 ((stN ks (W bs) hh r).getD 1 0))), (2, (vu32 ((stN ks (W bs) hh r).getD 2 0))), (3, (vu32 ((stN ks (W bs) hh r).getD 3 0))), (4, (vu32 ((stN ks (W bs) hh r).getD 4 0))), (5, (vu32 ((stN ks (W bs) hh r).getD 5 0))), (6, (vu32 ((stN ks (W bs) hh r).getD 6 0))), (7, (vu32 ((stN ks (W bs) hh r).getD 7 0)))]) (cs := ([(stN ks (W bs) hh r).getD 0 0, (stN ks (W bs) hh r).getD 1 0, (stN ks (W bs) hh r).getD 2 0, (stN ks (W bs) hh r).getD 3 0, (stN ks (W bs) hh r).getD 4 0, (stN ks (W bs) hh r).getD 5 0, (stN ks (W bs) hh r).getD 6 0, (stN ks (W bs) hh r).getD 7 0] : List UInt32).map vu32) Try.underlying172 Try.sizeOf170 (zv Try.typeInfo172 rfl) rfl (fill8 rfl _ _ _ _ _ _ _ _)) ?_
        refine WL.q (Wn.no rfl) rfl rfl (R.move (v := (vi 0)) rfl) ?_
        refine WL.nil ?_
        refine thn_n ?_
        refine WP.block ?_
        have hr64 : r = 64 := by omega
        subst hr64
        refine WP.loopG (G := Nat) [26, 27, 167, 168, 169, 170, 171, 172, 173, 174, 175, 176, 177] (fun q => [(167, (vi ((q : Nat) : Int)))]) (fun q m w1 => HP w w1 [.blk b_10 .nw 171 [(64, (W bs).map vu32)], .blk b_7 .nw 172 [(8, (List.replicate 8 (0 : UInt32)).map vu32)], .blk b_4 .nw 171 [(64, ks.map vu32)], .blk b_1 .nw 172 [(8, (mix (pressL ks hh bs) hh q).map vu32)], .view a (bs.map vu8)] ∧ (q ≤ 8) ∧ m = 8 - q) ⟨0, _, ⟨rfl, trivial⟩, (by rw [mix_0]; exact h_112), (by omega), rfl⟩ ?_
        rintro q m_142 J_143 w_140 ⟨h_141, hq, rfl⟩
        refine WP.seq ?_
        refine WP.reg ?_
        refine WL.q (Wn.no rfl) rfl rfl (R.bin (v := (.bool (decide ((((q : Nat) : Int) : Int) < 8)))) rfl rfl (bi_lss (r := decide ((((q : Nat) : Int) : Int) < 8)) rfl)) ?_
        refine WL.nil ?_
        refine thn_n ?_
        refine WP.seq ?_
        refine WP.cond (b := decide ((((q : Nat) : Int) : Int) < 8)) rfl (fun c_144 => ?_) (fun c_144 => ?_)
        · have p_145 := of_decide_eq_true c_144
          refine WP.skip ?_
          refine thn_n ?_
          refine WP.seq ?_
          refine WP.block ?_
          refine WP.seq ?_
          refine WP.reg ?_
          refine WL.q (Wn.no rfl) rfl rfl (R.move (v := (vi ((q : Nat) : Int))) rfl) ?_
          refine WL.q (Wn.no rfl) rfl rfl (R.indexV (i := q) (cs := (stN ks (W bs) hh 64).map vu32) (v := (vu32 ((stN ks (W bs) hh 64).getD q 0))) (congrArg (fun l : List UInt32 => Value.agg ⟨l.map vu32⟩) (eight32 (stN_len (K := ks) (V := W bs) hhl 64))) rfl rfl (by omega) Try.underlying172 Try.isAgg170 Try.sizeOf170 (get_u32 (lt_len (K := 8) (stN_len hhl 64) (by omega)))) ?_
          refine WL.q (Wn.no rfl) rfl rfl (R.assign (v := (vi ((q : Nat) : Int))) rfl) ?_
          refine WL.q (Wn.no rfl) rfl rfl (R.assign (v := (vu32 ((stN ks (W bs) hh 64).getD q 0))) rfl) ?_
          refine WL.nil ?_
          refine thn_n ?_
          refine WP.reg ?_
          refine WL.q (Wn.no rfl) rfl rfl (R.move (v := (vi ((q : Nat) : Int))) rfl) ?_
          refine WL.q (Wn.no rfl) rfl rfl (R.indexA (b := b_1) (off := 0) (off' := (0 + q)) (i := q) rfl rfl rfl (by omega) Try.underlying172 Try.sizeOf170 (by rw [Nat.mul_one])) ?_
          refine WL.q (Wn.no rfl) rfl rfl (R.loadE (b := b_1) (off := (0 + q)) (i := q) (v := (vu32 ((mix (pressL ks hh bs) hh q).getD q 0))) rfl Try.isAgg170 (h_141.ok _ (.tail _ (.tail _ (.tail _ (.head _))))) Sg.h rfl (get_u32 (lt_len (K := 8) (mix_len (pressL_len ..) hhl) (by omega)))) ?_
          refine WL.q (Wn.no rfl) rfl rfl (R.move (v := (vu32 ((stN ks (W bs) hh 64).getD q 0))) rfl) ?_
          refine WL.q (Wn.no rfl) rfl rfl (R.bin (v := (vu32 (((mix (pressL ks hh bs) hh q).getD q 0) + ((stN ks (W bs) hh 64).getD q 0)))) rfl rfl (b32_add ((mix (pressL ks hh bs) hh q).getD q 0) ((stN ks (W bs) hh 64).getD q 0))) ?_
          refine WL.q (Wn.no rfl) rfl rfl (R.indexA (b := b_1) (off := 0) (off' := (0 + q)) (i := q) rfl rfl rfl (by omega) Try.underlying172 Try.sizeOf170 (by rw [Nat.mul_one])) ?_
          refine WL.storeE (b := b_1) (off := (0 + q)) (i := q) (v := (vu32 (((mix (pressL ks hh bs) hh q).getD q 0) + ((stN ks (W bs) hh 64).getD q 0)))) (cs' := ((mix (pressL ks hh bs) hh q).set q (((mix (pressL ks hh bs) hh q).getD q 0) + ((stN ks (W bs) hh 64).getD q 0))).map vu32) h_141 rfl rfl Try.sizeOf170 rfl (At.t (At.t (At.t At.h))) (by decide) Sg.h rfl (lt_len (K := 8) (len_map (mix_len (pressL_len ..) hhl)) (by omega)) (set_u32 _ _ _) (fun w_146 h_147 => ?_)
          refine WL.nil ?_
          refine inb_n ?_
          refine thn_n ?_
          refine WP.reg ?_
          refine WL.q (Wn.no rfl) rfl rfl (R.bin (v := (vi ((q + 1 : Nat) : Int))) rfl rfl (bi_add (c := ((q + 1 : Nat) : Int)) (by omega) (by omega))) ?_
          refine WL.q (Wn.no rfl) rfl rfl (R.move (v := (vi ((q + 1 : Nat) : Int))) rfl) ?_
          refine WL.nil ?_
          refine thn_n ?_
          have h_148 := h_147.up (Pick.t (Pick.t (Pick.t (Pick.t Pick.h))))
          have h_149 := h_148.up (Pick.t (Pick.t (Pick.t (Pick.t Pick.h))))
          have h_150 := h_149.up (Pick.t (Pick.t (Pick.t (Pick.t Pick.h))))
          have h_151 := h_150.up (Pick.t (Pick.t (Pick.t (Pick.t Pick.h))))
          have h_152 := h_151.up (Pick.t (Pick.t (Pick.t (Pick.t Pick.h))))
          rw [pr_step hhl (by omega)] at h_152
          exact ⟨q + 1, _, (by omega), (Ag.upd rfl (Ag.upd rfl (Ag.upd rfl (Ag.upd rfl (Ag.upd rfl (Ag.upd rfl (Ag.upd rfl (Ag.upd rfl (Ag.upd rfl (Ag.upd rfl (Ag.upd rfl (Ag.upd rfl (Ag.upd rfl (Ag.updL rfl (Ag.mix _ _ _))))))))))))))), ⟨rfl, trivial⟩, h_152, (by omega), rfl⟩
        · have p_153 := of_decide_eq_false c_144
          refine WP.exit ?_
          refine thn_x ?_
          refine thn_x ?_
          refine inb_hit ?_
          refine thn_n ?_
          refine WP.seq ?_
          refine WP.reg ?_
          refine WL.q (Wn.no rfl) rfl rfl (R.loadA (b := b_1) (off := 0) [] [(8, (mix (pressL ks hh bs) hh q).map vu32)] [] (cs := (mix (pressL ks hh bs) hh q).map vu32) rfl Try.isAgg172 Try.sizeOf172 (h_141.ok _ (.tail _ (.tail _ (.tail _ (.head _))))) rfl rfl rfl rfl) ?_
          refine WL.storeA (b := b_7) (off := 0) [] [(8, (List.replicate 8 (0 : UInt32)).map vu32)] [(8, (mix (pressL ks hh bs) hh q).map vu32)] [] (ys := (mix (pressL ks hh bs) hh q).map vu32) h_141 rfl rfl Try.sizeOf172 (At.t At.h) (by decide) rfl rfl rfl rfl rfl rfl (SsOk.cons (SOk.u32 (mix_len (pressL_len ..) hhl)) SsOk.nil) (fun w_154 h_155 => ?_)
          refine WL.nil ?_
          refine thn_n ?_
          refine WP.ret ?_
          refine ret_of Try.results110 (RV.cell rfl (h_155.loadA (cs := (mix (pressL ks hh bs) hh q).map vu32) Try.isAgg172 Try.sizeOf172 (.tail _ (.head _)) rfl rfl) RV.nil) ?_
          have hq8 : q = 8 := by omega
          subst hq8
          exact ⟨by rw [pr_all hhl]; rfl, h_155.chgS⟩
end Go.Proofs.Ytnhppjimimhlkaa

namespace Go.Sh
open Go.Vc
def stH (m : List UInt8) : List UInt32 := hs kL hL m (m.length / 64)
def rsL (m : List UInt8) : List UInt8 := m.drop (64 * (m.length / 64))
theorem stH_len (m : List UInt8) : (stH m).length = 8 := hs_len hL_len _
theorem rsL_len (m : List UInt8) : (rsL m).length = m.length % 64 := by rw [rsL, List.length_drop]; omega
def HashAt (B : Nat) (w : World) (b : Nat) (T : TypeId) (m : List UInt8) : Prop :=
  ∃ (ra : Option Addr) (rn rc : Nat), CellsAt w b T (flat [(64, kL.map vu32), (8, (stH m).map vu32), (1, [.slice ra rn rc]), (1, [vi ((m.length : Nat) : Int)]), (1, [.bool true])]) ∧ View w ra ((rsL m).map vu8) ∧ (rsL m).length = rn ∧ rn ≤ rc ∧ (∀ x ∈ (Ent.view ra ((rsL m).map vu8)).blocks, B ≤ x ∧ x ≠ b)
theorem Sep_off {a : Option Addr} {xs : List Value} {b : Nat} {m : Md} {T : TypeId} {segs : List Sgm} (hm : m ≠ .ro) (h : Sep (.view a xs) (.blk b m T segs)) : ∀ x ∈ (Ent.view a xs).blocks, x ≠ b := by
  intro x hx e
  refine h (.inr ?_) x hx ?_
  · cases m <;> first | rfl | exact absurd rfl hm
  · rw [e]; exact List.mem_singleton.2 rfl
theorem Sep_offRow {a : Option Addr} {xs : List Value} {b k cap s : Nat} {m : Md} {E T : TypeId} {segs : List Sgm} (h : Sep (.row a k cap E s xs) (.blk b m T segs)) : ∀ x ∈ (Ent.view a xs).blocks, x ≠ b := by
  intro x hx e
  refine h (.inl rfl) x (row_view x hx) ?_
  rw [e]; exact List.mem_singleton.2 rfl
theorem off_Sep {a : Option Addr} {xs : List Value} {b : Nat} {m : Md} {T : TypeId} {segs : List Sgm} (h : ∀ x ∈ (Ent.view a xs).blocks, x ≠ b) : Sep (.blk b m T segs) (.view a xs) := by
  intro _ x hx hb
  rw [List.mem_singleton.1 hx] at hb
  exact h b hb rfl
section
variable {w w' w0 : World} {L : List Ent}
theorem HP_three {b : Nat} {T : TypeId} {segs : List Sgm} {a a2 : Option Addr} {xs ys : List Value} (hb : (Ent.blk b .ar T segs).ok w.heap.size w) (h1 : View w a xs) (h2 : View w a2 ys) (o1 : ∀ x ∈ (Ent.view a xs).blocks, x ≠ b) (o2 : ∀ x ∈ (Ent.view a2 ys).blocks, x ≠ b) : HP w w [.blk b .ar T segs, .view a xs, .view a2 ys] := by
  have e1 := ((HP.init w).oldV (View.arg h2) rfl (fun f hf => by cases hf)).oldV (View.arg h1) rfl (by simp [Ent.mut])
  refine e1.old hb fun f hf => ?_
  rcases List.mem_cons.1 hf with rfl | hf
  · exact off_Sep o1
  · rw [List.mem_singleton] at hf; subst hf; exact off_Sep o2
theorem HP_gotHash {b : Nat} {T : TypeId} {segs : List Sgm} {a : Option Addr} {xs : List Value} (h : HP w0 w L) (hc : Chg w w' []) (hb : w.heap.size ≤ b) (hok : SsOk segs) (hcells : CellsAt w' b T (flat segs)) (hv : View w' a xs) (hf : ∀ x ∈ (Ent.view a xs).blocks, w.heap.size ≤ x ∧ x ≠ b) :
    HP w0 w' (.blk b .nw T segs :: .view a xs :: L) := by
  have h1 := h.push hc (e := .view a xs) (View.arg hv) rfl (fun x hx => (hf x hx).1)
  refine h1.add ⟨hok, hcells, Nat.le_trans h.size hb⟩ rfl fun f hf2 => ?_
  rcases List.mem_cons.1 hf2 with rfl | hf2
  · exact off_Sep fun x hx => (hf x hx).2
  · intro _ x hx hxf
    rw [List.mem_singleton.1 hx] at hxf
    have := Ent.lt (h.ok f hf2) b hxf
    omega
theorem HP_passedHash {b : Nat} {m : Md} {T : TypeId} {segs segs' : List Sgm} {a : Option Addr} {xs : List Value} (h : HP w0 w (.blk b m T segs :: L)) (hm : m ≠ .ro) (hc : Chg w w' [b]) (hok : SsOk segs') (hcells : CellsAt w' b T (flat segs')) (hv : View w' a xs) (hf : ∀ x ∈ (Ent.view a xs).blocks, w.heap.size ≤ x ∧ x ≠ b) :
    HP w0 w' (.view a xs :: .blk b m T segs' :: L) := by
  have h1 := h.passed (segs' := segs') .h hm hc hok hcells
  refine h1.add (View.arg hv) rfl fun f hf2 => ?_
  rcases List.mem_cons.1 hf2 with rfl | hf2
  · intro _ x hx hxb
    exact (hf x hx).2 (List.mem_singleton.1 hxb)
  · intro _ x hx hxf
    have := Ent.lt (h.ok f (List.mem_cons_of_mem _ hf2)) x hxf
    have := (hf x hx).1
    omega
end
theorem wr_0 (m bs : List UInt8) : stH m = hs kL hL (m ++ bs) (m.length / 64) := (hs_app _ (by omega)).symm
theorem wr_r (m bs : List UInt8) : [rsL m, bs].flatten = (m ++ bs).drop (64 * (m.length / 64)) := by
  rw [rsL, List.drop_append_of_le_length (by omega)]; simp
theorem wr_step {M : List UInt8} {k n : Nat} (hn : n = 64) : pressL kL (hs kL hL M k) (((M.drop (64 * k)).drop 0).take n) = hs kL hL M (k + 1) := by
  subst hn; rw [List.drop_zero]; rfl
theorem wr_drop (M : List UInt8) (k : Nat) : (M.drop (64 * k)).drop 64 = M.drop (64 * (k + 1)) := by
  rw [List.drop_drop]; congr 1
theorem mix_ovr {α : Type} {p h c : List α} {n i k : Nat} (hp : p.length = n) (hc : c = (p.drop i).take k) (hi : i + k ≤ n) : ovr (mix p h i) i c = mix p h (i + k) := by
  have h1 : (p.take i).length = i := by rw [List.length_take]; omega
  have h2 : ((p.drop i).take k).length = k := by rw [List.length_take, List.length_drop]; omega
  subst hc
  rw [ovr, mix, mix, h2, List.take_append_of_le_length (by omega), List.take_take, Nat.min_self, List.drop_append, h1, List.drop_drop]
  have e : (p.take i).drop (i + k) = [] := List.drop_of_length_le (by omega)
  rw [e, List.nil_append, ← List.append_assoc, List.take_add]
  congr 2; omega
theorem dig_ovr {h : List UInt32} {i : Nat} (hi : i < 8) (x : UInt32) (hx : x = h.getD i 0) : ovr (mix (digL h) (List.replicate 32 0) (4 * i)) (4 * i) (leN 4 (UInt64.ofNat x.toNat).toNat).reverse = mix (digL h) (List.replicate 32 0) (4 * (i + 1)) := by
  have hl := x.toNat_lt
  rw [nat64 (by omega), hx]
  exact mix_ovr (digL_len h) (dig_word hi).symm (by omega)
theorem sum_dig (m : List UInt8) : digL (stH (m ++ padL m.length)) = sumL m := rfl
end Go.Sh

namespace Go.Proofs.Ytnhppjimimhlkaa
open Go.Vc Go.Sh Go.RowKit
set_option maxRecDepth 20000

theorem c_padding (n : Nat) (hn : n ≤ 1099511627776) (w : World) :
    Cs Try.prog 112 [(vi ((n : Nat) : Int))].toArray w (fun v w1 => ∃ a cap, v = .slice a (padL n).length cap ∧ Chg w w1 [] ∧ Own w.heap.size w1 5 1 a (padL n).length cap ((padL n).map vu8)) := by
  refine Cs.of (n := 23) (args := [(vi ((n : Nat) : Int))]) Try.func112 rfl rfl rfl ?_
  have h_0 := HP.init w
  refine WP.seq ?_
  refine WP.reg ?_
  refine WL.q (Wn.no rfl) rfl rfl (R.assign (v := (.slice none 0 0)) rfl) ?_
  refine WL.nil ?_
  refine thn_n ?_
  refine WP.seq ?_
  refine WP.reg ?_
  refine WL.buildSl (vs := [(0, (vu8 128))]) (cs := ([128] : List UInt8).map vu8) h_0 Try.underlying37 Try.sizeOf5 (zv Try.typeInfo5 rfl) rfl rfl (by kernel_rfl) rfl (one_u8 _) rfl rfl (fun b_1 w_2 h_3 => ?_)
  refine WL.q (Wn.no rfl) rfl rfl (R.move (v := (vi ((n : Nat) : Int))) rfl) ?_
  refine WL.q (Wn.no rfl) rfl rfl (R.bin (v := (vi ((n % 64 : Nat) : Int))) rfl rfl (bi_rem (c := ((n % 64 : Nat) : Int)) (Int.natCast_nonneg _) (by omega) (by first | omega | rfl))) ?_
  refine WL.q (Wn.no rfl) rfl rfl (R.bin (v := (vi ((119 - (n % 64) : Nat) : Int))) rfl rfl (bi_sub (c := ((119 - (n % 64) : Nat) : Int)) (by omega) (by omega))) ?_
  refine WL.q (Wn.no rfl) rfl rfl (R.bin (v := (vi (((119 - (n % 64)) % 64 : Nat) : Int))) rfl rfl (bi_rem (c := (((119 - (n % 64)) % 64 : Nat) : Int)) (Int.natCast_nonneg _) (by omega) (by first | omega | rfl))) ?_
  have h_4 := HP.blkRow (m := 1) (s := 1) h_3 At.h rfl (by simp only [maxLen]; decide)
  refine WL.appendZ (i := Try.t5) (m := (119 - (n % 64)) % 64) (km := 1 + ((119 - (n % 64)) % 64)) (xs := ([128] : List UInt8).map vu8) (zs := (([128] : List UInt8) ++ List.replicate ((119 - (n % 64)) % 64) (0 : UInt8)).map vu8) h_4 rfl rfl Try.underlying37 Try.underlying3 rfl rfl rfl rfl (by simp only [List.map_append, List.map_replicate, List.map_nil]) (by omega) (by omega) (fun _ _ => At.h) rfl (fun a_5 c_6 w_7 h_8 => ?_)
  refine WL.q (Wn.no rfl) rfl rfl (R.assign (v := (.slice a_5 (1 + ((119 - (n % 64)) % 64)) c_6)) rfl) ?_
  refine WL.nil ?_
  refine thn_n ?_
  refine WP.seq ?_
  refine WP.reg ?_
  refine WL.q (Wn.no rfl) rfl rfl (R.move (v := (vi ((n : Nat) : Int))) rfl) ?_
  refine WL.q (Wn.no rfl) rfl rfl (R.conv (b := ((UInt64.ofNat n) : UInt64).toNat) rfl Try.underlying3 Try.underlying28 (w64_nat n)) ?_
  refine WL.q (Wn.no rfl) rfl rfl (R.bin (v := (vu64 (UInt64.ofNat (n * 8)))) rfl rfl ((b64_mul (UInt64.ofNat n) 8).trans (congrArg (fun x : UInt64 => some (vu64 x)) (mul8 n)))) ?_
  refine WL.call (al := [(vu64 (UInt64.ofNat (n * 8))), (vi 8)]) Try.call76 rfl rfl (c_Put_b (UInt64.ofNat (n * 8)) 8 rfl _) rfl ?_
  rintro _ w_11 ⟨a_9, cap_10, rfl, hc_12, ho_13⟩
  have h_14 := h_8.gotRow hc_12 ho_13
  refine WL.q (Wn.no rfl) rfl rfl (R.move (v := (.tuple [(.slice a_9 8 cap_10), (vi 0)].toArray)) rfl) ?_
  refine WL.q (Wn.no rfl) rfl rfl (R.extract (l := [(.slice a_9 8 cap_10), (vi 0)]) (v := (.slice a_9 8 cap_10)) rfl rfl) ?_
  refine WL.q (Wn.no rfl) rfl rfl (R.extract (l := [(.slice a_9 8 cap_10), (vi 0)]) (v := (vi 0)) rfl rfl) ?_
  refine WL.q (Wn.no rfl) rfl rfl (R.assign (v := (.slice a_9 8 cap_10)) rfl) ?_
  refine WL.q (Wn.no rfl) rfl rfl (R.assign (v := (vi 0)) rfl) ?_
  refine WL.nil ?_
  refine thn_n ?_
  refine WP.seq ?_
  refine WP.reg ?_
  refine WL.q (Wn.no rfl) rfl rfl (R.move (v := (.slice a_5 (1 + ((119 - (n % 64)) % 64)) c_6)) rfl) ?_
  refine WL.q (Wn.no rfl) rfl rfl (R.move (v := (.slice a_9 8 cap_10)) rfl) ?_
  refine WL.call (al := [(.slice a_9 8 cap_10)]) Try.call113 rfl rfl (c_Turned a_9 8 cap_10 (leN 8 (UInt64.ofNat (n * 8)).toNat) (leN_len ..) (by omega) _ (ownView (h_14.ok _ (.head _)))) rfl ?_
  rintro _ w_17 ⟨a_15, cap_16, rfl, hc_18, ho_19⟩
  have h_20 := h_14.gotRow hc_18 ho_19
  refine WL.append (km := (1 + ((119 - (n % 64)) % 64)) + 8) (xs := (([128] : List UInt8) ++ List.replicate ((119 - (n % 64)) % 64) (0 : UInt8)).map vu8) (ys := ((leN 8 (UInt64.ofNat (n * 8)).toNat).reverse).map vu8) (zs := ((([128] : List UInt8) ++ List.replicate ((119 - (n % 64)) % 64) (0 : UInt8)) ++ ((leN 8 (UInt64.ofNat (n * 8)).toNat).reverse)).map vu8) h_20 rfl rfl el37 (ownView (h_20.ok _ (.head _))) ((len_map ((List.length_reverse ..).trans (leN_len ..))).trans (Nat.mul_one _).symm) (one_u8 _) (by simp only [List.map_append, List.map_nil]) (by omega) (by omega) (by omega) (fun _ _ => (At.t (At.t At.h))) rfl (fun a_21 c_22 w_23 h_24 => ?_)
  refine WL.q (Wn.no rfl) rfl rfl (R.assign (v := (.slice a_21 ((1 + ((119 - (n % 64)) % 64)) + 8) c_22)) rfl) ?_
  refine WL.nil ?_
  refine thn_n ?_
  refine WP.ret ?_
  refine ret_of Try.results112 (RV.tmp (v := (.slice a_21 ((1 + ((119 - (n % 64)) % 64)) + 8) c_22)) rfl RV.nil) ?_
  have es : (([128] : List UInt8) ++ List.replicate ((119 - (n % 64)) % 64) (0 : UInt8)) ++ ((leN 8 (UInt64.ofNat (n * 8)).toNat).reverse) = padL n := pad_P (by omega)
  have el : (1 + ((119 - (n % 64)) % 64)) + 8 = (padL n).length := by have hq := padL_len n; omega
  have hown := h_24.own (.tail _ (.tail _ (.head _)))
  rw [el, es] at hown
  exact ⟨_, _, by rw [el]; rfl, h_24.chgS, hown⟩

end Go.Proofs.Ytnhppjimimhlkaa

namespace Go.Proofs.Ytnhppjimimhlkaa
open Go.Vc Go.Sh Go.RowKit
set_option maxRecDepth 20000
theorem pl176 : ∀ fs, Try.prog.underlying 176 = some (.struct fs) → Places Try.prog fs [(0, 64), (64, 8), (72, 1), (73, 1), (74, 1)] := by
  intro fs h w; rw [Try.underlying176] at h; cases h; simp
theorem c_New  (w : World) :
    Cs Try.prog 97 [].toArray w (fun v w1 => ∃ b, v = .pointer (some ⟨b, 0, none⟩) ∧ Chg w w1 [] ∧ w.heap.size ≤ b ∧ HashAt w.heap.size w1 b 176 []) := by
  refine Cs.of (n := 11) (args := []) Try.func97 rfl rfl rfl ?_
  have h_0 := HP.init w
  refine WP.seq ?_
  refine WP.reg ?_
  refine WL.q (Wn.no rfl) rfl rfl (R.assign (v := (.pointer none)) rfl) ?_
  refine WL.nil ?_
  refine thn_n ?_
  refine WP.seq ?_
  refine WP.reg ?_
  refine WL.call (al := []) Try.call108 rfl rfl (c_tables  _ ) rfl ?_
  rintro _ w_2 ⟨rfl, hc_1⟩
  have h_3 := h_0.same hc_1
  refine WL.q (Wn.no rfl) rfl rfl (R.move (v := (.tuple [(.agg ⟨kL.map vu32⟩), (.agg ⟨hL.map vu32⟩)].toArray)) rfl) ?_
  refine WL.q (Wn.no rfl) rfl rfl (R.extract (l := [(.agg ⟨kL.map vu32⟩), (.agg ⟨hL.map vu32⟩)]) (v := (.agg ⟨kL.map vu32⟩)) rfl rfl) ?_
  refine WL.q (Wn.no rfl) rfl rfl (R.extract (l := [(.agg ⟨kL.map vu32⟩), (.agg ⟨hL.map vu32⟩)]) (v := (.agg ⟨hL.map vu32⟩)) rfl rfl) ?_
  refine WL.alloc (segs := [(64, (List.replicate 64 (0 : UInt32)).map vu32)]) h_3 (zv Try.typeInfo171 rfl) rfl (SsOk.cons (SOk.u32 (List.length_replicate ..)) SsOk.nil) rfl (fun b_4 w_5 h_6 => ?_)
  refine WL.alloc (segs := [(8, (List.replicate 8 (0 : UInt32)).map vu32)]) h_6 (zv Try.typeInfo172 rfl) rfl (SsOk.cons (SOk.u32 (List.length_replicate ..)) SsOk.nil) rfl (fun b_7 w_8 h_9 => ?_)
  refine WL.storeA (b := b_4) (off := 0) [] [(64, (List.replicate 64 (0 : UInt32)).map vu32)] [(64, kL.map vu32)] [] (ys := kL.map vu32) h_9 rfl rfl Try.sizeOf171 (At.t At.h) (by decide) rfl rfl rfl rfl rfl rfl (SsOk.cons (SOk.u32 kL_len) SsOk.nil) (fun w_10 h_11 => ?_)
  refine WL.storeA (b := b_7) (off := 0) [] [(8, (List.replicate 8 (0 : UInt32)).map vu32)] [(8, hL.map vu32)] [] (ys := hL.map vu32) h_11 rfl rfl Try.sizeOf172 At.h (by decide) rfl rfl rfl rfl rfl rfl (SsOk.cons (SOk.u32 hL_len) SsOk.nil) (fun w_12 h_13 => ?_)
  refine WL.nil ?_
  refine thn_n ?_
  refine WP.seq ?_
  refine WP.reg ?_
  refine WL.q (Wn.no rfl) rfl rfl (R.loadA (b := b_4) (off := 0) [] [(64, kL.map vu32)] [] (cs := kL.map vu32) rfl Try.isAgg171 Try.sizeOf171 (h_13.ok _ (.tail _ (.head _))) rfl rfl rfl rfl) ?_
  refine WL.q (Wn.no rfl) rfl rfl (R.loadA (b := b_7) (off := 0) [] [(8, hL.map vu32)] [] (cs := hL.map vu32) rfl Try.isAgg172 Try.sizeOf172 (h_13.ok _ (.head _)) rfl rfl rfl rfl) ?_
  refine WL.q (Wn.no rfl) rfl rfl (R.buildS (pl := [(0, 64), (64, 8), (72, 1), (73, 1), (74, 1)]) (zs := [(64, (List.replicate 64 (0 : UInt32)).map vu32), (8, (List.replicate 8 (0 : UInt32)).map vu32), (1, [(.slice none 0 0)]), (1, [(vi 0)]), (1, [(.bool false)])]) (vs := [(0, (.agg ⟨kL.map vu32⟩)), (1, (.agg ⟨hL.map vu32⟩)), (4, (.bool true))]) (out := [(64, kL.map vu32), (8, hL.map vu32), (1, [(.slice none 0 0)]), (1, [(vi 0)]), (1, [(.bool true)])]) (cs := flat [(64, kL.map vu32), (8, hL.map vu32), (1, [(.slice none 0 0)]), (1, [(vi 0)]), (1, [(.bool true)])]) Try.underlying176 (zv Try.typeInfo176 rfl) rfl (SsOk.cons (SOk.u32 (List.length_replicate ..)) (SsOk.cons (SOk.u32 (List.length_replicate ..)) (SsOk.cons (SOk.v rfl) (SsOk.cons (SOk.v rfl) (SsOk.cons (SOk.v rfl) SsOk.nil))))) (pl176 _ Try.underlying176) rfl (FillR.cons [] [(64, (List.replicate 64 (0 : UInt32)).map vu32)] [(64, kL.map vu32)] [(8, (List.replicate 8 (0 : UInt32)).map vu32), (1, [(.slice none 0 0)]), (1, [(vi 0)]), (1, [(.bool false)])] rfl rfl rfl rfl (SsOk.cons (SOk.u32 kL_len) SsOk.nil) rfl rfl rfl (FillR.cons [(64, kL.map vu32)] [(8, (List.replicate 8 (0 : UInt32)).map vu32)] [(8, hL.map vu32)] [(1, [(.slice none 0 0)]), (1, [(vi 0)]), (1, [(.bool false)])] rfl rfl rfl rfl (SsOk.cons (SOk.u32 hL_len) SsOk.nil) rfl rfl rfl (FillR.cons [(64, kL.map vu32), (8, hL.map vu32), (1, [(.slice none 0 0)]), (1, [(vi 0)])] [(1, [(.bool false)])] [(1, [(.bool true)])] [] rfl rfl rfl rfl (SsOk.cons (SOk.v rfl) SsOk.nil) rfl rfl rfl FillR.nil))) rfl) ?_
  refine WL.box (v := (.agg ⟨flat [(64, kL.map vu32), (8, hL.map vu32), (1, [(.slice none 0 0)]), (1, [(vi 0)]), (1, [(.bool true)])]⟩)) (segs := [(64, kL.map vu32), (8, hL.map vu32), (1, [(.slice none 0 0)]), (1, [(vi 0)]), (1, [(.bool true)])]) h_13 rfl rfl (SsOk.cons (SOk.u32 kL_len) (SsOk.cons (SOk.u32 hL_len) (SsOk.cons (SOk.v rfl) (SsOk.cons (SOk.v rfl) (SsOk.cons (SOk.v rfl) SsOk.nil))))) rfl (fun b_15 w_16 h_17 => ?_)
  refine WL.q (Wn.no rfl) rfl rfl (R.assign (v := (.pointer (some ⟨b_15, 0, none⟩))) rfl) ?_
  refine WL.nil ?_
  refine thn_n ?_
  refine WP.ret ?_
  refine ret_of Try.results97 (RV.tmp (v := (.pointer (some ⟨b_15, 0, none⟩))) rfl RV.nil) ?_
  exact ⟨_, rfl, h_17.chgS, h_17.newB (.head _), none, 0, 0, h_17.cells (.head _), View.nil _ _, rfl, Nat.le_refl _, fun x hx => by cases hx⟩

theorem c_there_true (kk hh : List UInt32) (hkk : kk.length = 64) (hhl : hh.length = 8) (ra : Option Addr) (rn rc nn : Nat) (bc : Nat) (w : World) (hcb : (Ent.blk bc .ro 176 [(64, kk.map vu32), (8, hh.map vu32), (1, [(.slice ra rn rc)]), (1, [(vi ((nn : Nat) : Int))]), (1, [(.bool true)])]).ok w.heap.size w) :
    Cs Try.prog 109 [(.pointer (some ⟨bc, 0, none⟩))].toArray w (fun v w1 => v = (.bool true) ∧ Chg w w1 []) := by
  refine Cs.of (n := 11) (args := [(.pointer (some ⟨bc, 0, none⟩))]) Try.func109 rfl rfl rfl ?_
  have h_0 := HP.init w
  have h_00 := h_0.old hcb (fun f hf => by cases hf)
  refine WP.seq ?_
  refine WP.reg ?_
  refine WL.q (Wn.no rfl) rfl rfl (R.assign (v := (.bool false)) rfl) ?_
  refine WL.nil ?_
  refine thn_n ?_
  refine WP.seq ?_
  refine WP.reg ?_
  refine WL.q (Wn.no rfl) rfl rfl (R.move (v := (.pointer (some ⟨bc, 0, none⟩))) rfl) ?_
  refine WL.q (Wn.no rfl) rfl rfl (R.neNilP rfl rfl Try.underlying159) ?_
  refine WL.q (Wn.no rfl) rfl rfl (R.move (v := (.bool true)) rfl) ?_
  refine WL.want rfl rfl ?_
  refine WL.q (Wn.no rfl) rfl rfl (R.move (v := (.pointer (some ⟨bc, 0, none⟩))) rfl) ?_
  refine WL.want rfl rfl ?_
  refine WL.q (Wn.no rfl) rfl rfl (R.nilCheck rfl) ?_
  refine WL.want rfl rfl ?_
  refine WL.q (Wn.no rfl) rfl rfl (R.fieldAddr (b := bc) (off := 0) (off' := 74) rfl Try.underlying176 rfl Try.sizeOf4 rfl rfl) ?_
  refine WL.want rfl rfl ?_
  refine WL.q (Wn.no rfl) rfl rfl (R.load1 (b := bc) (off := 74) (v := (.bool true)) rfl Try.isAgg4 (h_00.ok _ (.head _)) (Sg.t rfl (Sg.t rfl (Sg.t rfl (Sg.t rfl Sg.h))))) ?_
  refine WL.q (Wn.no rfl) rfl rfl (R.pickT (v := (.bool true)) rfl rfl) ?_
  refine WL.q (Wn.no rfl) rfl rfl (R.assign (v := (.bool true)) rfl) ?_
  refine WL.nil ?_
  refine thn_n ?_
  refine WP.ret ?_
  refine ret_of Try.results109 (RV.tmp (v := (.bool true)) rfl RV.nil) ?_
  exact ⟨rfl, h_00.chgS⟩

theorem c_Copy (mg : List UInt8) (ra : Option Addr) (rn rc : Nat) (hrn : (rsL mg).length = rn) (hrc : rn ≤ rc) (bc : Nat) (hm : mg.length ≤ 1000000000000) (w : World) (hvr : View w ra ((rsL mg).map vu8)) (hcb : (Ent.blk bc .ro 176 [(64, kL.map vu32), (8, (stH mg).map vu32), (1, [(.slice ra rn rc)]), (1, [(vi ((mg.length : Nat) : Int))]), (1, [(.bool true)])]).ok w.heap.size w) :
    Cs Try.prog 111 [(.pointer (some ⟨bc, 0, none⟩))].toArray w (fun v w1 => ∃ b, v = .pointer (some ⟨b, 0, none⟩) ∧ Chg w w1 [] ∧ w.heap.size ≤ b ∧ HashAt w.heap.size w1 b 176 mg) := by
  refine Cs.of (n := 16) (args := [(.pointer (some ⟨bc, 0, none⟩))]) Try.func111 rfl rfl rfl ?_
  have h_0 := HP.init w
  have h_01 := h_0.oldV (View.arg hvr) rfl (by simp [Ent.mut])
  have h_00 := h_01.oldV hcb rfl (by simp [Ent.mut])
  have hrl := rsL_len mg
  refine WP.seq ?_
  refine WP.reg ?_
  refine WL.q (Wn.no rfl) rfl rfl (R.assign (v := (.pointer none)) rfl) ?_
  refine WL.nil ?_
  refine thn_n ?_
  refine WP.seq ?_
  refine WP.seq ?_
  refine WP.reg ?_
  refine WL.q (Wn.no rfl) rfl rfl (R.move (v := (.pointer (some ⟨bc, 0, none⟩))) rfl) ?_
  refine WL.call (al := [(.pointer (some ⟨bc, 0, none⟩))]) Try.call109 rfl rfl (c_there_true kL (stH mg) kL_len (stH_len mg) ra rn rc mg.length bc _ (h_00.argR (.head _))) rfl ?_
  rintro _ w_2 ⟨rfl, hc_1⟩
  have h_3 := h_00.same hc_1
  refine WL.q (Wn.no rfl) rfl rfl (R.not (b := true) rfl) ?_
  refine WL.nil ?_
  refine thn_n ?_
  refine WP.condF rfl ?_
  refine WP.skip ?_
  refine thn_n ?_
  refine WP.seq ?_
  refine WP.reg ?_
  refine WL.q (Wn.no rfl) rfl rfl (R.move (v := (.pointer (some ⟨bc, 0, none⟩))) rfl) ?_
  refine WL.q (Wn.no rfl) rfl rfl (R.nilCheck rfl) ?_
  refine WL.q (Wn.no rfl) rfl rfl (R.loadA (b := bc) (off := 0) [] [(64, kL.map vu32), (8, (stH mg).map vu32), (1, [(.slice ra rn rc)]), (1, [(vi ((mg.length : Nat) : Int))]), (1, [(.bool true)])] [] (cs := flat [(64, kL.map vu32), (8, (stH mg).map vu32), (1, [(.slice ra rn rc)]), (1, [(vi ((mg.length : Nat) : Int))]), (1, [(.bool true)])]) rfl Try.isAgg176 Try.sizeOf176 (h_3.ok _ (.head _)) rfl rfl rfl rfl) ?_
  refine WL.alloc (segs := [(64, (List.replicate 64 (0 : UInt32)).map vu32), (8, (List.replicate 8 (0 : UInt32)).map vu32), (1, [(.slice none 0 0)]), (1, [(vi 0)]), (1, [(.bool false)])]) h_3 (zv Try.typeInfo176 rfl) rfl (SsOk.cons (SOk.u32 (List.length_replicate ..)) (SsOk.cons (SOk.u32 (List.length_replicate ..)) (SsOk.cons (SOk.v rfl) (SsOk.cons (SOk.v rfl) (SsOk.cons (SOk.v rfl) SsOk.nil))))) rfl (fun b_4 w_5 h_6 => ?_)
  refine WL.storeA (b := b_4) (off := 0) [] [(64, (List.replicate 64 (0 : UInt32)).map vu32), (8, (List.replicate 8 (0 : UInt32)).map vu32), (1, [(.slice none 0 0)]), (1, [(vi 0)]), (1, [(.bool false)])] [(64, kL.map vu32), (8, (stH mg).map vu32), (1, [(.slice ra rn rc)]), (1, [(vi ((mg.length : Nat) : Int))]), (1, [(.bool true)])] [] (ys := flat [(64, kL.map vu32), (8, (stH mg).map vu32), (1, [(.slice ra rn rc)]), (1, [(vi ((mg.length : Nat) : Int))]), (1, [(.bool true)])]) h_6 rfl rfl Try.sizeOf176 At.h (by decide) rfl rfl rfl rfl rfl rfl (SsOk.cons (SOk.u32 kL_len) (SsOk.cons (SOk.u32 (stH_len mg)) (SsOk.cons (SOk.v rfl) (SsOk.cons (SOk.v rfl) (SsOk.cons (SOk.v rfl) SsOk.nil))))) (fun w_7 h_8 => ?_)
  refine WL.nil ?_
  refine thn_n ?_
  refine WP.seq ?_
  refine WP.reg ?_
  refine WL.q (Wn.no rfl) rfl rfl (R.move (v := (.pointer (some ⟨bc, 0, none⟩))) rfl) ?_
  refine WL.q (Wn.no rfl) rfl rfl (R.nilCheck rfl) ?_
  refine WL.q (Wn.no rfl) rfl rfl (R.fieldAddr (b := bc) (off := 0) (off' := 72) rfl Try.underlying176 rfl Try.sizeOf37 rfl rfl) ?_
  refine WL.q (Wn.no rfl) rfl rfl (R.load1 (b := bc) (off := 72) (v := (.slice ra rn rc)) rfl Try.isAgg37 (h_8.ok _ (.tail _ (.head _))) (Sg.t rfl (Sg.t rfl Sg.h))) ?_
  refine WL.call (al := [(.slice ra rn rc)]) Try.call58 rfl rfl (c_Clone ra rn rc (rsL mg) hrn (by omega) _ (viewV (h_8.ok _ (.tail _ (.tail _ (.head _)))))) rfl ?_
  rintro _ w_11 ⟨a_9, cap_10, rfl, hc_12, ho_13⟩
  have h_14 := h_8.gotRow hc_12 ho_13
  refine WL.q (Wn.no rfl) rfl rfl (R.fieldAddr (b := b_4) (off := 0) (off' := 72) rfl Try.underlying176 rfl Try.sizeOf37 rfl rfl) ?_
  refine WL.store1 (b := b_4) (off := 72) (v := (.slice a_9 rn cap_10)) h_14 rfl rfl Try.sizeOf37 rfl (At.t At.h) (by decide) (Sg.t rfl (Sg.t rfl Sg.h)) (fun w_15 h_16 => ?_)
  refine WL.nil ?_
  refine thn_n ?_
  refine WP.seq ?_
  refine WP.reg ?_
  refine WL.q (Wn.no rfl) rfl rfl (R.assign (v := (.pointer (some ⟨b_4, 0, none⟩))) rfl) ?_
  refine WL.nil ?_
  refine thn_n ?_
  refine WP.ret ?_
  refine ret_of Try.results111 (RV.tmp (v := (.pointer (some ⟨b_4, 0, none⟩))) rfl RV.nil) ?_
  exact ⟨_, rfl, h_16.chgS, h_16.newB (.tail _ (.head _)), _, _, _, h_16.cells (.tail _ (.head _)), Own.view (h_16.own (.head _)), hrn, (h_16.own (.head _)).2.2.1, fun x hx => ⟨Own.blk (h_16.own (.head _)) x hx, Sep_offRow (h_16.ne (i := 0) (j := 1) rfl rfl rfl) x hx⟩⟩

theorem c_Write (mg : List UInt8) (ra : Option Addr) (rn rc : Nat) (hrn : (rsL mg).length = rn) (hrc : rn ≤ rc) (bc : Nat) (hm : mg.length ≤ 1000000000000) (a : Option Addr) (n cap : Nat) (bs : List UInt8) (hl : bs.length = n) (hn : n ≤ 1000000000000) (hcap : n ≤ cap) (w : World) (hvr : View w ra ((rsL mg).map vu8)) (hv : View w a (bs.map vu8)) (hcb : (Ent.blk bc .ar 176 [(64, kL.map vu32), (8, (stH mg).map vu32), (1, [(.slice ra rn rc)]), (1, [(vi ((mg.length : Nat) : Int))]), (1, [(.bool true)])]).ok w.heap.size w) (ho1 : ∀ x ∈ (Ent.view ra ((rsL mg).map vu8)).blocks, x ≠ bc) (ho2 : ∀ x ∈ (Ent.view a (bs.map vu8)).blocks, x ≠ bc) :
    Cs Try.prog 98 [(.pointer (some ⟨bc, 0, none⟩)), (.slice a n cap)].toArray w (fun v w1 => v = vi 0 ∧ Chg w w1 [bc] ∧ HashAt w.heap.size w1 bc 176 (mg ++ bs)) := by
  refine Cs.of (n := 58) (args := [(.pointer (some ⟨bc, 0, none⟩)), (.slice a n cap)]) Try.func98 rfl rfl rfl ?_
  have h_0 := HP.init w
  have h_00 := HP_three hcb hvr hv ho1 ho2
  have hrl := rsL_len mg
  refine WP.seq ?_
  refine WP.reg ?_
  refine WL.q (Wn.no rfl) rfl rfl (R.assign (v := (vi 0)) rfl) ?_
  refine WL.nil ?_
  refine thn_n ?_
  refine WP.seq ?_
  refine WP.seq ?_
  refine WP.reg ?_
  refine WL.q (Wn.no rfl) rfl rfl (R.move (v := (.pointer (some ⟨bc, 0, none⟩))) rfl) ?_
  refine WL.call (al := [(.pointer (some ⟨bc, 0, none⟩))]) Try.call109 rfl rfl (c_there_true kL (stH mg) kL_len (stH_len mg) ra rn rc mg.length bc _ (h_00.argR (.head _))) rfl ?_
  rintro _ w_2 ⟨rfl, hc_1⟩
  have h_3 := h_00.same hc_1
  refine WL.q (Wn.no rfl) rfl rfl (R.not (b := true) rfl) ?_
  refine WL.nil ?_
  refine thn_n ?_
  refine WP.condF rfl ?_
  refine WP.skip ?_
  refine thn_n ?_
  refine WP.seq ?_
  refine WP.reg ?_
  refine WL.q (Wn.no rfl) rfl rfl (R.move (v := (.pointer (some ⟨bc, 0, none⟩))) rfl) ?_
  refine WL.q (Wn.no rfl) rfl rfl (R.nilCheck rfl) ?_
  refine WL.q (Wn.no rfl) rfl rfl (R.fieldAddr (b := bc) (off := 0) (off' := 73) rfl Try.underlying176 rfl Try.sizeOf3 rfl rfl) ?_
  refine WL.q (Wn.no rfl) rfl rfl (R.load1 (b := bc) (off := 73) (v := (vi ((mg.length : Nat) : Int))) rfl Try.isAgg3 (h_3.ok _ (.head _)) (Sg.t rfl (Sg.t rfl (Sg.t rfl Sg.h)))) ?_
  refine WL.q (Wn.no rfl) rfl rfl (R.move (v := (.slice a n cap)) rfl) ?_
  refine WL.q (Wn.no rfl) rfl rfl (R.lenS (a := a) (m := n) rfl rfl Try.underlying37) ?_
  refine WL.q (Wn.no rfl) rfl rfl (R.bin (v := (vi ((mg.length + n : Nat) : Int))) rfl rfl (bi_add (c := ((mg.length + n : Nat) : Int)) (by omega) (by omega))) ?_
  refine WL.q (Wn.no rfl) rfl rfl (R.nilCheck rfl) ?_
  refine WL.q (Wn.no rfl) rfl rfl (R.fieldAddr (b := bc) (off := 0) (off' := 73) rfl Try.underlying176 rfl Try.sizeOf3 rfl rfl) ?_
  refine WL.store1 (b := bc) (off := 73) (v := (vi ((mg.length + n : Nat) : Int))) h_3 rfl rfl Try.sizeOf3 rfl At.h (by decide) (Sg.t rfl (Sg.t rfl (Sg.t rfl Sg.h))) (fun w_4 h_5 => ?_)
  refine WL.nil ?_
  refine thn_n ?_
  refine WP.seq ?_
  refine WP.reg ?_
  refine WL.q (Wn.no rfl) rfl rfl (R.move (v := (.pointer (some ⟨bc, 0, none⟩))) rfl) ?_
  refine WL.q (Wn.no rfl) rfl rfl (R.move (v := (.pointer (some ⟨bc, 0, none⟩))) rfl) ?_
  refine WL.q (Wn.no rfl) rfl rfl (R.nilCheck rfl) ?_
  refine WL.q (Wn.no rfl) rfl rfl (R.fieldAddr (b := bc) (off := 0) (off' := 72) rfl Try.underlying176 rfl Try.sizeOf37 rfl rfl) ?_
  refine WL.q (Wn.no rfl) rfl rfl (R.load1 (b := bc) (off := 72) (v := (.slice ra rn rc)) rfl Try.isAgg37 (h_5.ok _ (.head _)) (Sg.t rfl (Sg.t rfl Sg.h))) ?_
  refine WL.q (Wn.no rfl) rfl rfl (R.move (v := (.slice a n cap)) rfl) ?_
  refine WL.buildSl (vs := [(0, (.slice ra rn rc)), (1, (.slice a n cap))]) (cs := [(.slice ra rn rc), (.slice a n cap)]) h_5 Try.underlying36 Try.sizeOf37 (zv Try.typeInfo37 rfl) rfl rfl (by kernel_rfl) rfl (by simp [Value.oneCell']) rfl rfl (fun b_6 w_7 h_8 => ?_)
  refine WL.call (al := [(.slice (some ⟨b_6, 0, none⟩) 2 2)]) Try.call86 rfl rfl (c_Concat (some ⟨b_6, 0, none⟩) 2 2 [(.slice ra rn rc), (.slice a n cap)] [rsL mg, bs] rfl (by rw [wr_r, List.length_drop, List.length_append]; omega) (by omega) _ (viewB (h_8.ok _ (.head _)) Sg.h) (Sls.cons hrn (by omega) (viewV (h_8.ok _ (.tail _ (.tail _ (.head _))))) (Sls.cons hl (by omega) (viewV (h_8.ok _ (.tail _ (.tail _ (.tail _ (.head _)))))) Sls.nil))) rfl ?_
  rintro _ w_11 ⟨a_9, cap_10, rfl, hc_12, ho_13⟩
  have h_14 := h_8.gotRow hc_12 ho_13
  refine WL.q (Wn.no rfl) rfl rfl (R.nilCheck rfl) ?_
  refine WL.q (Wn.no rfl) rfl rfl (R.fieldAddr (b := bc) (off := 0) (off' := 72) rfl Try.underlying176 rfl Try.sizeOf37 rfl rfl) ?_
  refine WL.store1 (b := bc) (off := 72) (v := (.slice a_9 ([rsL mg, bs].flatten.length) cap_10)) h_14 rfl rfl Try.sizeOf37 rfl (At.t (At.t At.h)) (by decide) (Sg.t rfl (Sg.t rfl Sg.h)) (fun w_15 h_16 => ?_)
  refine WL.nil ?_
  refine thn_n ?_
  refine WP.seq ?_
  refine WP.block ?_
  have hf_18 := Own.blk (h_16.own (.head _))
  have hq_19 := (h_16.own (.head _)).2.2.1
  have h_17 := h_16.rowView
  have h_20 := h_17.up (Pick.t Pick.h)
  have h_21 := h_20.drop rfl
  have h_22 := h_21.up (Pick.t (Pick.t Pick.h))
  have h_23 := h_22.drop rfl
  have h_24 := h_23.up (Pick.t (Pick.t Pick.h))
  have h_25 := h_24.up (Pick.t Pick.h)
  have h_26 := h_25.up (Pick.t (Pick.t Pick.h))
  have hbl : (mg ++ bs).length = mg.length + n := by rw [List.length_append, hl]
  rw [wr_0 mg bs, wr_r mg bs] at h_26
  rw [wr_r mg bs] at hf_18 hq_19
  refine WP.loopG (G := Nat × Option Addr × Nat × Nat) [27, 28, 29, 30, 31, 32, 33, 34, 35, 36, 37, 38, 39, 40, 41, 42, 43, 44, 45, 46, 47, 48, 49, 50, 51, 52, 53, 54, 55, 56, 57] (fun (k, xa, xn, xc) => []) (fun (k, xa, xn, xc) m w1 => HP w w1 [.blk bc .ar 176 [(64, kL.map vu32), (8, (hs kL hL (mg ++ bs) k).map vu32), (1, [(.slice xa xn xc)]), (1, [(vi ((mg.length + n : Nat) : Int))]), (1, [(.bool true)])], .view xa (((mg ++ bs).drop (64 * k)).map vu8), .view a (bs.map vu8)] ∧ (((mg ++ bs).drop (64 * k)).length = xn) ∧ (xn ≤ xc) ∧ (64 * k ≤ mg.length + n) ∧ (∀ b ∈ (Ent.view xa (((mg ++ bs).drop (64 * k)).map vu8)).blocks, w.heap.size ≤ b) ∧ m = mg.length + n - 64 * k) ⟨(mg.length / 64, a_9, _, _), _, trivial, h_26, rfl, hq_19, (by omega), hf_18, rfl⟩ ?_
  rintro ⟨k, xa, xn, xc⟩ m_29 J_30 w_27 ⟨h_28, hxn, hxc, hk, hxf, rfl⟩
  have hdl : xn = mg.length + n - 64 * k := by rw [← hxn, List.length_drop, hbl]
  refine WP.seq ?_
  refine WP.seq ?_
  refine WP.reg ?_
  refine WL.q (Wn.no rfl) rfl rfl (R.move (v := (.pointer (some ⟨bc, 0, none⟩))) rfl) ?_
  refine WL.q (Wn.no rfl) rfl rfl (R.nilCheck rfl) ?_
  refine WL.q (Wn.no rfl) rfl rfl (R.fieldAddr (b := bc) (off := 0) (off' := 72) rfl Try.underlying176 rfl Try.sizeOf37 rfl rfl) ?_
  refine WL.q (Wn.no rfl) rfl rfl (R.load1 (b := bc) (off := 72) (v := (.slice xa xn xc)) rfl Try.isAgg37 (h_28.ok _ (.head _)) (Sg.t rfl (Sg.t rfl Sg.h))) ?_
  refine WL.q (Wn.no rfl) rfl rfl (R.lenS (a := xa) (m := xn) rfl rfl Try.underlying37) ?_
  refine WL.q (Wn.no rfl) rfl rfl (R.bin (v := (.bool (decide ((((xn : Nat) : Int) : Int) ≥ 64)))) rfl rfl (bi_geq (r := decide ((((xn : Nat) : Int) : Int) ≥ 64)) rfl)) ?_
  refine WL.nil ?_
  refine thn_n ?_
  refine WP.cond (b := decide ((((xn : Nat) : Int) : Int) ≥ 64)) rfl (fun c_31 => ?_) (fun c_31 => ?_)
  · have p_32 := of_decide_eq_true c_31
    refine WP.skip ?_
    refine thn_n ?_
    refine WP.block ?_
    refine WP.seq ?_
    refine WP.cutG (G := Unit) [33, 34, 35, 36, 37, 38, 39, 40, 41, 42, 43, 44, 45, 46, 47, 48, 49] (fun _ => [(33, (.pointer (some ⟨bc, 0, none⟩))), (34, (.pointer (some ⟨bc, 0, none⟩))), (35, (.pointer (some ⟨bc, 0, none⟩))), (36, (.pointer (some ⟨bc, 64, none⟩))), (38, (.pointer (some ⟨bc, 0, none⟩))), (39, (.pointer (some ⟨bc, 0, none⟩))), (40, (.pointer (some ⟨bc, 72, none⟩))), (43, (.pointer (some ⟨bc, 0, none⟩))), (44, (.pointer (some ⟨bc, 0, none⟩))), (45, (.pointer (some ⟨bc, 0, none⟩))), (37, (.agg ⟨(hs kL hL (mg ++ bs) k).map vu32⟩)), (41, (.slice xa xn xc)), (42, (.slice (slA xa 0 xc 1) 64 xc)), (46, (.agg ⟨kL.map vu32⟩)), (47, (.agg ⟨(pressL kL (hs kL hL (mg ++ bs) k) ((((mg ++ bs).drop (64 * k)).drop 0).take 64)).map vu32⟩)), (48, (.pointer (some ⟨bc, 0, none⟩))), (49, (.pointer (some ⟨bc, 64, none⟩)))]) (fun _ w1 => HP w w1 [.blk bc .ar 176 [(64, kL.map vu32), (8, (pressL kL (hs kL hL (mg ++ bs) k) ((((mg ++ bs).drop (64 * k)).drop 0).take 64)).map vu32), (1, [(.slice xa xn xc)]), (1, [(vi ((mg.length + n : Nat) : Int))]), (1, [(.bool true)])], .view xa (((mg ++ bs).drop (64 * k)).map vu8), .view a (bs.map vu8)]) ?_ ?_
    · refine WP.drawT (SL w.heap.size [.view xa (((mg ++ bs).drop (64 * k)).map vu8), .view a (bs.map vu8)]) (.q 0 (.q 1 (.q 2 (.q 3 (.q 5 (.q 6 (.q 7 (.q 10 (.q 11 (.q 12 (.s3 4 8 13 (.s2 8 13 (.q 9 (.s 13 (.s 14 (.q 15 (.q 16 (.s 17 .nil)))))) (.s 8 (.q 9 (.s 14 (.q 15 (.q 16 (.s 17 .nil))))))) (.q 9 (.s2 4 13 (.s 13 (.s 14 (.q 15 (.q 16 (.s 17 .nil))))) (.s 4 (.s 14 (.q 15 (.q 16 (.s 17 .nil))))))) (.s2 4 8 (.s 8 (.q 9 (.s 14 (.q 15 (.q 16 (.s 17 .nil)))))) (.q 9 (.s 4 (.s 14 (.q 15 (.q 16 (.s 17 .nil)))))))))))))))))) (by kernel_rfl) (by kernel_rfl) rfl (by kernel_rfl) (fun w_33 hc_35 => (SL.cons ((h_28.same hc_35).ok _ (.tail _ (.head _))) (SL.cons ((h_28.same hc_35).ok _ (.tail _ (.tail _ (.head _)))) (SL.nil _ _)))) (fun w_33 hc_35 => ?_)
      have h_34 := h_28.same hc_35
      refine WT.q rfl (Wn.no rfl) rfl rfl (fun wq hS => R.move (v := (.pointer (some ⟨bc, 0, none⟩))) rfl) ?_
      refine WT.q rfl (Wn.no rfl) rfl rfl (fun wq hS => R.move (v := (.pointer (some ⟨bc, 0, none⟩))) rfl) ?_
      refine WT.q rfl (Wn.no rfl) rfl rfl (fun wq hS => R.nilCheck rfl) ?_
      refine WT.q rfl (Wn.no rfl) rfl rfl (fun wq hS => R.fieldAddr (b := bc) (off := 0) (off' := 64) rfl Try.underlying176 rfl Try.sizeOf172 rfl rfl) ?_
      refine WT.q rfl (Wn.no rfl) rfl rfl (fun wq hS => R.move (v := (.pointer (some ⟨bc, 0, none⟩))) rfl) ?_
      refine WT.q rfl (Wn.no rfl) rfl rfl (fun wq hS => R.nilCheck rfl) ?_
      refine WT.q rfl (Wn.no rfl) rfl rfl (fun wq hS => R.fieldAddr (b := bc) (off := 0) (off' := 72) rfl Try.underlying176 rfl Try.sizeOf37 rfl rfl) ?_
      refine WT.q rfl (Wn.no rfl) rfl rfl (fun wq hS => R.move (v := (.pointer (some ⟨bc, 0, none⟩))) rfl) ?_
      refine WT.q rfl (Wn.no rfl) rfl rfl (fun wq hS => R.nilCheck rfl) ?_
      refine WT.q rfl (Wn.no rfl) rfl rfl (fun wq hS => R.fieldAddr (b := bc) (off := 0) (off' := 0) rfl Try.underlying176 rfl Try.sizeOf171 rfl rfl) ?_
      refine WT.s3 ?_ ?_ ?_
      · refine Op1.one rfl (Wn.no rfl) ?_
        refine WL.q (Wn.no rfl) rfl rfl (R.loadA (b := bc) (off := 64) [(64, kL.map vu32)] [(8, (hs kL hL (mg ++ bs) k).map vu32)] [(1, [(.slice xa xn xc)]), (1, [(vi ((mg.length + n : Nat) : Int))]), (1, [(.bool true)])] (cs := (hs kL hL (mg ++ bs) k).map vu32) rfl Try.isAgg172 Try.sizeOf172 (h_34.ok _ (.head _)) rfl rfl rfl rfl) ?_
        refine WL.nil ?_
        refine ⟨(SL.cons (h_34.ok _ (.tail _ (.head _))) (SL.cons (h_34.ok _ (.tail _ (.tail _ (.head _)))) (SL.nil _ _))), ?_⟩
        refine WT.s2 ?_ ?_
        · refine Op1.one rfl (Wn.no rfl) ?_
          refine WL.q (Wn.no rfl) rfl rfl (R.load1 (b := bc) (off := 72) (v := (.slice xa xn xc)) rfl Try.isAgg37 (h_34.ok _ (.head _)) (Sg.t rfl (Sg.t rfl Sg.h))) ?_
          refine WL.nil ?_
          refine ⟨(SL.cons (h_34.ok _ (.tail _ (.head _))) (SL.cons (h_34.ok _ (.tail _ (.tail _ (.head _)))) (SL.nil _ _))), ?_⟩
          refine WT.q rfl (Wn.no rfl) rfl rfl (fun wq hS => R.sliceS (a := xa) (len := xn) (l := 0) (h := 64) rfl EvB.dflt (EvB.it (l := 64) rfl rfl) (by decide) (by omega) Try.underlying37 Try.sizeOf5) ?_
          refine WT.s ?_
          refine Op1.one rfl (Wn.no rfl) ?_
          refine WL.q (Wn.no rfl) rfl rfl (R.loadA (b := bc) (off := 0) [] [(64, kL.map vu32)] [(8, (hs kL hL (mg ++ bs) k).map vu32), (1, [(.slice xa xn xc)]), (1, [(vi ((mg.length + n : Nat) : Int))]), (1, [(.bool true)])] (cs := kL.map vu32) rfl Try.isAgg171 Try.sizeOf171 (h_34.ok _ (.head _)) rfl rfl rfl rfl) ?_
          refine WL.nil ?_
          refine ⟨(SL.cons (h_34.ok _ (.tail _ (.head _))) (SL.cons (h_34.ok _ (.tail _ (.tail _ (.head _)))) (SL.nil _ _))), ?_⟩
          refine WT.s ?_
          refine Op1.one rfl (Wn.no rfl) ?_
          refine WL.call (al := [(.agg ⟨(hs kL hL (mg ++ bs) k).map vu32⟩), (.slice (slA xa 0 xc 1) 64 xc), (.agg ⟨kL.map vu32⟩)]) Try.call110 rfl rfl (c_press (hs kL hL (mg ++ bs) k) kL (hs_len hL_len k) kL_len (slA xa 0 xc 1) xc ((((mg ++ bs).drop (64 * k)).drop 0).take 64) (subLen (K := xn) hxn (by omega) : List.length ((((mg ++ bs).drop (64 * k)).drop 0).take 64) = 64) (by omega) _ (View.slM (l := 0) (m := xc) (k := 64) (viewV (h_34.ok _ (.tail _ (.head _)))) (by omega))) rfl ?_
          rintro _ w_37 ⟨rfl, hc_36⟩
          have h_38 := h_34.same hc_36
          refine WL.nil ?_
          refine ⟨(SL.cons (h_38.ok _ (.tail _ (.head _))) (SL.cons (h_38.ok _ (.tail _ (.tail _ (.head _)))) (SL.nil _ _))), ?_⟩
          refine WT.q rfl (Wn.no rfl) rfl rfl (fun wq hS => R.nilCheck rfl) ?_
          refine WT.q rfl (Wn.no rfl) rfl rfl (fun wq hS => R.fieldAddr (b := bc) (off := 0) (off' := 64) rfl Try.underlying176 rfl Try.sizeOf172 rfl rfl) ?_
          refine WT.s ?_
          refine Op1.one rfl (Wn.no rfl) ?_
          refine WL.storeA (b := bc) (off := 64) [(64, kL.map vu32)] [(8, (hs kL hL (mg ++ bs) k).map vu32)] [(8, (pressL kL (hs kL hL (mg ++ bs) k) ((((mg ++ bs).drop (64 * k)).drop 0).take 64)).map vu32)] [(1, [(.slice xa xn xc)]), (1, [(vi ((mg.length + n : Nat) : Int))]), (1, [(.bool true)])] (ys := (pressL kL (hs kL hL (mg ++ bs) k) ((((mg ++ bs).drop (64 * k)).drop 0).take 64)).map vu32) h_38 rfl rfl Try.sizeOf172 At.h (by decide) rfl rfl rfl rfl rfl rfl (SsOk.cons (SOk.u32 (pressL_len ..)) SsOk.nil) (fun w_39 h_40 => ?_)
          refine WL.nil ?_
          refine ⟨(SL.cons (h_40.ok _ (.tail _ (.head _))) (SL.cons (h_40.ok _ (.tail _ (.tail _ (.head _)))) (SL.nil _ _))), ?_⟩
          refine WT.nil ?_
          refine thn_n ?_
          exact ⟨(), (Ag.upd rfl (Ag.upd rfl (Ag.upd rfl (Ag.upd rfl (Ag.upd rfl (Ag.upd rfl (Ag.upd rfl (Ag.upd rfl (Ag.upd rfl (Ag.upd rfl (Ag.upd rfl (Ag.upd rfl (Ag.upd rfl (Ag.upd rfl (Ag.upd rfl (Ag.upd rfl (Ag.upd rfl (Ag.refl _ _)))))))))))))))))), ⟨rfl, rfl, rfl, rfl, rfl, rfl, rfl, rfl, rfl, rfl, rfl, rfl, rfl, rfl, rfl, rfl, rfl, trivial⟩, h_40⟩
        · refine Op1.one rfl (Wn.no rfl) ?_
          refine WL.q (Wn.no rfl) rfl rfl (R.loadA (b := bc) (off := 0) [] [(64, kL.map vu32)] [(8, (hs kL hL (mg ++ bs) k).map vu32), (1, [(.slice xa xn xc)]), (1, [(vi ((mg.length + n : Nat) : Int))]), (1, [(.bool true)])] (cs := kL.map vu32) rfl Try.isAgg171 Try.sizeOf171 (h_34.ok _ (.head _)) rfl rfl rfl rfl) ?_
          refine WL.nil ?_
          refine ⟨(SL.cons (h_34.ok _ (.tail _ (.head _))) (SL.cons (h_34.ok _ (.tail _ (.tail _ (.head _)))) (SL.nil _ _))), ?_⟩
          refine WT.s ?_
          refine Op1.one rfl (Wn.no rfl) ?_
          refine WL.q (Wn.no rfl) rfl rfl (R.load1 (b := bc) (off := 72) (v := (.slice xa xn xc)) rfl Try.isAgg37 (h_34.ok _ (.head _)) (Sg.t rfl (Sg.t rfl Sg.h))) ?_
          refine WL.nil ?_
          refine ⟨(SL.cons (h_34.ok _ (.tail _ (.head _))) (SL.cons (h_34.ok _ (.tail _ (.tail _ (.head _)))) (SL.nil _ _))), ?_⟩
          refine WT.q rfl (Wn.no rfl) rfl rfl (fun wq hS => R.sliceS (a := xa) (len := xn) (l := 0) (h := 64) rfl EvB.dflt (EvB.it (l := 64) rfl rfl) (by decide) (by omega) Try.underlying37 Try.sizeOf5) ?_
          refine WT.s ?_
          refine Op1.one rfl (Wn.no rfl) ?_
          refine WL.call (al := [(.agg ⟨(hs kL hL (mg ++ bs) k).map vu32⟩), (.slice (slA xa 0 xc 1) 64 xc), (.agg ⟨kL.map vu32⟩)]) Try.call110 rfl rfl (c_press (hs kL hL (mg ++ bs) k) kL (hs_len hL_len k) kL_len (slA xa 0 xc 1) xc ((((mg ++ bs).drop (64 * k)).drop 0).take 64) (subLen (K := xn) hxn (by omega) : List.length ((((mg ++ bs).drop (64 * k)).drop 0).take 64) = 64) (by omega) _ (View.slM (l := 0) (m := xc) (k := 64) (viewV (h_34.ok _ (.tail _ (.head _)))) (by omega))) rfl ?_
          rintro _ w_42 ⟨rfl, hc_41⟩
          have h_43 := h_34.same hc_41
          refine WL.nil ?_
          refine ⟨(SL.cons (h_43.ok _ (.tail _ (.head _))) (SL.cons (h_43.ok _ (.tail _ (.tail _ (.head _)))) (SL.nil _ _))), ?_⟩
          refine WT.q rfl (Wn.no rfl) rfl rfl (fun wq hS => R.nilCheck rfl) ?_
          refine WT.q rfl (Wn.no rfl) rfl rfl (fun wq hS => R.fieldAddr (b := bc) (off := 0) (off' := 64) rfl Try.underlying176 rfl Try.sizeOf172 rfl rfl) ?_
          refine WT.s ?_
          refine Op1.one rfl (Wn.no rfl) ?_
          refine WL.storeA (b := bc) (off := 64) [(64, kL.map vu32)] [(8, (hs kL hL (mg ++ bs) k).map vu32)] [(8, (pressL kL (hs kL hL (mg ++ bs) k) ((((mg ++ bs).drop (64 * k)).drop 0).take 64)).map vu32)] [(1, [(.slice xa xn xc)]), (1, [(vi ((mg.length + n : Nat) : Int))]), (1, [(.bool true)])] (ys := (pressL kL (hs kL hL (mg ++ bs) k) ((((mg ++ bs).drop (64 * k)).drop 0).take 64)).map vu32) h_43 rfl rfl Try.sizeOf172 At.h (by decide) rfl rfl rfl rfl rfl rfl (SsOk.cons (SOk.u32 (pressL_len ..)) SsOk.nil) (fun w_44 h_45 => ?_)
          refine WL.nil ?_
          refine ⟨(SL.cons (h_45.ok _ (.tail _ (.head _))) (SL.cons (h_45.ok _ (.tail _ (.tail _ (.head _)))) (SL.nil _ _))), ?_⟩
          refine WT.nil ?_
          refine thn_n ?_
          exact ⟨(), (Ag.upd rfl (Ag.upd rfl (Ag.upd rfl (Ag.upd rfl (Ag.upd rfl (Ag.upd rfl (Ag.upd rfl (Ag.upd rfl (Ag.upd rfl (Ag.upd rfl (Ag.upd rfl (Ag.upd rfl (Ag.upd rfl (Ag.upd rfl (Ag.upd rfl (Ag.upd rfl (Ag.upd rfl (Ag.refl _ _)))))))))))))))))), ⟨rfl, rfl, rfl, rfl, rfl, rfl, rfl, rfl, rfl, rfl, rfl, rfl, rfl, rfl, rfl, rfl, rfl, trivial⟩, h_45⟩
      · refine Op1.one rfl (Wn.no rfl) ?_
        refine WL.q (Wn.no rfl) rfl rfl (R.load1 (b := bc) (off := 72) (v := (.slice xa xn xc)) rfl Try.isAgg37 (h_34.ok _ (.head _)) (Sg.t rfl (Sg.t rfl Sg.h))) ?_
        refine WL.nil ?_
        refine ⟨(SL.cons (h_34.ok _ (.tail _ (.head _))) (SL.cons (h_34.ok _ (.tail _ (.tail _ (.head _)))) (SL.nil _ _))), ?_⟩
        refine WT.q rfl (Wn.no rfl) rfl rfl (fun wq hS => R.sliceS (a := xa) (len := xn) (l := 0) (h := 64) rfl EvB.dflt (EvB.it (l := 64) rfl rfl) (by decide) (by omega) Try.underlying37 Try.sizeOf5) ?_
        refine WT.s2 ?_ ?_
        · refine Op1.one rfl (Wn.no rfl) ?_
          refine WL.q (Wn.no rfl) rfl rfl (R.loadA (b := bc) (off := 64) [(64, kL.map vu32)] [(8, (hs kL hL (mg ++ bs) k).map vu32)] [(1, [(.slice xa xn xc)]), (1, [(vi ((mg.length + n : Nat) : Int))]), (1, [(.bool true)])] (cs := (hs kL hL (mg ++ bs) k).map vu32) rfl Try.isAgg172 Try.sizeOf172 (h_34.ok _ (.head _)) rfl rfl rfl rfl) ?_
          refine WL.nil ?_
          refine ⟨(SL.cons (h_34.ok _ (.tail _ (.head _))) (SL.cons (h_34.ok _ (.tail _ (.tail _ (.head _)))) (SL.nil _ _))), ?_⟩
          refine WT.s ?_
          refine Op1.one rfl (Wn.no rfl) ?_
          refine WL.q (Wn.no rfl) rfl rfl (R.loadA (b := bc) (off := 0) [] [(64, kL.map vu32)] [(8, (hs kL hL (mg ++ bs) k).map vu32), (1, [(.slice xa xn xc)]), (1, [(vi ((mg.length + n : Nat) : Int))]), (1, [(.bool true)])] (cs := kL.map vu32) rfl Try.isAgg171 Try.sizeOf171 (h_34.ok _ (.head _)) rfl rfl rfl rfl) ?_
          refine WL.nil ?_
          refine ⟨(SL.cons (h_34.ok _ (.tail _ (.head _))) (SL.cons (h_34.ok _ (.tail _ (.tail _ (.head _)))) (SL.nil _ _))), ?_⟩
          refine WT.s ?_
          refine Op1.one rfl (Wn.no rfl) ?_
          refine WL.call (al := [(.agg ⟨(hs kL hL (mg ++ bs) k).map vu32⟩), (.slice (slA xa 0 xc 1) 64 xc), (.agg ⟨kL.map vu32⟩)]) Try.call110 rfl rfl (c_press (hs kL hL (mg ++ bs) k) kL (hs_len hL_len k) kL_len (slA xa 0 xc 1) xc ((((mg ++ bs).drop (64 * k)).drop 0).take 64) (subLen (K := xn) hxn (by omega) : List.length ((((mg ++ bs).drop (64 * k)).drop 0).take 64) = 64) (by omega) _ (View.slM (l := 0) (m := xc) (k := 64) (viewV (h_34.ok _ (.tail _ (.head _)))) (by omega))) rfl ?_
          rintro _ w_47 ⟨rfl, hc_46⟩
          have h_48 := h_34.same hc_46
          refine WL.nil ?_
          refine ⟨(SL.cons (h_48.ok _ (.tail _ (.head _))) (SL.cons (h_48.ok _ (.tail _ (.tail _ (.head _)))) (SL.nil _ _))), ?_⟩
          refine WT.q rfl (Wn.no rfl) rfl rfl (fun wq hS => R.nilCheck rfl) ?_
          refine WT.q rfl (Wn.no rfl) rfl rfl (fun wq hS => R.fieldAddr (b := bc) (off := 0) (off' := 64) rfl Try.underlying176 rfl Try.sizeOf172 rfl rfl) ?_
          refine WT.s ?_
          refine Op1.one rfl (Wn.no rfl) ?_
          refine WL.storeA (b := bc) (off := 64) [(64, kL.map vu32)] [(8, (hs kL hL (mg ++ bs) k).map vu32)] [(8, (pressL kL (hs kL hL (mg ++ bs) k) ((((mg ++ bs).drop (64 * k)).drop 0).take 64)).map vu32)] [(1, [(.slice xa xn xc)]), (1, [(vi ((mg.length + n : Nat) : Int))]), (1, [(.bool true)])] (ys := (pressL kL (hs kL hL (mg ++ bs) k) ((((mg ++ bs).drop (64 * k)).drop 0).take 64)).map vu32) h_48 rfl rfl Try.sizeOf172 At.h (by decide) rfl rfl rfl rfl rfl rfl (SsOk.cons (SOk.u32 (pressL_len ..)) SsOk.nil) (fun w_49 h_50 => ?_)
          refine WL.nil ?_
          refine ⟨(SL.cons (h_50.ok _ (.tail _ (.head _))) (SL.cons (h_50.ok _ (.tail _ (.tail _ (.head _)))) (SL.nil _ _))), ?_⟩
          refine WT.nil ?_
          refine thn_n ?_
          exact ⟨(), (Ag.upd rfl (Ag.upd rfl (Ag.upd rfl (Ag.upd rfl (Ag.upd rfl (Ag.upd rfl (Ag.upd rfl (Ag.upd rfl (Ag.upd rfl (Ag.upd rfl (Ag.upd rfl (Ag.upd rfl (Ag.upd rfl (Ag.upd rfl (Ag.upd rfl (Ag.upd rfl (Ag.upd rfl (Ag.refl _ _)))))))))))))))))), ⟨rfl, rfl, rfl, rfl, rfl, rfl, rfl, rfl, rfl, rfl, rfl, rfl, rfl, rfl, rfl, rfl, rfl, trivial⟩, h_50⟩
        · refine Op1.one rfl (Wn.no rfl) ?_
          refine WL.q (Wn.no rfl) rfl rfl (R.loadA (b := bc) (off := 0) [] [(64, kL.map vu32)] [(8, (hs kL hL (mg ++ bs) k).map vu32), (1, [(.slice xa xn xc)]), (1, [(vi ((mg.length + n : Nat) : Int))]), (1, [(.bool true)])] (cs := kL.map vu32) rfl Try.isAgg171 Try.sizeOf171 (h_34.ok _ (.head _)) rfl rfl rfl rfl) ?_
          refine WL.nil ?_
          refine ⟨(SL.cons (h_34.ok _ (.tail _ (.head _))) (SL.cons (h_34.ok _ (.tail _ (.tail _ (.head _)))) (SL.nil _ _))), ?_⟩
          refine WT.s ?_
          refine Op1.one rfl (Wn.no rfl) ?_
          refine WL.q (Wn.no rfl) rfl rfl (R.loadA (b := bc) (off := 64) [(64, kL.map vu32)] [(8, (hs kL hL (mg ++ bs) k).map vu32)] [(1, [(.slice xa xn xc)]), (1, [(vi ((mg.length + n : Nat) : Int))]), (1, [(.bool true)])] (cs := (hs kL hL (mg ++ bs) k).map vu32) rfl Try.isAgg172 Try.sizeOf172 (h_34.ok _ (.head _)) rfl rfl rfl rfl) ?_
          refine WL.nil ?_
          refine ⟨(SL.cons (h_34.ok _ (.tail _ (.head _))) (SL.cons (h_34.ok _ (.tail _ (.tail _ (.head _)))) (SL.nil _ _))), ?_⟩
          refine WT.s ?_
          refine Op1.one rfl (Wn.no rfl) ?_
          refine WL.call (al := [(.agg ⟨(hs kL hL (mg ++ bs) k).map vu32⟩), (.slice (slA xa 0 xc 1) 64 xc), (.agg ⟨kL.map vu32⟩)]) Try.call110 rfl rfl (c_press (hs kL hL (mg ++ bs) k) kL (hs_len hL_len k) kL_len (slA xa 0 xc 1) xc ((((mg ++ bs).drop (64 * k)).drop 0).take 64) (subLen (K := xn) hxn (by omega) : List.length ((((mg ++ bs).drop (64 * k)).drop 0).take 64) = 64) (by omega) _ (View.slM (l := 0) (m := xc) (k := 64) (viewV (h_34.ok _ (.tail _ (.head _)))) (by omega))) rfl ?_
          rintro _ w_52 ⟨rfl, hc_51⟩
          have h_53 := h_34.same hc_51
          refine WL.nil ?_
          refine ⟨(SL.cons (h_53.ok _ (.tail _ (.head _))) (SL.cons (h_53.ok _ (.tail _ (.tail _ (.head _)))) (SL.nil _ _))), ?_⟩
          refine WT.q rfl (Wn.no rfl) rfl rfl (fun wq hS => R.nilCheck rfl) ?_
          refine WT.q rfl (Wn.no rfl) rfl rfl (fun wq hS => R.fieldAddr (b := bc) (off := 0) (off' := 64) rfl Try.underlying176 rfl Try.sizeOf172 rfl rfl) ?_
          refine WT.s ?_
          refine Op1.one rfl (Wn.no rfl) ?_
          refine WL.storeA (b := bc) (off := 64) [(64, kL.map vu32)] [(8, (hs kL hL (mg ++ bs) k).map vu32)] [(8, (pressL kL (hs kL hL (mg ++ bs) k) ((((mg ++ bs).drop (64 * k)).drop 0).take 64)).map vu32)] [(1, [(.slice xa xn xc)]), (1, [(vi ((mg.length + n : Nat) : Int))]), (1, [(.bool true)])] (ys := (pressL kL (hs kL hL (mg ++ bs) k) ((((mg ++ bs).drop (64 * k)).drop 0).take 64)).map vu32) h_53 rfl rfl Try.sizeOf172 At.h (by decide) rfl rfl rfl rfl rfl rfl (SsOk.cons (SOk.u32 (pressL_len ..)) SsOk.nil) (fun w_54 h_55 => ?_)
          refine WL.nil ?_
          refine ⟨(SL.cons (h_55.ok _ (.tail _ (.head _))) (SL.cons (h_55.ok _ (.tail _ (.tail _ (.head _)))) (SL.nil _ _))), ?_⟩
          refine WT.nil ?_
          refine thn_n ?_
          exact ⟨(), (Ag.upd rfl (Ag.upd rfl (Ag.upd rfl (Ag.upd rfl (Ag.upd rfl (Ag.upd rfl (Ag.upd rfl (Ag.upd rfl (Ag.upd rfl (Ag.upd rfl (Ag.upd rfl (Ag.upd rfl (Ag.upd rfl (Ag.upd rfl (Ag.upd rfl (Ag.upd rfl (Ag.upd rfl (Ag.refl _ _)))))))))))))))))), ⟨rfl, rfl, rfl, rfl, rfl, rfl, rfl, rfl, rfl, rfl, rfl, rfl, rfl, rfl, rfl, rfl, rfl, trivial⟩, h_55⟩
      · refine Op1.one rfl (Wn.no rfl) ?_
        refine WL.q (Wn.no rfl) rfl rfl (R.loadA (b := bc) (off := 0) [] [(64, kL.map vu32)] [(8, (hs kL hL (mg ++ bs) k).map vu32), (1, [(.slice xa xn xc)]), (1, [(vi ((mg.length + n : Nat) : Int))]), (1, [(.bool true)])] (cs := kL.map vu32) rfl Try.isAgg171 Try.sizeOf171 (h_34.ok _ (.head _)) rfl rfl rfl rfl) ?_
        refine WL.nil ?_
        refine ⟨(SL.cons (h_34.ok _ (.tail _ (.head _))) (SL.cons (h_34.ok _ (.tail _ (.tail _ (.head _)))) (SL.nil _ _))), ?_⟩
        refine WT.s2 ?_ ?_
        · refine Op1.one rfl (Wn.no rfl) ?_
          refine WL.q (Wn.no rfl) rfl rfl (R.loadA (b := bc) (off := 64) [(64, kL.map vu32)] [(8, (hs kL hL (mg ++ bs) k).map vu32)] [(1, [(.slice xa xn xc)]), (1, [(vi ((mg.length + n : Nat) : Int))]), (1, [(.bool true)])] (cs := (hs kL hL (mg ++ bs) k).map vu32) rfl Try.isAgg172 Try.sizeOf172 (h_34.ok _ (.head _)) rfl rfl rfl rfl) ?_
          refine WL.nil ?_
          refine ⟨(SL.cons (h_34.ok _ (.tail _ (.head _))) (SL.cons (h_34.ok _ (.tail _ (.tail _ (.head _)))) (SL.nil _ _))), ?_⟩
          refine WT.s ?_
          refine Op1.one rfl (Wn.no rfl) ?_
          refine WL.q (Wn.no rfl) rfl rfl (R.load1 (b := bc) (off := 72) (v := (.slice xa xn xc)) rfl Try.isAgg37 (h_34.ok _ (.head _)) (Sg.t rfl (Sg.t rfl Sg.h))) ?_
          refine WL.nil ?_
          refine ⟨(SL.cons (h_34.ok _ (.tail _ (.head _))) (SL.cons (h_34.ok _ (.tail _ (.tail _ (.head _)))) (SL.nil _ _))), ?_⟩
          refine WT.q rfl (Wn.no rfl) rfl rfl (fun wq hS => R.sliceS (a := xa) (len := xn) (l := 0) (h := 64) rfl EvB.dflt (EvB.it (l := 64) rfl rfl) (by decide) (by omega) Try.underlying37 Try.sizeOf5) ?_
          refine WT.s ?_
          refine Op1.one rfl (Wn.no rfl) ?_
          refine WL.call (al := [(.agg ⟨(hs kL hL (mg ++ bs) k).map vu32⟩), (.slice (slA xa 0 xc 1) 64 xc), (.agg ⟨kL.map vu32⟩)]) Try.call110 rfl rfl (c_press (hs kL hL (mg ++ bs) k) kL (hs_len hL_len k) kL_len (slA xa 0 xc 1) xc ((((mg ++ bs).drop (64 * k)).drop 0).take 64) (subLen (K := xn) hxn (by omega) : List.length ((((mg ++ bs).drop (64 * k)).drop 0).take 64) = 64) (by omega) _ (View.slM (l := 0) (m := xc) (k := 64) (viewV (h_34.ok _ (.tail _ (.head _)))) (by omega))) rfl ?_
          rintro _ w_57 ⟨rfl, hc_56⟩
          have h_58 := h_34.same hc_56
          refine WL.nil ?_
          refine ⟨(SL.cons (h_58.ok _ (.tail _ (.head _))) (SL.cons (h_58.ok _ (.tail _ (.tail _ (.head _)))) (SL.nil _ _))), ?_⟩
          refine WT.q rfl (Wn.no rfl) rfl rfl (fun wq hS => R.nilCheck rfl) ?_
          refine WT.q rfl (Wn.no rfl) rfl rfl (fun wq hS => R.fieldAddr (b := bc) (off := 0) (off' := 64) rfl Try.underlying176 rfl Try.sizeOf172 rfl rfl) ?_
          refine WT.s ?_
          refine Op1.one rfl (Wn.no rfl) ?_
          refine WL.storeA (b := bc) (off := 64) [(64, kL.map vu32)] [(8, (hs kL hL (mg ++ bs) k).map vu32)] [(8, (pressL kL (hs kL hL (mg ++ bs) k) ((((mg ++ bs).drop (64 * k)).drop 0).take 64)).map vu32)] [(1, [(.slice xa xn xc)]), (1, [(vi ((mg.length + n : Nat) : Int))]), (1, [(.bool true)])] (ys := (pressL kL (hs kL hL (mg ++ bs) k) ((((mg ++ bs).drop (64 * k)).drop 0).take 64)).map vu32) h_58 rfl rfl Try.sizeOf172 At.h (by decide) rfl rfl rfl rfl rfl rfl (SsOk.cons (SOk.u32 (pressL_len ..)) SsOk.nil) (fun w_59 h_60 => ?_)
          refine WL.nil ?_
          refine ⟨(SL.cons (h_60.ok _ (.tail _ (.head _))) (SL.cons (h_60.ok _ (.tail _ (.tail _ (.head _)))) (SL.nil _ _))), ?_⟩
          refine WT.nil ?_
          refine thn_n ?_
          exact ⟨(), (Ag.upd rfl (Ag.upd rfl (Ag.upd rfl (Ag.upd rfl (Ag.upd rfl (Ag.upd rfl (Ag.upd rfl (Ag.upd rfl (Ag.upd rfl (Ag.upd rfl (Ag.upd rfl (Ag.upd rfl (Ag.upd rfl (Ag.upd rfl (Ag.upd rfl (Ag.upd rfl (Ag.upd rfl (Ag.refl _ _)))))))))))))))))), ⟨rfl, rfl, rfl, rfl, rfl, rfl, rfl, rfl, rfl, rfl, rfl, rfl, rfl, rfl, rfl, rfl, rfl, trivial⟩, h_60⟩
        · refine Op1.one rfl (Wn.no rfl) ?_
          refine WL.q (Wn.no rfl) rfl rfl (R.load1 (b := bc) (off := 72) (v := (.slice xa xn xc)) rfl Try.isAgg37 (h_34.ok _ (.head _)) (Sg.t rfl (Sg.t rfl Sg.h))) ?_
          refine WL.nil ?_
          refine ⟨(SL.cons (h_34.ok _ (.tail _ (.head _))) (SL.cons (h_34.ok _ (.tail _ (.tail _ (.head _)))) (SL.nil _ _))), ?_⟩
          refine WT.q rfl (Wn.no rfl) rfl rfl (fun wq hS => R.sliceS (a := xa) (len := xn) (l := 0) (h := 64) rfl EvB.dflt (EvB.it (l := 64) rfl rfl) (by decide) (by omega) Try.underlying37 Try.sizeOf5) ?_
          refine WT.s ?_
          refine Op1.one rfl (Wn.no rfl) ?_
          refine WL.q (Wn.no rfl) rfl rfl (R.loadA (b := bc) (off := 64) [(64, kL.map vu32)] [(8, (hs kL hL (mg ++ bs) k).map vu32)] [(1, [(.slice xa xn xc)]), (1, [(vi ((mg.length + n : Nat) : Int))]), (1, [(.bool true)])] (cs := (hs kL hL (mg ++ bs) k).map vu32) rfl Try.isAgg172 Try.sizeOf172 (h_34.ok _ (.head _)) rfl rfl rfl rfl) ?_
          refine WL.nil ?_
          refine ⟨(SL.cons (h_34.ok _ (.tail _ (.head _))) (SL.cons (h_34.ok _ (.tail _ (.tail _ (.head _)))) (SL.nil _ _))), ?_⟩
          refine WT.s ?_
          refine Op1.one rfl (Wn.no rfl) ?_
          refine WL.call (al := [(.agg ⟨(hs kL hL (mg ++ bs) k).map vu32⟩), (.slice (slA xa 0 xc 1) 64 xc), (.agg ⟨kL.map vu32⟩)]) Try.call110 rfl rfl (c_press (hs kL hL (mg ++ bs) k) kL (hs_len hL_len k) kL_len (slA xa 0 xc 1) xc ((((mg ++ bs).drop (64 * k)).drop 0).take 64) (subLen (K := xn) hxn (by omega) : List.length ((((mg ++ bs).drop (64 * k)).drop 0).take 64) = 64) (by omega) _ (View.slM (l := 0) (m := xc) (k := 64) (viewV (h_34.ok _ (.tail _ (.head _)))) (by omega))) rfl ?_
          rintro _ w_62 ⟨rfl, hc_61⟩
          have h_63 := h_34.same hc_61
          refine WL.nil ?_
          refine ⟨(SL.cons (h_63.ok _ (.tail _ (.head _))) (SL.cons (h_63.ok _ (.tail _ (.tail _ (.head _)))) (SL.nil _ _))), ?_⟩
          refine WT.q rfl (Wn.no rfl) rfl rfl (fun wq hS => R.nilCheck rfl) ?_
          refine WT.q rfl (Wn.no rfl) rfl rfl (fun wq hS => R.fieldAddr (b := bc) (off := 0) (off' := 64) rfl Try.underlying176 rfl Try.sizeOf172 rfl rfl) ?_
          refine WT.s ?_
          refine Op1.one rfl (Wn.no rfl) ?_
          refine WL.storeA (b := bc) (off := 64) [(64, kL.map vu32)] [(8, (hs kL hL (mg ++ bs) k).map vu32)] [(8, (pressL kL (hs kL hL (mg ++ bs) k) ((((mg ++ bs).drop (64 * k)).drop 0).take 64)).map vu32)] [(1, [(.slice xa xn xc)]), (1, [(vi ((mg.length + n : Nat) : Int))]), (1, [(.bool true)])] (ys := (pressL kL (hs kL hL (mg ++ bs) k) ((((mg ++ bs).drop (64 * k)).drop 0).take 64)).map vu32) h_63 rfl rfl Try.sizeOf172 At.h (by decide) rfl rfl rfl rfl rfl rfl (SsOk.cons (SOk.u32 (pressL_len ..)) SsOk.nil) (fun w_64 h_65 => ?_)
          refine WL.nil ?_
          refine ⟨(SL.cons (h_65.ok _ (.tail _ (.head _))) (SL.cons (h_65.ok _ (.tail _ (.tail _ (.head _)))) (SL.nil _ _))), ?_⟩
          refine WT.nil ?_
          refine thn_n ?_
          exact ⟨(), (Ag.upd rfl (Ag.upd rfl (Ag.upd rfl (Ag.upd rfl (Ag.upd rfl (Ag.upd rfl (Ag.upd rfl (Ag.upd rfl (Ag.upd rfl (Ag.upd rfl (Ag.upd rfl (Ag.upd rfl (Ag.upd rfl (Ag.upd rfl (Ag.upd rfl (Ag.upd rfl (Ag.upd rfl (Ag.refl _ _)))))))))))))))))), ⟨rfl, rfl, rfl, rfl, rfl, rfl, rfl, rfl, rfl, rfl, rfl, rfl, rfl, rfl, rfl, rfl, rfl, trivial⟩, h_65⟩
    · rintro _ J_66 w_67 h_68
      refine thn_n ?_
      refine WP.reg ?_
      refine WL.q (Wn.no rfl) rfl rfl (R.move (v := (.pointer (some ⟨bc, 0, none⟩))) rfl) ?_
      refine WL.q (Wn.no rfl) rfl rfl (R.move (v := (.pointer (some ⟨bc, 0, none⟩))) rfl) ?_
      refine WL.q (Wn.no rfl) rfl rfl (R.nilCheck rfl) ?_
      refine WL.q (Wn.no rfl) rfl rfl (R.fieldAddr (b := bc) (off := 0) (off' := 72) rfl Try.underlying176 rfl Try.sizeOf37 rfl rfl) ?_
      refine WL.q (Wn.no rfl) rfl rfl (R.load1 (b := bc) (off := 72) (v := (.slice xa xn xc)) rfl Try.isAgg37 (h_68.ok _ (.head _)) (Sg.t rfl (Sg.t rfl Sg.h))) ?_
      refine WL.q (Wn.no rfl) rfl rfl (R.sliceS (a := xa) (len := xn) (l := 64) (h := xn) rfl (EvB.it (l := 64) rfl rfl) EvB.dflt (by omega) (by omega) Try.underlying37 Try.sizeOf5) ?_
      have h_69 := HP.viewDrop (m := 64) (q := xc) h_68 (.tail _ (.head _)) (by omega)
      refine WL.q (Wn.no rfl) rfl rfl (R.nilCheck rfl) ?_
      refine WL.q (Wn.no rfl) rfl rfl (R.fieldAddr (b := bc) (off := 0) (off' := 72) rfl Try.underlying176 rfl Try.sizeOf37 rfl rfl) ?_
      refine WL.store1 (b := bc) (off := 72) (v := (.slice (slA xa 64 xc 1) (xn - 64) (xc - 64))) h_69 rfl rfl Try.sizeOf37 rfl (At.t At.h) (by decide) (Sg.t rfl (Sg.t rfl Sg.h)) (fun w_70 h_71 => ?_)
      refine WL.nil ?_
      refine inb_n ?_
      refine thn_n ?_
      have h_72 := h_71.up (Pick.t (Pick.t Pick.h))
      have h_73 := h_72.drop rfl
      have h_74 := h_73.up (Pick.t (Pick.t Pick.h))
      have h_75 := h_74.up (Pick.t Pick.h)
      have h_76 := h_75.up (Pick.t (Pick.t Pick.h))
      have es : pressL kL (hs kL hL (mg ++ bs) k) ((((mg ++ bs).drop (64 * k)).drop 0).take 64) = hs kL hL (mg ++ bs) (k + 1) := wr_step rfl
      have ed := wr_drop (mg ++ bs) k
      rw [es, ed] at h_76
      have hxf2 : ∀ b ∈ (Ent.view (slA xa 64 xc 1) (((mg ++ bs).drop (64 * (k + 1))).map vu8)).blocks, w.heap.size ≤ b := fun b hb => hxf b (view_sl_blocks (l := (mg ++ bs).drop (64 * k)) (l' := (mg ++ bs).drop (64 * (k + 1))) (fun h2 e => h2 (by rw [← ed, e]; rfl)) b hb)
      exact ⟨(k + 1, slA xa 64 xc 1, xn - 64, xc - 64), _, (by omega), (Ag.upd rfl (Ag.upd rfl (Ag.upd rfl (Ag.upd rfl (Ag.upd rfl (Ag.upd rfl (Ag.upd rfl (Ag.upd rfl (Ag.updL rfl (Ag.trans (Ag.sub rfl (Ag.mix _ _ _)) (Ag.upd rfl (Ag.upd rfl (Ag.upd rfl (Ag.upd rfl (Ag.upd rfl (Ag.upd rfl (Ag.updL rfl (Ag.mix _ _ _)))))))))))))))))), trivial, h_76, (by rw [List.length_drop, hbl]; omega), (by omega), (by omega), hxf2, rfl⟩
  · have p_77 := of_decide_eq_false c_31
    refine WP.exit ?_
    refine thn_x ?_
    refine thn_x ?_
    refine inb_hit ?_
    refine thn_n ?_
    refine WP.seq ?_
    refine WP.reg ?_
    refine WL.q (Wn.no rfl) rfl rfl (R.assign (v := (vi 0)) rfl) ?_
    refine WL.nil ?_
    refine thn_n ?_
    refine WP.ret ?_
    refine ret_of Try.results98 (RV.tmp (v := (vi 0)) rfl RV.nil) ?_
    have hdl2 : xn = mg.length + n - 64 * k := by rw [← hxn, List.length_drop, hbl]
    have hk2 : k = (mg ++ bs).length / 64 := by omega
    have hcl := h_28.cells (.head _)
    have hvw := viewV (h_28.ok _ (.tail _ (.head _)))
    rw [hk2] at hxn hxf hvw hcl
    rw [← hbl] at hcl
    exact ⟨rfl, h_28.chgS, xa, xn, xc, hcl, hvw, hxn, hxc, fun x hx => ⟨hxf x hx, fun e => by have h1 := hxf x hx; have h2 := hcb.2.2; rw [e] at h1; exact absurd h1 (Nat.not_le.2 h2)⟩⟩
end Go.Proofs.Ytnhppjimimhlkaa

namespace Go.Proofs.Ytnhppjimimhlkaa
open Go.Vc Go.Sh Go.RowKit
set_option maxRecDepth 20000

theorem c_HSum (mg : List UInt8) (ra : Option Addr) (rn rc : Nat) (hrn : (rsL mg).length = rn) (hrc : rn ≤ rc) (bc : Nat) (hm : mg.length ≤ 1000000000000) (w : World) (hvr : View w ra ((rsL mg).map vu8)) (hcb : (Ent.blk bc .ro 176 [(64, kL.map vu32), (8, (stH mg).map vu32), (1, [(.slice ra rn rc)]), (1, [(vi ((mg.length : Nat) : Int))]), (1, [(.bool true)])]).ok w.heap.size w) :
    Cs Try.prog 99 [(.pointer (some ⟨bc, 0, none⟩))].toArray w (fun v w1 => v = (.tuple [(.agg ⟨(sumL mg).map vu8⟩), (vi 0)].toArray) ∧ Chg w w1 []) := by
  refine Cs.of (n := 44) (args := [(.pointer (some ⟨bc, 0, none⟩))]) Try.func99 rfl rfl rfl ?_
  have h_0 := HP.init w
  have h_01 := h_0.oldV (View.arg hvr) rfl (by simp [Ent.mut])
  have h_00 := h_01.oldV hcb rfl (by simp [Ent.mut])
  have hrl := rsL_len mg
  have hpl := padL_len mg.length
  refine WP.seq ?_
  refine WP.reg ?_
  refine WL.alloc (segs := [(32, (List.replicate 32 (0 : UInt8)).map vu8)]) h_00 (zv Try.typeInfo23 rfl) rfl (SsOk.cons (SOk.u8 (List.length_replicate ..)) SsOk.nil) rfl (fun b_1 w_2 h_3 => ?_)
  refine WL.q (Wn.no rfl) rfl rfl (R.assign (v := (vi 0)) rfl) ?_
  refine WL.nil ?_
  refine thn_n ?_
  refine WP.seq ?_
  refine WP.reg ?_
  refine WL.q (Wn.no rfl) rfl rfl (R.move (v := (.pointer (some ⟨bc, 0, none⟩))) rfl) ?_
  refine WL.call (al := [(.pointer (some ⟨bc, 0, none⟩))]) Try.call111 rfl rfl (c_Copy mg ra rn rc hrn (by omega) bc (by omega) _ (viewV (h_3.ok _ (.tail _ (.tail _ (.head _))))) (h_3.argR (.tail _ (.head _)))) rfl ?_
  rintro _ w_5 ⟨b_4, rfl, hc_6, hb_7, ra_8, rn_9, rc_10, hk_11, hv_12, hn_13, hq_14, hf_15⟩
  have h_16 := HP_gotHash (segs := [(64, kL.map vu32), (8, (stH mg).map vu32), (1, [(.slice ra_8 rn_9 rc_10)]), (1, [(vi ((mg.length : Nat) : Int))]), (1, [(.bool true)])]) h_3 hc_6 hb_7 (SsOk.cons (SOk.u32 kL_len) (SsOk.cons (SOk.u32 (stH_len mg)) (SsOk.cons (SOk.v rfl) (SsOk.cons (SOk.v rfl) (SsOk.cons (SOk.v rfl) SsOk.nil))))) hk_11 hv_12 hf_15
  refine WL.q (Wn.no rfl) rfl rfl (R.assign (v := (.pointer (some ⟨b_4, 0, none⟩))) rfl) ?_
  refine WL.nil ?_
  refine thn_n ?_
  refine WP.seq ?_
  refine WP.seq ?_
  refine WP.reg ?_
  refine WL.q (Wn.no rfl) rfl rfl (R.move (v := (.pointer (some ⟨b_4, 0, none⟩))) rfl) ?_
  refine WL.q (Wn.no rfl) rfl rfl (R.eqNilP rfl rfl Try.underlying159) ?_
  refine WL.nil ?_
  refine thn_n ?_
  refine WP.condF rfl ?_
  refine WP.skip ?_
  refine thn_n ?_
  refine WP.seq ?_
  refine WP.reg ?_
  refine WL.q (Wn.no rfl) rfl rfl (R.move (v := (.pointer (some ⟨b_4, 0, none⟩))) rfl) ?_
  refine WL.q (Wn.no rfl) rfl rfl (R.move (v := (.pointer (some ⟨bc, 0, none⟩))) rfl) ?_
  refine WL.q (Wn.no rfl) rfl rfl (R.nilCheck rfl) ?_
  refine WL.q (Wn.no rfl) rfl rfl (R.fieldAddr (b := bc) (off := 0) (off' := 73) rfl Try.underlying176 rfl Try.sizeOf3 rfl rfl) ?_
  refine WL.q (Wn.no rfl) rfl rfl (R.load1 (b := bc) (off := 73) (v := (vi ((mg.length : Nat) : Int))) rfl Try.isAgg3 (h_16.ok _ (.tail _ (.tail _ (.tail _ (.head _))))) (Sg.t rfl (Sg.t rfl (Sg.t rfl Sg.h)))) ?_
  refine WL.call (al := [(vi ((mg.length : Nat) : Int))]) Try.call112 rfl rfl (c_padding mg.length (by omega) _) rfl ?_
  rintro _ w_19 ⟨a_17, cap_18, rfl, hc_20, ho_21⟩
  have h_22 := h_16.gotRow hc_20 ho_21
  have h_23 := h_22.up (Pick.t Pick.h)
  refine WL.call (al := [(.pointer (some ⟨b_4, 0, none⟩)), (.slice a_17 ((padL mg.length).length) cap_18)]) Try.call98 rfl rfl (c_Write mg ra_8 rn_9 rc_10 hn_13 (by omega) b_4 (by omega) a_17 ((padL mg.length).length) cap_18 (padL mg.length) (rfl : List.length (padL mg.length) = (padL mg.length).length) (by omega) (h_23.own (.tail _ (.head _))).2.2.1 _ (viewV (h_23.ok _ (.tail _ (.tail _ (.head _))))) (ownView (h_23.ok _ (.tail _ (.head _)))) (h_23.arg (.head _)) (Sep_off (m := .nw) (T := 176) (segs := [(64, kL.map vu32), (8, (stH mg).map vu32), (1, [(.slice ra_8 rn_9 rc_10)]), (1, [(vi ((mg.length : Nat) : Int))]), (1, [(.bool true)])]) (by decide) (Sep.view (by decide) (fun h => h) (h_23.ne (i := 0) (j := 2) rfl rfl rfl).symm)) (Sep_off (m := .nw) (T := 176) (segs := [(64, kL.map vu32), (8, (stH mg).map vu32), (1, [(.slice ra_8 rn_9 rc_10)]), (1, [(vi ((mg.length : Nat) : Int))]), (1, [(.bool true)])]) (by decide) (Sep.viewRow (h_23.ne (i := 0) (j := 1) rfl rfl rfl).symm))) rfl ?_
  rintro _ w_24 ⟨rfl, hc_25, ra_26, rn_27, rc_28, hk_29, hv_30, hn_31, hq_32, hf_33⟩
  have h_34 := HP_passedHash (segs' := [(64, kL.map vu32), (8, (stH (mg ++ (padL mg.length))).map vu32), (1, [(.slice ra_26 rn_27 rc_28)]), (1, [(vi (((mg ++ (padL mg.length)).length : Nat) : Int))]), (1, [(.bool true)])]) h_23 (by decide) hc_25 (SsOk.cons (SOk.u32 kL_len) (SsOk.cons (SOk.u32 (stH_len (mg ++ (padL mg.length)))) (SsOk.cons (SOk.v rfl) (SsOk.cons (SOk.v rfl) (SsOk.cons (SOk.v rfl) SsOk.nil))))) hk_29 hv_30 hf_33
  refine WL.nil ?_
  refine thn_n ?_
  refine WP.seq ?_
  refine WP.reg ?_
  refine WL.alloc (segs := [(32, (List.replicate 32 (0 : UInt8)).map vu8)]) h_34 (zv Try.typeInfo23 rfl) rfl (SsOk.cons (SOk.u8 (List.length_replicate ..)) SsOk.nil) rfl (fun b_35 w_36 h_37 => ?_)
  refine WL.nil ?_
  refine thn_n ?_
  refine WP.seq ?_
  refine WP.seq ?_
  refine WP.reg ?_
  refine WL.q (Wn.no rfl) rfl rfl (R.move (v := (.pointer (some ⟨b_4, 0, none⟩))) rfl) ?_
  refine WL.q (Wn.no rfl) rfl rfl (R.nilCheck rfl) ?_
  refine WL.q (Wn.no rfl) rfl rfl (R.fieldAddr (b := b_4) (off := 0) (off' := 64) rfl Try.underlying176 rfl Try.sizeOf172 rfl rfl) ?_
  refine WL.q (Wn.no rfl) rfl rfl (R.loadA (b := b_4) (off := 64) [(64, kL.map vu32)] [(8, (stH (mg ++ (padL mg.length))).map vu32)] [(1, [(.slice ra_26 rn_27 rc_28)]), (1, [(vi (((mg ++ (padL mg.length)).length : Nat) : Int))]), (1, [(.bool true)])] (cs := (stH (mg ++ (padL mg.length))).map vu32) rfl Try.isAgg172 Try.sizeOf172 (h_37.ok _ (.tail _ (.tail _ (.head _)))) rfl rfl rfl rfl) ?_
  refine WL.q (Wn.no rfl) rfl rfl (R.move (v := (vi 0)) rfl) ?_
  refine WL.nil ?_
  refine thn_n ?_
  refine WP.block ?_
  refine WP.loopG (G := Nat) [6, 7, 8, 9, 26, 27, 28, 29, 30, 31, 32, 33, 34, 35, 36, 37, 38, 39, 40, 41, 42] (fun i => [(26, (vi ((i : Nat) : Int)))]) (fun i m w1 => HP w w1 [.blk b_35 .nw 23 [(32, (mix (digL (stH (mg ++ padL mg.length))) (List.replicate 32 0) (4 * i)).map vu8)], .view ra_26 ((rsL (mg ++ (padL mg.length))).map vu8), .blk b_4 .nw 176 [(64, kL.map vu32), (8, (stH (mg ++ (padL mg.length))).map vu32), (1, [(.slice ra_26 rn_27 rc_28)]), (1, [(vi (((mg ++ (padL mg.length)).length : Nat) : Int))]), (1, [(.bool true)])], .row a_17 ((padL mg.length).length) cap_18 5 1 ((padL mg.length).map vu8), .view ra_8 ((rsL mg).map vu8), .blk b_1 .nw 23 [(32, (List.replicate 32 (0 : UInt8)).map vu8)], .blk bc .ro 176 [(64, kL.map vu32), (8, (stH mg).map vu32), (1, [(.slice ra rn rc)]), (1, [(vi ((mg.length : Nat) : Int))]), (1, [(.bool true)])], .view ra ((rsL mg).map vu8)] ∧ (i ≤ 8) ∧ m = 8 - i) ⟨0, _, ⟨rfl, trivial⟩, (by rw [Nat.mul_zero, mix_0]; exact h_37), (by omega), rfl⟩ ?_
  rintro i m_40 J_41 w_38 ⟨h_39, hi, rfl⟩
  have hx4 : (UInt64.ofNat (((stH (mg ++ padL mg.length))).getD i 0).toNat).toNat < 256 ^ 4 := by have h1 := (((stH (mg ++ padL mg.length))).getD i 0).toNat_lt; rw [nat64 (by omega)]; exact h1
  refine WP.seq ?_
  refine WP.reg ?_
  refine WL.q (Wn.no rfl) rfl rfl (R.bin (v := (.bool (decide ((((i : Nat) : Int) : Int) < 8)))) rfl rfl (bi_lss (r := decide ((((i : Nat) : Int) : Int) < 8)) rfl)) ?_
  refine WL.nil ?_
  refine thn_n ?_
  refine WP.seq ?_
  refine WP.cond (b := decide ((((i : Nat) : Int) : Int) < 8)) rfl (fun c_42 => ?_) (fun c_42 => ?_)
  · have p_43 := of_decide_eq_true c_42
    refine WP.skip ?_
    refine thn_n ?_
    refine WP.seq ?_
    refine WP.block ?_
    refine WP.seq ?_
    refine WP.reg ?_
    refine WL.q (Wn.no rfl) rfl rfl (R.move (v := (vi ((i : Nat) : Int))) rfl) ?_
    refine WL.q (Wn.no rfl) rfl rfl (R.indexV (i := i) (cs := (stH (mg ++ (padL mg.length))).map vu32) (v := (vu32 ((stH (mg ++ (padL mg.length))).getD i 0))) rfl rfl rfl (by omega) Try.underlying172 Try.isAgg170 Try.sizeOf170 (get_u32 (lt_len (K := 8) (stH_len (mg ++ (padL mg.length))) (by omega)))) ?_
    refine WL.q (Wn.no rfl) rfl rfl (R.assign (v := (vi ((i : Nat) : Int))) rfl) ?_
    refine WL.q (Wn.no rfl) rfl rfl (R.assign (v := (vu32 ((stH (mg ++ (padL mg.length))).getD i 0))) rfl) ?_
    refine WL.nil ?_
    refine thn_n ?_
    refine WP.seq ?_
    refine WP.reg ?_
    refine WL.q (Wn.no rfl) rfl rfl (R.move (v := (vu32 ((stH (mg ++ (padL mg.length))).getD i 0))) rfl) ?_
    refine WL.q (Wn.no rfl) rfl rfl (R.conv (b := ((UInt64.ofNat (((stH (mg ++ (padL mg.length))).getD i 0).toNat)) : UInt64).toNat) rfl Try.underlying170 Try.underlying28 (w64_nat (((stH (mg ++ (padL mg.length))).getD i 0).toNat))) ?_
    refine WL.call (al := [(vu64 (UInt64.ofNat (((stH (mg ++ (padL mg.length))).getD i 0).toNat))), (vi 4)]) Try.call76 rfl rfl (c_Put_a (UInt64.ofNat (((stH (mg ++ (padL mg.length))).getD i 0).toNat)) 4 (by decide) (by decide) hx4 _) rfl ?_
    rintro _ w_46 ⟨a_44, cap_45, rfl, hc_47, ho_48⟩
    have h_49 := h_39.gotRow hc_47 ho_48
    refine WL.q (Wn.no rfl) rfl rfl (R.move (v := (.tuple [(.slice a_44 4 cap_45), (vi 0)].toArray)) rfl) ?_
    refine WL.q (Wn.no rfl) rfl rfl (R.extract (l := [(.slice a_44 4 cap_45), (vi 0)]) (v := (.slice a_44 4 cap_45)) rfl rfl) ?_
    refine WL.q (Wn.no rfl) rfl rfl (R.extract (l := [(.slice a_44 4 cap_45), (vi 0)]) (v := (vi 0)) rfl rfl) ?_
    refine WL.q (Wn.no rfl) rfl rfl (R.assign (v := (.slice a_44 4 cap_45)) rfl) ?_
    refine WL.q (Wn.no rfl) rfl rfl (R.assign (v := (vi 0)) rfl) ?_
    refine WL.nil ?_
    refine thn_n ?_
    refine WP.drawT (SL w.heap.size [.row a_44 4 cap_45 5 1 ((leN 4 (UInt64.ofNat (((stH (mg ++ (padL mg.length))).getD i 0).toNat)).toNat).map vu8), .view ra_26 ((rsL (mg ++ (padL mg.length))).map vu8), .blk b_4 .nw 176 [(64, kL.map vu32), (8, (stH (mg ++ (padL mg.length))).map vu32), (1, [(.slice ra_26 rn_27 rc_28)]), (1, [(vi (((mg ++ (padL mg.length)).length : Nat) : Int))]), (1, [(.bool true)])], .row a_17 ((padL mg.length).length) cap_18 5 1 ((padL mg.length).map vu8), .view ra_8 ((rsL mg).map vu8), .blk b_1 .nw 23 [(32, (List.replicate 32 (0 : UInt8)).map vu8)], .blk bc .ro 176 [(64, kL.map vu32), (8, (stH mg).map vu32), (1, [(.slice ra rn rc)]), (1, [(vi ((mg.length : Nat) : Int))]), (1, [(.bool true)])], .view ra ((rsL mg).map vu8)]) (.q 0 (.q 1 (.q 2 (.q 3 (.s 4 (.s 5 .nil)))))) (by kernel_rfl) (by kernel_rfl) rfl (by kernel_rfl) (fun w_50 hc_52 => (SL.cons ((h_49.same hc_52).ok _ (.head _)) (SL.cons ((h_49.same hc_52).ok _ (.tail _ (.tail _ (.head _)))) (SL.cons ((h_49.same hc_52).ok _ (.tail _ (.tail _ (.tail _ (.head _))))) (SL.cons ((h_49.same hc_52).ok _ (.tail _ (.tail _ (.tail _ (.tail _ (.head _)))))) (SL.cons ((h_49.same hc_52).ok _ (.tail _ (.tail _ (.tail _ (.tail _ (.tail _ (.head _))))))) (SL.cons ((h_49.same hc_52).ok _ (.tail _ (.tail _ (.tail _ (.tail _ (.tail _ (.tail _ (.head _)))))))) (SL.cons ((h_49.same hc_52).ok _ (.tail _ (.tail _ (.tail _ (.tail _ (.tail _ (.tail _ (.tail _ (.head _))))))))) (SL.cons ((h_49.same hc_52).ok _ (.tail _ (.tail _ (.tail _ (.tail _ (.tail _ (.tail _ (.tail _ (.tail _ (.head _)))))))))) (SL.nil _ _)))))))))) (fun w_50 hc_52 => ?_)
    have h_51 := h_49.same hc_52
    refine WT.q rfl (Wn.no rfl) rfl rfl (fun wq hS => R.move (v := (vi ((i : Nat) : Int))) rfl) ?_
    refine WT.q rfl (Wn.no rfl) rfl rfl (fun wq hS => R.bin (v := (vi ((4 * i : Nat) : Int))) rfl rfl (bi_mul (c := ((4 * i : Nat) : Int)) (by omega) (by omega))) ?_
    refine WT.q rfl (Wn.no rfl) rfl rfl (fun wq hS => R.sliceA (b := b_35) (off := 0) (off' := (0 + (4 * i))) (l := 4 * i) (h := 32) rfl (EvB.it (l := 4 * i) rfl rfl) EvB.dflt (by omega) (by decide) Try.underlying23 Try.sizeOf5 (by rw [if_neg (by omega), Nat.mul_one])) ?_
    refine WT.q rfl (Wn.no rfl) rfl rfl (fun wq hS => R.move (v := (.slice a_44 4 cap_45)) rfl) ?_
    refine WT.s ?_
    refine Op1.one rfl (Wn.no rfl) ?_
    refine WL.call (al := [(.slice a_44 4 cap_45)]) Try.call113 rfl rfl (c_Turned a_44 4 cap_45 (leN 4 (UInt64.ofNat (((stH (mg ++ (padL mg.length))).getD i 0).toNat)).toNat) (leN_len ..) (by omega) _ (ownView (h_51.ok _ (.head _)))) rfl ?_
    rintro _ w_55 ⟨a_53, cap_54, rfl, hc_56, ho_57⟩
    have h_58 := h_51.gotRow hc_56 ho_57
    refine WL.nil ?_
    refine ⟨(SL.cons (h_58.ok _ (.tail _ (.head _))) (SL.cons (h_58.ok _ (.tail _ (.tail _ (.tail _ (.head _))))) (SL.cons (h_58.ok _ (.tail _ (.tail _ (.tail _ (.tail _ (.head _)))))) (SL.cons (h_58.ok _ (.tail _ (.tail _ (.tail _ (.tail _ (.tail _ (.head _))))))) (SL.cons (h_58.ok _ (.tail _ (.tail _ (.tail _ (.tail _ (.tail _ (.tail _ (.head _)))))))) (SL.cons (h_58.ok _ (.tail _ (.tail _ (.tail _ (.tail _ (.tail _ (.tail _ (.tail _ (.head _))))))))) (SL.cons (h_58.ok _ (.tail _ (.tail _ (.tail _ (.tail _ (.tail _ (.tail _ (.tail _ (.tail _ (.head _)))))))))) (SL.cons (h_58.ok _ (.tail _ (.tail _ (.tail _ (.tail _ (.tail _ (.tail _ (.tail _ (.tail _ (.tail _ (.head _))))))))))) (SL.nil _ _))))))))), ?_⟩
    refine WT.s ?_
    refine Op1.one rfl (Wn.no rfl) ?_
    refine WL.copy (q := 4) (i := 4 * i) (ys := ((leN 4 (UInt64.ofNat (((stH (mg ++ (padL mg.length))).getD i 0).toNat)).toNat).reverse).map vu8) (cs' := (ovr (mix (digL (stH (mg ++ padL mg.length))) (List.replicate 32 0) (4 * i)) (4 * i) ((leN 4 (UInt64.ofNat (((stH (mg ++ (padL mg.length))).getD i 0).toNat)).toNat).reverse)).map vu8) h_58 rfl rfl Try.underlying37 Try.sizeOf5 (ownView (h_58.ok _ (.head _))) (len_map ((List.length_reverse ..).trans (leN_len ..))) (one_u8 _) (At.t (At.t At.h)) (by decide) Sg.h rfl (Nat.min_eq_left (by omega)) (by rw [len_map (mix_len (digL_len _) (List.length_replicate ..))]; omega) (cpOvr ((List.length_reverse ..).trans (leN_len ..))) rfl (fun w_59 h_60 => ?_)
    refine WL.nil ?_
    refine ⟨(SL.cons (h_60.ok _ (.tail _ (.head _))) (SL.cons (h_60.ok _ (.tail _ (.tail _ (.tail _ (.head _))))) (SL.cons (h_60.ok _ (.tail _ (.tail _ (.tail _ (.tail _ (.head _)))))) (SL.cons (h_60.ok _ (.tail _ (.tail _ (.tail _ (.tail _ (.tail _ (.head _))))))) (SL.cons (h_60.ok _ (.tail _ (.tail _ (.tail _ (.tail _ (.tail _ (.tail _ (.head _)))))))) (SL.cons (h_60.ok _ (.tail _ (.tail _ (.tail _ (.tail _ (.tail _ (.tail _ (.tail _ (.head _))))))))) (SL.cons (h_60.ok _ (.tail _ (.tail _ (.tail _ (.tail _ (.tail _ (.tail _ (.tail _ (.tail _ (.head _)))))))))) (SL.cons (h_60.ok _ (.tail _ (.tail _ (.tail _ (.tail _ (.tail _ (.tail _ (.tail _ (.tail _ (.tail _ (.head _))))))))))) (SL.nil _ _))))))))), ?_⟩
    refine WT.nil ?_
    refine inb_n ?_
    refine thn_n ?_
    refine WP.reg ?_
    refine WL.q (Wn.no rfl) rfl rfl (R.bin (v := (vi ((i + 1 : Nat) : Int))) rfl rfl (bi_add (c := ((i + 1 : Nat) : Int)) (by omega) (by omega))) ?_
    refine WL.q (Wn.no rfl) rfl rfl (R.move (v := (vi ((i + 1 : Nat) : Int))) rfl) ?_
    refine WL.nil ?_
    refine thn_n ?_
    have h_61 := h_60.drop rfl
    have h_62 := h_61.drop rfl
    have h_63 := h_62.up (Pick.t (Pick.t (Pick.t (Pick.t (Pick.t (Pick.t (Pick.t Pick.h)))))))
    have h_64 := h_63.up (Pick.t (Pick.t (Pick.t (Pick.t (Pick.t (Pick.t (Pick.t Pick.h)))))))
    have h_65 := h_64.up (Pick.t (Pick.t (Pick.t (Pick.t (Pick.t (Pick.t (Pick.t Pick.h)))))))
    have h_66 := h_65.up (Pick.t (Pick.t (Pick.t (Pick.t (Pick.t (Pick.t (Pick.t Pick.h)))))))
    have h_67 := h_66.up (Pick.t (Pick.t (Pick.t (Pick.t (Pick.t (Pick.t (Pick.t Pick.h)))))))
    have h_68 := h_67.up (Pick.t (Pick.t (Pick.t (Pick.t (Pick.t (Pick.t (Pick.t Pick.h)))))))
    have h_69 := h_68.up (Pick.t (Pick.t (Pick.t (Pick.t (Pick.t (Pick.t (Pick.t Pick.h)))))))
    have h_70 := h_69.up (Pick.t (Pick.t (Pick.t (Pick.t (Pick.t (Pick.t (Pick.t Pick.h)))))))
    rw [dig_ovr (by omega) _ rfl] at h_70
    exact ⟨i + 1, _, (by omega), (Ag.upd rfl (Ag.upd rfl (Ag.upd rfl (Ag.upd rfl (Ag.upd rfl (Ag.upd rfl (Ag.upd rfl (Ag.upd rfl (Ag.upd rfl (Ag.upd rfl (Ag.upd rfl (Ag.upd rfl (Ag.upd rfl (Ag.upd rfl (Ag.upd rfl (Ag.upd rfl (Ag.upd rfl (Ag.upd rfl (Ag.upd rfl (Ag.upd rfl (Ag.upd rfl (Ag.updL rfl (Ag.mix _ _ _))))))))))))))))))))))), ⟨rfl, trivial⟩, h_70, (by omega), rfl⟩
  · have p_71 := of_decide_eq_false c_42
    refine WP.exit ?_
    refine thn_x ?_
    refine thn_x ?_
    refine inb_hit ?_
    refine thn_n ?_
    refine WP.seq ?_
    refine WP.reg ?_
    refine WL.q (Wn.no rfl) rfl rfl (R.loadA (b := b_35) (off := 0) [] [(32, (mix (digL (stH (mg ++ padL mg.length))) (List.replicate 32 0) (4 * i)).map vu8)] [] (cs := (mix (digL (stH (mg ++ padL mg.length))) (List.replicate 32 0) (4 * i)).map vu8) rfl Try.isAgg23 Try.sizeOf23 (h_39.ok _ (.head _)) rfl rfl rfl rfl) ?_
    refine WL.storeA (b := b_1) (off := 0) [] [(32, (List.replicate 32 (0 : UInt8)).map vu8)] [(32, (mix (digL (stH (mg ++ padL mg.length))) (List.replicate 32 0) (4 * i)).map vu8)] [] (ys := (mix (digL (stH (mg ++ padL mg.length))) (List.replicate 32 0) (4 * i)).map vu8) h_39 rfl rfl Try.sizeOf23 (At.t (At.t (At.t (At.t (At.t At.h))))) (by decide) rfl rfl rfl rfl rfl rfl (SsOk.cons (SOk.u8 (mix_len (digL_len _) (List.length_replicate ..))) SsOk.nil) (fun w_72 h_73 => ?_)
    refine WL.q (Wn.no rfl) rfl rfl (R.assign (v := (vi 0)) rfl) ?_
    refine WL.nil ?_
    refine thn_n ?_
    refine WP.ret ?_
    refine ret_of Try.results99 (RV.cell rfl (h_73.loadA (cs := (mix (digL (stH (mg ++ padL mg.length))) (List.replicate 32 0) (4 * i)).map vu8) Try.isAgg23 Try.sizeOf23 (.tail _ (.tail _ (.tail _ (.tail _ (.tail _ (.head _)))))) rfl rfl) (RV.tmp (v := (vi 0)) rfl RV.nil)) ?_
    have hi8 : i = 8 := by omega
    subst hi8
    have ed := dig_all (stH (mg ++ padL mg.length))
    exact ⟨by rw [show 4 * 8 = 32 from rfl, ed, sum_dig]; rfl, h_73.chgS⟩

theorem c_Sum (a : Option Addr) (n cap : Nat) (bs : List UInt8) (hl : bs.length = n) (hn : n ≤ 1000000000000) (hcap : n ≤ cap) (w : World) (hv : View w a (bs.map vu8)) :
    Cs Try.prog 81 [(.slice a n cap)].toArray w (fun v w1 => v = (.agg ⟨(sumL bs).map vu8⟩) ∧ Chg w w1 []) := by
  refine Cs.of (n := 16) (args := [(.slice a n cap)]) Try.func81 rfl rfl rfl ?_
  have h_0 := HP.init w
  have h_00 := h_0.old (View.arg hv) (fun f hf => by cases hf)
  refine WP.seq ?_
  refine WP.reg ?_
  refine WL.alloc (segs := [(32, (List.replicate 32 (0 : UInt8)).map vu8)]) h_00 (zv Try.typeInfo23 rfl) rfl (SsOk.cons (SOk.u8 (List.length_replicate ..)) SsOk.nil) rfl (fun b_1 w_2 h_3 => ?_)
  refine WL.nil ?_
  refine thn_n ?_
  refine WP.seq ?_
  refine WP.reg ?_
  refine WL.call (al := []) Try.call97 rfl rfl (c_New _) rfl ?_
  rintro _ w_5 ⟨b_4, rfl, hc_6, hb_7, ra_8, rn_9, rc_10, hk_11, hv_12, hn_13, hq_14, hf_15⟩
  have h_16 := HP_gotHash (segs := [(64, kL.map vu32), (8, (stH ([] : List UInt8)).map vu32), (1, [(.slice ra_8 rn_9 rc_10)]), (1, [(vi ((([] : List UInt8).length : Nat) : Int))]), (1, [(.bool true)])]) h_3 hc_6 hb_7 (SsOk.cons (SOk.u32 kL_len) (SsOk.cons (SOk.u32 (stH_len ([] : List UInt8))) (SsOk.cons (SOk.v rfl) (SsOk.cons (SOk.v rfl) (SsOk.cons (SOk.v rfl) SsOk.nil))))) hk_11 hv_12 hf_15
  refine WL.q (Wn.no rfl) rfl rfl (R.assign (v := (.pointer (some ⟨b_4, 0, none⟩))) rfl) ?_
  refine WL.nil ?_
  refine thn_n ?_
  refine WP.seq ?_
  refine WP.reg ?_
  refine WL.q (Wn.no rfl) rfl rfl (R.move (v := (.pointer (some ⟨b_4, 0, none⟩))) rfl) ?_
  refine WL.q (Wn.no rfl) rfl rfl (R.move (v := (.slice a n cap)) rfl) ?_
  refine WL.call (al := [(.pointer (some ⟨b_4, 0, none⟩)), (.slice a n cap)]) Try.call98 rfl rfl (c_Write ([] : List UInt8) ra_8 rn_9 rc_10 hn_13 (by omega) b_4 (by decide) a n cap bs hl (by omega) (by omega) _ (viewV (h_16.ok _ (.tail _ (.head _)))) (viewV (h_16.ok _ (.tail _ (.tail _ (.tail _ (.head _)))))) (h_16.arg (.head _)) (Sep_off (m := .nw) (T := 176) (segs := [(64, kL.map vu32), (8, (stH ([] : List UInt8)).map vu32), (1, [(.slice ra_8 rn_9 rc_10)]), (1, [(vi ((([] : List UInt8).length : Nat) : Int))]), (1, [(.bool true)])]) (by decide) (Sep.view (by decide) (fun h => h) (h_16.ne (i := 0) (j := 1) rfl rfl rfl).symm)) (Sep_off (m := .nw) (T := 176) (segs := [(64, kL.map vu32), (8, (stH ([] : List UInt8)).map vu32), (1, [(.slice ra_8 rn_9 rc_10)]), (1, [(vi ((([] : List UInt8).length : Nat) : Int))]), (1, [(.bool true)])]) (by decide) (Sep.view (by decide) (fun h => h) (h_16.ne (i := 0) (j := 3) rfl rfl rfl).symm))) rfl ?_
  rintro _ w_17 ⟨rfl, hc_18, ra_19, rn_20, rc_21, hk_22, hv_23, hn_24, hq_25, hf_26⟩
  have h_27 := HP_passedHash (segs' := [(64, kL.map vu32), (8, (stH bs).map vu32), (1, [(.slice ra_19 rn_20 rc_21)]), (1, [(vi ((bs.length : Nat) : Int))]), (1, [(.bool true)])]) h_16 (by decide) hc_18 (SsOk.cons (SOk.u32 kL_len) (SsOk.cons (SOk.u32 (stH_len bs)) (SsOk.cons (SOk.v rfl) (SsOk.cons (SOk.v rfl) (SsOk.cons (SOk.v rfl) SsOk.nil))))) hk_22 hv_23 hf_26
  refine WL.nil ?_
  refine thn_n ?_
  refine WP.seq ?_
  refine WP.reg ?_
  refine WL.q (Wn.no rfl) rfl rfl (R.move (v := (.pointer (some ⟨b_4, 0, none⟩))) rfl) ?_
  refine WL.call (al := [(.pointer (some ⟨b_4, 0, none⟩))]) Try.call99 rfl rfl (c_HSum bs ra_19 rn_20 rc_21 hn_24 (by omega) b_4 (by omega) _ (viewV (h_27.ok _ (.head _))) (h_27.argR (.tail _ (.head _)))) rfl ?_
  rintro _ w_29 ⟨rfl, hc_28⟩
  have h_30 := h_27.same hc_28
  refine WL.q (Wn.no rfl) rfl rfl (R.move (v := (.tuple [(.agg ⟨(sumL bs).map vu8⟩), (vi 0)].toArray)) rfl) ?_
  refine WL.q (Wn.no rfl) rfl rfl (R.extract (l := [(.agg ⟨(sumL bs).map vu8⟩), (vi 0)]) (v := (.agg ⟨(sumL bs).map vu8⟩)) rfl rfl) ?_
  refine WL.q (Wn.no rfl) rfl rfl (R.extract (l := [(.agg ⟨(sumL bs).map vu8⟩), (vi 0)]) (v := (vi 0)) rfl rfl) ?_
  refine WL.alloc (segs := [(32, (List.replicate 32 (0 : UInt8)).map vu8)]) h_30 (zv Try.typeInfo23 rfl) rfl (SsOk.cons (SOk.u8 (List.length_replicate ..)) SsOk.nil) rfl (fun b_31 w_32 h_33 => ?_)
  refine WL.storeA (b := b_31) (off := 0) [] [(32, (List.replicate 32 (0 : UInt8)).map vu8)] [(32, (sumL bs).map vu8)] [] (ys := (sumL bs).map vu8) h_33 rfl rfl Try.sizeOf23 At.h (by decide) rfl rfl rfl rfl rfl rfl (SsOk.cons (SOk.u8 (sumL_len _)) SsOk.nil) (fun w_34 h_35 => ?_)
  refine WL.q (Wn.no rfl) rfl rfl (R.assign (v := (vi 0)) rfl) ?_
  refine WL.nil ?_
  refine thn_n ?_
  refine WP.seq ?_
  refine WP.reg ?_
  refine WL.q (Wn.no rfl) rfl rfl (R.loadA (b := b_31) (off := 0) [] [(32, (sumL bs).map vu8)] [] (cs := (sumL bs).map vu8) rfl Try.isAgg23 Try.sizeOf23 (h_35.ok _ (.head _)) rfl rfl rfl rfl) ?_
  refine WL.storeA (b := b_1) (off := 0) [] [(32, (List.replicate 32 (0 : UInt8)).map vu8)] [(32, (sumL bs).map vu8)] [] (ys := (sumL bs).map vu8) h_35 rfl rfl Try.sizeOf23 (At.t (At.t (At.t (At.t At.h)))) (by decide) rfl rfl rfl rfl rfl rfl (SsOk.cons (SOk.u8 (sumL_len _)) SsOk.nil) (fun w_36 h_37 => ?_)
  refine WL.nil ?_
  refine thn_n ?_
  refine WP.ret ?_
  refine ret_of Try.results81 (RV.cell rfl (h_37.loadA (cs := (sumL bs).map vu8) Try.isAgg23 Try.sizeOf23 (.tail _ (.tail _ (.tail _ (.tail _ (.head _))))) rfl rfl) RV.nil) ?_
  exact ⟨rfl, h_37.chgS⟩
end Go.Proofs.Ytnhppjimimhlkaa

namespace Go.Sh
open Go.Vc
def padK (k : List UInt8) : List UInt8 := k ++ List.replicate (64 - k.length) 0
theorem padK_len {k : List UInt8} {n : Nat} (hl : k.length = n) (h : n ≤ 64) : (padK k).length = 64 := by rw [padK, List.length_append, List.length_replicate]; omega
def xm (m : UInt8) (l : List UInt8) : List UInt8 := l.map fun x => x ^^^ m
theorem xm_len (m : UInt8) (l : List UInt8) : (xm m l).length = l.length := by simp [xm]
theorem xm_get {m : UInt8} {l : List UInt8} {i : Nat} (hi : i < l.length) : (xm m l).getD i 0 = l.getD i 0 ^^^ m := by simp [xm, hi]
theorem xm_step {m : UInt8} {l : List UInt8} {i n : Nat} (hl : l.length = n) (hi : i < n) : (mix (xm m l) l i).set i ((mix (xm m l) l i).getD i 0 ^^^ m) = mix (xm m l) l (i + 1) := by
  have hx : (xm m l).length = n := by rw [xm_len, hl]
  rw [mix_get hx hi, ← xm_get (by omega)]
  exact mix_set hx hl hi
theorem xm_all {m : UInt8} {l : List UInt8} {n : Nat} (hl : l.length = n) : mix (xm m l) l n = xm m l := mix_all (by rw [xm_len, hl]) hl (Nat.le_refl _)
theorem ovr_pad {k : List UInt8} {n : Nat} (hl : k.length = n) : ovr (List.replicate 64 (0 : UInt8)) 0 k = padK k := by
  rw [ovr, padK, List.take_zero, List.nil_append, Nat.zero_add, List.drop_replicate]
theorem flat2 (a b : List UInt8) : [a, b].flatten = a ++ b := by simp
def tagK (k b : List UInt8) : List UInt8 := sumL (xm 92 (padK k) ++ sumL (xm 54 (padK k) ++ b))
def tagL (key b : List UInt8) : List UInt8 := if 64 < key.length then tagK (sumL key) b else tagK key b
theorem tagK_len (k b : List UInt8) : (tagK k b).length = 32 := sumL_len _
theorem tagL_len (key b : List UInt8) : (tagL key b).length = 32 := by rw [tagL]; split <;> exact tagK_len _ _
theorem tag_s {key b : List UInt8} {n : Nat} (hl : key.length = n) (h : ¬ 64 < n) : tagL key b = tagK key b := if_neg (by omega)
theorem tag_l {key b : List UInt8} {n : Nat} (hl : key.length = n) (h : 64 < n) : tagL key b = tagK (sumL key) b := if_pos (by omega)
def difN (a b : List UInt8) : Nat → UInt8
  | 0 => 0
  | i + 1 => difN a b i ||| (a.getD i 0 ^^^ b.getD i 0)
def deriveL (key l : List UInt8) (x : UInt64) : List UInt8 := tagL key (Go.Wr.packL [l, leN 8 x.toNat])
def kfL (key l : List UInt8) : Nat → List UInt8
  | 0 => []
  | k + 1 => kfL key l k ++ deriveL key l (UInt64.ofNat k)
end Go.Sh
namespace Go.Vc
section
variable {P : Program} {F : Fr} {w : World}
variable {ty : TypeId} {pos : String} {after : Array Edge} {dst : Option Tmp} {g : Option (Nat × Bool)}
end
end Go.Vc
namespace Go.Sh
open Go.Vc
def halfL (d : List UInt8) (c : Nat) : List UInt8 := (d.drop c).take 16
def K11 : List UInt8 := List.replicate 20 11
end Go.Sh

namespace Go.Proofs.Ytnhppjimimhlkaa
open Go.Vc Go.Sh Go.RowKit
set_option maxRecDepth 20000

theorem c_Tag1 (mk : UInt8) (key : List UInt8) (ak : Option Addr) (nk ck : Nat) (hkl : key.length = nk) (hk64 : nk ≤ 64) (bc : Nat) (a2 : Option Addr) (n2 cap2 : Nat) (bs2 : List UInt8) (hl2 : bs2.length = n2) (hcap2 : n2 ≤ cap2) (hn2 : n2 ≤ 100000000000) (w : World) (hvk : View w ak (key.map vu8)) (hcb : (Ent.blk bc .ro 37 [(1, [(.slice ak nk ck)])]).ok w.heap.size w) (hv2 : View w a2 (bs2.map vu8)) :
    Cs Try.prog 100 [(vu8 mk), (.slice a2 n2 cap2), (.pointer (some ⟨bc, 0, none⟩))].toArray w (fun v w1 => v = (.agg ⟨(sumL (xm mk (padK key) ++ bs2)).map vu8⟩) ∧ Chg w w1 []) := by
  refine Cs.of (n := 26) (args := [(vu8 mk), (.slice a2 n2 cap2), (.pointer (some ⟨bc, 0, none⟩))]) Try.func100 rfl rfl rfl ?_
  have h_0 := HP.init w
  have h_01 := h_0.oldV (View.arg hvk) rfl (by simp [Ent.mut])
  have h_02 := h_01.oldV hcb rfl (by simp [Ent.mut])
  have h_00 := h_02.oldV (View.arg hv2) rfl (by simp [Ent.mut])
  have hfl : ([xm mk (padK key), bs2].flatten).length = 64 + n2 := by rw [flat2, List.length_append, xm_len, (padK_len hkl hk64), hl2]
  refine WP.seq ?_
  refine WP.reg ?_
  refine WL.alloc (segs := [(32, (List.replicate 32 (0 : UInt8)).map vu8)]) h_00 (zv Try.typeInfo23 rfl) rfl (SsOk.cons (SOk.u8 (List.length_replicate ..)) SsOk.nil) rfl (fun b_1 w_2 h_3 => ?_)
  refine WL.nil ?_
  refine thn_n ?_
  refine WP.seq ?_
  refine WP.reg ?_
  refine WL.alloc (segs := [(64, (List.replicate 64 (0 : UInt8)).map vu8)]) h_3 (zv Try.typeInfo163 rfl) rfl (SsOk.cons (SOk.u8 (List.length_replicate ..)) SsOk.nil) rfl (fun b_4 w_5 h_6 => ?_)
  refine WL.nil ?_
  refine thn_n ?_
  refine WP.seq ?_
  refine WP.drawT (SL w.heap.size [.blk b_1 .nw 23 [(32, (List.replicate 32 (0 : UInt8)).map vu8)], .view a2 (bs2.map vu8), .blk bc .ro 37 [(1, [(.slice ak nk ck)])], .view ak (key.map vu8)]) (.q 0 (.q 1 (.s 2 .nil))) (by kernel_rfl) (by kernel_rfl) rfl (by kernel_rfl) (fun w_7 hc_9 => (SL.cons ((h_6.same hc_9).ok _ (.tail _ (.head _))) (SL.cons ((h_6.same hc_9).ok _ (.tail _ (.tail _ (.head _)))) (SL.cons ((h_6.same hc_9).ok _ (.tail _ (.tail _ (.tail _ (.head _))))) (SL.cons ((h_6.same hc_9).ok _ (.tail _ (.tail _ (.tail _ (.tail _ (.head _)))))) (SL.nil _ _)))))) (fun w_7 hc_9 => ?_)
  have h_8 := h_6.same hc_9
  refine WT.q rfl (Wn.no rfl) rfl rfl (fun wq hS => R.sliceA (b := b_4) (off := 0) (off' := 0) (l := 0) (h := 64) rfl EvB.dflt EvB.dflt (by decide) (by decide) Try.underlying163 Try.sizeOf5 rfl) ?_
  refine WT.q rfl (Wn.no rfl) rfl rfl (fun wq hS => R.load1 (b := bc) (off := 0) (v := (.slice ak nk ck)) rfl Try.isAgg37 (hS _ (.tail _ (.tail _ (.head _)))) Sg.h) ?_
  refine WT.s ?_
  refine Op1.one rfl (Wn.no rfl) ?_
  refine WL.copy (q := nk) (i := 0) (ys := key.map vu8) (cs' := (ovr (List.replicate 64 (0 : UInt8)) 0 key).map vu8) h_8 rfl rfl Try.underlying37 Try.sizeOf5 (viewV (h_8.ok _ (.tail _ (.tail _ (.tail _ (.tail _ (.head _))))))) (len_map hkl) (one_u8 _) At.h (by decide) Sg.h rfl (Nat.min_eq_left (by omega)) (by rw [len_map (List.length_replicate ..)]; omega) (cpOvr hkl) rfl (fun w_10 h_11 => ?_)
  refine WL.nil ?_
  refine ⟨(SL.cons (h_11.ok _ (.tail _ (.head _))) (SL.cons (h_11.ok _ (.tail _ (.tail _ (.head _)))) (SL.cons (h_11.ok _ (.tail _ (.tail _ (.tail _ (.head _))))) (SL.cons (h_11.ok _ (.tail _ (.tail _ (.tail _ (.tail _ (.head _)))))) (SL.nil _ _))))), ?_⟩
  refine WT.nil ?_
  refine thn_n ?_
  refine WP.seq ?_
  refine WP.seq ?_
  refine WP.reg ?_
  refine WL.q (Wn.no rfl) rfl rfl (R.move (v := (vi 0)) rfl) ?_
  refine WL.nil ?_
  refine thn_n ?_
  refine WP.block ?_
  rw [ovr_pad hkl] at h_11
  refine WP.loopG (G := Nat) [7, 11, 12, 13, 14, 15, 16, 17, 18, 19, 20] (fun i => [(11, (vi ((i : Nat) : Int)))]) (fun i m w1 => HP w w1 [.blk b_4 .nw 163 [(64, (mix (xm mk (padK key)) (padK key) i).map vu8)], .blk b_1 .nw 23 [(32, (List.replicate 32 (0 : UInt8)).map vu8)], .view a2 (bs2.map vu8), .blk bc .ro 37 [(1, [(.slice ak nk ck)])], .view ak (key.map vu8)] ∧ (i ≤ 64) ∧ m = 64 - i) ⟨0, _, ⟨rfl, trivial⟩, (by rw [mix_0]; exact h_11), (by omega), rfl⟩ ?_
  rintro i m_14 J_15 w_12 ⟨h_13, hi, rfl⟩
  refine WP.seq ?_
  refine WP.reg ?_
  refine WL.q (Wn.no rfl) rfl rfl (R.bin (v := (.bool (decide ((((i : Nat) : Int) : Int) < 64)))) rfl rfl (bi_lss (r := decide ((((i : Nat) : Int) : Int) < 64)) rfl)) ?_
  refine WL.nil ?_
  refine thn_n ?_
  refine WP.seq ?_
  refine WP.cond (b := decide ((((i : Nat) : Int) : Int) < 64)) rfl (fun c_16 => ?_) (fun c_16 => ?_)
  · have p_17 := of_decide_eq_true c_16
    refine WP.skip ?_
    refine thn_n ?_
    refine WP.seq ?_
    refine WP.block ?_
    refine WP.seq ?_
    refine WP.reg ?_
    refine WL.q (Wn.no rfl) rfl rfl (R.move (v := (vi ((i : Nat) : Int))) rfl) ?_
    refine WL.q (Wn.no rfl) rfl rfl (R.assign (v := (vi ((i : Nat) : Int))) rfl) ?_
    refine WL.nil ?_
    refine thn_n ?_
    refine WP.reg ?_
    refine WL.q (Wn.no rfl) rfl rfl (R.move (v := (vi ((i : Nat) : Int))) rfl) ?_
    refine WL.q (Wn.no rfl) rfl rfl (R.indexA (b := b_4) (off := 0) (off' := (0 + i)) (i := i) rfl rfl rfl (by omega) Try.underlying163 Try.sizeOf5 (by rw [Nat.mul_one])) ?_
    refine WL.q (Wn.no rfl) rfl rfl (R.loadE (b := b_4) (off := (0 + i)) (i := i) (v := (vu8 ((mix (xm mk (padK key)) (padK key) i).getD i 0))) rfl Try.isAgg5 (h_13.ok _ (.head _)) Sg.h rfl (get_u8 (lt_len (K := 64) (mix_len ((xm_len _ _).trans (padK_len hkl hk64)) (padK_len hkl hk64)) (by omega)))) ?_
    refine WL.q (Wn.no rfl) rfl rfl (R.move (v := (vu8 mk)) rfl) ?_
    refine WL.q (Wn.no rfl) rfl rfl (R.bin (v := (vu8 (((mix (xm mk (padK key)) (padK key) i).getD i 0) ^^^ mk))) rfl rfl (b8_xor ((mix (xm mk (padK key)) (padK key) i).getD i 0) mk)) ?_
    refine WL.q (Wn.no rfl) rfl rfl (R.indexA (b := b_4) (off := 0) (off' := (0 + i)) (i := i) rfl rfl rfl (by omega) Try.underlying163 Try.sizeOf5 (by rw [Nat.mul_one])) ?_
    refine WL.storeE (b := b_4) (off := (0 + i)) (i := i) (v := (vu8 (((mix (xm mk (padK key)) (padK key) i).getD i 0) ^^^ mk))) (cs' := ((mix (xm mk (padK key)) (padK key) i).set i (((mix (xm mk (padK key)) (padK key) i).getD i 0) ^^^ mk)).map vu8) h_13 rfl rfl Try.sizeOf5 rfl At.h (by decide) Sg.h rfl (lt_len (K := 64) (len_map (mix_len ((xm_len _ _).trans (padK_len hkl hk64)) (padK_len hkl hk64))) (by omega)) (set_u8 _ _ _) (fun w_18 h_19 => ?_)
    refine WL.nil ?_
    refine inb_n ?_
    refine thn_n ?_
    refine WP.reg ?_
    refine WL.q (Wn.no rfl) rfl rfl (R.bin (v := (vi ((i + 1 : Nat) : Int))) rfl rfl (bi_add (c := ((i + 1 : Nat) : Int)) (by omega) (by omega))) ?_
    refine WL.q (Wn.no rfl) rfl rfl (R.move (v := (vi ((i + 1 : Nat) : Int))) rfl) ?_
    refine WL.nil ?_
    refine thn_n ?_
    have h_20 := h_19.up (Pick.t (Pick.t (Pick.t (Pick.t Pick.h))))
    have h_21 := h_20.up (Pick.t (Pick.t (Pick.t (Pick.t Pick.h))))
    have h_22 := h_21.up (Pick.t (Pick.t (Pick.t (Pick.t Pick.h))))
    have h_23 := h_22.up (Pick.t (Pick.t (Pick.t (Pick.t Pick.h))))
    have h_24 := h_23.up (Pick.t (Pick.t (Pick.t (Pick.t Pick.h))))
    rw [xm_step (padK_len hkl hk64) (by omega)] at h_24
    exact ⟨i + 1, _, (by omega), (Ag.upd rfl (Ag.upd rfl (Ag.upd rfl (Ag.upd rfl (Ag.upd rfl (Ag.upd rfl (Ag.upd rfl (Ag.upd rfl (Ag.upd rfl (Ag.upd rfl (Ag.upd rfl (Ag.updL rfl (Ag.mix _ _ _))))))))))))), ⟨rfl, trivial⟩, h_24, (by omega), rfl⟩
  · have p_25 := of_decide_eq_false c_16
    refine WP.exit ?_
    refine thn_x ?_
    refine thn_x ?_
    refine inb_hit ?_
    refine thn_n ?_
    refine WP.seq ?_
    refine WP.reg ?_
    have hi64 : i = 64 := by omega
    subst hi64
    rw [xm_all (padK_len hkl hk64)] at h_13
    refine WL.q (Wn.no rfl) rfl rfl (R.sliceA (b := b_4) (off := 0) (off' := 0) (l := 0) (h := 64) rfl EvB.dflt EvB.dflt (by decide) (by decide) Try.underlying163 Try.sizeOf5 rfl) ?_
    refine WL.q (Wn.no rfl) rfl rfl (R.move (v := (.slice a2 n2 cap2)) rfl) ?_
    refine WL.buildSl (vs := [(0, (.slice (some ⟨b_4, 0, none⟩) 64 64)), (1, (.slice a2 n2 cap2))]) (cs := [(.slice (some ⟨b_4, 0, none⟩) 64 64), (.slice a2 n2 cap2)]) h_13 Try.underlying36 Try.sizeOf37 (zv Try.typeInfo37 rfl) rfl rfl (by kernel_rfl) rfl (by simp [Value.oneCell']) rfl rfl (fun b_26 w_27 h_28 => ?_)
    refine WL.call (al := [(.slice (some ⟨b_26, 0, none⟩) 2 2)]) Try.call101 rfl rfl (c_wJoin (some ⟨b_26, 0, none⟩) 2 2 [(.slice (some ⟨b_4, 0, none⟩) 64 64), (.slice a2 n2 cap2)] [xm mk (padK key), bs2] rfl (by omega) (by omega) _ (viewB (h_28.ok _ (.head _)) Sg.h) (Sls.cons ((xm_len _ _).trans (padK_len hkl hk64)) (by decide) (viewB (h_28.ok _ (.tail _ (.head _))) Sg.h) (Sls.cons hl2 (by omega) (viewV (h_28.ok _ (.tail _ (.tail _ (.tail _ (.head _)))))) Sls.nil))) rfl ?_
    rintro _ w_31 ⟨a_29, cap_30, rfl, hc_32, ho_33⟩
    have h_34 := h_28.gotRow hc_32 ho_33
    refine WL.call (al := [(.slice a_29 ([xm mk (padK key), bs2].flatten.length) cap_30)]) Try.call81 rfl rfl (c_Sum a_29 ([xm mk (padK key), bs2].flatten.length) cap_30 ([xm mk (padK key), bs2].flatten) (rfl : List.length ([xm mk (padK key), bs2].flatten) = [xm mk (padK key), bs2].flatten.length) (by omega) (h_34.own (.head _)).2.2.1 _ (ownView (h_34.ok _ (.head _)))) rfl ?_
    rintro _ w_36 ⟨rfl, hc_35⟩
    have h_37 := h_34.same hc_35
    refine WL.storeA (b := b_1) (off := 0) [] [(32, (List.replicate 32 (0 : UInt8)).map vu8)] [(32, (sumL ([xm mk (padK key), bs2].flatten)).map vu8)] [] (ys := (sumL ([xm mk (padK key), bs2].flatten)).map vu8) h_37 rfl rfl Try.sizeOf23 (At.t (At.t (At.t At.h))) (by decide) rfl rfl rfl rfl rfl rfl (SsOk.cons (SOk.u8 (sumL_len _)) SsOk.nil) (fun w_38 h_39 => ?_)
    refine WL.nil ?_
    refine thn_n ?_
    refine WP.ret ?_
    refine ret_of Try.results100 (RV.cell rfl (h_39.loadA (cs := (sumL ([xm mk (padK key), bs2].flatten)).map vu8) Try.isAgg23 Try.sizeOf23 (.tail _ (.tail _ (.tail _ (.head _)))) rfl rfl) RV.nil) ?_
    exact ⟨by rw [flat2]; rfl, h_39.chgS⟩

theorem c_Tag_s (a : Option Addr) (n cap : Nat) (key : List UInt8) (hl : key.length = n) (hcap : n ≤ cap) (hn : n ≤ 100000000000) (a2 : Option Addr) (n2 cap2 : Nat) (bs2 : List UInt8) (hl2 : bs2.length = n2) (hcap2 : n2 ≤ cap2) (hn2 : n2 ≤ 100000000000) (h : ¬ 64 < n) (w : World) (hv : View w a (key.map vu8)) (hv2 : View w a2 (bs2.map vu8)) :
    Cs Try.prog 83 [(.slice a n cap), (.slice a2 n2 cap2)].toArray w (fun v w1 => v = (.agg ⟨(tagL key bs2).map vu8⟩) ∧ Chg w w1 []) := by
  refine Cs.of (n := 21) (args := [(.slice a n cap), (.slice a2 n2 cap2)]) Try.func83 rfl rfl rfl ?_
  have h_0 := HP.init w
  have h_01 := h_0.oldV (View.arg hv) rfl (by simp [Ent.mut])
  have h_00 := h_01.oldV (View.arg hv2) rfl (by simp [Ent.mut])
  refine WP.seq ?_
  refine WP.reg ?_
  refine WL.box (v := (.slice a n cap)) (segs := [(1, [(.slice a n cap)])]) h_00 rfl rfl (SsOk.cons (SOk.v rfl) SsOk.nil) rfl (fun b_1 w_2 h_3 => ?_)
  refine WL.alloc (segs := [(32, (List.replicate 32 (0 : UInt8)).map vu8)]) h_3 (zv Try.typeInfo23 rfl) rfl (SsOk.cons (SOk.u8 (List.length_replicate ..)) SsOk.nil) rfl (fun b_4 w_5 h_6 => ?_)
  refine WL.nil ?_
  refine thn_n ?_
  refine WP.seq ?_
  refine WP.seq ?_
  refine WP.reg ?_
  refine WL.q (Wn.no rfl) rfl rfl (R.load1 (b := b_1) (off := 0) (v := (.slice a n cap)) rfl Try.isAgg37 (h_6.ok _ (.tail _ (.head _))) Sg.h) ?_
  refine WL.q (Wn.no rfl) rfl rfl (R.lenS (a := a) (m := n) rfl rfl Try.underlying37) ?_
  refine WL.q (Wn.no rfl) rfl rfl (R.bin (v := (.bool (decide ((((n : Nat) : Int) : Int) > 64)))) rfl rfl (bi_gtr (r := decide ((((n : Nat) : Int) : Int) > 64)) rfl)) ?_
  refine WL.nil ?_
  refine thn_n ?_
  refine WP.condF (congrArg Value.bool (decide_eq_false (by omega))) ?_
  refine WP.skip ?_
  refine thn_n ?_
  refine WP.seq ?_
  refine WP.reg ?_
  refine WL.q (Wn.no rfl) rfl rfl (R.makeFuncL (fi := []) (ca := [(.pointer (some ⟨b_1, 0, none⟩))]) rfl rfl) ?_
  refine WL.q (Wn.no rfl) rfl rfl (R.assign (v := (Value.func (Fn.func 100) [].toArray [(Value.pointer (some ⟨b_1, 0, none⟩))].toArray)) rfl) ?_
  refine WL.nil ?_
  refine thn_n ?_
  refine WP.seq ?_
  refine WP.reg ?_
  refine WL.q (Wn.no rfl) rfl rfl (R.move (v := (Value.func (Fn.func 100) [].toArray [(Value.pointer (some ⟨b_1, 0, none⟩))].toArray)) rfl) ?_
  refine WL.q (Wn.no rfl) rfl rfl (R.move (v := (.slice a2 n2 cap2)) rfl) ?_
  refine WL.call (al := [(vu8 54), (.slice a2 n2 cap2), (.pointer (some ⟨b_1, 0, none⟩))]) Try.call100 rfl rfl (c_Tag1 (54 : UInt8) key a n cap hl (by omega) b_1 a2 n2 cap2 bs2 hl2 (by omega) (by omega) _ (viewV (h_6.ok _ (.tail _ (.tail _ (.tail _ (.head _)))))) (h_6.argR (.tail _ (.head _))) (viewV (h_6.ok _ (.tail _ (.tail _ (.head _)))))) rfl ?_
  rintro _ w_8 ⟨rfl, hc_7⟩
  have h_9 := h_6.same hc_7
  refine WL.alloc (segs := [(32, (List.replicate 32 (0 : UInt8)).map vu8)]) h_9 (zv Try.typeInfo23 rfl) rfl (SsOk.cons (SOk.u8 (List.length_replicate ..)) SsOk.nil) rfl (fun b_10 w_11 h_12 => ?_)
  refine WL.storeA (b := b_10) (off := 0) [] [(32, (List.replicate 32 (0 : UInt8)).map vu8)] [(32, (sumL (xm (54 : UInt8) (padK key) ++ bs2)).map vu8)] [] (ys := (sumL (xm (54 : UInt8) (padK key) ++ bs2)).map vu8) h_12 rfl rfl Try.sizeOf23 At.h (by decide) rfl rfl rfl rfl rfl rfl (SsOk.cons (SOk.u8 (sumL_len _)) SsOk.nil) (fun w_13 h_14 => ?_)
  refine WL.nil ?_
  refine thn_n ?_
  refine WP.seq ?_
  refine WP.reg ?_
  refine WL.q (Wn.no rfl) rfl rfl (R.move (v := (Value.func (Fn.func 100) [].toArray [(Value.pointer (some ⟨b_1, 0, none⟩))].toArray)) rfl) ?_
  refine WL.q (Wn.no rfl) rfl rfl (R.sliceA (b := b_10) (off := 0) (off' := 0) (l := 0) (h := 32) rfl EvB.dflt EvB.dflt (by decide) (by decide) Try.underlying23 Try.sizeOf5 rfl) ?_
  refine WL.call (al := [(vu8 92), (.slice (some ⟨b_10, 0, none⟩) 32 32), (.pointer (some ⟨b_1, 0, none⟩))]) Try.call100 rfl rfl (c_Tag1 (92 : UInt8) key a n cap hl (by omega) b_1 (some ⟨b_10, 0, none⟩) 32 32 (sumL (xm (54 : UInt8) (padK key) ++ bs2)) (sumL_len _) (by decide) (by omega) _ (viewV (h_14.ok _ (.tail _ (.tail _ (.tail _ (.tail _ (.head _))))))) (h_14.argR (.tail _ (.tail _ (.head _)))) (viewB (h_14.ok _ (.head _)) Sg.h)) rfl ?_
  rintro _ w_16 ⟨rfl, hc_15⟩
  have h_17 := h_14.same hc_15
  refine WL.storeA (b := b_4) (off := 0) [] [(32, (List.replicate 32 (0 : UInt8)).map vu8)] [(32, (sumL (xm (92 : UInt8) (padK key) ++ (sumL (xm (54 : UInt8) (padK key) ++ bs2)))).map vu8)] [] (ys := (sumL (xm (92 : UInt8) (padK key) ++ (sumL (xm (54 : UInt8) (padK key) ++ bs2)))).map vu8) h_17 rfl rfl Try.sizeOf23 (At.t At.h) (by decide) rfl rfl rfl rfl rfl rfl (SsOk.cons (SOk.u8 (sumL_len _)) SsOk.nil) (fun w_18 h_19 => ?_)
  refine WL.nil ?_
  refine thn_n ?_
  refine WP.ret ?_
  refine ret_of Try.results83 (RV.cell rfl (h_19.loadA (cs := (sumL (xm (92 : UInt8) (padK key) ++ (sumL (xm (54 : UInt8) (padK key) ++ bs2)))).map vu8) Try.isAgg23 Try.sizeOf23 (.tail _ (.head _)) rfl rfl) RV.nil) ?_
  exact ⟨by rw [tag_s hl h]; rfl, h_19.chgS⟩

theorem c_Tag_l (a : Option Addr) (n cap : Nat) (key : List UInt8) (hl : key.length = n) (hcap : n ≤ cap) (hn : n ≤ 100000000000) (a2 : Option Addr) (n2 cap2 : Nat) (bs2 : List UInt8) (hl2 : bs2.length = n2) (hcap2 : n2 ≤ cap2) (hn2 : n2 ≤ 100000000000) (h : 64 < n) (w : World) (hv : View w a (key.map vu8)) (hv2 : View w a2 (bs2.map vu8)) :
    Cs Try.prog 83 [(.slice a n cap), (.slice a2 n2 cap2)].toArray w (fun v w1 => v = (.agg ⟨(tagL key bs2).map vu8⟩) ∧ Chg w w1 []) := by
  refine Cs.of (n := 21) (args := [(.slice a n cap), (.slice a2 n2 cap2)]) Try.func83 rfl rfl rfl ?_
  have h_0 := HP.init w
  have h_01 := h_0.oldV (View.arg hv) rfl (by simp [Ent.mut])
  have h_00 := h_01.oldV (View.arg hv2) rfl (by simp [Ent.mut])
  refine WP.seq ?_
  refine WP.reg ?_
  refine WL.box (v := (.slice a n cap)) (segs := [(1, [(.slice a n cap)])]) h_00 rfl rfl (SsOk.cons (SOk.v rfl) SsOk.nil) rfl (fun b_1 w_2 h_3 => ?_)
  refine WL.alloc (segs := [(32, (List.replicate 32 (0 : UInt8)).map vu8)]) h_3 (zv Try.typeInfo23 rfl) rfl (SsOk.cons (SOk.u8 (List.length_replicate ..)) SsOk.nil) rfl (fun b_4 w_5 h_6 => ?_)
  refine WL.nil ?_
  refine thn_n ?_
  refine WP.seq ?_
  refine WP.seq ?_
  refine WP.reg ?_
  refine WL.q (Wn.no rfl) rfl rfl (R.load1 (b := b_1) (off := 0) (v := (.slice a n cap)) rfl Try.isAgg37 (h_6.ok _ (.tail _ (.head _))) Sg.h) ?_
  refine WL.q (Wn.no rfl) rfl rfl (R.lenS (a := a) (m := n) rfl rfl Try.underlying37) ?_
  refine WL.q (Wn.no rfl) rfl rfl (R.bin (v := (.bool (decide ((((n : Nat) : Int) : Int) > 64)))) rfl rfl (bi_gtr (r := decide ((((n : Nat) : Int) : Int) > 64)) rfl)) ?_
  refine WL.nil ?_
  refine thn_n ?_
  refine WP.condT (congrArg Value.bool (decide_eq_true (by omega))) ?_
  refine WP.seq ?_
  refine WP.reg ?_
  refine WL.q (Wn.no rfl) rfl rfl (R.load1 (b := b_1) (off := 0) (v := (.slice a n cap)) rfl Try.isAgg37 (h_6.ok _ (.tail _ (.head _))) Sg.h) ?_
  refine WL.call (al := [(.slice a n cap)]) Try.call81 rfl rfl (c_Sum a n cap key hl (by omega) (by omega) _ (viewV (h_6.ok _ (.tail _ (.tail _ (.tail _ (.head _))))))) rfl ?_
  rintro _ w_8 ⟨rfl, hc_7⟩
  have h_9 := h_6.same hc_7
  refine WL.alloc (segs := [(32, (List.replicate 32 (0 : UInt8)).map vu8)]) h_9 (zv Try.typeInfo23 rfl) rfl (SsOk.cons (SOk.u8 (List.length_replicate ..)) SsOk.nil) rfl (fun b_10 w_11 h_12 => ?_)
  refine WL.storeA (b := b_10) (off := 0) [] [(32, (List.replicate 32 (0 : UInt8)).map vu8)] [(32, (sumL key).map vu8)] [] (ys := (sumL key).map vu8) h_12 rfl rfl Try.sizeOf23 At.h (by decide) rfl rfl rfl rfl rfl rfl (SsOk.cons (SOk.u8 (sumL_len _)) SsOk.nil) (fun w_13 h_14 => ?_)
  refine WL.nil ?_
  refine thn_n ?_
  refine WP.reg ?_
  refine WL.q (Wn.no rfl) rfl rfl (R.sliceA (b := b_10) (off := 0) (off' := 0) (l := 0) (h := 32) rfl EvB.dflt EvB.dflt (by decide) (by decide) Try.underlying23 Try.sizeOf5 rfl) ?_
  refine WL.store1 (b := b_1) (off := 0) (v := (.slice (some ⟨b_10, 0, none⟩) 32 32)) h_14 rfl rfl Try.sizeOf37 rfl (At.t (At.t At.h)) (by decide) Sg.h (fun w_15 h_16 => ?_)
  refine WL.nil ?_
  refine thn_n ?_
  refine WP.seq ?_
  refine WP.reg ?_
  refine WL.q (Wn.no rfl) rfl rfl (R.makeFuncL (fi := []) (ca := [(.pointer (some ⟨b_1, 0, none⟩))]) rfl rfl) ?_
  refine WL.q (Wn.no rfl) rfl rfl (R.assign (v := (Value.func (Fn.func 100) [].toArray [(Value.pointer (some ⟨b_1, 0, none⟩))].toArray)) rfl) ?_
  refine WL.nil ?_
  refine thn_n ?_
  refine WP.seq ?_
  refine WP.reg ?_
  refine WL.q (Wn.no rfl) rfl rfl (R.move (v := (Value.func (Fn.func 100) [].toArray [(Value.pointer (some ⟨b_1, 0, none⟩))].toArray)) rfl) ?_
  refine WL.q (Wn.no rfl) rfl rfl (R.move (v := (.slice a2 n2 cap2)) rfl) ?_
  refine WL.call (al := [(vu8 54), (.slice a2 n2 cap2), (.pointer (some ⟨b_1, 0, none⟩))]) Try.call100 rfl rfl (c_Tag1 (54 : UInt8) (sumL key) (some ⟨b_10, 0, none⟩) 32 32 (sumL_len _) (by omega) b_1 a2 n2 cap2 bs2 hl2 (by omega) (by omega) _ (viewB (h_16.ok _ (.head _)) Sg.h) (h_16.argR (.tail _ (.tail _ (.head _)))) (viewV (h_16.ok _ (.tail _ (.tail _ (.tail _ (.head _))))))) rfl ?_
  rintro _ w_18 ⟨rfl, hc_17⟩
  have h_19 := h_16.same hc_17
  refine WL.alloc (segs := [(32, (List.replicate 32 (0 : UInt8)).map vu8)]) h_19 (zv Try.typeInfo23 rfl) rfl (SsOk.cons (SOk.u8 (List.length_replicate ..)) SsOk.nil) rfl (fun b_20 w_21 h_22 => ?_)
  refine WL.storeA (b := b_20) (off := 0) [] [(32, (List.replicate 32 (0 : UInt8)).map vu8)] [(32, (sumL (xm (54 : UInt8) (padK (sumL key)) ++ bs2)).map vu8)] [] (ys := (sumL (xm (54 : UInt8) (padK (sumL key)) ++ bs2)).map vu8) h_22 rfl rfl Try.sizeOf23 At.h (by decide) rfl rfl rfl rfl rfl rfl (SsOk.cons (SOk.u8 (sumL_len _)) SsOk.nil) (fun w_23 h_24 => ?_)
  refine WL.nil ?_
  refine thn_n ?_
  refine WP.seq ?_
  refine WP.reg ?_
  refine WL.q (Wn.no rfl) rfl rfl (R.move (v := (Value.func (Fn.func 100) [].toArray [(Value.pointer (some ⟨b_1, 0, none⟩))].toArray)) rfl) ?_
  refine WL.q (Wn.no rfl) rfl rfl (R.sliceA (b := b_20) (off := 0) (off' := 0) (l := 0) (h := 32) rfl EvB.dflt EvB.dflt (by decide) (by decide) Try.underlying23 Try.sizeOf5 rfl) ?_
  refine WL.call (al := [(vu8 92), (.slice (some ⟨b_20, 0, none⟩) 32 32), (.pointer (some ⟨b_1, 0, none⟩))]) Try.call100 rfl rfl (c_Tag1 (92 : UInt8) (sumL key) (some ⟨b_10, 0, none⟩) 32 32 (sumL_len _) (by omega) b_1 (some ⟨b_20, 0, none⟩) 32 32 (sumL (xm (54 : UInt8) (padK (sumL key)) ++ bs2)) (sumL_len _) (by decide) (by omega) _ (viewB (h_24.ok _ (.tail _ (.head _))) Sg.h) (h_24.argR (.tail _ (.tail _ (.tail _ (.head _))))) (viewB (h_24.ok _ (.head _)) Sg.h)) rfl ?_
  rintro _ w_26 ⟨rfl, hc_25⟩
  have h_27 := h_24.same hc_25
  refine WL.storeA (b := b_4) (off := 0) [] [(32, (List.replicate 32 (0 : UInt8)).map vu8)] [(32, (sumL (xm (92 : UInt8) (padK (sumL key)) ++ (sumL (xm (54 : UInt8) (padK (sumL key)) ++ bs2)))).map vu8)] [] (ys := (sumL (xm (92 : UInt8) (padK (sumL key)) ++ (sumL (xm (54 : UInt8) (padK (sumL key)) ++ bs2)))).map vu8) h_27 rfl rfl Try.sizeOf23 (At.t (At.t At.h)) (by decide) rfl rfl rfl rfl rfl rfl (SsOk.cons (SOk.u8 (sumL_len _)) SsOk.nil) (fun w_28 h_29 => ?_)
  refine WL.nil ?_
  refine thn_n ?_
  refine WP.ret ?_
  refine ret_of Try.results83 (RV.cell rfl (h_29.loadA (cs := (sumL (xm (92 : UInt8) (padK (sumL key)) ++ (sumL (xm (54 : UInt8) (padK (sumL key)) ++ bs2)))).map vu8) Try.isAgg23 Try.sizeOf23 (.tail _ (.tail _ (.head _))) rfl rfl) RV.nil) ?_
  exact ⟨by rw [tag_l hl h]; rfl, h_29.chgS⟩

theorem c_Tag (a : Option Addr) (n cap : Nat) (key : List UInt8) (hl : key.length = n) (hcap : n ≤ cap) (hn : n ≤ 100000000000) (a2 : Option Addr) (n2 cap2 : Nat) (bs2 : List UInt8) (hl2 : bs2.length = n2) (hcap2 : n2 ≤ cap2) (hn2 : n2 ≤ 100000000000) (w : World) (hv : View w a (key.map vu8)) (hv2 : View w a2 (bs2.map vu8)) : Cs Try.prog 83 [.slice a n cap, .slice a2 n2 cap2].toArray w (fun v w1 => v = (.agg ⟨(tagL key bs2).map vu8⟩) ∧ Chg w w1 []) := by
  by_cases h : 64 < n
  · exact c_Tag_l a n cap key hl hcap hn a2 n2 cap2 bs2 hl2 hcap2 hn2 h w hv hv2
  · exact c_Tag_s a n cap key hl hcap hn a2 n2 cap2 bs2 hl2 hcap2 hn2 h w hv hv2
end Go.Proofs.Ytnhppjimimhlkaa

namespace Go.Vc
open Go.RowKit Go.WideShapes
section
variable {P : Program} {F : Fr} {w w' w0 : World} {L : List Ent}
variable {ty : TypeId} {pos : String} {after : Array Edge} {dst : Option Tmp} {g : Option (Nat × Bool)}
theorem agg_formed {t : TypeId} {cs : List Value} (hu : aggB P t = true) (hl : cs.length = P.cellsOf t) : (Value.agg ⟨cs⟩).formed P t = true := by
  unfold aggB at hu
  unfold Value.formed
  split at hu <;> simp_all
theorem Ck.agg {K : TypeId} {m h : Nat} {cs : List Value} (hk : P.keyTypeAt m K = true) (hm : Nat.ble m 10000 = true) (hu : aggB P K = true) (t : Typ P h K cs) : Ck P K (.agg ⟨cs⟩) := by
  intro b w
  have hm' := Nat.le_of_ble_eq_true hm
  have := run_checkKey_deep (P := P) b (10000 - m) m K hk w _ (.agg ⟨cs⟩) _ (agg_formed hu t.len) (t.lits h (Nat.le_refl _))
  rwa [show 10000 - m + m = 10000 by omega] at this
def fdx {α : Type} [DecidableEq α] (q : α) : List (α × Value × Nat) → Nat → Option (Nat × Value)
  | [], _ => none
  | e :: r, i => if e.1 = q then some (i, e.2.1) else fdx q r (i + 1)
def ents {α : Type} (kf : α → List Value) (es : List (α × Value × Nat)) : List MapEntry := es.map fun e => { key := .agg ⟨kf e.1⟩, val := e.2.1, born := e.2.2 }
theorem run_asking {α : Type} [DecidableEq α] {kf : α → List Value} {K : TypeId} {m h : Nat} {q : α} (hk : P.keyTypeAt m K = true) (hm : Nat.ble m 10000 = true) (hu : aggB P K = true) (t : Typ P h K (kf q)) (w : World) :
    ∀ (es : List (α × Value × Nat)) (i : Nat), (∀ e ∈ es, Typ P h K (kf e.1) ∧ (kf e.1 = kf q → e.1 = q)) → (Instr.findAsking K (.agg ⟨kf q⟩) (ents kf es) i).run P w = .ok (fdx q es i) w
  | [], i, _ => by simp [ents, Instr.findAsking, fdx]
  | e :: es, i, hall => by
    obtain ⟨te, hinj⟩ := hall e (by simp)
    obtain ⟨r, hr, hiff⟩ := equal_of (w := w) hk (Nat.le_of_ble_eq_true hm) hu t te
    have hr' : (Op.equal K (.agg ⟨kf q⟩) (.agg ⟨kf e.1⟩)).run P w = .ok r w := hr
    by_cases he : e.1 = q
    · have : r = true := hiff.2 (by rw [he])
      subst this
      rw [he] at hr'
      simp [ents, Instr.findAsking, hr', he, fdx]
    · have : r = false := by
        cases r with
        | false => rfl
        | true => exact absurd (hinj (hiff.1 rfl).symm) he
      subst this
      have ih := run_asking hk hm hu t w es (i + 1) (fun y hy => hall y (by simp [hy]))
      simp only [ents] at ih
      simp only [ents, List.map_cons, Instr.findAsking, Sem.run_bind, hr', Result.andThen_ok, Bool.false_eq_true, if_false, ih, fdx, he]
theorem Fk.agg {α : Type} [DecidableEq α] {kf : α → List Value} {K : TypeId} {m h : Nat} {q : α} (hk : P.keyTypeAt m K = true) (hm : Nat.ble m 10000 = true) (hu : aggB P K = true) (t : Typ P h K (kf q)) {es : List (α × Value × Nat)}
    (hall : ∀ e ∈ es, Typ P h K (kf e.1) ∧ (kf e.1 = kf q → e.1 = q)) : Fk P K (.agg ⟨kf q⟩) (ents kf es) (fdx q es 0) := by
  intro w
  rw [run_findKey_eq w hu]
  exact run_asking hk hm hu t w es 0 hall
theorem eq_nilM {T K E : TypeId} {o : Option Nat} (hT : P.underlying T = some (.map K E)) (d : Nat) : (Op.equalIn (d + 1) T (.map o) (.map none)).run P w = .ok o.isNone w := by
  unfold Op.equalIn
  rw [Sem.run_bind, run_underlying hT]
  cases o <;> rfl
theorem R.neNilM {T T' K E : TypeId} {x y : Operand} {o : Option Nat} (hx : evO F x = .map o) (hy : evO F y = .map none) (hT : P.underlying T = some (.map K E)) : (execOp (evO F) ⟨dst, .binOp .neq T x y T', ty, pos, after, g⟩).run P w = .ok (.value (.bool (!o.isNone))) w := R.neOf hx hy rfl (eq_nilM hT) rfl
theorem add_add (a : Addr) (i k : Nat) : (a.add i).add k = a.add (i + k) := by
  unfold Addr.add
  by_cases hi : i = 0
  · subst hi; simp
  · by_cases hk : k = 0
    · subst hk; simp [hi]
    · have : i + k ≠ 0 := by omega
      simp [hi, hk, this, Nat.add_assoc]
theorem gA_add (a : Option Addr) (i k : Nat) : (gA a i).add k = gA a (i + k) := add_add _ _ _
theorem R.fieldG {i off' f z : Nat} {S : TypeId} {x : Operand} {a : Option Addr} {fs : Array Field} {fd : Field} (hx : evO F x = .pointer (some (gA a i))) (hT : P.underlying S = some (.struct fs)) (hf : fs[f]? = some fd)
    (hz : ∀ w, (sizeOf fd.type).run P w = .ok z w) (hz0 : Nat.blt 0 z = true) (hoff : off' = i + fd.offset) : (execOp (evO F) ⟨dst, .fieldAddr S x f, ty, pos, after, g⟩).run P w = .ok (.value (.pointer (some (gA a off')))) w := by
  have hz1 : z ≠ 0 := by rintro rfl; cases hz0
  simp [execOp, hx, Instr.fieldAt, run_underlying hT, hf, Instr.sureAddr, fieldPlace, hz, hz1, gA_add, hoff]
end
end Go.Vc

namespace Go.Orc
open Go.Vc Go.RowKit
abbrev Qn := Int × List UInt8 × Int × List UInt8
abbrev Lg := List (Qn × List UInt8)
def okQ (q : Qn) : Prop := q.2.1.length = 32 ∧ (1 ≤ q.1 ∧ q.1 ≤ 4) ∧ (1 ≤ q.2.2.1 ∧ q.2.2.1 ≤ 16) ∧ q.2.2.2.length ≤ 1000000000
def kC (q : Qn) : List Value := flat [(1, [vi q.1]), (32, q.2.1.map vu8), (1, [vi q.2.2.1]), (1, [.string (bstr q.2.2.2)])]
theorem bstr_inj {a b : List UInt8} (h : bstr a = bstr b) : a = b := by
  have := congrArg ByteArray.toList h
  rwa [bstr_toList, bstr_toList] at this
theorem kC_inj {p q : Qn} (hp : p.2.1.length = 32) (hq : q.2.1.length = 32) (h : kC p = kC q) : p = q := by
  obtain ⟨k, key, d, data⟩ := p
  obtain ⟨k', key', d', data'⟩ := q
  simp only at hp hq
  simp only [kC, flat, List.cons_append, List.nil_append, List.cons.injEq, Value.int.injEq, true_and] at h
  obtain ⟨h1, h2⟩ := h
  obtain ⟨h3, h4⟩ := List.append_inj h2 (by rw [List.length_map, List.length_map, hp, hq])
  simp only [List.cons.injEq, Value.int.injEq, Value.string.injEq, true_and, and_true] at h4
  have e1 : key = key' := by
    have := map_inj_u8 (a := key) (b := key')
    exact this ▸ h3
  rw [h1, e1, h4.1, bstr_inj h4.2]
def mEs : Lg → Nat → List (Qn × Value × Nat)
  | [], _ => []
  | p :: r, i => (p.1, vi (i : Int), i) :: mEs r (i + 1)
theorem mEs_snoc (p : Qn × List UInt8) : ∀ (l : Lg) (i : Nat), mEs (l ++ [p]) i = mEs l i ++ [(p.1, vi ((i + l.length : Nat) : Int), i + l.length)]
  | [], i => by simp [mEs]
  | x :: l, i => by
    rw [List.cons_append, mEs, mEs_snoc p l (i + 1), mEs, List.length_cons, show i + 1 + l.length = i + (l.length + 1) by omega]; rfl
theorem mEs_mem : ∀ {l : Lg} {i : Nat} {e : Qn × Value × Nat}, e ∈ mEs l i → ∃ p ∈ l, e.1 = p.1
  | x :: l, i, e, h => by
    rcases List.mem_cons.1 h with rfl | h
    · exact ⟨x, List.mem_cons_self .., rfl⟩
    · obtain ⟨p, hp, he⟩ := mEs_mem h
      exact ⟨p, List.mem_cons_of_mem _ hp, he⟩
def fdq (q : Qn) : Lg → Nat → Option Nat
  | [], _ => none
  | p :: r, i => if p.1 = q then some i else fdq q r (i + 1)
theorem fdx_fdq (q : Qn) : ∀ (l : Lg) (i : Nat), fdx q (mEs l i) i = (fdq q l i).map fun j : Nat => ((j, vi (j : Int)) : Nat × Value)
  | [], _ => rfl
  | p :: r, i => by
    rw [mEs, fdx, fdq]
    split
    · rfl
    · exact fdx_fdq q r (i + 1)
theorem fdq_lt {q : Qn} : ∀ {l : Lg} {i j : Nat}, fdq q l i = some j → i ≤ j ∧ j < i + l.length
  | p :: r, i, j, h => by
    rw [fdq] at h
    split at h
    · cases h; exact ⟨Nat.le_refl _, by rw [List.length_cons]; omega⟩
    · have := fdq_lt h
      rw [List.length_cons]; omega
def mArr (l : Lg) : Array MapEntry := ⟨ents kC (mEs l 0)⟩
theorem mArr_push (l : Lg) (q : Qn) (d : List UInt8) : mArr (l ++ [(q, d)]) = (mArr l).push { key := .agg ⟨kC q⟩, val := vi (l.length : Int), born := l.length } := by
  apply Array.ext'
  simp [mArr, ents, mEs_snoc]
theorem log_find {P : Program} {K : TypeId} {m h : Nat} {q : Qn} {l : Lg} (hk : P.keyTypeAt m K = true) (hm : Nat.ble m 10000 = true) (hu : aggB P K = true) (hT : ∀ q, okQ q → Typ P h K (kC q)) (hq : okQ q) (hl : ∀ p ∈ l, okQ p.1) :
    Fk P K (.agg ⟨kC q⟩) (mArr l).toList ((fdq q l 0).map fun j : Nat => ((j, vi (j : Int)) : Nat × Value)) := by
  rw [← fdx_fdq]
  refine Fk.agg hk hm hu (hT q hq) fun e he => ?_
  obtain ⟨p, hp, e1⟩ := mEs_mem he
  rw [e1]
  exact ⟨hT _ (hl p hp), fun h => kC_inj (hl p hp).1 hq.1 h⟩
def aC (q : Qn) (s : Value) (d : List UInt8) : List Value := flat [(1, [vi q.1]), (32, q.2.1.map vu8), (1, [vi q.2.2.1]), (1, [s]), (32, d.map vu8)]
theorem aC_len {q : Qn} {s : Value} {d : List UInt8} (h : q.2.1.length = 32) (hd : d.length = 32) : (aC q s d).length = 67 := by simp [aC, flat, h, hd]
inductive Lgs (w : World) : List Value → Lg → Prop
  | nil : Lgs w [] []
  | snoc {a : Option Addr} {n c : Nat} {q : Qn} {d : List UInt8} {xs : List Value} {l : Lg} (r : Lgs w xs l) (hq : okQ q) (hd : d.length = 32) (hl : q.2.2.2.length = n) (hc : n ≤ c) (hv : View w a (q.2.2.2.map vu8)) : Lgs w (xs ++ aC q (.slice a n c) d) (l ++ [(q, d)])
theorem Lgs.len {w : World} {xs : List Value} {l : Lg} (h : Lgs w xs l) : xs.length = l.length * 67 := by
  induction h with
  | nil => rfl
  | snoc r hq hd hl hc hv ih => rw [List.length_append, ih, aC_len hq.1 hd, List.length_append, List.length_cons, List.length_nil]; omega
theorem Lgs.ok {w : World} {xs : List Value} {l : Lg} (h : Lgs w xs l) : ∀ p ∈ l, okQ p.1 := by
  induction h with
  | nil => intro p hp; cases hp
  | snoc r hq hd hl hc hv ih =>
    intro p hp
    rcases List.mem_append.1 hp with hp | hp
    · exact ih p hp
    · rw [List.mem_singleton] at hp; subst hp; exact hq
theorem sblks_u8 : ∀ (l : List UInt8) (b : Nat), b ∉ sblks (l.map vu8)
  | [], b => by simp [sblks]
  | x :: l, b => by
    intro h
    have h' : b ∈ sblk (vu8 x) ++ sblks (l.map vu8) := h
    rcases List.mem_append.1 h' with h | h
    · simp [sblk] at h
    · exact sblks_u8 l b h
theorem sblk_in_view {a : Option Addr} {n c : Nat} {l : List UInt8} (hl : l.length = n) : ∀ b ∈ sblk (.slice a n c), b ∈ (Ent.view a (l.map vu8)).blocks := by
  intro b hb
  cases a with
  | none => simp [sblk] at hb
  | some ad => cases l with
    | nil => simp at hl; subst hl; simp [sblk] at hb
    | cons x r => cases n with
      | zero => simp at hl
      | succ n => simpa [Ent.blocks, sblk] using hb
theorem Lgs.get {w : World} {xs : List Value} {l : Lg} (h : Lgs w xs l) : ∀ {i : Nat} (hi : i < l.length), ∃ a n c, (xs.drop (67 * i)).take 67 = aC (l[i]).1 (.slice a n c) (l[i]).2 ∧ (l[i]).2.length = 32 ∧ (l[i]).1.2.2.2.length = n ∧ n ≤ c ∧ View w a ((l[i]).1.2.2.2.map vu8) ∧ (∀ b ∈ sblk (.slice a n c), b ∈ sblks xs) := by
  induction h with
  | nil => intro i hi; simp at hi
  | @snoc a n c q d xs l r hq hd hl hc hv ih =>
    intro i hi
    have hlen := r.len
    by_cases e : i < l.length
    · obtain ⟨a', n', c', h1, h2, h3, h4, h5, h6⟩ := ih e
      refine ⟨a', n', c', ?_, ?_, ?_, h4, ?_, ?_⟩
      · rw [List.drop_append_of_le_length (by omega), List.take_append_of_le_length (by rw [List.length_drop]; omega), h1, List.getElem_append_left e]
      · rw [List.getElem_append_left e]; exact h2
      · rw [List.getElem_append_left e]; exact h3
      · rw [List.getElem_append_left e]; exact h5
      · intro b hb; rw [sblks_append]; exact List.mem_append.2 (.inl (h6 b hb))
    · have : i = l.length := by rw [List.length_append, List.length_singleton] at hi; omega
      subst this
      have e2 : (l ++ [(q, d)])[l.length] = (q, d) := by simp
      refine ⟨a, n, c, ?_, ?_, ?_, hc, ?_, ?_⟩
      · rw [List.drop_append, List.drop_of_length_le (by omega), List.nil_append, show 67 * l.length - xs.length = 0 by omega, List.drop_zero, List.take_of_length_le (by rw [aC_len hq.1 hd]; exact Nat.le_refl _), e2]
      · rw [e2]; exact hd
      · rw [e2]; exact hl
      · rw [e2]; exact hv
      · intro b hb
        rw [sblks_append]
        refine List.mem_append.2 (.inr ?_)
        simp only [aC, flat, sblks_append]
        refine List.mem_append.2 (.inr (List.mem_append.2 (.inr (List.mem_append.2 (.inr (List.mem_append.2 (.inl ?_)))))))
        simpa [sblks] using hb
end Go.Orc

namespace Go.Orc
open Go.Vc Go.RowKit
theorem Lgs.lt {w : World} {xs : List Value} {l : Lg} (h : Lgs w xs l) : ∀ b ∈ sblks xs, b < w.heap.size := by
  induction h with
  | nil => intro b hb; cases hb
  | @snoc a n c q d xs l r hq hd hl hc hv ih =>
    intro b hb
    rw [sblks_append] at hb
    rcases List.mem_append.1 hb with hb | hb
    · exact ih b hb
    · refine sblk_lt (c := c) hl hv b ?_
      simp only [aC, flat, sblks_append, List.mem_append] at hb
      rcases hb with hb | hb | hb | hb | hb
      · simp [sblks, sblk] at hb
      · exact absurd hb (sblks_u8 _ _)
      · simp [sblks, sblk] at hb
      · simpa [sblks] using hb
      · exact absurd hb (sblks_u8 _ _)
theorem Lgs.same {w w' : World} {xs : List Value} {l : Lg} (h : Lgs w xs l) (hs : ∀ b ∈ sblks xs, w'.heap[b]? = w.heap[b]?) : Lgs w' xs l := by
  induction h with
  | nil => exact .nil
  | @snoc a n c q d xs l r hq hd hl hc hv ih =>
    refine .snoc (ih fun b hb => hs b (by rw [sblks_append]; exact List.mem_append.2 (.inl hb))) hq hd hl hc (sblk_view (c := c) hl hv fun b hb => hs b ?_)
    rw [sblks_append]
    refine List.mem_append.2 (.inr ?_)
    simp only [aC, flat, sblks_append]
    exact List.mem_append.2 (.inr (List.mem_append.2 (.inr (List.mem_append.2 (.inr (List.mem_append.2 (.inl (by simpa [sblks] using hb))))))))
theorem Lgs.pin {B : Nat} {w : World} {xs : List Value} {l : Lg} (h : Lgs w xs l) : (Ent.pin (sblks xs) (fun w => Lgs w xs l)).ok B w := ⟨h, h.lt, fun _ hs => h.same hs⟩
section
variable {w w' w0 : World} {L : List Ent}
theorem HP_logPush {xs : List Value} {l : Lg} {a : Option Addr} {n c : Nat} {E : TypeId} {q : Qn} {d : List UInt8} (h : HP w0 w (.row a n c E 1 (q.2.2.2.map vu8) :: .pin (sblks xs) (fun w => Lgs w xs l) :: L)) (hq : okQ q) (hd : d.length = 32) (hl : q.2.2.2.length = n) :
    HP w0 w (.pin (sblks (xs ++ aC q (.slice a n c) d)) (fun w => Lgs w (xs ++ aC q (.slice a n c) d) (l ++ [(q, d)])) :: .view a (q.2.2.2.map vu8) :: .pin (sblks xs) (fun w => Lgs w xs l) :: L) := by
  have hcap := (h.own (List.mem_cons_self ..)).2.2.1
  have h1 := h.rowView
  have hm1 : Ent.pin (sblks xs) (fun w => Lgs w xs l) ∈ (.view a (q.2.2.2.map vu8) :: .pin (sblks xs) (fun w => Lgs w xs l) :: L) := List.mem_cons_of_mem _ (List.mem_cons_self ..)
  have hm2 : Ent.view a (q.2.2.2.map vu8) ∈ (.view a (q.2.2.2.map vu8) :: .pin (sblks xs) (fun w => Lgs w xs l) :: L) := List.mem_cons_self ..
  have hs : Lgs w xs l := (h1.ok _ hm1).1
  have hv := viewV (h1.ok _ hm2)
  refine h1.within2 hm1 hm2 rfl rfl (Lgs.pin (.snoc hs hq hd hl hcap hv)) rfl rfl fun b hb => ?_
  simp only [Ent.blocks] at hb
  rw [sblks_append] at hb
  rcases List.mem_append.1 hb with hb | hb
  · exact .inl hb
  · right
    simp only [aC, flat, sblks_append, List.mem_append] at hb
    rcases hb with hb | hb | hb | hb | hb
    · simp [sblks, sblk] at hb
    · exact absurd hb (sblks_u8 _ _)
    · simp [sblks, sblk] at hb
    · have hb' : b ∈ sblk (.slice a n c) := by simpa [sblks] using hb
      exact sblk_in_view hl b hb'
    · exact absurd hb (sblks_u8 _ _)
theorem HP_logNil (h : HP w0 w L) : HP w0 w (.pin (sblks []) (fun w => Lgs w [] []) :: L) := h.add (Lgs.pin .nil) rfl fun f _ _ b hb _ => by cases hb
end
theorem aC_drop {q : Qn} {s : Value} {d : List UInt8} (h : q.2.1.length = 32) : (aC q s d).drop 35 = d.map vu8 := by
  have e : aC q s d = ([vi q.1] ++ (q.2.1.map vu8 ++ ([vi q.2.2.1] ++ [s]))) ++ d.map vu8 := by simp [aC, flat]
  rw [e, List.drop_append_of_le_length (by simp [h])]
  simp [h]
theorem Lgs.ans {w : World} {xs : List Value} {l : Lg} (h : Lgs w xs l) {i : Nat} {z : Qn × List UInt8} (hi : i < l.length) : (xs.drop (i * 67 + 35)).take 32 = (l.getD i z).2.map vu8 ∧ (l.getD i z).2.length = 32 := by
  obtain ⟨a, n, c, h1, h2, _⟩ := h.get hi
  have hq := h.ok (l[i]) (List.getElem_mem hi)
  have e : l.getD i z = l[i] := by simp [hi]
  rw [e]
  refine ⟨?_, h2⟩
  have h3 := congrArg (fun x => x.drop 35) h1
  change ((xs.drop (67 * i)).take 67).drop 35 = (aC _ _ _).drop 35 at h3
  rw [aC_drop hq.1, List.drop_take, List.drop_drop, show 67 * i + 35 = i * 67 + 35 by omega, show 67 - 35 = 32 from rfl] at h3
  exact h3
theorem fill_1 {s : Nat} {z : Array Value} {zc cs : List Value} (hz : z = ⟨zc⟩) (ok : SsOk [(s, zc)]) (okc : SsOk [(s, cs)]) : Instr.fill (fun i => some (i * s, s)) z [(0, .agg ⟨cs⟩)] = some ⟨cs⟩ := by
  subst hz
  exact (fill_of (pl := fun i => some (i * s, s)) (segs := [(s, zc)]) (parts := [(0, .agg ⟨cs⟩)]) (out := [(s, cs)]) (FillR.cons [] [(s, zc)] [(s, cs)] [] (by rw [Nat.zero_mul]; rfl) rfl rfl rfl okc rfl rfl rfl FillR.nil) ok).1
theorem aC_ok {q : Qn} {s : Value} {d : List UInt8} (h : q.2.1.length = 32) (hd : d.length = 32) (hs : s.oneCell' = true) : SsOk [(67, aC q s d)] := by
  refine SsOk.cons ⟨aC_len h hd, fun v hv => ?_⟩ SsOk.nil
  exact SsOk.one (SsOk.cons (SOk.v rfl) (SsOk.cons (SOk.u8 h) (SsOk.cons (SOk.v rfl) (SsOk.cons (SOk.v hs) (SsOk.cons (SOk.u8 hd) SsOk.nil))))) v hv
def drawF (df : List UInt8) (dn n : Nat) : List UInt8 := if n < dn then (df.drop (n * 32)).take 32 else leN 8 n ++ (List.replicate 23 0 ++ [1])
theorem drawF_len {df : List UInt8} {dn n : Nat} (h : df.length = 32 * dn) : (drawF df dn n).length = 32 := by
  rw [drawF]; split
  · rw [List.length_take, List.length_drop]; omega
  · simp [leN_len]
def ansD (df : List UInt8) (dn u : Nat) (l : Lg) (q : Qn) : List UInt8 := match fdq q l 0 with
  | some i => (l.getD i (q, [])).2
  | none => drawF df dn u
def ansU (u : Nat) (l : Lg) (q : Qn) : Nat := match fdq q l 0 with
  | some _ => u
  | none => u + 1
def ansL (df : List UInt8) (dn u : Nat) (l : Lg) (q : Qn) : Lg := match fdq q l 0 with
  | some _ => l
  | none => l ++ [(q, drawF df dn u)]
section
variable {df : List UInt8} {dn u : Nat} {l : Lg} {q : Qn} {i : Nat}
end
end Go.Orc
namespace Go.Orc
open Go.Vc Go.RowKit
theorem draw_tail {u : Nat} (h : u < 18446744073709551616) : ((leN 8 (UInt64.ofNat u).toNat) ++ (List.replicate 32 (0 : UInt8)).drop 8).set 31 1 = leN 8 u ++ (List.replicate 23 0 ++ [1]) := by
  have e : (UInt64.ofNat u).toNat = u := by simp; omega
  have hl := leN_len 8 u
  rw [e, List.set_append, if_neg (by omega), hl]
  congr 1
theorem log_hit {P : Program} {K : TypeId} {m h i : Nat} {q : Qn} {l : Lg} (hk : P.keyTypeAt m K = true) (hm : Nat.ble m 10000 = true) (hu : aggB P K = true) (hT : ∀ q, okQ q → Typ P h K (kC q)) (hq : okQ q) (hl : ∀ p ∈ l, okQ p.1) (hf : fdq q l 0 = some i) :
    Fk P K (.agg ⟨kC q⟩) (mArr l).toList (some (i, vi (i : Int))) := by
  have := log_find hk hm hu hT hq hl
  rwa [hf] at this
theorem log_miss {P : Program} {K : TypeId} {m h : Nat} {q : Qn} {l : Lg} (hk : P.keyTypeAt m K = true) (hm : Nat.ble m 10000 = true) (hu : aggB P K = true) (hT : ∀ q, okQ q → Typ P h K (kC q)) (hq : okQ q) (hl : ∀ p ∈ l, okQ p.1) (hf : fdq q l 0 = none) :
    Fk P K (.agg ⟨kC q⟩) (mArr l).toList none := by
  have := log_find hk hm hu hT hq hl
  rwa [hf] at this
theorem snoc_len {l : Lg} {p : Qn × List UInt8} : (l ++ [p]).length = l.length + 1 := by simp
end Go.Orc
namespace Go.Orc
open Go.Vc Go.RowKit
section
variable {w w' w0 : World} {L : List Ent}
theorem HP_viewNil (h : HP w0 w L) : HP w0 w (.view none (([] : List UInt8).map vu8) :: L) :=
  h.add ⟨View.nil _ _, fun ad h => by cases h⟩ rfl fun f _ _ b hb _ => by simp [Ent.blocks] at hb
end
def sS (df : List UInt8) (dn : Nat) (key : List UInt8) (dm : Int) (data : List UInt8) (u : Nat) (lg : Lg) : Nat → Nat × Lg × List UInt8
  | 0 => (u, lg, [])
  | k + 1 => (ansU (sS df dn key dm data u lg k).1 (sS df dn key dm data u lg k).2.1 (4, key, dm, data ++ leN 8 k), ansL df dn (sS df dn key dm data u lg k).1 (sS df dn key dm data u lg k).2.1 (4, key, dm, data ++ leN 8 k), (sS df dn key dm data u lg k).2.2 ++ ansD df dn (sS df dn key dm data u lg k).1 (sS df dn key dm data u lg k).2.1 (4, key, dm, data ++ leN 8 k))
def ok32 (l : Lg) : Prop := ∀ p ∈ l, p.2.length = 32
theorem Lgs.ok32 {w : World} {xs : List Value} {l : Lg} (h : Lgs w xs l) : ok32 l := by
  induction h with
  | nil => intro p hp; cases hp
  | snoc r hq hd hl hc hv ih =>
    intro p hp
    rcases List.mem_append.1 hp with hp | hp
    · exact ih p hp
    · rw [List.mem_singleton] at hp; subst hp; exact hd
section
variable {df : List UInt8} {dn : Nat} {key : List UInt8} {dm : Int} {data : List UInt8} {u : Nat} {lg : Lg}
end
end Go.Orc

namespace Go.Orc
open Go.Vc
def gx (a b : List UInt8) : List UInt8 := List.zipWith (fun x y => x ^^^ y) a b
def pcB (pg : Nat) (ct : UInt64) : List UInt8 := [leN 8 (UInt64.ofNat pg).toNat, leN 8 ct.toNat].flatten
def onesL (x : UInt8) : List UInt8 := List.replicate 32 x
end Go.Orc

namespace Go.Proofs.Ytnhppjimimhlkaa
open Go.Vc Go.Orc Go.Sh Go.RowKit
set_option maxRecDepth 20000
theorem el24 : ElT Try.prog 24 23 32 32 := ElT.mk' Try.underlying24 (i := Try.t23) rfl rfl rfl rfl rfl rfl
theorem c_oword (x : UInt64) (w : World) :
    Cs Try.prog 107 [(vu64 x)].toArray w (fun v w1 => ∃ a cap, v = .slice a 8 cap ∧ Chg w w1 [] ∧ Own w.heap.size w1 5 1 a 8 cap ((leN 8 x.toNat).map vu8)) := by
  refine Cs.of (n := 11) (args := [(vu64 x)]) Try.func107 rfl rfl rfl ?_
  have h_0 := HP.init w
  refine WP.seq ?_
  refine WP.reg ?_
  refine WL.q (Wn.no rfl) rfl rfl (R.assign (v := (.slice none 0 0)) rfl) ?_
  refine WL.nil ?_
  refine thn_n ?_
  refine WP.seq ?_
  refine WP.reg ?_
  refine WL.q (Wn.no rfl) rfl rfl (R.move (v := (vu64 x)) rfl) ?_
  refine WL.call (al := [(vu64 x), (vi 8)]) Try.call76 rfl rfl (c_Put_b x 8 rfl _) rfl ?_
  rintro _ w_3 ⟨a_1, cap_2, rfl, hc_4, ho_5⟩
  have h_6 := h_0.gotRow hc_4 ho_5
  refine WL.q (Wn.no rfl) rfl rfl (R.move (v := (.tuple [(.slice a_1 8 cap_2), (vi 0)].toArray)) rfl) ?_
  refine WL.q (Wn.no rfl) rfl rfl (R.extract (l := [(.slice a_1 8 cap_2), (vi 0)]) (v := (.slice a_1 8 cap_2)) rfl rfl) ?_
  refine WL.q (Wn.no rfl) rfl rfl (R.extract (l := [(.slice a_1 8 cap_2), (vi 0)]) (v := (vi 0)) rfl rfl) ?_
  refine WL.q (Wn.no rfl) rfl rfl (R.assign (v := (.slice a_1 8 cap_2)) rfl) ?_
  refine WL.q (Wn.no rfl) rfl rfl (R.assign (v := (vi 0)) rfl) ?_
  refine WL.nil ?_
  refine thn_n ?_
  refine WP.seq ?_
  refine WP.reg ?_
  refine WL.q (Wn.no rfl) rfl rfl (R.move (v := (.slice a_1 8 cap_2)) rfl) ?_
  refine WL.q (Wn.no rfl) rfl rfl (R.assign (v := (.slice a_1 8 cap_2)) rfl) ?_
  refine WL.nil ?_
  refine thn_n ?_
  refine WP.ret ?_
  refine ret_of Try.results107 (RV.tmp (v := (.slice a_1 8 cap_2)) rfl RV.nil) ?_
  exact ⟨_, _, rfl, h_6.chgS, h_6.ok _ (.head _)⟩

theorem c_CloneD (a : Option Addr) (n cap : Nat) (df : List UInt8) (hl : df.length = 32 * n) (hn : n ≤ 1000000000) (w : World) (hv : View w a (df.map vu8)) :
    Cs Try.prog 50 [(.slice a n cap)].toArray w (fun v w1 => ∃ a cap, v = .slice a n cap ∧ Chg w w1 [] ∧ Own w.heap.size w1 23 32 a n cap (df.map vu8)) := by
  refine Cs.of (n := 8) (args := [(.slice a n cap)]) Try.func50 rfl rfl rfl ?_
  have h_0 := HP.init w
  have h_00 := h_0.old (View.arg hv) (fun f hf => by cases hf)
  refine WP.seq ?_
  refine WP.reg ?_
  refine WL.q (Wn.no rfl) rfl rfl (R.assign (v := (.slice none 0 0)) rfl) ?_
  refine WL.nil ?_
  refine thn_n ?_
  refine WP.seq ?_
  refine WP.seq ?_
  refine WP.reg ?_
  refine WL.q (Wn.no rfl) rfl rfl (R.move (v := (.slice a n cap)) rfl) ?_
  refine WL.q (Wn.no rfl) rfl rfl (R.eqNilS rfl rfl Try.underlying24) ?_
  refine WL.nil ?_
  refine thn_n ?_
  refine WP.cond (b := a.isNone) rfl (fun c_1 => ?_) (fun c_1 => ?_)
  · refine WP.seq ?_
    refine WP.reg ?_
    refine WL.q (Wn.no rfl) rfl rfl (R.assign (v := (.slice none 0 0)) rfl) ?_
    refine WL.nil ?_
    refine thn_n ?_
    refine WP.ret ?_
    refine thn_r ?_
    refine ret_of Try.results50 (RV.tmp (v := (.slice none 0 0)) rfl RV.nil) ?_
    obtain rfl : df = [] := view_none c_1 hv
    obtain rfl : n = 0 := by simp at hl; omega
    exact ⟨none, 0, rfl, h_00.chgS, Own.nil ..⟩
  · refine WP.skip ?_
    refine thn_n ?_
    refine WP.seq ?_
    refine WP.reg ?_
    refine WL.buildSl0 h_00 Try.underlying24 Try.sizeOf23 rfl (fun b_2 w_3 h_4 => ?_)
    refine WL.q (Wn.no rfl) rfl rfl (R.move (v := (.slice a n cap)) rfl) ?_
    refine WL.append (km := n) (xs := []) (ys := df.map vu8) (zs := df.map vu8) h_4 rfl rfl el24 (viewV (h_4.ok _ (.tail _ (.head _)))) ((len_map hl).trans (by omega)) (one_u8 _) rfl (by omega) (by omega) (by omega) (fun _ _ => At.h) rfl (fun a_5 c_6 w_7 h_8 => ?_)
    refine WL.q (Wn.no rfl) rfl rfl (R.assign (v := (.slice a_5 n c_6)) rfl) ?_
    refine WL.nil ?_
    refine thn_n ?_
    refine WP.ret ?_
    refine ret_of Try.results50 (RV.tmp (v := (.slice a_5 n c_6)) rfl RV.nil) ?_
    exact ⟨_, _, rfl, h_8.chgS, h_8.ok _ (.head _)⟩

theorem c_draw {w00 : World} {L : List Ent} (id : Bool) (ob mp : Nat) (ms df : List UInt8) (hms : ms.length = 32) (da : Option Addr) (dn dc u : Nat) (hdf : df.length = 32 * dn) (la : Option Addr) (lc : Nat) (lx : List Value) (lg : Lg) (hu : u ≤ 1000000) (hlg : lg.length ≤ 1000000) (w : World) (h_0 : HP w00 w (Ent.blk ob .nw 50 [(1, [(.bool id)]), (32, ms.map vu8), (1, [(.slice da dn dc)]), (1, [(vi ((u : Nat) : Int))]), (1, [(.map (some mp))]), (1, [(.slice la lg.length lc)])] :: Ent.view da (df.map vu8) :: L)) :
    Cs Try.prog 96 [(.pointer (some ⟨ob, 0, none⟩))].toArray w (fun v w1 => v = (.agg ⟨(drawF df dn u).map vu8⟩) ∧ HP w00 w1 (Ent.blk ob .nw 50 [(1, [(.bool id)]), (32, ms.map vu8), (1, [(.slice da dn dc)]), (1, [(vi (((u + 1) : Nat) : Int))]), (1, [(.map (some mp))]), (1, [(.slice la lg.length lc)])] :: Ent.view da (df.map vu8) :: L)) := by
  refine Cs.of (n := 37) (args := [(.pointer (some ⟨ob, 0, none⟩))]) Try.func96 rfl rfl rfl ?_
  refine WP.seq ?_
  refine WP.reg ?_
  refine WL.alloc (segs := [(32, (List.replicate 32 (0 : UInt8)).map vu8)]) h_0 (zv Try.typeInfo23 rfl) rfl (SsOk.cons (SOk.u8 (List.length_replicate ..)) SsOk.nil) rfl (fun b_1 w_2 h_3 => ?_)
  refine WL.nil ?_
  refine thn_n ?_
  refine WP.seq ?_
  refine WP.reg ?_
  refine WL.q (Wn.no rfl) rfl rfl (R.move (v := (.pointer (some ⟨ob, 0, none⟩))) rfl) ?_
  refine WL.q (Wn.no rfl) rfl rfl (R.nilCheck rfl) ?_
  refine WL.q (Wn.no rfl) rfl rfl (R.fieldAddr (b := ob) (off := 0) (off' := 34) rfl Try.underlying50 rfl Try.sizeOf3 rfl rfl) ?_
  refine WL.q (Wn.no rfl) rfl rfl (R.load1 (b := ob) (off := 34) (v := (vi ((u : Nat) : Int))) rfl Try.isAgg3 (h_3.ok _ (.tail _ (.head _))) (Sg.t rfl (Sg.t rfl (Sg.t rfl Sg.h)))) ?_
  refine WL.q (Wn.no rfl) rfl rfl (R.assign (v := (vi ((u : Nat) : Int))) rfl) ?_
  refine WL.nil ?_
  refine thn_n ?_
  refine WP.seq ?_
  refine WP.reg ?_
  refine WL.q (Wn.no rfl) rfl rfl (R.move (v := (.pointer (some ⟨ob, 0, none⟩))) rfl) ?_
  refine WL.q (Wn.no rfl) rfl rfl (R.nilCheck rfl) ?_
  refine WL.q (Wn.no rfl) rfl rfl (R.fieldAddr (b := ob) (off := 0) (off' := 34) rfl Try.underlying50 rfl Try.sizeOf3 rfl rfl) ?_
  refine WL.q (Wn.no rfl) rfl rfl (R.load1 (b := ob) (off := 34) (v := (vi ((u : Nat) : Int))) rfl Try.isAgg3 (h_3.ok _ (.tail _ (.head _))) (Sg.t rfl (Sg.t rfl (Sg.t rfl Sg.h)))) ?_
  refine WL.q (Wn.no rfl) rfl rfl (R.bin (v := (vi ((u + 1 : Nat) : Int))) rfl rfl (bi_add (c := ((u + 1 : Nat) : Int)) (by omega) (by omega))) ?_
  refine WL.q (Wn.no rfl) rfl rfl (R.nilCheck rfl) ?_
  refine WL.q (Wn.no rfl) rfl rfl (R.fieldAddr (b := ob) (off := 0) (off' := 34) rfl Try.underlying50 rfl Try.sizeOf3 rfl rfl) ?_
  refine WL.store1 (b := ob) (off := 34) (v := (vi ((u + 1 : Nat) : Int))) h_3 rfl rfl Try.sizeOf3 rfl (At.t At.h) (by decide) (Sg.t rfl (Sg.t rfl (Sg.t rfl Sg.h))) (fun w_4 h_5 => ?_)
  refine WL.nil ?_
  refine thn_n ?_
  refine WP.seq ?_
  refine WP.seq ?_
  refine WP.reg ?_
  refine WL.q (Wn.no rfl) rfl rfl (R.move (v := (vi ((u : Nat) : Int))) rfl) ?_
  refine WL.q (Wn.no rfl) rfl rfl (R.move (v := (.pointer (some ⟨ob, 0, none⟩))) rfl) ?_
  refine WL.q (Wn.no rfl) rfl rfl (R.nilCheck rfl) ?_
  refine WL.q (Wn.no rfl) rfl rfl (R.fieldAddr (b := ob) (off := 0) (off' := 33) rfl Try.underlying50 rfl Try.sizeOf24 rfl rfl) ?_
  refine WL.q (Wn.no rfl) rfl rfl (R.load1 (b := ob) (off := 33) (v := (.slice da dn dc)) rfl Try.isAgg24 (h_5.ok _ (.tail _ (.head _))) (Sg.t rfl (Sg.t rfl Sg.h))) ?_
  refine WL.q (Wn.no rfl) rfl rfl (R.lenS (a := da) (m := dn) rfl rfl Try.underlying24) ?_
  refine WL.q (Wn.no rfl) rfl rfl (R.bin (v := (.bool (decide ((((u : Nat) : Int) : Int) < ((dn : Nat) : Int))))) rfl rfl (bi_lss (r := decide ((((u : Nat) : Int) : Int) < ((dn : Nat) : Int))) rfl)) ?_
  refine WL.nil ?_
  refine thn_n ?_
  refine WP.cond (b := decide ((((u : Nat) : Int) : Int) < ((dn : Nat) : Int))) rfl (fun c_6 => ?_) (fun c_6 => ?_)
  · have p_7 := of_decide_eq_true c_6
    refine WP.seq ?_
    refine WP.reg ?_
    refine WL.q (Wn.no rfl) rfl rfl (R.move (v := (.pointer (some ⟨ob, 0, none⟩))) rfl) ?_
    refine WL.q (Wn.no rfl) rfl rfl (R.nilCheck rfl) ?_
    refine WL.q (Wn.no rfl) rfl rfl (R.fieldAddr (b := ob) (off := 0) (off' := 33) rfl Try.underlying50 rfl Try.sizeOf24 rfl rfl) ?_
    refine WL.q (Wn.no rfl) rfl rfl (R.load1 (b := ob) (off := 33) (v := (.slice da dn dc)) rfl Try.isAgg24 (h_5.ok _ (.tail _ (.head _))) (Sg.t rfl (Sg.t rfl Sg.h))) ?_
    refine WL.q (Wn.no rfl) rfl rfl (R.move (v := (vi ((u : Nat) : Int))) rfl) ?_
    refine WL.q (Wn.no rfl) rfl rfl (R.indexS (a := da) (i := u) (off := u * 32) (xs := df.map vu8) rfl rfl rfl (by omega) (viewV (h_5.ok _ (.tail _ (.tail _ (.head _))))) (lt_len (K := 32 * dn) (len_map hdf) (by omega)) Try.underlying24 Try.sizeOf23 rfl) ?_
    refine WL.q (Wn.no rfl) rfl rfl (R.loadGA (a := da) (i := u * 32) (xs := df.map vu8) (cs := (((df).drop (u * 32)).take 32).map vu8) rfl (viewV (h_5.ok _ (.tail _ (.tail _ (.head _))))) Try.isAgg23 Try.sizeOf23 (by rw [List.map_take, List.map_drop]) (len_map (subLen (K := 32 * dn) hdf (by omega) : List.length (((df).drop (u * 32)).take 32) = 32)) (by decide)) ?_
    refine WL.storeA (b := b_1) (off := 0) [] [(32, (List.replicate 32 (0 : UInt8)).map vu8)] [(32, (((df).drop (u * 32)).take 32).map vu8)] [] (ys := (((df).drop (u * 32)).take 32).map vu8) h_5 rfl rfl Try.sizeOf23 At.h (by decide) rfl rfl rfl rfl rfl rfl (SsOk.cons (SOk.u8 (subLen (K := 32 * dn) hdf (by omega) : List.length (((df).drop (u * 32)).take 32) = 32)) SsOk.nil) (fun w_8 h_9 => ?_)
    refine WL.nil ?_
    refine thn_n ?_
    refine WP.ret ?_
    refine thn_r ?_
    refine ret_of Try.results96 (RV.cell rfl (h_9.loadA (cs := (((df).drop (u * 32)).take 32).map vu8) Try.isAgg23 Try.sizeOf23 (.head _) rfl rfl) RV.nil) ?_
    have h_10 := h_9.drop rfl
    have h_11 := h_10.up (Pick.t Pick.h)
    have h_12 := h_11.up (Pick.t Pick.h)
    exact ⟨by rw [drawF, if_pos (by omega)]; rfl, h_12⟩
  · have p_13 := of_decide_eq_false c_6
    refine WP.skip ?_
    refine thn_n ?_
    refine WP.seq ?_
    refine WP.reg ?_
    refine WL.alloc (segs := [(32, (List.replicate 32 (0 : UInt8)).map vu8)]) h_5 (zv Try.typeInfo23 rfl) rfl (SsOk.cons (SOk.u8 (List.length_replicate ..)) SsOk.nil) rfl (fun b_14 w_15 h_16 => ?_)
    refine WL.nil ?_
    refine thn_n ?_
    refine WP.seq ?_
    refine WP.drawT (SL w00.heap.size [.blk b_1 .nw 23 [(32, (List.replicate 32 (0 : UInt8)).map vu8)], .blk ob .nw 50 [(1, [(.bool id)]), (32, ms.map vu8), (1, [(.slice da dn dc)]), (1, [(vi ((u + 1 : Nat) : Int))]), (1, [(.map (some mp))]), (1, [(.slice la lg.length lc)])], .view da (df.map vu8)]) (.q 0 (.q 1 (.q 2 (.s 3 (.s 4 .nil))))) (by kernel_rfl) (by kernel_rfl) rfl (by kernel_rfl) (fun w_17 hc_19 => (SL.cons ((h_16.same hc_19).ok _ (.tail _ (.head _))) (SL.cons ((h_16.same hc_19).ok _ (.tail _ (.tail _ (.head _)))) (SL.cons ((h_16.same hc_19).ok _ (.tail _ (.tail _ (.tail _ (.head _))))) (SL.nil _ _))))) (fun w_17 hc_19 => ?_)
    have h_18 := h_16.same hc_19
    refine WT.q rfl (Wn.no rfl) rfl rfl (fun wq hS => R.sliceA (b := b_14) (off := 0) (off' := 0) (l := 0) (h := 32) rfl EvB.dflt EvB.dflt (by decide) (by decide) Try.underlying23 Try.sizeOf5 rfl) ?_
    refine WT.q rfl (Wn.no rfl) rfl rfl (fun wq hS => R.move (v := (vi ((u : Nat) : Int))) rfl) ?_
    refine WT.q rfl (Wn.no rfl) rfl rfl (fun wq hS => R.conv (b := ((UInt64.ofNat u) : UInt64).toNat) rfl Try.underlying3 Try.underlying28 (w64_nat u)) ?_
    refine WT.s ?_
    refine Op1.one rfl (Wn.no rfl) ?_
    refine WL.call (al := [(vu64 (UInt64.ofNat u))]) Try.call107 rfl rfl (c_oword (UInt64.ofNat u) _) rfl ?_
    rintro _ w_22 ⟨a_20, cap_21, rfl, hc_23, ho_24⟩
    have h_25 := h_18.gotRow hc_23 ho_24
    refine WL.nil ?_
    refine ⟨(SL.cons (h_25.ok _ (.tail _ (.tail _ (.head _)))) (SL.cons (h_25.ok _ (.tail _ (.tail _ (.tail _ (.head _))))) (SL.cons (h_25.ok _ (.tail _ (.tail _ (.tail _ (.tail _ (.head _)))))) (SL.nil _ _)))), ?_⟩
    refine WT.s ?_
    refine Op1.one rfl (Wn.no rfl) ?_
    refine WL.copy (q := 8) (i := 0) (ys := (leN 8 (UInt64.ofNat u).toNat).map vu8) (cs' := ((leN 8 (UInt64.ofNat u).toNat) ++ (List.replicate 32 (0 : UInt8)).drop 8).map vu8) h_25 rfl rfl Try.underlying37 Try.sizeOf5 (ownView (h_25.ok _ (.head _))) (len_map (leN_len ..)) (one_u8 _) (At.t At.h) (by decide) Sg.h rfl (by decide) (by rw [len_map (List.length_replicate ..)]; decide) (cpPre (leN_len ..)) rfl (fun w_26 h_27 => ?_)
    refine WL.nil ?_
    refine ⟨(SL.cons (h_27.ok _ (.tail _ (.tail _ (.head _)))) (SL.cons (h_27.ok _ (.tail _ (.tail _ (.tail _ (.head _))))) (SL.cons (h_27.ok _ (.tail _ (.tail _ (.tail _ (.tail _ (.head _)))))) (SL.nil _ _)))), ?_⟩
    refine WT.nil ?_
    refine thn_n ?_
    refine WP.seq ?_
    refine WP.reg ?_
    refine WL.q (Wn.no rfl) rfl rfl (R.indexA (b := b_14) (off := 0) (off' := 31) (i := 31) rfl rfl rfl (by decide) Try.underlying23 Try.sizeOf5 rfl) ?_
    refine WL.storeE (b := b_14) (off := 31) (i := 31) (v := (vu8 1)) (cs' := (((leN 8 (UInt64.ofNat u).toNat) ++ (List.replicate 32 (0 : UInt8)).drop 8).set 31 1).map vu8) h_27 rfl rfl Try.sizeOf5 rfl (At.t At.h) (by decide) Sg.h rfl (lt_len (K := 32) (len_map (cpLen (leN_len ..) (List.length_replicate ..) (by decide))) (by decide)) (set_u8 _ _ _) (fun w_28 h_29 => ?_)
    refine WL.nil ?_
    refine thn_n ?_
    refine WP.seq ?_
    refine WP.reg ?_
    refine WL.q (Wn.no rfl) rfl rfl (R.loadA (b := b_14) (off := 0) [] [(32, (((leN 8 (UInt64.ofNat u).toNat) ++ (List.replicate 32 (0 : UInt8)).drop 8).set 31 1).map vu8)] [] (cs := (((leN 8 (UInt64.ofNat u).toNat) ++ (List.replicate 32 (0 : UInt8)).drop 8).set 31 1).map vu8) rfl Try.isAgg23 Try.sizeOf23 (h_29.ok _ (.tail _ (.head _))) rfl rfl rfl rfl) ?_
    refine WL.storeA (b := b_1) (off := 0) [] [(32, (List.replicate 32 (0 : UInt8)).map vu8)] [(32, (((leN 8 (UInt64.ofNat u).toNat) ++ (List.replicate 32 (0 : UInt8)).drop 8).set 31 1).map vu8)] [] (ys := (((leN 8 (UInt64.ofNat u).toNat) ++ (List.replicate 32 (0 : UInt8)).drop 8).set 31 1).map vu8) h_29 rfl rfl Try.sizeOf23 (At.t (At.t At.h)) (by decide) rfl rfl rfl rfl rfl rfl (SsOk.cons (SOk.u8 (len_set (cpLen (leN_len ..) (List.length_replicate ..) (by decide)) _ _)) SsOk.nil) (fun w_30 h_31 => ?_)
    refine WL.nil ?_
    refine thn_n ?_
    refine WP.ret ?_
    refine ret_of Try.results96 (RV.cell rfl (h_31.loadA (cs := (((leN 8 (UInt64.ofNat u).toNat) ++ (List.replicate 32 (0 : UInt8)).drop 8).set 31 1).map vu8) Try.isAgg23 Try.sizeOf23 (.tail _ (.tail _ (.head _))) rfl rfl) RV.nil) ?_
    have h_32 := h_31.drop rfl
    have h_33 := h_32.drop rfl
    have h_34 := h_33.drop rfl
    have h_35 := h_34.up (Pick.t Pick.h)
    have h_36 := h_35.up (Pick.t Pick.h)
    exact ⟨by rw [drawF, if_neg (by omega), ← draw_tail (by omega)]; rfl, h_36⟩
end Go.Proofs.Ytnhppjimimhlkaa

namespace Go.Orc
open Go.Vc Go.RowKit
section
variable {w w' w0 : World} {L : List Ent}
end
end Go.Orc

namespace Go.Orc
open Go.Vc Go.RowKit
end Go.Orc
namespace Go.Orc
open Go.Vc Go.RowKit
end Go.Orc
namespace Go.Orc
open Go.Vc Go.RowKit
end Go.Orc

namespace Go.Orc
open Go.Vc Go.RowKit
def i2u8 (x : Int) : UInt8 := UInt8.ofNat x.toNat
theorem i2u8_w {x : Int} (h : 0 ≤ x) : IntKind.u8.wrap x = ((i2u8 x).toNat : Int) := by
  obtain ⟨n, rfl⟩ := Int.eq_ofNat_of_zero_le h
  rw [w8_nat, i2u8]; rfl
def cT (q : Qn) : List UInt8 := ([i2u8 q.1] ++ q.2.1) ++ [i2u8 q.2.2.1] ++ q.2.2.2
theorem cT_len {q : Qn} {n : Nat} (hq : okQ q) (h : q.2.2.2.length = n) : (cT q).length = 34 + n := by
  obtain ⟨k, key, d, data⟩ := q
  have := hq.1
  simp [cT] at *
  omega
def cF (q : Qn) : List UInt8 := if q.1 = 1 then Go.Sh.sumL (cT q) else Go.Sh.tagL q.2.1 (cT q)
theorem cF_len (q : Qn) : (cF q).length = 32 := by
  unfold cF; split
  · exact Go.Sh.sumL_len _
  · exact Go.Sh.tagL_len _ _
def mF (id : Bool) (df : List UInt8) (dn u : Nat) (q : Qn) : List UInt8 := bif id then drawF df dn u else cF q
theorem mF_len {id : Bool} {df : List UInt8} {dn u : Nat} {q : Qn} (h : df.length = 32 * dn) : (mF id df dn u q).length = 32 := by
  cases id
  · exact cF_len q
  · exact drawF_len h
def anD (id : Bool) (df : List UInt8) (dn u : Nat) (l : Lg) (q : Qn) : List UInt8 := match fdq q l 0 with
  | some i => (l.getD i (q, [])).2
  | none => mF id df dn u q
def anU (id : Bool) (u : Nat) (l : Lg) (q : Qn) : Nat := match fdq q l 0 with
  | some _ => u
  | none => bif id then u + 1 else u
def anL (id : Bool) (df : List UInt8) (dn u : Nat) (l : Lg) (q : Qn) : Lg := match fdq q l 0 with
  | some _ => l
  | none => l ++ [(q, mF id df dn u q)]
section
variable {id : Bool} {df : List UInt8} {dn u : Nat} {l : Lg} {q : Qn} {i : Nat}
theorem anD_hit (h : fdq q l 0 = some i) : anD id df dn u l q = (l.getD i (q, [])).2 := by rw [anD, h]
theorem anU_hit (h : fdq q l 0 = some i) : anU id u l q = u := by rw [anU, h]
theorem anL_hit (h : fdq q l 0 = some i) : anL id df dn u l q = l := by rw [anL, h]
theorem anD_miss (h : fdq q l 0 = none) : anD id df dn u l q = mF id df dn u q := by rw [anD, h]
theorem anU_miss (h : fdq q l 0 = none) : anU id u l q = bif id then u + 1 else u := by rw [anU, h]
theorem anL_miss (h : fdq q l 0 = none) : anL id df dn u l q = l ++ [(q, mF id df dn u q)] := by rw [anL, h]
theorem anU_le (id : Bool) (u : Nat) (l : Lg) (q : Qn) : anU id u l q ≤ u + 1 := by
  rw [anU]; split
  · omega
  · cases id
    · exact Nat.le_succ u
    · exact Nat.le_refl _
theorem anL_le (id : Bool) (df : List UInt8) (dn u : Nat) (l : Lg) (q : Qn) : (anL id df dn u l q).length ≤ l.length + 1 := by
  rw [anL]; split
  · omega
  · rw [snoc_len]; exact Nat.le_refl _
theorem anD_len (h : df.length = 32 * dn) (hl : ok32 l) : (anD id df dn u l q).length = 32 := by
  rw [anD]
  split
  · rename_i i hi
    have := fdq_lt hi
    have hlt : i < l.length := by omega
    have e : l.getD i (q, []) = l[i] := by simp [hlt]
    rw [e]; exact hl _ (List.getElem_mem hlt)
  · exact mF_len h
theorem anL_32 (h : df.length = 32 * dn) (hl : ok32 l) : ok32 (anL id df dn u l q) := by
  rw [anL]
  split
  · exact hl
  · intro p hp
    rcases List.mem_append.1 hp with hp | hp
    · exact hl p hp
    · rw [List.mem_singleton] at hp; subst hp; exact mF_len h
end
end Go.Orc
