/- A block pressed in: contracts. Conditions: those that each theorem states. -/
import Derived.Test.YtelkjcigdhgcoaaP2
import Derived.Test.YtelkjcigdhgcoaaH5
namespace Go.Proofs.Ytelkjcigdhgcoaa
open Go.Vc Go.Sh Go.RowKit
set_option linter.unusedVariables false
set_option linter.unusedSimpArgs false
set_option maxRecDepth 20000

theorem c_rot2 (x : UInt32) (w : World) :
    Cs Try.prog 78 [(vu32 x), (vi (-2))].toArray w (fun v w1 => v = (vu32 (rot x 2)) ∧ Chg w w1 []) := by
  refine Cs.of (n := 17) (args := [(vu32 x), (vi (-2))]) Try.func78 rfl rfl rfl ?_
  have h_0 := HP.init w
  refine WP.seq ?_
  refine WP.reg ?_
  refine WL.q (Wn.no rfl) rfl rfl (R.assign (v := (vu32 0)) rfl) ?_
  refine WL.nil ?_
  refine thn_n ?_
  refine WP.seq ?_
  refine WP.reg ?_
  refine WL.q (Wn.no rfl) rfl rfl (R.move (v := (vi (-2))) rfl) ?_
  refine WL.q (Wn.no rfl) rfl rfl (R.conv (b := (18446744073709551614 : UInt64).toNat) rfl Try.underlying3 Try.underlying51 (by decide)) ?_
  refine WL.q (Wn.no rfl) rfl rfl (R.bin (v := (vu64 30)) rfl rfl ((b64_and 18446744073709551614 31).trans rfl)) ?_
  refine WL.q (Wn.no rfl) rfl rfl (R.assign (v := (vu64 30)) rfl) ?_
  refine WL.nil ?_
  refine thn_n ?_
  refine WP.seq ?_
  refine WP.reg ?_
  refine WL.q (Wn.no rfl) rfl rfl (R.move (v := (vu32 x)) rfl) ?_
  refine WL.q (Wn.no rfl) rfl rfl (R.move (v := (vu64 30)) rfl) ?_
  refine WL.q (Wn.no rfl) rfl rfl (R.binR (v := vu32 (shl32 x 30)) rfl rfl (run_shl32 _ _ _ x _ 30)) ?_
  refine WL.q (Wn.no rfl) rfl rfl (R.move (v := (vu32 x)) rfl) ?_
  refine WL.q (Wn.no rfl) rfl rfl (R.move (v := (vu64 30)) rfl) ?_
  refine WL.q (Wn.no rfl) rfl rfl (R.bin (v := (vu64 2)) rfl rfl ((b64_sub 32 30).trans rfl)) ?_
  refine WL.q (Wn.no rfl) rfl rfl (R.binR (v := vu32 (shr32 x 2)) rfl rfl (run_shr32 _ _ _ x _ 2)) ?_
  refine WL.q (Wn.no rfl) rfl rfl (R.bin (v := (vu32 ((shl32 x 30) ||| (shr32 x 2)))) rfl rfl (b32_or (shl32 x 30) (shr32 x 2))) ?_
  refine WL.q (Wn.no rfl) rfl rfl (R.assign (v := (vu32 ((shl32 x 30) ||| (shr32 x 2)))) rfl) ?_
  refine WL.nil ?_
  refine thn_n ?_
  refine WP.ret ?_
  refine ret_of Try.results78 (RV.tmp (v := (vu32 ((shl32 x 30) ||| (shr32 x 2)))) rfl RV.nil) ?_
  exact ⟨rfl, h_0.chgS⟩

theorem c_ror2 (x : UInt32) (w : World) :
    Cs Try.prog 57 [(vu32 x), (vu64 2)].toArray w (fun v w1 => v = (vu32 (rot x 2)) ∧ Chg w w1 []) := by
  refine Cs.of (n := 13) (args := [(vu32 x), (vu64 2)]) Try.func57 rfl rfl rfl ?_
  have h_0 := HP.init w
  refine WP.seq ?_
  refine WP.reg ?_
  refine WL.q (Wn.no rfl) rfl rfl (R.assign (v := (vu32 0)) rfl) ?_
  refine WL.nil ?_
  refine thn_n ?_
  refine WP.seq ?_
  refine WP.reg ?_
  refine WL.q (Wn.no rfl) rfl rfl (R.move (v := (vu32 x)) rfl) ?_
  refine WL.q (Wn.no rfl) rfl rfl (R.move (v := (vu64 2)) rfl) ?_
  refine WL.q (Wn.no rfl) rfl rfl (R.binR (v := vu32 (shr32 x 2)) rfl rfl (run_shr32 _ _ _ x _ 2)) ?_
  refine WL.q (Wn.no rfl) rfl rfl (R.move (v := (vu32 x)) rfl) ?_
  refine WL.q (Wn.no rfl) rfl rfl (R.move (v := (vu64 2)) rfl) ?_
  refine WL.q (Wn.no rfl) rfl rfl (R.bin (v := (vu64 30)) rfl rfl ((b64_sub 32 2).trans rfl)) ?_
  refine WL.q (Wn.no rfl) rfl rfl (R.binR (v := vu32 (shl32 x 30)) rfl rfl (run_shl32 _ _ _ x _ 30)) ?_
  refine WL.q (Wn.no rfl) rfl rfl (R.bin (v := (vu32 ((shr32 x 2) ||| (shl32 x 30)))) rfl rfl (b32_or (shr32 x 2) (shl32 x 30))) ?_
  refine WL.q (Wn.no rfl) rfl rfl (R.assign (v := (vu32 ((shr32 x 2) ||| (shl32 x 30)))) rfl) ?_
  refine WL.nil ?_
  refine thn_n ?_
  refine WP.ret ?_
  refine ret_of Try.results57 (RV.tmp (v := (vu32 ((shr32 x 2) ||| (shl32 x 30)))) rfl RV.nil) ?_
  exact ⟨congrArg (fun x : UInt32 => vu32 x) (UInt32.or_comm _ _), h_0.chgS⟩

theorem c_rot6 (x : UInt32) (w : World) :
    Cs Try.prog 78 [(vu32 x), (vi (-6))].toArray w (fun v w1 => v = (vu32 (rot x 6)) ∧ Chg w w1 []) := by
  refine Cs.of (n := 17) (args := [(vu32 x), (vi (-6))]) Try.func78 rfl rfl rfl ?_
  have h_0 := HP.init w
  refine WP.seq ?_
  refine WP.reg ?_
  refine WL.q (Wn.no rfl) rfl rfl (R.assign (v := (vu32 0)) rfl) ?_
  refine WL.nil ?_
  refine thn_n ?_
  refine WP.seq ?_
  refine WP.reg ?_
  refine WL.q (Wn.no rfl) rfl rfl (R.move (v := (vi (-6))) rfl) ?_
  refine WL.q (Wn.no rfl) rfl rfl (R.conv (b := (18446744073709551610 : UInt64).toNat) rfl Try.underlying3 Try.underlying51 (by decide)) ?_
  refine WL.q (Wn.no rfl) rfl rfl (R.bin (v := (vu64 26)) rfl rfl ((b64_and 18446744073709551610 31).trans rfl)) ?_
  refine WL.q (Wn.no rfl) rfl rfl (R.assign (v := (vu64 26)) rfl) ?_
  refine WL.nil ?_
  refine thn_n ?_
  refine WP.seq ?_
  refine WP.reg ?_
  refine WL.q (Wn.no rfl) rfl rfl (R.move (v := (vu32 x)) rfl) ?_
  refine WL.q (Wn.no rfl) rfl rfl (R.move (v := (vu64 26)) rfl) ?_
  refine WL.q (Wn.no rfl) rfl rfl (R.binR (v := vu32 (shl32 x 26)) rfl rfl (run_shl32 _ _ _ x _ 26)) ?_
  refine WL.q (Wn.no rfl) rfl rfl (R.move (v := (vu32 x)) rfl) ?_
  refine WL.q (Wn.no rfl) rfl rfl (R.move (v := (vu64 26)) rfl) ?_
  refine WL.q (Wn.no rfl) rfl rfl (R.bin (v := (vu64 6)) rfl rfl ((b64_sub 32 26).trans rfl)) ?_
  refine WL.q (Wn.no rfl) rfl rfl (R.binR (v := vu32 (shr32 x 6)) rfl rfl (run_shr32 _ _ _ x _ 6)) ?_
  refine WL.q (Wn.no rfl) rfl rfl (R.bin (v := (vu32 ((shl32 x 26) ||| (shr32 x 6)))) rfl rfl (b32_or (shl32 x 26) (shr32 x 6))) ?_
  refine WL.q (Wn.no rfl) rfl rfl (R.assign (v := (vu32 ((shl32 x 26) ||| (shr32 x 6)))) rfl) ?_
  refine WL.nil ?_
  refine thn_n ?_
  refine WP.ret ?_
  refine ret_of Try.results78 (RV.tmp (v := (vu32 ((shl32 x 26) ||| (shr32 x 6)))) rfl RV.nil) ?_
  exact ⟨rfl, h_0.chgS⟩

theorem c_ror6 (x : UInt32) (w : World) :
    Cs Try.prog 57 [(vu32 x), (vu64 6)].toArray w (fun v w1 => v = (vu32 (rot x 6)) ∧ Chg w w1 []) := by
  refine Cs.of (n := 13) (args := [(vu32 x), (vu64 6)]) Try.func57 rfl rfl rfl ?_
  have h_0 := HP.init w
  refine WP.seq ?_
  refine WP.reg ?_
  refine WL.q (Wn.no rfl) rfl rfl (R.assign (v := (vu32 0)) rfl) ?_
  refine WL.nil ?_
  refine thn_n ?_
  refine WP.seq ?_
  refine WP.reg ?_
  refine WL.q (Wn.no rfl) rfl rfl (R.move (v := (vu32 x)) rfl) ?_
  refine WL.q (Wn.no rfl) rfl rfl (R.move (v := (vu64 6)) rfl) ?_
  refine WL.q (Wn.no rfl) rfl rfl (R.binR (v := vu32 (shr32 x 6)) rfl rfl (run_shr32 _ _ _ x _ 6)) ?_
  refine WL.q (Wn.no rfl) rfl rfl (R.move (v := (vu32 x)) rfl) ?_
  refine WL.q (Wn.no rfl) rfl rfl (R.move (v := (vu64 6)) rfl) ?_
  refine WL.q (Wn.no rfl) rfl rfl (R.bin (v := (vu64 26)) rfl rfl ((b64_sub 32 6).trans rfl)) ?_
  refine WL.q (Wn.no rfl) rfl rfl (R.binR (v := vu32 (shl32 x 26)) rfl rfl (run_shl32 _ _ _ x _ 26)) ?_
  refine WL.q (Wn.no rfl) rfl rfl (R.bin (v := (vu32 ((shr32 x 6) ||| (shl32 x 26)))) rfl rfl (b32_or (shr32 x 6) (shl32 x 26))) ?_
  refine WL.q (Wn.no rfl) rfl rfl (R.assign (v := (vu32 ((shr32 x 6) ||| (shl32 x 26)))) rfl) ?_
  refine WL.nil ?_
  refine thn_n ?_
  refine WP.ret ?_
  refine ret_of Try.results57 (RV.tmp (v := (vu32 ((shr32 x 6) ||| (shl32 x 26)))) rfl RV.nil) ?_
  exact ⟨congrArg (fun x : UInt32 => vu32 x) (UInt32.or_comm _ _), h_0.chgS⟩

theorem c_rot7 (x : UInt32) (w : World) :
    Cs Try.prog 78 [(vu32 x), (vi (-7))].toArray w (fun v w1 => v = (vu32 (rot x 7)) ∧ Chg w w1 []) := by
  refine Cs.of (n := 17) (args := [(vu32 x), (vi (-7))]) Try.func78 rfl rfl rfl ?_
  have h_0 := HP.init w
  refine WP.seq ?_
  refine WP.reg ?_
  refine WL.q (Wn.no rfl) rfl rfl (R.assign (v := (vu32 0)) rfl) ?_
  refine WL.nil ?_
  refine thn_n ?_
  refine WP.seq ?_
  refine WP.reg ?_
  refine WL.q (Wn.no rfl) rfl rfl (R.move (v := (vi (-7))) rfl) ?_
  refine WL.q (Wn.no rfl) rfl rfl (R.conv (b := (18446744073709551609 : UInt64).toNat) rfl Try.underlying3 Try.underlying51 (by decide)) ?_
  refine WL.q (Wn.no rfl) rfl rfl (R.bin (v := (vu64 25)) rfl rfl ((b64_and 18446744073709551609 31).trans rfl)) ?_
  refine WL.q (Wn.no rfl) rfl rfl (R.assign (v := (vu64 25)) rfl) ?_
  refine WL.nil ?_
  refine thn_n ?_
  refine WP.seq ?_
  refine WP.reg ?_
  refine WL.q (Wn.no rfl) rfl rfl (R.move (v := (vu32 x)) rfl) ?_
  refine WL.q (Wn.no rfl) rfl rfl (R.move (v := (vu64 25)) rfl) ?_
  refine WL.q (Wn.no rfl) rfl rfl (R.binR (v := vu32 (shl32 x 25)) rfl rfl (run_shl32 _ _ _ x _ 25)) ?_
  refine WL.q (Wn.no rfl) rfl rfl (R.move (v := (vu32 x)) rfl) ?_
  refine WL.q (Wn.no rfl) rfl rfl (R.move (v := (vu64 25)) rfl) ?_
  refine WL.q (Wn.no rfl) rfl rfl (R.bin (v := (vu64 7)) rfl rfl ((b64_sub 32 25).trans rfl)) ?_
  refine WL.q (Wn.no rfl) rfl rfl (R.binR (v := vu32 (shr32 x 7)) rfl rfl (run_shr32 _ _ _ x _ 7)) ?_
  refine WL.q (Wn.no rfl) rfl rfl (R.bin (v := (vu32 ((shl32 x 25) ||| (shr32 x 7)))) rfl rfl (b32_or (shl32 x 25) (shr32 x 7))) ?_
  refine WL.q (Wn.no rfl) rfl rfl (R.assign (v := (vu32 ((shl32 x 25) ||| (shr32 x 7)))) rfl) ?_
  refine WL.nil ?_
  refine thn_n ?_
  refine WP.ret ?_
  refine ret_of Try.results78 (RV.tmp (v := (vu32 ((shl32 x 25) ||| (shr32 x 7)))) rfl RV.nil) ?_
  exact ⟨rfl, h_0.chgS⟩

theorem c_ror7 (x : UInt32) (w : World) :
    Cs Try.prog 57 [(vu32 x), (vu64 7)].toArray w (fun v w1 => v = (vu32 (rot x 7)) ∧ Chg w w1 []) := by
  refine Cs.of (n := 13) (args := [(vu32 x), (vu64 7)]) Try.func57 rfl rfl rfl ?_
  have h_0 := HP.init w
  refine WP.seq ?_
  refine WP.reg ?_
  refine WL.q (Wn.no rfl) rfl rfl (R.assign (v := (vu32 0)) rfl) ?_
  refine WL.nil ?_
  refine thn_n ?_
  refine WP.seq ?_
  refine WP.reg ?_
  refine WL.q (Wn.no rfl) rfl rfl (R.move (v := (vu32 x)) rfl) ?_
  refine WL.q (Wn.no rfl) rfl rfl (R.move (v := (vu64 7)) rfl) ?_
  refine WL.q (Wn.no rfl) rfl rfl (R.binR (v := vu32 (shr32 x 7)) rfl rfl (run_shr32 _ _ _ x _ 7)) ?_
  refine WL.q (Wn.no rfl) rfl rfl (R.move (v := (vu32 x)) rfl) ?_
  refine WL.q (Wn.no rfl) rfl rfl (R.move (v := (vu64 7)) rfl) ?_
  refine WL.q (Wn.no rfl) rfl rfl (R.bin (v := (vu64 25)) rfl rfl ((b64_sub 32 7).trans rfl)) ?_
  refine WL.q (Wn.no rfl) rfl rfl (R.binR (v := vu32 (shl32 x 25)) rfl rfl (run_shl32 _ _ _ x _ 25)) ?_
  refine WL.q (Wn.no rfl) rfl rfl (R.bin (v := (vu32 ((shr32 x 7) ||| (shl32 x 25)))) rfl rfl (b32_or (shr32 x 7) (shl32 x 25))) ?_
  refine WL.q (Wn.no rfl) rfl rfl (R.assign (v := (vu32 ((shr32 x 7) ||| (shl32 x 25)))) rfl) ?_
  refine WL.nil ?_
  refine thn_n ?_
  refine WP.ret ?_
  refine ret_of Try.results57 (RV.tmp (v := (vu32 ((shr32 x 7) ||| (shl32 x 25)))) rfl RV.nil) ?_
  exact ⟨congrArg (fun x : UInt32 => vu32 x) (UInt32.or_comm _ _), h_0.chgS⟩

theorem c_rot11 (x : UInt32) (w : World) :
    Cs Try.prog 78 [(vu32 x), (vi (-11))].toArray w (fun v w1 => v = (vu32 (rot x 11)) ∧ Chg w w1 []) := by
  refine Cs.of (n := 17) (args := [(vu32 x), (vi (-11))]) Try.func78 rfl rfl rfl ?_
  have h_0 := HP.init w
  refine WP.seq ?_
  refine WP.reg ?_
  refine WL.q (Wn.no rfl) rfl rfl (R.assign (v := (vu32 0)) rfl) ?_
  refine WL.nil ?_
  refine thn_n ?_
  refine WP.seq ?_
  refine WP.reg ?_
  refine WL.q (Wn.no rfl) rfl rfl (R.move (v := (vi (-11))) rfl) ?_
  refine WL.q (Wn.no rfl) rfl rfl (R.conv (b := (18446744073709551605 : UInt64).toNat) rfl Try.underlying3 Try.underlying51 (by decide)) ?_
  refine WL.q (Wn.no rfl) rfl rfl (R.bin (v := (vu64 21)) rfl rfl ((b64_and 18446744073709551605 31).trans rfl)) ?_
  refine WL.q (Wn.no rfl) rfl rfl (R.assign (v := (vu64 21)) rfl) ?_
  refine WL.nil ?_
  refine thn_n ?_
  refine WP.seq ?_
  refine WP.reg ?_
  refine WL.q (Wn.no rfl) rfl rfl (R.move (v := (vu32 x)) rfl) ?_
  refine WL.q (Wn.no rfl) rfl rfl (R.move (v := (vu64 21)) rfl) ?_
  refine WL.q (Wn.no rfl) rfl rfl (R.binR (v := vu32 (shl32 x 21)) rfl rfl (run_shl32 _ _ _ x _ 21)) ?_
  refine WL.q (Wn.no rfl) rfl rfl (R.move (v := (vu32 x)) rfl) ?_
  refine WL.q (Wn.no rfl) rfl rfl (R.move (v := (vu64 21)) rfl) ?_
  refine WL.q (Wn.no rfl) rfl rfl (R.bin (v := (vu64 11)) rfl rfl ((b64_sub 32 21).trans rfl)) ?_
  refine WL.q (Wn.no rfl) rfl rfl (R.binR (v := vu32 (shr32 x 11)) rfl rfl (run_shr32 _ _ _ x _ 11)) ?_
  refine WL.q (Wn.no rfl) rfl rfl (R.bin (v := (vu32 ((shl32 x 21) ||| (shr32 x 11)))) rfl rfl (b32_or (shl32 x 21) (shr32 x 11))) ?_
  refine WL.q (Wn.no rfl) rfl rfl (R.assign (v := (vu32 ((shl32 x 21) ||| (shr32 x 11)))) rfl) ?_
  refine WL.nil ?_
  refine thn_n ?_
  refine WP.ret ?_
  refine ret_of Try.results78 (RV.tmp (v := (vu32 ((shl32 x 21) ||| (shr32 x 11)))) rfl RV.nil) ?_
  exact ⟨rfl, h_0.chgS⟩

theorem c_ror11 (x : UInt32) (w : World) :
    Cs Try.prog 57 [(vu32 x), (vu64 11)].toArray w (fun v w1 => v = (vu32 (rot x 11)) ∧ Chg w w1 []) := by
  refine Cs.of (n := 13) (args := [(vu32 x), (vu64 11)]) Try.func57 rfl rfl rfl ?_
  have h_0 := HP.init w
  refine WP.seq ?_
  refine WP.reg ?_
  refine WL.q (Wn.no rfl) rfl rfl (R.assign (v := (vu32 0)) rfl) ?_
  refine WL.nil ?_
  refine thn_n ?_
  refine WP.seq ?_
  refine WP.reg ?_
  refine WL.q (Wn.no rfl) rfl rfl (R.move (v := (vu32 x)) rfl) ?_
  refine WL.q (Wn.no rfl) rfl rfl (R.move (v := (vu64 11)) rfl) ?_
  refine WL.q (Wn.no rfl) rfl rfl (R.binR (v := vu32 (shr32 x 11)) rfl rfl (run_shr32 _ _ _ x _ 11)) ?_
  refine WL.q (Wn.no rfl) rfl rfl (R.move (v := (vu32 x)) rfl) ?_
  refine WL.q (Wn.no rfl) rfl rfl (R.move (v := (vu64 11)) rfl) ?_
  refine WL.q (Wn.no rfl) rfl rfl (R.bin (v := (vu64 21)) rfl rfl ((b64_sub 32 11).trans rfl)) ?_
  refine WL.q (Wn.no rfl) rfl rfl (R.binR (v := vu32 (shl32 x 21)) rfl rfl (run_shl32 _ _ _ x _ 21)) ?_
  refine WL.q (Wn.no rfl) rfl rfl (R.bin (v := (vu32 ((shr32 x 11) ||| (shl32 x 21)))) rfl rfl (b32_or (shr32 x 11) (shl32 x 21))) ?_
  refine WL.q (Wn.no rfl) rfl rfl (R.assign (v := (vu32 ((shr32 x 11) ||| (shl32 x 21)))) rfl) ?_
  refine WL.nil ?_
  refine thn_n ?_
  refine WP.ret ?_
  refine ret_of Try.results57 (RV.tmp (v := (vu32 ((shr32 x 11) ||| (shl32 x 21)))) rfl RV.nil) ?_
  exact ⟨congrArg (fun x : UInt32 => vu32 x) (UInt32.or_comm _ _), h_0.chgS⟩

theorem c_rot13 (x : UInt32) (w : World) :
    Cs Try.prog 78 [(vu32 x), (vi (-13))].toArray w (fun v w1 => v = (vu32 (rot x 13)) ∧ Chg w w1 []) := by
  refine Cs.of (n := 17) (args := [(vu32 x), (vi (-13))]) Try.func78 rfl rfl rfl ?_
  have h_0 := HP.init w
  refine WP.seq ?_
  refine WP.reg ?_
  refine WL.q (Wn.no rfl) rfl rfl (R.assign (v := (vu32 0)) rfl) ?_
  refine WL.nil ?_
  refine thn_n ?_
  refine WP.seq ?_
  refine WP.reg ?_
  refine WL.q (Wn.no rfl) rfl rfl (R.move (v := (vi (-13))) rfl) ?_
  refine WL.q (Wn.no rfl) rfl rfl (R.conv (b := (18446744073709551603 : UInt64).toNat) rfl Try.underlying3 Try.underlying51 (by decide)) ?_
  refine WL.q (Wn.no rfl) rfl rfl (R.bin (v := (vu64 19)) rfl rfl ((b64_and 18446744073709551603 31).trans rfl)) ?_
  refine WL.q (Wn.no rfl) rfl rfl (R.assign (v := (vu64 19)) rfl) ?_
  refine WL.nil ?_
  refine thn_n ?_
  refine WP.seq ?_
  refine WP.reg ?_
  refine WL.q (Wn.no rfl) rfl rfl (R.move (v := (vu32 x)) rfl) ?_
  refine WL.q (Wn.no rfl) rfl rfl (R.move (v := (vu64 19)) rfl) ?_
  refine WL.q (Wn.no rfl) rfl rfl (R.binR (v := vu32 (shl32 x 19)) rfl rfl (run_shl32 _ _ _ x _ 19)) ?_
  refine WL.q (Wn.no rfl) rfl rfl (R.move (v := (vu32 x)) rfl) ?_
  refine WL.q (Wn.no rfl) rfl rfl (R.move (v := (vu64 19)) rfl) ?_
  refine WL.q (Wn.no rfl) rfl rfl (R.bin (v := (vu64 13)) rfl rfl ((b64_sub 32 19).trans rfl)) ?_
  refine WL.q (Wn.no rfl) rfl rfl (R.binR (v := vu32 (shr32 x 13)) rfl rfl (run_shr32 _ _ _ x _ 13)) ?_
  refine WL.q (Wn.no rfl) rfl rfl (R.bin (v := (vu32 ((shl32 x 19) ||| (shr32 x 13)))) rfl rfl (b32_or (shl32 x 19) (shr32 x 13))) ?_
  refine WL.q (Wn.no rfl) rfl rfl (R.assign (v := (vu32 ((shl32 x 19) ||| (shr32 x 13)))) rfl) ?_
  refine WL.nil ?_
  refine thn_n ?_
  refine WP.ret ?_
  refine ret_of Try.results78 (RV.tmp (v := (vu32 ((shl32 x 19) ||| (shr32 x 13)))) rfl RV.nil) ?_
  exact ⟨rfl, h_0.chgS⟩

theorem c_ror13 (x : UInt32) (w : World) :
    Cs Try.prog 57 [(vu32 x), (vu64 13)].toArray w (fun v w1 => v = (vu32 (rot x 13)) ∧ Chg w w1 []) := by
  refine Cs.of (n := 13) (args := [(vu32 x), (vu64 13)]) Try.func57 rfl rfl rfl ?_
  have h_0 := HP.init w
  refine WP.seq ?_
  refine WP.reg ?_
  refine WL.q (Wn.no rfl) rfl rfl (R.assign (v := (vu32 0)) rfl) ?_
  refine WL.nil ?_
  refine thn_n ?_
  refine WP.seq ?_
  refine WP.reg ?_
  refine WL.q (Wn.no rfl) rfl rfl (R.move (v := (vu32 x)) rfl) ?_
  refine WL.q (Wn.no rfl) rfl rfl (R.move (v := (vu64 13)) rfl) ?_
  refine WL.q (Wn.no rfl) rfl rfl (R.binR (v := vu32 (shr32 x 13)) rfl rfl (run_shr32 _ _ _ x _ 13)) ?_
  refine WL.q (Wn.no rfl) rfl rfl (R.move (v := (vu32 x)) rfl) ?_
  refine WL.q (Wn.no rfl) rfl rfl (R.move (v := (vu64 13)) rfl) ?_
  refine WL.q (Wn.no rfl) rfl rfl (R.bin (v := (vu64 19)) rfl rfl ((b64_sub 32 13).trans rfl)) ?_
  refine WL.q (Wn.no rfl) rfl rfl (R.binR (v := vu32 (shl32 x 19)) rfl rfl (run_shl32 _ _ _ x _ 19)) ?_
  refine WL.q (Wn.no rfl) rfl rfl (R.bin (v := (vu32 ((shr32 x 13) ||| (shl32 x 19)))) rfl rfl (b32_or (shr32 x 13) (shl32 x 19))) ?_
  refine WL.q (Wn.no rfl) rfl rfl (R.assign (v := (vu32 ((shr32 x 13) ||| (shl32 x 19)))) rfl) ?_
  refine WL.nil ?_
  refine thn_n ?_
  refine WP.ret ?_
  refine ret_of Try.results57 (RV.tmp (v := (vu32 ((shr32 x 13) ||| (shl32 x 19)))) rfl RV.nil) ?_
  exact ⟨congrArg (fun x : UInt32 => vu32 x) (UInt32.or_comm _ _), h_0.chgS⟩

theorem c_rot17 (x : UInt32) (w : World) :
    Cs Try.prog 78 [(vu32 x), (vi (-17))].toArray w (fun v w1 => v = (vu32 (rot x 17)) ∧ Chg w w1 []) := by
  refine Cs.of (n := 17) (args := [(vu32 x), (vi (-17))]) Try.func78 rfl rfl rfl ?_
  have h_0 := HP.init w
  refine WP.seq ?_
  refine WP.reg ?_
  refine WL.q (Wn.no rfl) rfl rfl (R.assign (v := (vu32 0)) rfl) ?_
  refine WL.nil ?_
  refine thn_n ?_
  refine WP.seq ?_
  refine WP.reg ?_
  refine WL.q (Wn.no rfl) rfl rfl (R.move (v := (vi (-17))) rfl) ?_
  refine WL.q (Wn.no rfl) rfl rfl (R.conv (b := (18446744073709551599 : UInt64).toNat) rfl Try.underlying3 Try.underlying51 (by decide)) ?_
  refine WL.q (Wn.no rfl) rfl rfl (R.bin (v := (vu64 15)) rfl rfl ((b64_and 18446744073709551599 31).trans rfl)) ?_
  refine WL.q (Wn.no rfl) rfl rfl (R.assign (v := (vu64 15)) rfl) ?_
  refine WL.nil ?_
  refine thn_n ?_
  refine WP.seq ?_
  refine WP.reg ?_
  refine WL.q (Wn.no rfl) rfl rfl (R.move (v := (vu32 x)) rfl) ?_
  refine WL.q (Wn.no rfl) rfl rfl (R.move (v := (vu64 15)) rfl) ?_
  refine WL.q (Wn.no rfl) rfl rfl (R.binR (v := vu32 (shl32 x 15)) rfl rfl (run_shl32 _ _ _ x _ 15)) ?_
  refine WL.q (Wn.no rfl) rfl rfl (R.move (v := (vu32 x)) rfl) ?_
  refine WL.q (Wn.no rfl) rfl rfl (R.move (v := (vu64 15)) rfl) ?_
  refine WL.q (Wn.no rfl) rfl rfl (R.bin (v := (vu64 17)) rfl rfl ((b64_sub 32 15).trans rfl)) ?_
  refine WL.q (Wn.no rfl) rfl rfl (R.binR (v := vu32 (shr32 x 17)) rfl rfl (run_shr32 _ _ _ x _ 17)) ?_
  refine WL.q (Wn.no rfl) rfl rfl (R.bin (v := (vu32 ((shl32 x 15) ||| (shr32 x 17)))) rfl rfl (b32_or (shl32 x 15) (shr32 x 17))) ?_
  refine WL.q (Wn.no rfl) rfl rfl (R.assign (v := (vu32 ((shl32 x 15) ||| (shr32 x 17)))) rfl) ?_
  refine WL.nil ?_
  refine thn_n ?_
  refine WP.ret ?_
  refine ret_of Try.results78 (RV.tmp (v := (vu32 ((shl32 x 15) ||| (shr32 x 17)))) rfl RV.nil) ?_
  exact ⟨rfl, h_0.chgS⟩

theorem c_ror17 (x : UInt32) (w : World) :
    Cs Try.prog 57 [(vu32 x), (vu64 17)].toArray w (fun v w1 => v = (vu32 (rot x 17)) ∧ Chg w w1 []) := by
  refine Cs.of (n := 13) (args := [(vu32 x), (vu64 17)]) Try.func57 rfl rfl rfl ?_
  have h_0 := HP.init w
  refine WP.seq ?_
  refine WP.reg ?_
  refine WL.q (Wn.no rfl) rfl rfl (R.assign (v := (vu32 0)) rfl) ?_
  refine WL.nil ?_
  refine thn_n ?_
  refine WP.seq ?_
  refine WP.reg ?_
  refine WL.q (Wn.no rfl) rfl rfl (R.move (v := (vu32 x)) rfl) ?_
  refine WL.q (Wn.no rfl) rfl rfl (R.move (v := (vu64 17)) rfl) ?_
  refine WL.q (Wn.no rfl) rfl rfl (R.binR (v := vu32 (shr32 x 17)) rfl rfl (run_shr32 _ _ _ x _ 17)) ?_
  refine WL.q (Wn.no rfl) rfl rfl (R.move (v := (vu32 x)) rfl) ?_
  refine WL.q (Wn.no rfl) rfl rfl (R.move (v := (vu64 17)) rfl) ?_
  refine WL.q (Wn.no rfl) rfl rfl (R.bin (v := (vu64 15)) rfl rfl ((b64_sub 32 17).trans rfl)) ?_
  refine WL.q (Wn.no rfl) rfl rfl (R.binR (v := vu32 (shl32 x 15)) rfl rfl (run_shl32 _ _ _ x _ 15)) ?_
  refine WL.q (Wn.no rfl) rfl rfl (R.bin (v := (vu32 ((shr32 x 17) ||| (shl32 x 15)))) rfl rfl (b32_or (shr32 x 17) (shl32 x 15))) ?_
  refine WL.q (Wn.no rfl) rfl rfl (R.assign (v := (vu32 ((shr32 x 17) ||| (shl32 x 15)))) rfl) ?_
  refine WL.nil ?_
  refine thn_n ?_
  refine WP.ret ?_
  refine ret_of Try.results57 (RV.tmp (v := (vu32 ((shr32 x 17) ||| (shl32 x 15)))) rfl RV.nil) ?_
  exact ⟨congrArg (fun x : UInt32 => vu32 x) (UInt32.or_comm _ _), h_0.chgS⟩

theorem c_rot18 (x : UInt32) (w : World) :
    Cs Try.prog 78 [(vu32 x), (vi (-18))].toArray w (fun v w1 => v = (vu32 (rot x 18)) ∧ Chg w w1 []) := by
  refine Cs.of (n := 17) (args := [(vu32 x), (vi (-18))]) Try.func78 rfl rfl rfl ?_
  have h_0 := HP.init w
  refine WP.seq ?_
  refine WP.reg ?_
  refine WL.q (Wn.no rfl) rfl rfl (R.assign (v := (vu32 0)) rfl) ?_
  refine WL.nil ?_
  refine thn_n ?_
  refine WP.seq ?_
  refine WP.reg ?_
  refine WL.q (Wn.no rfl) rfl rfl (R.move (v := (vi (-18))) rfl) ?_
  refine WL.q (Wn.no rfl) rfl rfl (R.conv (b := (18446744073709551598 : UInt64).toNat) rfl Try.underlying3 Try.underlying51 (by decide)) ?_
  refine WL.q (Wn.no rfl) rfl rfl (R.bin (v := (vu64 14)) rfl rfl ((b64_and 18446744073709551598 31).trans rfl)) ?_
  refine WL.q (Wn.no rfl) rfl rfl (R.assign (v := (vu64 14)) rfl) ?_
  refine WL.nil ?_
  refine thn_n ?_
  refine WP.seq ?_
  refine WP.reg ?_
  refine WL.q (Wn.no rfl) rfl rfl (R.move (v := (vu32 x)) rfl) ?_
  refine WL.q (Wn.no rfl) rfl rfl (R.move (v := (vu64 14)) rfl) ?_
  refine WL.q (Wn.no rfl) rfl rfl (R.binR (v := vu32 (shl32 x 14)) rfl rfl (run_shl32 _ _ _ x _ 14)) ?_
  refine WL.q (Wn.no rfl) rfl rfl (R.move (v := (vu32 x)) rfl) ?_
  refine WL.q (Wn.no rfl) rfl rfl (R.move (v := (vu64 14)) rfl) ?_
  refine WL.q (Wn.no rfl) rfl rfl (R.bin (v := (vu64 18)) rfl rfl ((b64_sub 32 14).trans rfl)) ?_
  refine WL.q (Wn.no rfl) rfl rfl (R.binR (v := vu32 (shr32 x 18)) rfl rfl (run_shr32 _ _ _ x _ 18)) ?_
  refine WL.q (Wn.no rfl) rfl rfl (R.bin (v := (vu32 ((shl32 x 14) ||| (shr32 x 18)))) rfl rfl (b32_or (shl32 x 14) (shr32 x 18))) ?_
  refine WL.q (Wn.no rfl) rfl rfl (R.assign (v := (vu32 ((shl32 x 14) ||| (shr32 x 18)))) rfl) ?_
  refine WL.nil ?_
  refine thn_n ?_
  refine WP.ret ?_
  refine ret_of Try.results78 (RV.tmp (v := (vu32 ((shl32 x 14) ||| (shr32 x 18)))) rfl RV.nil) ?_
  exact ⟨rfl, h_0.chgS⟩

theorem c_ror18 (x : UInt32) (w : World) :
    Cs Try.prog 57 [(vu32 x), (vu64 18)].toArray w (fun v w1 => v = (vu32 (rot x 18)) ∧ Chg w w1 []) := by
  refine Cs.of (n := 13) (args := [(vu32 x), (vu64 18)]) Try.func57 rfl rfl rfl ?_
  have h_0 := HP.init w
  refine WP.seq ?_
  refine WP.reg ?_
  refine WL.q (Wn.no rfl) rfl rfl (R.assign (v := (vu32 0)) rfl) ?_
  refine WL.nil ?_
  refine thn_n ?_
  refine WP.seq ?_
  refine WP.reg ?_
  refine WL.q (Wn.no rfl) rfl rfl (R.move (v := (vu32 x)) rfl) ?_
  refine WL.q (Wn.no rfl) rfl rfl (R.move (v := (vu64 18)) rfl) ?_
  refine WL.q (Wn.no rfl) rfl rfl (R.binR (v := vu32 (shr32 x 18)) rfl rfl (run_shr32 _ _ _ x _ 18)) ?_
  refine WL.q (Wn.no rfl) rfl rfl (R.move (v := (vu32 x)) rfl) ?_
  refine WL.q (Wn.no rfl) rfl rfl (R.move (v := (vu64 18)) rfl) ?_
  refine WL.q (Wn.no rfl) rfl rfl (R.bin (v := (vu64 14)) rfl rfl ((b64_sub 32 18).trans rfl)) ?_
  refine WL.q (Wn.no rfl) rfl rfl (R.binR (v := vu32 (shl32 x 14)) rfl rfl (run_shl32 _ _ _ x _ 14)) ?_
  refine WL.q (Wn.no rfl) rfl rfl (R.bin (v := (vu32 ((shr32 x 18) ||| (shl32 x 14)))) rfl rfl (b32_or (shr32 x 18) (shl32 x 14))) ?_
  refine WL.q (Wn.no rfl) rfl rfl (R.assign (v := (vu32 ((shr32 x 18) ||| (shl32 x 14)))) rfl) ?_
  refine WL.nil ?_
  refine thn_n ?_
  refine WP.ret ?_
  refine ret_of Try.results57 (RV.tmp (v := (vu32 ((shr32 x 18) ||| (shl32 x 14)))) rfl RV.nil) ?_
  exact ⟨congrArg (fun x : UInt32 => vu32 x) (UInt32.or_comm _ _), h_0.chgS⟩

theorem c_rot19 (x : UInt32) (w : World) :
    Cs Try.prog 78 [(vu32 x), (vi (-19))].toArray w (fun v w1 => v = (vu32 (rot x 19)) ∧ Chg w w1 []) := by
  refine Cs.of (n := 17) (args := [(vu32 x), (vi (-19))]) Try.func78 rfl rfl rfl ?_
  have h_0 := HP.init w
  refine WP.seq ?_
  refine WP.reg ?_
  refine WL.q (Wn.no rfl) rfl rfl (R.assign (v := (vu32 0)) rfl) ?_
  refine WL.nil ?_
  refine thn_n ?_
  refine WP.seq ?_
  refine WP.reg ?_
  refine WL.q (Wn.no rfl) rfl rfl (R.move (v := (vi (-19))) rfl) ?_
  refine WL.q (Wn.no rfl) rfl rfl (R.conv (b := (18446744073709551597 : UInt64).toNat) rfl Try.underlying3 Try.underlying51 (by decide)) ?_
  refine WL.q (Wn.no rfl) rfl rfl (R.bin (v := (vu64 13)) rfl rfl ((b64_and 18446744073709551597 31).trans rfl)) ?_
  refine WL.q (Wn.no rfl) rfl rfl (R.assign (v := (vu64 13)) rfl) ?_
  refine WL.nil ?_
  refine thn_n ?_
  refine WP.seq ?_
  refine WP.reg ?_
  refine WL.q (Wn.no rfl) rfl rfl (R.move (v := (vu32 x)) rfl) ?_
  refine WL.q (Wn.no rfl) rfl rfl (R.move (v := (vu64 13)) rfl) ?_
  refine WL.q (Wn.no rfl) rfl rfl (R.binR (v := vu32 (shl32 x 13)) rfl rfl (run_shl32 _ _ _ x _ 13)) ?_
  refine WL.q (Wn.no rfl) rfl rfl (R.move (v := (vu32 x)) rfl) ?_
  refine WL.q (Wn.no rfl) rfl rfl (R.move (v := (vu64 13)) rfl) ?_
  refine WL.q (Wn.no rfl) rfl rfl (R.bin (v := (vu64 19)) rfl rfl ((b64_sub 32 13).trans rfl)) ?_
  refine WL.q (Wn.no rfl) rfl rfl (R.binR (v := vu32 (shr32 x 19)) rfl rfl (run_shr32 _ _ _ x _ 19)) ?_
  refine WL.q (Wn.no rfl) rfl rfl (R.bin (v := (vu32 ((shl32 x 13) ||| (shr32 x 19)))) rfl rfl (b32_or (shl32 x 13) (shr32 x 19))) ?_
  refine WL.q (Wn.no rfl) rfl rfl (R.assign (v := (vu32 ((shl32 x 13) ||| (shr32 x 19)))) rfl) ?_
  refine WL.nil ?_
  refine thn_n ?_
  refine WP.ret ?_
  refine ret_of Try.results78 (RV.tmp (v := (vu32 ((shl32 x 13) ||| (shr32 x 19)))) rfl RV.nil) ?_
  exact ⟨rfl, h_0.chgS⟩

theorem c_ror19 (x : UInt32) (w : World) :
    Cs Try.prog 57 [(vu32 x), (vu64 19)].toArray w (fun v w1 => v = (vu32 (rot x 19)) ∧ Chg w w1 []) := by
  refine Cs.of (n := 13) (args := [(vu32 x), (vu64 19)]) Try.func57 rfl rfl rfl ?_
  have h_0 := HP.init w
  refine WP.seq ?_
  refine WP.reg ?_
  refine WL.q (Wn.no rfl) rfl rfl (R.assign (v := (vu32 0)) rfl) ?_
  refine WL.nil ?_
  refine thn_n ?_
  refine WP.seq ?_
  refine WP.reg ?_
  refine WL.q (Wn.no rfl) rfl rfl (R.move (v := (vu32 x)) rfl) ?_
  refine WL.q (Wn.no rfl) rfl rfl (R.move (v := (vu64 19)) rfl) ?_
  refine WL.q (Wn.no rfl) rfl rfl (R.binR (v := vu32 (shr32 x 19)) rfl rfl (run_shr32 _ _ _ x _ 19)) ?_
  refine WL.q (Wn.no rfl) rfl rfl (R.move (v := (vu32 x)) rfl) ?_
  refine WL.q (Wn.no rfl) rfl rfl (R.move (v := (vu64 19)) rfl) ?_
  refine WL.q (Wn.no rfl) rfl rfl (R.bin (v := (vu64 13)) rfl rfl ((b64_sub 32 19).trans rfl)) ?_
  refine WL.q (Wn.no rfl) rfl rfl (R.binR (v := vu32 (shl32 x 13)) rfl rfl (run_shl32 _ _ _ x _ 13)) ?_
  refine WL.q (Wn.no rfl) rfl rfl (R.bin (v := (vu32 ((shr32 x 19) ||| (shl32 x 13)))) rfl rfl (b32_or (shr32 x 19) (shl32 x 13))) ?_
  refine WL.q (Wn.no rfl) rfl rfl (R.assign (v := (vu32 ((shr32 x 19) ||| (shl32 x 13)))) rfl) ?_
  refine WL.nil ?_
  refine thn_n ?_
  refine WP.ret ?_
  refine ret_of Try.results57 (RV.tmp (v := (vu32 ((shr32 x 19) ||| (shl32 x 13)))) rfl RV.nil) ?_
  exact ⟨congrArg (fun x : UInt32 => vu32 x) (UInt32.or_comm _ _), h_0.chgS⟩

theorem c_rot22 (x : UInt32) (w : World) :
    Cs Try.prog 78 [(vu32 x), (vi (-22))].toArray w (fun v w1 => v = (vu32 (rot x 22)) ∧ Chg w w1 []) := by
  refine Cs.of (n := 17) (args := [(vu32 x), (vi (-22))]) Try.func78 rfl rfl rfl ?_
  have h_0 := HP.init w
  refine WP.seq ?_
  refine WP.reg ?_
  refine WL.q (Wn.no rfl) rfl rfl (R.assign (v := (vu32 0)) rfl) ?_
  refine WL.nil ?_
  refine thn_n ?_
  refine WP.seq ?_
  refine WP.reg ?_
  refine WL.q (Wn.no rfl) rfl rfl (R.move (v := (vi (-22))) rfl) ?_
  refine WL.q (Wn.no rfl) rfl rfl (R.conv (b := (18446744073709551594 : UInt64).toNat) rfl Try.underlying3 Try.underlying51 (by decide)) ?_
  refine WL.q (Wn.no rfl) rfl rfl (R.bin (v := (vu64 10)) rfl rfl ((b64_and 18446744073709551594 31).trans rfl)) ?_
  refine WL.q (Wn.no rfl) rfl rfl (R.assign (v := (vu64 10)) rfl) ?_
  refine WL.nil ?_
  refine thn_n ?_
  refine WP.seq ?_
  refine WP.reg ?_
  refine WL.q (Wn.no rfl) rfl rfl (R.move (v := (vu32 x)) rfl) ?_
  refine WL.q (Wn.no rfl) rfl rfl (R.move (v := (vu64 10)) rfl) ?_
  refine WL.q (Wn.no rfl) rfl rfl (R.binR (v := vu32 (shl32 x 10)) rfl rfl (run_shl32 _ _ _ x _ 10)) ?_
  refine WL.q (Wn.no rfl) rfl rfl (R.move (v := (vu32 x)) rfl) ?_
  refine WL.q (Wn.no rfl) rfl rfl (R.move (v := (vu64 10)) rfl) ?_
  refine WL.q (Wn.no rfl) rfl rfl (R.bin (v := (vu64 22)) rfl rfl ((b64_sub 32 10).trans rfl)) ?_
  refine WL.q (Wn.no rfl) rfl rfl (R.binR (v := vu32 (shr32 x 22)) rfl rfl (run_shr32 _ _ _ x _ 22)) ?_
  refine WL.q (Wn.no rfl) rfl rfl (R.bin (v := (vu32 ((shl32 x 10) ||| (shr32 x 22)))) rfl rfl (b32_or (shl32 x 10) (shr32 x 22))) ?_
  refine WL.q (Wn.no rfl) rfl rfl (R.assign (v := (vu32 ((shl32 x 10) ||| (shr32 x 22)))) rfl) ?_
  refine WL.nil ?_
  refine thn_n ?_
  refine WP.ret ?_
  refine ret_of Try.results78 (RV.tmp (v := (vu32 ((shl32 x 10) ||| (shr32 x 22)))) rfl RV.nil) ?_
  exact ⟨rfl, h_0.chgS⟩

theorem c_ror22 (x : UInt32) (w : World) :
    Cs Try.prog 57 [(vu32 x), (vu64 22)].toArray w (fun v w1 => v = (vu32 (rot x 22)) ∧ Chg w w1 []) := by
  refine Cs.of (n := 13) (args := [(vu32 x), (vu64 22)]) Try.func57 rfl rfl rfl ?_
  have h_0 := HP.init w
  refine WP.seq ?_
  refine WP.reg ?_
  refine WL.q (Wn.no rfl) rfl rfl (R.assign (v := (vu32 0)) rfl) ?_
  refine WL.nil ?_
  refine thn_n ?_
  refine WP.seq ?_
  refine WP.reg ?_
  refine WL.q (Wn.no rfl) rfl rfl (R.move (v := (vu32 x)) rfl) ?_
  refine WL.q (Wn.no rfl) rfl rfl (R.move (v := (vu64 22)) rfl) ?_
  refine WL.q (Wn.no rfl) rfl rfl (R.binR (v := vu32 (shr32 x 22)) rfl rfl (run_shr32 _ _ _ x _ 22)) ?_
  refine WL.q (Wn.no rfl) rfl rfl (R.move (v := (vu32 x)) rfl) ?_
  refine WL.q (Wn.no rfl) rfl rfl (R.move (v := (vu64 22)) rfl) ?_
  refine WL.q (Wn.no rfl) rfl rfl (R.bin (v := (vu64 10)) rfl rfl ((b64_sub 32 22).trans rfl)) ?_
  refine WL.q (Wn.no rfl) rfl rfl (R.binR (v := vu32 (shl32 x 10)) rfl rfl (run_shl32 _ _ _ x _ 10)) ?_
  refine WL.q (Wn.no rfl) rfl rfl (R.bin (v := (vu32 ((shr32 x 22) ||| (shl32 x 10)))) rfl rfl (b32_or (shr32 x 22) (shl32 x 10))) ?_
  refine WL.q (Wn.no rfl) rfl rfl (R.assign (v := (vu32 ((shr32 x 22) ||| (shl32 x 10)))) rfl) ?_
  refine WL.nil ?_
  refine thn_n ?_
  refine WP.ret ?_
  refine ret_of Try.results57 (RV.tmp (v := (vu32 ((shr32 x 22) ||| (shl32 x 10)))) rfl RV.nil) ?_
  exact ⟨congrArg (fun x : UInt32 => vu32 x) (UInt32.or_comm _ _), h_0.chgS⟩

theorem c_rot25 (x : UInt32) (w : World) :
    Cs Try.prog 78 [(vu32 x), (vi (-25))].toArray w (fun v w1 => v = (vu32 (rot x 25)) ∧ Chg w w1 []) := by
  refine Cs.of (n := 17) (args := [(vu32 x), (vi (-25))]) Try.func78 rfl rfl rfl ?_
  have h_0 := HP.init w
  refine WP.seq ?_
  refine WP.reg ?_
  refine WL.q (Wn.no rfl) rfl rfl (R.assign (v := (vu32 0)) rfl) ?_
  refine WL.nil ?_
  refine thn_n ?_
  refine WP.seq ?_
  refine WP.reg ?_
  refine WL.q (Wn.no rfl) rfl rfl (R.move (v := (vi (-25))) rfl) ?_
  refine WL.q (Wn.no rfl) rfl rfl (R.conv (b := (18446744073709551591 : UInt64).toNat) rfl Try.underlying3 Try.underlying51 (by decide)) ?_
  refine WL.q (Wn.no rfl) rfl rfl (R.bin (v := (vu64 7)) rfl rfl ((b64_and 18446744073709551591 31).trans rfl)) ?_
  refine WL.q (Wn.no rfl) rfl rfl (R.assign (v := (vu64 7)) rfl) ?_
  refine WL.nil ?_
  refine thn_n ?_
  refine WP.seq ?_
  refine WP.reg ?_
  refine WL.q (Wn.no rfl) rfl rfl (R.move (v := (vu32 x)) rfl) ?_
  refine WL.q (Wn.no rfl) rfl rfl (R.move (v := (vu64 7)) rfl) ?_
  refine WL.q (Wn.no rfl) rfl rfl (R.binR (v := vu32 (shl32 x 7)) rfl rfl (run_shl32 _ _ _ x _ 7)) ?_
  refine WL.q (Wn.no rfl) rfl rfl (R.move (v := (vu32 x)) rfl) ?_
  refine WL.q (Wn.no rfl) rfl rfl (R.move (v := (vu64 7)) rfl) ?_
  refine WL.q (Wn.no rfl) rfl rfl (R.bin (v := (vu64 25)) rfl rfl ((b64_sub 32 7).trans rfl)) ?_
  refine WL.q (Wn.no rfl) rfl rfl (R.binR (v := vu32 (shr32 x 25)) rfl rfl (run_shr32 _ _ _ x _ 25)) ?_
  refine WL.q (Wn.no rfl) rfl rfl (R.bin (v := (vu32 ((shl32 x 7) ||| (shr32 x 25)))) rfl rfl (b32_or (shl32 x 7) (shr32 x 25))) ?_
  refine WL.q (Wn.no rfl) rfl rfl (R.assign (v := (vu32 ((shl32 x 7) ||| (shr32 x 25)))) rfl) ?_
  refine WL.nil ?_
  refine thn_n ?_
  refine WP.ret ?_
  refine ret_of Try.results78 (RV.tmp (v := (vu32 ((shl32 x 7) ||| (shr32 x 25)))) rfl RV.nil) ?_
  exact ⟨rfl, h_0.chgS⟩

theorem c_ror25 (x : UInt32) (w : World) :
    Cs Try.prog 57 [(vu32 x), (vu64 25)].toArray w (fun v w1 => v = (vu32 (rot x 25)) ∧ Chg w w1 []) := by
  refine Cs.of (n := 13) (args := [(vu32 x), (vu64 25)]) Try.func57 rfl rfl rfl ?_
  have h_0 := HP.init w
  refine WP.seq ?_
  refine WP.reg ?_
  refine WL.q (Wn.no rfl) rfl rfl (R.assign (v := (vu32 0)) rfl) ?_
  refine WL.nil ?_
  refine thn_n ?_
  refine WP.seq ?_
  refine WP.reg ?_
  refine WL.q (Wn.no rfl) rfl rfl (R.move (v := (vu32 x)) rfl) ?_
  refine WL.q (Wn.no rfl) rfl rfl (R.move (v := (vu64 25)) rfl) ?_
  refine WL.q (Wn.no rfl) rfl rfl (R.binR (v := vu32 (shr32 x 25)) rfl rfl (run_shr32 _ _ _ x _ 25)) ?_
  refine WL.q (Wn.no rfl) rfl rfl (R.move (v := (vu32 x)) rfl) ?_
  refine WL.q (Wn.no rfl) rfl rfl (R.move (v := (vu64 25)) rfl) ?_
  refine WL.q (Wn.no rfl) rfl rfl (R.bin (v := (vu64 7)) rfl rfl ((b64_sub 32 25).trans rfl)) ?_
  refine WL.q (Wn.no rfl) rfl rfl (R.binR (v := vu32 (shl32 x 7)) rfl rfl (run_shl32 _ _ _ x _ 7)) ?_
  refine WL.q (Wn.no rfl) rfl rfl (R.bin (v := (vu32 ((shr32 x 25) ||| (shl32 x 7)))) rfl rfl (b32_or (shr32 x 25) (shl32 x 7))) ?_
  refine WL.q (Wn.no rfl) rfl rfl (R.assign (v := (vu32 ((shr32 x 25) ||| (shl32 x 7)))) rfl) ?_
  refine WL.nil ?_
  refine thn_n ?_
  refine WP.ret ?_
  refine ret_of Try.results57 (RV.tmp (v := (vu32 ((shr32 x 25) ||| (shl32 x 7)))) rfl RV.nil) ?_
  exact ⟨congrArg (fun x : UInt32 => vu32 x) (UInt32.or_comm _ _), h_0.chgS⟩

theorem c_rors_7_18 (x : UInt32) (a : Option Addr) (cap : Nat) (w : World) (hv : View w a (([7, 18] : List Int).map vi64)) :
    Cs Try.prog 77 [(vu32 x), (.slice a 2 cap)].toArray w (fun v w1 => v = (vu32 (rot x 7 ^^^ rot x 18)) ∧ Chg w w1 []) := by
  refine Cs.of (n := 22) (args := [(vu32 x), (.slice a 2 cap)]) Try.func77 rfl rfl rfl ?_
  have h_0 := HP.init w
  have h_00 := h_0.old (View.arg hv) (fun f hf => by cases hf)
  refine WP.seq ?_
  refine WP.reg ?_
  refine WL.q (Wn.no rfl) rfl rfl (R.assign (v := (vu32 0)) rfl) ?_
  refine WL.nil ?_
  refine thn_n ?_
  refine WP.seq ?_
  refine WP.reg ?_
  refine WL.q (Wn.no rfl) rfl rfl (R.assign (v := (vu32 0)) rfl) ?_
  refine WL.nil ?_
  refine thn_n ?_
  refine WP.seq ?_
  refine WP.seq ?_
  refine WP.reg ?_
  refine WL.q (Wn.no rfl) rfl rfl (R.move (v := (.slice a 2 cap)) rfl) ?_
  refine WL.q (Wn.no rfl) rfl rfl (R.lenS (a := a) (m := 2) rfl rfl Try.underlying99) ?_
  refine WL.q (Wn.no rfl) rfl rfl (R.move (v := (vi 0)) rfl) ?_
  refine WL.nil ?_
  refine thn_n ?_
  refine WP.block ?_
  refine WP.loopU (WI.round ?_)
  refine WP.seq ?_
  refine WP.reg ?_
  refine WL.q (Wn.no rfl) rfl rfl (R.bin (v := (.bool true)) rfl rfl (bi_lss (r := true) (by decide))) ?_
  refine WL.nil ?_
  refine thn_n ?_
  refine WP.seq ?_
  refine WP.condT rfl ?_
  refine WP.skip ?_
  refine thn_n ?_
  refine WP.seq ?_
  refine WP.block ?_
  refine WP.seq ?_
  refine WP.reg ?_
  refine WL.q (Wn.no rfl) rfl rfl (R.indexS (a := a) (i := 0) (off := 0) (xs := ([7, 18] : List Int).map vi64) rfl rfl rfl (by decide) (viewV (h_00.ok _ (.head _))) (lt_len (K := 2) (len_map (rfl : List.length ([7, 18] : List Int) = 2)) (by omega)) Try.underlying99 Try.sizeOf3 (Nat.mul_one _).symm) ?_
  refine WL.q (Wn.no rfl) rfl rfl (R.loadG (a := a) (i := 0) (xs := ([7, 18] : List Int).map vi64) (v := (vi 7)) rfl (viewV (h_00.ok _ (.head _))) Try.isAgg3 rfl) ?_
  refine WL.q (Wn.no rfl) rfl rfl (R.assign (v := (vi 7)) rfl) ?_
  refine WL.nil ?_
  refine thn_n ?_
  refine WP.reg ?_
  refine WL.q (Wn.no rfl) rfl rfl (R.move (v := (vu32 0)) rfl) ?_
  refine WL.q (Wn.no rfl) rfl rfl (R.move (v := (vu32 x)) rfl) ?_
  refine WL.q (Wn.no rfl) rfl rfl (R.move (v := (vi 7)) rfl) ?_
  refine WL.q (Wn.no rfl) rfl rfl (R.un rfl (run_neg (c := -7) (by omega) (by omega))) ?_
  refine WL.call (al := [(vu32 x), (vi (-7))]) Try.call78 rfl rfl (c_rot7 x _ ) rfl ?_
  rintro _ w_2 ⟨rfl, hc_1⟩
  have h_3 := h_00.same hc_1
  refine WL.q (Wn.no rfl) rfl rfl (R.bin (v := (vu32 ((0 : UInt32) ^^^ (rot x 7)))) rfl rfl (b32_xor 0 (rot x 7))) ?_
  refine WL.q (Wn.no rfl) rfl rfl (R.assign (v := (vu32 ((0 : UInt32) ^^^ (rot x 7)))) rfl) ?_
  refine WL.nil ?_
  refine inb_n ?_
  refine thn_n ?_
  refine WP.reg ?_
  refine WL.q (Wn.no rfl) rfl rfl (R.bin (v := (vi 1)) rfl rfl (bi_add (c := 1) (by omega) (by omega))) ?_
  refine WL.q (Wn.no rfl) rfl rfl (R.move (v := (vi 1)) rfl) ?_
  refine WL.nil ?_
  refine thn_n ?_
  refine WI.round ?_
  refine WP.seq ?_
  refine WP.reg ?_
  refine WL.q (Wn.no rfl) rfl rfl (R.bin (v := (.bool true)) rfl rfl (bi_lss (r := true) (by decide))) ?_
  refine WL.nil ?_
  refine thn_n ?_
  refine WP.seq ?_
  refine WP.condT rfl ?_
  refine WP.skip ?_
  refine thn_n ?_
  refine WP.seq ?_
  refine WP.block ?_
  refine WP.seq ?_
  refine WP.reg ?_
  refine WL.q (Wn.no rfl) rfl rfl (R.indexS (a := a) (i := 1) (off := 1) (xs := ([7, 18] : List Int).map vi64) rfl rfl rfl (by decide) (viewV (h_3.ok _ (.head _))) (lt_len (K := 2) (len_map (rfl : List.length ([7, 18] : List Int) = 2)) (by omega)) Try.underlying99 Try.sizeOf3 (Nat.mul_one _).symm) ?_
  refine WL.q (Wn.no rfl) rfl rfl (R.loadG (a := a) (i := 1) (xs := ([7, 18] : List Int).map vi64) (v := (vi 18)) rfl (viewV (h_3.ok _ (.head _))) Try.isAgg3 rfl) ?_
  refine WL.q (Wn.no rfl) rfl rfl (R.assign (v := (vi 18)) rfl) ?_
  refine WL.nil ?_
  refine thn_n ?_
  refine WP.reg ?_
  refine WL.q (Wn.no rfl) rfl rfl (R.move (v := (vu32 ((0 : UInt32) ^^^ (rot x 7)))) rfl) ?_
  refine WL.q (Wn.no rfl) rfl rfl (R.move (v := (vu32 x)) rfl) ?_
  refine WL.q (Wn.no rfl) rfl rfl (R.move (v := (vi 18)) rfl) ?_
  refine WL.q (Wn.no rfl) rfl rfl (R.un rfl (run_neg (c := -18) (by omega) (by omega))) ?_
  refine WL.call (al := [(vu32 x), (vi (-18))]) Try.call78 rfl rfl (c_rot18 x _ ) rfl ?_
  rintro _ w_5 ⟨rfl, hc_4⟩
  have h_6 := h_3.same hc_4
  refine WL.q (Wn.no rfl) rfl rfl (R.bin (v := (vu32 (((0 : UInt32) ^^^ (rot x 7)) ^^^ (rot x 18)))) rfl rfl (b32_xor ((0 : UInt32) ^^^ (rot x 7)) (rot x 18))) ?_
  refine WL.q (Wn.no rfl) rfl rfl (R.assign (v := (vu32 (((0 : UInt32) ^^^ (rot x 7)) ^^^ (rot x 18)))) rfl) ?_
  refine WL.nil ?_
  refine inb_n ?_
  refine thn_n ?_
  refine WP.reg ?_
  refine WL.q (Wn.no rfl) rfl rfl (R.bin (v := (vi 2)) rfl rfl (bi_add (c := 2) (by omega) (by omega))) ?_
  refine WL.q (Wn.no rfl) rfl rfl (R.move (v := (vi 2)) rfl) ?_
  refine WL.nil ?_
  refine thn_n ?_
  refine WI.round ?_
  refine WP.seq ?_
  refine WP.reg ?_
  refine WL.q (Wn.no rfl) rfl rfl (R.bin (v := (.bool false)) rfl rfl (bi_lss (r := false) (by decide))) ?_
  refine WL.nil ?_
  refine thn_n ?_
  refine WP.seq ?_
  refine WP.condF rfl ?_
  refine WP.exit ?_
  refine thn_x ?_
  refine thn_x ?_
  refine inb_hit ?_
  refine thn_n ?_
  refine WP.seq ?_
  refine WP.reg ?_
  refine WL.q (Wn.no rfl) rfl rfl (R.move (v := (vu32 (((0 : UInt32) ^^^ (rot x 7)) ^^^ (rot x 18)))) rfl) ?_
  refine WL.q (Wn.no rfl) rfl rfl (R.assign (v := (vu32 (((0 : UInt32) ^^^ (rot x 7)) ^^^ (rot x 18)))) rfl) ?_
  refine WL.nil ?_
  refine thn_n ?_
  refine WP.ret ?_
  refine ret_of Try.results77 (RV.tmp (v := (vu32 (((0 : UInt32) ^^^ (rot x 7)) ^^^ (rot x 18)))) rfl RV.nil) ?_
  exact ⟨congrArg (fun x : UInt32 => vu32 x) (by rw [UInt32.zero_xor]), h_6.chgS⟩

theorem c_rors_17_19 (x : UInt32) (a : Option Addr) (cap : Nat) (w : World) (hv : View w a (([17, 19] : List Int).map vi64)) :
    Cs Try.prog 77 [(vu32 x), (.slice a 2 cap)].toArray w (fun v w1 => v = (vu32 (rot x 17 ^^^ rot x 19)) ∧ Chg w w1 []) := by
  refine Cs.of (n := 22) (args := [(vu32 x), (.slice a 2 cap)]) Try.func77 rfl rfl rfl ?_
  have h_0 := HP.init w
  have h_00 := h_0.old (View.arg hv) (fun f hf => by cases hf)
  refine WP.seq ?_
  refine WP.reg ?_
  refine WL.q (Wn.no rfl) rfl rfl (R.assign (v := (vu32 0)) rfl) ?_
  refine WL.nil ?_
  refine thn_n ?_
  refine WP.seq ?_
  refine WP.reg ?_
  refine WL.q (Wn.no rfl) rfl rfl (R.assign (v := (vu32 0)) rfl) ?_
  refine WL.nil ?_
  refine thn_n ?_
  refine WP.seq ?_
  refine WP.seq ?_
  refine WP.reg ?_
  refine WL.q (Wn.no rfl) rfl rfl (R.move (v := (.slice a 2 cap)) rfl) ?_
  refine WL.q (Wn.no rfl) rfl rfl (R.lenS (a := a) (m := 2) rfl rfl Try.underlying99) ?_
  refine WL.q (Wn.no rfl) rfl rfl (R.move (v := (vi 0)) rfl) ?_
  refine WL.nil ?_
  refine thn_n ?_
  refine WP.block ?_
  refine WP.loopU (WI.round ?_)
  refine WP.seq ?_
  refine WP.reg ?_
  refine WL.q (Wn.no rfl) rfl rfl (R.bin (v := (.bool true)) rfl rfl (bi_lss (r := true) (by decide))) ?_
  refine WL.nil ?_
  refine thn_n ?_
  refine WP.seq ?_
  refine WP.condT rfl ?_
  refine WP.skip ?_
  refine thn_n ?_
  refine WP.seq ?_
  refine WP.block ?_
  refine WP.seq ?_
  refine WP.reg ?_
  refine WL.q (Wn.no rfl) rfl rfl (R.indexS (a := a) (i := 0) (off := 0) (xs := ([17, 19] : List Int).map vi64) rfl rfl rfl (by decide) (viewV (h_00.ok _ (.head _))) (lt_len (K := 2) (len_map (rfl : List.length ([17, 19] : List Int) = 2)) (by omega)) Try.underlying99 Try.sizeOf3 (Nat.mul_one _).symm) ?_
  refine WL.q (Wn.no rfl) rfl rfl (R.loadG (a := a) (i := 0) (xs := ([17, 19] : List Int).map vi64) (v := (vi 17)) rfl (viewV (h_00.ok _ (.head _))) Try.isAgg3 rfl) ?_
  refine WL.q (Wn.no rfl) rfl rfl (R.assign (v := (vi 17)) rfl) ?_
  refine WL.nil ?_
  refine thn_n ?_
  refine WP.reg ?_
  refine WL.q (Wn.no rfl) rfl rfl (R.move (v := (vu32 0)) rfl) ?_
  refine WL.q (Wn.no rfl) rfl rfl (R.move (v := (vu32 x)) rfl) ?_
  refine WL.q (Wn.no rfl) rfl rfl (R.move (v := (vi 17)) rfl) ?_
  refine WL.q (Wn.no rfl) rfl rfl (R.un rfl (run_neg (c := -17) (by omega) (by omega))) ?_
  refine WL.call (al := [(vu32 x), (vi (-17))]) Try.call78 rfl rfl (c_rot17 x _ ) rfl ?_
  rintro _ w_2 ⟨rfl, hc_1⟩
  have h_3 := h_00.same hc_1
  refine WL.q (Wn.no rfl) rfl rfl (R.bin (v := (vu32 ((0 : UInt32) ^^^ (rot x 17)))) rfl rfl (b32_xor 0 (rot x 17))) ?_
  refine WL.q (Wn.no rfl) rfl rfl (R.assign (v := (vu32 ((0 : UInt32) ^^^ (rot x 17)))) rfl) ?_
  refine WL.nil ?_
  refine inb_n ?_
  refine thn_n ?_
  refine WP.reg ?_
  refine WL.q (Wn.no rfl) rfl rfl (R.bin (v := (vi 1)) rfl rfl (bi_add (c := 1) (by omega) (by omega))) ?_
  refine WL.q (Wn.no rfl) rfl rfl (R.move (v := (vi 1)) rfl) ?_
  refine WL.nil ?_
  refine thn_n ?_
  refine WI.round ?_
  refine WP.seq ?_
  refine WP.reg ?_
  refine WL.q (Wn.no rfl) rfl rfl (R.bin (v := (.bool true)) rfl rfl (bi_lss (r := true) (by decide))) ?_
  refine WL.nil ?_
  refine thn_n ?_
  refine WP.seq ?_
  refine WP.condT rfl ?_
  refine WP.skip ?_
  refine thn_n ?_
  refine WP.seq ?_
  refine WP.block ?_
  refine WP.seq ?_
  refine WP.reg ?_
  refine WL.q (Wn.no rfl) rfl rfl (R.indexS (a := a) (i := 1) (off := 1) (xs := ([17, 19] : List Int).map vi64) rfl rfl rfl (by decide) (viewV (h_3.ok _ (.head _))) (lt_len (K := 2) (len_map (rfl : List.length ([17, 19] : List Int) = 2)) (by omega)) Try.underlying99 Try.sizeOf3 (Nat.mul_one _).symm) ?_
  refine WL.q (Wn.no rfl) rfl rfl (R.loadG (a := a) (i := 1) (xs := ([17, 19] : List Int).map vi64) (v := (vi 19)) rfl (viewV (h_3.ok _ (.head _))) Try.isAgg3 rfl) ?_
  refine WL.q (Wn.no rfl) rfl rfl (R.assign (v := (vi 19)) rfl) ?_
  refine WL.nil ?_
  refine thn_n ?_
  refine WP.reg ?_
  refine WL.q (Wn.no rfl) rfl rfl (R.move (v := (vu32 ((0 : UInt32) ^^^ (rot x 17)))) rfl) ?_
  refine WL.q (Wn.no rfl) rfl rfl (R.move (v := (vu32 x)) rfl) ?_
  refine WL.q (Wn.no rfl) rfl rfl (R.move (v := (vi 19)) rfl) ?_
  refine WL.q (Wn.no rfl) rfl rfl (R.un rfl (run_neg (c := -19) (by omega) (by omega))) ?_
  refine WL.call (al := [(vu32 x), (vi (-19))]) Try.call78 rfl rfl (c_rot19 x _ ) rfl ?_
  rintro _ w_5 ⟨rfl, hc_4⟩
  have h_6 := h_3.same hc_4
  refine WL.q (Wn.no rfl) rfl rfl (R.bin (v := (vu32 (((0 : UInt32) ^^^ (rot x 17)) ^^^ (rot x 19)))) rfl rfl (b32_xor ((0 : UInt32) ^^^ (rot x 17)) (rot x 19))) ?_
  refine WL.q (Wn.no rfl) rfl rfl (R.assign (v := (vu32 (((0 : UInt32) ^^^ (rot x 17)) ^^^ (rot x 19)))) rfl) ?_
  refine WL.nil ?_
  refine inb_n ?_
  refine thn_n ?_
  refine WP.reg ?_
  refine WL.q (Wn.no rfl) rfl rfl (R.bin (v := (vi 2)) rfl rfl (bi_add (c := 2) (by omega) (by omega))) ?_
  refine WL.q (Wn.no rfl) rfl rfl (R.move (v := (vi 2)) rfl) ?_
  refine WL.nil ?_
  refine thn_n ?_
  refine WI.round ?_
  refine WP.seq ?_
  refine WP.reg ?_
  refine WL.q (Wn.no rfl) rfl rfl (R.bin (v := (.bool false)) rfl rfl (bi_lss (r := false) (by decide))) ?_
  refine WL.nil ?_
  refine thn_n ?_
  refine WP.seq ?_
  refine WP.condF rfl ?_
  refine WP.exit ?_
  refine thn_x ?_
  refine thn_x ?_
  refine inb_hit ?_
  refine thn_n ?_
  refine WP.seq ?_
  refine WP.reg ?_
  refine WL.q (Wn.no rfl) rfl rfl (R.move (v := (vu32 (((0 : UInt32) ^^^ (rot x 17)) ^^^ (rot x 19)))) rfl) ?_
  refine WL.q (Wn.no rfl) rfl rfl (R.assign (v := (vu32 (((0 : UInt32) ^^^ (rot x 17)) ^^^ (rot x 19)))) rfl) ?_
  refine WL.nil ?_
  refine thn_n ?_
  refine WP.ret ?_
  refine ret_of Try.results77 (RV.tmp (v := (vu32 (((0 : UInt32) ^^^ (rot x 17)) ^^^ (rot x 19)))) rfl RV.nil) ?_
  exact ⟨congrArg (fun x : UInt32 => vu32 x) (by rw [UInt32.zero_xor]), h_6.chgS⟩

theorem c_rors_6_11_25 (x : UInt32) (a : Option Addr) (cap : Nat) (w : World) (hv : View w a (([6, 11, 25] : List Int).map vi64)) :
    Cs Try.prog 77 [(vu32 x), (.slice a 3 cap)].toArray w (fun v w1 => v = (vu32 ((rot x 6 ^^^ rot x 11) ^^^ rot x 25)) ∧ Chg w w1 []) := by
  refine Cs.of (n := 22) (args := [(vu32 x), (.slice a 3 cap)]) Try.func77 rfl rfl rfl ?_
  have h_0 := HP.init w
  have h_00 := h_0.old (View.arg hv) (fun f hf => by cases hf)
  refine WP.seq ?_
  refine WP.reg ?_
  refine WL.q (Wn.no rfl) rfl rfl (R.assign (v := (vu32 0)) rfl) ?_
  refine WL.nil ?_
  refine thn_n ?_
  refine WP.seq ?_
  refine WP.reg ?_
  refine WL.q (Wn.no rfl) rfl rfl (R.assign (v := (vu32 0)) rfl) ?_
  refine WL.nil ?_
  refine thn_n ?_
  refine WP.seq ?_
  refine WP.seq ?_
  refine WP.reg ?_
  refine WL.q (Wn.no rfl) rfl rfl (R.move (v := (.slice a 3 cap)) rfl) ?_
  refine WL.q (Wn.no rfl) rfl rfl (R.lenS (a := a) (m := 3) rfl rfl Try.underlying99) ?_
  refine WL.q (Wn.no rfl) rfl rfl (R.move (v := (vi 0)) rfl) ?_
  refine WL.nil ?_
  refine thn_n ?_
  refine WP.block ?_
  refine WP.loopU (WI.round ?_)
  refine WP.seq ?_
  refine WP.reg ?_
  refine WL.q (Wn.no rfl) rfl rfl (R.bin (v := (.bool true)) rfl rfl (bi_lss (r := true) (by decide))) ?_
  refine WL.nil ?_
  refine thn_n ?_
  refine WP.seq ?_
  refine WP.condT rfl ?_
  refine WP.skip ?_
  refine thn_n ?_
  refine WP.seq ?_
  refine WP.block ?_
  refine WP.seq ?_
  refine WP.reg ?_
  refine WL.q (Wn.no rfl) rfl rfl (R.indexS (a := a) (i := 0) (off := 0) (xs := ([6, 11, 25] : List Int).map vi64) rfl rfl rfl (by decide) (viewV (h_00.ok _ (.head _))) (lt_len (K := 3) (len_map (rfl : List.length ([6, 11, 25] : List Int) = 3)) (by omega)) Try.underlying99 Try.sizeOf3 (Nat.mul_one _).symm) ?_
  refine WL.q (Wn.no rfl) rfl rfl (R.loadG (a := a) (i := 0) (xs := ([6, 11, 25] : List Int).map vi64) (v := (vi 6)) rfl (viewV (h_00.ok _ (.head _))) Try.isAgg3 rfl) ?_
  refine WL.q (Wn.no rfl) rfl rfl (R.assign (v := (vi 6)) rfl) ?_
  refine WL.nil ?_
  refine thn_n ?_
  refine WP.reg ?_
  refine WL.q (Wn.no rfl) rfl rfl (R.move (v := (vu32 0)) rfl) ?_
  refine WL.q (Wn.no rfl) rfl rfl (R.move (v := (vu32 x)) rfl) ?_
  refine WL.q (Wn.no rfl) rfl rfl (R.move (v := (vi 6)) rfl) ?_
  refine WL.q (Wn.no rfl) rfl rfl (R.un rfl (run_neg (c := -6) (by omega) (by omega))) ?_
  refine WL.call (al := [(vu32 x), (vi (-6))]) Try.call78 rfl rfl (c_rot6 x _ ) rfl ?_
  rintro _ w_2 ⟨rfl, hc_1⟩
  have h_3 := h_00.same hc_1
  refine WL.q (Wn.no rfl) rfl rfl (R.bin (v := (vu32 ((0 : UInt32) ^^^ (rot x 6)))) rfl rfl (b32_xor 0 (rot x 6))) ?_
  refine WL.q (Wn.no rfl) rfl rfl (R.assign (v := (vu32 ((0 : UInt32) ^^^ (rot x 6)))) rfl) ?_
  refine WL.nil ?_
  refine inb_n ?_
  refine thn_n ?_
  refine WP.reg ?_
  refine WL.q (Wn.no rfl) rfl rfl (R.bin (v := (vi 1)) rfl rfl (bi_add (c := 1) (by omega) (by omega))) ?_
  refine WL.q (Wn.no rfl) rfl rfl (R.move (v := (vi 1)) rfl) ?_
  refine WL.nil ?_
  refine thn_n ?_
  refine WI.round ?_
  refine WP.seq ?_
  refine WP.reg ?_
  refine WL.q (Wn.no rfl) rfl rfl (R.bin (v := (.bool true)) rfl rfl (bi_lss (r := true) (by decide))) ?_
  refine WL.nil ?_
  refine thn_n ?_
  refine WP.seq ?_
  refine WP.condT rfl ?_
  refine WP.skip ?_
  refine thn_n ?_
  refine WP.seq ?_
  refine WP.block ?_
  refine WP.seq ?_
  refine WP.reg ?_
  refine WL.q (Wn.no rfl) rfl rfl (R.indexS (a := a) (i := 1) (off := 1) (xs := ([6, 11, 25] : List Int).map vi64) rfl rfl rfl (by decide) (viewV (h_3.ok _ (.head _))) (lt_len (K := 3) (len_map (rfl : List.length ([6, 11, 25] : List Int) = 3)) (by omega)) Try.underlying99 Try.sizeOf3 (Nat.mul_one _).symm) ?_
  refine WL.q (Wn.no rfl) rfl rfl (R.loadG (a := a) (i := 1) (xs := ([6, 11, 25] : List Int).map vi64) (v := (vi 11)) rfl (viewV (h_3.ok _ (.head _))) Try.isAgg3 rfl) ?_
  refine WL.q (Wn.no rfl) rfl rfl (R.assign (v := (vi 11)) rfl) ?_
  refine WL.nil ?_
  refine thn_n ?_
  refine WP.reg ?_
  refine WL.q (Wn.no rfl) rfl rfl (R.move (v := (vu32 ((0 : UInt32) ^^^ (rot x 6)))) rfl) ?_
  refine WL.q (Wn.no rfl) rfl rfl (R.move (v := (vu32 x)) rfl) ?_
  refine WL.q (Wn.no rfl) rfl rfl (R.move (v := (vi 11)) rfl) ?_
  refine WL.q (Wn.no rfl) rfl rfl (R.un rfl (run_neg (c := -11) (by omega) (by omega))) ?_
  refine WL.call (al := [(vu32 x), (vi (-11))]) Try.call78 rfl rfl (c_rot11 x _ ) rfl ?_
  rintro _ w_5 ⟨rfl, hc_4⟩
  have h_6 := h_3.same hc_4
  refine WL.q (Wn.no rfl) rfl rfl (R.bin (v := (vu32 (((0 : UInt32) ^^^ (rot x 6)) ^^^ (rot x 11)))) rfl rfl (b32_xor ((0 : UInt32) ^^^ (rot x 6)) (rot x 11))) ?_
  refine WL.q (Wn.no rfl) rfl rfl (R.assign (v := (vu32 (((0 : UInt32) ^^^ (rot x 6)) ^^^ (rot x 11)))) rfl) ?_
  refine WL.nil ?_
  refine inb_n ?_
  refine thn_n ?_
  refine WP.reg ?_
  refine WL.q (Wn.no rfl) rfl rfl (R.bin (v := (vi 2)) rfl rfl (bi_add (c := 2) (by omega) (by omega))) ?_
  refine WL.q (Wn.no rfl) rfl rfl (R.move (v := (vi 2)) rfl) ?_
  refine WL.nil ?_
  refine thn_n ?_
  refine WI.round ?_
  refine WP.seq ?_
  refine WP.reg ?_
  refine WL.q (Wn.no rfl) rfl rfl (R.bin (v := (.bool true)) rfl rfl (bi_lss (r := true) (by decide))) ?_
  refine WL.nil ?_
  refine thn_n ?_
  refine WP.seq ?_
  refine WP.condT rfl ?_
  refine WP.skip ?_
  refine thn_n ?_
  refine WP.seq ?_
  refine WP.block ?_
  refine WP.seq ?_
  refine WP.reg ?_
  refine WL.q (Wn.no rfl) rfl rfl (R.indexS (a := a) (i := 2) (off := 2) (xs := ([6, 11, 25] : List Int).map vi64) rfl rfl rfl (by decide) (viewV (h_6.ok _ (.head _))) (lt_len (K := 3) (len_map (rfl : List.length ([6, 11, 25] : List Int) = 3)) (by omega)) Try.underlying99 Try.sizeOf3 (Nat.mul_one _).symm) ?_
  refine WL.q (Wn.no rfl) rfl rfl (R.loadG (a := a) (i := 2) (xs := ([6, 11, 25] : List Int).map vi64) (v := (vi 25)) rfl (viewV (h_6.ok _ (.head _))) Try.isAgg3 rfl) ?_
  refine WL.q (Wn.no rfl) rfl rfl (R.assign (v := (vi 25)) rfl) ?_
  refine WL.nil ?_
  refine thn_n ?_
  refine WP.reg ?_
  refine WL.q (Wn.no rfl) rfl rfl (R.move (v := (vu32 (((0 : UInt32) ^^^ (rot x 6)) ^^^ (rot x 11)))) rfl) ?_
  refine WL.q (Wn.no rfl) rfl rfl (R.move (v := (vu32 x)) rfl) ?_
  refine WL.q (Wn.no rfl) rfl rfl (R.move (v := (vi 25)) rfl) ?_
  refine WL.q (Wn.no rfl) rfl rfl (R.un rfl (run_neg (c := -25) (by omega) (by omega))) ?_
  refine WL.call (al := [(vu32 x), (vi (-25))]) Try.call78 rfl rfl (c_rot25 x _ ) rfl ?_
  rintro _ w_8 ⟨rfl, hc_7⟩
  have h_9 := h_6.same hc_7
  refine WL.q (Wn.no rfl) rfl rfl (R.bin (v := (vu32 ((((0 : UInt32) ^^^ (rot x 6)) ^^^ (rot x 11)) ^^^ (rot x 25)))) rfl rfl (b32_xor (((0 : UInt32) ^^^ (rot x 6)) ^^^ (rot x 11)) (rot x 25))) ?_
  refine WL.q (Wn.no rfl) rfl rfl (R.assign (v := (vu32 ((((0 : UInt32) ^^^ (rot x 6)) ^^^ (rot x 11)) ^^^ (rot x 25)))) rfl) ?_
  refine WL.nil ?_
  refine inb_n ?_
  refine thn_n ?_
  refine WP.reg ?_
  refine WL.q (Wn.no rfl) rfl rfl (R.bin (v := (vi 3)) rfl rfl (bi_add (c := 3) (by omega) (by omega))) ?_
  refine WL.q (Wn.no rfl) rfl rfl (R.move (v := (vi 3)) rfl) ?_
  refine WL.nil ?_
  refine thn_n ?_
  refine WI.round ?_
  refine WP.seq ?_
  refine WP.reg ?_
  refine WL.q (Wn.no rfl) rfl rfl (R.bin (v := (.bool false)) rfl rfl (bi_lss (r := false) (by decide))) ?_
  refine WL.nil ?_
  refine thn_n ?_
  refine WP.seq ?_
  refine WP.condF rfl ?_
  refine WP.exit ?_
  refine thn_x ?_
  refine thn_x ?_
  refine inb_hit ?_
  refine thn_n ?_
  refine WP.seq ?_
  refine WP.reg ?_
  refine WL.q (Wn.no rfl) rfl rfl (R.move (v := (vu32 ((((0 : UInt32) ^^^ (rot x 6)) ^^^ (rot x 11)) ^^^ (rot x 25)))) rfl) ?_
  refine WL.q (Wn.no rfl) rfl rfl (R.assign (v := (vu32 ((((0 : UInt32) ^^^ (rot x 6)) ^^^ (rot x 11)) ^^^ (rot x 25)))) rfl) ?_
  refine WL.nil ?_
  refine thn_n ?_
  refine WP.ret ?_
  refine ret_of Try.results77 (RV.tmp (v := (vu32 ((((0 : UInt32) ^^^ (rot x 6)) ^^^ (rot x 11)) ^^^ (rot x 25)))) rfl RV.nil) ?_
  exact ⟨congrArg (fun x : UInt32 => vu32 x) (by rw [UInt32.zero_xor]), h_9.chgS⟩

theorem c_rors_2_13_22 (x : UInt32) (a : Option Addr) (cap : Nat) (w : World) (hv : View w a (([2, 13, 22] : List Int).map vi64)) :
    Cs Try.prog 77 [(vu32 x), (.slice a 3 cap)].toArray w (fun v w1 => v = (vu32 ((rot x 2 ^^^ rot x 13) ^^^ rot x 22)) ∧ Chg w w1 []) := by
  refine Cs.of (n := 22) (args := [(vu32 x), (.slice a 3 cap)]) Try.func77 rfl rfl rfl ?_
  have h_0 := HP.init w
  have h_00 := h_0.old (View.arg hv) (fun f hf => by cases hf)
  refine WP.seq ?_
  refine WP.reg ?_
  refine WL.q (Wn.no rfl) rfl rfl (R.assign (v := (vu32 0)) rfl) ?_
  refine WL.nil ?_
  refine thn_n ?_
  refine WP.seq ?_
  refine WP.reg ?_
  refine WL.q (Wn.no rfl) rfl rfl (R.assign (v := (vu32 0)) rfl) ?_
  refine WL.nil ?_
  refine thn_n ?_
  refine WP.seq ?_
  refine WP.seq ?_
  refine WP.reg ?_
  refine WL.q (Wn.no rfl) rfl rfl (R.move (v := (.slice a 3 cap)) rfl) ?_
  refine WL.q (Wn.no rfl) rfl rfl (R.lenS (a := a) (m := 3) rfl rfl Try.underlying99) ?_
  refine WL.q (Wn.no rfl) rfl rfl (R.move (v := (vi 0)) rfl) ?_
  refine WL.nil ?_
  refine thn_n ?_
  refine WP.block ?_
  refine WP.loopU (WI.round ?_)
  refine WP.seq ?_
  refine WP.reg ?_
  refine WL.q (Wn.no rfl) rfl rfl (R.bin (v := (.bool true)) rfl rfl (bi_lss (r := true) (by decide))) ?_
  refine WL.nil ?_
  refine thn_n ?_
  refine WP.seq ?_
  refine WP.condT rfl ?_
  refine WP.skip ?_
  refine thn_n ?_
  refine WP.seq ?_
  refine WP.block ?_
  refine WP.seq ?_
  refine WP.reg ?_
  refine WL.q (Wn.no rfl) rfl rfl (R.indexS (a := a) (i := 0) (off := 0) (xs := ([2, 13, 22] : List Int).map vi64) rfl rfl rfl (by decide) (viewV (h_00.ok _ (.head _))) (lt_len (K := 3) (len_map (rfl : List.length ([2, 13, 22] : List Int) = 3)) (by omega)) Try.underlying99 Try.sizeOf3 (Nat.mul_one _).symm) ?_
  refine WL.q (Wn.no rfl) rfl rfl (R.loadG (a := a) (i := 0) (xs := ([2, 13, 22] : List Int).map vi64) (v := (vi 2)) rfl (viewV (h_00.ok _ (.head _))) Try.isAgg3 rfl) ?_
  refine WL.q (Wn.no rfl) rfl rfl (R.assign (v := (vi 2)) rfl) ?_
  refine WL.nil ?_
  refine thn_n ?_
  refine WP.reg ?_
  refine WL.q (Wn.no rfl) rfl rfl (R.move (v := (vu32 0)) rfl) ?_
  refine WL.q (Wn.no rfl) rfl rfl (R.move (v := (vu32 x)) rfl) ?_
  refine WL.q (Wn.no rfl) rfl rfl (R.move (v := (vi 2)) rfl) ?_
  refine WL.q (Wn.no rfl) rfl rfl (R.un rfl (run_neg (c := -2) (by omega) (by omega))) ?_
  refine WL.call (al := [(vu32 x), (vi (-2))]) Try.call78 rfl rfl (c_rot2 x _ ) rfl ?_
  rintro _ w_2 ⟨rfl, hc_1⟩
  have h_3 := h_00.same hc_1
  refine WL.q (Wn.no rfl) rfl rfl (R.bin (v := (vu32 ((0 : UInt32) ^^^ (rot x 2)))) rfl rfl (b32_xor 0 (rot x 2))) ?_
  refine WL.q (Wn.no rfl) rfl rfl (R.assign (v := (vu32 ((0 : UInt32) ^^^ (rot x 2)))) rfl) ?_
  refine WL.nil ?_
  refine inb_n ?_
  refine thn_n ?_
  refine WP.reg ?_
  refine WL.q (Wn.no rfl) rfl rfl (R.bin (v := (vi 1)) rfl rfl (bi_add (c := 1) (by omega) (by omega))) ?_
  refine WL.q (Wn.no rfl) rfl rfl (R.move (v := (vi 1)) rfl) ?_
  refine WL.nil ?_
  refine thn_n ?_
  refine WI.round ?_
  refine WP.seq ?_
  refine WP.reg ?_
  refine WL.q (Wn.no rfl) rfl rfl (R.bin (v := (.bool true)) rfl rfl (bi_lss (r := true) (by decide))) ?_
  refine WL.nil ?_
  refine thn_n ?_
  refine WP.seq ?_
  refine WP.condT rfl ?_
  refine WP.skip ?_
  refine thn_n ?_
  refine WP.seq ?_
  refine WP.block ?_
  refine WP.seq ?_
  refine WP.reg ?_
  refine WL.q (Wn.no rfl) rfl rfl (R.indexS (a := a) (i := 1) (off := 1) (xs := ([2, 13, 22] : List Int).map vi64) rfl rfl rfl (by decide) (viewV (h_3.ok _ (.head _))) (lt_len (K := 3) (len_map (rfl : List.length ([2, 13, 22] : List Int) = 3)) (by omega)) Try.underlying99 Try.sizeOf3 (Nat.mul_one _).symm) ?_
  refine WL.q (Wn.no rfl) rfl rfl (R.loadG (a := a) (i := 1) (xs := ([2, 13, 22] : List Int).map vi64) (v := (vi 13)) rfl (viewV (h_3.ok _ (.head _))) Try.isAgg3 rfl) ?_
  refine WL.q (Wn.no rfl) rfl rfl (R.assign (v := (vi 13)) rfl) ?_
  refine WL.nil ?_
  refine thn_n ?_
  refine WP.reg ?_
  refine WL.q (Wn.no rfl) rfl rfl (R.move (v := (vu32 ((0 : UInt32) ^^^ (rot x 2)))) rfl) ?_
  refine WL.q (Wn.no rfl) rfl rfl (R.move (v := (vu32 x)) rfl) ?_
  refine WL.q (Wn.no rfl) rfl rfl (R.move (v := (vi 13)) rfl) ?_
  refine WL.q (Wn.no rfl) rfl rfl (R.un rfl (run_neg (c := -13) (by omega) (by omega))) ?_
  refine WL.call (al := [(vu32 x), (vi (-13))]) Try.call78 rfl rfl (c_rot13 x _ ) rfl ?_
  rintro _ w_5 ⟨rfl, hc_4⟩
  have h_6 := h_3.same hc_4
  refine WL.q (Wn.no rfl) rfl rfl (R.bin (v := (vu32 (((0 : UInt32) ^^^ (rot x 2)) ^^^ (rot x 13)))) rfl rfl (b32_xor ((0 : UInt32) ^^^ (rot x 2)) (rot x 13))) ?_
  refine WL.q (Wn.no rfl) rfl rfl (R.assign (v := (vu32 (((0 : UInt32) ^^^ (rot x 2)) ^^^ (rot x 13)))) rfl) ?_
  refine WL.nil ?_
  refine inb_n ?_
  refine thn_n ?_
  refine WP.reg ?_
  refine WL.q (Wn.no rfl) rfl rfl (R.bin (v := (vi 2)) rfl rfl (bi_add (c := 2) (by omega) (by omega))) ?_
  refine WL.q (Wn.no rfl) rfl rfl (R.move (v := (vi 2)) rfl) ?_
  refine WL.nil ?_
  refine thn_n ?_
  refine WI.round ?_
  refine WP.seq ?_
  refine WP.reg ?_
  refine WL.q (Wn.no rfl) rfl rfl (R.bin (v := (.bool true)) rfl rfl (bi_lss (r := true) (by decide))) ?_
  refine WL.nil ?_
  refine thn_n ?_
  refine WP.seq ?_
  refine WP.condT rfl ?_
  refine WP.skip ?_
  refine thn_n ?_
  refine WP.seq ?_
  refine WP.block ?_
  refine WP.seq ?_
  refine WP.reg ?_
  refine WL.q (Wn.no rfl) rfl rfl (R.indexS (a := a) (i := 2) (off := 2) (xs := ([2, 13, 22] : List Int).map vi64) rfl rfl rfl (by decide) (viewV (h_6.ok _ (.head _))) (lt_len (K := 3) (len_map (rfl : List.length ([2, 13, 22] : List Int) = 3)) (by omega)) Try.underlying99 Try.sizeOf3 (Nat.mul_one _).symm) ?_
  refine WL.q (Wn.no rfl) rfl rfl (R.loadG (a := a) (i := 2) (xs := ([2, 13, 22] : List Int).map vi64) (v := (vi 22)) rfl (viewV (h_6.ok _ (.head _))) Try.isAgg3 rfl) ?_
  refine WL.q (Wn.no rfl) rfl rfl (R.assign (v := (vi 22)) rfl) ?_
  refine WL.nil ?_
  refine thn_n ?_
  refine WP.reg ?_
  refine WL.q (Wn.no rfl) rfl rfl (R.move (v := (vu32 (((0 : UInt32) ^^^ (rot x 2)) ^^^ (rot x 13)))) rfl) ?_
  refine WL.q (Wn.no rfl) rfl rfl (R.move (v := (vu32 x)) rfl) ?_
  refine WL.q (Wn.no rfl) rfl rfl (R.move (v := (vi 22)) rfl) ?_
  refine WL.q (Wn.no rfl) rfl rfl (R.un rfl (run_neg (c := -22) (by omega) (by omega))) ?_
  refine WL.call (al := [(vu32 x), (vi (-22))]) Try.call78 rfl rfl (c_rot22 x _ ) rfl ?_
  rintro _ w_8 ⟨rfl, hc_7⟩
  have h_9 := h_6.same hc_7
  refine WL.q (Wn.no rfl) rfl rfl (R.bin (v := (vu32 ((((0 : UInt32) ^^^ (rot x 2)) ^^^ (rot x 13)) ^^^ (rot x 22)))) rfl rfl (b32_xor (((0 : UInt32) ^^^ (rot x 2)) ^^^ (rot x 13)) (rot x 22))) ?_
  refine WL.q (Wn.no rfl) rfl rfl (R.assign (v := (vu32 ((((0 : UInt32) ^^^ (rot x 2)) ^^^ (rot x 13)) ^^^ (rot x 22)))) rfl) ?_
  refine WL.nil ?_
  refine inb_n ?_
  refine thn_n ?_
  refine WP.reg ?_
  refine WL.q (Wn.no rfl) rfl rfl (R.bin (v := (vi 3)) rfl rfl (bi_add (c := 3) (by omega) (by omega))) ?_
  refine WL.q (Wn.no rfl) rfl rfl (R.move (v := (vi 3)) rfl) ?_
  refine WL.nil ?_
  refine thn_n ?_
  refine WI.round ?_
  refine WP.seq ?_
  refine WP.reg ?_
  refine WL.q (Wn.no rfl) rfl rfl (R.bin (v := (.bool false)) rfl rfl (bi_lss (r := false) (by decide))) ?_
  refine WL.nil ?_
  refine thn_n ?_
  refine WP.seq ?_
  refine WP.condF rfl ?_
  refine WP.exit ?_
  refine thn_x ?_
  refine thn_x ?_
  refine inb_hit ?_
  refine thn_n ?_
  refine WP.seq ?_
  refine WP.reg ?_
  refine WL.q (Wn.no rfl) rfl rfl (R.move (v := (vu32 ((((0 : UInt32) ^^^ (rot x 2)) ^^^ (rot x 13)) ^^^ (rot x 22)))) rfl) ?_
  refine WL.q (Wn.no rfl) rfl rfl (R.assign (v := (vu32 ((((0 : UInt32) ^^^ (rot x 2)) ^^^ (rot x 13)) ^^^ (rot x 22)))) rfl) ?_
  refine WL.nil ?_
  refine thn_n ?_
  refine WP.ret ?_
  refine ret_of Try.results77 (RV.tmp (v := (vu32 ((((0 : UInt32) ^^^ (rot x 2)) ^^^ (rot x 13)) ^^^ (rot x 22)))) rfl RV.nil) ?_
  exact ⟨congrArg (fun x : UInt32 => vu32 x) (by rw [UInt32.zero_xor]), h_9.chgS⟩

theorem c_press (hh ks : List UInt32) (hhl : hh.length = 8) (hkl : ks.length = 64) (a : Option Addr) (cap : Nat) (bs : List UInt8) (hl : bs.length = 64) (hcap : 64 ≤ cap) (w : World) (hv : View w a (bs.map vu8)) :
    Cs Try.prog 56 [(.agg ⟨hh.map vu32⟩), (.slice a 64 cap), (.agg ⟨ks.map vu32⟩)].toArray w (fun v w1 => v = (.agg ⟨(pressL ks hh bs).map vu32⟩) ∧ Chg w w1 []) := by
  refine Cs.of (n := 179) (args := [(.agg ⟨hh.map vu32⟩), (.slice a 64 cap), (.agg ⟨ks.map vu32⟩)]) Try.func56 rfl rfl rfl ?_
  have h_0 := HP.init w
  have h_00 := h_0.old (View.arg hv) (fun f hf => by cases hf)
  refine WP.seq ?_
  refine WP.reg ?_
  refine WL.box (v := (.agg ⟨hh.map vu32⟩)) (segs := [(8, hh.map vu32)]) h_00 rfl rfl (SsOk.cons (SOk.u32 hhl) SsOk.nil) rfl (fun b_1 w_2 h_3 => ?_)
  refine WL.box (v := (.agg ⟨ks.map vu32⟩)) (segs := [(64, ks.map vu32)]) h_3 rfl rfl (SsOk.cons (SOk.u32 hkl) SsOk.nil) rfl (fun b_4 w_5 h_6 => ?_)
  refine WL.alloc (segs := [(8, (List.replicate 8 (0 : UInt32)).map vu32)]) h_6 (zv Try.typeInfo33 rfl) rfl (SsOk.cons (SOk.u32 (List.length_replicate ..)) SsOk.nil) rfl (fun b_7 w_8 h_9 => ?_)
  refine WL.nil ?_
  refine thn_n ?_
  refine WP.seq ?_
  refine WP.reg ?_
  refine WL.q (Wn.no rfl) rfl rfl (R.assign (v := (Value.func (Fn.func 77) [].toArray [].toArray)) rfl) ?_
  refine WL.nil ?_
  refine thn_n ?_
  refine WP.seq ?_
  refine WP.reg ?_
  refine WL.alloc (segs := [(64, (List.replicate 64 (0 : UInt32)).map vu32)]) h_9 (zv Try.typeInfo53 rfl) rfl (SsOk.cons (SOk.u32 (List.length_replicate ..)) SsOk.nil) rfl (fun b_10 w_11 h_12 => ?_)
  refine WL.nil ?_
  refine thn_n ?_
  refine WP.seq ?_
  refine WP.seq ?_
  refine WP.reg ?_
  refine WL.q (Wn.no rfl) rfl rfl (R.move (v := (vi 0)) rfl) ?_
  refine WL.nil ?_
  refine thn_n ?_
  refine WP.block ?_
  refine WP.loopG (G := Nat) [9, 10, 11, 28, 29, 30, 31, 32, 33, 34, 35, 36, 37, 38, 39, 40, 41, 42, 43, 44, 45, 46, 47] (fun i => [(28, (vi ((i : Nat) : Int)))]) (fun i m w1 => HP w w1 [.blk b_10 .nw 53 [(64, (WZ bs i).map vu32)], .blk b_7 .nw 33 [(8, (List.replicate 8 (0 : UInt32)).map vu32)], .blk b_4 .nw 53 [(64, ks.map vu32)], .blk b_1 .nw 33 [(8, hh.map vu32)], .view a (bs.map vu8)] ∧ (i ≤ 16) ∧ m = 16 - i) ⟨0, _, ⟨rfl, trivial⟩, (by rw [WZ_0]; exact h_12), (by omega), rfl⟩ ?_
  rintro i m_15 J_16 w_13 ⟨h_14, hi, rfl⟩
  refine WP.seq ?_
  refine WP.reg ?_
  refine WL.q (Wn.no rfl) rfl rfl (R.bin (v := (.bool (decide ((((i : Nat) : Int) : Int) < 16)))) rfl rfl (bi_lss (r := decide ((((i : Nat) : Int) : Int) < 16)) rfl)) ?_
  refine WL.nil ?_
  refine thn_n ?_
  refine WP.seq ?_
  refine WP.cond (b := decide ((((i : Nat) : Int) : Int) < 16)) rfl (fun c_17 => ?_) (fun c_17 => ?_)
  · have p_18 := of_decide_eq_true c_17
    refine WP.skip ?_
    refine thn_n ?_
    refine WP.seq ?_
    refine WP.block ?_
    refine WP.seq ?_
    refine WP.reg ?_
    refine WL.q (Wn.no rfl) rfl rfl (R.move (v := (vi ((i : Nat) : Int))) rfl) ?_
    refine WL.q (Wn.no rfl) rfl rfl (R.assign (v := (vi ((i : Nat) : Int))) rfl) ?_
    refine WL.nil ?_
    refine thn_n ?_
    refine WP.seq ?_
    refine WP.reg ?_
    refine WL.q (Wn.no rfl) rfl rfl (R.move (v := (.slice a 64 cap)) rfl) ?_
    refine WL.q (Wn.no rfl) rfl rfl (R.move (v := (vi ((i : Nat) : Int))) rfl) ?_
    refine WL.q (Wn.no rfl) rfl rfl (R.bin (v := (vi ((4 * i : Nat) : Int))) rfl rfl (bi_mul (c := ((4 * i : Nat) : Int)) (by omega) (by omega))) ?_
    refine WL.q (Wn.no rfl) rfl rfl (R.move (v := (vi ((i : Nat) : Int))) rfl) ?_
    refine WL.q (Wn.no rfl) rfl rfl (R.bin (v := (vi ((4 * i : Nat) : Int))) rfl rfl (bi_mul (c := ((4 * i : Nat) : Int)) (by omega) (by omega))) ?_
    refine WL.q (Wn.no rfl) rfl rfl (R.bin (v := (vi ((4 * i + 4 : Nat) : Int))) rfl rfl (bi_add (c := ((4 * i + 4 : Nat) : Int)) (by omega) (by omega))) ?_
    refine WL.q (Wn.no rfl) rfl rfl (R.sliceS (a := a) (len := 64) (l := 4 * i) (h := 4 * i + 4) rfl (EvB.it (l := 4 * i) rfl rfl) (EvB.it (l := 4 * i + 4) rfl rfl) (by omega) (by omega) Try.underlying26 Try.sizeOf5) ?_
    refine WL.call (al := [(.slice (slA a (4 * i) cap 1) (4 * i + 4 - (4 * i)) (cap - (4 * i)))]) Try.call61 rfl rfl (c_Turned (slA a (4 * i) cap 1) (4 * i + 4 - (4 * i)) (cap - (4 * i)) ((bs.drop (4 * i)).take (4 * i + 4 - (4 * i))) (subLen (K := 64) hl (by omega) : List.length ((bs.drop (4 * i)).take (4 * i + 4 - (4 * i))) = 4 * i + 4 - (4 * i)) (by omega) _ (View.slM (l := 4 * i) (m := cap) (k := 4 * i + 4 - (4 * i)) (viewV (h_14.ok _ (.tail _ (.tail _ (.tail _ (.tail _ (.head _))))))) (by omega))) rfl ?_
    rintro _ w_21 ⟨a_19, cap_20, rfl, hc_22, ho_23⟩
    have h_24 := h_14.gotRow hc_22 ho_23
    refine WL.call (al := [(.slice a_19 (4 * i + 4 - (4 * i)) cap_20)]) Try.call79 rfl rfl (c_Get_ok a_19 (4 * i + 4 - (4 * i)) cap_20 (((bs.drop (4 * i)).take (4 * i + 4 - (4 * i))).reverse) ((List.length_reverse ..).trans (subLen (K := 64) hl (by omega) : List.length ((bs.drop (4 * i)).take (4 * i + 4 - (4 * i))) = 4 * i + 4 - (4 * i))) (by omega) (by omega) _ (ownView (h_24.ok _ (.head _)))) rfl ?_
    rintro _ w_26 ⟨rfl, hc_25⟩
    have h_27 := h_24.same hc_25
    refine WL.q (Wn.no rfl) rfl rfl (R.move (v := (.tuple [(vu64 (UInt64.ofNat (natLE (((bs.drop (4 * i)).take (4 * i + 4 - (4 * i))).reverse)))), (vi 0)].toArray)) rfl) ?_
    refine WL.q (Wn.no rfl) rfl rfl (R.extract (l := [(vu64 (UInt64.ofNat (natLE (((bs.drop (4 * i)).take (4 * i + 4 - (4 * i))).reverse)))), (vi 0)]) (v := (vu64 (UInt64.ofNat (natLE (((bs.drop (4 * i)).take (4 * i + 4 - (4 * i))).reverse))))) rfl rfl) ?_
    refine WL.q (Wn.no rfl) rfl rfl (R.extract (l := [(vu64 (UInt64.ofNat (natLE (((bs.drop (4 * i)).take (4 * i + 4 - (4 * i))).reverse)))), (vi 0)]) (v := (vi 0)) rfl rfl) ?_
    refine WL.q (Wn.no rfl) rfl rfl (R.assign (v := (vu64 (UInt64.ofNat (natLE (((bs.drop (4 * i)).take (4 * i + 4 - (4 * i))).reverse))))) rfl) ?_
    refine WL.q (Wn.no rfl) rfl rfl (R.assign (v := (vi 0)) rfl) ?_
    refine WL.nil ?_
    refine thn_n ?_
    refine WP.reg ?_
    refine WL.q (Wn.no rfl) rfl rfl (R.move (v := (vi ((i : Nat) : Int))) rfl) ?_
    refine WL.q (Wn.no rfl) rfl rfl (R.move (v := (vu64 (UInt64.ofNat (natLE (((bs.drop (4 * i)).take (4 * i + 4 - (4 * i))).reverse))))) rfl) ?_
    refine WL.q (Wn.no rfl) rfl rfl (R.conv (b := ((UInt32.ofNat ((UInt64.ofNat (natLE (((bs.drop (4 * i)).take (4 * i + 4 - (4 * i))).reverse))).toNat)) : UInt32).toNat) rfl Try.underlying58 Try.underlying22 (w32_nat ((UInt64.ofNat (natLE (((bs.drop (4 * i)).take (4 * i + 4 - (4 * i))).reverse))).toNat))) ?_
    refine WL.q (Wn.no rfl) rfl rfl (R.indexA (b := b_10) (off := 0) (off' := (0 + i)) (i := i) rfl rfl rfl (by omega) Try.underlying53 Try.sizeOf22 (by rw [Nat.mul_one])) ?_
    refine WL.storeE (b := b_10) (off := (0 + i)) (i := i) (v := (vu32 (UInt32.ofNat ((UInt64.ofNat (natLE (((bs.drop (4 * i)).take (4 * i + 4 - (4 * i))).reverse))).toNat)))) (cs' := ((WZ bs i).set i (UInt32.ofNat ((UInt64.ofNat (natLE (((bs.drop (4 * i)).take (4 * i + 4 - (4 * i))).reverse))).toNat))).map vu32) h_27 rfl rfl Try.sizeOf22 rfl (At.t At.h) (by decide) Sg.h rfl (lt_len (K := 64) (len_map (WZ_len ..)) (by omega)) (set_u32 _ _ _) (fun w_28 h_29 => ?_)
    refine WL.nil ?_
    refine inb_n ?_
    refine thn_n ?_
    refine WP.reg ?_
    refine WL.q (Wn.no rfl) rfl rfl (R.bin (v := (vi ((i + 1 : Nat) : Int))) rfl rfl (bi_add (c := ((i + 1 : Nat) : Int)) (by omega) (by omega))) ?_
    refine WL.q (Wn.no rfl) rfl rfl (R.move (v := (vi ((i + 1 : Nat) : Int))) rfl) ?_
    refine WL.nil ?_
    refine thn_n ?_
    have h_30 := h_29.drop rfl
    have h_31 := h_30.up (Pick.t (Pick.t (Pick.t (Pick.t Pick.h))))
    have h_32 := h_31.up (Pick.t (Pick.t (Pick.t (Pick.t Pick.h))))
    have h_33 := h_32.up (Pick.t (Pick.t (Pick.t (Pick.t Pick.h))))
    have h_34 := h_33.up (Pick.t (Pick.t (Pick.t (Pick.t Pick.h))))
    have h_35 := h_34.up (Pick.t (Pick.t (Pick.t (Pick.t Pick.h))))
    rw [WZ_lo (i := i) hl (by omega) (by omega)] at h_35
    exact ⟨i + 1, _, (by omega), (Ag.upd rfl (Ag.upd rfl (Ag.upd rfl (Ag.upd rfl (Ag.upd rfl (Ag.upd rfl (Ag.upd rfl (Ag.upd rfl (Ag.upd rfl (Ag.upd rfl (Ag.upd rfl (Ag.upd rfl (Ag.upd rfl (Ag.upd rfl (Ag.upd rfl (Ag.upd rfl (Ag.upd rfl (Ag.upd rfl (Ag.upd rfl (Ag.upd rfl (Ag.upd rfl (Ag.upd rfl (Ag.upd rfl (Ag.updL rfl (Ag.mix _ _ _))))))))))))))))))))))))), ⟨rfl, trivial⟩, h_35, (by omega), rfl⟩
  · have p_36 := of_decide_eq_false c_17
    refine WP.exit ?_
    refine thn_x ?_
    refine thn_x ?_
    refine inb_hit ?_
    refine thn_n ?_
    refine WP.seq ?_
    refine WP.seq ?_
    refine WP.reg ?_
    refine WL.q (Wn.no rfl) rfl rfl (R.assign (v := (vi 16)) rfl) ?_
    refine WL.nil ?_
    refine thn_n ?_
    refine WP.block ?_
    have hi16 : i = 16 := by omega
    subst hi16
    refine WP.loopG (G := Nat) [12, 13, 14, 48, 49, 50, 51, 52, 53, 54, 55, 56, 57, 58, 59, 60, 61, 62, 63, 64, 65, 66, 67, 68, 69, 70, 71, 72, 73, 74, 75, 76, 77, 78, 79, 80, 81, 82, 83, 84, 85, 86] (fun j => [(12, (vi ((j : Nat) : Int)))]) (fun j m w1 => HP w w1 [.blk b_10 .nw 53 [(64, (WZ bs j).map vu32)], .blk b_7 .nw 33 [(8, (List.replicate 8 (0 : UInt32)).map vu32)], .blk b_4 .nw 53 [(64, ks.map vu32)], .blk b_1 .nw 33 [(8, hh.map vu32)], .view a (bs.map vu8)] ∧ (16 ≤ j) ∧ (j ≤ 64) ∧ m = 64 - j) ⟨16, _, ⟨rfl, trivial⟩, h_14, (by omega), (by omega), rfl⟩ ?_
    rintro j m_39 J_40 w_37 ⟨h_38, hj, hj2, rfl⟩
    refine WP.seq ?_
    refine WP.seq ?_
    refine WP.reg ?_
    refine WL.q (Wn.no rfl) rfl rfl (R.move (v := (vi ((j : Nat) : Int))) rfl) ?_
    refine WL.q (Wn.no rfl) rfl rfl (R.bin (v := (.bool (decide ((((j : Nat) : Int) : Int) < 64)))) rfl rfl (bi_lss (r := decide ((((j : Nat) : Int) : Int) < 64)) rfl)) ?_
    refine WL.nil ?_
    refine thn_n ?_
    refine WP.cond (b := decide ((((j : Nat) : Int) : Int) < 64)) rfl (fun c_41 => ?_) (fun c_41 => ?_)
    · have p_42 := of_decide_eq_true c_41
      refine WP.skip ?_
      refine thn_n ?_
      refine WP.seq ?_
      refine WP.block ?_
      refine WP.seq ?_
      refine WP.drawT (SL w.heap.size [.blk b_10 .nw 53 [(64, (WZ bs j).map vu32)], .blk b_7 .nw 33 [(8, (List.replicate 8 (0 : UInt32)).map vu32)], .blk b_4 .nw 53 [(64, ks.map vu32)], .blk b_1 .nw 33 [(8, hh.map vu32)], .view a (bs.map vu8)]) (.q 0 (.q 1 (.q 2 (.q 3 (.q 4 (.q 5 (.q 6 (.q 7 (.q 8 (.q 9 .nil)))))))))) (by kernel_rfl) (by kernel_rfl) rfl (by kernel_rfl) (fun w_43 hc_45 => (SL.cons ((h_38.same hc_45).ok _ (.head _)) (SL.cons ((h_38.same hc_45).ok _ (.tail _ (.head _))) (SL.cons ((h_38.same hc_45).ok _ (.tail _ (.tail _ (.head _)))) (SL.cons ((h_38.same hc_45).ok _ (.tail _ (.tail _ (.tail _ (.head _))))) (SL.cons ((h_38.same hc_45).ok _ (.tail _ (.tail _ (.tail _ (.tail _ (.head _)))))) (SL.nil _ _))))))) (fun w_43 hc_45 => ?_)
      have h_44 := h_38.same hc_45
      refine WT.q rfl (Wn.no rfl) rfl rfl (fun wq hS => R.move (v := (vi ((j : Nat) : Int))) rfl) ?_
      refine WT.q rfl (Wn.no rfl) rfl rfl (fun wq hS => R.bin (v := (vi ((j - 15 : Nat) : Int))) rfl rfl (bi_sub (c := ((j - 15 : Nat) : Int)) (by omega) (by omega))) ?_
      refine WT.q rfl (Wn.no rfl) rfl rfl (fun wq hS => R.indexA (b := b_10) (off := 0) (off' := (0 + (j - 15))) (i := j - 15) rfl rfl rfl (by omega) Try.underlying53 Try.sizeOf22 (by rw [Nat.mul_one])) ?_
      refine WT.q rfl (Wn.no rfl) rfl rfl (fun wq hS => R.loadE (b := b_10) (off := (0 + (j - 15))) (i := j - 15) (v := (vu32 ((WZ bs j).getD (j - 15) 0))) rfl Try.isAgg22 (hS _ (.head _)) Sg.h rfl (get_u32 (lt_len (K := 64) (WZ_len ..) (by omega)))) ?_
      refine WT.q rfl (Wn.no rfl) rfl rfl (fun wq hS => R.move (v := (vi ((j : Nat) : Int))) rfl) ?_
      refine WT.q rfl (Wn.no rfl) rfl rfl (fun wq hS => R.bin (v := (vi ((j - 2 : Nat) : Int))) rfl rfl (bi_sub (c := ((j - 2 : Nat) : Int)) (by omega) (by omega))) ?_
      refine WT.q rfl (Wn.no rfl) rfl rfl (fun wq hS => R.indexA (b := b_10) (off := 0) (off' := (0 + (j - 2))) (i := j - 2) rfl rfl rfl (by omega) Try.underlying53 Try.sizeOf22 (by rw [Nat.mul_one])) ?_
      refine WT.q rfl (Wn.no rfl) rfl rfl (fun wq hS => R.loadE (b := b_10) (off := (0 + (j - 2))) (i := j - 2) (v := (vu32 ((WZ bs j).getD (j - 2) 0))) rfl Try.isAgg22 (hS _ (.head _)) Sg.h rfl (get_u32 (lt_len (K := 64) (WZ_len ..) (by omega)))) ?_
      refine WT.q rfl (Wn.no rfl) rfl rfl (fun wq hS => R.assign (v := (vu32 ((WZ bs j).getD (j - 15) 0))) rfl) ?_
      refine WT.q rfl (Wn.no rfl) rfl rfl (fun wq hS => R.assign (v := (vu32 ((WZ bs j).getD (j - 2) 0))) rfl) ?_
      refine WT.nil ?_
      refine thn_n ?_
      refine WP.cutG (G := Nat × Nat) [60, 61, 62, 63, 64, 65, 66, 67, 68, 69, 70, 71, 72, 73, 74, 75, 76, 77, 78, 79, 80, 81, 82, 83, 84, 85, 86] (fun (bY13Y7Y0Y0, bY13Y20Y0Y0) => [(60, (vi ((j : Nat) : Int))), (61, (vi ((j : Nat) : Int))), (62, (vi ((j - 16 : Nat) : Int))), (63, (.pointer (some ⟨b_10, (0 + (j - 16)), none⟩))), (64, (vu32 ((WZ bs j).getD (j - 16) 0))), (65, (Value.func (Fn.func 77) [].toArray [].toArray)), (66, (vu32 ((WZ bs j).getD (j - 15) 0))), (69, (vu32 ((WZ bs j).getD (j - 15) 0))), (70, (vu32 (shr32 ((WZ bs j).getD (j - 15) 0) 3))), (73, (vi ((j : Nat) : Int))), (74, (vi ((j - 7 : Nat) : Int))), (75, (.pointer (some ⟨b_10, (0 + (j - 7)), none⟩))), (76, (vu32 ((WZ bs j).getD (j - 7) 0))), (78, (Value.func (Fn.func 77) [].toArray [].toArray)), (79, (vu32 ((WZ bs j).getD (j - 2) 0))), (82, (vu32 ((WZ bs j).getD (j - 2) 0))), (83, (vu32 (shr32 ((WZ bs j).getD (j - 2) 0) 10))), (67, (.slice (some ⟨bY13Y7Y0Y0, 0, none⟩) 2 2)), (68, (vu32 (rot ((WZ bs j).getD (j - 15) 0) 7 ^^^ rot ((WZ bs j).getD (j - 15) 0) 18))), (71, (vu32 ((rot ((WZ bs j).getD (j - 15) 0) 7 ^^^ rot ((WZ bs j).getD (j - 15) 0) 18) ^^^ (shr32 ((WZ bs j).getD (j - 15) 0) 3)))), (72, (vu32 (((WZ bs j).getD (j - 16) 0) + ((rot ((WZ bs j).getD (j - 15) 0) 7 ^^^ rot ((WZ bs j).getD (j - 15) 0) 18) ^^^ (shr32 ((WZ bs j).getD (j - 15) 0) 3))))), (77, (vu32 ((((WZ bs j).getD (j - 16) 0) + ((rot ((WZ bs j).getD (j - 15) 0) 7 ^^^ rot ((WZ bs j).getD (j - 15) 0) 18) ^^^ (shr32 ((WZ bs j).getD (j - 15) 0) 3))) + ((WZ bs j).getD (j - 7) 0)))), (80, (.slice (some ⟨bY13Y20Y0Y0, 0, none⟩) 2 2)), (81, (vu32 (rot ((WZ bs j).getD (j - 2) 0) 17 ^^^ rot ((WZ bs j).getD (j - 2) 0) 19))), (84, (vu32 ((rot ((WZ bs j).getD (j - 2) 0) 17 ^^^ rot ((WZ bs j).getD (j - 2) 0) 19) ^^^ (shr32 ((WZ bs j).getD (j - 2) 0) 10)))), (85, (vu32 (((((WZ bs j).getD (j - 16) 0) + ((rot ((WZ bs j).getD (j - 15) 0) 7 ^^^ rot ((WZ bs j).getD (j - 15) 0) 18) ^^^ (shr32 ((WZ bs j).getD (j - 15) 0) 3))) + ((WZ bs j).getD (j - 7) 0)) + ((rot ((WZ bs j).getD (j - 2) 0) 17 ^^^ rot ((WZ bs j).getD (j - 2) 0) 19) ^^^ (shr32 ((WZ bs j).getD (j - 2) 0) 10))))), (86, (.pointer (some ⟨b_10, (0 + j), none⟩)))]) (fun (bY13Y7Y0Y0, bY13Y20Y0Y0) w1 => HP w w1 [.blk bY13Y20Y0Y0 .nw 3 [(2, [(vi 17), (vi 19)])], .blk bY13Y7Y0Y0 .nw 3 [(2, [(vi 7), (vi 18)])], .blk b_10 .nw 53 [(64, ((WZ bs j).set j (((((WZ bs j).getD (j - 16) 0) + ((rot ((WZ bs j).getD (j - 15) 0) 7 ^^^ rot ((WZ bs j).getD (j - 15) 0) 18) ^^^ (shr32 ((WZ bs j).getD (j - 15) 0) 3))) + ((WZ bs j).getD (j - 7) 0)) + ((rot ((WZ bs j).getD (j - 2) 0) 17 ^^^ rot ((WZ bs j).getD (j - 2) 0) 19) ^^^ (shr32 ((WZ bs j).getD (j - 2) 0) 10)))).map vu32)], .blk b_7 .nw 33 [(8, (List.replicate 8 (0 : UInt32)).map vu32)], .blk b_4 .nw 53 [(64, ks.map vu32)], .blk b_1 .nw 33 [(8, hh.map vu32)], .view a (bs.map vu8)]) ?_ ?_
      · refine WP.drawZ 27 (SL w.heap.size [.blk b_10 .nw 53 [(64, (WZ bs j).map vu32)], .blk b_7 .nw 33 [(8, (List.replicate 8 (0 : UInt32)).map vu32)], .blk b_4 .nw 53 [(64, ks.map vu32)], .blk b_1 .nw 33 [(8, hh.map vu32)], .view a (bs.map vu8)]) (.q 0 (.q 1 (.q 2 (.q 3 (.q 4 (.q 5 (.q 6 (.q 9 (.q 10 (.q 13 (.q 14 (.q 15 (.q 16 (.q 18 (.q 19 (.q 22 (.q 23 (.s2 7 20 (.s2 8 20 (.q 11 (.q 12 (.q 17 (.s 20 (.s 21 (.q 24 (.q 25 (.q 26 (.s 27 .nil))))))))) (.s 8 (.q 11 (.q 12 (.q 17 (.s 21 (.q 24 (.q 25 (.q 26 (.s 27 .nil)))))))))) (.s 7 (.s 8 (.q 11 (.q 12 (.q 17 (.s 21 (.q 24 (.q 25 (.q 26 (.s 27 .nil)))))))))))))))))))))))))))) (by kernel_rfl) (by kernel_rfl) rfl (by kernel_rfl) (fun w_46 hc_48 => (SL.cons ((h_44.same hc_48).ok _ (.head _)) (SL.cons ((h_44.same hc_48).ok _ (.tail _ (.head _))) (SL.cons ((h_44.same hc_48).ok _ (.tail _ (.tail _ (.head _)))) (SL.cons ((h_44.same hc_48).ok _ (.tail _ (.tail _ (.tail _ (.head _))))) (SL.cons ((h_44.same hc_48).ok _ (.tail _ (.tail _ (.tail _ (.tail _ (.head _)))))) (SL.nil _ _))))))) (fun w_46 hc_48 => ?_)
        have h_47 := h_44.same hc_48
        refine ZT.q rfl (Wn.no rfl) rfl rfl (fun wq hS => R.move (v := (vi ((j : Nat) : Int))) rfl) ?_
        refine ZT.q rfl (Wn.no rfl) rfl rfl (fun wq hS => R.move (v := (vi ((j : Nat) : Int))) rfl) ?_
        refine ZT.q rfl (Wn.no rfl) rfl rfl (fun wq hS => R.bin (v := (vi ((j - 16 : Nat) : Int))) rfl rfl (bi_sub (c := ((j - 16 : Nat) : Int)) (by omega) (by omega))) ?_
        refine ZT.q rfl (Wn.no rfl) rfl rfl (fun wq hS => R.indexA (b := b_10) (off := 0) (off' := (0 + (j - 16))) (i := j - 16) rfl rfl rfl (by omega) Try.underlying53 Try.sizeOf22 (by rw [Nat.mul_one])) ?_
        refine ZT.q rfl (Wn.no rfl) rfl rfl (fun wq hS => R.loadE (b := b_10) (off := (0 + (j - 16))) (i := j - 16) (v := (vu32 ((WZ bs j).getD (j - 16) 0))) rfl Try.isAgg22 (hS _ (.head _)) Sg.h rfl (get_u32 (lt_len (K := 64) (WZ_len ..) (by omega)))) ?_
        refine ZT.q rfl (Wn.no rfl) rfl rfl (fun wq hS => R.move (v := (Value.func (Fn.func 77) [].toArray [].toArray)) rfl) ?_
        refine ZT.q rfl (Wn.no rfl) rfl rfl (fun wq hS => R.move (v := (vu32 ((WZ bs j).getD (j - 15) 0))) rfl) ?_
        refine ZT.q rfl (Wn.no rfl) rfl rfl (fun wq hS => R.move (v := (vu32 ((WZ bs j).getD (j - 15) 0))) rfl) ?_
        refine ZT.q rfl (Wn.no rfl) rfl rfl (fun wq hS => R.binR (v := vu32 (shr32 ((WZ bs j).getD (j - 15) 0) 3)) rfl rfl (run_shr32 _ _ _ ((WZ bs j).getD (j - 15) 0) _ 3)) ?_
        refine ZT.q rfl (Wn.no rfl) rfl rfl (fun wq hS => R.move (v := (vi ((j : Nat) : Int))) rfl) ?_
        refine ZT.q rfl (Wn.no rfl) rfl rfl (fun wq hS => R.bin (v := (vi ((j - 7 : Nat) : Int))) rfl rfl (bi_sub (c := ((j - 7 : Nat) : Int)) (by omega) (by omega))) ?_
        refine ZT.q rfl (Wn.no rfl) rfl rfl (fun wq hS => R.indexA (b := b_10) (off := 0) (off' := (0 + (j - 7))) (i := j - 7) rfl rfl rfl (by omega) Try.underlying53 Try.sizeOf22 (by rw [Nat.mul_one])) ?_
        refine ZT.q rfl (Wn.no rfl) rfl rfl (fun wq hS => R.loadE (b := b_10) (off := (0 + (j - 7))) (i := j - 7) (v := (vu32 ((WZ bs j).getD (j - 7) 0))) rfl Try.isAgg22 (hS _ (.head _)) Sg.h rfl (get_u32 (lt_len (K := 64) (WZ_len ..) (by omega)))) ?_
        refine ZT.q rfl (Wn.no rfl) rfl rfl (fun wq hS => R.move (v := (Value.func (Fn.func 77) [].toArray [].toArray)) rfl) ?_
        refine ZT.q rfl (Wn.no rfl) rfl rfl (fun wq hS => R.move (v := (vu32 ((WZ bs j).getD (j - 2) 0))) rfl) ?_
        refine ZT.q rfl (Wn.no rfl) rfl rfl (fun wq hS => R.move (v := (vu32 ((WZ bs j).getD (j - 2) 0))) rfl) ?_
        refine ZT.q rfl (Wn.no rfl) rfl rfl (fun wq hS => R.binR (v := vu32 (shr32 ((WZ bs j).getD (j - 2) 0) 10)) rfl rfl (run_shr32 _ _ _ ((WZ bs j).getD (j - 2) 0) _ 10)) ?_
        refine ZT.s2 ?_ ?_
        · refine OpZ.one rfl (Wn.no rfl) ?_
          refine WL.buildSl (vs := [(0, (vi 7)), (1, (vi 18))]) (cs := [(vi 7), (vi 18)]) h_47 Try.underlying99 Try.sizeOf3 (zv Try.typeInfo3 rfl) rfl rfl (by kernel_rfl) rfl (by simp [Value.oneCell']) rfl rfl (fun b_49 w_50 h_51 => ?_)
          refine WL.nil ?_
          refine ⟨(SL.cons (h_51.ok _ (.tail _ (.head _))) (SL.cons (h_51.ok _ (.tail _ (.tail _ (.head _)))) (SL.cons (h_51.ok _ (.tail _ (.tail _ (.tail _ (.head _))))) (SL.cons (h_51.ok _ (.tail _ (.tail _ (.tail _ (.tail _ (.head _)))))) (SL.cons (h_51.ok _ (.tail _ (.tail _ (.tail _ (.tail _ (.tail _ (.head _))))))) (SL.nil _ _)))))), ?_⟩
          refine ZT.s2 ?_ ?_
          · refine OpZ.one rfl (Wn.no rfl) ?_
            refine WL.call (al := [(vu32 ((WZ bs j).getD (j - 15) 0)), (.slice (some ⟨b_49, 0, none⟩) 2 2)]) Try.call77 rfl rfl (c_rors_7_18 ((WZ bs j).getD (j - 15) 0) (some ⟨b_49, 0, none⟩) 2 _ (viewB (h_51.ok _ (.head _)) Sg.h)) rfl ?_
            rintro _ w_53 ⟨rfl, hc_52⟩
            have h_54 := h_51.same hc_52
            refine WL.nil ?_
            refine ⟨(SL.cons (h_54.ok _ (.tail _ (.head _))) (SL.cons (h_54.ok _ (.tail _ (.tail _ (.head _)))) (SL.cons (h_54.ok _ (.tail _ (.tail _ (.tail _ (.head _))))) (SL.cons (h_54.ok _ (.tail _ (.tail _ (.tail _ (.tail _ (.head _)))))) (SL.cons (h_54.ok _ (.tail _ (.tail _ (.tail _ (.tail _ (.tail _ (.head _))))))) (SL.nil _ _)))))), ?_⟩
            refine ZT.q rfl (Wn.no rfl) rfl rfl (fun wq hS => R.bin (v := (vu32 ((rot ((WZ bs j).getD (j - 15) 0) 7 ^^^ rot ((WZ bs j).getD (j - 15) 0) 18) ^^^ (shr32 ((WZ bs j).getD (j - 15) 0) 3)))) rfl rfl (b32_xor (rot ((WZ bs j).getD (j - 15) 0) 7 ^^^ rot ((WZ bs j).getD (j - 15) 0) 18) (shr32 ((WZ bs j).getD (j - 15) 0) 3))) ?_
            refine ZT.q rfl (Wn.no rfl) rfl rfl (fun wq hS => R.bin (v := (vu32 (((WZ bs j).getD (j - 16) 0) + ((rot ((WZ bs j).getD (j - 15) 0) 7 ^^^ rot ((WZ bs j).getD (j - 15) 0) 18) ^^^ (shr32 ((WZ bs j).getD (j - 15) 0) 3))))) rfl rfl (b32_add ((WZ bs j).getD (j - 16) 0) ((rot ((WZ bs j).getD (j - 15) 0) 7 ^^^ rot ((WZ bs j).getD (j - 15) 0) 18) ^^^ (shr32 ((WZ bs j).getD (j - 15) 0) 3)))) ?_
            refine ZT.q rfl (Wn.no rfl) rfl rfl (fun wq hS => R.bin (v := (vu32 ((((WZ bs j).getD (j - 16) 0) + ((rot ((WZ bs j).getD (j - 15) 0) 7 ^^^ rot ((WZ bs j).getD (j - 15) 0) 18) ^^^ (shr32 ((WZ bs j).getD (j - 15) 0) 3))) + ((WZ bs j).getD (j - 7) 0)))) rfl rfl (b32_add (((WZ bs j).getD (j - 16) 0) + ((rot ((WZ bs j).getD (j - 15) 0) 7 ^^^ rot ((WZ bs j).getD (j - 15) 0) 18) ^^^ (shr32 ((WZ bs j).getD (j - 15) 0) 3))) ((WZ bs j).getD (j - 7) 0))) ?_
            refine ZT.s ?_
            refine OpZ.one rfl (Wn.no rfl) ?_
            refine WL.buildSl (vs := [(0, (vi 17)), (1, (vi 19))]) (cs := [(vi 17), (vi 19)]) h_54 Try.underlying99 Try.sizeOf3 (zv Try.typeInfo3 rfl) rfl rfl (by kernel_rfl) rfl (by simp [Value.oneCell']) rfl rfl (fun b_55 w_56 h_57 => ?_)
            refine WL.nil ?_
            refine ⟨(SL.cons (h_57.ok _ (.tail _ (.tail _ (.head _)))) (SL.cons (h_57.ok _ (.tail _ (.tail _ (.tail _ (.head _))))) (SL.cons (h_57.ok _ (.tail _ (.tail _ (.tail _ (.tail _ (.head _)))))) (SL.cons (h_57.ok _ (.tail _ (.tail _ (.tail _ (.tail _ (.tail _ (.head _))))))) (SL.cons (h_57.ok _ (.tail _ (.tail _ (.tail _ (.tail _ (.tail _ (.tail _ (.head _)))))))) (SL.nil _ _)))))), ?_⟩
            refine ZT.s ?_
            refine OpZ.one rfl (Wn.no rfl) ?_
            refine WL.call (al := [(vu32 ((WZ bs j).getD (j - 2) 0)), (.slice (some ⟨b_55, 0, none⟩) 2 2)]) Try.call77 rfl rfl (c_rors_17_19 ((WZ bs j).getD (j - 2) 0) (some ⟨b_55, 0, none⟩) 2 _ (viewB (h_57.ok _ (.head _)) Sg.h)) rfl ?_
            rintro _ w_59 ⟨rfl, hc_58⟩
            have h_60 := h_57.same hc_58
            refine WL.nil ?_
            refine ⟨(SL.cons (h_60.ok _ (.tail _ (.tail _ (.head _)))) (SL.cons (h_60.ok _ (.tail _ (.tail _ (.tail _ (.head _))))) (SL.cons (h_60.ok _ (.tail _ (.tail _ (.tail _ (.tail _ (.head _)))))) (SL.cons (h_60.ok _ (.tail _ (.tail _ (.tail _ (.tail _ (.tail _ (.head _))))))) (SL.cons (h_60.ok _ (.tail _ (.tail _ (.tail _ (.tail _ (.tail _ (.tail _ (.head _)))))))) (SL.nil _ _)))))), ?_⟩
            refine ZT.q rfl (Wn.no rfl) rfl rfl (fun wq hS => R.bin (v := (vu32 ((rot ((WZ bs j).getD (j - 2) 0) 17 ^^^ rot ((WZ bs j).getD (j - 2) 0) 19) ^^^ (shr32 ((WZ bs j).getD (j - 2) 0) 10)))) rfl rfl (b32_xor (rot ((WZ bs j).getD (j - 2) 0) 17 ^^^ rot ((WZ bs j).getD (j - 2) 0) 19) (shr32 ((WZ bs j).getD (j - 2) 0) 10))) ?_
            refine ZT.q rfl (Wn.no rfl) rfl rfl (fun wq hS => R.bin (v := (vu32 (((((WZ bs j).getD (j - 16) 0) + ((rot ((WZ bs j).getD (j - 15) 0) 7 ^^^ rot ((WZ bs j).getD (j - 15) 0) 18) ^^^ (shr32 ((WZ bs j).getD (j - 15) 0) 3))) + ((WZ bs j).getD (j - 7) 0)) + ((rot ((WZ bs j).getD (j - 2) 0) 17 ^^^ rot ((WZ bs j).getD (j - 2) 0) 19) ^^^ (shr32 ((WZ bs j).getD (j - 2) 0) 10))))) rfl rfl (b32_add ((((WZ bs j).getD (j - 16) 0) + ((rot ((WZ bs j).getD (j - 15) 0) 7 ^^^ rot ((WZ bs j).getD (j - 15) 0) 18) ^^^ (shr32 ((WZ bs j).getD (j - 15) 0) 3))) + ((WZ bs j).getD (j - 7) 0)) ((rot ((WZ bs j).getD (j - 2) 0) 17 ^^^ rot ((WZ bs j).getD (j - 2) 0) 19) ^^^ (shr32 ((WZ bs j).getD (j - 2) 0) 10)))) ?_
            refine ZT.q rfl (Wn.no rfl) rfl rfl (fun wq hS => R.indexA (b := b_10) (off := 0) (off' := (0 + j)) (i := j) rfl rfl rfl (by omega) Try.underlying53 Try.sizeOf22 (by rw [Nat.mul_one])) ?_
            refine ZT.s ?_
            refine OpZ.last rfl (Wn.no rfl) ?_
            refine WL.storeE (b := b_10) (off := (0 + j)) (i := j) (v := (vu32 (((((WZ bs j).getD (j - 16) 0) + ((rot ((WZ bs j).getD (j - 15) 0) 7 ^^^ rot ((WZ bs j).getD (j - 15) 0) 18) ^^^ (shr32 ((WZ bs j).getD (j - 15) 0) 3))) + ((WZ bs j).getD (j - 7) 0)) + ((rot ((WZ bs j).getD (j - 2) 0) 17 ^^^ rot ((WZ bs j).getD (j - 2) 0) 19) ^^^ (shr32 ((WZ bs j).getD (j - 2) 0) 10))))) (cs' := ((WZ bs j).set j (((((WZ bs j).getD (j - 16) 0) + ((rot ((WZ bs j).getD (j - 15) 0) 7 ^^^ rot ((WZ bs j).getD (j - 15) 0) 18) ^^^ (shr32 ((WZ bs j).getD (j - 15) 0) 3))) + ((WZ bs j).getD (j - 7) 0)) + ((rot ((WZ bs j).getD (j - 2) 0) 17 ^^^ rot ((WZ bs j).getD (j - 2) 0) 19) ^^^ (shr32 ((WZ bs j).getD (j - 2) 0) 10)))).map vu32) h_60 rfl rfl Try.sizeOf22 rfl (At.t (At.t At.h)) (by decide) Sg.h rfl (lt_len (K := 64) (len_map (WZ_len ..)) (by omega)) (set_u32 _ _ _) (fun w_61 h_62 => ?_)
            refine WL.nil ?_
            refine ZT.nil ?_
            refine thn_n ?_
            exact ⟨(b_49, b_55), (Ag.upd rfl (Ag.upd rfl (Ag.upd rfl (Ag.upd rfl (Ag.upd rfl (Ag.upd rfl (Ag.upd rfl (Ag.upd rfl (Ag.upd rfl (Ag.upd rfl (Ag.upd rfl (Ag.upd rfl (Ag.upd rfl (Ag.upd rfl (Ag.upd rfl (Ag.upd rfl (Ag.upd rfl (Ag.upd rfl (Ag.upd rfl (Ag.upd rfl (Ag.upd rfl (Ag.upd rfl (Ag.upd rfl (Ag.upd rfl (Ag.upd rfl (Ag.upd rfl (Ag.upd rfl (Ag.refl _ _)))))))))))))))))))))))))))), ⟨rfl, rfl, rfl, rfl, rfl, rfl, rfl, rfl, rfl, rfl, rfl, rfl, rfl, rfl, rfl, rfl, rfl, rfl, rfl, rfl, rfl, rfl, rfl, rfl, rfl, rfl, rfl, trivial⟩, h_62⟩
          · refine OpZ.one rfl (Wn.no rfl) ?_
            refine WL.buildSl (vs := [(0, (vi 17)), (1, (vi 19))]) (cs := [(vi 17), (vi 19)]) h_51 Try.underlying99 Try.sizeOf3 (zv Try.typeInfo3 rfl) rfl rfl (by kernel_rfl) rfl (by simp [Value.oneCell']) rfl rfl (fun b_63 w_64 h_65 => ?_)
            refine WL.nil ?_
            refine ⟨(SL.cons (h_65.ok _ (.tail _ (.tail _ (.head _)))) (SL.cons (h_65.ok _ (.tail _ (.tail _ (.tail _ (.head _))))) (SL.cons (h_65.ok _ (.tail _ (.tail _ (.tail _ (.tail _ (.head _)))))) (SL.cons (h_65.ok _ (.tail _ (.tail _ (.tail _ (.tail _ (.tail _ (.head _))))))) (SL.cons (h_65.ok _ (.tail _ (.tail _ (.tail _ (.tail _ (.tail _ (.tail _ (.head _)))))))) (SL.nil _ _)))))), ?_⟩
            refine ZT.s ?_
            refine OpZ.one rfl (Wn.no rfl) ?_
            refine WL.call (al := [(vu32 ((WZ bs j).getD (j - 15) 0)), (.slice (some ⟨b_49, 0, none⟩) 2 2)]) Try.call77 rfl rfl (c_rors_7_18 ((WZ bs j).getD (j - 15) 0) (some ⟨b_49, 0, none⟩) 2 _ (viewB (h_65.ok _ (.tail _ (.head _))) Sg.h)) rfl ?_
            rintro _ w_67 ⟨rfl, hc_66⟩
            have h_68 := h_65.same hc_66
            refine WL.nil ?_
            refine ⟨(SL.cons (h_68.ok _ (.tail _ (.tail _ (.head _)))) (SL.cons (h_68.ok _ (.tail _ (.tail _ (.tail _ (.head _))))) (SL.cons (h_68.ok _ (.tail _ (.tail _ (.tail _ (.tail _ (.head _)))))) (SL.cons (h_68.ok _ (.tail _ (.tail _ (.tail _ (.tail _ (.tail _ (.head _))))))) (SL.cons (h_68.ok _ (.tail _ (.tail _ (.tail _ (.tail _ (.tail _ (.tail _ (.head _)))))))) (SL.nil _ _)))))), ?_⟩
            refine ZT.q rfl (Wn.no rfl) rfl rfl (fun wq hS => R.bin (v := (vu32 ((rot ((WZ bs j).getD (j - 15) 0) 7 ^^^ rot ((WZ bs j).getD (j - 15) 0) 18) ^^^ (shr32 ((WZ bs j).getD (j - 15) 0) 3)))) rfl rfl (b32_xor (rot ((WZ bs j).getD (j - 15) 0) 7 ^^^ rot ((WZ bs j).getD (j - 15) 0) 18) (shr32 ((WZ bs j).getD (j - 15) 0) 3))) ?_
            refine ZT.q rfl (Wn.no rfl) rfl rfl (fun wq hS => R.bin (v := (vu32 (((WZ bs j).getD (j - 16) 0) + ((rot ((WZ bs j).getD (j - 15) 0) 7 ^^^ rot ((WZ bs j).getD (j - 15) 0) 18) ^^^ (shr32 ((WZ bs j).getD (j - 15) 0) 3))))) rfl rfl (b32_add ((WZ bs j).getD (j - 16) 0) ((rot ((WZ bs j).getD (j - 15) 0) 7 ^^^ rot ((WZ bs j).getD (j - 15) 0) 18) ^^^ (shr32 ((WZ bs j).getD (j - 15) 0) 3)))) ?_
            refine ZT.q rfl (Wn.no rfl) rfl rfl (fun wq hS => R.bin (v := (vu32 ((((WZ bs j).getD (j - 16) 0) + ((rot ((WZ bs j).getD (j - 15) 0) 7 ^^^ rot ((WZ bs j).getD (j - 15) 0) 18) ^^^ (shr32 ((WZ bs j).getD (j - 15) 0) 3))) + ((WZ bs j).getD (j - 7) 0)))) rfl rfl (b32_add (((WZ bs j).getD (j - 16) 0) + ((rot ((WZ bs j).getD (j - 15) 0) 7 ^^^ rot ((WZ bs j).getD (j - 15) 0) 18) ^^^ (shr32 ((WZ bs j).getD (j - 15) 0) 3))) ((WZ bs j).getD (j - 7) 0))) ?_
            refine ZT.s ?_
            refine OpZ.one rfl (Wn.no rfl) ?_
            refine WL.call (al := [(vu32 ((WZ bs j).getD (j - 2) 0)), (.slice (some ⟨b_63, 0, none⟩) 2 2)]) Try.call77 rfl rfl (c_rors_17_19 ((WZ bs j).getD (j - 2) 0) (some ⟨b_63, 0, none⟩) 2 _ (viewB (h_68.ok _ (.head _)) Sg.h)) rfl ?_
            rintro _ w_70 ⟨rfl, hc_69⟩
            have h_71 := h_68.same hc_69
            refine WL.nil ?_
            refine ⟨(SL.cons (h_71.ok _ (.tail _ (.tail _ (.head _)))) (SL.cons (h_71.ok _ (.tail _ (.tail _ (.tail _ (.head _))))) (SL.cons (h_71.ok _ (.tail _ (.tail _ (.tail _ (.tail _ (.head _)))))) (SL.cons (h_71.ok _ (.tail _ (.tail _ (.tail _ (.tail _ (.tail _ (.head _))))))) (SL.cons (h_71.ok _ (.tail _ (.tail _ (.tail _ (.tail _ (.tail _ (.tail _ (.head _)))))))) (SL.nil _ _)))))), ?_⟩
            refine ZT.q rfl (Wn.no rfl) rfl rfl (fun wq hS => R.bin (v := (vu32 ((rot ((WZ bs j).getD (j - 2) 0) 17 ^^^ rot ((WZ bs j).getD (j - 2) 0) 19) ^^^ (shr32 ((WZ bs j).getD (j - 2) 0) 10)))) rfl rfl (b32_xor (rot ((WZ bs j).getD (j - 2) 0) 17 ^^^ rot ((WZ bs j).getD (j - 2) 0) 19) (shr32 ((WZ bs j).getD (j - 2) 0) 10))) ?_
            refine ZT.q rfl (Wn.no rfl) rfl rfl (fun wq hS => R.bin (v := (vu32 (((((WZ bs j).getD (j - 16) 0) + ((rot ((WZ bs j).getD (j - 15) 0) 7 ^^^ rot ((WZ bs j).getD (j - 15) 0) 18) ^^^ (shr32 ((WZ bs j).getD (j - 15) 0) 3))) + ((WZ bs j).getD (j - 7) 0)) + ((rot ((WZ bs j).getD (j - 2) 0) 17 ^^^ rot ((WZ bs j).getD (j - 2) 0) 19) ^^^ (shr32 ((WZ bs j).getD (j - 2) 0) 10))))) rfl rfl (b32_add ((((WZ bs j).getD (j - 16) 0) + ((rot ((WZ bs j).getD (j - 15) 0) 7 ^^^ rot ((WZ bs j).getD (j - 15) 0) 18) ^^^ (shr32 ((WZ bs j).getD (j - 15) 0) 3))) + ((WZ bs j).getD (j - 7) 0)) ((rot ((WZ bs j).getD (j - 2) 0) 17 ^^^ rot ((WZ bs j).getD (j - 2) 0) 19) ^^^ (shr32 ((WZ bs j).getD (j - 2) 0) 10)))) ?_
            refine ZT.q rfl (Wn.no rfl) rfl rfl (fun wq hS => R.indexA (b := b_10) (off := 0) (off' := (0 + j)) (i := j) rfl rfl rfl (by omega) Try.underlying53 Try.sizeOf22 (by rw [Nat.mul_one])) ?_
            refine ZT.s ?_
            refine OpZ.last rfl (Wn.no rfl) ?_
            refine WL.storeE (b := b_10) (off := (0 + j)) (i := j) (v := (vu32 (((((WZ bs j).getD (j - 16) 0) + ((rot ((WZ bs j).getD (j - 15) 0) 7 ^^^ rot ((WZ bs j).getD (j - 15) 0) 18) ^^^ (shr32 ((WZ bs j).getD (j - 15) 0) 3))) + ((WZ bs j).getD (j - 7) 0)) + ((rot ((WZ bs j).getD (j - 2) 0) 17 ^^^ rot ((WZ bs j).getD (j - 2) 0) 19) ^^^ (shr32 ((WZ bs j).getD (j - 2) 0) 10))))) (cs' := ((WZ bs j).set j (((((WZ bs j).getD (j - 16) 0) + ((rot ((WZ bs j).getD (j - 15) 0) 7 ^^^ rot ((WZ bs j).getD (j - 15) 0) 18) ^^^ (shr32 ((WZ bs j).getD (j - 15) 0) 3))) + ((WZ bs j).getD (j - 7) 0)) + ((rot ((WZ bs j).getD (j - 2) 0) 17 ^^^ rot ((WZ bs j).getD (j - 2) 0) 19) ^^^ (shr32 ((WZ bs j).getD (j - 2) 0) 10)))).map vu32) h_71 rfl rfl Try.sizeOf22 rfl (At.t (At.t At.h)) (by decide) Sg.h rfl (lt_len (K := 64) (len_map (WZ_len ..)) (by omega)) (set_u32 _ _ _) (fun w_72 h_73 => ?_)
            refine WL.nil ?_
            refine ZT.nil ?_
            refine thn_n ?_
            exact ⟨(b_49, b_63), (Ag.upd rfl (Ag.upd rfl (Ag.upd rfl (Ag.upd rfl (Ag.upd rfl (Ag.upd rfl (Ag.upd rfl (Ag.upd rfl (Ag.upd rfl (Ag.upd rfl (Ag.upd rfl (Ag.upd rfl (Ag.upd rfl (Ag.upd rfl (Ag.upd rfl (Ag.upd rfl (Ag.upd rfl (Ag.upd rfl (Ag.upd rfl (Ag.upd rfl (Ag.upd rfl (Ag.upd rfl (Ag.upd rfl (Ag.upd rfl (Ag.upd rfl (Ag.upd rfl (Ag.upd rfl (Ag.refl _ _)))))))))))))))))))))))))))), ⟨rfl, rfl, rfl, rfl, rfl, rfl, rfl, rfl, rfl, rfl, rfl, rfl, rfl, rfl, rfl, rfl, rfl, rfl, rfl, rfl, rfl, rfl, rfl, rfl, rfl, rfl, rfl, trivial⟩, h_73⟩
        · refine OpZ.one rfl (Wn.no rfl) ?_
          refine WL.buildSl (vs := [(0, (vi 17)), (1, (vi 19))]) (cs := [(vi 17), (vi 19)]) h_47 Try.underlying99 Try.sizeOf3 (zv Try.typeInfo3 rfl) rfl rfl (by kernel_rfl) rfl (by simp [Value.oneCell']) rfl rfl (fun b_74 w_75 h_76 => ?_)
          refine WL.nil ?_
          refine ⟨(SL.cons (h_76.ok _ (.tail _ (.head _))) (SL.cons (h_76.ok _ (.tail _ (.tail _ (.head _)))) (SL.cons (h_76.ok _ (.tail _ (.tail _ (.tail _ (.head _))))) (SL.cons (h_76.ok _ (.tail _ (.tail _ (.tail _ (.tail _ (.head _)))))) (SL.cons (h_76.ok _ (.tail _ (.tail _ (.tail _ (.tail _ (.tail _ (.head _))))))) (SL.nil _ _)))))), ?_⟩
          refine ZT.s ?_
          refine OpZ.one rfl (Wn.no rfl) ?_
          refine WL.buildSl (vs := [(0, (vi 7)), (1, (vi 18))]) (cs := [(vi 7), (vi 18)]) h_76 Try.underlying99 Try.sizeOf3 (zv Try.typeInfo3 rfl) rfl rfl (by kernel_rfl) rfl (by simp [Value.oneCell']) rfl rfl (fun b_77 w_78 h_79 => ?_)
          refine WL.nil ?_
          refine ⟨(SL.cons (h_79.ok _ (.tail _ (.tail _ (.head _)))) (SL.cons (h_79.ok _ (.tail _ (.tail _ (.tail _ (.head _))))) (SL.cons (h_79.ok _ (.tail _ (.tail _ (.tail _ (.tail _ (.head _)))))) (SL.cons (h_79.ok _ (.tail _ (.tail _ (.tail _ (.tail _ (.tail _ (.head _))))))) (SL.cons (h_79.ok _ (.tail _ (.tail _ (.tail _ (.tail _ (.tail _ (.tail _ (.head _)))))))) (SL.nil _ _)))))), ?_⟩
          refine ZT.s ?_
          refine OpZ.one rfl (Wn.no rfl) ?_
          refine WL.call (al := [(vu32 ((WZ bs j).getD (j - 15) 0)), (.slice (some ⟨b_77, 0, none⟩) 2 2)]) Try.call77 rfl rfl (c_rors_7_18 ((WZ bs j).getD (j - 15) 0) (some ⟨b_77, 0, none⟩) 2 _ (viewB (h_79.ok _ (.head _)) Sg.h)) rfl ?_
          rintro _ w_81 ⟨rfl, hc_80⟩
          have h_82 := h_79.same hc_80
          refine WL.nil ?_
          refine ⟨(SL.cons (h_82.ok _ (.tail _ (.tail _ (.head _)))) (SL.cons (h_82.ok _ (.tail _ (.tail _ (.tail _ (.head _))))) (SL.cons (h_82.ok _ (.tail _ (.tail _ (.tail _ (.tail _ (.head _)))))) (SL.cons (h_82.ok _ (.tail _ (.tail _ (.tail _ (.tail _ (.tail _ (.head _))))))) (SL.cons (h_82.ok _ (.tail _ (.tail _ (.tail _ (.tail _ (.tail _ (.tail _ (.head _)))))))) (SL.nil _ _)))))), ?_⟩
          refine ZT.q rfl (Wn.no rfl) rfl rfl (fun wq hS => R.bin (v := (vu32 ((rot ((WZ bs j).getD (j - 15) 0) 7 ^^^ rot ((WZ bs j).getD (j - 15) 0) 18) ^^^ (shr32 ((WZ bs j).getD (j - 15) 0) 3)))) rfl rfl (b32_xor (rot ((WZ bs j).getD (j - 15) 0) 7 ^^^ rot ((WZ bs j).getD (j - 15) 0) 18) (shr32 ((WZ bs j).getD (j - 15) 0) 3))) ?_
          refine ZT.q rfl (Wn.no rfl) rfl rfl (fun wq hS => R.bin (v := (vu32 (((WZ bs j).getD (j - 16) 0) + ((rot ((WZ bs j).getD (j - 15) 0) 7 ^^^ rot ((WZ bs j).getD (j - 15) 0) 18) ^^^ (shr32 ((WZ bs j).getD (j - 15) 0) 3))))) rfl rfl (b32_add ((WZ bs j).getD (j - 16) 0) ((rot ((WZ bs j).getD (j - 15) 0) 7 ^^^ rot ((WZ bs j).getD (j - 15) 0) 18) ^^^ (shr32 ((WZ bs j).getD (j - 15) 0) 3)))) ?_
          refine ZT.q rfl (Wn.no rfl) rfl rfl (fun wq hS => R.bin (v := (vu32 ((((WZ bs j).getD (j - 16) 0) + ((rot ((WZ bs j).getD (j - 15) 0) 7 ^^^ rot ((WZ bs j).getD (j - 15) 0) 18) ^^^ (shr32 ((WZ bs j).getD (j - 15) 0) 3))) + ((WZ bs j).getD (j - 7) 0)))) rfl rfl (b32_add (((WZ bs j).getD (j - 16) 0) + ((rot ((WZ bs j).getD (j - 15) 0) 7 ^^^ rot ((WZ bs j).getD (j - 15) 0) 18) ^^^ (shr32 ((WZ bs j).getD (j - 15) 0) 3))) ((WZ bs j).getD (j - 7) 0))) ?_
          refine ZT.s ?_
          refine OpZ.one rfl (Wn.no rfl) ?_
          refine WL.call (al := [(vu32 ((WZ bs j).getD (j - 2) 0)), (.slice (some ⟨b_74, 0, none⟩) 2 2)]) Try.call77 rfl rfl (c_rors_17_19 ((WZ bs j).getD (j - 2) 0) (some ⟨b_74, 0, none⟩) 2 _ (viewB (h_82.ok _ (.tail _ (.head _))) Sg.h)) rfl ?_
          rintro _ w_84 ⟨rfl, hc_83⟩
          have h_85 := h_82.same hc_83
          refine WL.nil ?_
          refine ⟨(SL.cons (h_85.ok _ (.tail _ (.tail _ (.head _)))) (SL.cons (h_85.ok _ (.tail _ (.tail _ (.tail _ (.head _))))) (SL.cons (h_85.ok _ (.tail _ (.tail _ (.tail _ (.tail _ (.head _)))))) (SL.cons (h_85.ok _ (.tail _ (.tail _ (.tail _ (.tail _ (.tail _ (.head _))))))) (SL.cons (h_85.ok _ (.tail _ (.tail _ (.tail _ (.tail _ (.tail _ (.tail _ (.head _)))))))) (SL.nil _ _)))))), ?_⟩
          refine ZT.q rfl (Wn.no rfl) rfl rfl (fun wq hS => R.bin (v := (vu32 ((rot ((WZ bs j).getD (j - 2) 0) 17 ^^^ rot ((WZ bs j).getD (j - 2) 0) 19) ^^^ (shr32 ((WZ bs j).getD (j - 2) 0) 10)))) rfl rfl (b32_xor (rot ((WZ bs j).getD (j - 2) 0) 17 ^^^ rot ((WZ bs j).getD (j - 2) 0) 19) (shr32 ((WZ bs j).getD (j - 2) 0) 10))) ?_
          refine ZT.q rfl (Wn.no rfl) rfl rfl (fun wq hS => R.bin (v := (vu32 (((((WZ bs j).getD (j - 16) 0) + ((rot ((WZ bs j).getD (j - 15) 0) 7 ^^^ rot ((WZ bs j).getD (j - 15) 0) 18) ^^^ (shr32 ((WZ bs j).getD (j - 15) 0) 3))) + ((WZ bs j).getD (j - 7) 0)) + ((rot ((WZ bs j).getD (j - 2) 0) 17 ^^^ rot ((WZ bs j).getD (j - 2) 0) 19) ^^^ (shr32 ((WZ bs j).getD (j - 2) 0) 10))))) rfl rfl (b32_add ((((WZ bs j).getD (j - 16) 0) + ((rot ((WZ bs j).getD (j - 15) 0) 7 ^^^ rot ((WZ bs j).getD (j - 15) 0) 18) ^^^ (shr32 ((WZ bs j).getD (j - 15) 0) 3))) + ((WZ bs j).getD (j - 7) 0)) ((rot ((WZ bs j).getD (j - 2) 0) 17 ^^^ rot ((WZ bs j).getD (j - 2) 0) 19) ^^^ (shr32 ((WZ bs j).getD (j - 2) 0) 10)))) ?_
          refine ZT.q rfl (Wn.no rfl) rfl rfl (fun wq hS => R.indexA (b := b_10) (off := 0) (off' := (0 + j)) (i := j) rfl rfl rfl (by omega) Try.underlying53 Try.sizeOf22 (by rw [Nat.mul_one])) ?_
          refine ZT.s ?_
          refine OpZ.last rfl (Wn.no rfl) ?_
          refine WL.storeE (b := b_10) (off := (0 + j)) (i := j) (v := (vu32 (((((WZ bs j).getD (j - 16) 0) + ((rot ((WZ bs j).getD (j - 15) 0) 7 ^^^ rot ((WZ bs j).getD (j - 15) 0) 18) ^^^ (shr32 ((WZ bs j).getD (j - 15) 0) 3))) + ((WZ bs j).getD (j - 7) 0)) + ((rot ((WZ bs j).getD (j - 2) 0) 17 ^^^ rot ((WZ bs j).getD (j - 2) 0) 19) ^^^ (shr32 ((WZ bs j).getD (j - 2) 0) 10))))) (cs' := ((WZ bs j).set j (((((WZ bs j).getD (j - 16) 0) + ((rot ((WZ bs j).getD (j - 15) 0) 7 ^^^ rot ((WZ bs j).getD (j - 15) 0) 18) ^^^ (shr32 ((WZ bs j).getD (j - 15) 0) 3))) + ((WZ bs j).getD (j - 7) 0)) + ((rot ((WZ bs j).getD (j - 2) 0) 17 ^^^ rot ((WZ bs j).getD (j - 2) 0) 19) ^^^ (shr32 ((WZ bs j).getD (j - 2) 0) 10)))).map vu32) h_85 rfl rfl Try.sizeOf22 rfl (At.t (At.t At.h)) (by decide) Sg.h rfl (lt_len (K := 64) (len_map (WZ_len ..)) (by omega)) (set_u32 _ _ _) (fun w_86 h_87 => ?_)
          refine WL.nil ?_
          refine ZT.nil ?_
          refine thn_n ?_
          have h_88 := h_87.up (Pick.t (Pick.t (Pick.t (Pick.t (Pick.t (Pick.t Pick.h))))))
          have h_89 := h_88.up (Pick.t (Pick.t (Pick.t (Pick.t (Pick.t (Pick.t Pick.h))))))
          have h_90 := h_89.up (Pick.t (Pick.t (Pick.t (Pick.t (Pick.t (Pick.t Pick.h))))))
          have h_91 := h_90.up (Pick.t (Pick.t (Pick.t (Pick.t (Pick.t (Pick.t Pick.h))))))
          have h_92 := h_91.up (Pick.t (Pick.t (Pick.t (Pick.t (Pick.t (Pick.t Pick.h))))))
          have h_93 := h_92.up (Pick.t (Pick.t (Pick.t (Pick.t (Pick.t Pick.h)))))
          have h_94 := h_93.up (Pick.t (Pick.t (Pick.t (Pick.t (Pick.t (Pick.t Pick.h))))))
          exact ⟨(b_77, b_74), (Ag.upd rfl (Ag.upd rfl (Ag.upd rfl (Ag.upd rfl (Ag.upd rfl (Ag.upd rfl (Ag.upd rfl (Ag.upd rfl (Ag.upd rfl (Ag.upd rfl (Ag.upd rfl (Ag.upd rfl (Ag.upd rfl (Ag.upd rfl (Ag.upd rfl (Ag.upd rfl (Ag.upd rfl (Ag.upd rfl (Ag.upd rfl (Ag.upd rfl (Ag.upd rfl (Ag.upd rfl (Ag.upd rfl (Ag.upd rfl (Ag.upd rfl (Ag.upd rfl (Ag.upd rfl (Ag.refl _ _)))))))))))))))))))))))))))), ⟨rfl, rfl, rfl, rfl, rfl, rfl, rfl, rfl, rfl, rfl, rfl, rfl, rfl, rfl, rfl, rfl, rfl, rfl, rfl, rfl, rfl, rfl, rfl, rfl, rfl, rfl, rfl, trivial⟩, h_94⟩
      · rintro ⟨b_98, b_99⟩ J_95 w_96 h_97
        refine inb_n ?_
        refine thn_n ?_
        refine WP.reg ?_
        refine WL.q (Wn.no rfl) rfl rfl (R.move (v := (vi ((j : Nat) : Int))) rfl) ?_
        refine WL.q (Wn.no rfl) rfl rfl (R.bin (v := (vi ((j + 1 : Nat) : Int))) rfl rfl (bi_add (c := ((j + 1 : Nat) : Int)) (by omega) (by omega))) ?_
        refine WL.q (Wn.no rfl) rfl rfl (R.assign (v := (vi ((j + 1 : Nat) : Int))) rfl) ?_
        refine WL.nil ?_
        refine thn_n ?_
        have h_100 := h_97.drop rfl
        have h_101 := h_100.drop rfl
        have h_102 := h_101.up (Pick.t (Pick.t (Pick.t (Pick.t Pick.h))))
        have h_103 := h_102.up (Pick.t (Pick.t (Pick.t (Pick.t Pick.h))))
        have h_104 := h_103.up (Pick.t (Pick.t (Pick.t (Pick.t Pick.h))))
        have h_105 := h_104.up (Pick.t (Pick.t (Pick.t (Pick.t Pick.h))))
        have h_106 := h_105.up (Pick.t (Pick.t (Pick.t (Pick.t Pick.h))))
        have es : (WZ bs j).set j (((((WZ bs j).getD (j - 16) 0) + ((rot ((WZ bs j).getD (j - 15) 0) 7 ^^^ rot ((WZ bs j).getD (j - 15) 0) 18) ^^^ (shr32 ((WZ bs j).getD (j - 15) 0) 3))) + ((WZ bs j).getD (j - 7) 0)) + ((rot ((WZ bs j).getD (j - 2) 0) 17 ^^^ rot ((WZ bs j).getD (j - 2) 0) 19) ^^^ (shr32 ((WZ bs j).getD (j - 2) 0) 10))) = WZ bs (j + 1) := WZ_hi (by omega) (by omega) rfl
        rw [es] at h_106
        exact ⟨j + 1, _, (by omega), (Ag.upd rfl (Ag.upd rfl (Ag.upd rfl (Ag.updL rfl (Ag.trans (Ag.sub rfl (Ag.mix _ _ _)) (Ag.upd rfl (Ag.upd rfl (Ag.upd rfl (Ag.upd rfl (Ag.upd rfl (Ag.upd rfl (Ag.upd rfl (Ag.upd rfl (Ag.upd rfl (Ag.upd rfl (Ag.upd rfl (Ag.upd rfl (Ag.updL rfl (Ag.mix _ _ _))))))))))))))))))), ⟨rfl, trivial⟩, h_106, (by omega), (by omega), rfl⟩
    · have p_107 := of_decide_eq_false c_41
      refine WP.exit ?_
      refine thn_x ?_
      refine thn_x ?_
      refine inb_hit ?_
      refine thn_n ?_
      refine WP.seq ?_
      refine WP.drawT (SL w.heap.size [.blk b_10 .nw 53 [(64, (WZ bs j).map vu32)], .blk b_7 .nw 33 [(8, (List.replicate 8 (0 : UInt32)).map vu32)], .blk b_4 .nw 53 [(64, ks.map vu32)], .blk b_1 .nw 33 [(8, hh.map vu32)], .view a (bs.map vu8)]) (.q 0 (.q 1 (.q 2 (.q 3 (.q 4 (.q 5 (.q 6 (.q 7 (.q 8 (.q 9 (.q 10 (.q 11 (.q 12 (.q 13 (.q 14 (.q 15 (.q 16 (.q 17 (.q 18 (.q 19 (.q 20 (.q 21 (.q 22 (.q 23 .nil)))))))))))))))))))))))) (by kernel_rfl) (by kernel_rfl) rfl (by kernel_rfl) (fun w_108 hc_110 => (SL.cons ((h_38.same hc_110).ok _ (.head _)) (SL.cons ((h_38.same hc_110).ok _ (.tail _ (.head _))) (SL.cons ((h_38.same hc_110).ok _ (.tail _ (.tail _ (.head _)))) (SL.cons ((h_38.same hc_110).ok _ (.tail _ (.tail _ (.tail _ (.head _))))) (SL.cons ((h_38.same hc_110).ok _ (.tail _ (.tail _ (.tail _ (.tail _ (.head _)))))) (SL.nil _ _))))))) (fun w_108 hc_110 => ?_)
      have h_109 := h_38.same hc_110
      refine WT.q rfl (Wn.no rfl) rfl rfl (fun wq hS => R.indexA (b := b_1) (off := 0) (off' := 0) (i := 0) rfl rfl rfl (by decide) Try.underlying33 Try.sizeOf22 rfl) ?_
      refine WT.q rfl (Wn.no rfl) rfl rfl (fun wq hS => R.loadE (b := b_1) (off := 0) (i := 0) (v := (vu32 (hh.getD 0 0))) rfl Try.isAgg22 (hS _ (.tail _ (.tail _ (.tail _ (.head _))))) Sg.h rfl (get_u32 (lt_len (K := 8) hhl (by decide)))) ?_
      refine WT.q rfl (Wn.no rfl) rfl rfl (fun wq hS => R.indexA (b := b_1) (off := 0) (off' := 1) (i := 1) rfl rfl rfl (by decide) Try.underlying33 Try.sizeOf22 rfl) ?_
      refine WT.q rfl (Wn.no rfl) rfl rfl (fun wq hS => R.loadE (b := b_1) (off := 1) (i := 1) (v := (vu32 (hh.getD 1 0))) rfl Try.isAgg22 (hS _ (.tail _ (.tail _ (.tail _ (.head _))))) Sg.h rfl (get_u32 (lt_len (K := 8) hhl (by decide)))) ?_
      refine WT.q rfl (Wn.no rfl) rfl rfl (fun wq hS => R.indexA (b := b_1) (off := 0) (off' := 2) (i := 2) rfl rfl rfl (by decide) Try.underlying33 Try.sizeOf22 rfl) ?_
      refine WT.q rfl (Wn.no rfl) rfl rfl (fun wq hS => R.loadE (b := b_1) (off := 2) (i := 2) (v := (vu32 (hh.getD 2 0))) rfl Try.isAgg22 (hS _ (.tail _ (.tail _ (.tail _ (.head _))))) Sg.h rfl (get_u32 (lt_len (K := 8) hhl (by decide)))) ?_
      refine WT.q rfl (Wn.no rfl) rfl rfl (fun wq hS => R.indexA (b := b_1) (off := 0) (off' := 3) (i := 3) rfl rfl rfl (by decide) Try.underlying33 Try.sizeOf22 rfl) ?_
      refine WT.q rfl (Wn.no rfl) rfl rfl (fun wq hS => R.loadE (b := b_1) (off := 3) (i := 3) (v := (vu32 (hh.getD 3 0))) rfl Try.isAgg22 (hS _ (.tail _ (.tail _ (.tail _ (.head _))))) Sg.h rfl (get_u32 (lt_len (K := 8) hhl (by decide)))) ?_
      refine WT.q rfl (Wn.no rfl) rfl rfl (fun wq hS => R.indexA (b := b_1) (off := 0) (off' := 4) (i := 4) rfl rfl rfl (by decide) Try.underlying33 Try.sizeOf22 rfl) ?_
      refine WT.q rfl (Wn.no rfl) rfl rfl (fun wq hS => R.loadE (b := b_1) (off := 4) (i := 4) (v := (vu32 (hh.getD 4 0))) rfl Try.isAgg22 (hS _ (.tail _ (.tail _ (.tail _ (.head _))))) Sg.h rfl (get_u32 (lt_len (K := 8) hhl (by decide)))) ?_
      refine WT.q rfl (Wn.no rfl) rfl rfl (fun wq hS => R.indexA (b := b_1) (off := 0) (off' := 5) (i := 5) rfl rfl rfl (by decide) Try.underlying33 Try.sizeOf22 rfl) ?_
      refine WT.q rfl (Wn.no rfl) rfl rfl (fun wq hS => R.loadE (b := b_1) (off := 5) (i := 5) (v := (vu32 (hh.getD 5 0))) rfl Try.isAgg22 (hS _ (.tail _ (.tail _ (.tail _ (.head _))))) Sg.h rfl (get_u32 (lt_len (K := 8) hhl (by decide)))) ?_
      refine WT.q rfl (Wn.no rfl) rfl rfl (fun wq hS => R.indexA (b := b_1) (off := 0) (off' := 6) (i := 6) rfl rfl rfl (by decide) Try.underlying33 Try.sizeOf22 rfl) ?_
      refine WT.q rfl (Wn.no rfl) rfl rfl (fun wq hS => R.loadE (b := b_1) (off := 6) (i := 6) (v := (vu32 (hh.getD 6 0))) rfl Try.isAgg22 (hS _ (.tail _ (.tail _ (.tail _ (.head _))))) Sg.h rfl (get_u32 (lt_len (K := 8) hhl (by decide)))) ?_
      refine WT.q rfl (Wn.no rfl) rfl rfl (fun wq hS => R.indexA (b := b_1) (off := 0) (off' := 7) (i := 7) rfl rfl rfl (by decide) Try.underlying33 Try.sizeOf22 rfl) ?_
      refine WT.q rfl (Wn.no rfl) rfl rfl (fun wq hS => R.loadE (b := b_1) (off := 7) (i := 7) (v := (vu32 (hh.getD 7 0))) rfl Try.isAgg22 (hS _ (.tail _ (.tail _ (.tail _ (.head _))))) Sg.h rfl (get_u32 (lt_len (K := 8) hhl (by decide)))) ?_
      refine WT.q rfl (Wn.no rfl) rfl rfl (fun wq hS => R.assign (v := (vu32 (hh.getD 0 0))) rfl) ?_
      refine WT.q rfl (Wn.no rfl) rfl rfl (fun wq hS => R.assign (v := (vu32 (hh.getD 1 0))) rfl) ?_
      refine WT.q rfl (Wn.no rfl) rfl rfl (fun wq hS => R.assign (v := (vu32 (hh.getD 2 0))) rfl) ?_
      refine WT.q rfl (Wn.no rfl) rfl rfl (fun wq hS => R.assign (v := (vu32 (hh.getD 3 0))) rfl) ?_
      refine WT.q rfl (Wn.no rfl) rfl rfl (fun wq hS => R.assign (v := (vu32 (hh.getD 4 0))) rfl) ?_
      refine WT.q rfl (Wn.no rfl) rfl rfl (fun wq hS => R.assign (v := (vu32 (hh.getD 5 0))) rfl) ?_
      refine WT.q rfl (Wn.no rfl) rfl rfl (fun wq hS => R.assign (v := (vu32 (hh.getD 6 0))) rfl) ?_
      refine WT.q rfl (Wn.no rfl) rfl rfl (fun wq hS => R.assign (v := (vu32 (hh.getD 7 0))) rfl) ?_
      refine WT.nil ?_
      refine thn_n ?_
      refine WP.seq ?_
      refine WP.seq ?_
      refine WP.reg ?_
      refine WL.q (Wn.no rfl) rfl rfl (R.move (v := (vi 0)) rfl) ?_
      refine WL.nil ?_
      refine thn_n ?_
      refine WP.block ?_
      have hj64 : j = 64 := by omega
      subst hj64
      rw [WZ_all] at h_109
      refine WP.loopG (G := Nat) [15, 16, 17, 18, 19, 20, 21, 22, 23, 24, 25, 103, 104, 105, 106, 107, 108, 109, 110, 111, 112, 113, 114, 115, 116, 117, 118, 119, 120, 121, 122, 123, 124, 125, 126, 127, 128, 129, 130, 131, 132, 133, 134, 135, 136, 137, 138, 139, 140, 141, 142, 143, 144, 145, 146, 147, 148, 149, 150, 151, 152, 153, 154, 155, 156, 157] (fun r => [(15, (vu32 ((stN ks (W bs) hh r).getD 0 0))), (16, (vu32 ((stN ks (W bs) hh r).getD 1 0))), (17, (vu32 ((stN ks (W bs) hh r).getD 2 0))), (18, (vu32 ((stN ks (W bs) hh r).getD 3 0))), (19, (vu32 ((stN ks (W bs) hh r).getD 4 0))), (20, (vu32 ((stN ks (W bs) hh r).getD 5 0))), (21, (vu32 ((stN ks (W bs) hh r).getD 6 0))), (22, (vu32 ((stN ks (W bs) hh r).getD 7 0))), (103, (vi ((r : Nat) : Int)))]) (fun r m w1 => HP w w1 [.blk b_10 .nw 53 [(64, (W bs).map vu32)], .blk b_7 .nw 33 [(8, (List.replicate 8 (0 : UInt32)).map vu32)], .blk b_4 .nw 53 [(64, ks.map vu32)], .blk b_1 .nw 33 [(8, hh.map vu32)], .view a (bs.map vu8)] ∧ (r ≤ 64) ∧ m = 64 - r) ⟨0, _, ⟨rfl, rfl, rfl, rfl, rfl, rfl, rfl, rfl, rfl, trivial⟩, h_109, (by omega), rfl⟩ ?_
      rintro r m_113 J_114 w_111 ⟨h_112, hr, rfl⟩
      refine WP.seq ?_
      refine WP.reg ?_
      refine WL.q (Wn.no rfl) rfl rfl (R.bin (v := (.bool (decide ((((r : Nat) : Int) : Int) < 64)))) rfl rfl (bi_lss (r := decide ((((r : Nat) : Int) : Int) < 64)) rfl)) ?_
      refine WL.nil ?_
      refine thn_n ?_
      refine WP.seq ?_
      refine WP.cond (b := decide ((((r : Nat) : Int) : Int) < 64)) rfl (fun c_115 => ?_) (fun c_115 => ?_)
      · have p_116 := of_decide_eq_true c_115
        refine WP.skip ?_
        refine thn_n ?_
        refine WP.seq ?_
        refine WP.block ?_
        refine WP.seq ?_
        refine WP.reg ?_
        refine WL.q (Wn.no rfl) rfl rfl (R.move (v := (vi ((r : Nat) : Int))) rfl) ?_
        refine WL.q (Wn.no rfl) rfl rfl (R.assign (v := (vi ((r : Nat) : Int))) rfl) ?_
        refine WL.nil ?_
        refine thn_n ?_
        refine WP.seq ?_
        refine WP.drawT (SL w.heap.size [.blk b_10 .nw 53 [(64, (W bs).map vu32)], .blk b_7 .nw 33 [(8, (List.replicate 8 (0 : UInt32)).map vu32)], .blk b_4 .nw 53 [(64, ks.map vu32)], .blk b_1 .nw 33 [(8, hh.map vu32)], .view a (bs.map vu8)]) (.q 0 (.q 1 (.q 2 (.q 6 (.q 7 (.q 8 (.q 9 (.q 10 (.q 11 (.q 12 (.q 13 (.q 15 (.q 16 (.q 17 (.q 19 (.q 20 (.q 21 (.s 3 (.s 4 (.q 5 (.q 14 (.q 18 (.q 22 (.q 23 .nil)))))))))))))))))))))))) (by kernel_rfl) (by kernel_rfl) rfl (by kernel_rfl) (fun w_117 hc_119 => (SL.cons ((h_112.same hc_119).ok _ (.head _)) (SL.cons ((h_112.same hc_119).ok _ (.tail _ (.head _))) (SL.cons ((h_112.same hc_119).ok _ (.tail _ (.tail _ (.head _)))) (SL.cons ((h_112.same hc_119).ok _ (.tail _ (.tail _ (.tail _ (.head _))))) (SL.cons ((h_112.same hc_119).ok _ (.tail _ (.tail _ (.tail _ (.tail _ (.head _)))))) (SL.nil _ _))))))) (fun w_117 hc_119 => ?_)
        have h_118 := h_112.same hc_119
        refine WT.q rfl (Wn.no rfl) rfl rfl (fun wq hS => R.move (v := (vu32 ((stN ks (W bs) hh r).getD 7 0))) rfl) ?_
        refine WT.q rfl (Wn.no rfl) rfl rfl (fun wq hS => R.move (v := (Value.func (Fn.func 77) [].toArray [].toArray)) rfl) ?_
        refine WT.q rfl (Wn.no rfl) rfl rfl (fun wq hS => R.move (v := (vu32 ((stN ks (W bs) hh r).getD 4 0))) rfl) ?_
        refine WT.q rfl (Wn.no rfl) rfl rfl (fun wq hS => R.move (v := (vu32 ((stN ks (W bs) hh r).getD 4 0))) rfl) ?_
        refine WT.q rfl (Wn.no rfl) rfl rfl (fun wq hS => R.move (v := (vu32 ((stN ks (W bs) hh r).getD 5 0))) rfl) ?_
        refine WT.q rfl (Wn.no rfl) rfl rfl (fun wq hS => R.bin (v := (vu32 (((stN ks (W bs) hh r).getD 4 0) &&& ((stN ks (W bs) hh r).getD 5 0)))) rfl rfl (b32_and ((stN ks (W bs) hh r).getD 4 0) ((stN ks (W bs) hh r).getD 5 0))) ?_
        refine WT.q rfl (Wn.no rfl) rfl rfl (fun wq hS => R.move (v := (vu32 ((stN ks (W bs) hh r).getD 4 0))) rfl) ?_
        refine WT.q rfl (Wn.no rfl) rfl rfl (fun wq hS => R.un rfl (run_not32 ((stN ks (W bs) hh r).getD 4 0))) ?_
        refine WT.q rfl (Wn.no rfl) rfl rfl (fun wq hS => R.move (v := (vu32 ((stN ks (W bs) hh r).getD 6 0))) rfl) ?_
        refine WT.q rfl (Wn.no rfl) rfl rfl (fun wq hS => R.bin (v := (vu32 ((~~~((stN ks (W bs) hh r).getD 4 0)) &&& ((stN ks (W bs) hh r).getD 6 0)))) rfl rfl (b32_and (~~~((stN ks (W bs) hh r).getD 4 0)) ((stN ks (W bs) hh r).getD 6 0))) ?_
        refine WT.q rfl (Wn.no rfl) rfl rfl (fun wq hS => R.bin (v := (vu32 ((((stN ks (W bs) hh r).getD 4 0) &&& ((stN ks (W bs) hh r).getD 5 0)) ^^^ ((~~~((stN ks (W bs) hh r).getD 4 0)) &&& ((stN ks (W bs) hh r).getD 6 0))))) rfl rfl (b32_xor (((stN ks (W bs) hh r).getD 4 0) &&& ((stN ks (W bs) hh r).getD 5 0)) ((~~~((stN ks (W bs) hh r).getD 4 0)) &&& ((stN ks (W bs) hh r).getD 6 0)))) ?_
        refine WT.q rfl (Wn.no rfl) rfl rfl (fun wq hS => R.move (v := (vi ((r : Nat) : Int))) rfl) ?_
        refine WT.q rfl (Wn.no rfl) rfl rfl (fun wq hS => R.indexA (b := b_4) (off := 0) (off' := (0 + r)) (i := r) rfl rfl rfl (by omega) Try.underlying53 Try.sizeOf22 (by rw [Nat.mul_one])) ?_
        refine WT.q rfl (Wn.no rfl) rfl rfl (fun wq hS => R.loadE (b := b_4) (off := (0 + r)) (i := r) (v := (vu32 (ks.getD r 0))) rfl Try.isAgg22 (hS _ (.tail _ (.tail _ (.head _)))) Sg.h rfl (get_u32 (lt_len (K := 64) hkl (by omega)))) ?_
        refine WT.q rfl (Wn.no rfl) rfl rfl (fun wq hS => R.move (v := (vi ((r : Nat) : Int))) rfl) ?_
        refine WT.q rfl (Wn.no rfl) rfl rfl (fun wq hS => R.indexA (b := b_10) (off := 0) (off' := (0 + r)) (i := r) rfl rfl rfl (by omega) Try.underlying53 Try.sizeOf22 (by rw [Nat.mul_one])) ?_
        refine WT.q rfl (Wn.no rfl) rfl rfl (fun wq hS => R.loadE (b := b_10) (off := (0 + r)) (i := r) (v := (vu32 ((W bs).getD r 0))) rfl Try.isAgg22 (hS _ (.head _)) Sg.h rfl (get_u32 (lt_len (K := 64) (W_len bs) (by omega)))) ?_
        refine WT.s ?_
        refine Op1.one rfl (Wn.no rfl) ?_
        refine WL.buildSl (vs := [(0, (vi 6)), (1, (vi 11)), (2, (vi 25))]) (cs := [(vi 6), (vi 11), (vi 25)]) h_118 Try.underlying99 Try.sizeOf3 (zv Try.typeInfo3 rfl) rfl rfl (by kernel_rfl) rfl (by simp [Value.oneCell']) rfl rfl (fun b_120 w_121 h_122 => ?_)
        refine WL.nil ?_
        refine ⟨(SL.cons (h_122.ok _ (.tail _ (.head _))) (SL.cons (h_122.ok _ (.tail _ (.tail _ (.head _)))) (SL.cons (h_122.ok _ (.tail _ (.tail _ (.tail _ (.head _))))) (SL.cons (h_122.ok _ (.tail _ (.tail _ (.tail _ (.tail _ (.head _)))))) (SL.cons (h_122.ok _ (.tail _ (.tail _ (.tail _ (.tail _ (.tail _ (.head _))))))) (SL.nil _ _)))))), ?_⟩
        refine WT.s ?_
        refine Op1.one rfl (Wn.no rfl) ?_
        refine WL.call (al := [(vu32 ((stN ks (W bs) hh r).getD 4 0)), (.slice (some ⟨b_120, 0, none⟩) 3 3)]) Try.call77 rfl rfl (c_rors_6_11_25 ((stN ks (W bs) hh r).getD 4 0) (some ⟨b_120, 0, none⟩) 3 _ (viewB (h_122.ok _ (.head _)) Sg.h)) rfl ?_
        rintro _ w_124 ⟨rfl, hc_123⟩
        have h_125 := h_122.same hc_123
        refine WL.nil ?_
        refine ⟨(SL.cons (h_125.ok _ (.tail _ (.head _))) (SL.cons (h_125.ok _ (.tail _ (.tail _ (.head _)))) (SL.cons (h_125.ok _ (.tail _ (.tail _ (.tail _ (.head _))))) (SL.cons (h_125.ok _ (.tail _ (.tail _ (.tail _ (.tail _ (.head _)))))) (SL.cons (h_125.ok _ (.tail _ (.tail _ (.tail _ (.tail _ (.tail _ (.head _))))))) (SL.nil _ _)))))), ?_⟩
        refine WT.q rfl (Wn.no rfl) rfl rfl (fun wq hS => R.bin (v := (vu32 (((stN ks (W bs) hh r).getD 7 0) + ((rot ((stN ks (W bs) hh r).getD 4 0) 6 ^^^ rot ((stN ks (W bs) hh r).getD 4 0) 11) ^^^ rot ((stN ks (W bs) hh r).getD 4 0) 25)))) rfl rfl (b32_add ((stN ks (W bs) hh r).getD 7 0) ((rot ((stN ks (W bs) hh r).getD 4 0) 6 ^^^ rot ((stN ks (W bs) hh r).getD 4 0) 11) ^^^ rot ((stN ks (W bs) hh r).getD 4 0) 25))) ?_
        refine WT.q rfl (Wn.no rfl) rfl rfl (fun wq hS => R.bin (v := (vu32 ((((stN ks (W bs) hh r).getD 7 0) + ((rot ((stN ks (W bs) hh r).getD 4 0) 6 ^^^ rot ((stN ks (W bs) hh r).getD 4 0) 11) ^^^ rot ((stN ks (W bs) hh r).getD 4 0) 25)) + ((((stN ks (W bs) hh r).getD 4 0) &&& ((stN ks (W bs) hh r).getD 5 0)) ^^^ ((~~~((stN ks (W bs) hh r).getD 4 0)) &&& ((stN ks (W bs) hh r).getD 6 0)))))) rfl rfl (b32_add (((stN ks (W bs) hh r).getD 7 0) + ((rot ((stN ks (W bs) hh r).getD 4 0) 6 ^^^ rot ((stN ks (W bs) hh r).getD 4 0) 11) ^^^ rot ((stN ks (W bs) hh r).getD 4 0) 25)) ((((stN ks (W bs) hh r).getD 4 0) &&& ((stN ks (W bs) hh r).getD 5 0)) ^^^ ((~~~((stN ks (W bs) hh r).getD 4 0)) &&& ((stN ks (W bs) hh r).getD 6 0))))) ?_
        refine WT.q rfl (Wn.no rfl) rfl rfl (fun wq hS => R.bin (v := (vu32 (((((stN ks (W bs) hh r).getD 7 0) + ((rot ((stN ks (W bs) hh r).getD 4 0) 6 ^^^ rot ((stN ks (W bs) hh r).getD 4 0) 11) ^^^ rot ((stN ks (W bs) hh r).getD 4 0) 25)) + ((((stN ks (W bs) hh r).getD 4 0) &&& ((stN ks (W bs) hh r).getD 5 0)) ^^^ ((~~~((stN ks (W bs) hh r).getD 4 0)) &&& ((stN ks (W bs) hh r).getD 6 0)))) + (ks.getD r 0)))) rfl rfl (b32_add ((((stN ks (W bs) hh r).getD 7 0) + ((rot ((stN ks (W bs) hh r).getD 4 0) 6 ^^^ rot ((stN ks (W bs) hh r).getD 4 0) 11) ^^^ rot ((stN ks (W bs) hh r).getD 4 0) 25)) + ((((stN ks (W bs) hh r).getD 4 0) &&& ((stN ks (W bs) hh r).getD 5 0)) ^^^ ((~~~((stN ks (W bs) hh r).getD 4 0)) &&& ((stN ks (W bs) hh r).getD 6 0)))) (ks.getD r 0))) ?_
        refine WT.q rfl (Wn.no rfl) rfl rfl (fun wq hS => R.bin (v := (vu32 ((((((stN ks (W bs) hh r).getD 7 0) + ((rot ((stN ks (W bs) hh r).getD 4 0) 6 ^^^ rot ((stN ks (W bs) hh r).getD 4 0) 11) ^^^ rot ((stN ks (W bs) hh r).getD 4 0) 25)) + ((((stN ks (W bs) hh r).getD 4 0) &&& ((stN ks (W bs) hh r).getD 5 0)) ^^^ ((~~~((stN ks (W bs) hh r).getD 4 0)) &&& ((stN ks (W bs) hh r).getD 6 0)))) + (ks.getD r 0)) + ((W bs).getD r 0)))) rfl rfl (b32_add (((((stN ks (W bs) hh r).getD 7 0) + ((rot ((stN ks (W bs) hh r).getD 4 0) 6 ^^^ rot ((stN ks (W bs) hh r).getD 4 0) 11) ^^^ rot ((stN ks (W bs) hh r).getD 4 0) 25)) + ((((stN ks (W bs) hh r).getD 4 0) &&& ((stN ks (W bs) hh r).getD 5 0)) ^^^ ((~~~((stN ks (W bs) hh r).getD 4 0)) &&& ((stN ks (W bs) hh r).getD 6 0)))) + (ks.getD r 0)) ((W bs).getD r 0))) ?_
        refine WT.q rfl (Wn.no rfl) rfl rfl (fun wq hS => R.assign (v := (vu32 ((((((stN ks (W bs) hh r).getD 7 0) + ((rot ((stN ks (W bs) hh r).getD 4 0) 6 ^^^ rot ((stN ks (W bs) hh r).getD 4 0) 11) ^^^ rot ((stN ks (W bs) hh r).getD 4 0) 25)) + ((((stN ks (W bs) hh r).getD 4 0) &&& ((stN ks (W bs) hh r).getD 5 0)) ^^^ ((~~~((stN ks (W bs) hh r).getD 4 0)) &&& ((stN ks (W bs) hh r).getD 6 0)))) + (ks.getD r 0)) + ((W bs).getD r 0)))) rfl) ?_
        refine WT.nil ?_
        refine thn_n ?_
        refine WP.seq ?_
        refine WP.reg ?_
        refine WL.q (Wn.no rfl) rfl rfl (R.move (v := (Value.func (Fn.func 77) [].toArray [].toArray)) rfl) ?_
        refine WL.q (Wn.no rfl) rfl rfl (R.move (v := (vu32 ((stN ks (W bs) hh r).getD 0 0))) rfl) ?_
        refine WL.buildSl (vs := [(0, (vi 2)), (1, (vi 13)), (2, (vi 22))]) (cs := [(vi 2), (vi 13), (vi 22)]) h_125 Try.underlying99 Try.sizeOf3 (zv Try.typeInfo3 rfl) rfl rfl (by kernel_rfl) rfl (by simp [Value.oneCell']) rfl rfl (fun b_126 w_127 h_128 => ?_)
        refine WL.call (al := [(vu32 ((stN ks (W bs) hh r).getD 0 0)), (.slice (some ⟨b_126, 0, none⟩) 3 3)]) Try.call77 rfl rfl (c_rors_2_13_22 ((stN ks (W bs) hh r).getD 0 0) (some ⟨b_126, 0, none⟩) 3 _ (viewB (h_128.ok _ (.head _)) Sg.h)) rfl ?_
        rintro _ w_130 ⟨rfl, hc_129⟩
        have h_131 := h_128.same hc_129
        refine WL.q (Wn.no rfl) rfl rfl (R.move (v := (vu32 ((stN ks (W bs) hh r).getD 0 0))) rfl) ?_
        refine WL.q (Wn.no rfl) rfl rfl (R.move (v := (vu32 ((stN ks (W bs) hh r).getD 1 0))) rfl) ?_
        refine WL.q (Wn.no rfl) rfl rfl (R.bin (v := (vu32 (((stN ks (W bs) hh r).getD 0 0) &&& ((stN ks (W bs) hh r).getD 1 0)))) rfl rfl (b32_and ((stN ks (W bs) hh r).getD 0 0) ((stN ks (W bs) hh r).getD 1 0))) ?_
        refine WL.q (Wn.no rfl) rfl rfl (R.move (v := (vu32 ((stN ks (W bs) hh r).getD 0 0))) rfl) ?_
        refine WL.q (Wn.no rfl) rfl rfl (R.move (v := (vu32 ((stN ks (W bs) hh r).getD 2 0))) rfl) ?_
        refine WL.q (Wn.no rfl) rfl rfl (R.bin (v := (vu32 (((stN ks (W bs) hh r).getD 0 0) &&& ((stN ks (W bs) hh r).getD 2 0)))) rfl rfl (b32_and ((stN ks (W bs) hh r).getD 0 0) ((stN ks (W bs) hh r).getD 2 0))) ?_
        refine WL.q (Wn.no rfl) rfl rfl (R.bin (v := (vu32 ((((stN ks (W bs) hh r).getD 0 0) &&& ((stN ks (W bs) hh r).getD 1 0)) ^^^ (((stN ks (W bs) hh r).getD 0 0) &&& ((stN ks (W bs) hh r).getD 2 0))))) rfl rfl (b32_xor (((stN ks (W bs) hh r).getD 0 0) &&& ((stN ks (W bs) hh r).getD 1 0)) (((stN ks (W bs) hh r).getD 0 0) &&& ((stN ks (W bs) hh r).getD 2 0)))) ?_
        refine WL.q (Wn.no rfl) rfl rfl (R.move (v := (vu32 ((stN ks (W bs) hh r).getD 1 0))) rfl) ?_
        refine WL.q (Wn.no rfl) rfl rfl (R.move (v := (vu32 ((stN ks (W bs) hh r).getD 2 0))) rfl) ?_
        refine WL.q (Wn.no rfl) rfl rfl (R.bin (v := (vu32 (((stN ks (W bs) hh r).getD 1 0) &&& ((stN ks (W bs) hh r).getD 2 0)))) rfl rfl (b32_and ((stN ks (W bs) hh r).getD 1 0) ((stN ks (W bs) hh r).getD 2 0))) ?_
        refine WL.q (Wn.no rfl) rfl rfl (R.bin (v := (vu32 (((((stN ks (W bs) hh r).getD 0 0) &&& ((stN ks (W bs) hh r).getD 1 0)) ^^^ (((stN ks (W bs) hh r).getD 0 0) &&& ((stN ks (W bs) hh r).getD 2 0))) ^^^ (((stN ks (W bs) hh r).getD 1 0) &&& ((stN ks (W bs) hh r).getD 2 0))))) rfl rfl (b32_xor ((((stN ks (W bs) hh r).getD 0 0) &&& ((stN ks (W bs) hh r).getD 1 0)) ^^^ (((stN ks (W bs) hh r).getD 0 0) &&& ((stN ks (W bs) hh r).getD 2 0))) (((stN ks (W bs) hh r).getD 1 0) &&& ((stN ks (W bs) hh r).getD 2 0)))) ?_
        refine WL.q (Wn.no rfl) rfl rfl (R.bin (v := (vu32 (((rot ((stN ks (W bs) hh r).getD 0 0) 2 ^^^ rot ((stN ks (W bs) hh r).getD 0 0) 13) ^^^ rot ((stN ks (W bs) hh r).getD 0 0) 22) + (((((stN ks (W bs) hh r).getD 0 0) &&& ((stN ks (W bs) hh r).getD 1 0)) ^^^ (((stN ks (W bs) hh r).getD 0 0) &&& ((stN ks (W bs) hh r).getD 2 0))) ^^^ (((stN ks (W bs) hh r).getD 1 0) &&& ((stN ks (W bs) hh r).getD 2 0)))))) rfl rfl (b32_add ((rot ((stN ks (W bs) hh r).getD 0 0) 2 ^^^ rot ((stN ks (W bs) hh r).getD 0 0) 13) ^^^ rot ((stN ks (W bs) hh r).getD 0 0) 22) (((((stN ks (W bs) hh r).getD 0 0) &&& ((stN ks (W bs) hh r).getD 1 0)) ^^^ (((stN ks (W bs) hh r).getD 0 0) &&& ((stN ks (W bs) hh r).getD 2 0))) ^^^ (((stN ks (W bs) hh r).getD 1 0) &&& ((stN ks (W bs) hh r).getD 2 0))))) ?_
        refine WL.q (Wn.no rfl) rfl rfl (R.assign (v := (vu32 (((rot ((stN ks (W bs) hh r).getD 0 0) 2 ^^^ rot ((stN ks (W bs) hh r).getD 0 0) 13) ^^^ rot ((stN ks (W bs) hh r).getD 0 0) 22) + (((((stN ks (W bs) hh r).getD 0 0) &&& ((stN ks (W bs) hh r).getD 1 0)) ^^^ (((stN ks (W bs) hh r).getD 0 0) &&& ((stN ks (W bs) hh r).getD 2 0))) ^^^ (((stN ks (W bs) hh r).getD 1 0) &&& ((stN ks (W bs) hh r).getD 2 0)))))) rfl) ?_
        refine WL.nil ?_
        refine thn_n ?_
        refine WP.reg ?_
        refine WL.q (Wn.no rfl) rfl rfl (R.move (v := (vu32 ((((((stN ks (W bs) hh r).getD 7 0) + ((rot ((stN ks (W bs) hh r).getD 4 0) 6 ^^^ rot ((stN ks (W bs) hh r).getD 4 0) 11) ^^^ rot ((stN ks (W bs) hh r).getD 4 0) 25)) + ((((stN ks (W bs) hh r).getD 4 0) &&& ((stN ks (W bs) hh r).getD 5 0)) ^^^ ((~~~((stN ks (W bs) hh r).getD 4 0)) &&& ((stN ks (W bs) hh r).getD 6 0)))) + (ks.getD r 0)) + ((W bs).getD r 0)))) rfl) ?_
        refine WL.q (Wn.no rfl) rfl rfl (R.move (v := (vu32 (((rot ((stN ks (W bs) hh r).getD 0 0) 2 ^^^ rot ((stN ks (W bs) hh r).getD 0 0) 13) ^^^ rot ((stN ks (W bs) hh r).getD 0 0) 22) + (((((stN ks (W bs) hh r).getD 0 0) &&& ((stN ks (W bs) hh r).getD 1 0)) ^^^ (((stN ks (W bs) hh r).getD 0 0) &&& ((stN ks (W bs) hh r).getD 2 0))) ^^^ (((stN ks (W bs) hh r).getD 1 0) &&& ((stN ks (W bs) hh r).getD 2 0)))))) rfl) ?_
        refine WL.q (Wn.no rfl) rfl rfl (R.bin (v := (vu32 (((((((stN ks (W bs) hh r).getD 7 0) + ((rot ((stN ks (W bs) hh r).getD 4 0) 6 ^^^ rot ((stN ks (W bs) hh r).getD 4 0) 11) ^^^ rot ((stN ks (W bs) hh r).getD 4 0) 25)) + ((((stN ks (W bs) hh r).getD 4 0) &&& ((stN ks (W bs) hh r).getD 5 0)) ^^^ ((~~~((stN ks (W bs) hh r).getD 4 0)) &&& ((stN ks (W bs) hh r).getD 6 0)))) + (ks.getD r 0)) + ((W bs).getD r 0)) + (((rot ((stN ks (W bs) hh r).getD 0 0) 2 ^^^ rot ((stN ks (W bs) hh r).getD 0 0) 13) ^^^ rot ((stN ks (W bs) hh r).getD 0 0) 22) + (((((stN ks (W bs) hh r).getD 0 0) &&& ((stN ks (W bs) hh r).getD 1 0)) ^^^ (((stN ks (W bs) hh r).getD 0 0) &&& ((stN ks (W bs) hh r).getD 2 0))) ^^^ (((stN ks (W bs) hh r).getD 1 0) &&& ((stN ks (W bs) hh r).getD 2 0))))))) rfl rfl (b32_add ((((((stN ks (W bs) hh r).getD 7 0) + ((rot ((stN ks (W bs) hh r).getD 4 0) 6 ^^^ rot ((stN ks (W bs) hh r).getD 4 0) 11) ^^^ rot ((stN ks (W bs) hh r).getD 4 0) 25)) + ((((stN ks (W bs) hh r).getD 4 0) &&& ((stN ks (W bs) hh r).getD 5 0)) ^^^ ((~~~((stN ks (W bs) hh r).getD 4 0)) &&& ((stN ks (W bs) hh r).getD 6 0)))) + (ks.getD r 0)) + ((W bs).getD r 0)) (((rot ((stN ks (W bs) hh r).getD 0 0) 2 ^^^ rot ((stN ks (W bs) hh r).getD 0 0) 13) ^^^ rot ((stN ks (W bs) hh r).getD 0 0) 22) + (((((stN ks (W bs) hh r).getD 0 0) &&& ((stN ks (W bs) hh r).getD 1 0)) ^^^ (((stN ks (W bs) hh r).getD 0 0) &&& ((stN ks (W bs) hh r).getD 2 0))) ^^^ (((stN ks (W bs) hh r).getD 1 0) &&& ((stN ks (W bs) hh r).getD 2 0)))))) ?_
        refine WL.q (Wn.no rfl) rfl rfl (R.move (v := (vu32 ((stN ks (W bs) hh r).getD 0 0))) rfl) ?_
        refine WL.q (Wn.no rfl) rfl rfl (R.move (v := (vu32 ((stN ks (W bs) hh r).getD 1 0))) rfl) ?_
        refine WL.q (Wn.no rfl) rfl rfl (R.move (v := (vu32 ((stN ks (W bs) hh r).getD 2 0))) rfl) ?_
        refine WL.q (Wn.no rfl) rfl rfl (R.move (v := (vu32 ((stN ks (W bs) hh r).getD 3 0))) rfl) ?_
        refine WL.q (Wn.no rfl) rfl rfl (R.move (v := (vu32 ((((((stN ks (W bs) hh r).getD 7 0) + ((rot ((stN ks (W bs) hh r).getD 4 0) 6 ^^^ rot ((stN ks (W bs) hh r).getD 4 0) 11) ^^^ rot ((stN ks (W bs) hh r).getD 4 0) 25)) + ((((stN ks (W bs) hh r).getD 4 0) &&& ((stN ks (W bs) hh r).getD 5 0)) ^^^ ((~~~((stN ks (W bs) hh r).getD 4 0)) &&& ((stN ks (W bs) hh r).getD 6 0)))) + (ks.getD r 0)) + ((W bs).getD r 0)))) rfl) ?_
        refine WL.q (Wn.no rfl) rfl rfl (R.bin (v := (vu32 (((stN ks (W bs) hh r).getD 3 0) + ((((((stN ks (W bs) hh r).getD 7 0) + ((rot ((stN ks (W bs) hh r).getD 4 0) 6 ^^^ rot ((stN ks (W bs) hh r).getD 4 0) 11) ^^^ rot ((stN ks (W bs) hh r).getD 4 0) 25)) + ((((stN ks (W bs) hh r).getD 4 0) &&& ((stN ks (W bs) hh r).getD 5 0)) ^^^ ((~~~((stN ks (W bs) hh r).getD 4 0)) &&& ((stN ks (W bs) hh r).getD 6 0)))) + (ks.getD r 0)) + ((W bs).getD r 0))))) rfl rfl (b32_add ((stN ks (W bs) hh r).getD 3 0) ((((((stN ks (W bs) hh r).getD 7 0) + ((rot ((stN ks (W bs) hh r).getD 4 0) 6 ^^^ rot ((stN ks (W bs) hh r).getD 4 0) 11) ^^^ rot ((stN ks (W bs) hh r).getD 4 0) 25)) + ((((stN ks (W bs) hh r).getD 4 0) &&& ((stN ks (W bs) hh r).getD 5 0)) ^^^ ((~~~((stN ks (W bs) hh r).getD 4 0)) &&& ((stN ks (W bs) hh r).getD 6 0)))) + (ks.getD r 0)) + ((W bs).getD r 0)))) ?_
        refine WL.q (Wn.no rfl) rfl rfl (R.move (v := (vu32 ((stN ks (W bs) hh r).getD 4 0))) rfl) ?_
        refine WL.q (Wn.no rfl) rfl rfl (R.move (v := (vu32 ((stN ks (W bs) hh r).getD 5 0))) rfl) ?_
        refine WL.q (Wn.no rfl) rfl rfl (R.move (v := (vu32 ((stN ks (W bs) hh r).getD 6 0))) rfl) ?_
        refine WL.q (Wn.no rfl) rfl rfl (R.assign (v := (vu32 (((((((stN ks (W bs) hh r).getD 7 0) + ((rot ((stN ks (W bs) hh r).getD 4 0) 6 ^^^ rot ((stN ks (W bs) hh r).getD 4 0) 11) ^^^ rot ((stN ks (W bs) hh r).getD 4 0) 25)) + ((((stN ks (W bs) hh r).getD 4 0) &&& ((stN ks (W bs) hh r).getD 5 0)) ^^^ ((~~~((stN ks (W bs) hh r).getD 4 0)) &&& ((stN ks (W bs) hh r).getD 6 0)))) + (ks.getD r 0)) + ((W bs).getD r 0)) + (((rot ((stN ks (W bs) hh r).getD 0 0) 2 ^^^ rot ((stN ks (W bs) hh r).getD 0 0) 13) ^^^ rot ((stN ks (W bs) hh r).getD 0 0) 22) + (((((stN ks (W bs) hh r).getD 0 0) &&& ((stN ks (W bs) hh r).getD 1 0)) ^^^ (((stN ks (W bs) hh r).getD 0 0) &&& ((stN ks (W bs) hh r).getD 2 0))) ^^^ (((stN ks (W bs) hh r).getD 1 0) &&& ((stN ks (W bs) hh r).getD 2 0))))))) rfl) ?_
        refine WL.q (Wn.no rfl) rfl rfl (R.assign (v := (vu32 ((stN ks (W bs) hh r).getD 0 0))) rfl) ?_
        refine WL.q (Wn.no rfl) rfl rfl (R.assign (v := (vu32 ((stN ks (W bs) hh r).getD 1 0))) rfl) ?_
        refine WL.q (Wn.no rfl) rfl rfl (R.assign (v := (vu32 ((stN ks (W bs) hh r).getD 2 0))) rfl) ?_
        refine WL.q (Wn.no rfl) rfl rfl (R.assign (v := (vu32 (((stN ks (W bs) hh r).getD 3 0) + ((((((stN ks (W bs) hh r).getD 7 0) + ((rot ((stN ks (W bs) hh r).getD 4 0) 6 ^^^ rot ((stN ks (W bs) hh r).getD 4 0) 11) ^^^ rot ((stN ks (W bs) hh r).getD 4 0) 25)) + ((((stN ks (W bs) hh r).getD 4 0) &&& ((stN ks (W bs) hh r).getD 5 0)) ^^^ ((~~~((stN ks (W bs) hh r).getD 4 0)) &&& ((stN ks (W bs) hh r).getD 6 0)))) + (ks.getD r 0)) + ((W bs).getD r 0))))) rfl) ?_
        refine WL.q (Wn.no rfl) rfl rfl (R.assign (v := (vu32 ((stN ks (W bs) hh r).getD 4 0))) rfl) ?_
        refine WL.q (Wn.no rfl) rfl rfl (R.assign (v := (vu32 ((stN ks (W bs) hh r).getD 5 0))) rfl) ?_
        refine WL.q (Wn.no rfl) rfl rfl (R.assign (v := (vu32 ((stN ks (W bs) hh r).getD 6 0))) rfl) ?_
        refine WL.nil ?_
        refine inb_n ?_
        refine thn_n ?_
        refine WP.reg ?_
        refine WL.q (Wn.no rfl) rfl rfl (R.bin (v := (vi ((r + 1 : Nat) : Int))) rfl rfl (bi_add (c := ((r + 1 : Nat) : Int)) (by omega) (by omega))) ?_
        refine WL.q (Wn.no rfl) rfl rfl (R.move (v := (vi ((r + 1 : Nat) : Int))) rfl) ?_
        refine WL.nil ?_
        refine thn_n ?_
        have h_132 := h_131.drop rfl
        have h_133 := h_132.drop rfl
        have h_134 := h_133.up (Pick.t (Pick.t (Pick.t (Pick.t Pick.h))))
        have h_135 := h_134.up (Pick.t (Pick.t (Pick.t (Pick.t Pick.h))))
        have h_136 := h_135.up (Pick.t (Pick.t (Pick.t (Pick.t Pick.h))))
        have h_137 := h_136.up (Pick.t (Pick.t (Pick.t (Pick.t Pick.h))))
        have h_138 := h_137.up (Pick.t (Pick.t (Pick.t (Pick.t Pick.h))))
        exact ⟨r + 1, _, (by omega), (Ag.upd rfl (Ag.upd rfl (Ag.upd rfl (Ag.upd rfl (Ag.upd rfl (Ag.upd rfl (Ag.upd rfl (Ag.upd rfl (Ag.upd rfl (Ag.upd rfl (Ag.upd rfl (Ag.upd rfl (Ag.upd rfl (Ag.upd rfl (Ag.upd rfl (Ag.upd rfl (Ag.upd rfl (Ag.upd rfl (Ag.upd rfl (Ag.upd rfl (Ag.upd rfl (Ag.upd rfl (Ag.upd rfl (Ag.upd rfl (Ag.upd rfl (Ag.upd rfl (Ag.upd rfl (Ag.upd rfl (Ag.upd rfl (Ag.upd rfl (Ag.upd rfl (Ag.upd rfl (Ag.upd rfl (Ag.upd rfl (Ag.upd rfl (Ag.upd rfl (Ag.upd rfl (Ag.upd rfl (Ag.upd rfl (Ag.upd rfl (Ag.upd rfl (Ag.upd rfl (Ag.upd rfl (Ag.upd rfl (Ag.upd rfl (Ag.upd rfl (Ag.upd rfl (Ag.upd rfl (Ag.upd rfl (Ag.upd rfl (Ag.upd rfl (Ag.upd rfl (Ag.upd rfl (Ag.upd rfl (Ag.upd rfl (Ag.upd rfl (Ag.upd rfl (Ag.upd rfl (Ag.upd rfl (Ag.upd rfl (Ag.upd rfl (Ag.upd rfl (Ag.upd rfl (Ag.upd rfl (Ag.upd rfl (Ag.upd rfl (Ag.updL rfl (Ag.mix _ _ _)))))))))))))))))))))))))))))))))))))))))))))))))))))))))))))))))))), ⟨congrArg (fun x : UInt32 => vu32 x) (st_0 ks (W bs) hh r).symm, congrArg (fun x : UInt32 => vu32 x) (st_1 ks (W bs) hh r).symm, congrArg (fun x : UInt32 => vu32 x) (st_2 ks (W bs) hh r).symm, congrArg (fun x : UInt32 => vu32 x) (st_3 ks (W bs) hh r).symm, congrArg (fun x : UInt32 => vu32 x) (st_4 ks (W bs) hh r).symm, congrArg (fun x : UInt32 => vu32 x) (st_5 ks (W bs) hh r).symm, congrArg (fun x : UInt32 => vu32 x) (st_6 ks (W bs) hh r).symm, congrArg (fun x : UInt32 => vu32 x) (st_7 ks (W bs) hh r).symm, rfl, trivial⟩, h_138, (by omega), rfl⟩
      · have p_139 := of_decide_eq_false c_115
        refine WP.exit ?_
        refine thn_x ?_
        refine thn_x ?_
        refine inb_hit ?_
        refine thn_n ?_
        refine WP.seq ?_
        refine WP.seq ?_
        refine WP.reg ?_
        refine WL.q (Wn.no rfl) rfl rfl (R.move (v := (vu32 ((stN ks (W bs) hh r).getD 0 0))) rfl) ?_
        refine WL.q (Wn.no rfl) rfl rfl (R.move (v := (vu32 ((stN ks (W bs) hh r).getD 1 0))) rfl) ?_
        refine WL.q (Wn.no rfl) rfl rfl (R.move (v := (vu32 ((stN ks (W bs) hh r).getD 2 0))) rfl) ?_
        refine WL.q (Wn.no rfl) rfl rfl (R.move (v := (vu32 ((stN ks (W bs) hh r).getD 3 0))) rfl) ?_
        refine WL.q (Wn.no rfl) rfl rfl (R.move (v := (vu32 ((stN ks (W bs) hh r).getD 4 0))) rfl) ?_
        refine WL.q (Wn.no rfl) rfl rfl (R.move (v := (vu32 ((stN ks (W bs) hh r).getD 5 0))) rfl) ?_
        refine WL.q (Wn.no rfl) rfl rfl (R.move (v := (vu32 ((stN ks (W bs) hh r).getD 6 0))) rfl) ?_
        refine WL.q (Wn.no rfl) rfl rfl (R.move (v := (vu32 ((stN ks (W bs) hh r).getD 7 0))) rfl) ?_
        refine WL.q (Wn.no rfl) rfl rfl (R.buildA (vs := [(0, (vu32 ((stN ks (W bs) hh r).getD 0 0))), (1, (vu32 ((stN ks (W bs) hh r).getD 1 0))), (2, (vu32 ((stN ks (W bs) hh r).getD 2 0))), (3, (vu32 ((stN ks (W bs) hh r).getD 3 0))), (4, (vu32 ((stN ks (W bs) hh r).getD 4 0))), (5, (vu32 ((stN ks (W bs) hh r).getD 5 0))), (6, (vu32 ((stN ks (W bs) hh r).getD 6 0))), (7, (vu32 ((stN ks (W bs) hh r).getD 7 0)))]) (cs := ([(stN ks (W bs) hh r).getD 0 0, (stN ks (W bs) hh r).getD 1 0, (stN ks (W bs) hh r).getD 2 0, (stN ks (W bs) hh r).getD 3 0, (stN ks (W bs) hh r).getD 4 0, (stN ks (W bs) hh r).getD 5 0, (stN ks (W bs) hh r).getD 6 0, (stN ks (W bs) hh r).getD 7 0] : List UInt32).map vu32) Try.underlying33 Try.sizeOf22 (zv Try.typeInfo33 rfl) rfl (fill8 rfl _ _ _ _ _ _ _ _)) ?_
        refine WL.q (Wn.no rfl) rfl rfl (R.move (v := (vi 0)) rfl) ?_
        refine WL.nil ?_
        refine thn_n ?_
        refine WP.block ?_
        have hr64 : r = 64 := by omega
        subst hr64
        refine WP.loopG (G := Nat) [26, 27, 167, 168, 169, 170, 171, 172, 173, 174, 175, 176, 177] (fun q => [(167, (vi ((q : Nat) : Int)))]) (fun q m w1 => HP w w1 [.blk b_10 .nw 53 [(64, (W bs).map vu32)], .blk b_7 .nw 33 [(8, (List.replicate 8 (0 : UInt32)).map vu32)], .blk b_4 .nw 53 [(64, ks.map vu32)], .blk b_1 .nw 33 [(8, (mix (pressL ks hh bs) hh q).map vu32)], .view a (bs.map vu8)] ∧ (q ≤ 8) ∧ m = 8 - q) ⟨0, _, ⟨rfl, trivial⟩, (by rw [mix_0]; exact h_112), (by omega), rfl⟩ ?_
        rintro q m_142 J_143 w_140 ⟨h_141, hq, rfl⟩
        refine WP.seq ?_
        refine WP.reg ?_
        refine WL.q (Wn.no rfl) rfl rfl (R.bin (v := (.bool (decide ((((q : Nat) : Int) : Int) < 8)))) rfl rfl (bi_lss (r := decide ((((q : Nat) : Int) : Int) < 8)) rfl)) ?_
        refine WL.nil ?_
        refine thn_n ?_
        refine WP.seq ?_
        refine WP.cond (b := decide ((((q : Nat) : Int) : Int) < 8)) rfl (fun c_144 => ?_) (fun c_144 => ?_)
        · have p_145 := of_decide_eq_true c_144
          refine WP.skip ?_
          refine thn_n ?_
          refine WP.seq ?_
          refine WP.block ?_
          refine WP.seq ?_
          refine WP.reg ?_
          refine WL.q (Wn.no rfl) rfl rfl (R.move (v := (vi ((q : Nat) : Int))) rfl) ?_
          refine WL.q (Wn.no rfl) rfl rfl (R.indexV (i := q) (cs := (stN ks (W bs) hh 64).map vu32) (v := (vu32 ((stN ks (W bs) hh 64).getD q 0))) (congrArg (fun l : List UInt32 => Value.agg ⟨l.map vu32⟩) (eight32 (stN_len (K := ks) (V := W bs) hhl 64))) rfl rfl (by omega) Try.underlying33 Try.isAgg22 Try.sizeOf22 (get_u32 (lt_len (K := 8) (stN_len hhl 64) (by omega)))) ?_
          refine WL.q (Wn.no rfl) rfl rfl (R.assign (v := (vi ((q : Nat) : Int))) rfl) ?_
          refine WL.q (Wn.no rfl) rfl rfl (R.assign (v := (vu32 ((stN ks (W bs) hh 64).getD q 0))) rfl) ?_
          refine WL.nil ?_
          refine thn_n ?_
          refine WP.reg ?_
          refine WL.q (Wn.no rfl) rfl rfl (R.move (v := (vi ((q : Nat) : Int))) rfl) ?_
          refine WL.q (Wn.no rfl) rfl rfl (R.indexA (b := b_1) (off := 0) (off' := (0 + q)) (i := q) rfl rfl rfl (by omega) Try.underlying33 Try.sizeOf22 (by rw [Nat.mul_one])) ?_
          refine WL.q (Wn.no rfl) rfl rfl (R.loadE (b := b_1) (off := (0 + q)) (i := q) (v := (vu32 ((mix (pressL ks hh bs) hh q).getD q 0))) rfl Try.isAgg22 (h_141.ok _ (.tail _ (.tail _ (.tail _ (.head _))))) Sg.h rfl (get_u32 (lt_len (K := 8) (mix_len (pressL_len ..) hhl) (by omega)))) ?_
          refine WL.q (Wn.no rfl) rfl rfl (R.move (v := (vu32 ((stN ks (W bs) hh 64).getD q 0))) rfl) ?_
          refine WL.q (Wn.no rfl) rfl rfl (R.bin (v := (vu32 (((mix (pressL ks hh bs) hh q).getD q 0) + ((stN ks (W bs) hh 64).getD q 0)))) rfl rfl (b32_add ((mix (pressL ks hh bs) hh q).getD q 0) ((stN ks (W bs) hh 64).getD q 0))) ?_
          refine WL.q (Wn.no rfl) rfl rfl (R.indexA (b := b_1) (off := 0) (off' := (0 + q)) (i := q) rfl rfl rfl (by omega) Try.underlying33 Try.sizeOf22 (by rw [Nat.mul_one])) ?_
          refine WL.storeE (b := b_1) (off := (0 + q)) (i := q) (v := (vu32 (((mix (pressL ks hh bs) hh q).getD q 0) + ((stN ks (W bs) hh 64).getD q 0)))) (cs' := ((mix (pressL ks hh bs) hh q).set q (((mix (pressL ks hh bs) hh q).getD q 0) + ((stN ks (W bs) hh 64).getD q 0))).map vu32) h_141 rfl rfl Try.sizeOf22 rfl (At.t (At.t (At.t At.h))) (by decide) Sg.h rfl (lt_len (K := 8) (len_map (mix_len (pressL_len ..) hhl)) (by omega)) (set_u32 _ _ _) (fun w_146 h_147 => ?_)
          refine WL.nil ?_
          refine inb_n ?_
          refine thn_n ?_
          refine WP.reg ?_
          refine WL.q (Wn.no rfl) rfl rfl (R.bin (v := (vi ((q + 1 : Nat) : Int))) rfl rfl (bi_add (c := ((q + 1 : Nat) : Int)) (by omega) (by omega))) ?_
          refine WL.q (Wn.no rfl) rfl rfl (R.move (v := (vi ((q + 1 : Nat) : Int))) rfl) ?_
          refine WL.nil ?_
          refine thn_n ?_
          have h_148 := h_147.up (Pick.t (Pick.t (Pick.t (Pick.t Pick.h))))
          have h_149 := h_148.up (Pick.t (Pick.t (Pick.t (Pick.t Pick.h))))
          have h_150 := h_149.up (Pick.t (Pick.t (Pick.t (Pick.t Pick.h))))
          have h_151 := h_150.up (Pick.t (Pick.t (Pick.t (Pick.t Pick.h))))
          have h_152 := h_151.up (Pick.t (Pick.t (Pick.t (Pick.t Pick.h))))
          rw [pr_step hhl (by omega)] at h_152
          exact ⟨q + 1, _, (by omega), (Ag.upd rfl (Ag.upd rfl (Ag.upd rfl (Ag.upd rfl (Ag.upd rfl (Ag.upd rfl (Ag.upd rfl (Ag.upd rfl (Ag.upd rfl (Ag.upd rfl (Ag.upd rfl (Ag.upd rfl (Ag.upd rfl (Ag.updL rfl (Ag.mix _ _ _))))))))))))))), ⟨rfl, trivial⟩, h_152, (by omega), rfl⟩
        · have p_153 := of_decide_eq_false c_144
          refine WP.exit ?_
          refine thn_x ?_
          refine thn_x ?_
          refine inb_hit ?_
          refine thn_n ?_
          refine WP.seq ?_
          refine WP.reg ?_
          refine WL.q (Wn.no rfl) rfl rfl (R.loadA (b := b_1) (off := 0) [] [(8, (mix (pressL ks hh bs) hh q).map vu32)] [] (cs := (mix (pressL ks hh bs) hh q).map vu32) rfl Try.isAgg33 Try.sizeOf33 (h_141.ok _ (.tail _ (.tail _ (.tail _ (.head _))))) rfl rfl rfl rfl) ?_
          refine WL.storeA (b := b_7) (off := 0) [] [(8, (List.replicate 8 (0 : UInt32)).map vu32)] [(8, (mix (pressL ks hh bs) hh q).map vu32)] [] (ys := (mix (pressL ks hh bs) hh q).map vu32) h_141 rfl rfl Try.sizeOf33 (At.t At.h) (by decide) rfl rfl rfl rfl rfl rfl (SsOk.cons (SOk.u32 (mix_len (pressL_len ..) hhl)) SsOk.nil) (fun w_154 h_155 => ?_)
          refine WL.nil ?_
          refine thn_n ?_
          refine WP.ret ?_
          refine ret_of Try.results56 (RV.cell rfl (h_155.loadA (cs := (mix (pressL ks hh bs) hh q).map vu32) Try.isAgg33 Try.sizeOf33 (.tail _ (.head _)) rfl rfl) RV.nil) ?_
          have hq8 : q = 8 := by omega
          subst hq8
          exact ⟨by rw [pr_all hhl]; rfl, h_155.chgS⟩

theorem c_Press (hh : List UInt32) (bs : List UInt8) (hhl : hh.length = 8) (hl : bs.length = 64) (w : World) :
    Cs Try.prog 24 [(.agg ⟨hh.map vu32⟩), (.agg ⟨bs.map vu8⟩)].toArray w (fun v w1 => v = (.agg ⟨(pressL kL hh bs).map vu32⟩) ∧ Chg w w1 []) := by
  refine Cs.of (n := 15) (args := [(.agg ⟨hh.map vu32⟩), (.agg ⟨bs.map vu8⟩)]) Try.func24 rfl rfl rfl ?_
  have h_0 := HP.init w
  refine WP.seq ?_
  refine WP.reg ?_
  refine WL.box (v := (.agg ⟨hh.map vu32⟩)) (segs := [(8, hh.map vu32)]) h_0 rfl rfl (SsOk.cons (SOk.u32 hhl) SsOk.nil) rfl (fun b_1 w_2 h_3 => ?_)
  refine WL.box (v := (.agg ⟨bs.map vu8⟩)) (segs := [(64, bs.map vu8)]) h_3 rfl rfl (SsOk.cons (SOk.u8 hl) SsOk.nil) rfl (fun b_4 w_5 h_6 => ?_)
  refine WL.alloc (segs := [(8, (List.replicate 8 (0 : UInt32)).map vu32)]) h_6 (zv Try.typeInfo33 rfl) rfl (SsOk.cons (SOk.u32 (List.length_replicate ..)) SsOk.nil) rfl (fun b_7 w_8 h_9 => ?_)
  refine WL.nil ?_
  refine thn_n ?_
  refine WP.seq ?_
  refine WP.reg ?_
  refine WL.call (al := []) Try.call55 rfl rfl (c_tables  _ ) rfl ?_
  rintro _ w_11 ⟨rfl, hc_10⟩
  have h_12 := h_9.same hc_10
  refine WL.q (Wn.no rfl) rfl rfl (R.move (v := (.tuple [(.agg ⟨kL.map vu32⟩), (.agg ⟨hL.map vu32⟩)].toArray)) rfl) ?_
  refine WL.q (Wn.no rfl) rfl rfl (R.extract (l := [(.agg ⟨kL.map vu32⟩), (.agg ⟨hL.map vu32⟩)]) (v := (.agg ⟨kL.map vu32⟩)) rfl rfl) ?_
  refine WL.q (Wn.no rfl) rfl rfl (R.extract (l := [(.agg ⟨kL.map vu32⟩), (.agg ⟨hL.map vu32⟩)]) (v := (.agg ⟨hL.map vu32⟩)) rfl rfl) ?_
  refine WL.alloc (segs := [(64, (List.replicate 64 (0 : UInt32)).map vu32)]) h_12 (zv Try.typeInfo53 rfl) rfl (SsOk.cons (SOk.u32 (List.length_replicate ..)) SsOk.nil) rfl (fun b_13 w_14 h_15 => ?_)
  refine WL.alloc (segs := [(8, (List.replicate 8 (0 : UInt32)).map vu32)]) h_15 (zv Try.typeInfo33 rfl) rfl (SsOk.cons (SOk.u32 (List.length_replicate ..)) SsOk.nil) rfl (fun b_16 w_17 h_18 => ?_)
  refine WL.storeA (b := b_13) (off := 0) [] [(64, (List.replicate 64 (0 : UInt32)).map vu32)] [(64, kL.map vu32)] [] (ys := kL.map vu32) h_18 rfl rfl Try.sizeOf53 (At.t At.h) (by decide) rfl rfl rfl rfl rfl rfl (SsOk.cons (SOk.u32 kL_len) SsOk.nil) (fun w_19 h_20 => ?_)
  refine WL.storeA (b := b_16) (off := 0) [] [(8, (List.replicate 8 (0 : UInt32)).map vu32)] [(8, hL.map vu32)] [] (ys := hL.map vu32) h_20 rfl rfl Try.sizeOf33 At.h (by decide) rfl rfl rfl rfl rfl rfl (SsOk.cons (SOk.u32 hL_len) SsOk.nil) (fun w_21 h_22 => ?_)
  refine WL.nil ?_
  refine thn_n ?_
  refine WP.seq ?_
  refine WP.drawZ 4 (SL w.heap.size [.blk b_16 .nw 33 [(8, hL.map vu32)], .blk b_13 .nw 53 [(64, kL.map vu32)], .blk b_7 .nw 33 [(8, (List.replicate 8 (0 : UInt32)).map vu32)], .blk b_4 .nw 34 [(64, bs.map vu8)], .blk b_1 .nw 33 [(8, hh.map vu32)]]) (.q 0 (.q 1 (.q 2 (.s 3 (.s 4 .nil))))) (by kernel_rfl) (by kernel_rfl) rfl (by kernel_rfl) (fun w_23 hc_25 => (SL.cons ((h_22.same hc_25).ok _ (.head _)) (SL.cons ((h_22.same hc_25).ok _ (.tail _ (.head _))) (SL.cons ((h_22.same hc_25).ok _ (.tail _ (.tail _ (.head _)))) (SL.cons ((h_22.same hc_25).ok _ (.tail _ (.tail _ (.tail _ (.head _))))) (SL.cons ((h_22.same hc_25).ok _ (.tail _ (.tail _ (.tail _ (.tail _ (.head _)))))) (SL.nil _ _))))))) (fun w_23 hc_25 => ?_)
  have h_24 := h_22.same hc_25
  refine ZT.q rfl (Wn.no rfl) rfl rfl (fun wq hS => R.loadA (b := b_1) (off := 0) [] [(8, hh.map vu32)] [] (cs := hh.map vu32) rfl Try.isAgg33 Try.sizeOf33 (hS _ (.tail _ (.tail _ (.tail _ (.tail _ (.head _)))))) rfl rfl rfl rfl) ?_
  refine ZT.q rfl (Wn.no rfl) rfl rfl (fun wq hS => R.sliceA (b := b_4) (off := 0) (off' := 0) (l := 0) (h := 64) rfl EvB.dflt EvB.dflt (by decide) (by decide) Try.underlying34 Try.sizeOf5 rfl) ?_
  refine ZT.q rfl (Wn.no rfl) rfl rfl (fun wq hS => R.loadA (b := b_13) (off := 0) [] [(64, kL.map vu32)] [] (cs := kL.map vu32) rfl Try.isAgg53 Try.sizeOf53 (hS _ (.tail _ (.head _))) rfl rfl rfl rfl) ?_
  refine ZT.s ?_
  refine OpZ.one rfl (Wn.no rfl) ?_
  refine WL.call (al := [(.agg ⟨hh.map vu32⟩), (.slice (some ⟨b_4, 0, none⟩) 64 64), (.agg ⟨kL.map vu32⟩)]) Try.call56 rfl rfl (c_press hh kL hhl kL_len (some ⟨b_4, 0, none⟩) 64 bs hl (by decide) _ (viewB (h_24.ok _ (.tail _ (.tail _ (.tail _ (.head _))))) Sg.h)) rfl ?_
  rintro _ w_27 ⟨rfl, hc_26⟩
  have h_28 := h_24.same hc_26
  refine WL.nil ?_
  refine ⟨(SL.cons (h_28.ok _ (.head _)) (SL.cons (h_28.ok _ (.tail _ (.head _))) (SL.cons (h_28.ok _ (.tail _ (.tail _ (.head _)))) (SL.cons (h_28.ok _ (.tail _ (.tail _ (.tail _ (.head _))))) (SL.cons (h_28.ok _ (.tail _ (.tail _ (.tail _ (.tail _ (.head _)))))) (SL.nil _ _)))))), ?_⟩
  refine ZT.s ?_
  refine OpZ.last rfl (Wn.no rfl) ?_
  refine WL.storeA (b := b_7) (off := 0) [] [(8, (List.replicate 8 (0 : UInt32)).map vu32)] [(8, (pressL kL hh bs).map vu32)] [] (ys := (pressL kL hh bs).map vu32) h_28 rfl rfl Try.sizeOf33 (At.t (At.t At.h)) (by decide) rfl rfl rfl rfl rfl rfl (SsOk.cons (SOk.u32 (pressL_len ..)) SsOk.nil) (fun w_29 h_30 => ?_)
  refine WL.nil ?_
  refine ZT.nil ?_
  refine thn_n ?_
  refine WP.ret ?_
  refine ret_of Try.results24 (RV.cell rfl (h_30.loadA (cs := (pressL kL hh bs).map vu32) Try.isAgg33 Try.sizeOf33 (.tail _ (.tail _ (.head _))) rfl rfl) RV.nil) ?_
  exact ⟨rfl, h_30.chgS⟩
end Go.Proofs.Ytelkjcigdhgcoaa
