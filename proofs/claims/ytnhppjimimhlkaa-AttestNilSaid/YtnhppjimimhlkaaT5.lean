/- Lists of bytes: contracts. Conditions: those that each theorem states. -/
import Derived.Test.YtnhppjimimhlkaaT4
namespace Go.Proofs.Ytnhppjimimhlkaa
open Go.Vc Go.RowKit
set_option linter.unusedVariables false
set_option linter.unusedSimpArgs false
set_option maxRecDepth 20000
theorem el36 : ElT Try.prog 36 37 1 24 := ElT.mk' Try.underlying36 (i := Try.t37) rfl rfl rfl rfl rfl rfl
theorem c_Cut_k2 (a : Option Addr) (cap : Nat) (a2 : Option Addr) (cap2 : Nat) (w : World) (hv : View w a (([1] : List UInt8).map vu8)) (hv2 : View w a2 (([2] : List Int).map vi64)) :
    Cs Try.prog 84 [(.slice a 1 cap), (.slice a2 1 cap2)].toArray w (fun v w1 => v = (.tuple [(.slice none 0 0), (vi 4)].toArray) ∧ Chg w w1 []) := by
  refine Cs.of (n := 39) (args := [(.slice a 1 cap), (.slice a2 1 cap2)]) Try.func84 rfl rfl rfl ?_
  have h_0 := HP.init w
  have h_01 := h_0.oldV (View.arg hv) rfl (by simp [Ent.mut])
  have h_00 := h_01.oldV (View.arg hv2) rfl (by simp [Ent.mut])
  refine WP.seq ?_
  refine WP.reg ?_
  refine WL.q (Wn.no rfl) rfl rfl (R.assign (v := (.slice none 0 0)) rfl) ?_
  refine WL.q (Wn.no rfl) rfl rfl (R.assign (v := (vi 0)) rfl) ?_
  refine WL.nil ?_
  refine thn_n ?_
  refine WP.seq ?_
  refine WP.seq ?_
  refine WP.reg ?_
  refine WL.q (Wn.no rfl) rfl rfl (R.move (v := (.slice a2 1 cap2)) rfl) ?_
  refine WL.call (al := [(.slice a2 1 cap2), (Value.func (Fn.func 103) [].toArray [].toArray)]) Try.call102 rfl rfl (c_CfZ_t a2 1 cap2 ([2] : List Int) (rfl : List.length ([2] : List Int) = 1) (by omega) (by decide +kernel) _ (viewV (h_00.ok _ (.head _)))) rfl ?_
  rintro _ w_2 ⟨rfl, hc_1⟩
  have h_3 := h_00.same hc_1
  refine WL.nil ?_
  refine thn_n ?_
  refine WP.condF rfl ?_
  refine WP.skip ?_
  refine thn_n ?_
  refine WP.seq ?_
  refine WP.reg ?_
  refine WL.q (Wn.no rfl) rfl rfl (R.assign (v := (.slice none 0 0)) rfl) ?_
  refine WL.nil ?_
  refine thn_n ?_
  refine WP.seq ?_
  refine WP.reg ?_
  refine WL.q (Wn.no rfl) rfl rfl (R.move (v := (.slice a 1 cap)) rfl) ?_
  refine WL.call (al := [(.slice a 1 cap)]) Try.call58 rfl rfl (c_Clone a 1 cap ([1] : List UInt8) (rfl : List.length ([1] : List UInt8) = 1) (by omega) _ (viewV (h_3.ok _ (.tail _ (.head _))))) rfl ?_
  rintro _ w_6 ⟨a_4, cap_5, rfl, hc_7, ho_8⟩
  have h_9 := h_3.gotRow hc_7 ho_8
  have hq_10 := ho_8.2.2.1
  refine WL.q (Wn.no rfl) rfl rfl (R.assign (v := (.slice a_4 1 cap_5)) rfl) ?_
  refine WL.nil ?_
  refine thn_n ?_
  refine WP.seq ?_
  refine WP.seq ?_
  refine WP.reg ?_
  refine WL.q (Wn.no rfl) rfl rfl (R.move (v := (.slice a2 1 cap2)) rfl) ?_
  refine WL.q (Wn.no rfl) rfl rfl (R.lenS (a := a2) (m := 1) rfl rfl Try.underlying70) ?_
  refine WL.q (Wn.no rfl) rfl rfl (R.move (v := (vi 0)) rfl) ?_
  refine WL.nil ?_
  refine thn_n ?_
  refine WP.block ?_
  refine WP.loopU (WI.round ?_)
  refine WP.seq ?_
  refine WP.reg ?_
  refine WL.q (Wn.no rfl) rfl rfl (R.bin (v := (.bool true)) rfl rfl (bi_lss (r := true) (by decide))) ?_
  refine WL.nil ?_
  refine thn_n ?_
  refine WP.seq ?_
  refine WP.condT rfl ?_
  refine WP.skip ?_
  refine thn_n ?_
  refine WP.seq ?_
  refine WP.block ?_
  refine WP.seq ?_
  refine WP.reg ?_
  refine WL.q (Wn.no rfl) rfl rfl (R.indexS (a := a2) (i := 0) (off := 0) (xs := ([2] : List Int).map vi64) rfl rfl rfl (by decide) (viewV (h_9.ok _ (.tail _ (.head _)))) (lt_len (K := 1) (len_map (rfl : List.length ([2] : List Int) = 1)) (by omega)) Try.underlying70 Try.sizeOf3 (Nat.mul_one _).symm) ?_
  refine WL.q (Wn.no rfl) rfl rfl (R.loadG (a := a2) (i := 0) (xs := ([2] : List Int).map vi64) (v := (vi 2)) rfl (viewV (h_9.ok _ (.tail _ (.head _)))) Try.isAgg3 rfl) ?_
  refine WL.q (Wn.no rfl) rfl rfl (R.assign (v := (vi 2)) rfl) ?_
  refine WL.nil ?_
  refine thn_n ?_
  refine WP.seq ?_
  refine WP.seq ?_
  refine WP.reg ?_
  refine WL.q (Wn.no rfl) rfl rfl (R.move (v := (vi 2)) rfl) ?_
  refine WL.q (Wn.no rfl) rfl rfl (R.move (v := (.slice a_4 1 cap_5)) rfl) ?_
  refine WL.q (Wn.no rfl) rfl rfl (R.lenS (a := a_4) (m := 1) rfl rfl Try.underlying37) ?_
  refine WL.q (Wn.no rfl) rfl rfl (R.bin (v := (.bool true)) rfl rfl (bi_gtr (r := true) (by decide))) ?_
  refine WL.nil ?_
  refine thn_n ?_
  refine WP.condT rfl ?_
  refine WP.seq ?_
  refine WP.reg ?_
  refine WL.q (Wn.no rfl) rfl rfl (R.assign (v := (.slice none 0 0)) rfl) ?_
  refine WL.q (Wn.no rfl) rfl rfl (R.assign (v := (vi 4)) rfl) ?_
  refine WL.nil ?_
  refine thn_n ?_
  refine WP.ret ?_
  refine thn_r ?_
  refine inb_r ?_
  refine thn_r ?_
  refine thn_r ?_
  refine inb_r ?_
  refine thn_r ?_
  refine ret_of Try.results84 (RV.tmp (v := (.slice none 0 0)) rfl (RV.tmp (v := (vi 4)) rfl RV.nil)) ?_
  exact ⟨rfl, h_9.chgS⟩

theorem c_Cut_k1 (a : Option Addr) (cap : Nat) (a2 : Option Addr) (cap2 : Nat) (w : World) (hv : View w a (([1, 2, 3] : List UInt8).map vu8)) (hv2 : View w a2 (([2, 1] : List Int).map vi64)) :
    Cs Try.prog 84 [(.slice a 3 cap), (.slice a2 2 cap2)].toArray w (fun v w1 => ∃ a cap xs, v = .tuple [.slice a 2 cap, vi 0].toArray ∧ Chg w w1 [] ∧ View w1 a xs ∧ Sls w1 xs [([1, 2] : List UInt8), [3]] ∧ ∀ b ∈ (Ent.view a xs).blocks ++ sblks xs, w.heap.size ≤ b) := by
  refine Cs.of (n := 39) (args := [(.slice a 3 cap), (.slice a2 2 cap2)]) Try.func84 rfl rfl rfl ?_
  have h_0 := HP.init w
  have h_01 := h_0.oldV (View.arg hv) rfl (by simp [Ent.mut])
  have h_00 := h_01.oldV (View.arg hv2) rfl (by simp [Ent.mut])
  refine WP.seq ?_
  refine WP.reg ?_
  refine WL.q (Wn.no rfl) rfl rfl (R.assign (v := (.slice none 0 0)) rfl) ?_
  refine WL.q (Wn.no rfl) rfl rfl (R.assign (v := (vi 0)) rfl) ?_
  refine WL.nil ?_
  refine thn_n ?_
  refine WP.seq ?_
  refine WP.seq ?_
  refine WP.reg ?_
  refine WL.q (Wn.no rfl) rfl rfl (R.move (v := (.slice a2 2 cap2)) rfl) ?_
  refine WL.call (al := [(.slice a2 2 cap2), (Value.func (Fn.func 103) [].toArray [].toArray)]) Try.call102 rfl rfl (c_CfZ_t a2 2 cap2 ([2, 1] : List Int) (rfl : List.length ([2, 1] : List Int) = 2) (by omega) (by decide +kernel) _ (viewV (h_00.ok _ (.head _)))) rfl ?_
  rintro _ w_2 ⟨rfl, hc_1⟩
  have h_3 := h_00.same hc_1
  refine WL.nil ?_
  refine thn_n ?_
  refine WP.condF rfl ?_
  refine WP.skip ?_
  refine thn_n ?_
  refine WP.seq ?_
  refine WP.reg ?_
  refine WL.q (Wn.no rfl) rfl rfl (R.assign (v := (.slice none 0 0)) rfl) ?_
  refine WL.nil ?_
  refine thn_n ?_
  refine WP.seq ?_
  refine WP.reg ?_
  refine WL.q (Wn.no rfl) rfl rfl (R.move (v := (.slice a 3 cap)) rfl) ?_
  refine WL.call (al := [(.slice a 3 cap)]) Try.call58 rfl rfl (c_Clone a 3 cap ([1, 2, 3] : List UInt8) (rfl : List.length ([1, 2, 3] : List UInt8) = 3) (by omega) _ (viewV (h_3.ok _ (.tail _ (.head _))))) rfl ?_
  rintro _ w_6 ⟨a_4, cap_5, rfl, hc_7, ho_8⟩
  have h_9 := h_3.gotRow hc_7 ho_8
  have hq_10 := ho_8.2.2.1
  refine WL.q (Wn.no rfl) rfl rfl (R.assign (v := (.slice a_4 3 cap_5)) rfl) ?_
  refine WL.nil ?_
  refine thn_n ?_
  refine WP.seq ?_
  refine WP.seq ?_
  refine WP.reg ?_
  refine WL.q (Wn.no rfl) rfl rfl (R.move (v := (.slice a2 2 cap2)) rfl) ?_
  refine WL.q (Wn.no rfl) rfl rfl (R.lenS (a := a2) (m := 2) rfl rfl Try.underlying70) ?_
  refine WL.q (Wn.no rfl) rfl rfl (R.move (v := (vi 0)) rfl) ?_
  refine WL.nil ?_
  refine thn_n ?_
  refine WP.block ?_
  refine WP.loopU (WI.round ?_)
  refine WP.seq ?_
  refine WP.reg ?_
  refine WL.q (Wn.no rfl) rfl rfl (R.bin (v := (.bool true)) rfl rfl (bi_lss (r := true) (by decide))) ?_
  refine WL.nil ?_
  refine thn_n ?_
  refine WP.seq ?_
  refine WP.condT rfl ?_
  refine WP.skip ?_
  refine thn_n ?_
  refine WP.seq ?_
  refine WP.block ?_
  refine WP.seq ?_
  refine WP.reg ?_
  refine WL.q (Wn.no rfl) rfl rfl (R.indexS (a := a2) (i := 0) (off := 0) (xs := ([2, 1] : List Int).map vi64) rfl rfl rfl (by decide) (viewV (h_9.ok _ (.tail _ (.head _)))) (lt_len (K := 2) (len_map (rfl : List.length ([2, 1] : List Int) = 2)) (by omega)) Try.underlying70 Try.sizeOf3 (Nat.mul_one _).symm) ?_
  refine WL.q (Wn.no rfl) rfl rfl (R.loadG (a := a2) (i := 0) (xs := ([2, 1] : List Int).map vi64) (v := (vi 2)) rfl (viewV (h_9.ok _ (.tail _ (.head _)))) Try.isAgg3 rfl) ?_
  refine WL.q (Wn.no rfl) rfl rfl (R.assign (v := (vi 2)) rfl) ?_
  refine WL.nil ?_
  refine thn_n ?_
  refine WP.seq ?_
  refine WP.seq ?_
  refine WP.reg ?_
  refine WL.q (Wn.no rfl) rfl rfl (R.move (v := (vi 2)) rfl) ?_
  refine WL.q (Wn.no rfl) rfl rfl (R.move (v := (.slice a_4 3 cap_5)) rfl) ?_
  refine WL.q (Wn.no rfl) rfl rfl (R.lenS (a := a_4) (m := 3) rfl rfl Try.underlying37) ?_
  refine WL.q (Wn.no rfl) rfl rfl (R.bin (v := (.bool false)) rfl rfl (bi_gtr (r := false) (by decide))) ?_
  refine WL.nil ?_
  refine thn_n ?_
  refine WP.condF rfl ?_
  refine WP.skip ?_
  refine thn_n ?_
  refine WP.drawT (SL w.heap.size [.row a_4 3 cap_5 5 1 (([1, 2, 3] : List UInt8).map vu8), .view a2 (([2, 1] : List Int).map vi64), .view a (([1, 2, 3] : List UInt8).map vu8)]) (.q 0 (.q 1 (.q 2 (.q 3 (.q 4 (.q 7 (.q 8 (.q 9 (.s 5 (.s 6 (.q 10 (.q 11 .nil)))))))))))) (by kernel_rfl) (by kernel_rfl) rfl (by kernel_rfl) (fun w_11 hc_13 => (SL.cons ((h_9.same hc_13).ok _ (.head _)) (SL.cons ((h_9.same hc_13).ok _ (.tail _ (.head _))) (SL.cons ((h_9.same hc_13).ok _ (.tail _ (.tail _ (.head _)))) (SL.nil _ _))))) (fun w_11 hc_13 => ?_)
  have h_12 := h_9.same hc_13
  refine WT.q rfl (Wn.no rfl) rfl rfl (fun wq hS => R.move (v := (.slice none 0 0)) rfl) ?_
  refine WT.q rfl (Wn.no rfl) rfl rfl (fun wq hS => R.move (v := (.slice a_4 3 cap_5)) rfl) ?_
  refine WT.q rfl (Wn.no rfl) rfl rfl (fun wq hS => R.move (v := (vi 2)) rfl) ?_
  refine WT.q rfl (Wn.no rfl) rfl rfl (fun wq hS => R.move (v := (vi 2)) rfl) ?_
  refine WT.q rfl (Wn.no rfl) rfl rfl (fun wq hS => R.sliceS3 (a := a_4) (len := 3) (l := 0) (h := 2) (m := 2) rfl EvB.dflt rfl rfl rfl rfl (by decide) (by decide) (by omega) Try.underlying37 Try.sizeOf5) ?_
  refine WT.q rfl (Wn.no rfl) rfl rfl (fun wq hS => R.move (v := (.slice a_4 3 cap_5)) rfl) ?_
  refine WT.q rfl (Wn.no rfl) rfl rfl (fun wq hS => R.move (v := (vi 2)) rfl) ?_
  refine WT.q rfl (Wn.no rfl) rfl rfl (fun wq hS => R.sliceS (a := a_4) (len := 3) (l := 2) (h := 3) rfl (EvB.it (l := 2) rfl rfl) EvB.dflt (by decide) (by omega) Try.underlying37 Try.sizeOf5) ?_
  refine WT.s ?_
  refine Op1.one rfl (Wn.no rfl) ?_
  refine WL.buildSl (vs := [(0, (.slice (slA a_4 0 2 1) 2 2))]) (cs := [(.slice (slA a_4 0 2 1) 2 2)]) h_12 Try.underlying36 Try.sizeOf37 (zv Try.typeInfo37 rfl) rfl rfl (by kernel_rfl) rfl (by simp [Value.oneCell']) rfl rfl (fun b_14 w_15 h_16 => ?_)
  refine WL.nil ?_
  refine ⟨(SL.cons (h_16.ok _ (.tail _ (.head _))) (SL.cons (h_16.ok _ (.tail _ (.tail _ (.head _)))) (SL.cons (h_16.ok _ (.tail _ (.tail _ (.tail _ (.head _))))) (SL.nil _ _)))), ?_⟩
  refine WT.s ?_
  refine Op1.one rfl (Wn.no rfl) ?_
  have h_17 := h_16.rowNil 37 1
  refine WL.append (km := 1) (xs := []) (ys := [(.slice (slA a_4 0 2 1) 2 2)]) (zs := [(.slice (slA a_4 0 2 1) 2 2)]) h_17 rfl rfl el36 (viewB (h_17.ok _ (.tail _ (.head _))) Sg.h) rfl (by simp [Value.oneCell']) rfl rfl (by omega) (by omega) (fun _ _ => At.h) rfl (fun a_18 c_19 w_20 h_21 => ?_)
  refine WL.nil ?_
  refine ⟨(SL.cons (h_21.ok _ (.tail _ (.tail _ (.head _)))) (SL.cons (h_21.ok _ (.tail _ (.tail _ (.tail _ (.head _))))) (SL.cons (h_21.ok _ (.tail _ (.tail _ (.tail _ (.tail _ (.head _)))))) (SL.nil _ _)))), ?_⟩
  refine WT.q rfl (Wn.no rfl) rfl rfl (fun wq hS => R.assign (v := (.slice a_18 1 c_19)) rfl) ?_
  refine WT.q rfl (Wn.no rfl) rfl rfl (fun wq hS => R.assign (v := (.slice (slA a_4 2 cap_5 1) 1 (cap_5 - 2))) rfl) ?_
  refine WT.nil ?_
  refine inb_n ?_
  refine thn_n ?_
  refine WP.reg ?_
  refine WL.q (Wn.no rfl) rfl rfl (R.bin (v := (vi 1)) rfl rfl (bi_add (c := 1) (by omega) (by omega))) ?_
  refine WL.q (Wn.no rfl) rfl rfl (R.move (v := (vi 1)) rfl) ?_
  refine WL.nil ?_
  refine thn_n ?_
  refine WI.round ?_
  refine WP.seq ?_
  refine WP.reg ?_
  refine WL.q (Wn.no rfl) rfl rfl (R.bin (v := (.bool true)) rfl rfl (bi_lss (r := true) (by decide))) ?_
  refine WL.nil ?_
  refine thn_n ?_
  refine WP.seq ?_
  refine WP.condT rfl ?_
  refine WP.skip ?_
  refine thn_n ?_
  refine WP.seq ?_
  refine WP.block ?_
  refine WP.seq ?_
  refine WP.reg ?_
  refine WL.q (Wn.no rfl) rfl rfl (R.indexS (a := a2) (i := 1) (off := 1) (xs := ([2, 1] : List Int).map vi64) rfl rfl rfl (by decide) (viewV (h_21.ok _ (.tail _ (.tail _ (.tail _ (.head _)))))) (lt_len (K := 2) (len_map (rfl : List.length ([2, 1] : List Int) = 2)) (by omega)) Try.underlying70 Try.sizeOf3 (Nat.mul_one _).symm) ?_
  refine WL.q (Wn.no rfl) rfl rfl (R.loadG (a := a2) (i := 1) (xs := ([2, 1] : List Int).map vi64) (v := (vi 1)) rfl (viewV (h_21.ok _ (.tail _ (.tail _ (.tail _ (.head _)))))) Try.isAgg3 rfl) ?_
  refine WL.q (Wn.no rfl) rfl rfl (R.assign (v := (vi 1)) rfl) ?_
  refine WL.nil ?_
  refine thn_n ?_
  refine WP.seq ?_
  refine WP.seq ?_
  refine WP.reg ?_
  refine WL.q (Wn.no rfl) rfl rfl (R.move (v := (vi 1)) rfl) ?_
  refine WL.q (Wn.no rfl) rfl rfl (R.move (v := (.slice (slA a_4 2 cap_5 1) 1 (cap_5 - 2))) rfl) ?_
  refine WL.q (Wn.no rfl) rfl rfl (R.lenS (a := slA a_4 2 cap_5 1) (m := 1) rfl rfl Try.underlying37) ?_
  refine WL.q (Wn.no rfl) rfl rfl (R.bin (v := (.bool false)) rfl rfl (bi_gtr (r := false) (by decide))) ?_
  refine WL.nil ?_
  refine thn_n ?_
  refine WP.condF rfl ?_
  refine WP.skip ?_
  refine thn_n ?_
  refine WP.drawT (SL w.heap.size [.blk b_14 .nw 37 [(1, [(.slice (slA a_4 0 2 1) 2 2)])], .row a_4 3 cap_5 5 1 (([1, 2, 3] : List UInt8).map vu8), .view a2 (([2, 1] : List Int).map vi64), .view a (([1, 2, 3] : List UInt8).map vu8)]) (.q 0 (.q 1 (.q 2 (.q 3 (.q 4 (.q 7 (.q 8 (.q 9 (.s 5 (.s 6 (.q 10 (.q 11 .nil)))))))))))) (by kernel_rfl) (by kernel_rfl) rfl (by kernel_rfl) (fun w_22 hc_24 => (SL.cons ((h_21.same hc_24).ok _ (.tail _ (.head _))) (SL.cons ((h_21.same hc_24).ok _ (.tail _ (.tail _ (.head _)))) (SL.cons ((h_21.same hc_24).ok _ (.tail _ (.tail _ (.tail _ (.head _))))) (SL.cons ((h_21.same hc_24).ok _ (.tail _ (.tail _ (.tail _ (.tail _ (.head _)))))) (SL.nil _ _)))))) (fun w_22 hc_24 => ?_)
  have h_23 := h_21.same hc_24
  refine WT.q rfl (Wn.no rfl) rfl rfl (fun wq hS => R.move (v := (.slice a_18 1 c_19)) rfl) ?_
  refine WT.q rfl (Wn.no rfl) rfl rfl (fun wq hS => R.move (v := (.slice (slA a_4 2 cap_5 1) 1 (cap_5 - 2))) rfl) ?_
  refine WT.q rfl (Wn.no rfl) rfl rfl (fun wq hS => R.move (v := (vi 1)) rfl) ?_
  refine WT.q rfl (Wn.no rfl) rfl rfl (fun wq hS => R.move (v := (vi 1)) rfl) ?_
  refine WT.q rfl (Wn.no rfl) rfl rfl (fun wq hS => R.sliceS3 (a := slA a_4 2 cap_5 1) (len := 1) (l := 0) (h := 1) (m := 1) rfl EvB.dflt rfl rfl rfl rfl (by decide) (by decide) (by omega) Try.underlying37 Try.sizeOf5) ?_
  refine WT.q rfl (Wn.no rfl) rfl rfl (fun wq hS => R.move (v := (.slice (slA a_4 2 cap_5 1) 1 (cap_5 - 2))) rfl) ?_
  refine WT.q rfl (Wn.no rfl) rfl rfl (fun wq hS => R.move (v := (vi 1)) rfl) ?_
  refine WT.q rfl (Wn.no rfl) rfl rfl (fun wq hS => R.sliceS (a := slA a_4 2 cap_5 1) (len := 1) (l := 1) (h := 1) rfl (EvB.it (l := 1) rfl rfl) EvB.dflt (by decide) (by omega) Try.underlying37 Try.sizeOf5) ?_
  refine WT.s ?_
  refine Op1.one rfl (Wn.no rfl) ?_
  refine WL.buildSl (vs := [(0, (.slice (slA (slA a_4 2 cap_5 1) 0 1 1) 1 1))]) (cs := [(.slice (slA (slA a_4 2 cap_5 1) 0 1 1) 1 1)]) h_23 Try.underlying36 Try.sizeOf37 (zv Try.typeInfo37 rfl) rfl rfl (by kernel_rfl) rfl (by simp [Value.oneCell']) rfl rfl (fun b_25 w_26 h_27 => ?_)
  refine WL.nil ?_
  refine ⟨(SL.cons (h_27.ok _ (.tail _ (.tail _ (.head _)))) (SL.cons (h_27.ok _ (.tail _ (.tail _ (.tail _ (.head _))))) (SL.cons (h_27.ok _ (.tail _ (.tail _ (.tail _ (.tail _ (.head _)))))) (SL.cons (h_27.ok _ (.tail _ (.tail _ (.tail _ (.tail _ (.tail _ (.head _))))))) (SL.nil _ _))))), ?_⟩
  refine WT.s ?_
  refine Op1.one rfl (Wn.no rfl) ?_
  refine WL.append (km := 2) (xs := [(.slice (slA a_4 0 2 1) 2 2)]) (ys := [(.slice (slA (slA a_4 2 cap_5 1) 0 1 1) 1 1)]) (zs := [(.slice (slA a_4 0 2 1) 2 2), (.slice (slA (slA a_4 2 cap_5 1) 0 1 1) 1 1)]) h_27 rfl rfl el36 (viewB (h_27.ok _ (.head _)) Sg.h) rfl (by simp [Value.oneCell']) rfl rfl (by omega) (by omega) (fun _ _ => (At.t At.h)) rfl (fun a_28 c_29 w_30 h_31 => ?_)
  refine WL.nil ?_
  refine ⟨(SL.cons (h_31.ok _ (.tail _ (.tail _ (.head _)))) (SL.cons (h_31.ok _ (.tail _ (.tail _ (.tail _ (.head _))))) (SL.cons (h_31.ok _ (.tail _ (.tail _ (.tail _ (.tail _ (.head _)))))) (SL.cons (h_31.ok _ (.tail _ (.tail _ (.tail _ (.tail _ (.tail _ (.head _))))))) (SL.nil _ _))))), ?_⟩
  refine WT.q rfl (Wn.no rfl) rfl rfl (fun wq hS => R.assign (v := (.slice a_28 2 c_29)) rfl) ?_
  refine WT.q rfl (Wn.no rfl) rfl rfl (fun wq hS => R.assign (v := (.slice (slA (slA a_4 2 cap_5 1) 1 (cap_5 - 2) 1) 0 (cap_5 - 2 - 1))) rfl) ?_
  refine WT.nil ?_
  refine inb_n ?_
  refine thn_n ?_
  refine WP.reg ?_
  refine WL.q (Wn.no rfl) rfl rfl (R.bin (v := (vi 2)) rfl rfl (bi_add (c := 2) (by omega) (by omega))) ?_
  refine WL.q (Wn.no rfl) rfl rfl (R.move (v := (vi 2)) rfl) ?_
  refine WL.nil ?_
  refine thn_n ?_
  refine WI.round ?_
  refine WP.seq ?_
  refine WP.reg ?_
  refine WL.q (Wn.no rfl) rfl rfl (R.bin (v := (.bool false)) rfl rfl (bi_lss (r := false) (by decide))) ?_
  refine WL.nil ?_
  refine thn_n ?_
  refine WP.seq ?_
  refine WP.condF rfl ?_
  refine WP.exit ?_
  refine thn_x ?_
  refine thn_x ?_
  refine inb_hit ?_
  refine thn_n ?_
  refine WP.seq ?_
  refine WP.seq ?_
  refine WP.reg ?_
  refine WL.q (Wn.no rfl) rfl rfl (R.move (v := (.slice (slA (slA a_4 2 cap_5 1) 1 (cap_5 - 2) 1) 0 (cap_5 - 2 - 1))) rfl) ?_
  refine WL.q (Wn.no rfl) rfl rfl (R.lenS (a := slA (slA a_4 2 cap_5 1) 1 (cap_5 - 2) 1) (m := 0) rfl rfl Try.underlying37) ?_
  refine WL.q (Wn.no rfl) rfl rfl (R.bin (v := (.bool false)) rfl rfl (bi_gtr (r := false) (by decide))) ?_
  refine WL.nil ?_
  refine thn_n ?_
  refine WP.condF rfl ?_
  refine WP.skip ?_
  refine thn_n ?_
  refine WP.seq ?_
  refine WP.reg ?_
  refine WL.q (Wn.no rfl) rfl rfl (R.move (v := (.slice a_28 2 c_29)) rfl) ?_
  refine WL.q (Wn.no rfl) rfl rfl (R.assign (v := (.slice a_28 2 c_29)) rfl) ?_
  refine WL.q (Wn.no rfl) rfl rfl (R.assign (v := (vi 0)) rfl) ?_
  refine WL.nil ?_
  refine thn_n ?_
  refine WP.ret ?_
  refine ret_of Try.results84 (RV.tmp (v := (.slice a_28 2 c_29)) rfl (RV.tmp (v := (vi 0)) rfl RV.nil)) ?_
  refine ⟨_, _, _, rfl, h_31.chgS, (ownView (h_31.ok _ (.tail _ (.head _)))), (Sls.cons (subLen (K := 3) (rfl : List.length ([1, 2, 3] : List UInt8) = 3) (by omega) : List.length ((([1, 2, 3] : List UInt8).drop 0).take 2) = 2) (by decide) (View.slM (l := 0) (m := 2) (k := 2) (ownView (h_31.ok _ (.tail _ (.tail _ (.tail _ (.head _)))))) (by omega)) (Sls.cons (subLen (K := 1) (subLen (K := 3) (rfl : List.length ([1, 2, 3] : List UInt8) = 3) (by omega) : List.length ((([1, 2, 3] : List UInt8).drop 2).take 1) = 1) (by omega) : List.length ((((([1, 2, 3] : List UInt8).drop 2).take 1).drop 0).take 1) = 1) (by decide) (View.slM (l := 0) (m := 1) (k := 1) (View.slM (l := 2) (m := cap_5) (k := 1) (ownView (h_31.ok _ (.tail _ (.tail _ (.tail _ (.head _)))))) (by omega)) (by omega)) Sls.nil)), fun b hb => ?_⟩
  rcases List.mem_append.1 hb with hb | hb
  · exact Own.blk (h_31.own (.tail _ (.head _))) b hb
  · simp only [sblks, List.append_nil, List.mem_append] at hb
    rcases hb with hb | hb
    · exact Own.blk (h_31.own (.tail _ (.tail _ (.tail _ (.head _))))) b (sblk_sl (l := ([1, 2, 3] : List UInt8)) (fun _ => by simp) b hb)
    · exact Own.blk (h_31.own (.tail _ (.tail _ (.tail _ (.head _))))) b (view_sl_blocks (l := ([1, 2, 3] : List UInt8)) (l' := ([3] : List UInt8)) (fun _ => by simp) b (sblk_sl (l := ([3] : List UInt8)) (fun _ => by simp) b hb))

theorem c_JoinR (a : Option Addr) (n cap : Nat) (xs : List Value) (ls : List (List UInt8)) (hln : ls.length = n) (hb : ls.flatten.length ≤ 1099511627776) (hnb : n ≤ 1099511627776) (w : World) (hv : View w a xs) (hs : Sls w xs ls) :
    Cs Try.prog 87 [(.slice a n cap)].toArray w (fun v w1 => ∃ a cap, v = .slice a ls.flatten.length cap ∧ Chg w w1 [] ∧ Own w.heap.size w1 5 1 a ls.flatten.length cap ((ls.flatten).map vu8)) := by
  refine Cs.of (n := 18) (args := [(.slice a n cap)]) Try.func87 rfl rfl rfl ?_
  have h_0 := HP.init w
  have h_01 := h_0.old (View.arg hv) (fun f hf => by cases hf)
  have h_00 := h_01.old hs.pin (fun f hf => by rw [List.mem_singleton] at hf; subst hf; intro hm; simp [Ent.mut] at hm)
  have hxl : xs.length = n := hs.len.trans hln
  refine WP.seq ?_
  refine WP.reg ?_
  refine WL.q (Wn.no rfl) rfl rfl (R.assign (v := (.slice none 0 0)) rfl) ?_
  refine WL.nil ?_
  refine thn_n ?_
  refine WP.seq ?_
  refine WP.reg ?_
  refine WL.q (Wn.no rfl) rfl rfl (R.assign (v := (.slice none 0 0)) rfl) ?_
  refine WL.nil ?_
  refine thn_n ?_
  refine WP.seq ?_
  refine WP.seq ?_
  refine WP.reg ?_
  refine WL.q (Wn.no rfl) rfl rfl (R.assign (v := (vi 0)) rfl) ?_
  refine WL.nil ?_
  refine thn_n ?_
  refine WP.block ?_
  have h_1 := h_00.rowNil 5 1
  refine WP.loopG (G := Nat × Option Addr × Nat) [3, 4, 5, 6, 7, 8, 9, 10, 11, 12, 13, 14, 15, 16] (fun (k, ra, rc) => [(3, (.slice ra (((ls.take k).flatten).length) rc)), (4, (vi ((k : Nat) : Int)))]) (fun (k, ra, rc) m w1 => HP w w1 [.row ra (((ls.take k).flatten).length) rc 5 1 (((ls.take k).flatten).map vu8), .pin (sblks xs) (fun w => Sls w xs ls), .view a xs] ∧ (k ≤ n) ∧ m = n - k) ⟨(0, none, 0), _, ⟨rfl, rfl, trivial⟩, h_1, Nat.zero_le _, rfl⟩ ?_
  rintro ⟨k, ra, rc⟩ m_4 J_5 w_2 ⟨h_3, hk, rfl⟩
  refine WP.seq ?_
  refine WP.seq ?_
  refine WP.reg ?_
  refine WL.q (Wn.no rfl) rfl rfl (R.move (v := (vi ((k : Nat) : Int))) rfl) ?_
  refine WL.q (Wn.no rfl) rfl rfl (R.move (v := (.slice a n cap)) rfl) ?_
  refine WL.q (Wn.no rfl) rfl rfl (R.lenS (a := a) (m := n) rfl rfl Try.underlying36) ?_
  refine WL.q (Wn.no rfl) rfl rfl (R.bin (v := (.bool (decide ((((k : Nat) : Int) : Int) < ((n : Nat) : Int))))) rfl rfl (bi_lss (r := decide ((((k : Nat) : Int) : Int) < ((n : Nat) : Int))) rfl)) ?_
  refine WL.nil ?_
  refine thn_n ?_
  refine WP.cond (b := decide ((((k : Nat) : Int) : Int) < ((n : Nat) : Int))) rfl (fun c_6 => ?_) (fun c_6 => ?_)
  · have p_7 := of_decide_eq_true c_6
    refine WP.skip ?_
    refine thn_n ?_
    refine WP.seq ?_
    refine WP.block ?_
    refine WP.reg ?_
    refine WL.q (Wn.no rfl) rfl rfl (R.move (v := (.slice ra (((ls.take k).flatten).length) rc)) rfl) ?_
    refine WL.q (Wn.no rfl) rfl rfl (R.move (v := (.slice a n cap)) rfl) ?_
    refine WL.q (Wn.no rfl) rfl rfl (R.move (v := (vi ((k : Nat) : Int))) rfl) ?_
    refine WL.q (Wn.no rfl) rfl rfl (R.indexS (a := a) (i := k) (off := k) (xs := xs) rfl rfl rfl (by omega) (viewV (h_3.ok _ (.tail _ (.tail _ (.head _))))) (by omega) Try.underlying36 Try.sizeOf37 (Nat.mul_one _).symm) ?_
    obtain ⟨a_8, n_9, c_10, hx_11, hl_12, hn_13, hv_14, hb_15⟩ := Sls.get (i := k) (h_3.ok _ (.tail _ (.head _))).1 (by rw [hln]; omega)
    have h_16 := h_3.within (e' := .view a_8 ((ls.getD k []).map vu8)) (.tail _ (.head _)) rfl (View.arg hv_14) rfl rfl (fun b hb_ => hb_15 _ (view_sblk hl_12 b hb_))
    refine WL.q (Wn.no rfl) rfl rfl (R.loadG (a := a) (i := k) (xs := xs) (v := (.slice a_8 n_9 c_10)) rfl (viewV (h_16.ok _ (.tail _ (.tail _ (.tail _ (.head _)))))) Try.isAgg37 hx_11) ?_
    have hle := Go.Wr.flat_take_le ls (k + 1)
    rw [Go.Wr.flat_take (by omega), List.length_append] at hle
    refine WL.append (km := ((ls.take k).flatten).length + n_9) (xs := ((ls.take k).flatten).map vu8) (ys := (ls.getD k []).map vu8) (zs := (((ls.take k).flatten).map vu8) ++ ((ls.getD k []).map vu8)) h_16 rfl rfl el37 (viewV (h_16.ok _ (.head _))) ((len_map hl_12).trans (Nat.mul_one _).symm) (one_u8 _) rfl (by omega) (by omega) (by omega) (fun _ _ => (At.t At.h)) rfl (fun a_17 c_18 w_19 h_20 => ?_)
    refine WL.q (Wn.no rfl) rfl rfl (R.assign (v := (.slice a_17 (((ls.take k).flatten).length + n_9) c_18)) rfl) ?_
    refine WL.nil ?_
    refine inb_n ?_
    refine thn_n ?_
    refine WP.reg ?_
    refine WL.q (Wn.no rfl) rfl rfl (R.move (v := (vi ((k : Nat) : Int))) rfl) ?_
    refine WL.q (Wn.no rfl) rfl rfl (R.bin (v := (vi ((k + 1 : Nat) : Int))) rfl rfl (bi_add (c := ((k + 1 : Nat) : Int)) (by omega) (by omega))) ?_
    refine WL.q (Wn.no rfl) rfl rfl (R.assign (v := (vi ((k + 1 : Nat) : Int))) rfl) ?_
    refine WL.nil ?_
    refine thn_n ?_
    have h_21 := h_20.drop rfl
    have h_22 := h_21.up (Pick.t (Pick.t Pick.h))
    have h_23 := h_22.up (Pick.t (Pick.t Pick.h))
    have h_24 := h_23.up (Pick.t (Pick.t Pick.h))
    have e := Go.Wr.flat_take (ls := ls) (k := k) (by omega)
    have el : ((ls.take k).flatten).length + n_9 = ((ls.take (k + 1)).flatten).length := by rw [e, List.length_append]; omega
    rw [el, show (((ls.take k).flatten).map vu8) ++ ((ls.getD k []).map vu8) = ((ls.take (k + 1)).flatten).map vu8 from by rw [e, List.map_append]] at h_24
    exact ⟨(k + 1, a_17, c_18), _, (by omega), (Ag.upd rfl (Ag.upd rfl (Ag.upd rfl (Ag.upd rfl (Ag.upd rfl (Ag.upd rfl (Ag.upd rfl (Ag.upd rfl (Ag.upd rfl (Ag.upd rfl (Ag.upd rfl (Ag.upd rfl (Ag.upd rfl (Ag.upd rfl (Ag.updL rfl (Ag.mix _ _ _)))))))))))))))), ⟨by rw [← el]; rfl, rfl, trivial⟩, h_24, (by omega), rfl⟩
  · have p_25 := of_decide_eq_false c_6
    refine WP.exit ?_
    refine thn_x ?_
    refine thn_x ?_
    refine inb_hit ?_
    refine thn_n ?_
    refine WP.seq ?_
    refine WP.reg ?_
    refine WL.q (Wn.no rfl) rfl rfl (R.move (v := (.slice ra (((ls.take k).flatten).length) rc)) rfl) ?_
    refine WL.q (Wn.no rfl) rfl rfl (R.assign (v := (.slice ra (((ls.take k).flatten).length) rc)) rfl) ?_
    refine WL.nil ?_
    refine thn_n ?_
    refine WP.ret ?_
    refine ret_of Try.results87 (RV.tmp (v := (.slice ra (((ls.take k).flatten).length) rc)) rfl RV.nil) ?_
    have hkn : k = n := by omega
    rw [hkn, List.take_of_length_le (by omega)] at h_3
    refine ⟨_, _, ?_, h_3.chgS, h_3.ok _ (.head _)⟩
    rw [hkn, List.take_of_length_le (by omega)]; rfl
end Go.Proofs.Ytnhppjimimhlkaa
