/- Laws of digests: contracts. Conditions: those that each theorem states. -/
import Derived.Test.YtelkjcigdhgcoaaP9
namespace Go.Proofs.Ytelkjcigdhgcoaa
open Go.Vc Go.Sh Go.RowKit
set_option linter.unusedVariables false
set_option linter.unusedSimpArgs false
set_option maxRecDepth 20000
theorem ce5 : Try.prog.cellsOf 5 = 1 := by kernel_rfl
theorem ce28 : Try.prog.cellsOf 28 = 32 := by kernel_rfl
theorem kt28 : Try.prog.keyTypeAt 2 28 = true := by kernel_rfl
theorem ag28 : aggB Try.prog 28 = true := by unfold aggB; rw [Try.underlying28]
theorem c_num2 (e : Int) (be : -9223372036854775808 ≤ e ∧ e < 9223372036854775808) (w : World) :
    Cs Try.prog 29 [(vi e)].toArray w (fun v w1 => v = vi e ∧ Chg w w1 []) := by
  refine Cs.of (n := 4) (args := [(vi e)]) Try.func29 rfl rfl rfl ?_
  have h_0 := HP.init w
  refine WP.seq ?_
  refine WP.reg ?_
  refine WL.q (Wn.no rfl) rfl rfl (R.assign (v := (vi 0)) rfl) ?_
  refine WL.nil ?_
  refine thn_n ?_
  refine WP.seq ?_
  refine WP.reg ?_
  refine WL.q (Wn.no rfl) rfl rfl (R.move (v := (vi e)) rfl) ?_
  refine WL.q (Wn.no rfl) rfl rfl (R.assign (v := (vi e)) rfl) ?_
  refine WL.nil ?_
  refine thn_n ?_
  refine WP.ret ?_
  refine ret_of Try.results29 (RV.tmp (v := (vi e)) rfl RV.nil) ?_
  exact ⟨rfl, h_0.chgS⟩

theorem c_nothing_nil  (w : World) :
    Cs Try.prog 34 [(.pointer none)].toArray w (fun v w1 => v = .bool true ∧ Chg w w1 []) := by
  refine Cs.of (n := 34) (args := [(.pointer none)]) Try.func34 rfl rfl rfl ?_
  have h_0 := HP.init w
  refine WP.seq ?_
  refine WP.reg ?_
  refine WL.q (Wn.no rfl) rfl rfl (R.assign (v := (.bool false)) rfl) ?_
  refine WL.nil ?_
  refine thn_n ?_
  refine WP.seq ?_
  refine WP.reg ?_
  refine WL.q (Wn.no rfl) rfl rfl (R.move (v := (.pointer none)) rfl) ?_
  refine WL.call (al := [(.pointer none)]) Try.call31 rfl rfl (c_HSum_nil  _ ) rfl ?_
  rintro _ w_2 ⟨rfl, hc_1⟩
  have h_3 := h_0.same hc_1
  refine WL.q (Wn.no rfl) rfl rfl (R.move (v := (.tuple [(.agg ⟨(List.replicate 32 (0 : UInt8)).map vu8⟩), (vi 1)].toArray)) rfl) ?_
  refine WL.q (Wn.no rfl) rfl rfl (R.extract (l := [(.agg ⟨(List.replicate 32 (0 : UInt8)).map vu8⟩), (vi 1)]) (v := (.agg ⟨(List.replicate 32 (0 : UInt8)).map vu8⟩)) rfl rfl) ?_
  refine WL.q (Wn.no rfl) rfl rfl (R.extract (l := [(.agg ⟨(List.replicate 32 (0 : UInt8)).map vu8⟩), (vi 1)]) (v := (vi 1)) rfl rfl) ?_
  refine WL.alloc (segs := [(32, (List.replicate 32 (0 : UInt8)).map vu8)]) h_3 (zv Try.typeInfo28 rfl) rfl (SsOk.cons (SOk.u8 (List.length_replicate ..)) SsOk.nil) rfl (fun b_4 w_5 h_6 => ?_)
  refine WL.storeA (b := b_4) (off := 0) [] [(32, (List.replicate 32 (0 : UInt8)).map vu8)] [(32, (List.replicate 32 (0 : UInt8)).map vu8)] [] (ys := (List.replicate 32 (0 : UInt8)).map vu8) h_6 rfl rfl Try.sizeOf28 At.h (by decide) rfl rfl rfl rfl rfl rfl (SsOk.cons (SOk.u8 (List.length_replicate ..)) SsOk.nil) (fun w_7 h_8 => ?_)
  refine WL.q (Wn.no rfl) rfl rfl (R.assign (v := (vi 1)) rfl) ?_
  refine WL.nil ?_
  refine thn_n ?_
  refine WP.seq ?_
  refine WP.reg ?_
  refine WL.q (Wn.no rfl) rfl rfl (R.loadA (b := b_4) (off := 0) [] [(32, (List.replicate 32 (0 : UInt8)).map vu8)] [] (cs := (List.replicate 32 (0 : UInt8)).map vu8) rfl Try.isAgg28 Try.sizeOf28 (h_8.ok _ (.head _)) rfl rfl rfl rfl) ?_
  refine WL.q (Wn.no rfl) rfl rfl (R.buildA (vs := []) (cs := (List.replicate 32 (0 : UInt8)).map vu8) Try.underlying28 Try.sizeOf5 (zv Try.typeInfo28 rfl) rfl rfl) ?_
  refine WL.q (Wn.no rfl) rfl rfl (R.eqA (xs := (List.replicate 32 (0 : UInt8)).map vu8) (ys := (List.replicate 32 (0 : UInt8)).map vu8) (r := true) rfl rfl Try.eqGuardType28 kt28 (by decide) ag28 (Typ.u8s Try.underlying28 ce28 Try.underlying5 ce5 (List.length_replicate ..)) (Typ.u8s Try.underlying28 ce28 Try.underlying5 ce5 (List.length_replicate ..)) (eqT rfl)) ?_
  refine WL.q (Wn.no rfl) rfl rfl (R.move (v := (.bool true)) rfl) ?_
  refine WL.want rfl rfl ?_
  refine WL.q (Wn.no rfl) rfl rfl (R.move (v := (vi 1)) rfl) ?_
  refine WL.want rfl rfl ?_
  refine WL.call (al := [(vi 1)]) Try.call29 rfl rfl (c_num2 1 (by omega) _ ) rfl ?_
  rintro _ w_10 ⟨rfl, hc_9⟩
  have h_11 := h_8.same hc_9
  refine WL.want rfl rfl ?_
  refine WL.q (Wn.no rfl) rfl rfl (R.bin (v := (.bool true)) rfl rfl (bi_eql (r := true) (by decide))) ?_
  refine WL.q (Wn.no rfl) rfl rfl (R.pickT (v := (.bool true)) rfl rfl) ?_
  refine WL.q (Wn.no rfl) rfl rfl (R.move (v := (.bool true)) rfl) ?_
  refine WL.want rfl rfl ?_
  refine WL.q (Wn.no rfl) rfl rfl (R.move (v := (.pointer none)) rfl) ?_
  refine WL.want rfl rfl ?_
  refine WL.call (al := [(.pointer none), (.slice none 0 0)]) Try.call30 rfl rfl (c_Write_nil none 0 0 _ ) rfl ?_
  rintro _ w_13 ⟨rfl, hc_12⟩
  have h_14 := h_11.same hc_12
  refine WL.want rfl rfl ?_
  refine WL.call (al := [(vi 1)]) Try.call29 rfl rfl (c_num2 1 (by omega) _ ) rfl ?_
  rintro _ w_16 ⟨rfl, hc_15⟩
  have h_17 := h_14.same hc_15
  refine WL.want rfl rfl ?_
  refine WL.q (Wn.no rfl) rfl rfl (R.bin (v := (.bool true)) rfl rfl (bi_eql (r := true) (by decide))) ?_
  refine WL.q (Wn.no rfl) rfl rfl (R.pickT (v := (.bool true)) rfl rfl) ?_
  refine WL.q (Wn.no rfl) rfl rfl (R.move (v := (.bool true)) rfl) ?_
  refine WL.want rfl rfl ?_
  refine WL.q (Wn.no rfl) rfl rfl (R.move (v := (.pointer none)) rfl) ?_
  refine WL.want rfl rfl ?_
  refine WL.call (al := [(.pointer none)]) Try.call32 rfl rfl (c_Len_nil  _ ) rfl ?_
  rintro _ w_19 ⟨rfl, hc_18⟩
  have h_20 := h_17.same hc_18
  refine WL.want rfl rfl ?_
  refine WL.q (Wn.no rfl) rfl rfl (R.bin (v := (.bool true)) rfl rfl (bi_eql (r := true) (by decide))) ?_
  refine WL.q (Wn.no rfl) rfl rfl (R.pickT (v := (.bool true)) rfl rfl) ?_
  refine WL.q (Wn.no rfl) rfl rfl (R.move (v := (.bool true)) rfl) ?_
  refine WL.want rfl rfl ?_
  refine WL.q (Wn.no rfl) rfl rfl (R.move (v := (.pointer none)) rfl) ?_
  refine WL.want rfl rfl ?_
  refine WL.call (al := [(.pointer none)]) Try.call33 rfl rfl (c_Copy_nil  _ ) rfl ?_
  rintro _ w_22 ⟨rfl, hc_21⟩
  have h_23 := h_20.same hc_21
  refine WL.want rfl rfl ?_
  refine WL.q (Wn.no rfl) rfl rfl (R.eqNilP rfl rfl Try.underlying42) ?_
  refine WL.q (Wn.no rfl) rfl rfl (R.pickT (v := (.bool true)) rfl rfl) ?_
  refine WL.q (Wn.no rfl) rfl rfl (R.assign (v := (.bool true)) rfl) ?_
  refine WL.nil ?_
  refine thn_n ?_
  refine WP.ret ?_
  refine ret_of Try.results34 (RV.tmp (v := (.bool true)) rfl RV.nil) ?_
  exact ⟨rfl, h_23.chgS⟩

theorem c_nothing_false (kk hh : List UInt32) (hkk : kk.length = 64) (hhl : hh.length = 8) (ra : Option Addr) (rn rc nn : Nat) (bc : Nat) (w : World) (hcb : (Ent.blk bc .ro 55 [(64, kk.map vu32), (8, hh.map vu32), (1, [(.slice ra rn rc)]), (1, [(vi ((nn : Nat) : Int))]), (1, [(.bool false)])]).ok w.heap.size w) :
    Cs Try.prog 34 [(.pointer (some ⟨bc, 0, none⟩))].toArray w (fun v w1 => v = .bool true ∧ Chg w w1 []) := by
  refine Cs.of (n := 34) (args := [(.pointer (some ⟨bc, 0, none⟩))]) Try.func34 rfl rfl rfl ?_
  have h_0 := HP.init w
  have h_00 := h_0.old hcb (fun f hf => by cases hf)
  refine WP.seq ?_
  refine WP.reg ?_
  refine WL.q (Wn.no rfl) rfl rfl (R.assign (v := (.bool false)) rfl) ?_
  refine WL.nil ?_
  refine thn_n ?_
  refine WP.seq ?_
  refine WP.reg ?_
  refine WL.q (Wn.no rfl) rfl rfl (R.move (v := (.pointer (some ⟨bc, 0, none⟩))) rfl) ?_
  refine WL.call (al := [(.pointer (some ⟨bc, 0, none⟩))]) Try.call31 rfl rfl (c_HSum_false kk hh hkk hhl ra rn rc nn bc _ (h_00.argR (.head _))) rfl ?_
  rintro _ w_2 ⟨rfl, hc_1⟩
  have h_3 := h_00.same hc_1
  refine WL.q (Wn.no rfl) rfl rfl (R.move (v := (.tuple [(.agg ⟨(List.replicate 32 (0 : UInt8)).map vu8⟩), (vi 1)].toArray)) rfl) ?_
  refine WL.q (Wn.no rfl) rfl rfl (R.extract (l := [(.agg ⟨(List.replicate 32 (0 : UInt8)).map vu8⟩), (vi 1)]) (v := (.agg ⟨(List.replicate 32 (0 : UInt8)).map vu8⟩)) rfl rfl) ?_
  refine WL.q (Wn.no rfl) rfl rfl (R.extract (l := [(.agg ⟨(List.replicate 32 (0 : UInt8)).map vu8⟩), (vi 1)]) (v := (vi 1)) rfl rfl) ?_
  refine WL.alloc (segs := [(32, (List.replicate 32 (0 : UInt8)).map vu8)]) h_3 (zv Try.typeInfo28 rfl) rfl (SsOk.cons (SOk.u8 (List.length_replicate ..)) SsOk.nil) rfl (fun b_4 w_5 h_6 => ?_)
  refine WL.storeA (b := b_4) (off := 0) [] [(32, (List.replicate 32 (0 : UInt8)).map vu8)] [(32, (List.replicate 32 (0 : UInt8)).map vu8)] [] (ys := (List.replicate 32 (0 : UInt8)).map vu8) h_6 rfl rfl Try.sizeOf28 At.h (by decide) rfl rfl rfl rfl rfl rfl (SsOk.cons (SOk.u8 (List.length_replicate ..)) SsOk.nil) (fun w_7 h_8 => ?_)
  refine WL.q (Wn.no rfl) rfl rfl (R.assign (v := (vi 1)) rfl) ?_
  refine WL.nil ?_
  refine thn_n ?_
  refine WP.seq ?_
  refine WP.reg ?_
  refine WL.q (Wn.no rfl) rfl rfl (R.loadA (b := b_4) (off := 0) [] [(32, (List.replicate 32 (0 : UInt8)).map vu8)] [] (cs := (List.replicate 32 (0 : UInt8)).map vu8) rfl Try.isAgg28 Try.sizeOf28 (h_8.ok _ (.head _)) rfl rfl rfl rfl) ?_
  refine WL.q (Wn.no rfl) rfl rfl (R.buildA (vs := []) (cs := (List.replicate 32 (0 : UInt8)).map vu8) Try.underlying28 Try.sizeOf5 (zv Try.typeInfo28 rfl) rfl rfl) ?_
  refine WL.q (Wn.no rfl) rfl rfl (R.eqA (xs := (List.replicate 32 (0 : UInt8)).map vu8) (ys := (List.replicate 32 (0 : UInt8)).map vu8) (r := true) rfl rfl Try.eqGuardType28 kt28 (by decide) ag28 (Typ.u8s Try.underlying28 ce28 Try.underlying5 ce5 (List.length_replicate ..)) (Typ.u8s Try.underlying28 ce28 Try.underlying5 ce5 (List.length_replicate ..)) (eqT rfl)) ?_
  refine WL.q (Wn.no rfl) rfl rfl (R.move (v := (.bool true)) rfl) ?_
  refine WL.want rfl rfl ?_
  refine WL.q (Wn.no rfl) rfl rfl (R.move (v := (vi 1)) rfl) ?_
  refine WL.want rfl rfl ?_
  refine WL.call (al := [(vi 1)]) Try.call29 rfl rfl (c_num2 1 (by omega) _ ) rfl ?_
  rintro _ w_10 ⟨rfl, hc_9⟩
  have h_11 := h_8.same hc_9
  refine WL.want rfl rfl ?_
  refine WL.q (Wn.no rfl) rfl rfl (R.bin (v := (.bool true)) rfl rfl (bi_eql (r := true) (by decide))) ?_
  refine WL.q (Wn.no rfl) rfl rfl (R.pickT (v := (.bool true)) rfl rfl) ?_
  refine WL.q (Wn.no rfl) rfl rfl (R.move (v := (.bool true)) rfl) ?_
  refine WL.want rfl rfl ?_
  refine WL.q (Wn.no rfl) rfl rfl (R.move (v := (.pointer (some ⟨bc, 0, none⟩))) rfl) ?_
  refine WL.want rfl rfl ?_
  refine WL.call (al := [(.pointer (some ⟨bc, 0, none⟩)), (.slice none 0 0)]) Try.call30 rfl rfl (c_Write_false kk hh hkk hhl ra rn rc nn bc none 0 0 _ (h_11.argR (.tail _ (.head _)))) rfl ?_
  rintro _ w_13 ⟨rfl, hc_12⟩
  have h_14 := h_11.same hc_12
  refine WL.want rfl rfl ?_
  refine WL.call (al := [(vi 1)]) Try.call29 rfl rfl (c_num2 1 (by omega) _ ) rfl ?_
  rintro _ w_16 ⟨rfl, hc_15⟩
  have h_17 := h_14.same hc_15
  refine WL.want rfl rfl ?_
  refine WL.q (Wn.no rfl) rfl rfl (R.bin (v := (.bool true)) rfl rfl (bi_eql (r := true) (by decide))) ?_
  refine WL.q (Wn.no rfl) rfl rfl (R.pickT (v := (.bool true)) rfl rfl) ?_
  refine WL.q (Wn.no rfl) rfl rfl (R.move (v := (.bool true)) rfl) ?_
  refine WL.want rfl rfl ?_
  refine WL.q (Wn.no rfl) rfl rfl (R.move (v := (.pointer (some ⟨bc, 0, none⟩))) rfl) ?_
  refine WL.want rfl rfl ?_
  refine WL.call (al := [(.pointer (some ⟨bc, 0, none⟩))]) Try.call32 rfl rfl (c_Len_false kk hh hkk hhl ra rn rc nn bc _ (h_17.argR (.tail _ (.head _)))) rfl ?_
  rintro _ w_19 ⟨rfl, hc_18⟩
  have h_20 := h_17.same hc_18
  refine WL.want rfl rfl ?_
  refine WL.q (Wn.no rfl) rfl rfl (R.bin (v := (.bool true)) rfl rfl (bi_eql (r := true) (by decide))) ?_
  refine WL.q (Wn.no rfl) rfl rfl (R.pickT (v := (.bool true)) rfl rfl) ?_
  refine WL.q (Wn.no rfl) rfl rfl (R.move (v := (.bool true)) rfl) ?_
  refine WL.want rfl rfl ?_
  refine WL.q (Wn.no rfl) rfl rfl (R.move (v := (.pointer (some ⟨bc, 0, none⟩))) rfl) ?_
  refine WL.want rfl rfl ?_
  refine WL.call (al := [(.pointer (some ⟨bc, 0, none⟩))]) Try.call33 rfl rfl (c_Copy_false kk hh hkk hhl ra rn rc nn bc _ (h_20.argR (.tail _ (.head _)))) rfl ?_
  rintro _ w_22 ⟨rfl, hc_21⟩
  have h_23 := h_20.same hc_21
  refine WL.want rfl rfl ?_
  refine WL.q (Wn.no rfl) rfl rfl (R.eqNilP rfl rfl Try.underlying42) ?_
  refine WL.q (Wn.no rfl) rfl rfl (R.pickT (v := (.bool true)) rfl rfl) ?_
  refine WL.q (Wn.no rfl) rfl rfl (R.assign (v := (.bool true)) rfl) ?_
  refine WL.nil ?_
  refine thn_n ?_
  refine WP.ret ?_
  refine ret_of Try.results34 (RV.tmp (v := (.bool true)) rfl RV.nil) ?_
  exact ⟨rfl, h_23.chgS⟩
end Go.Proofs.Ytelkjcigdhgcoaa
