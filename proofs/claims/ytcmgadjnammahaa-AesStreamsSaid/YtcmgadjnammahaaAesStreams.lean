/- AesStreams holds of every input. Conditions: none. -/
import Derived.Test.YtcmgadjnammahaaS2
namespace Go.Proofs.Ytcmgadjnammahaa
open Go.Vc Go.Ax Go.RowKit
set_option linter.unusedVariables false
set_option linter.unusedSimpArgs false
set_option maxRecDepth 20000
theorem aggT66 : aggB Try.prog 66 = true := by unfold aggB; rw [Try.underlying66]
theorem aggT67 : aggB Try.prog 67 = true := by unfold aggB; rw [Try.underlying67]
theorem ce5 : Try.prog.cellsOf 5 = 1 := by kernel_rfl
theorem ce66 : Try.prog.cellsOf 66 = 16 := by kernel_rfl
theorem ce67 : Try.prog.cellsOf 67 = 8 := by kernel_rfl
theorem w_AesStreams_e1 (key nonce : List UInt8) (hkey : key.length = 16) (hno : nonce.length = 8) (n : Int) (h : n < 0) (a3 : Option Addr) (n3 cap3 : Nat) (bs : List UInt8) (hl3 : bs.length = n3) (hcm : n3 ≤ 9223372036854775807) (w : World) (hv3 : View w a3 (bs.map vu8)) :
    Cs Try.prog 11 [(.agg ⟨key.map vu8⟩), (.agg ⟨nonce.map vu8⟩), (vi n), (.slice a3 n3 cap3)].toArray w (fun v w1 => v = .bool true ∧ Chg w w1 []) := by
  refine Cs.of (n := 103) (args := [(.agg ⟨key.map vu8⟩), (.agg ⟨nonce.map vu8⟩), (vi n), (.slice a3 n3 cap3)]) Try.func11 rfl rfl rfl ?_
  have h_0 := HP.init w
  have h_00 := h_0.old (View.arg hv3) (fun f hf => by cases hf)
  refine WP.seq ?_
  refine WP.reg ?_
  refine WL.box (v := (.agg ⟨key.map vu8⟩)) (segs := [(16, key.map vu8)]) h_00 rfl rfl (SsOk.cons (SOk.u8 hkey) SsOk.nil) rfl (fun b_1 w_2 h_3 => ?_)
  refine WL.box (v := (.agg ⟨nonce.map vu8⟩)) (segs := [(8, nonce.map vu8)]) h_3 rfl rfl (SsOk.cons (SOk.u8 hno) SsOk.nil) rfl (fun b_4 w_5 h_6 => ?_)
  refine WL.q (Wn.no rfl) rfl rfl (R.assign (v := (.bool false)) rfl) ?_
  refine WL.nil ?_
  refine thn_n ?_
  refine WP.seq ?_
  refine WP.seq ?_
  refine WP.reg ?_
  refine WL.q (Wn.no rfl) rfl rfl (R.move (v := (vi n)) rfl) ?_
  refine WL.q (Wn.no rfl) rfl rfl (R.bin (v := (.bool (decide ((n : Int) > 600)))) rfl rfl (bi_gtr (r := decide ((n : Int) > 600)) rfl)) ?_
  refine WL.q (Wn.no rfl) rfl rfl (R.move (v := (.bool (decide ((n : Int) > 600)))) rfl) ?_
  refine WL.skip rfl (congrArg Value.bool (decide_eq_false (by omega))) rfl ?_
  refine WL.skip rfl (congrArg Value.bool (decide_eq_false (by omega))) rfl ?_
  refine WL.q (Wn.no rfl) rfl rfl (R.pickF (v := (.bool false)) (congrArg Value.bool (decide_eq_false (by omega))) rfl) ?_
  refine WL.q (Wn.no rfl) rfl rfl (R.move (v := (.bool false)) rfl) ?_
  refine WL.want rfl rfl ?_
  refine WL.q (Wn.no rfl) rfl rfl (R.move (v := (.slice a3 n3 cap3)) rfl) ?_
  refine WL.want rfl rfl ?_
  refine WL.q (Wn.no rfl) rfl rfl (R.lenS (a := a3) (m := n3) rfl rfl Try.underlying23) ?_
  refine WL.want rfl rfl ?_
  refine WL.q (Wn.no rfl) rfl rfl (R.bin (v := (.bool (decide ((((n3 : Nat) : Int) : Int) > 600)))) rfl rfl (bi_gtr (r := decide ((((n3 : Nat) : Int) : Int) > 600)) rfl)) ?_
  refine WL.q (Wn.no rfl) rfl rfl (R.pickF (v := (.bool (decide ((((n3 : Nat) : Int) : Int) > 600)))) rfl rfl) ?_
  refine WL.nil ?_
  refine thn_n ?_
  refine WP.cond (b := decide ((((n3 : Nat) : Int) : Int) > 600)) rfl (fun c_7 => ?_) (fun c_7 => ?_)
  · have p_8 := of_decide_eq_true c_7
    refine WP.seq ?_
    refine WP.reg ?_
    refine WL.call (al := []) Try.call43 rfl rfl (c_known4  _ ) rfl ?_
    rintro _ w_10 ⟨rfl, hc_9⟩
    have h_11 := h_6.same hc_9
    refine WL.q (Wn.no rfl) rfl rfl (R.assign (v := (.bool true)) rfl) ?_
    refine WL.nil ?_
    refine thn_n ?_
    refine WP.ret ?_
    refine thn_r ?_
    refine ret_of Try.results11 (RV.tmp (v := (.bool true)) rfl RV.nil) ?_
    exact ⟨rfl, h_11.chgS⟩
  · have p_12 := of_decide_eq_false c_7
    refine WP.skip ?_
    refine thn_n ?_
    refine WP.seq ?_
    refine WP.reg ?_
    refine WL.q (Wn.no rfl) rfl rfl (R.loadA (b := b_1) (off := 0) [] [(16, key.map vu8)] [] (cs := key.map vu8) rfl Try.isAgg66 Try.sizeOf66 (h_6.ok _ (.tail _ (.head _))) rfl rfl rfl rfl) ?_
    refine WL.q (Wn.no rfl) rfl rfl (R.loadA (b := b_4) (off := 0) [] [(8, nonce.map vu8)] [] (cs := nonce.map vu8) rfl Try.isAgg67 Try.sizeOf67 (h_6.ok _ (.head _)) rfl rfl rfl rfl) ?_
    refine WL.q (Wn.no rfl) rfl rfl (R.move (v := (vi n)) rfl) ?_
    refine WL.call (al := [(.agg ⟨key.map vu8⟩), (.agg ⟨nonce.map vu8⟩), (vi n)]) Try.call53 rfl rfl (c_Stream_e1 key nonce hkey hno n (by omega) _ ) rfl ?_
    rintro _ w_19 ⟨rfl, hc_18⟩
    have h_20 := h_6.same hc_18
    refine WL.q (Wn.no rfl) rfl rfl (R.move (v := (.tuple [(.slice none 0 0), (vi 2)].toArray)) rfl) ?_
    refine WL.q (Wn.no rfl) rfl rfl (R.extract (l := [(.slice none 0 0), (vi 2)]) (v := (.slice none 0 0)) rfl rfl) ?_
    refine WL.q (Wn.no rfl) rfl rfl (R.extract (l := [(.slice none 0 0), (vi 2)]) (v := (vi 2)) rfl rfl) ?_
    refine WL.q (Wn.no rfl) rfl rfl (R.assign (v := (.slice none 0 0)) rfl) ?_
    refine WL.q (Wn.no rfl) rfl rfl (R.assign (v := (vi 2)) rfl) ?_
    refine WL.nil ?_
    refine thn_n ?_
    refine WP.seq ?_
    refine WP.seq ?_
    refine WP.reg ?_
    refine WL.q (Wn.no rfl) rfl rfl (R.move (v := (vi n)) rfl) ?_
    refine WL.q (Wn.no rfl) rfl rfl (R.bin (v := (.bool (decide ((n : Int) < 0)))) rfl rfl (bi_lss (r := decide ((n : Int) < 0)) rfl)) ?_
    refine WL.q (Wn.no rfl) rfl rfl (R.move (v := (.bool (decide ((n : Int) < 0)))) rfl) ?_
    refine WL.skip rfl (congrArg Value.bool (decide_eq_true (by omega))) rfl ?_
    refine WL.skip rfl (congrArg Value.bool (decide_eq_true (by omega))) rfl ?_
    refine WL.q (Wn.no rfl) rfl rfl (R.pickT (v := (.bool true)) (congrArg Value.bool (decide_eq_true (by omega))) rfl) ?_
    refine WL.nil ?_
    refine thn_n ?_
    refine WP.condT rfl ?_
    refine WP.seq ?_
    refine WP.reg ?_
    refine WL.q (Wn.no rfl) rfl rfl (R.move (v := (.slice none 0 0)) rfl) ?_
    refine WL.q (Wn.no rfl) rfl rfl (R.lenS (a := none) (m := 0) rfl rfl Try.underlying23) ?_
    refine WL.q (Wn.no rfl) rfl rfl (R.bin (v := (.bool false)) rfl rfl (bi_neq (r := false) (by decide))) ?_
    refine WL.q (Wn.no rfl) rfl rfl (R.move (v := (.bool false)) rfl) ?_
    refine WL.want rfl rfl ?_
    refine WL.q (Wn.no rfl) rfl rfl (R.move (v := (vi 2)) rfl) ?_
    refine WL.want rfl rfl ?_
    refine WL.call (al := [(vi 2)]) Try.call54 rfl rfl (c_num4 2 (by omega) _ ) rfl ?_
    rintro _ w_22 ⟨rfl, hc_21⟩
    have h_23 := h_20.same hc_21
    refine WL.want rfl rfl ?_
    refine WL.q (Wn.no rfl) rfl rfl (R.bin (v := (.bool false)) rfl rfl (bi_neq (r := false) (by decide))) ?_
    refine WL.q (Wn.no rfl) rfl rfl (R.pickF (v := (.bool false)) rfl rfl) ?_
    refine WL.nil ?_
    refine thn_n ?_
    refine WP.condF rfl ?_
    refine WP.skip ?_
    refine thn_n ?_
    refine WP.seq ?_
    refine WP.reg ?_
    refine WL.q (Wn.no rfl) rfl rfl (R.loadA (b := b_1) (off := 0) [] [(16, key.map vu8)] [] (cs := key.map vu8) rfl Try.isAgg66 Try.sizeOf66 (h_23.ok _ (.tail _ (.head _))) rfl rfl rfl rfl) ?_
    refine WL.q (Wn.no rfl) rfl rfl (R.loadA (b := b_4) (off := 0) [] [(8, nonce.map vu8)] [] (cs := nonce.map vu8) rfl Try.isAgg67 Try.sizeOf67 (h_23.ok _ (.head _)) rfl rfl rfl rfl) ?_
    refine WL.q (Wn.no rfl) rfl rfl (R.move (v := (.slice a3 n3 cap3)) rfl) ?_
    refine WL.call (al := [(.agg ⟨key.map vu8⟩), (.agg ⟨nonce.map vu8⟩), (.slice a3 n3 cap3)]) Try.call56 rfl rfl (c_Mask_n key nonce hkey hno a3 n3 cap3 bs hl3 (by omega) _ (viewV (h_23.ok _ (.tail _ (.tail _ (.head _)))))) rfl ?_
    rintro _ w_25 ⟨a_24, rfl, hc_26, ho_27⟩
    have h_28 := h_23.gotRow hc_26 ho_27
    refine WL.q (Wn.no rfl) rfl rfl (R.move (v := (.tuple [(.slice a_24 n3 n3), (vi 0)].toArray)) rfl) ?_
    refine WL.q (Wn.no rfl) rfl rfl (R.extract (l := [(.slice a_24 n3 n3), (vi 0)]) (v := (.slice a_24 n3 n3)) rfl rfl) ?_
    refine WL.q (Wn.no rfl) rfl rfl (R.extract (l := [(.slice a_24 n3 n3), (vi 0)]) (v := (vi 0)) rfl rfl) ?_
    refine WL.q (Wn.no rfl) rfl rfl (R.assign (v := (.slice a_24 n3 n3)) rfl) ?_
    refine WL.q (Wn.no rfl) rfl rfl (R.assign (v := (vi 0)) rfl) ?_
    refine WL.nil ?_
    refine thn_n ?_
    refine WP.seq ?_
    refine WP.reg ?_
    refine WL.q (Wn.no rfl) rfl rfl (R.loadA (b := b_1) (off := 0) [] [(16, key.map vu8)] [] (cs := key.map vu8) rfl Try.isAgg66 Try.sizeOf66 (h_28.ok _ (.tail _ (.tail _ (.head _)))) rfl rfl rfl rfl) ?_
    refine WL.q (Wn.no rfl) rfl rfl (R.loadA (b := b_4) (off := 0) [] [(8, nonce.map vu8)] [] (cs := nonce.map vu8) rfl Try.isAgg67 Try.sizeOf67 (h_28.ok _ (.tail _ (.head _))) rfl rfl rfl rfl) ?_
    refine WL.q (Wn.no rfl) rfl rfl (R.move (v := (.slice a3 n3 cap3)) rfl) ?_
    refine WL.q (Wn.no rfl) rfl rfl (R.lenS (a := a3) (m := n3) rfl rfl Try.underlying23) ?_
    refine WL.call (al := [(.agg ⟨key.map vu8⟩), (.agg ⟨nonce.map vu8⟩), (vi ((n3 : Nat) : Int))]) Try.call55 rfl rfl (c_StreamR key nonce hkey hno n3 (by omega) _) rfl ?_
    rintro _ w_31 ⟨a_29, cap_30, rfl, hc_32, ho_33⟩
    have h_34 := h_28.gotRow hc_32 ho_33
    refine WL.q (Wn.no rfl) rfl rfl (R.assign (v := (.slice a_29 n3 cap_30)) rfl) ?_
    refine WL.nil ?_
    refine thn_n ?_
    refine WP.seq ?_
    refine WP.seq ?_
    refine WP.reg ?_
    refine WL.q (Wn.no rfl) rfl rfl (R.move (v := (.slice a_24 n3 n3)) rfl) ?_
    refine WL.q (Wn.no rfl) rfl rfl (R.lenS (a := a_24) (m := n3) rfl rfl Try.underlying23) ?_
    refine WL.q (Wn.no rfl) rfl rfl (R.move (v := (.slice a3 n3 cap3)) rfl) ?_
    refine WL.q (Wn.no rfl) rfl rfl (R.lenS (a := a3) (m := n3) rfl rfl Try.underlying23) ?_
    refine WL.q (Wn.no rfl) rfl rfl (R.bin (v := (.bool false)) rfl rfl (bi_neq (r := false) (by simp))) ?_
    refine WL.q (Wn.no rfl) rfl rfl (R.move (v := (.bool false)) rfl) ?_
    refine WL.want rfl rfl ?_
    refine WL.q (Wn.no rfl) rfl rfl (R.move (v := (vi 0)) rfl) ?_
    refine WL.want rfl rfl ?_
    refine WL.call (al := [(vi 0)]) Try.call54 rfl rfl (c_num4 0 (by omega) _ ) rfl ?_
    rintro _ w_36 ⟨rfl, hc_35⟩
    have h_37 := h_34.same hc_35
    refine WL.want rfl rfl ?_
    refine WL.q (Wn.no rfl) rfl rfl (R.bin (v := (.bool false)) rfl rfl (bi_neq (r := false) (by decide))) ?_
    refine WL.q (Wn.no rfl) rfl rfl (R.pickF (v := (.bool false)) rfl rfl) ?_
    refine WL.nil ?_
    refine thn_n ?_
    refine WP.condF rfl ?_
    refine WP.skip ?_
    refine thn_n ?_
    refine WP.seq ?_
    refine WP.seq ?_
    refine WP.reg ?_
    refine WL.q (Wn.no rfl) rfl rfl (R.assign (v := (vi 0)) rfl) ?_
    refine WL.nil ?_
    refine thn_n ?_
    refine WP.block ?_
    refine WP.loopG (G := Nat) [8, 14, 82, 83, 84, 85, 86, 87, 88, 89, 90, 91, 92, 93, 94, 95, 96, 97, 98, 99, 100, 101] (fun k => [(14, (vi ((k : Nat) : Int)))]) (fun k m w1 => HP w w1 [.row a_29 n3 cap_30 5 1 ((strL key nonce n3).map vu8), .row a_24 n3 n3 5 1 ((xorL (strL key nonce n3) bs).map vu8), .blk b_4 .nw 67 [(8, nonce.map vu8)], .blk b_1 .nw 66 [(16, key.map vu8)], .view a3 (bs.map vu8)] ∧ (k ≤ n3) ∧ m = n3 - k) ⟨0, _, ⟨rfl, trivial⟩, h_37, (by omega), rfl⟩ ?_
    rintro k m_40 J_41 w_38 ⟨h_39, hk, rfl⟩
    refine WP.seq ?_
    refine WP.seq ?_
    refine WP.reg ?_
    refine WL.q (Wn.no rfl) rfl rfl (R.move (v := (vi ((k : Nat) : Int))) rfl) ?_
    refine WL.q (Wn.no rfl) rfl rfl (R.move (v := (.slice a3 n3 cap3)) rfl) ?_
    refine WL.q (Wn.no rfl) rfl rfl (R.lenS (a := a3) (m := n3) rfl rfl Try.underlying23) ?_
    refine WL.q (Wn.no rfl) rfl rfl (R.bin (v := (.bool (decide ((((k : Nat) : Int) : Int) < ((n3 : Nat) : Int))))) rfl rfl (bi_lss (r := decide ((((k : Nat) : Int) : Int) < ((n3 : Nat) : Int))) rfl)) ?_
    refine WL.nil ?_
    refine thn_n ?_
    refine WP.cond (b := decide ((((k : Nat) : Int) : Int) < ((n3 : Nat) : Int))) rfl (fun c_42 => ?_) (fun c_42 => ?_)
    · have p_43 := of_decide_eq_true c_42
      refine WP.skip ?_
      refine thn_n ?_
      refine WP.seq ?_
      refine WP.block ?_
      refine WP.seq ?_
      refine WP.drawT (SL w.heap.size [.row a_29 n3 cap_30 5 1 ((strL key nonce n3).map vu8), .row a_24 n3 n3 5 1 ((xorL (strL key nonce n3) bs).map vu8), .blk b_4 .nw 67 [(8, nonce.map vu8)], .blk b_1 .nw 66 [(16, key.map vu8)], .view a3 (bs.map vu8)]) (.q 0 (.q 1 (.q 2 (.q 3 (.q 4 (.q 5 (.q 6 (.q 7 (.q 8 (.q 9 (.q 10 (.q 11 (.q 12 (.q 13 .nil)))))))))))))) (by kernel_rfl) (by kernel_rfl) rfl (by kernel_rfl) (fun w_44 hc_46 => (SL.cons ((h_39.same hc_46).ok _ (.head _)) (SL.cons ((h_39.same hc_46).ok _ (.tail _ (.head _))) (SL.cons ((h_39.same hc_46).ok _ (.tail _ (.tail _ (.head _)))) (SL.cons ((h_39.same hc_46).ok _ (.tail _ (.tail _ (.tail _ (.head _))))) (SL.cons ((h_39.same hc_46).ok _ (.tail _ (.tail _ (.tail _ (.tail _ (.head _)))))) (SL.nil _ _))))))) (fun w_44 hc_46 => ?_)
      have h_45 := h_39.same hc_46
      refine WT.q rfl (Wn.no rfl) rfl rfl (fun wq hS => R.move (v := (.slice a_24 n3 n3)) rfl) ?_
      refine WT.q rfl (Wn.no rfl) rfl rfl (fun wq hS => R.move (v := (vi ((k : Nat) : Int))) rfl) ?_
      refine WT.q rfl (Wn.no rfl) rfl rfl (fun wq hS => R.indexS (a := a_24) (i := k) (off := k) (xs := (xorL (strL key nonce n3) bs).map vu8) rfl rfl rfl (by omega) (ownView (hS _ (.tail _ (.head _)))) (by rw [len_map (xorL_len (strL_len hno _) hl3)]; omega) Try.underlying23 Try.sizeOf5 (Nat.mul_one _).symm) ?_
      refine WT.q rfl (Wn.no rfl) rfl rfl (fun wq hS => R.loadG (a := a_24) (i := k) (xs := (xorL (strL key nonce n3) bs).map vu8) (v := (vu8 ((xorL (strL key nonce n3) bs).getD k 0))) rfl (ownView (hS _ (.tail _ (.head _)))) Try.isAgg5 (get_u8 (lt_len (K := n3) (xorL_len (strL_len hno _) hl3) (by omega)))) ?_
      refine WT.q rfl (Wn.no rfl) rfl rfl (fun wq hS => R.move (v := (.slice a3 n3 cap3)) rfl) ?_
      refine WT.q rfl (Wn.no rfl) rfl rfl (fun wq hS => R.move (v := (vi ((k : Nat) : Int))) rfl) ?_
      refine WT.q rfl (Wn.no rfl) rfl rfl (fun wq hS => R.indexS (a := a3) (i := k) (off := k) (xs := bs.map vu8) rfl rfl rfl (by omega) (viewV (hS _ (.tail _ (.tail _ (.tail _ (.tail _ (.head _))))))) (by rw [len_map hl3]; omega) Try.underlying23 Try.sizeOf5 (Nat.mul_one _).symm) ?_
      refine WT.q rfl (Wn.no rfl) rfl rfl (fun wq hS => R.loadG (a := a3) (i := k) (xs := bs.map vu8) (v := (vu8 (bs.getD k 0))) rfl (viewV (hS _ (.tail _ (.tail _ (.tail _ (.tail _ (.head _))))))) Try.isAgg5 (get_u8 (lt_len (K := n3) hl3 (by omega)))) ?_
      refine WT.q rfl (Wn.no rfl) rfl rfl (fun wq hS => R.move (v := (.slice a_29 n3 cap_30)) rfl) ?_
      refine WT.q rfl (Wn.no rfl) rfl rfl (fun wq hS => R.move (v := (vi ((k : Nat) : Int))) rfl) ?_
      refine WT.q rfl (Wn.no rfl) rfl rfl (fun wq hS => R.indexS (a := a_29) (i := k) (off := k) (xs := (strL key nonce n3).map vu8) rfl rfl rfl (by omega) (ownView (hS _ (.head _))) (by rw [len_map (strL_len hno _)]; omega) Try.underlying23 Try.sizeOf5 (Nat.mul_one _).symm) ?_
      refine WT.q rfl (Wn.no rfl) rfl rfl (fun wq hS => R.loadG (a := a_29) (i := k) (xs := (strL key nonce n3).map vu8) (v := (vu8 ((strL key nonce n3).getD k 0))) rfl (ownView (hS _ (.head _))) Try.isAgg5 (get_u8 (lt_len (K := n3) (strL_len hno _) (by omega)))) ?_
      refine WT.q rfl (Wn.no rfl) rfl rfl (fun wq hS => R.bin (v := (vu8 ((bs.getD k 0) ^^^ ((strL key nonce n3).getD k 0)))) rfl rfl (b8_xor (bs.getD k 0) ((strL key nonce n3).getD k 0))) ?_
      refine WT.q rfl (Wn.no rfl) rfl rfl (fun wq hS => R.bin (v := (.bool false)) rfl rfl (b8_neq ((xorL (strL key nonce n3) bs).getD k 0) ((bs.getD k 0) ^^^ ((strL key nonce n3).getD k 0)) (r := false) (decide_eq_false (fun h => h (by rw [xorL_get (strL_len hno n3) hl3 (by omega), UInt8.xor_comm]))))) ?_
      refine WT.nil ?_
      refine thn_n ?_
      refine WP.condF rfl ?_
      refine WP.skip ?_
      refine inb_n ?_
      refine thn_n ?_
      refine WP.reg ?_
      refine WL.q (Wn.no rfl) rfl rfl (R.move (v := (vi ((k : Nat) : Int))) rfl) ?_
      refine WL.q (Wn.no rfl) rfl rfl (R.bin (v := (vi ((k + 1 : Nat) : Int))) rfl rfl (bi_add (c := ((k + 1 : Nat) : Int)) (by omega) (by omega))) ?_
      refine WL.q (Wn.no rfl) rfl rfl (R.assign (v := (vi ((k + 1 : Nat) : Int))) rfl) ?_
      refine WL.nil ?_
      refine thn_n ?_
      exact ⟨k + 1, _, (by omega), (Ag.upd rfl (Ag.upd rfl (Ag.upd rfl (Ag.upd rfl (Ag.upd rfl (Ag.upd rfl (Ag.upd rfl (Ag.upd rfl (Ag.upd rfl (Ag.upd rfl (Ag.upd rfl (Ag.upd rfl (Ag.upd rfl (Ag.upd rfl (Ag.upd rfl (Ag.upd rfl (Ag.upd rfl (Ag.upd rfl (Ag.upd rfl (Ag.upd rfl (Ag.upd rfl (Ag.updL rfl (Ag.mix _ _ _))))))))))))))))))))))), ⟨rfl, trivial⟩, h_45, (by omega), rfl⟩
    · have p_47 := of_decide_eq_false c_42
      refine WP.exit ?_
      refine thn_x ?_
      refine thn_x ?_
      refine inb_hit ?_
      refine thn_n ?_
      refine WP.seq ?_
      refine WP.reg ?_
      refine WL.call (al := []) Try.call43 rfl rfl (c_known4  _ ) rfl ?_
      rintro _ w_49 ⟨rfl, hc_48⟩
      have h_50 := h_39.same hc_48
      refine WL.q (Wn.no rfl) rfl rfl (R.assign (v := (.bool true)) rfl) ?_
      refine WL.nil ?_
      refine thn_n ?_
      refine WP.ret ?_
      refine ret_of Try.results11 (RV.tmp (v := (.bool true)) rfl RV.nil) ?_
      exact ⟨rfl, h_50.chgS⟩

theorem w_AesStreams_e2 (key nonce : List UInt8) (hkey : key.length = 16) (hno : nonce.length = 8) (n : Int) (h : n > 1048576) (a3 : Option Addr) (n3 cap3 : Nat) (bs : List UInt8) (hl3 : bs.length = n3) (hcm : n3 ≤ 9223372036854775807) (w : World) (hv3 : View w a3 (bs.map vu8)) :
    Cs Try.prog 11 [(.agg ⟨key.map vu8⟩), (.agg ⟨nonce.map vu8⟩), (vi n), (.slice a3 n3 cap3)].toArray w (fun v w1 => v = .bool true ∧ Chg w w1 []) := by
  refine Cs.of (n := 103) (args := [(.agg ⟨key.map vu8⟩), (.agg ⟨nonce.map vu8⟩), (vi n), (.slice a3 n3 cap3)]) Try.func11 rfl rfl rfl ?_
  have h_0 := HP.init w
  have h_00 := h_0.old (View.arg hv3) (fun f hf => by cases hf)
  refine WP.seq ?_
  refine WP.reg ?_
  refine WL.box (v := (.agg ⟨key.map vu8⟩)) (segs := [(16, key.map vu8)]) h_00 rfl rfl (SsOk.cons (SOk.u8 hkey) SsOk.nil) rfl (fun b_1 w_2 h_3 => ?_)
  refine WL.box (v := (.agg ⟨nonce.map vu8⟩)) (segs := [(8, nonce.map vu8)]) h_3 rfl rfl (SsOk.cons (SOk.u8 hno) SsOk.nil) rfl (fun b_4 w_5 h_6 => ?_)
  refine WL.q (Wn.no rfl) rfl rfl (R.assign (v := (.bool false)) rfl) ?_
  refine WL.nil ?_
  refine thn_n ?_
  refine WP.seq ?_
  refine WP.seq ?_
  refine WP.reg ?_
  refine WL.q (Wn.no rfl) rfl rfl (R.move (v := (vi n)) rfl) ?_
  refine WL.q (Wn.no rfl) rfl rfl (R.bin (v := (.bool (decide ((n : Int) > 600)))) rfl rfl (bi_gtr (r := decide ((n : Int) > 600)) rfl)) ?_
  refine WL.q (Wn.no rfl) rfl rfl (R.move (v := (.bool (decide ((n : Int) > 600)))) rfl) ?_
  refine WL.want rfl (congrArg Value.bool (decide_eq_true (by omega))) ?_
  refine WL.q (Wn.no rfl) rfl rfl (R.move (v := (vi n)) rfl) ?_
  refine WL.want rfl (congrArg Value.bool (decide_eq_true (by omega))) ?_
  refine WL.q (Wn.no rfl) rfl rfl (R.bin (v := (.bool (decide ((n : Int) ≤ 1048576)))) rfl rfl (bi_leq (r := decide ((n : Int) ≤ 1048576)) rfl)) ?_
  refine WL.q (Wn.no rfl) rfl rfl (R.pickT (v := (.bool (decide ((n : Int) ≤ 1048576)))) (congrArg Value.bool (decide_eq_true (by omega))) rfl) ?_
  refine WL.q (Wn.no rfl) rfl rfl (R.move (v := (.bool (decide ((n : Int) ≤ 1048576)))) rfl) ?_
  refine WL.want rfl (congrArg Value.bool (decide_eq_false (by omega))) ?_
  refine WL.q (Wn.no rfl) rfl rfl (R.move (v := (.slice a3 n3 cap3)) rfl) ?_
  refine WL.want rfl (congrArg Value.bool (decide_eq_false (by omega))) ?_
  refine WL.q (Wn.no rfl) rfl rfl (R.lenS (a := a3) (m := n3) rfl rfl Try.underlying23) ?_
  refine WL.want rfl (congrArg Value.bool (decide_eq_false (by omega))) ?_
  refine WL.q (Wn.no rfl) rfl rfl (R.bin (v := (.bool (decide ((((n3 : Nat) : Int) : Int) > 600)))) rfl rfl (bi_gtr (r := decide ((((n3 : Nat) : Int) : Int) > 600)) rfl)) ?_
  refine WL.q (Wn.no rfl) rfl rfl (R.pickF (v := (.bool (decide ((((n3 : Nat) : Int) : Int) > 600)))) (congrArg Value.bool (decide_eq_false (by omega))) rfl) ?_
  refine WL.nil ?_
  refine thn_n ?_
  refine WP.cond (b := decide ((((n3 : Nat) : Int) : Int) > 600)) rfl (fun c_7 => ?_) (fun c_7 => ?_)
  · have p_8 := of_decide_eq_true c_7
    refine WP.seq ?_
    refine WP.reg ?_
    refine WL.call (al := []) Try.call43 rfl rfl (c_known4  _ ) rfl ?_
    rintro _ w_10 ⟨rfl, hc_9⟩
    have h_11 := h_6.same hc_9
    refine WL.q (Wn.no rfl) rfl rfl (R.assign (v := (.bool true)) rfl) ?_
    refine WL.nil ?_
    refine thn_n ?_
    refine WP.ret ?_
    refine thn_r ?_
    refine ret_of Try.results11 (RV.tmp (v := (.bool true)) rfl RV.nil) ?_
    exact ⟨rfl, h_11.chgS⟩
  · have p_12 := of_decide_eq_false c_7
    refine WP.skip ?_
    refine thn_n ?_
    refine WP.seq ?_
    refine WP.reg ?_
    refine WL.q (Wn.no rfl) rfl rfl (R.loadA (b := b_1) (off := 0) [] [(16, key.map vu8)] [] (cs := key.map vu8) rfl Try.isAgg66 Try.sizeOf66 (h_6.ok _ (.tail _ (.head _))) rfl rfl rfl rfl) ?_
    refine WL.q (Wn.no rfl) rfl rfl (R.loadA (b := b_4) (off := 0) [] [(8, nonce.map vu8)] [] (cs := nonce.map vu8) rfl Try.isAgg67 Try.sizeOf67 (h_6.ok _ (.head _)) rfl rfl rfl rfl) ?_
    refine WL.q (Wn.no rfl) rfl rfl (R.move (v := (vi n)) rfl) ?_
    refine WL.call (al := [(.agg ⟨key.map vu8⟩), (.agg ⟨nonce.map vu8⟩), (vi n)]) Try.call53 rfl rfl (c_Stream_e2 key nonce hkey hno n (by omega) _ ) rfl ?_
    rintro _ w_19 ⟨rfl, hc_18⟩
    have h_20 := h_6.same hc_18
    refine WL.q (Wn.no rfl) rfl rfl (R.move (v := (.tuple [(.slice none 0 0), (vi 2)].toArray)) rfl) ?_
    refine WL.q (Wn.no rfl) rfl rfl (R.extract (l := [(.slice none 0 0), (vi 2)]) (v := (.slice none 0 0)) rfl rfl) ?_
    refine WL.q (Wn.no rfl) rfl rfl (R.extract (l := [(.slice none 0 0), (vi 2)]) (v := (vi 2)) rfl rfl) ?_
    refine WL.q (Wn.no rfl) rfl rfl (R.assign (v := (.slice none 0 0)) rfl) ?_
    refine WL.q (Wn.no rfl) rfl rfl (R.assign (v := (vi 2)) rfl) ?_
    refine WL.nil ?_
    refine thn_n ?_
    refine WP.seq ?_
    refine WP.seq ?_
    refine WP.reg ?_
    refine WL.q (Wn.no rfl) rfl rfl (R.move (v := (vi n)) rfl) ?_
    refine WL.q (Wn.no rfl) rfl rfl (R.bin (v := (.bool (decide ((n : Int) < 0)))) rfl rfl (bi_lss (r := decide ((n : Int) < 0)) rfl)) ?_
    refine WL.q (Wn.no rfl) rfl rfl (R.move (v := (.bool (decide ((n : Int) < 0)))) rfl) ?_
    refine WL.want rfl (congrArg Value.bool (decide_eq_false (by omega))) ?_
    refine WL.q (Wn.no rfl) rfl rfl (R.move (v := (vi n)) rfl) ?_
    refine WL.want rfl (congrArg Value.bool (decide_eq_false (by omega))) ?_
    refine WL.q (Wn.no rfl) rfl rfl (R.bin (v := (.bool (decide ((n : Int) > 1048576)))) rfl rfl (bi_gtr (r := decide ((n : Int) > 1048576)) rfl)) ?_
    refine WL.q (Wn.no rfl) rfl rfl (R.pickF (v := (.bool (decide ((n : Int) > 1048576)))) (congrArg Value.bool (decide_eq_false (by omega))) rfl) ?_
    refine WL.nil ?_
    refine thn_n ?_
    refine WP.condT (congrArg Value.bool (decide_eq_true (by omega))) ?_
    refine WP.seq ?_
    refine WP.reg ?_
    refine WL.q (Wn.no rfl) rfl rfl (R.move (v := (.slice none 0 0)) rfl) ?_
    refine WL.q (Wn.no rfl) rfl rfl (R.lenS (a := none) (m := 0) rfl rfl Try.underlying23) ?_
    refine WL.q (Wn.no rfl) rfl rfl (R.bin (v := (.bool false)) rfl rfl (bi_neq (r := false) (by decide))) ?_
    refine WL.q (Wn.no rfl) rfl rfl (R.move (v := (.bool false)) rfl) ?_
    refine WL.want rfl rfl ?_
    refine WL.q (Wn.no rfl) rfl rfl (R.move (v := (vi 2)) rfl) ?_
    refine WL.want rfl rfl ?_
    refine WL.call (al := [(vi 2)]) Try.call54 rfl rfl (c_num4 2 (by omega) _ ) rfl ?_
    rintro _ w_22 ⟨rfl, hc_21⟩
    have h_23 := h_20.same hc_21
    refine WL.want rfl rfl ?_
    refine WL.q (Wn.no rfl) rfl rfl (R.bin (v := (.bool false)) rfl rfl (bi_neq (r := false) (by decide))) ?_
    refine WL.q (Wn.no rfl) rfl rfl (R.pickF (v := (.bool false)) rfl rfl) ?_
    refine WL.nil ?_
    refine thn_n ?_
    refine WP.condF rfl ?_
    refine WP.skip ?_
    refine thn_n ?_
    refine WP.seq ?_
    refine WP.reg ?_
    refine WL.q (Wn.no rfl) rfl rfl (R.loadA (b := b_1) (off := 0) [] [(16, key.map vu8)] [] (cs := key.map vu8) rfl Try.isAgg66 Try.sizeOf66 (h_23.ok _ (.tail _ (.head _))) rfl rfl rfl rfl) ?_
    refine WL.q (Wn.no rfl) rfl rfl (R.loadA (b := b_4) (off := 0) [] [(8, nonce.map vu8)] [] (cs := nonce.map vu8) rfl Try.isAgg67 Try.sizeOf67 (h_23.ok _ (.head _)) rfl rfl rfl rfl) ?_
    refine WL.q (Wn.no rfl) rfl rfl (R.move (v := (.slice a3 n3 cap3)) rfl) ?_
    refine WL.call (al := [(.agg ⟨key.map vu8⟩), (.agg ⟨nonce.map vu8⟩), (.slice a3 n3 cap3)]) Try.call56 rfl rfl (c_Mask_n key nonce hkey hno a3 n3 cap3 bs hl3 (by omega) _ (viewV (h_23.ok _ (.tail _ (.tail _ (.head _)))))) rfl ?_
    rintro _ w_25 ⟨a_24, rfl, hc_26, ho_27⟩
    have h_28 := h_23.gotRow hc_26 ho_27
    refine WL.q (Wn.no rfl) rfl rfl (R.move (v := (.tuple [(.slice a_24 n3 n3), (vi 0)].toArray)) rfl) ?_
    refine WL.q (Wn.no rfl) rfl rfl (R.extract (l := [(.slice a_24 n3 n3), (vi 0)]) (v := (.slice a_24 n3 n3)) rfl rfl) ?_
    refine WL.q (Wn.no rfl) rfl rfl (R.extract (l := [(.slice a_24 n3 n3), (vi 0)]) (v := (vi 0)) rfl rfl) ?_
    refine WL.q (Wn.no rfl) rfl rfl (R.assign (v := (.slice a_24 n3 n3)) rfl) ?_
    refine WL.q (Wn.no rfl) rfl rfl (R.assign (v := (vi 0)) rfl) ?_
    refine WL.nil ?_
    refine thn_n ?_
    refine WP.seq ?_
    refine WP.reg ?_
    refine WL.q (Wn.no rfl) rfl rfl (R.loadA (b := b_1) (off := 0) [] [(16, key.map vu8)] [] (cs := key.map vu8) rfl Try.isAgg66 Try.sizeOf66 (h_28.ok _ (.tail _ (.tail _ (.head _)))) rfl rfl rfl rfl) ?_
    refine WL.q (Wn.no rfl) rfl rfl (R.loadA (b := b_4) (off := 0) [] [(8, nonce.map vu8)] [] (cs := nonce.map vu8) rfl Try.isAgg67 Try.sizeOf67 (h_28.ok _ (.tail _ (.head _))) rfl rfl rfl rfl) ?_
    refine WL.q (Wn.no rfl) rfl rfl (R.move (v := (.slice a3 n3 cap3)) rfl) ?_
    refine WL.q (Wn.no rfl) rfl rfl (R.lenS (a := a3) (m := n3) rfl rfl Try.underlying23) ?_
    refine WL.call (al := [(.agg ⟨key.map vu8⟩), (.agg ⟨nonce.map vu8⟩), (vi ((n3 : Nat) : Int))]) Try.call55 rfl rfl (c_StreamR key nonce hkey hno n3 (by omega) _) rfl ?_
    rintro _ w_31 ⟨a_29, cap_30, rfl, hc_32, ho_33⟩
    have h_34 := h_28.gotRow hc_32 ho_33
    refine WL.q (Wn.no rfl) rfl rfl (R.assign (v := (.slice a_29 n3 cap_30)) rfl) ?_
    refine WL.nil ?_
    refine thn_n ?_
    refine WP.seq ?_
    refine WP.seq ?_
    refine WP.reg ?_
    refine WL.q (Wn.no rfl) rfl rfl (R.move (v := (.slice a_24 n3 n3)) rfl) ?_
    refine WL.q (Wn.no rfl) rfl rfl (R.lenS (a := a_24) (m := n3) rfl rfl Try.underlying23) ?_
    refine WL.q (Wn.no rfl) rfl rfl (R.move (v := (.slice a3 n3 cap3)) rfl) ?_
    refine WL.q (Wn.no rfl) rfl rfl (R.lenS (a := a3) (m := n3) rfl rfl Try.underlying23) ?_
    refine WL.q (Wn.no rfl) rfl rfl (R.bin (v := (.bool false)) rfl rfl (bi_neq (r := false) (by simp))) ?_
    refine WL.q (Wn.no rfl) rfl rfl (R.move (v := (.bool false)) rfl) ?_
    refine WL.want rfl rfl ?_
    refine WL.q (Wn.no rfl) rfl rfl (R.move (v := (vi 0)) rfl) ?_
    refine WL.want rfl rfl ?_
    refine WL.call (al := [(vi 0)]) Try.call54 rfl rfl (c_num4 0 (by omega) _ ) rfl ?_
    rintro _ w_36 ⟨rfl, hc_35⟩
    have h_37 := h_34.same hc_35
    refine WL.want rfl rfl ?_
    refine WL.q (Wn.no rfl) rfl rfl (R.bin (v := (.bool false)) rfl rfl (bi_neq (r := false) (by decide))) ?_
    refine WL.q (Wn.no rfl) rfl rfl (R.pickF (v := (.bool false)) rfl rfl) ?_
    refine WL.nil ?_
    refine thn_n ?_
    refine WP.condF rfl ?_
    refine WP.skip ?_
    refine thn_n ?_
    refine WP.seq ?_
    refine WP.seq ?_
    refine WP.reg ?_
    refine WL.q (Wn.no rfl) rfl rfl (R.assign (v := (vi 0)) rfl) ?_
    refine WL.nil ?_
    refine thn_n ?_
    refine WP.block ?_
    refine WP.loopG (G := Nat) [8, 14, 82, 83, 84, 85, 86, 87, 88, 89, 90, 91, 92, 93, 94, 95, 96, 97, 98, 99, 100, 101] (fun k => [(14, (vi ((k : Nat) : Int)))]) (fun k m w1 => HP w w1 [.row a_29 n3 cap_30 5 1 ((strL key nonce n3).map vu8), .row a_24 n3 n3 5 1 ((xorL (strL key nonce n3) bs).map vu8), .blk b_4 .nw 67 [(8, nonce.map vu8)], .blk b_1 .nw 66 [(16, key.map vu8)], .view a3 (bs.map vu8)] ∧ (k ≤ n3) ∧ m = n3 - k) ⟨0, _, ⟨rfl, trivial⟩, h_37, (by omega), rfl⟩ ?_
    rintro k m_40 J_41 w_38 ⟨h_39, hk, rfl⟩
    refine WP.seq ?_
    refine WP.seq ?_
    refine WP.reg ?_
    refine WL.q (Wn.no rfl) rfl rfl (R.move (v := (vi ((k : Nat) : Int))) rfl) ?_
    refine WL.q (Wn.no rfl) rfl rfl (R.move (v := (.slice a3 n3 cap3)) rfl) ?_
    refine WL.q (Wn.no rfl) rfl rfl (R.lenS (a := a3) (m := n3) rfl rfl Try.underlying23) ?_
    refine WL.q (Wn.no rfl) rfl rfl (R.bin (v := (.bool (decide ((((k : Nat) : Int) : Int) < ((n3 : Nat) : Int))))) rfl rfl (bi_lss (r := decide ((((k : Nat) : Int) : Int) < ((n3 : Nat) : Int))) rfl)) ?_
    refine WL.nil ?_
    refine thn_n ?_
    refine WP.cond (b := decide ((((k : Nat) : Int) : Int) < ((n3 : Nat) : Int))) rfl (fun c_42 => ?_) (fun c_42 => ?_)
    · have p_43 := of_decide_eq_true c_42
      refine WP.skip ?_
      refine thn_n ?_
      refine WP.seq ?_
      refine WP.block ?_
      refine WP.seq ?_
      refine WP.drawT (SL w.heap.size [.row a_29 n3 cap_30 5 1 ((strL key nonce n3).map vu8), .row a_24 n3 n3 5 1 ((xorL (strL key nonce n3) bs).map vu8), .blk b_4 .nw 67 [(8, nonce.map vu8)], .blk b_1 .nw 66 [(16, key.map vu8)], .view a3 (bs.map vu8)]) (.q 0 (.q 1 (.q 2 (.q 3 (.q 4 (.q 5 (.q 6 (.q 7 (.q 8 (.q 9 (.q 10 (.q 11 (.q 12 (.q 13 .nil)))))))))))))) (by kernel_rfl) (by kernel_rfl) rfl (by kernel_rfl) (fun w_44 hc_46 => (SL.cons ((h_39.same hc_46).ok _ (.head _)) (SL.cons ((h_39.same hc_46).ok _ (.tail _ (.head _))) (SL.cons ((h_39.same hc_46).ok _ (.tail _ (.tail _ (.head _)))) (SL.cons ((h_39.same hc_46).ok _ (.tail _ (.tail _ (.tail _ (.head _))))) (SL.cons ((h_39.same hc_46).ok _ (.tail _ (.tail _ (.tail _ (.tail _ (.head _)))))) (SL.nil _ _))))))) (fun w_44 hc_46 => ?_)
      have h_45 := h_39.same hc_46
      refine WT.q rfl (Wn.no rfl) rfl rfl (fun wq hS => R.move (v := (.slice a_24 n3 n3)) rfl) ?_
      refine WT.q rfl (Wn.no rfl) rfl rfl (fun wq hS => R.move (v := (vi ((k : Nat) : Int))) rfl) ?_
      refine WT.q rfl (Wn.no rfl) rfl rfl (fun wq hS => R.indexS (a := a_24) (i := k) (off := k) (xs := (xorL (strL key nonce n3) bs).map vu8) rfl rfl rfl (by omega) (ownView (hS _ (.tail _ (.head _)))) (by rw [len_map (xorL_len (strL_len hno _) hl3)]; omega) Try.underlying23 Try.sizeOf5 (Nat.mul_one _).symm) ?_
      refine WT.q rfl (Wn.no rfl) rfl rfl (fun wq hS => R.loadG (a := a_24) (i := k) (xs := (xorL (strL key nonce n3) bs).map vu8) (v := (vu8 ((xorL (strL key nonce n3) bs).getD k 0))) rfl (ownView (hS _ (.tail _ (.head _)))) Try.isAgg5 (get_u8 (lt_len (K := n3) (xorL_len (strL_len hno _) hl3) (by omega)))) ?_
      refine WT.q rfl (Wn.no rfl) rfl rfl (fun wq hS => R.move (v := (.slice a3 n3 cap3)) rfl) ?_
      refine WT.q rfl (Wn.no rfl) rfl rfl (fun wq hS => R.move (v := (vi ((k : Nat) : Int))) rfl) ?_
      refine WT.q rfl (Wn.no rfl) rfl rfl (fun wq hS => R.indexS (a := a3) (i := k) (off := k) (xs := bs.map vu8) rfl rfl rfl (by omega) (viewV (hS _ (.tail _ (.tail _ (.tail _ (.tail _ (.head _))))))) (by rw [len_map hl3]; omega) Try.underlying23 Try.sizeOf5 (Nat.mul_one _).symm) ?_
      refine WT.q rfl (Wn.no rfl) rfl rfl (fun wq hS => R.loadG (a := a3) (i := k) (xs := bs.map vu8) (v := (vu8 (bs.getD k 0))) rfl (viewV (hS _ (.tail _ (.tail _ (.tail _ (.tail _ (.head _))))))) Try.isAgg5 (get_u8 (lt_len (K := n3) hl3 (by omega)))) ?_
      refine WT.q rfl (Wn.no rfl) rfl rfl (fun wq hS => R.move (v := (.slice a_29 n3 cap_30)) rfl) ?_
      refine WT.q rfl (Wn.no rfl) rfl rfl (fun wq hS => R.move (v := (vi ((k : Nat) : Int))) rfl) ?_
      refine WT.q rfl (Wn.no rfl) rfl rfl (fun wq hS => R.indexS (a := a_29) (i := k) (off := k) (xs := (strL key nonce n3).map vu8) rfl rfl rfl (by omega) (ownView (hS _ (.head _))) (by rw [len_map (strL_len hno _)]; omega) Try.underlying23 Try.sizeOf5 (Nat.mul_one _).symm) ?_
      refine WT.q rfl (Wn.no rfl) rfl rfl (fun wq hS => R.loadG (a := a_29) (i := k) (xs := (strL key nonce n3).map vu8) (v := (vu8 ((strL key nonce n3).getD k 0))) rfl (ownView (hS _ (.head _))) Try.isAgg5 (get_u8 (lt_len (K := n3) (strL_len hno _) (by omega)))) ?_
      refine WT.q rfl (Wn.no rfl) rfl rfl (fun wq hS => R.bin (v := (vu8 ((bs.getD k 0) ^^^ ((strL key nonce n3).getD k 0)))) rfl rfl (b8_xor (bs.getD k 0) ((strL key nonce n3).getD k 0))) ?_
      refine WT.q rfl (Wn.no rfl) rfl rfl (fun wq hS => R.bin (v := (.bool false)) rfl rfl (b8_neq ((xorL (strL key nonce n3) bs).getD k 0) ((bs.getD k 0) ^^^ ((strL key nonce n3).getD k 0)) (r := false) (decide_eq_false (fun h => h (by rw [xorL_get (strL_len hno n3) hl3 (by omega), UInt8.xor_comm]))))) ?_
      refine WT.nil ?_
      refine thn_n ?_
      refine WP.condF rfl ?_
      refine WP.skip ?_
      refine inb_n ?_
      refine thn_n ?_
      refine WP.reg ?_
      refine WL.q (Wn.no rfl) rfl rfl (R.move (v := (vi ((k : Nat) : Int))) rfl) ?_
      refine WL.q (Wn.no rfl) rfl rfl (R.bin (v := (vi ((k + 1 : Nat) : Int))) rfl rfl (bi_add (c := ((k + 1 : Nat) : Int)) (by omega) (by omega))) ?_
      refine WL.q (Wn.no rfl) rfl rfl (R.assign (v := (vi ((k + 1 : Nat) : Int))) rfl) ?_
      refine WL.nil ?_
      refine thn_n ?_
      exact ⟨k + 1, _, (by omega), (Ag.upd rfl (Ag.upd rfl (Ag.upd rfl (Ag.upd rfl (Ag.upd rfl (Ag.upd rfl (Ag.upd rfl (Ag.upd rfl (Ag.upd rfl (Ag.upd rfl (Ag.upd rfl (Ag.upd rfl (Ag.upd rfl (Ag.upd rfl (Ag.upd rfl (Ag.upd rfl (Ag.upd rfl (Ag.upd rfl (Ag.upd rfl (Ag.upd rfl (Ag.upd rfl (Ag.updL rfl (Ag.mix _ _ _))))))))))))))))))))))), ⟨rfl, trivial⟩, h_45, (by omega), rfl⟩
    · have p_47 := of_decide_eq_false c_42
      refine WP.exit ?_
      refine thn_x ?_
      refine thn_x ?_
      refine inb_hit ?_
      refine thn_n ?_
      refine WP.seq ?_
      refine WP.reg ?_
      refine WL.call (al := []) Try.call43 rfl rfl (c_known4  _ ) rfl ?_
      rintro _ w_49 ⟨rfl, hc_48⟩
      have h_50 := h_39.same hc_48
      refine WL.q (Wn.no rfl) rfl rfl (R.assign (v := (.bool true)) rfl) ?_
      refine WL.nil ?_
      refine thn_n ?_
      refine WP.ret ?_
      refine ret_of Try.results11 (RV.tmp (v := (.bool true)) rfl RV.nil) ?_
      exact ⟨rfl, h_50.chgS⟩

theorem w_AesStreams_m (key nonce : List UInt8) (hkey : key.length = 16) (hno : nonce.length = 8) (n : Int) (h : n > 600 ∧ n ≤ 1048576) (a3 : Option Addr) (n3 cap3 : Nat) (bs : List UInt8) (hl3 : bs.length = n3) (hcm : n3 ≤ 9223372036854775807) (w : World) (hv3 : View w a3 (bs.map vu8)) :
    Cs Try.prog 11 [(.agg ⟨key.map vu8⟩), (.agg ⟨nonce.map vu8⟩), (vi n), (.slice a3 n3 cap3)].toArray w (fun v w1 => v = .bool true ∧ Chg w w1 []) := by
  refine Cs.of (n := 103) (args := [(.agg ⟨key.map vu8⟩), (.agg ⟨nonce.map vu8⟩), (vi n), (.slice a3 n3 cap3)]) Try.func11 rfl rfl rfl ?_
  have h_0 := HP.init w
  have h_00 := h_0.old (View.arg hv3) (fun f hf => by cases hf)
  refine WP.seq ?_
  refine WP.reg ?_
  refine WL.box (v := (.agg ⟨key.map vu8⟩)) (segs := [(16, key.map vu8)]) h_00 rfl rfl (SsOk.cons (SOk.u8 hkey) SsOk.nil) rfl (fun b_1 w_2 h_3 => ?_)
  refine WL.box (v := (.agg ⟨nonce.map vu8⟩)) (segs := [(8, nonce.map vu8)]) h_3 rfl rfl (SsOk.cons (SOk.u8 hno) SsOk.nil) rfl (fun b_4 w_5 h_6 => ?_)
  refine WL.q (Wn.no rfl) rfl rfl (R.assign (v := (.bool false)) rfl) ?_
  refine WL.nil ?_
  refine thn_n ?_
  refine WP.seq ?_
  refine WP.seq ?_
  refine WP.reg ?_
  refine WL.q (Wn.no rfl) rfl rfl (R.move (v := (vi n)) rfl) ?_
  refine WL.q (Wn.no rfl) rfl rfl (R.bin (v := (.bool (decide ((n : Int) > 600)))) rfl rfl (bi_gtr (r := decide ((n : Int) > 600)) rfl)) ?_
  refine WL.q (Wn.no rfl) rfl rfl (R.move (v := (.bool (decide ((n : Int) > 600)))) rfl) ?_
  refine WL.want rfl (congrArg Value.bool (decide_eq_true (by omega))) ?_
  refine WL.q (Wn.no rfl) rfl rfl (R.move (v := (vi n)) rfl) ?_
  refine WL.want rfl (congrArg Value.bool (decide_eq_true (by omega))) ?_
  refine WL.q (Wn.no rfl) rfl rfl (R.bin (v := (.bool (decide ((n : Int) ≤ 1048576)))) rfl rfl (bi_leq (r := decide ((n : Int) ≤ 1048576)) rfl)) ?_
  refine WL.q (Wn.no rfl) rfl rfl (R.pickT (v := (.bool (decide ((n : Int) ≤ 1048576)))) (congrArg Value.bool (decide_eq_true (by omega))) rfl) ?_
  refine WL.q (Wn.no rfl) rfl rfl (R.move (v := (.bool (decide ((n : Int) ≤ 1048576)))) rfl) ?_
  refine WL.skip rfl (congrArg Value.bool (decide_eq_true (by omega))) rfl ?_
  refine WL.skip rfl (congrArg Value.bool (decide_eq_true (by omega))) rfl ?_
  refine WL.skip rfl (congrArg Value.bool (decide_eq_true (by omega))) rfl ?_
  refine WL.q (Wn.no rfl) rfl rfl (R.pickT (v := (.bool true)) (congrArg Value.bool (decide_eq_true (by omega))) rfl) ?_
  refine WL.nil ?_
  refine thn_n ?_
  refine WP.condT rfl ?_
  refine WP.seq ?_
  refine WP.reg ?_
  refine WL.call (al := []) Try.call43 rfl rfl (c_known4  _ ) rfl ?_
  rintro _ w_8 ⟨rfl, hc_7⟩
  have h_9 := h_6.same hc_7
  refine WL.q (Wn.no rfl) rfl rfl (R.assign (v := (.bool true)) rfl) ?_
  refine WL.nil ?_
  refine thn_n ?_
  refine WP.ret ?_
  refine thn_r ?_
  refine ret_of Try.results11 (RV.tmp (v := (.bool true)) rfl RV.nil) ?_
  exact ⟨rfl, h_9.chgS⟩

theorem w_AesStreams_ok (key nonce : List UInt8) (hkey : key.length = 16) (hno : nonce.length = 8) (n : Nat) (h : n ≤ 600) (a3 : Option Addr) (n3 cap3 : Nat) (bs : List UInt8) (hl3 : bs.length = n3) (hcm : n3 ≤ 9223372036854775807) (w : World) (hv3 : View w a3 (bs.map vu8)) :
    Cs Try.prog 11 [(.agg ⟨key.map vu8⟩), (.agg ⟨nonce.map vu8⟩), (vi ((n : Nat) : Int)), (.slice a3 n3 cap3)].toArray w (fun v w1 => v = .bool true ∧ Chg w w1 []) := by
  refine Cs.of (n := 103) (args := [(.agg ⟨key.map vu8⟩), (.agg ⟨nonce.map vu8⟩), (vi ((n : Nat) : Int)), (.slice a3 n3 cap3)]) Try.func11 rfl rfl rfl ?_
  have h_0 := HP.init w
  have h_00 := h_0.old (View.arg hv3) (fun f hf => by cases hf)
  refine WP.seq ?_
  refine WP.reg ?_
  refine WL.box (v := (.agg ⟨key.map vu8⟩)) (segs := [(16, key.map vu8)]) h_00 rfl rfl (SsOk.cons (SOk.u8 hkey) SsOk.nil) rfl (fun b_1 w_2 h_3 => ?_)
  refine WL.box (v := (.agg ⟨nonce.map vu8⟩)) (segs := [(8, nonce.map vu8)]) h_3 rfl rfl (SsOk.cons (SOk.u8 hno) SsOk.nil) rfl (fun b_4 w_5 h_6 => ?_)
  refine WL.q (Wn.no rfl) rfl rfl (R.assign (v := (.bool false)) rfl) ?_
  refine WL.nil ?_
  refine thn_n ?_
  refine WP.seq ?_
  refine WP.seq ?_
  refine WP.reg ?_
  refine WL.q (Wn.no rfl) rfl rfl (R.move (v := (vi ((n : Nat) : Int))) rfl) ?_
  refine WL.q (Wn.no rfl) rfl rfl (R.bin (v := (.bool (decide ((((n : Nat) : Int) : Int) > 600)))) rfl rfl (bi_gtr (r := decide ((((n : Nat) : Int) : Int) > 600)) rfl)) ?_
  refine WL.q (Wn.no rfl) rfl rfl (R.move (v := (.bool (decide ((((n : Nat) : Int) : Int) > 600)))) rfl) ?_
  refine WL.skip rfl (congrArg Value.bool (decide_eq_false (by omega))) rfl ?_
  refine WL.skip rfl (congrArg Value.bool (decide_eq_false (by omega))) rfl ?_
  refine WL.q (Wn.no rfl) rfl rfl (R.pickF (v := (.bool false)) (congrArg Value.bool (decide_eq_false (by omega))) rfl) ?_
  refine WL.q (Wn.no rfl) rfl rfl (R.move (v := (.bool false)) rfl) ?_
  refine WL.want rfl rfl ?_
  refine WL.q (Wn.no rfl) rfl rfl (R.move (v := (.slice a3 n3 cap3)) rfl) ?_
  refine WL.want rfl rfl ?_
  refine WL.q (Wn.no rfl) rfl rfl (R.lenS (a := a3) (m := n3) rfl rfl Try.underlying23) ?_
  refine WL.want rfl rfl ?_
  refine WL.q (Wn.no rfl) rfl rfl (R.bin (v := (.bool (decide ((((n3 : Nat) : Int) : Int) > 600)))) rfl rfl (bi_gtr (r := decide ((((n3 : Nat) : Int) : Int) > 600)) rfl)) ?_
  refine WL.q (Wn.no rfl) rfl rfl (R.pickF (v := (.bool (decide ((((n3 : Nat) : Int) : Int) > 600)))) rfl rfl) ?_
  refine WL.nil ?_
  refine thn_n ?_
  refine WP.cond (b := decide ((((n3 : Nat) : Int) : Int) > 600)) rfl (fun c_7 => ?_) (fun c_7 => ?_)
  · have p_8 := of_decide_eq_true c_7
    refine WP.seq ?_
    refine WP.reg ?_
    refine WL.call (al := []) Try.call43 rfl rfl (c_known4  _ ) rfl ?_
    rintro _ w_10 ⟨rfl, hc_9⟩
    have h_11 := h_6.same hc_9
    refine WL.q (Wn.no rfl) rfl rfl (R.assign (v := (.bool true)) rfl) ?_
    refine WL.nil ?_
    refine thn_n ?_
    refine WP.ret ?_
    refine thn_r ?_
    refine ret_of Try.results11 (RV.tmp (v := (.bool true)) rfl RV.nil) ?_
    exact ⟨rfl, h_11.chgS⟩
  · have p_12 := of_decide_eq_false c_7
    refine WP.skip ?_
    refine thn_n ?_
    refine WP.seq ?_
    refine WP.reg ?_
    refine WL.q (Wn.no rfl) rfl rfl (R.loadA (b := b_1) (off := 0) [] [(16, key.map vu8)] [] (cs := key.map vu8) rfl Try.isAgg66 Try.sizeOf66 (h_6.ok _ (.tail _ (.head _))) rfl rfl rfl rfl) ?_
    refine WL.q (Wn.no rfl) rfl rfl (R.loadA (b := b_4) (off := 0) [] [(8, nonce.map vu8)] [] (cs := nonce.map vu8) rfl Try.isAgg67 Try.sizeOf67 (h_6.ok _ (.head _)) rfl rfl rfl rfl) ?_
    refine WL.q (Wn.no rfl) rfl rfl (R.move (v := (vi ((n : Nat) : Int))) rfl) ?_
    refine WL.call (al := [(.agg ⟨key.map vu8⟩), (.agg ⟨nonce.map vu8⟩), (vi ((n : Nat) : Int))]) Try.call53 rfl rfl (c_Stream_n key nonce hkey hno n (by omega) _) rfl ?_
    rintro _ w_14 ⟨a_13, rfl, hc_15, ho_16⟩
    have h_17 := h_6.gotRow hc_15 ho_16
    refine WL.q (Wn.no rfl) rfl rfl (R.move (v := (.tuple [(.slice a_13 n n), (vi 0)].toArray)) rfl) ?_
    refine WL.q (Wn.no rfl) rfl rfl (R.extract (l := [(.slice a_13 n n), (vi 0)]) (v := (.slice a_13 n n)) rfl rfl) ?_
    refine WL.q (Wn.no rfl) rfl rfl (R.extract (l := [(.slice a_13 n n), (vi 0)]) (v := (vi 0)) rfl rfl) ?_
    refine WL.q (Wn.no rfl) rfl rfl (R.assign (v := (.slice a_13 n n)) rfl) ?_
    refine WL.q (Wn.no rfl) rfl rfl (R.assign (v := (vi 0)) rfl) ?_
    refine WL.nil ?_
    refine thn_n ?_
    refine WP.seq ?_
    refine WP.seq ?_
    refine WP.reg ?_
    refine WL.q (Wn.no rfl) rfl rfl (R.move (v := (vi ((n : Nat) : Int))) rfl) ?_
    refine WL.q (Wn.no rfl) rfl rfl (R.bin (v := (.bool (decide ((((n : Nat) : Int) : Int) < 0)))) rfl rfl (bi_lss (r := decide ((((n : Nat) : Int) : Int) < 0)) rfl)) ?_
    refine WL.q (Wn.no rfl) rfl rfl (R.move (v := (.bool (decide ((((n : Nat) : Int) : Int) < 0)))) rfl) ?_
    refine WL.want rfl (congrArg Value.bool (decide_eq_false (by omega))) ?_
    refine WL.q (Wn.no rfl) rfl rfl (R.move (v := (vi ((n : Nat) : Int))) rfl) ?_
    refine WL.want rfl (congrArg Value.bool (decide_eq_false (by omega))) ?_
    refine WL.q (Wn.no rfl) rfl rfl (R.bin (v := (.bool (decide ((((n : Nat) : Int) : Int) > 1048576)))) rfl rfl (bi_gtr (r := decide ((((n : Nat) : Int) : Int) > 1048576)) rfl)) ?_
    refine WL.q (Wn.no rfl) rfl rfl (R.pickF (v := (.bool (decide ((((n : Nat) : Int) : Int) > 1048576)))) (congrArg Value.bool (decide_eq_false (by omega))) rfl) ?_
    refine WL.nil ?_
    refine thn_n ?_
    refine WP.condF (congrArg Value.bool (decide_eq_false (by omega))) ?_
    refine WP.seq ?_
    refine WP.reg ?_
    refine WL.q (Wn.no rfl) rfl rfl (R.move (v := (.slice a_13 n n)) rfl) ?_
    refine WL.q (Wn.no rfl) rfl rfl (R.loadA (b := b_1) (off := 0) [] [(16, key.map vu8)] [] (cs := key.map vu8) rfl Try.isAgg66 Try.sizeOf66 (h_17.ok _ (.tail _ (.tail _ (.head _)))) rfl rfl rfl rfl) ?_
    refine WL.q (Wn.no rfl) rfl rfl (R.loadA (b := b_4) (off := 0) [] [(8, nonce.map vu8)] [] (cs := nonce.map vu8) rfl Try.isAgg67 Try.sizeOf67 (h_17.ok _ (.tail _ (.head _))) rfl rfl rfl rfl) ?_
    refine WL.q (Wn.no rfl) rfl rfl (R.move (v := (vi ((n : Nat) : Int))) rfl) ?_
    refine WL.call (al := [(.agg ⟨key.map vu8⟩), (.agg ⟨nonce.map vu8⟩), (vi ((n : Nat) : Int))]) Try.call55 rfl rfl (c_StreamR key nonce hkey hno n (by omega) _) rfl ?_
    rintro _ w_20 ⟨a_18, cap_19, rfl, hc_21, ho_22⟩
    have h_23 := h_17.gotRow hc_21 ho_22
    refine WL.call (al := [(.slice a_13 n n), (.slice a_18 n cap_19)]) Try.call19 rfl rfl (c_SameR a_13 n n (strL key nonce n) (strL_len hno _) a_18 n cap_19 (strL key nonce n) (strL_len hno _) _ (ownView (h_23.ok _ (.tail _ (.head _)))) (ownView (h_23.ok _ (.head _)))) rfl ?_
    rintro _ w_25 ⟨rfl, hc_24⟩
    have h_26 := h_23.same hc_24
    refine WL.q (Wn.no rfl) rfl rfl (R.not (b := true) (congrArg Value.bool (decide_eq_true rfl))) ?_
    refine WL.q (Wn.no rfl) rfl rfl (R.move (v := (.bool false)) rfl) ?_
    refine WL.want rfl rfl ?_
    refine WL.q (Wn.no rfl) rfl rfl (R.move (v := (vi 0)) rfl) ?_
    refine WL.want rfl rfl ?_
    refine WL.call (al := [(vi 0)]) Try.call54 rfl rfl (c_num4 0 (by omega) _ ) rfl ?_
    rintro _ w_28 ⟨rfl, hc_27⟩
    have h_29 := h_26.same hc_27
    refine WL.want rfl rfl ?_
    refine WL.q (Wn.no rfl) rfl rfl (R.bin (v := (.bool false)) rfl rfl (bi_neq (r := false) (by decide))) ?_
    refine WL.q (Wn.no rfl) rfl rfl (R.pickF (v := (.bool false)) rfl rfl) ?_
    refine WL.nil ?_
    refine thn_n ?_
    refine WP.condF rfl ?_
    refine WP.skip ?_
    refine thn_n ?_
    refine WP.seq ?_
    refine WP.reg ?_
    refine WL.q (Wn.no rfl) rfl rfl (R.loadA (b := b_1) (off := 0) [] [(16, key.map vu8)] [] (cs := key.map vu8) rfl Try.isAgg66 Try.sizeOf66 (h_29.ok _ (.tail _ (.tail _ (.tail _ (.head _))))) rfl rfl rfl rfl) ?_
    refine WL.q (Wn.no rfl) rfl rfl (R.loadA (b := b_4) (off := 0) [] [(8, nonce.map vu8)] [] (cs := nonce.map vu8) rfl Try.isAgg67 Try.sizeOf67 (h_29.ok _ (.tail _ (.tail _ (.head _)))) rfl rfl rfl rfl) ?_
    refine WL.q (Wn.no rfl) rfl rfl (R.move (v := (.slice a3 n3 cap3)) rfl) ?_
    refine WL.call (al := [(.agg ⟨key.map vu8⟩), (.agg ⟨nonce.map vu8⟩), (.slice a3 n3 cap3)]) Try.call56 rfl rfl (c_Mask_n key nonce hkey hno a3 n3 cap3 bs hl3 (by omega) _ (viewV (h_29.ok _ (.tail _ (.tail _ (.tail _ (.tail _ (.head _)))))))) rfl ?_
    rintro _ w_31 ⟨a_30, rfl, hc_32, ho_33⟩
    have h_34 := h_29.gotRow hc_32 ho_33
    refine WL.q (Wn.no rfl) rfl rfl (R.move (v := (.tuple [(.slice a_30 n3 n3), (vi 0)].toArray)) rfl) ?_
    refine WL.q (Wn.no rfl) rfl rfl (R.extract (l := [(.slice a_30 n3 n3), (vi 0)]) (v := (.slice a_30 n3 n3)) rfl rfl) ?_
    refine WL.q (Wn.no rfl) rfl rfl (R.extract (l := [(.slice a_30 n3 n3), (vi 0)]) (v := (vi 0)) rfl rfl) ?_
    refine WL.q (Wn.no rfl) rfl rfl (R.assign (v := (.slice a_30 n3 n3)) rfl) ?_
    refine WL.q (Wn.no rfl) rfl rfl (R.assign (v := (vi 0)) rfl) ?_
    refine WL.nil ?_
    refine thn_n ?_
    refine WP.seq ?_
    refine WP.reg ?_
    refine WL.q (Wn.no rfl) rfl rfl (R.loadA (b := b_1) (off := 0) [] [(16, key.map vu8)] [] (cs := key.map vu8) rfl Try.isAgg66 Try.sizeOf66 (h_34.ok _ (.tail _ (.tail _ (.tail _ (.tail _ (.head _)))))) rfl rfl rfl rfl) ?_
    refine WL.q (Wn.no rfl) rfl rfl (R.loadA (b := b_4) (off := 0) [] [(8, nonce.map vu8)] [] (cs := nonce.map vu8) rfl Try.isAgg67 Try.sizeOf67 (h_34.ok _ (.tail _ (.tail _ (.tail _ (.head _))))) rfl rfl rfl rfl) ?_
    refine WL.q (Wn.no rfl) rfl rfl (R.move (v := (.slice a3 n3 cap3)) rfl) ?_
    refine WL.q (Wn.no rfl) rfl rfl (R.lenS (a := a3) (m := n3) rfl rfl Try.underlying23) ?_
    refine WL.call (al := [(.agg ⟨key.map vu8⟩), (.agg ⟨nonce.map vu8⟩), (vi ((n3 : Nat) : Int))]) Try.call55 rfl rfl (c_StreamR key nonce hkey hno n3 (by omega) _) rfl ?_
    rintro _ w_37 ⟨a_35, cap_36, rfl, hc_38, ho_39⟩
    have h_40 := h_34.gotRow hc_38 ho_39
    refine WL.q (Wn.no rfl) rfl rfl (R.assign (v := (.slice a_35 n3 cap_36)) rfl) ?_
    refine WL.nil ?_
    refine thn_n ?_
    refine WP.seq ?_
    refine WP.seq ?_
    refine WP.reg ?_
    refine WL.q (Wn.no rfl) rfl rfl (R.move (v := (.slice a_30 n3 n3)) rfl) ?_
    refine WL.q (Wn.no rfl) rfl rfl (R.lenS (a := a_30) (m := n3) rfl rfl Try.underlying23) ?_
    refine WL.q (Wn.no rfl) rfl rfl (R.move (v := (.slice a3 n3 cap3)) rfl) ?_
    refine WL.q (Wn.no rfl) rfl rfl (R.lenS (a := a3) (m := n3) rfl rfl Try.underlying23) ?_
    refine WL.q (Wn.no rfl) rfl rfl (R.bin (v := (.bool false)) rfl rfl (bi_neq (r := false) (by simp))) ?_
    refine WL.q (Wn.no rfl) rfl rfl (R.move (v := (.bool false)) rfl) ?_
    refine WL.want rfl rfl ?_
    refine WL.q (Wn.no rfl) rfl rfl (R.move (v := (vi 0)) rfl) ?_
    refine WL.want rfl rfl ?_
    refine WL.call (al := [(vi 0)]) Try.call54 rfl rfl (c_num4 0 (by omega) _ ) rfl ?_
    rintro _ w_42 ⟨rfl, hc_41⟩
    have h_43 := h_40.same hc_41
    refine WL.want rfl rfl ?_
    refine WL.q (Wn.no rfl) rfl rfl (R.bin (v := (.bool false)) rfl rfl (bi_neq (r := false) (by decide))) ?_
    refine WL.q (Wn.no rfl) rfl rfl (R.pickF (v := (.bool false)) rfl rfl) ?_
    refine WL.nil ?_
    refine thn_n ?_
    refine WP.condF rfl ?_
    refine WP.skip ?_
    refine thn_n ?_
    refine WP.seq ?_
    refine WP.seq ?_
    refine WP.reg ?_
    refine WL.q (Wn.no rfl) rfl rfl (R.assign (v := (vi 0)) rfl) ?_
    refine WL.nil ?_
    refine thn_n ?_
    refine WP.block ?_
    refine WP.loopG (G := Nat) [8, 14, 82, 83, 84, 85, 86, 87, 88, 89, 90, 91, 92, 93, 94, 95, 96, 97, 98, 99, 100, 101] (fun k => [(14, (vi ((k : Nat) : Int)))]) (fun k m w1 => HP w w1 [.row a_35 n3 cap_36 5 1 ((strL key nonce n3).map vu8), .row a_30 n3 n3 5 1 ((xorL (strL key nonce n3) bs).map vu8), .row a_18 n cap_19 5 1 ((strL key nonce n).map vu8), .row a_13 n n 5 1 ((strL key nonce n).map vu8), .blk b_4 .nw 67 [(8, nonce.map vu8)], .blk b_1 .nw 66 [(16, key.map vu8)], .view a3 (bs.map vu8)] ∧ (k ≤ n3) ∧ m = n3 - k) ⟨0, _, ⟨rfl, trivial⟩, h_43, (by omega), rfl⟩ ?_
    rintro k m_46 J_47 w_44 ⟨h_45, hk, rfl⟩
    refine WP.seq ?_
    refine WP.seq ?_
    refine WP.reg ?_
    refine WL.q (Wn.no rfl) rfl rfl (R.move (v := (vi ((k : Nat) : Int))) rfl) ?_
    refine WL.q (Wn.no rfl) rfl rfl (R.move (v := (.slice a3 n3 cap3)) rfl) ?_
    refine WL.q (Wn.no rfl) rfl rfl (R.lenS (a := a3) (m := n3) rfl rfl Try.underlying23) ?_
    refine WL.q (Wn.no rfl) rfl rfl (R.bin (v := (.bool (decide ((((k : Nat) : Int) : Int) < ((n3 : Nat) : Int))))) rfl rfl (bi_lss (r := decide ((((k : Nat) : Int) : Int) < ((n3 : Nat) : Int))) rfl)) ?_
    refine WL.nil ?_
    refine thn_n ?_
    refine WP.cond (b := decide ((((k : Nat) : Int) : Int) < ((n3 : Nat) : Int))) rfl (fun c_48 => ?_) (fun c_48 => ?_)
    · have p_49 := of_decide_eq_true c_48
      refine WP.skip ?_
      refine thn_n ?_
      refine WP.seq ?_
      refine WP.block ?_
      refine WP.seq ?_
      refine WP.drawT (SL w.heap.size [.row a_35 n3 cap_36 5 1 ((strL key nonce n3).map vu8), .row a_30 n3 n3 5 1 ((xorL (strL key nonce n3) bs).map vu8), .row a_18 n cap_19 5 1 ((strL key nonce n).map vu8), .row a_13 n n 5 1 ((strL key nonce n).map vu8), .blk b_4 .nw 67 [(8, nonce.map vu8)], .blk b_1 .nw 66 [(16, key.map vu8)], .view a3 (bs.map vu8)]) (.q 0 (.q 1 (.q 2 (.q 3 (.q 4 (.q 5 (.q 6 (.q 7 (.q 8 (.q 9 (.q 10 (.q 11 (.q 12 (.q 13 .nil)))))))))))))) (by kernel_rfl) (by kernel_rfl) rfl (by kernel_rfl) (fun w_50 hc_52 => (SL.cons ((h_45.same hc_52).ok _ (.head _)) (SL.cons ((h_45.same hc_52).ok _ (.tail _ (.head _))) (SL.cons ((h_45.same hc_52).ok _ (.tail _ (.tail _ (.head _)))) (SL.cons ((h_45.same hc_52).ok _ (.tail _ (.tail _ (.tail _ (.head _))))) (SL.cons ((h_45.same hc_52).ok _ (.tail _ (.tail _ (.tail _ (.tail _ (.head _)))))) (SL.cons ((h_45.same hc_52).ok _ (.tail _ (.tail _ (.tail _ (.tail _ (.tail _ (.head _))))))) (SL.cons ((h_45.same hc_52).ok _ (.tail _ (.tail _ (.tail _ (.tail _ (.tail _ (.tail _ (.head _)))))))) (SL.nil _ _))))))))) (fun w_50 hc_52 => ?_)
      have h_51 := h_45.same hc_52
      refine WT.q rfl (Wn.no rfl) rfl rfl (fun wq hS => R.move (v := (.slice a_30 n3 n3)) rfl) ?_
      refine WT.q rfl (Wn.no rfl) rfl rfl (fun wq hS => R.move (v := (vi ((k : Nat) : Int))) rfl) ?_
      refine WT.q rfl (Wn.no rfl) rfl rfl (fun wq hS => R.indexS (a := a_30) (i := k) (off := k) (xs := (xorL (strL key nonce n3) bs).map vu8) rfl rfl rfl (by omega) (ownView (hS _ (.tail _ (.head _)))) (by rw [len_map (xorL_len (strL_len hno _) hl3)]; omega) Try.underlying23 Try.sizeOf5 (Nat.mul_one _).symm) ?_
      refine WT.q rfl (Wn.no rfl) rfl rfl (fun wq hS => R.loadG (a := a_30) (i := k) (xs := (xorL (strL key nonce n3) bs).map vu8) (v := (vu8 ((xorL (strL key nonce n3) bs).getD k 0))) rfl (ownView (hS _ (.tail _ (.head _)))) Try.isAgg5 (get_u8 (lt_len (K := n3) (xorL_len (strL_len hno _) hl3) (by omega)))) ?_
      refine WT.q rfl (Wn.no rfl) rfl rfl (fun wq hS => R.move (v := (.slice a3 n3 cap3)) rfl) ?_
      refine WT.q rfl (Wn.no rfl) rfl rfl (fun wq hS => R.move (v := (vi ((k : Nat) : Int))) rfl) ?_
      refine WT.q rfl (Wn.no rfl) rfl rfl (fun wq hS => R.indexS (a := a3) (i := k) (off := k) (xs := bs.map vu8) rfl rfl rfl (by omega) (viewV (hS _ (.tail _ (.tail _ (.tail _ (.tail _ (.tail _ (.tail _ (.head _))))))))) (by rw [len_map hl3]; omega) Try.underlying23 Try.sizeOf5 (Nat.mul_one _).symm) ?_
      refine WT.q rfl (Wn.no rfl) rfl rfl (fun wq hS => R.loadG (a := a3) (i := k) (xs := bs.map vu8) (v := (vu8 (bs.getD k 0))) rfl (viewV (hS _ (.tail _ (.tail _ (.tail _ (.tail _ (.tail _ (.tail _ (.head _))))))))) Try.isAgg5 (get_u8 (lt_len (K := n3) hl3 (by omega)))) ?_
      refine WT.q rfl (Wn.no rfl) rfl rfl (fun wq hS => R.move (v := (.slice a_35 n3 cap_36)) rfl) ?_
      refine WT.q rfl (Wn.no rfl) rfl rfl (fun wq hS => R.move (v := (vi ((k : Nat) : Int))) rfl) ?_
      refine WT.q rfl (Wn.no rfl) rfl rfl (fun wq hS => R.indexS (a := a_35) (i := k) (off := k) (xs := (strL key nonce n3).map vu8) rfl rfl rfl (by omega) (ownView (hS _ (.head _))) (by rw [len_map (strL_len hno _)]; omega) Try.underlying23 Try.sizeOf5 (Nat.mul_one _).symm) ?_
      refine WT.q rfl (Wn.no rfl) rfl rfl (fun wq hS => R.loadG (a := a_35) (i := k) (xs := (strL key nonce n3).map vu8) (v := (vu8 ((strL key nonce n3).getD k 0))) rfl (ownView (hS _ (.head _))) Try.isAgg5 (get_u8 (lt_len (K := n3) (strL_len hno _) (by omega)))) ?_
      refine WT.q rfl (Wn.no rfl) rfl rfl (fun wq hS => R.bin (v := (vu8 ((bs.getD k 0) ^^^ ((strL key nonce n3).getD k 0)))) rfl rfl (b8_xor (bs.getD k 0) ((strL key nonce n3).getD k 0))) ?_
      refine WT.q rfl (Wn.no rfl) rfl rfl (fun wq hS => R.bin (v := (.bool false)) rfl rfl (b8_neq ((xorL (strL key nonce n3) bs).getD k 0) ((bs.getD k 0) ^^^ ((strL key nonce n3).getD k 0)) (r := false) (decide_eq_false (fun h => h (by rw [xorL_get (strL_len hno n3) hl3 (by omega), UInt8.xor_comm]))))) ?_
      refine WT.nil ?_
      refine thn_n ?_
      refine WP.condF rfl ?_
      refine WP.skip ?_
      refine inb_n ?_
      refine thn_n ?_
      refine WP.reg ?_
      refine WL.q (Wn.no rfl) rfl rfl (R.move (v := (vi ((k : Nat) : Int))) rfl) ?_
      refine WL.q (Wn.no rfl) rfl rfl (R.bin (v := (vi ((k + 1 : Nat) : Int))) rfl rfl (bi_add (c := ((k + 1 : Nat) : Int)) (by omega) (by omega))) ?_
      refine WL.q (Wn.no rfl) rfl rfl (R.assign (v := (vi ((k + 1 : Nat) : Int))) rfl) ?_
      refine WL.nil ?_
      refine thn_n ?_
      exact ⟨k + 1, _, (by omega), (Ag.upd rfl (Ag.upd rfl (Ag.upd rfl (Ag.upd rfl (Ag.upd rfl (Ag.upd rfl (Ag.upd rfl (Ag.upd rfl (Ag.upd rfl (Ag.upd rfl (Ag.upd rfl (Ag.upd rfl (Ag.upd rfl (Ag.upd rfl (Ag.upd rfl (Ag.upd rfl (Ag.upd rfl (Ag.upd rfl (Ag.upd rfl (Ag.upd rfl (Ag.upd rfl (Ag.updL rfl (Ag.mix _ _ _))))))))))))))))))))))), ⟨rfl, trivial⟩, h_51, (by omega), rfl⟩
    · have p_53 := of_decide_eq_false c_48
      refine WP.exit ?_
      refine thn_x ?_
      refine thn_x ?_
      refine inb_hit ?_
      refine thn_n ?_
      refine WP.seq ?_
      refine WP.reg ?_
      refine WL.call (al := []) Try.call43 rfl rfl (c_known4  _ ) rfl ?_
      rintro _ w_55 ⟨rfl, hc_54⟩
      have h_56 := h_45.same hc_54
      refine WL.q (Wn.no rfl) rfl rfl (R.assign (v := (.bool true)) rfl) ?_
      refine WL.nil ?_
      refine thn_n ?_
      refine WP.ret ?_
      refine ret_of Try.results11 (RV.tmp (v := (.bool true)) rfl RV.nil) ?_
      exact ⟨rfl, h_56.chgS⟩

theorem w_AesStreams (key nonce : List UInt8) (hkey : key.length = 16) (hno : nonce.length = 8) (n : Int) (a3 : Option Addr) (n3 cap3 : Nat) (bs : List UInt8) (hl3 : bs.length = n3) (hcm : n3 ≤ 9223372036854775807) (w : World) (hv3 : View w a3 (bs.map vu8)) : Cs Try.prog 11 [(.agg ⟨key.map vu8⟩), (.agg ⟨nonce.map vu8⟩), vi n, .slice a3 n3 cap3].toArray w (fun v w1 => v = .bool true ∧ Chg w w1 []) := by
  by_cases h1 : n < 0
  · exact w_AesStreams_e1 key nonce hkey hno n h1 a3 n3 cap3 bs hl3 hcm w hv3
  by_cases h2 : n > 1048576
  · exact w_AesStreams_e2 key nonce hkey hno n h2 a3 n3 cap3 bs hl3 hcm w hv3
  by_cases h3 : n > 600
  · exact w_AesStreams_m key nonce hkey hno n ⟨h3, by omega⟩ a3 n3 cap3 bs hl3 hcm w hv3
  obtain ⟨m, rfl⟩ : ∃ m : Nat, n = (m : Int) := ⟨n.toNat, by omega⟩
  exact w_AesStreams_ok key nonce hkey hno m (by omega) a3 n3 cap3 bs hl3 hcm w hv3
namespace aesStreamsDone
open Go.ChangeShapes Go.WideShapes Go.ChangeAt
theorem own : ownKnob Try.prog.godebug = none := by kernel_rfl
theorem laidOut : laidOutB Try.prog = true := by kernel_rfl
set_option maxRecDepth 100000 in
theorem lifted (os : Os) (started : os.Started) (H : Type) (enc : TypeId × Value → H) :
    ReturnsInHanded {} Try.checked os 11 .any (Rows.aesStreamsSpec.pre6 enc Try.prog Try.f11 Rows.aesStreamsRow.domain false) (Rows.aesStreamsSpec.post enc Try.prog Try.f11 false true false false) := by
  refine returnsInHanded_of_change (C := Try.checked) own started (by kernel_rfl) Try.func11
    (ChangeSpec.witness6 (enc := enc) (C := Try.checked) false ⟨#[], #[.agg #[.int .u8 0, .int .u8 0, .int .u8 0, .int .u8 0, .int .u8 0, .int .u8 0, .int .u8 0, .int .u8 0, .int .u8 0, .int .u8 0, .int .u8 0, .int .u8 0, .int .u8 0, .int .u8 0, .int .u8 0, .int .u8 0], .agg #[.int .u8 0, .int .u8 0, .int .u8 0, .int .u8 0, .int .u8 0, .int .u8 0, .int .u8 0, .int .u8 0], .int .i64 0, .slice none 0 0], []⟩ 8 (by kernel_rfl) (by kernel_rfl) (by kernel_rfl) (by kernel_rfl)) ?_
  intro W base args ds gs before hval0 hW hcnd _
  have hval : ∀ (j : Nat) t v, Try.f11.params[j]? = some t → args[j]? = some v → Value.okWide Try.prog W .any base t v := hval0
  have hW' := hW
  obtain ⟨p, q, hA0, hV, rfl, hfz, hnd⟩ := hW
  have hA : DataW.TrodAll enc Try.prog W 0 (fun _ => true) true Try.f11.params.toList args.toList ds p := hA0
  rw [Try.params11] at hA hval
  obtain ⟨v0, vs0, d0, ds0, p0, q0, hargs, rfl, rfl, h0, r0⟩ := trodAll_cons hA
  obtain ⟨v1, vs1, d1, ds1, p1, q1, rfl, rfl, rfl, h1, r1⟩ := trodAll_cons r0
  obtain ⟨v2, vs2, d2, ds2, p2, q2, rfl, rfl, rfl, h2, r2⟩ := trodAll_cons r1
  obtain ⟨v3, vs3, d3, ds3, p3, q3, rfl, rfl, rfl, h3, r3⟩ := trodAll_cons r2
  obtain ⟨rfl, rfl, rfl⟩ := trodAll_nil r3
  obtain rfl : args = #[v0, v1, v2, v3] := by cases args; simp_all
  obtain ⟨rfl, rfl⟩ := trodVars_none hV
  have lt0 : ∀ x ∈ p0, x.block < W.heap.size := by obtain ⟨m, hm⟩ := h0; exact DataW.trod_lt m _ _ _ hm
  obtain ⟨cs0, rfl⟩ := okWide_agg aggT66 (hval 0 66 v0 rfl rfl)
  have tr0 : Tr Try.prog W 66 cs0 := Tr.of h0 rfl
  obtain ⟨x0, rfl, l_x0⟩ := Tr.arr8 Try.underlying66 ce66 ce5 Try.underlying5 tr0
  have lt1 : ∀ x ∈ p1, x.block < W.heap.size := by obtain ⟨m, hm⟩ := h1; exact DataW.trod_lt m _ _ _ hm
  obtain ⟨cs1, rfl⟩ := okWide_agg aggT67 (hval 1 67 v1 rfl rfl)
  have tr1 : Tr Try.prog W 67 cs1 := Tr.of h1 rfl
  obtain ⟨x1, rfl, l_x1⟩ := Tr.arr8 Try.underlying67 ce67 ce5 Try.underlying5 tr1
  have lt2 : ∀ x ∈ p2, x.block < W.heap.size := by obtain ⟨m, hm⟩ := h2; exact DataW.trod_lt m _ _ _ hm
  obtain ⟨x2, rfl⟩ := okWide_int Try.underlying3 (hval 2 3 v2 rfl rfl)
  have b_x2 := Tr.i64' Try.underlying3 (Tr.of h2 rfl)
  have lt3 : ∀ x ∈ p3, x.block < W.heap.size := by obtain ⟨m, hm⟩ := h3; exact DataW.trod_lt m _ _ _ hm
  obtain ⟨a3, n3, c3, rfl⟩ := okWide_slice Try.underlying23 (hval 3 23 v3 rfl rfl)
  obtain ⟨a3, n3, c3, x3, e3, l_x3, hc3, hm3, hv3, hn3⟩ := Tr.sl8 Try.underlying23 ce5 Try.underlying5 (Tr.of h3 rfl)
  cases e3
  clear hA0 hval0
  have hw : Cs Try.prog 11 [(.agg ⟨x0.map vu8⟩), (.agg ⟨x1.map vu8⟩), (vi x2), (.slice a3 n3 c3)].toArray W (fun v w1 => v = .bool true ∧ Chg W w1 []) := w_AesStreams x0 x1 l_x0 l_x1 x2 a3 n3 c3 x3 l_x3 (by have hmx := hm3; unfold maxLen at hmx; omega) W hv3.1
  have ea : ([(.agg ⟨x0.map vu8⟩), (.agg ⟨x1.map vu8⟩), (vi x2), (.slice a3 n3 c3)] : List Value).toArray = (#[.agg ⟨x0.map vu8⟩, .agg ⟨x1.map vu8⟩, (vi x2), (.slice a3 n3 c3)] : Array Value) := by simp [flat]
  rw [ea] at hw
  refine Calls.mono (Cs.below hw) fun e W' ⟨he, bel⟩ => ?_
  subst he
  exact ⟨_, rfl, _, _, _, [], _, [], hW', trodAll_mk1 (shut_bool Try.underlying4 _), (trodAll_cons_mk (Below.trod laidOut (by kernel_rfl) (of_decide_eq_true (by kernel_rfl)) h0 bel lt0) (trodAll_cons_mk (Below.trod laidOut (by kernel_rfl) (of_decide_eq_true (by kernel_rfl)) h1 bel lt1) (trodAll_cons_mk (Below.trod laidOut (by kernel_rfl) (of_decide_eq_true (by kernel_rfl)) h2 bel lt2) (trodAll_cons_mk (Below.trod laidOut (by kernel_rfl) (of_decide_eq_true (by kernel_rfl)) h3 bel lt3) trodAll_mk0)))), rfl, bel.frame _, fun h => by cases h⟩
theorem over : Rows.aesStreamsRow.holds Try.pinned (OpenSpec.ofChange Rows.aesStreamsSpec) :=
  OpenClaim.holds_of_wide 11 Try.f11 rfl rfl rfl rfl rfl rfl rfl ⟨rfl, rfl, rfl, rfl, rfl⟩ rfl rfl rfl rfl rfl (by kernel_rfl) Try.func11 (by kernel_rfl)
    (of_decide_eq_true (by kernel_rfl)) (by unfold Func.isWrapper; first | (rw [if_pos (by decide +kernel)]; kernel_rfl) | (rw [if_neg (by decide +kernel)]; exact ⟨rfl, rfl⟩))
    (fun os started H enc _ => lifted os started H enc)
theorem proved : Rows.AesStreamsSaid := over
end aesStreamsDone
end Go.Proofs.Ytcmgadjnammahaa
