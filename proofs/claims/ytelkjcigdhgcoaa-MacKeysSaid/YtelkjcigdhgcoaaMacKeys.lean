/- MacKeys holds of every input. Conditions: none. -/
import Derived.Test.YtelkjcigdhgcoaaPD
namespace Go.Proofs.Ytelkjcigdhgcoaa
open Go.Vc Go.Sh Go.RowKit
set_option linter.unusedVariables false
set_option linter.unusedSimpArgs false
set_option maxRecDepth 20000
theorem aggT28 : aggB Try.prog 28 = true := by unfold aggB; rw [Try.underlying28]
theorem w_Keys_b (key l : List UInt8) (n : Nat) (hkey : key.length = 32) (hl : l.length = n) (c : Int) (h : 9000 < n) (w : World) :
    Cs Try.prog 11 [(.agg ⟨key.map vu8⟩), (.string (bstr l)), (vi c)].toArray w (fun v w1 => v = .bool true ∧ Chg w w1 []) := by
  refine Cs.of (n := 76) (args := [(.agg ⟨key.map vu8⟩), (.string (bstr l)), (vi c)]) Try.func11 rfl rfl rfl ?_
  have h_0 := HP.init w
  refine WP.seq ?_
  refine WP.reg ?_
  refine WL.box (v := (.agg ⟨key.map vu8⟩)) (segs := [(32, key.map vu8)]) h_0 rfl rfl (SsOk.cons (SOk.u8 hkey) SsOk.nil) rfl (fun b_1 w_2 h_3 => ?_)
  refine WL.q (Wn.no rfl) rfl rfl (R.assign (v := (.bool false)) rfl) ?_
  refine WL.nil ?_
  refine thn_n ?_
  refine WP.seq ?_
  refine WP.seq ?_
  refine WP.reg ?_
  refine WL.q (Wn.no rfl) rfl rfl (R.move (v := (.string (bstr l))) rfl) ?_
  refine WL.q (Wn.no rfl) rfl rfl (R.lenStrL (l := l) (m := n) rfl rfl Try.underlying9 hl) ?_
  refine WL.q (Wn.no rfl) rfl rfl (R.bin (v := (.bool (decide ((((n : Nat) : Int) : Int) > 9000)))) rfl rfl (bi_gtr (r := decide ((((n : Nat) : Int) : Int) > 9000)) rfl)) ?_
  refine WL.q (Wn.no rfl) rfl rfl (R.move (v := (.bool (decide ((((n : Nat) : Int) : Int) > 9000)))) rfl) ?_
  refine WL.skip rfl (congrArg Value.bool (decide_eq_true (by omega))) rfl ?_
  refine WL.skip rfl (congrArg Value.bool (decide_eq_true (by omega))) rfl ?_
  refine WL.skip rfl (congrArg Value.bool (decide_eq_true (by omega))) rfl ?_
  refine WL.skipU rfl rfl rfl ?_
  refine WL.skipU rfl rfl rfl ?_
  refine WL.skip rfl (congrArg Value.bool (decide_eq_true (by omega))) rfl ?_
  refine WL.q (Wn.no rfl) rfl rfl (R.pickT (v := (.bool true)) (congrArg Value.bool (decide_eq_true (by omega))) rfl) ?_
  refine WL.nil ?_
  refine thn_n ?_
  refine WP.condT rfl ?_
  refine WP.seq ?_
  refine WP.reg ?_
  refine WL.call (al := []) Try.call35 rfl rfl (c_known3  _ ) rfl ?_
  rintro _ w_5 ⟨rfl, hc_4⟩
  have h_6 := h_3.same hc_4
  refine WL.q (Wn.no rfl) rfl rfl (R.assign (v := (.bool true)) rfl) ?_
  refine WL.nil ?_
  refine thn_n ?_
  refine WP.ret ?_
  refine thn_r ?_
  refine ret_of Try.results11 (RV.tmp (v := (.bool true)) rfl RV.nil) ?_
  exact ⟨rfl, h_6.chgS⟩

theorem w_Keys_m (key l : List UInt8) (n : Nat) (hkey : key.length = 32) (hl : l.length = n) (c : Int) (h9 : ¬ 9000 < n) (hc : 40 < c ∧ c ≤ 256) (w : World) :
    Cs Try.prog 11 [(.agg ⟨key.map vu8⟩), (.string (bstr l)), (vi c)].toArray w (fun v w1 => v = .bool true ∧ Chg w w1 []) := by
  refine Cs.of (n := 76) (args := [(.agg ⟨key.map vu8⟩), (.string (bstr l)), (vi c)]) Try.func11 rfl rfl rfl ?_
  have h_0 := HP.init w
  refine WP.seq ?_
  refine WP.reg ?_
  refine WL.box (v := (.agg ⟨key.map vu8⟩)) (segs := [(32, key.map vu8)]) h_0 rfl rfl (SsOk.cons (SOk.u8 hkey) SsOk.nil) rfl (fun b_1 w_2 h_3 => ?_)
  refine WL.q (Wn.no rfl) rfl rfl (R.assign (v := (.bool false)) rfl) ?_
  refine WL.nil ?_
  refine thn_n ?_
  refine WP.seq ?_
  refine WP.seq ?_
  refine WP.reg ?_
  refine WL.q (Wn.no rfl) rfl rfl (R.move (v := (.string (bstr l))) rfl) ?_
  refine WL.q (Wn.no rfl) rfl rfl (R.lenStrL (l := l) (m := n) rfl rfl Try.underlying9 hl) ?_
  refine WL.q (Wn.no rfl) rfl rfl (R.bin (v := (.bool (decide ((((n : Nat) : Int) : Int) > 9000)))) rfl rfl (bi_gtr (r := decide ((((n : Nat) : Int) : Int) > 9000)) rfl)) ?_
  refine WL.q (Wn.no rfl) rfl rfl (R.move (v := (.bool (decide ((((n : Nat) : Int) : Int) > 9000)))) rfl) ?_
  refine WL.want rfl (congrArg Value.bool (decide_eq_false (by omega))) ?_
  refine WL.q (Wn.no rfl) rfl rfl (R.move (v := (vi c)) rfl) ?_
  refine WL.want rfl (congrArg Value.bool (decide_eq_false (by omega))) ?_
  refine WL.q (Wn.no rfl) rfl rfl (R.bin (v := (.bool (decide ((c : Int) > 40)))) rfl rfl (bi_gtr (r := decide ((c : Int) > 40)) rfl)) ?_
  refine WL.want rfl (congrArg Value.bool (decide_eq_false (by omega))) ?_
  refine WL.q (Wn.no rfl) rfl rfl (R.move (v := (.bool (decide ((c : Int) > 40)))) rfl) ?_
  refine WL.want rfl (congrArg Value.bool (decide_eq_true (by omega))) ?_
  refine WL.q (Wn.no rfl) rfl rfl (R.move (v := (vi c)) rfl) ?_
  refine WL.want rfl (congrArg Value.bool (decide_eq_true (by omega))) ?_
  refine WL.q (Wn.no rfl) rfl rfl (R.bin (v := (.bool (decide ((c : Int) ≤ 256)))) rfl rfl (bi_leq (r := decide ((c : Int) ≤ 256)) rfl)) ?_
  refine WL.want rfl (congrArg Value.bool (decide_eq_false (by omega))) ?_
  refine WL.q (Wn.no rfl) rfl rfl (R.pickT (v := (.bool (decide ((c : Int) ≤ 256)))) (congrArg Value.bool (decide_eq_true (by omega))) rfl) ?_
  refine WL.q (Wn.no rfl) rfl rfl (R.pickF (v := (.bool (decide ((c : Int) ≤ 256)))) (congrArg Value.bool (decide_eq_false (by omega))) rfl) ?_
  refine WL.nil ?_
  refine thn_n ?_
  refine WP.condT (congrArg Value.bool (decide_eq_true (by omega))) ?_
  refine WP.seq ?_
  refine WP.reg ?_
  refine WL.call (al := []) Try.call35 rfl rfl (c_known3  _ ) rfl ?_
  rintro _ w_5 ⟨rfl, hc_4⟩
  have h_6 := h_3.same hc_4
  refine WL.q (Wn.no rfl) rfl rfl (R.assign (v := (.bool true)) rfl) ?_
  refine WL.nil ?_
  refine thn_n ?_
  refine WP.ret ?_
  refine thn_r ?_
  refine ret_of Try.results11 (RV.tmp (v := (.bool true)) rfl RV.nil) ?_
  exact ⟨rfl, h_6.chgS⟩

theorem w_Keys_lo_a (key l : List UInt8) (n : Nat) (hkey : key.length = 32) (hl : l.length = n) (c : Int) (h9 : ¬ 9000 < n) (h : n < 1) (hc : c ≤ 40) (w : World) :
    Cs Try.prog 11 [(.agg ⟨key.map vu8⟩), (.string (bstr l)), (vi c)].toArray w (fun v w1 => v = .bool true ∧ Chg w w1 []) := by
  refine Cs.of (n := 76) (args := [(.agg ⟨key.map vu8⟩), (.string (bstr l)), (vi c)]) Try.func11 rfl rfl rfl ?_
  have h_0 := HP.init w
  refine WP.seq ?_
  refine WP.reg ?_
  refine WL.box (v := (.agg ⟨key.map vu8⟩)) (segs := [(32, key.map vu8)]) h_0 rfl rfl (SsOk.cons (SOk.u8 hkey) SsOk.nil) rfl (fun b_1 w_2 h_3 => ?_)
  refine WL.q (Wn.no rfl) rfl rfl (R.assign (v := (.bool false)) rfl) ?_
  refine WL.nil ?_
  refine thn_n ?_
  refine WP.seq ?_
  refine WP.seq ?_
  refine WP.reg ?_
  refine WL.q (Wn.no rfl) rfl rfl (R.move (v := (.string (bstr l))) rfl) ?_
  refine WL.q (Wn.no rfl) rfl rfl (R.lenStrL (l := l) (m := n) rfl rfl Try.underlying9 hl) ?_
  refine WL.q (Wn.no rfl) rfl rfl (R.bin (v := (.bool (decide ((((n : Nat) : Int) : Int) > 9000)))) rfl rfl (bi_gtr (r := decide ((((n : Nat) : Int) : Int) > 9000)) rfl)) ?_
  refine WL.q (Wn.no rfl) rfl rfl (R.move (v := (.bool (decide ((((n : Nat) : Int) : Int) > 9000)))) rfl) ?_
  refine WL.want rfl (congrArg Value.bool (decide_eq_false (by omega))) ?_
  refine WL.q (Wn.no rfl) rfl rfl (R.move (v := (vi c)) rfl) ?_
  refine WL.want rfl (congrArg Value.bool (decide_eq_false (by omega))) ?_
  refine WL.q (Wn.no rfl) rfl rfl (R.bin (v := (.bool (decide ((c : Int) > 40)))) rfl rfl (bi_gtr (r := decide ((c : Int) > 40)) rfl)) ?_
  refine WL.want rfl (congrArg Value.bool (decide_eq_false (by omega))) ?_
  refine WL.q (Wn.no rfl) rfl rfl (R.move (v := (.bool (decide ((c : Int) > 40)))) rfl) ?_
  refine WL.skip rfl (congrArg Value.bool (decide_eq_false (by omega))) rfl ?_
  refine WL.skip rfl (congrArg Value.bool (decide_eq_false (by omega))) rfl ?_
  refine WL.want rfl (congrArg Value.bool (decide_eq_false (by omega))) ?_
  refine WL.q (Wn.no rfl) rfl rfl (R.pickF (v := (.bool false)) (congrArg Value.bool (decide_eq_false (by omega))) rfl) ?_
  refine WL.q (Wn.no rfl) rfl rfl (R.pickF (v := (.bool false)) (congrArg Value.bool (decide_eq_false (by omega))) rfl) ?_
  refine WL.nil ?_
  refine thn_n ?_
  refine WP.condF rfl ?_
  refine WP.skip ?_
  refine thn_n ?_
  refine WP.seq ?_
  refine WP.reg ?_
  refine WL.q (Wn.no rfl) rfl rfl (R.loadA (b := b_1) (off := 0) [] [(32, key.map vu8)] [] (cs := key.map vu8) rfl Try.isAgg28 Try.sizeOf28 (h_3.ok _ (.head _)) rfl rfl rfl rfl) ?_
  refine WL.q (Wn.no rfl) rfl rfl (R.move (v := (.string (bstr l))) rfl) ?_
  refine WL.q (Wn.no rfl) rfl rfl (R.move (v := (vi c)) rfl) ?_
  refine WL.call (al := [(.agg ⟨key.map vu8⟩), (.string (bstr l)), (vi c)]) Try.call43 rfl rfl (c_Keys_lo key l n hkey hl c (by omega) _ ) rfl ?_
  rintro _ w_5 ⟨rfl, hc_4⟩
  have h_6 := h_3.same hc_4
  refine WL.q (Wn.no rfl) rfl rfl (R.move (v := (.tuple [(.slice none 0 0), (vi 2)].toArray)) rfl) ?_
  refine WL.q (Wn.no rfl) rfl rfl (R.extract (l := [(.slice none 0 0), (vi 2)]) (v := (.slice none 0 0)) rfl rfl) ?_
  refine WL.q (Wn.no rfl) rfl rfl (R.extract (l := [(.slice none 0 0), (vi 2)]) (v := (vi 2)) rfl rfl) ?_
  refine WL.q (Wn.no rfl) rfl rfl (R.assign (v := (.slice none 0 0)) rfl) ?_
  refine WL.q (Wn.no rfl) rfl rfl (R.assign (v := (vi 2)) rfl) ?_
  refine WL.nil ?_
  refine thn_n ?_
  refine WP.seq ?_
  refine WP.seq ?_
  refine WP.reg ?_
  refine WL.q (Wn.no rfl) rfl rfl (R.move (v := (.string (bstr l))) rfl) ?_
  refine WL.call (al := [(.string (bstr l))]) Try.call40 rfl rfl (c_MayLabel_lo l n hl (by omega) _ ) rfl ?_
  rintro _ w_8 ⟨rfl, hc_7⟩
  have h_9 := h_6.same hc_7
  refine WL.q (Wn.no rfl) rfl rfl (R.not (b := false) rfl) ?_
  refine WL.q (Wn.no rfl) rfl rfl (R.move (v := (.bool true)) rfl) ?_
  refine WL.skip rfl rfl rfl ?_
  refine WL.skip rfl rfl rfl ?_
  refine WL.q (Wn.no rfl) rfl rfl (R.pickT (v := (.bool true)) rfl rfl) ?_
  refine WL.q (Wn.no rfl) rfl rfl (R.move (v := (.bool true)) rfl) ?_
  refine WL.skip rfl rfl rfl ?_
  refine WL.skip rfl rfl rfl ?_
  refine WL.q (Wn.no rfl) rfl rfl (R.pickT (v := (.bool true)) rfl rfl) ?_
  refine WL.nil ?_
  refine thn_n ?_
  refine WP.condT rfl ?_
  refine WP.seq ?_
  refine WP.reg ?_
  refine WL.q (Wn.no rfl) rfl rfl (R.move (v := (.slice none 0 0)) rfl) ?_
  refine WL.q (Wn.no rfl) rfl rfl (R.lenS (a := none) (m := 0) rfl rfl Try.underlying63) ?_
  refine WL.q (Wn.no rfl) rfl rfl (R.bin (v := (.bool true)) rfl rfl (bi_eql (r := true) (by decide))) ?_
  refine WL.q (Wn.no rfl) rfl rfl (R.move (v := (.bool true)) rfl) ?_
  refine WL.want rfl rfl ?_
  refine WL.q (Wn.no rfl) rfl rfl (R.move (v := (vi 2)) rfl) ?_
  refine WL.want rfl rfl ?_
  refine WL.call (al := [(vi 2)]) Try.call41 rfl rfl (c_num3 2 (by omega) _ ) rfl ?_
  rintro _ w_11 ⟨rfl, hc_10⟩
  have h_12 := h_9.same hc_10
  refine WL.want rfl rfl ?_
  refine WL.q (Wn.no rfl) rfl rfl (R.bin (v := (.bool true)) rfl rfl (bi_eql (r := true) (by decide))) ?_
  refine WL.q (Wn.no rfl) rfl rfl (R.pickT (v := (.bool true)) rfl rfl) ?_
  refine WL.q (Wn.no rfl) rfl rfl (R.move (v := (.bool true)) rfl) ?_
  refine WL.want rfl rfl ?_
  refine WL.call (al := []) Try.call35 rfl rfl (c_known3  _ ) rfl ?_
  rintro _ w_14 ⟨rfl, hc_13⟩
  have h_15 := h_12.same hc_13
  refine WL.q (Wn.no rfl) rfl rfl (R.pickT (v := (.bool true)) rfl rfl) ?_
  refine WL.q (Wn.no rfl) rfl rfl (R.assign (v := (.bool true)) rfl) ?_
  refine WL.nil ?_
  refine thn_n ?_
  refine WP.ret ?_
  refine thn_r ?_
  refine ret_of Try.results11 (RV.tmp (v := (.bool true)) rfl RV.nil) ?_
  exact ⟨rfl, h_15.chgS⟩

theorem w_Keys_lo_z (key l : List UInt8) (n : Nat) (hkey : key.length = 32) (hl : l.length = n) (c : Int) (h9 : ¬ 9000 < n) (h : n < 1) (hc : 256 < c) (w : World) :
    Cs Try.prog 11 [(.agg ⟨key.map vu8⟩), (.string (bstr l)), (vi c)].toArray w (fun v w1 => v = .bool true ∧ Chg w w1 []) := by
  refine Cs.of (n := 76) (args := [(.agg ⟨key.map vu8⟩), (.string (bstr l)), (vi c)]) Try.func11 rfl rfl rfl ?_
  have h_0 := HP.init w
  refine WP.seq ?_
  refine WP.reg ?_
  refine WL.box (v := (.agg ⟨key.map vu8⟩)) (segs := [(32, key.map vu8)]) h_0 rfl rfl (SsOk.cons (SOk.u8 hkey) SsOk.nil) rfl (fun b_1 w_2 h_3 => ?_)
  refine WL.q (Wn.no rfl) rfl rfl (R.assign (v := (.bool false)) rfl) ?_
  refine WL.nil ?_
  refine thn_n ?_
  refine WP.seq ?_
  refine WP.seq ?_
  refine WP.reg ?_
  refine WL.q (Wn.no rfl) rfl rfl (R.move (v := (.string (bstr l))) rfl) ?_
  refine WL.q (Wn.no rfl) rfl rfl (R.lenStrL (l := l) (m := n) rfl rfl Try.underlying9 hl) ?_
  refine WL.q (Wn.no rfl) rfl rfl (R.bin (v := (.bool (decide ((((n : Nat) : Int) : Int) > 9000)))) rfl rfl (bi_gtr (r := decide ((((n : Nat) : Int) : Int) > 9000)) rfl)) ?_
  refine WL.q (Wn.no rfl) rfl rfl (R.move (v := (.bool (decide ((((n : Nat) : Int) : Int) > 9000)))) rfl) ?_
  refine WL.want rfl (congrArg Value.bool (decide_eq_false (by omega))) ?_
  refine WL.q (Wn.no rfl) rfl rfl (R.move (v := (vi c)) rfl) ?_
  refine WL.want rfl (congrArg Value.bool (decide_eq_false (by omega))) ?_
  refine WL.q (Wn.no rfl) rfl rfl (R.bin (v := (.bool (decide ((c : Int) > 40)))) rfl rfl (bi_gtr (r := decide ((c : Int) > 40)) rfl)) ?_
  refine WL.want rfl (congrArg Value.bool (decide_eq_false (by omega))) ?_
  refine WL.q (Wn.no rfl) rfl rfl (R.move (v := (.bool (decide ((c : Int) > 40)))) rfl) ?_
  refine WL.want rfl (congrArg Value.bool (decide_eq_true (by omega))) ?_
  refine WL.q (Wn.no rfl) rfl rfl (R.move (v := (vi c)) rfl) ?_
  refine WL.want rfl (congrArg Value.bool (decide_eq_true (by omega))) ?_
  refine WL.q (Wn.no rfl) rfl rfl (R.bin (v := (.bool (decide ((c : Int) ≤ 256)))) rfl rfl (bi_leq (r := decide ((c : Int) ≤ 256)) rfl)) ?_
  refine WL.want rfl (congrArg Value.bool (decide_eq_false (by omega))) ?_
  refine WL.q (Wn.no rfl) rfl rfl (R.pickT (v := (.bool (decide ((c : Int) ≤ 256)))) (congrArg Value.bool (decide_eq_true (by omega))) rfl) ?_
  refine WL.q (Wn.no rfl) rfl rfl (R.pickF (v := (.bool (decide ((c : Int) ≤ 256)))) (congrArg Value.bool (decide_eq_false (by omega))) rfl) ?_
  refine WL.nil ?_
  refine thn_n ?_
  refine WP.condF (congrArg Value.bool (decide_eq_false (by omega))) ?_
  refine WP.skip ?_
  refine thn_n ?_
  refine WP.seq ?_
  refine WP.reg ?_
  refine WL.q (Wn.no rfl) rfl rfl (R.loadA (b := b_1) (off := 0) [] [(32, key.map vu8)] [] (cs := key.map vu8) rfl Try.isAgg28 Try.sizeOf28 (h_3.ok _ (.head _)) rfl rfl rfl rfl) ?_
  refine WL.q (Wn.no rfl) rfl rfl (R.move (v := (.string (bstr l))) rfl) ?_
  refine WL.q (Wn.no rfl) rfl rfl (R.move (v := (vi c)) rfl) ?_
  refine WL.call (al := [(.agg ⟨key.map vu8⟩), (.string (bstr l)), (vi c)]) Try.call43 rfl rfl (c_Keys_lo key l n hkey hl c (by omega) _ ) rfl ?_
  rintro _ w_5 ⟨rfl, hc_4⟩
  have h_6 := h_3.same hc_4
  refine WL.q (Wn.no rfl) rfl rfl (R.move (v := (.tuple [(.slice none 0 0), (vi 2)].toArray)) rfl) ?_
  refine WL.q (Wn.no rfl) rfl rfl (R.extract (l := [(.slice none 0 0), (vi 2)]) (v := (.slice none 0 0)) rfl rfl) ?_
  refine WL.q (Wn.no rfl) rfl rfl (R.extract (l := [(.slice none 0 0), (vi 2)]) (v := (vi 2)) rfl rfl) ?_
  refine WL.q (Wn.no rfl) rfl rfl (R.assign (v := (.slice none 0 0)) rfl) ?_
  refine WL.q (Wn.no rfl) rfl rfl (R.assign (v := (vi 2)) rfl) ?_
  refine WL.nil ?_
  refine thn_n ?_
  refine WP.seq ?_
  refine WP.seq ?_
  refine WP.reg ?_
  refine WL.q (Wn.no rfl) rfl rfl (R.move (v := (.string (bstr l))) rfl) ?_
  refine WL.call (al := [(.string (bstr l))]) Try.call40 rfl rfl (c_MayLabel_lo l n hl (by omega) _ ) rfl ?_
  rintro _ w_8 ⟨rfl, hc_7⟩
  have h_9 := h_6.same hc_7
  refine WL.q (Wn.no rfl) rfl rfl (R.not (b := false) rfl) ?_
  refine WL.q (Wn.no rfl) rfl rfl (R.move (v := (.bool true)) rfl) ?_
  refine WL.skip rfl rfl rfl ?_
  refine WL.skip rfl rfl rfl ?_
  refine WL.q (Wn.no rfl) rfl rfl (R.pickT (v := (.bool true)) rfl rfl) ?_
  refine WL.q (Wn.no rfl) rfl rfl (R.move (v := (.bool true)) rfl) ?_
  refine WL.skip rfl rfl rfl ?_
  refine WL.skip rfl rfl rfl ?_
  refine WL.q (Wn.no rfl) rfl rfl (R.pickT (v := (.bool true)) rfl rfl) ?_
  refine WL.nil ?_
  refine thn_n ?_
  refine WP.condT rfl ?_
  refine WP.seq ?_
  refine WP.reg ?_
  refine WL.q (Wn.no rfl) rfl rfl (R.move (v := (.slice none 0 0)) rfl) ?_
  refine WL.q (Wn.no rfl) rfl rfl (R.lenS (a := none) (m := 0) rfl rfl Try.underlying63) ?_
  refine WL.q (Wn.no rfl) rfl rfl (R.bin (v := (.bool true)) rfl rfl (bi_eql (r := true) (by decide))) ?_
  refine WL.q (Wn.no rfl) rfl rfl (R.move (v := (.bool true)) rfl) ?_
  refine WL.want rfl rfl ?_
  refine WL.q (Wn.no rfl) rfl rfl (R.move (v := (vi 2)) rfl) ?_
  refine WL.want rfl rfl ?_
  refine WL.call (al := [(vi 2)]) Try.call41 rfl rfl (c_num3 2 (by omega) _ ) rfl ?_
  rintro _ w_11 ⟨rfl, hc_10⟩
  have h_12 := h_9.same hc_10
  refine WL.want rfl rfl ?_
  refine WL.q (Wn.no rfl) rfl rfl (R.bin (v := (.bool true)) rfl rfl (bi_eql (r := true) (by decide))) ?_
  refine WL.q (Wn.no rfl) rfl rfl (R.pickT (v := (.bool true)) rfl rfl) ?_
  refine WL.q (Wn.no rfl) rfl rfl (R.move (v := (.bool true)) rfl) ?_
  refine WL.want rfl rfl ?_
  refine WL.call (al := []) Try.call35 rfl rfl (c_known3  _ ) rfl ?_
  rintro _ w_14 ⟨rfl, hc_13⟩
  have h_15 := h_12.same hc_13
  refine WL.q (Wn.no rfl) rfl rfl (R.pickT (v := (.bool true)) rfl rfl) ?_
  refine WL.q (Wn.no rfl) rfl rfl (R.assign (v := (.bool true)) rfl) ?_
  refine WL.nil ?_
  refine thn_n ?_
  refine WP.ret ?_
  refine thn_r ?_
  refine ret_of Try.results11 (RV.tmp (v := (.bool true)) rfl RV.nil) ?_
  exact ⟨rfl, h_15.chgS⟩

theorem w_Keys_hi_a (key l : List UInt8) (n : Nat) (hkey : key.length = 32) (hl : l.length = n) (c : Int) (h9 : ¬ 9000 < n) (h : 64 < n) (hc : c ≤ 40) (w : World) :
    Cs Try.prog 11 [(.agg ⟨key.map vu8⟩), (.string (bstr l)), (vi c)].toArray w (fun v w1 => v = .bool true ∧ Chg w w1 []) := by
  refine Cs.of (n := 76) (args := [(.agg ⟨key.map vu8⟩), (.string (bstr l)), (vi c)]) Try.func11 rfl rfl rfl ?_
  have h_0 := HP.init w
  refine WP.seq ?_
  refine WP.reg ?_
  refine WL.box (v := (.agg ⟨key.map vu8⟩)) (segs := [(32, key.map vu8)]) h_0 rfl rfl (SsOk.cons (SOk.u8 hkey) SsOk.nil) rfl (fun b_1 w_2 h_3 => ?_)
  refine WL.q (Wn.no rfl) rfl rfl (R.assign (v := (.bool false)) rfl) ?_
  refine WL.nil ?_
  refine thn_n ?_
  refine WP.seq ?_
  refine WP.seq ?_
  refine WP.reg ?_
  refine WL.q (Wn.no rfl) rfl rfl (R.move (v := (.string (bstr l))) rfl) ?_
  refine WL.q (Wn.no rfl) rfl rfl (R.lenStrL (l := l) (m := n) rfl rfl Try.underlying9 hl) ?_
  refine WL.q (Wn.no rfl) rfl rfl (R.bin (v := (.bool (decide ((((n : Nat) : Int) : Int) > 9000)))) rfl rfl (bi_gtr (r := decide ((((n : Nat) : Int) : Int) > 9000)) rfl)) ?_
  refine WL.q (Wn.no rfl) rfl rfl (R.move (v := (.bool (decide ((((n : Nat) : Int) : Int) > 9000)))) rfl) ?_
  refine WL.want rfl (congrArg Value.bool (decide_eq_false (by omega))) ?_
  refine WL.q (Wn.no rfl) rfl rfl (R.move (v := (vi c)) rfl) ?_
  refine WL.want rfl (congrArg Value.bool (decide_eq_false (by omega))) ?_
  refine WL.q (Wn.no rfl) rfl rfl (R.bin (v := (.bool (decide ((c : Int) > 40)))) rfl rfl (bi_gtr (r := decide ((c : Int) > 40)) rfl)) ?_
  refine WL.want rfl (congrArg Value.bool (decide_eq_false (by omega))) ?_
  refine WL.q (Wn.no rfl) rfl rfl (R.move (v := (.bool (decide ((c : Int) > 40)))) rfl) ?_
  refine WL.skip rfl (congrArg Value.bool (decide_eq_false (by omega))) rfl ?_
  refine WL.skip rfl (congrArg Value.bool (decide_eq_false (by omega))) rfl ?_
  refine WL.want rfl (congrArg Value.bool (decide_eq_false (by omega))) ?_
  refine WL.q (Wn.no rfl) rfl rfl (R.pickF (v := (.bool false)) (congrArg Value.bool (decide_eq_false (by omega))) rfl) ?_
  refine WL.q (Wn.no rfl) rfl rfl (R.pickF (v := (.bool false)) (congrArg Value.bool (decide_eq_false (by omega))) rfl) ?_
  refine WL.nil ?_
  refine thn_n ?_
  refine WP.condF rfl ?_
  refine WP.skip ?_
  refine thn_n ?_
  refine WP.seq ?_
  refine WP.reg ?_
  refine WL.q (Wn.no rfl) rfl rfl (R.loadA (b := b_1) (off := 0) [] [(32, key.map vu8)] [] (cs := key.map vu8) rfl Try.isAgg28 Try.sizeOf28 (h_3.ok _ (.head _)) rfl rfl rfl rfl) ?_
  refine WL.q (Wn.no rfl) rfl rfl (R.move (v := (.string (bstr l))) rfl) ?_
  refine WL.q (Wn.no rfl) rfl rfl (R.move (v := (vi c)) rfl) ?_
  refine WL.call (al := [(.agg ⟨key.map vu8⟩), (.string (bstr l)), (vi c)]) Try.call43 rfl rfl (c_Keys_hi key l n hkey hl c (by omega) _ ) rfl ?_
  rintro _ w_5 ⟨rfl, hc_4⟩
  have h_6 := h_3.same hc_4
  refine WL.q (Wn.no rfl) rfl rfl (R.move (v := (.tuple [(.slice none 0 0), (vi 2)].toArray)) rfl) ?_
  refine WL.q (Wn.no rfl) rfl rfl (R.extract (l := [(.slice none 0 0), (vi 2)]) (v := (.slice none 0 0)) rfl rfl) ?_
  refine WL.q (Wn.no rfl) rfl rfl (R.extract (l := [(.slice none 0 0), (vi 2)]) (v := (vi 2)) rfl rfl) ?_
  refine WL.q (Wn.no rfl) rfl rfl (R.assign (v := (.slice none 0 0)) rfl) ?_
  refine WL.q (Wn.no rfl) rfl rfl (R.assign (v := (vi 2)) rfl) ?_
  refine WL.nil ?_
  refine thn_n ?_
  refine WP.seq ?_
  refine WP.seq ?_
  refine WP.reg ?_
  refine WL.q (Wn.no rfl) rfl rfl (R.move (v := (.string (bstr l))) rfl) ?_
  refine WL.call (al := [(.string (bstr l))]) Try.call40 rfl rfl (c_MayLabel_hi l n hl (by omega) _ ) rfl ?_
  rintro _ w_8 ⟨rfl, hc_7⟩
  have h_9 := h_6.same hc_7
  refine WL.q (Wn.no rfl) rfl rfl (R.not (b := false) rfl) ?_
  refine WL.q (Wn.no rfl) rfl rfl (R.move (v := (.bool true)) rfl) ?_
  refine WL.skip rfl rfl rfl ?_
  refine WL.skip rfl rfl rfl ?_
  refine WL.q (Wn.no rfl) rfl rfl (R.pickT (v := (.bool true)) rfl rfl) ?_
  refine WL.q (Wn.no rfl) rfl rfl (R.move (v := (.bool true)) rfl) ?_
  refine WL.skip rfl rfl rfl ?_
  refine WL.skip rfl rfl rfl ?_
  refine WL.q (Wn.no rfl) rfl rfl (R.pickT (v := (.bool true)) rfl rfl) ?_
  refine WL.nil ?_
  refine thn_n ?_
  refine WP.condT rfl ?_
  refine WP.seq ?_
  refine WP.reg ?_
  refine WL.q (Wn.no rfl) rfl rfl (R.move (v := (.slice none 0 0)) rfl) ?_
  refine WL.q (Wn.no rfl) rfl rfl (R.lenS (a := none) (m := 0) rfl rfl Try.underlying63) ?_
  refine WL.q (Wn.no rfl) rfl rfl (R.bin (v := (.bool true)) rfl rfl (bi_eql (r := true) (by decide))) ?_
  refine WL.q (Wn.no rfl) rfl rfl (R.move (v := (.bool true)) rfl) ?_
  refine WL.want rfl rfl ?_
  refine WL.q (Wn.no rfl) rfl rfl (R.move (v := (vi 2)) rfl) ?_
  refine WL.want rfl rfl ?_
  refine WL.call (al := [(vi 2)]) Try.call41 rfl rfl (c_num3 2 (by omega) _ ) rfl ?_
  rintro _ w_11 ⟨rfl, hc_10⟩
  have h_12 := h_9.same hc_10
  refine WL.want rfl rfl ?_
  refine WL.q (Wn.no rfl) rfl rfl (R.bin (v := (.bool true)) rfl rfl (bi_eql (r := true) (by decide))) ?_
  refine WL.q (Wn.no rfl) rfl rfl (R.pickT (v := (.bool true)) rfl rfl) ?_
  refine WL.q (Wn.no rfl) rfl rfl (R.move (v := (.bool true)) rfl) ?_
  refine WL.want rfl rfl ?_
  refine WL.call (al := []) Try.call35 rfl rfl (c_known3  _ ) rfl ?_
  rintro _ w_14 ⟨rfl, hc_13⟩
  have h_15 := h_12.same hc_13
  refine WL.q (Wn.no rfl) rfl rfl (R.pickT (v := (.bool true)) rfl rfl) ?_
  refine WL.q (Wn.no rfl) rfl rfl (R.assign (v := (.bool true)) rfl) ?_
  refine WL.nil ?_
  refine thn_n ?_
  refine WP.ret ?_
  refine thn_r ?_
  refine ret_of Try.results11 (RV.tmp (v := (.bool true)) rfl RV.nil) ?_
  exact ⟨rfl, h_15.chgS⟩

theorem w_Keys_hi_z (key l : List UInt8) (n : Nat) (hkey : key.length = 32) (hl : l.length = n) (c : Int) (h9 : ¬ 9000 < n) (h : 64 < n) (hc : 256 < c) (w : World) :
    Cs Try.prog 11 [(.agg ⟨key.map vu8⟩), (.string (bstr l)), (vi c)].toArray w (fun v w1 => v = .bool true ∧ Chg w w1 []) := by
  refine Cs.of (n := 76) (args := [(.agg ⟨key.map vu8⟩), (.string (bstr l)), (vi c)]) Try.func11 rfl rfl rfl ?_
  have h_0 := HP.init w
  refine WP.seq ?_
  refine WP.reg ?_
  refine WL.box (v := (.agg ⟨key.map vu8⟩)) (segs := [(32, key.map vu8)]) h_0 rfl rfl (SsOk.cons (SOk.u8 hkey) SsOk.nil) rfl (fun b_1 w_2 h_3 => ?_)
  refine WL.q (Wn.no rfl) rfl rfl (R.assign (v := (.bool false)) rfl) ?_
  refine WL.nil ?_
  refine thn_n ?_
  refine WP.seq ?_
  refine WP.seq ?_
  refine WP.reg ?_
  refine WL.q (Wn.no rfl) rfl rfl (R.move (v := (.string (bstr l))) rfl) ?_
  refine WL.q (Wn.no rfl) rfl rfl (R.lenStrL (l := l) (m := n) rfl rfl Try.underlying9 hl) ?_
  refine WL.q (Wn.no rfl) rfl rfl (R.bin (v := (.bool (decide ((((n : Nat) : Int) : Int) > 9000)))) rfl rfl (bi_gtr (r := decide ((((n : Nat) : Int) : Int) > 9000)) rfl)) ?_
  refine WL.q (Wn.no rfl) rfl rfl (R.move (v := (.bool (decide ((((n : Nat) : Int) : Int) > 9000)))) rfl) ?_
  refine WL.want rfl (congrArg Value.bool (decide_eq_false (by omega))) ?_
  refine WL.q (Wn.no rfl) rfl rfl (R.move (v := (vi c)) rfl) ?_
  refine WL.want rfl (congrArg Value.bool (decide_eq_false (by omega))) ?_
  refine WL.q (Wn.no rfl) rfl rfl (R.bin (v := (.bool (decide ((c : Int) > 40)))) rfl rfl (bi_gtr (r := decide ((c : Int) > 40)) rfl)) ?_
  refine WL.want rfl (congrArg Value.bool (decide_eq_false (by omega))) ?_
  refine WL.q (Wn.no rfl) rfl rfl (R.move (v := (.bool (decide ((c : Int) > 40)))) rfl) ?_
  refine WL.want rfl (congrArg Value.bool (decide_eq_true (by omega))) ?_
  refine WL.q (Wn.no rfl) rfl rfl (R.move (v := (vi c)) rfl) ?_
  refine WL.want rfl (congrArg Value.bool (decide_eq_true (by omega))) ?_
  refine WL.q (Wn.no rfl) rfl rfl (R.bin (v := (.bool (decide ((c : Int) ≤ 256)))) rfl rfl (bi_leq (r := decide ((c : Int) ≤ 256)) rfl)) ?_
  refine WL.want rfl (congrArg Value.bool (decide_eq_false (by omega))) ?_
  refine WL.q (Wn.no rfl) rfl rfl (R.pickT (v := (.bool (decide ((c : Int) ≤ 256)))) (congrArg Value.bool (decide_eq_true (by omega))) rfl) ?_
  refine WL.q (Wn.no rfl) rfl rfl (R.pickF (v := (.bool (decide ((c : Int) ≤ 256)))) (congrArg Value.bool (decide_eq_false (by omega))) rfl) ?_
  refine WL.nil ?_
  refine thn_n ?_
  refine WP.condF (congrArg Value.bool (decide_eq_false (by omega))) ?_
  refine WP.skip ?_
  refine thn_n ?_
  refine WP.seq ?_
  refine WP.reg ?_
  refine WL.q (Wn.no rfl) rfl rfl (R.loadA (b := b_1) (off := 0) [] [(32, key.map vu8)] [] (cs := key.map vu8) rfl Try.isAgg28 Try.sizeOf28 (h_3.ok _ (.head _)) rfl rfl rfl rfl) ?_
  refine WL.q (Wn.no rfl) rfl rfl (R.move (v := (.string (bstr l))) rfl) ?_
  refine WL.q (Wn.no rfl) rfl rfl (R.move (v := (vi c)) rfl) ?_
  refine WL.call (al := [(.agg ⟨key.map vu8⟩), (.string (bstr l)), (vi c)]) Try.call43 rfl rfl (c_Keys_hi key l n hkey hl c (by omega) _ ) rfl ?_
  rintro _ w_5 ⟨rfl, hc_4⟩
  have h_6 := h_3.same hc_4
  refine WL.q (Wn.no rfl) rfl rfl (R.move (v := (.tuple [(.slice none 0 0), (vi 2)].toArray)) rfl) ?_
  refine WL.q (Wn.no rfl) rfl rfl (R.extract (l := [(.slice none 0 0), (vi 2)]) (v := (.slice none 0 0)) rfl rfl) ?_
  refine WL.q (Wn.no rfl) rfl rfl (R.extract (l := [(.slice none 0 0), (vi 2)]) (v := (vi 2)) rfl rfl) ?_
  refine WL.q (Wn.no rfl) rfl rfl (R.assign (v := (.slice none 0 0)) rfl) ?_
  refine WL.q (Wn.no rfl) rfl rfl (R.assign (v := (vi 2)) rfl) ?_
  refine WL.nil ?_
  refine thn_n ?_
  refine WP.seq ?_
  refine WP.seq ?_
  refine WP.reg ?_
  refine WL.q (Wn.no rfl) rfl rfl (R.move (v := (.string (bstr l))) rfl) ?_
  refine WL.call (al := [(.string (bstr l))]) Try.call40 rfl rfl (c_MayLabel_hi l n hl (by omega) _ ) rfl ?_
  rintro _ w_8 ⟨rfl, hc_7⟩
  have h_9 := h_6.same hc_7
  refine WL.q (Wn.no rfl) rfl rfl (R.not (b := false) rfl) ?_
  refine WL.q (Wn.no rfl) rfl rfl (R.move (v := (.bool true)) rfl) ?_
  refine WL.skip rfl rfl rfl ?_
  refine WL.skip rfl rfl rfl ?_
  refine WL.q (Wn.no rfl) rfl rfl (R.pickT (v := (.bool true)) rfl rfl) ?_
  refine WL.q (Wn.no rfl) rfl rfl (R.move (v := (.bool true)) rfl) ?_
  refine WL.skip rfl rfl rfl ?_
  refine WL.skip rfl rfl rfl ?_
  refine WL.q (Wn.no rfl) rfl rfl (R.pickT (v := (.bool true)) rfl rfl) ?_
  refine WL.nil ?_
  refine thn_n ?_
  refine WP.condT rfl ?_
  refine WP.seq ?_
  refine WP.reg ?_
  refine WL.q (Wn.no rfl) rfl rfl (R.move (v := (.slice none 0 0)) rfl) ?_
  refine WL.q (Wn.no rfl) rfl rfl (R.lenS (a := none) (m := 0) rfl rfl Try.underlying63) ?_
  refine WL.q (Wn.no rfl) rfl rfl (R.bin (v := (.bool true)) rfl rfl (bi_eql (r := true) (by decide))) ?_
  refine WL.q (Wn.no rfl) rfl rfl (R.move (v := (.bool true)) rfl) ?_
  refine WL.want rfl rfl ?_
  refine WL.q (Wn.no rfl) rfl rfl (R.move (v := (vi 2)) rfl) ?_
  refine WL.want rfl rfl ?_
  refine WL.call (al := [(vi 2)]) Try.call41 rfl rfl (c_num3 2 (by omega) _ ) rfl ?_
  rintro _ w_11 ⟨rfl, hc_10⟩
  have h_12 := h_9.same hc_10
  refine WL.want rfl rfl ?_
  refine WL.q (Wn.no rfl) rfl rfl (R.bin (v := (.bool true)) rfl rfl (bi_eql (r := true) (by decide))) ?_
  refine WL.q (Wn.no rfl) rfl rfl (R.pickT (v := (.bool true)) rfl rfl) ?_
  refine WL.q (Wn.no rfl) rfl rfl (R.move (v := (.bool true)) rfl) ?_
  refine WL.want rfl rfl ?_
  refine WL.call (al := []) Try.call35 rfl rfl (c_known3  _ ) rfl ?_
  rintro _ w_14 ⟨rfl, hc_13⟩
  have h_15 := h_12.same hc_13
  refine WL.q (Wn.no rfl) rfl rfl (R.pickT (v := (.bool true)) rfl rfl) ?_
  refine WL.q (Wn.no rfl) rfl rfl (R.assign (v := (.bool true)) rfl) ?_
  refine WL.nil ?_
  refine thn_n ?_
  refine WP.ret ?_
  refine thn_r ?_
  refine ret_of Try.results11 (RV.tmp (v := (.bool true)) rfl RV.nil) ?_
  exact ⟨rfl, h_15.chgS⟩

theorem w_Keys_neg (key l : List UInt8) (n : Nat) (hkey : key.length = 32) (hl : l.length = n) (c : Int) (h9 : ¬ 9000 < n) (h1 : 1 ≤ n) (h : n ≤ 64) (hc : c < 0) (w : World) :
    Cs Try.prog 11 [(.agg ⟨key.map vu8⟩), (.string (bstr l)), (vi c)].toArray w (fun v w1 => v = .bool true ∧ Chg w w1 []) := by
  refine Cs.of (n := 76) (args := [(.agg ⟨key.map vu8⟩), (.string (bstr l)), (vi c)]) Try.func11 rfl rfl rfl ?_
  have h_0 := HP.init w
  refine WP.seq ?_
  refine WP.reg ?_
  refine WL.box (v := (.agg ⟨key.map vu8⟩)) (segs := [(32, key.map vu8)]) h_0 rfl rfl (SsOk.cons (SOk.u8 hkey) SsOk.nil) rfl (fun b_1 w_2 h_3 => ?_)
  refine WL.q (Wn.no rfl) rfl rfl (R.assign (v := (.bool false)) rfl) ?_
  refine WL.nil ?_
  refine thn_n ?_
  refine WP.seq ?_
  refine WP.seq ?_
  refine WP.reg ?_
  refine WL.q (Wn.no rfl) rfl rfl (R.move (v := (.string (bstr l))) rfl) ?_
  refine WL.q (Wn.no rfl) rfl rfl (R.lenStrL (l := l) (m := n) rfl rfl Try.underlying9 hl) ?_
  refine WL.q (Wn.no rfl) rfl rfl (R.bin (v := (.bool (decide ((((n : Nat) : Int) : Int) > 9000)))) rfl rfl (bi_gtr (r := decide ((((n : Nat) : Int) : Int) > 9000)) rfl)) ?_
  refine WL.q (Wn.no rfl) rfl rfl (R.move (v := (.bool (decide ((((n : Nat) : Int) : Int) > 9000)))) rfl) ?_
  refine WL.want rfl (congrArg Value.bool (decide_eq_false (by omega))) ?_
  refine WL.q (Wn.no rfl) rfl rfl (R.move (v := (vi c)) rfl) ?_
  refine WL.want rfl (congrArg Value.bool (decide_eq_false (by omega))) ?_
  refine WL.q (Wn.no rfl) rfl rfl (R.bin (v := (.bool (decide ((c : Int) > 40)))) rfl rfl (bi_gtr (r := decide ((c : Int) > 40)) rfl)) ?_
  refine WL.want rfl (congrArg Value.bool (decide_eq_false (by omega))) ?_
  refine WL.q (Wn.no rfl) rfl rfl (R.move (v := (.bool (decide ((c : Int) > 40)))) rfl) ?_
  refine WL.skip rfl (congrArg Value.bool (decide_eq_false (by omega))) rfl ?_
  refine WL.skip rfl (congrArg Value.bool (decide_eq_false (by omega))) rfl ?_
  refine WL.want rfl (congrArg Value.bool (decide_eq_false (by omega))) ?_
  refine WL.q (Wn.no rfl) rfl rfl (R.pickF (v := (.bool false)) (congrArg Value.bool (decide_eq_false (by omega))) rfl) ?_
  refine WL.q (Wn.no rfl) rfl rfl (R.pickF (v := (.bool false)) (congrArg Value.bool (decide_eq_false (by omega))) rfl) ?_
  refine WL.nil ?_
  refine thn_n ?_
  refine WP.condF rfl ?_
  refine WP.skip ?_
  refine thn_n ?_
  refine WP.seq ?_
  refine WP.reg ?_
  refine WL.q (Wn.no rfl) rfl rfl (R.loadA (b := b_1) (off := 0) [] [(32, key.map vu8)] [] (cs := key.map vu8) rfl Try.isAgg28 Try.sizeOf28 (h_3.ok _ (.head _)) rfl rfl rfl rfl) ?_
  refine WL.q (Wn.no rfl) rfl rfl (R.move (v := (.string (bstr l))) rfl) ?_
  refine WL.q (Wn.no rfl) rfl rfl (R.move (v := (vi c)) rfl) ?_
  refine WL.call (al := [(.agg ⟨key.map vu8⟩), (.string (bstr l)), (vi c)]) Try.call43 rfl rfl (c_Keys_neg key l n hkey hl c (by omega) (by omega) (by omega) _ ) rfl ?_
  rintro _ w_5 ⟨rfl, hc_4⟩
  have h_6 := h_3.same hc_4
  refine WL.q (Wn.no rfl) rfl rfl (R.move (v := (.tuple [(.slice none 0 0), (vi 2)].toArray)) rfl) ?_
  refine WL.q (Wn.no rfl) rfl rfl (R.extract (l := [(.slice none 0 0), (vi 2)]) (v := (.slice none 0 0)) rfl rfl) ?_
  refine WL.q (Wn.no rfl) rfl rfl (R.extract (l := [(.slice none 0 0), (vi 2)]) (v := (vi 2)) rfl rfl) ?_
  refine WL.q (Wn.no rfl) rfl rfl (R.assign (v := (.slice none 0 0)) rfl) ?_
  refine WL.q (Wn.no rfl) rfl rfl (R.assign (v := (vi 2)) rfl) ?_
  refine WL.nil ?_
  refine thn_n ?_
  refine WP.seq ?_
  refine WP.seq ?_
  refine WP.reg ?_
  refine WL.q (Wn.no rfl) rfl rfl (R.move (v := (.string (bstr l))) rfl) ?_
  refine WL.call (al := [(.string (bstr l))]) Try.call40 rfl rfl (c_MayLabel_ok l n hl (by omega) (by omega) _ ) rfl ?_
  rintro _ w_8 ⟨rfl, hc_7⟩
  have h_9 := h_6.same hc_7
  refine WL.q (Wn.no rfl) rfl rfl (R.not (b := true) rfl) ?_
  refine WL.q (Wn.no rfl) rfl rfl (R.move (v := (.bool false)) rfl) ?_
  refine WL.want rfl rfl ?_
  refine WL.q (Wn.no rfl) rfl rfl (R.move (v := (vi c)) rfl) ?_
  refine WL.want rfl rfl ?_
  refine WL.q (Wn.no rfl) rfl rfl (R.bin (v := (.bool (decide ((c : Int) < 0)))) rfl rfl (bi_lss (r := decide ((c : Int) < 0)) rfl)) ?_
  refine WL.q (Wn.no rfl) rfl rfl (R.pickF (v := (.bool (decide ((c : Int) < 0)))) rfl rfl) ?_
  refine WL.q (Wn.no rfl) rfl rfl (R.move (v := (.bool (decide ((c : Int) < 0)))) rfl) ?_
  refine WL.skip rfl (congrArg Value.bool (decide_eq_true (by omega))) rfl ?_
  refine WL.skip rfl (congrArg Value.bool (decide_eq_true (by omega))) rfl ?_
  refine WL.q (Wn.no rfl) rfl rfl (R.pickT (v := (.bool true)) (congrArg Value.bool (decide_eq_true (by omega))) rfl) ?_
  refine WL.nil ?_
  refine thn_n ?_
  refine WP.condT rfl ?_
  refine WP.seq ?_
  refine WP.reg ?_
  refine WL.q (Wn.no rfl) rfl rfl (R.move (v := (.slice none 0 0)) rfl) ?_
  refine WL.q (Wn.no rfl) rfl rfl (R.lenS (a := none) (m := 0) rfl rfl Try.underlying63) ?_
  refine WL.q (Wn.no rfl) rfl rfl (R.bin (v := (.bool true)) rfl rfl (bi_eql (r := true) (by decide))) ?_
  refine WL.q (Wn.no rfl) rfl rfl (R.move (v := (.bool true)) rfl) ?_
  refine WL.want rfl rfl ?_
  refine WL.q (Wn.no rfl) rfl rfl (R.move (v := (vi 2)) rfl) ?_
  refine WL.want rfl rfl ?_
  refine WL.call (al := [(vi 2)]) Try.call41 rfl rfl (c_num3 2 (by omega) _ ) rfl ?_
  rintro _ w_11 ⟨rfl, hc_10⟩
  have h_12 := h_9.same hc_10
  refine WL.want rfl rfl ?_
  refine WL.q (Wn.no rfl) rfl rfl (R.bin (v := (.bool true)) rfl rfl (bi_eql (r := true) (by decide))) ?_
  refine WL.q (Wn.no rfl) rfl rfl (R.pickT (v := (.bool true)) rfl rfl) ?_
  refine WL.q (Wn.no rfl) rfl rfl (R.move (v := (.bool true)) rfl) ?_
  refine WL.want rfl rfl ?_
  refine WL.call (al := []) Try.call35 rfl rfl (c_known3  _ ) rfl ?_
  rintro _ w_14 ⟨rfl, hc_13⟩
  have h_15 := h_12.same hc_13
  refine WL.q (Wn.no rfl) rfl rfl (R.pickT (v := (.bool true)) rfl rfl) ?_
  refine WL.q (Wn.no rfl) rfl rfl (R.assign (v := (.bool true)) rfl) ?_
  refine WL.nil ?_
  refine thn_n ?_
  refine WP.ret ?_
  refine thn_r ?_
  refine ret_of Try.results11 (RV.tmp (v := (.bool true)) rfl RV.nil) ?_
  exact ⟨rfl, h_15.chgS⟩

theorem w_Keys_big (key l : List UInt8) (n : Nat) (hkey : key.length = 32) (hl : l.length = n) (c : Int) (h9 : ¬ 9000 < n) (h1 : 1 ≤ n) (h : n ≤ 64) (hc : 256 < c) (w : World) :
    Cs Try.prog 11 [(.agg ⟨key.map vu8⟩), (.string (bstr l)), (vi c)].toArray w (fun v w1 => v = .bool true ∧ Chg w w1 []) := by
  refine Cs.of (n := 76) (args := [(.agg ⟨key.map vu8⟩), (.string (bstr l)), (vi c)]) Try.func11 rfl rfl rfl ?_
  have h_0 := HP.init w
  refine WP.seq ?_
  refine WP.reg ?_
  refine WL.box (v := (.agg ⟨key.map vu8⟩)) (segs := [(32, key.map vu8)]) h_0 rfl rfl (SsOk.cons (SOk.u8 hkey) SsOk.nil) rfl (fun b_1 w_2 h_3 => ?_)
  refine WL.q (Wn.no rfl) rfl rfl (R.assign (v := (.bool false)) rfl) ?_
  refine WL.nil ?_
  refine thn_n ?_
  refine WP.seq ?_
  refine WP.seq ?_
  refine WP.reg ?_
  refine WL.q (Wn.no rfl) rfl rfl (R.move (v := (.string (bstr l))) rfl) ?_
  refine WL.q (Wn.no rfl) rfl rfl (R.lenStrL (l := l) (m := n) rfl rfl Try.underlying9 hl) ?_
  refine WL.q (Wn.no rfl) rfl rfl (R.bin (v := (.bool (decide ((((n : Nat) : Int) : Int) > 9000)))) rfl rfl (bi_gtr (r := decide ((((n : Nat) : Int) : Int) > 9000)) rfl)) ?_
  refine WL.q (Wn.no rfl) rfl rfl (R.move (v := (.bool (decide ((((n : Nat) : Int) : Int) > 9000)))) rfl) ?_
  refine WL.want rfl (congrArg Value.bool (decide_eq_false (by omega))) ?_
  refine WL.q (Wn.no rfl) rfl rfl (R.move (v := (vi c)) rfl) ?_
  refine WL.want rfl (congrArg Value.bool (decide_eq_false (by omega))) ?_
  refine WL.q (Wn.no rfl) rfl rfl (R.bin (v := (.bool (decide ((c : Int) > 40)))) rfl rfl (bi_gtr (r := decide ((c : Int) > 40)) rfl)) ?_
  refine WL.want rfl (congrArg Value.bool (decide_eq_false (by omega))) ?_
  refine WL.q (Wn.no rfl) rfl rfl (R.move (v := (.bool (decide ((c : Int) > 40)))) rfl) ?_
  refine WL.want rfl (congrArg Value.bool (decide_eq_true (by omega))) ?_
  refine WL.q (Wn.no rfl) rfl rfl (R.move (v := (vi c)) rfl) ?_
  refine WL.want rfl (congrArg Value.bool (decide_eq_true (by omega))) ?_
  refine WL.q (Wn.no rfl) rfl rfl (R.bin (v := (.bool (decide ((c : Int) ≤ 256)))) rfl rfl (bi_leq (r := decide ((c : Int) ≤ 256)) rfl)) ?_
  refine WL.want rfl (congrArg Value.bool (decide_eq_false (by omega))) ?_
  refine WL.q (Wn.no rfl) rfl rfl (R.pickT (v := (.bool (decide ((c : Int) ≤ 256)))) (congrArg Value.bool (decide_eq_true (by omega))) rfl) ?_
  refine WL.q (Wn.no rfl) rfl rfl (R.pickF (v := (.bool (decide ((c : Int) ≤ 256)))) (congrArg Value.bool (decide_eq_false (by omega))) rfl) ?_
  refine WL.nil ?_
  refine thn_n ?_
  refine WP.condF (congrArg Value.bool (decide_eq_false (by omega))) ?_
  refine WP.skip ?_
  refine thn_n ?_
  refine WP.seq ?_
  refine WP.reg ?_
  refine WL.q (Wn.no rfl) rfl rfl (R.loadA (b := b_1) (off := 0) [] [(32, key.map vu8)] [] (cs := key.map vu8) rfl Try.isAgg28 Try.sizeOf28 (h_3.ok _ (.head _)) rfl rfl rfl rfl) ?_
  refine WL.q (Wn.no rfl) rfl rfl (R.move (v := (.string (bstr l))) rfl) ?_
  refine WL.q (Wn.no rfl) rfl rfl (R.move (v := (vi c)) rfl) ?_
  refine WL.call (al := [(.agg ⟨key.map vu8⟩), (.string (bstr l)), (vi c)]) Try.call43 rfl rfl (c_Keys_big key l n hkey hl c (by omega) (by omega) (by omega) _ ) rfl ?_
  rintro _ w_5 ⟨rfl, hc_4⟩
  have h_6 := h_3.same hc_4
  refine WL.q (Wn.no rfl) rfl rfl (R.move (v := (.tuple [(.slice none 0 0), (vi 2)].toArray)) rfl) ?_
  refine WL.q (Wn.no rfl) rfl rfl (R.extract (l := [(.slice none 0 0), (vi 2)]) (v := (.slice none 0 0)) rfl rfl) ?_
  refine WL.q (Wn.no rfl) rfl rfl (R.extract (l := [(.slice none 0 0), (vi 2)]) (v := (vi 2)) rfl rfl) ?_
  refine WL.q (Wn.no rfl) rfl rfl (R.assign (v := (.slice none 0 0)) rfl) ?_
  refine WL.q (Wn.no rfl) rfl rfl (R.assign (v := (vi 2)) rfl) ?_
  refine WL.nil ?_
  refine thn_n ?_
  refine WP.seq ?_
  refine WP.seq ?_
  refine WP.reg ?_
  refine WL.q (Wn.no rfl) rfl rfl (R.move (v := (.string (bstr l))) rfl) ?_
  refine WL.call (al := [(.string (bstr l))]) Try.call40 rfl rfl (c_MayLabel_ok l n hl (by omega) (by omega) _ ) rfl ?_
  rintro _ w_8 ⟨rfl, hc_7⟩
  have h_9 := h_6.same hc_7
  refine WL.q (Wn.no rfl) rfl rfl (R.not (b := true) rfl) ?_
  refine WL.q (Wn.no rfl) rfl rfl (R.move (v := (.bool false)) rfl) ?_
  refine WL.want rfl rfl ?_
  refine WL.q (Wn.no rfl) rfl rfl (R.move (v := (vi c)) rfl) ?_
  refine WL.want rfl rfl ?_
  refine WL.q (Wn.no rfl) rfl rfl (R.bin (v := (.bool (decide ((c : Int) < 0)))) rfl rfl (bi_lss (r := decide ((c : Int) < 0)) rfl)) ?_
  refine WL.q (Wn.no rfl) rfl rfl (R.pickF (v := (.bool (decide ((c : Int) < 0)))) rfl rfl) ?_
  refine WL.q (Wn.no rfl) rfl rfl (R.move (v := (.bool (decide ((c : Int) < 0)))) rfl) ?_
  refine WL.want rfl (congrArg Value.bool (decide_eq_false (by omega))) ?_
  refine WL.q (Wn.no rfl) rfl rfl (R.move (v := (vi c)) rfl) ?_
  refine WL.want rfl (congrArg Value.bool (decide_eq_false (by omega))) ?_
  refine WL.q (Wn.no rfl) rfl rfl (R.bin (v := (.bool (decide ((c : Int) > 256)))) rfl rfl (bi_gtr (r := decide ((c : Int) > 256)) rfl)) ?_
  refine WL.q (Wn.no rfl) rfl rfl (R.pickF (v := (.bool (decide ((c : Int) > 256)))) (congrArg Value.bool (decide_eq_false (by omega))) rfl) ?_
  refine WL.nil ?_
  refine thn_n ?_
  refine WP.condT (congrArg Value.bool (decide_eq_true (by omega))) ?_
  refine WP.seq ?_
  refine WP.reg ?_
  refine WL.q (Wn.no rfl) rfl rfl (R.move (v := (.slice none 0 0)) rfl) ?_
  refine WL.q (Wn.no rfl) rfl rfl (R.lenS (a := none) (m := 0) rfl rfl Try.underlying63) ?_
  refine WL.q (Wn.no rfl) rfl rfl (R.bin (v := (.bool true)) rfl rfl (bi_eql (r := true) (by decide))) ?_
  refine WL.q (Wn.no rfl) rfl rfl (R.move (v := (.bool true)) rfl) ?_
  refine WL.want rfl rfl ?_
  refine WL.q (Wn.no rfl) rfl rfl (R.move (v := (vi 2)) rfl) ?_
  refine WL.want rfl rfl ?_
  refine WL.call (al := [(vi 2)]) Try.call41 rfl rfl (c_num3 2 (by omega) _ ) rfl ?_
  rintro _ w_11 ⟨rfl, hc_10⟩
  have h_12 := h_9.same hc_10
  refine WL.want rfl rfl ?_
  refine WL.q (Wn.no rfl) rfl rfl (R.bin (v := (.bool true)) rfl rfl (bi_eql (r := true) (by decide))) ?_
  refine WL.q (Wn.no rfl) rfl rfl (R.pickT (v := (.bool true)) rfl rfl) ?_
  refine WL.q (Wn.no rfl) rfl rfl (R.move (v := (.bool true)) rfl) ?_
  refine WL.want rfl rfl ?_
  refine WL.call (al := []) Try.call35 rfl rfl (c_known3  _ ) rfl ?_
  rintro _ w_14 ⟨rfl, hc_13⟩
  have h_15 := h_12.same hc_13
  refine WL.q (Wn.no rfl) rfl rfl (R.pickT (v := (.bool true)) rfl rfl) ?_
  refine WL.q (Wn.no rfl) rfl rfl (R.assign (v := (.bool true)) rfl) ?_
  refine WL.nil ?_
  refine thn_n ?_
  refine WP.ret ?_
  refine thn_r ?_
  refine ret_of Try.results11 (RV.tmp (v := (.bool true)) rfl RV.nil) ?_
  exact ⟨rfl, h_15.chgS⟩

theorem w_Keys_ok (key l : List UInt8) (n : Nat) (hkey : key.length = 32) (hl : l.length = n) (c : Nat) (h9 : ¬ 9000 < n) (h1 : 1 ≤ n) (h : n ≤ 64) (hc : c ≤ 40) (w : World) :
    Cs Try.prog 11 [(.agg ⟨key.map vu8⟩), (.string (bstr l)), (vi ((c : Nat) : Int))].toArray w (fun v w1 => v = .bool true ∧ Chg w w1 []) := by
  refine Cs.of (n := 76) (args := [(.agg ⟨key.map vu8⟩), (.string (bstr l)), (vi ((c : Nat) : Int))]) Try.func11 rfl rfl rfl ?_
  have h_0 := HP.init w
  refine WP.seq ?_
  refine WP.reg ?_
  refine WL.box (v := (.agg ⟨key.map vu8⟩)) (segs := [(32, key.map vu8)]) h_0 rfl rfl (SsOk.cons (SOk.u8 hkey) SsOk.nil) rfl (fun b_1 w_2 h_3 => ?_)
  refine WL.q (Wn.no rfl) rfl rfl (R.assign (v := (.bool false)) rfl) ?_
  refine WL.nil ?_
  refine thn_n ?_
  refine WP.seq ?_
  refine WP.seq ?_
  refine WP.reg ?_
  refine WL.q (Wn.no rfl) rfl rfl (R.move (v := (.string (bstr l))) rfl) ?_
  refine WL.q (Wn.no rfl) rfl rfl (R.lenStrL (l := l) (m := n) rfl rfl Try.underlying9 hl) ?_
  refine WL.q (Wn.no rfl) rfl rfl (R.bin (v := (.bool (decide ((((n : Nat) : Int) : Int) > 9000)))) rfl rfl (bi_gtr (r := decide ((((n : Nat) : Int) : Int) > 9000)) rfl)) ?_
  refine WL.q (Wn.no rfl) rfl rfl (R.move (v := (.bool (decide ((((n : Nat) : Int) : Int) > 9000)))) rfl) ?_
  refine WL.want rfl (congrArg Value.bool (decide_eq_false (by omega))) ?_
  refine WL.q (Wn.no rfl) rfl rfl (R.move (v := (vi ((c : Nat) : Int))) rfl) ?_
  refine WL.want rfl (congrArg Value.bool (decide_eq_false (by omega))) ?_
  refine WL.q (Wn.no rfl) rfl rfl (R.bin (v := (.bool (decide ((((c : Nat) : Int) : Int) > 40)))) rfl rfl (bi_gtr (r := decide ((((c : Nat) : Int) : Int) > 40)) rfl)) ?_
  refine WL.want rfl (congrArg Value.bool (decide_eq_false (by omega))) ?_
  refine WL.q (Wn.no rfl) rfl rfl (R.move (v := (.bool (decide ((((c : Nat) : Int) : Int) > 40)))) rfl) ?_
  refine WL.skip rfl (congrArg Value.bool (decide_eq_false (by omega))) rfl ?_
  refine WL.skip rfl (congrArg Value.bool (decide_eq_false (by omega))) rfl ?_
  refine WL.want rfl (congrArg Value.bool (decide_eq_false (by omega))) ?_
  refine WL.q (Wn.no rfl) rfl rfl (R.pickF (v := (.bool false)) (congrArg Value.bool (decide_eq_false (by omega))) rfl) ?_
  refine WL.q (Wn.no rfl) rfl rfl (R.pickF (v := (.bool false)) (congrArg Value.bool (decide_eq_false (by omega))) rfl) ?_
  refine WL.nil ?_
  refine thn_n ?_
  refine WP.condF rfl ?_
  refine WP.skip ?_
  refine thn_n ?_
  refine WP.seq ?_
  refine WP.reg ?_
  refine WL.q (Wn.no rfl) rfl rfl (R.loadA (b := b_1) (off := 0) [] [(32, key.map vu8)] [] (cs := key.map vu8) rfl Try.isAgg28 Try.sizeOf28 (h_3.ok _ (.head _)) rfl rfl rfl rfl) ?_
  refine WL.q (Wn.no rfl) rfl rfl (R.move (v := (.string (bstr l))) rfl) ?_
  refine WL.q (Wn.no rfl) rfl rfl (R.move (v := (vi ((c : Nat) : Int))) rfl) ?_
  refine WL.call (al := [(.agg ⟨key.map vu8⟩), (.string (bstr l)), (vi ((c : Nat) : Int))]) Try.call43 rfl rfl (c_Keys_ok key l n hkey hl c (by omega) (by omega) (by omega) _) rfl ?_
  rintro _ w_6 ⟨a_4, cap_5, rfl, hc_7, ho_8⟩
  have h_9 := h_3.gotRow hc_7 ho_8
  refine WL.q (Wn.no rfl) rfl rfl (R.move (v := (.tuple [(.slice a_4 c cap_5), (vi 0)].toArray)) rfl) ?_
  refine WL.q (Wn.no rfl) rfl rfl (R.extract (l := [(.slice a_4 c cap_5), (vi 0)]) (v := (.slice a_4 c cap_5)) rfl rfl) ?_
  refine WL.q (Wn.no rfl) rfl rfl (R.extract (l := [(.slice a_4 c cap_5), (vi 0)]) (v := (vi 0)) rfl rfl) ?_
  refine WL.q (Wn.no rfl) rfl rfl (R.assign (v := (.slice a_4 c cap_5)) rfl) ?_
  refine WL.q (Wn.no rfl) rfl rfl (R.assign (v := (vi 0)) rfl) ?_
  refine WL.nil ?_
  refine thn_n ?_
  refine WP.seq ?_
  refine WP.seq ?_
  refine WP.reg ?_
  refine WL.q (Wn.no rfl) rfl rfl (R.move (v := (.string (bstr l))) rfl) ?_
  refine WL.call (al := [(.string (bstr l))]) Try.call40 rfl rfl (c_MayLabel_ok l n hl (by omega) (by omega) _ ) rfl ?_
  rintro _ w_11 ⟨rfl, hc_10⟩
  have h_12 := h_9.same hc_10
  refine WL.q (Wn.no rfl) rfl rfl (R.not (b := true) rfl) ?_
  refine WL.q (Wn.no rfl) rfl rfl (R.move (v := (.bool false)) rfl) ?_
  refine WL.want rfl rfl ?_
  refine WL.q (Wn.no rfl) rfl rfl (R.move (v := (vi ((c : Nat) : Int))) rfl) ?_
  refine WL.want rfl rfl ?_
  refine WL.q (Wn.no rfl) rfl rfl (R.bin (v := (.bool (decide ((((c : Nat) : Int) : Int) < 0)))) rfl rfl (bi_lss (r := decide ((((c : Nat) : Int) : Int) < 0)) rfl)) ?_
  refine WL.q (Wn.no rfl) rfl rfl (R.pickF (v := (.bool (decide ((((c : Nat) : Int) : Int) < 0)))) rfl rfl) ?_
  refine WL.q (Wn.no rfl) rfl rfl (R.move (v := (.bool (decide ((((c : Nat) : Int) : Int) < 0)))) rfl) ?_
  refine WL.want rfl (congrArg Value.bool (decide_eq_false (by omega))) ?_
  refine WL.q (Wn.no rfl) rfl rfl (R.move (v := (vi ((c : Nat) : Int))) rfl) ?_
  refine WL.want rfl (congrArg Value.bool (decide_eq_false (by omega))) ?_
  refine WL.q (Wn.no rfl) rfl rfl (R.bin (v := (.bool (decide ((((c : Nat) : Int) : Int) > 256)))) rfl rfl (bi_gtr (r := decide ((((c : Nat) : Int) : Int) > 256)) rfl)) ?_
  refine WL.q (Wn.no rfl) rfl rfl (R.pickF (v := (.bool (decide ((((c : Nat) : Int) : Int) > 256)))) (congrArg Value.bool (decide_eq_false (by omega))) rfl) ?_
  refine WL.nil ?_
  refine thn_n ?_
  refine WP.condF (congrArg Value.bool (decide_eq_false (by omega))) ?_
  refine WP.skip ?_
  refine thn_n ?_
  refine WP.seq ?_
  refine WP.seq ?_
  refine WP.reg ?_
  refine WL.q (Wn.no rfl) rfl rfl (R.move (v := (.slice a_4 c cap_5)) rfl) ?_
  refine WL.q (Wn.no rfl) rfl rfl (R.lenS (a := a_4) (m := c) rfl rfl Try.underlying63) ?_
  refine WL.q (Wn.no rfl) rfl rfl (R.move (v := (vi ((c : Nat) : Int))) rfl) ?_
  refine WL.q (Wn.no rfl) rfl rfl (R.bin (v := (.bool false)) rfl rfl (bi_neq (r := false) (by simp))) ?_
  refine WL.q (Wn.no rfl) rfl rfl (R.move (v := (.bool false)) rfl) ?_
  refine WL.want rfl rfl ?_
  refine WL.q (Wn.no rfl) rfl rfl (R.move (v := (vi 0)) rfl) ?_
  refine WL.want rfl rfl ?_
  refine WL.call (al := [(vi 0)]) Try.call41 rfl rfl (c_num3 0 (by omega) _ ) rfl ?_
  rintro _ w_14 ⟨rfl, hc_13⟩
  have h_15 := h_12.same hc_13
  refine WL.want rfl rfl ?_
  refine WL.q (Wn.no rfl) rfl rfl (R.bin (v := (.bool false)) rfl rfl (bi_neq (r := false) (by decide))) ?_
  refine WL.q (Wn.no rfl) rfl rfl (R.pickF (v := (.bool false)) rfl rfl) ?_
  refine WL.nil ?_
  refine thn_n ?_
  refine WP.condF rfl ?_
  refine WP.skip ?_
  refine thn_n ?_
  refine WP.seq ?_
  refine WP.seq ?_
  refine WP.reg ?_
  refine WL.q (Wn.no rfl) rfl rfl (R.assign (v := (vi 0)) rfl) ?_
  refine WL.nil ?_
  refine thn_n ?_
  refine WP.block ?_
  refine WP.loopG (G := Nat) [6, 9, 60, 61, 62, 63, 64, 65, 66, 67, 68, 69, 70, 71, 72, 73, 74] (fun k => [(9, (vi ((k : Nat) : Int)))]) (fun k m w1 => HP w w1 [.row a_4 c cap_5 28 32 ((kfL key l c).map vu8), .blk b_1 .nw 28 [(32, key.map vu8)]] ∧ (k ≤ c) ∧ m = c - k) ⟨0, _, ⟨rfl, trivial⟩, h_15, (by omega), rfl⟩ ?_
  rintro k m_18 J_19 w_16 ⟨h_17, hk, rfl⟩
  refine WP.seq ?_
  refine WP.seq ?_
  refine WP.reg ?_
  refine WL.q (Wn.no rfl) rfl rfl (R.move (v := (vi ((k : Nat) : Int))) rfl) ?_
  refine WL.q (Wn.no rfl) rfl rfl (R.move (v := (vi ((c : Nat) : Int))) rfl) ?_
  refine WL.q (Wn.no rfl) rfl rfl (R.bin (v := (.bool (decide ((((k : Nat) : Int) : Int) < ((c : Nat) : Int))))) rfl rfl (bi_lss (r := decide ((((k : Nat) : Int) : Int) < ((c : Nat) : Int))) rfl)) ?_
  refine WL.nil ?_
  refine thn_n ?_
  refine WP.cond (b := decide ((((k : Nat) : Int) : Int) < ((c : Nat) : Int))) rfl (fun c_20 => ?_) (fun c_20 => ?_)
  · have p_21 := of_decide_eq_true c_20
    refine WP.skip ?_
    refine thn_n ?_
    refine WP.seq ?_
    refine WP.block ?_
    refine WP.seq ?_
    refine WP.drawT (SL w.heap.size [.row a_4 c cap_5 28 32 ((kfL key l c).map vu8), .blk b_1 .nw 28 [(32, key.map vu8)]]) (.q 0 (.q 1 (.q 2 (.q 3 (.q 4 (.q 5 (.q 6 (.q 7 (.s 8 (.q 9 .nil)))))))))) (by kernel_rfl) (by kernel_rfl) rfl (by kernel_rfl) (fun w_22 hc_24 => (SL.cons ((h_17.same hc_24).ok _ (.head _)) (SL.cons ((h_17.same hc_24).ok _ (.tail _ (.head _))) (SL.nil _ _)))) (fun w_22 hc_24 => ?_)
    have h_23 := h_17.same hc_24
    refine WT.q rfl (Wn.no rfl) rfl rfl (fun wq hS => R.move (v := (.slice a_4 c cap_5)) rfl) ?_
    refine WT.q rfl (Wn.no rfl) rfl rfl (fun wq hS => R.move (v := (vi ((k : Nat) : Int))) rfl) ?_
    refine WT.q rfl (Wn.no rfl) rfl rfl (fun wq hS => R.indexS (a := a_4) (i := k) (off := k * 32) (xs := (kfL key l c).map vu8) rfl rfl rfl (by omega) (ownView (hS _ (.head _))) (lt_len (K := 32 * c) (len_map (kfL_len key l c)) (by omega)) Try.underlying63 Try.sizeOf28 rfl) ?_
    refine WT.q rfl (Wn.no rfl) rfl rfl (fun wq hS => R.loadGA (a := a_4) (i := k * 32) (xs := (kfL key l c).map vu8) (cs := (((kfL key l c).drop (k * 32)).take 32).map vu8) rfl (ownView (hS _ (.head _))) Try.isAgg28 Try.sizeOf28 (by rw [List.map_take, List.map_drop]) (len_map (subLen (K := 32 * c) (kfL_len key l c) (by omega) : List.length (((kfL key l c).drop (k * 32)).take 32) = 32)) (by decide)) ?_
    refine WT.q rfl (Wn.no rfl) rfl rfl (fun wq hS => R.loadA (b := b_1) (off := 0) [] [(32, key.map vu8)] [] (cs := key.map vu8) rfl Try.isAgg28 Try.sizeOf28 (hS _ (.tail _ (.head _))) rfl rfl rfl rfl) ?_
    refine WT.q rfl (Wn.no rfl) rfl rfl (fun wq hS => R.move (v := (.string (bstr l))) rfl) ?_
    refine WT.q rfl (Wn.no rfl) rfl rfl (fun wq hS => R.move (v := (vi ((k : Nat) : Int))) rfl) ?_
    refine WT.q rfl (Wn.no rfl) rfl rfl (fun wq hS => R.conv (b := ((UInt64.ofNat k) : UInt64).toNat) rfl Try.underlying3 Try.underlying58 (w64_nat k)) ?_
    refine WT.s ?_
    refine Op1.one rfl (Wn.no rfl) ?_
    refine WL.call (al := [(.agg ⟨key.map vu8⟩), (.string (bstr l)), (vu64 (UInt64.ofNat k))]) Try.call42 rfl rfl (c_DeriveR key l n hkey hl (UInt64.ofNat k) (by omega) (by omega) _ ) rfl ?_
    rintro _ w_26 ⟨rfl, hc_25⟩
    have h_27 := h_23.same hc_25
    refine WL.nil ?_
    refine ⟨(SL.cons (h_27.ok _ (.head _)) (SL.cons (h_27.ok _ (.tail _ (.head _))) (SL.nil _ _))), ?_⟩
    refine WT.q rfl (Wn.no rfl) rfl rfl (fun wq hS => R.neA (xs := (((kfL key l c).drop (k * 32)).take 32).map vu8) (ys := (deriveL key l (UInt64.ofNat k)).map vu8) (r := false) rfl rfl Try.eqGuardType28 kt28 (by decide) ag28 (Typ.u8s Try.underlying28 ce28 Try.underlying5 ce5 (subLen (K := 32 * c) (kfL_len key l c) (by omega) : List.length (((kfL key l c).drop (k * 32)).take 32) = 32)) (Typ.u8s Try.underlying28 ce28 Try.underlying5 ce5 (deriveL_len _ _ _)) (neT (by rw [kfL_get c (by omega)]))) ?_
    refine WT.nil ?_
    refine thn_n ?_
    refine WP.condF rfl ?_
    refine WP.skip ?_
    refine inb_n ?_
    refine thn_n ?_
    refine WP.reg ?_
    refine WL.q (Wn.no rfl) rfl rfl (R.move (v := (vi ((k : Nat) : Int))) rfl) ?_
    refine WL.q (Wn.no rfl) rfl rfl (R.bin (v := (vi ((k + 1 : Nat) : Int))) rfl rfl (bi_add (c := ((k + 1 : Nat) : Int)) (by omega) (by omega))) ?_
    refine WL.q (Wn.no rfl) rfl rfl (R.assign (v := (vi ((k + 1 : Nat) : Int))) rfl) ?_
    refine WL.nil ?_
    refine thn_n ?_
    have h_28 := h_27.up (Pick.t Pick.h)
    have h_29 := h_28.up (Pick.t Pick.h)
    exact ⟨k + 1, _, (by omega), (Ag.upd rfl (Ag.upd rfl (Ag.upd rfl (Ag.upd rfl (Ag.upd rfl (Ag.upd rfl (Ag.upd rfl (Ag.upd rfl (Ag.upd rfl (Ag.upd rfl (Ag.upd rfl (Ag.upd rfl (Ag.upd rfl (Ag.upd rfl (Ag.upd rfl (Ag.upd rfl (Ag.updL rfl (Ag.mix _ _ _)))))))))))))))))), ⟨rfl, trivial⟩, h_29, (by omega), rfl⟩
  · have p_30 := of_decide_eq_false c_20
    refine WP.exit ?_
    refine thn_x ?_
    refine thn_x ?_
    refine inb_hit ?_
    refine thn_n ?_
    refine WP.seq ?_
    refine WP.reg ?_
    refine WL.call (al := []) Try.call35 rfl rfl (c_known3  _ ) rfl ?_
    rintro _ w_32 ⟨rfl, hc_31⟩
    have h_33 := h_17.same hc_31
    refine WL.q (Wn.no rfl) rfl rfl (R.assign (v := (.bool true)) rfl) ?_
    refine WL.nil ?_
    refine thn_n ?_
    refine WP.ret ?_
    refine ret_of Try.results11 (RV.tmp (v := (.bool true)) rfl RV.nil) ?_
    exact ⟨rfl, h_33.chgS⟩

theorem w_MacKeys (key l : List UInt8) (n : Nat) (hkey : key.length = 32) (hl : l.length = n) (c : Int) (w : World) : Cs Try.prog 11 [(.agg ⟨key.map vu8⟩), .string (bstr l), vi c].toArray w (fun v w1 => v = .bool true ∧ Chg w w1 []) := by
  by_cases h : 9000 < n
  · exact w_Keys_b key l n hkey hl c h w
  by_cases hm : 40 < c ∧ c ≤ 256
  · exact w_Keys_m key l n hkey hl c h hm w
  by_cases h1 : n < 1
  · by_cases hc : c ≤ 40
    · exact w_Keys_lo_a key l n hkey hl c h h1 hc w
    · exact w_Keys_lo_z key l n hkey hl c h h1 (by omega) w
  by_cases h2 : 64 < n
  · by_cases hc : c ≤ 40
    · exact w_Keys_hi_a key l n hkey hl c h h2 hc w
    · exact w_Keys_hi_z key l n hkey hl c h h2 (by omega) w
  by_cases hc : c < 0
  · exact w_Keys_neg key l n hkey hl c h (by omega) (by omega) hc w
  by_cases hc2 : 256 < c
  · exact w_Keys_big key l n hkey hl c h (by omega) (by omega) hc2 w
  obtain ⟨q, rfl⟩ : ∃ q : Nat, c = (q : Int) := ⟨c.toNat, by omega⟩
  exact w_Keys_ok key l n hkey hl q h (by omega) (by omega) (by omega) w
namespace macKeysDone
open Go.ChangeShapes Go.WideShapes Go.ChangeAt
theorem own : ownKnob Try.prog.godebug = none := by kernel_rfl
theorem laidOut : laidOutB Try.prog = true := by kernel_rfl
set_option maxRecDepth 100000 in
theorem lifted (os : Os) (started : os.Started) (H : Type) (enc : TypeId × Value → H) :
    ReturnsInHanded {} Try.checked os 11 .any (Rows.macKeysSpec.pre6 enc Try.prog Try.f11 Rows.macKeysRow.domain false) (Rows.macKeysSpec.post enc Try.prog Try.f11 false true false false) := by
  refine returnsInHanded_of_change (C := Try.checked) own started (by kernel_rfl) Try.func11
    (ChangeSpec.witness6 (enc := enc) (C := Try.checked) false ⟨#[], #[.agg #[.int .u8 0, .int .u8 0, .int .u8 0, .int .u8 0, .int .u8 0, .int .u8 0, .int .u8 0, .int .u8 0, .int .u8 0, .int .u8 0, .int .u8 0, .int .u8 0, .int .u8 0, .int .u8 0, .int .u8 0, .int .u8 0, .int .u8 0, .int .u8 0, .int .u8 0, .int .u8 0, .int .u8 0, .int .u8 0, .int .u8 0, .int .u8 0, .int .u8 0, .int .u8 0, .int .u8 0, .int .u8 0, .int .u8 0, .int .u8 0, .int .u8 0, .int .u8 0], .string ByteArray.empty, .int .i64 0], []⟩ 8 (by kernel_rfl) (by kernel_rfl) (by kernel_rfl) (by kernel_rfl)) ?_
  intro W base args ds gs before hval0 hW hcnd _
  have hval : ∀ (j : Nat) t v, Try.f11.params[j]? = some t → args[j]? = some v → Value.okWide Try.prog W .any base t v := hval0
  have hW' := hW
  obtain ⟨p, q, hA0, hV, rfl, hfz, hnd⟩ := hW
  have hA : DataW.TrodAll enc Try.prog W 0 (fun _ => true) true Try.f11.params.toList args.toList ds p := hA0
  rw [Try.params11] at hA hval
  obtain ⟨v0, vs0, d0, ds0, p0, q0, hargs, rfl, rfl, h0, r0⟩ := trodAll_cons hA
  obtain ⟨v1, vs1, d1, ds1, p1, q1, rfl, rfl, rfl, h1, r1⟩ := trodAll_cons r0
  obtain ⟨v2, vs2, d2, ds2, p2, q2, rfl, rfl, rfl, h2, r2⟩ := trodAll_cons r1
  obtain ⟨rfl, rfl, rfl⟩ := trodAll_nil r2
  obtain rfl : args = #[v0, v1, v2] := by cases args; simp_all
  obtain ⟨rfl, rfl⟩ := trodVars_none hV
  have lt0 : ∀ x ∈ p0, x.block < W.heap.size := by obtain ⟨m, hm⟩ := h0; exact DataW.trod_lt m _ _ _ hm
  obtain ⟨cs0, rfl⟩ := okWide_agg aggT28 (hval 0 28 v0 rfl rfl)
  have tr0 : Tr Try.prog W 28 cs0 := Tr.of h0 rfl
  obtain ⟨x0, rfl, l_x0⟩ := Tr.arr8 Try.underlying28 ce28 ce5 Try.underlying5 tr0
  have lt1 : ∀ x ∈ p1, x.block < W.heap.size := by obtain ⟨m, hm⟩ := h1; exact DataW.trod_lt m _ _ _ hm
  obtain ⟨x1, rfl⟩ := okWide_string Try.underlying9 (hval 1 9 v1 rfl rfl)
  have l_x1 := Tr.str' Try.underlying9 (Tr.of h1 rfl)
  obtain ⟨y1, rfl⟩ : ∃ l, x1 = bstr l := ⟨_, (bstr_of x1).symm⟩
  have lt2 : ∀ x ∈ p2, x.block < W.heap.size := by obtain ⟨m, hm⟩ := h2; exact DataW.trod_lt m _ _ _ hm
  obtain ⟨x2, rfl⟩ := okWide_int Try.underlying3 (hval 2 3 v2 rfl rfl)
  have b_x2 := Tr.i64' Try.underlying3 (Tr.of h2 rfl)
  clear hA0 hval0
  have hw : Cs Try.prog 11 [(.agg ⟨x0.map vu8⟩), (.string (bstr y1)), (vi x2)].toArray W (fun v w1 => v = .bool true ∧ Chg W w1 []) := w_MacKeys x0 y1 _ l_x0 rfl x2 W
  have ea : ([(.agg ⟨x0.map vu8⟩), (.string (bstr y1)), (vi x2)] : List Value).toArray = (#[.agg ⟨x0.map vu8⟩, (.string (bstr y1)), (vi x2)] : Array Value) := by simp [flat]
  rw [ea] at hw
  refine Calls.mono (Cs.below hw) fun e W' ⟨he, bel⟩ => ?_
  subst he
  exact ⟨_, rfl, _, _, _, [], _, [], hW', trodAll_mk1 (shut_bool Try.underlying4 _), (trodAll_cons_mk (Below.trod laidOut (by kernel_rfl) (of_decide_eq_true (by kernel_rfl)) h0 bel lt0) (trodAll_cons_mk (Below.trod laidOut (by kernel_rfl) (of_decide_eq_true (by kernel_rfl)) h1 bel lt1) (trodAll_cons_mk (Below.trod laidOut (by kernel_rfl) (of_decide_eq_true (by kernel_rfl)) h2 bel lt2) trodAll_mk0))), rfl, bel.frame _, fun h => by cases h⟩
theorem over : Rows.macKeysRow.holds Try.pinned (OpenSpec.ofChange Rows.macKeysSpec) :=
  OpenClaim.holds_of_wide 11 Try.f11 rfl rfl rfl rfl rfl rfl rfl ⟨rfl, rfl, rfl, rfl, rfl⟩ rfl rfl rfl rfl rfl (by kernel_rfl) Try.func11 (by kernel_rfl)
    (of_decide_eq_true (by kernel_rfl)) (by unfold Func.isWrapper; first | (rw [if_pos (by decide +kernel)]; kernel_rfl) | (rw [if_neg (by decide +kernel)]; exact ⟨rfl, rfl⟩))
    (fun os started H enc _ => lifted os started H enc)
theorem proved : Rows.MacKeysSaid := over
end macKeysDone
end Go.Proofs.Ytelkjcigdhgcoaa
