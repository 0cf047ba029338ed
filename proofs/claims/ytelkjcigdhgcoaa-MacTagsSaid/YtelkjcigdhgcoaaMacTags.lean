/- MacTags holds of every input. Conditions: none. -/
import Derived.Test.YtelkjcigdhgcoaaPD
namespace Go.Proofs.Ytelkjcigdhgcoaa
open Go.Vc Go.Sh Go.RowKit
set_option linter.unusedVariables false
set_option linter.unusedSimpArgs false
set_option maxRecDepth 20000
theorem aggT28 : aggB Try.prog 28 = true := by unfold aggB; rw [Try.underlying28]
theorem w_Tags_a (a : Option Addr) (n cap : Nat) (key : List UInt8) (hl : key.length = n) (hcap : n ≤ cap) (a2 : Option Addr) (n2 cap2 : Nat) (bs2 : List UInt8) (hl2 : bs2.length = n2) (hcap2 : n2 ≤ cap2) (d : List UInt8) (hd : d.length = 32) (h : 300 < n) (w : World) (hv : View w a (key.map vu8)) (hv2 : View w a2 (bs2.map vu8)) :
    Cs Try.prog 9 [(.slice a n cap), (.slice a2 n2 cap2), (.agg ⟨d.map vu8⟩)].toArray w (fun v w1 => v = .bool true ∧ Chg w w1 []) := by
  refine Cs.of (n := 46) (args := [(.slice a n cap), (.slice a2 n2 cap2), (.agg ⟨d.map vu8⟩)]) Try.func9 rfl rfl rfl ?_
  have h_0 := HP.init w
  have h_01 := h_0.oldV (View.arg hv) rfl (by simp [Ent.mut])
  have h_00 := h_01.oldV (View.arg hv2) rfl (by simp [Ent.mut])
  refine WP.seq ?_
  refine WP.reg ?_
  refine WL.box (v := (.agg ⟨d.map vu8⟩)) (segs := [(32, d.map vu8)]) h_00 rfl rfl (SsOk.cons (SOk.u8 hd) SsOk.nil) rfl (fun b_1 w_2 h_3 => ?_)
  refine WL.q (Wn.no rfl) rfl rfl (R.assign (v := (.bool false)) rfl) ?_
  refine WL.nil ?_
  refine thn_n ?_
  refine WP.seq ?_
  refine WP.seq ?_
  refine WP.reg ?_
  refine WL.q (Wn.no rfl) rfl rfl (R.move (v := (.slice a n cap)) rfl) ?_
  refine WL.q (Wn.no rfl) rfl rfl (R.lenS (a := a) (m := n) rfl rfl Try.underlying26) ?_
  refine WL.q (Wn.no rfl) rfl rfl (R.bin (v := (.bool (decide ((((n : Nat) : Int) : Int) > 300)))) rfl rfl (bi_gtr (r := decide ((((n : Nat) : Int) : Int) > 300)) rfl)) ?_
  refine WL.q (Wn.no rfl) rfl rfl (R.move (v := (.bool (decide ((((n : Nat) : Int) : Int) > 300)))) rfl) ?_
  refine WL.skip rfl (congrArg Value.bool (decide_eq_true (by omega))) rfl ?_
  refine WL.skip rfl (congrArg Value.bool (decide_eq_true (by omega))) rfl ?_
  refine WL.skip rfl (congrArg Value.bool (decide_eq_true (by omega))) rfl ?_
  refine WL.q (Wn.no rfl) rfl rfl (R.pickT (v := (.bool true)) (congrArg Value.bool (decide_eq_true (by omega))) rfl) ?_
  refine WL.nil ?_
  refine thn_n ?_
  refine WP.condT rfl ?_
  refine WP.seq ?_
  refine WP.reg ?_
  refine WL.call (al := []) Try.call35 rfl rfl (c_known3  _ ) rfl ?_
  rintro _ w_5 ⟨rfl, hc_4⟩
  have h_6 := h_3.same hc_4
  refine WL.q (Wn.no rfl) rfl rfl (R.assign (v := (.bool true)) rfl) ?_
  refine WL.nil ?_
  refine thn_n ?_
  refine WP.ret ?_
  refine thn_r ?_
  refine ret_of Try.results9 (RV.tmp (v := (.bool true)) rfl RV.nil) ?_
  exact ⟨rfl, h_6.chgS⟩

theorem w_Tags_b (a : Option Addr) (n cap : Nat) (key : List UInt8) (hl : key.length = n) (hcap : n ≤ cap) (a2 : Option Addr) (n2 cap2 : Nat) (bs2 : List UInt8) (hl2 : bs2.length = n2) (hcap2 : n2 ≤ cap2) (d : List UInt8) (hd : d.length = 32) (h : ¬ 300 < n) (h2 : 300 < n2) (w : World) (hv : View w a (key.map vu8)) (hv2 : View w a2 (bs2.map vu8)) :
    Cs Try.prog 9 [(.slice a n cap), (.slice a2 n2 cap2), (.agg ⟨d.map vu8⟩)].toArray w (fun v w1 => v = .bool true ∧ Chg w w1 []) := by
  refine Cs.of (n := 46) (args := [(.slice a n cap), (.slice a2 n2 cap2), (.agg ⟨d.map vu8⟩)]) Try.func9 rfl rfl rfl ?_
  have h_0 := HP.init w
  have h_01 := h_0.oldV (View.arg hv) rfl (by simp [Ent.mut])
  have h_00 := h_01.oldV (View.arg hv2) rfl (by simp [Ent.mut])
  refine WP.seq ?_
  refine WP.reg ?_
  refine WL.box (v := (.agg ⟨d.map vu8⟩)) (segs := [(32, d.map vu8)]) h_00 rfl rfl (SsOk.cons (SOk.u8 hd) SsOk.nil) rfl (fun b_1 w_2 h_3 => ?_)
  refine WL.q (Wn.no rfl) rfl rfl (R.assign (v := (.bool false)) rfl) ?_
  refine WL.nil ?_
  refine thn_n ?_
  refine WP.seq ?_
  refine WP.seq ?_
  refine WP.reg ?_
  refine WL.q (Wn.no rfl) rfl rfl (R.move (v := (.slice a n cap)) rfl) ?_
  refine WL.q (Wn.no rfl) rfl rfl (R.lenS (a := a) (m := n) rfl rfl Try.underlying26) ?_
  refine WL.q (Wn.no rfl) rfl rfl (R.bin (v := (.bool (decide ((((n : Nat) : Int) : Int) > 300)))) rfl rfl (bi_gtr (r := decide ((((n : Nat) : Int) : Int) > 300)) rfl)) ?_
  refine WL.q (Wn.no rfl) rfl rfl (R.move (v := (.bool (decide ((((n : Nat) : Int) : Int) > 300)))) rfl) ?_
  refine WL.want rfl (congrArg Value.bool (decide_eq_false (by omega))) ?_
  refine WL.q (Wn.no rfl) rfl rfl (R.move (v := (.slice a2 n2 cap2)) rfl) ?_
  refine WL.want rfl (congrArg Value.bool (decide_eq_false (by omega))) ?_
  refine WL.q (Wn.no rfl) rfl rfl (R.lenS (a := a2) (m := n2) rfl rfl Try.underlying26) ?_
  refine WL.want rfl (congrArg Value.bool (decide_eq_false (by omega))) ?_
  refine WL.q (Wn.no rfl) rfl rfl (R.bin (v := (.bool (decide ((((n2 : Nat) : Int) : Int) > 300)))) rfl rfl (bi_gtr (r := decide ((((n2 : Nat) : Int) : Int) > 300)) rfl)) ?_
  refine WL.q (Wn.no rfl) rfl rfl (R.pickF (v := (.bool (decide ((((n2 : Nat) : Int) : Int) > 300)))) (congrArg Value.bool (decide_eq_false (by omega))) rfl) ?_
  refine WL.nil ?_
  refine thn_n ?_
  refine WP.condT (congrArg Value.bool (decide_eq_true (by omega))) ?_
  refine WP.seq ?_
  refine WP.reg ?_
  refine WL.call (al := []) Try.call35 rfl rfl (c_known3  _ ) rfl ?_
  rintro _ w_5 ⟨rfl, hc_4⟩
  have h_6 := h_3.same hc_4
  refine WL.q (Wn.no rfl) rfl rfl (R.assign (v := (.bool true)) rfl) ?_
  refine WL.nil ?_
  refine thn_n ?_
  refine WP.ret ?_
  refine thn_r ?_
  refine ret_of Try.results9 (RV.tmp (v := (.bool true)) rfl RV.nil) ?_
  exact ⟨rfl, h_6.chgS⟩

theorem w_Tags_c (a : Option Addr) (n cap : Nat) (key : List UInt8) (hl : key.length = n) (hcap : n ≤ cap) (a2 : Option Addr) (n2 cap2 : Nat) (bs2 : List UInt8) (hl2 : bs2.length = n2) (hcap2 : n2 ≤ cap2) (d : List UInt8) (hd : d.length = 32) (h : ¬ 300 < n) (h2 : ¬ 300 < n2) (w : World) (hv : View w a (key.map vu8)) (hv2 : View w a2 (bs2.map vu8)) :
    Cs Try.prog 9 [(.slice a n cap), (.slice a2 n2 cap2), (.agg ⟨d.map vu8⟩)].toArray w (fun v w1 => v = .bool true ∧ Chg w w1 []) := by
  refine Cs.of (n := 46) (args := [(.slice a n cap), (.slice a2 n2 cap2), (.agg ⟨d.map vu8⟩)]) Try.func9 rfl rfl rfl ?_
  have h_0 := HP.init w
  have h_01 := h_0.oldV (View.arg hv) rfl (by simp [Ent.mut])
  have h_00 := h_01.oldV (View.arg hv2) rfl (by simp [Ent.mut])
  refine WP.seq ?_
  refine WP.reg ?_
  refine WL.box (v := (.agg ⟨d.map vu8⟩)) (segs := [(32, d.map vu8)]) h_00 rfl rfl (SsOk.cons (SOk.u8 hd) SsOk.nil) rfl (fun b_1 w_2 h_3 => ?_)
  refine WL.q (Wn.no rfl) rfl rfl (R.assign (v := (.bool false)) rfl) ?_
  refine WL.nil ?_
  refine thn_n ?_
  refine WP.seq ?_
  refine WP.seq ?_
  refine WP.reg ?_
  refine WL.q (Wn.no rfl) rfl rfl (R.move (v := (.slice a n cap)) rfl) ?_
  refine WL.q (Wn.no rfl) rfl rfl (R.lenS (a := a) (m := n) rfl rfl Try.underlying26) ?_
  refine WL.q (Wn.no rfl) rfl rfl (R.bin (v := (.bool (decide ((((n : Nat) : Int) : Int) > 300)))) rfl rfl (bi_gtr (r := decide ((((n : Nat) : Int) : Int) > 300)) rfl)) ?_
  refine WL.q (Wn.no rfl) rfl rfl (R.move (v := (.bool (decide ((((n : Nat) : Int) : Int) > 300)))) rfl) ?_
  refine WL.want rfl (congrArg Value.bool (decide_eq_false (by omega))) ?_
  refine WL.q (Wn.no rfl) rfl rfl (R.move (v := (.slice a2 n2 cap2)) rfl) ?_
  refine WL.want rfl (congrArg Value.bool (decide_eq_false (by omega))) ?_
  refine WL.q (Wn.no rfl) rfl rfl (R.lenS (a := a2) (m := n2) rfl rfl Try.underlying26) ?_
  refine WL.want rfl (congrArg Value.bool (decide_eq_false (by omega))) ?_
  refine WL.q (Wn.no rfl) rfl rfl (R.bin (v := (.bool (decide ((((n2 : Nat) : Int) : Int) > 300)))) rfl rfl (bi_gtr (r := decide ((((n2 : Nat) : Int) : Int) > 300)) rfl)) ?_
  refine WL.q (Wn.no rfl) rfl rfl (R.pickF (v := (.bool (decide ((((n2 : Nat) : Int) : Int) > 300)))) (congrArg Value.bool (decide_eq_false (by omega))) rfl) ?_
  refine WL.nil ?_
  refine thn_n ?_
  refine WP.condF (congrArg Value.bool (decide_eq_false (by omega))) ?_
  refine WP.skip ?_
  refine thn_n ?_
  refine WP.seq ?_
  refine WP.reg ?_
  refine WL.q (Wn.no rfl) rfl rfl (R.move (v := (.slice a n cap)) rfl) ?_
  refine WL.q (Wn.no rfl) rfl rfl (R.move (v := (.slice a2 n2 cap2)) rfl) ?_
  refine WL.call (al := [(.slice a n cap), (.slice a2 n2 cap2)]) Try.call36 rfl rfl (c_Tag a n cap key hl (by omega) (by omega) a2 n2 cap2 bs2 hl2 (by omega) (by omega) _ (viewV (h_3.ok _ (.tail _ (.tail _ (.head _))))) (viewV (h_3.ok _ (.tail _ (.head _))))) rfl ?_
  rintro _ w_5 ⟨rfl, hc_4⟩
  have h_6 := h_3.same hc_4
  refine WL.alloc (segs := [(32, (List.replicate 32 (0 : UInt8)).map vu8)]) h_6 (zv Try.typeInfo28 rfl) rfl (SsOk.cons (SOk.u8 (List.length_replicate ..)) SsOk.nil) rfl (fun b_7 w_8 h_9 => ?_)
  refine WL.storeA (b := b_7) (off := 0) [] [(32, (List.replicate 32 (0 : UInt8)).map vu8)] [(32, (tagL key bs2).map vu8)] [] (ys := (tagL key bs2).map vu8) h_9 rfl rfl Try.sizeOf28 At.h (by decide) rfl rfl rfl rfl rfl rfl (SsOk.cons (SOk.u8 (tagL_len _ _)) SsOk.nil) (fun w_10 h_11 => ?_)
  refine WL.nil ?_
  refine thn_n ?_
  refine WP.seq ?_
  refine WP.reg ?_
  refine WL.q (Wn.no rfl) rfl rfl (R.move (v := (.slice a n cap)) rfl) ?_
  refine WL.q (Wn.no rfl) rfl rfl (R.move (v := (.slice a2 n2 cap2)) rfl) ?_
  refine WL.call (al := [(.slice a n cap), (.slice a2 n2 cap2)]) Try.call37 rfl rfl (c_TagR a n cap key hl (by omega) (by omega) a2 n2 cap2 bs2 hl2 (by omega) (by omega) _ (viewV (h_11.ok _ (.tail _ (.tail _ (.tail _ (.head _)))))) (viewV (h_11.ok _ (.tail _ (.tail _ (.head _)))))) rfl ?_
  rintro _ w_13 ⟨rfl, hc_12⟩
  have h_14 := h_11.same hc_12
  refine WL.alloc (segs := [(32, (List.replicate 32 (0 : UInt8)).map vu8)]) h_14 (zv Try.typeInfo28 rfl) rfl (SsOk.cons (SOk.u8 (List.length_replicate ..)) SsOk.nil) rfl (fun b_15 w_16 h_17 => ?_)
  refine WL.storeA (b := b_15) (off := 0) [] [(32, (List.replicate 32 (0 : UInt8)).map vu8)] [(32, (tagL key bs2).map vu8)] [] (ys := (tagL key bs2).map vu8) h_17 rfl rfl Try.sizeOf28 At.h (by decide) rfl rfl rfl rfl rfl rfl (SsOk.cons (SOk.u8 (tagL_len _ _)) SsOk.nil) (fun w_18 h_19 => ?_)
  refine WL.nil ?_
  refine thn_n ?_
  refine WP.seq ?_
  refine WP.drawT (SL w.heap.size [.blk b_15 .nw 28 [(32, (tagL key bs2).map vu8)], .blk b_7 .nw 28 [(32, (tagL key bs2).map vu8)], .blk b_1 .nw 28 [(32, d.map vu8)], .view a2 (bs2.map vu8), .view a (key.map vu8)]) (.q 0 (.q 1 (.q 2 (.q 3 (.q 4 (.q 5 (.q 6 (.s 7 (.q 8 (.q 9 (.q 10 (.q 11 (.q 12 (.q 14 (.q 15 (.q 16 (.s 13 (.q 17 (.q 18 (.q 19 (.s 20 (.q 21 (.q 22 .nil))))))))))))))))))))))) (by kernel_rfl) (by kernel_rfl) rfl (by kernel_rfl) (fun w_20 hc_22 => (SL.cons ((h_19.same hc_22).ok _ (.head _)) (SL.cons ((h_19.same hc_22).ok _ (.tail _ (.head _))) (SL.cons ((h_19.same hc_22).ok _ (.tail _ (.tail _ (.head _)))) (SL.cons ((h_19.same hc_22).ok _ (.tail _ (.tail _ (.tail _ (.head _))))) (SL.cons ((h_19.same hc_22).ok _ (.tail _ (.tail _ (.tail _ (.tail _ (.head _)))))) (SL.nil _ _))))))) (fun w_20 hc_22 => ?_)
  have h_21 := h_19.same hc_22
  refine WT.q rfl (Wn.no rfl) rfl rfl (fun wq hS => R.loadA (b := b_7) (off := 0) [] [(32, (tagL key bs2).map vu8)] [] (cs := (tagL key bs2).map vu8) rfl Try.isAgg28 Try.sizeOf28 (hS _ (.tail _ (.head _))) rfl rfl rfl rfl) ?_
  refine WT.q rfl (Wn.no rfl) rfl rfl (fun wq hS => R.loadA (b := b_15) (off := 0) [] [(32, (tagL key bs2).map vu8)] [] (cs := (tagL key bs2).map vu8) rfl Try.isAgg28 Try.sizeOf28 (hS _ (.head _)) rfl rfl rfl rfl) ?_
  refine WT.q rfl (Wn.no rfl) rfl rfl (fun wq hS => R.eqA (xs := (tagL key bs2).map vu8) (ys := (tagL key bs2).map vu8) (r := true) rfl rfl Try.eqGuardType28 kt28 (by decide) ag28 (Typ.u8s Try.underlying28 ce28 Try.underlying5 ce5 (tagL_len _ _)) (Typ.u8s Try.underlying28 ce28 Try.underlying5 ce5 (tagL_len _ _)) (eqT rfl)) ?_
  refine WT.q rfl (Wn.no rfl) rfl rfl (fun wq hS => R.move (v := (.bool true)) rfl) ?_
  refine WT.q rfl (Wn.yes rfl rfl rfl) rfl rfl (fun wq hS => R.move (v := (.slice a n cap)) rfl) ?_
  refine WT.q rfl (Wn.yes rfl rfl rfl) rfl rfl (fun wq hS => R.move (v := (.slice a2 n2 cap2)) rfl) ?_
  refine WT.q rfl (Wn.yes rfl rfl rfl) rfl rfl (fun wq hS => R.loadA (b := b_15) (off := 0) [] [(32, (tagL key bs2).map vu8)] [] (cs := (tagL key bs2).map vu8) rfl Try.isAgg28 Try.sizeOf28 (hS _ (.head _)) rfl rfl rfl rfl) ?_
  refine WT.s ?_
  refine Op1.one rfl (Wn.yes rfl rfl rfl) ?_
  refine WL.call (al := [(.slice a n cap), (.slice a2 n2 cap2), (.agg ⟨(tagL key bs2).map vu8⟩)]) Try.call38 rfl rfl (c_Check a n cap key hl (by omega) (by omega) a2 n2 cap2 bs2 hl2 (by omega) (by omega) (tagL key bs2) (tagL_len _ _) _ (viewV (h_21.ok _ (.tail _ (.tail _ (.tail _ (.tail _ (.head _))))))) (viewV (h_21.ok _ (.tail _ (.tail _ (.tail _ (.head _))))))) rfl ?_
  rintro _ w_24 ⟨rfl, hc_23⟩
  have h_25 := h_21.same hc_23
  refine WL.nil ?_
  refine ⟨(SL.cons (h_25.ok _ (.head _)) (SL.cons (h_25.ok _ (.tail _ (.head _))) (SL.cons (h_25.ok _ (.tail _ (.tail _ (.head _)))) (SL.cons (h_25.ok _ (.tail _ (.tail _ (.tail _ (.head _))))) (SL.cons (h_25.ok _ (.tail _ (.tail _ (.tail _ (.tail _ (.head _)))))) (SL.nil _ _)))))), ?_⟩
  refine WT.q rfl (Wn.no rfl) rfl rfl (fun wq hS => R.pickT (v := (.bool true)) rfl (congrArg Value.bool (decide_eq_true rfl))) ?_
  refine WT.q rfl (Wn.no rfl) rfl rfl (fun wq hS => R.move (v := (.bool true)) rfl) ?_
  refine WT.q rfl (Wn.yes rfl rfl rfl) rfl rfl (fun wq hS => R.move (v := (.slice a n cap)) rfl) ?_
  refine WT.q rfl (Wn.yes rfl rfl rfl) rfl rfl (fun wq hS => R.move (v := (.slice a2 n2 cap2)) rfl) ?_
  refine WT.q rfl (Wn.yes rfl rfl rfl) rfl rfl (fun wq hS => R.loadA (b := b_1) (off := 0) [] [(32, d.map vu8)] [] (cs := d.map vu8) rfl Try.isAgg28 Try.sizeOf28 (hS _ (.tail _ (.tail _ (.head _)))) rfl rfl rfl rfl) ?_
  refine WT.q rfl (Wn.yes rfl rfl rfl) rfl rfl (fun wq hS => R.loadA (b := b_1) (off := 0) [] [(32, d.map vu8)] [] (cs := d.map vu8) rfl Try.isAgg28 Try.sizeOf28 (hS _ (.tail _ (.tail _ (.head _)))) rfl rfl rfl rfl) ?_
  refine WT.q rfl (Wn.yes rfl rfl rfl) rfl rfl (fun wq hS => R.loadA (b := b_15) (off := 0) [] [(32, (tagL key bs2).map vu8)] [] (cs := (tagL key bs2).map vu8) rfl Try.isAgg28 Try.sizeOf28 (hS _ (.head _)) rfl rfl rfl rfl) ?_
  refine WT.q rfl (Wn.yes rfl rfl rfl) rfl rfl (fun wq hS => R.eqA (xs := d.map vu8) (ys := (tagL key bs2).map vu8) (r := decide (d = tagL key bs2)) rfl rfl Try.eqGuardType28 kt28 (by decide) ag28 (Typ.u8s Try.underlying28 ce28 Try.underlying5 ce5 hd) (Typ.u8s Try.underlying28 ce28 Try.underlying5 ce5 (tagL_len _ _)) (map_inj_u8.trans (decT _))) ?_
  refine WT.s ?_
  refine Op1.one rfl (Wn.yes rfl rfl rfl) ?_
  refine WL.call (al := [(.slice a n cap), (.slice a2 n2 cap2), (.agg ⟨d.map vu8⟩)]) Try.call38 rfl rfl (c_Check a n cap key hl (by omega) (by omega) a2 n2 cap2 bs2 hl2 (by omega) (by omega) d hd _ (viewV (h_25.ok _ (.tail _ (.tail _ (.tail _ (.tail _ (.head _))))))) (viewV (h_25.ok _ (.tail _ (.tail _ (.tail _ (.head _))))))) rfl ?_
  rintro _ w_27 ⟨rfl, hc_26⟩
  have h_28 := h_25.same hc_26
  refine WL.nil ?_
  refine ⟨(SL.cons (h_28.ok _ (.head _)) (SL.cons (h_28.ok _ (.tail _ (.head _))) (SL.cons (h_28.ok _ (.tail _ (.tail _ (.head _)))) (SL.cons (h_28.ok _ (.tail _ (.tail _ (.tail _ (.head _))))) (SL.cons (h_28.ok _ (.tail _ (.tail _ (.tail _ (.tail _ (.head _)))))) (SL.nil _ _)))))), ?_⟩
  refine WT.q rfl (Wn.yes rfl rfl rfl) rfl rfl (fun wq hS => R.eqB (a := decide (tagL key bs2 = d)) (b := decide (d = tagL key bs2)) (c := true) rfl rfl Try.underlying4 (by rw [show decide (tagL key bs2 = d) = decide (d = tagL key bs2) from decide_eq_decide.2 eq_comm]; simp)) ?_
  refine WT.q rfl (Wn.no rfl) rfl rfl (fun wq hS => R.pickT (v := (.bool true)) rfl rfl) ?_
  refine WT.q rfl (Wn.no rfl) rfl rfl (fun wq hS => R.move (v := (.bool true)) rfl) ?_
  refine WT.s ?_
  refine Op1.one rfl (Wn.yes rfl rfl rfl) ?_
  refine WL.call (al := []) Try.call35 rfl rfl (c_known3  _ ) rfl ?_
  rintro _ w_30 ⟨rfl, hc_29⟩
  have h_31 := h_28.same hc_29
  refine WL.nil ?_
  refine ⟨(SL.cons (h_31.ok _ (.head _)) (SL.cons (h_31.ok _ (.tail _ (.head _))) (SL.cons (h_31.ok _ (.tail _ (.tail _ (.head _)))) (SL.cons (h_31.ok _ (.tail _ (.tail _ (.tail _ (.head _))))) (SL.cons (h_31.ok _ (.tail _ (.tail _ (.tail _ (.tail _ (.head _)))))) (SL.nil _ _)))))), ?_⟩
  refine WT.q rfl (Wn.no rfl) rfl rfl (fun wq hS => R.pickT (v := (.bool true)) rfl rfl) ?_
  refine WT.q rfl (Wn.no rfl) rfl rfl (fun wq hS => R.assign (v := (.bool true)) rfl) ?_
  refine WT.nil ?_
  refine thn_n ?_
  refine WP.ret ?_
  refine ret_of Try.results9 (RV.tmp (v := (.bool true)) rfl RV.nil) ?_
  exact ⟨rfl, h_31.chgS⟩

theorem w_MacTags (a : Option Addr) (n cap : Nat) (key : List UInt8) (hl : key.length = n) (hcap : n ≤ cap) (a2 : Option Addr) (n2 cap2 : Nat) (bs2 : List UInt8) (hl2 : bs2.length = n2) (hcap2 : n2 ≤ cap2) (d : List UInt8) (hd : d.length = 32) (w : World) (hv : View w a (key.map vu8)) (hv2 : View w a2 (bs2.map vu8)) : Cs Try.prog 9 [.slice a n cap, .slice a2 n2 cap2, (.agg ⟨d.map vu8⟩)].toArray w (fun v w1 => v = .bool true ∧ Chg w w1 []) := by
  by_cases h : 300 < n
  · exact w_Tags_a a n cap key hl hcap a2 n2 cap2 bs2 hl2 hcap2 d hd h w hv hv2
  by_cases h2 : 300 < n2
  · exact w_Tags_b a n cap key hl hcap a2 n2 cap2 bs2 hl2 hcap2 d hd h h2 w hv hv2
  · exact w_Tags_c a n cap key hl hcap a2 n2 cap2 bs2 hl2 hcap2 d hd h h2 w hv hv2
namespace macTagsDone
open Go.ChangeShapes Go.WideShapes Go.ChangeAt
theorem own : ownKnob Try.prog.godebug = none := by kernel_rfl
theorem laidOut : laidOutB Try.prog = true := by kernel_rfl
set_option maxRecDepth 100000 in
theorem lifted (os : Os) (started : os.Started) (H : Type) (enc : TypeId × Value → H) :
    ReturnsInHanded {} Try.checked os 9 .any (Rows.macTagsSpec.pre6 enc Try.prog Try.f9 Rows.macTagsRow.domain false) (Rows.macTagsSpec.post enc Try.prog Try.f9 false true false false) := by
  refine returnsInHanded_of_change (C := Try.checked) own started (by kernel_rfl) Try.func9
    (ChangeSpec.witness6 (enc := enc) (C := Try.checked) false ⟨#[], #[.slice none 0 0, .slice none 0 0, .agg #[.int .u8 0, .int .u8 0, .int .u8 0, .int .u8 0, .int .u8 0, .int .u8 0, .int .u8 0, .int .u8 0, .int .u8 0, .int .u8 0, .int .u8 0, .int .u8 0, .int .u8 0, .int .u8 0, .int .u8 0, .int .u8 0, .int .u8 0, .int .u8 0, .int .u8 0, .int .u8 0, .int .u8 0, .int .u8 0, .int .u8 0, .int .u8 0, .int .u8 0, .int .u8 0, .int .u8 0, .int .u8 0, .int .u8 0, .int .u8 0, .int .u8 0, .int .u8 0]], []⟩ 8 (by kernel_rfl) (by kernel_rfl) (by kernel_rfl) (by kernel_rfl)) ?_
  intro W base args ds gs before hval0 hW hcnd _
  have hval : ∀ (j : Nat) t v, Try.f9.params[j]? = some t → args[j]? = some v → Value.okWide Try.prog W .any base t v := hval0
  have hW' := hW
  obtain ⟨p, q, hA0, hV, rfl, hfz, hnd⟩ := hW
  have hA : DataW.TrodAll enc Try.prog W 0 (fun _ => true) true Try.f9.params.toList args.toList ds p := hA0
  rw [Try.params9] at hA hval
  obtain ⟨v0, vs0, d0, ds0, p0, q0, hargs, rfl, rfl, h0, r0⟩ := trodAll_cons hA
  obtain ⟨v1, vs1, d1, ds1, p1, q1, rfl, rfl, rfl, h1, r1⟩ := trodAll_cons r0
  obtain ⟨v2, vs2, d2, ds2, p2, q2, rfl, rfl, rfl, h2, r2⟩ := trodAll_cons r1
  obtain ⟨rfl, rfl, rfl⟩ := trodAll_nil r2
  obtain rfl : args = #[v0, v1, v2] := by cases args; simp_all
  obtain ⟨rfl, rfl⟩ := trodVars_none hV
  have lt0 : ∀ x ∈ p0, x.block < W.heap.size := by obtain ⟨m, hm⟩ := h0; exact DataW.trod_lt m _ _ _ hm
  obtain ⟨a0, n0, c0, rfl⟩ := okWide_slice Try.underlying26 (hval 0 26 v0 rfl rfl)
  obtain ⟨a0, n0, c0, x0, e0, l_x0, hc0, hm0, hv0, hn0⟩ := Tr.sl8 Try.underlying26 ce5 Try.underlying5 (Tr.of h0 rfl)
  cases e0
  have lt1 : ∀ x ∈ p1, x.block < W.heap.size := by obtain ⟨m, hm⟩ := h1; exact DataW.trod_lt m _ _ _ hm
  obtain ⟨a1, n1, c1, rfl⟩ := okWide_slice Try.underlying26 (hval 1 26 v1 rfl rfl)
  obtain ⟨a1, n1, c1, x1, e1, l_x1, hc1, hm1, hv1, hn1⟩ := Tr.sl8 Try.underlying26 ce5 Try.underlying5 (Tr.of h1 rfl)
  cases e1
  have lt2 : ∀ x ∈ p2, x.block < W.heap.size := by obtain ⟨m, hm⟩ := h2; exact DataW.trod_lt m _ _ _ hm
  obtain ⟨cs2, rfl⟩ := okWide_agg aggT28 (hval 2 28 v2 rfl rfl)
  have tr2 : Tr Try.prog W 28 cs2 := Tr.of h2 rfl
  obtain ⟨x2, rfl, l_x2⟩ := Tr.arr8 Try.underlying28 ce28 ce5 Try.underlying5 tr2
  clear hA0 hval0
  have hw : Cs Try.prog 9 [(.slice a0 n0 c0), (.slice a1 n1 c1), (.agg ⟨x2.map vu8⟩)].toArray W (fun v w1 => v = .bool true ∧ Chg W w1 []) := w_MacTags a0 n0 c0 x0 l_x0 hc0 a1 n1 c1 x1 l_x1 hc1 x2 l_x2 W hv0.1 hv1.1
  have ea : ([(.slice a0 n0 c0), (.slice a1 n1 c1), (.agg ⟨x2.map vu8⟩)] : List Value).toArray = (#[(.slice a0 n0 c0), (.slice a1 n1 c1), .agg ⟨x2.map vu8⟩] : Array Value) := by simp [flat]
  rw [ea] at hw
  refine Calls.mono (Cs.below hw) fun e W' ⟨he, bel⟩ => ?_
  subst he
  exact ⟨_, rfl, _, _, _, [], _, [], hW', trodAll_mk1 (shut_bool Try.underlying4 _), (trodAll_cons_mk (Below.trod laidOut (by kernel_rfl) (of_decide_eq_true (by kernel_rfl)) h0 bel lt0) (trodAll_cons_mk (Below.trod laidOut (by kernel_rfl) (of_decide_eq_true (by kernel_rfl)) h1 bel lt1) (trodAll_cons_mk (Below.trod laidOut (by kernel_rfl) (of_decide_eq_true (by kernel_rfl)) h2 bel lt2) trodAll_mk0))), rfl, bel.frame _, fun h => by cases h⟩
theorem over : Rows.macTagsRow.holds Try.pinned (OpenSpec.ofChange Rows.macTagsSpec) :=
  OpenClaim.holds_of_wide 9 Try.f9 rfl rfl rfl rfl rfl rfl rfl ⟨rfl, rfl, rfl, rfl, rfl⟩ rfl rfl rfl rfl rfl (by kernel_rfl) Try.func9 (by kernel_rfl)
    (of_decide_eq_true (by kernel_rfl)) (by unfold Func.isWrapper; first | (rw [if_pos (by decide +kernel)]; kernel_rfl) | (rw [if_neg (by decide +kernel)]; exact ⟨rfl, rfl⟩))
    (fun os started H enc _ => lifted os started H enc)
theorem proved : Rows.MacTagsSaid := over
end macTagsDone
end Go.Proofs.Ytelkjcigdhgcoaa
