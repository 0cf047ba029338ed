/- MeasureReplays holds of every input. Conditions: none. -/
import Derived.Test.YteclkcpdclimnaaGreatZ6MeasureReplays
set_option linter.unusedVariables false
set_option linter.unusedSimpArgs false
set_option linter.unusedSectionVars false
namespace Go.Proofs.YteclkcpdclimnaaGreat
open Go.Proofs.Tryz
open Go.Vc Go.Orc Go.Sh Go.RowKit
set_option linter.unusedVariables false
set_option linter.unusedSimpArgs false
set_option maxRecDepth 20000
theorem aggT23 : aggB Tryz.prog 23 = true := by unfold aggB; rw [underlying23]
theorem w_MR_t (id : Bool) (ms df : List UInt8) (hms : ms.length = 32) (da0 : Option Addr) (n cap0 : Nat) (hl : df.length = 32 * n) (ar : Option Addr) (nr cr : Nat) (rs : List Rc) (hrl : rs.length = nr) (hrs : ∀ r ∈ rs, okRc r) (hcr : nr ≤ cr) (ar2 : Option Addr) (nr2 cr2 : Nat) (ks : List Rc) (hkl : ks.length = nr2) (hks : ∀ r ∈ ks, okRc r) (hm : mayAllB rs = true) (w : World) (hv : View w da0 (df.map vu8)) (hvr : View w ar (rcsC rs)) (hvk : View w ar2 (rcsC ks)) :
  Cs Tryz.prog 7 [(.bool id), (.agg ⟨ms.map vu8⟩), (.slice da0 n cap0), (.slice ar nr cr), (.slice ar2 nr2 cr2)].toArray w (fun v w1 => v = (.bool true) ∧ Chg w w1 []) := by
 refine Cs.of (n := 133) (args := [(.bool id), (.agg ⟨ms.map vu8⟩), (.slice da0 n cap0), (.slice ar nr cr), (.slice ar2 nr2 cr2)]) Tryz.func7 rfl rfl rfl ?_
 have h_0 := HP.init w
 have h_01 := h_0.oldV (View.arg hv) rfl (by simp [Ent.mut])
 have h_02 := h_01.oldV (View.arg hvr) rfl (by simp [Ent.mut])
 have h_00 := h_02.oldV (View.arg hvk) rfl (by simp [Ent.mut])
 refine WP.seq (WP.reg ?_)
 refine WL.box (segs := [(32, ms.map vu8)]) h_00 rfl rfl (sC (s8 hms) sN) rfl (fun b_1 w_2 h_3 => ?_)
 refine qA (.bool false) rfl rfl ?_
 refine WL.nil (thn_n (WP.seq (WP.seq (WP.reg ?_))))
 refine qM (.slice da0 n cap0) rfl rfl (qV rfl (R.lenS (a := da0) (m := n) rfl rfl underlying24) (qV rfl (R.bin rfl rfl (bi_gtr (r := decide ((((n : Nat) : Int) : Int) > 60)) rfl)) (qM (.bool (decide ((((n : Nat) : Int) : Int) > 60))) rfl rfl ?_)))
 rcases Bool.eq_false_or_eq_true (decide ((((n : Nat) : Int) : Int) > 60)) with c_4 | c_4
 ·have p_5 := of_decide_eq_true c_4
  refine WL.skip rfl (congrArg Value.bool c_4) rfl ?_
  refine WL.skip rfl (congrArg Value.bool c_4) rfl ?_
  refine WL.skip rfl (congrArg Value.bool c_4) rfl ?_
  refine qV rfl (R.pickT (v := (.bool true)) (congrArg Value.bool c_4) rfl) (qM (.bool true) rfl rfl ?_)
  refine WL.skip rfl rfl rfl ?_
  refine WL.skip rfl rfl rfl ?_
  refine WL.skip rfl rfl rfl ?_
  refine qV rfl (R.pickT (v := (.bool true)) rfl rfl) ?_
  refine WL.nil (thn_n ?_)
  refine WP.condT rfl ?_
  refine WP.seq (WP.reg ?_)
  refine WL.call Tryz.call23 rfl rfl (c_known12g  _ ) rfl ?_
  rintro _ w_7 ⟨rfl, hc_6⟩
  have h_8 := h_3.same hc_6
  refine qA (.bool true) rfl rfl ?_
  refine WL.nil (thn_n (WP.ret (thn_r ?_)))
  refine ret_of results7 (RV.tmp (v := (.bool true)) rfl RV.nil) ?_
  exact ⟨rfl, h_8.chgS⟩
 ·have p_9 := of_decide_eq_false c_4
  refine WL.want rfl (congrArg Value.bool c_4) ?_
  refine qM (.slice ar nr cr) rfl rfl ?_
  refine WL.want rfl (congrArg Value.bool c_4) ?_
  refine qV rfl (R.lenS (a := ar) (m := nr) rfl rfl underlying75) ?_
  refine WL.want rfl (congrArg Value.bool c_4) ?_
  refine qV rfl (R.bin rfl rfl (bi_gtr (r := decide ((((nr : Nat) : Int) : Int) > 30)) rfl)) (qV rfl (R.pickF (v := (.bool (decide ((((nr : Nat) : Int) : Int) > 30)))) (congrArg Value.bool c_4) rfl) (qM (.bool (decide ((((nr : Nat) : Int) : Int) > 30))) rfl rfl ?_))
  rcases Bool.eq_false_or_eq_true (decide ((((nr : Nat) : Int) : Int) > 30)) with c_10 | c_10
  ·have p_11 := of_decide_eq_true c_10
   refine WL.skip rfl (congrArg Value.bool c_10) rfl ?_
   refine WL.skip rfl (congrArg Value.bool c_10) rfl ?_
   refine WL.skip rfl (congrArg Value.bool c_10) rfl ?_
   refine qV rfl (R.pickT (v := (.bool true)) (congrArg Value.bool c_10) rfl) ?_
   refine WL.nil (thn_n ?_)
   refine WP.condT rfl ?_
   refine WP.seq (WP.reg ?_)
   refine WL.call Tryz.call23 rfl rfl (c_known12g  _ ) rfl ?_
   rintro _ w_13 ⟨rfl, hc_12⟩
   have h_14 := h_3.same hc_12
   refine qA (.bool true) rfl rfl ?_
   refine WL.nil (thn_n (WP.ret (thn_r ?_)))
   refine ret_of results7 (RV.tmp (v := (.bool true)) rfl RV.nil) ?_
   exact ⟨rfl, h_14.chgS⟩
  ·have p_15 := of_decide_eq_false c_10
   refine WL.want rfl (congrArg Value.bool c_10) ?_
   refine qM (.slice ar2 nr2 cr2) rfl rfl ?_
   refine WL.want rfl (congrArg Value.bool c_10) ?_
   refine qV rfl (R.lenS (a := ar2) (m := nr2) rfl rfl underlying75) ?_
   refine WL.want rfl (congrArg Value.bool c_10) ?_
   refine qV rfl (R.bin rfl rfl (bi_gtr (r := decide ((((nr2 : Nat) : Int) : Int) > 30)) rfl)) (qV rfl (R.pickF (v := (.bool (decide ((((nr2 : Nat) : Int) : Int) > 30)))) (congrArg Value.bool c_10) rfl) ?_)
   refine WL.nil (thn_n ?_)
   refine WP.cond (b := decide ((((nr2 : Nat) : Int) : Int) > 30)) rfl (fun c_16 => ?_) (fun c_16 => ?_)
   ·have p_17 := of_decide_eq_true c_16
    refine WP.seq (WP.reg ?_)
    refine WL.call Tryz.call23 rfl rfl (c_known12g  _ ) rfl ?_
    rintro _ w_19 ⟨rfl, hc_18⟩
    have h_20 := h_3.same hc_18
    refine qA (.bool true) rfl rfl ?_
    refine WL.nil (thn_n (WP.ret (thn_r ?_)))
    refine ret_of results7 (RV.tmp (v := (.bool true)) rfl RV.nil) ?_
    exact ⟨rfl, h_20.chgS⟩
   ·have p_21 := of_decide_eq_false c_16
    refine WP.skip (thn_n (WP.seq (WP.reg ?_)))
    refine qM (.bool id) rfl rfl (qV rfl (R.loadA [] [(32, ms.map vu8)] [] (cs := ms.map vu8) rfl isAgg23 sizeOf23 (h_3.ok _ M0) rfl rfl rfl rfl) (qM (.slice da0 n cap0) rfl rfl ?_))
    have h_22 := h_3.up J3
    refine WL.call Tryz.call24 rfl rfl (c_both12 id ms df hms da0 n cap0 hl (by omega) _ h_22) rfl ?_
    rintro _ w_28 ⟨b_23, b_24, a_25, c_26, b_27, rfl, h_29⟩
    have h_30 := h_29.rowNil 96 67
    have h_31 := HP_logNil h_30
    refine qM (.tuple [(pO b_23 0), (pO b_27 0)].toArray) rfl rfl (qV rfl (R.extract rfl rfl) (qV rfl (R.extract rfl rfl) (qA (pO b_23 0) rfl rfl (qA (pO b_27 0) rfl rfl ?_))))
    refine WL.nil (thn_n (WP.seq (WP.reg ?_)))
    refine qM (pO b_23 0) rfl rfl (qM (.slice ar nr cr) rfl rfl ?_)
    have h_37 := (((((h_31.up J11).up J7).up J2).up J6).up J4).up J5
    refine WL.call Tryz.call38 rfl rfl (c_ReplayA id b_23 b_24 ms df hms a_25 n c_26 0 hl none 0 [] ([] : Lg) (by first | decide | omega) (by first | decide | omega) ar nr cr rs hrl hrs (by omega) (by omega) hm _ h_37) rfl ?_
    rintro _ w_41 ⟨la_38, lc_39, lx_40, rfl, h_42⟩
    refine qM (.tuple [(.agg ⟨((rpS id df n 0 ([] : Lg) rs (nr - 1)).2.2).map vu8⟩), (vi 0)].toArray) rfl rfl (qV rfl (R.extract rfl rfl) (qV rfl (R.extract rfl rfl) ?_))
    refine WL.alloc (segs := [(32, (zB 32).map vu8)]) h_42 (zv typeInfo23 rfl) rfl (sC (s8 lr) sN) rfl (fun b_43 w_44 h_45 => ?_)
    refine WL.storeA [] [(32, (zB 32).map vu8)] [(32, ((rpS id df n 0 ([] : Lg) rs (nr - 1)).2.2).map vu8)] [] h_45 rfl rfl sizeOf23 At.h (by decide) rfl rfl rfl rfl rfl rfl (sC (s8 (rpS_len hl okN _)) sN) (fun w_46 h_47 => ?_)
    refine qA (vi 0) rfl rfl ?_
    refine WL.nil (thn_n (WP.seq (WP.seq ?_)))
    obtain ⟨hl0, hall⟩ := mayAll_P hm
    have hsu : (rpS id df n 0 ([] : Lg) rs (nr - 1)).1 ≤ nr := Nat.le_trans (rpS_u _) (by show 0 + (nr - 1) + 1 ≤ nr; omega)
    have hsl : (rpS id df n 0 ([] : Lg) rs (nr - 1)).2.1.length ≤ nr := Nat.le_trans (rpS_l _) (by show 0 + (nr - 1) + 1 ≤ nr; omega)
    refine WP.reg ?_
    refine qM (.slice ar nr cr) rfl rfl ?_
    refine WL.call Tryz.call39 rfl rfl (c_MayAllA ar nr cr rs hrl hrs (by omega) _ (viewV (h_47.ok _ M6))) rfl ?_
    rintro _ w_49 ⟨rfl, hc_48⟩
    have h_50 := h_47.same hc_48
    refine qM (.slice ar nr cr) rfl rfl ?_
    refine WL.call Tryz.call40 rfl rfl (c_MayAllR ar nr cr rs hrl hrs (by omega) _ (viewV (h_50.ok _ M6))) rfl ?_
    rintro _ w_52 ⟨rfl, hc_51⟩
    have h_53 := h_50.same hc_51
    refine qV rfl (R.neB (a := true) (b := true) (c := false) (congrArg Value.bool hm) (congrArg Value.bool hm) underlying4 rfl) (qM (.bool false) rfl rfl ?_)
    refine WL.want rfl rfl ?_
    refine qM (.slice ar nr cr) rfl rfl ?_
    refine WL.want rfl rfl ?_
    refine qM (.slice ar2 nr2 cr2) rfl rfl ?_
    refine WL.want rfl rfl ?_
    refine WL.call Tryz.call41 rfl rfl (c_SameM ar nr cr rs hrl hrs (by omega) ar2 nr2 cr2 ks hkl hks (by omega) _ (viewV (h_53.ok _ M6)) (viewV (h_53.ok _ M12))) rfl ?_
    rintro _ w_55 ⟨rfl, hc_54⟩
    have h_56 := h_53.same hc_54
    refine WL.want rfl rfl ?_
    refine qM (.slice ar nr cr) rfl rfl ?_
    refine WL.want rfl rfl ?_
    refine qM (.slice ar2 nr2 cr2) rfl rfl ?_
    refine WL.want rfl rfl ?_
    refine WL.call Tryz.call42 rfl rfl (c_SameRR ar nr cr rs hrl hrs (by omega) ar2 nr2 cr2 ks hkl hks (by omega) _ (viewV (h_56.ok _ M6)) (viewV (h_56.ok _ M12))) rfl ?_
    rintro _ w_58 ⟨rfl, hc_57⟩
    have h_59 := h_56.same hc_57
    refine WL.want rfl rfl ?_
    refine qV rfl (R.neB (a := decide (rs = ks)) (b := decide (rs = ks)) (c := false) rfl rfl underlying4 (by simp)) (qV rfl (R.pickF (v := (.bool false)) rfl rfl) ?_)
    refine WL.nil (thn_n ?_)
    refine WP.condF rfl ?_
    refine WP.skip (thn_n (WP.seq (WP.seq (WP.reg ?_))))
    refine qM (.slice ar nr cr) rfl rfl ?_
    refine WL.call Tryz.call40 rfl rfl (c_MayAllR ar nr cr rs hrl hrs (by omega) _ (viewV (h_59.ok _ M6))) rfl ?_
    rintro _ w_61 ⟨rfl, hc_60⟩
    have h_62 := h_59.same hc_60
    refine qV rfl (R.not (b := true) (congrArg Value.bool hm)) ?_
    refine WL.nil (thn_n ?_)
    refine WP.condF rfl ?_
    refine WP.skip (thn_n (WP.seq (WP.seq ?_)))
    refine WP.cutG (G := Option Addr × Nat × Option Addr × Nat × List Value × List Value) [75, 76, 77, 78, 79, 80, 81, 82, 83, 84, 85, 86, 87, 88, 89, 90, 91, 92, 93, 94] (fun (aY9Y12Y0Y0, cY9Y12Y0Y0, laY9Y3Y0Y0, lcY9Y3Y0Y0, ysY9Y12Y0Y0, lxY9Y3Y0Y0) => [(75, (.agg ⟨((rpS id df n 0 ([] : Lg) rs (nr - 1)).2.2).map vu8⟩)), (76, (pO b_27 0)), (77, (.slice ar nr cr)), (78, (.agg ⟨((rpS id df n 0 ([] : Lg) rs (nr - 1)).2.2).map vu8⟩)), (79, (.bool false)), (80, (.bool false)), (81, (vi 0)), (82, (vi 0)), (83, (.bool false)), (84, (.bool false)), (85, (.bool false)), (86, (pO b_23 0)), (88, (pO b_27 0)), (89, (pO b_27 0)), (90, (pO b_27 35)), (87, (.slice aY9Y12Y0Y0 ((rpS id df n 0 ([] : Lg) rs (nr - 1)).2.1.length) cY9Y12Y0Y0)), (91, (.slice laY9Y3Y0Y0 ((rpS id df n 0 ([] : Lg) rs (nr - 1)).2.1.length) lcY9Y3Y0Y0)), (92, (.bool true)), (93, (.bool false)), (94, (.bool false))]) (fun (aY9Y12Y0Y0, cY9Y12Y0Y0, laY9Y3Y0Y0, lcY9Y3Y0Y0, ysY9Y12Y0Y0, lxY9Y3Y0Y0) w1 => HP w w1 [.row aY9Y12Y0Y0 ((rpS id df n 0 ([] : Lg) rs (nr - 1)).2.1.length) cY9Y12Y0Y0 96 67 ysY9Y12Y0Y0, .pin (sblks ysY9Y12Y0Y0) (fun w => Lgs w ysY9Y12Y0Y0 ((rpS id df n 0 ([] : Lg) rs (nr - 1)).2.1)), .blk b_23 .nw 118 [(1, [(.bool id)]), (32, ms.map vu8), (1, [(.slice a_25 n c_26)]), (1, [(vn ((rpS id df n 0 ([] : Lg) rs (nr - 1)).1))]), (1, [(.map (some b_24))]), (1, [(.slice la_38 ((rpS id df n 0 ([] : Lg) rs (nr - 1)).2.1.length) lc_39)])], .row la_38 ((rpS id df n 0 ([] : Lg) rs (nr - 1)).2.1.length) lc_39 96 67 lx_40, .obj b_24 .nw (.map (mArr ((rpS id df n 0 ([] : Lg) rs (nr - 1)).2.1)) ((rpS id df n 0 ([] : Lg) rs (nr - 1)).2.1.length)), .pin (sblks lx_40) (fun w => Lgs w lx_40 ((rpS id df n 0 ([] : Lg) rs (nr - 1)).2.1)), .view a_25 (df.map vu8), .blk b_27 .nw 47 [(1, [(.bool id)]), (32, ms.map vu8), (1, [(.slice da0 n cap0)]), (1, [(vn ((rpS id df n 0 ([] : Lg) rs (nr - 1)).1))]), (1, [(.slice laY9Y3Y0Y0 ((rpS id df n 0 ([] : Lg) rs (nr - 1)).2.1.length) lcY9Y3Y0Y0)])], .row laY9Y3Y0Y0 ((rpS id df n 0 ([] : Lg) rs (nr - 1)).2.1.length) lcY9Y3Y0Y0 96 67 lxY9Y3Y0Y0, .pin (sblks lxY9Y3Y0Y0) (fun w => Lgs w lxY9Y3Y0Y0 ((rpS id df n 0 ([] : Lg) rs (nr - 1)).2.1)), .view da0 (df.map vu8), .view ar (rcsC rs), .blk b_43 .nw 23 [(32, ((rpS id df n 0 ([] : Lg) rs (nr - 1)).2.2).map vu8)], .blk b_1 .nw 23 [(32, ms.map vu8)], .view ar2 (rcsC ks)]) ?_ ?_
    ·refine WP.drawT (SL w.heap.size [.blk b_43 .nw 23 [(32, ((rpS id df n 0 ([] : Lg) rs (nr - 1)).2.2).map vu8)], .blk b_23 .nw 118 [(1, [(.bool id)]), (32, ms.map vu8), (1, [(.slice a_25 n c_26)]), (1, [(vn ((rpS id df n 0 ([] : Lg) rs (nr - 1)).1))]), (1, [(.map (some b_24))]), (1, [(.slice la_38 ((rpS id df n 0 ([] : Lg) rs (nr - 1)).2.1.length) lc_39)])], .row la_38 ((rpS id df n 0 ([] : Lg) rs (nr - 1)).2.1.length) lc_39 96 67 lx_40, .obj b_24 .nw (.map (mArr ((rpS id df n 0 ([] : Lg) rs (nr - 1)).2.1)) ((rpS id df n 0 ([] : Lg) rs (nr - 1)).2.1.length)), .pin (sblks lx_40) (fun w => Lgs w lx_40 ((rpS id df n 0 ([] : Lg) rs (nr - 1)).2.1)), .view a_25 (df.map vu8), .view ar (rcsC rs), .blk b_1 .nw 23 [(32, ms.map vu8)], .view ar2 (rcsC ks)]) (.q 0 (.q 1 (.q 2 (.s 3 (.q 4 (.q 5 (.q 6 (.s 7 (.q 8 (.q 9 (.q 10 (.q 11 (.q 13 (.q 14 (.q 15 (.s2 12 16 (.s 16 (.s 17 (.q 18 (.q 19 .nil)))) (.s 12 (.s 17 (.q 18 (.q 19 .nil)))))))))))))))))))) (by kernel_rfl) (by kernel_rfl) rfl (by kernel_rfl) (fun w_63 hc_65 => (SL.cons ((h_62.same hc_65).ok _ M0) (SL.cons ((h_62.same hc_65).ok _ M1) (SL.cons ((h_62.same hc_65).ok _ M2) (SL.cons ((h_62.same hc_65).ok _ M3) (SL.cons ((h_62.same hc_65).ok _ M4) (SL.cons ((h_62.same hc_65).ok _ M5) (SL.cons ((h_62.same hc_65).ok _ M6) (SL.cons ((h_62.same hc_65).ok _ M11) (SL.cons ((h_62.same hc_65).ok _ M12) (SL.nil _ _))))))))))) (fun w_63 hc_65 => ?_)
     have h_64 := h_62.same hc_65
     refine qT rfl rfl (fun wq hS => R.loadA [] [(32, ((rpS id df n 0 ([] : Lg) rs (nr - 1)).2.2).map vu8)] [] (cs := ((rpS id df n 0 ([] : Lg) rs (nr - 1)).2.2).map vu8) rfl isAgg23 sizeOf23 (hS _ M0) rfl rfl rfl rfl) ?_
     refine qT rfl rfl (fun wq hS => R.move (v := (pO b_27 0)) rfl) ?_
     refine qT rfl rfl (fun wq hS => R.move (v := (.slice ar nr cr)) rfl) ?_
     refine WT.s (oN rfl ?_)
     have h_70 := ((((h_64.up J6).up J10).up J9).up J9).up J10
     refine WL.call Tryz.call43 rfl rfl (c_rReplay id b_27 ms df hms da0 n cap0 0 hl none 0 [] ([] : Lg) (by first | decide | omega) (by first | decide | omega) ar nr cr rs hrl hrs (by omega) (by omega) hm _ h_70) rfl ?_
     rintro _ w_74 ⟨la_71, lc_72, lx_73, rfl, h_75⟩
     refine WL.nil ?_
     refine ⟨(N5_6_7_8_9_10_4_11_12 h_75.ok), ?_⟩
     refine qT rfl rfl (fun wq hS => R.neA (xs := ((rpS id df n 0 ([] : Lg) rs (nr - 1)).2.2).map vu8) (ys := ((rpS id df n 0 ([] : Lg) rs (nr - 1)).2.2).map vu8) (r := false) rfl rfl eqGuardType23 kt23 (by decide) ag23 (Typ.u8s underlying23 ce23 underlying5 ce5 (rpS_len hl okN _)) (Typ.u8s underlying23 ce23 underlying5 ce5 (rpS_len hl okN _)) (neT rfl)) ?_
     refine qT rfl rfl (fun wq hS => R.move (v := (.bool false)) rfl) ?_
     refine WT.q rfl (Wn.yes rfl rfl rfl) rfl rfl (fun wq hS => R.move (v := (vi 0)) rfl) ?_
     refine WT.s ?_
     refine Op1.one rfl (Wn.yes rfl rfl rfl) ?_
     refine WL.call Tryz.call26 rfl rfl (c_num12 0 (by omega) _ ) rfl ?_
     rintro _ w_77 ⟨rfl, hc_76⟩
     have h_78 := h_75.same hc_76
     refine WL.nil ?_
     refine ⟨(N5_6_7_8_9_10_4_11_12 h_78.ok), ?_⟩
     refine WT.q rfl (Wn.yes rfl rfl rfl) rfl rfl (fun wq hS => R.bin rfl rfl (bi_neq (r := false) (by decide))) ?_
     refine qT rfl rfl (fun wq hS => R.pickF (v := (.bool false)) rfl rfl) ?_
     refine qT rfl rfl (fun wq hS => R.move (v := (.bool false)) rfl) ?_
     refine WT.q rfl (Wn.yes rfl rfl rfl) rfl rfl (fun wq hS => R.move (v := (pO b_23 0)) rfl) ?_
     refine WT.q rfl (Wn.yes rfl rfl rfl) rfl rfl (fun wq hS => R.move (v := (pO b_27 0)) rfl) ?_
     refine WT.q rfl (Wn.yes rfl rfl rfl) rfl rfl (fun wq hS => R.nilCheck rfl) ?_
     refine WT.q rfl (Wn.yes rfl rfl rfl) rfl rfl (fun wq hS => R.fieldAddr (off' := 35) rfl underlying47 rfl sizeOf44 rfl rfl) ?_
     refine WT.s2 ?_ ?_
     ·refine Op1.one rfl (Wn.yes rfl rfl rfl) ?_
      have h_83 := ((((h_78.up J10).up J10).up J10).up J10).up J10
      refine WL.call Tryz.call19 rfl rfl (c_oLog id b_23 b_24 ms df hms a_25 n c_26 ((rpS id df n 0 ([] : Lg) rs (nr - 1)).1) hl la_38 lc_39 lx_40 ((rpS id df n 0 ([] : Lg) rs (nr - 1)).2.1) (by first | decide | omega) (by first | decide | omega) _ h_83) rfl ?_
      rintro _ w_87 ⟨a_84, c_85, ys_86, rfl, h_88⟩
      refine WL.nil ?_
      refine ⟨(N12_2_3_4_5_6_11_13_14 h_88.ok), ?_⟩
      refine WT.s ?_
      refine Op1.one rfl (Wn.yes rfl rfl rfl) ?_
      refine qV rfl (R.load1 rfl isAgg44 (h_88.ok _ M7) (Sg.t rfl (Sg.t rfl (Sg.t rfl (Sg.t rfl Sg.h))))) ?_
      refine WL.nil ?_
      refine ⟨(N12_2_3_4_5_6_11_13_14 h_88.ok), ?_⟩
      refine WT.s ?_
      refine Op1.one rfl (Wn.yes rfl rfl rfl) ?_
      refine WL.call Tryz.call18 rfl rfl (c_rSameLog a_84 ((rpS id df n 0 ([] : Lg) rs (nr - 1)).2.1.length) c_85 ys_86 ((rpS id df n 0 ([] : Lg) rs (nr - 1)).2.1) rfl (by omega) la_71 lc_72 lx_73 _ (ownView (h_88.ok _ M0)) (h_88.ok _ M1).1 (ownView (h_88.ok _ M8)) (h_88.ok _ M9).1) rfl ?_
      rintro _ w_90 ⟨rfl, hc_89⟩
      have h_91 := h_88.same hc_89
      refine WL.nil ?_
      refine ⟨(N12_2_3_4_5_6_11_13_14 h_91.ok), ?_⟩
      refine WT.q rfl (Wn.yes rfl rfl rfl) rfl rfl (fun wq hS => R.not (b := true) (rfl)) ?_
      refine qT rfl rfl (fun wq hS => R.pickF (v := (.bool false)) rfl rfl) ?_
      refine WT.nil (thn_n ?_)
      exact ⟨(a_84, c_85, la_71, lc_72, ys_86, lx_73), (U4 rfl rfl rfl rfl (U4 rfl rfl rfl rfl (U4 rfl rfl rfl rfl (U4 rfl rfl rfl rfl (U4 rfl rfl rfl rfl (Ag.refl _ _)))))), ⟨rfl, rfl, rfl, rfl, rfl, rfl, rfl, rfl, rfl, rfl, rfl, rfl, rfl, rfl, rfl, rfl, rfl, (rfl), rfl, rfl, trivial⟩, h_91⟩
     ·refine Op1.one rfl (Wn.yes rfl rfl rfl) ?_
      refine qV rfl (R.load1 rfl isAgg44 (h_78.ok _ M0) (Sg.t rfl (Sg.t rfl (Sg.t rfl (Sg.t rfl Sg.h))))) ?_
      refine WL.nil ?_
      refine ⟨(N5_6_7_8_9_10_4_11_12 h_78.ok), ?_⟩
      refine WT.s ?_
      refine Op1.one rfl (Wn.yes rfl rfl rfl) ?_
      have h_96 := ((((h_78.up J10).up J10).up J10).up J10).up J10
      refine WL.call Tryz.call19 rfl rfl (c_oLog id b_23 b_24 ms df hms a_25 n c_26 ((rpS id df n 0 ([] : Lg) rs (nr - 1)).1) hl la_38 lc_39 lx_40 ((rpS id df n 0 ([] : Lg) rs (nr - 1)).2.1) (by first | decide | omega) (by first | decide | omega) _ h_96) rfl ?_
      rintro _ w_100 ⟨a_97, c_98, ys_99, rfl, h_101⟩
      refine WL.nil ?_
      refine ⟨(N12_2_3_4_5_6_11_13_14 h_101.ok), ?_⟩
      refine WT.s ?_
      refine Op1.one rfl (Wn.yes rfl rfl rfl) ?_
      refine WL.call Tryz.call18 rfl rfl (c_rSameLog a_97 ((rpS id df n 0 ([] : Lg) rs (nr - 1)).2.1.length) c_98 ys_99 ((rpS id df n 0 ([] : Lg) rs (nr - 1)).2.1) rfl (by omega) la_71 lc_72 lx_73 _ (ownView (h_101.ok _ M0)) (h_101.ok _ M1).1 (ownView (h_101.ok _ M8)) (h_101.ok _ M9).1) rfl ?_
      rintro _ w_103 ⟨rfl, hc_102⟩
      have h_104 := h_101.same hc_102
      refine WL.nil ?_
      refine ⟨(N12_2_3_4_5_6_11_13_14 h_104.ok), ?_⟩
      refine WT.q rfl (Wn.yes rfl rfl rfl) rfl rfl (fun wq hS => R.not (b := true) (rfl)) ?_
      refine qT rfl rfl (fun wq hS => R.pickF (v := (.bool false)) rfl rfl) ?_
      refine WT.nil (thn_n ?_)
      exact ⟨(a_97, c_98, la_71, lc_72, ys_99, lx_73), (U4 rfl rfl rfl rfl (U4 rfl rfl rfl rfl (U4 rfl rfl rfl rfl (U4 rfl rfl rfl rfl (U4 rfl rfl rfl rfl (Ag.refl _ _)))))), ⟨rfl, rfl, rfl, rfl, rfl, rfl, rfl, rfl, rfl, rfl, rfl, rfl, rfl, rfl, rfl, rfl, rfl, (rfl), rfl, rfl, trivial⟩, h_104⟩
    ·rintro ⟨a_108, c_109, la_110, lc_111, ys_112, lx_113⟩ J_105 w_106 h_107
     refine thn_n ?_
     refine WP.condF rfl ?_
     refine WP.skip (thn_n (WP.seq (WP.reg ?_)))
     refine qM (.slice ar nr cr) rfl rfl (qV rfl (R.lenS (a := ar) (m := nr) rfl rfl underlying75) (qV rfl (R.bin rfl rfl (bi_sub (c := ((nr - 1 : Nat) : Int)) (by omega) (by omega))) (qA (vn (nr - 1)) rfl rfl ?_)))
     refine WL.nil (thn_n (WP.seq (WP.seq (WP.reg ?_))))
     refine qM (vn (nr - 1)) rfl rfl (qV rfl (R.bin rfl rfl (bi_eql (r := decide ((((nr - 1 : Nat) : Int) : Int) = 0)) rfl)) ?_)
     refine WL.nil (thn_n ?_)
     refine WP.cond (b := decide ((((nr - 1 : Nat) : Int) : Int) = 0)) rfl (fun c_114 => ?_) (fun c_114 => ?_)
     ·have p_115 := of_decide_eq_true c_114
      refine WP.seq (WP.reg ?_)
      refine WL.call Tryz.call23 rfl rfl (c_known12g  _ ) rfl ?_
      rintro _ w_117 ⟨rfl, hc_116⟩
      have h_118 := h_107.same hc_116
      refine qA (.bool true) rfl rfl ?_
      refine WL.nil (thn_n (WP.ret (thn_r ?_)))
      refine ret_of results7 (RV.tmp (v := (.bool true)) rfl RV.nil) ?_
      exact ⟨rfl, h_118.chgS⟩
     ·have p_119 := of_decide_eq_false c_114
      refine WP.skip (thn_n (WP.seq ?_))
      have hln : nr - 1 < rs.length := by omega
      have hrn : okRc (rs.getD (nr - 1) zRc) := hrs _ (getD_mem hln)
      obtain ⟨_, _, _, hbkn, hbpn⟩ := hrn
      have hrn : okRc (rs.getD (nr - 1) zRc) := hrs _ (getD_mem hln)
      have hmn := allP_t hall (nr - 1) hln
      have hkn : ¬ (rs.getD (nr - 1) zRc).1 = 1 := fun e => absurd (hmn.2.1 e) (by omega)
      have hmt := mayAll_take (t := nr - 1) hm (by omega) (by omega)
      have hlt : (rs.take (nr - 1)).length = nr - 1 := by rw [List.length_take]; omega
      have hst : ∀ r ∈ rs.take (nr - 1), okRc r := fun r hr => hrs r (List.mem_of_mem_take hr)
      have hsu2 : (rpS id df n (rpS id df n 0 ([] : Lg) rs (nr - 1)).1 (rpS id df n 0 ([] : Lg) rs (nr - 1)).2.1 (rs.take (nr - 1)) (nr - 1 - 1)).1 ≤ 1000 := Nat.le_trans (rpS_u _) (by omega)
      have hsl2 : (rpS id df n (rpS id df n 0 ([] : Lg) rs (nr - 1)).1 (rpS id df n 0 ([] : Lg) rs (nr - 1)).2.1 (rs.take (nr - 1)) (nr - 1 - 1)).2.1.length ≤ 1000 := Nat.le_trans (rpS_l _) (by omega)
      refine WP.reg ?_
      refine qM (pO b_23 0) rfl rfl (qM (.slice ar nr cr) rfl rfl (qM (vn (nr - 1)) rfl rfl (qV rfl (R.sliceS (a := ar) (len := nr) (l := 0) (h := nr - 1) rfl EvB.dflt (EvB.it (l := nr - 1) rfl rfl) (by omega) (by omega) underlying75 sizeOf70) ?_)))
      have hv_121 := (viewV (h_107.ok _ M11)).sl 0 cr (nr - 1) 172 (by omega)
      rw [show ((rcsC rs).drop (0 * 172)).take ((nr - 1) * 172) = rcsC (rs.take (nr - 1)) from (rcsC_part hrs (by omega)).trans (congrArg rcsC (by first | rfl | (rw [List.drop_zero]; done) | (rw [List.take_of_length_le (by rw [List.length_drop]; omega)])))] at hv_121
      have h_120 := h_107.within (e' := .view (slA ar 0 cr 172) (rcsC (rs.take (nr - 1)))) M11 rfl (View.arg hv_121) rfl rfl (sub_blkS (by rw [rcsC_len hrs]; omega))
      have h_126 := ((((h_120.up J7).up J7).up J7).up J7).up J7
      refine WL.call Tryz.call38 rfl rfl (c_ReplayA id b_23 b_24 ms df hms a_25 n c_26 ((rpS id df n 0 ([] : Lg) rs (nr - 1)).1) hl la_38 lc_39 lx_40 ((rpS id df n 0 ([] : Lg) rs (nr - 1)).2.1) (by first | decide | omega) (by first | decide | omega) (slA ar 0 cr 172) (nr - 1) cr (rs.take (nr - 1)) hlt hst (by omega) (by omega) hmt _ h_126) rfl ?_
      rintro _ w_130 ⟨la_127, lc_128, lx_129, rfl, h_131⟩
      refine qM (.tuple [(.agg ⟨((rpS id df n ((rpS id df n 0 ([] : Lg) rs (nr - 1)).1) ((rpS id df n 0 ([] : Lg) rs (nr - 1)).2.1) (rs.take (nr - 1)) (nr - 1 - 1)).2.2).map vu8⟩), (vi 0)].toArray) rfl rfl (qV rfl (R.extract rfl rfl) (qV rfl (R.extract rfl rfl) ?_))
      refine WL.alloc (segs := [(32, (zB 32).map vu8)]) h_131 (zv typeInfo23 rfl) rfl (sC (s8 lr) sN) rfl (fun b_132 w_133 h_134 => ?_)
      refine WL.storeA [] [(32, (zB 32).map vu8)] [(32, ((rpS id df n ((rpS id df n 0 ([] : Lg) rs (nr - 1)).1) ((rpS id df n 0 ([] : Lg) rs (nr - 1)).2.1) (rs.take (nr - 1)) (nr - 1 - 1)).2.2).map vu8)] [] h_134 rfl rfl sizeOf23 At.h (by decide) rfl rfl rfl rfl rfl rfl (sC (s8 (rpS_len hl (rpS_32 hl okN _) _)) sN) (fun w_135 h_136 => ?_)
      refine qA (vi 0) rfl rfl ?_
      refine WL.nil (thn_n (WP.seq ?_))
      refine WP.cutG (G := Nat × Option Addr × Nat × List Value) [18, 19, 109, 110, 111, 112, 113, 114, 115, 116, 117, 118] (fun (bY15Y10Y0Y0, laY15Y6Y0Y0, lcY15Y6Y0Y0, lxY15Y6Y0Y0) => [(110, (pO b_23 0)), (111, (.agg ⟨((rpS id df n ((rpS id df n 0 ([] : Lg) rs (nr - 1)).1) ((rpS id df n 0 ([] : Lg) rs (nr - 1)).2.1) (rs.take (nr - 1)) (nr - 1 - 1)).2.2).map vu8⟩)), (112, (.slice ar nr cr)), (113, (vn (nr - 1))), (114, (.pointer (some (gA ar ((nr - 1) * 172))))), (115, (.agg ⟨flat [(1, [(vi ((rs.getD (nr - 1) zRc).1))]), (32, ((rs.getD (nr - 1) zRc).2.1).map vu8), (1, [(vi ((rs.getD (nr - 1) zRc).2.2.1))]), (128, ((rs.getD (nr - 1) zRc).2.2.2.1).map vu8), (1, [(vu64 ((rs.getD (nr - 1) zRc).2.2.2.2.1))]), (8, ((rs.getD (nr - 1) zRc).2.2.2.2.2.1).map vu64), (1, [(.bool ((rs.getD (nr - 1) zRc).2.2.2.2.2.2))])]⟩)), (116, (.tuple [(.agg ⟨(anD id df n ((rpS id df n ((rpS id df n 0 ([] : Lg) rs (nr - 1)).1) ((rpS id df n 0 ([] : Lg) rs (nr - 1)).2.1) (rs.take (nr - 1)) (nr - 1 - 1)).1) ((rpS id df n ((rpS id df n 0 ([] : Lg) rs (nr - 1)).1) ((rpS id df n 0 ([] : Lg) rs (nr - 1)).2.1) (rs.take (nr - 1)) (nr - 1 - 1)).2.1) (qN ((rpS id df n ((rpS id df n 0 ([] : Lg) rs (nr - 1)).1) ((rpS id df n 0 ([] : Lg) rs (nr - 1)).2.1) (rs.take (nr - 1)) (nr - 1 - 1)).2.2) ((rs.getD (nr - 1) zRc).1) ((rs.getD (nr - 1) zRc).2.2.1) ((rs.getD (nr - 1) zRc).2.2.2.1) ((rs.getD (nr - 1) zRc).2.2.2.2.1) ((rs.getD (nr - 1) zRc).2.2.2.2.2.1) ((rs.getD (nr - 1) zRc).2.2.2.2.2.2))).map vu8⟩), (vi 0)].toArray)), (109, (.tuple [(.agg ⟨(anD id df n ((rpS id df n ((rpS id df n 0 ([] : Lg) rs (nr - 1)).1) ((rpS id df n 0 ([] : Lg) rs (nr - 1)).2.1) (rs.take (nr - 1)) (nr - 1 - 1)).1) ((rpS id df n ((rpS id df n 0 ([] : Lg) rs (nr - 1)).1) ((rpS id df n 0 ([] : Lg) rs (nr - 1)).2.1) (rs.take (nr - 1)) (nr - 1 - 1)).2.1) (qN ((rpS id df n ((rpS id df n 0 ([] : Lg) rs (nr - 1)).1) ((rpS id df n 0 ([] : Lg) rs (nr - 1)).2.1) (rs.take (nr - 1)) (nr - 1 - 1)).2.2) ((rs.getD (nr - 1) zRc).1) ((rs.getD (nr - 1) zRc).2.2.1) ((rs.getD (nr - 1) zRc).2.2.2.1) ((rs.getD (nr - 1) zRc).2.2.2.2.1) ((rs.getD (nr - 1) zRc).2.2.2.2.2.1) ((rs.getD (nr - 1) zRc).2.2.2.2.2.2))).map vu8⟩), (vi 0)].toArray)), (117, (.agg ⟨(anD id df n ((rpS id df n ((rpS id df n 0 ([] : Lg) rs (nr - 1)).1) ((rpS id df n 0 ([] : Lg) rs (nr - 1)).2.1) (rs.take (nr - 1)) (nr - 1 - 1)).1) ((rpS id df n ((rpS id df n 0 ([] : Lg) rs (nr - 1)).1) ((rpS id df n 0 ([] : Lg) rs (nr - 1)).2.1) (rs.take (nr - 1)) (nr - 1 - 1)).2.1) (qN ((rpS id df n ((rpS id df n 0 ([] : Lg) rs (nr - 1)).1) ((rpS id df n 0 ([] : Lg) rs (nr - 1)).2.1) (rs.take (nr - 1)) (nr - 1 - 1)).2.2) ((rs.getD (nr - 1) zRc).1) ((rs.getD (nr - 1) zRc).2.2.1) ((rs.getD (nr - 1) zRc).2.2.2.1) ((rs.getD (nr - 1) zRc).2.2.2.2.1) ((rs.getD (nr - 1) zRc).2.2.2.2.2.1) ((rs.getD (nr - 1) zRc).2.2.2.2.2.2))).map vu8⟩)), (118, (vi 0)), (18, (pO bY15Y10Y0Y0 0)), (19, (vi 0))]) (fun (bY15Y10Y0Y0, laY15Y6Y0Y0, lcY15Y6Y0Y0, lxY15Y6Y0Y0) w1 => HP w w1 [.blk bY15Y10Y0Y0 .nw 23 [(32, (anD id df n ((rpS id df n ((rpS id df n 0 ([] : Lg) rs (nr - 1)).1) ((rpS id df n 0 ([] : Lg) rs (nr - 1)).2.1) (rs.take (nr - 1)) (nr - 1 - 1)).1) ((rpS id df n ((rpS id df n 0 ([] : Lg) rs (nr - 1)).1) ((rpS id df n 0 ([] : Lg) rs (nr - 1)).2.1) (rs.take (nr - 1)) (nr - 1 - 1)).2.1) (qN ((rpS id df n ((rpS id df n 0 ([] : Lg) rs (nr - 1)).1) ((rpS id df n 0 ([] : Lg) rs (nr - 1)).2.1) (rs.take (nr - 1)) (nr - 1 - 1)).2.2) ((rs.getD (nr - 1) zRc).1) ((rs.getD (nr - 1) zRc).2.2.1) ((rs.getD (nr - 1) zRc).2.2.2.1) ((rs.getD (nr - 1) zRc).2.2.2.2.1) ((rs.getD (nr - 1) zRc).2.2.2.2.2.1) ((rs.getD (nr - 1) zRc).2.2.2.2.2.2))).map vu8)], .blk b_23 .nw 118 [(1, [(.bool id)]), (32, ms.map vu8), (1, [(.slice a_25 n c_26)]), (1, [(vn (anU id ((rpS id df n ((rpS id df n 0 ([] : Lg) rs (nr - 1)).1) ((rpS id df n 0 ([] : Lg) rs (nr - 1)).2.1) (rs.take (nr - 1)) (nr - 1 - 1)).1) ((rpS id df n ((rpS id df n 0 ([] : Lg) rs (nr - 1)).1) ((rpS id df n 0 ([] : Lg) rs (nr - 1)).2.1) (rs.take (nr - 1)) (nr - 1 - 1)).2.1) (qN ((rpS id df n ((rpS id df n 0 ([] : Lg) rs (nr - 1)).1) ((rpS id df n 0 ([] : Lg) rs (nr - 1)).2.1) (rs.take (nr - 1)) (nr - 1 - 1)).2.2) ((rs.getD (nr - 1) zRc).1) ((rs.getD (nr - 1) zRc).2.2.1) ((rs.getD (nr - 1) zRc).2.2.2.1) ((rs.getD (nr - 1) zRc).2.2.2.2.1) ((rs.getD (nr - 1) zRc).2.2.2.2.2.1) ((rs.getD (nr - 1) zRc).2.2.2.2.2.2))))]), (1, [(.map (some b_24))]), (1, [(.slice laY15Y6Y0Y0 ((anL id df n ((rpS id df n ((rpS id df n 0 ([] : Lg) rs (nr - 1)).1) ((rpS id df n 0 ([] : Lg) rs (nr - 1)).2.1) (rs.take (nr - 1)) (nr - 1 - 1)).1) ((rpS id df n ((rpS id df n 0 ([] : Lg) rs (nr - 1)).1) ((rpS id df n 0 ([] : Lg) rs (nr - 1)).2.1) (rs.take (nr - 1)) (nr - 1 - 1)).2.1) (qN ((rpS id df n ((rpS id df n 0 ([] : Lg) rs (nr - 1)).1) ((rpS id df n 0 ([] : Lg) rs (nr - 1)).2.1) (rs.take (nr - 1)) (nr - 1 - 1)).2.2) ((rs.getD (nr - 1) zRc).1) ((rs.getD (nr - 1) zRc).2.2.1) ((rs.getD (nr - 1) zRc).2.2.2.1) ((rs.getD (nr - 1) zRc).2.2.2.2.1) ((rs.getD (nr - 1) zRc).2.2.2.2.2.1) ((rs.getD (nr - 1) zRc).2.2.2.2.2.2))).length) lcY15Y6Y0Y0)])], .row laY15Y6Y0Y0 ((anL id df n ((rpS id df n ((rpS id df n 0 ([] : Lg) rs (nr - 1)).1) ((rpS id df n 0 ([] : Lg) rs (nr - 1)).2.1) (rs.take (nr - 1)) (nr - 1 - 1)).1) ((rpS id df n ((rpS id df n 0 ([] : Lg) rs (nr - 1)).1) ((rpS id df n 0 ([] : Lg) rs (nr - 1)).2.1) (rs.take (nr - 1)) (nr - 1 - 1)).2.1) (qN ((rpS id df n ((rpS id df n 0 ([] : Lg) rs (nr - 1)).1) ((rpS id df n 0 ([] : Lg) rs (nr - 1)).2.1) (rs.take (nr - 1)) (nr - 1 - 1)).2.2) ((rs.getD (nr - 1) zRc).1) ((rs.getD (nr - 1) zRc).2.2.1) ((rs.getD (nr - 1) zRc).2.2.2.1) ((rs.getD (nr - 1) zRc).2.2.2.2.1) ((rs.getD (nr - 1) zRc).2.2.2.2.2.1) ((rs.getD (nr - 1) zRc).2.2.2.2.2.2))).length) lcY15Y6Y0Y0 96 67 lxY15Y6Y0Y0, .obj b_24 .nw (.map (mArr (anL id df n ((rpS id df n ((rpS id df n 0 ([] : Lg) rs (nr - 1)).1) ((rpS id df n 0 ([] : Lg) rs (nr - 1)).2.1) (rs.take (nr - 1)) (nr - 1 - 1)).1) ((rpS id df n ((rpS id df n 0 ([] : Lg) rs (nr - 1)).1) ((rpS id df n 0 ([] : Lg) rs (nr - 1)).2.1) (rs.take (nr - 1)) (nr - 1 - 1)).2.1) (qN ((rpS id df n ((rpS id df n 0 ([] : Lg) rs (nr - 1)).1) ((rpS id df n 0 ([] : Lg) rs (nr - 1)).2.1) (rs.take (nr - 1)) (nr - 1 - 1)).2.2) ((rs.getD (nr - 1) zRc).1) ((rs.getD (nr - 1) zRc).2.2.1) ((rs.getD (nr - 1) zRc).2.2.2.1) ((rs.getD (nr - 1) zRc).2.2.2.2.1) ((rs.getD (nr - 1) zRc).2.2.2.2.2.1) ((rs.getD (nr - 1) zRc).2.2.2.2.2.2)))) ((anL id df n ((rpS id df n ((rpS id df n 0 ([] : Lg) rs (nr - 1)).1) ((rpS id df n 0 ([] : Lg) rs (nr - 1)).2.1) (rs.take (nr - 1)) (nr - 1 - 1)).1) ((rpS id df n ((rpS id df n 0 ([] : Lg) rs (nr - 1)).1) ((rpS id df n 0 ([] : Lg) rs (nr - 1)).2.1) (rs.take (nr - 1)) (nr - 1 - 1)).2.1) (qN ((rpS id df n ((rpS id df n 0 ([] : Lg) rs (nr - 1)).1) ((rpS id df n 0 ([] : Lg) rs (nr - 1)).2.1) (rs.take (nr - 1)) (nr - 1 - 1)).2.2) ((rs.getD (nr - 1) zRc).1) ((rs.getD (nr - 1) zRc).2.2.1) ((rs.getD (nr - 1) zRc).2.2.2.1) ((rs.getD (nr - 1) zRc).2.2.2.2.1) ((rs.getD (nr - 1) zRc).2.2.2.2.2.1) ((rs.getD (nr - 1) zRc).2.2.2.2.2.2))).length)), .pin (sblks lxY15Y6Y0Y0) (fun w => Lgs w lxY15Y6Y0Y0 (anL id df n ((rpS id df n ((rpS id df n 0 ([] : Lg) rs (nr - 1)).1) ((rpS id df n 0 ([] : Lg) rs (nr - 1)).2.1) (rs.take (nr - 1)) (nr - 1 - 1)).1) ((rpS id df n ((rpS id df n 0 ([] : Lg) rs (nr - 1)).1) ((rpS id df n 0 ([] : Lg) rs (nr - 1)).2.1) (rs.take (nr - 1)) (nr - 1 - 1)).2.1) (qN ((rpS id df n ((rpS id df n 0 ([] : Lg) rs (nr - 1)).1) ((rpS id df n 0 ([] : Lg) rs (nr - 1)).2.1) (rs.take (nr - 1)) (nr - 1 - 1)).2.2) ((rs.getD (nr - 1) zRc).1) ((rs.getD (nr - 1) zRc).2.2.1) ((rs.getD (nr - 1) zRc).2.2.2.1) ((rs.getD (nr - 1) zRc).2.2.2.2.1) ((rs.getD (nr - 1) zRc).2.2.2.2.2.1) ((rs.getD (nr - 1) zRc).2.2.2.2.2.2)))), .view a_25 (df.map vu8), .blk b_132 .nw 23 [(32, ((rpS id df n ((rpS id df n 0 ([] : Lg) rs (nr - 1)).1) ((rpS id df n 0 ([] : Lg) rs (nr - 1)).2.1) (rs.take (nr - 1)) (nr - 1 - 1)).2.2).map vu8)], .view (slA ar 0 cr 172) (rcsC (rs.take (nr - 1))), .row a_108 ((rpS id df n 0 ([] : Lg) rs (nr - 1)).2.1.length) c_109 96 67 ys_112, .pin (sblks ys_112) (fun w => Lgs w ys_112 ((rpS id df n 0 ([] : Lg) rs (nr - 1)).2.1)), .blk b_27 .nw 47 [(1, [(.bool id)]), (32, ms.map vu8), (1, [(.slice da0 n cap0)]), (1, [(vn ((rpS id df n 0 ([] : Lg) rs (nr - 1)).1))]), (1, [(.slice la_110 ((rpS id df n 0 ([] : Lg) rs (nr - 1)).2.1.length) lc_111)])], .row la_110 ((rpS id df n 0 ([] : Lg) rs (nr - 1)).2.1.length) lc_111 96 67 lx_113, .pin (sblks lx_113) (fun w => Lgs w lx_113 ((rpS id df n 0 ([] : Lg) rs (nr - 1)).2.1)), .view da0 (df.map vu8), .view ar (rcsC rs), .blk b_43 .nw 23 [(32, ((rpS id df n 0 ([] : Lg) rs (nr - 1)).2.2).map vu8)], .blk b_1 .nw 23 [(32, ms.map vu8)], .view ar2 (rcsC ks)]) ?_ ?_
      ·refine WP.drawT (SL w.heap.size [.blk b_132 .nw 23 [(32, ((rpS id df n ((rpS id df n 0 ([] : Lg) rs (nr - 1)).1) ((rpS id df n 0 ([] : Lg) rs (nr - 1)).2.1) (rs.take (nr - 1)) (nr - 1 - 1)).2.2).map vu8)], .view (slA ar 0 cr 172) (rcsC (rs.take (nr - 1))), .row a_108 ((rpS id df n 0 ([] : Lg) rs (nr - 1)).2.1.length) c_109 96 67 ys_112, .pin (sblks ys_112) (fun w => Lgs w ys_112 ((rpS id df n 0 ([] : Lg) rs (nr - 1)).2.1)), .blk b_27 .nw 47 [(1, [(.bool id)]), (32, ms.map vu8), (1, [(.slice da0 n cap0)]), (1, [(vn ((rpS id df n 0 ([] : Lg) rs (nr - 1)).1))]), (1, [(.slice la_110 ((rpS id df n 0 ([] : Lg) rs (nr - 1)).2.1.length) lc_111)])], .row la_110 ((rpS id df n 0 ([] : Lg) rs (nr - 1)).2.1.length) lc_111 96 67 lx_113, .pin (sblks lx_113) (fun w => Lgs w lx_113 ((rpS id df n 0 ([] : Lg) rs (nr - 1)).2.1)), .view da0 (df.map vu8), .view ar (rcsC rs), .blk b_43 .nw 23 [(32, ((rpS id df n 0 ([] : Lg) rs (nr - 1)).2.2).map vu8)], .blk b_1 .nw 23 [(32, ms.map vu8)], .view ar2 (rcsC ks)]) (.q 0 (.q 1 (.q 2 (.q 3 (.q 4 (.q 5 (.s2 6 10 (.q 7 (.q 8 (.q 9 (.s 10 (.s 11 (.q 12 .nil)))))) (.s 6 (.q 7 (.q 8 (.q 9 (.s 11 (.q 12 .nil))))))))))))) (by kernel_rfl) (by kernel_rfl) rfl (by kernel_rfl) (fun w_137 hc_139 => (SL.cons ((h_136.same hc_139).ok _ M0) (SL.cons ((h_136.same hc_139).ok _ M6) (SL.cons ((h_136.same hc_139).ok _ M7) (SL.cons ((h_136.same hc_139).ok _ M8) (SL.cons ((h_136.same hc_139).ok _ M9) (SL.cons ((h_136.same hc_139).ok _ M10) (SL.cons ((h_136.same hc_139).ok _ M11) (SL.cons ((h_136.same hc_139).ok _ M12) (SL.cons ((h_136.same hc_139).ok _ M13) (SL.cons ((h_136.same hc_139).ok _ M14) (SL.cons ((h_136.same hc_139).ok _ M15) (SL.cons ((h_136.same hc_139).ok _ M16) (SL.nil _ _)))))))))))))) (fun w_137 hc_139 => ?_)
       have h_138 := h_136.same hc_139
       refine qT rfl rfl (fun wq hS => R.move (v := (pO b_23 0)) rfl) ?_
       refine qT rfl rfl (fun wq hS => R.loadA [] [(32, ((rpS id df n ((rpS id df n 0 ([] : Lg) rs (nr - 1)).1) ((rpS id df n 0 ([] : Lg) rs (nr - 1)).2.1) (rs.take (nr - 1)) (nr - 1 - 1)).2.2).map vu8)] [] (cs := ((rpS id df n ((rpS id df n 0 ([] : Lg) rs (nr - 1)).1) ((rpS id df n 0 ([] : Lg) rs (nr - 1)).2.1) (rs.take (nr - 1)) (nr - 1 - 1)).2.2).map vu8) rfl isAgg23 sizeOf23 (hS _ M0) rfl rfl rfl rfl) ?_
       refine qT rfl rfl (fun wq hS => R.move (v := (.slice ar nr cr)) rfl) ?_
       refine qT rfl rfl (fun wq hS => R.move (v := (vn (nr - 1))) rfl) ?_
       refine qT rfl rfl (fun wq hS => R.indexS (a := ar) (i := nr - 1) (off := (nr - 1) * 172) (xs := rcsC rs) rfl rfl rfl (by omega) (viewV (hS _ M8)) (by rw [rcsC_len hrs]; omega) underlying75 sizeOf70 rfl) ?_
       refine qT rfl rfl (fun wq hS => R.loadGA (a := ar) (i := (nr - 1) * 172) (xs := rcsC rs) (cs := flat [(1, [(vi ((rs.getD (nr - 1) zRc).1))]), (32, ((rs.getD (nr - 1) zRc).2.1).map vu8), (1, [(vi ((rs.getD (nr - 1) zRc).2.2.1))]), (128, ((rs.getD (nr - 1) zRc).2.2.2.1).map vu8), (1, [(vu64 ((rs.getD (nr - 1) zRc).2.2.2.2.1))]), (8, ((rs.getD (nr - 1) zRc).2.2.2.2.2.1).map vu64), (1, [(.bool ((rs.getD (nr - 1) zRc).2.2.2.2.2.2))])]) rfl (viewV (hS _ M8)) isAgg70 sizeOf70 (rcsC_at hrs hln) (rcC_len hrn) (by decide)) ?_
       refine WT.s2 ?_ ?_
       ·refine oN rfl ?_
        have h_144 := ((((h_138.up J5).up J5).up J5).up J5).up J5
        refine WL.call Tryz.call34 rfl rfl (c_NextA id b_23 b_24 ms df hms a_25 n c_26 ((rpS id df n ((rpS id df n 0 ([] : Lg) rs (nr - 1)).1) ((rpS id df n 0 ([] : Lg) rs (nr - 1)).2.1) (rs.take (nr - 1)) (nr - 1 - 1)).1) hl la_127 lc_128 lx_129 ((rpS id df n ((rpS id df n 0 ([] : Lg) rs (nr - 1)).1) ((rpS id df n 0 ([] : Lg) rs (nr - 1)).2.1) (rs.take (nr - 1)) (nr - 1 - 1)).2.1) (by first | decide | omega) (by first | decide | omega) ((rpS id df n ((rpS id df n 0 ([] : Lg) rs (nr - 1)).1) ((rpS id df n 0 ([] : Lg) rs (nr - 1)).2.1) (rs.take (nr - 1)) (nr - 1 - 1)).2.2) (rpS_len hl (rpS_32 hl okN _) _) ((rs.getD (nr - 1) zRc).1) hbkn ((rs.getD (nr - 1) zRc).2.1) hrn.1 ((rs.getD (nr - 1) zRc).2.2.1) hbpn ((rs.getD (nr - 1) zRc).2.2.2.1) hrn.2.1 ((rs.getD (nr - 1) zRc).2.2.2.2.1) ((rs.getD (nr - 1) zRc).2.2.2.2.2.1) hrn.2.2.1 ((rs.getD (nr - 1) zRc).2.2.2.2.2.2) hmn.1 hkn _ h_144) rfl ?_
        rintro _ w_148 ⟨la_145, lc_146, lx_147, rfl, h_149⟩
        refine WL.nil ?_
        refine ⟨(SL.cons (h_149.ok _ M5) (SL.cons (h_149.ok _ M6) (SL.cons (h_149.ok _ M7) (SL.cons (h_149.ok _ M8) (SL.cons (h_149.ok _ M9) (SL.cons (h_149.ok _ M10) (SL.cons (h_149.ok _ M11) (SL.cons (h_149.ok _ M12) (SL.cons (h_149.ok _ M13) (SL.cons (h_149.ok _ M14) (SL.cons (h_149.ok _ M15) (SL.cons (h_149.ok _ M16) (SL.nil _ _))))))))))))), ?_⟩
        refine qT rfl rfl (fun wq hS => R.move (v := (.tuple [(.agg ⟨(anD id df n ((rpS id df n ((rpS id df n 0 ([] : Lg) rs (nr - 1)).1) ((rpS id df n 0 ([] : Lg) rs (nr - 1)).2.1) (rs.take (nr - 1)) (nr - 1 - 1)).1) ((rpS id df n ((rpS id df n 0 ([] : Lg) rs (nr - 1)).1) ((rpS id df n 0 ([] : Lg) rs (nr - 1)).2.1) (rs.take (nr - 1)) (nr - 1 - 1)).2.1) (qN ((rpS id df n ((rpS id df n 0 ([] : Lg) rs (nr - 1)).1) ((rpS id df n 0 ([] : Lg) rs (nr - 1)).2.1) (rs.take (nr - 1)) (nr - 1 - 1)).2.2) ((rs.getD (nr - 1) zRc).1) ((rs.getD (nr - 1) zRc).2.2.1) ((rs.getD (nr - 1) zRc).2.2.2.1) ((rs.getD (nr - 1) zRc).2.2.2.2.1) ((rs.getD (nr - 1) zRc).2.2.2.2.2.1) ((rs.getD (nr - 1) zRc).2.2.2.2.2.2))).map vu8⟩), (vi 0)].toArray)) rfl) ?_
        refine qT rfl rfl (fun wq hS => R.extract rfl rfl) ?_
        refine qT rfl rfl (fun wq hS => R.extract rfl rfl) ?_
        refine WT.s (oN rfl ?_)
        refine WL.alloc (segs := [(32, (zB 32).map vu8)]) h_149 (zv typeInfo23 rfl) rfl (sC (s8 lr) sN) rfl (fun b_150 w_151 h_152 => ?_)
        refine WL.nil ?_
        refine ⟨(N6_7_8_9_10_11_12_13_14_15_16_17 h_152.ok), ?_⟩
        refine WT.s (oN rfl ?_)
        refine WL.storeA [] [(32, (zB 32).map vu8)] [(32, (anD id df n ((rpS id df n ((rpS id df n 0 ([] : Lg) rs (nr - 1)).1) ((rpS id df n 0 ([] : Lg) rs (nr - 1)).2.1) (rs.take (nr - 1)) (nr - 1 - 1)).1) ((rpS id df n ((rpS id df n 0 ([] : Lg) rs (nr - 1)).1) ((rpS id df n 0 ([] : Lg) rs (nr - 1)).2.1) (rs.take (nr - 1)) (nr - 1 - 1)).2.1) (qN ((rpS id df n ((rpS id df n 0 ([] : Lg) rs (nr - 1)).1) ((rpS id df n 0 ([] : Lg) rs (nr - 1)).2.1) (rs.take (nr - 1)) (nr - 1 - 1)).2.2) ((rs.getD (nr - 1) zRc).1) ((rs.getD (nr - 1) zRc).2.2.1) ((rs.getD (nr - 1) zRc).2.2.2.1) ((rs.getD (nr - 1) zRc).2.2.2.2.1) ((rs.getD (nr - 1) zRc).2.2.2.2.2.1) ((rs.getD (nr - 1) zRc).2.2.2.2.2.2))).map vu8)] [] h_152 rfl rfl sizeOf23 At.h (by decide) rfl rfl rfl rfl rfl rfl (sC (s8 (anD_len hl (rpS_32 hl (rpS_32 hl okN _) _))) sN) (fun w_153 h_154 => ?_)
        refine WL.nil ?_
        refine ⟨(N6_7_8_9_10_11_12_13_14_15_16_17 h_154.ok), ?_⟩
        refine qT rfl rfl (fun wq hS => R.assign (v := (vi 0)) rfl) ?_
        refine WT.nil (thn_n ?_)
        exact ⟨(b_150, la_145, lc_146, lx_147), (U4 rfl rfl rfl rfl (U4 rfl rfl rfl rfl (U4 rfl rfl rfl rfl (Ag.refl _ _)))), ⟨rfl, rfl, rfl, rfl, rfl, rfl, rfl, rfl, rfl, rfl, rfl, rfl, trivial⟩, h_154⟩
       ·refine oN rfl ?_
        refine WL.alloc (segs := [(32, (zB 32).map vu8)]) h_138 (zv typeInfo23 rfl) rfl (sC (s8 lr) sN) rfl (fun b_155 w_156 h_157 => ?_)
        refine WL.nil ?_
        refine ⟨(SL.cons (h_157.ok _ M1) (SL.cons (h_157.ok _ M7) (SL.cons (h_157.ok _ M8) (SL.cons (h_157.ok _ M9) (SL.cons (h_157.ok _ M10) (SL.cons (h_157.ok _ M11) (SL.cons (h_157.ok _ M12) (SL.cons (h_157.ok _ M13) (SL.cons (h_157.ok _ M14) (SL.cons (h_157.ok _ M15) (SL.cons (h_157.ok _ M16) (SL.cons (h_157.ok _ M17) (SL.nil _ _))))))))))))), ?_⟩
        refine WT.s (oN rfl ?_)
        have h_162 := ((((h_157.up J6).up J6).up J6).up J6).up J6
        refine WL.call Tryz.call34 rfl rfl (c_NextA id b_23 b_24 ms df hms a_25 n c_26 ((rpS id df n ((rpS id df n 0 ([] : Lg) rs (nr - 1)).1) ((rpS id df n 0 ([] : Lg) rs (nr - 1)).2.1) (rs.take (nr - 1)) (nr - 1 - 1)).1) hl la_127 lc_128 lx_129 ((rpS id df n ((rpS id df n 0 ([] : Lg) rs (nr - 1)).1) ((rpS id df n 0 ([] : Lg) rs (nr - 1)).2.1) (rs.take (nr - 1)) (nr - 1 - 1)).2.1) (by first | decide | omega) (by first | decide | omega) ((rpS id df n ((rpS id df n 0 ([] : Lg) rs (nr - 1)).1) ((rpS id df n 0 ([] : Lg) rs (nr - 1)).2.1) (rs.take (nr - 1)) (nr - 1 - 1)).2.2) (rpS_len hl (rpS_32 hl okN _) _) ((rs.getD (nr - 1) zRc).1) hbkn ((rs.getD (nr - 1) zRc).2.1) hrn.1 ((rs.getD (nr - 1) zRc).2.2.1) hbpn ((rs.getD (nr - 1) zRc).2.2.2.1) hrn.2.1 ((rs.getD (nr - 1) zRc).2.2.2.2.1) ((rs.getD (nr - 1) zRc).2.2.2.2.2.1) hrn.2.2.1 ((rs.getD (nr - 1) zRc).2.2.2.2.2.2) hmn.1 hkn _ h_162) rfl ?_
        rintro _ w_166 ⟨la_163, lc_164, lx_165, rfl, h_167⟩
        refine WL.nil ?_
        refine ⟨(N6_7_8_9_10_11_12_13_14_15_16_17 h_167.ok), ?_⟩
        refine qT rfl rfl (fun wq hS => R.move (v := (.tuple [(.agg ⟨(anD id df n ((rpS id df n ((rpS id df n 0 ([] : Lg) rs (nr - 1)).1) ((rpS id df n 0 ([] : Lg) rs (nr - 1)).2.1) (rs.take (nr - 1)) (nr - 1 - 1)).1) ((rpS id df n ((rpS id df n 0 ([] : Lg) rs (nr - 1)).1) ((rpS id df n 0 ([] : Lg) rs (nr - 1)).2.1) (rs.take (nr - 1)) (nr - 1 - 1)).2.1) (qN ((rpS id df n ((rpS id df n 0 ([] : Lg) rs (nr - 1)).1) ((rpS id df n 0 ([] : Lg) rs (nr - 1)).2.1) (rs.take (nr - 1)) (nr - 1 - 1)).2.2) ((rs.getD (nr - 1) zRc).1) ((rs.getD (nr - 1) zRc).2.2.1) ((rs.getD (nr - 1) zRc).2.2.2.1) ((rs.getD (nr - 1) zRc).2.2.2.2.1) ((rs.getD (nr - 1) zRc).2.2.2.2.2.1) ((rs.getD (nr - 1) zRc).2.2.2.2.2.2))).map vu8⟩), (vi 0)].toArray)) rfl) ?_
        refine qT rfl rfl (fun wq hS => R.extract rfl rfl) ?_
        refine qT rfl rfl (fun wq hS => R.extract rfl rfl) ?_
        refine WT.s (oN rfl ?_)
        refine WL.storeA [] [(32, (zB 32).map vu8)] [(32, (anD id df n ((rpS id df n ((rpS id df n 0 ([] : Lg) rs (nr - 1)).1) ((rpS id df n 0 ([] : Lg) rs (nr - 1)).2.1) (rs.take (nr - 1)) (nr - 1 - 1)).1) ((rpS id df n ((rpS id df n 0 ([] : Lg) rs (nr - 1)).1) ((rpS id df n 0 ([] : Lg) rs (nr - 1)).2.1) (rs.take (nr - 1)) (nr - 1 - 1)).2.1) (qN ((rpS id df n ((rpS id df n 0 ([] : Lg) rs (nr - 1)).1) ((rpS id df n 0 ([] : Lg) rs (nr - 1)).2.1) (rs.take (nr - 1)) (nr - 1 - 1)).2.2) ((rs.getD (nr - 1) zRc).1) ((rs.getD (nr - 1) zRc).2.2.1) ((rs.getD (nr - 1) zRc).2.2.2.1) ((rs.getD (nr - 1) zRc).2.2.2.2.1) ((rs.getD (nr - 1) zRc).2.2.2.2.2.1) ((rs.getD (nr - 1) zRc).2.2.2.2.2.2))).map vu8)] [] h_167 rfl rfl sizeOf23 Y5 (by decide) rfl rfl rfl rfl rfl rfl (sC (s8 (anD_len hl (rpS_32 hl (rpS_32 hl okN _) _))) sN) (fun w_168 h_169 => ?_)
        refine WL.nil ?_
        refine ⟨(N6_7_8_9_10_11_12_13_14_15_16_17 h_169.ok), ?_⟩
        refine qT rfl rfl (fun wq hS => R.assign (v := (vi 0)) rfl) ?_
        refine WT.nil (thn_n ?_)
        have h_187 := (((((((((((((((((h_169.up J17).up J17).up J17).up J17).up J17).up J17).up J17).up J17).up J17).up J17).up J17).up J17).up J16).up J16).up J16).up J16).up J16).up J17
        exact ⟨(b_155, la_163, lc_164, lx_165), (U4 rfl rfl rfl rfl (U4 rfl rfl rfl rfl (U4 rfl rfl rfl rfl (Ag.refl _ _)))), ⟨rfl, rfl, rfl, rfl, rfl, rfl, rfl, rfl, rfl, rfl, rfl, rfl, trivial⟩, h_187⟩
      ·rintro ⟨b_191, la_192, lc_193, lx_194⟩ J_188 w_189 h_190
       refine thn_n (WP.seq (WP.reg ?_))
       refine qM (vi 0) rfl rfl ?_
       refine WL.call Tryz.call26 rfl rfl (c_num12 0 (by omega) _ ) rfl ?_
       rintro _ w_196 ⟨rfl, hc_195⟩
       have h_197 := h_190.same hc_195
       refine qM (vi 0) rfl rfl ?_
       refine WL.call Tryz.call26 rfl rfl (c_num12 0 (by omega) _ ) rfl ?_
       rintro _ w_199 ⟨rfl, hc_198⟩
       have h_200 := h_197.same hc_198
       refine qV rfl (R.bin rfl rfl (bi_add (c := 0) (by omega) (by omega))) (qV rfl (R.bin rfl rfl (bi_eql (r := true) (by decide))) (qM (.bool true) rfl rfl ?_))
       refine WL.want rfl rfl ?_
       refine qV rfl (R.loadA [] [(32, (anD id df n ((rpS id df n ((rpS id df n 0 ([] : Lg) rs (nr - 1)).1) ((rpS id df n 0 ([] : Lg) rs (nr - 1)).2.1) (rs.take (nr - 1)) (nr - 1 - 1)).1) ((rpS id df n ((rpS id df n 0 ([] : Lg) rs (nr - 1)).1) ((rpS id df n 0 ([] : Lg) rs (nr - 1)).2.1) (rs.take (nr - 1)) (nr - 1 - 1)).2.1) (qN ((rpS id df n ((rpS id df n 0 ([] : Lg) rs (nr - 1)).1) ((rpS id df n 0 ([] : Lg) rs (nr - 1)).2.1) (rs.take (nr - 1)) (nr - 1 - 1)).2.2) ((rs.getD (nr - 1) zRc).1) ((rs.getD (nr - 1) zRc).2.2.1) ((rs.getD (nr - 1) zRc).2.2.2.1) ((rs.getD (nr - 1) zRc).2.2.2.2.1) ((rs.getD (nr - 1) zRc).2.2.2.2.2.1) ((rs.getD (nr - 1) zRc).2.2.2.2.2.2))).map vu8)] [] (cs := (anD id df n ((rpS id df n ((rpS id df n 0 ([] : Lg) rs (nr - 1)).1) ((rpS id df n 0 ([] : Lg) rs (nr - 1)).2.1) (rs.take (nr - 1)) (nr - 1 - 1)).1) ((rpS id df n ((rpS id df n 0 ([] : Lg) rs (nr - 1)).1) ((rpS id df n 0 ([] : Lg) rs (nr - 1)).2.1) (rs.take (nr - 1)) (nr - 1 - 1)).2.1) (qN ((rpS id df n ((rpS id df n 0 ([] : Lg) rs (nr - 1)).1) ((rpS id df n 0 ([] : Lg) rs (nr - 1)).2.1) (rs.take (nr - 1)) (nr - 1 - 1)).2.2) ((rs.getD (nr - 1) zRc).1) ((rs.getD (nr - 1) zRc).2.2.1) ((rs.getD (nr - 1) zRc).2.2.2.1) ((rs.getD (nr - 1) zRc).2.2.2.2.1) ((rs.getD (nr - 1) zRc).2.2.2.2.2.1) ((rs.getD (nr - 1) zRc).2.2.2.2.2.2))).map vu8) rfl isAgg23 sizeOf23 (h_200.ok _ M0) rfl rfl rfl rfl) ?_
       refine WL.want rfl rfl ?_
       refine qV rfl (R.loadA [] [(32, ((rpS id df n 0 ([] : Lg) rs (nr - 1)).2.2).map vu8)] [] (cs := ((rpS id df n 0 ([] : Lg) rs (nr - 1)).2.2).map vu8) rfl isAgg23 sizeOf23 (h_200.ok _ M15) rfl rfl rfl rfl) ?_
       refine WL.want rfl rfl ?_
       refine qV rfl (R.eqA (xs := (anD id df n ((rpS id df n ((rpS id df n 0 ([] : Lg) rs (nr - 1)).1) ((rpS id df n 0 ([] : Lg) rs (nr - 1)).2.1) (rs.take (nr - 1)) (nr - 1 - 1)).1) ((rpS id df n ((rpS id df n 0 ([] : Lg) rs (nr - 1)).1) ((rpS id df n 0 ([] : Lg) rs (nr - 1)).2.1) (rs.take (nr - 1)) (nr - 1 - 1)).2.1) (qN ((rpS id df n ((rpS id df n 0 ([] : Lg) rs (nr - 1)).1) ((rpS id df n 0 ([] : Lg) rs (nr - 1)).2.1) (rs.take (nr - 1)) (nr - 1 - 1)).2.2) ((rs.getD (nr - 1) zRc).1) ((rs.getD (nr - 1) zRc).2.2.1) ((rs.getD (nr - 1) zRc).2.2.2.1) ((rs.getD (nr - 1) zRc).2.2.2.2.1) ((rs.getD (nr - 1) zRc).2.2.2.2.2.1) ((rs.getD (nr - 1) zRc).2.2.2.2.2.2))).map vu8) (ys := ((rpS id df n 0 ([] : Lg) rs (nr - 1)).2.2).map vu8) (r := true) rfl rfl eqGuardType23 kt23 (by decide) ag23 (Typ.u8s underlying23 ce23 underlying5 ce5 (anD_len hl (rpS_32 hl (rpS_32 hl okN _) _))) (Typ.u8s underlying23 ce23 underlying5 ce5 (rpS_len hl okN _)) (eqT (congrArg (List.map vu8) (rep_again (by omega))))) (qV rfl (R.pickT (v := (.bool true)) rfl rfl) (qM (.bool true) rfl rfl ?_))
       refine WL.want rfl rfl ?_
       refine WL.call Tryz.call23 rfl rfl (c_known12g  _ ) rfl ?_
       rintro _ w_202 ⟨rfl, hc_201⟩
       have h_203 := h_200.same hc_201
       refine qV rfl (R.pickT (v := (.bool true)) rfl rfl) (qA (.bool true) rfl rfl ?_)
       refine WL.nil (thn_n (WP.ret ?_))
       refine ret_of results7 (RV.tmp (v := (.bool true)) rfl RV.nil) ?_
       exact ⟨rfl, h_203.chgS⟩

theorem w_MR_f (id : Bool) (ms df : List UInt8) (hms : ms.length = 32) (da0 : Option Addr) (n cap0 : Nat) (hl : df.length = 32 * n) (ar : Option Addr) (nr cr : Nat) (rs : List Rc) (hrl : rs.length = nr) (hrs : ∀ r ∈ rs, okRc r) (hcr : nr ≤ cr) (ar2 : Option Addr) (nr2 cr2 : Nat) (ks : List Rc) (hkl : ks.length = nr2) (hks : ∀ r ∈ ks, okRc r) (hm : mayAllB rs = false) (w : World) (hv : View w da0 (df.map vu8)) (hvr : View w ar (rcsC rs)) (hvk : View w ar2 (rcsC ks)) :
  Cs Tryz.prog 7 [(.bool id), (.agg ⟨ms.map vu8⟩), (.slice da0 n cap0), (.slice ar nr cr), (.slice ar2 nr2 cr2)].toArray w (fun v w1 => v = (.bool true) ∧ Chg w w1 []) := by
 refine Cs.of (n := 133) (args := [(.bool id), (.agg ⟨ms.map vu8⟩), (.slice da0 n cap0), (.slice ar nr cr), (.slice ar2 nr2 cr2)]) Tryz.func7 rfl rfl rfl ?_
 have h_0 := HP.init w
 have h_01 := h_0.oldV (View.arg hv) rfl (by simp [Ent.mut])
 have h_02 := h_01.oldV (View.arg hvr) rfl (by simp [Ent.mut])
 have h_00 := h_02.oldV (View.arg hvk) rfl (by simp [Ent.mut])
 refine WP.seq (WP.reg ?_)
 refine WL.box (segs := [(32, ms.map vu8)]) h_00 rfl rfl (sC (s8 hms) sN) rfl (fun b_1 w_2 h_3 => ?_)
 refine qA (.bool false) rfl rfl ?_
 refine WL.nil (thn_n (WP.seq (WP.seq (WP.reg ?_))))
 refine qM (.slice da0 n cap0) rfl rfl (qV rfl (R.lenS (a := da0) (m := n) rfl rfl underlying24) (qV rfl (R.bin rfl rfl (bi_gtr (r := decide ((((n : Nat) : Int) : Int) > 60)) rfl)) (qM (.bool (decide ((((n : Nat) : Int) : Int) > 60))) rfl rfl ?_)))
 rcases Bool.eq_false_or_eq_true (decide ((((n : Nat) : Int) : Int) > 60)) with c_4 | c_4
 ·have p_5 := of_decide_eq_true c_4
  refine WL.skip rfl (congrArg Value.bool c_4) rfl ?_
  refine WL.skip rfl (congrArg Value.bool c_4) rfl ?_
  refine WL.skip rfl (congrArg Value.bool c_4) rfl ?_
  refine qV rfl (R.pickT (v := (.bool true)) (congrArg Value.bool c_4) rfl) (qM (.bool true) rfl rfl ?_)
  refine WL.skip rfl rfl rfl ?_
  refine WL.skip rfl rfl rfl ?_
  refine WL.skip rfl rfl rfl ?_
  refine qV rfl (R.pickT (v := (.bool true)) rfl rfl) ?_
  refine WL.nil (thn_n ?_)
  refine WP.condT rfl ?_
  refine WP.seq (WP.reg ?_)
  refine WL.call Tryz.call23 rfl rfl (c_known12g  _ ) rfl ?_
  rintro _ w_7 ⟨rfl, hc_6⟩
  have h_8 := h_3.same hc_6
  refine qA (.bool true) rfl rfl ?_
  refine WL.nil (thn_n (WP.ret (thn_r ?_)))
  refine ret_of results7 (RV.tmp (v := (.bool true)) rfl RV.nil) ?_
  exact ⟨rfl, h_8.chgS⟩
 ·have p_9 := of_decide_eq_false c_4
  refine WL.want rfl (congrArg Value.bool c_4) ?_
  refine qM (.slice ar nr cr) rfl rfl ?_
  refine WL.want rfl (congrArg Value.bool c_4) ?_
  refine qV rfl (R.lenS (a := ar) (m := nr) rfl rfl underlying75) ?_
  refine WL.want rfl (congrArg Value.bool c_4) ?_
  refine qV rfl (R.bin rfl rfl (bi_gtr (r := decide ((((nr : Nat) : Int) : Int) > 30)) rfl)) (qV rfl (R.pickF (v := (.bool (decide ((((nr : Nat) : Int) : Int) > 30)))) (congrArg Value.bool c_4) rfl) (qM (.bool (decide ((((nr : Nat) : Int) : Int) > 30))) rfl rfl ?_))
  rcases Bool.eq_false_or_eq_true (decide ((((nr : Nat) : Int) : Int) > 30)) with c_10 | c_10
  ·have p_11 := of_decide_eq_true c_10
   refine WL.skip rfl (congrArg Value.bool c_10) rfl ?_
   refine WL.skip rfl (congrArg Value.bool c_10) rfl ?_
   refine WL.skip rfl (congrArg Value.bool c_10) rfl ?_
   refine qV rfl (R.pickT (v := (.bool true)) (congrArg Value.bool c_10) rfl) ?_
   refine WL.nil (thn_n ?_)
   refine WP.condT rfl ?_
   refine WP.seq (WP.reg ?_)
   refine WL.call Tryz.call23 rfl rfl (c_known12g  _ ) rfl ?_
   rintro _ w_13 ⟨rfl, hc_12⟩
   have h_14 := h_3.same hc_12
   refine qA (.bool true) rfl rfl ?_
   refine WL.nil (thn_n (WP.ret (thn_r ?_)))
   refine ret_of results7 (RV.tmp (v := (.bool true)) rfl RV.nil) ?_
   exact ⟨rfl, h_14.chgS⟩
  ·have p_15 := of_decide_eq_false c_10
   refine WL.want rfl (congrArg Value.bool c_10) ?_
   refine qM (.slice ar2 nr2 cr2) rfl rfl ?_
   refine WL.want rfl (congrArg Value.bool c_10) ?_
   refine qV rfl (R.lenS (a := ar2) (m := nr2) rfl rfl underlying75) ?_
   refine WL.want rfl (congrArg Value.bool c_10) ?_
   refine qV rfl (R.bin rfl rfl (bi_gtr (r := decide ((((nr2 : Nat) : Int) : Int) > 30)) rfl)) (qV rfl (R.pickF (v := (.bool (decide ((((nr2 : Nat) : Int) : Int) > 30)))) (congrArg Value.bool c_10) rfl) ?_)
   refine WL.nil (thn_n ?_)
   refine WP.cond (b := decide ((((nr2 : Nat) : Int) : Int) > 30)) rfl (fun c_16 => ?_) (fun c_16 => ?_)
   ·have p_17 := of_decide_eq_true c_16
    refine WP.seq (WP.reg ?_)
    refine WL.call Tryz.call23 rfl rfl (c_known12g  _ ) rfl ?_
    rintro _ w_19 ⟨rfl, hc_18⟩
    have h_20 := h_3.same hc_18
    refine qA (.bool true) rfl rfl ?_
    refine WL.nil (thn_n (WP.ret (thn_r ?_)))
    refine ret_of results7 (RV.tmp (v := (.bool true)) rfl RV.nil) ?_
    exact ⟨rfl, h_20.chgS⟩
   ·have p_21 := of_decide_eq_false c_16
    refine WP.skip (thn_n (WP.seq (WP.reg ?_)))
    refine qM (.bool id) rfl rfl (qV rfl (R.loadA [] [(32, ms.map vu8)] [] (cs := ms.map vu8) rfl isAgg23 sizeOf23 (h_3.ok _ M0) rfl rfl rfl rfl) (qM (.slice da0 n cap0) rfl rfl ?_))
    have h_22 := h_3.up J3
    refine WL.call Tryz.call24 rfl rfl (c_both12 id ms df hms da0 n cap0 hl (by omega) _ h_22) rfl ?_
    rintro _ w_28 ⟨b_23, b_24, a_25, c_26, b_27, rfl, h_29⟩
    have h_30 := h_29.rowNil 96 67
    have h_31 := HP_logNil h_30
    refine qM (.tuple [(pO b_23 0), (pO b_27 0)].toArray) rfl rfl (qV rfl (R.extract rfl rfl) (qV rfl (R.extract rfl rfl) (qA (pO b_23 0) rfl rfl (qA (pO b_27 0) rfl rfl ?_))))
    refine WL.nil (thn_n (WP.seq (WP.reg ?_)))
    refine qM (pO b_23 0) rfl rfl (qM (.slice ar nr cr) rfl rfl ?_)
    refine WL.call Tryz.call38 rfl rfl (c_ReplayNo id b_23 b_24 ms hms a_25 n c_26 0 none 0 0 ar nr cr rs hrl hrs (by omega) hm _ (h_31.argR M2) (viewV (h_31.ok _ M11))) rfl ?_
    rintro _ w_33 ⟨rfl, hc_32⟩
    have h_34 := h_31.same hc_32
    refine qM (.tuple [(.agg ⟨(zB 32).map vu8⟩), (vi 2)].toArray) rfl rfl (qV rfl (R.extract rfl rfl) (qV rfl (R.extract rfl rfl) ?_))
    refine WL.alloc (segs := [(32, (zB 32).map vu8)]) h_34 (zv typeInfo23 rfl) rfl (sC (s8 lr) sN) rfl (fun b_35 w_36 h_37 => ?_)
    refine WL.storeA [] [(32, (zB 32).map vu8)] [(32, (zB 32).map vu8)] [] h_37 rfl rfl sizeOf23 At.h (by decide) rfl rfl rfl rfl rfl rfl (sC (s8 lr) sN) (fun w_38 h_39 => ?_)
    refine qA (vi 2) rfl rfl ?_
    refine WL.nil (thn_n (WP.seq (WP.seq (WP.reg ?_))))
    refine qM (.slice ar nr cr) rfl rfl ?_
    refine WL.call Tryz.call39 rfl rfl (c_MayAllA ar nr cr rs hrl hrs (by omega) _ (viewV (h_39.ok _ M12))) rfl ?_
    rintro _ w_41 ⟨rfl, hc_40⟩
    have h_42 := h_39.same hc_40
    refine qM (.slice ar nr cr) rfl rfl ?_
    refine WL.call Tryz.call40 rfl rfl (c_MayAllR ar nr cr rs hrl hrs (by omega) _ (viewV (h_42.ok _ M12))) rfl ?_
    rintro _ w_44 ⟨rfl, hc_43⟩
    have h_45 := h_42.same hc_43
    refine qV rfl (R.neB (a := false) (b := false) (c := false) (congrArg Value.bool hm) (congrArg Value.bool hm) underlying4 rfl) (qM (.bool false) rfl rfl ?_)
    refine WL.want rfl rfl ?_
    refine qM (.slice ar nr cr) rfl rfl ?_
    refine WL.want rfl rfl ?_
    refine qM (.slice ar2 nr2 cr2) rfl rfl ?_
    refine WL.want rfl rfl ?_
    refine WL.call Tryz.call41 rfl rfl (c_SameM ar nr cr rs hrl hrs (by omega) ar2 nr2 cr2 ks hkl hks (by omega) _ (viewV (h_45.ok _ M12)) (viewV (h_45.ok _ M11))) rfl ?_
    rintro _ w_47 ⟨rfl, hc_46⟩
    have h_48 := h_45.same hc_46
    refine WL.want rfl rfl ?_
    refine qM (.slice ar nr cr) rfl rfl ?_
    refine WL.want rfl rfl ?_
    refine qM (.slice ar2 nr2 cr2) rfl rfl ?_
    refine WL.want rfl rfl ?_
    refine WL.call Tryz.call42 rfl rfl (c_SameRR ar nr cr rs hrl hrs (by omega) ar2 nr2 cr2 ks hkl hks (by omega) _ (viewV (h_48.ok _ M12)) (viewV (h_48.ok _ M11))) rfl ?_
    rintro _ w_50 ⟨rfl, hc_49⟩
    have h_51 := h_48.same hc_49
    refine WL.want rfl rfl ?_
    refine qV rfl (R.neB (a := decide (rs = ks)) (b := decide (rs = ks)) (c := false) rfl rfl underlying4 (by simp)) (qV rfl (R.pickF (v := (.bool false)) rfl rfl) ?_)
    refine WL.nil (thn_n ?_)
    refine WP.condF rfl ?_
    refine WP.skip (thn_n (WP.seq (WP.seq (WP.reg ?_))))
    refine qM (.slice ar nr cr) rfl rfl ?_
    refine WL.call Tryz.call40 rfl rfl (c_MayAllR ar nr cr rs hrl hrs (by omega) _ (viewV (h_51.ok _ M12))) rfl ?_
    rintro _ w_53 ⟨rfl, hc_52⟩
    have h_54 := h_51.same hc_52
    refine qV rfl (R.not (b := false) (congrArg Value.bool hm)) ?_
    refine WL.nil (thn_n ?_)
    refine WP.condT rfl ?_
    refine WP.seq (WP.reg ?_)
    refine qV rfl (R.loadA [] [(32, (zB 32).map vu8)] [] (cs := (zB 32).map vu8) rfl isAgg23 sizeOf23 (h_54.ok _ M0) rfl rfl rfl rfl) (qV rfl (R.buildA (vs := []) (cs := (zB 32).map vu8) underlying23 sizeOf5 (zv typeInfo23 rfl) rfl rfl) (qV rfl (R.eqA (xs := (zB 32).map vu8) (ys := (zB 32).map vu8) (r := true) rfl rfl eqGuardType23 kt23 (by decide) ag23 (Typ.u8s underlying23 ce23 underlying5 ce5 lr) (Typ.u8s underlying23 ce23 underlying5 ce5 lr) (eqT rfl)) (qM (.bool true) rfl rfl ?_)))
    refine WL.want rfl rfl ?_
    refine qM (vi 2) rfl rfl ?_
    refine WL.want rfl rfl ?_
    refine WL.call Tryz.call26 rfl rfl (c_num12 2 (by omega) _ ) rfl ?_
    rintro _ w_56 ⟨rfl, hc_55⟩
    have h_57 := h_54.same hc_55
    refine WL.want rfl rfl ?_
    refine qV rfl (R.bin rfl rfl (bi_eql (r := true) (by decide))) (qV rfl (R.pickT (v := (.bool true)) rfl rfl) (qM (.bool true) rfl rfl ?_))
    refine WL.want rfl rfl ?_
    refine WL.call Tryz.call23 rfl rfl (c_known12g  _ ) rfl ?_
    rintro _ w_59 ⟨rfl, hc_58⟩
    have h_60 := h_57.same hc_58
    refine qV rfl (R.pickT (v := (.bool true)) rfl rfl) (qA (.bool true) rfl rfl ?_)
    refine WL.nil (thn_n (WP.ret (thn_r ?_)))
    refine ret_of results7 (RV.tmp (v := (.bool true)) rfl RV.nil) ?_
    exact ⟨rfl, h_60.chgS⟩

theorem w_MeasureReplays (id : Bool) (ms df : List UInt8) (hms : ms.length = 32) (da0 : Option Addr) (n cap0 : Nat) (hl : df.length = 32 * n) (ar : Option Addr) (nr cr : Nat) (rs : List Rc) (hrl : rs.length = nr) (hrs : ∀ r ∈ rs, okRc r) (hcr : nr ≤ cr) (ar2 : Option Addr) (nr2 cr2 : Nat) (ks : List Rc) (hkl : ks.length = nr2) (hks : ∀ r ∈ ks, okRc r) (w : World) (hv : View w da0 (df.map vu8)) (hvr : View w ar (rcsC rs)) (hvk : View w ar2 (rcsC ks)) : Cs Tryz.prog 7 [(.bool id), (.agg ⟨ms.map vu8⟩), (.slice da0 n cap0), (.slice ar nr cr), (.slice ar2 nr2 cr2)].toArray w (fun v w1 => v = (.bool true) ∧ Chg w w1 []) := by
 rcases Bool.eq_false_or_eq_true (mayAllB rs) with hm | hm
 ·exact w_MR_t id ms df hms da0 n cap0 hl ar nr cr rs hrl hrs hcr ar2 nr2 cr2 ks hkl hks hm w hv hvr hvk
 ·exact w_MR_f id ms df hms da0 n cap0 hl ar nr cr rs hrl hrs hcr ar2 nr2 cr2 ks hkl hks hm w hv hvr hvk
namespace measureReplaysDone
open Go.ChangeShapes Go.WideShapes Go.ChangeAt
theorem own : ownKnob Tryz.prog.godebug = none := by kernel_rfl
theorem laidOut : laidOutB Tryz.prog = true := by kernel_rfl
set_option maxRecDepth 100000 in
theorem lifted (os : Os) (started : os.Started) (H : Type) (enc : TypeId × Value → H) :
  ReturnsInHanded {} Tryz.checked os 7 .any (Rows.measureReplaysSpec.pre6 enc Tryz.prog Tryz.f7 Rows.measureReplaysRow.domain false) (Rows.measureReplaysSpec.post enc Tryz.prog Tryz.f7 false true false false) := by
 refine returnsInHanded_of_change (C := Tryz.checked) own started (by kernel_rfl) Tryz.func7
  (ChangeSpec.witness6 (enc := enc) (C := Tryz.checked) false ⟨#[], #[.bool false, .agg #[.int .u8 0, .int .u8 0, .int .u8 0, .int .u8 0, .int .u8 0, .int .u8 0, .int .u8 0, .int .u8 0, .int .u8 0, .int .u8 0, .int .u8 0, .int .u8 0, .int .u8 0, .int .u8 0, .int .u8 0, .int .u8 0, .int .u8 0, .int .u8 0, .int .u8 0, .int .u8 0, .int .u8 0, .int .u8 0, .int .u8 0, .int .u8 0, .int .u8 0, .int .u8 0, .int .u8 0, .int .u8 0, .int .u8 0, .int .u8 0, .int .u8 0, .int .u8 0], .slice none 0 0, .slice none 0 0, .slice none 0 0], []⟩ 8 (by kernel_rfl) (by kernel_rfl) (by kernel_rfl) (by kernel_rfl)) ?_
 intro W base args ds gs before hval0 hW hcnd _
 have hval : ∀ (j : Nat) t v, Tryz.f7.params[j]? = some t → args[j]? = some v → Value.okWide Tryz.prog W .any base t v := hval0
 have hW' := hW
 obtain ⟨p, q, hA0, hV, rfl, hfz, hnd⟩ := hW
 have hA : DataW.TrodAll enc Tryz.prog W 0 (fun _ => true) true Tryz.f7.params.toList args.toList ds p := hA0
 rw [Tryz.params7] at hA hval
 obtain ⟨v0, vs0, d0, ds0, p0, q0, hargs, rfl, rfl, h0, r0⟩ := trodAll_cons hA
 obtain ⟨v1, vs1, d1, ds1, p1, q1, rfl, rfl, rfl, h1, r1⟩ := trodAll_cons r0
 obtain ⟨v2, vs2, d2, ds2, p2, q2, rfl, rfl, rfl, h2, r2⟩ := trodAll_cons r1
 obtain ⟨v3, vs3, d3, ds3, p3, q3, rfl, rfl, rfl, h3, r3⟩ := trodAll_cons r2
 obtain ⟨v4, vs4, d4, ds4, p4, q4, rfl, rfl, rfl, h4, r4⟩ := trodAll_cons r3
 obtain ⟨rfl, rfl, rfl⟩ := trodAll_nil r4
 obtain rfl : args = #[v0, v1, v2, v3, v4] := by cases args; simp_all
 obtain ⟨rfl, rfl⟩ := trodVars_none hV
 have lt0 : ∀ x ∈ p0, x.block < W.heap.size := by obtain ⟨m, hm⟩ := h0; exact DataW.trod_lt m _ _ _ hm
 obtain ⟨x0, rfl⟩ := okWide_bool underlying4 (hval 0 4 v0 rfl rfl)
 have lt1 : ∀ x ∈ p1, x.block < W.heap.size := by obtain ⟨m, hm⟩ := h1; exact DataW.trod_lt m _ _ _ hm
 obtain ⟨cs1, rfl⟩ := okWide_agg aggT23 (hval 1 23 v1 rfl rfl)
 have tr1 : Tr Tryz.prog W 23 cs1 := Tr.of h1 rfl
 obtain ⟨x1, rfl, l_x1⟩ := Tr.arr8 underlying23 ce23 ce5 underlying5 tr1
 have lt2 : ∀ x ∈ p2, x.block < W.heap.size := by obtain ⟨m, hm⟩ := h2; exact DataW.trod_lt m _ _ _ hm
 obtain ⟨a2, n2, c2, rfl⟩ := okWide_slice underlying24 (hval 2 24 v2 rfl rfl)
 obtain ⟨a2, n2, c2, x2, e2, l_x2, hc2, hm2, hv2⟩ := Tr.slA8 underlying24 ce23 underlying23 ce5 underlying5 (Tr.of h2 rfl)
 cases e2
 have lt3 : ∀ x ∈ p3, x.block < W.heap.size := by obtain ⟨m, hm⟩ := h3; exact DataW.trod_lt m _ _ _ hm
 obtain ⟨a3, n3, c3, rfl⟩ := okWide_slice underlying75 (hval 3 75 v3 rfl rfl)
 obtain ⟨a3, n3, c3, x3, e3, l_x3, hc3, hm3, hr3, hv3⟩ := trRc W (Tr.of h3 rfl)
 cases e3
 have lt4 : ∀ x ∈ p4, x.block < W.heap.size := by obtain ⟨m, hm⟩ := h4; exact DataW.trod_lt m _ _ _ hm
 obtain ⟨a4, n4, c4, rfl⟩ := okWide_slice underlying75 (hval 4 75 v4 rfl rfl)
 obtain ⟨a4, n4, c4, x4, e4, l_x4, hc4, hm4, hr4, hv4⟩ := trRc W (Tr.of h4 rfl)
 cases e4
 clear hA0 hval0
 have hw : Cs Tryz.prog 7 [(.bool x0), (.agg ⟨x1.map vu8⟩), (.slice a2 n2 c2), (.slice a3 n3 c3), (.slice a4 n4 c4)].toArray W (fun v w1 => v = .bool true ∧ Chg W w1 []) := w_MeasureReplays x0 x1 x2 l_x1 a2 n2 c2 l_x2 a3 n3 c3 x3 l_x3 hr3 hc3 a4 n4 c4 x4 l_x4 hr4 W hv2.1 hv3.1 hv4.1
 have ea : ([(.bool x0), (.agg ⟨x1.map vu8⟩), (.slice a2 n2 c2), (.slice a3 n3 c3), (.slice a4 n4 c4)] : List Value).toArray = (#[(.bool x0), .agg ⟨x1.map vu8⟩, (.slice a2 n2 c2), (.slice a3 n3 c3), (.slice a4 n4 c4)] : Array Value) := by simp [flat]
 rw [ea] at hw
 refine Calls.mono (Cs.below hw) fun e W' ⟨he, bel⟩ => ?_
 subst he
 exact ⟨_, rfl, _, _, _, [], _, [], hW', trodAll_mk1 (shut_bool underlying4 _), (trodAll_cons_mk (Below.trod laidOut (by kernel_rfl) (of_decide_eq_true (by kernel_rfl)) h0 bel lt0) (trodAll_cons_mk (Below.trod laidOut (by kernel_rfl) (of_decide_eq_true (by kernel_rfl)) h1 bel lt1) (trodAll_cons_mk (Below.trod laidOut (by kernel_rfl) (of_decide_eq_true (by kernel_rfl)) h2 bel lt2) (trodAll_cons_mk (Below.trod laidOut (by kernel_rfl) (of_decide_eq_true (by kernel_rfl)) h3 bel lt3) (trodAll_cons_mk (Below.trod laidOut (by kernel_rfl) (of_decide_eq_true (by kernel_rfl)) h4 bel lt4) trodAll_mk0))))), rfl, bel.frame _, fun h => by cases h⟩
theorem over : Rows.measureReplaysRow.holds Tryz.pinned (OpenSpec.ofChange Rows.measureReplaysSpec) :=
 OpenClaim.holds_of_wide 7 Tryz.f7 rfl rfl rfl rfl rfl rfl rfl ⟨rfl, rfl, rfl, rfl, rfl⟩ rfl rfl rfl rfl rfl (by kernel_rfl) Tryz.func7 (by kernel_rfl)
  (of_decide_eq_true (by kernel_rfl)) (by unfold Func.isWrapper; first | (rw [if_pos (by decide +kernel)]; kernel_rfl) | (rw [if_neg (by decide +kernel)]; exact ⟨rfl, rfl⟩))
  (fun os started H enc _ => lifted os started H enc)
theorem proved : Rows.MeasureReplaysSaid := over
end measureReplaysDone
end Go.Proofs.YteclkcpdclimnaaGreat
