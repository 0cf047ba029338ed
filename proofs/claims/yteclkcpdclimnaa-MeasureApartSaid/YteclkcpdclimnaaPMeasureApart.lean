/- MeasureApart holds of every input. Conditions: none. -/
import Derived.Test.YteclkcpdclimnaaZ4MeasureApart
set_option linter.unusedVariables false
set_option linter.unusedSimpArgs false
set_option linter.unusedSectionVars false
namespace Go.Proofs.Yteclkcpdclimnaa
open Go.Proofs.Try
open Go.Vc Go.Orc Go.Sh Go.RowKit
set_option linter.unusedVariables false
set_option linter.unusedSimpArgs false
set_option maxRecDepth 20000

theorem w_MAp_tt (df : List UInt8) (da0 : Option Addr) (n cap0 : Nat) (hl : df.length = 32 * n) (ar : Option Addr) (nr cr : Nat) (rs : List Rc) (hrl : rs.length = nr) (hrs : ∀ r ∈ rs, okRc r) (hcr : nr ≤ cr) (ar2 : Option Addr) (nr2 cr2 : Nat) (ks : List Rc) (hkl : ks.length = nr2) (hks : ∀ r ∈ ks, okRc r) (hcr2 : nr2 ≤ cr2) (hm : mayAllB rs = true) (hmk : mayAllB ks = true) (w : World) (hv : View w da0 (df.map vu8)) (hvr : View w ar (rcsC rs)) (hvk : View w ar2 (rcsC ks)) :
  Cs Try.prog 4 [(.slice da0 n cap0), (.slice ar nr cr), (.slice ar2 nr2 cr2)].toArray w (fun v w1 => v = (.bool true) ∧ Chg w w1 []) := by
 refine Cs.of (n := 62) (args := [(.slice da0 n cap0), (.slice ar nr cr), (.slice ar2 nr2 cr2)]) Try.func4 rfl rfl rfl ?_
 have h_0 := HP.init w
 have h_01 := h_0.oldV (View.arg hv) rfl (by simp [Ent.mut])
 have h_02 := h_01.oldV (View.arg hvr) rfl (by simp [Ent.mut])
 have h_00 := h_02.oldV (View.arg hvk) rfl (by simp [Ent.mut])
 refine WP.seq (WP.reg ?_)
 refine qA (.bool false) rfl rfl ?_
 refine WL.nil (thn_n (WP.seq (WP.seq (WP.reg ?_))))
 refine WL.call Try.call15 rfl rfl (c_known12g  _ ) rfl ?_
 rintro _ w_2 ⟨rfl, hc_1⟩
 have h_3 := h_00.same hc_1
 refine qV rfl (R.not (b := true) rfl) ?_
 refine WL.nil (thn_n ?_)
 refine WP.condF rfl ?_
 refine WP.skip (thn_n (WP.seq (WP.seq (WP.reg ?_))))
 refine qM (.slice da0 n cap0) rfl rfl (qV rfl (R.lenS (a := da0) (m := n) rfl rfl underlying24) (qV rfl (R.bin rfl rfl (bi_gtr (r := decide ((((n : Nat) : Int) : Int) > 60)) rfl)) (qM (.bool (decide ((((n : Nat) : Int) : Int) > 60))) rfl rfl ?_)))
 rcases Bool.eq_false_or_eq_true (decide ((((n : Nat) : Int) : Int) > 60)) with c_4 | c_4
 ·have p_5 := of_decide_eq_true c_4
  refine WL.skip rfl (congrArg Value.bool c_4) rfl ?_
  refine WL.skip rfl (congrArg Value.bool c_4) rfl ?_
  refine WL.skip rfl (congrArg Value.bool c_4) rfl ?_
  refine qV rfl (R.pickT (v := (.bool true)) (congrArg Value.bool c_4) rfl) (qM (.bool true) rfl rfl ?_)
  refine WL.skip rfl rfl rfl ?_
  refine WL.skip rfl rfl rfl ?_
  refine WL.skip rfl rfl rfl ?_
  refine qV rfl (R.pickT (v := (.bool true)) rfl rfl) (qM (.bool true) rfl rfl ?_)
  refine WL.skip rfl rfl rfl ?_
  refine WL.skip rfl rfl rfl ?_
  refine WL.skip rfl rfl rfl ?_
  refine qV rfl (R.pickT (v := (.bool true)) rfl rfl) ?_
  refine WL.nil (thn_n ?_)
  refine WP.condT rfl ?_
  refine WP.seq (WP.reg ?_)
  refine qA (.bool true) rfl rfl ?_
  refine WL.nil (thn_n (WP.ret (thn_r ?_)))
  refine ret_of results4 (RV.tmp (v := (.bool true)) rfl RV.nil) ?_
  exact ⟨rfl, h_3.chgS⟩
 ·have p_6 := of_decide_eq_false c_4
  refine WL.want rfl (congrArg Value.bool c_4) ?_
  refine qM (.slice ar nr cr) rfl rfl ?_
  refine WL.want rfl (congrArg Value.bool c_4) ?_
  refine qV rfl (R.lenS (a := ar) (m := nr) rfl rfl underlying45) ?_
  refine WL.want rfl (congrArg Value.bool c_4) ?_
  refine qV rfl (R.bin rfl rfl (bi_gtr (r := decide ((((nr : Nat) : Int) : Int) > 30)) rfl)) (qV rfl (R.pickF (v := (.bool (decide ((((nr : Nat) : Int) : Int) > 30)))) (congrArg Value.bool c_4) rfl) (qM (.bool (decide ((((nr : Nat) : Int) : Int) > 30))) rfl rfl ?_))
  rcases Bool.eq_false_or_eq_true (decide ((((nr : Nat) : Int) : Int) > 30)) with c_7 | c_7
  ·have p_8 := of_decide_eq_true c_7
   refine WL.skip rfl (congrArg Value.bool c_7) rfl ?_
   refine WL.skip rfl (congrArg Value.bool c_7) rfl ?_
   refine WL.skip rfl (congrArg Value.bool c_7) rfl ?_
   refine qV rfl (R.pickT (v := (.bool true)) (congrArg Value.bool c_7) rfl) (qM (.bool true) rfl rfl ?_)
   refine WL.skip rfl rfl rfl ?_
   refine WL.skip rfl rfl rfl ?_
   refine WL.skip rfl rfl rfl ?_
   refine qV rfl (R.pickT (v := (.bool true)) rfl rfl) ?_
   refine WL.nil (thn_n ?_)
   refine WP.condT rfl ?_
   refine WP.seq (WP.reg ?_)
   refine qA (.bool true) rfl rfl ?_
   refine WL.nil (thn_n (WP.ret (thn_r ?_)))
   refine ret_of results4 (RV.tmp (v := (.bool true)) rfl RV.nil) ?_
   exact ⟨rfl, h_3.chgS⟩
  ·have p_9 := of_decide_eq_false c_7
   refine WL.want rfl (congrArg Value.bool c_7) ?_
   refine qM (.slice ar2 nr2 cr2) rfl rfl ?_
   refine WL.want rfl (congrArg Value.bool c_7) ?_
   refine qV rfl (R.lenS (a := ar2) (m := nr2) rfl rfl underlying45) ?_
   refine WL.want rfl (congrArg Value.bool c_7) ?_
   refine qV rfl (R.bin rfl rfl (bi_gtr (r := decide ((((nr2 : Nat) : Int) : Int) > 30)) rfl)) (qV rfl (R.pickF (v := (.bool (decide ((((nr2 : Nat) : Int) : Int) > 30)))) (congrArg Value.bool c_7) rfl) (qM (.bool (decide ((((nr2 : Nat) : Int) : Int) > 30))) rfl rfl ?_))
   rcases Bool.eq_false_or_eq_true (decide ((((nr2 : Nat) : Int) : Int) > 30)) with c_10 | c_10
   ·have p_11 := of_decide_eq_true c_10
    refine WL.skip rfl (congrArg Value.bool c_10) rfl ?_
    refine WL.skip rfl (congrArg Value.bool c_10) rfl ?_
    refine WL.skip rfl (congrArg Value.bool c_10) rfl ?_
    refine qV rfl (R.pickT (v := (.bool true)) (congrArg Value.bool c_10) rfl) ?_
    refine WL.nil (thn_n ?_)
    refine WP.condT rfl ?_
    refine WP.seq (WP.reg ?_)
    refine qA (.bool true) rfl rfl ?_
    refine WL.nil (thn_n (WP.ret (thn_r ?_)))
    refine ret_of results4 (RV.tmp (v := (.bool true)) rfl RV.nil) ?_
    exact ⟨rfl, h_3.chgS⟩
   ·have p_12 := of_decide_eq_false c_10
    refine WL.want rfl (congrArg Value.bool c_10) ?_
    refine qM (.slice da0 n cap0) rfl rfl ?_
    refine WL.want rfl (congrArg Value.bool c_10) ?_
    refine WL.call Try.call16 rfl rfl (c_distinct12 da0 n cap0 df hl (by omega) _ (viewV (h_3.ok _ M2))) rfl ?_
    rintro _ w_16 ⟨bd_13, rfl, hd_14, hc_15⟩
    have h_17 := h_3.same hc_15
    refine WL.want rfl (congrArg Value.bool c_10) ?_
    refine qV rfl (R.not (b := bd_13) rfl) (qV rfl (R.pickF (v := (.bool (!bd_13))) (congrArg Value.bool c_10) rfl) ?_)
    refine WL.nil (thn_n ?_)
    refine WP.cond (b := !bd_13) rfl (fun c_18 => ?_) (fun c_18 => ?_)
    ·refine WP.seq (WP.reg ?_)
     refine qA (.bool true) rfl rfl ?_
     refine WL.nil (thn_n (WP.ret (thn_r ?_)))
     refine ret_of results4 (RV.tmp (v := (.bool true)) rfl RV.nil) ?_
     exact ⟨rfl, h_17.chgS⟩
    ·refine WP.skip (thn_n (WP.seq (WP.reg ?_)))
     refine qV rfl (R.buildA (vs := []) (cs := (zB 32).map vu8) underlying23 sizeOf5 (zv typeInfo23 rfl) rfl rfl) (qM (.slice da0 n cap0) rfl rfl ?_)
     have h_19 := h_17.up J2
     refine WL.call Try.call17 rfl rfl (c_ONew true (zB 32) df lr da0 n cap0 hl (by omega) _ h_19) rfl ?_
     rintro _ w_24 ⟨b_20, b_21, a_22, c_23, rfl, h_25⟩
     refine qA (pO b_20 0) rfl rfl ?_
     refine WL.nil (thn_n (WP.seq (WP.reg ?_)))
     refine qM (pO b_20 0) rfl rfl (qM (.slice ar nr cr) rfl rfl ?_)
     have h_31 := (((((h_25.up J7).up J5).up J5).up J5).up J5).up J5
     refine WL.call Try.call18 rfl rfl (c_ReplayA true b_20 b_21 (zB 32) df lr a_22 n c_23 0 hl none 0 [] ([] : Lg) (by first | decide | omega) (by first | decide | omega) ar nr cr rs hrl hrs (by omega) (by omega) hm _ h_31) rfl ?_
     rintro _ w_35 ⟨la_32, lc_33, lx_34, rfl, h_36⟩
     refine qM (.tuple [(.agg ⟨((rpS true df n 0 ([] : Lg) rs (nr - 1)).2.2).map vu8⟩), (vi 0)].toArray) rfl rfl (qV rfl (R.extract rfl rfl) (qV rfl (R.extract rfl rfl) ?_))
     refine WL.alloc (segs := [(32, (zB 32).map vu8)]) h_36 (zv typeInfo23 rfl) rfl (sC (s8 lr) sN) rfl (fun b_37 w_38 h_39 => ?_)
     refine WL.storeA [] [(32, (zB 32).map vu8)] [(32, ((rpS true df n 0 ([] : Lg) rs (nr - 1)).2.2).map vu8)] [] h_39 rfl rfl sizeOf23 At.h (by decide) rfl rfl rfl rfl rfl rfl (sC (s8 (rpS_len hl okN _)) sN) (fun w_40 h_41 => ?_)
     refine qA (vi 0) rfl rfl ?_
     refine WL.nil (thn_n (WP.seq ?_))
     have hsu : (rpS true df n 0 ([] : Lg) rs (nr - 1)).1 ≤ nr := Nat.le_trans (rpS_u _) (by have := (mayAll_P hm).1; show 0 + (nr - 1) + 1 ≤ nr; omega)
     have hsl : (rpS true df n 0 ([] : Lg) rs (nr - 1)).2.1.length ≤ nr := Nat.le_trans (rpS_l _) (by have := (mayAll_P hm).1; show 0 + (nr - 1) + 1 ≤ nr; omega)
     refine WP.reg ?_
     refine qM (pO b_20 0) rfl rfl (qM (.slice ar2 nr2 cr2) rfl rfl ?_)
     have h_47 := (((((h_41.up J8).up J6).up J6).up J6).up J6).up J6
     refine WL.call Try.call18 rfl rfl (c_ReplayA true b_20 b_21 (zB 32) df lr a_22 n c_23 ((rpS true df n 0 ([] : Lg) rs (nr - 1)).1) hl la_32 lc_33 lx_34 ((rpS true df n 0 ([] : Lg) rs (nr - 1)).2.1) (by first | decide | omega) (by first | decide | omega) ar2 nr2 cr2 ks hkl hks (by omega) (by omega) hmk _ h_47) rfl ?_
     rintro _ w_51 ⟨la_48, lc_49, lx_50, rfl, h_52⟩
     refine qM (.tuple [(.agg ⟨((rpS true df n ((rpS true df n 0 ([] : Lg) rs (nr - 1)).1) ((rpS true df n 0 ([] : Lg) rs (nr - 1)).2.1) ks (nr2 - 1)).2.2).map vu8⟩), (vi 0)].toArray) rfl rfl (qV rfl (R.extract rfl rfl) (qV rfl (R.extract rfl rfl) ?_))
     refine WL.alloc (segs := [(32, (zB 32).map vu8)]) h_52 (zv typeInfo23 rfl) rfl (sC (s8 lr) sN) rfl (fun b_53 w_54 h_55 => ?_)
     refine WL.storeA [] [(32, (zB 32).map vu8)] [(32, ((rpS true df n ((rpS true df n 0 ([] : Lg) rs (nr - 1)).1) ((rpS true df n 0 ([] : Lg) rs (nr - 1)).2.1) ks (nr2 - 1)).2.2).map vu8)] [] h_55 rfl rfl sizeOf23 At.h (by decide) rfl rfl rfl rfl rfl rfl (sC (s8 (rpS_len hl (rpS_32 hl okN _) _)) sN) (fun w_56 h_57 => ?_)
     refine qA (vi 0) rfl rfl ?_
     refine WL.nil (thn_n (WP.seq ?_))
     refine WP.drawT (SL w.heap.size [.blk b_53 .nw 23 [(32, ((rpS true df n ((rpS true df n 0 ([] : Lg) rs (nr - 1)).1) ((rpS true df n 0 ([] : Lg) rs (nr - 1)).2.1) ks (nr2 - 1)).2.2).map vu8)], .blk b_20 .nw 90 [(1, [(.bool true)]), (32, (zB 32).map vu8), (1, [(.slice a_22 n c_23)]), (1, [(vn ((rpS true df n ((rpS true df n 0 ([] : Lg) rs (nr - 1)).1) ((rpS true df n 0 ([] : Lg) rs (nr - 1)).2.1) ks (nr2 - 1)).1))]), (1, [(.map (some b_21))]), (1, [(.slice la_48 ((rpS true df n ((rpS true df n 0 ([] : Lg) rs (nr - 1)).1) ((rpS true df n 0 ([] : Lg) rs (nr - 1)).2.1) ks (nr2 - 1)).2.1.length) lc_49)])], .row la_48 ((rpS true df n ((rpS true df n 0 ([] : Lg) rs (nr - 1)).1) ((rpS true df n 0 ([] : Lg) rs (nr - 1)).2.1) ks (nr2 - 1)).2.1.length) lc_49 64 67 lx_50, .obj b_21 .nw (.map (mArr ((rpS true df n ((rpS true df n 0 ([] : Lg) rs (nr - 1)).1) ((rpS true df n 0 ([] : Lg) rs (nr - 1)).2.1) ks (nr2 - 1)).2.1)) ((rpS true df n ((rpS true df n 0 ([] : Lg) rs (nr - 1)).1) ((rpS true df n 0 ([] : Lg) rs (nr - 1)).2.1) ks (nr2 - 1)).2.1.length)), .pin (sblks lx_50) (fun w => Lgs w lx_50 ((rpS true df n ((rpS true df n 0 ([] : Lg) rs (nr - 1)).1) ((rpS true df n 0 ([] : Lg) rs (nr - 1)).2.1) ks (nr2 - 1)).2.1)), .view a_22 (df.map vu8), .view ar2 (rcsC ks), .blk b_37 .nw 23 [(32, ((rpS true df n 0 ([] : Lg) rs (nr - 1)).2.2).map vu8)], .view ar (rcsC rs), .view da0 (df.map vu8)]) (.q 0 (.q 2 (.s 1 (.s 3 (.q 4 (.q 5 (.q 6 (.q 7 (.q 8 (.q 9 (.q 10 (.q 11 (.s 12 (.q 13 (.q 14 (.q 15 .nil)))))))))))))))) (by kernel_rfl) (by kernel_rfl) rfl (by kernel_rfl) (fun w_58 hc_60 => (SL.cons ((h_57.same hc_60).ok _ M0) (SL.cons ((h_57.same hc_60).ok _ M1) (SL.cons ((h_57.same hc_60).ok _ M2) (SL.cons ((h_57.same hc_60).ok _ M3) (SL.cons ((h_57.same hc_60).ok _ M4) (SL.cons ((h_57.same hc_60).ok _ M5) (SL.cons ((h_57.same hc_60).ok _ M6) (SL.cons ((h_57.same hc_60).ok _ M7) (SL.cons ((h_57.same hc_60).ok _ M8) (SL.cons ((h_57.same hc_60).ok _ M9) (SL.nil _ _)))))))))))) (fun w_58 hc_60 => ?_)
     have h_59 := h_57.same hc_60
     refine qT rfl rfl (fun wq hS => R.move (v := (vi 0)) rfl) ?_
     refine qT rfl rfl (fun wq hS => R.move (v := (vi 0)) rfl) ?_
     refine WT.s (oN rfl ?_)
     refine WL.call Try.call19 rfl rfl (c_num12 0 (by omega) _ ) rfl ?_
     rintro _ w_62 ⟨rfl, hc_61⟩
     have h_63 := h_59.same hc_61
     refine WL.nil ?_
     refine ⟨(N0_1_2_3_4_5_6_7_8_9 h_63.ok), ?_⟩
     refine WT.s (oN rfl ?_)
     refine WL.call Try.call19 rfl rfl (c_num12 0 (by omega) _ ) rfl ?_
     rintro _ w_65 ⟨rfl, hc_64⟩
     have h_66 := h_63.same hc_64
     refine WL.nil ?_
     refine ⟨(N0_1_2_3_4_5_6_7_8_9 h_66.ok), ?_⟩
     refine qT rfl rfl (fun wq hS => R.bin rfl rfl (bi_add (c := 0) (by omega) (by omega))) ?_
     refine qT rfl rfl (fun wq hS => R.bin rfl rfl (bi_neq (r := false) (by decide))) ?_
     refine qT rfl rfl (fun wq hS => R.move (v := (.bool false)) rfl) ?_
     refine WT.q rfl (Wn.yes rfl rfl rfl) rfl rfl (fun wq hS => R.loadA [] [(32, ((rpS true df n 0 ([] : Lg) rs (nr - 1)).2.2).map vu8)] [] (cs := ((rpS true df n 0 ([] : Lg) rs (nr - 1)).2.2).map vu8) rfl isAgg23 sizeOf23 (hS _ M7) rfl rfl rfl rfl) ?_
     refine WT.q rfl (Wn.yes rfl rfl rfl) rfl rfl (fun wq hS => R.loadA [] [(32, ((rpS true df n ((rpS true df n 0 ([] : Lg) rs (nr - 1)).1) ((rpS true df n 0 ([] : Lg) rs (nr - 1)).2.1) ks (nr2 - 1)).2.2).map vu8)] [] (cs := ((rpS true df n ((rpS true df n 0 ([] : Lg) rs (nr - 1)).1) ((rpS true df n 0 ([] : Lg) rs (nr - 1)).2.1) ks (nr2 - 1)).2.2).map vu8) rfl isAgg23 sizeOf23 (hS _ M0) rfl rfl rfl rfl) ?_
     refine WT.q rfl (Wn.yes rfl rfl rfl) rfl rfl (fun wq hS => R.eqA (xs := ((rpS true df n 0 ([] : Lg) rs (nr - 1)).2.2).map vu8) (ys := ((rpS true df n ((rpS true df n 0 ([] : Lg) rs (nr - 1)).1) ((rpS true df n 0 ([] : Lg) rs (nr - 1)).2.1) ks (nr2 - 1)).2.2).map vu8) (r := decide ((rpS true df n 0 ([] : Lg) rs (nr - 1)).2.2 = (rpS true df n ((rpS true df n 0 ([] : Lg) rs (nr - 1)).1) ((rpS true df n 0 ([] : Lg) rs (nr - 1)).2.1) ks (nr2 - 1)).2.2)) rfl rfl eqGuardType23 kt23 (by decide) ag23 (Typ.u8s underlying23 ce23 underlying5 ce5 (rpS_len hl okN _)) (Typ.u8s underlying23 ce23 underlying5 ce5 (rpS_len hl (rpS_32 hl okN _) _)) (map_inj_u8.trans (decT _))) ?_
     refine WT.q rfl (Wn.yes rfl rfl rfl) rfl rfl (fun wq hS => R.move (v := (.slice ar nr cr)) rfl) ?_
     refine WT.q rfl (Wn.yes rfl rfl rfl) rfl rfl (fun wq hS => R.move (v := (.slice ar2 nr2 cr2)) rfl) ?_
     refine WT.s ?_
     refine Op1.one rfl (Wn.yes rfl rfl rfl) ?_
     refine WL.call Try.call20 rfl rfl (c_SameRR ar nr cr rs hrl hrs (by omega) ar2 nr2 cr2 ks hkl hks (by omega) _ (viewV (h_66.ok _ M8)) (viewV (h_66.ok _ M6))) rfl ?_
     rintro _ w_68 ⟨rfl, hc_67⟩
     have h_69 := h_66.same hc_67
     refine WL.nil ?_
     refine ⟨(N0_1_2_3_4_5_6_7_8_9 h_69.ok), ?_⟩
     refine WT.q rfl (Wn.yes rfl rfl rfl) rfl rfl (fun wq hS => R.eqB (a := decide ((rpS true df n 0 ([] : Lg) rs (nr - 1)).2.2 = (rpS true df n ((rpS true df n 0 ([] : Lg) rs (nr - 1)).1) ((rpS true df n 0 ([] : Lg) rs (nr - 1)).2.1) ks (nr2 - 1)).2.2)) (b := decide (rs = ks)) (c := true) rfl rfl underlying4 (beq_iff_eq.2 (decide_eq_decide.2 (apart hl (hd_14 (nidm c_18)) hrs hks hrl hkl hm hmk (by omega) (by omega))))) ?_
     refine qT rfl rfl (fun wq hS => R.pickF (v := (.bool true)) rfl rfl) ?_
     refine qT rfl rfl (fun wq hS => R.assign (v := (.bool true)) rfl) ?_
     refine WT.nil (thn_n (WP.ret ?_))
     refine ret_of results4 (RV.tmp (v := (.bool true)) rfl RV.nil) ?_
     exact ⟨rfl, h_69.chgS⟩

theorem w_MAp_tf (df : List UInt8) (da0 : Option Addr) (n cap0 : Nat) (hl : df.length = 32 * n) (ar : Option Addr) (nr cr : Nat) (rs : List Rc) (hrl : rs.length = nr) (hrs : ∀ r ∈ rs, okRc r) (hcr : nr ≤ cr) (ar2 : Option Addr) (nr2 cr2 : Nat) (ks : List Rc) (hkl : ks.length = nr2) (hks : ∀ r ∈ ks, okRc r) (hcr2 : nr2 ≤ cr2) (hm : mayAllB rs = true) (hmk : mayAllB ks = false) (w : World) (hv : View w da0 (df.map vu8)) (hvr : View w ar (rcsC rs)) (hvk : View w ar2 (rcsC ks)) :
  Cs Try.prog 4 [(.slice da0 n cap0), (.slice ar nr cr), (.slice ar2 nr2 cr2)].toArray w (fun v w1 => v = (.bool true) ∧ Chg w w1 []) := by
 refine Cs.of (n := 62) (args := [(.slice da0 n cap0), (.slice ar nr cr), (.slice ar2 nr2 cr2)]) Try.func4 rfl rfl rfl ?_
 have h_0 := HP.init w
 have h_01 := h_0.oldV (View.arg hv) rfl (by simp [Ent.mut])
 have h_02 := h_01.oldV (View.arg hvr) rfl (by simp [Ent.mut])
 have h_00 := h_02.oldV (View.arg hvk) rfl (by simp [Ent.mut])
 refine WP.seq (WP.reg ?_)
 refine qA (.bool false) rfl rfl ?_
 refine WL.nil (thn_n (WP.seq (WP.seq (WP.reg ?_))))
 refine WL.call Try.call15 rfl rfl (c_known12g  _ ) rfl ?_
 rintro _ w_2 ⟨rfl, hc_1⟩
 have h_3 := h_00.same hc_1
 refine qV rfl (R.not (b := true) rfl) ?_
 refine WL.nil (thn_n ?_)
 refine WP.condF rfl ?_
 refine WP.skip (thn_n (WP.seq (WP.seq (WP.reg ?_))))
 refine qM (.slice da0 n cap0) rfl rfl (qV rfl (R.lenS (a := da0) (m := n) rfl rfl underlying24) (qV rfl (R.bin rfl rfl (bi_gtr (r := decide ((((n : Nat) : Int) : Int) > 60)) rfl)) (qM (.bool (decide ((((n : Nat) : Int) : Int) > 60))) rfl rfl ?_)))
 rcases Bool.eq_false_or_eq_true (decide ((((n : Nat) : Int) : Int) > 60)) with c_4 | c_4
 ·have p_5 := of_decide_eq_true c_4
  refine WL.skip rfl (congrArg Value.bool c_4) rfl ?_
  refine WL.skip rfl (congrArg Value.bool c_4) rfl ?_
  refine WL.skip rfl (congrArg Value.bool c_4) rfl ?_
  refine qV rfl (R.pickT (v := (.bool true)) (congrArg Value.bool c_4) rfl) (qM (.bool true) rfl rfl ?_)
  refine WL.skip rfl rfl rfl ?_
  refine WL.skip rfl rfl rfl ?_
  refine WL.skip rfl rfl rfl ?_
  refine qV rfl (R.pickT (v := (.bool true)) rfl rfl) (qM (.bool true) rfl rfl ?_)
  refine WL.skip rfl rfl rfl ?_
  refine WL.skip rfl rfl rfl ?_
  refine WL.skip rfl rfl rfl ?_
  refine qV rfl (R.pickT (v := (.bool true)) rfl rfl) ?_
  refine WL.nil (thn_n ?_)
  refine WP.condT rfl ?_
  refine WP.seq (WP.reg ?_)
  refine qA (.bool true) rfl rfl ?_
  refine WL.nil (thn_n (WP.ret (thn_r ?_)))
  refine ret_of results4 (RV.tmp (v := (.bool true)) rfl RV.nil) ?_
  exact ⟨rfl, h_3.chgS⟩
 ·have p_6 := of_decide_eq_false c_4
  refine WL.want rfl (congrArg Value.bool c_4) ?_
  refine qM (.slice ar nr cr) rfl rfl ?_
  refine WL.want rfl (congrArg Value.bool c_4) ?_
  refine qV rfl (R.lenS (a := ar) (m := nr) rfl rfl underlying45) ?_
  refine WL.want rfl (congrArg Value.bool c_4) ?_
  refine qV rfl (R.bin rfl rfl (bi_gtr (r := decide ((((nr : Nat) : Int) : Int) > 30)) rfl)) (qV rfl (R.pickF (v := (.bool (decide ((((nr : Nat) : Int) : Int) > 30)))) (congrArg Value.bool c_4) rfl) (qM (.bool (decide ((((nr : Nat) : Int) : Int) > 30))) rfl rfl ?_))
  rcases Bool.eq_false_or_eq_true (decide ((((nr : Nat) : Int) : Int) > 30)) with c_7 | c_7
  ·have p_8 := of_decide_eq_true c_7
   refine WL.skip rfl (congrArg Value.bool c_7) rfl ?_
   refine WL.skip rfl (congrArg Value.bool c_7) rfl ?_
   refine WL.skip rfl (congrArg Value.bool c_7) rfl ?_
   refine qV rfl (R.pickT (v := (.bool true)) (congrArg Value.bool c_7) rfl) (qM (.bool true) rfl rfl ?_)
   refine WL.skip rfl rfl rfl ?_
   refine WL.skip rfl rfl rfl ?_
   refine WL.skip rfl rfl rfl ?_
   refine qV rfl (R.pickT (v := (.bool true)) rfl rfl) ?_
   refine WL.nil (thn_n ?_)
   refine WP.condT rfl ?_
   refine WP.seq (WP.reg ?_)
   refine qA (.bool true) rfl rfl ?_
   refine WL.nil (thn_n (WP.ret (thn_r ?_)))
   refine ret_of results4 (RV.tmp (v := (.bool true)) rfl RV.nil) ?_
   exact ⟨rfl, h_3.chgS⟩
  ·have p_9 := of_decide_eq_false c_7
   refine WL.want rfl (congrArg Value.bool c_7) ?_
   refine qM (.slice ar2 nr2 cr2) rfl rfl ?_
   refine WL.want rfl (congrArg Value.bool c_7) ?_
   refine qV rfl (R.lenS (a := ar2) (m := nr2) rfl rfl underlying45) ?_
   refine WL.want rfl (congrArg Value.bool c_7) ?_
   refine qV rfl (R.bin rfl rfl (bi_gtr (r := decide ((((nr2 : Nat) : Int) : Int) > 30)) rfl)) (qV rfl (R.pickF (v := (.bool (decide ((((nr2 : Nat) : Int) : Int) > 30)))) (congrArg Value.bool c_7) rfl) (qM (.bool (decide ((((nr2 : Nat) : Int) : Int) > 30))) rfl rfl ?_))
   rcases Bool.eq_false_or_eq_true (decide ((((nr2 : Nat) : Int) : Int) > 30)) with c_10 | c_10
   ·have p_11 := of_decide_eq_true c_10
    refine WL.skip rfl (congrArg Value.bool c_10) rfl ?_
    refine WL.skip rfl (congrArg Value.bool c_10) rfl ?_
    refine WL.skip rfl (congrArg Value.bool c_10) rfl ?_
    refine qV rfl (R.pickT (v := (.bool true)) (congrArg Value.bool c_10) rfl) ?_
    refine WL.nil (thn_n ?_)
    refine WP.condT rfl ?_
    refine WP.seq (WP.reg ?_)
    refine qA (.bool true) rfl rfl ?_
    refine WL.nil (thn_n (WP.ret (thn_r ?_)))
    refine ret_of results4 (RV.tmp (v := (.bool true)) rfl RV.nil) ?_
    exact ⟨rfl, h_3.chgS⟩
   ·have p_12 := of_decide_eq_false c_10
    refine WL.want rfl (congrArg Value.bool c_10) ?_
    refine qM (.slice da0 n cap0) rfl rfl ?_
    refine WL.want rfl (congrArg Value.bool c_10) ?_
    refine WL.call Try.call16 rfl rfl (c_distinct12 da0 n cap0 df hl (by omega) _ (viewV (h_3.ok _ M2))) rfl ?_
    rintro _ w_16 ⟨bd_13, rfl, hd_14, hc_15⟩
    have h_17 := h_3.same hc_15
    refine WL.want rfl (congrArg Value.bool c_10) ?_
    refine qV rfl (R.not (b := bd_13) rfl) (qV rfl (R.pickF (v := (.bool (!bd_13))) (congrArg Value.bool c_10) rfl) ?_)
    refine WL.nil (thn_n ?_)
    refine WP.cond (b := !bd_13) rfl (fun c_18 => ?_) (fun c_18 => ?_)
    ·refine WP.seq (WP.reg ?_)
     refine qA (.bool true) rfl rfl ?_
     refine WL.nil (thn_n (WP.ret (thn_r ?_)))
     refine ret_of results4 (RV.tmp (v := (.bool true)) rfl RV.nil) ?_
     exact ⟨rfl, h_17.chgS⟩
    ·refine WP.skip (thn_n (WP.seq (WP.reg ?_)))
     refine qV rfl (R.buildA (vs := []) (cs := (zB 32).map vu8) underlying23 sizeOf5 (zv typeInfo23 rfl) rfl rfl) (qM (.slice da0 n cap0) rfl rfl ?_)
     have h_19 := h_17.up J2
     refine WL.call Try.call17 rfl rfl (c_ONew true (zB 32) df lr da0 n cap0 hl (by omega) _ h_19) rfl ?_
     rintro _ w_24 ⟨b_20, b_21, a_22, c_23, rfl, h_25⟩
     refine qA (pO b_20 0) rfl rfl ?_
     refine WL.nil (thn_n (WP.seq (WP.reg ?_)))
     refine qM (pO b_20 0) rfl rfl (qM (.slice ar nr cr) rfl rfl ?_)
     have h_31 := (((((h_25.up J7).up J5).up J5).up J5).up J5).up J5
     refine WL.call Try.call18 rfl rfl (c_ReplayA true b_20 b_21 (zB 32) df lr a_22 n c_23 0 hl none 0 [] ([] : Lg) (by first | decide | omega) (by first | decide | omega) ar nr cr rs hrl hrs (by omega) (by omega) hm _ h_31) rfl ?_
     rintro _ w_35 ⟨la_32, lc_33, lx_34, rfl, h_36⟩
     refine qM (.tuple [(.agg ⟨((rpS true df n 0 ([] : Lg) rs (nr - 1)).2.2).map vu8⟩), (vi 0)].toArray) rfl rfl (qV rfl (R.extract rfl rfl) (qV rfl (R.extract rfl rfl) ?_))
     refine WL.alloc (segs := [(32, (zB 32).map vu8)]) h_36 (zv typeInfo23 rfl) rfl (sC (s8 lr) sN) rfl (fun b_37 w_38 h_39 => ?_)
     refine WL.storeA [] [(32, (zB 32).map vu8)] [(32, ((rpS true df n 0 ([] : Lg) rs (nr - 1)).2.2).map vu8)] [] h_39 rfl rfl sizeOf23 At.h (by decide) rfl rfl rfl rfl rfl rfl (sC (s8 (rpS_len hl okN _)) sN) (fun w_40 h_41 => ?_)
     refine qA (vi 0) rfl rfl ?_
     refine WL.nil (thn_n (WP.seq ?_))
     have hsu : (rpS true df n 0 ([] : Lg) rs (nr - 1)).1 ≤ nr := Nat.le_trans (rpS_u _) (by have := (mayAll_P hm).1; show 0 + (nr - 1) + 1 ≤ nr; omega)
     have hsl : (rpS true df n 0 ([] : Lg) rs (nr - 1)).2.1.length ≤ nr := Nat.le_trans (rpS_l _) (by have := (mayAll_P hm).1; show 0 + (nr - 1) + 1 ≤ nr; omega)
     refine WP.reg ?_
     refine qM (pO b_20 0) rfl rfl (qM (.slice ar2 nr2 cr2) rfl rfl ?_)
     refine WL.call Try.call18 rfl rfl (c_ReplayNo true b_20 b_21 (zB 32) lr a_22 n c_23 ((rpS true df n 0 ([] : Lg) rs (nr - 1)).1) la_32 ((rpS true df n 0 ([] : Lg) rs (nr - 1)).2.1.length) lc_33 ar2 nr2 cr2 ks hkl hks (by omega) hmk _ (h_41.argR M1) (viewV (h_41.ok _ M8))) rfl ?_
     rintro _ w_43 ⟨rfl, hc_42⟩
     have h_44 := h_41.same hc_42
     refine qM (.tuple [(.agg ⟨(zB 32).map vu8⟩), (vi 2)].toArray) rfl rfl (qV rfl (R.extract rfl rfl) (qV rfl (R.extract rfl rfl) ?_))
     refine WL.alloc (segs := [(32, (zB 32).map vu8)]) h_44 (zv typeInfo23 rfl) rfl (sC (s8 lr) sN) rfl (fun b_45 w_46 h_47 => ?_)
     refine WL.storeA [] [(32, (zB 32).map vu8)] [(32, (zB 32).map vu8)] [] h_47 rfl rfl sizeOf23 At.h (by decide) rfl rfl rfl rfl rfl rfl (sC (s8 lr) sN) (fun w_48 h_49 => ?_)
     refine qA (vi 2) rfl rfl ?_
     refine WL.nil (thn_n (WP.seq ?_))
     refine WP.drawT (SL w.heap.size [.blk b_45 .nw 23 [(32, (zB 32).map vu8)], .blk b_37 .nw 23 [(32, ((rpS true df n 0 ([] : Lg) rs (nr - 1)).2.2).map vu8)], .blk b_20 .nw 90 [(1, [(.bool true)]), (32, (zB 32).map vu8), (1, [(.slice a_22 n c_23)]), (1, [(vn ((rpS true df n 0 ([] : Lg) rs (nr - 1)).1))]), (1, [(.map (some b_21))]), (1, [(.slice la_32 ((rpS true df n 0 ([] : Lg) rs (nr - 1)).2.1.length) lc_33)])], .row la_32 ((rpS true df n 0 ([] : Lg) rs (nr - 1)).2.1.length) lc_33 64 67 lx_34, .obj b_21 .nw (.map (mArr ((rpS true df n 0 ([] : Lg) rs (nr - 1)).2.1)) ((rpS true df n 0 ([] : Lg) rs (nr - 1)).2.1.length)), .pin (sblks lx_34) (fun w => Lgs w lx_34 ((rpS true df n 0 ([] : Lg) rs (nr - 1)).2.1)), .view a_22 (df.map vu8), .view ar (rcsC rs), .view da0 (df.map vu8), .view ar2 (rcsC ks)]) (.q 0 (.q 2 (.s 1 (.s 3 (.q 4 (.q 5 (.q 6 (.q 7 (.q 8 (.q 9 (.q 10 (.q 11 (.s 12 (.q 13 (.q 14 (.q 15 .nil)))))))))))))))) (by kernel_rfl) (by kernel_rfl) rfl (by kernel_rfl) (fun w_50 hc_52 => (SL.cons ((h_49.same hc_52).ok _ M0) (SL.cons ((h_49.same hc_52).ok _ M1) (SL.cons ((h_49.same hc_52).ok _ M2) (SL.cons ((h_49.same hc_52).ok _ M3) (SL.cons ((h_49.same hc_52).ok _ M4) (SL.cons ((h_49.same hc_52).ok _ M5) (SL.cons ((h_49.same hc_52).ok _ M6) (SL.cons ((h_49.same hc_52).ok _ M7) (SL.cons ((h_49.same hc_52).ok _ M8) (SL.cons ((h_49.same hc_52).ok _ M9) (SL.nil _ _)))))))))))) (fun w_50 hc_52 => ?_)
     have h_51 := h_49.same hc_52
     refine qT rfl rfl (fun wq hS => R.move (v := (vi 0)) rfl) ?_
     refine qT rfl rfl (fun wq hS => R.move (v := (vi 2)) rfl) ?_
     refine WT.s (oN rfl ?_)
     refine WL.call Try.call19 rfl rfl (c_num12 0 (by omega) _ ) rfl ?_
     rintro _ w_54 ⟨rfl, hc_53⟩
     have h_55 := h_51.same hc_53
     refine WL.nil ?_
     refine ⟨(N0_1_2_3_4_5_6_7_8_9 h_55.ok), ?_⟩
     refine WT.s (oN rfl ?_)
     refine WL.call Try.call19 rfl rfl (c_num12 2 (by omega) _ ) rfl ?_
     rintro _ w_57 ⟨rfl, hc_56⟩
     have h_58 := h_55.same hc_56
     refine WL.nil ?_
     refine ⟨(N0_1_2_3_4_5_6_7_8_9 h_58.ok), ?_⟩
     refine qT rfl rfl (fun wq hS => R.bin rfl rfl (bi_add (c := 2) (by omega) (by omega))) ?_
     refine qT rfl rfl (fun wq hS => R.bin rfl rfl (bi_neq (r := true) (by decide))) ?_
     refine qT rfl rfl (fun wq hS => R.move (v := (.bool true)) rfl) ?_
     refine WT.skipQ rfl rfl rfl (boolNe (v := .bool true) rfl (by decide)) rfl rfl ?_
     refine WT.skipQ rfl rfl rfl (boolNe (v := .bool true) rfl (by decide)) rfl rfl ?_
     refine WT.skipQ rfl rfl rfl (boolNe (v := .bool true) rfl (by decide)) rfl rfl ?_
     refine WT.skipQ rfl rfl rfl (boolNe (v := .bool true) rfl (by decide)) rfl rfl ?_
     refine WT.skipQ rfl rfl rfl (boolNe (v := .bool true) rfl (by decide)) rfl rfl ?_
     refine WT.s ?_
     refine Op1.skip rfl rfl rfl (boolNe (v := .bool true) rfl (by decide)) rfl rfl ?_
     refine WT.skipQ rfl rfl rfl (boolNe (v := .bool true) rfl (by decide)) rfl rfl ?_
     refine qT rfl rfl (fun wq hS => R.pickT (v := (.bool true)) rfl rfl) ?_
     refine qT rfl rfl (fun wq hS => R.assign (v := (.bool true)) rfl) ?_
     refine WT.nil (thn_n (WP.ret ?_))
     refine ret_of results4 (RV.tmp (v := (.bool true)) rfl RV.nil) ?_
     exact ⟨rfl, h_58.chgS⟩

theorem w_MAp_ft (df : List UInt8) (da0 : Option Addr) (n cap0 : Nat) (hl : df.length = 32 * n) (ar : Option Addr) (nr cr : Nat) (rs : List Rc) (hrl : rs.length = nr) (hrs : ∀ r ∈ rs, okRc r) (hcr : nr ≤ cr) (ar2 : Option Addr) (nr2 cr2 : Nat) (ks : List Rc) (hkl : ks.length = nr2) (hks : ∀ r ∈ ks, okRc r) (hcr2 : nr2 ≤ cr2) (hm : mayAllB rs = false) (hmk : mayAllB ks = true) (w : World) (hv : View w da0 (df.map vu8)) (hvr : View w ar (rcsC rs)) (hvk : View w ar2 (rcsC ks)) :
  Cs Try.prog 4 [(.slice da0 n cap0), (.slice ar nr cr), (.slice ar2 nr2 cr2)].toArray w (fun v w1 => v = (.bool true) ∧ Chg w w1 []) := by
 refine Cs.of (n := 62) (args := [(.slice da0 n cap0), (.slice ar nr cr), (.slice ar2 nr2 cr2)]) Try.func4 rfl rfl rfl ?_
 have h_0 := HP.init w
 have h_01 := h_0.oldV (View.arg hv) rfl (by simp [Ent.mut])
 have h_02 := h_01.oldV (View.arg hvr) rfl (by simp [Ent.mut])
 have h_00 := h_02.oldV (View.arg hvk) rfl (by simp [Ent.mut])
 refine WP.seq (WP.reg ?_)
 refine qA (.bool false) rfl rfl ?_
 refine WL.nil (thn_n (WP.seq (WP.seq (WP.reg ?_))))
 refine WL.call Try.call15 rfl rfl (c_known12g  _ ) rfl ?_
 rintro _ w_2 ⟨rfl, hc_1⟩
 have h_3 := h_00.same hc_1
 refine qV rfl (R.not (b := true) rfl) ?_
 refine WL.nil (thn_n ?_)
 refine WP.condF rfl ?_
 refine WP.skip (thn_n (WP.seq (WP.seq (WP.reg ?_))))
 refine qM (.slice da0 n cap0) rfl rfl (qV rfl (R.lenS (a := da0) (m := n) rfl rfl underlying24) (qV rfl (R.bin rfl rfl (bi_gtr (r := decide ((((n : Nat) : Int) : Int) > 60)) rfl)) (qM (.bool (decide ((((n : Nat) : Int) : Int) > 60))) rfl rfl ?_)))
 rcases Bool.eq_false_or_eq_true (decide ((((n : Nat) : Int) : Int) > 60)) with c_4 | c_4
 ·have p_5 := of_decide_eq_true c_4
  refine WL.skip rfl (congrArg Value.bool c_4) rfl ?_
  refine WL.skip rfl (congrArg Value.bool c_4) rfl ?_
  refine WL.skip rfl (congrArg Value.bool c_4) rfl ?_
  refine qV rfl (R.pickT (v := (.bool true)) (congrArg Value.bool c_4) rfl) (qM (.bool true) rfl rfl ?_)
  refine WL.skip rfl rfl rfl ?_
  refine WL.skip rfl rfl rfl ?_
  refine WL.skip rfl rfl rfl ?_
  refine qV rfl (R.pickT (v := (.bool true)) rfl rfl) (qM (.bool true) rfl rfl ?_)
  refine WL.skip rfl rfl rfl ?_
  refine WL.skip rfl rfl rfl ?_
  refine WL.skip rfl rfl rfl ?_
  refine qV rfl (R.pickT (v := (.bool true)) rfl rfl) ?_
  refine WL.nil (thn_n ?_)
  refine WP.condT rfl ?_
  refine WP.seq (WP.reg ?_)
  refine qA (.bool true) rfl rfl ?_
  refine WL.nil (thn_n (WP.ret (thn_r ?_)))
  refine ret_of results4 (RV.tmp (v := (.bool true)) rfl RV.nil) ?_
  exact ⟨rfl, h_3.chgS⟩
 ·have p_6 := of_decide_eq_false c_4
  refine WL.want rfl (congrArg Value.bool c_4) ?_
  refine qM (.slice ar nr cr) rfl rfl ?_
  refine WL.want rfl (congrArg Value.bool c_4) ?_
  refine qV rfl (R.lenS (a := ar) (m := nr) rfl rfl underlying45) ?_
  refine WL.want rfl (congrArg Value.bool c_4) ?_
  refine qV rfl (R.bin rfl rfl (bi_gtr (r := decide ((((nr : Nat) : Int) : Int) > 30)) rfl)) (qV rfl (R.pickF (v := (.bool (decide ((((nr : Nat) : Int) : Int) > 30)))) (congrArg Value.bool c_4) rfl) (qM (.bool (decide ((((nr : Nat) : Int) : Int) > 30))) rfl rfl ?_))
  rcases Bool.eq_false_or_eq_true (decide ((((nr : Nat) : Int) : Int) > 30)) with c_7 | c_7
  ·have p_8 := of_decide_eq_true c_7
   refine WL.skip rfl (congrArg Value.bool c_7) rfl ?_
   refine WL.skip rfl (congrArg Value.bool c_7) rfl ?_
   refine WL.skip rfl (congrArg Value.bool c_7) rfl ?_
   refine qV rfl (R.pickT (v := (.bool true)) (congrArg Value.bool c_7) rfl) (qM (.bool true) rfl rfl ?_)
   refine WL.skip rfl rfl rfl ?_
   refine WL.skip rfl rfl rfl ?_
   refine WL.skip rfl rfl rfl ?_
   refine qV rfl (R.pickT (v := (.bool true)) rfl rfl) ?_
   refine WL.nil (thn_n ?_)
   refine WP.condT rfl ?_
   refine WP.seq (WP.reg ?_)
   refine qA (.bool true) rfl rfl ?_
   refine WL.nil (thn_n (WP.ret (thn_r ?_)))
   refine ret_of results4 (RV.tmp (v := (.bool true)) rfl RV.nil) ?_
   exact ⟨rfl, h_3.chgS⟩
  ·have p_9 := of_decide_eq_false c_7
   refine WL.want rfl (congrArg Value.bool c_7) ?_
   refine qM (.slice ar2 nr2 cr2) rfl rfl ?_
   refine WL.want rfl (congrArg Value.bool c_7) ?_
   refine qV rfl (R.lenS (a := ar2) (m := nr2) rfl rfl underlying45) ?_
   refine WL.want rfl (congrArg Value.bool c_7) ?_
   refine qV rfl (R.bin rfl rfl (bi_gtr (r := decide ((((nr2 : Nat) : Int) : Int) > 30)) rfl)) (qV rfl (R.pickF (v := (.bool (decide ((((nr2 : Nat) : Int) : Int) > 30)))) (congrArg Value.bool c_7) rfl) (qM (.bool (decide ((((nr2 : Nat) : Int) : Int) > 30))) rfl rfl ?_))
   rcases Bool.eq_false_or_eq_true (decide ((((nr2 : Nat) : Int) : Int) > 30)) with c_10 | c_10
   ·have p_11 := of_decide_eq_true c_10
    refine WL.skip rfl (congrArg Value.bool c_10) rfl ?_
    refine WL.skip rfl (congrArg Value.bool c_10) rfl ?_
    refine WL.skip rfl (congrArg Value.bool c_10) rfl ?_
    refine qV rfl (R.pickT (v := (.bool true)) (congrArg Value.bool c_10) rfl) ?_
    refine WL.nil (thn_n ?_)
    refine WP.condT rfl ?_
    refine WP.seq (WP.reg ?_)
    refine qA (.bool true) rfl rfl ?_
    refine WL.nil (thn_n (WP.ret (thn_r ?_)))
    refine ret_of results4 (RV.tmp (v := (.bool true)) rfl RV.nil) ?_
    exact ⟨rfl, h_3.chgS⟩
   ·have p_12 := of_decide_eq_false c_10
    refine WL.want rfl (congrArg Value.bool c_10) ?_
    refine qM (.slice da0 n cap0) rfl rfl ?_
    refine WL.want rfl (congrArg Value.bool c_10) ?_
    refine WL.call Try.call16 rfl rfl (c_distinct12 da0 n cap0 df hl (by omega) _ (viewV (h_3.ok _ M2))) rfl ?_
    rintro _ w_16 ⟨bd_13, rfl, hd_14, hc_15⟩
    have h_17 := h_3.same hc_15
    refine WL.want rfl (congrArg Value.bool c_10) ?_
    refine qV rfl (R.not (b := bd_13) rfl) (qV rfl (R.pickF (v := (.bool (!bd_13))) (congrArg Value.bool c_10) rfl) ?_)
    refine WL.nil (thn_n ?_)
    refine WP.cond (b := !bd_13) rfl (fun c_18 => ?_) (fun c_18 => ?_)
    ·refine WP.seq (WP.reg ?_)
     refine qA (.bool true) rfl rfl ?_
     refine WL.nil (thn_n (WP.ret (thn_r ?_)))
     refine ret_of results4 (RV.tmp (v := (.bool true)) rfl RV.nil) ?_
     exact ⟨rfl, h_17.chgS⟩
    ·refine WP.skip (thn_n (WP.seq (WP.reg ?_)))
     refine qV rfl (R.buildA (vs := []) (cs := (zB 32).map vu8) underlying23 sizeOf5 (zv typeInfo23 rfl) rfl rfl) (qM (.slice da0 n cap0) rfl rfl ?_)
     have h_19 := h_17.up J2
     refine WL.call Try.call17 rfl rfl (c_ONew true (zB 32) df lr da0 n cap0 hl (by omega) _ h_19) rfl ?_
     rintro _ w_24 ⟨b_20, b_21, a_22, c_23, rfl, h_25⟩
     refine qA (pO b_20 0) rfl rfl ?_
     refine WL.nil (thn_n (WP.seq (WP.reg ?_)))
     refine qM (pO b_20 0) rfl rfl (qM (.slice ar nr cr) rfl rfl ?_)
     refine WL.call Try.call18 rfl rfl (c_ReplayNo true b_20 b_21 (zB 32) lr a_22 n c_23 0 none 0 0 ar nr cr rs hrl hrs (by omega) hm _ (h_25.argR M0) (viewV (h_25.ok _ M7))) rfl ?_
     rintro _ w_27 ⟨rfl, hc_26⟩
     have h_28 := h_25.same hc_26
     refine qM (.tuple [(.agg ⟨(zB 32).map vu8⟩), (vi 2)].toArray) rfl rfl (qV rfl (R.extract rfl rfl) (qV rfl (R.extract rfl rfl) ?_))
     refine WL.alloc (segs := [(32, (zB 32).map vu8)]) h_28 (zv typeInfo23 rfl) rfl (sC (s8 lr) sN) rfl (fun b_29 w_30 h_31 => ?_)
     refine WL.storeA [] [(32, (zB 32).map vu8)] [(32, (zB 32).map vu8)] [] h_31 rfl rfl sizeOf23 At.h (by decide) rfl rfl rfl rfl rfl rfl (sC (s8 lr) sN) (fun w_32 h_33 => ?_)
     refine qA (vi 2) rfl rfl ?_
     refine WL.nil (thn_n (WP.seq (WP.reg ?_)))
     refine qM (pO b_20 0) rfl rfl (qM (.slice ar2 nr2 cr2) rfl rfl ?_)
     have h_39 := (((((h_33.up J7).up J6).up J6).up J6).up J6).up J6
     refine WL.call Try.call18 rfl rfl (c_ReplayA true b_20 b_21 (zB 32) df lr a_22 n c_23 0 hl none 0 [] ([] : Lg) (by first | decide | omega) (by first | decide | omega) ar2 nr2 cr2 ks hkl hks (by omega) (by omega) hmk _ h_39) rfl ?_
     rintro _ w_43 ⟨la_40, lc_41, lx_42, rfl, h_44⟩
     refine qM (.tuple [(.agg ⟨((rpS true df n 0 ([] : Lg) ks (nr2 - 1)).2.2).map vu8⟩), (vi 0)].toArray) rfl rfl (qV rfl (R.extract rfl rfl) (qV rfl (R.extract rfl rfl) ?_))
     refine WL.alloc (segs := [(32, (zB 32).map vu8)]) h_44 (zv typeInfo23 rfl) rfl (sC (s8 lr) sN) rfl (fun b_45 w_46 h_47 => ?_)
     refine WL.storeA [] [(32, (zB 32).map vu8)] [(32, ((rpS true df n 0 ([] : Lg) ks (nr2 - 1)).2.2).map vu8)] [] h_47 rfl rfl sizeOf23 At.h (by decide) rfl rfl rfl rfl rfl rfl (sC (s8 (rpS_len hl okN _)) sN) (fun w_48 h_49 => ?_)
     refine qA (vi 0) rfl rfl ?_
     refine WL.nil (thn_n (WP.seq ?_))
     refine WP.drawT (SL w.heap.size [.blk b_45 .nw 23 [(32, ((rpS true df n 0 ([] : Lg) ks (nr2 - 1)).2.2).map vu8)], .blk b_20 .nw 90 [(1, [(.bool true)]), (32, (zB 32).map vu8), (1, [(.slice a_22 n c_23)]), (1, [(vn ((rpS true df n 0 ([] : Lg) ks (nr2 - 1)).1))]), (1, [(.map (some b_21))]), (1, [(.slice la_40 ((rpS true df n 0 ([] : Lg) ks (nr2 - 1)).2.1.length) lc_41)])], .row la_40 ((rpS true df n 0 ([] : Lg) ks (nr2 - 1)).2.1.length) lc_41 64 67 lx_42, .obj b_21 .nw (.map (mArr ((rpS true df n 0 ([] : Lg) ks (nr2 - 1)).2.1)) ((rpS true df n 0 ([] : Lg) ks (nr2 - 1)).2.1.length)), .pin (sblks lx_42) (fun w => Lgs w lx_42 ((rpS true df n 0 ([] : Lg) ks (nr2 - 1)).2.1)), .view a_22 (df.map vu8), .view ar2 (rcsC ks), .blk b_29 .nw 23 [(32, (zB 32).map vu8)], .view da0 (df.map vu8), .view ar (rcsC rs)]) (.q 0 (.q 2 (.s 1 (.s 3 (.q 4 (.q 5 (.q 6 (.q 7 (.q 8 (.q 9 (.q 10 (.q 11 (.s 12 (.q 13 (.q 14 (.q 15 .nil)))))))))))))))) (by kernel_rfl) (by kernel_rfl) rfl (by kernel_rfl) (fun w_50 hc_52 => (SL.cons ((h_49.same hc_52).ok _ M0) (SL.cons ((h_49.same hc_52).ok _ M1) (SL.cons ((h_49.same hc_52).ok _ M2) (SL.cons ((h_49.same hc_52).ok _ M3) (SL.cons ((h_49.same hc_52).ok _ M4) (SL.cons ((h_49.same hc_52).ok _ M5) (SL.cons ((h_49.same hc_52).ok _ M6) (SL.cons ((h_49.same hc_52).ok _ M7) (SL.cons ((h_49.same hc_52).ok _ M8) (SL.cons ((h_49.same hc_52).ok _ M9) (SL.nil _ _)))))))))))) (fun w_50 hc_52 => ?_)
     have h_51 := h_49.same hc_52
     refine qT rfl rfl (fun wq hS => R.move (v := (vi 2)) rfl) ?_
     refine qT rfl rfl (fun wq hS => R.move (v := (vi 0)) rfl) ?_
     refine WT.s (oN rfl ?_)
     refine WL.call Try.call19 rfl rfl (c_num12 2 (by omega) _ ) rfl ?_
     rintro _ w_54 ⟨rfl, hc_53⟩
     have h_55 := h_51.same hc_53
     refine WL.nil ?_
     refine ⟨(N0_1_2_3_4_5_6_7_8_9 h_55.ok), ?_⟩
     refine WT.s (oN rfl ?_)
     refine WL.call Try.call19 rfl rfl (c_num12 0 (by omega) _ ) rfl ?_
     rintro _ w_57 ⟨rfl, hc_56⟩
     have h_58 := h_55.same hc_56
     refine WL.nil ?_
     refine ⟨(N0_1_2_3_4_5_6_7_8_9 h_58.ok), ?_⟩
     refine qT rfl rfl (fun wq hS => R.bin rfl rfl (bi_add (c := 2) (by omega) (by omega))) ?_
     refine qT rfl rfl (fun wq hS => R.bin rfl rfl (bi_neq (r := true) (by decide))) ?_
     refine qT rfl rfl (fun wq hS => R.move (v := (.bool true)) rfl) ?_
     refine WT.skipQ rfl rfl rfl (boolNe (v := .bool true) rfl (by decide)) rfl rfl ?_
     refine WT.skipQ rfl rfl rfl (boolNe (v := .bool true) rfl (by decide)) rfl rfl ?_
     refine WT.skipQ rfl rfl rfl (boolNe (v := .bool true) rfl (by decide)) rfl rfl ?_
     refine WT.skipQ rfl rfl rfl (boolNe (v := .bool true) rfl (by decide)) rfl rfl ?_
     refine WT.skipQ rfl rfl rfl (boolNe (v := .bool true) rfl (by decide)) rfl rfl ?_
     refine WT.s ?_
     refine Op1.skip rfl rfl rfl (boolNe (v := .bool true) rfl (by decide)) rfl rfl ?_
     refine WT.skipQ rfl rfl rfl (boolNe (v := .bool true) rfl (by decide)) rfl rfl ?_
     refine qT rfl rfl (fun wq hS => R.pickT (v := (.bool true)) rfl rfl) ?_
     refine qT rfl rfl (fun wq hS => R.assign (v := (.bool true)) rfl) ?_
     refine WT.nil (thn_n (WP.ret ?_))
     refine ret_of results4 (RV.tmp (v := (.bool true)) rfl RV.nil) ?_
     exact ⟨rfl, h_58.chgS⟩

theorem w_MAp_ff (df : List UInt8) (da0 : Option Addr) (n cap0 : Nat) (hl : df.length = 32 * n) (ar : Option Addr) (nr cr : Nat) (rs : List Rc) (hrl : rs.length = nr) (hrs : ∀ r ∈ rs, okRc r) (hcr : nr ≤ cr) (ar2 : Option Addr) (nr2 cr2 : Nat) (ks : List Rc) (hkl : ks.length = nr2) (hks : ∀ r ∈ ks, okRc r) (hcr2 : nr2 ≤ cr2) (hm : mayAllB rs = false) (hmk : mayAllB ks = false) (w : World) (hv : View w da0 (df.map vu8)) (hvr : View w ar (rcsC rs)) (hvk : View w ar2 (rcsC ks)) :
  Cs Try.prog 4 [(.slice da0 n cap0), (.slice ar nr cr), (.slice ar2 nr2 cr2)].toArray w (fun v w1 => v = (.bool true) ∧ Chg w w1 []) := by
 refine Cs.of (n := 62) (args := [(.slice da0 n cap0), (.slice ar nr cr), (.slice ar2 nr2 cr2)]) Try.func4 rfl rfl rfl ?_
 have h_0 := HP.init w
 have h_01 := h_0.oldV (View.arg hv) rfl (by simp [Ent.mut])
 have h_02 := h_01.oldV (View.arg hvr) rfl (by simp [Ent.mut])
 have h_00 := h_02.oldV (View.arg hvk) rfl (by simp [Ent.mut])
 refine WP.seq (WP.reg ?_)
 refine qA (.bool false) rfl rfl ?_
 refine WL.nil (thn_n (WP.seq (WP.seq (WP.reg ?_))))
 refine WL.call Try.call15 rfl rfl (c_known12g  _ ) rfl ?_
 rintro _ w_2 ⟨rfl, hc_1⟩
 have h_3 := h_00.same hc_1
 refine qV rfl (R.not (b := true) rfl) ?_
 refine WL.nil (thn_n ?_)
 refine WP.condF rfl ?_
 refine WP.skip (thn_n (WP.seq (WP.seq (WP.reg ?_))))
 refine qM (.slice da0 n cap0) rfl rfl (qV rfl (R.lenS (a := da0) (m := n) rfl rfl underlying24) (qV rfl (R.bin rfl rfl (bi_gtr (r := decide ((((n : Nat) : Int) : Int) > 60)) rfl)) (qM (.bool (decide ((((n : Nat) : Int) : Int) > 60))) rfl rfl ?_)))
 rcases Bool.eq_false_or_eq_true (decide ((((n : Nat) : Int) : Int) > 60)) with c_4 | c_4
 ·have p_5 := of_decide_eq_true c_4
  refine WL.skip rfl (congrArg Value.bool c_4) rfl ?_
  refine WL.skip rfl (congrArg Value.bool c_4) rfl ?_
  refine WL.skip rfl (congrArg Value.bool c_4) rfl ?_
  refine qV rfl (R.pickT (v := (.bool true)) (congrArg Value.bool c_4) rfl) (qM (.bool true) rfl rfl ?_)
  refine WL.skip rfl rfl rfl ?_
  refine WL.skip rfl rfl rfl ?_
  refine WL.skip rfl rfl rfl ?_
  refine qV rfl (R.pickT (v := (.bool true)) rfl rfl) (qM (.bool true) rfl rfl ?_)
  refine WL.skip rfl rfl rfl ?_
  refine WL.skip rfl rfl rfl ?_
  refine WL.skip rfl rfl rfl ?_
  refine qV rfl (R.pickT (v := (.bool true)) rfl rfl) ?_
  refine WL.nil (thn_n ?_)
  refine WP.condT rfl ?_
  refine WP.seq (WP.reg ?_)
  refine qA (.bool true) rfl rfl ?_
  refine WL.nil (thn_n (WP.ret (thn_r ?_)))
  refine ret_of results4 (RV.tmp (v := (.bool true)) rfl RV.nil) ?_
  exact ⟨rfl, h_3.chgS⟩
 ·have p_6 := of_decide_eq_false c_4
  refine WL.want rfl (congrArg Value.bool c_4) ?_
  refine qM (.slice ar nr cr) rfl rfl ?_
  refine WL.want rfl (congrArg Value.bool c_4) ?_
  refine qV rfl (R.lenS (a := ar) (m := nr) rfl rfl underlying45) ?_
  refine WL.want rfl (congrArg Value.bool c_4) ?_
  refine qV rfl (R.bin rfl rfl (bi_gtr (r := decide ((((nr : Nat) : Int) : Int) > 30)) rfl)) (qV rfl (R.pickF (v := (.bool (decide ((((nr : Nat) : Int) : Int) > 30)))) (congrArg Value.bool c_4) rfl) (qM (.bool (decide ((((nr : Nat) : Int) : Int) > 30))) rfl rfl ?_))
  rcases Bool.eq_false_or_eq_true (decide ((((nr : Nat) : Int) : Int) > 30)) with c_7 | c_7
  ·have p_8 := of_decide_eq_true c_7
   refine WL.skip rfl (congrArg Value.bool c_7) rfl ?_
   refine WL.skip rfl (congrArg Value.bool c_7) rfl ?_
   refine WL.skip rfl (congrArg Value.bool c_7) rfl ?_
   refine qV rfl (R.pickT (v := (.bool true)) (congrArg Value.bool c_7) rfl) (qM (.bool true) rfl rfl ?_)
   refine WL.skip rfl rfl rfl ?_
   refine WL.skip rfl rfl rfl ?_
   refine WL.skip rfl rfl rfl ?_
   refine qV rfl (R.pickT (v := (.bool true)) rfl rfl) ?_
   refine WL.nil (thn_n ?_)
   refine WP.condT rfl ?_
   refine WP.seq (WP.reg ?_)
   refine qA (.bool true) rfl rfl ?_
   refine WL.nil (thn_n (WP.ret (thn_r ?_)))
   refine ret_of results4 (RV.tmp (v := (.bool true)) rfl RV.nil) ?_
   exact ⟨rfl, h_3.chgS⟩
  ·have p_9 := of_decide_eq_false c_7
   refine WL.want rfl (congrArg Value.bool c_7) ?_
   refine qM (.slice ar2 nr2 cr2) rfl rfl ?_
   refine WL.want rfl (congrArg Value.bool c_7) ?_
   refine qV rfl (R.lenS (a := ar2) (m := nr2) rfl rfl underlying45) ?_
   refine WL.want rfl (congrArg Value.bool c_7) ?_
   refine qV rfl (R.bin rfl rfl (bi_gtr (r := decide ((((nr2 : Nat) : Int) : Int) > 30)) rfl)) (qV rfl (R.pickF (v := (.bool (decide ((((nr2 : Nat) : Int) : Int) > 30)))) (congrArg Value.bool c_7) rfl) (qM (.bool (decide ((((nr2 : Nat) : Int) : Int) > 30))) rfl rfl ?_))
   rcases Bool.eq_false_or_eq_true (decide ((((nr2 : Nat) : Int) : Int) > 30)) with c_10 | c_10
   ·have p_11 := of_decide_eq_true c_10
    refine WL.skip rfl (congrArg Value.bool c_10) rfl ?_
    refine WL.skip rfl (congrArg Value.bool c_10) rfl ?_
    refine WL.skip rfl (congrArg Value.bool c_10) rfl ?_
    refine qV rfl (R.pickT (v := (.bool true)) (congrArg Value.bool c_10) rfl) ?_
    refine WL.nil (thn_n ?_)
    refine WP.condT rfl ?_
    refine WP.seq (WP.reg ?_)
    refine qA (.bool true) rfl rfl ?_
    refine WL.nil (thn_n (WP.ret (thn_r ?_)))
    refine ret_of results4 (RV.tmp (v := (.bool true)) rfl RV.nil) ?_
    exact ⟨rfl, h_3.chgS⟩
   ·have p_12 := of_decide_eq_false c_10
    refine WL.want rfl (congrArg Value.bool c_10) ?_
    refine qM (.slice da0 n cap0) rfl rfl ?_
    refine WL.want rfl (congrArg Value.bool c_10) ?_
    refine WL.call Try.call16 rfl rfl (c_distinct12 da0 n cap0 df hl (by omega) _ (viewV (h_3.ok _ M2))) rfl ?_
    rintro _ w_16 ⟨bd_13, rfl, hd_14, hc_15⟩
    have h_17 := h_3.same hc_15
    refine WL.want rfl (congrArg Value.bool c_10) ?_
    refine qV rfl (R.not (b := bd_13) rfl) (qV rfl (R.pickF (v := (.bool (!bd_13))) (congrArg Value.bool c_10) rfl) ?_)
    refine WL.nil (thn_n ?_)
    refine WP.cond (b := !bd_13) rfl (fun c_18 => ?_) (fun c_18 => ?_)
    ·refine WP.seq (WP.reg ?_)
     refine qA (.bool true) rfl rfl ?_
     refine WL.nil (thn_n (WP.ret (thn_r ?_)))
     refine ret_of results4 (RV.tmp (v := (.bool true)) rfl RV.nil) ?_
     exact ⟨rfl, h_17.chgS⟩
    ·refine WP.skip (thn_n (WP.seq (WP.reg ?_)))
     refine qV rfl (R.buildA (vs := []) (cs := (zB 32).map vu8) underlying23 sizeOf5 (zv typeInfo23 rfl) rfl rfl) (qM (.slice da0 n cap0) rfl rfl ?_)
     have h_19 := h_17.up J2
     refine WL.call Try.call17 rfl rfl (c_ONew true (zB 32) df lr da0 n cap0 hl (by omega) _ h_19) rfl ?_
     rintro _ w_24 ⟨b_20, b_21, a_22, c_23, rfl, h_25⟩
     refine qA (pO b_20 0) rfl rfl ?_
     refine WL.nil (thn_n (WP.seq (WP.reg ?_)))
     refine qM (pO b_20 0) rfl rfl (qM (.slice ar nr cr) rfl rfl ?_)
     refine WL.call Try.call18 rfl rfl (c_ReplayNo true b_20 b_21 (zB 32) lr a_22 n c_23 0 none 0 0 ar nr cr rs hrl hrs (by omega) hm _ (h_25.argR M0) (viewV (h_25.ok _ M7))) rfl ?_
     rintro _ w_27 ⟨rfl, hc_26⟩
     have h_28 := h_25.same hc_26
     refine qM (.tuple [(.agg ⟨(zB 32).map vu8⟩), (vi 2)].toArray) rfl rfl (qV rfl (R.extract rfl rfl) (qV rfl (R.extract rfl rfl) ?_))
     refine WL.alloc (segs := [(32, (zB 32).map vu8)]) h_28 (zv typeInfo23 rfl) rfl (sC (s8 lr) sN) rfl (fun b_29 w_30 h_31 => ?_)
     refine WL.storeA [] [(32, (zB 32).map vu8)] [(32, (zB 32).map vu8)] [] h_31 rfl rfl sizeOf23 At.h (by decide) rfl rfl rfl rfl rfl rfl (sC (s8 lr) sN) (fun w_32 h_33 => ?_)
     refine qA (vi 2) rfl rfl ?_
     refine WL.nil (thn_n (WP.seq (WP.reg ?_)))
     refine qM (pO b_20 0) rfl rfl (qM (.slice ar2 nr2 cr2) rfl rfl ?_)
     refine WL.call Try.call18 rfl rfl (c_ReplayNo true b_20 b_21 (zB 32) lr a_22 n c_23 0 none 0 0 ar2 nr2 cr2 ks hkl hks (by omega) hmk _ (h_33.argR M1) (viewV (h_33.ok _ M7))) rfl ?_
     rintro _ w_35 ⟨rfl, hc_34⟩
     have h_36 := h_33.same hc_34
     refine qM (.tuple [(.agg ⟨(zB 32).map vu8⟩), (vi 2)].toArray) rfl rfl (qV rfl (R.extract rfl rfl) (qV rfl (R.extract rfl rfl) ?_))
     refine WL.alloc (segs := [(32, (zB 32).map vu8)]) h_36 (zv typeInfo23 rfl) rfl (sC (s8 lr) sN) rfl (fun b_37 w_38 h_39 => ?_)
     refine WL.storeA [] [(32, (zB 32).map vu8)] [(32, (zB 32).map vu8)] [] h_39 rfl rfl sizeOf23 At.h (by decide) rfl rfl rfl rfl rfl rfl (sC (s8 lr) sN) (fun w_40 h_41 => ?_)
     refine qA (vi 2) rfl rfl ?_
     refine WL.nil (thn_n (WP.seq ?_))
     refine WP.drawT (SL w.heap.size [.blk b_37 .nw 23 [(32, (zB 32).map vu8)], .blk b_29 .nw 23 [(32, (zB 32).map vu8)], .blk b_20 .nw 90 [(1, [(.bool true)]), (32, (zB 32).map vu8), (1, [(.slice a_22 n c_23)]), (1, [(vi 0)]), (1, [(.map (some b_21))]), (1, [(.slice none 0 0)])], .row none 0 0 64 67 [], .obj b_21 .nw (.map (mArr ([] : Lg)) 0), .pin (sblks []) (fun w => Lgs w [] ([] : Lg)), .view a_22 (df.map vu8), .view da0 (df.map vu8), .view ar2 (rcsC ks), .view ar (rcsC rs)]) (.q 0 (.q 2 (.s 1 (.s 3 (.q 4 (.q 5 (.q 6 (.q 7 (.q 8 (.q 9 (.q 10 (.q 11 (.s 12 (.q 13 (.q 14 (.q 15 .nil)))))))))))))))) (by kernel_rfl) (by kernel_rfl) rfl (by kernel_rfl) (fun w_42 hc_44 => (SL.cons ((h_41.same hc_44).ok _ M0) (SL.cons ((h_41.same hc_44).ok _ M1) (SL.cons ((h_41.same hc_44).ok _ M2) (SL.cons ((h_41.same hc_44).ok _ M3) (SL.cons ((h_41.same hc_44).ok _ M4) (SL.cons ((h_41.same hc_44).ok _ M5) (SL.cons ((h_41.same hc_44).ok _ M6) (SL.cons ((h_41.same hc_44).ok _ M7) (SL.cons ((h_41.same hc_44).ok _ M8) (SL.cons ((h_41.same hc_44).ok _ M9) (SL.nil _ _)))))))))))) (fun w_42 hc_44 => ?_)
     have h_43 := h_41.same hc_44
     refine qT rfl rfl (fun wq hS => R.move (v := (vi 2)) rfl) ?_
     refine qT rfl rfl (fun wq hS => R.move (v := (vi 2)) rfl) ?_
     refine WT.s (oN rfl ?_)
     refine WL.call Try.call19 rfl rfl (c_num12 2 (by omega) _ ) rfl ?_
     rintro _ w_46 ⟨rfl, hc_45⟩
     have h_47 := h_43.same hc_45
     refine WL.nil ?_
     refine ⟨(N0_1_2_3_4_5_6_7_8_9 h_47.ok), ?_⟩
     refine WT.s (oN rfl ?_)
     refine WL.call Try.call19 rfl rfl (c_num12 2 (by omega) _ ) rfl ?_
     rintro _ w_49 ⟨rfl, hc_48⟩
     have h_50 := h_47.same hc_48
     refine WL.nil ?_
     refine ⟨(N0_1_2_3_4_5_6_7_8_9 h_50.ok), ?_⟩
     refine qT rfl rfl (fun wq hS => R.bin rfl rfl (bi_add (c := 4) (by omega) (by omega))) ?_
     refine qT rfl rfl (fun wq hS => R.bin rfl rfl (bi_neq (r := true) (by decide))) ?_
     refine qT rfl rfl (fun wq hS => R.move (v := (.bool true)) rfl) ?_
     refine WT.skipQ rfl rfl rfl (boolNe (v := .bool true) rfl (by decide)) rfl rfl ?_
     refine WT.skipQ rfl rfl rfl (boolNe (v := .bool true) rfl (by decide)) rfl rfl ?_
     refine WT.skipQ rfl rfl rfl (boolNe (v := .bool true) rfl (by decide)) rfl rfl ?_
     refine WT.skipQ rfl rfl rfl (boolNe (v := .bool true) rfl (by decide)) rfl rfl ?_
     refine WT.skipQ rfl rfl rfl (boolNe (v := .bool true) rfl (by decide)) rfl rfl ?_
     refine WT.s ?_
     refine Op1.skip rfl rfl rfl (boolNe (v := .bool true) rfl (by decide)) rfl rfl ?_
     refine WT.skipQ rfl rfl rfl (boolNe (v := .bool true) rfl (by decide)) rfl rfl ?_
     refine qT rfl rfl (fun wq hS => R.pickT (v := (.bool true)) rfl rfl) ?_
     refine qT rfl rfl (fun wq hS => R.assign (v := (.bool true)) rfl) ?_
     refine WT.nil (thn_n (WP.ret ?_))
     refine ret_of results4 (RV.tmp (v := (.bool true)) rfl RV.nil) ?_
     exact ⟨rfl, h_50.chgS⟩

theorem w_MeasureApart (df : List UInt8) (da0 : Option Addr) (n cap0 : Nat) (hl : df.length = 32 * n) (ar : Option Addr) (nr cr : Nat) (rs : List Rc) (hrl : rs.length = nr) (hrs : ∀ r ∈ rs, okRc r) (hcr : nr ≤ cr) (ar2 : Option Addr) (nr2 cr2 : Nat) (ks : List Rc) (hkl : ks.length = nr2) (hks : ∀ r ∈ ks, okRc r) (hcr2 : nr2 ≤ cr2) (w : World) (hv : View w da0 (df.map vu8)) (hvr : View w ar (rcsC rs)) (hvk : View w ar2 (rcsC ks)) : Cs Try.prog 4 [(.slice da0 n cap0), (.slice ar nr cr), (.slice ar2 nr2 cr2)].toArray w (fun v w1 => v = (.bool true) ∧ Chg w w1 []) := by
 rcases Bool.eq_false_or_eq_true (mayAllB rs) with hm | hm <;> rcases Bool.eq_false_or_eq_true (mayAllB ks) with hmk | hmk
 ·exact w_MAp_tt df da0 n cap0 hl ar nr cr rs hrl hrs hcr ar2 nr2 cr2 ks hkl hks hcr2 hm hmk w hv hvr hvk
 ·exact w_MAp_tf df da0 n cap0 hl ar nr cr rs hrl hrs hcr ar2 nr2 cr2 ks hkl hks hcr2 hm hmk w hv hvr hvk
 ·exact w_MAp_ft df da0 n cap0 hl ar nr cr rs hrl hrs hcr ar2 nr2 cr2 ks hkl hks hcr2 hm hmk w hv hvr hvk
 ·exact w_MAp_ff df da0 n cap0 hl ar nr cr rs hrl hrs hcr ar2 nr2 cr2 ks hkl hks hcr2 hm hmk w hv hvr hvk
namespace measureApartDone
open Go.ChangeShapes Go.WideShapes Go.ChangeAt
theorem own : ownKnob Try.prog.godebug = none := by kernel_rfl
theorem laidOut : laidOutB Try.prog = true := by kernel_rfl
set_option maxRecDepth 100000 in
theorem lifted (os : Os) (started : os.Started) (H : Type) (enc : TypeId × Value → H) :
  ReturnsInHanded {} Try.checked os 4 .any (Rows.measureApartSpec.pre6 enc Try.prog Try.f4 Rows.measureApartRow.domain false) (Rows.measureApartSpec.post enc Try.prog Try.f4 false true false false) := by
 refine returnsInHanded_of_change (C := Try.checked) own started (by kernel_rfl) Try.func4
  (ChangeSpec.witness6 (enc := enc) (C := Try.checked) false ⟨#[], #[.slice none 0 0, .slice none 0 0, .slice none 0 0], []⟩ 8 (by kernel_rfl) (by kernel_rfl) (by kernel_rfl) (by kernel_rfl)) ?_
 intro W base args ds gs before hval0 hW hcnd _
 have hval : ∀ (j : Nat) t v, Try.f4.params[j]? = some t → args[j]? = some v → Value.okWide Try.prog W .any base t v := hval0
 have hW' := hW
 obtain ⟨p, q, hA0, hV, rfl, hfz, hnd⟩ := hW
 have hA : DataW.TrodAll enc Try.prog W 0 (fun _ => true) true Try.f4.params.toList args.toList ds p := hA0
 rw [Try.params4] at hA hval
 obtain ⟨v0, vs0, d0, ds0, p0, q0, hargs, rfl, rfl, h0, r0⟩ := trodAll_cons hA
 obtain ⟨v1, vs1, d1, ds1, p1, q1, rfl, rfl, rfl, h1, r1⟩ := trodAll_cons r0
 obtain ⟨v2, vs2, d2, ds2, p2, q2, rfl, rfl, rfl, h2, r2⟩ := trodAll_cons r1
 obtain ⟨rfl, rfl, rfl⟩ := trodAll_nil r2
 obtain rfl : args = #[v0, v1, v2] := by cases args; simp_all
 obtain ⟨rfl, rfl⟩ := trodVars_none hV
 have lt0 : ∀ x ∈ p0, x.block < W.heap.size := by obtain ⟨m, hm⟩ := h0; exact DataW.trod_lt m _ _ _ hm
 obtain ⟨a0, n0, c0, rfl⟩ := okWide_slice underlying24 (hval 0 24 v0 rfl rfl)
 obtain ⟨a0, n0, c0, x0, e0, l_x0, hc0, hm0, hv0⟩ := Tr.slA8 underlying24 ce23 underlying23 ce5 underlying5 (Tr.of h0 rfl)
 cases e0
 have lt1 : ∀ x ∈ p1, x.block < W.heap.size := by obtain ⟨m, hm⟩ := h1; exact DataW.trod_lt m _ _ _ hm
 obtain ⟨a1, n1, c1, rfl⟩ := okWide_slice underlying45 (hval 1 45 v1 rfl rfl)
 obtain ⟨a1, n1, c1, x1, e1, l_x1, hc1, hm1, hr1, hv1⟩ := trRc W (Tr.of h1 rfl)
 cases e1
 have lt2 : ∀ x ∈ p2, x.block < W.heap.size := by obtain ⟨m, hm⟩ := h2; exact DataW.trod_lt m _ _ _ hm
 obtain ⟨a2, n2, c2, rfl⟩ := okWide_slice underlying45 (hval 2 45 v2 rfl rfl)
 obtain ⟨a2, n2, c2, x2, e2, l_x2, hc2, hm2, hr2, hv2⟩ := trRc W (Tr.of h2 rfl)
 cases e2
 clear hA0 hval0
 have hw : Cs Try.prog 4 [(.slice a0 n0 c0), (.slice a1 n1 c1), (.slice a2 n2 c2)].toArray W (fun v w1 => v = .bool true ∧ Chg W w1 []) := w_MeasureApart x0 a0 n0 c0 l_x0 a1 n1 c1 x1 l_x1 hr1 hc1 a2 n2 c2 x2 l_x2 hr2 hc2 W hv0.1 hv1.1 hv2.1
 have ea : ([(.slice a0 n0 c0), (.slice a1 n1 c1), (.slice a2 n2 c2)] : List Value).toArray = (#[(.slice a0 n0 c0), (.slice a1 n1 c1), (.slice a2 n2 c2)] : Array Value) := by simp [flat]
 rw [ea] at hw
 refine Calls.mono (Cs.below hw) fun e W' ⟨he, bel⟩ => ?_
 subst he
 exact ⟨_, rfl, _, _, _, [], _, [], hW', trodAll_mk1 (shut_bool underlying4 _), (trodAll_cons_mk (Below.trod laidOut (by kernel_rfl) (of_decide_eq_true (by kernel_rfl)) h0 bel lt0) (trodAll_cons_mk (Below.trod laidOut (by kernel_rfl) (of_decide_eq_true (by kernel_rfl)) h1 bel lt1) (trodAll_cons_mk (Below.trod laidOut (by kernel_rfl) (of_decide_eq_true (by kernel_rfl)) h2 bel lt2) trodAll_mk0))), rfl, bel.frame _, fun h => by cases h⟩
theorem over : Rows.measureApartRow.holds Try.pinned (OpenSpec.ofChange Rows.measureApartSpec) :=
 OpenClaim.holds_of_wide 4 Try.f4 rfl rfl rfl rfl rfl rfl rfl ⟨rfl, rfl, rfl, rfl, rfl⟩ rfl rfl rfl rfl rfl (by kernel_rfl) Try.func4 (by kernel_rfl)
  (of_decide_eq_true (by kernel_rfl)) (by unfold Func.isWrapper; first | (rw [if_pos (by decide +kernel)]; kernel_rfl) | (rw [if_neg (by decide +kernel)]; exact ⟨rfl, rfl⟩))
  (fun os started H enc _ => lifted os started H enc)
theorem proved : Rows.MeasureApartSaid := over
end measureApartDone
end Go.Proofs.Yteclkcpdclimnaa
