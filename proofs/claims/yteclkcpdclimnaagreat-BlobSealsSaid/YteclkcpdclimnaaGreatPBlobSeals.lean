/- BlobSeals holds of every input. Conditions: none. -/
import Derived.Test.YteclkcpdclimnaaGreatZ6BlobSeals
set_option linter.unusedVariables false
set_option linter.unusedSimpArgs false
set_option linter.unusedSectionVars false
namespace Go.Proofs.YteclkcpdclimnaaGreat
open Go.Proofs.Tryz
open Go.Vc Go.Orc Go.Sh Go.RowKit
set_option linter.unusedVariables false
set_option linter.unusedSimpArgs false
set_option maxRecDepth 20000
theorem aggT23 : aggB Tryz.prog 23 = true := by unfold aggB; rw [underlying23]
theorem aggT26 : aggB Tryz.prog 26 = true := by unfold aggB; rw [underlying26]
theorem aggT29 : aggB Tryz.prog 29 = true := by unfold aggB; rw [underlying29]
theorem ce26 : Tryz.prog.cellsOf 26 = 34 := by kernel_rfl
theorem w_BS_ok (id : Bool) (ms df : List UInt8) (hms : ms.length = 32) (da0 : Option Addr) (n cap0 : Nat) (hl : df.length = 32 * n) (key gr : List UInt8) (hk : key.length = 32) (hgr : gr.length = 128) (pg : Nat) (h : pg < 128) (ct : UInt64) (hct : ¬ ct > 4294967296) (w : World) (hv : View w da0 (df.map vu8)) :
  Cs Tryz.prog 4 [(.agg ⟨flat [(1, [(.bool id)]), (32, ms.map vu8), (1, [(.slice da0 n cap0)])]⟩), (.agg ⟨key.map vu8⟩), (vi ((pg : Nat) : Int)), (vu64 ct), (.agg ⟨gr.map vu8⟩)].toArray w (fun v w1 => v = (.bool true) ∧ Chg w w1 []) := by
 refine Cs.of (n := 111) (args := [(.agg ⟨flat [(1, [(.bool id)]), (32, ms.map vu8), (1, [(.slice da0 n cap0)])]⟩), (.agg ⟨key.map vu8⟩), (vn pg), (vu64 ct), (.agg ⟨gr.map vu8⟩)]) Tryz.func4 rfl rfl rfl ?_
 have h_0 := HP.init w
 have h_00 := h_0.old (View.arg hv) (fun f hf => by cases hf)
 refine WP.seq (WP.reg ?_)
 refine WL.box (segs := [(1, [(.bool id)]), (32, ms.map vu8), (1, [(.slice da0 n cap0)])]) h_00 rfl rfl (sC sV (sC (s8 hms) (sC sV sN))) rfl (fun b_1 w_2 h_3 => ?_)
 refine WL.box (segs := [(32, key.map vu8)]) h_3 rfl rfl (sC (s8 hk) sN) rfl (fun b_4 w_5 h_6 => ?_)
 refine WL.box (segs := [(128, gr.map vu8)]) h_6 rfl rfl (sC (s8 hgr) sN) rfl (fun b_7 w_8 h_9 => ?_)
 refine qA (.bool false) rfl rfl ?_
 refine WL.nil (thn_n (WP.seq (WP.seq (WP.reg ?_))))
 refine qV rfl (R.fieldAddr (off' := 33) rfl underlying26 rfl sizeOf24 rfl rfl) (qV rfl (R.load1 rfl isAgg24 (h_9.ok _ M2) (Sg.t rfl (Sg.t rfl Sg.h))) (qV rfl (R.lenS (a := da0) (m := n) rfl rfl underlying24) (qV rfl (R.bin rfl rfl (bi_gtr (r := decide ((((n : Nat) : Int) : Int) > 60)) rfl)) ?_)))
 refine WL.nil (thn_n ?_)
 refine WP.cond (b := decide ((((n : Nat) : Int) : Int) > 60)) rfl (fun c_10 => ?_) (fun c_10 => ?_)
 ·have p_11 := of_decide_eq_true c_10
  refine WP.seq (WP.reg ?_)
  refine WL.call Tryz.call10 rfl rfl (c_known16  _ ) rfl ?_
  rintro _ w_13 ⟨rfl, hc_12⟩
  have h_14 := h_9.same hc_12
  refine qA (.bool true) rfl rfl ?_
  refine WL.nil (thn_n (WP.ret (thn_r ?_)))
  refine ret_of results4 (RV.tmp (v := (.bool true)) rfl RV.nil) ?_
  exact ⟨rfl, h_14.chgS⟩
 ·have p_15 := of_decide_eq_false c_10
  refine WP.skip (thn_n (WP.seq (WP.reg ?_)))
  refine qV rfl (R.loadA [] [(1, [(.bool id)]), (32, ms.map vu8), (1, [(.slice da0 n cap0)])] [] rfl isAgg26 sizeOf26 (h_9.ok _ M2) rfl rfl rfl rfl) ?_
  have h_16 := h_9.up J3
  refine WL.call Tryz.call11 rfl rfl (c_both16 id ms df hms da0 n cap0 hl (by omega) _ h_16) rfl ?_
  rintro _ w_22 ⟨b_17, b_18, a_19, c_20, b_21, rfl, h_23⟩
  have h_24 := h_23.rowNil 96 67
  have h_25 := HP_logNil h_24
  refine qM (.tuple [(pO b_17 0), (pO b_21 0)].toArray) rfl rfl (qV rfl (R.extract rfl rfl) (qV rfl (R.extract rfl rfl) (qA (pO b_17 0) rfl rfl (qA (pO b_21 0) rfl rfl ?_))))
  refine WL.nil (thn_n (WP.seq (WP.reg ?_)))
  refine qM (pO b_17 0) rfl rfl (qV rfl (R.loadA [] [(32, key.map vu8)] [] (cs := key.map vu8) rfl isAgg23 sizeOf23 (h_25.ok _ M10) rfl rfl rfl rfl) (qM (vn pg) rfl rfl (qM (vu64 ct) rfl rfl (qV rfl (R.loadA [] [(128, gr.map vu8)] [] (cs := gr.map vu8) rfl isAgg29 sizeOf29 (h_25.ok _ M9) rfl rfl rfl rfl) ?_))))
  have h_30 := ((((h_25.up J6).up J1).up J5).up J3).up J4
  refine WL.call Tryz.call20 rfl rfl (c_Seal id b_17 b_18 ms df hms a_19 n c_20 0 hl none 0 [] ([] : Lg) (by first | decide | omega | exact Nat.le_trans gSt_u (by decide)) (by first | decide | omega | exact Nat.le_trans gSt_l (by decide)) key gr hk hgr pg ct (by omega) hct _ h_30) rfl ?_
  rintro _ w_34 ⟨la_31, lc_32, lx_33, rfl, h_35⟩
  refine qM (.tuple [(.agg ⟨(gx gr (gSt id df n key 10 (pcB pg ct) 0 ([] : Lg)).2.2).map vu8⟩), (vi 0)].toArray) rfl rfl (qV rfl (R.extract rfl rfl) (qV rfl (R.extract rfl rfl) ?_))
  refine WL.alloc (segs := [(128, (zB 128).map vu8)]) h_35 (zv typeInfo29 rfl) rfl (sC (s8 lr) sN) rfl (fun b_36 w_37 h_38 => ?_)
  refine WL.storeA [] [(128, (zB 128).map vu8)] [(128, (gx gr (gSt id df n key 10 (pcB pg ct) 0 ([] : Lg)).2.2).map vu8)] [] h_38 rfl rfl sizeOf29 At.h (by decide) rfl rfl rfl rfl rfl rfl (sC (s8 (gx_len hgr (gSt_len hl okN))) sN) (fun w_39 h_40 => ?_)
  refine qA (vi 0) rfl rfl ?_
  refine WL.nil (thn_n (WP.seq (WP.reg ?_)))
  refine qM (pO b_17 0) rfl rfl (qV rfl (R.loadA [] [(32, key.map vu8)] [] (cs := key.map vu8) rfl isAgg23 sizeOf23 (h_40.ok _ M11) rfl rfl rfl rfl) (qM (vn pg) rfl rfl (qM (vu64 ct) rfl rfl (qV rfl (R.loadA [] [(128, gr.map vu8)] [] (cs := gr.map vu8) rfl isAgg29 sizeOf29 (h_40.ok _ M10) rfl rfl rfl rfl) ?_))))
  have h_45 := ((((h_40.up J5).up J5).up J5).up J5).up J5
  refine WL.call Tryz.call21 rfl rfl (c_OpenA id b_17 b_18 ms df hms a_19 n c_20 0 hl la_31 lc_32 lx_33 ([] : Lg) (by first | decide | omega | exact Nat.le_trans gSt_u (by decide)) (by first | decide | omega | exact Nat.le_trans gSt_l (by decide)) key gr hk hgr pg ct (by omega) hct _ h_45) rfl ?_
  rintro _ w_49 ⟨la_46, lc_47, lx_48, rfl, h_50⟩
  refine qM (.tuple [(.agg ⟨(gx gr (gSt id df n key 10 (pcB pg ct) 0 ([] : Lg)).2.2).map vu8⟩), (vi 0)].toArray) rfl rfl (qV rfl (R.extract rfl rfl) (qV rfl (R.extract rfl rfl) ?_))
  refine WL.alloc (segs := [(128, (zB 128).map vu8)]) h_50 (zv typeInfo29 rfl) rfl (sC (s8 lr) sN) rfl (fun b_51 w_52 h_53 => ?_)
  refine WL.storeA [] [(128, (zB 128).map vu8)] [(128, (gx gr (gSt id df n key 10 (pcB pg ct) 0 ([] : Lg)).2.2).map vu8)] [] h_53 rfl rfl sizeOf29 At.h (by decide) rfl rfl rfl rfl rfl rfl (sC (s8 (gx_len hgr (gSt_len hl okN))) sN) (fun w_54 h_55 => ?_)
  refine qA (vi 0) rfl rfl ?_
  refine WL.nil (thn_n (WP.seq (WP.seq (WP.reg ?_))))
  refine qM (vn pg) rfl rfl (qM (vu64 ct) rfl rfl ?_)
  refine WL.call Tryz.call13 rfl rfl (c_May16 pg ct (by omega) _ ) rfl ?_
  rintro _ w_57 ⟨rfl, hc_56⟩
  have h_58 := h_55.same hc_56
  refine qV rfl (R.not (b := true) (congrArg Value.bool (decide_eq_true (UInt64.not_lt.1 hct)))) ?_
  refine WL.nil (thn_n ?_)
  refine WP.condF rfl ?_
  refine WP.skip (thn_n (WP.seq (WP.reg ?_)))
  refine qM (pO b_21 0) rfl rfl (qV rfl (R.loadA [] [(32, key.map vu8)] [] (cs := key.map vu8) rfl isAgg23 sizeOf23 (h_58.ok _ M12) rfl rfl rfl rfl) (qM (vn pg) rfl rfl (qM (vu64 ct) rfl rfl (qV rfl (R.loadA [] [(128, gr.map vu8)] [] (cs := gr.map vu8) rfl isAgg29 sizeOf29 (h_58.ok _ M11) rfl rfl rfl rfl) ?_))))
  have h_62 := (((h_58.up J10).up J9).up J9).up J10
  refine WL.call Tryz.call22 rfl rfl (c_rSeal id b_21 ms df hms da0 n cap0 0 hl none 0 [] ([] : Lg) (by first | decide | omega | exact Nat.le_trans gSt_u (by decide)) (by first | decide | omega | exact Nat.le_trans gSt_l (by decide)) key gr hk hgr pg ct _ h_62) rfl ?_
  rintro _ w_66 ⟨la_63, lc_64, lx_65, rfl, h_67⟩
  refine WL.alloc (segs := [(128, (zB 128).map vu8)]) h_67 (zv typeInfo29 rfl) rfl (sC (s8 lr) sN) rfl (fun b_68 w_69 h_70 => ?_)
  refine WL.storeA [] [(128, (zB 128).map vu8)] [(128, (gx gr (gSt id df n key 10 (pcB pg ct) 0 ([] : Lg)).2.2).map vu8)] [] h_70 rfl rfl sizeOf29 At.h (by decide) rfl rfl rfl rfl rfl rfl (sC (s8 (gx_len hgr (gSt_len hl okN))) sN) (fun w_71 h_72 => ?_)
  refine WL.nil (thn_n (WP.seq ?_))
  refine WP.drawT (SL w.heap.size [.blk b_68 .nw 29 [(128, (gx gr (gSt id df n key 10 (pcB pg ct) 0 ([] : Lg)).2.2).map vu8)], .blk b_21 .nw 47 [(1, [(.bool id)]), (32, ms.map vu8), (1, [(.slice da0 n cap0)]), (1, [(vn ((gSt id df n key 10 (pcB pg ct) 0 ([] : Lg)).1))]), (1, [(.slice la_63 ((gSt id df n key 10 (pcB pg ct) 0 ([] : Lg)).2.1.length) lc_64)])], .row la_63 ((gSt id df n key 10 (pcB pg ct) 0 ([] : Lg)).2.1.length) lc_64 96 67 lx_65, .pin (sblks lx_65) (fun w => Lgs w lx_65 ((gSt id df n key 10 (pcB pg ct) 0 ([] : Lg)).2.1)), .view da0 (df.map vu8), .blk b_51 .nw 29 [(128, (gx gr (gSt id df n key 10 (pcB pg ct) 0 ([] : Lg)).2.2).map vu8)], .blk b_17 .nw 118 [(1, [(.bool id)]), (32, ms.map vu8), (1, [(.slice a_19 n c_20)]), (1, [(vn ((gSt id df n key 10 (pcB pg ct) 0 ([] : Lg)).1))]), (1, [(.map (some b_18))]), (1, [(.slice la_46 ((gSt id df n key 10 (pcB pg ct) 0 ([] : Lg)).2.1.length) lc_47)])], .row la_46 ((gSt id df n key 10 (pcB pg ct) 0 ([] : Lg)).2.1.length) lc_47 96 67 lx_48, .obj b_18 .nw (.map (mArr ((gSt id df n key 10 (pcB pg ct) 0 ([] : Lg)).2.1)) ((gSt id df n key 10 (pcB pg ct) 0 ([] : Lg)).2.1.length)), .pin (sblks lx_48) (fun w => Lgs w lx_48 ((gSt id df n key 10 (pcB pg ct) 0 ([] : Lg)).2.1)), .view a_19 (df.map vu8), .blk b_36 .nw 29 [(128, (gx gr (gSt id df n key 10 (pcB pg ct) 0 ([] : Lg)).2.2).map vu8)], .blk b_7 .nw 29 [(128, gr.map vu8)], .blk b_4 .nw 23 [(32, key.map vu8)], .blk b_1 .nw 26 [(1, [(.bool id)]), (32, ms.map vu8), (1, [(.slice da0 n cap0)])]]) (.q 0 (.q 1 (.q 2 (.q 3 (.q 4 (.q 5 (.q 6 (.q 7 (.q 8 (.q 9 (.q 11 (.s 10 (.s 12 (.q 13 (.q 14 (.q 15 (.q 16 (.q 17 (.q 19 (.q 20 (.q 21 (.q 22 (.s 18 (.s 23 (.q 24 (.q 25 (.s 26 (.q 27 (.q 28 .nil))))))))))))))))))))))))))))) (by kernel_rfl) (by kernel_rfl) rfl (by kernel_rfl) (fun w_73 hc_75 => (SL.cons ((h_72.same hc_75).ok _ M0) (SL.cons ((h_72.same hc_75).ok _ M1) (SL.cons ((h_72.same hc_75).ok _ M2) (SL.cons ((h_72.same hc_75).ok _ M3) (SL.cons ((h_72.same hc_75).ok _ M4) (SL.cons ((h_72.same hc_75).ok _ M5) (SL.cons ((h_72.same hc_75).ok _ M6) (SL.cons ((h_72.same hc_75).ok _ M7) (SL.cons ((h_72.same hc_75).ok _ M8) (SL.cons ((h_72.same hc_75).ok _ M9) (SL.cons ((h_72.same hc_75).ok _ M10) (SL.cons ((h_72.same hc_75).ok _ M11) (SL.cons ((h_72.same hc_75).ok _ M12) (SL.cons ((h_72.same hc_75).ok _ M13) (SL.cons ((h_72.same hc_75).ok _ M14) (SL.nil _ _))))))))))))))))) (fun w_73 hc_75 => ?_)
  have h_74 := h_72.same hc_75
  refine qT rfl rfl (fun wq hS => R.loadA [] [(128, (gx gr (gSt id df n key 10 (pcB pg ct) 0 ([] : Lg)).2.2).map vu8)] [] (cs := (gx gr (gSt id df n key 10 (pcB pg ct) 0 ([] : Lg)).2.2).map vu8) rfl isAgg29 sizeOf29 (hS _ M11) rfl rfl rfl rfl) ?_
  refine qT rfl rfl (fun wq hS => R.loadA [] [(128, (gx gr (gSt id df n key 10 (pcB pg ct) 0 ([] : Lg)).2.2).map vu8)] [] (cs := (gx gr (gSt id df n key 10 (pcB pg ct) 0 ([] : Lg)).2.2).map vu8) rfl isAgg29 sizeOf29 (hS _ M0) rfl rfl rfl rfl) ?_
  refine qT rfl rfl (fun wq hS => R.eqA (xs := (gx gr (gSt id df n key 10 (pcB pg ct) 0 ([] : Lg)).2.2).map vu8) (ys := (gx gr (gSt id df n key 10 (pcB pg ct) 0 ([] : Lg)).2.2).map vu8) (r := true) rfl rfl eqGuardType29 kt29 (by decide) ag29 (Typ.u8s underlying29 ce29 underlying5 ce5 (gx_len hgr (gSt_len hl okN))) (Typ.u8s underlying29 ce29 underlying5 ce5 (gx_len hgr (gSt_len hl okN))) (eqT rfl)) ?_
  refine qT rfl rfl (fun wq hS => R.move (v := (.bool true)) rfl) ?_
  refine WT.q rfl (Wn.yes rfl rfl rfl) rfl rfl (fun wq hS => R.loadA [] [(128, (gx gr (gSt id df n key 10 (pcB pg ct) 0 ([] : Lg)).2.2).map vu8)] [] (cs := (gx gr (gSt id df n key 10 (pcB pg ct) 0 ([] : Lg)).2.2).map vu8) rfl isAgg29 sizeOf29 (hS _ M5) rfl rfl rfl rfl) ?_
  refine WT.q rfl (Wn.yes rfl rfl rfl) rfl rfl (fun wq hS => R.loadA [] [(128, (gx gr (gSt id df n key 10 (pcB pg ct) 0 ([] : Lg)).2.2).map vu8)] [] (cs := (gx gr (gSt id df n key 10 (pcB pg ct) 0 ([] : Lg)).2.2).map vu8) rfl isAgg29 sizeOf29 (hS _ M0) rfl rfl rfl rfl) ?_
  refine WT.q rfl (Wn.yes rfl rfl rfl) rfl rfl (fun wq hS => R.eqA (xs := (gx gr (gSt id df n key 10 (pcB pg ct) 0 ([] : Lg)).2.2).map vu8) (ys := (gx gr (gSt id df n key 10 (pcB pg ct) 0 ([] : Lg)).2.2).map vu8) (r := true) rfl rfl eqGuardType29 kt29 (by decide) ag29 (Typ.u8s underlying29 ce29 underlying5 ce5 (gx_len hgr (gSt_len hl okN))) (Typ.u8s underlying29 ce29 underlying5 ce5 (gx_len hgr (gSt_len hl okN))) (eqT rfl)) ?_
  refine qT rfl rfl (fun wq hS => R.pickT (v := (.bool true)) rfl rfl) ?_
  refine qT rfl rfl (fun wq hS => R.move (v := (.bool true)) rfl) ?_
  refine WT.q rfl (Wn.yes rfl rfl rfl) rfl rfl (fun wq hS => R.move (v := (vi 0)) rfl) ?_
  refine WT.q rfl (Wn.yes rfl rfl rfl) rfl rfl (fun wq hS => R.move (v := (vi 0)) rfl) ?_
  refine WT.s ?_
  refine Op1.one rfl (Wn.yes rfl rfl rfl) ?_
  refine WL.call Tryz.call15 rfl rfl (c_num16 0 (by omega) _ ) rfl ?_
  rintro _ w_77 ⟨rfl, hc_76⟩
  have h_78 := h_74.same hc_76
  refine WL.nil ?_
  refine ⟨(N0_1_2_3_4_5_6_7_8_9_10_11_12_13_14 h_78.ok), ?_⟩
  refine WT.s ?_
  refine Op1.one rfl (Wn.yes rfl rfl rfl) ?_
  refine WL.call Tryz.call15 rfl rfl (c_num16 0 (by omega) _ ) rfl ?_
  rintro _ w_80 ⟨rfl, hc_79⟩
  have h_81 := h_78.same hc_79
  refine WL.nil ?_
  refine ⟨(N0_1_2_3_4_5_6_7_8_9_10_11_12_13_14 h_81.ok), ?_⟩
  refine WT.q rfl (Wn.yes rfl rfl rfl) rfl rfl (fun wq hS => R.bin rfl rfl (bi_add (c := 0) (by omega) (by omega))) ?_
  refine WT.q rfl (Wn.yes rfl rfl rfl) rfl rfl (fun wq hS => R.bin rfl rfl (bi_eql (r := true) (by decide))) ?_
  refine qT rfl rfl (fun wq hS => R.pickT (v := (.bool true)) rfl rfl) ?_
  refine qT rfl rfl (fun wq hS => R.move (v := (.bool true)) rfl) ?_
  refine WT.q rfl (Wn.yes rfl rfl rfl) rfl rfl (fun wq hS => R.move (v := (pO b_17 0)) rfl) ?_
  refine WT.q rfl (Wn.yes rfl rfl rfl) rfl rfl (fun wq hS => R.move (v := (pO b_21 0)) rfl) ?_
  refine WT.q rfl (Wn.yes rfl rfl rfl) rfl rfl (fun wq hS => R.nilCheck rfl) ?_
  refine WT.q rfl (Wn.yes rfl rfl rfl) rfl rfl (fun wq hS => R.fieldAddr (off' := 35) rfl underlying47 rfl sizeOf44 rfl rfl) ?_
  refine WT.q rfl (Wn.yes rfl rfl rfl) rfl rfl (fun wq hS => R.load1 rfl isAgg44 (hS _ M1) (Sg.t rfl (Sg.t rfl (Sg.t rfl (Sg.t rfl Sg.h))))) ?_
  refine WT.s ?_
  refine Op1.one rfl (Wn.yes rfl rfl rfl) ?_
  have h_86 := ((((h_81.up J10).up J10).up J10).up J10).up J10
  refine WL.call Tryz.call19 rfl rfl (c_oLog id b_17 b_18 ms df hms a_19 n c_20 ((gSt id df n key 10 (pcB pg ct) 0 ([] : Lg)).1) hl la_46 lc_47 lx_48 ((gSt id df n key 10 (pcB pg ct) 0 ([] : Lg)).2.1) (by first | decide | omega | exact Nat.le_trans gSt_u (by decide)) (by first | decide | omega | exact Nat.le_trans gSt_l (by decide)) _ h_86) rfl ?_
  rintro _ w_90 ⟨a_87, c_88, ys_89, rfl, h_91⟩
  refine WL.nil ?_
  refine ⟨(N7_8_9_10_11_12_2_3_4_5_6_13_14_15_16 h_91.ok), ?_⟩
  refine WT.s ?_
  refine Op1.one rfl (Wn.yes rfl rfl rfl) ?_
  refine WL.call Tryz.call18 rfl rfl (c_rSameLog a_87 ((gSt id df n key 10 (pcB pg ct) 0 ([] : Lg)).2.1.length) c_88 ys_89 ((gSt id df n key 10 (pcB pg ct) 0 ([] : Lg)).2.1) rfl (by first | decide | omega | exact Nat.le_trans gSt_l (by decide)) la_63 lc_64 lx_65 _ (ownView (h_91.ok _ M0)) (h_91.ok _ M1).1 (ownView (h_91.ok _ M9)) (h_91.ok _ M10).1) rfl ?_
  rintro _ w_93 ⟨rfl, hc_92⟩
  have h_94 := h_91.same hc_92
  refine WL.nil ?_
  refine ⟨(N7_8_9_10_11_12_2_3_4_5_6_13_14_15_16 h_94.ok), ?_⟩
  refine qT rfl rfl (fun wq hS => R.pickT (v := (.bool true)) rfl (rfl)) ?_
  refine qT rfl rfl (fun wq hS => R.move (v := (.bool true)) rfl) ?_
  refine WT.s ?_
  refine Op1.one rfl (Wn.yes rfl rfl rfl) ?_
  refine WL.call Tryz.call10 rfl rfl (c_known16  _ ) rfl ?_
  rintro _ w_96 ⟨rfl, hc_95⟩
  have h_97 := h_94.same hc_95
  refine WL.nil ?_
  refine ⟨(N7_8_9_10_11_12_2_3_4_5_6_13_14_15_16 h_97.ok), ?_⟩
  refine qT rfl rfl (fun wq hS => R.pickT (v := (.bool true)) rfl rfl) ?_
  refine qT rfl rfl (fun wq hS => R.assign (v := (.bool true)) rfl) ?_
  refine WT.nil (thn_n (WP.ret ?_))
  refine ret_of results4 (RV.tmp (v := (.bool true)) rfl RV.nil) ?_
  exact ⟨rfl, h_97.chgS⟩

theorem w_BS_ct (id : Bool) (ms df : List UInt8) (hms : ms.length = 32) (da0 : Option Addr) (n cap0 : Nat) (hl : df.length = 32 * n) (key gr : List UInt8) (hk : key.length = 32) (hgr : gr.length = 128) (pg : Nat) (h : pg < 128) (ct : UInt64) (hct : ct > 4294967296) (w : World) (hv : View w da0 (df.map vu8)) :
  Cs Tryz.prog 4 [(.agg ⟨flat [(1, [(.bool id)]), (32, ms.map vu8), (1, [(.slice da0 n cap0)])]⟩), (.agg ⟨key.map vu8⟩), (vi ((pg : Nat) : Int)), (vu64 ct), (.agg ⟨gr.map vu8⟩)].toArray w (fun v w1 => v = (.bool true) ∧ Chg w w1 []) := by
 refine Cs.of (n := 111) (args := [(.agg ⟨flat [(1, [(.bool id)]), (32, ms.map vu8), (1, [(.slice da0 n cap0)])]⟩), (.agg ⟨key.map vu8⟩), (vn pg), (vu64 ct), (.agg ⟨gr.map vu8⟩)]) Tryz.func4 rfl rfl rfl ?_
 have h_0 := HP.init w
 have h_00 := h_0.old (View.arg hv) (fun f hf => by cases hf)
 refine WP.seq (WP.reg ?_)
 refine WL.box (segs := [(1, [(.bool id)]), (32, ms.map vu8), (1, [(.slice da0 n cap0)])]) h_00 rfl rfl (sC sV (sC (s8 hms) (sC sV sN))) rfl (fun b_1 w_2 h_3 => ?_)
 refine WL.box (segs := [(32, key.map vu8)]) h_3 rfl rfl (sC (s8 hk) sN) rfl (fun b_4 w_5 h_6 => ?_)
 refine WL.box (segs := [(128, gr.map vu8)]) h_6 rfl rfl (sC (s8 hgr) sN) rfl (fun b_7 w_8 h_9 => ?_)
 refine qA (.bool false) rfl rfl ?_
 refine WL.nil (thn_n (WP.seq (WP.seq (WP.reg ?_))))
 refine qV rfl (R.fieldAddr (off' := 33) rfl underlying26 rfl sizeOf24 rfl rfl) (qV rfl (R.load1 rfl isAgg24 (h_9.ok _ M2) (Sg.t rfl (Sg.t rfl Sg.h))) (qV rfl (R.lenS (a := da0) (m := n) rfl rfl underlying24) (qV rfl (R.bin rfl rfl (bi_gtr (r := decide ((((n : Nat) : Int) : Int) > 60)) rfl)) ?_)))
 refine WL.nil (thn_n ?_)
 refine WP.cond (b := decide ((((n : Nat) : Int) : Int) > 60)) rfl (fun c_10 => ?_) (fun c_10 => ?_)
 ·have p_11 := of_decide_eq_true c_10
  refine WP.seq (WP.reg ?_)
  refine WL.call Tryz.call10 rfl rfl (c_known16  _ ) rfl ?_
  rintro _ w_13 ⟨rfl, hc_12⟩
  have h_14 := h_9.same hc_12
  refine qA (.bool true) rfl rfl ?_
  refine WL.nil (thn_n (WP.ret (thn_r ?_)))
  refine ret_of results4 (RV.tmp (v := (.bool true)) rfl RV.nil) ?_
  exact ⟨rfl, h_14.chgS⟩
 ·have p_15 := of_decide_eq_false c_10
  refine WP.skip (thn_n (WP.seq (WP.reg ?_)))
  refine qV rfl (R.loadA [] [(1, [(.bool id)]), (32, ms.map vu8), (1, [(.slice da0 n cap0)])] [] rfl isAgg26 sizeOf26 (h_9.ok _ M2) rfl rfl rfl rfl) ?_
  have h_16 := h_9.up J3
  refine WL.call Tryz.call11 rfl rfl (c_both16 id ms df hms da0 n cap0 hl (by omega) _ h_16) rfl ?_
  rintro _ w_22 ⟨b_17, b_18, a_19, c_20, b_21, rfl, h_23⟩
  have h_24 := h_23.rowNil 96 67
  have h_25 := HP_logNil h_24
  refine qM (.tuple [(pO b_17 0), (pO b_21 0)].toArray) rfl rfl (qV rfl (R.extract rfl rfl) (qV rfl (R.extract rfl rfl) (qA (pO b_17 0) rfl rfl (qA (pO b_21 0) rfl rfl ?_))))
  refine WL.nil (thn_n (WP.seq (WP.reg ?_)))
  refine qM (pO b_17 0) rfl rfl (qV rfl (R.loadA [] [(32, key.map vu8)] [] (cs := key.map vu8) rfl isAgg23 sizeOf23 (h_25.ok _ M10) rfl rfl rfl rfl) (qM (vn pg) rfl rfl (qM (vu64 ct) rfl rfl (qV rfl (R.loadA [] [(128, gr.map vu8)] [] (cs := gr.map vu8) rfl isAgg29 sizeOf29 (h_25.ok _ M9) rfl rfl rfl rfl) ?_))))
  refine WL.call Tryz.call20 rfl rfl (c_Seal_ct id b_17 b_18 ms hms a_19 n c_20 0 none 0 0 key gr hk hgr pg ct (by omega) hct _ (h_25.argR M2)) rfl ?_
  rintro _ w_27 ⟨rfl, hc_26⟩
  have h_28 := h_25.same hc_26
  refine qM (.tuple [(.agg ⟨(zB 128).map vu8⟩), (vi 2)].toArray) rfl rfl (qV rfl (R.extract rfl rfl) (qV rfl (R.extract rfl rfl) ?_))
  refine WL.alloc (segs := [(128, (zB 128).map vu8)]) h_28 (zv typeInfo29 rfl) rfl (sC (s8 lr) sN) rfl (fun b_29 w_30 h_31 => ?_)
  refine WL.storeA [] [(128, (zB 128).map vu8)] [(128, (zB 128).map vu8)] [] h_31 rfl rfl sizeOf29 At.h (by decide) rfl rfl rfl rfl rfl rfl (sC (s8 lr) sN) (fun w_32 h_33 => ?_)
  refine qA (vi 2) rfl rfl ?_
  refine WL.nil (thn_n (WP.seq (WP.reg ?_)))
  refine qM (pO b_17 0) rfl rfl (qV rfl (R.loadA [] [(32, key.map vu8)] [] (cs := key.map vu8) rfl isAgg23 sizeOf23 (h_33.ok _ M11) rfl rfl rfl rfl) (qM (vn pg) rfl rfl (qM (vu64 ct) rfl rfl (qV rfl (R.loadA [] [(128, gr.map vu8)] [] (cs := gr.map vu8) rfl isAgg29 sizeOf29 (h_33.ok _ M10) rfl rfl rfl rfl) ?_))))
  refine WL.call Tryz.call21 rfl rfl (c_Open_ct id b_17 b_18 ms hms a_19 n c_20 0 none 0 0 key gr hk hgr pg ct (by omega) hct _ (h_33.argR M3)) rfl ?_
  rintro _ w_35 ⟨rfl, hc_34⟩
  have h_36 := h_33.same hc_34
  refine qM (.tuple [(.agg ⟨(zB 128).map vu8⟩), (vi 2)].toArray) rfl rfl (qV rfl (R.extract rfl rfl) (qV rfl (R.extract rfl rfl) ?_))
  refine WL.alloc (segs := [(128, (zB 128).map vu8)]) h_36 (zv typeInfo29 rfl) rfl (sC (s8 lr) sN) rfl (fun b_37 w_38 h_39 => ?_)
  refine WL.storeA [] [(128, (zB 128).map vu8)] [(128, (zB 128).map vu8)] [] h_39 rfl rfl sizeOf29 At.h (by decide) rfl rfl rfl rfl rfl rfl (sC (s8 lr) sN) (fun w_40 h_41 => ?_)
  refine qA (vi 2) rfl rfl ?_
  refine WL.nil (thn_n (WP.seq (WP.seq (WP.reg ?_))))
  refine qM (vn pg) rfl rfl (qM (vu64 ct) rfl rfl ?_)
  refine WL.call Tryz.call13 rfl rfl (c_May16 pg ct (by omega) _ ) rfl ?_
  rintro _ w_43 ⟨rfl, hc_42⟩
  have h_44 := h_41.same hc_42
  refine qV rfl (R.not (b := false) (congrArg Value.bool (decide_eq_false (UInt64.not_le.2 hct)))) ?_
  refine WL.nil (thn_n ?_)
  refine WP.condT rfl ?_
  refine WP.seq (WP.reg ?_)
  refine qV rfl (R.loadA [] [(128, (zB 128).map vu8)] [] (cs := (zB 128).map vu8) rfl isAgg29 sizeOf29 (h_44.ok _ M1) rfl rfl rfl rfl) (qV rfl (R.buildA (vs := []) (cs := (zB 128).map vu8) underlying29 sizeOf5 (zv typeInfo29 rfl) rfl rfl) (qV rfl (R.eqA (xs := (zB 128).map vu8) (ys := (zB 128).map vu8) (r := true) rfl rfl eqGuardType29 kt29 (by decide) ag29 (Typ.u8s underlying29 ce29 underlying5 ce5 lr) (Typ.u8s underlying29 ce29 underlying5 ce5 lr) (eqT rfl)) (qM (.bool true) rfl rfl ?_)))
  refine WL.want rfl rfl ?_
  refine qV rfl (R.loadA [] [(128, (zB 128).map vu8)] [] (cs := (zB 128).map vu8) rfl isAgg29 sizeOf29 (h_44.ok _ M0) rfl rfl rfl rfl) ?_
  refine WL.want rfl rfl ?_
  refine qV rfl (R.loadA [] [(128, (zB 128).map vu8)] [] (cs := (zB 128).map vu8) rfl isAgg29 sizeOf29 (h_44.ok _ M1) rfl rfl rfl rfl) ?_
  refine WL.want rfl rfl ?_
  refine qV rfl (R.eqA (xs := (zB 128).map vu8) (ys := (zB 128).map vu8) (r := true) rfl rfl eqGuardType29 kt29 (by decide) ag29 (Typ.u8s underlying29 ce29 underlying5 ce5 lr) (Typ.u8s underlying29 ce29 underlying5 ce5 lr) (eqT rfl)) (qV rfl (R.pickT (v := (.bool true)) rfl rfl) (qM (.bool true) rfl rfl ?_))
  refine WL.want rfl rfl ?_
  refine qM (vi 2) rfl rfl ?_
  refine WL.want rfl rfl ?_
  refine WL.call Tryz.call15 rfl rfl (c_num16 2 (by omega) _ ) rfl ?_
  rintro _ w_46 ⟨rfl, hc_45⟩
  have h_47 := h_44.same hc_45
  refine WL.want rfl rfl ?_
  refine qV rfl (R.bin rfl rfl (bi_eql (r := true) (by decide))) (qV rfl (R.pickT (v := (.bool true)) rfl rfl) (qM (.bool true) rfl rfl ?_))
  refine WL.want rfl rfl ?_
  refine qM (vi 2) rfl rfl ?_
  refine WL.want rfl rfl ?_
  refine WL.call Tryz.call15 rfl rfl (c_num16 2 (by omega) _ ) rfl ?_
  rintro _ w_49 ⟨rfl, hc_48⟩
  have h_50 := h_47.same hc_48
  refine WL.want rfl rfl ?_
  refine qV rfl (R.bin rfl rfl (bi_eql (r := true) (by decide))) (qV rfl (R.pickT (v := (.bool true)) rfl rfl) (qM (.bool true) rfl rfl ?_))
  refine WL.want rfl rfl ?_
  refine qM (pO b_17 0) rfl rfl ?_
  refine WL.want rfl rfl ?_
  have h_55 := ((((h_50.up J8).up J3).up J7).up J5).up J6
  refine WL.call Tryz.call19 rfl rfl (c_oLog id b_17 b_18 ms df hms a_19 n c_20 0 hl none 0 [] ([] : Lg) (by first | decide | omega | exact Nat.le_trans gSt_u (by decide)) (by first | decide | omega | exact Nat.le_trans gSt_l (by decide)) _ h_55) rfl ?_
  rintro _ w_59 ⟨a_56, c_57, ys_58, rfl, h_60⟩
  refine WL.want rfl rfl ?_
  refine qV rfl (R.lenS (a := a_56) (m := 0) rfl rfl underlying44) ?_
  refine WL.want rfl rfl ?_
  refine qV rfl (R.bin rfl rfl (bi_eql (r := true) (by decide))) (qV rfl (R.pickT (v := (.bool true)) rfl rfl) (qM (.bool true) rfl rfl ?_))
  refine WL.want rfl rfl ?_
  refine WL.call Tryz.call10 rfl rfl (c_known16  _ ) rfl ?_
  rintro _ w_62 ⟨rfl, hc_61⟩
  have h_63 := h_60.same hc_61
  refine qV rfl (R.pickT (v := (.bool true)) rfl rfl) (qA (.bool true) rfl rfl ?_)
  refine WL.nil (thn_n (WP.ret (thn_r ?_)))
  refine ret_of results4 (RV.tmp (v := (.bool true)) rfl RV.nil) ?_
  exact ⟨rfl, h_63.chgS⟩

theorem w_BS_no (id : Bool) (ms df : List UInt8) (hms : ms.length = 32) (da0 : Option Addr) (n cap0 : Nat) (hl : df.length = 32 * n) (key gr : List UInt8) (hk : key.length = 32) (hgr : gr.length = 128) (pg : Int) (hpg : ¬ (0 ≤ pg ∧ pg < 128)) (ct : UInt64) (w : World) (hv : View w da0 (df.map vu8)) :
  Cs Tryz.prog 4 [(.agg ⟨flat [(1, [(.bool id)]), (32, ms.map vu8), (1, [(.slice da0 n cap0)])]⟩), (.agg ⟨key.map vu8⟩), (vi pg), (vu64 ct), (.agg ⟨gr.map vu8⟩)].toArray w (fun v w1 => v = (.bool true) ∧ Chg w w1 []) := by
 refine Cs.of (n := 111) (args := [(.agg ⟨flat [(1, [(.bool id)]), (32, ms.map vu8), (1, [(.slice da0 n cap0)])]⟩), (.agg ⟨key.map vu8⟩), (vi pg), (vu64 ct), (.agg ⟨gr.map vu8⟩)]) Tryz.func4 rfl rfl rfl ?_
 have h_0 := HP.init w
 have h_00 := h_0.old (View.arg hv) (fun f hf => by cases hf)
 refine WP.seq (WP.reg ?_)
 refine WL.box (segs := [(1, [(.bool id)]), (32, ms.map vu8), (1, [(.slice da0 n cap0)])]) h_00 rfl rfl (sC sV (sC (s8 hms) (sC sV sN))) rfl (fun b_1 w_2 h_3 => ?_)
 refine WL.box (segs := [(32, key.map vu8)]) h_3 rfl rfl (sC (s8 hk) sN) rfl (fun b_4 w_5 h_6 => ?_)
 refine WL.box (segs := [(128, gr.map vu8)]) h_6 rfl rfl (sC (s8 hgr) sN) rfl (fun b_7 w_8 h_9 => ?_)
 refine qA (.bool false) rfl rfl ?_
 refine WL.nil (thn_n (WP.seq (WP.seq (WP.reg ?_))))
 refine qV rfl (R.fieldAddr (off' := 33) rfl underlying26 rfl sizeOf24 rfl rfl) (qV rfl (R.load1 rfl isAgg24 (h_9.ok _ M2) (Sg.t rfl (Sg.t rfl Sg.h))) (qV rfl (R.lenS (a := da0) (m := n) rfl rfl underlying24) (qV rfl (R.bin rfl rfl (bi_gtr (r := decide ((((n : Nat) : Int) : Int) > 60)) rfl)) ?_)))
 refine WL.nil (thn_n ?_)
 refine WP.cond (b := decide ((((n : Nat) : Int) : Int) > 60)) rfl (fun c_10 => ?_) (fun c_10 => ?_)
 ·have p_11 := of_decide_eq_true c_10
  refine WP.seq (WP.reg ?_)
  refine WL.call Tryz.call10 rfl rfl (c_known16  _ ) rfl ?_
  rintro _ w_13 ⟨rfl, hc_12⟩
  have h_14 := h_9.same hc_12
  refine qA (.bool true) rfl rfl ?_
  refine WL.nil (thn_n (WP.ret (thn_r ?_)))
  refine ret_of results4 (RV.tmp (v := (.bool true)) rfl RV.nil) ?_
  exact ⟨rfl, h_14.chgS⟩
 ·have p_15 := of_decide_eq_false c_10
  refine WP.skip (thn_n (WP.seq (WP.reg ?_)))
  refine qV rfl (R.loadA [] [(1, [(.bool id)]), (32, ms.map vu8), (1, [(.slice da0 n cap0)])] [] rfl isAgg26 sizeOf26 (h_9.ok _ M2) rfl rfl rfl rfl) ?_
  have h_16 := h_9.up J3
  refine WL.call Tryz.call11 rfl rfl (c_both16 id ms df hms da0 n cap0 hl (by omega) _ h_16) rfl ?_
  rintro _ w_22 ⟨b_17, b_18, a_19, c_20, b_21, rfl, h_23⟩
  have h_24 := h_23.rowNil 96 67
  have h_25 := HP_logNil h_24
  refine qM (.tuple [(pO b_17 0), (pO b_21 0)].toArray) rfl rfl (qV rfl (R.extract rfl rfl) (qV rfl (R.extract rfl rfl) (qA (pO b_17 0) rfl rfl (qA (pO b_21 0) rfl rfl ?_))))
  refine WL.nil (thn_n (WP.seq (WP.reg ?_)))
  refine qM (pO b_17 0) rfl rfl (qV rfl (R.loadA [] [(32, key.map vu8)] [] (cs := key.map vu8) rfl isAgg23 sizeOf23 (h_25.ok _ M10) rfl rfl rfl rfl) (qM (vi pg) rfl rfl (qM (vu64 ct) rfl rfl (qV rfl (R.loadA [] [(128, gr.map vu8)] [] (cs := gr.map vu8) rfl isAgg29 sizeOf29 (h_25.ok _ M9) rfl rfl rfl rfl) ?_))))
  refine WL.call Tryz.call20 rfl rfl (c_Seal_no id b_17 b_18 ms hms a_19 n c_20 0 none 0 0 key gr hk hgr pg hpg ct _ (h_25.argR M2)) rfl ?_
  rintro _ w_27 ⟨rfl, hc_26⟩
  have h_28 := h_25.same hc_26
  refine qM (.tuple [(.agg ⟨(zB 128).map vu8⟩), (vi 2)].toArray) rfl rfl (qV rfl (R.extract rfl rfl) (qV rfl (R.extract rfl rfl) ?_))
  refine WL.alloc (segs := [(128, (zB 128).map vu8)]) h_28 (zv typeInfo29 rfl) rfl (sC (s8 lr) sN) rfl (fun b_29 w_30 h_31 => ?_)
  refine WL.storeA [] [(128, (zB 128).map vu8)] [(128, (zB 128).map vu8)] [] h_31 rfl rfl sizeOf29 At.h (by decide) rfl rfl rfl rfl rfl rfl (sC (s8 lr) sN) (fun w_32 h_33 => ?_)
  refine qA (vi 2) rfl rfl ?_
  refine WL.nil (thn_n (WP.seq (WP.reg ?_)))
  refine qM (pO b_17 0) rfl rfl (qV rfl (R.loadA [] [(32, key.map vu8)] [] (cs := key.map vu8) rfl isAgg23 sizeOf23 (h_33.ok _ M11) rfl rfl rfl rfl) (qM (vi pg) rfl rfl (qM (vu64 ct) rfl rfl (qV rfl (R.loadA [] [(128, gr.map vu8)] [] (cs := gr.map vu8) rfl isAgg29 sizeOf29 (h_33.ok _ M10) rfl rfl rfl rfl) ?_))))
  refine WL.call Tryz.call21 rfl rfl (c_Open_no id b_17 b_18 ms hms a_19 n c_20 0 none 0 0 key gr hk hgr pg hpg ct _ (h_33.argR M3)) rfl ?_
  rintro _ w_35 ⟨rfl, hc_34⟩
  have h_36 := h_33.same hc_34
  refine qM (.tuple [(.agg ⟨(zB 128).map vu8⟩), (vi 2)].toArray) rfl rfl (qV rfl (R.extract rfl rfl) (qV rfl (R.extract rfl rfl) ?_))
  refine WL.alloc (segs := [(128, (zB 128).map vu8)]) h_36 (zv typeInfo29 rfl) rfl (sC (s8 lr) sN) rfl (fun b_37 w_38 h_39 => ?_)
  refine WL.storeA [] [(128, (zB 128).map vu8)] [(128, (zB 128).map vu8)] [] h_39 rfl rfl sizeOf29 At.h (by decide) rfl rfl rfl rfl rfl rfl (sC (s8 lr) sN) (fun w_40 h_41 => ?_)
  refine qA (vi 2) rfl rfl ?_
  refine WL.nil (thn_n (WP.seq (WP.seq (WP.reg ?_))))
  refine qM (vi pg) rfl rfl (qM (vu64 ct) rfl rfl ?_)
  refine WL.call Tryz.call13 rfl rfl (c_May16_no pg hpg ct _ ) rfl ?_
  rintro _ w_43 ⟨rfl, hc_42⟩
  have h_44 := h_41.same hc_42
  refine qV rfl (R.not (b := false) rfl) ?_
  refine WL.nil (thn_n ?_)
  refine WP.condT rfl ?_
  refine WP.seq (WP.reg ?_)
  refine qV rfl (R.loadA [] [(128, (zB 128).map vu8)] [] (cs := (zB 128).map vu8) rfl isAgg29 sizeOf29 (h_44.ok _ M1) rfl rfl rfl rfl) (qV rfl (R.buildA (vs := []) (cs := (zB 128).map vu8) underlying29 sizeOf5 (zv typeInfo29 rfl) rfl rfl) (qV rfl (R.eqA (xs := (zB 128).map vu8) (ys := (zB 128).map vu8) (r := true) rfl rfl eqGuardType29 kt29 (by decide) ag29 (Typ.u8s underlying29 ce29 underlying5 ce5 lr) (Typ.u8s underlying29 ce29 underlying5 ce5 lr) (eqT rfl)) (qM (.bool true) rfl rfl ?_)))
  refine WL.want rfl rfl ?_
  refine qV rfl (R.loadA [] [(128, (zB 128).map vu8)] [] (cs := (zB 128).map vu8) rfl isAgg29 sizeOf29 (h_44.ok _ M0) rfl rfl rfl rfl) ?_
  refine WL.want rfl rfl ?_
  refine qV rfl (R.loadA [] [(128, (zB 128).map vu8)] [] (cs := (zB 128).map vu8) rfl isAgg29 sizeOf29 (h_44.ok _ M1) rfl rfl rfl rfl) ?_
  refine WL.want rfl rfl ?_
  refine qV rfl (R.eqA (xs := (zB 128).map vu8) (ys := (zB 128).map vu8) (r := true) rfl rfl eqGuardType29 kt29 (by decide) ag29 (Typ.u8s underlying29 ce29 underlying5 ce5 lr) (Typ.u8s underlying29 ce29 underlying5 ce5 lr) (eqT rfl)) (qV rfl (R.pickT (v := (.bool true)) rfl rfl) (qM (.bool true) rfl rfl ?_))
  refine WL.want rfl rfl ?_
  refine qM (vi 2) rfl rfl ?_
  refine WL.want rfl rfl ?_
  refine WL.call Tryz.call15 rfl rfl (c_num16 2 (by omega) _ ) rfl ?_
  rintro _ w_46 ⟨rfl, hc_45⟩
  have h_47 := h_44.same hc_45
  refine WL.want rfl rfl ?_
  refine qV rfl (R.bin rfl rfl (bi_eql (r := true) (by decide))) (qV rfl (R.pickT (v := (.bool true)) rfl rfl) (qM (.bool true) rfl rfl ?_))
  refine WL.want rfl rfl ?_
  refine qM (vi 2) rfl rfl ?_
  refine WL.want rfl rfl ?_
  refine WL.call Tryz.call15 rfl rfl (c_num16 2 (by omega) _ ) rfl ?_
  rintro _ w_49 ⟨rfl, hc_48⟩
  have h_50 := h_47.same hc_48
  refine WL.want rfl rfl ?_
  refine qV rfl (R.bin rfl rfl (bi_eql (r := true) (by decide))) (qV rfl (R.pickT (v := (.bool true)) rfl rfl) (qM (.bool true) rfl rfl ?_))
  refine WL.want rfl rfl ?_
  refine qM (pO b_17 0) rfl rfl ?_
  refine WL.want rfl rfl ?_
  have h_55 := ((((h_50.up J8).up J3).up J7).up J5).up J6
  refine WL.call Tryz.call19 rfl rfl (c_oLog id b_17 b_18 ms df hms a_19 n c_20 0 hl none 0 [] ([] : Lg) (by first | decide | omega | exact Nat.le_trans gSt_u (by decide)) (by first | decide | omega | exact Nat.le_trans gSt_l (by decide)) _ h_55) rfl ?_
  rintro _ w_59 ⟨a_56, c_57, ys_58, rfl, h_60⟩
  refine WL.want rfl rfl ?_
  refine qV rfl (R.lenS (a := a_56) (m := 0) rfl rfl underlying44) ?_
  refine WL.want rfl rfl ?_
  refine qV rfl (R.bin rfl rfl (bi_eql (r := true) (by decide))) (qV rfl (R.pickT (v := (.bool true)) rfl rfl) (qM (.bool true) rfl rfl ?_))
  refine WL.want rfl rfl ?_
  refine WL.call Tryz.call10 rfl rfl (c_known16  _ ) rfl ?_
  rintro _ w_62 ⟨rfl, hc_61⟩
  have h_63 := h_60.same hc_61
  refine qV rfl (R.pickT (v := (.bool true)) rfl rfl) (qA (.bool true) rfl rfl ?_)
  refine WL.nil (thn_n (WP.ret (thn_r ?_)))
  refine ret_of results4 (RV.tmp (v := (.bool true)) rfl RV.nil) ?_
  exact ⟨rfl, h_63.chgS⟩

theorem w_BlobSeals (id : Bool) (ms df : List UInt8) (hms : ms.length = 32) (da0 : Option Addr) (n cap0 : Nat) (hl : df.length = 32 * n) (key gr : List UInt8) (hk : key.length = 32) (hgr : gr.length = 128) (pg : Int) (ct : UInt64) (w : World) (hv : View w da0 (df.map vu8)) : Cs Tryz.prog 4 [(.agg ⟨flat [(1, [(.bool id)]), (32, ms.map vu8), (1, [(.slice da0 n cap0)])]⟩), (.agg ⟨key.map vu8⟩), (vi pg), (vu64 ct), (.agg ⟨gr.map vu8⟩)].toArray w (fun v w1 => v = (.bool true) ∧ Chg w w1 []) := by
 by_cases hpg : 0 ≤ pg ∧ pg < 128
 ·obtain ⟨p, rfl⟩ := Int.eq_ofNat_of_zero_le hpg.1
  by_cases hct : ct > 4294967296
  ·exact w_BS_ct id ms df hms da0 n cap0 hl key gr hk hgr p (by omega) ct hct w hv
  ·exact w_BS_ok id ms df hms da0 n cap0 hl key gr hk hgr p (by omega) ct hct w hv
 ·exact w_BS_no id ms df hms da0 n cap0 hl key gr hk hgr pg hpg ct w hv
namespace blobSealsDone
open Go.ChangeShapes Go.WideShapes Go.ChangeAt
theorem own : ownKnob Tryz.prog.godebug = none := by kernel_rfl
theorem laidOut : laidOutB Tryz.prog = true := by kernel_rfl
set_option maxRecDepth 100000 in
theorem lifted (os : Os) (started : os.Started) (H : Type) (enc : TypeId × Value → H) :
  ReturnsInHanded {} Tryz.checked os 4 .any (Rows.blobSealsSpec.pre6 enc Tryz.prog Tryz.f4 Rows.blobSealsRow.domain false) (Rows.blobSealsSpec.post enc Tryz.prog Tryz.f4 false true false false) := by
 refine returnsInHanded_of_change (C := Tryz.checked) own started (by kernel_rfl) Tryz.func4
  (ChangeSpec.witness6 (enc := enc) (C := Tryz.checked) false ⟨#[], #[.agg #[.bool false, .int .u8 0, .int .u8 0, .int .u8 0, .int .u8 0, .int .u8 0, .int .u8 0, .int .u8 0, .int .u8 0, .int .u8 0, .int .u8 0, .int .u8 0, .int .u8 0, .int .u8 0, .int .u8 0, .int .u8 0, .int .u8 0, .int .u8 0, .int .u8 0, .int .u8 0, .int .u8 0, .int .u8 0, .int .u8 0, .int .u8 0, .int .u8 0, .int .u8 0, .int .u8 0, .int .u8 0, .int .u8 0, .int .u8 0, .int .u8 0, .int .u8 0, .int .u8 0, .slice none 0 0], .agg #[.int .u8 0, .int .u8 0, .int .u8 0, .int .u8 0, .int .u8 0, .int .u8 0, .int .u8 0, .int .u8 0, .int .u8 0, .int .u8 0, .int .u8 0, .int .u8 0, .int .u8 0, .int .u8 0, .int .u8 0, .int .u8 0, .int .u8 0, .int .u8 0, .int .u8 0, .int .u8 0, .int .u8 0, .int .u8 0, .int .u8 0, .int .u8 0, .int .u8 0, .int .u8 0, .int .u8 0, .int .u8 0, .int .u8 0, .int .u8 0, .int .u8 0, .int .u8 0], .int .i64 0, .int .u64 0, .agg #[.int .u8 0, .int .u8 0, .int .u8 0, .int .u8 0, .int .u8 0, .int .u8 0, .int .u8 0, .int .u8 0, .int .u8 0, .int .u8 0, .int .u8 0, .int .u8 0, .int .u8 0, .int .u8 0, .int .u8 0, .int .u8 0, .int .u8 0, .int .u8 0, .int .u8 0, .int .u8 0, .int .u8 0, .int .u8 0, .int .u8 0, .int .u8 0, .int .u8 0, .int .u8 0, .int .u8 0, .int .u8 0, .int .u8 0, .int .u8 0, .int .u8 0, .int .u8 0, .int .u8 0, .int .u8 0, .int .u8 0, .int .u8 0, .int .u8 0, .int .u8 0, .int .u8 0, .int .u8 0, .int .u8 0, .int .u8 0, .int .u8 0, .int .u8 0, .int .u8 0, .int .u8 0, .int .u8 0, .int .u8 0, .int .u8 0, .int .u8 0, .int .u8 0, .int .u8 0, .int .u8 0, .int .u8 0, .int .u8 0, .int .u8 0, .int .u8 0, .int .u8 0, .int .u8 0, .int .u8 0, .int .u8 0, .int .u8 0, .int .u8 0, .int .u8 0, .int .u8 0, .int .u8 0, .int .u8 0, .int .u8 0, .int .u8 0, .int .u8 0, .int .u8 0, .int .u8 0, .int .u8 0, .int .u8 0, .int .u8 0, .int .u8 0, .int .u8 0, .int .u8 0, .int .u8 0, .int .u8 0, .int .u8 0, .int .u8 0, .int .u8 0, .int .u8 0, .int .u8 0, .int .u8 0, .int .u8 0, .int .u8 0, .int .u8 0, .int .u8 0, .int .u8 0, .int .u8 0, .int .u8 0, .int .u8 0, .int .u8 0, .int .u8 0, .int .u8 0, .int .u8 0, .int .u8 0, .int .u8 0, .int .u8 0, .int .u8 0, .int .u8 0, .int .u8 0, .int .u8 0, .int .u8 0, .int .u8 0, .int .u8 0, .int .u8 0, .int .u8 0, .int .u8 0, .int .u8 0, .int .u8 0, .int .u8 0, .int .u8 0, .int .u8 0, .int .u8 0, .int .u8 0, .int .u8 0, .int .u8 0, .int .u8 0, .int .u8 0, .int .u8 0, .int .u8 0, .int .u8 0, .int .u8 0, .int .u8 0, .int .u8 0]], []⟩ 8 (by kernel_rfl) (by kernel_rfl) (by kernel_rfl) (by kernel_rfl)) ?_
 intro W base args ds gs before hval0 hW hcnd _
 have hval : ∀ (j : Nat) t v, Tryz.f4.params[j]? = some t → args[j]? = some v → Value.okWide Tryz.prog W .any base t v := hval0
 have hW' := hW
 obtain ⟨p, q, hA0, hV, rfl, hfz, hnd⟩ := hW
 have hA : DataW.TrodAll enc Tryz.prog W 0 (fun _ => true) true Tryz.f4.params.toList args.toList ds p := hA0
 rw [Tryz.params4] at hA hval
 obtain ⟨v0, vs0, d0, ds0, p0, q0, hargs, rfl, rfl, h0, r0⟩ := trodAll_cons hA
 obtain ⟨v1, vs1, d1, ds1, p1, q1, rfl, rfl, rfl, h1, r1⟩ := trodAll_cons r0
 obtain ⟨v2, vs2, d2, ds2, p2, q2, rfl, rfl, rfl, h2, r2⟩ := trodAll_cons r1
 obtain ⟨v3, vs3, d3, ds3, p3, q3, rfl, rfl, rfl, h3, r3⟩ := trodAll_cons r2
 obtain ⟨v4, vs4, d4, ds4, p4, q4, rfl, rfl, rfl, h4, r4⟩ := trodAll_cons r3
 obtain ⟨rfl, rfl, rfl⟩ := trodAll_nil r4
 obtain rfl : args = #[v0, v1, v2, v3, v4] := by cases args; simp_all
 obtain ⟨rfl, rfl⟩ := trodVars_none hV
 have lt0 : ∀ x ∈ p0, x.block < W.heap.size := by obtain ⟨m, hm⟩ := h0; exact DataW.trod_lt m _ _ _ hm
 obtain ⟨cs0, rfl⟩ := okWide_agg aggT26 (hval 0 26 v0 rfl rfl)
 have tr0 : Tr Tryz.prog W 26 cs0 := Tr.of h0 rfl
 have tl_x0 := Tr.struct (l := [(1, 4), (32, 23), (1, 24)]) underlying26 ce26 (by kernel_rfl) tr0
 obtain ⟨a_x00, r_x00, rfl, n_x00, t_x00, tl_x00⟩ := tl_x0
 obtain ⟨x00, rfl⟩ := Tr.bool underlying4 t_x00
 obtain ⟨a_x01, r_x01, rfl, n_x01, t_x01, tl_x01⟩ := tl_x00
 obtain ⟨x01, rfl, l_x01⟩ := Tr.arr8 underlying23 ce23 ce5 underlying5 t_x01
 obtain ⟨a_x02, r_x02, rfl, n_x02, t_x02, tl_x02⟩ := tl_x01
 obtain ⟨sa_x02, sn_x02, sc_x02, x02, rfl, l_x02, hc_x02, hm_x02, hv_x02⟩ := Tr.slA8 underlying24 ce23 underlying23 ce5 underlying5 t_x02
 obtain rfl := tl_x02
 have lt1 : ∀ x ∈ p1, x.block < W.heap.size := by obtain ⟨m, hm⟩ := h1; exact DataW.trod_lt m _ _ _ hm
 obtain ⟨cs1, rfl⟩ := okWide_agg aggT23 (hval 1 23 v1 rfl rfl)
 have tr1 : Tr Tryz.prog W 23 cs1 := Tr.of h1 rfl
 obtain ⟨x1, rfl, l_x1⟩ := Tr.arr8 underlying23 ce23 ce5 underlying5 tr1
 have lt2 : ∀ x ∈ p2, x.block < W.heap.size := by obtain ⟨m, hm⟩ := h2; exact DataW.trod_lt m _ _ _ hm
 obtain ⟨x2, rfl⟩ := okWide_int underlying3 (hval 2 3 v2 rfl rfl)
 have b_x2 := Tr.i64' underlying3 (Tr.of h2 rfl)
 have lt3 : ∀ x ∈ p3, x.block < W.heap.size := by obtain ⟨m, hm⟩ := h3; exact DataW.trod_lt m _ _ _ hm
 obtain ⟨n3, rfl⟩ := okWide_int underlying27 (hval 3 27 v3 rfl rfl)
 obtain ⟨x3, rfl⟩ := Tr.u64' underlying27 (Tr.of h3 rfl)
 have lt4 : ∀ x ∈ p4, x.block < W.heap.size := by obtain ⟨m, hm⟩ := h4; exact DataW.trod_lt m _ _ _ hm
 obtain ⟨cs4, rfl⟩ := okWide_agg aggT29 (hval 4 29 v4 rfl rfl)
 have tr4 : Tr Tryz.prog W 29 cs4 := Tr.of h4 rfl
 obtain ⟨x4, rfl, l_x4⟩ := Tr.arr8 underlying29 ce29 ce5 underlying5 tr4
 clear hA0 hval0
 have hw : Cs Tryz.prog 4 [(.agg ⟨flat [(1, [(.bool x00)]), (32, x01.map vu8), (1, [(.slice sa_x02 sn_x02 sc_x02)])]⟩), (.agg ⟨x1.map vu8⟩), (vi x2), (vu64 x3), (.agg ⟨x4.map vu8⟩)].toArray W (fun v w1 => v = .bool true ∧ Chg W w1 []) := w_BlobSeals x00 x01 x02 l_x01 sa_x02 sn_x02 sc_x02 l_x02 x1 x4 l_x1 l_x4 x2 x3 W hv_x02.1
 have ea : ([(.agg ⟨flat [(1, [(.bool x00)]), (32, x01.map vu8), (1, [(.slice sa_x02 sn_x02 sc_x02)])]⟩), (.agg ⟨x1.map vu8⟩), (vi x2), (vu64 x3), (.agg ⟨x4.map vu8⟩)] : List Value).toArray = (#[.agg ⟨([.bool x00] ++ (x01.map vu8 ++ ([.slice sa_x02 sn_x02 sc_x02] ++ [])))⟩, .agg ⟨x1.map vu8⟩, (vi x2), (vu64 x3), .agg ⟨x4.map vu8⟩] : Array Value) := by simp [flat]
 rw [ea] at hw
 refine Calls.mono (Cs.below hw) fun e W' ⟨he, bel⟩ => ?_
 subst he
 exact ⟨_, rfl, _, _, _, [], _, [], hW', trodAll_mk1 (shut_bool underlying4 _), (trodAll_cons_mk (Below.trod laidOut (by kernel_rfl) (of_decide_eq_true (by kernel_rfl)) h0 bel lt0) (trodAll_cons_mk (Below.trod laidOut (by kernel_rfl) (of_decide_eq_true (by kernel_rfl)) h1 bel lt1) (trodAll_cons_mk (Below.trod laidOut (by kernel_rfl) (of_decide_eq_true (by kernel_rfl)) h2 bel lt2) (trodAll_cons_mk (Below.trod laidOut (by kernel_rfl) (of_decide_eq_true (by kernel_rfl)) h3 bel lt3) (trodAll_cons_mk (Below.trod laidOut (by kernel_rfl) (of_decide_eq_true (by kernel_rfl)) h4 bel lt4) trodAll_mk0))))), rfl, bel.frame _, fun h => by cases h⟩
theorem over : Rows.blobSealsRow.holds Tryz.pinned (OpenSpec.ofChange Rows.blobSealsSpec) :=
 OpenClaim.holds_of_wide 4 Tryz.f4 rfl rfl rfl rfl rfl rfl rfl ⟨rfl, rfl, rfl, rfl, rfl⟩ rfl rfl rfl rfl rfl (by kernel_rfl) Tryz.func4 (by kernel_rfl)
  (of_decide_eq_true (by kernel_rfl)) (by unfold Func.isWrapper; first | (rw [if_pos (by decide +kernel)]; kernel_rfl) | (rw [if_neg (by decide +kernel)]; exact ⟨rfl, rfl⟩))
  (fun os started H enc _ => lifted os started H enc)
theorem proved : Rows.BlobSealsSaid := over
end blobSealsDone
end Go.Proofs.YteclkcpdclimnaaGreat
