/- OracleAgain holds of every input. Conditions: none. -/
import Derived.Test.YtajiipjmmoehcaaGreatZ5OracleAgain
set_option linter.unusedVariables false
set_option linter.unusedSimpArgs false
set_option linter.unusedSectionVars false
namespace Go.Proofs.YtajiipjmmoehcaaGreat
open Go.Proofs.Tryz
open Go.Vc Go.Orc Go.Sh Go.RowKit
set_option linter.unusedVariables false
set_option linter.unusedSimpArgs false
set_option maxRecDepth 20000
theorem pl33 : ∀ fs, Tryz.prog.underlying 33 = some (.struct fs) → Places Tryz.prog fs [(0, 1), (1, 32), (33, 1), (34, 1), (35, 1)] := by
 intro fs h w; rw [underlying33] at h; cases h; simp
theorem w_OracleAgain (df : List UInt8) (da0 : Option Addr) (n cap0 : Nat) (hl : df.length = 32 * n) (ar : Option Addr) (nr cr : Nat) (es : List Ae) (hel : es.length = nr) (hes : ∀ e ∈ es, okAe e) (hcr : nr ≤ cr) (hcm : cr ≤ maxLen) (ar2 : Option Addr) (nr2 cr2 : Nat) (ks : List Ae) (hkl : ks.length = nr2) (hks : ∀ e ∈ ks, okAe e) (hcr2 : nr2 ≤ cr2) (hcm2 : cr2 ≤ maxLen) (w : World) (hv : View w da0 (df.map vu8)) (hve : View w ar (aesC es)) (hak : Aks w es) (hve2 : View w ar2 (aesC ks)) (hak2 : Aks w ks) :
  Cs Tryz.prog 3 [(.slice da0 n cap0), (.slice ar nr cr), (.slice ar2 nr2 cr2)].toArray w (fun v w1 => v = (.bool true) ∧ Chg w w1 []) := by
 refine Cs.of (n := 155) (args := [(.slice da0 n cap0), (.slice ar nr cr), (.slice ar2 nr2 cr2)]) Tryz.func3 rfl rfl rfl ?_
 have h_0 := HP.init w
 have h_01 := h_0.oldV (View.arg hv) rfl (by simp [Ent.mut])
 have h_02 := h_01.oldV (View.arg hve) rfl (by simp [Ent.mut])
 have h_03 := h_02.oldV (Aks.pin hak) rfl (by simp [Ent.mut])
 have h_04 := h_03.oldV (View.arg hve2) rfl (by simp [Ent.mut])
 have h_00 := h_04.oldV (Aks.pin hak2) rfl (by simp [Ent.mut])
 refine WP.seq (WP.reg ?_)
 refine qA (.bool false) rfl rfl ?_
 refine WL.nil (thn_n (WP.seq (WP.seq (WP.reg ?_))))
 refine qM (.slice ar nr cr) rfl rfl ?_
 refine WL.call Tryz.call5 rfl rfl (c_much ar nr cr es hel hes (Nat.le_trans hcr hcm) _ (viewV (h_00.ok _ M3)) (h_00.ok _ M2).1) rfl ?_
 rintro _ w_4 ⟨bd_1, rfl, hd_2, hc_3⟩
 have h_5 := h_00.same hc_3
 refine qM (.bool bd_1) rfl rfl ?_
 rcases Bool.eq_false_or_eq_true bd_1 with c_6 | c_6
 ·refine WL.skip rfl (congrArg Value.bool c_6) rfl ?_
  refine WL.skip rfl (congrArg Value.bool c_6) rfl ?_
  refine qV rfl (R.pickT (v := (.bool true)) (congrArg Value.bool c_6) rfl) (qM (.bool true) rfl rfl ?_)
  refine WL.skip rfl rfl rfl ?_
  refine WL.skip rfl rfl rfl ?_
  refine WL.skip rfl rfl rfl ?_
  refine qV rfl (R.pickT (v := (.bool true)) rfl rfl) ?_
  refine WL.nil (thn_n ?_)
  refine WP.condT rfl ?_
  refine WP.seq (WP.reg ?_)
  refine WL.call Tryz.call6 rfl rfl (c_known05  _ ) rfl ?_
  rintro _ w_8 ⟨rfl, hc_7⟩
  have h_9 := h_5.same hc_7
  refine qA (.bool true) rfl rfl ?_
  refine WL.nil (thn_n (WP.ret (thn_r ?_)))
  refine ret_of results3 (RV.tmp (v := (.bool true)) rfl RV.nil) ?_
  exact ⟨rfl, h_9.chgS⟩
 ·refine WL.want rfl (congrArg Value.bool c_6) ?_
  refine qM (.slice ar2 nr2 cr2) rfl rfl ?_
  refine WL.want rfl (congrArg Value.bool c_6) ?_
  refine WL.call Tryz.call5 rfl rfl (c_much ar2 nr2 cr2 ks hkl hks (Nat.le_trans hcr2 hcm2) _ (viewV (h_5.ok _ M1)) (h_5.ok _ M0).1) rfl ?_
  rintro _ w_13 ⟨bd_10, rfl, hd_11, hc_12⟩
  have h_14 := h_5.same hc_12
  refine qV rfl (R.pickF (v := (.bool bd_10)) (congrArg Value.bool c_6) rfl) (qM (.bool bd_10) rfl rfl ?_)
  rcases Bool.eq_false_or_eq_true bd_10 with c_15 | c_15
  ·refine WL.skip rfl (congrArg Value.bool c_15) rfl ?_
   refine WL.skip rfl (congrArg Value.bool c_15) rfl ?_
   refine WL.skip rfl (congrArg Value.bool c_15) rfl ?_
   refine qV rfl (R.pickT (v := (.bool true)) (congrArg Value.bool c_15) rfl) ?_
   refine WL.nil (thn_n ?_)
   refine WP.condT rfl ?_
   refine WP.seq (WP.reg ?_)
   refine WL.call Tryz.call6 rfl rfl (c_known05  _ ) rfl ?_
   rintro _ w_17 ⟨rfl, hc_16⟩
   have h_18 := h_14.same hc_16
   refine qA (.bool true) rfl rfl ?_
   refine WL.nil (thn_n (WP.ret (thn_r ?_)))
   refine ret_of results3 (RV.tmp (v := (.bool true)) rfl RV.nil) ?_
   exact ⟨rfl, h_18.chgS⟩
  ·refine WL.want rfl (congrArg Value.bool c_15) ?_
   refine qM (.slice da0 n cap0) rfl rfl ?_
   refine WL.want rfl (congrArg Value.bool c_15) ?_
   refine qV rfl (R.lenS (a := da0) (m := n) rfl rfl underlying22) ?_
   refine WL.want rfl (congrArg Value.bool c_15) ?_
   refine qV rfl (R.bin rfl rfl (bi_gtr (r := decide ((((n : Nat) : Int) : Int) > 60)) rfl)) (qV rfl (R.pickF (v := (.bool (decide ((((n : Nat) : Int) : Int) > 60)))) (congrArg Value.bool c_15) rfl) ?_)
   refine WL.nil (thn_n ?_)
   refine WP.cond (b := decide ((((n : Nat) : Int) : Int) > 60)) rfl (fun c_19 => ?_) (fun c_19 => ?_)
   ·have p_20 := of_decide_eq_true c_19
    refine WP.seq (WP.reg ?_)
    refine WL.call Tryz.call6 rfl rfl (c_known05  _ ) rfl ?_
    rintro _ w_22 ⟨rfl, hc_21⟩
    have h_23 := h_14.same hc_21
    refine qA (.bool true) rfl rfl ?_
    refine WL.nil (thn_n (WP.ret (thn_r ?_)))
    refine ret_of results3 (RV.tmp (v := (.bool true)) rfl RV.nil) ?_
    exact ⟨rfl, h_23.chgS⟩
   ·have p_24 := of_decide_eq_false c_19
    refine WP.skip (thn_n (WP.seq (WP.reg ?_)))
    refine qV rfl (R.buildA (vs := []) (cs := (zB 32).map vu8) underlying29 sizeOf5 (zv typeInfo29 rfl) rfl rfl) (qM (.slice da0 n cap0) rfl rfl ?_)
    have h_25 := h_14.up J4
    refine WL.call Tryz.call7 rfl rfl (c_ONew true (zB 32) df lr da0 n cap0 hl (by omega) _ h_25) rfl ?_
    rintro _ w_30 ⟨b_26, b_27, a_28, c_29, rfl, h_31⟩
    refine qA (pO b_26 0) rfl rfl ?_
    refine WL.nil (thn_n (WP.seq (WP.reg ?_)))
    refine qM (.slice da0 n cap0) rfl rfl (qV rfl (R.buildS (pl := [(0, 1), (1, 32), (33, 1), (34, 1), (35, 1)]) (zs := [(1, [(.bool false)]), (32, (zB 32).map vu8), (1, [(.slice none 0 0)]), (1, [(vi 0)]), (1, [(.slice none 0 0)])]) (vs := [(0, (.bool true)), (2, (.slice da0 n cap0))]) (out := [(1, [(.bool true)]), (32, (zB 32).map vu8), (1, [(.slice da0 n cap0)]), (1, [(vi 0)]), (1, [(.slice none 0 0)])]) underlying33 (zv typeInfo33 rfl) rfl (sC sV (sC (s8 lr) (sC sV (sC sV (sC sV sN))))) (pl33 _ underlying33) rfl (FillR.cons [] [(1, [(.bool false)])] [(1, [(.bool true)])] [(32, (zB 32).map vu8), (1, [(.slice none 0 0)]), (1, [(vi 0)]), (1, [(.slice none 0 0)])] rfl rfl rfl rfl (sC sV sN) rfl rfl rfl (FillR.cons [(1, [(.bool true)]), (32, (zB 32).map vu8)] [(1, [(.slice none 0 0)])] [(1, [(.slice da0 n cap0)])] [(1, [(vi 0)]), (1, [(.slice none 0 0)])] rfl rfl rfl rfl (sC sV sN) rfl rfl rfl FillR.nil)) rfl) ?_)
    refine WL.box (segs := [(1, [(.bool true)]), (32, (zB 32).map vu8), (1, [(.slice da0 n cap0)]), (1, [(vi 0)]), (1, [(.slice none 0 0)])]) h_31 rfl rfl (sC sV (sC (s8 lr) (sC sV (sC sV (sC sV sN))))) rfl (fun b_33 w_34 h_35 => ?_)
    refine qA (pO b_33 0) rfl rfl ?_
    refine WL.nil (thn_n (WP.seq (WP.seq (WP.reg ?_))))
    refine qA (vi 0) rfl rfl ?_
    refine WL.nil (thn_n (WP.block ?_))
    have h_36 := h_35.rowNil 47 67
    have h_37 := HP_logNil h_36
    have h_50 := ((((((((((((h_37.up J9).up J11).up J11).up J12).up J12).up J5).up J6).up J7).up J12).up J12).up J12).up J12).up J12
    have hm1 := (hd_2 c_6)
    have hm2 := (hd_11 c_15)
    have hn40 := hm1.1
    have hn41 := hm2.1
    refine WP.loopG (G := Nat × Option Addr × Nat × List Value × Option Addr × Nat × List Value) [6, 9, 37, 38, 39, 40, 41, 42, 43, 44, 45, 46, 47, 48, 49, 50] (fun (k, la2, lc2, lx2, ra2, rc2, rx2) => [(9, (vn k))]) (fun (k, la2, lc2, lx2, ra2, rc2, rx2) m w1 => HP w w1 [.blk b_26 .nw 66 [(1, [(.bool true)]), (32, (zB 32).map vu8), (1, [(.slice a_28 n c_29)]), (1, [(vn ((allS df n es 0 ([] : Lg) k).1))]), (1, [(.map (some b_27))]), (1, [(.slice la2 ((allS df n es 0 ([] : Lg) k).2.length) lc2)])], .row la2 ((allS df n es 0 ([] : Lg) k).2.length) lc2 47 67 lx2, .obj b_27 .nw (.map (mArr ((allS df n es 0 ([] : Lg) k).2)) ((allS df n es 0 ([] : Lg) k).2.length)), .pin (sblks lx2) (fun w => Lgs w lx2 ((allS df n es 0 ([] : Lg) k).2)), .view a_28 (df.map vu8), .blk b_33 .nw 33 [(1, [(.bool true)]), (32, (zB 32).map vu8), (1, [(.slice da0 n cap0)]), (1, [(vn ((allS df n es 0 ([] : Lg) k).1))]), (1, [(.slice ra2 ((allS df n es 0 ([] : Lg) k).2.length) rc2)])], .row ra2 ((allS df n es 0 ([] : Lg) k).2.length) rc2 47 67 rx2, .pin (sblks rx2) (fun w => Lgs w rx2 ((allS df n es 0 ([] : Lg) k).2)), .view da0 (df.map vu8), .view ar (aesC es), .view ar2 (aesC ks), .pin (akBs es) (fun w => Aks w es), .pin (akBs ks) (fun w => Aks w ks)] ∧ (k ≤ nr) ∧ m = nr + 1 - k) ⟨(0, none, 0, [], none, 0, []), _, ⟨rfl, trivial⟩, h_50, Nat.zero_le _, rfl⟩ ?_
    rintro ⟨k, la2, lc2, lx2, ra2, rc2, rx2⟩ m_53 J_54 w_51 ⟨h_52, hkn, rfl⟩
    have hsu : (allS df n es 0 ([] : Lg) k).1 ≤ 32 * k := by have := allS_u (df := df) (dn := n) (es := es) (u := 0) (lg := []) k; omega
    have hsl : (allS df n es 0 ([] : Lg) k).2.length ≤ 32 * k := by have := allS_l (df := df) (dn := n) (es := es) (u := 0) (lg := []) k; rw [List.length_nil] at this; omega
    have hs32 := allS_32 (es := es) (u := 0) hl okN k
    have hli := allS_LI (df := df) (dn := n) (es := es) LI.nil k
    refine WP.seq (WP.seq (WP.reg ?_))
    refine qM (vn k) rfl rfl (qM (.slice ar nr cr) rfl rfl (qV rfl (R.lenS (a := ar) (m := nr) rfl rfl underlying23) (qV rfl (R.bin rfl rfl (bi_lss (r := decide ((((k : Nat) : Int) : Int) < ((nr : Nat) : Int))) rfl)) ?_)))
    refine WL.nil (thn_n ?_)
    refine WP.cond (b := decide ((((k : Nat) : Int) : Int) < ((nr : Nat) : Int))) rfl (fun c_55 => ?_) (fun c_55 => ?_)
    ·have p_56 := of_decide_eq_true c_55
     refine WP.skip (thn_n (WP.seq (WP.block (WP.seq ?_))))
     have hlk : k < es.length := by omega
     have hrk : okAe (es.getD k zAe) := hes _ (getD_mem hlk)
     have hrck : (es.getD k zAe).data.length ≤ (es.getD k zAe).c := hrk.2.1
     have h_57 := h_52.within (e' := .view (es.getD k zAe).a (((es.getD k zAe).data).map vu8)) M11 rfl (View.arg (ae_v (h_52.ok _ M11).1 hlk)) rfl rfl (ae_b hlk)
     have hdk := hm1.2 k hlk
     refine WP.reg ?_
     refine qM (pO b_26 0) rfl rfl (qM (pO b_33 0) rfl rfl (qM (.slice ar nr cr) rfl rfl (qM (vn k) rfl rfl (qV rfl (R.indexS (a := ar) (i := k) (off := k * 37) (xs := aesC es) rfl rfl rfl (by omega) (viewV (h_57.ok _ M10)) (by rw [aesC_len hes]; omega) underlying23 sizeOf41 rfl) (qV rfl (R.loadGA (a := ar) (i := k * 37) (xs := aesC es) (cs := flat [(1, [(vi ((es.getD k zAe).k))]), (1, [(vi ((es.getD k zAe).n))]), (1, [(vi ((es.getD k zAe).kd))]), (32, ((es.getD k zAe).key).map vu8), (1, [(vi ((es.getD k zAe).dm))]), (1, [(.slice ((es.getD k zAe).a) ((es.getD k zAe).data.length) ((es.getD k zAe).c))])]) rfl (viewV (h_57.ok _ M10)) isAgg41 sizeOf41 (aesC_at hes hlk) (aeC_len hrk) (by decide)) ?_)))))
     have h_66 := ((((((((h_57.up J9).up J9).up J9).up J9).up J9).up J9).up J9).up J9).up J9
     refine WL.call Tryz.call8 rfl rfl (c_one b_26 b_27 df a_28 n c_29 ((allS df n es 0 ([] : Lg) k).1) hl la2 lc2 lx2 ((allS df n es 0 ([] : Lg) k).2) (by first | decide | omega) (by first | decide | omega) b_33 da0 cap0 ra2 rc2 rx2 (es.getD k zAe) hrk hdk _ h_66) rfl ?_
     rintro _ w_73 ⟨la_67, lc_68, lx_69, ra_70, rc_71, rx_72, rfl, h_74⟩
     refine qV rfl (R.not (b := true) rfl) ?_
     refine WL.nil (thn_n ?_)
     refine WP.condF rfl ?_
     refine WP.skip (inb_n (thn_n (WP.reg ?_)))
     refine qM (vn k) rfl rfl (qV rfl (R.bin rfl rfl (bi_add (c := ((k + 1 : Nat) : Int)) (by omega) (by omega))) (qA (vn (k + 1)) rfl rfl ?_))
     refine WL.nil (thn_n ?_)
     have h_89 := ((((((((((((((h_74.up J9).drop rfl).up J12).up J12).up J12).up J12).up J12).up J12).up J12).up J12).up J12).up J12).up J12).up J12).up J12
     exact ⟨(k + 1, la_67, lc_68, lx_69, ra_70, rc_71, rx_72), _, (by omega), (Ag.upd rfl (U2 rfl rfl (U4 rfl rfl rfl rfl (U4 rfl rfl rfl rfl (U4 rfl rfl rfl rfl (Ag.updL rfl (Ag.mix _ _ _))))))), ⟨rfl, trivial⟩, h_89, (by omega), rfl⟩
    ·have p_90 := of_decide_eq_false c_55
     refine WP.exit (thn_x (thn_x (inb_hit (thn_n (WP.seq ?_)))))
     have hkle : k ≤ 40 := by omega
     refine WP.reg ?_
     refine qM (pO b_26 0) rfl rfl ?_
     have h_95 := ((((h_52.up J4).up J4).up J4).up J4).up J4
     refine WL.call Tryz.call9 rfl rfl (c_oCopyI true b_26 b_27 (zB 32) df lr a_28 n c_29 ((allS df n es 0 ([] : Lg) k).1) hl la2 lc2 lx2 ((allS df n es 0 ([] : Lg) k).2) (by first | decide | omega) (by first | decide | omega) hli.2 (by omega) _ h_95) rfl ?_
     rintro _ w_102 ⟨b_96, b_97, a_98, c_99, a_100, c_101, rfl, h_103⟩
     have h_104 := h_103.within M7 rfl (h_103.ok _ M7) rfl rfl (fun b hb => hb)
     refine qA (pO b_96 0) rfl rfl ?_
     refine WL.nil (thn_n (WP.seq (WP.reg ?_)))
     refine qM (pO b_26 0) rfl rfl ?_
     have h_109 := ((((h_104.up J9).up J1).up J8).up J8).up J8
     refine WL.call Tryz.call10 rfl rfl (c_oLog true b_26 b_27 (zB 32) df lr a_28 n c_29 ((allS df n es 0 ([] : Lg) k).1) hl la2 lc2 lx2 ((allS df n es 0 ([] : Lg) k).2) (by first | decide | omega) (by first | decide | omega) _ h_109) rfl ?_
     rintro _ w_113 ⟨a_110, c_111, ys_112, rfl, h_114⟩
     refine qA (.slice a_110 ((allS df n es 0 ([] : Lg) k).2.length) c_111) rfl rfl ?_
     refine WL.nil (thn_n (WP.seq (WP.seq (WP.reg ?_))))
     refine qM (pO b_96 0) rfl rfl (qV rfl (R.eqNilP rfl rfl underlying26) (qM (.bool false) rfl rfl ?_))
     refine WL.want rfl rfl ?_
     refine qM (pO b_96 0) rfl rfl ?_
     refine WL.want rfl rfl ?_
     refine WL.call Tryz.call11 rfl rfl (c_oUsedI true b_96 b_97 (zB 32) lr a_100 n c_101 ((allS df n es 0 ([] : Lg) k).1) a_98 ((allS df n es 0 ([] : Lg) k).2.length) c_99 _ (h_114.argR M7)) rfl ?_
     rintro _ w_116 ⟨rfl, hc_115⟩
     have h_117 := h_114.same hc_115
     refine WL.want rfl rfl ?_
     refine qM (.slice a_110 ((allS df n es 0 ([] : Lg) k).2.length) c_111) rfl rfl ?_
     refine WL.want rfl rfl ?_
     refine qV rfl (R.lenS (a := a_110) (m := (allS df n es 0 ([] : Lg) k).2.length) rfl rfl underlying31) ?_
     refine WL.want rfl rfl ?_
     refine qV rfl (R.bin rfl rfl (bi_neq (r := decide (((((allS df n es 0 ([] : Lg) k).1 : Nat) : Int) : Int) ≠ (((allS df n es 0 ([] : Lg) k).2.length : Nat) : Int))) rfl)) (qV rfl (R.pickF (v := (.bool (decide (((((allS df n es 0 ([] : Lg) k).1 : Nat) : Int) : Int) ≠ (((allS df n es 0 ([] : Lg) k).2.length : Nat) : Int))))) rfl rfl) ?_)
     refine WL.nil (thn_n ?_)
     refine WP.condF (congrArg Value.bool (decide_eq_false (fun h => h (congrArg (fun x : Nat => (x : Int)) hli.1.1)))) ?_
     refine WP.skip (thn_n (WP.seq (WP.seq (WP.reg ?_))))
     refine qA (vi 0) rfl rfl ?_
     refine WL.nil (thn_n (WP.block ?_))
     have h_137 := (((((((((((((((((((h_117.up J19).up J19).up J19).up J19).up J5).up J5).up J14).up J10).up J14).up J14).up J14).up J19).up J19).up J19).up J19).up J18).up J19).up J19).up J19).up J19
     refine WP.loopG (G := Nat × Option Addr × Nat × List Value × Option Addr × Nat × List Value) [6, 12, 64, 65, 66, 67, 68, 69, 70, 71, 72, 73, 74, 75, 76, 77] (fun (g, la3, lc3, lx3, ra3, rc3, rx3) => [(12, (vn g))]) (fun (g, la3, lc3, lx3, ra3, rc3, rx3) m w1 => HP w w1 [.blk b_26 .nw 66 [(1, [(.bool true)]), (32, (zB 32).map vu8), (1, [(.slice a_28 n c_29)]), (1, [(vn ((allS df n ks (allS df n es 0 ([] : Lg) k).1 (allS df n es 0 ([] : Lg) k).2 g).1))]), (1, [(.map (some b_27))]), (1, [(.slice la3 ((allS df n ks (allS df n es 0 ([] : Lg) k).1 (allS df n es 0 ([] : Lg) k).2 g).2.length) lc3)])], .row la3 ((allS df n ks (allS df n es 0 ([] : Lg) k).1 (allS df n es 0 ([] : Lg) k).2 g).2.length) lc3 47 67 lx3, .obj b_27 .nw (.map (mArr ((allS df n ks (allS df n es 0 ([] : Lg) k).1 (allS df n es 0 ([] : Lg) k).2 g).2)) ((allS df n ks (allS df n es 0 ([] : Lg) k).1 (allS df n es 0 ([] : Lg) k).2 g).2.length)), .pin (sblks lx3) (fun w => Lgs w lx3 ((allS df n ks (allS df n es 0 ([] : Lg) k).1 (allS df n es 0 ([] : Lg) k).2 g).2)), .view a_28 (df.map vu8), .blk b_33 .nw 33 [(1, [(.bool true)]), (32, (zB 32).map vu8), (1, [(.slice da0 n cap0)]), (1, [(vn ((allS df n ks (allS df n es 0 ([] : Lg) k).1 (allS df n es 0 ([] : Lg) k).2 g).1))]), (1, [(.slice ra3 ((allS df n ks (allS df n es 0 ([] : Lg) k).1 (allS df n es 0 ([] : Lg) k).2 g).2.length) rc3)])], .row ra3 ((allS df n ks (allS df n es 0 ([] : Lg) k).1 (allS df n es 0 ([] : Lg) k).2 g).2.length) rc3 47 67 rx3, .pin (sblks rx3) (fun w => Lgs w rx3 ((allS df n ks (allS df n es 0 ([] : Lg) k).1 (allS df n es 0 ([] : Lg) k).2 g).2)), .view da0 (df.map vu8), .blk b_96 .nw 66 [(1, [(.bool true)]), (32, (zB 32).map vu8), (1, [(.slice a_100 n c_101)]), (1, [(vn ((allS df n es 0 ([] : Lg) k).1))]), (1, [(.map (some b_97))]), (1, [(.slice a_98 ((allS df n es 0 ([] : Lg) k).2.length) c_99)])], .row a_98 ((allS df n es 0 ([] : Lg) k).2.length) c_99 47 67 lx2, .obj b_97 .nw (.map (mArr ((allS df n es 0 ([] : Lg) k).2)) ((allS df n es 0 ([] : Lg) k).2.length)), .pin (sblks lx2) (fun w => Lgs w lx2 ((allS df n es 0 ([] : Lg) k).2)), .view a_100 (df.map vu8), .row a_110 ((allS df n es 0 ([] : Lg) k).2.length) c_111 47 67 ys_112, .pin (sblks ys_112) (fun w => Lgs w ys_112 ((allS df n es 0 ([] : Lg) k).2)), .view ar (aesC es), .view ar2 (aesC ks), .pin (akBs es) (fun w => Aks w es), .pin (akBs ks) (fun w => Aks w ks)] ∧ (g ≤ nr2) ∧ m = nr2 + 1 - g) ⟨(0, la2, lc2, lx2, ra2, rc2, rx2), _, ⟨rfl, trivial⟩, h_137, Nat.zero_le _, rfl⟩ ?_
     rintro ⟨g, la3, lc3, lx3, ra3, rc3, rx3⟩ m_140 J_141 w_138 ⟨h_139, hgn, rfl⟩
     have hsu2 : (allS df n ks (allS df n es 0 ([] : Lg) k).1 (allS df n es 0 ([] : Lg) k).2 g).1 ≤ 32 * k + 32 * g := by have := allS_u (df := df) (dn := n) (es := ks) (u := (allS df n es 0 ([] : Lg) k).1) (lg := (allS df n es 0 ([] : Lg) k).2) g; omega
     have hsl2 : (allS df n ks (allS df n es 0 ([] : Lg) k).1 (allS df n es 0 ([] : Lg) k).2 g).2.length ≤ 32 * k + 32 * g := by have := allS_l (df := df) (dn := n) (es := ks) (u := (allS df n es 0 ([] : Lg) k).1) (lg := (allS df n es 0 ([] : Lg) k).2) g; omega
     have hs32g := allS_32 (es := ks) (u := (allS df n es 0 ([] : Lg) k).1) hl hs32 g
     have hlig := allS_LI (es := ks) hli g
     refine WP.seq (WP.seq (WP.reg ?_))
     refine qM (vn g) rfl rfl (qM (.slice ar2 nr2 cr2) rfl rfl (qV rfl (R.lenS (a := ar2) (m := nr2) rfl rfl underlying23) (qV rfl (R.bin rfl rfl (bi_lss (r := decide ((((g : Nat) : Int) : Int) < ((nr2 : Nat) : Int))) rfl)) ?_)))
     refine WL.nil (thn_n ?_)
     refine WP.cond (b := decide ((((g : Nat) : Int) : Int) < ((nr2 : Nat) : Int))) rfl (fun c_142 => ?_) (fun c_142 => ?_)
     ·have p_143 := of_decide_eq_true c_142
      refine WP.skip (thn_n (WP.seq (WP.block (WP.seq ?_))))
      have hlg : g < ks.length := by omega
      have hrg : okAe (ks.getD g zAe) := hks _ (getD_mem hlg)
      have hrcg : (ks.getD g zAe).data.length ≤ (ks.getD g zAe).c := hrg.2.1
      have h_144 := h_139.within (e' := .view (ks.getD g zAe).a (((ks.getD g zAe).data).map vu8)) M19 rfl (View.arg (ae_v (h_139.ok _ M19).1 hlg)) rfl rfl (ae_b hlg)
      have hdg := hm2.2 g hlg
      refine WP.reg ?_
      refine qM (pO b_26 0) rfl rfl (qM (pO b_33 0) rfl rfl (qM (.slice ar2 nr2 cr2) rfl rfl (qM (vn g) rfl rfl (qV rfl (R.indexS (a := ar2) (i := g) (off := g * 37) (xs := aesC ks) rfl rfl rfl (by omega) (viewV (h_144.ok _ M18)) (by rw [aesC_len hks]; omega) underlying23 sizeOf41 rfl) (qV rfl (R.loadGA (a := ar2) (i := g * 37) (xs := aesC ks) (cs := flat [(1, [(vi ((ks.getD g zAe).k))]), (1, [(vi ((ks.getD g zAe).n))]), (1, [(vi ((ks.getD g zAe).kd))]), (32, ((ks.getD g zAe).key).map vu8), (1, [(vi ((ks.getD g zAe).dm))]), (1, [(.slice ((ks.getD g zAe).a) ((ks.getD g zAe).data.length) ((ks.getD g zAe).c))])]) rfl (viewV (h_144.ok _ M18)) isAgg41 sizeOf41 (aesC_at hks hlg) (aeC_len hrg) (by decide)) ?_)))))
      have h_153 := ((((((((h_144.up J9).up J9).up J9).up J9).up J9).up J9).up J9).up J9).up J9
      refine WL.call Tryz.call8 rfl rfl (c_one b_26 b_27 df a_28 n c_29 ((allS df n ks (allS df n es 0 ([] : Lg) k).1 (allS df n es 0 ([] : Lg) k).2 g).1) hl la3 lc3 lx3 ((allS df n ks (allS df n es 0 ([] : Lg) k).1 (allS df n es 0 ([] : Lg) k).2 g).2) (by first | decide | omega) (by first | decide | omega) b_33 da0 cap0 ra3 rc3 rx3 (ks.getD g zAe) hrg hdg _ h_153) rfl ?_
      rintro _ w_160 ⟨la_154, lc_155, lx_156, ra_157, rc_158, rx_159, rfl, h_161⟩
      refine qV rfl (R.not (b := true) rfl) ?_
      refine WL.nil (thn_n ?_)
      refine WP.condF rfl ?_
      refine WP.skip (inb_n (thn_n (WP.reg ?_)))
      refine qM (vn g) rfl rfl (qV rfl (R.bin rfl rfl (bi_add (c := ((g + 1 : Nat) : Int)) (by omega) (by omega))) (qA (vn (g + 1)) rfl rfl ?_))
      refine WL.nil (thn_n ?_)
      have h_183 := (((((((((((((((((((((h_161.up J9).drop rfl).up J19).up J19).up J19).up J19).up J19).up J19).up J19).up J19).up J19).up J19).up J19).up J19).up J19).up J19).up J19).up J19).up J19).up J19).up J19).up J19
      exact ⟨(g + 1, la_154, lc_155, lx_156, ra_157, rc_158, rx_159), _, (by omega), (Ag.upd rfl (U2 rfl rfl (U4 rfl rfl rfl rfl (U4 rfl rfl rfl rfl (U4 rfl rfl rfl rfl (Ag.updL rfl (Ag.mix _ _ _))))))), ⟨rfl, trivial⟩, h_183, (by omega), rfl⟩
     ·have p_184 := of_decide_eq_false c_142
      refine WP.exit (thn_x (thn_x (inb_hit (thn_n (WP.seq (WP.seq (WP.reg ?_)))))))
      refine qM (pO b_96 0) rfl rfl ?_
      refine WL.call Tryz.call11 rfl rfl (c_oUsedI true b_96 b_97 (zB 32) lr a_100 n c_101 ((allS df n es 0 ([] : Lg) k).1) a_98 ((allS df n es 0 ([] : Lg) k).2.length) c_99 _ (h_139.argR M9)) rfl ?_
      rintro _ w_186 ⟨rfl, hc_185⟩
      have h_187 := h_139.same hc_185
      refine qM (.slice a_110 ((allS df n es 0 ([] : Lg) k).2.length) c_111) rfl rfl (qV rfl (R.lenS (a := a_110) (m := (allS df n es 0 ([] : Lg) k).2.length) rfl rfl underlying31) (qV rfl (R.bin rfl rfl (bi_neq (r := decide (((((allS df n es 0 ([] : Lg) k).1 : Nat) : Int) : Int) ≠ (((allS df n es 0 ([] : Lg) k).2.length : Nat) : Int))) rfl)) (qM (.bool (decide (((((allS df n es 0 ([] : Lg) k).1 : Nat) : Int) : Int) ≠ (((allS df n es 0 ([] : Lg) k).2.length : Nat) : Int)))) rfl rfl ?_)))
      refine WL.want rfl (congrArg Value.bool (decide_eq_false (fun h => h (congrArg (fun x : Nat => (x : Int)) hli.1.1)))) ?_
      refine qM (pO b_96 0) rfl rfl ?_
      refine WL.want rfl (congrArg Value.bool (decide_eq_false (fun h => h (congrArg (fun x : Nat => (x : Int)) hli.1.1)))) ?_
      have h_192 := ((((h_187.up J13).up J13).up J13).up J13).up J13
      refine WL.call Tryz.call10 rfl rfl (c_oLog true b_96 b_97 (zB 32) df lr a_100 n c_101 ((allS df n es 0 ([] : Lg) k).1) hl a_98 c_99 lx2 ((allS df n es 0 ([] : Lg) k).2) (by first | decide | omega) (by first | decide | omega) _ h_192) rfl ?_
      rintro _ w_196 ⟨a_193, c_194, ys_195, rfl, h_197⟩
      refine WL.want rfl (congrArg Value.bool (decide_eq_false (fun h => h (congrArg (fun x : Nat => (x : Int)) hli.1.1)))) ?_
      refine qM (.slice a_110 ((allS df n es 0 ([] : Lg) k).2.length) c_111) rfl rfl ?_
      refine WL.want rfl (congrArg Value.bool (decide_eq_false (fun h => h (congrArg (fun x : Nat => (x : Int)) hli.1.1)))) ?_
      refine WL.call Tryz.call12 rfl rfl (c_rSameLog a_193 ((allS df n es 0 ([] : Lg) k).2.length) c_194 ys_195 ((allS df n es 0 ([] : Lg) k).2) rfl (by omega) a_110 c_111 ys_112 _ (ownView (h_197.ok _ M0)) (h_197.ok _ M1).1 (ownView (h_197.ok _ M16)) (h_197.ok _ M17).1) rfl ?_
      rintro _ w_199 ⟨rfl, hc_198⟩
      have h_200 := h_197.same hc_198
      refine WL.want rfl (congrArg Value.bool (decide_eq_false (fun h => h (congrArg (fun x : Nat => (x : Int)) hli.1.1)))) ?_
      refine qV rfl (R.not (b := true) (rfl)) (qV rfl (R.pickF (v := (.bool false)) (congrArg Value.bool (decide_eq_false (fun h => h (congrArg (fun x : Nat => (x : Int)) hli.1.1)))) rfl) ?_)
      refine WL.nil (thn_n ?_)
      refine WP.condF rfl ?_
      refine WP.skip (thn_n (WP.seq (WP.reg ?_)))
      refine qM (pO b_26 0) rfl rfl ?_
      have h_205 := ((((h_200.up J11).up J11).up J11).up J11).up J11
      refine WL.call Tryz.call10 rfl rfl (c_oLogO true b_26 b_27 (zB 32) df lr a_28 n c_29 ((allS df n ks (allS df n es 0 ([] : Lg) k).1 (allS df n es 0 ([] : Lg) k).2 g).1) hl la3 lc3 lx3 ((allS df n ks (allS df n es 0 ([] : Lg) k).1 (allS df n es 0 ([] : Lg) k).2 g).2) (by first | decide | omega) (by first | decide | omega) _ h_205) rfl ?_
      rintro _ w_212 ⟨a_206, c_207, ys_208, R_209, rfl, hR_210, hy_211, h_213⟩
      have h_214 := HP_tailEnd (E := [_, _, _, _, _, _]) (T := [_, _, _, _, _, _, _, _, _, _, _, _, _, _, _, _, _]) h_213
      refine qA (.slice a_206 ((allS df n ks (allS df n es 0 ([] : Lg) k).1 (allS df n es 0 ([] : Lg) k).2 g).2.length) c_207) rfl rfl ?_
      refine WL.nil (thn_n (WP.seq (WP.seq (WP.reg ?_))))
      refine qA (vi 0) rfl rfl ?_
      refine WL.nil (thn_n (WP.block ?_))
      have h_250 := (((((((((((((((((((((((((((((((((((h_214.up J6).drop rfl).up J6).drop rfl).up J6).drop rfl).up J6).drop rfl).up J6).drop rfl).up J6).drop rfl).up J6).drop rfl).up J10).drop rfl).up J10).drop rfl).up J10).drop rfl).up J10).drop rfl).up J10).drop rfl).up J10).drop rfl).up J9).up J9).up J9).up J9).up J9).up J9).up J9).up J9).up J9).up J9
      have hg40 : g ≤ 40 := by omega
      refine WP.loopG (G := Nat × List Ent) [6, 14, 15, 16, 17, 18, 92, 93, 94, 95, 96, 97, 98, 99, 100, 101, 102, 103, 104, 105, 106, 107, 108, 109, 110, 111, 112, 113, 114, 115, 116, 117, 118, 119, 120, 121, 122, 123, 124, 125, 126, 127, 128, 129, 130, 131, 132, 133, 134, 135, 136, 137, 138, 139, 140, 141, 142, 143, 144] (fun (i, tl) => [(14, (vn i))]) (fun (i, tl) m w1 => HP w w1 (Ent.row a_206 ((allS df n ks (allS df n es 0 ([] : Lg) k).1 (allS df n es 0 ([] : Lg) k).2 g).2.length) c_207 47 67 ys_208 :: Ent.blk b_26 .nw 66 [(1, [(.bool true)]), (32, (zB 32).map vu8), (1, [(.slice a_28 n c_29)]), (1, [(vn ((allS df n ks (allS df n es 0 ([] : Lg) k).1 (allS df n es 0 ([] : Lg) k).2 g).1))]), (1, [(.map (some b_27))]), (1, [(.slice la3 ((allS df n ks (allS df n es 0 ([] : Lg) k).1 (allS df n es 0 ([] : Lg) k).2 g).2.length) lc3)])] :: Ent.row la3 ((allS df n ks (allS df n es 0 ([] : Lg) k).1 (allS df n es 0 ([] : Lg) k).2 g).2.length) lc3 47 67 lx3 :: Ent.obj b_27 .nw (.map (mArr ((allS df n ks (allS df n es 0 ([] : Lg) k).1 (allS df n es 0 ([] : Lg) k).2 g).2)) ((allS df n ks (allS df n es 0 ([] : Lg) k).1 (allS df n es 0 ([] : Lg) k).2 g).2.length)) :: Ent.pin (sblks lx3) (fun w => Lgs w lx3 ((allS df n ks (allS df n es 0 ([] : Lg) k).1 (allS df n es 0 ([] : Lg) k).2 g).2)) :: Ent.view a_28 (df.map vu8) :: Ent.blk b_33 .nw 33 [(1, [(.bool true)]), (32, (zB 32).map vu8), (1, [(.slice da0 n cap0)]), (1, [(vn ((allS df n ks (allS df n es 0 ([] : Lg) k).1 (allS df n es 0 ([] : Lg) k).2 g).1))]), (1, [(.slice ra3 ((allS df n ks (allS df n es 0 ([] : Lg) k).1 (allS df n es 0 ([] : Lg) k).2 g).2.length) rc3)])] :: Ent.row ra3 ((allS df n ks (allS df n es 0 ([] : Lg) k).1 (allS df n es 0 ([] : Lg) k).2 g).2.length) rc3 47 67 rx3 :: Ent.pin (sblks rx3) (fun w => Lgs w rx3 ((allS df n ks (allS df n es 0 ([] : Lg) k).1 (allS df n es 0 ([] : Lg) k).2 g).2)) :: Ent.view da0 (df.map vu8) :: tl) ∧ (i ≤ ((allS df n ks (allS df n es 0 ([] : Lg) k).1 (allS df n es 0 ([] : Lg) k).2 g).2).length) ∧ (LgR 5 ys_208 ((allS df n ks (allS df n es 0 ([] : Lg) k).1 (allS df n es 0 ([] : Lg) k).2 g).2) tl i) ∧ m = ((allS df n ks (allS df n es 0 ([] : Lg) k).1 (allS df n es 0 ([] : Lg) k).2 g).2).length + 1 - i) ⟨(0, R_209), _, ⟨rfl, trivial⟩, h_250, Nat.zero_le _, hR_210, rfl⟩ ?_
      rintro ⟨i, tl⟩ m_253 J_254 w_251 ⟨h_252, hin, hT, rfl⟩
      refine WP.seq (WP.seq (WP.reg ?_))
      refine qM (vn i) rfl rfl (qM (.slice a_206 ((allS df n ks (allS df n es 0 ([] : Lg) k).1 (allS df n es 0 ([] : Lg) k).2 g).2.length) c_207) rfl rfl (qV rfl (R.lenS (a := a_206) (m := (allS df n ks (allS df n es 0 ([] : Lg) k).1 (allS df n es 0 ([] : Lg) k).2 g).2.length) rfl rfl underlying31) (qV rfl (R.bin rfl rfl (bi_lss (r := decide ((((i : Nat) : Int) : Int) < (((allS df n ks (allS df n es 0 ([] : Lg) k).1 (allS df n es 0 ([] : Lg) k).2 g).2.length : Nat) : Int))) rfl)) ?_)))
      refine WL.nil (thn_n ?_)
      refine WP.cond (b := decide ((((i : Nat) : Int) : Int) < (((allS df n ks (allS df n es 0 ([] : Lg) k).1 (allS df n es 0 ([] : Lg) k).2 g).2.length : Nat) : Int))) rfl (fun c_255 => ?_) (fun c_255 => ?_)
      ·have p_256 := of_decide_eq_true c_255
       refine WP.skip (thn_n (WP.seq (WP.block (WP.seq ?_))))
       have hil : i < ((allS df n ks (allS df n es 0 ([] : Lg) k).1 (allS df n es 0 ([] : Lg) k).2 g).2).length := by omega
       obtain ⟨qa, qn, qc, tl2, rfl, hT2, hyx, hqn⟩ := hT.pop hil
       have hqi := ((h_252.ok _ M4).1).ok _ (getD_mem (z := zLg) hil)
       have hgi := hlig.2 i hil
       have hqb : qn ≤ 1000000000 := by have := hqi.2.2.2; rw [hqn] at this; exact this
       have h_257 := HP_tailPop (E := [_, _, _, _, _, _, _, _, _, _]) h_252
       refine WP.reg ?_
       refine qM (.slice a_206 ((allS df n ks (allS df n es 0 ([] : Lg) k).1 (allS df n es 0 ([] : Lg) k).2 g).2.length) c_207) rfl rfl (qM (vn i) rfl rfl (qV rfl (R.indexS (a := a_206) (i := i) (off := i * 67) (xs := ys_208) rfl rfl rfl (by omega) (ownView (h_257.ok _ M1)) (by rw [hy_211]; omega) underlying31 sizeOf47 rfl) (qV rfl (R.fieldG (a := a_206) (i := i * 67) (off' := i * 67) rfl underlying47 rfl sizeOf39 rfl rfl) (qV rfl (R.loadGA (a := a_206) (i := i * 67) (xs := ys_208) (cs := flat [(1, [(vi ((((allS df n ks (allS df n es 0 ([] : Lg) k).1 (allS df n es 0 ([] : Lg) k).2 g).2).getD i zLg).1.1))]), (32, ((((allS df n ks (allS df n es 0 ([] : Lg) k).1 (allS df n es 0 ([] : Lg) k).2 g).2).getD i zLg).1.2.1).map vu8), (1, [(vi ((((allS df n ks (allS df n es 0 ([] : Lg) k).1 (allS df n es 0 ([] : Lg) k).2 g).2).getD i zLg).1.2.2.1))]), (1, [(.slice qa qn qc)])]) rfl (ownView (h_257.ok _ M1)) isAgg39 sizeOf39 (row_q hyx hqi.1) ((sC sV (sC (s8 hqi.1) (sC sV (sC sV sN))))).len (by decide)) ?_))))
       refine WL.alloc (segs := [(1, [(vi 0)]), (32, (zB 32).map vu8), (1, [(vi 0)]), (1, [(.slice none 0 0)])]) h_257 (zv typeInfo39 rfl) rfl (sC sV (sC (s8 lr) (sC sV (sC sV sN)))) rfl (fun b_258 w_259 h_260 => ?_)
       refine WL.storeA [] [(1, [(vi 0)]), (32, (zB 32).map vu8), (1, [(vi 0)]), (1, [(.slice none 0 0)])] [(1, [(vi ((((allS df n ks (allS df n es 0 ([] : Lg) k).1 (allS df n es 0 ([] : Lg) k).2 g).2).getD i zLg).1.1))]), (32, ((((allS df n ks (allS df n es 0 ([] : Lg) k).1 (allS df n es 0 ([] : Lg) k).2 g).2).getD i zLg).1.2.1).map vu8), (1, [(vi ((((allS df n ks (allS df n es 0 ([] : Lg) k).1 (allS df n es 0 ([] : Lg) k).2 g).2).getD i zLg).1.2.2.1))]), (1, [(.slice qa qn qc)])] [] h_260 rfl rfl sizeOf39 At.h (by decide) rfl rfl rfl rfl rfl rfl (sC sV (sC (s8 hqi.1) (sC sV (sC sV sN)))) (fun w_261 h_262 => ?_)
       refine WL.nil (thn_n (WP.seq (WP.seq (WP.reg ?_))))
       refine qV rfl (R.fieldAddr (off' := 0) rfl underlying39 rfl sizeOf35 rfl rfl) (qV rfl (R.load1 rfl isAgg35 (h_262.ok _ M0) Sg.h) (qV rfl (R.bin rfl rfl (bi_neq (r := decide (((((allS df n ks (allS df n es 0 ([] : Lg) k).1 (allS df n es 0 ([] : Lg) k).2 g).2).getD i zLg).1.1 : Int) ≠ 4)) rfl)) ?_))
       refine WL.nil (thn_n ?_)
       refine WP.cond (b := decide (((((allS df n ks (allS df n es 0 ([] : Lg) k).1 (allS df n es 0 ([] : Lg) k).2 g).2).getD i zLg).1.1 : Int) ≠ 4)) rfl (fun c_263 => ?_) (fun c_263 => ?_)
       ·have p_264 := of_decide_eq_true c_263
        refine WP.seq (WP.reg ?_)
        refine qM (pO b_26 0) rfl rfl (qV rfl (R.loadA [] [(1, [(vi ((((allS df n ks (allS df n es 0 ([] : Lg) k).1 (allS df n es 0 ([] : Lg) k).2 g).2).getD i zLg).1.1))]), (32, ((((allS df n ks (allS df n es 0 ([] : Lg) k).1 (allS df n es 0 ([] : Lg) k).2 g).2).getD i zLg).1.2.1).map vu8), (1, [(vi ((((allS df n ks (allS df n es 0 ([] : Lg) k).1 (allS df n es 0 ([] : Lg) k).2 g).2).getD i zLg).1.2.2.1))]), (1, [(.slice qa qn qc)])] [] rfl isAgg39 sizeOf39 (h_262.ok _ M0) rfl rfl rfl rfl) ?_)
        have h_270 := (((((h_262.up J1).up J7).up J7).up J7).up J7).up J7
        refine WL.call Tryz.call13 rfl rfl (c_oAskR true b_26 b_27 (zB 32) df lr a_28 n c_29 ((allS df n ks (allS df n es 0 ([] : Lg) k).1 (allS df n es 0 ([] : Lg) k).2 g).1) hl la3 lc3 lx3 ((allS df n ks (allS df n es 0 ([] : Lg) k).1 (allS df n es 0 ([] : Lg) k).2 g).2) (by first | decide | omega) (by first | decide | omega) ((((allS df n ks (allS df n es 0 ([] : Lg) k).1 (allS df n es 0 ([] : Lg) k).2 g).2).getD i zLg).1.1) ((((allS df n ks (allS df n es 0 ([] : Lg) k).1 (allS df n es 0 ([] : Lg) k).2 g).2).getD i zLg).1.2.2.1) ((((allS df n ks (allS df n es 0 ([] : Lg) k).1 (allS df n es 0 ([] : Lg) k).2 g).2).getD i zLg).1.2.1) ((((allS df n ks (allS df n es 0 ([] : Lg) k).1 (allS df n es 0 ([] : Lg) k).2 g).2).getD i zLg).1.2.2.2) qa qn qc hqi hqn (by omega) (hgi.2) i (hgi.1) _ h_270) rfl ?_
        rintro _ w_271 ⟨rfl, h_272⟩
        refine qM (.tuple [(.agg ⟨((((allS df n ks (allS df n es 0 ([] : Lg) k).1 (allS df n es 0 ([] : Lg) k).2 g).2).getD i (((((allS df n ks (allS df n es 0 ([] : Lg) k).1 (allS df n es 0 ([] : Lg) k).2 g).2).getD i zLg).1.1, (((allS df n ks (allS df n es 0 ([] : Lg) k).1 (allS df n es 0 ([] : Lg) k).2 g).2).getD i zLg).1.2.1, (((allS df n ks (allS df n es 0 ([] : Lg) k).1 (allS df n es 0 ([] : Lg) k).2 g).2).getD i zLg).1.2.2.1, ((((allS df n ks (allS df n es 0 ([] : Lg) k).1 (allS df n es 0 ([] : Lg) k).2 g).2).getD i zLg).1.2.2.2)), [])).2).map vu8⟩), (vi 0)].toArray) rfl rfl (qV rfl (R.extract rfl rfl) (qV rfl (R.extract rfl rfl) ?_))
        refine WL.alloc (segs := [(32, (zB 32).map vu8)]) h_272 (zv typeInfo29 rfl) rfl (sC (s8 lr) sN) rfl (fun b_273 w_274 h_275 => ?_)
        refine WL.storeA [] [(32, (zB 32).map vu8)] [(32, ((((allS df n ks (allS df n es 0 ([] : Lg) k).1 (allS df n es 0 ([] : Lg) k).2 g).2).getD i (((((allS df n ks (allS df n es 0 ([] : Lg) k).1 (allS df n es 0 ([] : Lg) k).2 g).2).getD i zLg).1.1, (((allS df n ks (allS df n es 0 ([] : Lg) k).1 (allS df n es 0 ([] : Lg) k).2 g).2).getD i zLg).1.2.1, (((allS df n ks (allS df n es 0 ([] : Lg) k).1 (allS df n es 0 ([] : Lg) k).2 g).2).getD i zLg).1.2.2.1, ((((allS df n ks (allS df n es 0 ([] : Lg) k).1 (allS df n es 0 ([] : Lg) k).2 g).2).getD i zLg).1.2.2.2)), [])).2).map vu8)] [] h_275 rfl rfl sizeOf29 At.h (by decide) rfl rfl rfl rfl rfl rfl (sC (s8 (hs32g _ (getD_mem hil))) sN) (fun w_276 h_277 => ?_)
        refine qA (vi 0) rfl rfl ?_
        refine WL.nil (thn_n (WP.seq ?_))
        refine WP.drawT (SL w.heap.size [.blk b_273 .nw 29 [(32, ((((allS df n ks (allS df n es 0 ([] : Lg) k).1 (allS df n es 0 ([] : Lg) k).2 g).2).getD i (((((allS df n ks (allS df n es 0 ([] : Lg) k).1 (allS df n es 0 ([] : Lg) k).2 g).2).getD i zLg).1.1, (((allS df n ks (allS df n es 0 ([] : Lg) k).1 (allS df n es 0 ([] : Lg) k).2 g).2).getD i zLg).1.2.1, (((allS df n ks (allS df n es 0 ([] : Lg) k).1 (allS df n es 0 ([] : Lg) k).2 g).2).getD i zLg).1.2.2.1, ((((allS df n ks (allS df n es 0 ([] : Lg) k).1 (allS df n es 0 ([] : Lg) k).2 g).2).getD i zLg).1.2.2.2)), [])).2).map vu8)], .blk b_26 .nw 66 [(1, [(.bool true)]), (32, (zB 32).map vu8), (1, [(.slice a_28 n c_29)]), (1, [(vn ((allS df n ks (allS df n es 0 ([] : Lg) k).1 (allS df n es 0 ([] : Lg) k).2 g).1))]), (1, [(.map (some b_27))]), (1, [(.slice la3 ((allS df n ks (allS df n es 0 ([] : Lg) k).1 (allS df n es 0 ([] : Lg) k).2 g).2.length) lc3)])], .row la3 ((allS df n ks (allS df n es 0 ([] : Lg) k).1 (allS df n es 0 ([] : Lg) k).2 g).2.length) lc3 47 67 lx3, .obj b_27 .nw (.map (mArr ((allS df n ks (allS df n es 0 ([] : Lg) k).1 (allS df n es 0 ([] : Lg) k).2 g).2)) ((allS df n ks (allS df n es 0 ([] : Lg) k).1 (allS df n es 0 ([] : Lg) k).2 g).2.length)), .pin (sblks lx3) (fun w => Lgs w lx3 ((allS df n ks (allS df n es 0 ([] : Lg) k).1 (allS df n es 0 ([] : Lg) k).2 g).2)), .view a_28 (df.map vu8), .row qa qn qc 5 1 ((((allS df n ks (allS df n es 0 ([] : Lg) k).1 (allS df n es 0 ([] : Lg) k).2 g).2).getD i zLg).1.2.2.2.map vu8), .blk b_258 .nw 39 [(1, [(vi ((((allS df n ks (allS df n es 0 ([] : Lg) k).1 (allS df n es 0 ([] : Lg) k).2 g).2).getD i zLg).1.1))]), (32, ((((allS df n ks (allS df n es 0 ([] : Lg) k).1 (allS df n es 0 ([] : Lg) k).2 g).2).getD i zLg).1.2.1).map vu8), (1, [(vi ((((allS df n ks (allS df n es 0 ([] : Lg) k).1 (allS df n es 0 ([] : Lg) k).2 g).2).getD i zLg).1.2.2.1))]), (1, [(.slice qa qn qc)])], .row a_206 ((allS df n ks (allS df n es 0 ([] : Lg) k).1 (allS df n es 0 ([] : Lg) k).2 g).2.length) c_207 47 67 ys_208, .blk b_33 .nw 33 [(1, [(.bool true)]), (32, (zB 32).map vu8), (1, [(.slice da0 n cap0)]), (1, [(vn ((allS df n ks (allS df n es 0 ([] : Lg) k).1 (allS df n es 0 ([] : Lg) k).2 g).1))]), (1, [(.slice ra3 ((allS df n ks (allS df n es 0 ([] : Lg) k).1 (allS df n es 0 ([] : Lg) k).2 g).2.length) rc3)])], .row ra3 ((allS df n ks (allS df n es 0 ([] : Lg) k).1 (allS df n es 0 ([] : Lg) k).2 g).2.length) rc3 47 67 rx3, .pin (sblks rx3) (fun w => Lgs w rx3 ((allS df n ks (allS df n es 0 ([] : Lg) k).1 (allS df n es 0 ([] : Lg) k).2 g).2)), .view da0 (df.map vu8)]) (.q 0 (.q 1 (.q 2 (.q 3 (.q 4 (.q 5 (.q 6 (.q 7 (.q 8 (.q 9 (.q 10 .nil))))))))))) (by kernel_rfl) (by kernel_rfl) rfl (by kernel_rfl) (fun w_278 hc_280 => (SL.cons ((h_277.same hc_280).ok _ M0) (SL.cons ((h_277.same hc_280).ok _ M1) (SL.cons ((h_277.same hc_280).ok _ M2) (SL.cons ((h_277.same hc_280).ok _ M3) (SL.cons ((h_277.same hc_280).ok _ M4) (SL.cons ((h_277.same hc_280).ok _ M5) (SL.cons ((h_277.same hc_280).ok _ M6) (SL.cons ((h_277.same hc_280).ok _ M7) (SL.cons ((h_277.same hc_280).ok _ M8) (SL.cons ((h_277.same hc_280).ok _ M9) (SL.cons ((h_277.same hc_280).ok _ M10) (SL.cons ((h_277.same hc_280).ok _ M11) (SL.cons ((h_277.same hc_280).ok _ M12) (SL.nil _ _))))))))))))))) (fun w_278 hc_280 => ?_)
        have h_279 := h_277.same hc_280
        refine qT rfl rfl (fun wq hS => R.move (v := (vi 0)) rfl) ?_
        refine qT rfl rfl (fun wq hS => R.bin rfl rfl (bi_neq (r := false) (by decide))) ?_
        refine qT rfl rfl (fun wq hS => R.move (v := (.bool false)) rfl) ?_
        refine WT.q rfl (Wn.yes rfl rfl rfl) rfl rfl (fun wq hS => R.loadA [] [(32, ((((allS df n ks (allS df n es 0 ([] : Lg) k).1 (allS df n es 0 ([] : Lg) k).2 g).2).getD i (((((allS df n ks (allS df n es 0 ([] : Lg) k).1 (allS df n es 0 ([] : Lg) k).2 g).2).getD i zLg).1.1, (((allS df n ks (allS df n es 0 ([] : Lg) k).1 (allS df n es 0 ([] : Lg) k).2 g).2).getD i zLg).1.2.1, (((allS df n ks (allS df n es 0 ([] : Lg) k).1 (allS df n es 0 ([] : Lg) k).2 g).2).getD i zLg).1.2.2.1, ((((allS df n ks (allS df n es 0 ([] : Lg) k).1 (allS df n es 0 ([] : Lg) k).2 g).2).getD i zLg).1.2.2.2)), [])).2).map vu8)] [] (cs := ((((allS df n ks (allS df n es 0 ([] : Lg) k).1 (allS df n es 0 ([] : Lg) k).2 g).2).getD i (((((allS df n ks (allS df n es 0 ([] : Lg) k).1 (allS df n es 0 ([] : Lg) k).2 g).2).getD i zLg).1.1, (((allS df n ks (allS df n es 0 ([] : Lg) k).1 (allS df n es 0 ([] : Lg) k).2 g).2).getD i zLg).1.2.1, (((allS df n ks (allS df n es 0 ([] : Lg) k).1 (allS df n es 0 ([] : Lg) k).2 g).2).getD i zLg).1.2.2.1, ((((allS df n ks (allS df n es 0 ([] : Lg) k).1 (allS df n es 0 ([] : Lg) k).2 g).2).getD i zLg).1.2.2.2)), [])).2).map vu8) rfl isAgg29 sizeOf29 (hS _ M0) rfl rfl rfl rfl) ?_
        refine WT.q rfl (Wn.yes rfl rfl rfl) rfl rfl (fun wq hS => R.move (v := (.slice a_206 ((allS df n ks (allS df n es 0 ([] : Lg) k).1 (allS df n es 0 ([] : Lg) k).2 g).2.length) c_207)) rfl) ?_
        refine WT.q rfl (Wn.yes rfl rfl rfl) rfl rfl (fun wq hS => R.move (v := (vn i)) rfl) ?_
        refine WT.q rfl (Wn.yes rfl rfl rfl) rfl rfl (fun wq hS => R.indexS (a := a_206) (i := i) (off := i * 67) (xs := ys_208) rfl rfl rfl (by omega) (ownView (hS _ M8)) (by rw [hy_211]; omega) underlying31 sizeOf47 rfl) ?_
        refine WT.q rfl (Wn.yes rfl rfl rfl) rfl rfl (fun wq hS => R.fieldG (a := a_206) (i := i * 67) (off' := i * 67 + 35) rfl underlying47 rfl sizeOf29 rfl rfl) ?_
        refine WT.q rfl (Wn.yes rfl rfl rfl) rfl rfl (fun wq hS => R.loadGA (a := a_206) (i := i * 67 + 35) (xs := ys_208) (cs := ((((allS df n ks (allS df n es 0 ([] : Lg) k).1 (allS df n es 0 ([] : Lg) k).2 g).2).getD i zLg).2).map vu8) rfl (ownView (hS _ M8)) isAgg29 sizeOf29 (row_d hyx hqi.1) (len_map (hs32g _ (getD_mem hil))) (by decide)) ?_
        refine WT.q rfl (Wn.yes rfl rfl rfl) rfl rfl (fun wq hS => R.neA (xs := ((((allS df n ks (allS df n es 0 ([] : Lg) k).1 (allS df n es 0 ([] : Lg) k).2 g).2).getD i (((((allS df n ks (allS df n es 0 ([] : Lg) k).1 (allS df n es 0 ([] : Lg) k).2 g).2).getD i zLg).1.1, (((allS df n ks (allS df n es 0 ([] : Lg) k).1 (allS df n es 0 ([] : Lg) k).2 g).2).getD i zLg).1.2.1, (((allS df n ks (allS df n es 0 ([] : Lg) k).1 (allS df n es 0 ([] : Lg) k).2 g).2).getD i zLg).1.2.2.1, ((((allS df n ks (allS df n es 0 ([] : Lg) k).1 (allS df n es 0 ([] : Lg) k).2 g).2).getD i zLg).1.2.2.2)), [])).2).map vu8) (ys := ((((allS df n ks (allS df n es 0 ([] : Lg) k).1 (allS df n es 0 ([] : Lg) k).2 g).2).getD i zLg).2).map vu8) (r := false) rfl rfl eqGuardType29 kt29 (by decide) ag29 (Typ.u8s underlying29 ce29 underlying5 ce5 (hs32g _ (getD_mem hil))) (Typ.u8s underlying29 ce29 underlying5 ce5 (hs32g _ (getD_mem hil))) (neT (congrArg (List.map vu8) (getD_z2 hil)))) ?_
        refine qT rfl rfl (fun wq hS => R.pickF (v := (.bool false)) rfl rfl) ?_
        refine WT.nil (thn_n ?_)
        refine WP.condF rfl ?_
        refine WP.skip (thn_n (WP.seq (WP.reg ?_)))
        refine qA (vi 0) rfl rfl ?_
        refine WL.nil (thn_n (WP.block ?_))
        have h_294 := (((((((((((((h_279.drop rfl).up J6).drop rfl).up J10).up J10).up J10).up J10).up J10).up J9).up J9).up J9).up J9).up J9).up J10
        refine WP.loopG (G := Nat × List UInt8) [18, 123, 124, 125, 126, 127, 128, 129, 130, 131, 132, 133, 134, 135, 136, 137, 138, 139, 140, 141, 142, 143, 144] (fun (j, bs) => [(18, (vn j))]) (fun (j, bs) m w1 => HP w w1 (Ent.row qa qn qc 5 1 (bs.map vu8) :: Ent.blk b_26 .nw 66 [(1, [(.bool true)]), (32, (zB 32).map vu8), (1, [(.slice a_28 n c_29)]), (1, [(vn ((allS df n ks (allS df n es 0 ([] : Lg) k).1 (allS df n es 0 ([] : Lg) k).2 g).1))]), (1, [(.map (some b_27))]), (1, [(.slice la3 ((allS df n ks (allS df n es 0 ([] : Lg) k).1 (allS df n es 0 ([] : Lg) k).2 g).2.length) lc3)])] :: Ent.row la3 ((allS df n ks (allS df n es 0 ([] : Lg) k).1 (allS df n es 0 ([] : Lg) k).2 g).2.length) lc3 47 67 lx3 :: Ent.obj b_27 .nw (.map (mArr ((allS df n ks (allS df n es 0 ([] : Lg) k).1 (allS df n es 0 ([] : Lg) k).2 g).2)) ((allS df n ks (allS df n es 0 ([] : Lg) k).1 (allS df n es 0 ([] : Lg) k).2 g).2.length)) :: Ent.pin (sblks lx3) (fun w => Lgs w lx3 ((allS df n ks (allS df n es 0 ([] : Lg) k).1 (allS df n es 0 ([] : Lg) k).2 g).2)) :: Ent.view a_28 (df.map vu8) :: Ent.row a_206 ((allS df n ks (allS df n es 0 ([] : Lg) k).1 (allS df n es 0 ([] : Lg) k).2 g).2.length) c_207 47 67 ys_208 :: Ent.blk b_33 .nw 33 [(1, [(.bool true)]), (32, (zB 32).map vu8), (1, [(.slice da0 n cap0)]), (1, [(vn ((allS df n ks (allS df n es 0 ([] : Lg) k).1 (allS df n es 0 ([] : Lg) k).2 g).1))]), (1, [(.slice ra3 ((allS df n ks (allS df n es 0 ([] : Lg) k).1 (allS df n es 0 ([] : Lg) k).2 g).2.length) rc3)])] :: Ent.row ra3 ((allS df n ks (allS df n es 0 ([] : Lg) k).1 (allS df n es 0 ([] : Lg) k).2 g).2.length) rc3 47 67 rx3 :: Ent.pin (sblks rx3) (fun w => Lgs w rx3 ((allS df n ks (allS df n es 0 ([] : Lg) k).1 (allS df n es 0 ([] : Lg) k).2 g).2)) :: Ent.view da0 (df.map vu8) :: tl2) ∧ (j ≤ qn) ∧ (bs.length = qn) ∧ m = qn + 1 - j) ⟨(0, _), _, ⟨rfl, trivial⟩, h_294, Nat.zero_le _, hqn, rfl⟩ ?_
        rintro ⟨j, bs⟩ m_297 J_298 w_295 ⟨h_296, hjn, hbs, rfl⟩
        refine WP.seq (WP.seq (WP.reg ?_))
        refine qM (vn j) rfl rfl (qM (.slice a_206 ((allS df n ks (allS df n es 0 ([] : Lg) k).1 (allS df n es 0 ([] : Lg) k).2 g).2.length) c_207) rfl rfl (qM (vn i) rfl rfl (qV rfl (R.indexS (a := a_206) (i := i) (off := i * 67) (xs := ys_208) rfl rfl rfl (by omega) (ownView (h_296.ok _ M6)) (by rw [hy_211]; omega) underlying31 sizeOf47 rfl) (qV rfl (R.fieldG (a := a_206) (i := i * 67) (off' := i * 67) rfl underlying47 rfl sizeOf39 rfl rfl) (qV rfl (R.fieldG (a := a_206) (i := i * 67) (off' := i * 67 + 34) rfl underlying39 rfl sizeOf37 rfl rfl) (qV rfl (R.loadG rfl (ownView (h_296.ok _ M6)) isAgg37 (row_s hyx hqi.1)) (qV rfl (R.lenS (a := qa) (m := qn) rfl rfl underlying37) (qV rfl (R.bin rfl rfl (bi_lss (r := decide ((((j : Nat) : Int) : Int) < ((qn : Nat) : Int))) rfl)) ?_))))))))
        refine WL.nil (thn_n ?_)
        refine WP.cond (b := decide ((((j : Nat) : Int) : Int) < ((qn : Nat) : Int))) rfl (fun c_299 => ?_) (fun c_299 => ?_)
        ·have p_300 := of_decide_eq_true c_299
         refine WP.skip (thn_n (WP.seq (WP.block (WP.reg ?_))))
         refine qM (.slice a_206 ((allS df n ks (allS df n es 0 ([] : Lg) k).1 (allS df n es 0 ([] : Lg) k).2 g).2.length) c_207) rfl rfl (qM (vn i) rfl rfl (qV rfl (R.indexS (a := a_206) (i := i) (off := i * 67) (xs := ys_208) rfl rfl rfl (by omega) (ownView (h_296.ok _ M6)) (by rw [hy_211]; omega) underlying31 sizeOf47 rfl) (qV rfl (R.fieldG (a := a_206) (i := i * 67) (off' := i * 67) rfl underlying47 rfl sizeOf39 rfl rfl) (qV rfl (R.fieldG (a := a_206) (i := i * 67) (off' := i * 67 + 34) rfl underlying39 rfl sizeOf37 rfl rfl) (qV rfl (R.loadG rfl (ownView (h_296.ok _ M6)) isAgg37 (row_s hyx hqi.1)) (qM (vn j) rfl rfl (qV rfl (R.indexS (a := qa) (i := j) (off := j) (xs := bs.map vu8) rfl rfl rfl (by omega) (ownView (h_296.ok _ M0)) (lt_len (K := qn) (len_map hbs) (by omega)) underlying37 sizeOf5 (Nat.mul_one _).symm) (qV rfl (R.loadG rfl (ownView (h_296.ok _ M0)) isAgg5 (get_u8 (lt_len (K := qn) hbs (by omega)))) (qV rfl (R.bin rfl rfl (b8_add (bs.getD j 0) 1)) (qV rfl (R.indexS (a := qa) (i := j) (off := j) (xs := bs.map vu8) rfl rfl rfl (by omega) (ownView (h_296.ok _ M0)) (lt_len (K := qn) (len_map hbs) (by omega)) underlying37 sizeOf5 (Nat.mul_one _).symm) ?_))))))))))
         refine WL.storeR (a := qa) (i := j) (v := (vu8 ((bs.getD j 0) + 1))) (xs' := (bs.set j ((bs.getD j 0) + 1)).map vu8) h_296 rfl rfl sizeOf5 rfl At.h (lt_len (K := qn) (len_map hbs) (by omega)) (set_u8 _ _ _) (fun w_301 h_302 => ?_)
         refine WL.nil (inb_n (thn_n (WP.reg ?_)))
         refine qM (vn j) rfl rfl (qV rfl (R.bin rfl rfl (bi_add (c := ((j + 1 : Nat) : Int)) (by omega) (by omega))) (qA (vn (j + 1)) rfl rfl ?_))
         refine WL.nil (thn_n ?_)
         have h_313 := ((((((((((h_302.up J10).up J10).up J10).up J10).up J10).up J10).up J10).up J10).up J10).up J10).up J10
         exact ⟨(j + 1, _), _, (by omega), (Ag.upd rfl (U2 rfl rfl (U4 rfl rfl rfl rfl (U4 rfl rfl rfl rfl (U4 rfl rfl rfl rfl (U4 rfl rfl rfl rfl (U4 rfl rfl rfl rfl (Ag.updL rfl (Ag.mix _ _ _))))))))), ⟨rfl, trivial⟩, h_313, (by omega), (len_set hbs _ _), rfl⟩
        ·have p_314 := of_decide_eq_false c_299
         refine WP.exit (thn_x (thn_x (inb_hit (inb_n (thn_n (WP.reg ?_))))))
         refine qM (vn i) rfl rfl (qV rfl (R.bin rfl rfl (bi_add (c := ((i + 1 : Nat) : Int)) (by omega) (by omega))) (qA (vn (i + 1)) rfl rfl ?_))
         refine WL.nil (thn_n ?_)
         have h_325 := ((((((((((h_296.drop rfl).up J9).up J9).up J9).up J9).up J8).up J8).up J8).up J8).up J8).up J9
         exact ⟨(i + 1, tl2), _, (by omega), (U4 rfl rfl rfl rfl (U4 rfl rfl rfl rfl (U4 rfl rfl rfl rfl (Ag.updL rfl (Ag.trans (Ag.sub rfl (Ag.mix _ _ _)) (Ag.upd rfl (Ag.upd rfl (Ag.upd rfl (Ag.upd rfl (Ag.upd rfl (Ag.upd rfl (Ag.upd rfl (Ag.upd rfl (Ag.upd rfl (Ag.upd rfl (Ag.upd rfl (Ag.upd rfl (Ag.upd rfl (Ag.upd rfl (Ag.upd rfl (Ag.upd rfl (Ag.upd rfl (Ag.upd rfl (Ag.upd rfl (Ag.upd rfl (Ag.upd rfl (Ag.upd rfl (Ag.upd rfl (Ag.upd rfl (Ag.upd rfl (Ag.upd rfl (Ag.upd rfl (Ag.upd rfl (Ag.upd rfl (Ag.upd rfl (Ag.upd rfl (Ag.upd rfl (Ag.upd rfl (Ag.updL rfl (Ag.mix _ _ _)))))))))))))))))))))))))))))))))))))))), ⟨rfl, trivial⟩, h_325, (by omega), hT2, rfl⟩
       ·have p_326 := of_decide_eq_false c_263
        refine WP.skip (thn_n (WP.seq (WP.reg ?_)))
        refine qA (vi 0) rfl rfl ?_
        refine WL.nil (thn_n (WP.block ?_))
        have h_338 := (((((((((((h_262.drop rfl).up J10).up J10).up J10).up J10).up J10).up J10).up J10).up J10).up J10).up J10).up J10
        refine WP.loopG (G := Nat × List UInt8) [18, 123, 124, 125, 126, 127, 128, 129, 130, 131, 132, 133, 134, 135, 136, 137, 138, 139, 140, 141, 142, 143, 144] (fun (j, bs) => [(18, (vn j))]) (fun (j, bs) m w1 => HP w w1 (Ent.row qa qn qc 5 1 (bs.map vu8) :: Ent.row a_206 ((allS df n ks (allS df n es 0 ([] : Lg) k).1 (allS df n es 0 ([] : Lg) k).2 g).2.length) c_207 47 67 ys_208 :: Ent.blk b_26 .nw 66 [(1, [(.bool true)]), (32, (zB 32).map vu8), (1, [(.slice a_28 n c_29)]), (1, [(vn ((allS df n ks (allS df n es 0 ([] : Lg) k).1 (allS df n es 0 ([] : Lg) k).2 g).1))]), (1, [(.map (some b_27))]), (1, [(.slice la3 ((allS df n ks (allS df n es 0 ([] : Lg) k).1 (allS df n es 0 ([] : Lg) k).2 g).2.length) lc3)])] :: Ent.row la3 ((allS df n ks (allS df n es 0 ([] : Lg) k).1 (allS df n es 0 ([] : Lg) k).2 g).2.length) lc3 47 67 lx3 :: Ent.obj b_27 .nw (.map (mArr ((allS df n ks (allS df n es 0 ([] : Lg) k).1 (allS df n es 0 ([] : Lg) k).2 g).2)) ((allS df n ks (allS df n es 0 ([] : Lg) k).1 (allS df n es 0 ([] : Lg) k).2 g).2.length)) :: Ent.pin (sblks lx3) (fun w => Lgs w lx3 ((allS df n ks (allS df n es 0 ([] : Lg) k).1 (allS df n es 0 ([] : Lg) k).2 g).2)) :: Ent.view a_28 (df.map vu8) :: Ent.blk b_33 .nw 33 [(1, [(.bool true)]), (32, (zB 32).map vu8), (1, [(.slice da0 n cap0)]), (1, [(vn ((allS df n ks (allS df n es 0 ([] : Lg) k).1 (allS df n es 0 ([] : Lg) k).2 g).1))]), (1, [(.slice ra3 ((allS df n ks (allS df n es 0 ([] : Lg) k).1 (allS df n es 0 ([] : Lg) k).2 g).2.length) rc3)])] :: Ent.row ra3 ((allS df n ks (allS df n es 0 ([] : Lg) k).1 (allS df n es 0 ([] : Lg) k).2 g).2.length) rc3 47 67 rx3 :: Ent.pin (sblks rx3) (fun w => Lgs w rx3 ((allS df n ks (allS df n es 0 ([] : Lg) k).1 (allS df n es 0 ([] : Lg) k).2 g).2)) :: Ent.view da0 (df.map vu8) :: tl2) ∧ (j ≤ qn) ∧ (bs.length = qn) ∧ m = qn + 1 - j) ⟨(0, _), _, ⟨rfl, trivial⟩, h_338, Nat.zero_le _, hqn, rfl⟩ ?_
        rintro ⟨j, bs⟩ m_341 J_342 w_339 ⟨h_340, hjn, hbs, rfl⟩
        refine WP.seq (WP.seq (WP.reg ?_))
        refine qM (vn j) rfl rfl (qM (.slice a_206 ((allS df n ks (allS df n es 0 ([] : Lg) k).1 (allS df n es 0 ([] : Lg) k).2 g).2.length) c_207) rfl rfl (qM (vn i) rfl rfl (qV rfl (R.indexS (a := a_206) (i := i) (off := i * 67) (xs := ys_208) rfl rfl rfl (by omega) (ownView (h_340.ok _ M1)) (by rw [hy_211]; omega) underlying31 sizeOf47 rfl) (qV rfl (R.fieldG (a := a_206) (i := i * 67) (off' := i * 67) rfl underlying47 rfl sizeOf39 rfl rfl) (qV rfl (R.fieldG (a := a_206) (i := i * 67) (off' := i * 67 + 34) rfl underlying39 rfl sizeOf37 rfl rfl) (qV rfl (R.loadG rfl (ownView (h_340.ok _ M1)) isAgg37 (row_s hyx hqi.1)) (qV rfl (R.lenS (a := qa) (m := qn) rfl rfl underlying37) (qV rfl (R.bin rfl rfl (bi_lss (r := decide ((((j : Nat) : Int) : Int) < ((qn : Nat) : Int))) rfl)) ?_))))))))
        refine WL.nil (thn_n ?_)
        refine WP.cond (b := decide ((((j : Nat) : Int) : Int) < ((qn : Nat) : Int))) rfl (fun c_343 => ?_) (fun c_343 => ?_)
        ·have p_344 := of_decide_eq_true c_343
         refine WP.skip (thn_n (WP.seq (WP.block (WP.reg ?_))))
         refine qM (.slice a_206 ((allS df n ks (allS df n es 0 ([] : Lg) k).1 (allS df n es 0 ([] : Lg) k).2 g).2.length) c_207) rfl rfl (qM (vn i) rfl rfl (qV rfl (R.indexS (a := a_206) (i := i) (off := i * 67) (xs := ys_208) rfl rfl rfl (by omega) (ownView (h_340.ok _ M1)) (by rw [hy_211]; omega) underlying31 sizeOf47 rfl) (qV rfl (R.fieldG (a := a_206) (i := i * 67) (off' := i * 67) rfl underlying47 rfl sizeOf39 rfl rfl) (qV rfl (R.fieldG (a := a_206) (i := i * 67) (off' := i * 67 + 34) rfl underlying39 rfl sizeOf37 rfl rfl) (qV rfl (R.loadG rfl (ownView (h_340.ok _ M1)) isAgg37 (row_s hyx hqi.1)) (qM (vn j) rfl rfl (qV rfl (R.indexS (a := qa) (i := j) (off := j) (xs := bs.map vu8) rfl rfl rfl (by omega) (ownView (h_340.ok _ M0)) (lt_len (K := qn) (len_map hbs) (by omega)) underlying37 sizeOf5 (Nat.mul_one _).symm) (qV rfl (R.loadG rfl (ownView (h_340.ok _ M0)) isAgg5 (get_u8 (lt_len (K := qn) hbs (by omega)))) (qV rfl (R.bin rfl rfl (b8_add (bs.getD j 0) 1)) (qV rfl (R.indexS (a := qa) (i := j) (off := j) (xs := bs.map vu8) rfl rfl rfl (by omega) (ownView (h_340.ok _ M0)) (lt_len (K := qn) (len_map hbs) (by omega)) underlying37 sizeOf5 (Nat.mul_one _).symm) ?_))))))))))
         refine WL.storeR (a := qa) (i := j) (v := (vu8 ((bs.getD j 0) + 1))) (xs' := (bs.set j ((bs.getD j 0) + 1)).map vu8) h_340 rfl rfl sizeOf5 rfl At.h (lt_len (K := qn) (len_map hbs) (by omega)) (set_u8 _ _ _) (fun w_345 h_346 => ?_)
         refine WL.nil (inb_n (thn_n (WP.reg ?_)))
         refine qM (vn j) rfl rfl (qV rfl (R.bin rfl rfl (bi_add (c := ((j + 1 : Nat) : Int)) (by omega) (by omega))) (qA (vn (j + 1)) rfl rfl ?_))
         refine WL.nil (thn_n ?_)
         have h_357 := ((((((((((h_346.up J10).up J10).up J10).up J10).up J10).up J10).up J10).up J10).up J10).up J10).up J10
         exact ⟨(j + 1, _), _, (by omega), (Ag.upd rfl (U2 rfl rfl (U4 rfl rfl rfl rfl (U4 rfl rfl rfl rfl (U4 rfl rfl rfl rfl (U4 rfl rfl rfl rfl (U4 rfl rfl rfl rfl (Ag.updL rfl (Ag.mix _ _ _))))))))), ⟨rfl, trivial⟩, h_357, (by omega), (len_set hbs _ _), rfl⟩
        ·have p_358 := of_decide_eq_false c_343
         refine WP.exit (thn_x (thn_x (inb_hit (inb_n (thn_n (WP.reg ?_))))))
         refine qM (vn i) rfl rfl (qV rfl (R.bin rfl rfl (bi_add (c := ((i + 1 : Nat) : Int)) (by omega) (by omega))) (qA (vn (i + 1)) rfl rfl ?_))
         refine WL.nil (thn_n ?_)
         have h_369 := ((((((((((h_340.drop rfl).up J9).up J9).up J9).up J9).up J9).up J9).up J9).up J9).up J9).up J9
         exact ⟨(i + 1, tl2), _, (by omega), (U4 rfl rfl rfl rfl (U4 rfl rfl rfl rfl (U4 rfl rfl rfl rfl (Ag.updL rfl (Ag.trans (Ag.sub rfl (Ag.mix _ _ _)) (Ag.upd rfl (Ag.upd rfl (Ag.upd rfl (Ag.upd rfl (Ag.upd rfl (Ag.upd rfl (Ag.upd rfl (Ag.upd rfl (Ag.upd rfl (Ag.upd rfl (Ag.upd rfl (Ag.upd rfl (Ag.upd rfl (Ag.upd rfl (Ag.updL rfl (Ag.mix _ _ _))))))))))))))))))))), ⟨rfl, trivial⟩, h_369, (by omega), hT2, rfl⟩
      ·have p_370 := of_decide_eq_false c_255
       refine WP.exit (thn_x (thn_x (inb_hit (thn_n (WP.seq ?_)))))
       have h_371 := HP_tailDrop0 (E := [_, _, _, _, _, _, _, _, _, _]) h_252 hT.ar
       refine WP.drawT (SL w.heap.size [.row a_206 ((allS df n ks (allS df n es 0 ([] : Lg) k).1 (allS df n es 0 ([] : Lg) k).2 g).2.length) c_207 47 67 ys_208, .blk b_26 .nw 66 [(1, [(.bool true)]), (32, (zB 32).map vu8), (1, [(.slice a_28 n c_29)]), (1, [(vn ((allS df n ks (allS df n es 0 ([] : Lg) k).1 (allS df n es 0 ([] : Lg) k).2 g).1))]), (1, [(.map (some b_27))]), (1, [(.slice la3 ((allS df n ks (allS df n es 0 ([] : Lg) k).1 (allS df n es 0 ([] : Lg) k).2 g).2.length) lc3)])], .row la3 ((allS df n ks (allS df n es 0 ([] : Lg) k).1 (allS df n es 0 ([] : Lg) k).2 g).2.length) lc3 47 67 lx3, .obj b_27 .nw (.map (mArr ((allS df n ks (allS df n es 0 ([] : Lg) k).1 (allS df n es 0 ([] : Lg) k).2 g).2)) ((allS df n ks (allS df n es 0 ([] : Lg) k).1 (allS df n es 0 ([] : Lg) k).2 g).2.length)), .pin (sblks lx3) (fun w => Lgs w lx3 ((allS df n ks (allS df n es 0 ([] : Lg) k).1 (allS df n es 0 ([] : Lg) k).2 g).2)), .view a_28 (df.map vu8), .blk b_33 .nw 33 [(1, [(.bool true)]), (32, (zB 32).map vu8), (1, [(.slice da0 n cap0)]), (1, [(vn ((allS df n ks (allS df n es 0 ([] : Lg) k).1 (allS df n es 0 ([] : Lg) k).2 g).1))]), (1, [(.slice ra3 ((allS df n ks (allS df n es 0 ([] : Lg) k).1 (allS df n es 0 ([] : Lg) k).2 g).2.length) rc3)])], .row ra3 ((allS df n ks (allS df n es 0 ([] : Lg) k).1 (allS df n es 0 ([] : Lg) k).2 g).2.length) rc3 47 67 rx3, .pin (sblks rx3) (fun w => Lgs w rx3 ((allS df n ks (allS df n es 0 ([] : Lg) k).1 (allS df n es 0 ([] : Lg) k).2 g).2)), .view da0 (df.map vu8)]) (.q 0 (.q 2 (.q 3 (.q 4 (.q 5 (.s 1 (.s 6 (.q 7 (.s 8 (.q 9 (.q 10 .nil))))))))))) (by kernel_rfl) (by kernel_rfl) rfl (by kernel_rfl) (fun w_372 hc_374 => (SL.cons ((h_371.same hc_374).ok _ M0) (SL.cons ((h_371.same hc_374).ok _ M1) (SL.cons ((h_371.same hc_374).ok _ M2) (SL.cons ((h_371.same hc_374).ok _ M3) (SL.cons ((h_371.same hc_374).ok _ M4) (SL.cons ((h_371.same hc_374).ok _ M5) (SL.cons ((h_371.same hc_374).ok _ M6) (SL.cons ((h_371.same hc_374).ok _ M7) (SL.cons ((h_371.same hc_374).ok _ M8) (SL.cons ((h_371.same hc_374).ok _ M9) (SL.nil _ _)))))))))))) (fun w_372 hc_374 => ?_)
       have h_373 := h_371.same hc_374
       refine qT rfl rfl (fun wq hS => R.move (v := (pO b_26 0)) rfl) ?_
       refine qT rfl rfl (fun wq hS => R.move (v := (pO b_33 0)) rfl) ?_
       refine qT rfl rfl (fun wq hS => R.nilCheck rfl) ?_
       refine qT rfl rfl (fun wq hS => R.fieldAddr (off' := 35) rfl underlying33 rfl sizeOf31 rfl rfl) ?_
       refine qT rfl rfl (fun wq hS => R.load1 rfl isAgg31 (hS _ M6) (Sg.t rfl (Sg.t rfl (Sg.t rfl (Sg.t rfl Sg.h))))) ?_
       refine WT.s (oN rfl ?_)
       have h_379 := ((((h_373.up J5).up J5).up J5).up J5).up J5
       refine WL.call Tryz.call10 rfl rfl (c_oLog true b_26 b_27 (zB 32) df lr a_28 n c_29 ((allS df n ks (allS df n es 0 ([] : Lg) k).1 (allS df n es 0 ([] : Lg) k).2 g).1) hl la3 lc3 lx3 ((allS df n ks (allS df n es 0 ([] : Lg) k).1 (allS df n es 0 ([] : Lg) k).2 g).2) (by first | decide | omega) (by first | decide | omega) _ h_379) rfl ?_
       rintro _ w_383 ⟨a_380, c_381, ys_382, rfl, h_384⟩
       refine WL.nil ?_
       refine ⟨(N7_2_3_4_5_6_8_9_10_11 h_384.ok), ?_⟩
       refine WT.s (oN rfl ?_)
       refine WL.call Tryz.call12 rfl rfl (c_rSameLog a_380 ((allS df n ks (allS df n es 0 ([] : Lg) k).1 (allS df n es 0 ([] : Lg) k).2 g).2.length) c_381 ys_382 ((allS df n ks (allS df n es 0 ([] : Lg) k).1 (allS df n es 0 ([] : Lg) k).2 g).2) rfl (by omega) ra3 rc3 rx3 _ (ownView (h_384.ok _ M0)) (h_384.ok _ M1).1 (ownView (h_384.ok _ M9)) (h_384.ok _ M10).1) rfl ?_
       rintro _ w_386 ⟨rfl, hc_385⟩
       have h_387 := h_384.same hc_385
       refine WL.nil ?_
       refine ⟨(N7_2_3_4_5_6_8_9_10_11 h_387.ok), ?_⟩
       refine qT rfl rfl (fun wq hS => R.move (v := (.bool true)) (rfl)) ?_
       refine WT.s ?_
       refine Op1.one rfl (Wn.yes rfl rfl rfl) ?_
       refine WL.call Tryz.call6 rfl rfl (c_known05  _ ) rfl ?_
       rintro _ w_389 ⟨rfl, hc_388⟩
       have h_390 := h_387.same hc_388
       refine WL.nil ?_
       refine ⟨(N7_2_3_4_5_6_8_9_10_11 h_390.ok), ?_⟩
       refine qT rfl rfl (fun wq hS => R.pickT (v := (.bool true)) rfl rfl) ?_
       refine qT rfl rfl (fun wq hS => R.assign (v := (.bool true)) rfl) ?_
       refine WT.nil (thn_n (WP.ret ?_))
       refine ret_of results3 (RV.tmp (v := (.bool true)) rfl RV.nil) ?_
       exact ⟨rfl, h_390.chgS⟩
namespace oracleAgainDone
open Go.ChangeShapes Go.WideShapes Go.ChangeAt
theorem own : ownKnob Tryz.prog.godebug = none := by kernel_rfl
theorem laidOut : laidOutB Tryz.prog = true := by kernel_rfl
set_option maxRecDepth 100000 in
theorem lifted (os : Os) (started : os.Started) (H : Type) (enc : TypeId × Value → H) :
  ReturnsInHanded {} Tryz.checked os 3 .any (Rows.oracleAgainSpec.pre6 enc Tryz.prog Tryz.f3 Rows.oracleAgainRow.domain false) (Rows.oracleAgainSpec.post enc Tryz.prog Tryz.f3 false true false false) := by
 refine returnsInHanded_of_change (C := Tryz.checked) own started (by kernel_rfl) Tryz.func3
  (ChangeSpec.witness6 (enc := enc) (C := Tryz.checked) false ⟨#[], #[.slice none 0 0, .slice none 0 0, .slice none 0 0], []⟩ 8 (by kernel_rfl) (by kernel_rfl) (by kernel_rfl) (by kernel_rfl)) ?_
 intro W base args ds gs before hval0 hW hcnd _
 have hval : ∀ (j : Nat) t v, Tryz.f3.params[j]? = some t → args[j]? = some v → Value.okWide Tryz.prog W .any base t v := hval0
 have hW' := hW
 obtain ⟨p, q, hA0, hV, rfl, hfz, hnd⟩ := hW
 have hA : DataW.TrodAll enc Tryz.prog W 0 (fun _ => true) true Tryz.f3.params.toList args.toList ds p := hA0
 rw [Tryz.params3] at hA hval
 obtain ⟨v0, vs0, d0, ds0, p0, q0, hargs, rfl, rfl, h0, r0⟩ := trodAll_cons hA
 obtain ⟨v1, vs1, d1, ds1, p1, q1, rfl, rfl, rfl, h1, r1⟩ := trodAll_cons r0
 obtain ⟨v2, vs2, d2, ds2, p2, q2, rfl, rfl, rfl, h2, r2⟩ := trodAll_cons r1
 obtain ⟨rfl, rfl, rfl⟩ := trodAll_nil r2
 obtain rfl : args = #[v0, v1, v2] := by cases args; simp_all
 obtain ⟨rfl, rfl⟩ := trodVars_none hV
 have lt0 : ∀ x ∈ p0, x.block < W.heap.size := by obtain ⟨m, hm⟩ := h0; exact DataW.trod_lt m _ _ _ hm
 obtain ⟨a0, n0, c0, rfl⟩ := okWide_slice underlying22 (hval 0 22 v0 rfl rfl)
 obtain ⟨a0, n0, c0, x0, e0, l_x0, hc0, hm0, hv0⟩ := Tr.slA8 underlying22 ce29 underlying29 ce5 underlying5 (Tr.of h0 rfl)
 cases e0
 have lt1 : ∀ x ∈ p1, x.block < W.heap.size := by obtain ⟨m, hm⟩ := h1; exact DataW.trod_lt m _ _ _ hm
 obtain ⟨a1, n1, c1, rfl⟩ := okWide_slice underlying23 (hval 1 23 v1 rfl rfl)
 obtain ⟨a1, n1, c1, x1, e1, l_x1, hc1, hm1, hr1, hv1⟩ := trAk W (Tr.of h1 rfl)
 cases e1
 have lt2 : ∀ x ∈ p2, x.block < W.heap.size := by obtain ⟨m, hm⟩ := h2; exact DataW.trod_lt m _ _ _ hm
 obtain ⟨a2, n2, c2, rfl⟩ := okWide_slice underlying23 (hval 2 23 v2 rfl rfl)
 obtain ⟨a2, n2, c2, x2, e2, l_x2, hc2, hm2, hr2, hv2⟩ := trAk W (Tr.of h2 rfl)
 cases e2
 clear hA0 hval0
 have hw : Cs Tryz.prog 3 [(.slice a0 n0 c0), (.slice a1 n1 c1), (.slice a2 n2 c2)].toArray W (fun v w1 => v = .bool true ∧ Chg W w1 []) := w_OracleAgain x0 a0 n0 c0 l_x0 a1 n1 c1 x1 l_x1 hr1.1 hc1 hm1 a2 n2 c2 x2 l_x2 hr2.1 hc2 hm2 W hv0.1 hv1.1 hr1.2 hv2.1 hr2.2
 have ea : ([(.slice a0 n0 c0), (.slice a1 n1 c1), (.slice a2 n2 c2)] : List Value).toArray = (#[(.slice a0 n0 c0), (.slice a1 n1 c1), (.slice a2 n2 c2)] : Array Value) := by simp [flat]
 rw [ea] at hw
 refine Calls.mono (Cs.below hw) fun e W' ⟨he, bel⟩ => ?_
 subst he
 exact ⟨_, rfl, _, _, _, [], _, [], hW', trodAll_mk1 (shut_bool underlying4 _), (trodAll_cons_mk (Below.trod laidOut (by kernel_rfl) (of_decide_eq_true (by kernel_rfl)) h0 bel lt0) (trodAll_cons_mk (Below.trod laidOut (by kernel_rfl) (of_decide_eq_true (by kernel_rfl)) h1 bel lt1) (trodAll_cons_mk (Below.trod laidOut (by kernel_rfl) (of_decide_eq_true (by kernel_rfl)) h2 bel lt2) trodAll_mk0))), rfl, bel.frame _, fun h => by cases h⟩
theorem over : Rows.oracleAgainRow.holds Tryz.pinned (OpenSpec.ofChange Rows.oracleAgainSpec) :=
 OpenClaim.holds_of_wide 3 Tryz.f3 rfl rfl rfl rfl rfl rfl rfl ⟨rfl, rfl, rfl, rfl, rfl⟩ rfl rfl rfl rfl rfl (by kernel_rfl) Tryz.func3 (by kernel_rfl)
  (of_decide_eq_true (by kernel_rfl)) (by unfold Func.isWrapper; first | (rw [if_pos (by decide +kernel)]; kernel_rfl) | (rw [if_neg (by decide +kernel)]; exact ⟨rfl, rfl⟩))
  (fun os started H enc _ => lifted os started H enc)
theorem proved : Rows.OracleAgainSaid := over
end oracleAgainDone
end Go.Proofs.YtajiipjmmoehcaaGreat
