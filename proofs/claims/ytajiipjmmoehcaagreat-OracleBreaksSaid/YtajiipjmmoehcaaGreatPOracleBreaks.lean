/- OracleBreaks holds of every input. Conditions: none. -/
import Derived.Test.YtajiipjmmoehcaaGreatZ5OracleBreaks
set_option linter.unusedVariables false
set_option linter.unusedSimpArgs false
set_option linter.unusedSectionVars false
namespace Go.Proofs.YtajiipjmmoehcaaGreat
open Go.Proofs.Tryz
open Go.Vc Go.Orc Go.Sh Go.RowKit
set_option linter.unusedVariables false
set_option linter.unusedSimpArgs false
set_option maxRecDepth 20000
theorem el52 : ElT Tryz.prog 52 53 2 16 := ElT.mk' underlying52 (i := Tryz.t53) rfl rfl rfl rfl rfl rfl
theorem pl33 : ∀ fs, Tryz.prog.underlying 33 = some (.struct fs) → Places Tryz.prog fs [(0, 1), (1, 32), (33, 1), (34, 1), (35, 1)] := by
 intro fs h w; rw [underlying33] at h; cases h; simp
theorem w_OracleBreaks (df : List UInt8) (da0 : Option Addr) (n cap0 : Nat) (hl : df.length = 32 * n) (ar : Option Addr) (nr cr : Nat) (es : List Ae) (hel : es.length = nr) (hes : ∀ e ∈ es, okAe e) (hcr : nr ≤ cr) (hcm : cr ≤ maxLen) (w : World) (hv : View w da0 (df.map vu8)) (hve : View w ar (aesC es)) (hak : Aks w es) :
  Cs Tryz.prog 4 [(.slice da0 n cap0), (.slice ar nr cr)].toArray w (fun v w1 => v = (.bool true) ∧ Chg w w1 []) := by
 refine Cs.ofM (n := 197) (args := [(.slice da0 n cap0), (.slice ar nr cr)]) Tryz.func4 rfl rfl rfl ?_
 have h_0 := HP.init w
 have h_01 := h_0.oldV (View.arg hv) rfl (by simp [Ent.mut])
 have h_02 := h_01.oldV (View.arg hve) rfl (by simp [Ent.mut])
 have h_00 := h_02.oldV (Aks.pin hak) rfl (by simp [Ent.mut])
 refine WP.seq (WP.reg ?_)
 refine WL.alloc (segs := [(1, [(.bool false)])]) h_00 (zv typeInfo4 rfl) rfl (sC sV sN) rfl (fun b_1 w_2 h_3 => ?_)
 refine WL.nil (thn_n (WP.seq (WP.seq (WP.reg ?_))))
 refine qM (.slice ar nr cr) rfl rfl ?_
 refine WL.call Tryz.call5 rfl rfl (c_much ar nr cr es hel hes (Nat.le_trans hcr hcm) _ (viewV (h_3.ok _ M2)) (h_3.ok _ M1).1) rfl ?_
 rintro _ w_7 ⟨bd_4, rfl, hd_5, hc_6⟩
 have h_8 := h_3.same hc_6
 refine qM (.bool bd_4) rfl rfl ?_
 rcases Bool.eq_false_or_eq_true bd_4 with c_9 | c_9
 ·refine WL.skip rfl (congrArg Value.bool c_9) rfl ?_
  refine WL.skip rfl (congrArg Value.bool c_9) rfl ?_
  refine WL.skip rfl (congrArg Value.bool c_9) rfl ?_
  refine qV rfl (R.pickT (v := (.bool true)) (congrArg Value.bool c_9) rfl) ?_
  refine WL.nil (thn_n ?_)
  refine WP.condT rfl ?_
  refine WP.seq (WP.reg ?_)
  refine WL.call Tryz.call6 rfl rfl (c_known05  _ ) rfl ?_
  rintro _ w_11 ⟨rfl, hc_10⟩
  have h_12 := h_8.same hc_10
  refine WL.store1 h_12 rfl rfl sizeOf4 rfl At.h (by decide) Sg.h (fun w_13 h_14 => ?_)
  refine WL.nil (thn_n (WP.ret (thn_r ?_)))
  obtain ⟨w_15, ht_16, h_17⟩ := HP.taken (fun _ => True) [] h_14
  refine retM_of ht_16 results4 (RV.cell rfl (h_17.load1 isAgg4 M0) RV.nil) ?_
  exact ⟨rfl, h_17.chgS⟩
 ·refine WL.want rfl (congrArg Value.bool c_9) ?_
  refine qM (.slice da0 n cap0) rfl rfl ?_
  refine WL.want rfl (congrArg Value.bool c_9) ?_
  refine qV rfl (R.lenS (a := da0) (m := n) rfl rfl underlying22) ?_
  refine WL.want rfl (congrArg Value.bool c_9) ?_
  refine qV rfl (R.bin rfl rfl (bi_gtr (r := decide ((((n : Nat) : Int) : Int) > 60)) rfl)) (qV rfl (R.pickF (v := (.bool (decide ((((n : Nat) : Int) : Int) > 60)))) (congrArg Value.bool c_9) rfl) ?_)
  refine WL.nil (thn_n ?_)
  refine WP.cond (b := decide ((((n : Nat) : Int) : Int) > 60)) rfl (fun c_18 => ?_) (fun c_18 => ?_)
  ·have p_19 := of_decide_eq_true c_18
   refine WP.seq (WP.reg ?_)
   refine WL.call Tryz.call6 rfl rfl (c_known05  _ ) rfl ?_
   rintro _ w_21 ⟨rfl, hc_20⟩
   have h_22 := h_8.same hc_20
   refine WL.store1 h_22 rfl rfl sizeOf4 rfl At.h (by decide) Sg.h (fun w_23 h_24 => ?_)
   refine WL.nil (thn_n (WP.ret (thn_r ?_)))
   obtain ⟨w_25, ht_26, h_27⟩ := HP.taken (fun _ => True) [] h_24
   refine retM_of ht_26 results4 (RV.cell rfl (h_27.load1 isAgg4 M0) RV.nil) ?_
   exact ⟨rfl, h_27.chgS⟩
  ·have p_28 := of_decide_eq_false c_18
   refine WP.skip (thn_n (WP.seq (WP.seq (WP.reg ?_))))
   refine qA (vi 0) rfl rfl ?_
   refine WL.nil (thn_n (WP.block ?_))
   have hm1 := (hd_5 c_9)
   have hn40 := hm1.1
   refine WP.loopG (G := Nat) [5, 26, 27, 28, 29, 30, 31, 32, 33, 34, 35, 36, 37, 38, 39, 40, 41, 42, 43, 44, 45, 46] (fun j0 => [(5, (vn j0))]) (fun j0 m w1 => HP w w1 [.blk b_1 .nw 4 [(1, [(.bool false)])], .pin (akBs es) (fun w => Aks w es), .view ar (aesC es), .view da0 (df.map vu8)] ∧ (j0 ≤ nr) ∧ m = nr + 1 - j0) ⟨0, _, ⟨rfl, trivial⟩, h_8, Nat.zero_le _, rfl⟩ ?_
   rintro j0 m_31 J_32 w_29 ⟨h_30, hj0, rfl⟩
   refine WP.seq (WP.seq (WP.reg ?_))
   refine qM (vn j0) rfl rfl (qM (.slice ar nr cr) rfl rfl (qV rfl (R.lenS (a := ar) (m := nr) rfl rfl underlying23) (qV rfl (R.bin rfl rfl (bi_lss (r := decide ((((j0 : Nat) : Int) : Int) < ((nr : Nat) : Int))) rfl)) ?_)))
   refine WL.nil (thn_n ?_)
   refine WP.cond (b := decide ((((j0 : Nat) : Int) : Int) < ((nr : Nat) : Int))) rfl (fun c_33 => ?_) (fun c_33 => ?_)
   ·have p_34 := of_decide_eq_true c_33
    refine WP.skip (thn_n (WP.seq (WP.block (WP.seq ?_))))
    have hlj0 : j0 < es.length := by omega
    refine WP.reg ?_
    refine qM (.slice ar nr cr) rfl rfl (qM (vn j0) rfl rfl (qV rfl (R.indexS (a := ar) (i := j0) (off := j0 * 37) (xs := aesC es) rfl rfl rfl (by omega) (viewV (h_30.ok _ M2)) (by rw [aesC_len hes]; omega) underlying23 sizeOf41 rfl) (qV rfl (R.fieldG (a := ar) (i := j0 * 37) (off' := j0 * 37) rfl underlying41 rfl sizeOf3 rfl rfl) (qV rfl (R.loadG rfl (viewV (h_30.ok _ M2)) isAgg3 (ae_0 hes hlj0)) (qV rfl (R.bin rfl rfl (bi_eql (r := decide (((es.getD j0 zAe).k : Int) = 2)) rfl)) (qM (.bool (decide (((es.getD j0 zAe).k : Int) = 2))) rfl rfl ?_))))))
    rcases Bool.eq_false_or_eq_true (decide (((es.getD j0 zAe).k : Int) = 2)) with c_35 | c_35
    ·have p_36 := of_decide_eq_true c_35
     refine WL.want rfl (congrArg Value.bool c_35) ?_
     refine qM (.slice ar nr cr) rfl rfl ?_
     refine WL.want rfl (congrArg Value.bool c_35) ?_
     refine qM (vn j0) rfl rfl ?_
     refine WL.want rfl (congrArg Value.bool c_35) ?_
     refine qV rfl (R.indexS (a := ar) (i := j0) (off := j0 * 37) (xs := aesC es) rfl rfl rfl (by omega) (viewV (h_30.ok _ M2)) (by rw [aesC_len hes]; omega) underlying23 sizeOf41 rfl) ?_
     refine WL.want rfl (congrArg Value.bool c_35) ?_
     refine qV rfl (R.fieldG (a := ar) (i := j0 * 37) (off' := j0 * 37 + 1) rfl underlying41 rfl sizeOf3 rfl rfl) ?_
     refine WL.want rfl (congrArg Value.bool c_35) ?_
     refine qV rfl (R.loadG rfl (viewV (h_30.ok _ M2)) isAgg3 (ae_1 hes hlj0)) ?_
     refine WL.want rfl (congrArg Value.bool c_35) ?_
     refine qV rfl (R.bin rfl rfl (bi_gtr (r := decide (((es.getD j0 zAe).n : Int) > 200)) rfl)) (qV rfl (R.pickT (v := (.bool (decide (((es.getD j0 zAe).n : Int) > 200)))) (congrArg Value.bool c_35) rfl) ?_)
     refine WL.nil (thn_n ?_)
     refine WP.cond (b := decide (((es.getD j0 zAe).n : Int) > 200)) rfl (fun c_37 => ?_) (fun c_37 => ?_)
     ·have p_38 := of_decide_eq_true c_37
      refine WP.seq (WP.reg ?_)
      refine WL.call Tryz.call6 rfl rfl (c_known05  _ ) rfl ?_
      rintro _ w_40 ⟨rfl, hc_39⟩
      have h_41 := h_30.same hc_39
      refine WL.store1 h_41 rfl rfl sizeOf4 rfl At.h (by decide) Sg.h (fun w_42 h_43 => ?_)
      refine WL.nil (thn_n (WP.ret (inb_r (thn_r (thn_r (inb_r (thn_r ?_)))))))
      obtain ⟨w_44, ht_45, h_46⟩ := HP.taken (fun _ => True) [] h_43
      refine retM_of ht_45 results4 (RV.cell rfl (h_46.load1 isAgg4 M0) RV.nil) ?_
      exact ⟨rfl, h_46.chgS⟩
     ·have p_47 := of_decide_eq_false c_37
      refine WP.skip (inb_n (thn_n (WP.reg ?_)))
      refine qM (vn j0) rfl rfl (qV rfl (R.bin rfl rfl (bi_add (c := ((j0 + 1 : Nat) : Int)) (by omega) (by omega))) (qA (vn (j0 + 1)) rfl rfl ?_))
      refine WL.nil (thn_n ?_)
      have h_51 := (((h_30.up J3).up J3).up J3).up J3
      exact ⟨j0 + 1, _, (by omega), (Ag.upd rfl (U4 rfl rfl rfl rfl (U4 rfl rfl rfl rfl (U4 rfl rfl rfl rfl (U4 rfl rfl rfl rfl (U4 rfl rfl rfl rfl (Ag.updL rfl (Ag.mix _ _ _)))))))), ⟨rfl, trivial⟩, h_51, (by omega), rfl⟩
    ·have p_52 := of_decide_eq_false c_35
     refine WL.skip rfl (congrArg Value.bool c_35) rfl ?_
     refine WL.skip rfl (congrArg Value.bool c_35) rfl ?_
     refine WL.skip rfl (congrArg Value.bool c_35) rfl ?_
     refine WL.skip rfl (congrArg Value.bool c_35) rfl ?_
     refine WL.skip rfl (congrArg Value.bool c_35) rfl ?_
     refine WL.skip rfl (congrArg Value.bool c_35) rfl ?_
     refine qV rfl (R.pickF (v := (.bool false)) (congrArg Value.bool c_35) rfl) ?_
     refine WL.nil (thn_n ?_)
     refine WP.condF rfl ?_
     refine WP.skip (inb_n (thn_n (WP.reg ?_)))
     refine qM (vn j0) rfl rfl (qV rfl (R.bin rfl rfl (bi_add (c := ((j0 + 1 : Nat) : Int)) (by omega) (by omega))) (qA (vn (j0 + 1)) rfl rfl ?_))
     refine WL.nil (thn_n ?_)
     have h_56 := (((h_30.up J3).up J3).up J3).up J3
     exact ⟨j0 + 1, _, (by omega), (Ag.upd rfl (U4 rfl rfl rfl rfl (U4 rfl rfl rfl rfl (U4 rfl rfl rfl rfl (U4 rfl rfl rfl rfl (U4 rfl rfl rfl rfl (Ag.updL rfl (Ag.mix _ _ _)))))))), ⟨rfl, trivial⟩, h_56, (by omega), rfl⟩
   ·have p_57 := of_decide_eq_false c_33
    refine WP.exit (thn_x (thn_x (inb_hit (thn_n (WP.seq (WP.reg ?_))))))
    refine qV rfl (R.buildA (vs := []) (cs := (zB 32).map vu8) underlying29 sizeOf5 (zv typeInfo29 rfl) rfl rfl) (qM (.slice da0 n cap0) rfl rfl ?_)
    have h_58 := h_30.up J3
    refine WL.call Tryz.call7 rfl rfl (c_ONew true (zB 32) df lr da0 n cap0 hl (by omega) _ h_58) rfl ?_
    rintro _ w_63 ⟨b_59, b_60, a_61, c_62, rfl, h_64⟩
    refine qA (pO b_59 0) rfl rfl ?_
    refine WL.nil (thn_n (WP.seq (WP.reg ?_)))
    refine qM (.slice da0 n cap0) rfl rfl (qV rfl (R.buildS (pl := [(0, 1), (1, 32), (33, 1), (34, 1), (35, 1)]) (zs := [(1, [(.bool false)]), (32, (zB 32).map vu8), (1, [(.slice none 0 0)]), (1, [(vi 0)]), (1, [(.slice none 0 0)])]) (vs := [(0, (.bool true)), (2, (.slice da0 n cap0))]) (out := [(1, [(.bool true)]), (32, (zB 32).map vu8), (1, [(.slice da0 n cap0)]), (1, [(vi 0)]), (1, [(.slice none 0 0)])]) underlying33 (zv typeInfo33 rfl) rfl (sC sV (sC (s8 lr) (sC sV (sC sV (sC sV sN))))) (pl33 _ underlying33) rfl (FillR.cons [] [(1, [(.bool false)])] [(1, [(.bool true)])] [(32, (zB 32).map vu8), (1, [(.slice none 0 0)]), (1, [(vi 0)]), (1, [(.slice none 0 0)])] rfl rfl rfl rfl (sC sV sN) rfl rfl rfl (FillR.cons [(1, [(.bool true)]), (32, (zB 32).map vu8)] [(1, [(.slice none 0 0)])] [(1, [(.slice da0 n cap0)])] [(1, [(vi 0)]), (1, [(.slice none 0 0)])] rfl rfl rfl rfl (sC sV sN) rfl rfl rfl FillR.nil)) rfl) ?_)
    refine WL.box (segs := [(1, [(.bool true)]), (32, (zB 32).map vu8), (1, [(.slice da0 n cap0)]), (1, [(vi 0)]), (1, [(.slice none 0 0)])]) h_64 rfl rfl (sC sV (sC (s8 lr) (sC sV (sC sV (sC sV sN))))) rfl (fun b_66 w_67 h_68 => ?_)
    refine WL.alloc (segs := [(1, [(.pointer none)])]) h_68 (zv typeInfo30 rfl) rfl (sC sV sN) rfl (fun b_69 w_70 h_71 => ?_)
    refine WL.store1 h_71 rfl rfl sizeOf30 rfl At.h (by decide) Sg.h (fun w_72 h_73 => ?_)
    refine WL.nil (thn_n (WP.seq (WP.seq (WP.reg ?_))))
    refine qA (vi 0) rfl rfl ?_
    refine WL.nil (thn_n (WP.block ?_))
    have h_74 := h_73.rowNil 47 67
    have h_75 := HP_logNil h_74
    have h_88 := ((((((((((((h_75.up J11).up J12).up J12).up J5).up J12).up J5).up J6).up J7).up J12).up J12).up J12).up J12).up J12
    refine WP.loopG (G := Nat × Option Addr × Nat × List Value × Option Addr × Nat × List Value) [8, 53, 54, 55, 56, 57, 58, 59, 60, 61, 62, 63, 64, 65, 66] (fun (k, la2, lc2, lx2, ra2, rc2, rx2) => [(8, (vn k))]) (fun (k, la2, lc2, lx2, ra2, rc2, rx2) m w1 => HP w w1 [.blk b_59 .nw 66 [(1, [(.bool true)]), (32, (zB 32).map vu8), (1, [(.slice a_61 n c_62)]), (1, [(vn ((allS df n es 0 ([] : Lg) k).1))]), (1, [(.map (some b_60))]), (1, [(.slice la2 ((allS df n es 0 ([] : Lg) k).2.length) lc2)])], .row la2 ((allS df n es 0 ([] : Lg) k).2.length) lc2 47 67 lx2, .obj b_60 .nw (.map (mArr ((allS df n es 0 ([] : Lg) k).2)) ((allS df n es 0 ([] : Lg) k).2.length)), .pin (sblks lx2) (fun w => Lgs w lx2 ((allS df n es 0 ([] : Lg) k).2)), .view a_61 (df.map vu8), .blk b_66 .nw 33 [(1, [(.bool true)]), (32, (zB 32).map vu8), (1, [(.slice da0 n cap0)]), (1, [(vn ((allS df n es 0 ([] : Lg) k).1))]), (1, [(.slice ra2 ((allS df n es 0 ([] : Lg) k).2.length) rc2)])], .row ra2 ((allS df n es 0 ([] : Lg) k).2.length) rc2 47 67 rx2, .pin (sblks rx2) (fun w => Lgs w rx2 ((allS df n es 0 ([] : Lg) k).2)), .view da0 (df.map vu8), .blk b_69 .nw 30 [(1, [(pO b_66 0)])], .blk b_1 .nw 4 [(1, [(.bool false)])], .view ar (aesC es), .pin (akBs es) (fun w => Aks w es)] ∧ (k ≤ nr) ∧ m = nr + 1 - k) ⟨(0, none, 0, [], none, 0, []), _, ⟨rfl, trivial⟩, h_88, Nat.zero_le _, rfl⟩ ?_
    rintro ⟨k, la2, lc2, lx2, ra2, rc2, rx2⟩ m_91 J_92 w_89 ⟨h_90, hkn, rfl⟩
    have hsu : (allS df n es 0 ([] : Lg) k).1 ≤ 32 * k := by have := allS_u (df := df) (dn := n) (es := es) (u := 0) (lg := []) k; omega
    have hsl : (allS df n es 0 ([] : Lg) k).2.length ≤ 32 * k := by have := allS_l (df := df) (dn := n) (es := es) (u := 0) (lg := []) k; rw [List.length_nil] at this; omega
    have hs32 := allS_32 (es := es) (u := 0) hl okN k
    have hli := allS_LI (df := df) (dn := n) (es := es) LI.nil k
    refine WP.seq (WP.seq (WP.reg ?_))
    refine qM (vn k) rfl rfl (qM (.slice ar nr cr) rfl rfl (qV rfl (R.lenS (a := ar) (m := nr) rfl rfl underlying23) (qV rfl (R.bin rfl rfl (bi_lss (r := decide ((((k : Nat) : Int) : Int) < ((nr : Nat) : Int))) rfl)) ?_)))
    refine WL.nil (thn_n ?_)
    refine WP.cond (b := decide ((((k : Nat) : Int) : Int) < ((nr : Nat) : Int))) rfl (fun c_93 => ?_) (fun c_93 => ?_)
    ·have p_94 := of_decide_eq_true c_93
     refine WP.skip (thn_n (WP.seq (WP.block (WP.seq ?_))))
     have hlk : k < es.length := by omega
     have hrk : okAe (es.getD k zAe) := hes _ (getD_mem hlk)
     have hrck : (es.getD k zAe).data.length ≤ (es.getD k zAe).c := hrk.2.1
     have h_95 := h_90.within (e' := .view (es.getD k zAe).a (((es.getD k zAe).data).map vu8)) M12 rfl (View.arg (ae_v (h_90.ok _ M12).1 hlk)) rfl rfl (ae_b hlk)
     have hdk := hm1.2 k hlk
     refine WP.drawT (SL w.heap.size [.view ((es.getD k zAe).a) (((es.getD k zAe).data).map vu8), .blk b_69 .nw 30 [(1, [(pO b_66 0)])], .blk b_1 .nw 4 [(1, [(.bool false)])], .view ar (aesC es), .pin (akBs es) (fun w => Aks w es)]) (.q 0 (.q 1 (.q 2 (.q 3 (.q 4 (.q 5 (.s 6 (.q 7 .nil)))))))) (by kernel_rfl) (by kernel_rfl) rfl (by kernel_rfl) (fun w_96 hc_98 => (SL.cons ((h_95.same hc_98).ok _ M0) (SL.cons ((h_95.same hc_98).ok _ M10) (SL.cons ((h_95.same hc_98).ok _ M11) (SL.cons ((h_95.same hc_98).ok _ M12) (SL.cons ((h_95.same hc_98).ok _ M13) (SL.nil _ _))))))) (fun w_96 hc_98 => ?_)
     have h_97 := h_95.same hc_98
     refine qT rfl rfl (fun wq hS => R.move (v := (pO b_59 0)) rfl) ?_
     refine qT rfl rfl (fun wq hS => R.load1 rfl isAgg30 (hS _ M1) Sg.h) ?_
     refine qT rfl rfl (fun wq hS => R.move (v := (.slice ar nr cr)) rfl) ?_
     refine qT rfl rfl (fun wq hS => R.move (v := (vn k)) rfl) ?_
     refine qT rfl rfl (fun wq hS => R.indexS (a := ar) (i := k) (off := k * 37) (xs := aesC es) rfl rfl rfl (by omega) (viewV (hS _ M3)) (by rw [aesC_len hes]; omega) underlying23 sizeOf41 rfl) ?_
     refine qT rfl rfl (fun wq hS => R.loadGA (a := ar) (i := k * 37) (xs := aesC es) (cs := flat [(1, [(vi ((es.getD k zAe).k))]), (1, [(vi ((es.getD k zAe).n))]), (1, [(vi ((es.getD k zAe).kd))]), (32, ((es.getD k zAe).key).map vu8), (1, [(vi ((es.getD k zAe).dm))]), (1, [(.slice ((es.getD k zAe).a) ((es.getD k zAe).data.length) ((es.getD k zAe).c))])]) rfl (viewV (hS _ M3)) isAgg41 sizeOf41 (aesC_at hes hlk) (aeC_len hrk) (by decide)) ?_
     refine WT.s (oN rfl ?_)
     have h_107 := ((((((((h_97.up J9).up J9).up J9).up J9).up J9).up J9).up J9).up J9).up J9
     refine WL.call Tryz.call8 rfl rfl (c_one b_59 b_60 df a_61 n c_62 ((allS df n es 0 ([] : Lg) k).1) hl la2 lc2 lx2 ((allS df n es 0 ([] : Lg) k).2) (by first | decide | omega) (by first | decide | omega) b_66 da0 cap0 ra2 rc2 rx2 (es.getD k zAe) hrk hdk _ h_107) rfl ?_
     rintro _ w_114 ⟨la_108, lc_109, lx_110, ra_111, rc_112, rx_113, rfl, h_115⟩
     refine WL.nil ?_
     refine ⟨(SL.cons (h_115.ok _ M9) (SL.cons (h_115.ok _ M10) (SL.cons (h_115.ok _ M11) (SL.cons (h_115.ok _ M12) (SL.cons (h_115.ok _ M13) (SL.nil _ _)))))), ?_⟩
     refine qT rfl rfl (fun wq hS => R.not (b := true) rfl) ?_
     refine WT.nil (thn_n ?_)
     refine WP.condF rfl ?_
     refine WP.skip (inb_n (thn_n (WP.reg ?_)))
     refine qM (vn k) rfl rfl (qV rfl (R.bin rfl rfl (bi_add (c := ((k + 1 : Nat) : Int)) (by omega) (by omega))) (qA (vn (k + 1)) rfl rfl ?_))
     refine WL.nil (thn_n ?_)
     have h_130 := ((((((((((((((h_115.up J9).drop rfl).up J12).up J12).up J12).up J12).up J12).up J12).up J12).up J12).up J12).up J12).up J12).up J12).up J12
     exact ⟨(k + 1, la_108, lc_109, lx_110, ra_111, rc_112, rx_113), _, (by omega), (Ag.upd rfl (U2 rfl rfl (U4 rfl rfl rfl rfl (U4 rfl rfl rfl rfl (U4 rfl rfl rfl rfl (Ag.updL rfl (Ag.mix _ _ _))))))), ⟨rfl, trivial⟩, h_130, (by omega), rfl⟩
    ·have p_131 := of_decide_eq_false c_93
     refine WP.exit (thn_x (thn_x (inb_hit (thn_n (WP.seq ?_)))))
     have h_146 := ((((((((((((((h_90.up J11).drop rfl).up J11).drop rfl).up J10).up J10).up J10).up J10).up J10).up J10).up J10).up J10).up J10).up J10).up J10
     have hkle : k ≤ 40 := by omega
     obtain ⟨u, lg, hLI, hu0, hlg0, h32, h_147⟩ : ∃ (u : Nat) (lg : Lg), LI df n u lg ∧ u ≤ 1280 ∧ lg.length ≤ 1280 ∧ ok32 lg ∧ HP w w_89 [.blk b_59 .nw 66 [(1, [(.bool true)]), (32, (List.replicate 32 (0 : UInt8)).map vu8), (1, [(.slice a_61 n c_62)]), (1, [(vi ((u : Nat) : Int))]), (1, [(.map (some b_60))]), (1, [(.slice la2 lg.length lc2)])], .row la2 lg.length lc2 47 67 lx2, .obj b_60 .nw (.map (mArr lg) lg.length), .pin (sblks lx2) (fun w => Lgs w lx2 lg), .view a_61 (df.map vu8), .blk b_66 .nw 33 [(1, [(.bool true)]), (32, (List.replicate 32 (0 : UInt8)).map vu8), (1, [(.slice da0 n cap0)]), (1, [(vi ((u : Nat) : Int))]), (1, [(.slice ra2 lg.length rc2)])], .row ra2 lg.length rc2 47 67 rx2, .pin (sblks rx2) (fun w => Lgs w rx2 lg), .view da0 (df.map vu8), .blk b_69 .nw 30 [(1, [(.pointer (some ⟨b_66, 0, none⟩))])], .blk b_1 .nw 4 [(1, [(.bool false)])]] := ⟨_, _, hli, (by omega), (by omega), hs32, h_146⟩
     refine WP.reg ?_
     refine WL.alloc (segs := [(1, [(.slice none 0 0)])]) h_147 (zv typeInfo52 rfl) rfl (sC sV sN) rfl (fun b_148 w_149 h_150 => ?_)
     refine WL.nil (thn_n (WP.seq (WP.seq (WP.reg ?_))))
     refine qA (vi 0) rfl rfl ?_
     refine WL.nil (thn_n (WP.block ?_))
     have h_151 := h_150.rowNil 53 2
     have h_164 := ((((((((((((h_151.up J12).up J1).up J2).up J12).up J12).up J12).up J12).up J12).up J12).up J12).up J12).up J12).up J12
     refine WP.loopG (G := Nat × Option Addr × Nat) [10, 11, 12, 13, 67, 68, 69, 70, 71, 72, 73, 74, 75, 76, 77, 78, 79, 80, 81, 82, 83, 84, 85, 86, 87, 88, 89, 90, 91, 92, 93, 94, 95, 96, 97, 98, 99, 100, 101, 102, 103, 104, 105, 106, 107, 108, 109, 110, 111, 112, 113, 114, 115, 116, 117, 118, 119, 120, 121, 122, 123, 124, 125, 126, 127, 128, 129] (fun (ib, wa, wc) => [(10, (vn ib))]) (fun (ib, wa, wc) m w1 => HP w w1 [.blk b_59 .nw 66 [(1, [(.bool true)]), (32, (zB 32).map vu8), (1, [(.slice a_61 n c_62)]), (1, [(vn u)]), (1, [(.map (some b_60))]), (1, [(.slice la2 lg.length lc2)])], .row la2 lg.length lc2 47 67 lx2, .obj b_60 .nw (.map (mArr lg) lg.length), .pin (sblks lx2) (fun w => Lgs w lx2 lg), .view a_61 (df.map vu8), .blk b_66 .nw 33 [(1, [(.bool true)]), (32, (zB 32).map vu8), (1, [(.slice da0 n cap0)]), (1, [(vn u)]), (1, [(.slice ra2 lg.length rc2)])], .row ra2 lg.length rc2 47 67 rx2, .pin (sblks rx2) (fun w => Lgs w rx2 lg), .view da0 (df.map vu8), .blk b_69 .nw 30 [(1, [(pO b_66 0)])], .blk b_148 .nw 52 [(1, [(.slice wa ((pis lg ib).length) wc)])], .row wa ((pis lg ib).length) wc 53 2 ((prC (pis lg ib)).map vi64), .blk b_1 .nw 4 [(1, [(.bool false)])]] ∧ (ib ≤ lg.length) ∧ m = lg.length + 1 - ib) ⟨(0, none, 0), _, ⟨rfl, trivial⟩, h_164, Nat.zero_le _, rfl⟩ ?_
     rintro ⟨ib, wa, wc⟩ m_167 J_168 w_165 ⟨h_166, hibn, rfl⟩
     refine WP.seq (WP.seq (WP.reg ?_))
     refine qM (vn ib) rfl rfl (qV rfl (R.load1 rfl isAgg30 (h_166.ok _ M9) Sg.h) (qV rfl (R.nilCheck rfl) (qV rfl (R.fieldAddr (off' := 35) rfl underlying33 rfl sizeOf31 rfl rfl) (qV rfl (R.load1 rfl isAgg31 (h_166.ok _ M5) (Sg.t rfl (Sg.t rfl (Sg.t rfl (Sg.t rfl Sg.h))))) (qV rfl (R.lenS (a := ra2) (m := lg.length) rfl rfl underlying31) (qV rfl (R.bin rfl rfl (bi_lss (r := decide ((((ib : Nat) : Int) : Int) < ((lg.length : Nat) : Int))) rfl)) ?_))))))
     refine WL.nil (thn_n ?_)
     refine WP.cond (b := decide ((((ib : Nat) : Int) : Int) < ((lg.length : Nat) : Int))) rfl (fun c_169 => ?_) (fun c_169 => ?_)
     ·have p_170 := of_decide_eq_true c_169
      refine WP.skip (thn_n (WP.seq (WP.block (WP.seq ?_))))
      have hbl : ib < lg.length := by omega
      have hblg := (h_166.ok _ M7).1
      have hbxl := hblg.len
      obtain ⟨ba, bn, bc, bhx, bhq, bhd, bhn, bhc, bhv, bhb⟩ := Lgs.aget (z := zLg) hblg hbl
      refine WP.reg ?_
      refine qM (vn ib) rfl rfl (qV rfl (R.bin rfl rfl (bi_add (c := ((ib + 1 : Nat) : Int)) (by omega) (by omega))) (qA (vn (ib + 1)) rfl rfl ?_))
      refine WL.nil (thn_n (WP.block ?_))
      have h_183 := ((((((((((((h_166.up J12).up J12).up J12).up J12).up J12).up J12).up J12).up J12).up J12).up J12).up J12).up J12).up J12
      refine WP.loopG (G := Nat × Option Addr × Nat) [11, 12, 13, 78, 79, 80, 81, 82, 83, 84, 85, 86, 87, 88, 89, 90, 91, 92, 93, 94, 95, 96, 97, 98, 99, 100, 101, 102, 103, 104, 105, 106, 107, 108, 109, 110, 111, 112, 113, 114, 115, 116, 117, 118, 119, 120, 121, 122, 123, 124, 125, 126, 127, 128, 129] (fun (q, wa4, wc4) => [(11, (vn (ib + 1 + q)))]) (fun (q, wa4, wc4) m w1 => HP w w1 [.blk b_59 .nw 66 [(1, [(.bool true)]), (32, (zB 32).map vu8), (1, [(.slice a_61 n c_62)]), (1, [(vn u)]), (1, [(.map (some b_60))]), (1, [(.slice la2 lg.length lc2)])], .row la2 lg.length lc2 47 67 lx2, .obj b_60 .nw (.map (mArr lg) lg.length), .pin (sblks lx2) (fun w => Lgs w lx2 lg), .view a_61 (df.map vu8), .blk b_66 .nw 33 [(1, [(.bool true)]), (32, (zB 32).map vu8), (1, [(.slice da0 n cap0)]), (1, [(vn u)]), (1, [(.slice ra2 lg.length rc2)])], .row ra2 lg.length rc2 47 67 rx2, .pin (sblks rx2) (fun w => Lgs w rx2 lg), .view da0 (df.map vu8), .blk b_69 .nw 30 [(1, [(pO b_66 0)])], .blk b_148 .nw 52 [(1, [(.slice wa4 ((pis lg ib ++ pj lg ib q).length) wc4)])], .row wa4 ((pis lg ib ++ pj lg ib q).length) wc4 53 2 ((prC (pis lg ib ++ pj lg ib q)).map vi64), .blk b_1 .nw 4 [(1, [(.bool false)])]] ∧ (q ≤ lg.length - (ib + 1)) ∧ m = lg.length + 1 - q) ⟨(0, wa, wc), _, ⟨rfl, trivial⟩, (by rw [show pis lg ib ++ pj lg ib 0 = pis lg ib from List.append_nil _]; exact h_183), Nat.zero_le _, rfl⟩ ?_
      rintro ⟨q, wa4, wc4⟩ m_186 J_187 w_184 ⟨h_185, hqn, rfl⟩
      refine WP.seq (WP.seq (WP.reg ?_))
      refine qM (vn (ib + 1 + q)) rfl rfl (qV rfl (R.load1 rfl isAgg30 (h_185.ok _ M9) Sg.h) (qV rfl (R.nilCheck rfl) (qV rfl (R.fieldAddr (off' := 35) rfl underlying33 rfl sizeOf31 rfl rfl) (qV rfl (R.load1 rfl isAgg31 (h_185.ok _ M5) (Sg.t rfl (Sg.t rfl (Sg.t rfl (Sg.t rfl Sg.h))))) (qV rfl (R.lenS (a := ra2) (m := lg.length) rfl rfl underlying31) (qV rfl (R.bin rfl rfl (bi_lss (r := decide ((((ib + 1 + q : Nat) : Int) : Int) < ((lg.length : Nat) : Int))) rfl)) ?_))))))
      refine WL.nil (thn_n ?_)
      refine WP.cond (b := decide ((((ib + 1 + q : Nat) : Int) : Int) < ((lg.length : Nat) : Int))) rfl (fun c_188 => ?_) (fun c_188 => ?_)
      ·have p_189 := of_decide_eq_true c_188
       refine WP.skip (thn_n (WP.seq (WP.block (WP.seq ?_))))
       have hml : q < lg.length - (ib + 1) := by omega
       have hgl : ib + 1 + q < lg.length := by omega
       have hglg := (h_185.ok _ M7).1
       have hgxl := hglg.len
       obtain ⟨ga, gn, gc, ghx, ghq, ghd, ghn, ghc, ghv, ghb⟩ := Lgs.aget (z := zLg) hglg hgl
       refine WP.cutG (G := Nat × Nat) [12, 13, 87, 88, 89, 90, 91, 92, 93, 94, 95, 96, 97, 98, 99, 100] (fun (bY22Y14Y0Y0, bY22Y15Y0Y0) => [(87, (pO b_66 0)), (88, (pO b_66 0)), (89, (pO b_66 35)), (90, (.slice ra2 lg.length rc2)), (91, (vn ib)), (92, (.pointer (some (gA ra2 (ib * 67))))), (93, (.agg ⟨flat [(1, [(vi ((lg.getD ib zLg).1.1))]), (32, ((lg.getD ib zLg).1.2.1).map vu8), (1, [(vi ((lg.getD ib zLg).1.2.2.1))]), (1, [(.slice ba bn bc)]), (32, ((lg.getD ib zLg).2).map vu8)]⟩)), (94, (pO b_66 0)), (95, (pO b_66 0)), (96, (pO b_66 35)), (97, (.slice ra2 lg.length rc2)), (98, (vn (ib + 1 + q))), (99, (.pointer (some (gA ra2 ((ib + 1 + q) * 67))))), (100, (.agg ⟨flat [(1, [(vi ((lg.getD (ib + 1 + q) zLg).1.1))]), (32, ((lg.getD (ib + 1 + q) zLg).1.2.1).map vu8), (1, [(vi ((lg.getD (ib + 1 + q) zLg).1.2.2.1))]), (1, [(.slice ga gn gc)]), (32, ((lg.getD (ib + 1 + q) zLg).2).map vu8)]⟩)), (12, (pO bY22Y14Y0Y0 0)), (13, (pO bY22Y15Y0Y0 0))]) (fun (bY22Y14Y0Y0, bY22Y15Y0Y0) w1 => HP w w1 [.blk bY22Y15Y0Y0 .nw 47 [(1, [(vi ((lg.getD (ib + 1 + q) zLg).1.1))]), (32, ((lg.getD (ib + 1 + q) zLg).1.2.1).map vu8), (1, [(vi ((lg.getD (ib + 1 + q) zLg).1.2.2.1))]), (1, [(.slice ga gn gc)]), (32, ((lg.getD (ib + 1 + q) zLg).2).map vu8)], .blk bY22Y14Y0Y0 .nw 47 [(1, [(vi ((lg.getD ib zLg).1.1))]), (32, ((lg.getD ib zLg).1.2.1).map vu8), (1, [(vi ((lg.getD ib zLg).1.2.2.1))]), (1, [(.slice ba bn bc)]), (32, ((lg.getD ib zLg).2).map vu8)], .blk b_59 .nw 66 [(1, [(.bool true)]), (32, (zB 32).map vu8), (1, [(.slice a_61 n c_62)]), (1, [(vn u)]), (1, [(.map (some b_60))]), (1, [(.slice la2 lg.length lc2)])], .row la2 lg.length lc2 47 67 lx2, .obj b_60 .nw (.map (mArr lg) lg.length), .pin (sblks lx2) (fun w => Lgs w lx2 lg), .view a_61 (df.map vu8), .blk b_66 .nw 33 [(1, [(.bool true)]), (32, (zB 32).map vu8), (1, [(.slice da0 n cap0)]), (1, [(vn u)]), (1, [(.slice ra2 lg.length rc2)])], .row ra2 lg.length rc2 47 67 rx2, .pin (sblks rx2) (fun w => Lgs w rx2 lg), .view da0 (df.map vu8), .blk b_69 .nw 30 [(1, [(pO b_66 0)])], .blk b_148 .nw 52 [(1, [(.slice wa4 ((pis lg ib ++ pj lg ib q).length) wc4)])], .row wa4 ((pis lg ib ++ pj lg ib q).length) wc4 53 2 ((prC (pis lg ib ++ pj lg ib q)).map vi64), .blk b_1 .nw 4 [(1, [(.bool false)])]]) ?_ ?_
       ·refine WP.drawZ 17 (SL w.heap.size [.blk b_59 .nw 66 [(1, [(.bool true)]), (32, (zB 32).map vu8), (1, [(.slice a_61 n c_62)]), (1, [(vn u)]), (1, [(.map (some b_60))]), (1, [(.slice la2 lg.length lc2)])], .row la2 lg.length lc2 47 67 lx2, .obj b_60 .nw (.map (mArr lg) lg.length), .pin (sblks lx2) (fun w => Lgs w lx2 lg), .view a_61 (df.map vu8), .blk b_66 .nw 33 [(1, [(.bool true)]), (32, (zB 32).map vu8), (1, [(.slice da0 n cap0)]), (1, [(vn u)]), (1, [(.slice ra2 lg.length rc2)])], .row ra2 lg.length rc2 47 67 rx2, .pin (sblks rx2) (fun w => Lgs w rx2 lg), .view da0 (df.map vu8), .blk b_69 .nw 30 [(1, [(pO b_66 0)])], .blk b_148 .nw 52 [(1, [(.slice wa4 ((pis lg ib ++ pj lg ib q).length) wc4)])], .row wa4 ((pis lg ib ++ pj lg ib q).length) wc4 53 2 ((prC (pis lg ib ++ pj lg ib q)).map vi64), .blk b_1 .nw 4 [(1, [(.bool false)])]]) (.q 0 (.q 1 (.q 2 (.q 3 (.q 4 (.q 5 (.q 6 (.q 7 (.q 8 (.q 9 (.q 10 (.q 11 (.q 12 (.q 13 (.s2 14 15 (.s 15 (.s 16 (.s 17 .nil))) (.s 14 (.s 16 (.s 17 .nil)))))))))))))))))) (by kernel_rfl) (by kernel_rfl) rfl (by kernel_rfl) (fun w_190 hc_192 => (SL.cons ((h_185.same hc_192).ok _ M0) (SL.cons ((h_185.same hc_192).ok _ M1) (SL.cons ((h_185.same hc_192).ok _ M2) (SL.cons ((h_185.same hc_192).ok _ M3) (SL.cons ((h_185.same hc_192).ok _ M4) (SL.cons ((h_185.same hc_192).ok _ M5) (SL.cons ((h_185.same hc_192).ok _ M6) (SL.cons ((h_185.same hc_192).ok _ M7) (SL.cons ((h_185.same hc_192).ok _ M8) (SL.cons ((h_185.same hc_192).ok _ M9) (SL.cons ((h_185.same hc_192).ok _ M10) (SL.cons ((h_185.same hc_192).ok _ M11) (SL.cons ((h_185.same hc_192).ok _ M12) (SL.nil _ _))))))))))))))) (fun w_190 hc_192 => ?_)
        have h_191 := h_185.same hc_192
        refine ZT.q rfl (Wn.no rfl) rfl rfl (fun wq hS => R.load1 rfl isAgg30 (hS _ M9) Sg.h) ?_
        refine ZT.q rfl (Wn.no rfl) rfl rfl (fun wq hS => R.nilCheck rfl) ?_
        refine ZT.q rfl (Wn.no rfl) rfl rfl (fun wq hS => R.fieldAddr (off' := 35) rfl underlying33 rfl sizeOf31 rfl rfl) ?_
        refine ZT.q rfl (Wn.no rfl) rfl rfl (fun wq hS => R.load1 rfl isAgg31 (hS _ M5) (Sg.t rfl (Sg.t rfl (Sg.t rfl (Sg.t rfl Sg.h))))) ?_
        refine ZT.q rfl (Wn.no rfl) rfl rfl (fun wq hS => R.move (v := (vn ib)) rfl) ?_
        refine ZT.q rfl (Wn.no rfl) rfl rfl (fun wq hS => R.indexS (a := ra2) (i := ib) (off := ib * 67) (xs := rx2) rfl rfl rfl (by omega) (ownView (hS _ M6)) (by rw [hbxl]; omega) underlying31 sizeOf47 rfl) ?_
        refine ZT.q rfl (Wn.no rfl) rfl rfl (fun wq hS => R.loadGA (a := ra2) (i := ib * 67) (xs := rx2) (cs := flat [(1, [(vi ((lg.getD ib zLg).1.1))]), (32, ((lg.getD ib zLg).1.2.1).map vu8), (1, [(vi ((lg.getD ib zLg).1.2.2.1))]), (1, [(.slice ba bn bc)]), (32, ((lg.getD ib zLg).2).map vu8)]) rfl (ownView (hS _ M6)) isAgg47 sizeOf47 bhx ((sC sV (sC (s8 bhq.1) (sC sV (sC sV (sC (s8 bhd) sN)))))).len (by decide)) ?_
        refine ZT.q rfl (Wn.no rfl) rfl rfl (fun wq hS => R.load1 rfl isAgg30 (hS _ M9) Sg.h) ?_
        refine ZT.q rfl (Wn.no rfl) rfl rfl (fun wq hS => R.nilCheck rfl) ?_
        refine ZT.q rfl (Wn.no rfl) rfl rfl (fun wq hS => R.fieldAddr (off' := 35) rfl underlying33 rfl sizeOf31 rfl rfl) ?_
        refine ZT.q rfl (Wn.no rfl) rfl rfl (fun wq hS => R.load1 rfl isAgg31 (hS _ M5) (Sg.t rfl (Sg.t rfl (Sg.t rfl (Sg.t rfl Sg.h))))) ?_
        refine ZT.q rfl (Wn.no rfl) rfl rfl (fun wq hS => R.move (v := (vn (ib + 1 + q))) rfl) ?_
        refine ZT.q rfl (Wn.no rfl) rfl rfl (fun wq hS => R.indexS (a := ra2) (i := ib + 1 + q) (off := (ib + 1 + q) * 67) (xs := rx2) rfl rfl rfl (by omega) (ownView (hS _ M6)) (by rw [hgxl]; omega) underlying31 sizeOf47 rfl) ?_
        refine ZT.q rfl (Wn.no rfl) rfl rfl (fun wq hS => R.loadGA (a := ra2) (i := (ib + 1 + q) * 67) (xs := rx2) (cs := flat [(1, [(vi ((lg.getD (ib + 1 + q) zLg).1.1))]), (32, ((lg.getD (ib + 1 + q) zLg).1.2.1).map vu8), (1, [(vi ((lg.getD (ib + 1 + q) zLg).1.2.2.1))]), (1, [(.slice ga gn gc)]), (32, ((lg.getD (ib + 1 + q) zLg).2).map vu8)]) rfl (ownView (hS _ M6)) isAgg47 sizeOf47 ghx ((sC sV (sC (s8 ghq.1) (sC sV (sC sV (sC (s8 ghd) sN)))))).len (by decide)) ?_
        refine ZT.s2 ?_ ?_
        ·refine OpZ.one rfl (Wn.no rfl) ?_
         refine WL.alloc (segs := [(1, [(vi 0)]), (32, (zB 32).map vu8), (1, [(vi 0)]), (1, [(.slice none 0 0)]), (32, (zB 32).map vu8)]) h_191 (zv typeInfo47 rfl) rfl (sC sV (sC (s8 lr) (sC sV (sC sV (sC (s8 lr) sN))))) rfl (fun b_193 w_194 h_195 => ?_)
         refine WL.nil ?_
         refine ⟨(N1_2_3_4_5_6_7_8_9_10_11_12_13 h_195.ok), ?_⟩
         refine ZT.s ?_
         refine OpZ.one rfl (Wn.no rfl) ?_
         refine WL.alloc (segs := [(1, [(vi 0)]), (32, (zB 32).map vu8), (1, [(vi 0)]), (1, [(.slice none 0 0)]), (32, (zB 32).map vu8)]) h_195 (zv typeInfo47 rfl) rfl (sC sV (sC (s8 lr) (sC sV (sC sV (sC (s8 lr) sN))))) rfl (fun b_196 w_197 h_198 => ?_)
         refine WL.nil ?_
         refine ⟨(N2_3_4_5_6_7_8_9_10_11_12_13_14 h_198.ok), ?_⟩
         refine ZT.s ?_
         refine OpZ.one rfl (Wn.no rfl) ?_
         refine WL.storeA [] [(1, [(vi 0)]), (32, (zB 32).map vu8), (1, [(vi 0)]), (1, [(.slice none 0 0)]), (32, (zB 32).map vu8)] [(1, [(vi ((lg.getD ib zLg).1.1))]), (32, ((lg.getD ib zLg).1.2.1).map vu8), (1, [(vi ((lg.getD ib zLg).1.2.2.1))]), (1, [(.slice ba bn bc)]), (32, ((lg.getD ib zLg).2).map vu8)] [] h_198 rfl rfl sizeOf47 Y1 (by decide) rfl rfl rfl rfl rfl rfl (sC sV (sC (s8 bhq.1) (sC sV (sC sV (sC (s8 bhd) sN))))) (fun w_199 h_200 => ?_)
         refine WL.nil ?_
         refine ⟨(N2_3_4_5_6_7_8_9_10_11_12_13_14 h_200.ok), ?_⟩
         refine ZT.s ?_
         refine OpZ.last rfl (Wn.no rfl) ?_
         refine WL.storeA [] [(1, [(vi 0)]), (32, (zB 32).map vu8), (1, [(vi 0)]), (1, [(.slice none 0 0)]), (32, (zB 32).map vu8)] [(1, [(vi ((lg.getD (ib + 1 + q) zLg).1.1))]), (32, ((lg.getD (ib + 1 + q) zLg).1.2.1).map vu8), (1, [(vi ((lg.getD (ib + 1 + q) zLg).1.2.2.1))]), (1, [(.slice ga gn gc)]), (32, ((lg.getD (ib + 1 + q) zLg).2).map vu8)] [] h_200 rfl rfl sizeOf47 At.h (by decide) rfl rfl rfl rfl rfl rfl (sC sV (sC (s8 ghq.1) (sC sV (sC sV (sC (s8 ghd) sN))))) (fun w_201 h_202 => ?_)
         refine WL.nil (ZT.nil (thn_n ?_))
         exact ⟨(b_193, b_196), (U4 rfl rfl rfl rfl (U4 rfl rfl rfl rfl (U4 rfl rfl rfl rfl (U4 rfl rfl rfl rfl (Ag.refl _ _))))), ⟨rfl, rfl, rfl, rfl, rfl, rfl, rfl, rfl, rfl, rfl, rfl, rfl, rfl, rfl, rfl, rfl, trivial⟩, h_202⟩
        ·refine OpZ.one rfl (Wn.no rfl) ?_
         refine WL.alloc (segs := [(1, [(vi 0)]), (32, (zB 32).map vu8), (1, [(vi 0)]), (1, [(.slice none 0 0)]), (32, (zB 32).map vu8)]) h_191 (zv typeInfo47 rfl) rfl (sC sV (sC (s8 lr) (sC sV (sC sV (sC (s8 lr) sN))))) rfl (fun b_203 w_204 h_205 => ?_)
         refine WL.nil ?_
         refine ⟨(N1_2_3_4_5_6_7_8_9_10_11_12_13 h_205.ok), ?_⟩
         refine ZT.s ?_
         refine OpZ.one rfl (Wn.no rfl) ?_
         refine WL.alloc (segs := [(1, [(vi 0)]), (32, (zB 32).map vu8), (1, [(vi 0)]), (1, [(.slice none 0 0)]), (32, (zB 32).map vu8)]) h_205 (zv typeInfo47 rfl) rfl (sC sV (sC (s8 lr) (sC sV (sC sV (sC (s8 lr) sN))))) rfl (fun b_206 w_207 h_208 => ?_)
         refine WL.nil ?_
         refine ⟨(N2_3_4_5_6_7_8_9_10_11_12_13_14 h_208.ok), ?_⟩
         refine ZT.s ?_
         refine OpZ.one rfl (Wn.no rfl) ?_
         refine WL.storeA [] [(1, [(vi 0)]), (32, (zB 32).map vu8), (1, [(vi 0)]), (1, [(.slice none 0 0)]), (32, (zB 32).map vu8)] [(1, [(vi ((lg.getD ib zLg).1.1))]), (32, ((lg.getD ib zLg).1.2.1).map vu8), (1, [(vi ((lg.getD ib zLg).1.2.2.1))]), (1, [(.slice ba bn bc)]), (32, ((lg.getD ib zLg).2).map vu8)] [] h_208 rfl rfl sizeOf47 At.h (by decide) rfl rfl rfl rfl rfl rfl (sC sV (sC (s8 bhq.1) (sC sV (sC sV (sC (s8 bhd) sN))))) (fun w_209 h_210 => ?_)
         refine WL.nil ?_
         refine ⟨(N2_3_4_5_6_7_8_9_10_11_12_13_14 h_210.ok), ?_⟩
         refine ZT.s ?_
         refine OpZ.last rfl (Wn.no rfl) ?_
         refine WL.storeA [] [(1, [(vi 0)]), (32, (zB 32).map vu8), (1, [(vi 0)]), (1, [(.slice none 0 0)]), (32, (zB 32).map vu8)] [(1, [(vi ((lg.getD (ib + 1 + q) zLg).1.1))]), (32, ((lg.getD (ib + 1 + q) zLg).1.2.1).map vu8), (1, [(vi ((lg.getD (ib + 1 + q) zLg).1.2.2.1))]), (1, [(.slice ga gn gc)]), (32, ((lg.getD (ib + 1 + q) zLg).2).map vu8)] [] h_210 rfl rfl sizeOf47 Y1 (by decide) rfl rfl rfl rfl rfl rfl (sC sV (sC (s8 ghq.1) (sC sV (sC sV (sC (s8 ghd) sN))))) (fun w_211 h_212 => ?_)
         refine WL.nil (ZT.nil (thn_n ?_))
         have h_227 := ((((((((((((((h_212.up J14).up J14).up J14).up J14).up J14).up J14).up J14).up J14).up J14).up J14).up J14).up J14).up J14).up J13).up J14
         exact ⟨(b_206, b_203), (U4 rfl rfl rfl rfl (U4 rfl rfl rfl rfl (U4 rfl rfl rfl rfl (U4 rfl rfl rfl rfl (Ag.refl _ _))))), ⟨rfl, rfl, rfl, rfl, rfl, rfl, rfl, rfl, rfl, rfl, rfl, rfl, rfl, rfl, rfl, rfl, trivial⟩, h_227⟩
       ·rintro ⟨b_231, b_232⟩ J_228 w_229 h_230
        refine thn_n (WP.seq (WP.reg ?_))
        refine qV rfl (R.fieldAddr (off' := 0) rfl underlying47 rfl sizeOf39 rfl rfl) (qV rfl (R.fieldAddr (off' := 0) rfl underlying39 rfl sizeOf35 rfl rfl) (qV rfl (R.load1 rfl isAgg35 (h_230.ok _ M1) Sg.h) (qV rfl (R.fieldAddr (off' := 0) rfl underlying47 rfl sizeOf39 rfl rfl) (qV rfl (R.fieldAddr (off' := 0) rfl underlying39 rfl sizeOf35 rfl rfl) (qV rfl (R.load1 rfl isAgg35 (h_230.ok _ M0) Sg.h) (qV rfl (R.bin rfl rfl (bi_eql (r := decide (((lg.getD ib zLg).1.1 : Int) = ((lg.getD (ib + 1 + q) zLg).1.1))) rfl)) (qM (.bool (decide (((lg.getD ib zLg).1.1 : Int) = ((lg.getD (ib + 1 + q) zLg).1.1)))) rfl rfl ?_)))))))
        rcases Bool.eq_false_or_eq_true (decide (((lg.getD ib zLg).1.1 : Int) = ((lg.getD (ib + 1 + q) zLg).1.1))) with c_233 | c_233
        ·have p_234 := of_decide_eq_true c_233
         refine WL.want rfl (congrArg Value.bool c_233) ?_
         refine qV rfl (R.fieldAddr (off' := 0) rfl underlying47 rfl sizeOf39 rfl rfl) ?_
         refine WL.want rfl (congrArg Value.bool c_233) ?_
         refine qV rfl (R.fieldAddr (off' := 33) rfl underlying39 rfl sizeOf36 rfl rfl) ?_
         refine WL.want rfl (congrArg Value.bool c_233) ?_
         refine qV rfl (R.load1 rfl isAgg36 (h_230.ok _ M1) (Sg.t rfl (Sg.t rfl Sg.h))) ?_
         refine WL.want rfl (congrArg Value.bool c_233) ?_
         refine qV rfl (R.fieldAddr (off' := 0) rfl underlying47 rfl sizeOf39 rfl rfl) ?_
         refine WL.want rfl (congrArg Value.bool c_233) ?_
         refine qV rfl (R.fieldAddr (off' := 33) rfl underlying39 rfl sizeOf36 rfl rfl) ?_
         refine WL.want rfl (congrArg Value.bool c_233) ?_
         refine qV rfl (R.load1 rfl isAgg36 (h_230.ok _ M0) (Sg.t rfl (Sg.t rfl Sg.h))) ?_
         refine WL.want rfl (congrArg Value.bool c_233) ?_
         refine qV rfl (R.bin rfl rfl (bi_eql (r := decide (((lg.getD ib zLg).1.2.2.1 : Int) = ((lg.getD (ib + 1 + q) zLg).1.2.2.1))) rfl)) (qV rfl (R.pickT (v := (.bool (decide (((lg.getD ib zLg).1.2.2.1 : Int) = ((lg.getD (ib + 1 + q) zLg).1.2.2.1))))) (congrArg Value.bool c_233) rfl) (qM (.bool (decide (((lg.getD ib zLg).1.2.2.1 : Int) = ((lg.getD (ib + 1 + q) zLg).1.2.2.1)))) rfl rfl ?_))
         rcases Bool.eq_false_or_eq_true (decide (((lg.getD ib zLg).1.2.2.1 : Int) = ((lg.getD (ib + 1 + q) zLg).1.2.2.1))) with c_235 | c_235
         ·have p_236 := of_decide_eq_true c_235
          refine WL.want rfl (congrArg Value.bool c_235) ?_
          refine qV rfl (R.fieldAddr (off' := 35) rfl underlying47 rfl sizeOf29 rfl rfl) ?_
          refine WL.want rfl (congrArg Value.bool c_235) ?_
          refine qV rfl (R.loadA [(1, [(vi ((lg.getD ib zLg).1.1))]), (32, ((lg.getD ib zLg).1.2.1).map vu8), (1, [(vi ((lg.getD ib zLg).1.2.2.1))]), (1, [(.slice ba bn bc)])] [(32, ((lg.getD ib zLg).2).map vu8)] [] (cs := ((lg.getD ib zLg).2).map vu8) rfl isAgg29 sizeOf29 (h_230.ok _ M1) rfl rfl rfl rfl) ?_
          refine WL.want rfl (congrArg Value.bool c_235) ?_
          refine qV rfl (R.fieldAddr (off' := 35) rfl underlying47 rfl sizeOf29 rfl rfl) ?_
          refine WL.want rfl (congrArg Value.bool c_235) ?_
          refine qV rfl (R.loadA [(1, [(vi ((lg.getD (ib + 1 + q) zLg).1.1))]), (32, ((lg.getD (ib + 1 + q) zLg).1.2.1).map vu8), (1, [(vi ((lg.getD (ib + 1 + q) zLg).1.2.2.1))]), (1, [(.slice ga gn gc)])] [(32, ((lg.getD (ib + 1 + q) zLg).2).map vu8)] [] (cs := ((lg.getD (ib + 1 + q) zLg).2).map vu8) rfl isAgg29 sizeOf29 (h_230.ok _ M0) rfl rfl rfl rfl) ?_
          refine WL.want rfl (congrArg Value.bool c_235) ?_
          refine qV rfl (R.eqA (xs := ((lg.getD ib zLg).2).map vu8) (ys := ((lg.getD (ib + 1 + q) zLg).2).map vu8) (r := decide ((lg.getD ib zLg).2 = (lg.getD (ib + 1 + q) zLg).2)) rfl rfl eqGuardType29 kt29 (by decide) ag29 (Typ.u8s underlying29 ce29 underlying5 ce5 bhd) (Typ.u8s underlying29 ce29 underlying5 ce5 ghd) (map_inj_u8.trans (decT _))) (qV rfl (R.pickT (v := (.bool (decide ((lg.getD ib zLg).2 = (lg.getD (ib + 1 + q) zLg).2)))) (congrArg Value.bool c_235) rfl) ?_)
          refine WL.nil (thn_n ?_)
          refine WP.cond (b := decide ((lg.getD ib zLg).2 = (lg.getD (ib + 1 + q) zLg).2)) rfl (fun c_237 => ?_) (fun c_237 => ?_)
          ·have p_238 := of_decide_eq_true c_237
           have hbrk := brk_t p_234 p_236 p_238
           have hpl1 := pis_le (lg := lg) (b := 1280) hlg0 ib
           have hpl2 := pj_le (lg := lg) (i := ib) q
           have hpl3 : (pis lg ib ++ pj lg ib q).length = (pis lg ib).length + (pj lg ib q).length := by rw [List.length_append]
           have hpl4 : (pis lg ib ++ pj lg ib q ++ [(ib, ib + 1 + q)]).length = (pis lg ib ++ pj lg ib q).length + 1 := by rw [List.length_append]; rfl
           refine WP.reg ?_
           refine qV rfl (R.load1 rfl isAgg52 (h_230.ok _ M12) Sg.h) (qM (vn ib) rfl rfl (qM (vn (ib + 1 + q)) rfl rfl (qV rfl (R.buildA (vs := [(0, (vn ib)), (1, (vn (ib + 1 + q)))]) (cs := ([((ib : Nat) : Int), ((ib + 1 + q : Nat) : Int)] : List Int).map vi64) underlying53 sizeOf3 (zv typeInfo53 rfl) rfl rfl) ?_)))
           refine WL.buildSl (vs := [(0, (.agg ⟨([((ib : Nat) : Int), ((ib + 1 + q : Nat) : Int)] : List Int).map vi64⟩))]) (cs := ([((ib : Nat) : Int), ((ib + 1 + q : Nat) : Int)] : List Int).map vi64) h_230 underlying52 sizeOf53 (zv typeInfo53 rfl) rfl rfl (fill_1 (zc := [vi 0, vi 0]) (by kernel_rfl) (sC (s := (2, [vi 0, vi 0])) ⟨rfl, by simp [Value.oneCell']⟩ sN) (sC (SOk.i64 rfl) sN)) rfl (one_i64 _) rfl rfl (fun b_239 w_240 h_241 => ?_)
           refine WL.append (km := (pis lg ib ++ pj lg ib q ++ [(ib, ib + 1 + q)]).length) (xs := (prC (pis lg ib ++ pj lg ib q)).map vi64) (ys := ([((ib : Nat) : Int), ((ib + 1 + q : Nat) : Int)] : List Int).map vi64) (zs := (prC (pis lg ib ++ pj lg ib q ++ [(ib, ib + 1 + q)])).map vi64) h_241 rfl rfl el52 (viewB (h_241.ok _ M0) Sg.h) rfl (one_i64 _) (by rw [prC_snoc, List.map_append]) (by omega) (by omega) (by omega) (fun _ _ => Y14) rfl (fun a_242 c_243 w_244 h_245 => ?_)
           refine WL.store1 h_245 rfl rfl sizeOf52 rfl Y13 (by decide) Sg.h (fun w_246 h_247 => ?_)
           refine WL.nil (inb_n (thn_n (WP.reg ?_)))
           refine qM (vn (ib + 1 + q)) rfl rfl (qV rfl (R.bin rfl rfl (bi_add (c := ((ib + 1 + q + 1 : Nat) : Int)) (by omega) (by omega))) (qA (vn (ib + 1 + q + 1)) rfl rfl ?_))
           refine WL.nil (thn_n ?_)
           have h_263 := (((((((((((((((h_247.drop rfl).drop rfl).drop rfl).up J12).up J12).up J12).up J12).up J12).up J12).up J12).up J12).up J12).up J12).up J12).up J12).up J12
           exact ⟨(q + 1, a_242, c_243), _, (by omega), (U4 rfl rfl rfl rfl (U4 rfl rfl rfl rfl (U4 rfl rfl rfl rfl (U4 rfl rfl rfl rfl (U4 rfl rfl rfl rfl (U4 rfl rfl rfl rfl (U4 rfl rfl rfl rfl (U4 rfl rfl rfl rfl (Ag.updL rfl (Ag.trans (Ag.sub rfl (Ag.mix _ _ _)) (Ag.upd rfl (Ag.upd rfl (Ag.upd rfl (Ag.upd rfl (Ag.upd rfl (Ag.upd rfl (Ag.upd rfl (Ag.updL rfl (Ag.mix _ _ _))))))))))))))))))), ⟨rfl, trivial⟩, (by rw [pj_t hbrk, ← List.append_assoc]; exact h_263), (by omega), rfl⟩
          ·have p_264 := of_decide_eq_false c_237
           refine WP.skip (inb_n (thn_n (WP.reg ?_)))
           refine qM (vn (ib + 1 + q)) rfl rfl (qV rfl (R.bin rfl rfl (bi_add (c := ((ib + 1 + q + 1 : Nat) : Int)) (by omega) (by omega))) (qA (vn (ib + 1 + q + 1)) rfl rfl ?_))
           refine WL.nil (thn_n ?_)
           have h_279 := ((((((((((((((h_230.drop rfl).drop rfl).up J12).up J12).up J12).up J12).up J12).up J12).up J12).up J12).up J12).up J12).up J12).up J12).up J12
           exact ⟨(q + 1, wa4, wc4), _, (by omega), (U2 rfl rfl (U4 rfl rfl rfl rfl (U4 rfl rfl rfl rfl (U4 rfl rfl rfl rfl (U4 rfl rfl rfl rfl (U4 rfl rfl rfl rfl (U4 rfl rfl rfl rfl (Ag.updL rfl (Ag.trans (Ag.sub rfl (Ag.mix _ _ _)) (Ag.upd rfl (Ag.upd rfl (Ag.upd rfl (Ag.upd rfl (Ag.upd rfl (Ag.upd rfl (Ag.upd rfl (Ag.updL rfl (Ag.mix _ _ _)))))))))))))))))), ⟨rfl, trivial⟩, (by rw [pj_f (brk_3 p_264)]; exact h_279), (by omega), rfl⟩
         ·have p_280 := of_decide_eq_false c_235
          refine WL.skip rfl (congrArg Value.bool c_235) rfl ?_
          refine WL.skip rfl (congrArg Value.bool c_235) rfl ?_
          refine WL.skip rfl (congrArg Value.bool c_235) rfl ?_
          refine WL.skip rfl (congrArg Value.bool c_235) rfl ?_
          refine WL.skip rfl (congrArg Value.bool c_235) rfl ?_
          refine qV rfl (R.pickF (v := (.bool false)) (congrArg Value.bool c_235) rfl) ?_
          refine WL.nil (thn_n ?_)
          refine WP.condF rfl ?_
          refine WP.skip (inb_n (thn_n (WP.reg ?_)))
          refine qM (vn (ib + 1 + q)) rfl rfl (qV rfl (R.bin rfl rfl (bi_add (c := ((ib + 1 + q + 1 : Nat) : Int)) (by omega) (by omega))) (qA (vn (ib + 1 + q + 1)) rfl rfl ?_))
          refine WL.nil (thn_n ?_)
          have h_295 := ((((((((((((((h_230.drop rfl).drop rfl).up J12).up J12).up J12).up J12).up J12).up J12).up J12).up J12).up J12).up J12).up J12).up J12).up J12
          exact ⟨(q + 1, wa4, wc4), _, (by omega), (U2 rfl rfl (U4 rfl rfl rfl rfl (U4 rfl rfl rfl rfl (U4 rfl rfl rfl rfl (U4 rfl rfl rfl rfl (U4 rfl rfl rfl rfl (U4 rfl rfl rfl rfl (Ag.updL rfl (Ag.trans (Ag.sub rfl (Ag.mix _ _ _)) (Ag.upd rfl (Ag.upd rfl (Ag.upd rfl (Ag.upd rfl (Ag.upd rfl (Ag.upd rfl (Ag.upd rfl (Ag.updL rfl (Ag.mix _ _ _)))))))))))))))))), ⟨rfl, trivial⟩, (by rw [pj_f (brk_2 p_280)]; exact h_295), (by omega), rfl⟩
        ·have p_296 := of_decide_eq_false c_233
         refine WL.skip rfl (congrArg Value.bool c_233) rfl ?_
         refine WL.skip rfl (congrArg Value.bool c_233) rfl ?_
         refine WL.skip rfl (congrArg Value.bool c_233) rfl ?_
         refine WL.skip rfl (congrArg Value.bool c_233) rfl ?_
         refine WL.skip rfl (congrArg Value.bool c_233) rfl ?_
         refine WL.skip rfl (congrArg Value.bool c_233) rfl ?_
         refine WL.skip rfl (congrArg Value.bool c_233) rfl ?_
         refine qV rfl (R.pickF (v := (.bool false)) (congrArg Value.bool c_233) rfl) (qM (.bool false) rfl rfl ?_)
         refine WL.skip rfl rfl rfl ?_
         refine WL.skip rfl rfl rfl ?_
         refine WL.skip rfl rfl rfl ?_
         refine WL.skip rfl rfl rfl ?_
         refine WL.skip rfl rfl rfl ?_
         refine qV rfl (R.pickF (v := (.bool false)) rfl rfl) ?_
         refine WL.nil (thn_n ?_)
         refine WP.condF rfl ?_
         refine WP.skip (inb_n (thn_n (WP.reg ?_)))
         refine qM (vn (ib + 1 + q)) rfl rfl (qV rfl (R.bin rfl rfl (bi_add (c := ((ib + 1 + q + 1 : Nat) : Int)) (by omega) (by omega))) (qA (vn (ib + 1 + q + 1)) rfl rfl ?_))
         refine WL.nil (thn_n ?_)
         have h_311 := ((((((((((((((h_230.drop rfl).drop rfl).up J12).up J12).up J12).up J12).up J12).up J12).up J12).up J12).up J12).up J12).up J12).up J12).up J12
         exact ⟨(q + 1, wa4, wc4), _, (by omega), (U2 rfl rfl (U4 rfl rfl rfl rfl (U4 rfl rfl rfl rfl (U4 rfl rfl rfl rfl (U4 rfl rfl rfl rfl (U4 rfl rfl rfl rfl (U4 rfl rfl rfl rfl (Ag.updL rfl (Ag.trans (Ag.sub rfl (Ag.mix _ _ _)) (Ag.upd rfl (Ag.upd rfl (Ag.upd rfl (Ag.upd rfl (Ag.upd rfl (Ag.upd rfl (Ag.upd rfl (Ag.updL rfl (Ag.mix _ _ _)))))))))))))))))), ⟨rfl, trivial⟩, (by rw [pj_f (brk_1 p_296)]; exact h_311), (by omega), rfl⟩
      ·have p_312 := of_decide_eq_false c_188
       refine WP.exit (thn_x (thn_x (inb_hit (inb_n (thn_n (WP.reg ?_))))))
       refine qM (vn ib) rfl rfl (qV rfl (R.bin rfl rfl (bi_add (c := ((ib + 1 : Nat) : Int)) (by omega) (by omega))) (qA (vn (ib + 1)) rfl rfl ?_))
       refine WL.nil (thn_n ?_)
       obtain rfl : q = lg.length - (ib + 1) := by omega
       have h_325 := ((((((((((((h_185.up J12).up J12).up J12).up J12).up J12).up J12).up J12).up J12).up J12).up J12).up J12).up J12).up J12
       exact ⟨(ib + 1, wa4, wc4), _, (by omega), (U2 rfl rfl (U4 rfl rfl rfl rfl (U4 rfl rfl rfl rfl (Ag.updL rfl (Ag.trans (Ag.sub rfl (Ag.mix _ _ _)) (Ag.upd rfl (Ag.upd rfl (Ag.upd rfl (Ag.upd rfl (Ag.upd rfl (Ag.upd rfl (Ag.upd rfl (Ag.upd rfl (Ag.upd rfl (Ag.upd rfl (Ag.updL rfl (Ag.mix _ _ _))))))))))))))))), ⟨rfl, trivial⟩, (by rw [show pis lg (ib + 1) = pis lg ib ++ pj lg ib (lg.length - (ib + 1)) from rfl]; exact h_325), (by omega), rfl⟩
     ·have p_326 := of_decide_eq_false c_169
      refine WP.exit (thn_x (thn_x (inb_hit (thn_n (WP.seq (WP.seq ?_))))))
      obtain rfl : ib = lg.length := by omega
      have hpb := pis_le (lg := lg) (b := 1280) hlg0 lg.length
      refine WP.drawT (SL w.heap.size [.blk b_59 .nw 66 [(1, [(.bool true)]), (32, (zB 32).map vu8), (1, [(.slice a_61 n c_62)]), (1, [(vn u)]), (1, [(.map (some b_60))]), (1, [(.slice la2 lg.length lc2)])], .row la2 lg.length lc2 47 67 lx2, .obj b_60 .nw (.map (mArr lg) lg.length), .pin (sblks lx2) (fun w => Lgs w lx2 lg), .view a_61 (df.map vu8), .blk b_66 .nw 33 [(1, [(.bool true)]), (32, (zB 32).map vu8), (1, [(.slice da0 n cap0)]), (1, [(vn u)]), (1, [(.slice ra2 lg.length rc2)])], .row ra2 lg.length rc2 47 67 rx2, .pin (sblks rx2) (fun w => Lgs w rx2 lg), .view da0 (df.map vu8), .blk b_69 .nw 30 [(1, [(pO b_66 0)])], .blk b_148 .nw 52 [(1, [(.slice wa ((pis lg lg.length).length) wc)])], .row wa ((pis lg lg.length).length) wc 53 2 ((prC (pis lg lg.length)).map vi64), .blk b_1 .nw 4 [(1, [(.bool false)])]]) (.q 0 (.q 1 (.q 2 (.q 3 (.q 4 (.s 5 (.q 6 (.q 7 (.q 8 (.q 9 (.q 10 .nil))))))))))) (by kernel_rfl) (by kernel_rfl) rfl (by kernel_rfl) (fun w_327 hc_329 => (SL.cons ((h_166.same hc_329).ok _ M0) (SL.cons ((h_166.same hc_329).ok _ M1) (SL.cons ((h_166.same hc_329).ok _ M2) (SL.cons ((h_166.same hc_329).ok _ M3) (SL.cons ((h_166.same hc_329).ok _ M4) (SL.cons ((h_166.same hc_329).ok _ M5) (SL.cons ((h_166.same hc_329).ok _ M6) (SL.cons ((h_166.same hc_329).ok _ M7) (SL.cons ((h_166.same hc_329).ok _ M8) (SL.cons ((h_166.same hc_329).ok _ M9) (SL.cons ((h_166.same hc_329).ok _ M10) (SL.cons ((h_166.same hc_329).ok _ M11) (SL.cons ((h_166.same hc_329).ok _ M12) (SL.nil _ _))))))))))))))) (fun w_327 hc_329 => ?_)
      have h_328 := h_166.same hc_329
      refine qT rfl rfl (fun wq hS => R.load1 rfl isAgg30 (hS _ M9) Sg.h) ?_
      refine qT rfl rfl (fun wq hS => R.load1 rfl isAgg30 (hS _ M9) Sg.h) ?_
      refine qT rfl rfl (fun wq hS => R.nilCheck rfl) ?_
      refine qT rfl rfl (fun wq hS => R.fieldAddr (off' := 34) rfl underlying33 rfl sizeOf3 rfl rfl) ?_
      refine qT rfl rfl (fun wq hS => R.load1 rfl isAgg3 (hS _ M5) (Sg.t rfl (Sg.t rfl (Sg.t rfl Sg.h)))) ?_
      refine WT.s (oN rfl ?_)
      refine WL.call Tryz.call14 rfl rfl (c_distinct true b_66 (zB 32) df lr da0 n cap0 u u hl ra2 lg.length rc2 (by omega) (by omega) _ (viewV (h_328.ok _ M8)) (h_328.argR M5)) rfl ?_
      rintro _ w_333 ⟨bd_330, rfl, hd_331, hc_332⟩
      have h_334 := h_328.same hc_332
      refine WL.nil ?_
      refine ⟨(SL.cons (h_334.ok _ M0) (SL.cons (h_334.ok _ M1) (SL.cons (h_334.ok _ M2) (SL.cons (h_334.ok _ M3) (SL.cons (h_334.ok _ M4) (SL.cons (h_334.ok _ M5) (SL.cons (h_334.ok _ M6) (SL.cons (h_334.ok _ M7) (SL.cons (h_334.ok _ M8) (SL.cons (h_334.ok _ M9) (SL.cons (h_334.ok _ M10) (SL.cons (h_334.ok _ M11) (SL.cons (h_334.ok _ M12) (SL.nil _ _)))))))))))))), ?_⟩
      refine qT rfl rfl (fun wq hS => R.move (v := (.bool bd_330)) rfl) ?_
      rcases Bool.eq_false_or_eq_true bd_330 with c_335 | c_335
      ·have hnp : pis lg lg.length = [] := no_pis hLI.1 (hd_331 c_335) (Nat.le_refl _)
       refine WT.q rfl (Wn.yes rfl rfl (congrArg Value.bool c_335)) rfl rfl (fun wq hS => R.load1 rfl isAgg52 (hS _ M10) Sg.h) ?_
       refine WT.q rfl (Wn.yes rfl rfl (congrArg Value.bool c_335)) rfl rfl (fun wq hS => R.lenS (a := wa) (m := (pis lg lg.length).length) rfl rfl underlying52) ?_
       refine WT.q rfl (Wn.yes rfl rfl (congrArg Value.bool c_335)) rfl rfl (fun wq hS => R.bin rfl rfl (bi_gtr (r := decide (((((pis lg lg.length).length : Nat) : Int) : Int) > 0)) rfl)) ?_
       refine qT rfl rfl (fun wq hS => R.pickT (v := (.bool (decide (((((pis lg lg.length).length : Nat) : Int) : Int) > 0)))) (congrArg Value.bool c_335) rfl) ?_
       refine WT.nil (thn_n ?_)
       refine WP.condF (congrArg Value.bool (decide_eq_false (fun h => by rw [hnp] at h; exact absurd h (by decide)))) ?_
       refine WP.skip (thn_n (WP.seq (WP.reg ?_)))
       refine qM (pO b_59 0) rfl rfl ?_
       have h_340 := ((((h_334.up J4).up J4).up J4).up J4).up J4
       refine WL.call Tryz.call15 rfl rfl (c_oBrkI true b_59 b_60 (zB 32) df lr a_61 n c_62 u hl la2 lc2 lx2 lg (by first | decide | omega) (by first | decide | omega) _ h_340) rfl ?_
       rintro _ w_345 ⟨b_341, a_342, c_343, ys_344, rfl, h_346⟩
       refine qA (Value.func (Fn.func 35) [].toArray [(Value.pointer (some ⟨b_341, 0, none⟩))].toArray) rfl rfl ?_
       refine WL.nil (thn_n (WP.seq (WP.seq (WP.reg ?_))))
       refine qM (Value.func (Fn.func 35) [].toArray [(Value.pointer (some ⟨b_341, 0, none⟩))].toArray) rfl rfl (qV rfl (R.eqNilF rfl rfl underlying56) ?_)
       refine WL.nil (thn_n ?_)
       refine WP.condF rfl ?_
       refine WP.skip (thn_n (WP.seq (WP.reg ?_)))
       refine WL.alloc (segs := [(1, [(vi 0)])]) h_346 (zv typeInfo3 rfl) rfl (sC sV sN) rfl (fun b_347 w_348 h_349 => ?_)
       refine WL.store1 h_349 rfl rfl sizeOf3 rfl At.h (by decide) Sg.h (fun w_350 h_351 => ?_)
       refine WL.nil (thn_n (WP.seq (WP.seq (WP.reg ?_))))
       refine qM (Value.func (Fn.func 35) [].toArray [(Value.pointer (some ⟨b_341, 0, none⟩))].toArray) rfl rfl ?_
       refine WL.nil (thn_n (WP.block ?_))
       have h_373 := (((((((((((((((((((((h_351.up J4).drop rfl).up J4).drop rfl).up J4).drop rfl).up J4).drop rfl).up J4).drop rfl).up J3).up J3).up J3).up J11).up J8).up J8).up J8).up J8).up J11).up J11).up J11).up J11
       refine WP.rangeY (gf := 35) (lb := [(pO b_341 0)]) (K := fun L2 => L2 = [.blk b_347 .nw 3 [(1, [(vn ((pis lg lg.length).length))])], .blk b_69 .nw 30 [(1, [(pO b_66 0)])], .blk b_148 .nw 52 [(1, [(.slice wa ((pis lg lg.length).length) wc)])], .row wa ((pis lg lg.length).length) wc 53 2 ((prC (pis lg lg.length)).map vi64), .blk b_66 .nw 33 [(1, [(.bool true)]), (32, (zB 32).map vu8), (1, [(.slice da0 n cap0)]), (1, [(vn u)]), (1, [(.slice ra2 lg.length rc2)])], .row ra2 lg.length rc2 47 67 rx2, .pin (sblks rx2) (fun w => Lgs w rx2 lg), .view da0 (df.map vu8), .blk b_1 .nw 4 [(1, [(.bool false)])], .blk b_341 .nw 31 [(1, [(.slice a_342 lg.length c_343)])], .row a_342 lg.length c_343 47 67 ys_344, .pin (sblks ys_344) (fun w => Lgs w ys_344 lg)]) h_373 rfl Tryz.call35 rfl (fun D_374 l_375 r_376 w_377 hrs hrp hps hra hrb hrel h_378 => ?_) (fun D_379 w_380 L_381 hL_382 h_383 => ?_)
       ·obtain ⟨Lf, hLf⟩ : ∃ Lf : Nat → List Ent, ∀ c, Lf c = [.obj l_375 .nw (.loop r_376), .obj D_374 .nw (.deferred (some [])), .blk b_347 .nw 3 [(1, [(vi ((c : Nat) : Int))])], .blk b_69 .nw 30 [(1, [(.pointer (some ⟨b_66, 0, none⟩))])], .blk b_148 .nw 52 [(1, [(.slice wa ((pis lg lg.length).length) wc)])], .row wa ((pis lg lg.length).length) wc 53 2 ((prC (pis lg lg.length)).map vi64), .blk b_66 .nw 33 [(1, [(.bool true)]), (32, (List.replicate 32 (0 : UInt8)).map vu8), (1, [(.slice da0 n cap0)]), (1, [(vi ((u : Nat) : Int))]), (1, [(.slice ra2 lg.length rc2)])], .row ra2 lg.length rc2 47 67 rx2, .pin (sblks rx2) (fun w => Lgs w rx2 lg), .view da0 (df.map vu8), .blk b_1 .nw 4 [(1, [(.bool false)])]] := ⟨_, fun _ => rfl⟩
        have hcap : lg.length ≤ c_343 := (h_378.own M12).2.2.1
        have hY : ∀ (c x y : Nat) (cx cy : List Value), (pis lg lg.length)[c]? = some (x, y) → cx = (ys_344.drop (x * 67)).take 67 → cy = (ys_344.drop (y * 67)).take 67 → ∀ (E : List Ent) (w5 : World), HP w w5 (Ent.blk b_341 .nw 31 [(1, [(.slice a_342 lg.length c_343)])] :: Ent.row a_342 lg.length c_343 47 67 ys_344 :: Ent.pin (sblks ys_344) (fun w => Lgs w ys_344 lg) :: (Lf c ++ E)) → Yc Tryz.prog l_375 [.agg ⟨cx⟩, .agg ⟨cy⟩] w5 (fun v w' => v = .bool true ∧ HP w w' (Ent.blk b_341 .nw 31 [(1, [(.slice a_342 lg.length c_343)])] :: Ent.row a_342 lg.length c_343 47 67 ys_344 :: Ent.pin (sblks ys_344) (fun w => Lgs w ys_344 lg) :: (Lf (c + 1) ++ E))) := by
         intro c x y cx cy hc hcx hcy E w5 h5
         have hxy := brk_lt (Nat.le_refl _) hc
         have hxl := hxy.1
         have hyl := hxy.2
         have htl := hxl
         have hzl := hyl
         have hcl : c < (pis lg lg.length).length := (List.getElem?_eq_some_iff.1 hc).1
         have h6 := HP_swap (E := [_, _, _]) (T := Lf c) h5
         rw [hLf] at h6
         have h7 : HP w w5 (Ent.obj l_375 .nw (.loop r_376) :: Ent.obj D_374 .nw (.deferred (some [])) :: Ent.blk b_347 .nw 3 [(1, [(vi ((c : Nat) : Int))])] :: Ent.blk b_69 .nw 30 [(1, [(.pointer (some ⟨b_66, 0, none⟩))])] :: Ent.blk b_148 .nw 52 [(1, [(.slice wa ((pis lg lg.length).length) wc)])] :: Ent.row wa ((pis lg lg.length).length) wc 53 2 ((prC (pis lg lg.length)).map vi64) :: Ent.blk b_66 .nw 33 [(1, [(.bool true)]), (32, (List.replicate 32 (0 : UInt8)).map vu8), (1, [(.slice da0 n cap0)]), (1, [(vi ((u : Nat) : Int))]), (1, [(.slice ra2 lg.length rc2)])] :: Ent.row ra2 lg.length rc2 47 67 rx2 :: Ent.pin (sblks rx2) (fun w => Lgs w rx2 lg) :: Ent.view da0 (df.map vu8) :: Ent.blk b_1 .nw 4 [(1, [(.bool false)])] :: Ent.blk b_341 .nw 31 [(1, [(.slice a_342 lg.length c_343)])] :: Ent.row a_342 lg.length c_343 47 67 ys_344 :: Ent.pin (sblks ys_344) (fun w => Lgs w ys_344 lg) :: E) := h6
         have hxlg := (h7.ok _ M13).1
         have hxxl := hxlg.len
         obtain ⟨xa, xn, xc, xhx, xhq, xhd, xhn, xhc, xhv, xhb⟩ := Lgs.aget (z := zLg) hxlg hxl
         have hylg := (h7.ok _ M13).1
         have hyxl := hylg.len
         obtain ⟨ya, yn, yc, yhx, yhq, yhd, yhn, yhc, yhv, yhb⟩ := Lgs.aget (z := zLg) hylg hyl
         have htlg := (h7.ok _ M8).1
         have htxl := htlg.len
         obtain ⟨ta, tn, tc, thx, thq, thd, thn, thc, thv, thb⟩ := Lgs.aget (z := zLg) htlg htl
         have hzlg := (h7.ok _ M8).1
         have hzxl := hzlg.len
         obtain ⟨za, zn, zc, zhx, zhq, zhd, zhn, zhc, zhv, zhb⟩ := Lgs.aget (z := zLg) hzlg hzl
         obtain rfl : cx = flat [(1, [(vi ((lg.getD x zLg).1.1))]), (32, ((lg.getD x zLg).1.2.1).map vu8), (1, [(vi ((lg.getD x zLg).1.2.2.1))]), (1, [(.slice xa xn xc)]), (32, ((lg.getD x zLg).2).map vu8)] := hcx.trans xhx
         obtain rfl : cy = flat [(1, [(vi ((lg.getD y zLg).1.1))]), (32, ((lg.getD y zLg).1.2.1).map vu8), (1, [(vi ((lg.getD y zLg).1.2.2.1))]), (1, [(.slice ya yn yc)]), (32, ((lg.getD y zLg).2).map vu8)] := hcy.trans yhx
         have h_384 := h7.within (e' := .view xa (((lg.getD x zLg).1.2.2.2).map vu8)) M13 rfl (View.arg xhv) rfl rfl (fun b hb_ => xhb _ (view_sblk xhn b hb_))
         have h_385 := h_384.within (e' := .view ya (((lg.getD y zLg).1.2.2.2).map vu8)) M14 rfl (View.arg yhv) rfl rfl (fun b hb_ => yhb _ (view_sblk yhn b hb_))
         have h_386 := h_385.within (e' := .view ta (((lg.getD x zLg).1.2.2.2).map vu8)) M10 rfl (View.arg thv) rfl rfl (fun b hb_ => thb _ (view_sblk thn b hb_))
         have h_387 := h_386.within (e' := .view za (((lg.getD y zLg).1.2.2.2).map vu8)) M11 rfl (View.arg zhv) rfl rfl (fun b hb_ => zhb _ (view_sblk zhn b hb_))
         refine Yc.of (p := 146) (q := 147) h7.loopIs hps hrel rfl rfl ?_
         rw [hra, hrb]
         refine WPi.seq ?_
         refine WPi.reg rfl ?_
         refine WL.alloc (segs := [(1, [(vi 0)]), (32, (zB 32).map vu8), (1, [(vi 0)]), (1, [(.slice none 0 0)]), (32, (zB 32).map vu8)]) h_387 (zv typeInfo47 rfl) rfl (sC sV (sC (s8 lr) (sC sV (sC sV (sC (s8 lr) sN))))) rfl (fun b_390 w_391 h_392 => ?_)
         refine WL.storeA [] [(1, [(vi 0)]), (32, (zB 32).map vu8), (1, [(vi 0)]), (1, [(.slice none 0 0)]), (32, (zB 32).map vu8)] [(1, [(vi ((lg.getD x zLg).1.1))]), (32, ((lg.getD x zLg).1.2.1).map vu8), (1, [(vi ((lg.getD x zLg).1.2.2.1))]), (1, [(.slice xa xn xc)]), (32, ((lg.getD x zLg).2).map vu8)] [] h_392 rfl rfl sizeOf47 At.h (by decide) rfl rfl rfl rfl rfl rfl (sC sV (sC (s8 xhq.1) (sC sV (sC sV (sC (s8 xhd) sN))))) (fun w_393 h_394 => ?_)
         refine WL.nil ?_
         refine onlyN.i ?_
         refine thn_n ?_
         refine WPi.reg rfl ?_
         refine WL.alloc (segs := [(1, [(vi 0)]), (32, (zB 32).map vu8), (1, [(vi 0)]), (1, [(.slice none 0 0)]), (32, (zB 32).map vu8)]) h_394 (zv typeInfo47 rfl) rfl (sC sV (sC (s8 lr) (sC sV (sC sV (sC (s8 lr) sN))))) rfl (fun b_395 w_396 h_397 => ?_)
         refine WL.storeA [] [(1, [(vi 0)]), (32, (zB 32).map vu8), (1, [(vi 0)]), (1, [(.slice none 0 0)]), (32, (zB 32).map vu8)] [(1, [(vi ((lg.getD y zLg).1.1))]), (32, ((lg.getD y zLg).1.2.1).map vu8), (1, [(vi ((lg.getD y zLg).1.2.2.1))]), (1, [(.slice ya yn yc)]), (32, ((lg.getD y zLg).2).map vu8)] [] h_397 rfl rfl sizeOf47 At.h (by decide) rfl rfl rfl rfl rfl rfl (sC sV (sC (s8 yhq.1) (sC sV (sC sV (sC (s8 yhd) sN))))) (fun w_398 h_399 => ?_)
         refine WL.nil ?_
         refine onlyN.i ?_
         have h_400 := h_399.up J6
         refine onlyN.i ?_
         refine HP.beginI h_400 hrs (fun rb_388 w_401 hb_389 h_402 => ?_)
         refine WPi.block ?_
         refine WPi.seq ?_
         refine WPi.seq ?_
         refine WPi.drawT rfl (SL w.heap.size [.obj l_375 .nw (.loop rb_388), .blk b_395 .nw 47 [(1, [(vi ((lg.getD y zLg).1.1))]), (32, ((lg.getD y zLg).1.2.1).map vu8), (1, [(vi ((lg.getD y zLg).1.2.2.1))]), (1, [(.slice ya yn yc)]), (32, ((lg.getD y zLg).2).map vu8)], .blk b_390 .nw 47 [(1, [(vi ((lg.getD x zLg).1.1))]), (32, ((lg.getD x zLg).1.2.1).map vu8), (1, [(vi ((lg.getD x zLg).1.2.2.1))]), (1, [(.slice xa xn xc)]), (32, ((lg.getD x zLg).2).map vu8)], .view za (((lg.getD y zLg).1.2.2.2).map vu8), .view ta (((lg.getD x zLg).1.2.2.2).map vu8), .view ya (((lg.getD y zLg).1.2.2.2).map vu8), .view xa (((lg.getD x zLg).1.2.2.2).map vu8), .obj D_374 .nw (.deferred (some [])), .blk b_347 .nw 3 [(1, [(vn c)])], .blk b_69 .nw 30 [(1, [(pO b_66 0)])], .blk b_148 .nw 52 [(1, [(.slice wa ((pis lg lg.length).length) wc)])], .row wa ((pis lg lg.length).length) wc 53 2 ((prC (pis lg lg.length)).map vi64), .blk b_66 .nw 33 [(1, [(.bool true)]), (32, (zB 32).map vu8), (1, [(.slice da0 n cap0)]), (1, [(vn u)]), (1, [(.slice ra2 lg.length rc2)])], .row ra2 lg.length rc2 47 67 rx2, .pin (sblks rx2) (fun w => Lgs w rx2 lg), .view da0 (df.map vu8), .blk b_1 .nw 4 [(1, [(.bool false)])], .blk b_341 .nw 31 [(1, [(.slice a_342 lg.length c_343)])], .row a_342 lg.length c_343 47 67 ys_344, .pin (sblks ys_344) (fun w => Lgs w ys_344 lg)]) (.q 0 (.q 1 (.q 2 (.q 3 (.q 4 (.q 5 (.q 6 (.q 7 (.q 8 (.q 9 (.q 10 (.q 11 (.q 12 (.q 13 (.q 14 (.q 15 (.q 16 (.q 17 (.q 18 (.s 19 (.q 20 (.q 21 (.q 22 (.q 23 (.q 24 (.q 25 (.q 26 (.q 27 (.q 28 (.q 29 (.q 30 (.q 31 (.q 32 (.q 33 (.q 34 (.q 35 (.q 36 (.s 37 (.q 38 (.q 39 .nil)))))))))))))))))))))))))))))))))))))))) (by kernel_rfl) (by kernel_rfl) rfl (by kernel_rfl) (fun w_403 hc_405 => (SL.cons ((h_402.same hc_405).ok _ M0) (SL.cons ((h_402.same hc_405).ok _ M1) (SL.cons ((h_402.same hc_405).ok _ M2) (SL.cons ((h_402.same hc_405).ok _ M3) (SL.cons ((h_402.same hc_405).ok _ M4) (SL.cons ((h_402.same hc_405).ok _ M5) (SL.cons ((h_402.same hc_405).ok _ M6) (SL.cons ((h_402.same hc_405).ok _ M7) (SL.cons ((h_402.same hc_405).ok _ M8) (SL.cons ((h_402.same hc_405).ok _ M9) (SL.cons ((h_402.same hc_405).ok _ M10) (SL.cons ((h_402.same hc_405).ok _ M11) (SL.cons ((h_402.same hc_405).ok _ M12) (SL.cons ((h_402.same hc_405).ok _ M13) (SL.cons ((h_402.same hc_405).ok _ M14) (SL.cons ((h_402.same hc_405).ok _ M15) (SL.cons ((h_402.same hc_405).ok _ M16) (SL.cons ((h_402.same hc_405).ok _ M17) (SL.cons ((h_402.same hc_405).ok _ M18) (SL.cons ((h_402.same hc_405).ok _ M19) (SL.nil _ _)))))))))))))))))))))) (fun w_403 hc_405 => ?_)
         have h_404 := h_402.same hc_405
         refine qT rfl rfl (fun wq hS => R.load1 rfl isAgg3 (hS _ M8) Sg.h) ?_
         refine qT rfl rfl (fun wq hS => R.load1 rfl isAgg52 (hS _ M10) Sg.h) ?_
         refine qT rfl rfl (fun wq hS => R.lenS (a := wa) (m := (pis lg lg.length).length) rfl rfl underlying52) ?_
         refine qT rfl rfl (fun wq hS => R.bin rfl rfl (bi_geq (r := decide ((((c : Nat) : Int) : Int) ≥ (((pis lg lg.length).length : Nat) : Int))) rfl)) ?_
         refine qT rfl rfl (fun wq hS => R.move (v := (.bool (decide ((((c : Nat) : Int) : Int) ≥ (((pis lg lg.length).length : Nat) : Int))))) rfl) ?_
         refine WT.q rfl (Wn.yes rfl rfl (congrArg Value.bool (decide_eq_false (by omega)))) rfl rfl (fun wq hS => R.fieldAddr (off' := 0) rfl underlying47 rfl sizeOf39 rfl rfl) ?_
         refine WT.q rfl (Wn.yes rfl rfl (congrArg Value.bool (decide_eq_false (by omega)))) rfl rfl (fun wq hS => R.loadA [] [(1, [(vi ((lg.getD x zLg).1.1))]), (32, ((lg.getD x zLg).1.2.1).map vu8), (1, [(vi ((lg.getD x zLg).1.2.2.1))]), (1, [(.slice xa xn xc)])] [(32, ((lg.getD x zLg).2).map vu8)] rfl isAgg39 sizeOf39 (hS _ M2) rfl rfl rfl rfl) ?_
         refine WT.q rfl (Wn.yes rfl rfl (congrArg Value.bool (decide_eq_false (by omega)))) rfl rfl (fun wq hS => R.load1 rfl isAgg30 (hS _ M9) Sg.h) ?_
         refine WT.q rfl (Wn.yes rfl rfl (congrArg Value.bool (decide_eq_false (by omega)))) rfl rfl (fun wq hS => R.nilCheck rfl) ?_
         refine WT.q rfl (Wn.yes rfl rfl (congrArg Value.bool (decide_eq_false (by omega)))) rfl rfl (fun wq hS => R.fieldAddr (off' := 35) rfl underlying33 rfl sizeOf31 rfl rfl) ?_
         refine WT.q rfl (Wn.yes rfl rfl (congrArg Value.bool (decide_eq_false (by omega)))) rfl rfl (fun wq hS => R.load1 rfl isAgg31 (hS _ M12) (Sg.t rfl (Sg.t rfl (Sg.t rfl (Sg.t rfl Sg.h))))) ?_
         refine WT.q rfl (Wn.yes rfl rfl (congrArg Value.bool (decide_eq_false (by omega)))) rfl rfl (fun wq hS => R.load1 rfl isAgg52 (hS _ M10) Sg.h) ?_
         refine WT.q rfl (Wn.yes rfl rfl (congrArg Value.bool (decide_eq_false (by omega)))) rfl rfl (fun wq hS => R.load1 rfl isAgg3 (hS _ M8) Sg.h) ?_
         refine WT.q rfl (Wn.yes rfl rfl (congrArg Value.bool (decide_eq_false (by omega)))) rfl rfl (fun wq hS => R.indexS (a := wa) (i := c) (off := c * 2) (xs := (prC (pis lg lg.length)).map vi64) rfl rfl rfl (by omega) (ownView (hS _ M11)) (lt_len (K := (pis lg lg.length).length * 2) (len_map prC_len) (by omega)) underlying52 sizeOf53 rfl) ?_
         refine WT.q rfl (Wn.yes rfl rfl (congrArg Value.bool (decide_eq_false (by omega)))) rfl rfl (fun wq hS => R.indexG (a := wa) (j := c * 2) (i := 0) (off' := c * 2) rfl rfl rfl (by decide) underlying53 sizeOf3 rfl) ?_
         refine WT.q rfl (Wn.yes rfl rfl (congrArg Value.bool (decide_eq_false (by omega)))) rfl rfl (fun wq hS => R.loadG rfl (ownView (hS _ M11)) isAgg3 (map_at (prC_at hc).1)) ?_
         refine WT.q rfl (Wn.yes rfl rfl (congrArg Value.bool (decide_eq_false (by omega)))) rfl rfl (fun wq hS => R.indexS (a := ra2) (i := x) (off := x * 67) (xs := rx2) rfl rfl rfl (by omega) (ownView (hS _ M13)) (by rw [htxl]; omega) underlying31 sizeOf47 rfl) ?_
         refine WT.q rfl (Wn.yes rfl rfl (congrArg Value.bool (decide_eq_false (by omega)))) rfl rfl (fun wq hS => R.fieldG (a := ra2) (i := x * 67) (off' := x * 67) rfl underlying47 rfl sizeOf39 rfl rfl) ?_
         refine WT.q rfl (Wn.yes rfl rfl (congrArg Value.bool (decide_eq_false (by omega)))) rfl rfl (fun wq hS => R.loadGA (a := ra2) (i := x * 67) (xs := rx2) (cs := flat [(1, [(vi ((lg.getD x zLg).1.1))]), (32, ((lg.getD x zLg).1.2.1).map vu8), (1, [(vi ((lg.getD x zLg).1.2.2.1))]), (1, [(.slice ta tn tc)])]) rfl (ownView (hS _ M13)) isAgg39 sizeOf39 (row_q thx thq.1) ((sC sV (sC (s8 thq.1) (sC sV (sC sV sN))))).len (by decide)) ?_
         refine WT.s ?_
         refine Op1.one rfl (Wn.yes rfl rfl (congrArg Value.bool (decide_eq_false (by omega)))) ?_
         refine WL.call Tryz.call16 rfl rfl (c_rSame (lg.getD x zLg).1 (lg.getD x zLg).1 xhq.1 thq.1 xa xn xc xhn ta tn tc thn _ (viewV (h_404.ok _ M6)) (viewV (h_404.ok _ M4))) rfl ?_
         rintro _ w_407 ⟨rfl, hc_406⟩
         have h_408 := h_404.same hc_406
         refine WL.nil ?_
         refine ⟨(N0_1_2_3_4_5_6_7_8_9_10_11_12_13_14_15_16_17_18_19 h_408.ok), ?_⟩
         refine WT.q rfl (Wn.yes rfl rfl (congrArg Value.bool (decide_eq_false (by omega)))) rfl rfl (fun wq hS => R.not (b := true) (congrArg Value.bool (decide_eq_true rfl))) ?_
         refine qT rfl rfl (fun wq hS => R.pickF (v := (.bool false)) (congrArg Value.bool (decide_eq_false (by omega))) rfl) ?_
         refine qT rfl rfl (fun wq hS => R.move (v := (.bool false)) rfl) ?_
         refine WT.q rfl (Wn.yes rfl rfl rfl) rfl rfl (fun wq hS => R.fieldAddr (off' := 0) rfl underlying47 rfl sizeOf39 rfl rfl) ?_
         refine WT.q rfl (Wn.yes rfl rfl rfl) rfl rfl (fun wq hS => R.loadA [] [(1, [(vi ((lg.getD y zLg).1.1))]), (32, ((lg.getD y zLg).1.2.1).map vu8), (1, [(vi ((lg.getD y zLg).1.2.2.1))]), (1, [(.slice ya yn yc)])] [(32, ((lg.getD y zLg).2).map vu8)] rfl isAgg39 sizeOf39 (hS _ M1) rfl rfl rfl rfl) ?_
         refine WT.q rfl (Wn.yes rfl rfl rfl) rfl rfl (fun wq hS => R.load1 rfl isAgg30 (hS _ M9) Sg.h) ?_
         refine WT.q rfl (Wn.yes rfl rfl rfl) rfl rfl (fun wq hS => R.nilCheck rfl) ?_
         refine WT.q rfl (Wn.yes rfl rfl rfl) rfl rfl (fun wq hS => R.fieldAddr (off' := 35) rfl underlying33 rfl sizeOf31 rfl rfl) ?_
         refine WT.q rfl (Wn.yes rfl rfl rfl) rfl rfl (fun wq hS => R.load1 rfl isAgg31 (hS _ M12) (Sg.t rfl (Sg.t rfl (Sg.t rfl (Sg.t rfl Sg.h))))) ?_
         refine WT.q rfl (Wn.yes rfl rfl rfl) rfl rfl (fun wq hS => R.load1 rfl isAgg52 (hS _ M10) Sg.h) ?_
         refine WT.q rfl (Wn.yes rfl rfl rfl) rfl rfl (fun wq hS => R.load1 rfl isAgg3 (hS _ M8) Sg.h) ?_
         refine WT.q rfl (Wn.yes rfl rfl rfl) rfl rfl (fun wq hS => R.indexS (a := wa) (i := c) (off := c * 2) (xs := (prC (pis lg lg.length)).map vi64) rfl rfl rfl (by omega) (ownView (hS _ M11)) (lt_len (K := (pis lg lg.length).length * 2) (len_map prC_len) (by omega)) underlying52 sizeOf53 rfl) ?_
         refine WT.q rfl (Wn.yes rfl rfl rfl) rfl rfl (fun wq hS => R.indexG (a := wa) (j := c * 2) (i := 1) (off' := c * 2 + 1) rfl rfl rfl (by decide) underlying53 sizeOf3 rfl) ?_
         refine WT.q rfl (Wn.yes rfl rfl rfl) rfl rfl (fun wq hS => R.loadG rfl (ownView (hS _ M11)) isAgg3 (map_at (prC_at hc).2)) ?_
         refine WT.q rfl (Wn.yes rfl rfl rfl) rfl rfl (fun wq hS => R.indexS (a := ra2) (i := y) (off := y * 67) (xs := rx2) rfl rfl rfl (by omega) (ownView (hS _ M13)) (by rw [hzxl]; omega) underlying31 sizeOf47 rfl) ?_
         refine WT.q rfl (Wn.yes rfl rfl rfl) rfl rfl (fun wq hS => R.fieldG (a := ra2) (i := y * 67) (off' := y * 67) rfl underlying47 rfl sizeOf39 rfl rfl) ?_
         refine WT.q rfl (Wn.yes rfl rfl rfl) rfl rfl (fun wq hS => R.loadGA (a := ra2) (i := y * 67) (xs := rx2) (cs := flat [(1, [(vi ((lg.getD y zLg).1.1))]), (32, ((lg.getD y zLg).1.2.1).map vu8), (1, [(vi ((lg.getD y zLg).1.2.2.1))]), (1, [(.slice za zn zc)])]) rfl (ownView (hS _ M13)) isAgg39 sizeOf39 (row_q zhx zhq.1) ((sC sV (sC (s8 zhq.1) (sC sV (sC sV sN))))).len (by decide)) ?_
         refine WT.s ?_
         refine Op1.one rfl (Wn.yes rfl rfl rfl) ?_
         refine WL.call Tryz.call16 rfl rfl (c_rSame (lg.getD y zLg).1 (lg.getD y zLg).1 yhq.1 zhq.1 ya yn yc yhn za zn zc zhn _ (viewV (h_408.ok _ M5)) (viewV (h_408.ok _ M3))) rfl ?_
         rintro _ w_410 ⟨rfl, hc_409⟩
         have h_411 := h_408.same hc_409
         refine WL.nil ?_
         refine ⟨(N0_1_2_3_4_5_6_7_8_9_10_11_12_13_14_15_16_17_18_19 h_411.ok), ?_⟩
         refine WT.q rfl (Wn.yes rfl rfl rfl) rfl rfl (fun wq hS => R.not (b := true) (congrArg Value.bool (decide_eq_true rfl))) ?_
         refine qT rfl rfl (fun wq hS => R.pickF (v := (.bool false)) rfl rfl) ?_
         refine WT.nil (thn_n ?_)
         refine WPi.condF rfl ?_
         refine WPi.skip ?_
         refine thn_n ?_
         refine WPi.reg rfl ?_
         refine qV rfl (R.load1 rfl isAgg3 (h_411.ok _ M8) Sg.h) (qV rfl (R.bin rfl rfl (bi_add (c := ((c + 1 : Nat) : Int)) (by omega) (by omega))) ?_)
         refine WL.store1 h_411 rfl rfl sizeOf3 rfl Y8 (by decide) Sg.h (fun w_412 h_413 => ?_)
         refine WL.nil ?_
         refine onlyN.i ?_
         refine inb_n ?_
         refine rQ.i ?_
         have h_439 := (((((((((((((((((((((((((h_413.up J1).drop rfl).up J1).drop rfl).up J1).drop rfl).up J1).drop rfl).up J1).drop rfl).up J1).drop rfl).up J13).up J13).up J13).up J13).up J13).up J13).up J13).up J13).up J13).up J13).up J13).up J13).up J13).up J13
         refine HP.endI h_439 hb_389 hrs hrp (fun w_440 h_441 => ⟨rfl, ?_⟩)
         rw [hLf]
         exact HP_swap (E := [_, _, _, _, _, _, _, _, _, _, _]) (T := [_, _, _]) h_441
        have h8 : HP w w_377 (Ent.blk b_341 .nw 31 [(1, [(.slice a_342 lg.length c_343)])] :: Ent.row a_342 lg.length c_343 47 67 ys_344 :: Ent.pin (sblks ys_344) (fun w => Lgs w ys_344 lg) :: (Lf 0 ++ [])) := by rw [hLf]; exact HP_swap (E := [_, _, _, _, _, _, _, _, _, _, _]) (T := [_, _, _]) (R := []) h_378
        exact (c_Brk1 b_341 a_342 c_343 ys_344 lg (by omega) hcap l_375 Lf hY w_377 h8).mono (fun v w2 hh => ⟨_, rfl, by have h9 := HP_swap (E := [_, _, _]) (T := Lf (pis lg lg.length).length) (R := []) hh.2; rw [hLf] at h9; exact h9⟩)
       ·subst hL_382
        refine inb_n (thn_n (WP.seq (WP.reg ?_)))
        refine qV rfl (R.load1 rfl isAgg3 (h_383.ok _ M1) Sg.h) (qV rfl (R.load1 rfl isAgg52 (h_383.ok _ M3) Sg.h) (qV rfl (R.lenS (a := wa) (m := (pis lg lg.length).length) rfl rfl underlying52) (qV rfl (R.bin rfl rfl (bi_eql (r := true) (by simp))) (qM (.bool true) rfl rfl ?_))))
        refine WL.want rfl rfl ?_
        refine WL.call Tryz.call6 rfl rfl (c_known05  _ ) rfl ?_
        rintro _ w_443 ⟨rfl, hc_442⟩
        have h_444 := h_383.same hc_442
        refine qV rfl (R.pickT (v := (.bool true)) rfl rfl) ?_
        refine WL.store1 h_444 rfl rfl sizeOf4 rfl Y9 (by decide) Sg.h (fun w_445 h_446 => ?_)
        refine WL.nil (thn_n (WP.ret ?_))
        obtain ⟨w_447, ht_448, h_449⟩ := HP.taken (fun _ => True) [D_379] h_446
        refine retM_of ht_448 results4 (RV.cell rfl (h_449.load1 isAgg4 M8) RV.nil) ?_
        exact ⟨rfl, h_449.chgS⟩
      ·refine WT.skipQ rfl rfl rfl (boolNe (v := .bool false) (congrArg Value.bool c_335) (by decide)) rfl rfl ?_
       refine WT.skipQ rfl rfl rfl (boolNe (v := .bool false) (congrArg Value.bool c_335) (by decide)) rfl rfl ?_
       refine WT.skipQ rfl rfl rfl (boolNe (v := .bool false) (congrArg Value.bool c_335) (by decide)) rfl rfl ?_
       refine qT rfl rfl (fun wq hS => R.pickF (v := (.bool false)) (congrArg Value.bool c_335) rfl) ?_
       refine WT.nil (thn_n ?_)
       refine WP.condF rfl ?_
       refine WP.skip (thn_n (WP.seq (WP.reg ?_)))
       refine qM (pO b_59 0) rfl rfl ?_
       have h_454 := ((((h_334.up J4).up J4).up J4).up J4).up J4
       refine WL.call Tryz.call15 rfl rfl (c_oBrkI true b_59 b_60 (zB 32) df lr a_61 n c_62 u hl la2 lc2 lx2 lg (by first | decide | omega) (by first | decide | omega) _ h_454) rfl ?_
       rintro _ w_459 ⟨b_455, a_456, c_457, ys_458, rfl, h_460⟩
       refine qA (Value.func (Fn.func 35) [].toArray [(Value.pointer (some ⟨b_455, 0, none⟩))].toArray) rfl rfl ?_
       refine WL.nil (thn_n (WP.seq (WP.seq (WP.reg ?_))))
       refine qM (Value.func (Fn.func 35) [].toArray [(Value.pointer (some ⟨b_455, 0, none⟩))].toArray) rfl rfl (qV rfl (R.eqNilF rfl rfl underlying56) ?_)
       refine WL.nil (thn_n ?_)
       refine WP.condF rfl ?_
       refine WP.skip (thn_n (WP.seq (WP.reg ?_)))
       refine WL.alloc (segs := [(1, [(vi 0)])]) h_460 (zv typeInfo3 rfl) rfl (sC sV sN) rfl (fun b_461 w_462 h_463 => ?_)
       refine WL.store1 h_463 rfl rfl sizeOf3 rfl At.h (by decide) Sg.h (fun w_464 h_465 => ?_)
       refine WL.nil (thn_n (WP.seq (WP.seq (WP.reg ?_))))
       refine qM (Value.func (Fn.func 35) [].toArray [(Value.pointer (some ⟨b_455, 0, none⟩))].toArray) rfl rfl ?_
       refine WL.nil (thn_n (WP.block ?_))
       have h_487 := (((((((((((((((((((((h_465.up J4).drop rfl).up J4).drop rfl).up J4).drop rfl).up J4).drop rfl).up J4).drop rfl).up J3).up J3).up J3).up J11).up J8).up J8).up J8).up J8).up J11).up J11).up J11).up J11
       refine WP.rangeY (gf := 35) (lb := [(pO b_455 0)]) (K := fun L2 => L2 = [.blk b_461 .nw 3 [(1, [(vn ((pis lg lg.length).length))])], .blk b_69 .nw 30 [(1, [(pO b_66 0)])], .blk b_148 .nw 52 [(1, [(.slice wa ((pis lg lg.length).length) wc)])], .row wa ((pis lg lg.length).length) wc 53 2 ((prC (pis lg lg.length)).map vi64), .blk b_66 .nw 33 [(1, [(.bool true)]), (32, (zB 32).map vu8), (1, [(.slice da0 n cap0)]), (1, [(vn u)]), (1, [(.slice ra2 lg.length rc2)])], .row ra2 lg.length rc2 47 67 rx2, .pin (sblks rx2) (fun w => Lgs w rx2 lg), .view da0 (df.map vu8), .blk b_1 .nw 4 [(1, [(.bool false)])], .blk b_455 .nw 31 [(1, [(.slice a_456 lg.length c_457)])], .row a_456 lg.length c_457 47 67 ys_458, .pin (sblks ys_458) (fun w => Lgs w ys_458 lg)]) h_487 rfl Tryz.call35 rfl (fun D_488 l_489 r_490 w_491 hrs hrp hps hra hrb hrel h_492 => ?_) (fun D_493 w_494 L_495 hL_496 h_497 => ?_)
       ·obtain ⟨Lf, hLf⟩ : ∃ Lf : Nat → List Ent, ∀ c, Lf c = [.obj l_489 .nw (.loop r_490), .obj D_488 .nw (.deferred (some [])), .blk b_461 .nw 3 [(1, [(vi ((c : Nat) : Int))])], .blk b_69 .nw 30 [(1, [(.pointer (some ⟨b_66, 0, none⟩))])], .blk b_148 .nw 52 [(1, [(.slice wa ((pis lg lg.length).length) wc)])], .row wa ((pis lg lg.length).length) wc 53 2 ((prC (pis lg lg.length)).map vi64), .blk b_66 .nw 33 [(1, [(.bool true)]), (32, (List.replicate 32 (0 : UInt8)).map vu8), (1, [(.slice da0 n cap0)]), (1, [(vi ((u : Nat) : Int))]), (1, [(.slice ra2 lg.length rc2)])], .row ra2 lg.length rc2 47 67 rx2, .pin (sblks rx2) (fun w => Lgs w rx2 lg), .view da0 (df.map vu8), .blk b_1 .nw 4 [(1, [(.bool false)])]] := ⟨_, fun _ => rfl⟩
        have hcap : lg.length ≤ c_457 := (h_492.own M12).2.2.1
        have hY : ∀ (c x y : Nat) (cx cy : List Value), (pis lg lg.length)[c]? = some (x, y) → cx = (ys_458.drop (x * 67)).take 67 → cy = (ys_458.drop (y * 67)).take 67 → ∀ (E : List Ent) (w5 : World), HP w w5 (Ent.blk b_455 .nw 31 [(1, [(.slice a_456 lg.length c_457)])] :: Ent.row a_456 lg.length c_457 47 67 ys_458 :: Ent.pin (sblks ys_458) (fun w => Lgs w ys_458 lg) :: (Lf c ++ E)) → Yc Tryz.prog l_489 [.agg ⟨cx⟩, .agg ⟨cy⟩] w5 (fun v w' => v = .bool true ∧ HP w w' (Ent.blk b_455 .nw 31 [(1, [(.slice a_456 lg.length c_457)])] :: Ent.row a_456 lg.length c_457 47 67 ys_458 :: Ent.pin (sblks ys_458) (fun w => Lgs w ys_458 lg) :: (Lf (c + 1) ++ E))) := by
         intro c x y cx cy hc hcx hcy E w5 h5
         have hxy := brk_lt (Nat.le_refl _) hc
         have hxl := hxy.1
         have hyl := hxy.2
         have htl := hxl
         have hzl := hyl
         have hcl : c < (pis lg lg.length).length := (List.getElem?_eq_some_iff.1 hc).1
         have h6 := HP_swap (E := [_, _, _]) (T := Lf c) h5
         rw [hLf] at h6
         have h7 : HP w w5 (Ent.obj l_489 .nw (.loop r_490) :: Ent.obj D_488 .nw (.deferred (some [])) :: Ent.blk b_461 .nw 3 [(1, [(vi ((c : Nat) : Int))])] :: Ent.blk b_69 .nw 30 [(1, [(.pointer (some ⟨b_66, 0, none⟩))])] :: Ent.blk b_148 .nw 52 [(1, [(.slice wa ((pis lg lg.length).length) wc)])] :: Ent.row wa ((pis lg lg.length).length) wc 53 2 ((prC (pis lg lg.length)).map vi64) :: Ent.blk b_66 .nw 33 [(1, [(.bool true)]), (32, (List.replicate 32 (0 : UInt8)).map vu8), (1, [(.slice da0 n cap0)]), (1, [(vi ((u : Nat) : Int))]), (1, [(.slice ra2 lg.length rc2)])] :: Ent.row ra2 lg.length rc2 47 67 rx2 :: Ent.pin (sblks rx2) (fun w => Lgs w rx2 lg) :: Ent.view da0 (df.map vu8) :: Ent.blk b_1 .nw 4 [(1, [(.bool false)])] :: Ent.blk b_455 .nw 31 [(1, [(.slice a_456 lg.length c_457)])] :: Ent.row a_456 lg.length c_457 47 67 ys_458 :: Ent.pin (sblks ys_458) (fun w => Lgs w ys_458 lg) :: E) := h6
         have hxlg := (h7.ok _ M13).1
         have hxxl := hxlg.len
         obtain ⟨xa, xn, xc, xhx, xhq, xhd, xhn, xhc, xhv, xhb⟩ := Lgs.aget (z := zLg) hxlg hxl
         have hylg := (h7.ok _ M13).1
         have hyxl := hylg.len
         obtain ⟨ya, yn, yc, yhx, yhq, yhd, yhn, yhc, yhv, yhb⟩ := Lgs.aget (z := zLg) hylg hyl
         have htlg := (h7.ok _ M8).1
         have htxl := htlg.len
         obtain ⟨ta, tn, tc, thx, thq, thd, thn, thc, thv, thb⟩ := Lgs.aget (z := zLg) htlg htl
         have hzlg := (h7.ok _ M8).1
         have hzxl := hzlg.len
         obtain ⟨za, zn, zc, zhx, zhq, zhd, zhn, zhc, zhv, zhb⟩ := Lgs.aget (z := zLg) hzlg hzl
         obtain rfl : cx = flat [(1, [(vi ((lg.getD x zLg).1.1))]), (32, ((lg.getD x zLg).1.2.1).map vu8), (1, [(vi ((lg.getD x zLg).1.2.2.1))]), (1, [(.slice xa xn xc)]), (32, ((lg.getD x zLg).2).map vu8)] := hcx.trans xhx
         obtain rfl : cy = flat [(1, [(vi ((lg.getD y zLg).1.1))]), (32, ((lg.getD y zLg).1.2.1).map vu8), (1, [(vi ((lg.getD y zLg).1.2.2.1))]), (1, [(.slice ya yn yc)]), (32, ((lg.getD y zLg).2).map vu8)] := hcy.trans yhx
         have h_498 := h7.within (e' := .view xa (((lg.getD x zLg).1.2.2.2).map vu8)) M13 rfl (View.arg xhv) rfl rfl (fun b hb_ => xhb _ (view_sblk xhn b hb_))
         have h_499 := h_498.within (e' := .view ya (((lg.getD y zLg).1.2.2.2).map vu8)) M14 rfl (View.arg yhv) rfl rfl (fun b hb_ => yhb _ (view_sblk yhn b hb_))
         have h_500 := h_499.within (e' := .view ta (((lg.getD x zLg).1.2.2.2).map vu8)) M10 rfl (View.arg thv) rfl rfl (fun b hb_ => thb _ (view_sblk thn b hb_))
         have h_501 := h_500.within (e' := .view za (((lg.getD y zLg).1.2.2.2).map vu8)) M11 rfl (View.arg zhv) rfl rfl (fun b hb_ => zhb _ (view_sblk zhn b hb_))
         refine Yc.of (p := 146) (q := 147) h7.loopIs hps hrel rfl rfl ?_
         rw [hra, hrb]
         refine WPi.seq ?_
         refine WPi.reg rfl ?_
         refine WL.alloc (segs := [(1, [(vi 0)]), (32, (zB 32).map vu8), (1, [(vi 0)]), (1, [(.slice none 0 0)]), (32, (zB 32).map vu8)]) h_501 (zv typeInfo47 rfl) rfl (sC sV (sC (s8 lr) (sC sV (sC sV (sC (s8 lr) sN))))) rfl (fun b_504 w_505 h_506 => ?_)
         refine WL.storeA [] [(1, [(vi 0)]), (32, (zB 32).map vu8), (1, [(vi 0)]), (1, [(.slice none 0 0)]), (32, (zB 32).map vu8)] [(1, [(vi ((lg.getD x zLg).1.1))]), (32, ((lg.getD x zLg).1.2.1).map vu8), (1, [(vi ((lg.getD x zLg).1.2.2.1))]), (1, [(.slice xa xn xc)]), (32, ((lg.getD x zLg).2).map vu8)] [] h_506 rfl rfl sizeOf47 At.h (by decide) rfl rfl rfl rfl rfl rfl (sC sV (sC (s8 xhq.1) (sC sV (sC sV (sC (s8 xhd) sN))))) (fun w_507 h_508 => ?_)
         refine WL.nil ?_
         refine onlyN.i ?_
         refine thn_n ?_
         refine WPi.reg rfl ?_
         refine WL.alloc (segs := [(1, [(vi 0)]), (32, (zB 32).map vu8), (1, [(vi 0)]), (1, [(.slice none 0 0)]), (32, (zB 32).map vu8)]) h_508 (zv typeInfo47 rfl) rfl (sC sV (sC (s8 lr) (sC sV (sC sV (sC (s8 lr) sN))))) rfl (fun b_509 w_510 h_511 => ?_)
         refine WL.storeA [] [(1, [(vi 0)]), (32, (zB 32).map vu8), (1, [(vi 0)]), (1, [(.slice none 0 0)]), (32, (zB 32).map vu8)] [(1, [(vi ((lg.getD y zLg).1.1))]), (32, ((lg.getD y zLg).1.2.1).map vu8), (1, [(vi ((lg.getD y zLg).1.2.2.1))]), (1, [(.slice ya yn yc)]), (32, ((lg.getD y zLg).2).map vu8)] [] h_511 rfl rfl sizeOf47 At.h (by decide) rfl rfl rfl rfl rfl rfl (sC sV (sC (s8 yhq.1) (sC sV (sC sV (sC (s8 yhd) sN))))) (fun w_512 h_513 => ?_)
         refine WL.nil ?_
         refine onlyN.i ?_
         have h_514 := h_513.up J6
         refine onlyN.i ?_
         refine HP.beginI h_514 hrs (fun rb_502 w_515 hb_503 h_516 => ?_)
         refine WPi.block ?_
         refine WPi.seq ?_
         refine WPi.seq ?_
         refine WPi.drawT rfl (SL w.heap.size [.obj l_489 .nw (.loop rb_502), .blk b_509 .nw 47 [(1, [(vi ((lg.getD y zLg).1.1))]), (32, ((lg.getD y zLg).1.2.1).map vu8), (1, [(vi ((lg.getD y zLg).1.2.2.1))]), (1, [(.slice ya yn yc)]), (32, ((lg.getD y zLg).2).map vu8)], .blk b_504 .nw 47 [(1, [(vi ((lg.getD x zLg).1.1))]), (32, ((lg.getD x zLg).1.2.1).map vu8), (1, [(vi ((lg.getD x zLg).1.2.2.1))]), (1, [(.slice xa xn xc)]), (32, ((lg.getD x zLg).2).map vu8)], .view za (((lg.getD y zLg).1.2.2.2).map vu8), .view ta (((lg.getD x zLg).1.2.2.2).map vu8), .view ya (((lg.getD y zLg).1.2.2.2).map vu8), .view xa (((lg.getD x zLg).1.2.2.2).map vu8), .obj D_488 .nw (.deferred (some [])), .blk b_461 .nw 3 [(1, [(vn c)])], .blk b_69 .nw 30 [(1, [(pO b_66 0)])], .blk b_148 .nw 52 [(1, [(.slice wa ((pis lg lg.length).length) wc)])], .row wa ((pis lg lg.length).length) wc 53 2 ((prC (pis lg lg.length)).map vi64), .blk b_66 .nw 33 [(1, [(.bool true)]), (32, (zB 32).map vu8), (1, [(.slice da0 n cap0)]), (1, [(vn u)]), (1, [(.slice ra2 lg.length rc2)])], .row ra2 lg.length rc2 47 67 rx2, .pin (sblks rx2) (fun w => Lgs w rx2 lg), .view da0 (df.map vu8), .blk b_1 .nw 4 [(1, [(.bool false)])], .blk b_455 .nw 31 [(1, [(.slice a_456 lg.length c_457)])], .row a_456 lg.length c_457 47 67 ys_458, .pin (sblks ys_458) (fun w => Lgs w ys_458 lg)]) (.q 0 (.q 1 (.q 2 (.q 3 (.q 4 (.q 5 (.q 6 (.q 7 (.q 8 (.q 9 (.q 10 (.q 11 (.q 12 (.q 13 (.q 14 (.q 15 (.q 16 (.q 17 (.q 18 (.s 19 (.q 20 (.q 21 (.q 22 (.q 23 (.q 24 (.q 25 (.q 26 (.q 27 (.q 28 (.q 29 (.q 30 (.q 31 (.q 32 (.q 33 (.q 34 (.q 35 (.q 36 (.s 37 (.q 38 (.q 39 .nil)))))))))))))))))))))))))))))))))))))))) (by kernel_rfl) (by kernel_rfl) rfl (by kernel_rfl) (fun w_517 hc_519 => (SL.cons ((h_516.same hc_519).ok _ M0) (SL.cons ((h_516.same hc_519).ok _ M1) (SL.cons ((h_516.same hc_519).ok _ M2) (SL.cons ((h_516.same hc_519).ok _ M3) (SL.cons ((h_516.same hc_519).ok _ M4) (SL.cons ((h_516.same hc_519).ok _ M5) (SL.cons ((h_516.same hc_519).ok _ M6) (SL.cons ((h_516.same hc_519).ok _ M7) (SL.cons ((h_516.same hc_519).ok _ M8) (SL.cons ((h_516.same hc_519).ok _ M9) (SL.cons ((h_516.same hc_519).ok _ M10) (SL.cons ((h_516.same hc_519).ok _ M11) (SL.cons ((h_516.same hc_519).ok _ M12) (SL.cons ((h_516.same hc_519).ok _ M13) (SL.cons ((h_516.same hc_519).ok _ M14) (SL.cons ((h_516.same hc_519).ok _ M15) (SL.cons ((h_516.same hc_519).ok _ M16) (SL.cons ((h_516.same hc_519).ok _ M17) (SL.cons ((h_516.same hc_519).ok _ M18) (SL.cons ((h_516.same hc_519).ok _ M19) (SL.nil _ _)))))))))))))))))))))) (fun w_517 hc_519 => ?_)
         have h_518 := h_516.same hc_519
         refine qT rfl rfl (fun wq hS => R.load1 rfl isAgg3 (hS _ M8) Sg.h) ?_
         refine qT rfl rfl (fun wq hS => R.load1 rfl isAgg52 (hS _ M10) Sg.h) ?_
         refine qT rfl rfl (fun wq hS => R.lenS (a := wa) (m := (pis lg lg.length).length) rfl rfl underlying52) ?_
         refine qT rfl rfl (fun wq hS => R.bin rfl rfl (bi_geq (r := decide ((((c : Nat) : Int) : Int) ≥ (((pis lg lg.length).length : Nat) : Int))) rfl)) ?_
         refine qT rfl rfl (fun wq hS => R.move (v := (.bool (decide ((((c : Nat) : Int) : Int) ≥ (((pis lg lg.length).length : Nat) : Int))))) rfl) ?_
         refine WT.q rfl (Wn.yes rfl rfl (congrArg Value.bool (decide_eq_false (by omega)))) rfl rfl (fun wq hS => R.fieldAddr (off' := 0) rfl underlying47 rfl sizeOf39 rfl rfl) ?_
         refine WT.q rfl (Wn.yes rfl rfl (congrArg Value.bool (decide_eq_false (by omega)))) rfl rfl (fun wq hS => R.loadA [] [(1, [(vi ((lg.getD x zLg).1.1))]), (32, ((lg.getD x zLg).1.2.1).map vu8), (1, [(vi ((lg.getD x zLg).1.2.2.1))]), (1, [(.slice xa xn xc)])] [(32, ((lg.getD x zLg).2).map vu8)] rfl isAgg39 sizeOf39 (hS _ M2) rfl rfl rfl rfl) ?_
         refine WT.q rfl (Wn.yes rfl rfl (congrArg Value.bool (decide_eq_false (by omega)))) rfl rfl (fun wq hS => R.load1 rfl isAgg30 (hS _ M9) Sg.h) ?_
         refine WT.q rfl (Wn.yes rfl rfl (congrArg Value.bool (decide_eq_false (by omega)))) rfl rfl (fun wq hS => R.nilCheck rfl) ?_
         refine WT.q rfl (Wn.yes rfl rfl (congrArg Value.bool (decide_eq_false (by omega)))) rfl rfl (fun wq hS => R.fieldAddr (off' := 35) rfl underlying33 rfl sizeOf31 rfl rfl) ?_
         refine WT.q rfl (Wn.yes rfl rfl (congrArg Value.bool (decide_eq_false (by omega)))) rfl rfl (fun wq hS => R.load1 rfl isAgg31 (hS _ M12) (Sg.t rfl (Sg.t rfl (Sg.t rfl (Sg.t rfl Sg.h))))) ?_
         refine WT.q rfl (Wn.yes rfl rfl (congrArg Value.bool (decide_eq_false (by omega)))) rfl rfl (fun wq hS => R.load1 rfl isAgg52 (hS _ M10) Sg.h) ?_
         refine WT.q rfl (Wn.yes rfl rfl (congrArg Value.bool (decide_eq_false (by omega)))) rfl rfl (fun wq hS => R.load1 rfl isAgg3 (hS _ M8) Sg.h) ?_
         refine WT.q rfl (Wn.yes rfl rfl (congrArg Value.bool (decide_eq_false (by omega)))) rfl rfl (fun wq hS => R.indexS (a := wa) (i := c) (off := c * 2) (xs := (prC (pis lg lg.length)).map vi64) rfl rfl rfl (by omega) (ownView (hS _ M11)) (lt_len (K := (pis lg lg.length).length * 2) (len_map prC_len) (by omega)) underlying52 sizeOf53 rfl) ?_
         refine WT.q rfl (Wn.yes rfl rfl (congrArg Value.bool (decide_eq_false (by omega)))) rfl rfl (fun wq hS => R.indexG (a := wa) (j := c * 2) (i := 0) (off' := c * 2) rfl rfl rfl (by decide) underlying53 sizeOf3 rfl) ?_
         refine WT.q rfl (Wn.yes rfl rfl (congrArg Value.bool (decide_eq_false (by omega)))) rfl rfl (fun wq hS => R.loadG rfl (ownView (hS _ M11)) isAgg3 (map_at (prC_at hc).1)) ?_
         refine WT.q rfl (Wn.yes rfl rfl (congrArg Value.bool (decide_eq_false (by omega)))) rfl rfl (fun wq hS => R.indexS (a := ra2) (i := x) (off := x * 67) (xs := rx2) rfl rfl rfl (by omega) (ownView (hS _ M13)) (by rw [htxl]; omega) underlying31 sizeOf47 rfl) ?_
         refine WT.q rfl (Wn.yes rfl rfl (congrArg Value.bool (decide_eq_false (by omega)))) rfl rfl (fun wq hS => R.fieldG (a := ra2) (i := x * 67) (off' := x * 67) rfl underlying47 rfl sizeOf39 rfl rfl) ?_
         refine WT.q rfl (Wn.yes rfl rfl (congrArg Value.bool (decide_eq_false (by omega)))) rfl rfl (fun wq hS => R.loadGA (a := ra2) (i := x * 67) (xs := rx2) (cs := flat [(1, [(vi ((lg.getD x zLg).1.1))]), (32, ((lg.getD x zLg).1.2.1).map vu8), (1, [(vi ((lg.getD x zLg).1.2.2.1))]), (1, [(.slice ta tn tc)])]) rfl (ownView (hS _ M13)) isAgg39 sizeOf39 (row_q thx thq.1) ((sC sV (sC (s8 thq.1) (sC sV (sC sV sN))))).len (by decide)) ?_
         refine WT.s ?_
         refine Op1.one rfl (Wn.yes rfl rfl (congrArg Value.bool (decide_eq_false (by omega)))) ?_
         refine WL.call Tryz.call16 rfl rfl (c_rSame (lg.getD x zLg).1 (lg.getD x zLg).1 xhq.1 thq.1 xa xn xc xhn ta tn tc thn _ (viewV (h_518.ok _ M6)) (viewV (h_518.ok _ M4))) rfl ?_
         rintro _ w_521 ⟨rfl, hc_520⟩
         have h_522 := h_518.same hc_520
         refine WL.nil ?_
         refine ⟨(N0_1_2_3_4_5_6_7_8_9_10_11_12_13_14_15_16_17_18_19 h_522.ok), ?_⟩
         refine WT.q rfl (Wn.yes rfl rfl (congrArg Value.bool (decide_eq_false (by omega)))) rfl rfl (fun wq hS => R.not (b := true) (congrArg Value.bool (decide_eq_true rfl))) ?_
         refine qT rfl rfl (fun wq hS => R.pickF (v := (.bool false)) (congrArg Value.bool (decide_eq_false (by omega))) rfl) ?_
         refine qT rfl rfl (fun wq hS => R.move (v := (.bool false)) rfl) ?_
         refine WT.q rfl (Wn.yes rfl rfl rfl) rfl rfl (fun wq hS => R.fieldAddr (off' := 0) rfl underlying47 rfl sizeOf39 rfl rfl) ?_
         refine WT.q rfl (Wn.yes rfl rfl rfl) rfl rfl (fun wq hS => R.loadA [] [(1, [(vi ((lg.getD y zLg).1.1))]), (32, ((lg.getD y zLg).1.2.1).map vu8), (1, [(vi ((lg.getD y zLg).1.2.2.1))]), (1, [(.slice ya yn yc)])] [(32, ((lg.getD y zLg).2).map vu8)] rfl isAgg39 sizeOf39 (hS _ M1) rfl rfl rfl rfl) ?_
         refine WT.q rfl (Wn.yes rfl rfl rfl) rfl rfl (fun wq hS => R.load1 rfl isAgg30 (hS _ M9) Sg.h) ?_
         refine WT.q rfl (Wn.yes rfl rfl rfl) rfl rfl (fun wq hS => R.nilCheck rfl) ?_
         refine WT.q rfl (Wn.yes rfl rfl rfl) rfl rfl (fun wq hS => R.fieldAddr (off' := 35) rfl underlying33 rfl sizeOf31 rfl rfl) ?_
         refine WT.q rfl (Wn.yes rfl rfl rfl) rfl rfl (fun wq hS => R.load1 rfl isAgg31 (hS _ M12) (Sg.t rfl (Sg.t rfl (Sg.t rfl (Sg.t rfl Sg.h))))) ?_
         refine WT.q rfl (Wn.yes rfl rfl rfl) rfl rfl (fun wq hS => R.load1 rfl isAgg52 (hS _ M10) Sg.h) ?_
         refine WT.q rfl (Wn.yes rfl rfl rfl) rfl rfl (fun wq hS => R.load1 rfl isAgg3 (hS _ M8) Sg.h) ?_
         refine WT.q rfl (Wn.yes rfl rfl rfl) rfl rfl (fun wq hS => R.indexS (a := wa) (i := c) (off := c * 2) (xs := (prC (pis lg lg.length)).map vi64) rfl rfl rfl (by omega) (ownView (hS _ M11)) (lt_len (K := (pis lg lg.length).length * 2) (len_map prC_len) (by omega)) underlying52 sizeOf53 rfl) ?_
         refine WT.q rfl (Wn.yes rfl rfl rfl) rfl rfl (fun wq hS => R.indexG (a := wa) (j := c * 2) (i := 1) (off' := c * 2 + 1) rfl rfl rfl (by decide) underlying53 sizeOf3 rfl) ?_
         refine WT.q rfl (Wn.yes rfl rfl rfl) rfl rfl (fun wq hS => R.loadG rfl (ownView (hS _ M11)) isAgg3 (map_at (prC_at hc).2)) ?_
         refine WT.q rfl (Wn.yes rfl rfl rfl) rfl rfl (fun wq hS => R.indexS (a := ra2) (i := y) (off := y * 67) (xs := rx2) rfl rfl rfl (by omega) (ownView (hS _ M13)) (by rw [hzxl]; omega) underlying31 sizeOf47 rfl) ?_
         refine WT.q rfl (Wn.yes rfl rfl rfl) rfl rfl (fun wq hS => R.fieldG (a := ra2) (i := y * 67) (off' := y * 67) rfl underlying47 rfl sizeOf39 rfl rfl) ?_
         refine WT.q rfl (Wn.yes rfl rfl rfl) rfl rfl (fun wq hS => R.loadGA (a := ra2) (i := y * 67) (xs := rx2) (cs := flat [(1, [(vi ((lg.getD y zLg).1.1))]), (32, ((lg.getD y zLg).1.2.1).map vu8), (1, [(vi ((lg.getD y zLg).1.2.2.1))]), (1, [(.slice za zn zc)])]) rfl (ownView (hS _ M13)) isAgg39 sizeOf39 (row_q zhx zhq.1) ((sC sV (sC (s8 zhq.1) (sC sV (sC sV sN))))).len (by decide)) ?_
         refine WT.s ?_
         refine Op1.one rfl (Wn.yes rfl rfl rfl) ?_
         refine WL.call Tryz.call16 rfl rfl (c_rSame (lg.getD y zLg).1 (lg.getD y zLg).1 yhq.1 zhq.1 ya yn yc yhn za zn zc zhn _ (viewV (h_522.ok _ M5)) (viewV (h_522.ok _ M3))) rfl ?_
         rintro _ w_524 ⟨rfl, hc_523⟩
         have h_525 := h_522.same hc_523
         refine WL.nil ?_
         refine ⟨(N0_1_2_3_4_5_6_7_8_9_10_11_12_13_14_15_16_17_18_19 h_525.ok), ?_⟩
         refine WT.q rfl (Wn.yes rfl rfl rfl) rfl rfl (fun wq hS => R.not (b := true) (congrArg Value.bool (decide_eq_true rfl))) ?_
         refine qT rfl rfl (fun wq hS => R.pickF (v := (.bool false)) rfl rfl) ?_
         refine WT.nil (thn_n ?_)
         refine WPi.condF rfl ?_
         refine WPi.skip ?_
         refine thn_n ?_
         refine WPi.reg rfl ?_
         refine qV rfl (R.load1 rfl isAgg3 (h_525.ok _ M8) Sg.h) (qV rfl (R.bin rfl rfl (bi_add (c := ((c + 1 : Nat) : Int)) (by omega) (by omega))) ?_)
         refine WL.store1 h_525 rfl rfl sizeOf3 rfl Y8 (by decide) Sg.h (fun w_526 h_527 => ?_)
         refine WL.nil ?_
         refine onlyN.i ?_
         refine inb_n ?_
         refine rQ.i ?_
         have h_553 := (((((((((((((((((((((((((h_527.up J1).drop rfl).up J1).drop rfl).up J1).drop rfl).up J1).drop rfl).up J1).drop rfl).up J1).drop rfl).up J13).up J13).up J13).up J13).up J13).up J13).up J13).up J13).up J13).up J13).up J13).up J13).up J13).up J13
         refine HP.endI h_553 hb_503 hrs hrp (fun w_554 h_555 => ⟨rfl, ?_⟩)
         rw [hLf]
         exact HP_swap (E := [_, _, _, _, _, _, _, _, _, _, _]) (T := [_, _, _]) h_555
        have h8 : HP w w_491 (Ent.blk b_455 .nw 31 [(1, [(.slice a_456 lg.length c_457)])] :: Ent.row a_456 lg.length c_457 47 67 ys_458 :: Ent.pin (sblks ys_458) (fun w => Lgs w ys_458 lg) :: (Lf 0 ++ [])) := by rw [hLf]; exact HP_swap (E := [_, _, _, _, _, _, _, _, _, _, _]) (T := [_, _, _]) (R := []) h_492
        exact (c_Brk1 b_455 a_456 c_457 ys_458 lg (by omega) hcap l_489 Lf hY w_491 h8).mono (fun v w2 hh => ⟨_, rfl, by have h9 := HP_swap (E := [_, _, _]) (T := Lf (pis lg lg.length).length) (R := []) hh.2; rw [hLf] at h9; exact h9⟩)
       ·subst hL_496
        refine inb_n (thn_n (WP.seq (WP.reg ?_)))
        refine qV rfl (R.load1 rfl isAgg3 (h_497.ok _ M1) Sg.h) (qV rfl (R.load1 rfl isAgg52 (h_497.ok _ M3) Sg.h) (qV rfl (R.lenS (a := wa) (m := (pis lg lg.length).length) rfl rfl underlying52) (qV rfl (R.bin rfl rfl (bi_eql (r := true) (by simp))) (qM (.bool true) rfl rfl ?_))))
        refine WL.want rfl rfl ?_
        refine WL.call Tryz.call6 rfl rfl (c_known05  _ ) rfl ?_
        rintro _ w_557 ⟨rfl, hc_556⟩
        have h_558 := h_497.same hc_556
        refine qV rfl (R.pickT (v := (.bool true)) rfl rfl) ?_
        refine WL.store1 h_558 rfl rfl sizeOf4 rfl Y9 (by decide) Sg.h (fun w_559 h_560 => ?_)
        refine WL.nil (thn_n (WP.ret ?_))
        obtain ⟨w_561, ht_562, h_563⟩ := HP.taken (fun _ => True) [D_493] h_560
        refine retM_of ht_562 results4 (RV.cell rfl (h_563.load1 isAgg4 M8) RV.nil) ?_
        exact ⟨rfl, h_563.chgS⟩
namespace oracleBreaksDone
open Go.ChangeShapes Go.WideShapes Go.ChangeAt
theorem own : ownKnob Tryz.prog.godebug = none := by kernel_rfl
theorem laidOut : laidOutB Tryz.prog = true := by kernel_rfl
set_option maxRecDepth 100000 in
theorem lifted (os : Os) (started : os.Started) (H : Type) (enc : TypeId × Value → H) :
  ReturnsInHanded {} Tryz.checked os 4 .any (Rows.oracleBreaksSpec.pre6 enc Tryz.prog Tryz.f4 Rows.oracleBreaksRow.domain false) (Rows.oracleBreaksSpec.post enc Tryz.prog Tryz.f4 false true false false) := by
 refine returnsInHanded_of_change (C := Tryz.checked) own started (by kernel_rfl) Tryz.func4
  (ChangeSpec.witness6 (enc := enc) (C := Tryz.checked) false ⟨#[], #[.slice none 0 0, .slice none 0 0], []⟩ 8 (by kernel_rfl) (by kernel_rfl) (by kernel_rfl) (by kernel_rfl)) ?_
 intro W base args ds gs before hval0 hW hcnd _
 have hval : ∀ (j : Nat) t v, Tryz.f4.params[j]? = some t → args[j]? = some v → Value.okWide Tryz.prog W .any base t v := hval0
 have hW' := hW
 obtain ⟨p, q, hA0, hV, rfl, hfz, hnd⟩ := hW
 have hA : DataW.TrodAll enc Tryz.prog W 0 (fun _ => true) true Tryz.f4.params.toList args.toList ds p := hA0
 rw [Tryz.params4] at hA hval
 obtain ⟨v0, vs0, d0, ds0, p0, q0, hargs, rfl, rfl, h0, r0⟩ := trodAll_cons hA
 obtain ⟨v1, vs1, d1, ds1, p1, q1, rfl, rfl, rfl, h1, r1⟩ := trodAll_cons r0
 obtain ⟨rfl, rfl, rfl⟩ := trodAll_nil r1
 obtain rfl : args = #[v0, v1] := by cases args; simp_all
 obtain ⟨rfl, rfl⟩ := trodVars_none hV
 have lt0 : ∀ x ∈ p0, x.block < W.heap.size := by obtain ⟨m, hm⟩ := h0; exact DataW.trod_lt m _ _ _ hm
 obtain ⟨a0, n0, c0, rfl⟩ := okWide_slice underlying22 (hval 0 22 v0 rfl rfl)
 obtain ⟨a0, n0, c0, x0, e0, l_x0, hc0, hm0, hv0⟩ := Tr.slA8 underlying22 ce29 underlying29 ce5 underlying5 (Tr.of h0 rfl)
 cases e0
 have lt1 : ∀ x ∈ p1, x.block < W.heap.size := by obtain ⟨m, hm⟩ := h1; exact DataW.trod_lt m _ _ _ hm
 obtain ⟨a1, n1, c1, rfl⟩ := okWide_slice underlying23 (hval 1 23 v1 rfl rfl)
 obtain ⟨a1, n1, c1, x1, e1, l_x1, hc1, hm1, hr1, hv1⟩ := trAk W (Tr.of h1 rfl)
 cases e1
 clear hA0 hval0
 have hw : Cs Tryz.prog 4 [(.slice a0 n0 c0), (.slice a1 n1 c1)].toArray W (fun v w1 => v = .bool true ∧ Chg W w1 []) := w_OracleBreaks x0 a0 n0 c0 l_x0 a1 n1 c1 x1 l_x1 hr1.1 hc1 hm1 W hv0.1 hv1.1 hr1.2
 have ea : ([(.slice a0 n0 c0), (.slice a1 n1 c1)] : List Value).toArray = (#[(.slice a0 n0 c0), (.slice a1 n1 c1)] : Array Value) := by simp [flat]
 rw [ea] at hw
 refine Calls.mono (Cs.below hw) fun e W' ⟨he, bel⟩ => ?_
 subst he
 exact ⟨_, rfl, _, _, _, [], _, [], hW', trodAll_mk1 (shut_bool underlying4 _), (trodAll_cons_mk (Below.trod laidOut (by kernel_rfl) (of_decide_eq_true (by kernel_rfl)) h0 bel lt0) (trodAll_cons_mk (Below.trod laidOut (by kernel_rfl) (of_decide_eq_true (by kernel_rfl)) h1 bel lt1) trodAll_mk0)), rfl, bel.frame _, fun h => by cases h⟩
theorem over : Rows.oracleBreaksRow.holds Tryz.pinned (OpenSpec.ofChange Rows.oracleBreaksSpec) :=
 OpenClaim.holds_of_wide 4 Tryz.f4 rfl rfl rfl rfl rfl rfl rfl ⟨rfl, rfl, rfl, rfl, rfl⟩ rfl rfl rfl rfl rfl (by kernel_rfl) Tryz.func4 (by kernel_rfl)
  (of_decide_eq_true (by kernel_rfl)) (by unfold Func.isWrapper; first | (rw [if_pos (by decide +kernel)]; kernel_rfl) | (rw [if_neg (by decide +kernel)]; exact ⟨rfl, rfl⟩))
  (fun os started H enc _ => lifted os started H enc)
theorem proved : Rows.OracleBreaksSaid := over
end oracleBreaksDone
end Go.Proofs.YtajiipjmmoehcaaGreat
