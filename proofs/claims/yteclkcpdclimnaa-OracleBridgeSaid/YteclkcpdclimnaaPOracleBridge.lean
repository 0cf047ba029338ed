/- OracleBridge holds of every input. Conditions: none. -/
import Derived.Test.YteclkcpdclimnaaZ4OracleBridge
set_option linter.unusedVariables false
set_option linter.unusedSimpArgs false
set_option linter.unusedSectionVars false
namespace Go.Proofs.Yteclkcpdclimnaa
open Go.Proofs.Try
open Go.Vc Go.Orc Go.Sh Go.RowKit
set_option linter.unusedVariables false
set_option linter.unusedSimpArgs false
set_option maxRecDepth 20000
theorem aggT23 : aggB Try.prog 23 = true := by unfold aggB; rw [underlying23]
theorem w_OracleBridge (ms : List UInt8) (hms : ms.length = 32) (ar : Option Addr) (nr cr : Nat) (es : List Ae) (hel : es.length = nr) (hes : ∀ e ∈ es, okAe e) (hcr : nr ≤ cr) (hcm : cr ≤ maxLen) (w : World) (hve : View w ar (aesC es)) (hak : Aks w es) :
  Cs Try.prog 5 [(.agg ⟨ms.map vu8⟩), (.slice ar nr cr)].toArray w (fun v w1 => v = (.bool true) ∧ Chg w w1 []) := by
 refine Cs.of (n := 193) (args := [(.agg ⟨ms.map vu8⟩), (.slice ar nr cr)]) Try.func5 rfl rfl rfl ?_
 have h_0 := HP.init w
 have h_01 := h_0.oldV (View.arg hve) rfl (by simp [Ent.mut])
 have h_00 := h_01.oldV (Aks.pin hak) rfl (by simp [Ent.mut])
 refine WP.seq (WP.reg ?_)
 refine WL.box (segs := [(32, ms.map vu8)]) h_00 rfl rfl (sC (s8 hms) sN) rfl (fun b_1 w_2 h_3 => ?_)
 refine qA (.bool false) rfl rfl ?_
 refine WL.nil (thn_n (WP.seq (WP.seq (WP.reg ?_))))
 refine qM (.slice ar nr cr) rfl rfl ?_
 refine WL.call Try.call21 rfl rfl (c_much ar nr cr es hel hes (Nat.le_trans hcr hcm) _ (viewV (h_3.ok _ M2)) (h_3.ok _ M1).1) rfl ?_
 rintro _ w_7 ⟨bd_4, rfl, hd_5, hc_6⟩
 have h_8 := h_3.same hc_6
 refine qM (.bool bd_4) rfl rfl ?_
 rcases Bool.eq_false_or_eq_true bd_4 with c_9 | c_9
 ·refine WL.skip rfl (congrArg Value.bool c_9) rfl ?_
  refine WL.skip rfl (congrArg Value.bool c_9) rfl ?_
  refine WL.skip rfl (congrArg Value.bool c_9) rfl ?_
  refine qV rfl (R.pickT (v := (.bool true)) (congrArg Value.bool c_9) rfl) ?_
  refine WL.nil (thn_n ?_)
  refine WP.condT rfl ?_
  refine WP.seq (WP.reg ?_)
  refine WL.call Try.call22 rfl rfl (c_known05  _ ) rfl ?_
  rintro _ w_11 ⟨rfl, hc_10⟩
  have h_12 := h_8.same hc_10
  refine qA (.bool true) rfl rfl ?_
  refine WL.nil (thn_n (WP.ret (thn_r ?_)))
  refine ret_of results5 (RV.tmp (v := (.bool true)) rfl RV.nil) ?_
  exact ⟨rfl, h_12.chgS⟩
 ·refine WL.want rfl (congrArg Value.bool c_9) ?_
  refine qM (.slice ar nr cr) rfl rfl ?_
  refine WL.want rfl (congrArg Value.bool c_9) ?_
  refine qV rfl (R.lenS (a := ar) (m := nr) rfl rfl underlying50) ?_
  refine WL.want rfl (congrArg Value.bool c_9) ?_
  refine qV rfl (R.bin rfl rfl (bi_gtr (r := decide ((((nr : Nat) : Int) : Int) > 6)) rfl)) (qV rfl (R.pickF (v := (.bool (decide ((((nr : Nat) : Int) : Int) > 6)))) (congrArg Value.bool c_9) rfl) ?_)
  refine WL.nil (thn_n ?_)
  refine WP.cond (b := decide ((((nr : Nat) : Int) : Int) > 6)) rfl (fun c_13 => ?_) (fun c_13 => ?_)
  ·have p_14 := of_decide_eq_true c_13
   refine WP.seq (WP.reg ?_)
   refine WL.call Try.call22 rfl rfl (c_known05  _ ) rfl ?_
   rintro _ w_16 ⟨rfl, hc_15⟩
   have h_17 := h_8.same hc_15
   refine qA (.bool true) rfl rfl ?_
   refine WL.nil (thn_n (WP.ret (thn_r ?_)))
   refine ret_of results5 (RV.tmp (v := (.bool true)) rfl RV.nil) ?_
   exact ⟨rfl, h_17.chgS⟩
  ·have p_18 := of_decide_eq_false c_13
   refine WP.skip (thn_n (WP.seq (WP.reg ?_)))
   refine qV rfl (R.loadA [] [(32, ms.map vu8)] [] (cs := ms.map vu8) rfl isAgg23 sizeOf23 (h_8.ok _ M0) rfl rfl rfl rfl) ?_
   have h_19 := HP_viewNil h_8
   refine WL.call Try.call17 rfl rfl (c_ONew false ms ([] : List UInt8) hms none 0 0 (rfl : List.length ([] : List UInt8) = 32 * 0) (by decide) _ h_19) rfl ?_
   rintro _ w_24 ⟨b_20, b_21, a_22, c_23, rfl, h_25⟩
   refine qA (pO b_20 0) rfl rfl ?_
   refine WL.nil (thn_n (WP.seq (WP.seq (WP.reg ?_))))
   refine qA (vi 0) rfl rfl ?_
   refine WL.nil (thn_n (WP.block ?_))
   have h_35 := (((((((((h_25.up J5).drop rfl).up J5).up J6).up J7).up J7).up J7).up J7).up J7).up J7
   refine WP.loopG (G := Nat × Option Addr × Nat × List Value) [4, 6, 30, 31, 32, 33, 34, 35, 36, 37, 38, 39, 40, 41, 42, 43, 44, 45, 46, 47, 48, 49, 50, 51, 52, 53, 54, 55, 56, 57, 58, 59, 60, 61, 62, 63, 64, 65, 66, 67, 68, 69, 70, 71, 72, 73, 74, 75, 76] (fun (k, la2, lc2, lx2) => [(6, (vn k))]) (fun (k, la2, lc2, lx2) m w1 => HP w w1 [.blk b_20 .nw 90 [(1, [(.bool false)]), (32, ms.map vu8), (1, [(.slice a_22 0 c_23)]), (1, [(vn ((brS false ([] : List UInt8) 0 ms es k).1))]), (1, [(.map (some b_21))]), (1, [(.slice la2 ((brS false ([] : List UInt8) 0 ms es k).2.length) lc2)])], .row la2 ((brS false ([] : List UInt8) 0 ms es k).2.length) lc2 64 67 lx2, .obj b_21 .nw (.map (mArr ((brS false ([] : List UInt8) 0 ms es k).2)) ((brS false ([] : List UInt8) 0 ms es k).2.length)), .pin (sblks lx2) (fun w => Lgs w lx2 ((brS false ([] : List UInt8) 0 ms es k).2)), .view a_22 (([] : List UInt8).map vu8), .view ar (aesC es), .pin (akBs es) (fun w => Aks w es), .blk b_1 .nw 23 [(32, ms.map vu8)]] ∧ (k ≤ nr) ∧ m = nr + 1 - k) ⟨(0, none, 0, []), _, ⟨rfl, trivial⟩, h_35, Nat.zero_le _, rfl⟩ ?_
   rintro ⟨k, la2, lc2, lx2⟩ m_38 J_39 w_36 ⟨h_37, hkn, rfl⟩
   have hsuk := brS_u (id := false) (df := ([] : List UInt8)) (dn := 0) (ms := ms) (es := es) k
   have hslk := brS_l (id := false) (df := ([] : List UInt8)) (dn := 0) (ms := ms) (es := es) k
   have hs32k := brS_32 (id := false) (ms := ms) (es := es) (df := ([] : List UInt8)) (dn := 0) rfl k
   refine WP.seq (WP.seq (WP.reg ?_))
   refine qM (vn k) rfl rfl (qM (.slice ar nr cr) rfl rfl (qV rfl (R.lenS (a := ar) (m := nr) rfl rfl underlying50) (qV rfl (R.bin rfl rfl (bi_lss (r := decide ((((k : Nat) : Int) : Int) < ((nr : Nat) : Int))) rfl)) ?_)))
   refine WL.nil (thn_n ?_)
   refine WP.cond (b := decide ((((k : Nat) : Int) : Int) < ((nr : Nat) : Int))) rfl (fun c_40 => ?_) (fun c_40 => ?_)
   ·have p_41 := of_decide_eq_true c_40
    refine WP.skip (thn_n (WP.seq (WP.block (WP.seq (WP.seq ?_)))))
    have hlk : k < es.length := by omega
    have hrk : okAe (es.getD k zAe) := hes _ (getD_mem hlk)
    have hrck : (es.getD k zAe).data.length ≤ (es.getD k zAe).c := hrk.2.1
    have h_42 := h_37.within (e' := .view (es.getD k zAe).a (((es.getD k zAe).data).map vu8)) M6 rfl (View.arg (ae_v (h_37.ok _ M6).1 hlk)) rfl rfl (ae_b hlk)
    have hd3 := hd_5 c_9
    have hdk : (es.getD k zAe).data.length ≤ 300 := hd3.2 k hlk
    have hdf : [(es.getD k zAe).data].flatten.length = (es.getD k zAe).data.length := by simp
    refine WP.reg ?_
    refine qM (.slice ar nr cr) rfl rfl (qM (vn k) rfl rfl (qV rfl (R.indexS (a := ar) (i := k) (off := k * 37) (xs := aesC es) rfl rfl rfl (by omega) (viewV (h_42.ok _ M6)) (by rw [aesC_len hes]; omega) underlying50 sizeOf58 rfl) (qV rfl (R.fieldG (a := ar) (i := k * 37) (off' := k * 37) rfl underlying58 rfl sizeOf3 rfl rfl) (qV rfl (R.loadG rfl (viewV (h_42.ok _ M6)) isAgg3 (ae_0 hes hlk)) (qV rfl (R.bin rfl rfl (bi_eql (r := decide (((es.getD k zAe).k : Int) = 2)) rfl)) ?_)))))
    refine WL.nil (thn_n ?_)
    refine WP.cond (b := decide (((es.getD k zAe).k : Int) = 2)) rfl (fun c_43 => ?_) (fun c_43 => ?_)
    ·have p_44 := of_decide_eq_true c_43
     refine WP.seq (WP.reg ?_)
     refine WL.call Try.call22 rfl rfl (c_known05  _ ) rfl ?_
     rintro _ w_46 ⟨rfl, hc_45⟩
     have h_47 := h_42.same hc_45
     refine qA (.bool true) rfl rfl ?_
     refine WL.nil (thn_n (WP.ret (thn_r (inb_r (thn_r (thn_r (inb_r (thn_r ?_))))))))
     refine ret_of results5 (RV.tmp (v := (.bool true)) rfl RV.nil) ?_
     exact ⟨rfl, h_47.chgS⟩
    ·have p_48 := of_decide_eq_false c_43
     refine WP.skip (thn_n (WP.seq (WP.seq (WP.reg ?_))))
     refine qM (.slice ar nr cr) rfl rfl (qM (vn k) rfl rfl (qV rfl (R.indexS (a := ar) (i := k) (off := k * 37) (xs := aesC es) rfl rfl rfl (by omega) (viewV (h_42.ok _ M6)) (by rw [aesC_len hes]; omega) underlying50 sizeOf58 rfl) (qV rfl (R.fieldG (a := ar) (i := k * 37) (off' := k * 37) rfl underlying58 rfl sizeOf3 rfl rfl) (qV rfl (R.loadG rfl (viewV (h_42.ok _ M6)) isAgg3 (ae_0 hes hlk)) (qV rfl (R.bin rfl rfl (bi_eql (r := decide (((es.getD k zAe).k : Int) = 1)) rfl)) ?_)))))
     refine WL.nil (thn_n ?_)
     refine WP.cond (b := decide (((es.getD k zAe).k : Int) = 1)) rfl (fun c_49 => ?_) (fun c_49 => ?_)
     ·have p_50 := of_decide_eq_true c_49
      refine WP.reg ?_
      refine qM (pO b_20 0) rfl rfl (qM (.slice ar nr cr) rfl rfl (qM (vn k) rfl rfl (qV rfl (R.indexS (a := ar) (i := k) (off := k * 37) (xs := aesC es) rfl rfl rfl (by omega) (viewV (h_42.ok _ M6)) (by rw [aesC_len hes]; omega) underlying50 sizeOf58 rfl) (qV rfl (R.fieldG (a := ar) (i := k * 37) (off' := k * 37 + 2) rfl underlying58 rfl sizeOf56 rfl rfl) (qV rfl (R.loadGA (a := ar) (i := k * 37 + 2) (xs := aesC es) (cs := flat [(1, [(vi ((es.getD k zAe).kd))]), (32, ((es.getD k zAe).key).map vu8), (1, [(vi ((es.getD k zAe).dm))]), (1, [(.slice ((es.getD k zAe).a) ((es.getD k zAe).data.length) ((es.getD k zAe).c))])]) rfl (viewV (h_42.ok _ M6)) isAgg56 sizeOf56 (ae_q hes hlk) ((sC sV (sC (s8 hrk.1) (sC sV (sC sV sN))))).len (by decide)) ?_)))))
      have h_55 := ((((h_42.up J5).up J5).up J5).up J5).up J5
      refine WL.call Try.call23 rfl rfl (c_oAskG false b_20 b_21 ms ([] : List UInt8) hms a_22 0 c_23 ((brS false ([] : List UInt8) 0 ms es k).1) (rfl : List.length ([] : List UInt8) = 32 * 0) la2 lc2 lx2 ((brS false ([] : List UInt8) 0 ms es k).2) (by first | decide | omega) (by first | decide | omega) ((es.getD k zAe).kd) ((es.getD k zAe).dm) ((es.getD k zAe).key) ((es.getD k zAe).data) ((es.getD k zAe).a) ((es.getD k zAe).data.length) ((es.getD k zAe).c) hrk.1 (rfl : List.length ((es.getD k zAe).data) = (es.getD k zAe).data.length) (by omega) _ h_55) rfl ?_
      rintro _ w_59 ⟨la_56, lc_57, lx_58, rfl, h_60⟩
      refine WL.nil (thn_n (WP.seq (WP.reg ?_)))
      refine qM (.slice ar nr cr) rfl rfl (qM (vn k) rfl rfl (qV rfl (R.indexS (a := ar) (i := k) (off := k * 37) (xs := aesC es) rfl rfl rfl (by omega) (viewV (h_60.ok _ M6)) (by rw [aesC_len hes]; omega) underlying50 sizeOf58 rfl) (qV rfl (R.fieldG (a := ar) (i := k * 37) (off' := k * 37) rfl underlying58 rfl sizeOf3 rfl rfl) (qV rfl (R.loadG rfl (viewV (h_60.ok _ M6)) isAgg3 (ae_0 hes hlk)) (qV rfl (R.bin rfl rfl (bi_eql (r := decide (((es.getD k zAe).k : Int) = 5)) rfl)) ?_)))))
      refine WL.nil (thn_n ?_)
      refine WP.condF (congrArg Value.bool (decide_eq_false (by omega))) ?_
      refine WP.skip (inb_n (thn_n (WP.reg ?_)))
      refine qM (vn k) rfl rfl (qV rfl (R.bin rfl rfl (bi_add (c := ((k + 1 : Nat) : Int)) (by omega) (by omega))) (qA (vn (k + 1)) rfl rfl ?_))
      refine WL.nil (thn_n ?_)
      have h_70 := (((((((((h_60.up J5).drop rfl).up J7).up J7).up J7).up J7).up J7).up J7).up J7).up J7
      exact ⟨(k + 1, la_56, lc_57, lx_58), _, (by omega), (U4 rfl rfl rfl rfl (U4 rfl rfl rfl rfl (U4 rfl rfl rfl rfl (U4 rfl rfl rfl rfl (U4 rfl rfl rfl rfl (U4 rfl rfl rfl rfl (U4 rfl rfl rfl rfl (U4 rfl rfl rfl rfl (Ag.updL rfl (Ag.mix _ _ _)))))))))), ⟨rfl, trivial⟩, (by rw [brS_1 p_50]; exact h_70), (by omega), rfl⟩
     ·have p_71 := of_decide_eq_false c_49
      refine WP.skip (thn_n (WP.seq (WP.reg ?_)))
      refine qM (.slice ar nr cr) rfl rfl (qM (vn k) rfl rfl (qV rfl (R.indexS (a := ar) (i := k) (off := k * 37) (xs := aesC es) rfl rfl rfl (by omega) (viewV (h_42.ok _ M6)) (by rw [aesC_len hes]; omega) underlying50 sizeOf58 rfl) (qV rfl (R.fieldG (a := ar) (i := k * 37) (off' := k * 37) rfl underlying58 rfl sizeOf3 rfl rfl) (qV rfl (R.loadG rfl (viewV (h_42.ok _ M6)) isAgg3 (ae_0 hes hlk)) (qV rfl (R.bin rfl rfl (bi_eql (r := decide (((es.getD k zAe).k : Int) = 5)) rfl)) ?_)))))
      refine WL.nil (thn_n ?_)
      refine WP.cond (b := decide (((es.getD k zAe).k : Int) = 5)) rfl (fun c_72 => ?_) (fun c_72 => ?_)
      ·have p_73 := of_decide_eq_true c_72
       refine WP.drawT (SL w.heap.size [.view ((es.getD k zAe).a) (((es.getD k zAe).data).map vu8), .view ar (aesC es), .pin (akBs es) (fun w => Aks w es), .blk b_1 .nw 23 [(32, ms.map vu8)]]) (.q 0 (.q 1 (.q 2 (.q 3 (.q 4 (.q 5 (.q 6 (.q 7 (.q 8 (.q 9 (.q 10 (.q 11 (.q 12 (.s 13 (.s 14 .nil))))))))))))))) (by kernel_rfl) (by kernel_rfl) rfl (by kernel_rfl) (fun w_74 hc_76 => (SL.cons ((h_42.same hc_76).ok _ M0) (SL.cons ((h_42.same hc_76).ok _ M6) (SL.cons ((h_42.same hc_76).ok _ M7) (SL.cons ((h_42.same hc_76).ok _ M8) (SL.nil _ _)))))) (fun w_74 hc_76 => ?_)
       have h_75 := h_42.same hc_76
       refine qT rfl rfl (fun wq hS => R.move (v := (pO b_20 0)) rfl) ?_
       refine qT rfl rfl (fun wq hS => R.move (v := (.slice ar nr cr)) rfl) ?_
       refine qT rfl rfl (fun wq hS => R.move (v := (vn k)) rfl) ?_
       refine qT rfl rfl (fun wq hS => R.indexS (a := ar) (i := k) (off := k * 37) (xs := aesC es) rfl rfl rfl (by omega) (viewV (hS _ M1)) (by rw [aesC_len hes]; omega) underlying50 sizeOf58 rfl) ?_
       refine qT rfl rfl (fun wq hS => R.fieldG (a := ar) (i := k * 37) (off' := k * 37 + 2) rfl underlying58 rfl sizeOf56 rfl rfl) ?_
       refine qT rfl rfl (fun wq hS => R.fieldG (a := ar) (i := k * 37 + 2) (off' := k * 37 + 2 + 33) rfl underlying56 rfl sizeOf53 rfl rfl) ?_
       refine qT rfl rfl (fun wq hS => R.loadG rfl (viewV (hS _ M1)) isAgg53 (ae_35 hes hlk)) ?_
       refine qT rfl rfl (fun wq hS => R.move (v := (.slice ar nr cr)) rfl) ?_
       refine qT rfl rfl (fun wq hS => R.move (v := (vn k)) rfl) ?_
       refine qT rfl rfl (fun wq hS => R.indexS (a := ar) (i := k) (off := k * 37) (xs := aesC es) rfl rfl rfl (by omega) (viewV (hS _ M1)) (by rw [aesC_len hes]; omega) underlying50 sizeOf58 rfl) ?_
       refine qT rfl rfl (fun wq hS => R.fieldG (a := ar) (i := k * 37) (off' := k * 37 + 2) rfl underlying58 rfl sizeOf56 rfl rfl) ?_
       refine qT rfl rfl (fun wq hS => R.fieldG (a := ar) (i := k * 37 + 2) (off' := k * 37 + 2 + 34) rfl underlying56 rfl sizeOf54 rfl rfl) ?_
       refine qT rfl rfl (fun wq hS => R.loadG rfl (viewV (hS _ M1)) isAgg54 (ae_36 hes hlk)) ?_
       refine WT.s (oN rfl ?_)
       refine WL.buildSl (vs := [(0, (.slice ((es.getD k zAe).a) ((es.getD k zAe).data.length) ((es.getD k zAe).c)))]) (cs := [(.slice ((es.getD k zAe).a) ((es.getD k zAe).data.length) ((es.getD k zAe).c))]) h_75 underlying101 sizeOf54 (zv typeInfo54 rfl) rfl rfl (by kernel_rfl) rfl (by simp [Value.oneCell']) rfl rfl (fun b_77 w_78 h_79 => ?_)
       refine WL.nil ?_
       refine ⟨(SL.cons (h_79.ok _ M1) (SL.cons (h_79.ok _ M7) (SL.cons (h_79.ok _ M8) (SL.cons (h_79.ok _ M9) (SL.nil _ _))))), ?_⟩
       refine WT.s (oN rfl ?_)
       have h_80 := HP_blkView h_79
       have hbl_81 : ∀ b ∈ sblks [(.slice ((es.getD k zAe).a) ((es.getD k zAe).data.length) ((es.getD k zAe).c))], ∃ e ∈ ([.view (some ⟨b_77, 0, none⟩) [(.slice ((es.getD k zAe).a) ((es.getD k zAe).data.length) ((es.getD k zAe).c))], .view ((es.getD k zAe).a) (((es.getD k zAe).data).map vu8), .blk b_20 .nw 90 [(1, [(.bool false)]), (32, ms.map vu8), (1, [(.slice a_22 0 c_23)]), (1, [(vi (((brS false ([] : List UInt8) 0 ms es k).1 : Nat) : Int))]), (1, [(.map (some b_21))]), (1, [(.slice la2 ((brS false ([] : List UInt8) 0 ms es k).2.length) lc2)])], .row la2 ((brS false ([] : List UInt8) 0 ms es k).2.length) lc2 64 67 lx2, .obj b_21 .nw (.map (mArr ((brS false ([] : List UInt8) 0 ms es k).2)) ((brS false ([] : List UInt8) 0 ms es k).2.length)), .pin (sblks lx2) (fun w => Lgs w lx2 ((brS false ([] : List UInt8) 0 ms es k).2)), .view a_22 (([] : List UInt8).map vu8), .view ar (aesC es), .pin (akBs es) (fun w => Aks w es), .blk b_1 .nw 23 [(32, ms.map vu8)]] : List Ent), e.mut = false ∧ b ∈ e.blocks := by
        intro b hb
        rcases List.mem_append.1 hb with hb | hb
        ·exact ⟨_, M1, rfl, sblk_in_view (rfl : List.length ((es.getD k zAe).data) = (es.getD k zAe).data.length) b hb⟩
        cases hb
       have h_82 := HP_within (e' := .pin (sblks [(.slice ((es.getD k zAe).a) ((es.getD k zAe).data.length) ((es.getD k zAe).c))]) (fun w => Sls w [(.slice ((es.getD k zAe).a) ((es.getD k zAe).data.length) ((es.getD k zAe).c))] [(es.getD k zAe).data])) h_80 (Sls.pin (Sls.cons (rfl : List.length ((es.getD k zAe).data) = (es.getD k zAe).data.length) (by omega) (viewV (h_80.ok _ M1)) Sls.nil)) rfl rfl hbl_81
       have h_89 := ((((((h_82.up J1).up J1).up J7).up J7).up J7).up J7).up J7
       refine WL.call Try.call24 rfl rfl (c_oKeyG false b_20 b_21 ms ([] : List UInt8) hms a_22 0 c_23 ((brS false ([] : List UInt8) 0 ms es k).1) (rfl : List.length ([] : List UInt8) = 32 * 0) la2 lc2 lx2 ((brS false ([] : List UInt8) 0 ms es k).2) (by first | decide | omega) (by first | decide | omega) (some ⟨b_77, 0, none⟩) 1 1 [(.slice ((es.getD k zAe).a) ((es.getD k zAe).data.length) ((es.getD k zAe).c))] [(es.getD k zAe).data] rfl ((es.getD k zAe).dm) (by omega) (by omega) _ h_89) rfl ?_
       rintro _ w_93 ⟨la_90, lc_91, lx_92, rfl, h_94⟩
       refine WL.nil ?_
       refine ⟨(SL.cons (h_94.ok _ M7) (SL.cons (h_94.ok _ M8) (SL.cons (h_94.ok _ M9) (SL.cons (h_94.ok _ M10) (SL.nil _ _))))), ?_⟩
       refine WT.nil (inb_n (thn_n (WP.reg ?_)))
       refine qM (vn k) rfl rfl (qV rfl (R.bin rfl rfl (bi_add (c := ((k + 1 : Nat) : Int)) (by omega) (by omega))) (qA (vn (k + 1)) rfl rfl ?_))
       refine WL.nil (thn_n ?_)
       have h_108 := (((((((((((((h_94.up J5).drop rfl).up J5).drop rfl).up J5).drop rfl).up J7).up J7).up J7).up J7).up J7).up J7).up J7).up J7
       exact ⟨(k + 1, la_90, lc_91, lx_92), _, (by omega), (U4 rfl rfl rfl rfl (U4 rfl rfl rfl rfl (U4 rfl rfl rfl rfl (U4 rfl rfl rfl rfl (U4 rfl rfl rfl rfl (U4 rfl rfl rfl rfl (U4 rfl rfl rfl rfl (U4 rfl rfl rfl rfl (U4 rfl rfl rfl rfl (U4 rfl rfl rfl rfl (Ag.updL rfl (Ag.mix _ _ _)))))))))))), ⟨rfl, trivial⟩, (by rw [brS_5 p_73]; exact h_108), (by omega), rfl⟩
      ·have p_109 := of_decide_eq_false c_72
       refine WP.skip (inb_n (thn_n (WP.reg ?_)))
       refine qM (vn k) rfl rfl (qV rfl (R.bin rfl rfl (bi_add (c := ((k + 1 : Nat) : Int)) (by omega) (by omega))) (qA (vn (k + 1)) rfl rfl ?_))
       refine WL.nil (thn_n ?_)
       have h_118 := ((((((((h_42.drop rfl).up J7).up J7).up J7).up J7).up J7).up J7).up J7).up J7
       exact ⟨(k + 1, la2, lc2, lx2), _, (by omega), (Ag.upd rfl (U4 rfl rfl rfl rfl (U4 rfl rfl rfl rfl (U4 rfl rfl rfl rfl (U4 rfl rfl rfl rfl (U4 rfl rfl rfl rfl (U4 rfl rfl rfl rfl (Ag.updL rfl (Ag.mix _ _ _))))))))), ⟨rfl, trivial⟩, (by rw [brS_0 p_71 p_109]; exact h_118), (by omega), rfl⟩
   ·have p_119 := of_decide_eq_false c_40
    refine WP.exit (thn_x (thn_x (inb_hit (thn_n (WP.seq (WP.reg ?_))))))
    refine qM (pO b_20 0) rfl rfl ?_
    have h_124 := ((((h_37.up J4).up J4).up J4).up J4).up J4
    refine WL.call Try.call25 rfl rfl (c_oLog false b_20 b_21 ms ([] : List UInt8) hms a_22 0 c_23 ((brS false ([] : List UInt8) 0 ms es k).1) (rfl : List.length ([] : List UInt8) = 32 * 0) la2 lc2 lx2 ((brS false ([] : List UInt8) 0 ms es k).2) (by first | decide | omega) (by first | decide | omega) _ h_124) rfl ?_
    rintro _ w_128 ⟨a_125, c_126, ys_127, rfl, h_129⟩
    refine qA (.slice a_125 ((brS false ([] : List UInt8) 0 ms es k).2.length) c_126) rfl rfl ?_
    refine WL.nil (thn_n (WP.seq (WP.reg ?_)))
    refine qA (.slice none 0 0) rfl rfl ?_
    refine WL.nil (thn_n (WP.seq (WP.seq (WP.reg ?_))))
    refine qA (vi 0) rfl rfl ?_
    refine WL.nil (thn_n (WP.block ?_))
    have hkr : k = nr := by omega
    have h_130 := h_129.rowNil 23 32
    have h_140 := (((((((((h_130.up J2).up J2).up J10).up J10).up J10).up J10).up J10).up J10).up J10).up J10
    refine WP.loopG (G := Nat × Option Addr × Nat) [8, 9, 79, 80, 81, 82, 83, 84, 85, 86, 87, 88, 89, 90, 91, 92] (fun (g, aa, ca) => [(8, (.slice aa g ca)), (9, (vn g))]) (fun (g, aa, ca) m w1 => HP w w1 [.blk b_20 .nw 90 [(1, [(.bool false)]), (32, ms.map vu8), (1, [(.slice a_22 0 c_23)]), (1, [(vn ((brS false ([] : List UInt8) 0 ms es k).1))]), (1, [(.map (some b_21))]), (1, [(.slice la2 ((brS false ([] : List UInt8) 0 ms es k).2.length) lc2)])], .row la2 ((brS false ([] : List UInt8) 0 ms es k).2.length) lc2 64 67 lx2, .obj b_21 .nw (.map (mArr ((brS false ([] : List UInt8) 0 ms es k).2)) ((brS false ([] : List UInt8) 0 ms es k).2.length)), .pin (sblks lx2) (fun w => Lgs w lx2 ((brS false ([] : List UInt8) 0 ms es k).2)), .view a_22 (([] : List UInt8).map vu8), .view ar (aesC es), .pin (akBs es) (fun w => Aks w es), .blk b_1 .nw 23 [(32, ms.map vu8)], .row a_125 ((brS false ([] : List UInt8) 0 ms es k).2.length) c_126 64 67 ys_127, .pin (sblks ys_127) (fun w => Lgs w ys_127 ((brS false ([] : List UInt8) 0 ms es k).2)), .row aa g ca 23 32 ((ansB (brS false ([] : List UInt8) 0 ms es k).2 g).map vu8)] ∧ (g ≤ (brS false ([] : List UInt8) 0 ms es k).2.length) ∧ m = (brS false ([] : List UInt8) 0 ms es k).2.length + 1 - g) ⟨(0, none, 0), _, ⟨rfl, rfl, trivial⟩, h_140, Nat.zero_le _, rfl⟩ ?_
    rintro ⟨g, aa, ca⟩ m_143 J_144 w_141 ⟨h_142, hgn, rfl⟩
    refine WP.seq (WP.seq (WP.reg ?_))
    refine qM (vn g) rfl rfl (qM (.slice a_125 ((brS false ([] : List UInt8) 0 ms es k).2.length) c_126) rfl rfl (qV rfl (R.lenS (a := a_125) (m := (brS false ([] : List UInt8) 0 ms es k).2.length) rfl rfl underlying61) (qV rfl (R.bin rfl rfl (bi_lss (r := decide ((((g : Nat) : Int) : Int) < (((brS false ([] : List UInt8) 0 ms es k).2.length : Nat) : Int))) rfl)) ?_)))
    refine WL.nil (thn_n ?_)
    refine WP.cond (b := decide ((((g : Nat) : Int) : Int) < (((brS false ([] : List UInt8) 0 ms es k).2.length : Nat) : Int))) rfl (fun c_145 => ?_) (fun c_145 => ?_)
    ·have p_146 := of_decide_eq_true c_145
     refine WP.skip (thn_n (WP.seq (WP.block ?_)))
     have hlg : g < (brS false ([] : List UInt8) 0 ms es k).2.length := by omega
     have hlx := (h_142.ok _ M9).1
     refine WP.reg ?_
     refine qM (.slice aa g ca) rfl rfl (qM (.slice a_125 ((brS false ([] : List UInt8) 0 ms es k).2.length) c_126) rfl rfl (qM (vn g) rfl rfl (qV rfl (R.indexS (a := a_125) (i := g) (off := g * 67) (xs := ys_127) rfl rfl rfl (by omega) (ownView (h_142.ok _ M8)) (by rw [Lgs.len hlx]; omega) underlying61 sizeOf64 rfl) (qV rfl (R.fieldG (a := a_125) (i := g * 67) (off' := g * 67 + 35) rfl underlying64 rfl sizeOf23 rfl rfl) (qV rfl (R.loadGA (a := a_125) (i := g * 67 + 35) (xs := ys_127) (cs := ((((brS false ([] : List UInt8) 0 ms es k).2).getD g ((0, [], 0, []), [])).2).map vu8) rfl (ownView (h_142.ok _ M8)) isAgg23 sizeOf23 (Lgs.ans (z := ((0, [], 0, []), [])) hlx (i := g) hlg).1 (len_map (Lgs.ans (z := ((0, [], 0, []), [])) hlx (i := g) hlg).2) (by decide)) ?_)))))
     refine WL.buildSl (vs := [(0, (.agg ⟨((((brS false ([] : List UInt8) 0 ms es k).2).getD g ((0, [], 0, []), [])).2).map vu8⟩))]) (cs := ((((brS false ([] : List UInt8) 0 ms es k).2).getD g ((0, [], 0, []), [])).2).map vu8) h_142 underlying24 sizeOf23 (zv typeInfo23 rfl) rfl rfl (fill_d (by kernel_rfl) ((Lgs.ans (z := ((0, [], 0, []), [])) hlx (i := g) hlg).2)) (len_map ((Lgs.ans (z := ((0, [], 0, []), [])) hlx (i := g) hlg).2)) (one_u8 _) rfl rfl (fun b_147 w_148 h_149 => ?_)
     refine WL.append (km := g + 1) (xs := (ansB (brS false ([] : List UInt8) 0 ms es k).2 g).map vu8) (ys := ((((brS false ([] : List UInt8) 0 ms es k).2).getD g ((0, [], 0, []), [])).2).map vu8) (zs := (ansB (brS false ([] : List UInt8) 0 ms es k).2 (g + 1)).map vu8) h_149 rfl rfl el24 (viewB (h_149.ok _ M0) Sg.h) (len_map ((Lgs.ans (z := ((0, [], 0, []), [])) hlx (i := g) hlg).2)) (one_u8 _) (by rw [ansB_succ (z := ((0, [], 0, []), [])) hlg, List.map_append]) (by omega) (by omega) (by omega) (fun _ _ => Y11) rfl (fun a_150 c_151 w_152 h_153 => ?_)
     refine qA (.slice a_150 (g + 1) c_151) rfl rfl ?_
     refine WL.nil (inb_n (thn_n (WP.reg ?_)))
     refine qM (vn g) rfl rfl (qV rfl (R.bin rfl rfl (bi_add (c := ((g + 1 : Nat) : Int)) (by omega) (by omega))) (qA (vn (g + 1)) rfl rfl ?_))
     refine WL.nil (thn_n ?_)
     have h_165 := (((((((((((h_153.drop rfl).up J10).up J10).up J10).up J10).up J10).up J10).up J10).up J10).up J10).up J10).up J10
     exact ⟨(g + 1, a_150, c_151), _, (by omega), (U4 rfl rfl rfl rfl (U4 rfl rfl rfl rfl (U4 rfl rfl rfl rfl (U4 rfl rfl rfl rfl (Ag.updL rfl (Ag.mix _ _ _)))))), ⟨rfl, rfl, trivial⟩, h_165, (by omega), rfl⟩
    ·have p_166 := of_decide_eq_false c_145
     refine WP.exit (thn_x (thn_x (inb_hit (thn_n (WP.seq (WP.reg ?_))))))
     refine qV rfl (R.loadA [] [(32, ms.map vu8)] [] (cs := ms.map vu8) rfl isAgg23 sizeOf23 (h_142.ok _ M7) rfl rfl rfl rfl) (qM (.slice aa g ca) rfl rfl ?_)
     have h_167 := h_142.up J10
     have h_168 := h_167.rowView
     refine WL.call Try.call17 rfl rfl (c_ONew true ms (ansB (brS false ([] : List UInt8) 0 ms es k).2 g) hms aa g ca (ansB_len hs32k (by omega)) (by omega) _ h_168) rfl ?_
     rintro _ w_173 ⟨b_169, b_170, a_171, c_172, rfl, h_174⟩
     refine qA (pO b_169 0) rfl rfl ?_
     refine WL.nil (thn_n (WP.seq (WP.seq (WP.reg ?_))))
     refine qA (vi 0) rfl rfl ?_
     refine WL.nil (thn_n (WP.block ?_))
     have hgl : g = (brS false ([] : List UInt8) 0 ms es k).2.length := by omega
     have hgd : (ansB (brS false ([] : List UInt8) 0 ms es k).2 g).length = 32 * g := ansB_len hs32k (by omega)
     have h_192 := (((((((((((((((((h_174.up J5).drop rfl).up J12).drop rfl).up J13).up J13).up J13).up J13).up J8).up J8).up J8).up J8).up J8).up J13).up J13).up J13).up J13).up J13
     refine WP.loopG (G := Nat × Option Addr × Nat × List Value × Option Addr × Nat × List Value) [4, 11, 12, 13, 14, 15, 16, 17, 18, 19, 96, 97, 98, 99, 100, 101, 102, 103, 104, 105, 106, 107, 108, 109, 110, 111, 112, 113, 114, 115, 116, 117, 118, 119, 120, 121, 122, 123, 124, 125, 126, 127, 128, 129, 130, 131, 132, 133, 134, 135, 136, 137, 138, 139, 140, 141, 142, 143, 144, 145, 146, 147, 148, 149, 150, 151, 152, 153, 154, 155, 156, 157, 158, 159, 160, 161, 162, 163, 164, 165, 166, 167, 168, 169, 170, 171, 172, 173, 174, 175, 176, 177, 178, 179, 180, 181, 182, 183, 184, 185] (fun (i, la3, lc3, lx3, la4, lc4, lx4) => [(11, (vn i))]) (fun (i, la3, lc3, lx3, la4, lc4, lx4) m w1 => HP w w1 [.blk b_20 .nw 90 [(1, [(.bool false)]), (32, ms.map vu8), (1, [(.slice a_22 0 c_23)]), (1, [(vn ((brS false ([] : List UInt8) 0 ms es k).1))]), (1, [(.map (some b_21))]), (1, [(.slice la3 ((brS false ([] : List UInt8) 0 ms es k).2.length) lc3)])], .row la3 ((brS false ([] : List UInt8) 0 ms es k).2.length) lc3 64 67 lx3, .obj b_21 .nw (.map (mArr ((brS false ([] : List UInt8) 0 ms es k).2)) ((brS false ([] : List UInt8) 0 ms es k).2.length)), .pin (sblks lx3) (fun w => Lgs w lx3 ((brS false ([] : List UInt8) 0 ms es k).2)), .view a_22 (([] : List UInt8).map vu8), .blk b_169 .nw 90 [(1, [(.bool true)]), (32, ms.map vu8), (1, [(.slice a_171 g c_172)]), (1, [(vn ((brS true (ansB (brS false ([] : List UInt8) 0 ms es k).2 g) g ms es i).1))]), (1, [(.map (some b_170))]), (1, [(.slice la4 ((brS true (ansB (brS false ([] : List UInt8) 0 ms es k).2 g) g ms es i).2.length) lc4)])], .row la4 ((brS true (ansB (brS false ([] : List UInt8) 0 ms es k).2 g) g ms es i).2.length) lc4 64 67 lx4, .obj b_170 .nw (.map (mArr ((brS true (ansB (brS false ([] : List UInt8) 0 ms es k).2 g) g ms es i).2)) ((brS true (ansB (brS false ([] : List UInt8) 0 ms es k).2 g) g ms es i).2.length)), .pin (sblks lx4) (fun w => Lgs w lx4 ((brS true (ansB (brS false ([] : List UInt8) 0 ms es k).2 g) g ms es i).2)), .view a_171 ((ansB (brS false ([] : List UInt8) 0 ms es k).2 g).map vu8), .view ar (aesC es), .pin (akBs es) (fun w => Aks w es), .row a_125 ((brS false ([] : List UInt8) 0 ms es k).2.length) c_126 64 67 ys_127, .pin (sblks ys_127) (fun w => Lgs w ys_127 ((brS false ([] : List UInt8) 0 ms es k).2))] ∧ (i ≤ nr) ∧ m = nr + 1 - i) ⟨(0, la2, lc2, lx2, none, 0, []), _, ⟨rfl, trivial⟩, h_192, Nat.zero_le _, rfl⟩ ?_
     rintro ⟨i, la3, lc3, lx3, la4, lc4, lx4⟩ m_195 J_196 w_193 ⟨h_194, hin, rfl⟩
     have hsui := brS_u (id := true) (df := ansB (brS false ([] : List UInt8) 0 ms es k).2 g) (dn := g) (ms := ms) (es := es) i
     have hsli := brS_l (id := true) (df := ansB (brS false ([] : List UInt8) 0 ms es k).2 g) (dn := g) (ms := ms) (es := es) i
     have hs32i := brS_32 (id := true) (ms := ms) (es := es) hgd i
     refine WP.seq (WP.seq (WP.reg ?_))
     refine qM (vn i) rfl rfl (qM (.slice ar nr cr) rfl rfl (qV rfl (R.lenS (a := ar) (m := nr) rfl rfl underlying50) (qV rfl (R.bin rfl rfl (bi_lss (r := decide ((((i : Nat) : Int) : Int) < ((nr : Nat) : Int))) rfl)) ?_)))
     refine WL.nil (thn_n ?_)
     refine WP.cond (b := decide ((((i : Nat) : Int) : Int) < ((nr : Nat) : Int))) rfl (fun c_197 => ?_) (fun c_197 => ?_)
     ·have p_198 := of_decide_eq_true c_197
      refine WP.skip (thn_n (WP.seq (WP.block (WP.seq (WP.seq ?_)))))
      have hli : i < es.length := by omega
      have hri : okAe (es.getD i zAe) := hes _ (getD_mem hli)
      have hrci : (es.getD i zAe).data.length ≤ (es.getD i zAe).c := hri.2.1
      have h_199 := h_194.within (e' := .view (es.getD i zAe).a (((es.getD i zAe).data).map vu8)) M11 rfl (View.arg (ae_v (h_194.ok _ M11).1 hli)) rfl rfl (ae_b hli)
      have hdi : (es.getD i zAe).data.length ≤ 300 := (hd_5 c_9).2 i hli
      have hdfi : [(es.getD i zAe).data].flatten.length = (es.getD i zAe).data.length := by simp
      refine WP.reg ?_
      refine qM (.slice ar nr cr) rfl rfl (qM (vn i) rfl rfl (qV rfl (R.indexS (a := ar) (i := i) (off := i * 37) (xs := aesC es) rfl rfl rfl (by omega) (viewV (h_199.ok _ M11)) (by rw [aesC_len hes]; omega) underlying50 sizeOf58 rfl) (qV rfl (R.fieldG (a := ar) (i := i * 37) (off' := i * 37) rfl underlying58 rfl sizeOf3 rfl rfl) (qV rfl (R.loadG rfl (viewV (h_199.ok _ M11)) isAgg3 (ae_0 hes hli)) (qV rfl (R.bin rfl rfl (bi_eql (r := decide (((es.getD i zAe).k : Int) = 1)) rfl)) ?_)))))
      refine WL.nil (thn_n ?_)
      refine WP.cond (b := decide (((es.getD i zAe).k : Int) = 1)) rfl (fun c_200 => ?_) (fun c_200 => ?_)
      ·have p_201 := of_decide_eq_true c_200
       refine WP.seq ?_
       have hib : isB (es.getD i zAe) := .inl p_201
       have hiq : bqQ ms (es.getD i zAe) = ((es.getD i zAe).kd, (es.getD i zAe).key, (es.getD i zAe).dm, (es.getD i zAe).data) := by rw [bqQ, if_pos p_201]
       have hik : i < k := by omega
       have hold := br_old (id := false) (df := ([] : List UInt8)) (dn := 0) hik hib hiq
       have hbv := br_val hgl hik hib hiq
       refine WP.reg ?_
       refine qM (pO b_20 0) rfl rfl (qM (.slice ar nr cr) rfl rfl (qM (vn i) rfl rfl (qV rfl (R.indexS (a := ar) (i := i) (off := i * 37) (xs := aesC es) rfl rfl rfl (by omega) (viewV (h_199.ok _ M11)) (by rw [aesC_len hes]; omega) underlying50 sizeOf58 rfl) (qV rfl (R.fieldG (a := ar) (i := i * 37) (off' := i * 37 + 2) rfl underlying58 rfl sizeOf56 rfl rfl) (qV rfl (R.loadGA (a := ar) (i := i * 37 + 2) (xs := aesC es) (cs := flat [(1, [(vi ((es.getD i zAe).kd))]), (32, ((es.getD i zAe).key).map vu8), (1, [(vi ((es.getD i zAe).dm))]), (1, [(.slice ((es.getD i zAe).a) ((es.getD i zAe).data.length) ((es.getD i zAe).c))])]) rfl (viewV (h_199.ok _ M11)) isAgg56 sizeOf56 (ae_q hes hli) ((sC sV (sC (s8 hri.1) (sC sV (sC sV sN))))).len (by decide)) ?_)))))
       have h_206 := ((((h_199.up J5).up J5).up J5).up J5).up J5
       refine WL.call Try.call23 rfl rfl (c_oAskG false b_20 b_21 ms ([] : List UInt8) hms a_22 0 c_23 ((brS false ([] : List UInt8) 0 ms es k).1) (rfl : List.length ([] : List UInt8) = 32 * 0) la3 lc3 lx3 ((brS false ([] : List UInt8) 0 ms es k).2) (by first | decide | omega) (by first | decide | omega) ((es.getD i zAe).kd) ((es.getD i zAe).dm) ((es.getD i zAe).key) ((es.getD i zAe).data) ((es.getD i zAe).a) ((es.getD i zAe).data.length) ((es.getD i zAe).c) hri.1 (rfl : List.length ((es.getD i zAe).data) = (es.getD i zAe).data.length) (by omega) _ h_206) rfl ?_
       rintro _ w_210 ⟨la_207, lc_208, lx_209, rfl, h_211⟩
       refine qM (.tuple [(.agg ⟨(gD false ([] : List UInt8) 0 ((brS false ([] : List UInt8) 0 ms es k).1) ((brS false ([] : List UInt8) 0 ms es k).2) ((es.getD i zAe).kd, (es.getD i zAe).key, (es.getD i zAe).dm, ((es.getD i zAe).data))).map vu8⟩), (vi (gE ((es.getD i zAe).kd, (es.getD i zAe).key, (es.getD i zAe).dm, ((es.getD i zAe).data))))].toArray) rfl rfl (qV rfl (R.extract rfl rfl) (qV rfl (R.extract rfl rfl) ?_))
       refine WL.alloc (segs := [(32, (zB 32).map vu8)]) h_211 (zv typeInfo23 rfl) rfl (sC (s8 lr) sN) rfl (fun b_212 w_213 h_214 => ?_)
       refine WL.storeA [] [(32, (zB 32).map vu8)] [(32, (gD false ([] : List UInt8) 0 ((brS false ([] : List UInt8) 0 ms es k).1) ((brS false ([] : List UInt8) 0 ms es k).2) ((es.getD i zAe).kd, (es.getD i zAe).key, (es.getD i zAe).dm, ((es.getD i zAe).data))).map vu8)] [] h_214 rfl rfl sizeOf23 At.h (by decide) rfl rfl rfl rfl rfl rfl (sC (s8 (gD_len (rfl : List.length ([] : List UInt8) = 32 * 0) hs32k)) sN) (fun w_215 h_216 => ?_)
       refine qA (vi (gE ((es.getD i zAe).kd, (es.getD i zAe).key, (es.getD i zAe).dm, ((es.getD i zAe).data)))) rfl rfl ?_
       refine WL.nil (thn_n (WP.seq ?_))
       have h_217 : HP w w_215 [.blk b_212 .nw 23 [(32, (gD false ([] : List UInt8) 0 ((brS false ([] : List UInt8) 0 ms es k).1) ((brS false ([] : List UInt8) 0 ms es k).2) ((es.getD i zAe).kd, (es.getD i zAe).key, (es.getD i zAe).dm, ((es.getD i zAe).data))).map vu8)], .blk b_20 .nw 90 [(1, [(.bool false)]), (32, ms.map vu8), (1, [(.slice a_22 0 c_23)]), (1, [(vi ((gU false ((brS false ([] : List UInt8) 0 ms es k).1) ((brS false ([] : List UInt8) 0 ms es k).2) ((es.getD i zAe).kd, (es.getD i zAe).key, (es.getD i zAe).dm, ((es.getD i zAe).data)) : Nat) : Int))]), (1, [(.map (some b_21))]), (1, [(.slice la_207 ((gL false ([] : List UInt8) 0 ((brS false ([] : List UInt8) 0 ms es k).1) ((brS false ([] : List UInt8) 0 ms es k).2) ((es.getD i zAe).kd, (es.getD i zAe).key, (es.getD i zAe).dm, ((es.getD i zAe).data))).length) lc_208)])], .row la_207 ((gL false ([] : List UInt8) 0 ((brS false ([] : List UInt8) 0 ms es k).1) ((brS false ([] : List UInt8) 0 ms es k).2) ((es.getD i zAe).kd, (es.getD i zAe).key, (es.getD i zAe).dm, ((es.getD i zAe).data))).length) lc_208 64 67 lx_209, .obj b_21 .nw (.map (mArr (gL false ([] : List UInt8) 0 ((brS false ([] : List UInt8) 0 ms es k).1) ((brS false ([] : List UInt8) 0 ms es k).2) ((es.getD i zAe).kd, (es.getD i zAe).key, (es.getD i zAe).dm, ((es.getD i zAe).data)))) ((gL false ([] : List UInt8) 0 ((brS false ([] : List UInt8) 0 ms es k).1) ((brS false ([] : List UInt8) 0 ms es k).2) ((es.getD i zAe).kd, (es.getD i zAe).key, (es.getD i zAe).dm, ((es.getD i zAe).data))).length)), .pin (sblks lx_209) (fun w => Lgs w lx_209 (gL false ([] : List UInt8) 0 ((brS false ([] : List UInt8) 0 ms es k).1) ((brS false ([] : List UInt8) 0 ms es k).2) ((es.getD i zAe).kd, (es.getD i zAe).key, (es.getD i zAe).dm, ((es.getD i zAe).data)))), .view a_22 (([] : List UInt8).map vu8), .view ((es.getD i zAe).a) (((es.getD i zAe).data).map vu8), .blk b_169 .nw 90 [(1, [(.bool true)]), (32, ms.map vu8), (1, [(.slice a_171 g c_172)]), (1, [(vi (((brS true (ansB (brS false ([] : List UInt8) 0 ms es k).2 g) g ms es i).1 : Nat) : Int))]), (1, [(.map (some b_170))]), (1, [(.slice la4 ((brS true (ansB (brS false ([] : List UInt8) 0 ms es k).2 g) g ms es i).2.length) lc4)])], .row la4 ((brS true (ansB (brS false ([] : List UInt8) 0 ms es k).2 g) g ms es i).2.length) lc4 64 67 lx4, .obj b_170 .nw (.map (mArr ((brS true (ansB (brS false ([] : List UInt8) 0 ms es k).2 g) g ms es i).2)) ((brS true (ansB (brS false ([] : List UInt8) 0 ms es k).2 g) g ms es i).2.length)), .pin (sblks lx4) (fun w => Lgs w lx4 ((brS true (ansB (brS false ([] : List UInt8) 0 ms es k).2 g) g ms es i).2)), .view a_171 ((ansB (brS false ([] : List UInt8) 0 ms es k).2 g).map vu8), .view ar (aesC es), .pin (akBs es) (fun w => Aks w es), .row a_125 ((brS false ([] : List UInt8) 0 ms es k).2.length) c_126 64 67 ys_127, .pin (sblks ys_127) (fun w => Lgs w ys_127 ((brS false ([] : List UInt8) 0 ms es k).2))] := h_216
       rw [gU_old hold, gL_old hold] at h_217
       refine WP.reg ?_
       refine qM (pO b_169 0) rfl rfl (qM (.slice ar nr cr) rfl rfl (qM (vn i) rfl rfl (qV rfl (R.indexS (a := ar) (i := i) (off := i * 37) (xs := aesC es) rfl rfl rfl (by omega) (viewV (h_217.ok _ M12)) (by rw [aesC_len hes]; omega) underlying50 sizeOf58 rfl) (qV rfl (R.fieldG (a := ar) (i := i * 37) (off' := i * 37 + 2) rfl underlying58 rfl sizeOf56 rfl rfl) (qV rfl (R.loadGA (a := ar) (i := i * 37 + 2) (xs := aesC es) (cs := flat [(1, [(vi ((es.getD i zAe).kd))]), (32, ((es.getD i zAe).key).map vu8), (1, [(vi ((es.getD i zAe).dm))]), (1, [(.slice ((es.getD i zAe).a) ((es.getD i zAe).data.length) ((es.getD i zAe).c))])]) rfl (viewV (h_217.ok _ M12)) isAgg56 sizeOf56 (ae_q hes hli) ((sC sV (sC (s8 hri.1) (sC sV (sC sV sN))))).len (by decide)) ?_)))))
       have h_223 := (((((h_217.up J6).up J11).up J11).up J11).up J11).up J11
       refine WL.call Try.call23 rfl rfl (c_oAskG true b_169 b_170 ms (ansB (brS false ([] : List UInt8) 0 ms es k).2 g) hms a_171 g c_172 ((brS true (ansB (brS false ([] : List UInt8) 0 ms es k).2 g) g ms es i).1) hgd la4 lc4 lx4 ((brS true (ansB (brS false ([] : List UInt8) 0 ms es k).2 g) g ms es i).2) (by first | decide | omega) (by first | decide | omega) ((es.getD i zAe).kd) ((es.getD i zAe).dm) ((es.getD i zAe).key) ((es.getD i zAe).data) ((es.getD i zAe).a) ((es.getD i zAe).data.length) ((es.getD i zAe).c) hri.1 (rfl : List.length ((es.getD i zAe).data) = (es.getD i zAe).data.length) (by omega) _ h_223) rfl ?_
       rintro _ w_227 ⟨la_224, lc_225, lx_226, rfl, h_228⟩
       refine qM (.tuple [(.agg ⟨(gD true (ansB (brS false ([] : List UInt8) 0 ms es k).2 g) g ((brS true (ansB (brS false ([] : List UInt8) 0 ms es k).2 g) g ms es i).1) ((brS true (ansB (brS false ([] : List UInt8) 0 ms es k).2 g) g ms es i).2) ((es.getD i zAe).kd, (es.getD i zAe).key, (es.getD i zAe).dm, ((es.getD i zAe).data))).map vu8⟩), (vi (gE ((es.getD i zAe).kd, (es.getD i zAe).key, (es.getD i zAe).dm, ((es.getD i zAe).data))))].toArray) rfl rfl (qV rfl (R.extract rfl rfl) (qV rfl (R.extract rfl rfl) ?_))
       refine WL.alloc (segs := [(32, (zB 32).map vu8)]) h_228 (zv typeInfo23 rfl) rfl (sC (s8 lr) sN) rfl (fun b_229 w_230 h_231 => ?_)
       refine WL.storeA [] [(32, (zB 32).map vu8)] [(32, (gD true (ansB (brS false ([] : List UInt8) 0 ms es k).2 g) g ((brS true (ansB (brS false ([] : List UInt8) 0 ms es k).2 g) g ms es i).1) ((brS true (ansB (brS false ([] : List UInt8) 0 ms es k).2 g) g ms es i).2) ((es.getD i zAe).kd, (es.getD i zAe).key, (es.getD i zAe).dm, ((es.getD i zAe).data))).map vu8)] [] h_231 rfl rfl sizeOf23 At.h (by decide) rfl rfl rfl rfl rfl rfl (sC (s8 (gD_len hgd hs32i)) sN) (fun w_232 h_233 => ?_)
       refine qA (vi (gE ((es.getD i zAe).kd, (es.getD i zAe).key, (es.getD i zAe).dm, ((es.getD i zAe).data)))) rfl rfl ?_
       refine WL.nil (thn_n (WP.seq (WP.reg ?_)))
       refine qV rfl (R.loadA [] [(32, (gD false ([] : List UInt8) 0 ((brS false ([] : List UInt8) 0 ms es k).1) ((brS false ([] : List UInt8) 0 ms es k).2) ((es.getD i zAe).kd, (es.getD i zAe).key, (es.getD i zAe).dm, ((es.getD i zAe).data))).map vu8)] [] (cs := (gD false ([] : List UInt8) 0 ((brS false ([] : List UInt8) 0 ms es k).1) ((brS false ([] : List UInt8) 0 ms es k).2) ((es.getD i zAe).kd, (es.getD i zAe).key, (es.getD i zAe).dm, ((es.getD i zAe).data))).map vu8) rfl isAgg23 sizeOf23 (h_233.ok _ M7) rfl rfl rfl rfl) (qV rfl (R.loadA [] [(32, (gD true (ansB (brS false ([] : List UInt8) 0 ms es k).2 g) g ((brS true (ansB (brS false ([] : List UInt8) 0 ms es k).2 g) g ms es i).1) ((brS true (ansB (brS false ([] : List UInt8) 0 ms es k).2 g) g ms es i).2) ((es.getD i zAe).kd, (es.getD i zAe).key, (es.getD i zAe).dm, ((es.getD i zAe).data))).map vu8)] [] (cs := (gD true (ansB (brS false ([] : List UInt8) 0 ms es k).2 g) g ((brS true (ansB (brS false ([] : List UInt8) 0 ms es k).2 g) g ms es i).1) ((brS true (ansB (brS false ([] : List UInt8) 0 ms es k).2 g) g ms es i).2) ((es.getD i zAe).kd, (es.getD i zAe).key, (es.getD i zAe).dm, ((es.getD i zAe).data))).map vu8) rfl isAgg23 sizeOf23 (h_233.ok _ M0) rfl rfl rfl rfl) (qV rfl (R.neA (xs := (gD false ([] : List UInt8) 0 ((brS false ([] : List UInt8) 0 ms es k).1) ((brS false ([] : List UInt8) 0 ms es k).2) ((es.getD i zAe).kd, (es.getD i zAe).key, (es.getD i zAe).dm, ((es.getD i zAe).data))).map vu8) (ys := (gD true (ansB (brS false ([] : List UInt8) 0 ms es k).2 g) g ((brS true (ansB (brS false ([] : List UInt8) 0 ms es k).2 g) g ms es i).1) ((brS true (ansB (brS false ([] : List UInt8) 0 ms es k).2 g) g ms es i).2) ((es.getD i zAe).kd, (es.getD i zAe).key, (es.getD i zAe).dm, ((es.getD i zAe).data))).map vu8) (r := false) rfl rfl eqGuardType23 kt23 (by decide) ag23 (Typ.u8s underlying23 ce23 underlying5 ce5 (gD_len (rfl : List.length ([] : List UInt8) = 32 * 0) hs32k)) (Typ.u8s underlying23 ce23 underlying5 ce5 (gD_len hgd hs32i)) (neT (congrArg (List.map vu8) hbv))) (qM (.bool false) rfl rfl ?_)))
       refine WL.want rfl rfl ?_
       refine qM (vi (gE ((es.getD i zAe).kd, (es.getD i zAe).key, (es.getD i zAe).dm, ((es.getD i zAe).data)))) rfl rfl ?_
       refine WL.want rfl rfl ?_
       refine qM (vi (gE ((es.getD i zAe).kd, (es.getD i zAe).key, (es.getD i zAe).dm, ((es.getD i zAe).data)))) rfl rfl ?_
       refine WL.want rfl rfl ?_
       refine qV rfl (R.bin rfl rfl (bi_neq (r := false) (by simp))) (qV rfl (R.pickF (v := (.bool false)) rfl rfl) ?_)
       refine WL.nil (thn_n ?_)
       refine WP.condF rfl ?_
       refine WP.skip (thn_n (WP.seq (WP.reg ?_)))
       refine qM (.slice ar nr cr) rfl rfl (qM (vn i) rfl rfl (qV rfl (R.indexS (a := ar) (i := i) (off := i * 37) (xs := aesC es) rfl rfl rfl (by omega) (viewV (h_233.ok _ M13)) (by rw [aesC_len hes]; omega) underlying50 sizeOf58 rfl) (qV rfl (R.fieldG (a := ar) (i := i * 37) (off' := i * 37) rfl underlying58 rfl sizeOf3 rfl rfl) (qV rfl (R.loadG rfl (viewV (h_233.ok _ M13)) isAgg3 (ae_0 hes hli)) (qV rfl (R.bin rfl rfl (bi_eql (r := decide (((es.getD i zAe).k : Int) = 5)) rfl)) ?_)))))
       refine WL.nil (thn_n ?_)
       refine WP.condF (congrArg Value.bool (decide_eq_false (by omega))) ?_
       refine WP.skip (inb_n (thn_n (WP.reg ?_)))
       refine qM (vn i) rfl rfl (qV rfl (R.bin rfl rfl (bi_add (c := ((i + 1 : Nat) : Int)) (by omega) (by omega))) (qA (vn (i + 1)) rfl rfl ?_))
       refine WL.nil (thn_n ?_)
       have h_252 := ((((((((((((((((((h_233.drop rfl).up J5).drop rfl).up J5).drop rfl).up J13).up J13).up J13).up J13).up J8).up J8).up J8).up J8).up J8).up J13).up J13).up J13).up J13).up J13
       exact ⟨(i + 1, la_207, lc_208, lx_209, la_224, lc_225, lx_226), _, (by omega), (Ag.upd rfl (U2 rfl rfl (U4 rfl rfl rfl rfl (U4 rfl rfl rfl rfl (U4 rfl rfl rfl rfl (U4 rfl rfl rfl rfl (U4 rfl rfl rfl rfl (U4 rfl rfl rfl rfl (U4 rfl rfl rfl rfl (U4 rfl rfl rfl rfl (U4 rfl rfl rfl rfl (U4 rfl rfl rfl rfl (U4 rfl rfl rfl rfl (U4 rfl rfl rfl rfl (Ag.updL rfl (Ag.mix _ _ _)))))))))))))))), ⟨rfl, trivial⟩, (by rw [brS_1 p_201]; exact h_252), (by omega), rfl⟩
      ·have p_253 := of_decide_eq_false c_200
       refine WP.skip (thn_n (WP.seq (WP.reg ?_)))
       refine qM (.slice ar nr cr) rfl rfl (qM (vn i) rfl rfl (qV rfl (R.indexS (a := ar) (i := i) (off := i * 37) (xs := aesC es) rfl rfl rfl (by omega) (viewV (h_199.ok _ M11)) (by rw [aesC_len hes]; omega) underlying50 sizeOf58 rfl) (qV rfl (R.fieldG (a := ar) (i := i * 37) (off' := i * 37) rfl underlying58 rfl sizeOf3 rfl rfl) (qV rfl (R.loadG rfl (viewV (h_199.ok _ M11)) isAgg3 (ae_0 hes hli)) (qV rfl (R.bin rfl rfl (bi_eql (r := decide (((es.getD i zAe).k : Int) = 5)) rfl)) ?_)))))
       refine WL.nil (thn_n ?_)
       refine WP.cond (b := decide (((es.getD i zAe).k : Int) = 5)) rfl (fun c_254 => ?_) (fun c_254 => ?_)
       ·have p_255 := of_decide_eq_true c_254
        refine WP.seq ?_
        have hib : isB (es.getD i zAe) := .inr p_255
        have hiq : bqQ ms (es.getD i zAe) = (3, ms, (es.getD i zAe).dm, [(es.getD i zAe).data].flatten) := by rw [bqQ, if_neg (by omega)]
        have hik : i < k := by omega
        have hold := br_old (id := false) (df := ([] : List UInt8)) (dn := 0) hik hib hiq
        have hbv := br_val hgl hik hib hiq
        refine WP.cutG (G := Nat × Nat × Option Addr × Nat × List Value) [16, 17, 142, 143, 144, 145, 146, 147, 148, 149, 150, 151, 152, 153, 154, 155, 156, 157, 158, 159] (fun (bY29Y13Y0Y0, bY29Y18Y0Y0, laY29Y14Y0Y0, lcY29Y14Y0Y0, lxY29Y14Y0Y0) => [(143, (pO b_20 0)), (144, (.slice ar nr cr)), (145, (vn i)), (146, (.pointer (some (gA ar (i * 37))))), (147, (.pointer (some (gA ar (i * 37 + 2))))), (148, (.pointer (some (gA ar (i * 37 + 2 + 33))))), (149, (vi ((es.getD i zAe).dm))), (150, (.slice ar nr cr)), (151, (vn i)), (152, (.pointer (some (gA ar (i * 37))))), (153, (.pointer (some (gA ar (i * 37 + 2))))), (154, (.pointer (some (gA ar (i * 37 + 2 + 34))))), (155, (.slice ((es.getD i zAe).a) ((es.getD i zAe).data.length) ((es.getD i zAe).c))), (156, (.slice (some ⟨bY29Y13Y0Y0, 0, none⟩) 1 1)), (157, (.tuple [(.agg ⟨(gD false ([] : List UInt8) 0 ((brS false ([] : List UInt8) 0 ms es k).1) ((brS false ([] : List UInt8) 0 ms es k).2) (3, ms, ((es.getD i zAe).dm), [(es.getD i zAe).data].flatten)).map vu8⟩), (vi (gE (3, ms, ((es.getD i zAe).dm), [(es.getD i zAe).data].flatten)))].toArray)), (142, (.tuple [(.agg ⟨(gD false ([] : List UInt8) 0 ((brS false ([] : List UInt8) 0 ms es k).1) ((brS false ([] : List UInt8) 0 ms es k).2) (3, ms, ((es.getD i zAe).dm), [(es.getD i zAe).data].flatten)).map vu8⟩), (vi (gE (3, ms, ((es.getD i zAe).dm), [(es.getD i zAe).data].flatten)))].toArray)), (158, (.agg ⟨(gD false ([] : List UInt8) 0 ((brS false ([] : List UInt8) 0 ms es k).1) ((brS false ([] : List UInt8) 0 ms es k).2) (3, ms, ((es.getD i zAe).dm), [(es.getD i zAe).data].flatten)).map vu8⟩)), (159, (vi (gE (3, ms, ((es.getD i zAe).dm), [(es.getD i zAe).data].flatten)))), (16, (pO bY29Y18Y0Y0 0)), (17, (vi (gE (3, ms, ((es.getD i zAe).dm), [(es.getD i zAe).data].flatten))))]) (fun (bY29Y13Y0Y0, bY29Y18Y0Y0, laY29Y14Y0Y0, lcY29Y14Y0Y0, lxY29Y14Y0Y0) w1 => HP w w1 [.blk bY29Y18Y0Y0 .nw 23 [(32, (gD false ([] : List UInt8) 0 ((brS false ([] : List UInt8) 0 ms es k).1) ((brS false ([] : List UInt8) 0 ms es k).2) (3, ms, ((es.getD i zAe).dm), [(es.getD i zAe).data].flatten)).map vu8)], .blk b_20 .nw 90 [(1, [(.bool false)]), (32, ms.map vu8), (1, [(.slice a_22 0 c_23)]), (1, [(vn (gU false ((brS false ([] : List UInt8) 0 ms es k).1) ((brS false ([] : List UInt8) 0 ms es k).2) (3, ms, ((es.getD i zAe).dm), [(es.getD i zAe).data].flatten)))]), (1, [(.map (some b_21))]), (1, [(.slice laY29Y14Y0Y0 ((gL false ([] : List UInt8) 0 ((brS false ([] : List UInt8) 0 ms es k).1) ((brS false ([] : List UInt8) 0 ms es k).2) (3, ms, ((es.getD i zAe).dm), [(es.getD i zAe).data].flatten)).length) lcY29Y14Y0Y0)])], .row laY29Y14Y0Y0 ((gL false ([] : List UInt8) 0 ((brS false ([] : List UInt8) 0 ms es k).1) ((brS false ([] : List UInt8) 0 ms es k).2) (3, ms, ((es.getD i zAe).dm), [(es.getD i zAe).data].flatten)).length) lcY29Y14Y0Y0 64 67 lxY29Y14Y0Y0, .obj b_21 .nw (.map (mArr (gL false ([] : List UInt8) 0 ((brS false ([] : List UInt8) 0 ms es k).1) ((brS false ([] : List UInt8) 0 ms es k).2) (3, ms, ((es.getD i zAe).dm), [(es.getD i zAe).data].flatten))) ((gL false ([] : List UInt8) 0 ((brS false ([] : List UInt8) 0 ms es k).1) ((brS false ([] : List UInt8) 0 ms es k).2) (3, ms, ((es.getD i zAe).dm), [(es.getD i zAe).data].flatten)).length)), .pin (sblks lxY29Y14Y0Y0) (fun w => Lgs w lxY29Y14Y0Y0 (gL false ([] : List UInt8) 0 ((brS false ([] : List UInt8) 0 ms es k).1) ((brS false ([] : List UInt8) 0 ms es k).2) (3, ms, ((es.getD i zAe).dm), [(es.getD i zAe).data].flatten))), .view a_22 (([] : List UInt8).map vu8), .pin (sblks [(.slice ((es.getD i zAe).a) ((es.getD i zAe).data.length) ((es.getD i zAe).c))]) (fun w => Sls w [(.slice ((es.getD i zAe).a) ((es.getD i zAe).data.length) ((es.getD i zAe).c))] [(es.getD i zAe).data]), .view (some ⟨bY29Y13Y0Y0, 0, none⟩) [(.slice ((es.getD i zAe).a) ((es.getD i zAe).data.length) ((es.getD i zAe).c))], .view ((es.getD i zAe).a) (((es.getD i zAe).data).map vu8), .blk b_169 .nw 90 [(1, [(.bool true)]), (32, ms.map vu8), (1, [(.slice a_171 g c_172)]), (1, [(vn ((brS true (ansB (brS false ([] : List UInt8) 0 ms es k).2 g) g ms es i).1))]), (1, [(.map (some b_170))]), (1, [(.slice la4 ((brS true (ansB (brS false ([] : List UInt8) 0 ms es k).2 g) g ms es i).2.length) lc4)])], .row la4 ((brS true (ansB (brS false ([] : List UInt8) 0 ms es k).2 g) g ms es i).2.length) lc4 64 67 lx4, .obj b_170 .nw (.map (mArr ((brS true (ansB (brS false ([] : List UInt8) 0 ms es k).2 g) g ms es i).2)) ((brS true (ansB (brS false ([] : List UInt8) 0 ms es k).2 g) g ms es i).2.length)), .pin (sblks lx4) (fun w => Lgs w lx4 ((brS true (ansB (brS false ([] : List UInt8) 0 ms es k).2 g) g ms es i).2)), .view a_171 ((ansB (brS false ([] : List UInt8) 0 ms es k).2 g).map vu8), .view ar (aesC es), .pin (akBs es) (fun w => Aks w es), .row a_125 ((brS false ([] : List UInt8) 0 ms es k).2.length) c_126 64 67 ys_127, .pin (sblks ys_127) (fun w => Lgs w ys_127 ((brS false ([] : List UInt8) 0 ms es k).2))]) ?_ ?_
        ·have hib : isB (es.getD i zAe) := .inr p_255
         have hiq : bqQ ms (es.getD i zAe) = (3, ms, (es.getD i zAe).dm, [(es.getD i zAe).data].flatten) := by rw [bqQ, if_neg (by omega)]
         have hik : i < k := by omega
         have hold := br_old (id := false) (df := ([] : List UInt8)) (dn := 0) hik hib hiq
         have hbv := br_val hgl hik hib hiq
         refine WP.drawT (SL w.heap.size [.view ((es.getD i zAe).a) (((es.getD i zAe).data).map vu8), .blk b_169 .nw 90 [(1, [(.bool true)]), (32, ms.map vu8), (1, [(.slice a_171 g c_172)]), (1, [(vn ((brS true (ansB (brS false ([] : List UInt8) 0 ms es k).2 g) g ms es i).1))]), (1, [(.map (some b_170))]), (1, [(.slice la4 ((brS true (ansB (brS false ([] : List UInt8) 0 ms es k).2 g) g ms es i).2.length) lc4)])], .row la4 ((brS true (ansB (brS false ([] : List UInt8) 0 ms es k).2 g) g ms es i).2.length) lc4 64 67 lx4, .obj b_170 .nw (.map (mArr ((brS true (ansB (brS false ([] : List UInt8) 0 ms es k).2 g) g ms es i).2)) ((brS true (ansB (brS false ([] : List UInt8) 0 ms es k).2 g) g ms es i).2.length)), .pin (sblks lx4) (fun w => Lgs w lx4 ((brS true (ansB (brS false ([] : List UInt8) 0 ms es k).2 g) g ms es i).2)), .view a_171 ((ansB (brS false ([] : List UInt8) 0 ms es k).2 g).map vu8), .view ar (aesC es), .pin (akBs es) (fun w => Aks w es), .row a_125 ((brS false ([] : List UInt8) 0 ms es k).2.length) c_126 64 67 ys_127, .pin (sblks ys_127) (fun w => Lgs w ys_127 ((brS false ([] : List UInt8) 0 ms es k).2))]) (.q 0 (.q 1 (.q 2 (.q 3 (.q 4 (.q 5 (.q 6 (.q 7 (.q 8 (.q 9 (.q 10 (.q 11 (.q 12 (.s2 13 18 (.s2 14 18 (.q 15 (.q 16 (.q 17 (.s 18 (.s 19 (.q 20 .nil)))))) (.s 14 (.q 15 (.q 16 (.q 17 (.s 19 (.q 20 .nil))))))) (.s 13 (.s 14 (.q 15 (.q 16 (.q 17 (.s 19 (.q 20 .nil))))))))))))))))))))) (by kernel_rfl) (by kernel_rfl) rfl (by kernel_rfl) (fun w_256 hc_258 => (SL.cons ((h_199.same hc_258).ok _ M0) (SL.cons ((h_199.same hc_258).ok _ M6) (SL.cons ((h_199.same hc_258).ok _ M7) (SL.cons ((h_199.same hc_258).ok _ M8) (SL.cons ((h_199.same hc_258).ok _ M9) (SL.cons ((h_199.same hc_258).ok _ M10) (SL.cons ((h_199.same hc_258).ok _ M11) (SL.cons ((h_199.same hc_258).ok _ M12) (SL.cons ((h_199.same hc_258).ok _ M13) (SL.cons ((h_199.same hc_258).ok _ M14) (SL.nil _ _)))))))))))) (fun w_256 hc_258 => ?_)
         have h_257 := h_199.same hc_258
         refine qT rfl rfl (fun wq hS => R.move (v := (pO b_20 0)) rfl) ?_
         refine qT rfl rfl (fun wq hS => R.move (v := (.slice ar nr cr)) rfl) ?_
         refine qT rfl rfl (fun wq hS => R.move (v := (vn i)) rfl) ?_
         refine qT rfl rfl (fun wq hS => R.indexS (a := ar) (i := i) (off := i * 37) (xs := aesC es) rfl rfl rfl (by omega) (viewV (hS _ M6)) (by rw [aesC_len hes]; omega) underlying50 sizeOf58 rfl) ?_
         refine qT rfl rfl (fun wq hS => R.fieldG (a := ar) (i := i * 37) (off' := i * 37 + 2) rfl underlying58 rfl sizeOf56 rfl rfl) ?_
         refine qT rfl rfl (fun wq hS => R.fieldG (a := ar) (i := i * 37 + 2) (off' := i * 37 + 2 + 33) rfl underlying56 rfl sizeOf53 rfl rfl) ?_
         refine qT rfl rfl (fun wq hS => R.loadG rfl (viewV (hS _ M6)) isAgg53 (ae_35 hes hli)) ?_
         refine qT rfl rfl (fun wq hS => R.move (v := (.slice ar nr cr)) rfl) ?_
         refine qT rfl rfl (fun wq hS => R.move (v := (vn i)) rfl) ?_
         refine qT rfl rfl (fun wq hS => R.indexS (a := ar) (i := i) (off := i * 37) (xs := aesC es) rfl rfl rfl (by omega) (viewV (hS _ M6)) (by rw [aesC_len hes]; omega) underlying50 sizeOf58 rfl) ?_
         refine qT rfl rfl (fun wq hS => R.fieldG (a := ar) (i := i * 37) (off' := i * 37 + 2) rfl underlying58 rfl sizeOf56 rfl rfl) ?_
         refine qT rfl rfl (fun wq hS => R.fieldG (a := ar) (i := i * 37 + 2) (off' := i * 37 + 2 + 34) rfl underlying56 rfl sizeOf54 rfl rfl) ?_
         refine qT rfl rfl (fun wq hS => R.loadG rfl (viewV (hS _ M6)) isAgg54 (ae_36 hes hli)) ?_
         refine WT.s2 ?_ ?_
         ·refine oN rfl ?_
          refine WL.buildSl (vs := [(0, (.slice ((es.getD i zAe).a) ((es.getD i zAe).data.length) ((es.getD i zAe).c)))]) (cs := [(.slice ((es.getD i zAe).a) ((es.getD i zAe).data.length) ((es.getD i zAe).c))]) h_257 underlying101 sizeOf54 (zv typeInfo54 rfl) rfl rfl (by kernel_rfl) rfl (by simp [Value.oneCell']) rfl rfl (fun b_259 w_260 h_261 => ?_)
          refine WL.nil ?_
          refine ⟨(N1_7_8_9_10_11_12_13_14_15 h_261.ok), ?_⟩
          refine WT.s2 ?_ ?_
          ·refine oN rfl ?_
           have h_262 := HP_blkView h_261
           have hbl_263 : ∀ b ∈ sblks [(.slice ((es.getD i zAe).a) ((es.getD i zAe).data.length) ((es.getD i zAe).c))], ∃ e ∈ ([.view (some ⟨b_259, 0, none⟩) [(.slice ((es.getD i zAe).a) ((es.getD i zAe).data.length) ((es.getD i zAe).c))], .view ((es.getD i zAe).a) (((es.getD i zAe).data).map vu8), .blk b_20 .nw 90 [(1, [(.bool false)]), (32, ms.map vu8), (1, [(.slice a_22 0 c_23)]), (1, [(vi (((brS false ([] : List UInt8) 0 ms es k).1 : Nat) : Int))]), (1, [(.map (some b_21))]), (1, [(.slice la3 ((brS false ([] : List UInt8) 0 ms es k).2.length) lc3)])], .row la3 ((brS false ([] : List UInt8) 0 ms es k).2.length) lc3 64 67 lx3, .obj b_21 .nw (.map (mArr ((brS false ([] : List UInt8) 0 ms es k).2)) ((brS false ([] : List UInt8) 0 ms es k).2.length)), .pin (sblks lx3) (fun w => Lgs w lx3 ((brS false ([] : List UInt8) 0 ms es k).2)), .view a_22 (([] : List UInt8).map vu8), .blk b_169 .nw 90 [(1, [(.bool true)]), (32, ms.map vu8), (1, [(.slice a_171 g c_172)]), (1, [(vi (((brS true (ansB (brS false ([] : List UInt8) 0 ms es k).2 g) g ms es i).1 : Nat) : Int))]), (1, [(.map (some b_170))]), (1, [(.slice la4 ((brS true (ansB (brS false ([] : List UInt8) 0 ms es k).2 g) g ms es i).2.length) lc4)])], .row la4 ((brS true (ansB (brS false ([] : List UInt8) 0 ms es k).2 g) g ms es i).2.length) lc4 64 67 lx4, .obj b_170 .nw (.map (mArr ((brS true (ansB (brS false ([] : List UInt8) 0 ms es k).2 g) g ms es i).2)) ((brS true (ansB (brS false ([] : List UInt8) 0 ms es k).2 g) g ms es i).2.length)), .pin (sblks lx4) (fun w => Lgs w lx4 ((brS true (ansB (brS false ([] : List UInt8) 0 ms es k).2 g) g ms es i).2)), .view a_171 ((ansB (brS false ([] : List UInt8) 0 ms es k).2 g).map vu8), .view ar (aesC es), .pin (akBs es) (fun w => Aks w es), .row a_125 ((brS false ([] : List UInt8) 0 ms es k).2.length) c_126 64 67 ys_127, .pin (sblks ys_127) (fun w => Lgs w ys_127 ((brS false ([] : List UInt8) 0 ms es k).2))] : List Ent), e.mut = false ∧ b ∈ e.blocks := by
            intro b hb
            rcases List.mem_append.1 hb with hb | hb
            ·exact ⟨_, M1, rfl, sblk_in_view (rfl : List.length ((es.getD i zAe).data) = (es.getD i zAe).data.length) b hb⟩
            cases hb
           have h_264 := HP_within (e' := .pin (sblks [(.slice ((es.getD i zAe).a) ((es.getD i zAe).data.length) ((es.getD i zAe).c))]) (fun w => Sls w [(.slice ((es.getD i zAe).a) ((es.getD i zAe).data.length) ((es.getD i zAe).c))] [(es.getD i zAe).data])) h_262 (Sls.pin (Sls.cons (rfl : List.length ((es.getD i zAe).data) = (es.getD i zAe).data.length) (by omega) (viewV (h_262.ok _ M1)) Sls.nil)) rfl rfl hbl_263
           have h_271 := ((((((h_264.up J1).up J1).up J7).up J7).up J7).up J7).up J7
           refine WL.call Try.call24 rfl rfl (c_oKeyG false b_20 b_21 ms ([] : List UInt8) hms a_22 0 c_23 ((brS false ([] : List UInt8) 0 ms es k).1) (rfl : List.length ([] : List UInt8) = 32 * 0) la3 lc3 lx3 ((brS false ([] : List UInt8) 0 ms es k).2) (by first | decide | omega) (by first | decide | omega) (some ⟨b_259, 0, none⟩) 1 1 [(.slice ((es.getD i zAe).a) ((es.getD i zAe).data.length) ((es.getD i zAe).c))] [(es.getD i zAe).data] rfl ((es.getD i zAe).dm) (by omega) (by omega) _ h_271) rfl ?_
           rintro _ w_275 ⟨la_272, lc_273, lx_274, rfl, h_276⟩
           refine WL.nil ?_
           refine ⟨(SL.cons (h_276.ok _ M7) (SL.cons (h_276.ok _ M8) (SL.cons (h_276.ok _ M9) (SL.cons (h_276.ok _ M10) (SL.cons (h_276.ok _ M11) (SL.cons (h_276.ok _ M12) (SL.cons (h_276.ok _ M13) (SL.cons (h_276.ok _ M14) (SL.cons (h_276.ok _ M15) (SL.cons (h_276.ok _ M16) (SL.nil _ _))))))))))), ?_⟩
           refine qT rfl rfl (fun wq hS => R.move (v := (.tuple [(.agg ⟨(gD false ([] : List UInt8) 0 ((brS false ([] : List UInt8) 0 ms es k).1) ((brS false ([] : List UInt8) 0 ms es k).2) (3, ms, ((es.getD i zAe).dm), [(es.getD i zAe).data].flatten)).map vu8⟩), (vi (gE (3, ms, ((es.getD i zAe).dm), [(es.getD i zAe).data].flatten)))].toArray)) rfl) ?_
           refine qT rfl rfl (fun wq hS => R.extract rfl rfl) ?_
           refine qT rfl rfl (fun wq hS => R.extract rfl rfl) ?_
           refine WT.s (oN rfl ?_)
           refine WL.alloc (segs := [(32, (zB 32).map vu8)]) h_276 (zv typeInfo23 rfl) rfl (sC (s8 lr) sN) rfl (fun b_277 w_278 h_279 => ?_)
           refine WL.nil ?_
           refine ⟨(N8_9_10_11_12_13_14_15_16_17 h_279.ok), ?_⟩
           refine WT.s (oN rfl ?_)
           refine WL.storeA [] [(32, (zB 32).map vu8)] [(32, (gD false ([] : List UInt8) 0 ((brS false ([] : List UInt8) 0 ms es k).1) ((brS false ([] : List UInt8) 0 ms es k).2) (3, ms, ((es.getD i zAe).dm), [(es.getD i zAe).data].flatten)).map vu8)] [] h_279 rfl rfl sizeOf23 At.h (by decide) rfl rfl rfl rfl rfl rfl (sC (s8 (gD_len (rfl : List.length ([] : List UInt8) = 32 * 0) hs32k)) sN) (fun w_280 h_281 => ?_)
           refine WL.nil ?_
           refine ⟨(N8_9_10_11_12_13_14_15_16_17 h_281.ok), ?_⟩
           refine qT rfl rfl (fun wq hS => R.assign (v := (vi (gE (3, ms, ((es.getD i zAe).dm), [(es.getD i zAe).data].flatten)))) rfl) ?_
           refine WT.nil (thn_n ?_)
           exact ⟨(b_259, b_277, la_272, lc_273, lx_274), (U4 rfl rfl rfl rfl (U4 rfl rfl rfl rfl (U4 rfl rfl rfl rfl (U4 rfl rfl rfl rfl (U4 rfl rfl rfl rfl (Ag.refl _ _)))))), ⟨rfl, rfl, rfl, rfl, rfl, rfl, rfl, rfl, rfl, rfl, rfl, rfl, rfl, rfl, rfl, rfl, rfl, rfl, rfl, rfl, trivial⟩, h_281⟩
          ·refine oN rfl ?_
           refine WL.alloc (segs := [(32, (zB 32).map vu8)]) h_261 (zv typeInfo23 rfl) rfl (sC (s8 lr) sN) rfl (fun b_282 w_283 h_284 => ?_)
           refine WL.nil ?_
           refine ⟨(N2_8_9_10_11_12_13_14_15_16 h_284.ok), ?_⟩
           refine WT.s (oN rfl ?_)
           have h_285 := h_284.up J1
           have h_286 := HP_blkView h_285
           have hbl_287 : ∀ b ∈ sblks [(.slice ((es.getD i zAe).a) ((es.getD i zAe).data.length) ((es.getD i zAe).c))], ∃ e ∈ ([.view (some ⟨b_259, 0, none⟩) [(.slice ((es.getD i zAe).a) ((es.getD i zAe).data.length) ((es.getD i zAe).c))], .blk b_282 .nw 23 [(32, (List.replicate 32 (0 : UInt8)).map vu8)], .view ((es.getD i zAe).a) (((es.getD i zAe).data).map vu8), .blk b_20 .nw 90 [(1, [(.bool false)]), (32, ms.map vu8), (1, [(.slice a_22 0 c_23)]), (1, [(vi (((brS false ([] : List UInt8) 0 ms es k).1 : Nat) : Int))]), (1, [(.map (some b_21))]), (1, [(.slice la3 ((brS false ([] : List UInt8) 0 ms es k).2.length) lc3)])], .row la3 ((brS false ([] : List UInt8) 0 ms es k).2.length) lc3 64 67 lx3, .obj b_21 .nw (.map (mArr ((brS false ([] : List UInt8) 0 ms es k).2)) ((brS false ([] : List UInt8) 0 ms es k).2.length)), .pin (sblks lx3) (fun w => Lgs w lx3 ((brS false ([] : List UInt8) 0 ms es k).2)), .view a_22 (([] : List UInt8).map vu8), .blk b_169 .nw 90 [(1, [(.bool true)]), (32, ms.map vu8), (1, [(.slice a_171 g c_172)]), (1, [(vi (((brS true (ansB (brS false ([] : List UInt8) 0 ms es k).2 g) g ms es i).1 : Nat) : Int))]), (1, [(.map (some b_170))]), (1, [(.slice la4 ((brS true (ansB (brS false ([] : List UInt8) 0 ms es k).2 g) g ms es i).2.length) lc4)])], .row la4 ((brS true (ansB (brS false ([] : List UInt8) 0 ms es k).2 g) g ms es i).2.length) lc4 64 67 lx4, .obj b_170 .nw (.map (mArr ((brS true (ansB (brS false ([] : List UInt8) 0 ms es k).2 g) g ms es i).2)) ((brS true (ansB (brS false ([] : List UInt8) 0 ms es k).2 g) g ms es i).2.length)), .pin (sblks lx4) (fun w => Lgs w lx4 ((brS true (ansB (brS false ([] : List UInt8) 0 ms es k).2 g) g ms es i).2)), .view a_171 ((ansB (brS false ([] : List UInt8) 0 ms es k).2 g).map vu8), .view ar (aesC es), .pin (akBs es) (fun w => Aks w es), .row a_125 ((brS false ([] : List UInt8) 0 ms es k).2.length) c_126 64 67 ys_127, .pin (sblks ys_127) (fun w => Lgs w ys_127 ((brS false ([] : List UInt8) 0 ms es k).2))] : List Ent), e.mut = false ∧ b ∈ e.blocks := by
            intro b hb
            rcases List.mem_append.1 hb with hb | hb
            ·exact ⟨_, M2, rfl, sblk_in_view (rfl : List.length ((es.getD i zAe).data) = (es.getD i zAe).data.length) b hb⟩
            cases hb
           have h_288 := HP_within (e' := .pin (sblks [(.slice ((es.getD i zAe).a) ((es.getD i zAe).data.length) ((es.getD i zAe).c))]) (fun w => Sls w [(.slice ((es.getD i zAe).a) ((es.getD i zAe).data.length) ((es.getD i zAe).c))] [(es.getD i zAe).data])) h_286 (Sls.pin (Sls.cons (rfl : List.length ((es.getD i zAe).data) = (es.getD i zAe).data.length) (by omega) (viewV (h_286.ok _ M2)) Sls.nil)) rfl rfl hbl_287
           have h_295 := ((((((h_288.up J1).up J1).up J8).up J8).up J8).up J8).up J8
           refine WL.call Try.call24 rfl rfl (c_oKeyG false b_20 b_21 ms ([] : List UInt8) hms a_22 0 c_23 ((brS false ([] : List UInt8) 0 ms es k).1) (rfl : List.length ([] : List UInt8) = 32 * 0) la3 lc3 lx3 ((brS false ([] : List UInt8) 0 ms es k).2) (by first | decide | omega) (by first | decide | omega) (some ⟨b_259, 0, none⟩) 1 1 [(.slice ((es.getD i zAe).a) ((es.getD i zAe).data.length) ((es.getD i zAe).c))] [(es.getD i zAe).data] rfl ((es.getD i zAe).dm) (by omega) (by omega) _ h_295) rfl ?_
           rintro _ w_299 ⟨la_296, lc_297, lx_298, rfl, h_300⟩
           refine WL.nil ?_
           refine ⟨(N8_9_10_11_12_13_14_15_16_17 h_300.ok), ?_⟩
           refine qT rfl rfl (fun wq hS => R.move (v := (.tuple [(.agg ⟨(gD false ([] : List UInt8) 0 ((brS false ([] : List UInt8) 0 ms es k).1) ((brS false ([] : List UInt8) 0 ms es k).2) (3, ms, ((es.getD i zAe).dm), [(es.getD i zAe).data].flatten)).map vu8⟩), (vi (gE (3, ms, ((es.getD i zAe).dm), [(es.getD i zAe).data].flatten)))].toArray)) rfl) ?_
           refine qT rfl rfl (fun wq hS => R.extract rfl rfl) ?_
           refine qT rfl rfl (fun wq hS => R.extract rfl rfl) ?_
           refine WT.s (oN rfl ?_)
           refine WL.storeA [] [(32, (zB 32).map vu8)] [(32, (gD false ([] : List UInt8) 0 ((brS false ([] : List UInt8) 0 ms es k).1) ((brS false ([] : List UInt8) 0 ms es k).2) (3, ms, ((es.getD i zAe).dm), [(es.getD i zAe).data].flatten)).map vu8)] [] h_300 rfl rfl sizeOf23 Y7 (by decide) rfl rfl rfl rfl rfl rfl (sC (s8 (gD_len (rfl : List.length ([] : List UInt8) = 32 * 0) hs32k)) sN) (fun w_301 h_302 => ?_)
           refine WL.nil ?_
           refine ⟨(N8_9_10_11_12_13_14_15_16_17 h_302.ok), ?_⟩
           refine qT rfl rfl (fun wq hS => R.assign (v := (vi (gE (3, ms, ((es.getD i zAe).dm), [(es.getD i zAe).data].flatten)))) rfl) ?_
           refine WT.nil (thn_n ?_)
           have h_320 := (((((((((((((((((h_302.up J17).up J17).up J17).up J17).up J17).up J17).up J17).up J17).up J17).up J17).up J16).up J16).up J16).up J16).up J16).up J16).up J16).up J17
           exact ⟨(b_259, b_282, la_296, lc_297, lx_298), (U4 rfl rfl rfl rfl (U4 rfl rfl rfl rfl (U4 rfl rfl rfl rfl (U4 rfl rfl rfl rfl (U4 rfl rfl rfl rfl (Ag.refl _ _)))))), ⟨rfl, rfl, rfl, rfl, rfl, rfl, rfl, rfl, rfl, rfl, rfl, rfl, rfl, rfl, rfl, rfl, rfl, rfl, rfl, rfl, trivial⟩, h_320⟩
         ·refine oN rfl ?_
          refine WL.alloc (segs := [(32, (zB 32).map vu8)]) h_257 (zv typeInfo23 rfl) rfl (sC (s8 lr) sN) rfl (fun b_321 w_322 h_323 => ?_)
          refine WL.nil ?_
          refine ⟨(N1_7_8_9_10_11_12_13_14_15 h_323.ok), ?_⟩
          refine WT.s (oN rfl ?_)
          refine WL.buildSl (vs := [(0, (.slice ((es.getD i zAe).a) ((es.getD i zAe).data.length) ((es.getD i zAe).c)))]) (cs := [(.slice ((es.getD i zAe).a) ((es.getD i zAe).data.length) ((es.getD i zAe).c))]) h_323 underlying101 sizeOf54 (zv typeInfo54 rfl) rfl rfl (by kernel_rfl) rfl (by simp [Value.oneCell']) rfl rfl (fun b_324 w_325 h_326 => ?_)
          refine WL.nil ?_
          refine ⟨(N2_8_9_10_11_12_13_14_15_16 h_326.ok), ?_⟩
          refine WT.s (oN rfl ?_)
          have h_327 := HP_blkView h_326
          have hbl_328 : ∀ b ∈ sblks [(.slice ((es.getD i zAe).a) ((es.getD i zAe).data.length) ((es.getD i zAe).c))], ∃ e ∈ ([.view (some ⟨b_324, 0, none⟩) [(.slice ((es.getD i zAe).a) ((es.getD i zAe).data.length) ((es.getD i zAe).c))], .blk b_321 .nw 23 [(32, (List.replicate 32 (0 : UInt8)).map vu8)], .view ((es.getD i zAe).a) (((es.getD i zAe).data).map vu8), .blk b_20 .nw 90 [(1, [(.bool false)]), (32, ms.map vu8), (1, [(.slice a_22 0 c_23)]), (1, [(vi (((brS false ([] : List UInt8) 0 ms es k).1 : Nat) : Int))]), (1, [(.map (some b_21))]), (1, [(.slice la3 ((brS false ([] : List UInt8) 0 ms es k).2.length) lc3)])], .row la3 ((brS false ([] : List UInt8) 0 ms es k).2.length) lc3 64 67 lx3, .obj b_21 .nw (.map (mArr ((brS false ([] : List UInt8) 0 ms es k).2)) ((brS false ([] : List UInt8) 0 ms es k).2.length)), .pin (sblks lx3) (fun w => Lgs w lx3 ((brS false ([] : List UInt8) 0 ms es k).2)), .view a_22 (([] : List UInt8).map vu8), .blk b_169 .nw 90 [(1, [(.bool true)]), (32, ms.map vu8), (1, [(.slice a_171 g c_172)]), (1, [(vi (((brS true (ansB (brS false ([] : List UInt8) 0 ms es k).2 g) g ms es i).1 : Nat) : Int))]), (1, [(.map (some b_170))]), (1, [(.slice la4 ((brS true (ansB (brS false ([] : List UInt8) 0 ms es k).2 g) g ms es i).2.length) lc4)])], .row la4 ((brS true (ansB (brS false ([] : List UInt8) 0 ms es k).2 g) g ms es i).2.length) lc4 64 67 lx4, .obj b_170 .nw (.map (mArr ((brS true (ansB (brS false ([] : List UInt8) 0 ms es k).2 g) g ms es i).2)) ((brS true (ansB (brS false ([] : List UInt8) 0 ms es k).2 g) g ms es i).2.length)), .pin (sblks lx4) (fun w => Lgs w lx4 ((brS true (ansB (brS false ([] : List UInt8) 0 ms es k).2 g) g ms es i).2)), .view a_171 ((ansB (brS false ([] : List UInt8) 0 ms es k).2 g).map vu8), .view ar (aesC es), .pin (akBs es) (fun w => Aks w es), .row a_125 ((brS false ([] : List UInt8) 0 ms es k).2.length) c_126 64 67 ys_127, .pin (sblks ys_127) (fun w => Lgs w ys_127 ((brS false ([] : List UInt8) 0 ms es k).2))] : List Ent), e.mut = false ∧ b ∈ e.blocks := by
           intro b hb
           rcases List.mem_append.1 hb with hb | hb
           ·exact ⟨_, M2, rfl, sblk_in_view (rfl : List.length ((es.getD i zAe).data) = (es.getD i zAe).data.length) b hb⟩
           cases hb
          have h_329 := HP_within (e' := .pin (sblks [(.slice ((es.getD i zAe).a) ((es.getD i zAe).data.length) ((es.getD i zAe).c))]) (fun w => Sls w [(.slice ((es.getD i zAe).a) ((es.getD i zAe).data.length) ((es.getD i zAe).c))] [(es.getD i zAe).data])) h_327 (Sls.pin (Sls.cons (rfl : List.length ((es.getD i zAe).data) = (es.getD i zAe).data.length) (by omega) (viewV (h_327.ok _ M2)) Sls.nil)) rfl rfl hbl_328
          have h_336 := ((((((h_329.up J1).up J1).up J8).up J8).up J8).up J8).up J8
          refine WL.call Try.call24 rfl rfl (c_oKeyG false b_20 b_21 ms ([] : List UInt8) hms a_22 0 c_23 ((brS false ([] : List UInt8) 0 ms es k).1) (rfl : List.length ([] : List UInt8) = 32 * 0) la3 lc3 lx3 ((brS false ([] : List UInt8) 0 ms es k).2) (by first | decide | omega) (by first | decide | omega) (some ⟨b_324, 0, none⟩) 1 1 [(.slice ((es.getD i zAe).a) ((es.getD i zAe).data.length) ((es.getD i zAe).c))] [(es.getD i zAe).data] rfl ((es.getD i zAe).dm) (by omega) (by omega) _ h_336) rfl ?_
          rintro _ w_340 ⟨la_337, lc_338, lx_339, rfl, h_341⟩
          refine WL.nil ?_
          refine ⟨(N8_9_10_11_12_13_14_15_16_17 h_341.ok), ?_⟩
          refine qT rfl rfl (fun wq hS => R.move (v := (.tuple [(.agg ⟨(gD false ([] : List UInt8) 0 ((brS false ([] : List UInt8) 0 ms es k).1) ((brS false ([] : List UInt8) 0 ms es k).2) (3, ms, ((es.getD i zAe).dm), [(es.getD i zAe).data].flatten)).map vu8⟩), (vi (gE (3, ms, ((es.getD i zAe).dm), [(es.getD i zAe).data].flatten)))].toArray)) rfl) ?_
          refine qT rfl rfl (fun wq hS => R.extract rfl rfl) ?_
          refine qT rfl rfl (fun wq hS => R.extract rfl rfl) ?_
          refine WT.s (oN rfl ?_)
          refine WL.storeA [] [(32, (zB 32).map vu8)] [(32, (gD false ([] : List UInt8) 0 ((brS false ([] : List UInt8) 0 ms es k).1) ((brS false ([] : List UInt8) 0 ms es k).2) (3, ms, ((es.getD i zAe).dm), [(es.getD i zAe).data].flatten)).map vu8)] [] h_341 rfl rfl sizeOf23 Y7 (by decide) rfl rfl rfl rfl rfl rfl (sC (s8 (gD_len (rfl : List.length ([] : List UInt8) = 32 * 0) hs32k)) sN) (fun w_342 h_343 => ?_)
          refine WL.nil ?_
          refine ⟨(N8_9_10_11_12_13_14_15_16_17 h_343.ok), ?_⟩
          refine qT rfl rfl (fun wq hS => R.assign (v := (vi (gE (3, ms, ((es.getD i zAe).dm), [(es.getD i zAe).data].flatten)))) rfl) ?_
          refine WT.nil (thn_n ?_)
          have h_361 := (((((((((((((((((h_343.up J17).up J17).up J17).up J17).up J17).up J17).up J17).up J17).up J17).up J17).up J16).up J16).up J16).up J16).up J16).up J16).up J16).up J17
          exact ⟨(b_324, b_321, la_337, lc_338, lx_339), (U4 rfl rfl rfl rfl (U4 rfl rfl rfl rfl (U4 rfl rfl rfl rfl (U4 rfl rfl rfl rfl (U4 rfl rfl rfl rfl (Ag.refl _ _)))))), ⟨rfl, rfl, rfl, rfl, rfl, rfl, rfl, rfl, rfl, rfl, rfl, rfl, rfl, rfl, rfl, rfl, rfl, rfl, rfl, rfl, trivial⟩, h_361⟩
        ·rintro ⟨b_365, b_366, la_367, lc_368, lx_369⟩ J_362 w_363 h_364
         refine thn_n (WP.seq ?_)
         have h_370 : HP w w_363 [.blk b_366 .nw 23 [(32, (gD false ([] : List UInt8) 0 ((brS false ([] : List UInt8) 0 ms es k).1) ((brS false ([] : List UInt8) 0 ms es k).2) (3, ms, ((es.getD i zAe).dm), [(es.getD i zAe).data].flatten)).map vu8)], .blk b_20 .nw 90 [(1, [(.bool false)]), (32, ms.map vu8), (1, [(.slice a_22 0 c_23)]), (1, [(vi ((gU false ((brS false ([] : List UInt8) 0 ms es k).1) ((brS false ([] : List UInt8) 0 ms es k).2) (3, ms, ((es.getD i zAe).dm), [(es.getD i zAe).data].flatten) : Nat) : Int))]), (1, [(.map (some b_21))]), (1, [(.slice la_367 ((gL false ([] : List UInt8) 0 ((brS false ([] : List UInt8) 0 ms es k).1) ((brS false ([] : List UInt8) 0 ms es k).2) (3, ms, ((es.getD i zAe).dm), [(es.getD i zAe).data].flatten)).length) lc_368)])], .row la_367 ((gL false ([] : List UInt8) 0 ((brS false ([] : List UInt8) 0 ms es k).1) ((brS false ([] : List UInt8) 0 ms es k).2) (3, ms, ((es.getD i zAe).dm), [(es.getD i zAe).data].flatten)).length) lc_368 64 67 lx_369, .obj b_21 .nw (.map (mArr (gL false ([] : List UInt8) 0 ((brS false ([] : List UInt8) 0 ms es k).1) ((brS false ([] : List UInt8) 0 ms es k).2) (3, ms, ((es.getD i zAe).dm), [(es.getD i zAe).data].flatten))) ((gL false ([] : List UInt8) 0 ((brS false ([] : List UInt8) 0 ms es k).1) ((brS false ([] : List UInt8) 0 ms es k).2) (3, ms, ((es.getD i zAe).dm), [(es.getD i zAe).data].flatten)).length)), .pin (sblks lx_369) (fun w => Lgs w lx_369 (gL false ([] : List UInt8) 0 ((brS false ([] : List UInt8) 0 ms es k).1) ((brS false ([] : List UInt8) 0 ms es k).2) (3, ms, ((es.getD i zAe).dm), [(es.getD i zAe).data].flatten))), .view a_22 (([] : List UInt8).map vu8), .pin (sblks [(.slice ((es.getD i zAe).a) ((es.getD i zAe).data.length) ((es.getD i zAe).c))]) (fun w => Sls w [(.slice ((es.getD i zAe).a) ((es.getD i zAe).data.length) ((es.getD i zAe).c))] [(es.getD i zAe).data]), .view (some ⟨b_365, 0, none⟩) [(.slice ((es.getD i zAe).a) ((es.getD i zAe).data.length) ((es.getD i zAe).c))], .view ((es.getD i zAe).a) (((es.getD i zAe).data).map vu8), .blk b_169 .nw 90 [(1, [(.bool true)]), (32, ms.map vu8), (1, [(.slice a_171 g c_172)]), (1, [(vi (((brS true (ansB (brS false ([] : List UInt8) 0 ms es k).2 g) g ms es i).1 : Nat) : Int))]), (1, [(.map (some b_170))]), (1, [(.slice la4 ((brS true (ansB (brS false ([] : List UInt8) 0 ms es k).2 g) g ms es i).2.length) lc4)])], .row la4 ((brS true (ansB (brS false ([] : List UInt8) 0 ms es k).2 g) g ms es i).2.length) lc4 64 67 lx4, .obj b_170 .nw (.map (mArr ((brS true (ansB (brS false ([] : List UInt8) 0 ms es k).2 g) g ms es i).2)) ((brS true (ansB (brS false ([] : List UInt8) 0 ms es k).2 g) g ms es i).2.length)), .pin (sblks lx4) (fun w => Lgs w lx4 ((brS true (ansB (brS false ([] : List UInt8) 0 ms es k).2 g) g ms es i).2)), .view a_171 ((ansB (brS false ([] : List UInt8) 0 ms es k).2 g).map vu8), .view ar (aesC es), .pin (akBs es) (fun w => Aks w es), .row a_125 ((brS false ([] : List UInt8) 0 ms es k).2.length) c_126 64 67 ys_127, .pin (sblks ys_127) (fun w => Lgs w ys_127 ((brS false ([] : List UInt8) 0 ms es k).2))] := h_364
         rw [gU_old hold, gL_old hold] at h_370
         refine WP.cutG (G := Nat × Nat × Option Addr × Nat × List Value) [18, 19, 160, 161, 162, 163, 164, 165, 166, 167, 168, 169, 170, 171, 172, 173, 174, 175, 176, 177] (fun (bY30Y13Y0Y0, bY30Y18Y0Y0, laY30Y14Y0Y0, lcY30Y14Y0Y0, lxY30Y14Y0Y0) => [(161, (pO b_169 0)), (162, (.slice ar nr cr)), (163, (vn i)), (164, (.pointer (some (gA ar (i * 37))))), (165, (.pointer (some (gA ar (i * 37 + 2))))), (166, (.pointer (some (gA ar (i * 37 + 2 + 33))))), (167, (vi ((es.getD i zAe).dm))), (168, (.slice ar nr cr)), (169, (vn i)), (170, (.pointer (some (gA ar (i * 37))))), (171, (.pointer (some (gA ar (i * 37 + 2))))), (172, (.pointer (some (gA ar (i * 37 + 2 + 34))))), (173, (.slice ((es.getD i zAe).a) ((es.getD i zAe).data.length) ((es.getD i zAe).c))), (174, (.slice (some ⟨bY30Y13Y0Y0, 0, none⟩) 1 1)), (175, (.tuple [(.agg ⟨(gD true (ansB (brS false ([] : List UInt8) 0 ms es k).2 g) g ((brS true (ansB (brS false ([] : List UInt8) 0 ms es k).2 g) g ms es i).1) ((brS true (ansB (brS false ([] : List UInt8) 0 ms es k).2 g) g ms es i).2) (3, ms, ((es.getD i zAe).dm), [(es.getD i zAe).data].flatten)).map vu8⟩), (vi (gE (3, ms, ((es.getD i zAe).dm), [(es.getD i zAe).data].flatten)))].toArray)), (160, (.tuple [(.agg ⟨(gD true (ansB (brS false ([] : List UInt8) 0 ms es k).2 g) g ((brS true (ansB (brS false ([] : List UInt8) 0 ms es k).2 g) g ms es i).1) ((brS true (ansB (brS false ([] : List UInt8) 0 ms es k).2 g) g ms es i).2) (3, ms, ((es.getD i zAe).dm), [(es.getD i zAe).data].flatten)).map vu8⟩), (vi (gE (3, ms, ((es.getD i zAe).dm), [(es.getD i zAe).data].flatten)))].toArray)), (176, (.agg ⟨(gD true (ansB (brS false ([] : List UInt8) 0 ms es k).2 g) g ((brS true (ansB (brS false ([] : List UInt8) 0 ms es k).2 g) g ms es i).1) ((brS true (ansB (brS false ([] : List UInt8) 0 ms es k).2 g) g ms es i).2) (3, ms, ((es.getD i zAe).dm), [(es.getD i zAe).data].flatten)).map vu8⟩)), (177, (vi (gE (3, ms, ((es.getD i zAe).dm), [(es.getD i zAe).data].flatten)))), (18, (pO bY30Y18Y0Y0 0)), (19, (vi (gE (3, ms, ((es.getD i zAe).dm), [(es.getD i zAe).data].flatten))))]) (fun (bY30Y13Y0Y0, bY30Y18Y0Y0, laY30Y14Y0Y0, lcY30Y14Y0Y0, lxY30Y14Y0Y0) w1 => HP w w1 [.blk bY30Y18Y0Y0 .nw 23 [(32, (gD true (ansB (brS false ([] : List UInt8) 0 ms es k).2 g) g ((brS true (ansB (brS false ([] : List UInt8) 0 ms es k).2 g) g ms es i).1) ((brS true (ansB (brS false ([] : List UInt8) 0 ms es k).2 g) g ms es i).2) (3, ms, ((es.getD i zAe).dm), [(es.getD i zAe).data].flatten)).map vu8)], .blk b_169 .nw 90 [(1, [(.bool true)]), (32, ms.map vu8), (1, [(.slice a_171 g c_172)]), (1, [(vn (gU true ((brS true (ansB (brS false ([] : List UInt8) 0 ms es k).2 g) g ms es i).1) ((brS true (ansB (brS false ([] : List UInt8) 0 ms es k).2 g) g ms es i).2) (3, ms, ((es.getD i zAe).dm), [(es.getD i zAe).data].flatten)))]), (1, [(.map (some b_170))]), (1, [(.slice laY30Y14Y0Y0 ((gL true (ansB (brS false ([] : List UInt8) 0 ms es k).2 g) g ((brS true (ansB (brS false ([] : List UInt8) 0 ms es k).2 g) g ms es i).1) ((brS true (ansB (brS false ([] : List UInt8) 0 ms es k).2 g) g ms es i).2) (3, ms, ((es.getD i zAe).dm), [(es.getD i zAe).data].flatten)).length) lcY30Y14Y0Y0)])], .row laY30Y14Y0Y0 ((gL true (ansB (brS false ([] : List UInt8) 0 ms es k).2 g) g ((brS true (ansB (brS false ([] : List UInt8) 0 ms es k).2 g) g ms es i).1) ((brS true (ansB (brS false ([] : List UInt8) 0 ms es k).2 g) g ms es i).2) (3, ms, ((es.getD i zAe).dm), [(es.getD i zAe).data].flatten)).length) lcY30Y14Y0Y0 64 67 lxY30Y14Y0Y0, .obj b_170 .nw (.map (mArr (gL true (ansB (brS false ([] : List UInt8) 0 ms es k).2 g) g ((brS true (ansB (brS false ([] : List UInt8) 0 ms es k).2 g) g ms es i).1) ((brS true (ansB (brS false ([] : List UInt8) 0 ms es k).2 g) g ms es i).2) (3, ms, ((es.getD i zAe).dm), [(es.getD i zAe).data].flatten))) ((gL true (ansB (brS false ([] : List UInt8) 0 ms es k).2 g) g ((brS true (ansB (brS false ([] : List UInt8) 0 ms es k).2 g) g ms es i).1) ((brS true (ansB (brS false ([] : List UInt8) 0 ms es k).2 g) g ms es i).2) (3, ms, ((es.getD i zAe).dm), [(es.getD i zAe).data].flatten)).length)), .pin (sblks lxY30Y14Y0Y0) (fun w => Lgs w lxY30Y14Y0Y0 (gL true (ansB (brS false ([] : List UInt8) 0 ms es k).2 g) g ((brS true (ansB (brS false ([] : List UInt8) 0 ms es k).2 g) g ms es i).1) ((brS true (ansB (brS false ([] : List UInt8) 0 ms es k).2 g) g ms es i).2) (3, ms, ((es.getD i zAe).dm), [(es.getD i zAe).data].flatten))), .view a_171 ((ansB (brS false ([] : List UInt8) 0 ms es k).2 g).map vu8), .pin (sblks [(.slice ((es.getD i zAe).a) ((es.getD i zAe).data.length) ((es.getD i zAe).c))]) (fun w => Sls w [(.slice ((es.getD i zAe).a) ((es.getD i zAe).data.length) ((es.getD i zAe).c))] [(es.getD i zAe).data]), .view (some ⟨bY30Y13Y0Y0, 0, none⟩) [(.slice ((es.getD i zAe).a) ((es.getD i zAe).data.length) ((es.getD i zAe).c))], .blk b_366 .nw 23 [(32, (gD false ([] : List UInt8) 0 ((brS false ([] : List UInt8) 0 ms es k).1) ((brS false ([] : List UInt8) 0 ms es k).2) (3, ms, ((es.getD i zAe).dm), [(es.getD i zAe).data].flatten)).map vu8)], .blk b_20 .nw 90 [(1, [(.bool false)]), (32, ms.map vu8), (1, [(.slice a_22 0 c_23)]), (1, [(vn ((brS false ([] : List UInt8) 0 ms es k).1))]), (1, [(.map (some b_21))]), (1, [(.slice la_367 ((brS false ([] : List UInt8) 0 ms es k).2.length) lc_368)])], .row la_367 ((brS false ([] : List UInt8) 0 ms es k).2.length) lc_368 64 67 lx_369, .obj b_21 .nw (.map (mArr ((brS false ([] : List UInt8) 0 ms es k).2)) ((brS false ([] : List UInt8) 0 ms es k).2.length)), .pin (sblks lx_369) (fun w => Lgs w lx_369 ((brS false ([] : List UInt8) 0 ms es k).2)), .view a_22 (([] : List UInt8).map vu8), .view (some ⟨b_365, 0, none⟩) [(.slice ((es.getD i zAe).a) ((es.getD i zAe).data.length) ((es.getD i zAe).c))], .view ((es.getD i zAe).a) (((es.getD i zAe).data).map vu8), .view ar (aesC es), .pin (akBs es) (fun w => Aks w es), .row a_125 ((brS false ([] : List UInt8) 0 ms es k).2.length) c_126 64 67 ys_127, .pin (sblks ys_127) (fun w => Lgs w ys_127 ((brS false ([] : List UInt8) 0 ms es k).2))]) ?_ ?_
         ·refine WP.drawT (SL w.heap.size [.blk b_366 .nw 23 [(32, (gD false ([] : List UInt8) 0 ((brS false ([] : List UInt8) 0 ms es k).1) ((brS false ([] : List UInt8) 0 ms es k).2) (3, ms, ((es.getD i zAe).dm), [(es.getD i zAe).data].flatten)).map vu8)], .blk b_20 .nw 90 [(1, [(.bool false)]), (32, ms.map vu8), (1, [(.slice a_22 0 c_23)]), (1, [(vn ((brS false ([] : List UInt8) 0 ms es k).1))]), (1, [(.map (some b_21))]), (1, [(.slice la_367 ((brS false ([] : List UInt8) 0 ms es k).2.length) lc_368)])], .row la_367 ((brS false ([] : List UInt8) 0 ms es k).2.length) lc_368 64 67 lx_369, .obj b_21 .nw (.map (mArr ((brS false ([] : List UInt8) 0 ms es k).2)) ((brS false ([] : List UInt8) 0 ms es k).2.length)), .pin (sblks lx_369) (fun w => Lgs w lx_369 ((brS false ([] : List UInt8) 0 ms es k).2)), .view a_22 (([] : List UInt8).map vu8), .pin (sblks [(.slice ((es.getD i zAe).a) ((es.getD i zAe).data.length) ((es.getD i zAe).c))]) (fun w => Sls w [(.slice ((es.getD i zAe).a) ((es.getD i zAe).data.length) ((es.getD i zAe).c))] [(es.getD i zAe).data]), .view (some ⟨b_365, 0, none⟩) [(.slice ((es.getD i zAe).a) ((es.getD i zAe).data.length) ((es.getD i zAe).c))], .view ((es.getD i zAe).a) (((es.getD i zAe).data).map vu8), .view ar (aesC es), .pin (akBs es) (fun w => Aks w es), .row a_125 ((brS false ([] : List UInt8) 0 ms es k).2.length) c_126 64 67 ys_127, .pin (sblks ys_127) (fun w => Lgs w ys_127 ((brS false ([] : List UInt8) 0 ms es k).2))]) (.q 0 (.q 1 (.q 2 (.q 3 (.q 4 (.q 5 (.q 6 (.q 7 (.q 8 (.q 9 (.q 10 (.q 11 (.q 12 (.s2 13 18 (.s2 14 18 (.q 15 (.q 16 (.q 17 (.s 18 (.s 19 (.q 20 .nil)))))) (.s 14 (.q 15 (.q 16 (.q 17 (.s 19 (.q 20 .nil))))))) (.s 13 (.s 14 (.q 15 (.q 16 (.q 17 (.s 19 (.q 20 .nil))))))))))))))))))))) (by kernel_rfl) (by kernel_rfl) rfl (by kernel_rfl) (fun w_371 hc_373 => (SL.cons ((h_370.same hc_373).ok _ M0) (SL.cons ((h_370.same hc_373).ok _ M1) (SL.cons ((h_370.same hc_373).ok _ M2) (SL.cons ((h_370.same hc_373).ok _ M3) (SL.cons ((h_370.same hc_373).ok _ M4) (SL.cons ((h_370.same hc_373).ok _ M5) (SL.cons ((h_370.same hc_373).ok _ M6) (SL.cons ((h_370.same hc_373).ok _ M7) (SL.cons ((h_370.same hc_373).ok _ M8) (SL.cons ((h_370.same hc_373).ok _ M14) (SL.cons ((h_370.same hc_373).ok _ M15) (SL.cons ((h_370.same hc_373).ok _ M16) (SL.cons ((h_370.same hc_373).ok _ M17) (SL.nil _ _))))))))))))))) (fun w_371 hc_373 => ?_)
          have h_372 := h_370.same hc_373
          refine qT rfl rfl (fun wq hS => R.move (v := (pO b_169 0)) rfl) ?_
          refine qT rfl rfl (fun wq hS => R.move (v := (.slice ar nr cr)) rfl) ?_
          refine qT rfl rfl (fun wq hS => R.move (v := (vn i)) rfl) ?_
          refine qT rfl rfl (fun wq hS => R.indexS (a := ar) (i := i) (off := i * 37) (xs := aesC es) rfl rfl rfl (by omega) (viewV (hS _ M9)) (by rw [aesC_len hes]; omega) underlying50 sizeOf58 rfl) ?_
          refine qT rfl rfl (fun wq hS => R.fieldG (a := ar) (i := i * 37) (off' := i * 37 + 2) rfl underlying58 rfl sizeOf56 rfl rfl) ?_
          refine qT rfl rfl (fun wq hS => R.fieldG (a := ar) (i := i * 37 + 2) (off' := i * 37 + 2 + 33) rfl underlying56 rfl sizeOf53 rfl rfl) ?_
          refine qT rfl rfl (fun wq hS => R.loadG rfl (viewV (hS _ M9)) isAgg53 (ae_35 hes hli)) ?_
          refine qT rfl rfl (fun wq hS => R.move (v := (.slice ar nr cr)) rfl) ?_
          refine qT rfl rfl (fun wq hS => R.move (v := (vn i)) rfl) ?_
          refine qT rfl rfl (fun wq hS => R.indexS (a := ar) (i := i) (off := i * 37) (xs := aesC es) rfl rfl rfl (by omega) (viewV (hS _ M9)) (by rw [aesC_len hes]; omega) underlying50 sizeOf58 rfl) ?_
          refine qT rfl rfl (fun wq hS => R.fieldG (a := ar) (i := i * 37) (off' := i * 37 + 2) rfl underlying58 rfl sizeOf56 rfl rfl) ?_
          refine qT rfl rfl (fun wq hS => R.fieldG (a := ar) (i := i * 37 + 2) (off' := i * 37 + 2 + 34) rfl underlying56 rfl sizeOf54 rfl rfl) ?_
          refine qT rfl rfl (fun wq hS => R.loadG rfl (viewV (hS _ M9)) isAgg54 (ae_36 hes hli)) ?_
          refine WT.s2 ?_ ?_
          ·refine oN rfl ?_
           refine WL.buildSl (vs := [(0, (.slice ((es.getD i zAe).a) ((es.getD i zAe).data.length) ((es.getD i zAe).c)))]) (cs := [(.slice ((es.getD i zAe).a) ((es.getD i zAe).data.length) ((es.getD i zAe).c))]) h_372 underlying101 sizeOf54 (zv typeInfo54 rfl) rfl rfl (by kernel_rfl) rfl (by simp [Value.oneCell']) rfl rfl (fun b_374 w_375 h_376 => ?_)
           refine WL.nil ?_
           refine ⟨(N1_2_3_4_5_6_7_8_9_15_16_17_18 h_376.ok), ?_⟩
           refine WT.s2 ?_ ?_
           ·refine oN rfl ?_
            have h_377 := HP_blkView h_376
            have hbl_378 : ∀ b ∈ sblks [(.slice ((es.getD i zAe).a) ((es.getD i zAe).data.length) ((es.getD i zAe).c))], ∃ e ∈ ([.view (some ⟨b_374, 0, none⟩) [(.slice ((es.getD i zAe).a) ((es.getD i zAe).data.length) ((es.getD i zAe).c))], .blk b_366 .nw 23 [(32, (gD false ([] : List UInt8) 0 ((brS false ([] : List UInt8) 0 ms es k).1) ((brS false ([] : List UInt8) 0 ms es k).2) (3, ms, ((es.getD i zAe).dm), [(es.getD i zAe).data].flatten)).map vu8)], .blk b_20 .nw 90 [(1, [(.bool false)]), (32, ms.map vu8), (1, [(.slice a_22 0 c_23)]), (1, [(vi (((brS false ([] : List UInt8) 0 ms es k).1 : Nat) : Int))]), (1, [(.map (some b_21))]), (1, [(.slice la_367 ((brS false ([] : List UInt8) 0 ms es k).2.length) lc_368)])], .row la_367 ((brS false ([] : List UInt8) 0 ms es k).2.length) lc_368 64 67 lx_369, .obj b_21 .nw (.map (mArr ((brS false ([] : List UInt8) 0 ms es k).2)) ((brS false ([] : List UInt8) 0 ms es k).2.length)), .pin (sblks lx_369) (fun w => Lgs w lx_369 ((brS false ([] : List UInt8) 0 ms es k).2)), .view a_22 (([] : List UInt8).map vu8), .pin (sblks [(.slice ((es.getD i zAe).a) ((es.getD i zAe).data.length) ((es.getD i zAe).c))]) (fun w => Sls w [(.slice ((es.getD i zAe).a) ((es.getD i zAe).data.length) ((es.getD i zAe).c))] [(es.getD i zAe).data]), .view (some ⟨b_365, 0, none⟩) [(.slice ((es.getD i zAe).a) ((es.getD i zAe).data.length) ((es.getD i zAe).c))], .view ((es.getD i zAe).a) (((es.getD i zAe).data).map vu8), .blk b_169 .nw 90 [(1, [(.bool true)]), (32, ms.map vu8), (1, [(.slice a_171 g c_172)]), (1, [(vi (((brS true (ansB (brS false ([] : List UInt8) 0 ms es k).2 g) g ms es i).1 : Nat) : Int))]), (1, [(.map (some b_170))]), (1, [(.slice la4 ((brS true (ansB (brS false ([] : List UInt8) 0 ms es k).2 g) g ms es i).2.length) lc4)])], .row la4 ((brS true (ansB (brS false ([] : List UInt8) 0 ms es k).2 g) g ms es i).2.length) lc4 64 67 lx4, .obj b_170 .nw (.map (mArr ((brS true (ansB (brS false ([] : List UInt8) 0 ms es k).2 g) g ms es i).2)) ((brS true (ansB (brS false ([] : List UInt8) 0 ms es k).2 g) g ms es i).2.length)), .pin (sblks lx4) (fun w => Lgs w lx4 ((brS true (ansB (brS false ([] : List UInt8) 0 ms es k).2 g) g ms es i).2)), .view a_171 ((ansB (brS false ([] : List UInt8) 0 ms es k).2 g).map vu8), .view ar (aesC es), .pin (akBs es) (fun w => Aks w es), .row a_125 ((brS false ([] : List UInt8) 0 ms es k).2.length) c_126 64 67 ys_127, .pin (sblks ys_127) (fun w => Lgs w ys_127 ((brS false ([] : List UInt8) 0 ms es k).2))] : List Ent), e.mut = false ∧ b ∈ e.blocks := by
             intro b hb
             rcases List.mem_append.1 hb with hb | hb
             ·exact ⟨_, M9, rfl, sblk_in_view (rfl : List.length ((es.getD i zAe).data) = (es.getD i zAe).data.length) b hb⟩
             cases hb
            have h_379 := HP_within (e' := .pin (sblks [(.slice ((es.getD i zAe).a) ((es.getD i zAe).data.length) ((es.getD i zAe).c))]) (fun w => Sls w [(.slice ((es.getD i zAe).a) ((es.getD i zAe).data.length) ((es.getD i zAe).c))] [(es.getD i zAe).data])) h_377 (Sls.pin (Sls.cons (rfl : List.length ((es.getD i zAe).data) = (es.getD i zAe).data.length) (by omega) (viewV (h_377.ok _ M9)) Sls.nil)) rfl rfl hbl_378
            have h_386 := ((((((h_379.up J1).up J1).up J15).up J15).up J15).up J15).up J15
            refine WL.call Try.call24 rfl rfl (c_oKeyG true b_169 b_170 ms (ansB (brS false ([] : List UInt8) 0 ms es k).2 g) hms a_171 g c_172 ((brS true (ansB (brS false ([] : List UInt8) 0 ms es k).2 g) g ms es i).1) hgd la4 lc4 lx4 ((brS true (ansB (brS false ([] : List UInt8) 0 ms es k).2 g) g ms es i).2) (by first | decide | omega) (by first | decide | omega) (some ⟨b_374, 0, none⟩) 1 1 [(.slice ((es.getD i zAe).a) ((es.getD i zAe).data.length) ((es.getD i zAe).c))] [(es.getD i zAe).data] rfl ((es.getD i zAe).dm) (by omega) (by omega) _ h_386) rfl ?_
            rintro _ w_390 ⟨la_387, lc_388, lx_389, rfl, h_391⟩
            refine WL.nil ?_
            refine ⟨(SL.cons (h_391.ok _ M7) (SL.cons (h_391.ok _ M8) (SL.cons (h_391.ok _ M9) (SL.cons (h_391.ok _ M10) (SL.cons (h_391.ok _ M11) (SL.cons (h_391.ok _ M12) (SL.cons (h_391.ok _ M13) (SL.cons (h_391.ok _ M14) (SL.cons (h_391.ok _ M15) (SL.cons (h_391.ok _ M16) (SL.cons (h_391.ok _ M17) (SL.cons (h_391.ok _ M18) (SL.cons (h_391.ok _ M19) (SL.nil _ _)))))))))))))), ?_⟩
            refine qT rfl rfl (fun wq hS => R.move (v := (.tuple [(.agg ⟨(gD true (ansB (brS false ([] : List UInt8) 0 ms es k).2 g) g ((brS true (ansB (brS false ([] : List UInt8) 0 ms es k).2 g) g ms es i).1) ((brS true (ansB (brS false ([] : List UInt8) 0 ms es k).2 g) g ms es i).2) (3, ms, ((es.getD i zAe).dm), [(es.getD i zAe).data].flatten)).map vu8⟩), (vi (gE (3, ms, ((es.getD i zAe).dm), [(es.getD i zAe).data].flatten)))].toArray)) rfl) ?_
            refine qT rfl rfl (fun wq hS => R.extract rfl rfl) ?_
            refine qT rfl rfl (fun wq hS => R.extract rfl rfl) ?_
            refine WT.s (oN rfl ?_)
            refine WL.alloc (segs := [(32, (zB 32).map vu8)]) h_391 (zv typeInfo23 rfl) rfl (sC (s8 lr) sN) rfl (fun b_392 w_393 h_394 => ?_)
            refine WL.nil ?_
            refine ⟨(N8_9_10_11_12_13_14_15_16_17_18_19_20 h_394.ok), ?_⟩
            refine WT.s (oN rfl ?_)
            refine WL.storeA [] [(32, (zB 32).map vu8)] [(32, (gD true (ansB (brS false ([] : List UInt8) 0 ms es k).2 g) g ((brS true (ansB (brS false ([] : List UInt8) 0 ms es k).2 g) g ms es i).1) ((brS true (ansB (brS false ([] : List UInt8) 0 ms es k).2 g) g ms es i).2) (3, ms, ((es.getD i zAe).dm), [(es.getD i zAe).data].flatten)).map vu8)] [] h_394 rfl rfl sizeOf23 At.h (by decide) rfl rfl rfl rfl rfl rfl (sC (s8 (gD_len hgd hs32i)) sN) (fun w_395 h_396 => ?_)
            refine WL.nil ?_
            refine ⟨(N8_9_10_11_12_13_14_15_16_17_18_19_20 h_396.ok), ?_⟩
            refine qT rfl rfl (fun wq hS => R.assign (v := (vi (gE (3, ms, ((es.getD i zAe).dm), [(es.getD i zAe).data].flatten)))) rfl) ?_
            refine WT.nil (thn_n ?_)
            have h_397 := h_396.up (Pick.t (Pick.t (Pick.t (Pick.t (Pick.t (Pick.t (Pick.t (Pick.t (Pick.t (Pick.t (Pick.t (Pick.t (Pick.t (Pick.t (Pick.t (Pick.t (Pick.t (Pick.t (Pick.t (Pick.t J0))))))))))))))))))))
            have h_398 := h_397.up (Pick.t (Pick.t (Pick.t (Pick.t (Pick.t (Pick.t (Pick.t (Pick.t (Pick.t (Pick.t (Pick.t (Pick.t (Pick.t (Pick.t (Pick.t (Pick.t (Pick.t (Pick.t (Pick.t (Pick.t J0))))))))))))))))))))
            have h_399 := h_398.up (Pick.t (Pick.t (Pick.t (Pick.t (Pick.t (Pick.t (Pick.t (Pick.t (Pick.t (Pick.t (Pick.t (Pick.t (Pick.t (Pick.t (Pick.t (Pick.t (Pick.t (Pick.t (Pick.t (Pick.t J0))))))))))))))))))))
            have h_400 := h_399.up (Pick.t (Pick.t (Pick.t (Pick.t (Pick.t (Pick.t (Pick.t (Pick.t (Pick.t (Pick.t (Pick.t (Pick.t (Pick.t (Pick.t (Pick.t (Pick.t (Pick.t (Pick.t (Pick.t (Pick.t J0))))))))))))))))))))
            have h_401 := h_400.up (Pick.t (Pick.t (Pick.t (Pick.t (Pick.t (Pick.t (Pick.t (Pick.t (Pick.t (Pick.t (Pick.t (Pick.t (Pick.t (Pick.t (Pick.t (Pick.t (Pick.t (Pick.t (Pick.t (Pick.t J0))))))))))))))))))))
            have h_402 := h_401.up (Pick.t (Pick.t (Pick.t (Pick.t (Pick.t (Pick.t (Pick.t (Pick.t (Pick.t (Pick.t (Pick.t (Pick.t (Pick.t (Pick.t (Pick.t (Pick.t (Pick.t (Pick.t (Pick.t (Pick.t J0))))))))))))))))))))
            have h_416 := (((((((((((((h_402.up J19).up J19).up J19).up J19).up J19).up J19).up J19).up J19).up J19).up J19).up J19).up J19).up J19).up J19
            have h_417 := (h_416.up (Pick.t (Pick.t (Pick.t (Pick.t (Pick.t (Pick.t (Pick.t (Pick.t (Pick.t (Pick.t (Pick.t (Pick.t (Pick.t (Pick.t (Pick.t (Pick.t (Pick.t (Pick.t (Pick.t (Pick.t J0))))))))))))))))))))).drop rfl
            exact ⟨(b_374, b_392, la_387, lc_388, lx_389), (U4 rfl rfl rfl rfl (U4 rfl rfl rfl rfl (U4 rfl rfl rfl rfl (U4 rfl rfl rfl rfl (U4 rfl rfl rfl rfl (Ag.refl _ _)))))), ⟨rfl, rfl, rfl, rfl, rfl, rfl, rfl, rfl, rfl, rfl, rfl, rfl, rfl, rfl, rfl, rfl, rfl, rfl, rfl, rfl, trivial⟩, h_417⟩
           ·refine oN rfl ?_
            refine WL.alloc (segs := [(32, (zB 32).map vu8)]) h_376 (zv typeInfo23 rfl) rfl (sC (s8 lr) sN) rfl (fun b_418 w_419 h_420 => ?_)
            refine WL.nil ?_
            refine ⟨(N2_3_4_5_6_7_8_9_10_16_17_18_19 h_420.ok), ?_⟩
            refine WT.s (oN rfl ?_)
            have h_421 := h_420.up J1
            have h_422 := HP_blkView h_421
            have hbl_423 : ∀ b ∈ sblks [(.slice ((es.getD i zAe).a) ((es.getD i zAe).data.length) ((es.getD i zAe).c))], ∃ e ∈ ([.view (some ⟨b_374, 0, none⟩) [(.slice ((es.getD i zAe).a) ((es.getD i zAe).data.length) ((es.getD i zAe).c))], .blk b_418 .nw 23 [(32, (List.replicate 32 (0 : UInt8)).map vu8)], .blk b_366 .nw 23 [(32, (gD false ([] : List UInt8) 0 ((brS false ([] : List UInt8) 0 ms es k).1) ((brS false ([] : List UInt8) 0 ms es k).2) (3, ms, ((es.getD i zAe).dm), [(es.getD i zAe).data].flatten)).map vu8)], .blk b_20 .nw 90 [(1, [(.bool false)]), (32, ms.map vu8), (1, [(.slice a_22 0 c_23)]), (1, [(vi (((brS false ([] : List UInt8) 0 ms es k).1 : Nat) : Int))]), (1, [(.map (some b_21))]), (1, [(.slice la_367 ((brS false ([] : List UInt8) 0 ms es k).2.length) lc_368)])], .row la_367 ((brS false ([] : List UInt8) 0 ms es k).2.length) lc_368 64 67 lx_369, .obj b_21 .nw (.map (mArr ((brS false ([] : List UInt8) 0 ms es k).2)) ((brS false ([] : List UInt8) 0 ms es k).2.length)), .pin (sblks lx_369) (fun w => Lgs w lx_369 ((brS false ([] : List UInt8) 0 ms es k).2)), .view a_22 (([] : List UInt8).map vu8), .pin (sblks [(.slice ((es.getD i zAe).a) ((es.getD i zAe).data.length) ((es.getD i zAe).c))]) (fun w => Sls w [(.slice ((es.getD i zAe).a) ((es.getD i zAe).data.length) ((es.getD i zAe).c))] [(es.getD i zAe).data]), .view (some ⟨b_365, 0, none⟩) [(.slice ((es.getD i zAe).a) ((es.getD i zAe).data.length) ((es.getD i zAe).c))], .view ((es.getD i zAe).a) (((es.getD i zAe).data).map vu8), .blk b_169 .nw 90 [(1, [(.bool true)]), (32, ms.map vu8), (1, [(.slice a_171 g c_172)]), (1, [(vi (((brS true (ansB (brS false ([] : List UInt8) 0 ms es k).2 g) g ms es i).1 : Nat) : Int))]), (1, [(.map (some b_170))]), (1, [(.slice la4 ((brS true (ansB (brS false ([] : List UInt8) 0 ms es k).2 g) g ms es i).2.length) lc4)])], .row la4 ((brS true (ansB (brS false ([] : List UInt8) 0 ms es k).2 g) g ms es i).2.length) lc4 64 67 lx4, .obj b_170 .nw (.map (mArr ((brS true (ansB (brS false ([] : List UInt8) 0 ms es k).2 g) g ms es i).2)) ((brS true (ansB (brS false ([] : List UInt8) 0 ms es k).2 g) g ms es i).2.length)), .pin (sblks lx4) (fun w => Lgs w lx4 ((brS true (ansB (brS false ([] : List UInt8) 0 ms es k).2 g) g ms es i).2)), .view a_171 ((ansB (brS false ([] : List UInt8) 0 ms es k).2 g).map vu8), .view ar (aesC es), .pin (akBs es) (fun w => Aks w es), .row a_125 ((brS false ([] : List UInt8) 0 ms es k).2.length) c_126 64 67 ys_127, .pin (sblks ys_127) (fun w => Lgs w ys_127 ((brS false ([] : List UInt8) 0 ms es k).2))] : List Ent), e.mut = false ∧ b ∈ e.blocks := by
             intro b hb
             rcases List.mem_append.1 hb with hb | hb
             ·exact ⟨_, M10, rfl, sblk_in_view (rfl : List.length ((es.getD i zAe).data) = (es.getD i zAe).data.length) b hb⟩
             cases hb
            have h_424 := HP_within (e' := .pin (sblks [(.slice ((es.getD i zAe).a) ((es.getD i zAe).data.length) ((es.getD i zAe).c))]) (fun w => Sls w [(.slice ((es.getD i zAe).a) ((es.getD i zAe).data.length) ((es.getD i zAe).c))] [(es.getD i zAe).data])) h_422 (Sls.pin (Sls.cons (rfl : List.length ((es.getD i zAe).data) = (es.getD i zAe).data.length) (by omega) (viewV (h_422.ok _ M10)) Sls.nil)) rfl rfl hbl_423
            have h_431 := ((((((h_424.up J1).up J1).up J16).up J16).up J16).up J16).up J16
            refine WL.call Try.call24 rfl rfl (c_oKeyG true b_169 b_170 ms (ansB (brS false ([] : List UInt8) 0 ms es k).2 g) hms a_171 g c_172 ((brS true (ansB (brS false ([] : List UInt8) 0 ms es k).2 g) g ms es i).1) hgd la4 lc4 lx4 ((brS true (ansB (brS false ([] : List UInt8) 0 ms es k).2 g) g ms es i).2) (by first | decide | omega) (by first | decide | omega) (some ⟨b_374, 0, none⟩) 1 1 [(.slice ((es.getD i zAe).a) ((es.getD i zAe).data.length) ((es.getD i zAe).c))] [(es.getD i zAe).data] rfl ((es.getD i zAe).dm) (by omega) (by omega) _ h_431) rfl ?_
            rintro _ w_435 ⟨la_432, lc_433, lx_434, rfl, h_436⟩
            refine WL.nil ?_
            refine ⟨(N8_9_10_11_12_13_14_15_16_17_18_19_20 h_436.ok), ?_⟩
            refine qT rfl rfl (fun wq hS => R.move (v := (.tuple [(.agg ⟨(gD true (ansB (brS false ([] : List UInt8) 0 ms es k).2 g) g ((brS true (ansB (brS false ([] : List UInt8) 0 ms es k).2 g) g ms es i).1) ((brS true (ansB (brS false ([] : List UInt8) 0 ms es k).2 g) g ms es i).2) (3, ms, ((es.getD i zAe).dm), [(es.getD i zAe).data].flatten)).map vu8⟩), (vi (gE (3, ms, ((es.getD i zAe).dm), [(es.getD i zAe).data].flatten)))].toArray)) rfl) ?_
            refine qT rfl rfl (fun wq hS => R.extract rfl rfl) ?_
            refine qT rfl rfl (fun wq hS => R.extract rfl rfl) ?_
            refine WT.s (oN rfl ?_)
            refine WL.storeA [] [(32, (zB 32).map vu8)] [(32, (gD true (ansB (brS false ([] : List UInt8) 0 ms es k).2 g) g ((brS true (ansB (brS false ([] : List UInt8) 0 ms es k).2 g) g ms es i).1) ((brS true (ansB (brS false ([] : List UInt8) 0 ms es k).2 g) g ms es i).2) (3, ms, ((es.getD i zAe).dm), [(es.getD i zAe).data].flatten)).map vu8)] [] h_436 rfl rfl sizeOf23 Y7 (by decide) rfl rfl rfl rfl rfl rfl (sC (s8 (gD_len hgd hs32i)) sN) (fun w_437 h_438 => ?_)
            refine WL.nil ?_
            refine ⟨(N8_9_10_11_12_13_14_15_16_17_18_19_20 h_438.ok), ?_⟩
            refine qT rfl rfl (fun wq hS => R.assign (v := (vi (gE (3, ms, ((es.getD i zAe).dm), [(es.getD i zAe).data].flatten)))) rfl) ?_
            refine WT.nil (thn_n ?_)
            have h_439 := h_438.up (Pick.t (Pick.t (Pick.t (Pick.t (Pick.t (Pick.t (Pick.t (Pick.t (Pick.t (Pick.t (Pick.t (Pick.t (Pick.t (Pick.t (Pick.t (Pick.t (Pick.t (Pick.t (Pick.t (Pick.t J0))))))))))))))))))))
            have h_440 := h_439.up (Pick.t (Pick.t (Pick.t (Pick.t (Pick.t (Pick.t (Pick.t (Pick.t (Pick.t (Pick.t (Pick.t (Pick.t (Pick.t (Pick.t (Pick.t (Pick.t (Pick.t (Pick.t (Pick.t (Pick.t J0))))))))))))))))))))
            have h_441 := h_440.up (Pick.t (Pick.t (Pick.t (Pick.t (Pick.t (Pick.t (Pick.t (Pick.t (Pick.t (Pick.t (Pick.t (Pick.t (Pick.t (Pick.t (Pick.t (Pick.t (Pick.t (Pick.t (Pick.t (Pick.t J0))))))))))))))))))))
            have h_442 := h_441.up (Pick.t (Pick.t (Pick.t (Pick.t (Pick.t (Pick.t (Pick.t (Pick.t (Pick.t (Pick.t (Pick.t (Pick.t (Pick.t (Pick.t (Pick.t (Pick.t (Pick.t (Pick.t (Pick.t (Pick.t J0))))))))))))))))))))
            have h_443 := h_442.up (Pick.t (Pick.t (Pick.t (Pick.t (Pick.t (Pick.t (Pick.t (Pick.t (Pick.t (Pick.t (Pick.t (Pick.t (Pick.t (Pick.t (Pick.t (Pick.t (Pick.t (Pick.t (Pick.t (Pick.t J0))))))))))))))))))))
            have h_444 := h_443.up (Pick.t (Pick.t (Pick.t (Pick.t (Pick.t (Pick.t (Pick.t (Pick.t (Pick.t (Pick.t (Pick.t (Pick.t (Pick.t (Pick.t (Pick.t (Pick.t (Pick.t (Pick.t (Pick.t (Pick.t J0))))))))))))))))))))
            have h_458 := (((((((((((((h_444.up J19).up J19).up J19).up J19).up J19).up J19).up J18).up J18).up J18).up J18).up J18).up J18).up J18).up J19
            have h_459 := (h_458.up (Pick.t (Pick.t (Pick.t (Pick.t (Pick.t (Pick.t (Pick.t (Pick.t (Pick.t (Pick.t (Pick.t (Pick.t (Pick.t (Pick.t (Pick.t (Pick.t (Pick.t (Pick.t (Pick.t (Pick.t J0))))))))))))))))))))).drop rfl
            exact ⟨(b_374, b_418, la_432, lc_433, lx_434), (U4 rfl rfl rfl rfl (U4 rfl rfl rfl rfl (U4 rfl rfl rfl rfl (U4 rfl rfl rfl rfl (U4 rfl rfl rfl rfl (Ag.refl _ _)))))), ⟨rfl, rfl, rfl, rfl, rfl, rfl, rfl, rfl, rfl, rfl, rfl, rfl, rfl, rfl, rfl, rfl, rfl, rfl, rfl, rfl, trivial⟩, h_459⟩
          ·refine oN rfl ?_
           refine WL.alloc (segs := [(32, (zB 32).map vu8)]) h_372 (zv typeInfo23 rfl) rfl (sC (s8 lr) sN) rfl (fun b_460 w_461 h_462 => ?_)
           refine WL.nil ?_
           refine ⟨(N1_2_3_4_5_6_7_8_9_15_16_17_18 h_462.ok), ?_⟩
           refine WT.s (oN rfl ?_)
           refine WL.buildSl (vs := [(0, (.slice ((es.getD i zAe).a) ((es.getD i zAe).data.length) ((es.getD i zAe).c)))]) (cs := [(.slice ((es.getD i zAe).a) ((es.getD i zAe).data.length) ((es.getD i zAe).c))]) h_462 underlying101 sizeOf54 (zv typeInfo54 rfl) rfl rfl (by kernel_rfl) rfl (by simp [Value.oneCell']) rfl rfl (fun b_463 w_464 h_465 => ?_)
           refine WL.nil ?_
           refine ⟨(N2_3_4_5_6_7_8_9_10_16_17_18_19 h_465.ok), ?_⟩
           refine WT.s (oN rfl ?_)
           have h_466 := HP_blkView h_465
           have hbl_467 : ∀ b ∈ sblks [(.slice ((es.getD i zAe).a) ((es.getD i zAe).data.length) ((es.getD i zAe).c))], ∃ e ∈ ([.view (some ⟨b_463, 0, none⟩) [(.slice ((es.getD i zAe).a) ((es.getD i zAe).data.length) ((es.getD i zAe).c))], .blk b_460 .nw 23 [(32, (List.replicate 32 (0 : UInt8)).map vu8)], .blk b_366 .nw 23 [(32, (gD false ([] : List UInt8) 0 ((brS false ([] : List UInt8) 0 ms es k).1) ((brS false ([] : List UInt8) 0 ms es k).2) (3, ms, ((es.getD i zAe).dm), [(es.getD i zAe).data].flatten)).map vu8)], .blk b_20 .nw 90 [(1, [(.bool false)]), (32, ms.map vu8), (1, [(.slice a_22 0 c_23)]), (1, [(vi (((brS false ([] : List UInt8) 0 ms es k).1 : Nat) : Int))]), (1, [(.map (some b_21))]), (1, [(.slice la_367 ((brS false ([] : List UInt8) 0 ms es k).2.length) lc_368)])], .row la_367 ((brS false ([] : List UInt8) 0 ms es k).2.length) lc_368 64 67 lx_369, .obj b_21 .nw (.map (mArr ((brS false ([] : List UInt8) 0 ms es k).2)) ((brS false ([] : List UInt8) 0 ms es k).2.length)), .pin (sblks lx_369) (fun w => Lgs w lx_369 ((brS false ([] : List UInt8) 0 ms es k).2)), .view a_22 (([] : List UInt8).map vu8), .pin (sblks [(.slice ((es.getD i zAe).a) ((es.getD i zAe).data.length) ((es.getD i zAe).c))]) (fun w => Sls w [(.slice ((es.getD i zAe).a) ((es.getD i zAe).data.length) ((es.getD i zAe).c))] [(es.getD i zAe).data]), .view (some ⟨b_365, 0, none⟩) [(.slice ((es.getD i zAe).a) ((es.getD i zAe).data.length) ((es.getD i zAe).c))], .view ((es.getD i zAe).a) (((es.getD i zAe).data).map vu8), .blk b_169 .nw 90 [(1, [(.bool true)]), (32, ms.map vu8), (1, [(.slice a_171 g c_172)]), (1, [(vi (((brS true (ansB (brS false ([] : List UInt8) 0 ms es k).2 g) g ms es i).1 : Nat) : Int))]), (1, [(.map (some b_170))]), (1, [(.slice la4 ((brS true (ansB (brS false ([] : List UInt8) 0 ms es k).2 g) g ms es i).2.length) lc4)])], .row la4 ((brS true (ansB (brS false ([] : List UInt8) 0 ms es k).2 g) g ms es i).2.length) lc4 64 67 lx4, .obj b_170 .nw (.map (mArr ((brS true (ansB (brS false ([] : List UInt8) 0 ms es k).2 g) g ms es i).2)) ((brS true (ansB (brS false ([] : List UInt8) 0 ms es k).2 g) g ms es i).2.length)), .pin (sblks lx4) (fun w => Lgs w lx4 ((brS true (ansB (brS false ([] : List UInt8) 0 ms es k).2 g) g ms es i).2)), .view a_171 ((ansB (brS false ([] : List UInt8) 0 ms es k).2 g).map vu8), .view ar (aesC es), .pin (akBs es) (fun w => Aks w es), .row a_125 ((brS false ([] : List UInt8) 0 ms es k).2.length) c_126 64 67 ys_127, .pin (sblks ys_127) (fun w => Lgs w ys_127 ((brS false ([] : List UInt8) 0 ms es k).2))] : List Ent), e.mut = false ∧ b ∈ e.blocks := by
            intro b hb
            rcases List.mem_append.1 hb with hb | hb
            ·exact ⟨_, M10, rfl, sblk_in_view (rfl : List.length ((es.getD i zAe).data) = (es.getD i zAe).data.length) b hb⟩
            cases hb
           have h_468 := HP_within (e' := .pin (sblks [(.slice ((es.getD i zAe).a) ((es.getD i zAe).data.length) ((es.getD i zAe).c))]) (fun w => Sls w [(.slice ((es.getD i zAe).a) ((es.getD i zAe).data.length) ((es.getD i zAe).c))] [(es.getD i zAe).data])) h_466 (Sls.pin (Sls.cons (rfl : List.length ((es.getD i zAe).data) = (es.getD i zAe).data.length) (by omega) (viewV (h_466.ok _ M10)) Sls.nil)) rfl rfl hbl_467
           have h_475 := ((((((h_468.up J1).up J1).up J16).up J16).up J16).up J16).up J16
           refine WL.call Try.call24 rfl rfl (c_oKeyG true b_169 b_170 ms (ansB (brS false ([] : List UInt8) 0 ms es k).2 g) hms a_171 g c_172 ((brS true (ansB (brS false ([] : List UInt8) 0 ms es k).2 g) g ms es i).1) hgd la4 lc4 lx4 ((brS true (ansB (brS false ([] : List UInt8) 0 ms es k).2 g) g ms es i).2) (by first | decide | omega) (by first | decide | omega) (some ⟨b_463, 0, none⟩) 1 1 [(.slice ((es.getD i zAe).a) ((es.getD i zAe).data.length) ((es.getD i zAe).c))] [(es.getD i zAe).data] rfl ((es.getD i zAe).dm) (by omega) (by omega) _ h_475) rfl ?_
           rintro _ w_479 ⟨la_476, lc_477, lx_478, rfl, h_480⟩
           refine WL.nil ?_
           refine ⟨(N8_9_10_11_12_13_14_15_16_17_18_19_20 h_480.ok), ?_⟩
           refine qT rfl rfl (fun wq hS => R.move (v := (.tuple [(.agg ⟨(gD true (ansB (brS false ([] : List UInt8) 0 ms es k).2 g) g ((brS true (ansB (brS false ([] : List UInt8) 0 ms es k).2 g) g ms es i).1) ((brS true (ansB (brS false ([] : List UInt8) 0 ms es k).2 g) g ms es i).2) (3, ms, ((es.getD i zAe).dm), [(es.getD i zAe).data].flatten)).map vu8⟩), (vi (gE (3, ms, ((es.getD i zAe).dm), [(es.getD i zAe).data].flatten)))].toArray)) rfl) ?_
           refine qT rfl rfl (fun wq hS => R.extract rfl rfl) ?_
           refine qT rfl rfl (fun wq hS => R.extract rfl rfl) ?_
           refine WT.s (oN rfl ?_)
           refine WL.storeA [] [(32, (zB 32).map vu8)] [(32, (gD true (ansB (brS false ([] : List UInt8) 0 ms es k).2 g) g ((brS true (ansB (brS false ([] : List UInt8) 0 ms es k).2 g) g ms es i).1) ((brS true (ansB (brS false ([] : List UInt8) 0 ms es k).2 g) g ms es i).2) (3, ms, ((es.getD i zAe).dm), [(es.getD i zAe).data].flatten)).map vu8)] [] h_480 rfl rfl sizeOf23 Y7 (by decide) rfl rfl rfl rfl rfl rfl (sC (s8 (gD_len hgd hs32i)) sN) (fun w_481 h_482 => ?_)
           refine WL.nil ?_
           refine ⟨(N8_9_10_11_12_13_14_15_16_17_18_19_20 h_482.ok), ?_⟩
           refine qT rfl rfl (fun wq hS => R.assign (v := (vi (gE (3, ms, ((es.getD i zAe).dm), [(es.getD i zAe).data].flatten)))) rfl) ?_
           refine WT.nil (thn_n ?_)
           have h_483 := h_482.up (Pick.t (Pick.t (Pick.t (Pick.t (Pick.t (Pick.t (Pick.t (Pick.t (Pick.t (Pick.t (Pick.t (Pick.t (Pick.t (Pick.t (Pick.t (Pick.t (Pick.t (Pick.t (Pick.t (Pick.t J0))))))))))))))))))))
           have h_484 := h_483.up (Pick.t (Pick.t (Pick.t (Pick.t (Pick.t (Pick.t (Pick.t (Pick.t (Pick.t (Pick.t (Pick.t (Pick.t (Pick.t (Pick.t (Pick.t (Pick.t (Pick.t (Pick.t (Pick.t (Pick.t J0))))))))))))))))))))
           have h_485 := h_484.up (Pick.t (Pick.t (Pick.t (Pick.t (Pick.t (Pick.t (Pick.t (Pick.t (Pick.t (Pick.t (Pick.t (Pick.t (Pick.t (Pick.t (Pick.t (Pick.t (Pick.t (Pick.t (Pick.t (Pick.t J0))))))))))))))))))))
           have h_486 := h_485.up (Pick.t (Pick.t (Pick.t (Pick.t (Pick.t (Pick.t (Pick.t (Pick.t (Pick.t (Pick.t (Pick.t (Pick.t (Pick.t (Pick.t (Pick.t (Pick.t (Pick.t (Pick.t (Pick.t (Pick.t J0))))))))))))))))))))
           have h_487 := h_486.up (Pick.t (Pick.t (Pick.t (Pick.t (Pick.t (Pick.t (Pick.t (Pick.t (Pick.t (Pick.t (Pick.t (Pick.t (Pick.t (Pick.t (Pick.t (Pick.t (Pick.t (Pick.t (Pick.t (Pick.t J0))))))))))))))))))))
           have h_488 := h_487.up (Pick.t (Pick.t (Pick.t (Pick.t (Pick.t (Pick.t (Pick.t (Pick.t (Pick.t (Pick.t (Pick.t (Pick.t (Pick.t (Pick.t (Pick.t (Pick.t (Pick.t (Pick.t (Pick.t (Pick.t J0))))))))))))))))))))
           have h_502 := (((((((((((((h_488.up J19).up J19).up J19).up J19).up J19).up J19).up J18).up J18).up J18).up J18).up J18).up J18).up J18).up J19
           have h_503 := (h_502.up (Pick.t (Pick.t (Pick.t (Pick.t (Pick.t (Pick.t (Pick.t (Pick.t (Pick.t (Pick.t (Pick.t (Pick.t (Pick.t (Pick.t (Pick.t (Pick.t (Pick.t (Pick.t (Pick.t (Pick.t J0))))))))))))))))))))).drop rfl
           exact ⟨(b_463, b_460, la_476, lc_477, lx_478), (U4 rfl rfl rfl rfl (U4 rfl rfl rfl rfl (U4 rfl rfl rfl rfl (U4 rfl rfl rfl rfl (U4 rfl rfl rfl rfl (Ag.refl _ _)))))), ⟨rfl, rfl, rfl, rfl, rfl, rfl, rfl, rfl, rfl, rfl, rfl, rfl, rfl, rfl, rfl, rfl, rfl, rfl, rfl, rfl, trivial⟩, h_503⟩
         ·rintro ⟨b_507, b_508, la_509, lc_510, lx_511⟩ J_504 w_505 h_506
          refine thn_n (WP.seq (WP.reg ?_))
          refine qV rfl (R.loadA [] [(32, (gD false ([] : List UInt8) 0 ((brS false ([] : List UInt8) 0 ms es k).1) ((brS false ([] : List UInt8) 0 ms es k).2) (3, ms, ((es.getD i zAe).dm), [(es.getD i zAe).data].flatten)).map vu8)] [] (cs := (gD false ([] : List UInt8) 0 ((brS false ([] : List UInt8) 0 ms es k).1) ((brS false ([] : List UInt8) 0 ms es k).2) (3, ms, ((es.getD i zAe).dm), [(es.getD i zAe).data].flatten)).map vu8) rfl isAgg23 sizeOf23 (h_506.ok _ M8) rfl rfl rfl rfl) (qV rfl (R.loadA [] [(32, (gD true (ansB (brS false ([] : List UInt8) 0 ms es k).2 g) g ((brS true (ansB (brS false ([] : List UInt8) 0 ms es k).2 g) g ms es i).1) ((brS true (ansB (brS false ([] : List UInt8) 0 ms es k).2 g) g ms es i).2) (3, ms, ((es.getD i zAe).dm), [(es.getD i zAe).data].flatten)).map vu8)] [] (cs := (gD true (ansB (brS false ([] : List UInt8) 0 ms es k).2 g) g ((brS true (ansB (brS false ([] : List UInt8) 0 ms es k).2 g) g ms es i).1) ((brS true (ansB (brS false ([] : List UInt8) 0 ms es k).2 g) g ms es i).2) (3, ms, ((es.getD i zAe).dm), [(es.getD i zAe).data].flatten)).map vu8) rfl isAgg23 sizeOf23 (h_506.ok _ M0) rfl rfl rfl rfl) (qV rfl (R.neA (xs := (gD false ([] : List UInt8) 0 ((brS false ([] : List UInt8) 0 ms es k).1) ((brS false ([] : List UInt8) 0 ms es k).2) (3, ms, ((es.getD i zAe).dm), [(es.getD i zAe).data].flatten)).map vu8) (ys := (gD true (ansB (brS false ([] : List UInt8) 0 ms es k).2 g) g ((brS true (ansB (brS false ([] : List UInt8) 0 ms es k).2 g) g ms es i).1) ((brS true (ansB (brS false ([] : List UInt8) 0 ms es k).2 g) g ms es i).2) (3, ms, ((es.getD i zAe).dm), [(es.getD i zAe).data].flatten)).map vu8) (r := false) rfl rfl eqGuardType23 kt23 (by decide) ag23 (Typ.u8s underlying23 ce23 underlying5 ce5 (gD_len (rfl : List.length ([] : List UInt8) = 32 * 0) hs32k)) (Typ.u8s underlying23 ce23 underlying5 ce5 (gD_len hgd hs32i)) (neT (congrArg (List.map vu8) hbv))) (qM (.bool false) rfl rfl ?_)))
          refine WL.want rfl rfl ?_
          refine qM (vi (gE (3, ms, ((es.getD i zAe).dm), [(es.getD i zAe).data].flatten))) rfl rfl ?_
          refine WL.want rfl rfl ?_
          refine qM (vi (gE (3, ms, ((es.getD i zAe).dm), [(es.getD i zAe).data].flatten))) rfl rfl ?_
          refine WL.want rfl rfl ?_
          refine qV rfl (R.bin rfl rfl (bi_neq (r := false) (by simp))) (qV rfl (R.pickF (v := (.bool false)) rfl rfl) ?_)
          refine WL.nil (thn_n ?_)
          refine WP.condF rfl ?_
          refine WP.skip (inb_n (thn_n (WP.reg ?_)))
          refine qM (vn i) rfl rfl (qV rfl (R.bin rfl rfl (bi_add (c := ((i + 1 : Nat) : Int)) (by omega) (by omega))) (qA (vn (i + 1)) rfl rfl ?_))
          refine WL.nil (thn_n ?_)
          have h_536 := ((((((((((((((((((((((((h_506.drop rfl).up J5).drop rfl).up J5).drop rfl).up J5).drop rfl).up J10).drop rfl).up J10).drop rfl).up J13).up J13).up J13).up J13).up J8).up J8).up J8).up J8).up J8).up J13).up J13).up J13).up J13).up J13
          exact ⟨(i + 1, la_367, lc_368, lx_369, la_509, lc_510, lx_511), _, (by omega), (Ag.upd rfl (U2 rfl rfl (U4 rfl rfl rfl rfl (U4 rfl rfl rfl rfl (Ag.updL rfl (Ag.trans (Ag.sub rfl (Ag.mix _ _ _)) (Ag.updL rfl (Ag.trans (Ag.sub rfl (Ag.mix _ _ _)) (Ag.upd rfl (Ag.upd rfl (Ag.upd rfl (Ag.upd rfl (Ag.upd rfl (Ag.upd rfl (Ag.upd rfl (Ag.upd rfl (Ag.upd rfl (Ag.upd rfl (Ag.upd rfl (Ag.upd rfl (Ag.upd rfl (Ag.upd rfl (Ag.upd rfl (Ag.upd rfl (Ag.updL rfl (Ag.mix _ _ _)))))))))))))))))))))))))), ⟨rfl, trivial⟩, (by rw [brS_5 p_255]; exact h_536), (by omega), rfl⟩
       ·have p_537 := of_decide_eq_false c_254
        refine WP.skip (inb_n (thn_n (WP.reg ?_)))
        refine qM (vn i) rfl rfl (qV rfl (R.bin rfl rfl (bi_add (c := ((i + 1 : Nat) : Int)) (by omega) (by omega))) (qA (vn (i + 1)) rfl rfl ?_))
        refine WL.nil (thn_n ?_)
        have h_552 := ((((((((((((((h_199.drop rfl).up J13).up J13).up J13).up J13).up J13).up J13).up J13).up J13).up J13).up J13).up J13).up J13).up J13).up J13
        exact ⟨(i + 1, la3, lc3, lx3, la4, lc4, lx4), _, (by omega), (Ag.upd rfl (U2 rfl rfl (U4 rfl rfl rfl rfl (U4 rfl rfl rfl rfl (U4 rfl rfl rfl rfl (U4 rfl rfl rfl rfl (Ag.updL rfl (Ag.mix _ _ _)))))))), ⟨rfl, trivial⟩, (by rw [brS_0 p_253 p_537]; exact h_552), (by omega), rfl⟩
     ·have p_553 := of_decide_eq_false c_197
      refine WP.exit (thn_x (thn_x (inb_hit (thn_n (WP.seq ?_)))))
      have hir : i = k := by omega
      rw [(br_end hgl hir).1, (br_end hgl hir).2] at h_194
      refine WP.reg ?_
      refine qM (pO b_169 0) rfl rfl ?_
      have h_558 := ((((h_194.up J9).up J9).up J9).up J9).up J9
      refine WL.call Try.call25 rfl rfl (c_oLog true b_169 b_170 ms (ansB (brS false ([] : List UInt8) 0 ms es k).2 g) hms a_171 g c_172 ((brS false ([] : List UInt8) 0 ms es k).2.length) hgd la4 lc4 lx4 ((brS false ([] : List UInt8) 0 ms es k).2) (by first | decide | omega) (by first | decide | omega) _ h_558) rfl ?_
      rintro _ w_562 ⟨a_559, c_560, ys_561, rfl, h_563⟩
      refine qM (.slice a_125 ((brS false ([] : List UInt8) 0 ms es k).2.length) c_126) rfl rfl ?_
      refine WL.call Try.call26 rfl rfl (c_rSameLog a_559 ((brS false ([] : List UInt8) 0 ms es k).2.length) c_560 ys_561 ((brS false ([] : List UInt8) 0 ms es k).2) rfl (by omega) a_125 c_126 ys_127 _ (ownView (h_563.ok _ M0)) (h_563.ok _ M1).1 (ownView (h_563.ok _ M14)) (h_563.ok _ M15).1) rfl ?_
      rintro _ w_565 ⟨rfl, hc_564⟩
      have h_566 := h_563.same hc_564
      refine qV rfl (R.move (v := (.bool true)) (rfl)) ?_
      refine WL.want rfl rfl ?_
      refine WL.call Try.call22 rfl rfl (c_known05  _ ) rfl ?_
      rintro _ w_568 ⟨rfl, hc_567⟩
      have h_569 := h_566.same hc_567
      refine qV rfl (R.pickT (v := (.bool true)) rfl rfl) (qA (.bool true) rfl rfl ?_)
      refine WL.nil (thn_n (WP.ret ?_))
      refine ret_of results5 (RV.tmp (v := (.bool true)) rfl RV.nil) ?_
      exact ⟨rfl, h_569.chgS⟩
namespace oracleBridgeDone
open Go.ChangeShapes Go.WideShapes Go.ChangeAt
theorem own : ownKnob Try.prog.godebug = none := by kernel_rfl
theorem laidOut : laidOutB Try.prog = true := by kernel_rfl
set_option maxRecDepth 100000 in
theorem lifted (os : Os) (started : os.Started) (H : Type) (enc : TypeId × Value → H) :
  ReturnsInHanded {} Try.checked os 5 .any (Rows.oracleBridgeSpec.pre6 enc Try.prog Try.f5 Rows.oracleBridgeRow.domain false) (Rows.oracleBridgeSpec.post enc Try.prog Try.f5 false true false false) := by
 refine returnsInHanded_of_change (C := Try.checked) own started (by kernel_rfl) Try.func5
  (ChangeSpec.witness6 (enc := enc) (C := Try.checked) false ⟨#[], #[.agg #[.int .u8 0, .int .u8 0, .int .u8 0, .int .u8 0, .int .u8 0, .int .u8 0, .int .u8 0, .int .u8 0, .int .u8 0, .int .u8 0, .int .u8 0, .int .u8 0, .int .u8 0, .int .u8 0, .int .u8 0, .int .u8 0, .int .u8 0, .int .u8 0, .int .u8 0, .int .u8 0, .int .u8 0, .int .u8 0, .int .u8 0, .int .u8 0, .int .u8 0, .int .u8 0, .int .u8 0, .int .u8 0, .int .u8 0, .int .u8 0, .int .u8 0, .int .u8 0], .slice none 0 0], []⟩ 8 (by kernel_rfl) (by kernel_rfl) (by kernel_rfl) (by kernel_rfl)) ?_
 intro W base args ds gs before hval0 hW hcnd _
 have hval : ∀ (j : Nat) t v, Try.f5.params[j]? = some t → args[j]? = some v → Value.okWide Try.prog W .any base t v := hval0
 have hW' := hW
 obtain ⟨p, q, hA0, hV, rfl, hfz, hnd⟩ := hW
 have hA : DataW.TrodAll enc Try.prog W 0 (fun _ => true) true Try.f5.params.toList args.toList ds p := hA0
 rw [Try.params5] at hA hval
 obtain ⟨v0, vs0, d0, ds0, p0, q0, hargs, rfl, rfl, h0, r0⟩ := trodAll_cons hA
 obtain ⟨v1, vs1, d1, ds1, p1, q1, rfl, rfl, rfl, h1, r1⟩ := trodAll_cons r0
 obtain ⟨rfl, rfl, rfl⟩ := trodAll_nil r1
 obtain rfl : args = #[v0, v1] := by cases args; simp_all
 obtain ⟨rfl, rfl⟩ := trodVars_none hV
 have lt0 : ∀ x ∈ p0, x.block < W.heap.size := by obtain ⟨m, hm⟩ := h0; exact DataW.trod_lt m _ _ _ hm
 obtain ⟨cs0, rfl⟩ := okWide_agg aggT23 (hval 0 23 v0 rfl rfl)
 have tr0 : Tr Try.prog W 23 cs0 := Tr.of h0 rfl
 obtain ⟨x0, rfl, l_x0⟩ := Tr.arr8 underlying23 ce23 ce5 underlying5 tr0
 have lt1 : ∀ x ∈ p1, x.block < W.heap.size := by obtain ⟨m, hm⟩ := h1; exact DataW.trod_lt m _ _ _ hm
 obtain ⟨a1, n1, c1, rfl⟩ := okWide_slice underlying50 (hval 1 50 v1 rfl rfl)
 obtain ⟨a1, n1, c1, x1, e1, l_x1, hc1, hm1, hr1, hv1⟩ := trAk W (Tr.of h1 rfl)
 cases e1
 clear hA0 hval0
 have hw : Cs Try.prog 5 [(.agg ⟨x0.map vu8⟩), (.slice a1 n1 c1)].toArray W (fun v w1 => v = .bool true ∧ Chg W w1 []) := w_OracleBridge x0 l_x0 a1 n1 c1 x1 l_x1 hr1.1 hc1 hm1 W hv1.1 hr1.2
 have ea : ([(.agg ⟨x0.map vu8⟩), (.slice a1 n1 c1)] : List Value).toArray = (#[.agg ⟨x0.map vu8⟩, (.slice a1 n1 c1)] : Array Value) := by simp [flat]
 rw [ea] at hw
 refine Calls.mono (Cs.below hw) fun e W' ⟨he, bel⟩ => ?_
 subst he
 exact ⟨_, rfl, _, _, _, [], _, [], hW', trodAll_mk1 (shut_bool underlying4 _), (trodAll_cons_mk (Below.trod laidOut (by kernel_rfl) (of_decide_eq_true (by kernel_rfl)) h0 bel lt0) (trodAll_cons_mk (Below.trod laidOut (by kernel_rfl) (of_decide_eq_true (by kernel_rfl)) h1 bel lt1) trodAll_mk0)), rfl, bel.frame _, fun h => by cases h⟩
theorem over : Rows.oracleBridgeRow.holds Try.pinned (OpenSpec.ofChange Rows.oracleBridgeSpec) :=
 OpenClaim.holds_of_wide 5 Try.f5 rfl rfl rfl rfl rfl rfl rfl ⟨rfl, rfl, rfl, rfl, rfl⟩ rfl rfl rfl rfl rfl (by kernel_rfl) Try.func5 (by kernel_rfl)
  (of_decide_eq_true (by kernel_rfl)) (by unfold Func.isWrapper; first | (rw [if_pos (by decide +kernel)]; kernel_rfl) | (rw [if_neg (by decide +kernel)]; exact ⟨rfl, rfl⟩))
  (fun os started H enc _ => lifted os started H enc)
theorem proved : Rows.OracleBridgeSaid := over
end oracleBridgeDone
end Go.Proofs.Yteclkcpdclimnaa
