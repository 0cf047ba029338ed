/- AttestIssues holds of every input. Conditions: none. -/
import Derived.Test.YtnhppjimimhlkaaZ6AttestIssues
set_option linter.unusedVariables false
set_option linter.unusedSimpArgs false
set_option linter.unusedSectionVars false
namespace Go.Proofs.Ytnhppjimimhlkaa
open Go.Vc Go.Orc Go.Sh Go.RowKit
set_option linter.unusedVariables false
set_option linter.unusedSimpArgs false
set_option maxRecDepth 20000
theorem aggT26 : aggB Try.prog 26 = true := by unfold aggB; rw [Try.underlying26]
theorem ce26 : Try.prog.cellsOf 26 = 34 := by kernel_rfl
theorem w_AttestIssues (id : Bool) (ms df : List UInt8) (hms : ms.length = 32) (da0 : Option Addr) (n cap0 : Nat) (hl : df.length = 32 * n) (ar : Option Addr) (nr cr : Nat) (rs : List Rp) (hrl : rs.length = nr) (hrs : ∀ r ∈ rs, okRp r) (w : World) (hv : View w da0 (df.map vu8)) (hvr : View w ar (rsC rs)) :
  Cs Try.prog 6 [(.agg ⟨flat [(1, [(.bool id)]), (32, ms.map vu8), (1, [(.slice da0 n cap0)])]⟩), (.slice ar nr cr)].toArray w (fun v w1 => v = (.bool true) ∧ Chg w w1 []) := by
 refine Cs.of (n := 64) (args := [(.agg ⟨flat [(1, [(.bool id)]), (32, ms.map vu8), (1, [(.slice da0 n cap0)])]⟩), (.slice ar nr cr)]) Try.func6 rfl rfl rfl ?_
 have h_0 := HP.init w
 have h_01 := h_0.oldV (View.arg hv) rfl (by simp [Ent.mut])
 have h_00 := h_01.oldV (View.arg hvr) rfl (by simp [Ent.mut])
 refine WP.seq (WP.reg ?_)
 refine WL.box (v := (.agg ⟨flat [(1, [(.bool id)]), (32, ms.map vu8), (1, [(.slice da0 n cap0)])]⟩)) (segs := [(1, [(.bool id)]), (32, ms.map vu8), (1, [(.slice da0 n cap0)])]) h_00 rfl rfl (SsOk.cons (SOk.v rfl) (SsOk.cons (SOk.u8 hms) (SsOk.cons (SOk.v rfl) SsOk.nil))) rfl (fun b_1 w_2 h_3 => ?_)
 refine qA (.bool false) rfl rfl ?_
 refine WL.nil (thn_n (WP.seq (WP.seq (WP.reg ?_))))
 refine qV rfl (R.fieldAddr (b := b_1) (off := 0) (off' := 33) rfl Try.underlying26 rfl Try.sizeOf24 rfl rfl) (qV rfl (R.load1 (b := b_1) (off := 33) (v := (.slice da0 n cap0)) rfl Try.isAgg24 (h_3.ok _ M0) (Sg.t rfl (Sg.t rfl Sg.h))) (qV rfl (R.lenS (a := da0) (m := n) rfl rfl Try.underlying24) (qV rfl (R.bin rfl rfl (bi_gtr (r := decide ((((n : Nat) : Int) : Int) > 60)) rfl)) (qM (.bool (decide ((((n : Nat) : Int) : Int) > 60))) rfl rfl ?_))))
 rcases Bool.eq_false_or_eq_true (decide ((((n : Nat) : Int) : Int) > 60)) with c_4 | c_4
 ·have p_5 := of_decide_eq_true c_4
  refine WL.skip rfl (congrArg Value.bool c_4) rfl ?_
  refine WL.skip rfl (congrArg Value.bool c_4) rfl ?_
  refine WL.skip rfl (congrArg Value.bool c_4) rfl ?_
  refine qV rfl (R.pickT (v := (.bool true)) (congrArg Value.bool c_4) rfl) ?_
  refine WL.nil (thn_n ?_)
  refine WP.condT rfl ?_
  refine WP.seq (WP.reg ?_)
  refine WL.call Try.call11 rfl rfl (c_known19  _ ) rfl ?_
  rintro _ w_7 ⟨rfl, hc_6⟩
  have h_8 := h_3.same hc_6
  refine qA (.bool true) rfl rfl ?_
  refine WL.nil (thn_n (WP.ret (thn_r ?_)))
  refine ret_of Try.results6 (RV.tmp (v := (.bool true)) rfl RV.nil) ?_
  exact ⟨rfl, h_8.chgS⟩
 ·have p_9 := of_decide_eq_false c_4
  refine WL.want rfl (congrArg Value.bool c_4) ?_
  refine qM (.slice ar nr cr) rfl rfl ?_
  refine WL.want rfl (congrArg Value.bool c_4) ?_
  refine qV rfl (R.lenS (a := ar) (m := nr) rfl rfl Try.underlying27) ?_
  refine WL.want rfl (congrArg Value.bool c_4) ?_
  refine qV rfl (R.bin rfl rfl (bi_gtr (r := decide ((((nr : Nat) : Int) : Int) > 30)) rfl)) (qV rfl (R.pickF (v := (.bool (decide ((((nr : Nat) : Int) : Int) > 30)))) (congrArg Value.bool c_4) rfl) ?_)
  refine WL.nil (thn_n ?_)
  refine WP.cond (b := decide ((((nr : Nat) : Int) : Int) > 30)) rfl (fun c_10 => ?_) (fun c_10 => ?_)
  ·have p_11 := of_decide_eq_true c_10
   refine WP.seq (WP.reg ?_)
   refine WL.call Try.call11 rfl rfl (c_known19  _ ) rfl ?_
   rintro _ w_13 ⟨rfl, hc_12⟩
   have h_14 := h_3.same hc_12
   refine qA (.bool true) rfl rfl ?_
   refine WL.nil (thn_n (WP.ret (thn_r ?_)))
   refine ret_of Try.results6 (RV.tmp (v := (.bool true)) rfl RV.nil) ?_
   exact ⟨rfl, h_14.chgS⟩
  ·have p_15 := of_decide_eq_false c_10
   refine WP.skip (thn_n (WP.seq (WP.reg ?_)))
   refine qV rfl (R.loadA (b := b_1) (off := 0) [] [(1, [(.bool id)]), (32, ms.map vu8), (1, [(.slice da0 n cap0)])] [] (cs := flat [(1, [(.bool id)]), (32, ms.map vu8), (1, [(.slice da0 n cap0)])]) rfl Try.isAgg26 Try.sizeOf26 (h_3.ok _ M0) rfl rfl rfl rfl) ?_
   have h_16 := h_3.up J2
   refine WL.call Try.call12 rfl rfl (c_both19 id ms df hms da0 n cap0 hl (by omega) _ h_16) rfl ?_
   rintro _ w_22 ⟨b_17, b_18, a_19, c_20, b_21, rfl, h_23⟩
   have h_24 := h_23.rowNil 111 67
   have h_25 := HP_logNil h_24
   refine qM (.tuple [(pO b_17 0), (pO b_21 0)].toArray) rfl rfl (qV rfl (R.extract rfl rfl) (qV rfl (R.extract rfl rfl) (qA (pO b_17 0) rfl rfl (qA (pO b_21 0) rfl rfl ?_))))
   refine WL.nil (thn_n (WP.seq (WP.seq (WP.reg ?_))))
   refine qA (vi 0) rfl rfl ?_
   refine WL.nil (thn_n (WP.block ?_))
   have h_36 := ((((((((((h_25.up J9).up J10).up J10).up J8).up J7).up J10).up J10).up J7).up J10).up J9).up J10
   refine WP.loopG (G := Nat × Option Addr × Nat × List Value × Option Addr × Nat × List Value) [4, 7, 8, 9, 25, 26, 27, 28, 29, 30, 31, 32, 33, 34, 35, 36, 37, 38, 39, 40, 41, 42, 43, 44, 45, 46, 47, 48, 49, 50, 51, 52, 53] (fun (k, la2, lc2, lx2, la3, lc3, lx3) => [(7, (vn k))]) (fun (k, la2, lc2, lx2, la3, lc3, lx3) m w1 => HP w w1 [.blk b_17 .nw 50 [(1, [(.bool id)]), (32, ms.map vu8), (1, [(.slice a_19 n c_20)]), (1, [(vn ((isS id df n ms rs k).1))]), (1, [(.map (some b_18))]), (1, [(.slice la2 ((isS id df n ms rs k).2.length) lc2)])], .row la2 ((isS id df n ms rs k).2.length) lc2 111 67 lx2, .obj b_18 .nw (.map (mArr ((isS id df n ms rs k).2)) ((isS id df n ms rs k).2.length)), .pin (sblks lx2) (fun w => Lgs w lx2 ((isS id df n ms rs k).2)), .view a_19 (df.map vu8), .blk b_21 .nw 64 [(1, [(.bool id)]), (32, ms.map vu8), (1, [(.slice da0 n cap0)]), (1, [(vn ((isS id df n ms rs k).1))]), (1, [(.slice la3 ((isS id df n ms rs k).2.length) lc3)])], .row la3 ((isS id df n ms rs k).2.length) lc3 111 67 lx3, .pin (sblks lx3) (fun w => Lgs w lx3 ((isS id df n ms rs k).2)), .view da0 (df.map vu8), .view ar (rsC rs), .blk b_1 .nw 26 [(1, [(.bool id)]), (32, ms.map vu8), (1, [(.slice da0 n cap0)])]] ∧ (k ≤ nr) ∧ m = nr + 1 - k) ⟨(0, none, 0, [], none, 0, []), _, ⟨rfl, trivial⟩, h_36, Nat.zero_le _, rfl⟩ ?_
   rintro ⟨k, la2, lc2, lx2, la3, lc3, lx3⟩ m_39 J_40 w_37 ⟨h_38, hkn, rfl⟩
   have hsu := isS_u (id := id) (df := df) (dn := n) (ms := ms) (rs := rs) k
   have hsl := isS_l (id := id) (df := df) (dn := n) (ms := ms) (rs := rs) k
   have hs32 := isS_32 (id := id) (ms := ms) (rs := rs) hl k
   refine WP.seq (WP.seq (WP.reg ?_))
   refine qM (vn k) rfl rfl (qM (.slice ar nr cr) rfl rfl (qV rfl (R.lenS (a := ar) (m := nr) rfl rfl Try.underlying27) (qV rfl (R.bin rfl rfl (bi_lss (r := decide ((((k : Nat) : Int) : Int) < ((nr : Nat) : Int))) rfl)) ?_)))
   refine WL.nil (thn_n ?_)
   refine WP.cond (b := decide ((((k : Nat) : Int) : Int) < ((nr : Nat) : Int))) rfl (fun c_41 => ?_) (fun c_41 => ?_)
   ·have p_42 := of_decide_eq_true c_41
    refine WP.skip (thn_n (WP.seq (WP.block (WP.seq ?_))))
    have hkl : k < rs.length := by omega
    have hkr : okRp (rs.getD k zRp) := hrs _ (getD_mem hkl)
    refine WP.reg ?_
    refine qM (pO b_17 0) rfl rfl (qM (.slice ar nr cr) rfl rfl (qM (vn k) rfl rfl (qV rfl (R.indexS (a := ar) (i := k) (off := k * 65) (xs := rsC rs) rfl rfl rfl (by omega) (viewV (h_38.ok _ M9)) (by rw [rsC_len hrs]; omega) Try.underlying27 Try.sizeOf30 rfl) (qV rfl (R.loadGA (a := ar) (i := k * 65) (xs := rsC rs) (cs := flat [(1, [(vu64 ((rs.getD k zRp).1))]), (32, ((rs.getD k zRp).2.1).map vu8), (32, ((rs.getD k zRp).2.2).map vu8)]) rfl (viewV (h_38.ok _ M9)) Try.isAgg30 Try.sizeOf30 (rsC_at hrs hkl) (rpC_len hkr) (by decide)) ?_))))
    have h_47 := ((((h_38.up J4).up J4).up J4).up J4).up J4
    refine WL.call Try.call13 rfl rfl (c_Iss id b_17 b_18 ms df hms a_19 n c_20 ((isS id df n ms rs k).1) hl la2 lc2 lx2 ((isS id df n ms rs k).2) (by omega) (by omega) ((rs.getD k zRp).1) ((rs.getD k zRp).2.1) ((rs.getD k zRp).2.2) hkr.1 hkr.2 _ h_47) rfl ?_
    rintro _ w_53 ⟨a_48, c_49, la_50, lc_51, lx_52, rfl, h_54⟩
    have hq_55 := (h_54.own M0).2.2.1
    refine qM (.tuple [(.slice a_48 112 c_49), (vi 0)].toArray) rfl rfl (qV rfl (R.extract rfl rfl) (qV rfl (R.extract rfl rfl) (qA (.slice a_48 112 c_49) rfl rfl (qA (vi 0) rfl rfl ?_))))
    refine WL.nil (thn_n (WP.seq (WP.reg ?_)))
    refine qM (vi 0) rfl rfl ?_
    refine WL.call Try.call14 rfl rfl (c_num19 0 (by omega) _ ) rfl ?_
    rintro _ w_57 ⟨rfl, hc_56⟩
    have h_58 := h_54.same hc_56
    refine qV rfl (R.bin rfl rfl (bi_neq (r := false) (by decide))) (qM (.bool false) rfl rfl ?_)
    refine WL.want rfl rfl ?_
    refine qM (.slice a_48 112 c_49) rfl rfl ?_
    refine WL.want rfl rfl ?_
    refine qM (pO b_21 0) rfl rfl ?_
    refine WL.want rfl rfl ?_
    refine qM (.slice ar nr cr) rfl rfl ?_
    refine WL.want rfl rfl ?_
    refine qM (vn k) rfl rfl ?_
    refine WL.want rfl rfl ?_
    refine qV rfl (R.indexS (a := ar) (i := k) (off := k * 65) (xs := rsC rs) rfl rfl rfl (by omega) (viewV (h_58.ok _ M10)) (by rw [rsC_len hrs]; omega) Try.underlying27 Try.sizeOf30 rfl) ?_
    refine WL.want rfl rfl ?_
    refine qV rfl (R.loadGA (a := ar) (i := k * 65) (xs := rsC rs) (cs := flat [(1, [(vu64 ((rs.getD k zRp).1))]), (32, ((rs.getD k zRp).2.1).map vu8), (32, ((rs.getD k zRp).2.2).map vu8)]) rfl (viewV (h_58.ok _ M10)) Try.isAgg30 Try.sizeOf30 (rsC_at hrs hkl) (rpC_len hkr) (by decide)) ?_
    refine WL.want rfl rfl ?_
    have h_62 := (((h_58.up J9).up J9).up J9).up J9
    refine WL.call Try.call23 rfl rfl (c_rIss id b_21 ms df hms da0 n cap0 ((isS id df n ms rs k).1) hl la3 lc3 lx3 ((isS id df n ms rs k).2) (by omega) (by omega) ((rs.getD k zRp).1) ((rs.getD k zRp).2.1) ((rs.getD k zRp).2.2) hkr.1 hkr.2 _ h_62) rfl ?_
    rintro _ w_68 ⟨a_63, c_64, la_65, lc_66, lx_67, rfl, h_69⟩
    refine WL.want rfl rfl ?_
    refine WL.call Try.call22 rfl rfl (c_SameR a_48 112 c_49 (repB ((rs.getD k zRp).1) ((rs.getD k zRp).2.1) ((rs.getD k zRp).2.2) ++ tgD id df n ((isS id df n ms rs k).1) ((isS id df n ms rs k).2) ms (repB ((rs.getD k zRp).1) ((rs.getD k zRp).2.1) ((rs.getD k zRp).2.2))) (iss_len (repB_len hkr.1 hkr.2) (tgD_len (dn := n) hl hs32)) a_63 112 c_64 (repB ((rs.getD k zRp).1) ((rs.getD k zRp).2.1) ((rs.getD k zRp).2.2) ++ tgD id df n ((isS id df n ms rs k).1) ((isS id df n ms rs k).2) ms (repB ((rs.getD k zRp).1) ((rs.getD k zRp).2.1) ((rs.getD k zRp).2.2))) (iss_len (repB_len hkr.1 hkr.2) (tgD_len (dn := n) hl hs32)) _ (ownView (h_69.ok _ M5)) (ownView (h_69.ok _ M0))) rfl ?_
    rintro _ w_71 ⟨rfl, hc_70⟩
    have h_72 := h_69.same hc_70
    refine WL.want rfl rfl ?_
    refine qV rfl (R.not (b := true) (congrArg Value.bool (decide_eq_true rfl))) (qV rfl (R.pickF (v := (.bool false)) rfl rfl) ?_)
    refine WL.nil (thn_n ?_)
    refine WP.condF rfl ?_
    refine WP.skip (inb_n (thn_n (WP.reg ?_)))
    refine qM (vn k) rfl rfl (qV rfl (R.bin rfl rfl (bi_add (c := ((k + 1 : Nat) : Int)) (by omega) (by omega))) (qA (vn (k + 1)) rfl rfl ?_))
    refine WL.nil (thn_n ?_)
    have h_86 := (((((((((((((h_72.drop rfl).up J4).drop rfl).up J10).up J10).up J5).up J5).up J5).up J5).up J10).up J10).up J10).up J10).up J10
    exact ⟨(k + 1, la_50, lc_51, lx_52, la_65, lc_66, lx_67), _, (by omega), (U4 rfl rfl rfl rfl (U4 rfl rfl rfl rfl (U4 rfl rfl rfl rfl (U4 rfl rfl rfl rfl (U4 rfl rfl rfl rfl (U4 rfl rfl rfl rfl (U4 rfl rfl rfl rfl (U4 rfl rfl rfl rfl (Ag.updL rfl (Ag.mix _ _ _)))))))))), ⟨rfl, trivial⟩, h_86, (by omega), rfl⟩
   ·have p_87 := of_decide_eq_false c_41
    refine WP.exit (thn_x (thn_x (inb_hit (thn_n (WP.seq ?_)))))
    refine WP.drawT (SL w.heap.size [.blk b_17 .nw 50 [(1, [(.bool id)]), (32, ms.map vu8), (1, [(.slice a_19 n c_20)]), (1, [(vn ((isS id df n ms rs k).1))]), (1, [(.map (some b_18))]), (1, [(.slice la2 ((isS id df n ms rs k).2.length) lc2)])], .row la2 ((isS id df n ms rs k).2.length) lc2 111 67 lx2, .obj b_18 .nw (.map (mArr ((isS id df n ms rs k).2)) ((isS id df n ms rs k).2.length)), .pin (sblks lx2) (fun w => Lgs w lx2 ((isS id df n ms rs k).2)), .view a_19 (df.map vu8), .blk b_21 .nw 64 [(1, [(.bool id)]), (32, ms.map vu8), (1, [(.slice da0 n cap0)]), (1, [(vn ((isS id df n ms rs k).1))]), (1, [(.slice la3 ((isS id df n ms rs k).2.length) lc3)])], .row la3 ((isS id df n ms rs k).2.length) lc3 111 67 lx3, .pin (sblks lx3) (fun w => Lgs w lx3 ((isS id df n ms rs k).2)), .view da0 (df.map vu8), .view ar (rsC rs), .blk b_1 .nw 26 [(1, [(.bool id)]), (32, ms.map vu8), (1, [(.slice da0 n cap0)])]]) (.q 0 (.q 2 (.q 3 (.q 4 (.q 5 (.s 1 (.s 6 (.q 7 (.s 8 (.q 9 (.q 10 .nil))))))))))) (by kernel_rfl) (by kernel_rfl) rfl (by kernel_rfl) (fun w_88 hc_90 => (SL.cons ((h_38.same hc_90).ok _ M0) (SL.cons ((h_38.same hc_90).ok _ M1) (SL.cons ((h_38.same hc_90).ok _ M2) (SL.cons ((h_38.same hc_90).ok _ M3) (SL.cons ((h_38.same hc_90).ok _ M4) (SL.cons ((h_38.same hc_90).ok _ M5) (SL.cons ((h_38.same hc_90).ok _ M6) (SL.cons ((h_38.same hc_90).ok _ M7) (SL.cons ((h_38.same hc_90).ok _ M8) (SL.cons ((h_38.same hc_90).ok _ M9) (SL.cons ((h_38.same hc_90).ok _ M10) (SL.nil _ _))))))))))))) (fun w_88 hc_90 => ?_)
    have h_89 := h_38.same hc_90
    refine qT rfl rfl (fun wq hS => R.move (v := (pO b_17 0)) rfl) ?_
    refine qT rfl rfl (fun wq hS => R.move (v := (pO b_21 0)) rfl) ?_
    refine qT rfl rfl (fun wq hS => R.nilCheck rfl) ?_
    refine qT rfl rfl (fun wq hS => R.fieldAddr (b := b_21) (off := 0) (off' := 35) rfl Try.underlying64 rfl Try.sizeOf48 rfl rfl) ?_
    refine qT rfl rfl (fun wq hS => R.load1 (b := b_21) (off := 35) (v := (.slice la3 ((isS id df n ms rs k).2.length) lc3)) rfl Try.isAgg48 (hS _ M5) (Sg.t rfl (Sg.t rfl (Sg.t rfl (Sg.t rfl Sg.h))))) ?_
    refine WT.s (Op1.one rfl (Wn.no rfl) ?_)
    have h_95 := ((((h_89.up J4).up J4).up J4).up J4).up J4
    refine WL.call Try.call25 rfl rfl (c_oLog id b_17 b_18 ms df hms a_19 n c_20 ((isS id df n ms rs k).1) hl la2 lc2 lx2 ((isS id df n ms rs k).2) (by omega) (by omega) _ h_95) rfl ?_
    rintro _ w_99 ⟨a_96, c_97, ys_98, rfl, h_100⟩
    refine WL.nil ?_
    refine ⟨(SL.cons (h_100.ok _ M2) (SL.cons (h_100.ok _ M3) (SL.cons (h_100.ok _ M4) (SL.cons (h_100.ok _ M5) (SL.cons (h_100.ok _ M6) (SL.cons (h_100.ok _ M7) (SL.cons (h_100.ok _ M8) (SL.cons (h_100.ok _ M9) (SL.cons (h_100.ok _ M10) (SL.cons (h_100.ok _ M11) (SL.cons (h_100.ok _ M12) (SL.nil _ _)))))))))))), ?_⟩
    refine WT.s (Op1.one rfl (Wn.no rfl) ?_)
    refine WL.call Try.call24 rfl rfl (c_rSameLog a_96 ((isS id df n ms rs k).2.length) c_97 ys_98 ((isS id df n ms rs k).2) rfl (by omega) la3 lc3 lx3 _ (ownView (h_100.ok _ M0)) (h_100.ok _ M1).1 (ownView (h_100.ok _ M8)) (h_100.ok _ M9).1) rfl ?_
    rintro _ w_102 ⟨rfl, hc_101⟩
    have h_103 := h_100.same hc_101
    refine WL.nil ?_
    refine ⟨(SL.cons (h_103.ok _ M2) (SL.cons (h_103.ok _ M3) (SL.cons (h_103.ok _ M4) (SL.cons (h_103.ok _ M5) (SL.cons (h_103.ok _ M6) (SL.cons (h_103.ok _ M7) (SL.cons (h_103.ok _ M8) (SL.cons (h_103.ok _ M9) (SL.cons (h_103.ok _ M10) (SL.cons (h_103.ok _ M11) (SL.cons (h_103.ok _ M12) (SL.nil _ _)))))))))))), ?_⟩
    refine qT rfl rfl (fun wq hS => R.move (v := (.bool true)) (rfl)) ?_
    refine WT.s ?_
    refine Op1.one rfl (Wn.yes rfl rfl rfl) ?_
    refine WL.call Try.call11 rfl rfl (c_known19  _ ) rfl ?_
    rintro _ w_105 ⟨rfl, hc_104⟩
    have h_106 := h_103.same hc_104
    refine WL.nil ?_
    refine ⟨(SL.cons (h_106.ok _ M2) (SL.cons (h_106.ok _ M3) (SL.cons (h_106.ok _ M4) (SL.cons (h_106.ok _ M5) (SL.cons (h_106.ok _ M6) (SL.cons (h_106.ok _ M7) (SL.cons (h_106.ok _ M8) (SL.cons (h_106.ok _ M9) (SL.cons (h_106.ok _ M10) (SL.cons (h_106.ok _ M11) (SL.cons (h_106.ok _ M12) (SL.nil _ _)))))))))))), ?_⟩
    refine qT rfl rfl (fun wq hS => R.pickT (v := (.bool true)) rfl rfl) ?_
    refine qT rfl rfl (fun wq hS => R.assign (v := (.bool true)) rfl) ?_
    refine WT.nil (thn_n (WP.ret ?_))
    refine ret_of Try.results6 (RV.tmp (v := (.bool true)) rfl RV.nil) ?_
    exact ⟨rfl, h_106.chgS⟩
namespace attestIssuesDone
open Go.ChangeShapes Go.WideShapes Go.ChangeAt
theorem own : ownKnob Try.prog.godebug = none := by kernel_rfl
theorem laidOut : laidOutB Try.prog = true := by kernel_rfl
set_option maxRecDepth 100000 in
theorem lifted (os : Os) (started : os.Started) (H : Type) (enc : TypeId × Value → H) :
  ReturnsInHanded {} Try.checked os 6 .any (Rows.attestIssuesSpec.pre6 enc Try.prog Try.f6 Rows.attestIssuesRow.domain false) (Rows.attestIssuesSpec.post enc Try.prog Try.f6 false true false false) := by
 refine returnsInHanded_of_change (C := Try.checked) own started (by kernel_rfl) Try.func6
  (ChangeSpec.witness6 (enc := enc) (C := Try.checked) false ⟨#[], #[.agg #[.bool false, .int .u8 0, .int .u8 0, .int .u8 0, .int .u8 0, .int .u8 0, .int .u8 0, .int .u8 0, .int .u8 0, .int .u8 0, .int .u8 0, .int .u8 0, .int .u8 0, .int .u8 0, .int .u8 0, .int .u8 0, .int .u8 0, .int .u8 0, .int .u8 0, .int .u8 0, .int .u8 0, .int .u8 0, .int .u8 0, .int .u8 0, .int .u8 0, .int .u8 0, .int .u8 0, .int .u8 0, .int .u8 0, .int .u8 0, .int .u8 0, .int .u8 0, .int .u8 0, .slice none 0 0], .slice none 0 0], []⟩ 8 (by kernel_rfl) (by kernel_rfl) (by kernel_rfl) (by kernel_rfl)) ?_
 intro W base args ds gs before hval0 hW hcnd _
 have hval : ∀ (j : Nat) t v, Try.f6.params[j]? = some t → args[j]? = some v → Value.okWide Try.prog W .any base t v := hval0
 have hW' := hW
 obtain ⟨p, q, hA0, hV, rfl, hfz, hnd⟩ := hW
 have hA : DataW.TrodAll enc Try.prog W 0 (fun _ => true) true Try.f6.params.toList args.toList ds p := hA0
 rw [Try.params6] at hA hval
 obtain ⟨v0, vs0, d0, ds0, p0, q0, hargs, rfl, rfl, h0, r0⟩ := trodAll_cons hA
 obtain ⟨v1, vs1, d1, ds1, p1, q1, rfl, rfl, rfl, h1, r1⟩ := trodAll_cons r0
 obtain ⟨rfl, rfl, rfl⟩ := trodAll_nil r1
 obtain rfl : args = #[v0, v1] := by cases args; simp_all
 obtain ⟨rfl, rfl⟩ := trodVars_none hV
 have lt0 : ∀ x ∈ p0, x.block < W.heap.size := by obtain ⟨m, hm⟩ := h0; exact DataW.trod_lt m _ _ _ hm
 obtain ⟨cs0, rfl⟩ := okWide_agg aggT26 (hval 0 26 v0 rfl rfl)
 have tr0 : Tr Try.prog W 26 cs0 := Tr.of h0 rfl
 have tl_x0 := Tr.struct (l := [(1, 4), (32, 23), (1, 24)]) Try.underlying26 ce26 (by kernel_rfl) tr0
 obtain ⟨a_x00, r_x00, rfl, n_x00, t_x00, tl_x00⟩ := tl_x0
 obtain ⟨x00, rfl⟩ := Tr.bool Try.underlying4 t_x00
 obtain ⟨a_x01, r_x01, rfl, n_x01, t_x01, tl_x01⟩ := tl_x00
 obtain ⟨x01, rfl, l_x01⟩ := Tr.arr8 Try.underlying23 ce23 ce5 Try.underlying5 t_x01
 obtain ⟨a_x02, r_x02, rfl, n_x02, t_x02, tl_x02⟩ := tl_x01
 obtain ⟨sa_x02, sn_x02, sc_x02, x02, rfl, l_x02, hc_x02, hm_x02, hv_x02⟩ := Tr.slA8 Try.underlying24 ce23 Try.underlying23 ce5 Try.underlying5 t_x02
 obtain rfl := tl_x02
 have lt1 : ∀ x ∈ p1, x.block < W.heap.size := by obtain ⟨m, hm⟩ := h1; exact DataW.trod_lt m _ _ _ hm
 obtain ⟨a1, n1, c1, rfl⟩ := okWide_slice Try.underlying27 (hval 1 27 v1 rfl rfl)
 obtain ⟨a1, n1, c1, x1, e1, l_x1, hc1, hm1, hr1, hv1⟩ := trRp W (Tr.of h1 rfl)
 cases e1
 clear hA0 hval0
 have hw : Cs Try.prog 6 [(.agg ⟨flat [(1, [(.bool x00)]), (32, x01.map vu8), (1, [(.slice sa_x02 sn_x02 sc_x02)])]⟩), (.slice a1 n1 c1)].toArray W (fun v w1 => v = .bool true ∧ Chg W w1 []) := w_AttestIssues x00 x01 x02 l_x01 sa_x02 sn_x02 sc_x02 l_x02 a1 n1 c1 x1 l_x1 hr1 W hv_x02.1 hv1.1
 have ea : ([(.agg ⟨flat [(1, [(.bool x00)]), (32, x01.map vu8), (1, [(.slice sa_x02 sn_x02 sc_x02)])]⟩), (.slice a1 n1 c1)] : List Value).toArray = (#[.agg ⟨([.bool x00] ++ (x01.map vu8 ++ ([.slice sa_x02 sn_x02 sc_x02] ++ [])))⟩, (.slice a1 n1 c1)] : Array Value) := by simp [flat]
 rw [ea] at hw
 refine Calls.mono (Cs.below hw) fun e W' ⟨he, bel⟩ => ?_
 subst he
 exact ⟨_, rfl, _, _, _, [], _, [], hW', trodAll_mk1 (shut_bool Try.underlying4 _), (trodAll_cons_mk (Below.trod laidOut (by kernel_rfl) (of_decide_eq_true (by kernel_rfl)) h0 bel lt0) (trodAll_cons_mk (Below.trod laidOut (by kernel_rfl) (of_decide_eq_true (by kernel_rfl)) h1 bel lt1) trodAll_mk0)), rfl, bel.frame _, fun h => by cases h⟩
theorem over : Rows.attestIssuesRow.holds Try.pinned (OpenSpec.ofChange Rows.attestIssuesSpec) :=
 OpenClaim.holds_of_wide 6 Try.f6 rfl rfl rfl rfl rfl rfl rfl ⟨rfl, rfl, rfl, rfl, rfl⟩ rfl rfl rfl rfl rfl (by kernel_rfl) Try.func6 (by kernel_rfl)
  (of_decide_eq_true (by kernel_rfl)) (by unfold Func.isWrapper; first | (rw [if_pos (by decide +kernel)]; kernel_rfl) | (rw [if_neg (by decide +kernel)]; exact ⟨rfl, rfl⟩))
  (fun os started H enc _ => lifted os started H enc)
theorem proved : Rows.AttestIssuesSaid := over
end attestIssuesDone
end Go.Proofs.Ytnhppjimimhlkaa
