/- AttestMeans holds of every input. Conditions: none. -/
import Derived.Test.YtnhppjimimhlkaaZ4AttestMeans
set_option linter.unusedVariables false
set_option linter.unusedSimpArgs false
set_option linter.unusedSectionVars false
namespace Go.Proofs.Ytnhppjimimhlkaa
open Go.Vc Go.Orc Go.Sh Go.RowKit
set_option linter.unusedVariables false
set_option linter.unusedSimpArgs false
set_option maxRecDepth 20000
theorem aggT23 : aggB Try.prog 23 = true := by unfold aggB; rw [Try.underlying23]
theorem aggT26 : aggB Try.prog 26 = true := by unfold aggB; rw [Try.underlying26]
theorem aggT30 : aggB Try.prog 30 = true := by unfold aggB; rw [Try.underlying30]
theorem ce26 : Try.prog.cellsOf 26 = 34 := by kernel_rfl
theorem w_AttestMeans (id : Bool) (ms df : List UInt8) (hms : ms.length = 32) (da0 : Option Addr) (n cap0 : Nat) (hl : df.length = 32 * n) (ar : Option Addr) (nr cr : Nat) (rs : List Rp) (hrl : rs.length = nr) (hrs : ∀ r ∈ rs, okRp r) (oi : UInt64) (om oc : List UInt8) (hom : om.length = 32) (hoc : oc.length = 32) (tag : List UInt8) (htg : tag.length = 32) (w : World) (hv : View w da0 (df.map vu8)) (hvr : View w ar (rsC rs)) :
  Cs Try.prog 3 [(.agg ⟨flat [(1, [(.bool id)]), (32, ms.map vu8), (1, [(.slice da0 n cap0)])]⟩), (.slice ar nr cr), (.agg ⟨flat [(1, [(vu64 oi)]), (32, om.map vu8), (32, oc.map vu8)]⟩), (.agg ⟨tag.map vu8⟩)].toArray w (fun v w1 => v = (.bool true) ∧ Chg w w1 []) := by
 refine Cs.of (n := 183) (args := [(.agg ⟨flat [(1, [(.bool id)]), (32, ms.map vu8), (1, [(.slice da0 n cap0)])]⟩), (.slice ar nr cr), (.agg ⟨flat [(1, [(vu64 oi)]), (32, om.map vu8), (32, oc.map vu8)]⟩), (.agg ⟨tag.map vu8⟩)]) Try.func3 rfl rfl rfl ?_
 have h_0 := HP.init w
 have h_01 := h_0.oldV (View.arg hv) rfl (by simp [Ent.mut])
 have h_00 := h_01.oldV (View.arg hvr) rfl (by simp [Ent.mut])
 refine WP.seq (WP.reg ?_)
 refine WL.box (v := (.agg ⟨flat [(1, [(.bool id)]), (32, ms.map vu8), (1, [(.slice da0 n cap0)])]⟩)) (segs := [(1, [(.bool id)]), (32, ms.map vu8), (1, [(.slice da0 n cap0)])]) h_00 rfl rfl (SsOk.cons (SOk.v rfl) (SsOk.cons (SOk.u8 hms) (SsOk.cons (SOk.v rfl) SsOk.nil))) rfl (fun b_1 w_2 h_3 => ?_)
 refine WL.box (v := (.agg ⟨flat [(1, [(vu64 oi)]), (32, om.map vu8), (32, oc.map vu8)]⟩)) (segs := [(1, [(vu64 oi)]), (32, om.map vu8), (32, oc.map vu8)]) h_3 rfl rfl (SsOk.cons (SOk.v rfl) (SsOk.cons (SOk.u8 hom) (SsOk.cons (SOk.u8 hoc) SsOk.nil))) rfl (fun b_4 w_5 h_6 => ?_)
 refine WL.box (v := (.agg ⟨tag.map vu8⟩)) (segs := [(32, tag.map vu8)]) h_6 rfl rfl (SsOk.cons (SOk.u8 htg) SsOk.nil) rfl (fun b_7 w_8 h_9 => ?_)
 refine qA (.bool false) rfl rfl ?_
 refine WL.nil (thn_n (WP.seq (WP.seq (WP.reg ?_))))
 refine WL.call Try.call11 rfl rfl (c_known19  _ ) rfl ?_
 rintro _ w_11 ⟨rfl, hc_10⟩
 have h_12 := h_9.same hc_10
 refine qV rfl (R.not (b := true) rfl) ?_
 refine WL.nil (thn_n ?_)
 refine WP.condF rfl ?_
 refine WP.skip (thn_n (WP.seq (WP.seq (WP.reg ?_))))
 refine qV rfl (R.fieldAddr (b := b_1) (off := 0) (off' := 33) rfl Try.underlying26 rfl Try.sizeOf24 rfl rfl) (qV rfl (R.load1 (b := b_1) (off := 33) (v := (.slice da0 n cap0)) rfl Try.isAgg24 (h_12.ok _ M2) (Sg.t rfl (Sg.t rfl Sg.h))) (qV rfl (R.lenS (a := da0) (m := n) rfl rfl Try.underlying24) (qV rfl (R.bin rfl rfl (bi_gtr (r := decide ((((n : Nat) : Int) : Int) > 60)) rfl)) (qM (.bool (decide ((((n : Nat) : Int) : Int) > 60))) rfl rfl ?_))))
 rcases Bool.eq_false_or_eq_true (decide ((((n : Nat) : Int) : Int) > 60)) with c_13 | c_13
 ·have p_14 := of_decide_eq_true c_13
  refine WL.skip rfl (congrArg Value.bool c_13) rfl ?_
  refine WL.skip rfl (congrArg Value.bool c_13) rfl ?_
  refine WL.skip rfl (congrArg Value.bool c_13) rfl ?_
  refine qV rfl (R.pickT (v := (.bool true)) (congrArg Value.bool c_13) rfl) ?_
  refine WL.nil (thn_n ?_)
  refine WP.condT rfl ?_
  refine WP.seq (WP.reg ?_)
  refine qA (.bool true) rfl rfl ?_
  refine WL.nil (thn_n (WP.ret (thn_r ?_)))
  refine ret_of Try.results3 (RV.tmp (v := (.bool true)) rfl RV.nil) ?_
  exact ⟨rfl, h_12.chgS⟩
 ·have p_15 := of_decide_eq_false c_13
  refine WL.want rfl (congrArg Value.bool c_13) ?_
  refine qM (.slice ar nr cr) rfl rfl ?_
  refine WL.want rfl (congrArg Value.bool c_13) ?_
  refine qV rfl (R.lenS (a := ar) (m := nr) rfl rfl Try.underlying27) ?_
  refine WL.want rfl (congrArg Value.bool c_13) ?_
  refine qV rfl (R.bin rfl rfl (bi_gtr (r := decide ((((nr : Nat) : Int) : Int) > 30)) rfl)) (qV rfl (R.pickF (v := (.bool (decide ((((nr : Nat) : Int) : Int) > 30)))) (congrArg Value.bool c_13) rfl) ?_)
  refine WL.nil (thn_n ?_)
  refine WP.cond (b := decide ((((nr : Nat) : Int) : Int) > 30)) rfl (fun c_16 => ?_) (fun c_16 => ?_)
  ·have p_17 := of_decide_eq_true c_16
   refine WP.seq (WP.reg ?_)
   refine qA (.bool true) rfl rfl ?_
   refine WL.nil (thn_n (WP.ret (thn_r ?_)))
   refine ret_of Try.results3 (RV.tmp (v := (.bool true)) rfl RV.nil) ?_
   exact ⟨rfl, h_12.chgS⟩
  ·have p_18 := of_decide_eq_false c_16
   refine WP.skip (thn_n (WP.seq (WP.reg ?_)))
   refine qV rfl (R.loadA (b := b_1) (off := 0) [] [(1, [(.bool id)]), (32, ms.map vu8), (1, [(.slice da0 n cap0)])] [] (cs := flat [(1, [(.bool id)]), (32, ms.map vu8), (1, [(.slice da0 n cap0)])]) rfl Try.isAgg26 Try.sizeOf26 (h_12.ok _ M2) rfl rfl rfl rfl) ?_
   have h_19 := h_12.up J4
   refine WL.call Try.call12 rfl rfl (c_both19 id ms df hms da0 n cap0 hl (by omega) _ h_19) rfl ?_
   rintro _ w_25 ⟨b_20, b_21, a_22, c_23, b_24, rfl, h_26⟩
   have h_27 := h_26.rowNil 111 67
   have h_28 := HP_logNil h_27
   refine qM (.tuple [(pO b_20 0), (pO b_24 0)].toArray) rfl rfl (qV rfl (R.extract rfl rfl) (qV rfl (R.extract rfl rfl) (qA (pO b_20 0) rfl rfl (qA (pO b_24 0) rfl rfl ?_))))
   refine WL.nil (thn_n (WP.seq (WP.reg ?_)))
   refine qA (.slice none 0 0) rfl rfl ?_
   refine WL.nil (thn_n (WP.seq (WP.seq (WP.reg ?_))))
   refine qA (vi 0) rfl rfl ?_
   refine WL.nil (thn_n (WP.block ?_))
   have h_29 := h_28.rowNil 37 1
   have h_30 := h_29.slsNil
   have h_47 := ((((((((((((((((h_30.up J5).drop rfl).up J6).drop rfl).up J7).drop rfl).up J1).up J8).up J9).up J10).up J11).up J11).up J11).up J8).up J11).up J10).up J11
   refine WP.loopG (G := Nat × Option Addr × Nat × List Value × Option Addr × Nat × List Value) [8, 11, 12, 13, 14, 47, 48, 49, 50, 51, 52, 53, 54, 55, 56, 57, 58, 59, 60, 61, 62, 63, 64, 65, 66, 67, 68] (fun (k, la2, lc2, lx2, aa, ca, xs) => [(11, (.slice aa k ca)), (12, (vn k))]) (fun (k, la2, lc2, lx2, aa, ca, xs) m w1 => HP w w1 [.blk b_20 .nw 50 [(1, [(.bool id)]), (32, ms.map vu8), (1, [(.slice a_22 n c_23)]), (1, [(vn ((isS id df n ms rs k).1))]), (1, [(.map (some b_21))]), (1, [(.slice la2 ((isS id df n ms rs k).2.length) lc2)])], .row la2 ((isS id df n ms rs k).2.length) lc2 111 67 lx2, .obj b_21 .nw (.map (mArr ((isS id df n ms rs k).2)) ((isS id df n ms rs k).2.length)), .pin (sblks lx2) (fun w => Lgs w lx2 ((isS id df n ms rs k).2)), .view a_22 (df.map vu8), .view da0 (df.map vu8), .view ar (rsC rs), .blk b_1 .nw 26 [(1, [(.bool id)]), (32, ms.map vu8), (1, [(.slice da0 n cap0)])], .blk b_4 .nw 30 [(1, [(vu64 oi)]), (32, om.map vu8), (32, oc.map vu8)], .blk b_7 .nw 23 [(32, tag.map vu8)], .row aa k ca 37 1 xs, .pin (sblks xs) (fun w => Sls w xs (isBs id df n ms rs k))] ∧ (k ≤ nr) ∧ m = nr + 1 - k) ⟨(0, none, 0, [], none, 0, []), _, ⟨rfl, rfl, trivial⟩, h_47, Nat.zero_le _, rfl⟩ ?_
   rintro ⟨k, la2, lc2, lx2, aa, ca, xs⟩ m_50 J_51 w_48 ⟨h_49, hkn, rfl⟩
   have hsu := isS_u (id := id) (df := df) (dn := n) (ms := ms) (rs := rs) k
   have hsl := isS_l (id := id) (df := df) (dn := n) (ms := ms) (rs := rs) k
   have hs32 := isS_32 (id := id) (ms := ms) (rs := rs) hl k
   refine WP.seq (WP.seq (WP.reg ?_))
   refine qM (vn k) rfl rfl (qM (.slice ar nr cr) rfl rfl (qV rfl (R.lenS (a := ar) (m := nr) rfl rfl Try.underlying27) (qV rfl (R.bin rfl rfl (bi_lss (r := decide ((((k : Nat) : Int) : Int) < ((nr : Nat) : Int))) rfl)) ?_)))
   refine WL.nil (thn_n ?_)
   refine WP.cond (b := decide ((((k : Nat) : Int) : Int) < ((nr : Nat) : Int))) rfl (fun c_52 => ?_) (fun c_52 => ?_)
   ·have p_53 := of_decide_eq_true c_52
    refine WP.skip (thn_n (WP.seq (WP.block (WP.seq ?_))))
    have hlk : k < rs.length := by omega
    have hrk : okRp (rs.getD k zRp) := hrs _ (getD_mem hlk)
    refine WP.reg ?_
    refine qM (pO b_20 0) rfl rfl (qM (.slice ar nr cr) rfl rfl (qM (vn k) rfl rfl (qV rfl (R.indexS (a := ar) (i := k) (off := k * 65) (xs := rsC rs) rfl rfl rfl (by omega) (viewV (h_49.ok _ M6)) (by rw [rsC_len hrs]; omega) Try.underlying27 Try.sizeOf30 rfl) (qV rfl (R.loadGA (a := ar) (i := k * 65) (xs := rsC rs) (cs := flat [(1, [(vu64 ((rs.getD k zRp).1))]), (32, ((rs.getD k zRp).2.1).map vu8), (32, ((rs.getD k zRp).2.2).map vu8)]) rfl (viewV (h_49.ok _ M6)) Try.isAgg30 Try.sizeOf30 (rsC_at hrs hlk) (rpC_len hrk) (by decide)) ?_))))
    have h_58 := ((((h_49.up J4).up J4).up J4).up J4).up J4
    refine WL.call Try.call13 rfl rfl (c_Iss id b_20 b_21 ms df hms a_22 n c_23 ((isS id df n ms rs k).1) hl la2 lc2 lx2 ((isS id df n ms rs k).2) (by omega) (by omega) ((rs.getD k zRp).1) ((rs.getD k zRp).2.1) ((rs.getD k zRp).2.2) hrk.1 hrk.2 _ h_58) rfl ?_
    rintro _ w_64 ⟨a_59, c_60, la_61, lc_62, lx_63, rfl, h_65⟩
    have hq_66 := (h_65.own M0).2.2.1
    refine qM (.tuple [(.slice a_59 112 c_60), (vi 0)].toArray) rfl rfl (qV rfl (R.extract rfl rfl) (qV rfl (R.extract rfl rfl) (qA (.slice a_59 112 c_60) rfl rfl (qA (vi 0) rfl rfl ?_))))
    refine WL.nil (thn_n (WP.seq (WP.seq (WP.reg ?_))))
    refine qM (vi 0) rfl rfl ?_
    refine WL.call Try.call14 rfl rfl (c_num19 0 (by omega) _ ) rfl ?_
    rintro _ w_68 ⟨rfl, hc_67⟩
    have h_69 := h_65.same hc_67
    refine qV rfl (R.bin rfl rfl (bi_neq (r := false) (by decide))) ?_
    refine WL.nil (thn_n ?_)
    refine WP.condF rfl ?_
    refine WP.skip (thn_n ?_)
    have hcp_71 := (h_69.own M0).2.2.1
    have h_70 := h_69.rowView
    refine WP.reg ?_
    refine qM (.slice aa k ca) rfl rfl (qM (.slice a_59 112 c_60) rfl rfl ?_)
    refine WL.buildSl (vs := [(0, (.slice a_59 112 c_60))]) (cs := [(.slice a_59 112 c_60)]) h_70 Try.underlying36 Try.sizeOf37 (zv Try.typeInfo37 rfl) rfl rfl (by kernel_rfl) rfl (by simp [Value.oneCell']) rfl rfl (fun b_72 w_73 h_74 => ?_)
    refine WL.append (km := k + 1) (xs := xs) (ys := [(.slice a_59 112 c_60)]) (zs := xs ++ [(.slice a_59 112 c_60)]) h_74 rfl rfl el36 (viewB (h_74.ok _ M0) Sg.h) rfl (by simp [Value.oneCell']) rfl (by omega) (by omega) (by omega) (fun _ _ => Y12) rfl (fun a_75 c_76 w_77 h_78 => ?_)
    refine qA (.slice a_75 (k + 1) c_76) rfl rfl ?_
    refine WL.nil (inb_n (thn_n (WP.reg ?_)))
    refine qM (vn k) rfl rfl (qV rfl (R.bin rfl rfl (bi_add (c := ((k + 1 : Nat) : Int)) (by omega) (by omega))) (qA (vn (k + 1)) rfl rfl ?_))
    refine WL.nil (thn_n ?_)
    have h_79 := HP.slsPush (a' := a_59) (c := c_60) h_78 M13 M1 (viewV (h_78.ok _ M1)) (iss_len (repB_len hrk.1 hrk.2) (tgD_len (dn := n) hl hs32)) hcp_71 (sblk_in_view (iss_len (repB_len hrk.1 hrk.2) (tgD_len (dn := n) hl hs32)))
    have h_96 := ((((((((((((((((h_79.up J1).drop rfl).up J1).drop rfl).up J12).drop rfl).up J11).up J11).up J11).up J11).up J11).up J11).up J11).up J11).up J11).up J11).up J11
    exact ⟨(k + 1, la_61, lc_62, lx_63, a_75, c_76, xs ++ [(Value.slice a_59 112 c_60)]), _, (by omega), (U2 rfl rfl (U4 rfl rfl rfl rfl (U4 rfl rfl rfl rfl (U4 rfl rfl rfl rfl (U4 rfl rfl rfl rfl (U4 rfl rfl rfl rfl (U4 rfl rfl rfl rfl (Ag.updL rfl (Ag.mix _ _ _))))))))), ⟨rfl, rfl, trivial⟩, h_96, (by omega), rfl⟩
   ·have p_97 := of_decide_eq_false c_52
    refine WP.exit (thn_x (thn_x (inb_hit (thn_n (WP.seq (WP.reg ?_))))))
    refine qA (.bool true) rfl rfl ?_
    refine WL.nil (thn_n (WP.seq (WP.seq (WP.reg ?_))))
    refine qA (vi 0) rfl rfl ?_
    refine WL.nil (thn_n (WP.block ?_))
    have hkr : k = nr := by omega
    have h_109 := (((((((((((h_49.up J11).up J11).up J11).up J11).up J11).up J11).up J11).up J11).up J11).up J11).up J11).up J11
    refine WP.loopG (G := Nat × Option Addr × Nat × List Value) [8, 15, 16, 17, 18, 19, 69, 70, 71, 72, 73, 74, 75, 76, 77, 78, 79, 80, 81, 82, 83, 84, 85, 86, 87, 88, 89, 90, 91, 92, 93, 94, 95, 96, 97, 98, 99, 100, 101, 102, 103, 104, 105, 106, 107, 108] (fun (i, la3, lc3, lx3) => [(15, (.bool (nwB rs (oi, om, oc) i))), (16, (vn i))]) (fun (i, la3, lc3, lx3) m w1 => HP w w1 [.blk b_20 .nw 50 [(1, [(.bool id)]), (32, ms.map vu8), (1, [(.slice a_22 n c_23)]), (1, [(vn ((isS id df n ms rs k).1))]), (1, [(.map (some b_21))]), (1, [(.slice la3 ((isS id df n ms rs k).2.length) lc3)])], .row la3 ((isS id df n ms rs k).2.length) lc3 111 67 lx3, .obj b_21 .nw (.map (mArr ((isS id df n ms rs k).2)) ((isS id df n ms rs k).2.length)), .pin (sblks lx3) (fun w => Lgs w lx3 ((isS id df n ms rs k).2)), .view a_22 (df.map vu8), .view da0 (df.map vu8), .view ar (rsC rs), .blk b_1 .nw 26 [(1, [(.bool id)]), (32, ms.map vu8), (1, [(.slice da0 n cap0)])], .blk b_4 .nw 30 [(1, [(vu64 oi)]), (32, om.map vu8), (32, oc.map vu8)], .blk b_7 .nw 23 [(32, tag.map vu8)], .row aa k ca 37 1 xs, .pin (sblks xs) (fun w => Sls w xs (isBs id df n ms rs k))] ∧ (i ≤ nr) ∧ m = nr + 1 - i) ⟨(0, la2, lc2, lx2), _, ⟨rfl, rfl, trivial⟩, h_109, Nat.zero_le _, rfl⟩ ?_
    rintro ⟨i, la3, lc3, lx3⟩ m_112 J_113 w_110 ⟨h_111, hin, rfl⟩
    refine WP.seq (WP.seq (WP.reg ?_))
    refine qM (vn i) rfl rfl (qM (.slice ar nr cr) rfl rfl (qV rfl (R.lenS (a := ar) (m := nr) rfl rfl Try.underlying27) (qV rfl (R.bin rfl rfl (bi_lss (r := decide ((((i : Nat) : Int) : Int) < ((nr : Nat) : Int))) rfl)) ?_)))
    refine WL.nil (thn_n ?_)
    refine WP.cond (b := decide ((((i : Nat) : Int) : Int) < ((nr : Nat) : Int))) rfl (fun c_114 => ?_) (fun c_114 => ?_)
    ·have p_115 := of_decide_eq_true c_114
     refine WP.skip (thn_n (WP.seq (WP.block (WP.seq ?_))))
     have hli : i < rs.length := by omega
     have hri : okRp (rs.getD i zRp) := hrs _ (getD_mem hli)
     have hik : i < k := by omega
     have exl : xs.length = k := (Sls.len (h_111.ok _ M11).1).trans isBs_len
     obtain ⟨ea, en, ec, ex, el, em, ev, eb⟩ := Sls.get (i := i) (h_111.ok _ M11).1 (by rw [isBs_len]; omega)
     have e1 : ((isBs id df n ms rs k).getD i []).length = 112 := by rw [isBs_at (by omega)]; exact isB_112 hl hri
     obtain rfl : en = 112 := el.symm.trans e1
     have h_116 := h_111.within (e' := .view ea (((isBs id df n ms rs k).getD i []).map vu8)) M11 rfl (View.arg ev) rfl rfl (fun b hb_ => eb _ (view_sblk el b hb_))
     refine WP.reg ?_
     refine qM (pO b_20 0) rfl rfl (qM (.slice aa k ca) rfl rfl (qM (vn i) rfl rfl (qV rfl (R.indexS (a := aa) (i := i) (off := i) (xs := xs) rfl rfl rfl (by omega) (ownView (h_116.ok _ M11)) (by rw [exl]; omega) Try.underlying36 Try.sizeOf37 (Nat.mul_one _).symm) (qV rfl (R.loadG (a := aa) (i := i) (xs := xs) (v := (.slice ea 112 ec)) rfl (ownView (h_116.ok _ M11)) Try.isAgg37 ex) ?_))))
     have h_122 := ((((h_116.up J5).up J5).up J5).up J5).up J5
     refine WL.call Try.call15 rfl rfl (c_Ver id b_20 b_21 ms df hms a_22 n c_23 ((isS id df n ms rs k).1) hl la3 lc3 lx3 ((isS id df n ms rs k).2) (by omega) (by omega) ea ec ((isBs id df n ms rs k).getD i []) e1 (by omega) (ver_mk hik hri) _ h_122) rfl ?_
     rintro _ w_126 ⟨la_123, lc_124, lx_125, rfl, h_127⟩
     refine qM (.tuple [(.agg ⟨flat [(1, [(vu64 (ins_of ((((isBs id df n ms rs k).getD i []).drop 0).take 80)))]), (32, (me_of ((((isBs id df n ms rs k).getD i []).drop 0).take 80)).map vu8), (32, (ch_of ((((isBs id df n ms rs k).getD i []).drop 0).take 80)).map vu8)]⟩), (.bool (decide (tgD id df n ((isS id df n ms rs k).1) ((isS id df n ms rs k).2) ms ((((isBs id df n ms rs k).getD i []).drop 0).take 80) = (((isBs id df n ms rs k).getD i []).drop 80).take 32))), (vi 0)].toArray) rfl rfl (qV rfl (R.extract rfl rfl) (qV rfl (R.extract rfl rfl) (qV rfl (R.extract rfl rfl) ?_)))
     refine WL.alloc (segs := [(1, [(vu64 0)]), (32, (List.replicate 32 (0 : UInt8)).map vu8), (32, (List.replicate 32 (0 : UInt8)).map vu8)]) h_127 (zv Try.typeInfo30 rfl) rfl (SsOk.cons (SOk.v rfl) (SsOk.cons (SOk.u8 lr) (SsOk.cons (SOk.u8 lr) SsOk.nil))) rfl (fun b_128 w_129 h_130 => ?_)
     refine WL.storeA (b := b_128) (off := 0) [] [(1, [(vu64 0)]), (32, (List.replicate 32 (0 : UInt8)).map vu8), (32, (List.replicate 32 (0 : UInt8)).map vu8)] [(1, [(vu64 (ins_of ((((isBs id df n ms rs k).getD i []).drop 0).take 80)))]), (32, (me_of ((((isBs id df n ms rs k).getD i []).drop 0).take 80)).map vu8), (32, (ch_of ((((isBs id df n ms rs k).getD i []).drop 0).take 80)).map vu8)] [] (ys := flat [(1, [(vu64 (ins_of ((((isBs id df n ms rs k).getD i []).drop 0).take 80)))]), (32, (me_of ((((isBs id df n ms rs k).getD i []).drop 0).take 80)).map vu8), (32, (ch_of ((((isBs id df n ms rs k).getD i []).drop 0).take 80)).map vu8)]) h_130 rfl rfl Try.sizeOf30 At.h (by decide) rfl rfl rfl rfl rfl rfl (SsOk.cons (SOk.v rfl) (SsOk.cons (SOk.u8 (me_len (by simp only [List.length_take, List.length_drop, e1]; decide))) (SsOk.cons (SOk.u8 (ch_len (by simp only [List.length_take, List.length_drop, e1]; decide))) SsOk.nil))) (fun w_131 h_132 => ?_)
     refine qA (.bool (decide (tgD id df n ((isS id df n ms rs k).1) ((isS id df n ms rs k).2) ms ((((isBs id df n ms rs k).getD i []).drop 0).take 80) = (((isBs id df n ms rs k).getD i []).drop 80).take 32))) rfl rfl (qA (vi 0) rfl rfl ?_)
     refine WL.nil (thn_n (WP.seq (WP.seq ?_)))
     refine WP.drawT (SL w.heap.size [.blk b_128 .nw 30 [(1, [(vu64 (ins_of ((((isBs id df n ms rs k).getD i []).drop 0).take 80)))]), (32, (me_of ((((isBs id df n ms rs k).getD i []).drop 0).take 80)).map vu8), (32, (ch_of ((((isBs id df n ms rs k).getD i []).drop 0).take 80)).map vu8)], .blk b_20 .nw 50 [(1, [(.bool id)]), (32, ms.map vu8), (1, [(.slice a_22 n c_23)]), (1, [(vn ((tgU id df n ((isS id df n ms rs k).1) ((isS id df n ms rs k).2) ms ((((isBs id df n ms rs k).getD i []).drop 0).take 80))))]), (1, [(.map (some b_21))]), (1, [(.slice la_123 ((tgL id df n ((isS id df n ms rs k).1) ((isS id df n ms rs k).2) ms ((((isBs id df n ms rs k).getD i []).drop 0).take 80)).length) lc_124)])], .row la_123 ((tgL id df n ((isS id df n ms rs k).1) ((isS id df n ms rs k).2) ms ((((isBs id df n ms rs k).getD i []).drop 0).take 80)).length) lc_124 111 67 lx_125, .obj b_21 .nw (.map (mArr (tgL id df n ((isS id df n ms rs k).1) ((isS id df n ms rs k).2) ms ((((isBs id df n ms rs k).getD i []).drop 0).take 80))) ((tgL id df n ((isS id df n ms rs k).1) ((isS id df n ms rs k).2) ms ((((isBs id df n ms rs k).getD i []).drop 0).take 80)).length)), .pin (sblks lx_125) (fun w => Lgs w lx_125 (tgL id df n ((isS id df n ms rs k).1) ((isS id df n ms rs k).2) ms ((((isBs id df n ms rs k).getD i []).drop 0).take 80))), .view a_22 (df.map vu8), .view ea (((isBs id df n ms rs k).getD i []).map vu8), .view da0 (df.map vu8), .view ar (rsC rs), .blk b_1 .nw 26 [(1, [(.bool id)]), (32, ms.map vu8), (1, [(.slice da0 n cap0)])], .blk b_4 .nw 30 [(1, [(vu64 oi)]), (32, om.map vu8), (32, oc.map vu8)], .blk b_7 .nw 23 [(32, tag.map vu8)], .row aa k ca 37 1 xs, .pin (sblks xs) (fun w => Sls w xs (isBs id df n ms rs k))]) (.q 0 (.q 1 (.q 2 (.q 3 (.s 4 (.q 5 (.q 6 (.q 7 (.q 8 (.q 9 (.q 10 (.q 11 (.q 12 (.q 13 (.q 14 .nil))))))))))))))) (by kernel_rfl) (by kernel_rfl) rfl (by kernel_rfl) (fun w_133 hc_135 => (SL.cons ((h_132.same hc_135).ok _ M0) (SL.cons ((h_132.same hc_135).ok _ M1) (SL.cons ((h_132.same hc_135).ok _ M2) (SL.cons ((h_132.same hc_135).ok _ M3) (SL.cons ((h_132.same hc_135).ok _ M4) (SL.cons ((h_132.same hc_135).ok _ M5) (SL.cons ((h_132.same hc_135).ok _ M6) (SL.cons ((h_132.same hc_135).ok _ M7) (SL.cons ((h_132.same hc_135).ok _ M8) (SL.cons ((h_132.same hc_135).ok _ M9) (SL.cons ((h_132.same hc_135).ok _ M10) (SL.cons ((h_132.same hc_135).ok _ M11) (SL.cons ((h_132.same hc_135).ok _ M12) (SL.cons ((h_132.same hc_135).ok _ M13) (SL.nil _ _)))))))))))))))) (fun w_133 hc_135 => ?_)
     have h_134 := h_132.same hc_135
     refine qT rfl rfl (fun wq hS => R.move (v := (.bool (decide (tgD id df n ((isS id df n ms rs k).1) ((isS id df n ms rs k).2) ms ((((isBs id df n ms rs k).getD i []).drop 0).take 80) = (((isBs id df n ms rs k).getD i []).drop 80).take 32)))) rfl) ?_
     refine qT rfl rfl (fun wq hS => R.not (b := true) (congrArg Value.bool (decide_eq_true (ver_t hl hik hri)))) ?_
     refine qT rfl rfl (fun wq hS => R.move (v := (.bool false)) rfl) ?_
     refine WT.q rfl (Wn.yes rfl rfl rfl) rfl rfl (fun wq hS => R.move (v := (vi 0)) rfl) ?_
     refine WT.s ?_
     refine Op1.one rfl (Wn.yes rfl rfl rfl) ?_
     refine WL.call Try.call14 rfl rfl (c_num19 0 (by omega) _ ) rfl ?_
     rintro _ w_137 ⟨rfl, hc_136⟩
     have h_138 := h_134.same hc_136
     refine WL.nil ?_
     refine ⟨(SL.cons (h_138.ok _ M0) (SL.cons (h_138.ok _ M1) (SL.cons (h_138.ok _ M2) (SL.cons (h_138.ok _ M3) (SL.cons (h_138.ok _ M4) (SL.cons (h_138.ok _ M5) (SL.cons (h_138.ok _ M6) (SL.cons (h_138.ok _ M7) (SL.cons (h_138.ok _ M8) (SL.cons (h_138.ok _ M9) (SL.cons (h_138.ok _ M10) (SL.cons (h_138.ok _ M11) (SL.cons (h_138.ok _ M12) (SL.cons (h_138.ok _ M13) (SL.nil _ _))))))))))))))), ?_⟩
     refine WT.q rfl (Wn.yes rfl rfl rfl) rfl rfl (fun wq hS => R.bin rfl rfl (bi_neq (r := false) (by decide))) ?_
     refine qT rfl rfl (fun wq hS => R.pickF (v := (.bool false)) rfl rfl) ?_
     refine qT rfl rfl (fun wq hS => R.move (v := (.bool false)) rfl) ?_
     refine WT.q rfl (Wn.yes rfl rfl rfl) rfl rfl (fun wq hS => R.loadA (b := b_128) (off := 0) [] [(1, [(vu64 (ins_of ((((isBs id df n ms rs k).getD i []).drop 0).take 80)))]), (32, (me_of ((((isBs id df n ms rs k).getD i []).drop 0).take 80)).map vu8), (32, (ch_of ((((isBs id df n ms rs k).getD i []).drop 0).take 80)).map vu8)] [] (cs := flat [(1, [(vu64 (ins_of ((((isBs id df n ms rs k).getD i []).drop 0).take 80)))]), (32, (me_of ((((isBs id df n ms rs k).getD i []).drop 0).take 80)).map vu8), (32, (ch_of ((((isBs id df n ms rs k).getD i []).drop 0).take 80)).map vu8)]) rfl Try.isAgg30 Try.sizeOf30 (hS _ M0) rfl rfl rfl rfl) ?_
     refine WT.q rfl (Wn.yes rfl rfl rfl) rfl rfl (fun wq hS => R.move (v := (.slice ar nr cr)) rfl) ?_
     refine WT.q rfl (Wn.yes rfl rfl rfl) rfl rfl (fun wq hS => R.move (v := (vn i)) rfl) ?_
     refine WT.q rfl (Wn.yes rfl rfl rfl) rfl rfl (fun wq hS => R.indexS (a := ar) (i := i) (off := i * 65) (xs := rsC rs) rfl rfl rfl (by omega) (viewV (hS _ M8)) (by rw [rsC_len hrs]; omega) Try.underlying27 Try.sizeOf30 rfl) ?_
     refine WT.q rfl (Wn.yes rfl rfl rfl) rfl rfl (fun wq hS => R.loadGA (a := ar) (i := i * 65) (xs := rsC rs) (cs := flat [(1, [(vu64 ((rs.getD i zRp).1))]), (32, ((rs.getD i zRp).2.1).map vu8), (32, ((rs.getD i zRp).2.2).map vu8)]) rfl (viewV (hS _ M8)) Try.isAgg30 Try.sizeOf30 (rsC_at hrs hli) (rpC_len hri) (by decide)) ?_
     refine WT.q rfl (Wn.yes rfl rfl rfl) rfl rfl (fun wq hS => R.neA (xs := flat [(1, [(vu64 (ins_of ((((isBs id df n ms rs k).getD i []).drop 0).take 80)))]), (32, (me_of ((((isBs id df n ms rs k).getD i []).drop 0).take 80)).map vu8), (32, (ch_of ((((isBs id df n ms rs k).getD i []).drop 0).take 80)).map vu8)]) (ys := flat [(1, [(vu64 ((rs.getD i zRp).1))]), (32, ((rs.getD i zRp).2.1).map vu8), (32, ((rs.getD i zRp).2.2).map vu8)]) (r := false) rfl rfl Try.eqGuardType30 kt30 (by decide) ag30 (Typ.struct (h := 2) (r := [(1, [(vu64 (ins_of ((((isBs id df n ms rs k).getD i []).drop 0).take 80)))]), (32, (me_of ((((isBs id df n ms rs k).getD i []).drop 0).take 80)).map vu8), (32, (ch_of ((((isBs id df n ms rs k).getD i []).drop 0).take 80)).map vu8)]) (cs := flat [(1, [(vu64 (ins_of ((((isBs id df n ms rs k).getD i []).drop 0).take 80)))]), (32, (me_of ((((isBs id df n ms rs k).getD i []).drop 0).take 80)).map vu8), (32, (ch_of ((((isBs id df n ms rs k).getD i []).drop 0).take 80)).map vu8)]) Try.underlying30 (TypF.cons (k := 1) rfl rfl (by decide) rfl (Typ.int Try.underlying28 ce28 (wfu64 (ins_of ((((isBs id df n ms rs k).getD i []).drop 0).take 80)))) (TypF.cons (k := 32) rfl rfl (by decide) (len_map (me_len (by simp only [List.length_take, List.length_drop, e1]; decide))) (Typ.u8s Try.underlying23 ce23 Try.underlying5 ce5 (me_len (by simp only [List.length_take, List.length_drop, e1]; decide))) (TypF.cons (k := 32) rfl rfl (by decide) (len_map (ch_len (by simp only [List.length_take, List.length_drop, e1]; decide))) (Typ.u8s Try.underlying23 ce23 Try.underlying5 ce5 (ch_len (by simp only [List.length_take, List.length_drop, e1]; decide))) TypF.nil))) rfl (((SsOk.cons (SOk.v rfl) (SsOk.cons (SOk.u8 (me_len (by simp only [List.length_take, List.length_drop, e1]; decide))) (SsOk.cons (SOk.u8 (ch_len (by simp only [List.length_take, List.length_drop, e1]; decide))) SsOk.nil)))).len.trans ce30.symm)) (Typ.struct (h := 2) (r := [(1, [(vu64 ((rs.getD i zRp).1))]), (32, ((rs.getD i zRp).2.1).map vu8), (32, ((rs.getD i zRp).2.2).map vu8)]) (cs := flat [(1, [(vu64 ((rs.getD i zRp).1))]), (32, ((rs.getD i zRp).2.1).map vu8), (32, ((rs.getD i zRp).2.2).map vu8)]) Try.underlying30 (TypF.cons (k := 1) rfl rfl (by decide) rfl (Typ.int Try.underlying28 ce28 (wfu64 ((rs.getD i zRp).1))) (TypF.cons (k := 32) rfl rfl (by decide) (len_map hri.1) (Typ.u8s Try.underlying23 ce23 Try.underlying5 ce5 hri.1) (TypF.cons (k := 32) rfl rfl (by decide) (len_map hri.2) (Typ.u8s Try.underlying23 ce23 Try.underlying5 ce5 hri.2) TypF.nil))) rfl (((SsOk.cons (SOk.v rfl) (SsOk.cons (SOk.u8 hri.1) (SsOk.cons (SOk.u8 hri.2) SsOk.nil)))).len.trans ce30.symm)) (neT (by rw [isBs_at hik]; exact rp_back hri _))) ?_
     refine qT rfl rfl (fun wq hS => R.pickF (v := (.bool false)) rfl rfl) ?_
     refine WT.nil (thn_n ?_)
     refine WP.condF rfl ?_
     refine WP.skip (thn_n ?_)
     refine WP.drawT (SL w.heap.size [.blk b_128 .nw 30 [(1, [(vu64 (ins_of ((((isBs id df n ms rs k).getD i []).drop 0).take 80)))]), (32, (me_of ((((isBs id df n ms rs k).getD i []).drop 0).take 80)).map vu8), (32, (ch_of ((((isBs id df n ms rs k).getD i []).drop 0).take 80)).map vu8)], .blk b_20 .nw 50 [(1, [(.bool id)]), (32, ms.map vu8), (1, [(.slice a_22 n c_23)]), (1, [(vn ((tgU id df n ((isS id df n ms rs k).1) ((isS id df n ms rs k).2) ms ((((isBs id df n ms rs k).getD i []).drop 0).take 80))))]), (1, [(.map (some b_21))]), (1, [(.slice la_123 ((tgL id df n ((isS id df n ms rs k).1) ((isS id df n ms rs k).2) ms ((((isBs id df n ms rs k).getD i []).drop 0).take 80)).length) lc_124)])], .row la_123 ((tgL id df n ((isS id df n ms rs k).1) ((isS id df n ms rs k).2) ms ((((isBs id df n ms rs k).getD i []).drop 0).take 80)).length) lc_124 111 67 lx_125, .obj b_21 .nw (.map (mArr (tgL id df n ((isS id df n ms rs k).1) ((isS id df n ms rs k).2) ms ((((isBs id df n ms rs k).getD i []).drop 0).take 80))) ((tgL id df n ((isS id df n ms rs k).1) ((isS id df n ms rs k).2) ms ((((isBs id df n ms rs k).getD i []).drop 0).take 80)).length)), .pin (sblks lx_125) (fun w => Lgs w lx_125 (tgL id df n ((isS id df n ms rs k).1) ((isS id df n ms rs k).2) ms ((((isBs id df n ms rs k).getD i []).drop 0).take 80))), .view a_22 (df.map vu8), .view ea (((isBs id df n ms rs k).getD i []).map vu8), .view da0 (df.map vu8), .view ar (rsC rs), .blk b_1 .nw 26 [(1, [(.bool id)]), (32, ms.map vu8), (1, [(.slice da0 n cap0)])], .blk b_4 .nw 30 [(1, [(vu64 oi)]), (32, om.map vu8), (32, oc.map vu8)], .blk b_7 .nw 23 [(32, tag.map vu8)], .row aa k ca 37 1 xs, .pin (sblks xs) (fun w => Sls w xs (isBs id df n ms rs k))]) (.q 0 (.q 1 (.q 2 (.q 3 (.q 4 (.q 5 (.q 6 (.q 7 (.q 8 (.q 9 .nil)))))))))) (by kernel_rfl) (by kernel_rfl) rfl (by kernel_rfl) (fun w_139 hc_141 => (SL.cons ((h_138.same hc_141).ok _ M0) (SL.cons ((h_138.same hc_141).ok _ M1) (SL.cons ((h_138.same hc_141).ok _ M2) (SL.cons ((h_138.same hc_141).ok _ M3) (SL.cons ((h_138.same hc_141).ok _ M4) (SL.cons ((h_138.same hc_141).ok _ M5) (SL.cons ((h_138.same hc_141).ok _ M6) (SL.cons ((h_138.same hc_141).ok _ M7) (SL.cons ((h_138.same hc_141).ok _ M8) (SL.cons ((h_138.same hc_141).ok _ M9) (SL.cons ((h_138.same hc_141).ok _ M10) (SL.cons ((h_138.same hc_141).ok _ M11) (SL.cons ((h_138.same hc_141).ok _ M12) (SL.cons ((h_138.same hc_141).ok _ M13) (SL.nil _ _)))))))))))))))) (fun w_139 hc_141 => ?_)
     have h_140 := h_138.same hc_141
     refine qT rfl rfl (fun wq hS => R.move (v := (.bool (nwB rs (oi, om, oc) i))) rfl) ?_
     refine qT rfl rfl (fun wq hS => R.move (v := (.bool (nwB rs (oi, om, oc) i))) rfl) ?_
     rcases Bool.eq_false_or_eq_true (nwB rs (oi, om, oc) i) with c_142 | c_142
     ·refine WT.q rfl (Wn.yes rfl rfl (congrArg Value.bool c_142)) rfl rfl (fun wq hS => R.move (v := (.slice ar nr cr)) rfl) ?_
      refine WT.q rfl (Wn.yes rfl rfl (congrArg Value.bool c_142)) rfl rfl (fun wq hS => R.move (v := (vn i)) rfl) ?_
      refine WT.q rfl (Wn.yes rfl rfl (congrArg Value.bool c_142)) rfl rfl (fun wq hS => R.indexS (a := ar) (i := i) (off := i * 65) (xs := rsC rs) rfl rfl rfl (by omega) (viewV (hS _ M8)) (by rw [rsC_len hrs]; omega) Try.underlying27 Try.sizeOf30 rfl) ?_
      refine WT.q rfl (Wn.yes rfl rfl (congrArg Value.bool c_142)) rfl rfl (fun wq hS => R.loadGA (a := ar) (i := i * 65) (xs := rsC rs) (cs := flat [(1, [(vu64 ((rs.getD i zRp).1))]), (32, ((rs.getD i zRp).2.1).map vu8), (32, ((rs.getD i zRp).2.2).map vu8)]) rfl (viewV (hS _ M8)) Try.isAgg30 Try.sizeOf30 (rsC_at hrs hli) (rpC_len hri) (by decide)) ?_
      refine WT.q rfl (Wn.yes rfl rfl (congrArg Value.bool c_142)) rfl rfl (fun wq hS => R.loadA (b := b_4) (off := 0) [] [(1, [(vu64 oi)]), (32, om.map vu8), (32, oc.map vu8)] [] (cs := flat [(1, [(vu64 oi)]), (32, om.map vu8), (32, oc.map vu8)]) rfl Try.isAgg30 Try.sizeOf30 (hS _ M10) rfl rfl rfl rfl) ?_
      refine WT.q rfl (Wn.yes rfl rfl (congrArg Value.bool c_142)) rfl rfl (fun wq hS => R.neA (xs := flat [(1, [(vu64 ((rs.getD i zRp).1))]), (32, ((rs.getD i zRp).2.1).map vu8), (32, ((rs.getD i zRp).2.2).map vu8)]) (ys := flat [(1, [(vu64 oi)]), (32, om.map vu8), (32, oc.map vu8)]) (r := !decide (rs.getD i zRp = (oi, om, oc))) rfl rfl Try.eqGuardType30 kt30 (by decide) ag30 (Typ.struct (h := 2) (r := [(1, [(vu64 ((rs.getD i zRp).1))]), (32, ((rs.getD i zRp).2.1).map vu8), (32, ((rs.getD i zRp).2.2).map vu8)]) (cs := flat [(1, [(vu64 ((rs.getD i zRp).1))]), (32, ((rs.getD i zRp).2.1).map vu8), (32, ((rs.getD i zRp).2.2).map vu8)]) Try.underlying30 (TypF.cons (k := 1) rfl rfl (by decide) rfl (Typ.int Try.underlying28 ce28 (wfu64 ((rs.getD i zRp).1))) (TypF.cons (k := 32) rfl rfl (by decide) (len_map hri.1) (Typ.u8s Try.underlying23 ce23 Try.underlying5 ce5 hri.1) (TypF.cons (k := 32) rfl rfl (by decide) (len_map hri.2) (Typ.u8s Try.underlying23 ce23 Try.underlying5 ce5 hri.2) TypF.nil))) rfl (((SsOk.cons (SOk.v rfl) (SsOk.cons (SOk.u8 hri.1) (SsOk.cons (SOk.u8 hri.2) SsOk.nil)))).len.trans ce30.symm)) (Typ.struct (h := 2) (r := [(1, [(vu64 oi)]), (32, om.map vu8), (32, oc.map vu8)]) (cs := flat [(1, [(vu64 oi)]), (32, om.map vu8), (32, oc.map vu8)]) Try.underlying30 (TypF.cons (k := 1) rfl rfl (by decide) rfl (Typ.int Try.underlying28 ce28 (wfu64 oi)) (TypF.cons (k := 32) rfl rfl (by decide) (len_map hom) (Typ.u8s Try.underlying23 ce23 Try.underlying5 ce5 hom) (TypF.cons (k := 32) rfl rfl (by decide) (len_map hoc) (Typ.u8s Try.underlying23 ce23 Try.underlying5 ce5 hoc) TypF.nil))) rfl (((SsOk.cons (SOk.v rfl) (SsOk.cons (SOk.u8 hom) (SsOk.cons (SOk.u8 hoc) SsOk.nil)))).len.trans ce30.symm)) ((rpC_inj (o := (oi, om, oc)) hri ⟨hom, hoc⟩).trans (decN _))) ?_
      refine qT rfl rfl (fun wq hS => R.pickT (v := (.bool (!decide (rs.getD i zRp = (oi, om, oc))))) (congrArg Value.bool c_142) rfl) ?_
      refine qT rfl rfl (fun wq hS => R.assign (v := (.bool (!decide (rs.getD i zRp = (oi, om, oc))))) rfl) ?_
      refine WT.nil (inb_n (thn_n (WP.reg ?_)))
      refine qM (vn i) rfl rfl (qV rfl (R.bin rfl rfl (bi_add (c := ((i + 1 : Nat) : Int)) (by omega) (by omega))) (qA (vn (i + 1)) rfl rfl ?_))
      refine WL.nil (thn_n ?_)
      rw [ver_U hik hri, ver_L hik hri] at h_140
      have h_157 := ((((((((((((((h_140.drop rfl).up J5).drop rfl).up J11).up J11).up J11).up J11).up J11).up J11).up J11).up J11).up J11).up J11).up J11).up J11
      exact ⟨(i + 1, la_123, lc_124, lx_125), _, (by omega), (Ag.upd rfl (U4 rfl rfl rfl rfl (U4 rfl rfl rfl rfl (U4 rfl rfl rfl rfl (U4 rfl rfl rfl rfl (U4 rfl rfl rfl rfl (U4 rfl rfl rfl rfl (U4 rfl rfl rfl rfl (U4 rfl rfl rfl rfl (U4 rfl rfl rfl rfl (U4 rfl rfl rfl rfl (U4 rfl rfl rfl rfl (Ag.updL rfl (Ag.mix _ _ _)))))))))))))), ⟨congrArg Value.bool (by rw [nwB, c_142]; rfl), rfl, trivial⟩, h_157, (by omega), rfl⟩
     ·refine WT.skipQ rfl rfl rfl (boolNe (v := .bool false) (congrArg Value.bool c_142) (by decide)) rfl rfl ?_
      refine WT.skipQ rfl rfl rfl (boolNe (v := .bool false) (congrArg Value.bool c_142) (by decide)) rfl rfl ?_
      refine WT.skipQ rfl rfl rfl (boolNe (v := .bool false) (congrArg Value.bool c_142) (by decide)) rfl rfl ?_
      refine WT.skipQ rfl rfl rfl (boolNe (v := .bool false) (congrArg Value.bool c_142) (by decide)) rfl rfl ?_
      refine WT.skipQ rfl rfl rfl (boolNe (v := .bool false) (congrArg Value.bool c_142) (by decide)) rfl rfl ?_
      refine WT.skipQ rfl rfl rfl (boolNe (v := .bool false) (congrArg Value.bool c_142) (by decide)) rfl rfl ?_
      refine qT rfl rfl (fun wq hS => R.pickF (v := (.bool false)) (congrArg Value.bool c_142) rfl) ?_
      refine qT rfl rfl (fun wq hS => R.assign (v := (.bool false)) rfl) ?_
      refine WT.nil (inb_n (thn_n (WP.reg ?_)))
      refine qM (vn i) rfl rfl (qV rfl (R.bin rfl rfl (bi_add (c := ((i + 1 : Nat) : Int)) (by omega) (by omega))) (qA (vn (i + 1)) rfl rfl ?_))
      refine WL.nil (thn_n ?_)
      rw [ver_U hik hri, ver_L hik hri] at h_140
      have h_172 := ((((((((((((((h_140.drop rfl).up J5).drop rfl).up J11).up J11).up J11).up J11).up J11).up J11).up J11).up J11).up J11).up J11).up J11).up J11
      exact ⟨(i + 1, la_123, lc_124, lx_125), _, (by omega), (Ag.upd rfl (U4 rfl rfl rfl rfl (U4 rfl rfl rfl rfl (U4 rfl rfl rfl rfl (U4 rfl rfl rfl rfl (U4 rfl rfl rfl rfl (U4 rfl rfl rfl rfl (U4 rfl rfl rfl rfl (U4 rfl rfl rfl rfl (U4 rfl rfl rfl rfl (U4 rfl rfl rfl rfl (U4 rfl rfl rfl rfl (Ag.updL rfl (Ag.mix _ _ _)))))))))))))), ⟨congrArg Value.bool (by rw [nwB, c_142]; rfl), rfl, trivial⟩, h_172, (by omega), rfl⟩
    ·have p_173 := of_decide_eq_false c_114
     refine WP.exit (thn_x (thn_x (inb_hit (thn_n (WP.seq (WP.reg ?_))))))
     refine qM (pO b_20 0) rfl rfl (qV rfl (R.loadA (b := b_4) (off := 0) [] [(1, [(vu64 oi)]), (32, om.map vu8), (32, oc.map vu8)] [] (cs := flat [(1, [(vu64 oi)]), (32, om.map vu8), (32, oc.map vu8)]) rfl Try.isAgg30 Try.sizeOf30 (h_111.ok _ M8) rfl rfl rfl rfl) ?_)
     have h_178 := ((((h_111.up J4).up J4).up J4).up J4).up J4
     refine WL.call Try.call13 rfl rfl (c_Iss id b_20 b_21 ms df hms a_22 n c_23 ((isS id df n ms rs k).1) hl la3 lc3 lx3 ((isS id df n ms rs k).2) (by omega) (by omega) oi om oc hom hoc _ h_178) rfl ?_
     rintro _ w_184 ⟨a_179, c_180, la_181, lc_182, lx_183, rfl, h_185⟩
     have hq_186 := (h_185.own M0).2.2.1
     refine qM (.tuple [(.slice a_179 112 c_180), (vi 0)].toArray) rfl rfl (qV rfl (R.extract rfl rfl) (qV rfl (R.extract rfl rfl) (qA (.slice a_179 112 c_180) rfl rfl (qA (vi 0) rfl rfl ?_))))
     refine WL.nil (thn_n (WP.seq (WP.seq (WP.reg ?_))))
     refine qM (vi 0) rfl rfl ?_
     refine WL.call Try.call14 rfl rfl (c_num19 0 (by omega) _ ) rfl ?_
     rintro _ w_188 ⟨rfl, hc_187⟩
     have h_189 := h_185.same hc_187
     refine qV rfl (R.bin rfl rfl (bi_neq (r := false) (by decide))) (qM (.bool false) rfl rfl ?_)
     refine WL.want rfl rfl ?_
     refine qM (.slice a_179 112 c_180) rfl rfl ?_
     refine WL.want rfl rfl ?_
     refine qV rfl (R.lenS (a := a_179) (m := 112) rfl rfl Try.underlying37) ?_
     refine WL.want rfl rfl ?_
     refine qV rfl (R.bin rfl rfl (bi_neq (r := false) (by decide))) (qV rfl (R.pickF (v := (.bool false)) rfl rfl) (qM (.bool false) rfl rfl ?_))
     refine WL.want rfl rfl ?_
     refine qV rfl (R.fieldAddr (b := b_1) (off := 0) (off' := 0) rfl Try.underlying26 rfl Try.sizeOf4 rfl rfl) ?_
     refine WL.want rfl rfl ?_
     refine qV rfl (R.load1 (b := b_1) (off := 0) (v := (.bool id)) rfl Try.isAgg4 (h_189.ok _ M8) Sg.h) ?_
     refine WL.want rfl rfl ?_
     refine qV rfl (R.not (b := id) rfl) (qV rfl (R.pickF (v := (.bool (!id))) rfl rfl) (qM (.bool (!id)) rfl rfl ?_))
     rcases Bool.eq_false_or_eq_true (!id) with c_190 | c_190
     ·refine WL.skip rfl (congrArg Value.bool c_190) rfl ?_
      refine WL.skip rfl (congrArg Value.bool c_190) rfl ?_
      refine WL.skip rfl (congrArg Value.bool c_190) rfl ?_
      refine WL.skip rfl (congrArg Value.bool c_190) rfl ?_
      refine WL.skip rfl (congrArg Value.bool c_190) rfl ?_
      refine qV rfl (R.pickT (v := (.bool true)) (congrArg Value.bool c_190) rfl) ?_
      refine WL.nil (thn_n ?_)
      refine WP.condT rfl ?_
      refine WP.seq (WP.reg ?_)
      refine qM (vi 0) rfl rfl ?_
      refine WL.call Try.call14 rfl rfl (c_num19 0 (by omega) _ ) rfl ?_
      rintro _ w_192 ⟨rfl, hc_191⟩
      have h_193 := h_189.same hc_191
      refine qV rfl (R.bin rfl rfl (bi_eql (r := true) (by decide))) (qA (.bool true) rfl rfl ?_)
      refine WL.nil (thn_n (WP.ret (thn_r ?_)))
      refine ret_of Try.results3 (RV.tmp (v := (.bool true)) rfl RV.nil) ?_
      exact ⟨rfl, h_193.chgS⟩
     ·refine WL.want rfl (congrArg Value.bool c_190) ?_
      refine qV rfl (R.fieldAddr (b := b_1) (off := 0) (off' := 33) rfl Try.underlying26 rfl Try.sizeOf24 rfl rfl) ?_
      refine WL.want rfl (congrArg Value.bool c_190) ?_
      refine qV rfl (R.load1 (b := b_1) (off := 33) (v := (.slice da0 n cap0)) rfl Try.isAgg24 (h_189.ok _ M8) (Sg.t rfl (Sg.t rfl Sg.h))) ?_
      refine WL.want rfl (congrArg Value.bool c_190) ?_
      refine qV rfl (R.loadA (b := b_7) (off := 0) [] [(32, tag.map vu8)] [] (cs := tag.map vu8) rfl Try.isAgg23 Try.sizeOf23 (h_189.ok _ M10) rfl rfl rfl rfl) ?_
      refine WL.want rfl (congrArg Value.bool c_190) ?_
      refine WL.call Try.call16 rfl rfl (c_unlike da0 n cap0 df hl tag htg (by omega) _ (viewV (h_189.ok _ M6))) rfl ?_
      rintro _ w_197 ⟨bu_194, rfl, hu_195, hc_196⟩
      have h_198 := h_189.same hc_196
      refine WL.want rfl (congrArg Value.bool c_190) ?_
      refine qV rfl (R.not (b := bu_194) rfl) (qV rfl (R.pickF (v := (.bool (!bu_194))) (congrArg Value.bool c_190) rfl) ?_)
      refine WL.nil (thn_n ?_)
      refine WP.cond (b := !bu_194) rfl (fun c_199 => ?_) (fun c_199 => ?_)
      ·refine WP.seq (WP.reg ?_)
       refine qM (vi 0) rfl rfl ?_
       refine WL.call Try.call14 rfl rfl (c_num19 0 (by omega) _ ) rfl ?_
       rintro _ w_201 ⟨rfl, hc_200⟩
       have h_202 := h_198.same hc_200
       refine qV rfl (R.bin rfl rfl (bi_eql (r := true) (by decide))) (qA (.bool true) rfl rfl ?_)
       refine WL.nil (thn_n (WP.ret (thn_r ?_)))
       refine ret_of Try.results3 (RV.tmp (v := (.bool true)) rfl RV.nil) ?_
       exact ⟨rfl, h_202.chgS⟩
      ·refine WP.skip (thn_n (WP.seq (WP.seq (WP.reg ?_))))
       refine qA (vi 0) rfl rfl ?_
       refine WL.nil (thn_n (WP.block ?_))
       have hir : i = nr := by omega
       have h_214 := (((((((((((h_198.up J12).up J12).up J12).up J12).up J12).up J12).up J12).up J12).up J12).up J12).up J12).up J12
       have hsu2 := tgU_le id df n (isS id df n ms rs k).1 (isS id df n ms rs k).2 ms (repB oi om oc)
       have hsl2 := tgL_le id df n (isS id df n ms rs k).1 (isS id df n ms rs k).2 ms (repB oi om oc)
       have hs322 : ok32 (tgL id df n (isS id df n ms rs k).1 (isS id df n ms rs k).2 ms (repB oi om oc)) := tgL_32 hl hs32
       have h80b : ((repB oi om oc ++ tgD id df n ((isS id df n ms rs k).1) ((isS id df n ms rs k).2) ms (repB oi om oc)).drop 0).take 80 = repB oi om oc := rep_80 hom hoc
       have h80l : (((repB oi om oc ++ tgD id df n ((isS id df n ms rs k).1) ((isS id df n ms rs k).2) ms (repB oi om oc)).drop 0).take 80).length = 80 := by rw [h80b]; exact repB_len hom hoc
       refine WP.loopG (G := Nat × Option Addr × Nat × List Value) [8, 22, 23, 24, 25, 26, 138, 139, 140, 141, 142, 143, 144, 145, 146, 147, 148, 149, 150, 151, 152, 153, 154, 155, 156, 157, 158, 159, 160, 161, 162, 163] (fun (g, la4, lc4, lx4) => [(22, (vn g))]) (fun (g, la4, lc4, lx4) m w1 => HP w w1 [.blk b_20 .nw 50 [(1, [(.bool id)]), (32, ms.map vu8), (1, [(.slice a_22 n c_23)]), (1, [(vn ((tgU id df n ((isS id df n ms rs k).1) ((isS id df n ms rs k).2) ms (repB oi om oc))))]), (1, [(.map (some b_21))]), (1, [(.slice la4 ((tgL id df n ((isS id df n ms rs k).1) ((isS id df n ms rs k).2) ms (repB oi om oc)).length) lc4)])], .row la4 ((tgL id df n ((isS id df n ms rs k).1) ((isS id df n ms rs k).2) ms (repB oi om oc)).length) lc4 111 67 lx4, .obj b_21 .nw (.map (mArr (tgL id df n ((isS id df n ms rs k).1) ((isS id df n ms rs k).2) ms (repB oi om oc))) ((tgL id df n ((isS id df n ms rs k).1) ((isS id df n ms rs k).2) ms (repB oi om oc)).length)), .pin (sblks lx4) (fun w => Lgs w lx4 (tgL id df n ((isS id df n ms rs k).1) ((isS id df n ms rs k).2) ms (repB oi om oc))), .view a_22 (df.map vu8), .view da0 (df.map vu8), .view ar (rsC rs), .blk b_1 .nw 26 [(1, [(.bool id)]), (32, ms.map vu8), (1, [(.slice da0 n cap0)])], .blk b_4 .nw 30 [(1, [(vu64 oi)]), (32, om.map vu8), (32, oc.map vu8)], .blk b_7 .nw 23 [(32, tag.map vu8)], .row aa k ca 37 1 xs, .pin (sblks xs) (fun w => Sls w xs (isBs id df n ms rs k)), .row a_179 112 c_180 5 1 ((repB oi om oc ++ tgD id df n ((isS id df n ms rs k).1) ((isS id df n ms rs k).2) ms (repB oi om oc)).map vu8)] ∧ (g ≤ nr) ∧ m = nr + 1 - g) ⟨(0, la_181, lc_182, lx_183), _, ⟨rfl, trivial⟩, h_214, Nat.zero_le _, rfl⟩ ?_
       rintro ⟨g, la4, lc4, lx4⟩ m_217 J_218 w_215 ⟨h_216, hgn, rfl⟩
       refine WP.seq (WP.seq (WP.reg ?_))
       refine qM (vn g) rfl rfl (qM (.slice ar nr cr) rfl rfl (qV rfl (R.lenS (a := ar) (m := nr) rfl rfl Try.underlying27) (qV rfl (R.bin rfl rfl (bi_lss (r := decide ((((g : Nat) : Int) : Int) < ((nr : Nat) : Int))) rfl)) (qM (.bool (decide ((((g : Nat) : Int) : Int) < ((nr : Nat) : Int)))) rfl rfl ?_))))
       rcases Bool.eq_false_or_eq_true (decide ((((g : Nat) : Int) : Int) < ((nr : Nat) : Int))) with c_219 | c_219
       ·have p_220 := of_decide_eq_true c_219
        refine WL.want rfl (congrArg Value.bool c_219) ?_
        refine qM (.bool (nwB rs (oi, om, oc) i)) rfl rfl (qV rfl (R.pickT (v := (.bool (nwB rs (oi, om, oc) i))) (congrArg Value.bool c_219) rfl) ?_)
        refine WL.nil (thn_n ?_)
        refine WP.cond (b := nwB rs (oi, om, oc) i) rfl (fun c_221 => ?_) (fun c_221 => ?_)
        ·refine WP.skip (thn_n (WP.seq (WP.block (WP.seq ?_))))
         have hlg : g < rs.length := by omega
         have hrg : okRp (rs.getD g zRp) := hrs _ (getD_mem hlg)
         have hgk : g < k := by omega
         have fxl : xs.length = k := (Sls.len (h_216.ok _ M11).1).trans isBs_len
         obtain ⟨fa, fn, fc, fx, fl, fm, fv, fb⟩ := Sls.get (i := g) (h_216.ok _ M11).1 (by rw [isBs_len]; omega)
         have f1 : ((isBs id df n ms rs k).getD g []).length = 112 := by rw [isBs_at (by omega)]; exact isB_112 hl hrg
         obtain rfl : fn = 112 := fl.symm.trans f1
         have h_222 := h_216.within (e' := .view fa (((isBs id df n ms rs k).getD g []).map vu8)) M11 rfl (View.arg fv) rfl rfl (fun b hb_ => fb _ (view_sblk fl b hb_))
         have hd32 : (((isBs id df n ms rs k).getD g []).drop 80).take 32 = _ := ver_dr hl hgk hrg
         refine WP.drawT (SL w.heap.size [.view fa (((isBs id df n ms rs k).getD g []).map vu8), .blk b_20 .nw 50 [(1, [(.bool id)]), (32, ms.map vu8), (1, [(.slice a_22 n c_23)]), (1, [(vn ((tgU id df n ((isS id df n ms rs k).1) ((isS id df n ms rs k).2) ms (repB oi om oc))))]), (1, [(.map (some b_21))]), (1, [(.slice la4 ((tgL id df n ((isS id df n ms rs k).1) ((isS id df n ms rs k).2) ms (repB oi om oc)).length) lc4)])], .row la4 ((tgL id df n ((isS id df n ms rs k).1) ((isS id df n ms rs k).2) ms (repB oi om oc)).length) lc4 111 67 lx4, .obj b_21 .nw (.map (mArr (tgL id df n ((isS id df n ms rs k).1) ((isS id df n ms rs k).2) ms (repB oi om oc))) ((tgL id df n ((isS id df n ms rs k).1) ((isS id df n ms rs k).2) ms (repB oi om oc)).length)), .pin (sblks lx4) (fun w => Lgs w lx4 (tgL id df n ((isS id df n ms rs k).1) ((isS id df n ms rs k).2) ms (repB oi om oc))), .view a_22 (df.map vu8), .view da0 (df.map vu8), .view ar (rsC rs), .blk b_1 .nw 26 [(1, [(.bool id)]), (32, ms.map vu8), (1, [(.slice da0 n cap0)])], .blk b_4 .nw 30 [(1, [(vu64 oi)]), (32, om.map vu8), (32, oc.map vu8)], .blk b_7 .nw 23 [(32, tag.map vu8)], .row aa k ca 37 1 xs, .pin (sblks xs) (fun w => Sls w xs (isBs id df n ms rs k)), .row a_179 112 c_180 5 1 ((repB oi om oc ++ tgD id df n ((isS id df n ms rs k).1) ((isS id df n ms rs k).2) ms (repB oi om oc)).map vu8)]) (.q 0 (.q 1 (.q 3 (.q 4 (.q 5 (.q 6 (.q 7 (.s 2 (.s 8 (.q 9 .nil)))))))))) (by kernel_rfl) (by kernel_rfl) rfl (by kernel_rfl) (fun w_223 hc_225 => (SL.cons ((h_222.same hc_225).ok _ M0) (SL.cons ((h_222.same hc_225).ok _ M1) (SL.cons ((h_222.same hc_225).ok _ M2) (SL.cons ((h_222.same hc_225).ok _ M3) (SL.cons ((h_222.same hc_225).ok _ M4) (SL.cons ((h_222.same hc_225).ok _ M5) (SL.cons ((h_222.same hc_225).ok _ M6) (SL.cons ((h_222.same hc_225).ok _ M7) (SL.cons ((h_222.same hc_225).ok _ M8) (SL.cons ((h_222.same hc_225).ok _ M9) (SL.cons ((h_222.same hc_225).ok _ M10) (SL.cons ((h_222.same hc_225).ok _ M11) (SL.cons ((h_222.same hc_225).ok _ M12) (SL.cons ((h_222.same hc_225).ok _ M13) (SL.nil _ _)))))))))))))))) (fun w_223 hc_225 => ?_)
         have h_224 := h_222.same hc_225
         refine qT rfl rfl (fun wq hS => R.move (v := (.slice a_179 112 c_180)) rfl) ?_
         refine qT rfl rfl (fun wq hS => R.sliceS (a := a_179) (len := 112) (l := 0) (h := 80) rfl EvB.dflt (EvB.it (l := 80) rfl rfl) (by decide) (by omega) Try.underlying37 Try.sizeOf5) ?_
         refine qT rfl rfl (fun wq hS => R.move (v := (.slice aa k ca)) rfl) ?_
         refine qT rfl rfl (fun wq hS => R.move (v := (vn g)) rfl) ?_
         refine qT rfl rfl (fun wq hS => R.indexS (a := aa) (i := g) (off := g) (xs := xs) rfl rfl rfl (by omega) (ownView (hS _ M11)) (by rw [fxl]; omega) Try.underlying36 Try.sizeOf37 (Nat.mul_one _).symm) ?_
         refine qT rfl rfl (fun wq hS => R.loadG (a := aa) (i := g) (xs := xs) (v := (.slice fa 112 fc)) rfl (ownView (hS _ M11)) Try.isAgg37 fx) ?_
         refine qT rfl rfl (fun wq hS => R.sliceS (a := fa) (len := 112) (l := 80) (h := 112) rfl (EvB.it (l := 80) rfl rfl) EvB.dflt (by decide) (by omega) Try.underlying37 Try.sizeOf5) ?_
         refine WT.s (Op1.one rfl (Wn.no rfl) ?_)
         have h_226 := h_224.rowNil 5 1
         refine WL.append (km := 80) (xs := []) (ys := (((repB oi om oc ++ tgD id df n ((isS id df n ms rs k).1) ((isS id df n ms rs k).2) ms (repB oi om oc)).drop 0).take 80).map vu8) (zs := (((repB oi om oc ++ tgD id df n ((isS id df n ms rs k).1) ((isS id df n ms rs k).2) ms (repB oi om oc)).drop 0).take 80).map vu8) h_226 rfl rfl el37 (View.slM (l := 0) (m := c_180) (k := 80) (ownView (h_226.ok _ M14)) (by omega)) ((len_map (subLen (K := 112) (iss_len (repB_len hom hoc) (tgD_len (dn := n) hl hs32)) (by omega) : List.length (((repB oi om oc ++ tgD id df n ((isS id df n ms rs k).1) ((isS id df n ms rs k).2) ms (repB oi om oc)).drop 0).take 80) = 80)).trans (Nat.mul_one _).symm) (one_u8 _) rfl rfl (by omega) (by omega) (fun _ _ => At.h) rfl (fun a_227 c_228 w_229 h_230 => ?_)
         refine WL.nil ?_
         refine ⟨(SL.cons (h_230.ok _ M1) (SL.cons (h_230.ok _ M2) (SL.cons (h_230.ok _ M3) (SL.cons (h_230.ok _ M4) (SL.cons (h_230.ok _ M5) (SL.cons (h_230.ok _ M6) (SL.cons (h_230.ok _ M7) (SL.cons (h_230.ok _ M8) (SL.cons (h_230.ok _ M9) (SL.cons (h_230.ok _ M10) (SL.cons (h_230.ok _ M11) (SL.cons (h_230.ok _ M12) (SL.cons (h_230.ok _ M13) (SL.cons (h_230.ok _ M14) (SL.nil _ _))))))))))))))), ?_⟩
         refine WT.s (Op1.one rfl (Wn.no rfl) ?_)
         refine WL.append (km := 112) (xs := (((repB oi om oc ++ tgD id df n ((isS id df n ms rs k).1) ((isS id df n ms rs k).2) ms (repB oi om oc)).drop 0).take 80).map vu8) (ys := ((((isBs id df n ms rs k).getD g []).drop 80).take 32).map vu8) (zs := ((((repB oi om oc ++ tgD id df n ((isS id df n ms rs k).1) ((isS id df n ms rs k).2) ms (repB oi om oc)).drop 0).take 80) ++ ((((isBs id df n ms rs k).getD g []).drop 80).take 32)).map vu8) h_230 rfl rfl el37 (View.slM (l := 80) (m := fc) (k := 32) (viewV (h_230.ok _ M1)) (by omega)) ((len_map (subLen (K := 112) f1 (by omega) : List.length ((((isBs id df n ms rs k).getD g []).drop 80).take 32) = 32)).trans (Nat.mul_one _).symm) (one_u8 _) (by simp only [List.map_append, List.map_nil]) rfl (by omega) (by omega) (fun _ _ => At.h) rfl (fun a_231 c_232 w_233 h_234 => ?_)
         refine WL.nil ?_
         refine ⟨(SL.cons (h_234.ok _ M1) (SL.cons (h_234.ok _ M2) (SL.cons (h_234.ok _ M3) (SL.cons (h_234.ok _ M4) (SL.cons (h_234.ok _ M5) (SL.cons (h_234.ok _ M6) (SL.cons (h_234.ok _ M7) (SL.cons (h_234.ok _ M8) (SL.cons (h_234.ok _ M9) (SL.cons (h_234.ok _ M10) (SL.cons (h_234.ok _ M11) (SL.cons (h_234.ok _ M12) (SL.cons (h_234.ok _ M13) (SL.cons (h_234.ok _ M14) (SL.nil _ _))))))))))))))), ?_⟩
         refine qT rfl rfl (fun wq hS => R.assign (v := (.slice a_231 112 c_232)) rfl) ?_
         refine WT.nil (thn_n (WP.seq (WP.reg ?_)))
         refine qM (pO b_20 0) rfl rfl (qM (.slice a_231 112 c_232) rfl rfl ?_)
         have hcp_235 := (h_234.own M0).2.2.1
         have h_240 := ((((h_234.up J6).up J6).up J6).up J6).up J6
         refine WL.call Try.call15 rfl rfl (c_Ver_r id b_20 b_21 ms df hms a_22 n c_23 (tgU id df n ((isS id df n ms rs k).1) ((isS id df n ms rs k).2) ms (repB oi om oc)) hl la4 lc4 lx4 (tgL id df n ((isS id df n ms rs k).1) ((isS id df n ms rs k).2) ms (repB oi om oc)) (by omega) (by omega) a_231 c_232 ((((repB oi om oc ++ tgD id df n ((isS id df n ms rs k).1) ((isS id df n ms rs k).2) ms (repB oi om oc)).drop 0).take 80) ++ ((((isBs id df n ms rs k).getD g []).drop 80).take 32)) (lenApp (a := 80) (b := 32) (subLen (K := 112) (iss_len (repB_len hom hoc) (tgD_len (dn := n) hl hs32)) (by omega) : List.length (((repB oi om oc ++ tgD id df n ((isS id df n ms rs k).1) ((isS id df n ms rs k).2) ms (repB oi om oc)).drop 0).take 80) = 80) (subLen (K := 112) f1 (by omega) : List.length ((((isBs id df n ms rs k).getD g []).drop 80).take 32) = 32) (by omega) : List.length ((((repB oi om oc ++ tgD id df n ((isS id df n ms rs k).1) ((isS id df n ms rs k).2) ms (repB oi om oc)).drop 0).take 80) ++ ((((isBs id df n ms rs k).getD g []).drop 80).take 32)) = 112) hcp_235 (by rw [List.drop_zero, mx_t h80l, h80b]; rfl) _ h_240) rfl ?_
         rintro _ w_244 ⟨la_241, lc_242, lx_243, rfl, h_245⟩
         refine qM (.tuple [(.agg ⟨flat [(1, [(vu64 (ins_of ((((((repB oi om oc ++ tgD id df n ((isS id df n ms rs k).1) ((isS id df n ms rs k).2) ms (repB oi om oc)).drop 0).take 80) ++ ((((isBs id df n ms rs k).getD g []).drop 80).take 32)).drop 0).take 80)))]), (32, (me_of ((((((repB oi om oc ++ tgD id df n ((isS id df n ms rs k).1) ((isS id df n ms rs k).2) ms (repB oi om oc)).drop 0).take 80) ++ ((((isBs id df n ms rs k).getD g []).drop 80).take 32)).drop 0).take 80)).map vu8), (32, (ch_of ((((((repB oi om oc ++ tgD id df n ((isS id df n ms rs k).1) ((isS id df n ms rs k).2) ms (repB oi om oc)).drop 0).take 80) ++ ((((isBs id df n ms rs k).getD g []).drop 80).take 32)).drop 0).take 80)).map vu8)]⟩), (.bool (decide (tgD id df n (tgU id df n ((isS id df n ms rs k).1) ((isS id df n ms rs k).2) ms (repB oi om oc)) (tgL id df n ((isS id df n ms rs k).1) ((isS id df n ms rs k).2) ms (repB oi om oc)) ms (((((repB oi om oc ++ tgD id df n ((isS id df n ms rs k).1) ((isS id df n ms rs k).2) ms (repB oi om oc)).drop 0).take 80) ++ ((((isBs id df n ms rs k).getD g []).drop 80).take 32)).take 80) = (((((repB oi om oc ++ tgD id df n ((isS id df n ms rs k).1) ((isS id df n ms rs k).2) ms (repB oi om oc)).drop 0).take 80) ++ ((((isBs id df n ms rs k).getD g []).drop 80).take 32)).drop 80).take 32))), (vi 0)].toArray) rfl rfl (qV rfl (R.extract rfl rfl) (qV rfl (R.extract rfl rfl) (qV rfl (R.extract rfl rfl) ?_)))
         refine WL.alloc (segs := [(1, [(vu64 0)]), (32, (List.replicate 32 (0 : UInt8)).map vu8), (32, (List.replicate 32 (0 : UInt8)).map vu8)]) h_245 (zv Try.typeInfo30 rfl) rfl (SsOk.cons (SOk.v rfl) (SsOk.cons (SOk.u8 lr) (SsOk.cons (SOk.u8 lr) SsOk.nil))) rfl (fun b_246 w_247 h_248 => ?_)
         refine WL.storeA (b := b_246) (off := 0) [] [(1, [(vu64 0)]), (32, (List.replicate 32 (0 : UInt8)).map vu8), (32, (List.replicate 32 (0 : UInt8)).map vu8)] [(1, [(vu64 (ins_of ((((((repB oi om oc ++ tgD id df n ((isS id df n ms rs k).1) ((isS id df n ms rs k).2) ms (repB oi om oc)).drop 0).take 80) ++ ((((isBs id df n ms rs k).getD g []).drop 80).take 32)).drop 0).take 80)))]), (32, (me_of ((((((repB oi om oc ++ tgD id df n ((isS id df n ms rs k).1) ((isS id df n ms rs k).2) ms (repB oi om oc)).drop 0).take 80) ++ ((((isBs id df n ms rs k).getD g []).drop 80).take 32)).drop 0).take 80)).map vu8), (32, (ch_of ((((((repB oi om oc ++ tgD id df n ((isS id df n ms rs k).1) ((isS id df n ms rs k).2) ms (repB oi om oc)).drop 0).take 80) ++ ((((isBs id df n ms rs k).getD g []).drop 80).take 32)).drop 0).take 80)).map vu8)] [] (ys := flat [(1, [(vu64 (ins_of ((((((repB oi om oc ++ tgD id df n ((isS id df n ms rs k).1) ((isS id df n ms rs k).2) ms (repB oi om oc)).drop 0).take 80) ++ ((((isBs id df n ms rs k).getD g []).drop 80).take 32)).drop 0).take 80)))]), (32, (me_of ((((((repB oi om oc ++ tgD id df n ((isS id df n ms rs k).1) ((isS id df n ms rs k).2) ms (repB oi om oc)).drop 0).take 80) ++ ((((isBs id df n ms rs k).getD g []).drop 80).take 32)).drop 0).take 80)).map vu8), (32, (ch_of ((((((repB oi om oc ++ tgD id df n ((isS id df n ms rs k).1) ((isS id df n ms rs k).2) ms (repB oi om oc)).drop 0).take 80) ++ ((((isBs id df n ms rs k).getD g []).drop 80).take 32)).drop 0).take 80)).map vu8)]) h_248 rfl rfl Try.sizeOf30 At.h (by decide) rfl rfl rfl rfl rfl rfl (SsOk.cons (SOk.v rfl) (SsOk.cons (SOk.u8 (me_len (by simp only [List.length_take, List.length_drop, (lenApp (a := 80) (b := 32) (subLen (K := 112) (iss_len (repB_len hom hoc) (tgD_len (dn := n) hl hs32)) (by omega) : List.length (((repB oi om oc ++ tgD id df n ((isS id df n ms rs k).1) ((isS id df n ms rs k).2) ms (repB oi om oc)).drop 0).take 80) = 80) (subLen (K := 112) f1 (by omega) : List.length ((((isBs id df n ms rs k).getD g []).drop 80).take 32) = 32) (by omega) : List.length ((((repB oi om oc ++ tgD id df n ((isS id df n ms rs k).1) ((isS id df n ms rs k).2) ms (repB oi om oc)).drop 0).take 80) ++ ((((isBs id df n ms rs k).getD g []).drop 80).take 32)) = 112)]; decide))) (SsOk.cons (SOk.u8 (ch_len (by simp only [List.length_take, List.length_drop, (lenApp (a := 80) (b := 32) (subLen (K := 112) (iss_len (repB_len hom hoc) (tgD_len (dn := n) hl hs32)) (by omega) : List.length (((repB oi om oc ++ tgD id df n ((isS id df n ms rs k).1) ((isS id df n ms rs k).2) ms (repB oi om oc)).drop 0).take 80) = 80) (subLen (K := 112) f1 (by omega) : List.length ((((isBs id df n ms rs k).getD g []).drop 80).take 32) = 32) (by omega) : List.length ((((repB oi om oc ++ tgD id df n ((isS id df n ms rs k).1) ((isS id df n ms rs k).2) ms (repB oi om oc)).drop 0).take 80) ++ ((((isBs id df n ms rs k).getD g []).drop 80).take 32)) = 112)]; decide))) SsOk.nil))) (fun w_249 h_250 => ?_)
         refine qA (.bool (decide (tgD id df n (tgU id df n ((isS id df n ms rs k).1) ((isS id df n ms rs k).2) ms (repB oi om oc)) (tgL id df n ((isS id df n ms rs k).1) ((isS id df n ms rs k).2) ms (repB oi om oc)) ms (((((repB oi om oc ++ tgD id df n ((isS id df n ms rs k).1) ((isS id df n ms rs k).2) ms (repB oi om oc)).drop 0).take 80) ++ ((((isBs id df n ms rs k).getD g []).drop 80).take 32)).take 80) = (((((repB oi om oc ++ tgD id df n ((isS id df n ms rs k).1) ((isS id df n ms rs k).2) ms (repB oi om oc)).drop 0).take 80) ++ ((((isBs id df n ms rs k).getD g []).drop 80).take 32)).drop 80).take 32))) rfl rfl (qA (vi 0) rfl rfl ?_)
         refine WL.nil (thn_n (WP.seq (WP.reg ?_)))
         refine qM (.bool (decide (tgD id df n (tgU id df n ((isS id df n ms rs k).1) ((isS id df n ms rs k).2) ms (repB oi om oc)) (tgL id df n ((isS id df n ms rs k).1) ((isS id df n ms rs k).2) ms (repB oi om oc)) ms (((((repB oi om oc ++ tgD id df n ((isS id df n ms rs k).1) ((isS id df n ms rs k).2) ms (repB oi om oc)).drop 0).take 80) ++ ((((isBs id df n ms rs k).getD g []).drop 80).take 32)).take 80) = (((((repB oi om oc ++ tgD id df n ((isS id df n ms rs k).1) ((isS id df n ms rs k).2) ms (repB oi om oc)).drop 0).take 80) ++ ((((isBs id df n ms rs k).getD g []).drop 80).take 32)).drop 80).take 32))) rfl rfl ?_
         refine WL.nil (thn_n ?_)
         refine WP.condF (congrArg Value.bool (decide_eq_false (by rw [mx_t h80l, mx_d h80l (by rw [hd32]; exact tgD_len hl (isS_32 hl g)), h80b, (tg_same (b := repB oi om oc)).1, hd32]; exact mix_no (nid c_190) (hu_195 (nid c_199)).apt (by omega) hgk hrg ⟨hom, hoc⟩ (nwB_all c_221 g (by omega))))) ?_
         refine WP.skip (inb_n (thn_n (WP.reg ?_)))
         refine qM (vn g) rfl rfl (qV rfl (R.bin rfl rfl (bi_add (c := ((g + 1 : Nat) : Int)) (by omega) (by omega))) (qA (vn (g + 1)) rfl rfl ?_))
         refine WL.nil (thn_n ?_)
         rw [mx_t h80l, h80b, (tg_same (b := repB oi om oc)).2.1, (tg_same (b := repB oi om oc)).2.2] at h_250
         have h_268 := (((((((((((((((((h_250.drop rfl).up J5).drop rfl).up J5).drop rfl).up J12).up J12).up J12).up J12).up J12).up J12).up J12).up J12).up J12).up J12).up J12).up J12).up J12
         exact ⟨(g + 1, la_241, lc_242, lx_243), _, (by omega), (Ag.upd rfl (U2 rfl rfl (U4 rfl rfl rfl rfl (U4 rfl rfl rfl rfl (U4 rfl rfl rfl rfl (U4 rfl rfl rfl rfl (U4 rfl rfl rfl rfl (U4 rfl rfl rfl rfl (U4 rfl rfl rfl rfl (Ag.updL rfl (Ag.mix _ _ _))))))))))), ⟨rfl, trivial⟩, h_268, (by omega), rfl⟩
        ·refine WP.exit (thn_x (thn_x (inb_hit (thn_n (WP.seq ?_)))))
         refine WP.drawT (SL w.heap.size [.blk b_20 .nw 50 [(1, [(.bool id)]), (32, ms.map vu8), (1, [(.slice a_22 n c_23)]), (1, [(vn ((tgU id df n ((isS id df n ms rs k).1) ((isS id df n ms rs k).2) ms (repB oi om oc))))]), (1, [(.map (some b_21))]), (1, [(.slice la4 ((tgL id df n ((isS id df n ms rs k).1) ((isS id df n ms rs k).2) ms (repB oi om oc)).length) lc4)])], .row la4 ((tgL id df n ((isS id df n ms rs k).1) ((isS id df n ms rs k).2) ms (repB oi om oc)).length) lc4 111 67 lx4, .obj b_21 .nw (.map (mArr (tgL id df n ((isS id df n ms rs k).1) ((isS id df n ms rs k).2) ms (repB oi om oc))) ((tgL id df n ((isS id df n ms rs k).1) ((isS id df n ms rs k).2) ms (repB oi om oc)).length)), .pin (sblks lx4) (fun w => Lgs w lx4 (tgL id df n ((isS id df n ms rs k).1) ((isS id df n ms rs k).2) ms (repB oi om oc))), .view a_22 (df.map vu8), .view da0 (df.map vu8), .view ar (rsC rs), .blk b_1 .nw 26 [(1, [(.bool id)]), (32, ms.map vu8), (1, [(.slice da0 n cap0)])], .blk b_4 .nw 30 [(1, [(vu64 oi)]), (32, om.map vu8), (32, oc.map vu8)], .blk b_7 .nw 23 [(32, tag.map vu8)], .row aa k ca 37 1 xs, .pin (sblks xs) (fun w => Sls w xs (isBs id df n ms rs k)), .row a_179 112 c_180 5 1 ((repB oi om oc ++ tgD id df n ((isS id df n ms rs k).1) ((isS id df n ms rs k).2) ms (repB oi om oc)).map vu8)]) (.q 0 (.q 1 (.q 3 (.s 2 (.s 4 (.q 5 .nil)))))) (by kernel_rfl) (by kernel_rfl) rfl (by kernel_rfl) (fun w_269 hc_271 => (SL.cons ((h_216.same hc_271).ok _ M0) (SL.cons ((h_216.same hc_271).ok _ M1) (SL.cons ((h_216.same hc_271).ok _ M2) (SL.cons ((h_216.same hc_271).ok _ M3) (SL.cons ((h_216.same hc_271).ok _ M4) (SL.cons ((h_216.same hc_271).ok _ M5) (SL.cons ((h_216.same hc_271).ok _ M6) (SL.cons ((h_216.same hc_271).ok _ M7) (SL.cons ((h_216.same hc_271).ok _ M8) (SL.cons ((h_216.same hc_271).ok _ M9) (SL.cons ((h_216.same hc_271).ok _ M10) (SL.cons ((h_216.same hc_271).ok _ M11) (SL.cons ((h_216.same hc_271).ok _ M12) (SL.nil _ _))))))))))))))) (fun w_269 hc_271 => ?_)
         have h_270 := h_216.same hc_271
         refine qT rfl rfl (fun wq hS => R.move (v := (.slice a_179 112 c_180)) rfl) ?_
         refine qT rfl rfl (fun wq hS => R.sliceS (a := a_179) (len := 112) (l := 0) (h := 80) rfl EvB.dflt (EvB.it (l := 80) rfl rfl) (by decide) (by omega) Try.underlying37 Try.sizeOf5) ?_
         refine qT rfl rfl (fun wq hS => R.sliceA (b := b_7) (off := 0) (off' := 0) (l := 0) (h := 32) rfl EvB.dflt EvB.dflt (by decide) (by decide) Try.underlying23 Try.sizeOf5 rfl) ?_
         refine WT.s (Op1.one rfl (Wn.no rfl) ?_)
         have h_272 := h_270.rowNil 5 1
         refine WL.append (km := 80) (xs := []) (ys := (((repB oi om oc ++ tgD id df n ((isS id df n ms rs k).1) ((isS id df n ms rs k).2) ms (repB oi om oc)).drop 0).take 80).map vu8) (zs := (((repB oi om oc ++ tgD id df n ((isS id df n ms rs k).1) ((isS id df n ms rs k).2) ms (repB oi om oc)).drop 0).take 80).map vu8) h_272 rfl rfl el37 (View.slM (l := 0) (m := c_180) (k := 80) (ownView (h_272.ok _ M13)) (by omega)) ((len_map (subLen (K := 112) (iss_len (repB_len hom hoc) (tgD_len (dn := n) hl hs32)) (by omega) : List.length (((repB oi om oc ++ tgD id df n ((isS id df n ms rs k).1) ((isS id df n ms rs k).2) ms (repB oi om oc)).drop 0).take 80) = 80)).trans (Nat.mul_one _).symm) (one_u8 _) rfl rfl (by omega) (by omega) (fun _ _ => At.h) rfl (fun a_273 c_274 w_275 h_276 => ?_)
         refine WL.nil ?_
         refine ⟨(SL.cons (h_276.ok _ M1) (SL.cons (h_276.ok _ M2) (SL.cons (h_276.ok _ M3) (SL.cons (h_276.ok _ M4) (SL.cons (h_276.ok _ M5) (SL.cons (h_276.ok _ M6) (SL.cons (h_276.ok _ M7) (SL.cons (h_276.ok _ M8) (SL.cons (h_276.ok _ M9) (SL.cons (h_276.ok _ M10) (SL.cons (h_276.ok _ M11) (SL.cons (h_276.ok _ M12) (SL.cons (h_276.ok _ M13) (SL.nil _ _)))))))))))))), ?_⟩
         refine WT.s (Op1.one rfl (Wn.no rfl) ?_)
         refine WL.append (km := 112) (xs := (((repB oi om oc ++ tgD id df n ((isS id df n ms rs k).1) ((isS id df n ms rs k).2) ms (repB oi om oc)).drop 0).take 80).map vu8) (ys := tag.map vu8) (zs := ((((repB oi om oc ++ tgD id df n ((isS id df n ms rs k).1) ((isS id df n ms rs k).2) ms (repB oi om oc)).drop 0).take 80) ++ tag).map vu8) h_276 rfl rfl el37 (viewB (h_276.ok _ M10) Sg.h) ((len_map htg).trans (Nat.mul_one _).symm) (one_u8 _) (by simp only [List.map_append, List.map_nil]) rfl (by omega) (by omega) (fun _ _ => At.h) rfl (fun a_277 c_278 w_279 h_280 => ?_)
         refine WL.nil ?_
         refine ⟨(SL.cons (h_280.ok _ M1) (SL.cons (h_280.ok _ M2) (SL.cons (h_280.ok _ M3) (SL.cons (h_280.ok _ M4) (SL.cons (h_280.ok _ M5) (SL.cons (h_280.ok _ M6) (SL.cons (h_280.ok _ M7) (SL.cons (h_280.ok _ M8) (SL.cons (h_280.ok _ M9) (SL.cons (h_280.ok _ M10) (SL.cons (h_280.ok _ M11) (SL.cons (h_280.ok _ M12) (SL.cons (h_280.ok _ M13) (SL.nil _ _)))))))))))))), ?_⟩
         refine qT rfl rfl (fun wq hS => R.assign (v := (.slice a_277 112 c_278)) rfl) ?_
         refine WT.nil (thn_n (WP.seq (WP.reg ?_)))
         refine qM (pO b_20 0) rfl rfl (qM (.slice a_277 112 c_278) rfl rfl ?_)
         have hcp_281 := (h_280.own M0).2.2.1
         have h_286 := ((((h_280.up J5).up J5).up J5).up J5).up J5
         refine WL.call Try.call15 rfl rfl (c_Ver_r id b_20 b_21 ms df hms a_22 n c_23 (tgU id df n ((isS id df n ms rs k).1) ((isS id df n ms rs k).2) ms (repB oi om oc)) hl la4 lc4 lx4 (tgL id df n ((isS id df n ms rs k).1) ((isS id df n ms rs k).2) ms (repB oi om oc)) (by omega) (by omega) a_277 c_278 ((((repB oi om oc ++ tgD id df n ((isS id df n ms rs k).1) ((isS id df n ms rs k).2) ms (repB oi om oc)).drop 0).take 80) ++ tag) (lenApp (a := 80) (b := 32) (subLen (K := 112) (iss_len (repB_len hom hoc) (tgD_len (dn := n) hl hs32)) (by omega) : List.length (((repB oi om oc ++ tgD id df n ((isS id df n ms rs k).1) ((isS id df n ms rs k).2) ms (repB oi om oc)).drop 0).take 80) = 80) htg (by omega) : List.length ((((repB oi om oc ++ tgD id df n ((isS id df n ms rs k).1) ((isS id df n ms rs k).2) ms (repB oi om oc)).drop 0).take 80) ++ tag) = 112) hcp_281 (by rw [List.drop_zero, mx_t h80l, h80b]; rfl) _ h_286) rfl ?_
         rintro _ w_290 ⟨la_287, lc_288, lx_289, rfl, h_291⟩
         refine qM (.tuple [(.agg ⟨flat [(1, [(vu64 (ins_of ((((((repB oi om oc ++ tgD id df n ((isS id df n ms rs k).1) ((isS id df n ms rs k).2) ms (repB oi om oc)).drop 0).take 80) ++ tag).drop 0).take 80)))]), (32, (me_of ((((((repB oi om oc ++ tgD id df n ((isS id df n ms rs k).1) ((isS id df n ms rs k).2) ms (repB oi om oc)).drop 0).take 80) ++ tag).drop 0).take 80)).map vu8), (32, (ch_of ((((((repB oi om oc ++ tgD id df n ((isS id df n ms rs k).1) ((isS id df n ms rs k).2) ms (repB oi om oc)).drop 0).take 80) ++ tag).drop 0).take 80)).map vu8)]⟩), (.bool (decide (tgD id df n (tgU id df n ((isS id df n ms rs k).1) ((isS id df n ms rs k).2) ms (repB oi om oc)) (tgL id df n ((isS id df n ms rs k).1) ((isS id df n ms rs k).2) ms (repB oi om oc)) ms (((((repB oi om oc ++ tgD id df n ((isS id df n ms rs k).1) ((isS id df n ms rs k).2) ms (repB oi om oc)).drop 0).take 80) ++ tag).take 80) = (((((repB oi om oc ++ tgD id df n ((isS id df n ms rs k).1) ((isS id df n ms rs k).2) ms (repB oi om oc)).drop 0).take 80) ++ tag).drop 80).take 32))), (vi 0)].toArray) rfl rfl (qV rfl (R.extract rfl rfl) (qV rfl (R.extract rfl rfl) (qV rfl (R.extract rfl rfl) ?_)))
         refine WL.alloc (segs := [(1, [(vu64 0)]), (32, (List.replicate 32 (0 : UInt8)).map vu8), (32, (List.replicate 32 (0 : UInt8)).map vu8)]) h_291 (zv Try.typeInfo30 rfl) rfl (SsOk.cons (SOk.v rfl) (SsOk.cons (SOk.u8 lr) (SsOk.cons (SOk.u8 lr) SsOk.nil))) rfl (fun b_292 w_293 h_294 => ?_)
         refine WL.storeA (b := b_292) (off := 0) [] [(1, [(vu64 0)]), (32, (List.replicate 32 (0 : UInt8)).map vu8), (32, (List.replicate 32 (0 : UInt8)).map vu8)] [(1, [(vu64 (ins_of ((((((repB oi om oc ++ tgD id df n ((isS id df n ms rs k).1) ((isS id df n ms rs k).2) ms (repB oi om oc)).drop 0).take 80) ++ tag).drop 0).take 80)))]), (32, (me_of ((((((repB oi om oc ++ tgD id df n ((isS id df n ms rs k).1) ((isS id df n ms rs k).2) ms (repB oi om oc)).drop 0).take 80) ++ tag).drop 0).take 80)).map vu8), (32, (ch_of ((((((repB oi om oc ++ tgD id df n ((isS id df n ms rs k).1) ((isS id df n ms rs k).2) ms (repB oi om oc)).drop 0).take 80) ++ tag).drop 0).take 80)).map vu8)] [] (ys := flat [(1, [(vu64 (ins_of ((((((repB oi om oc ++ tgD id df n ((isS id df n ms rs k).1) ((isS id df n ms rs k).2) ms (repB oi om oc)).drop 0).take 80) ++ tag).drop 0).take 80)))]), (32, (me_of ((((((repB oi om oc ++ tgD id df n ((isS id df n ms rs k).1) ((isS id df n ms rs k).2) ms (repB oi om oc)).drop 0).take 80) ++ tag).drop 0).take 80)).map vu8), (32, (ch_of ((((((repB oi om oc ++ tgD id df n ((isS id df n ms rs k).1) ((isS id df n ms rs k).2) ms (repB oi om oc)).drop 0).take 80) ++ tag).drop 0).take 80)).map vu8)]) h_294 rfl rfl Try.sizeOf30 At.h (by decide) rfl rfl rfl rfl rfl rfl (SsOk.cons (SOk.v rfl) (SsOk.cons (SOk.u8 (me_len (by simp only [List.length_take, List.length_drop, (lenApp (a := 80) (b := 32) (subLen (K := 112) (iss_len (repB_len hom hoc) (tgD_len (dn := n) hl hs32)) (by omega) : List.length (((repB oi om oc ++ tgD id df n ((isS id df n ms rs k).1) ((isS id df n ms rs k).2) ms (repB oi om oc)).drop 0).take 80) = 80) htg (by omega) : List.length ((((repB oi om oc ++ tgD id df n ((isS id df n ms rs k).1) ((isS id df n ms rs k).2) ms (repB oi om oc)).drop 0).take 80) ++ tag) = 112)]; decide))) (SsOk.cons (SOk.u8 (ch_len (by simp only [List.length_take, List.length_drop, (lenApp (a := 80) (b := 32) (subLen (K := 112) (iss_len (repB_len hom hoc) (tgD_len (dn := n) hl hs32)) (by omega) : List.length (((repB oi om oc ++ tgD id df n ((isS id df n ms rs k).1) ((isS id df n ms rs k).2) ms (repB oi om oc)).drop 0).take 80) = 80) htg (by omega) : List.length ((((repB oi om oc ++ tgD id df n ((isS id df n ms rs k).1) ((isS id df n ms rs k).2) ms (repB oi om oc)).drop 0).take 80) ++ tag) = 112)]; decide))) SsOk.nil))) (fun w_295 h_296 => ?_)
         refine qA (.bool (decide (tgD id df n (tgU id df n ((isS id df n ms rs k).1) ((isS id df n ms rs k).2) ms (repB oi om oc)) (tgL id df n ((isS id df n ms rs k).1) ((isS id df n ms rs k).2) ms (repB oi om oc)) ms (((((repB oi om oc ++ tgD id df n ((isS id df n ms rs k).1) ((isS id df n ms rs k).2) ms (repB oi om oc)).drop 0).take 80) ++ tag).take 80) = (((((repB oi om oc ++ tgD id df n ((isS id df n ms rs k).1) ((isS id df n ms rs k).2) ms (repB oi om oc)).drop 0).take 80) ++ tag).drop 80).take 32))) rfl rfl (qA (vi 0) rfl rfl ?_)
         refine WL.nil (thn_n (WP.seq (WP.reg ?_)))
         refine qM (vi 0) rfl rfl ?_
         refine WL.call Try.call14 rfl rfl (c_num19 0 (by omega) _ ) rfl ?_
         rintro _ w_298 ⟨rfl, hc_297⟩
         have h_299 := h_296.same hc_297
         refine qV rfl (R.bin rfl rfl (bi_eql (r := true) (by decide))) (qM (.bool true) rfl rfl ?_)
         refine WL.want rfl rfl ?_
         refine qM (.bool (decide (tgD id df n (tgU id df n ((isS id df n ms rs k).1) ((isS id df n ms rs k).2) ms (repB oi om oc)) (tgL id df n ((isS id df n ms rs k).1) ((isS id df n ms rs k).2) ms (repB oi om oc)) ms (((((repB oi om oc ++ tgD id df n ((isS id df n ms rs k).1) ((isS id df n ms rs k).2) ms (repB oi om oc)).drop 0).take 80) ++ tag).take 80) = (((((repB oi om oc ++ tgD id df n ((isS id df n ms rs k).1) ((isS id df n ms rs k).2) ms (repB oi om oc)).drop 0).take 80) ++ tag).drop 80).take 32))) rfl rfl ?_
         refine WL.want rfl rfl ?_
         refine qV rfl (R.not (b := false) (congrArg Value.bool (decide_eq_false (by rw [mx_t h80l, mx_d h80l htg, h80b, (tg_same (b := repB oi om oc)).1]; exact guess_no (nid c_190) (hu_195 (nid c_199)))))) (qV rfl (R.pickT (v := (.bool true)) rfl rfl) (qA (.bool true) rfl rfl ?_))
         refine WL.nil (thn_n (WP.ret ?_))
         refine ret_of Try.results3 (RV.tmp (v := (.bool true)) rfl RV.nil) ?_
         exact ⟨rfl, h_299.chgS⟩
       ·have p_300 := of_decide_eq_false c_219
        refine WL.skip rfl (congrArg Value.bool c_219) rfl ?_
        refine qV rfl (R.pickF (v := (.bool false)) (congrArg Value.bool c_219) rfl) ?_
        refine WL.nil (thn_n ?_)
        refine WP.condF rfl ?_
        refine WP.exit (thn_x (thn_x (inb_hit (thn_n (WP.seq ?_)))))
        refine WP.drawT (SL w.heap.size [.blk b_20 .nw 50 [(1, [(.bool id)]), (32, ms.map vu8), (1, [(.slice a_22 n c_23)]), (1, [(vn ((tgU id df n ((isS id df n ms rs k).1) ((isS id df n ms rs k).2) ms (repB oi om oc))))]), (1, [(.map (some b_21))]), (1, [(.slice la4 ((tgL id df n ((isS id df n ms rs k).1) ((isS id df n ms rs k).2) ms (repB oi om oc)).length) lc4)])], .row la4 ((tgL id df n ((isS id df n ms rs k).1) ((isS id df n ms rs k).2) ms (repB oi om oc)).length) lc4 111 67 lx4, .obj b_21 .nw (.map (mArr (tgL id df n ((isS id df n ms rs k).1) ((isS id df n ms rs k).2) ms (repB oi om oc))) ((tgL id df n ((isS id df n ms rs k).1) ((isS id df n ms rs k).2) ms (repB oi om oc)).length)), .pin (sblks lx4) (fun w => Lgs w lx4 (tgL id df n ((isS id df n ms rs k).1) ((isS id df n ms rs k).2) ms (repB oi om oc))), .view a_22 (df.map vu8), .view da0 (df.map vu8), .view ar (rsC rs), .blk b_1 .nw 26 [(1, [(.bool id)]), (32, ms.map vu8), (1, [(.slice da0 n cap0)])], .blk b_4 .nw 30 [(1, [(vu64 oi)]), (32, om.map vu8), (32, oc.map vu8)], .blk b_7 .nw 23 [(32, tag.map vu8)], .row aa k ca 37 1 xs, .pin (sblks xs) (fun w => Sls w xs (isBs id df n ms rs k)), .row a_179 112 c_180 5 1 ((repB oi om oc ++ tgD id df n ((isS id df n ms rs k).1) ((isS id df n ms rs k).2) ms (repB oi om oc)).map vu8)]) (.q 0 (.q 1 (.q 3 (.s 2 (.s 4 (.q 5 .nil)))))) (by kernel_rfl) (by kernel_rfl) rfl (by kernel_rfl) (fun w_301 hc_303 => (SL.cons ((h_216.same hc_303).ok _ M0) (SL.cons ((h_216.same hc_303).ok _ M1) (SL.cons ((h_216.same hc_303).ok _ M2) (SL.cons ((h_216.same hc_303).ok _ M3) (SL.cons ((h_216.same hc_303).ok _ M4) (SL.cons ((h_216.same hc_303).ok _ M5) (SL.cons ((h_216.same hc_303).ok _ M6) (SL.cons ((h_216.same hc_303).ok _ M7) (SL.cons ((h_216.same hc_303).ok _ M8) (SL.cons ((h_216.same hc_303).ok _ M9) (SL.cons ((h_216.same hc_303).ok _ M10) (SL.cons ((h_216.same hc_303).ok _ M11) (SL.cons ((h_216.same hc_303).ok _ M12) (SL.nil _ _))))))))))))))) (fun w_301 hc_303 => ?_)
        have h_302 := h_216.same hc_303
        refine qT rfl rfl (fun wq hS => R.move (v := (.slice a_179 112 c_180)) rfl) ?_
        refine qT rfl rfl (fun wq hS => R.sliceS (a := a_179) (len := 112) (l := 0) (h := 80) rfl EvB.dflt (EvB.it (l := 80) rfl rfl) (by decide) (by omega) Try.underlying37 Try.sizeOf5) ?_
        refine qT rfl rfl (fun wq hS => R.sliceA (b := b_7) (off := 0) (off' := 0) (l := 0) (h := 32) rfl EvB.dflt EvB.dflt (by decide) (by decide) Try.underlying23 Try.sizeOf5 rfl) ?_
        refine WT.s (Op1.one rfl (Wn.no rfl) ?_)
        have h_304 := h_302.rowNil 5 1
        refine WL.append (km := 80) (xs := []) (ys := (((repB oi om oc ++ tgD id df n ((isS id df n ms rs k).1) ((isS id df n ms rs k).2) ms (repB oi om oc)).drop 0).take 80).map vu8) (zs := (((repB oi om oc ++ tgD id df n ((isS id df n ms rs k).1) ((isS id df n ms rs k).2) ms (repB oi om oc)).drop 0).take 80).map vu8) h_304 rfl rfl el37 (View.slM (l := 0) (m := c_180) (k := 80) (ownView (h_304.ok _ M13)) (by omega)) ((len_map (subLen (K := 112) (iss_len (repB_len hom hoc) (tgD_len (dn := n) hl hs32)) (by omega) : List.length (((repB oi om oc ++ tgD id df n ((isS id df n ms rs k).1) ((isS id df n ms rs k).2) ms (repB oi om oc)).drop 0).take 80) = 80)).trans (Nat.mul_one _).symm) (one_u8 _) rfl rfl (by omega) (by omega) (fun _ _ => At.h) rfl (fun a_305 c_306 w_307 h_308 => ?_)
        refine WL.nil ?_
        refine ⟨(SL.cons (h_308.ok _ M1) (SL.cons (h_308.ok _ M2) (SL.cons (h_308.ok _ M3) (SL.cons (h_308.ok _ M4) (SL.cons (h_308.ok _ M5) (SL.cons (h_308.ok _ M6) (SL.cons (h_308.ok _ M7) (SL.cons (h_308.ok _ M8) (SL.cons (h_308.ok _ M9) (SL.cons (h_308.ok _ M10) (SL.cons (h_308.ok _ M11) (SL.cons (h_308.ok _ M12) (SL.cons (h_308.ok _ M13) (SL.nil _ _)))))))))))))), ?_⟩
        refine WT.s (Op1.one rfl (Wn.no rfl) ?_)
        refine WL.append (km := 112) (xs := (((repB oi om oc ++ tgD id df n ((isS id df n ms rs k).1) ((isS id df n ms rs k).2) ms (repB oi om oc)).drop 0).take 80).map vu8) (ys := tag.map vu8) (zs := ((((repB oi om oc ++ tgD id df n ((isS id df n ms rs k).1) ((isS id df n ms rs k).2) ms (repB oi om oc)).drop 0).take 80) ++ tag).map vu8) h_308 rfl rfl el37 (viewB (h_308.ok _ M10) Sg.h) ((len_map htg).trans (Nat.mul_one _).symm) (one_u8 _) (by simp only [List.map_append, List.map_nil]) rfl (by omega) (by omega) (fun _ _ => At.h) rfl (fun a_309 c_310 w_311 h_312 => ?_)
        refine WL.nil ?_
        refine ⟨(SL.cons (h_312.ok _ M1) (SL.cons (h_312.ok _ M2) (SL.cons (h_312.ok _ M3) (SL.cons (h_312.ok _ M4) (SL.cons (h_312.ok _ M5) (SL.cons (h_312.ok _ M6) (SL.cons (h_312.ok _ M7) (SL.cons (h_312.ok _ M8) (SL.cons (h_312.ok _ M9) (SL.cons (h_312.ok _ M10) (SL.cons (h_312.ok _ M11) (SL.cons (h_312.ok _ M12) (SL.cons (h_312.ok _ M13) (SL.nil _ _)))))))))))))), ?_⟩
        refine qT rfl rfl (fun wq hS => R.assign (v := (.slice a_309 112 c_310)) rfl) ?_
        refine WT.nil (thn_n (WP.seq (WP.reg ?_)))
        refine qM (pO b_20 0) rfl rfl (qM (.slice a_309 112 c_310) rfl rfl ?_)
        have hcp_313 := (h_312.own M0).2.2.1
        have h_318 := ((((h_312.up J5).up J5).up J5).up J5).up J5
        refine WL.call Try.call15 rfl rfl (c_Ver_r id b_20 b_21 ms df hms a_22 n c_23 (tgU id df n ((isS id df n ms rs k).1) ((isS id df n ms rs k).2) ms (repB oi om oc)) hl la4 lc4 lx4 (tgL id df n ((isS id df n ms rs k).1) ((isS id df n ms rs k).2) ms (repB oi om oc)) (by omega) (by omega) a_309 c_310 ((((repB oi om oc ++ tgD id df n ((isS id df n ms rs k).1) ((isS id df n ms rs k).2) ms (repB oi om oc)).drop 0).take 80) ++ tag) (lenApp (a := 80) (b := 32) (subLen (K := 112) (iss_len (repB_len hom hoc) (tgD_len (dn := n) hl hs32)) (by omega) : List.length (((repB oi om oc ++ tgD id df n ((isS id df n ms rs k).1) ((isS id df n ms rs k).2) ms (repB oi om oc)).drop 0).take 80) = 80) htg (by omega) : List.length ((((repB oi om oc ++ tgD id df n ((isS id df n ms rs k).1) ((isS id df n ms rs k).2) ms (repB oi om oc)).drop 0).take 80) ++ tag) = 112) hcp_313 (by rw [List.drop_zero, mx_t h80l, h80b]; rfl) _ h_318) rfl ?_
        rintro _ w_322 ⟨la_319, lc_320, lx_321, rfl, h_323⟩
        refine qM (.tuple [(.agg ⟨flat [(1, [(vu64 (ins_of ((((((repB oi om oc ++ tgD id df n ((isS id df n ms rs k).1) ((isS id df n ms rs k).2) ms (repB oi om oc)).drop 0).take 80) ++ tag).drop 0).take 80)))]), (32, (me_of ((((((repB oi om oc ++ tgD id df n ((isS id df n ms rs k).1) ((isS id df n ms rs k).2) ms (repB oi om oc)).drop 0).take 80) ++ tag).drop 0).take 80)).map vu8), (32, (ch_of ((((((repB oi om oc ++ tgD id df n ((isS id df n ms rs k).1) ((isS id df n ms rs k).2) ms (repB oi om oc)).drop 0).take 80) ++ tag).drop 0).take 80)).map vu8)]⟩), (.bool (decide (tgD id df n (tgU id df n ((isS id df n ms rs k).1) ((isS id df n ms rs k).2) ms (repB oi om oc)) (tgL id df n ((isS id df n ms rs k).1) ((isS id df n ms rs k).2) ms (repB oi om oc)) ms (((((repB oi om oc ++ tgD id df n ((isS id df n ms rs k).1) ((isS id df n ms rs k).2) ms (repB oi om oc)).drop 0).take 80) ++ tag).take 80) = (((((repB oi om oc ++ tgD id df n ((isS id df n ms rs k).1) ((isS id df n ms rs k).2) ms (repB oi om oc)).drop 0).take 80) ++ tag).drop 80).take 32))), (vi 0)].toArray) rfl rfl (qV rfl (R.extract rfl rfl) (qV rfl (R.extract rfl rfl) (qV rfl (R.extract rfl rfl) ?_)))
        refine WL.alloc (segs := [(1, [(vu64 0)]), (32, (List.replicate 32 (0 : UInt8)).map vu8), (32, (List.replicate 32 (0 : UInt8)).map vu8)]) h_323 (zv Try.typeInfo30 rfl) rfl (SsOk.cons (SOk.v rfl) (SsOk.cons (SOk.u8 lr) (SsOk.cons (SOk.u8 lr) SsOk.nil))) rfl (fun b_324 w_325 h_326 => ?_)
        refine WL.storeA (b := b_324) (off := 0) [] [(1, [(vu64 0)]), (32, (List.replicate 32 (0 : UInt8)).map vu8), (32, (List.replicate 32 (0 : UInt8)).map vu8)] [(1, [(vu64 (ins_of ((((((repB oi om oc ++ tgD id df n ((isS id df n ms rs k).1) ((isS id df n ms rs k).2) ms (repB oi om oc)).drop 0).take 80) ++ tag).drop 0).take 80)))]), (32, (me_of ((((((repB oi om oc ++ tgD id df n ((isS id df n ms rs k).1) ((isS id df n ms rs k).2) ms (repB oi om oc)).drop 0).take 80) ++ tag).drop 0).take 80)).map vu8), (32, (ch_of ((((((repB oi om oc ++ tgD id df n ((isS id df n ms rs k).1) ((isS id df n ms rs k).2) ms (repB oi om oc)).drop 0).take 80) ++ tag).drop 0).take 80)).map vu8)] [] (ys := flat [(1, [(vu64 (ins_of ((((((repB oi om oc ++ tgD id df n ((isS id df n ms rs k).1) ((isS id df n ms rs k).2) ms (repB oi om oc)).drop 0).take 80) ++ tag).drop 0).take 80)))]), (32, (me_of ((((((repB oi om oc ++ tgD id df n ((isS id df n ms rs k).1) ((isS id df n ms rs k).2) ms (repB oi om oc)).drop 0).take 80) ++ tag).drop 0).take 80)).map vu8), (32, (ch_of ((((((repB oi om oc ++ tgD id df n ((isS id df n ms rs k).1) ((isS id df n ms rs k).2) ms (repB oi om oc)).drop 0).take 80) ++ tag).drop 0).take 80)).map vu8)]) h_326 rfl rfl Try.sizeOf30 At.h (by decide) rfl rfl rfl rfl rfl rfl (SsOk.cons (SOk.v rfl) (SsOk.cons (SOk.u8 (me_len (by simp only [List.length_take, List.length_drop, (lenApp (a := 80) (b := 32) (subLen (K := 112) (iss_len (repB_len hom hoc) (tgD_len (dn := n) hl hs32)) (by omega) : List.length (((repB oi om oc ++ tgD id df n ((isS id df n ms rs k).1) ((isS id df n ms rs k).2) ms (repB oi om oc)).drop 0).take 80) = 80) htg (by omega) : List.length ((((repB oi om oc ++ tgD id df n ((isS id df n ms rs k).1) ((isS id df n ms rs k).2) ms (repB oi om oc)).drop 0).take 80) ++ tag) = 112)]; decide))) (SsOk.cons (SOk.u8 (ch_len (by simp only [List.length_take, List.length_drop, (lenApp (a := 80) (b := 32) (subLen (K := 112) (iss_len (repB_len hom hoc) (tgD_len (dn := n) hl hs32)) (by omega) : List.length (((repB oi om oc ++ tgD id df n ((isS id df n ms rs k).1) ((isS id df n ms rs k).2) ms (repB oi om oc)).drop 0).take 80) = 80) htg (by omega) : List.length ((((repB oi om oc ++ tgD id df n ((isS id df n ms rs k).1) ((isS id df n ms rs k).2) ms (repB oi om oc)).drop 0).take 80) ++ tag) = 112)]; decide))) SsOk.nil))) (fun w_327 h_328 => ?_)
        refine qA (.bool (decide (tgD id df n (tgU id df n ((isS id df n ms rs k).1) ((isS id df n ms rs k).2) ms (repB oi om oc)) (tgL id df n ((isS id df n ms rs k).1) ((isS id df n ms rs k).2) ms (repB oi om oc)) ms (((((repB oi om oc ++ tgD id df n ((isS id df n ms rs k).1) ((isS id df n ms rs k).2) ms (repB oi om oc)).drop 0).take 80) ++ tag).take 80) = (((((repB oi om oc ++ tgD id df n ((isS id df n ms rs k).1) ((isS id df n ms rs k).2) ms (repB oi om oc)).drop 0).take 80) ++ tag).drop 80).take 32))) rfl rfl (qA (vi 0) rfl rfl ?_)
        refine WL.nil (thn_n (WP.seq (WP.reg ?_)))
        refine qM (vi 0) rfl rfl ?_
        refine WL.call Try.call14 rfl rfl (c_num19 0 (by omega) _ ) rfl ?_
        rintro _ w_330 ⟨rfl, hc_329⟩
        have h_331 := h_328.same hc_329
        refine qV rfl (R.bin rfl rfl (bi_eql (r := true) (by decide))) (qM (.bool true) rfl rfl ?_)
        refine WL.want rfl rfl ?_
        refine qM (.bool (decide (tgD id df n (tgU id df n ((isS id df n ms rs k).1) ((isS id df n ms rs k).2) ms (repB oi om oc)) (tgL id df n ((isS id df n ms rs k).1) ((isS id df n ms rs k).2) ms (repB oi om oc)) ms (((((repB oi om oc ++ tgD id df n ((isS id df n ms rs k).1) ((isS id df n ms rs k).2) ms (repB oi om oc)).drop 0).take 80) ++ tag).take 80) = (((((repB oi om oc ++ tgD id df n ((isS id df n ms rs k).1) ((isS id df n ms rs k).2) ms (repB oi om oc)).drop 0).take 80) ++ tag).drop 80).take 32))) rfl rfl ?_
        refine WL.want rfl rfl ?_
        refine qV rfl (R.not (b := false) (congrArg Value.bool (decide_eq_false (by rw [mx_t h80l, mx_d h80l htg, h80b, (tg_same (b := repB oi om oc)).1]; exact guess_no (nid c_190) (hu_195 (nid c_199)))))) (qV rfl (R.pickT (v := (.bool true)) rfl rfl) (qA (.bool true) rfl rfl ?_))
        refine WL.nil (thn_n (WP.ret ?_))
        refine ret_of Try.results3 (RV.tmp (v := (.bool true)) rfl RV.nil) ?_
        exact ⟨rfl, h_331.chgS⟩
namespace attestMeansDone
open Go.ChangeShapes Go.WideShapes Go.ChangeAt
theorem own : ownKnob Try.prog.godebug = none := by kernel_rfl
theorem laidOut : laidOutB Try.prog = true := by kernel_rfl
set_option maxRecDepth 100000 in
theorem lifted (os : Os) (started : os.Started) (H : Type) (enc : TypeId × Value → H) :
  ReturnsInHanded {} Try.checked os 3 .any (Rows.attestMeansSpec.pre6 enc Try.prog Try.f3 Rows.attestMeansRow.domain false) (Rows.attestMeansSpec.post enc Try.prog Try.f3 false true false false) := by
 refine returnsInHanded_of_change (C := Try.checked) own started (by kernel_rfl) Try.func3
  (ChangeSpec.witness6 (enc := enc) (C := Try.checked) false ⟨#[], #[.agg #[.bool false, .int .u8 0, .int .u8 0, .int .u8 0, .int .u8 0, .int .u8 0, .int .u8 0, .int .u8 0, .int .u8 0, .int .u8 0, .int .u8 0, .int .u8 0, .int .u8 0, .int .u8 0, .int .u8 0, .int .u8 0, .int .u8 0, .int .u8 0, .int .u8 0, .int .u8 0, .int .u8 0, .int .u8 0, .int .u8 0, .int .u8 0, .int .u8 0, .int .u8 0, .int .u8 0, .int .u8 0, .int .u8 0, .int .u8 0, .int .u8 0, .int .u8 0, .int .u8 0, .slice none 0 0], .slice none 0 0, .agg #[.int .u64 0, .int .u8 0, .int .u8 0, .int .u8 0, .int .u8 0, .int .u8 0, .int .u8 0, .int .u8 0, .int .u8 0, .int .u8 0, .int .u8 0, .int .u8 0, .int .u8 0, .int .u8 0, .int .u8 0, .int .u8 0, .int .u8 0, .int .u8 0, .int .u8 0, .int .u8 0, .int .u8 0, .int .u8 0, .int .u8 0, .int .u8 0, .int .u8 0, .int .u8 0, .int .u8 0, .int .u8 0, .int .u8 0, .int .u8 0, .int .u8 0, .int .u8 0, .int .u8 0, .int .u8 0, .int .u8 0, .int .u8 0, .int .u8 0, .int .u8 0, .int .u8 0, .int .u8 0, .int .u8 0, .int .u8 0, .int .u8 0, .int .u8 0, .int .u8 0, .int .u8 0, .int .u8 0, .int .u8 0, .int .u8 0, .int .u8 0, .int .u8 0, .int .u8 0, .int .u8 0, .int .u8 0, .int .u8 0, .int .u8 0, .int .u8 0, .int .u8 0, .int .u8 0, .int .u8 0, .int .u8 0, .int .u8 0, .int .u8 0, .int .u8 0, .int .u8 0], .agg #[.int .u8 0, .int .u8 0, .int .u8 0, .int .u8 0, .int .u8 0, .int .u8 0, .int .u8 0, .int .u8 0, .int .u8 0, .int .u8 0, .int .u8 0, .int .u8 0, .int .u8 0, .int .u8 0, .int .u8 0, .int .u8 0, .int .u8 0, .int .u8 0, .int .u8 0, .int .u8 0, .int .u8 0, .int .u8 0, .int .u8 0, .int .u8 0, .int .u8 0, .int .u8 0, .int .u8 0, .int .u8 0, .int .u8 0, .int .u8 0, .int .u8 0, .int .u8 0]], []⟩ 8 (by kernel_rfl) (by kernel_rfl) (by kernel_rfl) (by kernel_rfl)) ?_
 intro W base args ds gs before hval0 hW hcnd _
 have hval : ∀ (j : Nat) t v, Try.f3.params[j]? = some t → args[j]? = some v → Value.okWide Try.prog W .any base t v := hval0
 have hW' := hW
 obtain ⟨p, q, hA0, hV, rfl, hfz, hnd⟩ := hW
 have hA : DataW.TrodAll enc Try.prog W 0 (fun _ => true) true Try.f3.params.toList args.toList ds p := hA0
 rw [Try.params3] at hA hval
 obtain ⟨v0, vs0, d0, ds0, p0, q0, hargs, rfl, rfl, h0, r0⟩ := trodAll_cons hA
 obtain ⟨v1, vs1, d1, ds1, p1, q1, rfl, rfl, rfl, h1, r1⟩ := trodAll_cons r0
 obtain ⟨v2, vs2, d2, ds2, p2, q2, rfl, rfl, rfl, h2, r2⟩ := trodAll_cons r1
 obtain ⟨v3, vs3, d3, ds3, p3, q3, rfl, rfl, rfl, h3, r3⟩ := trodAll_cons r2
 obtain ⟨rfl, rfl, rfl⟩ := trodAll_nil r3
 obtain rfl : args = #[v0, v1, v2, v3] := by cases args; simp_all
 obtain ⟨rfl, rfl⟩ := trodVars_none hV
 have lt0 : ∀ x ∈ p0, x.block < W.heap.size := by obtain ⟨m, hm⟩ := h0; exact DataW.trod_lt m _ _ _ hm
 obtain ⟨cs0, rfl⟩ := okWide_agg aggT26 (hval 0 26 v0 rfl rfl)
 have tr0 : Tr Try.prog W 26 cs0 := Tr.of h0 rfl
 have tl_x0 := Tr.struct (l := [(1, 4), (32, 23), (1, 24)]) Try.underlying26 ce26 (by kernel_rfl) tr0
 obtain ⟨a_x00, r_x00, rfl, n_x00, t_x00, tl_x00⟩ := tl_x0
 obtain ⟨x00, rfl⟩ := Tr.bool Try.underlying4 t_x00
 obtain ⟨a_x01, r_x01, rfl, n_x01, t_x01, tl_x01⟩ := tl_x00
 obtain ⟨x01, rfl, l_x01⟩ := Tr.arr8 Try.underlying23 ce23 ce5 Try.underlying5 t_x01
 obtain ⟨a_x02, r_x02, rfl, n_x02, t_x02, tl_x02⟩ := tl_x01
 obtain ⟨sa_x02, sn_x02, sc_x02, x02, rfl, l_x02, hc_x02, hm_x02, hv_x02⟩ := Tr.slA8 Try.underlying24 ce23 Try.underlying23 ce5 Try.underlying5 t_x02
 obtain rfl := tl_x02
 have lt1 : ∀ x ∈ p1, x.block < W.heap.size := by obtain ⟨m, hm⟩ := h1; exact DataW.trod_lt m _ _ _ hm
 obtain ⟨a1, n1, c1, rfl⟩ := okWide_slice Try.underlying27 (hval 1 27 v1 rfl rfl)
 obtain ⟨a1, n1, c1, x1, e1, l_x1, hc1, hm1, hr1, hv1⟩ := trRp W (Tr.of h1 rfl)
 cases e1
 have lt2 : ∀ x ∈ p2, x.block < W.heap.size := by obtain ⟨m, hm⟩ := h2; exact DataW.trod_lt m _ _ _ hm
 obtain ⟨cs2, rfl⟩ := okWide_agg aggT30 (hval 2 30 v2 rfl rfl)
 have tr2 : Tr Try.prog W 30 cs2 := Tr.of h2 rfl
 have tl_x2 := Tr.struct (l := [(1, 28), (32, 23), (32, 23)]) Try.underlying30 ce30 (by kernel_rfl) tr2
 obtain ⟨a_x20, r_x20, rfl, n_x20, t_x20, tl_x20⟩ := tl_x2
 obtain ⟨x20, rfl⟩ := Tr.u64 Try.underlying28 t_x20
 obtain ⟨a_x21, r_x21, rfl, n_x21, t_x21, tl_x21⟩ := tl_x20
 obtain ⟨x21, rfl, l_x21⟩ := Tr.arr8 Try.underlying23 ce23 ce5 Try.underlying5 t_x21
 obtain ⟨a_x22, r_x22, rfl, n_x22, t_x22, tl_x22⟩ := tl_x21
 obtain ⟨x22, rfl, l_x22⟩ := Tr.arr8 Try.underlying23 ce23 ce5 Try.underlying5 t_x22
 obtain rfl := tl_x22
 have lt3 : ∀ x ∈ p3, x.block < W.heap.size := by obtain ⟨m, hm⟩ := h3; exact DataW.trod_lt m _ _ _ hm
 obtain ⟨cs3, rfl⟩ := okWide_agg aggT23 (hval 3 23 v3 rfl rfl)
 have tr3 : Tr Try.prog W 23 cs3 := Tr.of h3 rfl
 obtain ⟨x3, rfl, l_x3⟩ := Tr.arr8 Try.underlying23 ce23 ce5 Try.underlying5 tr3
 clear hA0 hval0
 have hw : Cs Try.prog 3 [(.agg ⟨flat [(1, [(.bool x00)]), (32, x01.map vu8), (1, [(.slice sa_x02 sn_x02 sc_x02)])]⟩), (.slice a1 n1 c1), (.agg ⟨flat [(1, [(vu64 x20)]), (32, x21.map vu8), (32, x22.map vu8)]⟩), (.agg ⟨x3.map vu8⟩)].toArray W (fun v w1 => v = .bool true ∧ Chg W w1 []) := w_AttestMeans x00 x01 x02 l_x01 sa_x02 sn_x02 sc_x02 l_x02 a1 n1 c1 x1 l_x1 hr1 x20 x21 x22 l_x21 l_x22 x3 l_x3 W hv_x02.1 hv1.1
 have ea : ([(.agg ⟨flat [(1, [(.bool x00)]), (32, x01.map vu8), (1, [(.slice sa_x02 sn_x02 sc_x02)])]⟩), (.slice a1 n1 c1), (.agg ⟨flat [(1, [(vu64 x20)]), (32, x21.map vu8), (32, x22.map vu8)]⟩), (.agg ⟨x3.map vu8⟩)] : List Value).toArray = (#[.agg ⟨([.bool x00] ++ (x01.map vu8 ++ ([.slice sa_x02 sn_x02 sc_x02] ++ [])))⟩, (.slice a1 n1 c1), .agg ⟨([vu64 x20] ++ (x21.map vu8 ++ (x22.map vu8 ++ [])))⟩, .agg ⟨x3.map vu8⟩] : Array Value) := by simp [flat]
 rw [ea] at hw
 refine Calls.mono (Cs.below hw) fun e W' ⟨he, bel⟩ => ?_
 subst he
 exact ⟨_, rfl, _, _, _, [], _, [], hW', trodAll_mk1 (shut_bool Try.underlying4 _), (trodAll_cons_mk (Below.trod laidOut (by kernel_rfl) (of_decide_eq_true (by kernel_rfl)) h0 bel lt0) (trodAll_cons_mk (Below.trod laidOut (by kernel_rfl) (of_decide_eq_true (by kernel_rfl)) h1 bel lt1) (trodAll_cons_mk (Below.trod laidOut (by kernel_rfl) (of_decide_eq_true (by kernel_rfl)) h2 bel lt2) (trodAll_cons_mk (Below.trod laidOut (by kernel_rfl) (of_decide_eq_true (by kernel_rfl)) h3 bel lt3) trodAll_mk0)))), rfl, bel.frame _, fun h => by cases h⟩
theorem over : Rows.attestMeansRow.holds Try.pinned (OpenSpec.ofChange Rows.attestMeansSpec) :=
 OpenClaim.holds_of_wide 3 Try.f3 rfl rfl rfl rfl rfl rfl rfl ⟨rfl, rfl, rfl, rfl, rfl⟩ rfl rfl rfl rfl rfl (by kernel_rfl) Try.func3 (by kernel_rfl)
  (of_decide_eq_true (by kernel_rfl)) (by unfold Func.isWrapper; first | (rw [if_pos (by decide +kernel)]; kernel_rfl) | (rw [if_neg (by decide +kernel)]; exact ⟨rfl, rfl⟩))
  (fun os started H enc _ => lifted os started H enc)
theorem proved : Rows.AttestMeansSaid := over
end attestMeansDone
end Go.Proofs.Ytnhppjimimhlkaa
