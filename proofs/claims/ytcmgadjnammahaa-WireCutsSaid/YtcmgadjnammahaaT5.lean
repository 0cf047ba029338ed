/- Lists of bytes: contracts. Conditions: those that each theorem states. -/
import Derived.Test.YtcmgadjnammahaaT4
namespace Go.Proofs.Ytcmgadjnammahaa
open Go.Vc Go.RowKit
set_option linter.unusedVariables false
set_option linter.unusedSimpArgs false
set_option maxRecDepth 20000
theorem el40 : ElT Try.prog 40 23 1 24 := ElT.mk' Try.underlying40 (i := Try.t23) rfl rfl rfl rfl rfl rfl
theorem c_SameLists (a : Option Addr) (n cap : Nat) (xs : List Value) (ls : List (List UInt8)) (hln : ls.length = n) (a2 : Option Addr) (n2 cap2 : Nat) (ys : List Value) (ms : List (List UInt8)) (hln2 : ms.length = n2) (hnb : n ≤ 1099511627776) (hnb2 : n2 ≤ 1099511627776) (w : World) (hv : View w a xs) (hs : Sls w xs ls) (hv2 : View w a2 ys) (hs2 : Sls w ys ms) :
    Cs Try.prog 32 [(.slice a n cap), (.slice a2 n2 cap2)].toArray w (fun v w1 => v = .bool (decide (ls = ms)) ∧ Chg w w1 []) := by
  refine Cs.of (n := 27) (args := [(.slice a n cap), (.slice a2 n2 cap2)]) Try.func32 rfl rfl rfl ?_
  have h_0 := HP.init w
  have h_01 := h_0.oldV (View.arg hv) rfl (by simp [Ent.mut])
  have h_02 := h_01.oldV hs.pin rfl (by simp [Ent.mut])
  have h_03 := h_02.oldV (View.arg hv2) rfl (by simp [Ent.mut])
  have h_00 := h_03.oldV hs2.pin rfl (by simp [Ent.mut])
  have hxl : xs.length = n := hs.len.trans hln
  have hyl : ys.length = n2 := hs2.len.trans hln2
  refine WP.seq ?_
  refine WP.reg ?_
  refine WL.q (Wn.no rfl) rfl rfl (R.assign (v := (.bool false)) rfl) ?_
  refine WL.nil ?_
  refine thn_n ?_
  refine WP.seq ?_
  refine WP.seq ?_
  refine WP.reg ?_
  refine WL.q (Wn.no rfl) rfl rfl (R.move (v := (.slice a n cap)) rfl) ?_
  refine WL.q (Wn.no rfl) rfl rfl (R.lenS (a := a) (m := n) rfl rfl Try.underlying40) ?_
  refine WL.q (Wn.no rfl) rfl rfl (R.move (v := (.slice a2 n2 cap2)) rfl) ?_
  refine WL.q (Wn.no rfl) rfl rfl (R.lenS (a := a2) (m := n2) rfl rfl Try.underlying40) ?_
  refine WL.q (Wn.no rfl) rfl rfl (R.bin (v := (.bool (decide ((((n : Nat) : Int) : Int) ≠ ((n2 : Nat) : Int))))) rfl rfl (bi_neq (r := decide ((((n : Nat) : Int) : Int) ≠ ((n2 : Nat) : Int))) rfl)) ?_
  refine WL.nil ?_
  refine thn_n ?_
  refine WP.cond (b := decide ((((n : Nat) : Int) : Int) ≠ ((n2 : Nat) : Int))) rfl (fun c_1 => ?_) (fun c_1 => ?_)
  · have p_2 := of_decide_eq_true c_1
    refine WP.seq ?_
    refine WP.reg ?_
    refine WL.q (Wn.no rfl) rfl rfl (R.assign (v := (.bool false)) rfl) ?_
    refine WL.nil ?_
    refine thn_n ?_
    refine WP.ret ?_
    refine thn_r ?_
    refine ret_of Try.results32 (RV.tmp (v := (.bool false)) rfl RV.nil) ?_
    exact ⟨congrArg Value.bool (decide_eq_false (fun e => by have := congrArg List.length e; omega)).symm, h_00.chgS⟩
  · have p_3 := of_decide_eq_false c_1
    refine WP.skip ?_
    refine thn_n ?_
    refine WP.seq ?_
    refine WP.seq ?_
    refine WP.reg ?_
    refine WL.q (Wn.no rfl) rfl rfl (R.assign (v := (vi 0)) rfl) ?_
    refine WL.nil ?_
    refine thn_n ?_
    refine WP.block ?_
    refine WP.loopG (G := Nat) [4, 5, 11, 12, 13, 14, 15, 16, 17, 18, 19, 20, 21, 22, 23, 24, 25, 26] (fun k => [(5, (vi ((k : Nat) : Int)))]) (fun k m w1 => HP w w1 [.pin (sblks ys) (fun w => Sls w ys ms), .view a2 ys, .pin (sblks xs) (fun w => Sls w xs ls), .view a xs] ∧ (k ≤ n) ∧ (∀ j : Nat, j < k → ls.getD j [] = ms.getD j []) ∧ m = n - k) ⟨0, _, ⟨rfl, trivial⟩, h_00, (by omega), (fun j h => by omega), rfl⟩ ?_
    rintro k m_6 J_7 w_4 ⟨h_5, hk, hg, rfl⟩
    refine WP.seq ?_
    refine WP.seq ?_
    refine WP.reg ?_
    refine WL.q (Wn.no rfl) rfl rfl (R.move (v := (vi ((k : Nat) : Int))) rfl) ?_
    refine WL.q (Wn.no rfl) rfl rfl (R.move (v := (.slice a n cap)) rfl) ?_
    refine WL.q (Wn.no rfl) rfl rfl (R.lenS (a := a) (m := n) rfl rfl Try.underlying40) ?_
    refine WL.q (Wn.no rfl) rfl rfl (R.bin (v := (.bool (decide ((((k : Nat) : Int) : Int) < ((n : Nat) : Int))))) rfl rfl (bi_lss (r := decide ((((k : Nat) : Int) : Int) < ((n : Nat) : Int))) rfl)) ?_
    refine WL.nil ?_
    refine thn_n ?_
    refine WP.cond (b := decide ((((k : Nat) : Int) : Int) < ((n : Nat) : Int))) rfl (fun c_8 => ?_) (fun c_8 => ?_)
    · have p_9 := of_decide_eq_true c_8
      refine WP.skip ?_
      refine thn_n ?_
      refine WP.seq ?_
      refine WP.block ?_
      refine WP.seq ?_
      refine WP.drawT (SL w.heap.size [.pin (sblks ys) (fun w => Sls w ys ms), .view a2 ys, .pin (sblks xs) (fun w => Sls w xs ls), .view a xs]) (.q 0 (.q 1 (.q 2 (.q 3 (.q 4 (.q 5 (.q 6 (.q 7 (.s 8 (.q 9 .nil)))))))))) (by kernel_rfl) (by kernel_rfl) rfl (by kernel_rfl) (fun w_10 hc_12 => (SL.cons ((h_5.same hc_12).ok _ (.head _)) (SL.cons ((h_5.same hc_12).ok _ (.tail _ (.head _))) (SL.cons ((h_5.same hc_12).ok _ (.tail _ (.tail _ (.head _)))) (SL.cons ((h_5.same hc_12).ok _ (.tail _ (.tail _ (.tail _ (.head _))))) (SL.nil _ _)))))) (fun w_10 hc_12 => ?_)
      have h_11 := h_5.same hc_12
      refine WT.q rfl (Wn.no rfl) rfl rfl (fun wq hS => R.move (v := (.slice a n cap)) rfl) ?_
      refine WT.q rfl (Wn.no rfl) rfl rfl (fun wq hS => R.move (v := (vi ((k : Nat) : Int))) rfl) ?_
      refine WT.q rfl (Wn.no rfl) rfl rfl (fun wq hS => R.indexS (a := a) (i := k) (off := k) (xs := xs) rfl rfl rfl (by omega) (viewV (hS _ (.tail _ (.tail _ (.tail _ (.head _)))))) (by omega) Try.underlying40 Try.sizeOf23 (Nat.mul_one _).symm) ?_
      obtain ⟨a_13, n_14, c_15, hx_16, hl_17, hn_18, hv_19, hb_20⟩ := Sls.get (i := k) (h_11.ok _ (.tail _ (.tail _ (.head _)))).1 (by rw [hln]; omega)
      have h_21 := h_11.within (e' := .view a_13 ((ls.getD k []).map vu8)) (.tail _ (.tail _ (.head _))) rfl (View.arg hv_19) rfl rfl (fun b hb_ => hb_20 _ (view_sblk hl_17 b hb_))
      refine WT.q rfl (Wn.no rfl) rfl rfl (fun wq hS => R.loadG (a := a) (i := k) (xs := xs) (v := (.slice a_13 n_14 c_15)) rfl (viewV (hS _ (.tail _ (.tail _ (.tail _ (.head _)))))) Try.isAgg23 hx_16) ?_
      refine WT.q rfl (Wn.no rfl) rfl rfl (fun wq hS => R.move (v := (.slice a2 n2 cap2)) rfl) ?_
      refine WT.q rfl (Wn.no rfl) rfl rfl (fun wq hS => R.move (v := (vi ((k : Nat) : Int))) rfl) ?_
      refine WT.q rfl (Wn.no rfl) rfl rfl (fun wq hS => R.indexS (a := a2) (i := k) (off := k) (xs := ys) rfl rfl rfl (by omega) (viewV (hS _ (.tail _ (.head _)))) (by omega) Try.underlying40 Try.sizeOf23 (Nat.mul_one _).symm) ?_
      obtain ⟨a_22, n_23, c_24, hx_25, hl_26, hn_27, hv_28, hb_29⟩ := Sls.get (i := k) (h_21.ok _ (.tail _ (.head _))).1 (by rw [hln2]; omega)
      have h_30 := h_21.within (e' := .view a_22 ((ms.getD k []).map vu8)) (.tail _ (.head _)) rfl (View.arg hv_28) rfl rfl (fun b hb_ => hb_29 _ (view_sblk hl_26 b hb_))
      refine WT.q rfl (Wn.no rfl) rfl rfl (fun wq hS => R.loadG (a := a2) (i := k) (xs := ys) (v := (.slice a_22 n_23 c_24)) rfl (viewV (hS _ (.tail _ (.head _)))) Try.isAgg23 hx_25) ?_
      refine WT.s ?_
      refine Op1.one rfl (Wn.no rfl) ?_
      refine WL.call (al := [(.slice a_13 n_14 c_15), (.slice a_22 n_23 c_24)]) Try.call19 rfl rfl (c_SameR a_13 n_14 c_15 (ls.getD k []) hl_17 a_22 n_23 c_24 (ms.getD k []) hl_26 _ (viewV (h_30.ok _ (.tail _ (.head _)))) (viewV (h_30.ok _ (.head _)))) rfl ?_
      rintro _ w_32 ⟨rfl, hc_31⟩
      have h_33 := h_30.same hc_31
      refine WL.nil ?_
      refine ⟨(SL.cons (h_33.ok _ (.tail _ (.tail _ (.head _)))) (SL.cons (h_33.ok _ (.tail _ (.tail _ (.tail _ (.head _))))) (SL.cons (h_33.ok _ (.tail _ (.tail _ (.tail _ (.tail _ (.head _)))))) (SL.cons (h_33.ok _ (.tail _ (.tail _ (.tail _ (.tail _ (.tail _ (.head _))))))) (SL.nil _ _))))), ?_⟩
      refine WT.q rfl (Wn.no rfl) rfl rfl (fun wq hS => R.not (b := decide (ls.getD k [] = ms.getD k [])) rfl) ?_
      refine WT.nil ?_
      refine thn_n ?_
      refine WP.cond (b := !(decide (ls.getD k [] = ms.getD k []))) rfl (fun c_34 => ?_) (fun c_34 => ?_)
      · have p_35 := of_decide_eq_false (notT c_34)
        refine WP.seq ?_
        refine WP.reg ?_
        refine WL.q (Wn.no rfl) rfl rfl (R.assign (v := (.bool false)) rfl) ?_
        refine WL.nil ?_
        refine thn_n ?_
        refine WP.ret ?_
        refine inb_r ?_
        refine thn_r ?_
        refine thn_r ?_
        refine inb_r ?_
        refine thn_r ?_
        refine ret_of Try.results32 (RV.tmp (v := (.bool false)) rfl RV.nil) ?_
        exact ⟨congrArg Value.bool (decide_eq_false (fun e => p_35 (by rw [e]))).symm, h_33.chgS⟩
      · have p_36 := of_decide_eq_true (notF c_34)
        refine WP.skip ?_
        refine inb_n ?_
        refine thn_n ?_
        refine WP.reg ?_
        refine WL.q (Wn.no rfl) rfl rfl (R.move (v := (vi ((k : Nat) : Int))) rfl) ?_
        refine WL.q (Wn.no rfl) rfl rfl (R.bin (v := (vi ((k + 1 : Nat) : Int))) rfl rfl (bi_add (c := ((k + 1 : Nat) : Int)) (by omega) (by omega))) ?_
        refine WL.q (Wn.no rfl) rfl rfl (R.assign (v := (vi ((k + 1 : Nat) : Int))) rfl) ?_
        refine WL.nil ?_
        refine thn_n ?_
        have h_37 := h_33.drop rfl
        have h_38 := h_37.drop rfl
        refine ⟨k + 1, _, (by omega), (Ag.upd rfl (Ag.upd rfl (Ag.upd rfl (Ag.upd rfl (Ag.upd rfl (Ag.upd rfl (Ag.upd rfl (Ag.upd rfl (Ag.upd rfl (Ag.upd rfl (Ag.upd rfl (Ag.upd rfl (Ag.upd rfl (Ag.upd rfl (Ag.upd rfl (Ag.upd rfl (Ag.upd rfl (Ag.updL rfl (Ag.mix _ _ _))))))))))))))))))), ⟨rfl, trivial⟩, h_38, (by omega), (fun j hj => ?_), rfl⟩
        rcases Nat.lt_or_eq_of_le (Nat.le_of_lt_succ hj) with hj | rfl
        · exact hg j hj
        · exact p_36
    · have p_39 := of_decide_eq_false c_8
      refine WP.exit ?_
      refine thn_x ?_
      refine thn_x ?_
      refine inb_hit ?_
      refine thn_n ?_
      refine WP.seq ?_
      refine WP.reg ?_
      refine WL.q (Wn.no rfl) rfl rfl (R.assign (v := (.bool true)) rfl) ?_
      refine WL.nil ?_
      refine thn_n ?_
      refine WP.ret ?_
      refine ret_of Try.results32 (RV.tmp (v := (.bool true)) rfl RV.nil) ?_
      exact ⟨congrArg Value.bool (decide_eq_true (same_lists (by omega) fun j hj => hg j (by omega))).symm, h_5.chgS⟩

theorem c_Unpack_k (a : Option Addr) (cap : Nat) (w : World) (hv : View w a (([1, 0, 0, 0] : List UInt8).map vu8)) :
    Cs Try.prog 30 [(.slice a 4 cap)].toArray w (fun v w1 => v = (.tuple [(.slice none 0 0), (vi 4)].toArray) ∧ Chg w w1 []) := by
  refine Cs.of (n := 45) (args := [(.slice a 4 cap)]) Try.func30 rfl rfl rfl ?_
  have h_0 := HP.init w
  have h_00 := h_0.old (View.arg hv) (fun f hf => by cases hf)
  refine WP.seq ?_
  refine WP.reg ?_
  refine WL.q (Wn.no rfl) rfl rfl (R.assign (v := (.slice none 0 0)) rfl) ?_
  refine WL.q (Wn.no rfl) rfl rfl (R.assign (v := (vi 0)) rfl) ?_
  refine WL.nil ?_
  refine thn_n ?_
  refine WP.seq ?_
  refine WP.reg ?_
  refine WL.q (Wn.no rfl) rfl rfl (R.assign (v := (.slice none 0 0)) rfl) ?_
  refine WL.nil ?_
  refine thn_n ?_
  refine WP.seq ?_
  refine WP.reg ?_
  refine WL.q (Wn.no rfl) rfl rfl (R.move (v := (.slice a 4 cap)) rfl) ?_
  refine WL.call (al := [(.slice a 4 cap)]) Try.call69 rfl rfl (c_Clone a 4 cap ([1, 0, 0, 0] : List UInt8) (rfl : List.length ([1, 0, 0, 0] : List UInt8) = 4) (by omega) _ (viewV (h_00.ok _ (.head _)))) rfl ?_
  rintro _ w_3 ⟨a_1, cap_2, rfl, hc_4, ho_5⟩
  have h_6 := h_00.gotRow hc_4 ho_5
  have hq_7 := ho_5.2.2.1
  refine WL.q (Wn.no rfl) rfl rfl (R.assign (v := (.slice a_1 4 cap_2)) rfl) ?_
  refine WL.nil ?_
  refine thn_n ?_
  refine WP.seq ?_
  refine WP.block ?_
  refine WP.loopU (WI.round ?_)
  refine WP.seq ?_
  refine WP.seq ?_
  refine WP.reg ?_
  refine WL.q (Wn.no rfl) rfl rfl (R.move (v := (.slice a_1 4 cap_2)) rfl) ?_
  refine WL.q (Wn.no rfl) rfl rfl (R.lenS (a := a_1) (m := 4) rfl rfl Try.underlying23) ?_
  refine WL.q (Wn.no rfl) rfl rfl (R.bin (v := (.bool true)) rfl rfl (bi_gtr (r := true) (by decide))) ?_
  refine WL.nil ?_
  refine thn_n ?_
  refine WP.condT rfl ?_
  refine WP.skip ?_
  refine thn_n ?_
  refine WP.block ?_
  refine WP.seq ?_
  refine WP.seq ?_
  refine WP.reg ?_
  refine WL.q (Wn.no rfl) rfl rfl (R.move (v := (.slice a_1 4 cap_2)) rfl) ?_
  refine WL.q (Wn.no rfl) rfl rfl (R.lenS (a := a_1) (m := 4) rfl rfl Try.underlying23) ?_
  refine WL.q (Wn.no rfl) rfl rfl (R.bin (v := (.bool false)) rfl rfl (bi_lss (r := false) (by decide))) ?_
  refine WL.q (Wn.no rfl) rfl rfl (R.move (v := (.bool false)) rfl) ?_
  refine WL.want rfl rfl ?_
  refine WL.q (Wn.no rfl) rfl rfl (R.move (v := (.slice none 0 0)) rfl) ?_
  refine WL.want rfl rfl ?_
  refine WL.q (Wn.no rfl) rfl rfl (R.lenS (a := none) (m := 0) rfl rfl Try.underlying40) ?_
  refine WL.want rfl rfl ?_
  refine WL.q (Wn.no rfl) rfl rfl (R.bin (v := (.bool false)) rfl rfl (bi_eql (r := false) (by decide))) ?_
  refine WL.q (Wn.no rfl) rfl rfl (R.pickF (v := (.bool false)) rfl rfl) ?_
  refine WL.nil ?_
  refine thn_n ?_
  refine WP.condF rfl ?_
  refine WP.skip ?_
  refine thn_n ?_
  refine WP.seq ?_
  refine WP.reg ?_
  refine WL.q (Wn.no rfl) rfl rfl (R.move (v := (.slice a_1 4 cap_2)) rfl) ?_
  refine WL.q (Wn.no rfl) rfl rfl (R.sliceS (a := a_1) (len := 4) (l := 0) (h := 4) rfl EvB.dflt (EvB.it (l := 4) rfl rfl) (by decide) (by omega) Try.underlying23 Try.sizeOf5) ?_
  refine WL.call (al := [(.slice (slA a_1 0 cap_2 1) 4 cap_2)]) Try.call64 rfl rfl (c_get (slA a_1 0 cap_2 1) 4 cap_2 ((([1, 0, 0, 0] : List UInt8).drop 0).take 4) (subLen (K := 4) (rfl : List.length ([1, 0, 0, 0] : List UInt8) = 4) (by omega) : List.length ((([1, 0, 0, 0] : List UInt8).drop 0).take 4) = 4) (by omega) _ (View.slM (l := 0) (m := cap_2) (k := 4) (ownView (h_6.ok _ (.head _))) (by omega))) rfl ?_
  rintro _ w_9 ⟨rfl, hc_8⟩
  have h_10 := h_6.same hc_8
  refine WL.q (Wn.no rfl) rfl rfl (R.conv (b := 1) rfl Try.underlying22 Try.underlying3 (by decide +kernel)) ?_
  refine WL.q (Wn.no rfl) rfl rfl (R.assign (v := (vi 1)) rfl) ?_
  refine WL.nil ?_
  refine thn_n ?_
  refine WP.seq ?_
  refine WP.reg ?_
  refine WL.q (Wn.no rfl) rfl rfl (R.move (v := (.slice a_1 4 cap_2)) rfl) ?_
  refine WL.q (Wn.no rfl) rfl rfl (R.sliceS (a := a_1) (len := 4) (l := 4) (h := 4) rfl (EvB.it (l := 4) rfl rfl) EvB.dflt (by decide) (by omega) Try.underlying23 Try.sizeOf5) ?_
  refine WL.q (Wn.no rfl) rfl rfl (R.assign (v := (.slice (slA a_1 4 cap_2 1) 0 (cap_2 - 4))) rfl) ?_
  refine WL.nil ?_
  refine thn_n ?_
  refine WP.seq ?_
  refine WP.seq ?_
  refine WP.reg ?_
  refine WL.q (Wn.no rfl) rfl rfl (R.move (v := (vi 1)) rfl) ?_
  refine WL.q (Wn.no rfl) rfl rfl (R.bin (v := (.bool false)) rfl rfl (bi_gtr (r := false) (by decide))) ?_
  refine WL.q (Wn.no rfl) rfl rfl (R.move (v := (.bool false)) rfl) ?_
  refine WL.want rfl rfl ?_
  refine WL.q (Wn.no rfl) rfl rfl (R.move (v := (vi 1)) rfl) ?_
  refine WL.want rfl rfl ?_
  refine WL.q (Wn.no rfl) rfl rfl (R.move (v := (.slice (slA a_1 4 cap_2 1) 0 (cap_2 - 4))) rfl) ?_
  refine WL.want rfl rfl ?_
  refine WL.q (Wn.no rfl) rfl rfl (R.lenS (a := slA a_1 4 cap_2 1) (m := 0) rfl rfl Try.underlying23) ?_
  refine WL.want rfl rfl ?_
  refine WL.q (Wn.no rfl) rfl rfl (R.bin (v := (.bool true)) rfl rfl (bi_gtr (r := true) (by decide))) ?_
  refine WL.q (Wn.no rfl) rfl rfl (R.pickF (v := (.bool true)) rfl rfl) ?_
  refine WL.nil ?_
  refine thn_n ?_
  refine WP.condT rfl ?_
  refine WP.seq ?_
  refine WP.reg ?_
  refine WL.q (Wn.no rfl) rfl rfl (R.assign (v := (.slice none 0 0)) rfl) ?_
  refine WL.q (Wn.no rfl) rfl rfl (R.assign (v := (vi 4)) rfl) ?_
  refine WL.nil ?_
  refine thn_n ?_
  refine WP.ret ?_
  refine thn_r ?_
  refine inb_r ?_
  refine thn_r ?_
  refine inb_r ?_
  refine thn_r ?_
  refine ret_of Try.results30 (RV.tmp (v := (.slice none 0 0)) rfl (RV.tmp (v := (vi 4)) rfl RV.nil)) ?_
  exact ⟨rfl, h_10.chgS⟩

theorem c_Cut_k2 (a : Option Addr) (cap : Nat) (a2 : Option Addr) (cap2 : Nat) (w : World) (hv : View w a (([1] : List UInt8).map vu8)) (hv2 : View w a2 (([2] : List Int).map vi64)) :
    Cs Try.prog 50 [(.slice a 1 cap), (.slice a2 1 cap2)].toArray w (fun v w1 => v = (.tuple [(.slice none 0 0), (vi 4)].toArray) ∧ Chg w w1 []) := by
  refine Cs.of (n := 39) (args := [(.slice a 1 cap), (.slice a2 1 cap2)]) Try.func50 rfl rfl rfl ?_
  have h_0 := HP.init w
  have h_01 := h_0.oldV (View.arg hv) rfl (by simp [Ent.mut])
  have h_00 := h_01.oldV (View.arg hv2) rfl (by simp [Ent.mut])
  refine WP.seq ?_
  refine WP.reg ?_
  refine WL.q (Wn.no rfl) rfl rfl (R.assign (v := (.slice none 0 0)) rfl) ?_
  refine WL.q (Wn.no rfl) rfl rfl (R.assign (v := (vi 0)) rfl) ?_
  refine WL.nil ?_
  refine thn_n ?_
  refine WP.seq ?_
  refine WP.seq ?_
  refine WP.reg ?_
  refine WL.q (Wn.no rfl) rfl rfl (R.move (v := (.slice a2 1 cap2)) rfl) ?_
  refine WL.call (al := [(.slice a2 1 cap2), (.func (.func 79) [].toArray [].toArray)]) Try.call78 rfl rfl (c_CfZ_t a2 1 cap2 ([2] : List Int) (rfl : List.length ([2] : List Int) = 1) (by omega) (by decide +kernel) _ (viewV (h_00.ok _ (.head _)))) rfl ?_
  rintro _ w_2 ⟨rfl, hc_1⟩
  have h_3 := h_00.same hc_1
  refine WL.nil ?_
  refine thn_n ?_
  refine WP.condF rfl ?_
  refine WP.skip ?_
  refine thn_n ?_
  refine WP.seq ?_
  refine WP.reg ?_
  refine WL.q (Wn.no rfl) rfl rfl (R.assign (v := (.slice none 0 0)) rfl) ?_
  refine WL.nil ?_
  refine thn_n ?_
  refine WP.seq ?_
  refine WP.reg ?_
  refine WL.q (Wn.no rfl) rfl rfl (R.move (v := (.slice a 1 cap)) rfl) ?_
  refine WL.call (al := [(.slice a 1 cap)]) Try.call69 rfl rfl (c_Clone a 1 cap ([1] : List UInt8) (rfl : List.length ([1] : List UInt8) = 1) (by omega) _ (viewV (h_3.ok _ (.tail _ (.head _))))) rfl ?_
  rintro _ w_6 ⟨a_4, cap_5, rfl, hc_7, ho_8⟩
  have h_9 := h_3.gotRow hc_7 ho_8
  have hq_10 := ho_8.2.2.1
  refine WL.q (Wn.no rfl) rfl rfl (R.assign (v := (.slice a_4 1 cap_5)) rfl) ?_
  refine WL.nil ?_
  refine thn_n ?_
  refine WP.seq ?_
  refine WP.seq ?_
  refine WP.reg ?_
  refine WL.q (Wn.no rfl) rfl rfl (R.move (v := (.slice a2 1 cap2)) rfl) ?_
  refine WL.q (Wn.no rfl) rfl rfl (R.lenS (a := a2) (m := 1) rfl rfl Try.underlying60) ?_
  refine WL.q (Wn.no rfl) rfl rfl (R.move (v := (vi 0)) rfl) ?_
  refine WL.nil ?_
  refine thn_n ?_
  refine WP.block ?_
  refine WP.loopU (WI.round ?_)
  refine WP.seq ?_
  refine WP.reg ?_
  refine WL.q (Wn.no rfl) rfl rfl (R.bin (v := (.bool true)) rfl rfl (bi_lss (r := true) (by decide))) ?_
  refine WL.nil ?_
  refine thn_n ?_
  refine WP.seq ?_
  refine WP.condT rfl ?_
  refine WP.skip ?_
  refine thn_n ?_
  refine WP.seq ?_
  refine WP.block ?_
  refine WP.seq ?_
  refine WP.reg ?_
  refine WL.q (Wn.no rfl) rfl rfl (R.indexS (a := a2) (i := 0) (off := 0) (xs := ([2] : List Int).map vi64) rfl rfl rfl (by decide) (viewV (h_9.ok _ (.tail _ (.head _)))) (lt_len (K := 1) (len_map (rfl : List.length ([2] : List Int) = 1)) (by omega)) Try.underlying60 Try.sizeOf3 (Nat.mul_one _).symm) ?_
  refine WL.q (Wn.no rfl) rfl rfl (R.loadG (a := a2) (i := 0) (xs := ([2] : List Int).map vi64) (v := (vi 2)) rfl (viewV (h_9.ok _ (.tail _ (.head _)))) Try.isAgg3 rfl) ?_
  refine WL.q (Wn.no rfl) rfl rfl (R.assign (v := (vi 2)) rfl) ?_
  refine WL.nil ?_
  refine thn_n ?_
  refine WP.seq ?_
  refine WP.seq ?_
  refine WP.reg ?_
  refine WL.q (Wn.no rfl) rfl rfl (R.move (v := (vi 2)) rfl) ?_
  refine WL.q (Wn.no rfl) rfl rfl (R.move (v := (.slice a_4 1 cap_5)) rfl) ?_
  refine WL.q (Wn.no rfl) rfl rfl (R.lenS (a := a_4) (m := 1) rfl rfl Try.underlying23) ?_
  refine WL.q (Wn.no rfl) rfl rfl (R.bin (v := (.bool true)) rfl rfl (bi_gtr (r := true) (by decide))) ?_
  refine WL.nil ?_
  refine thn_n ?_
  refine WP.condT rfl ?_
  refine WP.seq ?_
  refine WP.reg ?_
  refine WL.q (Wn.no rfl) rfl rfl (R.assign (v := (.slice none 0 0)) rfl) ?_
  refine WL.q (Wn.no rfl) rfl rfl (R.assign (v := (vi 4)) rfl) ?_
  refine WL.nil ?_
  refine thn_n ?_
  refine WP.ret ?_
  refine thn_r ?_
  refine inb_r ?_
  refine thn_r ?_
  refine thn_r ?_
  refine inb_r ?_
  refine thn_r ?_
  refine ret_of Try.results50 (RV.tmp (v := (.slice none 0 0)) rfl (RV.tmp (v := (vi 4)) rfl RV.nil)) ?_
  exact ⟨rfl, h_9.chgS⟩

theorem c_Cut_k1 (a : Option Addr) (cap : Nat) (a2 : Option Addr) (cap2 : Nat) (w : World) (hv : View w a (([1, 2, 3] : List UInt8).map vu8)) (hv2 : View w a2 (([2, 1] : List Int).map vi64)) :
    Cs Try.prog 50 [(.slice a 3 cap), (.slice a2 2 cap2)].toArray w (fun v w1 => ∃ a cap xs, v = .tuple [.slice a 2 cap, vi 0].toArray ∧ Chg w w1 [] ∧ View w1 a xs ∧ Sls w1 xs [([1, 2] : List UInt8), [3]] ∧ ∀ b ∈ (Ent.view a xs).blocks ++ sblks xs, w.heap.size ≤ b) := by
  refine Cs.of (n := 39) (args := [(.slice a 3 cap), (.slice a2 2 cap2)]) Try.func50 rfl rfl rfl ?_
  have h_0 := HP.init w
  have h_01 := h_0.oldV (View.arg hv) rfl (by simp [Ent.mut])
  have h_00 := h_01.oldV (View.arg hv2) rfl (by simp [Ent.mut])
  refine WP.seq ?_
  refine WP.reg ?_
  refine WL.q (Wn.no rfl) rfl rfl (R.assign (v := (.slice none 0 0)) rfl) ?_
  refine WL.q (Wn.no rfl) rfl rfl (R.assign (v := (vi 0)) rfl) ?_
  refine WL.nil ?_
  refine thn_n ?_
  refine WP.seq ?_
  refine WP.seq ?_
  refine WP.reg ?_
  refine WL.q (Wn.no rfl) rfl rfl (R.move (v := (.slice a2 2 cap2)) rfl) ?_
  refine WL.call (al := [(.slice a2 2 cap2), (.func (.func 79) [].toArray [].toArray)]) Try.call78 rfl rfl (c_CfZ_t a2 2 cap2 ([2, 1] : List Int) (rfl : List.length ([2, 1] : List Int) = 2) (by omega) (by decide +kernel) _ (viewV (h_00.ok _ (.head _)))) rfl ?_
  rintro _ w_2 ⟨rfl, hc_1⟩
  have h_3 := h_00.same hc_1
  refine WL.nil ?_
  refine thn_n ?_
  refine WP.condF rfl ?_
  refine WP.skip ?_
  refine thn_n ?_
  refine WP.seq ?_
  refine WP.reg ?_
  refine WL.q (Wn.no rfl) rfl rfl (R.assign (v := (.slice none 0 0)) rfl) ?_
  refine WL.nil ?_
  refine thn_n ?_
  refine WP.seq ?_
  refine WP.reg ?_
  refine WL.q (Wn.no rfl) rfl rfl (R.move (v := (.slice a 3 cap)) rfl) ?_
  refine WL.call (al := [(.slice a 3 cap)]) Try.call69 rfl rfl (c_Clone a 3 cap ([1, 2, 3] : List UInt8) (rfl : List.length ([1, 2, 3] : List UInt8) = 3) (by omega) _ (viewV (h_3.ok _ (.tail _ (.head _))))) rfl ?_
  rintro _ w_6 ⟨a_4, cap_5, rfl, hc_7, ho_8⟩
  have h_9 := h_3.gotRow hc_7 ho_8
  have hq_10 := ho_8.2.2.1
  refine WL.q (Wn.no rfl) rfl rfl (R.assign (v := (.slice a_4 3 cap_5)) rfl) ?_
  refine WL.nil ?_
  refine thn_n ?_
  refine WP.seq ?_
  refine WP.seq ?_
  refine WP.reg ?_
  refine WL.q (Wn.no rfl) rfl rfl (R.move (v := (.slice a2 2 cap2)) rfl) ?_
  refine WL.q (Wn.no rfl) rfl rfl (R.lenS (a := a2) (m := 2) rfl rfl Try.underlying60) ?_
  refine WL.q (Wn.no rfl) rfl rfl (R.move (v := (vi 0)) rfl) ?_
  refine WL.nil ?_
  refine thn_n ?_
  refine WP.block ?_
  refine WP.loopU (WI.round ?_)
  refine WP.seq ?_
  refine WP.reg ?_
  refine WL.q (Wn.no rfl) rfl rfl (R.bin (v := (.bool true)) rfl rfl (bi_lss (r := true) (by decide))) ?_
  refine WL.nil ?_
  refine thn_n ?_
  refine WP.seq ?_
  refine WP.condT rfl ?_
  refine WP.skip ?_
  refine thn_n ?_
  refine WP.seq ?_
  refine WP.block ?_
  refine WP.seq ?_
  refine WP.reg ?_
  refine WL.q (Wn.no rfl) rfl rfl (R.indexS (a := a2) (i := 0) (off := 0) (xs := ([2, 1] : List Int).map vi64) rfl rfl rfl (by decide) (viewV (h_9.ok _ (.tail _ (.head _)))) (lt_len (K := 2) (len_map (rfl : List.length ([2, 1] : List Int) = 2)) (by omega)) Try.underlying60 Try.sizeOf3 (Nat.mul_one _).symm) ?_
  refine WL.q (Wn.no rfl) rfl rfl (R.loadG (a := a2) (i := 0) (xs := ([2, 1] : List Int).map vi64) (v := (vi 2)) rfl (viewV (h_9.ok _ (.tail _ (.head _)))) Try.isAgg3 rfl) ?_
  refine WL.q (Wn.no rfl) rfl rfl (R.assign (v := (vi 2)) rfl) ?_
  refine WL.nil ?_
  refine thn_n ?_
  refine WP.seq ?_
  refine WP.seq ?_
  refine WP.reg ?_
  refine WL.q (Wn.no rfl) rfl rfl (R.move (v := (vi 2)) rfl) ?_
  refine WL.q (Wn.no rfl) rfl rfl (R.move (v := (.slice a_4 3 cap_5)) rfl) ?_
  refine WL.q (Wn.no rfl) rfl rfl (R.lenS (a := a_4) (m := 3) rfl rfl Try.underlying23) ?_
  refine WL.q (Wn.no rfl) rfl rfl (R.bin (v := (.bool false)) rfl rfl (bi_gtr (r := false) (by decide))) ?_
  refine WL.nil ?_
  refine thn_n ?_
  refine WP.condF rfl ?_
  refine WP.skip ?_
  refine thn_n ?_
  refine WP.drawT (SL w.heap.size [.row a_4 3 cap_5 5 1 (([1, 2, 3] : List UInt8).map vu8), .view a2 (([2, 1] : List Int).map vi64), .view a (([1, 2, 3] : List UInt8).map vu8)]) (.q 0 (.q 1 (.q 2 (.q 3 (.q 4 (.q 7 (.q 8 (.q 9 (.s 5 (.s 6 (.q 10 (.q 11 .nil)))))))))))) (by kernel_rfl) (by kernel_rfl) rfl (by kernel_rfl) (fun w_11 hc_13 => (SL.cons ((h_9.same hc_13).ok _ (.head _)) (SL.cons ((h_9.same hc_13).ok _ (.tail _ (.head _))) (SL.cons ((h_9.same hc_13).ok _ (.tail _ (.tail _ (.head _)))) (SL.nil _ _))))) (fun w_11 hc_13 => ?_)
  have h_12 := h_9.same hc_13
  refine WT.q rfl (Wn.no rfl) rfl rfl (fun wq hS => R.move (v := (.slice none 0 0)) rfl) ?_
  refine WT.q rfl (Wn.no rfl) rfl rfl (fun wq hS => R.move (v := (.slice a_4 3 cap_5)) rfl) ?_
  refine WT.q rfl (Wn.no rfl) rfl rfl (fun wq hS => R.move (v := (vi 2)) rfl) ?_
  refine WT.q rfl (Wn.no rfl) rfl rfl (fun wq hS => R.move (v := (vi 2)) rfl) ?_
  refine WT.q rfl (Wn.no rfl) rfl rfl (fun wq hS => R.sliceS3 (a := a_4) (len := 3) (l := 0) (h := 2) (m := 2) rfl EvB.dflt rfl rfl rfl rfl (by decide) (by decide) (by omega) Try.underlying23 Try.sizeOf5) ?_
  refine WT.q rfl (Wn.no rfl) rfl rfl (fun wq hS => R.move (v := (.slice a_4 3 cap_5)) rfl) ?_
  refine WT.q rfl (Wn.no rfl) rfl rfl (fun wq hS => R.move (v := (vi 2)) rfl) ?_
  refine WT.q rfl (Wn.no rfl) rfl rfl (fun wq hS => R.sliceS (a := a_4) (len := 3) (l := 2) (h := 3) rfl (EvB.it (l := 2) rfl rfl) EvB.dflt (by decide) (by omega) Try.underlying23 Try.sizeOf5) ?_
  refine WT.s ?_
  refine Op1.one rfl (Wn.no rfl) ?_
  refine WL.buildSl (vs := [(0, (.slice (slA a_4 0 2 1) 2 2))]) (cs := [(.slice (slA a_4 0 2 1) 2 2)]) h_12 Try.underlying40 Try.sizeOf23 (zv Try.typeInfo23 rfl) rfl rfl (by kernel_rfl) rfl (by simp [Value.oneCell']) rfl rfl (fun b_14 w_15 h_16 => ?_)
  refine WL.nil ?_
  refine ⟨(SL.cons (h_16.ok _ (.tail _ (.head _))) (SL.cons (h_16.ok _ (.tail _ (.tail _ (.head _)))) (SL.cons (h_16.ok _ (.tail _ (.tail _ (.tail _ (.head _))))) (SL.nil _ _)))), ?_⟩
  refine WT.s ?_
  refine Op1.one rfl (Wn.no rfl) ?_
  have h_17 := h_16.rowNil 23 1
  refine WL.append (km := 1) (xs := []) (ys := [(.slice (slA a_4 0 2 1) 2 2)]) (zs := [(.slice (slA a_4 0 2 1) 2 2)]) h_17 rfl rfl el40 (viewB (h_17.ok _ (.tail _ (.head _))) Sg.h) rfl (by simp [Value.oneCell']) rfl rfl (by omega) (by omega) (fun _ _ => At.h) rfl (fun a_18 c_19 w_20 h_21 => ?_)
  refine WL.nil ?_
  refine ⟨(SL.cons (h_21.ok _ (.tail _ (.tail _ (.head _)))) (SL.cons (h_21.ok _ (.tail _ (.tail _ (.tail _ (.head _))))) (SL.cons (h_21.ok _ (.tail _ (.tail _ (.tail _ (.tail _ (.head _)))))) (SL.nil _ _)))), ?_⟩
  refine WT.q rfl (Wn.no rfl) rfl rfl (fun wq hS => R.assign (v := (.slice a_18 1 c_19)) rfl) ?_
  refine WT.q rfl (Wn.no rfl) rfl rfl (fun wq hS => R.assign (v := (.slice (slA a_4 2 cap_5 1) 1 (cap_5 - 2))) rfl) ?_
  refine WT.nil ?_
  refine inb_n ?_
  refine thn_n ?_
  refine WP.reg ?_
  refine WL.q (Wn.no rfl) rfl rfl (R.bin (v := (vi 1)) rfl rfl (bi_add (c := 1) (by omega) (by omega))) ?_
  refine WL.q (Wn.no rfl) rfl rfl (R.move (v := (vi 1)) rfl) ?_
  refine WL.nil ?_
  refine thn_n ?_
  refine WI.round ?_
  refine WP.seq ?_
  refine WP.reg ?_
  refine WL.q (Wn.no rfl) rfl rfl (R.bin (v := (.bool true)) rfl rfl (bi_lss (r := true) (by decide))) ?_
  refine WL.nil ?_
  refine thn_n ?_
  refine WP.seq ?_
  refine WP.condT rfl ?_
  refine WP.skip ?_
  refine thn_n ?_
  refine WP.seq ?_
  refine WP.block ?_
  refine WP.seq ?_
  refine WP.reg ?_
  refine WL.q (Wn.no rfl) rfl rfl (R.indexS (a := a2) (i := 1) (off := 1) (xs := ([2, 1] : List Int).map vi64) rfl rfl rfl (by decide) (viewV (h_21.ok _ (.tail _ (.tail _ (.tail _ (.head _)))))) (lt_len (K := 2) (len_map (rfl : List.length ([2, 1] : List Int) = 2)) (by omega)) Try.underlying60 Try.sizeOf3 (Nat.mul_one _).symm) ?_
  refine WL.q (Wn.no rfl) rfl rfl (R.loadG (a := a2) (i := 1) (xs := ([2, 1] : List Int).map vi64) (v := (vi 1)) rfl (viewV (h_21.ok _ (.tail _ (.tail _ (.tail _ (.head _)))))) Try.isAgg3 rfl) ?_
  refine WL.q (Wn.no rfl) rfl rfl (R.assign (v := (vi 1)) rfl) ?_
  refine WL.nil ?_
  refine thn_n ?_
  refine WP.seq ?_
  refine WP.seq ?_
  refine WP.reg ?_
  refine WL.q (Wn.no rfl) rfl rfl (R.move (v := (vi 1)) rfl) ?_
  refine WL.q (Wn.no rfl) rfl rfl (R.move (v := (.slice (slA a_4 2 cap_5 1) 1 (cap_5 - 2))) rfl) ?_
  refine WL.q (Wn.no rfl) rfl rfl (R.lenS (a := slA a_4 2 cap_5 1) (m := 1) rfl rfl Try.underlying23) ?_
  refine WL.q (Wn.no rfl) rfl rfl (R.bin (v := (.bool false)) rfl rfl (bi_gtr (r := false) (by decide))) ?_
  refine WL.nil ?_
  refine thn_n ?_
  refine WP.condF rfl ?_
  refine WP.skip ?_
  refine thn_n ?_
  refine WP.drawT (SL w.heap.size [.blk b_14 .nw 23 [(1, [(.slice (slA a_4 0 2 1) 2 2)])], .row a_4 3 cap_5 5 1 (([1, 2, 3] : List UInt8).map vu8), .view a2 (([2, 1] : List Int).map vi64), .view a (([1, 2, 3] : List UInt8).map vu8)]) (.q 0 (.q 1 (.q 2 (.q 3 (.q 4 (.q 7 (.q 8 (.q 9 (.s 5 (.s 6 (.q 10 (.q 11 .nil)))))))))))) (by kernel_rfl) (by kernel_rfl) rfl (by kernel_rfl) (fun w_22 hc_24 => (SL.cons ((h_21.same hc_24).ok _ (.tail _ (.head _))) (SL.cons ((h_21.same hc_24).ok _ (.tail _ (.tail _ (.head _)))) (SL.cons ((h_21.same hc_24).ok _ (.tail _ (.tail _ (.tail _ (.head _))))) (SL.cons ((h_21.same hc_24).ok _ (.tail _ (.tail _ (.tail _ (.tail _ (.head _)))))) (SL.nil _ _)))))) (fun w_22 hc_24 => ?_)
  have h_23 := h_21.same hc_24
  refine WT.q rfl (Wn.no rfl) rfl rfl (fun wq hS => R.move (v := (.slice a_18 1 c_19)) rfl) ?_
  refine WT.q rfl (Wn.no rfl) rfl rfl (fun wq hS => R.move (v := (.slice (slA a_4 2 cap_5 1) 1 (cap_5 - 2))) rfl) ?_
  refine WT.q rfl (Wn.no rfl) rfl rfl (fun wq hS => R.move (v := (vi 1)) rfl) ?_
  refine WT.q rfl (Wn.no rfl) rfl rfl (fun wq hS => R.move (v := (vi 1)) rfl) ?_
  refine WT.q rfl (Wn.no rfl) rfl rfl (fun wq hS => R.sliceS3 (a := slA a_4 2 cap_5 1) (len := 1) (l := 0) (h := 1) (m := 1) rfl EvB.dflt rfl rfl rfl rfl (by decide) (by decide) (by omega) Try.underlying23 Try.sizeOf5) ?_
  refine WT.q rfl (Wn.no rfl) rfl rfl (fun wq hS => R.move (v := (.slice (slA a_4 2 cap_5 1) 1 (cap_5 - 2))) rfl) ?_
  refine WT.q rfl (Wn.no rfl) rfl rfl (fun wq hS => R.move (v := (vi 1)) rfl) ?_
  refine WT.q rfl (Wn.no rfl) rfl rfl (fun wq hS => R.sliceS (a := slA a_4 2 cap_5 1) (len := 1) (l := 1) (h := 1) rfl (EvB.it (l := 1) rfl rfl) EvB.dflt (by decide) (by omega) Try.underlying23 Try.sizeOf5) ?_
  refine WT.s ?_
  refine Op1.one rfl (Wn.no rfl) ?_
  refine WL.buildSl (vs := [(0, (.slice (slA (slA a_4 2 cap_5 1) 0 1 1) 1 1))]) (cs := [(.slice (slA (slA a_4 2 cap_5 1) 0 1 1) 1 1)]) h_23 Try.underlying40 Try.sizeOf23 (zv Try.typeInfo23 rfl) rfl rfl (by kernel_rfl) rfl (by simp [Value.oneCell']) rfl rfl (fun b_25 w_26 h_27 => ?_)
  refine WL.nil ?_
  refine ⟨(SL.cons (h_27.ok _ (.tail _ (.tail _ (.head _)))) (SL.cons (h_27.ok _ (.tail _ (.tail _ (.tail _ (.head _))))) (SL.cons (h_27.ok _ (.tail _ (.tail _ (.tail _ (.tail _ (.head _)))))) (SL.cons (h_27.ok _ (.tail _ (.tail _ (.tail _ (.tail _ (.tail _ (.head _))))))) (SL.nil _ _))))), ?_⟩
  refine WT.s ?_
  refine Op1.one rfl (Wn.no rfl) ?_
  refine WL.append (km := 2) (xs := [(.slice (slA a_4 0 2 1) 2 2)]) (ys := [(.slice (slA (slA a_4 2 cap_5 1) 0 1 1) 1 1)]) (zs := [(.slice (slA a_4 0 2 1) 2 2), (.slice (slA (slA a_4 2 cap_5 1) 0 1 1) 1 1)]) h_27 rfl rfl el40 (viewB (h_27.ok _ (.head _)) Sg.h) rfl (by simp [Value.oneCell']) rfl rfl (by omega) (by omega) (fun _ _ => (At.t At.h)) rfl (fun a_28 c_29 w_30 h_31 => ?_)
  refine WL.nil ?_
  refine ⟨(SL.cons (h_31.ok _ (.tail _ (.tail _ (.head _)))) (SL.cons (h_31.ok _ (.tail _ (.tail _ (.tail _ (.head _))))) (SL.cons (h_31.ok _ (.tail _ (.tail _ (.tail _ (.tail _ (.head _)))))) (SL.cons (h_31.ok _ (.tail _ (.tail _ (.tail _ (.tail _ (.tail _ (.head _))))))) (SL.nil _ _))))), ?_⟩
  refine WT.q rfl (Wn.no rfl) rfl rfl (fun wq hS => R.assign (v := (.slice a_28 2 c_29)) rfl) ?_
  refine WT.q rfl (Wn.no rfl) rfl rfl (fun wq hS => R.assign (v := (.slice (slA (slA a_4 2 cap_5 1) 1 (cap_5 - 2) 1) 0 (cap_5 - 2 - 1))) rfl) ?_
  refine WT.nil ?_
  refine inb_n ?_
  refine thn_n ?_
  refine WP.reg ?_
  refine WL.q (Wn.no rfl) rfl rfl (R.bin (v := (vi 2)) rfl rfl (bi_add (c := 2) (by omega) (by omega))) ?_
  refine WL.q (Wn.no rfl) rfl rfl (R.move (v := (vi 2)) rfl) ?_
  refine WL.nil ?_
  refine thn_n ?_
  refine WI.round ?_
  refine WP.seq ?_
  refine WP.reg ?_
  refine WL.q (Wn.no rfl) rfl rfl (R.bin (v := (.bool false)) rfl rfl (bi_lss (r := false) (by decide))) ?_
  refine WL.nil ?_
  refine thn_n ?_
  refine WP.seq ?_
  refine WP.condF rfl ?_
  refine WP.exit ?_
  refine thn_x ?_
  refine thn_x ?_
  refine inb_hit ?_
  refine thn_n ?_
  refine WP.seq ?_
  refine WP.seq ?_
  refine WP.reg ?_
  refine WL.q (Wn.no rfl) rfl rfl (R.move (v := (.slice (slA (slA a_4 2 cap_5 1) 1 (cap_5 - 2) 1) 0 (cap_5 - 2 - 1))) rfl) ?_
  refine WL.q (Wn.no rfl) rfl rfl (R.lenS (a := slA (slA a_4 2 cap_5 1) 1 (cap_5 - 2) 1) (m := 0) rfl rfl Try.underlying23) ?_
  refine WL.q (Wn.no rfl) rfl rfl (R.bin (v := (.bool false)) rfl rfl (bi_gtr (r := false) (by decide))) ?_
  refine WL.nil ?_
  refine thn_n ?_
  refine WP.condF rfl ?_
  refine WP.skip ?_
  refine thn_n ?_
  refine WP.seq ?_
  refine WP.reg ?_
  refine WL.q (Wn.no rfl) rfl rfl (R.move (v := (.slice a_28 2 c_29)) rfl) ?_
  refine WL.q (Wn.no rfl) rfl rfl (R.assign (v := (.slice a_28 2 c_29)) rfl) ?_
  refine WL.q (Wn.no rfl) rfl rfl (R.assign (v := (vi 0)) rfl) ?_
  refine WL.nil ?_
  refine thn_n ?_
  refine WP.ret ?_
  refine ret_of Try.results50 (RV.tmp (v := (.slice a_28 2 c_29)) rfl (RV.tmp (v := (vi 0)) rfl RV.nil)) ?_
  refine ⟨_, _, _, rfl, h_31.chgS, (ownView (h_31.ok _ (.tail _ (.head _)))), (Sls.cons (subLen (K := 3) (rfl : List.length ([1, 2, 3] : List UInt8) = 3) (by omega) : List.length ((([1, 2, 3] : List UInt8).drop 0).take 2) = 2) (by decide) (View.slM (l := 0) (m := 2) (k := 2) (ownView (h_31.ok _ (.tail _ (.tail _ (.tail _ (.head _)))))) (by omega)) (Sls.cons (subLen (K := 1) (subLen (K := 3) (rfl : List.length ([1, 2, 3] : List UInt8) = 3) (by omega) : List.length ((([1, 2, 3] : List UInt8).drop 2).take 1) = 1) (by omega) : List.length ((((([1, 2, 3] : List UInt8).drop 2).take 1).drop 0).take 1) = 1) (by decide) (View.slM (l := 0) (m := 1) (k := 1) (View.slM (l := 2) (m := cap_5) (k := 1) (ownView (h_31.ok _ (.tail _ (.tail _ (.tail _ (.head _)))))) (by omega)) (by omega)) Sls.nil)), fun b hb => ?_⟩
  rcases List.mem_append.1 hb with hb | hb
  · exact Own.blk (h_31.own (.tail _ (.head _))) b hb
  · simp only [sblks, List.append_nil, List.mem_append] at hb
    rcases hb with hb | hb
    · exact Own.blk (h_31.own (.tail _ (.tail _ (.tail _ (.head _))))) b (sblk_sl (l := ([1, 2, 3] : List UInt8)) (fun _ => by simp) b hb)
    · exact Own.blk (h_31.own (.tail _ (.tail _ (.tail _ (.head _))))) b (view_sl_blocks (l := ([1, 2, 3] : List UInt8)) (l' := ([3] : List UInt8)) (fun _ => by simp) b (sblk_sl (l := ([3] : List UInt8)) (fun _ => by simp) b hb))
end Go.Proofs.Ytcmgadjnammahaa
