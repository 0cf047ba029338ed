/- ShaParts holds of every input. Conditions: none. -/
import Derived.Test.YtelkjcigdhgcoaaPA
namespace Go.Proofs.Ytelkjcigdhgcoaa
open Go.Vc Go.Sh Go.RowKit
set_option linter.unusedVariables false
set_option linter.unusedSimpArgs false
set_option maxRecDepth 20000
theorem ce26 : Try.prog.cellsOf 26 = 1 := by kernel_rfl
theorem w_Parts_m (a : Option Addr) (n cap : Nat) (xs : List Value) (ls : List (List UInt8)) (hln : ls.length = n) (a2 : Option Addr) (n2 cap2 : Nat) (bs2 : List UInt8) (hl2 : bs2.length = n2) (hcap2 : n2 ≤ cap2) (hM : 600 < Go.Wr.total ls) (w : World) (hv : View w a xs) (hs : Sls w xs ls) (hv2 : View w a2 (bs2.map vu8)) :
    Cs Try.prog 6 [(.slice a n cap), (.slice a2 n2 cap2)].toArray w (fun v w1 => v = .bool true ∧ Chg w w1 []) := by
  refine Cs.of (n := 123) (args := [(.slice a n cap), (.slice a2 n2 cap2)]) Try.func6 rfl rfl rfl ?_
  have h_0 := HP.init w
  have h_01 := h_0.oldV (View.arg hv) rfl (by simp [Ent.mut])
  have h_02 := h_01.oldV hs.pin rfl (by simp [Ent.mut])
  have h_00 := h_02.oldV (View.arg hv2) rfl (by simp [Ent.mut])
  have hxl : xs.length = n := hs.len.trans hln
  refine WP.seq ?_
  refine WP.reg ?_
  refine WL.q (Wn.no rfl) rfl rfl (R.assign (v := (.bool false)) rfl) ?_
  refine WL.nil ?_
  refine thn_n ?_
  refine WP.seq ?_
  refine WP.seq ?_
  refine WP.reg ?_
  refine WL.call (al := []) Try.call18 rfl rfl (c_known2  _ ) rfl ?_
  rintro _ w_2 ⟨rfl, hc_1⟩
  have h_3 := h_00.same hc_1
  refine WL.q (Wn.no rfl) rfl rfl (R.not (b := true) rfl) ?_
  refine WL.nil ?_
  refine thn_n ?_
  refine WP.condF rfl ?_
  refine WP.skip ?_
  refine thn_n ?_
  refine WP.seq ?_
  refine WP.seq ?_
  refine WP.reg ?_
  refine WL.q (Wn.no rfl) rfl rfl (R.move (v := (.slice a n cap)) rfl) ?_
  refine WL.call (al := [(.slice a n cap), (vi 600)]) Try.call27 rfl rfl (c_Much a n cap xs ls hln 600 (by omega) _ (viewV (h_3.ok _ (.tail _ (.tail _ (.head _))))) (h_3.ok _ (.tail _ (.head _))).1) rfl ?_
  rintro _ w_5 ⟨rfl, hc_4⟩
  have h_6 := h_3.same hc_4
  refine WL.q (Wn.no rfl) rfl rfl (R.move (v := (.bool true)) (congrArg Value.bool (decide_eq_true hM))) ?_
  refine WL.skip rfl rfl rfl ?_
  refine WL.skip rfl rfl rfl ?_
  refine WL.skip rfl rfl rfl ?_
  refine WL.q (Wn.no rfl) rfl rfl (R.pickT (v := (.bool true)) rfl rfl) ?_
  refine WL.nil ?_
  refine thn_n ?_
  refine WP.condT rfl ?_
  refine WP.seq ?_
  refine WP.reg ?_
  refine WL.q (Wn.no rfl) rfl rfl (R.assign (v := (.bool true)) rfl) ?_
  refine WL.nil ?_
  refine thn_n ?_
  refine WP.ret ?_
  refine thn_r ?_
  refine ret_of Try.results6 (RV.tmp (v := (.bool true)) rfl RV.nil) ?_
  exact ⟨rfl, h_6.chgS⟩

theorem w_Parts_b (a : Option Addr) (n cap : Nat) (xs : List Value) (ls : List (List UInt8)) (hln : ls.length = n) (a2 : Option Addr) (n2 cap2 : Nat) (bs2 : List UInt8) (hl2 : bs2.length = n2) (hcap2 : n2 ≤ cap2) (hM : ¬ 600 < Go.Wr.total ls) (h : 600 < n2) (w : World) (hv : View w a xs) (hs : Sls w xs ls) (hv2 : View w a2 (bs2.map vu8)) :
    Cs Try.prog 6 [(.slice a n cap), (.slice a2 n2 cap2)].toArray w (fun v w1 => v = .bool true ∧ Chg w w1 []) := by
  refine Cs.of (n := 123) (args := [(.slice a n cap), (.slice a2 n2 cap2)]) Try.func6 rfl rfl rfl ?_
  have h_0 := HP.init w
  have ht_ls : ls.length + ls.flatten.length ≤ 600 := Nat.not_lt.1 hM
  have h_01 := h_0.oldV (View.arg hv) rfl (by simp [Ent.mut])
  have h_02 := h_01.oldV hs.pin rfl (by simp [Ent.mut])
  have h_00 := h_02.oldV (View.arg hv2) rfl (by simp [Ent.mut])
  have hxl : xs.length = n := hs.len.trans hln
  refine WP.seq ?_
  refine WP.reg ?_
  refine WL.q (Wn.no rfl) rfl rfl (R.assign (v := (.bool false)) rfl) ?_
  refine WL.nil ?_
  refine thn_n ?_
  refine WP.seq ?_
  refine WP.seq ?_
  refine WP.reg ?_
  refine WL.call (al := []) Try.call18 rfl rfl (c_known2  _ ) rfl ?_
  rintro _ w_2 ⟨rfl, hc_1⟩
  have h_3 := h_00.same hc_1
  refine WL.q (Wn.no rfl) rfl rfl (R.not (b := true) rfl) ?_
  refine WL.nil ?_
  refine thn_n ?_
  refine WP.condF rfl ?_
  refine WP.skip ?_
  refine thn_n ?_
  refine WP.seq ?_
  refine WP.seq ?_
  refine WP.reg ?_
  refine WL.q (Wn.no rfl) rfl rfl (R.move (v := (.slice a n cap)) rfl) ?_
  refine WL.call (al := [(.slice a n cap), (vi 600)]) Try.call27 rfl rfl (c_Much a n cap xs ls hln 600 (by omega) _ (viewV (h_3.ok _ (.tail _ (.tail _ (.head _))))) (h_3.ok _ (.tail _ (.head _))).1) rfl ?_
  rintro _ w_5 ⟨rfl, hc_4⟩
  have h_6 := h_3.same hc_4
  refine WL.q (Wn.no rfl) rfl rfl (R.move (v := (.bool false)) (congrArg Value.bool (decide_eq_false hM))) ?_
  refine WL.want rfl rfl ?_
  refine WL.q (Wn.no rfl) rfl rfl (R.move (v := (.slice a2 n2 cap2)) rfl) ?_
  refine WL.want rfl rfl ?_
  refine WL.q (Wn.no rfl) rfl rfl (R.lenS (a := a2) (m := n2) rfl rfl Try.underlying26) ?_
  refine WL.want rfl rfl ?_
  refine WL.q (Wn.no rfl) rfl rfl (R.bin (v := (.bool (decide ((((n2 : Nat) : Int) : Int) > 600)))) rfl rfl (bi_gtr (r := decide ((((n2 : Nat) : Int) : Int) > 600)) rfl)) ?_
  refine WL.q (Wn.no rfl) rfl rfl (R.pickF (v := (.bool (decide ((((n2 : Nat) : Int) : Int) > 600)))) rfl rfl) ?_
  refine WL.nil ?_
  refine thn_n ?_
  refine WP.condT (congrArg Value.bool (decide_eq_true (by omega))) ?_
  refine WP.seq ?_
  refine WP.reg ?_
  refine WL.q (Wn.no rfl) rfl rfl (R.assign (v := (.bool true)) rfl) ?_
  refine WL.nil ?_
  refine thn_n ?_
  refine WP.ret ?_
  refine thn_r ?_
  refine ret_of Try.results6 (RV.tmp (v := (.bool true)) rfl RV.nil) ?_
  exact ⟨rfl, h_6.chgS⟩

theorem w_Parts_s (a : Option Addr) (n cap : Nat) (xs : List Value) (ls : List (List UInt8)) (hln : ls.length = n) (a2 : Option Addr) (n2 cap2 : Nat) (bs2 : List UInt8) (hl2 : bs2.length = n2) (hcap2 : n2 ≤ cap2) (hM : ¬ 600 < Go.Wr.total ls) (h : ¬ 600 < n2) (w : World) (hv : View w a xs) (hs : Sls w xs ls) (hv2 : View w a2 (bs2.map vu8)) :
    Cs Try.prog 6 [(.slice a n cap), (.slice a2 n2 cap2)].toArray w (fun v w1 => v = .bool true ∧ Chg w w1 []) := by
  refine Cs.of (n := 123) (args := [(.slice a n cap), (.slice a2 n2 cap2)]) Try.func6 rfl rfl rfl ?_
  have h_0 := HP.init w
  have ht_ls : ls.length + ls.flatten.length ≤ 600 := Nat.not_lt.1 hM
  have h_01 := h_0.oldV (View.arg hv) rfl (by simp [Ent.mut])
  have h_02 := h_01.oldV hs.pin rfl (by simp [Ent.mut])
  have h_00 := h_02.oldV (View.arg hv2) rfl (by simp [Ent.mut])
  have hxl : xs.length = n := hs.len.trans hln
  refine WP.seq ?_
  refine WP.reg ?_
  refine WL.q (Wn.no rfl) rfl rfl (R.assign (v := (.bool false)) rfl) ?_
  refine WL.nil ?_
  refine thn_n ?_
  refine WP.seq ?_
  refine WP.seq ?_
  refine WP.reg ?_
  refine WL.call (al := []) Try.call18 rfl rfl (c_known2  _ ) rfl ?_
  rintro _ w_2 ⟨rfl, hc_1⟩
  have h_3 := h_00.same hc_1
  refine WL.q (Wn.no rfl) rfl rfl (R.not (b := true) rfl) ?_
  refine WL.nil ?_
  refine thn_n ?_
  refine WP.condF rfl ?_
  refine WP.skip ?_
  refine thn_n ?_
  refine WP.seq ?_
  refine WP.seq ?_
  refine WP.reg ?_
  refine WL.q (Wn.no rfl) rfl rfl (R.move (v := (.slice a n cap)) rfl) ?_
  refine WL.call (al := [(.slice a n cap), (vi 600)]) Try.call27 rfl rfl (c_Much a n cap xs ls hln 600 (by omega) _ (viewV (h_3.ok _ (.tail _ (.tail _ (.head _))))) (h_3.ok _ (.tail _ (.head _))).1) rfl ?_
  rintro _ w_5 ⟨rfl, hc_4⟩
  have h_6 := h_3.same hc_4
  refine WL.q (Wn.no rfl) rfl rfl (R.move (v := (.bool false)) (congrArg Value.bool (decide_eq_false hM))) ?_
  refine WL.want rfl rfl ?_
  refine WL.q (Wn.no rfl) rfl rfl (R.move (v := (.slice a2 n2 cap2)) rfl) ?_
  refine WL.want rfl rfl ?_
  refine WL.q (Wn.no rfl) rfl rfl (R.lenS (a := a2) (m := n2) rfl rfl Try.underlying26) ?_
  refine WL.want rfl rfl ?_
  refine WL.q (Wn.no rfl) rfl rfl (R.bin (v := (.bool (decide ((((n2 : Nat) : Int) : Int) > 600)))) rfl rfl (bi_gtr (r := decide ((((n2 : Nat) : Int) : Int) > 600)) rfl)) ?_
  refine WL.q (Wn.no rfl) rfl rfl (R.pickF (v := (.bool (decide ((((n2 : Nat) : Int) : Int) > 600)))) rfl rfl) ?_
  refine WL.nil ?_
  refine thn_n ?_
  refine WP.condF (congrArg Value.bool (decide_eq_false (by omega))) ?_
  refine WP.skip ?_
  refine thn_n ?_
  refine WP.seq ?_
  refine WP.reg ?_
  refine WL.call (al := []) Try.call28 rfl rfl (c_New _) rfl ?_
  rintro _ w_8 ⟨b_7, rfl, hc_9, hb_10, ra_11, rn_12, rc_13, hk_14, hv_15, hn_16, hq_17, hf_18⟩
  have h_19 := HP_gotHash (segs := [(64, kL.map vu32), (8, (stH ([] : List UInt8)).map vu32), (1, [(.slice ra_11 rn_12 rc_13)]), (1, [(vi ((([] : List UInt8).length : Nat) : Int))]), (1, [(.bool true)])]) h_6 hc_9 hb_10 (SsOk.cons (SOk.u32 kL_len) (SsOk.cons (SOk.u32 (stH_len ([] : List UInt8))) (SsOk.cons (SOk.v rfl) (SsOk.cons (SOk.v rfl) (SsOk.cons (SOk.v rfl) SsOk.nil))))) hk_14 hv_15 hf_18
  refine WL.q (Wn.no rfl) rfl rfl (R.assign (v := (.pointer (some ⟨b_7, 0, none⟩))) rfl) ?_
  refine WL.nil ?_
  refine thn_n ?_
  refine WP.seq ?_
  refine WP.seq ?_
  refine WP.reg ?_
  refine WL.q (Wn.no rfl) rfl rfl (R.move (v := (.pointer (some ⟨b_7, 0, none⟩))) rfl) ?_
  refine WL.q (Wn.no rfl) rfl rfl (R.eqNilP rfl rfl Try.underlying42) ?_
  refine WL.nil ?_
  refine thn_n ?_
  refine WP.condF rfl ?_
  refine WP.skip ?_
  refine thn_n ?_
  refine WP.seq ?_
  refine WP.reg ?_
  refine WL.q (Wn.no rfl) rfl rfl (R.assign (v := (.slice none 0 0)) rfl) ?_
  refine WL.nil ?_
  refine thn_n ?_
  refine WP.seq ?_
  refine WP.seq ?_
  refine WP.reg ?_
  refine WL.q (Wn.no rfl) rfl rfl (R.assign (v := (vi 0)) rfl) ?_
  refine WL.nil ?_
  refine thn_n ?_
  refine WP.block ?_
  have h_20 := h_19.rowNil 5 1
  have h_21 := h_20.up (Pick.t (Pick.t (Pick.t (Pick.t (Pick.t Pick.h)))))
  have h_22 := h_21.up (Pick.t (Pick.t (Pick.t (Pick.t (Pick.t Pick.h)))))
  have h_23 := h_22.up (Pick.t (Pick.t (Pick.t (Pick.t (Pick.t Pick.h)))))
  have h_24 := h_23.up (Pick.t (Pick.t (Pick.t (Pick.t (Pick.t Pick.h)))))
  have h_25 := h_24.up (Pick.t (Pick.t (Pick.t (Pick.t (Pick.t Pick.h)))))
  have h_26 := h_25.up (Pick.t (Pick.t (Pick.t (Pick.t (Pick.t Pick.h)))))
  refine WP.loopG (G := Nat × Option Addr × Nat × Option Addr × Nat × Nat) [4, 6, 7, 8, 9, 10, 11, 29, 30, 31, 32, 33, 34, 35, 36, 37, 38, 39, 40, 41, 42, 43, 44, 45, 46, 47, 48, 49, 50, 51, 52, 53, 54, 55, 56, 57, 58, 59, 60, 61, 62, 63, 64, 65, 66, 67, 68, 69, 70, 71, 72, 73, 74, 75, 76, 77, 78, 79, 80] (fun (i, oa, oc, ra, rn, rc) => [(6, (.slice oa (((ls.take i).flatten).length) oc)), (7, (vi ((i : Nat) : Int)))]) (fun (i, oa, oc, ra, rn, rc) m w1 => HP w w1 [.row oa (((ls.take i).flatten).length) oc 5 1 (((ls.take i).flatten).map vu8), .blk b_7 .nw 55 [(64, kL.map vu32), (8, (stH ((ls.take i).flatten)).map vu32), (1, [(.slice ra rn rc)]), (1, [(vi ((((ls.take i).flatten).length : Nat) : Int))]), (1, [(.bool true)])], .view ra ((rsL ((ls.take i).flatten)).map vu8), .view a2 (bs2.map vu8), .pin (sblks xs) (fun w => Sls w xs ls), .view a xs] ∧ (i ≤ n) ∧ ((rsL ((ls.take i).flatten)).length = rn) ∧ (rn ≤ rc) ∧ m = n - i) ⟨(0, none, 0, ra_11, rn_12, rc_13), _, ⟨rfl, rfl, trivial⟩, h_26, (by omega), hn_16, (by omega), rfl⟩ ?_
  rintro ⟨i, oa, oc, ra, rn, rc⟩ m_29 J_30 w_27 ⟨h_28, hi, hrn, hrc, rfl⟩
  have hfl := Go.Wr.flat_take_le ls i
  have hfl2 := Go.Wr.flat_take_le ls (i + 1)
  have hfl3 : i < n → (ls.take (i + 1)).flatten = (ls.take i).flatten ++ ls.getD i [] := fun h => Go.Wr.flat_take (by omega)
  have hfl4 : i < n → (ls.take i).flatten.length + (ls.getD i []).length ≤ ls.flatten.length := fun h => by rw [hfl3 h, List.length_append] at hfl2; exact hfl2
  refine WP.seq ?_
  refine WP.seq ?_
  refine WP.reg ?_
  refine WL.q (Wn.no rfl) rfl rfl (R.move (v := (vi ((i : Nat) : Int))) rfl) ?_
  refine WL.q (Wn.no rfl) rfl rfl (R.move (v := (.slice a n cap)) rfl) ?_
  refine WL.q (Wn.no rfl) rfl rfl (R.lenS (a := a) (m := n) rfl rfl Try.underlying40) ?_
  refine WL.q (Wn.no rfl) rfl rfl (R.bin (v := (.bool (decide ((((i : Nat) : Int) : Int) < ((n : Nat) : Int))))) rfl rfl (bi_lss (r := decide ((((i : Nat) : Int) : Int) < ((n : Nat) : Int))) rfl)) ?_
  refine WL.nil ?_
  refine thn_n ?_
  refine WP.cond (b := decide ((((i : Nat) : Int) : Int) < ((n : Nat) : Int))) rfl (fun c_31 => ?_) (fun c_31 => ?_)
  · have p_32 := of_decide_eq_true c_31
    refine WP.skip ?_
    refine thn_n ?_
    refine WP.seq ?_
    refine WP.block ?_
    refine WP.seq ?_
    refine WP.reg ?_
    refine WL.q (Wn.no rfl) rfl rfl (R.move (v := (.slice a n cap)) rfl) ?_
    refine WL.q (Wn.no rfl) rfl rfl (R.move (v := (vi ((i : Nat) : Int))) rfl) ?_
    refine WL.q (Wn.no rfl) rfl rfl (R.indexS (a := a) (i := i) (off := i) (xs := xs) rfl rfl rfl (by omega) (viewV (h_28.ok _ (.tail _ (.tail _ (.tail _ (.tail _ (.tail _ (.head _)))))))) (by omega) Try.underlying40 Try.sizeOf26 (Nat.mul_one _).symm) ?_
    obtain ⟨a_33, n_34, c_35, hx_36, hl_37, hn_38, hv_39, hb_40⟩ := Sls.get (i := i) (h_28.ok _ (.tail _ (.tail _ (.tail _ (.tail _ (.head _)))))).1 (by rw [hln]; omega)
    have h_41 := h_28.within (e' := .view a_33 ((ls.getD i []).map vu8)) (.tail _ (.tail _ (.tail _ (.tail _ (.head _))))) rfl (View.arg hv_39) rfl rfl (fun b hb_ => hb_40 _ (view_sblk hl_37 b hb_))
    refine WL.q (Wn.no rfl) rfl rfl (R.loadG (a := a) (i := i) (xs := xs) (v := (.slice a_33 n_34 c_35)) rfl (viewV (h_41.ok _ (.tail _ (.tail _ (.tail _ (.tail _ (.tail _ (.tail _ (.head _))))))))) Try.isAgg26 hx_36) ?_
    have h_42 := h_41.rowNil 5 1
    refine WL.append (km := n_34) (xs := []) (ys := (ls.getD i []).map vu8) (zs := (ls.getD i []).map vu8) h_42 rfl rfl el26 (viewV (h_42.ok _ (.tail _ (.head _)))) ((len_map hl_37).trans (Nat.mul_one _).symm) (one_u8 _) rfl (by omega) (by omega) (by omega) (fun _ _ => At.h) rfl (fun a_43 c_44 w_45 h_46 => ?_)
    refine WL.q (Wn.no rfl) rfl rfl (R.assign (v := (.slice a_43 n_34 c_44)) rfl) ?_
    refine WL.nil ?_
    refine thn_n ?_
    refine WP.seq ?_
    refine WP.seq ?_
    refine WP.reg ?_
    refine WL.q (Wn.no rfl) rfl rfl (R.move (v := (.pointer (some ⟨b_7, 0, none⟩))) rfl) ?_
    refine WL.q (Wn.no rfl) rfl rfl (R.move (v := (.slice a_43 n_34 c_44)) rfl) ?_
    have h_47 := h_46.up (Pick.t (Pick.t (Pick.t Pick.h)))
    refine WL.call (al := [(.pointer (some ⟨b_7, 0, none⟩)), (.slice a_43 n_34 c_44)]) Try.call30 rfl rfl (c_Write ((ls.take i).flatten) ra rn rc hrn (by omega) b_7 (by omega) a_43 n_34 c_44 (ls.getD i []) hl_37 (by omega) (h_47.own (.tail _ (.head _))).2.2.1 _ (viewV (h_47.ok _ (.tail _ (.tail _ (.tail _ (.tail _ (.head _))))))) (ownView (h_47.ok _ (.tail _ (.head _)))) (h_47.arg (.head _)) (Sep_off (m := .nw) (T := 55) (segs := [(64, kL.map vu32), (8, (stH ((ls.take i).flatten)).map vu32), (1, [(.slice ra rn rc)]), (1, [(vi ((((ls.take i).flatten).length : Nat) : Int))]), (1, [(.bool true)])]) (by decide) (Sep.view (by decide) (fun h => h) (h_47.ne (i := 0) (j := 4) rfl rfl rfl).symm)) (Sep_off (m := .nw) (T := 55) (segs := [(64, kL.map vu32), (8, (stH ((ls.take i).flatten)).map vu32), (1, [(.slice ra rn rc)]), (1, [(vi ((((ls.take i).flatten).length : Nat) : Int))]), (1, [(.bool true)])]) (by decide) (Sep.viewRow (h_47.ne (i := 0) (j := 1) rfl rfl rfl).symm))) rfl ?_
    rintro _ w_48 ⟨rfl, hc_49, ra_50, rn_51, rc_52, hk_53, hv_54, hn_55, hq_56, hf_57⟩
    have h_58 := HP_passedHash (segs' := [(64, kL.map vu32), (8, (stH (((ls.take i).flatten) ++ (ls.getD i []))).map vu32), (1, [(.slice ra_50 rn_51 rc_52)]), (1, [(vi (((((ls.take i).flatten) ++ (ls.getD i [])).length : Nat) : Int))]), (1, [(.bool true)])]) h_47 (by decide) hc_49 (SsOk.cons (SOk.u32 kL_len) (SsOk.cons (SOk.u32 (stH_len (((ls.take i).flatten) ++ (ls.getD i [])))) (SsOk.cons (SOk.v rfl) (SsOk.cons (SOk.v rfl) (SsOk.cons (SOk.v rfl) SsOk.nil))))) hk_53 hv_54 hf_57
    refine WL.call (al := [(vi 0)]) Try.call29 rfl rfl (c_num2 0 (by omega) _ ) rfl ?_
    rintro _ w_60 ⟨rfl, hc_59⟩
    have h_61 := h_58.same hc_59
    refine WL.q (Wn.no rfl) rfl rfl (R.bin (v := (.bool false)) rfl rfl (bi_neq (r := false) (by decide))) ?_
    refine WL.nil ?_
    refine thn_n ?_
    refine WP.condF rfl ?_
    refine WP.skip ?_
    refine thn_n ?_
    refine WP.seq ?_
    refine WP.seq ?_
    refine WP.reg ?_
    refine WL.q (Wn.no rfl) rfl rfl (R.assign (v := (vi 0)) rfl) ?_
    refine WL.nil ?_
    refine thn_n ?_
    refine WP.block ?_
    refine WP.loopG (G := Nat × List UInt8) [9, 45, 46, 47, 48, 49, 50, 51, 52, 53] (fun (k, z) => [(9, (vi ((k : Nat) : Int)))]) (fun (k, z) m w1 => HP w w1 [.view ra_50 ((rsL (((ls.take i).flatten) ++ (ls.getD i []))).map vu8), .blk b_7 .nw 55 [(64, kL.map vu32), (8, (stH (((ls.take i).flatten) ++ (ls.getD i []))).map vu32), (1, [(.slice ra_50 rn_51 rc_52)]), (1, [(vi (((((ls.take i).flatten) ++ (ls.getD i [])).length : Nat) : Int))]), (1, [(.bool true)])], .row a_43 n_34 c_44 5 1 (z.map vu8), .view a_33 ((ls.getD i []).map vu8), .row oa (((ls.take i).flatten).length) oc 5 1 (((ls.take i).flatten).map vu8), .view ra ((rsL ((ls.take i).flatten)).map vu8), .view a2 (bs2.map vu8), .pin (sblks xs) (fun w => Sls w xs ls), .view a xs] ∧ (k ≤ n_34) ∧ (z.length = n_34) ∧ m = n_34 - k) ⟨(0, ls.getD i []), _, ⟨rfl, trivial⟩, h_61, (by omega), hl_37, rfl⟩ ?_
    rintro ⟨k, z⟩ m_64 J_65 w_62 ⟨h_63, hk, hzl, rfl⟩
    refine WP.seq ?_
    refine WP.seq ?_
    refine WP.reg ?_
    refine WL.q (Wn.no rfl) rfl rfl (R.move (v := (vi ((k : Nat) : Int))) rfl) ?_
    refine WL.q (Wn.no rfl) rfl rfl (R.move (v := (.slice a_43 n_34 c_44)) rfl) ?_
    refine WL.q (Wn.no rfl) rfl rfl (R.lenS (a := a_43) (m := n_34) rfl rfl Try.underlying26) ?_
    refine WL.q (Wn.no rfl) rfl rfl (R.bin (v := (.bool (decide ((((k : Nat) : Int) : Int) < ((n_34 : Nat) : Int))))) rfl rfl (bi_lss (r := decide ((((k : Nat) : Int) : Int) < ((n_34 : Nat) : Int))) rfl)) ?_
    refine WL.nil ?_
    refine thn_n ?_
    refine WP.cond (b := decide ((((k : Nat) : Int) : Int) < ((n_34 : Nat) : Int))) rfl (fun c_66 => ?_) (fun c_66 => ?_)
    · have p_67 := of_decide_eq_true c_66
      refine WP.skip ?_
      refine thn_n ?_
      refine WP.seq ?_
      refine WP.block ?_
      refine WP.reg ?_
      refine WL.q (Wn.no rfl) rfl rfl (R.move (v := (.slice a_43 n_34 c_44)) rfl) ?_
      refine WL.q (Wn.no rfl) rfl rfl (R.move (v := (vi ((k : Nat) : Int))) rfl) ?_
      refine WL.q (Wn.no rfl) rfl rfl (R.indexS (a := a_43) (i := k) (off := k) (xs := z.map vu8) rfl rfl rfl (by omega) (ownView (h_63.ok _ (.tail _ (.tail _ (.head _))))) (lt_len (K := n_34) (len_map hzl) (by omega)) Try.underlying26 Try.sizeOf5 (Nat.mul_one _).symm) ?_
      refine WL.storeR (a := a_43) (i := k) (v := (vu8 0)) (xs' := (z.set k 0).map vu8) h_63 rfl rfl Try.sizeOf5 rfl (At.t (At.t At.h)) (lt_len (K := n_34) (len_map hzl) (by omega)) (set_u8 _ _ _) (fun w_68 h_69 => ?_)
      refine WL.nil ?_
      refine inb_n ?_
      refine thn_n ?_
      refine WP.reg ?_
      refine WL.q (Wn.no rfl) rfl rfl (R.move (v := (vi ((k : Nat) : Int))) rfl) ?_
      refine WL.q (Wn.no rfl) rfl rfl (R.bin (v := (vi ((k + 1 : Nat) : Int))) rfl rfl (bi_add (c := ((k + 1 : Nat) : Int)) (by omega) (by omega))) ?_
      refine WL.q (Wn.no rfl) rfl rfl (R.assign (v := (vi ((k + 1 : Nat) : Int))) rfl) ?_
      refine WL.nil ?_
      refine thn_n ?_
      have h_70 := h_69.up (Pick.t (Pick.t (Pick.t (Pick.t (Pick.t (Pick.t (Pick.t (Pick.t Pick.h))))))))
      have h_71 := h_70.up (Pick.t (Pick.t (Pick.t (Pick.t (Pick.t (Pick.t (Pick.t (Pick.t Pick.h))))))))
      have h_72 := h_71.up (Pick.t (Pick.t (Pick.t (Pick.t (Pick.t (Pick.t (Pick.t (Pick.t Pick.h))))))))
      have h_73 := h_72.up (Pick.t (Pick.t (Pick.t (Pick.t (Pick.t (Pick.t (Pick.t (Pick.t Pick.h))))))))
      have h_74 := h_73.up (Pick.t (Pick.t (Pick.t (Pick.t (Pick.t (Pick.t (Pick.t (Pick.t Pick.h))))))))
      have h_75 := h_74.up (Pick.t (Pick.t (Pick.t (Pick.t (Pick.t (Pick.t (Pick.t (Pick.t Pick.h))))))))
      have h_76 := h_75.up (Pick.t (Pick.t (Pick.t (Pick.t (Pick.t (Pick.t (Pick.t (Pick.t Pick.h))))))))
      have h_77 := h_76.up (Pick.t (Pick.t (Pick.t (Pick.t (Pick.t (Pick.t (Pick.t (Pick.t Pick.h))))))))
      have h_78 := h_77.up (Pick.t (Pick.t (Pick.t (Pick.t (Pick.t (Pick.t (Pick.t (Pick.t Pick.h))))))))
      exact ⟨(k + 1, z.set k 0), _, (by omega), (Ag.upd rfl (Ag.upd rfl (Ag.upd rfl (Ag.upd rfl (Ag.upd rfl (Ag.upd rfl (Ag.upd rfl (Ag.upd rfl (Ag.upd rfl (Ag.upd rfl (Ag.updL rfl (Ag.mix _ _ _)))))))))))), ⟨rfl, trivial⟩, h_78, (by omega), (len_set hzl _ _), rfl⟩
    · have p_79 := of_decide_eq_false c_66
      refine WP.exit ?_
      refine thn_x ?_
      refine thn_x ?_
      refine inb_hit ?_
      refine thn_n ?_
      refine WP.seq ?_
      refine WP.reg ?_
      refine WL.q (Wn.no rfl) rfl rfl (R.move (v := (.slice oa (((ls.take i).flatten).length) oc)) rfl) ?_
      refine WL.q (Wn.no rfl) rfl rfl (R.move (v := (.slice a n cap)) rfl) ?_
      refine WL.q (Wn.no rfl) rfl rfl (R.move (v := (vi ((i : Nat) : Int))) rfl) ?_
      refine WL.q (Wn.no rfl) rfl rfl (R.indexS (a := a) (i := i) (off := i) (xs := xs) rfl rfl rfl (by omega) (viewV (h_63.ok _ (.tail _ (.tail _ (.tail _ (.tail _ (.tail _ (.tail _ (.tail _ (.tail _ (.head _))))))))))) (by omega) Try.underlying40 Try.sizeOf26 (Nat.mul_one _).symm) ?_
      obtain ⟨a_80, n_81, c_82, hx_83, hl_84, hn_85, hv_86, hb_87⟩ := Sls.get (i := i) (h_63.ok _ (.tail _ (.tail _ (.tail _ (.tail _ (.tail _ (.tail _ (.tail _ (.head _))))))))).1 (by rw [hln]; omega)
      have h_88 := h_63.within (e' := .view a_80 ((ls.getD i []).map vu8)) (.tail _ (.tail _ (.tail _ (.tail _ (.tail _ (.tail _ (.tail _ (.head _)))))))) rfl (View.arg hv_86) rfl rfl (fun b hb_ => hb_87 _ (view_sblk hl_84 b hb_))
      refine WL.q (Wn.no rfl) rfl rfl (R.loadG (a := a) (i := i) (xs := xs) (v := (.slice a_80 n_81 c_82)) rfl (viewV (h_88.ok _ (.tail _ (.tail _ (.tail _ (.tail _ (.tail _ (.tail _ (.tail _ (.tail _ (.tail _ (.head _)))))))))))) Try.isAgg26 hx_83) ?_
      refine WL.append (km := ((ls.take i).flatten).length + n_81) (xs := ((ls.take i).flatten).map vu8) (ys := (ls.getD i []).map vu8) (zs := (((ls.take i).flatten) ++ (ls.getD i [])).map vu8) h_88 rfl rfl el26 (viewV (h_88.ok _ (.head _))) ((len_map hl_84).trans (Nat.mul_one _).symm) (one_u8 _) (by simp only [List.map_append, List.map_nil]) (by omega) (by omega) (by omega) (fun _ _ => (At.t (At.t (At.t (At.t (At.t At.h)))))) rfl (fun a_89 c_90 w_91 h_92 => ?_)
      refine WL.q (Wn.no rfl) rfl rfl (R.assign (v := (.slice a_89 (((ls.take i).flatten).length + n_81) c_90)) rfl) ?_
      refine WL.nil ?_
      refine thn_n ?_
      refine WP.seq ?_
      refine WP.reg ?_
      refine WL.q (Wn.no rfl) rfl rfl (R.move (v := (.pointer (some ⟨b_7, 0, none⟩))) rfl) ?_
      refine WL.call (al := [(.pointer (some ⟨b_7, 0, none⟩))]) Try.call31 rfl rfl (c_HSum (((ls.take i).flatten) ++ (ls.getD i [])) ra_50 rn_51 rc_52 hn_55 (by omega) b_7 (by simp only [List.length_append]; omega) _ (viewV (h_92.ok _ (.tail _ (.head _)))) (h_92.argR (.tail _ (.tail _ (.head _))))) rfl ?_
      rintro _ w_94 ⟨rfl, hc_93⟩
      have h_95 := h_92.same hc_93
      refine WL.q (Wn.no rfl) rfl rfl (R.move (v := (.tuple [(.agg ⟨(sumL (((ls.take i).flatten) ++ (ls.getD i []))).map vu8⟩), (vi 0)].toArray)) rfl) ?_
      refine WL.q (Wn.no rfl) rfl rfl (R.extract (l := [(.agg ⟨(sumL (((ls.take i).flatten) ++ (ls.getD i []))).map vu8⟩), (vi 0)]) (v := (.agg ⟨(sumL (((ls.take i).flatten) ++ (ls.getD i []))).map vu8⟩)) rfl rfl) ?_
      refine WL.q (Wn.no rfl) rfl rfl (R.extract (l := [(.agg ⟨(sumL (((ls.take i).flatten) ++ (ls.getD i []))).map vu8⟩), (vi 0)]) (v := (vi 0)) rfl rfl) ?_
      refine WL.alloc (segs := [(32, (List.replicate 32 (0 : UInt8)).map vu8)]) h_95 (zv Try.typeInfo28 rfl) rfl (SsOk.cons (SOk.u8 (List.length_replicate ..)) SsOk.nil) rfl (fun b_96 w_97 h_98 => ?_)
      refine WL.storeA (b := b_96) (off := 0) [] [(32, (List.replicate 32 (0 : UInt8)).map vu8)] [(32, (sumL (((ls.take i).flatten) ++ (ls.getD i []))).map vu8)] [] (ys := (sumL (((ls.take i).flatten) ++ (ls.getD i []))).map vu8) h_98 rfl rfl Try.sizeOf28 At.h (by decide) rfl rfl rfl rfl rfl rfl (SsOk.cons (SOk.u8 (sumL_len _)) SsOk.nil) (fun w_99 h_100 => ?_)
      refine WL.q (Wn.no rfl) rfl rfl (R.assign (v := (vi 0)) rfl) ?_
      refine WL.nil ?_
      refine thn_n ?_
      refine WP.seq ?_
      refine WP.drawT (SL w.heap.size [.blk b_96 .nw 28 [(32, (sumL (((ls.take i).flatten) ++ (ls.getD i []))).map vu8)], .view a_80 ((ls.getD i []).map vu8), .view ra_50 ((rsL (((ls.take i).flatten) ++ (ls.getD i []))).map vu8), .blk b_7 .nw 55 [(64, kL.map vu32), (8, (stH (((ls.take i).flatten) ++ (ls.getD i []))).map vu32), (1, [(.slice ra_50 rn_51 rc_52)]), (1, [(vi (((((ls.take i).flatten) ++ (ls.getD i [])).length : Nat) : Int))]), (1, [(.bool true)])], .row a_43 n_34 c_44 5 1 (z.map vu8), .view a_33 ((ls.getD i []).map vu8), .row a_89 (((ls.take i).flatten).length + n_81) c_90 5 1 ((((ls.take i).flatten) ++ (ls.getD i [])).map vu8), .view ra ((rsL ((ls.take i).flatten)).map vu8), .view a2 (bs2.map vu8), .pin (sblks xs) (fun w => Sls w xs ls), .view a xs]) (.q 0 (.s 1 (.q 2 (.q 3 (.q 4 (.q 5 (.s 6 (.q 7 (.q 8 (.q 9 (.q 10 (.q 12 (.q 13 (.s 11 (.q 14 (.q 15 .nil)))))))))))))))) (by kernel_rfl) (by kernel_rfl) rfl (by kernel_rfl) (fun w_101 hc_103 => (SL.cons ((h_100.same hc_103).ok _ (.head _)) (SL.cons ((h_100.same hc_103).ok _ (.tail _ (.head _))) (SL.cons ((h_100.same hc_103).ok _ (.tail _ (.tail _ (.head _)))) (SL.cons ((h_100.same hc_103).ok _ (.tail _ (.tail _ (.tail _ (.head _))))) (SL.cons ((h_100.same hc_103).ok _ (.tail _ (.tail _ (.tail _ (.tail _ (.head _)))))) (SL.cons ((h_100.same hc_103).ok _ (.tail _ (.tail _ (.tail _ (.tail _ (.tail _ (.head _))))))) (SL.cons ((h_100.same hc_103).ok _ (.tail _ (.tail _ (.tail _ (.tail _ (.tail _ (.tail _ (.head _)))))))) (SL.cons ((h_100.same hc_103).ok _ (.tail _ (.tail _ (.tail _ (.tail _ (.tail _ (.tail _ (.tail _ (.head _))))))))) (SL.cons ((h_100.same hc_103).ok _ (.tail _ (.tail _ (.tail _ (.tail _ (.tail _ (.tail _ (.tail _ (.tail _ (.head _)))))))))) (SL.cons ((h_100.same hc_103).ok _ (.tail _ (.tail _ (.tail _ (.tail _ (.tail _ (.tail _ (.tail _ (.tail _ (.tail _ (.head _))))))))))) (SL.cons ((h_100.same hc_103).ok _ (.tail _ (.tail _ (.tail _ (.tail _ (.tail _ (.tail _ (.tail _ (.tail _ (.tail _ (.tail _ (.head _)))))))))))) (SL.nil _ _))))))))))))) (fun w_101 hc_103 => ?_)
      have h_102 := h_100.same hc_103
      refine WT.q rfl (Wn.no rfl) rfl rfl (fun wq hS => R.move (v := (vi 0)) rfl) ?_
      refine WT.s ?_
      refine Op1.one rfl (Wn.no rfl) ?_
      refine WL.call (al := [(vi 0)]) Try.call29 rfl rfl (c_num2 0 (by omega) _ ) rfl ?_
      rintro _ w_105 ⟨rfl, hc_104⟩
      have h_106 := h_102.same hc_104
      refine WL.nil ?_
      refine ⟨(SL.cons (h_106.ok _ (.head _)) (SL.cons (h_106.ok _ (.tail _ (.head _))) (SL.cons (h_106.ok _ (.tail _ (.tail _ (.head _)))) (SL.cons (h_106.ok _ (.tail _ (.tail _ (.tail _ (.head _))))) (SL.cons (h_106.ok _ (.tail _ (.tail _ (.tail _ (.tail _ (.head _)))))) (SL.cons (h_106.ok _ (.tail _ (.tail _ (.tail _ (.tail _ (.tail _ (.head _))))))) (SL.cons (h_106.ok _ (.tail _ (.tail _ (.tail _ (.tail _ (.tail _ (.tail _ (.head _)))))))) (SL.cons (h_106.ok _ (.tail _ (.tail _ (.tail _ (.tail _ (.tail _ (.tail _ (.tail _ (.head _))))))))) (SL.cons (h_106.ok _ (.tail _ (.tail _ (.tail _ (.tail _ (.tail _ (.tail _ (.tail _ (.tail _ (.head _)))))))))) (SL.cons (h_106.ok _ (.tail _ (.tail _ (.tail _ (.tail _ (.tail _ (.tail _ (.tail _ (.tail _ (.tail _ (.head _))))))))))) (SL.cons (h_106.ok _ (.tail _ (.tail _ (.tail _ (.tail _ (.tail _ (.tail _ (.tail _ (.tail _ (.tail _ (.tail _ (.head _)))))))))))) (SL.nil _ _)))))))))))), ?_⟩
      refine WT.q rfl (Wn.no rfl) rfl rfl (fun wq hS => R.bin (v := (.bool false)) rfl rfl (bi_neq (r := false) (by decide))) ?_
      refine WT.q rfl (Wn.no rfl) rfl rfl (fun wq hS => R.move (v := (.bool false)) rfl) ?_
      refine WT.q rfl (Wn.yes rfl rfl rfl) rfl rfl (fun wq hS => R.loadA (b := b_96) (off := 0) [] [(32, (sumL (((ls.take i).flatten) ++ (ls.getD i []))).map vu8)] [] (cs := (sumL (((ls.take i).flatten) ++ (ls.getD i []))).map vu8) rfl Try.isAgg28 Try.sizeOf28 (hS _ (.head _)) rfl rfl rfl rfl) ?_
      refine WT.q rfl (Wn.yes rfl rfl rfl) rfl rfl (fun wq hS => R.move (v := (.slice a_89 (((ls.take i).flatten).length + n_81) c_90)) rfl) ?_
      refine WT.s ?_
      refine Op1.one rfl (Wn.yes rfl rfl rfl) ?_
      refine WL.call (al := [(.slice a_89 (((ls.take i).flatten).length + n_81) c_90)]) Try.call20 rfl rfl (c_SumR a_89 (((ls.take i).flatten).length + n_81) c_90 (((ls.take i).flatten) ++ (ls.getD i [])) (lenApp (a := ((ls.take i).flatten).length) (b := n_81) (rfl : List.length ((ls.take i).flatten) = ((ls.take i).flatten).length) hl_84 (by omega) : List.length (((ls.take i).flatten) ++ (ls.getD i [])) = ((ls.take i).flatten).length + n_81) (by omega) _ (ownView (h_106.ok _ (.tail _ (.tail _ (.tail _ (.tail _ (.tail _ (.tail _ (.head _)))))))))) rfl ?_
      rintro _ w_108 ⟨rfl, hc_107⟩
      have h_109 := h_106.same hc_107
      refine WL.nil ?_
      refine ⟨(SL.cons (h_109.ok _ (.head _)) (SL.cons (h_109.ok _ (.tail _ (.head _))) (SL.cons (h_109.ok _ (.tail _ (.tail _ (.head _)))) (SL.cons (h_109.ok _ (.tail _ (.tail _ (.tail _ (.head _))))) (SL.cons (h_109.ok _ (.tail _ (.tail _ (.tail _ (.tail _ (.head _)))))) (SL.cons (h_109.ok _ (.tail _ (.tail _ (.tail _ (.tail _ (.tail _ (.head _))))))) (SL.cons (h_109.ok _ (.tail _ (.tail _ (.tail _ (.tail _ (.tail _ (.tail _ (.head _)))))))) (SL.cons (h_109.ok _ (.tail _ (.tail _ (.tail _ (.tail _ (.tail _ (.tail _ (.tail _ (.head _))))))))) (SL.cons (h_109.ok _ (.tail _ (.tail _ (.tail _ (.tail _ (.tail _ (.tail _ (.tail _ (.tail _ (.head _)))))))))) (SL.cons (h_109.ok _ (.tail _ (.tail _ (.tail _ (.tail _ (.tail _ (.tail _ (.tail _ (.tail _ (.tail _ (.head _))))))))))) (SL.cons (h_109.ok _ (.tail _ (.tail _ (.tail _ (.tail _ (.tail _ (.tail _ (.tail _ (.tail _ (.tail _ (.tail _ (.head _)))))))))))) (SL.nil _ _)))))))))))), ?_⟩
      refine WT.q rfl (Wn.yes rfl rfl rfl) rfl rfl (fun wq hS => R.neA (xs := (sumL (((ls.take i).flatten) ++ (ls.getD i []))).map vu8) (ys := (sumL (((ls.take i).flatten) ++ (ls.getD i []))).map vu8) (r := false) rfl rfl Try.eqGuardType28 kt28 (by decide) ag28 (Typ.u8s Try.underlying28 ce28 Try.underlying5 ce5 (sumL_len _)) (Typ.u8s Try.underlying28 ce28 Try.underlying5 ce5 (sumL_len _)) (neT rfl)) ?_
      refine WT.q rfl (Wn.no rfl) rfl rfl (fun wq hS => R.pickF (v := (.bool false)) rfl rfl) ?_
      refine WT.q rfl (Wn.no rfl) rfl rfl (fun wq hS => R.move (v := (.bool false)) rfl) ?_
      refine WT.q rfl (Wn.yes rfl rfl rfl) rfl rfl (fun wq hS => R.move (v := (.pointer (some ⟨b_7, 0, none⟩))) rfl) ?_
      refine WT.q rfl (Wn.yes rfl rfl rfl) rfl rfl (fun wq hS => R.move (v := (.slice a_89 (((ls.take i).flatten).length + n_81) c_90)) rfl) ?_
      refine WT.q rfl (Wn.yes rfl rfl rfl) rfl rfl (fun wq hS => R.lenS (a := a_89) (m := ((ls.take i).flatten).length + n_81) rfl rfl Try.underlying26) ?_
      refine WT.s ?_
      refine Op1.one rfl (Wn.yes rfl rfl rfl) ?_
      refine WL.call (al := [(.pointer (some ⟨b_7, 0, none⟩))]) Try.call32 rfl rfl (c_Len_true kL (stH (((ls.take i).flatten) ++ (ls.getD i []))) kL_len (stH_len (((ls.take i).flatten) ++ (ls.getD i []))) ra_50 rn_51 rc_52 ((((ls.take i).flatten) ++ (ls.getD i [])).length) b_7 _ (h_109.argR (.tail _ (.tail _ (.tail _ (.head _)))))) rfl ?_
      rintro _ w_111 ⟨rfl, hc_110⟩
      have h_112 := h_109.same hc_110
      refine WL.nil ?_
      refine ⟨(SL.cons (h_112.ok _ (.head _)) (SL.cons (h_112.ok _ (.tail _ (.head _))) (SL.cons (h_112.ok _ (.tail _ (.tail _ (.head _)))) (SL.cons (h_112.ok _ (.tail _ (.tail _ (.tail _ (.head _))))) (SL.cons (h_112.ok _ (.tail _ (.tail _ (.tail _ (.tail _ (.head _)))))) (SL.cons (h_112.ok _ (.tail _ (.tail _ (.tail _ (.tail _ (.tail _ (.head _))))))) (SL.cons (h_112.ok _ (.tail _ (.tail _ (.tail _ (.tail _ (.tail _ (.tail _ (.head _)))))))) (SL.cons (h_112.ok _ (.tail _ (.tail _ (.tail _ (.tail _ (.tail _ (.tail _ (.tail _ (.head _))))))))) (SL.cons (h_112.ok _ (.tail _ (.tail _ (.tail _ (.tail _ (.tail _ (.tail _ (.tail _ (.tail _ (.head _)))))))))) (SL.cons (h_112.ok _ (.tail _ (.tail _ (.tail _ (.tail _ (.tail _ (.tail _ (.tail _ (.tail _ (.tail _ (.head _))))))))))) (SL.cons (h_112.ok _ (.tail _ (.tail _ (.tail _ (.tail _ (.tail _ (.tail _ (.tail _ (.tail _ (.tail _ (.tail _ (.head _)))))))))))) (SL.nil _ _)))))))))))), ?_⟩
      refine WT.q rfl (Wn.yes rfl rfl rfl) rfl rfl (fun wq hS => R.bin (v := (.bool false)) rfl rfl (bi_neq (r := false) (decide_eq_false (by simp only [List.length_append]; omega)))) ?_
      refine WT.q rfl (Wn.no rfl) rfl rfl (fun wq hS => R.pickF (v := (.bool false)) rfl rfl) ?_
      refine WT.nil ?_
      refine thn_n ?_
      refine WP.condF rfl ?_
      refine WP.skip ?_
      refine inb_n ?_
      refine thn_n ?_
      refine WP.reg ?_
      refine WL.q (Wn.no rfl) rfl rfl (R.move (v := (vi ((i : Nat) : Int))) rfl) ?_
      refine WL.q (Wn.no rfl) rfl rfl (R.bin (v := (vi ((i + 1 : Nat) : Int))) rfl rfl (bi_add (c := ((i + 1 : Nat) : Int)) (by omega) (by omega))) ?_
      refine WL.q (Wn.no rfl) rfl rfl (R.assign (v := (vi ((i + 1 : Nat) : Int))) rfl) ?_
      refine WL.nil ?_
      refine thn_n ?_
      have h_113 := h_112.drop rfl
      have h_114 := h_113.drop rfl
      have h_115 := h_114.up (Pick.t (Pick.t Pick.h))
      have h_116 := h_115.drop rfl
      have h_117 := h_116.up (Pick.t (Pick.t Pick.h))
      have h_118 := h_117.drop rfl
      have h_119 := h_118.up (Pick.t (Pick.t (Pick.t Pick.h)))
      have h_120 := h_119.drop rfl
      have h_121 := h_120.up (Pick.t (Pick.t (Pick.t (Pick.t (Pick.t Pick.h)))))
      have h_122 := h_121.up (Pick.t (Pick.t (Pick.t (Pick.t (Pick.t Pick.h)))))
      have h_123 := h_122.up (Pick.t (Pick.t (Pick.t (Pick.t (Pick.t Pick.h)))))
      have h_124 := h_123.up (Pick.t (Pick.t (Pick.t Pick.h)))
      have h_125 := h_124.up (Pick.t (Pick.t (Pick.t (Pick.t Pick.h))))
      have h_126 := h_125.up (Pick.t (Pick.t (Pick.t (Pick.t (Pick.t Pick.h)))))
      have e := hfl3 (by omega)
      have el : ((ls.take i).flatten).length + n_81 = ((ls.take (i + 1)).flatten).length := by rw [e, List.length_append]; omega
      have hr2 := hn_55
      rw [← e] at h_126 hr2
      rw [el] at h_126
      exact ⟨(i + 1, a_89, c_90, ra_50, rn_51, rc_52), _, (by omega), (Ag.upd rfl (Ag.upd rfl (Ag.upd rfl (Ag.upd rfl (Ag.upd rfl (Ag.upd rfl (Ag.upd rfl (Ag.upd rfl (Ag.upd rfl (Ag.upd rfl (Ag.upd rfl (Ag.upd rfl (Ag.upd rfl (Ag.upd rfl (Ag.upd rfl (Ag.upd rfl (Ag.upd rfl (Ag.upd rfl (Ag.upd rfl (Ag.upd rfl (Ag.upd rfl (Ag.upd rfl (Ag.upd rfl (Ag.upd rfl (Ag.upd rfl (Ag.upd rfl (Ag.upd rfl (Ag.upd rfl (Ag.upd rfl (Ag.upd rfl (Ag.upd rfl (Ag.upd rfl (Ag.upd rfl (Ag.upd rfl (Ag.upd rfl (Ag.upd rfl (Ag.upd rfl (Ag.updL rfl (Ag.trans (Ag.sub rfl (Ag.mix _ _ _)) (Ag.upd rfl (Ag.upd rfl (Ag.upd rfl (Ag.upd rfl (Ag.upd rfl (Ag.upd rfl (Ag.upd rfl (Ag.upd rfl (Ag.upd rfl (Ag.upd rfl (Ag.upd rfl (Ag.upd rfl (Ag.upd rfl (Ag.upd rfl (Ag.upd rfl (Ag.upd rfl (Ag.updL rfl (Ag.mix _ _ _))))))))))))))))))))))))))))))))))))))))))))))))))))))))), ⟨by rw [← el]; rfl, rfl, trivial⟩, h_126, (by omega), hr2, (by omega), rfl⟩
  · have p_127 := of_decide_eq_false c_31
    refine WP.exit ?_
    refine thn_x ?_
    refine thn_x ?_
    refine inb_hit ?_
    refine thn_n ?_
    refine WP.seq ?_
    refine WP.reg ?_
    refine WL.q (Wn.no rfl) rfl rfl (R.move (v := (.pointer (some ⟨b_7, 0, none⟩))) rfl) ?_
    refine WL.call (al := [(.pointer (some ⟨b_7, 0, none⟩))]) Try.call33 rfl rfl (c_Copy ((ls.take i).flatten) ra rn rc hrn (by omega) b_7 (by omega) _ (viewV (h_28.ok _ (.tail _ (.tail _ (.head _))))) (h_28.argR (.tail _ (.head _)))) rfl ?_
    rintro _ w_129 ⟨b_128, rfl, hc_130, hb_131, ra_132, rn_133, rc_134, hk_135, hv_136, hn_137, hq_138, hf_139⟩
    have h_140 := HP_gotHash (segs := [(64, kL.map vu32), (8, (stH ((ls.take i).flatten)).map vu32), (1, [(.slice ra_132 rn_133 rc_134)]), (1, [(vi ((((ls.take i).flatten).length : Nat) : Int))]), (1, [(.bool true)])]) h_28 hc_130 hb_131 (SsOk.cons (SOk.u32 kL_len) (SsOk.cons (SOk.u32 (stH_len ((ls.take i).flatten))) (SsOk.cons (SOk.v rfl) (SsOk.cons (SOk.v rfl) (SsOk.cons (SOk.v rfl) SsOk.nil))))) hk_135 hv_136 hf_139
    refine WL.q (Wn.no rfl) rfl rfl (R.assign (v := (.pointer (some ⟨b_128, 0, none⟩))) rfl) ?_
    refine WL.nil ?_
    refine thn_n ?_
    refine WP.seq ?_
    refine WP.seq ?_
    refine WP.reg ?_
    refine WL.q (Wn.no rfl) rfl rfl (R.move (v := (.pointer (some ⟨b_128, 0, none⟩))) rfl) ?_
    refine WL.q (Wn.no rfl) rfl rfl (R.eqNilP rfl rfl Try.underlying42) ?_
    refine WL.q (Wn.no rfl) rfl rfl (R.move (v := (.bool false)) rfl) ?_
    refine WL.want rfl rfl ?_
    refine WL.q (Wn.no rfl) rfl rfl (R.move (v := (.pointer (some ⟨b_128, 0, none⟩))) rfl) ?_
    refine WL.want rfl rfl ?_
    refine WL.q (Wn.no rfl) rfl rfl (R.move (v := (.slice a2 n2 cap2)) rfl) ?_
    refine WL.want rfl rfl ?_
    refine WL.call (al := [(.pointer (some ⟨b_128, 0, none⟩)), (.slice a2 n2 cap2)]) Try.call30 rfl rfl (c_Write ((ls.take i).flatten) ra_132 rn_133 rc_134 hn_137 (by omega) b_128 (by omega) a2 n2 cap2 bs2 hl2 (by omega) (by omega) _ (viewV (h_140.ok _ (.tail _ (.head _)))) (viewV (h_140.ok _ (.tail _ (.tail _ (.tail _ (.tail _ (.tail _ (.head _)))))))) (h_140.arg (.head _)) (Sep_off (m := .nw) (T := 55) (segs := [(64, kL.map vu32), (8, (stH ((ls.take i).flatten)).map vu32), (1, [(.slice ra_132 rn_133 rc_134)]), (1, [(vi ((((ls.take i).flatten).length : Nat) : Int))]), (1, [(.bool true)])]) (by decide) (Sep.view (by decide) (fun h => h) (h_140.ne (i := 0) (j := 1) rfl rfl rfl).symm)) (Sep_off (m := .nw) (T := 55) (segs := [(64, kL.map vu32), (8, (stH ((ls.take i).flatten)).map vu32), (1, [(.slice ra_132 rn_133 rc_134)]), (1, [(vi ((((ls.take i).flatten).length : Nat) : Int))]), (1, [(.bool true)])]) (by decide) (Sep.view (by decide) (fun h => h) (h_140.ne (i := 0) (j := 5) rfl rfl rfl).symm))) rfl ?_
    rintro _ w_141 ⟨rfl, hc_142, ra_143, rn_144, rc_145, hk_146, hv_147, hn_148, hq_149, hf_150⟩
    have h_151 := HP_passedHash (segs' := [(64, kL.map vu32), (8, (stH (((ls.take i).flatten) ++ bs2)).map vu32), (1, [(.slice ra_143 rn_144 rc_145)]), (1, [(vi (((((ls.take i).flatten) ++ bs2).length : Nat) : Int))]), (1, [(.bool true)])]) h_140 (by decide) hc_142 (SsOk.cons (SOk.u32 kL_len) (SsOk.cons (SOk.u32 (stH_len (((ls.take i).flatten) ++ bs2))) (SsOk.cons (SOk.v rfl) (SsOk.cons (SOk.v rfl) (SsOk.cons (SOk.v rfl) SsOk.nil))))) hk_146 hv_147 hf_150
    refine WL.want rfl rfl ?_
    refine WL.call (al := [(vi 0)]) Try.call29 rfl rfl (c_num2 0 (by omega) _ ) rfl ?_
    rintro _ w_153 ⟨rfl, hc_152⟩
    have h_154 := h_151.same hc_152
    refine WL.want rfl rfl ?_
    refine WL.q (Wn.no rfl) rfl rfl (R.bin (v := (.bool false)) rfl rfl (bi_neq (r := false) (by decide))) ?_
    refine WL.q (Wn.no rfl) rfl rfl (R.pickF (v := (.bool false)) rfl rfl) ?_
    refine WL.nil ?_
    refine thn_n ?_
    refine WP.condF rfl ?_
    refine WP.skip ?_
    refine thn_n ?_
    refine WP.seq ?_
    refine WP.reg ?_
    refine WL.q (Wn.no rfl) rfl rfl (R.move (v := (.pointer (some ⟨b_128, 0, none⟩))) rfl) ?_
    refine WL.call (al := [(.pointer (some ⟨b_128, 0, none⟩))]) Try.call31 rfl rfl (c_HSum (((ls.take i).flatten) ++ bs2) ra_143 rn_144 rc_145 hn_148 (by omega) b_128 (by simp only [List.length_append]; omega) _ (viewV (h_154.ok _ (.head _))) (h_154.argR (.tail _ (.head _)))) rfl ?_
    rintro _ w_156 ⟨rfl, hc_155⟩
    have h_157 := h_154.same hc_155
    refine WL.q (Wn.no rfl) rfl rfl (R.move (v := (.tuple [(.agg ⟨(sumL (((ls.take i).flatten) ++ bs2)).map vu8⟩), (vi 0)].toArray)) rfl) ?_
    refine WL.q (Wn.no rfl) rfl rfl (R.extract (l := [(.agg ⟨(sumL (((ls.take i).flatten) ++ bs2)).map vu8⟩), (vi 0)]) (v := (.agg ⟨(sumL (((ls.take i).flatten) ++ bs2)).map vu8⟩)) rfl rfl) ?_
    refine WL.q (Wn.no rfl) rfl rfl (R.extract (l := [(.agg ⟨(sumL (((ls.take i).flatten) ++ bs2)).map vu8⟩), (vi 0)]) (v := (vi 0)) rfl rfl) ?_
    refine WL.alloc (segs := [(32, (List.replicate 32 (0 : UInt8)).map vu8)]) h_157 (zv Try.typeInfo28 rfl) rfl (SsOk.cons (SOk.u8 (List.length_replicate ..)) SsOk.nil) rfl (fun b_158 w_159 h_160 => ?_)
    refine WL.storeA (b := b_158) (off := 0) [] [(32, (List.replicate 32 (0 : UInt8)).map vu8)] [(32, (sumL (((ls.take i).flatten) ++ bs2)).map vu8)] [] (ys := (sumL (((ls.take i).flatten) ++ bs2)).map vu8) h_160 rfl rfl Try.sizeOf28 At.h (by decide) rfl rfl rfl rfl rfl rfl (SsOk.cons (SOk.u8 (sumL_len _)) SsOk.nil) (fun w_161 h_162 => ?_)
    refine WL.q (Wn.no rfl) rfl rfl (R.assign (v := (vi 0)) rfl) ?_
    refine WL.nil ?_
    refine thn_n ?_
    refine WP.seq ?_
    refine WP.reg ?_
    refine WL.q (Wn.no rfl) rfl rfl (R.move (v := (.pointer (some ⟨b_7, 0, none⟩))) rfl) ?_
    refine WL.call (al := [(.pointer (some ⟨b_7, 0, none⟩))]) Try.call31 rfl rfl (c_HSum ((ls.take i).flatten) ra rn rc hrn (by omega) b_7 (by omega) _ (viewV (h_162.ok _ (.tail _ (.tail _ (.tail _ (.tail _ (.tail _ (.tail _ (.head _))))))))) (h_162.argR (.tail _ (.tail _ (.tail _ (.tail _ (.tail _ (.head _)))))))) rfl ?_
    rintro _ w_164 ⟨rfl, hc_163⟩
    have h_165 := h_162.same hc_163
    refine WL.q (Wn.no rfl) rfl rfl (R.move (v := (.tuple [(.agg ⟨(sumL ((ls.take i).flatten)).map vu8⟩), (vi 0)].toArray)) rfl) ?_
    refine WL.q (Wn.no rfl) rfl rfl (R.extract (l := [(.agg ⟨(sumL ((ls.take i).flatten)).map vu8⟩), (vi 0)]) (v := (.agg ⟨(sumL ((ls.take i).flatten)).map vu8⟩)) rfl rfl) ?_
    refine WL.q (Wn.no rfl) rfl rfl (R.extract (l := [(.agg ⟨(sumL ((ls.take i).flatten)).map vu8⟩), (vi 0)]) (v := (vi 0)) rfl rfl) ?_
    refine WL.alloc (segs := [(32, (List.replicate 32 (0 : UInt8)).map vu8)]) h_165 (zv Try.typeInfo28 rfl) rfl (SsOk.cons (SOk.u8 (List.length_replicate ..)) SsOk.nil) rfl (fun b_166 w_167 h_168 => ?_)
    refine WL.storeA (b := b_166) (off := 0) [] [(32, (List.replicate 32 (0 : UInt8)).map vu8)] [(32, (sumL ((ls.take i).flatten)).map vu8)] [] (ys := (sumL ((ls.take i).flatten)).map vu8) h_168 rfl rfl Try.sizeOf28 At.h (by decide) rfl rfl rfl rfl rfl rfl (SsOk.cons (SOk.u8 (sumL_len _)) SsOk.nil) (fun w_169 h_170 => ?_)
    refine WL.q (Wn.no rfl) rfl rfl (R.assign (v := (vi 0)) rfl) ?_
    refine WL.nil ?_
    refine thn_n ?_
    refine WP.seq ?_
    refine WP.drawT (SL w.heap.size [.blk b_166 .nw 28 [(32, (sumL ((ls.take i).flatten)).map vu8)], .blk b_158 .nw 28 [(32, (sumL (((ls.take i).flatten) ++ bs2)).map vu8)], .view ra_143 ((rsL (((ls.take i).flatten) ++ bs2)).map vu8), .blk b_128 .nw 55 [(64, kL.map vu32), (8, (stH (((ls.take i).flatten) ++ bs2)).map vu32), (1, [(.slice ra_143 rn_144 rc_145)]), (1, [(vi (((((ls.take i).flatten) ++ bs2).length : Nat) : Int))]), (1, [(.bool true)])], .view ra_132 ((rsL ((ls.take i).flatten)).map vu8), .row oa (((ls.take i).flatten).length) oc 5 1 (((ls.take i).flatten).map vu8), .blk b_7 .nw 55 [(64, kL.map vu32), (8, (stH ((ls.take i).flatten)).map vu32), (1, [(.slice ra rn rc)]), (1, [(vi ((((ls.take i).flatten).length : Nat) : Int))]), (1, [(.bool true)])], .view ra ((rsL ((ls.take i).flatten)).map vu8), .view a2 (bs2.map vu8), .pin (sblks xs) (fun w => Sls w xs ls), .view a xs]) (.q 0 (.q 2 (.s 1 (.s 3 (.q 4 (.q 5 (.q 6 (.q 7 (.q 8 (.q 10 (.s 9 (.s 11 (.s 12 (.q 13 (.q 14 (.q 15 (.q 16 (.q 17 (.s 18 (.q 19 (.q 20 (.q 21 .nil)))))))))))))))))))))) (by kernel_rfl) (by kernel_rfl) rfl (by kernel_rfl) (fun w_171 hc_173 => (SL.cons ((h_170.same hc_173).ok _ (.head _)) (SL.cons ((h_170.same hc_173).ok _ (.tail _ (.head _))) (SL.cons ((h_170.same hc_173).ok _ (.tail _ (.tail _ (.head _)))) (SL.cons ((h_170.same hc_173).ok _ (.tail _ (.tail _ (.tail _ (.head _))))) (SL.cons ((h_170.same hc_173).ok _ (.tail _ (.tail _ (.tail _ (.tail _ (.head _)))))) (SL.cons ((h_170.same hc_173).ok _ (.tail _ (.tail _ (.tail _ (.tail _ (.tail _ (.head _))))))) (SL.cons ((h_170.same hc_173).ok _ (.tail _ (.tail _ (.tail _ (.tail _ (.tail _ (.tail _ (.head _)))))))) (SL.cons ((h_170.same hc_173).ok _ (.tail _ (.tail _ (.tail _ (.tail _ (.tail _ (.tail _ (.tail _ (.head _))))))))) (SL.cons ((h_170.same hc_173).ok _ (.tail _ (.tail _ (.tail _ (.tail _ (.tail _ (.tail _ (.tail _ (.tail _ (.head _)))))))))) (SL.cons ((h_170.same hc_173).ok _ (.tail _ (.tail _ (.tail _ (.tail _ (.tail _ (.tail _ (.tail _ (.tail _ (.tail _ (.head _))))))))))) (SL.cons ((h_170.same hc_173).ok _ (.tail _ (.tail _ (.tail _ (.tail _ (.tail _ (.tail _ (.tail _ (.tail _ (.tail _ (.tail _ (.head _)))))))))))) (SL.nil _ _))))))))))))) (fun w_171 hc_173 => ?_)
    have h_172 := h_170.same hc_173
    refine WT.q rfl (Wn.no rfl) rfl rfl (fun wq hS => R.move (v := (vi 0)) rfl) ?_
    refine WT.q rfl (Wn.no rfl) rfl rfl (fun wq hS => R.move (v := (vi 0)) rfl) ?_
    refine WT.s ?_
    refine Op1.one rfl (Wn.no rfl) ?_
    refine WL.call (al := [(vi 0)]) Try.call29 rfl rfl (c_num2 0 (by omega) _ ) rfl ?_
    rintro _ w_175 ⟨rfl, hc_174⟩
    have h_176 := h_172.same hc_174
    refine WL.nil ?_
    refine ⟨(SL.cons (h_176.ok _ (.head _)) (SL.cons (h_176.ok _ (.tail _ (.head _))) (SL.cons (h_176.ok _ (.tail _ (.tail _ (.head _)))) (SL.cons (h_176.ok _ (.tail _ (.tail _ (.tail _ (.head _))))) (SL.cons (h_176.ok _ (.tail _ (.tail _ (.tail _ (.tail _ (.head _)))))) (SL.cons (h_176.ok _ (.tail _ (.tail _ (.tail _ (.tail _ (.tail _ (.head _))))))) (SL.cons (h_176.ok _ (.tail _ (.tail _ (.tail _ (.tail _ (.tail _ (.tail _ (.head _)))))))) (SL.cons (h_176.ok _ (.tail _ (.tail _ (.tail _ (.tail _ (.tail _ (.tail _ (.tail _ (.head _))))))))) (SL.cons (h_176.ok _ (.tail _ (.tail _ (.tail _ (.tail _ (.tail _ (.tail _ (.tail _ (.tail _ (.head _)))))))))) (SL.cons (h_176.ok _ (.tail _ (.tail _ (.tail _ (.tail _ (.tail _ (.tail _ (.tail _ (.tail _ (.tail _ (.head _))))))))))) (SL.cons (h_176.ok _ (.tail _ (.tail _ (.tail _ (.tail _ (.tail _ (.tail _ (.tail _ (.tail _ (.tail _ (.tail _ (.head _)))))))))))) (SL.nil _ _)))))))))))), ?_⟩
    refine WT.s ?_
    refine Op1.one rfl (Wn.no rfl) ?_
    refine WL.call (al := [(vi 0)]) Try.call29 rfl rfl (c_num2 0 (by omega) _ ) rfl ?_
    rintro _ w_178 ⟨rfl, hc_177⟩
    have h_179 := h_176.same hc_177
    refine WL.nil ?_
    refine ⟨(SL.cons (h_179.ok _ (.head _)) (SL.cons (h_179.ok _ (.tail _ (.head _))) (SL.cons (h_179.ok _ (.tail _ (.tail _ (.head _)))) (SL.cons (h_179.ok _ (.tail _ (.tail _ (.tail _ (.head _))))) (SL.cons (h_179.ok _ (.tail _ (.tail _ (.tail _ (.tail _ (.head _)))))) (SL.cons (h_179.ok _ (.tail _ (.tail _ (.tail _ (.tail _ (.tail _ (.head _))))))) (SL.cons (h_179.ok _ (.tail _ (.tail _ (.tail _ (.tail _ (.tail _ (.tail _ (.head _)))))))) (SL.cons (h_179.ok _ (.tail _ (.tail _ (.tail _ (.tail _ (.tail _ (.tail _ (.tail _ (.head _))))))))) (SL.cons (h_179.ok _ (.tail _ (.tail _ (.tail _ (.tail _ (.tail _ (.tail _ (.tail _ (.tail _ (.head _)))))))))) (SL.cons (h_179.ok _ (.tail _ (.tail _ (.tail _ (.tail _ (.tail _ (.tail _ (.tail _ (.tail _ (.tail _ (.head _))))))))))) (SL.cons (h_179.ok _ (.tail _ (.tail _ (.tail _ (.tail _ (.tail _ (.tail _ (.tail _ (.tail _ (.tail _ (.tail _ (.head _)))))))))))) (SL.nil _ _)))))))))))), ?_⟩
    refine WT.q rfl (Wn.no rfl) rfl rfl (fun wq hS => R.bin (v := (vi 0)) rfl rfl (bi_add (c := 0) (by omega) (by omega))) ?_
    refine WT.q rfl (Wn.no rfl) rfl rfl (fun wq hS => R.bin (v := (.bool true)) rfl rfl (bi_eql (r := true) (by decide))) ?_
    refine WT.q rfl (Wn.no rfl) rfl rfl (fun wq hS => R.move (v := (.bool true)) rfl) ?_
    refine WT.q rfl (Wn.yes rfl rfl rfl) rfl rfl (fun wq hS => R.loadA (b := b_158) (off := 0) [] [(32, (sumL (((ls.take i).flatten) ++ bs2)).map vu8)] [] (cs := (sumL (((ls.take i).flatten) ++ bs2)).map vu8) rfl Try.isAgg28 Try.sizeOf28 (hS _ (.tail _ (.head _))) rfl rfl rfl rfl) ?_
    refine WT.q rfl (Wn.yes rfl rfl rfl) rfl rfl (fun wq hS => R.move (v := (.slice oa (((ls.take i).flatten).length) oc)) rfl) ?_
    refine WT.q rfl (Wn.yes rfl rfl rfl) rfl rfl (fun wq hS => R.move (v := (.slice a2 n2 cap2)) rfl) ?_
    refine WT.s ?_
    refine Op1.one rfl (Wn.yes rfl rfl rfl) ?_
    have h_180 := h_179.rowNil 5 1
    refine WL.append (km := ((ls.take i).flatten).length) (xs := []) (ys := ((ls.take i).flatten).map vu8) (zs := ((ls.take i).flatten).map vu8) h_180 rfl rfl el26 (ownView (h_180.ok _ (.tail _ (.tail _ (.tail _ (.tail _ (.tail _ (.tail _ (.head _))))))))) ((len_map (rfl : List.length ((ls.take i).flatten) = ((ls.take i).flatten).length)).trans (Nat.mul_one _).symm) (one_u8 _) rfl (by omega) (by omega) (by omega) (fun _ _ => At.h) rfl (fun a_181 c_182 w_183 h_184 => ?_)
    refine WL.nil ?_
    refine ⟨(SL.cons (h_184.ok _ (.tail _ (.head _))) (SL.cons (h_184.ok _ (.tail _ (.tail _ (.head _)))) (SL.cons (h_184.ok _ (.tail _ (.tail _ (.tail _ (.head _))))) (SL.cons (h_184.ok _ (.tail _ (.tail _ (.tail _ (.tail _ (.head _)))))) (SL.cons (h_184.ok _ (.tail _ (.tail _ (.tail _ (.tail _ (.tail _ (.head _))))))) (SL.cons (h_184.ok _ (.tail _ (.tail _ (.tail _ (.tail _ (.tail _ (.tail _ (.head _)))))))) (SL.cons (h_184.ok _ (.tail _ (.tail _ (.tail _ (.tail _ (.tail _ (.tail _ (.tail _ (.head _))))))))) (SL.cons (h_184.ok _ (.tail _ (.tail _ (.tail _ (.tail _ (.tail _ (.tail _ (.tail _ (.tail _ (.head _)))))))))) (SL.cons (h_184.ok _ (.tail _ (.tail _ (.tail _ (.tail _ (.tail _ (.tail _ (.tail _ (.tail _ (.tail _ (.head _))))))))))) (SL.cons (h_184.ok _ (.tail _ (.tail _ (.tail _ (.tail _ (.tail _ (.tail _ (.tail _ (.tail _ (.tail _ (.tail _ (.head _)))))))))))) (SL.cons (h_184.ok _ (.tail _ (.tail _ (.tail _ (.tail _ (.tail _ (.tail _ (.tail _ (.tail _ (.tail _ (.tail _ (.tail _ (.head _))))))))))))) (SL.nil _ _)))))))))))), ?_⟩
    refine WT.s ?_
    refine Op1.one rfl (Wn.yes rfl rfl rfl) ?_
    refine WL.append (km := ((ls.take i).flatten).length + n2) (xs := ((ls.take i).flatten).map vu8) (ys := bs2.map vu8) (zs := (((ls.take i).flatten) ++ bs2).map vu8) h_184 rfl rfl el26 (viewV (h_184.ok _ (.tail _ (.tail _ (.tail _ (.tail _ (.tail _ (.tail _ (.tail _ (.tail _ (.tail _ (.head _)))))))))))) ((len_map hl2).trans (Nat.mul_one _).symm) (one_u8 _) (by simp only [List.map_append, List.map_nil]) (by omega) (by omega) (by omega) (fun _ _ => At.h) rfl (fun a_185 c_186 w_187 h_188 => ?_)
    refine WL.nil ?_
    refine ⟨(SL.cons (h_188.ok _ (.tail _ (.head _))) (SL.cons (h_188.ok _ (.tail _ (.tail _ (.head _)))) (SL.cons (h_188.ok _ (.tail _ (.tail _ (.tail _ (.head _))))) (SL.cons (h_188.ok _ (.tail _ (.tail _ (.tail _ (.tail _ (.head _)))))) (SL.cons (h_188.ok _ (.tail _ (.tail _ (.tail _ (.tail _ (.tail _ (.head _))))))) (SL.cons (h_188.ok _ (.tail _ (.tail _ (.tail _ (.tail _ (.tail _ (.tail _ (.head _)))))))) (SL.cons (h_188.ok _ (.tail _ (.tail _ (.tail _ (.tail _ (.tail _ (.tail _ (.tail _ (.head _))))))))) (SL.cons (h_188.ok _ (.tail _ (.tail _ (.tail _ (.tail _ (.tail _ (.tail _ (.tail _ (.tail _ (.head _)))))))))) (SL.cons (h_188.ok _ (.tail _ (.tail _ (.tail _ (.tail _ (.tail _ (.tail _ (.tail _ (.tail _ (.tail _ (.head _))))))))))) (SL.cons (h_188.ok _ (.tail _ (.tail _ (.tail _ (.tail _ (.tail _ (.tail _ (.tail _ (.tail _ (.tail _ (.tail _ (.head _)))))))))))) (SL.cons (h_188.ok _ (.tail _ (.tail _ (.tail _ (.tail _ (.tail _ (.tail _ (.tail _ (.tail _ (.tail _ (.tail _ (.tail _ (.head _))))))))))))) (SL.nil _ _)))))))))))), ?_⟩
    refine WT.s ?_
    refine Op1.one rfl (Wn.yes rfl rfl rfl) ?_
    refine WL.call (al := [(.slice a_185 (((ls.take i).flatten).length + n2) c_186)]) Try.call20 rfl rfl (c_SumR a_185 (((ls.take i).flatten).length + n2) c_186 (((ls.take i).flatten) ++ bs2) (lenApp (a := ((ls.take i).flatten).length) (b := n2) (rfl : List.length ((ls.take i).flatten) = ((ls.take i).flatten).length) hl2 (by omega) : List.length (((ls.take i).flatten) ++ bs2) = ((ls.take i).flatten).length + n2) (by omega) _ (ownView (h_188.ok _ (.head _)))) rfl ?_
    rintro _ w_190 ⟨rfl, hc_189⟩
    have h_191 := h_188.same hc_189
    refine WL.nil ?_
    refine ⟨(SL.cons (h_191.ok _ (.tail _ (.head _))) (SL.cons (h_191.ok _ (.tail _ (.tail _ (.head _)))) (SL.cons (h_191.ok _ (.tail _ (.tail _ (.tail _ (.head _))))) (SL.cons (h_191.ok _ (.tail _ (.tail _ (.tail _ (.tail _ (.head _)))))) (SL.cons (h_191.ok _ (.tail _ (.tail _ (.tail _ (.tail _ (.tail _ (.head _))))))) (SL.cons (h_191.ok _ (.tail _ (.tail _ (.tail _ (.tail _ (.tail _ (.tail _ (.head _)))))))) (SL.cons (h_191.ok _ (.tail _ (.tail _ (.tail _ (.tail _ (.tail _ (.tail _ (.tail _ (.head _))))))))) (SL.cons (h_191.ok _ (.tail _ (.tail _ (.tail _ (.tail _ (.tail _ (.tail _ (.tail _ (.tail _ (.head _)))))))))) (SL.cons (h_191.ok _ (.tail _ (.tail _ (.tail _ (.tail _ (.tail _ (.tail _ (.tail _ (.tail _ (.tail _ (.head _))))))))))) (SL.cons (h_191.ok _ (.tail _ (.tail _ (.tail _ (.tail _ (.tail _ (.tail _ (.tail _ (.tail _ (.tail _ (.tail _ (.head _)))))))))))) (SL.cons (h_191.ok _ (.tail _ (.tail _ (.tail _ (.tail _ (.tail _ (.tail _ (.tail _ (.tail _ (.tail _ (.tail _ (.tail _ (.head _))))))))))))) (SL.nil _ _)))))))))))), ?_⟩
    refine WT.q rfl (Wn.yes rfl rfl rfl) rfl rfl (fun wq hS => R.eqA (xs := (sumL (((ls.take i).flatten) ++ bs2)).map vu8) (ys := (sumL (((ls.take i).flatten) ++ bs2)).map vu8) (r := true) rfl rfl Try.eqGuardType28 kt28 (by decide) ag28 (Typ.u8s Try.underlying28 ce28 Try.underlying5 ce5 (sumL_len _)) (Typ.u8s Try.underlying28 ce28 Try.underlying5 ce5 (sumL_len _)) (eqT rfl)) ?_
    refine WT.q rfl (Wn.no rfl) rfl rfl (fun wq hS => R.pickT (v := (.bool true)) rfl rfl) ?_
    refine WT.q rfl (Wn.no rfl) rfl rfl (fun wq hS => R.move (v := (.bool true)) rfl) ?_
    refine WT.q rfl (Wn.yes rfl rfl rfl) rfl rfl (fun wq hS => R.loadA (b := b_166) (off := 0) [] [(32, (sumL ((ls.take i).flatten)).map vu8)] [] (cs := (sumL ((ls.take i).flatten)).map vu8) rfl Try.isAgg28 Try.sizeOf28 (hS _ (.head _)) rfl rfl rfl rfl) ?_
    refine WT.q rfl (Wn.yes rfl rfl rfl) rfl rfl (fun wq hS => R.move (v := (.slice oa (((ls.take i).flatten).length) oc)) rfl) ?_
    refine WT.s ?_
    refine Op1.one rfl (Wn.yes rfl rfl rfl) ?_
    refine WL.call (al := [(.slice oa (((ls.take i).flatten).length) oc)]) Try.call20 rfl rfl (c_SumR oa (((ls.take i).flatten).length) oc ((ls.take i).flatten) (rfl : List.length ((ls.take i).flatten) = ((ls.take i).flatten).length) (by omega) _ (ownView (h_191.ok _ (.tail _ (.tail _ (.tail _ (.tail _ (.tail _ (.tail _ (.head _)))))))))) rfl ?_
    rintro _ w_193 ⟨rfl, hc_192⟩
    have h_194 := h_191.same hc_192
    refine WL.nil ?_
    refine ⟨(SL.cons (h_194.ok _ (.tail _ (.head _))) (SL.cons (h_194.ok _ (.tail _ (.tail _ (.head _)))) (SL.cons (h_194.ok _ (.tail _ (.tail _ (.tail _ (.head _))))) (SL.cons (h_194.ok _ (.tail _ (.tail _ (.tail _ (.tail _ (.head _)))))) (SL.cons (h_194.ok _ (.tail _ (.tail _ (.tail _ (.tail _ (.tail _ (.head _))))))) (SL.cons (h_194.ok _ (.tail _ (.tail _ (.tail _ (.tail _ (.tail _ (.tail _ (.head _)))))))) (SL.cons (h_194.ok _ (.tail _ (.tail _ (.tail _ (.tail _ (.tail _ (.tail _ (.tail _ (.head _))))))))) (SL.cons (h_194.ok _ (.tail _ (.tail _ (.tail _ (.tail _ (.tail _ (.tail _ (.tail _ (.tail _ (.head _)))))))))) (SL.cons (h_194.ok _ (.tail _ (.tail _ (.tail _ (.tail _ (.tail _ (.tail _ (.tail _ (.tail _ (.tail _ (.head _))))))))))) (SL.cons (h_194.ok _ (.tail _ (.tail _ (.tail _ (.tail _ (.tail _ (.tail _ (.tail _ (.tail _ (.tail _ (.tail _ (.head _)))))))))))) (SL.cons (h_194.ok _ (.tail _ (.tail _ (.tail _ (.tail _ (.tail _ (.tail _ (.tail _ (.tail _ (.tail _ (.tail _ (.tail _ (.head _))))))))))))) (SL.nil _ _)))))))))))), ?_⟩
    refine WT.q rfl (Wn.yes rfl rfl rfl) rfl rfl (fun wq hS => R.eqA (xs := (sumL ((ls.take i).flatten)).map vu8) (ys := (sumL ((ls.take i).flatten)).map vu8) (r := true) rfl rfl Try.eqGuardType28 kt28 (by decide) ag28 (Typ.u8s Try.underlying28 ce28 Try.underlying5 ce5 (sumL_len _)) (Typ.u8s Try.underlying28 ce28 Try.underlying5 ce5 (sumL_len _)) (eqT rfl)) ?_
    refine WT.q rfl (Wn.no rfl) rfl rfl (fun wq hS => R.pickT (v := (.bool true)) rfl rfl) ?_
    refine WT.q rfl (Wn.no rfl) rfl rfl (fun wq hS => R.assign (v := (.bool true)) rfl) ?_
    refine WT.nil ?_
    refine thn_n ?_
    refine WP.ret ?_
    refine ret_of Try.results6 (RV.tmp (v := (.bool true)) rfl RV.nil) ?_
    exact ⟨rfl, h_194.chgS⟩

theorem w_ShaParts (a : Option Addr) (n cap : Nat) (xs : List Value) (ls : List (List UInt8)) (hln : ls.length = n) (a2 : Option Addr) (n2 cap2 : Nat) (bs2 : List UInt8) (hl2 : bs2.length = n2) (hcap2 : n2 ≤ cap2) (w : World) (hv : View w a xs) (hs : Sls w xs ls) (hv2 : View w a2 (bs2.map vu8)) : Cs Try.prog 6 [.slice a n cap, .slice a2 n2 cap2].toArray w (fun v w1 => v = .bool true ∧ Chg w w1 []) := by
  by_cases hM : 600 < Go.Wr.total ls
  · exact w_Parts_m a n cap xs ls hln a2 n2 cap2 bs2 hl2 hcap2 hM w hv hs hv2
  by_cases h : 600 < n2
  · exact w_Parts_b a n cap xs ls hln a2 n2 cap2 bs2 hl2 hcap2 hM h w hv hs hv2
  · exact w_Parts_s a n cap xs ls hln a2 n2 cap2 bs2 hl2 hcap2 hM h w hv hs hv2
namespace shaPartsDone
open Go.ChangeShapes Go.WideShapes Go.ChangeAt
theorem own : ownKnob Try.prog.godebug = none := by kernel_rfl
theorem laidOut : laidOutB Try.prog = true := by kernel_rfl
set_option maxRecDepth 100000 in
theorem lifted (os : Os) (started : os.Started) (H : Type) (enc : TypeId × Value → H) :
    ReturnsInHanded {} Try.checked os 6 .any (Rows.shaPartsSpec.pre6 enc Try.prog Try.f6 Rows.shaPartsRow.domain false) (Rows.shaPartsSpec.post enc Try.prog Try.f6 false true false false) := by
  refine returnsInHanded_of_change (C := Try.checked) own started (by kernel_rfl) Try.func6
    (ChangeSpec.witness6 (enc := enc) (C := Try.checked) false ⟨#[], #[.slice none 0 0, .slice none 0 0], []⟩ 8 (by kernel_rfl) (by kernel_rfl) (by kernel_rfl) (by kernel_rfl)) ?_
  intro W base args ds gs before hval0 hW hcnd _
  have hval : ∀ (j : Nat) t v, Try.f6.params[j]? = some t → args[j]? = some v → Value.okWide Try.prog W .any base t v := hval0
  have hW' := hW
  obtain ⟨p, q, hA0, hV, rfl, hfz, hnd⟩ := hW
  have hA : DataW.TrodAll enc Try.prog W 0 (fun _ => true) true Try.f6.params.toList args.toList ds p := hA0
  rw [Try.params6] at hA hval
  obtain ⟨v0, vs0, d0, ds0, p0, q0, hargs, rfl, rfl, h0, r0⟩ := trodAll_cons hA
  obtain ⟨v1, vs1, d1, ds1, p1, q1, rfl, rfl, rfl, h1, r1⟩ := trodAll_cons r0
  obtain ⟨rfl, rfl, rfl⟩ := trodAll_nil r1
  obtain rfl : args = #[v0, v1] := by cases args; simp_all
  obtain ⟨rfl, rfl⟩ := trodVars_none hV
  have lt0 : ∀ x ∈ p0, x.block < W.heap.size := by obtain ⟨m, hm⟩ := h0; exact DataW.trod_lt m _ _ _ hm
  obtain ⟨a0, n0, c0, rfl⟩ := okWide_slice Try.underlying40 (hval 0 40 v0 rfl rfl)
  obtain ⟨a0, n0, c0, z0, x0, e0, l_x0, hc0, hm0, hv0, hs0, hn0⟩ := Tr.slsl Try.underlying40 ce26 Try.underlying26 ce5 Try.underlying5 (Tr.of h0 rfl)
  cases e0
  have lt1 : ∀ x ∈ p1, x.block < W.heap.size := by obtain ⟨m, hm⟩ := h1; exact DataW.trod_lt m _ _ _ hm
  obtain ⟨a1, n1, c1, rfl⟩ := okWide_slice Try.underlying26 (hval 1 26 v1 rfl rfl)
  obtain ⟨a1, n1, c1, x1, e1, l_x1, hc1, hm1, hv1, hn1⟩ := Tr.sl8 Try.underlying26 ce5 Try.underlying5 (Tr.of h1 rfl)
  cases e1
  clear hA0 hval0
  have hw : Cs Try.prog 6 [(.slice a0 n0 c0), (.slice a1 n1 c1)].toArray W (fun v w1 => v = .bool true ∧ Chg W w1 []) := w_ShaParts a0 n0 c0 z0 x0 l_x0 a1 n1 c1 x1 l_x1 hc1 W hv0.1 hs0 hv1.1
  have ea : ([(.slice a0 n0 c0), (.slice a1 n1 c1)] : List Value).toArray = (#[(.slice a0 n0 c0), (.slice a1 n1 c1)] : Array Value) := by simp [flat]
  rw [ea] at hw
  refine Calls.mono (Cs.below hw) fun e W' ⟨he, bel⟩ => ?_
  subst he
  exact ⟨_, rfl, _, _, _, [], _, [], hW', trodAll_mk1 (shut_bool Try.underlying4 _), (trodAll_cons_mk (Below.trod laidOut (by kernel_rfl) (of_decide_eq_true (by kernel_rfl)) h0 bel lt0) (trodAll_cons_mk (Below.trod laidOut (by kernel_rfl) (of_decide_eq_true (by kernel_rfl)) h1 bel lt1) trodAll_mk0)), rfl, bel.frame _, fun h => by cases h⟩
theorem over : Rows.shaPartsRow.holds Try.pinned (OpenSpec.ofChange Rows.shaPartsSpec) :=
  OpenClaim.holds_of_wide 6 Try.f6 rfl rfl rfl rfl rfl rfl rfl ⟨rfl, rfl, rfl, rfl, rfl⟩ rfl rfl rfl rfl rfl (by kernel_rfl) Try.func6 (by kernel_rfl)
    (of_decide_eq_true (by kernel_rfl)) (by unfold Func.isWrapper; first | (rw [if_pos (by decide +kernel)]; kernel_rfl) | (rw [if_neg (by decide +kernel)]; exact ⟨rfl, rfl⟩))
    (fun os started H enc _ => lifted os started H enc)
theorem proved : Rows.ShaPartsSaid := over
end shaPartsDone
end Go.Proofs.Ytelkjcigdhgcoaa
