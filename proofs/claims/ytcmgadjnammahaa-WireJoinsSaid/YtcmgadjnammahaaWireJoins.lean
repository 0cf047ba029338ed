/- WireJoins holds of every input. Conditions: none. -/
import Derived.Test.YtcmgadjnammahaaT9
namespace Go.Proofs.Ytcmgadjnammahaa
open Go.Vc Go.RowKit
set_option linter.unusedVariables false
set_option linter.unusedSimpArgs false
set_option maxRecDepth 20000
theorem ce3 : Try.prog.cellsOf 3 = 1 := by kernel_rfl
theorem ce23 : Try.prog.cellsOf 23 = 1 := by kernel_rfl
theorem sz_snoc {ls : List (List UInt8)} {k m : Nat} (hk : k < ls.length) (hm : (ls.getD k []).length = m) : (((ls.take k).map List.length).map Int.ofNat).map vi64 ++ [vi ((m : Nat) : Int)] = (((ls.take (k + 1)).map List.length).map Int.ofNat).map vi64 := by
  rw [take_snoc ls k [] hk, List.map_append, List.map_append, List.map_append, ← hm]; rfl
theorem hex_back2 {bs : List UInt8} {n : Nat} (h : bs.length = n) : Go.Wr.unhexL (Go.Wr.hexL bs) (2 * n / 2) = bs := by
  have := Go.Wr.hex_back bs
  rwa [Go.Wr.hexL_len, h] at this
theorem w_Joins_m (a : Option Addr) (n cap : Nat) (xs : List Value) (ls : List (List UInt8)) (hln : ls.length = n) (a2 : Option Addr) (n2 cap2 : Nat) (zs : List Int) (hl2 : zs.length = n2) (hM : 9000 < Go.Wr.total ls) (w : World) (hv : View w a xs) (hs : Sls w xs ls) (hv2 : View w a2 (zs.map vi64)) :
    Cs Try.prog 10 [(.slice a n cap), (.slice a2 n2 cap2)].toArray w (fun v w1 => v = .bool true ∧ Chg w w1 []) := by
  refine Cs.of (n := 50) (args := [(.slice a n cap), (.slice a2 n2 cap2)]) Try.func10 rfl rfl rfl ?_
  have h_0 := HP.init w
  have h_01 := h_0.oldV (View.arg hv) rfl (by simp [Ent.mut])
  have h_02 := h_01.oldV hs.pin rfl (by simp [Ent.mut])
  have h_00 := h_02.oldV (View.arg hv2) rfl (by simp [Ent.mut])
  have hxl : xs.length = n := hs.len.trans hln
  refine WP.seq ?_
  refine WP.reg ?_
  refine WL.q (Wn.no rfl) rfl rfl (R.assign (v := (.bool false)) rfl) ?_
  refine WL.nil ?_
  refine thn_n ?_
  refine WP.seq ?_
  refine WP.seq ?_
  refine WP.reg ?_
  refine WL.q (Wn.no rfl) rfl rfl (R.move (v := (.slice a n cap)) rfl) ?_
  refine WL.call (al := [(.slice a n cap), (vi 9000)]) Try.call26 rfl rfl (c_Much a n cap xs ls hln 9000 (by omega) _ (viewV (h_00.ok _ (.tail _ (.tail _ (.head _))))) (h_00.ok _ (.tail _ (.head _))).1) rfl ?_
  rintro _ w_2 ⟨rfl, hc_1⟩
  have h_3 := h_00.same hc_1
  refine WL.q (Wn.no rfl) rfl rfl (R.move (v := (.bool true)) (congrArg Value.bool (decide_eq_true hM))) ?_
  refine WL.skip rfl rfl rfl ?_
  refine WL.skip rfl rfl rfl ?_
  refine WL.skip rfl rfl rfl ?_
  refine WL.q (Wn.no rfl) rfl rfl (R.pickT (v := (.bool true)) rfl rfl) ?_
  refine WL.nil ?_
  refine thn_n ?_
  refine WP.condT rfl ?_
  refine WP.seq ?_
  refine WP.reg ?_
  refine WL.call (al := []) Try.call22 rfl rfl (c_known1  _ ) rfl ?_
  rintro _ w_5 ⟨rfl, hc_4⟩
  have h_6 := h_3.same hc_4
  refine WL.q (Wn.no rfl) rfl rfl (R.assign (v := (.bool true)) rfl) ?_
  refine WL.nil ?_
  refine thn_n ?_
  refine WP.ret ?_
  refine thn_r ?_
  refine ret_of Try.results10 (RV.tmp (v := (.bool true)) rfl RV.nil) ?_
  exact ⟨rfl, h_6.chgS⟩

theorem w_Joins_s (a : Option Addr) (n cap : Nat) (xs : List Value) (ls : List (List UInt8)) (hln : ls.length = n) (a2 : Option Addr) (n2 cap2 : Nat) (zs : List Int) (hl2 : zs.length = n2) (hM : ¬ 9000 < Go.Wr.total ls) (h : 100 < n2) (w : World) (hv : View w a xs) (hs : Sls w xs ls) (hv2 : View w a2 (zs.map vi64)) :
    Cs Try.prog 10 [(.slice a n cap), (.slice a2 n2 cap2)].toArray w (fun v w1 => v = .bool true ∧ Chg w w1 []) := by
  refine Cs.of (n := 50) (args := [(.slice a n cap), (.slice a2 n2 cap2)]) Try.func10 rfl rfl rfl ?_
  have h_0 := HP.init w
  have ht_ls : ls.length + ls.flatten.length ≤ 9000 := Nat.not_lt.1 hM
  have h_01 := h_0.oldV (View.arg hv) rfl (by simp [Ent.mut])
  have h_02 := h_01.oldV hs.pin rfl (by simp [Ent.mut])
  have h_00 := h_02.oldV (View.arg hv2) rfl (by simp [Ent.mut])
  have hxl : xs.length = n := hs.len.trans hln
  refine WP.seq ?_
  refine WP.reg ?_
  refine WL.q (Wn.no rfl) rfl rfl (R.assign (v := (.bool false)) rfl) ?_
  refine WL.nil ?_
  refine thn_n ?_
  refine WP.seq ?_
  refine WP.seq ?_
  refine WP.reg ?_
  refine WL.q (Wn.no rfl) rfl rfl (R.move (v := (.slice a n cap)) rfl) ?_
  refine WL.call (al := [(.slice a n cap), (vi 9000)]) Try.call26 rfl rfl (c_Much a n cap xs ls hln 9000 (by omega) _ (viewV (h_00.ok _ (.tail _ (.tail _ (.head _))))) (h_00.ok _ (.tail _ (.head _))).1) rfl ?_
  rintro _ w_2 ⟨rfl, hc_1⟩
  have h_3 := h_00.same hc_1
  refine WL.q (Wn.no rfl) rfl rfl (R.move (v := (.bool false)) (congrArg Value.bool (decide_eq_false hM))) ?_
  refine WL.want rfl rfl ?_
  refine WL.q (Wn.no rfl) rfl rfl (R.move (v := (.slice a2 n2 cap2)) rfl) ?_
  refine WL.want rfl rfl ?_
  refine WL.q (Wn.no rfl) rfl rfl (R.lenS (a := a2) (m := n2) rfl rfl Try.underlying60) ?_
  refine WL.want rfl rfl ?_
  refine WL.q (Wn.no rfl) rfl rfl (R.bin (v := (.bool (decide ((((n2 : Nat) : Int) : Int) > 100)))) rfl rfl (bi_gtr (r := decide ((((n2 : Nat) : Int) : Int) > 100)) rfl)) ?_
  refine WL.q (Wn.no rfl) rfl rfl (R.pickF (v := (.bool (decide ((((n2 : Nat) : Int) : Int) > 100)))) rfl rfl) ?_
  refine WL.nil ?_
  refine thn_n ?_
  refine WP.condT (congrArg Value.bool (decide_eq_true (by omega))) ?_
  refine WP.seq ?_
  refine WP.reg ?_
  refine WL.call (al := []) Try.call22 rfl rfl (c_known1  _ ) rfl ?_
  rintro _ w_5 ⟨rfl, hc_4⟩
  have h_6 := h_3.same hc_4
  refine WL.q (Wn.no rfl) rfl rfl (R.assign (v := (.bool true)) rfl) ?_
  refine WL.nil ?_
  refine thn_n ?_
  refine WP.ret ?_
  refine thn_r ?_
  refine ret_of Try.results10 (RV.tmp (v := (.bool true)) rfl RV.nil) ?_
  exact ⟨rfl, h_6.chgS⟩

theorem w_Joins_n (a : Option Addr) (n cap : Nat) (xs : List Value) (ls : List (List UInt8)) (hln : ls.length = n) (a2 : Option Addr) (n2 cap2 : Nat) (zs : List Int) (hl2 : zs.length = n2) (hM : ¬ 9000 < Go.Wr.total ls) (h : ¬ 100 < n2) (hx : zs.all nonneg = false) (w : World) (hv : View w a xs) (hs : Sls w xs ls) (hv2 : View w a2 (zs.map vi64)) :
    Cs Try.prog 10 [(.slice a n cap), (.slice a2 n2 cap2)].toArray w (fun v w1 => v = .bool true ∧ Chg w w1 []) := by
  refine Cs.of (n := 50) (args := [(.slice a n cap), (.slice a2 n2 cap2)]) Try.func10 rfl rfl rfl ?_
  have h_0 := HP.init w
  have ht_ls : ls.length + ls.flatten.length ≤ 9000 := Nat.not_lt.1 hM
  have h_01 := h_0.oldV (View.arg hv) rfl (by simp [Ent.mut])
  have h_02 := h_01.oldV hs.pin rfl (by simp [Ent.mut])
  have h_00 := h_02.oldV (View.arg hv2) rfl (by simp [Ent.mut])
  have hxl : xs.length = n := hs.len.trans hln
  refine WP.seq ?_
  refine WP.reg ?_
  refine WL.q (Wn.no rfl) rfl rfl (R.assign (v := (.bool false)) rfl) ?_
  refine WL.nil ?_
  refine thn_n ?_
  refine WP.seq ?_
  refine WP.seq ?_
  refine WP.reg ?_
  refine WL.q (Wn.no rfl) rfl rfl (R.move (v := (.slice a n cap)) rfl) ?_
  refine WL.call (al := [(.slice a n cap), (vi 9000)]) Try.call26 rfl rfl (c_Much a n cap xs ls hln 9000 (by omega) _ (viewV (h_00.ok _ (.tail _ (.tail _ (.head _))))) (h_00.ok _ (.tail _ (.head _))).1) rfl ?_
  rintro _ w_2 ⟨rfl, hc_1⟩
  have h_3 := h_00.same hc_1
  refine WL.q (Wn.no rfl) rfl rfl (R.move (v := (.bool false)) (congrArg Value.bool (decide_eq_false hM))) ?_
  refine WL.want rfl rfl ?_
  refine WL.q (Wn.no rfl) rfl rfl (R.move (v := (.slice a2 n2 cap2)) rfl) ?_
  refine WL.want rfl rfl ?_
  refine WL.q (Wn.no rfl) rfl rfl (R.lenS (a := a2) (m := n2) rfl rfl Try.underlying60) ?_
  refine WL.want rfl rfl ?_
  refine WL.q (Wn.no rfl) rfl rfl (R.bin (v := (.bool (decide ((((n2 : Nat) : Int) : Int) > 100)))) rfl rfl (bi_gtr (r := decide ((((n2 : Nat) : Int) : Int) > 100)) rfl)) ?_
  refine WL.q (Wn.no rfl) rfl rfl (R.pickF (v := (.bool (decide ((((n2 : Nat) : Int) : Int) > 100)))) rfl rfl) ?_
  refine WL.nil ?_
  refine thn_n ?_
  refine WP.condF (congrArg Value.bool (decide_eq_false (by omega))) ?_
  refine WP.skip ?_
  refine thn_n ?_
  refine WP.seq ?_
  refine WP.reg ?_
  refine WL.q (Wn.no rfl) rfl rfl (R.move (v := (.slice a n cap)) rfl) ?_
  refine WL.call (al := [(.slice a n cap)]) Try.call49 rfl rfl (c_wJoin a n cap xs ls hln (by omega) (by omega) _ (viewV (h_3.ok _ (.tail _ (.tail _ (.head _))))) (h_3.ok _ (.tail _ (.head _))).1) rfl ?_
  rintro _ w_6 ⟨a_4, cap_5, rfl, hc_7, ho_8⟩
  have h_9 := h_3.gotRow hc_7 ho_8
  have hq_10 := ho_8.2.2.1
  refine WL.q (Wn.no rfl) rfl rfl (R.assign (v := (.slice a_4 ls.flatten.length cap_5)) rfl) ?_
  refine WL.nil ?_
  refine thn_n ?_
  refine WP.seq ?_
  refine WP.reg ?_
  refine WL.q (Wn.no rfl) rfl rfl (R.move (v := (.slice a_4 ls.flatten.length cap_5)) rfl) ?_
  refine WL.q (Wn.no rfl) rfl rfl (R.move (v := (.slice a2 n2 cap2)) rfl) ?_
  refine WL.call (al := [(.slice a_4 ls.flatten.length cap_5), (.slice a2 n2 cap2)]) Try.call50 rfl rfl (c_Cut_n a_4 ls.flatten.length cap_5 ls.flatten (rfl : List.length ls.flatten = ls.flatten.length) (by omega) a2 n2 cap2 zs hl2 (by omega) hx _ (ownView (h_9.ok _ (.head _))) (viewV (h_9.ok _ (.tail _ (.head _))))) rfl ?_
  rintro _ w_12 ⟨rfl, hc_11⟩
  have h_13 := h_9.same hc_11
  refine WL.q (Wn.no rfl) rfl rfl (R.move (v := (.tuple [(.slice none 0 0), (vi 2)].toArray)) rfl) ?_
  refine WL.q (Wn.no rfl) rfl rfl (R.extract (l := [(.slice none 0 0), (vi 2)]) (v := (.slice none 0 0)) rfl rfl) ?_
  refine WL.q (Wn.no rfl) rfl rfl (R.extract (l := [(.slice none 0 0), (vi 2)]) (v := (vi 2)) rfl rfl) ?_
  refine WL.q (Wn.no rfl) rfl rfl (R.assign (v := (.slice none 0 0)) rfl) ?_
  refine WL.q (Wn.no rfl) rfl rfl (R.assign (v := (vi 2)) rfl) ?_
  refine WL.nil ?_
  refine thn_n ?_
  refine WP.seq ?_
  refine WP.reg ?_
  refine WL.q (Wn.no rfl) rfl rfl (R.move (v := (.slice a_4 ls.flatten.length cap_5)) rfl) ?_
  refine WL.q (Wn.no rfl) rfl rfl (R.move (v := (.slice a2 n2 cap2)) rfl) ?_
  have h_14 := h_13.rowView
  refine WL.call (al := [(.slice a_4 ls.flatten.length cap_5), (.slice a2 n2 cap2)]) Try.call51 rfl rfl (c_CutR_n a_4 ls.flatten.length cap_5 ls.flatten (rfl : List.length ls.flatten = ls.flatten.length) (by omega) a2 n2 cap2 zs hl2 (by omega) hx _ (viewV (h_14.ok _ (.head _))) (viewV (h_14.ok _ (.tail _ (.head _))))) rfl ?_
  rintro _ w_16 ⟨rfl, hc_15⟩
  have h_17 := h_14.same hc_15
  refine WL.q (Wn.no rfl) rfl rfl (R.move (v := (.tuple [(.slice none 0 0), (vi 2)].toArray)) rfl) ?_
  refine WL.q (Wn.no rfl) rfl rfl (R.extract (l := [(.slice none 0 0), (vi 2)]) (v := (.slice none 0 0)) rfl rfl) ?_
  refine WL.q (Wn.no rfl) rfl rfl (R.extract (l := [(.slice none 0 0), (vi 2)]) (v := (vi 2)) rfl rfl) ?_
  refine WL.q (Wn.no rfl) rfl rfl (R.assign (v := (.slice none 0 0)) rfl) ?_
  refine WL.q (Wn.no rfl) rfl rfl (R.assign (v := (vi 2)) rfl) ?_
  refine WL.nil ?_
  refine thn_n ?_
  refine WP.seq ?_
  refine WP.reg ?_
  refine WL.q (Wn.no rfl) rfl rfl (R.move (v := (.slice a_4 ls.flatten.length cap_5)) rfl) ?_
  refine WL.q (Wn.no rfl) rfl rfl (R.move (v := (.slice a n cap)) rfl) ?_
  refine WL.call (al := [(.slice a n cap)]) Try.call52 rfl rfl (c_JoinR a n cap xs ls hln (by omega) (by omega) _ (viewV (h_17.ok _ (.tail _ (.tail _ (.tail _ (.head _)))))) (h_17.ok _ (.tail _ (.tail _ (.head _)))).1) rfl ?_
  rintro _ w_20 ⟨a_18, cap_19, rfl, hc_21, ho_22⟩
  have h_23 := h_17.gotRow hc_21 ho_22
  have hq_24 := ho_22.2.2.1
  refine WL.call (al := [(.slice a_4 ls.flatten.length cap_5), (.slice a_18 ls.flatten.length cap_19)]) Try.call19 rfl rfl (c_SameR a_4 ls.flatten.length cap_5 ls.flatten (rfl : List.length ls.flatten = ls.flatten.length) a_18 ls.flatten.length cap_19 ls.flatten (rfl : List.length ls.flatten = ls.flatten.length) _ (viewV (h_23.ok _ (.tail _ (.head _)))) (ownView (h_23.ok _ (.head _)))) rfl ?_
  rintro _ w_26 ⟨rfl, hc_25⟩
  have h_27 := h_23.same hc_25
  refine WL.q (Wn.no rfl) rfl rfl (R.move (v := (.bool true)) (congrArg Value.bool (decide_eq_true rfl))) ?_
  refine WL.want rfl rfl ?_
  refine WL.q (Wn.no rfl) rfl rfl (R.move (v := (.slice none 0 0)) rfl) ?_
  refine WL.want rfl rfl ?_
  refine WL.q (Wn.no rfl) rfl rfl (R.move (v := (.slice none 0 0)) rfl) ?_
  refine WL.want rfl rfl ?_
  refine WL.call (al := [(.slice none 0 0), (.slice none 0 0)]) Try.call32 rfl rfl (c_SameLists none 0 0 [] ([] : List (List UInt8)) rfl none 0 0 [] ([] : List (List UInt8)) rfl (by omega) (by omega) _ (View.nil _ _) Sls.nil (View.nil _ _) Sls.nil) rfl ?_
  rintro _ w_29 ⟨rfl, hc_28⟩
  have h_30 := h_27.same hc_28
  refine WL.q (Wn.no rfl) rfl rfl (R.pickT (v := (.bool true)) rfl (congrArg Value.bool (decide_eq_true rfl))) ?_
  refine WL.q (Wn.no rfl) rfl rfl (R.move (v := (.bool true)) rfl) ?_
  refine WL.want rfl rfl ?_
  refine WL.q (Wn.no rfl) rfl rfl (R.move (v := (vi 2)) rfl) ?_
  refine WL.want rfl rfl ?_
  refine WL.call (al := [(vi 2)]) Try.call18 rfl rfl (c_num1 2 (by omega) _ ) rfl ?_
  rintro _ w_32 ⟨rfl, hc_31⟩
  have h_33 := h_30.same hc_31
  refine WL.want rfl rfl ?_
  refine WL.q (Wn.no rfl) rfl rfl (R.move (v := (vi 2)) rfl) ?_
  refine WL.want rfl rfl ?_
  refine WL.q (Wn.no rfl) rfl rfl (R.bin (v := (.bool true)) rfl rfl (bi_eql (r := true) (by decide))) ?_
  refine WL.q (Wn.no rfl) rfl rfl (R.pickT (v := (.bool true)) rfl rfl) ?_
  refine WL.q (Wn.no rfl) rfl rfl (R.move (v := (.bool true)) rfl) ?_
  refine WL.want rfl rfl ?_
  refine WL.call (al := []) Try.call22 rfl rfl (c_known1  _ ) rfl ?_
  rintro _ w_35 ⟨rfl, hc_34⟩
  have h_36 := h_33.same hc_34
  refine WL.q (Wn.no rfl) rfl rfl (R.pickT (v := (.bool true)) rfl rfl) ?_
  refine WL.q (Wn.no rfl) rfl rfl (R.assign (v := (.bool true)) rfl) ?_
  refine WL.nil ?_
  refine thn_n ?_
  refine WP.ret ?_
  refine ret_of Try.results10 (RV.tmp (v := (.bool true)) rfl RV.nil) ?_
  exact ⟨rfl, h_36.chgS⟩

theorem w_Joins_t (a : Option Addr) (n cap : Nat) (xs : List Value) (ls : List (List UInt8)) (hln : ls.length = n) (a2 : Option Addr) (n2 cap2 : Nat) (ns : List Nat) (hl2 : ns.length = n2) (hM : ¬ 9000 < Go.Wr.total ls) (h : ¬ 100 < n2) (lr : List (List UInt8)) (hx : Go.Wr.cutL ns ls.flatten = some lr) (w : World) (hv : View w a xs) (hs : Sls w xs ls) (hv2 : View w a2 ((ns.map Int.ofNat).map vi64)) :
    Cs Try.prog 10 [(.slice a n cap), (.slice a2 n2 cap2)].toArray w (fun v w1 => v = .bool true ∧ Chg w w1 []) := by
  refine Cs.of (n := 50) (args := [(.slice a n cap), (.slice a2 n2 cap2)]) Try.func10 rfl rfl rfl ?_
  have h_0 := HP.init w
  have ht_ls : ls.length + ls.flatten.length ≤ 9000 := Nat.not_lt.1 hM
  have hlr : lr.length = n2 := by have := congrArg List.length (Go.Wr.cut_flat hx).2; rwa [List.length_map, hl2] at this
  have h_01 := h_0.oldV (View.arg hv) rfl (by simp [Ent.mut])
  have h_02 := h_01.oldV hs.pin rfl (by simp [Ent.mut])
  have h_00 := h_02.oldV (View.arg hv2) rfl (by simp [Ent.mut])
  have hxl : xs.length = n := hs.len.trans hln
  refine WP.seq ?_
  refine WP.reg ?_
  refine WL.q (Wn.no rfl) rfl rfl (R.assign (v := (.bool false)) rfl) ?_
  refine WL.nil ?_
  refine thn_n ?_
  refine WP.seq ?_
  refine WP.seq ?_
  refine WP.reg ?_
  refine WL.q (Wn.no rfl) rfl rfl (R.move (v := (.slice a n cap)) rfl) ?_
  refine WL.call (al := [(.slice a n cap), (vi 9000)]) Try.call26 rfl rfl (c_Much a n cap xs ls hln 9000 (by omega) _ (viewV (h_00.ok _ (.tail _ (.tail _ (.head _))))) (h_00.ok _ (.tail _ (.head _))).1) rfl ?_
  rintro _ w_2 ⟨rfl, hc_1⟩
  have h_3 := h_00.same hc_1
  refine WL.q (Wn.no rfl) rfl rfl (R.move (v := (.bool false)) (congrArg Value.bool (decide_eq_false hM))) ?_
  refine WL.want rfl rfl ?_
  refine WL.q (Wn.no rfl) rfl rfl (R.move (v := (.slice a2 n2 cap2)) rfl) ?_
  refine WL.want rfl rfl ?_
  refine WL.q (Wn.no rfl) rfl rfl (R.lenS (a := a2) (m := n2) rfl rfl Try.underlying60) ?_
  refine WL.want rfl rfl ?_
  refine WL.q (Wn.no rfl) rfl rfl (R.bin (v := (.bool (decide ((((n2 : Nat) : Int) : Int) > 100)))) rfl rfl (bi_gtr (r := decide ((((n2 : Nat) : Int) : Int) > 100)) rfl)) ?_
  refine WL.q (Wn.no rfl) rfl rfl (R.pickF (v := (.bool (decide ((((n2 : Nat) : Int) : Int) > 100)))) rfl rfl) ?_
  refine WL.nil ?_
  refine thn_n ?_
  refine WP.condF (congrArg Value.bool (decide_eq_false (by omega))) ?_
  refine WP.skip ?_
  refine thn_n ?_
  refine WP.seq ?_
  refine WP.reg ?_
  refine WL.q (Wn.no rfl) rfl rfl (R.move (v := (.slice a n cap)) rfl) ?_
  refine WL.call (al := [(.slice a n cap)]) Try.call49 rfl rfl (c_wJoin a n cap xs ls hln (by omega) (by omega) _ (viewV (h_3.ok _ (.tail _ (.tail _ (.head _))))) (h_3.ok _ (.tail _ (.head _))).1) rfl ?_
  rintro _ w_6 ⟨a_4, cap_5, rfl, hc_7, ho_8⟩
  have h_9 := h_3.gotRow hc_7 ho_8
  have hq_10 := ho_8.2.2.1
  refine WL.q (Wn.no rfl) rfl rfl (R.assign (v := (.slice a_4 ls.flatten.length cap_5)) rfl) ?_
  refine WL.nil ?_
  refine thn_n ?_
  refine WP.seq ?_
  refine WP.reg ?_
  refine WL.q (Wn.no rfl) rfl rfl (R.move (v := (.slice a_4 ls.flatten.length cap_5)) rfl) ?_
  refine WL.q (Wn.no rfl) rfl rfl (R.move (v := (.slice a2 n2 cap2)) rfl) ?_
  refine WL.call (al := [(.slice a_4 ls.flatten.length cap_5), (.slice a2 n2 cap2)]) Try.call50 rfl rfl (c_Cut_t a_4 ls.flatten.length cap_5 ls.flatten (rfl : List.length ls.flatten = ls.flatten.length) (by omega) a2 n2 cap2 ns hl2 (by omega) lr hx _ (ownView (h_9.ok _ (.head _))) (viewV (h_9.ok _ (.tail _ (.head _))))) rfl ?_
  rintro _ w_14 ⟨a_11, cap_12, xs_13, rfl, hc_15, hv_16, hs_17, hb_18⟩
  have h_20 := h_9.gotSls hc_15 hv_16 hs_17 hb_18
  refine WL.q (Wn.no rfl) rfl rfl (R.move (v := (.tuple [(.slice a_11 lr.length cap_12), (vi 0)].toArray)) rfl) ?_
  refine WL.q (Wn.no rfl) rfl rfl (R.extract (l := [(.slice a_11 lr.length cap_12), (vi 0)]) (v := (.slice a_11 lr.length cap_12)) rfl rfl) ?_
  refine WL.q (Wn.no rfl) rfl rfl (R.extract (l := [(.slice a_11 lr.length cap_12), (vi 0)]) (v := (vi 0)) rfl rfl) ?_
  refine WL.q (Wn.no rfl) rfl rfl (R.assign (v := (.slice a_11 lr.length cap_12)) rfl) ?_
  refine WL.q (Wn.no rfl) rfl rfl (R.assign (v := (vi 0)) rfl) ?_
  refine WL.nil ?_
  refine thn_n ?_
  refine WP.seq ?_
  refine WP.reg ?_
  refine WL.q (Wn.no rfl) rfl rfl (R.move (v := (.slice a_4 ls.flatten.length cap_5)) rfl) ?_
  refine WL.q (Wn.no rfl) rfl rfl (R.move (v := (.slice a2 n2 cap2)) rfl) ?_
  have h_21 := h_20.up (Pick.t (Pick.t Pick.h))
  have h_22 := h_21.rowView
  refine WL.call (al := [(.slice a_4 ls.flatten.length cap_5), (.slice a2 n2 cap2)]) Try.call51 rfl rfl (c_CutR_t a_4 ls.flatten.length cap_5 ls.flatten (rfl : List.length ls.flatten = ls.flatten.length) (by omega) a2 n2 cap2 ns hl2 (by omega) (by omega) lr hx _ (viewV (h_22.ok _ (.head _))) (viewV (h_22.ok _ (.tail _ (.tail _ (.tail _ (.head _))))))) rfl ?_
  rintro _ w_26 ⟨a_23, cap_24, xs_25, rfl, hc_27, hv_28, hs_29, hb_30, hb_31⟩
  have h_32 := h_22.gotSlsIn (.head _) hc_27 hv_28 hs_29 hb_30 hb_31
  refine WL.q (Wn.no rfl) rfl rfl (R.move (v := (.tuple [(.slice a_23 lr.length cap_24), (vi 0)].toArray)) rfl) ?_
  refine WL.q (Wn.no rfl) rfl rfl (R.extract (l := [(.slice a_23 lr.length cap_24), (vi 0)]) (v := (.slice a_23 lr.length cap_24)) rfl rfl) ?_
  refine WL.q (Wn.no rfl) rfl rfl (R.extract (l := [(.slice a_23 lr.length cap_24), (vi 0)]) (v := (vi 0)) rfl rfl) ?_
  refine WL.q (Wn.no rfl) rfl rfl (R.assign (v := (.slice a_23 lr.length cap_24)) rfl) ?_
  refine WL.q (Wn.no rfl) rfl rfl (R.assign (v := (vi 0)) rfl) ?_
  refine WL.nil ?_
  refine thn_n ?_
  refine WP.seq ?_
  refine WP.reg ?_
  refine WL.q (Wn.no rfl) rfl rfl (R.move (v := (.slice a_4 ls.flatten.length cap_5)) rfl) ?_
  refine WL.q (Wn.no rfl) rfl rfl (R.move (v := (.slice a n cap)) rfl) ?_
  refine WL.call (al := [(.slice a n cap)]) Try.call52 rfl rfl (c_JoinR a n cap xs ls hln (by omega) (by omega) _ (viewV (h_32.ok _ (.tail _ (.tail _ (.tail _ (.tail _ (.tail _ (.tail _ (.tail _ (.head _)))))))))) (h_32.ok _ (.tail _ (.tail _ (.tail _ (.tail _ (.tail _ (.tail _ (.head _)))))))).1) rfl ?_
  rintro _ w_35 ⟨a_33, cap_34, rfl, hc_36, ho_37⟩
  have h_38 := h_32.gotRow hc_36 ho_37
  have hq_39 := ho_37.2.2.1
  refine WL.call (al := [(.slice a_4 ls.flatten.length cap_5), (.slice a_33 ls.flatten.length cap_34)]) Try.call19 rfl rfl (c_SameR a_4 ls.flatten.length cap_5 ls.flatten (rfl : List.length ls.flatten = ls.flatten.length) a_33 ls.flatten.length cap_34 ls.flatten (rfl : List.length ls.flatten = ls.flatten.length) _ (viewV (h_38.ok _ (.tail _ (.tail _ (.tail _ (.head _)))))) (ownView (h_38.ok _ (.head _)))) rfl ?_
  rintro _ w_41 ⟨rfl, hc_40⟩
  have h_42 := h_38.same hc_40
  refine WL.q (Wn.no rfl) rfl rfl (R.move (v := (.bool true)) (congrArg Value.bool (decide_eq_true rfl))) ?_
  refine WL.want rfl rfl ?_
  refine WL.q (Wn.no rfl) rfl rfl (R.move (v := (.slice a_11 lr.length cap_12)) rfl) ?_
  refine WL.want rfl rfl ?_
  refine WL.q (Wn.no rfl) rfl rfl (R.move (v := (.slice a_23 lr.length cap_24)) rfl) ?_
  refine WL.want rfl rfl ?_
  refine WL.call (al := [(.slice a_11 lr.length cap_12), (.slice a_23 lr.length cap_24)]) Try.call32 rfl rfl (c_SameLists a_11 lr.length cap_12 xs_13 lr rfl a_23 lr.length cap_24 xs_25 lr rfl (by omega) (by omega) _ (viewV (h_42.ok _ (.tail _ (.tail _ (.tail _ (.tail _ (.tail _ (.head _)))))))) (h_42.ok _ (.tail _ (.tail _ (.tail _ (.tail _ (.head _)))))).1 (viewV (h_42.ok _ (.tail _ (.tail _ (.head _))))) (h_42.ok _ (.tail _ (.head _))).1) rfl ?_
  rintro _ w_44 ⟨rfl, hc_43⟩
  have h_45 := h_42.same hc_43
  refine WL.q (Wn.no rfl) rfl rfl (R.pickT (v := (.bool true)) rfl (congrArg Value.bool (decide_eq_true rfl))) ?_
  refine WL.q (Wn.no rfl) rfl rfl (R.move (v := (.bool true)) rfl) ?_
  refine WL.want rfl rfl ?_
  refine WL.q (Wn.no rfl) rfl rfl (R.move (v := (vi 0)) rfl) ?_
  refine WL.want rfl rfl ?_
  refine WL.call (al := [(vi 0)]) Try.call18 rfl rfl (c_num1 0 (by omega) _ ) rfl ?_
  rintro _ w_47 ⟨rfl, hc_46⟩
  have h_48 := h_45.same hc_46
  refine WL.want rfl rfl ?_
  refine WL.q (Wn.no rfl) rfl rfl (R.move (v := (vi 0)) rfl) ?_
  refine WL.want rfl rfl ?_
  refine WL.q (Wn.no rfl) rfl rfl (R.bin (v := (.bool true)) rfl rfl (bi_eql (r := true) (by decide))) ?_
  refine WL.q (Wn.no rfl) rfl rfl (R.pickT (v := (.bool true)) rfl rfl) ?_
  refine WL.q (Wn.no rfl) rfl rfl (R.move (v := (.bool true)) rfl) ?_
  refine WL.want rfl rfl ?_
  refine WL.call (al := []) Try.call22 rfl rfl (c_known1  _ ) rfl ?_
  rintro _ w_50 ⟨rfl, hc_49⟩
  have h_51 := h_48.same hc_49
  refine WL.q (Wn.no rfl) rfl rfl (R.pickT (v := (.bool true)) rfl rfl) ?_
  refine WL.q (Wn.no rfl) rfl rfl (R.assign (v := (.bool true)) rfl) ?_
  refine WL.nil ?_
  refine thn_n ?_
  refine WP.ret ?_
  refine ret_of Try.results10 (RV.tmp (v := (.bool true)) rfl RV.nil) ?_
  exact ⟨rfl, h_51.chgS⟩

theorem w_Joins_f (a : Option Addr) (n cap : Nat) (xs : List Value) (ls : List (List UInt8)) (hln : ls.length = n) (a2 : Option Addr) (n2 cap2 : Nat) (ns : List Nat) (hl2 : ns.length = n2) (hM : ¬ 9000 < Go.Wr.total ls) (h : ¬ 100 < n2) (hx : Go.Wr.cutL ns ls.flatten = none) (w : World) (hv : View w a xs) (hs : Sls w xs ls) (hv2 : View w a2 ((ns.map Int.ofNat).map vi64)) :
    Cs Try.prog 10 [(.slice a n cap), (.slice a2 n2 cap2)].toArray w (fun v w1 => v = .bool true ∧ Chg w w1 []) := by
  refine Cs.of (n := 50) (args := [(.slice a n cap), (.slice a2 n2 cap2)]) Try.func10 rfl rfl rfl ?_
  have h_0 := HP.init w
  have ht_ls : ls.length + ls.flatten.length ≤ 9000 := Nat.not_lt.1 hM
  have h_01 := h_0.oldV (View.arg hv) rfl (by simp [Ent.mut])
  have h_02 := h_01.oldV hs.pin rfl (by simp [Ent.mut])
  have h_00 := h_02.oldV (View.arg hv2) rfl (by simp [Ent.mut])
  have hxl : xs.length = n := hs.len.trans hln
  refine WP.seq ?_
  refine WP.reg ?_
  refine WL.q (Wn.no rfl) rfl rfl (R.assign (v := (.bool false)) rfl) ?_
  refine WL.nil ?_
  refine thn_n ?_
  refine WP.seq ?_
  refine WP.seq ?_
  refine WP.reg ?_
  refine WL.q (Wn.no rfl) rfl rfl (R.move (v := (.slice a n cap)) rfl) ?_
  refine WL.call (al := [(.slice a n cap), (vi 9000)]) Try.call26 rfl rfl (c_Much a n cap xs ls hln 9000 (by omega) _ (viewV (h_00.ok _ (.tail _ (.tail _ (.head _))))) (h_00.ok _ (.tail _ (.head _))).1) rfl ?_
  rintro _ w_2 ⟨rfl, hc_1⟩
  have h_3 := h_00.same hc_1
  refine WL.q (Wn.no rfl) rfl rfl (R.move (v := (.bool false)) (congrArg Value.bool (decide_eq_false hM))) ?_
  refine WL.want rfl rfl ?_
  refine WL.q (Wn.no rfl) rfl rfl (R.move (v := (.slice a2 n2 cap2)) rfl) ?_
  refine WL.want rfl rfl ?_
  refine WL.q (Wn.no rfl) rfl rfl (R.lenS (a := a2) (m := n2) rfl rfl Try.underlying60) ?_
  refine WL.want rfl rfl ?_
  refine WL.q (Wn.no rfl) rfl rfl (R.bin (v := (.bool (decide ((((n2 : Nat) : Int) : Int) > 100)))) rfl rfl (bi_gtr (r := decide ((((n2 : Nat) : Int) : Int) > 100)) rfl)) ?_
  refine WL.q (Wn.no rfl) rfl rfl (R.pickF (v := (.bool (decide ((((n2 : Nat) : Int) : Int) > 100)))) rfl rfl) ?_
  refine WL.nil ?_
  refine thn_n ?_
  refine WP.condF (congrArg Value.bool (decide_eq_false (by omega))) ?_
  refine WP.skip ?_
  refine thn_n ?_
  refine WP.seq ?_
  refine WP.reg ?_
  refine WL.q (Wn.no rfl) rfl rfl (R.move (v := (.slice a n cap)) rfl) ?_
  refine WL.call (al := [(.slice a n cap)]) Try.call49 rfl rfl (c_wJoin a n cap xs ls hln (by omega) (by omega) _ (viewV (h_3.ok _ (.tail _ (.tail _ (.head _))))) (h_3.ok _ (.tail _ (.head _))).1) rfl ?_
  rintro _ w_6 ⟨a_4, cap_5, rfl, hc_7, ho_8⟩
  have h_9 := h_3.gotRow hc_7 ho_8
  have hq_10 := ho_8.2.2.1
  refine WL.q (Wn.no rfl) rfl rfl (R.assign (v := (.slice a_4 ls.flatten.length cap_5)) rfl) ?_
  refine WL.nil ?_
  refine thn_n ?_
  refine WP.seq ?_
  refine WP.reg ?_
  refine WL.q (Wn.no rfl) rfl rfl (R.move (v := (.slice a_4 ls.flatten.length cap_5)) rfl) ?_
  refine WL.q (Wn.no rfl) rfl rfl (R.move (v := (.slice a2 n2 cap2)) rfl) ?_
  refine WL.call (al := [(.slice a_4 ls.flatten.length cap_5), (.slice a2 n2 cap2)]) Try.call50 rfl rfl (c_Cut_f a_4 ls.flatten.length cap_5 ls.flatten (rfl : List.length ls.flatten = ls.flatten.length) (by omega) a2 n2 cap2 ns hl2 (by omega) hx _ (ownView (h_9.ok _ (.head _))) (viewV (h_9.ok _ (.tail _ (.head _))))) rfl ?_
  rintro _ w_12 ⟨rfl, hc_11⟩
  have h_13 := h_9.same hc_11
  refine WL.q (Wn.no rfl) rfl rfl (R.move (v := (.tuple [(.slice none 0 0), (vi 4)].toArray)) rfl) ?_
  refine WL.q (Wn.no rfl) rfl rfl (R.extract (l := [(.slice none 0 0), (vi 4)]) (v := (.slice none 0 0)) rfl rfl) ?_
  refine WL.q (Wn.no rfl) rfl rfl (R.extract (l := [(.slice none 0 0), (vi 4)]) (v := (vi 4)) rfl rfl) ?_
  refine WL.q (Wn.no rfl) rfl rfl (R.assign (v := (.slice none 0 0)) rfl) ?_
  refine WL.q (Wn.no rfl) rfl rfl (R.assign (v := (vi 4)) rfl) ?_
  refine WL.nil ?_
  refine thn_n ?_
  refine WP.seq ?_
  refine WP.reg ?_
  refine WL.q (Wn.no rfl) rfl rfl (R.move (v := (.slice a_4 ls.flatten.length cap_5)) rfl) ?_
  refine WL.q (Wn.no rfl) rfl rfl (R.move (v := (.slice a2 n2 cap2)) rfl) ?_
  have h_14 := h_13.rowView
  refine WL.call (al := [(.slice a_4 ls.flatten.length cap_5), (.slice a2 n2 cap2)]) Try.call51 rfl rfl (c_CutR_f a_4 ls.flatten.length cap_5 ls.flatten (rfl : List.length ls.flatten = ls.flatten.length) (by omega) a2 n2 cap2 ns hl2 (by omega) (by omega) hx _ (viewV (h_14.ok _ (.head _))) (viewV (h_14.ok _ (.tail _ (.head _))))) rfl ?_
  rintro _ w_16 ⟨rfl, hc_15⟩
  have h_17 := h_14.same hc_15
  refine WL.q (Wn.no rfl) rfl rfl (R.move (v := (.tuple [(.slice none 0 0), (vi 4)].toArray)) rfl) ?_
  refine WL.q (Wn.no rfl) rfl rfl (R.extract (l := [(.slice none 0 0), (vi 4)]) (v := (.slice none 0 0)) rfl rfl) ?_
  refine WL.q (Wn.no rfl) rfl rfl (R.extract (l := [(.slice none 0 0), (vi 4)]) (v := (vi 4)) rfl rfl) ?_
  refine WL.q (Wn.no rfl) rfl rfl (R.assign (v := (.slice none 0 0)) rfl) ?_
  refine WL.q (Wn.no rfl) rfl rfl (R.assign (v := (vi 4)) rfl) ?_
  refine WL.nil ?_
  refine thn_n ?_
  refine WP.seq ?_
  refine WP.reg ?_
  refine WL.q (Wn.no rfl) rfl rfl (R.move (v := (.slice a_4 ls.flatten.length cap_5)) rfl) ?_
  refine WL.q (Wn.no rfl) rfl rfl (R.move (v := (.slice a n cap)) rfl) ?_
  refine WL.call (al := [(.slice a n cap)]) Try.call52 rfl rfl (c_JoinR a n cap xs ls hln (by omega) (by omega) _ (viewV (h_17.ok _ (.tail _ (.tail _ (.tail _ (.head _)))))) (h_17.ok _ (.tail _ (.tail _ (.head _)))).1) rfl ?_
  rintro _ w_20 ⟨a_18, cap_19, rfl, hc_21, ho_22⟩
  have h_23 := h_17.gotRow hc_21 ho_22
  have hq_24 := ho_22.2.2.1
  refine WL.call (al := [(.slice a_4 ls.flatten.length cap_5), (.slice a_18 ls.flatten.length cap_19)]) Try.call19 rfl rfl (c_SameR a_4 ls.flatten.length cap_5 ls.flatten (rfl : List.length ls.flatten = ls.flatten.length) a_18 ls.flatten.length cap_19 ls.flatten (rfl : List.length ls.flatten = ls.flatten.length) _ (viewV (h_23.ok _ (.tail _ (.head _)))) (ownView (h_23.ok _ (.head _)))) rfl ?_
  rintro _ w_26 ⟨rfl, hc_25⟩
  have h_27 := h_23.same hc_25
  refine WL.q (Wn.no rfl) rfl rfl (R.move (v := (.bool true)) (congrArg Value.bool (decide_eq_true rfl))) ?_
  refine WL.want rfl rfl ?_
  refine WL.q (Wn.no rfl) rfl rfl (R.move (v := (.slice none 0 0)) rfl) ?_
  refine WL.want rfl rfl ?_
  refine WL.q (Wn.no rfl) rfl rfl (R.move (v := (.slice none 0 0)) rfl) ?_
  refine WL.want rfl rfl ?_
  refine WL.call (al := [(.slice none 0 0), (.slice none 0 0)]) Try.call32 rfl rfl (c_SameLists none 0 0 [] ([] : List (List UInt8)) rfl none 0 0 [] ([] : List (List UInt8)) rfl (by omega) (by omega) _ (View.nil _ _) Sls.nil (View.nil _ _) Sls.nil) rfl ?_
  rintro _ w_29 ⟨rfl, hc_28⟩
  have h_30 := h_27.same hc_28
  refine WL.q (Wn.no rfl) rfl rfl (R.pickT (v := (.bool true)) rfl (congrArg Value.bool (decide_eq_true rfl))) ?_
  refine WL.q (Wn.no rfl) rfl rfl (R.move (v := (.bool true)) rfl) ?_
  refine WL.want rfl rfl ?_
  refine WL.q (Wn.no rfl) rfl rfl (R.move (v := (vi 4)) rfl) ?_
  refine WL.want rfl rfl ?_
  refine WL.call (al := [(vi 4)]) Try.call18 rfl rfl (c_num1 4 (by omega) _ ) rfl ?_
  rintro _ w_32 ⟨rfl, hc_31⟩
  have h_33 := h_30.same hc_31
  refine WL.want rfl rfl ?_
  refine WL.q (Wn.no rfl) rfl rfl (R.move (v := (vi 4)) rfl) ?_
  refine WL.want rfl rfl ?_
  refine WL.q (Wn.no rfl) rfl rfl (R.bin (v := (.bool true)) rfl rfl (bi_eql (r := true) (by decide))) ?_
  refine WL.q (Wn.no rfl) rfl rfl (R.pickT (v := (.bool true)) rfl rfl) ?_
  refine WL.q (Wn.no rfl) rfl rfl (R.move (v := (.bool true)) rfl) ?_
  refine WL.want rfl rfl ?_
  refine WL.call (al := []) Try.call22 rfl rfl (c_known1  _ ) rfl ?_
  rintro _ w_35 ⟨rfl, hc_34⟩
  have h_36 := h_33.same hc_34
  refine WL.q (Wn.no rfl) rfl rfl (R.pickT (v := (.bool true)) rfl rfl) ?_
  refine WL.q (Wn.no rfl) rfl rfl (R.assign (v := (.bool true)) rfl) ?_
  refine WL.nil ?_
  refine thn_n ?_
  refine WP.ret ?_
  refine ret_of Try.results10 (RV.tmp (v := (.bool true)) rfl RV.nil) ?_
  exact ⟨rfl, h_36.chgS⟩

theorem w_WireJoins (a : Option Addr) (n cap : Nat) (xs : List Value) (ls : List (List UInt8)) (hln : ls.length = n) (a2 : Option Addr) (n2 cap2 : Nat) (zs : List Int) (hl2 : zs.length = n2) (w : World) (hv : View w a xs) (hs : Sls w xs ls) (hv2 : View w a2 (zs.map vi64)) : Cs Try.prog 10 [.slice a n cap, .slice a2 n2 cap2].toArray w (fun v w1 => v = .bool true ∧ Chg w w1 []) := by
  by_cases hM : 9000 < Go.Wr.total ls
  · exact w_Joins_m a n cap xs ls hln a2 n2 cap2 zs hl2 hM w hv hs hv2
  by_cases h : 100 < n2
  · exact w_Joins_s a n cap xs ls hln a2 n2 cap2 zs hl2 hM h w hv hs hv2
  rcases Bool.eq_false_or_eq_true (zs.all nonneg) with hx | hx
  · obtain ⟨ns, rfl⟩ := Go.Wr.ints_of (zs := zs) (fun x hx' => by have := List.all_eq_true.1 hx x hx'; simpa [nonneg] using this)
    have hl3 : ns.length = n2 := by rw [← hl2, List.length_map]
    rcases hc : Go.Wr.cutL ns ls.flatten with _ | lr
    · exact w_Joins_f a n cap xs ls hln a2 n2 cap2 ns hl3 hM h hc w hv hs hv2
    · exact w_Joins_t a n cap xs ls hln a2 n2 cap2 ns hl3 hM h lr hc w hv hs hv2
  · exact w_Joins_n a n cap xs ls hln a2 n2 cap2 zs hl2 hM h hx w hv hs hv2
namespace wireJoinsDone
open Go.ChangeShapes Go.WideShapes Go.ChangeAt
theorem own : ownKnob Try.prog.godebug = none := by kernel_rfl
theorem laidOut : laidOutB Try.prog = true := by kernel_rfl
set_option maxRecDepth 100000 in
theorem lifted (os : Os) (started : os.Started) (H : Type) (enc : TypeId × Value → H) :
    ReturnsInHanded {} Try.checked os 10 .any (Rows.wireJoinsSpec.pre6 enc Try.prog Try.f10 Rows.wireJoinsRow.domain false) (Rows.wireJoinsSpec.post enc Try.prog Try.f10 false true false false) := by
  refine returnsInHanded_of_change (C := Try.checked) own started (by kernel_rfl) Try.func10
    (ChangeSpec.witness6 (enc := enc) (C := Try.checked) false ⟨#[], #[.slice none 0 0, .slice none 0 0], []⟩ 8 (by kernel_rfl) (by kernel_rfl) (by kernel_rfl) (by kernel_rfl)) ?_
  intro W base args ds gs before hval0 hW hcnd _
  have hval : ∀ (j : Nat) t v, Try.f10.params[j]? = some t → args[j]? = some v → Value.okWide Try.prog W .any base t v := hval0
  have hW' := hW
  obtain ⟨p, q, hA0, hV, rfl, hfz, hnd⟩ := hW
  have hA : DataW.TrodAll enc Try.prog W 0 (fun _ => true) true Try.f10.params.toList args.toList ds p := hA0
  rw [Try.params10] at hA hval
  obtain ⟨v0, vs0, d0, ds0, p0, q0, hargs, rfl, rfl, h0, r0⟩ := trodAll_cons hA
  obtain ⟨v1, vs1, d1, ds1, p1, q1, rfl, rfl, rfl, h1, r1⟩ := trodAll_cons r0
  obtain ⟨rfl, rfl, rfl⟩ := trodAll_nil r1
  obtain rfl : args = #[v0, v1] := by cases args; simp_all
  obtain ⟨rfl, rfl⟩ := trodVars_none hV
  have lt0 : ∀ x ∈ p0, x.block < W.heap.size := by obtain ⟨m, hm⟩ := h0; exact DataW.trod_lt m _ _ _ hm
  obtain ⟨a0, n0, c0, rfl⟩ := okWide_slice Try.underlying40 (hval 0 40 v0 rfl rfl)
  obtain ⟨a0, n0, c0, z0, x0, e0, l_x0, hc0, hm0, hv0, hs0, hn0⟩ := Tr.slsl Try.underlying40 ce23 Try.underlying23 ce5 Try.underlying5 (Tr.of h0 rfl)
  cases e0
  have lt1 : ∀ x ∈ p1, x.block < W.heap.size := by obtain ⟨m, hm⟩ := h1; exact DataW.trod_lt m _ _ _ hm
  obtain ⟨a1, n1, c1, rfl⟩ := okWide_slice Try.underlying60 (hval 1 60 v1 rfl rfl)
  obtain ⟨a1, n1, c1, x1, e1, l_x1, hc1, hm1, hv1, hn1⟩ := Tr.slint Try.underlying60 ce3 Try.underlying3 (Tr.of h1 rfl)
  cases e1
  clear hA0 hval0
  have hw : Cs Try.prog 10 [(.slice a0 n0 c0), (.slice a1 n1 c1)].toArray W (fun v w1 => v = .bool true ∧ Chg W w1 []) := w_WireJoins a0 n0 c0 z0 x0 l_x0 a1 n1 c1 x1 l_x1 W hv0.1 hs0 hv1.1
  have ea : ([(.slice a0 n0 c0), (.slice a1 n1 c1)] : List Value).toArray = (#[(.slice a0 n0 c0), (.slice a1 n1 c1)] : Array Value) := by simp [flat]
  rw [ea] at hw
  refine Calls.mono (Cs.below hw) fun e W' ⟨he, bel⟩ => ?_
  subst he
  exact ⟨_, rfl, _, _, _, [], _, [], hW', trodAll_mk1 (shut_bool Try.underlying4 _), (trodAll_cons_mk (Below.trod laidOut (by kernel_rfl) (of_decide_eq_true (by kernel_rfl)) h0 bel lt0) (trodAll_cons_mk (Below.trod laidOut (by kernel_rfl) (of_decide_eq_true (by kernel_rfl)) h1 bel lt1) trodAll_mk0)), rfl, bel.frame _, fun h => by cases h⟩
theorem over : Rows.wireJoinsRow.holds Try.pinned (OpenSpec.ofChange Rows.wireJoinsSpec) :=
  OpenClaim.holds_of_wide 10 Try.f10 rfl rfl rfl rfl rfl rfl rfl ⟨rfl, rfl, rfl, rfl, rfl⟩ rfl rfl rfl rfl rfl (by kernel_rfl) Try.func10 (by kernel_rfl)
    (of_decide_eq_true (by kernel_rfl)) (by unfold Func.isWrapper; first | (rw [if_pos (by decide +kernel)]; kernel_rfl) | (rw [if_neg (by decide +kernel)]; exact ⟨rfl, rfl⟩))
    (fun os started H enc _ => lifted os started H enc)
theorem proved : Rows.WireJoinsSaid := over
end wireJoinsDone
end Go.Proofs.Ytcmgadjnammahaa
