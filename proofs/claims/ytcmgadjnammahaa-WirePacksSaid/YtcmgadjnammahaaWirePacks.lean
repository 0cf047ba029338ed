/- WirePacks holds of every input. Conditions: none. -/
import Derived.Test.YtcmgadjnammahaaT9
namespace Go.Proofs.Ytcmgadjnammahaa
open Go.Vc Go.RowKit
set_option linter.unusedVariables false
set_option linter.unusedSimpArgs false
set_option maxRecDepth 20000
theorem ce23 : Try.prog.cellsOf 23 = 1 := by kernel_rfl
theorem sz_snoc {ls : List (List UInt8)} {k m : Nat} (hk : k < ls.length) (hm : (ls.getD k []).length = m) : (((ls.take k).map List.length).map Int.ofNat).map vi64 ++ [vi ((m : Nat) : Int)] = (((ls.take (k + 1)).map List.length).map Int.ofNat).map vi64 := by
  rw [take_snoc ls k [] hk, List.map_append, List.map_append, List.map_append, ← hm]; rfl
theorem hex_back2 {bs : List UInt8} {n : Nat} (h : bs.length = n) : Go.Wr.unhexL (Go.Wr.hexL bs) (2 * n / 2) = bs := by
  have := Go.Wr.hex_back bs
  rwa [Go.Wr.hexL_len, h] at this
theorem w_Packs_m (a : Option Addr) (n cap : Nat) (xs : List Value) (ls : List (List UInt8)) (hln : ls.length = n) (a2 : Option Addr) (n2 cap2 : Nat) (bs2 : List UInt8) (hl2 : bs2.length = n2) (hcap2 : n2 ≤ cap2) (hM : 70000 < Go.Wr.total ls) (w : World) (hv : View w a xs) (hs : Sls w xs ls) (hv2 : View w a2 (bs2.map vu8)) :
    Cs Try.prog 5 [(.slice a n cap), (.slice a2 n2 cap2)].toArray w (fun v w1 => v = .bool true ∧ Chg w w1 []) := by
  refine Cs.of (n := 76) (args := [(.slice a n cap), (.slice a2 n2 cap2)]) Try.func5 rfl rfl rfl ?_
  have h_0 := HP.init w
  have h_01 := h_0.oldV (View.arg hv) rfl (by simp [Ent.mut])
  have h_02 := h_01.oldV hs.pin rfl (by simp [Ent.mut])
  have h_00 := h_02.oldV (View.arg hv2) rfl (by simp [Ent.mut])
  have hxl : xs.length = n := hs.len.trans hln
  refine WP.seq ?_
  refine WP.reg ?_
  refine WL.q (Wn.no rfl) rfl rfl (R.assign (v := (.bool false)) rfl) ?_
  refine WL.nil ?_
  refine thn_n ?_
  refine WP.seq ?_
  refine WP.seq ?_
  refine WP.reg ?_
  refine WL.q (Wn.no rfl) rfl rfl (R.move (v := (.slice a n cap)) rfl) ?_
  refine WL.call (al := [(.slice a n cap), (vi 70000)]) Try.call26 rfl rfl (c_Much a n cap xs ls hln 70000 (by omega) _ (viewV (h_00.ok _ (.tail _ (.tail _ (.head _))))) (h_00.ok _ (.tail _ (.head _))).1) rfl ?_
  rintro _ w_2 ⟨rfl, hc_1⟩
  have h_3 := h_00.same hc_1
  refine WL.q (Wn.no rfl) rfl rfl (R.move (v := (.bool true)) (congrArg Value.bool (decide_eq_true hM))) ?_
  refine WL.skip rfl rfl rfl ?_
  refine WL.skip rfl rfl rfl ?_
  refine WL.skip rfl rfl rfl ?_
  refine WL.q (Wn.no rfl) rfl rfl (R.pickT (v := (.bool true)) rfl rfl) ?_
  refine WL.nil ?_
  refine thn_n ?_
  refine WP.condT rfl ?_
  refine WP.seq ?_
  refine WP.reg ?_
  refine WL.call (al := []) Try.call22 rfl rfl (c_known1  _ ) rfl ?_
  rintro _ w_5 ⟨rfl, hc_4⟩
  have h_6 := h_3.same hc_4
  refine WL.q (Wn.no rfl) rfl rfl (R.assign (v := (.bool true)) rfl) ?_
  refine WL.nil ?_
  refine thn_n ?_
  refine WP.ret ?_
  refine thn_r ?_
  refine ret_of Try.results5 (RV.tmp (v := (.bool true)) rfl RV.nil) ?_
  exact ⟨rfl, h_6.chgS⟩

theorem w_Packs_b (a : Option Addr) (n cap : Nat) (xs : List Value) (ls : List (List UInt8)) (hln : ls.length = n) (a2 : Option Addr) (n2 cap2 : Nat) (bs2 : List UInt8) (hl2 : bs2.length = n2) (hcap2 : n2 ≤ cap2) (hM : ¬ 70000 < Go.Wr.total ls) (h : 9000 < n2) (w : World) (hv : View w a xs) (hs : Sls w xs ls) (hv2 : View w a2 (bs2.map vu8)) :
    Cs Try.prog 5 [(.slice a n cap), (.slice a2 n2 cap2)].toArray w (fun v w1 => v = .bool true ∧ Chg w w1 []) := by
  refine Cs.of (n := 76) (args := [(.slice a n cap), (.slice a2 n2 cap2)]) Try.func5 rfl rfl rfl ?_
  have h_0 := HP.init w
  have ht_ls : ls.length + ls.flatten.length ≤ 70000 := Nat.not_lt.1 hM
  have h_01 := h_0.oldV (View.arg hv) rfl (by simp [Ent.mut])
  have h_02 := h_01.oldV hs.pin rfl (by simp [Ent.mut])
  have h_00 := h_02.oldV (View.arg hv2) rfl (by simp [Ent.mut])
  have hxl : xs.length = n := hs.len.trans hln
  refine WP.seq ?_
  refine WP.reg ?_
  refine WL.q (Wn.no rfl) rfl rfl (R.assign (v := (.bool false)) rfl) ?_
  refine WL.nil ?_
  refine thn_n ?_
  refine WP.seq ?_
  refine WP.seq ?_
  refine WP.reg ?_
  refine WL.q (Wn.no rfl) rfl rfl (R.move (v := (.slice a n cap)) rfl) ?_
  refine WL.call (al := [(.slice a n cap), (vi 70000)]) Try.call26 rfl rfl (c_Much a n cap xs ls hln 70000 (by omega) _ (viewV (h_00.ok _ (.tail _ (.tail _ (.head _))))) (h_00.ok _ (.tail _ (.head _))).1) rfl ?_
  rintro _ w_2 ⟨rfl, hc_1⟩
  have h_3 := h_00.same hc_1
  refine WL.q (Wn.no rfl) rfl rfl (R.move (v := (.bool false)) (congrArg Value.bool (decide_eq_false hM))) ?_
  refine WL.want rfl rfl ?_
  refine WL.q (Wn.no rfl) rfl rfl (R.move (v := (.slice a2 n2 cap2)) rfl) ?_
  refine WL.want rfl rfl ?_
  refine WL.q (Wn.no rfl) rfl rfl (R.lenS (a := a2) (m := n2) rfl rfl Try.underlying23) ?_
  refine WL.want rfl rfl ?_
  refine WL.q (Wn.no rfl) rfl rfl (R.bin (v := (.bool (decide ((((n2 : Nat) : Int) : Int) > 9000)))) rfl rfl (bi_gtr (r := decide ((((n2 : Nat) : Int) : Int) > 9000)) rfl)) ?_
  refine WL.q (Wn.no rfl) rfl rfl (R.pickF (v := (.bool (decide ((((n2 : Nat) : Int) : Int) > 9000)))) rfl rfl) ?_
  refine WL.nil ?_
  refine thn_n ?_
  refine WP.condT (congrArg Value.bool (decide_eq_true (by omega))) ?_
  refine WP.seq ?_
  refine WP.reg ?_
  refine WL.call (al := []) Try.call22 rfl rfl (c_known1  _ ) rfl ?_
  rintro _ w_5 ⟨rfl, hc_4⟩
  have h_6 := h_3.same hc_4
  refine WL.q (Wn.no rfl) rfl rfl (R.assign (v := (.bool true)) rfl) ?_
  refine WL.nil ?_
  refine thn_n ?_
  refine WP.ret ?_
  refine thn_r ?_
  refine ret_of Try.results5 (RV.tmp (v := (.bool true)) rfl RV.nil) ?_
  exact ⟨rfl, h_6.chgS⟩

theorem w_Packs_tt (a : Option Addr) (n cap : Nat) (xs : List Value) (ls : List (List UInt8)) (hln : ls.length = n) (a2 : Option Addr) (n2 cap2 : Nat) (bs2 : List UInt8) (hl2 : bs2.length = n2) (hcap2 : n2 ≤ cap2) (hM : ¬ 70000 < Go.Wr.total ls) (h : ¬ 9000 < n2) (hp : Go.Wr.mayPack ls = true) (lr : List (List UInt8)) (hx : Go.Wr.unpk 64 bs2 = some lr) (w : World) (hv : View w a xs) (hs : Sls w xs ls) (hv2 : View w a2 (bs2.map vu8)) :
    Cs Try.prog 5 [(.slice a n cap), (.slice a2 n2 cap2)].toArray w (fun v w1 => v = .bool true ∧ Chg w w1 []) := by
  refine Cs.of (n := 76) (args := [(.slice a n cap), (.slice a2 n2 cap2)]) Try.func5 rfl rfl rfl ?_
  have h_0 := HP.init w
  have ht_ls : ls.length + ls.flatten.length ≤ 70000 := Nat.not_lt.1 hM
  have hlr := Go.Wr.unpk_len hx
  have h_01 := h_0.oldV (View.arg hv) rfl (by simp [Ent.mut])
  have h_02 := h_01.oldV hs.pin rfl (by simp [Ent.mut])
  have h_00 := h_02.oldV (View.arg hv2) rfl (by simp [Ent.mut])
  have hxl : xs.length = n := hs.len.trans hln
  refine WP.seq ?_
  refine WP.reg ?_
  refine WL.q (Wn.no rfl) rfl rfl (R.assign (v := (.bool false)) rfl) ?_
  refine WL.nil ?_
  refine thn_n ?_
  refine WP.seq ?_
  refine WP.seq ?_
  refine WP.reg ?_
  refine WL.q (Wn.no rfl) rfl rfl (R.move (v := (.slice a n cap)) rfl) ?_
  refine WL.call (al := [(.slice a n cap), (vi 70000)]) Try.call26 rfl rfl (c_Much a n cap xs ls hln 70000 (by omega) _ (viewV (h_00.ok _ (.tail _ (.tail _ (.head _))))) (h_00.ok _ (.tail _ (.head _))).1) rfl ?_
  rintro _ w_2 ⟨rfl, hc_1⟩
  have h_3 := h_00.same hc_1
  refine WL.q (Wn.no rfl) rfl rfl (R.move (v := (.bool false)) (congrArg Value.bool (decide_eq_false hM))) ?_
  refine WL.want rfl rfl ?_
  refine WL.q (Wn.no rfl) rfl rfl (R.move (v := (.slice a2 n2 cap2)) rfl) ?_
  refine WL.want rfl rfl ?_
  refine WL.q (Wn.no rfl) rfl rfl (R.lenS (a := a2) (m := n2) rfl rfl Try.underlying23) ?_
  refine WL.want rfl rfl ?_
  refine WL.q (Wn.no rfl) rfl rfl (R.bin (v := (.bool (decide ((((n2 : Nat) : Int) : Int) > 9000)))) rfl rfl (bi_gtr (r := decide ((((n2 : Nat) : Int) : Int) > 9000)) rfl)) ?_
  refine WL.q (Wn.no rfl) rfl rfl (R.pickF (v := (.bool (decide ((((n2 : Nat) : Int) : Int) > 9000)))) rfl rfl) ?_
  refine WL.nil ?_
  refine thn_n ?_
  refine WP.condF (congrArg Value.bool (decide_eq_false (by omega))) ?_
  refine WP.skip ?_
  refine thn_n ?_
  refine WP.seq ?_
  refine WP.reg ?_
  refine WL.q (Wn.no rfl) rfl rfl (R.move (v := (.slice a n cap)) rfl) ?_
  refine WL.call (al := [(.slice a n cap)]) Try.call27 rfl rfl (c_Pack_t a n cap xs ls hln hp _ (viewV (h_3.ok _ (.tail _ (.tail _ (.head _))))) (h_3.ok _ (.tail _ (.head _))).1) rfl ?_
  rintro _ w_6 ⟨a_4, cap_5, rfl, hc_7, ho_8⟩
  have h_9 := h_3.gotRow hc_7 ho_8
  refine WL.q (Wn.no rfl) rfl rfl (R.move (v := (.tuple [(.slice a_4 ((Go.Wr.packL ls).length) cap_5), (vi 0)].toArray)) rfl) ?_
  refine WL.q (Wn.no rfl) rfl rfl (R.extract (l := [(.slice a_4 ((Go.Wr.packL ls).length) cap_5), (vi 0)]) (v := (.slice a_4 ((Go.Wr.packL ls).length) cap_5)) rfl rfl) ?_
  refine WL.q (Wn.no rfl) rfl rfl (R.extract (l := [(.slice a_4 ((Go.Wr.packL ls).length) cap_5), (vi 0)]) (v := (vi 0)) rfl rfl) ?_
  refine WL.q (Wn.no rfl) rfl rfl (R.assign (v := (.slice a_4 ((Go.Wr.packL ls).length) cap_5)) rfl) ?_
  refine WL.q (Wn.no rfl) rfl rfl (R.assign (v := (vi 0)) rfl) ?_
  refine WL.nil ?_
  refine thn_n ?_
  refine WP.seq ?_
  refine WP.seq ?_
  refine WP.reg ?_
  refine WL.q (Wn.no rfl) rfl rfl (R.move (v := (.slice a n cap)) rfl) ?_
  refine WL.call (al := [(.slice a n cap)]) Try.call28 rfl rfl (c_MayPackR_t a n cap xs ls hln (by omega) hp _ (viewV (h_9.ok _ (.tail _ (.tail _ (.tail _ (.head _)))))) (h_9.ok _ (.tail _ (.tail _ (.head _)))).1) rfl ?_
  rintro _ w_11 ⟨rfl, hc_10⟩
  have h_12 := h_9.same hc_10
  refine WL.q (Wn.no rfl) rfl rfl (R.not (b := true) rfl) ?_
  refine WL.nil ?_
  refine thn_n ?_
  refine WP.condF rfl ?_
  refine WP.seq ?_
  refine WP.reg ?_
  refine WL.q (Wn.no rfl) rfl rfl (R.move (v := (.slice a_4 ((Go.Wr.packL ls).length) cap_5)) rfl) ?_
  refine WL.q (Wn.no rfl) rfl rfl (R.move (v := (.slice a n cap)) rfl) ?_
  refine WL.call (al := [(.slice a n cap)]) Try.call29 rfl rfl (c_PackR a n cap xs ls hln hp _ (viewV (h_12.ok _ (.tail _ (.tail _ (.tail _ (.head _)))))) (h_12.ok _ (.tail _ (.tail _ (.head _)))).1) rfl ?_
  rintro _ w_15 ⟨a_13, cap_14, rfl, hc_16, ho_17⟩
  have h_18 := h_12.gotRow hc_16 ho_17
  have hq_19 := ho_17.2.2.1
  refine WL.call (al := [(.slice a_4 ((Go.Wr.packL ls).length) cap_5), (.slice a_13 ((Go.Wr.packL ls).length) cap_14)]) Try.call19 rfl rfl (c_SameR a_4 ((Go.Wr.packL ls).length) cap_5 (Go.Wr.packL ls) (rfl : List.length (Go.Wr.packL ls) = (Go.Wr.packL ls).length) a_13 ((Go.Wr.packL ls).length) cap_14 (Go.Wr.packL ls) (rfl : List.length (Go.Wr.packL ls) = (Go.Wr.packL ls).length) _ (ownView (h_18.ok _ (.tail _ (.head _)))) (ownView (h_18.ok _ (.head _)))) rfl ?_
  rintro _ w_21 ⟨rfl, hc_20⟩
  have h_22 := h_18.same hc_20
  refine WL.q (Wn.no rfl) rfl rfl (R.not (b := true) (congrArg Value.bool (decide_eq_true rfl))) ?_
  refine WL.q (Wn.no rfl) rfl rfl (R.move (v := (.bool false)) rfl) ?_
  refine WL.want rfl rfl ?_
  refine WL.q (Wn.no rfl) rfl rfl (R.move (v := (vi 0)) rfl) ?_
  refine WL.want rfl rfl ?_
  refine WL.call (al := [(vi 0)]) Try.call18 rfl rfl (c_num1 0 (by omega) _ ) rfl ?_
  rintro _ w_24 ⟨rfl, hc_23⟩
  have h_25 := h_22.same hc_23
  refine WL.want rfl rfl ?_
  refine WL.q (Wn.no rfl) rfl rfl (R.bin (v := (.bool false)) rfl rfl (bi_neq (r := false) (by decide))) ?_
  refine WL.q (Wn.no rfl) rfl rfl (R.pickF (v := (.bool false)) rfl rfl) ?_
  refine WL.nil ?_
  refine thn_n ?_
  refine WP.condF rfl ?_
  refine WP.skip ?_
  refine thn_n ?_
  refine WP.seq ?_
  refine WP.reg ?_
  refine WL.q (Wn.no rfl) rfl rfl (R.move (v := (.slice a2 n2 cap2)) rfl) ?_
  refine WL.call (al := [(.slice a2 n2 cap2)]) Try.call30 rfl rfl (c_Unpack_t a2 n2 cap2 bs2 hl2 (by omega) lr hx _ (viewV (h_25.ok _ (.tail _ (.tail _ (.head _)))))) rfl ?_
  rintro _ w_29 ⟨a_26, cap_27, xs_28, rfl, hc_30, hv_31, hs_32, hb_33⟩
  have h_35 := h_25.gotSls hc_30 hv_31 hs_32 hb_33
  refine WL.q (Wn.no rfl) rfl rfl (R.move (v := (.tuple [(.slice a_26 lr.length cap_27), (vi 0)].toArray)) rfl) ?_
  refine WL.q (Wn.no rfl) rfl rfl (R.extract (l := [(.slice a_26 lr.length cap_27), (vi 0)]) (v := (.slice a_26 lr.length cap_27)) rfl rfl) ?_
  refine WL.q (Wn.no rfl) rfl rfl (R.extract (l := [(.slice a_26 lr.length cap_27), (vi 0)]) (v := (vi 0)) rfl rfl) ?_
  refine WL.q (Wn.no rfl) rfl rfl (R.assign (v := (.slice a_26 lr.length cap_27)) rfl) ?_
  refine WL.q (Wn.no rfl) rfl rfl (R.assign (v := (vi 0)) rfl) ?_
  refine WL.nil ?_
  refine thn_n ?_
  refine WP.seq ?_
  refine WP.reg ?_
  refine WL.q (Wn.no rfl) rfl rfl (R.move (v := (.slice a2 n2 cap2)) rfl) ?_
  refine WL.call (al := [(.slice a2 n2 cap2)]) Try.call31 rfl rfl (c_UnpackR_t a2 n2 cap2 bs2 hl2 (by omega) (by omega) lr hx _ (viewV (h_35.ok _ (.tail _ (.tail _ (.tail _ (.tail _ (.head _)))))))) rfl ?_
  rintro _ w_39 ⟨a_36, cap_37, xs_38, rfl, hc_40, hv_41, hs_42, hb_43, hb_44⟩
  have h_45 := h_35.gotSlsIn (.tail _ (.tail _ (.tail _ (.tail _ (.head _))))) hc_40 hv_41 hs_42 hb_43 hb_44
  refine WL.q (Wn.no rfl) rfl rfl (R.move (v := (.tuple [(.slice a_36 lr.length cap_37), (.bool true)].toArray)) rfl) ?_
  refine WL.q (Wn.no rfl) rfl rfl (R.extract (l := [(.slice a_36 lr.length cap_37), (.bool true)]) (v := (.slice a_36 lr.length cap_37)) rfl rfl) ?_
  refine WL.q (Wn.no rfl) rfl rfl (R.extract (l := [(.slice a_36 lr.length cap_37), (.bool true)]) (v := (.bool true)) rfl rfl) ?_
  refine WL.q (Wn.no rfl) rfl rfl (R.assign (v := (.slice a_36 lr.length cap_37)) rfl) ?_
  refine WL.q (Wn.no rfl) rfl rfl (R.assign (v := (.bool true)) rfl) ?_
  refine WL.nil ?_
  refine thn_n ?_
  refine WP.seq ?_
  refine WP.reg ?_
  refine WL.q (Wn.no rfl) rfl rfl (R.move (v := (.slice a_26 lr.length cap_27)) rfl) ?_
  refine WL.q (Wn.no rfl) rfl rfl (R.move (v := (.slice a_36 lr.length cap_37)) rfl) ?_
  refine WL.call (al := [(.slice a_26 lr.length cap_27), (.slice a_36 lr.length cap_37)]) Try.call32 rfl rfl (c_SameLists a_26 lr.length cap_27 xs_28 lr rfl a_36 lr.length cap_37 xs_38 lr rfl (by omega) (by omega) _ (viewV (h_45.ok _ (.tail _ (.tail _ (.tail _ (.head _)))))) (h_45.ok _ (.tail _ (.tail _ (.head _)))).1 (viewV (h_45.ok _ (.tail _ (.head _)))) (h_45.ok _ (.head _)).1) rfl ?_
  rintro _ w_47 ⟨rfl, hc_46⟩
  have h_48 := h_45.same hc_46
  refine WL.q (Wn.no rfl) rfl rfl (R.move (v := (.bool true)) (congrArg Value.bool (decide_eq_true rfl))) ?_
  refine WL.want rfl rfl ?_
  refine WL.q (Wn.no rfl) rfl rfl (R.move (v := (vi 0)) rfl) ?_
  refine WL.want rfl rfl ?_
  refine WL.call (al := [(vi 0)]) Try.call18 rfl rfl (c_num1 0 (by omega) _ ) rfl ?_
  rintro _ w_50 ⟨rfl, hc_49⟩
  have h_51 := h_48.same hc_49
  refine WL.want rfl rfl ?_
  refine WL.q (Wn.no rfl) rfl rfl (R.bin (v := (.bool true)) rfl rfl (bi_eql (r := true) (by decide))) ?_
  refine WL.want rfl rfl ?_
  refine WL.q (Wn.no rfl) rfl rfl (R.move (v := (.bool true)) rfl) ?_
  refine WL.want rfl rfl ?_
  refine WL.q (Wn.no rfl) rfl rfl (R.eqB (a := true) (b := true) (c := true) rfl rfl Try.underlying4 rfl) ?_
  refine WL.q (Wn.no rfl) rfl rfl (R.pickT (v := (.bool true)) rfl rfl) ?_
  refine WL.q (Wn.no rfl) rfl rfl (R.move (v := (.bool true)) rfl) ?_
  refine WL.want rfl rfl ?_
  refine WL.q (Wn.no rfl) rfl rfl (R.move (v := (.bool true)) rfl) ?_
  refine WL.want rfl rfl ?_
  refine WL.q (Wn.no rfl) rfl rfl (R.move (v := (.bool true)) rfl) ?_
  refine WL.skip rfl rfl rfl ?_
  refine WL.skip rfl rfl rfl ?_
  refine WL.skip rfl rfl rfl ?_
  refine WL.want rfl rfl ?_
  refine WL.q (Wn.no rfl) rfl rfl (R.pickT (v := (.bool true)) rfl rfl) ?_
  refine WL.q (Wn.no rfl) rfl rfl (R.pickT (v := (.bool true)) rfl rfl) ?_
  refine WL.q (Wn.no rfl) rfl rfl (R.move (v := (.bool true)) rfl) ?_
  refine WL.want rfl rfl ?_
  refine WL.call (al := []) Try.call22 rfl rfl (c_known1  _ ) rfl ?_
  rintro _ w_53 ⟨rfl, hc_52⟩
  have h_54 := h_51.same hc_52
  refine WL.q (Wn.no rfl) rfl rfl (R.pickT (v := (.bool true)) rfl rfl) ?_
  refine WL.q (Wn.no rfl) rfl rfl (R.assign (v := (.bool true)) rfl) ?_
  refine WL.nil ?_
  refine thn_n ?_
  refine WP.ret ?_
  refine ret_of Try.results5 (RV.tmp (v := (.bool true)) rfl RV.nil) ?_
  exact ⟨rfl, h_54.chgS⟩

theorem w_Packs_tf (a : Option Addr) (n cap : Nat) (xs : List Value) (ls : List (List UInt8)) (hln : ls.length = n) (a2 : Option Addr) (n2 cap2 : Nat) (bs2 : List UInt8) (hl2 : bs2.length = n2) (hcap2 : n2 ≤ cap2) (hM : ¬ 70000 < Go.Wr.total ls) (h : ¬ 9000 < n2) (hp : Go.Wr.mayPack ls = true) (hx : Go.Wr.unpk 64 bs2 = none) (w : World) (hv : View w a xs) (hs : Sls w xs ls) (hv2 : View w a2 (bs2.map vu8)) :
    Cs Try.prog 5 [(.slice a n cap), (.slice a2 n2 cap2)].toArray w (fun v w1 => v = .bool true ∧ Chg w w1 []) := by
  refine Cs.of (n := 76) (args := [(.slice a n cap), (.slice a2 n2 cap2)]) Try.func5 rfl rfl rfl ?_
  have h_0 := HP.init w
  have ht_ls : ls.length + ls.flatten.length ≤ 70000 := Nat.not_lt.1 hM
  have h_01 := h_0.oldV (View.arg hv) rfl (by simp [Ent.mut])
  have h_02 := h_01.oldV hs.pin rfl (by simp [Ent.mut])
  have h_00 := h_02.oldV (View.arg hv2) rfl (by simp [Ent.mut])
  have hxl : xs.length = n := hs.len.trans hln
  refine WP.seq ?_
  refine WP.reg ?_
  refine WL.q (Wn.no rfl) rfl rfl (R.assign (v := (.bool false)) rfl) ?_
  refine WL.nil ?_
  refine thn_n ?_
  refine WP.seq ?_
  refine WP.seq ?_
  refine WP.reg ?_
  refine WL.q (Wn.no rfl) rfl rfl (R.move (v := (.slice a n cap)) rfl) ?_
  refine WL.call (al := [(.slice a n cap), (vi 70000)]) Try.call26 rfl rfl (c_Much a n cap xs ls hln 70000 (by omega) _ (viewV (h_00.ok _ (.tail _ (.tail _ (.head _))))) (h_00.ok _ (.tail _ (.head _))).1) rfl ?_
  rintro _ w_2 ⟨rfl, hc_1⟩
  have h_3 := h_00.same hc_1
  refine WL.q (Wn.no rfl) rfl rfl (R.move (v := (.bool false)) (congrArg Value.bool (decide_eq_false hM))) ?_
  refine WL.want rfl rfl ?_
  refine WL.q (Wn.no rfl) rfl rfl (R.move (v := (.slice a2 n2 cap2)) rfl) ?_
  refine WL.want rfl rfl ?_
  refine WL.q (Wn.no rfl) rfl rfl (R.lenS (a := a2) (m := n2) rfl rfl Try.underlying23) ?_
  refine WL.want rfl rfl ?_
  refine WL.q (Wn.no rfl) rfl rfl (R.bin (v := (.bool (decide ((((n2 : Nat) : Int) : Int) > 9000)))) rfl rfl (bi_gtr (r := decide ((((n2 : Nat) : Int) : Int) > 9000)) rfl)) ?_
  refine WL.q (Wn.no rfl) rfl rfl (R.pickF (v := (.bool (decide ((((n2 : Nat) : Int) : Int) > 9000)))) rfl rfl) ?_
  refine WL.nil ?_
  refine thn_n ?_
  refine WP.condF (congrArg Value.bool (decide_eq_false (by omega))) ?_
  refine WP.skip ?_
  refine thn_n ?_
  refine WP.seq ?_
  refine WP.reg ?_
  refine WL.q (Wn.no rfl) rfl rfl (R.move (v := (.slice a n cap)) rfl) ?_
  refine WL.call (al := [(.slice a n cap)]) Try.call27 rfl rfl (c_Pack_t a n cap xs ls hln hp _ (viewV (h_3.ok _ (.tail _ (.tail _ (.head _))))) (h_3.ok _ (.tail _ (.head _))).1) rfl ?_
  rintro _ w_6 ⟨a_4, cap_5, rfl, hc_7, ho_8⟩
  have h_9 := h_3.gotRow hc_7 ho_8
  refine WL.q (Wn.no rfl) rfl rfl (R.move (v := (.tuple [(.slice a_4 ((Go.Wr.packL ls).length) cap_5), (vi 0)].toArray)) rfl) ?_
  refine WL.q (Wn.no rfl) rfl rfl (R.extract (l := [(.slice a_4 ((Go.Wr.packL ls).length) cap_5), (vi 0)]) (v := (.slice a_4 ((Go.Wr.packL ls).length) cap_5)) rfl rfl) ?_
  refine WL.q (Wn.no rfl) rfl rfl (R.extract (l := [(.slice a_4 ((Go.Wr.packL ls).length) cap_5), (vi 0)]) (v := (vi 0)) rfl rfl) ?_
  refine WL.q (Wn.no rfl) rfl rfl (R.assign (v := (.slice a_4 ((Go.Wr.packL ls).length) cap_5)) rfl) ?_
  refine WL.q (Wn.no rfl) rfl rfl (R.assign (v := (vi 0)) rfl) ?_
  refine WL.nil ?_
  refine thn_n ?_
  refine WP.seq ?_
  refine WP.seq ?_
  refine WP.reg ?_
  refine WL.q (Wn.no rfl) rfl rfl (R.move (v := (.slice a n cap)) rfl) ?_
  refine WL.call (al := [(.slice a n cap)]) Try.call28 rfl rfl (c_MayPackR_t a n cap xs ls hln (by omega) hp _ (viewV (h_9.ok _ (.tail _ (.tail _ (.tail _ (.head _)))))) (h_9.ok _ (.tail _ (.tail _ (.head _)))).1) rfl ?_
  rintro _ w_11 ⟨rfl, hc_10⟩
  have h_12 := h_9.same hc_10
  refine WL.q (Wn.no rfl) rfl rfl (R.not (b := true) rfl) ?_
  refine WL.nil ?_
  refine thn_n ?_
  refine WP.condF rfl ?_
  refine WP.seq ?_
  refine WP.reg ?_
  refine WL.q (Wn.no rfl) rfl rfl (R.move (v := (.slice a_4 ((Go.Wr.packL ls).length) cap_5)) rfl) ?_
  refine WL.q (Wn.no rfl) rfl rfl (R.move (v := (.slice a n cap)) rfl) ?_
  refine WL.call (al := [(.slice a n cap)]) Try.call29 rfl rfl (c_PackR a n cap xs ls hln hp _ (viewV (h_12.ok _ (.tail _ (.tail _ (.tail _ (.head _)))))) (h_12.ok _ (.tail _ (.tail _ (.head _)))).1) rfl ?_
  rintro _ w_15 ⟨a_13, cap_14, rfl, hc_16, ho_17⟩
  have h_18 := h_12.gotRow hc_16 ho_17
  have hq_19 := ho_17.2.2.1
  refine WL.call (al := [(.slice a_4 ((Go.Wr.packL ls).length) cap_5), (.slice a_13 ((Go.Wr.packL ls).length) cap_14)]) Try.call19 rfl rfl (c_SameR a_4 ((Go.Wr.packL ls).length) cap_5 (Go.Wr.packL ls) (rfl : List.length (Go.Wr.packL ls) = (Go.Wr.packL ls).length) a_13 ((Go.Wr.packL ls).length) cap_14 (Go.Wr.packL ls) (rfl : List.length (Go.Wr.packL ls) = (Go.Wr.packL ls).length) _ (ownView (h_18.ok _ (.tail _ (.head _)))) (ownView (h_18.ok _ (.head _)))) rfl ?_
  rintro _ w_21 ⟨rfl, hc_20⟩
  have h_22 := h_18.same hc_20
  refine WL.q (Wn.no rfl) rfl rfl (R.not (b := true) (congrArg Value.bool (decide_eq_true rfl))) ?_
  refine WL.q (Wn.no rfl) rfl rfl (R.move (v := (.bool false)) rfl) ?_
  refine WL.want rfl rfl ?_
  refine WL.q (Wn.no rfl) rfl rfl (R.move (v := (vi 0)) rfl) ?_
  refine WL.want rfl rfl ?_
  refine WL.call (al := [(vi 0)]) Try.call18 rfl rfl (c_num1 0 (by omega) _ ) rfl ?_
  rintro _ w_24 ⟨rfl, hc_23⟩
  have h_25 := h_22.same hc_23
  refine WL.want rfl rfl ?_
  refine WL.q (Wn.no rfl) rfl rfl (R.bin (v := (.bool false)) rfl rfl (bi_neq (r := false) (by decide))) ?_
  refine WL.q (Wn.no rfl) rfl rfl (R.pickF (v := (.bool false)) rfl rfl) ?_
  refine WL.nil ?_
  refine thn_n ?_
  refine WP.condF rfl ?_
  refine WP.skip ?_
  refine thn_n ?_
  refine WP.seq ?_
  refine WP.reg ?_
  refine WL.q (Wn.no rfl) rfl rfl (R.move (v := (.slice a2 n2 cap2)) rfl) ?_
  refine WL.call (al := [(.slice a2 n2 cap2)]) Try.call30 rfl rfl (c_Unpack_f a2 n2 cap2 bs2 hl2 (by omega) hx _ (viewV (h_25.ok _ (.tail _ (.tail _ (.head _)))))) rfl ?_
  rintro _ w_27 ⟨rfl, hc_26⟩
  have h_28 := h_25.same hc_26
  refine WL.q (Wn.no rfl) rfl rfl (R.move (v := (.tuple [(.slice none 0 0), (vi 4)].toArray)) rfl) ?_
  refine WL.q (Wn.no rfl) rfl rfl (R.extract (l := [(.slice none 0 0), (vi 4)]) (v := (.slice none 0 0)) rfl rfl) ?_
  refine WL.q (Wn.no rfl) rfl rfl (R.extract (l := [(.slice none 0 0), (vi 4)]) (v := (vi 4)) rfl rfl) ?_
  refine WL.q (Wn.no rfl) rfl rfl (R.assign (v := (.slice none 0 0)) rfl) ?_
  refine WL.q (Wn.no rfl) rfl rfl (R.assign (v := (vi 4)) rfl) ?_
  refine WL.nil ?_
  refine thn_n ?_
  refine WP.seq ?_
  refine WP.reg ?_
  refine WL.q (Wn.no rfl) rfl rfl (R.move (v := (.slice a2 n2 cap2)) rfl) ?_
  refine WL.call (al := [(.slice a2 n2 cap2)]) Try.call31 rfl rfl (c_UnpackR_f a2 n2 cap2 bs2 hl2 (by omega) (by omega) hx _ (viewV (h_28.ok _ (.tail _ (.tail _ (.head _)))))) rfl ?_
  rintro _ w_30 ⟨rfl, hc_29⟩
  have h_31 := h_28.same hc_29
  refine WL.q (Wn.no rfl) rfl rfl (R.move (v := (.tuple [(.slice none 0 0), (.bool false)].toArray)) rfl) ?_
  refine WL.q (Wn.no rfl) rfl rfl (R.extract (l := [(.slice none 0 0), (.bool false)]) (v := (.slice none 0 0)) rfl rfl) ?_
  refine WL.q (Wn.no rfl) rfl rfl (R.extract (l := [(.slice none 0 0), (.bool false)]) (v := (.bool false)) rfl rfl) ?_
  refine WL.q (Wn.no rfl) rfl rfl (R.assign (v := (.slice none 0 0)) rfl) ?_
  refine WL.q (Wn.no rfl) rfl rfl (R.assign (v := (.bool false)) rfl) ?_
  refine WL.nil ?_
  refine thn_n ?_
  refine WP.seq ?_
  refine WP.reg ?_
  refine WL.q (Wn.no rfl) rfl rfl (R.move (v := (.slice none 0 0)) rfl) ?_
  refine WL.q (Wn.no rfl) rfl rfl (R.move (v := (.slice none 0 0)) rfl) ?_
  refine WL.call (al := [(.slice none 0 0), (.slice none 0 0)]) Try.call32 rfl rfl (c_SameLists none 0 0 [] ([] : List (List UInt8)) rfl none 0 0 [] ([] : List (List UInt8)) rfl (by omega) (by omega) _ (View.nil _ _) Sls.nil (View.nil _ _) Sls.nil) rfl ?_
  rintro _ w_33 ⟨rfl, hc_32⟩
  have h_34 := h_31.same hc_32
  refine WL.q (Wn.no rfl) rfl rfl (R.move (v := (.bool true)) (congrArg Value.bool (decide_eq_true rfl))) ?_
  refine WL.want rfl rfl ?_
  refine WL.q (Wn.no rfl) rfl rfl (R.move (v := (vi 4)) rfl) ?_
  refine WL.want rfl rfl ?_
  refine WL.call (al := [(vi 4)]) Try.call18 rfl rfl (c_num1 4 (by omega) _ ) rfl ?_
  rintro _ w_36 ⟨rfl, hc_35⟩
  have h_37 := h_34.same hc_35
  refine WL.want rfl rfl ?_
  refine WL.q (Wn.no rfl) rfl rfl (R.bin (v := (.bool false)) rfl rfl (bi_eql (r := false) (by decide))) ?_
  refine WL.want rfl rfl ?_
  refine WL.q (Wn.no rfl) rfl rfl (R.move (v := (.bool false)) rfl) ?_
  refine WL.want rfl rfl ?_
  refine WL.q (Wn.no rfl) rfl rfl (R.eqB (a := false) (b := false) (c := true) rfl rfl Try.underlying4 rfl) ?_
  refine WL.q (Wn.no rfl) rfl rfl (R.pickT (v := (.bool true)) rfl rfl) ?_
  refine WL.q (Wn.no rfl) rfl rfl (R.move (v := (.bool true)) rfl) ?_
  refine WL.want rfl rfl ?_
  refine WL.q (Wn.no rfl) rfl rfl (R.move (v := (.bool false)) rfl) ?_
  refine WL.want rfl rfl ?_
  refine WL.q (Wn.no rfl) rfl rfl (R.move (v := (.bool false)) rfl) ?_
  refine WL.want rfl rfl ?_
  refine WL.q (Wn.no rfl) rfl rfl (R.move (v := (vi 4)) rfl) ?_
  refine WL.want rfl rfl ?_
  refine WL.call (al := [(vi 4)]) Try.call18 rfl rfl (c_num1 4 (by omega) _ ) rfl ?_
  rintro _ w_39 ⟨rfl, hc_38⟩
  have h_40 := h_37.same hc_38
  refine WL.want rfl rfl ?_
  refine WL.q (Wn.no rfl) rfl rfl (R.bin (v := (.bool true)) rfl rfl (bi_eql (r := true) (by decide))) ?_
  refine WL.want rfl rfl ?_
  refine WL.q (Wn.no rfl) rfl rfl (R.pickF (v := (.bool true)) rfl rfl) ?_
  refine WL.q (Wn.no rfl) rfl rfl (R.pickT (v := (.bool true)) rfl rfl) ?_
  refine WL.q (Wn.no rfl) rfl rfl (R.move (v := (.bool true)) rfl) ?_
  refine WL.want rfl rfl ?_
  refine WL.call (al := []) Try.call22 rfl rfl (c_known1  _ ) rfl ?_
  rintro _ w_42 ⟨rfl, hc_41⟩
  have h_43 := h_40.same hc_41
  refine WL.q (Wn.no rfl) rfl rfl (R.pickT (v := (.bool true)) rfl rfl) ?_
  refine WL.q (Wn.no rfl) rfl rfl (R.assign (v := (.bool true)) rfl) ?_
  refine WL.nil ?_
  refine thn_n ?_
  refine WP.ret ?_
  refine ret_of Try.results5 (RV.tmp (v := (.bool true)) rfl RV.nil) ?_
  exact ⟨rfl, h_43.chgS⟩

theorem w_Packs_ft (a : Option Addr) (n cap : Nat) (xs : List Value) (ls : List (List UInt8)) (hln : ls.length = n) (a2 : Option Addr) (n2 cap2 : Nat) (bs2 : List UInt8) (hl2 : bs2.length = n2) (hcap2 : n2 ≤ cap2) (hM : ¬ 70000 < Go.Wr.total ls) (h : ¬ 9000 < n2) (hp : Go.Wr.mayPack ls = false) (lr : List (List UInt8)) (hx : Go.Wr.unpk 64 bs2 = some lr) (w : World) (hv : View w a xs) (hs : Sls w xs ls) (hv2 : View w a2 (bs2.map vu8)) :
    Cs Try.prog 5 [(.slice a n cap), (.slice a2 n2 cap2)].toArray w (fun v w1 => v = .bool true ∧ Chg w w1 []) := by
  refine Cs.of (n := 76) (args := [(.slice a n cap), (.slice a2 n2 cap2)]) Try.func5 rfl rfl rfl ?_
  have h_0 := HP.init w
  have ht_ls : ls.length + ls.flatten.length ≤ 70000 := Nat.not_lt.1 hM
  have hlr := Go.Wr.unpk_len hx
  have h_01 := h_0.oldV (View.arg hv) rfl (by simp [Ent.mut])
  have h_02 := h_01.oldV hs.pin rfl (by simp [Ent.mut])
  have h_00 := h_02.oldV (View.arg hv2) rfl (by simp [Ent.mut])
  have hxl : xs.length = n := hs.len.trans hln
  refine WP.seq ?_
  refine WP.reg ?_
  refine WL.q (Wn.no rfl) rfl rfl (R.assign (v := (.bool false)) rfl) ?_
  refine WL.nil ?_
  refine thn_n ?_
  refine WP.seq ?_
  refine WP.seq ?_
  refine WP.reg ?_
  refine WL.q (Wn.no rfl) rfl rfl (R.move (v := (.slice a n cap)) rfl) ?_
  refine WL.call (al := [(.slice a n cap), (vi 70000)]) Try.call26 rfl rfl (c_Much a n cap xs ls hln 70000 (by omega) _ (viewV (h_00.ok _ (.tail _ (.tail _ (.head _))))) (h_00.ok _ (.tail _ (.head _))).1) rfl ?_
  rintro _ w_2 ⟨rfl, hc_1⟩
  have h_3 := h_00.same hc_1
  refine WL.q (Wn.no rfl) rfl rfl (R.move (v := (.bool false)) (congrArg Value.bool (decide_eq_false hM))) ?_
  refine WL.want rfl rfl ?_
  refine WL.q (Wn.no rfl) rfl rfl (R.move (v := (.slice a2 n2 cap2)) rfl) ?_
  refine WL.want rfl rfl ?_
  refine WL.q (Wn.no rfl) rfl rfl (R.lenS (a := a2) (m := n2) rfl rfl Try.underlying23) ?_
  refine WL.want rfl rfl ?_
  refine WL.q (Wn.no rfl) rfl rfl (R.bin (v := (.bool (decide ((((n2 : Nat) : Int) : Int) > 9000)))) rfl rfl (bi_gtr (r := decide ((((n2 : Nat) : Int) : Int) > 9000)) rfl)) ?_
  refine WL.q (Wn.no rfl) rfl rfl (R.pickF (v := (.bool (decide ((((n2 : Nat) : Int) : Int) > 9000)))) rfl rfl) ?_
  refine WL.nil ?_
  refine thn_n ?_
  refine WP.condF (congrArg Value.bool (decide_eq_false (by omega))) ?_
  refine WP.skip ?_
  refine thn_n ?_
  refine WP.seq ?_
  refine WP.reg ?_
  refine WL.q (Wn.no rfl) rfl rfl (R.move (v := (.slice a n cap)) rfl) ?_
  refine WL.call (al := [(.slice a n cap)]) Try.call27 rfl rfl (c_Pack_f a n cap xs ls hln hp _ (viewV (h_3.ok _ (.tail _ (.tail _ (.head _))))) (h_3.ok _ (.tail _ (.head _))).1) rfl ?_
  rintro _ w_5 ⟨rfl, hc_4⟩
  have h_6 := h_3.same hc_4
  refine WL.q (Wn.no rfl) rfl rfl (R.move (v := (.tuple [(.slice none 0 0), (vi 2)].toArray)) rfl) ?_
  refine WL.q (Wn.no rfl) rfl rfl (R.extract (l := [(.slice none 0 0), (vi 2)]) (v := (.slice none 0 0)) rfl rfl) ?_
  refine WL.q (Wn.no rfl) rfl rfl (R.extract (l := [(.slice none 0 0), (vi 2)]) (v := (vi 2)) rfl rfl) ?_
  refine WL.q (Wn.no rfl) rfl rfl (R.assign (v := (.slice none 0 0)) rfl) ?_
  refine WL.q (Wn.no rfl) rfl rfl (R.assign (v := (vi 2)) rfl) ?_
  refine WL.nil ?_
  refine thn_n ?_
  refine WP.seq ?_
  refine WP.seq ?_
  refine WP.reg ?_
  refine WL.q (Wn.no rfl) rfl rfl (R.move (v := (.slice a n cap)) rfl) ?_
  refine WL.call (al := [(.slice a n cap)]) Try.call28 rfl rfl (c_MayPackR_f a n cap xs ls hln (by omega) hp _ (viewV (h_6.ok _ (.tail _ (.tail _ (.head _))))) (h_6.ok _ (.tail _ (.head _))).1) rfl ?_
  rintro _ w_8 ⟨rfl, hc_7⟩
  have h_9 := h_6.same hc_7
  refine WL.q (Wn.no rfl) rfl rfl (R.not (b := false) rfl) ?_
  refine WL.nil ?_
  refine thn_n ?_
  refine WP.condT rfl ?_
  refine WP.seq ?_
  refine WP.reg ?_
  refine WL.q (Wn.no rfl) rfl rfl (R.move (v := (.slice none 0 0)) rfl) ?_
  refine WL.q (Wn.no rfl) rfl rfl (R.lenS (a := none) (m := 0) rfl rfl Try.underlying23) ?_
  refine WL.q (Wn.no rfl) rfl rfl (R.bin (v := (.bool false)) rfl rfl (bi_neq (r := false) (by decide))) ?_
  refine WL.q (Wn.no rfl) rfl rfl (R.move (v := (.bool false)) rfl) ?_
  refine WL.want rfl rfl ?_
  refine WL.q (Wn.no rfl) rfl rfl (R.move (v := (vi 2)) rfl) ?_
  refine WL.want rfl rfl ?_
  refine WL.call (al := [(vi 2)]) Try.call18 rfl rfl (c_num1 2 (by omega) _ ) rfl ?_
  rintro _ w_11 ⟨rfl, hc_10⟩
  have h_12 := h_9.same hc_10
  refine WL.want rfl rfl ?_
  refine WL.q (Wn.no rfl) rfl rfl (R.bin (v := (.bool false)) rfl rfl (bi_neq (r := false) (by decide))) ?_
  refine WL.q (Wn.no rfl) rfl rfl (R.pickF (v := (.bool false)) rfl rfl) ?_
  refine WL.nil ?_
  refine thn_n ?_
  refine WP.condF rfl ?_
  refine WP.skip ?_
  refine thn_n ?_
  refine WP.seq ?_
  refine WP.reg ?_
  refine WL.q (Wn.no rfl) rfl rfl (R.move (v := (.slice a2 n2 cap2)) rfl) ?_
  refine WL.call (al := [(.slice a2 n2 cap2)]) Try.call30 rfl rfl (c_Unpack_t a2 n2 cap2 bs2 hl2 (by omega) lr hx _ (viewV (h_12.ok _ (.head _)))) rfl ?_
  rintro _ w_16 ⟨a_13, cap_14, xs_15, rfl, hc_17, hv_18, hs_19, hb_20⟩
  have h_22 := h_12.gotSls hc_17 hv_18 hs_19 hb_20
  refine WL.q (Wn.no rfl) rfl rfl (R.move (v := (.tuple [(.slice a_13 lr.length cap_14), (vi 0)].toArray)) rfl) ?_
  refine WL.q (Wn.no rfl) rfl rfl (R.extract (l := [(.slice a_13 lr.length cap_14), (vi 0)]) (v := (.slice a_13 lr.length cap_14)) rfl rfl) ?_
  refine WL.q (Wn.no rfl) rfl rfl (R.extract (l := [(.slice a_13 lr.length cap_14), (vi 0)]) (v := (vi 0)) rfl rfl) ?_
  refine WL.q (Wn.no rfl) rfl rfl (R.assign (v := (.slice a_13 lr.length cap_14)) rfl) ?_
  refine WL.q (Wn.no rfl) rfl rfl (R.assign (v := (vi 0)) rfl) ?_
  refine WL.nil ?_
  refine thn_n ?_
  refine WP.seq ?_
  refine WP.reg ?_
  refine WL.q (Wn.no rfl) rfl rfl (R.move (v := (.slice a2 n2 cap2)) rfl) ?_
  refine WL.call (al := [(.slice a2 n2 cap2)]) Try.call31 rfl rfl (c_UnpackR_t a2 n2 cap2 bs2 hl2 (by omega) (by omega) lr hx _ (viewV (h_22.ok _ (.tail _ (.tail _ (.head _)))))) rfl ?_
  rintro _ w_26 ⟨a_23, cap_24, xs_25, rfl, hc_27, hv_28, hs_29, hb_30, hb_31⟩
  have h_32 := h_22.gotSlsIn (.tail _ (.tail _ (.head _))) hc_27 hv_28 hs_29 hb_30 hb_31
  refine WL.q (Wn.no rfl) rfl rfl (R.move (v := (.tuple [(.slice a_23 lr.length cap_24), (.bool true)].toArray)) rfl) ?_
  refine WL.q (Wn.no rfl) rfl rfl (R.extract (l := [(.slice a_23 lr.length cap_24), (.bool true)]) (v := (.slice a_23 lr.length cap_24)) rfl rfl) ?_
  refine WL.q (Wn.no rfl) rfl rfl (R.extract (l := [(.slice a_23 lr.length cap_24), (.bool true)]) (v := (.bool true)) rfl rfl) ?_
  refine WL.q (Wn.no rfl) rfl rfl (R.assign (v := (.slice a_23 lr.length cap_24)) rfl) ?_
  refine WL.q (Wn.no rfl) rfl rfl (R.assign (v := (.bool true)) rfl) ?_
  refine WL.nil ?_
  refine thn_n ?_
  refine WP.seq ?_
  refine WP.reg ?_
  refine WL.q (Wn.no rfl) rfl rfl (R.move (v := (.slice a_13 lr.length cap_14)) rfl) ?_
  refine WL.q (Wn.no rfl) rfl rfl (R.move (v := (.slice a_23 lr.length cap_24)) rfl) ?_
  refine WL.call (al := [(.slice a_13 lr.length cap_14), (.slice a_23 lr.length cap_24)]) Try.call32 rfl rfl (c_SameLists a_13 lr.length cap_14 xs_15 lr rfl a_23 lr.length cap_24 xs_25 lr rfl (by omega) (by omega) _ (viewV (h_32.ok _ (.tail _ (.tail _ (.tail _ (.head _)))))) (h_32.ok _ (.tail _ (.tail _ (.head _)))).1 (viewV (h_32.ok _ (.tail _ (.head _)))) (h_32.ok _ (.head _)).1) rfl ?_
  rintro _ w_34 ⟨rfl, hc_33⟩
  have h_35 := h_32.same hc_33
  refine WL.q (Wn.no rfl) rfl rfl (R.move (v := (.bool true)) (congrArg Value.bool (decide_eq_true rfl))) ?_
  refine WL.want rfl rfl ?_
  refine WL.q (Wn.no rfl) rfl rfl (R.move (v := (vi 0)) rfl) ?_
  refine WL.want rfl rfl ?_
  refine WL.call (al := [(vi 0)]) Try.call18 rfl rfl (c_num1 0 (by omega) _ ) rfl ?_
  rintro _ w_37 ⟨rfl, hc_36⟩
  have h_38 := h_35.same hc_36
  refine WL.want rfl rfl ?_
  refine WL.q (Wn.no rfl) rfl rfl (R.bin (v := (.bool true)) rfl rfl (bi_eql (r := true) (by decide))) ?_
  refine WL.want rfl rfl ?_
  refine WL.q (Wn.no rfl) rfl rfl (R.move (v := (.bool true)) rfl) ?_
  refine WL.want rfl rfl ?_
  refine WL.q (Wn.no rfl) rfl rfl (R.eqB (a := true) (b := true) (c := true) rfl rfl Try.underlying4 rfl) ?_
  refine WL.q (Wn.no rfl) rfl rfl (R.pickT (v := (.bool true)) rfl rfl) ?_
  refine WL.q (Wn.no rfl) rfl rfl (R.move (v := (.bool true)) rfl) ?_
  refine WL.want rfl rfl ?_
  refine WL.q (Wn.no rfl) rfl rfl (R.move (v := (.bool true)) rfl) ?_
  refine WL.want rfl rfl ?_
  refine WL.q (Wn.no rfl) rfl rfl (R.move (v := (.bool true)) rfl) ?_
  refine WL.skip rfl rfl rfl ?_
  refine WL.skip rfl rfl rfl ?_
  refine WL.skip rfl rfl rfl ?_
  refine WL.want rfl rfl ?_
  refine WL.q (Wn.no rfl) rfl rfl (R.pickT (v := (.bool true)) rfl rfl) ?_
  refine WL.q (Wn.no rfl) rfl rfl (R.pickT (v := (.bool true)) rfl rfl) ?_
  refine WL.q (Wn.no rfl) rfl rfl (R.move (v := (.bool true)) rfl) ?_
  refine WL.want rfl rfl ?_
  refine WL.call (al := []) Try.call22 rfl rfl (c_known1  _ ) rfl ?_
  rintro _ w_40 ⟨rfl, hc_39⟩
  have h_41 := h_38.same hc_39
  refine WL.q (Wn.no rfl) rfl rfl (R.pickT (v := (.bool true)) rfl rfl) ?_
  refine WL.q (Wn.no rfl) rfl rfl (R.assign (v := (.bool true)) rfl) ?_
  refine WL.nil ?_
  refine thn_n ?_
  refine WP.ret ?_
  refine ret_of Try.results5 (RV.tmp (v := (.bool true)) rfl RV.nil) ?_
  exact ⟨rfl, h_41.chgS⟩

theorem w_Packs_ff (a : Option Addr) (n cap : Nat) (xs : List Value) (ls : List (List UInt8)) (hln : ls.length = n) (a2 : Option Addr) (n2 cap2 : Nat) (bs2 : List UInt8) (hl2 : bs2.length = n2) (hcap2 : n2 ≤ cap2) (hM : ¬ 70000 < Go.Wr.total ls) (h : ¬ 9000 < n2) (hp : Go.Wr.mayPack ls = false) (hx : Go.Wr.unpk 64 bs2 = none) (w : World) (hv : View w a xs) (hs : Sls w xs ls) (hv2 : View w a2 (bs2.map vu8)) :
    Cs Try.prog 5 [(.slice a n cap), (.slice a2 n2 cap2)].toArray w (fun v w1 => v = .bool true ∧ Chg w w1 []) := by
  refine Cs.of (n := 76) (args := [(.slice a n cap), (.slice a2 n2 cap2)]) Try.func5 rfl rfl rfl ?_
  have h_0 := HP.init w
  have ht_ls : ls.length + ls.flatten.length ≤ 70000 := Nat.not_lt.1 hM
  have h_01 := h_0.oldV (View.arg hv) rfl (by simp [Ent.mut])
  have h_02 := h_01.oldV hs.pin rfl (by simp [Ent.mut])
  have h_00 := h_02.oldV (View.arg hv2) rfl (by simp [Ent.mut])
  have hxl : xs.length = n := hs.len.trans hln
  refine WP.seq ?_
  refine WP.reg ?_
  refine WL.q (Wn.no rfl) rfl rfl (R.assign (v := (.bool false)) rfl) ?_
  refine WL.nil ?_
  refine thn_n ?_
  refine WP.seq ?_
  refine WP.seq ?_
  refine WP.reg ?_
  refine WL.q (Wn.no rfl) rfl rfl (R.move (v := (.slice a n cap)) rfl) ?_
  refine WL.call (al := [(.slice a n cap), (vi 70000)]) Try.call26 rfl rfl (c_Much a n cap xs ls hln 70000 (by omega) _ (viewV (h_00.ok _ (.tail _ (.tail _ (.head _))))) (h_00.ok _ (.tail _ (.head _))).1) rfl ?_
  rintro _ w_2 ⟨rfl, hc_1⟩
  have h_3 := h_00.same hc_1
  refine WL.q (Wn.no rfl) rfl rfl (R.move (v := (.bool false)) (congrArg Value.bool (decide_eq_false hM))) ?_
  refine WL.want rfl rfl ?_
  refine WL.q (Wn.no rfl) rfl rfl (R.move (v := (.slice a2 n2 cap2)) rfl) ?_
  refine WL.want rfl rfl ?_
  refine WL.q (Wn.no rfl) rfl rfl (R.lenS (a := a2) (m := n2) rfl rfl Try.underlying23) ?_
  refine WL.want rfl rfl ?_
  refine WL.q (Wn.no rfl) rfl rfl (R.bin (v := (.bool (decide ((((n2 : Nat) : Int) : Int) > 9000)))) rfl rfl (bi_gtr (r := decide ((((n2 : Nat) : Int) : Int) > 9000)) rfl)) ?_
  refine WL.q (Wn.no rfl) rfl rfl (R.pickF (v := (.bool (decide ((((n2 : Nat) : Int) : Int) > 9000)))) rfl rfl) ?_
  refine WL.nil ?_
  refine thn_n ?_
  refine WP.condF (congrArg Value.bool (decide_eq_false (by omega))) ?_
  refine WP.skip ?_
  refine thn_n ?_
  refine WP.seq ?_
  refine WP.reg ?_
  refine WL.q (Wn.no rfl) rfl rfl (R.move (v := (.slice a n cap)) rfl) ?_
  refine WL.call (al := [(.slice a n cap)]) Try.call27 rfl rfl (c_Pack_f a n cap xs ls hln hp _ (viewV (h_3.ok _ (.tail _ (.tail _ (.head _))))) (h_3.ok _ (.tail _ (.head _))).1) rfl ?_
  rintro _ w_5 ⟨rfl, hc_4⟩
  have h_6 := h_3.same hc_4
  refine WL.q (Wn.no rfl) rfl rfl (R.move (v := (.tuple [(.slice none 0 0), (vi 2)].toArray)) rfl) ?_
  refine WL.q (Wn.no rfl) rfl rfl (R.extract (l := [(.slice none 0 0), (vi 2)]) (v := (.slice none 0 0)) rfl rfl) ?_
  refine WL.q (Wn.no rfl) rfl rfl (R.extract (l := [(.slice none 0 0), (vi 2)]) (v := (vi 2)) rfl rfl) ?_
  refine WL.q (Wn.no rfl) rfl rfl (R.assign (v := (.slice none 0 0)) rfl) ?_
  refine WL.q (Wn.no rfl) rfl rfl (R.assign (v := (vi 2)) rfl) ?_
  refine WL.nil ?_
  refine thn_n ?_
  refine WP.seq ?_
  refine WP.seq ?_
  refine WP.reg ?_
  refine WL.q (Wn.no rfl) rfl rfl (R.move (v := (.slice a n cap)) rfl) ?_
  refine WL.call (al := [(.slice a n cap)]) Try.call28 rfl rfl (c_MayPackR_f a n cap xs ls hln (by omega) hp _ (viewV (h_6.ok _ (.tail _ (.tail _ (.head _))))) (h_6.ok _ (.tail _ (.head _))).1) rfl ?_
  rintro _ w_8 ⟨rfl, hc_7⟩
  have h_9 := h_6.same hc_7
  refine WL.q (Wn.no rfl) rfl rfl (R.not (b := false) rfl) ?_
  refine WL.nil ?_
  refine thn_n ?_
  refine WP.condT rfl ?_
  refine WP.seq ?_
  refine WP.reg ?_
  refine WL.q (Wn.no rfl) rfl rfl (R.move (v := (.slice none 0 0)) rfl) ?_
  refine WL.q (Wn.no rfl) rfl rfl (R.lenS (a := none) (m := 0) rfl rfl Try.underlying23) ?_
  refine WL.q (Wn.no rfl) rfl rfl (R.bin (v := (.bool false)) rfl rfl (bi_neq (r := false) (by decide))) ?_
  refine WL.q (Wn.no rfl) rfl rfl (R.move (v := (.bool false)) rfl) ?_
  refine WL.want rfl rfl ?_
  refine WL.q (Wn.no rfl) rfl rfl (R.move (v := (vi 2)) rfl) ?_
  refine WL.want rfl rfl ?_
  refine WL.call (al := [(vi 2)]) Try.call18 rfl rfl (c_num1 2 (by omega) _ ) rfl ?_
  rintro _ w_11 ⟨rfl, hc_10⟩
  have h_12 := h_9.same hc_10
  refine WL.want rfl rfl ?_
  refine WL.q (Wn.no rfl) rfl rfl (R.bin (v := (.bool false)) rfl rfl (bi_neq (r := false) (by decide))) ?_
  refine WL.q (Wn.no rfl) rfl rfl (R.pickF (v := (.bool false)) rfl rfl) ?_
  refine WL.nil ?_
  refine thn_n ?_
  refine WP.condF rfl ?_
  refine WP.skip ?_
  refine thn_n ?_
  refine WP.seq ?_
  refine WP.reg ?_
  refine WL.q (Wn.no rfl) rfl rfl (R.move (v := (.slice a2 n2 cap2)) rfl) ?_
  refine WL.call (al := [(.slice a2 n2 cap2)]) Try.call30 rfl rfl (c_Unpack_f a2 n2 cap2 bs2 hl2 (by omega) hx _ (viewV (h_12.ok _ (.head _)))) rfl ?_
  rintro _ w_14 ⟨rfl, hc_13⟩
  have h_15 := h_12.same hc_13
  refine WL.q (Wn.no rfl) rfl rfl (R.move (v := (.tuple [(.slice none 0 0), (vi 4)].toArray)) rfl) ?_
  refine WL.q (Wn.no rfl) rfl rfl (R.extract (l := [(.slice none 0 0), (vi 4)]) (v := (.slice none 0 0)) rfl rfl) ?_
  refine WL.q (Wn.no rfl) rfl rfl (R.extract (l := [(.slice none 0 0), (vi 4)]) (v := (vi 4)) rfl rfl) ?_
  refine WL.q (Wn.no rfl) rfl rfl (R.assign (v := (.slice none 0 0)) rfl) ?_
  refine WL.q (Wn.no rfl) rfl rfl (R.assign (v := (vi 4)) rfl) ?_
  refine WL.nil ?_
  refine thn_n ?_
  refine WP.seq ?_
  refine WP.reg ?_
  refine WL.q (Wn.no rfl) rfl rfl (R.move (v := (.slice a2 n2 cap2)) rfl) ?_
  refine WL.call (al := [(.slice a2 n2 cap2)]) Try.call31 rfl rfl (c_UnpackR_f a2 n2 cap2 bs2 hl2 (by omega) (by omega) hx _ (viewV (h_15.ok _ (.head _)))) rfl ?_
  rintro _ w_17 ⟨rfl, hc_16⟩
  have h_18 := h_15.same hc_16
  refine WL.q (Wn.no rfl) rfl rfl (R.move (v := (.tuple [(.slice none 0 0), (.bool false)].toArray)) rfl) ?_
  refine WL.q (Wn.no rfl) rfl rfl (R.extract (l := [(.slice none 0 0), (.bool false)]) (v := (.slice none 0 0)) rfl rfl) ?_
  refine WL.q (Wn.no rfl) rfl rfl (R.extract (l := [(.slice none 0 0), (.bool false)]) (v := (.bool false)) rfl rfl) ?_
  refine WL.q (Wn.no rfl) rfl rfl (R.assign (v := (.slice none 0 0)) rfl) ?_
  refine WL.q (Wn.no rfl) rfl rfl (R.assign (v := (.bool false)) rfl) ?_
  refine WL.nil ?_
  refine thn_n ?_
  refine WP.seq ?_
  refine WP.reg ?_
  refine WL.q (Wn.no rfl) rfl rfl (R.move (v := (.slice none 0 0)) rfl) ?_
  refine WL.q (Wn.no rfl) rfl rfl (R.move (v := (.slice none 0 0)) rfl) ?_
  refine WL.call (al := [(.slice none 0 0), (.slice none 0 0)]) Try.call32 rfl rfl (c_SameLists none 0 0 [] ([] : List (List UInt8)) rfl none 0 0 [] ([] : List (List UInt8)) rfl (by omega) (by omega) _ (View.nil _ _) Sls.nil (View.nil _ _) Sls.nil) rfl ?_
  rintro _ w_20 ⟨rfl, hc_19⟩
  have h_21 := h_18.same hc_19
  refine WL.q (Wn.no rfl) rfl rfl (R.move (v := (.bool true)) (congrArg Value.bool (decide_eq_true rfl))) ?_
  refine WL.want rfl rfl ?_
  refine WL.q (Wn.no rfl) rfl rfl (R.move (v := (vi 4)) rfl) ?_
  refine WL.want rfl rfl ?_
  refine WL.call (al := [(vi 4)]) Try.call18 rfl rfl (c_num1 4 (by omega) _ ) rfl ?_
  rintro _ w_23 ⟨rfl, hc_22⟩
  have h_24 := h_21.same hc_22
  refine WL.want rfl rfl ?_
  refine WL.q (Wn.no rfl) rfl rfl (R.bin (v := (.bool false)) rfl rfl (bi_eql (r := false) (by decide))) ?_
  refine WL.want rfl rfl ?_
  refine WL.q (Wn.no rfl) rfl rfl (R.move (v := (.bool false)) rfl) ?_
  refine WL.want rfl rfl ?_
  refine WL.q (Wn.no rfl) rfl rfl (R.eqB (a := false) (b := false) (c := true) rfl rfl Try.underlying4 rfl) ?_
  refine WL.q (Wn.no rfl) rfl rfl (R.pickT (v := (.bool true)) rfl rfl) ?_
  refine WL.q (Wn.no rfl) rfl rfl (R.move (v := (.bool true)) rfl) ?_
  refine WL.want rfl rfl ?_
  refine WL.q (Wn.no rfl) rfl rfl (R.move (v := (.bool false)) rfl) ?_
  refine WL.want rfl rfl ?_
  refine WL.q (Wn.no rfl) rfl rfl (R.move (v := (.bool false)) rfl) ?_
  refine WL.want rfl rfl ?_
  refine WL.q (Wn.no rfl) rfl rfl (R.move (v := (vi 4)) rfl) ?_
  refine WL.want rfl rfl ?_
  refine WL.call (al := [(vi 4)]) Try.call18 rfl rfl (c_num1 4 (by omega) _ ) rfl ?_
  rintro _ w_26 ⟨rfl, hc_25⟩
  have h_27 := h_24.same hc_25
  refine WL.want rfl rfl ?_
  refine WL.q (Wn.no rfl) rfl rfl (R.bin (v := (.bool true)) rfl rfl (bi_eql (r := true) (by decide))) ?_
  refine WL.want rfl rfl ?_
  refine WL.q (Wn.no rfl) rfl rfl (R.pickF (v := (.bool true)) rfl rfl) ?_
  refine WL.q (Wn.no rfl) rfl rfl (R.pickT (v := (.bool true)) rfl rfl) ?_
  refine WL.q (Wn.no rfl) rfl rfl (R.move (v := (.bool true)) rfl) ?_
  refine WL.want rfl rfl ?_
  refine WL.call (al := []) Try.call22 rfl rfl (c_known1  _ ) rfl ?_
  rintro _ w_29 ⟨rfl, hc_28⟩
  have h_30 := h_27.same hc_28
  refine WL.q (Wn.no rfl) rfl rfl (R.pickT (v := (.bool true)) rfl rfl) ?_
  refine WL.q (Wn.no rfl) rfl rfl (R.assign (v := (.bool true)) rfl) ?_
  refine WL.nil ?_
  refine thn_n ?_
  refine WP.ret ?_
  refine ret_of Try.results5 (RV.tmp (v := (.bool true)) rfl RV.nil) ?_
  exact ⟨rfl, h_30.chgS⟩

theorem w_WirePacks (a : Option Addr) (n cap : Nat) (xs : List Value) (ls : List (List UInt8)) (hln : ls.length = n) (a2 : Option Addr) (n2 cap2 : Nat) (bs2 : List UInt8) (hl2 : bs2.length = n2) (hcap2 : n2 ≤ cap2) (w : World) (hv : View w a xs) (hs : Sls w xs ls) (hv2 : View w a2 (bs2.map vu8)) : Cs Try.prog 5 [.slice a n cap, .slice a2 n2 cap2].toArray w (fun v w1 => v = .bool true ∧ Chg w w1 []) := by
  by_cases hM : 70000 < Go.Wr.total ls
  · exact w_Packs_m a n cap xs ls hln a2 n2 cap2 bs2 hl2 hcap2 hM w hv hs hv2
  by_cases h : 9000 < n2
  · exact w_Packs_b a n cap xs ls hln a2 n2 cap2 bs2 hl2 hcap2 hM h w hv hs hv2
  rcases Bool.eq_false_or_eq_true (Go.Wr.mayPack ls) with hp | hp <;> rcases hx : Go.Wr.unpk 64 bs2 with _ | lr
  · exact w_Packs_tf a n cap xs ls hln a2 n2 cap2 bs2 hl2 hcap2 hM h hp hx w hv hs hv2
  · exact w_Packs_tt a n cap xs ls hln a2 n2 cap2 bs2 hl2 hcap2 hM h hp lr hx w hv hs hv2
  · exact w_Packs_ff a n cap xs ls hln a2 n2 cap2 bs2 hl2 hcap2 hM h hp hx w hv hs hv2
  · exact w_Packs_ft a n cap xs ls hln a2 n2 cap2 bs2 hl2 hcap2 hM h hp lr hx w hv hs hv2
namespace wirePacksDone
open Go.ChangeShapes Go.WideShapes Go.ChangeAt
theorem own : ownKnob Try.prog.godebug = none := by kernel_rfl
theorem laidOut : laidOutB Try.prog = true := by kernel_rfl
set_option maxRecDepth 100000 in
theorem lifted (os : Os) (started : os.Started) (H : Type) (enc : TypeId × Value → H) :
    ReturnsInHanded {} Try.checked os 5 .any (Rows.wirePacksSpec.pre6 enc Try.prog Try.f5 Rows.wirePacksRow.domain false) (Rows.wirePacksSpec.post enc Try.prog Try.f5 false true false false) := by
  refine returnsInHanded_of_change (C := Try.checked) own started (by kernel_rfl) Try.func5
    (ChangeSpec.witness6 (enc := enc) (C := Try.checked) false ⟨#[], #[.slice none 0 0, .slice none 0 0], []⟩ 8 (by kernel_rfl) (by kernel_rfl) (by kernel_rfl) (by kernel_rfl)) ?_
  intro W base args ds gs before hval0 hW hcnd _
  have hval : ∀ (j : Nat) t v, Try.f5.params[j]? = some t → args[j]? = some v → Value.okWide Try.prog W .any base t v := hval0
  have hW' := hW
  obtain ⟨p, q, hA0, hV, rfl, hfz, hnd⟩ := hW
  have hA : DataW.TrodAll enc Try.prog W 0 (fun _ => true) true Try.f5.params.toList args.toList ds p := hA0
  rw [Try.params5] at hA hval
  obtain ⟨v0, vs0, d0, ds0, p0, q0, hargs, rfl, rfl, h0, r0⟩ := trodAll_cons hA
  obtain ⟨v1, vs1, d1, ds1, p1, q1, rfl, rfl, rfl, h1, r1⟩ := trodAll_cons r0
  obtain ⟨rfl, rfl, rfl⟩ := trodAll_nil r1
  obtain rfl : args = #[v0, v1] := by cases args; simp_all
  obtain ⟨rfl, rfl⟩ := trodVars_none hV
  have lt0 : ∀ x ∈ p0, x.block < W.heap.size := by obtain ⟨m, hm⟩ := h0; exact DataW.trod_lt m _ _ _ hm
  obtain ⟨a0, n0, c0, rfl⟩ := okWide_slice Try.underlying40 (hval 0 40 v0 rfl rfl)
  obtain ⟨a0, n0, c0, z0, x0, e0, l_x0, hc0, hm0, hv0, hs0, hn0⟩ := Tr.slsl Try.underlying40 ce23 Try.underlying23 ce5 Try.underlying5 (Tr.of h0 rfl)
  cases e0
  have lt1 : ∀ x ∈ p1, x.block < W.heap.size := by obtain ⟨m, hm⟩ := h1; exact DataW.trod_lt m _ _ _ hm
  obtain ⟨a1, n1, c1, rfl⟩ := okWide_slice Try.underlying23 (hval 1 23 v1 rfl rfl)
  obtain ⟨a1, n1, c1, x1, e1, l_x1, hc1, hm1, hv1, hn1⟩ := Tr.sl8 Try.underlying23 ce5 Try.underlying5 (Tr.of h1 rfl)
  cases e1
  clear hA0 hval0
  have hw : Cs Try.prog 5 [(.slice a0 n0 c0), (.slice a1 n1 c1)].toArray W (fun v w1 => v = .bool true ∧ Chg W w1 []) := w_WirePacks a0 n0 c0 z0 x0 l_x0 a1 n1 c1 x1 l_x1 hc1 W hv0.1 hs0 hv1.1
  have ea : ([(.slice a0 n0 c0), (.slice a1 n1 c1)] : List Value).toArray = (#[(.slice a0 n0 c0), (.slice a1 n1 c1)] : Array Value) := by simp [flat]
  rw [ea] at hw
  refine Calls.mono (Cs.below hw) fun e W' ⟨he, bel⟩ => ?_
  subst he
  exact ⟨_, rfl, _, _, _, [], _, [], hW', trodAll_mk1 (shut_bool Try.underlying4 _), (trodAll_cons_mk (Below.trod laidOut (by kernel_rfl) (of_decide_eq_true (by kernel_rfl)) h0 bel lt0) (trodAll_cons_mk (Below.trod laidOut (by kernel_rfl) (of_decide_eq_true (by kernel_rfl)) h1 bel lt1) trodAll_mk0)), rfl, bel.frame _, fun h => by cases h⟩
theorem over : Rows.wirePacksRow.holds Try.pinned (OpenSpec.ofChange Rows.wirePacksSpec) :=
  OpenClaim.holds_of_wide 5 Try.f5 rfl rfl rfl rfl rfl rfl rfl ⟨rfl, rfl, rfl, rfl, rfl⟩ rfl rfl rfl rfl rfl (by kernel_rfl) Try.func5 (by kernel_rfl)
    (of_decide_eq_true (by kernel_rfl)) (by unfold Func.isWrapper; first | (rw [if_pos (by decide +kernel)]; kernel_rfl) | (rw [if_neg (by decide +kernel)]; exact ⟨rfl, rfl⟩))
    (fun os started H enc _ => lifted os started H enc)
theorem proved : Rows.WirePacksSaid := over
end wirePacksDone
end Go.Proofs.Ytcmgadjnammahaa
