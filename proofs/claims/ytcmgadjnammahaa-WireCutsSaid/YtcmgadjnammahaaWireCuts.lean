/- WireCuts holds of every input. Conditions: none. -/
import Derived.Test.YtcmgadjnammahaaT9
namespace Go.Proofs.Ytcmgadjnammahaa
open Go.Vc Go.RowKit
set_option linter.unusedVariables false
set_option linter.unusedSimpArgs false
set_option maxRecDepth 20000
theorem ce23 : Try.prog.cellsOf 23 = 1 := by kernel_rfl
theorem el60 : ElT Try.prog 60 3 1 8 := ElT.mk' Try.underlying60 (i := Try.t3) rfl rfl rfl rfl rfl rfl
theorem sz_snoc {ls : List (List UInt8)} {k m : Nat} (hk : k < ls.length) (hm : (ls.getD k []).length = m) : (((ls.take k).map List.length).map Int.ofNat).map vi64 ++ [vi ((m : Nat) : Int)] = (((ls.take (k + 1)).map List.length).map Int.ofNat).map vi64 := by
  rw [take_snoc ls k [] hk, List.map_append, List.map_append, List.map_append, ← hm]; rfl
theorem hex_back2 {bs : List UInt8} {n : Nat} (h : bs.length = n) : Go.Wr.unhexL (Go.Wr.hexL bs) (2 * n / 2) = bs := by
  have := Go.Wr.hex_back bs
  rwa [Go.Wr.hexL_len, h] at this
theorem w_Cuts_m (a : Option Addr) (n cap : Nat) (xs : List Value) (ls : List (List UInt8)) (hln : ls.length = n) (i : Int) (hM : 9000 < Go.Wr.total ls) (w : World) (hv : View w a xs) (hs : Sls w xs ls) :
    Cs Try.prog 13 [(.slice a n cap), (vi i)].toArray w (fun v w1 => v = .bool true ∧ Chg w w1 []) := by
  refine Cs.of (n := 104) (args := [(.slice a n cap), (vi i)]) Try.func13 rfl rfl rfl ?_
  have h_0 := HP.init w
  have h_01 := h_0.oldV (View.arg hv) rfl (by simp [Ent.mut])
  have h_00 := h_01.oldV hs.pin rfl (by simp [Ent.mut])
  have hxl : xs.length = n := hs.len.trans hln
  refine WP.seq ?_
  refine WP.reg ?_
  refine WL.q (Wn.no rfl) rfl rfl (R.assign (v := (.bool false)) rfl) ?_
  refine WL.nil ?_
  refine thn_n ?_
  refine WP.seq ?_
  refine WP.seq ?_
  refine WP.reg ?_
  refine WL.q (Wn.no rfl) rfl rfl (R.move (v := (.slice a n cap)) rfl) ?_
  refine WL.call (al := [(.slice a n cap), (vi 9000)]) Try.call26 rfl rfl (c_Much a n cap xs ls hln 9000 (by omega) _ (viewV (h_00.ok _ (.tail _ (.head _)))) (h_00.ok _ (.head _)).1) rfl ?_
  rintro _ w_2 ⟨rfl, hc_1⟩
  have h_3 := h_00.same hc_1
  refine WL.nil ?_
  refine thn_n ?_
  refine WP.condT (congrArg Value.bool (decide_eq_true hM)) ?_
  refine WP.seq ?_
  refine WP.reg ?_
  refine WL.call (al := []) Try.call22 rfl rfl (c_known1  _ ) rfl ?_
  rintro _ w_5 ⟨rfl, hc_4⟩
  have h_6 := h_3.same hc_4
  refine WL.q (Wn.no rfl) rfl rfl (R.assign (v := (.bool true)) rfl) ?_
  refine WL.nil ?_
  refine thn_n ?_
  refine WP.ret ?_
  refine thn_r ?_
  refine ret_of Try.results13 (RV.tmp (v := (.bool true)) rfl RV.nil) ?_
  exact ⟨rfl, h_6.chgS⟩

theorem w_Cuts_n (a : Option Addr) (n cap : Nat) (xs : List Value) (ls : List (List UInt8)) (hln : ls.length = n) (i : Int) (hi : i < 0) (hM : ¬ 9000 < Go.Wr.total ls) (w : World) (hv : View w a xs) (hs : Sls w xs ls) :
    Cs Try.prog 13 [(.slice a n cap), (vi i)].toArray w (fun v w1 => v = .bool true ∧ Chg w w1 []) := by
  refine Cs.of (n := 104) (args := [(.slice a n cap), (vi i)]) Try.func13 rfl rfl rfl ?_
  have h_0 := HP.init w
  have ht_ls : ls.length + ls.flatten.length ≤ 9000 := Nat.not_lt.1 hM
  have h_01 := h_0.oldV (View.arg hv) rfl (by simp [Ent.mut])
  have h_00 := h_01.oldV hs.pin rfl (by simp [Ent.mut])
  have hxl : xs.length = n := hs.len.trans hln
  refine WP.seq ?_
  refine WP.reg ?_
  refine WL.q (Wn.no rfl) rfl rfl (R.assign (v := (.bool false)) rfl) ?_
  refine WL.nil ?_
  refine thn_n ?_
  refine WP.seq ?_
  refine WP.seq ?_
  refine WP.reg ?_
  refine WL.q (Wn.no rfl) rfl rfl (R.move (v := (.slice a n cap)) rfl) ?_
  refine WL.call (al := [(.slice a n cap), (vi 9000)]) Try.call26 rfl rfl (c_Much a n cap xs ls hln 9000 (by omega) _ (viewV (h_00.ok _ (.tail _ (.head _)))) (h_00.ok _ (.head _)).1) rfl ?_
  rintro _ w_2 ⟨rfl, hc_1⟩
  have h_3 := h_00.same hc_1
  refine WL.nil ?_
  refine thn_n ?_
  refine WP.condF (congrArg Value.bool (decide_eq_false hM)) ?_
  refine WP.skip ?_
  refine thn_n ?_
  refine WP.seq ?_
  refine WP.reg ?_
  refine WL.q (Wn.no rfl) rfl rfl (R.move (v := (.slice a n cap)) rfl) ?_
  refine WL.call (al := [(.slice a n cap)]) Try.call49 rfl rfl (c_wJoin a n cap xs ls hln (by omega) (by omega) _ (viewV (h_3.ok _ (.tail _ (.head _)))) (h_3.ok _ (.head _)).1) rfl ?_
  rintro _ w_6 ⟨a_4, cap_5, rfl, hc_7, ho_8⟩
  have h_9 := h_3.gotRow hc_7 ho_8
  have hq_10 := ho_8.2.2.1
  refine WL.q (Wn.no rfl) rfl rfl (R.assign (v := (.slice a_4 ls.flatten.length cap_5)) rfl) ?_
  refine WL.nil ?_
  refine thn_n ?_
  refine WP.seq ?_
  refine WP.reg ?_
  refine WL.q (Wn.no rfl) rfl rfl (R.assign (v := (.slice none 0 0)) rfl) ?_
  refine WL.nil ?_
  refine thn_n ?_
  refine WP.seq ?_
  refine WP.seq ?_
  refine WP.reg ?_
  refine WL.q (Wn.no rfl) rfl rfl (R.assign (v := (vi 0)) rfl) ?_
  refine WL.nil ?_
  refine thn_n ?_
  refine WP.block ?_
  have h_11 := h_9.rowNil 3 1
  refine WP.loopG (G := Nat × Option Addr × Nat) [6, 7, 19, 20, 21, 22, 23, 24, 25, 26, 27, 28, 29, 30, 31, 32] (fun (k, ra, rc) => [(6, (.slice ra k rc)), (7, (vi ((k : Nat) : Int)))]) (fun (k, ra, rc) m w1 => HP w w1 [.row ra k rc 3 1 ((((ls.take k).map List.length).map Int.ofNat).map vi64), .row a_4 ls.flatten.length cap_5 5 1 (ls.flatten.map vu8), .pin (sblks xs) (fun w => Sls w xs ls), .view a xs] ∧ (k ≤ n) ∧ m = n - k) ⟨(0, none, 0), _, ⟨rfl, rfl, trivial⟩, h_11, (by omega), rfl⟩ ?_
  rintro ⟨k, ra, rc⟩ m_14 J_15 w_12 ⟨h_13, hk, rfl⟩
  refine WP.seq ?_
  refine WP.seq ?_
  refine WP.reg ?_
  refine WL.q (Wn.no rfl) rfl rfl (R.move (v := (vi ((k : Nat) : Int))) rfl) ?_
  refine WL.q (Wn.no rfl) rfl rfl (R.move (v := (.slice a n cap)) rfl) ?_
  refine WL.q (Wn.no rfl) rfl rfl (R.lenS (a := a) (m := n) rfl rfl Try.underlying40) ?_
  refine WL.q (Wn.no rfl) rfl rfl (R.bin (v := (.bool (decide ((((k : Nat) : Int) : Int) < ((n : Nat) : Int))))) rfl rfl (bi_lss (r := decide ((((k : Nat) : Int) : Int) < ((n : Nat) : Int))) rfl)) ?_
  refine WL.nil ?_
  refine thn_n ?_
  refine WP.cond (b := decide ((((k : Nat) : Int) : Int) < ((n : Nat) : Int))) rfl (fun c_16 => ?_) (fun c_16 => ?_)
  · have p_17 := of_decide_eq_true c_16
    refine WP.skip ?_
    refine thn_n ?_
    refine WP.seq ?_
    refine WP.block ?_
    refine WP.reg ?_
    refine WL.q (Wn.no rfl) rfl rfl (R.move (v := (.slice ra k rc)) rfl) ?_
    refine WL.q (Wn.no rfl) rfl rfl (R.move (v := (.slice a n cap)) rfl) ?_
    refine WL.q (Wn.no rfl) rfl rfl (R.move (v := (vi ((k : Nat) : Int))) rfl) ?_
    refine WL.q (Wn.no rfl) rfl rfl (R.indexS (a := a) (i := k) (off := k) (xs := xs) rfl rfl rfl (by omega) (viewV (h_13.ok _ (.tail _ (.tail _ (.tail _ (.head _)))))) (by omega) Try.underlying40 Try.sizeOf23 (Nat.mul_one _).symm) ?_
    obtain ⟨a_18, n_19, c_20, hx_21, hl_22, hn_23, hv_24, hb_25⟩ := Sls.get (i := k) (h_13.ok _ (.tail _ (.tail _ (.head _)))).1 (by rw [hln]; omega)
    have h_26 := h_13.within (e' := .view a_18 ((ls.getD k []).map vu8)) (.tail _ (.tail _ (.head _))) rfl (View.arg hv_24) rfl rfl (fun b hb_ => hb_25 _ (view_sblk hl_22 b hb_))
    refine WL.q (Wn.no rfl) rfl rfl (R.loadG (a := a) (i := k) (xs := xs) (v := (.slice a_18 n_19 c_20)) rfl (viewV (h_26.ok _ (.tail _ (.tail _ (.tail _ (.tail _ (.head _))))))) Try.isAgg23 hx_21) ?_
    refine WL.q (Wn.no rfl) rfl rfl (R.lenS (a := a_18) (m := n_19) rfl rfl Try.underlying23) ?_
    refine WL.buildSl (vs := [(0, (vi ((n_19 : Nat) : Int)))]) (cs := [(vi ((n_19 : Nat) : Int))]) h_26 Try.underlying60 Try.sizeOf3 (zv Try.typeInfo3 rfl) rfl rfl (by kernel_rfl) rfl (by simp [Value.oneCell']) rfl rfl (fun b_27 w_28 h_29 => ?_)
    refine WL.append (km := k + 1) (xs := (((ls.take k).map List.length).map Int.ofNat).map vi64) (ys := [(vi ((n_19 : Nat) : Int))]) (zs := ((((ls.take k).map List.length).map Int.ofNat).map vi64) ++ [(vi ((n_19 : Nat) : Int))]) h_29 rfl rfl el60 (viewB (h_29.ok _ (.head _)) Sg.h) rfl (by simp [Value.oneCell']) rfl (by omega) (by omega) (by omega) (fun _ _ => (At.t (At.t At.h))) rfl (fun a_30 c_31 w_32 h_33 => ?_)
    refine WL.q (Wn.no rfl) rfl rfl (R.assign (v := (.slice a_30 (k + 1) c_31)) rfl) ?_
    refine WL.nil ?_
    refine inb_n ?_
    refine thn_n ?_
    refine WP.reg ?_
    refine WL.q (Wn.no rfl) rfl rfl (R.move (v := (vi ((k : Nat) : Int))) rfl) ?_
    refine WL.q (Wn.no rfl) rfl rfl (R.bin (v := (vi ((k + 1 : Nat) : Int))) rfl rfl (bi_add (c := ((k + 1 : Nat) : Int)) (by omega) (by omega))) ?_
    refine WL.q (Wn.no rfl) rfl rfl (R.assign (v := (vi ((k + 1 : Nat) : Int))) rfl) ?_
    refine WL.nil ?_
    refine thn_n ?_
    have h_34 := h_33.drop rfl
    have h_35 := h_34.drop rfl
    have h_36 := h_35.up (Pick.t (Pick.t (Pick.t Pick.h)))
    have h_37 := h_36.up (Pick.t (Pick.t (Pick.t Pick.h)))
    have h_38 := h_37.up (Pick.t (Pick.t (Pick.t Pick.h)))
    have h_39 := h_38.up (Pick.t (Pick.t (Pick.t Pick.h)))
    rw [sz_snoc (ls := ls) (k := k) (by omega) hl_22] at h_39
    exact ⟨(k + 1, a_30, c_31), _, (by omega), (Ag.upd rfl (Ag.upd rfl (Ag.upd rfl (Ag.upd rfl (Ag.upd rfl (Ag.upd rfl (Ag.upd rfl (Ag.upd rfl (Ag.upd rfl (Ag.upd rfl (Ag.upd rfl (Ag.upd rfl (Ag.upd rfl (Ag.upd rfl (Ag.upd rfl (Ag.upd rfl (Ag.updL rfl (Ag.mix _ _ _)))))))))))))))))), ⟨rfl, rfl, trivial⟩, h_39, (by omega), rfl⟩
  · have p_40 := of_decide_eq_false c_16
    refine WP.exit ?_
    refine thn_x ?_
    refine thn_x ?_
    refine inb_hit ?_
    refine thn_n ?_
    refine WP.seq ?_
    refine WP.reg ?_
    refine WL.q (Wn.no rfl) rfl rfl (R.move (v := (.slice a_4 ls.flatten.length cap_5)) rfl) ?_
    refine WL.q (Wn.no rfl) rfl rfl (R.move (v := (.slice ra k rc)) rfl) ?_
    refine WL.call (al := [(.slice a_4 ls.flatten.length cap_5), (.slice ra k rc)]) Try.call50 rfl rfl (c_Cut_t a_4 ls.flatten.length cap_5 ls.flatten (rfl : List.length ls.flatten = ls.flatten.length) (by omega) ra k rc ((ls.take k).map List.length) (by rw [List.length_map, List.length_take]; omega) (by omega) ls (by rw [List.take_of_length_le (by omega)]; exact Go.Wr.cut_join ls) _ (ownView (h_13.ok _ (.tail _ (.head _)))) (ownView (h_13.ok _ (.head _)))) rfl ?_
    rintro _ w_44 ⟨a_41, cap_42, xs_43, rfl, hc_45, hv_46, hs_47, hb_48⟩
    have h_50 := h_13.gotSls hc_45 hv_46 hs_47 hb_48
    refine WL.q (Wn.no rfl) rfl rfl (R.move (v := (.tuple [(.slice a_41 ls.length cap_42), (vi 0)].toArray)) rfl) ?_
    refine WL.q (Wn.no rfl) rfl rfl (R.extract (l := [(.slice a_41 ls.length cap_42), (vi 0)]) (v := (.slice a_41 ls.length cap_42)) rfl rfl) ?_
    refine WL.q (Wn.no rfl) rfl rfl (R.extract (l := [(.slice a_41 ls.length cap_42), (vi 0)]) (v := (vi 0)) rfl rfl) ?_
    refine WL.q (Wn.no rfl) rfl rfl (R.assign (v := (.slice a_41 ls.length cap_42)) rfl) ?_
    refine WL.q (Wn.no rfl) rfl rfl (R.assign (v := (vi 0)) rfl) ?_
    refine WL.nil ?_
    refine thn_n ?_
    refine WP.seq ?_
    refine WP.reg ?_
    refine WL.q (Wn.no rfl) rfl rfl (R.move (v := (.slice a_4 ls.flatten.length cap_5)) rfl) ?_
    refine WL.buildSl (vs := [(0, (vu8 0))]) (cs := ([0] : List UInt8).map vu8) h_50 Try.underlying23 Try.sizeOf5 (zv Try.typeInfo5 rfl) rfl rfl (by kernel_rfl) rfl (one_u8 _) rfl rfl (fun b_51 w_52 h_53 => ?_)
    have h_54 := h_53.up (Pick.t (Pick.t (Pick.t (Pick.t Pick.h))))
    refine WL.appendK (km := ls.flatten.length + 1) (xs := ls.flatten.map vu8) (ys := ([0] : List UInt8).map vu8) (zs := (ls.flatten ++ ([0] : List UInt8)).map vu8) h_54 rfl rfl el23 (viewB (h_53.ok _ (.head _)) Sg.h) ((len_map (rfl : List.length ([0] : List UInt8) = 1)).trans (Nat.mul_one _).symm) (one_u8 _) (by simp only [List.map_append, List.map_nil]) (by omega) (by omega) (by omega) rfl (fun a_55 c_56 w_57 h_58 => ?_)
    refine WL.q (Wn.no rfl) rfl rfl (R.move (v := (.slice ra k rc)) rfl) ?_
    refine WL.call (al := [(.slice a_55 (ls.flatten.length + 1) c_56), (.slice ra k rc)]) Try.call50 rfl rfl (c_Cut_f a_55 (ls.flatten.length + 1) c_56 (ls.flatten ++ ([0] : List UInt8)) (lenApp (a := ls.flatten.length) (b := 1) (rfl : List.length ls.flatten = ls.flatten.length) (rfl : List.length ([0] : List UInt8) = 1) (by omega) : List.length (ls.flatten ++ ([0] : List UInt8)) = ls.flatten.length + 1) (by omega) ra k rc ((ls.take k).map List.length) (by rw [List.length_map, List.length_take]; omega) (by omega) (by rw [List.take_of_length_le (by omega)]; exact Go.Wr.cut_more ls 0 []) _ (viewV (h_58.ok _ (.head _))) (ownView (h_58.ok _ (.tail _ (.tail _ (.tail _ (.tail _ (.tail _ (.head _))))))))) rfl ?_
    rintro _ w_60 ⟨rfl, hc_59⟩
    have h_61 := h_58.same hc_59
    refine WL.q (Wn.no rfl) rfl rfl (R.move (v := (.tuple [(.slice none 0 0), (vi 4)].toArray)) rfl) ?_
    refine WL.q (Wn.no rfl) rfl rfl (R.extract (l := [(.slice none 0 0), (vi 4)]) (v := (.slice none 0 0)) rfl rfl) ?_
    refine WL.q (Wn.no rfl) rfl rfl (R.extract (l := [(.slice none 0 0), (vi 4)]) (v := (vi 4)) rfl rfl) ?_
    refine WL.q (Wn.no rfl) rfl rfl (R.assign (v := (.slice none 0 0)) rfl) ?_
    refine WL.q (Wn.no rfl) rfl rfl (R.assign (v := (vi 4)) rfl) ?_
    refine WL.nil ?_
    refine thn_n ?_
    refine WP.seq ?_
    refine WP.seq ?_
    refine WP.reg ?_
    refine WL.q (Wn.no rfl) rfl rfl (R.move (v := (vi 0)) rfl) ?_
    refine WL.call (al := [(vi 0)]) Try.call18 rfl rfl (c_num1 0 (by omega) _ ) rfl ?_
    rintro _ w_63 ⟨rfl, hc_62⟩
    have h_64 := h_61.same hc_62
    refine WL.q (Wn.no rfl) rfl rfl (R.bin (v := (.bool false)) rfl rfl (bi_neq (r := false) (by decide))) ?_
    refine WL.q (Wn.no rfl) rfl rfl (R.move (v := (.bool false)) rfl) ?_
    refine WL.want rfl rfl ?_
    refine WL.q (Wn.no rfl) rfl rfl (R.move (v := (vi 4)) rfl) ?_
    refine WL.want rfl rfl ?_
    refine WL.call (al := [(vi 4)]) Try.call18 rfl rfl (c_num1 4 (by omega) _ ) rfl ?_
    rintro _ w_66 ⟨rfl, hc_65⟩
    have h_67 := h_64.same hc_65
    refine WL.want rfl rfl ?_
    refine WL.q (Wn.no rfl) rfl rfl (R.bin (v := (.bool false)) rfl rfl (bi_neq (r := false) (by decide))) ?_
    refine WL.q (Wn.no rfl) rfl rfl (R.pickF (v := (.bool false)) rfl rfl) ?_
    refine WL.q (Wn.no rfl) rfl rfl (R.move (v := (.bool false)) rfl) ?_
    refine WL.want rfl rfl ?_
    refine WL.q (Wn.no rfl) rfl rfl (R.move (v := (.slice a_41 ls.length cap_42)) rfl) ?_
    refine WL.want rfl rfl ?_
    refine WL.q (Wn.no rfl) rfl rfl (R.move (v := (.slice a n cap)) rfl) ?_
    refine WL.want rfl rfl ?_
    refine WL.call (al := [(.slice a_41 ls.length cap_42), (.slice a n cap)]) Try.call32 rfl rfl (c_SameLists a_41 ls.length cap_42 xs_43 ls rfl a n cap xs ls hln (by omega) (by omega) _ (viewV (h_67.ok _ (.tail _ (.tail _ (.tail _ (.tail _ (.head _))))))) (h_67.ok _ (.tail _ (.tail _ (.tail _ (.head _))))).1 (viewV (h_67.ok _ (.tail _ (.tail _ (.tail _ (.tail _ (.tail _ (.tail _ (.tail _ (.head _)))))))))) (h_67.ok _ (.tail _ (.tail _ (.tail _ (.tail _ (.tail _ (.tail _ (.head _)))))))).1) rfl ?_
    rintro _ w_69 ⟨rfl, hc_68⟩
    have h_70 := h_67.same hc_68
    refine WL.want rfl rfl ?_
    refine WL.q (Wn.no rfl) rfl rfl (R.not (b := true) (congrArg Value.bool (decide_eq_true rfl))) ?_
    refine WL.q (Wn.no rfl) rfl rfl (R.pickF (v := (.bool false)) rfl rfl) ?_
    refine WL.nil ?_
    refine thn_n ?_
    refine WP.condF rfl ?_
    refine WP.skip ?_
    refine thn_n ?_
    refine WP.seq ?_
    refine WP.seq ?_
    refine WP.reg ?_
    refine WL.q (Wn.no rfl) rfl rfl (R.move (v := (vi i)) rfl) ?_
    refine WL.q (Wn.no rfl) rfl rfl (R.bin (v := (.bool (decide ((i : Int) < 0)))) rfl rfl (bi_lss (r := decide ((i : Int) < 0)) rfl)) ?_
    refine WL.q (Wn.no rfl) rfl rfl (R.move (v := (.bool (decide ((i : Int) < 0)))) rfl) ?_
    refine WL.skip rfl (congrArg Value.bool (decide_eq_true (by omega))) rfl ?_
    refine WL.skip rfl (congrArg Value.bool (decide_eq_true (by omega))) rfl ?_
    refine WL.skip rfl (congrArg Value.bool (decide_eq_true (by omega))) rfl ?_
    refine WL.skip rfl (congrArg Value.bool (decide_eq_true (by omega))) rfl ?_
    refine WL.skip rfl (congrArg Value.bool (decide_eq_true (by omega))) rfl ?_
    refine WL.q (Wn.no rfl) rfl rfl (R.pickT (v := (.bool true)) (congrArg Value.bool (decide_eq_true (by omega))) rfl) ?_
    refine WL.nil ?_
    refine thn_n ?_
    refine WP.condT rfl ?_
    refine WP.seq ?_
    refine WP.reg ?_
    refine WL.q (Wn.no rfl) rfl rfl (R.move (v := (.slice a_4 ls.flatten.length cap_5)) rfl) ?_
    refine WL.q (Wn.no rfl) rfl rfl (R.move (v := (vi i)) rfl) ?_
    refine WL.call (al := [(.slice a_4 ls.flatten.length cap_5), (vi i)]) Try.call45 rfl rfl (c_Word_neg a_4 ls.flatten.length cap_5 ls.flatten (rfl : List.length ls.flatten = ls.flatten.length) i (by omega) _ (viewV (h_70.ok _ (.tail _ (.head _))))) rfl ?_
    rintro _ w_72 ⟨rfl, hc_71⟩
    have h_73 := h_70.same hc_71
    refine WL.q (Wn.no rfl) rfl rfl (R.move (v := (.slice a_4 ls.flatten.length cap_5)) rfl) ?_
    refine WL.q (Wn.no rfl) rfl rfl (R.move (v := (vi i)) rfl) ?_
    refine WL.call (al := [(.slice a_4 ls.flatten.length cap_5), (vi i)]) Try.call46 rfl rfl (c_WordR_neg a_4 ls.flatten.length cap_5 ls.flatten (rfl : List.length ls.flatten = ls.flatten.length) i (by omega) _ (viewV (h_73.ok _ (.tail _ (.head _))))) rfl ?_
    rintro _ w_75 ⟨rfl, hc_74⟩
    have h_76 := h_73.same hc_74
    refine WL.q (Wn.no rfl) rfl rfl (R.bin (v := (.bool true)) rfl rfl (b64_eql 0 0 (r := true) rfl)) ?_
    refine WL.q (Wn.no rfl) rfl rfl (R.move (v := (.bool true)) rfl) ?_
    refine WL.want rfl rfl ?_
    refine WL.call (al := []) Try.call22 rfl rfl (c_known1  _ ) rfl ?_
    rintro _ w_78 ⟨rfl, hc_77⟩
    have h_79 := h_76.same hc_77
    refine WL.q (Wn.no rfl) rfl rfl (R.pickT (v := (.bool true)) rfl rfl) ?_
    refine WL.q (Wn.no rfl) rfl rfl (R.assign (v := (.bool true)) rfl) ?_
    refine WL.nil ?_
    refine thn_n ?_
    refine WP.ret ?_
    refine thn_r ?_
    refine ret_of Try.results13 (RV.tmp (v := (.bool true)) rfl RV.nil) ?_
    exact ⟨rfl, h_79.chgS⟩

theorem w_Cuts_p (a : Option Addr) (n cap : Nat) (xs : List Value) (ls : List (List UInt8)) (hln : ls.length = n) (i : Nat) (hM : ¬ 9000 < Go.Wr.total ls) (w : World) (hv : View w a xs) (hs : Sls w xs ls) :
    Cs Try.prog 13 [(.slice a n cap), (vi ((i : Nat) : Int))].toArray w (fun v w1 => v = .bool true ∧ Chg w w1 []) := by
  refine Cs.of (n := 104) (args := [(.slice a n cap), (vi ((i : Nat) : Int))]) Try.func13 rfl rfl rfl ?_
  have h_0 := HP.init w
  have ht_ls : ls.length + ls.flatten.length ≤ 9000 := Nat.not_lt.1 hM
  have h_01 := h_0.oldV (View.arg hv) rfl (by simp [Ent.mut])
  have h_00 := h_01.oldV hs.pin rfl (by simp [Ent.mut])
  have hxl : xs.length = n := hs.len.trans hln
  refine WP.seq ?_
  refine WP.reg ?_
  refine WL.q (Wn.no rfl) rfl rfl (R.assign (v := (.bool false)) rfl) ?_
  refine WL.nil ?_
  refine thn_n ?_
  refine WP.seq ?_
  refine WP.seq ?_
  refine WP.reg ?_
  refine WL.q (Wn.no rfl) rfl rfl (R.move (v := (.slice a n cap)) rfl) ?_
  refine WL.call (al := [(.slice a n cap), (vi 9000)]) Try.call26 rfl rfl (c_Much a n cap xs ls hln 9000 (by omega) _ (viewV (h_00.ok _ (.tail _ (.head _)))) (h_00.ok _ (.head _)).1) rfl ?_
  rintro _ w_2 ⟨rfl, hc_1⟩
  have h_3 := h_00.same hc_1
  refine WL.nil ?_
  refine thn_n ?_
  refine WP.condF (congrArg Value.bool (decide_eq_false hM)) ?_
  refine WP.skip ?_
  refine thn_n ?_
  refine WP.seq ?_
  refine WP.reg ?_
  refine WL.q (Wn.no rfl) rfl rfl (R.move (v := (.slice a n cap)) rfl) ?_
  refine WL.call (al := [(.slice a n cap)]) Try.call49 rfl rfl (c_wJoin a n cap xs ls hln (by omega) (by omega) _ (viewV (h_3.ok _ (.tail _ (.head _)))) (h_3.ok _ (.head _)).1) rfl ?_
  rintro _ w_6 ⟨a_4, cap_5, rfl, hc_7, ho_8⟩
  have h_9 := h_3.gotRow hc_7 ho_8
  have hq_10 := ho_8.2.2.1
  refine WL.q (Wn.no rfl) rfl rfl (R.assign (v := (.slice a_4 ls.flatten.length cap_5)) rfl) ?_
  refine WL.nil ?_
  refine thn_n ?_
  refine WP.seq ?_
  refine WP.reg ?_
  refine WL.q (Wn.no rfl) rfl rfl (R.assign (v := (.slice none 0 0)) rfl) ?_
  refine WL.nil ?_
  refine thn_n ?_
  refine WP.seq ?_
  refine WP.seq ?_
  refine WP.reg ?_
  refine WL.q (Wn.no rfl) rfl rfl (R.assign (v := (vi 0)) rfl) ?_
  refine WL.nil ?_
  refine thn_n ?_
  refine WP.block ?_
  have h_11 := h_9.rowNil 3 1
  refine WP.loopG (G := Nat × Option Addr × Nat) [6, 7, 19, 20, 21, 22, 23, 24, 25, 26, 27, 28, 29, 30, 31, 32] (fun (k, ra, rc) => [(6, (.slice ra k rc)), (7, (vi ((k : Nat) : Int)))]) (fun (k, ra, rc) m w1 => HP w w1 [.row ra k rc 3 1 ((((ls.take k).map List.length).map Int.ofNat).map vi64), .row a_4 ls.flatten.length cap_5 5 1 (ls.flatten.map vu8), .pin (sblks xs) (fun w => Sls w xs ls), .view a xs] ∧ (k ≤ n) ∧ m = n - k) ⟨(0, none, 0), _, ⟨rfl, rfl, trivial⟩, h_11, (by omega), rfl⟩ ?_
  rintro ⟨k, ra, rc⟩ m_14 J_15 w_12 ⟨h_13, hk, rfl⟩
  refine WP.seq ?_
  refine WP.seq ?_
  refine WP.reg ?_
  refine WL.q (Wn.no rfl) rfl rfl (R.move (v := (vi ((k : Nat) : Int))) rfl) ?_
  refine WL.q (Wn.no rfl) rfl rfl (R.move (v := (.slice a n cap)) rfl) ?_
  refine WL.q (Wn.no rfl) rfl rfl (R.lenS (a := a) (m := n) rfl rfl Try.underlying40) ?_
  refine WL.q (Wn.no rfl) rfl rfl (R.bin (v := (.bool (decide ((((k : Nat) : Int) : Int) < ((n : Nat) : Int))))) rfl rfl (bi_lss (r := decide ((((k : Nat) : Int) : Int) < ((n : Nat) : Int))) rfl)) ?_
  refine WL.nil ?_
  refine thn_n ?_
  refine WP.cond (b := decide ((((k : Nat) : Int) : Int) < ((n : Nat) : Int))) rfl (fun c_16 => ?_) (fun c_16 => ?_)
  · have p_17 := of_decide_eq_true c_16
    refine WP.skip ?_
    refine thn_n ?_
    refine WP.seq ?_
    refine WP.block ?_
    refine WP.reg ?_
    refine WL.q (Wn.no rfl) rfl rfl (R.move (v := (.slice ra k rc)) rfl) ?_
    refine WL.q (Wn.no rfl) rfl rfl (R.move (v := (.slice a n cap)) rfl) ?_
    refine WL.q (Wn.no rfl) rfl rfl (R.move (v := (vi ((k : Nat) : Int))) rfl) ?_
    refine WL.q (Wn.no rfl) rfl rfl (R.indexS (a := a) (i := k) (off := k) (xs := xs) rfl rfl rfl (by omega) (viewV (h_13.ok _ (.tail _ (.tail _ (.tail _ (.head _)))))) (by omega) Try.underlying40 Try.sizeOf23 (Nat.mul_one _).symm) ?_
    obtain ⟨a_18, n_19, c_20, hx_21, hl_22, hn_23, hv_24, hb_25⟩ := Sls.get (i := k) (h_13.ok _ (.tail _ (.tail _ (.head _)))).1 (by rw [hln]; omega)
    have h_26 := h_13.within (e' := .view a_18 ((ls.getD k []).map vu8)) (.tail _ (.tail _ (.head _))) rfl (View.arg hv_24) rfl rfl (fun b hb_ => hb_25 _ (view_sblk hl_22 b hb_))
    refine WL.q (Wn.no rfl) rfl rfl (R.loadG (a := a) (i := k) (xs := xs) (v := (.slice a_18 n_19 c_20)) rfl (viewV (h_26.ok _ (.tail _ (.tail _ (.tail _ (.tail _ (.head _))))))) Try.isAgg23 hx_21) ?_
    refine WL.q (Wn.no rfl) rfl rfl (R.lenS (a := a_18) (m := n_19) rfl rfl Try.underlying23) ?_
    refine WL.buildSl (vs := [(0, (vi ((n_19 : Nat) : Int)))]) (cs := [(vi ((n_19 : Nat) : Int))]) h_26 Try.underlying60 Try.sizeOf3 (zv Try.typeInfo3 rfl) rfl rfl (by kernel_rfl) rfl (by simp [Value.oneCell']) rfl rfl (fun b_27 w_28 h_29 => ?_)
    refine WL.append (km := k + 1) (xs := (((ls.take k).map List.length).map Int.ofNat).map vi64) (ys := [(vi ((n_19 : Nat) : Int))]) (zs := ((((ls.take k).map List.length).map Int.ofNat).map vi64) ++ [(vi ((n_19 : Nat) : Int))]) h_29 rfl rfl el60 (viewB (h_29.ok _ (.head _)) Sg.h) rfl (by simp [Value.oneCell']) rfl (by omega) (by omega) (by omega) (fun _ _ => (At.t (At.t At.h))) rfl (fun a_30 c_31 w_32 h_33 => ?_)
    refine WL.q (Wn.no rfl) rfl rfl (R.assign (v := (.slice a_30 (k + 1) c_31)) rfl) ?_
    refine WL.nil ?_
    refine inb_n ?_
    refine thn_n ?_
    refine WP.reg ?_
    refine WL.q (Wn.no rfl) rfl rfl (R.move (v := (vi ((k : Nat) : Int))) rfl) ?_
    refine WL.q (Wn.no rfl) rfl rfl (R.bin (v := (vi ((k + 1 : Nat) : Int))) rfl rfl (bi_add (c := ((k + 1 : Nat) : Int)) (by omega) (by omega))) ?_
    refine WL.q (Wn.no rfl) rfl rfl (R.assign (v := (vi ((k + 1 : Nat) : Int))) rfl) ?_
    refine WL.nil ?_
    refine thn_n ?_
    have h_34 := h_33.drop rfl
    have h_35 := h_34.drop rfl
    have h_36 := h_35.up (Pick.t (Pick.t (Pick.t Pick.h)))
    have h_37 := h_36.up (Pick.t (Pick.t (Pick.t Pick.h)))
    have h_38 := h_37.up (Pick.t (Pick.t (Pick.t Pick.h)))
    have h_39 := h_38.up (Pick.t (Pick.t (Pick.t Pick.h)))
    rw [sz_snoc (ls := ls) (k := k) (by omega) hl_22] at h_39
    exact ⟨(k + 1, a_30, c_31), _, (by omega), (Ag.upd rfl (Ag.upd rfl (Ag.upd rfl (Ag.upd rfl (Ag.upd rfl (Ag.upd rfl (Ag.upd rfl (Ag.upd rfl (Ag.upd rfl (Ag.upd rfl (Ag.upd rfl (Ag.upd rfl (Ag.upd rfl (Ag.upd rfl (Ag.upd rfl (Ag.upd rfl (Ag.updL rfl (Ag.mix _ _ _)))))))))))))))))), ⟨rfl, rfl, trivial⟩, h_39, (by omega), rfl⟩
  · have p_40 := of_decide_eq_false c_16
    refine WP.exit ?_
    refine thn_x ?_
    refine thn_x ?_
    refine inb_hit ?_
    refine thn_n ?_
    refine WP.seq ?_
    refine WP.reg ?_
    refine WL.q (Wn.no rfl) rfl rfl (R.move (v := (.slice a_4 ls.flatten.length cap_5)) rfl) ?_
    refine WL.q (Wn.no rfl) rfl rfl (R.move (v := (.slice ra k rc)) rfl) ?_
    refine WL.call (al := [(.slice a_4 ls.flatten.length cap_5), (.slice ra k rc)]) Try.call50 rfl rfl (c_Cut_t a_4 ls.flatten.length cap_5 ls.flatten (rfl : List.length ls.flatten = ls.flatten.length) (by omega) ra k rc ((ls.take k).map List.length) (by rw [List.length_map, List.length_take]; omega) (by omega) ls (by rw [List.take_of_length_le (by omega)]; exact Go.Wr.cut_join ls) _ (ownView (h_13.ok _ (.tail _ (.head _)))) (ownView (h_13.ok _ (.head _)))) rfl ?_
    rintro _ w_44 ⟨a_41, cap_42, xs_43, rfl, hc_45, hv_46, hs_47, hb_48⟩
    have h_50 := h_13.gotSls hc_45 hv_46 hs_47 hb_48
    refine WL.q (Wn.no rfl) rfl rfl (R.move (v := (.tuple [(.slice a_41 ls.length cap_42), (vi 0)].toArray)) rfl) ?_
    refine WL.q (Wn.no rfl) rfl rfl (R.extract (l := [(.slice a_41 ls.length cap_42), (vi 0)]) (v := (.slice a_41 ls.length cap_42)) rfl rfl) ?_
    refine WL.q (Wn.no rfl) rfl rfl (R.extract (l := [(.slice a_41 ls.length cap_42), (vi 0)]) (v := (vi 0)) rfl rfl) ?_
    refine WL.q (Wn.no rfl) rfl rfl (R.assign (v := (.slice a_41 ls.length cap_42)) rfl) ?_
    refine WL.q (Wn.no rfl) rfl rfl (R.assign (v := (vi 0)) rfl) ?_
    refine WL.nil ?_
    refine thn_n ?_
    refine WP.seq ?_
    refine WP.reg ?_
    refine WL.q (Wn.no rfl) rfl rfl (R.move (v := (.slice a_4 ls.flatten.length cap_5)) rfl) ?_
    refine WL.buildSl (vs := [(0, (vu8 0))]) (cs := ([0] : List UInt8).map vu8) h_50 Try.underlying23 Try.sizeOf5 (zv Try.typeInfo5 rfl) rfl rfl (by kernel_rfl) rfl (one_u8 _) rfl rfl (fun b_51 w_52 h_53 => ?_)
    have h_54 := h_53.up (Pick.t (Pick.t (Pick.t (Pick.t Pick.h))))
    refine WL.appendK (km := ls.flatten.length + 1) (xs := ls.flatten.map vu8) (ys := ([0] : List UInt8).map vu8) (zs := (ls.flatten ++ ([0] : List UInt8)).map vu8) h_54 rfl rfl el23 (viewB (h_53.ok _ (.head _)) Sg.h) ((len_map (rfl : List.length ([0] : List UInt8) = 1)).trans (Nat.mul_one _).symm) (one_u8 _) (by simp only [List.map_append, List.map_nil]) (by omega) (by omega) (by omega) rfl (fun a_55 c_56 w_57 h_58 => ?_)
    refine WL.q (Wn.no rfl) rfl rfl (R.move (v := (.slice ra k rc)) rfl) ?_
    refine WL.call (al := [(.slice a_55 (ls.flatten.length + 1) c_56), (.slice ra k rc)]) Try.call50 rfl rfl (c_Cut_f a_55 (ls.flatten.length + 1) c_56 (ls.flatten ++ ([0] : List UInt8)) (lenApp (a := ls.flatten.length) (b := 1) (rfl : List.length ls.flatten = ls.flatten.length) (rfl : List.length ([0] : List UInt8) = 1) (by omega) : List.length (ls.flatten ++ ([0] : List UInt8)) = ls.flatten.length + 1) (by omega) ra k rc ((ls.take k).map List.length) (by rw [List.length_map, List.length_take]; omega) (by omega) (by rw [List.take_of_length_le (by omega)]; exact Go.Wr.cut_more ls 0 []) _ (viewV (h_58.ok _ (.head _))) (ownView (h_58.ok _ (.tail _ (.tail _ (.tail _ (.tail _ (.tail _ (.head _))))))))) rfl ?_
    rintro _ w_60 ⟨rfl, hc_59⟩
    have h_61 := h_58.same hc_59
    refine WL.q (Wn.no rfl) rfl rfl (R.move (v := (.tuple [(.slice none 0 0), (vi 4)].toArray)) rfl) ?_
    refine WL.q (Wn.no rfl) rfl rfl (R.extract (l := [(.slice none 0 0), (vi 4)]) (v := (.slice none 0 0)) rfl rfl) ?_
    refine WL.q (Wn.no rfl) rfl rfl (R.extract (l := [(.slice none 0 0), (vi 4)]) (v := (vi 4)) rfl rfl) ?_
    refine WL.q (Wn.no rfl) rfl rfl (R.assign (v := (.slice none 0 0)) rfl) ?_
    refine WL.q (Wn.no rfl) rfl rfl (R.assign (v := (vi 4)) rfl) ?_
    refine WL.nil ?_
    refine thn_n ?_
    refine WP.seq ?_
    refine WP.seq ?_
    refine WP.reg ?_
    refine WL.q (Wn.no rfl) rfl rfl (R.move (v := (vi 0)) rfl) ?_
    refine WL.call (al := [(vi 0)]) Try.call18 rfl rfl (c_num1 0 (by omega) _ ) rfl ?_
    rintro _ w_63 ⟨rfl, hc_62⟩
    have h_64 := h_61.same hc_62
    refine WL.q (Wn.no rfl) rfl rfl (R.bin (v := (.bool false)) rfl rfl (bi_neq (r := false) (by decide))) ?_
    refine WL.q (Wn.no rfl) rfl rfl (R.move (v := (.bool false)) rfl) ?_
    refine WL.want rfl rfl ?_
    refine WL.q (Wn.no rfl) rfl rfl (R.move (v := (vi 4)) rfl) ?_
    refine WL.want rfl rfl ?_
    refine WL.call (al := [(vi 4)]) Try.call18 rfl rfl (c_num1 4 (by omega) _ ) rfl ?_
    rintro _ w_66 ⟨rfl, hc_65⟩
    have h_67 := h_64.same hc_65
    refine WL.want rfl rfl ?_
    refine WL.q (Wn.no rfl) rfl rfl (R.bin (v := (.bool false)) rfl rfl (bi_neq (r := false) (by decide))) ?_
    refine WL.q (Wn.no rfl) rfl rfl (R.pickF (v := (.bool false)) rfl rfl) ?_
    refine WL.q (Wn.no rfl) rfl rfl (R.move (v := (.bool false)) rfl) ?_
    refine WL.want rfl rfl ?_
    refine WL.q (Wn.no rfl) rfl rfl (R.move (v := (.slice a_41 ls.length cap_42)) rfl) ?_
    refine WL.want rfl rfl ?_
    refine WL.q (Wn.no rfl) rfl rfl (R.move (v := (.slice a n cap)) rfl) ?_
    refine WL.want rfl rfl ?_
    refine WL.call (al := [(.slice a_41 ls.length cap_42), (.slice a n cap)]) Try.call32 rfl rfl (c_SameLists a_41 ls.length cap_42 xs_43 ls rfl a n cap xs ls hln (by omega) (by omega) _ (viewV (h_67.ok _ (.tail _ (.tail _ (.tail _ (.tail _ (.head _))))))) (h_67.ok _ (.tail _ (.tail _ (.tail _ (.head _))))).1 (viewV (h_67.ok _ (.tail _ (.tail _ (.tail _ (.tail _ (.tail _ (.tail _ (.tail _ (.head _)))))))))) (h_67.ok _ (.tail _ (.tail _ (.tail _ (.tail _ (.tail _ (.tail _ (.head _)))))))).1) rfl ?_
    rintro _ w_69 ⟨rfl, hc_68⟩
    have h_70 := h_67.same hc_68
    refine WL.want rfl rfl ?_
    refine WL.q (Wn.no rfl) rfl rfl (R.not (b := true) (congrArg Value.bool (decide_eq_true rfl))) ?_
    refine WL.q (Wn.no rfl) rfl rfl (R.pickF (v := (.bool false)) rfl rfl) ?_
    refine WL.nil ?_
    refine thn_n ?_
    refine WP.condF rfl ?_
    refine WP.skip ?_
    refine thn_n ?_
    refine WP.seq ?_
    refine WP.seq ?_
    refine WP.reg ?_
    refine WL.q (Wn.no rfl) rfl rfl (R.move (v := (vi ((i : Nat) : Int))) rfl) ?_
    refine WL.q (Wn.no rfl) rfl rfl (R.bin (v := (.bool (decide ((((i : Nat) : Int) : Int) < 0)))) rfl rfl (bi_lss (r := decide ((((i : Nat) : Int) : Int) < 0)) rfl)) ?_
    refine WL.q (Wn.no rfl) rfl rfl (R.move (v := (.bool (decide ((((i : Nat) : Int) : Int) < 0)))) rfl) ?_
    refine WL.want rfl (congrArg Value.bool (decide_eq_false (by omega))) ?_
    refine WL.q (Wn.no rfl) rfl rfl (R.move (v := (vi ((i : Nat) : Int))) rfl) ?_
    refine WL.want rfl (congrArg Value.bool (decide_eq_false (by omega))) ?_
    refine WL.q (Wn.no rfl) rfl rfl (R.move (v := (.slice a_4 ls.flatten.length cap_5)) rfl) ?_
    refine WL.want rfl (congrArg Value.bool (decide_eq_false (by omega))) ?_
    refine WL.q (Wn.no rfl) rfl rfl (R.lenS (a := a_4) (m := ls.flatten.length) rfl rfl Try.underlying23) ?_
    refine WL.want rfl (congrArg Value.bool (decide_eq_false (by omega))) ?_
    refine WL.q (Wn.no rfl) rfl rfl (R.bin (v := (vi ((ls.flatten.length / 8 : Nat) : Int))) rfl rfl (bi_quo (c := ((ls.flatten.length / 8 : Nat) : Int)) (by first | omega | exact ⟨Int.natCast_nonneg _, by omega⟩) (by omega) (by first | omega | rfl))) ?_
    refine WL.want rfl (congrArg Value.bool (decide_eq_false (by omega))) ?_
    refine WL.q (Wn.no rfl) rfl rfl (R.bin (v := (.bool (decide ((((i : Nat) : Int) : Int) ≥ ((ls.flatten.length / 8 : Nat) : Int))))) rfl rfl (bi_geq (r := decide ((((i : Nat) : Int) : Int) ≥ ((ls.flatten.length / 8 : Nat) : Int))) rfl)) ?_
    refine WL.q (Wn.no rfl) rfl rfl (R.pickF (v := (.bool (decide ((((i : Nat) : Int) : Int) ≥ ((ls.flatten.length / 8 : Nat) : Int))))) (congrArg Value.bool (decide_eq_false (by omega))) rfl) ?_
    refine WL.nil ?_
    refine thn_n ?_
    refine WP.cond (b := decide ((((i : Nat) : Int) : Int) ≥ ((ls.flatten.length / 8 : Nat) : Int))) rfl (fun c_71 => ?_) (fun c_71 => ?_)
    · have p_72 := of_decide_eq_true c_71
      refine WP.seq ?_
      refine WP.reg ?_
      refine WL.q (Wn.no rfl) rfl rfl (R.move (v := (.slice a_4 ls.flatten.length cap_5)) rfl) ?_
      refine WL.q (Wn.no rfl) rfl rfl (R.move (v := (vi ((i : Nat) : Int))) rfl) ?_
      refine WL.call (al := [(.slice a_4 ls.flatten.length cap_5), (vi ((i : Nat) : Int))]) Try.call45 rfl rfl (c_Word a_4 ls.flatten.length cap_5 ls.flatten (rfl : List.length ls.flatten = ls.flatten.length) i (by omega) _ (viewV (h_70.ok _ (.tail _ (.head _)))) (by omega)) rfl ?_
      rintro _ w_74 ⟨rfl, hc_73⟩
      have h_75 := h_70.same hc_73
      refine WL.q (Wn.no rfl) rfl rfl (R.move (v := (.slice a_4 ls.flatten.length cap_5)) rfl) ?_
      refine WL.q (Wn.no rfl) rfl rfl (R.move (v := (vi ((i : Nat) : Int))) rfl) ?_
      refine WL.call (al := [(.slice a_4 ls.flatten.length cap_5), (vi ((i : Nat) : Int))]) Try.call46 rfl rfl (c_WordR a_4 ls.flatten.length cap_5 ls.flatten (rfl : List.length ls.flatten = ls.flatten.length) i (by omega) _ (viewV (h_75.ok _ (.tail _ (.head _))))) rfl ?_
      rintro _ w_77 ⟨rfl, hc_76⟩
      have h_78 := h_75.same hc_76
      refine WL.q (Wn.no rfl) rfl rfl (R.bin (v := (.bool true)) rfl rfl (b64_eql (wordB ls.flatten i) (wordB ls.flatten i) (r := true) (by simp))) ?_
      refine WL.q (Wn.no rfl) rfl rfl (R.move (v := (.bool true)) rfl) ?_
      refine WL.want rfl rfl ?_
      refine WL.call (al := []) Try.call22 rfl rfl (c_known1  _ ) rfl ?_
      rintro _ w_80 ⟨rfl, hc_79⟩
      have h_81 := h_78.same hc_79
      refine WL.q (Wn.no rfl) rfl rfl (R.pickT (v := (.bool true)) rfl rfl) ?_
      refine WL.q (Wn.no rfl) rfl rfl (R.assign (v := (.bool true)) rfl) ?_
      refine WL.nil ?_
      refine thn_n ?_
      refine WP.ret ?_
      refine thn_r ?_
      refine ret_of Try.results13 (RV.tmp (v := (.bool true)) rfl RV.nil) ?_
      exact ⟨rfl, h_81.chgS⟩
    · have p_82 := of_decide_eq_false c_71
      refine WP.skip ?_
      refine thn_n ?_
      refine WP.seq ?_
      refine WP.reg ?_
      refine WL.q (Wn.no rfl) rfl rfl (R.move (v := (.slice a_4 ls.flatten.length cap_5)) rfl) ?_
      refine WL.q (Wn.no rfl) rfl rfl (R.move (v := (vi ((i : Nat) : Int))) rfl) ?_
      refine WL.q (Wn.no rfl) rfl rfl (R.bin (v := (vi ((8 * i : Nat) : Int))) rfl rfl (bi_mul (c := ((8 * i : Nat) : Int)) (by omega) (by omega))) ?_
      refine WL.q (Wn.no rfl) rfl rfl (R.move (v := (vi ((i : Nat) : Int))) rfl) ?_
      refine WL.q (Wn.no rfl) rfl rfl (R.bin (v := (vi ((8 * i : Nat) : Int))) rfl rfl (bi_mul (c := ((8 * i : Nat) : Int)) (by omega) (by omega))) ?_
      refine WL.q (Wn.no rfl) rfl rfl (R.bin (v := (vi ((8 * i + 8 : Nat) : Int))) rfl rfl (bi_add (c := ((8 * i + 8 : Nat) : Int)) (by omega) (by omega))) ?_
      refine WL.q (Wn.no rfl) rfl rfl (R.sliceS (a := a_4) (len := ls.flatten.length) (l := 8 * i) (h := 8 * i + 8) rfl (EvB.it (l := 8 * i) rfl rfl) (EvB.it (l := 8 * i + 8) rfl rfl) (by omega) (by omega) Try.underlying23 Try.sizeOf5) ?_
      refine WL.call (al := [(.slice (slA a_4 (8 * i) cap_5 1) (8 * i + 8 - (8 * i)) (cap_5 - (8 * i)))]) Try.call21 rfl rfl (c_Get_ok (slA a_4 (8 * i) cap_5 1) (8 * i + 8 - (8 * i)) (cap_5 - (8 * i)) ((ls.flatten.drop (8 * i)).take (8 * i + 8 - (8 * i))) (subLen (K := ls.flatten.length) (rfl : List.length ls.flatten = ls.flatten.length) (by omega) : List.length ((ls.flatten.drop (8 * i)).take (8 * i + 8 - (8 * i))) = 8 * i + 8 - (8 * i)) (by omega) (by omega) _ (View.slM (l := 8 * i) (m := cap_5) (k := 8 * i + 8 - (8 * i)) (viewV (h_70.ok _ (.tail _ (.head _)))) (by omega))) rfl ?_
      rintro _ w_84 ⟨rfl, hc_83⟩
      have h_85 := h_70.same hc_83
      refine WL.q (Wn.no rfl) rfl rfl (R.move (v := (.tuple [(vu64 (UInt64.ofNat (natLE ((ls.flatten.drop (8 * i)).take (8 * i + 8 - (8 * i)))))), (vi 0)].toArray)) rfl) ?_
      refine WL.q (Wn.no rfl) rfl rfl (R.extract (l := [(vu64 (UInt64.ofNat (natLE ((ls.flatten.drop (8 * i)).take (8 * i + 8 - (8 * i)))))), (vi 0)]) (v := (vu64 (UInt64.ofNat (natLE ((ls.flatten.drop (8 * i)).take (8 * i + 8 - (8 * i))))))) rfl rfl) ?_
      refine WL.q (Wn.no rfl) rfl rfl (R.extract (l := [(vu64 (UInt64.ofNat (natLE ((ls.flatten.drop (8 * i)).take (8 * i + 8 - (8 * i)))))), (vi 0)]) (v := (vi 0)) rfl rfl) ?_
      refine WL.q (Wn.no rfl) rfl rfl (R.assign (v := (vu64 (UInt64.ofNat (natLE ((ls.flatten.drop (8 * i)).take (8 * i + 8 - (8 * i))))))) rfl) ?_
      refine WL.q (Wn.no rfl) rfl rfl (R.assign (v := (vi 0)) rfl) ?_
      refine WL.nil ?_
      refine thn_n ?_
      refine WP.seq ?_
      refine WP.reg ?_
      refine WL.q (Wn.no rfl) rfl rfl (R.move (v := (vi 0)) rfl) ?_
      refine WL.call (al := [(vi 0)]) Try.call18 rfl rfl (c_num1 0 (by omega) _ ) rfl ?_
      rintro _ w_87 ⟨rfl, hc_86⟩
      have h_88 := h_85.same hc_86
      refine WL.q (Wn.no rfl) rfl rfl (R.bin (v := (.bool true)) rfl rfl (bi_eql (r := true) (by decide))) ?_
      refine WL.q (Wn.no rfl) rfl rfl (R.move (v := (.bool true)) rfl) ?_
      refine WL.want rfl rfl ?_
      refine WL.q (Wn.no rfl) rfl rfl (R.move (v := (.slice a_4 ls.flatten.length cap_5)) rfl) ?_
      refine WL.want rfl rfl ?_
      refine WL.q (Wn.no rfl) rfl rfl (R.move (v := (vi ((i : Nat) : Int))) rfl) ?_
      refine WL.want rfl rfl ?_
      refine WL.call (al := [(.slice a_4 ls.flatten.length cap_5), (vi ((i : Nat) : Int))]) Try.call45 rfl rfl (c_Word a_4 ls.flatten.length cap_5 ls.flatten (rfl : List.length ls.flatten = ls.flatten.length) i (by omega) _ (viewV (h_88.ok _ (.tail _ (.head _)))) (by omega)) rfl ?_
      rintro _ w_90 ⟨rfl, hc_89⟩
      have h_91 := h_88.same hc_89
      refine WL.want rfl rfl ?_
      refine WL.q (Wn.no rfl) rfl rfl (R.move (v := (vu64 (UInt64.ofNat (natLE ((ls.flatten.drop (8 * i)).take (8 * i + 8 - (8 * i))))))) rfl) ?_
      refine WL.want rfl rfl ?_
      refine WL.q (Wn.no rfl) rfl rfl (R.bin (v := (.bool true)) rfl rfl (b64_eql (wordB ls.flatten i) (UInt64.ofNat (natLE ((ls.flatten.drop (8 * i)).take (8 * i + 8 - (8 * i))))) (r := true) (decide_eq_true (by rw [wordB, Nat.add_sub_cancel_left])))) ?_
      refine WL.q (Wn.no rfl) rfl rfl (R.pickT (v := (.bool true)) rfl rfl) ?_
      refine WL.q (Wn.no rfl) rfl rfl (R.move (v := (.bool true)) rfl) ?_
      refine WL.want rfl rfl ?_
      refine WL.call (al := []) Try.call22 rfl rfl (c_known1  _ ) rfl ?_
      rintro _ w_93 ⟨rfl, hc_92⟩
      have h_94 := h_91.same hc_92
      refine WL.q (Wn.no rfl) rfl rfl (R.pickT (v := (.bool true)) rfl rfl) ?_
      refine WL.q (Wn.no rfl) rfl rfl (R.assign (v := (.bool true)) rfl) ?_
      refine WL.nil ?_
      refine thn_n ?_
      refine WP.ret ?_
      refine ret_of Try.results13 (RV.tmp (v := (.bool true)) rfl RV.nil) ?_
      exact ⟨rfl, h_94.chgS⟩

theorem w_WireCuts (a : Option Addr) (n cap : Nat) (xs : List Value) (ls : List (List UInt8)) (hln : ls.length = n) (i : Int) (w : World) (hv : View w a xs) (hs : Sls w xs ls) : Cs Try.prog 13 [.slice a n cap, vi i].toArray w (fun v w1 => v = .bool true ∧ Chg w w1 []) := by
  by_cases hM : 9000 < Go.Wr.total ls
  · exact w_Cuts_m a n cap xs ls hln i hM w hv hs
  by_cases hi : i < 0
  · exact w_Cuts_n a n cap xs ls hln i hi hM w hv hs
  obtain ⟨q, rfl⟩ : ∃ q : Nat, i = (q : Int) := ⟨i.toNat, by omega⟩
  exact w_Cuts_p a n cap xs ls hln q hM w hv hs
namespace wireCutsDone
open Go.ChangeShapes Go.WideShapes Go.ChangeAt
theorem own : ownKnob Try.prog.godebug = none := by kernel_rfl
theorem laidOut : laidOutB Try.prog = true := by kernel_rfl
set_option maxRecDepth 100000 in
theorem lifted (os : Os) (started : os.Started) (H : Type) (enc : TypeId × Value → H) :
    ReturnsInHanded {} Try.checked os 13 .any (Rows.wireCutsSpec.pre6 enc Try.prog Try.f13 Rows.wireCutsRow.domain false) (Rows.wireCutsSpec.post enc Try.prog Try.f13 false true false false) := by
  refine returnsInHanded_of_change (C := Try.checked) own started (by kernel_rfl) Try.func13
    (ChangeSpec.witness6 (enc := enc) (C := Try.checked) false ⟨#[], #[.slice none 0 0, .int .i64 0], []⟩ 8 (by kernel_rfl) (by kernel_rfl) (by kernel_rfl) (by kernel_rfl)) ?_
  intro W base args ds gs before hval0 hW hcnd _
  have hval : ∀ (j : Nat) t v, Try.f13.params[j]? = some t → args[j]? = some v → Value.okWide Try.prog W .any base t v := hval0
  have hW' := hW
  obtain ⟨p, q, hA0, hV, rfl, hfz, hnd⟩ := hW
  have hA : DataW.TrodAll enc Try.prog W 0 (fun _ => true) true Try.f13.params.toList args.toList ds p := hA0
  rw [Try.params13] at hA hval
  obtain ⟨v0, vs0, d0, ds0, p0, q0, hargs, rfl, rfl, h0, r0⟩ := trodAll_cons hA
  obtain ⟨v1, vs1, d1, ds1, p1, q1, rfl, rfl, rfl, h1, r1⟩ := trodAll_cons r0
  obtain ⟨rfl, rfl, rfl⟩ := trodAll_nil r1
  obtain rfl : args = #[v0, v1] := by cases args; simp_all
  obtain ⟨rfl, rfl⟩ := trodVars_none hV
  have lt0 : ∀ x ∈ p0, x.block < W.heap.size := by obtain ⟨m, hm⟩ := h0; exact DataW.trod_lt m _ _ _ hm
  obtain ⟨a0, n0, c0, rfl⟩ := okWide_slice Try.underlying40 (hval 0 40 v0 rfl rfl)
  obtain ⟨a0, n0, c0, z0, x0, e0, l_x0, hc0, hm0, hv0, hs0, hn0⟩ := Tr.slsl Try.underlying40 ce23 Try.underlying23 ce5 Try.underlying5 (Tr.of h0 rfl)
  cases e0
  have lt1 : ∀ x ∈ p1, x.block < W.heap.size := by obtain ⟨m, hm⟩ := h1; exact DataW.trod_lt m _ _ _ hm
  obtain ⟨x1, rfl⟩ := okWide_int Try.underlying3 (hval 1 3 v1 rfl rfl)
  have b_x1 := Tr.i64' Try.underlying3 (Tr.of h1 rfl)
  clear hA0 hval0
  have hw : Cs Try.prog 13 [(.slice a0 n0 c0), (vi x1)].toArray W (fun v w1 => v = .bool true ∧ Chg W w1 []) := w_WireCuts a0 n0 c0 z0 x0 l_x0 x1 W hv0.1 hs0
  have ea : ([(.slice a0 n0 c0), (vi x1)] : List Value).toArray = (#[(.slice a0 n0 c0), (vi x1)] : Array Value) := by simp [flat]
  rw [ea] at hw
  refine Calls.mono (Cs.below hw) fun e W' ⟨he, bel⟩ => ?_
  subst he
  exact ⟨_, rfl, _, _, _, [], _, [], hW', trodAll_mk1 (shut_bool Try.underlying4 _), (trodAll_cons_mk (Below.trod laidOut (by kernel_rfl) (of_decide_eq_true (by kernel_rfl)) h0 bel lt0) (trodAll_cons_mk (Below.trod laidOut (by kernel_rfl) (of_decide_eq_true (by kernel_rfl)) h1 bel lt1) trodAll_mk0)), rfl, bel.frame _, fun h => by cases h⟩
theorem over : Rows.wireCutsRow.holds Try.pinned (OpenSpec.ofChange Rows.wireCutsSpec) :=
  OpenClaim.holds_of_wide 13 Try.f13 rfl rfl rfl rfl rfl rfl rfl ⟨rfl, rfl, rfl, rfl, rfl⟩ rfl rfl rfl rfl rfl (by kernel_rfl) Try.func13 (by kernel_rfl)
    (of_decide_eq_true (by kernel_rfl)) (by unfold Func.isWrapper; first | (rw [if_pos (by decide +kernel)]; kernel_rfl) | (rw [if_neg (by decide +kernel)]; exact ⟨rfl, rfl⟩))
    (fun os started H enc _ => lifted os started H enc)
theorem proved : Rows.WireCutsSaid := over
end wireCutsDone
end Go.Proofs.Ytcmgadjnammahaa
