/- MacBounds holds of every input. Conditions: none. -/
import Derived.Test.YtelkjcigdhgcoaaPD
namespace Go.Proofs.Ytelkjcigdhgcoaa
open Go.Vc Go.Sh Go.RowKit
set_option linter.unusedVariables false
set_option linter.unusedSimpArgs false
set_option maxRecDepth 20000

theorem w_MacBounds  (w : World) :
    Cs Try.prog 12 [].toArray w (fun v w1 => v = .bool true ∧ Chg w w1 []) := by
  refine Cs.of (n := 79) (args := []) Try.func12 rfl rfl rfl ?_
  have h_0 := HP.init w
  refine WP.seq ?_
  refine WP.reg ?_
  refine WL.q (Wn.no rfl) rfl rfl (R.assign (v := (.bool false)) rfl) ?_
  refine WL.nil ?_
  refine thn_n ?_
  refine WP.seq ?_
  refine WP.seq ?_
  refine WP.reg ?_
  refine WL.q (Wn.no rfl) rfl rfl (R.assign (v := (vi 63)) rfl) ?_
  refine WL.nil ?_
  refine thn_n ?_
  refine WP.block ?_
  refine WP.loopG (G := Nat) [0, 1, 2, 12, 13, 14, 15, 16, 17, 18, 19, 20, 21, 22, 23, 24] (fun n => [(1, (vi ((n : Nat) : Int)))]) (fun n m w1 => HP w w1 [] ∧ (63 ≤ n) ∧ (n ≤ 67) ∧ m = 67 - n) ⟨63, _, ⟨rfl, trivial⟩, h_0, (by omega), (by omega), rfl⟩ ?_
  rintro n m_3 J_4 w_1 ⟨h_2, hn1, hn2, rfl⟩
  refine WP.seq ?_
  refine WP.seq ?_
  refine WP.reg ?_
  refine WL.q (Wn.no rfl) rfl rfl (R.move (v := (vi ((n : Nat) : Int))) rfl) ?_
  refine WL.q (Wn.no rfl) rfl rfl (R.bin (v := (.bool (decide ((((n : Nat) : Int) : Int) < 67)))) rfl rfl (bi_lss (r := decide ((((n : Nat) : Int) : Int) < 67)) rfl)) ?_
  refine WL.nil ?_
  refine thn_n ?_
  refine WP.cond (b := decide ((((n : Nat) : Int) : Int) < 67)) rfl (fun c_5 => ?_) (fun c_5 => ?_)
  · have p_6 := of_decide_eq_true c_5
    refine WP.skip ?_
    refine thn_n ?_
    refine WP.seq ?_
    refine WP.block ?_
    refine WP.seq ?_
    refine WP.reg ?_
    refine WL.q (Wn.no rfl) rfl rfl (R.move (v := (vi ((n : Nat) : Int))) rfl) ?_
    refine WL.makeSl (m := n) (i := Try.t5) (z := vu8 0) h_2 rfl rfl Try.underlying26 rfl rfl rfl rfl (by show 1 * _ ≤ _; omega) (by omega) rfl (fun b_7 w_8 h_9 => ?_)
    rw [show List.replicate n (vu8 0) = (List.replicate n (0 : UInt8)).map vu8 from (List.map_replicate ..).symm] at h_9
    refine WL.q (Wn.no rfl) rfl rfl (R.assign (v := (.slice (some ⟨b_7, 0, none⟩) n n)) rfl) ?_
    refine WL.nil ?_
    refine thn_n ?_
    refine WP.seq ?_
    refine WP.reg ?_
    refine WL.q (Wn.no rfl) rfl rfl (R.move (v := (.slice (some ⟨b_7, 0, none⟩) n n)) rfl) ?_
    refine WL.q (Wn.no rfl) rfl rfl (R.indexS (a := some ⟨b_7, 0, none⟩) (i := 0) (off := 0) (xs := (List.replicate n (0 : UInt8)).map vu8) rfl rfl rfl (by omega) (ownView (h_9.ok _ (.head _))) (lt_len (K := n) (len_map (List.length_replicate ..)) (by omega)) Try.underlying26 Try.sizeOf5 (Nat.mul_one _).symm) ?_
    refine WL.storeR (a := some ⟨b_7, 0, none⟩) (i := 0) (v := (vu8 7)) (xs' := ((List.replicate n (0 : UInt8)).set 0 7).map vu8) h_9 rfl rfl Try.sizeOf5 rfl At.h (lt_len (K := n) (len_map (List.length_replicate ..)) (by omega)) (set_u8 _ _ _) (fun w_11 h_12 => ?_)
    refine WL.nil ?_
    refine thn_n ?_
    refine WP.seq ?_
    refine WP.reg ?_
    refine WL.q (Wn.no rfl) rfl rfl (R.move (v := (.slice (some ⟨b_7, 0, none⟩) n n)) rfl) ?_
    refine WL.call (al := [(.slice (some ⟨b_7, 0, none⟩) n n), (.slice none 0 0)]) Try.call36 rfl rfl (c_Tag (some ⟨b_7, 0, none⟩) n n ((List.replicate n (0 : UInt8)).set 0 7) (len_set (List.length_replicate ..) _ _) (h_12.own (.head _)).2.2.1 (by omega) none 0 0 ([] : List UInt8) rfl (by decide) (by decide) _ (ownView (h_12.ok _ (.head _))) (View.nil _ _)) rfl ?_
    rintro _ w_14 ⟨rfl, hc_13⟩
    have h_15 := h_12.same hc_13
    refine WL.q (Wn.no rfl) rfl rfl (R.move (v := (.slice (some ⟨b_7, 0, none⟩) n n)) rfl) ?_
    refine WL.call (al := [(.slice (some ⟨b_7, 0, none⟩) n n), (.slice none 0 0)]) Try.call37 rfl rfl (c_TagR (some ⟨b_7, 0, none⟩) n n ((List.replicate n (0 : UInt8)).set 0 7) (len_set (List.length_replicate ..) _ _) (h_15.own (.head _)).2.2.1 (by omega) none 0 0 ([] : List UInt8) rfl (by decide) (by decide) _ (ownView (h_15.ok _ (.head _))) (View.nil _ _)) rfl ?_
    rintro _ w_17 ⟨rfl, hc_16⟩
    have h_18 := h_15.same hc_16
    refine WL.q (Wn.no rfl) rfl rfl (R.neA (xs := (tagL ((List.replicate n (0 : UInt8)).set 0 7) ([] : List UInt8)).map vu8) (ys := (tagL ((List.replicate n (0 : UInt8)).set 0 7) ([] : List UInt8)).map vu8) (r := false) rfl rfl Try.eqGuardType28 kt28 (by decide) ag28 (Typ.u8s Try.underlying28 ce28 Try.underlying5 ce5 (tagL_len _ _)) (Typ.u8s Try.underlying28 ce28 Try.underlying5 ce5 (tagL_len _ _)) (neT rfl)) ?_
    refine WL.nil ?_
    refine thn_n ?_
    refine WP.condF rfl ?_
    refine WP.skip ?_
    refine inb_n ?_
    refine thn_n ?_
    refine WP.reg ?_
    refine WL.q (Wn.no rfl) rfl rfl (R.move (v := (vi ((n : Nat) : Int))) rfl) ?_
    refine WL.q (Wn.no rfl) rfl rfl (R.bin (v := (vi ((n + 1 : Nat) : Int))) rfl rfl (bi_add (c := ((n + 1 : Nat) : Int)) (by omega) (by omega))) ?_
    refine WL.q (Wn.no rfl) rfl rfl (R.assign (v := (vi ((n + 1 : Nat) : Int))) rfl) ?_
    refine WL.nil ?_
    refine thn_n ?_
    have h_19 := h_18.drop rfl
    exact ⟨n + 1, _, (by omega), (Ag.upd rfl (Ag.upd rfl (Ag.upd rfl (Ag.upd rfl (Ag.upd rfl (Ag.upd rfl (Ag.upd rfl (Ag.upd rfl (Ag.upd rfl (Ag.upd rfl (Ag.upd rfl (Ag.upd rfl (Ag.upd rfl (Ag.upd rfl (Ag.upd rfl (Ag.updL rfl (Ag.mix _ _ _))))))))))))))))), ⟨rfl, trivial⟩, h_19, (by omega), (by omega), rfl⟩
  · have p_20 := of_decide_eq_false c_5
    refine WP.exit ?_
    refine thn_x ?_
    refine thn_x ?_
    refine inb_hit ?_
    refine thn_n ?_
    refine WP.seq ?_
    refine WP.reg ?_
    refine WL.makeSl (m := 64) (i := Try.t5) (z := vu8 0) h_2 rfl rfl Try.underlying26 rfl rfl rfl rfl (by decide) (by decide) rfl (fun b_21 w_22 h_23 => ?_)
    rw [show List.replicate 64 (vu8 0) = (List.replicate 64 (0 : UInt8)).map vu8 from (List.map_replicate ..).symm] at h_23
    refine WL.q (Wn.no rfl) rfl rfl (R.toStr (bs := List.replicate 64 (0 : UInt8)) rfl Try.underlying26 Try.underlying5 Try.underlying9 (ownView (h_23.ok _ (.head _))) (List.length_replicate ..)) ?_
    refine WL.q (Wn.no rfl) rfl rfl (R.assign (v := (.string (bstr (List.replicate 64 (0 : UInt8))))) rfl) ?_
    refine WL.nil ?_
    refine thn_n ?_
    refine WP.seq ?_
    refine WP.reg ?_
    refine WL.q (Wn.no rfl) rfl rfl (R.buildA (vs := []) (cs := (List.replicate 32 (0 : UInt8)).map vu8) Try.underlying28 Try.sizeOf5 (zv Try.typeInfo28 rfl) rfl rfl) ?_
    refine WL.q (Wn.no rfl) rfl rfl (R.move (v := (.string (bstr (List.replicate 64 (0 : UInt8))))) rfl) ?_
    refine WL.call (al := [(.agg ⟨(List.replicate 32 (0 : UInt8)).map vu8⟩), (.string (bstr (List.replicate 64 (0 : UInt8)))), (vu64 9223372036854775808)]) Try.call39 rfl rfl (c_Derive_ok (List.replicate 32 (0 : UInt8)) (List.replicate 64 (0 : UInt8)) 64 (List.length_replicate ..) (List.length_replicate ..) (9223372036854775808 : UInt64) (by decide) (by decide) _ ) rfl ?_
    rintro _ w_26 ⟨rfl, hc_25⟩
    have h_27 := h_23.same hc_25
    refine WL.q (Wn.no rfl) rfl rfl (R.move (v := (.tuple [(.agg ⟨(deriveL (List.replicate 32 (0 : UInt8)) (List.replicate 64 (0 : UInt8)) (9223372036854775808 : UInt64)).map vu8⟩), (vi 0)].toArray)) rfl) ?_
    refine WL.q (Wn.no rfl) rfl rfl (R.extract (l := [(.agg ⟨(deriveL (List.replicate 32 (0 : UInt8)) (List.replicate 64 (0 : UInt8)) (9223372036854775808 : UInt64)).map vu8⟩), (vi 0)]) (v := (.agg ⟨(deriveL (List.replicate 32 (0 : UInt8)) (List.replicate 64 (0 : UInt8)) (9223372036854775808 : UInt64)).map vu8⟩)) rfl rfl) ?_
    refine WL.q (Wn.no rfl) rfl rfl (R.extract (l := [(.agg ⟨(deriveL (List.replicate 32 (0 : UInt8)) (List.replicate 64 (0 : UInt8)) (9223372036854775808 : UInt64)).map vu8⟩), (vi 0)]) (v := (vi 0)) rfl rfl) ?_
    refine WL.alloc (segs := [(32, (List.replicate 32 (0 : UInt8)).map vu8)]) h_27 (zv Try.typeInfo28 rfl) rfl (SsOk.cons (SOk.u8 (List.length_replicate ..)) SsOk.nil) rfl (fun b_28 w_29 h_30 => ?_)
    refine WL.storeA (b := b_28) (off := 0) [] [(32, (List.replicate 32 (0 : UInt8)).map vu8)] [(32, (deriveL (List.replicate 32 (0 : UInt8)) (List.replicate 64 (0 : UInt8)) (9223372036854775808 : UInt64)).map vu8)] [] (ys := (deriveL (List.replicate 32 (0 : UInt8)) (List.replicate 64 (0 : UInt8)) (9223372036854775808 : UInt64)).map vu8) h_30 rfl rfl Try.sizeOf28 At.h (by decide) rfl rfl rfl rfl rfl rfl (SsOk.cons (SOk.u8 (deriveL_len _ _ _)) SsOk.nil) (fun w_31 h_32 => ?_)
    refine WL.q (Wn.no rfl) rfl rfl (R.assign (v := (vi 0)) rfl) ?_
    refine WL.nil ?_
    refine thn_n ?_
    refine WP.seq ?_
    refine WP.reg ?_
    refine WL.q (Wn.no rfl) rfl rfl (R.buildA (vs := []) (cs := (List.replicate 32 (0 : UInt8)).map vu8) Try.underlying28 Try.sizeOf5 (zv Try.typeInfo28 rfl) rfl rfl) ?_
    refine WL.q (Wn.no rfl) rfl rfl (R.move (v := (.string (bstr (List.replicate 64 (0 : UInt8))))) rfl) ?_
    refine WL.q (Wn.no rfl) rfl rfl (R.addStr (a := List.replicate 64 (0 : UInt8)) (b := ([120] : List UInt8)) rfl rfl (by simp only [List.length_replicate, List.length_cons, List.length_nil]; decide)) ?_
    refine WL.call (al := [(.agg ⟨(List.replicate 32 (0 : UInt8)).map vu8⟩), (.string (bstr ((List.replicate 64 (0 : UInt8)) ++ ([120] : List UInt8)))), (vu64 0)]) Try.call39 rfl rfl (c_Derive_hi (List.replicate 32 (0 : UInt8)) ((List.replicate 64 (0 : UInt8)) ++ ([120] : List UInt8)) 65 (List.length_replicate ..) (by simp only [List.length_append, List.length_replicate, List.length_cons, List.length_nil]) (0 : UInt64) (by decide) _ ) rfl ?_
    rintro _ w_34 ⟨rfl, hc_33⟩
    have h_35 := h_32.same hc_33
    refine WL.q (Wn.no rfl) rfl rfl (R.move (v := (.tuple [(.agg ⟨(List.replicate 32 (0 : UInt8)).map vu8⟩), (vi 2)].toArray)) rfl) ?_
    refine WL.q (Wn.no rfl) rfl rfl (R.extract (l := [(.agg ⟨(List.replicate 32 (0 : UInt8)).map vu8⟩), (vi 2)]) (v := (.agg ⟨(List.replicate 32 (0 : UInt8)).map vu8⟩)) rfl rfl) ?_
    refine WL.q (Wn.no rfl) rfl rfl (R.extract (l := [(.agg ⟨(List.replicate 32 (0 : UInt8)).map vu8⟩), (vi 2)]) (v := (vi 2)) rfl rfl) ?_
    refine WL.alloc (segs := [(32, (List.replicate 32 (0 : UInt8)).map vu8)]) h_35 (zv Try.typeInfo28 rfl) rfl (SsOk.cons (SOk.u8 (List.length_replicate ..)) SsOk.nil) rfl (fun b_36 w_37 h_38 => ?_)
    refine WL.storeA (b := b_36) (off := 0) [] [(32, (List.replicate 32 (0 : UInt8)).map vu8)] [(32, (List.replicate 32 (0 : UInt8)).map vu8)] [] (ys := (List.replicate 32 (0 : UInt8)).map vu8) h_38 rfl rfl Try.sizeOf28 At.h (by decide) rfl rfl rfl rfl rfl rfl (SsOk.cons (SOk.u8 (List.length_replicate ..)) SsOk.nil) (fun w_39 h_40 => ?_)
    refine WL.q (Wn.no rfl) rfl rfl (R.assign (v := (vi 2)) rfl) ?_
    refine WL.nil ?_
    refine thn_n ?_
    refine WP.seq ?_
    refine WP.reg ?_
    refine WL.q (Wn.no rfl) rfl rfl (R.buildA (vs := []) (cs := (List.replicate 32 (0 : UInt8)).map vu8) Try.underlying28 Try.sizeOf5 (zv Try.typeInfo28 rfl) rfl rfl) ?_
    refine WL.call (al := [(.agg ⟨(List.replicate 32 (0 : UInt8)).map vu8⟩), (.string (bstr ([97] : List UInt8))), (vi 256)]) Try.call43 rfl rfl (c_Keys_ok (List.replicate 32 (0 : UInt8)) ([97] : List UInt8) 1 (List.length_replicate ..) rfl 256 (by decide) (by decide) (by decide) _) rfl ?_
    rintro _ w_43 ⟨a_41, cap_42, rfl, hc_44, ho_45⟩
    have h_46 := h_40.gotRow hc_44 ho_45
    refine WL.q (Wn.no rfl) rfl rfl (R.move (v := (.tuple [(.slice a_41 256 cap_42), (vi 0)].toArray)) rfl) ?_
    refine WL.q (Wn.no rfl) rfl rfl (R.extract (l := [(.slice a_41 256 cap_42), (vi 0)]) (v := (.slice a_41 256 cap_42)) rfl rfl) ?_
    refine WL.q (Wn.no rfl) rfl rfl (R.extract (l := [(.slice a_41 256 cap_42), (vi 0)]) (v := (vi 0)) rfl rfl) ?_
    refine WL.q (Wn.no rfl) rfl rfl (R.assign (v := (.slice a_41 256 cap_42)) rfl) ?_
    refine WL.q (Wn.no rfl) rfl rfl (R.assign (v := (vi 0)) rfl) ?_
    refine WL.nil ?_
    refine thn_n ?_
    refine WP.seq ?_
    refine WP.reg ?_
    refine WL.q (Wn.no rfl) rfl rfl (R.buildA (vs := []) (cs := (List.replicate 32 (0 : UInt8)).map vu8) Try.underlying28 Try.sizeOf5 (zv Try.typeInfo28 rfl) rfl rfl) ?_
    refine WL.call (al := [(.agg ⟨(List.replicate 32 (0 : UInt8)).map vu8⟩), (.string (bstr ([97] : List UInt8))), (vi 0)]) Try.call43 rfl rfl (c_Keys_ok (List.replicate 32 (0 : UInt8)) ([97] : List UInt8) 1 (List.length_replicate ..) rfl 0 (by decide) (by decide) (by decide) _) rfl ?_
    rintro _ w_49 ⟨a_47, cap_48, rfl, hc_50, ho_51⟩
    have h_52 := h_46.gotRow hc_50 ho_51
    refine WL.q (Wn.no rfl) rfl rfl (R.move (v := (.tuple [(.slice a_47 0 cap_48), (vi 0)].toArray)) rfl) ?_
    refine WL.q (Wn.no rfl) rfl rfl (R.extract (l := [(.slice a_47 0 cap_48), (vi 0)]) (v := (.slice a_47 0 cap_48)) rfl rfl) ?_
    refine WL.q (Wn.no rfl) rfl rfl (R.extract (l := [(.slice a_47 0 cap_48), (vi 0)]) (v := (vi 0)) rfl rfl) ?_
    refine WL.q (Wn.no rfl) rfl rfl (R.assign (v := (.slice a_47 0 cap_48)) rfl) ?_
    refine WL.q (Wn.no rfl) rfl rfl (R.assign (v := (vi 0)) rfl) ?_
    refine WL.nil ?_
    refine thn_n ?_
    refine WP.seq ?_
    refine WP.reg ?_
    refine WL.q (Wn.no rfl) rfl rfl (R.move (v := (vi 0)) rfl) ?_
    refine WL.call (al := [(vi 0)]) Try.call41 rfl rfl (c_num3 0 (by omega) _ ) rfl ?_
    rintro _ w_54 ⟨rfl, hc_53⟩
    have h_55 := h_52.same hc_53
    refine WL.q (Wn.no rfl) rfl rfl (R.bin (v := (.bool true)) rfl rfl (bi_eql (r := true) (by decide))) ?_
    refine WL.q (Wn.no rfl) rfl rfl (R.move (v := (.bool true)) rfl) ?_
    refine WL.want rfl rfl ?_
    refine WL.q (Wn.no rfl) rfl rfl (R.move (v := (vi 2)) rfl) ?_
    refine WL.want rfl rfl ?_
    refine WL.call (al := [(vi 2)]) Try.call41 rfl rfl (c_num3 2 (by omega) _ ) rfl ?_
    rintro _ w_57 ⟨rfl, hc_56⟩
    have h_58 := h_55.same hc_56
    refine WL.want rfl rfl ?_
    refine WL.q (Wn.no rfl) rfl rfl (R.bin (v := (.bool true)) rfl rfl (bi_eql (r := true) (by decide))) ?_
    refine WL.q (Wn.no rfl) rfl rfl (R.pickT (v := (.bool true)) rfl rfl) ?_
    refine WL.q (Wn.no rfl) rfl rfl (R.move (v := (.bool true)) rfl) ?_
    refine WL.want rfl rfl ?_
    refine WL.q (Wn.no rfl) rfl rfl (R.move (v := (.slice a_41 256 cap_42)) rfl) ?_
    refine WL.want rfl rfl ?_
    refine WL.q (Wn.no rfl) rfl rfl (R.lenS (a := a_41) (m := 256) rfl rfl Try.underlying63) ?_
    refine WL.want rfl rfl ?_
    refine WL.q (Wn.no rfl) rfl rfl (R.bin (v := (.bool true)) rfl rfl (bi_eql (r := true) (by decide))) ?_
    refine WL.q (Wn.no rfl) rfl rfl (R.pickT (v := (.bool true)) rfl rfl) ?_
    refine WL.q (Wn.no rfl) rfl rfl (R.move (v := (.bool true)) rfl) ?_
    refine WL.want rfl rfl ?_
    refine WL.q (Wn.no rfl) rfl rfl (R.move (v := (.slice a_47 0 cap_48)) rfl) ?_
    refine WL.want rfl rfl ?_
    refine WL.q (Wn.no rfl) rfl rfl (R.lenS (a := a_47) (m := 0) rfl rfl Try.underlying63) ?_
    refine WL.want rfl rfl ?_
    refine WL.q (Wn.no rfl) rfl rfl (R.bin (v := (.bool true)) rfl rfl (bi_eql (r := true) (by decide))) ?_
    refine WL.q (Wn.no rfl) rfl rfl (R.pickT (v := (.bool true)) rfl rfl) ?_
    refine WL.q (Wn.no rfl) rfl rfl (R.move (v := (.bool true)) rfl) ?_
    refine WL.want rfl rfl ?_
    refine WL.q (Wn.no rfl) rfl rfl (R.move (v := (vi 0)) rfl) ?_
    refine WL.want rfl rfl ?_
    refine WL.call (al := [(vi 0)]) Try.call41 rfl rfl (c_num3 0 (by omega) _ ) rfl ?_
    rintro _ w_60 ⟨rfl, hc_59⟩
    have h_61 := h_58.same hc_59
    refine WL.want rfl rfl ?_
    refine WL.q (Wn.no rfl) rfl rfl (R.move (v := (vi 0)) rfl) ?_
    refine WL.want rfl rfl ?_
    refine WL.call (al := [(vi 0)]) Try.call41 rfl rfl (c_num3 0 (by omega) _ ) rfl ?_
    rintro _ w_63 ⟨rfl, hc_62⟩
    have h_64 := h_61.same hc_62
    refine WL.want rfl rfl ?_
    refine WL.q (Wn.no rfl) rfl rfl (R.bin (v := (vi 0)) rfl rfl (bi_add (c := 0) (by omega) (by omega))) ?_
    refine WL.want rfl rfl ?_
    refine WL.q (Wn.no rfl) rfl rfl (R.bin (v := (.bool true)) rfl rfl (bi_eql (r := true) (by decide))) ?_
    refine WL.q (Wn.no rfl) rfl rfl (R.pickT (v := (.bool true)) rfl rfl) ?_
    refine WL.q (Wn.no rfl) rfl rfl (R.move (v := (.bool true)) rfl) ?_
    refine WL.want rfl rfl ?_
    refine WL.call (al := []) Try.call35 rfl rfl (c_known3  _ ) rfl ?_
    rintro _ w_66 ⟨rfl, hc_65⟩
    have h_67 := h_64.same hc_65
    refine WL.q (Wn.no rfl) rfl rfl (R.pickT (v := (.bool true)) rfl rfl) ?_
    refine WL.q (Wn.no rfl) rfl rfl (R.assign (v := (.bool true)) rfl) ?_
    refine WL.nil ?_
    refine thn_n ?_
    refine WP.ret ?_
    refine ret_of Try.results12 (RV.tmp (v := (.bool true)) rfl RV.nil) ?_
    exact ⟨rfl, h_67.chgS⟩
namespace macBoundsDone
open Go.ChangeShapes Go.WideShapes Go.ChangeAt
theorem own : ownKnob Try.prog.godebug = none := by kernel_rfl
theorem laidOut : laidOutB Try.prog = true := by kernel_rfl
set_option maxRecDepth 100000 in
theorem lifted (os : Os) (started : os.Started) (H : Type) (enc : TypeId × Value → H) :
    ReturnsInHanded {} Try.checked os 12 .any (Rows.macBoundsSpec.pre6 enc Try.prog Try.f12 Rows.macBoundsRow.domain false) (Rows.macBoundsSpec.post enc Try.prog Try.f12 false true false false) := by
  refine returnsInHanded_of_change (C := Try.checked) own started (by kernel_rfl) Try.func12
    (ChangeSpec.witness6 (enc := enc) (C := Try.checked) false ⟨#[], #[], []⟩ 8 (by kernel_rfl) (by kernel_rfl) (by kernel_rfl) (by kernel_rfl)) ?_
  intro W base args ds gs before hval0 hW hcnd _
  have hval : ∀ (j : Nat) t v, Try.f12.params[j]? = some t → args[j]? = some v → Value.okWide Try.prog W .any base t v := hval0
  have hW' := hW
  obtain ⟨p, q, hA0, hV, rfl, hfz, hnd⟩ := hW
  have hA : DataW.TrodAll enc Try.prog W 0 (fun _ => true) true Try.f12.params.toList args.toList ds p := hA0
  rw [Try.params12] at hA hval
  obtain ⟨hargs, rfl, rfl⟩ := trodAll_nil hA
  obtain rfl : args = #[] := by cases args; simp_all
  obtain ⟨rfl, rfl⟩ := trodVars_none hV
  clear hA0 hval0
  have hw : Cs Try.prog 12 [].toArray W (fun v w1 => v = .bool true ∧ Chg W w1 []) := w_MacBounds W
  have ea : ([] : List Value).toArray = (#[] : Array Value) := by simp [flat]
  rw [ea] at hw
  refine Calls.mono (Cs.below hw) fun e W' ⟨he, bel⟩ => ?_
  subst he
  exact ⟨_, rfl, _, _, _, [], _, [], hW', trodAll_mk1 (shut_bool Try.underlying4 _), trodAll_mk0, rfl, bel.frame _, fun h => by cases h⟩
theorem over : Rows.macBoundsRow.holds Try.pinned (OpenSpec.ofChange Rows.macBoundsSpec) :=
  OpenClaim.holds_of_wide 12 Try.f12 rfl rfl rfl rfl rfl rfl rfl ⟨rfl, rfl, rfl, rfl, rfl⟩ rfl rfl rfl rfl rfl (by kernel_rfl) Try.func12 (by kernel_rfl)
    (of_decide_eq_true (by kernel_rfl)) (by unfold Func.isWrapper; first | (rw [if_pos (by decide +kernel)]; kernel_rfl) | (rw [if_neg (by decide +kernel)]; exact ⟨rfl, rfl⟩))
    (fun os started H enc _ => lifted os started H enc)
theorem proved : Rows.MacBoundsSaid := over
end macBoundsDone
end Go.Proofs.Ytelkjcigdhgcoaa
