/- AesBounds holds of every input. Conditions: none. -/
import Derived.Test.YtcmgadjnammahaaE4
namespace Go.Proofs.Ytcmgadjnammahaa
open Go.Vc Go.Ax Go.RowKit
set_option linter.unusedVariables false
set_option linter.unusedSimpArgs false
set_option maxRecDepth 20000
theorem inv_bound {k : Nat} (h1 : 0 < k) (h2 : k < 256) : tm (UInt8.ofNat k) (inv (UInt8.ofNat k)) = 1 := by
  refine inv_mul _ fun e => ?_
  have := congrArg UInt8.toNat e
  simp at this
  omega

theorem c_Mask_e2 (key nonce : List UInt8) (hkey : key.length = 16) (hno : nonce.length = 8) (a : Option Addr) (n cap : Nat) (h : 1048576 < n) (w : World) :
    Cs Try.prog 56 [(.agg ⟨key.map vu8⟩), (.agg ⟨nonce.map vu8⟩), (.slice a n cap)].toArray w (fun v w1 => v = (.tuple [(.slice none 0 0), (vi 2)].toArray) ∧ Chg w w1 []) := by
  refine Cs.of (n := 39) (args := [(.agg ⟨key.map vu8⟩), (.agg ⟨nonce.map vu8⟩), (.slice a n cap)]) Try.func56 rfl rfl rfl ?_
  have h_0 := HP.init w
  refine WP.seq ?_
  refine WP.reg ?_
  refine WL.box (v := (.agg ⟨key.map vu8⟩)) (segs := [(16, key.map vu8)]) h_0 rfl rfl (SsOk.cons (SOk.u8 hkey) SsOk.nil) rfl (fun b_1 w_2 h_3 => ?_)
  refine WL.box (v := (.agg ⟨nonce.map vu8⟩)) (segs := [(8, nonce.map vu8)]) h_3 rfl rfl (SsOk.cons (SOk.u8 hno) SsOk.nil) rfl (fun b_4 w_5 h_6 => ?_)
  refine WL.q (Wn.no rfl) rfl rfl (R.assign (v := (.slice none 0 0)) rfl) ?_
  refine WL.q (Wn.no rfl) rfl rfl (R.assign (v := (vi 0)) rfl) ?_
  refine WL.nil ?_
  refine thn_n ?_
  refine WP.seq ?_
  refine WP.reg ?_
  refine WL.q (Wn.no rfl) rfl rfl (R.loadA (b := b_1) (off := 0) [] [(16, key.map vu8)] [] (cs := key.map vu8) rfl Try.isAgg66 Try.sizeOf66 (h_6.ok _ (.tail _ (.head _))) rfl rfl rfl rfl) ?_
  refine WL.q (Wn.no rfl) rfl rfl (R.loadA (b := b_4) (off := 0) [] [(8, nonce.map vu8)] [] (cs := nonce.map vu8) rfl Try.isAgg67 Try.sizeOf67 (h_6.ok _ (.head _)) rfl rfl rfl rfl) ?_
  refine WL.q (Wn.no rfl) rfl rfl (R.move (v := (.slice a n cap)) rfl) ?_
  refine WL.q (Wn.no rfl) rfl rfl (R.lenS (a := a) (m := n) rfl rfl Try.underlying23) ?_
  refine WL.call (al := [(.agg ⟨key.map vu8⟩), (.agg ⟨nonce.map vu8⟩), (vi ((n : Nat) : Int))]) Try.call53 rfl rfl (c_Stream_e2 key nonce hkey hno ((n : Nat) : Int) (by omega) _ ) rfl ?_
  rintro _ w_8 ⟨rfl, hc_7⟩
  have h_9 := h_6.same hc_7
  refine WL.q (Wn.no rfl) rfl rfl (R.move (v := (.tuple [(.slice none 0 0), (vi 2)].toArray)) rfl) ?_
  refine WL.q (Wn.no rfl) rfl rfl (R.extract (l := [(.slice none 0 0), (vi 2)]) (v := (.slice none 0 0)) rfl rfl) ?_
  refine WL.q (Wn.no rfl) rfl rfl (R.extract (l := [(.slice none 0 0), (vi 2)]) (v := (vi 2)) rfl rfl) ?_
  refine WL.q (Wn.no rfl) rfl rfl (R.assign (v := (.slice none 0 0)) rfl) ?_
  refine WL.q (Wn.no rfl) rfl rfl (R.assign (v := (vi 2)) rfl) ?_
  refine WL.nil ?_
  refine thn_n ?_
  refine WP.seq ?_
  refine WP.seq ?_
  refine WP.reg ?_
  refine WL.q (Wn.no rfl) rfl rfl (R.move (v := (vi 2)) rfl) ?_
  refine WL.q (Wn.no rfl) rfl rfl (R.bin (v := (.bool true)) rfl rfl (bi_neq (r := true) (by decide))) ?_
  refine WL.nil ?_
  refine thn_n ?_
  refine WP.condT rfl ?_
  refine WP.seq ?_
  refine WP.reg ?_
  refine WL.q (Wn.no rfl) rfl rfl (R.move (v := (vi 2)) rfl) ?_
  refine WL.q (Wn.no rfl) rfl rfl (R.assign (v := (.slice none 0 0)) rfl) ?_
  refine WL.q (Wn.no rfl) rfl rfl (R.assign (v := (vi 2)) rfl) ?_
  refine WL.nil ?_
  refine thn_n ?_
  refine WP.ret ?_
  refine thn_r ?_
  refine ret_of Try.results56 (RV.tmp (v := (.slice none 0 0)) rfl (RV.tmp (v := (vi 2)) rfl RV.nil)) ?_
  exact ⟨rfl, h_9.chgS⟩

theorem w_AesBounds  (w : World) :
    Cs Try.prog 12 [].toArray w (fun v w1 => v = .bool true ∧ Chg w w1 []) := by
  refine Cs.of (n := 64) (args := []) Try.func12 rfl rfl rfl ?_
  have h_0 := HP.init w
  refine WP.seq ?_
  refine WP.reg ?_
  refine WL.q (Wn.no rfl) rfl rfl (R.assign (v := (.bool false)) rfl) ?_
  refine WL.nil ?_
  refine thn_n ?_
  refine WP.seq ?_
  refine WP.seq ?_
  refine WP.reg ?_
  refine WL.q (Wn.no rfl) rfl rfl (R.assign (v := (vi 0)) rfl) ?_
  refine WL.nil ?_
  refine thn_n ?_
  refine WP.block ?_
  refine WP.loopG (G := Nat) [0, 1, 2, 7, 8, 9, 10, 11, 12, 13, 14, 15, 16, 17, 18, 19, 20, 21, 22, 23, 24, 25, 26, 27, 28, 29, 30, 31, 32, 33, 34, 35] (fun k => [(1, (vi ((k : Nat) : Int)))]) (fun k m w1 => HP w w1 [] ∧ (k ≤ 256) ∧ m = 256 - k) ⟨0, _, ⟨rfl, trivial⟩, h_0, (by omega), rfl⟩ ?_
  rintro k m_3 J_4 w_1 ⟨h_2, hk, rfl⟩
  refine WP.seq ?_
  refine WP.seq ?_
  refine WP.reg ?_
  refine WL.q (Wn.no rfl) rfl rfl (R.move (v := (vi ((k : Nat) : Int))) rfl) ?_
  refine WL.q (Wn.no rfl) rfl rfl (R.bin (v := (.bool (decide ((((k : Nat) : Int) : Int) < 256)))) rfl rfl (bi_lss (r := decide ((((k : Nat) : Int) : Int) < 256)) rfl)) ?_
  refine WL.nil ?_
  refine thn_n ?_
  refine WP.cond (b := decide ((((k : Nat) : Int) : Int) < 256)) rfl (fun c_5 => ?_) (fun c_5 => ?_)
  · have p_6 := of_decide_eq_true c_5
    refine WP.skip ?_
    refine thn_n ?_
    refine WP.seq ?_
    refine WP.block ?_
    refine WP.seq ?_
    refine WP.reg ?_
    refine WL.q (Wn.no rfl) rfl rfl (R.move (v := (vi ((k : Nat) : Int))) rfl) ?_
    refine WL.q (Wn.no rfl) rfl rfl (R.conv (b := ((UInt8.ofNat k) : UInt8).toNat) rfl Try.underlying3 Try.underlying5 (w8_nat k)) ?_
    refine WL.q (Wn.no rfl) rfl rfl (R.assign (v := (vu8 (UInt8.ofNat k))) rfl) ?_
    refine WL.nil ?_
    refine thn_n ?_
    refine WP.seq ?_
    refine WP.reg ?_
    refine WL.q (Wn.no rfl) rfl rfl (R.move (v := (vu8 (UInt8.ofNat k))) rfl) ?_
    refine WL.call (al := [(vu8 (UInt8.ofNat k))]) Try.call39 rfl rfl (c_Sub (UInt8.ofNat k) _ ) rfl ?_
    rintro _ w_8 ⟨rfl, hc_7⟩
    have h_9 := h_2.same hc_7
    refine WL.q (Wn.no rfl) rfl rfl (R.move (v := (vu8 (UInt8.ofNat k))) rfl) ?_
    refine WL.call (al := [(vu8 (UInt8.ofNat k))]) Try.call40 rfl rfl (c_SubR (UInt8.ofNat k) _ ) rfl ?_
    rintro _ w_11 ⟨rfl, hc_10⟩
    have h_12 := h_9.same hc_10
    refine WL.q (Wn.no rfl) rfl rfl (R.bin (v := (.bool false)) rfl rfl (b8_neq (sub (UInt8.ofNat k)) (sub (UInt8.ofNat k)) (r := false) (by simp))) ?_
    refine WL.q (Wn.no rfl) rfl rfl (R.move (v := (.bool false)) rfl) ?_
    refine WL.want rfl rfl ?_
    refine WL.q (Wn.no rfl) rfl rfl (R.move (v := (vu8 (UInt8.ofNat k))) rfl) ?_
    refine WL.want rfl rfl ?_
    refine WL.call (al := [(vu8 (UInt8.ofNat k))]) Try.call39 rfl rfl (c_Sub (UInt8.ofNat k) _ ) rfl ?_
    rintro _ w_14 ⟨rfl, hc_13⟩
    have h_15 := h_12.same hc_13
    refine WL.want rfl rfl ?_
    refine WL.call (al := [(vu8 (sub (UInt8.ofNat k)))]) Try.call41 rfl rfl (c_Unsub (sub (UInt8.ofNat k)) _ ) rfl ?_
    rintro _ w_17 ⟨rfl, hc_16⟩
    have h_18 := h_15.same hc_16
    refine WL.want rfl rfl ?_
    refine WL.q (Wn.no rfl) rfl rfl (R.move (v := (vu8 (UInt8.ofNat k))) rfl) ?_
    refine WL.want rfl rfl ?_
    refine WL.q (Wn.no rfl) rfl rfl (R.bin (v := (.bool false)) rfl rfl (b8_neq (unsub (sub (UInt8.ofNat k))) (UInt8.ofNat k) (r := false) (decide_eq_false (fun h => h (unsub_sub _))))) ?_
    refine WL.q (Wn.no rfl) rfl rfl (R.pickF (v := (.bool false)) rfl rfl) ?_
    refine WL.q (Wn.no rfl) rfl rfl (R.move (v := (.bool false)) rfl) ?_
    refine WL.want rfl rfl ?_
    refine WL.q (Wn.no rfl) rfl rfl (R.move (v := (vi ((k : Nat) : Int))) rfl) ?_
    refine WL.want rfl rfl ?_
    refine WL.q (Wn.no rfl) rfl rfl (R.bin (v := (.bool (decide ((((k : Nat) : Int) : Int) > 0)))) rfl rfl (bi_gtr (r := decide ((((k : Nat) : Int) : Int) > 0)) rfl)) ?_
    refine WL.want rfl rfl ?_
    refine WL.q (Wn.no rfl) rfl rfl (R.move (v := (.bool (decide ((((k : Nat) : Int) : Int) > 0)))) rfl) ?_
    rcases Bool.eq_false_or_eq_true (decide ((((k : Nat) : Int) : Int) > 0)) with c_19 | c_19
    · have p_20 := of_decide_eq_true c_19
      refine WL.want rfl (congrArg Value.bool c_19) ?_
      refine WL.q (Wn.no rfl) rfl rfl (R.move (v := (vu8 (UInt8.ofNat k))) rfl) ?_
      refine WL.want rfl (congrArg Value.bool c_19) ?_
      refine WL.q (Wn.no rfl) rfl rfl (R.move (v := (vu8 (UInt8.ofNat k))) rfl) ?_
      refine WL.want rfl (congrArg Value.bool c_19) ?_
      refine WL.call (al := [(vu8 (UInt8.ofNat k))]) Try.call37 rfl rfl (c_Inverse (UInt8.ofNat k) _ ) rfl ?_
      rintro _ w_22 ⟨rfl, hc_21⟩
      have h_23 := h_18.same hc_21
      refine WL.want rfl (congrArg Value.bool c_19) ?_
      refine WL.call (al := [(vu8 (UInt8.ofNat k)), (vu8 (inv (UInt8.ofNat k)))]) Try.call35 rfl rfl (c_Times (UInt8.ofNat k) (inv (UInt8.ofNat k)) _ ) rfl ?_
      rintro _ w_25 ⟨rfl, hc_24⟩
      have h_26 := h_23.same hc_24
      refine WL.want rfl (congrArg Value.bool c_19) ?_
      refine WL.q (Wn.no rfl) rfl rfl (R.bin (v := (.bool false)) rfl rfl (b8_neq (tm (UInt8.ofNat k) (inv (UInt8.ofNat k))) 1 (r := false) (decide_eq_false (fun h => h (inv_bound (by omega) (by omega)))))) ?_
      refine WL.want rfl rfl ?_
      refine WL.q (Wn.no rfl) rfl rfl (R.pickT (v := (.bool false)) (congrArg Value.bool c_19) rfl) ?_
      refine WL.q (Wn.no rfl) rfl rfl (R.pickF (v := (.bool false)) rfl rfl) ?_
      refine WL.nil ?_
      refine thn_n ?_
      refine WP.condF rfl ?_
      refine WP.skip ?_
      refine inb_n ?_
      refine thn_n ?_
      refine WP.reg ?_
      refine WL.q (Wn.no rfl) rfl rfl (R.move (v := (vi ((k : Nat) : Int))) rfl) ?_
      refine WL.q (Wn.no rfl) rfl rfl (R.bin (v := (vi ((k + 1 : Nat) : Int))) rfl rfl (bi_add (c := ((k + 1 : Nat) : Int)) (by omega) (by omega))) ?_
      refine WL.q (Wn.no rfl) rfl rfl (R.assign (v := (vi ((k + 1 : Nat) : Int))) rfl) ?_
      refine WL.nil ?_
      refine thn_n ?_
      exact ⟨k + 1, _, (by omega), (Ag.upd rfl (Ag.upd rfl (Ag.upd rfl (Ag.upd rfl (Ag.upd rfl (Ag.upd rfl (Ag.upd rfl (Ag.upd rfl (Ag.upd rfl (Ag.upd rfl (Ag.upd rfl (Ag.upd rfl (Ag.upd rfl (Ag.upd rfl (Ag.upd rfl (Ag.upd rfl (Ag.upd rfl (Ag.upd rfl (Ag.upd rfl (Ag.upd rfl (Ag.upd rfl (Ag.upd rfl (Ag.upd rfl (Ag.upd rfl (Ag.upd rfl (Ag.upd rfl (Ag.upd rfl (Ag.upd rfl (Ag.upd rfl (Ag.upd rfl (Ag.upd rfl (Ag.updL rfl (Ag.mix _ _ _))))))))))))))))))))))))))))))))), ⟨rfl, trivial⟩, h_26, (by omega), rfl⟩
    · have p_27 := of_decide_eq_false c_19
      refine WL.skip rfl (congrArg Value.bool c_19) rfl ?_
      refine WL.skip rfl (congrArg Value.bool c_19) rfl ?_
      refine WL.skip rfl (congrArg Value.bool c_19) rfl ?_
      refine WL.skip rfl (congrArg Value.bool c_19) rfl ?_
      refine WL.skip rfl (congrArg Value.bool c_19) rfl ?_
      refine WL.want rfl rfl ?_
      refine WL.q (Wn.no rfl) rfl rfl (R.pickF (v := (.bool false)) (congrArg Value.bool c_19) rfl) ?_
      refine WL.q (Wn.no rfl) rfl rfl (R.pickF (v := (.bool false)) rfl rfl) ?_
      refine WL.nil ?_
      refine thn_n ?_
      refine WP.condF rfl ?_
      refine WP.skip ?_
      refine inb_n ?_
      refine thn_n ?_
      refine WP.reg ?_
      refine WL.q (Wn.no rfl) rfl rfl (R.move (v := (vi ((k : Nat) : Int))) rfl) ?_
      refine WL.q (Wn.no rfl) rfl rfl (R.bin (v := (vi ((k + 1 : Nat) : Int))) rfl rfl (bi_add (c := ((k + 1 : Nat) : Int)) (by omega) (by omega))) ?_
      refine WL.q (Wn.no rfl) rfl rfl (R.assign (v := (vi ((k + 1 : Nat) : Int))) rfl) ?_
      refine WL.nil ?_
      refine thn_n ?_
      exact ⟨k + 1, _, (by omega), (Ag.upd rfl (Ag.upd rfl (Ag.upd rfl (Ag.upd rfl (Ag.upd rfl (Ag.upd rfl (Ag.upd rfl (Ag.upd rfl (Ag.upd rfl (Ag.upd rfl (Ag.upd rfl (Ag.upd rfl (Ag.upd rfl (Ag.upd rfl (Ag.upd rfl (Ag.upd rfl (Ag.upd rfl (Ag.upd rfl (Ag.upd rfl (Ag.upd rfl (Ag.upd rfl (Ag.upd rfl (Ag.upd rfl (Ag.upd rfl (Ag.upd rfl (Ag.upd rfl (Ag.upd rfl (Ag.upd rfl (Ag.upd rfl (Ag.upd rfl (Ag.upd rfl (Ag.updL rfl (Ag.mix _ _ _))))))))))))))))))))))))))))))))), ⟨rfl, trivial⟩, h_18, (by omega), rfl⟩
  · have p_28 := of_decide_eq_false c_5
    refine WP.exit ?_
    refine thn_x ?_
    refine thn_x ?_
    refine inb_hit ?_
    refine thn_n ?_
    refine WP.seq ?_
    refine WP.reg ?_
    refine WL.q (Wn.no rfl) rfl rfl (R.buildA (vs := []) (cs := (List.replicate 16 (0 : UInt8)).map vu8) Try.underlying66 Try.sizeOf5 (zv Try.typeInfo66 rfl) rfl rfl) ?_
    refine WL.q (Wn.no rfl) rfl rfl (R.buildA (vs := []) (cs := (List.replicate 8 (0 : UInt8)).map vu8) Try.underlying67 Try.sizeOf5 (zv Try.typeInfo67 rfl) rfl rfl) ?_
    refine WL.call (al := [(.agg ⟨(List.replicate 16 (0 : UInt8)).map vu8⟩), (.agg ⟨(List.replicate 8 (0 : UInt8)).map vu8⟩), (vi 1048577)]) Try.call53 rfl rfl (c_Stream_e2 (List.replicate 16 (0 : UInt8)) (List.replicate 8 (0 : UInt8)) (List.length_replicate ..) (List.length_replicate ..) 1048577 (by omega) _ ) rfl ?_
    rintro _ w_30 ⟨rfl, hc_29⟩
    have h_31 := h_2.same hc_29
    refine WL.q (Wn.no rfl) rfl rfl (R.move (v := (.tuple [(.slice none 0 0), (vi 2)].toArray)) rfl) ?_
    refine WL.q (Wn.no rfl) rfl rfl (R.extract (l := [(.slice none 0 0), (vi 2)]) (v := (.slice none 0 0)) rfl rfl) ?_
    refine WL.q (Wn.no rfl) rfl rfl (R.extract (l := [(.slice none 0 0), (vi 2)]) (v := (vi 2)) rfl rfl) ?_
    refine WL.q (Wn.no rfl) rfl rfl (R.assign (v := (.slice none 0 0)) rfl) ?_
    refine WL.q (Wn.no rfl) rfl rfl (R.assign (v := (vi 2)) rfl) ?_
    refine WL.nil ?_
    refine thn_n ?_
    refine WP.seq ?_
    refine WP.reg ?_
    refine WL.q (Wn.no rfl) rfl rfl (R.buildA (vs := []) (cs := (List.replicate 16 (0 : UInt8)).map vu8) Try.underlying66 Try.sizeOf5 (zv Try.typeInfo66 rfl) rfl rfl) ?_
    refine WL.q (Wn.no rfl) rfl rfl (R.buildA (vs := []) (cs := (List.replicate 8 (0 : UInt8)).map vu8) Try.underlying67 Try.sizeOf5 (zv Try.typeInfo67 rfl) rfl rfl) ?_
    refine WL.makeSl (m := 1048577) (i := Try.t5) (z := vu8 0) h_31 rfl rfl Try.underlying23 rfl rfl rfl rfl (by decide) (by decide) rfl (fun b_32 w_33 h_34 => ?_)
    rw [show List.replicate 1048577 (vu8 0) = (List.replicate 1048577 (0 : UInt8)).map vu8 from (List.map_replicate ..).symm] at h_34
    refine WL.call (al := [(.agg ⟨(List.replicate 16 (0 : UInt8)).map vu8⟩), (.agg ⟨(List.replicate 8 (0 : UInt8)).map vu8⟩), (.slice (some ⟨b_32, 0, none⟩) 1048577 1048577)]) Try.call56 rfl rfl (c_Mask_e2 (List.replicate 16 (0 : UInt8)) (List.replicate 8 (0 : UInt8)) (List.length_replicate ..) (List.length_replicate ..) (some ⟨b_32, 0, none⟩) 1048577 1048577 (by decide) _ ) rfl ?_
    rintro _ w_37 ⟨rfl, hc_36⟩
    have h_38 := h_34.same hc_36
    refine WL.q (Wn.no rfl) rfl rfl (R.move (v := (.tuple [(.slice none 0 0), (vi 2)].toArray)) rfl) ?_
    refine WL.q (Wn.no rfl) rfl rfl (R.extract (l := [(.slice none 0 0), (vi 2)]) (v := (.slice none 0 0)) rfl rfl) ?_
    refine WL.q (Wn.no rfl) rfl rfl (R.extract (l := [(.slice none 0 0), (vi 2)]) (v := (vi 2)) rfl rfl) ?_
    refine WL.q (Wn.no rfl) rfl rfl (R.assign (v := (.slice none 0 0)) rfl) ?_
    refine WL.q (Wn.no rfl) rfl rfl (R.assign (v := (vi 2)) rfl) ?_
    refine WL.nil ?_
    refine thn_n ?_
    refine WP.seq ?_
    refine WP.reg ?_
    refine WL.q (Wn.no rfl) rfl rfl (R.move (v := (vi 2)) rfl) ?_
    refine WL.call (al := [(vi 2)]) Try.call54 rfl rfl (c_num4 2 (by omega) _ ) rfl ?_
    rintro _ w_40 ⟨rfl, hc_39⟩
    have h_41 := h_38.same hc_39
    refine WL.q (Wn.no rfl) rfl rfl (R.bin (v := (.bool true)) rfl rfl (bi_eql (r := true) (by decide))) ?_
    refine WL.q (Wn.no rfl) rfl rfl (R.move (v := (.bool true)) rfl) ?_
    refine WL.want rfl rfl ?_
    refine WL.q (Wn.no rfl) rfl rfl (R.move (v := (vi 2)) rfl) ?_
    refine WL.want rfl rfl ?_
    refine WL.call (al := [(vi 2)]) Try.call54 rfl rfl (c_num4 2 (by omega) _ ) rfl ?_
    rintro _ w_43 ⟨rfl, hc_42⟩
    have h_44 := h_41.same hc_42
    refine WL.want rfl rfl ?_
    refine WL.q (Wn.no rfl) rfl rfl (R.bin (v := (.bool true)) rfl rfl (bi_eql (r := true) (by decide))) ?_
    refine WL.q (Wn.no rfl) rfl rfl (R.pickT (v := (.bool true)) rfl rfl) ?_
    refine WL.q (Wn.no rfl) rfl rfl (R.move (v := (.bool true)) rfl) ?_
    refine WL.want rfl rfl ?_
    refine WL.call (al := [(vu8 0)]) Try.call37 rfl rfl (c_Inverse (0 : UInt8) _ ) rfl ?_
    rintro _ w_46 ⟨rfl, hc_45⟩
    have h_47 := h_44.same hc_45
    refine WL.want rfl rfl ?_
    refine WL.q (Wn.no rfl) rfl rfl (R.bin (v := (.bool true)) rfl rfl (b8_eql (inv (0 : UInt8)) 0 (r := true) (by decide +kernel))) ?_
    refine WL.q (Wn.no rfl) rfl rfl (R.pickT (v := (.bool true)) rfl rfl) ?_
    refine WL.q (Wn.no rfl) rfl rfl (R.move (v := (.bool true)) rfl) ?_
    refine WL.want rfl rfl ?_
    refine WL.call (al := []) Try.call43 rfl rfl (c_known4  _ ) rfl ?_
    rintro _ w_49 ⟨rfl, hc_48⟩
    have h_50 := h_47.same hc_48
    refine WL.q (Wn.no rfl) rfl rfl (R.pickT (v := (.bool true)) rfl rfl) ?_
    refine WL.q (Wn.no rfl) rfl rfl (R.assign (v := (.bool true)) rfl) ?_
    refine WL.nil ?_
    refine thn_n ?_
    refine WP.ret ?_
    refine ret_of Try.results12 (RV.tmp (v := (.bool true)) rfl RV.nil) ?_
    exact ⟨rfl, h_50.chgS⟩
namespace aesBoundsDone
open Go.ChangeShapes Go.WideShapes Go.ChangeAt
theorem own : ownKnob Try.prog.godebug = none := by kernel_rfl
theorem laidOut : laidOutB Try.prog = true := by kernel_rfl
set_option maxRecDepth 100000 in
theorem lifted (os : Os) (started : os.Started) (H : Type) (enc : TypeId × Value → H) :
    ReturnsInHanded {} Try.checked os 12 .any (Rows.aesBoundsSpec.pre6 enc Try.prog Try.f12 Rows.aesBoundsRow.domain false) (Rows.aesBoundsSpec.post enc Try.prog Try.f12 false true false false) := by
  refine returnsInHanded_of_change (C := Try.checked) own started (by kernel_rfl) Try.func12
    (ChangeSpec.witness6 (enc := enc) (C := Try.checked) false ⟨#[], #[], []⟩ 8 (by kernel_rfl) (by kernel_rfl) (by kernel_rfl) (by kernel_rfl)) ?_
  intro W base args ds gs before hval0 hW hcnd _
  have hval : ∀ (j : Nat) t v, Try.f12.params[j]? = some t → args[j]? = some v → Value.okWide Try.prog W .any base t v := hval0
  have hW' := hW
  obtain ⟨p, q, hA0, hV, rfl, hfz, hnd⟩ := hW
  have hA : DataW.TrodAll enc Try.prog W 0 (fun _ => true) true Try.f12.params.toList args.toList ds p := hA0
  rw [Try.params12] at hA hval
  obtain ⟨hargs, rfl, rfl⟩ := trodAll_nil hA
  obtain rfl : args = #[] := by cases args; simp_all
  obtain ⟨rfl, rfl⟩ := trodVars_none hV
  clear hA0 hval0
  have hw : Cs Try.prog 12 [].toArray W (fun v w1 => v = .bool true ∧ Chg W w1 []) := w_AesBounds W
  have ea : ([] : List Value).toArray = (#[] : Array Value) := by simp [flat]
  rw [ea] at hw
  refine Calls.mono (Cs.below hw) fun e W' ⟨he, bel⟩ => ?_
  subst he
  exact ⟨_, rfl, _, _, _, [], _, [], hW', trodAll_mk1 (shut_bool Try.underlying4 _), trodAll_mk0, rfl, bel.frame _, fun h => by cases h⟩
theorem over : Rows.aesBoundsRow.holds Try.pinned (OpenSpec.ofChange Rows.aesBoundsSpec) :=
  OpenClaim.holds_of_wide 12 Try.f12 rfl rfl rfl rfl rfl rfl rfl ⟨rfl, rfl, rfl, rfl, rfl⟩ rfl rfl rfl rfl rfl (by kernel_rfl) Try.func12 (by kernel_rfl)
    (of_decide_eq_true (by kernel_rfl)) (by unfold Func.isWrapper; first | (rw [if_pos (by decide +kernel)]; kernel_rfl) | (rw [if_neg (by decide +kernel)]; exact ⟨rfl, rfl⟩))
    (fun os started H enc _ => lifted os started H enc)
theorem proved : Rows.AesBoundsSaid := over
end aesBoundsDone
end Go.Proofs.Ytcmgadjnammahaa
