/- AesBack holds of every input. Conditions: none. -/
import Derived.Test.YtcmgadjnammahaaS2
namespace Go.Proofs.Ytcmgadjnammahaa
open Go.Vc Go.Ax Go.RowKit
set_option linter.unusedVariables false
set_option linter.unusedSimpArgs false
set_option maxRecDepth 20000
theorem aggT66 : aggB Try.prog 66 = true := by unfold aggB; rw [Try.underlying66]
theorem aggT67 : aggB Try.prog 67 = true := by unfold aggB; rw [Try.underlying67]
theorem ce5 : Try.prog.cellsOf 5 = 1 := by kernel_rfl
theorem ce66 : Try.prog.cellsOf 66 = 16 := by kernel_rfl
theorem ce67 : Try.prog.cellsOf 67 = 8 := by kernel_rfl
theorem kt66 : Try.prog.keyTypeAt 2 66 = true := by kernel_rfl
theorem ag66 : aggB Try.prog 66 = true := by unfold aggB; rw [Try.underlying66]
theorem w_AesBack (key blk nonce : List UInt8) (hkey : key.length = 16) (hbl : blk.length = 16) (hno : nonce.length = 8) (a3 : Option Addr) (n3 cap3 : Nat) (bs : List UInt8) (hl3 : bs.length = n3) (hcm : n3 ≤ 9223372036854775807) (w : World) (hv3 : View w a3 (bs.map vu8)) :
    Cs Try.prog 15 [(.agg ⟨key.map vu8⟩), (.agg ⟨blk.map vu8⟩), (.agg ⟨nonce.map vu8⟩), (.slice a3 n3 cap3)].toArray w (fun v w1 => v = .bool true ∧ Chg w w1 []) := by
  refine Cs.of (n := 104) (args := [(.agg ⟨key.map vu8⟩), (.agg ⟨blk.map vu8⟩), (.agg ⟨nonce.map vu8⟩), (.slice a3 n3 cap3)]) Try.func15 rfl rfl rfl ?_
  have h_0 := HP.init w
  have h_00 := h_0.old (View.arg hv3) (fun f hf => by cases hf)
  refine WP.seq ?_
  refine WP.reg ?_
  refine WL.box (v := (.agg ⟨key.map vu8⟩)) (segs := [(16, key.map vu8)]) h_00 rfl rfl (SsOk.cons (SOk.u8 hkey) SsOk.nil) rfl (fun b_1 w_2 h_3 => ?_)
  refine WL.box (v := (.agg ⟨blk.map vu8⟩)) (segs := [(16, blk.map vu8)]) h_3 rfl rfl (SsOk.cons (SOk.u8 hbl) SsOk.nil) rfl (fun b_4 w_5 h_6 => ?_)
  refine WL.box (v := (.agg ⟨nonce.map vu8⟩)) (segs := [(8, nonce.map vu8)]) h_6 rfl rfl (SsOk.cons (SOk.u8 hno) SsOk.nil) rfl (fun b_7 w_8 h_9 => ?_)
  refine WL.q (Wn.no rfl) rfl rfl (R.assign (v := (.bool false)) rfl) ?_
  refine WL.nil ?_
  refine thn_n ?_
  refine WP.seq ?_
  refine WP.seq ?_
  refine WP.reg ?_
  refine WL.call (al := []) Try.call43 rfl rfl (c_known4  _ ) rfl ?_
  rintro _ w_11 ⟨rfl, hc_10⟩
  have h_12 := h_9.same hc_10
  refine WL.q (Wn.no rfl) rfl rfl (R.not (b := true) rfl) ?_
  refine WL.nil ?_
  refine thn_n ?_
  refine WP.condF rfl ?_
  refine WP.skip ?_
  refine thn_n ?_
  refine WP.seq ?_
  refine WP.seq ?_
  refine WP.reg ?_
  refine WL.q (Wn.no rfl) rfl rfl (R.move (v := (.slice a3 n3 cap3)) rfl) ?_
  refine WL.q (Wn.no rfl) rfl rfl (R.lenS (a := a3) (m := n3) rfl rfl Try.underlying23) ?_
  refine WL.q (Wn.no rfl) rfl rfl (R.bin (v := (.bool (decide ((((n3 : Nat) : Int) : Int) > 600)))) rfl rfl (bi_gtr (r := decide ((((n3 : Nat) : Int) : Int) > 600)) rfl)) ?_
  refine WL.nil ?_
  refine thn_n ?_
  refine WP.cond (b := decide ((((n3 : Nat) : Int) : Int) > 600)) rfl (fun c_13 => ?_) (fun c_13 => ?_)
  · have p_14 := of_decide_eq_true c_13
    refine WP.seq ?_
    refine WP.reg ?_
    refine WL.q (Wn.no rfl) rfl rfl (R.assign (v := (.bool true)) rfl) ?_
    refine WL.nil ?_
    refine thn_n ?_
    refine WP.ret ?_
    refine thn_r ?_
    refine ret_of Try.results15 (RV.tmp (v := (.bool true)) rfl RV.nil) ?_
    exact ⟨rfl, h_12.chgS⟩
  · have p_15 := of_decide_eq_false c_13
    refine WP.skip ?_
    refine thn_n ?_
    refine WP.seq ?_
    refine WP.reg ?_
    refine WL.q (Wn.no rfl) rfl rfl (R.loadA (b := b_1) (off := 0) [] [(16, key.map vu8)] [] (cs := key.map vu8) rfl Try.isAgg66 Try.sizeOf66 (h_12.ok _ (.tail _ (.tail _ (.head _)))) rfl rfl rfl rfl) ?_
    refine WL.q (Wn.no rfl) rfl rfl (R.loadA (b := b_7) (off := 0) [] [(8, nonce.map vu8)] [] (cs := nonce.map vu8) rfl Try.isAgg67 Try.sizeOf67 (h_12.ok _ (.head _)) rfl rfl rfl rfl) ?_
    refine WL.q (Wn.no rfl) rfl rfl (R.move (v := (.slice a3 n3 cap3)) rfl) ?_
    refine WL.call (al := [(.agg ⟨key.map vu8⟩), (.agg ⟨nonce.map vu8⟩), (.slice a3 n3 cap3)]) Try.call56 rfl rfl (c_Mask_n key nonce hkey hno a3 n3 cap3 bs hl3 (by omega) _ (viewV (h_12.ok _ (.tail _ (.tail _ (.tail _ (.head _))))))) rfl ?_
    rintro _ w_17 ⟨a_16, rfl, hc_18, ho_19⟩
    have h_20 := h_12.gotRow hc_18 ho_19
    refine WL.q (Wn.no rfl) rfl rfl (R.move (v := (.tuple [(.slice a_16 n3 n3), (vi 0)].toArray)) rfl) ?_
    refine WL.q (Wn.no rfl) rfl rfl (R.extract (l := [(.slice a_16 n3 n3), (vi 0)]) (v := (.slice a_16 n3 n3)) rfl rfl) ?_
    refine WL.q (Wn.no rfl) rfl rfl (R.extract (l := [(.slice a_16 n3 n3), (vi 0)]) (v := (vi 0)) rfl rfl) ?_
    refine WL.q (Wn.no rfl) rfl rfl (R.assign (v := (.slice a_16 n3 n3)) rfl) ?_
    refine WL.q (Wn.no rfl) rfl rfl (R.assign (v := (vi 0)) rfl) ?_
    refine WL.nil ?_
    refine thn_n ?_
    refine WP.seq ?_
    refine WP.reg ?_
    refine WL.q (Wn.no rfl) rfl rfl (R.loadA (b := b_1) (off := 0) [] [(16, key.map vu8)] [] (cs := key.map vu8) rfl Try.isAgg66 Try.sizeOf66 (h_20.ok _ (.tail _ (.tail _ (.tail _ (.head _))))) rfl rfl rfl rfl) ?_
    refine WL.q (Wn.no rfl) rfl rfl (R.loadA (b := b_7) (off := 0) [] [(8, nonce.map vu8)] [] (cs := nonce.map vu8) rfl Try.isAgg67 Try.sizeOf67 (h_20.ok _ (.tail _ (.head _))) rfl rfl rfl rfl) ?_
    refine WL.q (Wn.no rfl) rfl rfl (R.move (v := (.slice a_16 n3 n3)) rfl) ?_
    refine WL.call (al := [(.agg ⟨key.map vu8⟩), (.agg ⟨nonce.map vu8⟩), (.slice a_16 n3 n3)]) Try.call56 rfl rfl (c_Mask_n key nonce hkey hno a_16 n3 n3 (xorL (strL key nonce n3) bs) (xorL_len (strL_len hno _) hl3) (by omega) _ (ownView (h_20.ok _ (.head _)))) rfl ?_
    rintro _ w_22 ⟨a_21, rfl, hc_23, ho_24⟩
    have h_25 := h_20.gotRow hc_23 ho_24
    refine WL.q (Wn.no rfl) rfl rfl (R.move (v := (.tuple [(.slice a_21 n3 n3), (vi 0)].toArray)) rfl) ?_
    refine WL.q (Wn.no rfl) rfl rfl (R.extract (l := [(.slice a_21 n3 n3), (vi 0)]) (v := (.slice a_21 n3 n3)) rfl rfl) ?_
    refine WL.q (Wn.no rfl) rfl rfl (R.extract (l := [(.slice a_21 n3 n3), (vi 0)]) (v := (vi 0)) rfl rfl) ?_
    refine WL.q (Wn.no rfl) rfl rfl (R.assign (v := (.slice a_21 n3 n3)) rfl) ?_
    refine WL.q (Wn.no rfl) rfl rfl (R.assign (v := (vi 0)) rfl) ?_
    refine WL.nil ?_
    refine thn_n ?_
    refine WP.seq ?_
    refine WP.reg ?_
    refine WL.q (Wn.no rfl) rfl rfl (R.loadA (b := b_1) (off := 0) [] [(16, key.map vu8)] [] (cs := key.map vu8) rfl Try.isAgg66 Try.sizeOf66 (h_25.ok _ (.tail _ (.tail _ (.tail _ (.tail _ (.head _)))))) rfl rfl rfl rfl) ?_
    refine WL.q (Wn.no rfl) rfl rfl (R.loadA (b := b_7) (off := 0) [] [(8, nonce.map vu8)] [] (cs := nonce.map vu8) rfl Try.isAgg67 Try.sizeOf67 (h_25.ok _ (.tail _ (.tail _ (.head _)))) rfl rfl rfl rfl) ?_
    refine WL.q (Wn.no rfl) rfl rfl (R.move (v := (.slice a3 n3 cap3)) rfl) ?_
    refine WL.q (Wn.no rfl) rfl rfl (R.lenS (a := a3) (m := n3) rfl rfl Try.underlying23) ?_
    refine WL.call (al := [(.agg ⟨key.map vu8⟩), (.agg ⟨nonce.map vu8⟩), (vi ((n3 : Nat) : Int))]) Try.call53 rfl rfl (c_Stream_n key nonce hkey hno n3 (by omega) _) rfl ?_
    rintro _ w_27 ⟨a_26, rfl, hc_28, ho_29⟩
    have h_30 := h_25.gotRow hc_28 ho_29
    refine WL.q (Wn.no rfl) rfl rfl (R.move (v := (.tuple [(.slice a_26 n3 n3), (vi 0)].toArray)) rfl) ?_
    refine WL.q (Wn.no rfl) rfl rfl (R.extract (l := [(.slice a_26 n3 n3), (vi 0)]) (v := (.slice a_26 n3 n3)) rfl rfl) ?_
    refine WL.q (Wn.no rfl) rfl rfl (R.extract (l := [(.slice a_26 n3 n3), (vi 0)]) (v := (vi 0)) rfl rfl) ?_
    refine WL.q (Wn.no rfl) rfl rfl (R.assign (v := (.slice a_26 n3 n3)) rfl) ?_
    refine WL.q (Wn.no rfl) rfl rfl (R.assign (v := (vi 0)) rfl) ?_
    refine WL.nil ?_
    refine thn_n ?_
    refine WP.seq ?_
    refine WP.reg ?_
    refine WL.q (Wn.no rfl) rfl rfl (R.loadA (b := b_1) (off := 0) [] [(16, key.map vu8)] [] (cs := key.map vu8) rfl Try.isAgg66 Try.sizeOf66 (h_30.ok _ (.tail _ (.tail _ (.tail _ (.tail _ (.tail _ (.head _))))))) rfl rfl rfl rfl) ?_
    refine WL.q (Wn.no rfl) rfl rfl (R.loadA (b := b_7) (off := 0) [] [(8, nonce.map vu8)] [] (cs := nonce.map vu8) rfl Try.isAgg67 Try.sizeOf67 (h_30.ok _ (.tail _ (.tail _ (.tail _ (.head _))))) rfl rfl rfl rfl) ?_
    refine WL.q (Wn.no rfl) rfl rfl (R.move (v := (.slice a3 n3 cap3)) rfl) ?_
    refine WL.q (Wn.no rfl) rfl rfl (R.lenS (a := a3) (m := n3) rfl rfl Try.underlying23) ?_
    refine WL.q (Wn.no rfl) rfl rfl (R.bin (v := (vi ((n3 + 17 : Nat) : Int))) rfl rfl (bi_add (c := ((n3 + 17 : Nat) : Int)) (by omega) (by omega))) ?_
    refine WL.call (al := [(.agg ⟨key.map vu8⟩), (.agg ⟨nonce.map vu8⟩), (vi ((n3 + 17 : Nat) : Int))]) Try.call53 rfl rfl (c_Stream_n key nonce hkey hno (n3 + 17) (by omega) _) rfl ?_
    rintro _ w_32 ⟨a_31, rfl, hc_33, ho_34⟩
    have h_35 := h_30.gotRow hc_33 ho_34
    refine WL.q (Wn.no rfl) rfl rfl (R.move (v := (.tuple [(.slice a_31 (n3 + 17) (n3 + 17)), (vi 0)].toArray)) rfl) ?_
    refine WL.q (Wn.no rfl) rfl rfl (R.extract (l := [(.slice a_31 (n3 + 17) (n3 + 17)), (vi 0)]) (v := (.slice a_31 (n3 + 17) (n3 + 17))) rfl rfl) ?_
    refine WL.q (Wn.no rfl) rfl rfl (R.extract (l := [(.slice a_31 (n3 + 17) (n3 + 17)), (vi 0)]) (v := (vi 0)) rfl rfl) ?_
    refine WL.q (Wn.no rfl) rfl rfl (R.assign (v := (.slice a_31 (n3 + 17) (n3 + 17))) rfl) ?_
    refine WL.q (Wn.no rfl) rfl rfl (R.assign (v := (vi 0)) rfl) ?_
    refine WL.nil ?_
    refine thn_n ?_
    refine WP.seq ?_
    refine WP.drawT (SL w.heap.size [.row a_31 (n3 + 17) (n3 + 17) 5 1 ((strL key nonce (n3 + 17)).map vu8), .row a_26 n3 n3 5 1 ((strL key nonce n3).map vu8), .row a_21 n3 n3 5 1 ((xorL (strL key nonce n3) (xorL (strL key nonce n3) bs)).map vu8), .row a_16 n3 n3 5 1 ((xorL (strL key nonce n3) bs).map vu8), .blk b_7 .nw 67 [(8, nonce.map vu8)], .blk b_4 .nw 66 [(16, blk.map vu8)], .blk b_1 .nw 66 [(16, key.map vu8)], .view a3 (bs.map vu8)]) (.q 0 (.q 1 (.q 2 (.q 5 (.s 3 (.s 4 (.q 6 (.q 7 (.q 8 (.q 9 (.q 10 (.q 13 (.s 11 (.s 12 (.q 14 (.q 15 (.q 16 (.q 17 (.q 19 (.q 22 (.q 25 (.s 18 (.s 20 (.q 21 (.s 23 (.q 24 (.s 26 (.q 27 (.q 28 (.q 29 (.q 30 (.q 31 (.q 32 (.s 33 (.q 34 (.q 35 (.q 36 (.q 37 (.q 38 (.q 39 (.q 40 (.q 41 (.q 42 (.q 43 (.q 44 (.q 45 (.q 46 (.q 47 (.q 48 (.s 49 (.q 50 (.q 51 .nil)))))))))))))))))))))))))))))))))))))))))))))))))))) (by kernel_rfl) (by kernel_rfl) rfl (by kernel_rfl) (fun w_36 hc_38 => (SL.cons ((h_35.same hc_38).ok _ (.head _)) (SL.cons ((h_35.same hc_38).ok _ (.tail _ (.head _))) (SL.cons ((h_35.same hc_38).ok _ (.tail _ (.tail _ (.head _)))) (SL.cons ((h_35.same hc_38).ok _ (.tail _ (.tail _ (.tail _ (.head _))))) (SL.cons ((h_35.same hc_38).ok _ (.tail _ (.tail _ (.tail _ (.tail _ (.head _)))))) (SL.cons ((h_35.same hc_38).ok _ (.tail _ (.tail _ (.tail _ (.tail _ (.tail _ (.head _))))))) (SL.cons ((h_35.same hc_38).ok _ (.tail _ (.tail _ (.tail _ (.tail _ (.tail _ (.tail _ (.head _)))))))) (SL.cons ((h_35.same hc_38).ok _ (.tail _ (.tail _ (.tail _ (.tail _ (.tail _ (.tail _ (.tail _ (.head _))))))))) (SL.nil _ _)))))))))) (fun w_36 hc_38 => ?_)
    have h_37 := h_35.same hc_38
    refine WT.q rfl (Wn.no rfl) rfl rfl (fun wq hS => R.loadA (b := b_1) (off := 0) [] [(16, key.map vu8)] [] (cs := key.map vu8) rfl Try.isAgg66 Try.sizeOf66 (hS _ (.tail _ (.tail _ (.tail _ (.tail _ (.tail _ (.tail _ (.head _)))))))) rfl rfl rfl rfl) ?_
    refine WT.q rfl (Wn.no rfl) rfl rfl (fun wq hS => R.loadA (b := b_1) (off := 0) [] [(16, key.map vu8)] [] (cs := key.map vu8) rfl Try.isAgg66 Try.sizeOf66 (hS _ (.tail _ (.tail _ (.tail _ (.tail _ (.tail _ (.tail _ (.head _)))))))) rfl rfl rfl rfl) ?_
    refine WT.q rfl (Wn.no rfl) rfl rfl (fun wq hS => R.loadA (b := b_4) (off := 0) [] [(16, blk.map vu8)] [] (cs := blk.map vu8) rfl Try.isAgg66 Try.sizeOf66 (hS _ (.tail _ (.tail _ (.tail _ (.tail _ (.tail _ (.head _))))))) rfl rfl rfl rfl) ?_
    refine WT.q rfl (Wn.no rfl) rfl rfl (fun wq hS => R.loadA (b := b_4) (off := 0) [] [(16, blk.map vu8)] [] (cs := blk.map vu8) rfl Try.isAgg66 Try.sizeOf66 (hS _ (.tail _ (.tail _ (.tail _ (.tail _ (.tail _ (.head _))))))) rfl rfl rfl rfl) ?_
    refine WT.s ?_
    refine Op1.one rfl (Wn.no rfl) ?_
    refine WL.call (al := [(.agg ⟨key.map vu8⟩), (.agg ⟨blk.map vu8⟩)]) Try.call60 rfl rfl (c_Encipher key blk hkey hbl _ ) rfl ?_
    rintro _ w_40 ⟨rfl, hc_39⟩
    have h_41 := h_37.same hc_39
    refine WL.nil ?_
    refine ⟨(SL.cons (h_41.ok _ (.head _)) (SL.cons (h_41.ok _ (.tail _ (.head _))) (SL.cons (h_41.ok _ (.tail _ (.tail _ (.head _)))) (SL.cons (h_41.ok _ (.tail _ (.tail _ (.tail _ (.head _))))) (SL.cons (h_41.ok _ (.tail _ (.tail _ (.tail _ (.tail _ (.head _)))))) (SL.cons (h_41.ok _ (.tail _ (.tail _ (.tail _ (.tail _ (.tail _ (.head _))))))) (SL.cons (h_41.ok _ (.tail _ (.tail _ (.tail _ (.tail _ (.tail _ (.tail _ (.head _)))))))) (SL.cons (h_41.ok _ (.tail _ (.tail _ (.tail _ (.tail _ (.tail _ (.tail _ (.tail _ (.head _))))))))) (SL.nil _ _))))))))), ?_⟩
    refine WT.s ?_
    refine Op1.one rfl (Wn.no rfl) ?_
    refine WL.call (al := [(.agg ⟨key.map vu8⟩), (.agg ⟨(enc key blk).map vu8⟩)]) Try.call62 rfl rfl (c_Decipher key (enc key blk) hkey (enc_len hbl) _ ) rfl ?_
    rintro _ w_43 ⟨rfl, hc_42⟩
    have h_44 := h_41.same hc_42
    refine WL.nil ?_
    refine ⟨(SL.cons (h_44.ok _ (.head _)) (SL.cons (h_44.ok _ (.tail _ (.head _))) (SL.cons (h_44.ok _ (.tail _ (.tail _ (.head _)))) (SL.cons (h_44.ok _ (.tail _ (.tail _ (.tail _ (.head _))))) (SL.cons (h_44.ok _ (.tail _ (.tail _ (.tail _ (.tail _ (.head _)))))) (SL.cons (h_44.ok _ (.tail _ (.tail _ (.tail _ (.tail _ (.tail _ (.head _))))))) (SL.cons (h_44.ok _ (.tail _ (.tail _ (.tail _ (.tail _ (.tail _ (.tail _ (.head _)))))))) (SL.cons (h_44.ok _ (.tail _ (.tail _ (.tail _ (.tail _ (.tail _ (.tail _ (.tail _ (.head _))))))))) (SL.nil _ _))))))))), ?_⟩
    refine WT.q rfl (Wn.no rfl) rfl rfl (fun wq hS => R.eqA (xs := (dec (keysL (tabL sub) key) (tabL unsub) (enc key blk)).map vu8) (ys := blk.map vu8) (r := true) rfl rfl Try.eqGuardType66 kt66 (by decide) ag66 (Typ.u8s Try.underlying66 ce66 Try.underlying5 ce5 (dec_len (keysL_len ..) (enc_len hbl))) (Typ.u8s Try.underlying66 ce66 Try.underlying5 ce5 hbl) (eqT (by rw [enc, dec_enc (keysL_len ..) hbl]))) ?_
    refine WT.q rfl (Wn.no rfl) rfl rfl (fun wq hS => R.move (v := (.bool true)) rfl) ?_
    refine WT.q rfl (Wn.yes rfl rfl rfl) rfl rfl (fun wq hS => R.loadA (b := b_1) (off := 0) [] [(16, key.map vu8)] [] (cs := key.map vu8) rfl Try.isAgg66 Try.sizeOf66 (hS _ (.tail _ (.tail _ (.tail _ (.tail _ (.tail _ (.tail _ (.head _)))))))) rfl rfl rfl rfl) ?_
    refine WT.q rfl (Wn.yes rfl rfl rfl) rfl rfl (fun wq hS => R.loadA (b := b_1) (off := 0) [] [(16, key.map vu8)] [] (cs := key.map vu8) rfl Try.isAgg66 Try.sizeOf66 (hS _ (.tail _ (.tail _ (.tail _ (.tail _ (.tail _ (.tail _ (.head _)))))))) rfl rfl rfl rfl) ?_
    refine WT.q rfl (Wn.yes rfl rfl rfl) rfl rfl (fun wq hS => R.loadA (b := b_4) (off := 0) [] [(16, blk.map vu8)] [] (cs := blk.map vu8) rfl Try.isAgg66 Try.sizeOf66 (hS _ (.tail _ (.tail _ (.tail _ (.tail _ (.tail _ (.head _))))))) rfl rfl rfl rfl) ?_
    refine WT.q rfl (Wn.yes rfl rfl rfl) rfl rfl (fun wq hS => R.loadA (b := b_4) (off := 0) [] [(16, blk.map vu8)] [] (cs := blk.map vu8) rfl Try.isAgg66 Try.sizeOf66 (hS _ (.tail _ (.tail _ (.tail _ (.tail _ (.tail _ (.head _))))))) rfl rfl rfl rfl) ?_
    refine WT.s ?_
    refine Op1.one rfl (Wn.yes rfl rfl rfl) ?_
    refine WL.call (al := [(.agg ⟨key.map vu8⟩), (.agg ⟨blk.map vu8⟩)]) Try.call62 rfl rfl (c_Decipher key blk hkey hbl _ ) rfl ?_
    rintro _ w_46 ⟨rfl, hc_45⟩
    have h_47 := h_44.same hc_45
    refine WL.nil ?_
    refine ⟨(SL.cons (h_47.ok _ (.head _)) (SL.cons (h_47.ok _ (.tail _ (.head _))) (SL.cons (h_47.ok _ (.tail _ (.tail _ (.head _)))) (SL.cons (h_47.ok _ (.tail _ (.tail _ (.tail _ (.head _))))) (SL.cons (h_47.ok _ (.tail _ (.tail _ (.tail _ (.tail _ (.head _)))))) (SL.cons (h_47.ok _ (.tail _ (.tail _ (.tail _ (.tail _ (.tail _ (.head _))))))) (SL.cons (h_47.ok _ (.tail _ (.tail _ (.tail _ (.tail _ (.tail _ (.tail _ (.head _)))))))) (SL.cons (h_47.ok _ (.tail _ (.tail _ (.tail _ (.tail _ (.tail _ (.tail _ (.tail _ (.head _))))))))) (SL.nil _ _))))))))), ?_⟩
    refine WT.s ?_
    refine Op1.one rfl (Wn.yes rfl rfl rfl) ?_
    refine WL.call (al := [(.agg ⟨key.map vu8⟩), (.agg ⟨(dec (keysL (tabL sub) key) (tabL unsub) blk).map vu8⟩)]) Try.call60 rfl rfl (c_Encipher key (dec (keysL (tabL sub) key) (tabL unsub) blk) hkey (dec_len (keysL_len ..) hbl) _ ) rfl ?_
    rintro _ w_49 ⟨rfl, hc_48⟩
    have h_50 := h_47.same hc_48
    refine WL.nil ?_
    refine ⟨(SL.cons (h_50.ok _ (.head _)) (SL.cons (h_50.ok _ (.tail _ (.head _))) (SL.cons (h_50.ok _ (.tail _ (.tail _ (.head _)))) (SL.cons (h_50.ok _ (.tail _ (.tail _ (.tail _ (.head _))))) (SL.cons (h_50.ok _ (.tail _ (.tail _ (.tail _ (.tail _ (.head _)))))) (SL.cons (h_50.ok _ (.tail _ (.tail _ (.tail _ (.tail _ (.tail _ (.head _))))))) (SL.cons (h_50.ok _ (.tail _ (.tail _ (.tail _ (.tail _ (.tail _ (.tail _ (.head _)))))))) (SL.cons (h_50.ok _ (.tail _ (.tail _ (.tail _ (.tail _ (.tail _ (.tail _ (.tail _ (.head _))))))))) (SL.nil _ _))))))))), ?_⟩
    refine WT.q rfl (Wn.yes rfl rfl rfl) rfl rfl (fun wq hS => R.eqA (xs := (enc key (dec (keysL (tabL sub) key) (tabL unsub) blk)).map vu8) (ys := blk.map vu8) (r := true) rfl rfl Try.eqGuardType66 kt66 (by decide) ag66 (Typ.u8s Try.underlying66 ce66 Try.underlying5 ce5 (enc_len (dec_len (keysL_len ..) hbl))) (Typ.u8s Try.underlying66 ce66 Try.underlying5 ce5 hbl) (eqT (by rw [enc, enc_dec (keysL_len ..) hbl]))) ?_
    refine WT.q rfl (Wn.no rfl) rfl rfl (fun wq hS => R.pickT (v := (.bool true)) rfl rfl) ?_
    refine WT.q rfl (Wn.no rfl) rfl rfl (fun wq hS => R.move (v := (.bool true)) rfl) ?_
    refine WT.q rfl (Wn.yes rfl rfl rfl) rfl rfl (fun wq hS => R.move (v := (vi 0)) rfl) ?_
    refine WT.q rfl (Wn.yes rfl rfl rfl) rfl rfl (fun wq hS => R.move (v := (vi 0)) rfl) ?_
    refine WT.q rfl (Wn.yes rfl rfl rfl) rfl rfl (fun wq hS => R.move (v := (vi 0)) rfl) ?_
    refine WT.q rfl (Wn.yes rfl rfl rfl) rfl rfl (fun wq hS => R.move (v := (vi 0)) rfl) ?_
    refine WT.s ?_
    refine Op1.one rfl (Wn.yes rfl rfl rfl) ?_
    refine WL.call (al := [(vi 0)]) Try.call54 rfl rfl (c_num4 0 (by omega) _ ) rfl ?_
    rintro _ w_52 ⟨rfl, hc_51⟩
    have h_53 := h_50.same hc_51
    refine WL.nil ?_
    refine ⟨(SL.cons (h_53.ok _ (.head _)) (SL.cons (h_53.ok _ (.tail _ (.head _))) (SL.cons (h_53.ok _ (.tail _ (.tail _ (.head _)))) (SL.cons (h_53.ok _ (.tail _ (.tail _ (.tail _ (.head _))))) (SL.cons (h_53.ok _ (.tail _ (.tail _ (.tail _ (.tail _ (.head _)))))) (SL.cons (h_53.ok _ (.tail _ (.tail _ (.tail _ (.tail _ (.tail _ (.head _))))))) (SL.cons (h_53.ok _ (.tail _ (.tail _ (.tail _ (.tail _ (.tail _ (.tail _ (.head _)))))))) (SL.cons (h_53.ok _ (.tail _ (.tail _ (.tail _ (.tail _ (.tail _ (.tail _ (.tail _ (.head _))))))))) (SL.nil _ _))))))))), ?_⟩
    refine WT.s ?_
    refine Op1.one rfl (Wn.yes rfl rfl rfl) ?_
    refine WL.call (al := [(vi 0)]) Try.call54 rfl rfl (c_num4 0 (by omega) _ ) rfl ?_
    rintro _ w_55 ⟨rfl, hc_54⟩
    have h_56 := h_53.same hc_54
    refine WL.nil ?_
    refine ⟨(SL.cons (h_56.ok _ (.head _)) (SL.cons (h_56.ok _ (.tail _ (.head _))) (SL.cons (h_56.ok _ (.tail _ (.tail _ (.head _)))) (SL.cons (h_56.ok _ (.tail _ (.tail _ (.tail _ (.head _))))) (SL.cons (h_56.ok _ (.tail _ (.tail _ (.tail _ (.tail _ (.head _)))))) (SL.cons (h_56.ok _ (.tail _ (.tail _ (.tail _ (.tail _ (.tail _ (.head _))))))) (SL.cons (h_56.ok _ (.tail _ (.tail _ (.tail _ (.tail _ (.tail _ (.tail _ (.head _)))))))) (SL.cons (h_56.ok _ (.tail _ (.tail _ (.tail _ (.tail _ (.tail _ (.tail _ (.tail _ (.head _))))))))) (SL.nil _ _))))))))), ?_⟩
    refine WT.q rfl (Wn.yes rfl rfl rfl) rfl rfl (fun wq hS => R.bin (v := (vi 0)) rfl rfl (bi_add (c := 0) (by omega) (by omega))) ?_
    refine WT.s ?_
    refine Op1.one rfl (Wn.yes rfl rfl rfl) ?_
    refine WL.call (al := [(vi 0)]) Try.call54 rfl rfl (c_num4 0 (by omega) _ ) rfl ?_
    rintro _ w_58 ⟨rfl, hc_57⟩
    have h_59 := h_56.same hc_57
    refine WL.nil ?_
    refine ⟨(SL.cons (h_59.ok _ (.head _)) (SL.cons (h_59.ok _ (.tail _ (.head _))) (SL.cons (h_59.ok _ (.tail _ (.tail _ (.head _)))) (SL.cons (h_59.ok _ (.tail _ (.tail _ (.tail _ (.head _))))) (SL.cons (h_59.ok _ (.tail _ (.tail _ (.tail _ (.tail _ (.head _)))))) (SL.cons (h_59.ok _ (.tail _ (.tail _ (.tail _ (.tail _ (.tail _ (.head _))))))) (SL.cons (h_59.ok _ (.tail _ (.tail _ (.tail _ (.tail _ (.tail _ (.tail _ (.head _)))))))) (SL.cons (h_59.ok _ (.tail _ (.tail _ (.tail _ (.tail _ (.tail _ (.tail _ (.tail _ (.head _))))))))) (SL.nil _ _))))))))), ?_⟩
    refine WT.q rfl (Wn.yes rfl rfl rfl) rfl rfl (fun wq hS => R.bin (v := (vi 0)) rfl rfl (bi_add (c := 0) (by omega) (by omega))) ?_
    refine WT.s ?_
    refine Op1.one rfl (Wn.yes rfl rfl rfl) ?_
    refine WL.call (al := [(vi 0)]) Try.call54 rfl rfl (c_num4 0 (by omega) _ ) rfl ?_
    rintro _ w_61 ⟨rfl, hc_60⟩
    have h_62 := h_59.same hc_60
    refine WL.nil ?_
    refine ⟨(SL.cons (h_62.ok _ (.head _)) (SL.cons (h_62.ok _ (.tail _ (.head _))) (SL.cons (h_62.ok _ (.tail _ (.tail _ (.head _)))) (SL.cons (h_62.ok _ (.tail _ (.tail _ (.tail _ (.head _))))) (SL.cons (h_62.ok _ (.tail _ (.tail _ (.tail _ (.tail _ (.head _)))))) (SL.cons (h_62.ok _ (.tail _ (.tail _ (.tail _ (.tail _ (.tail _ (.head _))))))) (SL.cons (h_62.ok _ (.tail _ (.tail _ (.tail _ (.tail _ (.tail _ (.tail _ (.head _)))))))) (SL.cons (h_62.ok _ (.tail _ (.tail _ (.tail _ (.tail _ (.tail _ (.tail _ (.tail _ (.head _))))))))) (SL.nil _ _))))))))), ?_⟩
    refine WT.q rfl (Wn.yes rfl rfl rfl) rfl rfl (fun wq hS => R.bin (v := (vi 0)) rfl rfl (bi_add (c := 0) (by omega) (by omega))) ?_
    refine WT.q rfl (Wn.yes rfl rfl rfl) rfl rfl (fun wq hS => R.bin (v := (.bool true)) rfl rfl (bi_eql (r := true) (by decide))) ?_
    refine WT.q rfl (Wn.no rfl) rfl rfl (fun wq hS => R.pickT (v := (.bool true)) rfl rfl) ?_
    refine WT.q rfl (Wn.no rfl) rfl rfl (fun wq hS => R.move (v := (.bool true)) rfl) ?_
    refine WT.q rfl (Wn.yes rfl rfl rfl) rfl rfl (fun wq hS => R.move (v := (.slice a_21 n3 n3)) rfl) ?_
    refine WT.q rfl (Wn.yes rfl rfl rfl) rfl rfl (fun wq hS => R.move (v := (.slice a3 n3 cap3)) rfl) ?_
    refine WT.s ?_
    refine Op1.one rfl (Wn.yes rfl rfl rfl) ?_
    refine WL.call (al := [(.slice a_21 n3 n3), (.slice a3 n3 cap3)]) Try.call19 rfl rfl (c_SameR a_21 n3 n3 (xorL (strL key nonce n3) (xorL (strL key nonce n3) bs)) (xorL_len (strL_len hno _) (xorL_len (strL_len hno _) hl3)) a3 n3 cap3 bs hl3 _ (ownView (h_62.ok _ (.tail _ (.tail _ (.head _))))) (viewV (h_62.ok _ (.tail _ (.tail _ (.tail _ (.tail _ (.tail _ (.tail _ (.tail _ (.head _))))))))))) rfl ?_
    rintro _ w_64 ⟨rfl, hc_63⟩
    have h_65 := h_62.same hc_63
    refine WL.nil ?_
    refine ⟨(SL.cons (h_65.ok _ (.head _)) (SL.cons (h_65.ok _ (.tail _ (.head _))) (SL.cons (h_65.ok _ (.tail _ (.tail _ (.head _)))) (SL.cons (h_65.ok _ (.tail _ (.tail _ (.tail _ (.head _))))) (SL.cons (h_65.ok _ (.tail _ (.tail _ (.tail _ (.tail _ (.head _)))))) (SL.cons (h_65.ok _ (.tail _ (.tail _ (.tail _ (.tail _ (.tail _ (.head _))))))) (SL.cons (h_65.ok _ (.tail _ (.tail _ (.tail _ (.tail _ (.tail _ (.tail _ (.head _)))))))) (SL.cons (h_65.ok _ (.tail _ (.tail _ (.tail _ (.tail _ (.tail _ (.tail _ (.tail _ (.head _))))))))) (SL.nil _ _))))))))), ?_⟩
    refine WT.q rfl (Wn.no rfl) rfl rfl (fun wq hS => R.pickT (v := (.bool true)) rfl (congrArg Value.bool (decide_eq_true (xorL_twice (strL_len hno n3) hl3)))) ?_
    refine WT.q rfl (Wn.no rfl) rfl rfl (fun wq hS => R.move (v := (.bool true)) rfl) ?_
    refine WT.q rfl (Wn.yes rfl rfl rfl) rfl rfl (fun wq hS => R.move (v := (.slice a_31 (n3 + 17) (n3 + 17))) rfl) ?_
    refine WT.q rfl (Wn.yes rfl rfl rfl) rfl rfl (fun wq hS => R.lenS (a := a_31) (m := n3 + 17) rfl rfl Try.underlying23) ?_
    refine WT.q rfl (Wn.yes rfl rfl rfl) rfl rfl (fun wq hS => R.move (v := (.slice a3 n3 cap3)) rfl) ?_
    refine WT.q rfl (Wn.yes rfl rfl rfl) rfl rfl (fun wq hS => R.lenS (a := a3) (m := n3) rfl rfl Try.underlying23) ?_
    refine WT.q rfl (Wn.yes rfl rfl rfl) rfl rfl (fun wq hS => R.bin (v := (vi ((n3 + 17 : Nat) : Int))) rfl rfl (bi_add (c := ((n3 + 17 : Nat) : Int)) (by omega) (by omega))) ?_
    refine WT.q rfl (Wn.yes rfl rfl rfl) rfl rfl (fun wq hS => R.bin (v := (.bool true)) rfl rfl (bi_eql (r := true) (by simp))) ?_
    refine WT.q rfl (Wn.no rfl) rfl rfl (fun wq hS => R.pickT (v := (.bool true)) rfl rfl) ?_
    refine WT.q rfl (Wn.no rfl) rfl rfl (fun wq hS => R.move (v := (.bool true)) rfl) ?_
    refine WT.q rfl (Wn.yes rfl rfl rfl) rfl rfl (fun wq hS => R.move (v := (.slice a_26 n3 n3)) rfl) ?_
    refine WT.q rfl (Wn.yes rfl rfl rfl) rfl rfl (fun wq hS => R.move (v := (.slice a_31 (n3 + 17) (n3 + 17))) rfl) ?_
    refine WT.q rfl (Wn.yes rfl rfl rfl) rfl rfl (fun wq hS => R.move (v := (.slice a3 n3 cap3)) rfl) ?_
    refine WT.q rfl (Wn.yes rfl rfl rfl) rfl rfl (fun wq hS => R.lenS (a := a3) (m := n3) rfl rfl Try.underlying23) ?_
    refine WT.q rfl (Wn.yes rfl rfl rfl) rfl rfl (fun wq hS => R.sliceS (a := a_31) (len := n3 + 17) (l := 0) (h := n3) rfl EvB.dflt (EvB.it (l := n3) rfl rfl) (by omega) (by omega) Try.underlying23 Try.sizeOf5) ?_
    refine WT.s ?_
    refine Op1.one rfl (Wn.yes rfl rfl rfl) ?_
    refine WL.call (al := [(.slice a_26 n3 n3), (.slice (slA a_31 0 (n3 + 17) 1) (n3 - 0) (n3 + 17 - 0))]) Try.call19 rfl rfl (c_SameR a_26 n3 n3 (strL key nonce n3) (strL_len hno _) (slA a_31 0 (n3 + 17) 1) (n3 - 0) (n3 + 17 - 0) (((strL key nonce (n3 + 17)).drop 0).take (n3 - 0)) (by simp only [List.length_take, List.length_drop, (strL_len hno _)]; omega) _ (ownView (h_65.ok _ (.tail _ (.head _)))) (View.slM (ownView (h_65.ok _ (.head _))) (by omega))) rfl ?_
    rintro _ w_67 ⟨rfl, hc_66⟩
    have h_68 := h_65.same hc_66
    refine WL.nil ?_
    refine ⟨(SL.cons (h_68.ok _ (.head _)) (SL.cons (h_68.ok _ (.tail _ (.head _))) (SL.cons (h_68.ok _ (.tail _ (.tail _ (.head _)))) (SL.cons (h_68.ok _ (.tail _ (.tail _ (.tail _ (.head _))))) (SL.cons (h_68.ok _ (.tail _ (.tail _ (.tail _ (.tail _ (.head _)))))) (SL.cons (h_68.ok _ (.tail _ (.tail _ (.tail _ (.tail _ (.tail _ (.head _))))))) (SL.cons (h_68.ok _ (.tail _ (.tail _ (.tail _ (.tail _ (.tail _ (.tail _ (.head _)))))))) (SL.cons (h_68.ok _ (.tail _ (.tail _ (.tail _ (.tail _ (.tail _ (.tail _ (.tail _ (.head _))))))))) (SL.nil _ _))))))))), ?_⟩
    refine WT.q rfl (Wn.no rfl) rfl rfl (fun wq hS => R.pickT (v := (.bool true)) rfl (congrArg Value.bool (decide_eq_true (by rw [List.drop_zero]; exact (strL_pre hno n3 17).symm)))) ?_
    refine WT.q rfl (Wn.no rfl) rfl rfl (fun wq hS => R.assign (v := (.bool true)) rfl) ?_
    refine WT.nil ?_
    refine thn_n ?_
    refine WP.ret ?_
    refine ret_of Try.results15 (RV.tmp (v := (.bool true)) rfl RV.nil) ?_
    exact ⟨rfl, h_68.chgS⟩
namespace aesBackDone
open Go.ChangeShapes Go.WideShapes Go.ChangeAt
theorem own : ownKnob Try.prog.godebug = none := by kernel_rfl
theorem laidOut : laidOutB Try.prog = true := by kernel_rfl
set_option maxRecDepth 100000 in
theorem lifted (os : Os) (started : os.Started) (H : Type) (enc : TypeId × Value → H) :
    ReturnsInHanded {} Try.checked os 15 .any (Rows.aesBackSpec.pre6 enc Try.prog Try.f15 Rows.aesBackRow.domain false) (Rows.aesBackSpec.post enc Try.prog Try.f15 false true false false) := by
  refine returnsInHanded_of_change (C := Try.checked) own started (by kernel_rfl) Try.func15
    (ChangeSpec.witness6 (enc := enc) (C := Try.checked) false ⟨#[], #[.agg #[.int .u8 0, .int .u8 0, .int .u8 0, .int .u8 0, .int .u8 0, .int .u8 0, .int .u8 0, .int .u8 0, .int .u8 0, .int .u8 0, .int .u8 0, .int .u8 0, .int .u8 0, .int .u8 0, .int .u8 0, .int .u8 0], .agg #[.int .u8 0, .int .u8 0, .int .u8 0, .int .u8 0, .int .u8 0, .int .u8 0, .int .u8 0, .int .u8 0, .int .u8 0, .int .u8 0, .int .u8 0, .int .u8 0, .int .u8 0, .int .u8 0, .int .u8 0, .int .u8 0], .agg #[.int .u8 0, .int .u8 0, .int .u8 0, .int .u8 0, .int .u8 0, .int .u8 0, .int .u8 0, .int .u8 0], .slice none 0 0], []⟩ 8 (by kernel_rfl) (by kernel_rfl) (by kernel_rfl) (by kernel_rfl)) ?_
  intro W base args ds gs before hval0 hW hcnd _
  have hval : ∀ (j : Nat) t v, Try.f15.params[j]? = some t → args[j]? = some v → Value.okWide Try.prog W .any base t v := hval0
  have hW' := hW
  obtain ⟨p, q, hA0, hV, rfl, hfz, hnd⟩ := hW
  have hA : DataW.TrodAll enc Try.prog W 0 (fun _ => true) true Try.f15.params.toList args.toList ds p := hA0
  rw [Try.params15] at hA hval
  obtain ⟨v0, vs0, d0, ds0, p0, q0, hargs, rfl, rfl, h0, r0⟩ := trodAll_cons hA
  obtain ⟨v1, vs1, d1, ds1, p1, q1, rfl, rfl, rfl, h1, r1⟩ := trodAll_cons r0
  obtain ⟨v2, vs2, d2, ds2, p2, q2, rfl, rfl, rfl, h2, r2⟩ := trodAll_cons r1
  obtain ⟨v3, vs3, d3, ds3, p3, q3, rfl, rfl, rfl, h3, r3⟩ := trodAll_cons r2
  obtain ⟨rfl, rfl, rfl⟩ := trodAll_nil r3
  obtain rfl : args = #[v0, v1, v2, v3] := by cases args; simp_all
  obtain ⟨rfl, rfl⟩ := trodVars_none hV
  have lt0 : ∀ x ∈ p0, x.block < W.heap.size := by obtain ⟨m, hm⟩ := h0; exact DataW.trod_lt m _ _ _ hm
  obtain ⟨cs0, rfl⟩ := okWide_agg aggT66 (hval 0 66 v0 rfl rfl)
  have tr0 : Tr Try.prog W 66 cs0 := Tr.of h0 rfl
  obtain ⟨x0, rfl, l_x0⟩ := Tr.arr8 Try.underlying66 ce66 ce5 Try.underlying5 tr0
  have lt1 : ∀ x ∈ p1, x.block < W.heap.size := by obtain ⟨m, hm⟩ := h1; exact DataW.trod_lt m _ _ _ hm
  obtain ⟨cs1, rfl⟩ := okWide_agg aggT66 (hval 1 66 v1 rfl rfl)
  have tr1 : Tr Try.prog W 66 cs1 := Tr.of h1 rfl
  obtain ⟨x1, rfl, l_x1⟩ := Tr.arr8 Try.underlying66 ce66 ce5 Try.underlying5 tr1
  have lt2 : ∀ x ∈ p2, x.block < W.heap.size := by obtain ⟨m, hm⟩ := h2; exact DataW.trod_lt m _ _ _ hm
  obtain ⟨cs2, rfl⟩ := okWide_agg aggT67 (hval 2 67 v2 rfl rfl)
  have tr2 : Tr Try.prog W 67 cs2 := Tr.of h2 rfl
  obtain ⟨x2, rfl, l_x2⟩ := Tr.arr8 Try.underlying67 ce67 ce5 Try.underlying5 tr2
  have lt3 : ∀ x ∈ p3, x.block < W.heap.size := by obtain ⟨m, hm⟩ := h3; exact DataW.trod_lt m _ _ _ hm
  obtain ⟨a3, n3, c3, rfl⟩ := okWide_slice Try.underlying23 (hval 3 23 v3 rfl rfl)
  obtain ⟨a3, n3, c3, x3, e3, l_x3, hc3, hm3, hv3, hn3⟩ := Tr.sl8 Try.underlying23 ce5 Try.underlying5 (Tr.of h3 rfl)
  cases e3
  clear hA0 hval0
  have hw : Cs Try.prog 15 [(.agg ⟨x0.map vu8⟩), (.agg ⟨x1.map vu8⟩), (.agg ⟨x2.map vu8⟩), (.slice a3 n3 c3)].toArray W (fun v w1 => v = .bool true ∧ Chg W w1 []) := w_AesBack x0 x1 x2 l_x0 l_x1 l_x2 a3 n3 c3 x3 l_x3 (by have hmx := hm3; unfold maxLen at hmx; omega) W hv3.1
  have ea : ([(.agg ⟨x0.map vu8⟩), (.agg ⟨x1.map vu8⟩), (.agg ⟨x2.map vu8⟩), (.slice a3 n3 c3)] : List Value).toArray = (#[.agg ⟨x0.map vu8⟩, .agg ⟨x1.map vu8⟩, .agg ⟨x2.map vu8⟩, (.slice a3 n3 c3)] : Array Value) := by simp [flat]
  rw [ea] at hw
  refine Calls.mono (Cs.below hw) fun e W' ⟨he, bel⟩ => ?_
  subst he
  exact ⟨_, rfl, _, _, _, [], _, [], hW', trodAll_mk1 (shut_bool Try.underlying4 _), (trodAll_cons_mk (Below.trod laidOut (by kernel_rfl) (of_decide_eq_true (by kernel_rfl)) h0 bel lt0) (trodAll_cons_mk (Below.trod laidOut (by kernel_rfl) (of_decide_eq_true (by kernel_rfl)) h1 bel lt1) (trodAll_cons_mk (Below.trod laidOut (by kernel_rfl) (of_decide_eq_true (by kernel_rfl)) h2 bel lt2) (trodAll_cons_mk (Below.trod laidOut (by kernel_rfl) (of_decide_eq_true (by kernel_rfl)) h3 bel lt3) trodAll_mk0)))), rfl, bel.frame _, fun h => by cases h⟩
theorem over : Rows.aesBackRow.holds Try.pinned (OpenSpec.ofChange Rows.aesBackSpec) :=
  OpenClaim.holds_of_wide 15 Try.f15 rfl rfl rfl rfl rfl rfl rfl ⟨rfl, rfl, rfl, rfl, rfl⟩ rfl rfl rfl rfl rfl (by kernel_rfl) Try.func15 (by kernel_rfl)
    (of_decide_eq_true (by kernel_rfl)) (by unfold Func.isWrapper; first | (rw [if_pos (by decide +kernel)]; kernel_rfl) | (rw [if_neg (by decide +kernel)]; exact ⟨rfl, rfl⟩))
    (fun os started H enc _ => lifted os started H enc)
theorem proved : Rows.AesBackSaid := over
end aesBackDone
end Go.Proofs.Ytcmgadjnammahaa
