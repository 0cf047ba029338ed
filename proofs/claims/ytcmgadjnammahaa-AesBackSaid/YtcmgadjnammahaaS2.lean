/- Streams, and what is masked. Conditions: those that each theorem states. -/
import Derived.Test.YtcmgadjnammahaaS1
import Derived.Test.YtcmgadjnammahaaX3
import Derived.Test.YtcmgadjnammahaaE6
namespace Go.Proofs.Ytcmgadjnammahaa
open Go.Vc Go.Ax Go.RowKit
set_option linter.unusedVariables false
set_option linter.unusedSimpArgs false
set_option maxRecDepth 20000

theorem c_Join2 (a : Option Addr) (cap : Nat) (xs : List Value) (l1 l2 : List UInt8) (h1 : l1.length = 8) (h2 : l2.length = 8) (w : World) (hv : View w a xs) (hs : Sls w xs [l1, l2]) :
    Cs Try.prog 49 [(.slice a 2 cap)].toArray w (fun v w1 => ∃ a cap, v = .slice a 16 cap ∧ Chg w w1 [] ∧ Own w.heap.size w1 5 1 a 16 cap ((l1 ++ l2).map vu8)) := by
  have e : [l1, l2].flatten = l1 ++ l2 := by simp
  have el : (l1 ++ l2).length = 16 := by rw [List.length_append, h1, h2]
  have h := c_wJoin a 2 cap xs [l1, l2] rfl (by rw [e, el]; decide) (by decide) w hv hs
  rw [e, el] at h
  exact h
theorem of_succ (i : Nat) : UInt64.ofNat i + 1 = UInt64.ofNat (i + 1) := by simp [UInt64.ofNat_add]
theorem blk_in {nonce : List UInt8} {i : Nat} (h : nonce.length = 8) (hi : i < 18446744073709551616) : ([nonce.getD 0 0, nonce.getD 1 0, nonce.getD 2 0, nonce.getD 3 0, nonce.getD 4 0, nonce.getD 5 0, nonce.getD 6 0, nonce.getD 7 0, UInt8.ofNat (shr64 (UInt64.ofNat i) 56).toNat, UInt8.ofNat (shr64 (UInt64.ofNat i) 48).toNat, UInt8.ofNat (shr64 (UInt64.ofNat i) 40).toNat, UInt8.ofNat (shr64 (UInt64.ofNat i) 32).toNat, UInt8.ofNat (shr64 (UInt64.ofNat i) 24).toNat, UInt8.ofNat (shr64 (UInt64.ofNat i) 16).toNat, UInt8.ofNat (shr64 (UInt64.ofNat i) 8).toNat, UInt8.ofNat (shr64 (UInt64.ofNat i) 0).toNat] : List UInt8) = nonce ++ (leN 8 i).reverse := by
  rw [← num_rev hi]
  conv => rhs; rw [← eight8 h]
  rfl
theorem c_Stream_n (key nonce : List UInt8) (hkey : key.length = 16) (hno : nonce.length = 8) (n : Nat) (h2 : n ≤ 1048576) (w : World) :
    Cs Try.prog 53 [(.agg ⟨key.map vu8⟩), (.agg ⟨nonce.map vu8⟩), (vi ((n : Nat) : Int))].toArray w (fun v w1 => ∃ a, v = .tuple [.slice a n n, vi 0].toArray ∧ Chg w w1 [] ∧ Own w.heap.size w1 5 1 a n n ((strL key nonce n).map vu8)) := by
  refine Cs.of (n := 49) (args := [(.agg ⟨key.map vu8⟩), (.agg ⟨nonce.map vu8⟩), (vi ((n : Nat) : Int))]) Try.func53 rfl rfl rfl ?_
  have h_0 := HP.init w
  refine WP.seq ?_
  refine WP.reg ?_
  refine WL.box (v := (.agg ⟨key.map vu8⟩)) (segs := [(16, key.map vu8)]) h_0 rfl rfl (SsOk.cons (SOk.u8 hkey) SsOk.nil) rfl (fun b_1 w_2 h_3 => ?_)
  refine WL.box (v := (.agg ⟨nonce.map vu8⟩)) (segs := [(8, nonce.map vu8)]) h_3 rfl rfl (SsOk.cons (SOk.u8 hno) SsOk.nil) rfl (fun b_4 w_5 h_6 => ?_)
  refine WL.q (Wn.no rfl) rfl rfl (R.assign (v := (.slice none 0 0)) rfl) ?_
  refine WL.q (Wn.no rfl) rfl rfl (R.assign (v := (vi 0)) rfl) ?_
  refine WL.nil ?_
  refine thn_n ?_
  refine WP.seq ?_
  refine WP.seq ?_
  refine WP.reg ?_
  refine WL.q (Wn.no rfl) rfl rfl (R.move (v := (vi ((n : Nat) : Int))) rfl) ?_
  refine WL.q (Wn.no rfl) rfl rfl (R.bin (v := (.bool (decide ((((n : Nat) : Int) : Int) < 0)))) rfl rfl (bi_lss (r := decide ((((n : Nat) : Int) : Int) < 0)) rfl)) ?_
  refine WL.q (Wn.no rfl) rfl rfl (R.move (v := (.bool (decide ((((n : Nat) : Int) : Int) < 0)))) rfl) ?_
  refine WL.want rfl (congrArg Value.bool (decide_eq_false (by omega))) ?_
  refine WL.q (Wn.no rfl) rfl rfl (R.move (v := (vi ((n : Nat) : Int))) rfl) ?_
  refine WL.want rfl (congrArg Value.bool (decide_eq_false (by omega))) ?_
  refine WL.q (Wn.no rfl) rfl rfl (R.bin (v := (.bool (decide ((((n : Nat) : Int) : Int) > 1048576)))) rfl rfl (bi_gtr (r := decide ((((n : Nat) : Int) : Int) > 1048576)) rfl)) ?_
  refine WL.q (Wn.no rfl) rfl rfl (R.pickF (v := (.bool (decide ((((n : Nat) : Int) : Int) > 1048576)))) (congrArg Value.bool (decide_eq_false (by omega))) rfl) ?_
  refine WL.nil ?_
  refine thn_n ?_
  refine WP.condF (congrArg Value.bool (decide_eq_false (by omega))) ?_
  refine WP.skip ?_
  refine thn_n ?_
  refine WP.seq ?_
  refine WP.reg ?_
  refine WL.q (Wn.no rfl) rfl rfl (R.loadA (b := b_1) (off := 0) [] [(16, key.map vu8)] [] (cs := key.map vu8) rfl Try.isAgg66 Try.sizeOf66 (h_6.ok _ (.tail _ (.head _))) rfl rfl rfl rfl) ?_
  refine WL.call (al := [(.agg ⟨key.map vu8⟩)]) Try.call80 rfl rfl (c_open key hkey _) rfl ?_
  rintro _ w_8 ⟨b_7, rfl, hc_9, hb_10, hk_11⟩
  have h_12 := HP.gotBlk (segs := [(176, (keysL (tabL sub) key).map vu8), (256, (tabL sub).map vu8)]) h_6 hc_9 hb_10 (SsOk.cons (SOk.u8 (keysL_len ..)) (SsOk.cons (SOk.u8 (tabL_len ..)) SsOk.nil)) hk_11
  refine WL.q (Wn.no rfl) rfl rfl (R.assign (v := (.pointer (some ⟨b_7, 0, none⟩))) rfl) ?_
  refine WL.nil ?_
  refine thn_n ?_
  refine WP.seq ?_
  refine WP.reg ?_
  refine WL.q (Wn.no rfl) rfl rfl (R.assign (v := (.slice none 0 0)) rfl) ?_
  refine WL.nil ?_
  refine thn_n ?_
  refine WP.seq ?_
  refine WP.seq ?_
  refine WP.reg ?_
  refine WL.q (Wn.no rfl) rfl rfl (R.assign (v := (vu64 0)) rfl) ?_
  refine WL.nil ?_
  refine thn_n ?_
  refine WP.block ?_
  have h_13 := h_12.rowNil 5 1
  refine WP.loopG (G := Nat × Option Addr × Nat) [9, 10, 11, 12, 13, 22, 23, 24, 25, 26, 27, 28, 29, 30, 31, 32, 33, 34, 35, 36, 37, 38, 39, 40, 41, 42, 43, 44] (fun (i, ra, rc) => [(9, (.slice ra (16 * i) rc)), (10, (vu64 (UInt64.ofNat i)))]) (fun (i, ra, rc) m w1 => HP w w1 [.row ra (16 * i) rc 5 1 ((strN key nonce i).map vu8), .blk b_7 .nw 109 [(176, (keysL (tabL sub) key).map vu8), (256, (tabL sub).map vu8)], .blk b_4 .nw 67 [(8, nonce.map vu8)], .blk b_1 .nw 66 [(16, key.map vu8)]] ∧ (16 * i ≤ n + 15) ∧ m = n + 16 - 16 * i) ⟨(0, none, 0), _, ⟨rfl, rfl, trivial⟩, h_13, (by omega), rfl⟩ ?_
  rintro ⟨i, ra, rc⟩ m_16 J_17 w_14 ⟨h_15, hi, rfl⟩
  refine WP.seq ?_
  refine WP.seq ?_
  refine WP.reg ?_
  refine WL.q (Wn.no rfl) rfl rfl (R.move (v := (.slice ra (16 * i) rc)) rfl) ?_
  refine WL.q (Wn.no rfl) rfl rfl (R.lenS (a := ra) (m := 16 * i) rfl rfl Try.underlying23) ?_
  refine WL.q (Wn.no rfl) rfl rfl (R.move (v := (vi ((n : Nat) : Int))) rfl) ?_
  refine WL.q (Wn.no rfl) rfl rfl (R.bin (v := (.bool (decide ((((16 * i : Nat) : Int) : Int) < ((n : Nat) : Int))))) rfl rfl (bi_lss (r := decide ((((16 * i : Nat) : Int) : Int) < ((n : Nat) : Int))) rfl)) ?_
  refine WL.nil ?_
  refine thn_n ?_
  refine WP.cond (b := decide ((((16 * i : Nat) : Int) : Int) < ((n : Nat) : Int))) rfl (fun c_18 => ?_) (fun c_18 => ?_)
  · have p_19 := of_decide_eq_true c_18
    refine WP.skip ?_
    refine thn_n ?_
    refine WP.seq ?_
    refine WP.block ?_
    refine WP.seq ?_
    refine WP.reg ?_
    refine WL.q (Wn.no rfl) rfl rfl (R.move (v := (vu64 (UInt64.ofNat i))) rfl) ?_
    refine WL.call (al := [(vu64 (UInt64.ofNat i)), (vi 8)]) Try.call16 rfl rfl (c_Put_b (UInt64.ofNat i) 8 rfl _) rfl ?_
    rintro _ w_22 ⟨a_20, cap_21, rfl, hc_23, ho_24⟩
    have h_25 := h_15.gotRow hc_23 ho_24
    refine WL.q (Wn.no rfl) rfl rfl (R.move (v := (.tuple [(.slice a_20 8 cap_21), (vi 0)].toArray)) rfl) ?_
    refine WL.q (Wn.no rfl) rfl rfl (R.extract (l := [(.slice a_20 8 cap_21), (vi 0)]) (v := (.slice a_20 8 cap_21)) rfl rfl) ?_
    refine WL.q (Wn.no rfl) rfl rfl (R.extract (l := [(.slice a_20 8 cap_21), (vi 0)]) (v := (vi 0)) rfl rfl) ?_
    refine WL.q (Wn.no rfl) rfl rfl (R.assign (v := (.slice a_20 8 cap_21)) rfl) ?_
    refine WL.q (Wn.no rfl) rfl rfl (R.assign (v := (vi 0)) rfl) ?_
    refine WL.nil ?_
    refine thn_n ?_
    refine WP.seq ?_
    refine WP.cutG (G := Option Addr × Nat × Nat × Nat × Nat × Nat) [13, 33, 34, 35, 36, 37, 38, 39, 40, 41] (fun (aY9Y3Y0Y0, capY9Y3Y0Y0, bY9Y4Y0Y0, bY9Y6Y0Y0, capY9Y5Y0Y0, bY9Y9Y0Y0) => [(33, (.pointer (some ⟨b_7, 0, none⟩))), (34, (.slice (some ⟨b_4, 0, none⟩) 8 8)), (35, (.slice a_20 8 cap_21)), (36, (.slice aY9Y3Y0Y0 8 capY9Y3Y0Y0)), (37, (.slice (some ⟨bY9Y4Y0Y0, 0, none⟩) 2 2)), (38, (.slice (some ⟨bY9Y6Y0Y0, 0, none⟩) 16 capY9Y5Y0Y0)), (39, (.pointer (some (gA (some ⟨bY9Y6Y0Y0, 0, none⟩) 0)))), (40, (.agg ⟨(nonce ++ ((leN 8 (UInt64.ofNat i).toNat).reverse)).map vu8⟩)), (41, (.agg ⟨(encN (keysL (tabL sub) key) (tabL sub) (nonce ++ ((leN 8 (UInt64.ofNat i).toNat).reverse)) 10).map vu8⟩)), (13, (.pointer (some ⟨bY9Y9Y0Y0, 0, none⟩)))]) (fun (aY9Y3Y0Y0, capY9Y3Y0Y0, bY9Y4Y0Y0, bY9Y6Y0Y0, capY9Y5Y0Y0, bY9Y9Y0Y0) w1 => HP w w1 [.blk bY9Y9Y0Y0 .nw 66 [(16, (encN (keysL (tabL sub) key) (tabL sub) (nonce ++ ((leN 8 (UInt64.ofNat i).toNat).reverse)) 10).map vu8)], .row (some ⟨bY9Y6Y0Y0, 0, none⟩) 16 capY9Y5Y0Y0 5 1 ((nonce ++ ((leN 8 (UInt64.ofNat i).toNat).reverse)).map vu8), .blk bY9Y4Y0Y0 .nw 23 [(2, [(.slice (some ⟨b_4, 0, none⟩) 8 8), (.slice aY9Y3Y0Y0 8 capY9Y3Y0Y0)])], .row aY9Y3Y0Y0 8 capY9Y3Y0Y0 5 1 (((leN 8 (UInt64.ofNat i).toNat).reverse).map vu8), .row a_20 8 cap_21 5 1 ((leN 8 (UInt64.ofNat i).toNat).map vu8), .row ra (16 * i) rc 5 1 ((strN key nonce i).map vu8), .blk b_7 .nw 109 [(176, (keysL (tabL sub) key).map vu8), (256, (tabL sub).map vu8)], .blk b_4 .nw 67 [(8, nonce.map vu8)], .blk b_1 .nw 66 [(16, key.map vu8)]]) ?_ ?_
    · refine WP.drawZ 10 (SL w.heap.size []) (.q 0 (.q 1 (.q 2 (.s2 3 9 (.s2 4 9 (.s2 5 9 (.q 6 (.s2 7 9 (.s2 8 9 (.s 9 (.s 10 .nil)) (.s 8 (.s 10 .nil))) (.s 7 (.s 8 (.s 10 .nil))))) (.s 5 (.q 6 (.s 7 (.s 8 (.s 10 .nil)))))) (.s 4 (.s 5 (.q 6 (.s 7 (.s 8 (.s 10 .nil))))))) (.s 3 (.s 4 (.s 5 (.q 6 (.s 7 (.s 8 (.s 10 .nil))))))))))) (by kernel_rfl) (by kernel_rfl) rfl (by kernel_rfl) (fun w_26 hc_28 => (SL.nil _ _)) (fun w_26 hc_28 => ?_)
      have h_27 := h_25.same hc_28
      refine ZT.q rfl (Wn.no rfl) rfl rfl (fun wq hS => R.move (v := (.pointer (some ⟨b_7, 0, none⟩))) rfl) ?_
      refine ZT.q rfl (Wn.no rfl) rfl rfl (fun wq hS => R.sliceA (b := b_4) (off := 0) (off' := 0) (l := 0) (h := 8) rfl EvB.dflt EvB.dflt (by decide) (by decide) Try.underlying67 Try.sizeOf5 rfl) ?_
      refine ZT.q rfl (Wn.no rfl) rfl rfl (fun wq hS => R.move (v := (.slice a_20 8 cap_21)) rfl) ?_
      refine ZT.s2 ?_ ?_
      · refine OpZ.one rfl (Wn.no rfl) ?_
        refine WL.call (al := [(.slice a_20 8 cap_21)]) Try.call34 rfl rfl (c_Turned a_20 8 cap_21 (leN 8 (UInt64.ofNat i).toNat) (leN_len ..) (by omega) _ (ownView (h_27.ok _ (.head _)))) rfl ?_
        rintro _ w_31 ⟨a_29, cap_30, rfl, hc_32, ho_33⟩
        have h_34 := h_27.gotRow hc_32 ho_33
        refine WL.nil ?_
        refine ⟨(SL.nil _ _), ?_⟩
        refine ZT.s2 ?_ ?_
        · refine OpZ.one rfl (Wn.no rfl) ?_
          refine WL.buildSl (vs := [(0, (.slice (some ⟨b_4, 0, none⟩) 8 8)), (1, (.slice a_29 8 cap_30))]) (cs := [(.slice (some ⟨b_4, 0, none⟩) 8 8), (.slice a_29 8 cap_30)]) h_34 Try.underlying40 Try.sizeOf23 (zv Try.typeInfo23 rfl) rfl rfl (by kernel_rfl) rfl (by simp [Value.oneCell']) rfl rfl (fun b_35 w_36 h_37 => ?_)
          refine WL.nil ?_
          refine ⟨(SL.nil _ _), ?_⟩
          refine ZT.s2 ?_ ?_
          · refine OpZ.one rfl (Wn.no rfl) ?_
            refine WL.call (al := [(.slice (some ⟨b_35, 0, none⟩) 2 2)]) Try.call49 rfl rfl (c_Join2 (some ⟨b_35, 0, none⟩) 2 [(.slice (some ⟨b_4, 0, none⟩) 8 8), (.slice a_29 8 cap_30)] nonce ((leN 8 (UInt64.ofNat i).toNat).reverse) hno ((List.length_reverse ..).trans (leN_len ..)) _ (viewB (h_37.ok _ (.head _)) Sg.h) (Sls.cons hno (by decide) (viewB (h_37.ok _ (.tail _ (.tail _ (.tail _ (.tail _ (.tail _ (.head _))))))) Sg.h) (Sls.cons ((List.length_reverse ..).trans (leN_len ..)) (h_37.own (.tail _ (.head _))).2.2.1 (ownView (h_37.ok _ (.tail _ (.head _)))) Sls.nil))) rfl ?_
            rintro _ w_40 ⟨a_38, cap_39, rfl, hc_41, ho_42⟩
            have h_43 := h_37.gotRow hc_41 ho_42
            refine WL.nil ?_
            refine ⟨(SL.nil _ _), ?_⟩
            obtain ⟨b_44, rr_45, ha_46, hb_47, hc_48⟩ := Own.open (h_43.own (.head _)) (by decide)
            subst ha_46
            refine ZT.q rfl (Wn.no rfl) rfl rfl (fun wq hS => R.s2ap (a := (some ⟨b_44, 0, none⟩)) (k := 16) rfl Try.underlying66 (by decide)) ?_
            refine ZT.s2 ?_ ?_
            · refine OpZ.one rfl (Wn.no rfl) ?_
              refine WL.q (Wn.no rfl) rfl rfl (R.loadGA (a := (some ⟨b_44, 0, none⟩)) (i := 0) (xs := (nonce ++ ((leN 8 (UInt64.ofNat i).toNat).reverse)).map vu8) (cs := (nonce ++ ((leN 8 (UInt64.ofNat i).toNat).reverse)).map vu8) rfl (ownView (h_43.ok _ (.head _))) Try.isAgg66 Try.sizeOf66 (by rw [List.drop_zero, List.take_of_length_le (by rw [len_map (lenApp (a := 8) (b := 8) hno ((List.length_reverse ..).trans (leN_len ..)) rfl)]; exact Nat.le_refl _)]) (len_map (lenApp (a := 8) (b := 8) hno ((List.length_reverse ..).trans (leN_len ..)) rfl)) (by decide)) ?_
              refine WL.nil ?_
              refine ⟨(SL.nil _ _), ?_⟩
              refine ZT.s2 ?_ ?_
              · refine OpZ.one rfl (Wn.no rfl) ?_
                refine WL.call (al := [(.pointer (some ⟨b_7, 0, none⟩)), (.agg ⟨(nonce ++ ((leN 8 (UInt64.ofNat i).toNat).reverse)).map vu8⟩)]) Try.call81 rfl rfl (c_do (keysL (tabL sub) key) (tabL sub) (nonce ++ ((leN 8 (UInt64.ofNat i).toNat).reverse)) (keysL_len ..) (tabL_len ..) (lenApp (a := 8) (b := 8) hno ((List.length_reverse ..).trans (leN_len ..)) rfl) b_7 _ (h_43.argR (.tail _ (.tail _ (.tail _ (.tail _ (.tail _ (.head _)))))))) rfl ?_
                rintro _ w_50 ⟨rfl, hc_49⟩
                have h_51 := h_43.same hc_49
                refine WL.nil ?_
                refine ⟨(SL.nil _ _), ?_⟩
                refine ZT.s ?_
                refine OpZ.one rfl (Wn.no rfl) ?_
                refine WL.alloc (segs := [(16, (List.replicate 16 (0 : UInt8)).map vu8)]) h_51 (zv Try.typeInfo66 rfl) rfl (SsOk.cons (SOk.u8 (List.length_replicate ..)) SsOk.nil) rfl (fun b_52 w_53 h_54 => ?_)
                refine WL.nil ?_
                refine ⟨(SL.nil _ _), ?_⟩
                refine ZT.s ?_
                refine OpZ.last rfl (Wn.no rfl) ?_
                refine WL.storeA (b := b_52) (off := 0) [] [(16, (List.replicate 16 (0 : UInt8)).map vu8)] [(16, (encN (keysL (tabL sub) key) (tabL sub) (nonce ++ ((leN 8 (UInt64.ofNat i).toNat).reverse)) 10).map vu8)] [] (ys := (encN (keysL (tabL sub) key) (tabL sub) (nonce ++ ((leN 8 (UInt64.ofNat i).toNat).reverse)) 10).map vu8) h_54 rfl rfl Try.sizeOf66 At.h (by decide) rfl rfl rfl rfl rfl rfl (SsOk.cons (SOk.u8 (encN_len (keysL_len ..) (lenApp (a := 8) (b := 8) hno ((List.length_reverse ..).trans (leN_len ..)) rfl) (by omega))) SsOk.nil) (fun w_55 h_56 => ?_)
                refine WL.nil ?_
                refine ZT.nil ?_
                refine thn_n ?_
                exact ⟨(a_29, cap_30, b_35, b_44, cap_39, b_52), (Ag.upd rfl (Ag.upd rfl (Ag.upd rfl (Ag.upd rfl (Ag.upd rfl (Ag.upd rfl (Ag.upd rfl (Ag.upd rfl (Ag.upd rfl (Ag.upd rfl (Ag.refl _ _))))))))))), ⟨rfl, rfl, rfl, rfl, rfl, rfl, rfl, rfl, rfl, rfl, trivial⟩, h_56⟩
              · refine OpZ.one rfl (Wn.no rfl) ?_
                refine WL.alloc (segs := [(16, (List.replicate 16 (0 : UInt8)).map vu8)]) h_43 (zv Try.typeInfo66 rfl) rfl (SsOk.cons (SOk.u8 (List.length_replicate ..)) SsOk.nil) rfl (fun b_57 w_58 h_59 => ?_)
                refine WL.nil ?_
                refine ⟨(SL.nil _ _), ?_⟩
                refine ZT.s ?_
                refine OpZ.one rfl (Wn.no rfl) ?_
                refine WL.call (al := [(.pointer (some ⟨b_7, 0, none⟩)), (.agg ⟨(nonce ++ ((leN 8 (UInt64.ofNat i).toNat).reverse)).map vu8⟩)]) Try.call81 rfl rfl (c_do (keysL (tabL sub) key) (tabL sub) (nonce ++ ((leN 8 (UInt64.ofNat i).toNat).reverse)) (keysL_len ..) (tabL_len ..) (lenApp (a := 8) (b := 8) hno ((List.length_reverse ..).trans (leN_len ..)) rfl) b_7 _ (h_59.argR (.tail _ (.tail _ (.tail _ (.tail _ (.tail _ (.tail _ (.head _))))))))) rfl ?_
                rintro _ w_61 ⟨rfl, hc_60⟩
                have h_62 := h_59.same hc_60
                refine WL.nil ?_
                refine ⟨(SL.nil _ _), ?_⟩
                refine ZT.s ?_
                refine OpZ.last rfl (Wn.no rfl) ?_
                refine WL.storeA (b := b_57) (off := 0) [] [(16, (List.replicate 16 (0 : UInt8)).map vu8)] [(16, (encN (keysL (tabL sub) key) (tabL sub) (nonce ++ ((leN 8 (UInt64.ofNat i).toNat).reverse)) 10).map vu8)] [] (ys := (encN (keysL (tabL sub) key) (tabL sub) (nonce ++ ((leN 8 (UInt64.ofNat i).toNat).reverse)) 10).map vu8) h_62 rfl rfl Try.sizeOf66 At.h (by decide) rfl rfl rfl rfl rfl rfl (SsOk.cons (SOk.u8 (encN_len (keysL_len ..) (lenApp (a := 8) (b := 8) hno ((List.length_reverse ..).trans (leN_len ..)) rfl) (by omega))) SsOk.nil) (fun w_63 h_64 => ?_)
                refine WL.nil ?_
                refine ZT.nil ?_
                refine thn_n ?_
                exact ⟨(a_29, cap_30, b_35, b_44, cap_39, b_57), (Ag.upd rfl (Ag.upd rfl (Ag.upd rfl (Ag.upd rfl (Ag.upd rfl (Ag.upd rfl (Ag.upd rfl (Ag.upd rfl (Ag.upd rfl (Ag.upd rfl (Ag.refl _ _))))))))))), ⟨rfl, rfl, rfl, rfl, rfl, rfl, rfl, rfl, rfl, rfl, trivial⟩, h_64⟩
            · refine OpZ.one rfl (Wn.no rfl) ?_
              refine WL.alloc (segs := [(16, (List.replicate 16 (0 : UInt8)).map vu8)]) h_43 (zv Try.typeInfo66 rfl) rfl (SsOk.cons (SOk.u8 (List.length_replicate ..)) SsOk.nil) rfl (fun b_65 w_66 h_67 => ?_)
              refine WL.nil ?_
              refine ⟨(SL.nil _ _), ?_⟩
              refine ZT.s ?_
              refine OpZ.one rfl (Wn.no rfl) ?_
              refine WL.q (Wn.no rfl) rfl rfl (R.loadGA (a := (some ⟨b_44, 0, none⟩)) (i := 0) (xs := (nonce ++ ((leN 8 (UInt64.ofNat i).toNat).reverse)).map vu8) (cs := (nonce ++ ((leN 8 (UInt64.ofNat i).toNat).reverse)).map vu8) rfl (ownView (h_67.ok _ (.tail _ (.head _)))) Try.isAgg66 Try.sizeOf66 (by rw [List.drop_zero, List.take_of_length_le (by rw [len_map (lenApp (a := 8) (b := 8) hno ((List.length_reverse ..).trans (leN_len ..)) rfl)]; exact Nat.le_refl _)]) (len_map (lenApp (a := 8) (b := 8) hno ((List.length_reverse ..).trans (leN_len ..)) rfl)) (by decide)) ?_
              refine WL.nil ?_
              refine ⟨(SL.nil _ _), ?_⟩
              refine ZT.s ?_
              refine OpZ.one rfl (Wn.no rfl) ?_
              refine WL.call (al := [(.pointer (some ⟨b_7, 0, none⟩)), (.agg ⟨(nonce ++ ((leN 8 (UInt64.ofNat i).toNat).reverse)).map vu8⟩)]) Try.call81 rfl rfl (c_do (keysL (tabL sub) key) (tabL sub) (nonce ++ ((leN 8 (UInt64.ofNat i).toNat).reverse)) (keysL_len ..) (tabL_len ..) (lenApp (a := 8) (b := 8) hno ((List.length_reverse ..).trans (leN_len ..)) rfl) b_7 _ (h_67.argR (.tail _ (.tail _ (.tail _ (.tail _ (.tail _ (.tail _ (.head _))))))))) rfl ?_
              rintro _ w_69 ⟨rfl, hc_68⟩
              have h_70 := h_67.same hc_68
              refine WL.nil ?_
              refine ⟨(SL.nil _ _), ?_⟩
              refine ZT.s ?_
              refine OpZ.last rfl (Wn.no rfl) ?_
              refine WL.storeA (b := b_65) (off := 0) [] [(16, (List.replicate 16 (0 : UInt8)).map vu8)] [(16, (encN (keysL (tabL sub) key) (tabL sub) (nonce ++ ((leN 8 (UInt64.ofNat i).toNat).reverse)) 10).map vu8)] [] (ys := (encN (keysL (tabL sub) key) (tabL sub) (nonce ++ ((leN 8 (UInt64.ofNat i).toNat).reverse)) 10).map vu8) h_70 rfl rfl Try.sizeOf66 At.h (by decide) rfl rfl rfl rfl rfl rfl (SsOk.cons (SOk.u8 (encN_len (keysL_len ..) (lenApp (a := 8) (b := 8) hno ((List.length_reverse ..).trans (leN_len ..)) rfl) (by omega))) SsOk.nil) (fun w_71 h_72 => ?_)
              refine WL.nil ?_
              refine ZT.nil ?_
              refine thn_n ?_
              exact ⟨(a_29, cap_30, b_35, b_44, cap_39, b_65), (Ag.upd rfl (Ag.upd rfl (Ag.upd rfl (Ag.upd rfl (Ag.upd rfl (Ag.upd rfl (Ag.upd rfl (Ag.upd rfl (Ag.upd rfl (Ag.upd rfl (Ag.refl _ _))))))))))), ⟨rfl, rfl, rfl, rfl, rfl, rfl, rfl, rfl, rfl, rfl, trivial⟩, h_72⟩
          · refine OpZ.one rfl (Wn.no rfl) ?_
            refine WL.alloc (segs := [(16, (List.replicate 16 (0 : UInt8)).map vu8)]) h_37 (zv Try.typeInfo66 rfl) rfl (SsOk.cons (SOk.u8 (List.length_replicate ..)) SsOk.nil) rfl (fun b_73 w_74 h_75 => ?_)
            refine WL.nil ?_
            refine ⟨(SL.nil _ _), ?_⟩
            refine ZT.s ?_
            refine OpZ.one rfl (Wn.no rfl) ?_
            refine WL.call (al := [(.slice (some ⟨b_35, 0, none⟩) 2 2)]) Try.call49 rfl rfl (c_Join2 (some ⟨b_35, 0, none⟩) 2 [(.slice (some ⟨b_4, 0, none⟩) 8 8), (.slice a_29 8 cap_30)] nonce ((leN 8 (UInt64.ofNat i).toNat).reverse) hno ((List.length_reverse ..).trans (leN_len ..)) _ (viewB (h_75.ok _ (.tail _ (.head _))) Sg.h) (Sls.cons hno (by decide) (viewB (h_75.ok _ (.tail _ (.tail _ (.tail _ (.tail _ (.tail _ (.tail _ (.head _)))))))) Sg.h) (Sls.cons ((List.length_reverse ..).trans (leN_len ..)) (h_75.own (.tail _ (.tail _ (.head _)))).2.2.1 (ownView (h_75.ok _ (.tail _ (.tail _ (.head _))))) Sls.nil))) rfl ?_
            rintro _ w_78 ⟨a_76, cap_77, rfl, hc_79, ho_80⟩
            have h_81 := h_75.gotRow hc_79 ho_80
            refine WL.nil ?_
            refine ⟨(SL.nil _ _), ?_⟩
            obtain ⟨b_82, rr_83, ha_84, hb_85, hc_86⟩ := Own.open (h_81.own (.head _)) (by decide)
            subst ha_84
            refine ZT.q rfl (Wn.no rfl) rfl rfl (fun wq hS => R.s2ap (a := (some ⟨b_82, 0, none⟩)) (k := 16) rfl Try.underlying66 (by decide)) ?_
            refine ZT.s ?_
            refine OpZ.one rfl (Wn.no rfl) ?_
            refine WL.q (Wn.no rfl) rfl rfl (R.loadGA (a := (some ⟨b_82, 0, none⟩)) (i := 0) (xs := (nonce ++ ((leN 8 (UInt64.ofNat i).toNat).reverse)).map vu8) (cs := (nonce ++ ((leN 8 (UInt64.ofNat i).toNat).reverse)).map vu8) rfl (ownView (h_81.ok _ (.head _))) Try.isAgg66 Try.sizeOf66 (by rw [List.drop_zero, List.take_of_length_le (by rw [len_map (lenApp (a := 8) (b := 8) hno ((List.length_reverse ..).trans (leN_len ..)) rfl)]; exact Nat.le_refl _)]) (len_map (lenApp (a := 8) (b := 8) hno ((List.length_reverse ..).trans (leN_len ..)) rfl)) (by decide)) ?_
            refine WL.nil ?_
            refine ⟨(SL.nil _ _), ?_⟩
            refine ZT.s ?_
            refine OpZ.one rfl (Wn.no rfl) ?_
            refine WL.call (al := [(.pointer (some ⟨b_7, 0, none⟩)), (.agg ⟨(nonce ++ ((leN 8 (UInt64.ofNat i).toNat).reverse)).map vu8⟩)]) Try.call81 rfl rfl (c_do (keysL (tabL sub) key) (tabL sub) (nonce ++ ((leN 8 (UInt64.ofNat i).toNat).reverse)) (keysL_len ..) (tabL_len ..) (lenApp (a := 8) (b := 8) hno ((List.length_reverse ..).trans (leN_len ..)) rfl) b_7 _ (h_81.argR (.tail _ (.tail _ (.tail _ (.tail _ (.tail _ (.tail _ (.head _))))))))) rfl ?_
            rintro _ w_88 ⟨rfl, hc_87⟩
            have h_89 := h_81.same hc_87
            refine WL.nil ?_
            refine ⟨(SL.nil _ _), ?_⟩
            refine ZT.s ?_
            refine OpZ.last rfl (Wn.no rfl) ?_
            refine WL.storeA (b := b_73) (off := 0) [] [(16, (List.replicate 16 (0 : UInt8)).map vu8)] [(16, (encN (keysL (tabL sub) key) (tabL sub) (nonce ++ ((leN 8 (UInt64.ofNat i).toNat).reverse)) 10).map vu8)] [] (ys := (encN (keysL (tabL sub) key) (tabL sub) (nonce ++ ((leN 8 (UInt64.ofNat i).toNat).reverse)) 10).map vu8) h_89 rfl rfl Try.sizeOf66 (At.t At.h) (by decide) rfl rfl rfl rfl rfl rfl (SsOk.cons (SOk.u8 (encN_len (keysL_len ..) (lenApp (a := 8) (b := 8) hno ((List.length_reverse ..).trans (leN_len ..)) rfl) (by omega))) SsOk.nil) (fun w_90 h_91 => ?_)
            refine WL.nil ?_
            refine ZT.nil ?_
            refine thn_n ?_
            have h_92 := h_91.up (Pick.t (Pick.t (Pick.t (Pick.t (Pick.t (Pick.t (Pick.t (Pick.t Pick.h))))))))
            have h_93 := h_92.up (Pick.t (Pick.t (Pick.t (Pick.t (Pick.t (Pick.t (Pick.t (Pick.t Pick.h))))))))
            have h_94 := h_93.up (Pick.t (Pick.t (Pick.t (Pick.t (Pick.t (Pick.t (Pick.t (Pick.t Pick.h))))))))
            have h_95 := h_94.up (Pick.t (Pick.t (Pick.t (Pick.t (Pick.t (Pick.t (Pick.t (Pick.t Pick.h))))))))
            have h_96 := h_95.up (Pick.t (Pick.t (Pick.t (Pick.t (Pick.t (Pick.t (Pick.t (Pick.t Pick.h))))))))
            have h_97 := h_96.up (Pick.t (Pick.t (Pick.t (Pick.t (Pick.t (Pick.t (Pick.t (Pick.t Pick.h))))))))
            have h_98 := h_97.up (Pick.t (Pick.t (Pick.t (Pick.t (Pick.t (Pick.t (Pick.t (Pick.t Pick.h))))))))
            have h_99 := h_98.up (Pick.t (Pick.t (Pick.t (Pick.t (Pick.t (Pick.t (Pick.t Pick.h)))))))
            have h_100 := h_99.up (Pick.t (Pick.t (Pick.t (Pick.t (Pick.t (Pick.t (Pick.t (Pick.t Pick.h))))))))
            exact ⟨(a_29, cap_30, b_35, b_82, cap_77, b_73), (Ag.upd rfl (Ag.upd rfl (Ag.upd rfl (Ag.upd rfl (Ag.upd rfl (Ag.upd rfl (Ag.upd rfl (Ag.upd rfl (Ag.upd rfl (Ag.upd rfl (Ag.refl _ _))))))))))), ⟨rfl, rfl, rfl, rfl, rfl, rfl, rfl, rfl, rfl, rfl, trivial⟩, h_100⟩
        · refine OpZ.one rfl (Wn.no rfl) ?_
          refine WL.alloc (segs := [(16, (List.replicate 16 (0 : UInt8)).map vu8)]) h_34 (zv Try.typeInfo66 rfl) rfl (SsOk.cons (SOk.u8 (List.length_replicate ..)) SsOk.nil) rfl (fun b_101 w_102 h_103 => ?_)
          refine WL.nil ?_
          refine ⟨(SL.nil _ _), ?_⟩
          refine ZT.s ?_
          refine OpZ.one rfl (Wn.no rfl) ?_
          refine WL.buildSl (vs := [(0, (.slice (some ⟨b_4, 0, none⟩) 8 8)), (1, (.slice a_29 8 cap_30))]) (cs := [(.slice (some ⟨b_4, 0, none⟩) 8 8), (.slice a_29 8 cap_30)]) h_103 Try.underlying40 Try.sizeOf23 (zv Try.typeInfo23 rfl) rfl rfl (by kernel_rfl) rfl (by simp [Value.oneCell']) rfl rfl (fun b_104 w_105 h_106 => ?_)
          refine WL.nil ?_
          refine ⟨(SL.nil _ _), ?_⟩
          refine ZT.s ?_
          refine OpZ.one rfl (Wn.no rfl) ?_
          refine WL.call (al := [(.slice (some ⟨b_104, 0, none⟩) 2 2)]) Try.call49 rfl rfl (c_Join2 (some ⟨b_104, 0, none⟩) 2 [(.slice (some ⟨b_4, 0, none⟩) 8 8), (.slice a_29 8 cap_30)] nonce ((leN 8 (UInt64.ofNat i).toNat).reverse) hno ((List.length_reverse ..).trans (leN_len ..)) _ (viewB (h_106.ok _ (.head _)) Sg.h) (Sls.cons hno (by decide) (viewB (h_106.ok _ (.tail _ (.tail _ (.tail _ (.tail _ (.tail _ (.tail _ (.head _)))))))) Sg.h) (Sls.cons ((List.length_reverse ..).trans (leN_len ..)) (h_106.own (.tail _ (.tail _ (.head _)))).2.2.1 (ownView (h_106.ok _ (.tail _ (.tail _ (.head _))))) Sls.nil))) rfl ?_
          rintro _ w_109 ⟨a_107, cap_108, rfl, hc_110, ho_111⟩
          have h_112 := h_106.gotRow hc_110 ho_111
          refine WL.nil ?_
          refine ⟨(SL.nil _ _), ?_⟩
          obtain ⟨b_113, rr_114, ha_115, hb_116, hc_117⟩ := Own.open (h_112.own (.head _)) (by decide)
          subst ha_115
          refine ZT.q rfl (Wn.no rfl) rfl rfl (fun wq hS => R.s2ap (a := (some ⟨b_113, 0, none⟩)) (k := 16) rfl Try.underlying66 (by decide)) ?_
          refine ZT.s ?_
          refine OpZ.one rfl (Wn.no rfl) ?_
          refine WL.q (Wn.no rfl) rfl rfl (R.loadGA (a := (some ⟨b_113, 0, none⟩)) (i := 0) (xs := (nonce ++ ((leN 8 (UInt64.ofNat i).toNat).reverse)).map vu8) (cs := (nonce ++ ((leN 8 (UInt64.ofNat i).toNat).reverse)).map vu8) rfl (ownView (h_112.ok _ (.head _))) Try.isAgg66 Try.sizeOf66 (by rw [List.drop_zero, List.take_of_length_le (by rw [len_map (lenApp (a := 8) (b := 8) hno ((List.length_reverse ..).trans (leN_len ..)) rfl)]; exact Nat.le_refl _)]) (len_map (lenApp (a := 8) (b := 8) hno ((List.length_reverse ..).trans (leN_len ..)) rfl)) (by decide)) ?_
          refine WL.nil ?_
          refine ⟨(SL.nil _ _), ?_⟩
          refine ZT.s ?_
          refine OpZ.one rfl (Wn.no rfl) ?_
          refine WL.call (al := [(.pointer (some ⟨b_7, 0, none⟩)), (.agg ⟨(nonce ++ ((leN 8 (UInt64.ofNat i).toNat).reverse)).map vu8⟩)]) Try.call81 rfl rfl (c_do (keysL (tabL sub) key) (tabL sub) (nonce ++ ((leN 8 (UInt64.ofNat i).toNat).reverse)) (keysL_len ..) (tabL_len ..) (lenApp (a := 8) (b := 8) hno ((List.length_reverse ..).trans (leN_len ..)) rfl) b_7 _ (h_112.argR (.tail _ (.tail _ (.tail _ (.tail _ (.tail _ (.tail _ (.head _))))))))) rfl ?_
          rintro _ w_119 ⟨rfl, hc_118⟩
          have h_120 := h_112.same hc_118
          refine WL.nil ?_
          refine ⟨(SL.nil _ _), ?_⟩
          refine ZT.s ?_
          refine OpZ.last rfl (Wn.no rfl) ?_
          refine WL.storeA (b := b_101) (off := 0) [] [(16, (List.replicate 16 (0 : UInt8)).map vu8)] [(16, (encN (keysL (tabL sub) key) (tabL sub) (nonce ++ ((leN 8 (UInt64.ofNat i).toNat).reverse)) 10).map vu8)] [] (ys := (encN (keysL (tabL sub) key) (tabL sub) (nonce ++ ((leN 8 (UInt64.ofNat i).toNat).reverse)) 10).map vu8) h_120 rfl rfl Try.sizeOf66 (At.t (At.t At.h)) (by decide) rfl rfl rfl rfl rfl rfl (SsOk.cons (SOk.u8 (encN_len (keysL_len ..) (lenApp (a := 8) (b := 8) hno ((List.length_reverse ..).trans (leN_len ..)) rfl) (by omega))) SsOk.nil) (fun w_121 h_122 => ?_)
          refine WL.nil ?_
          refine ZT.nil ?_
          refine thn_n ?_
          have h_123 := h_122.up (Pick.t (Pick.t (Pick.t (Pick.t (Pick.t (Pick.t (Pick.t (Pick.t Pick.h))))))))
          have h_124 := h_123.up (Pick.t (Pick.t (Pick.t (Pick.t (Pick.t (Pick.t (Pick.t (Pick.t Pick.h))))))))
          have h_125 := h_124.up (Pick.t (Pick.t (Pick.t (Pick.t (Pick.t (Pick.t (Pick.t (Pick.t Pick.h))))))))
          have h_126 := h_125.up (Pick.t (Pick.t (Pick.t (Pick.t (Pick.t (Pick.t (Pick.t (Pick.t Pick.h))))))))
          have h_127 := h_126.up (Pick.t (Pick.t (Pick.t (Pick.t (Pick.t (Pick.t (Pick.t (Pick.t Pick.h))))))))
          have h_128 := h_127.up (Pick.t (Pick.t (Pick.t (Pick.t (Pick.t (Pick.t (Pick.t (Pick.t Pick.h))))))))
          have h_129 := h_128.up (Pick.t (Pick.t (Pick.t (Pick.t (Pick.t (Pick.t (Pick.t Pick.h)))))))
          have h_130 := h_129.up (Pick.t (Pick.t (Pick.t (Pick.t (Pick.t (Pick.t (Pick.t Pick.h)))))))
          have h_131 := h_130.up (Pick.t (Pick.t (Pick.t (Pick.t (Pick.t (Pick.t (Pick.t (Pick.t Pick.h))))))))
          exact ⟨(a_29, cap_30, b_104, b_113, cap_108, b_101), (Ag.upd rfl (Ag.upd rfl (Ag.upd rfl (Ag.upd rfl (Ag.upd rfl (Ag.upd rfl (Ag.upd rfl (Ag.upd rfl (Ag.upd rfl (Ag.upd rfl (Ag.refl _ _))))))))))), ⟨rfl, rfl, rfl, rfl, rfl, rfl, rfl, rfl, rfl, rfl, trivial⟩, h_131⟩
      · refine OpZ.one rfl (Wn.no rfl) ?_
        refine WL.alloc (segs := [(16, (List.replicate 16 (0 : UInt8)).map vu8)]) h_27 (zv Try.typeInfo66 rfl) rfl (SsOk.cons (SOk.u8 (List.length_replicate ..)) SsOk.nil) rfl (fun b_132 w_133 h_134 => ?_)
        refine WL.nil ?_
        refine ⟨(SL.nil _ _), ?_⟩
        refine ZT.s ?_
        refine OpZ.one rfl (Wn.no rfl) ?_
        refine WL.call (al := [(.slice a_20 8 cap_21)]) Try.call34 rfl rfl (c_Turned a_20 8 cap_21 (leN 8 (UInt64.ofNat i).toNat) (leN_len ..) (by omega) _ (ownView (h_134.ok _ (.tail _ (.head _))))) rfl ?_
        rintro _ w_137 ⟨a_135, cap_136, rfl, hc_138, ho_139⟩
        have h_140 := h_134.gotRow hc_138 ho_139
        refine WL.nil ?_
        refine ⟨(SL.nil _ _), ?_⟩
        refine ZT.s ?_
        refine OpZ.one rfl (Wn.no rfl) ?_
        refine WL.buildSl (vs := [(0, (.slice (some ⟨b_4, 0, none⟩) 8 8)), (1, (.slice a_135 8 cap_136))]) (cs := [(.slice (some ⟨b_4, 0, none⟩) 8 8), (.slice a_135 8 cap_136)]) h_140 Try.underlying40 Try.sizeOf23 (zv Try.typeInfo23 rfl) rfl rfl (by kernel_rfl) rfl (by simp [Value.oneCell']) rfl rfl (fun b_141 w_142 h_143 => ?_)
        refine WL.nil ?_
        refine ⟨(SL.nil _ _), ?_⟩
        refine ZT.s ?_
        refine OpZ.one rfl (Wn.no rfl) ?_
        refine WL.call (al := [(.slice (some ⟨b_141, 0, none⟩) 2 2)]) Try.call49 rfl rfl (c_Join2 (some ⟨b_141, 0, none⟩) 2 [(.slice (some ⟨b_4, 0, none⟩) 8 8), (.slice a_135 8 cap_136)] nonce ((leN 8 (UInt64.ofNat i).toNat).reverse) hno ((List.length_reverse ..).trans (leN_len ..)) _ (viewB (h_143.ok _ (.head _)) Sg.h) (Sls.cons hno (by decide) (viewB (h_143.ok _ (.tail _ (.tail _ (.tail _ (.tail _ (.tail _ (.tail _ (.head _)))))))) Sg.h) (Sls.cons ((List.length_reverse ..).trans (leN_len ..)) (h_143.own (.tail _ (.head _))).2.2.1 (ownView (h_143.ok _ (.tail _ (.head _)))) Sls.nil))) rfl ?_
        rintro _ w_146 ⟨a_144, cap_145, rfl, hc_147, ho_148⟩
        have h_149 := h_143.gotRow hc_147 ho_148
        refine WL.nil ?_
        refine ⟨(SL.nil _ _), ?_⟩
        obtain ⟨b_150, rr_151, ha_152, hb_153, hc_154⟩ := Own.open (h_149.own (.head _)) (by decide)
        subst ha_152
        refine ZT.q rfl (Wn.no rfl) rfl rfl (fun wq hS => R.s2ap (a := (some ⟨b_150, 0, none⟩)) (k := 16) rfl Try.underlying66 (by decide)) ?_
        refine ZT.s ?_
        refine OpZ.one rfl (Wn.no rfl) ?_
        refine WL.q (Wn.no rfl) rfl rfl (R.loadGA (a := (some ⟨b_150, 0, none⟩)) (i := 0) (xs := (nonce ++ ((leN 8 (UInt64.ofNat i).toNat).reverse)).map vu8) (cs := (nonce ++ ((leN 8 (UInt64.ofNat i).toNat).reverse)).map vu8) rfl (ownView (h_149.ok _ (.head _))) Try.isAgg66 Try.sizeOf66 (by rw [List.drop_zero, List.take_of_length_le (by rw [len_map (lenApp (a := 8) (b := 8) hno ((List.length_reverse ..).trans (leN_len ..)) rfl)]; exact Nat.le_refl _)]) (len_map (lenApp (a := 8) (b := 8) hno ((List.length_reverse ..).trans (leN_len ..)) rfl)) (by decide)) ?_
        refine WL.nil ?_
        refine ⟨(SL.nil _ _), ?_⟩
        refine ZT.s ?_
        refine OpZ.one rfl (Wn.no rfl) ?_
        refine WL.call (al := [(.pointer (some ⟨b_7, 0, none⟩)), (.agg ⟨(nonce ++ ((leN 8 (UInt64.ofNat i).toNat).reverse)).map vu8⟩)]) Try.call81 rfl rfl (c_do (keysL (tabL sub) key) (tabL sub) (nonce ++ ((leN 8 (UInt64.ofNat i).toNat).reverse)) (keysL_len ..) (tabL_len ..) (lenApp (a := 8) (b := 8) hno ((List.length_reverse ..).trans (leN_len ..)) rfl) b_7 _ (h_149.argR (.tail _ (.tail _ (.tail _ (.tail _ (.tail _ (.tail _ (.head _))))))))) rfl ?_
        rintro _ w_156 ⟨rfl, hc_155⟩
        have h_157 := h_149.same hc_155
        refine WL.nil ?_
        refine ⟨(SL.nil _ _), ?_⟩
        refine ZT.s ?_
        refine OpZ.last rfl (Wn.no rfl) ?_
        refine WL.storeA (b := b_132) (off := 0) [] [(16, (List.replicate 16 (0 : UInt8)).map vu8)] [(16, (encN (keysL (tabL sub) key) (tabL sub) (nonce ++ ((leN 8 (UInt64.ofNat i).toNat).reverse)) 10).map vu8)] [] (ys := (encN (keysL (tabL sub) key) (tabL sub) (nonce ++ ((leN 8 (UInt64.ofNat i).toNat).reverse)) 10).map vu8) h_157 rfl rfl Try.sizeOf66 (At.t (At.t (At.t At.h))) (by decide) rfl rfl rfl rfl rfl rfl (SsOk.cons (SOk.u8 (encN_len (keysL_len ..) (lenApp (a := 8) (b := 8) hno ((List.length_reverse ..).trans (leN_len ..)) rfl) (by omega))) SsOk.nil) (fun w_158 h_159 => ?_)
        refine WL.nil ?_
        refine ZT.nil ?_
        refine thn_n ?_
        have h_160 := h_159.up (Pick.t (Pick.t (Pick.t (Pick.t (Pick.t (Pick.t (Pick.t (Pick.t Pick.h))))))))
        have h_161 := h_160.up (Pick.t (Pick.t (Pick.t (Pick.t (Pick.t (Pick.t (Pick.t (Pick.t Pick.h))))))))
        have h_162 := h_161.up (Pick.t (Pick.t (Pick.t (Pick.t (Pick.t (Pick.t (Pick.t (Pick.t Pick.h))))))))
        have h_163 := h_162.up (Pick.t (Pick.t (Pick.t (Pick.t (Pick.t (Pick.t (Pick.t (Pick.t Pick.h))))))))
        have h_164 := h_163.up (Pick.t (Pick.t (Pick.t (Pick.t (Pick.t (Pick.t (Pick.t (Pick.t Pick.h))))))))
        have h_165 := h_164.up (Pick.t (Pick.t (Pick.t (Pick.t (Pick.t (Pick.t (Pick.t Pick.h)))))))
        have h_166 := h_165.up (Pick.t (Pick.t (Pick.t (Pick.t (Pick.t (Pick.t (Pick.t Pick.h)))))))
        have h_167 := h_166.up (Pick.t (Pick.t (Pick.t (Pick.t (Pick.t (Pick.t (Pick.t Pick.h)))))))
        have h_168 := h_167.up (Pick.t (Pick.t (Pick.t (Pick.t (Pick.t (Pick.t (Pick.t (Pick.t Pick.h))))))))
        exact ⟨(a_135, cap_136, b_141, b_150, cap_145, b_132), (Ag.upd rfl (Ag.upd rfl (Ag.upd rfl (Ag.upd rfl (Ag.upd rfl (Ag.upd rfl (Ag.upd rfl (Ag.upd rfl (Ag.upd rfl (Ag.upd rfl (Ag.refl _ _))))))))))), ⟨rfl, rfl, rfl, rfl, rfl, rfl, rfl, rfl, rfl, rfl, trivial⟩, h_168⟩
    · rintro ⟨a_172, cap_173, b_174, b_175, cap_176, b_177⟩ J_169 w_170 h_171
      refine thn_n ?_
      refine WP.reg ?_
      refine WL.q (Wn.no rfl) rfl rfl (R.move (v := (.slice ra (16 * i) rc)) rfl) ?_
      refine WL.q (Wn.no rfl) rfl rfl (R.sliceA (b := b_177) (off := 0) (off' := 0) (l := 0) (h := 16) rfl EvB.dflt EvB.dflt (by decide) (by decide) Try.underlying66 Try.sizeOf5 rfl) ?_
      refine WL.append (km := 16 * i + 16) (xs := (strN key nonce i).map vu8) (ys := (encN (keysL (tabL sub) key) (tabL sub) (nonce ++ ((leN 8 (UInt64.ofNat i).toNat).reverse)) 10).map vu8) (zs := ((strN key nonce i) ++ (encN (keysL (tabL sub) key) (tabL sub) (nonce ++ ((leN 8 (UInt64.ofNat i).toNat).reverse)) 10)).map vu8) h_171 rfl rfl el23 (viewB (h_171.ok _ (.head _)) Sg.h) ((len_map (encN_len (keysL_len ..) (lenApp (a := 8) (b := 8) hno ((List.length_reverse ..).trans (leN_len ..)) rfl) (by omega))).trans (Nat.mul_one _).symm) (one_u8 _) (by simp only [List.map_append, List.map_nil]) (by omega) (by omega) (by omega) (fun _ _ => (At.t (At.t (At.t (At.t (At.t At.h)))))) rfl (fun a_178 c_179 w_180 h_181 => ?_)
      refine WL.q (Wn.no rfl) rfl rfl (R.assign (v := (.slice a_178 (16 * i + 16) c_179)) rfl) ?_
      refine WL.nil ?_
      refine inb_n ?_
      refine thn_n ?_
      refine WP.reg ?_
      refine WL.q (Wn.no rfl) rfl rfl (R.move (v := (vu64 (UInt64.ofNat i))) rfl) ?_
      refine WL.q (Wn.no rfl) rfl rfl (R.bin (v := (vu64 ((UInt64.ofNat i) + 1))) rfl rfl (b64_add (UInt64.ofNat i) 1)) ?_
      refine WL.q (Wn.no rfl) rfl rfl (R.assign (v := (vu64 ((UInt64.ofNat i) + 1))) rfl) ?_
      refine WL.nil ?_
      refine thn_n ?_
      have h_182 := h_181.drop rfl
      have h_183 := h_182.drop rfl
      have h_184 := h_183.drop rfl
      have h_185 := h_184.drop rfl
      have h_186 := h_185.drop rfl
      have es : (strN key nonce i) ++ (encN (keysL (tabL sub) key) (tabL sub) (nonce ++ ((leN 8 (UInt64.ofNat i).toNat).reverse)) 10) = strN key nonce (i + 1) := (by rw [u64nat (by omega)]; rfl)
      rw [es] at h_186
      exact ⟨(i + 1, a_178, c_179), _, (by omega), (Ag.upd rfl (Ag.upd rfl (Ag.upd rfl (Ag.upd rfl (Ag.upd rfl (Ag.upd rfl (Ag.upd rfl (Ag.updL rfl (Ag.trans (Ag.sub rfl (Ag.mix _ _ _)) (Ag.upd rfl (Ag.upd rfl (Ag.upd rfl (Ag.upd rfl (Ag.upd rfl (Ag.upd rfl (Ag.upd rfl (Ag.upd rfl (Ag.upd rfl (Ag.upd rfl (Ag.upd rfl (Ag.updL rfl (Ag.mix _ _ _)))))))))))))))))))))), ⟨rfl, congrArg vu64 (of_succ i), trivial⟩, h_186, (by omega), rfl⟩
  · have p_187 := of_decide_eq_false c_18
    refine WP.exit ?_
    refine thn_x ?_
    refine thn_x ?_
    refine inb_hit ?_
    refine thn_n ?_
    refine WP.seq ?_
    refine WP.reg ?_
    refine WL.q (Wn.no rfl) rfl rfl (R.move (v := (.slice ra (16 * i) rc)) rfl) ?_
    refine WL.q (Wn.no rfl) rfl rfl (R.move (v := (vi ((n : Nat) : Int))) rfl) ?_
    refine WL.q (Wn.no rfl) rfl rfl (R.move (v := (vi ((n : Nat) : Int))) rfl) ?_
    refine WL.q (Wn.no rfl) rfl rfl (R.sliceR3 (h := n) rfl EvB.dflt rfl rfl rfl rfl (Nat.le_trans (by omega) (h_15.own (.head _)).2.2.1) Try.underlying23 Try.sizeOf5 (h_15.ok _ (.head _))) ?_
    have h_188 := HP.rowCap (k := n) (ys := ((strN key nonce i).take n).map vu8) h_15 At.h (by omega) (by rw [Nat.mul_one, ← List.map_take])
    refine WL.q (Wn.no rfl) rfl rfl (R.assign (v := (.slice ra n n)) rfl) ?_
    refine WL.q (Wn.no rfl) rfl rfl (R.assign (v := (vi 0)) rfl) ?_
    refine WL.nil ?_
    refine thn_n ?_
    refine WP.ret ?_
    refine ret_of Try.results53 (RV.tmp (v := (.slice ra n n)) rfl (RV.tmp (v := (vi 0)) rfl RV.nil)) ?_
    rw [strL_of hno (by omega)] at h_188
    exact ⟨_, rfl, h_188.chgS, h_188.ok _ (.head _)⟩

theorem c_StreamR (key nonce : List UInt8) (hkey : key.length = 16) (hno : nonce.length = 8) (n : Nat) (h2 : n ≤ 1048576) (w : World) :
    Cs Try.prog 55 [(.agg ⟨key.map vu8⟩), (.agg ⟨nonce.map vu8⟩), (vi ((n : Nat) : Int))].toArray w (fun v w1 => ∃ a cap, v = .slice a n cap ∧ Chg w w1 [] ∧ Own w.heap.size w1 5 1 a n cap ((strL key nonce n).map vu8)) := by
  refine Cs.of (n := 53) (args := [(.agg ⟨key.map vu8⟩), (.agg ⟨nonce.map vu8⟩), (vi ((n : Nat) : Int))]) Try.func55 rfl rfl rfl ?_
  have h_0 := HP.init w
  refine WP.seq ?_
  refine WP.reg ?_
  refine WL.box (v := (.agg ⟨key.map vu8⟩)) (segs := [(16, key.map vu8)]) h_0 rfl rfl (SsOk.cons (SOk.u8 hkey) SsOk.nil) rfl (fun b_1 w_2 h_3 => ?_)
  refine WL.box (v := (.agg ⟨nonce.map vu8⟩)) (segs := [(8, nonce.map vu8)]) h_3 rfl rfl (SsOk.cons (SOk.u8 hno) SsOk.nil) rfl (fun b_4 w_5 h_6 => ?_)
  refine WL.q (Wn.no rfl) rfl rfl (R.assign (v := (.slice none 0 0)) rfl) ?_
  refine WL.nil ?_
  refine thn_n ?_
  refine WP.seq ?_
  refine WP.reg ?_
  refine WL.call (al := []) Try.call57 rfl rfl (c_TableR  _ ) rfl ?_
  rintro _ w_8 ⟨rfl, hc_7⟩
  have h_9 := h_6.same hc_7
  refine WL.alloc (segs := [(256, (List.replicate 256 (0 : UInt8)).map vu8)]) h_9 (zv Try.typeInfo72 rfl) rfl (SsOk.cons (SOk.u8 (List.length_replicate ..)) SsOk.nil) rfl (fun b_10 w_11 h_12 => ?_)
  refine WL.storeA (b := b_10) (off := 0) [] [(256, (List.replicate 256 (0 : UInt8)).map vu8)] [(256, (tabL sub).map vu8)] [] (ys := (tabL sub).map vu8) h_12 rfl rfl Try.sizeOf72 At.h (by decide) rfl rfl rfl rfl rfl rfl (SsOk.cons (SOk.u8 (tabL_len sub)) SsOk.nil) (fun w_13 h_14 => ?_)
  refine WL.nil ?_
  refine thn_n ?_
  refine WP.seq ?_
  refine WP.reg ?_
  refine WL.q (Wn.no rfl) rfl rfl (R.loadA (b := b_1) (off := 0) [] [(16, key.map vu8)] [] (cs := key.map vu8) rfl Try.isAgg66 Try.sizeOf66 (h_14.ok _ (.tail _ (.tail _ (.head _)))) rfl rfl rfl rfl) ?_
  refine WL.q (Wn.no rfl) rfl rfl (R.loadA (b := b_10) (off := 0) [] [(256, (tabL sub).map vu8)] [] (cs := (tabL sub).map vu8) rfl Try.isAgg72 Try.sizeOf72 (h_14.ok _ (.head _)) rfl rfl rfl rfl) ?_
  refine WL.call (al := [(.agg ⟨key.map vu8⟩), (.agg ⟨(tabL sub).map vu8⟩)]) Try.call58 rfl rfl (c_ExpandR (tabL sub) key (tabL_len sub) hkey _ ) rfl ?_
  rintro _ w_16 ⟨rfl, hc_15⟩
  have h_17 := h_14.same hc_15
  refine WL.alloc (segs := [(176, (List.replicate 176 (0 : UInt8)).map vu8)]) h_17 (zv Try.typeInfo74 rfl) rfl (SsOk.cons (SOk.u8 (List.length_replicate ..)) SsOk.nil) rfl (fun b_18 w_19 h_20 => ?_)
  refine WL.storeA (b := b_18) (off := 0) [] [(176, (List.replicate 176 (0 : UInt8)).map vu8)] [(176, (keysL (tabL sub) key).map vu8)] [] (ys := (keysL (tabL sub) key).map vu8) h_20 rfl rfl Try.sizeOf74 At.h (by decide) rfl rfl rfl rfl rfl rfl (SsOk.cons (SOk.u8 (keysL_len ..)) SsOk.nil) (fun w_21 h_22 => ?_)
  refine WL.nil ?_
  refine thn_n ?_
  refine WP.seq ?_
  refine WP.reg ?_
  refine WL.q (Wn.no rfl) rfl rfl (R.assign (v := (.slice none 0 0)) rfl) ?_
  refine WL.nil ?_
  refine thn_n ?_
  refine WP.seq ?_
  refine WP.seq ?_
  refine WP.reg ?_
  refine WL.q (Wn.no rfl) rfl rfl (R.assign (v := (vi 0)) rfl) ?_
  refine WL.nil ?_
  refine thn_n ?_
  refine WP.block ?_
  have h_23 := h_22.rowNil 5 1
  refine WP.loopG (G := Nat × Option Addr × Nat) [9, 10, 11, 12, 17, 18, 19, 20, 21, 22, 23, 24, 25, 26, 27, 28, 29, 30, 31, 32, 33, 34, 35, 36, 37, 38, 39, 40, 41, 42, 43, 44, 45, 46, 47, 48, 49] (fun (i, ra, rc) => [(9, (.slice ra (16 * i) rc)), (10, (vi ((i : Nat) : Int)))]) (fun (i, ra, rc) m w1 => HP w w1 [.row ra (16 * i) rc 5 1 ((strN key nonce i).map vu8), .blk b_18 .nw 74 [(176, (keysL (tabL sub) key).map vu8)], .blk b_10 .nw 72 [(256, (tabL sub).map vu8)], .blk b_4 .nw 67 [(8, nonce.map vu8)], .blk b_1 .nw 66 [(16, key.map vu8)]] ∧ (16 * i ≤ n + 15) ∧ m = n + 16 - 16 * i) ⟨(0, none, 0), _, ⟨rfl, rfl, trivial⟩, h_23, (by omega), rfl⟩ ?_
  rintro ⟨i, ra, rc⟩ m_26 J_27 w_24 ⟨h_25, hi, rfl⟩
  refine WP.seq ?_
  refine WP.seq ?_
  refine WP.reg ?_
  refine WL.q (Wn.no rfl) rfl rfl (R.move (v := (.slice ra (16 * i) rc)) rfl) ?_
  refine WL.q (Wn.no rfl) rfl rfl (R.lenS (a := ra) (m := 16 * i) rfl rfl Try.underlying23) ?_
  refine WL.q (Wn.no rfl) rfl rfl (R.move (v := (vi ((n : Nat) : Int))) rfl) ?_
  refine WL.q (Wn.no rfl) rfl rfl (R.bin (v := (.bool (decide ((((16 * i : Nat) : Int) : Int) < ((n : Nat) : Int))))) rfl rfl (bi_lss (r := decide ((((16 * i : Nat) : Int) : Int) < ((n : Nat) : Int))) rfl)) ?_
  refine WL.nil ?_
  refine thn_n ?_
  refine WP.cond (b := decide ((((16 * i : Nat) : Int) : Int) < ((n : Nat) : Int))) rfl (fun c_28 => ?_) (fun c_28 => ?_)
  · have p_29 := of_decide_eq_true c_28
    refine WP.skip ?_
    refine thn_n ?_
    refine WP.seq ?_
    refine WP.block ?_
    refine WP.seq ?_
    refine WP.reg ?_
    refine WL.alloc (segs := [(16, (List.replicate 16 (0 : UInt8)).map vu8)]) h_25 (zv Try.typeInfo66 rfl) rfl (SsOk.cons (SOk.u8 (List.length_replicate ..)) SsOk.nil) rfl (fun b_30 w_31 h_32 => ?_)
    refine WL.nil ?_
    refine thn_n ?_
    refine WP.seq ?_
    refine WP.seq ?_
    refine WP.reg ?_
    refine WL.q (Wn.no rfl) rfl rfl (R.assign (v := (vi 0)) rfl) ?_
    refine WL.nil ?_
    refine thn_n ?_
    refine WP.block ?_
    refine WP.loopU (WI.round ?_)
    refine WP.seq ?_
    refine WP.seq ?_
    refine WP.reg ?_
    refine WL.q (Wn.no rfl) rfl rfl (R.move (v := (vi 0)) rfl) ?_
    refine WL.q (Wn.no rfl) rfl rfl (R.bin (v := (.bool true)) rfl rfl (bi_lss (r := true) (by decide))) ?_
    refine WL.nil ?_
    refine thn_n ?_
    refine WP.condT rfl ?_
    refine WP.skip ?_
    refine thn_n ?_
    refine WP.seq ?_
    refine WP.block ?_
    refine WP.seq ?_
    refine WP.reg ?_
    refine WL.q (Wn.no rfl) rfl rfl (R.move (v := (vi 0)) rfl) ?_
    refine WL.q (Wn.no rfl) rfl rfl (R.move (v := (vi 0)) rfl) ?_
    refine WL.q (Wn.no rfl) rfl rfl (R.indexA (b := b_4) (off := 0) (off' := 0) (i := 0) rfl rfl rfl (by decide) Try.underlying67 Try.sizeOf5 rfl) ?_
    refine WL.q (Wn.no rfl) rfl rfl (R.loadE (b := b_4) (off := 0) (i := 0) (v := (vu8 (nonce.getD 0 0))) rfl Try.isAgg5 (h_32.ok _ (.tail _ (.tail _ (.tail _ (.tail _ (.head _)))))) Sg.h rfl (get_u8 (lt_len (K := 8) hno (by decide)))) ?_
    refine WL.q (Wn.no rfl) rfl rfl (R.indexA (b := b_30) (off := 0) (off' := 0) (i := 0) rfl rfl rfl (by decide) Try.underlying66 Try.sizeOf5 rfl) ?_
    refine WL.storeE (b := b_30) (off := 0) (i := 0) (v := (vu8 (nonce.getD 0 0))) (cs' := ([nonce.getD 0 0, 0, 0, 0, 0, 0, 0, 0, 0, 0, 0, 0, 0, 0, 0, 0] : List UInt8).map vu8) h_32 rfl rfl Try.sizeOf5 rfl At.h (by decide) Sg.h rfl (lt_len (K := 16) (len_map (List.length_replicate ..)) (by decide)) ((set_u8 _ _ _).trans rfl) (fun w_33 h_34 => ?_)
    refine WL.nil ?_
    refine thn_n ?_
    refine WP.reg ?_
    refine WL.q (Wn.no rfl) rfl rfl (R.move (v := (vi 0)) rfl) ?_
    refine WL.q (Wn.no rfl) rfl rfl (R.bin (v := (vi 8)) rfl rfl (bi_add (c := 8) (by omega) (by omega))) ?_
    refine WL.q (Wn.no rfl) rfl rfl (R.move (v := (vi ((i : Nat) : Int))) rfl) ?_
    refine WL.q (Wn.no rfl) rfl rfl (R.conv (b := ((UInt64.ofNat i) : UInt64).toNat) rfl Try.underlying3 Try.underlying22 (w64_nat i)) ?_
    refine WL.q (Wn.no rfl) rfl rfl (R.move (v := (vi 0)) rfl) ?_
    refine WL.q (Wn.no rfl) rfl rfl (R.bin (v := (vi 0)) rfl rfl (bi_mul (c := 0) (by omega) (by omega))) ?_
    refine WL.q (Wn.no rfl) rfl rfl (R.bin (v := (vi 56)) rfl rfl (bi_sub (c := 56) (by omega) (by omega))) ?_
    refine WL.q (Wn.no rfl) rfl rfl (R.conv (b := (56 : UInt64).toNat) rfl Try.underlying3 Try.underlying81 (by decide)) ?_
    refine WL.q (Wn.no rfl) rfl rfl (R.binR (v := vu64 (shr64 (UInt64.ofNat i) 56)) rfl rfl (run_shr64 _ _ _ (UInt64.ofNat i) _ 56)) ?_
    refine WL.q (Wn.no rfl) rfl rfl (R.conv (b := ((UInt8.ofNat ((shr64 (UInt64.ofNat i) 56).toNat)) : UInt8).toNat) rfl Try.underlying22 Try.underlying5 (w8_nat ((shr64 (UInt64.ofNat i) 56).toNat))) ?_
    refine WL.q (Wn.no rfl) rfl rfl (R.indexA (b := b_30) (off := 0) (off' := 8) (i := 8) rfl rfl rfl (by decide) Try.underlying66 Try.sizeOf5 rfl) ?_
    refine WL.storeE (b := b_30) (off := 8) (i := 8) (v := (vu8 (UInt8.ofNat ((shr64 (UInt64.ofNat i) 56).toNat)))) (cs' := ([nonce.getD 0 0, 0, 0, 0, 0, 0, 0, 0, UInt8.ofNat ((shr64 (UInt64.ofNat i) 56).toNat), 0, 0, 0, 0, 0, 0, 0] : List UInt8).map vu8) h_34 rfl rfl Try.sizeOf5 rfl At.h (by decide) Sg.h rfl (lt_len (K := 16) (len_map (rfl : List.length ([nonce.getD 0 0, 0, 0, 0, 0, 0, 0, 0, 0, 0, 0, 0, 0, 0, 0, 0] : List UInt8) = 16)) (by decide)) ((set_u8 _ _ _).trans rfl) (fun w_35 h_36 => ?_)
    refine WL.nil ?_
    refine inb_n ?_
    refine thn_n ?_
    refine WP.reg ?_
    refine WL.q (Wn.no rfl) rfl rfl (R.move (v := (vi 0)) rfl) ?_
    refine WL.q (Wn.no rfl) rfl rfl (R.bin (v := (vi 1)) rfl rfl (bi_add (c := 1) (by omega) (by omega))) ?_
    refine WL.q (Wn.no rfl) rfl rfl (R.assign (v := (vi 1)) rfl) ?_
    refine WL.nil ?_
    refine thn_n ?_
    refine WI.round ?_
    refine WP.seq ?_
    refine WP.seq ?_
    refine WP.reg ?_
    refine WL.q (Wn.no rfl) rfl rfl (R.move (v := (vi 1)) rfl) ?_
    refine WL.q (Wn.no rfl) rfl rfl (R.bin (v := (.bool true)) rfl rfl (bi_lss (r := true) (by decide))) ?_
    refine WL.nil ?_
    refine thn_n ?_
    refine WP.condT rfl ?_
    refine WP.skip ?_
    refine thn_n ?_
    refine WP.seq ?_
    refine WP.block ?_
    refine WP.seq ?_
    refine WP.reg ?_
    refine WL.q (Wn.no rfl) rfl rfl (R.move (v := (vi 1)) rfl) ?_
    refine WL.q (Wn.no rfl) rfl rfl (R.move (v := (vi 1)) rfl) ?_
    refine WL.q (Wn.no rfl) rfl rfl (R.indexA (b := b_4) (off := 0) (off' := 1) (i := 1) rfl rfl rfl (by decide) Try.underlying67 Try.sizeOf5 rfl) ?_
    refine WL.q (Wn.no rfl) rfl rfl (R.loadE (b := b_4) (off := 1) (i := 1) (v := (vu8 (nonce.getD 1 0))) rfl Try.isAgg5 (h_36.ok _ (.tail _ (.tail _ (.tail _ (.tail _ (.head _)))))) Sg.h rfl (get_u8 (lt_len (K := 8) hno (by decide)))) ?_
    refine WL.q (Wn.no rfl) rfl rfl (R.indexA (b := b_30) (off := 0) (off' := 1) (i := 1) rfl rfl rfl (by decide) Try.underlying66 Try.sizeOf5 rfl) ?_
    refine WL.storeE (b := b_30) (off := 1) (i := 1) (v := (vu8 (nonce.getD 1 0))) (cs' := ([nonce.getD 0 0, nonce.getD 1 0, 0, 0, 0, 0, 0, 0, UInt8.ofNat ((shr64 (UInt64.ofNat i) 56).toNat), 0, 0, 0, 0, 0, 0, 0] : List UInt8).map vu8) h_36 rfl rfl Try.sizeOf5 rfl At.h (by decide) Sg.h rfl (lt_len (K := 16) (len_map (rfl : List.length ([nonce.getD 0 0, 0, 0, 0, 0, 0, 0, 0, UInt8.ofNat ((shr64 (UInt64.ofNat i) 56).toNat), 0, 0, 0, 0, 0, 0, 0] : List UInt8) = 16)) (by decide)) ((set_u8 _ _ _).trans rfl) (fun w_37 h_38 => ?_)
    refine WL.nil ?_
    refine thn_n ?_
    refine WP.reg ?_
    refine WL.q (Wn.no rfl) rfl rfl (R.move (v := (vi 1)) rfl) ?_
    refine WL.q (Wn.no rfl) rfl rfl (R.bin (v := (vi 9)) rfl rfl (bi_add (c := 9) (by omega) (by omega))) ?_
    refine WL.q (Wn.no rfl) rfl rfl (R.move (v := (vi ((i : Nat) : Int))) rfl) ?_
    refine WL.q (Wn.no rfl) rfl rfl (R.conv (b := ((UInt64.ofNat i) : UInt64).toNat) rfl Try.underlying3 Try.underlying22 (w64_nat i)) ?_
    refine WL.q (Wn.no rfl) rfl rfl (R.move (v := (vi 1)) rfl) ?_
    refine WL.q (Wn.no rfl) rfl rfl (R.bin (v := (vi 8)) rfl rfl (bi_mul (c := 8) (by omega) (by omega))) ?_
    refine WL.q (Wn.no rfl) rfl rfl (R.bin (v := (vi 48)) rfl rfl (bi_sub (c := 48) (by omega) (by omega))) ?_
    refine WL.q (Wn.no rfl) rfl rfl (R.conv (b := (48 : UInt64).toNat) rfl Try.underlying3 Try.underlying81 (by decide)) ?_
    refine WL.q (Wn.no rfl) rfl rfl (R.binR (v := vu64 (shr64 (UInt64.ofNat i) 48)) rfl rfl (run_shr64 _ _ _ (UInt64.ofNat i) _ 48)) ?_
    refine WL.q (Wn.no rfl) rfl rfl (R.conv (b := ((UInt8.ofNat ((shr64 (UInt64.ofNat i) 48).toNat)) : UInt8).toNat) rfl Try.underlying22 Try.underlying5 (w8_nat ((shr64 (UInt64.ofNat i) 48).toNat))) ?_
    refine WL.q (Wn.no rfl) rfl rfl (R.indexA (b := b_30) (off := 0) (off' := 9) (i := 9) rfl rfl rfl (by decide) Try.underlying66 Try.sizeOf5 rfl) ?_
    refine WL.storeE (b := b_30) (off := 9) (i := 9) (v := (vu8 (UInt8.ofNat ((shr64 (UInt64.ofNat i) 48).toNat)))) (cs' := ([nonce.getD 0 0, nonce.getD 1 0, 0, 0, 0, 0, 0, 0, UInt8.ofNat ((shr64 (UInt64.ofNat i) 56).toNat), UInt8.ofNat ((shr64 (UInt64.ofNat i) 48).toNat), 0, 0, 0, 0, 0, 0] : List UInt8).map vu8) h_38 rfl rfl Try.sizeOf5 rfl At.h (by decide) Sg.h rfl (lt_len (K := 16) (len_map (rfl : List.length ([nonce.getD 0 0, nonce.getD 1 0, 0, 0, 0, 0, 0, 0, UInt8.ofNat ((shr64 (UInt64.ofNat i) 56).toNat), 0, 0, 0, 0, 0, 0, 0] : List UInt8) = 16)) (by decide)) ((set_u8 _ _ _).trans rfl) (fun w_39 h_40 => ?_)
    refine WL.nil ?_
    refine inb_n ?_
    refine thn_n ?_
    refine WP.reg ?_
    refine WL.q (Wn.no rfl) rfl rfl (R.move (v := (vi 1)) rfl) ?_
    refine WL.q (Wn.no rfl) rfl rfl (R.bin (v := (vi 2)) rfl rfl (bi_add (c := 2) (by omega) (by omega))) ?_
    refine WL.q (Wn.no rfl) rfl rfl (R.assign (v := (vi 2)) rfl) ?_
    refine WL.nil ?_
    refine thn_n ?_
    refine WI.round ?_
    refine WP.seq ?_
    refine WP.seq ?_
    refine WP.reg ?_
    refine WL.q (Wn.no rfl) rfl rfl (R.move (v := (vi 2)) rfl) ?_
    refine WL.q (Wn.no rfl) rfl rfl (R.bin (v := (.bool true)) rfl rfl (bi_lss (r := true) (by decide))) ?_
    refine WL.nil ?_
    refine thn_n ?_
    refine WP.condT rfl ?_
    refine WP.skip ?_
    refine thn_n ?_
    refine WP.seq ?_
    refine WP.block ?_
    refine WP.seq ?_
    refine WP.reg ?_
    refine WL.q (Wn.no rfl) rfl rfl (R.move (v := (vi 2)) rfl) ?_
    refine WL.q (Wn.no rfl) rfl rfl (R.move (v := (vi 2)) rfl) ?_
    refine WL.q (Wn.no rfl) rfl rfl (R.indexA (b := b_4) (off := 0) (off' := 2) (i := 2) rfl rfl rfl (by decide) Try.underlying67 Try.sizeOf5 rfl) ?_
    refine WL.q (Wn.no rfl) rfl rfl (R.loadE (b := b_4) (off := 2) (i := 2) (v := (vu8 (nonce.getD 2 0))) rfl Try.isAgg5 (h_40.ok _ (.tail _ (.tail _ (.tail _ (.tail _ (.head _)))))) Sg.h rfl (get_u8 (lt_len (K := 8) hno (by decide)))) ?_
    refine WL.q (Wn.no rfl) rfl rfl (R.indexA (b := b_30) (off := 0) (off' := 2) (i := 2) rfl rfl rfl (by decide) Try.underlying66 Try.sizeOf5 rfl) ?_
    refine WL.storeE (b := b_30) (off := 2) (i := 2) (v := (vu8 (nonce.getD 2 0))) (cs' := ([nonce.getD 0 0, nonce.getD 1 0, nonce.getD 2 0, 0, 0, 0, 0, 0, UInt8.ofNat ((shr64 (UInt64.ofNat i) 56).toNat), UInt8.ofNat ((shr64 (UInt64.ofNat i) 48).toNat), 0, 0, 0, 0, 0, 0] : List UInt8).map vu8) h_40 rfl rfl Try.sizeOf5 rfl At.h (by decide) Sg.h rfl (lt_len (K := 16) (len_map (rfl : List.length ([nonce.getD 0 0, nonce.getD 1 0, 0, 0, 0, 0, 0, 0, UInt8.ofNat ((shr64 (UInt64.ofNat i) 56).toNat), UInt8.ofNat ((shr64 (UInt64.ofNat i) 48).toNat), 0, 0, 0, 0, 0, 0] : List UInt8) = 16)) (by decide)) ((set_u8 _ _ _).trans rfl) (fun w_41 h_42 => ?_)
    refine WL.nil ?_
    refine thn_n ?_
    refine WP.reg ?_
    refine WL.q (Wn.no rfl) rfl rfl (R.move (v := (vi 2)) rfl) ?_
    refine WL.q (Wn.no rfl) rfl rfl (R.bin (v := (vi 10)) rfl rfl (bi_add (c := 10) (by omega) (by omega))) ?_
    refine WL.q (Wn.no rfl) rfl rfl (R.move (v := (vi ((i : Nat) : Int))) rfl) ?_
    refine WL.q (Wn.no rfl) rfl rfl (R.conv (b := ((UInt64.ofNat i) : UInt64).toNat) rfl Try.underlying3 Try.underlying22 (w64_nat i)) ?_
    refine WL.q (Wn.no rfl) rfl rfl (R.move (v := (vi 2)) rfl) ?_
    refine WL.q (Wn.no rfl) rfl rfl (R.bin (v := (vi 16)) rfl rfl (bi_mul (c := 16) (by omega) (by omega))) ?_
    refine WL.q (Wn.no rfl) rfl rfl (R.bin (v := (vi 40)) rfl rfl (bi_sub (c := 40) (by omega) (by omega))) ?_
    refine WL.q (Wn.no rfl) rfl rfl (R.conv (b := (40 : UInt64).toNat) rfl Try.underlying3 Try.underlying81 (by decide)) ?_
    refine WL.q (Wn.no rfl) rfl rfl (R.binR (v := vu64 (shr64 (UInt64.ofNat i) 40)) rfl rfl (run_shr64 _ _ _ (UInt64.ofNat i) _ 40)) ?_
    refine WL.q (Wn.no rfl) rfl rfl (R.conv (b := ((UInt8.ofNat ((shr64 (UInt64.ofNat i) 40).toNat)) : UInt8).toNat) rfl Try.underlying22 Try.underlying5 (w8_nat ((shr64 (UInt64.ofNat i) 40).toNat))) ?_
    refine WL.q (Wn.no rfl) rfl rfl (R.indexA (b := b_30) (off := 0) (off' := 10) (i := 10) rfl rfl rfl (by decide) Try.underlying66 Try.sizeOf5 rfl) ?_
    refine WL.storeE (b := b_30) (off := 10) (i := 10) (v := (vu8 (UInt8.ofNat ((shr64 (UInt64.ofNat i) 40).toNat)))) (cs' := ([nonce.getD 0 0, nonce.getD 1 0, nonce.getD 2 0, 0, 0, 0, 0, 0, UInt8.ofNat ((shr64 (UInt64.ofNat i) 56).toNat), UInt8.ofNat ((shr64 (UInt64.ofNat i) 48).toNat), UInt8.ofNat ((shr64 (UInt64.ofNat i) 40).toNat), 0, 0, 0, 0, 0] : List UInt8).map vu8) h_42 rfl rfl Try.sizeOf5 rfl At.h (by decide) Sg.h rfl (lt_len (K := 16) (len_map (rfl : List.length ([nonce.getD 0 0, nonce.getD 1 0, nonce.getD 2 0, 0, 0, 0, 0, 0, UInt8.ofNat ((shr64 (UInt64.ofNat i) 56).toNat), UInt8.ofNat ((shr64 (UInt64.ofNat i) 48).toNat), 0, 0, 0, 0, 0, 0] : List UInt8) = 16)) (by decide)) ((set_u8 _ _ _).trans rfl) (fun w_43 h_44 => ?_)
    refine WL.nil ?_
    refine inb_n ?_
    refine thn_n ?_
    refine WP.reg ?_
    refine WL.q (Wn.no rfl) rfl rfl (R.move (v := (vi 2)) rfl) ?_
    refine WL.q (Wn.no rfl) rfl rfl (R.bin (v := (vi 3)) rfl rfl (bi_add (c := 3) (by omega) (by omega))) ?_
    refine WL.q (Wn.no rfl) rfl rfl (R.assign (v := (vi 3)) rfl) ?_
    refine WL.nil ?_
    refine thn_n ?_
    refine WI.round ?_
    refine WP.seq ?_
    refine WP.seq ?_
    refine WP.reg ?_
    refine WL.q (Wn.no rfl) rfl rfl (R.move (v := (vi 3)) rfl) ?_
    refine WL.q (Wn.no rfl) rfl rfl (R.bin (v := (.bool true)) rfl rfl (bi_lss (r := true) (by decide))) ?_
    refine WL.nil ?_
    refine thn_n ?_
    refine WP.condT rfl ?_
    refine WP.skip ?_
    refine thn_n ?_
    refine WP.seq ?_
    refine WP.block ?_
    refine WP.seq ?_
    refine WP.reg ?_
    refine WL.q (Wn.no rfl) rfl rfl (R.move (v := (vi 3)) rfl) ?_
    refine WL.q (Wn.no rfl) rfl rfl (R.move (v := (vi 3)) rfl) ?_
    refine WL.q (Wn.no rfl) rfl rfl (R.indexA (b := b_4) (off := 0) (off' := 3) (i := 3) rfl rfl rfl (by decide) Try.underlying67 Try.sizeOf5 rfl) ?_
    refine WL.q (Wn.no rfl) rfl rfl (R.loadE (b := b_4) (off := 3) (i := 3) (v := (vu8 (nonce.getD 3 0))) rfl Try.isAgg5 (h_44.ok _ (.tail _ (.tail _ (.tail _ (.tail _ (.head _)))))) Sg.h rfl (get_u8 (lt_len (K := 8) hno (by decide)))) ?_
    refine WL.q (Wn.no rfl) rfl rfl (R.indexA (b := b_30) (off := 0) (off' := 3) (i := 3) rfl rfl rfl (by decide) Try.underlying66 Try.sizeOf5 rfl) ?_
    refine WL.storeE (b := b_30) (off := 3) (i := 3) (v := (vu8 (nonce.getD 3 0))) (cs' := ([nonce.getD 0 0, nonce.getD 1 0, nonce.getD 2 0, nonce.getD 3 0, 0, 0, 0, 0, UInt8.ofNat ((shr64 (UInt64.ofNat i) 56).toNat), UInt8.ofNat ((shr64 (UInt64.ofNat i) 48).toNat), UInt8.ofNat ((shr64 (UInt64.ofNat i) 40).toNat), 0, 0, 0, 0, 0] : List UInt8).map vu8) h_44 rfl rfl Try.sizeOf5 rfl At.h (by decide) Sg.h rfl (lt_len (K := 16) (len_map (rfl : List.length ([nonce.getD 0 0, nonce.getD 1 0, nonce.getD 2 0, 0, 0, 0, 0, 0, UInt8.ofNat ((shr64 (UInt64.ofNat i) 56).toNat), UInt8.ofNat ((shr64 (UInt64.ofNat i) 48).toNat), UInt8.ofNat ((shr64 (UInt64.ofNat i) 40).toNat), 0, 0, 0, 0, 0] : List UInt8) = 16)) (by decide)) ((set_u8 _ _ _).trans rfl) (fun w_45 h_46 => ?_)
    refine WL.nil ?_
    refine thn_n ?_
    refine WP.reg ?_
    refine WL.q (Wn.no rfl) rfl rfl (R.move (v := (vi 3)) rfl) ?_
    refine WL.q (Wn.no rfl) rfl rfl (R.bin (v := (vi 11)) rfl rfl (bi_add (c := 11) (by omega) (by omega))) ?_
    refine WL.q (Wn.no rfl) rfl rfl (R.move (v := (vi ((i : Nat) : Int))) rfl) ?_
    refine WL.q (Wn.no rfl) rfl rfl (R.conv (b := ((UInt64.ofNat i) : UInt64).toNat) rfl Try.underlying3 Try.underlying22 (w64_nat i)) ?_
    refine WL.q (Wn.no rfl) rfl rfl (R.move (v := (vi 3)) rfl) ?_
    refine WL.q (Wn.no rfl) rfl rfl (R.bin (v := (vi 24)) rfl rfl (bi_mul (c := 24) (by omega) (by omega))) ?_
    refine WL.q (Wn.no rfl) rfl rfl (R.bin (v := (vi 32)) rfl rfl (bi_sub (c := 32) (by omega) (by omega))) ?_
    refine WL.q (Wn.no rfl) rfl rfl (R.conv (b := (32 : UInt64).toNat) rfl Try.underlying3 Try.underlying81 (by decide)) ?_
    refine WL.q (Wn.no rfl) rfl rfl (R.binR (v := vu64 (shr64 (UInt64.ofNat i) 32)) rfl rfl (run_shr64 _ _ _ (UInt64.ofNat i) _ 32)) ?_
    refine WL.q (Wn.no rfl) rfl rfl (R.conv (b := ((UInt8.ofNat ((shr64 (UInt64.ofNat i) 32).toNat)) : UInt8).toNat) rfl Try.underlying22 Try.underlying5 (w8_nat ((shr64 (UInt64.ofNat i) 32).toNat))) ?_
    refine WL.q (Wn.no rfl) rfl rfl (R.indexA (b := b_30) (off := 0) (off' := 11) (i := 11) rfl rfl rfl (by decide) Try.underlying66 Try.sizeOf5 rfl) ?_
    refine WL.storeE (b := b_30) (off := 11) (i := 11) (v := (vu8 (UInt8.ofNat ((shr64 (UInt64.ofNat i) 32).toNat)))) (cs' := ([nonce.getD 0 0, nonce.getD 1 0, nonce.getD 2 0, nonce.getD 3 0, 0, 0, 0, 0, UInt8.ofNat ((shr64 (UInt64.ofNat i) 56).toNat), UInt8.ofNat ((shr64 (UInt64.ofNat i) 48).toNat), UInt8.ofNat ((shr64 (UInt64.ofNat i) 40).toNat), UInt8.ofNat ((shr64 (UInt64.ofNat i) 32).toNat), 0, 0, 0, 0] : List UInt8).map vu8) h_46 rfl rfl Try.sizeOf5 rfl At.h (by decide) Sg.h rfl (lt_len (K := 16) (len_map (rfl : List.length ([nonce.getD 0 0, nonce.getD 1 0, nonce.getD 2 0, nonce.getD 3 0, 0, 0, 0, 0, UInt8.ofNat ((shr64 (UInt64.ofNat i) 56).toNat), UInt8.ofNat ((shr64 (UInt64.ofNat i) 48).toNat), UInt8.ofNat ((shr64 (UInt64.ofNat i) 40).toNat), 0, 0, 0, 0, 0] : List UInt8) = 16)) (by decide)) ((set_u8 _ _ _).trans rfl) (fun w_47 h_48 => ?_)
    refine WL.nil ?_
    refine inb_n ?_
    refine thn_n ?_
    refine WP.reg ?_
    refine WL.q (Wn.no rfl) rfl rfl (R.move (v := (vi 3)) rfl) ?_
    refine WL.q (Wn.no rfl) rfl rfl (R.bin (v := (vi 4)) rfl rfl (bi_add (c := 4) (by omega) (by omega))) ?_
    refine WL.q (Wn.no rfl) rfl rfl (R.assign (v := (vi 4)) rfl) ?_
    refine WL.nil ?_
    refine thn_n ?_
    refine WI.round ?_
    refine WP.seq ?_
    refine WP.seq ?_
    refine WP.reg ?_
    refine WL.q (Wn.no rfl) rfl rfl (R.move (v := (vi 4)) rfl) ?_
    refine WL.q (Wn.no rfl) rfl rfl (R.bin (v := (.bool true)) rfl rfl (bi_lss (r := true) (by decide))) ?_
    refine WL.nil ?_
    refine thn_n ?_
    refine WP.condT rfl ?_
    refine WP.skip ?_
    refine thn_n ?_
    refine WP.seq ?_
    refine WP.block ?_
    refine WP.seq ?_
    refine WP.reg ?_
    refine WL.q (Wn.no rfl) rfl rfl (R.move (v := (vi 4)) rfl) ?_
    refine WL.q (Wn.no rfl) rfl rfl (R.move (v := (vi 4)) rfl) ?_
    refine WL.q (Wn.no rfl) rfl rfl (R.indexA (b := b_4) (off := 0) (off' := 4) (i := 4) rfl rfl rfl (by decide) Try.underlying67 Try.sizeOf5 rfl) ?_
    refine WL.q (Wn.no rfl) rfl rfl (R.loadE (b := b_4) (off := 4) (i := 4) (v := (vu8 (nonce.getD 4 0))) rfl Try.isAgg5 (h_48.ok _ (.tail _ (.tail _ (.tail _ (.tail _ (.head _)))))) Sg.h rfl (get_u8 (lt_len (K := 8) hno (by decide)))) ?_
    refine WL.q (Wn.no rfl) rfl rfl (R.indexA (b := b_30) (off := 0) (off' := 4) (i := 4) rfl rfl rfl (by decide) Try.underlying66 Try.sizeOf5 rfl) ?_
    refine WL.storeE (b := b_30) (off := 4) (i := 4) (v := (vu8 (nonce.getD 4 0))) (cs' := ([nonce.getD 0 0, nonce.getD 1 0, nonce.getD 2 0, nonce.getD 3 0, nonce.getD 4 0, 0, 0, 0, UInt8.ofNat ((shr64 (UInt64.ofNat i) 56).toNat), UInt8.ofNat ((shr64 (UInt64.ofNat i) 48).toNat), UInt8.ofNat ((shr64 (UInt64.ofNat i) 40).toNat), UInt8.ofNat ((shr64 (UInt64.ofNat i) 32).toNat), 0, 0, 0, 0] : List UInt8).map vu8) h_48 rfl rfl Try.sizeOf5 rfl At.h (by decide) Sg.h rfl (lt_len (K := 16) (len_map (rfl : List.length ([nonce.getD 0 0, nonce.getD 1 0, nonce.getD 2 0, nonce.getD 3 0, 0, 0, 0, 0, UInt8.ofNat ((shr64 (UInt64.ofNat i) 56).toNat), UInt8.ofNat ((shr64 (UInt64.ofNat i) 48).toNat), UInt8.ofNat ((shr64 (UInt64.ofNat i) 40).toNat), UInt8.ofNat ((shr64 (UInt64.ofNat i) 32).toNat), 0, 0, 0, 0] : List UInt8) = 16)) (by decide)) ((set_u8 _ _ _).trans rfl) (fun w_49 h_50 => ?_)
    refine WL.nil ?_
    refine thn_n ?_
    refine WP.reg ?_
    refine WL.q (Wn.no rfl) rfl rfl (R.move (v := (vi 4)) rfl) ?_
    refine WL.q (Wn.no rfl) rfl rfl (R.bin (v := (vi 12)) rfl rfl (bi_add (c := 12) (by omega) (by omega))) ?_
    refine WL.q (Wn.no rfl) rfl rfl (R.move (v := (vi ((i : Nat) : Int))) rfl) ?_
    refine WL.q (Wn.no rfl) rfl rfl (R.conv (b := ((UInt64.ofNat i) : UInt64).toNat) rfl Try.underlying3 Try.underlying22 (w64_nat i)) ?_
    refine WL.q (Wn.no rfl) rfl rfl (R.move (v := (vi 4)) rfl) ?_
    refine WL.q (Wn.no rfl) rfl rfl (R.bin (v := (vi 32)) rfl rfl (bi_mul (c := 32) (by omega) (by omega))) ?_
    refine WL.q (Wn.no rfl) rfl rfl (R.bin (v := (vi 24)) rfl rfl (bi_sub (c := 24) (by omega) (by omega))) ?_
    refine WL.q (Wn.no rfl) rfl rfl (R.conv (b := (24 : UInt64).toNat) rfl Try.underlying3 Try.underlying81 (by decide)) ?_
    refine WL.q (Wn.no rfl) rfl rfl (R.binR (v := vu64 (shr64 (UInt64.ofNat i) 24)) rfl rfl (run_shr64 _ _ _ (UInt64.ofNat i) _ 24)) ?_
    refine WL.q (Wn.no rfl) rfl rfl (R.conv (b := ((UInt8.ofNat ((shr64 (UInt64.ofNat i) 24).toNat)) : UInt8).toNat) rfl Try.underlying22 Try.underlying5 (w8_nat ((shr64 (UInt64.ofNat i) 24).toNat))) ?_
    refine WL.q (Wn.no rfl) rfl rfl (R.indexA (b := b_30) (off := 0) (off' := 12) (i := 12) rfl rfl rfl (by decide) Try.underlying66 Try.sizeOf5 rfl) ?_
    refine WL.storeE (b := b_30) (off := 12) (i := 12) (v := (vu8 (UInt8.ofNat ((shr64 (UInt64.ofNat i) 24).toNat)))) (cs' := ([nonce.getD 0 0, nonce.getD 1 0, nonce.getD 2 0, nonce.getD 3 0, nonce.getD 4 0, 0, 0, 0, UInt8.ofNat ((shr64 (UInt64.ofNat i) 56).toNat), UInt8.ofNat ((shr64 (UInt64.ofNat i) 48).toNat), UInt8.ofNat ((shr64 (UInt64.ofNat i) 40).toNat), UInt8.ofNat ((shr64 (UInt64.ofNat i) 32).toNat), UInt8.ofNat ((shr64 (UInt64.ofNat i) 24).toNat), 0, 0, 0] : List UInt8).map vu8) h_50 rfl rfl Try.sizeOf5 rfl At.h (by decide) Sg.h rfl (lt_len (K := 16) (len_map (rfl : List.length ([nonce.getD 0 0, nonce.getD 1 0, nonce.getD 2 0, nonce.getD 3 0, nonce.getD 4 0, 0, 0, 0, UInt8.ofNat ((shr64 (UInt64.ofNat i) 56).toNat), UInt8.ofNat ((shr64 (UInt64.ofNat i) 48).toNat), UInt8.ofNat ((shr64 (UInt64.ofNat i) 40).toNat), UInt8.ofNat ((shr64 (UInt64.ofNat i) 32).toNat), 0, 0, 0, 0] : List UInt8) = 16)) (by decide)) ((set_u8 _ _ _).trans rfl) (fun w_51 h_52 => ?_)
    refine WL.nil ?_
    refine inb_n ?_
    refine thn_n ?_
    refine WP.reg ?_
    refine WL.q (Wn.no rfl) rfl rfl (R.move (v := (vi 4)) rfl) ?_
    refine WL.q (Wn.no rfl) rfl rfl (R.bin (v := (vi 5)) rfl rfl (bi_add (c := 5) (by omega) (by omega))) ?_
    refine WL.q (Wn.no rfl) rfl rfl (R.assign (v := (vi 5)) rfl) ?_
    refine WL.nil ?_
    refine thn_n ?_
    refine WI.round ?_
    refine WP.seq ?_
    refine WP.seq ?_
    refine WP.reg ?_
    refine WL.q (Wn.no rfl) rfl rfl (R.move (v := (vi 5)) rfl) ?_
    refine WL.q (Wn.no rfl) rfl rfl (R.bin (v := (.bool true)) rfl rfl (bi_lss (r := true) (by decide))) ?_
    refine WL.nil ?_
    refine thn_n ?_
    refine WP.condT rfl ?_
    refine WP.skip ?_
    refine thn_n ?_
    refine WP.seq ?_
    refine WP.block ?_
    refine WP.seq ?_
    refine WP.reg ?_
    refine WL.q (Wn.no rfl) rfl rfl (R.move (v := (vi 5)) rfl) ?_
    refine WL.q (Wn.no rfl) rfl rfl (R.move (v := (vi 5)) rfl) ?_
    refine WL.q (Wn.no rfl) rfl rfl (R.indexA (b := b_4) (off := 0) (off' := 5) (i := 5) rfl rfl rfl (by decide) Try.underlying67 Try.sizeOf5 rfl) ?_
    refine WL.q (Wn.no rfl) rfl rfl (R.loadE (b := b_4) (off := 5) (i := 5) (v := (vu8 (nonce.getD 5 0))) rfl Try.isAgg5 (h_52.ok _ (.tail _ (.tail _ (.tail _ (.tail _ (.head _)))))) Sg.h rfl (get_u8 (lt_len (K := 8) hno (by decide)))) ?_
    refine WL.q (Wn.no rfl) rfl rfl (R.indexA (b := b_30) (off := 0) (off' := 5) (i := 5) rfl rfl rfl (by decide) Try.underlying66 Try.sizeOf5 rfl) ?_
    refine WL.storeE (b := b_30) (off := 5) (i := 5) (v := (vu8 (nonce.getD 5 0))) (cs' := ([nonce.getD 0 0, nonce.getD 1 0, nonce.getD 2 0, nonce.getD 3 0, nonce.getD 4 0, nonce.getD 5 0, 0, 0, UInt8.ofNat ((shr64 (UInt64.ofNat i) 56).toNat), UInt8.ofNat ((shr64 (UInt64.ofNat i) 48).toNat), UInt8.ofNat ((shr64 (UInt64.ofNat i) 40).toNat), UInt8.ofNat ((shr64 (UInt64.ofNat i) 32).toNat), UInt8.ofNat ((shr64 (UInt64.ofNat i) 24).toNat), 0, 0, 0] : List UInt8).map vu8) h_52 rfl rfl Try.sizeOf5 rfl At.h (by decide) Sg.h rfl (lt_len (K := 16) (len_map (rfl : List.length ([nonce.getD 0 0, nonce.getD 1 0, nonce.getD 2 0, nonce.getD 3 0, nonce.getD 4 0, 0, 0, 0, UInt8.ofNat ((shr64 (UInt64.ofNat i) 56).toNat), UInt8.ofNat ((shr64 (UInt64.ofNat i) 48).toNat), UInt8.ofNat ((shr64 (UInt64.ofNat i) 40).toNat), UInt8.ofNat ((shr64 (UInt64.ofNat i) 32).toNat), UInt8.ofNat ((shr64 (UInt64.ofNat i) 24).toNat), 0, 0, 0] : List UInt8) = 16)) (by decide)) ((set_u8 _ _ _).trans rfl) (fun w_53 h_54 => ?_)
    refine WL.nil ?_
    refine thn_n ?_
    refine WP.reg ?_
    refine WL.q (Wn.no rfl) rfl rfl (R.move (v := (vi 5)) rfl) ?_
    refine WL.q (Wn.no rfl) rfl rfl (R.bin (v := (vi 13)) rfl rfl (bi_add (c := 13) (by omega) (by omega))) ?_
    refine WL.q (Wn.no rfl) rfl rfl (R.move (v := (vi ((i : Nat) : Int))) rfl) ?_
    refine WL.q (Wn.no rfl) rfl rfl (R.conv (b := ((UInt64.ofNat i) : UInt64).toNat) rfl Try.underlying3 Try.underlying22 (w64_nat i)) ?_
    refine WL.q (Wn.no rfl) rfl rfl (R.move (v := (vi 5)) rfl) ?_
    refine WL.q (Wn.no rfl) rfl rfl (R.bin (v := (vi 40)) rfl rfl (bi_mul (c := 40) (by omega) (by omega))) ?_
    refine WL.q (Wn.no rfl) rfl rfl (R.bin (v := (vi 16)) rfl rfl (bi_sub (c := 16) (by omega) (by omega))) ?_
    refine WL.q (Wn.no rfl) rfl rfl (R.conv (b := (16 : UInt64).toNat) rfl Try.underlying3 Try.underlying81 (by decide)) ?_
    refine WL.q (Wn.no rfl) rfl rfl (R.binR (v := vu64 (shr64 (UInt64.ofNat i) 16)) rfl rfl (run_shr64 _ _ _ (UInt64.ofNat i) _ 16)) ?_
    refine WL.q (Wn.no rfl) rfl rfl (R.conv (b := ((UInt8.ofNat ((shr64 (UInt64.ofNat i) 16).toNat)) : UInt8).toNat) rfl Try.underlying22 Try.underlying5 (w8_nat ((shr64 (UInt64.ofNat i) 16).toNat))) ?_
    refine WL.q (Wn.no rfl) rfl rfl (R.indexA (b := b_30) (off := 0) (off' := 13) (i := 13) rfl rfl rfl (by decide) Try.underlying66 Try.sizeOf5 rfl) ?_
    refine WL.storeE (b := b_30) (off := 13) (i := 13) (v := (vu8 (UInt8.ofNat ((shr64 (UInt64.ofNat i) 16).toNat)))) (cs' := ([nonce.getD 0 0, nonce.getD 1 0, nonce.getD 2 0, nonce.getD 3 0, nonce.getD 4 0, nonce.getD 5 0, 0, 0, UInt8.ofNat ((shr64 (UInt64.ofNat i) 56).toNat), UInt8.ofNat ((shr64 (UInt64.ofNat i) 48).toNat), UInt8.ofNat ((shr64 (UInt64.ofNat i) 40).toNat), UInt8.ofNat ((shr64 (UInt64.ofNat i) 32).toNat), UInt8.ofNat ((shr64 (UInt64.ofNat i) 24).toNat), UInt8.ofNat ((shr64 (UInt64.ofNat i) 16).toNat), 0, 0] : List UInt8).map vu8) h_54 rfl rfl Try.sizeOf5 rfl At.h (by decide) Sg.h rfl (lt_len (K := 16) (len_map (rfl : List.length ([nonce.getD 0 0, nonce.getD 1 0, nonce.getD 2 0, nonce.getD 3 0, nonce.getD 4 0, nonce.getD 5 0, 0, 0, UInt8.ofNat ((shr64 (UInt64.ofNat i) 56).toNat), UInt8.ofNat ((shr64 (UInt64.ofNat i) 48).toNat), UInt8.ofNat ((shr64 (UInt64.ofNat i) 40).toNat), UInt8.ofNat ((shr64 (UInt64.ofNat i) 32).toNat), UInt8.ofNat ((shr64 (UInt64.ofNat i) 24).toNat), 0, 0, 0] : List UInt8) = 16)) (by decide)) ((set_u8 _ _ _).trans rfl) (fun w_55 h_56 => ?_)
    refine WL.nil ?_
    refine inb_n ?_
    refine thn_n ?_
    refine WP.reg ?_
    refine WL.q (Wn.no rfl) rfl rfl (R.move (v := (vi 5)) rfl) ?_
    refine WL.q (Wn.no rfl) rfl rfl (R.bin (v := (vi 6)) rfl rfl (bi_add (c := 6) (by omega) (by omega))) ?_
    refine WL.q (Wn.no rfl) rfl rfl (R.assign (v := (vi 6)) rfl) ?_
    refine WL.nil ?_
    refine thn_n ?_
    refine WI.round ?_
    refine WP.seq ?_
    refine WP.seq ?_
    refine WP.reg ?_
    refine WL.q (Wn.no rfl) rfl rfl (R.move (v := (vi 6)) rfl) ?_
    refine WL.q (Wn.no rfl) rfl rfl (R.bin (v := (.bool true)) rfl rfl (bi_lss (r := true) (by decide))) ?_
    refine WL.nil ?_
    refine thn_n ?_
    refine WP.condT rfl ?_
    refine WP.skip ?_
    refine thn_n ?_
    refine WP.seq ?_
    refine WP.block ?_
    refine WP.seq ?_
    refine WP.reg ?_
    refine WL.q (Wn.no rfl) rfl rfl (R.move (v := (vi 6)) rfl) ?_
    refine WL.q (Wn.no rfl) rfl rfl (R.move (v := (vi 6)) rfl) ?_
    refine WL.q (Wn.no rfl) rfl rfl (R.indexA (b := b_4) (off := 0) (off' := 6) (i := 6) rfl rfl rfl (by decide) Try.underlying67 Try.sizeOf5 rfl) ?_
    refine WL.q (Wn.no rfl) rfl rfl (R.loadE (b := b_4) (off := 6) (i := 6) (v := (vu8 (nonce.getD 6 0))) rfl Try.isAgg5 (h_56.ok _ (.tail _ (.tail _ (.tail _ (.tail _ (.head _)))))) Sg.h rfl (get_u8 (lt_len (K := 8) hno (by decide)))) ?_
    refine WL.q (Wn.no rfl) rfl rfl (R.indexA (b := b_30) (off := 0) (off' := 6) (i := 6) rfl rfl rfl (by decide) Try.underlying66 Try.sizeOf5 rfl) ?_
    refine WL.storeE (b := b_30) (off := 6) (i := 6) (v := (vu8 (nonce.getD 6 0))) (cs' := ([nonce.getD 0 0, nonce.getD 1 0, nonce.getD 2 0, nonce.getD 3 0, nonce.getD 4 0, nonce.getD 5 0, nonce.getD 6 0, 0, UInt8.ofNat ((shr64 (UInt64.ofNat i) 56).toNat), UInt8.ofNat ((shr64 (UInt64.ofNat i) 48).toNat), UInt8.ofNat ((shr64 (UInt64.ofNat i) 40).toNat), UInt8.ofNat ((shr64 (UInt64.ofNat i) 32).toNat), UInt8.ofNat ((shr64 (UInt64.ofNat i) 24).toNat), UInt8.ofNat ((shr64 (UInt64.ofNat i) 16).toNat), 0, 0] : List UInt8).map vu8) h_56 rfl rfl Try.sizeOf5 rfl At.h (by decide) Sg.h rfl (lt_len (K := 16) (len_map (rfl : List.length ([nonce.getD 0 0, nonce.getD 1 0, nonce.getD 2 0, nonce.getD 3 0, nonce.getD 4 0, nonce.getD 5 0, 0, 0, UInt8.ofNat ((shr64 (UInt64.ofNat i) 56).toNat), UInt8.ofNat ((shr64 (UInt64.ofNat i) 48).toNat), UInt8.ofNat ((shr64 (UInt64.ofNat i) 40).toNat), UInt8.ofNat ((shr64 (UInt64.ofNat i) 32).toNat), UInt8.ofNat ((shr64 (UInt64.ofNat i) 24).toNat), UInt8.ofNat ((shr64 (UInt64.ofNat i) 16).toNat), 0, 0] : List UInt8) = 16)) (by decide)) ((set_u8 _ _ _).trans rfl) (fun w_57 h_58 => ?_)
    refine WL.nil ?_
    refine thn_n ?_
    refine WP.reg ?_
    refine WL.q (Wn.no rfl) rfl rfl (R.move (v := (vi 6)) rfl) ?_
    refine WL.q (Wn.no rfl) rfl rfl (R.bin (v := (vi 14)) rfl rfl (bi_add (c := 14) (by omega) (by omega))) ?_
    refine WL.q (Wn.no rfl) rfl rfl (R.move (v := (vi ((i : Nat) : Int))) rfl) ?_
    refine WL.q (Wn.no rfl) rfl rfl (R.conv (b := ((UInt64.ofNat i) : UInt64).toNat) rfl Try.underlying3 Try.underlying22 (w64_nat i)) ?_
    refine WL.q (Wn.no rfl) rfl rfl (R.move (v := (vi 6)) rfl) ?_
    refine WL.q (Wn.no rfl) rfl rfl (R.bin (v := (vi 48)) rfl rfl (bi_mul (c := 48) (by omega) (by omega))) ?_
    refine WL.q (Wn.no rfl) rfl rfl (R.bin (v := (vi 8)) rfl rfl (bi_sub (c := 8) (by omega) (by omega))) ?_
    refine WL.q (Wn.no rfl) rfl rfl (R.conv (b := (8 : UInt64).toNat) rfl Try.underlying3 Try.underlying81 (by decide)) ?_
    refine WL.q (Wn.no rfl) rfl rfl (R.binR (v := vu64 (shr64 (UInt64.ofNat i) 8)) rfl rfl (run_shr64 _ _ _ (UInt64.ofNat i) _ 8)) ?_
    refine WL.q (Wn.no rfl) rfl rfl (R.conv (b := ((UInt8.ofNat ((shr64 (UInt64.ofNat i) 8).toNat)) : UInt8).toNat) rfl Try.underlying22 Try.underlying5 (w8_nat ((shr64 (UInt64.ofNat i) 8).toNat))) ?_
    refine WL.q (Wn.no rfl) rfl rfl (R.indexA (b := b_30) (off := 0) (off' := 14) (i := 14) rfl rfl rfl (by decide) Try.underlying66 Try.sizeOf5 rfl) ?_
    refine WL.storeE (b := b_30) (off := 14) (i := 14) (v := (vu8 (UInt8.ofNat ((shr64 (UInt64.ofNat i) 8).toNat)))) (cs' := ([nonce.getD 0 0, nonce.getD 1 0, nonce.getD 2 0, nonce.getD 3 0, nonce.getD 4 0, nonce.getD 5 0, nonce.getD 6 0, 0, UInt8.ofNat ((shr64 (UInt64.ofNat i) 56).toNat), UInt8.ofNat ((shr64 (UInt64.ofNat i) 48).toNat), UInt8.ofNat ((shr64 (UInt64.ofNat i) 40).toNat), UInt8.ofNat ((shr64 (UInt64.ofNat i) 32).toNat), UInt8.ofNat ((shr64 (UInt64.ofNat i) 24).toNat), UInt8.ofNat ((shr64 (UInt64.ofNat i) 16).toNat), UInt8.ofNat ((shr64 (UInt64.ofNat i) 8).toNat), 0] : List UInt8).map vu8) h_58 rfl rfl Try.sizeOf5 rfl At.h (by decide) Sg.h rfl (lt_len (K := 16) (len_map (rfl : List.length ([nonce.getD 0 0, nonce.getD 1 0, nonce.getD 2 0, nonce.getD 3 0, nonce.getD 4 0, nonce.getD 5 0, nonce.getD 6 0, 0, UInt8.ofNat ((shr64 (UInt64.ofNat i) 56).toNat), UInt8.ofNat ((shr64 (UInt64.ofNat i) 48).toNat), UInt8.ofNat ((shr64 (UInt64.ofNat i) 40).toNat), UInt8.ofNat ((shr64 (UInt64.ofNat i) 32).toNat), UInt8.ofNat ((shr64 (UInt64.ofNat i) 24).toNat), UInt8.ofNat ((shr64 (UInt64.ofNat i) 16).toNat), 0, 0] : List UInt8) = 16)) (by decide)) ((set_u8 _ _ _).trans rfl) (fun w_59 h_60 => ?_)
    refine WL.nil ?_
    refine inb_n ?_
    refine thn_n ?_
    refine WP.reg ?_
    refine WL.q (Wn.no rfl) rfl rfl (R.move (v := (vi 6)) rfl) ?_
    refine WL.q (Wn.no rfl) rfl rfl (R.bin (v := (vi 7)) rfl rfl (bi_add (c := 7) (by omega) (by omega))) ?_
    refine WL.q (Wn.no rfl) rfl rfl (R.assign (v := (vi 7)) rfl) ?_
    refine WL.nil ?_
    refine thn_n ?_
    refine WI.round ?_
    refine WP.seq ?_
    refine WP.seq ?_
    refine WP.reg ?_
    refine WL.q (Wn.no rfl) rfl rfl (R.move (v := (vi 7)) rfl) ?_
    refine WL.q (Wn.no rfl) rfl rfl (R.bin (v := (.bool true)) rfl rfl (bi_lss (r := true) (by decide))) ?_
    refine WL.nil ?_
    refine thn_n ?_
    refine WP.condT rfl ?_
    refine WP.skip ?_
    refine thn_n ?_
    refine WP.seq ?_
    refine WP.block ?_
    refine WP.seq ?_
    refine WP.reg ?_
    refine WL.q (Wn.no rfl) rfl rfl (R.move (v := (vi 7)) rfl) ?_
    refine WL.q (Wn.no rfl) rfl rfl (R.move (v := (vi 7)) rfl) ?_
    refine WL.q (Wn.no rfl) rfl rfl (R.indexA (b := b_4) (off := 0) (off' := 7) (i := 7) rfl rfl rfl (by decide) Try.underlying67 Try.sizeOf5 rfl) ?_
    refine WL.q (Wn.no rfl) rfl rfl (R.loadE (b := b_4) (off := 7) (i := 7) (v := (vu8 (nonce.getD 7 0))) rfl Try.isAgg5 (h_60.ok _ (.tail _ (.tail _ (.tail _ (.tail _ (.head _)))))) Sg.h rfl (get_u8 (lt_len (K := 8) hno (by decide)))) ?_
    refine WL.q (Wn.no rfl) rfl rfl (R.indexA (b := b_30) (off := 0) (off' := 7) (i := 7) rfl rfl rfl (by decide) Try.underlying66 Try.sizeOf5 rfl) ?_
    refine WL.storeE (b := b_30) (off := 7) (i := 7) (v := (vu8 (nonce.getD 7 0))) (cs' := ([nonce.getD 0 0, nonce.getD 1 0, nonce.getD 2 0, nonce.getD 3 0, nonce.getD 4 0, nonce.getD 5 0, nonce.getD 6 0, nonce.getD 7 0, UInt8.ofNat ((shr64 (UInt64.ofNat i) 56).toNat), UInt8.ofNat ((shr64 (UInt64.ofNat i) 48).toNat), UInt8.ofNat ((shr64 (UInt64.ofNat i) 40).toNat), UInt8.ofNat ((shr64 (UInt64.ofNat i) 32).toNat), UInt8.ofNat ((shr64 (UInt64.ofNat i) 24).toNat), UInt8.ofNat ((shr64 (UInt64.ofNat i) 16).toNat), UInt8.ofNat ((shr64 (UInt64.ofNat i) 8).toNat), 0] : List UInt8).map vu8) h_60 rfl rfl Try.sizeOf5 rfl At.h (by decide) Sg.h rfl (lt_len (K := 16) (len_map (rfl : List.length ([nonce.getD 0 0, nonce.getD 1 0, nonce.getD 2 0, nonce.getD 3 0, nonce.getD 4 0, nonce.getD 5 0, nonce.getD 6 0, 0, UInt8.ofNat ((shr64 (UInt64.ofNat i) 56).toNat), UInt8.ofNat ((shr64 (UInt64.ofNat i) 48).toNat), UInt8.ofNat ((shr64 (UInt64.ofNat i) 40).toNat), UInt8.ofNat ((shr64 (UInt64.ofNat i) 32).toNat), UInt8.ofNat ((shr64 (UInt64.ofNat i) 24).toNat), UInt8.ofNat ((shr64 (UInt64.ofNat i) 16).toNat), UInt8.ofNat ((shr64 (UInt64.ofNat i) 8).toNat), 0] : List UInt8) = 16)) (by decide)) ((set_u8 _ _ _).trans rfl) (fun w_61 h_62 => ?_)
    refine WL.nil ?_
    refine thn_n ?_
    refine WP.reg ?_
    refine WL.q (Wn.no rfl) rfl rfl (R.move (v := (vi 7)) rfl) ?_
    refine WL.q (Wn.no rfl) rfl rfl (R.bin (v := (vi 15)) rfl rfl (bi_add (c := 15) (by omega) (by omega))) ?_
    refine WL.q (Wn.no rfl) rfl rfl (R.move (v := (vi ((i : Nat) : Int))) rfl) ?_
    refine WL.q (Wn.no rfl) rfl rfl (R.conv (b := ((UInt64.ofNat i) : UInt64).toNat) rfl Try.underlying3 Try.underlying22 (w64_nat i)) ?_
    refine WL.q (Wn.no rfl) rfl rfl (R.move (v := (vi 7)) rfl) ?_
    refine WL.q (Wn.no rfl) rfl rfl (R.bin (v := (vi 56)) rfl rfl (bi_mul (c := 56) (by omega) (by omega))) ?_
    refine WL.q (Wn.no rfl) rfl rfl (R.bin (v := (vi 0)) rfl rfl (bi_sub (c := 0) (by omega) (by omega))) ?_
    refine WL.q (Wn.no rfl) rfl rfl (R.conv (b := (0 : UInt64).toNat) rfl Try.underlying3 Try.underlying81 (by decide)) ?_
    refine WL.q (Wn.no rfl) rfl rfl (R.binR (v := vu64 (shr64 (UInt64.ofNat i) 0)) rfl rfl (run_shr64 _ _ _ (UInt64.ofNat i) _ 0)) ?_
    refine WL.q (Wn.no rfl) rfl rfl (R.conv (b := ((UInt8.ofNat ((shr64 (UInt64.ofNat i) 0).toNat)) : UInt8).toNat) rfl Try.underlying22 Try.underlying5 (w8_nat ((shr64 (UInt64.ofNat i) 0).toNat))) ?_
    refine WL.q (Wn.no rfl) rfl rfl (R.indexA (b := b_30) (off := 0) (off' := 15) (i := 15) rfl rfl rfl (by decide) Try.underlying66 Try.sizeOf5 rfl) ?_
    refine WL.storeE (b := b_30) (off := 15) (i := 15) (v := (vu8 (UInt8.ofNat ((shr64 (UInt64.ofNat i) 0).toNat)))) (cs' := ([nonce.getD 0 0, nonce.getD 1 0, nonce.getD 2 0, nonce.getD 3 0, nonce.getD 4 0, nonce.getD 5 0, nonce.getD 6 0, nonce.getD 7 0, UInt8.ofNat ((shr64 (UInt64.ofNat i) 56).toNat), UInt8.ofNat ((shr64 (UInt64.ofNat i) 48).toNat), UInt8.ofNat ((shr64 (UInt64.ofNat i) 40).toNat), UInt8.ofNat ((shr64 (UInt64.ofNat i) 32).toNat), UInt8.ofNat ((shr64 (UInt64.ofNat i) 24).toNat), UInt8.ofNat ((shr64 (UInt64.ofNat i) 16).toNat), UInt8.ofNat ((shr64 (UInt64.ofNat i) 8).toNat), UInt8.ofNat ((shr64 (UInt64.ofNat i) 0).toNat)] : List UInt8).map vu8) h_62 rfl rfl Try.sizeOf5 rfl At.h (by decide) Sg.h rfl (lt_len (K := 16) (len_map (rfl : List.length ([nonce.getD 0 0, nonce.getD 1 0, nonce.getD 2 0, nonce.getD 3 0, nonce.getD 4 0, nonce.getD 5 0, nonce.getD 6 0, nonce.getD 7 0, UInt8.ofNat ((shr64 (UInt64.ofNat i) 56).toNat), UInt8.ofNat ((shr64 (UInt64.ofNat i) 48).toNat), UInt8.ofNat ((shr64 (UInt64.ofNat i) 40).toNat), UInt8.ofNat ((shr64 (UInt64.ofNat i) 32).toNat), UInt8.ofNat ((shr64 (UInt64.ofNat i) 24).toNat), UInt8.ofNat ((shr64 (UInt64.ofNat i) 16).toNat), UInt8.ofNat ((shr64 (UInt64.ofNat i) 8).toNat), 0] : List UInt8) = 16)) (by decide)) ((set_u8 _ _ _).trans rfl) (fun w_63 h_64 => ?_)
    refine WL.nil ?_
    refine inb_n ?_
    refine thn_n ?_
    refine WP.reg ?_
    refine WL.q (Wn.no rfl) rfl rfl (R.move (v := (vi 7)) rfl) ?_
    refine WL.q (Wn.no rfl) rfl rfl (R.bin (v := (vi 8)) rfl rfl (bi_add (c := 8) (by omega) (by omega))) ?_
    refine WL.q (Wn.no rfl) rfl rfl (R.assign (v := (vi 8)) rfl) ?_
    refine WL.nil ?_
    refine thn_n ?_
    refine WI.round ?_
    refine WP.seq ?_
    refine WP.seq ?_
    refine WP.reg ?_
    refine WL.q (Wn.no rfl) rfl rfl (R.move (v := (vi 8)) rfl) ?_
    refine WL.q (Wn.no rfl) rfl rfl (R.bin (v := (.bool false)) rfl rfl (bi_lss (r := false) (by decide))) ?_
    refine WL.nil ?_
    refine thn_n ?_
    refine WP.condF rfl ?_
    refine WP.exit ?_
    refine thn_x ?_
    refine thn_x ?_
    refine inb_hit ?_
    refine thn_n ?_
    refine WP.seq ?_
    refine WP.reg ?_
    refine WL.q (Wn.no rfl) rfl rfl (R.loadA (b := b_18) (off := 0) [] [(176, (keysL (tabL sub) key).map vu8)] [] (cs := (keysL (tabL sub) key).map vu8) rfl Try.isAgg74 Try.sizeOf74 (h_64.ok _ (.tail _ (.tail _ (.head _)))) rfl rfl rfl rfl) ?_
    refine WL.q (Wn.no rfl) rfl rfl (R.loadA (b := b_30) (off := 0) [] [(16, ([nonce.getD 0 0, nonce.getD 1 0, nonce.getD 2 0, nonce.getD 3 0, nonce.getD 4 0, nonce.getD 5 0, nonce.getD 6 0, nonce.getD 7 0, UInt8.ofNat ((shr64 (UInt64.ofNat i) 56).toNat), UInt8.ofNat ((shr64 (UInt64.ofNat i) 48).toNat), UInt8.ofNat ((shr64 (UInt64.ofNat i) 40).toNat), UInt8.ofNat ((shr64 (UInt64.ofNat i) 32).toNat), UInt8.ofNat ((shr64 (UInt64.ofNat i) 24).toNat), UInt8.ofNat ((shr64 (UInt64.ofNat i) 16).toNat), UInt8.ofNat ((shr64 (UInt64.ofNat i) 8).toNat), UInt8.ofNat ((shr64 (UInt64.ofNat i) 0).toNat)] : List UInt8).map vu8)] [] (cs := ([nonce.getD 0 0, nonce.getD 1 0, nonce.getD 2 0, nonce.getD 3 0, nonce.getD 4 0, nonce.getD 5 0, nonce.getD 6 0, nonce.getD 7 0, UInt8.ofNat ((shr64 (UInt64.ofNat i) 56).toNat), UInt8.ofNat ((shr64 (UInt64.ofNat i) 48).toNat), UInt8.ofNat ((shr64 (UInt64.ofNat i) 40).toNat), UInt8.ofNat ((shr64 (UInt64.ofNat i) 32).toNat), UInt8.ofNat ((shr64 (UInt64.ofNat i) 24).toNat), UInt8.ofNat ((shr64 (UInt64.ofNat i) 16).toNat), UInt8.ofNat ((shr64 (UInt64.ofNat i) 8).toNat), UInt8.ofNat ((shr64 (UInt64.ofNat i) 0).toNat)] : List UInt8).map vu8) rfl Try.isAgg66 Try.sizeOf66 (h_64.ok _ (.head _)) rfl rfl rfl rfl) ?_
    refine WL.q (Wn.no rfl) rfl rfl (R.loadA (b := b_10) (off := 0) [] [(256, (tabL sub).map vu8)] [] (cs := (tabL sub).map vu8) rfl Try.isAgg72 Try.sizeOf72 (h_64.ok _ (.tail _ (.tail _ (.tail _ (.head _))))) rfl rfl rfl rfl) ?_
    refine WL.call (al := [(.agg ⟨(keysL (tabL sub) key).map vu8⟩), (.agg ⟨([nonce.getD 0 0, nonce.getD 1 0, nonce.getD 2 0, nonce.getD 3 0, nonce.getD 4 0, nonce.getD 5 0, nonce.getD 6 0, nonce.getD 7 0, UInt8.ofNat ((shr64 (UInt64.ofNat i) 56).toNat), UInt8.ofNat ((shr64 (UInt64.ofNat i) 48).toNat), UInt8.ofNat ((shr64 (UInt64.ofNat i) 40).toNat), UInt8.ofNat ((shr64 (UInt64.ofNat i) 32).toNat), UInt8.ofNat ((shr64 (UInt64.ofNat i) 24).toNat), UInt8.ofNat ((shr64 (UInt64.ofNat i) 16).toNat), UInt8.ofNat ((shr64 (UInt64.ofNat i) 8).toNat), UInt8.ofNat ((shr64 (UInt64.ofNat i) 0).toNat)] : List UInt8).map vu8⟩), (.agg ⟨(tabL sub).map vu8⟩)]) Try.call61 rfl rfl (c_EncipherR (keysL (tabL sub) key) (tabL sub) ([nonce.getD 0 0, nonce.getD 1 0, nonce.getD 2 0, nonce.getD 3 0, nonce.getD 4 0, nonce.getD 5 0, nonce.getD 6 0, nonce.getD 7 0, UInt8.ofNat ((shr64 (UInt64.ofNat i) 56).toNat), UInt8.ofNat ((shr64 (UInt64.ofNat i) 48).toNat), UInt8.ofNat ((shr64 (UInt64.ofNat i) 40).toNat), UInt8.ofNat ((shr64 (UInt64.ofNat i) 32).toNat), UInt8.ofNat ((shr64 (UInt64.ofNat i) 24).toNat), UInt8.ofNat ((shr64 (UInt64.ofNat i) 16).toNat), UInt8.ofNat ((shr64 (UInt64.ofNat i) 8).toNat), UInt8.ofNat ((shr64 (UInt64.ofNat i) 0).toNat)] : List UInt8) (keysL_len ..) (tabL_len sub) (rfl : List.length ([nonce.getD 0 0, nonce.getD 1 0, nonce.getD 2 0, nonce.getD 3 0, nonce.getD 4 0, nonce.getD 5 0, nonce.getD 6 0, nonce.getD 7 0, UInt8.ofNat ((shr64 (UInt64.ofNat i) 56).toNat), UInt8.ofNat ((shr64 (UInt64.ofNat i) 48).toNat), UInt8.ofNat ((shr64 (UInt64.ofNat i) 40).toNat), UInt8.ofNat ((shr64 (UInt64.ofNat i) 32).toNat), UInt8.ofNat ((shr64 (UInt64.ofNat i) 24).toNat), UInt8.ofNat ((shr64 (UInt64.ofNat i) 16).toNat), UInt8.ofNat ((shr64 (UInt64.ofNat i) 8).toNat), UInt8.ofNat ((shr64 (UInt64.ofNat i) 0).toNat)] : List UInt8) = 16) _ ) rfl ?_
    rintro _ w_66 ⟨rfl, hc_65⟩
    have h_67 := h_64.same hc_65
    refine WL.storeA (b := b_30) (off := 0) [] [(16, ([nonce.getD 0 0, nonce.getD 1 0, nonce.getD 2 0, nonce.getD 3 0, nonce.getD 4 0, nonce.getD 5 0, nonce.getD 6 0, nonce.getD 7 0, UInt8.ofNat ((shr64 (UInt64.ofNat i) 56).toNat), UInt8.ofNat ((shr64 (UInt64.ofNat i) 48).toNat), UInt8.ofNat ((shr64 (UInt64.ofNat i) 40).toNat), UInt8.ofNat ((shr64 (UInt64.ofNat i) 32).toNat), UInt8.ofNat ((shr64 (UInt64.ofNat i) 24).toNat), UInt8.ofNat ((shr64 (UInt64.ofNat i) 16).toNat), UInt8.ofNat ((shr64 (UInt64.ofNat i) 8).toNat), UInt8.ofNat ((shr64 (UInt64.ofNat i) 0).toNat)] : List UInt8).map vu8)] [(16, (encN (keysL (tabL sub) key) (tabL sub) ([nonce.getD 0 0, nonce.getD 1 0, nonce.getD 2 0, nonce.getD 3 0, nonce.getD 4 0, nonce.getD 5 0, nonce.getD 6 0, nonce.getD 7 0, UInt8.ofNat ((shr64 (UInt64.ofNat i) 56).toNat), UInt8.ofNat ((shr64 (UInt64.ofNat i) 48).toNat), UInt8.ofNat ((shr64 (UInt64.ofNat i) 40).toNat), UInt8.ofNat ((shr64 (UInt64.ofNat i) 32).toNat), UInt8.ofNat ((shr64 (UInt64.ofNat i) 24).toNat), UInt8.ofNat ((shr64 (UInt64.ofNat i) 16).toNat), UInt8.ofNat ((shr64 (UInt64.ofNat i) 8).toNat), UInt8.ofNat ((shr64 (UInt64.ofNat i) 0).toNat)] : List UInt8) 10).map vu8)] [] (ys := (encN (keysL (tabL sub) key) (tabL sub) ([nonce.getD 0 0, nonce.getD 1 0, nonce.getD 2 0, nonce.getD 3 0, nonce.getD 4 0, nonce.getD 5 0, nonce.getD 6 0, nonce.getD 7 0, UInt8.ofNat ((shr64 (UInt64.ofNat i) 56).toNat), UInt8.ofNat ((shr64 (UInt64.ofNat i) 48).toNat), UInt8.ofNat ((shr64 (UInt64.ofNat i) 40).toNat), UInt8.ofNat ((shr64 (UInt64.ofNat i) 32).toNat), UInt8.ofNat ((shr64 (UInt64.ofNat i) 24).toNat), UInt8.ofNat ((shr64 (UInt64.ofNat i) 16).toNat), UInt8.ofNat ((shr64 (UInt64.ofNat i) 8).toNat), UInt8.ofNat ((shr64 (UInt64.ofNat i) 0).toNat)] : List UInt8) 10).map vu8) h_67 rfl rfl Try.sizeOf66 At.h (by decide) rfl rfl rfl rfl rfl rfl (SsOk.cons (SOk.u8 (encN_len (keysL_len ..) (rfl : List.length ([nonce.getD 0 0, nonce.getD 1 0, nonce.getD 2 0, nonce.getD 3 0, nonce.getD 4 0, nonce.getD 5 0, nonce.getD 6 0, nonce.getD 7 0, UInt8.ofNat ((shr64 (UInt64.ofNat i) 56).toNat), UInt8.ofNat ((shr64 (UInt64.ofNat i) 48).toNat), UInt8.ofNat ((shr64 (UInt64.ofNat i) 40).toNat), UInt8.ofNat ((shr64 (UInt64.ofNat i) 32).toNat), UInt8.ofNat ((shr64 (UInt64.ofNat i) 24).toNat), UInt8.ofNat ((shr64 (UInt64.ofNat i) 16).toNat), UInt8.ofNat ((shr64 (UInt64.ofNat i) 8).toNat), UInt8.ofNat ((shr64 (UInt64.ofNat i) 0).toNat)] : List UInt8) = 16) (by omega))) SsOk.nil) (fun w_68 h_69 => ?_)
    refine WL.nil ?_
    refine thn_n ?_
    refine WP.reg ?_
    refine WL.q (Wn.no rfl) rfl rfl (R.move (v := (.slice ra (16 * i) rc)) rfl) ?_
    refine WL.q (Wn.no rfl) rfl rfl (R.sliceA (b := b_30) (off := 0) (off' := 0) (l := 0) (h := 16) rfl EvB.dflt EvB.dflt (by decide) (by decide) Try.underlying66 Try.sizeOf5 rfl) ?_
    refine WL.append (km := 16 * i + 16) (xs := (strN key nonce i).map vu8) (ys := (encN (keysL (tabL sub) key) (tabL sub) ([nonce.getD 0 0, nonce.getD 1 0, nonce.getD 2 0, nonce.getD 3 0, nonce.getD 4 0, nonce.getD 5 0, nonce.getD 6 0, nonce.getD 7 0, UInt8.ofNat ((shr64 (UInt64.ofNat i) 56).toNat), UInt8.ofNat ((shr64 (UInt64.ofNat i) 48).toNat), UInt8.ofNat ((shr64 (UInt64.ofNat i) 40).toNat), UInt8.ofNat ((shr64 (UInt64.ofNat i) 32).toNat), UInt8.ofNat ((shr64 (UInt64.ofNat i) 24).toNat), UInt8.ofNat ((shr64 (UInt64.ofNat i) 16).toNat), UInt8.ofNat ((shr64 (UInt64.ofNat i) 8).toNat), UInt8.ofNat ((shr64 (UInt64.ofNat i) 0).toNat)] : List UInt8) 10).map vu8) (zs := ((strN key nonce i) ++ (encN (keysL (tabL sub) key) (tabL sub) ([nonce.getD 0 0, nonce.getD 1 0, nonce.getD 2 0, nonce.getD 3 0, nonce.getD 4 0, nonce.getD 5 0, nonce.getD 6 0, nonce.getD 7 0, UInt8.ofNat ((shr64 (UInt64.ofNat i) 56).toNat), UInt8.ofNat ((shr64 (UInt64.ofNat i) 48).toNat), UInt8.ofNat ((shr64 (UInt64.ofNat i) 40).toNat), UInt8.ofNat ((shr64 (UInt64.ofNat i) 32).toNat), UInt8.ofNat ((shr64 (UInt64.ofNat i) 24).toNat), UInt8.ofNat ((shr64 (UInt64.ofNat i) 16).toNat), UInt8.ofNat ((shr64 (UInt64.ofNat i) 8).toNat), UInt8.ofNat ((shr64 (UInt64.ofNat i) 0).toNat)] : List UInt8) 10)).map vu8) h_69 rfl rfl el23 (viewB (h_69.ok _ (.head _)) Sg.h) ((len_map (encN_len (keysL_len ..) (rfl : List.length ([nonce.getD 0 0, nonce.getD 1 0, nonce.getD 2 0, nonce.getD 3 0, nonce.getD 4 0, nonce.getD 5 0, nonce.getD 6 0, nonce.getD 7 0, UInt8.ofNat ((shr64 (UInt64.ofNat i) 56).toNat), UInt8.ofNat ((shr64 (UInt64.ofNat i) 48).toNat), UInt8.ofNat ((shr64 (UInt64.ofNat i) 40).toNat), UInt8.ofNat ((shr64 (UInt64.ofNat i) 32).toNat), UInt8.ofNat ((shr64 (UInt64.ofNat i) 24).toNat), UInt8.ofNat ((shr64 (UInt64.ofNat i) 16).toNat), UInt8.ofNat ((shr64 (UInt64.ofNat i) 8).toNat), UInt8.ofNat ((shr64 (UInt64.ofNat i) 0).toNat)] : List UInt8) = 16) (by omega))).trans (Nat.mul_one _).symm) (one_u8 _) (by simp only [List.map_append, List.map_nil]) (by omega) (by omega) (by omega) (fun _ _ => (At.t At.h)) rfl (fun a_70 c_71 w_72 h_73 => ?_)
    refine WL.q (Wn.no rfl) rfl rfl (R.assign (v := (.slice a_70 (16 * i + 16) c_71)) rfl) ?_
    refine WL.nil ?_
    refine inb_n ?_
    refine thn_n ?_
    refine WP.reg ?_
    refine WL.q (Wn.no rfl) rfl rfl (R.move (v := (vi ((i : Nat) : Int))) rfl) ?_
    refine WL.q (Wn.no rfl) rfl rfl (R.bin (v := (vi ((i + 1 : Nat) : Int))) rfl rfl (bi_add (c := ((i + 1 : Nat) : Int)) (by omega) (by omega))) ?_
    refine WL.q (Wn.no rfl) rfl rfl (R.assign (v := (vi ((i + 1 : Nat) : Int))) rfl) ?_
    refine WL.nil ?_
    refine thn_n ?_
    have h_74 := h_73.drop rfl
    have es : (strN key nonce i) ++ (encN (keysL (tabL sub) key) (tabL sub) ([nonce.getD 0 0, nonce.getD 1 0, nonce.getD 2 0, nonce.getD 3 0, nonce.getD 4 0, nonce.getD 5 0, nonce.getD 6 0, nonce.getD 7 0, UInt8.ofNat ((shr64 (UInt64.ofNat i) 56).toNat), UInt8.ofNat ((shr64 (UInt64.ofNat i) 48).toNat), UInt8.ofNat ((shr64 (UInt64.ofNat i) 40).toNat), UInt8.ofNat ((shr64 (UInt64.ofNat i) 32).toNat), UInt8.ofNat ((shr64 (UInt64.ofNat i) 24).toNat), UInt8.ofNat ((shr64 (UInt64.ofNat i) 16).toNat), UInt8.ofNat ((shr64 (UInt64.ofNat i) 8).toNat), UInt8.ofNat ((shr64 (UInt64.ofNat i) 0).toNat)] : List UInt8) 10) = strN key nonce (i + 1) := (by rw [blk_in hno (by omega)]; rfl)
    rw [es] at h_74
    exact ⟨(i + 1, a_70, c_71), _, (by omega), (Ag.upd rfl (Ag.upd rfl (Ag.upd rfl (Ag.upd rfl (Ag.upd rfl (Ag.upd rfl (Ag.upd rfl (Ag.upd rfl (Ag.upd rfl (Ag.upd rfl (Ag.upd rfl (Ag.upd rfl (Ag.upd rfl (Ag.upd rfl (Ag.upd rfl (Ag.upd rfl (Ag.upd rfl (Ag.upd rfl (Ag.upd rfl (Ag.upd rfl (Ag.upd rfl (Ag.upd rfl (Ag.upd rfl (Ag.upd rfl (Ag.upd rfl (Ag.upd rfl (Ag.upd rfl (Ag.upd rfl (Ag.upd rfl (Ag.upd rfl (Ag.upd rfl (Ag.upd rfl (Ag.upd rfl (Ag.upd rfl (Ag.upd rfl (Ag.upd rfl (Ag.upd rfl (Ag.upd rfl (Ag.upd rfl (Ag.upd rfl (Ag.upd rfl (Ag.upd rfl (Ag.upd rfl (Ag.upd rfl (Ag.upd rfl (Ag.upd rfl (Ag.upd rfl (Ag.upd rfl (Ag.upd rfl (Ag.upd rfl (Ag.upd rfl (Ag.upd rfl (Ag.upd rfl (Ag.upd rfl (Ag.upd rfl (Ag.upd rfl (Ag.upd rfl (Ag.upd rfl (Ag.upd rfl (Ag.upd rfl (Ag.upd rfl (Ag.upd rfl (Ag.upd rfl (Ag.upd rfl (Ag.upd rfl (Ag.upd rfl (Ag.upd rfl (Ag.upd rfl (Ag.upd rfl (Ag.upd rfl (Ag.upd rfl (Ag.upd rfl (Ag.upd rfl (Ag.upd rfl (Ag.upd rfl (Ag.upd rfl (Ag.upd rfl (Ag.upd rfl (Ag.upd rfl (Ag.upd rfl (Ag.upd rfl (Ag.upd rfl (Ag.upd rfl (Ag.upd rfl (Ag.upd rfl (Ag.upd rfl (Ag.upd rfl (Ag.upd rfl (Ag.upd rfl (Ag.upd rfl (Ag.upd rfl (Ag.upd rfl (Ag.upd rfl (Ag.upd rfl (Ag.upd rfl (Ag.upd rfl (Ag.upd rfl (Ag.upd rfl (Ag.upd rfl (Ag.upd rfl (Ag.upd rfl (Ag.upd rfl (Ag.upd rfl (Ag.upd rfl (Ag.upd rfl (Ag.upd rfl (Ag.upd rfl (Ag.upd rfl (Ag.upd rfl (Ag.upd rfl (Ag.upd rfl (Ag.upd rfl (Ag.upd rfl (Ag.upd rfl (Ag.upd rfl (Ag.upd rfl (Ag.upd rfl (Ag.upd rfl (Ag.upd rfl (Ag.upd rfl (Ag.upd rfl (Ag.upd rfl (Ag.upd rfl (Ag.upd rfl (Ag.upd rfl (Ag.upd rfl (Ag.upd rfl (Ag.upd rfl (Ag.upd rfl (Ag.upd rfl (Ag.upd rfl (Ag.upd rfl (Ag.upd rfl (Ag.upd rfl (Ag.upd rfl (Ag.upd rfl (Ag.upd rfl (Ag.upd rfl (Ag.upd rfl (Ag.upd rfl (Ag.upd rfl (Ag.upd rfl (Ag.upd rfl (Ag.upd rfl (Ag.upd rfl (Ag.upd rfl (Ag.upd rfl (Ag.upd rfl (Ag.upd rfl (Ag.upd rfl (Ag.upd rfl (Ag.upd rfl (Ag.upd rfl (Ag.upd rfl (Ag.upd rfl (Ag.upd rfl (Ag.upd rfl (Ag.upd rfl (Ag.upd rfl (Ag.upd rfl (Ag.upd rfl (Ag.upd rfl (Ag.upd rfl (Ag.upd rfl (Ag.upd rfl (Ag.upd rfl (Ag.upd rfl (Ag.upd rfl (Ag.upd rfl (Ag.upd rfl (Ag.upd rfl (Ag.upd rfl (Ag.upd rfl (Ag.upd rfl (Ag.upd rfl (Ag.upd rfl (Ag.upd rfl (Ag.upd rfl (Ag.upd rfl (Ag.upd rfl (Ag.upd rfl (Ag.upd rfl (Ag.upd rfl (Ag.upd rfl (Ag.upd rfl (Ag.upd rfl (Ag.upd rfl (Ag.updL rfl (Ag.mix _ _ _))))))))))))))))))))))))))))))))))))))))))))))))))))))))))))))))))))))))))))))))))))))))))))))))))))))))))))))))))))))))))))))))))))))))))))))))))))))))))))))))))))))))))))))))))))))))))))), ⟨rfl, rfl, trivial⟩, h_74, (by omega), rfl⟩
  · have p_75 := of_decide_eq_false c_28
    refine WP.exit ?_
    refine thn_x ?_
    refine thn_x ?_
    refine inb_hit ?_
    refine thn_n ?_
    refine WP.seq ?_
    refine WP.reg ?_
    refine WL.q (Wn.no rfl) rfl rfl (R.move (v := (.slice ra (16 * i) rc)) rfl) ?_
    refine WL.q (Wn.no rfl) rfl rfl (R.move (v := (vi ((n : Nat) : Int))) rfl) ?_
    refine WL.q (Wn.no rfl) rfl rfl (R.sliceR0 (h := n) rfl EvB.dflt (EvB.it (l := n) rfl rfl) (Nat.le_trans (by omega) (h_25.own (.head _)).2.2.1) Try.underlying23 Try.sizeOf5 (h_25.ok _ (.head _))) ?_
    have h_76 := HP.rowCut (k := n) h_25 At.h (by omega)
    rw [show ((strN key nonce i).map vu8).take (n * 1) = ((strN key nonce i).take n).map vu8 from by rw [Nat.mul_one, ← List.map_take]] at h_76
    refine WL.q (Wn.no rfl) rfl rfl (R.assign (v := (.slice ra n rc)) rfl) ?_
    refine WL.nil ?_
    refine thn_n ?_
    refine WP.ret ?_
    refine ret_of Try.results55 (RV.tmp (v := (.slice ra n rc)) rfl RV.nil) ?_
    rw [strL_of hno (by omega)] at h_76
    exact ⟨_, _, rfl, h_76.chgS, h_76.ok _ (.head _)⟩

theorem c_SameR (a : Option Addr) (n cap : Nat) (bs : List UInt8) (hl : bs.length = n) (a2 : Option Addr) (n2 cap2 : Nat) (bs2 : List UInt8) (hl2 : bs2.length = n2) (w : World) (hv : View w a (bs.map vu8)) (hv2 : View w a2 (bs2.map vu8)) :
    Cs Try.prog 19 [(.slice a n cap), (.slice a2 n2 cap2)].toArray w (fun v w1 => v = .bool (decide (bs = bs2)) ∧ Chg w w1 []) := by
  refine Cs.of (n := 10) (args := [(.slice a n cap), (.slice a2 n2 cap2)]) Try.func19 rfl rfl rfl ?_
  have h_0 := HP.init w
  have h_01 := h_0.old (View.arg hv) (fun f hf => by cases hf)
  have h_00 := h_01.old (View.arg hv2) (fun f hf => by rw [List.mem_singleton] at hf; subst hf; intro hm; simp [Ent.mut] at hm)
  refine WP.seq ?_
  refine WP.reg ?_
  refine WL.q (Wn.no rfl) rfl rfl (R.assign (v := (.bool false)) rfl) ?_
  refine WL.nil ?_
  refine thn_n ?_
  refine WP.seq ?_
  refine WP.reg ?_
  refine WL.q (Wn.no rfl) rfl rfl (R.move (v := (.slice a n cap)) rfl) ?_
  refine WL.q (Wn.no rfl) rfl rfl (R.toStr (bs := bs) rfl Try.underlying23 Try.underlying5 Try.underlying9 (viewV (h_00.ok _ (.tail _ (.head _)))) hl) ?_
  refine WL.q (Wn.no rfl) rfl rfl (R.move (v := (.slice a2 n2 cap2)) rfl) ?_
  refine WL.q (Wn.no rfl) rfl rfl (R.toStr (bs := bs2) rfl Try.underlying23 Try.underlying5 Try.underlying9 (viewV (h_00.ok _ (.head _))) hl2) ?_
  refine WL.q (Wn.no rfl) rfl rfl (R.eqStr (a := bs) (b := bs2) (r := decide (bs = bs2)) rfl rfl rfl) ?_
  refine WL.q (Wn.no rfl) rfl rfl (R.assign (v := (.bool (decide (bs = bs2)))) rfl) ?_
  refine WL.nil ?_
  refine thn_n ?_
  refine WP.ret ?_
  refine ret_of Try.results19 (RV.tmp (v := (.bool (decide (bs = bs2)))) rfl RV.nil) ?_
  exact ⟨rfl, h_00.chgS⟩

theorem c_Mask_n (key nonce : List UInt8) (hkey : key.length = 16) (hno : nonce.length = 8) (a : Option Addr) (n cap : Nat) (bs : List UInt8) (hl : bs.length = n) (h2 : n ≤ 1048576) (w : World) (hv : View w a (bs.map vu8)) :
    Cs Try.prog 56 [(.agg ⟨key.map vu8⟩), (.agg ⟨nonce.map vu8⟩), (.slice a n cap)].toArray w (fun v w1 => ∃ a, v = .tuple [.slice a n n, vi 0].toArray ∧ Chg w w1 [] ∧ Own w.heap.size w1 5 1 a n n ((xorL (strL key nonce n) bs).map vu8)) := by
  refine Cs.of (n := 39) (args := [(.agg ⟨key.map vu8⟩), (.agg ⟨nonce.map vu8⟩), (.slice a n cap)]) Try.func56 rfl rfl rfl ?_
  have h_0 := HP.init w
  have h_00 := h_0.old (View.arg hv) (fun f hf => by cases hf)
  refine WP.seq ?_
  refine WP.reg ?_
  refine WL.box (v := (.agg ⟨key.map vu8⟩)) (segs := [(16, key.map vu8)]) h_00 rfl rfl (SsOk.cons (SOk.u8 hkey) SsOk.nil) rfl (fun b_1 w_2 h_3 => ?_)
  refine WL.box (v := (.agg ⟨nonce.map vu8⟩)) (segs := [(8, nonce.map vu8)]) h_3 rfl rfl (SsOk.cons (SOk.u8 hno) SsOk.nil) rfl (fun b_4 w_5 h_6 => ?_)
  refine WL.q (Wn.no rfl) rfl rfl (R.assign (v := (.slice none 0 0)) rfl) ?_
  refine WL.q (Wn.no rfl) rfl rfl (R.assign (v := (vi 0)) rfl) ?_
  refine WL.nil ?_
  refine thn_n ?_
  refine WP.seq ?_
  refine WP.reg ?_
  refine WL.q (Wn.no rfl) rfl rfl (R.loadA (b := b_1) (off := 0) [] [(16, key.map vu8)] [] (cs := key.map vu8) rfl Try.isAgg66 Try.sizeOf66 (h_6.ok _ (.tail _ (.head _))) rfl rfl rfl rfl) ?_
  refine WL.q (Wn.no rfl) rfl rfl (R.loadA (b := b_4) (off := 0) [] [(8, nonce.map vu8)] [] (cs := nonce.map vu8) rfl Try.isAgg67 Try.sizeOf67 (h_6.ok _ (.head _)) rfl rfl rfl rfl) ?_
  refine WL.q (Wn.no rfl) rfl rfl (R.move (v := (.slice a n cap)) rfl) ?_
  refine WL.q (Wn.no rfl) rfl rfl (R.lenS (a := a) (m := n) rfl rfl Try.underlying23) ?_
  refine WL.call (al := [(.agg ⟨key.map vu8⟩), (.agg ⟨nonce.map vu8⟩), (vi ((n : Nat) : Int))]) Try.call53 rfl rfl (c_Stream_n key nonce hkey hno n (by omega) _) rfl ?_
  rintro _ w_8 ⟨a_7, rfl, hc_9, ho_10⟩
  have h_11 := h_6.gotRow hc_9 ho_10
  refine WL.q (Wn.no rfl) rfl rfl (R.move (v := (.tuple [(.slice a_7 n n), (vi 0)].toArray)) rfl) ?_
  refine WL.q (Wn.no rfl) rfl rfl (R.extract (l := [(.slice a_7 n n), (vi 0)]) (v := (.slice a_7 n n)) rfl rfl) ?_
  refine WL.q (Wn.no rfl) rfl rfl (R.extract (l := [(.slice a_7 n n), (vi 0)]) (v := (vi 0)) rfl rfl) ?_
  refine WL.q (Wn.no rfl) rfl rfl (R.assign (v := (.slice a_7 n n)) rfl) ?_
  refine WL.q (Wn.no rfl) rfl rfl (R.assign (v := (vi 0)) rfl) ?_
  refine WL.nil ?_
  refine thn_n ?_
  refine WP.seq ?_
  refine WP.seq ?_
  refine WP.reg ?_
  refine WL.q (Wn.no rfl) rfl rfl (R.move (v := (vi 0)) rfl) ?_
  refine WL.q (Wn.no rfl) rfl rfl (R.bin (v := (.bool false)) rfl rfl (bi_neq (r := false) (by decide))) ?_
  refine WL.nil ?_
  refine thn_n ?_
  refine WP.condF rfl ?_
  refine WP.skip ?_
  refine thn_n ?_
  refine WP.seq ?_
  refine WP.seq ?_
  refine WP.reg ?_
  refine WL.q (Wn.no rfl) rfl rfl (R.move (v := (.slice a_7 n n)) rfl) ?_
  refine WL.q (Wn.no rfl) rfl rfl (R.lenS (a := a_7) (m := n) rfl rfl Try.underlying23) ?_
  refine WL.q (Wn.no rfl) rfl rfl (R.move (v := (vi 0)) rfl) ?_
  refine WL.nil ?_
  refine thn_n ?_
  refine WP.block ?_
  refine WP.loopG (G := Nat) [10, 24, 25, 26, 27, 28, 29, 30, 31, 32, 33, 34, 35, 36, 37] (fun k => [(24, (vi ((k : Nat) : Int)))]) (fun k m w1 => HP w w1 [.row a_7 n n 5 1 ((mk (strL key nonce n) bs k).map vu8), .blk b_4 .nw 67 [(8, nonce.map vu8)], .blk b_1 .nw 66 [(16, key.map vu8)], .view a (bs.map vu8)] ∧ (k ≤ n) ∧ m = n - k) ⟨0, _, ⟨rfl, trivial⟩, (by rw [mk_0]; exact h_11), (by omega), rfl⟩ ?_
  rintro k m_14 J_15 w_12 ⟨h_13, hk, rfl⟩
  refine WP.seq ?_
  refine WP.reg ?_
  refine WL.q (Wn.no rfl) rfl rfl (R.bin (v := (.bool (decide ((((k : Nat) : Int) : Int) < ((n : Nat) : Int))))) rfl rfl (bi_lss (r := decide ((((k : Nat) : Int) : Int) < ((n : Nat) : Int))) rfl)) ?_
  refine WL.nil ?_
  refine thn_n ?_
  refine WP.seq ?_
  refine WP.cond (b := decide ((((k : Nat) : Int) : Int) < ((n : Nat) : Int))) rfl (fun c_16 => ?_) (fun c_16 => ?_)
  · have p_17 := of_decide_eq_true c_16
    refine WP.skip ?_
    refine thn_n ?_
    refine WP.seq ?_
    refine WP.block ?_
    refine WP.seq ?_
    refine WP.reg ?_
    refine WL.q (Wn.no rfl) rfl rfl (R.move (v := (vi ((k : Nat) : Int))) rfl) ?_
    refine WL.q (Wn.no rfl) rfl rfl (R.assign (v := (vi ((k : Nat) : Int))) rfl) ?_
    refine WL.nil ?_
    refine thn_n ?_
    refine WP.drawZ 10 (SL w.heap.size [.row a_7 n n 5 1 ((mk (strL key nonce n) bs k).map vu8), .blk b_4 .nw 67 [(8, nonce.map vu8)], .blk b_1 .nw 66 [(16, key.map vu8)], .view a (bs.map vu8)]) (.q 0 (.q 1 (.q 2 (.q 3 (.q 4 (.q 5 (.q 6 (.q 7 (.q 8 (.q 9 (.s 10 .nil))))))))))) (by kernel_rfl) (by kernel_rfl) rfl (by kernel_rfl) (fun w_18 hc_20 => (SL.cons ((h_13.same hc_20).ok _ (.head _)) (SL.cons ((h_13.same hc_20).ok _ (.tail _ (.head _))) (SL.cons ((h_13.same hc_20).ok _ (.tail _ (.tail _ (.head _)))) (SL.cons ((h_13.same hc_20).ok _ (.tail _ (.tail _ (.tail _ (.head _))))) (SL.nil _ _)))))) (fun w_18 hc_20 => ?_)
    have h_19 := h_13.same hc_20
    refine ZT.q rfl (Wn.no rfl) rfl rfl (fun wq hS => R.move (v := (.slice a_7 n n)) rfl) ?_
    refine ZT.q rfl (Wn.no rfl) rfl rfl (fun wq hS => R.move (v := (vi ((k : Nat) : Int))) rfl) ?_
    refine ZT.q rfl (Wn.no rfl) rfl rfl (fun wq hS => R.indexS (a := a_7) (i := k) (off := k) (xs := (mk (strL key nonce n) bs k).map vu8) rfl rfl rfl (by omega) (ownView (hS _ (.head _))) (by rw [len_map (mk_len (strL_len hno n) hl (by omega))]; omega) Try.underlying23 Try.sizeOf5 (Nat.mul_one _).symm) ?_
    refine ZT.q rfl (Wn.no rfl) rfl rfl (fun wq hS => R.loadG (a := a_7) (i := k) (xs := (mk (strL key nonce n) bs k).map vu8) (v := (vu8 ((mk (strL key nonce n) bs k).getD k 0))) rfl (ownView (hS _ (.head _))) Try.isAgg5 (get_u8 (lt_len (K := n) (mk_len (strL_len hno n) hl (by omega)) (by omega)))) ?_
    refine ZT.q rfl (Wn.no rfl) rfl rfl (fun wq hS => R.move (v := (.slice a n cap)) rfl) ?_
    refine ZT.q rfl (Wn.no rfl) rfl rfl (fun wq hS => R.move (v := (vi ((k : Nat) : Int))) rfl) ?_
    refine ZT.q rfl (Wn.no rfl) rfl rfl (fun wq hS => R.indexS (a := a) (i := k) (off := k) (xs := bs.map vu8) rfl rfl rfl (by omega) (viewV (hS _ (.tail _ (.tail _ (.tail _ (.head _)))))) (by rw [len_map hl]; omega) Try.underlying23 Try.sizeOf5 (Nat.mul_one _).symm) ?_
    refine ZT.q rfl (Wn.no rfl) rfl rfl (fun wq hS => R.loadG (a := a) (i := k) (xs := bs.map vu8) (v := (vu8 (bs.getD k 0))) rfl (viewV (hS _ (.tail _ (.tail _ (.tail _ (.head _)))))) Try.isAgg5 (get_u8 (lt_len (K := n) hl (by omega)))) ?_
    refine ZT.q rfl (Wn.no rfl) rfl rfl (fun wq hS => R.bin (v := (vu8 (((mk (strL key nonce n) bs k).getD k 0) ^^^ (bs.getD k 0)))) rfl rfl (b8_xor ((mk (strL key nonce n) bs k).getD k 0) (bs.getD k 0))) ?_
    refine ZT.q rfl (Wn.no rfl) rfl rfl (fun wq hS => R.indexS (a := a_7) (i := k) (off := k) (xs := (mk (strL key nonce n) bs k).map vu8) rfl rfl rfl (by omega) (ownView (hS _ (.head _))) (by rw [len_map (mk_len (strL_len hno n) hl (by omega))]; omega) Try.underlying23 Try.sizeOf5 (Nat.mul_one _).symm) ?_
    refine ZT.s ?_
    refine OpZ.last rfl (Wn.no rfl) ?_
    refine WL.storeR (a := a_7) (i := k) (v := (vu8 (((mk (strL key nonce n) bs k).getD k 0) ^^^ (bs.getD k 0)))) (xs' := ((mk (strL key nonce n) bs k).set k (((mk (strL key nonce n) bs k).getD k 0) ^^^ (bs.getD k 0))).map vu8) h_19 rfl rfl Try.sizeOf5 rfl At.h (lt_len (K := n) (len_map (mk_len (strL_len hno n) hl (by omega))) (by omega)) (set_u8 _ _ _) (fun w_21 h_22 => ?_)
    refine WL.nil ?_
    refine ZT.nil ?_
    refine inb_n ?_
    refine thn_n ?_
    refine WP.reg ?_
    refine WL.q (Wn.no rfl) rfl rfl (R.bin (v := (vi ((k + 1 : Nat) : Int))) rfl rfl (bi_add (c := ((k + 1 : Nat) : Int)) (by omega) (by omega))) ?_
    refine WL.q (Wn.no rfl) rfl rfl (R.move (v := (vi ((k + 1 : Nat) : Int))) rfl) ?_
    refine WL.nil ?_
    refine thn_n ?_
    rw [mk_step (strL_len hno n) hl (by omega)] at h_22
    exact ⟨k + 1, _, (by omega), (Ag.upd rfl (Ag.upd rfl (Ag.upd rfl (Ag.upd rfl (Ag.upd rfl (Ag.upd rfl (Ag.upd rfl (Ag.upd rfl (Ag.upd rfl (Ag.upd rfl (Ag.upd rfl (Ag.upd rfl (Ag.upd rfl (Ag.upd rfl (Ag.upd rfl (Ag.updL rfl (Ag.mix _ _ _))))))))))))))))), ⟨rfl, trivial⟩, h_22, (by omega), rfl⟩
  · have p_23 := of_decide_eq_false c_16
    refine WP.exit ?_
    refine thn_x ?_
    refine thn_x ?_
    refine inb_hit ?_
    refine thn_n ?_
    refine WP.seq ?_
    refine WP.reg ?_
    refine WL.q (Wn.no rfl) rfl rfl (R.move (v := (.slice a_7 n n)) rfl) ?_
    refine WL.q (Wn.no rfl) rfl rfl (R.assign (v := (.slice a_7 n n)) rfl) ?_
    refine WL.q (Wn.no rfl) rfl rfl (R.assign (v := (vi 0)) rfl) ?_
    refine WL.nil ?_
    refine thn_n ?_
    refine WP.ret ?_
    refine ret_of Try.results56 (RV.tmp (v := (.slice a_7 n n)) rfl (RV.tmp (v := (vi 0)) rfl RV.nil)) ?_
    have hkn : k = n := by omega
    rw [hkn, mk_all (strL_len hno n) hl] at h_13
    exact ⟨_, rfl, h_13.chgS, h_13.ok _ (.head _)⟩
end Go.Proofs.Ytcmgadjnammahaa
