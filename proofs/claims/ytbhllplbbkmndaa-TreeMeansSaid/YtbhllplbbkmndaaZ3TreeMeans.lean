/- Rules for walks and contracts of the functions that the law reaches, one behind the other. Conditions: none beyond what each theorem states. -/
import Derived.Test.YtbhllplbbkmndaaZ2TreeMeans
set_option linter.unusedVariables false
set_option linter.unusedSimpArgs false
set_option linter.unusedSectionVars false
namespace Go.Proofs.Ytbhllplbbkmndaa
open Go.Proofs.Try
open Go.Vc Go.Sh Go.RowKit
set_option maxRecDepth 20000

theorem c_HSum (mg : List UInt8) (ra : Option Addr) (rn rc : Nat) (hrn : (rsL mg).length = rn) (hrc : rn ≤ rc) (bc : Nat) (hm : mg.length ≤ 1000000000000) (w : World) (hvr : View w ra ((rsL mg).map vu8)) (hcb : (Ent.blk bc .ro 130 [(64, kL.map vu32), (8, (stH mg).map vu32), (1, [(.slice ra rn rc)]), (1, [(vi ((mg.length : Nat) : Int))]), (1, [(.bool true)])]).ok w.heap.size w) :
  Cs Try.prog 58 [(.pointer (some ⟨bc, 0, none⟩))].toArray w (fun v w1 => v = (.tuple [(.agg ⟨(sumL mg).map vu8⟩), (vi 0)].toArray) ∧ Chg w w1 []) := by
 refine Cs.of (n := 44) (args := [(pO bc 0)]) Try.func58 rfl rfl rfl ?_
 have h_0 := HP.init w
 have h_01 := h_0.oldV (View.arg hvr) rfl (by simp [Ent.mut])
 have h_00 := h_01.oldV hcb rfl (by simp [Ent.mut])
 have hrl := rsL_len mg
 have hpl := padL_len mg.length
 refine WP.seq (WP.reg ?_)
 refine WL.alloc (segs := [(32, (zB 32).map vu8)]) h_00 (zv typeInfo23 rfl) rfl (sC (s8 lr) sN) rfl (fun b_1 w_2 h_3 => ?_)
 refine qA (vi 0) rfl rfl ?_
 refine WL.nil (thn_n (WP.seq (WP.reg ?_)))
 refine qM (pO bc 0) rfl rfl ?_
 refine WL.call Try.call66 rfl rfl (c_Copy mg ra rn rc hrn (by omega) bc (by omega) _ (viewV (h_3.ok _ M2)) (h_3.argR M1)) rfl ?_
 rintro _ w_5 ⟨b_4, rfl, hc_6, hb_7, ra_8, rn_9, rc_10, hk_11, hv_12, hn_13, hq_14, hf_15⟩
 have h_16 := HP_gotHash (segs := [(64, kL.map vu32), (8, (stH mg).map vu32), (1, [(.slice ra_8 rn_9 rc_10)]), (1, [(vi ((mg.length : Nat) : Int))]), (1, [(.bool true)])]) h_3 hc_6 hb_7 (sC (SOk.u32 kL_len) (sC (SOk.u32 (stH_len mg)) (sC sV (sC sV (sC sV sN))))) hk_11 hv_12 hf_15
 refine qA (pO b_4 0) rfl rfl ?_
 refine WL.nil (thn_n (WP.seq (WP.seq (WP.reg ?_))))
 refine qM (pO b_4 0) rfl rfl (qV rfl (R.eqNilP rfl rfl underlying116) ?_)
 refine WL.nil (thn_n ?_)
 refine WP.condF rfl ?_
 refine WP.skip (thn_n (WP.seq (WP.reg ?_)))
 refine qM (pO b_4 0) rfl rfl (qM (pO bc 0) rfl rfl (qV rfl (R.nilCheck rfl) (qV rfl (R.fieldAddr (off' := 73) rfl underlying130 rfl sizeOf3 rfl rfl) (qV rfl (R.load1 rfl isAgg3 (h_16.ok _ M3) (Sg.t rfl (Sg.t rfl (Sg.t rfl Sg.h)))) ?_))))
 refine WL.call Try.call67 rfl rfl (c_padding mg.length (by omega) _) rfl ?_
 rintro _ w_19 ⟨a_17, cap_18, rfl, hc_20, ho_21⟩
 have h_22 := h_16.gotRow hc_20 ho_21
 have h_23 := h_22.up J1
 refine WL.call Try.call57 rfl rfl (c_Write mg ra_8 rn_9 rc_10 hn_13 (by omega) b_4 (by omega) a_17 ((padL mg.length).length) cap_18 (padL mg.length) (rfl : List.length (padL mg.length) = (padL mg.length).length) (by omega) (h_23.own M1).2.2.1 _ (viewV (h_23.ok _ M2)) (ownView (h_23.ok _ M1)) (h_23.arg M0) (Sep_off (m := .nw) (T := 130) (segs := [(64, kL.map vu32), (8, (stH mg).map vu32), (1, [(.slice ra_8 rn_9 rc_10)]), (1, [(vn (mg.length))]), (1, [(.bool true)])]) (by decide) (Sep.view (by decide) (fun h => h) (h_23.ne (i := 0) (j := 2) rfl rfl rfl).symm)) (Sep_off (m := .nw) (T := 130) (segs := [(64, kL.map vu32), (8, (stH mg).map vu32), (1, [(.slice ra_8 rn_9 rc_10)]), (1, [(vn (mg.length))]), (1, [(.bool true)])]) (by decide) (Sep.viewRow (h_23.ne (i := 0) (j := 1) rfl rfl rfl).symm))) rfl ?_
 rintro _ w_24 ⟨rfl, hc_25, ra_26, rn_27, rc_28, hk_29, hv_30, hn_31, hq_32, hf_33⟩
 have h_34 := HP_passedHash (segs' := [(64, kL.map vu32), (8, (stH (mg ++ (padL mg.length))).map vu32), (1, [(.slice ra_26 rn_27 rc_28)]), (1, [(vi (((mg ++ (padL mg.length)).length : Nat) : Int))]), (1, [(.bool true)])]) h_23 (by decide) hc_25 (sC (SOk.u32 kL_len) (sC (SOk.u32 (stH_len (mg ++ (padL mg.length)))) (sC sV (sC sV (sC sV sN))))) hk_29 hv_30 hf_33
 refine WL.nil (thn_n (WP.seq (WP.reg ?_)))
 refine WL.alloc (segs := [(32, (zB 32).map vu8)]) h_34 (zv typeInfo23 rfl) rfl (sC (s8 lr) sN) rfl (fun b_35 w_36 h_37 => ?_)
 refine WL.nil (thn_n (WP.seq (WP.seq (WP.reg ?_))))
 refine qM (pO b_4 0) rfl rfl (qV rfl (R.nilCheck rfl) (qV rfl (R.fieldAddr (off' := 64) rfl underlying130 rfl sizeOf126 rfl rfl) (qV rfl (R.loadA [(64, kL.map vu32)] [(8, (stH (mg ++ (padL mg.length))).map vu32)] [(1, [(.slice ra_26 rn_27 rc_28)]), (1, [(vn ((mg ++ (padL mg.length)).length))]), (1, [(.bool true)])] (cs := (stH (mg ++ (padL mg.length))).map vu32) rfl isAgg126 sizeOf126 (h_37.ok _ M2) rfl rfl rfl rfl) (qM (vi 0) rfl rfl ?_))))
 refine WL.nil (thn_n (WP.block ?_))
 refine WP.loopG (G := Nat) [6, 7, 8, 9, 26, 27, 28, 29, 30, 31, 32, 33, 34, 35, 36, 37, 38, 39, 40, 41, 42] (fun i => [(26, (vn i))]) (fun i m w1 => HP w w1 [.blk b_35 .nw 23 [(32, (mix (digL (stH (mg ++ padL mg.length))) (List.replicate 32 0) (4 * i)).map vu8)], .view ra_26 ((rsL (mg ++ (padL mg.length))).map vu8), .blk b_4 .nw 130 [(64, kL.map vu32), (8, (stH (mg ++ (padL mg.length))).map vu32), (1, [(.slice ra_26 rn_27 rc_28)]), (1, [(vn ((mg ++ (padL mg.length)).length))]), (1, [(.bool true)])], .row a_17 ((padL mg.length).length) cap_18 5 1 ((padL mg.length).map vu8), .view ra_8 ((rsL mg).map vu8), .blk b_1 .nw 23 [(32, (zB 32).map vu8)], .blk bc .ro 130 [(64, kL.map vu32), (8, (stH mg).map vu32), (1, [(.slice ra rn rc)]), (1, [(vn (mg.length))]), (1, [(.bool true)])], .view ra ((rsL mg).map vu8)] ∧ (i ≤ 8) ∧ m = 8 - i) ⟨0, _, ⟨rfl, trivial⟩, (by rw [Nat.mul_zero, mix_0]; exact h_37), (by omega), rfl⟩ ?_
 rintro i m_40 J_41 w_38 ⟨h_39, hi, rfl⟩
 have hx4 : (UInt64.ofNat (((stH (mg ++ padL mg.length))).getD i 0).toNat).toNat < 256 ^ 4 := by have h1 := (((stH (mg ++ padL mg.length))).getD i 0).toNat_lt; rw [nat64 (by omega)]; exact h1
 refine WP.seq (WP.reg ?_)
 refine qV rfl (R.bin rfl rfl (bi_lss (r := decide ((((i : Nat) : Int) : Int) < 8)) rfl)) ?_
 refine WL.nil (thn_n (WP.seq ?_))
 refine WP.cond (b := decide ((((i : Nat) : Int) : Int) < 8)) rfl (fun c_42 => ?_) (fun c_42 => ?_)
 ·have p_43 := of_decide_eq_true c_42
  refine WP.skip (thn_n (WP.seq (WP.block (WP.seq (WP.reg ?_)))))
  refine qM (vn i) rfl rfl (qV rfl (R.indexV (i := i) (cs := (stH (mg ++ (padL mg.length))).map vu32) (v := (vu32 ((stH (mg ++ (padL mg.length))).getD i 0))) rfl rfl rfl (by omega) underlying126 isAgg124 sizeOf124 (get_u32 (lt_len (K := 8) (stH_len (mg ++ (padL mg.length))) (by omega)))) (qA (vn i) rfl rfl (qA (vu32 ((stH (mg ++ (padL mg.length))).getD i 0)) rfl rfl ?_)))
  refine WL.nil (thn_n (WP.seq (WP.reg ?_)))
  refine qM (vu32 ((stH (mg ++ (padL mg.length))).getD i 0)) rfl rfl (qV rfl (R.conv (b := ((UInt64.ofNat (((stH (mg ++ (padL mg.length))).getD i 0).toNat)) : UInt64).toNat) rfl underlying124 underlying26 (w64_nat (((stH (mg ++ (padL mg.length))).getD i 0).toNat))) ?_)
  refine WL.call Try.call43 rfl rfl (c_Put_a (UInt64.ofNat (((stH (mg ++ (padL mg.length))).getD i 0).toNat)) 4 (by decide) (by decide) hx4 _) rfl ?_
  rintro _ w_46 ⟨a_44, cap_45, rfl, hc_47, ho_48⟩
  have h_49 := h_39.gotRow hc_47 ho_48
  refine qM (.tuple [(.slice a_44 4 cap_45), (vi 0)].toArray) rfl rfl (qV rfl (R.extract rfl rfl) (qV rfl (R.extract rfl rfl) (qA (.slice a_44 4 cap_45) rfl rfl (qA (vi 0) rfl rfl ?_))))
  refine WL.nil (thn_n ?_)
  refine WP.drawT (SL w.heap.size [.row a_44 4 cap_45 5 1 ((leN 4 (UInt64.ofNat (((stH (mg ++ (padL mg.length))).getD i 0).toNat)).toNat).map vu8), .view ra_26 ((rsL (mg ++ (padL mg.length))).map vu8), .blk b_4 .nw 130 [(64, kL.map vu32), (8, (stH (mg ++ (padL mg.length))).map vu32), (1, [(.slice ra_26 rn_27 rc_28)]), (1, [(vn ((mg ++ (padL mg.length)).length))]), (1, [(.bool true)])], .row a_17 ((padL mg.length).length) cap_18 5 1 ((padL mg.length).map vu8), .view ra_8 ((rsL mg).map vu8), .blk b_1 .nw 23 [(32, (zB 32).map vu8)], .blk bc .ro 130 [(64, kL.map vu32), (8, (stH mg).map vu32), (1, [(.slice ra rn rc)]), (1, [(vn (mg.length))]), (1, [(.bool true)])], .view ra ((rsL mg).map vu8)]) (.q 0 (.q 1 (.q 2 (.q 3 (.s 4 (.s 5 .nil)))))) (by kernel_rfl) (by kernel_rfl) rfl (by kernel_rfl) (fun w_50 hc_52 => (SL.cons ((h_49.same hc_52).ok _ M0) (SL.cons ((h_49.same hc_52).ok _ M2) (SL.cons ((h_49.same hc_52).ok _ M3) (SL.cons ((h_49.same hc_52).ok _ M4) (SL.cons ((h_49.same hc_52).ok _ M5) (SL.cons ((h_49.same hc_52).ok _ M6) (SL.cons ((h_49.same hc_52).ok _ M7) (SL.cons ((h_49.same hc_52).ok _ M8) (SL.nil _ _)))))))))) (fun w_50 hc_52 => ?_)
  have h_51 := h_49.same hc_52
  refine qT rfl rfl (fun wq hS => R.move (v := (vn i)) rfl) ?_
  refine qT rfl rfl (fun wq hS => R.bin rfl rfl (bi_mul (c := ((4 * i : Nat) : Int)) (by omega) (by omega))) ?_
  refine qT rfl rfl (fun wq hS => R.sliceA (b := b_35) (off := 0) (off' := (0 + (4 * i))) (l := 4 * i) (h := 32) rfl (EvB.it (l := 4 * i) rfl rfl) EvB.dflt (by omega) (by decide) underlying23 sizeOf5 (by rw [if_neg (by omega), Nat.mul_one])) ?_
  refine qT rfl rfl (fun wq hS => R.move (v := (.slice a_44 4 cap_45)) rfl) ?_
  refine WT.s (oN rfl ?_)
  refine WL.call Try.call68 rfl rfl (c_Turned a_44 4 cap_45 (leN 4 (UInt64.ofNat (((stH (mg ++ (padL mg.length))).getD i 0).toNat)).toNat) (leN_len ..) (by omega) _ (ownView (h_51.ok _ M0))) rfl ?_
  rintro _ w_55 ⟨a_53, cap_54, rfl, hc_56, ho_57⟩
  have h_58 := h_51.gotRow hc_56 ho_57
  refine WL.nil ?_
  refine ⟨(N1_3_4_5_6_7_8_9 h_58.ok), ?_⟩
  refine WT.s (oN rfl ?_)
  refine WL.copy (q := 4) (i := 4 * i) (ys := ((leN 4 (UInt64.ofNat (((stH (mg ++ (padL mg.length))).getD i 0).toNat)).toNat).reverse).map vu8) (cs' := (ovr (mix (digL (stH (mg ++ padL mg.length))) (List.replicate 32 0) (4 * i)) (4 * i) ((leN 4 (UInt64.ofNat (((stH (mg ++ (padL mg.length))).getD i 0).toNat)).toNat).reverse)).map vu8) h_58 rfl rfl underlying72 sizeOf5 (ownView (h_58.ok _ M0)) (len_map ((List.length_reverse ..).trans (leN_len ..))) (one_u8 _) Y2 (by decide) Sg.h rfl (Nat.min_eq_left (by omega)) (by rw [len_map (mix_len (digL_len _) lr)]; omega) (cpOvr ((List.length_reverse ..).trans (leN_len ..))) rfl (fun w_59 h_60 => ?_)
  refine WL.nil ?_
  refine ⟨(N1_3_4_5_6_7_8_9 h_60.ok), ?_⟩
  refine WT.nil (inb_n (thn_n (WP.reg ?_)))
  refine qV rfl (R.bin rfl rfl (bi_add (c := ((i + 1 : Nat) : Int)) (by omega) (by omega))) (qM (vn (i + 1)) rfl rfl ?_)
  refine WL.nil (thn_n ?_)
  have h_70 := (((((((((h_60.drop rfl).drop rfl).up J7).up J7).up J7).up J7).up J7).up J7).up J7).up J7
  rw [dig_ovr (by omega) _ rfl] at h_70
  exact ⟨i + 1, _, (by omega), (Ag.upd rfl (U4 rfl rfl rfl rfl (U4 rfl rfl rfl rfl (U4 rfl rfl rfl rfl (U4 rfl rfl rfl rfl (U4 rfl rfl rfl rfl (Ag.updL rfl (Ag.mix _ _ _)))))))), ⟨rfl, trivial⟩, h_70, (by omega), rfl⟩
 ·have p_71 := of_decide_eq_false c_42
  refine WP.exit (thn_x (thn_x (inb_hit (thn_n (WP.seq (WP.reg ?_))))))
  refine qV rfl (R.loadA [] [(32, (mix (digL (stH (mg ++ padL mg.length))) (List.replicate 32 0) (4 * i)).map vu8)] [] (cs := (mix (digL (stH (mg ++ padL mg.length))) (List.replicate 32 0) (4 * i)).map vu8) rfl isAgg23 sizeOf23 (h_39.ok _ M0) rfl rfl rfl rfl) ?_
  refine WL.storeA [] [(32, (zB 32).map vu8)] [(32, (mix (digL (stH (mg ++ padL mg.length))) (List.replicate 32 0) (4 * i)).map vu8)] [] h_39 rfl rfl sizeOf23 Y5 (by decide) rfl rfl rfl rfl rfl rfl (sC (s8 (mix_len (digL_len _) lr)) sN) (fun w_72 h_73 => ?_)
  refine qA (vi 0) rfl rfl ?_
  refine WL.nil (thn_n (WP.ret ?_))
  refine ret_of results58 (RV.cell rfl (h_73.loadA (cs := (mix (digL (stH (mg ++ padL mg.length))) (List.replicate 32 0) (4 * i)).map vu8) isAgg23 sizeOf23 M5 rfl rfl) (RV.tmp (v := (vi 0)) rfl RV.nil)) ?_
  have hi8 : i = 8 := by omega
  subst hi8
  have ed := dig_all (stH (mg ++ padL mg.length))
  exact ⟨by rw [show 4 * 8 = 32 from rfl, ed, sum_dig]; rfl, h_73.chgS⟩

theorem c_Sum (a : Option Addr) (n cap : Nat) (bs : List UInt8) (hl : bs.length = n) (hn : n ≤ 1000000000000) (hcap : n ≤ cap) (w : World) (hv : View w a (bs.map vu8)) :
  Cs Try.prog 49 [(.slice a n cap)].toArray w (fun v w1 => v = (.agg ⟨(sumL bs).map vu8⟩) ∧ Chg w w1 []) := by
 refine Cs.of (n := 16) (args := [(.slice a n cap)]) Try.func49 rfl rfl rfl ?_
 have h_0 := HP.init w
 have h_00 := h_0.old (View.arg hv) (fun f hf => by cases hf)
 refine WP.seq (WP.reg ?_)
 refine WL.alloc (segs := [(32, (zB 32).map vu8)]) h_00 (zv typeInfo23 rfl) rfl (sC (s8 lr) sN) rfl (fun b_1 w_2 h_3 => ?_)
 refine WL.nil (thn_n (WP.seq (WP.reg ?_)))
 refine WL.call Try.call56 rfl rfl (c_New _) rfl ?_
 rintro _ w_5 ⟨b_4, rfl, hc_6, hb_7, ra_8, rn_9, rc_10, hk_11, hv_12, hn_13, hq_14, hf_15⟩
 have h_16 := HP_gotHash (segs := [(64, kL.map vu32), (8, (stH ([] : List UInt8)).map vu32), (1, [(.slice ra_8 rn_9 rc_10)]), (1, [(vi ((([] : List UInt8).length : Nat) : Int))]), (1, [(.bool true)])]) h_3 hc_6 hb_7 (sC (SOk.u32 kL_len) (sC (SOk.u32 (stH_len ([] : List UInt8))) (sC sV (sC sV (sC sV sN))))) hk_11 hv_12 hf_15
 refine qA (pO b_4 0) rfl rfl ?_
 refine WL.nil (thn_n (WP.seq (WP.reg ?_)))
 refine qM (pO b_4 0) rfl rfl (qM (.slice a n cap) rfl rfl ?_)
 refine WL.call Try.call57 rfl rfl (c_Write ([] : List UInt8) ra_8 rn_9 rc_10 hn_13 (by omega) b_4 (by decide) a n cap bs hl (by omega) (by omega) _ (viewV (h_16.ok _ M1)) (viewV (h_16.ok _ M3)) (h_16.arg M0) (Sep_off (m := .nw) (T := 130) (segs := [(64, kL.map vu32), (8, (stH ([] : List UInt8)).map vu32), (1, [(.slice ra_8 rn_9 rc_10)]), (1, [(vn (([] : List UInt8).length))]), (1, [(.bool true)])]) (by decide) (Sep.view (by decide) (fun h => h) (h_16.ne (i := 0) (j := 1) rfl rfl rfl).symm)) (Sep_off (m := .nw) (T := 130) (segs := [(64, kL.map vu32), (8, (stH ([] : List UInt8)).map vu32), (1, [(.slice ra_8 rn_9 rc_10)]), (1, [(vn (([] : List UInt8).length))]), (1, [(.bool true)])]) (by decide) (Sep.view (by decide) (fun h => h) (h_16.ne (i := 0) (j := 3) rfl rfl rfl).symm))) rfl ?_
 rintro _ w_17 ⟨rfl, hc_18, ra_19, rn_20, rc_21, hk_22, hv_23, hn_24, hq_25, hf_26⟩
 have h_27 := HP_passedHash (segs' := [(64, kL.map vu32), (8, (stH bs).map vu32), (1, [(.slice ra_19 rn_20 rc_21)]), (1, [(vi ((bs.length : Nat) : Int))]), (1, [(.bool true)])]) h_16 (by decide) hc_18 (sC (SOk.u32 kL_len) (sC (SOk.u32 (stH_len bs)) (sC sV (sC sV (sC sV sN))))) hk_22 hv_23 hf_26
 refine WL.nil (thn_n (WP.seq (WP.reg ?_)))
 refine qM (pO b_4 0) rfl rfl ?_
 refine WL.call Try.call58 rfl rfl (c_HSum bs ra_19 rn_20 rc_21 hn_24 (by omega) b_4 (by omega) _ (viewV (h_27.ok _ M0)) (h_27.argR M1)) rfl ?_
 rintro _ w_29 ⟨rfl, hc_28⟩
 have h_30 := h_27.same hc_28
 refine qM (.tuple [(.agg ⟨(sumL bs).map vu8⟩), (vi 0)].toArray) rfl rfl (qV rfl (R.extract rfl rfl) (qV rfl (R.extract rfl rfl) ?_))
 refine WL.alloc (segs := [(32, (zB 32).map vu8)]) h_30 (zv typeInfo23 rfl) rfl (sC (s8 lr) sN) rfl (fun b_31 w_32 h_33 => ?_)
 refine WL.storeA [] [(32, (zB 32).map vu8)] [(32, (sumL bs).map vu8)] [] h_33 rfl rfl sizeOf23 At.h (by decide) rfl rfl rfl rfl rfl rfl (sC (s8 (sumL_len _)) sN) (fun w_34 h_35 => ?_)
 refine qA (vi 0) rfl rfl ?_
 refine WL.nil (thn_n (WP.seq (WP.reg ?_)))
 refine qV rfl (R.loadA [] [(32, (sumL bs).map vu8)] [] (cs := (sumL bs).map vu8) rfl isAgg23 sizeOf23 (h_35.ok _ M0) rfl rfl rfl rfl) ?_
 refine WL.storeA [] [(32, (zB 32).map vu8)] [(32, (sumL bs).map vu8)] [] h_35 rfl rfl sizeOf23 Y4 (by decide) rfl rfl rfl rfl rfl rfl (sC (s8 (sumL_len _)) sN) (fun w_36 h_37 => ?_)
 refine WL.nil (thn_n (WP.ret ?_))
 refine ret_of results49 (RV.cell rfl (h_37.loadA (cs := (sumL bs).map vu8) isAgg23 sizeOf23 M4 rfl rfl) RV.nil) ?_
 exact ⟨rfl, h_37.chgS⟩
end Go.Proofs.Ytbhllplbbkmndaa

namespace Go.Sh
open Go.Vc
def padK (k : List UInt8) : List UInt8 := k ++ List.replicate (64 - k.length) 0
theorem padK_len {k : List UInt8} {n : Nat} (hl : k.length = n) (h : n ≤ 64) : (padK k).length = 64 := by rw [padK, List.length_append, List.length_replicate]; omega
def xm (m : UInt8) (l : List UInt8) : List UInt8 := l.map fun x => x ^^^ m
theorem xm_len (m : UInt8) (l : List UInt8) : (xm m l).length = l.length := by simp [xm]
theorem xm_get {m : UInt8} {l : List UInt8} {i : Nat} (hi : i < l.length) : (xm m l).getD i 0 = l.getD i 0 ^^^ m := by simp [xm, hi]
theorem xm_step {m : UInt8} {l : List UInt8} {i n : Nat} (hl : l.length = n) (hi : i < n) : (mix (xm m l) l i).set i ((mix (xm m l) l i).getD i 0 ^^^ m) = mix (xm m l) l (i + 1) := by
  have hx : (xm m l).length = n := by rw [xm_len, hl]
  rw [mix_get hx hi, ← xm_get (by omega)]
  exact mix_set hx hl hi
theorem xm_all {m : UInt8} {l : List UInt8} {n : Nat} (hl : l.length = n) : mix (xm m l) l n = xm m l := mix_all (by rw [xm_len, hl]) hl (Nat.le_refl _)
theorem ovr_pad {k : List UInt8} {n : Nat} (hl : k.length = n) : ovr (List.replicate 64 (0 : UInt8)) 0 k = padK k := by
  rw [ovr, padK, List.take_zero, List.nil_append, Nat.zero_add, List.drop_replicate]
theorem flat2 (a b : List UInt8) : [a, b].flatten = a ++ b := by simp
def tagK (k b : List UInt8) : List UInt8 := sumL (xm 92 (padK k) ++ sumL (xm 54 (padK k) ++ b))
def tagL (key b : List UInt8) : List UInt8 := if 64 < key.length then tagK (sumL key) b else tagK key b
theorem tagK_len (k b : List UInt8) : (tagK k b).length = 32 := sumL_len _
theorem tagL_len (key b : List UInt8) : (tagL key b).length = 32 := by rw [tagL]; split <;> exact tagK_len _ _
theorem tag_s {key b : List UInt8} {n : Nat} (hl : key.length = n) (h : ¬ 64 < n) : tagL key b = tagK key b := if_neg (by omega)
theorem tag_l {key b : List UInt8} {n : Nat} (hl : key.length = n) (h : 64 < n) : tagL key b = tagK (sumL key) b := if_pos (by omega)
def difN (a b : List UInt8) : Nat → UInt8
  | 0 => 0
  | i + 1 => difN a b i ||| (a.getD i 0 ^^^ b.getD i 0)
def deriveL (key l : List UInt8) (x : UInt64) : List UInt8 := tagL key (Go.Wr.packL [l, leN 8 x.toNat])
def kfL (key l : List UInt8) : Nat → List UInt8
  | 0 => []
  | k + 1 => kfL key l k ++ deriveL key l (UInt64.ofNat k)
end Go.Sh
namespace Go.Vc
section
variable {P : Program} {F : Fr} {w : World}
variable {ty : TypeId} {pos : String} {after : Array Edge} {dst : Option Tmp} {g : Option (Nat × Bool)}
end
end Go.Vc
namespace Go.Sh
open Go.Vc
def halfL (d : List UInt8) (c : Nat) : List UInt8 := (d.drop c).take 16
def K11 : List UInt8 := List.replicate 20 11
end Go.Sh

namespace Go.Proofs.Ytbhllplbbkmndaa
open Go.Proofs.Try
open Go.Vc Go.Sh Go.RowKit
set_option maxRecDepth 20000

theorem c_Tag1 (mk : UInt8) (key : List UInt8) (ak : Option Addr) (nk ck : Nat) (hkl : key.length = nk) (hk64 : nk ≤ 64) (bc : Nat) (a2 : Option Addr) (n2 cap2 : Nat) (bs2 : List UInt8) (hl2 : bs2.length = n2) (hcap2 : n2 ≤ cap2) (hn2 : n2 ≤ 100000000000) (w : World) (hvk : View w ak (key.map vu8)) (hcb : (Ent.blk bc .ro 72 [(1, [(.slice ak nk ck)])]).ok w.heap.size w) (hv2 : View w a2 (bs2.map vu8)) :
  Cs Try.prog 59 [(vu8 mk), (.slice a2 n2 cap2), (.pointer (some ⟨bc, 0, none⟩))].toArray w (fun v w1 => v = (.agg ⟨(sumL (xm mk (padK key) ++ bs2)).map vu8⟩) ∧ Chg w w1 []) := by
 refine Cs.of (n := 26) (args := [(vu8 mk), (.slice a2 n2 cap2), (pO bc 0)]) Try.func59 rfl rfl rfl ?_
 have h_0 := HP.init w
 have h_01 := h_0.oldV (View.arg hvk) rfl (by simp [Ent.mut])
 have h_02 := h_01.oldV hcb rfl (by simp [Ent.mut])
 have h_00 := h_02.oldV (View.arg hv2) rfl (by simp [Ent.mut])
 have hfl : ([xm mk (padK key), bs2].flatten).length = 64 + n2 := by rw [flat2, List.length_append, xm_len, (padK_len hkl hk64), hl2]
 refine WP.seq (WP.reg ?_)
 refine WL.alloc (segs := [(32, (zB 32).map vu8)]) h_00 (zv typeInfo23 rfl) rfl (sC (s8 lr) sN) rfl (fun b_1 w_2 h_3 => ?_)
 refine WL.nil (thn_n (WP.seq (WP.reg ?_)))
 refine WL.alloc (segs := [(64, (zB 64).map vu8)]) h_3 (zv typeInfo120 rfl) rfl (sC (s8 lr) sN) rfl (fun b_4 w_5 h_6 => ?_)
 refine WL.nil (thn_n (WP.seq ?_))
 refine WP.drawT (SL w.heap.size [.blk b_1 .nw 23 [(32, (zB 32).map vu8)], .view a2 (bs2.map vu8), .blk bc .ro 72 [(1, [(.slice ak nk ck)])], .view ak (key.map vu8)]) (.q 0 (.q 1 (.s 2 .nil))) (by kernel_rfl) (by kernel_rfl) rfl (by kernel_rfl) (fun w_7 hc_9 => (SL.cons ((h_6.same hc_9).ok _ M1) (SL.cons ((h_6.same hc_9).ok _ M2) (SL.cons ((h_6.same hc_9).ok _ M3) (SL.cons ((h_6.same hc_9).ok _ M4) (SL.nil _ _)))))) (fun w_7 hc_9 => ?_)
 have h_8 := h_6.same hc_9
 refine qT rfl rfl (fun wq hS => R.sliceA (b := b_4) (off := 0) (off' := 0) (l := 0) (h := 64) rfl EvB.dflt EvB.dflt (by decide) (by decide) underlying120 sizeOf5 rfl) ?_
 refine qT rfl rfl (fun wq hS => R.load1 rfl isAgg72 (hS _ M2) Sg.h) ?_
 refine WT.s (oN rfl ?_)
 refine WL.copy (q := nk) (i := 0) (ys := key.map vu8) (cs' := (ovr (zB 64) 0 key).map vu8) h_8 rfl rfl underlying72 sizeOf5 (viewV (h_8.ok _ M4)) (len_map hkl) (one_u8 _) At.h (by decide) Sg.h rfl (Nat.min_eq_left (by omega)) (by rw [len_map lr]; omega) (cpOvr hkl) rfl (fun w_10 h_11 => ?_)
 refine WL.nil ?_
 refine ⟨(SL.cons (h_11.ok _ M1) (SL.cons (h_11.ok _ M2) (SL.cons (h_11.ok _ M3) (SL.cons (h_11.ok _ M4) (SL.nil _ _))))), ?_⟩
 refine WT.nil (thn_n (WP.seq (WP.seq (WP.reg ?_))))
 refine qM (vi 0) rfl rfl ?_
 refine WL.nil (thn_n (WP.block ?_))
 rw [ovr_pad hkl] at h_11
 refine WP.loopG (G := Nat) [7, 11, 12, 13, 14, 15, 16, 17, 18, 19, 20] (fun i => [(11, (vn i))]) (fun i m w1 => HP w w1 [.blk b_4 .nw 120 [(64, (mix (xm mk (padK key)) (padK key) i).map vu8)], .blk b_1 .nw 23 [(32, (zB 32).map vu8)], .view a2 (bs2.map vu8), .blk bc .ro 72 [(1, [(.slice ak nk ck)])], .view ak (key.map vu8)] ∧ (i ≤ 64) ∧ m = 64 - i) ⟨0, _, ⟨rfl, trivial⟩, (by rw [mix_0]; exact h_11), (by omega), rfl⟩ ?_
 rintro i m_14 J_15 w_12 ⟨h_13, hi, rfl⟩
 refine WP.seq (WP.reg ?_)
 refine qV rfl (R.bin rfl rfl (bi_lss (r := decide ((((i : Nat) : Int) : Int) < 64)) rfl)) ?_
 refine WL.nil (thn_n (WP.seq ?_))
 refine WP.cond (b := decide ((((i : Nat) : Int) : Int) < 64)) rfl (fun c_16 => ?_) (fun c_16 => ?_)
 ·have p_17 := of_decide_eq_true c_16
  refine WP.skip (thn_n (WP.seq (WP.block (WP.seq (WP.reg ?_)))))
  refine qM (vn i) rfl rfl (qA (vn i) rfl rfl ?_)
  refine WL.nil (thn_n (WP.reg ?_))
  refine qM (vn i) rfl rfl (qV rfl (R.indexA (b := b_4) (off := 0) (off' := (0 + i)) (i := i) rfl rfl rfl (by omega) underlying120 sizeOf5 (by rw [Nat.mul_one])) (qV rfl (R.loadE (b := b_4) (off := (0 + i)) (i := i) (v := (vu8 ((mix (xm mk (padK key)) (padK key) i).getD i 0))) rfl isAgg5 (h_13.ok _ M0) Sg.h rfl (get_u8 (lt_len (K := 64) (mix_len ((xm_len _ _).trans (padK_len hkl hk64)) (padK_len hkl hk64)) (by omega)))) (qM (vu8 mk) rfl rfl (qV rfl (R.bin rfl rfl (b8_xor ((mix (xm mk (padK key)) (padK key) i).getD i 0) mk)) (qV rfl (R.indexA (b := b_4) (off := 0) (off' := (0 + i)) (i := i) rfl rfl rfl (by omega) underlying120 sizeOf5 (by rw [Nat.mul_one])) ?_)))))
  refine WL.storeE (b := b_4) (off := (0 + i)) (i := i) (v := (vu8 (((mix (xm mk (padK key)) (padK key) i).getD i 0) ^^^ mk))) (cs' := ((mix (xm mk (padK key)) (padK key) i).set i (((mix (xm mk (padK key)) (padK key) i).getD i 0) ^^^ mk)).map vu8) h_13 rfl rfl sizeOf5 rfl At.h (by decide) Sg.h rfl (lt_len (K := 64) (len_map (mix_len ((xm_len _ _).trans (padK_len hkl hk64)) (padK_len hkl hk64))) (by omega)) (set_u8 _ _ _) (fun w_18 h_19 => ?_)
  refine WL.nil (inb_n (thn_n (WP.reg ?_)))
  refine qV rfl (R.bin rfl rfl (bi_add (c := ((i + 1 : Nat) : Int)) (by omega) (by omega))) (qM (vn (i + 1)) rfl rfl ?_)
  refine WL.nil (thn_n ?_)
  have h_24 := ((((h_19.up J4).up J4).up J4).up J4).up J4
  rw [xm_step (padK_len hkl hk64) (by omega)] at h_24
  exact ⟨i + 1, _, (by omega), (Ag.upd rfl (U2 rfl rfl (U4 rfl rfl rfl rfl (U4 rfl rfl rfl rfl (Ag.updL rfl (Ag.mix _ _ _)))))), ⟨rfl, trivial⟩, h_24, (by omega), rfl⟩
 ·have p_25 := of_decide_eq_false c_16
  refine WP.exit (thn_x (thn_x (inb_hit (thn_n (WP.seq (WP.reg ?_))))))
  have hi64 : i = 64 := by omega
  subst hi64
  rw [xm_all (padK_len hkl hk64)] at h_13
  refine qV rfl (R.sliceA (b := b_4) (off := 0) (off' := 0) (l := 0) (h := 64) rfl EvB.dflt EvB.dflt (by decide) (by decide) underlying120 sizeOf5 rfl) (qM (.slice a2 n2 cap2) rfl rfl ?_)
  refine WL.buildSl (vs := [(0, (.slice (some ⟨b_4, 0, none⟩) 64 64)), (1, (.slice a2 n2 cap2))]) (cs := [(.slice (some ⟨b_4, 0, none⟩) 64 64), (.slice a2 n2 cap2)]) h_13 underlying97 sizeOf72 (zv typeInfo72 rfl) rfl rfl (by kernel_rfl) rfl (by simp [Value.oneCell']) rfl rfl (fun b_26 w_27 h_28 => ?_)
  refine WL.call Try.call60 rfl rfl (c_wJoin (some ⟨b_26, 0, none⟩) 2 2 [(.slice (some ⟨b_4, 0, none⟩) 64 64), (.slice a2 n2 cap2)] [xm mk (padK key), bs2] rfl (by omega) (by omega) _ (viewB (h_28.ok _ M0) Sg.h) (Sls.cons ((xm_len _ _).trans (padK_len hkl hk64)) (by decide) (viewB (h_28.ok _ M1) Sg.h) (Sls.cons hl2 (by omega) (viewV (h_28.ok _ M3)) Sls.nil))) rfl ?_
  rintro _ w_31 ⟨a_29, cap_30, rfl, hc_32, ho_33⟩
  have h_34 := h_28.gotRow hc_32 ho_33
  refine WL.call Try.call49 rfl rfl (c_Sum a_29 ([xm mk (padK key), bs2].flatten.length) cap_30 ([xm mk (padK key), bs2].flatten) (rfl : List.length ([xm mk (padK key), bs2].flatten) = [xm mk (padK key), bs2].flatten.length) (by omega) (h_34.own M0).2.2.1 _ (ownView (h_34.ok _ M0))) rfl ?_
  rintro _ w_36 ⟨rfl, hc_35⟩
  have h_37 := h_34.same hc_35
  refine WL.storeA [] [(32, (zB 32).map vu8)] [(32, (sumL ([xm mk (padK key), bs2].flatten)).map vu8)] [] h_37 rfl rfl sizeOf23 Y3 (by decide) rfl rfl rfl rfl rfl rfl (sC (s8 (sumL_len _)) sN) (fun w_38 h_39 => ?_)
  refine WL.nil (thn_n (WP.ret ?_))
  refine ret_of results59 (RV.cell rfl (h_39.loadA (cs := (sumL ([xm mk (padK key), bs2].flatten)).map vu8) isAgg23 sizeOf23 M3 rfl rfl) RV.nil) ?_
  exact ⟨by rw [flat2]; rfl, h_39.chgS⟩

theorem c_Tag_s (a : Option Addr) (n cap : Nat) (key : List UInt8) (hl : key.length = n) (hcap : n ≤ cap) (hn : n ≤ 100000000000) (a2 : Option Addr) (n2 cap2 : Nat) (bs2 : List UInt8) (hl2 : bs2.length = n2) (hcap2 : n2 ≤ cap2) (hn2 : n2 ≤ 100000000000) (h : ¬ 64 < n) (w : World) (hv : View w a (key.map vu8)) (hv2 : View w a2 (bs2.map vu8)) :
  Cs Try.prog 51 [(.slice a n cap), (.slice a2 n2 cap2)].toArray w (fun v w1 => v = (.agg ⟨(tagL key bs2).map vu8⟩) ∧ Chg w w1 []) := by
 refine Cs.of (n := 21) (args := [(.slice a n cap), (.slice a2 n2 cap2)]) Try.func51 rfl rfl rfl ?_
 have h_0 := HP.init w
 have h_01 := h_0.oldV (View.arg hv) rfl (by simp [Ent.mut])
 have h_00 := h_01.oldV (View.arg hv2) rfl (by simp [Ent.mut])
 refine WP.seq (WP.reg ?_)
 refine WL.box (segs := [(1, [(.slice a n cap)])]) h_00 rfl rfl (sC sV sN) rfl (fun b_1 w_2 h_3 => ?_)
 refine WL.alloc (segs := [(32, (zB 32).map vu8)]) h_3 (zv typeInfo23 rfl) rfl (sC (s8 lr) sN) rfl (fun b_4 w_5 h_6 => ?_)
 refine WL.nil (thn_n (WP.seq (WP.seq (WP.reg ?_))))
 refine qV rfl (R.load1 rfl isAgg72 (h_6.ok _ M1) Sg.h) (qV rfl (R.lenS (a := a) (m := n) rfl rfl underlying72) (qV rfl (R.bin rfl rfl (bi_gtr (r := decide ((((n : Nat) : Int) : Int) > 64)) rfl)) ?_))
 refine WL.nil (thn_n ?_)
 refine WP.condF (congrArg Value.bool (decide_eq_false (by omega))) ?_
 refine WP.skip (thn_n (WP.seq (WP.reg ?_)))
 refine qV rfl (R.makeFuncL (fi := []) (ca := [(pO b_1 0)]) rfl rfl) (qA (Value.func (Fn.func 59) [].toArray [(Value.pointer (some ⟨b_1, 0, none⟩))].toArray) rfl rfl ?_)
 refine WL.nil (thn_n (WP.seq (WP.reg ?_)))
 refine qM (Value.func (Fn.func 59) [].toArray [(Value.pointer (some ⟨b_1, 0, none⟩))].toArray) rfl rfl (qM (.slice a2 n2 cap2) rfl rfl ?_)
 refine WL.call Try.call59 rfl rfl (c_Tag1 (54 : UInt8) key a n cap hl (by omega) b_1 a2 n2 cap2 bs2 hl2 (by omega) (by omega) _ (viewV (h_6.ok _ M3)) (h_6.argR M1) (viewV (h_6.ok _ M2))) rfl ?_
 rintro _ w_8 ⟨rfl, hc_7⟩
 have h_9 := h_6.same hc_7
 refine WL.alloc (segs := [(32, (zB 32).map vu8)]) h_9 (zv typeInfo23 rfl) rfl (sC (s8 lr) sN) rfl (fun b_10 w_11 h_12 => ?_)
 refine WL.storeA [] [(32, (zB 32).map vu8)] [(32, (sumL (xm (54 : UInt8) (padK key) ++ bs2)).map vu8)] [] h_12 rfl rfl sizeOf23 At.h (by decide) rfl rfl rfl rfl rfl rfl (sC (s8 (sumL_len _)) sN) (fun w_13 h_14 => ?_)
 refine WL.nil (thn_n (WP.seq (WP.reg ?_)))
 refine qM (Value.func (Fn.func 59) [].toArray [(Value.pointer (some ⟨b_1, 0, none⟩))].toArray) rfl rfl (qV rfl (R.sliceA (b := b_10) (off := 0) (off' := 0) (l := 0) (h := 32) rfl EvB.dflt EvB.dflt (by decide) (by decide) underlying23 sizeOf5 rfl) ?_)
 refine WL.call Try.call59 rfl rfl (c_Tag1 (92 : UInt8) key a n cap hl (by omega) b_1 (some ⟨b_10, 0, none⟩) 32 32 (sumL (xm (54 : UInt8) (padK key) ++ bs2)) (sumL_len _) (by decide) (by omega) _ (viewV (h_14.ok _ M4)) (h_14.argR M2) (viewB (h_14.ok _ M0) Sg.h)) rfl ?_
 rintro _ w_16 ⟨rfl, hc_15⟩
 have h_17 := h_14.same hc_15
 refine WL.storeA [] [(32, (zB 32).map vu8)] [(32, (sumL (xm (92 : UInt8) (padK key) ++ (sumL (xm (54 : UInt8) (padK key) ++ bs2)))).map vu8)] [] h_17 rfl rfl sizeOf23 Y1 (by decide) rfl rfl rfl rfl rfl rfl (sC (s8 (sumL_len _)) sN) (fun w_18 h_19 => ?_)
 refine WL.nil (thn_n (WP.ret ?_))
 refine ret_of results51 (RV.cell rfl (h_19.loadA (cs := (sumL (xm (92 : UInt8) (padK key) ++ (sumL (xm (54 : UInt8) (padK key) ++ bs2)))).map vu8) isAgg23 sizeOf23 M1 rfl rfl) RV.nil) ?_
 exact ⟨by rw [tag_s hl h]; rfl, h_19.chgS⟩

theorem c_Tag_l (a : Option Addr) (n cap : Nat) (key : List UInt8) (hl : key.length = n) (hcap : n ≤ cap) (hn : n ≤ 100000000000) (a2 : Option Addr) (n2 cap2 : Nat) (bs2 : List UInt8) (hl2 : bs2.length = n2) (hcap2 : n2 ≤ cap2) (hn2 : n2 ≤ 100000000000) (h : 64 < n) (w : World) (hv : View w a (key.map vu8)) (hv2 : View w a2 (bs2.map vu8)) :
  Cs Try.prog 51 [(.slice a n cap), (.slice a2 n2 cap2)].toArray w (fun v w1 => v = (.agg ⟨(tagL key bs2).map vu8⟩) ∧ Chg w w1 []) := by
 refine Cs.of (n := 21) (args := [(.slice a n cap), (.slice a2 n2 cap2)]) Try.func51 rfl rfl rfl ?_
 have h_0 := HP.init w
 have h_01 := h_0.oldV (View.arg hv) rfl (by simp [Ent.mut])
 have h_00 := h_01.oldV (View.arg hv2) rfl (by simp [Ent.mut])
 refine WP.seq (WP.reg ?_)
 refine WL.box (segs := [(1, [(.slice a n cap)])]) h_00 rfl rfl (sC sV sN) rfl (fun b_1 w_2 h_3 => ?_)
 refine WL.alloc (segs := [(32, (zB 32).map vu8)]) h_3 (zv typeInfo23 rfl) rfl (sC (s8 lr) sN) rfl (fun b_4 w_5 h_6 => ?_)
 refine WL.nil (thn_n (WP.seq (WP.seq (WP.reg ?_))))
 refine qV rfl (R.load1 rfl isAgg72 (h_6.ok _ M1) Sg.h) (qV rfl (R.lenS (a := a) (m := n) rfl rfl underlying72) (qV rfl (R.bin rfl rfl (bi_gtr (r := decide ((((n : Nat) : Int) : Int) > 64)) rfl)) ?_))
 refine WL.nil (thn_n ?_)
 refine WP.condT (congrArg Value.bool (decide_eq_true (by omega))) ?_
 refine WP.seq (WP.reg ?_)
 refine qV rfl (R.load1 rfl isAgg72 (h_6.ok _ M1) Sg.h) ?_
 refine WL.call Try.call49 rfl rfl (c_Sum a n cap key hl (by omega) (by omega) _ (viewV (h_6.ok _ M3))) rfl ?_
 rintro _ w_8 ⟨rfl, hc_7⟩
 have h_9 := h_6.same hc_7
 refine WL.alloc (segs := [(32, (zB 32).map vu8)]) h_9 (zv typeInfo23 rfl) rfl (sC (s8 lr) sN) rfl (fun b_10 w_11 h_12 => ?_)
 refine WL.storeA [] [(32, (zB 32).map vu8)] [(32, (sumL key).map vu8)] [] h_12 rfl rfl sizeOf23 At.h (by decide) rfl rfl rfl rfl rfl rfl (sC (s8 (sumL_len _)) sN) (fun w_13 h_14 => ?_)
 refine WL.nil (thn_n (WP.reg ?_))
 refine qV rfl (R.sliceA (b := b_10) (off := 0) (off' := 0) (l := 0) (h := 32) rfl EvB.dflt EvB.dflt (by decide) (by decide) underlying23 sizeOf5 rfl) ?_
 refine WL.store1 h_14 rfl rfl sizeOf72 rfl Y2 (by decide) Sg.h (fun w_15 h_16 => ?_)
 refine WL.nil (thn_n (WP.seq (WP.reg ?_)))
 refine qV rfl (R.makeFuncL (fi := []) (ca := [(pO b_1 0)]) rfl rfl) (qA (Value.func (Fn.func 59) [].toArray [(Value.pointer (some ⟨b_1, 0, none⟩))].toArray) rfl rfl ?_)
 refine WL.nil (thn_n (WP.seq (WP.reg ?_)))
 refine qM (Value.func (Fn.func 59) [].toArray [(Value.pointer (some ⟨b_1, 0, none⟩))].toArray) rfl rfl (qM (.slice a2 n2 cap2) rfl rfl ?_)
 refine WL.call Try.call59 rfl rfl (c_Tag1 (54 : UInt8) (sumL key) (some ⟨b_10, 0, none⟩) 32 32 (sumL_len _) (by omega) b_1 a2 n2 cap2 bs2 hl2 (by omega) (by omega) _ (viewB (h_16.ok _ M0) Sg.h) (h_16.argR M2) (viewV (h_16.ok _ M3))) rfl ?_
 rintro _ w_18 ⟨rfl, hc_17⟩
 have h_19 := h_16.same hc_17
 refine WL.alloc (segs := [(32, (zB 32).map vu8)]) h_19 (zv typeInfo23 rfl) rfl (sC (s8 lr) sN) rfl (fun b_20 w_21 h_22 => ?_)
 refine WL.storeA [] [(32, (zB 32).map vu8)] [(32, (sumL (xm (54 : UInt8) (padK (sumL key)) ++ bs2)).map vu8)] [] h_22 rfl rfl sizeOf23 At.h (by decide) rfl rfl rfl rfl rfl rfl (sC (s8 (sumL_len _)) sN) (fun w_23 h_24 => ?_)
 refine WL.nil (thn_n (WP.seq (WP.reg ?_)))
 refine qM (Value.func (Fn.func 59) [].toArray [(Value.pointer (some ⟨b_1, 0, none⟩))].toArray) rfl rfl (qV rfl (R.sliceA (b := b_20) (off := 0) (off' := 0) (l := 0) (h := 32) rfl EvB.dflt EvB.dflt (by decide) (by decide) underlying23 sizeOf5 rfl) ?_)
 refine WL.call Try.call59 rfl rfl (c_Tag1 (92 : UInt8) (sumL key) (some ⟨b_10, 0, none⟩) 32 32 (sumL_len _) (by omega) b_1 (some ⟨b_20, 0, none⟩) 32 32 (sumL (xm (54 : UInt8) (padK (sumL key)) ++ bs2)) (sumL_len _) (by decide) (by omega) _ (viewB (h_24.ok _ M1) Sg.h) (h_24.argR M3) (viewB (h_24.ok _ M0) Sg.h)) rfl ?_
 rintro _ w_26 ⟨rfl, hc_25⟩
 have h_27 := h_24.same hc_25
 refine WL.storeA [] [(32, (zB 32).map vu8)] [(32, (sumL (xm (92 : UInt8) (padK (sumL key)) ++ (sumL (xm (54 : UInt8) (padK (sumL key)) ++ bs2)))).map vu8)] [] h_27 rfl rfl sizeOf23 Y2 (by decide) rfl rfl rfl rfl rfl rfl (sC (s8 (sumL_len _)) sN) (fun w_28 h_29 => ?_)
 refine WL.nil (thn_n (WP.ret ?_))
 refine ret_of results51 (RV.cell rfl (h_29.loadA (cs := (sumL (xm (92 : UInt8) (padK (sumL key)) ++ (sumL (xm (54 : UInt8) (padK (sumL key)) ++ bs2)))).map vu8) isAgg23 sizeOf23 M2 rfl rfl) RV.nil) ?_
 exact ⟨by rw [tag_l hl h]; rfl, h_29.chgS⟩

theorem c_Tag (a : Option Addr) (n cap : Nat) (key : List UInt8) (hl : key.length = n) (hcap : n ≤ cap) (hn : n ≤ 100000000000) (a2 : Option Addr) (n2 cap2 : Nat) (bs2 : List UInt8) (hl2 : bs2.length = n2) (hcap2 : n2 ≤ cap2) (hn2 : n2 ≤ 100000000000) (w : World) (hv : View w a (key.map vu8)) (hv2 : View w a2 (bs2.map vu8)) : Cs Try.prog 51 [.slice a n cap, .slice a2 n2 cap2].toArray w (fun v w1 => v = (.agg ⟨(tagL key bs2).map vu8⟩) ∧ Chg w w1 []) := by
 by_cases h : 64 < n
 ·exact c_Tag_l a n cap key hl hcap hn a2 n2 cap2 bs2 hl2 hcap2 hn2 h w hv hv2
 ·exact c_Tag_s a n cap key hl hcap hn a2 n2 cap2 bs2 hl2 hcap2 hn2 h w hv hv2
end Go.Proofs.Ytbhllplbbkmndaa

namespace Go.Vc
open Go.RowKit Go.WideShapes
section
variable {P : Program} {F : Fr} {w w' w0 : World} {L : List Ent}
variable {ty : TypeId} {pos : String} {after : Array Edge} {dst : Option Tmp} {g : Option (Nat × Bool)}
theorem agg_formed {t : TypeId} {cs : List Value} (hu : aggB P t = true) (hl : cs.length = P.cellsOf t) : (Value.agg ⟨cs⟩).formed P t = true := by
  unfold aggB at hu
  unfold Value.formed
  split at hu <;> simp_all
theorem Ck.agg {K : TypeId} {m h : Nat} {cs : List Value} (hk : P.keyTypeAt m K = true) (hm : Nat.ble m 10000 = true) (hu : aggB P K = true) (t : Typ P h K cs) : Ck P K (.agg ⟨cs⟩) := by
  intro b w
  have hm' := Nat.le_of_ble_eq_true hm
  have := run_checkKey_deep (P := P) b (10000 - m) m K hk w _ (.agg ⟨cs⟩) _ (agg_formed hu t.len) (t.lits h (Nat.le_refl _))
  rwa [show 10000 - m + m = 10000 by omega] at this
def fdx {α : Type} [DecidableEq α] (q : α) : List (α × Value × Nat) → Nat → Option (Nat × Value)
  | [], _ => none
  | e :: r, i => if e.1 = q then some (i, e.2.1) else fdx q r (i + 1)
def ents {α : Type} (kf : α → List Value) (es : List (α × Value × Nat)) : List MapEntry := es.map fun e => { key := .agg ⟨kf e.1⟩, val := e.2.1, born := e.2.2 }
theorem run_asking {α : Type} [DecidableEq α] {kf : α → List Value} {K : TypeId} {m h : Nat} {q : α} (hk : P.keyTypeAt m K = true) (hm : Nat.ble m 10000 = true) (hu : aggB P K = true) (t : Typ P h K (kf q)) (w : World) :
    ∀ (es : List (α × Value × Nat)) (i : Nat), (∀ e ∈ es, Typ P h K (kf e.1) ∧ (kf e.1 = kf q → e.1 = q)) → (Instr.findAsking K (.agg ⟨kf q⟩) (ents kf es) i).run P w = .ok (fdx q es i) w
  | [], i, _ => by simp [ents, Instr.findAsking, fdx]
  | e :: es, i, hall => by
    obtain ⟨te, hinj⟩ := hall e (by simp)
    obtain ⟨r, hr, hiff⟩ := equal_of (w := w) hk (Nat.le_of_ble_eq_true hm) hu t te
    have hr' : (Op.equal K (.agg ⟨kf q⟩) (.agg ⟨kf e.1⟩)).run P w = .ok r w := hr
    by_cases he : e.1 = q
    · have : r = true := hiff.2 (by rw [he])
      subst this
      rw [he] at hr'
      simp [ents, Instr.findAsking, hr', he, fdx]
    · have : r = false := by
        cases r with
        | false => rfl
        | true => exact absurd (hinj (hiff.1 rfl).symm) he
      subst this
      have ih := run_asking hk hm hu t w es (i + 1) (fun y hy => hall y (by simp [hy]))
      simp only [ents] at ih
      simp only [ents, List.map_cons, Instr.findAsking, Sem.run_bind, hr', Result.andThen_ok, Bool.false_eq_true, if_false, ih, fdx, he]
theorem Fk.agg {α : Type} [DecidableEq α] {kf : α → List Value} {K : TypeId} {m h : Nat} {q : α} (hk : P.keyTypeAt m K = true) (hm : Nat.ble m 10000 = true) (hu : aggB P K = true) (t : Typ P h K (kf q)) {es : List (α × Value × Nat)}
    (hall : ∀ e ∈ es, Typ P h K (kf e.1) ∧ (kf e.1 = kf q → e.1 = q)) : Fk P K (.agg ⟨kf q⟩) (ents kf es) (fdx q es 0) := by
  intro w
  rw [run_findKey_eq w hu]
  exact run_asking hk hm hu t w es 0 hall
theorem eq_nilM {T K E : TypeId} {o : Option Nat} (hT : P.underlying T = some (.map K E)) (d : Nat) : (Op.equalIn (d + 1) T (.map o) (.map none)).run P w = .ok o.isNone w := by
  unfold Op.equalIn
  rw [Sem.run_bind, run_underlying hT]
  cases o <;> rfl
theorem R.neNilM {T T' K E : TypeId} {x y : Operand} {o : Option Nat} (hx : evO F x = .map o) (hy : evO F y = .map none) (hT : P.underlying T = some (.map K E)) : (execOp (evO F) ⟨dst, .binOp .neq T x y T', ty, pos, after, g⟩).run P w = .ok (.value (.bool (!o.isNone))) w := R.neOf hx hy rfl (eq_nilM hT) rfl
theorem add_add (a : Addr) (i k : Nat) : (a.add i).add k = a.add (i + k) := by
  unfold Addr.add
  by_cases hi : i = 0
  · subst hi; simp
  · by_cases hk : k = 0
    · subst hk; simp [hi]
    · have : i + k ≠ 0 := by omega
      simp [hi, hk, this, Nat.add_assoc]
theorem gA_add (a : Option Addr) (i k : Nat) : (gA a i).add k = gA a (i + k) := add_add _ _ _
theorem R.fieldG {i off' f z : Nat} {S : TypeId} {x : Operand} {a : Option Addr} {fs : Array Field} {fd : Field} (hx : evO F x = .pointer (some (gA a i))) (hT : P.underlying S = some (.struct fs)) (hf : fs[f]? = some fd)
    (hz : ∀ w, (sizeOf fd.type).run P w = .ok z w) (hz0 : Nat.blt 0 z = true) (hoff : off' = i + fd.offset) : (execOp (evO F) ⟨dst, .fieldAddr S x f, ty, pos, after, g⟩).run P w = .ok (.value (.pointer (some (gA a off')))) w := by
  have hz1 : z ≠ 0 := by rintro rfl; cases hz0
  simp [execOp, hx, Instr.fieldAt, run_underlying hT, hf, Instr.sureAddr, fieldPlace, hz, hz1, gA_add, hoff]
end
end Go.Vc

namespace Go.Orc
open Go.Vc Go.RowKit
abbrev Qn := Int × List UInt8 × Int × List UInt8
abbrev Lg := List (Qn × List UInt8)
def okQ (q : Qn) : Prop := q.2.1.length = 32 ∧ (1 ≤ q.1 ∧ q.1 ≤ 4) ∧ (1 ≤ q.2.2.1 ∧ q.2.2.1 ≤ 16) ∧ q.2.2.2.length ≤ 1000000000
def kC (q : Qn) : List Value := flat [(1, [vi q.1]), (32, q.2.1.map vu8), (1, [vi q.2.2.1]), (1, [.string (bstr q.2.2.2)])]
theorem bstr_inj {a b : List UInt8} (h : bstr a = bstr b) : a = b := by
  have := congrArg ByteArray.toList h
  rwa [bstr_toList, bstr_toList] at this
theorem kC_inj {p q : Qn} (hp : p.2.1.length = 32) (hq : q.2.1.length = 32) (h : kC p = kC q) : p = q := by
  obtain ⟨k, key, d, data⟩ := p
  obtain ⟨k', key', d', data'⟩ := q
  simp only at hp hq
  simp only [kC, flat, List.cons_append, List.nil_append, List.cons.injEq, Value.int.injEq, true_and] at h
  obtain ⟨h1, h2⟩ := h
  obtain ⟨h3, h4⟩ := List.append_inj h2 (by rw [List.length_map, List.length_map, hp, hq])
  simp only [List.cons.injEq, Value.int.injEq, Value.string.injEq, true_and, and_true] at h4
  have e1 : key = key' := by
    have := map_inj_u8 (a := key) (b := key')
    exact this ▸ h3
  rw [h1, e1, h4.1, bstr_inj h4.2]
def mEs : Lg → Nat → List (Qn × Value × Nat)
  | [], _ => []
  | p :: r, i => (p.1, vi (i : Int), i) :: mEs r (i + 1)
theorem mEs_snoc (p : Qn × List UInt8) : ∀ (l : Lg) (i : Nat), mEs (l ++ [p]) i = mEs l i ++ [(p.1, vi ((i + l.length : Nat) : Int), i + l.length)]
  | [], i => by simp [mEs]
  | x :: l, i => by
    rw [List.cons_append, mEs, mEs_snoc p l (i + 1), mEs, List.length_cons, show i + 1 + l.length = i + (l.length + 1) by omega]; rfl
theorem mEs_mem : ∀ {l : Lg} {i : Nat} {e : Qn × Value × Nat}, e ∈ mEs l i → ∃ p ∈ l, e.1 = p.1
  | x :: l, i, e, h => by
    rcases List.mem_cons.1 h with rfl | h
    · exact ⟨x, List.mem_cons_self .., rfl⟩
    · obtain ⟨p, hp, he⟩ := mEs_mem h
      exact ⟨p, List.mem_cons_of_mem _ hp, he⟩
def fdq (q : Qn) : Lg → Nat → Option Nat
  | [], _ => none
  | p :: r, i => if p.1 = q then some i else fdq q r (i + 1)
theorem fdx_fdq (q : Qn) : ∀ (l : Lg) (i : Nat), fdx q (mEs l i) i = (fdq q l i).map fun j : Nat => ((j, vi (j : Int)) : Nat × Value)
  | [], _ => rfl
  | p :: r, i => by
    rw [mEs, fdx, fdq]
    split
    · rfl
    · exact fdx_fdq q r (i + 1)
theorem fdq_lt {q : Qn} : ∀ {l : Lg} {i j : Nat}, fdq q l i = some j → i ≤ j ∧ j < i + l.length
  | p :: r, i, j, h => by
    rw [fdq] at h
    split at h
    · cases h; exact ⟨Nat.le_refl _, by rw [List.length_cons]; omega⟩
    · have := fdq_lt h
      rw [List.length_cons]; omega
def mArr (l : Lg) : Array MapEntry := ⟨ents kC (mEs l 0)⟩
theorem mArr_push (l : Lg) (q : Qn) (d : List UInt8) : mArr (l ++ [(q, d)]) = (mArr l).push { key := .agg ⟨kC q⟩, val := vi (l.length : Int), born := l.length } := by
  apply Array.ext'
  simp [mArr, ents, mEs_snoc]
theorem log_find {P : Program} {K : TypeId} {m h : Nat} {q : Qn} {l : Lg} (hk : P.keyTypeAt m K = true) (hm : Nat.ble m 10000 = true) (hu : aggB P K = true) (hT : ∀ q, okQ q → Typ P h K (kC q)) (hq : okQ q) (hl : ∀ p ∈ l, okQ p.1) :
    Fk P K (.agg ⟨kC q⟩) (mArr l).toList ((fdq q l 0).map fun j : Nat => ((j, vi (j : Int)) : Nat × Value)) := by
  rw [← fdx_fdq]
  refine Fk.agg hk hm hu (hT q hq) fun e he => ?_
  obtain ⟨p, hp, e1⟩ := mEs_mem he
  rw [e1]
  exact ⟨hT _ (hl p hp), fun h => kC_inj (hl p hp).1 hq.1 h⟩
def aC (q : Qn) (s : Value) (d : List UInt8) : List Value := flat [(1, [vi q.1]), (32, q.2.1.map vu8), (1, [vi q.2.2.1]), (1, [s]), (32, d.map vu8)]
theorem aC_len {q : Qn} {s : Value} {d : List UInt8} (h : q.2.1.length = 32) (hd : d.length = 32) : (aC q s d).length = 67 := by simp [aC, flat, h, hd]
inductive Lgs (w : World) : List Value → Lg → Prop
  | nil : Lgs w [] []
  | snoc {a : Option Addr} {n c : Nat} {q : Qn} {d : List UInt8} {xs : List Value} {l : Lg} (r : Lgs w xs l) (hq : okQ q) (hd : d.length = 32) (hl : q.2.2.2.length = n) (hc : n ≤ c) (hv : View w a (q.2.2.2.map vu8)) : Lgs w (xs ++ aC q (.slice a n c) d) (l ++ [(q, d)])
theorem Lgs.len {w : World} {xs : List Value} {l : Lg} (h : Lgs w xs l) : xs.length = l.length * 67 := by
  induction h with
  | nil => rfl
  | snoc r hq hd hl hc hv ih => rw [List.length_append, ih, aC_len hq.1 hd, List.length_append, List.length_cons, List.length_nil]; omega
theorem Lgs.ok {w : World} {xs : List Value} {l : Lg} (h : Lgs w xs l) : ∀ p ∈ l, okQ p.1 := by
  induction h with
  | nil => intro p hp; cases hp
  | snoc r hq hd hl hc hv ih =>
    intro p hp
    rcases List.mem_append.1 hp with hp | hp
    · exact ih p hp
    · rw [List.mem_singleton] at hp; subst hp; exact hq
theorem sblks_u8 : ∀ (l : List UInt8) (b : Nat), b ∉ sblks (l.map vu8)
  | [], b => by simp [sblks]
  | x :: l, b => by
    intro h
    have h' : b ∈ sblk (vu8 x) ++ sblks (l.map vu8) := h
    rcases List.mem_append.1 h' with h | h
    · simp [sblk] at h
    · exact sblks_u8 l b h
theorem sblk_in_view {a : Option Addr} {n c : Nat} {l : List UInt8} (hl : l.length = n) : ∀ b ∈ sblk (.slice a n c), b ∈ (Ent.view a (l.map vu8)).blocks := by
  intro b hb
  cases a with
  | none => simp [sblk] at hb
  | some ad => cases l with
    | nil => simp at hl; subst hl; simp [sblk] at hb
    | cons x r => cases n with
      | zero => simp at hl
      | succ n => simpa [Ent.blocks, sblk] using hb
theorem Lgs.get {w : World} {xs : List Value} {l : Lg} (h : Lgs w xs l) : ∀ {i : Nat} (hi : i < l.length), ∃ a n c, (xs.drop (67 * i)).take 67 = aC (l[i]).1 (.slice a n c) (l[i]).2 ∧ (l[i]).2.length = 32 ∧ (l[i]).1.2.2.2.length = n ∧ n ≤ c ∧ View w a ((l[i]).1.2.2.2.map vu8) ∧ (∀ b ∈ sblk (.slice a n c), b ∈ sblks xs) := by
  induction h with
  | nil => intro i hi; simp at hi
  | @snoc a n c q d xs l r hq hd hl hc hv ih =>
    intro i hi
    have hlen := r.len
    by_cases e : i < l.length
    · obtain ⟨a', n', c', h1, h2, h3, h4, h5, h6⟩ := ih e
      refine ⟨a', n', c', ?_, ?_, ?_, h4, ?_, ?_⟩
      · rw [List.drop_append_of_le_length (by omega), List.take_append_of_le_length (by rw [List.length_drop]; omega), h1, List.getElem_append_left e]
      · rw [List.getElem_append_left e]; exact h2
      · rw [List.getElem_append_left e]; exact h3
      · rw [List.getElem_append_left e]; exact h5
      · intro b hb; rw [sblks_append]; exact List.mem_append.2 (.inl (h6 b hb))
    · have : i = l.length := by rw [List.length_append, List.length_singleton] at hi; omega
      subst this
      have e2 : (l ++ [(q, d)])[l.length] = (q, d) := by simp
      refine ⟨a, n, c, ?_, ?_, ?_, hc, ?_, ?_⟩
      · rw [List.drop_append, List.drop_of_length_le (by omega), List.nil_append, show 67 * l.length - xs.length = 0 by omega, List.drop_zero, List.take_of_length_le (by rw [aC_len hq.1 hd]; exact Nat.le_refl _), e2]
      · rw [e2]; exact hd
      · rw [e2]; exact hl
      · rw [e2]; exact hv
      · intro b hb
        rw [sblks_append]
        refine List.mem_append.2 (.inr ?_)
        simp only [aC, flat, sblks_append]
        refine List.mem_append.2 (.inr (List.mem_append.2 (.inr (List.mem_append.2 (.inr (List.mem_append.2 (.inl ?_)))))))
        simpa [sblks] using hb
end Go.Orc

namespace Go.Orc
open Go.Vc Go.RowKit
theorem Lgs.lt {w : World} {xs : List Value} {l : Lg} (h : Lgs w xs l) : ∀ b ∈ sblks xs, b < w.heap.size := by
  induction h with
  | nil => intro b hb; cases hb
  | @snoc a n c q d xs l r hq hd hl hc hv ih =>
    intro b hb
    rw [sblks_append] at hb
    rcases List.mem_append.1 hb with hb | hb
    · exact ih b hb
    · refine sblk_lt (c := c) hl hv b ?_
      simp only [aC, flat, sblks_append, List.mem_append] at hb
      rcases hb with hb | hb | hb | hb | hb
      · simp [sblks, sblk] at hb
      · exact absurd hb (sblks_u8 _ _)
      · simp [sblks, sblk] at hb
      · simpa [sblks] using hb
      · exact absurd hb (sblks_u8 _ _)
theorem Lgs.same {w w' : World} {xs : List Value} {l : Lg} (h : Lgs w xs l) (hs : ∀ b ∈ sblks xs, w'.heap[b]? = w.heap[b]?) : Lgs w' xs l := by
  induction h with
  | nil => exact .nil
  | @snoc a n c q d xs l r hq hd hl hc hv ih =>
    refine .snoc (ih fun b hb => hs b (by rw [sblks_append]; exact List.mem_append.2 (.inl hb))) hq hd hl hc (sblk_view (c := c) hl hv fun b hb => hs b ?_)
    rw [sblks_append]
    refine List.mem_append.2 (.inr ?_)
    simp only [aC, flat, sblks_append]
    exact List.mem_append.2 (.inr (List.mem_append.2 (.inr (List.mem_append.2 (.inr (List.mem_append.2 (.inl (by simpa [sblks] using hb))))))))
theorem Lgs.pin {B : Nat} {w : World} {xs : List Value} {l : Lg} (h : Lgs w xs l) : (Ent.pin (sblks xs) (fun w => Lgs w xs l)).ok B w := ⟨h, h.lt, fun _ hs => h.same hs⟩
section
variable {w w' w0 : World} {L : List Ent}
theorem HP_logPush {xs : List Value} {l : Lg} {a : Option Addr} {n c : Nat} {E : TypeId} {q : Qn} {d : List UInt8} (h : HP w0 w (.row a n c E 1 (q.2.2.2.map vu8) :: .pin (sblks xs) (fun w => Lgs w xs l) :: L)) (hq : okQ q) (hd : d.length = 32) (hl : q.2.2.2.length = n) :
    HP w0 w (.pin (sblks (xs ++ aC q (.slice a n c) d)) (fun w => Lgs w (xs ++ aC q (.slice a n c) d) (l ++ [(q, d)])) :: .view a (q.2.2.2.map vu8) :: .pin (sblks xs) (fun w => Lgs w xs l) :: L) := by
  have hcap := (h.own (List.mem_cons_self ..)).2.2.1
  have h1 := h.rowView
  have hm1 : Ent.pin (sblks xs) (fun w => Lgs w xs l) ∈ (.view a (q.2.2.2.map vu8) :: .pin (sblks xs) (fun w => Lgs w xs l) :: L) := List.mem_cons_of_mem _ (List.mem_cons_self ..)
  have hm2 : Ent.view a (q.2.2.2.map vu8) ∈ (.view a (q.2.2.2.map vu8) :: .pin (sblks xs) (fun w => Lgs w xs l) :: L) := List.mem_cons_self ..
  have hs : Lgs w xs l := (h1.ok _ hm1).1
  have hv := viewV (h1.ok _ hm2)
  refine h1.within2 hm1 hm2 rfl rfl (Lgs.pin (.snoc hs hq hd hl hcap hv)) rfl rfl fun b hb => ?_
  simp only [Ent.blocks] at hb
  rw [sblks_append] at hb
  rcases List.mem_append.1 hb with hb | hb
  · exact .inl hb
  · right
    simp only [aC, flat, sblks_append, List.mem_append] at hb
    rcases hb with hb | hb | hb | hb | hb
    · simp [sblks, sblk] at hb
    · exact absurd hb (sblks_u8 _ _)
    · simp [sblks, sblk] at hb
    · have hb' : b ∈ sblk (.slice a n c) := by simpa [sblks] using hb
      exact sblk_in_view hl b hb'
    · exact absurd hb (sblks_u8 _ _)
theorem HP_logNil (h : HP w0 w L) : HP w0 w (.pin (sblks []) (fun w => Lgs w [] []) :: L) := h.add (Lgs.pin .nil) rfl fun f _ _ b hb _ => by cases hb
end
theorem aC_drop {q : Qn} {s : Value} {d : List UInt8} (h : q.2.1.length = 32) : (aC q s d).drop 35 = d.map vu8 := by
  have e : aC q s d = ([vi q.1] ++ (q.2.1.map vu8 ++ ([vi q.2.2.1] ++ [s]))) ++ d.map vu8 := by simp [aC, flat]
  rw [e, List.drop_append_of_le_length (by simp [h])]
  simp [h]
theorem Lgs.ans {w : World} {xs : List Value} {l : Lg} (h : Lgs w xs l) {i : Nat} {z : Qn × List UInt8} (hi : i < l.length) : (xs.drop (i * 67 + 35)).take 32 = (l.getD i z).2.map vu8 ∧ (l.getD i z).2.length = 32 := by
  obtain ⟨a, n, c, h1, h2, _⟩ := h.get hi
  have hq := h.ok (l[i]) (List.getElem_mem hi)
  have e : l.getD i z = l[i] := by simp [hi]
  rw [e]
  refine ⟨?_, h2⟩
  have h3 := congrArg (fun x => x.drop 35) h1
  change ((xs.drop (67 * i)).take 67).drop 35 = (aC _ _ _).drop 35 at h3
  rw [aC_drop hq.1, List.drop_take, List.drop_drop, show 67 * i + 35 = i * 67 + 35 by omega, show 67 - 35 = 32 from rfl] at h3
  exact h3
theorem fill_1 {s : Nat} {z : Array Value} {zc cs : List Value} (hz : z = ⟨zc⟩) (ok : SsOk [(s, zc)]) (okc : SsOk [(s, cs)]) : Instr.fill (fun i => some (i * s, s)) z [(0, .agg ⟨cs⟩)] = some ⟨cs⟩ := by
  subst hz
  exact (fill_of (pl := fun i => some (i * s, s)) (segs := [(s, zc)]) (parts := [(0, .agg ⟨cs⟩)]) (out := [(s, cs)]) (FillR.cons [] [(s, zc)] [(s, cs)] [] (by rw [Nat.zero_mul]; rfl) rfl rfl rfl okc rfl rfl rfl FillR.nil) ok).1
theorem aC_ok {q : Qn} {s : Value} {d : List UInt8} (h : q.2.1.length = 32) (hd : d.length = 32) (hs : s.oneCell' = true) : SsOk [(67, aC q s d)] := by
  refine SsOk.cons ⟨aC_len h hd, fun v hv => ?_⟩ SsOk.nil
  exact SsOk.one (SsOk.cons (SOk.v rfl) (SsOk.cons (SOk.u8 h) (SsOk.cons (SOk.v rfl) (SsOk.cons (SOk.v hs) (SsOk.cons (SOk.u8 hd) SsOk.nil))))) v hv
def drawF (df : List UInt8) (dn n : Nat) : List UInt8 := if n < dn then (df.drop (n * 32)).take 32 else leN 8 n ++ (List.replicate 23 0 ++ [1])
theorem drawF_len {df : List UInt8} {dn n : Nat} (h : df.length = 32 * dn) : (drawF df dn n).length = 32 := by
  rw [drawF]; split
  · rw [List.length_take, List.length_drop]; omega
  · simp [leN_len]
def ansD (df : List UInt8) (dn u : Nat) (l : Lg) (q : Qn) : List UInt8 := match fdq q l 0 with
  | some i => (l.getD i (q, [])).2
  | none => drawF df dn u
def ansU (u : Nat) (l : Lg) (q : Qn) : Nat := match fdq q l 0 with
  | some _ => u
  | none => u + 1
def ansL (df : List UInt8) (dn u : Nat) (l : Lg) (q : Qn) : Lg := match fdq q l 0 with
  | some _ => l
  | none => l ++ [(q, drawF df dn u)]
section
variable {df : List UInt8} {dn u : Nat} {l : Lg} {q : Qn} {i : Nat}
end
end Go.Orc
namespace Go.Orc
open Go.Vc Go.RowKit
theorem draw_tail {u : Nat} (h : u < 18446744073709551616) : ((leN 8 (UInt64.ofNat u).toNat) ++ (List.replicate 32 (0 : UInt8)).drop 8).set 31 1 = leN 8 u ++ (List.replicate 23 0 ++ [1]) := by
  have e : (UInt64.ofNat u).toNat = u := by simp; omega
  have hl := leN_len 8 u
  rw [e, List.set_append, if_neg (by omega), hl]
  congr 1
theorem log_hit {P : Program} {K : TypeId} {m h i : Nat} {q : Qn} {l : Lg} (hk : P.keyTypeAt m K = true) (hm : Nat.ble m 10000 = true) (hu : aggB P K = true) (hT : ∀ q, okQ q → Typ P h K (kC q)) (hq : okQ q) (hl : ∀ p ∈ l, okQ p.1) (hf : fdq q l 0 = some i) :
    Fk P K (.agg ⟨kC q⟩) (mArr l).toList (some (i, vi (i : Int))) := by
  have := log_find hk hm hu hT hq hl
  rwa [hf] at this
theorem log_miss {P : Program} {K : TypeId} {m h : Nat} {q : Qn} {l : Lg} (hk : P.keyTypeAt m K = true) (hm : Nat.ble m 10000 = true) (hu : aggB P K = true) (hT : ∀ q, okQ q → Typ P h K (kC q)) (hq : okQ q) (hl : ∀ p ∈ l, okQ p.1) (hf : fdq q l 0 = none) :
    Fk P K (.agg ⟨kC q⟩) (mArr l).toList none := by
  have := log_find hk hm hu hT hq hl
  rwa [hf] at this
theorem snoc_len {l : Lg} {p : Qn × List UInt8} : (l ++ [p]).length = l.length + 1 := by simp
end Go.Orc
namespace Go.Orc
open Go.Vc Go.RowKit
section
variable {w w' w0 : World} {L : List Ent}
theorem HP_viewNil (h : HP w0 w L) : HP w0 w (.view none (([] : List UInt8).map vu8) :: L) :=
  h.add ⟨View.nil _ _, fun ad h => by cases h⟩ rfl fun f _ _ b hb _ => by simp [Ent.blocks] at hb
theorem pair_sep {e f : Ent} : ∀ {L : List Ent}, L.Pairwise Sep → e ∈ L → f ∈ L → e ≠ f → Sep e f
  | [], _, he, _, _ => by cases he
  | g :: L, hp, he, hf, hne => by
    rw [List.pairwise_cons] at hp
    rcases List.mem_cons.1 he with he1 | he1 <;> rcases List.mem_cons.1 hf with hf1 | hf1
    · exact absurd (he1.trans hf1.symm) hne
    · rw [he1]; exact hp.1 f hf1
    · rw [hf1]; exact (hp.1 e he1).symm
    · exact pair_sep hp.2 he1 hf1 hne
theorem HP_within {e' : Ent} (h : HP w0 w L) (hok : e'.ok w0.heap.size w) (hmut' : e'.mut = false) (har : e'.isAr = false) (hbl : ∀ b ∈ e'.blocks, ∃ e ∈ L, e.mut = false ∧ b ∈ e.blocks) : HP w0 w (e' :: L) := by
  refine h.add hok har fun f hf hfm b hb hbf => ?_
  obtain ⟨e, he, hme, hbe⟩ := hbl b hb
  have hfm' : f.mut = true := by simpa [hmut'] using hfm
  have hne : e ≠ f := fun h2 => by rw [h2] at hme; rw [hme] at hfm'; cases hfm'
  exact pair_sep h.sep he hf hne (.inr hfm') b hbe hbf
end
def sS (df : List UInt8) (dn : Nat) (key : List UInt8) (dm : Int) (data : List UInt8) (u : Nat) (lg : Lg) : Nat → Nat × Lg × List UInt8
  | 0 => (u, lg, [])
  | k + 1 => (ansU (sS df dn key dm data u lg k).1 (sS df dn key dm data u lg k).2.1 (4, key, dm, data ++ leN 8 k), ansL df dn (sS df dn key dm data u lg k).1 (sS df dn key dm data u lg k).2.1 (4, key, dm, data ++ leN 8 k), (sS df dn key dm data u lg k).2.2 ++ ansD df dn (sS df dn key dm data u lg k).1 (sS df dn key dm data u lg k).2.1 (4, key, dm, data ++ leN 8 k))
def ok32 (l : Lg) : Prop := ∀ p ∈ l, p.2.length = 32
theorem Lgs.ok32 {w : World} {xs : List Value} {l : Lg} (h : Lgs w xs l) : ok32 l := by
  induction h with
  | nil => intro p hp; cases hp
  | snoc r hq hd hl hc hv ih =>
    intro p hp
    rcases List.mem_append.1 hp with hp | hp
    · exact ih p hp
    · rw [List.mem_singleton] at hp; subst hp; exact hd
section
variable {df : List UInt8} {dn : Nat} {key : List UInt8} {dm : Int} {data : List UInt8} {u : Nat} {lg : Lg}
end
end Go.Orc

namespace Go.Orc
open Go.Vc
def gx (a b : List UInt8) : List UInt8 := List.zipWith (fun x y => x ^^^ y) a b
def pcB (pg : Nat) (ct : UInt64) : List UInt8 := [leN 8 (UInt64.ofNat pg).toNat, leN 8 ct.toNat].flatten
def onesL (x : UInt8) : List UInt8 := List.replicate 32 x
end Go.Orc

namespace Go.Proofs.Ytbhllplbbkmndaa
open Go.Proofs.Try
open Go.Vc Go.Orc Go.Sh Go.RowKit
set_option maxRecDepth 20000
theorem el24 : ElT Try.prog 24 23 32 32 := ElT.mk' underlying24 (i := Try.t23) rfl rfl rfl rfl rfl rfl
theorem c_oword (x : UInt64) (w : World) :
  Cs Try.prog 62 [(vu64 x)].toArray w (fun v w1 => ∃ a cap, v = .slice a 8 cap ∧ Chg w w1 [] ∧ Own w.heap.size w1 5 1 a 8 cap ((leN 8 x.toNat).map vu8)) := by
 refine Cs.of (n := 11) (args := [(vu64 x)]) Try.func62 rfl rfl rfl ?_
 have h_0 := HP.init w
 refine WP.seq (WP.reg ?_)
 refine qA (.slice none 0 0) rfl rfl ?_
 refine WL.nil (thn_n (WP.seq (WP.reg ?_)))
 refine qM (vu64 x) rfl rfl ?_
 refine WL.call Try.call43 rfl rfl (c_Put_b x 8 rfl _) rfl ?_
 rintro _ w_3 ⟨a_1, cap_2, rfl, hc_4, ho_5⟩
 have h_6 := h_0.gotRow hc_4 ho_5
 refine qM (.tuple [(.slice a_1 8 cap_2), (vi 0)].toArray) rfl rfl (qV rfl (R.extract rfl rfl) (qV rfl (R.extract rfl rfl) (qA (.slice a_1 8 cap_2) rfl rfl (qA (vi 0) rfl rfl ?_))))
 refine WL.nil (thn_n (WP.seq (WP.reg ?_)))
 refine qM (.slice a_1 8 cap_2) rfl rfl (qA (.slice a_1 8 cap_2) rfl rfl ?_)
 refine WL.nil (thn_n (WP.ret ?_))
 refine ret_of results62 (RV.tmp (v := (.slice a_1 8 cap_2)) rfl RV.nil) ?_
 exact ⟨_, _, rfl, h_6.chgS, h_6.ok _ M0⟩

theorem c_CloneD (a : Option Addr) (n cap : Nat) (df : List UInt8) (hl : df.length = 32 * n) (hn : n ≤ 1000000000) (w : World) (hv : View w a (df.map vu8)) :
  Cs Try.prog 34 [(.slice a n cap)].toArray w (fun v w1 => ∃ a cap, v = .slice a n cap ∧ Chg w w1 [] ∧ Own w.heap.size w1 23 32 a n cap (df.map vu8)) := by
 refine Cs.of (n := 8) (args := [(.slice a n cap)]) Try.func34 rfl rfl rfl ?_
 have h_0 := HP.init w
 have h_00 := h_0.old (View.arg hv) (fun f hf => by cases hf)
 refine WP.seq (WP.reg ?_)
 refine qA (.slice none 0 0) rfl rfl ?_
 refine WL.nil (thn_n (WP.seq (WP.seq (WP.reg ?_))))
 refine qM (.slice a n cap) rfl rfl (qV rfl (R.eqNilS rfl rfl underlying24) ?_)
 refine WL.nil (thn_n ?_)
 refine WP.cond (b := a.isNone) rfl (fun c_1 => ?_) (fun c_1 => ?_)
 ·refine WP.seq (WP.reg ?_)
  refine qA (.slice none 0 0) rfl rfl ?_
  refine WL.nil (thn_n (WP.ret (thn_r ?_)))
  refine ret_of results34 (RV.tmp (v := (.slice none 0 0)) rfl RV.nil) ?_
  obtain rfl : df = [] := view_none c_1 hv
  obtain rfl : n = 0 := by simp at hl; omega
  exact ⟨none, 0, rfl, h_00.chgS, Own.nil ..⟩
 ·refine WP.skip (thn_n (WP.seq (WP.reg ?_)))
  refine WL.buildSl0 h_00 underlying24 sizeOf23 rfl (fun b_2 w_3 h_4 => ?_)
  refine qM (.slice a n cap) rfl rfl ?_
  refine WL.append (km := n) (xs := []) (ys := df.map vu8) (zs := df.map vu8) h_4 rfl rfl el24 (viewV (h_4.ok _ M1)) ((len_map hl).trans (by omega)) (one_u8 _) rfl (by omega) (by omega) (by omega) (fun _ _ => At.h) rfl (fun a_5 c_6 w_7 h_8 => ?_)
  refine qA (.slice a_5 n c_6) rfl rfl ?_
  refine WL.nil (thn_n (WP.ret ?_))
  refine ret_of results34 (RV.tmp (v := (.slice a_5 n c_6)) rfl RV.nil) ?_
  exact ⟨_, _, rfl, h_8.chgS, h_8.ok _ M0⟩

theorem c_draw {w00 : World} {L : List Ent} (id : Bool) (ob mp : Nat) (ms df : List UInt8) (hms : ms.length = 32) (da : Option Addr) (dn dc u : Nat) (hdf : df.length = 32 * dn) (la : Option Addr) (lc : Nat) (lx : List Value) (lg : Lg) (hu : u ≤ 1000000) (hlg : lg.length ≤ 1000000) (w : World) (h_0 : HP w00 w (Ent.blk ob .nw 82 [(1, [(.bool id)]), (32, ms.map vu8), (1, [(.slice da dn dc)]), (1, [(vi ((u : Nat) : Int))]), (1, [(.map (some mp))]), (1, [(.slice la lg.length lc)])] :: Ent.view da (df.map vu8) :: L)) :
  Cs Try.prog 54 [(.pointer (some ⟨ob, 0, none⟩))].toArray w (fun v w1 => v = (.agg ⟨(drawF df dn u).map vu8⟩) ∧ HP w00 w1 (Ent.blk ob .nw 82 [(1, [(.bool id)]), (32, ms.map vu8), (1, [(.slice da dn dc)]), (1, [(vi (((u + 1) : Nat) : Int))]), (1, [(.map (some mp))]), (1, [(.slice la lg.length lc)])] :: Ent.view da (df.map vu8) :: L)) := by
 refine Cs.of (n := 37) (args := [(pO ob 0)]) Try.func54 rfl rfl rfl ?_
 refine WP.seq (WP.reg ?_)
 refine WL.alloc (segs := [(32, (zB 32).map vu8)]) h_0 (zv typeInfo23 rfl) rfl (sC (s8 lr) sN) rfl (fun b_1 w_2 h_3 => ?_)
 refine WL.nil (thn_n (WP.seq (WP.reg ?_)))
 refine qM (pO ob 0) rfl rfl (qV rfl (R.nilCheck rfl) (qV rfl (R.fieldAddr (off' := 34) rfl underlying82 rfl sizeOf3 rfl rfl) (qV rfl (R.load1 rfl isAgg3 (h_3.ok _ M1) (Sg.t rfl (Sg.t rfl (Sg.t rfl Sg.h)))) (qA (vn u) rfl rfl ?_))))
 refine WL.nil (thn_n (WP.seq (WP.reg ?_)))
 refine qM (pO ob 0) rfl rfl (qV rfl (R.nilCheck rfl) (qV rfl (R.fieldAddr (off' := 34) rfl underlying82 rfl sizeOf3 rfl rfl) (qV rfl (R.load1 rfl isAgg3 (h_3.ok _ M1) (Sg.t rfl (Sg.t rfl (Sg.t rfl Sg.h)))) (qV rfl (R.bin rfl rfl (bi_add (c := ((u + 1 : Nat) : Int)) (by omega) (by omega))) (qV rfl (R.nilCheck rfl) (qV rfl (R.fieldAddr (off' := 34) rfl underlying82 rfl sizeOf3 rfl rfl) ?_))))))
 refine WL.store1 h_3 rfl rfl sizeOf3 rfl Y1 (by decide) (Sg.t rfl (Sg.t rfl (Sg.t rfl Sg.h))) (fun w_4 h_5 => ?_)
 refine WL.nil (thn_n (WP.seq (WP.seq (WP.reg ?_))))
 refine qM (vn u) rfl rfl (qM (pO ob 0) rfl rfl (qV rfl (R.nilCheck rfl) (qV rfl (R.fieldAddr (off' := 33) rfl underlying82 rfl sizeOf24 rfl rfl) (qV rfl (R.load1 rfl isAgg24 (h_5.ok _ M1) (Sg.t rfl (Sg.t rfl Sg.h))) (qV rfl (R.lenS (a := da) (m := dn) rfl rfl underlying24) (qV rfl (R.bin rfl rfl (bi_lss (r := decide ((((u : Nat) : Int) : Int) < ((dn : Nat) : Int))) rfl)) ?_))))))
 refine WL.nil (thn_n ?_)
 refine WP.cond (b := decide ((((u : Nat) : Int) : Int) < ((dn : Nat) : Int))) rfl (fun c_6 => ?_) (fun c_6 => ?_)
 ·have p_7 := of_decide_eq_true c_6
  refine WP.seq (WP.reg ?_)
  refine qM (pO ob 0) rfl rfl (qV rfl (R.nilCheck rfl) (qV rfl (R.fieldAddr (off' := 33) rfl underlying82 rfl sizeOf24 rfl rfl) (qV rfl (R.load1 rfl isAgg24 (h_5.ok _ M1) (Sg.t rfl (Sg.t rfl Sg.h))) (qM (vn u) rfl rfl (qV rfl (R.indexS (a := da) (i := u) (off := u * 32) (xs := df.map vu8) rfl rfl rfl (by omega) (viewV (h_5.ok _ M2)) (lt_len (K := 32 * dn) (len_map hdf) (by omega)) underlying24 sizeOf23 rfl) (qV rfl (R.loadGA (a := da) (i := u * 32) (xs := df.map vu8) (cs := (((df).drop (u * 32)).take 32).map vu8) rfl (viewV (h_5.ok _ M2)) isAgg23 sizeOf23 (by rw [List.map_take, List.map_drop]) (len_map (subLen (K := 32 * dn) hdf (by omega) : List.length (((df).drop (u * 32)).take 32) = 32)) (by decide)) ?_))))))
  refine WL.storeA [] [(32, (zB 32).map vu8)] [(32, (((df).drop (u * 32)).take 32).map vu8)] [] h_5 rfl rfl sizeOf23 At.h (by decide) rfl rfl rfl rfl rfl rfl (sC (s8 (subLen (K := 32 * dn) hdf (by omega) : List.length (((df).drop (u * 32)).take 32) = 32)) sN) (fun w_8 h_9 => ?_)
  refine WL.nil (thn_n (WP.ret (thn_r ?_)))
  refine ret_of results54 (RV.cell rfl (h_9.loadA (cs := (((df).drop (u * 32)).take 32).map vu8) isAgg23 sizeOf23 M0 rfl rfl) RV.nil) ?_
  have h_12 := ((h_9.drop rfl).up J1).up J1
  exact ⟨by rw [drawF, if_pos (by omega)]; rfl, h_12⟩
 ·have p_13 := of_decide_eq_false c_6
  refine WP.skip (thn_n (WP.seq (WP.reg ?_)))
  refine WL.alloc (segs := [(32, (zB 32).map vu8)]) h_5 (zv typeInfo23 rfl) rfl (sC (s8 lr) sN) rfl (fun b_14 w_15 h_16 => ?_)
  refine WL.nil (thn_n (WP.seq ?_))
  refine WP.drawT (SL w00.heap.size [.blk b_1 .nw 23 [(32, (zB 32).map vu8)], .blk ob .nw 82 [(1, [(.bool id)]), (32, ms.map vu8), (1, [(.slice da dn dc)]), (1, [(vn (u + 1))]), (1, [(.map (some mp))]), (1, [(.slice la lg.length lc)])], .view da (df.map vu8)]) (.q 0 (.q 1 (.q 2 (.s 3 (.s 4 .nil))))) (by kernel_rfl) (by kernel_rfl) rfl (by kernel_rfl) (fun w_17 hc_19 => (SL.cons ((h_16.same hc_19).ok _ M1) (SL.cons ((h_16.same hc_19).ok _ M2) (SL.cons ((h_16.same hc_19).ok _ M3) (SL.nil _ _))))) (fun w_17 hc_19 => ?_)
  have h_18 := h_16.same hc_19
  refine qT rfl rfl (fun wq hS => R.sliceA (b := b_14) (off := 0) (off' := 0) (l := 0) (h := 32) rfl EvB.dflt EvB.dflt (by decide) (by decide) underlying23 sizeOf5 rfl) ?_
  refine qT rfl rfl (fun wq hS => R.move (v := (vn u)) rfl) ?_
  refine qT rfl rfl (fun wq hS => R.conv (b := ((UInt64.ofNat u) : UInt64).toNat) rfl underlying3 underlying26 (w64_nat u)) ?_
  refine WT.s (oN rfl ?_)
  refine WL.call Try.call62 rfl rfl (c_oword (UInt64.ofNat u) _) rfl ?_
  rintro _ w_22 ⟨a_20, cap_21, rfl, hc_23, ho_24⟩
  have h_25 := h_18.gotRow hc_23 ho_24
  refine WL.nil ?_
  refine ⟨(N2_3_4 h_25.ok), ?_⟩
  refine WT.s (oN rfl ?_)
  refine WL.copy (q := 8) (i := 0) (ys := (leN 8 (UInt64.ofNat u).toNat).map vu8) (cs' := ((leN 8 (UInt64.ofNat u).toNat) ++ (zB 32).drop 8).map vu8) h_25 rfl rfl underlying72 sizeOf5 (ownView (h_25.ok _ M0)) (len_map (leN_len ..)) (one_u8 _) Y1 (by decide) Sg.h rfl (by decide) (by rw [len_map lr]; decide) (cpPre (leN_len ..)) rfl (fun w_26 h_27 => ?_)
  refine WL.nil ?_
  refine ⟨(N2_3_4 h_27.ok), ?_⟩
  refine WT.nil (thn_n (WP.seq (WP.reg ?_)))
  refine qV rfl (R.indexA (b := b_14) (off := 0) (off' := 31) (i := 31) rfl rfl rfl (by decide) underlying23 sizeOf5 rfl) ?_
  refine WL.storeE (b := b_14) (off := 31) (i := 31) (v := (vu8 1)) (cs' := (((leN 8 (UInt64.ofNat u).toNat) ++ (zB 32).drop 8).set 31 1).map vu8) h_27 rfl rfl sizeOf5 rfl Y1 (by decide) Sg.h rfl (lt_len (K := 32) (len_map (cpLen (leN_len ..) lr (by decide))) (by decide)) (set_u8 _ _ _) (fun w_28 h_29 => ?_)
  refine WL.nil (thn_n (WP.seq (WP.reg ?_)))
  refine qV rfl (R.loadA [] [(32, (((leN 8 (UInt64.ofNat u).toNat) ++ (zB 32).drop 8).set 31 1).map vu8)] [] (cs := (((leN 8 (UInt64.ofNat u).toNat) ++ (zB 32).drop 8).set 31 1).map vu8) rfl isAgg23 sizeOf23 (h_29.ok _ M1) rfl rfl rfl rfl) ?_
  refine WL.storeA [] [(32, (zB 32).map vu8)] [(32, (((leN 8 (UInt64.ofNat u).toNat) ++ (zB 32).drop 8).set 31 1).map vu8)] [] h_29 rfl rfl sizeOf23 Y2 (by decide) rfl rfl rfl rfl rfl rfl (sC (s8 (len_set (cpLen (leN_len ..) lr (by decide)) _ _)) sN) (fun w_30 h_31 => ?_)
  refine WL.nil (thn_n (WP.ret ?_))
  refine ret_of results54 (RV.cell rfl (h_31.loadA (cs := (((leN 8 (UInt64.ofNat u).toNat) ++ (zB 32).drop 8).set 31 1).map vu8) isAgg23 sizeOf23 M2 rfl rfl) RV.nil) ?_
  have h_36 := ((((h_31.drop rfl).drop rfl).drop rfl).up J1).up J1
  exact ⟨by rw [drawF, if_neg (by omega), ← draw_tail (by omega)]; rfl, h_36⟩
end Go.Proofs.Ytbhllplbbkmndaa

namespace Go.Orc
open Go.Vc Go.RowKit
section
variable {w w' w0 : World} {L : List Ent}
theorem HP_blkView {b k : Nat} {T : TypeId} {cs : List Value} (h : HP w0 w (.blk b .nw T [(k, cs)] :: L)) : HP w0 w (.view (some ⟨b, 0, none⟩) cs :: L) := by
  have hb := h.blk (List.mem_cons_self ..)
  have hv : View w (some ⟨b, 0, none⟩) cs := by
    have := hb.2.view 0
    simpa [flat] using this
  refine h.turn .h (View.arg hv) (fun b' hb' => ?_) (fun hm => by cases hm) rfl rfl
  cases cs with
  | nil => simp [Ent.blocks] at hb'
  | cons x r => simpa [Ent.blocks] using hb'
end
end Go.Orc

namespace Go.Orc
open Go.Vc Go.RowKit
end Go.Orc
namespace Go.Orc
open Go.Vc Go.RowKit
end Go.Orc
namespace Go.Orc
open Go.Vc Go.RowKit
end Go.Orc

namespace Go.Orc
open Go.Vc Go.RowKit
def i2u8 (x : Int) : UInt8 := UInt8.ofNat x.toNat
theorem i2u8_w {x : Int} (h : 0 ≤ x) : IntKind.u8.wrap x = ((i2u8 x).toNat : Int) := by
  obtain ⟨n, rfl⟩ := Int.eq_ofNat_of_zero_le h
  rw [w8_nat, i2u8]; rfl
def cT (q : Qn) : List UInt8 := ([i2u8 q.1] ++ q.2.1) ++ [i2u8 q.2.2.1] ++ q.2.2.2
theorem cT_len {q : Qn} {n : Nat} (hq : okQ q) (h : q.2.2.2.length = n) : (cT q).length = 34 + n := by
  obtain ⟨k, key, d, data⟩ := q
  have := hq.1
  simp [cT] at *
  omega
def cF (q : Qn) : List UInt8 := if q.1 = 1 then Go.Sh.sumL (cT q) else Go.Sh.tagL q.2.1 (cT q)
theorem cF_len (q : Qn) : (cF q).length = 32 := by
  unfold cF; split
  · exact Go.Sh.sumL_len _
  · exact Go.Sh.tagL_len _ _
def mF (id : Bool) (df : List UInt8) (dn u : Nat) (q : Qn) : List UInt8 := bif id then drawF df dn u else cF q
theorem mF_len {id : Bool} {df : List UInt8} {dn u : Nat} {q : Qn} (h : df.length = 32 * dn) : (mF id df dn u q).length = 32 := by
  cases id
  · exact cF_len q
  · exact drawF_len h
def anD (id : Bool) (df : List UInt8) (dn u : Nat) (l : Lg) (q : Qn) : List UInt8 := match fdq q l 0 with
  | some i => (l.getD i (q, [])).2
  | none => mF id df dn u q
def anU (id : Bool) (u : Nat) (l : Lg) (q : Qn) : Nat := match fdq q l 0 with
  | some _ => u
  | none => bif id then u + 1 else u
def anL (id : Bool) (df : List UInt8) (dn u : Nat) (l : Lg) (q : Qn) : Lg := match fdq q l 0 with
  | some _ => l
  | none => l ++ [(q, mF id df dn u q)]
section
variable {id : Bool} {df : List UInt8} {dn u : Nat} {l : Lg} {q : Qn} {i : Nat}
theorem anD_hit (h : fdq q l 0 = some i) : anD id df dn u l q = (l.getD i (q, [])).2 := by rw [anD, h]
theorem anU_hit (h : fdq q l 0 = some i) : anU id u l q = u := by rw [anU, h]
theorem anL_hit (h : fdq q l 0 = some i) : anL id df dn u l q = l := by rw [anL, h]
theorem anD_miss (h : fdq q l 0 = none) : anD id df dn u l q = mF id df dn u q := by rw [anD, h]
theorem anU_miss (h : fdq q l 0 = none) : anU id u l q = bif id then u + 1 else u := by rw [anU, h]
theorem anL_miss (h : fdq q l 0 = none) : anL id df dn u l q = l ++ [(q, mF id df dn u q)] := by rw [anL, h]
theorem anU_le (id : Bool) (u : Nat) (l : Lg) (q : Qn) : anU id u l q ≤ u + 1 := by
  rw [anU]; split
  · omega
  · cases id
    · exact Nat.le_succ u
    · exact Nat.le_refl _
theorem anL_le (id : Bool) (df : List UInt8) (dn u : Nat) (l : Lg) (q : Qn) : (anL id df dn u l q).length ≤ l.length + 1 := by
  rw [anL]; split
  · omega
  · rw [snoc_len]; exact Nat.le_refl _
theorem anD_len (h : df.length = 32 * dn) (hl : ok32 l) : (anD id df dn u l q).length = 32 := by
  rw [anD]
  split
  · rename_i i hi
    have := fdq_lt hi
    have hlt : i < l.length := by omega
    have e : l.getD i (q, []) = l[i] := by simp [hlt]
    rw [e]; exact hl _ (List.getElem_mem hlt)
  · exact mF_len h
theorem anL_32 (h : df.length = 32 * dn) (hl : ok32 l) : ok32 (anL id df dn u l q) := by
  rw [anL]
  split
  · exact hl
  · intro p hp
    rcases List.mem_append.1 hp with hp | hp
    · exact hl p hp
    · rw [List.mem_singleton] at hp; subst hp; exact mF_len h
end
end Go.Orc
namespace Go.Orc
open Go.Vc Go.RowKit
theorem okN : ok32 ([] : Lg) := fun p hp => by cases hp
def sT (df : List UInt8) (dn : Nat) (key : List UInt8) (dm : Int) (data : List UInt8) (u : Nat) (lg : Lg) : Nat → Nat × Lg × List UInt8
  | 0 => (u, lg, [])
  | k + 1 => (anU true (sT df dn key dm data u lg k).1 (sT df dn key dm data u lg k).2.1 (4, key, dm, data ++ leN 8 k), anL true df dn (sT df dn key dm data u lg k).1 (sT df dn key dm data u lg k).2.1 (4, key, dm, data ++ leN 8 k), (sT df dn key dm data u lg k).2.2 ++ anD true df dn (sT df dn key dm data u lg k).1 (sT df dn key dm data u lg k).2.1 (4, key, dm, data ++ leN 8 k))
section
variable {df : List UInt8} {dn : Nat} {key : List UInt8} {dm : Int} {data : List UInt8} {u : Nat} {lg : Lg}
end
end Go.Orc

namespace Go.Proofs.Ytbhllplbbkmndaa
open Go.Proofs.Try
open Go.Vc Go.Orc Go.Sh Go.RowKit
set_option maxRecDepth 20000
theorem ce5 : Try.prog.cellsOf 5 = 1 := by kernel_rfl
theorem ce9 : Try.prog.cellsOf 9 = 1 := by kernel_rfl
theorem ce23 : Try.prog.cellsOf 23 = 32 := by kernel_rfl
theorem ce75 : Try.prog.cellsOf 75 = 1 := by kernel_rfl
theorem ce94 : Try.prog.cellsOf 94 = 1 := by kernel_rfl
theorem ce111 : Try.prog.cellsOf 111 = 35 := by kernel_rfl
theorem el59 : ElT Try.prog 59 114 67 104 := ElT.mk' underlying59 (i := Try.t114) rfl rfl rfl rfl rfl rfl
theorem kt111 : Try.prog.keyTypeAt 3 111 = true := by kernel_rfl
theorem ag111 : aggB Try.prog 111 = true := by unfold aggB; rw [underlying111]
theorem pl111 : ∀ fs, Try.prog.underlying 111 = some (.struct fs) → Places Try.prog fs [(0, 1), (1, 32), (33, 1), (34, 1)] := by
 intro fs h w; rw [underlying111] at h; cases h; simp
theorem pl114 : ∀ fs, Try.prog.underlying 114 = some (.struct fs) → Places Try.prog fs [(0, 35), (35, 32)] := by
 intro fs h w; rw [underlying114] at h; cases h; simp
theorem typQ (q : Qn) (h : okQ q) : Typ Try.prog 3 111 (kC q) := by
 obtain ⟨h0, h1, h2, h3⟩ := h
 have h : okQ q := ⟨h0, h1, h2, h3⟩
 exact (Typ.struct (h := 2) (r := [(1, [(vi q.1)]), (32, q.2.1.map vu8), (1, [(vi q.2.2.1)]), (1, [(.string (bstr q.2.2.2))])]) (cs := flat [(1, [(vi q.1)]), (32, q.2.1.map vu8), (1, [(vi q.2.2.1)]), (1, [(.string (bstr q.2.2.2))])]) underlying111 (TypF.cons (k := 1) rfl rfl (by decide) rfl (Typ.int underlying94 ce94 (WalkArith.wf_i64 (by omega))) (TypF.cons (k := 32) rfl rfl (by decide) (len_map h.1) (Typ.u8s underlying23 ce23 underlying5 ce5 h.1) (TypF.cons (k := 1) rfl rfl (by decide) rfl (Typ.int underlying75 ce75 (WalkArith.wf_i64 (by omega))) (TypF.cons (k := 1) rfl rfl (by decide) rfl (Typ.str underlying9 ce9 (by rw [bstr_size]; simp only [maxLen]; omega)) TypF.nil)))) rfl (((sC sV (sC (s8 h.1) (sC sV (sC sV sN))))).len.trans ce111.symm))

theorem c_oText (kd dm : Int) (key data : List UInt8) (qa : Option Addr) (qn qc : Nat) (hq : okQ (kd, key, dm, data)) (hdl : data.length = qn) (w : World) (hv : View w qa (data.map vu8)) :
  Cs Try.prog 50 [(.agg ⟨flat [(1, [(vi kd)]), (32, key.map vu8), (1, [(vi dm)]), (1, [(.slice qa qn qc)])]⟩)].toArray w (fun v w1 => ∃ a cap, v = .slice a (34 + qn) cap ∧ Chg w w1 [] ∧ Own w.heap.size w1 5 1 a (34 + qn) cap ((cT (kd, key, dm, data)).map vu8)) := by
 have hk1 : 1 ≤ kd ∧ kd ≤ 4 := hq.2.1
 have hd1 : 1 ≤ dm ∧ dm ≤ 16 := hq.2.2.1
 have hqn : data.length ≤ 1000000000 := hq.2.2.2
 refine Cs.of (n := 20) (args := [(.agg ⟨flat [(1, [(vi kd)]), (32, key.map vu8), (1, [(vi dm)]), (1, [(.slice qa qn qc)])]⟩)]) Try.func50 rfl rfl rfl ?_
 have h_0 := HP.init w
 have h_00 := h_0.old (View.arg hv) (fun f hf => by cases hf)
 refine WP.seq (WP.reg ?_)
 refine WL.box (segs := [(1, [(vi kd)]), (32, key.map vu8), (1, [(vi dm)]), (1, [(.slice qa qn qc)])]) h_00 rfl rfl (sC sV (sC (s8 hq.1) (sC sV (sC sV sN)))) rfl (fun b_1 w_2 h_3 => ?_)
 refine qA (.slice none 0 0) rfl rfl ?_
 refine WL.nil (thn_n (WP.seq ?_))
 refine WP.drawT (SL w.heap.size [.blk b_1 .nw 96 [(1, [(vi kd)]), (32, key.map vu8), (1, [(vi dm)]), (1, [(.slice qa qn qc)])], .view qa (data.map vu8)]) (.q 0 (.q 1 (.q 2 (.q 4 (.q 5 (.s 3 (.s 6 (.q 7 .nil)))))))) (by kernel_rfl) (by kernel_rfl) rfl (by kernel_rfl) (fun w_4 hc_6 => (SL.cons ((h_3.same hc_6).ok _ M0) (SL.cons ((h_3.same hc_6).ok _ M1) (SL.nil _ _)))) (fun w_4 hc_6 => ?_)
 have h_5 := h_3.same hc_6
 refine qT rfl rfl (fun wq hS => R.fieldAddr (off' := 0) rfl underlying96 rfl sizeOf94 rfl rfl) ?_
 refine qT rfl rfl (fun wq hS => R.load1 rfl isAgg94 (hS _ M0) Sg.h) ?_
 refine qT rfl rfl (fun wq hS => R.conv (b := ((i2u8 kd) : UInt8).toNat) rfl underlying94 underlying5 (i2u8_w (by omega))) ?_
 refine qT rfl rfl (fun wq hS => R.fieldAddr (off' := 1) rfl underlying96 rfl sizeOf23 rfl rfl) ?_
 refine qT rfl rfl (fun wq hS => R.sliceA (b := b_1) (off := 1) (off' := 1) (l := 0) (h := 32) rfl EvB.dflt EvB.dflt (by decide) (by decide) underlying23 sizeOf5 rfl) ?_
 refine WT.s (oN rfl ?_)
 refine WL.buildSl (vs := [(0, (vu8 (i2u8 kd)))]) (cs := ([i2u8 kd] : List UInt8).map vu8) h_5 underlying72 sizeOf5 (zv typeInfo5 rfl) rfl rfl (by kernel_rfl) rfl (one_u8 _) rfl rfl (fun b_7 w_8 h_9 => ?_)
 refine WL.nil ?_
 refine ⟨(N1_2 h_9.ok), ?_⟩
 refine WT.s (oN rfl ?_)
 have h_10 := HP.blkRow (m := 1) (s := 1) h_9 At.h rfl (by simp only [maxLen]; decide)
 refine WL.append (km := 33) (xs := ([i2u8 kd] : List UInt8).map vu8) (ys := key.map vu8) (zs := (([i2u8 kd] : List UInt8) ++ key).map vu8) h_10 rfl rfl el72 (viewB (h_10.ok _ M1) (Sg.t rfl Sg.h)) ((len_map hq.1).trans (Nat.mul_one _).symm) (one_u8 _) (by simp only [List.map_append, List.map_nil]) rfl (by omega) (by omega) (fun _ _ => At.h) rfl (fun a_11 c_12 w_13 h_14 => ?_)
 refine WL.nil ?_
 refine ⟨(N1_2 h_14.ok), ?_⟩
 refine qT rfl rfl (fun wq hS => R.assign (v := (.slice a_11 33 c_12)) rfl) ?_
 refine WT.nil (thn_n (WP.seq ?_))
 refine WP.drawT (SL w.heap.size [.blk b_1 .nw 96 [(1, [(vi kd)]), (32, key.map vu8), (1, [(vi dm)]), (1, [(.slice qa qn qc)])], .view qa (data.map vu8)]) (.q 0 (.q 1 (.q 2 (.q 3 (.q 6 (.q 7 (.s 4 (.s 5 (.s 8 (.q 9 .nil)))))))))) (by kernel_rfl) (by kernel_rfl) rfl (by kernel_rfl) (fun w_15 hc_17 => (SL.cons ((h_14.same hc_17).ok _ M1) (SL.cons ((h_14.same hc_17).ok _ M2) (SL.nil _ _)))) (fun w_15 hc_17 => ?_)
 have h_16 := h_14.same hc_17
 refine qT rfl rfl (fun wq hS => R.move (v := (.slice a_11 33 c_12)) rfl) ?_
 refine qT rfl rfl (fun wq hS => R.fieldAddr (off' := 33) rfl underlying96 rfl sizeOf75 rfl rfl) ?_
 refine qT rfl rfl (fun wq hS => R.load1 rfl isAgg75 (hS _ M0) (Sg.t rfl (Sg.t rfl Sg.h))) ?_
 refine qT rfl rfl (fun wq hS => R.conv (b := ((i2u8 dm) : UInt8).toNat) rfl underlying75 underlying5 (i2u8_w (by omega))) ?_
 refine qT rfl rfl (fun wq hS => R.fieldAddr (off' := 34) rfl underlying96 rfl sizeOf72 rfl rfl) ?_
 refine qT rfl rfl (fun wq hS => R.load1 rfl isAgg72 (hS _ M0) (Sg.t rfl (Sg.t rfl (Sg.t rfl Sg.h)))) ?_
 refine WT.s (oN rfl ?_)
 refine WL.buildSl (vs := [(0, (vu8 (i2u8 dm)))]) (cs := ([i2u8 dm] : List UInt8).map vu8) h_16 underlying72 sizeOf5 (zv typeInfo5 rfl) rfl rfl (by kernel_rfl) rfl (one_u8 _) rfl rfl (fun b_18 w_19 h_20 => ?_)
 refine WL.nil ?_
 refine ⟨(N2_3 h_20.ok), ?_⟩
 refine WT.s (oN rfl ?_)
 refine WL.append (km := 34) (xs := (([i2u8 kd] : List UInt8) ++ key).map vu8) (ys := ([i2u8 dm] : List UInt8).map vu8) (zs := ((([i2u8 kd] : List UInt8) ++ key) ++ ([i2u8 dm] : List UInt8)).map vu8) h_20 rfl rfl el72 (viewB (h_20.ok _ M0) Sg.h) ((len_map (rfl : List.length ([i2u8 dm] : List UInt8) = 1)).trans (Nat.mul_one _).symm) (one_u8 _) (by simp only [List.map_append, List.map_nil]) rfl (by omega) (by omega) (fun _ _ => Y1) rfl (fun a_21 c_22 w_23 h_24 => ?_)
 refine WL.nil ?_
 refine ⟨(N2_3 h_24.ok), ?_⟩
 refine WT.s (oN rfl ?_)
 refine WL.append (km := 34 + qn) (xs := ((([i2u8 kd] : List UInt8) ++ key) ++ ([i2u8 dm] : List UInt8)).map vu8) (ys := data.map vu8) (zs := (((([i2u8 kd] : List UInt8) ++ key) ++ ([i2u8 dm] : List UInt8)) ++ data).map vu8) h_24 rfl rfl el72 (viewV (h_24.ok _ M3)) ((len_map hdl).trans (Nat.mul_one _).symm) (one_u8 _) (by simp only [List.map_append, List.map_nil]) (by omega) (by omega) (by omega) (fun _ _ => Y1) rfl (fun a_25 c_26 w_27 h_28 => ?_)
 refine WL.nil ?_
 refine ⟨(N2_3 h_28.ok), ?_⟩
 refine qT rfl rfl (fun wq hS => R.assign (v := (.slice a_25 (34 + qn) c_26)) rfl) ?_
 refine WT.nil (thn_n (WP.ret ?_))
 refine ret_of results50 (RV.tmp (v := (.slice a_25 (34 + qn) c_26)) rfl RV.nil) ?_
 exact ⟨_, _, by first | rfl | exact congrArg (fun n => Value.slice _ n _) (by omega), h_28.chgS, by first | exact h_28.ok _ M1 | (have hx := h_28.own M1; rwa [show 34 + qn = 34 + qn by omega] at hx)⟩

theorem c_oCl (kd dm : Int) (key data : List UInt8) (qa : Option Addr) (qn qc : Nat) (hq : okQ (kd, key, dm, data)) (hdl : data.length = qn) (bq : Nat) (w : World) (hv : View w qa (data.map vu8)) (hcb : (Ent.blk bq .ro 96 [(1, [(vi kd)]), (32, key.map vu8), (1, [(vi dm)]), (1, [(.slice qa qn qc)])]).ok w.heap.size w) :
  Cs Try.prog 48 [(.pointer (some ⟨bq, 0, none⟩))].toArray w (fun v w1 => v = (.agg ⟨(cF (kd, key, dm, data)).map vu8⟩) ∧ Chg w w1 []) := by
 have hk1 : 1 ≤ kd ∧ kd ≤ 4 := hq.2.1
 have hd1 : 1 ≤ dm ∧ dm ≤ 16 := hq.2.2.1
 have hqn : data.length ≤ 1000000000 := hq.2.2.2
 refine Cs.of (n := 13) (args := [(pO bq 0)]) Try.func48 rfl rfl rfl ?_
 have h_0 := HP.init w
 have h_01 := h_0.oldV (View.arg hv) rfl (by simp [Ent.mut])
 have h_00 := h_01.oldV hcb rfl (by simp [Ent.mut])
 refine WP.seq (WP.reg ?_)
 refine WL.alloc (segs := [(32, (zB 32).map vu8)]) h_00 (zv typeInfo23 rfl) rfl (sC (s8 lr) sN) rfl (fun b_1 w_2 h_3 => ?_)
 refine WL.nil (thn_n (WP.seq (WP.seq (WP.reg ?_))))
 refine qV rfl (R.fieldAddr (off' := 0) rfl underlying96 rfl sizeOf94 rfl rfl) (qV rfl (R.load1 rfl isAgg94 (h_3.ok _ M1) Sg.h) (qV rfl (R.bin rfl rfl (bi_eql (r := decide ((kd : Int) = 1)) rfl)) ?_))
 refine WL.nil (thn_n ?_)
 refine WP.cond (b := decide ((kd : Int) = 1)) rfl (fun c_4 => ?_) (fun c_4 => ?_)
 ·have p_5 := of_decide_eq_true c_4
  refine WP.seq (WP.reg ?_)
  refine qV rfl (R.loadA [] [(1, [(vi kd)]), (32, key.map vu8), (1, [(vi dm)]), (1, [(.slice qa qn qc)])] [] rfl isAgg96 sizeOf96 (h_3.ok _ M1) rfl rfl rfl rfl) ?_
  refine WL.call Try.call50 rfl rfl (c_oText kd dm key data qa qn qc hq hdl _ (viewV (h_3.ok _ M2))) rfl ?_
  rintro _ w_8 ⟨a_6, cap_7, rfl, hc_9, ho_10⟩
  have h_11 := h_3.gotRow hc_9 ho_10
  refine WL.call Try.call49 rfl rfl (c_Sum a_6 (34 + qn) cap_7 (cT (kd, key, dm, data)) (cT_len hq hdl) (by omega) (h_11.own M0).2.2.1 _ (ownView (h_11.ok _ M0))) rfl ?_
  rintro _ w_13 ⟨rfl, hc_12⟩
  have h_14 := h_11.same hc_12
  refine WL.storeA [] [(32, (zB 32).map vu8)] [(32, (sumL (cT (kd, key, dm, data))).map vu8)] [] h_14 rfl rfl sizeOf23 Y1 (by decide) rfl rfl rfl rfl rfl rfl (sC (s8 (sumL_len _)) sN) (fun w_15 h_16 => ?_)
  refine WL.nil (thn_n (WP.ret (thn_r ?_)))
  refine ret_of results48 (RV.cell rfl (h_16.loadA (cs := (sumL (cT (kd, key, dm, data))).map vu8) isAgg23 sizeOf23 M1 rfl rfl) RV.nil) ?_
  exact ⟨by rw [cF, if_pos p_5]; rfl, h_16.chgS⟩
 ·have p_17 := of_decide_eq_false c_4
  refine WP.skip (thn_n (WP.seq ?_))
  refine WP.drawZ 5 (SL w.heap.size [.blk b_1 .nw 23 [(32, (zB 32).map vu8)], .blk bq .ro 96 [(1, [(vi kd)]), (32, key.map vu8), (1, [(vi dm)]), (1, [(.slice qa qn qc)])], .view qa (data.map vu8)]) (.q 0 (.q 1 (.q 2 (.s 3 (.s 4 (.s 5 .nil)))))) (by kernel_rfl) (by kernel_rfl) rfl (by kernel_rfl) (fun w_18 hc_20 => (SL.cons ((h_3.same hc_20).ok _ M0) (SL.cons ((h_3.same hc_20).ok _ M1) (SL.cons ((h_3.same hc_20).ok _ M2) (SL.nil _ _))))) (fun w_18 hc_20 => ?_)
  have h_19 := h_3.same hc_20
  refine ZT.q rfl (Wn.no rfl) rfl rfl (fun wq hS => R.fieldAddr (off' := 1) rfl underlying96 rfl sizeOf23 rfl rfl) ?_
  refine ZT.q rfl (Wn.no rfl) rfl rfl (fun wq hS => R.sliceA (b := bq) (off := 1) (off' := 1) (l := 0) (h := 32) rfl EvB.dflt EvB.dflt (by decide) (by decide) underlying23 sizeOf5 rfl) ?_
  refine ZT.q rfl (Wn.no rfl) rfl rfl (fun wq hS => R.loadA [] [(1, [(vi kd)]), (32, key.map vu8), (1, [(vi dm)]), (1, [(.slice qa qn qc)])] [] rfl isAgg96 sizeOf96 (hS _ M1) rfl rfl rfl rfl) ?_
  refine ZT.s ?_
  refine OpZ.one rfl (Wn.no rfl) ?_
  refine WL.call Try.call50 rfl rfl (c_oText kd dm key data qa qn qc hq hdl _ (viewV (h_19.ok _ M2))) rfl ?_
  rintro _ w_23 ⟨a_21, cap_22, rfl, hc_24, ho_25⟩
  have h_26 := h_19.gotRow hc_24 ho_25
  refine WL.nil ?_
  refine ⟨(N1_2_3 h_26.ok), ?_⟩
  refine ZT.s ?_
  refine OpZ.one rfl (Wn.no rfl) ?_
  refine WL.call Try.call51 rfl rfl (c_Tag (some ⟨bq, 1, none⟩) 32 32 key hq.1 (by decide) (by decide) a_21 (34 + qn) cap_22 (cT (kd, key, dm, data)) (cT_len hq hdl) (h_26.own M0).2.2.1 (by omega) _ (viewB (h_26.ok _ M2) (Sg.t rfl Sg.h)) (ownView (h_26.ok _ M0))) rfl ?_
  rintro _ w_28 ⟨rfl, hc_27⟩
  have h_29 := h_26.same hc_27
  refine WL.nil ?_
  refine ⟨(N1_2_3 h_29.ok), ?_⟩
  refine ZT.s ?_
  refine OpZ.last rfl (Wn.no rfl) ?_
  refine WL.storeA [] [(32, (zB 32).map vu8)] [(32, (tagL key (cT (kd, key, dm, data))).map vu8)] [] h_29 rfl rfl sizeOf23 Y1 (by decide) rfl rfl rfl rfl rfl rfl (sC (s8 (tagL_len _ _)) sN) (fun w_30 h_31 => ?_)
  refine WL.nil (ZT.nil (thn_n (WP.ret ?_)))
  refine ret_of results48 (RV.cell rfl (h_31.loadA (cs := (tagL key (cT (kd, key, dm, data))).map vu8) isAgg23 sizeOf23 M1 rfl rfl) RV.nil) ?_
  exact ⟨by rw [cF, if_neg p_17]; rfl, h_31.chgS⟩

theorem c_ans_hit {w00 : World} {L : List Ent} (id : Bool) (ob mp : Nat) (ms df : List UInt8) (hms : ms.length = 32) (da : Option Addr) (dn dc u : Nat) (hdf : df.length = 32 * dn) (la : Option Addr) (lc : Nat) (lx : List Value) (lg : Lg) (hu : u ≤ 1000000) (hlg : lg.length ≤ 1000000) (kd dm : Int) (key data : List UInt8) (qa : Option Addr) (qn qc : Nat) (hq : okQ (kd, key, dm, data)) (hdl : data.length = qn) (cv : Value) (i : Nat) (hfd : fdq (kd, key, dm, data) lg 0 = some i) (w : World) (h_0 : HP w00 w (Ent.blk ob .nw 82 [(1, [(.bool id)]), (32, ms.map vu8), (1, [(.slice da dn dc)]), (1, [(vi ((u : Nat) : Int))]), (1, [(.map (some mp))]), (1, [(.slice la lg.length lc)])] :: Ent.row la lg.length lc 114 67 lx :: Ent.obj mp .nw (.map (mArr lg) lg.length) :: Ent.pin (sblks lx) (fun w => Lgs w lx lg) :: Ent.view da (df.map vu8) :: Ent.view qa (data.map vu8) :: L)) :
  Cs Try.prog 47 [(.pointer (some ⟨ob, 0, none⟩)), (.agg ⟨flat [(1, [(vi kd)]), (32, key.map vu8), (1, [(vi dm)]), (1, [(.slice qa qn qc)])]⟩), cv].toArray w (fun v w1 => ∃ la' lc' lx', v = (.agg ⟨(anD id df dn u lg (kd, key, dm, data)).map vu8⟩) ∧ HP w00 w1 (Ent.blk ob .nw 82 [(1, [(.bool id)]), (32, ms.map vu8), (1, [(.slice da dn dc)]), (1, [(vi (((anU id u lg (kd, key, dm, data)) : Nat) : Int))]), (1, [(.map (some mp))]), (1, [(.slice la' ((anL id df dn u lg (kd, key, dm, data)).length) lc')])] :: Ent.row la' ((anL id df dn u lg (kd, key, dm, data)).length) lc' 114 67 lx' :: Ent.obj mp .nw (.map (mArr (anL id df dn u lg (kd, key, dm, data))) ((anL id df dn u lg (kd, key, dm, data)).length)) :: Ent.pin (sblks lx') (fun w => Lgs w lx' (anL id df dn u lg (kd, key, dm, data))) :: Ent.view da (df.map vu8) :: Ent.view qa (data.map vu8) :: L)) := by
 have hlgs : Lgs w lx lg := (h_0.ok _ M3).1
 have hlo := hlgs.ok
 have hqn : data.length ≤ 1000000000 := hq.2.2.2
 have hil : i < lg.length := by have := fdq_lt hfd; omega
 refine Cs.of (n := 74) (args := [(pO ob 0), (.agg ⟨flat [(1, [(vi kd)]), (32, key.map vu8), (1, [(vi dm)]), (1, [(.slice qa qn qc)])]⟩), cv]) Try.func47 rfl rfl rfl ?_
 refine WP.seq (WP.reg ?_)
 refine WL.box (segs := [(1, [(vi kd)]), (32, key.map vu8), (1, [(vi dm)]), (1, [(.slice qa qn qc)])]) h_0 rfl rfl (sC sV (sC (s8 hq.1) (sC sV (sC sV sN)))) rfl (fun b_1 w_2 h_3 => ?_)
 refine WL.alloc (segs := [(32, (zB 32).map vu8)]) h_3 (zv typeInfo23 rfl) rfl (sC (s8 lr) sN) rfl (fun b_4 w_5 h_6 => ?_)
 refine WL.nil (thn_n (WP.seq (WP.reg ?_)))
 refine qV rfl (R.fieldAddr (off' := 0) rfl underlying96 rfl sizeOf94 rfl rfl) (qV rfl (R.load1 rfl isAgg94 (h_6.ok _ M1) Sg.h) (qV rfl (R.fieldAddr (off' := 1) rfl underlying96 rfl sizeOf23 rfl rfl) (qV rfl (R.loadA [(1, [(vi kd)])] [(32, key.map vu8)] [(1, [(vi dm)]), (1, [(.slice qa qn qc)])] (cs := key.map vu8) rfl isAgg23 sizeOf23 (h_6.ok _ M1) rfl rfl rfl rfl) (qV rfl (R.fieldAddr (off' := 33) rfl underlying96 rfl sizeOf75 rfl rfl) (qV rfl (R.load1 rfl isAgg75 (h_6.ok _ M1) (Sg.t rfl (Sg.t rfl Sg.h))) (qV rfl (R.fieldAddr (off' := 34) rfl underlying96 rfl sizeOf72 rfl rfl) (qV rfl (R.load1 rfl isAgg72 (h_6.ok _ M1) (Sg.t rfl (Sg.t rfl (Sg.t rfl Sg.h)))) (qV rfl (R.toStr (bs := data) rfl underlying72 underlying5 underlying9 (viewV (h_6.ok _ M7)) hdl) (qV rfl (R.buildS (pl := [(0, 1), (1, 32), (33, 1), (34, 1)]) (zs := [(1, [(vi 0)]), (32, (zB 32).map vu8), (1, [(vi 0)]), (1, [(.string (bstr ([] : List UInt8)))])]) (vs := [(0, (vi kd)), (1, (.agg ⟨key.map vu8⟩)), (2, (vi dm)), (3, (.string (bstr data)))]) (out := [(1, [(vi kd)]), (32, key.map vu8), (1, [(vi dm)]), (1, [(.string (bstr data))])]) underlying111 (zv typeInfo111 rfl) rfl (sC sV (sC (s8 lr) (sC sV (sC sV sN)))) (pl111 _ underlying111) rfl (FillR.cons [] [(1, [(vi 0)])] [(1, [(vi kd)])] [(32, (zB 32).map vu8), (1, [(vi 0)]), (1, [(.string (bstr ([] : List UInt8)))])] rfl rfl rfl rfl (sC sV sN) rfl rfl rfl (FillR.cons [(1, [(vi kd)])] [(32, (zB 32).map vu8)] [(32, key.map vu8)] [(1, [(vi 0)]), (1, [(.string (bstr ([] : List UInt8)))])] rfl rfl rfl rfl (sC (s8 hq.1) sN) rfl rfl rfl (FillR.cons [(1, [(vi kd)]), (32, key.map vu8)] [(1, [(vi 0)])] [(1, [(vi dm)])] [(1, [(.string (bstr ([] : List UInt8)))])] rfl rfl rfl rfl (sC sV sN) rfl rfl rfl (FillR.cons [(1, [(vi kd)]), (32, key.map vu8), (1, [(vi dm)])] [(1, [(.string (bstr ([] : List UInt8)))])] [(1, [(.string (bstr data))])] [] rfl rfl rfl rfl (sC sV sN) rfl rfl rfl FillR.nil)))) rfl) ?_)))))))))
 refine WL.alloc (segs := [(1, [(vi 0)]), (32, (zB 32).map vu8), (1, [(vi 0)]), (1, [(.string (bstr ([] : List UInt8)))])]) h_6 (zv typeInfo111 rfl) rfl (sC sV (sC (s8 lr) (sC sV (sC sV sN)))) rfl (fun b_8 w_9 h_10 => ?_)
 refine WL.storeA [] [(1, [(vi 0)]), (32, (zB 32).map vu8), (1, [(vi 0)]), (1, [(.string (bstr ([] : List UInt8)))])] [(1, [(vi kd)]), (32, key.map vu8), (1, [(vi dm)]), (1, [(.string (bstr data))])] [] h_10 rfl rfl sizeOf111 At.h (by decide) rfl rfl rfl rfl rfl rfl (sC sV (sC (s8 hq.1) (sC sV (sC sV sN)))) (fun w_11 h_12 => ?_)
 refine WL.nil (thn_n (WP.seq (WP.seq ?_)))
 refine WP.drawT (SL w00.heap.size [.blk b_8 .nw 111 [(1, [(vi kd)]), (32, key.map vu8), (1, [(vi dm)]), (1, [(.string (bstr data))])], .blk b_4 .nw 23 [(32, (zB 32).map vu8)], .blk b_1 .nw 96 [(1, [(vi kd)]), (32, key.map vu8), (1, [(vi dm)]), (1, [(.slice qa qn qc)])], .blk ob .nw 82 [(1, [(.bool id)]), (32, ms.map vu8), (1, [(.slice da dn dc)]), (1, [(vn u)]), (1, [(.map (some mp))]), (1, [(.slice la lg.length lc)])], .row la lg.length lc 114 67 lx, .obj mp .nw (.map (mArr lg) lg.length), .pin (sblks lx) (fun w => Lgs w lx lg), .view da (df.map vu8), .view qa (data.map vu8)]) (.q 0 (.q 1 (.q 2 (.q 3 (.q 4 (.s 5 (.q 6 (.q 7 (.q 8 (.q 9 (.q 10 .nil))))))))))) (by kernel_rfl) (by kernel_rfl) rfl (by kernel_rfl) (fun w_13 hc_15 => (SL.cons ((h_12.same hc_15).ok _ M0) (SL.cons ((h_12.same hc_15).ok _ M1) (SL.cons ((h_12.same hc_15).ok _ M2) (SL.cons ((h_12.same hc_15).ok _ M3) (SL.cons ((h_12.same hc_15).ok _ M4) (SL.cons ((h_12.same hc_15).ok _ M5) (SL.cons ((h_12.same hc_15).ok _ M6) (SL.cons ((h_12.same hc_15).ok _ M7) (SL.cons ((h_12.same hc_15).ok _ M8) (SL.nil _ _))))))))))) (fun w_13 hc_15 => ?_)
 have h_14 := h_12.same hc_15
 refine qT rfl rfl (fun wq hS => R.move (v := (pO ob 0)) rfl) ?_
 refine qT rfl rfl (fun wq hS => R.nilCheck rfl) ?_
 refine qT rfl rfl (fun wq hS => R.fieldAddr (off' := 35) rfl underlying82 rfl sizeOf80 rfl rfl) ?_
 refine qT rfl rfl (fun wq hS => R.load1 rfl isAgg80 (hS _ M3) (Sg.t rfl (Sg.t rfl (Sg.t rfl (Sg.t rfl Sg.h))))) ?_
 refine qT rfl rfl (fun wq hS => R.loadA [] [(1, [(vi kd)]), (32, key.map vu8), (1, [(vi dm)]), (1, [(.string (bstr data))])] [] rfl isAgg111 sizeOf111 (hS _ M0) rfl rfl rfl rfl) ?_
 refine WT.s (oN rfl ?_)
 refine qV rfl (R.lookup (r := some (i, vi (i : Int))) (z := (vi 0)) (v := (vn i)) (ok := true) rfl rfl underlying80 (h_14.ok _ M5) (Ck.agg kt111 (by decide) ag111 (typQ (kd, key, dm, data) hq)) (log_hit kt111 (by decide) ag111 typQ hq hlo hfd) (zv typeInfo3 rfl) rfl rfl) ?_
 refine WL.nil ?_
 refine ⟨(N0_1_2_3_4_5_6_7_8 h_14.ok), ?_⟩
 refine qT rfl rfl (fun wq hS => R.move (v := (.tuple [(vn i), (.bool true)].toArray)) rfl) ?_
 refine qT rfl rfl (fun wq hS => R.extract rfl rfl) ?_
 refine qT rfl rfl (fun wq hS => R.extract rfl rfl) ?_
 refine qT rfl rfl (fun wq hS => R.assign (v := (vn i)) rfl) ?_
 refine qT rfl rfl (fun wq hS => R.assign (v := (.bool true)) rfl) ?_
 refine WT.nil (thn_n (WP.seq (WP.reg ?_)))
 refine qM (.bool true) rfl rfl ?_
 refine WL.nil (thn_n ?_)
 refine WP.condT rfl ?_
 refine WP.seq (WP.reg ?_)
 refine qM (pO ob 0) rfl rfl (qV rfl (R.nilCheck rfl) (qV rfl (R.fieldAddr (off' := 36) rfl underlying82 rfl sizeOf59 rfl rfl) (qV rfl (R.load1 rfl isAgg59 (h_14.ok _ M3) (Sg.t rfl (Sg.t rfl (Sg.t rfl (Sg.t rfl (Sg.t rfl Sg.h)))))) (qM (vn i) rfl rfl (qV rfl (R.indexS (a := la) (i := i) (off := i * 67) (xs := lx) rfl rfl rfl (by omega) (ownView (h_14.ok _ M4)) (by rw [Lgs.len hlgs]; omega) underlying59 sizeOf114 rfl) (qV rfl (R.fieldG (a := la) (i := i * 67) (off' := i * 67 + 35) rfl underlying114 rfl sizeOf23 rfl rfl) (qV rfl (R.loadGA (a := la) (i := i * 67 + 35) (xs := lx) (cs := ((lg.getD i ((kd, key, dm, data), [])).2).map vu8) rfl (ownView (h_14.ok _ M4)) isAgg23 sizeOf23 (Lgs.ans (z := ((kd, key, dm, data), [])) hlgs (i := i) hil).1 (len_map (Lgs.ans (z := ((kd, key, dm, data), [])) hlgs (i := i) hil).2) (by decide)) ?_)))))))
 refine WL.storeA [] [(32, (zB 32).map vu8)] [(32, ((lg.getD i ((kd, key, dm, data), [])).2).map vu8)] [] h_14 rfl rfl sizeOf23 Y1 (by decide) rfl rfl rfl rfl rfl rfl (sC (s8 ((Lgs.ans (z := ((kd, key, dm, data), [])) hlgs (i := i) hil).2)) sN) (fun w_16 h_17 => ?_)
 refine WL.nil (thn_n (WP.ret (thn_r ?_)))
 refine ret_of results47 (RV.cell rfl (h_17.loadA (cs := ((lg.getD i ((kd, key, dm, data), [])).2).map vu8) isAgg23 sizeOf23 M1 rfl rfl) RV.nil) ?_
 have h_26 := ((((((((h_17.drop rfl).drop rfl).drop rfl).up J5).up J5).up J5).up J5).up J5).up J5
 exact ⟨la, lc, lx, by rw [anD_hit hfd]; rfl, by rw [anU_hit hfd, anL_hit hfd]; exact h_26⟩

theorem c_ans_missT {w00 : World} {L : List Ent} (ob mp : Nat) (ms df : List UInt8) (hms : ms.length = 32) (da : Option Addr) (dn dc u : Nat) (hdf : df.length = 32 * dn) (la : Option Addr) (lc : Nat) (lx : List Value) (lg : Lg) (hu : u ≤ 1000000) (hlg : lg.length ≤ 1000000) (kd dm : Int) (key data : List UInt8) (qa : Option Addr) (qn qc : Nat) (hq : okQ (kd, key, dm, data)) (hdl : data.length = qn) (cv : Value) (hfd : fdq (kd, key, dm, data) lg 0 = none) (w : World) (h_0 : HP w00 w (Ent.blk ob .nw 82 [(1, [(.bool true)]), (32, ms.map vu8), (1, [(.slice da dn dc)]), (1, [(vi ((u : Nat) : Int))]), (1, [(.map (some mp))]), (1, [(.slice la lg.length lc)])] :: Ent.row la lg.length lc 114 67 lx :: Ent.obj mp .nw (.map (mArr lg) lg.length) :: Ent.pin (sblks lx) (fun w => Lgs w lx lg) :: Ent.view da (df.map vu8) :: Ent.view qa (data.map vu8) :: L)) :
  Cs Try.prog 47 [(.pointer (some ⟨ob, 0, none⟩)), (.agg ⟨flat [(1, [(vi kd)]), (32, key.map vu8), (1, [(vi dm)]), (1, [(.slice qa qn qc)])]⟩), cv].toArray w (fun v w1 => ∃ la' lc' lx', v = (.agg ⟨(anD true df dn u lg (kd, key, dm, data)).map vu8⟩) ∧ HP w00 w1 (Ent.blk ob .nw 82 [(1, [(.bool true)]), (32, ms.map vu8), (1, [(.slice da dn dc)]), (1, [(vi (((anU true u lg (kd, key, dm, data)) : Nat) : Int))]), (1, [(.map (some mp))]), (1, [(.slice la' ((anL true df dn u lg (kd, key, dm, data)).length) lc')])] :: Ent.row la' ((anL true df dn u lg (kd, key, dm, data)).length) lc' 114 67 lx' :: Ent.obj mp .nw (.map (mArr (anL true df dn u lg (kd, key, dm, data))) ((anL true df dn u lg (kd, key, dm, data)).length)) :: Ent.pin (sblks lx') (fun w => Lgs w lx' (anL true df dn u lg (kd, key, dm, data))) :: Ent.view da (df.map vu8) :: Ent.view qa (data.map vu8) :: L)) := by
 have hlgs : Lgs w lx lg := (h_0.ok _ M3).1
 have hlo := hlgs.ok
 have hqn : data.length ≤ 1000000000 := hq.2.2.2
 refine Cs.of (n := 74) (args := [(pO ob 0), (.agg ⟨flat [(1, [(vi kd)]), (32, key.map vu8), (1, [(vi dm)]), (1, [(.slice qa qn qc)])]⟩), cv]) Try.func47 rfl rfl rfl ?_
 refine WP.seq (WP.reg ?_)
 refine WL.box (segs := [(1, [(vi kd)]), (32, key.map vu8), (1, [(vi dm)]), (1, [(.slice qa qn qc)])]) h_0 rfl rfl (sC sV (sC (s8 hq.1) (sC sV (sC sV sN)))) rfl (fun b_1 w_2 h_3 => ?_)
 refine WL.alloc (segs := [(32, (zB 32).map vu8)]) h_3 (zv typeInfo23 rfl) rfl (sC (s8 lr) sN) rfl (fun b_4 w_5 h_6 => ?_)
 refine WL.nil (thn_n (WP.seq (WP.reg ?_)))
 refine qV rfl (R.fieldAddr (off' := 0) rfl underlying96 rfl sizeOf94 rfl rfl) (qV rfl (R.load1 rfl isAgg94 (h_6.ok _ M1) Sg.h) (qV rfl (R.fieldAddr (off' := 1) rfl underlying96 rfl sizeOf23 rfl rfl) (qV rfl (R.loadA [(1, [(vi kd)])] [(32, key.map vu8)] [(1, [(vi dm)]), (1, [(.slice qa qn qc)])] (cs := key.map vu8) rfl isAgg23 sizeOf23 (h_6.ok _ M1) rfl rfl rfl rfl) (qV rfl (R.fieldAddr (off' := 33) rfl underlying96 rfl sizeOf75 rfl rfl) (qV rfl (R.load1 rfl isAgg75 (h_6.ok _ M1) (Sg.t rfl (Sg.t rfl Sg.h))) (qV rfl (R.fieldAddr (off' := 34) rfl underlying96 rfl sizeOf72 rfl rfl) (qV rfl (R.load1 rfl isAgg72 (h_6.ok _ M1) (Sg.t rfl (Sg.t rfl (Sg.t rfl Sg.h)))) (qV rfl (R.toStr (bs := data) rfl underlying72 underlying5 underlying9 (viewV (h_6.ok _ M7)) hdl) (qV rfl (R.buildS (pl := [(0, 1), (1, 32), (33, 1), (34, 1)]) (zs := [(1, [(vi 0)]), (32, (zB 32).map vu8), (1, [(vi 0)]), (1, [(.string (bstr ([] : List UInt8)))])]) (vs := [(0, (vi kd)), (1, (.agg ⟨key.map vu8⟩)), (2, (vi dm)), (3, (.string (bstr data)))]) (out := [(1, [(vi kd)]), (32, key.map vu8), (1, [(vi dm)]), (1, [(.string (bstr data))])]) underlying111 (zv typeInfo111 rfl) rfl (sC sV (sC (s8 lr) (sC sV (sC sV sN)))) (pl111 _ underlying111) rfl (FillR.cons [] [(1, [(vi 0)])] [(1, [(vi kd)])] [(32, (zB 32).map vu8), (1, [(vi 0)]), (1, [(.string (bstr ([] : List UInt8)))])] rfl rfl rfl rfl (sC sV sN) rfl rfl rfl (FillR.cons [(1, [(vi kd)])] [(32, (zB 32).map vu8)] [(32, key.map vu8)] [(1, [(vi 0)]), (1, [(.string (bstr ([] : List UInt8)))])] rfl rfl rfl rfl (sC (s8 hq.1) sN) rfl rfl rfl (FillR.cons [(1, [(vi kd)]), (32, key.map vu8)] [(1, [(vi 0)])] [(1, [(vi dm)])] [(1, [(.string (bstr ([] : List UInt8)))])] rfl rfl rfl rfl (sC sV sN) rfl rfl rfl (FillR.cons [(1, [(vi kd)]), (32, key.map vu8), (1, [(vi dm)])] [(1, [(.string (bstr ([] : List UInt8)))])] [(1, [(.string (bstr data))])] [] rfl rfl rfl rfl (sC sV sN) rfl rfl rfl FillR.nil)))) rfl) ?_)))))))))
 refine WL.alloc (segs := [(1, [(vi 0)]), (32, (zB 32).map vu8), (1, [(vi 0)]), (1, [(.string (bstr ([] : List UInt8)))])]) h_6 (zv typeInfo111 rfl) rfl (sC sV (sC (s8 lr) (sC sV (sC sV sN)))) rfl (fun b_8 w_9 h_10 => ?_)
 refine WL.storeA [] [(1, [(vi 0)]), (32, (zB 32).map vu8), (1, [(vi 0)]), (1, [(.string (bstr ([] : List UInt8)))])] [(1, [(vi kd)]), (32, key.map vu8), (1, [(vi dm)]), (1, [(.string (bstr data))])] [] h_10 rfl rfl sizeOf111 At.h (by decide) rfl rfl rfl rfl rfl rfl (sC sV (sC (s8 hq.1) (sC sV (sC sV sN)))) (fun w_11 h_12 => ?_)
 refine WL.nil (thn_n (WP.seq (WP.seq ?_)))
 refine WP.drawT (SL w00.heap.size [.blk b_8 .nw 111 [(1, [(vi kd)]), (32, key.map vu8), (1, [(vi dm)]), (1, [(.string (bstr data))])], .blk b_4 .nw 23 [(32, (zB 32).map vu8)], .blk b_1 .nw 96 [(1, [(vi kd)]), (32, key.map vu8), (1, [(vi dm)]), (1, [(.slice qa qn qc)])], .blk ob .nw 82 [(1, [(.bool true)]), (32, ms.map vu8), (1, [(.slice da dn dc)]), (1, [(vn u)]), (1, [(.map (some mp))]), (1, [(.slice la lg.length lc)])], .row la lg.length lc 114 67 lx, .obj mp .nw (.map (mArr lg) lg.length), .pin (sblks lx) (fun w => Lgs w lx lg), .view da (df.map vu8), .view qa (data.map vu8)]) (.q 0 (.q 1 (.q 2 (.q 3 (.q 4 (.s 5 (.q 6 (.q 7 (.q 8 (.q 9 (.q 10 .nil))))))))))) (by kernel_rfl) (by kernel_rfl) rfl (by kernel_rfl) (fun w_13 hc_15 => (SL.cons ((h_12.same hc_15).ok _ M0) (SL.cons ((h_12.same hc_15).ok _ M1) (SL.cons ((h_12.same hc_15).ok _ M2) (SL.cons ((h_12.same hc_15).ok _ M3) (SL.cons ((h_12.same hc_15).ok _ M4) (SL.cons ((h_12.same hc_15).ok _ M5) (SL.cons ((h_12.same hc_15).ok _ M6) (SL.cons ((h_12.same hc_15).ok _ M7) (SL.cons ((h_12.same hc_15).ok _ M8) (SL.nil _ _))))))))))) (fun w_13 hc_15 => ?_)
 have h_14 := h_12.same hc_15
 refine qT rfl rfl (fun wq hS => R.move (v := (pO ob 0)) rfl) ?_
 refine qT rfl rfl (fun wq hS => R.nilCheck rfl) ?_
 refine qT rfl rfl (fun wq hS => R.fieldAddr (off' := 35) rfl underlying82 rfl sizeOf80 rfl rfl) ?_
 refine qT rfl rfl (fun wq hS => R.load1 rfl isAgg80 (hS _ M3) (Sg.t rfl (Sg.t rfl (Sg.t rfl (Sg.t rfl Sg.h))))) ?_
 refine qT rfl rfl (fun wq hS => R.loadA [] [(1, [(vi kd)]), (32, key.map vu8), (1, [(vi dm)]), (1, [(.string (bstr data))])] [] rfl isAgg111 sizeOf111 (hS _ M0) rfl rfl rfl rfl) ?_
 refine WT.s (oN rfl ?_)
 refine qV rfl (R.lookup (r := none) (z := (vi 0)) (v := (vi 0)) (ok := false) rfl rfl underlying80 (h_14.ok _ M5) (Ck.agg kt111 (by decide) ag111 (typQ (kd, key, dm, data) hq)) (log_miss kt111 (by decide) ag111 typQ hq hlo hfd) (zv typeInfo3 rfl) rfl rfl) ?_
 refine WL.nil ?_
 refine ⟨(N0_1_2_3_4_5_6_7_8 h_14.ok), ?_⟩
 refine qT rfl rfl (fun wq hS => R.move (v := (.tuple [(vi 0), (.bool false)].toArray)) rfl) ?_
 refine qT rfl rfl (fun wq hS => R.extract rfl rfl) ?_
 refine qT rfl rfl (fun wq hS => R.extract rfl rfl) ?_
 refine qT rfl rfl (fun wq hS => R.assign (v := (vi 0)) rfl) ?_
 refine qT rfl rfl (fun wq hS => R.assign (v := (.bool false)) rfl) ?_
 refine WT.nil (thn_n (WP.seq (WP.reg ?_)))
 refine qM (.bool false) rfl rfl ?_
 refine WL.nil (thn_n ?_)
 refine WP.condF rfl ?_
 refine WP.skip (thn_n (WP.seq (WP.reg ?_)))
 refine WL.alloc (segs := [(32, (zB 32).map vu8)]) h_14 (zv typeInfo23 rfl) rfl (sC (s8 lr) sN) rfl (fun b_16 w_17 h_18 => ?_)
 refine WL.nil (thn_n (WP.seq (WP.seq (WP.reg ?_))))
 refine qM (pO ob 0) rfl rfl (qV rfl (R.nilCheck rfl) (qV rfl (R.fieldAddr (off' := 0) rfl underlying82 rfl sizeOf4 rfl rfl) (qV rfl (R.load1 rfl isAgg4 (h_18.ok _ M4) Sg.h) ?_)))
 refine WL.nil (thn_n ?_)
 refine WP.condT rfl ?_
 refine WP.reg ?_
 refine qM (pO ob 0) rfl rfl ?_
 have h_20 := (h_18.up J8).up J5
 refine WL.call Try.call54 rfl rfl (c_draw true ob mp ms df hms da dn dc u hdf la lc lx lg (by omega) (by omega) _ h_20) rfl ?_
 rintro _ w_21 ⟨rfl, h_22⟩
 refine WL.storeA [] [(32, (zB 32).map vu8)] [(32, (drawF df dn u).map vu8)] [] h_22 rfl rfl sizeOf23 Y2 (by decide) rfl rfl rfl rfl rfl rfl (sC (s8 (drawF_len hdf)) sN) (fun w_23 h_24 => ?_)
 refine WL.nil (thn_n (WP.seq (WP.reg ?_)))
 refine qV rfl (R.fieldAddr (off' := 34) rfl underlying96 rfl sizeOf72 rfl rfl) (qV rfl (R.load1 rfl isAgg72 (h_24.ok _ M5) (Sg.t rfl (Sg.t rfl (Sg.t rfl Sg.h)))) ?_)
 refine WL.call Try.call55 rfl rfl (c_Clone qa qn qc data hdl (by omega) _ (viewV (h_24.ok _ M9))) rfl ?_
 rintro _ w_27 ⟨a_25, cap_26, rfl, hc_28, ho_29⟩
 have h_30 := h_24.gotRow hc_28 ho_29
 refine qV rfl (R.fieldAddr (off' := 34) rfl underlying96 rfl sizeOf72 rfl rfl) ?_
 refine WL.store1 h_30 rfl rfl sizeOf72 rfl Y6 (by decide) (Sg.t rfl (Sg.t rfl (Sg.t rfl Sg.h))) (fun w_31 h_32 => ?_)
 refine WL.nil (thn_n (WP.seq ?_))
 refine WP.drawT (SL w00.heap.size [.row a_25 qn cap_26 5 1 (data.map vu8), .blk ob .nw 82 [(1, [(.bool true)]), (32, ms.map vu8), (1, [(.slice da dn dc)]), (1, [(vn ((u + 1)))]), (1, [(.map (some mp))]), (1, [(.slice la lg.length lc)])], .view da (df.map vu8), .blk b_16 .nw 23 [(32, (drawF df dn u).map vu8)], .blk b_8 .nw 111 [(1, [(vi kd)]), (32, key.map vu8), (1, [(vi dm)]), (1, [(.string (bstr data))])], .blk b_4 .nw 23 [(32, (zB 32).map vu8)], .blk b_1 .nw 96 [(1, [(vi kd)]), (32, key.map vu8), (1, [(vi dm)]), (1, [(.slice a_25 qn cap_26)])], .row la lg.length lc 114 67 lx, .pin (sblks lx) (fun w => Lgs w lx lg), .view qa (data.map vu8)]) (.q 0 (.q 1 (.q 2 (.q 3 (.q 4 (.q 5 (.q 6 (.q 7 (.q 8 (.q 9 (.s 10 .nil))))))))))) (by kernel_rfl) (by kernel_rfl) rfl (by kernel_rfl) (fun w_33 hc_35 => (SL.cons ((h_32.same hc_35).ok _ M0) (SL.cons ((h_32.same hc_35).ok _ M1) (SL.cons ((h_32.same hc_35).ok _ M2) (SL.cons ((h_32.same hc_35).ok _ M3) (SL.cons ((h_32.same hc_35).ok _ M4) (SL.cons ((h_32.same hc_35).ok _ M5) (SL.cons ((h_32.same hc_35).ok _ M6) (SL.cons ((h_32.same hc_35).ok _ M7) (SL.cons ((h_32.same hc_35).ok _ M9) (SL.cons ((h_32.same hc_35).ok _ M10) (SL.nil _ _)))))))))))) (fun w_33 hc_35 => ?_)
 have h_34 := h_32.same hc_35
 refine qT rfl rfl (fun wq hS => R.move (v := (pO ob 0)) rfl) ?_
 refine qT rfl rfl (fun wq hS => R.nilCheck rfl) ?_
 refine qT rfl rfl (fun wq hS => R.fieldAddr (off' := 35) rfl underlying82 rfl sizeOf80 rfl rfl) ?_
 refine qT rfl rfl (fun wq hS => R.load1 rfl isAgg80 (hS _ M1) (Sg.t rfl (Sg.t rfl (Sg.t rfl (Sg.t rfl Sg.h))))) ?_
 refine qT rfl rfl (fun wq hS => R.loadA [] [(1, [(vi kd)]), (32, key.map vu8), (1, [(vi dm)]), (1, [(.string (bstr data))])] [] rfl isAgg111 sizeOf111 (hS _ M4) rfl rfl rfl rfl) ?_
 refine qT rfl rfl (fun wq hS => R.move (v := (pO ob 0)) rfl) ?_
 refine qT rfl rfl (fun wq hS => R.nilCheck rfl) ?_
 refine qT rfl rfl (fun wq hS => R.fieldAddr (off' := 36) rfl underlying82 rfl sizeOf59 rfl rfl) ?_
 refine qT rfl rfl (fun wq hS => R.load1 rfl isAgg59 (hS _ M1) (Sg.t rfl (Sg.t rfl (Sg.t rfl (Sg.t rfl (Sg.t rfl Sg.h)))))) ?_
 refine qT rfl rfl (fun wq hS => R.lenS (a := la) (m := lg.length) rfl rfl underlying59) ?_
 refine WT.s (oN rfl ?_)
 refine WL.mapUpdate (k := (.agg ⟨flat [(1, [(vi kd)]), (32, key.map vu8), (1, [(vi dm)]), (1, [(.string (bstr data))])]⟩)) (v := (vn (lg.length))) h_34 rfl rfl rfl underlying80 Y8 (by decide) (Ck.agg kt111 (by decide) ag111 (typQ (kd, key, dm, data) hq)) (log_miss kt111 (by decide) ag111 typQ hq hlo hfd) (fun w_36 h_37 => ?_)
 refine WL.nil ?_
 refine ⟨(SL.cons (h_37.ok _ M0) (SL.cons (h_37.ok _ M1) (SL.cons (h_37.ok _ M2) (SL.cons (h_37.ok _ M3) (SL.cons (h_37.ok _ M4) (SL.cons (h_37.ok _ M5) (SL.cons (h_37.ok _ M6) (SL.cons (h_37.ok _ M7) (SL.cons (h_37.ok _ M9) (SL.cons (h_37.ok _ M10) (SL.nil _ _))))))))))), ?_⟩
 refine WT.nil (thn_n (WP.seq ?_))
 refine WP.cutG (G := Nat × Option Addr × Nat) [61, 62, 63, 64, 65, 66, 67, 68, 69, 70, 71, 72] (fun (bY11Y8Y0Y0, aY11Y9Y0Y0, cY11Y9Y0Y0) => [(61, (pO ob 0)), (62, (pO ob 0)), (63, (pO ob 0)), (64, (pO ob 36)), (66, (.agg ⟨flat [(1, [(vi kd)]), (32, key.map vu8), (1, [(vi dm)]), (1, [(.slice a_25 qn cap_26)])]⟩)), (67, (.agg ⟨(drawF df dn u).map vu8⟩)), (68, (.agg ⟨flat [(1, [(vi kd)]), (32, key.map vu8), (1, [(vi dm)]), (1, [(.slice a_25 qn cap_26)]), (32, (drawF df dn u).map vu8)]⟩)), (65, (.slice la lg.length lc)), (69, (.slice (some ⟨bY11Y8Y0Y0, 0, none⟩) 1 1)), (70, (.slice aY11Y9Y0Y0 (lg.length + 1) cY11Y9Y0Y0)), (71, (pO ob 0)), (72, (pO ob 36))]) (fun (bY11Y8Y0Y0, aY11Y9Y0Y0, cY11Y9Y0Y0) w1 => HP w00 w1 (Ent.blk bY11Y8Y0Y0 .nw 114 [(67, aC (kd, key, dm, data) (.slice a_25 qn cap_26) (drawF df dn u))] :: Ent.row a_25 qn cap_26 5 1 (data.map vu8) :: Ent.blk ob .nw 82 [(1, [(.bool true)]), (32, ms.map vu8), (1, [(.slice da dn dc)]), (1, [(vn ((u + 1)))]), (1, [(.map (some mp))]), (1, [(.slice aY11Y9Y0Y0 (lg.length + 1) cY11Y9Y0Y0)])] :: Ent.view da (df.map vu8) :: Ent.blk b_16 .nw 23 [(32, (drawF df dn u).map vu8)] :: Ent.blk b_8 .nw 111 [(1, [(vi kd)]), (32, key.map vu8), (1, [(vi dm)]), (1, [(.string (bstr data))])] :: Ent.blk b_4 .nw 23 [(32, (zB 32).map vu8)] :: Ent.blk b_1 .nw 96 [(1, [(vi kd)]), (32, key.map vu8), (1, [(vi dm)]), (1, [(.slice a_25 qn cap_26)])] :: Ent.row aY11Y9Y0Y0 (lg.length + 1) cY11Y9Y0Y0 114 67 (lx ++ aC (kd, key, dm, data) (.slice a_25 qn cap_26) (drawF df dn u)) :: Ent.obj mp .nw (.map ((mArr lg).push { key := (.agg ⟨flat [(1, [(vi kd)]), (32, key.map vu8), (1, [(vi dm)]), (1, [(.string (bstr data))])]⟩), val := (vn (lg.length)), born := lg.length }) (lg.length + 1)) :: Ent.pin (sblks lx) (fun w => Lgs w lx lg) :: Ent.view qa (data.map vu8) :: L)) ?_ ?_
 ·refine WP.drawT (SL w00.heap.size [.row a_25 qn cap_26 5 1 (data.map vu8), .view da (df.map vu8), .blk b_16 .nw 23 [(32, (drawF df dn u).map vu8)], .blk b_8 .nw 111 [(1, [(vi kd)]), (32, key.map vu8), (1, [(vi dm)]), (1, [(.string (bstr data))])], .blk b_4 .nw 23 [(32, (zB 32).map vu8)], .blk b_1 .nw 96 [(1, [(vi kd)]), (32, key.map vu8), (1, [(vi dm)]), (1, [(.slice a_25 qn cap_26)])], .obj mp .nw (.map ((mArr lg).push { key := (.agg ⟨flat [(1, [(vi kd)]), (32, key.map vu8), (1, [(vi dm)]), (1, [(.string (bstr data))])]⟩), val := (vn (lg.length)), born := lg.length }) (lg.length + 1)), .pin (sblks lx) (fun w => Lgs w lx lg), .view qa (data.map vu8)]) (.q 0 (.q 1 (.q 2 (.q 3 (.q 5 (.q 6 (.q 7 (.s2 4 8 (.s 8 (.s 9 (.q 10 (.q 11 (.s 12 .nil))))) (.s 4 (.s 9 (.q 10 (.q 11 (.s 12 .nil))))))))))))) (by kernel_rfl) (by kernel_rfl) rfl (by kernel_rfl) (fun w_38 hc_40 => (SL.cons ((h_37.same hc_40).ok _ M0) (SL.cons ((h_37.same hc_40).ok _ M2) (SL.cons ((h_37.same hc_40).ok _ M3) (SL.cons ((h_37.same hc_40).ok _ M4) (SL.cons ((h_37.same hc_40).ok _ M5) (SL.cons ((h_37.same hc_40).ok _ M6) (SL.cons ((h_37.same hc_40).ok _ M8) (SL.cons ((h_37.same hc_40).ok _ M9) (SL.cons ((h_37.same hc_40).ok _ M10) (SL.nil _ _))))))))))) (fun w_38 hc_40 => ?_)
  have h_39 := h_37.same hc_40
  refine qT rfl rfl (fun wq hS => R.move (v := (pO ob 0)) rfl) ?_
  refine qT rfl rfl (fun wq hS => R.move (v := (pO ob 0)) rfl) ?_
  refine qT rfl rfl (fun wq hS => R.nilCheck rfl) ?_
  refine qT rfl rfl (fun wq hS => R.fieldAddr (off' := 36) rfl underlying82 rfl sizeOf59 rfl rfl) ?_
  refine qT rfl rfl (fun wq hS => R.loadA [] [(1, [(vi kd)]), (32, key.map vu8), (1, [(vi dm)]), (1, [(.slice a_25 qn cap_26)])] [] rfl isAgg96 sizeOf96 (hS _ M5) rfl rfl rfl rfl) ?_
  refine qT rfl rfl (fun wq hS => R.loadA [] [(32, (drawF df dn u).map vu8)] [] (cs := (drawF df dn u).map vu8) rfl isAgg23 sizeOf23 (hS _ M2) rfl rfl rfl rfl) ?_
  refine qT rfl rfl (fun wq hS => R.buildS (pl := [(0, 35), (35, 32)]) (zs := [(1, [(vi 0)]), (32, (zB 32).map vu8), (1, [(vi 0)]), (1, [(.slice none 0 0)]), (32, (zB 32).map vu8)]) (vs := [(0, (.agg ⟨flat [(1, [(vi kd)]), (32, key.map vu8), (1, [(vi dm)]), (1, [(.slice a_25 qn cap_26)])]⟩)), (1, (.agg ⟨(drawF df dn u).map vu8⟩))]) (out := [(1, [(vi kd)]), (32, key.map vu8), (1, [(vi dm)]), (1, [(.slice a_25 qn cap_26)]), (32, (drawF df dn u).map vu8)]) underlying114 (zv typeInfo114 rfl) rfl (sC sV (sC (s8 lr) (sC sV (sC sV (sC (s8 lr) sN))))) (pl114 _ underlying114) rfl (FillR.cons [] [(1, [(vi 0)]), (32, (zB 32).map vu8), (1, [(vi 0)]), (1, [(.slice none 0 0)])] [(1, [(vi kd)]), (32, key.map vu8), (1, [(vi dm)]), (1, [(.slice a_25 qn cap_26)])] [(32, (zB 32).map vu8)] rfl rfl rfl rfl (sC sV (sC (s8 hq.1) (sC sV (sC sV sN)))) rfl rfl rfl (FillR.cons [(1, [(vi kd)]), (32, key.map vu8), (1, [(vi dm)]), (1, [(.slice a_25 qn cap_26)])] [(32, (zB 32).map vu8)] [(32, (drawF df dn u).map vu8)] [] rfl rfl rfl rfl (sC (s8 (drawF_len hdf)) sN) rfl rfl rfl FillR.nil)) rfl) ?_
  refine WT.s2 ?_ ?_
  ·refine oN rfl ?_
   refine qV rfl (R.load1 rfl isAgg59 (h_39.ok _ M1) (Sg.t rfl (Sg.t rfl (Sg.t rfl (Sg.t rfl (Sg.t rfl Sg.h)))))) ?_
   refine WL.nil ?_
   refine ⟨(SL.cons (h_39.ok _ M0) (SL.cons (h_39.ok _ M2) (SL.cons (h_39.ok _ M3) (SL.cons (h_39.ok _ M4) (SL.cons (h_39.ok _ M5) (SL.cons (h_39.ok _ M6) (SL.cons (h_39.ok _ M8) (SL.cons (h_39.ok _ M9) (SL.cons (h_39.ok _ M10) (SL.nil _ _)))))))))), ?_⟩
   refine WT.s (oN rfl ?_)
   refine WL.buildSl (vs := [(0, (.agg ⟨flat [(1, [(vi kd)]), (32, key.map vu8), (1, [(vi dm)]), (1, [(.slice a_25 qn cap_26)]), (32, (drawF df dn u).map vu8)]⟩))]) (cs := aC (kd, key, dm, data) (.slice a_25 qn cap_26) (drawF df dn u)) h_39 underlying59 sizeOf114 (zv typeInfo114 rfl) rfl rfl (fill_1 (zc := flat [(1, [vi 0]), (32, List.replicate 32 (vu8 0)), (1, [vi 0]), (1, [.slice none 0 0]), (32, List.replicate 32 (vu8 0))]) (by kernel_rfl) (sC (s := (67, flat [(1, [vi 0]), (32, List.replicate 32 (vu8 0)), (1, [vi 0]), (1, [.slice none 0 0]), (32, List.replicate 32 (vu8 0))])) ⟨by decide, SsOk.one (sC sV (sC (SOk.rep rfl) (sC sV (sC sV (sC (SOk.rep rfl) sN)))))⟩ sN) (aC_ok (q := (kd, key, dm, data)) (s := (.slice a_25 qn cap_26)) (d := drawF df dn u) hq.1 (drawF_len hdf) rfl)) ((aC_ok (q := (kd, key, dm, data)) (s := (.slice a_25 qn cap_26)) (d := drawF df dn u) hq.1 (drawF_len hdf) rfl)).head.len ((aC_ok (q := (kd, key, dm, data)) (s := (.slice a_25 qn cap_26)) (d := drawF df dn u) hq.1 (drawF_len hdf) rfl)).head.one rfl rfl (fun b_42 w_43 h_44 => ?_)
   refine WL.nil ?_
   refine ⟨(N1_3_4_5_6_7_9_10_11 h_44.ok), ?_⟩
   refine WT.s (oN rfl ?_)
   refine WL.append (km := lg.length + 1) (xs := lx) (ys := aC (kd, key, dm, data) (.slice a_25 qn cap_26) (drawF df dn u)) (zs := lx ++ aC (kd, key, dm, data) (.slice a_25 qn cap_26) (drawF df dn u)) h_44 rfl rfl el59 (viewB (h_44.ok _ M0) Sg.h) ((aC_ok (q := (kd, key, dm, data)) (s := (.slice a_25 qn cap_26)) (d := drawF df dn u) hq.1 (drawF_len hdf) rfl)).head.len ((aC_ok (q := (kd, key, dm, data)) (s := (.slice a_25 qn cap_26)) (d := drawF df dn u) hq.1 (drawF_len hdf) rfl)).head.one rfl (by omega) (by omega) (by omega) (fun _ _ => Y8) rfl (fun a_45 c_46 w_47 h_48 => ?_)
   refine WL.nil ?_
   refine ⟨(N1_3_4_5_6_7_9_10_11 h_48.ok), ?_⟩
   refine qT rfl rfl (fun wq hS => R.nilCheck rfl) ?_
   refine qT rfl rfl (fun wq hS => R.fieldAddr (off' := 36) rfl underlying82 rfl sizeOf59 rfl rfl) ?_
   refine WT.s (oN rfl ?_)
   refine WL.store1 h_48 rfl rfl sizeOf59 rfl Y2 (by decide) (Sg.t rfl (Sg.t rfl (Sg.t rfl (Sg.t rfl (Sg.t rfl Sg.h))))) (fun w_49 h_50 => ?_)
   refine WL.nil ?_
   refine ⟨(N1_3_4_5_6_7_9_10_11 h_50.ok), ?_⟩
   refine WT.nil (thn_n ?_)
   exact ⟨(b_42, a_45, c_46), (U4 rfl rfl rfl rfl (U4 rfl rfl rfl rfl (U4 rfl rfl rfl rfl (Ag.refl _ _)))), ⟨rfl, rfl, rfl, rfl, rfl, rfl, rfl, rfl, rfl, rfl, rfl, rfl, trivial⟩, h_50⟩
  ·refine oN rfl ?_
   refine WL.buildSl (vs := [(0, (.agg ⟨flat [(1, [(vi kd)]), (32, key.map vu8), (1, [(vi dm)]), (1, [(.slice a_25 qn cap_26)]), (32, (drawF df dn u).map vu8)]⟩))]) (cs := aC (kd, key, dm, data) (.slice a_25 qn cap_26) (drawF df dn u)) h_39 underlying59 sizeOf114 (zv typeInfo114 rfl) rfl rfl (fill_1 (zc := flat [(1, [vi 0]), (32, List.replicate 32 (vu8 0)), (1, [vi 0]), (1, [.slice none 0 0]), (32, List.replicate 32 (vu8 0))]) (by kernel_rfl) (sC (s := (67, flat [(1, [vi 0]), (32, List.replicate 32 (vu8 0)), (1, [vi 0]), (1, [.slice none 0 0]), (32, List.replicate 32 (vu8 0))])) ⟨by decide, SsOk.one (sC sV (sC (SOk.rep rfl) (sC sV (sC sV (sC (SOk.rep rfl) sN)))))⟩ sN) (aC_ok (q := (kd, key, dm, data)) (s := (.slice a_25 qn cap_26)) (d := drawF df dn u) hq.1 (drawF_len hdf) rfl)) ((aC_ok (q := (kd, key, dm, data)) (s := (.slice a_25 qn cap_26)) (d := drawF df dn u) hq.1 (drawF_len hdf) rfl)).head.len ((aC_ok (q := (kd, key, dm, data)) (s := (.slice a_25 qn cap_26)) (d := drawF df dn u) hq.1 (drawF_len hdf) rfl)).head.one rfl rfl (fun b_51 w_52 h_53 => ?_)
   refine WL.nil ?_
   refine ⟨(N1_3_4_5_6_7_9_10_11 h_53.ok), ?_⟩
   refine WT.s (oN rfl ?_)
   refine qV rfl (R.load1 rfl isAgg59 (h_53.ok _ M2) (Sg.t rfl (Sg.t rfl (Sg.t rfl (Sg.t rfl (Sg.t rfl Sg.h)))))) ?_
   refine WL.nil ?_
   refine ⟨(N1_3_4_5_6_7_9_10_11 h_53.ok), ?_⟩
   refine WT.s (oN rfl ?_)
   refine WL.append (km := lg.length + 1) (xs := lx) (ys := aC (kd, key, dm, data) (.slice a_25 qn cap_26) (drawF df dn u)) (zs := lx ++ aC (kd, key, dm, data) (.slice a_25 qn cap_26) (drawF df dn u)) h_53 rfl rfl el59 (viewB (h_53.ok _ M0) Sg.h) ((aC_ok (q := (kd, key, dm, data)) (s := (.slice a_25 qn cap_26)) (d := drawF df dn u) hq.1 (drawF_len hdf) rfl)).head.len ((aC_ok (q := (kd, key, dm, data)) (s := (.slice a_25 qn cap_26)) (d := drawF df dn u) hq.1 (drawF_len hdf) rfl)).head.one rfl (by omega) (by omega) (by omega) (fun _ _ => Y8) rfl (fun a_54 c_55 w_56 h_57 => ?_)
   refine WL.nil ?_
   refine ⟨(N1_3_4_5_6_7_9_10_11 h_57.ok), ?_⟩
   refine qT rfl rfl (fun wq hS => R.nilCheck rfl) ?_
   refine qT rfl rfl (fun wq hS => R.fieldAddr (off' := 36) rfl underlying82 rfl sizeOf59 rfl rfl) ?_
   refine WT.s (oN rfl ?_)
   refine WL.store1 h_57 rfl rfl sizeOf59 rfl Y2 (by decide) (Sg.t rfl (Sg.t rfl (Sg.t rfl (Sg.t rfl (Sg.t rfl Sg.h))))) (fun w_58 h_59 => ?_)
   refine WL.nil ?_
   refine ⟨(N1_3_4_5_6_7_9_10_11 h_59.ok), ?_⟩
   refine WT.nil (thn_n ?_)
   exact ⟨(b_51, a_54, c_55), (U4 rfl rfl rfl rfl (U4 rfl rfl rfl rfl (U4 rfl rfl rfl rfl (Ag.refl _ _)))), ⟨rfl, rfl, rfl, rfl, rfl, rfl, rfl, rfl, rfl, rfl, rfl, rfl, trivial⟩, h_59⟩
 ·rintro ⟨b_63, a_64, c_65⟩ J_60 w_61 h_62
  refine thn_n (WP.seq (WP.reg ?_))
  refine qV rfl (R.loadA [] [(32, (drawF df dn u).map vu8)] [] (cs := (drawF df dn u).map vu8) rfl isAgg23 sizeOf23 (h_62.ok _ M4) rfl rfl rfl rfl) ?_
  refine WL.storeA [] [(32, (zB 32).map vu8)] [(32, (drawF df dn u).map vu8)] [] h_62 rfl rfl sizeOf23 Y6 (by decide) rfl rfl rfl rfl rfl rfl (sC (s8 (drawF_len hdf)) sN) (fun w_66 h_67 => ?_)
  refine WL.nil (thn_n (WP.ret ?_))
  refine ret_of results47 (RV.cell rfl (h_67.loadA (cs := (drawF df dn u).map vu8) isAgg23 sizeOf23 M6 rfl rfl) RV.nil) ?_
  have h_83 := (((((((((((((((h_67.drop rfl).up J3).drop rfl).up J3).drop rfl).up J3).drop rfl).up J3).drop rfl).up J6).up J3).up J5).up J5).up J5).up J6).up J6
  have h_84 := HP_logPush (q := (kd, key, dm, data)) (d := drawF df dn u) h_83 hq (drawF_len hdf) hdl
  have h_95 := (((((((((h_84.up J1).drop rfl).up J1).drop rfl).up J5).up J5).up J2).up J5).up J5).up J5
  have hse : lg.length + 1 = (lg ++ [((kd, key, dm, data), drawF df dn u)]).length := snoc_len.symm
  have hme := mArr_push lg (kd, key, dm, data) (drawF df dn u)
  have h_85 := h_95
  rw [hse] at h_85
  exact ⟨_, _, _, by rw [anD_miss hfd]; rfl, by rw [anU_miss hfd, anL_miss hfd]; show HP _ _ (_ :: _ :: .obj _ _ (.map (mArr (lg ++ [((kd, key, dm, data), drawF df dn u)])) _) :: _); rw [hme]; exact h_85⟩

theorem c_ans_missF {w00 : World} {L : List Ent} (ob mp : Nat) (ms df : List UInt8) (hms : ms.length = 32) (da : Option Addr) (dn dc u : Nat) (hdf : df.length = 32 * dn) (la : Option Addr) (lc : Nat) (lx : List Value) (lg : Lg) (hu : u ≤ 1000000) (hlg : lg.length ≤ 1000000) (kd dm : Int) (key data : List UInt8) (qa : Option Addr) (qn qc : Nat) (hq : okQ (kd, key, dm, data)) (hdl : data.length = qn) (bq : Nat) (hfd : fdq (kd, key, dm, data) lg 0 = none) (w : World) (h_0 : HP w00 w (Ent.blk ob .nw 82 [(1, [(.bool false)]), (32, ms.map vu8), (1, [(.slice da dn dc)]), (1, [(vi ((u : Nat) : Int))]), (1, [(.map (some mp))]), (1, [(.slice la lg.length lc)])] :: Ent.row la lg.length lc 114 67 lx :: Ent.obj mp .nw (.map (mArr lg) lg.length) :: Ent.pin (sblks lx) (fun w => Lgs w lx lg) :: Ent.view da (df.map vu8) :: Ent.view qa (data.map vu8) :: Ent.blk bq .nw 96 [(1, [(vi kd)]), (32, key.map vu8), (1, [(vi dm)]), (1, [(.slice qa qn qc)])] :: L)) :
  Cs Try.prog 47 [(.pointer (some ⟨ob, 0, none⟩)), (.agg ⟨flat [(1, [(vi kd)]), (32, key.map vu8), (1, [(vi dm)]), (1, [(.slice qa qn qc)])]⟩), (Value.func (Fn.func 48) [].toArray [(Value.pointer (some ⟨bq, 0, none⟩))].toArray)].toArray w (fun v w1 => ∃ la' lc' lx', v = (.agg ⟨(anD false df dn u lg (kd, key, dm, data)).map vu8⟩) ∧ HP w00 w1 (Ent.blk ob .nw 82 [(1, [(.bool false)]), (32, ms.map vu8), (1, [(.slice da dn dc)]), (1, [(vi (((anU false u lg (kd, key, dm, data)) : Nat) : Int))]), (1, [(.map (some mp))]), (1, [(.slice la' ((anL false df dn u lg (kd, key, dm, data)).length) lc')])] :: Ent.row la' ((anL false df dn u lg (kd, key, dm, data)).length) lc' 114 67 lx' :: Ent.obj mp .nw (.map (mArr (anL false df dn u lg (kd, key, dm, data))) ((anL false df dn u lg (kd, key, dm, data)).length)) :: Ent.pin (sblks lx') (fun w => Lgs w lx' (anL false df dn u lg (kd, key, dm, data))) :: Ent.view da (df.map vu8) :: Ent.view qa (data.map vu8) :: Ent.blk bq .nw 96 [(1, [(vi kd)]), (32, key.map vu8), (1, [(vi dm)]), (1, [(.slice qa qn qc)])] :: L)) := by
 have hlgs : Lgs w lx lg := (h_0.ok _ M3).1
 have hlo := hlgs.ok
 have hqn : data.length ≤ 1000000000 := hq.2.2.2
 refine Cs.of (n := 74) (args := [(pO ob 0), (.agg ⟨flat [(1, [(vi kd)]), (32, key.map vu8), (1, [(vi dm)]), (1, [(.slice qa qn qc)])]⟩), (Value.func (Fn.func 48) [].toArray [(Value.pointer (some ⟨bq, 0, none⟩))].toArray)]) Try.func47 rfl rfl rfl ?_
 refine WP.seq (WP.reg ?_)
 refine WL.box (segs := [(1, [(vi kd)]), (32, key.map vu8), (1, [(vi dm)]), (1, [(.slice qa qn qc)])]) h_0 rfl rfl (sC sV (sC (s8 hq.1) (sC sV (sC sV sN)))) rfl (fun b_1 w_2 h_3 => ?_)
 refine WL.alloc (segs := [(32, (zB 32).map vu8)]) h_3 (zv typeInfo23 rfl) rfl (sC (s8 lr) sN) rfl (fun b_4 w_5 h_6 => ?_)
 refine WL.nil (thn_n (WP.seq (WP.reg ?_)))
 refine qV rfl (R.fieldAddr (off' := 0) rfl underlying96 rfl sizeOf94 rfl rfl) (qV rfl (R.load1 rfl isAgg94 (h_6.ok _ M1) Sg.h) (qV rfl (R.fieldAddr (off' := 1) rfl underlying96 rfl sizeOf23 rfl rfl) (qV rfl (R.loadA [(1, [(vi kd)])] [(32, key.map vu8)] [(1, [(vi dm)]), (1, [(.slice qa qn qc)])] (cs := key.map vu8) rfl isAgg23 sizeOf23 (h_6.ok _ M1) rfl rfl rfl rfl) (qV rfl (R.fieldAddr (off' := 33) rfl underlying96 rfl sizeOf75 rfl rfl) (qV rfl (R.load1 rfl isAgg75 (h_6.ok _ M1) (Sg.t rfl (Sg.t rfl Sg.h))) (qV rfl (R.fieldAddr (off' := 34) rfl underlying96 rfl sizeOf72 rfl rfl) (qV rfl (R.load1 rfl isAgg72 (h_6.ok _ M1) (Sg.t rfl (Sg.t rfl (Sg.t rfl Sg.h)))) (qV rfl (R.toStr (bs := data) rfl underlying72 underlying5 underlying9 (viewV (h_6.ok _ M7)) hdl) (qV rfl (R.buildS (pl := [(0, 1), (1, 32), (33, 1), (34, 1)]) (zs := [(1, [(vi 0)]), (32, (zB 32).map vu8), (1, [(vi 0)]), (1, [(.string (bstr ([] : List UInt8)))])]) (vs := [(0, (vi kd)), (1, (.agg ⟨key.map vu8⟩)), (2, (vi dm)), (3, (.string (bstr data)))]) (out := [(1, [(vi kd)]), (32, key.map vu8), (1, [(vi dm)]), (1, [(.string (bstr data))])]) underlying111 (zv typeInfo111 rfl) rfl (sC sV (sC (s8 lr) (sC sV (sC sV sN)))) (pl111 _ underlying111) rfl (FillR.cons [] [(1, [(vi 0)])] [(1, [(vi kd)])] [(32, (zB 32).map vu8), (1, [(vi 0)]), (1, [(.string (bstr ([] : List UInt8)))])] rfl rfl rfl rfl (sC sV sN) rfl rfl rfl (FillR.cons [(1, [(vi kd)])] [(32, (zB 32).map vu8)] [(32, key.map vu8)] [(1, [(vi 0)]), (1, [(.string (bstr ([] : List UInt8)))])] rfl rfl rfl rfl (sC (s8 hq.1) sN) rfl rfl rfl (FillR.cons [(1, [(vi kd)]), (32, key.map vu8)] [(1, [(vi 0)])] [(1, [(vi dm)])] [(1, [(.string (bstr ([] : List UInt8)))])] rfl rfl rfl rfl (sC sV sN) rfl rfl rfl (FillR.cons [(1, [(vi kd)]), (32, key.map vu8), (1, [(vi dm)])] [(1, [(.string (bstr ([] : List UInt8)))])] [(1, [(.string (bstr data))])] [] rfl rfl rfl rfl (sC sV sN) rfl rfl rfl FillR.nil)))) rfl) ?_)))))))))
 refine WL.alloc (segs := [(1, [(vi 0)]), (32, (zB 32).map vu8), (1, [(vi 0)]), (1, [(.string (bstr ([] : List UInt8)))])]) h_6 (zv typeInfo111 rfl) rfl (sC sV (sC (s8 lr) (sC sV (sC sV sN)))) rfl (fun b_8 w_9 h_10 => ?_)
 refine WL.storeA [] [(1, [(vi 0)]), (32, (zB 32).map vu8), (1, [(vi 0)]), (1, [(.string (bstr ([] : List UInt8)))])] [(1, [(vi kd)]), (32, key.map vu8), (1, [(vi dm)]), (1, [(.string (bstr data))])] [] h_10 rfl rfl sizeOf111 At.h (by decide) rfl rfl rfl rfl rfl rfl (sC sV (sC (s8 hq.1) (sC sV (sC sV sN)))) (fun w_11 h_12 => ?_)
 refine WL.nil (thn_n (WP.seq (WP.seq ?_)))
 refine WP.drawT (SL w00.heap.size [.blk b_8 .nw 111 [(1, [(vi kd)]), (32, key.map vu8), (1, [(vi dm)]), (1, [(.string (bstr data))])], .blk b_4 .nw 23 [(32, (zB 32).map vu8)], .blk b_1 .nw 96 [(1, [(vi kd)]), (32, key.map vu8), (1, [(vi dm)]), (1, [(.slice qa qn qc)])], .blk ob .nw 82 [(1, [(.bool false)]), (32, ms.map vu8), (1, [(.slice da dn dc)]), (1, [(vn u)]), (1, [(.map (some mp))]), (1, [(.slice la lg.length lc)])], .row la lg.length lc 114 67 lx, .obj mp .nw (.map (mArr lg) lg.length), .pin (sblks lx) (fun w => Lgs w lx lg), .view da (df.map vu8), .view qa (data.map vu8), .blk bq .nw 96 [(1, [(vi kd)]), (32, key.map vu8), (1, [(vi dm)]), (1, [(.slice qa qn qc)])]]) (.q 0 (.q 1 (.q 2 (.q 3 (.q 4 (.s 5 (.q 6 (.q 7 (.q 8 (.q 9 (.q 10 .nil))))))))))) (by kernel_rfl) (by kernel_rfl) rfl (by kernel_rfl) (fun w_13 hc_15 => (SL.cons ((h_12.same hc_15).ok _ M0) (SL.cons ((h_12.same hc_15).ok _ M1) (SL.cons ((h_12.same hc_15).ok _ M2) (SL.cons ((h_12.same hc_15).ok _ M3) (SL.cons ((h_12.same hc_15).ok _ M4) (SL.cons ((h_12.same hc_15).ok _ M5) (SL.cons ((h_12.same hc_15).ok _ M6) (SL.cons ((h_12.same hc_15).ok _ M7) (SL.cons ((h_12.same hc_15).ok _ M8) (SL.cons ((h_12.same hc_15).ok _ M9) (SL.nil _ _)))))))))))) (fun w_13 hc_15 => ?_)
 have h_14 := h_12.same hc_15
 refine qT rfl rfl (fun wq hS => R.move (v := (pO ob 0)) rfl) ?_
 refine qT rfl rfl (fun wq hS => R.nilCheck rfl) ?_
 refine qT rfl rfl (fun wq hS => R.fieldAddr (off' := 35) rfl underlying82 rfl sizeOf80 rfl rfl) ?_
 refine qT rfl rfl (fun wq hS => R.load1 rfl isAgg80 (hS _ M3) (Sg.t rfl (Sg.t rfl (Sg.t rfl (Sg.t rfl Sg.h))))) ?_
 refine qT rfl rfl (fun wq hS => R.loadA [] [(1, [(vi kd)]), (32, key.map vu8), (1, [(vi dm)]), (1, [(.string (bstr data))])] [] rfl isAgg111 sizeOf111 (hS _ M0) rfl rfl rfl rfl) ?_
 refine WT.s (oN rfl ?_)
 refine qV rfl (R.lookup (r := none) (z := (vi 0)) (v := (vi 0)) (ok := false) rfl rfl underlying80 (h_14.ok _ M5) (Ck.agg kt111 (by decide) ag111 (typQ (kd, key, dm, data) hq)) (log_miss kt111 (by decide) ag111 typQ hq hlo hfd) (zv typeInfo3 rfl) rfl rfl) ?_
 refine WL.nil ?_
 refine ⟨(N0_1_2_3_4_5_6_7_8_9 h_14.ok), ?_⟩
 refine qT rfl rfl (fun wq hS => R.move (v := (.tuple [(vi 0), (.bool false)].toArray)) rfl) ?_
 refine qT rfl rfl (fun wq hS => R.extract rfl rfl) ?_
 refine qT rfl rfl (fun wq hS => R.extract rfl rfl) ?_
 refine qT rfl rfl (fun wq hS => R.assign (v := (vi 0)) rfl) ?_
 refine qT rfl rfl (fun wq hS => R.assign (v := (.bool false)) rfl) ?_
 refine WT.nil (thn_n (WP.seq (WP.reg ?_)))
 refine qM (.bool false) rfl rfl ?_
 refine WL.nil (thn_n ?_)
 refine WP.condF rfl ?_
 refine WP.skip (thn_n (WP.seq (WP.reg ?_)))
 refine WL.alloc (segs := [(32, (zB 32).map vu8)]) h_14 (zv typeInfo23 rfl) rfl (sC (s8 lr) sN) rfl (fun b_16 w_17 h_18 => ?_)
 refine WL.nil (thn_n (WP.seq (WP.seq (WP.reg ?_))))
 refine qM (pO ob 0) rfl rfl (qV rfl (R.nilCheck rfl) (qV rfl (R.fieldAddr (off' := 0) rfl underlying82 rfl sizeOf4 rfl rfl) (qV rfl (R.load1 rfl isAgg4 (h_18.ok _ M4) Sg.h) ?_)))
 refine WL.nil (thn_n ?_)
 refine WP.condF rfl ?_
 refine WP.reg ?_
 refine qM (Value.func (Fn.func 48) [].toArray [(Value.pointer (some ⟨bq, 0, none⟩))].toArray) rfl rfl ?_
 refine WL.call Try.call48 rfl rfl (c_oCl kd dm key data qa qn qc hq hdl bq _ (viewV (h_18.ok _ M9)) (h_18.argR M10)) rfl ?_
 rintro _ w_20 ⟨rfl, hc_19⟩
 have h_21 := h_18.same hc_19
 refine WL.storeA [] [(32, (zB 32).map vu8)] [(32, (cF (kd, key, dm, data)).map vu8)] [] h_21 rfl rfl sizeOf23 At.h (by decide) rfl rfl rfl rfl rfl rfl (sC (s8 (cF_len _)) sN) (fun w_22 h_23 => ?_)
 refine WL.nil (thn_n (WP.seq (WP.reg ?_)))
 refine qV rfl (R.fieldAddr (off' := 34) rfl underlying96 rfl sizeOf72 rfl rfl) (qV rfl (R.load1 rfl isAgg72 (h_23.ok _ M3) (Sg.t rfl (Sg.t rfl (Sg.t rfl Sg.h)))) ?_)
 refine WL.call Try.call55 rfl rfl (c_Clone qa qn qc data hdl (by omega) _ (viewV (h_23.ok _ M9))) rfl ?_
 rintro _ w_26 ⟨a_24, cap_25, rfl, hc_27, ho_28⟩
 have h_29 := h_23.gotRow hc_27 ho_28
 refine qV rfl (R.fieldAddr (off' := 34) rfl underlying96 rfl sizeOf72 rfl rfl) ?_
 refine WL.store1 h_29 rfl rfl sizeOf72 rfl Y4 (by decide) (Sg.t rfl (Sg.t rfl (Sg.t rfl Sg.h))) (fun w_30 h_31 => ?_)
 refine WL.nil (thn_n (WP.seq ?_))
 refine WP.drawT (SL w00.heap.size [.row a_24 qn cap_25 5 1 (data.map vu8), .blk b_16 .nw 23 [(32, (cF (kd, key, dm, data)).map vu8)], .blk b_8 .nw 111 [(1, [(vi kd)]), (32, key.map vu8), (1, [(vi dm)]), (1, [(.string (bstr data))])], .blk b_4 .nw 23 [(32, (zB 32).map vu8)], .blk b_1 .nw 96 [(1, [(vi kd)]), (32, key.map vu8), (1, [(vi dm)]), (1, [(.slice a_24 qn cap_25)])], .blk ob .nw 82 [(1, [(.bool false)]), (32, ms.map vu8), (1, [(.slice da dn dc)]), (1, [(vn u)]), (1, [(.map (some mp))]), (1, [(.slice la lg.length lc)])], .row la lg.length lc 114 67 lx, .pin (sblks lx) (fun w => Lgs w lx lg), .view da (df.map vu8), .view qa (data.map vu8), .blk bq .nw 96 [(1, [(vi kd)]), (32, key.map vu8), (1, [(vi dm)]), (1, [(.slice qa qn qc)])]]) (.q 0 (.q 1 (.q 2 (.q 3 (.q 4 (.q 5 (.q 6 (.q 7 (.q 8 (.q 9 (.s 10 .nil))))))))))) (by kernel_rfl) (by kernel_rfl) rfl (by kernel_rfl) (fun w_32 hc_34 => (SL.cons ((h_31.same hc_34).ok _ M0) (SL.cons ((h_31.same hc_34).ok _ M1) (SL.cons ((h_31.same hc_34).ok _ M2) (SL.cons ((h_31.same hc_34).ok _ M3) (SL.cons ((h_31.same hc_34).ok _ M4) (SL.cons ((h_31.same hc_34).ok _ M5) (SL.cons ((h_31.same hc_34).ok _ M6) (SL.cons ((h_31.same hc_34).ok _ M8) (SL.cons ((h_31.same hc_34).ok _ M9) (SL.cons ((h_31.same hc_34).ok _ M10) (SL.cons ((h_31.same hc_34).ok _ M11) (SL.nil _ _))))))))))))) (fun w_32 hc_34 => ?_)
 have h_33 := h_31.same hc_34
 refine qT rfl rfl (fun wq hS => R.move (v := (pO ob 0)) rfl) ?_
 refine qT rfl rfl (fun wq hS => R.nilCheck rfl) ?_
 refine qT rfl rfl (fun wq hS => R.fieldAddr (off' := 35) rfl underlying82 rfl sizeOf80 rfl rfl) ?_
 refine qT rfl rfl (fun wq hS => R.load1 rfl isAgg80 (hS _ M5) (Sg.t rfl (Sg.t rfl (Sg.t rfl (Sg.t rfl Sg.h))))) ?_
 refine qT rfl rfl (fun wq hS => R.loadA [] [(1, [(vi kd)]), (32, key.map vu8), (1, [(vi dm)]), (1, [(.string (bstr data))])] [] rfl isAgg111 sizeOf111 (hS _ M2) rfl rfl rfl rfl) ?_
 refine qT rfl rfl (fun wq hS => R.move (v := (pO ob 0)) rfl) ?_
 refine qT rfl rfl (fun wq hS => R.nilCheck rfl) ?_
 refine qT rfl rfl (fun wq hS => R.fieldAddr (off' := 36) rfl underlying82 rfl sizeOf59 rfl rfl) ?_
 refine qT rfl rfl (fun wq hS => R.load1 rfl isAgg59 (hS _ M5) (Sg.t rfl (Sg.t rfl (Sg.t rfl (Sg.t rfl (Sg.t rfl Sg.h)))))) ?_
 refine qT rfl rfl (fun wq hS => R.lenS (a := la) (m := lg.length) rfl rfl underlying59) ?_
 refine WT.s (oN rfl ?_)
 refine WL.mapUpdate (k := (.agg ⟨flat [(1, [(vi kd)]), (32, key.map vu8), (1, [(vi dm)]), (1, [(.string (bstr data))])]⟩)) (v := (vn (lg.length))) h_33 rfl rfl rfl underlying80 Y7 (by decide) (Ck.agg kt111 (by decide) ag111 (typQ (kd, key, dm, data) hq)) (log_miss kt111 (by decide) ag111 typQ hq hlo hfd) (fun w_35 h_36 => ?_)
 refine WL.nil ?_
 refine ⟨(SL.cons (h_36.ok _ M0) (SL.cons (h_36.ok _ M1) (SL.cons (h_36.ok _ M2) (SL.cons (h_36.ok _ M3) (SL.cons (h_36.ok _ M4) (SL.cons (h_36.ok _ M5) (SL.cons (h_36.ok _ M6) (SL.cons (h_36.ok _ M8) (SL.cons (h_36.ok _ M9) (SL.cons (h_36.ok _ M10) (SL.cons (h_36.ok _ M11) (SL.nil _ _)))))))))))), ?_⟩
 refine WT.nil (thn_n (WP.seq ?_))
 refine WP.cutG (G := Nat × Option Addr × Nat) [61, 62, 63, 64, 65, 66, 67, 68, 69, 70, 71, 72] (fun (bY11Y8Y0Y0, aY11Y9Y0Y0, cY11Y9Y0Y0) => [(61, (pO ob 0)), (62, (pO ob 0)), (63, (pO ob 0)), (64, (pO ob 36)), (66, (.agg ⟨flat [(1, [(vi kd)]), (32, key.map vu8), (1, [(vi dm)]), (1, [(.slice a_24 qn cap_25)])]⟩)), (67, (.agg ⟨(cF (kd, key, dm, data)).map vu8⟩)), (68, (.agg ⟨flat [(1, [(vi kd)]), (32, key.map vu8), (1, [(vi dm)]), (1, [(.slice a_24 qn cap_25)]), (32, (cF (kd, key, dm, data)).map vu8)]⟩)), (65, (.slice la lg.length lc)), (69, (.slice (some ⟨bY11Y8Y0Y0, 0, none⟩) 1 1)), (70, (.slice aY11Y9Y0Y0 (lg.length + 1) cY11Y9Y0Y0)), (71, (pO ob 0)), (72, (pO ob 36))]) (fun (bY11Y8Y0Y0, aY11Y9Y0Y0, cY11Y9Y0Y0) w1 => HP w00 w1 (Ent.blk bY11Y8Y0Y0 .nw 114 [(67, aC (kd, key, dm, data) (.slice a_24 qn cap_25) (cF (kd, key, dm, data)))] :: Ent.row a_24 qn cap_25 5 1 (data.map vu8) :: Ent.blk b_16 .nw 23 [(32, (cF (kd, key, dm, data)).map vu8)] :: Ent.blk b_8 .nw 111 [(1, [(vi kd)]), (32, key.map vu8), (1, [(vi dm)]), (1, [(.string (bstr data))])] :: Ent.blk b_4 .nw 23 [(32, (zB 32).map vu8)] :: Ent.blk b_1 .nw 96 [(1, [(vi kd)]), (32, key.map vu8), (1, [(vi dm)]), (1, [(.slice a_24 qn cap_25)])] :: Ent.blk ob .nw 82 [(1, [(.bool false)]), (32, ms.map vu8), (1, [(.slice da dn dc)]), (1, [(vn u)]), (1, [(.map (some mp))]), (1, [(.slice aY11Y9Y0Y0 (lg.length + 1) cY11Y9Y0Y0)])] :: Ent.row aY11Y9Y0Y0 (lg.length + 1) cY11Y9Y0Y0 114 67 (lx ++ aC (kd, key, dm, data) (.slice a_24 qn cap_25) (cF (kd, key, dm, data))) :: Ent.obj mp .nw (.map ((mArr lg).push { key := (.agg ⟨flat [(1, [(vi kd)]), (32, key.map vu8), (1, [(vi dm)]), (1, [(.string (bstr data))])]⟩), val := (vn (lg.length)), born := lg.length }) (lg.length + 1)) :: Ent.pin (sblks lx) (fun w => Lgs w lx lg) :: Ent.view da (df.map vu8) :: Ent.view qa (data.map vu8) :: Ent.blk bq .nw 96 [(1, [(vi kd)]), (32, key.map vu8), (1, [(vi dm)]), (1, [(.slice qa qn qc)])] :: L)) ?_ ?_
 ·refine WP.drawT (SL w00.heap.size [.row a_24 qn cap_25 5 1 (data.map vu8), .blk b_16 .nw 23 [(32, (cF (kd, key, dm, data)).map vu8)], .blk b_8 .nw 111 [(1, [(vi kd)]), (32, key.map vu8), (1, [(vi dm)]), (1, [(.string (bstr data))])], .blk b_4 .nw 23 [(32, (zB 32).map vu8)], .blk b_1 .nw 96 [(1, [(vi kd)]), (32, key.map vu8), (1, [(vi dm)]), (1, [(.slice a_24 qn cap_25)])], .obj mp .nw (.map ((mArr lg).push { key := (.agg ⟨flat [(1, [(vi kd)]), (32, key.map vu8), (1, [(vi dm)]), (1, [(.string (bstr data))])]⟩), val := (vn (lg.length)), born := lg.length }) (lg.length + 1)), .pin (sblks lx) (fun w => Lgs w lx lg), .view da (df.map vu8), .view qa (data.map vu8), .blk bq .nw 96 [(1, [(vi kd)]), (32, key.map vu8), (1, [(vi dm)]), (1, [(.slice qa qn qc)])]]) (.q 0 (.q 1 (.q 2 (.q 3 (.q 5 (.q 6 (.q 7 (.s2 4 8 (.s 8 (.s 9 (.q 10 (.q 11 (.s 12 .nil))))) (.s 4 (.s 9 (.q 10 (.q 11 (.s 12 .nil))))))))))))) (by kernel_rfl) (by kernel_rfl) rfl (by kernel_rfl) (fun w_37 hc_39 => (SL.cons ((h_36.same hc_39).ok _ M0) (SL.cons ((h_36.same hc_39).ok _ M1) (SL.cons ((h_36.same hc_39).ok _ M2) (SL.cons ((h_36.same hc_39).ok _ M3) (SL.cons ((h_36.same hc_39).ok _ M4) (SL.cons ((h_36.same hc_39).ok _ M7) (SL.cons ((h_36.same hc_39).ok _ M8) (SL.cons ((h_36.same hc_39).ok _ M9) (SL.cons ((h_36.same hc_39).ok _ M10) (SL.cons ((h_36.same hc_39).ok _ M11) (SL.nil _ _)))))))))))) (fun w_37 hc_39 => ?_)
  have h_38 := h_36.same hc_39
  refine qT rfl rfl (fun wq hS => R.move (v := (pO ob 0)) rfl) ?_
  refine qT rfl rfl (fun wq hS => R.move (v := (pO ob 0)) rfl) ?_
  refine qT rfl rfl (fun wq hS => R.nilCheck rfl) ?_
  refine qT rfl rfl (fun wq hS => R.fieldAddr (off' := 36) rfl underlying82 rfl sizeOf59 rfl rfl) ?_
  refine qT rfl rfl (fun wq hS => R.loadA [] [(1, [(vi kd)]), (32, key.map vu8), (1, [(vi dm)]), (1, [(.slice a_24 qn cap_25)])] [] rfl isAgg96 sizeOf96 (hS _ M4) rfl rfl rfl rfl) ?_
  refine qT rfl rfl (fun wq hS => R.loadA [] [(32, (cF (kd, key, dm, data)).map vu8)] [] (cs := (cF (kd, key, dm, data)).map vu8) rfl isAgg23 sizeOf23 (hS _ M1) rfl rfl rfl rfl) ?_
  refine qT rfl rfl (fun wq hS => R.buildS (pl := [(0, 35), (35, 32)]) (zs := [(1, [(vi 0)]), (32, (zB 32).map vu8), (1, [(vi 0)]), (1, [(.slice none 0 0)]), (32, (zB 32).map vu8)]) (vs := [(0, (.agg ⟨flat [(1, [(vi kd)]), (32, key.map vu8), (1, [(vi dm)]), (1, [(.slice a_24 qn cap_25)])]⟩)), (1, (.agg ⟨(cF (kd, key, dm, data)).map vu8⟩))]) (out := [(1, [(vi kd)]), (32, key.map vu8), (1, [(vi dm)]), (1, [(.slice a_24 qn cap_25)]), (32, (cF (kd, key, dm, data)).map vu8)]) underlying114 (zv typeInfo114 rfl) rfl (sC sV (sC (s8 lr) (sC sV (sC sV (sC (s8 lr) sN))))) (pl114 _ underlying114) rfl (FillR.cons [] [(1, [(vi 0)]), (32, (zB 32).map vu8), (1, [(vi 0)]), (1, [(.slice none 0 0)])] [(1, [(vi kd)]), (32, key.map vu8), (1, [(vi dm)]), (1, [(.slice a_24 qn cap_25)])] [(32, (zB 32).map vu8)] rfl rfl rfl rfl (sC sV (sC (s8 hq.1) (sC sV (sC sV sN)))) rfl rfl rfl (FillR.cons [(1, [(vi kd)]), (32, key.map vu8), (1, [(vi dm)]), (1, [(.slice a_24 qn cap_25)])] [(32, (zB 32).map vu8)] [(32, (cF (kd, key, dm, data)).map vu8)] [] rfl rfl rfl rfl (sC (s8 (cF_len _)) sN) rfl rfl rfl FillR.nil)) rfl) ?_
  refine WT.s2 ?_ ?_
  ·refine oN rfl ?_
   refine qV rfl (R.load1 rfl isAgg59 (h_38.ok _ M5) (Sg.t rfl (Sg.t rfl (Sg.t rfl (Sg.t rfl (Sg.t rfl Sg.h)))))) ?_
   refine WL.nil ?_
   refine ⟨(SL.cons (h_38.ok _ M0) (SL.cons (h_38.ok _ M1) (SL.cons (h_38.ok _ M2) (SL.cons (h_38.ok _ M3) (SL.cons (h_38.ok _ M4) (SL.cons (h_38.ok _ M7) (SL.cons (h_38.ok _ M8) (SL.cons (h_38.ok _ M9) (SL.cons (h_38.ok _ M10) (SL.cons (h_38.ok _ M11) (SL.nil _ _))))))))))), ?_⟩
   refine WT.s (oN rfl ?_)
   refine WL.buildSl (vs := [(0, (.agg ⟨flat [(1, [(vi kd)]), (32, key.map vu8), (1, [(vi dm)]), (1, [(.slice a_24 qn cap_25)]), (32, (cF (kd, key, dm, data)).map vu8)]⟩))]) (cs := aC (kd, key, dm, data) (.slice a_24 qn cap_25) (cF (kd, key, dm, data))) h_38 underlying59 sizeOf114 (zv typeInfo114 rfl) rfl rfl (fill_1 (zc := flat [(1, [vi 0]), (32, List.replicate 32 (vu8 0)), (1, [vi 0]), (1, [.slice none 0 0]), (32, List.replicate 32 (vu8 0))]) (by kernel_rfl) (sC (s := (67, flat [(1, [vi 0]), (32, List.replicate 32 (vu8 0)), (1, [vi 0]), (1, [.slice none 0 0]), (32, List.replicate 32 (vu8 0))])) ⟨by decide, SsOk.one (sC sV (sC (SOk.rep rfl) (sC sV (sC sV (sC (SOk.rep rfl) sN)))))⟩ sN) (aC_ok (q := (kd, key, dm, data)) (s := (.slice a_24 qn cap_25)) (d := cF (kd, key, dm, data)) hq.1 (cF_len _) rfl)) ((aC_ok (q := (kd, key, dm, data)) (s := (.slice a_24 qn cap_25)) (d := cF (kd, key, dm, data)) hq.1 (cF_len _) rfl)).head.len ((aC_ok (q := (kd, key, dm, data)) (s := (.slice a_24 qn cap_25)) (d := cF (kd, key, dm, data)) hq.1 (cF_len _) rfl)).head.one rfl rfl (fun b_41 w_42 h_43 => ?_)
   refine WL.nil ?_
   refine ⟨(N1_2_3_4_5_8_9_10_11_12 h_43.ok), ?_⟩
   refine WT.s (oN rfl ?_)
   refine WL.append (km := lg.length + 1) (xs := lx) (ys := aC (kd, key, dm, data) (.slice a_24 qn cap_25) (cF (kd, key, dm, data))) (zs := lx ++ aC (kd, key, dm, data) (.slice a_24 qn cap_25) (cF (kd, key, dm, data))) h_43 rfl rfl el59 (viewB (h_43.ok _ M0) Sg.h) ((aC_ok (q := (kd, key, dm, data)) (s := (.slice a_24 qn cap_25)) (d := cF (kd, key, dm, data)) hq.1 (cF_len _) rfl)).head.len ((aC_ok (q := (kd, key, dm, data)) (s := (.slice a_24 qn cap_25)) (d := cF (kd, key, dm, data)) hq.1 (cF_len _) rfl)).head.one rfl (by omega) (by omega) (by omega) (fun _ _ => Y7) rfl (fun a_44 c_45 w_46 h_47 => ?_)
   refine WL.nil ?_
   refine ⟨(N1_2_3_4_5_8_9_10_11_12 h_47.ok), ?_⟩
   refine qT rfl rfl (fun wq hS => R.nilCheck rfl) ?_
   refine qT rfl rfl (fun wq hS => R.fieldAddr (off' := 36) rfl underlying82 rfl sizeOf59 rfl rfl) ?_
   refine WT.s (oN rfl ?_)
   refine WL.store1 h_47 rfl rfl sizeOf59 rfl Y6 (by decide) (Sg.t rfl (Sg.t rfl (Sg.t rfl (Sg.t rfl (Sg.t rfl Sg.h))))) (fun w_48 h_49 => ?_)
   refine WL.nil ?_
   refine ⟨(N1_2_3_4_5_8_9_10_11_12 h_49.ok), ?_⟩
   refine WT.nil (thn_n ?_)
   exact ⟨(b_41, a_44, c_45), (U4 rfl rfl rfl rfl (U4 rfl rfl rfl rfl (U4 rfl rfl rfl rfl (Ag.refl _ _)))), ⟨rfl, rfl, rfl, rfl, rfl, rfl, rfl, rfl, rfl, rfl, rfl, rfl, trivial⟩, h_49⟩
  ·refine oN rfl ?_
   refine WL.buildSl (vs := [(0, (.agg ⟨flat [(1, [(vi kd)]), (32, key.map vu8), (1, [(vi dm)]), (1, [(.slice a_24 qn cap_25)]), (32, (cF (kd, key, dm, data)).map vu8)]⟩))]) (cs := aC (kd, key, dm, data) (.slice a_24 qn cap_25) (cF (kd, key, dm, data))) h_38 underlying59 sizeOf114 (zv typeInfo114 rfl) rfl rfl (fill_1 (zc := flat [(1, [vi 0]), (32, List.replicate 32 (vu8 0)), (1, [vi 0]), (1, [.slice none 0 0]), (32, List.replicate 32 (vu8 0))]) (by kernel_rfl) (sC (s := (67, flat [(1, [vi 0]), (32, List.replicate 32 (vu8 0)), (1, [vi 0]), (1, [.slice none 0 0]), (32, List.replicate 32 (vu8 0))])) ⟨by decide, SsOk.one (sC sV (sC (SOk.rep rfl) (sC sV (sC sV (sC (SOk.rep rfl) sN)))))⟩ sN) (aC_ok (q := (kd, key, dm, data)) (s := (.slice a_24 qn cap_25)) (d := cF (kd, key, dm, data)) hq.1 (cF_len _) rfl)) ((aC_ok (q := (kd, key, dm, data)) (s := (.slice a_24 qn cap_25)) (d := cF (kd, key, dm, data)) hq.1 (cF_len _) rfl)).head.len ((aC_ok (q := (kd, key, dm, data)) (s := (.slice a_24 qn cap_25)) (d := cF (kd, key, dm, data)) hq.1 (cF_len _) rfl)).head.one rfl rfl (fun b_50 w_51 h_52 => ?_)
   refine WL.nil ?_
   refine ⟨(N1_2_3_4_5_8_9_10_11_12 h_52.ok), ?_⟩
   refine WT.s (oN rfl ?_)
   refine qV rfl (R.load1 rfl isAgg59 (h_52.ok _ M6) (Sg.t rfl (Sg.t rfl (Sg.t rfl (Sg.t rfl (Sg.t rfl Sg.h)))))) ?_
   refine WL.nil ?_
   refine ⟨(N1_2_3_4_5_8_9_10_11_12 h_52.ok), ?_⟩
   refine WT.s (oN rfl ?_)
   refine WL.append (km := lg.length + 1) (xs := lx) (ys := aC (kd, key, dm, data) (.slice a_24 qn cap_25) (cF (kd, key, dm, data))) (zs := lx ++ aC (kd, key, dm, data) (.slice a_24 qn cap_25) (cF (kd, key, dm, data))) h_52 rfl rfl el59 (viewB (h_52.ok _ M0) Sg.h) ((aC_ok (q := (kd, key, dm, data)) (s := (.slice a_24 qn cap_25)) (d := cF (kd, key, dm, data)) hq.1 (cF_len _) rfl)).head.len ((aC_ok (q := (kd, key, dm, data)) (s := (.slice a_24 qn cap_25)) (d := cF (kd, key, dm, data)) hq.1 (cF_len _) rfl)).head.one rfl (by omega) (by omega) (by omega) (fun _ _ => Y7) rfl (fun a_53 c_54 w_55 h_56 => ?_)
   refine WL.nil ?_
   refine ⟨(N1_2_3_4_5_8_9_10_11_12 h_56.ok), ?_⟩
   refine qT rfl rfl (fun wq hS => R.nilCheck rfl) ?_
   refine qT rfl rfl (fun wq hS => R.fieldAddr (off' := 36) rfl underlying82 rfl sizeOf59 rfl rfl) ?_
   refine WT.s (oN rfl ?_)
   refine WL.store1 h_56 rfl rfl sizeOf59 rfl Y6 (by decide) (Sg.t rfl (Sg.t rfl (Sg.t rfl (Sg.t rfl (Sg.t rfl Sg.h))))) (fun w_57 h_58 => ?_)
   refine WL.nil ?_
   refine ⟨(N1_2_3_4_5_8_9_10_11_12 h_58.ok), ?_⟩
   refine WT.nil (thn_n ?_)
   exact ⟨(b_50, a_53, c_54), (U4 rfl rfl rfl rfl (U4 rfl rfl rfl rfl (U4 rfl rfl rfl rfl (Ag.refl _ _)))), ⟨rfl, rfl, rfl, rfl, rfl, rfl, rfl, rfl, rfl, rfl, rfl, rfl, trivial⟩, h_58⟩
 ·rintro ⟨b_62, a_63, c_64⟩ J_59 w_60 h_61
  refine thn_n (WP.seq (WP.reg ?_))
  refine qV rfl (R.loadA [] [(32, (cF (kd, key, dm, data)).map vu8)] [] (cs := (cF (kd, key, dm, data)).map vu8) rfl isAgg23 sizeOf23 (h_61.ok _ M2) rfl rfl rfl rfl) ?_
  refine WL.storeA [] [(32, (zB 32).map vu8)] [(32, (cF (kd, key, dm, data)).map vu8)] [] h_61 rfl rfl sizeOf23 Y4 (by decide) rfl rfl rfl rfl rfl rfl (sC (s8 (cF_len _)) sN) (fun w_65 h_66 => ?_)
  refine WL.nil (thn_n (WP.ret ?_))
  refine ret_of results47 (RV.cell rfl (h_66.loadA (cs := (cF (kd, key, dm, data)).map vu8) isAgg23 sizeOf23 M4 rfl rfl) RV.nil) ?_
  have h_83 := ((((((((((((((((h_66.drop rfl).up J1).drop rfl).up J1).drop rfl).up J1).drop rfl).up J1).drop rfl).up J7).up J7).up J7).up J6).up J6).up J6).up J7).up J7
  have h_84 := HP_logPush (q := (kd, key, dm, data)) (d := cF (kd, key, dm, data)) h_83 hq (cF_len _) hdl
  have h_96 := ((((((((((h_84.up J1).drop rfl).up J1).drop rfl).up J6).up J6).up J6).up J3).up J6).up J6).up J6
  have hse : lg.length + 1 = (lg ++ [((kd, key, dm, data), cF (kd, key, dm, data))]).length := snoc_len.symm
  have hme := mArr_push lg (kd, key, dm, data) (cF (kd, key, dm, data))
  have h_85 := h_96
  rw [hse] at h_85
  exact ⟨_, _, _, by rw [anD_miss hfd]; rfl, by rw [anU_miss hfd, anL_miss hfd]; show HP _ _ (_ :: _ :: .obj _ _ (.map (mArr (lg ++ [((kd, key, dm, data), cF (kd, key, dm, data))])) _) :: _); rw [hme]; exact h_85⟩

theorem c_ansG {w00 : World} {L : List Ent} (id : Bool) (ob mp : Nat) (ms df : List UInt8) (hms : ms.length = 32) (da : Option Addr) (dn dc u : Nat) (hdf : df.length = 32 * dn) (la : Option Addr) (lc : Nat) (lx : List Value) (lg : Lg) (hu : u ≤ 1000000) (hlg : lg.length ≤ 1000000) (kd dm : Int) (key data : List UInt8) (qa : Option Addr) (qn qc : Nat) (hq : okQ (kd, key, dm, data)) (hdl : data.length = qn) (bq : Nat) (w : World) (h_0 : HP w00 w (Ent.blk ob .nw 82 [(1, [(.bool id)]), (32, ms.map vu8), (1, [(.slice da dn dc)]), (1, [(vi ((u : Nat) : Int))]), (1, [(.map (some mp))]), (1, [(.slice la lg.length lc)])] :: Ent.row la lg.length lc 114 67 lx :: Ent.obj mp .nw (.map (mArr lg) lg.length) :: Ent.pin (sblks lx) (fun w => Lgs w lx lg) :: Ent.view da (df.map vu8) :: Ent.view qa (data.map vu8) :: Ent.blk bq .nw 96 [(1, [(vi kd)]), (32, key.map vu8), (1, [(vi dm)]), (1, [(.slice qa qn qc)])] :: L)) :
  Cs Try.prog 47 [(.pointer (some ⟨ob, 0, none⟩)), (.agg ⟨flat [(1, [(vi kd)]), (32, key.map vu8), (1, [(vi dm)]), (1, [(.slice qa qn qc)])]⟩), (Value.func (Fn.func 48) [].toArray [(Value.pointer (some ⟨bq, 0, none⟩))].toArray)].toArray w (fun v w1 => ∃ la' lc' lx', v = (.agg ⟨(anD id df dn u lg (kd, key, dm, data)).map vu8⟩) ∧ HP w00 w1 (Ent.blk ob .nw 82 [(1, [(.bool id)]), (32, ms.map vu8), (1, [(.slice da dn dc)]), (1, [(vi (((anU id u lg (kd, key, dm, data)) : Nat) : Int))]), (1, [(.map (some mp))]), (1, [(.slice la' ((anL id df dn u lg (kd, key, dm, data)).length) lc')])] :: Ent.row la' ((anL id df dn u lg (kd, key, dm, data)).length) lc' 114 67 lx' :: Ent.obj mp .nw (.map (mArr (anL id df dn u lg (kd, key, dm, data))) ((anL id df dn u lg (kd, key, dm, data)).length)) :: Ent.pin (sblks lx') (fun w => Lgs w lx' (anL id df dn u lg (kd, key, dm, data))) :: Ent.view da (df.map vu8) :: Ent.view qa (data.map vu8) :: Ent.blk bq .nw 96 [(1, [(vi kd)]), (32, key.map vu8), (1, [(vi dm)]), (1, [(.slice qa qn qc)])] :: L)) := by
 cases hfd : fdq (kd, key, dm, data) lg 0 with
 | none => cases id with
  | true => exact c_ans_missT ob mp ms df hms da dn dc u hdf la lc lx lg hu hlg kd dm key data qa qn qc hq hdl _ hfd w h_0
  | false => exact c_ans_missF ob mp ms df hms da dn dc u hdf la lc lx lg hu hlg kd dm key data qa qn qc hq hdl bq hfd w h_0
 | some i => exact c_ans_hit id ob mp ms df hms da dn dc u hdf la lc lx lg hu hlg kd dm key data qa qn qc hq hdl _ i hfd w h_0
end Go.Proofs.Ytbhllplbbkmndaa

namespace Go.Proofs.Ytbhllplbbkmndaa
open Go.Proofs.Try
open Go.Vc Go.Orc Go.Sh Go.RowKit
set_option maxRecDepth 20000
theorem kt23 : Try.prog.keyTypeAt 2 23 = true := by kernel_rfl
theorem ag23 : aggB Try.prog 23 = true := by unfold aggB; rw [underlying23]
theorem c_othere (id : Bool) (ob mp : Nat) (ms : List UInt8) (hms : ms.length = 32) (da : Option Addr) (dn dc u : Nat) (la : Option Addr) (ln lc : Nat) (w : World) (hcb : (Ent.blk ob .ro 82 [(1, [(.bool id)]), (32, ms.map vu8), (1, [(.slice da dn dc)]), (1, [(vi ((u : Nat) : Int))]), (1, [(.map (some mp))]), (1, [(.slice la ln lc)])]).ok w.heap.size w) :
  Cs Try.prog 45 [(.pointer (some ⟨ob, 0, none⟩))].toArray w (fun v w1 => v = (.bool true) ∧ Chg w w1 []) := by
 refine Cs.of (n := 12) (args := [(pO ob 0)]) Try.func45 rfl rfl rfl ?_
 have h_0 := HP.init w
 have h_00 := h_0.old hcb (fun f hf => by cases hf)
 refine WP.seq (WP.reg ?_)
 refine qA (.bool false) rfl rfl ?_
 refine WL.nil (thn_n (WP.seq (WP.reg ?_)))
 refine qM (pO ob 0) rfl rfl (qV rfl (R.neNilP rfl rfl underlying34) (qM (.bool true) rfl rfl ?_))
 refine WL.want rfl rfl ?_
 refine qM (pO ob 0) rfl rfl ?_
 refine WL.want rfl rfl ?_
 refine qV rfl (R.nilCheck rfl) ?_
 refine WL.want rfl rfl ?_
 refine qV rfl (R.fieldAddr (off' := 35) rfl underlying82 rfl sizeOf80 rfl rfl) ?_
 refine WL.want rfl rfl ?_
 refine qV rfl (R.load1 rfl isAgg80 (h_00.ok _ M0) (Sg.t rfl (Sg.t rfl (Sg.t rfl (Sg.t rfl Sg.h))))) ?_
 refine WL.want rfl rfl ?_
 refine qV rfl (R.neNilM rfl rfl underlying80) (qV rfl (R.pickT (v := (.bool true)) rfl rfl) (qA (.bool true) rfl rfl ?_))
 refine WL.nil (thn_n (WP.ret ?_))
 refine ret_of results45 (RV.tmp (v := (.bool true)) rfl RV.nil) ?_
 exact ⟨rfl, h_00.chgS⟩

theorem c_may (kd dm : Int) (key : List UInt8) (qa : Option Addr) (qn qc : Nat) (hk : key.length = 32) (h1 : 1 ≤ kd ∧ kd ≤ 4) (h2 : 1 ≤ dm ∧ dm ≤ 16) (hz : kd = 1 → key = List.replicate 32 0) (w : World) :
  Cs Try.prog 46 [(.agg ⟨flat [(1, [(vi kd)]), (32, key.map vu8), (1, [(vi dm)]), (1, [(.slice qa qn qc)])]⟩)].toArray w (fun v w1 => v = (.bool true) ∧ Chg w w1 []) := by
 refine Cs.of (n := 32) (args := [(.agg ⟨flat [(1, [(vi kd)]), (32, key.map vu8), (1, [(vi dm)]), (1, [(.slice qa qn qc)])]⟩)]) Try.func46 rfl rfl rfl ?_
 have h_0 := HP.init w
 refine WP.seq (WP.reg ?_)
 refine WL.box (segs := [(1, [(vi kd)]), (32, key.map vu8), (1, [(vi dm)]), (1, [(.slice qa qn qc)])]) h_0 rfl rfl (sC sV (sC (s8 hk) (sC sV (sC sV sN)))) rfl (fun b_1 w_2 h_3 => ?_)
 refine qA (.bool false) rfl rfl ?_
 refine WL.nil (thn_n (WP.seq (WP.reg ?_)))
 refine qV rfl (R.fieldAddr (off' := 0) rfl underlying96 rfl sizeOf94 rfl rfl) (qV rfl (R.load1 rfl isAgg94 (h_3.ok _ M0) Sg.h) (qV rfl (R.bin rfl rfl (bi_geq (r := decide ((kd : Int) ≥ 1)) rfl)) (qM (.bool (decide ((kd : Int) ≥ 1))) rfl rfl ?_)))
 refine WL.want rfl (congrArg Value.bool (decide_eq_true (by omega))) ?_
 refine qV rfl (R.fieldAddr (off' := 0) rfl underlying96 rfl sizeOf94 rfl rfl) ?_
 refine WL.want rfl (congrArg Value.bool (decide_eq_true (by omega))) ?_
 refine qV rfl (R.load1 rfl isAgg94 (h_3.ok _ M0) Sg.h) ?_
 refine WL.want rfl (congrArg Value.bool (decide_eq_true (by omega))) ?_
 refine qV rfl (R.bin rfl rfl (bi_leq (r := decide ((kd : Int) ≤ 4)) rfl)) (qV rfl (R.pickT (v := (.bool (decide ((kd : Int) ≤ 4)))) (congrArg Value.bool (decide_eq_true (by omega))) rfl) (qM (.bool (decide ((kd : Int) ≤ 4))) rfl rfl ?_))
 refine WL.want rfl (congrArg Value.bool (decide_eq_true (by omega))) ?_
 refine qV rfl (R.fieldAddr (off' := 33) rfl underlying96 rfl sizeOf75 rfl rfl) ?_
 refine WL.want rfl (congrArg Value.bool (decide_eq_true (by omega))) ?_
 refine qV rfl (R.load1 rfl isAgg75 (h_3.ok _ M0) (Sg.t rfl (Sg.t rfl Sg.h))) ?_
 refine WL.want rfl (congrArg Value.bool (decide_eq_true (by omega))) ?_
 refine qV rfl (R.bin rfl rfl (bi_geq (r := decide ((dm : Int) ≥ 1)) rfl)) (qV rfl (R.pickT (v := (.bool (decide ((dm : Int) ≥ 1)))) (congrArg Value.bool (decide_eq_true (by omega))) rfl) (qM (.bool (decide ((dm : Int) ≥ 1))) rfl rfl ?_))
 refine WL.want rfl (congrArg Value.bool (decide_eq_true (by omega))) ?_
 refine qV rfl (R.fieldAddr (off' := 33) rfl underlying96 rfl sizeOf75 rfl rfl) ?_
 refine WL.want rfl (congrArg Value.bool (decide_eq_true (by omega))) ?_
 refine qV rfl (R.load1 rfl isAgg75 (h_3.ok _ M0) (Sg.t rfl (Sg.t rfl Sg.h))) ?_
 refine WL.want rfl (congrArg Value.bool (decide_eq_true (by omega))) ?_
 refine qV rfl (R.bin rfl rfl (bi_leq (r := decide ((dm : Int) ≤ 16)) rfl)) (qV rfl (R.pickT (v := (.bool (decide ((dm : Int) ≤ 16)))) (congrArg Value.bool (decide_eq_true (by omega))) rfl) (qM (.bool (decide ((dm : Int) ≤ 16))) rfl rfl ?_))
 refine WL.want rfl (congrArg Value.bool (decide_eq_true (by omega))) ?_
 refine qV rfl (R.fieldAddr (off' := 0) rfl underlying96 rfl sizeOf94 rfl rfl) ?_
 refine WL.want rfl (congrArg Value.bool (decide_eq_true (by omega))) ?_
 refine qV rfl (R.load1 rfl isAgg94 (h_3.ok _ M0) Sg.h) ?_
 refine WL.want rfl (congrArg Value.bool (decide_eq_true (by omega))) ?_
 refine qV rfl (R.bin rfl rfl (bi_neq (r := decide ((kd : Int) ≠ 1)) rfl)) ?_
 refine WL.want rfl (congrArg Value.bool (decide_eq_true (by omega))) ?_
 refine qM (.bool (decide ((kd : Int) ≠ 1))) rfl rfl ?_
 rcases Bool.eq_false_or_eq_true (decide ((kd : Int) ≠ 1)) with c_4 | c_4
 ·have p_5 := of_decide_eq_true c_4
  refine WL.skip rfl (congrArg Value.bool c_4) rfl ?_
  refine WL.skip rfl (congrArg Value.bool c_4) rfl ?_
  refine WL.skip rfl (congrArg Value.bool c_4) rfl ?_
  refine WL.skip rfl (congrArg Value.bool c_4) rfl ?_
  refine WL.want rfl (congrArg Value.bool (decide_eq_true (by omega))) ?_
  refine qV rfl (R.pickT (v := (.bool true)) (congrArg Value.bool c_4) rfl) (qV rfl (R.pickT (v := (.bool true)) (congrArg Value.bool (decide_eq_true (by omega))) rfl) (qA (.bool true) rfl rfl ?_))
  refine WL.nil (thn_n (WP.ret ?_))
  refine ret_of results46 (RV.tmp (v := (.bool true)) rfl RV.nil) ?_
  exact ⟨rfl, h_3.chgS⟩
 ·have p_6 := of_decide_eq_false c_4
  refine WL.want rfl (congrArg Value.bool c_4) ?_
  refine qV rfl (R.fieldAddr (off' := 1) rfl underlying96 rfl sizeOf23 rfl rfl) ?_
  refine WL.want rfl (congrArg Value.bool c_4) ?_
  refine qV rfl (R.loadA [(1, [(vi kd)])] [(32, key.map vu8)] [(1, [(vi dm)]), (1, [(.slice qa qn qc)])] (cs := key.map vu8) rfl isAgg23 sizeOf23 (h_3.ok _ M0) rfl rfl rfl rfl) ?_
  refine WL.want rfl (congrArg Value.bool c_4) ?_
  refine qV rfl (R.buildA (vs := []) (cs := (zB 32).map vu8) underlying23 sizeOf5 (zv typeInfo23 rfl) rfl rfl) ?_
  refine WL.want rfl (congrArg Value.bool c_4) ?_
  refine qV rfl (R.eqA (xs := key.map vu8) (ys := (zB 32).map vu8) (r := true) rfl rfl eqGuardType23 kt23 (by decide) ag23 (Typ.u8s underlying23 ce23 underlying5 ce5 hk) (Typ.u8s underlying23 ce23 underlying5 ce5 lr) (eqT (by rw [hz (by omega)]))) ?_
  refine WL.want rfl (congrArg Value.bool (decide_eq_true (by omega))) ?_
  refine qV rfl (R.pickF (v := (.bool true)) (congrArg Value.bool c_4) rfl) (qV rfl (R.pickT (v := (.bool true)) (congrArg Value.bool (decide_eq_true (by omega))) rfl) (qA (.bool true) rfl rfl ?_))
  refine WL.nil (thn_n (WP.ret ?_))
  refine ret_of results46 (RV.tmp (v := (.bool true)) rfl RV.nil) ?_
  exact ⟨rfl, h_3.chgS⟩

theorem c_may_0 (dm : Int) (key : List UInt8) (qa : Option Addr) (qn qc : Nat) (hk : key.length = 32) (w : World) :
  Cs Try.prog 46 [(.agg ⟨flat [(1, [(vi 0)]), (32, key.map vu8), (1, [(vi dm)]), (1, [(.slice qa qn qc)])]⟩)].toArray w (fun v w1 => v = (.bool false) ∧ Chg w w1 []) := by
 refine Cs.of (n := 32) (args := [(.agg ⟨flat [(1, [(vi 0)]), (32, key.map vu8), (1, [(vi dm)]), (1, [(.slice qa qn qc)])]⟩)]) Try.func46 rfl rfl rfl ?_
 have h_0 := HP.init w
 refine WP.seq (WP.reg ?_)
 refine WL.box (segs := [(1, [(vi 0)]), (32, key.map vu8), (1, [(vi dm)]), (1, [(.slice qa qn qc)])]) h_0 rfl rfl (sC sV (sC (s8 hk) (sC sV (sC sV sN)))) rfl (fun b_1 w_2 h_3 => ?_)
 refine qA (.bool false) rfl rfl ?_
 refine WL.nil (thn_n (WP.seq (WP.reg ?_)))
 refine qV rfl (R.fieldAddr (off' := 0) rfl underlying96 rfl sizeOf94 rfl rfl) (qV rfl (R.load1 rfl isAgg94 (h_3.ok _ M0) Sg.h) (qV rfl (R.bin rfl rfl (bi_geq (r := false) (by decide))) (qM (.bool false) rfl rfl ?_)))
 refine WL.skip rfl rfl rfl ?_
 refine WL.skip rfl rfl rfl ?_
 refine WL.skip rfl rfl rfl ?_
 refine qV rfl (R.pickF (v := (.bool false)) rfl rfl) (qM (.bool false) rfl rfl ?_)
 refine WL.skip rfl rfl rfl ?_
 refine WL.skip rfl rfl rfl ?_
 refine WL.skip rfl rfl rfl ?_
 refine qV rfl (R.pickF (v := (.bool false)) rfl rfl) (qM (.bool false) rfl rfl ?_)
 refine WL.skip rfl rfl rfl ?_
 refine WL.skip rfl rfl rfl ?_
 refine WL.skip rfl rfl rfl ?_
 refine qV rfl (R.pickF (v := (.bool false)) rfl rfl) (qM (.bool false) rfl rfl ?_)
 refine WL.skip rfl rfl rfl ?_
 refine WL.skip rfl rfl rfl ?_
 refine WL.skip rfl rfl rfl ?_
 refine WL.skip rfl rfl rfl ?_
 refine WL.skipU rfl rfl rfl ?_
 refine WL.skipU rfl rfl rfl ?_
 refine WL.skipU rfl rfl rfl ?_
 refine WL.skipU rfl rfl rfl ?_
 refine WL.skip rfl rfl rfl ?_
 refine qV rfl (R.pickF (v := (.bool false)) rfl rfl) (qA (.bool false) rfl rfl ?_)
 refine WL.nil (thn_n (WP.ret ?_))
 refine ret_of results46 (RV.tmp (v := (.bool false)) rfl RV.nil) ?_
 exact ⟨rfl, h_3.chgS⟩

theorem c_oAsk_0 (id : Bool) (ob mp : Nat) (ms : List UInt8) (hms : ms.length = 32) (da : Option Addr) (dn dc u : Nat) (la : Option Addr) (ln lc : Nat) (dm : Int) (key : List UInt8) (qa : Option Addr) (qn qc : Nat) (hk : key.length = 32) (w : World) (hcb : (Ent.blk ob .ro 82 [(1, [(.bool id)]), (32, ms.map vu8), (1, [(.slice da dn dc)]), (1, [(vi ((u : Nat) : Int))]), (1, [(.map (some mp))]), (1, [(.slice la ln lc)])]).ok w.heap.size w) :
  Cs Try.prog 41 [(.pointer (some ⟨ob, 0, none⟩)), (.agg ⟨flat [(1, [(vi 0)]), (32, key.map vu8), (1, [(vi dm)]), (1, [(.slice qa qn qc)])]⟩)].toArray w (fun v w1 => v = (.tuple [(.agg ⟨(List.replicate 32 (0 : UInt8)).map vu8⟩), (vi 2)].toArray) ∧ Chg w w1 []) := by
 refine Cs.of (n := 25) (args := [(pO ob 0), (.agg ⟨flat [(1, [(vi 0)]), (32, key.map vu8), (1, [(vi dm)]), (1, [(.slice qa qn qc)])]⟩)]) Try.func41 rfl rfl rfl ?_
 have h_0 := HP.init w
 have h_00 := h_0.old hcb (fun f hf => by cases hf)
 refine WP.seq (WP.reg ?_)
 refine WL.box (segs := [(1, [(vi 0)]), (32, key.map vu8), (1, [(vi dm)]), (1, [(.slice qa qn qc)])]) h_00 rfl rfl (sC sV (sC (s8 hk) (sC sV (sC sV sN)))) rfl (fun b_1 w_2 h_3 => ?_)
 refine WL.alloc (segs := [(32, (zB 32).map vu8)]) h_3 (zv typeInfo23 rfl) rfl (sC (s8 lr) sN) rfl (fun b_4 w_5 h_6 => ?_)
 refine qA (vi 0) rfl rfl ?_
 refine WL.nil (thn_n (WP.seq (WP.block (WP.seq (WP.reg ?_)))))
 refine qM (pO ob 0) rfl rfl ?_
 refine WL.call Try.call45 rfl rfl (c_othere id ob mp ms hms da dn dc u la ln lc _ (h_6.argR M2)) rfl ?_
 rintro _ w_8 ⟨rfl, hc_7⟩
 have h_9 := h_6.same hc_7
 refine qV rfl (R.not (b := true) rfl) (qA (.bool false) rfl rfl ?_)
 refine WL.nil (thn_n ?_)
 refine WP.condF rfl ?_
 refine WP.seq (WP.reg ?_)
 refine qV rfl (R.loadA [] [(1, [(vi 0)]), (32, key.map vu8), (1, [(vi dm)]), (1, [(.slice qa qn qc)])] [] rfl isAgg96 sizeOf96 (h_9.ok _ M1) rfl rfl rfl rfl) ?_
 refine WL.call Try.call46 rfl rfl (c_may_0 dm key qa qn qc hk _ ) rfl ?_
 rintro _ w_11 ⟨rfl, hc_10⟩
 have h_12 := h_9.same hc_10
 refine qV rfl (R.not (b := false) rfl) (qM (.bool true) rfl rfl ?_)
 refine WL.skip rfl rfl rfl ?_
 refine WL.skip rfl rfl rfl ?_
 refine WL.skip rfl rfl rfl ?_
 refine qV rfl (R.pickT (v := (.bool true)) rfl rfl) (qA (.bool true) rfl rfl ?_)
 refine WL.nil (thn_n ?_)
 refine WP.condT rfl ?_
 refine WP.seq (WP.reg ?_)
 refine qV rfl (R.buildA (vs := []) (cs := (zB 32).map vu8) underlying23 sizeOf5 (zv typeInfo23 rfl) rfl rfl) ?_
 refine WL.storeA [] [(32, (zB 32).map vu8)] [(32, (zB 32).map vu8)] [] h_12 rfl rfl sizeOf23 At.h (by decide) rfl rfl rfl rfl rfl rfl (sC (s8 lr) sN) (fun w_13 h_14 => ?_)
 refine qA (vi 2) rfl rfl ?_
 refine WL.nil (thn_n (WP.ret (inb_r (thn_r ?_))))
 refine ret_of results41 (RV.cell rfl (h_14.loadA (cs := (zB 32).map vu8) isAgg23 sizeOf23 M0 rfl rfl) (RV.tmp (v := (vi 2)) rfl RV.nil)) ?_
 exact ⟨rfl, h_14.chgS⟩

theorem c_oAsk {w00 : World} {L : List Ent} (id : Bool) (ob mp : Nat) (ms df : List UInt8) (hms : ms.length = 32) (da : Option Addr) (dn dc u : Nat) (hdf : df.length = 32 * dn) (la : Option Addr) (lc : Nat) (lx : List Value) (lg : Lg) (hu : u ≤ 1000000) (hlg : lg.length ≤ 1000000) (kd dm : Int) (key data : List UInt8) (qa : Option Addr) (qn qc : Nat) (hq : okQ (kd, key, dm, data)) (hdl : data.length = qn) (hk4 : ¬ kd = 4) (hz : kd = 1 → key = List.replicate 32 0) (w : World) (h_0 : HP w00 w (Ent.blk ob .nw 82 [(1, [(.bool id)]), (32, ms.map vu8), (1, [(.slice da dn dc)]), (1, [(vi ((u : Nat) : Int))]), (1, [(.map (some mp))]), (1, [(.slice la lg.length lc)])] :: Ent.row la lg.length lc 114 67 lx :: Ent.obj mp .nw (.map (mArr lg) lg.length) :: Ent.pin (sblks lx) (fun w => Lgs w lx lg) :: Ent.view da (df.map vu8) :: Ent.view qa (data.map vu8) :: L)) :
  Cs Try.prog 41 [(.pointer (some ⟨ob, 0, none⟩)), (.agg ⟨flat [(1, [(vi kd)]), (32, key.map vu8), (1, [(vi dm)]), (1, [(.slice qa qn qc)])]⟩)].toArray w (fun v w1 => ∃ la' lc' lx', v = (.tuple [(.agg ⟨(anD id df dn u lg (kd, key, dm, data)).map vu8⟩), (vi 0)].toArray) ∧ HP w00 w1 (Ent.blk ob .nw 82 [(1, [(.bool id)]), (32, ms.map vu8), (1, [(.slice da dn dc)]), (1, [(vi (((anU id u lg (kd, key, dm, data)) : Nat) : Int))]), (1, [(.map (some mp))]), (1, [(.slice la' ((anL id df dn u lg (kd, key, dm, data)).length) lc')])] :: Ent.row la' ((anL id df dn u lg (kd, key, dm, data)).length) lc' 114 67 lx' :: Ent.obj mp .nw (.map (mArr (anL id df dn u lg (kd, key, dm, data))) ((anL id df dn u lg (kd, key, dm, data)).length)) :: Ent.pin (sblks lx') (fun w => Lgs w lx' (anL id df dn u lg (kd, key, dm, data))) :: Ent.view da (df.map vu8) :: Ent.view qa (data.map vu8) :: L)) := by
 refine Cs.of (n := 25) (args := [(pO ob 0), (.agg ⟨flat [(1, [(vi kd)]), (32, key.map vu8), (1, [(vi dm)]), (1, [(.slice qa qn qc)])]⟩)]) Try.func41 rfl rfl rfl ?_
 refine WP.seq (WP.reg ?_)
 refine WL.box (segs := [(1, [(vi kd)]), (32, key.map vu8), (1, [(vi dm)]), (1, [(.slice qa qn qc)])]) h_0 rfl rfl (sC sV (sC (s8 hq.1) (sC sV (sC sV sN)))) rfl (fun b_1 w_2 h_3 => ?_)
 refine WL.alloc (segs := [(32, (zB 32).map vu8)]) h_3 (zv typeInfo23 rfl) rfl (sC (s8 lr) sN) rfl (fun b_4 w_5 h_6 => ?_)
 refine qA (vi 0) rfl rfl ?_
 refine WL.nil (thn_n (WP.seq (WP.block (WP.seq (WP.reg ?_)))))
 refine qM (pO ob 0) rfl rfl ?_
 refine WL.call Try.call45 rfl rfl (c_othere id ob mp ms hms da dn dc u la lg.length lc _ (h_6.argR M2)) rfl ?_
 rintro _ w_8 ⟨rfl, hc_7⟩
 have h_9 := h_6.same hc_7
 refine qV rfl (R.not (b := true) rfl) (qA (.bool false) rfl rfl ?_)
 refine WL.nil (thn_n ?_)
 refine WP.condF rfl ?_
 refine WP.seq (WP.reg ?_)
 refine qV rfl (R.loadA [] [(1, [(vi kd)]), (32, key.map vu8), (1, [(vi dm)]), (1, [(.slice qa qn qc)])] [] rfl isAgg96 sizeOf96 (h_9.ok _ M1) rfl rfl rfl rfl) ?_
 refine WL.call Try.call46 rfl rfl (c_may kd dm key qa qn qc hq.1 (hq.2.1) (hq.2.2.1) hz _ ) rfl ?_
 rintro _ w_11 ⟨rfl, hc_10⟩
 have h_12 := h_9.same hc_10
 refine qV rfl (R.not (b := true) rfl) (qM (.bool false) rfl rfl ?_)
 refine WL.want rfl rfl ?_
 refine qV rfl (R.fieldAddr (off' := 0) rfl underlying96 rfl sizeOf94 rfl rfl) ?_
 refine WL.want rfl rfl ?_
 refine qV rfl (R.load1 rfl isAgg94 (h_12.ok _ M1) Sg.h) ?_
 refine WL.want rfl rfl ?_
 refine qV rfl (R.bin rfl rfl (bi_eql (r := decide ((kd : Int) = 4)) rfl)) (qV rfl (R.pickF (v := (.bool (decide ((kd : Int) = 4)))) rfl rfl) (qA (.bool (decide ((kd : Int) = 4))) rfl rfl ?_))
 refine WL.nil (thn_n ?_)
 refine WP.condF (congrArg Value.bool (decide_eq_false hk4)) ?_
 refine WP.skip (inb_n (thn_n (WP.seq (WP.reg ?_))))
 refine qM (pO ob 0) rfl rfl (qV rfl (R.loadA [] [(1, [(vi kd)]), (32, key.map vu8), (1, [(vi dm)]), (1, [(.slice qa qn qc)])] [] rfl isAgg96 sizeOf96 (h_12.ok _ M1) rfl rfl rfl rfl) (qV rfl (R.makeFuncL (fi := []) (ca := [(pO b_1 0)]) rfl rfl) ?_))
 have h_19 := ((((((h_12.up J1).up J7).up J7).up J7).up J7).up J7).up J7
 have h32_w_23 := (Lgs.ok32 (h_19.ok _ M3).1)
 refine WL.call Try.call47 rfl rfl (c_ansG id ob mp ms df hms da dn dc u hdf la lc lx lg (by first | decide | omega) (by first | decide | omega) kd dm key data qa qn qc hq hdl b_1 _ h_19) rfl ?_
 rintro _ w_23 ⟨la_20, lc_21, lx_22, rfl, h_24⟩
 refine WL.storeA [] [(32, (zB 32).map vu8)] [(32, (anD id df dn u lg (kd, key, dm, data)).map vu8)] [] h_24 rfl rfl sizeOf23 Y7 (by decide) rfl rfl rfl rfl rfl rfl (sC (s8 (anD_len hdf h32_w_23)) sN) (fun w_25 h_26 => ?_)
 refine qA (vi 0) rfl rfl ?_
 refine WL.nil (thn_n (WP.ret ?_))
 refine ret_of results41 (RV.cell rfl (h_26.loadA (cs := (anD id df dn u lg (kd, key, dm, data)).map vu8) isAgg23 sizeOf23 M7 rfl rfl) (RV.tmp (v := (vi 0)) rfl RV.nil)) ?_
 have h_36 := (((((((((h_26.up J6).drop rfl).up J6).drop rfl).up J5).up J5).up J5).up J5).up J5).up J5
 exact ⟨_, _, _, rfl, h_36⟩
end Go.Proofs.Ytbhllplbbkmndaa

namespace Go.Proofs.Ytbhllplbbkmndaa
open Go.Proofs.Try
open Go.Vc Go.Orc Go.Sh Go.RowKit
set_option maxRecDepth 20000
theorem pl82 : ∀ fs, Try.prog.underlying 82 = some (.struct fs) → Places Try.prog fs [(0, 1), (1, 32), (33, 1), (34, 1), (35, 1), (36, 1)] := by
 intro fs h w; rw [underlying82] at h; cases h; simp
theorem pl96 : ∀ fs, Try.prog.underlying 96 = some (.struct fs) → Places Try.prog fs [(0, 1), (1, 32), (33, 1), (34, 1)] := by
 intro fs h w; rw [underlying96] at h; cases h; simp
theorem c_ONew {w00 : World} {L : List Ent} (id : Bool) (ms df : List UInt8) (hms : ms.length = 32) (a : Option Addr) (n cap : Nat) (hl : df.length = 32 * n) (hn : n ≤ 1000000) (w : World) (h_0 : HP w00 w (Ent.view a (df.map vu8) :: L)) :
  Cs Try.prog 17 [(.bool id), (.agg ⟨ms.map vu8⟩), (.slice a n cap)].toArray w (fun v w1 => ∃ ob mp da dc, v = .pointer (some ⟨ob, 0, none⟩) ∧ HP w00 w1 (Ent.blk ob .nw 82 [(1, [(.bool id)]), (32, ms.map vu8), (1, [(.slice da n dc)]), (1, [(vi 0)]), (1, [(.map (some mp))]), (1, [(.slice none 0 0)])] :: Ent.row none 0 0 114 67 [] :: Ent.obj mp .nw (.map (mArr ([] : Lg)) 0) :: Ent.pin (sblks []) (fun w => Lgs w [] ([] : Lg)) :: Ent.view da (df.map vu8) :: Ent.view a (df.map vu8) :: L)) := by
 refine Cs.of (n := 14) (args := [(.bool id), (.agg ⟨ms.map vu8⟩), (.slice a n cap)]) Try.func17 rfl rfl rfl ?_
 refine WP.seq (WP.reg ?_)
 refine WL.box (segs := [(32, ms.map vu8)]) h_0 rfl rfl (sC (s8 hms) sN) rfl (fun b_1 w_2 h_3 => ?_)
 refine qA (.pointer none) rfl rfl ?_
 refine WL.nil (thn_n (WP.seq ?_))
 refine WP.cutG (G := Nat × Option Addr × Nat × Nat) [6, 7, 8, 9, 10, 11, 12, 13] (fun (bY1Y6Y0Y0, aY1Y3Y0Y0, capY1Y3Y0Y0, bY1Y4Y0Y0) => [(6, (pO bY1Y6Y0Y0 0)), (7, (.bool id)), (8, (.agg ⟨ms.map vu8⟩)), (9, (.slice a n cap)), (10, (.slice aY1Y3Y0Y0 n capY1Y3Y0Y0)), (11, (.map (some bY1Y4Y0Y0))), (12, (.agg ⟨flat [(1, [(.bool id)]), (32, ms.map vu8), (1, [(.slice aY1Y3Y0Y0 n capY1Y3Y0Y0)]), (1, [(vi 0)]), (1, [(.map (some bY1Y4Y0Y0))]), (1, [(.slice none 0 0)])]⟩)), (13, (pO bY1Y6Y0Y0 0))]) (fun (bY1Y6Y0Y0, aY1Y3Y0Y0, capY1Y3Y0Y0, bY1Y4Y0Y0) w1 => HP w00 w1 (Ent.blk bY1Y6Y0Y0 .nw 82 [(1, [(.bool id)]), (32, ms.map vu8), (1, [(.slice aY1Y3Y0Y0 n capY1Y3Y0Y0)]), (1, [(vi 0)]), (1, [(.map (some bY1Y4Y0Y0))]), (1, [(.slice none 0 0)])] :: Ent.obj bY1Y4Y0Y0 .nw (.map (#[]) 0) :: Ent.row aY1Y3Y0Y0 n capY1Y3Y0Y0 23 32 (df.map vu8) :: Ent.blk b_1 .nw 23 [(32, ms.map vu8)] :: Ent.view a (df.map vu8) :: L)) ?_ ?_
 ·refine WP.drawT (SL w00.heap.size [.blk b_1 .nw 23 [(32, ms.map vu8)], .view a (df.map vu8)]) (.q 0 (.q 1 (.q 2 (.s2 3 4 (.s 4 (.q 5 (.s 6 (.q 7 .nil)))) (.s 3 (.q 5 (.s 6 (.q 7 .nil)))))))) (by kernel_rfl) (by kernel_rfl) rfl (by kernel_rfl) (fun w_4 hc_6 => (SL.cons ((h_3.same hc_6).ok _ M0) (SL.cons ((h_3.same hc_6).ok _ M1) (SL.nil _ _)))) (fun w_4 hc_6 => ?_)
  have h_5 := h_3.same hc_6
  refine qT rfl rfl (fun wq hS => R.move (v := (.bool id)) rfl) ?_
  refine qT rfl rfl (fun wq hS => R.loadA [] [(32, ms.map vu8)] [] (cs := ms.map vu8) rfl isAgg23 sizeOf23 (hS _ M0) rfl rfl rfl rfl) ?_
  refine qT rfl rfl (fun wq hS => R.move (v := (.slice a n cap)) rfl) ?_
  refine WT.s2 ?_ ?_
  ·refine oN rfl ?_
   refine WL.call Try.call34 rfl rfl (c_CloneD a n cap df hl (by omega) _ (viewV (h_5.ok _ M1))) rfl ?_
   rintro _ w_9 ⟨a_7, cap_8, rfl, hc_10, ho_11⟩
   have h_12 := h_5.gotRow hc_10 ho_11
   refine WL.nil ?_
   refine ⟨(N1_2 h_12.ok), ?_⟩
   refine WT.s (oN rfl ?_)
   refine WL.makeMap h_12 rfl (fun b_13 w_14 h_15 => ?_)
   refine WL.nil ?_
   refine ⟨(N2_3 h_15.ok), ?_⟩
   refine qT rfl rfl (fun wq hS => R.buildS (pl := [(0, 1), (1, 32), (33, 1), (34, 1), (35, 1), (36, 1)]) (zs := [(1, [(.bool false)]), (32, (zB 32).map vu8), (1, [(.slice none 0 0)]), (1, [(vi 0)]), (1, [(.map none)]), (1, [(.slice none 0 0)])]) (vs := [(0, (.bool id)), (1, (.agg ⟨ms.map vu8⟩)), (2, (.slice a_7 n cap_8)), (4, (.map (some b_13)))]) (out := [(1, [(.bool id)]), (32, ms.map vu8), (1, [(.slice a_7 n cap_8)]), (1, [(vi 0)]), (1, [(.map (some b_13))]), (1, [(.slice none 0 0)])]) underlying82 (zv typeInfo82 rfl) rfl (sC sV (sC (s8 lr) (sC sV (sC sV (sC sV (sC sV sN)))))) (pl82 _ underlying82) rfl (FillR.cons [] [(1, [(.bool false)])] [(1, [(.bool id)])] [(32, (zB 32).map vu8), (1, [(.slice none 0 0)]), (1, [(vi 0)]), (1, [(.map none)]), (1, [(.slice none 0 0)])] rfl rfl rfl rfl (sC sV sN) rfl rfl rfl (FillR.cons [(1, [(.bool id)])] [(32, (zB 32).map vu8)] [(32, ms.map vu8)] [(1, [(.slice none 0 0)]), (1, [(vi 0)]), (1, [(.map none)]), (1, [(.slice none 0 0)])] rfl rfl rfl rfl (sC (s8 hms) sN) rfl rfl rfl (FillR.cons [(1, [(.bool id)]), (32, ms.map vu8)] [(1, [(.slice none 0 0)])] [(1, [(.slice a_7 n cap_8)])] [(1, [(vi 0)]), (1, [(.map none)]), (1, [(.slice none 0 0)])] rfl rfl rfl rfl (sC sV sN) rfl rfl rfl (FillR.cons [(1, [(.bool id)]), (32, ms.map vu8), (1, [(.slice a_7 n cap_8)]), (1, [(vi 0)])] [(1, [(.map none)])] [(1, [(.map (some b_13))])] [(1, [(.slice none 0 0)])] rfl rfl rfl rfl (sC sV sN) rfl rfl rfl FillR.nil)))) rfl) ?_
   refine WT.s (oN rfl ?_)
   refine WL.box (segs := [(1, [(.bool id)]), (32, ms.map vu8), (1, [(.slice a_7 n cap_8)]), (1, [(vi 0)]), (1, [(.map (some b_13))]), (1, [(.slice none 0 0)])]) h_15 rfl rfl (sC sV (sC (s8 hms) (sC sV (sC sV (sC sV (sC sV sN)))))) rfl (fun b_17 w_18 h_19 => ?_)
   refine WL.nil ?_
   refine ⟨(N3_4 h_19.ok), ?_⟩
   refine qT rfl rfl (fun wq hS => R.assign (v := (pO b_17 0)) rfl) ?_
   refine WT.nil (thn_n ?_)
   exact ⟨(b_17, a_7, cap_8, b_13), (U4 rfl rfl rfl rfl (U4 rfl rfl rfl rfl (Ag.refl _ _))), ⟨rfl, rfl, rfl, rfl, rfl, rfl, rfl, rfl, trivial⟩, h_19⟩
  ·refine oN rfl ?_
   refine WL.makeMap h_5 rfl (fun b_20 w_21 h_22 => ?_)
   refine WL.nil ?_
   refine ⟨(N1_2 h_22.ok), ?_⟩
   refine WT.s (oN rfl ?_)
   refine WL.call Try.call34 rfl rfl (c_CloneD a n cap df hl (by omega) _ (viewV (h_22.ok _ M2))) rfl ?_
   rintro _ w_25 ⟨a_23, cap_24, rfl, hc_26, ho_27⟩
   have h_28 := h_22.gotRow hc_26 ho_27
   refine WL.nil ?_
   refine ⟨(N2_3 h_28.ok), ?_⟩
   refine qT rfl rfl (fun wq hS => R.buildS (pl := [(0, 1), (1, 32), (33, 1), (34, 1), (35, 1), (36, 1)]) (zs := [(1, [(.bool false)]), (32, (zB 32).map vu8), (1, [(.slice none 0 0)]), (1, [(vi 0)]), (1, [(.map none)]), (1, [(.slice none 0 0)])]) (vs := [(0, (.bool id)), (1, (.agg ⟨ms.map vu8⟩)), (2, (.slice a_23 n cap_24)), (4, (.map (some b_20)))]) (out := [(1, [(.bool id)]), (32, ms.map vu8), (1, [(.slice a_23 n cap_24)]), (1, [(vi 0)]), (1, [(.map (some b_20))]), (1, [(.slice none 0 0)])]) underlying82 (zv typeInfo82 rfl) rfl (sC sV (sC (s8 lr) (sC sV (sC sV (sC sV (sC sV sN)))))) (pl82 _ underlying82) rfl (FillR.cons [] [(1, [(.bool false)])] [(1, [(.bool id)])] [(32, (zB 32).map vu8), (1, [(.slice none 0 0)]), (1, [(vi 0)]), (1, [(.map none)]), (1, [(.slice none 0 0)])] rfl rfl rfl rfl (sC sV sN) rfl rfl rfl (FillR.cons [(1, [(.bool id)])] [(32, (zB 32).map vu8)] [(32, ms.map vu8)] [(1, [(.slice none 0 0)]), (1, [(vi 0)]), (1, [(.map none)]), (1, [(.slice none 0 0)])] rfl rfl rfl rfl (sC (s8 hms) sN) rfl rfl rfl (FillR.cons [(1, [(.bool id)]), (32, ms.map vu8)] [(1, [(.slice none 0 0)])] [(1, [(.slice a_23 n cap_24)])] [(1, [(vi 0)]), (1, [(.map none)]), (1, [(.slice none 0 0)])] rfl rfl rfl rfl (sC sV sN) rfl rfl rfl (FillR.cons [(1, [(.bool id)]), (32, ms.map vu8), (1, [(.slice a_23 n cap_24)]), (1, [(vi 0)])] [(1, [(.map none)])] [(1, [(.map (some b_20))])] [(1, [(.slice none 0 0)])] rfl rfl rfl rfl (sC sV sN) rfl rfl rfl FillR.nil)))) rfl) ?_
   refine WT.s (oN rfl ?_)
   refine WL.box (segs := [(1, [(.bool id)]), (32, ms.map vu8), (1, [(.slice a_23 n cap_24)]), (1, [(vi 0)]), (1, [(.map (some b_20))]), (1, [(.slice none 0 0)])]) h_28 rfl rfl (sC sV (sC (s8 hms) (sC sV (sC sV (sC sV (sC sV sN)))))) rfl (fun b_30 w_31 h_32 => ?_)
   refine WL.nil ?_
   refine ⟨(N3_4 h_32.ok), ?_⟩
   refine qT rfl rfl (fun wq hS => R.assign (v := (pO b_30 0)) rfl) ?_
   refine WT.nil (thn_n ?_)
   have h_37 := ((((h_32.up J4).up J4).up J3).up J4).up J4
   exact ⟨(b_30, a_23, cap_24, b_20), (U4 rfl rfl rfl rfl (U4 rfl rfl rfl rfl (Ag.refl _ _))), ⟨rfl, rfl, rfl, rfl, rfl, rfl, rfl, rfl, trivial⟩, h_37⟩
 ·rintro ⟨b_41, a_42, cap_43, b_44⟩ J_38 w_39 h_40
  refine thn_n (WP.ret ?_)
  refine ret_of results17 (RV.tmp (v := (pO b_41 0)) rfl RV.nil) ?_
  have h_45 := h_40.up J2
  have h_46 := h_45.rowView
  have h_47 := h_46.rowNil 114 67
  have h_48 := HP_logNil h_47
  have h_56 := (((((((h_48.up J5).drop rfl).up J5).up J3).up J2).up J5).up J4).up J5
  exact ⟨_, _, _, _, rfl, h_56⟩
theorem c_joined (a : Option Addr) (n cap : Nat) (xs : List Value) (ls : List (List UInt8)) (hln : ls.length = n) (hb : ls.flatten.length ≤ 1099511627776) (hnb : n ≤ 1099511627776) (w : World) (hv : View w a xs) (hs : Sls w xs ls) :
  Cs Try.prog 42 [(.slice a n cap)].toArray w (fun v w1 => ∃ a cap, v = .slice a ls.flatten.length cap ∧ Chg w w1 [] ∧ Own w.heap.size w1 5 1 a ls.flatten.length cap ((ls.flatten).map vu8)) := by
 refine Cs.of (n := 5) (args := [(.slice a n cap)]) Try.func42 rfl rfl rfl ?_
 have h_0 := HP.init w
 have h_01 := h_0.old (View.arg hv) (fun f hf => by cases hf)
 have h_00 := h_01.old hs.pin (fun f hf => by rw [List.mem_singleton] at hf; subst hf; intro hm; simp [Ent.mut] at hm)
 have hxl : xs.length = n := hs.len.trans hln
 refine WP.seq (WP.reg ?_)
 refine qA (.slice none 0 0) rfl rfl ?_
 refine WL.nil (thn_n (WP.seq (WP.reg ?_)))
 refine qM (.slice a n cap) rfl rfl ?_
 refine WL.call Try.call52 rfl rfl (c_Concat a n cap xs ls hln (by omega) (by omega) _ (viewV (h_00.ok _ M1)) (h_00.ok _ M0).1) rfl ?_
 rintro _ w_3 ⟨a_1, cap_2, rfl, hc_4, ho_5⟩
 have h_6 := h_00.gotRow hc_4 ho_5
 refine qA (.slice a_1 ls.flatten.length cap_2) rfl rfl ?_
 refine WL.nil (thn_n (WP.ret ?_))
 refine ret_of results42 (RV.tmp (v := (.slice a_1 ls.flatten.length cap_2)) rfl RV.nil) ?_
 exact ⟨_, _, rfl, h_6.chgS, h_6.ok _ M0⟩

theorem c_oDigest {w00 : World} {L : List Ent} (id : Bool) (ob mp : Nat) (ms df : List UInt8) (hms : ms.length = 32) (da : Option Addr) (dn dc u : Nat) (hdf : df.length = 32 * dn) (la : Option Addr) (lc : Nat) (lx : List Value) (lg : Lg) (hu : u ≤ 1000000) (hlg : lg.length ≤ 1000000) (a : Option Addr) (n cap : Nat) (xs : List Value) (ls : List (List UInt8)) (hln : ls.length = n) (dm : Int) (hdm : 1 ≤ dm ∧ dm ≤ 16) (hb : ls.flatten.length ≤ 1000000000) (hnb : n ≤ 1000000) (w : World) (h_0 : HP w00 w (Ent.blk ob .nw 82 [(1, [(.bool id)]), (32, ms.map vu8), (1, [(.slice da dn dc)]), (1, [(vi ((u : Nat) : Int))]), (1, [(.map (some mp))]), (1, [(.slice la lg.length lc)])] :: Ent.row la lg.length lc 114 67 lx :: Ent.obj mp .nw (.map (mArr lg) lg.length) :: Ent.pin (sblks lx) (fun w => Lgs w lx lg) :: Ent.view da (df.map vu8) :: Ent.pin (sblks xs) (fun w => Sls w xs ls) :: Ent.view a xs :: L)) :
  Cs Try.prog 30 [(.pointer (some ⟨ob, 0, none⟩)), (vi dm), (.slice a n cap)].toArray w (fun v w1 => ∃ la' lc' lx', v = (.tuple [(.agg ⟨(anD id df dn u lg (1, (List.replicate 32 (0 : UInt8)), dm, ls.flatten)).map vu8⟩), (vi 0)].toArray) ∧ HP w00 w1 (Ent.blk ob .nw 82 [(1, [(.bool id)]), (32, ms.map vu8), (1, [(.slice da dn dc)]), (1, [(vi (((anU id u lg (1, (List.replicate 32 (0 : UInt8)), dm, ls.flatten)) : Nat) : Int))]), (1, [(.map (some mp))]), (1, [(.slice la' ((anL id df dn u lg (1, (List.replicate 32 (0 : UInt8)), dm, ls.flatten)).length) lc')])] :: Ent.row la' ((anL id df dn u lg (1, (List.replicate 32 (0 : UInt8)), dm, ls.flatten)).length) lc' 114 67 lx' :: Ent.obj mp .nw (.map (mArr (anL id df dn u lg (1, (List.replicate 32 (0 : UInt8)), dm, ls.flatten))) ((anL id df dn u lg (1, (List.replicate 32 (0 : UInt8)), dm, ls.flatten)).length)) :: Ent.pin (sblks lx') (fun w => Lgs w lx' (anL id df dn u lg (1, (List.replicate 32 (0 : UInt8)), dm, ls.flatten))) :: Ent.view da (df.map vu8) :: Ent.pin (sblks xs) (fun w => Sls w xs ls) :: Ent.view a xs :: L)) := by
 have hxs := (h_0.ok _ M5).1
 have hxl : xs.length = n := (Sls.len hxs).trans hln
 refine Cs.of (n := 16) (args := [(pO ob 0), (vi dm), (.slice a n cap)]) Try.func30 rfl rfl rfl ?_
 refine WP.seq (WP.reg ?_)
 refine WL.alloc (segs := [(32, (zB 32).map vu8)]) h_0 (zv typeInfo23 rfl) rfl (sC (s8 lr) sN) rfl (fun b_1 w_2 h_3 => ?_)
 refine qA (vi 0) rfl rfl ?_
 refine WL.nil (thn_n (WP.seq (WP.reg ?_)))
 refine qM (pO ob 0) rfl rfl (qM (vi dm) rfl rfl (qM (.slice a n cap) rfl rfl ?_))
 refine WL.call Try.call42 rfl rfl (c_joined a n cap xs ls hln (by omega) (by omega) _ (viewV (h_3.ok _ M7)) (h_3.ok _ M6).1) rfl ?_
 rintro _ w_6 ⟨a_4, cap_5, rfl, hc_7, ho_8⟩
 have h_9 := h_3.gotRow hc_7 ho_8
 refine qV rfl (R.buildS (pl := [(0, 1), (1, 32), (33, 1), (34, 1)]) (zs := [(1, [(vi 0)]), (32, (zB 32).map vu8), (1, [(vi 0)]), (1, [(.slice none 0 0)])]) (vs := [(0, (vi 1)), (2, (vi dm)), (3, (.slice a_4 ls.flatten.length cap_5))]) (out := [(1, [(vi 1)]), (32, (zB 32).map vu8), (1, [(vi dm)]), (1, [(.slice a_4 ls.flatten.length cap_5)])]) underlying96 (zv typeInfo96 rfl) rfl (sC sV (sC (s8 lr) (sC sV (sC sV sN)))) (pl96 _ underlying96) rfl (FillR.cons [] [(1, [(vi 0)])] [(1, [(vi 1)])] [(32, (zB 32).map vu8), (1, [(vi 0)]), (1, [(.slice none 0 0)])] rfl rfl rfl rfl (sC sV sN) rfl rfl rfl (FillR.cons [(1, [(vi 1)]), (32, (zB 32).map vu8)] [(1, [(vi 0)])] [(1, [(vi dm)])] [(1, [(.slice none 0 0)])] rfl rfl rfl rfl (sC sV sN) rfl rfl rfl (FillR.cons [(1, [(vi 1)]), (32, (zB 32).map vu8), (1, [(vi dm)])] [(1, [(.slice none 0 0)])] [(1, [(.slice a_4 ls.flatten.length cap_5)])] [] rfl rfl rfl rfl (sC sV sN) rfl rfl rfl FillR.nil))) rfl) ?_
 have h_11 := h_9.rowView
 have h_16 := ((((h_11.up J6).up J6).up J6).up J6).up J6
 have h32_w_20 := (Lgs.ok32 (h_16.ok _ M3).1)
 refine WL.call Try.call41 rfl rfl (c_oAsk id ob mp ms df hms da dn dc u hdf la lc lx lg hu hlg 1 dm (zB 32) ls.flatten a_4 ls.flatten.length cap_5 ⟨lr, by show (1 : Int) ≤ 1 ∧ (1 : Int) ≤ 4; omega, by show (1 : Int) ≤ dm ∧ (dm : Int) ≤ 16; omega, by show List.length ls.flatten ≤ 1000000000; first | decide | (simp only [List.length_append, leN_len]; omega) | omega⟩ (rfl : List.length ls.flatten = ls.flatten.length) (by decide) (fun _ => rfl) _ h_16) rfl ?_
 rintro _ w_20 ⟨la_17, lc_18, lx_19, rfl, h_21⟩
 refine qV rfl (R.extract rfl rfl) (qV rfl (R.extract rfl rfl) ?_)
 refine WL.storeA [] [(32, (zB 32).map vu8)] [(32, (anD id df dn u lg (1, List.replicate 32 (0 : UInt8), dm, ls.flatten)).map vu8)] [] h_21 rfl rfl sizeOf23 Y6 (by decide) rfl rfl rfl rfl rfl rfl (sC (s8 (anD_len hdf h32_w_20)) sN) (fun w_22 h_23 => ?_)
 refine qA (vi 0) rfl rfl ?_
 refine WL.nil (thn_n (WP.ret ?_))
 refine ret_of results30 (RV.cell rfl (h_23.loadA (cs := (anD id df dn u lg (1, List.replicate 32 (0 : UInt8), dm, ls.flatten)).map vu8) isAgg23 sizeOf23 M6 rfl rfl) (RV.tmp (v := (vi 0)) rfl RV.nil)) ?_
 have h_34 := ((((((((((h_23.up J5).drop rfl).up J5).drop rfl).up J6).up J6).up J6).up J6).up J6).up J6).up J6
 exact ⟨_, _, _, rfl, h_34⟩
end Go.Proofs.Ytbhllplbbkmndaa

namespace Go.Orc
open Go.Vc Go.RowKit
section
variable {P : Program} {n : Nat} {ops : Array Oper} {Q : Exit → Fr → World → Prop} {rest : List Oper} {F : Fr} {w w' w0 : World} {L : List Ent} {ty : TypeId} {pos : String} {after : Array Edge}
theorem WL_makeSlA {d m s : Nat} {T E : TypeId} {x y : Operand} {kx ky : IntKind} {i : TypeInfo} {z : Value} (h : HP w0 w L) (hx : evO F x = .int kx (m : Int)) (hy : evO F y = .int ky (m : Int)) (hT : P.underlying T = some (.slice E)) (hi : P.info? E = some i) (hz : i.zero = some (.agg ⟨List.replicate s z⟩)) (hs : i.size = s) (hs1 : 1 ≤ s) (h1 : z.oneCell' = true)
    (hb : i.bytes * m ≤ 281474976710656) (hm : m ≤ 140737488355328) (hd : Nat.blt d n = true) (k : ∀ b w', HP w0 w' (.row (some ⟨b, 0, none⟩) m m E s (List.replicate (m * s) z) :: L) → WL P n ops Q rest (upd F d (.slice (some ⟨b, 0, none⟩) m m)) w') :
    WL P n ops Q (⟨some d, .makeSlice T x y, ty, pos, after, none⟩ :: rest) F w := by
  have hw : IntKind.i64.wrap (m : Int) = m := w64i (by omega)
  have hsz : ∀ w, (sizeOf E).run P w = .ok s w := fun w => by simp [sizeOf, typeInfo, hi, hs]
  have hti : ∀ w, (typeInfo E).run P w = .ok i w := fun w => by simp [typeInfo, hi]
  have hzv : ∀ w, (zeroValue E).run P w = .ok (.agg ⟨List.replicate s z⟩) w := zv hti hz
  have c1 : ¬ (((m : Int) < 0 ∨ 281474976710656 < (i.bytes : Int) * (m : Int)) ∨ (m : Int) < 0) := by
    have : (i.bytes : Int) * (m : Int) = ((i.bytes * m : Nat) : Int) := by rw [Int.natCast_mul]
    rw [this]; omega
  have hcells : Array.map (fun x => (Array.replicate s z)[x % s]!) (Array.range (m * s)) = Array.replicate (m * s) z := by
    apply Array.ext
    · simp
    · intro j h1 h2
      have : j % s < s := Nat.mod_lt _ (by omega)
      simp [this]
  have hmm : m ≤ maxLen := by unfold maxLen; omega
  have ok : SsOk [(m * s, List.replicate (m * s) z)] := SsOk.cons ⟨by simp, by intro v hv; obtain ⟨_, rfl⟩ := List.mem_replicate.1 hv; exact h1⟩ SsOk.nil
  have hrun : (Instr.makeSlice T (.int kx m) (.int ky m)).run P w = .ok (.slice (some ⟨w.heap.size, 0, none⟩) m m) (w.alloc (.cells ⟨List.replicate (m * s) z⟩ E)) := by
    by_cases h0 : m = 0
    · subst h0
      simp [Instr.makeSlice, run_underlying hT, asInt, asIntOf, hti, hsz, newRow, show IntKind.i64.wrap 0 = 0 from hw]
      have e0 : Array.map (fun _ => (default : Value)) (Array.range 0) = (⟨[]⟩ : Array Value) := by apply Array.ext'; simp
      rw [e0]
    · have h00 : ¬ m * s = 0 := by
        intro e
        rcases Nat.mul_eq_zero.1 e with e | e <;> omega
      simp [Instr.makeSlice, run_underlying hT, asInt, asIntOf, hw, hti, hsz, newRow, hzv, h0, Value.cells, show ¬ s = 0 by omega]
      rw [if_neg c1]; simp [h00, hcells]
  obtain ⟨_, hh⟩ := new_core (P := P) (v := .agg ⟨List.replicate (m * s) z⟩) (T := E) h rfl ok
  have hh2 := HP.blkRow (m := m) (s := s) hh At.h (by omega) hmm
  exact WL.val rfl rfl hd (by simp only [execOp, hx, hy, Sem.run_bind, hrun, Result.andThen_ok, Sem.run_pure]; rfl) (k _ _ hh2)
end
end Go.Orc

namespace Go.Proofs.Ytbhllplbbkmndaa
open Go.Proofs.Try
open Go.Vc Go.Orc Go.Sh Go.RowKit
set_option maxRecDepth 20000
theorem el52 : ElT Try.prog 52 3 1 8 := ElT.mk' underlying52 (i := Try.t3) rfl rfl rfl rfl rfl rfl
def wayN (pg : Nat) : List Nat := [(128 + pg) / 2 ^ 0, (128 + pg) / 2 ^ 1, (128 + pg) / 2 ^ 2, (128 + pg) / 2 ^ 3, (128 + pg) / 2 ^ 4, (128 + pg) / 2 ^ 5, (128 + pg) / 2 ^ 6, (128 + pg) / 2 ^ 7]
def wayL (pg : Nat) : List Int := (wayN pg).map Int.ofNat
theorem same_ints {xs ys : List Int} (h : xs.length = ys.length) (hg : ∀ j, j < xs.length → xs.getD j 0 = ys.getD j 0) : xs = ys :=
 List.ext_getElem h fun j h1 h2 => by have := hg j h1; simpa [h1, h2] using this
def bsL (pg : Nat) : List Int := ((wayN pg).take 7).map fun x => Int.ofNat (x ^^^ 1)
theorem c_prot_t (pg : Nat) (h : pg < 128) (w : World) :
  Cs Try.prog 29 [(vi ((pg : Nat) : Int))].toArray w (fun v w1 => v = (.bool true) ∧ Chg w w1 []) := by
 refine Cs.of (n := 9) (args := [(vn pg)]) Try.func29 rfl rfl rfl ?_
 have h_0 := HP.init w
 refine WP.seq (WP.reg ?_)
 refine qA (.bool false) rfl rfl ?_
 refine WL.nil (thn_n (WP.seq (WP.reg ?_)))
 refine qM (vn pg) rfl rfl (qV rfl (R.bin rfl rfl (bi_geq (r := decide ((((pg : Nat) : Int) : Int) ≥ 0)) rfl)) (qM (.bool (decide ((((pg : Nat) : Int) : Int) ≥ 0))) rfl rfl ?_))
 refine WL.want rfl (congrArg Value.bool (decide_eq_true (by omega))) ?_
 refine qM (vn pg) rfl rfl ?_
 refine WL.want rfl (congrArg Value.bool (decide_eq_true (by omega))) ?_
 refine qV rfl (R.bin rfl rfl (bi_lss (r := decide ((((pg : Nat) : Int) : Int) < 128)) rfl)) (qV rfl (R.pickT (v := (.bool (decide ((((pg : Nat) : Int) : Int) < 128)))) (congrArg Value.bool (decide_eq_true (by omega))) rfl) (qA (.bool (decide ((((pg : Nat) : Int) : Int) < 128))) rfl rfl ?_))
 refine WL.nil (thn_n (WP.ret ?_))
 refine ret_of results29 (RV.tmp (v := (.bool (decide ((((pg : Nat) : Int) : Int) < 128)))) rfl RV.nil) ?_
 exact ⟨congrArg Value.bool (decide_eq_true (by omega)), h_0.chgS⟩

theorem c_prot_f (pg : Int) (h : ¬ (0 ≤ pg ∧ pg < 128)) (w : World) :
  Cs Try.prog 29 [(vi pg)].toArray w (fun v w1 => v = (.bool false) ∧ Chg w w1 []) := by
 refine Cs.of (n := 9) (args := [(vi pg)]) Try.func29 rfl rfl rfl ?_
 have h_0 := HP.init w
 refine WP.seq (WP.reg ?_)
 refine qA (.bool false) rfl rfl ?_
 refine WL.nil (thn_n (WP.seq (WP.reg ?_)))
 refine qM (vi pg) rfl rfl (qV rfl (R.bin rfl rfl (bi_geq (r := decide ((pg : Int) ≥ 0)) rfl)) (qM (.bool (decide ((pg : Int) ≥ 0))) rfl rfl ?_))
 rcases Bool.eq_false_or_eq_true (decide ((pg : Int) ≥ 0)) with c_1 | c_1
 ·have p_2 := of_decide_eq_true c_1
  refine WL.want rfl (congrArg Value.bool c_1) ?_
  refine qM (vi pg) rfl rfl ?_
  refine WL.want rfl (congrArg Value.bool c_1) ?_
  refine qV rfl (R.bin rfl rfl (bi_lss (r := decide ((pg : Int) < 128)) rfl)) (qV rfl (R.pickT (v := (.bool (decide ((pg : Int) < 128)))) (congrArg Value.bool c_1) rfl) (qA (.bool (decide ((pg : Int) < 128))) rfl rfl ?_))
  refine WL.nil (thn_n (WP.ret ?_))
  refine ret_of results29 (RV.tmp (v := (.bool (decide ((pg : Int) < 128)))) rfl RV.nil) ?_
  exact ⟨congrArg Value.bool (decide_eq_false (by omega)), h_0.chgS⟩
 ·have p_3 := of_decide_eq_false c_1
  refine WL.skip rfl (congrArg Value.bool c_1) rfl ?_
  refine WL.skip rfl (congrArg Value.bool c_1) rfl ?_
  refine qV rfl (R.pickF (v := (.bool false)) (congrArg Value.bool c_1) rfl) (qA (.bool false) rfl rfl ?_)
  refine WL.nil (thn_n (WP.ret ?_))
  refine ret_of results29 (RV.tmp (v := (.bool false)) rfl RV.nil) ?_
  exact ⟨rfl, h_0.chgS⟩

theorem c_mayP_t (pg : Nat) (h : pg < 128) (w : World) :
  Cs Try.prog 6 [(vi ((pg : Nat) : Int))].toArray w (fun v w1 => v = (.bool true) ∧ Chg w w1 []) := by
 refine Cs.of (n := 9) (args := [(vn pg)]) Try.func6 rfl rfl rfl ?_
 have h_0 := HP.init w
 refine WP.seq (WP.reg ?_)
 refine qA (.bool false) rfl rfl ?_
 refine WL.nil (thn_n (WP.seq (WP.reg ?_)))
 refine qM (vn pg) rfl rfl (qV rfl (R.bin rfl rfl (bi_geq (r := decide ((((pg : Nat) : Int) : Int) ≥ 0)) rfl)) (qM (.bool (decide ((((pg : Nat) : Int) : Int) ≥ 0))) rfl rfl ?_))
 refine WL.want rfl (congrArg Value.bool (decide_eq_true (by omega))) ?_
 refine qM (vn pg) rfl rfl ?_
 refine WL.want rfl (congrArg Value.bool (decide_eq_true (by omega))) ?_
 refine qV rfl (R.bin rfl rfl (bi_lss (r := decide ((((pg : Nat) : Int) : Int) < 128)) rfl)) (qV rfl (R.pickT (v := (.bool (decide ((((pg : Nat) : Int) : Int) < 128)))) (congrArg Value.bool (decide_eq_true (by omega))) rfl) (qA (.bool (decide ((((pg : Nat) : Int) : Int) < 128))) rfl rfl ?_))
 refine WL.nil (thn_n (WP.ret ?_))
 refine ret_of results6 (RV.tmp (v := (.bool (decide ((((pg : Nat) : Int) : Int) < 128)))) rfl RV.nil) ?_
 exact ⟨congrArg Value.bool (decide_eq_true (by omega)), h_0.chgS⟩

theorem c_mayP_f (pg : Int) (h : ¬ (0 ≤ pg ∧ pg < 128)) (w : World) :
  Cs Try.prog 6 [(vi pg)].toArray w (fun v w1 => v = (.bool false) ∧ Chg w w1 []) := by
 refine Cs.of (n := 9) (args := [(vi pg)]) Try.func6 rfl rfl rfl ?_
 have h_0 := HP.init w
 refine WP.seq (WP.reg ?_)
 refine qA (.bool false) rfl rfl ?_
 refine WL.nil (thn_n (WP.seq (WP.reg ?_)))
 refine qM (vi pg) rfl rfl (qV rfl (R.bin rfl rfl (bi_geq (r := decide ((pg : Int) ≥ 0)) rfl)) (qM (.bool (decide ((pg : Int) ≥ 0))) rfl rfl ?_))
 rcases Bool.eq_false_or_eq_true (decide ((pg : Int) ≥ 0)) with c_1 | c_1
 ·have p_2 := of_decide_eq_true c_1
  refine WL.want rfl (congrArg Value.bool c_1) ?_
  refine qM (vi pg) rfl rfl ?_
  refine WL.want rfl (congrArg Value.bool c_1) ?_
  refine qV rfl (R.bin rfl rfl (bi_lss (r := decide ((pg : Int) < 128)) rfl)) (qV rfl (R.pickT (v := (.bool (decide ((pg : Int) < 128)))) (congrArg Value.bool c_1) rfl) (qA (.bool (decide ((pg : Int) < 128))) rfl rfl ?_))
  refine WL.nil (thn_n (WP.ret ?_))
  refine ret_of results6 (RV.tmp (v := (.bool (decide ((pg : Int) < 128)))) rfl RV.nil) ?_
  exact ⟨congrArg Value.bool (decide_eq_false (by omega)), h_0.chgS⟩
 ·have p_3 := of_decide_eq_false c_1
  refine WL.skip rfl (congrArg Value.bool c_1) rfl ?_
  refine WL.skip rfl (congrArg Value.bool c_1) rfl ?_
  refine qV rfl (R.pickF (v := (.bool false)) (congrArg Value.bool c_1) rfl) (qA (.bool false) rfl rfl ?_)
  refine WL.nil (thn_n (WP.ret ?_))
  refine ret_of results6 (RV.tmp (v := (.bool false)) rfl RV.nil) ?_
  exact ⟨rfl, h_0.chgS⟩

theorem c_Way_t (pg : Nat) (h : pg < 128) (w : World) :
  Cs Try.prog 15 [(vi ((pg : Nat) : Int))].toArray w (fun v w1 => ∃ a cap, v = .tuple [.slice a 8 cap, vi 0].toArray ∧ Chg w w1 [] ∧ Own w.heap.size w1 3 1 a 8 cap ((wayL pg).map vi64)) := by
 refine Cs.of (n := 21) (args := [(vn pg)]) Try.func15 rfl rfl rfl ?_
 have h_0 := HP.init w
 refine WP.seq (WP.reg ?_)
 refine qA (.slice none 0 0) rfl rfl (qA (vi 0) rfl rfl ?_)
 refine WL.nil (thn_n (WP.seq (WP.seq (WP.reg ?_))))
 refine qM (vn pg) rfl rfl ?_
 refine WL.call Try.call29 rfl rfl (c_prot_t pg (by omega) _ ) rfl ?_
 rintro _ w_2 ⟨rfl, hc_1⟩
 have h_3 := h_0.same hc_1
 refine qV rfl (R.not (b := true) rfl) ?_
 refine WL.nil (thn_n ?_)
 refine WP.condF rfl ?_
 refine WP.skip (thn_n (WP.seq (WP.reg ?_)))
 refine qA (.slice none 0 0) rfl rfl ?_
 refine WL.nil (thn_n (WP.seq (WP.seq (WP.reg ?_))))
 refine qM (vi 0) rfl rfl ?_
 refine WL.nil (thn_n (WP.block ?_))
 refine WP.loopU (WI.round ?_)
 refine WP.seq (WP.reg ?_)
 refine qV rfl (R.bin rfl rfl (bi_lss (r := true) (by decide))) ?_
 refine WL.nil (thn_n (WP.seq ?_))
 refine WP.condT rfl ?_
 refine WP.skip (thn_n (WP.seq (WP.block (WP.seq (WP.reg ?_)))))
 refine qM (vi 0) rfl rfl (qA (vi 0) rfl rfl ?_)
 refine WL.nil (thn_n (WP.reg ?_))
 refine qM (.slice none 0 0) rfl rfl (qM (vn pg) rfl rfl (qV rfl (R.bin rfl rfl (bi_add (c := ((128 + pg : Nat) : Int)) (by omega) (by omega))) (qM (vi 0) rfl rfl (qV rfl (R.binR (v := (vn ((128 + pg) / 2 ^ 0))) rfl rfl (run_shrN _ _ _ (128 + pg) _ 0 (by omega))) ?_))))
 refine WL.buildSl (vs := [(0, (vn ((128 + pg) / 2 ^ 0)))]) (cs := ([(((128 + pg) / 2 ^ 0 : Nat) : Int)] : List Int).map vi64) h_3 underlying52 sizeOf3 (zv typeInfo3 rfl) rfl rfl (by kernel_rfl) rfl (one_i64 _) rfl rfl (fun b_4 w_5 h_6 => ?_)
 have h_7 := h_6.rowNil 3 1
 refine WL.append (km := 1) (xs := []) (ys := ([(((128 + pg) / 2 ^ 0 : Nat) : Int)] : List Int).map vi64) (zs := ([(((128 + pg) / 2 ^ 0 : Nat) : Int)] : List Int).map vi64) h_7 rfl rfl el52 (viewB (h_7.ok _ M1) Sg.h) ((len_map (rfl : List.length ([(((128 + pg) / 2 ^ 0 : Nat) : Int)] : List Int) = 1)).trans (Nat.mul_one _).symm) (one_i64 _) rfl rfl (by omega) (by omega) (fun _ _ => At.h) rfl (fun a_8 c_9 w_10 h_11 => ?_)
 refine qA (.slice a_8 1 c_9) rfl rfl ?_
 refine WL.nil (inb_n (thn_n (WP.reg ?_)))
 refine qV rfl (R.bin rfl rfl (bi_add (c := 1) (by omega) (by omega))) (qM (vi 1) rfl rfl ?_)
 refine WL.nil (thn_n ?_)
 refine WI.round ?_
 refine WP.seq (WP.reg ?_)
 refine qV rfl (R.bin rfl rfl (bi_lss (r := true) (by decide))) ?_
 refine WL.nil (thn_n (WP.seq ?_))
 refine WP.condT rfl ?_
 refine WP.skip (thn_n (WP.seq (WP.block (WP.seq (WP.reg ?_)))))
 refine qM (vi 1) rfl rfl (qA (vi 1) rfl rfl ?_)
 refine WL.nil (thn_n (WP.reg ?_))
 refine qM (.slice a_8 1 c_9) rfl rfl (qM (vn pg) rfl rfl (qV rfl (R.bin rfl rfl (bi_add (c := ((128 + pg : Nat) : Int)) (by omega) (by omega))) (qM (vi 1) rfl rfl (qV rfl (R.binR (v := (vn ((128 + pg) / 2 ^ 1))) rfl rfl (run_shrN _ _ _ (128 + pg) _ 1 (by omega))) ?_))))
 refine WL.buildSl (vs := [(0, (vn ((128 + pg) / 2 ^ 1)))]) (cs := ([(((128 + pg) / 2 ^ 1 : Nat) : Int)] : List Int).map vi64) h_11 underlying52 sizeOf3 (zv typeInfo3 rfl) rfl rfl (by kernel_rfl) rfl (one_i64 _) rfl rfl (fun b_12 w_13 h_14 => ?_)
 refine WL.append (km := 2) (xs := ([(((128 + pg) / 2 ^ 0 : Nat) : Int)] : List Int).map vi64) (ys := ([(((128 + pg) / 2 ^ 1 : Nat) : Int)] : List Int).map vi64) (zs := (([(((128 + pg) / 2 ^ 0 : Nat) : Int)] : List Int) ++ ([(((128 + pg) / 2 ^ 1 : Nat) : Int)] : List Int)).map vi64) h_14 rfl rfl el52 (viewB (h_14.ok _ M0) Sg.h) ((len_map (rfl : List.length ([(((128 + pg) / 2 ^ 1 : Nat) : Int)] : List Int) = 1)).trans (Nat.mul_one _).symm) (one_i64 _) (by simp only [List.map_append, List.map_nil]) rfl (by omega) (by omega) (fun _ _ => Y1) rfl (fun a_15 c_16 w_17 h_18 => ?_)
 refine qA (.slice a_15 2 c_16) rfl rfl ?_
 refine WL.nil (inb_n (thn_n (WP.reg ?_)))
 refine qV rfl (R.bin rfl rfl (bi_add (c := 2) (by omega) (by omega))) (qM (vi 2) rfl rfl ?_)
 refine WL.nil (thn_n ?_)
 refine WI.round ?_
 refine WP.seq (WP.reg ?_)
 refine qV rfl (R.bin rfl rfl (bi_lss (r := true) (by decide))) ?_
 refine WL.nil (thn_n (WP.seq ?_))
 refine WP.condT rfl ?_
 refine WP.skip (thn_n (WP.seq (WP.block (WP.seq (WP.reg ?_)))))
 refine qM (vi 2) rfl rfl (qA (vi 2) rfl rfl ?_)
 refine WL.nil (thn_n (WP.reg ?_))
 refine qM (.slice a_15 2 c_16) rfl rfl (qM (vn pg) rfl rfl (qV rfl (R.bin rfl rfl (bi_add (c := ((128 + pg : Nat) : Int)) (by omega) (by omega))) (qM (vi 2) rfl rfl (qV rfl (R.binR (v := (vn ((128 + pg) / 2 ^ 2))) rfl rfl (run_shrN _ _ _ (128 + pg) _ 2 (by omega))) ?_))))
 refine WL.buildSl (vs := [(0, (vn ((128 + pg) / 2 ^ 2)))]) (cs := ([(((128 + pg) / 2 ^ 2 : Nat) : Int)] : List Int).map vi64) h_18 underlying52 sizeOf3 (zv typeInfo3 rfl) rfl rfl (by kernel_rfl) rfl (one_i64 _) rfl rfl (fun b_19 w_20 h_21 => ?_)
 refine WL.append (km := 3) (xs := (([(((128 + pg) / 2 ^ 0 : Nat) : Int)] : List Int) ++ ([(((128 + pg) / 2 ^ 1 : Nat) : Int)] : List Int)).map vi64) (ys := ([(((128 + pg) / 2 ^ 2 : Nat) : Int)] : List Int).map vi64) (zs := ((([(((128 + pg) / 2 ^ 0 : Nat) : Int)] : List Int) ++ ([(((128 + pg) / 2 ^ 1 : Nat) : Int)] : List Int)) ++ ([(((128 + pg) / 2 ^ 2 : Nat) : Int)] : List Int)).map vi64) h_21 rfl rfl el52 (viewB (h_21.ok _ M0) Sg.h) ((len_map (rfl : List.length ([(((128 + pg) / 2 ^ 2 : Nat) : Int)] : List Int) = 1)).trans (Nat.mul_one _).symm) (one_i64 _) (by simp only [List.map_append, List.map_nil]) rfl (by omega) (by omega) (fun _ _ => Y2) rfl (fun a_22 c_23 w_24 h_25 => ?_)
 refine qA (.slice a_22 3 c_23) rfl rfl ?_
 refine WL.nil (inb_n (thn_n (WP.reg ?_)))
 refine qV rfl (R.bin rfl rfl (bi_add (c := 3) (by omega) (by omega))) (qM (vi 3) rfl rfl ?_)
 refine WL.nil (thn_n ?_)
 refine WI.round ?_
 refine WP.seq (WP.reg ?_)
 refine qV rfl (R.bin rfl rfl (bi_lss (r := true) (by decide))) ?_
 refine WL.nil (thn_n (WP.seq ?_))
 refine WP.condT rfl ?_
 refine WP.skip (thn_n (WP.seq (WP.block (WP.seq (WP.reg ?_)))))
 refine qM (vi 3) rfl rfl (qA (vi 3) rfl rfl ?_)
 refine WL.nil (thn_n (WP.reg ?_))
 refine qM (.slice a_22 3 c_23) rfl rfl (qM (vn pg) rfl rfl (qV rfl (R.bin rfl rfl (bi_add (c := ((128 + pg : Nat) : Int)) (by omega) (by omega))) (qM (vi 3) rfl rfl (qV rfl (R.binR (v := (vn ((128 + pg) / 2 ^ 3))) rfl rfl (run_shrN _ _ _ (128 + pg) _ 3 (by omega))) ?_))))
 refine WL.buildSl (vs := [(0, (vn ((128 + pg) / 2 ^ 3)))]) (cs := ([(((128 + pg) / 2 ^ 3 : Nat) : Int)] : List Int).map vi64) h_25 underlying52 sizeOf3 (zv typeInfo3 rfl) rfl rfl (by kernel_rfl) rfl (one_i64 _) rfl rfl (fun b_26 w_27 h_28 => ?_)
 refine WL.append (km := 4) (xs := ((([(((128 + pg) / 2 ^ 0 : Nat) : Int)] : List Int) ++ ([(((128 + pg) / 2 ^ 1 : Nat) : Int)] : List Int)) ++ ([(((128 + pg) / 2 ^ 2 : Nat) : Int)] : List Int)).map vi64) (ys := ([(((128 + pg) / 2 ^ 3 : Nat) : Int)] : List Int).map vi64) (zs := (((([(((128 + pg) / 2 ^ 0 : Nat) : Int)] : List Int) ++ ([(((128 + pg) / 2 ^ 1 : Nat) : Int)] : List Int)) ++ ([(((128 + pg) / 2 ^ 2 : Nat) : Int)] : List Int)) ++ ([(((128 + pg) / 2 ^ 3 : Nat) : Int)] : List Int)).map vi64) h_28 rfl rfl el52 (viewB (h_28.ok _ M0) Sg.h) ((len_map (rfl : List.length ([(((128 + pg) / 2 ^ 3 : Nat) : Int)] : List Int) = 1)).trans (Nat.mul_one _).symm) (one_i64 _) (by simp only [List.map_append, List.map_nil]) rfl (by omega) (by omega) (fun _ _ => Y3) rfl (fun a_29 c_30 w_31 h_32 => ?_)
 refine qA (.slice a_29 4 c_30) rfl rfl ?_
 refine WL.nil (inb_n (thn_n (WP.reg ?_)))
 refine qV rfl (R.bin rfl rfl (bi_add (c := 4) (by omega) (by omega))) (qM (vi 4) rfl rfl ?_)
 refine WL.nil (thn_n ?_)
 refine WI.round ?_
 refine WP.seq (WP.reg ?_)
 refine qV rfl (R.bin rfl rfl (bi_lss (r := true) (by decide))) ?_
 refine WL.nil (thn_n (WP.seq ?_))
 refine WP.condT rfl ?_
 refine WP.skip (thn_n (WP.seq (WP.block (WP.seq (WP.reg ?_)))))
 refine qM (vi 4) rfl rfl (qA (vi 4) rfl rfl ?_)
 refine WL.nil (thn_n (WP.reg ?_))
 refine qM (.slice a_29 4 c_30) rfl rfl (qM (vn pg) rfl rfl (qV rfl (R.bin rfl rfl (bi_add (c := ((128 + pg : Nat) : Int)) (by omega) (by omega))) (qM (vi 4) rfl rfl (qV rfl (R.binR (v := (vn ((128 + pg) / 2 ^ 4))) rfl rfl (run_shrN _ _ _ (128 + pg) _ 4 (by omega))) ?_))))
 refine WL.buildSl (vs := [(0, (vn ((128 + pg) / 2 ^ 4)))]) (cs := ([(((128 + pg) / 2 ^ 4 : Nat) : Int)] : List Int).map vi64) h_32 underlying52 sizeOf3 (zv typeInfo3 rfl) rfl rfl (by kernel_rfl) rfl (one_i64 _) rfl rfl (fun b_33 w_34 h_35 => ?_)
 refine WL.append (km := 5) (xs := (((([(((128 + pg) / 2 ^ 0 : Nat) : Int)] : List Int) ++ ([(((128 + pg) / 2 ^ 1 : Nat) : Int)] : List Int)) ++ ([(((128 + pg) / 2 ^ 2 : Nat) : Int)] : List Int)) ++ ([(((128 + pg) / 2 ^ 3 : Nat) : Int)] : List Int)).map vi64) (ys := ([(((128 + pg) / 2 ^ 4 : Nat) : Int)] : List Int).map vi64) (zs := ((((([(((128 + pg) / 2 ^ 0 : Nat) : Int)] : List Int) ++ ([(((128 + pg) / 2 ^ 1 : Nat) : Int)] : List Int)) ++ ([(((128 + pg) / 2 ^ 2 : Nat) : Int)] : List Int)) ++ ([(((128 + pg) / 2 ^ 3 : Nat) : Int)] : List Int)) ++ ([(((128 + pg) / 2 ^ 4 : Nat) : Int)] : List Int)).map vi64) h_35 rfl rfl el52 (viewB (h_35.ok _ M0) Sg.h) ((len_map (rfl : List.length ([(((128 + pg) / 2 ^ 4 : Nat) : Int)] : List Int) = 1)).trans (Nat.mul_one _).symm) (one_i64 _) (by simp only [List.map_append, List.map_nil]) rfl (by omega) (by omega) (fun _ _ => Y4) rfl (fun a_36 c_37 w_38 h_39 => ?_)
 refine qA (.slice a_36 5 c_37) rfl rfl ?_
 refine WL.nil (inb_n (thn_n (WP.reg ?_)))
 refine qV rfl (R.bin rfl rfl (bi_add (c := 5) (by omega) (by omega))) (qM (vi 5) rfl rfl ?_)
 refine WL.nil (thn_n ?_)
 refine WI.round ?_
 refine WP.seq (WP.reg ?_)
 refine qV rfl (R.bin rfl rfl (bi_lss (r := true) (by decide))) ?_
 refine WL.nil (thn_n (WP.seq ?_))
 refine WP.condT rfl ?_
 refine WP.skip (thn_n (WP.seq (WP.block (WP.seq (WP.reg ?_)))))
 refine qM (vi 5) rfl rfl (qA (vi 5) rfl rfl ?_)
 refine WL.nil (thn_n (WP.reg ?_))
 refine qM (.slice a_36 5 c_37) rfl rfl (qM (vn pg) rfl rfl (qV rfl (R.bin rfl rfl (bi_add (c := ((128 + pg : Nat) : Int)) (by omega) (by omega))) (qM (vi 5) rfl rfl (qV rfl (R.binR (v := (vn ((128 + pg) / 2 ^ 5))) rfl rfl (run_shrN _ _ _ (128 + pg) _ 5 (by omega))) ?_))))
 refine WL.buildSl (vs := [(0, (vn ((128 + pg) / 2 ^ 5)))]) (cs := ([(((128 + pg) / 2 ^ 5 : Nat) : Int)] : List Int).map vi64) h_39 underlying52 sizeOf3 (zv typeInfo3 rfl) rfl rfl (by kernel_rfl) rfl (one_i64 _) rfl rfl (fun b_40 w_41 h_42 => ?_)
 refine WL.append (km := 6) (xs := ((((([(((128 + pg) / 2 ^ 0 : Nat) : Int)] : List Int) ++ ([(((128 + pg) / 2 ^ 1 : Nat) : Int)] : List Int)) ++ ([(((128 + pg) / 2 ^ 2 : Nat) : Int)] : List Int)) ++ ([(((128 + pg) / 2 ^ 3 : Nat) : Int)] : List Int)) ++ ([(((128 + pg) / 2 ^ 4 : Nat) : Int)] : List Int)).map vi64) (ys := ([(((128 + pg) / 2 ^ 5 : Nat) : Int)] : List Int).map vi64) (zs := (((((([(((128 + pg) / 2 ^ 0 : Nat) : Int)] : List Int) ++ ([(((128 + pg) / 2 ^ 1 : Nat) : Int)] : List Int)) ++ ([(((128 + pg) / 2 ^ 2 : Nat) : Int)] : List Int)) ++ ([(((128 + pg) / 2 ^ 3 : Nat) : Int)] : List Int)) ++ ([(((128 + pg) / 2 ^ 4 : Nat) : Int)] : List Int)) ++ ([(((128 + pg) / 2 ^ 5 : Nat) : Int)] : List Int)).map vi64) h_42 rfl rfl el52 (viewB (h_42.ok _ M0) Sg.h) ((len_map (rfl : List.length ([(((128 + pg) / 2 ^ 5 : Nat) : Int)] : List Int) = 1)).trans (Nat.mul_one _).symm) (one_i64 _) (by simp only [List.map_append, List.map_nil]) rfl (by omega) (by omega) (fun _ _ => Y5) rfl (fun a_43 c_44 w_45 h_46 => ?_)
 refine qA (.slice a_43 6 c_44) rfl rfl ?_
 refine WL.nil (inb_n (thn_n (WP.reg ?_)))
 refine qV rfl (R.bin rfl rfl (bi_add (c := 6) (by omega) (by omega))) (qM (vi 6) rfl rfl ?_)
 refine WL.nil (thn_n ?_)
 refine WI.round ?_
 refine WP.seq (WP.reg ?_)
 refine qV rfl (R.bin rfl rfl (bi_lss (r := true) (by decide))) ?_
 refine WL.nil (thn_n (WP.seq ?_))
 refine WP.condT rfl ?_
 refine WP.skip (thn_n (WP.seq (WP.block (WP.seq (WP.reg ?_)))))
 refine qM (vi 6) rfl rfl (qA (vi 6) rfl rfl ?_)
 refine WL.nil (thn_n (WP.reg ?_))
 refine qM (.slice a_43 6 c_44) rfl rfl (qM (vn pg) rfl rfl (qV rfl (R.bin rfl rfl (bi_add (c := ((128 + pg : Nat) : Int)) (by omega) (by omega))) (qM (vi 6) rfl rfl (qV rfl (R.binR (v := (vn ((128 + pg) / 2 ^ 6))) rfl rfl (run_shrN _ _ _ (128 + pg) _ 6 (by omega))) ?_))))
 refine WL.buildSl (vs := [(0, (vn ((128 + pg) / 2 ^ 6)))]) (cs := ([(((128 + pg) / 2 ^ 6 : Nat) : Int)] : List Int).map vi64) h_46 underlying52 sizeOf3 (zv typeInfo3 rfl) rfl rfl (by kernel_rfl) rfl (one_i64 _) rfl rfl (fun b_47 w_48 h_49 => ?_)
 refine WL.append (km := 7) (xs := (((((([(((128 + pg) / 2 ^ 0 : Nat) : Int)] : List Int) ++ ([(((128 + pg) / 2 ^ 1 : Nat) : Int)] : List Int)) ++ ([(((128 + pg) / 2 ^ 2 : Nat) : Int)] : List Int)) ++ ([(((128 + pg) / 2 ^ 3 : Nat) : Int)] : List Int)) ++ ([(((128 + pg) / 2 ^ 4 : Nat) : Int)] : List Int)) ++ ([(((128 + pg) / 2 ^ 5 : Nat) : Int)] : List Int)).map vi64) (ys := ([(((128 + pg) / 2 ^ 6 : Nat) : Int)] : List Int).map vi64) (zs := ((((((([(((128 + pg) / 2 ^ 0 : Nat) : Int)] : List Int) ++ ([(((128 + pg) / 2 ^ 1 : Nat) : Int)] : List Int)) ++ ([(((128 + pg) / 2 ^ 2 : Nat) : Int)] : List Int)) ++ ([(((128 + pg) / 2 ^ 3 : Nat) : Int)] : List Int)) ++ ([(((128 + pg) / 2 ^ 4 : Nat) : Int)] : List Int)) ++ ([(((128 + pg) / 2 ^ 5 : Nat) : Int)] : List Int)) ++ ([(((128 + pg) / 2 ^ 6 : Nat) : Int)] : List Int)).map vi64) h_49 rfl rfl el52 (viewB (h_49.ok _ M0) Sg.h) ((len_map (rfl : List.length ([(((128 + pg) / 2 ^ 6 : Nat) : Int)] : List Int) = 1)).trans (Nat.mul_one _).symm) (one_i64 _) (by simp only [List.map_append, List.map_nil]) rfl (by omega) (by omega) (fun _ _ => Y6) rfl (fun a_50 c_51 w_52 h_53 => ?_)
 refine qA (.slice a_50 7 c_51) rfl rfl ?_
 refine WL.nil (inb_n (thn_n (WP.reg ?_)))
 refine qV rfl (R.bin rfl rfl (bi_add (c := 7) (by omega) (by omega))) (qM (vi 7) rfl rfl ?_)
 refine WL.nil (thn_n ?_)
 refine WI.round ?_
 refine WP.seq (WP.reg ?_)
 refine qV rfl (R.bin rfl rfl (bi_lss (r := true) (by decide))) ?_
 refine WL.nil (thn_n (WP.seq ?_))
 refine WP.condT rfl ?_
 refine WP.skip (thn_n (WP.seq (WP.block (WP.seq (WP.reg ?_)))))
 refine qM (vi 7) rfl rfl (qA (vi 7) rfl rfl ?_)
 refine WL.nil (thn_n (WP.reg ?_))
 refine qM (.slice a_50 7 c_51) rfl rfl (qM (vn pg) rfl rfl (qV rfl (R.bin rfl rfl (bi_add (c := ((128 + pg : Nat) : Int)) (by omega) (by omega))) (qM (vi 7) rfl rfl (qV rfl (R.binR (v := (vn ((128 + pg) / 2 ^ 7))) rfl rfl (run_shrN _ _ _ (128 + pg) _ 7 (by omega))) ?_))))
 refine WL.buildSl (vs := [(0, (vn ((128 + pg) / 2 ^ 7)))]) (cs := ([(((128 + pg) / 2 ^ 7 : Nat) : Int)] : List Int).map vi64) h_53 underlying52 sizeOf3 (zv typeInfo3 rfl) rfl rfl (by kernel_rfl) rfl (one_i64 _) rfl rfl (fun b_54 w_55 h_56 => ?_)
 refine WL.append (km := 8) (xs := ((((((([(((128 + pg) / 2 ^ 0 : Nat) : Int)] : List Int) ++ ([(((128 + pg) / 2 ^ 1 : Nat) : Int)] : List Int)) ++ ([(((128 + pg) / 2 ^ 2 : Nat) : Int)] : List Int)) ++ ([(((128 + pg) / 2 ^ 3 : Nat) : Int)] : List Int)) ++ ([(((128 + pg) / 2 ^ 4 : Nat) : Int)] : List Int)) ++ ([(((128 + pg) / 2 ^ 5 : Nat) : Int)] : List Int)) ++ ([(((128 + pg) / 2 ^ 6 : Nat) : Int)] : List Int)).map vi64) (ys := ([(((128 + pg) / 2 ^ 7 : Nat) : Int)] : List Int).map vi64) (zs := (((((((([(((128 + pg) / 2 ^ 0 : Nat) : Int)] : List Int) ++ ([(((128 + pg) / 2 ^ 1 : Nat) : Int)] : List Int)) ++ ([(((128 + pg) / 2 ^ 2 : Nat) : Int)] : List Int)) ++ ([(((128 + pg) / 2 ^ 3 : Nat) : Int)] : List Int)) ++ ([(((128 + pg) / 2 ^ 4 : Nat) : Int)] : List Int)) ++ ([(((128 + pg) / 2 ^ 5 : Nat) : Int)] : List Int)) ++ ([(((128 + pg) / 2 ^ 6 : Nat) : Int)] : List Int)) ++ ([(((128 + pg) / 2 ^ 7 : Nat) : Int)] : List Int)).map vi64) h_56 rfl rfl el52 (viewB (h_56.ok _ M0) Sg.h) ((len_map (rfl : List.length ([(((128 + pg) / 2 ^ 7 : Nat) : Int)] : List Int) = 1)).trans (Nat.mul_one _).symm) (one_i64 _) (by simp only [List.map_append, List.map_nil]) rfl (by omega) (by omega) (fun _ _ => Y7) rfl (fun a_57 c_58 w_59 h_60 => ?_)
 refine qA (.slice a_57 8 c_58) rfl rfl ?_
 refine WL.nil (inb_n (thn_n (WP.reg ?_)))
 refine qV rfl (R.bin rfl rfl (bi_add (c := 8) (by omega) (by omega))) (qM (vi 8) rfl rfl ?_)
 refine WL.nil (thn_n ?_)
 refine WI.round ?_
 refine WP.seq (WP.reg ?_)
 refine qV rfl (R.bin rfl rfl (bi_lss (r := false) (by decide))) ?_
 refine WL.nil (thn_n (WP.seq ?_))
 refine WP.condF rfl ?_
 refine WP.exit (thn_x (thn_x (inb_hit (thn_n (WP.seq (WP.reg ?_))))))
 refine qM (.slice a_57 8 c_58) rfl rfl (qA (.slice a_57 8 c_58) rfl rfl (qA (vi 0) rfl rfl ?_))
 refine WL.nil (thn_n (WP.ret ?_))
 refine ret_of results15 (RV.tmp (v := (.slice a_57 8 c_58)) rfl (RV.tmp (v := (vi 0)) rfl RV.nil)) ?_
 exact ⟨_, _, rfl, h_60.chgS, h_60.ok _ M7⟩

theorem c_Bes_t (pg : Nat) (h : pg < 128) (w : World) :
  Cs Try.prog 16 [(vi ((pg : Nat) : Int))].toArray w (fun v w1 => ∃ a cap, v = .tuple [.slice a 7 cap, vi 0].toArray ∧ Chg w w1 [] ∧ Own w.heap.size w1 3 1 a 7 cap ((bsL pg).map vi64)) := by
 refine Cs.of (n := 29) (args := [(vn pg)]) Try.func16 rfl rfl rfl ?_
 have h_0 := HP.init w
 refine WP.seq (WP.reg ?_)
 refine qA (.slice none 0 0) rfl rfl (qA (vi 0) rfl rfl ?_)
 refine WL.nil (thn_n (WP.seq (WP.reg ?_)))
 refine qM (vn pg) rfl rfl ?_
 refine WL.call Try.call15 rfl rfl (c_Way_t pg (by omega) _) rfl ?_
 rintro _ w_3 ⟨a_1, cap_2, rfl, hc_4, ho_5⟩
 have h_6 := h_0.gotRow hc_4 ho_5
 refine qM (.tuple [(.slice a_1 8 cap_2), (vi 0)].toArray) rfl rfl (qV rfl (R.extract rfl rfl) (qV rfl (R.extract rfl rfl) (qA (.slice a_1 8 cap_2) rfl rfl (qA (vi 0) rfl rfl ?_))))
 refine WL.nil (thn_n (WP.seq (WP.seq (WP.reg ?_))))
 refine qM (vi 0) rfl rfl (qV rfl (R.bin rfl rfl (bi_neq (r := false) (by decide))) ?_)
 refine WL.nil (thn_n ?_)
 refine WP.condF rfl ?_
 refine WP.skip (thn_n (WP.seq (WP.seq (WP.reg ?_))))
 refine qM (.slice a_1 8 cap_2) rfl rfl (qV rfl (R.lenS (a := a_1) (m := 8) rfl rfl underlying52) (qM (vi 0) rfl rfl ?_))
 refine WL.nil (thn_n (WP.block ?_))
 refine WP.loopU (WI.round ?_)
 refine WP.seq (WP.reg ?_)
 refine qV rfl (R.bin rfl rfl (bi_lss (r := true) (by decide))) ?_
 refine WL.nil (thn_n (WP.seq ?_))
 refine WP.condT rfl ?_
 refine WP.skip (thn_n (WP.seq (WP.block (WP.seq (WP.reg ?_)))))
 refine qM (vi 0) rfl rfl (qA (vi 0) rfl rfl ?_)
 refine WL.nil (thn_n (WP.reg ?_))
 refine qM (.slice a_1 8 cap_2) rfl rfl (qM (vi 0) rfl rfl (qV rfl (R.indexS (a := a_1) (i := 0) (off := 0) (xs := (wayL pg).map vi64) rfl rfl rfl (by decide) (ownView (h_6.ok _ M0)) (lt_len (K := 8) (len_map (rfl : List.length (wayL pg) = 8)) (by omega)) underlying52 sizeOf3 (Nat.mul_one _).symm) (qV rfl (R.loadG rfl (ownView (h_6.ok _ M0)) isAgg3 rfl) (qV rfl (R.bin (v := (vn (((128 + pg) / 2 ^ 0) ^^^ 1))) rfl rfl (bi_xorN (m := (128 + pg) / 2 ^ 0) (n := 1) (by omega) (by omega))) (qV rfl (R.indexS (a := a_1) (i := 0) (off := 0) (xs := (wayL pg).map vi64) rfl rfl rfl (by decide) (ownView (h_6.ok _ M0)) (lt_len (K := 8) (len_map (rfl : List.length (wayL pg) = 8)) (by omega)) underlying52 sizeOf3 (Nat.mul_one _).symm) ?_)))))
 refine WL.storeR (a := a_1) (i := 0) (v := (vn (((128 + pg) / 2 ^ 0) ^^^ 1))) (xs' := ([((((128 + pg) / 2 ^ 0) ^^^ 1 : Nat) : Int), (((128 + pg) / 2 ^ 1 : Nat) : Int), (((128 + pg) / 2 ^ 2 : Nat) : Int), (((128 + pg) / 2 ^ 3 : Nat) : Int), (((128 + pg) / 2 ^ 4 : Nat) : Int), (((128 + pg) / 2 ^ 5 : Nat) : Int), (((128 + pg) / 2 ^ 6 : Nat) : Int), (((128 + pg) / 2 ^ 7 : Nat) : Int)] : List Int).map vi64) h_6 rfl rfl sizeOf3 rfl At.h (lt_len (K := 8) (len_map (rfl : List.length (wayL pg) = 8)) (by omega)) ((set_i64 _ _ _).trans rfl) (fun w_7 h_8 => ?_)
 refine WL.nil (inb_n (thn_n (WP.reg ?_)))
 refine qV rfl (R.bin rfl rfl (bi_add (c := 1) (by omega) (by omega))) (qM (vi 1) rfl rfl ?_)
 refine WL.nil (thn_n ?_)
 refine WI.round ?_
 refine WP.seq (WP.reg ?_)
 refine qV rfl (R.bin rfl rfl (bi_lss (r := true) (by decide))) ?_
 refine WL.nil (thn_n (WP.seq ?_))
 refine WP.condT rfl ?_
 refine WP.skip (thn_n (WP.seq (WP.block (WP.seq (WP.reg ?_)))))
 refine qM (vi 1) rfl rfl (qA (vi 1) rfl rfl ?_)
 refine WL.nil (thn_n (WP.reg ?_))
 refine qM (.slice a_1 8 cap_2) rfl rfl (qM (vi 1) rfl rfl (qV rfl (R.indexS (a := a_1) (i := 1) (off := 1) (xs := ([((((128 + pg) / 2 ^ 0) ^^^ 1 : Nat) : Int), (((128 + pg) / 2 ^ 1 : Nat) : Int), (((128 + pg) / 2 ^ 2 : Nat) : Int), (((128 + pg) / 2 ^ 3 : Nat) : Int), (((128 + pg) / 2 ^ 4 : Nat) : Int), (((128 + pg) / 2 ^ 5 : Nat) : Int), (((128 + pg) / 2 ^ 6 : Nat) : Int), (((128 + pg) / 2 ^ 7 : Nat) : Int)] : List Int).map vi64) rfl rfl rfl (by decide) (ownView (h_8.ok _ M0)) (lt_len (K := 8) (len_map (rfl : List.length ([((((128 + pg) / 2 ^ 0) ^^^ 1 : Nat) : Int), (((128 + pg) / 2 ^ 1 : Nat) : Int), (((128 + pg) / 2 ^ 2 : Nat) : Int), (((128 + pg) / 2 ^ 3 : Nat) : Int), (((128 + pg) / 2 ^ 4 : Nat) : Int), (((128 + pg) / 2 ^ 5 : Nat) : Int), (((128 + pg) / 2 ^ 6 : Nat) : Int), (((128 + pg) / 2 ^ 7 : Nat) : Int)] : List Int) = 8)) (by omega)) underlying52 sizeOf3 (Nat.mul_one _).symm) (qV rfl (R.loadG rfl (ownView (h_8.ok _ M0)) isAgg3 rfl) (qV rfl (R.bin (v := (vn (((128 + pg) / 2 ^ 1) ^^^ 1))) rfl rfl (bi_xorN (m := (128 + pg) / 2 ^ 1) (n := 1) (by omega) (by omega))) (qV rfl (R.indexS (a := a_1) (i := 1) (off := 1) (xs := ([((((128 + pg) / 2 ^ 0) ^^^ 1 : Nat) : Int), (((128 + pg) / 2 ^ 1 : Nat) : Int), (((128 + pg) / 2 ^ 2 : Nat) : Int), (((128 + pg) / 2 ^ 3 : Nat) : Int), (((128 + pg) / 2 ^ 4 : Nat) : Int), (((128 + pg) / 2 ^ 5 : Nat) : Int), (((128 + pg) / 2 ^ 6 : Nat) : Int), (((128 + pg) / 2 ^ 7 : Nat) : Int)] : List Int).map vi64) rfl rfl rfl (by decide) (ownView (h_8.ok _ M0)) (lt_len (K := 8) (len_map (rfl : List.length ([((((128 + pg) / 2 ^ 0) ^^^ 1 : Nat) : Int), (((128 + pg) / 2 ^ 1 : Nat) : Int), (((128 + pg) / 2 ^ 2 : Nat) : Int), (((128 + pg) / 2 ^ 3 : Nat) : Int), (((128 + pg) / 2 ^ 4 : Nat) : Int), (((128 + pg) / 2 ^ 5 : Nat) : Int), (((128 + pg) / 2 ^ 6 : Nat) : Int), (((128 + pg) / 2 ^ 7 : Nat) : Int)] : List Int) = 8)) (by omega)) underlying52 sizeOf3 (Nat.mul_one _).symm) ?_)))))
 refine WL.storeR (a := a_1) (i := 1) (v := (vn (((128 + pg) / 2 ^ 1) ^^^ 1))) (xs' := ([((((128 + pg) / 2 ^ 0) ^^^ 1 : Nat) : Int), ((((128 + pg) / 2 ^ 1) ^^^ 1 : Nat) : Int), (((128 + pg) / 2 ^ 2 : Nat) : Int), (((128 + pg) / 2 ^ 3 : Nat) : Int), (((128 + pg) / 2 ^ 4 : Nat) : Int), (((128 + pg) / 2 ^ 5 : Nat) : Int), (((128 + pg) / 2 ^ 6 : Nat) : Int), (((128 + pg) / 2 ^ 7 : Nat) : Int)] : List Int).map vi64) h_8 rfl rfl sizeOf3 rfl At.h (lt_len (K := 8) (len_map (rfl : List.length ([((((128 + pg) / 2 ^ 0) ^^^ 1 : Nat) : Int), (((128 + pg) / 2 ^ 1 : Nat) : Int), (((128 + pg) / 2 ^ 2 : Nat) : Int), (((128 + pg) / 2 ^ 3 : Nat) : Int), (((128 + pg) / 2 ^ 4 : Nat) : Int), (((128 + pg) / 2 ^ 5 : Nat) : Int), (((128 + pg) / 2 ^ 6 : Nat) : Int), (((128 + pg) / 2 ^ 7 : Nat) : Int)] : List Int) = 8)) (by omega)) ((set_i64 _ _ _).trans rfl) (fun w_9 h_10 => ?_)
 refine WL.nil (inb_n (thn_n (WP.reg ?_)))
 refine qV rfl (R.bin rfl rfl (bi_add (c := 2) (by omega) (by omega))) (qM (vi 2) rfl rfl ?_)
 refine WL.nil (thn_n ?_)
 refine WI.round ?_
 refine WP.seq (WP.reg ?_)
 refine qV rfl (R.bin rfl rfl (bi_lss (r := true) (by decide))) ?_
 refine WL.nil (thn_n (WP.seq ?_))
 refine WP.condT rfl ?_
 refine WP.skip (thn_n (WP.seq (WP.block (WP.seq (WP.reg ?_)))))
 refine qM (vi 2) rfl rfl (qA (vi 2) rfl rfl ?_)
 refine WL.nil (thn_n (WP.reg ?_))
 refine qM (.slice a_1 8 cap_2) rfl rfl (qM (vi 2) rfl rfl (qV rfl (R.indexS (a := a_1) (i := 2) (off := 2) (xs := ([((((128 + pg) / 2 ^ 0) ^^^ 1 : Nat) : Int), ((((128 + pg) / 2 ^ 1) ^^^ 1 : Nat) : Int), (((128 + pg) / 2 ^ 2 : Nat) : Int), (((128 + pg) / 2 ^ 3 : Nat) : Int), (((128 + pg) / 2 ^ 4 : Nat) : Int), (((128 + pg) / 2 ^ 5 : Nat) : Int), (((128 + pg) / 2 ^ 6 : Nat) : Int), (((128 + pg) / 2 ^ 7 : Nat) : Int)] : List Int).map vi64) rfl rfl rfl (by decide) (ownView (h_10.ok _ M0)) (lt_len (K := 8) (len_map (rfl : List.length ([((((128 + pg) / 2 ^ 0) ^^^ 1 : Nat) : Int), ((((128 + pg) / 2 ^ 1) ^^^ 1 : Nat) : Int), (((128 + pg) / 2 ^ 2 : Nat) : Int), (((128 + pg) / 2 ^ 3 : Nat) : Int), (((128 + pg) / 2 ^ 4 : Nat) : Int), (((128 + pg) / 2 ^ 5 : Nat) : Int), (((128 + pg) / 2 ^ 6 : Nat) : Int), (((128 + pg) / 2 ^ 7 : Nat) : Int)] : List Int) = 8)) (by omega)) underlying52 sizeOf3 (Nat.mul_one _).symm) (qV rfl (R.loadG rfl (ownView (h_10.ok _ M0)) isAgg3 rfl) (qV rfl (R.bin (v := (vn (((128 + pg) / 2 ^ 2) ^^^ 1))) rfl rfl (bi_xorN (m := (128 + pg) / 2 ^ 2) (n := 1) (by omega) (by omega))) (qV rfl (R.indexS (a := a_1) (i := 2) (off := 2) (xs := ([((((128 + pg) / 2 ^ 0) ^^^ 1 : Nat) : Int), ((((128 + pg) / 2 ^ 1) ^^^ 1 : Nat) : Int), (((128 + pg) / 2 ^ 2 : Nat) : Int), (((128 + pg) / 2 ^ 3 : Nat) : Int), (((128 + pg) / 2 ^ 4 : Nat) : Int), (((128 + pg) / 2 ^ 5 : Nat) : Int), (((128 + pg) / 2 ^ 6 : Nat) : Int), (((128 + pg) / 2 ^ 7 : Nat) : Int)] : List Int).map vi64) rfl rfl rfl (by decide) (ownView (h_10.ok _ M0)) (lt_len (K := 8) (len_map (rfl : List.length ([((((128 + pg) / 2 ^ 0) ^^^ 1 : Nat) : Int), ((((128 + pg) / 2 ^ 1) ^^^ 1 : Nat) : Int), (((128 + pg) / 2 ^ 2 : Nat) : Int), (((128 + pg) / 2 ^ 3 : Nat) : Int), (((128 + pg) / 2 ^ 4 : Nat) : Int), (((128 + pg) / 2 ^ 5 : Nat) : Int), (((128 + pg) / 2 ^ 6 : Nat) : Int), (((128 + pg) / 2 ^ 7 : Nat) : Int)] : List Int) = 8)) (by omega)) underlying52 sizeOf3 (Nat.mul_one _).symm) ?_)))))
 refine WL.storeR (a := a_1) (i := 2) (v := (vn (((128 + pg) / 2 ^ 2) ^^^ 1))) (xs' := ([((((128 + pg) / 2 ^ 0) ^^^ 1 : Nat) : Int), ((((128 + pg) / 2 ^ 1) ^^^ 1 : Nat) : Int), ((((128 + pg) / 2 ^ 2) ^^^ 1 : Nat) : Int), (((128 + pg) / 2 ^ 3 : Nat) : Int), (((128 + pg) / 2 ^ 4 : Nat) : Int), (((128 + pg) / 2 ^ 5 : Nat) : Int), (((128 + pg) / 2 ^ 6 : Nat) : Int), (((128 + pg) / 2 ^ 7 : Nat) : Int)] : List Int).map vi64) h_10 rfl rfl sizeOf3 rfl At.h (lt_len (K := 8) (len_map (rfl : List.length ([((((128 + pg) / 2 ^ 0) ^^^ 1 : Nat) : Int), ((((128 + pg) / 2 ^ 1) ^^^ 1 : Nat) : Int), (((128 + pg) / 2 ^ 2 : Nat) : Int), (((128 + pg) / 2 ^ 3 : Nat) : Int), (((128 + pg) / 2 ^ 4 : Nat) : Int), (((128 + pg) / 2 ^ 5 : Nat) : Int), (((128 + pg) / 2 ^ 6 : Nat) : Int), (((128 + pg) / 2 ^ 7 : Nat) : Int)] : List Int) = 8)) (by omega)) ((set_i64 _ _ _).trans rfl) (fun w_11 h_12 => ?_)
 refine WL.nil (inb_n (thn_n (WP.reg ?_)))
 refine qV rfl (R.bin rfl rfl (bi_add (c := 3) (by omega) (by omega))) (qM (vi 3) rfl rfl ?_)
 refine WL.nil (thn_n ?_)
 refine WI.round ?_
 refine WP.seq (WP.reg ?_)
 refine qV rfl (R.bin rfl rfl (bi_lss (r := true) (by decide))) ?_
 refine WL.nil (thn_n (WP.seq ?_))
 refine WP.condT rfl ?_
 refine WP.skip (thn_n (WP.seq (WP.block (WP.seq (WP.reg ?_)))))
 refine qM (vi 3) rfl rfl (qA (vi 3) rfl rfl ?_)
 refine WL.nil (thn_n (WP.reg ?_))
 refine qM (.slice a_1 8 cap_2) rfl rfl (qM (vi 3) rfl rfl (qV rfl (R.indexS (a := a_1) (i := 3) (off := 3) (xs := ([((((128 + pg) / 2 ^ 0) ^^^ 1 : Nat) : Int), ((((128 + pg) / 2 ^ 1) ^^^ 1 : Nat) : Int), ((((128 + pg) / 2 ^ 2) ^^^ 1 : Nat) : Int), (((128 + pg) / 2 ^ 3 : Nat) : Int), (((128 + pg) / 2 ^ 4 : Nat) : Int), (((128 + pg) / 2 ^ 5 : Nat) : Int), (((128 + pg) / 2 ^ 6 : Nat) : Int), (((128 + pg) / 2 ^ 7 : Nat) : Int)] : List Int).map vi64) rfl rfl rfl (by decide) (ownView (h_12.ok _ M0)) (lt_len (K := 8) (len_map (rfl : List.length ([((((128 + pg) / 2 ^ 0) ^^^ 1 : Nat) : Int), ((((128 + pg) / 2 ^ 1) ^^^ 1 : Nat) : Int), ((((128 + pg) / 2 ^ 2) ^^^ 1 : Nat) : Int), (((128 + pg) / 2 ^ 3 : Nat) : Int), (((128 + pg) / 2 ^ 4 : Nat) : Int), (((128 + pg) / 2 ^ 5 : Nat) : Int), (((128 + pg) / 2 ^ 6 : Nat) : Int), (((128 + pg) / 2 ^ 7 : Nat) : Int)] : List Int) = 8)) (by omega)) underlying52 sizeOf3 (Nat.mul_one _).symm) (qV rfl (R.loadG rfl (ownView (h_12.ok _ M0)) isAgg3 rfl) (qV rfl (R.bin (v := (vn (((128 + pg) / 2 ^ 3) ^^^ 1))) rfl rfl (bi_xorN (m := (128 + pg) / 2 ^ 3) (n := 1) (by omega) (by omega))) (qV rfl (R.indexS (a := a_1) (i := 3) (off := 3) (xs := ([((((128 + pg) / 2 ^ 0) ^^^ 1 : Nat) : Int), ((((128 + pg) / 2 ^ 1) ^^^ 1 : Nat) : Int), ((((128 + pg) / 2 ^ 2) ^^^ 1 : Nat) : Int), (((128 + pg) / 2 ^ 3 : Nat) : Int), (((128 + pg) / 2 ^ 4 : Nat) : Int), (((128 + pg) / 2 ^ 5 : Nat) : Int), (((128 + pg) / 2 ^ 6 : Nat) : Int), (((128 + pg) / 2 ^ 7 : Nat) : Int)] : List Int).map vi64) rfl rfl rfl (by decide) (ownView (h_12.ok _ M0)) (lt_len (K := 8) (len_map (rfl : List.length ([((((128 + pg) / 2 ^ 0) ^^^ 1 : Nat) : Int), ((((128 + pg) / 2 ^ 1) ^^^ 1 : Nat) : Int), ((((128 + pg) / 2 ^ 2) ^^^ 1 : Nat) : Int), (((128 + pg) / 2 ^ 3 : Nat) : Int), (((128 + pg) / 2 ^ 4 : Nat) : Int), (((128 + pg) / 2 ^ 5 : Nat) : Int), (((128 + pg) / 2 ^ 6 : Nat) : Int), (((128 + pg) / 2 ^ 7 : Nat) : Int)] : List Int) = 8)) (by omega)) underlying52 sizeOf3 (Nat.mul_one _).symm) ?_)))))
 refine WL.storeR (a := a_1) (i := 3) (v := (vn (((128 + pg) / 2 ^ 3) ^^^ 1))) (xs' := ([((((128 + pg) / 2 ^ 0) ^^^ 1 : Nat) : Int), ((((128 + pg) / 2 ^ 1) ^^^ 1 : Nat) : Int), ((((128 + pg) / 2 ^ 2) ^^^ 1 : Nat) : Int), ((((128 + pg) / 2 ^ 3) ^^^ 1 : Nat) : Int), (((128 + pg) / 2 ^ 4 : Nat) : Int), (((128 + pg) / 2 ^ 5 : Nat) : Int), (((128 + pg) / 2 ^ 6 : Nat) : Int), (((128 + pg) / 2 ^ 7 : Nat) : Int)] : List Int).map vi64) h_12 rfl rfl sizeOf3 rfl At.h (lt_len (K := 8) (len_map (rfl : List.length ([((((128 + pg) / 2 ^ 0) ^^^ 1 : Nat) : Int), ((((128 + pg) / 2 ^ 1) ^^^ 1 : Nat) : Int), ((((128 + pg) / 2 ^ 2) ^^^ 1 : Nat) : Int), (((128 + pg) / 2 ^ 3 : Nat) : Int), (((128 + pg) / 2 ^ 4 : Nat) : Int), (((128 + pg) / 2 ^ 5 : Nat) : Int), (((128 + pg) / 2 ^ 6 : Nat) : Int), (((128 + pg) / 2 ^ 7 : Nat) : Int)] : List Int) = 8)) (by omega)) ((set_i64 _ _ _).trans rfl) (fun w_13 h_14 => ?_)
 refine WL.nil (inb_n (thn_n (WP.reg ?_)))
 refine qV rfl (R.bin rfl rfl (bi_add (c := 4) (by omega) (by omega))) (qM (vi 4) rfl rfl ?_)
 refine WL.nil (thn_n ?_)
 refine WI.round ?_
 refine WP.seq (WP.reg ?_)
 refine qV rfl (R.bin rfl rfl (bi_lss (r := true) (by decide))) ?_
 refine WL.nil (thn_n (WP.seq ?_))
 refine WP.condT rfl ?_
 refine WP.skip (thn_n (WP.seq (WP.block (WP.seq (WP.reg ?_)))))
 refine qM (vi 4) rfl rfl (qA (vi 4) rfl rfl ?_)
 refine WL.nil (thn_n (WP.reg ?_))
 refine qM (.slice a_1 8 cap_2) rfl rfl (qM (vi 4) rfl rfl (qV rfl (R.indexS (a := a_1) (i := 4) (off := 4) (xs := ([((((128 + pg) / 2 ^ 0) ^^^ 1 : Nat) : Int), ((((128 + pg) / 2 ^ 1) ^^^ 1 : Nat) : Int), ((((128 + pg) / 2 ^ 2) ^^^ 1 : Nat) : Int), ((((128 + pg) / 2 ^ 3) ^^^ 1 : Nat) : Int), (((128 + pg) / 2 ^ 4 : Nat) : Int), (((128 + pg) / 2 ^ 5 : Nat) : Int), (((128 + pg) / 2 ^ 6 : Nat) : Int), (((128 + pg) / 2 ^ 7 : Nat) : Int)] : List Int).map vi64) rfl rfl rfl (by decide) (ownView (h_14.ok _ M0)) (lt_len (K := 8) (len_map (rfl : List.length ([((((128 + pg) / 2 ^ 0) ^^^ 1 : Nat) : Int), ((((128 + pg) / 2 ^ 1) ^^^ 1 : Nat) : Int), ((((128 + pg) / 2 ^ 2) ^^^ 1 : Nat) : Int), ((((128 + pg) / 2 ^ 3) ^^^ 1 : Nat) : Int), (((128 + pg) / 2 ^ 4 : Nat) : Int), (((128 + pg) / 2 ^ 5 : Nat) : Int), (((128 + pg) / 2 ^ 6 : Nat) : Int), (((128 + pg) / 2 ^ 7 : Nat) : Int)] : List Int) = 8)) (by omega)) underlying52 sizeOf3 (Nat.mul_one _).symm) (qV rfl (R.loadG rfl (ownView (h_14.ok _ M0)) isAgg3 rfl) (qV rfl (R.bin (v := (vn (((128 + pg) / 2 ^ 4) ^^^ 1))) rfl rfl (bi_xorN (m := (128 + pg) / 2 ^ 4) (n := 1) (by omega) (by omega))) (qV rfl (R.indexS (a := a_1) (i := 4) (off := 4) (xs := ([((((128 + pg) / 2 ^ 0) ^^^ 1 : Nat) : Int), ((((128 + pg) / 2 ^ 1) ^^^ 1 : Nat) : Int), ((((128 + pg) / 2 ^ 2) ^^^ 1 : Nat) : Int), ((((128 + pg) / 2 ^ 3) ^^^ 1 : Nat) : Int), (((128 + pg) / 2 ^ 4 : Nat) : Int), (((128 + pg) / 2 ^ 5 : Nat) : Int), (((128 + pg) / 2 ^ 6 : Nat) : Int), (((128 + pg) / 2 ^ 7 : Nat) : Int)] : List Int).map vi64) rfl rfl rfl (by decide) (ownView (h_14.ok _ M0)) (lt_len (K := 8) (len_map (rfl : List.length ([((((128 + pg) / 2 ^ 0) ^^^ 1 : Nat) : Int), ((((128 + pg) / 2 ^ 1) ^^^ 1 : Nat) : Int), ((((128 + pg) / 2 ^ 2) ^^^ 1 : Nat) : Int), ((((128 + pg) / 2 ^ 3) ^^^ 1 : Nat) : Int), (((128 + pg) / 2 ^ 4 : Nat) : Int), (((128 + pg) / 2 ^ 5 : Nat) : Int), (((128 + pg) / 2 ^ 6 : Nat) : Int), (((128 + pg) / 2 ^ 7 : Nat) : Int)] : List Int) = 8)) (by omega)) underlying52 sizeOf3 (Nat.mul_one _).symm) ?_)))))
 refine WL.storeR (a := a_1) (i := 4) (v := (vn (((128 + pg) / 2 ^ 4) ^^^ 1))) (xs' := ([((((128 + pg) / 2 ^ 0) ^^^ 1 : Nat) : Int), ((((128 + pg) / 2 ^ 1) ^^^ 1 : Nat) : Int), ((((128 + pg) / 2 ^ 2) ^^^ 1 : Nat) : Int), ((((128 + pg) / 2 ^ 3) ^^^ 1 : Nat) : Int), ((((128 + pg) / 2 ^ 4) ^^^ 1 : Nat) : Int), (((128 + pg) / 2 ^ 5 : Nat) : Int), (((128 + pg) / 2 ^ 6 : Nat) : Int), (((128 + pg) / 2 ^ 7 : Nat) : Int)] : List Int).map vi64) h_14 rfl rfl sizeOf3 rfl At.h (lt_len (K := 8) (len_map (rfl : List.length ([((((128 + pg) / 2 ^ 0) ^^^ 1 : Nat) : Int), ((((128 + pg) / 2 ^ 1) ^^^ 1 : Nat) : Int), ((((128 + pg) / 2 ^ 2) ^^^ 1 : Nat) : Int), ((((128 + pg) / 2 ^ 3) ^^^ 1 : Nat) : Int), (((128 + pg) / 2 ^ 4 : Nat) : Int), (((128 + pg) / 2 ^ 5 : Nat) : Int), (((128 + pg) / 2 ^ 6 : Nat) : Int), (((128 + pg) / 2 ^ 7 : Nat) : Int)] : List Int) = 8)) (by omega)) ((set_i64 _ _ _).trans rfl) (fun w_15 h_16 => ?_)
 refine WL.nil (inb_n (thn_n (WP.reg ?_)))
 refine qV rfl (R.bin rfl rfl (bi_add (c := 5) (by omega) (by omega))) (qM (vi 5) rfl rfl ?_)
 refine WL.nil (thn_n ?_)
 refine WI.round ?_
 refine WP.seq (WP.reg ?_)
 refine qV rfl (R.bin rfl rfl (bi_lss (r := true) (by decide))) ?_
 refine WL.nil (thn_n (WP.seq ?_))
 refine WP.condT rfl ?_
 refine WP.skip (thn_n (WP.seq (WP.block (WP.seq (WP.reg ?_)))))
 refine qM (vi 5) rfl rfl (qA (vi 5) rfl rfl ?_)
 refine WL.nil (thn_n (WP.reg ?_))
 refine qM (.slice a_1 8 cap_2) rfl rfl (qM (vi 5) rfl rfl (qV rfl (R.indexS (a := a_1) (i := 5) (off := 5) (xs := ([((((128 + pg) / 2 ^ 0) ^^^ 1 : Nat) : Int), ((((128 + pg) / 2 ^ 1) ^^^ 1 : Nat) : Int), ((((128 + pg) / 2 ^ 2) ^^^ 1 : Nat) : Int), ((((128 + pg) / 2 ^ 3) ^^^ 1 : Nat) : Int), ((((128 + pg) / 2 ^ 4) ^^^ 1 : Nat) : Int), (((128 + pg) / 2 ^ 5 : Nat) : Int), (((128 + pg) / 2 ^ 6 : Nat) : Int), (((128 + pg) / 2 ^ 7 : Nat) : Int)] : List Int).map vi64) rfl rfl rfl (by decide) (ownView (h_16.ok _ M0)) (lt_len (K := 8) (len_map (rfl : List.length ([((((128 + pg) / 2 ^ 0) ^^^ 1 : Nat) : Int), ((((128 + pg) / 2 ^ 1) ^^^ 1 : Nat) : Int), ((((128 + pg) / 2 ^ 2) ^^^ 1 : Nat) : Int), ((((128 + pg) / 2 ^ 3) ^^^ 1 : Nat) : Int), ((((128 + pg) / 2 ^ 4) ^^^ 1 : Nat) : Int), (((128 + pg) / 2 ^ 5 : Nat) : Int), (((128 + pg) / 2 ^ 6 : Nat) : Int), (((128 + pg) / 2 ^ 7 : Nat) : Int)] : List Int) = 8)) (by omega)) underlying52 sizeOf3 (Nat.mul_one _).symm) (qV rfl (R.loadG rfl (ownView (h_16.ok _ M0)) isAgg3 rfl) (qV rfl (R.bin (v := (vn (((128 + pg) / 2 ^ 5) ^^^ 1))) rfl rfl (bi_xorN (m := (128 + pg) / 2 ^ 5) (n := 1) (by omega) (by omega))) (qV rfl (R.indexS (a := a_1) (i := 5) (off := 5) (xs := ([((((128 + pg) / 2 ^ 0) ^^^ 1 : Nat) : Int), ((((128 + pg) / 2 ^ 1) ^^^ 1 : Nat) : Int), ((((128 + pg) / 2 ^ 2) ^^^ 1 : Nat) : Int), ((((128 + pg) / 2 ^ 3) ^^^ 1 : Nat) : Int), ((((128 + pg) / 2 ^ 4) ^^^ 1 : Nat) : Int), (((128 + pg) / 2 ^ 5 : Nat) : Int), (((128 + pg) / 2 ^ 6 : Nat) : Int), (((128 + pg) / 2 ^ 7 : Nat) : Int)] : List Int).map vi64) rfl rfl rfl (by decide) (ownView (h_16.ok _ M0)) (lt_len (K := 8) (len_map (rfl : List.length ([((((128 + pg) / 2 ^ 0) ^^^ 1 : Nat) : Int), ((((128 + pg) / 2 ^ 1) ^^^ 1 : Nat) : Int), ((((128 + pg) / 2 ^ 2) ^^^ 1 : Nat) : Int), ((((128 + pg) / 2 ^ 3) ^^^ 1 : Nat) : Int), ((((128 + pg) / 2 ^ 4) ^^^ 1 : Nat) : Int), (((128 + pg) / 2 ^ 5 : Nat) : Int), (((128 + pg) / 2 ^ 6 : Nat) : Int), (((128 + pg) / 2 ^ 7 : Nat) : Int)] : List Int) = 8)) (by omega)) underlying52 sizeOf3 (Nat.mul_one _).symm) ?_)))))
 refine WL.storeR (a := a_1) (i := 5) (v := (vn (((128 + pg) / 2 ^ 5) ^^^ 1))) (xs' := ([((((128 + pg) / 2 ^ 0) ^^^ 1 : Nat) : Int), ((((128 + pg) / 2 ^ 1) ^^^ 1 : Nat) : Int), ((((128 + pg) / 2 ^ 2) ^^^ 1 : Nat) : Int), ((((128 + pg) / 2 ^ 3) ^^^ 1 : Nat) : Int), ((((128 + pg) / 2 ^ 4) ^^^ 1 : Nat) : Int), ((((128 + pg) / 2 ^ 5) ^^^ 1 : Nat) : Int), (((128 + pg) / 2 ^ 6 : Nat) : Int), (((128 + pg) / 2 ^ 7 : Nat) : Int)] : List Int).map vi64) h_16 rfl rfl sizeOf3 rfl At.h (lt_len (K := 8) (len_map (rfl : List.length ([((((128 + pg) / 2 ^ 0) ^^^ 1 : Nat) : Int), ((((128 + pg) / 2 ^ 1) ^^^ 1 : Nat) : Int), ((((128 + pg) / 2 ^ 2) ^^^ 1 : Nat) : Int), ((((128 + pg) / 2 ^ 3) ^^^ 1 : Nat) : Int), ((((128 + pg) / 2 ^ 4) ^^^ 1 : Nat) : Int), (((128 + pg) / 2 ^ 5 : Nat) : Int), (((128 + pg) / 2 ^ 6 : Nat) : Int), (((128 + pg) / 2 ^ 7 : Nat) : Int)] : List Int) = 8)) (by omega)) ((set_i64 _ _ _).trans rfl) (fun w_17 h_18 => ?_)
 refine WL.nil (inb_n (thn_n (WP.reg ?_)))
 refine qV rfl (R.bin rfl rfl (bi_add (c := 6) (by omega) (by omega))) (qM (vi 6) rfl rfl ?_)
 refine WL.nil (thn_n ?_)
 refine WI.round ?_
 refine WP.seq (WP.reg ?_)
 refine qV rfl (R.bin rfl rfl (bi_lss (r := true) (by decide))) ?_
 refine WL.nil (thn_n (WP.seq ?_))
 refine WP.condT rfl ?_
 refine WP.skip (thn_n (WP.seq (WP.block (WP.seq (WP.reg ?_)))))
 refine qM (vi 6) rfl rfl (qA (vi 6) rfl rfl ?_)
 refine WL.nil (thn_n (WP.reg ?_))
 refine qM (.slice a_1 8 cap_2) rfl rfl (qM (vi 6) rfl rfl (qV rfl (R.indexS (a := a_1) (i := 6) (off := 6) (xs := ([((((128 + pg) / 2 ^ 0) ^^^ 1 : Nat) : Int), ((((128 + pg) / 2 ^ 1) ^^^ 1 : Nat) : Int), ((((128 + pg) / 2 ^ 2) ^^^ 1 : Nat) : Int), ((((128 + pg) / 2 ^ 3) ^^^ 1 : Nat) : Int), ((((128 + pg) / 2 ^ 4) ^^^ 1 : Nat) : Int), ((((128 + pg) / 2 ^ 5) ^^^ 1 : Nat) : Int), (((128 + pg) / 2 ^ 6 : Nat) : Int), (((128 + pg) / 2 ^ 7 : Nat) : Int)] : List Int).map vi64) rfl rfl rfl (by decide) (ownView (h_18.ok _ M0)) (lt_len (K := 8) (len_map (rfl : List.length ([((((128 + pg) / 2 ^ 0) ^^^ 1 : Nat) : Int), ((((128 + pg) / 2 ^ 1) ^^^ 1 : Nat) : Int), ((((128 + pg) / 2 ^ 2) ^^^ 1 : Nat) : Int), ((((128 + pg) / 2 ^ 3) ^^^ 1 : Nat) : Int), ((((128 + pg) / 2 ^ 4) ^^^ 1 : Nat) : Int), ((((128 + pg) / 2 ^ 5) ^^^ 1 : Nat) : Int), (((128 + pg) / 2 ^ 6 : Nat) : Int), (((128 + pg) / 2 ^ 7 : Nat) : Int)] : List Int) = 8)) (by omega)) underlying52 sizeOf3 (Nat.mul_one _).symm) (qV rfl (R.loadG rfl (ownView (h_18.ok _ M0)) isAgg3 rfl) (qV rfl (R.bin (v := (vn (((128 + pg) / 2 ^ 6) ^^^ 1))) rfl rfl (bi_xorN (m := (128 + pg) / 2 ^ 6) (n := 1) (by omega) (by omega))) (qV rfl (R.indexS (a := a_1) (i := 6) (off := 6) (xs := ([((((128 + pg) / 2 ^ 0) ^^^ 1 : Nat) : Int), ((((128 + pg) / 2 ^ 1) ^^^ 1 : Nat) : Int), ((((128 + pg) / 2 ^ 2) ^^^ 1 : Nat) : Int), ((((128 + pg) / 2 ^ 3) ^^^ 1 : Nat) : Int), ((((128 + pg) / 2 ^ 4) ^^^ 1 : Nat) : Int), ((((128 + pg) / 2 ^ 5) ^^^ 1 : Nat) : Int), (((128 + pg) / 2 ^ 6 : Nat) : Int), (((128 + pg) / 2 ^ 7 : Nat) : Int)] : List Int).map vi64) rfl rfl rfl (by decide) (ownView (h_18.ok _ M0)) (lt_len (K := 8) (len_map (rfl : List.length ([((((128 + pg) / 2 ^ 0) ^^^ 1 : Nat) : Int), ((((128 + pg) / 2 ^ 1) ^^^ 1 : Nat) : Int), ((((128 + pg) / 2 ^ 2) ^^^ 1 : Nat) : Int), ((((128 + pg) / 2 ^ 3) ^^^ 1 : Nat) : Int), ((((128 + pg) / 2 ^ 4) ^^^ 1 : Nat) : Int), ((((128 + pg) / 2 ^ 5) ^^^ 1 : Nat) : Int), (((128 + pg) / 2 ^ 6 : Nat) : Int), (((128 + pg) / 2 ^ 7 : Nat) : Int)] : List Int) = 8)) (by omega)) underlying52 sizeOf3 (Nat.mul_one _).symm) ?_)))))
 refine WL.storeR (a := a_1) (i := 6) (v := (vn (((128 + pg) / 2 ^ 6) ^^^ 1))) (xs' := ([((((128 + pg) / 2 ^ 0) ^^^ 1 : Nat) : Int), ((((128 + pg) / 2 ^ 1) ^^^ 1 : Nat) : Int), ((((128 + pg) / 2 ^ 2) ^^^ 1 : Nat) : Int), ((((128 + pg) / 2 ^ 3) ^^^ 1 : Nat) : Int), ((((128 + pg) / 2 ^ 4) ^^^ 1 : Nat) : Int), ((((128 + pg) / 2 ^ 5) ^^^ 1 : Nat) : Int), ((((128 + pg) / 2 ^ 6) ^^^ 1 : Nat) : Int), (((128 + pg) / 2 ^ 7 : Nat) : Int)] : List Int).map vi64) h_18 rfl rfl sizeOf3 rfl At.h (lt_len (K := 8) (len_map (rfl : List.length ([((((128 + pg) / 2 ^ 0) ^^^ 1 : Nat) : Int), ((((128 + pg) / 2 ^ 1) ^^^ 1 : Nat) : Int), ((((128 + pg) / 2 ^ 2) ^^^ 1 : Nat) : Int), ((((128 + pg) / 2 ^ 3) ^^^ 1 : Nat) : Int), ((((128 + pg) / 2 ^ 4) ^^^ 1 : Nat) : Int), ((((128 + pg) / 2 ^ 5) ^^^ 1 : Nat) : Int), (((128 + pg) / 2 ^ 6 : Nat) : Int), (((128 + pg) / 2 ^ 7 : Nat) : Int)] : List Int) = 8)) (by omega)) ((set_i64 _ _ _).trans rfl) (fun w_19 h_20 => ?_)
 refine WL.nil (inb_n (thn_n (WP.reg ?_)))
 refine qV rfl (R.bin rfl rfl (bi_add (c := 7) (by omega) (by omega))) (qM (vi 7) rfl rfl ?_)
 refine WL.nil (thn_n ?_)
 refine WI.round ?_
 refine WP.seq (WP.reg ?_)
 refine qV rfl (R.bin rfl rfl (bi_lss (r := true) (by decide))) ?_
 refine WL.nil (thn_n (WP.seq ?_))
 refine WP.condT rfl ?_
 refine WP.skip (thn_n (WP.seq (WP.block (WP.seq (WP.reg ?_)))))
 refine qM (vi 7) rfl rfl (qA (vi 7) rfl rfl ?_)
 refine WL.nil (thn_n (WP.reg ?_))
 refine qM (.slice a_1 8 cap_2) rfl rfl (qM (vi 7) rfl rfl (qV rfl (R.indexS (a := a_1) (i := 7) (off := 7) (xs := ([((((128 + pg) / 2 ^ 0) ^^^ 1 : Nat) : Int), ((((128 + pg) / 2 ^ 1) ^^^ 1 : Nat) : Int), ((((128 + pg) / 2 ^ 2) ^^^ 1 : Nat) : Int), ((((128 + pg) / 2 ^ 3) ^^^ 1 : Nat) : Int), ((((128 + pg) / 2 ^ 4) ^^^ 1 : Nat) : Int), ((((128 + pg) / 2 ^ 5) ^^^ 1 : Nat) : Int), ((((128 + pg) / 2 ^ 6) ^^^ 1 : Nat) : Int), (((128 + pg) / 2 ^ 7 : Nat) : Int)] : List Int).map vi64) rfl rfl rfl (by decide) (ownView (h_20.ok _ M0)) (lt_len (K := 8) (len_map (rfl : List.length ([((((128 + pg) / 2 ^ 0) ^^^ 1 : Nat) : Int), ((((128 + pg) / 2 ^ 1) ^^^ 1 : Nat) : Int), ((((128 + pg) / 2 ^ 2) ^^^ 1 : Nat) : Int), ((((128 + pg) / 2 ^ 3) ^^^ 1 : Nat) : Int), ((((128 + pg) / 2 ^ 4) ^^^ 1 : Nat) : Int), ((((128 + pg) / 2 ^ 5) ^^^ 1 : Nat) : Int), ((((128 + pg) / 2 ^ 6) ^^^ 1 : Nat) : Int), (((128 + pg) / 2 ^ 7 : Nat) : Int)] : List Int) = 8)) (by omega)) underlying52 sizeOf3 (Nat.mul_one _).symm) (qV rfl (R.loadG rfl (ownView (h_20.ok _ M0)) isAgg3 rfl) (qV rfl (R.bin (v := (vn (((128 + pg) / 2 ^ 7) ^^^ 1))) rfl rfl (bi_xorN (m := (128 + pg) / 2 ^ 7) (n := 1) (by omega) (by omega))) (qV rfl (R.indexS (a := a_1) (i := 7) (off := 7) (xs := ([((((128 + pg) / 2 ^ 0) ^^^ 1 : Nat) : Int), ((((128 + pg) / 2 ^ 1) ^^^ 1 : Nat) : Int), ((((128 + pg) / 2 ^ 2) ^^^ 1 : Nat) : Int), ((((128 + pg) / 2 ^ 3) ^^^ 1 : Nat) : Int), ((((128 + pg) / 2 ^ 4) ^^^ 1 : Nat) : Int), ((((128 + pg) / 2 ^ 5) ^^^ 1 : Nat) : Int), ((((128 + pg) / 2 ^ 6) ^^^ 1 : Nat) : Int), (((128 + pg) / 2 ^ 7 : Nat) : Int)] : List Int).map vi64) rfl rfl rfl (by decide) (ownView (h_20.ok _ M0)) (lt_len (K := 8) (len_map (rfl : List.length ([((((128 + pg) / 2 ^ 0) ^^^ 1 : Nat) : Int), ((((128 + pg) / 2 ^ 1) ^^^ 1 : Nat) : Int), ((((128 + pg) / 2 ^ 2) ^^^ 1 : Nat) : Int), ((((128 + pg) / 2 ^ 3) ^^^ 1 : Nat) : Int), ((((128 + pg) / 2 ^ 4) ^^^ 1 : Nat) : Int), ((((128 + pg) / 2 ^ 5) ^^^ 1 : Nat) : Int), ((((128 + pg) / 2 ^ 6) ^^^ 1 : Nat) : Int), (((128 + pg) / 2 ^ 7 : Nat) : Int)] : List Int) = 8)) (by omega)) underlying52 sizeOf3 (Nat.mul_one _).symm) ?_)))))
 refine WL.storeR (a := a_1) (i := 7) (v := (vn (((128 + pg) / 2 ^ 7) ^^^ 1))) (xs' := ([((((128 + pg) / 2 ^ 0) ^^^ 1 : Nat) : Int), ((((128 + pg) / 2 ^ 1) ^^^ 1 : Nat) : Int), ((((128 + pg) / 2 ^ 2) ^^^ 1 : Nat) : Int), ((((128 + pg) / 2 ^ 3) ^^^ 1 : Nat) : Int), ((((128 + pg) / 2 ^ 4) ^^^ 1 : Nat) : Int), ((((128 + pg) / 2 ^ 5) ^^^ 1 : Nat) : Int), ((((128 + pg) / 2 ^ 6) ^^^ 1 : Nat) : Int), ((((128 + pg) / 2 ^ 7) ^^^ 1 : Nat) : Int)] : List Int).map vi64) h_20 rfl rfl sizeOf3 rfl At.h (lt_len (K := 8) (len_map (rfl : List.length ([((((128 + pg) / 2 ^ 0) ^^^ 1 : Nat) : Int), ((((128 + pg) / 2 ^ 1) ^^^ 1 : Nat) : Int), ((((128 + pg) / 2 ^ 2) ^^^ 1 : Nat) : Int), ((((128 + pg) / 2 ^ 3) ^^^ 1 : Nat) : Int), ((((128 + pg) / 2 ^ 4) ^^^ 1 : Nat) : Int), ((((128 + pg) / 2 ^ 5) ^^^ 1 : Nat) : Int), ((((128 + pg) / 2 ^ 6) ^^^ 1 : Nat) : Int), (((128 + pg) / 2 ^ 7 : Nat) : Int)] : List Int) = 8)) (by omega)) ((set_i64 _ _ _).trans rfl) (fun w_21 h_22 => ?_)
 refine WL.nil (inb_n (thn_n (WP.reg ?_)))
 refine qV rfl (R.bin rfl rfl (bi_add (c := 8) (by omega) (by omega))) (qM (vi 8) rfl rfl ?_)
 refine WL.nil (thn_n ?_)
 refine WI.round ?_
 refine WP.seq (WP.reg ?_)
 refine qV rfl (R.bin rfl rfl (bi_lss (r := false) (by decide))) ?_
 refine WL.nil (thn_n (WP.seq ?_))
 refine WP.condF rfl ?_
 refine WP.exit (thn_x (thn_x (inb_hit (thn_n (WP.seq (WP.reg ?_))))))
 refine qM (.slice a_1 8 cap_2) rfl rfl (qV rfl (R.sliceR0 (h := 7) rfl EvB.dflt (EvB.it (l := 7) rfl rfl) (Nat.le_trans (by decide) (h_22.own M0).2.2.1) underlying52 sizeOf3 (h_22.ok _ M0)) ?_)
 have h_23 := HP.rowCut (k := 7) h_22 At.h (by decide)
 rw [show (([((((128 + pg) / 2 ^ 0) ^^^ 1 : Nat) : Int), ((((128 + pg) / 2 ^ 1) ^^^ 1 : Nat) : Int), ((((128 + pg) / 2 ^ 2) ^^^ 1 : Nat) : Int), ((((128 + pg) / 2 ^ 3) ^^^ 1 : Nat) : Int), ((((128 + pg) / 2 ^ 4) ^^^ 1 : Nat) : Int), ((((128 + pg) / 2 ^ 5) ^^^ 1 : Nat) : Int), ((((128 + pg) / 2 ^ 6) ^^^ 1 : Nat) : Int), ((((128 + pg) / 2 ^ 7) ^^^ 1 : Nat) : Int)] : List Int).map vi64).take (7 * 1) = (([((((128 + pg) / 2 ^ 0) ^^^ 1 : Nat) : Int), ((((128 + pg) / 2 ^ 1) ^^^ 1 : Nat) : Int), ((((128 + pg) / 2 ^ 2) ^^^ 1 : Nat) : Int), ((((128 + pg) / 2 ^ 3) ^^^ 1 : Nat) : Int), ((((128 + pg) / 2 ^ 4) ^^^ 1 : Nat) : Int), ((((128 + pg) / 2 ^ 5) ^^^ 1 : Nat) : Int), ((((128 + pg) / 2 ^ 6) ^^^ 1 : Nat) : Int), ((((128 + pg) / 2 ^ 7) ^^^ 1 : Nat) : Int)] : List Int).take 7).map vi64 from by rw [Nat.mul_one, ← List.map_take]] at h_23
 refine qA (.slice a_1 7 cap_2) rfl rfl (qA (vi 0) rfl rfl ?_)
 refine WL.nil (thn_n (WP.ret ?_))
 refine ret_of results16 (RV.tmp (v := (.slice a_1 7 cap_2)) rfl (RV.tmp (v := (vi 0)) rfl RV.nil)) ?_
 exact ⟨_, _, rfl, h_23.chgS, h_23.ok _ M0⟩

end Go.Proofs.Ytbhllplbbkmndaa

namespace Go.Proofs.Ytbhllplbbkmndaa
open Go.Proofs.Try
open Go.Vc Go.Orc Go.Sh Go.RowKit
set_option maxRecDepth 20000
theorem pl84 : ∀ fs, Try.prog.underlying 84 = some (.struct fs) → Places Try.prog fs [(0, 1)] := by
 intro fs h w; rw [underlying84] at h; cases h; simp
theorem c_tth (id : Bool) (ob mp : Nat) (ms : List UInt8) (hms : ms.length = 32) (da : Option Addr) (dn dc u : Nat) (la : Option Addr) (ln lc : Nat) (w : World) (hcb : (Ent.blk ob .ro 82 [(1, [(.bool id)]), (32, ms.map vu8), (1, [(.slice da dn dc)]), (1, [(vi ((u : Nat) : Int))]), (1, [(.map (some mp))]), (1, [(.slice la ln lc)])]).ok w.heap.size w) :
  Cs Try.prog 28 [(.pointer (some ⟨ob, 0, none⟩))].toArray w (fun v w1 => v = (.bool true) ∧ Chg w w1 []) := by
 refine Cs.of (n := 13) (args := [(pO ob 0)]) Try.func28 rfl rfl rfl ?_
 have h_0 := HP.init w
 have h_00 := h_0.old hcb (fun f hf => by cases hf)
 refine WP.seq (WP.reg ?_)
 refine qA (.bool false) rfl rfl ?_
 refine WL.nil (thn_n (WP.seq (WP.reg ?_)))
 refine qM (pO ob 0) rfl rfl (qV rfl (R.buildS (pl := [(0, 1), (1, 32), (33, 1), (34, 1)]) (zs := [(1, [(vi 0)]), (32, (zB 32).map vu8), (1, [(vi 0)]), (1, [(.slice none 0 0)])]) (vs := []) (out := [(1, [(vi 0)]), (32, (zB 32).map vu8), (1, [(vi 0)]), (1, [(.slice none 0 0)])]) underlying96 (zv typeInfo96 rfl) rfl (sC sV (sC (s8 lr) (sC sV (sC sV sN)))) (pl96 _ underlying96) rfl FillR.nil rfl) ?_)
 refine WL.call Try.call41 rfl rfl (c_oAsk_0 id ob mp ms hms da dn dc u la ln lc 0 (zB 32) none 0 0 lr _ (h_00.argR M0)) rfl ?_
 rintro _ w_3 ⟨rfl, hc_2⟩
 have h_4 := h_00.same hc_2
 refine qM (.tuple [(.agg ⟨(zB 32).map vu8⟩), (vi 2)].toArray) rfl rfl (qV rfl (R.extract rfl rfl) (qV rfl (R.extract rfl rfl) ?_))
 refine WL.alloc (segs := [(32, (zB 32).map vu8)]) h_4 (zv typeInfo23 rfl) rfl (sC (s8 lr) sN) rfl (fun b_5 w_6 h_7 => ?_)
 refine WL.storeA [] [(32, (zB 32).map vu8)] [(32, (zB 32).map vu8)] [] h_7 rfl rfl sizeOf23 At.h (by decide) rfl rfl rfl rfl rfl rfl (sC (s8 lr) sN) (fun w_8 h_9 => ?_)
 refine qA (vi 2) rfl rfl ?_
 refine WL.nil (thn_n (WP.seq (WP.reg ?_)))
 refine qM (vi 2) rfl rfl (qV rfl (R.bin rfl rfl (bi_neq (r := true) (by decide))) (qA (.bool true) rfl rfl ?_))
 refine WL.nil (thn_n (WP.ret ?_))
 refine ret_of results28 (RV.tmp (v := (.bool true)) rfl RV.nil) ?_
 exact ⟨rfl, h_9.chgS⟩

theorem c_gran (bm : Nat) (ma : Option Addr) (mn : Nat) (w : World) (hcm : (Ent.blk bm .ro 84 [(1, [(.slice ma mn mn)])]).ok w.heap.size w) :
  Cs Try.prog 37 [(.pointer (some ⟨bm, 0, none⟩))].toArray w (fun v w1 => v = (vi ((mn : Nat) : Int)) ∧ Chg w w1 []) := by
 refine Cs.of (n := 10) (args := [(pO bm 0)]) Try.func37 rfl rfl rfl ?_
 have h_0 := HP.init w
 have h_00 := h_0.old hcm (fun f hf => by cases hf)
 refine WP.seq (WP.reg ?_)
 refine qA (vi 0) rfl rfl ?_
 refine WL.nil (thn_n (WP.seq (WP.seq (WP.reg ?_))))
 refine qM (pO bm 0) rfl rfl (qV rfl (R.eqNilP rfl rfl underlying35) ?_)
 refine WL.nil (thn_n ?_)
 refine WP.condF rfl ?_
 refine WP.skip (thn_n (WP.seq (WP.reg ?_)))
 refine qM (pO bm 0) rfl rfl (qV rfl (R.nilCheck rfl) (qV rfl (R.fieldAddr (off' := 0) rfl underlying84 rfl sizeOf25 rfl rfl) (qV rfl (R.load1 rfl isAgg25 (h_00.ok _ M0) Sg.h) (qV rfl (R.lenS (a := ma) (m := mn) rfl rfl underlying25) (qA (vn mn) rfl rfl ?_)))))
 refine WL.nil (thn_n (WP.ret ?_))
 refine ret_of results37 (RV.tmp (v := (vn mn)) rfl RV.nil) ?_
 exact ⟨rfl, h_00.chgS⟩

theorem c_Win_70_64 (bm : Nat) (ma : Option Addr) (w : World) (hcm : (Ent.blk bm .ro 84 [(1, [(.slice ma 70 70)])]).ok w.heap.size w) :
  Cs Try.prog 38 [(.pointer (some ⟨bm, 0, none⟩)), (vu64 64)].toArray w (fun v w1 => v = (.bool false) ∧ Chg w w1 []) := by
 refine Cs.of (n := 23) (args := [(pO bm 0), (vu64 64)]) Try.func38 rfl rfl rfl ?_
 have h_0 := HP.init w
 have h_00 := h_0.old hcm (fun f hf => by cases hf)
 refine WP.seq (WP.reg ?_)
 refine qA (.bool false) rfl rfl ?_
 refine WL.nil (thn_n (WP.seq (WP.reg ?_)))
 refine qM (pO bm 0) rfl rfl ?_
 refine WL.call Try.call37 rfl rfl (c_gran bm ma 70 _ (h_00.argR M0)) rfl ?_
 rintro _ w_2 ⟨rfl, hc_1⟩
 have h_3 := h_00.same hc_1
 refine qA (vi 70) rfl rfl ?_
 refine WL.nil (thn_n (WP.seq (WP.reg ?_)))
 refine qM (vi 70) rfl rfl (qV rfl (R.bin rfl rfl (bi_geq (r := true) (by decide))) (qM (.bool true) rfl rfl ?_))
 refine WL.want rfl rfl ?_
 refine qM (vu64 64) rfl rfl ?_
 refine WL.want rfl rfl ?_
 refine qV rfl (R.bin (v := (vu64 64)) rfl rfl ((b64_rem 64 128 (by decide)).trans rfl)) ?_
 refine WL.want rfl rfl ?_
 refine qV rfl (R.bin (v := (.bool false)) rfl rfl (b64_eql 64 0 (r := false) rfl)) (qV rfl (R.pickT (v := (.bool false)) rfl rfl) (qM (.bool false) rfl rfl ?_))
 refine WL.skip rfl rfl rfl ?_
 refine WL.skip rfl rfl rfl ?_
 refine WL.skip rfl rfl rfl ?_
 refine WL.skip rfl rfl rfl ?_
 refine WL.skip rfl rfl rfl ?_
 refine WL.skip rfl rfl rfl ?_
 refine qV rfl (R.pickF (v := (.bool false)) rfl rfl) (qA (.bool false) rfl rfl ?_)
 refine WL.nil (thn_n (WP.ret ?_))
 refine ret_of results38 (RV.tmp (v := (.bool false)) rfl RV.nil) ?_
 exact ⟨rfl, h_3.chgS⟩

theorem c_Win_70_8832 (bm : Nat) (ma : Option Addr) (w : World) (hcm : (Ent.blk bm .ro 84 [(1, [(.slice ma 70 70)])]).ok w.heap.size w) :
  Cs Try.prog 38 [(.pointer (some ⟨bm, 0, none⟩)), (vu64 8832)].toArray w (fun v w1 => v = (.bool false) ∧ Chg w w1 []) := by
 refine Cs.of (n := 23) (args := [(pO bm 0), (vu64 8832)]) Try.func38 rfl rfl rfl ?_
 have h_0 := HP.init w
 have h_00 := h_0.old hcm (fun f hf => by cases hf)
 refine WP.seq (WP.reg ?_)
 refine qA (.bool false) rfl rfl ?_
 refine WL.nil (thn_n (WP.seq (WP.reg ?_)))
 refine qM (pO bm 0) rfl rfl ?_
 refine WL.call Try.call37 rfl rfl (c_gran bm ma 70 _ (h_00.argR M0)) rfl ?_
 rintro _ w_2 ⟨rfl, hc_1⟩
 have h_3 := h_00.same hc_1
 refine qA (vi 70) rfl rfl ?_
 refine WL.nil (thn_n (WP.seq (WP.reg ?_)))
 refine qM (vi 70) rfl rfl (qV rfl (R.bin rfl rfl (bi_geq (r := true) (by decide))) (qM (.bool true) rfl rfl ?_))
 refine WL.want rfl rfl ?_
 refine qM (vu64 8832) rfl rfl ?_
 refine WL.want rfl rfl ?_
 refine qV rfl (R.bin (v := (vu64 0)) rfl rfl ((b64_rem 8832 128 (by decide)).trans rfl)) ?_
 refine WL.want rfl rfl ?_
 refine qV rfl (R.bin (v := (.bool true)) rfl rfl (b64_eql 0 0 (r := true) rfl)) (qV rfl (R.pickT (v := (.bool true)) rfl rfl) (qM (.bool true) rfl rfl ?_))
 refine WL.want rfl rfl ?_
 refine qM (vu64 8832) rfl rfl ?_
 refine WL.want rfl rfl ?_
 refine qV rfl (R.bin (v := (vu64 69)) rfl rfl ((b64_quo 8832 128 (by decide)).trans rfl)) ?_
 refine WL.want rfl rfl ?_
 refine qM (vi 70) rfl rfl ?_
 refine WL.want rfl rfl ?_
 refine qV rfl (R.bin rfl rfl (bi_sub (c := 6) (by omega) (by omega))) ?_
 refine WL.want rfl rfl ?_
 refine qV rfl (R.conv (b := (6 : UInt64).toNat) rfl underlying3 underlying26 (by decide)) ?_
 refine WL.want rfl rfl ?_
 refine qV rfl (R.bin (v := (.bool false)) rfl rfl (b64_leq 69 6 (r := false) rfl)) (qV rfl (R.pickT (v := (.bool false)) rfl rfl) (qA (.bool false) rfl rfl ?_))
 refine WL.nil (thn_n (WP.ret ?_))
 refine ret_of results38 (RV.tmp (v := (.bool false)) rfl RV.nil) ?_
 exact ⟨rfl, h_3.chgS⟩

theorem c_ask_70_64_0 (id : Bool) (ob mp : Nat) (ms : List UInt8) (hms : ms.length = 32) (da : Option Addr) (dn dc u : Nat) (la : Option Addr) (ln lc : Nat) (bm : Nat) (ma : Option Addr) (w : World) (hcb : (Ent.blk ob .ro 82 [(1, [(.bool id)]), (32, ms.map vu8), (1, [(.slice da dn dc)]), (1, [(vi ((u : Nat) : Int))]), (1, [(.map (some mp))]), (1, [(.slice la ln lc)])]).ok w.heap.size w) (hcm : (Ent.blk bm .ro 84 [(1, [(.slice ma 70 70)])]).ok w.heap.size w) :
  Cs Try.prog 24 [(.pointer (some ⟨ob, 0, none⟩)), (.pointer (some ⟨bm, 0, none⟩)), (vu64 64), (vi 0)].toArray w (fun v w1 => v = (vi 2) ∧ Chg w w1 []) := by
 refine Cs.of (n := 28) (args := [(pO ob 0), (pO bm 0), (vu64 64), (vi 0)]) Try.func24 rfl rfl rfl ?_
 have h_0 := HP.init w
 have h_01 := h_0.oldV hcb rfl (by simp [Ent.mut])
 have h_00 := h_01.oldV hcm rfl (by simp [Ent.mut])
 refine WP.seq (WP.reg ?_)
 refine qA (vi 0) rfl rfl ?_
 refine WL.nil (thn_n (WP.seq (WP.block (WP.seq (WP.reg ?_)))))
 refine qM (pO ob 0) rfl rfl ?_
 refine WL.call Try.call28 rfl rfl (c_tth id ob mp ms hms da dn dc u la ln lc _ (h_00.argR M1)) rfl ?_
 rintro _ w_2 ⟨rfl, hc_1⟩
 have h_3 := h_00.same hc_1
 refine qV rfl (R.not (b := true) rfl) (qM (.bool false) rfl rfl ?_)
 refine WL.want rfl rfl ?_
 refine qM (pO bm 0) rfl rfl ?_
 refine WL.want rfl rfl ?_
 refine WL.call Try.call37 rfl rfl (c_gran bm ma 70 _ (h_3.argR M0)) rfl ?_
 rintro _ w_5 ⟨rfl, hc_4⟩
 have h_6 := h_3.same hc_4
 refine WL.want rfl rfl ?_
 refine qV rfl (R.bin rfl rfl (bi_eql (r := false) (by decide))) (qV rfl (R.pickF (v := (.bool false)) rfl rfl) (qA (.bool false) rfl rfl ?_))
 refine WL.nil (thn_n ?_)
 refine WP.condF rfl ?_
 refine WP.seq (WP.reg ?_)
 refine qM (vi 0) rfl rfl ?_
 refine WL.call Try.call29 rfl rfl (c_prot_t 0 (by omega) _ ) rfl ?_
 rintro _ w_8 ⟨rfl, hc_7⟩
 have h_9 := h_6.same hc_7
 refine qV rfl (R.not (b := true) rfl) (qM (.bool false) rfl rfl ?_)
 refine WL.want rfl rfl ?_
 refine qM (pO bm 0) rfl rfl ?_
 refine WL.want rfl rfl ?_
 refine qM (vu64 64) rfl rfl ?_
 refine WL.want rfl rfl ?_
 refine WL.call Try.call38 rfl rfl (c_Win_70_64 bm ma _ (h_9.argR M0)) rfl ?_
 rintro _ w_11 ⟨rfl, hc_10⟩
 have h_12 := h_9.same hc_10
 refine WL.want rfl rfl ?_
 refine qV rfl (R.not (b := false) rfl) (qV rfl (R.pickF (v := (.bool true)) rfl rfl) (qA (.bool true) rfl rfl ?_))
 refine WL.nil (thn_n ?_)
 refine WP.condT rfl ?_
 refine WP.seq (WP.reg ?_)
 refine qA (vi 2) rfl rfl ?_
 refine WL.nil (thn_n (WP.ret (inb_r (thn_r ?_))))
 refine ret_of results24 (RV.tmp (v := (vi 2)) rfl RV.nil) ?_
 exact ⟨rfl, h_12.chgS⟩

theorem c_ask_70_8832_0 (id : Bool) (ob mp : Nat) (ms : List UInt8) (hms : ms.length = 32) (da : Option Addr) (dn dc u : Nat) (la : Option Addr) (ln lc : Nat) (bm : Nat) (ma : Option Addr) (w : World) (hcb : (Ent.blk ob .ro 82 [(1, [(.bool id)]), (32, ms.map vu8), (1, [(.slice da dn dc)]), (1, [(vi ((u : Nat) : Int))]), (1, [(.map (some mp))]), (1, [(.slice la ln lc)])]).ok w.heap.size w) (hcm : (Ent.blk bm .ro 84 [(1, [(.slice ma 70 70)])]).ok w.heap.size w) :
  Cs Try.prog 24 [(.pointer (some ⟨ob, 0, none⟩)), (.pointer (some ⟨bm, 0, none⟩)), (vu64 8832), (vi 0)].toArray w (fun v w1 => v = (vi 2) ∧ Chg w w1 []) := by
 refine Cs.of (n := 28) (args := [(pO ob 0), (pO bm 0), (vu64 8832), (vi 0)]) Try.func24 rfl rfl rfl ?_
 have h_0 := HP.init w
 have h_01 := h_0.oldV hcb rfl (by simp [Ent.mut])
 have h_00 := h_01.oldV hcm rfl (by simp [Ent.mut])
 refine WP.seq (WP.reg ?_)
 refine qA (vi 0) rfl rfl ?_
 refine WL.nil (thn_n (WP.seq (WP.block (WP.seq (WP.reg ?_)))))
 refine qM (pO ob 0) rfl rfl ?_
 refine WL.call Try.call28 rfl rfl (c_tth id ob mp ms hms da dn dc u la ln lc _ (h_00.argR M1)) rfl ?_
 rintro _ w_2 ⟨rfl, hc_1⟩
 have h_3 := h_00.same hc_1
 refine qV rfl (R.not (b := true) rfl) (qM (.bool false) rfl rfl ?_)
 refine WL.want rfl rfl ?_
 refine qM (pO bm 0) rfl rfl ?_
 refine WL.want rfl rfl ?_
 refine WL.call Try.call37 rfl rfl (c_gran bm ma 70 _ (h_3.argR M0)) rfl ?_
 rintro _ w_5 ⟨rfl, hc_4⟩
 have h_6 := h_3.same hc_4
 refine WL.want rfl rfl ?_
 refine qV rfl (R.bin rfl rfl (bi_eql (r := false) (by decide))) (qV rfl (R.pickF (v := (.bool false)) rfl rfl) (qA (.bool false) rfl rfl ?_))
 refine WL.nil (thn_n ?_)
 refine WP.condF rfl ?_
 refine WP.seq (WP.reg ?_)
 refine qM (vi 0) rfl rfl ?_
 refine WL.call Try.call29 rfl rfl (c_prot_t 0 (by omega) _ ) rfl ?_
 rintro _ w_8 ⟨rfl, hc_7⟩
 have h_9 := h_6.same hc_7
 refine qV rfl (R.not (b := true) rfl) (qM (.bool false) rfl rfl ?_)
 refine WL.want rfl rfl ?_
 refine qM (pO bm 0) rfl rfl ?_
 refine WL.want rfl rfl ?_
 refine qM (vu64 8832) rfl rfl ?_
 refine WL.want rfl rfl ?_
 refine WL.call Try.call38 rfl rfl (c_Win_70_8832 bm ma _ (h_9.argR M0)) rfl ?_
 rintro _ w_11 ⟨rfl, hc_10⟩
 have h_12 := h_9.same hc_10
 refine WL.want rfl rfl ?_
 refine qV rfl (R.not (b := false) rfl) (qV rfl (R.pickF (v := (.bool true)) rfl rfl) (qA (.bool true) rfl rfl ?_))
 refine WL.nil (thn_n ?_)
 refine WP.condT rfl ?_
 refine WP.seq (WP.reg ?_)
 refine qA (vi 2) rfl rfl ?_
 refine WL.nil (thn_n (WP.ret (inb_r (thn_r ?_))))
 refine ret_of results24 (RV.tmp (v := (vi 2)) rfl RV.nil) ?_
 exact ⟨rfl, h_12.chgS⟩

theorem c_ask_70_0_128 (id : Bool) (ob mp : Nat) (ms : List UInt8) (hms : ms.length = 32) (da : Option Addr) (dn dc u : Nat) (la : Option Addr) (ln lc : Nat) (bm : Nat) (ma : Option Addr) (w : World) (hcb : (Ent.blk ob .ro 82 [(1, [(.bool id)]), (32, ms.map vu8), (1, [(.slice da dn dc)]), (1, [(vi ((u : Nat) : Int))]), (1, [(.map (some mp))]), (1, [(.slice la ln lc)])]).ok w.heap.size w) (hcm : (Ent.blk bm .ro 84 [(1, [(.slice ma 70 70)])]).ok w.heap.size w) :
  Cs Try.prog 24 [(.pointer (some ⟨ob, 0, none⟩)), (.pointer (some ⟨bm, 0, none⟩)), (vu64 0), (vi 128)].toArray w (fun v w1 => v = (vi 2) ∧ Chg w w1 []) := by
 refine Cs.of (n := 28) (args := [(pO ob 0), (pO bm 0), (vu64 0), (vi 128)]) Try.func24 rfl rfl rfl ?_
 have h_0 := HP.init w
 have h_01 := h_0.oldV hcb rfl (by simp [Ent.mut])
 have h_00 := h_01.oldV hcm rfl (by simp [Ent.mut])
 refine WP.seq (WP.reg ?_)
 refine qA (vi 0) rfl rfl ?_
 refine WL.nil (thn_n (WP.seq (WP.block (WP.seq (WP.reg ?_)))))
 refine qM (pO ob 0) rfl rfl ?_
 refine WL.call Try.call28 rfl rfl (c_tth id ob mp ms hms da dn dc u la ln lc _ (h_00.argR M1)) rfl ?_
 rintro _ w_2 ⟨rfl, hc_1⟩
 have h_3 := h_00.same hc_1
 refine qV rfl (R.not (b := true) rfl) (qM (.bool false) rfl rfl ?_)
 refine WL.want rfl rfl ?_
 refine qM (pO bm 0) rfl rfl ?_
 refine WL.want rfl rfl ?_
 refine WL.call Try.call37 rfl rfl (c_gran bm ma 70 _ (h_3.argR M0)) rfl ?_
 rintro _ w_5 ⟨rfl, hc_4⟩
 have h_6 := h_3.same hc_4
 refine WL.want rfl rfl ?_
 refine qV rfl (R.bin rfl rfl (bi_eql (r := false) (by decide))) (qV rfl (R.pickF (v := (.bool false)) rfl rfl) (qA (.bool false) rfl rfl ?_))
 refine WL.nil (thn_n ?_)
 refine WP.condF rfl ?_
 refine WP.seq (WP.reg ?_)
 refine qM (vi 128) rfl rfl ?_
 refine WL.call Try.call29 rfl rfl (c_prot_f 128 (by omega) _ ) rfl ?_
 rintro _ w_8 ⟨rfl, hc_7⟩
 have h_9 := h_6.same hc_7
 refine qV rfl (R.not (b := false) rfl) (qM (.bool true) rfl rfl ?_)
 refine WL.skip rfl rfl rfl ?_
 refine WL.skip rfl rfl rfl ?_
 refine WL.skip rfl rfl rfl ?_
 refine WL.skip rfl rfl rfl ?_
 refine qV rfl (R.pickT (v := (.bool true)) rfl rfl) (qA (.bool true) rfl rfl ?_)
 refine WL.nil (thn_n ?_)
 refine WP.condT rfl ?_
 refine WP.seq (WP.reg ?_)
 refine qA (vi 2) rfl rfl ?_
 refine WL.nil (thn_n (WP.ret (inb_r (thn_r ?_))))
 refine ret_of results24 (RV.tmp (v := (vi 2)) rfl RV.nil) ?_
 exact ⟨rfl, h_9.chgS⟩

theorem c_Lay_70_64 (id : Bool) (ob mp : Nat) (ms : List UInt8) (hms : ms.length = 32) (da : Option Addr) (dn dc u : Nat) (la : Option Addr) (ln lc : Nat) (bm : Nat) (ma : Option Addr) (w : World) (hcb : (Ent.blk ob .ro 82 [(1, [(.bool id)]), (32, ms.map vu8), (1, [(.slice da dn dc)]), (1, [(vi ((u : Nat) : Int))]), (1, [(.map (some mp))]), (1, [(.slice la ln lc)])]).ok w.heap.size w) (hcm : (Ent.blk bm .ro 84 [(1, [(.slice ma 70 70)])]).ok w.heap.size w) :
  Cs Try.prog 9 [(.pointer (some ⟨ob, 0, none⟩)), (.pointer (some ⟨bm, 0, none⟩)), (vu64 64)].toArray w (fun v w1 => v = (.tuple [(.agg ⟨(List.replicate 32 (0 : UInt8)).map vu8⟩), (vi 2)].toArray) ∧ Chg w w1 []) := by
 refine Cs.of (n := 69) (args := [(pO ob 0), (pO bm 0), (vu64 64)]) Try.func9 rfl rfl rfl ?_
 have h_0 := HP.init w
 have h_01 := h_0.oldV hcb rfl (by simp [Ent.mut])
 have h_00 := h_01.oldV hcm rfl (by simp [Ent.mut])
 refine WP.seq (WP.reg ?_)
 refine WL.alloc (segs := [(32, (zB 32).map vu8)]) h_00 (zv typeInfo23 rfl) rfl (sC (s8 lr) sN) rfl (fun b_1 w_2 h_3 => ?_)
 refine qA (vi 0) rfl rfl ?_
 refine WL.nil (thn_n (WP.seq (WP.seq (WP.reg ?_))))
 refine qM (pO ob 0) rfl rfl (qM (pO bm 0) rfl rfl (qM (vu64 64) rfl rfl ?_))
 refine WL.call Try.call24 rfl rfl (c_ask_70_64_0 id ob mp ms hms da dn dc u la ln lc bm ma  _ (h_3.argR M2) (h_3.argR M1)) rfl ?_
 rintro _ w_5 ⟨rfl, hc_4⟩
 have h_6 := h_3.same hc_4
 refine qA (vi 2) rfl rfl ?_
 refine WL.nil (thn_n (WP.seq (WP.reg ?_)))
 refine qM (vi 2) rfl rfl (qV rfl (R.bin rfl rfl (bi_neq (r := true) (by decide))) ?_)
 refine WL.nil (thn_n ?_)
 refine WP.condT rfl ?_
 refine WP.seq (WP.reg ?_)
 refine qV rfl (R.buildA (vs := []) (cs := (zB 32).map vu8) underlying23 sizeOf5 (zv typeInfo23 rfl) rfl rfl) (qM (vi 2) rfl rfl ?_)
 refine WL.storeA [] [(32, (zB 32).map vu8)] [(32, (zB 32).map vu8)] [] h_6 rfl rfl sizeOf23 At.h (by decide) rfl rfl rfl rfl rfl rfl (sC (s8 lr) sN) (fun w_7 h_8 => ?_)
 refine qA (vi 2) rfl rfl ?_
 refine WL.nil (thn_n (WP.ret (thn_r ?_)))
 refine ret_of results9 (RV.cell rfl (h_8.loadA (cs := (zB 32).map vu8) isAgg23 sizeOf23 M0 rfl rfl) (RV.tmp (v := (vi 2)) rfl RV.nil)) ?_
 exact ⟨rfl, h_8.chgS⟩

theorem c_Lay_70_8832 (id : Bool) (ob mp : Nat) (ms : List UInt8) (hms : ms.length = 32) (da : Option Addr) (dn dc u : Nat) (la : Option Addr) (ln lc : Nat) (bm : Nat) (ma : Option Addr) (w : World) (hcb : (Ent.blk ob .ro 82 [(1, [(.bool id)]), (32, ms.map vu8), (1, [(.slice da dn dc)]), (1, [(vi ((u : Nat) : Int))]), (1, [(.map (some mp))]), (1, [(.slice la ln lc)])]).ok w.heap.size w) (hcm : (Ent.blk bm .ro 84 [(1, [(.slice ma 70 70)])]).ok w.heap.size w) :
  Cs Try.prog 9 [(.pointer (some ⟨ob, 0, none⟩)), (.pointer (some ⟨bm, 0, none⟩)), (vu64 8832)].toArray w (fun v w1 => v = (.tuple [(.agg ⟨(List.replicate 32 (0 : UInt8)).map vu8⟩), (vi 2)].toArray) ∧ Chg w w1 []) := by
 refine Cs.of (n := 69) (args := [(pO ob 0), (pO bm 0), (vu64 8832)]) Try.func9 rfl rfl rfl ?_
 have h_0 := HP.init w
 have h_01 := h_0.oldV hcb rfl (by simp [Ent.mut])
 have h_00 := h_01.oldV hcm rfl (by simp [Ent.mut])
 refine WP.seq (WP.reg ?_)
 refine WL.alloc (segs := [(32, (zB 32).map vu8)]) h_00 (zv typeInfo23 rfl) rfl (sC (s8 lr) sN) rfl (fun b_1 w_2 h_3 => ?_)
 refine qA (vi 0) rfl rfl ?_
 refine WL.nil (thn_n (WP.seq (WP.seq (WP.reg ?_))))
 refine qM (pO ob 0) rfl rfl (qM (pO bm 0) rfl rfl (qM (vu64 8832) rfl rfl ?_))
 refine WL.call Try.call24 rfl rfl (c_ask_70_8832_0 id ob mp ms hms da dn dc u la ln lc bm ma  _ (h_3.argR M2) (h_3.argR M1)) rfl ?_
 rintro _ w_5 ⟨rfl, hc_4⟩
 have h_6 := h_3.same hc_4
 refine qA (vi 2) rfl rfl ?_
 refine WL.nil (thn_n (WP.seq (WP.reg ?_)))
 refine qM (vi 2) rfl rfl (qV rfl (R.bin rfl rfl (bi_neq (r := true) (by decide))) ?_)
 refine WL.nil (thn_n ?_)
 refine WP.condT rfl ?_
 refine WP.seq (WP.reg ?_)
 refine qV rfl (R.buildA (vs := []) (cs := (zB 32).map vu8) underlying23 sizeOf5 (zv typeInfo23 rfl) rfl rfl) (qM (vi 2) rfl rfl ?_)
 refine WL.storeA [] [(32, (zB 32).map vu8)] [(32, (zB 32).map vu8)] [] h_6 rfl rfl sizeOf23 At.h (by decide) rfl rfl rfl rfl rfl rfl (sC (s8 lr) sN) (fun w_7 h_8 => ?_)
 refine qA (vi 2) rfl rfl ?_
 refine WL.nil (thn_n (WP.ret (thn_r ?_)))
 refine ret_of results9 (RV.cell rfl (h_8.loadA (cs := (zB 32).map vu8) isAgg23 sizeOf23 M0 rfl rfl) (RV.tmp (v := (vi 2)) rfl RV.nil)) ?_
 exact ⟨rfl, h_8.chgS⟩

theorem c_Up_70_0_128 (id : Bool) (ob mp : Nat) (ms : List UInt8) (hms : ms.length = 32) (da : Option Addr) (dn dc u : Nat) (la : Option Addr) (ln lc : Nat) (bm : Nat) (ma : Option Addr) (lf : List UInt8) (hlf : lf.length = 32) (w : World) (hcb : (Ent.blk ob .ro 82 [(1, [(.bool id)]), (32, ms.map vu8), (1, [(.slice da dn dc)]), (1, [(vi ((u : Nat) : Int))]), (1, [(.map (some mp))]), (1, [(.slice la ln lc)])]).ok w.heap.size w) (hcm : (Ent.blk bm .ro 84 [(1, [(.slice ma 70 70)])]).ok w.heap.size w) :
  Cs Try.prog 19 [(.pointer (some ⟨ob, 0, none⟩)), (.pointer (some ⟨bm, 0, none⟩)), (vu64 0), (vi 128), (.agg ⟨lf.map vu8⟩)].toArray w (fun v w1 => v = (.tuple [(.agg ⟨(List.replicate 32 (0 : UInt8)).map vu8⟩), (vi 2)].toArray) ∧ Chg w w1 []) := by
 refine Cs.of (n := 28) (args := [(pO ob 0), (pO bm 0), (vu64 0), (vi 128), (.agg ⟨lf.map vu8⟩)]) Try.func19 rfl rfl rfl ?_
 have h_0 := HP.init w
 have h_01 := h_0.oldV hcb rfl (by simp [Ent.mut])
 have h_00 := h_01.oldV hcm rfl (by simp [Ent.mut])
 refine WP.seq (WP.reg ?_)
 refine WL.box (segs := [(32, lf.map vu8)]) h_00 rfl rfl (sC (s8 hlf) sN) rfl (fun b_1 w_2 h_3 => ?_)
 refine WL.alloc (segs := [(32, (zB 32).map vu8)]) h_3 (zv typeInfo23 rfl) rfl (sC (s8 lr) sN) rfl (fun b_4 w_5 h_6 => ?_)
 refine qA (vi 0) rfl rfl ?_
 refine WL.nil (thn_n (WP.seq (WP.seq (WP.reg ?_))))
 refine qM (pO ob 0) rfl rfl (qM (pO bm 0) rfl rfl (qM (vu64 0) rfl rfl (qM (vi 128) rfl rfl ?_)))
 refine WL.call Try.call24 rfl rfl (c_ask_70_0_128 id ob mp ms hms da dn dc u la ln lc bm ma  _ (h_6.argR M3) (h_6.argR M2)) rfl ?_
 rintro _ w_8 ⟨rfl, hc_7⟩
 have h_9 := h_6.same hc_7
 refine qA (vi 2) rfl rfl ?_
 refine WL.nil (thn_n (WP.seq (WP.reg ?_)))
 refine qM (vi 2) rfl rfl (qV rfl (R.bin rfl rfl (bi_neq (r := true) (by decide))) ?_)
 refine WL.nil (thn_n ?_)
 refine WP.condT rfl ?_
 refine WP.seq (WP.reg ?_)
 refine qV rfl (R.buildA (vs := []) (cs := (zB 32).map vu8) underlying23 sizeOf5 (zv typeInfo23 rfl) rfl rfl) (qM (vi 2) rfl rfl ?_)
 refine WL.storeA [] [(32, (zB 32).map vu8)] [(32, (zB 32).map vu8)] [] h_9 rfl rfl sizeOf23 At.h (by decide) rfl rfl rfl rfl rfl rfl (sC (s8 lr) sN) (fun w_10 h_11 => ?_)
 refine qA (vi 2) rfl rfl ?_
 refine WL.nil (thn_n (WP.ret (thn_r ?_)))
 refine ret_of results19 (RV.cell rfl (h_11.loadA (cs := (zB 32).map vu8) isAgg23 sizeOf23 M0 rfl rfl) (RV.tmp (v := (vi 2)) rfl RV.nil)) ?_
 exact ⟨rfl, h_11.chgS⟩

theorem c_num15 (e : Int) (be : -9223372036854775808 ≤ e ∧ e < 9223372036854775808) (w : World) :
  Cs Try.prog 11 [(vi e)].toArray w (fun v w1 => v = vi e ∧ Chg w w1 []) := by
 refine Cs.of (n := 4) (args := [(vi e)]) Try.func11 rfl rfl rfl ?_
 have h_0 := HP.init w
 refine WP.seq (WP.reg ?_)
 refine qA (vi 0) rfl rfl ?_
 refine WL.nil (thn_n (WP.seq (WP.reg ?_)))
 refine qM (vi e) rfl rfl (qA (vi e) rfl rfl ?_)
 refine WL.nil (thn_n (WP.ret ?_))
 refine ret_of results11 (RV.tmp (v := (vi e)) rfl RV.nil) ?_
 exact ⟨rfl, h_0.chgS⟩

theorem c_MNew_70 {w00 : World} {L : List Ent}  (w : World) (h_0 : HP w00 w (L)) :
  Cs Try.prog 18 [(vi 70)].toArray w (fun v w1 => ∃ bm ma, v = .tuple [.pointer (some ⟨bm, 0, none⟩), vi 0].toArray ∧ HP w00 w1 (Ent.blk bm .nw 84 [(1, [(.slice ma 70 70)])] :: Ent.row ma 70 70 65 128 ((List.replicate 8960 (0 : UInt8)).map vu8) :: L)) := by
 refine Cs.of (n := 14) (args := [(vi 70)]) Try.func18 rfl rfl rfl ?_
 refine WP.seq (WP.reg ?_)
 refine qA (.pointer none) rfl rfl (qA (vi 0) rfl rfl ?_)
 refine WL.nil (thn_n (WP.seq (WP.seq (WP.reg ?_))))
 refine qM (vi 70) rfl rfl (qV rfl (R.bin rfl rfl (bi_lss (r := false) (by decide))) (qM (.bool false) rfl rfl ?_))
 refine WL.want rfl rfl ?_
 refine qM (vi 70) rfl rfl ?_
 refine WL.want rfl rfl ?_
 refine qV rfl (R.bin rfl rfl (bi_gtr (r := false) (by decide))) (qV rfl (R.pickF (v := (.bool false)) rfl rfl) ?_)
 refine WL.nil (thn_n ?_)
 refine WP.condF rfl ?_
 refine WP.skip (thn_n (WP.seq (WP.reg ?_)))
 refine qM (vi 70) rfl rfl ?_
 refine WL_makeSlA (m := 70) (s := 128) (i := Try.t65) (z := vu8 0) h_0 rfl rfl underlying25 rfl rfl rfl (by decide) rfl (by decide) (by decide) rfl (fun b_1 w_2 h_3 => ?_)
 rw [show List.replicate (70 * 128) (vu8 0) = (zB 8960).map vu8 from (List.map_replicate ..).symm] at h_3
 refine qV rfl (R.buildS (pl := [(0, 1)]) (zs := [(1, [(.slice none 0 0)])]) (vs := [(0, (.slice (some ⟨b_1, 0, none⟩) 70 70))]) (out := [(1, [(.slice (some ⟨b_1, 0, none⟩) 70 70)])]) (cs := [(.slice (some ⟨b_1, 0, none⟩) 70 70)]) underlying84 (zv typeInfo84 rfl) rfl (sC sV sN) (pl84 _ underlying84) rfl (FillR.cons [] [(1, [(.slice none 0 0)])] [(1, [(.slice (some ⟨b_1, 0, none⟩) 70 70)])] [] rfl rfl rfl rfl (sC sV sN) rfl rfl rfl FillR.nil) rfl) ?_
 refine WL.box (segs := [(1, [(.slice (some ⟨b_1, 0, none⟩) 70 70)])]) h_3 rfl rfl (sC sV sN) rfl (fun b_5 w_6 h_7 => ?_)
 refine qA (pO b_5 0) rfl rfl (qA (vi 0) rfl rfl ?_)
 refine WL.nil (thn_n (WP.ret ?_))
 refine ret_of results18 (RV.tmp (v := (pO b_5 0)) rfl (RV.tmp (v := (vi 0)) rfl RV.nil)) ?_
 have h_9 := (h_7.up J1).up J1
 exact ⟨_, _, rfl, h_9⟩

theorem c_same15 (a a2 : Option Addr) (n n2 cap cap2 : Nat) (xs ys : List Int) (hx : xs.length = n) (hy : ys.length = n2) (hn : n ≤ 1000000) (hn2 : n2 ≤ 1000000) (w : World) (hv : View w a (xs.map vi64)) (hv2 : View w a2 (ys.map vi64)) :
  Cs Try.prog 20 [(.slice a n cap), (.slice a2 n2 cap2)].toArray w (fun v w1 => v = .bool (decide (xs = ys)) ∧ Chg w w1 []) := by
 refine Cs.of (n := 26) (args := [(.slice a n cap), (.slice a2 n2 cap2)]) Try.func20 rfl rfl rfl ?_
 have h_0 := HP.init w
 have h_01 := h_0.oldV (View.arg hv) rfl (by simp [Ent.mut])
 have h_00 := h_01.oldV (View.arg hv2) rfl (by simp [Ent.mut])
 refine WP.seq (WP.reg ?_)
 refine qA (.bool false) rfl rfl ?_
 refine WL.nil (thn_n (WP.seq (WP.seq (WP.reg ?_))))
 refine qM (.slice a n cap) rfl rfl (qV rfl (R.lenS (a := a) (m := n) rfl rfl underlying52) (qM (.slice a2 n2 cap2) rfl rfl (qV rfl (R.lenS (a := a2) (m := n2) rfl rfl underlying52) (qV rfl (R.bin rfl rfl (bi_neq (r := decide ((((n : Nat) : Int) : Int) ≠ ((n2 : Nat) : Int))) rfl)) ?_))))
 refine WL.nil (thn_n ?_)
 refine WP.cond (b := decide ((((n : Nat) : Int) : Int) ≠ ((n2 : Nat) : Int))) rfl (fun c_1 => ?_) (fun c_1 => ?_)
 ·have p_2 := of_decide_eq_true c_1
  refine WP.seq (WP.reg ?_)
  refine qA (.bool false) rfl rfl ?_
  refine WL.nil (thn_n (WP.ret (thn_r ?_)))
  refine ret_of results20 (RV.tmp (v := (.bool false)) rfl RV.nil) ?_
  exact ⟨congrArg Value.bool (decide_eq_false (fun e => by have := congrArg List.length e; omega)).symm, h_00.chgS⟩
 ·have p_3 := of_decide_eq_false c_1
  refine WP.skip (thn_n (WP.seq (WP.seq (WP.reg ?_))))
  refine qA (vi 0) rfl rfl ?_
  refine WL.nil (thn_n (WP.block ?_))
  refine WP.loopG (G := Nat) [4, 5, 11, 12, 13, 14, 15, 16, 17, 18, 19, 20, 21, 22, 23, 24, 25] (fun k => [(5, (vn k))]) (fun k m w1 => HP w w1 [.view a2 (ys.map vi64), .view a (xs.map vi64)] ∧ (k ≤ n) ∧ (∀ j : Nat, j < k → xs.getD j 0 = ys.getD j 0) ∧ m = n - k) ⟨0, _, ⟨rfl, trivial⟩, h_00, (by omega), (fun j h => by omega), rfl⟩ ?_
  rintro k m_6 J_7 w_4 ⟨h_5, hk, hg, rfl⟩
  refine WP.seq (WP.seq (WP.reg ?_))
  refine qM (vn k) rfl rfl (qM (.slice a n cap) rfl rfl (qV rfl (R.lenS (a := a) (m := n) rfl rfl underlying52) (qV rfl (R.bin rfl rfl (bi_lss (r := decide ((((k : Nat) : Int) : Int) < ((n : Nat) : Int))) rfl)) ?_)))
  refine WL.nil (thn_n ?_)
  refine WP.cond (b := decide ((((k : Nat) : Int) : Int) < ((n : Nat) : Int))) rfl (fun c_8 => ?_) (fun c_8 => ?_)
  ·have p_9 := of_decide_eq_true c_8
   refine WP.skip (thn_n (WP.seq (WP.block (WP.seq ?_))))
   refine WP.drawT (SL w.heap.size [.view a2 (ys.map vi64), .view a (xs.map vi64)]) (.q 0 (.q 1 (.q 2 (.q 3 (.q 4 (.q 5 (.q 6 (.q 7 (.q 8 .nil))))))))) (by kernel_rfl) (by kernel_rfl) rfl (by kernel_rfl) (fun w_10 hc_12 => (SL.cons ((h_5.same hc_12).ok _ M0) (SL.cons ((h_5.same hc_12).ok _ M1) (SL.nil _ _)))) (fun w_10 hc_12 => ?_)
   have h_11 := h_5.same hc_12
   refine qT rfl rfl (fun wq hS => R.move (v := (.slice a n cap)) rfl) ?_
   refine qT rfl rfl (fun wq hS => R.move (v := (vn k)) rfl) ?_
   refine qT rfl rfl (fun wq hS => R.indexS (a := a) (i := k) (off := k) (xs := xs.map vi64) rfl rfl rfl (by omega) (viewV (hS _ M1)) (lt_len (K := n) (len_map hx) (by omega)) underlying52 sizeOf3 (Nat.mul_one _).symm) ?_
   refine qT rfl rfl (fun wq hS => R.loadG rfl (viewV (hS _ M1)) isAgg3 (get_i64 (lt_len (K := n) hx (by omega)))) ?_
   refine qT rfl rfl (fun wq hS => R.move (v := (.slice a2 n2 cap2)) rfl) ?_
   refine qT rfl rfl (fun wq hS => R.move (v := (vn k)) rfl) ?_
   refine qT rfl rfl (fun wq hS => R.indexS (a := a2) (i := k) (off := k) (xs := ys.map vi64) rfl rfl rfl (by omega) (viewV (hS _ M0)) (lt_len (K := n2) (len_map hy) (by omega)) underlying52 sizeOf3 (Nat.mul_one _).symm) ?_
   refine qT rfl rfl (fun wq hS => R.loadG rfl (viewV (hS _ M0)) isAgg3 (get_i64 (lt_len (K := n2) hy (by omega)))) ?_
   refine qT rfl rfl (fun wq hS => R.bin rfl rfl (bi_neq (r := decide ((xs.getD k 0 : Int) ≠ (ys.getD k 0))) rfl)) ?_
   refine WT.nil (thn_n ?_)
   refine WP.cond (b := decide ((xs.getD k 0 : Int) ≠ (ys.getD k 0))) rfl (fun c_13 => ?_) (fun c_13 => ?_)
   ·have p_14 := of_decide_eq_true c_13
    refine WP.seq (WP.reg ?_)
    refine qA (.bool false) rfl rfl ?_
    refine WL.nil (thn_n (WP.ret (inb_r (thn_r (thn_r (inb_r (thn_r ?_)))))))
    refine ret_of results20 (RV.tmp (v := (.bool false)) rfl RV.nil) ?_
    exact ⟨congrArg Value.bool (decide_eq_false (fun e => p_14 (by rw [e]))).symm, h_11.chgS⟩
   ·have p_15 := of_decide_eq_false c_13
    refine WP.skip (inb_n (thn_n (WP.reg ?_)))
    refine qM (vn k) rfl rfl (qV rfl (R.bin rfl rfl (bi_add (c := ((k + 1 : Nat) : Int)) (by omega) (by omega))) (qA (vn (k + 1)) rfl rfl ?_))
    refine WL.nil (thn_n ?_)
    have h_17 := (h_11.up J1).up J1
    refine ⟨k + 1, _, (by omega), (U4 rfl rfl rfl rfl (U4 rfl rfl rfl rfl (U4 rfl rfl rfl rfl (U4 rfl rfl rfl rfl (Ag.updL rfl (Ag.mix _ _ _)))))), ⟨rfl, trivial⟩, h_17, (by omega), (fun j hj => ?_), rfl⟩
    rcases Nat.lt_or_eq_of_le (Nat.le_of_lt_succ hj) with hj | rfl
    ·exact hg j hj
    ·exact Decidable.of_not_not p_15
  ·have p_18 := of_decide_eq_false c_8
   refine WP.exit (thn_x (thn_x (inb_hit (thn_n (WP.seq (WP.reg ?_))))))
   refine qA (.bool true) rfl rfl ?_
   refine WL.nil (thn_n (WP.ret ?_))
   refine ret_of results20 (RV.tmp (v := (.bool true)) rfl RV.nil) ?_
   exact ⟨congrArg Value.bool (decide_eq_true (same_ints (by omega) fun j hj => hg j (by omega))).symm, h_5.chgS⟩
end Go.Proofs.Ytbhllplbbkmndaa

namespace Go.Vc
open Go.RowKit
section
variable {P : Program} {n : Nat} {ops : Array Oper} {Q : Exit → Fr → World → Prop} {rest : List Oper} {F : Fr} {w w' w0 : World} {L L' : List Ent}
variable {ty : TypeId} {pos : String} {after : Array Edge} {dst : Option Tmp} {g : Option (Nat × Bool)}
theorem take_mid {α : Type} {cur ys : List α} {i N : Nat} (hi : i + ys.length ≤ N) (hN : N ≤ cur.length) : (cur.take i ++ ys ++ (cur.drop i).drop ys.length).take N = (cur.take N).take i ++ (ys ++ (cur.take N).drop (i + ys.length)) := by
  have h1 : (cur.take i).length = i := by rw [List.length_take]; omega
  rw [List.append_assoc, List.take_append, h1, List.take_of_length_le (by rw [h1]; omega), List.take_take, Nat.min_eq_left (by omega : i ≤ N)]
  congr 1
  rw [List.take_append, List.take_of_length_le (by omega), List.drop_drop, List.drop_take]
  congr 2
  omega
theorem row_core {i m cap s : Nat} {a : Option Addr} {E : TypeId} {xs xs' ys : List Value} (h : HP w0 w L) (hat : At (.row a m cap E s xs) (.row a m cap E s xs') L L') (h1 : ∀ v ∈ ys, v.oneCell' = true) (hk : 0 < ys.length) (hi : i + ys.length ≤ xs.length) (hcs : xs.take i ++ (ys ++ xs.drop (i + ys.length)) = xs') :
    ∃ b, a = some ⟨b, 0, none⟩ ∧ ∃ w', (storeCells ⟨b, i, none⟩ ys 0).run P w = .ok () w' ∧ HP w0 w' L' := by
  obtain ⟨hl, h1s, hn, hc, h5⟩ := h.own hat.mem
  rcases h5 with ⟨_, rfl, _⟩ | ⟨b, cur, rfl, hb, hcell, hcl, htk⟩
  · rw [Nat.zero_mul] at hl; omega
  · refine ⟨b, rfl, ?_⟩
    have hms : m * s ≤ cap * s := Nat.mul_le_mul_right s hn
    rw [← List.take_append_drop i cur] at hcell
    obtain ⟨w', hr, hcs', hch⟩ := run_storeCells P b i E ys 0 (cur.take i) (cur.drop i) w hcell (by rw [List.length_take]; omega) (by rw [List.length_drop]; omega) h1
    refine ⟨w', hr, h.set hat rfl (by simpa [Ent.blocks] using hch) ⟨?_, ?_, hn, hc, .inr ⟨b, _, rfl, hb, hcs', ?_, ?_⟩⟩ (fun b' hb => .inl hb) (fun ha => by cases ha) (fun _ b' hb' => ?_)⟩
    · rw [← hcs]; simp only [List.length_append, List.length_take, List.length_drop]; omega
    · intro v hv
      rw [← hcs] at hv
      rcases List.mem_append.1 hv with hv | hv
      · exact h1s v (List.mem_of_mem_take hv)
      · rcases List.mem_append.1 hv with hv | hv
        · exact h1 v hv
        · exact h1s v (List.mem_of_mem_drop hv)
    · simp only [List.length_append, List.length_take, List.length_drop]; omega
    · rw [take_mid (by omega) (by omega), htk, hcs]
    · simp only [Ent.blocks, List.mem_singleton] at hb'
      subst hb'; exact hb
theorem WL.storeRA {i m cap s z : Nat} {a : Option Addr} {T E : TypeId} {x y : Operand} {xs xs' ys : List Value} (h : HP w0 w L) (hx : evO F x = .pointer (some (gA a i))) (hy : evO F y = .agg ⟨ys⟩) (hz : ∀ w, (sizeOf T).run P w = .ok z w) (hl : ys.length = z) (hk : 0 < z) (h1 : ∀ v ∈ ys, v.oneCell' = true)
    (hat : At (.row a m cap E s xs) (.row a m cap E s xs') L L') (hi : i + z ≤ xs.length) (hcs : xs.take i ++ (ys ++ xs.drop (i + z)) = xs')
    (k : ∀ w', HP w0 w' L' → WL P n ops Q rest F w') : WL P n ops Q (⟨none, .store T x y, ty, pos, after, none⟩ :: rest) F w := by
  obtain ⟨b, rfl, w', hr, hh⟩ := row_core (P := P) (i := i) h hat h1 (by omega) (by omega) (by rw [hl]; exact hcs)
  refine WL.unit rfl rfl ?_ (k w' hh)
  simp [execOp, hx, hy, gA, addr_add, Instr.storeAt, Instr.sureAddr, storeVar, hz, hl, hr, Value.cells]
theorem copyR_core {t E Er : TypeId} {i m cap s m2 c dl dc q : Nat} {a a' a2 : Option Addr} {xs xs' ys : List Value} (h : HP w0 w L) (hT : P.underlying t = some (.slice E)) (hs : ∀ w, (sizeOf E).run P w = .ok 1 w)
    (hv : View w a2 ys) (hl : ys.length = m2) (h1 : ∀ v ∈ ys, v.oneCell' = true) (hat : At (.row a m cap Er s xs) (.row a m cap Er s xs') L L') (ha : ∀ b, a = some ⟨b, 0, none⟩ → a' = some ⟨b, i, none⟩) (hq : min m2 dl = q) (hq0 : 0 < q) (hi : i + q ≤ xs.length) (hcs : xs.take i ++ (ys.take q ++ xs.drop (i + q)) = xs') :
    ∃ w', (Builtin.copy_ #[t, t] ty #[.slice a' dl dc, .slice a2 m2 c]).run P w = .ok (vi q) w' ∧ HP w0 w' L' := by
  have hyq : (ys.take q).length = q := by rw [List.length_take, hl]; omega
  obtain ⟨b, e, w', hr, hh⟩ := row_core (P := P) (i := i) (ys := ys.take q) h hat (fun v hv => h1 v (List.mem_of_mem_take hv)) (by omega) (by omega) (by rw [hyq]; exact hcs)
  have e2 := ha b e
  subst e2
  have hf : (Builtin.firstCells 1 q (.slice a2 m2 c)).run P w = .ok ⟨ys.take q⟩ w := by
    have := run_firstCellsV (P := P) (w := w) (s := 1) (m := q) (c := c) (a := a2) (ys := ys.take q) (by rw [hyq]; omega) (hv.take q)
    cases a2 <;> simpa [Builtin.firstCells] using this
  refine ⟨w', ?_, hh⟩
  have hq' : Nat.min m2 dl = q := hq
  simp [Builtin.copy_, run_underlying hT, Builtin.lenOf, hs, hq', hf, hr, goInt]
theorem WL.copyR {d : Nat} {x y : Operand} {t E Er : TypeId} {i m cap s m2 c dl dc q : Nat} {a a' a2 : Option Addr} {xs xs' ys : List Value} (h : HP w0 w L) (hx : evO F x = .slice a' dl dc) (hy : evO F y = .slice a2 m2 c) (hT : P.underlying t = some (.slice E)) (hs : ∀ w, (sizeOf E).run P w = .ok 1 w)
    (hv : View w a2 ys) (hl : ys.length = m2) (h1 : ∀ v ∈ ys, v.oneCell' = true) (hat : At (.row a m cap Er s xs) (.row a m cap Er s xs') L L') (ha : ∀ b, a = some ⟨b, 0, none⟩ → a' = some ⟨b, i, none⟩) (hq : min m2 dl = q) (hq0 : 0 < q) (hi : i + q ≤ xs.length) (hcs : xs.take i ++ (ys.take q ++ xs.drop (i + q)) = xs') (hd : Nat.blt d n = true)
    (kk : ∀ w', HP w0 w' L' → WL P n ops Q rest (upd F d (vi q)) w') : WL P n ops Q (⟨some d, .call { callee := .builtin .copy, args := #[x, y], argTypes := #[t, t] }, ty, pos, after, none⟩ :: rest) F w := by
  obtain ⟨w', hr, hh⟩ := copyR_core (P := P) (ty := ty) (c := c) (dc := dc) h hT hs hv hl h1 hat ha hq hq0 hi hcs
  refine WL.val rfl rfl hd ?_ (kk w' hh)
  rw [BigFrame.execOp_builtin, BigFrame.builtin_copy]
  simp only [List.map_toArray, List.map_cons, List.map_nil, hx, hy, Sem.run_bind, hr, Result.andThen_ok, Sem.run_pure]
theorem R.sliceG {ad : Addr} {len l h : Nat} {T E : TypeId} {x : Operand} {lo hi : Option Operand} (hx : evO F x = .pointer (some ad)) (hlo : EvB F lo 0 l) (hhi : EvB F hi len h) (h1 : l ≤ h) (h2 : h ≤ len) (hne : l < len)
    (hT : P.underlying T = some (.array len E)) (hs : ∀ w, (sizeOf E).run P w = .ok 1 w) : (execOp (evO F) ⟨dst, .slice T x lo hi none, ty, pos, after, g⟩).run P w = .ok (.value (.slice (some (ad.add l)) (h - l) (len - l))) w := by
  have := run_sliceBounds2 (P := P) (w := w) (isS := false) (len := len) (cap := len) hlo hhi h1 h2
  simp only [execOp, hx, Instr.sliceAt, run_underlying hT, Sem.run_bind, Result.andThen_ok, Instr.sureAddr, Sem.run_pure, Option.map_none, this, hs]
  rw [if_neg (by omega), Nat.mul_one]
theorem View.gA {a : Option Addr} {xs : List Value} (h : View w a xs) (j k : Nat) : View w (some (gA a j)) ((xs.drop j).take k) := by
  cases a with
  | none =>
    cases xs with
    | nil => simpa using View.nil _ _
    | cons x r => obtain ⟨_, e, _⟩ := h 0 x rfl; cases e
  | some ad => exact (h.drop j).take k
theorem slA_at {a : Option Addr} {l m : Nat} (h : l ≠ m) : ∀ b, a = some ⟨b, 0, none⟩ → slA a l m 1 = some ⟨b, l, none⟩ := by
  rintro b rfl
  unfold slA
  rw [if_neg (fun e => h e.symm), Option.map_some, addr_add, Nat.zero_add, Nat.mul_one]
theorem gA_at2 {a : Option Addr} {i k : Nat} : ∀ b, a = some ⟨b, 0, none⟩ → some ((gA a i).add k) = some ⟨b, i + k, none⟩ := by
  rintro b rfl
  rw [gA, Option.getD_some, addr_add, addr_add, Nat.zero_add]
theorem ovr_map {l c : List UInt8} {i q : Nat} (h : c.length = q) : (l.map vu8).take i ++ (c.map vu8 ++ (l.map vu8).drop (i + q)) = (ovr l i c).map vu8 := by
  subst h
  simp [ovr]
theorem ovr_mapQ {l c : List UInt8} {i q : Nat} (h : c.length = q) : (l.map vu8).take i ++ ((c.map vu8).take q ++ (l.map vu8).drop (i + q)) = (ovr l i c).map vu8 := by
  have e : (c.map vu8).take q = c.map vu8 := List.take_of_length_le (by rw [List.length_map]; omega)
  rw [e]; exact ovr_map h
end
end Go.Vc

namespace Go.Orc
open Go.Vc Go.RowKit
def fillL (fd : List UInt8) (n : Nat) : Nat → List UInt8
  | 0 => List.replicate (128 * n) 0
  | g + 1 => ovr (fillL fd n g) (g * 128) ((fd.drop (g * 128)).take 128)
theorem fillL_len {fd : List UInt8} {n fn : Nat} (h : fd.length = 128 * fn) : ∀ {g}, g ≤ n → g ≤ fn → (fillL fd n g).length = 128 * n
  | 0, _, _ => List.length_replicate ..
  | g + 1, h1, h2 => by
    have e : ((fd.drop (g * 128)).take 128).length = 128 := by rw [List.length_take, List.length_drop, h]; omega
    exact ovr_len (fillL_len h (by omega) (by omega)) (by rw [e]; omega)
theorem zeros_mul {n : Nat} : List.replicate (n * 128) (vu8 0) = (List.replicate (128 * n) (0 : UInt8)).map vu8 := by rw [Nat.mul_comm, List.map_replicate]
theorem xor_1 (x : Nat) : x ^^^ 1 = x + 1 - 2 * (x % 2) := by
  have h1 : (x ^^^ 1) % 2 ^ 1 = _ := Nat.xor_mod_two_pow
  have h2 : (x ^^^ 1) >>> 1 = _ := Nat.shiftRight_xor_distrib
  rw [Nat.shiftRight_eq_div_pow, Nat.shiftRight_eq_div_pow] at h2
  have h3 : x % 2 = 0 ∨ x % 2 = 1 := by omega
  have h4 : (1 >>> 1) = 0 := rfl
  rw [h4, Nat.xor_zero] at h2
  rcases h3 with h3 | h3
  · rw [show x % 2 ^ 1 = 0 from h3] at h1
    have h5 : 0 ^^^ 1 % 2 ^ 1 = 1 := rfl
    rw [h5] at h1
    omega
  · rw [show x % 2 ^ 1 = 1 from h3] at h1
    have h5 : 1 ^^^ 1 % 2 ^ 1 = 0 := rfl
    rw [h5] at h1
    omega
theorem half_pos {pg k : Nat} (h : k ≤ 7) : 1 ≤ (128 + pg) / 2 ^ k := by
  have h1 : 2 ^ k ≤ 2 ^ 7 := Nat.pow_le_pow_right (by decide) h
  exact Nat.div_pos (by omega) (Nat.pow_pos (by decide))
theorem half_two {pg k : Nat} (h : k ≤ 6) : 2 ≤ (128 + pg) / 2 ^ k := by
  have h1 : 2 ^ k ≤ 2 ^ 6 := Nat.pow_le_pow_right (by decide) h
  exact (Nat.le_div_iff_mul_le (Nat.pow_pos (by decide))).2 (by omega)
theorem half_7 {pg : Nat} (h : pg < 128) : (128 + pg) / 2 ^ 7 = 1 := by omega
theorem half_s (x k : Nat) : x / 2 ^ (k + 1) = x / 2 ^ k / 2 := by rw [Nat.pow_succ, Nat.div_div_eq_div_mul]
theorem half_le (x k : Nat) : x / 2 ^ k ≤ x := Nat.div_le_self ..
end Go.Orc
namespace Go.Orc
open Go.Vc Go.RowKit
theorem of_g {a : Nat} (h : a < 1099511627776) : (shr64 (UInt64.ofNat a) 7).toNat = a / 128 := by
  have e : (UInt64.ofNat a).toNat = a := by simp; omega
  rw [shr64, e]
  simp; omega
theorem of_at {a : Nat} (h : a < 1099511627776) : (UInt64.ofNat a &&& 127).toNat = a % 128 := by
  have e : (UInt64.ofNat a).toNat = a := by simp; omega
  rw [UInt64.toNat_and, e]
  exact Nat.and_two_pow_sub_one_eq_mod a 7
theorem add_of {a b : Nat} : UInt64.ofNat a + UInt64.ofNat b = UInt64.ofNat (a + b) := by rw [UInt64.ofNat_add]
end Go.Orc
namespace Go.Orc
open Go.Vc Go.RowKit
theorem of_gi {a : Nat} (h : a < 1099511627776) : u2i (shr64 (UInt64.ofNat a) 7) = ((a / 128 : Nat) : Int) := by
  rw [u2i_small (by rw [of_g h]; omega), of_g h]
theorem of_ai {a : Nat} (h : a < 1099511627776) : u2i (UInt64.ofNat a &&& 127) = ((a % 128 : Nat) : Int) := by
  rw [u2i_small (by rw [of_at h]; omega), of_at h]
theorem place_of {p i : Nat} : UInt64.ofNat p + (32 : UInt64) * UInt64.ofNat i = UInt64.ofNat (p + 32 * i) := by
  rw [UInt64.ofNat_add, UInt64.ofNat_mul]; rfl
theorem wi_1 {a k m : Nat} (h : a + k ≤ 128 * m) (hm : m ≤ 100) : UInt64.ofNat k ≤ UInt64.ofNat m * 128 := by
  rw [UInt64.le_iff_toNat_le, UInt64.toNat_mul]
  simp; omega
theorem wi_2 {a k m : Nat} (h : a + k ≤ 128 * m) (hm : m ≤ 100) : UInt64.ofNat a ≤ UInt64.ofNat m * 128 - UInt64.ofNat k := by
  have h1 := wi_1 h hm
  rw [UInt64.le_iff_toNat_le, UInt64.toNat_sub_of_le _ _ h1, UInt64.toNat_mul]
  simp; omega
theorem rd_step {l : List UInt8} {a j i c : Nat} (h : i = a + j) : (l.drop a).take j ++ (l.drop i).take c = (l.drop a).take (j + c) := by
  subst h
  rw [List.take_add, List.drop_drop]
end Go.Orc

namespace Go.Orc
open Go.Vc Go.RowKit
def lk (q : Qn) (l : Lg) : Option (List UInt8) := (fdq q l 0).map fun i => (l.getD i (q, [])).2
theorem fdq_app {q : Qn} (x : Qn × List UInt8) : ∀ {l : Lg} {i j : Nat}, fdq q l i = some j → fdq q (l ++ [x]) i = some j
  | p :: r, i, j, h => by
    rw [List.cons_append]
    rw [fdq] at h ⊢
    split
    · rename_i e; rw [if_pos e] at h; exact h
    · rename_i e; rw [if_neg e] at h; exact fdq_app x h
theorem fdq_new {q : Qn} (d : List UInt8) : ∀ {l : Lg} {i : Nat}, fdq q l i = none → fdq q (l ++ [(q, d)]) i = some (i + l.length)
  | [], i, _ => by simp [fdq]
  | p :: r, i, h => by
    rw [List.cons_append]
    rw [fdq] at h ⊢
    split
    · rename_i e; rw [if_pos e] at h; cases h
    · rename_i e; rw [if_neg e] at h; rw [fdq_new d h, List.length_cons]; congr 1; omega
theorem lk_app {q : Qn} {l : Lg} {d : List UInt8} (x : Qn × List UInt8) (h : lk q l = some d) : lk q (l ++ [x]) = some d := by
  unfold lk at h ⊢
  cases hf : fdq q l 0 with
  | none => rw [hf] at h; cases h
  | some i =>
    rw [hf] at h
    have hlt := fdq_lt hf
    rw [fdq_app x hf]
    have e : (l ++ [x]).getD i (q, []) = l.getD i (q, []) := by
      have h2 : i < l.length := by omega
      have h3 : i < (l ++ [x]).length := by rw [snoc_len]; omega
      simp [List.getD_eq_getElem?_getD, h2, List.getElem?_append_left]
    simpa only [Option.map_some, e] using h
section
variable {id : Bool} {df : List UInt8} {dn u : Nat} {l : Lg} {q q' : Qn} {d : List UInt8}
theorem anD_lk (h : lk q l = some d) : anD id df dn u l q = d := by
  unfold lk at h
  cases hf : fdq q l 0 with
  | none => rw [hf] at h; cases h
  | some i => rw [hf] at h; rw [anD_hit hf]; simpa using h
theorem anU_lk (h : lk q l = some d) : anU id u l q = u := by
  unfold lk at h
  cases hf : fdq q l 0 with
  | none => rw [hf] at h; cases h
  | some i => rw [anU_hit hf]
theorem anL_lk (h : lk q l = some d) : anL id df dn u l q = l := by
  unfold lk at h
  cases hf : fdq q l 0 with
  | none => rw [hf] at h; cases h
  | some i => rw [anL_hit hf]
theorem lk_self : lk q (anL id df dn u l q) = some (anD id df dn u l q) := by
  cases hf : fdq q l 0 with
  | none =>
    rw [anL_miss hf, anD_miss hf]
    unfold lk
    rw [fdq_new _ hf]
    simp
  | some i =>
    rw [anL_hit hf, anD_hit hf]
    unfold lk
    rw [hf]; rfl
theorem lk_anL (h : lk q l = some d) : lk q (anL id df dn u l q') = some d := by
  cases hf : fdq q' l 0 with
  | none => rw [anL_miss hf]; exact lk_app _ h
  | some i => rw [anL_hit hf]; exact h
end
end Go.Orc
namespace Go.Vc
open Go.RowKit Go.ChangeShapes Go.WideShapes Go.ChangeAt
section
variable {P : Program} {w : World} {t : TypeId} {cs : List Value}
theorem cells?_all {a : Addr} {n : Nat} {ys : List Value} (h : w.cells? 0 a n = some ys) : ys.length = n ∧ ∀ (i : Nat) v, ys[i]? = some v → w.cell? (a.add i) = some v := by
  simp only [World.cells?, Nat.zero_le, if_true] at h
  have key : ∀ (f : Nat → Option Value) (L : List Nat) (l : List Value), L.mapM f = some l → l.length = L.length ∧ ∀ (i : Nat) v, l[i]? = some v → ∃ x, L[i]? = some x ∧ f x = some v := by
    intro f L
    induction L with
    | nil => intro l h; simp at h; subst h; exact ⟨rfl, fun i v h => by simp at h⟩
    | cons a L ih =>
      intro l h
      rw [List.mapM_cons] at h
      obtain ⟨y, hy, h⟩ := Option.bind_eq_some_iff.1 h
      obtain ⟨l', hl', h⟩ := Option.bind_eq_some_iff.1 h
      simp at h; subst h
      obtain ⟨h1, h2⟩ := ih l' hl'
      refine ⟨by simp [h1], fun i v hv => ?_⟩
      cases i with
      | zero => simp at hv; subst hv; exact ⟨a, rfl, hy⟩
      | succ i => exact h2 i v (by simpa using hv)
  obtain ⟨h1, h2⟩ := key _ _ _ h
  refine ⟨by simpa using h1, fun i v hv => ?_⟩
  obtain ⟨x, hx, hf⟩ := h2 i v hv
  have hi : i < n := by
    have := (List.getElem?_eq_some_iff.1 hx).1
    simpa using this
  rw [List.getElem?_range hi] at hx
  cases hx
  exact hf
theorem Tr.slA8 {e e8 : TypeId} {s : Nat} (hu : P.underlying t = some (.slice e)) (hce : P.cellsOf e = s) (he : P.underlying e = some (.array s e8)) (hce8 : P.cellsOf e8 = 1) (he8 : P.underlying e8 = some (.int .u8)) (h : Tr P w t cs) :
    ∃ a n cap, ∃ l : List UInt8, cs = [.slice a n cap] ∧ l.length = s * n ∧ n ≤ cap ∧ cap ≤ maxLen ∧ (Ent.view a (l.map vu8)).ok w.heap.size w := by
  rcases Tr.nilOrSlice hu h with rfl | ⟨a, len, cap, rfl, h1, h2, h3⟩
  · exact ⟨none, 0, 0, [], rfl, rfl, Nat.le_refl _, by simp [maxLen], ⟨View.nil _ _, fun ad h => by cases h⟩⟩
  · have key : ∀ k, k ≤ len → ∃ l : List UInt8, l.length = s * k ∧ View w (some a) (l.map vu8) := by
      intro k
      induction k with
      | zero => intro _; exact ⟨[], rfl, View.nil _ _⟩
      | succ k ih =>
        intro hk
        obtain ⟨l, hl, hv⟩ := ih (by omega)
        obtain ⟨ys, hys, ht⟩ := h3 k (by omega)
        rw [hce] at hys
        obtain ⟨hyl, hyc⟩ := cells?_all hys
        obtain ⟨m, rfl, hm⟩ := Tr.arr8 he hce hce8 he8 ht
        refine ⟨l ++ m, by rw [List.length_append, hl, hm, Nat.mul_succ], fun i v hv' => ?_⟩
        rw [List.map_append] at hv'
        by_cases hi : i < l.length
        · refine hv i v ?_
          rw [List.getElem?_append_left (by simpa using hi)] at hv'
          exact hv'
        · rw [List.getElem?_append_right (by simpa using hi)] at hv'
          have h4 := hyc _ v hv'
          rw [add_add, List.length_map, hl, Nat.mul_comm, show s * k + (i - s * k) = i by omega] at h4
          exact ⟨a, rfl, h4⟩
    obtain ⟨l, hl, hv⟩ := key len (Nat.le_refl _)
    refine ⟨some a, len, cap, l, rfl, hl, h1, h2, ⟨hv, fun ad ha hne => ?_⟩⟩
    cases ha
    cases l with
    | nil => simp at hne
    | cons x l =>
      obtain ⟨ad', e, hc⟩ := hv 0 (vu8 x) rfl
      cases e
      have := block_lt_of_cell hc
      rwa [Addr.add_block] at this
end
end Go.Vc

namespace Go.Orc
open Go.Vc Go.RowKit
end Go.Orc
namespace Go.Orc
open Go.Vc Go.RowKit
end Go.Orc
namespace Go.Orc
open Go.Vc Go.RowKit
end Go.Orc
namespace Go.Orc
open Go.Vc Go.RowKit
end Go.Orc
namespace Go.Orc
open Go.Vc Go.RowKit
end Go.Orc
