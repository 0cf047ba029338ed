/- Rules for walks and contracts of the functions that the law reaches, one behind the other. Conditions: none beyond what each theorem states. -/
import Derived.Test.YtnhppjimimhlkaaZ5AttestIssues
set_option linter.unusedVariables false
set_option linter.unusedSimpArgs false
set_option linter.unusedSectionVars false
namespace Go.Proofs.Ytnhppjimimhlkaa
open Go.Vc Go.Orc Go.Sh Go.RowKit
set_option maxRecDepth 20000
theorem pl30 : ∀ fs, Try.prog.underlying 30 = some (.struct fs) → Places Try.prog fs [(0, 1), (1, 32), (33, 32)] := by
 intro fs h w; rw [Try.underlying30] at h; cases h; simp
theorem c_Of_ok (a : Option Addr) (cap : Nat) (bs : List UInt8) (hl : bs.length = 80) (hm : bs.take 8 = markB) (w : World) (hv : View w a (bs.map vu8)) :
  Cs Try.prog 51 [(.slice a 80 cap)].toArray w (fun v w1 => v = (.tuple [(.agg ⟨flat [(1, [(vu64 (ins_of bs))]), (32, (me_of bs).map vu8), (32, (ch_of bs).map vu8)]⟩), (vi 0)].toArray) ∧ Chg w w1 []) := by
 refine Cs.of (n := 43) (args := [(.slice a 80 cap)]) Try.func51 rfl rfl rfl ?_
 have h_0 := HP.init w
 have h_00 := h_0.old (View.arg hv) (fun f hf => by cases hf)
 refine WP.seq (WP.reg ?_)
 refine WL.alloc (segs := [(1, [(vu64 0)]), (32, (List.replicate 32 (0 : UInt8)).map vu8), (32, (List.replicate 32 (0 : UInt8)).map vu8)]) h_00 (zv Try.typeInfo30 rfl) rfl (SsOk.cons (SOk.v rfl) (SsOk.cons (SOk.u8 lr) (SsOk.cons (SOk.u8 lr) SsOk.nil))) rfl (fun b_1 w_2 h_3 => ?_)
 refine qA (vi 0) rfl rfl ?_
 refine WL.nil (thn_n (WP.seq (WP.reg ?_)))
 refine qM (.slice a 80 cap) rfl rfl ?_
 refine WL.buildSl (vs := [(0, (vi 8)), (1, (vi 8)), (2, (vi 32)), (3, (vi 32))]) (cs := ([8, 8, 32, 32] : List Int).map vi64) h_3 Try.underlying70 Try.sizeOf3 (zv Try.typeInfo3 rfl) rfl rfl (by kernel_rfl) rfl (one_i64 _) rfl rfl (fun b_4 w_5 h_6 => ?_)
 refine WL.call Try.call84 rfl rfl (c_Cut_t a 80 cap bs hl (by omega) (some ⟨b_4, 0, none⟩) 4 4 [8, 8, 32, 32] rfl (by omega) (cutR bs) (cutR_ok hl) _ (viewV (h_6.ok _ M2)) (viewB (h_6.ok _ M0) Sg.h)) rfl ?_
 rintro _ w_10 ⟨a_7, cap_8, xs_9, rfl, hc_11, hv_12, hs_13, hb_14⟩
 have h_16 := h_6.gotSls hc_11 hv_12 hs_13 hb_14
 have hxl_17 : xs_9.length = 4 := (Sls.len (h_16.ok _ M0).1).trans rfl
 refine qM (.tuple [(.slice a_7 ((cutR bs).length) cap_8), (vi 0)].toArray) rfl rfl (qV rfl (R.extract rfl rfl) (qV rfl (R.extract rfl rfl) (qA (.slice a_7 ((cutR bs).length) cap_8) rfl rfl (qA (vi 0) rfl rfl ?_))))
 refine WL.nil (thn_n (WP.seq (WP.seq (WP.reg ?_))))
 refine qM (vi 0) rfl rfl (qV rfl (R.bin rfl rfl (bi_neq (r := false) (by decide))) (qM (.bool false) rfl rfl ?_))
 refine WL.want rfl rfl ?_
 refine qM (.slice a_7 ((cutR bs).length) cap_8) rfl rfl ?_
 refine WL.want rfl rfl ?_
 refine qV rfl (R.indexS (a := a_7) (i := 0) (off := 0) (xs := xs_9) rfl rfl rfl (Nat.le_of_ble_eq_true rfl) (viewV (h_16.ok _ M1)) (by omega) Try.underlying36 Try.sizeOf37 (Nat.mul_one _).symm) ?_
 refine WL.want rfl rfl ?_
 obtain ⟨a_18, n_19, c_20, hx_21, hl_22, hn_23, hv_24, hb_25⟩ := Sls.get (i := 0) (h_16.ok _ M0).1 (Nat.le_of_ble_eq_true rfl)
 obtain rfl : n_19 = 8 := hl_22.symm.trans (cutR_at hl (i := 0) (by decide))
 have h_26 := h_16.within (e' := .view a_18 (((cutR bs).getD 0 []).map vu8)) M0 rfl (View.arg hv_24) rfl rfl (fun b hb_ => hb_25 _ (view_sblk hl_22 b hb_))
 refine qV rfl (R.loadG (a := a_7) (i := 0) (xs := xs_9) (v := (.slice a_18 8 c_20)) rfl (viewV (h_26.ok _ M2)) Try.isAgg37 hx_21) ?_
 refine WL.want rfl rfl ?_
 refine qV rfl (R.toStr (bs := (cutR bs).getD 0 []) rfl Try.underlying37 Try.underlying5 Try.underlying9 (viewV (h_26.ok _ M0)) hl_22) ?_
 refine WL.want rfl rfl ?_
 refine qV rfl (R.neStr (a := (cutR bs).getD 0 []) (b := ([114, 101, 112, 111, 114, 116, 0, 0] : List UInt8)) (r := false) rfl rfl (decide_eq_false (fun hn => hn hm))) (qV rfl (R.pickF (v := (.bool false)) rfl rfl) ?_)
 refine WL.nil (thn_n ?_)
 refine WP.condF rfl ?_
 refine WP.skip (thn_n (WP.seq (WP.reg ?_)))
 refine qM (.slice a_7 ((cutR bs).length) cap_8) rfl rfl (qV rfl (R.indexS (a := a_7) (i := 1) (off := 1) (xs := xs_9) rfl rfl rfl (Nat.le_of_ble_eq_true rfl) (viewV (h_26.ok _ M2)) (by omega) Try.underlying36 Try.sizeOf37 (Nat.mul_one _).symm) ?_)
 obtain ⟨a_27, n_28, c_29, hx_30, hl_31, hn_32, hv_33, hb_34⟩ := Sls.get (i := 1) (h_26.ok _ M1).1 (Nat.le_of_ble_eq_true rfl)
 obtain rfl : n_28 = 8 := hl_31.symm.trans (cutR_at hl (i := 1) (by decide))
 have h_35 := h_26.within (e' := .view a_27 (((cutR bs).getD 1 []).map vu8)) M1 rfl (View.arg hv_33) rfl rfl (fun b hb_ => hb_34 _ (view_sblk hl_31 b hb_))
 refine qV rfl (R.loadG (a := a_7) (i := 1) (xs := xs_9) (v := (.slice a_27 8 c_29)) rfl (viewV (h_35.ok _ M3)) Try.isAgg37 hx_30) ?_
 refine WL.call Try.call85 rfl rfl (c_Get_ok a_27 8 c_29 ((cutR bs).getD 1 []) hl_31 (by omega) (by omega) _ (viewV (h_35.ok _ M0))) rfl ?_
 rintro _ w_37 ⟨rfl, hc_36⟩
 have h_38 := h_35.same hc_36
 refine qM (.tuple [(vu64 (UInt64.ofNat (natLE ((cutR bs).getD 1 [])))), (vi 0)].toArray) rfl rfl (qV rfl (R.extract rfl rfl) (qV rfl (R.extract rfl rfl) (qA (vu64 (UInt64.ofNat (natLE ((cutR bs).getD 1 [])))) rfl rfl (qA (vi 0) rfl rfl ?_))))
 refine WL.nil (thn_n (WP.seq ?_))
 refine WP.cutG (G := Option Addr × Nat × Option Addr × Nat) [3, 31, 32, 33, 34, 35, 36, 37, 38, 39, 40, 41, 42] (fun (aY5Y3Y0Y0, cY5Y3Y0Y0, aY5Y8Y0Y0, cY5Y8Y0Y0) => [(3, (vi 0)), (31, (vu64 (UInt64.ofNat (natLE ((cutR bs).getD 1 []))))), (32, (.slice a_7 ((cutR bs).length) cap_8)), (33, (.pointer (some (gA a_7 2)))), (34, (.slice aY5Y3Y0Y0 32 cY5Y3Y0Y0)), (37, (.slice a_7 ((cutR bs).length) cap_8)), (38, (.pointer (some (gA a_7 3)))), (39, (.slice aY5Y8Y0Y0 32 cY5Y8Y0Y0)), (35, (.pointer (some (gA aY5Y3Y0Y0 0)))), (36, (.agg ⟨((cutR bs).getD 2 []).map vu8⟩)), (40, (.pointer (some (gA aY5Y8Y0Y0 0)))), (41, (.agg ⟨((cutR bs).getD 3 []).map vu8⟩)), (42, (.agg ⟨flat [(1, [(vu64 (UInt64.ofNat (natLE ((cutR bs).getD 1 []))))]), (32, ((cutR bs).getD 2 []).map vu8), (32, ((cutR bs).getD 3 []).map vu8)]⟩))]) (fun (aY5Y3Y0Y0, cY5Y3Y0Y0, aY5Y8Y0Y0, cY5Y8Y0Y0) w1 => HP w w1 [.view aY5Y8Y0Y0 (((cutR bs).getD 3 []).map vu8), .view aY5Y3Y0Y0 (((cutR bs).getD 2 []).map vu8), .view a_27 (((cutR bs).getD 1 []).map vu8), .view a_18 (((cutR bs).getD 0 []).map vu8), .pin (sblks xs_9) (fun w => Sls w xs_9 (cutR bs)), .view a_7 xs_9, .blk b_4 .nw 3 [(4, ([8, 8, 32, 32] : List Int).map vi64)], .blk b_1 .nw 30 [(1, [(vu64 (UInt64.ofNat (natLE ((cutR bs).getD 1 []))))]), (32, ((cutR bs).getD 2 []).map vu8), (32, ((cutR bs).getD 3 []).map vu8)], .view a (bs.map vu8)]) ?_ ?_
 ·refine WP.drawT (SL w.heap.size [.view a_27 (((cutR bs).getD 1 []).map vu8), .view a_18 (((cutR bs).getD 0 []).map vu8), .pin (sblks xs_9) (fun w => Sls w xs_9 (cutR bs)), .view a_7 xs_9, .blk b_4 .nw 3 [(4, ([8, 8, 32, 32] : List Int).map vi64)], .view a (bs.map vu8)]) (.q 0 (.q 1 (.q 2 (.q 3 (.q 6 (.q 7 (.q 8 (.s2 4 9 (.s2 5 9 (.s 9 (.s 10 (.q 11 (.s 12 (.q 13 .nil))))) (.s2 5 10 (.s 10 (.q 11 (.s 12 (.q 13 .nil)))) (.s 5 (.q 11 (.s 12 (.q 13 .nil)))))) (.s2 4 10 (.s2 5 10 (.s 10 (.q 11 (.s 12 (.q 13 .nil)))) (.s 5 (.q 11 (.s 12 (.q 13 .nil))))) (.s 4 (.s 5 (.q 11 (.s 12 (.q 13 .nil)))))))))))))) (by kernel_rfl) (by kernel_rfl) rfl (by kernel_rfl) (fun w_39 hc_41 => (SL.cons ((h_38.same hc_41).ok _ M0) (SL.cons ((h_38.same hc_41).ok _ M1) (SL.cons ((h_38.same hc_41).ok _ M2) (SL.cons ((h_38.same hc_41).ok _ M3) (SL.cons ((h_38.same hc_41).ok _ M4) (SL.cons ((h_38.same hc_41).ok _ M6) (SL.nil _ _)))))))) (fun w_39 hc_41 => ?_)
  have h_40 := h_38.same hc_41
  refine qT rfl rfl (fun wq hS => R.move (v := (vu64 (UInt64.ofNat (natLE ((cutR bs).getD 1 []))))) rfl) ?_
  refine qT rfl rfl (fun wq hS => R.move (v := (.slice a_7 ((cutR bs).length) cap_8)) rfl) ?_
  refine qT rfl rfl (fun wq hS => R.indexS (a := a_7) (i := 2) (off := 2) (xs := xs_9) rfl rfl rfl (Nat.le_of_ble_eq_true rfl) (viewV (hS _ M3)) (by omega) Try.underlying36 Try.sizeOf37 (Nat.mul_one _).symm) ?_
  obtain ⟨a_42, n_43, c_44, hx_45, hl_46, hn_47, hv_48, hb_49⟩ := Sls.get (i := 2) (h_40.ok _ M2).1 (Nat.le_of_ble_eq_true rfl)
  obtain rfl : n_43 = 32 := hl_46.symm.trans (cutR_at hl (i := 2) (by decide))
  have h_50 := h_40.within (e' := .view a_42 (((cutR bs).getD 2 []).map vu8)) M2 rfl (View.arg hv_48) rfl rfl (fun b hb_ => hb_49 _ (view_sblk hl_46 b hb_))
  refine qT rfl rfl (fun wq hS => R.loadG (a := a_7) (i := 2) (xs := xs_9) (v := (.slice a_42 32 c_44)) rfl (viewV (hS _ M3)) Try.isAgg37 hx_45) ?_
  refine qT rfl rfl (fun wq hS => R.move (v := (.slice a_7 ((cutR bs).length) cap_8)) rfl) ?_
  refine qT rfl rfl (fun wq hS => R.indexS (a := a_7) (i := 3) (off := 3) (xs := xs_9) rfl rfl rfl (Nat.le_of_ble_eq_true rfl) (viewV (hS _ M3)) (by omega) Try.underlying36 Try.sizeOf37 (Nat.mul_one _).symm) ?_
  obtain ⟨a_51, n_52, c_53, hx_54, hl_55, hn_56, hv_57, hb_58⟩ := Sls.get (i := 3) (h_50.ok _ M3).1 (Nat.le_of_ble_eq_true rfl)
  obtain rfl : n_52 = 32 := hl_55.symm.trans (cutR_at hl (i := 3) (by decide))
  have h_59 := h_50.within (e' := .view a_51 (((cutR bs).getD 3 []).map vu8)) M3 rfl (View.arg hv_57) rfl rfl (fun b hb_ => hb_58 _ (view_sblk hl_55 b hb_))
  refine qT rfl rfl (fun wq hS => R.loadG (a := a_7) (i := 3) (xs := xs_9) (v := (.slice a_51 32 c_53)) rfl (viewV (hS _ M3)) Try.isAgg37 hx_54) ?_
  refine WT.s2 ?_ ?_
  ·refine Op1.one rfl (Wn.no rfl) ?_
   refine qV rfl (R.s2ap (a := a_42) (k := 32) rfl Try.underlying23 (by decide)) ?_
   refine WL.nil ?_
   refine ⟨(SL.cons (h_59.ok _ M2) (SL.cons (h_59.ok _ M3) (SL.cons (h_59.ok _ M4) (SL.cons (h_59.ok _ M5) (SL.cons (h_59.ok _ M6) (SL.cons (h_59.ok _ M8) (SL.nil _ _))))))), ?_⟩
   refine WT.s2 ?_ ?_
   ·refine Op1.one rfl (Wn.no rfl) ?_
    refine qV rfl (R.loadGA (a := a_42) (i := 0) (xs := ((cutR bs).getD 2 []).map vu8) (cs := ((cutR bs).getD 2 []).map vu8) (congrArg Value.pointer (a_some0 (viewV (h_59.ok _ M1)) (by rw [len_map hl_46]; decide))) (viewV (h_59.ok _ M1)) Try.isAgg23 Try.sizeOf23 (by rw [List.drop_zero, List.take_of_length_le (by rw [len_map hl_46]; exact Nat.le_refl _)]) (len_map hl_46) (by decide)) ?_
    refine WL.nil ?_
    refine ⟨(SL.cons (h_59.ok _ M2) (SL.cons (h_59.ok _ M3) (SL.cons (h_59.ok _ M4) (SL.cons (h_59.ok _ M5) (SL.cons (h_59.ok _ M6) (SL.cons (h_59.ok _ M8) (SL.nil _ _))))))), ?_⟩
    refine WT.s (Op1.one rfl (Wn.no rfl) ?_)
    refine qV rfl (R.s2ap (a := a_51) (k := 32) rfl Try.underlying23 (by decide)) ?_
    refine WL.nil ?_
    refine ⟨(SL.cons (h_59.ok _ M2) (SL.cons (h_59.ok _ M3) (SL.cons (h_59.ok _ M4) (SL.cons (h_59.ok _ M5) (SL.cons (h_59.ok _ M6) (SL.cons (h_59.ok _ M8) (SL.nil _ _))))))), ?_⟩
    refine WT.s (Op1.one rfl (Wn.no rfl) ?_)
    refine qV rfl (R.loadGA (a := a_51) (i := 0) (xs := ((cutR bs).getD 3 []).map vu8) (cs := ((cutR bs).getD 3 []).map vu8) (congrArg Value.pointer (a_some0 (viewV (h_59.ok _ M0)) (by rw [len_map hl_55]; decide))) (viewV (h_59.ok _ M0)) Try.isAgg23 Try.sizeOf23 (by rw [List.drop_zero, List.take_of_length_le (by rw [len_map hl_55]; exact Nat.le_refl _)]) (len_map hl_55) (by decide)) ?_
    refine WL.nil ?_
    refine ⟨(SL.cons (h_59.ok _ M2) (SL.cons (h_59.ok _ M3) (SL.cons (h_59.ok _ M4) (SL.cons (h_59.ok _ M5) (SL.cons (h_59.ok _ M6) (SL.cons (h_59.ok _ M8) (SL.nil _ _))))))), ?_⟩
    refine qT rfl rfl (fun wq hS => R.buildS (pl := [(0, 1), (1, 32), (33, 32)]) (zs := [(1, [(vu64 0)]), (32, (List.replicate 32 (0 : UInt8)).map vu8), (32, (List.replicate 32 (0 : UInt8)).map vu8)]) (vs := [(0, (vu64 (UInt64.ofNat (natLE ((cutR bs).getD 1 []))))), (1, (.agg ⟨((cutR bs).getD 2 []).map vu8⟩)), (2, (.agg ⟨((cutR bs).getD 3 []).map vu8⟩))]) (out := [(1, [(vu64 (UInt64.ofNat (natLE ((cutR bs).getD 1 []))))]), (32, ((cutR bs).getD 2 []).map vu8), (32, ((cutR bs).getD 3 []).map vu8)]) (cs := flat [(1, [(vu64 (UInt64.ofNat (natLE ((cutR bs).getD 1 []))))]), (32, ((cutR bs).getD 2 []).map vu8), (32, ((cutR bs).getD 3 []).map vu8)]) Try.underlying30 (zv Try.typeInfo30 rfl) rfl (SsOk.cons (SOk.v rfl) (SsOk.cons (SOk.u8 lr) (SsOk.cons (SOk.u8 lr) SsOk.nil))) (pl30 _ Try.underlying30) rfl (FillR.cons [] [(1, [(vu64 0)])] [(1, [(vu64 (UInt64.ofNat (natLE ((cutR bs).getD 1 []))))])] [(32, (List.replicate 32 (0 : UInt8)).map vu8), (32, (List.replicate 32 (0 : UInt8)).map vu8)] rfl rfl rfl rfl (SsOk.cons (SOk.v rfl) SsOk.nil) rfl rfl rfl (FillR.cons [(1, [(vu64 (UInt64.ofNat (natLE ((cutR bs).getD 1 []))))])] [(32, (List.replicate 32 (0 : UInt8)).map vu8)] [(32, ((cutR bs).getD 2 []).map vu8)] [(32, (List.replicate 32 (0 : UInt8)).map vu8)] rfl rfl rfl rfl (SsOk.cons (SOk.u8 hl_46) SsOk.nil) rfl rfl rfl (FillR.cons [(1, [(vu64 (UInt64.ofNat (natLE ((cutR bs).getD 1 []))))]), (32, ((cutR bs).getD 2 []).map vu8)] [(32, (List.replicate 32 (0 : UInt8)).map vu8)] [(32, ((cutR bs).getD 3 []).map vu8)] [] rfl rfl rfl rfl (SsOk.cons (SOk.u8 hl_55) SsOk.nil) rfl rfl rfl FillR.nil))) rfl) ?_
    refine WT.s (Op1.one rfl (Wn.no rfl) ?_)
    refine WL.storeA (b := b_1) (off := 0) [] [(1, [(vu64 0)]), (32, (List.replicate 32 (0 : UInt8)).map vu8), (32, (List.replicate 32 (0 : UInt8)).map vu8)] [(1, [(vu64 (UInt64.ofNat (natLE ((cutR bs).getD 1 []))))]), (32, ((cutR bs).getD 2 []).map vu8), (32, ((cutR bs).getD 3 []).map vu8)] [] (ys := flat [(1, [(vu64 (UInt64.ofNat (natLE ((cutR bs).getD 1 []))))]), (32, ((cutR bs).getD 2 []).map vu8), (32, ((cutR bs).getD 3 []).map vu8)]) h_59 rfl rfl Try.sizeOf30 Y7 (by decide) rfl rfl rfl rfl rfl rfl (SsOk.cons (SOk.v rfl) (SsOk.cons (SOk.u8 hl_46) (SsOk.cons (SOk.u8 hl_55) SsOk.nil))) (fun w_61 h_62 => ?_)
    refine WL.nil ?_
    refine ⟨(SL.cons (h_62.ok _ M2) (SL.cons (h_62.ok _ M3) (SL.cons (h_62.ok _ M4) (SL.cons (h_62.ok _ M5) (SL.cons (h_62.ok _ M6) (SL.cons (h_62.ok _ M8) (SL.nil _ _))))))), ?_⟩
    refine qT rfl rfl (fun wq hS => R.assign (v := (vi 0)) rfl) ?_
    refine WT.nil (thn_n ?_)
    exact ⟨(a_42, c_44, a_51, c_53), (Ag.upd rfl (U4 rfl rfl rfl rfl (U4 rfl rfl rfl rfl (U4 rfl rfl rfl rfl (Ag.refl _ _))))), ⟨rfl, rfl, rfl, rfl, rfl, rfl, rfl, rfl, (congrArg Value.pointer (a_some0 (viewV (h_59.ok _ M1)) (by rw [len_map hl_46]; decide))), rfl, (congrArg Value.pointer (a_some0 (viewV (h_59.ok _ M0)) (by rw [len_map hl_55]; decide))), rfl, rfl, trivial⟩, h_62⟩
   ·refine Op1.one rfl (Wn.no rfl) ?_
    refine qV rfl (R.s2ap (a := a_51) (k := 32) rfl Try.underlying23 (by decide)) ?_
    refine WL.nil ?_
    refine ⟨(SL.cons (h_59.ok _ M2) (SL.cons (h_59.ok _ M3) (SL.cons (h_59.ok _ M4) (SL.cons (h_59.ok _ M5) (SL.cons (h_59.ok _ M6) (SL.cons (h_59.ok _ M8) (SL.nil _ _))))))), ?_⟩
    refine WT.s2 ?_ ?_
    ·refine Op1.one rfl (Wn.no rfl) ?_
     refine qV rfl (R.loadGA (a := a_42) (i := 0) (xs := ((cutR bs).getD 2 []).map vu8) (cs := ((cutR bs).getD 2 []).map vu8) (congrArg Value.pointer (a_some0 (viewV (h_59.ok _ M1)) (by rw [len_map hl_46]; decide))) (viewV (h_59.ok _ M1)) Try.isAgg23 Try.sizeOf23 (by rw [List.drop_zero, List.take_of_length_le (by rw [len_map hl_46]; exact Nat.le_refl _)]) (len_map hl_46) (by decide)) ?_
     refine WL.nil ?_
     refine ⟨(SL.cons (h_59.ok _ M2) (SL.cons (h_59.ok _ M3) (SL.cons (h_59.ok _ M4) (SL.cons (h_59.ok _ M5) (SL.cons (h_59.ok _ M6) (SL.cons (h_59.ok _ M8) (SL.nil _ _))))))), ?_⟩
     refine WT.s (Op1.one rfl (Wn.no rfl) ?_)
     refine qV rfl (R.loadGA (a := a_51) (i := 0) (xs := ((cutR bs).getD 3 []).map vu8) (cs := ((cutR bs).getD 3 []).map vu8) (congrArg Value.pointer (a_some0 (viewV (h_59.ok _ M0)) (by rw [len_map hl_55]; decide))) (viewV (h_59.ok _ M0)) Try.isAgg23 Try.sizeOf23 (by rw [List.drop_zero, List.take_of_length_le (by rw [len_map hl_55]; exact Nat.le_refl _)]) (len_map hl_55) (by decide)) ?_
     refine WL.nil ?_
     refine ⟨(SL.cons (h_59.ok _ M2) (SL.cons (h_59.ok _ M3) (SL.cons (h_59.ok _ M4) (SL.cons (h_59.ok _ M5) (SL.cons (h_59.ok _ M6) (SL.cons (h_59.ok _ M8) (SL.nil _ _))))))), ?_⟩
     refine qT rfl rfl (fun wq hS => R.buildS (pl := [(0, 1), (1, 32), (33, 32)]) (zs := [(1, [(vu64 0)]), (32, (List.replicate 32 (0 : UInt8)).map vu8), (32, (List.replicate 32 (0 : UInt8)).map vu8)]) (vs := [(0, (vu64 (UInt64.ofNat (natLE ((cutR bs).getD 1 []))))), (1, (.agg ⟨((cutR bs).getD 2 []).map vu8⟩)), (2, (.agg ⟨((cutR bs).getD 3 []).map vu8⟩))]) (out := [(1, [(vu64 (UInt64.ofNat (natLE ((cutR bs).getD 1 []))))]), (32, ((cutR bs).getD 2 []).map vu8), (32, ((cutR bs).getD 3 []).map vu8)]) (cs := flat [(1, [(vu64 (UInt64.ofNat (natLE ((cutR bs).getD 1 []))))]), (32, ((cutR bs).getD 2 []).map vu8), (32, ((cutR bs).getD 3 []).map vu8)]) Try.underlying30 (zv Try.typeInfo30 rfl) rfl (SsOk.cons (SOk.v rfl) (SsOk.cons (SOk.u8 lr) (SsOk.cons (SOk.u8 lr) SsOk.nil))) (pl30 _ Try.underlying30) rfl (FillR.cons [] [(1, [(vu64 0)])] [(1, [(vu64 (UInt64.ofNat (natLE ((cutR bs).getD 1 []))))])] [(32, (List.replicate 32 (0 : UInt8)).map vu8), (32, (List.replicate 32 (0 : UInt8)).map vu8)] rfl rfl rfl rfl (SsOk.cons (SOk.v rfl) SsOk.nil) rfl rfl rfl (FillR.cons [(1, [(vu64 (UInt64.ofNat (natLE ((cutR bs).getD 1 []))))])] [(32, (List.replicate 32 (0 : UInt8)).map vu8)] [(32, ((cutR bs).getD 2 []).map vu8)] [(32, (List.replicate 32 (0 : UInt8)).map vu8)] rfl rfl rfl rfl (SsOk.cons (SOk.u8 hl_46) SsOk.nil) rfl rfl rfl (FillR.cons [(1, [(vu64 (UInt64.ofNat (natLE ((cutR bs).getD 1 []))))]), (32, ((cutR bs).getD 2 []).map vu8)] [(32, (List.replicate 32 (0 : UInt8)).map vu8)] [(32, ((cutR bs).getD 3 []).map vu8)] [] rfl rfl rfl rfl (SsOk.cons (SOk.u8 hl_55) SsOk.nil) rfl rfl rfl FillR.nil))) rfl) ?_
     refine WT.s (Op1.one rfl (Wn.no rfl) ?_)
     refine WL.storeA (b := b_1) (off := 0) [] [(1, [(vu64 0)]), (32, (List.replicate 32 (0 : UInt8)).map vu8), (32, (List.replicate 32 (0 : UInt8)).map vu8)] [(1, [(vu64 (UInt64.ofNat (natLE ((cutR bs).getD 1 []))))]), (32, ((cutR bs).getD 2 []).map vu8), (32, ((cutR bs).getD 3 []).map vu8)] [] (ys := flat [(1, [(vu64 (UInt64.ofNat (natLE ((cutR bs).getD 1 []))))]), (32, ((cutR bs).getD 2 []).map vu8), (32, ((cutR bs).getD 3 []).map vu8)]) h_59 rfl rfl Try.sizeOf30 Y7 (by decide) rfl rfl rfl rfl rfl rfl (SsOk.cons (SOk.v rfl) (SsOk.cons (SOk.u8 hl_46) (SsOk.cons (SOk.u8 hl_55) SsOk.nil))) (fun w_64 h_65 => ?_)
     refine WL.nil ?_
     refine ⟨(SL.cons (h_65.ok _ M2) (SL.cons (h_65.ok _ M3) (SL.cons (h_65.ok _ M4) (SL.cons (h_65.ok _ M5) (SL.cons (h_65.ok _ M6) (SL.cons (h_65.ok _ M8) (SL.nil _ _))))))), ?_⟩
     refine qT rfl rfl (fun wq hS => R.assign (v := (vi 0)) rfl) ?_
     refine WT.nil (thn_n ?_)
     exact ⟨(a_42, c_44, a_51, c_53), (Ag.upd rfl (U4 rfl rfl rfl rfl (U4 rfl rfl rfl rfl (U4 rfl rfl rfl rfl (Ag.refl _ _))))), ⟨rfl, rfl, rfl, rfl, rfl, rfl, rfl, rfl, (congrArg Value.pointer (a_some0 (viewV (h_59.ok _ M1)) (by rw [len_map hl_46]; decide))), rfl, (congrArg Value.pointer (a_some0 (viewV (h_59.ok _ M0)) (by rw [len_map hl_55]; decide))), rfl, rfl, trivial⟩, h_65⟩
    ·refine Op1.one rfl (Wn.no rfl) ?_
     refine qV rfl (R.loadGA (a := a_51) (i := 0) (xs := ((cutR bs).getD 3 []).map vu8) (cs := ((cutR bs).getD 3 []).map vu8) (congrArg Value.pointer (a_some0 (viewV (h_59.ok _ M0)) (by rw [len_map hl_55]; decide))) (viewV (h_59.ok _ M0)) Try.isAgg23 Try.sizeOf23 (by rw [List.drop_zero, List.take_of_length_le (by rw [len_map hl_55]; exact Nat.le_refl _)]) (len_map hl_55) (by decide)) ?_
     refine WL.nil ?_
     refine ⟨(SL.cons (h_59.ok _ M2) (SL.cons (h_59.ok _ M3) (SL.cons (h_59.ok _ M4) (SL.cons (h_59.ok _ M5) (SL.cons (h_59.ok _ M6) (SL.cons (h_59.ok _ M8) (SL.nil _ _))))))), ?_⟩
     refine WT.s (Op1.one rfl (Wn.no rfl) ?_)
     refine qV rfl (R.loadGA (a := a_42) (i := 0) (xs := ((cutR bs).getD 2 []).map vu8) (cs := ((cutR bs).getD 2 []).map vu8) (congrArg Value.pointer (a_some0 (viewV (h_59.ok _ M1)) (by rw [len_map hl_46]; decide))) (viewV (h_59.ok _ M1)) Try.isAgg23 Try.sizeOf23 (by rw [List.drop_zero, List.take_of_length_le (by rw [len_map hl_46]; exact Nat.le_refl _)]) (len_map hl_46) (by decide)) ?_
     refine WL.nil ?_
     refine ⟨(SL.cons (h_59.ok _ M2) (SL.cons (h_59.ok _ M3) (SL.cons (h_59.ok _ M4) (SL.cons (h_59.ok _ M5) (SL.cons (h_59.ok _ M6) (SL.cons (h_59.ok _ M8) (SL.nil _ _))))))), ?_⟩
     refine qT rfl rfl (fun wq hS => R.buildS (pl := [(0, 1), (1, 32), (33, 32)]) (zs := [(1, [(vu64 0)]), (32, (List.replicate 32 (0 : UInt8)).map vu8), (32, (List.replicate 32 (0 : UInt8)).map vu8)]) (vs := [(0, (vu64 (UInt64.ofNat (natLE ((cutR bs).getD 1 []))))), (1, (.agg ⟨((cutR bs).getD 2 []).map vu8⟩)), (2, (.agg ⟨((cutR bs).getD 3 []).map vu8⟩))]) (out := [(1, [(vu64 (UInt64.ofNat (natLE ((cutR bs).getD 1 []))))]), (32, ((cutR bs).getD 2 []).map vu8), (32, ((cutR bs).getD 3 []).map vu8)]) (cs := flat [(1, [(vu64 (UInt64.ofNat (natLE ((cutR bs).getD 1 []))))]), (32, ((cutR bs).getD 2 []).map vu8), (32, ((cutR bs).getD 3 []).map vu8)]) Try.underlying30 (zv Try.typeInfo30 rfl) rfl (SsOk.cons (SOk.v rfl) (SsOk.cons (SOk.u8 lr) (SsOk.cons (SOk.u8 lr) SsOk.nil))) (pl30 _ Try.underlying30) rfl (FillR.cons [] [(1, [(vu64 0)])] [(1, [(vu64 (UInt64.ofNat (natLE ((cutR bs).getD 1 []))))])] [(32, (List.replicate 32 (0 : UInt8)).map vu8), (32, (List.replicate 32 (0 : UInt8)).map vu8)] rfl rfl rfl rfl (SsOk.cons (SOk.v rfl) SsOk.nil) rfl rfl rfl (FillR.cons [(1, [(vu64 (UInt64.ofNat (natLE ((cutR bs).getD 1 []))))])] [(32, (List.replicate 32 (0 : UInt8)).map vu8)] [(32, ((cutR bs).getD 2 []).map vu8)] [(32, (List.replicate 32 (0 : UInt8)).map vu8)] rfl rfl rfl rfl (SsOk.cons (SOk.u8 hl_46) SsOk.nil) rfl rfl rfl (FillR.cons [(1, [(vu64 (UInt64.ofNat (natLE ((cutR bs).getD 1 []))))]), (32, ((cutR bs).getD 2 []).map vu8)] [(32, (List.replicate 32 (0 : UInt8)).map vu8)] [(32, ((cutR bs).getD 3 []).map vu8)] [] rfl rfl rfl rfl (SsOk.cons (SOk.u8 hl_55) SsOk.nil) rfl rfl rfl FillR.nil))) rfl) ?_
     refine WT.s (Op1.one rfl (Wn.no rfl) ?_)
     refine WL.storeA (b := b_1) (off := 0) [] [(1, [(vu64 0)]), (32, (List.replicate 32 (0 : UInt8)).map vu8), (32, (List.replicate 32 (0 : UInt8)).map vu8)] [(1, [(vu64 (UInt64.ofNat (natLE ((cutR bs).getD 1 []))))]), (32, ((cutR bs).getD 2 []).map vu8), (32, ((cutR bs).getD 3 []).map vu8)] [] (ys := flat [(1, [(vu64 (UInt64.ofNat (natLE ((cutR bs).getD 1 []))))]), (32, ((cutR bs).getD 2 []).map vu8), (32, ((cutR bs).getD 3 []).map vu8)]) h_59 rfl rfl Try.sizeOf30 Y7 (by decide) rfl rfl rfl rfl rfl rfl (SsOk.cons (SOk.v rfl) (SsOk.cons (SOk.u8 hl_46) (SsOk.cons (SOk.u8 hl_55) SsOk.nil))) (fun w_67 h_68 => ?_)
     refine WL.nil ?_
     refine ⟨(SL.cons (h_68.ok _ M2) (SL.cons (h_68.ok _ M3) (SL.cons (h_68.ok _ M4) (SL.cons (h_68.ok _ M5) (SL.cons (h_68.ok _ M6) (SL.cons (h_68.ok _ M8) (SL.nil _ _))))))), ?_⟩
     refine qT rfl rfl (fun wq hS => R.assign (v := (vi 0)) rfl) ?_
     refine WT.nil (thn_n ?_)
     exact ⟨(a_42, c_44, a_51, c_53), (Ag.upd rfl (U4 rfl rfl rfl rfl (U4 rfl rfl rfl rfl (U4 rfl rfl rfl rfl (Ag.refl _ _))))), ⟨rfl, rfl, rfl, rfl, rfl, rfl, rfl, rfl, (congrArg Value.pointer (a_some0 (viewV (h_59.ok _ M1)) (by rw [len_map hl_46]; decide))), rfl, (congrArg Value.pointer (a_some0 (viewV (h_59.ok _ M0)) (by rw [len_map hl_55]; decide))), rfl, rfl, trivial⟩, h_68⟩
  ·refine Op1.one rfl (Wn.no rfl) ?_
   refine qV rfl (R.s2ap (a := a_51) (k := 32) rfl Try.underlying23 (by decide)) ?_
   refine WL.nil ?_
   refine ⟨(SL.cons (h_59.ok _ M2) (SL.cons (h_59.ok _ M3) (SL.cons (h_59.ok _ M4) (SL.cons (h_59.ok _ M5) (SL.cons (h_59.ok _ M6) (SL.cons (h_59.ok _ M8) (SL.nil _ _))))))), ?_⟩
   refine WT.s2 ?_ ?_
   ·refine Op1.one rfl (Wn.no rfl) ?_
    refine qV rfl (R.s2ap (a := a_42) (k := 32) rfl Try.underlying23 (by decide)) ?_
    refine WL.nil ?_
    refine ⟨(SL.cons (h_59.ok _ M2) (SL.cons (h_59.ok _ M3) (SL.cons (h_59.ok _ M4) (SL.cons (h_59.ok _ M5) (SL.cons (h_59.ok _ M6) (SL.cons (h_59.ok _ M8) (SL.nil _ _))))))), ?_⟩
    refine WT.s2 ?_ ?_
    ·refine Op1.one rfl (Wn.no rfl) ?_
     refine qV rfl (R.loadGA (a := a_42) (i := 0) (xs := ((cutR bs).getD 2 []).map vu8) (cs := ((cutR bs).getD 2 []).map vu8) (congrArg Value.pointer (a_some0 (viewV (h_59.ok _ M1)) (by rw [len_map hl_46]; decide))) (viewV (h_59.ok _ M1)) Try.isAgg23 Try.sizeOf23 (by rw [List.drop_zero, List.take_of_length_le (by rw [len_map hl_46]; exact Nat.le_refl _)]) (len_map hl_46) (by decide)) ?_
     refine WL.nil ?_
     refine ⟨(SL.cons (h_59.ok _ M2) (SL.cons (h_59.ok _ M3) (SL.cons (h_59.ok _ M4) (SL.cons (h_59.ok _ M5) (SL.cons (h_59.ok _ M6) (SL.cons (h_59.ok _ M8) (SL.nil _ _))))))), ?_⟩
     refine WT.s (Op1.one rfl (Wn.no rfl) ?_)
     refine qV rfl (R.loadGA (a := a_51) (i := 0) (xs := ((cutR bs).getD 3 []).map vu8) (cs := ((cutR bs).getD 3 []).map vu8) (congrArg Value.pointer (a_some0 (viewV (h_59.ok _ M0)) (by rw [len_map hl_55]; decide))) (viewV (h_59.ok _ M0)) Try.isAgg23 Try.sizeOf23 (by rw [List.drop_zero, List.take_of_length_le (by rw [len_map hl_55]; exact Nat.le_refl _)]) (len_map hl_55) (by decide)) ?_
     refine WL.nil ?_
     refine ⟨(SL.cons (h_59.ok _ M2) (SL.cons (h_59.ok _ M3) (SL.cons (h_59.ok _ M4) (SL.cons (h_59.ok _ M5) (SL.cons (h_59.ok _ M6) (SL.cons (h_59.ok _ M8) (SL.nil _ _))))))), ?_⟩
     refine qT rfl rfl (fun wq hS => R.buildS (pl := [(0, 1), (1, 32), (33, 32)]) (zs := [(1, [(vu64 0)]), (32, (List.replicate 32 (0 : UInt8)).map vu8), (32, (List.replicate 32 (0 : UInt8)).map vu8)]) (vs := [(0, (vu64 (UInt64.ofNat (natLE ((cutR bs).getD 1 []))))), (1, (.agg ⟨((cutR bs).getD 2 []).map vu8⟩)), (2, (.agg ⟨((cutR bs).getD 3 []).map vu8⟩))]) (out := [(1, [(vu64 (UInt64.ofNat (natLE ((cutR bs).getD 1 []))))]), (32, ((cutR bs).getD 2 []).map vu8), (32, ((cutR bs).getD 3 []).map vu8)]) (cs := flat [(1, [(vu64 (UInt64.ofNat (natLE ((cutR bs).getD 1 []))))]), (32, ((cutR bs).getD 2 []).map vu8), (32, ((cutR bs).getD 3 []).map vu8)]) Try.underlying30 (zv Try.typeInfo30 rfl) rfl (SsOk.cons (SOk.v rfl) (SsOk.cons (SOk.u8 lr) (SsOk.cons (SOk.u8 lr) SsOk.nil))) (pl30 _ Try.underlying30) rfl (FillR.cons [] [(1, [(vu64 0)])] [(1, [(vu64 (UInt64.ofNat (natLE ((cutR bs).getD 1 []))))])] [(32, (List.replicate 32 (0 : UInt8)).map vu8), (32, (List.replicate 32 (0 : UInt8)).map vu8)] rfl rfl rfl rfl (SsOk.cons (SOk.v rfl) SsOk.nil) rfl rfl rfl (FillR.cons [(1, [(vu64 (UInt64.ofNat (natLE ((cutR bs).getD 1 []))))])] [(32, (List.replicate 32 (0 : UInt8)).map vu8)] [(32, ((cutR bs).getD 2 []).map vu8)] [(32, (List.replicate 32 (0 : UInt8)).map vu8)] rfl rfl rfl rfl (SsOk.cons (SOk.u8 hl_46) SsOk.nil) rfl rfl rfl (FillR.cons [(1, [(vu64 (UInt64.ofNat (natLE ((cutR bs).getD 1 []))))]), (32, ((cutR bs).getD 2 []).map vu8)] [(32, (List.replicate 32 (0 : UInt8)).map vu8)] [(32, ((cutR bs).getD 3 []).map vu8)] [] rfl rfl rfl rfl (SsOk.cons (SOk.u8 hl_55) SsOk.nil) rfl rfl rfl FillR.nil))) rfl) ?_
     refine WT.s (Op1.one rfl (Wn.no rfl) ?_)
     refine WL.storeA (b := b_1) (off := 0) [] [(1, [(vu64 0)]), (32, (List.replicate 32 (0 : UInt8)).map vu8), (32, (List.replicate 32 (0 : UInt8)).map vu8)] [(1, [(vu64 (UInt64.ofNat (natLE ((cutR bs).getD 1 []))))]), (32, ((cutR bs).getD 2 []).map vu8), (32, ((cutR bs).getD 3 []).map vu8)] [] (ys := flat [(1, [(vu64 (UInt64.ofNat (natLE ((cutR bs).getD 1 []))))]), (32, ((cutR bs).getD 2 []).map vu8), (32, ((cutR bs).getD 3 []).map vu8)]) h_59 rfl rfl Try.sizeOf30 Y7 (by decide) rfl rfl rfl rfl rfl rfl (SsOk.cons (SOk.v rfl) (SsOk.cons (SOk.u8 hl_46) (SsOk.cons (SOk.u8 hl_55) SsOk.nil))) (fun w_70 h_71 => ?_)
     refine WL.nil ?_
     refine ⟨(SL.cons (h_71.ok _ M2) (SL.cons (h_71.ok _ M3) (SL.cons (h_71.ok _ M4) (SL.cons (h_71.ok _ M5) (SL.cons (h_71.ok _ M6) (SL.cons (h_71.ok _ M8) (SL.nil _ _))))))), ?_⟩
     refine qT rfl rfl (fun wq hS => R.assign (v := (vi 0)) rfl) ?_
     refine WT.nil (thn_n ?_)
     exact ⟨(a_42, c_44, a_51, c_53), (Ag.upd rfl (U4 rfl rfl rfl rfl (U4 rfl rfl rfl rfl (U4 rfl rfl rfl rfl (Ag.refl _ _))))), ⟨rfl, rfl, rfl, rfl, rfl, rfl, rfl, rfl, (congrArg Value.pointer (a_some0 (viewV (h_59.ok _ M1)) (by rw [len_map hl_46]; decide))), rfl, (congrArg Value.pointer (a_some0 (viewV (h_59.ok _ M0)) (by rw [len_map hl_55]; decide))), rfl, rfl, trivial⟩, h_71⟩
    ·refine Op1.one rfl (Wn.no rfl) ?_
     refine qV rfl (R.loadGA (a := a_51) (i := 0) (xs := ((cutR bs).getD 3 []).map vu8) (cs := ((cutR bs).getD 3 []).map vu8) (congrArg Value.pointer (a_some0 (viewV (h_59.ok _ M0)) (by rw [len_map hl_55]; decide))) (viewV (h_59.ok _ M0)) Try.isAgg23 Try.sizeOf23 (by rw [List.drop_zero, List.take_of_length_le (by rw [len_map hl_55]; exact Nat.le_refl _)]) (len_map hl_55) (by decide)) ?_
     refine WL.nil ?_
     refine ⟨(SL.cons (h_59.ok _ M2) (SL.cons (h_59.ok _ M3) (SL.cons (h_59.ok _ M4) (SL.cons (h_59.ok _ M5) (SL.cons (h_59.ok _ M6) (SL.cons (h_59.ok _ M8) (SL.nil _ _))))))), ?_⟩
     refine WT.s (Op1.one rfl (Wn.no rfl) ?_)
     refine qV rfl (R.loadGA (a := a_42) (i := 0) (xs := ((cutR bs).getD 2 []).map vu8) (cs := ((cutR bs).getD 2 []).map vu8) (congrArg Value.pointer (a_some0 (viewV (h_59.ok _ M1)) (by rw [len_map hl_46]; decide))) (viewV (h_59.ok _ M1)) Try.isAgg23 Try.sizeOf23 (by rw [List.drop_zero, List.take_of_length_le (by rw [len_map hl_46]; exact Nat.le_refl _)]) (len_map hl_46) (by decide)) ?_
     refine WL.nil ?_
     refine ⟨(SL.cons (h_59.ok _ M2) (SL.cons (h_59.ok _ M3) (SL.cons (h_59.ok _ M4) (SL.cons (h_59.ok _ M5) (SL.cons (h_59.ok _ M6) (SL.cons (h_59.ok _ M8) (SL.nil _ _))))))), ?_⟩
     refine qT rfl rfl (fun wq hS => R.buildS (pl := [(0, 1), (1, 32), (33, 32)]) (zs := [(1, [(vu64 0)]), (32, (List.replicate 32 (0 : UInt8)).map vu8), (32, (List.replicate 32 (0 : UInt8)).map vu8)]) (vs := [(0, (vu64 (UInt64.ofNat (natLE ((cutR bs).getD 1 []))))), (1, (.agg ⟨((cutR bs).getD 2 []).map vu8⟩)), (2, (.agg ⟨((cutR bs).getD 3 []).map vu8⟩))]) (out := [(1, [(vu64 (UInt64.ofNat (natLE ((cutR bs).getD 1 []))))]), (32, ((cutR bs).getD 2 []).map vu8), (32, ((cutR bs).getD 3 []).map vu8)]) (cs := flat [(1, [(vu64 (UInt64.ofNat (natLE ((cutR bs).getD 1 []))))]), (32, ((cutR bs).getD 2 []).map vu8), (32, ((cutR bs).getD 3 []).map vu8)]) Try.underlying30 (zv Try.typeInfo30 rfl) rfl (SsOk.cons (SOk.v rfl) (SsOk.cons (SOk.u8 lr) (SsOk.cons (SOk.u8 lr) SsOk.nil))) (pl30 _ Try.underlying30) rfl (FillR.cons [] [(1, [(vu64 0)])] [(1, [(vu64 (UInt64.ofNat (natLE ((cutR bs).getD 1 []))))])] [(32, (List.replicate 32 (0 : UInt8)).map vu8), (32, (List.replicate 32 (0 : UInt8)).map vu8)] rfl rfl rfl rfl (SsOk.cons (SOk.v rfl) SsOk.nil) rfl rfl rfl (FillR.cons [(1, [(vu64 (UInt64.ofNat (natLE ((cutR bs).getD 1 []))))])] [(32, (List.replicate 32 (0 : UInt8)).map vu8)] [(32, ((cutR bs).getD 2 []).map vu8)] [(32, (List.replicate 32 (0 : UInt8)).map vu8)] rfl rfl rfl rfl (SsOk.cons (SOk.u8 hl_46) SsOk.nil) rfl rfl rfl (FillR.cons [(1, [(vu64 (UInt64.ofNat (natLE ((cutR bs).getD 1 []))))]), (32, ((cutR bs).getD 2 []).map vu8)] [(32, (List.replicate 32 (0 : UInt8)).map vu8)] [(32, ((cutR bs).getD 3 []).map vu8)] [] rfl rfl rfl rfl (SsOk.cons (SOk.u8 hl_55) SsOk.nil) rfl rfl rfl FillR.nil))) rfl) ?_
     refine WT.s (Op1.one rfl (Wn.no rfl) ?_)
     refine WL.storeA (b := b_1) (off := 0) [] [(1, [(vu64 0)]), (32, (List.replicate 32 (0 : UInt8)).map vu8), (32, (List.replicate 32 (0 : UInt8)).map vu8)] [(1, [(vu64 (UInt64.ofNat (natLE ((cutR bs).getD 1 []))))]), (32, ((cutR bs).getD 2 []).map vu8), (32, ((cutR bs).getD 3 []).map vu8)] [] (ys := flat [(1, [(vu64 (UInt64.ofNat (natLE ((cutR bs).getD 1 []))))]), (32, ((cutR bs).getD 2 []).map vu8), (32, ((cutR bs).getD 3 []).map vu8)]) h_59 rfl rfl Try.sizeOf30 Y7 (by decide) rfl rfl rfl rfl rfl rfl (SsOk.cons (SOk.v rfl) (SsOk.cons (SOk.u8 hl_46) (SsOk.cons (SOk.u8 hl_55) SsOk.nil))) (fun w_73 h_74 => ?_)
     refine WL.nil ?_
     refine ⟨(SL.cons (h_74.ok _ M2) (SL.cons (h_74.ok _ M3) (SL.cons (h_74.ok _ M4) (SL.cons (h_74.ok _ M5) (SL.cons (h_74.ok _ M6) (SL.cons (h_74.ok _ M8) (SL.nil _ _))))))), ?_⟩
     refine qT rfl rfl (fun wq hS => R.assign (v := (vi 0)) rfl) ?_
     refine WT.nil (thn_n ?_)
     exact ⟨(a_42, c_44, a_51, c_53), (Ag.upd rfl (U4 rfl rfl rfl rfl (U4 rfl rfl rfl rfl (U4 rfl rfl rfl rfl (Ag.refl _ _))))), ⟨rfl, rfl, rfl, rfl, rfl, rfl, rfl, rfl, (congrArg Value.pointer (a_some0 (viewV (h_59.ok _ M1)) (by rw [len_map hl_46]; decide))), rfl, (congrArg Value.pointer (a_some0 (viewV (h_59.ok _ M0)) (by rw [len_map hl_55]; decide))), rfl, rfl, trivial⟩, h_74⟩
   ·refine Op1.one rfl (Wn.no rfl) ?_
    refine qV rfl (R.loadGA (a := a_51) (i := 0) (xs := ((cutR bs).getD 3 []).map vu8) (cs := ((cutR bs).getD 3 []).map vu8) (congrArg Value.pointer (a_some0 (viewV (h_59.ok _ M0)) (by rw [len_map hl_55]; decide))) (viewV (h_59.ok _ M0)) Try.isAgg23 Try.sizeOf23 (by rw [List.drop_zero, List.take_of_length_le (by rw [len_map hl_55]; exact Nat.le_refl _)]) (len_map hl_55) (by decide)) ?_
    refine WL.nil ?_
    refine ⟨(SL.cons (h_59.ok _ M2) (SL.cons (h_59.ok _ M3) (SL.cons (h_59.ok _ M4) (SL.cons (h_59.ok _ M5) (SL.cons (h_59.ok _ M6) (SL.cons (h_59.ok _ M8) (SL.nil _ _))))))), ?_⟩
    refine WT.s (Op1.one rfl (Wn.no rfl) ?_)
    refine qV rfl (R.s2ap (a := a_42) (k := 32) rfl Try.underlying23 (by decide)) ?_
    refine WL.nil ?_
    refine ⟨(SL.cons (h_59.ok _ M2) (SL.cons (h_59.ok _ M3) (SL.cons (h_59.ok _ M4) (SL.cons (h_59.ok _ M5) (SL.cons (h_59.ok _ M6) (SL.cons (h_59.ok _ M8) (SL.nil _ _))))))), ?_⟩
    refine WT.s (Op1.one rfl (Wn.no rfl) ?_)
    refine qV rfl (R.loadGA (a := a_42) (i := 0) (xs := ((cutR bs).getD 2 []).map vu8) (cs := ((cutR bs).getD 2 []).map vu8) (congrArg Value.pointer (a_some0 (viewV (h_59.ok _ M1)) (by rw [len_map hl_46]; decide))) (viewV (h_59.ok _ M1)) Try.isAgg23 Try.sizeOf23 (by rw [List.drop_zero, List.take_of_length_le (by rw [len_map hl_46]; exact Nat.le_refl _)]) (len_map hl_46) (by decide)) ?_
    refine WL.nil ?_
    refine ⟨(SL.cons (h_59.ok _ M2) (SL.cons (h_59.ok _ M3) (SL.cons (h_59.ok _ M4) (SL.cons (h_59.ok _ M5) (SL.cons (h_59.ok _ M6) (SL.cons (h_59.ok _ M8) (SL.nil _ _))))))), ?_⟩
    refine qT rfl rfl (fun wq hS => R.buildS (pl := [(0, 1), (1, 32), (33, 32)]) (zs := [(1, [(vu64 0)]), (32, (List.replicate 32 (0 : UInt8)).map vu8), (32, (List.replicate 32 (0 : UInt8)).map vu8)]) (vs := [(0, (vu64 (UInt64.ofNat (natLE ((cutR bs).getD 1 []))))), (1, (.agg ⟨((cutR bs).getD 2 []).map vu8⟩)), (2, (.agg ⟨((cutR bs).getD 3 []).map vu8⟩))]) (out := [(1, [(vu64 (UInt64.ofNat (natLE ((cutR bs).getD 1 []))))]), (32, ((cutR bs).getD 2 []).map vu8), (32, ((cutR bs).getD 3 []).map vu8)]) (cs := flat [(1, [(vu64 (UInt64.ofNat (natLE ((cutR bs).getD 1 []))))]), (32, ((cutR bs).getD 2 []).map vu8), (32, ((cutR bs).getD 3 []).map vu8)]) Try.underlying30 (zv Try.typeInfo30 rfl) rfl (SsOk.cons (SOk.v rfl) (SsOk.cons (SOk.u8 lr) (SsOk.cons (SOk.u8 lr) SsOk.nil))) (pl30 _ Try.underlying30) rfl (FillR.cons [] [(1, [(vu64 0)])] [(1, [(vu64 (UInt64.ofNat (natLE ((cutR bs).getD 1 []))))])] [(32, (List.replicate 32 (0 : UInt8)).map vu8), (32, (List.replicate 32 (0 : UInt8)).map vu8)] rfl rfl rfl rfl (SsOk.cons (SOk.v rfl) SsOk.nil) rfl rfl rfl (FillR.cons [(1, [(vu64 (UInt64.ofNat (natLE ((cutR bs).getD 1 []))))])] [(32, (List.replicate 32 (0 : UInt8)).map vu8)] [(32, ((cutR bs).getD 2 []).map vu8)] [(32, (List.replicate 32 (0 : UInt8)).map vu8)] rfl rfl rfl rfl (SsOk.cons (SOk.u8 hl_46) SsOk.nil) rfl rfl rfl (FillR.cons [(1, [(vu64 (UInt64.ofNat (natLE ((cutR bs).getD 1 []))))]), (32, ((cutR bs).getD 2 []).map vu8)] [(32, (List.replicate 32 (0 : UInt8)).map vu8)] [(32, ((cutR bs).getD 3 []).map vu8)] [] rfl rfl rfl rfl (SsOk.cons (SOk.u8 hl_55) SsOk.nil) rfl rfl rfl FillR.nil))) rfl) ?_
    refine WT.s (Op1.one rfl (Wn.no rfl) ?_)
    refine WL.storeA (b := b_1) (off := 0) [] [(1, [(vu64 0)]), (32, (List.replicate 32 (0 : UInt8)).map vu8), (32, (List.replicate 32 (0 : UInt8)).map vu8)] [(1, [(vu64 (UInt64.ofNat (natLE ((cutR bs).getD 1 []))))]), (32, ((cutR bs).getD 2 []).map vu8), (32, ((cutR bs).getD 3 []).map vu8)] [] (ys := flat [(1, [(vu64 (UInt64.ofNat (natLE ((cutR bs).getD 1 []))))]), (32, ((cutR bs).getD 2 []).map vu8), (32, ((cutR bs).getD 3 []).map vu8)]) h_59 rfl rfl Try.sizeOf30 Y7 (by decide) rfl rfl rfl rfl rfl rfl (SsOk.cons (SOk.v rfl) (SsOk.cons (SOk.u8 hl_46) (SsOk.cons (SOk.u8 hl_55) SsOk.nil))) (fun w_76 h_77 => ?_)
    refine WL.nil ?_
    refine ⟨(SL.cons (h_77.ok _ M2) (SL.cons (h_77.ok _ M3) (SL.cons (h_77.ok _ M4) (SL.cons (h_77.ok _ M5) (SL.cons (h_77.ok _ M6) (SL.cons (h_77.ok _ M8) (SL.nil _ _))))))), ?_⟩
    refine qT rfl rfl (fun wq hS => R.assign (v := (vi 0)) rfl) ?_
    refine WT.nil (thn_n ?_)
    exact ⟨(a_42, c_44, a_51, c_53), (Ag.upd rfl (U4 rfl rfl rfl rfl (U4 rfl rfl rfl rfl (U4 rfl rfl rfl rfl (Ag.refl _ _))))), ⟨rfl, rfl, rfl, rfl, rfl, rfl, rfl, rfl, (congrArg Value.pointer (a_some0 (viewV (h_59.ok _ M1)) (by rw [len_map hl_46]; decide))), rfl, (congrArg Value.pointer (a_some0 (viewV (h_59.ok _ M0)) (by rw [len_map hl_55]; decide))), rfl, rfl, trivial⟩, h_77⟩
 ·rintro ⟨a_81, c_82, a_83, c_84⟩ J_78 w_79 h_80
  refine thn_n (WP.ret ?_)
  refine ret_of Try.results51 (RV.cell rfl (h_80.loadA (cs := flat [(1, [(vu64 (UInt64.ofNat (natLE ((cutR bs).getD 1 []))))]), (32, ((cutR bs).getD 2 []).map vu8), (32, ((cutR bs).getD 3 []).map vu8)]) Try.isAgg30 Try.sizeOf30 M7 rfl rfl) (RV.tmp (v := (vi 0)) rfl RV.nil)) ?_
  have e2 := me_eq bs
  have e3 := ch_eq bs
  refine ⟨?_, h_80.chgS⟩
  rw [e2, e3]
  rfl

theorem c_atag_nil (a : Option Addr) (n cap : Nat) (w : World) :
  Cs Try.prog 47 [(.pointer none), (.slice a n cap)].toArray w (fun v w1 => v = (.tuple [(.agg ⟨(List.replicate 32 (0 : UInt8)).map vu8⟩), (vi 1)].toArray) ∧ Chg w w1 []) := by
 refine Cs.of (n := 24) (args := [(.pointer none), (.slice a n cap)]) Try.func47 rfl rfl rfl ?_
 have h_0 := HP.init w
 refine WP.seq (WP.reg ?_)
 refine WL.alloc (segs := [(32, (List.replicate 32 (0 : UInt8)).map vu8)]) h_0 (zv Try.typeInfo23 rfl) rfl (SsOk.cons (SOk.u8 lr) SsOk.nil) rfl (fun b_1 w_2 h_3 => ?_)
 refine qA (vi 0) rfl rfl ?_
 refine WL.nil (thn_n (WP.seq (WP.reg ?_)))
 refine qM (.pointer none) rfl rfl ?_
 refine WL.call Try.call20 rfl rfl (c_oKey_nil 9 none 0 0 _ ) rfl ?_
 rintro _ w_5 ⟨rfl, hc_4⟩
 have h_6 := h_3.same hc_4
 refine qM (.tuple [(.agg ⟨(List.replicate 32 (0 : UInt8)).map vu8⟩), (vi 1)].toArray) rfl rfl (qV rfl (R.extract rfl rfl) (qV rfl (R.extract rfl rfl) ?_))
 refine WL.alloc (segs := [(32, (List.replicate 32 (0 : UInt8)).map vu8)]) h_6 (zv Try.typeInfo23 rfl) rfl (SsOk.cons (SOk.u8 lr) SsOk.nil) rfl (fun b_7 w_8 h_9 => ?_)
 refine WL.storeA (b := b_7) (off := 0) [] [(32, (List.replicate 32 (0 : UInt8)).map vu8)] [(32, (List.replicate 32 (0 : UInt8)).map vu8)] [] (ys := (List.replicate 32 (0 : UInt8)).map vu8) h_9 rfl rfl Try.sizeOf23 At.h (by decide) rfl rfl rfl rfl rfl rfl (SsOk.cons (SOk.u8 lr) SsOk.nil) (fun w_10 h_11 => ?_)
 refine qA (vi 1) rfl rfl ?_
 refine WL.nil (thn_n (WP.seq (WP.seq (WP.reg ?_))))
 refine qM (vi 1) rfl rfl (qV rfl (R.bin rfl rfl (bi_neq (r := true) (by decide))) ?_)
 refine WL.nil (thn_n ?_)
 refine WP.condT rfl ?_
 refine WP.seq (WP.reg ?_)
 refine qV rfl (R.buildA (vs := []) (cs := (List.replicate 32 (0 : UInt8)).map vu8) Try.underlying23 Try.sizeOf5 (zv Try.typeInfo23 rfl) rfl rfl) (qM (vi 1) rfl rfl ?_)
 refine WL.storeA (b := b_1) (off := 0) [] [(32, (List.replicate 32 (0 : UInt8)).map vu8)] [(32, (List.replicate 32 (0 : UInt8)).map vu8)] [] (ys := (List.replicate 32 (0 : UInt8)).map vu8) h_11 rfl rfl Try.sizeOf23 Y1 (by decide) rfl rfl rfl rfl rfl rfl (SsOk.cons (SOk.u8 lr) SsOk.nil) (fun w_12 h_13 => ?_)
 refine qA (vi 1) rfl rfl ?_
 refine WL.nil (thn_n (WP.ret (thn_r ?_)))
 refine ret_of Try.results47 (RV.cell rfl (h_13.loadA (cs := (List.replicate 32 (0 : UInt8)).map vu8) Try.isAgg23 Try.sizeOf23 M1 rfl rfl) (RV.tmp (v := (vi 1)) rfl RV.nil)) ?_
 exact ⟨rfl, h_13.chgS⟩

theorem c_atag_r {w00 : World} {L : List Ent} (id : Bool) (ob mp : Nat) (ms df : List UInt8) (hms : ms.length = 32) (da : Option Addr) (dn dc u : Nat) (hdf : df.length = 32 * dn) (la : Option Addr) (lc : Nat) (lx : List Value) (lg : Lg) (hu : u ≤ 500000) (hlg : lg.length ≤ 500000) (a : Option Addr) (n cap : Nat) (bs : List UInt8) (hl : bs.length = n) (hn : n ≤ 100000) (w : World) (h_0 : HP w00 w (Ent.blk ob .nw 50 [(1, [(.bool id)]), (32, ms.map vu8), (1, [(.slice da dn dc)]), (1, [(vi ((u : Nat) : Int))]), (1, [(.map (some mp))]), (1, [(.slice la lg.length lc)])] :: Ent.row la lg.length lc 111 67 lx :: Ent.obj mp .nw (.map (mArr lg) lg.length) :: Ent.pin (sblks lx) (fun w => Lgs w lx lg) :: Ent.view da (df.map vu8) :: Ent.row a n cap 5 1 (bs.map vu8) :: L)) :
  Cs Try.prog 47 [(.pointer (some ⟨ob, 0, none⟩)), (.slice a n cap)].toArray w (fun v w1 => ∃ la' lc' lx', v = (.tuple [(.agg ⟨(tgD id df dn u lg ms bs).map vu8⟩), (vi 0)].toArray) ∧ HP w00 w1 (Ent.blk ob .nw 50 [(1, [(.bool id)]), (32, ms.map vu8), (1, [(.slice da dn dc)]), (1, [(vi (((tgU id df dn u lg ms bs) : Nat) : Int))]), (1, [(.map (some mp))]), (1, [(.slice la' ((tgL id df dn u lg ms bs).length) lc')])] :: Ent.row la' ((tgL id df dn u lg ms bs).length) lc' 111 67 lx' :: Ent.obj mp .nw (.map (mArr (tgL id df dn u lg ms bs)) ((tgL id df dn u lg ms bs).length)) :: Ent.pin (sblks lx') (fun w => Lgs w lx' (tgL id df dn u lg ms bs)) :: Ent.view da (df.map vu8) :: Ent.row a n cap 5 1 (bs.map vu8) :: L)) := by
 refine Cs.of (n := 24) (args := [(pO ob 0), (.slice a n cap)]) Try.func47 rfl rfl rfl ?_
 refine WP.seq (WP.reg ?_)
 refine WL.alloc (segs := [(32, (List.replicate 32 (0 : UInt8)).map vu8)]) h_0 (zv Try.typeInfo23 rfl) rfl (SsOk.cons (SOk.u8 lr) SsOk.nil) rfl (fun b_1 w_2 h_3 => ?_)
 refine qA (vi 0) rfl rfl ?_
 refine WL.nil (thn_n (WP.seq (WP.reg ?_)))
 refine qM (pO ob 0) rfl rfl ?_
 have h_4 := HP_viewNil h_3
 have h_5 := h_4.slsNil
 have h_12 := ((((((h_5.up J1).up J1).up J7).up J7).up J7).up J7).up J7
 have h32_w_16 := Lgs.ok32 (h_12.ok _ M3).1
 refine WL.call Try.call20 rfl rfl (c_oKey id ob mp ms df hms da dn dc u hdf la lc lx lg (by first | omega | (have h1 := anU_le id u lg (tgQ1 ms); exact Nat.le_trans h1 (by omega))) (by first | omega | (have h1 := anL_le id df dn u lg (tgQ1 ms); exact Nat.le_trans h1 (by omega))) none 0 0 [] ([] : List (List UInt8)) rfl 9 (by omega) (by simp only [List.flatten_cons, List.flatten_nil, List.length_append, List.length_nil]; omega) (by omega) _ h_12) rfl ?_
 rintro _ w_16 ⟨la_13, lc_14, lx_15, rfl, h_17⟩
 refine qM (.tuple [(.agg ⟨(anD id df dn u lg (3, ms, 9, ([] : List (List UInt8)).flatten)).map vu8⟩), (vi 0)].toArray) rfl rfl (qV rfl (R.extract rfl rfl) (qV rfl (R.extract rfl rfl) ?_))
 refine WL.alloc (segs := [(32, (List.replicate 32 (0 : UInt8)).map vu8)]) h_17 (zv Try.typeInfo23 rfl) rfl (SsOk.cons (SOk.u8 lr) SsOk.nil) rfl (fun b_18 w_19 h_20 => ?_)
 refine WL.storeA (b := b_18) (off := 0) [] [(32, (List.replicate 32 (0 : UInt8)).map vu8)] [(32, (anD id df dn u lg (3, ms, 9, ([] : List (List UInt8)).flatten)).map vu8)] [] (ys := (anD id df dn u lg (3, ms, 9, ([] : List (List UInt8)).flatten)).map vu8) h_20 rfl rfl Try.sizeOf23 At.h (by decide) rfl rfl rfl rfl rfl rfl (SsOk.cons (SOk.u8 (anD_len hdf h32_w_16)) SsOk.nil) (fun w_21 h_22 => ?_)
 refine qA (vi 0) rfl rfl ?_
 refine WL.nil (thn_n (WP.seq (WP.seq (WP.reg ?_))))
 refine qM (vi 0) rfl rfl (qV rfl (R.bin rfl rfl (bi_neq (r := false) (by decide))) ?_)
 refine WL.nil (thn_n ?_)
 refine WP.condF rfl ?_
 refine WP.skip (thn_n (WP.seq (WP.reg ?_)))
 refine qM (pO ob 0) rfl rfl (qV rfl (R.loadA (b := b_18) (off := 0) [] [(32, (anD id df dn u lg (3, ms, 9, ([] : List (List UInt8)).flatten)).map vu8)] [] (cs := (anD id df dn u lg (3, ms, 9, ([] : List (List UInt8)).flatten)).map vu8) rfl Try.isAgg23 Try.sizeOf23 (h_22.ok _ M0) rfl rfl rfl rfl) (qM (.slice a n cap) rfl rfl ?_))
 refine WL.buildSl (vs := [(0, (.slice a n cap))]) (cs := [(.slice a n cap)]) h_22 Try.underlying36 Try.sizeOf37 (zv Try.typeInfo37 rfl) rfl rfl (by kernel_rfl) rfl (by simp [Value.oneCell']) rfl rfl (fun b_23 w_24 h_25 => ?_)
 have h_32 := ((((((h_25.up J10).up J1).up J7).up J7).up J7).up J7).up J7
 have h32_w_36 := Lgs.ok32 (h_32.ok _ M3).1
 refine WL.call Try.call21 rfl rfl (c_oTag1 id ob mp ms df hms da dn dc (anU id u lg (3, ms, 9, ([] : List (List UInt8)).flatten)) hdf la_13 lc_14 lx_15 (anL id df dn u lg (3, ms, 9, ([] : List (List UInt8)).flatten)) (by first | omega | (have h1 := anU_le id u lg (tgQ1 ms); exact Nat.le_trans h1 (by omega))) (by first | omega | (have h1 := anL_le id df dn u lg (tgQ1 ms); exact Nat.le_trans h1 (by omega))) (anD id df dn u lg (3, ms, 9, ([] : List (List UInt8)).flatten)) (anD_len hdf h32_w_16) 7 (by omega) b_23 a n cap bs hl (by omega) _ h_32) rfl ?_
 rintro _ w_36 ⟨la_33, lc_34, lx_35, rfl, h_37⟩
 refine qV rfl (R.extract rfl rfl) (qV rfl (R.extract rfl rfl) ?_)
 refine WL.storeA (b := b_1) (off := 0) [] [(32, (List.replicate 32 (0 : UInt8)).map vu8)] [(32, (anD id df dn (anU id u lg (3, ms, 9, ([] : List (List UInt8)).flatten)) (anL id df dn u lg (3, ms, 9, ([] : List (List UInt8)).flatten)) (2, anD id df dn u lg (3, ms, 9, ([] : List (List UInt8)).flatten), 7, [bs].flatten)).map vu8)] [] (ys := (anD id df dn (anU id u lg (3, ms, 9, ([] : List (List UInt8)).flatten)) (anL id df dn u lg (3, ms, 9, ([] : List (List UInt8)).flatten)) (2, anD id df dn u lg (3, ms, 9, ([] : List (List UInt8)).flatten), 7, [bs].flatten)).map vu8) h_37 rfl rfl Try.sizeOf23 Y10 (by decide) rfl rfl rfl rfl rfl rfl (SsOk.cons (SOk.u8 (anD_len hdf h32_w_36)) SsOk.nil) (fun w_38 h_39 => ?_)
 refine qA (vi 0) rfl rfl ?_
 refine WL.nil (thn_n (WP.ret ?_))
 refine ret_of Try.results47 (RV.cell rfl (h_39.loadA (cs := (anD id df dn (anU id u lg (3, ms, 9, ([] : List (List UInt8)).flatten)) (anL id df dn u lg (3, ms, 9, ([] : List (List UInt8)).flatten)) (2, anD id df dn u lg (3, ms, 9, ([] : List (List UInt8)).flatten), 7, [bs].flatten)).map vu8) Try.isAgg23 Try.sizeOf23 M10 rfl rfl) (RV.tmp (v := (vi 0)) rfl RV.nil)) ?_
 have h_55 := (((((((((((((((h_39.up J5).drop rfl).up J6).drop rfl).up J6).drop rfl).up J6).drop rfl).up J6).drop rfl).up J5).up J5).up J5).up J5).up J5).up J5
 exact ⟨_, _, _, rfl, h_55⟩

theorem c_atag_p {w00 : World} {L : List Ent} (id : Bool) (ob mp : Nat) (ms df : List UInt8) (hms : ms.length = 32) (da : Option Addr) (dn dc u : Nat) (hdf : df.length = 32 * dn) (la : Option Addr) (lc : Nat) (lx : List Value) (lg : Lg) (hu : u ≤ 500000) (hlg : lg.length ≤ 500000) (a : Option Addr) (n k cap cap2 : Nat) (bs : List UInt8) (hl : bs.length = n) (hn : n ≤ 100000) (hk : k ≤ n) (hkc : k ≤ cap) (w : World) (h_0 : HP w00 w (Ent.blk ob .nw 50 [(1, [(.bool id)]), (32, ms.map vu8), (1, [(.slice da dn dc)]), (1, [(vi ((u : Nat) : Int))]), (1, [(.map (some mp))]), (1, [(.slice la lg.length lc)])] :: Ent.row la lg.length lc 111 67 lx :: Ent.obj mp .nw (.map (mArr lg) lg.length) :: Ent.pin (sblks lx) (fun w => Lgs w lx lg) :: Ent.view da (df.map vu8) :: Ent.row a n cap2 5 1 (bs.map vu8) :: L)) :
  Cs Try.prog 47 [(.pointer (some ⟨ob, 0, none⟩)), (.slice a k cap)].toArray w (fun v w1 => ∃ la' lc' lx', v = (.tuple [(.agg ⟨(tgD id df dn u lg ms (bs.take k)).map vu8⟩), (vi 0)].toArray) ∧ HP w00 w1 (Ent.blk ob .nw 50 [(1, [(.bool id)]), (32, ms.map vu8), (1, [(.slice da dn dc)]), (1, [(vi (((tgU id df dn u lg ms (bs.take k)) : Nat) : Int))]), (1, [(.map (some mp))]), (1, [(.slice la' ((tgL id df dn u lg ms (bs.take k)).length) lc')])] :: Ent.row la' ((tgL id df dn u lg ms (bs.take k)).length) lc' 111 67 lx' :: Ent.obj mp .nw (.map (mArr (tgL id df dn u lg ms (bs.take k))) ((tgL id df dn u lg ms (bs.take k)).length)) :: Ent.pin (sblks lx') (fun w => Lgs w lx' (tgL id df dn u lg ms (bs.take k))) :: Ent.view da (df.map vu8) :: Ent.row a n cap2 5 1 (bs.map vu8) :: L)) := by
 refine Cs.of (n := 24) (args := [(pO ob 0), (.slice a k cap)]) Try.func47 rfl rfl rfl ?_
 refine WP.seq (WP.reg ?_)
 refine WL.alloc (segs := [(32, (List.replicate 32 (0 : UInt8)).map vu8)]) h_0 (zv Try.typeInfo23 rfl) rfl (SsOk.cons (SOk.u8 lr) SsOk.nil) rfl (fun b_1 w_2 h_3 => ?_)
 refine qA (vi 0) rfl rfl ?_
 refine WL.nil (thn_n (WP.seq (WP.reg ?_)))
 refine qM (pO ob 0) rfl rfl ?_
 have h_4 := HP_viewNil h_3
 have h_5 := h_4.slsNil
 have h_12 := ((((((h_5.up J1).up J1).up J7).up J7).up J7).up J7).up J7
 have h32_w_16 := Lgs.ok32 (h_12.ok _ M3).1
 refine WL.call Try.call20 rfl rfl (c_oKey id ob mp ms df hms da dn dc u hdf la lc lx lg (by first | omega | (have h1 := anU_le id u lg (tgQ1 ms); exact Nat.le_trans h1 (by omega))) (by first | omega | (have h1 := anL_le id df dn u lg (tgQ1 ms); exact Nat.le_trans h1 (by omega))) none 0 0 [] ([] : List (List UInt8)) rfl 9 (by omega) (by decide) (by omega) _ h_12) rfl ?_
 rintro _ w_16 ⟨la_13, lc_14, lx_15, rfl, h_17⟩
 refine qM (.tuple [(.agg ⟨(anD id df dn u lg (3, ms, 9, ([] : List (List UInt8)).flatten)).map vu8⟩), (vi 0)].toArray) rfl rfl (qV rfl (R.extract rfl rfl) (qV rfl (R.extract rfl rfl) ?_))
 refine WL.alloc (segs := [(32, (List.replicate 32 (0 : UInt8)).map vu8)]) h_17 (zv Try.typeInfo23 rfl) rfl (SsOk.cons (SOk.u8 lr) SsOk.nil) rfl (fun b_18 w_19 h_20 => ?_)
 refine WL.storeA (b := b_18) (off := 0) [] [(32, (List.replicate 32 (0 : UInt8)).map vu8)] [(32, (anD id df dn u lg (3, ms, 9, ([] : List (List UInt8)).flatten)).map vu8)] [] (ys := (anD id df dn u lg (3, ms, 9, ([] : List (List UInt8)).flatten)).map vu8) h_20 rfl rfl Try.sizeOf23 At.h (by decide) rfl rfl rfl rfl rfl rfl (SsOk.cons (SOk.u8 (anD_len hdf h32_w_16)) SsOk.nil) (fun w_21 h_22 => ?_)
 refine qA (vi 0) rfl rfl ?_
 refine WL.nil (thn_n (WP.seq (WP.seq (WP.reg ?_))))
 refine qM (vi 0) rfl rfl (qV rfl (R.bin rfl rfl (bi_neq (r := false) (by decide))) ?_)
 refine WL.nil (thn_n ?_)
 refine WP.condF rfl ?_
 refine WP.skip (thn_n (WP.seq (WP.reg ?_)))
 refine qM (pO ob 0) rfl rfl (qV rfl (R.loadA (b := b_18) (off := 0) [] [(32, (anD id df dn u lg (3, ms, 9, ([] : List (List UInt8)).flatten)).map vu8)] [] (cs := (anD id df dn u lg (3, ms, 9, ([] : List (List UInt8)).flatten)).map vu8) rfl Try.isAgg23 Try.sizeOf23 (h_22.ok _ M0) rfl rfl rfl rfl) (qM (.slice a k cap) rfl rfl ?_))
 refine WL.buildSl (vs := [(0, (.slice a k cap))]) (cs := [(.slice a k cap)]) h_22 Try.underlying36 Try.sizeOf37 (zv Try.typeInfo37 rfl) rfl rfl (by kernel_rfl) rfl (by simp [Value.oneCell']) rfl rfl (fun b_23 w_24 h_25 => ?_)
 have h_32 := ((((((h_25.up J10).up J1).up J7).up J7).up J7).up J7).up J7
 have h32_w_36 := Lgs.ok32 (h_32.ok _ M3).1
 refine WL.call Try.call21 rfl rfl (c_oTag1p id ob mp ms df hms da dn dc (anU id u lg (3, ms, 9, ([] : List (List UInt8)).flatten)) hdf la_13 lc_14 lx_15 (anL id df dn u lg (3, ms, 9, ([] : List (List UInt8)).flatten)) (by first | omega | (have h1 := anU_le id u lg (tgQ1 ms); exact Nat.le_trans h1 (by omega))) (by first | omega | (have h1 := anL_le id df dn u lg (tgQ1 ms); exact Nat.le_trans h1 (by omega))) (anD id df dn u lg (3, ms, 9, ([] : List (List UInt8)).flatten)) (anD_len hdf h32_w_16) 7 (by omega) b_23 a n k cap cap2 bs hl (by omega) hkc (by omega) _ h_32) rfl ?_
 rintro _ w_36 ⟨la_33, lc_34, lx_35, rfl, h_37⟩
 refine qV rfl (R.extract rfl rfl) (qV rfl (R.extract rfl rfl) ?_)
 refine WL.storeA (b := b_1) (off := 0) [] [(32, (List.replicate 32 (0 : UInt8)).map vu8)] [(32, (anD id df dn (anU id u lg (3, ms, 9, ([] : List (List UInt8)).flatten)) (anL id df dn u lg (3, ms, 9, ([] : List (List UInt8)).flatten)) (2, anD id df dn u lg (3, ms, 9, ([] : List (List UInt8)).flatten), 7, [bs.take k].flatten)).map vu8)] [] (ys := (anD id df dn (anU id u lg (3, ms, 9, ([] : List (List UInt8)).flatten)) (anL id df dn u lg (3, ms, 9, ([] : List (List UInt8)).flatten)) (2, anD id df dn u lg (3, ms, 9, ([] : List (List UInt8)).flatten), 7, [bs.take k].flatten)).map vu8) h_37 rfl rfl Try.sizeOf23 Y10 (by decide) rfl rfl rfl rfl rfl rfl (SsOk.cons (SOk.u8 (anD_len hdf h32_w_36)) SsOk.nil) (fun w_38 h_39 => ?_)
 refine qA (vi 0) rfl rfl ?_
 refine WL.nil (thn_n (WP.ret ?_))
 refine ret_of Try.results47 (RV.cell rfl (h_39.loadA (cs := (anD id df dn (anU id u lg (3, ms, 9, ([] : List (List UInt8)).flatten)) (anL id df dn u lg (3, ms, 9, ([] : List (List UInt8)).flatten)) (2, anD id df dn u lg (3, ms, 9, ([] : List (List UInt8)).flatten), 7, [bs.take k].flatten)).map vu8) Try.isAgg23 Try.sizeOf23 M10 rfl rfl) (RV.tmp (v := (vi 0)) rfl RV.nil)) ?_
 have h_55 := (((((((((((((((h_39.up J5).drop rfl).up J6).drop rfl).up J6).drop rfl).up J6).drop rfl).up J6).drop rfl).up J5).up J5).up J5).up J5).up J5).up J5
 exact ⟨_, _, _, rfl, h_55⟩

theorem c_Iss_nil (ins : UInt64) (me ch : List UInt8) (hme : me.length = 32) (hch : ch.length = 32) (w : World) :
  Cs Try.prog 13 [(.pointer none), (.agg ⟨flat [(1, [(vu64 ins)]), (32, me.map vu8), (32, ch.map vu8)]⟩)].toArray w (fun v w1 => v = (.tuple [(.slice none 0 0), (vi 1)].toArray) ∧ Chg w w1 []) := by
 refine Cs.of (n := 23) (args := [(.pointer none), (.agg ⟨flat [(1, [(vu64 ins)]), (32, me.map vu8), (32, ch.map vu8)]⟩)]) Try.func13 rfl rfl rfl ?_
 have h_0 := HP.init w
 refine WP.seq (WP.reg ?_)
 refine WL.box (v := (.agg ⟨flat [(1, [(vu64 ins)]), (32, me.map vu8), (32, ch.map vu8)]⟩)) (segs := [(1, [(vu64 ins)]), (32, me.map vu8), (32, ch.map vu8)]) h_0 rfl rfl (SsOk.cons (SOk.v rfl) (SsOk.cons (SOk.u8 hme) (SsOk.cons (SOk.u8 hch) SsOk.nil))) rfl (fun b_1 w_2 h_3 => ?_)
 refine qA (.slice none 0 0) rfl rfl (qA (vi 0) rfl rfl ?_)
 refine WL.nil (thn_n (WP.seq (WP.reg ?_)))
 refine qV rfl (R.loadA (b := b_1) (off := 0) [] [(1, [(vu64 ins)]), (32, me.map vu8), (32, ch.map vu8)] [] (cs := flat [(1, [(vu64 ins)]), (32, me.map vu8), (32, ch.map vu8)]) rfl Try.isAgg30 Try.sizeOf30 (h_3.ok _ M0) rfl rfl rfl rfl) ?_
 refine WL.call Try.call46 rfl rfl (c_rBytes ins me ch hme hch _) rfl ?_
 rintro _ w_6 ⟨a_4, cap_5, rfl, hc_7, ho_8⟩
 have h_9 := h_3.gotRow hc_7 ho_8
 refine qA (.slice a_4 80 cap_5) rfl rfl ?_
 refine WL.nil (thn_n (WP.seq (WP.reg ?_)))
 refine qM (.pointer none) rfl rfl (qM (.slice a_4 80 cap_5) rfl rfl ?_)
 refine WL.call Try.call47 rfl rfl (c_atag_nil a_4 80 cap_5 _ ) rfl ?_
 rintro _ w_11 ⟨rfl, hc_10⟩
 have h_12 := h_9.same hc_10
 refine qM (.tuple [(.agg ⟨(List.replicate 32 (0 : UInt8)).map vu8⟩), (vi 1)].toArray) rfl rfl (qV rfl (R.extract rfl rfl) (qV rfl (R.extract rfl rfl) ?_))
 refine WL.alloc (segs := [(32, (List.replicate 32 (0 : UInt8)).map vu8)]) h_12 (zv Try.typeInfo23 rfl) rfl (SsOk.cons (SOk.u8 lr) SsOk.nil) rfl (fun b_13 w_14 h_15 => ?_)
 refine WL.storeA (b := b_13) (off := 0) [] [(32, (List.replicate 32 (0 : UInt8)).map vu8)] [(32, (List.replicate 32 (0 : UInt8)).map vu8)] [] (ys := (List.replicate 32 (0 : UInt8)).map vu8) h_15 rfl rfl Try.sizeOf23 At.h (by decide) rfl rfl rfl rfl rfl rfl (SsOk.cons (SOk.u8 lr) SsOk.nil) (fun w_16 h_17 => ?_)
 refine qA (vi 1) rfl rfl ?_
 refine WL.nil (thn_n (WP.seq (WP.seq (WP.reg ?_))))
 refine qM (vi 1) rfl rfl (qV rfl (R.bin rfl rfl (bi_neq (r := true) (by decide))) ?_)
 refine WL.nil (thn_n ?_)
 refine WP.condT rfl ?_
 refine WP.seq (WP.reg ?_)
 refine qM (vi 1) rfl rfl (qA (.slice none 0 0) rfl rfl (qA (vi 1) rfl rfl ?_))
 refine WL.nil (thn_n (WP.ret (thn_r ?_)))
 refine ret_of Try.results13 (RV.tmp (v := (.slice none 0 0)) rfl (RV.tmp (v := (vi 1)) rfl RV.nil)) ?_
 exact ⟨rfl, h_17.chgS⟩

theorem c_Iss {w00 : World} {L : List Ent} (id : Bool) (ob mp : Nat) (ms df : List UInt8) (hms : ms.length = 32) (da : Option Addr) (dn dc u : Nat) (hdf : df.length = 32 * dn) (la : Option Addr) (lc : Nat) (lx : List Value) (lg : Lg) (hu : u ≤ 500000) (hlg : lg.length ≤ 500000) (ins : UInt64) (me ch : List UInt8) (hme : me.length = 32) (hch : ch.length = 32) (w : World) (h_0 : HP w00 w (Ent.blk ob .nw 50 [(1, [(.bool id)]), (32, ms.map vu8), (1, [(.slice da dn dc)]), (1, [(vi ((u : Nat) : Int))]), (1, [(.map (some mp))]), (1, [(.slice la lg.length lc)])] :: Ent.row la lg.length lc 111 67 lx :: Ent.obj mp .nw (.map (mArr lg) lg.length) :: Ent.pin (sblks lx) (fun w => Lgs w lx lg) :: Ent.view da (df.map vu8) :: L)) :
  Cs Try.prog 13 [(.pointer (some ⟨ob, 0, none⟩)), (.agg ⟨flat [(1, [(vu64 ins)]), (32, me.map vu8), (32, ch.map vu8)]⟩)].toArray w (fun v w1 => ∃ ra rc la' lc' lx', v = .tuple [.slice ra 112 rc, vi 0].toArray ∧ HP w00 w1 (Ent.row ra 112 rc 5 1 ((repB ins me ch ++ tgD id df dn u lg ms (repB ins me ch)).map vu8) :: Ent.blk ob .nw 50 [(1, [(.bool id)]), (32, ms.map vu8), (1, [(.slice da dn dc)]), (1, [(vi (((tgU id df dn u lg ms (repB ins me ch)) : Nat) : Int))]), (1, [(.map (some mp))]), (1, [(.slice la' ((tgL id df dn u lg ms (repB ins me ch)).length) lc')])] :: Ent.row la' ((tgL id df dn u lg ms (repB ins me ch)).length) lc' 111 67 lx' :: Ent.obj mp .nw (.map (mArr (tgL id df dn u lg ms (repB ins me ch))) ((tgL id df dn u lg ms (repB ins me ch)).length)) :: Ent.pin (sblks lx') (fun w => Lgs w lx' (tgL id df dn u lg ms (repB ins me ch))) :: Ent.view da (df.map vu8) :: L)) := by
 refine Cs.of (n := 23) (args := [(pO ob 0), (.agg ⟨flat [(1, [(vu64 ins)]), (32, me.map vu8), (32, ch.map vu8)]⟩)]) Try.func13 rfl rfl rfl ?_
 refine WP.seq (WP.reg ?_)
 refine WL.box (v := (.agg ⟨flat [(1, [(vu64 ins)]), (32, me.map vu8), (32, ch.map vu8)]⟩)) (segs := [(1, [(vu64 ins)]), (32, me.map vu8), (32, ch.map vu8)]) h_0 rfl rfl (SsOk.cons (SOk.v rfl) (SsOk.cons (SOk.u8 hme) (SsOk.cons (SOk.u8 hch) SsOk.nil))) rfl (fun b_1 w_2 h_3 => ?_)
 refine qA (.slice none 0 0) rfl rfl (qA (vi 0) rfl rfl ?_)
 refine WL.nil (thn_n (WP.seq (WP.reg ?_)))
 refine qV rfl (R.loadA (b := b_1) (off := 0) [] [(1, [(vu64 ins)]), (32, me.map vu8), (32, ch.map vu8)] [] (cs := flat [(1, [(vu64 ins)]), (32, me.map vu8), (32, ch.map vu8)]) rfl Try.isAgg30 Try.sizeOf30 (h_3.ok _ M0) rfl rfl rfl rfl) ?_
 refine WL.call Try.call46 rfl rfl (c_rBytes ins me ch hme hch _) rfl ?_
 rintro _ w_6 ⟨a_4, cap_5, rfl, hc_7, ho_8⟩
 have h_9 := h_3.gotRow hc_7 ho_8
 refine qA (.slice a_4 80 cap_5) rfl rfl ?_
 refine WL.nil (thn_n (WP.seq (WP.reg ?_)))
 refine qM (pO ob 0) rfl rfl (qM (.slice a_4 80 cap_5) rfl rfl ?_)
 have h_14 := ((((h_9.up J6).up J6).up J6).up J6).up J6
 have h32_w_18 := Lgs.ok32 (h_14.ok _ M3).1
 refine WL.call Try.call47 rfl rfl (c_atag_r id ob mp ms df hms da dn dc u hdf la lc lx lg hu hlg a_4 80 cap_5 (repB ins me ch) (repB_len hme hch) (by omega) _ h_14) rfl ?_
 rintro _ w_18 ⟨la_15, lc_16, lx_17, rfl, h_19⟩
 refine qM (.tuple [(.agg ⟨(tgD id df dn u lg ms (repB ins me ch)).map vu8⟩), (vi 0)].toArray) rfl rfl (qV rfl (R.extract rfl rfl) (qV rfl (R.extract rfl rfl) ?_))
 refine WL.alloc (segs := [(32, (List.replicate 32 (0 : UInt8)).map vu8)]) h_19 (zv Try.typeInfo23 rfl) rfl (SsOk.cons (SOk.u8 lr) SsOk.nil) rfl (fun b_20 w_21 h_22 => ?_)
 refine WL.storeA (b := b_20) (off := 0) [] [(32, (List.replicate 32 (0 : UInt8)).map vu8)] [(32, (tgD id df dn u lg ms (repB ins me ch)).map vu8)] [] (ys := (tgD id df dn u lg ms (repB ins me ch)).map vu8) h_22 rfl rfl Try.sizeOf23 At.h (by decide) rfl rfl rfl rfl rfl rfl (SsOk.cons (SOk.u8 (tgD_len (dn := dn) hdf h32_w_18)) SsOk.nil) (fun w_23 h_24 => ?_)
 refine qA (vi 0) rfl rfl ?_
 refine WL.nil (thn_n (WP.seq (WP.seq (WP.reg ?_))))
 refine qM (vi 0) rfl rfl (qV rfl (R.bin rfl rfl (bi_neq (r := false) (by decide))) ?_)
 refine WL.nil (thn_n ?_)
 refine WP.condF rfl ?_
 refine WP.skip (thn_n (WP.seq (WP.reg ?_)))
 refine qM (.slice a_4 80 cap_5) rfl rfl (qV rfl (R.sliceA (b := b_20) (off := 0) (off' := 0) (l := 0) (h := 32) rfl EvB.dflt EvB.dflt (by decide) (by decide) Try.underlying23 Try.sizeOf5 rfl) ?_)
 refine WL.append (km := 112) (xs := (repB ins me ch).map vu8) (ys := (tgD id df dn u lg ms (repB ins me ch)).map vu8) (zs := ((repB ins me ch) ++ (tgD id df dn u lg ms (repB ins me ch))).map vu8) h_24 rfl rfl el37 (viewB (h_24.ok _ M0) Sg.h) ((len_map (tgD_len (dn := dn) hdf h32_w_18)).trans (Nat.mul_one _).symm) (one_u8 _) (by simp only [List.map_append, List.map_nil]) rfl (by omega) (by omega) (fun _ _ => Y6) rfl (fun a_25 c_26 w_27 h_28 => ?_)
 refine qA (.slice a_25 112 c_26) rfl rfl (qA (vi 0) rfl rfl ?_)
 refine WL.nil (thn_n (WP.ret ?_))
 refine ret_of Try.results13 (RV.tmp (v := (.slice a_25 112 c_26)) rfl (RV.tmp (v := (vi 0)) rfl RV.nil)) ?_
 have h_37 := ((((((((h_28.drop rfl).up J6).drop rfl).up J4).up J4).up J4).up J4).up J4).up J5
 exact ⟨_, _, _, _, _, rfl, h_37⟩

theorem c_Spl_len (a : Option Addr) (n cap : Nat) (hn : n ≠ 112) (w : World) :
  Cs Try.prog 18 [(.slice a n cap)].toArray w (fun v w1 => v = (.tuple [(.agg ⟨flat [(1, [(vu64 0)]), (32, (List.replicate 32 (0 : UInt8)).map vu8), (32, (List.replicate 32 (0 : UInt8)).map vu8)]⟩), (.agg ⟨(List.replicate 32 (0 : UInt8)).map vu8⟩), (vi 4)].toArray) ∧ Chg w w1 []) := by
 refine Cs.of (n := 34) (args := [(.slice a n cap)]) Try.func18 rfl rfl rfl ?_
 have h_0 := HP.init w
 refine WP.seq (WP.reg ?_)
 refine WL.alloc (segs := [(1, [(vu64 0)]), (32, (List.replicate 32 (0 : UInt8)).map vu8), (32, (List.replicate 32 (0 : UInt8)).map vu8)]) h_0 (zv Try.typeInfo30 rfl) rfl (SsOk.cons (SOk.v rfl) (SsOk.cons (SOk.u8 lr) (SsOk.cons (SOk.u8 lr) SsOk.nil))) rfl (fun b_1 w_2 h_3 => ?_)
 refine WL.alloc (segs := [(32, (List.replicate 32 (0 : UInt8)).map vu8)]) h_3 (zv Try.typeInfo23 rfl) rfl (SsOk.cons (SOk.u8 lr) SsOk.nil) rfl (fun b_4 w_5 h_6 => ?_)
 refine qA (vi 0) rfl rfl ?_
 refine WL.nil (thn_n (WP.seq (WP.seq (WP.reg ?_))))
 refine qM (.slice a n cap) rfl rfl (qV rfl (R.lenS (a := a) (m := n) rfl rfl Try.underlying37) ?_)
 refine WL.call Try.call19 rfl rfl (c_aSize  _ ) rfl ?_
 rintro _ w_8 ⟨rfl, hc_7⟩
 have h_9 := h_6.same hc_7
 refine qV rfl (R.bin rfl rfl (bi_neq (r := decide ((((n : Nat) : Int) : Int) ≠ 112)) rfl)) ?_
 refine WL.nil (thn_n ?_)
 refine WP.condT (congrArg Value.bool (decide_eq_true (by omega))) ?_
 refine WP.seq (WP.reg ?_)
 refine qV rfl (R.buildS (pl := [(0, 1), (1, 32), (33, 32)]) (zs := [(1, [(vu64 0)]), (32, (List.replicate 32 (0 : UInt8)).map vu8), (32, (List.replicate 32 (0 : UInt8)).map vu8)]) (vs := []) (out := [(1, [(vu64 0)]), (32, (List.replicate 32 (0 : UInt8)).map vu8), (32, (List.replicate 32 (0 : UInt8)).map vu8)]) (cs := flat [(1, [(vu64 0)]), (32, (List.replicate 32 (0 : UInt8)).map vu8), (32, (List.replicate 32 (0 : UInt8)).map vu8)]) Try.underlying30 (zv Try.typeInfo30 rfl) rfl (SsOk.cons (SOk.v rfl) (SsOk.cons (SOk.u8 lr) (SsOk.cons (SOk.u8 lr) SsOk.nil))) (pl30 _ Try.underlying30) rfl FillR.nil rfl) (qV rfl (R.buildA (vs := []) (cs := (List.replicate 32 (0 : UInt8)).map vu8) Try.underlying23 Try.sizeOf5 (zv Try.typeInfo23 rfl) rfl rfl) ?_)
 refine WL.storeA (b := b_1) (off := 0) [] [(1, [(vu64 0)]), (32, (List.replicate 32 (0 : UInt8)).map vu8), (32, (List.replicate 32 (0 : UInt8)).map vu8)] [(1, [(vu64 0)]), (32, (List.replicate 32 (0 : UInt8)).map vu8), (32, (List.replicate 32 (0 : UInt8)).map vu8)] [] (ys := flat [(1, [(vu64 0)]), (32, (List.replicate 32 (0 : UInt8)).map vu8), (32, (List.replicate 32 (0 : UInt8)).map vu8)]) h_9 rfl rfl Try.sizeOf30 Y1 (by decide) rfl rfl rfl rfl rfl rfl (SsOk.cons (SOk.v rfl) (SsOk.cons (SOk.u8 lr) (SsOk.cons (SOk.u8 lr) SsOk.nil))) (fun w_11 h_12 => ?_)
 refine WL.storeA (b := b_4) (off := 0) [] [(32, (List.replicate 32 (0 : UInt8)).map vu8)] [(32, (List.replicate 32 (0 : UInt8)).map vu8)] [] (ys := (List.replicate 32 (0 : UInt8)).map vu8) h_12 rfl rfl Try.sizeOf23 At.h (by decide) rfl rfl rfl rfl rfl rfl (SsOk.cons (SOk.u8 lr) SsOk.nil) (fun w_13 h_14 => ?_)
 refine qA (vi 4) rfl rfl ?_
 refine WL.nil (thn_n (WP.ret (thn_r ?_)))
 refine ret_of Try.results18 (RV.cell rfl (h_14.loadA (cs := flat [(1, [(vu64 0)]), (32, (List.replicate 32 (0 : UInt8)).map vu8), (32, (List.replicate 32 (0 : UInt8)).map vu8)]) Try.isAgg30 Try.sizeOf30 M1 rfl rfl) (RV.cell rfl (h_14.loadA (cs := (List.replicate 32 (0 : UInt8)).map vu8) Try.isAgg23 Try.sizeOf23 M0 rfl rfl) (RV.tmp (v := (vi 4)) rfl RV.nil))) ?_
 exact ⟨rfl, h_14.chgS⟩

theorem c_Spl_ok (a : Option Addr) (cap : Nat) (bs : List UInt8) (hl : bs.length = 112) (hcap : 112 ≤ cap) (hm : ((bs.drop 0).take 80).take 8 = markB) (w : World) (hv : View w a (bs.map vu8)) :
  Cs Try.prog 18 [(.slice a 112 cap)].toArray w (fun v w1 => v = (.tuple [(.agg ⟨flat [(1, [(vu64 (ins_of ((bs.drop 0).take 80)))]), (32, (me_of ((bs.drop 0).take 80)).map vu8), (32, (ch_of ((bs.drop 0).take 80)).map vu8)]⟩), (.agg ⟨((bs.drop 80).take 32).map vu8⟩), (vi 0)].toArray) ∧ Chg w w1 []) := by
 refine Cs.of (n := 34) (args := [(.slice a 112 cap)]) Try.func18 rfl rfl rfl ?_
 have h_0 := HP.init w
 have h_00 := h_0.old (View.arg hv) (fun f hf => by cases hf)
 refine WP.seq (WP.reg ?_)
 refine WL.alloc (segs := [(1, [(vu64 0)]), (32, (List.replicate 32 (0 : UInt8)).map vu8), (32, (List.replicate 32 (0 : UInt8)).map vu8)]) h_00 (zv Try.typeInfo30 rfl) rfl (SsOk.cons (SOk.v rfl) (SsOk.cons (SOk.u8 lr) (SsOk.cons (SOk.u8 lr) SsOk.nil))) rfl (fun b_1 w_2 h_3 => ?_)
 refine WL.alloc (segs := [(32, (List.replicate 32 (0 : UInt8)).map vu8)]) h_3 (zv Try.typeInfo23 rfl) rfl (SsOk.cons (SOk.u8 lr) SsOk.nil) rfl (fun b_4 w_5 h_6 => ?_)
 refine qA (vi 0) rfl rfl ?_
 refine WL.nil (thn_n (WP.seq (WP.seq (WP.reg ?_))))
 refine qM (.slice a 112 cap) rfl rfl (qV rfl (R.lenS (a := a) (m := 112) rfl rfl Try.underlying37) ?_)
 refine WL.call Try.call19 rfl rfl (c_aSize  _ ) rfl ?_
 rintro _ w_8 ⟨rfl, hc_7⟩
 have h_9 := h_6.same hc_7
 refine qV rfl (R.bin rfl rfl (bi_neq (r := false) (by decide))) ?_
 refine WL.nil (thn_n ?_)
 refine WP.condF rfl ?_
 refine WP.skip (thn_n (WP.seq (WP.reg ?_)))
 refine WL.call Try.call49 rfl rfl (c_rSize  _ ) rfl ?_
 rintro _ w_11 ⟨rfl, hc_10⟩
 have h_12 := h_9.same hc_10
 refine qA (vi 80) rfl rfl ?_
 refine WL.nil (thn_n (WP.seq (WP.reg ?_)))
 refine qM (.slice a 112 cap) rfl rfl (qM (vi 80) rfl rfl (qM (vi 80) rfl rfl (qV rfl (R.sliceS3 (a := a) (len := 112) (l := 0) (h := 80) (m := 80) rfl EvB.dflt rfl rfl rfl rfl (by decide) (by decide) (by omega) Try.underlying37 Try.sizeOf5) ?_)))
 refine WL.call Try.call51 rfl rfl (c_Of_ok (slA a 0 80 1) 80 ((bs.drop 0).take 80) (subLen (K := 112) hl (by omega) : List.length ((bs.drop 0).take 80) = 80) hm _ (View.slM (l := 0) (m := 80) (k := 80) (viewV (h_12.ok _ M2)) (by omega))) rfl ?_
 rintro _ w_14 ⟨rfl, hc_13⟩
 have h_15 := h_12.same hc_13
 refine qM (.tuple [(.agg ⟨flat [(1, [(vu64 (ins_of ((bs.drop 0).take 80)))]), (32, (me_of ((bs.drop 0).take 80)).map vu8), (32, (ch_of ((bs.drop 0).take 80)).map vu8)]⟩), (vi 0)].toArray) rfl rfl (qV rfl (R.extract rfl rfl) (qV rfl (R.extract rfl rfl) ?_))
 refine WL.alloc (segs := [(1, [(vu64 0)]), (32, (List.replicate 32 (0 : UInt8)).map vu8), (32, (List.replicate 32 (0 : UInt8)).map vu8)]) h_15 (zv Try.typeInfo30 rfl) rfl (SsOk.cons (SOk.v rfl) (SsOk.cons (SOk.u8 lr) (SsOk.cons (SOk.u8 lr) SsOk.nil))) rfl (fun b_16 w_17 h_18 => ?_)
 refine WL.storeA (b := b_16) (off := 0) [] [(1, [(vu64 0)]), (32, (List.replicate 32 (0 : UInt8)).map vu8), (32, (List.replicate 32 (0 : UInt8)).map vu8)] [(1, [(vu64 (ins_of ((bs.drop 0).take 80)))]), (32, (me_of ((bs.drop 0).take 80)).map vu8), (32, (ch_of ((bs.drop 0).take 80)).map vu8)] [] (ys := flat [(1, [(vu64 (ins_of ((bs.drop 0).take 80)))]), (32, (me_of ((bs.drop 0).take 80)).map vu8), (32, (ch_of ((bs.drop 0).take 80)).map vu8)]) h_18 rfl rfl Try.sizeOf30 At.h (by decide) rfl rfl rfl rfl rfl rfl (SsOk.cons (SOk.v rfl) (SsOk.cons (SOk.u8 (me_len (by rw [(subLen (K := 112) hl (by omega) : List.length ((bs.drop 0).take 80) = 80)]; decide))) (SsOk.cons (SOk.u8 (ch_len (by rw [(subLen (K := 112) hl (by omega) : List.length ((bs.drop 0).take 80) = 80)]; decide))) SsOk.nil))) (fun w_19 h_20 => ?_)
 refine qA (vi 0) rfl rfl ?_
 refine WL.nil (thn_n (WP.seq (WP.seq (WP.reg ?_))))
 refine qM (vi 0) rfl rfl (qV rfl (R.bin rfl rfl (bi_neq (r := false) (by decide))) ?_)
 refine WL.nil (thn_n ?_)
 refine WP.condF rfl ?_
 refine WP.skip (thn_n (WP.seq ?_))
 refine WP.drawT (SL w.heap.size [.blk b_16 .nw 30 [(1, [(vu64 (ins_of ((bs.drop 0).take 80)))]), (32, (me_of ((bs.drop 0).take 80)).map vu8), (32, (ch_of ((bs.drop 0).take 80)).map vu8)], .view a (bs.map vu8)]) (.q 0 (.q 1 (.q 2 (.q 3 (.q 4 (.q 5 (.s 6 (.s 7 (.q 8 .nil))))))))) (by kernel_rfl) (by kernel_rfl) rfl (by kernel_rfl) (fun w_21 hc_23 => (SL.cons ((h_20.same hc_23).ok _ M0) (SL.cons ((h_20.same hc_23).ok _ M3) (SL.nil _ _)))) (fun w_21 hc_23 => ?_)
 have h_22 := h_20.same hc_23
 refine qT rfl rfl (fun wq hS => R.loadA (b := b_16) (off := 0) [] [(1, [(vu64 (ins_of ((bs.drop 0).take 80)))]), (32, (me_of ((bs.drop 0).take 80)).map vu8), (32, (ch_of ((bs.drop 0).take 80)).map vu8)] [] (cs := flat [(1, [(vu64 (ins_of ((bs.drop 0).take 80)))]), (32, (me_of ((bs.drop 0).take 80)).map vu8), (32, (ch_of ((bs.drop 0).take 80)).map vu8)]) rfl Try.isAgg30 Try.sizeOf30 (hS _ M0) rfl rfl rfl rfl) ?_
 refine qT rfl rfl (fun wq hS => R.move (v := (.slice a 112 cap)) rfl) ?_
 refine qT rfl rfl (fun wq hS => R.move (v := (vi 80)) rfl) ?_
 refine qT rfl rfl (fun wq hS => R.sliceS (a := a) (len := 112) (l := 80) (h := 112) rfl (EvB.it (l := 80) rfl rfl) EvB.dflt (by decide) (by omega) Try.underlying37 Try.sizeOf5) ?_
 refine qT rfl rfl (fun wq hS => R.s2ap (a := slA a 80 cap 1) (k := 32) rfl Try.underlying23 (by decide)) ?_
 refine qT rfl rfl (fun wq hS => R.loadGA (a := slA a 80 cap 1) (i := 0) (xs := ((bs.drop 80).take 32).map vu8) (cs := ((bs.drop 80).take 32).map vu8) (congrArg Value.pointer (a_some0 (View.slM (l := 80) (m := cap) (k := 32) (viewV (hS _ M1)) (by omega)) (by rw [len_map (subLen (K := 112) hl (by omega) : List.length ((bs.drop 80).take 32) = 32)]; decide))) (View.slM (l := 80) (m := cap) (k := 32) (viewV (hS _ M1)) (by omega)) Try.isAgg23 Try.sizeOf23 (by rw [List.drop_zero, List.take_of_length_le (by rw [len_map (subLen (K := 112) hl (by omega) : List.length ((bs.drop 80).take 32) = 32)]; exact Nat.le_refl _)]) (len_map (subLen (K := 112) hl (by omega) : List.length ((bs.drop 80).take 32) = 32)) (by decide)) ?_
 refine WT.s (Op1.one rfl (Wn.no rfl) ?_)
 refine WL.storeA (b := b_1) (off := 0) [] [(1, [(vu64 0)]), (32, (List.replicate 32 (0 : UInt8)).map vu8), (32, (List.replicate 32 (0 : UInt8)).map vu8)] [(1, [(vu64 (ins_of ((bs.drop 0).take 80)))]), (32, (me_of ((bs.drop 0).take 80)).map vu8), (32, (ch_of ((bs.drop 0).take 80)).map vu8)] [] (ys := flat [(1, [(vu64 (ins_of ((bs.drop 0).take 80)))]), (32, (me_of ((bs.drop 0).take 80)).map vu8), (32, (ch_of ((bs.drop 0).take 80)).map vu8)]) h_22 rfl rfl Try.sizeOf30 Y2 (by decide) rfl rfl rfl rfl rfl rfl (SsOk.cons (SOk.v rfl) (SsOk.cons (SOk.u8 (me_len (by rw [(subLen (K := 112) hl (by omega) : List.length ((bs.drop 0).take 80) = 80)]; decide))) (SsOk.cons (SOk.u8 (ch_len (by rw [(subLen (K := 112) hl (by omega) : List.length ((bs.drop 0).take 80) = 80)]; decide))) SsOk.nil))) (fun w_24 h_25 => ?_)
 refine WL.nil ?_
 refine ⟨(SL.cons (h_25.ok _ M0) (SL.cons (h_25.ok _ M3) (SL.nil _ _))), ?_⟩
 refine WT.s (Op1.one rfl (Wn.no rfl) ?_)
 refine WL.storeA (b := b_4) (off := 0) [] [(32, (List.replicate 32 (0 : UInt8)).map vu8)] [(32, ((bs.drop 80).take 32).map vu8)] [] (ys := ((bs.drop 80).take 32).map vu8) h_25 rfl rfl Try.sizeOf23 Y1 (by decide) rfl rfl rfl rfl rfl rfl (SsOk.cons (SOk.u8 (subLen (K := 112) hl (by omega) : List.length ((bs.drop 80).take 32) = 32)) SsOk.nil) (fun w_26 h_27 => ?_)
 refine WL.nil ?_
 refine ⟨(SL.cons (h_27.ok _ M0) (SL.cons (h_27.ok _ M3) (SL.nil _ _))), ?_⟩
 refine qT rfl rfl (fun wq hS => R.assign (v := (vi 0)) rfl) ?_
 refine WT.nil (thn_n (WP.ret ?_))
 refine ret_of Try.results18 (RV.cell rfl (h_27.loadA (cs := flat [(1, [(vu64 (ins_of ((bs.drop 0).take 80)))]), (32, (me_of ((bs.drop 0).take 80)).map vu8), (32, (ch_of ((bs.drop 0).take 80)).map vu8)]) Try.isAgg30 Try.sizeOf30 M2 rfl rfl) (RV.cell rfl (h_27.loadA (cs := ((bs.drop 80).take 32).map vu8) Try.isAgg23 Try.sizeOf23 M1 rfl rfl) (RV.tmp (v := (vi 0)) rfl RV.nil))) ?_
 exact ⟨rfl, h_27.chgS⟩

theorem c_Ver_len (id : Bool) (ob mp : Nat) (ms : List UInt8) (hms : ms.length = 32) (da : Option Addr) (dn dc u : Nat) (la : Option Addr) (ln lc : Nat) (a : Option Addr) (n cap : Nat) (hn : n ≠ 112) (w : World) (hcb : (Ent.blk ob .ro 50 [(1, [(.bool id)]), (32, ms.map vu8), (1, [(.slice da dn dc)]), (1, [(vi ((u : Nat) : Int))]), (1, [(.map (some mp))]), (1, [(.slice la ln lc)])]).ok w.heap.size w) :
  Cs Try.prog 15 [(.pointer (some ⟨ob, 0, none⟩)), (.slice a n cap)].toArray w (fun v w1 => v = (.tuple [(.agg ⟨flat [(1, [(vu64 0)]), (32, (List.replicate 32 (0 : UInt8)).map vu8), (32, (List.replicate 32 (0 : UInt8)).map vu8)]⟩), (.bool false), (vi 4)].toArray) ∧ Chg w w1 []) := by
 refine Cs.of (n := 48) (args := [(pO ob 0), (.slice a n cap)]) Try.func15 rfl rfl rfl ?_
 have h_0 := HP.init w
 have h_00 := h_0.old hcb (fun f hf => by cases hf)
 refine WP.seq (WP.reg ?_)
 refine WL.alloc (segs := [(1, [(vu64 0)]), (32, (List.replicate 32 (0 : UInt8)).map vu8), (32, (List.replicate 32 (0 : UInt8)).map vu8)]) h_00 (zv Try.typeInfo30 rfl) rfl (SsOk.cons (SOk.v rfl) (SsOk.cons (SOk.u8 lr) (SsOk.cons (SOk.u8 lr) SsOk.nil))) rfl (fun b_1 w_2 h_3 => ?_)
 refine qA (.bool false) rfl rfl (qA (vi 0) rfl rfl ?_)
 refine WL.nil (thn_n (WP.seq (WP.seq (WP.reg ?_))))
 refine qM (pO ob 0) rfl rfl (qV rfl (R.buildS (pl := [(0, 1), (1, 32), (33, 1), (34, 1)]) (zs := [(1, [(vi 0)]), (32, (List.replicate 32 (0 : UInt8)).map vu8), (1, [(vi 0)]), (1, [(.slice none 0 0)])]) (vs := []) (out := [(1, [(vi 0)]), (32, (List.replicate 32 (0 : UInt8)).map vu8), (1, [(vi 0)]), (1, [(.slice none 0 0)])]) (cs := flat [(1, [(vi 0)]), (32, (List.replicate 32 (0 : UInt8)).map vu8), (1, [(vi 0)]), (1, [(.slice none 0 0)])]) Try.underlying103 (zv Try.typeInfo103 rfl) rfl (SsOk.cons (SOk.v rfl) (SsOk.cons (SOk.u8 lr) (SsOk.cons (SOk.v rfl) (SsOk.cons (SOk.v rfl) SsOk.nil)))) (pl103 _ Try.underlying103) rfl FillR.nil rfl) ?_)
 refine WL.call Try.call48 rfl rfl (c_oAsk_0 id ob mp ms hms da dn dc u la ln lc 0 (List.replicate 32 (0 : UInt8)) none 0 0 lr _ (h_3.argR M1)) rfl ?_
 rintro _ w_6 ⟨rfl, hc_5⟩
 have h_7 := h_3.same hc_5
 refine qM (.tuple [(.agg ⟨(List.replicate 32 (0 : UInt8)).map vu8⟩), (vi 2)].toArray) rfl rfl (qV rfl (R.extract rfl rfl) (qV rfl (R.extract rfl rfl) ?_))
 refine WL.alloc (segs := [(32, (List.replicate 32 (0 : UInt8)).map vu8)]) h_7 (zv Try.typeInfo23 rfl) rfl (SsOk.cons (SOk.u8 lr) SsOk.nil) rfl (fun b_8 w_9 h_10 => ?_)
 refine WL.storeA (b := b_8) (off := 0) [] [(32, (List.replicate 32 (0 : UInt8)).map vu8)] [(32, (List.replicate 32 (0 : UInt8)).map vu8)] [] (ys := (List.replicate 32 (0 : UInt8)).map vu8) h_10 rfl rfl Try.sizeOf23 At.h (by decide) rfl rfl rfl rfl rfl rfl (SsOk.cons (SOk.u8 lr) SsOk.nil) (fun w_11 h_12 => ?_)
 refine qA (vi 2) rfl rfl ?_
 refine WL.nil (thn_n (WP.seq (WP.reg ?_)))
 refine qM (vi 2) rfl rfl (qV rfl (R.bin rfl rfl (bi_eql (r := false) (by decide))) ?_)
 refine WL.nil (thn_n ?_)
 refine WP.condF rfl ?_
 refine WP.skip (thn_n (WP.seq (WP.reg ?_)))
 refine qM (.slice a n cap) rfl rfl ?_
 refine WL.call Try.call18 rfl rfl (c_Spl_len a n cap hn _ ) rfl ?_
 rintro _ w_14 ⟨rfl, hc_13⟩
 have h_15 := h_12.same hc_13
 refine qM (.tuple [(.agg ⟨flat [(1, [(vu64 0)]), (32, (List.replicate 32 (0 : UInt8)).map vu8), (32, (List.replicate 32 (0 : UInt8)).map vu8)]⟩), (.agg ⟨(List.replicate 32 (0 : UInt8)).map vu8⟩), (vi 4)].toArray) rfl rfl (qV rfl (R.extract rfl rfl) (qV rfl (R.extract rfl rfl) (qV rfl (R.extract rfl rfl) ?_)))
 refine WL.alloc (segs := [(1, [(vu64 0)]), (32, (List.replicate 32 (0 : UInt8)).map vu8), (32, (List.replicate 32 (0 : UInt8)).map vu8)]) h_15 (zv Try.typeInfo30 rfl) rfl (SsOk.cons (SOk.v rfl) (SsOk.cons (SOk.u8 lr) (SsOk.cons (SOk.u8 lr) SsOk.nil))) rfl (fun b_16 w_17 h_18 => ?_)
 refine WL.alloc (segs := [(32, (List.replicate 32 (0 : UInt8)).map vu8)]) h_18 (zv Try.typeInfo23 rfl) rfl (SsOk.cons (SOk.u8 lr) SsOk.nil) rfl (fun b_19 w_20 h_21 => ?_)
 refine WL.storeA (b := b_16) (off := 0) [] [(1, [(vu64 0)]), (32, (List.replicate 32 (0 : UInt8)).map vu8), (32, (List.replicate 32 (0 : UInt8)).map vu8)] [(1, [(vu64 0)]), (32, (List.replicate 32 (0 : UInt8)).map vu8), (32, (List.replicate 32 (0 : UInt8)).map vu8)] [] (ys := flat [(1, [(vu64 0)]), (32, (List.replicate 32 (0 : UInt8)).map vu8), (32, (List.replicate 32 (0 : UInt8)).map vu8)]) h_21 rfl rfl Try.sizeOf30 Y1 (by decide) rfl rfl rfl rfl rfl rfl (SsOk.cons (SOk.v rfl) (SsOk.cons (SOk.u8 lr) (SsOk.cons (SOk.u8 lr) SsOk.nil))) (fun w_22 h_23 => ?_)
 refine WL.storeA (b := b_19) (off := 0) [] [(32, (List.replicate 32 (0 : UInt8)).map vu8)] [(32, (List.replicate 32 (0 : UInt8)).map vu8)] [] (ys := (List.replicate 32 (0 : UInt8)).map vu8) h_23 rfl rfl Try.sizeOf23 At.h (by decide) rfl rfl rfl rfl rfl rfl (SsOk.cons (SOk.u8 lr) SsOk.nil) (fun w_24 h_25 => ?_)
 refine qA (vi 4) rfl rfl ?_
 refine WL.nil (thn_n (WP.seq (WP.seq (WP.reg ?_))))
 refine qM (vi 4) rfl rfl (qV rfl (R.bin rfl rfl (bi_neq (r := true) (by decide))) ?_)
 refine WL.nil (thn_n ?_)
 refine WP.condT rfl ?_
 refine WP.seq (WP.reg ?_)
 refine qV rfl (R.buildS (pl := [(0, 1), (1, 32), (33, 32)]) (zs := [(1, [(vu64 0)]), (32, (List.replicate 32 (0 : UInt8)).map vu8), (32, (List.replicate 32 (0 : UInt8)).map vu8)]) (vs := []) (out := [(1, [(vu64 0)]), (32, (List.replicate 32 (0 : UInt8)).map vu8), (32, (List.replicate 32 (0 : UInt8)).map vu8)]) (cs := flat [(1, [(vu64 0)]), (32, (List.replicate 32 (0 : UInt8)).map vu8), (32, (List.replicate 32 (0 : UInt8)).map vu8)]) Try.underlying30 (zv Try.typeInfo30 rfl) rfl (SsOk.cons (SOk.v rfl) (SsOk.cons (SOk.u8 lr) (SsOk.cons (SOk.u8 lr) SsOk.nil))) (pl30 _ Try.underlying30) rfl FillR.nil rfl) (qM (vi 4) rfl rfl ?_)
 refine WL.storeA (b := b_1) (off := 0) [] [(1, [(vu64 0)]), (32, (List.replicate 32 (0 : UInt8)).map vu8), (32, (List.replicate 32 (0 : UInt8)).map vu8)] [(1, [(vu64 0)]), (32, (List.replicate 32 (0 : UInt8)).map vu8), (32, (List.replicate 32 (0 : UInt8)).map vu8)] [] (ys := flat [(1, [(vu64 0)]), (32, (List.replicate 32 (0 : UInt8)).map vu8), (32, (List.replicate 32 (0 : UInt8)).map vu8)]) h_25 rfl rfl Try.sizeOf30 Y3 (by decide) rfl rfl rfl rfl rfl rfl (SsOk.cons (SOk.v rfl) (SsOk.cons (SOk.u8 lr) (SsOk.cons (SOk.u8 lr) SsOk.nil))) (fun w_27 h_28 => ?_)
 refine qA (.bool false) rfl rfl (qA (vi 4) rfl rfl ?_)
 refine WL.nil (thn_n (WP.ret (thn_r ?_)))
 refine ret_of Try.results15 (RV.cell rfl (h_28.loadA (cs := flat [(1, [(vu64 0)]), (32, (List.replicate 32 (0 : UInt8)).map vu8), (32, (List.replicate 32 (0 : UInt8)).map vu8)]) Try.isAgg30 Try.sizeOf30 M3 rfl rfl) (RV.tmp (v := (.bool false)) rfl (RV.tmp (v := (vi 4)) rfl RV.nil))) ?_
 exact ⟨rfl, h_28.chgS⟩

theorem c_Ver_r {w00 : World} {L : List Ent} (id : Bool) (ob mp : Nat) (ms df : List UInt8) (hms : ms.length = 32) (da : Option Addr) (dn dc u : Nat) (hdf : df.length = 32 * dn) (la : Option Addr) (lc : Nat) (lx : List Value) (lg : Lg) (hu : u ≤ 500000) (hlg : lg.length ≤ 500000) (a : Option Addr) (cap : Nat) (bs : List UInt8) (hl : bs.length = 112) (hcap : 112 ≤ cap) (hm : ((bs.drop 0).take 80).take 8 = markB) (w : World) (h_0 : HP w00 w (Ent.blk ob .nw 50 [(1, [(.bool id)]), (32, ms.map vu8), (1, [(.slice da dn dc)]), (1, [(vi ((u : Nat) : Int))]), (1, [(.map (some mp))]), (1, [(.slice la lg.length lc)])] :: Ent.row la lg.length lc 111 67 lx :: Ent.obj mp .nw (.map (mArr lg) lg.length) :: Ent.pin (sblks lx) (fun w => Lgs w lx lg) :: Ent.view da (df.map vu8) :: Ent.row a 112 cap 5 1 (bs.map vu8) :: L)) :
  Cs Try.prog 15 [(.pointer (some ⟨ob, 0, none⟩)), (.slice a 112 cap)].toArray w (fun v w1 => ∃ la' lc' lx', v = (.tuple [(.agg ⟨flat [(1, [(vu64 (ins_of ((bs.drop 0).take 80)))]), (32, (me_of ((bs.drop 0).take 80)).map vu8), (32, (ch_of ((bs.drop 0).take 80)).map vu8)]⟩), (.bool (decide (tgD id df dn u lg ms (bs.take 80) = (bs.drop 80).take 32))), (vi 0)].toArray) ∧ HP w00 w1 (Ent.blk ob .nw 50 [(1, [(.bool id)]), (32, ms.map vu8), (1, [(.slice da dn dc)]), (1, [(vi (((tgU id df dn u lg ms (bs.take 80)) : Nat) : Int))]), (1, [(.map (some mp))]), (1, [(.slice la' ((tgL id df dn u lg ms (bs.take 80)).length) lc')])] :: Ent.row la' ((tgL id df dn u lg ms (bs.take 80)).length) lc' 111 67 lx' :: Ent.obj mp .nw (.map (mArr (tgL id df dn u lg ms (bs.take 80))) ((tgL id df dn u lg ms (bs.take 80)).length)) :: Ent.pin (sblks lx') (fun w => Lgs w lx' (tgL id df dn u lg ms (bs.take 80))) :: Ent.view da (df.map vu8) :: Ent.row a 112 cap 5 1 (bs.map vu8) :: L)) := by
 refine Cs.of (n := 48) (args := [(pO ob 0), (.slice a 112 cap)]) Try.func15 rfl rfl rfl ?_
 refine WP.seq (WP.reg ?_)
 refine WL.alloc (segs := [(1, [(vu64 0)]), (32, (List.replicate 32 (0 : UInt8)).map vu8), (32, (List.replicate 32 (0 : UInt8)).map vu8)]) h_0 (zv Try.typeInfo30 rfl) rfl (SsOk.cons (SOk.v rfl) (SsOk.cons (SOk.u8 lr) (SsOk.cons (SOk.u8 lr) SsOk.nil))) rfl (fun b_1 w_2 h_3 => ?_)
 refine qA (.bool false) rfl rfl (qA (vi 0) rfl rfl ?_)
 refine WL.nil (thn_n (WP.seq (WP.seq (WP.reg ?_))))
 refine qM (pO ob 0) rfl rfl (qV rfl (R.buildS (pl := [(0, 1), (1, 32), (33, 1), (34, 1)]) (zs := [(1, [(vi 0)]), (32, (List.replicate 32 (0 : UInt8)).map vu8), (1, [(vi 0)]), (1, [(.slice none 0 0)])]) (vs := []) (out := [(1, [(vi 0)]), (32, (List.replicate 32 (0 : UInt8)).map vu8), (1, [(vi 0)]), (1, [(.slice none 0 0)])]) (cs := flat [(1, [(vi 0)]), (32, (List.replicate 32 (0 : UInt8)).map vu8), (1, [(vi 0)]), (1, [(.slice none 0 0)])]) Try.underlying103 (zv Try.typeInfo103 rfl) rfl (SsOk.cons (SOk.v rfl) (SsOk.cons (SOk.u8 lr) (SsOk.cons (SOk.v rfl) (SsOk.cons (SOk.v rfl) SsOk.nil)))) (pl103 _ Try.underlying103) rfl FillR.nil rfl) ?_)
 refine WL.call Try.call48 rfl rfl (c_oAsk_0 id ob mp ms hms da dn dc u la lg.length lc 0 (List.replicate 32 (0 : UInt8)) none 0 0 lr _ (h_3.argR M1)) rfl ?_
 rintro _ w_6 ⟨rfl, hc_5⟩
 have h_7 := h_3.same hc_5
 refine qM (.tuple [(.agg ⟨(List.replicate 32 (0 : UInt8)).map vu8⟩), (vi 2)].toArray) rfl rfl (qV rfl (R.extract rfl rfl) (qV rfl (R.extract rfl rfl) ?_))
 refine WL.alloc (segs := [(32, (List.replicate 32 (0 : UInt8)).map vu8)]) h_7 (zv Try.typeInfo23 rfl) rfl (SsOk.cons (SOk.u8 lr) SsOk.nil) rfl (fun b_8 w_9 h_10 => ?_)
 refine WL.storeA (b := b_8) (off := 0) [] [(32, (List.replicate 32 (0 : UInt8)).map vu8)] [(32, (List.replicate 32 (0 : UInt8)).map vu8)] [] (ys := (List.replicate 32 (0 : UInt8)).map vu8) h_10 rfl rfl Try.sizeOf23 At.h (by decide) rfl rfl rfl rfl rfl rfl (SsOk.cons (SOk.u8 lr) SsOk.nil) (fun w_11 h_12 => ?_)
 refine qA (vi 2) rfl rfl ?_
 refine WL.nil (thn_n (WP.seq (WP.reg ?_)))
 refine qM (vi 2) rfl rfl (qV rfl (R.bin rfl rfl (bi_eql (r := false) (by decide))) ?_)
 refine WL.nil (thn_n ?_)
 refine WP.condF rfl ?_
 refine WP.skip (thn_n (WP.seq (WP.reg ?_)))
 refine qM (.slice a 112 cap) rfl rfl ?_
 refine WL.call Try.call18 rfl rfl (c_Spl_ok a cap bs hl (h_12.own M7).2.2.1 hm _ (ownView (h_12.ok _ M7))) rfl ?_
 rintro _ w_14 ⟨rfl, hc_13⟩
 have h_15 := h_12.same hc_13
 refine qM (.tuple [(.agg ⟨flat [(1, [(vu64 (ins_of ((bs.drop 0).take 80)))]), (32, (me_of ((bs.drop 0).take 80)).map vu8), (32, (ch_of ((bs.drop 0).take 80)).map vu8)]⟩), (.agg ⟨((bs.drop 80).take 32).map vu8⟩), (vi 0)].toArray) rfl rfl (qV rfl (R.extract rfl rfl) (qV rfl (R.extract rfl rfl) (qV rfl (R.extract rfl rfl) ?_)))
 refine WL.alloc (segs := [(1, [(vu64 0)]), (32, (List.replicate 32 (0 : UInt8)).map vu8), (32, (List.replicate 32 (0 : UInt8)).map vu8)]) h_15 (zv Try.typeInfo30 rfl) rfl (SsOk.cons (SOk.v rfl) (SsOk.cons (SOk.u8 lr) (SsOk.cons (SOk.u8 lr) SsOk.nil))) rfl (fun b_16 w_17 h_18 => ?_)
 refine WL.alloc (segs := [(32, (List.replicate 32 (0 : UInt8)).map vu8)]) h_18 (zv Try.typeInfo23 rfl) rfl (SsOk.cons (SOk.u8 lr) SsOk.nil) rfl (fun b_19 w_20 h_21 => ?_)
 refine WL.storeA (b := b_16) (off := 0) [] [(1, [(vu64 0)]), (32, (List.replicate 32 (0 : UInt8)).map vu8), (32, (List.replicate 32 (0 : UInt8)).map vu8)] [(1, [(vu64 (ins_of ((bs.drop 0).take 80)))]), (32, (me_of ((bs.drop 0).take 80)).map vu8), (32, (ch_of ((bs.drop 0).take 80)).map vu8)] [] (ys := flat [(1, [(vu64 (ins_of ((bs.drop 0).take 80)))]), (32, (me_of ((bs.drop 0).take 80)).map vu8), (32, (ch_of ((bs.drop 0).take 80)).map vu8)]) h_21 rfl rfl Try.sizeOf30 Y1 (by decide) rfl rfl rfl rfl rfl rfl (SsOk.cons (SOk.v rfl) (SsOk.cons (SOk.u8 (me_len (by simp only [List.length_take, List.length_drop, hl]; decide))) (SsOk.cons (SOk.u8 (ch_len (by simp only [List.length_take, List.length_drop, hl]; decide))) SsOk.nil))) (fun w_22 h_23 => ?_)
 refine WL.storeA (b := b_19) (off := 0) [] [(32, (List.replicate 32 (0 : UInt8)).map vu8)] [(32, ((bs.drop 80).take 32).map vu8)] [] (ys := ((bs.drop 80).take 32).map vu8) h_23 rfl rfl Try.sizeOf23 At.h (by decide) rfl rfl rfl rfl rfl rfl (SsOk.cons (SOk.u8 (by simp only [List.length_take, List.length_drop, hl]; decide)) SsOk.nil) (fun w_24 h_25 => ?_)
 refine qA (vi 0) rfl rfl ?_
 refine WL.nil (thn_n (WP.seq (WP.seq (WP.reg ?_))))
 refine qM (vi 0) rfl rfl (qV rfl (R.bin rfl rfl (bi_neq (r := false) (by decide))) ?_)
 refine WL.nil (thn_n ?_)
 refine WP.condF rfl ?_
 refine WP.skip (thn_n (WP.seq (WP.reg ?_)))
 refine qM (pO ob 0) rfl rfl (qM (.slice a 112 cap) rfl rfl ?_)
 refine WL.call Try.call49 rfl rfl (c_rSize  _ ) rfl ?_
 rintro _ w_27 ⟨rfl, hc_26⟩
 have h_28 := h_25.same hc_26
 refine qV rfl (R.sliceR0 (h := 80) rfl EvB.dflt (EvB.it (l := 80) rfl rfl) (by omega) Try.underlying37 Try.sizeOf5 (h_28.ok _ M9)) ?_
 have h_34 := (((((h_28.up J9).up J9).up J9).up J9).up J9).up J9
 have h32_w_38 := Lgs.ok32 (h_34.ok _ M3).1
 refine WL.call Try.call47 rfl rfl (c_atag_p id ob mp ms df hms da dn dc u hdf la lc lx lg hu hlg a 112 80 cap cap bs hl (by omega) (by omega) (by omega) _ h_34) rfl ?_
 rintro _ w_38 ⟨la_35, lc_36, lx_37, rfl, h_39⟩
 refine qM (.tuple [(.agg ⟨(tgD id df dn u lg ms (bs.take 80)).map vu8⟩), (vi 0)].toArray) rfl rfl (qV rfl (R.extract rfl rfl) (qV rfl (R.extract rfl rfl) ?_))
 refine WL.alloc (segs := [(32, (List.replicate 32 (0 : UInt8)).map vu8)]) h_39 (zv Try.typeInfo23 rfl) rfl (SsOk.cons (SOk.u8 lr) SsOk.nil) rfl (fun b_40 w_41 h_42 => ?_)
 refine WL.storeA (b := b_40) (off := 0) [] [(32, (List.replicate 32 (0 : UInt8)).map vu8)] [(32, (tgD id df dn u lg ms (bs.take 80)).map vu8)] [] (ys := (tgD id df dn u lg ms (bs.take 80)).map vu8) h_42 rfl rfl Try.sizeOf23 At.h (by decide) rfl rfl rfl rfl rfl rfl (SsOk.cons (SOk.u8 (tgD_len (dn := dn) hdf h32_w_38)) SsOk.nil) (fun w_43 h_44 => ?_)
 refine qA (vi 0) rfl rfl ?_
 refine WL.nil (thn_n (WP.seq (WP.seq (WP.reg ?_))))
 refine qM (vi 0) rfl rfl (qV rfl (R.bin rfl rfl (bi_neq (r := false) (by decide))) ?_)
 refine WL.nil (thn_n ?_)
 refine WP.condF rfl ?_
 refine WP.skip (thn_n (WP.seq ?_))
 refine WP.drawT (SL w00.heap.size [.blk b_40 .nw 23 [(32, (tgD id df dn u lg ms (bs.take 80)).map vu8)], .blk ob .nw 50 [(1, [(.bool id)]), (32, ms.map vu8), (1, [(.slice da dn dc)]), (1, [(vn ((tgU id df dn u lg ms (bs.take 80))))]), (1, [(.map (some mp))]), (1, [(.slice la_35 ((tgL id df dn u lg ms (bs.take 80)).length) lc_36)])], .row la_35 ((tgL id df dn u lg ms (bs.take 80)).length) lc_36 111 67 lx_37, .obj mp .nw (.map (mArr (tgL id df dn u lg ms (bs.take 80))) ((tgL id df dn u lg ms (bs.take 80)).length)), .pin (sblks lx_37) (fun w => Lgs w lx_37 (tgL id df dn u lg ms (bs.take 80))), .view da (df.map vu8), .row a 112 cap 5 1 (bs.map vu8), .blk b_19 .nw 23 [(32, ((bs.drop 80).take 32).map vu8)], .blk b_16 .nw 30 [(1, [(vu64 (ins_of ((bs.drop 0).take 80)))]), (32, (me_of ((bs.drop 0).take 80)).map vu8), (32, (ch_of ((bs.drop 0).take 80)).map vu8)], .blk b_8 .nw 23 [(32, (List.replicate 32 (0 : UInt8)).map vu8)]]) (.q 0 (.q 1 (.q 2 (.q 3 (.s 4 (.q 5 (.q 6 .nil))))))) (by kernel_rfl) (by kernel_rfl) rfl (by kernel_rfl) (fun w_45 hc_47 => (SL.cons ((h_44.same hc_47).ok _ M0) (SL.cons ((h_44.same hc_47).ok _ M1) (SL.cons ((h_44.same hc_47).ok _ M2) (SL.cons ((h_44.same hc_47).ok _ M3) (SL.cons ((h_44.same hc_47).ok _ M4) (SL.cons ((h_44.same hc_47).ok _ M5) (SL.cons ((h_44.same hc_47).ok _ M6) (SL.cons ((h_44.same hc_47).ok _ M7) (SL.cons ((h_44.same hc_47).ok _ M8) (SL.cons ((h_44.same hc_47).ok _ M9) (SL.nil _ _)))))))))))) (fun w_45 hc_47 => ?_)
 have h_46 := h_44.same hc_47
 refine qT rfl rfl (fun wq hS => R.loadA (b := b_16) (off := 0) [] [(1, [(vu64 (ins_of ((bs.drop 0).take 80)))]), (32, (me_of ((bs.drop 0).take 80)).map vu8), (32, (ch_of ((bs.drop 0).take 80)).map vu8)] [] (cs := flat [(1, [(vu64 (ins_of ((bs.drop 0).take 80)))]), (32, (me_of ((bs.drop 0).take 80)).map vu8), (32, (ch_of ((bs.drop 0).take 80)).map vu8)]) rfl Try.isAgg30 Try.sizeOf30 (hS _ M8) rfl rfl rfl rfl) ?_
 refine qT rfl rfl (fun wq hS => R.loadA (b := b_40) (off := 0) [] [(32, (tgD id df dn u lg ms (bs.take 80)).map vu8)] [] (cs := (tgD id df dn u lg ms (bs.take 80)).map vu8) rfl Try.isAgg23 Try.sizeOf23 (hS _ M0) rfl rfl rfl rfl) ?_
 refine qT rfl rfl (fun wq hS => R.loadA (b := b_19) (off := 0) [] [(32, ((bs.drop 80).take 32).map vu8)] [] (cs := ((bs.drop 80).take 32).map vu8) rfl Try.isAgg23 Try.sizeOf23 (hS _ M7) rfl rfl rfl rfl) ?_
 refine qT rfl rfl (fun wq hS => R.eqA (xs := (tgD id df dn u lg ms (bs.take 80)).map vu8) (ys := ((bs.drop 80).take 32).map vu8) (r := decide (tgD id df dn u lg ms (bs.take 80) = (bs.drop 80).take 32)) rfl rfl Try.eqGuardType23 kt23 (by decide) ag23 (Typ.u8s Try.underlying23 ce23 Try.underlying5 ce5 (tgD_len (dn := dn) hdf h32_w_38)) (Typ.u8s Try.underlying23 ce23 Try.underlying5 ce5 (by simp only [List.length_take, List.length_drop, hl]; decide)) (map_inj_u8.trans (decT _))) ?_
 refine WT.s (Op1.one rfl (Wn.no rfl) ?_)
 refine WL.storeA (b := b_1) (off := 0) [] [(1, [(vu64 0)]), (32, (List.replicate 32 (0 : UInt8)).map vu8), (32, (List.replicate 32 (0 : UInt8)).map vu8)] [(1, [(vu64 (ins_of ((bs.drop 0).take 80)))]), (32, (me_of ((bs.drop 0).take 80)).map vu8), (32, (ch_of ((bs.drop 0).take 80)).map vu8)] [] (ys := flat [(1, [(vu64 (ins_of ((bs.drop 0).take 80)))]), (32, (me_of ((bs.drop 0).take 80)).map vu8), (32, (ch_of ((bs.drop 0).take 80)).map vu8)]) h_46 rfl rfl Try.sizeOf30 Y10 (by decide) rfl rfl rfl rfl rfl rfl (SsOk.cons (SOk.v rfl) (SsOk.cons (SOk.u8 (me_len (by simp only [List.length_take, List.length_drop, hl]; decide))) (SsOk.cons (SOk.u8 (ch_len (by simp only [List.length_take, List.length_drop, hl]; decide))) SsOk.nil))) (fun w_48 h_49 => ?_)
 refine WL.nil ?_
 refine ⟨(SL.cons (h_49.ok _ M0) (SL.cons (h_49.ok _ M1) (SL.cons (h_49.ok _ M2) (SL.cons (h_49.ok _ M3) (SL.cons (h_49.ok _ M4) (SL.cons (h_49.ok _ M5) (SL.cons (h_49.ok _ M6) (SL.cons (h_49.ok _ M7) (SL.cons (h_49.ok _ M8) (SL.cons (h_49.ok _ M9) (SL.nil _ _))))))))))), ?_⟩
 refine qT rfl rfl (fun wq hS => R.assign (v := (.bool (decide (tgD id df dn u lg ms (bs.take 80) = (bs.drop 80).take 32)))) rfl) ?_
 refine qT rfl rfl (fun wq hS => R.assign (v := (vi 0)) rfl) ?_
 refine WT.nil (thn_n (WP.ret ?_))
 refine ret_of Try.results15 (RV.cell rfl (h_49.loadA (cs := flat [(1, [(vu64 (ins_of ((bs.drop 0).take 80)))]), (32, (me_of ((bs.drop 0).take 80)).map vu8), (32, (ch_of ((bs.drop 0).take 80)).map vu8)]) Try.isAgg30 Try.sizeOf30 M10 rfl rfl) (RV.tmp (v := (.bool (decide (tgD id df dn u lg ms (bs.take 80) = (bs.drop 80).take 32)))) rfl (RV.tmp (v := (vi 0)) rfl RV.nil))) ?_
 have h_64 := ((((((((((((((h_49.drop rfl).up J6).drop rfl).up J6).drop rfl).up J6).drop rfl).up J6).drop rfl).up J5).up J5).up J5).up J5).up J5).up J5
 exact ⟨_, _, _, rfl, h_64⟩

theorem c_num19 (e : Int) (be : -9223372036854775808 ≤ e ∧ e < 9223372036854775808) (w : World) :
  Cs Try.prog 14 [(vi e)].toArray w (fun v w1 => v = vi e ∧ Chg w w1 []) := by
 refine Cs.of (n := 4) (args := [(vi e)]) Try.func14 rfl rfl rfl ?_
 have h_0 := HP.init w
 refine WP.seq (WP.reg ?_)
 refine qA (vi 0) rfl rfl ?_
 refine WL.nil (thn_n (WP.seq (WP.reg ?_)))
 refine qM (vi e) rfl rfl (qA (vi e) rfl rfl ?_)
 refine WL.nil (thn_n (WP.ret ?_))
 refine ret_of Try.results14 (RV.tmp (v := (vi e)) rfl RV.nil) ?_
 exact ⟨rfl, h_0.chgS⟩
end Go.Proofs.Ytnhppjimimhlkaa

namespace Go.Proofs.Ytnhppjimimhlkaa
open Go.Vc Go.Orc Go.Sh Go.RowKit
set_option maxRecDepth 20000
theorem ce28 : Try.prog.cellsOf 28 = 1 := by kernel_rfl
theorem ce30 : Try.prog.cellsOf 30 = 65 := by kernel_rfl
theorem kt30 : Try.prog.keyTypeAt 3 30 = true := by kernel_rfl
theorem ag30 : aggB Try.prog 30 = true := by unfold aggB; rw [Try.underlying30]
theorem c_known19  (w : World) :
  Cs Try.prog 11 [].toArray w (fun v w1 => v = (.bool true) ∧ Chg w w1 []) := by
 refine Cs.of (n := 96) (args := []) Try.func11 rfl rfl rfl ?_
 have h_0 := HP.init w
 refine WP.seq (WP.reg ?_)
 refine qA (.bool false) rfl rfl ?_
 refine WL.nil (thn_n (WP.seq (WP.reg ?_)))
 refine qV rfl (R.buildA (vs := []) (cs := (List.replicate 32 (0 : UInt8)).map vu8) Try.underlying23 Try.sizeOf5 (zv Try.typeInfo23 rfl) rfl rfl) ?_
 have h_1 := HP_viewNil h_0
 refine WL.call Try.call17 rfl rfl (c_ONew true (List.replicate 32 (0 : UInt8)) ([] : List UInt8) lr none 0 0 (rfl : List.length ([] : List UInt8) = 32 * 0) (by decide) _ h_1) rfl ?_
 rintro _ w_6 ⟨b_2, b_3, a_4, c_5, rfl, h_7⟩
 refine qA (pO b_2 0) rfl rfl ?_
 refine WL.nil (thn_n (WP.seq (WP.reg ?_)))
 refine qM (pO b_2 0) rfl rfl (qV rfl (R.buildS (pl := [(0, 1), (1, 32), (33, 32)]) (zs := [(1, [(vu64 0)]), (32, (List.replicate 32 (0 : UInt8)).map vu8), (32, (List.replicate 32 (0 : UInt8)).map vu8)]) (vs := [(0, (vu64 3))]) (out := [(1, [(vu64 3)]), (32, (List.replicate 32 (0 : UInt8)).map vu8), (32, (List.replicate 32 (0 : UInt8)).map vu8)]) (cs := flat [(1, [(vu64 3)]), (32, (List.replicate 32 (0 : UInt8)).map vu8), (32, (List.replicate 32 (0 : UInt8)).map vu8)]) Try.underlying30 (zv Try.typeInfo30 rfl) rfl (SsOk.cons (SOk.v rfl) (SsOk.cons (SOk.u8 lr) (SsOk.cons (SOk.u8 lr) SsOk.nil))) (pl30 _ Try.underlying30) rfl (FillR.cons [] [(1, [(vu64 0)])] [(1, [(vu64 3)])] [(32, (List.replicate 32 (0 : UInt8)).map vu8), (32, (List.replicate 32 (0 : UInt8)).map vu8)] rfl rfl rfl rfl (SsOk.cons (SOk.v rfl) SsOk.nil) rfl rfl rfl FillR.nil) rfl) ?_)
 have h_13 := ((((h_7.up J4).up J4).up J4).up J4).up J4
 have h32_w_19 := Lgs.ok32 (h_13.ok _ M3).1
 refine WL.call Try.call13 rfl rfl (c_Iss true b_2 b_3 (List.replicate 32 (0 : UInt8)) ([] : List UInt8) lr a_4 0 c_5 0 (rfl : List.length ([] : List UInt8) = 32 * 0) none 0 [] ([] : Lg) (by decide +kernel) (by decide +kernel) (3 : UInt64) (List.replicate 32 (0 : UInt8)) (List.replicate 32 (0 : UInt8)) lr lr _ h_13) rfl ?_
 rintro _ w_19 ⟨a_14, c_15, la_16, lc_17, lx_18, rfl, h_20⟩
 refine qM (.tuple [(.slice a_14 112 c_15), (vi 0)].toArray) rfl rfl (qV rfl (R.extract rfl rfl) (qV rfl (R.extract rfl rfl) (qA (.slice a_14 112 c_15) rfl rfl (qA (vi 0) rfl rfl ?_))))
 refine WL.nil (thn_n (WP.seq (WP.seq (WP.reg ?_))))
 refine qM (vi 0) rfl rfl ?_
 refine WL.call Try.call14 rfl rfl (c_num19 0 (by omega) _ ) rfl ?_
 rintro _ w_22 ⟨rfl, hc_21⟩
 have h_23 := h_20.same hc_21
 refine qV rfl (R.bin rfl rfl (bi_neq (r := false) (by decide))) (qM (.bool false) rfl rfl ?_)
 refine WL.want rfl rfl ?_
 refine qM (.slice a_14 112 c_15) rfl rfl ?_
 refine WL.want rfl rfl ?_
 refine qV rfl (R.lenS (a := a_14) (m := 112) rfl rfl Try.underlying37) ?_
 refine WL.want rfl rfl ?_
 refine qV rfl (R.bin rfl rfl (bi_neq (r := false) (by decide))) (qV rfl (R.pickF (v := (.bool false)) rfl rfl) ?_)
 refine WL.nil (thn_n ?_)
 refine WP.condF rfl ?_
 refine WP.skip (thn_n (WP.seq (WP.reg ?_)))
 refine qM (pO b_2 0) rfl rfl (qM (.slice a_14 112 c_15) rfl rfl ?_)
 have hcp_24 := (h_23.own M0).2.2.1
 have h_29 := ((((h_23.up J5).up J5).up J5).up J5).up J5
 refine WL.call Try.call15 rfl rfl (c_Ver_r true b_2 b_3 (List.replicate 32 (0 : UInt8)) ([] : List UInt8) lr a_4 0 c_5 (tgU true ([] : List UInt8) 0 0 ([] : Lg) (List.replicate 32 (0 : UInt8)) (repB (3 : UInt64) (List.replicate 32 (0 : UInt8)) (List.replicate 32 (0 : UInt8)))) (rfl : List.length ([] : List UInt8) = 32 * 0) la_16 lc_17 lx_18 (tgL true ([] : List UInt8) 0 0 ([] : Lg) (List.replicate 32 (0 : UInt8)) (repB (3 : UInt64) (List.replicate 32 (0 : UInt8)) (List.replicate 32 (0 : UInt8)))) (by decide +kernel) (by decide +kernel) a_14 c_15 (repB (3 : UInt64) (List.replicate 32 (0 : UInt8)) (List.replicate 32 (0 : UInt8)) ++ tgD true ([] : List UInt8) 0 0 ([] : Lg) (List.replicate 32 (0 : UInt8)) (repB (3 : UInt64) (List.replicate 32 (0 : UInt8)) (List.replicate 32 (0 : UInt8)))) (iss_len (repB_len lr lr) (tgD_len (dn := 0) (rfl : List.length ([] : List UInt8) = 32 * 0) h32_w_19)) hcp_24 (by decide +kernel) _ h_29) rfl ?_
 rintro _ w_33 ⟨la_30, lc_31, lx_32, rfl, h_34⟩
 refine qM (.tuple [(.agg ⟨flat [(1, [(vu64 (ins_of (((repB (3 : UInt64) (List.replicate 32 (0 : UInt8)) (List.replicate 32 (0 : UInt8)) ++ tgD true ([] : List UInt8) 0 0 ([] : Lg) (List.replicate 32 (0 : UInt8)) (repB (3 : UInt64) (List.replicate 32 (0 : UInt8)) (List.replicate 32 (0 : UInt8)))).drop 0).take 80)))]), (32, (me_of (((repB (3 : UInt64) (List.replicate 32 (0 : UInt8)) (List.replicate 32 (0 : UInt8)) ++ tgD true ([] : List UInt8) 0 0 ([] : Lg) (List.replicate 32 (0 : UInt8)) (repB (3 : UInt64) (List.replicate 32 (0 : UInt8)) (List.replicate 32 (0 : UInt8)))).drop 0).take 80)).map vu8), (32, (ch_of (((repB (3 : UInt64) (List.replicate 32 (0 : UInt8)) (List.replicate 32 (0 : UInt8)) ++ tgD true ([] : List UInt8) 0 0 ([] : Lg) (List.replicate 32 (0 : UInt8)) (repB (3 : UInt64) (List.replicate 32 (0 : UInt8)) (List.replicate 32 (0 : UInt8)))).drop 0).take 80)).map vu8)]⟩), (.bool (decide (tgD true ([] : List UInt8) 0 (tgU true ([] : List UInt8) 0 0 ([] : Lg) (List.replicate 32 (0 : UInt8)) (repB (3 : UInt64) (List.replicate 32 (0 : UInt8)) (List.replicate 32 (0 : UInt8)))) (tgL true ([] : List UInt8) 0 0 ([] : Lg) (List.replicate 32 (0 : UInt8)) (repB (3 : UInt64) (List.replicate 32 (0 : UInt8)) (List.replicate 32 (0 : UInt8)))) (List.replicate 32 (0 : UInt8)) ((repB (3 : UInt64) (List.replicate 32 (0 : UInt8)) (List.replicate 32 (0 : UInt8)) ++ tgD true ([] : List UInt8) 0 0 ([] : Lg) (List.replicate 32 (0 : UInt8)) (repB (3 : UInt64) (List.replicate 32 (0 : UInt8)) (List.replicate 32 (0 : UInt8)))).take 80) = ((repB (3 : UInt64) (List.replicate 32 (0 : UInt8)) (List.replicate 32 (0 : UInt8)) ++ tgD true ([] : List UInt8) 0 0 ([] : Lg) (List.replicate 32 (0 : UInt8)) (repB (3 : UInt64) (List.replicate 32 (0 : UInt8)) (List.replicate 32 (0 : UInt8)))).drop 80).take 32))), (vi 0)].toArray) rfl rfl (qV rfl (R.extract rfl rfl) (qV rfl (R.extract rfl rfl) (qV rfl (R.extract rfl rfl) ?_)))
 refine WL.alloc (segs := [(1, [(vu64 0)]), (32, (List.replicate 32 (0 : UInt8)).map vu8), (32, (List.replicate 32 (0 : UInt8)).map vu8)]) h_34 (zv Try.typeInfo30 rfl) rfl (SsOk.cons (SOk.v rfl) (SsOk.cons (SOk.u8 lr) (SsOk.cons (SOk.u8 lr) SsOk.nil))) rfl (fun b_35 w_36 h_37 => ?_)
 refine WL.storeA (b := b_35) (off := 0) [] [(1, [(vu64 0)]), (32, (List.replicate 32 (0 : UInt8)).map vu8), (32, (List.replicate 32 (0 : UInt8)).map vu8)] [(1, [(vu64 (ins_of (((repB (3 : UInt64) (List.replicate 32 (0 : UInt8)) (List.replicate 32 (0 : UInt8)) ++ tgD true ([] : List UInt8) 0 0 ([] : Lg) (List.replicate 32 (0 : UInt8)) (repB (3 : UInt64) (List.replicate 32 (0 : UInt8)) (List.replicate 32 (0 : UInt8)))).drop 0).take 80)))]), (32, (me_of (((repB (3 : UInt64) (List.replicate 32 (0 : UInt8)) (List.replicate 32 (0 : UInt8)) ++ tgD true ([] : List UInt8) 0 0 ([] : Lg) (List.replicate 32 (0 : UInt8)) (repB (3 : UInt64) (List.replicate 32 (0 : UInt8)) (List.replicate 32 (0 : UInt8)))).drop 0).take 80)).map vu8), (32, (ch_of (((repB (3 : UInt64) (List.replicate 32 (0 : UInt8)) (List.replicate 32 (0 : UInt8)) ++ tgD true ([] : List UInt8) 0 0 ([] : Lg) (List.replicate 32 (0 : UInt8)) (repB (3 : UInt64) (List.replicate 32 (0 : UInt8)) (List.replicate 32 (0 : UInt8)))).drop 0).take 80)).map vu8)] [] (ys := flat [(1, [(vu64 (ins_of (((repB (3 : UInt64) (List.replicate 32 (0 : UInt8)) (List.replicate 32 (0 : UInt8)) ++ tgD true ([] : List UInt8) 0 0 ([] : Lg) (List.replicate 32 (0 : UInt8)) (repB (3 : UInt64) (List.replicate 32 (0 : UInt8)) (List.replicate 32 (0 : UInt8)))).drop 0).take 80)))]), (32, (me_of (((repB (3 : UInt64) (List.replicate 32 (0 : UInt8)) (List.replicate 32 (0 : UInt8)) ++ tgD true ([] : List UInt8) 0 0 ([] : Lg) (List.replicate 32 (0 : UInt8)) (repB (3 : UInt64) (List.replicate 32 (0 : UInt8)) (List.replicate 32 (0 : UInt8)))).drop 0).take 80)).map vu8), (32, (ch_of (((repB (3 : UInt64) (List.replicate 32 (0 : UInt8)) (List.replicate 32 (0 : UInt8)) ++ tgD true ([] : List UInt8) 0 0 ([] : Lg) (List.replicate 32 (0 : UInt8)) (repB (3 : UInt64) (List.replicate 32 (0 : UInt8)) (List.replicate 32 (0 : UInt8)))).drop 0).take 80)).map vu8)]) h_37 rfl rfl Try.sizeOf30 At.h (by decide) rfl rfl rfl rfl rfl rfl (SsOk.cons (SOk.v rfl) (SsOk.cons (SOk.u8 (me_len (by simp only [List.length_take, List.length_drop, (iss_len (repB_len lr lr) (tgD_len (dn := 0) (rfl : List.length ([] : List UInt8) = 32 * 0) h32_w_19))]; decide))) (SsOk.cons (SOk.u8 (ch_len (by simp only [List.length_take, List.length_drop, (iss_len (repB_len lr lr) (tgD_len (dn := 0) (rfl : List.length ([] : List UInt8) = 32 * 0) h32_w_19))]; decide))) SsOk.nil))) (fun w_38 h_39 => ?_)
 refine qA (.bool (decide (tgD true ([] : List UInt8) 0 (tgU true ([] : List UInt8) 0 0 ([] : Lg) (List.replicate 32 (0 : UInt8)) (repB (3 : UInt64) (List.replicate 32 (0 : UInt8)) (List.replicate 32 (0 : UInt8)))) (tgL true ([] : List UInt8) 0 0 ([] : Lg) (List.replicate 32 (0 : UInt8)) (repB (3 : UInt64) (List.replicate 32 (0 : UInt8)) (List.replicate 32 (0 : UInt8)))) (List.replicate 32 (0 : UInt8)) ((repB (3 : UInt64) (List.replicate 32 (0 : UInt8)) (List.replicate 32 (0 : UInt8)) ++ tgD true ([] : List UInt8) 0 0 ([] : Lg) (List.replicate 32 (0 : UInt8)) (repB (3 : UInt64) (List.replicate 32 (0 : UInt8)) (List.replicate 32 (0 : UInt8)))).take 80) = ((repB (3 : UInt64) (List.replicate 32 (0 : UInt8)) (List.replicate 32 (0 : UInt8)) ++ tgD true ([] : List UInt8) 0 0 ([] : Lg) (List.replicate 32 (0 : UInt8)) (repB (3 : UInt64) (List.replicate 32 (0 : UInt8)) (List.replicate 32 (0 : UInt8)))).drop 80).take 32))) rfl rfl (qA (vi 0) rfl rfl ?_)
 refine WL.nil (thn_n (WP.seq (WP.reg ?_)))
 refine qM (.slice a_14 112 c_15) rfl rfl (qM (.slice a_14 112 c_15) rfl rfl (qV rfl (R.indexS (a := a_14) (i := 111) (off := 111) (xs := (repB (3 : UInt64) (List.replicate 32 (0 : UInt8)) (List.replicate 32 (0 : UInt8)) ++ tgD true ([] : List UInt8) 0 0 ([] : Lg) (List.replicate 32 (0 : UInt8)) (repB (3 : UInt64) (List.replicate 32 (0 : UInt8)) (List.replicate 32 (0 : UInt8)))).map vu8) rfl rfl rfl (by decide) (ownView (h_39.ok _ M6)) (lt_len (K := 112) (len_map (iss_len (repB_len lr lr) (tgD_len (dn := 0) (rfl : List.length ([] : List UInt8) = 32 * 0) h32_w_19))) (by omega)) Try.underlying37 Try.sizeOf5 (Nat.mul_one _).symm) (qV rfl (R.loadG (a := a_14) (i := 111) (xs := (repB (3 : UInt64) (List.replicate 32 (0 : UInt8)) (List.replicate 32 (0 : UInt8)) ++ tgD true ([] : List UInt8) 0 0 ([] : Lg) (List.replicate 32 (0 : UInt8)) (repB (3 : UInt64) (List.replicate 32 (0 : UInt8)) (List.replicate 32 (0 : UInt8)))).map vu8) (v := (vu8 ((repB (3 : UInt64) (List.replicate 32 (0 : UInt8)) (List.replicate 32 (0 : UInt8)) ++ tgD true ([] : List UInt8) 0 0 ([] : Lg) (List.replicate 32 (0 : UInt8)) (repB (3 : UInt64) (List.replicate 32 (0 : UInt8)) (List.replicate 32 (0 : UInt8)))).getD 111 0))) rfl (ownView (h_39.ok _ M6)) Try.isAgg5 (get_u8 (lt_len (K := 112) (iss_len (repB_len lr lr) (tgD_len (dn := 0) (rfl : List.length ([] : List UInt8) = 32 * 0) h32_w_19)) (by omega)))) (qV rfl (R.bin rfl rfl (b8_xor ((repB (3 : UInt64) (List.replicate 32 (0 : UInt8)) (List.replicate 32 (0 : UInt8)) ++ tgD true ([] : List UInt8) 0 0 ([] : Lg) (List.replicate 32 (0 : UInt8)) (repB (3 : UInt64) (List.replicate 32 (0 : UInt8)) (List.replicate 32 (0 : UInt8)))).getD 111 0) 1)) (qV rfl (R.indexS (a := a_14) (i := 111) (off := 111) (xs := (repB (3 : UInt64) (List.replicate 32 (0 : UInt8)) (List.replicate 32 (0 : UInt8)) ++ tgD true ([] : List UInt8) 0 0 ([] : Lg) (List.replicate 32 (0 : UInt8)) (repB (3 : UInt64) (List.replicate 32 (0 : UInt8)) (List.replicate 32 (0 : UInt8)))).map vu8) rfl rfl rfl (by decide) (ownView (h_39.ok _ M6)) (lt_len (K := 112) (len_map (iss_len (repB_len lr lr) (tgD_len (dn := 0) (rfl : List.length ([] : List UInt8) = 32 * 0) h32_w_19))) (by omega)) Try.underlying37 Try.sizeOf5 (Nat.mul_one _).symm) ?_)))))
 refine WL.storeR (a := a_14) (i := 111) (v := (vu8 (((repB (3 : UInt64) (List.replicate 32 (0 : UInt8)) (List.replicate 32 (0 : UInt8)) ++ tgD true ([] : List UInt8) 0 0 ([] : Lg) (List.replicate 32 (0 : UInt8)) (repB (3 : UInt64) (List.replicate 32 (0 : UInt8)) (List.replicate 32 (0 : UInt8)))).getD 111 0) ^^^ 1))) (xs' := ((repB (3 : UInt64) (List.replicate 32 (0 : UInt8)) (List.replicate 32 (0 : UInt8)) ++ tgD true ([] : List UInt8) 0 0 ([] : Lg) (List.replicate 32 (0 : UInt8)) (repB (3 : UInt64) (List.replicate 32 (0 : UInt8)) (List.replicate 32 (0 : UInt8)))).set 111 (((repB (3 : UInt64) (List.replicate 32 (0 : UInt8)) (List.replicate 32 (0 : UInt8)) ++ tgD true ([] : List UInt8) 0 0 ([] : Lg) (List.replicate 32 (0 : UInt8)) (repB (3 : UInt64) (List.replicate 32 (0 : UInt8)) (List.replicate 32 (0 : UInt8)))).getD 111 0) ^^^ 1)).map vu8) h_39 rfl rfl Try.sizeOf5 rfl Y6 (lt_len (K := 112) (len_map (iss_len (repB_len lr lr) (tgD_len (dn := 0) (rfl : List.length ([] : List UInt8) = 32 * 0) h32_w_19))) (by omega)) (set_u8 _ _ _) (fun w_40 h_41 => ?_)
 refine WL.nil (thn_n (WP.seq (WP.reg ?_)))
 refine qM (pO b_2 0) rfl rfl (qM (.slice a_14 112 c_15) rfl rfl ?_)
 have hcp_42 := (h_41.own M6).2.2.1
 have h_48 := (((((h_41.up J6).up J6).up J6).up J6).up J6).up J6
 refine WL.call Try.call15 rfl rfl (c_Ver_r true b_2 b_3 (List.replicate 32 (0 : UInt8)) ([] : List UInt8) lr a_4 0 c_5 (tgU true ([] : List UInt8) 0 (tgU true ([] : List UInt8) 0 0 ([] : Lg) (List.replicate 32 (0 : UInt8)) (repB (3 : UInt64) (List.replicate 32 (0 : UInt8)) (List.replicate 32 (0 : UInt8)))) (tgL true ([] : List UInt8) 0 0 ([] : Lg) (List.replicate 32 (0 : UInt8)) (repB (3 : UInt64) (List.replicate 32 (0 : UInt8)) (List.replicate 32 (0 : UInt8)))) (List.replicate 32 (0 : UInt8)) ((repB (3 : UInt64) (List.replicate 32 (0 : UInt8)) (List.replicate 32 (0 : UInt8)) ++ tgD true ([] : List UInt8) 0 0 ([] : Lg) (List.replicate 32 (0 : UInt8)) (repB (3 : UInt64) (List.replicate 32 (0 : UInt8)) (List.replicate 32 (0 : UInt8)))).take 80)) (rfl : List.length ([] : List UInt8) = 32 * 0) la_30 lc_31 lx_32 (tgL true ([] : List UInt8) 0 (tgU true ([] : List UInt8) 0 0 ([] : Lg) (List.replicate 32 (0 : UInt8)) (repB (3 : UInt64) (List.replicate 32 (0 : UInt8)) (List.replicate 32 (0 : UInt8)))) (tgL true ([] : List UInt8) 0 0 ([] : Lg) (List.replicate 32 (0 : UInt8)) (repB (3 : UInt64) (List.replicate 32 (0 : UInt8)) (List.replicate 32 (0 : UInt8)))) (List.replicate 32 (0 : UInt8)) ((repB (3 : UInt64) (List.replicate 32 (0 : UInt8)) (List.replicate 32 (0 : UInt8)) ++ tgD true ([] : List UInt8) 0 0 ([] : Lg) (List.replicate 32 (0 : UInt8)) (repB (3 : UInt64) (List.replicate 32 (0 : UInt8)) (List.replicate 32 (0 : UInt8)))).take 80)) (by decide +kernel) (by decide +kernel) a_14 c_15 ((repB (3 : UInt64) (List.replicate 32 (0 : UInt8)) (List.replicate 32 (0 : UInt8)) ++ tgD true ([] : List UInt8) 0 0 ([] : Lg) (List.replicate 32 (0 : UInt8)) (repB (3 : UInt64) (List.replicate 32 (0 : UInt8)) (List.replicate 32 (0 : UInt8)))).set 111 (((repB (3 : UInt64) (List.replicate 32 (0 : UInt8)) (List.replicate 32 (0 : UInt8)) ++ tgD true ([] : List UInt8) 0 0 ([] : Lg) (List.replicate 32 (0 : UInt8)) (repB (3 : UInt64) (List.replicate 32 (0 : UInt8)) (List.replicate 32 (0 : UInt8)))).getD 111 0) ^^^ 1)) (len_set (iss_len (repB_len lr lr) (tgD_len (dn := 0) (rfl : List.length ([] : List UInt8) = 32 * 0) h32_w_19)) _ _) hcp_42 (by decide +kernel) _ h_48) rfl ?_
 rintro _ w_52 ⟨la_49, lc_50, lx_51, rfl, h_53⟩
 refine qM (.tuple [(.agg ⟨flat [(1, [(vu64 (ins_of ((((repB (3 : UInt64) (List.replicate 32 (0 : UInt8)) (List.replicate 32 (0 : UInt8)) ++ tgD true ([] : List UInt8) 0 0 ([] : Lg) (List.replicate 32 (0 : UInt8)) (repB (3 : UInt64) (List.replicate 32 (0 : UInt8)) (List.replicate 32 (0 : UInt8)))).set 111 (((repB (3 : UInt64) (List.replicate 32 (0 : UInt8)) (List.replicate 32 (0 : UInt8)) ++ tgD true ([] : List UInt8) 0 0 ([] : Lg) (List.replicate 32 (0 : UInt8)) (repB (3 : UInt64) (List.replicate 32 (0 : UInt8)) (List.replicate 32 (0 : UInt8)))).getD 111 0) ^^^ 1)).drop 0).take 80)))]), (32, (me_of ((((repB (3 : UInt64) (List.replicate 32 (0 : UInt8)) (List.replicate 32 (0 : UInt8)) ++ tgD true ([] : List UInt8) 0 0 ([] : Lg) (List.replicate 32 (0 : UInt8)) (repB (3 : UInt64) (List.replicate 32 (0 : UInt8)) (List.replicate 32 (0 : UInt8)))).set 111 (((repB (3 : UInt64) (List.replicate 32 (0 : UInt8)) (List.replicate 32 (0 : UInt8)) ++ tgD true ([] : List UInt8) 0 0 ([] : Lg) (List.replicate 32 (0 : UInt8)) (repB (3 : UInt64) (List.replicate 32 (0 : UInt8)) (List.replicate 32 (0 : UInt8)))).getD 111 0) ^^^ 1)).drop 0).take 80)).map vu8), (32, (ch_of ((((repB (3 : UInt64) (List.replicate 32 (0 : UInt8)) (List.replicate 32 (0 : UInt8)) ++ tgD true ([] : List UInt8) 0 0 ([] : Lg) (List.replicate 32 (0 : UInt8)) (repB (3 : UInt64) (List.replicate 32 (0 : UInt8)) (List.replicate 32 (0 : UInt8)))).set 111 (((repB (3 : UInt64) (List.replicate 32 (0 : UInt8)) (List.replicate 32 (0 : UInt8)) ++ tgD true ([] : List UInt8) 0 0 ([] : Lg) (List.replicate 32 (0 : UInt8)) (repB (3 : UInt64) (List.replicate 32 (0 : UInt8)) (List.replicate 32 (0 : UInt8)))).getD 111 0) ^^^ 1)).drop 0).take 80)).map vu8)]⟩), (.bool (decide (tgD true ([] : List UInt8) 0 (tgU true ([] : List UInt8) 0 (tgU true ([] : List UInt8) 0 0 ([] : Lg) (List.replicate 32 (0 : UInt8)) (repB (3 : UInt64) (List.replicate 32 (0 : UInt8)) (List.replicate 32 (0 : UInt8)))) (tgL true ([] : List UInt8) 0 0 ([] : Lg) (List.replicate 32 (0 : UInt8)) (repB (3 : UInt64) (List.replicate 32 (0 : UInt8)) (List.replicate 32 (0 : UInt8)))) (List.replicate 32 (0 : UInt8)) ((repB (3 : UInt64) (List.replicate 32 (0 : UInt8)) (List.replicate 32 (0 : UInt8)) ++ tgD true ([] : List UInt8) 0 0 ([] : Lg) (List.replicate 32 (0 : UInt8)) (repB (3 : UInt64) (List.replicate 32 (0 : UInt8)) (List.replicate 32 (0 : UInt8)))).take 80)) (tgL true ([] : List UInt8) 0 (tgU true ([] : List UInt8) 0 0 ([] : Lg) (List.replicate 32 (0 : UInt8)) (repB (3 : UInt64) (List.replicate 32 (0 : UInt8)) (List.replicate 32 (0 : UInt8)))) (tgL true ([] : List UInt8) 0 0 ([] : Lg) (List.replicate 32 (0 : UInt8)) (repB (3 : UInt64) (List.replicate 32 (0 : UInt8)) (List.replicate 32 (0 : UInt8)))) (List.replicate 32 (0 : UInt8)) ((repB (3 : UInt64) (List.replicate 32 (0 : UInt8)) (List.replicate 32 (0 : UInt8)) ++ tgD true ([] : List UInt8) 0 0 ([] : Lg) (List.replicate 32 (0 : UInt8)) (repB (3 : UInt64) (List.replicate 32 (0 : UInt8)) (List.replicate 32 (0 : UInt8)))).take 80)) (List.replicate 32 (0 : UInt8)) (((repB (3 : UInt64) (List.replicate 32 (0 : UInt8)) (List.replicate 32 (0 : UInt8)) ++ tgD true ([] : List UInt8) 0 0 ([] : Lg) (List.replicate 32 (0 : UInt8)) (repB (3 : UInt64) (List.replicate 32 (0 : UInt8)) (List.replicate 32 (0 : UInt8)))).set 111 (((repB (3 : UInt64) (List.replicate 32 (0 : UInt8)) (List.replicate 32 (0 : UInt8)) ++ tgD true ([] : List UInt8) 0 0 ([] : Lg) (List.replicate 32 (0 : UInt8)) (repB (3 : UInt64) (List.replicate 32 (0 : UInt8)) (List.replicate 32 (0 : UInt8)))).getD 111 0) ^^^ 1)).take 80) = (((repB (3 : UInt64) (List.replicate 32 (0 : UInt8)) (List.replicate 32 (0 : UInt8)) ++ tgD true ([] : List UInt8) 0 0 ([] : Lg) (List.replicate 32 (0 : UInt8)) (repB (3 : UInt64) (List.replicate 32 (0 : UInt8)) (List.replicate 32 (0 : UInt8)))).set 111 (((repB (3 : UInt64) (List.replicate 32 (0 : UInt8)) (List.replicate 32 (0 : UInt8)) ++ tgD true ([] : List UInt8) 0 0 ([] : Lg) (List.replicate 32 (0 : UInt8)) (repB (3 : UInt64) (List.replicate 32 (0 : UInt8)) (List.replicate 32 (0 : UInt8)))).getD 111 0) ^^^ 1)).drop 80).take 32))), (vi 0)].toArray) rfl rfl (qV rfl (R.extract rfl rfl) (qV rfl (R.extract rfl rfl) (qV rfl (R.extract rfl rfl) ?_)))
 refine WL.alloc (segs := [(1, [(vu64 0)]), (32, (List.replicate 32 (0 : UInt8)).map vu8), (32, (List.replicate 32 (0 : UInt8)).map vu8)]) h_53 (zv Try.typeInfo30 rfl) rfl (SsOk.cons (SOk.v rfl) (SsOk.cons (SOk.u8 lr) (SsOk.cons (SOk.u8 lr) SsOk.nil))) rfl (fun b_54 w_55 h_56 => ?_)
 refine WL.storeA (b := b_54) (off := 0) [] [(1, [(vu64 0)]), (32, (List.replicate 32 (0 : UInt8)).map vu8), (32, (List.replicate 32 (0 : UInt8)).map vu8)] [(1, [(vu64 (ins_of ((((repB (3 : UInt64) (List.replicate 32 (0 : UInt8)) (List.replicate 32 (0 : UInt8)) ++ tgD true ([] : List UInt8) 0 0 ([] : Lg) (List.replicate 32 (0 : UInt8)) (repB (3 : UInt64) (List.replicate 32 (0 : UInt8)) (List.replicate 32 (0 : UInt8)))).set 111 (((repB (3 : UInt64) (List.replicate 32 (0 : UInt8)) (List.replicate 32 (0 : UInt8)) ++ tgD true ([] : List UInt8) 0 0 ([] : Lg) (List.replicate 32 (0 : UInt8)) (repB (3 : UInt64) (List.replicate 32 (0 : UInt8)) (List.replicate 32 (0 : UInt8)))).getD 111 0) ^^^ 1)).drop 0).take 80)))]), (32, (me_of ((((repB (3 : UInt64) (List.replicate 32 (0 : UInt8)) (List.replicate 32 (0 : UInt8)) ++ tgD true ([] : List UInt8) 0 0 ([] : Lg) (List.replicate 32 (0 : UInt8)) (repB (3 : UInt64) (List.replicate 32 (0 : UInt8)) (List.replicate 32 (0 : UInt8)))).set 111 (((repB (3 : UInt64) (List.replicate 32 (0 : UInt8)) (List.replicate 32 (0 : UInt8)) ++ tgD true ([] : List UInt8) 0 0 ([] : Lg) (List.replicate 32 (0 : UInt8)) (repB (3 : UInt64) (List.replicate 32 (0 : UInt8)) (List.replicate 32 (0 : UInt8)))).getD 111 0) ^^^ 1)).drop 0).take 80)).map vu8), (32, (ch_of ((((repB (3 : UInt64) (List.replicate 32 (0 : UInt8)) (List.replicate 32 (0 : UInt8)) ++ tgD true ([] : List UInt8) 0 0 ([] : Lg) (List.replicate 32 (0 : UInt8)) (repB (3 : UInt64) (List.replicate 32 (0 : UInt8)) (List.replicate 32 (0 : UInt8)))).set 111 (((repB (3 : UInt64) (List.replicate 32 (0 : UInt8)) (List.replicate 32 (0 : UInt8)) ++ tgD true ([] : List UInt8) 0 0 ([] : Lg) (List.replicate 32 (0 : UInt8)) (repB (3 : UInt64) (List.replicate 32 (0 : UInt8)) (List.replicate 32 (0 : UInt8)))).getD 111 0) ^^^ 1)).drop 0).take 80)).map vu8)] [] (ys := flat [(1, [(vu64 (ins_of ((((repB (3 : UInt64) (List.replicate 32 (0 : UInt8)) (List.replicate 32 (0 : UInt8)) ++ tgD true ([] : List UInt8) 0 0 ([] : Lg) (List.replicate 32 (0 : UInt8)) (repB (3 : UInt64) (List.replicate 32 (0 : UInt8)) (List.replicate 32 (0 : UInt8)))).set 111 (((repB (3 : UInt64) (List.replicate 32 (0 : UInt8)) (List.replicate 32 (0 : UInt8)) ++ tgD true ([] : List UInt8) 0 0 ([] : Lg) (List.replicate 32 (0 : UInt8)) (repB (3 : UInt64) (List.replicate 32 (0 : UInt8)) (List.replicate 32 (0 : UInt8)))).getD 111 0) ^^^ 1)).drop 0).take 80)))]), (32, (me_of ((((repB (3 : UInt64) (List.replicate 32 (0 : UInt8)) (List.replicate 32 (0 : UInt8)) ++ tgD true ([] : List UInt8) 0 0 ([] : Lg) (List.replicate 32 (0 : UInt8)) (repB (3 : UInt64) (List.replicate 32 (0 : UInt8)) (List.replicate 32 (0 : UInt8)))).set 111 (((repB (3 : UInt64) (List.replicate 32 (0 : UInt8)) (List.replicate 32 (0 : UInt8)) ++ tgD true ([] : List UInt8) 0 0 ([] : Lg) (List.replicate 32 (0 : UInt8)) (repB (3 : UInt64) (List.replicate 32 (0 : UInt8)) (List.replicate 32 (0 : UInt8)))).getD 111 0) ^^^ 1)).drop 0).take 80)).map vu8), (32, (ch_of ((((repB (3 : UInt64) (List.replicate 32 (0 : UInt8)) (List.replicate 32 (0 : UInt8)) ++ tgD true ([] : List UInt8) 0 0 ([] : Lg) (List.replicate 32 (0 : UInt8)) (repB (3 : UInt64) (List.replicate 32 (0 : UInt8)) (List.replicate 32 (0 : UInt8)))).set 111 (((repB (3 : UInt64) (List.replicate 32 (0 : UInt8)) (List.replicate 32 (0 : UInt8)) ++ tgD true ([] : List UInt8) 0 0 ([] : Lg) (List.replicate 32 (0 : UInt8)) (repB (3 : UInt64) (List.replicate 32 (0 : UInt8)) (List.replicate 32 (0 : UInt8)))).getD 111 0) ^^^ 1)).drop 0).take 80)).map vu8)]) h_56 rfl rfl Try.sizeOf30 At.h (by decide) rfl rfl rfl rfl rfl rfl (SsOk.cons (SOk.v rfl) (SsOk.cons (SOk.u8 (me_len (by simp only [List.length_take, List.length_drop, (len_set (iss_len (repB_len lr lr) (tgD_len (dn := 0) (rfl : List.length ([] : List UInt8) = 32 * 0) h32_w_19)) _ _)]; decide))) (SsOk.cons (SOk.u8 (ch_len (by simp only [List.length_take, List.length_drop, (len_set (iss_len (repB_len lr lr) (tgD_len (dn := 0) (rfl : List.length ([] : List UInt8) = 32 * 0) h32_w_19)) _ _)]; decide))) SsOk.nil))) (fun w_57 h_58 => ?_)
 refine qA (.bool (decide (tgD true ([] : List UInt8) 0 (tgU true ([] : List UInt8) 0 (tgU true ([] : List UInt8) 0 0 ([] : Lg) (List.replicate 32 (0 : UInt8)) (repB (3 : UInt64) (List.replicate 32 (0 : UInt8)) (List.replicate 32 (0 : UInt8)))) (tgL true ([] : List UInt8) 0 0 ([] : Lg) (List.replicate 32 (0 : UInt8)) (repB (3 : UInt64) (List.replicate 32 (0 : UInt8)) (List.replicate 32 (0 : UInt8)))) (List.replicate 32 (0 : UInt8)) ((repB (3 : UInt64) (List.replicate 32 (0 : UInt8)) (List.replicate 32 (0 : UInt8)) ++ tgD true ([] : List UInt8) 0 0 ([] : Lg) (List.replicate 32 (0 : UInt8)) (repB (3 : UInt64) (List.replicate 32 (0 : UInt8)) (List.replicate 32 (0 : UInt8)))).take 80)) (tgL true ([] : List UInt8) 0 (tgU true ([] : List UInt8) 0 0 ([] : Lg) (List.replicate 32 (0 : UInt8)) (repB (3 : UInt64) (List.replicate 32 (0 : UInt8)) (List.replicate 32 (0 : UInt8)))) (tgL true ([] : List UInt8) 0 0 ([] : Lg) (List.replicate 32 (0 : UInt8)) (repB (3 : UInt64) (List.replicate 32 (0 : UInt8)) (List.replicate 32 (0 : UInt8)))) (List.replicate 32 (0 : UInt8)) ((repB (3 : UInt64) (List.replicate 32 (0 : UInt8)) (List.replicate 32 (0 : UInt8)) ++ tgD true ([] : List UInt8) 0 0 ([] : Lg) (List.replicate 32 (0 : UInt8)) (repB (3 : UInt64) (List.replicate 32 (0 : UInt8)) (List.replicate 32 (0 : UInt8)))).take 80)) (List.replicate 32 (0 : UInt8)) (((repB (3 : UInt64) (List.replicate 32 (0 : UInt8)) (List.replicate 32 (0 : UInt8)) ++ tgD true ([] : List UInt8) 0 0 ([] : Lg) (List.replicate 32 (0 : UInt8)) (repB (3 : UInt64) (List.replicate 32 (0 : UInt8)) (List.replicate 32 (0 : UInt8)))).set 111 (((repB (3 : UInt64) (List.replicate 32 (0 : UInt8)) (List.replicate 32 (0 : UInt8)) ++ tgD true ([] : List UInt8) 0 0 ([] : Lg) (List.replicate 32 (0 : UInt8)) (repB (3 : UInt64) (List.replicate 32 (0 : UInt8)) (List.replicate 32 (0 : UInt8)))).getD 111 0) ^^^ 1)).take 80) = (((repB (3 : UInt64) (List.replicate 32 (0 : UInt8)) (List.replicate 32 (0 : UInt8)) ++ tgD true ([] : List UInt8) 0 0 ([] : Lg) (List.replicate 32 (0 : UInt8)) (repB (3 : UInt64) (List.replicate 32 (0 : UInt8)) (List.replicate 32 (0 : UInt8)))).set 111 (((repB (3 : UInt64) (List.replicate 32 (0 : UInt8)) (List.replicate 32 (0 : UInt8)) ++ tgD true ([] : List UInt8) 0 0 ([] : Lg) (List.replicate 32 (0 : UInt8)) (repB (3 : UInt64) (List.replicate 32 (0 : UInt8)) (List.replicate 32 (0 : UInt8)))).getD 111 0) ^^^ 1)).drop 80).take 32))) rfl rfl (qA (vi 0) rfl rfl ?_)
 refine WL.nil (thn_n (WP.seq (WP.reg ?_)))
 refine qM (pO b_2 0) rfl rfl (qM (.slice a_14 112 c_15) rfl rfl (qV rfl (R.sliceS (a := a_14) (len := 112) (l := 0) (h := 111) rfl EvB.dflt (EvB.it (l := 111) rfl rfl) (by decide) (by omega) Try.underlying37 Try.sizeOf5) ?_))
 refine WL.call Try.call15 rfl rfl (c_Ver_len true b_2 b_3 (List.replicate 32 (0 : UInt8)) lr a_4 0 c_5 (tgU true ([] : List UInt8) 0 (tgU true ([] : List UInt8) 0 (tgU true ([] : List UInt8) 0 0 ([] : Lg) (List.replicate 32 (0 : UInt8)) (repB (3 : UInt64) (List.replicate 32 (0 : UInt8)) (List.replicate 32 (0 : UInt8)))) (tgL true ([] : List UInt8) 0 0 ([] : Lg) (List.replicate 32 (0 : UInt8)) (repB (3 : UInt64) (List.replicate 32 (0 : UInt8)) (List.replicate 32 (0 : UInt8)))) (List.replicate 32 (0 : UInt8)) ((repB (3 : UInt64) (List.replicate 32 (0 : UInt8)) (List.replicate 32 (0 : UInt8)) ++ tgD true ([] : List UInt8) 0 0 ([] : Lg) (List.replicate 32 (0 : UInt8)) (repB (3 : UInt64) (List.replicate 32 (0 : UInt8)) (List.replicate 32 (0 : UInt8)))).take 80)) (tgL true ([] : List UInt8) 0 (tgU true ([] : List UInt8) 0 0 ([] : Lg) (List.replicate 32 (0 : UInt8)) (repB (3 : UInt64) (List.replicate 32 (0 : UInt8)) (List.replicate 32 (0 : UInt8)))) (tgL true ([] : List UInt8) 0 0 ([] : Lg) (List.replicate 32 (0 : UInt8)) (repB (3 : UInt64) (List.replicate 32 (0 : UInt8)) (List.replicate 32 (0 : UInt8)))) (List.replicate 32 (0 : UInt8)) ((repB (3 : UInt64) (List.replicate 32 (0 : UInt8)) (List.replicate 32 (0 : UInt8)) ++ tgD true ([] : List UInt8) 0 0 ([] : Lg) (List.replicate 32 (0 : UInt8)) (repB (3 : UInt64) (List.replicate 32 (0 : UInt8)) (List.replicate 32 (0 : UInt8)))).take 80)) (List.replicate 32 (0 : UInt8)) (((repB (3 : UInt64) (List.replicate 32 (0 : UInt8)) (List.replicate 32 (0 : UInt8)) ++ tgD true ([] : List UInt8) 0 0 ([] : Lg) (List.replicate 32 (0 : UInt8)) (repB (3 : UInt64) (List.replicate 32 (0 : UInt8)) (List.replicate 32 (0 : UInt8)))).set 111 (((repB (3 : UInt64) (List.replicate 32 (0 : UInt8)) (List.replicate 32 (0 : UInt8)) ++ tgD true ([] : List UInt8) 0 0 ([] : Lg) (List.replicate 32 (0 : UInt8)) (repB (3 : UInt64) (List.replicate 32 (0 : UInt8)) (List.replicate 32 (0 : UInt8)))).getD 111 0) ^^^ 1)).take 80)) la_49 ((tgL true ([] : List UInt8) 0 (tgU true ([] : List UInt8) 0 (tgU true ([] : List UInt8) 0 0 ([] : Lg) (List.replicate 32 (0 : UInt8)) (repB (3 : UInt64) (List.replicate 32 (0 : UInt8)) (List.replicate 32 (0 : UInt8)))) (tgL true ([] : List UInt8) 0 0 ([] : Lg) (List.replicate 32 (0 : UInt8)) (repB (3 : UInt64) (List.replicate 32 (0 : UInt8)) (List.replicate 32 (0 : UInt8)))) (List.replicate 32 (0 : UInt8)) ((repB (3 : UInt64) (List.replicate 32 (0 : UInt8)) (List.replicate 32 (0 : UInt8)) ++ tgD true ([] : List UInt8) 0 0 ([] : Lg) (List.replicate 32 (0 : UInt8)) (repB (3 : UInt64) (List.replicate 32 (0 : UInt8)) (List.replicate 32 (0 : UInt8)))).take 80)) (tgL true ([] : List UInt8) 0 (tgU true ([] : List UInt8) 0 0 ([] : Lg) (List.replicate 32 (0 : UInt8)) (repB (3 : UInt64) (List.replicate 32 (0 : UInt8)) (List.replicate 32 (0 : UInt8)))) (tgL true ([] : List UInt8) 0 0 ([] : Lg) (List.replicate 32 (0 : UInt8)) (repB (3 : UInt64) (List.replicate 32 (0 : UInt8)) (List.replicate 32 (0 : UInt8)))) (List.replicate 32 (0 : UInt8)) ((repB (3 : UInt64) (List.replicate 32 (0 : UInt8)) (List.replicate 32 (0 : UInt8)) ++ tgD true ([] : List UInt8) 0 0 ([] : Lg) (List.replicate 32 (0 : UInt8)) (repB (3 : UInt64) (List.replicate 32 (0 : UInt8)) (List.replicate 32 (0 : UInt8)))).take 80)) (List.replicate 32 (0 : UInt8)) (((repB (3 : UInt64) (List.replicate 32 (0 : UInt8)) (List.replicate 32 (0 : UInt8)) ++ tgD true ([] : List UInt8) 0 0 ([] : Lg) (List.replicate 32 (0 : UInt8)) (repB (3 : UInt64) (List.replicate 32 (0 : UInt8)) (List.replicate 32 (0 : UInt8)))).set 111 (((repB (3 : UInt64) (List.replicate 32 (0 : UInt8)) (List.replicate 32 (0 : UInt8)) ++ tgD true ([] : List UInt8) 0 0 ([] : Lg) (List.replicate 32 (0 : UInt8)) (repB (3 : UInt64) (List.replicate 32 (0 : UInt8)) (List.replicate 32 (0 : UInt8)))).getD 111 0) ^^^ 1)).take 80)).length) lc_50 (slA a_14 0 c_15 1) 111 c_15 (by decide) _ (h_58.argR M1)) rfl ?_
 rintro _ w_60 ⟨rfl, hc_59⟩
 have h_61 := h_58.same hc_59
 refine qM (.tuple [(.agg ⟨flat [(1, [(vu64 0)]), (32, (List.replicate 32 (0 : UInt8)).map vu8), (32, (List.replicate 32 (0 : UInt8)).map vu8)]⟩), (.bool false), (vi 4)].toArray) rfl rfl (qV rfl (R.extract rfl rfl) (qV rfl (R.extract rfl rfl) (qV rfl (R.extract rfl rfl) ?_)))
 refine WL.alloc (segs := [(1, [(vu64 0)]), (32, (List.replicate 32 (0 : UInt8)).map vu8), (32, (List.replicate 32 (0 : UInt8)).map vu8)]) h_61 (zv Try.typeInfo30 rfl) rfl (SsOk.cons (SOk.v rfl) (SsOk.cons (SOk.u8 lr) (SsOk.cons (SOk.u8 lr) SsOk.nil))) rfl (fun b_62 w_63 h_64 => ?_)
 refine WL.storeA (b := b_62) (off := 0) [] [(1, [(vu64 0)]), (32, (List.replicate 32 (0 : UInt8)).map vu8), (32, (List.replicate 32 (0 : UInt8)).map vu8)] [(1, [(vu64 0)]), (32, (List.replicate 32 (0 : UInt8)).map vu8), (32, (List.replicate 32 (0 : UInt8)).map vu8)] [] (ys := flat [(1, [(vu64 0)]), (32, (List.replicate 32 (0 : UInt8)).map vu8), (32, (List.replicate 32 (0 : UInt8)).map vu8)]) h_64 rfl rfl Try.sizeOf30 At.h (by decide) rfl rfl rfl rfl rfl rfl (SsOk.cons (SOk.v rfl) (SsOk.cons (SOk.u8 lr) (SsOk.cons (SOk.u8 lr) SsOk.nil))) (fun w_65 h_66 => ?_)
 refine qA (.bool false) rfl rfl (qA (vi 4) rfl rfl ?_)
 refine WL.nil (thn_n (WP.seq (WP.reg ?_)))
 refine qV rfl (R.buildS (pl := [(0, 1), (1, 32), (33, 32)]) (zs := [(1, [(vu64 0)]), (32, (List.replicate 32 (0 : UInt8)).map vu8), (32, (List.replicate 32 (0 : UInt8)).map vu8)]) (vs := []) (out := [(1, [(vu64 0)]), (32, (List.replicate 32 (0 : UInt8)).map vu8), (32, (List.replicate 32 (0 : UInt8)).map vu8)]) (cs := flat [(1, [(vu64 0)]), (32, (List.replicate 32 (0 : UInt8)).map vu8), (32, (List.replicate 32 (0 : UInt8)).map vu8)]) Try.underlying30 (zv Try.typeInfo30 rfl) rfl (SsOk.cons (SOk.v rfl) (SsOk.cons (SOk.u8 lr) (SsOk.cons (SOk.u8 lr) SsOk.nil))) (pl30 _ Try.underlying30) rfl FillR.nil rfl) ?_
 refine WL.call Try.call13 rfl rfl (c_Iss_nil (0 : UInt64) (List.replicate 32 (0 : UInt8)) (List.replicate 32 (0 : UInt8)) lr lr _ ) rfl ?_
 rintro _ w_69 ⟨rfl, hc_68⟩
 have h_70 := h_66.same hc_68
 refine qM (.tuple [(.slice none 0 0), (vi 1)].toArray) rfl rfl (qV rfl (R.extract rfl rfl) (qV rfl (R.extract rfl rfl) (qA (.slice none 0 0) rfl rfl (qA (vi 1) rfl rfl ?_))))
 refine WL.nil (thn_n (WP.seq (WP.reg ?_)))
 refine qM (.bool (decide (tgD true ([] : List UInt8) 0 (tgU true ([] : List UInt8) 0 0 ([] : Lg) (List.replicate 32 (0 : UInt8)) (repB (3 : UInt64) (List.replicate 32 (0 : UInt8)) (List.replicate 32 (0 : UInt8)))) (tgL true ([] : List UInt8) 0 0 ([] : Lg) (List.replicate 32 (0 : UInt8)) (repB (3 : UInt64) (List.replicate 32 (0 : UInt8)) (List.replicate 32 (0 : UInt8)))) (List.replicate 32 (0 : UInt8)) ((repB (3 : UInt64) (List.replicate 32 (0 : UInt8)) (List.replicate 32 (0 : UInt8)) ++ tgD true ([] : List UInt8) 0 0 ([] : Lg) (List.replicate 32 (0 : UInt8)) (repB (3 : UInt64) (List.replicate 32 (0 : UInt8)) (List.replicate 32 (0 : UInt8)))).take 80) = ((repB (3 : UInt64) (List.replicate 32 (0 : UInt8)) (List.replicate 32 (0 : UInt8)) ++ tgD true ([] : List UInt8) 0 0 ([] : Lg) (List.replicate 32 (0 : UInt8)) (repB (3 : UInt64) (List.replicate 32 (0 : UInt8)) (List.replicate 32 (0 : UInt8)))).drop 80).take 32))) rfl rfl (qM (.bool (decide (tgD true ([] : List UInt8) 0 (tgU true ([] : List UInt8) 0 0 ([] : Lg) (List.replicate 32 (0 : UInt8)) (repB (3 : UInt64) (List.replicate 32 (0 : UInt8)) (List.replicate 32 (0 : UInt8)))) (tgL true ([] : List UInt8) 0 0 ([] : Lg) (List.replicate 32 (0 : UInt8)) (repB (3 : UInt64) (List.replicate 32 (0 : UInt8)) (List.replicate 32 (0 : UInt8)))) (List.replicate 32 (0 : UInt8)) ((repB (3 : UInt64) (List.replicate 32 (0 : UInt8)) (List.replicate 32 (0 : UInt8)) ++ tgD true ([] : List UInt8) 0 0 ([] : Lg) (List.replicate 32 (0 : UInt8)) (repB (3 : UInt64) (List.replicate 32 (0 : UInt8)) (List.replicate 32 (0 : UInt8)))).take 80) = ((repB (3 : UInt64) (List.replicate 32 (0 : UInt8)) (List.replicate 32 (0 : UInt8)) ++ tgD true ([] : List UInt8) 0 0 ([] : Lg) (List.replicate 32 (0 : UInt8)) (repB (3 : UInt64) (List.replicate 32 (0 : UInt8)) (List.replicate 32 (0 : UInt8)))).drop 80).take 32))) rfl rfl ?_)
 refine WL.want rfl (congrArg Value.bool (decide_eq_true (by decide +kernel))) ?_
 refine qM (.bool (decide (tgD true ([] : List UInt8) 0 (tgU true ([] : List UInt8) 0 (tgU true ([] : List UInt8) 0 0 ([] : Lg) (List.replicate 32 (0 : UInt8)) (repB (3 : UInt64) (List.replicate 32 (0 : UInt8)) (List.replicate 32 (0 : UInt8)))) (tgL true ([] : List UInt8) 0 0 ([] : Lg) (List.replicate 32 (0 : UInt8)) (repB (3 : UInt64) (List.replicate 32 (0 : UInt8)) (List.replicate 32 (0 : UInt8)))) (List.replicate 32 (0 : UInt8)) ((repB (3 : UInt64) (List.replicate 32 (0 : UInt8)) (List.replicate 32 (0 : UInt8)) ++ tgD true ([] : List UInt8) 0 0 ([] : Lg) (List.replicate 32 (0 : UInt8)) (repB (3 : UInt64) (List.replicate 32 (0 : UInt8)) (List.replicate 32 (0 : UInt8)))).take 80)) (tgL true ([] : List UInt8) 0 (tgU true ([] : List UInt8) 0 0 ([] : Lg) (List.replicate 32 (0 : UInt8)) (repB (3 : UInt64) (List.replicate 32 (0 : UInt8)) (List.replicate 32 (0 : UInt8)))) (tgL true ([] : List UInt8) 0 0 ([] : Lg) (List.replicate 32 (0 : UInt8)) (repB (3 : UInt64) (List.replicate 32 (0 : UInt8)) (List.replicate 32 (0 : UInt8)))) (List.replicate 32 (0 : UInt8)) ((repB (3 : UInt64) (List.replicate 32 (0 : UInt8)) (List.replicate 32 (0 : UInt8)) ++ tgD true ([] : List UInt8) 0 0 ([] : Lg) (List.replicate 32 (0 : UInt8)) (repB (3 : UInt64) (List.replicate 32 (0 : UInt8)) (List.replicate 32 (0 : UInt8)))).take 80)) (List.replicate 32 (0 : UInt8)) (((repB (3 : UInt64) (List.replicate 32 (0 : UInt8)) (List.replicate 32 (0 : UInt8)) ++ tgD true ([] : List UInt8) 0 0 ([] : Lg) (List.replicate 32 (0 : UInt8)) (repB (3 : UInt64) (List.replicate 32 (0 : UInt8)) (List.replicate 32 (0 : UInt8)))).set 111 (((repB (3 : UInt64) (List.replicate 32 (0 : UInt8)) (List.replicate 32 (0 : UInt8)) ++ tgD true ([] : List UInt8) 0 0 ([] : Lg) (List.replicate 32 (0 : UInt8)) (repB (3 : UInt64) (List.replicate 32 (0 : UInt8)) (List.replicate 32 (0 : UInt8)))).getD 111 0) ^^^ 1)).take 80) = (((repB (3 : UInt64) (List.replicate 32 (0 : UInt8)) (List.replicate 32 (0 : UInt8)) ++ tgD true ([] : List UInt8) 0 0 ([] : Lg) (List.replicate 32 (0 : UInt8)) (repB (3 : UInt64) (List.replicate 32 (0 : UInt8)) (List.replicate 32 (0 : UInt8)))).set 111 (((repB (3 : UInt64) (List.replicate 32 (0 : UInt8)) (List.replicate 32 (0 : UInt8)) ++ tgD true ([] : List UInt8) 0 0 ([] : Lg) (List.replicate 32 (0 : UInt8)) (repB (3 : UInt64) (List.replicate 32 (0 : UInt8)) (List.replicate 32 (0 : UInt8)))).getD 111 0) ^^^ 1)).drop 80).take 32))) rfl rfl ?_
 refine WL.want rfl (congrArg Value.bool (decide_eq_true (by decide +kernel))) ?_
 refine qV rfl (R.not (b := false) (congrArg Value.bool (decide_eq_false (by decide +kernel)))) (qV rfl (R.pickT (v := (.bool true)) (congrArg Value.bool (decide_eq_true (by decide +kernel))) rfl) (qM (.bool true) rfl rfl ?_))
 refine WL.want rfl rfl ?_
 refine qV rfl (R.loadA (b := b_35) (off := 0) [] [(1, [(vu64 (ins_of (((repB (3 : UInt64) (List.replicate 32 (0 : UInt8)) (List.replicate 32 (0 : UInt8)) ++ tgD true ([] : List UInt8) 0 0 ([] : Lg) (List.replicate 32 (0 : UInt8)) (repB (3 : UInt64) (List.replicate 32 (0 : UInt8)) (List.replicate 32 (0 : UInt8)))).drop 0).take 80)))]), (32, (me_of (((repB (3 : UInt64) (List.replicate 32 (0 : UInt8)) (List.replicate 32 (0 : UInt8)) ++ tgD true ([] : List UInt8) 0 0 ([] : Lg) (List.replicate 32 (0 : UInt8)) (repB (3 : UInt64) (List.replicate 32 (0 : UInt8)) (List.replicate 32 (0 : UInt8)))).drop 0).take 80)).map vu8), (32, (ch_of (((repB (3 : UInt64) (List.replicate 32 (0 : UInt8)) (List.replicate 32 (0 : UInt8)) ++ tgD true ([] : List UInt8) 0 0 ([] : Lg) (List.replicate 32 (0 : UInt8)) (repB (3 : UInt64) (List.replicate 32 (0 : UInt8)) (List.replicate 32 (0 : UInt8)))).drop 0).take 80)).map vu8)] [] (cs := flat [(1, [(vu64 (ins_of (((repB (3 : UInt64) (List.replicate 32 (0 : UInt8)) (List.replicate 32 (0 : UInt8)) ++ tgD true ([] : List UInt8) 0 0 ([] : Lg) (List.replicate 32 (0 : UInt8)) (repB (3 : UInt64) (List.replicate 32 (0 : UInt8)) (List.replicate 32 (0 : UInt8)))).drop 0).take 80)))]), (32, (me_of (((repB (3 : UInt64) (List.replicate 32 (0 : UInt8)) (List.replicate 32 (0 : UInt8)) ++ tgD true ([] : List UInt8) 0 0 ([] : Lg) (List.replicate 32 (0 : UInt8)) (repB (3 : UInt64) (List.replicate 32 (0 : UInt8)) (List.replicate 32 (0 : UInt8)))).drop 0).take 80)).map vu8), (32, (ch_of (((repB (3 : UInt64) (List.replicate 32 (0 : UInt8)) (List.replicate 32 (0 : UInt8)) ++ tgD true ([] : List UInt8) 0 0 ([] : Lg) (List.replicate 32 (0 : UInt8)) (repB (3 : UInt64) (List.replicate 32 (0 : UInt8)) (List.replicate 32 (0 : UInt8)))).drop 0).take 80)).map vu8)]) rfl Try.isAgg30 Try.sizeOf30 (h_70.ok _ M8) rfl rfl rfl rfl) ?_
 refine WL.want rfl rfl ?_
 refine qV rfl (R.buildS (pl := [(0, 1), (1, 32), (33, 32)]) (zs := [(1, [(vu64 0)]), (32, (List.replicate 32 (0 : UInt8)).map vu8), (32, (List.replicate 32 (0 : UInt8)).map vu8)]) (vs := [(0, (vu64 3))]) (out := [(1, [(vu64 3)]), (32, (List.replicate 32 (0 : UInt8)).map vu8), (32, (List.replicate 32 (0 : UInt8)).map vu8)]) (cs := flat [(1, [(vu64 3)]), (32, (List.replicate 32 (0 : UInt8)).map vu8), (32, (List.replicate 32 (0 : UInt8)).map vu8)]) Try.underlying30 (zv Try.typeInfo30 rfl) rfl (SsOk.cons (SOk.v rfl) (SsOk.cons (SOk.u8 lr) (SsOk.cons (SOk.u8 lr) SsOk.nil))) (pl30 _ Try.underlying30) rfl (FillR.cons [] [(1, [(vu64 0)])] [(1, [(vu64 3)])] [(32, (List.replicate 32 (0 : UInt8)).map vu8), (32, (List.replicate 32 (0 : UInt8)).map vu8)] rfl rfl rfl rfl (SsOk.cons (SOk.v rfl) SsOk.nil) rfl rfl rfl FillR.nil) rfl) ?_
 refine WL.want rfl rfl ?_
 refine qV rfl (R.eqA (xs := flat [(1, [(vu64 (ins_of (((repB (3 : UInt64) (List.replicate 32 (0 : UInt8)) (List.replicate 32 (0 : UInt8)) ++ tgD true ([] : List UInt8) 0 0 ([] : Lg) (List.replicate 32 (0 : UInt8)) (repB (3 : UInt64) (List.replicate 32 (0 : UInt8)) (List.replicate 32 (0 : UInt8)))).drop 0).take 80)))]), (32, (me_of (((repB (3 : UInt64) (List.replicate 32 (0 : UInt8)) (List.replicate 32 (0 : UInt8)) ++ tgD true ([] : List UInt8) 0 0 ([] : Lg) (List.replicate 32 (0 : UInt8)) (repB (3 : UInt64) (List.replicate 32 (0 : UInt8)) (List.replicate 32 (0 : UInt8)))).drop 0).take 80)).map vu8), (32, (ch_of (((repB (3 : UInt64) (List.replicate 32 (0 : UInt8)) (List.replicate 32 (0 : UInt8)) ++ tgD true ([] : List UInt8) 0 0 ([] : Lg) (List.replicate 32 (0 : UInt8)) (repB (3 : UInt64) (List.replicate 32 (0 : UInt8)) (List.replicate 32 (0 : UInt8)))).drop 0).take 80)).map vu8)]) (ys := flat [(1, [(vu64 3)]), (32, (List.replicate 32 (0 : UInt8)).map vu8), (32, (List.replicate 32 (0 : UInt8)).map vu8)]) (r := true) rfl rfl Try.eqGuardType30 kt30 (by decide) ag30 (Typ.struct (h := 2) (r := [(1, [(vu64 (ins_of (((repB (3 : UInt64) (List.replicate 32 (0 : UInt8)) (List.replicate 32 (0 : UInt8)) ++ tgD true ([] : List UInt8) 0 0 ([] : Lg) (List.replicate 32 (0 : UInt8)) (repB (3 : UInt64) (List.replicate 32 (0 : UInt8)) (List.replicate 32 (0 : UInt8)))).drop 0).take 80)))]), (32, (me_of (((repB (3 : UInt64) (List.replicate 32 (0 : UInt8)) (List.replicate 32 (0 : UInt8)) ++ tgD true ([] : List UInt8) 0 0 ([] : Lg) (List.replicate 32 (0 : UInt8)) (repB (3 : UInt64) (List.replicate 32 (0 : UInt8)) (List.replicate 32 (0 : UInt8)))).drop 0).take 80)).map vu8), (32, (ch_of (((repB (3 : UInt64) (List.replicate 32 (0 : UInt8)) (List.replicate 32 (0 : UInt8)) ++ tgD true ([] : List UInt8) 0 0 ([] : Lg) (List.replicate 32 (0 : UInt8)) (repB (3 : UInt64) (List.replicate 32 (0 : UInt8)) (List.replicate 32 (0 : UInt8)))).drop 0).take 80)).map vu8)]) (cs := flat [(1, [(vu64 (ins_of (((repB (3 : UInt64) (List.replicate 32 (0 : UInt8)) (List.replicate 32 (0 : UInt8)) ++ tgD true ([] : List UInt8) 0 0 ([] : Lg) (List.replicate 32 (0 : UInt8)) (repB (3 : UInt64) (List.replicate 32 (0 : UInt8)) (List.replicate 32 (0 : UInt8)))).drop 0).take 80)))]), (32, (me_of (((repB (3 : UInt64) (List.replicate 32 (0 : UInt8)) (List.replicate 32 (0 : UInt8)) ++ tgD true ([] : List UInt8) 0 0 ([] : Lg) (List.replicate 32 (0 : UInt8)) (repB (3 : UInt64) (List.replicate 32 (0 : UInt8)) (List.replicate 32 (0 : UInt8)))).drop 0).take 80)).map vu8), (32, (ch_of (((repB (3 : UInt64) (List.replicate 32 (0 : UInt8)) (List.replicate 32 (0 : UInt8)) ++ tgD true ([] : List UInt8) 0 0 ([] : Lg) (List.replicate 32 (0 : UInt8)) (repB (3 : UInt64) (List.replicate 32 (0 : UInt8)) (List.replicate 32 (0 : UInt8)))).drop 0).take 80)).map vu8)]) Try.underlying30 (TypF.cons (k := 1) rfl rfl (by decide) rfl (Typ.int Try.underlying28 ce28 (wfu64 (ins_of (((repB (3 : UInt64) (List.replicate 32 (0 : UInt8)) (List.replicate 32 (0 : UInt8)) ++ tgD true ([] : List UInt8) 0 0 ([] : Lg) (List.replicate 32 (0 : UInt8)) (repB (3 : UInt64) (List.replicate 32 (0 : UInt8)) (List.replicate 32 (0 : UInt8)))).drop 0).take 80)))) (TypF.cons (k := 32) rfl rfl (by decide) (len_map (me_len (by simp only [List.length_take, List.length_drop, (iss_len (repB_len lr lr) (tgD_len (dn := 0) (rfl : List.length ([] : List UInt8) = 32 * 0) h32_w_19))]; decide))) (Typ.u8s Try.underlying23 ce23 Try.underlying5 ce5 (me_len (by simp only [List.length_take, List.length_drop, (iss_len (repB_len lr lr) (tgD_len (dn := 0) (rfl : List.length ([] : List UInt8) = 32 * 0) h32_w_19))]; decide))) (TypF.cons (k := 32) rfl rfl (by decide) (len_map (ch_len (by simp only [List.length_take, List.length_drop, (iss_len (repB_len lr lr) (tgD_len (dn := 0) (rfl : List.length ([] : List UInt8) = 32 * 0) h32_w_19))]; decide))) (Typ.u8s Try.underlying23 ce23 Try.underlying5 ce5 (ch_len (by simp only [List.length_take, List.length_drop, (iss_len (repB_len lr lr) (tgD_len (dn := 0) (rfl : List.length ([] : List UInt8) = 32 * 0) h32_w_19))]; decide))) TypF.nil))) rfl (((SsOk.cons (SOk.v rfl) (SsOk.cons (SOk.u8 (me_len (by simp only [List.length_take, List.length_drop, (iss_len (repB_len lr lr) (tgD_len (dn := 0) (rfl : List.length ([] : List UInt8) = 32 * 0) h32_w_19))]; decide))) (SsOk.cons (SOk.u8 (ch_len (by simp only [List.length_take, List.length_drop, (iss_len (repB_len lr lr) (tgD_len (dn := 0) (rfl : List.length ([] : List UInt8) = 32 * 0) h32_w_19))]; decide))) SsOk.nil)))).len.trans ce30.symm)) (Typ.struct (h := 2) (r := [(1, [(vu64 3)]), (32, (List.replicate 32 (0 : UInt8)).map vu8), (32, (List.replicate 32 (0 : UInt8)).map vu8)]) (cs := flat [(1, [(vu64 3)]), (32, (List.replicate 32 (0 : UInt8)).map vu8), (32, (List.replicate 32 (0 : UInt8)).map vu8)]) Try.underlying30 (TypF.cons (k := 1) rfl rfl (by decide) rfl (Typ.int Try.underlying28 ce28 (wfu64 3)) (TypF.cons (k := 32) rfl rfl (by decide) (len_map lr) (Typ.u8s Try.underlying23 ce23 Try.underlying5 ce5 lr) (TypF.cons (k := 32) rfl rfl (by decide) (len_map lr) (Typ.u8s Try.underlying23 ce23 Try.underlying5 ce5 lr) TypF.nil))) rfl (((SsOk.cons (SOk.v rfl) (SsOk.cons (SOk.u8 lr) (SsOk.cons (SOk.u8 lr) SsOk.nil)))).len.trans ce30.symm)) (eqT (by rw [show (ins_of (((repB (3 : UInt64) (List.replicate 32 (0 : UInt8)) (List.replicate 32 (0 : UInt8)) ++ tgD true ([] : List UInt8) 0 0 ([] : Lg) (List.replicate 32 (0 : UInt8)) (repB (3 : UInt64) (List.replicate 32 (0 : UInt8)) (List.replicate 32 (0 : UInt8)))).drop 0).take 80)) = (3 : UInt64) from (by decide +kernel), show me_of (((repB (3 : UInt64) (List.replicate 32 (0 : UInt8)) (List.replicate 32 (0 : UInt8)) ++ tgD true ([] : List UInt8) 0 0 ([] : Lg) (List.replicate 32 (0 : UInt8)) (repB (3 : UInt64) (List.replicate 32 (0 : UInt8)) (List.replicate 32 (0 : UInt8)))).drop 0).take 80) = List.replicate 32 (0 : UInt8) from (by decide +kernel), show ch_of (((repB (3 : UInt64) (List.replicate 32 (0 : UInt8)) (List.replicate 32 (0 : UInt8)) ++ tgD true ([] : List UInt8) 0 0 ([] : Lg) (List.replicate 32 (0 : UInt8)) (repB (3 : UInt64) (List.replicate 32 (0 : UInt8)) (List.replicate 32 (0 : UInt8)))).drop 0).take 80) = List.replicate 32 (0 : UInt8) from (by decide +kernel)]))) (qV rfl (R.pickT (v := (.bool true)) rfl rfl) (qM (.bool true) rfl rfl ?_))
 refine WL.want rfl rfl ?_
 refine qM (vi 0) rfl rfl ?_
 refine WL.want rfl rfl ?_
 refine WL.call Try.call14 rfl rfl (c_num19 0 (by omega) _ ) rfl ?_
 rintro _ w_73 ⟨rfl, hc_72⟩
 have h_74 := h_70.same hc_72
 refine WL.want rfl rfl ?_
 refine qM (vi 0) rfl rfl ?_
 refine WL.want rfl rfl ?_
 refine WL.call Try.call14 rfl rfl (c_num19 0 (by omega) _ ) rfl ?_
 rintro _ w_76 ⟨rfl, hc_75⟩
 have h_77 := h_74.same hc_75
 refine WL.want rfl rfl ?_
 refine qV rfl (R.bin rfl rfl (bi_add (c := 0) (by omega) (by omega))) ?_
 refine WL.want rfl rfl ?_
 refine qV rfl (R.bin rfl rfl (bi_eql (r := true) (by decide))) (qV rfl (R.pickT (v := (.bool true)) rfl rfl) (qM (.bool true) rfl rfl ?_))
 refine WL.want rfl rfl ?_
 refine qM (vi 4) rfl rfl ?_
 refine WL.want rfl rfl ?_
 refine WL.call Try.call14 rfl rfl (c_num19 4 (by omega) _ ) rfl ?_
 rintro _ w_79 ⟨rfl, hc_78⟩
 have h_80 := h_77.same hc_78
 refine WL.want rfl rfl ?_
 refine qV rfl (R.bin rfl rfl (bi_eql (r := true) (by decide))) (qV rfl (R.pickT (v := (.bool true)) rfl rfl) (qM (.bool true) rfl rfl ?_))
 refine WL.want rfl rfl ?_
 refine qM (vi 1) rfl rfl ?_
 refine WL.want rfl rfl ?_
 refine WL.call Try.call14 rfl rfl (c_num19 1 (by omega) _ ) rfl ?_
 rintro _ w_82 ⟨rfl, hc_81⟩
 have h_83 := h_80.same hc_81
 refine WL.want rfl rfl ?_
 refine qV rfl (R.bin rfl rfl (bi_eql (r := true) (by decide))) (qV rfl (R.pickT (v := (.bool true)) rfl rfl) (qM (.bool true) rfl rfl ?_))
 refine WL.want rfl rfl ?_
 refine WL.call Try.call19 rfl rfl (c_aSize  _ ) rfl ?_
 rintro _ w_85 ⟨rfl, hc_84⟩
 have h_86 := h_83.same hc_84
 refine WL.want rfl rfl ?_
 refine qV rfl (R.bin rfl rfl (bi_eql (r := true) (by decide))) (qV rfl (R.pickT (v := (.bool true)) rfl rfl) (qA (.bool true) rfl rfl ?_))
 refine WL.nil (thn_n (WP.ret ?_))
 refine ret_of Try.results11 (RV.tmp (v := (.bool true)) rfl RV.nil) ?_
 exact ⟨rfl, h_86.chgS⟩
end Go.Proofs.Ytnhppjimimhlkaa

namespace Go.Proofs.Ytnhppjimimhlkaa
open Go.Vc Go.Orc Go.Sh Go.RowKit
set_option maxRecDepth 20000
theorem pl64 : ∀ fs, Try.prog.underlying 64 = some (.struct fs) → Places Try.prog fs [(0, 1), (1, 32), (33, 1), (34, 1), (35, 1)] := by
 intro fs h w; rw [Try.underlying64] at h; cases h; simp
theorem c_both19 {w00 : World} {L : List Ent} (id : Bool) (ms df : List UInt8) (hms : ms.length = 32) (da0 : Option Addr) (n cap0 : Nat) (hl : df.length = 32 * n) (hn : n ≤ 1000000) (w : World) (h_0 : HP w00 w (Ent.view da0 (df.map vu8) :: L)) :
  Cs Try.prog 12 [(.agg ⟨flat [(1, [(.bool id)]), (32, ms.map vu8), (1, [(.slice da0 n cap0)])]⟩)].toArray w (fun v w1 => ∃ ob mp da dc rb, v = .tuple [.pointer (some ⟨ob, 0, none⟩), .pointer (some ⟨rb, 0, none⟩)].toArray ∧ HP w00 w1 (Ent.blk ob .nw 50 [(1, [(.bool id)]), (32, ms.map vu8), (1, [(.slice da n dc)]), (1, [(vi 0)]), (1, [(.map (some mp))]), (1, [(.slice none 0 0)])] :: Ent.row none 0 0 111 67 [] :: Ent.obj mp .nw (.map (mArr ([] : Lg)) 0) :: Ent.pin (sblks []) (fun w => Lgs w [] ([] : Lg)) :: Ent.view da (df.map vu8) :: Ent.blk rb .nw 64 [(1, [(.bool id)]), (32, ms.map vu8), (1, [(.slice da0 n cap0)]), (1, [(vi 0)]), (1, [(.slice none 0 0)])] :: Ent.view da0 (df.map vu8) :: L)) := by
 refine Cs.of (n := 19) (args := [(.agg ⟨flat [(1, [(.bool id)]), (32, ms.map vu8), (1, [(.slice da0 n cap0)])]⟩)]) Try.func12 rfl rfl rfl ?_
 refine WP.seq (WP.reg ?_)
 refine WL.box (v := (.agg ⟨flat [(1, [(.bool id)]), (32, ms.map vu8), (1, [(.slice da0 n cap0)])]⟩)) (segs := [(1, [(.bool id)]), (32, ms.map vu8), (1, [(.slice da0 n cap0)])]) h_0 rfl rfl (SsOk.cons (SOk.v rfl) (SsOk.cons (SOk.u8 hms) (SsOk.cons (SOk.v rfl) SsOk.nil))) rfl (fun b_1 w_2 h_3 => ?_)
 refine qA (.pointer none) rfl rfl (qA (.pointer none) rfl rfl ?_)
 refine WL.nil (thn_n (WP.seq ?_))
 refine WP.cutG (G := Nat × Nat × Option Addr × Nat × Nat) [2, 3, 4, 5, 6, 7, 8, 9, 10, 11, 12, 13, 14, 15, 16, 17, 18] (fun (bY1Y6Y0Y0, bY1Y14Y0Y0, aY1Y6Y0Y0, cY1Y6Y0Y0, bY1Y6Y0Y1) => [(2, (pO bY1Y6Y0Y0 0)), (3, (pO bY1Y14Y0Y0 0)), (4, (pO b_1 0)), (5, (.bool id)), (6, (pO b_1 1)), (7, (.agg ⟨ms.map vu8⟩)), (8, (pO b_1 33)), (9, (.slice da0 n cap0)), (11, (pO b_1 0)), (12, (.bool id)), (13, (pO b_1 1)), (14, (.agg ⟨ms.map vu8⟩)), (15, (pO b_1 33)), (16, (.slice da0 n cap0)), (17, (.agg ⟨flat [(1, [(.bool id)]), (32, ms.map vu8), (1, [(.slice da0 n cap0)]), (1, [(vi 0)]), (1, [(.slice none 0 0)])]⟩)), (10, (pO bY1Y6Y0Y0 0)), (18, (pO bY1Y14Y0Y0 0))]) (fun (bY1Y6Y0Y0, bY1Y14Y0Y0, aY1Y6Y0Y0, cY1Y6Y0Y0, bY1Y6Y0Y1) w1 => HP w00 w1 (Ent.blk bY1Y14Y0Y0 .nw 64 [(1, [(.bool id)]), (32, ms.map vu8), (1, [(.slice da0 n cap0)]), (1, [(vi 0)]), (1, [(.slice none 0 0)])] :: Ent.blk bY1Y6Y0Y0 .nw 50 [(1, [(.bool id)]), (32, ms.map vu8), (1, [(.slice aY1Y6Y0Y0 n cY1Y6Y0Y0)]), (1, [(vi 0)]), (1, [(.map (some bY1Y6Y0Y1))]), (1, [(.slice none 0 0)])] :: Ent.row none 0 0 111 67 [] :: Ent.obj bY1Y6Y0Y1 .nw (.map (mArr ([] : Lg)) 0) :: Ent.pin (sblks []) (fun w => Lgs w [] ([] : Lg)) :: Ent.view aY1Y6Y0Y0 (df.map vu8) :: Ent.view da0 (df.map vu8) :: Ent.blk b_1 .nw 26 [(1, [(.bool id)]), (32, ms.map vu8), (1, [(.slice da0 n cap0)])] :: L)) ?_ ?_
 ·refine WP.drawT (SL w00.heap.size [.blk b_1 .nw 26 [(1, [(.bool id)]), (32, ms.map vu8), (1, [(.slice da0 n cap0)])], .view da0 (df.map vu8)]) (.q 0 (.q 1 (.q 2 (.q 3 (.q 4 (.q 5 (.q 7 (.q 8 (.q 9 (.q 10 (.q 11 (.q 12 (.q 13 (.s2 6 14 (.q 15 (.s 14 (.q 16 .nil))) (.s 6 (.q 15 (.q 16 .nil))))))))))))))))) (by kernel_rfl) (by kernel_rfl) rfl (by kernel_rfl) (fun w_4 hc_6 => (SL.cons ((h_3.same hc_6).ok _ M0) (SL.cons ((h_3.same hc_6).ok _ M1) (SL.nil _ _)))) (fun w_4 hc_6 => ?_)
  have h_5 := h_3.same hc_6
  refine qT rfl rfl (fun wq hS => R.fieldAddr (b := b_1) (off := 0) (off' := 0) rfl Try.underlying26 rfl Try.sizeOf4 rfl rfl) ?_
  refine qT rfl rfl (fun wq hS => R.load1 (b := b_1) (off := 0) (v := (.bool id)) rfl Try.isAgg4 (hS _ M0) Sg.h) ?_
  refine qT rfl rfl (fun wq hS => R.fieldAddr (b := b_1) (off := 0) (off' := 1) rfl Try.underlying26 rfl Try.sizeOf23 rfl rfl) ?_
  refine qT rfl rfl (fun wq hS => R.loadA (b := b_1) (off := 1) [(1, [(.bool id)])] [(32, ms.map vu8)] [(1, [(.slice da0 n cap0)])] (cs := ms.map vu8) rfl Try.isAgg23 Try.sizeOf23 (hS _ M0) rfl rfl rfl rfl) ?_
  refine qT rfl rfl (fun wq hS => R.fieldAddr (b := b_1) (off := 0) (off' := 33) rfl Try.underlying26 rfl Try.sizeOf24 rfl rfl) ?_
  refine qT rfl rfl (fun wq hS => R.load1 (b := b_1) (off := 33) (v := (.slice da0 n cap0)) rfl Try.isAgg24 (hS _ M0) (Sg.t rfl (Sg.t rfl Sg.h))) ?_
  refine qT rfl rfl (fun wq hS => R.fieldAddr (b := b_1) (off := 0) (off' := 0) rfl Try.underlying26 rfl Try.sizeOf4 rfl rfl) ?_
  refine qT rfl rfl (fun wq hS => R.load1 (b := b_1) (off := 0) (v := (.bool id)) rfl Try.isAgg4 (hS _ M0) Sg.h) ?_
  refine qT rfl rfl (fun wq hS => R.fieldAddr (b := b_1) (off := 0) (off' := 1) rfl Try.underlying26 rfl Try.sizeOf23 rfl rfl) ?_
  refine qT rfl rfl (fun wq hS => R.loadA (b := b_1) (off := 1) [(1, [(.bool id)])] [(32, ms.map vu8)] [(1, [(.slice da0 n cap0)])] (cs := ms.map vu8) rfl Try.isAgg23 Try.sizeOf23 (hS _ M0) rfl rfl rfl rfl) ?_
  refine qT rfl rfl (fun wq hS => R.fieldAddr (b := b_1) (off := 0) (off' := 33) rfl Try.underlying26 rfl Try.sizeOf24 rfl rfl) ?_
  refine qT rfl rfl (fun wq hS => R.load1 (b := b_1) (off := 33) (v := (.slice da0 n cap0)) rfl Try.isAgg24 (hS _ M0) (Sg.t rfl (Sg.t rfl Sg.h))) ?_
  refine qT rfl rfl (fun wq hS => R.buildS (pl := [(0, 1), (1, 32), (33, 1), (34, 1), (35, 1)]) (zs := [(1, [(.bool false)]), (32, (List.replicate 32 (0 : UInt8)).map vu8), (1, [(.slice none 0 0)]), (1, [(vi 0)]), (1, [(.slice none 0 0)])]) (vs := [(0, (.bool id)), (1, (.agg ⟨ms.map vu8⟩)), (2, (.slice da0 n cap0))]) (out := [(1, [(.bool id)]), (32, ms.map vu8), (1, [(.slice da0 n cap0)]), (1, [(vi 0)]), (1, [(.slice none 0 0)])]) (cs := flat [(1, [(.bool id)]), (32, ms.map vu8), (1, [(.slice da0 n cap0)]), (1, [(vi 0)]), (1, [(.slice none 0 0)])]) Try.underlying64 (zv Try.typeInfo64 rfl) rfl (SsOk.cons (SOk.v rfl) (SsOk.cons (SOk.u8 lr) (SsOk.cons (SOk.v rfl) (SsOk.cons (SOk.v rfl) (SsOk.cons (SOk.v rfl) SsOk.nil))))) (pl64 _ Try.underlying64) rfl (FillR.cons [] [(1, [(.bool false)])] [(1, [(.bool id)])] [(32, (List.replicate 32 (0 : UInt8)).map vu8), (1, [(.slice none 0 0)]), (1, [(vi 0)]), (1, [(.slice none 0 0)])] rfl rfl rfl rfl (SsOk.cons (SOk.v rfl) SsOk.nil) rfl rfl rfl (FillR.cons [(1, [(.bool id)])] [(32, (List.replicate 32 (0 : UInt8)).map vu8)] [(32, ms.map vu8)] [(1, [(.slice none 0 0)]), (1, [(vi 0)]), (1, [(.slice none 0 0)])] rfl rfl rfl rfl (SsOk.cons (SOk.u8 hms) SsOk.nil) rfl rfl rfl (FillR.cons [(1, [(.bool id)]), (32, ms.map vu8)] [(1, [(.slice none 0 0)])] [(1, [(.slice da0 n cap0)])] [(1, [(vi 0)]), (1, [(.slice none 0 0)])] rfl rfl rfl rfl (SsOk.cons (SOk.v rfl) SsOk.nil) rfl rfl rfl FillR.nil))) rfl) ?_
  refine WT.s2 ?_ ?_
  ·refine Op1.one rfl (Wn.no rfl) ?_
   have h_8 := h_5.up J1
   refine WL.call Try.call17 rfl rfl (c_ONew id ms df hms da0 n cap0 hl (by omega) _ h_8) rfl ?_
   rintro _ w_13 ⟨b_9, b_10, a_11, c_12, rfl, h_14⟩
   refine WL.nil ?_
   refine ⟨(SL.cons (h_14.ok _ M6) (SL.cons (h_14.ok _ M5) (SL.nil _ _))), ?_⟩
   refine qT rfl rfl (fun wq hS => R.assign (v := (pO b_9 0)) rfl) ?_
   refine WT.s (Op1.one rfl (Wn.no rfl) ?_)
   refine WL.box (v := (.agg ⟨flat [(1, [(.bool id)]), (32, ms.map vu8), (1, [(.slice da0 n cap0)]), (1, [(vi 0)]), (1, [(.slice none 0 0)])]⟩)) (segs := [(1, [(.bool id)]), (32, ms.map vu8), (1, [(.slice da0 n cap0)]), (1, [(vi 0)]), (1, [(.slice none 0 0)])]) h_14 rfl rfl (SsOk.cons (SOk.v rfl) (SsOk.cons (SOk.u8 hms) (SsOk.cons (SOk.v rfl) (SsOk.cons (SOk.v rfl) (SsOk.cons (SOk.v rfl) SsOk.nil))))) rfl (fun b_15 w_16 h_17 => ?_)
   refine WL.nil ?_
   refine ⟨(SL.cons (h_17.ok _ M7) (SL.cons (h_17.ok _ M6) (SL.nil _ _))), ?_⟩
   refine qT rfl rfl (fun wq hS => R.assign (v := (pO b_15 0)) rfl) ?_
   refine WT.nil (thn_n ?_)
   exact ⟨(b_9, b_15, a_11, c_12, b_10), (Ag.upd rfl (U4 rfl rfl rfl rfl (U4 rfl rfl rfl rfl (U4 rfl rfl rfl rfl (U4 rfl rfl rfl rfl (Ag.refl _ _)))))), ⟨rfl, rfl, rfl, rfl, rfl, rfl, rfl, rfl, rfl, rfl, rfl, rfl, rfl, rfl, rfl, rfl, rfl, trivial⟩, h_17⟩
  ·refine Op1.one rfl (Wn.no rfl) ?_
   refine WL.box (v := (.agg ⟨flat [(1, [(.bool id)]), (32, ms.map vu8), (1, [(.slice da0 n cap0)]), (1, [(vi 0)]), (1, [(.slice none 0 0)])]⟩)) (segs := [(1, [(.bool id)]), (32, ms.map vu8), (1, [(.slice da0 n cap0)]), (1, [(vi 0)]), (1, [(.slice none 0 0)])]) h_5 rfl rfl (SsOk.cons (SOk.v rfl) (SsOk.cons (SOk.u8 hms) (SsOk.cons (SOk.v rfl) (SsOk.cons (SOk.v rfl) (SsOk.cons (SOk.v rfl) SsOk.nil))))) rfl (fun b_18 w_19 h_20 => ?_)
   refine WL.nil ?_
   refine ⟨(SL.cons (h_20.ok _ M1) (SL.cons (h_20.ok _ M2) (SL.nil _ _))), ?_⟩
   refine WT.s (Op1.one rfl (Wn.no rfl) ?_)
   have h_21 := h_20.up J2
   refine WL.call Try.call17 rfl rfl (c_ONew id ms df hms da0 n cap0 hl (by omega) _ h_21) rfl ?_
   rintro _ w_26 ⟨b_22, b_23, a_24, c_25, rfl, h_27⟩
   refine WL.nil ?_
   refine ⟨(SL.cons (h_27.ok _ M7) (SL.cons (h_27.ok _ M5) (SL.nil _ _))), ?_⟩
   refine qT rfl rfl (fun wq hS => R.assign (v := (pO b_22 0)) rfl) ?_
   refine qT rfl rfl (fun wq hS => R.assign (v := (pO b_18 0)) rfl) ?_
   refine WT.nil (thn_n ?_)
   have h_35 := (((((((h_27.up J7).up J6).up J6).up J6).up J6).up J6).up J6).up J7
   exact ⟨(b_22, b_18, a_24, c_25, b_23), (Ag.upd rfl (U4 rfl rfl rfl rfl (U4 rfl rfl rfl rfl (U4 rfl rfl rfl rfl (U4 rfl rfl rfl rfl (Ag.refl _ _)))))), ⟨rfl, rfl, rfl, rfl, rfl, rfl, rfl, rfl, rfl, rfl, rfl, rfl, rfl, rfl, rfl, rfl, rfl, trivial⟩, h_35⟩
 ·rintro ⟨b_39, b_40, a_41, c_42, b_43⟩ J_36 w_37 h_38
  refine thn_n (WP.ret ?_)
  refine ret_of Try.results12 (RV.tmp (v := (pO b_39 0)) rfl (RV.tmp (v := (pO b_40 0)) rfl RV.nil)) ?_
  have h_52 := ((((((((h_38.up J7).drop rfl).up J6).up J1).up J6).up J6).up J6).up J6).up J6
  exact ⟨_, _, _, _, _, rfl, h_52⟩

theorem okN : ok32 ([] : Lg) := fun p hp => by cases hp
section
variable {id : Bool} {df : List UInt8} {dn u : Nat} {lg : Lg} {ms b : List UInt8}
end
section
variable {ins : UInt64} {me ch t : List UInt8}
end
end Go.Proofs.Ytnhppjimimhlkaa

namespace Go.Proofs.Ytnhppjimimhlkaa
open Go.Vc Go.Orc Go.Sh Go.RowKit
set_option maxRecDepth 20000

theorem c_rrBytes (ins : UInt64) (me ch : List UInt8) (hme : me.length = 32) (hch : ch.length = 32) (w : World) :
  Cs Try.prog 54 [(.agg ⟨flat [(1, [(vu64 ins)]), (32, me.map vu8), (32, ch.map vu8)]⟩)].toArray w (fun v w1 => ∃ a cap, v = .slice a 80 cap ∧ Chg w w1 [] ∧ Own w.heap.size w1 5 1 a 80 cap ((repB ins me ch).map vu8)) := by
 refine Cs.of (n := 13) (args := [(.agg ⟨flat [(1, [(vu64 ins)]), (32, me.map vu8), (32, ch.map vu8)]⟩)]) Try.func54 rfl rfl rfl ?_
 have h_0 := HP.init w
 refine WP.seq (WP.reg ?_)
 refine WL.box (v := (.agg ⟨flat [(1, [(vu64 ins)]), (32, me.map vu8), (32, ch.map vu8)]⟩)) (segs := [(1, [(vu64 ins)]), (32, me.map vu8), (32, ch.map vu8)]) h_0 rfl rfl (SsOk.cons (SOk.v rfl) (SsOk.cons (SOk.u8 hme) (SsOk.cons (SOk.u8 hch) SsOk.nil))) rfl (fun b_1 w_2 h_3 => ?_)
 refine qA (.slice none 0 0) rfl rfl ?_
 refine WL.nil (thn_n (WP.seq ?_))
 refine WP.cutG (G := Option Addr × Nat × Nat × Option Addr × Nat × Nat) [2, 3, 4, 5, 6, 7, 8, 9, 10, 11, 12] (fun (aY1Y9Y0Y0, capY1Y9Y0Y0, bY1Y0Y0Y0, aY1Y3Y0Y0, capY1Y3Y0Y0, bY1Y8Y0Y0) => [(2, (.slice aY1Y9Y0Y0 ([([114, 101, 112, 111, 114, 116, 0, 0] : List UInt8), leN 8 ins.toNat, me, ch].flatten.length) capY1Y9Y0Y0)), (4, (pO b_1 0)), (5, (vu64 ins)), (7, (pO b_1 1)), (8, (.slice (some ⟨b_1, 1, none⟩) 32 32)), (9, (pO b_1 33)), (10, (.slice (some ⟨b_1, 33, none⟩) 32 32)), (3, (.slice (some ⟨bY1Y0Y0Y0, 0, none⟩) 8 8)), (6, (.slice aY1Y3Y0Y0 8 capY1Y3Y0Y0)), (11, (.slice (some ⟨bY1Y8Y0Y0, 0, none⟩) 4 4)), (12, (.slice aY1Y9Y0Y0 ([([114, 101, 112, 111, 114, 116, 0, 0] : List UInt8), leN 8 ins.toNat, me, ch].flatten.length) capY1Y9Y0Y0))]) (fun (aY1Y9Y0Y0, capY1Y9Y0Y0, bY1Y0Y0Y0, aY1Y3Y0Y0, capY1Y3Y0Y0, bY1Y8Y0Y0) w1 => HP w w1 [.row aY1Y9Y0Y0 ([([114, 101, 112, 111, 114, 116, 0, 0] : List UInt8), leN 8 ins.toNat, me, ch].flatten.length) capY1Y9Y0Y0 5 1 (([([114, 101, 112, 111, 114, 116, 0, 0] : List UInt8), leN 8 ins.toNat, me, ch].flatten).map vu8), .blk bY1Y8Y0Y0 .nw 37 [(4, [(.slice (some ⟨bY1Y0Y0Y0, 0, none⟩) 8 8), (.slice aY1Y3Y0Y0 8 capY1Y3Y0Y0), (.slice (some ⟨b_1, 1, none⟩) 32 32), (.slice (some ⟨b_1, 33, none⟩) 32 32)])], .row aY1Y3Y0Y0 8 capY1Y3Y0Y0 5 1 ((leN 8 ins.toNat).map vu8), .blk bY1Y0Y0Y0 .nw 5 [(8, ([114, 101, 112, 111, 114, 116, 0, 0] : List UInt8).map vu8)], .blk b_1 .nw 30 [(1, [(vu64 ins)]), (32, me.map vu8), (32, ch.map vu8)]]) ?_ ?_
 ·refine WP.drawT (SL w.heap.size [.blk b_1 .nw 30 [(1, [(vu64 ins)]), (32, me.map vu8), (32, ch.map vu8)]]) (.q 1 (.q 2 (.q 4 (.q 5 (.q 6 (.q 7 (.s2 0 3 (.s 3 (.s 8 (.s 9 (.q 10 .nil)))) (.s 0 (.s 8 (.s 9 (.q 10 .nil))))))))))) (by kernel_rfl) (by kernel_rfl) rfl (by kernel_rfl) (fun w_4 hc_6 => (SL.cons ((h_3.same hc_6).ok _ M0) (SL.nil _ _))) (fun w_4 hc_6 => ?_)
  have h_5 := h_3.same hc_6
  refine qT rfl rfl (fun wq hS => R.fieldAddr (b := b_1) (off := 0) (off' := 0) rfl Try.underlying30 rfl Try.sizeOf28 rfl rfl) ?_
  refine qT rfl rfl (fun wq hS => R.load1 (b := b_1) (off := 0) (v := (vu64 ins)) rfl Try.isAgg28 (hS _ M0) Sg.h) ?_
  refine qT rfl rfl (fun wq hS => R.fieldAddr (b := b_1) (off := 0) (off' := 1) rfl Try.underlying30 rfl Try.sizeOf23 rfl rfl) ?_
  refine qT rfl rfl (fun wq hS => R.sliceA (b := b_1) (off := 1) (off' := 1) (l := 0) (h := 32) rfl EvB.dflt EvB.dflt (by decide) (by decide) Try.underlying23 Try.sizeOf5 rfl) ?_
  refine qT rfl rfl (fun wq hS => R.fieldAddr (b := b_1) (off := 0) (off' := 33) rfl Try.underlying30 rfl Try.sizeOf23 rfl rfl) ?_
  refine qT rfl rfl (fun wq hS => R.sliceA (b := b_1) (off := 33) (off' := 33) (l := 0) (h := 32) rfl EvB.dflt EvB.dflt (by decide) (by decide) Try.underlying23 Try.sizeOf5 rfl) ?_
  refine WT.s2 ?_ ?_
  ·refine Op1.one rfl (Wn.no rfl) ?_
   refine WL.buildSl (vs := [(0, (vu8 114)), (1, (vu8 101)), (2, (vu8 112)), (3, (vu8 111)), (4, (vu8 114)), (5, (vu8 116)), (6, (vu8 0)), (7, (vu8 0))]) (cs := ([114, 101, 112, 111, 114, 116, 0, 0] : List UInt8).map vu8) h_5 Try.underlying37 Try.sizeOf5 (zv Try.typeInfo5 rfl) rfl rfl (by kernel_rfl) rfl (one_u8 _) rfl rfl (fun b_7 w_8 h_9 => ?_)
   refine WL.nil ?_
   refine ⟨(SL.cons (h_9.ok _ M1) (SL.nil _ _)), ?_⟩
   refine WT.s (Op1.one rfl (Wn.no rfl) ?_)
   refine WL.call Try.call88 rfl rfl (c_PutR ins 8 (by omega) _) rfl ?_
   rintro _ w_12 ⟨a_10, cap_11, rfl, hc_13, ho_14⟩
   have h_15 := h_9.gotRow hc_13 ho_14
   refine WL.nil ?_
   refine ⟨(SL.cons (h_15.ok _ M2) (SL.nil _ _)), ?_⟩
   refine WT.s (Op1.one rfl (Wn.no rfl) ?_)
   refine WL.buildSl (vs := [(0, (.slice (some ⟨b_7, 0, none⟩) 8 8)), (1, (.slice a_10 8 cap_11)), (2, (.slice (some ⟨b_1, 1, none⟩) 32 32)), (3, (.slice (some ⟨b_1, 33, none⟩) 32 32))]) (cs := [(.slice (some ⟨b_7, 0, none⟩) 8 8), (.slice a_10 8 cap_11), (.slice (some ⟨b_1, 1, none⟩) 32 32), (.slice (some ⟨b_1, 33, none⟩) 32 32)]) h_15 Try.underlying36 Try.sizeOf37 (zv Try.typeInfo37 rfl) rfl rfl (by kernel_rfl) rfl (by simp [Value.oneCell']) rfl rfl (fun b_16 w_17 h_18 => ?_)
   refine WL.nil ?_
   refine ⟨(SL.cons (h_18.ok _ M3) (SL.nil _ _)), ?_⟩
   refine WT.s (Op1.one rfl (Wn.no rfl) ?_)
   refine WL.call Try.call87 rfl rfl (c_JoinR (some ⟨b_16, 0, none⟩) 4 4 [(.slice (some ⟨b_7, 0, none⟩) 8 8), (.slice a_10 8 cap_11), (.slice (some ⟨b_1, 1, none⟩) 32 32), (.slice (some ⟨b_1, 33, none⟩) 32 32)] [([114, 101, 112, 111, 114, 116, 0, 0] : List UInt8), leN 8 ins.toNat, me, ch] rfl (by simp only [List.flatten_cons, List.flatten_nil, List.length_append, List.length_nil, List.length_cons, leN_len, hme, hch]; decide) (by omega) _ (viewB (h_18.ok _ M0) Sg.h) (Sls.cons (rfl : List.length ([114, 101, 112, 111, 114, 116, 0, 0] : List UInt8) = 8) (by decide) (viewB (h_18.ok _ M2) Sg.h) (Sls.cons (leN_len ..) (h_18.own M1).2.2.1 (ownView (h_18.ok _ M1)) (Sls.cons hme (by decide) (viewB (h_18.ok _ M3) (Sg.t rfl Sg.h)) (Sls.cons hch (by decide) (viewB (h_18.ok _ M3) (Sg.t rfl (Sg.t rfl Sg.h))) Sls.nil))))) rfl ?_
   rintro _ w_21 ⟨a_19, cap_20, rfl, hc_22, ho_23⟩
   have h_24 := h_18.gotRow hc_22 ho_23
   refine WL.nil ?_
   refine ⟨(SL.cons (h_24.ok _ M4) (SL.nil _ _)), ?_⟩
   refine qT rfl rfl (fun wq hS => R.assign (v := (.slice a_19 ([([114, 101, 112, 111, 114, 116, 0, 0] : List UInt8), leN 8 ins.toNat, me, ch].flatten.length) cap_20)) rfl) ?_
   refine WT.nil (thn_n ?_)
   exact ⟨(a_19, cap_20, b_7, a_10, cap_11, b_16), (Ag.upd rfl (U2 rfl rfl (U4 rfl rfl rfl rfl (U4 rfl rfl rfl rfl (Ag.refl _ _))))), ⟨rfl, rfl, rfl, rfl, rfl, rfl, rfl, rfl, rfl, rfl, rfl, trivial⟩, h_24⟩
  ·refine Op1.one rfl (Wn.no rfl) ?_
   refine WL.call Try.call88 rfl rfl (c_PutR ins 8 (by omega) _) rfl ?_
   rintro _ w_27 ⟨a_25, cap_26, rfl, hc_28, ho_29⟩
   have h_30 := h_5.gotRow hc_28 ho_29
   refine WL.nil ?_
   refine ⟨(SL.cons (h_30.ok _ M1) (SL.nil _ _)), ?_⟩
   refine WT.s (Op1.one rfl (Wn.no rfl) ?_)
   refine WL.buildSl (vs := [(0, (vu8 114)), (1, (vu8 101)), (2, (vu8 112)), (3, (vu8 111)), (4, (vu8 114)), (5, (vu8 116)), (6, (vu8 0)), (7, (vu8 0))]) (cs := ([114, 101, 112, 111, 114, 116, 0, 0] : List UInt8).map vu8) h_30 Try.underlying37 Try.sizeOf5 (zv Try.typeInfo5 rfl) rfl rfl (by kernel_rfl) rfl (one_u8 _) rfl rfl (fun b_31 w_32 h_33 => ?_)
   refine WL.nil ?_
   refine ⟨(SL.cons (h_33.ok _ M2) (SL.nil _ _)), ?_⟩
   refine WT.s (Op1.one rfl (Wn.no rfl) ?_)
   refine WL.buildSl (vs := [(0, (.slice (some ⟨b_31, 0, none⟩) 8 8)), (1, (.slice a_25 8 cap_26)), (2, (.slice (some ⟨b_1, 1, none⟩) 32 32)), (3, (.slice (some ⟨b_1, 33, none⟩) 32 32))]) (cs := [(.slice (some ⟨b_31, 0, none⟩) 8 8), (.slice a_25 8 cap_26), (.slice (some ⟨b_1, 1, none⟩) 32 32), (.slice (some ⟨b_1, 33, none⟩) 32 32)]) h_33 Try.underlying36 Try.sizeOf37 (zv Try.typeInfo37 rfl) rfl rfl (by kernel_rfl) rfl (by simp [Value.oneCell']) rfl rfl (fun b_34 w_35 h_36 => ?_)
   refine WL.nil ?_
   refine ⟨(SL.cons (h_36.ok _ M3) (SL.nil _ _)), ?_⟩
   refine WT.s (Op1.one rfl (Wn.no rfl) ?_)
   refine WL.call Try.call87 rfl rfl (c_JoinR (some ⟨b_34, 0, none⟩) 4 4 [(.slice (some ⟨b_31, 0, none⟩) 8 8), (.slice a_25 8 cap_26), (.slice (some ⟨b_1, 1, none⟩) 32 32), (.slice (some ⟨b_1, 33, none⟩) 32 32)] [([114, 101, 112, 111, 114, 116, 0, 0] : List UInt8), leN 8 ins.toNat, me, ch] rfl (by simp only [List.flatten_cons, List.flatten_nil, List.length_append, List.length_nil, List.length_cons, leN_len, hme, hch]; decide) (by omega) _ (viewB (h_36.ok _ M0) Sg.h) (Sls.cons (rfl : List.length ([114, 101, 112, 111, 114, 116, 0, 0] : List UInt8) = 8) (by decide) (viewB (h_36.ok _ M1) Sg.h) (Sls.cons (leN_len ..) (h_36.own M2).2.2.1 (ownView (h_36.ok _ M2)) (Sls.cons hme (by decide) (viewB (h_36.ok _ M3) (Sg.t rfl Sg.h)) (Sls.cons hch (by decide) (viewB (h_36.ok _ M3) (Sg.t rfl (Sg.t rfl Sg.h))) Sls.nil))))) rfl ?_
   rintro _ w_39 ⟨a_37, cap_38, rfl, hc_40, ho_41⟩
   have h_42 := h_36.gotRow hc_40 ho_41
   refine WL.nil ?_
   refine ⟨(SL.cons (h_42.ok _ M4) (SL.nil _ _)), ?_⟩
   refine qT rfl rfl (fun wq hS => R.assign (v := (.slice a_37 ([([114, 101, 112, 111, 114, 116, 0, 0] : List UInt8), leN 8 ins.toNat, me, ch].flatten.length) cap_38)) rfl) ?_
   refine WT.nil (thn_n ?_)
   have h_47 := ((((h_42.up J4).up J3).up J4).up J4).up J4
   exact ⟨(a_37, cap_38, b_31, a_25, cap_26, b_34), (Ag.upd rfl (U2 rfl rfl (U4 rfl rfl rfl rfl (U4 rfl rfl rfl rfl (Ag.refl _ _))))), ⟨rfl, rfl, rfl, rfl, rfl, rfl, rfl, rfl, rfl, rfl, rfl, trivial⟩, h_47⟩
 ·rintro ⟨a_51, cap_52, b_53, a_54, cap_55, b_56⟩ J_48 w_49 h_50
  refine thn_n (WP.ret ?_)
  refine ret_of Try.results54 (RV.tmp (v := (.slice a_51 ([([114, 101, 112, 111, 114, 116, 0, 0] : List UInt8), leN 8 ins.toNat, me, ch].flatten.length) cap_52)) rfl RV.nil) ?_
  have hx := h_50.own M0
  exact ⟨_, _, by first | rfl | exact congrArg (fun n => Value.slice _ n _) (by simp [leN_len, hme, hch]), h_50.chgS, by first | exact hx | simpa [repB, markB, leN_len, hme, hch] using hx⟩

theorem c_rtag_r {w00 : World} {L : List Ent} (id : Bool) (ob : Nat) (ms df : List UInt8) (hms : ms.length = 32) (da : Option Addr) (dn dc u : Nat) (hdf : df.length = 32 * dn) (la : Option Addr) (lc : Nat) (lx : List Value) (lg : Lg) (hu : u ≤ 500000) (hlg : lg.length ≤ 500000) (a : Option Addr) (n cap : Nat) (bs : List UInt8) (hl : bs.length = n) (hn : n ≤ 100000) (w : World) (h_0 : HP w00 w (Ent.blk ob .nw 64 [(1, [(.bool id)]), (32, ms.map vu8), (1, [(.slice da dn dc)]), (1, [(vi ((u : Nat) : Int))]), (1, [(.slice la lg.length lc)])] :: Ent.row la lg.length lc 111 67 lx :: Ent.pin (sblks lx) (fun w => Lgs w lx lg) :: Ent.view da (df.map vu8) :: Ent.row a n cap 5 1 (bs.map vu8) :: L)) :
  Cs Try.prog 55 [(.pointer (some ⟨ob, 0, none⟩)), (.slice a n cap)].toArray w (fun v w1 => ∃ la' lc' lx', v = (.agg ⟨(tgD id df dn u lg ms bs).map vu8⟩) ∧ HP w00 w1 (Ent.blk ob .nw 64 [(1, [(.bool id)]), (32, ms.map vu8), (1, [(.slice da dn dc)]), (1, [(vi (((tgU id df dn u lg ms bs) : Nat) : Int))]), (1, [(.slice la' ((tgL id df dn u lg ms bs).length) lc')])] :: Ent.row la' ((tgL id df dn u lg ms bs).length) lc' 111 67 lx' :: Ent.pin (sblks lx') (fun w => Lgs w lx' (tgL id df dn u lg ms bs)) :: Ent.view da (df.map vu8) :: Ent.row a n cap 5 1 (bs.map vu8) :: L)) := by
 refine Cs.of (n := 10) (args := [(pO ob 0), (.slice a n cap)]) Try.func55 rfl rfl rfl ?_
 refine WP.seq (WP.reg ?_)
 refine WL.alloc (segs := [(32, (List.replicate 32 (0 : UInt8)).map vu8)]) h_0 (zv Try.typeInfo23 rfl) rfl (SsOk.cons (SOk.u8 lr) SsOk.nil) rfl (fun b_1 w_2 h_3 => ?_)
 refine WL.nil (thn_n (WP.seq (WP.reg ?_)))
 refine qM (pO ob 0) rfl rfl (qM (pO ob 0) rfl rfl ?_)
 have h_4 := HP_viewNil h_3
 have h_8 := (((h_4.up J5).up J5).up J5).up J5
 have h32_w_12 := (Lgs.ok32 (h_8.ok _ M2).1)
 refine WL.call Try.call90 rfl rfl (c_rKey id ob ms df hms da dn dc u hdf la lc lx lg (by first | omega | (have h1 := anU_le id u lg ((3, ms, 9, ([] : List UInt8))); exact Nat.le_trans h1 (by omega))) (by first | omega | (have h1 := anL_le id df dn u lg ((3, ms, 9, ([] : List UInt8))); exact Nat.le_trans h1 (by omega))) 9 ([] : List UInt8) none 0 0 (by omega) (by first | decide | omega) (rfl : List.length ([] : List UInt8) = 0) _ h_8) rfl ?_
 rintro _ w_12 ⟨la_9, lc_10, lx_11, rfl, h_13⟩
 refine qM (.slice a n cap) rfl rfl ?_
 have h_18 := ((((h_13.up J6).up J4).up J4).up J4).up J4
 have h32_w_22 := (Lgs.ok32 (h_18.ok _ M2).1)
 refine WL.call Try.call89 rfl rfl (c_rTag_r id ob ms df hms da dn dc (anU id u lg (3, ms, 9, ([] : List UInt8))) hdf la_9 lc_10 lx_11 (anL id df dn u lg (3, ms, 9, ([] : List UInt8))) (by first | omega | (have h1 := anU_le id u lg ((3, ms, 9, ([] : List UInt8))); exact Nat.le_trans h1 (by omega))) (by first | omega | (have h1 := anL_le id df dn u lg ((3, ms, 9, ([] : List UInt8))); exact Nat.le_trans h1 (by omega))) 7 bs a n cap (by omega) (by first | decide | omega) hl (anD id df dn u lg (3, ms, 9, ([] : List UInt8))) (anD_len hdf h32_w_12) _ h_18) rfl ?_
 rintro _ w_22 ⟨la_19, lc_20, lx_21, rfl, h_23⟩
 refine WL.storeA (b := b_1) (off := 0) [] [(32, (List.replicate 32 (0 : UInt8)).map vu8)] [(32, (anD id df dn (anU id u lg (3, ms, 9, ([] : List UInt8))) (anL id df dn u lg (3, ms, 9, ([] : List UInt8))) (2, (anD id df dn u lg (3, ms, 9, ([] : List UInt8))), 7, bs)).map vu8)] [] (ys := (anD id df dn (anU id u lg (3, ms, 9, ([] : List UInt8))) (anL id df dn u lg (3, ms, 9, ([] : List UInt8))) (2, (anD id df dn u lg (3, ms, 9, ([] : List UInt8))), 7, bs)).map vu8) h_23 rfl rfl Try.sizeOf23 Y6 (by decide) rfl rfl rfl rfl rfl rfl (SsOk.cons (SOk.u8 (anD_len hdf h32_w_22)) SsOk.nil) (fun w_24 h_25 => ?_)
 refine WL.nil (thn_n (WP.ret ?_))
 refine ret_of Try.results55 (RV.cell rfl (h_25.loadA (cs := (anD id df dn (anU id u lg (3, ms, 9, ([] : List UInt8))) (anL id df dn u lg (3, ms, 9, ([] : List UInt8))) (2, (anD id df dn u lg (3, ms, 9, ([] : List UInt8))), 7, bs)).map vu8) Try.isAgg23 Try.sizeOf23 M6 rfl rfl) RV.nil) ?_
 have h_34 := ((((((((h_25.up J5).drop rfl).up J5).drop rfl).up J4).up J4).up J4).up J4).up J4
 have hfl : [bs].flatten = bs := by simp
 have h9 := h_34
 have e2 : tgQ2 id df dn u lg ms bs = (2, anD id df dn u lg (3, ms, 9, ([] : List UInt8)), 7, bs) := by unfold tgQ2; rw [hfl]; rfl
 exact ⟨_, _, _, by unfold tgD; rw [e2]; rfl, by unfold tgU tgL; rw [e2]; exact h9⟩

theorem c_rIss {w00 : World} {L : List Ent} (id : Bool) (ob : Nat) (ms df : List UInt8) (hms : ms.length = 32) (da : Option Addr) (dn dc u : Nat) (hdf : df.length = 32 * dn) (la : Option Addr) (lc : Nat) (lx : List Value) (lg : Lg) (hu : u ≤ 500000) (hlg : lg.length ≤ 500000) (ins : UInt64) (me ch : List UInt8) (hme : me.length = 32) (hch : ch.length = 32) (w : World) (h_0 : HP w00 w (Ent.blk ob .nw 64 [(1, [(.bool id)]), (32, ms.map vu8), (1, [(.slice da dn dc)]), (1, [(vi ((u : Nat) : Int))]), (1, [(.slice la lg.length lc)])] :: Ent.row la lg.length lc 111 67 lx :: Ent.pin (sblks lx) (fun w => Lgs w lx lg) :: Ent.view da (df.map vu8) :: L)) :
  Cs Try.prog 23 [(.pointer (some ⟨ob, 0, none⟩)), (.agg ⟨flat [(1, [(vu64 ins)]), (32, me.map vu8), (32, ch.map vu8)]⟩)].toArray w (fun v w1 => ∃ ra rc la' lc' lx', v = .slice ra 112 rc ∧ HP w00 w1 (Ent.row ra 112 rc 5 1 ((repB ins me ch ++ tgD id df dn u lg ms (repB ins me ch)).map vu8) :: Ent.blk ob .nw 64 [(1, [(.bool id)]), (32, ms.map vu8), (1, [(.slice da dn dc)]), (1, [(vi (((tgU id df dn u lg ms (repB ins me ch)) : Nat) : Int))]), (1, [(.slice la' ((tgL id df dn u lg ms (repB ins me ch)).length) lc')])] :: Ent.row la' ((tgL id df dn u lg ms (repB ins me ch)).length) lc' 111 67 lx' :: Ent.pin (sblks lx') (fun w => Lgs w lx' (tgL id df dn u lg ms (repB ins me ch))) :: Ent.view da (df.map vu8) :: L)) := by
 refine Cs.of (n := 15) (args := [(pO ob 0), (.agg ⟨flat [(1, [(vu64 ins)]), (32, me.map vu8), (32, ch.map vu8)]⟩)]) Try.func23 rfl rfl rfl ?_
 refine WP.seq (WP.reg ?_)
 refine WL.box (v := (.agg ⟨flat [(1, [(vu64 ins)]), (32, me.map vu8), (32, ch.map vu8)]⟩)) (segs := [(1, [(vu64 ins)]), (32, me.map vu8), (32, ch.map vu8)]) h_0 rfl rfl (SsOk.cons (SOk.v rfl) (SsOk.cons (SOk.u8 hme) (SsOk.cons (SOk.u8 hch) SsOk.nil))) rfl (fun b_1 w_2 h_3 => ?_)
 refine qA (.slice none 0 0) rfl rfl ?_
 refine WL.nil (thn_n (WP.seq (WP.reg ?_)))
 refine qV rfl (R.loadA (b := b_1) (off := 0) [] [(1, [(vu64 ins)]), (32, me.map vu8), (32, ch.map vu8)] [] (cs := flat [(1, [(vu64 ins)]), (32, me.map vu8), (32, ch.map vu8)]) rfl Try.isAgg30 Try.sizeOf30 (h_3.ok _ M0) rfl rfl rfl rfl) ?_
 refine WL.call Try.call54 rfl rfl (c_rrBytes ins me ch hme hch _) rfl ?_
 rintro _ w_6 ⟨a_4, cap_5, rfl, hc_7, ho_8⟩
 have h_9 := h_3.gotRow hc_7 ho_8
 refine qA (.slice a_4 80 cap_5) rfl rfl ?_
 refine WL.nil (thn_n (WP.seq (WP.reg ?_)))
 refine qM (pO ob 0) rfl rfl (qM (.slice a_4 80 cap_5) rfl rfl ?_)
 have h_13 := (((h_9.up J5).up J5).up J5).up J5
 have h32_w_17 := (Lgs.ok32 (h_13.ok _ M2).1)
 refine WL.call Try.call55 rfl rfl (c_rtag_r id ob ms df hms da dn dc u hdf la lc lx lg hu hlg a_4 80 cap_5 (repB ins me ch) (repB_len hme hch) (by omega) _ h_13) rfl ?_
 rintro _ w_17 ⟨la_14, lc_15, lx_16, rfl, h_18⟩
 refine WL.alloc (segs := [(32, (List.replicate 32 (0 : UInt8)).map vu8)]) h_18 (zv Try.typeInfo23 rfl) rfl (SsOk.cons (SOk.u8 lr) SsOk.nil) rfl (fun b_19 w_20 h_21 => ?_)
 refine WL.storeA (b := b_19) (off := 0) [] [(32, (List.replicate 32 (0 : UInt8)).map vu8)] [(32, (tgD id df dn u lg ms (repB ins me ch)).map vu8)] [] (ys := (tgD id df dn u lg ms (repB ins me ch)).map vu8) h_21 rfl rfl Try.sizeOf23 At.h (by decide) rfl rfl rfl rfl rfl rfl (SsOk.cons (SOk.u8 (tgD_len (dn := dn) hdf h32_w_17)) SsOk.nil) (fun w_22 h_23 => ?_)
 refine WL.nil (thn_n (WP.seq (WP.reg ?_)))
 refine qM (.slice a_4 80 cap_5) rfl rfl (qV rfl (R.sliceA (b := b_19) (off := 0) (off' := 0) (l := 0) (h := 32) rfl EvB.dflt EvB.dflt (by decide) (by decide) Try.underlying23 Try.sizeOf5 rfl) ?_)
 refine WL.append (km := 112) (xs := (repB ins me ch).map vu8) (ys := (tgD id df dn u lg ms (repB ins me ch)).map vu8) (zs := ((repB ins me ch) ++ (tgD id df dn u lg ms (repB ins me ch))).map vu8) h_23 rfl rfl el37 (viewB (h_23.ok _ M0) Sg.h) ((len_map (tgD_len (dn := dn) hdf h32_w_17)).trans (Nat.mul_one _).symm) (one_u8 _) (by simp only [List.map_append, List.map_nil]) rfl (by omega) (by omega) (fun _ _ => Y5) rfl (fun a_24 c_25 w_26 h_27 => ?_)
 refine qA (.slice a_24 112 c_25) rfl rfl ?_
 refine WL.nil (thn_n (WP.ret ?_))
 refine ret_of Try.results23 (RV.tmp (v := (.slice a_24 112 c_25)) rfl RV.nil) ?_
 have h_35 := (((((((h_27.drop rfl).up J5).drop rfl).up J3).up J3).up J3).up J3).up J4
 exact ⟨_, _, _, _, _, rfl, h_35⟩

end Go.Proofs.Ytnhppjimimhlkaa

namespace Go.Vc
open Go.RowKit Go.ChangeShapes Go.WideShapes Go.ChangeAt
section
variable {P : Program} {w : World} {t : TypeId} {cs : List Value}
theorem Tr.slG {e : TypeId} {s : Nat} (hu : P.underlying t = some (.slice e)) (hce : P.cellsOf e = s) (hs : 1 ≤ s) (h : Tr P w t cs) :
    ∃ a n cap, ∃ els : List (List Value), cs = [.slice a n cap] ∧ els.length = n ∧ n ≤ cap ∧ cap ≤ maxLen ∧ (∀ y ∈ els, y.length = s ∧ Tr P w e y) ∧ (Ent.view a els.flatten).ok w.heap.size w := by
  rcases Tr.nilOrSlice hu h with rfl | ⟨a, len, cap, rfl, h1, h2, h3⟩
  · exact ⟨none, 0, 0, [], rfl, rfl, Nat.le_refl _, by simp [maxLen], (by intro y hy; cases hy), ⟨View.nil _ _, fun ad h => by cases h⟩⟩
  · have key : ∀ k, k ≤ len → ∃ els : List (List Value), els.length = k ∧ els.flatten.length = s * k ∧ (∀ y ∈ els, y.length = s ∧ Tr P w e y) ∧ View w (some a) els.flatten := by
      intro k
      induction k with
      | zero => intro _; exact ⟨[], rfl, rfl, (by intro y hy; cases hy), View.nil _ _⟩
      | succ k ih =>
        intro hk
        obtain ⟨els, hl, hf, he, hv⟩ := ih (by omega)
        obtain ⟨ys, hys, ht⟩ := h3 k (by omega)
        rw [hce] at hys
        obtain ⟨hyl, hyc⟩ := cells?_all hys
        refine ⟨els ++ [ys], by simp [hl], by simp [hf, hyl, Nat.mul_succ], fun y hy => ?_, fun i v hv' => ?_⟩
        · rcases List.mem_append.1 hy with hy | hy
          · exact he y hy
          · rw [List.mem_singleton] at hy; subst hy; exact ⟨hyl, ht⟩
        · rw [List.flatten_append] at hv'
          by_cases hi : i < els.flatten.length
          · refine hv i v ?_
            rw [List.getElem?_append_left hi] at hv'
            exact hv'
          · rw [List.getElem?_append_right (by omega)] at hv'
            have h4 := hyc (i - els.flatten.length) v (by rw [List.flatten_cons, List.flatten_nil, List.append_nil] at hv'; exact hv')
            rw [add_add, hf, Nat.mul_comm k, show s * k + (i - s * k) = i by omega] at h4
            exact ⟨a, rfl, h4⟩
    obtain ⟨els, hl, hf, he, hv⟩ := key len (Nat.le_refl _)
    refine ⟨some a, len, cap, els, rfl, hl, h1, h2, he, ⟨hv, fun ad ha hne => ?_⟩⟩
    cases ha
    cases hx : els.flatten with
    | nil => rw [hx] at hne; simp at hne
    | cons x l =>
      obtain ⟨ad', e, hc⟩ := hv 0 x (by rw [hx]; rfl)
      cases e
      have := block_lt_of_cell hc
      rwa [Addr.add_block] at this
end
theorem els_of {α : Type} {f : α → List Value} {p : α → Prop} : ∀ {els : List (List Value)}, (∀ y ∈ els, ∃ r, y = f r ∧ p r) → ∃ rs : List α, els = rs.map f ∧ ∀ r ∈ rs, p r
  | [], _ => ⟨[], rfl, fun r h => by cases h⟩
  | y :: els, h => by
    obtain ⟨r, hr, hp⟩ := h y (List.mem_cons_self ..)
    obtain ⟨rs, hrs, hps⟩ := els_of (els := els) fun z hz => h z (List.mem_cons_of_mem _ hz)
    refine ⟨r :: rs, by rw [hr, hrs]; rfl, fun q hq => ?_⟩
    rcases List.mem_cons.1 hq with rfl | hq
    · exact hp
    · exact hps q hq
theorem flat_len {α : Type} {f : α → List Value} {s : Nat} : ∀ {rs : List α}, (∀ r ∈ rs, (f r).length = s) → (rs.map f).flatten.length = rs.length * s
  | [], _ => by simp
  | r :: rs, h => by
    rw [List.map_cons, List.flatten_cons, List.length_append, flat_len fun q hq => h q (List.mem_cons_of_mem _ hq), h r (List.mem_cons_self ..), List.length_cons, Nat.succ_mul]; omega
theorem flat_at {α : Type} {f : α → List Value} {s : Nat} {z : α} : ∀ {rs : List α} {k : Nat}, (∀ r ∈ rs, (f r).length = s) → k < rs.length → ((rs.map f).flatten.drop (k * s)).take s = f (rs.getD k z)
  | r :: rs, 0, h, _ => by
    have := h r (List.mem_cons_self ..)
    rw [Nat.zero_mul, List.drop_zero, List.map_cons, List.flatten_cons, List.take_append_of_le_length (by omega), List.take_of_length_le (by omega)]; rfl
  | r :: rs, k + 1, h, hk => by
    have h1 := h r (List.mem_cons_self ..)
    have h2 := flat_at (z := z) (rs := rs) (k := k) (fun q hq => h q (List.mem_cons_of_mem _ hq)) (by simpa using hk)
    rw [List.map_cons, List.flatten_cons, show (k + 1) * s = (f r).length + k * s by rw [h1, Nat.succ_mul]; omega, ← List.drop_drop, List.drop_left]
    simpa using h2
theorem getD_mem {α : Type} {z : α} {rs : List α} {k : Nat} (h : k < rs.length) : rs.getD k z ∈ rs := by
  have e : rs.getD k z = rs[k] := by simp [h]
  rw [e]; exact List.getElem_mem h
end Go.Vc

namespace Go.Proofs.Ytnhppjimimhlkaa
open Go.Vc Go.Orc Go.Sh Go.RowKit
set_option maxRecDepth 20000

abbrev Rp := UInt64 × List UInt8 × List UInt8
def rpC (r : Rp) : List Value := flat [(1, [vu64 r.1]), (32, r.2.1.map vu8), (32, r.2.2.map vu8)]
def okRp (r : Rp) : Prop := r.2.1.length = 32 ∧ r.2.2.length = 32
def rsC (rs : List Rp) : List Value := (rs.map rpC).flatten
def zRp : Rp := (0, [], [])
def rpB (r : Rp) : List UInt8 := repB r.1 r.2.1 r.2.2
theorem rpC_len {r : Rp} (h : okRp r) : (rpC r).length = 65 := by simp [rpC, flat, h.1, h.2]
theorem rsC_len {rs : List Rp} (h : ∀ r ∈ rs, okRp r) : (rsC rs).length = rs.length * 65 := flat_len fun r hr => rpC_len (h r hr)
theorem rsC_at {rs : List Rp} {k : Nat} (h : ∀ r ∈ rs, okRp r) (hk : k < rs.length) : ((rsC rs).drop (k * 65)).take 65 = rpC (rs.getD k zRp) := flat_at (fun r hr => rpC_len (h r hr)) hk
theorem trRp (W : World) {cs : List Value} (h : Tr Try.prog W 27 cs) : ∃ a n cap, ∃ rs : List Rp, cs = [.slice a n cap] ∧ rs.length = n ∧ n ≤ cap ∧ cap ≤ maxLen ∧ (∀ r ∈ rs, okRp r) ∧ (Ent.view a (rsC rs)).ok W.heap.size W := by
 obtain ⟨a, n, cap, els, e1, e2, e3, e4, e5, e6⟩ := Tr.slG Try.underlying27 ce30 (by decide) h
 obtain ⟨rs, hrs, hok⟩ := els_of (f := rpC) (p := okRp) (els := els) (fun y hy => by
  have tr := (e5 y hy).2
  have tl_z := Tr.struct (l := [(1, 28), (32, 23), (32, 23)]) Try.underlying30 ce30 (by kernel_rfl) tr
  obtain ⟨a_z0, r_z0, rfl, n_z0, t_z0, tl_z0⟩ := tl_z
  obtain ⟨z0, rfl⟩ := Tr.u64 Try.underlying28 t_z0
  obtain ⟨a_z1, r_z1, rfl, n_z1, t_z1, tl_z1⟩ := tl_z0
  obtain ⟨z1, rfl, l_z1⟩ := Tr.arr8 Try.underlying23 ce23 ce5 Try.underlying5 t_z1
  obtain ⟨a_z2, r_z2, rfl, n_z2, t_z2, tl_z2⟩ := tl_z1
  obtain ⟨z2, rfl, l_z2⟩ := Tr.arr8 Try.underlying23 ce23 ce5 Try.underlying5 t_z2
  obtain rfl := tl_z2
  exact ⟨(z0, z1, z2), by simp [rpC, flat], l_z1, l_z2⟩)
 subst hrs
 exact ⟨a, n, cap, rs, e1, by rw [← e2, List.length_map], e3, e4, hok, e6⟩
def isS (id : Bool) (df : List UInt8) (dn : Nat) (ms : List UInt8) (rs : List Rp) : Nat → Nat × Lg
 | 0 => (0, [])
 | k + 1 => (tgU id df dn (isS id df dn ms rs k).1 (isS id df dn ms rs k).2 ms (rpB (rs.getD k zRp)), tgL id df dn (isS id df dn ms rs k).1 (isS id df dn ms rs k).2 ms (rpB (rs.getD k zRp)))
section
variable {id : Bool} {df : List UInt8} {dn : Nat} {ms : List UInt8} {rs : List Rp}
theorem isS_u : ∀ k, (isS id df dn ms rs k).1 ≤ 2 * k
 | 0 => Nat.le_refl _
 | k + 1 => by
  have h1 := isS_u k
  have h2 := tgU_le id df dn (isS id df dn ms rs k).1 (isS id df dn ms rs k).2 ms (rpB (rs.getD k zRp))
  show tgU _ _ _ _ _ _ _ ≤ _
  omega
theorem isS_l : ∀ k, (isS id df dn ms rs k).2.length ≤ 2 * k
 | 0 => Nat.le_refl _
 | k + 1 => by
  have h1 := isS_l k
  have h2 := tgL_le id df dn (isS id df dn ms rs k).1 (isS id df dn ms rs k).2 ms (rpB (rs.getD k zRp))
  show (tgL _ _ _ _ _ _ _).length ≤ _
  omega
theorem isS_32 (h : df.length = 32 * dn) : ∀ k, ok32 (isS id df dn ms rs k).2
 | 0 => okN
 | k + 1 => tgL_32 h (isS_32 h k)
end
end Go.Proofs.Ytnhppjimimhlkaa
