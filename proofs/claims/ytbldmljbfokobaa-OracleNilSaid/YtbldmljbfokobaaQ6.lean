/- The rows of blobs that are known. Conditions: those that each theorem states. -/
import Derived.Test.YtbldmljbfokobaaQ5
namespace Go.Proofs.Ytbldmljbfokobaa
open Go.Vc Go.Orc Go.RowKit
set_option linter.unusedVariables false
set_option linter.unusedSimpArgs false
set_option maxRecDepth 20000
theorem ce42 : Try.prog.cellsOf 42 = 128 := by kernel_rfl
theorem kt42 : Try.prog.keyTypeAt 2 42 = true := by kernel_rfl
theorem ag42 : aggB Try.prog 42 = true := by unfold aggB; rw [Try.underlying42]
theorem c_ones (x : UInt8) (w : World) :
    Cs Try.prog 64 [(vu8 x)].toArray w (fun v w1 => v = (.agg ⟨(onesL x).map vu8⟩) ∧ Chg w w1 []) := by
  refine Cs.of (n := 13) (args := [(vu8 x)]) Try.func64 rfl rfl rfl ?_
  have h_0 := HP.init w
  refine WP.seq ?_
  refine WP.reg ?_
  refine WL.alloc (segs := [(32, (List.replicate 32 (0 : UInt8)).map vu8)]) h_0 (zv Try.typeInfo29 rfl) rfl (SsOk.cons (SOk.u8 (List.length_replicate ..)) SsOk.nil) rfl (fun b_1 w_2 h_3 => ?_)
  refine WL.nil ?_
  refine thn_n ?_
  refine WP.seq ?_
  refine WP.reg ?_
  refine WL.alloc (segs := [(32, (List.replicate 32 (0 : UInt8)).map vu8)]) h_3 (zv Try.typeInfo29 rfl) rfl (SsOk.cons (SOk.u8 (List.length_replicate ..)) SsOk.nil) rfl (fun b_4 w_5 h_6 => ?_)
  refine WL.nil ?_
  refine thn_n ?_
  refine WP.seq ?_
  refine WP.seq ?_
  refine WP.reg ?_
  refine WL.q (Wn.no rfl) rfl rfl (R.assign (v := (vi 0)) rfl) ?_
  refine WL.nil ?_
  refine thn_n ?_
  refine WP.block ?_
  refine WP.loopG (G := Nat) [4, 5, 6, 7, 8, 9, 10, 11] (fun i => [(4, (vi ((i : Nat) : Int)))]) (fun i m w1 => HP w w1 [.blk b_4 .nw 29 [(32, (Go.Sh.mix (onesL x) (List.replicate 32 0) i).map vu8)], .blk b_1 .nw 29 [(32, (List.replicate 32 (0 : UInt8)).map vu8)]] ∧ (i ≤ 32) ∧ m = 32 - i) ⟨0, _, ⟨rfl, trivial⟩, (by rw [Go.Sh.mix_0]; exact h_6), (by omega), rfl⟩ ?_
  rintro i m_9 J_10 w_7 ⟨h_8, hi, rfl⟩
  refine WP.seq ?_
  refine WP.seq ?_
  refine WP.reg ?_
  refine WL.q (Wn.no rfl) rfl rfl (R.move (v := (vi ((i : Nat) : Int))) rfl) ?_
  refine WL.q (Wn.no rfl) rfl rfl (R.bin (v := (.bool (decide ((((i : Nat) : Int) : Int) < 32)))) rfl rfl (bi_lss (r := decide ((((i : Nat) : Int) : Int) < 32)) rfl)) ?_
  refine WL.nil ?_
  refine thn_n ?_
  refine WP.cond (b := decide ((((i : Nat) : Int) : Int) < 32)) rfl (fun c_11 => ?_) (fun c_11 => ?_)
  · have p_12 := of_decide_eq_true c_11
    refine WP.skip ?_
    refine thn_n ?_
    refine WP.seq ?_
    refine WP.block ?_
    refine WP.reg ?_
    refine WL.q (Wn.no rfl) rfl rfl (R.move (v := (vi ((i : Nat) : Int))) rfl) ?_
    refine WL.q (Wn.no rfl) rfl rfl (R.move (v := (vu8 x)) rfl) ?_
    refine WL.q (Wn.no rfl) rfl rfl (R.indexA (b := b_4) (off := 0) (off' := (0 + i)) (i := i) rfl rfl rfl (by omega) Try.underlying29 Try.sizeOf5 (by rw [Nat.mul_one])) ?_
    refine WL.storeE (b := b_4) (off := (0 + i)) (i := i) (v := (vu8 x)) (cs' := ((Go.Sh.mix (onesL x) (List.replicate 32 0) i).set i x).map vu8) h_8 rfl rfl Try.sizeOf5 rfl At.h (by decide) Sg.h rfl (lt_len (K := 32) (len_map (Go.Sh.mix_len (onesL_len x) (List.length_replicate ..))) (by omega)) (set_u8 _ _ _) (fun w_13 h_14 => ?_)
    refine WL.nil ?_
    refine inb_n ?_
    refine thn_n ?_
    refine WP.reg ?_
    refine WL.q (Wn.no rfl) rfl rfl (R.move (v := (vi ((i : Nat) : Int))) rfl) ?_
    refine WL.q (Wn.no rfl) rfl rfl (R.bin (v := (vi ((i + 1 : Nat) : Int))) rfl rfl (bi_add (c := ((i + 1 : Nat) : Int)) (by omega) (by omega))) ?_
    refine WL.q (Wn.no rfl) rfl rfl (R.assign (v := (vi ((i + 1 : Nat) : Int))) rfl) ?_
    refine WL.nil ?_
    refine thn_n ?_
    have h_15 := h_14.up (Pick.t Pick.h)
    have h_16 := h_15.up (Pick.t Pick.h)
    rw [ones_set (by omega)] at h_16
    exact ⟨i + 1, _, (by omega), (Ag.upd rfl (Ag.upd rfl (Ag.upd rfl (Ag.upd rfl (Ag.upd rfl (Ag.upd rfl (Ag.upd rfl (Ag.upd rfl (Ag.updL rfl (Ag.mix _ _ _)))))))))), ⟨rfl, trivial⟩, h_16, (by omega), rfl⟩
  · have p_17 := of_decide_eq_false c_11
    refine WP.exit ?_
    refine thn_x ?_
    refine thn_x ?_
    refine inb_hit ?_
    refine thn_n ?_
    refine WP.seq ?_
    refine WP.reg ?_
    refine WL.q (Wn.no rfl) rfl rfl (R.loadA (b := b_4) (off := 0) [] [(32, (Go.Sh.mix (onesL x) (List.replicate 32 0) i).map vu8)] [] (cs := (Go.Sh.mix (onesL x) (List.replicate 32 0) i).map vu8) rfl Try.isAgg29 Try.sizeOf29 (h_8.ok _ (.head _)) rfl rfl rfl rfl) ?_
    refine WL.storeA (b := b_1) (off := 0) [] [(32, (List.replicate 32 (0 : UInt8)).map vu8)] [(32, (Go.Sh.mix (onesL x) (List.replicate 32 0) i).map vu8)] [] (ys := (Go.Sh.mix (onesL x) (List.replicate 32 0) i).map vu8) h_8 rfl rfl Try.sizeOf29 (At.t At.h) (by decide) rfl rfl rfl rfl rfl rfl (SsOk.cons (SOk.u8 (Go.Sh.mix_len (onesL_len x) (List.length_replicate ..))) SsOk.nil) (fun w_18 h_19 => ?_)
    refine WL.nil ?_
    refine thn_n ?_
    refine WP.ret ?_
    refine ret_of Try.results64 (RV.cell rfl (h_19.loadA (cs := (Go.Sh.mix (onesL x) (List.replicate 32 0) i).map vu8) Try.isAgg29 Try.sizeOf29 (.tail _ (.head _)) rfl rfl) RV.nil) ?_
    have hi2 : i = 32 := by omega
    subst hi2
    exact ⟨by rw [ones_all]; rfl, h_19.chgS⟩

theorem c_num16 (e : Int) (be : -9223372036854775808 ≤ e ∧ e < 9223372036854775808) (w : World) :
    Cs Try.prog 38 [(vi e)].toArray w (fun v w1 => v = vi e ∧ Chg w w1 []) := by
  refine Cs.of (n := 4) (args := [(vi e)]) Try.func38 rfl rfl rfl ?_
  have h_0 := HP.init w
  refine WP.seq ?_
  refine WP.reg ?_
  refine WL.q (Wn.no rfl) rfl rfl (R.assign (v := (vi 0)) rfl) ?_
  refine WL.nil ?_
  refine thn_n ?_
  refine WP.seq ?_
  refine WP.reg ?_
  refine WL.q (Wn.no rfl) rfl rfl (R.move (v := (vi e)) rfl) ?_
  refine WL.q (Wn.no rfl) rfl rfl (R.assign (v := (vi e)) rfl) ?_
  refine WL.nil ?_
  refine thn_n ?_
  refine WP.ret ?_
  refine ret_of Try.results38 (RV.tmp (v := (vi e)) rfl RV.nil) ?_
  exact ⟨rfl, h_0.chgS⟩

theorem c_known16  (w : World) :
    Cs Try.prog 31 [].toArray w (fun v w1 => v = .bool true ∧ Chg w w1 []) := by
  refine Cs.of (n := 75) (args := []) Try.func31 rfl rfl rfl ?_
  have h_0 := HP.init w
  refine WP.seq ?_
  refine WP.reg ?_
  refine WL.q (Wn.no rfl) rfl rfl (R.assign (v := (.bool false)) rfl) ?_
  refine WL.nil ?_
  refine thn_n ?_
  refine WP.seq ?_
  refine WP.reg ?_
  refine WL.q (Wn.no rfl) rfl rfl (R.buildA (vs := []) (cs := (List.replicate 32 (0 : UInt8)).map vu8) Try.underlying29 Try.sizeOf5 (zv Try.typeInfo29 rfl) rfl rfl) ?_
  refine WL.call (al := [(vu8 1)]) Try.call64 rfl rfl (c_ones (1 : UInt8) _ ) rfl ?_
  rintro _ w_2 ⟨rfl, hc_1⟩
  have h_3 := h_0.same hc_1
  refine WL.call (al := [(vu8 2)]) Try.call64 rfl rfl (c_ones (2 : UInt8) _ ) rfl ?_
  rintro _ w_5 ⟨rfl, hc_4⟩
  have h_6 := h_3.same hc_4
  refine WL.call (al := [(vu8 3)]) Try.call64 rfl rfl (c_ones (3 : UInt8) _ ) rfl ?_
  rintro _ w_8 ⟨rfl, hc_7⟩
  have h_9 := h_6.same hc_7
  refine WL.call (al := [(vu8 4)]) Try.call64 rfl rfl (c_ones (4 : UInt8) _ ) rfl ?_
  rintro _ w_11 ⟨rfl, hc_10⟩
  have h_12 := h_9.same hc_10
  refine WL.buildSl (vs := [(0, (.agg ⟨(onesL (1 : UInt8)).map vu8⟩)), (1, (.agg ⟨(onesL (2 : UInt8)).map vu8⟩)), (2, (.agg ⟨(onesL (3 : UInt8)).map vu8⟩)), (3, (.agg ⟨(onesL (4 : UInt8)).map vu8⟩))]) (cs := ((onesL (1 : UInt8)) ++ ((onesL (2 : UInt8)) ++ ((onesL (3 : UInt8)) ++ (onesL (4 : UInt8))))).map vu8) h_12 Try.underlying22 Try.sizeOf29 (zv Try.typeInfo29 rfl) rfl rfl (fill_4 (by kernel_rfl) (onesL_len _) (onesL_len _) (onesL_len _) (onesL_len _)) (len_map (show List.length ((onesL (1 : UInt8)) ++ ((onesL (2 : UInt8)) ++ ((onesL (3 : UInt8)) ++ (onesL (4 : UInt8))))) = 4 * 32 from by simp only [List.length_append, onesL_len])) (one_u8 _) rfl rfl (fun b_13 w_14 h_15 => ?_)
  have h_16 := HP.blkRow (m := 4) (s := 32) h_15 At.h rfl (by simp only [maxLen]; decide)
  have h_17 := h_16.rowView
  refine WL.call (al := [(.bool true), (.agg ⟨(List.replicate 32 (0 : UInt8)).map vu8⟩), (.slice (some ⟨b_13, 0, none⟩) 4 4)]) Try.call12 rfl rfl (c_ONew (List.replicate 32 (0 : UInt8)) ((onesL (1 : UInt8)) ++ ((onesL (2 : UInt8)) ++ ((onesL (3 : UInt8)) ++ (onesL (4 : UInt8))))) (List.length_replicate ..) (some ⟨b_13, 0, none⟩) 4 4 (by simp only [List.length_append, onesL_len]) (by decide) _ h_17) rfl ?_
  rintro _ w_22 ⟨b_18, b_19, a_20, c_21, rfl, h_23⟩
  refine WL.q (Wn.no rfl) rfl rfl (R.assign (v := (.pointer (some ⟨b_18, 0, none⟩))) rfl) ?_
  refine WL.nil ?_
  refine thn_n ?_
  refine WP.seq ?_
  refine WP.reg ?_
  refine WL.q (Wn.no rfl) rfl rfl (R.move (v := (.pointer (some ⟨b_18, 0, none⟩))) rfl) ?_
  refine WL.q (Wn.no rfl) rfl rfl (R.buildA (vs := []) (cs := (List.replicate 32 (0 : UInt8)).map vu8) Try.underlying29 Try.sizeOf5 (zv Try.typeInfo29 rfl) rfl rfl) ?_
  refine WL.q (Wn.no rfl) rfl rfl (R.buildA (vs := []) (cs := (List.replicate 128 (0 : UInt8)).map vu8) Try.underlying42 Try.sizeOf5 (zv Try.typeInfo42 rfl) rfl rfl) ?_
  have h_24 := h_23.up (Pick.t (Pick.t (Pick.t (Pick.t Pick.h))))
  have h_25 := h_24.up (Pick.t (Pick.t (Pick.t (Pick.t Pick.h))))
  have h_26 := h_25.up (Pick.t (Pick.t (Pick.t (Pick.t Pick.h))))
  have h_27 := h_26.up (Pick.t (Pick.t (Pick.t (Pick.t Pick.h))))
  have h_28 := h_27.up (Pick.t (Pick.t (Pick.t (Pick.t Pick.h))))
  have h32_w_32 := Lgs.ok32 (h_28.ok _ (.tail _ (.tail _ (.tail _ (.head _))))).1
  refine WL.call (al := [(.pointer (some ⟨b_18, 0, none⟩)), (.agg ⟨(List.replicate 32 (0 : UInt8)).map vu8⟩), (vi 0), (vu64 0), (.agg ⟨(List.replicate 128 (0 : UInt8)).map vu8⟩)]) Try.call34 rfl rfl (c_Seal b_18 b_19 (List.replicate 32 (0 : UInt8)) ((onesL (1 : UInt8)) ++ ((onesL (2 : UInt8)) ++ ((onesL (3 : UInt8)) ++ (onesL (4 : UInt8))))) (List.length_replicate ..) a_20 4 c_21 0 (by simp only [List.length_append, onesL_len]) none 0 [] ([] : Lg) (by decide) (by decide) (List.replicate 32 (0 : UInt8)) (List.replicate 128 (0 : UInt8)) (List.length_replicate ..) (List.length_replicate ..) 0 (0 : UInt64) (by omega) (by decide) _ h_28) rfl ?_
  rintro _ w_32 ⟨la_29, lc_30, lx_31, rfl, h_33⟩
  refine WL.q (Wn.no rfl) rfl rfl (R.move (v := (.tuple [(.agg ⟨(gx (List.replicate 128 (0 : UInt8)) (((sS ((onesL (1 : UInt8)) ++ ((onesL (2 : UInt8)) ++ ((onesL (3 : UInt8)) ++ (onesL (4 : UInt8))))) 4 (List.replicate 32 (0 : UInt8)) 10 (pcB 0 (0 : UInt64)) 0 ([] : Lg) ((128 + 31) / 32)).2.2).take 128)).map vu8⟩), (vi 0)].toArray)) rfl) ?_
  refine WL.q (Wn.no rfl) rfl rfl (R.extract (l := [(.agg ⟨(gx (List.replicate 128 (0 : UInt8)) (((sS ((onesL (1 : UInt8)) ++ ((onesL (2 : UInt8)) ++ ((onesL (3 : UInt8)) ++ (onesL (4 : UInt8))))) 4 (List.replicate 32 (0 : UInt8)) 10 (pcB 0 (0 : UInt64)) 0 ([] : Lg) ((128 + 31) / 32)).2.2).take 128)).map vu8⟩), (vi 0)]) (v := (.agg ⟨(gx (List.replicate 128 (0 : UInt8)) (((sS ((onesL (1 : UInt8)) ++ ((onesL (2 : UInt8)) ++ ((onesL (3 : UInt8)) ++ (onesL (4 : UInt8))))) 4 (List.replicate 32 (0 : UInt8)) 10 (pcB 0 (0 : UInt64)) 0 ([] : Lg) ((128 + 31) / 32)).2.2).take 128)).map vu8⟩)) rfl rfl) ?_
  refine WL.q (Wn.no rfl) rfl rfl (R.extract (l := [(.agg ⟨(gx (List.replicate 128 (0 : UInt8)) (((sS ((onesL (1 : UInt8)) ++ ((onesL (2 : UInt8)) ++ ((onesL (3 : UInt8)) ++ (onesL (4 : UInt8))))) 4 (List.replicate 32 (0 : UInt8)) 10 (pcB 0 (0 : UInt64)) 0 ([] : Lg) ((128 + 31) / 32)).2.2).take 128)).map vu8⟩), (vi 0)]) (v := (vi 0)) rfl rfl) ?_
  refine WL.alloc (segs := [(128, (List.replicate 128 (0 : UInt8)).map vu8)]) h_33 (zv Try.typeInfo42 rfl) rfl (SsOk.cons (SOk.u8 (List.length_replicate ..)) SsOk.nil) rfl (fun b_34 w_35 h_36 => ?_)
  refine WL.storeA (b := b_34) (off := 0) [] [(128, (List.replicate 128 (0 : UInt8)).map vu8)] [(128, (gx (List.replicate 128 (0 : UInt8)) (((sS ((onesL (1 : UInt8)) ++ ((onesL (2 : UInt8)) ++ ((onesL (3 : UInt8)) ++ (onesL (4 : UInt8))))) 4 (List.replicate 32 (0 : UInt8)) 10 (pcB 0 (0 : UInt64)) 0 ([] : Lg) ((128 + 31) / 32)).2.2).take 128)).map vu8)] [] (ys := (gx (List.replicate 128 (0 : UInt8)) (((sS ((onesL (1 : UInt8)) ++ ((onesL (2 : UInt8)) ++ ((onesL (3 : UInt8)) ++ (onesL (4 : UInt8))))) 4 (List.replicate 32 (0 : UInt8)) 10 (pcB 0 (0 : UInt64)) 0 ([] : Lg) ((128 + 31) / 32)).2.2).take 128)).map vu8) h_36 rfl rfl Try.sizeOf42 At.h (by decide) rfl rfl rfl rfl rfl rfl (SsOk.cons (SOk.u8 (gx_len (List.length_replicate ..) (by rw [List.length_take, sS_len (by simp only [List.length_append, onesL_len]) h32_w_32] <;> rfl))) SsOk.nil) (fun w_37 h_38 => ?_)
  refine WL.q (Wn.no rfl) rfl rfl (R.assign (v := (vi 0)) rfl) ?_
  refine WL.nil ?_
  refine thn_n ?_
  refine WP.seq ?_
  refine WP.reg ?_
  refine WL.q (Wn.no rfl) rfl rfl (R.move (v := (.pointer (some ⟨b_18, 0, none⟩))) rfl) ?_
  refine WL.q (Wn.no rfl) rfl rfl (R.buildA (vs := []) (cs := (List.replicate 32 (0 : UInt8)).map vu8) Try.underlying29 Try.sizeOf5 (zv Try.typeInfo29 rfl) rfl rfl) ?_
  refine WL.q (Wn.no rfl) rfl rfl (R.buildA (vs := []) (cs := (List.replicate 128 (0 : UInt8)).map vu8) Try.underlying42 Try.sizeOf5 (zv Try.typeInfo42 rfl) rfl rfl) ?_
  refine WL.call (al := [(.pointer (some ⟨b_18, 0, none⟩)), (.agg ⟨(List.replicate 32 (0 : UInt8)).map vu8⟩), (vi 128), (vu64 0), (.agg ⟨(List.replicate 128 (0 : UInt8)).map vu8⟩)]) Try.call34 rfl rfl (c_Seal_big b_18 b_19 (List.replicate 32 (0 : UInt8)) (List.length_replicate ..) a_20 4 c_21 ((sS ((onesL (1 : UInt8)) ++ ((onesL (2 : UInt8)) ++ ((onesL (3 : UInt8)) ++ (onesL (4 : UInt8))))) 4 (List.replicate 32 (0 : UInt8)) 10 (pcB 0 (0 : UInt64)) 0 ([] : Lg) ((128 + 31) / 32)).1) la_29 ((sS ((onesL (1 : UInt8)) ++ ((onesL (2 : UInt8)) ++ ((onesL (3 : UInt8)) ++ (onesL (4 : UInt8))))) 4 (List.replicate 32 (0 : UInt8)) 10 (pcB 0 (0 : UInt64)) 0 ([] : Lg) ((128 + 31) / 32)).2.1.length) lc_30 (List.replicate 32 (0 : UInt8)) (List.replicate 128 (0 : UInt8)) (List.length_replicate ..) (List.length_replicate ..) 128 (0 : UInt64) (by omega) _ (h_38.argR (.tail _ (.head _)))) rfl ?_
  rintro _ w_40 ⟨rfl, hc_39⟩
  have h_41 := h_38.same hc_39
  refine WL.q (Wn.no rfl) rfl rfl (R.move (v := (.tuple [(.agg ⟨(List.replicate 128 (0 : UInt8)).map vu8⟩), (vi 2)].toArray)) rfl) ?_
  refine WL.q (Wn.no rfl) rfl rfl (R.extract (l := [(.agg ⟨(List.replicate 128 (0 : UInt8)).map vu8⟩), (vi 2)]) (v := (.agg ⟨(List.replicate 128 (0 : UInt8)).map vu8⟩)) rfl rfl) ?_
  refine WL.q (Wn.no rfl) rfl rfl (R.extract (l := [(.agg ⟨(List.replicate 128 (0 : UInt8)).map vu8⟩), (vi 2)]) (v := (vi 2)) rfl rfl) ?_
  refine WL.alloc (segs := [(128, (List.replicate 128 (0 : UInt8)).map vu8)]) h_41 (zv Try.typeInfo42 rfl) rfl (SsOk.cons (SOk.u8 (List.length_replicate ..)) SsOk.nil) rfl (fun b_42 w_43 h_44 => ?_)
  refine WL.storeA (b := b_42) (off := 0) [] [(128, (List.replicate 128 (0 : UInt8)).map vu8)] [(128, (List.replicate 128 (0 : UInt8)).map vu8)] [] (ys := (List.replicate 128 (0 : UInt8)).map vu8) h_44 rfl rfl Try.sizeOf42 At.h (by decide) rfl rfl rfl rfl rfl rfl (SsOk.cons (SOk.u8 (List.length_replicate ..)) SsOk.nil) (fun w_45 h_46 => ?_)
  refine WL.q (Wn.no rfl) rfl rfl (R.assign (v := (vi 2)) rfl) ?_
  refine WL.nil ?_
  refine thn_n ?_
  refine WP.seq ?_
  refine WP.reg ?_
  refine WL.q (Wn.no rfl) rfl rfl (R.buildA (vs := []) (cs := (List.replicate 32 (0 : UInt8)).map vu8) Try.underlying29 Try.sizeOf5 (zv Try.typeInfo29 rfl) rfl rfl) ?_
  refine WL.q (Wn.no rfl) rfl rfl (R.buildA (vs := []) (cs := (List.replicate 128 (0 : UInt8)).map vu8) Try.underlying42 Try.sizeOf5 (zv Try.typeInfo42 rfl) rfl rfl) ?_
  refine WL.call (al := [(.pointer none), (.agg ⟨(List.replicate 32 (0 : UInt8)).map vu8⟩), (vi 0), (vu64 0), (.agg ⟨(List.replicate 128 (0 : UInt8)).map vu8⟩)]) Try.call34 rfl rfl (c_Seal_nil (List.replicate 32 (0 : UInt8)) (List.replicate 128 (0 : UInt8)) (List.length_replicate ..) (List.length_replicate ..) 0 (0 : UInt64) _ ) rfl ?_
  rintro _ w_48 ⟨rfl, hc_47⟩
  have h_49 := h_46.same hc_47
  refine WL.q (Wn.no rfl) rfl rfl (R.move (v := (.tuple [(.agg ⟨(List.replicate 128 (0 : UInt8)).map vu8⟩), (vi 1)].toArray)) rfl) ?_
  refine WL.q (Wn.no rfl) rfl rfl (R.extract (l := [(.agg ⟨(List.replicate 128 (0 : UInt8)).map vu8⟩), (vi 1)]) (v := (.agg ⟨(List.replicate 128 (0 : UInt8)).map vu8⟩)) rfl rfl) ?_
  refine WL.q (Wn.no rfl) rfl rfl (R.extract (l := [(.agg ⟨(List.replicate 128 (0 : UInt8)).map vu8⟩), (vi 1)]) (v := (vi 1)) rfl rfl) ?_
  refine WL.alloc (segs := [(128, (List.replicate 128 (0 : UInt8)).map vu8)]) h_49 (zv Try.typeInfo42 rfl) rfl (SsOk.cons (SOk.u8 (List.length_replicate ..)) SsOk.nil) rfl (fun b_50 w_51 h_52 => ?_)
  refine WL.storeA (b := b_50) (off := 0) [] [(128, (List.replicate 128 (0 : UInt8)).map vu8)] [(128, (List.replicate 128 (0 : UInt8)).map vu8)] [] (ys := (List.replicate 128 (0 : UInt8)).map vu8) h_52 rfl rfl Try.sizeOf42 At.h (by decide) rfl rfl rfl rfl rfl rfl (SsOk.cons (SOk.u8 (List.length_replicate ..)) SsOk.nil) (fun w_53 h_54 => ?_)
  refine WL.q (Wn.no rfl) rfl rfl (R.assign (v := (vi 1)) rfl) ?_
  refine WL.nil ?_
  refine thn_n ?_
  refine WP.seq ?_
  refine WP.reg ?_
  refine WL.q (Wn.no rfl) rfl rfl (R.move (v := (vi 0)) rfl) ?_
  refine WL.call (al := [(vi 0)]) Try.call38 rfl rfl (c_num16 0 (by omega) _ ) rfl ?_
  rintro _ w_56 ⟨rfl, hc_55⟩
  have h_57 := h_54.same hc_55
  refine WL.q (Wn.no rfl) rfl rfl (R.bin (v := (.bool true)) rfl rfl (bi_eql (r := true) (by decide))) ?_
  refine WL.q (Wn.no rfl) rfl rfl (R.move (v := (.bool true)) rfl) ?_
  refine WL.want rfl rfl ?_
  refine WL.q (Wn.no rfl) rfl rfl (R.indexA (b := b_34) (off := 0) (off' := 0) (i := 0) rfl rfl rfl (by decide) Try.underlying42 Try.sizeOf5 rfl) ?_
  refine WL.want rfl rfl ?_
  refine WL.q (Wn.no rfl) rfl rfl (R.loadE (b := b_34) (off := 0) (i := 0) (v := (vu8 ((gx (List.replicate 128 (0 : UInt8)) (((sS ((onesL (1 : UInt8)) ++ ((onesL (2 : UInt8)) ++ ((onesL (3 : UInt8)) ++ (onesL (4 : UInt8))))) 4 (List.replicate 32 (0 : UInt8)) 10 (pcB 0 (0 : UInt64)) 0 ([] : Lg) ((128 + 31) / 32)).2.2).take 128)).getD 0 0))) rfl Try.isAgg5 (h_57.ok _ (.tail _ (.tail _ (.head _)))) Sg.h rfl (get_u8 (lt_len (K := 128) (gx_len (List.length_replicate ..) (by rw [List.length_take, sS_len (by simp only [List.length_append, onesL_len]) h32_w_32] <;> rfl)) (by decide)))) ?_
  refine WL.want rfl rfl ?_
  refine WL.q (Wn.no rfl) rfl rfl (R.bin (v := (.bool true)) rfl rfl (b8_eql ((gx (List.replicate 128 (0 : UInt8)) (((sS ((onesL (1 : UInt8)) ++ ((onesL (2 : UInt8)) ++ ((onesL (3 : UInt8)) ++ (onesL (4 : UInt8))))) 4 (List.replicate 32 (0 : UInt8)) 10 (pcB 0 (0 : UInt64)) 0 ([] : Lg) ((128 + 31) / 32)).2.2).take 128)).getD 0 0) 1 (r := true) (by decide +kernel))) ?_
  refine WL.q (Wn.no rfl) rfl rfl (R.pickT (v := (.bool true)) rfl rfl) ?_
  refine WL.q (Wn.no rfl) rfl rfl (R.move (v := (.bool true)) rfl) ?_
  refine WL.want rfl rfl ?_
  refine WL.q (Wn.no rfl) rfl rfl (R.indexA (b := b_34) (off := 0) (off' := 32) (i := 32) rfl rfl rfl (by decide) Try.underlying42 Try.sizeOf5 rfl) ?_
  refine WL.want rfl rfl ?_
  refine WL.q (Wn.no rfl) rfl rfl (R.loadE (b := b_34) (off := 32) (i := 32) (v := (vu8 ((gx (List.replicate 128 (0 : UInt8)) (((sS ((onesL (1 : UInt8)) ++ ((onesL (2 : UInt8)) ++ ((onesL (3 : UInt8)) ++ (onesL (4 : UInt8))))) 4 (List.replicate 32 (0 : UInt8)) 10 (pcB 0 (0 : UInt64)) 0 ([] : Lg) ((128 + 31) / 32)).2.2).take 128)).getD 32 0))) rfl Try.isAgg5 (h_57.ok _ (.tail _ (.tail _ (.head _)))) Sg.h rfl (get_u8 (lt_len (K := 128) (gx_len (List.length_replicate ..) (by rw [List.length_take, sS_len (by simp only [List.length_append, onesL_len]) h32_w_32] <;> rfl)) (by decide)))) ?_
  refine WL.want rfl rfl ?_
  refine WL.q (Wn.no rfl) rfl rfl (R.bin (v := (.bool true)) rfl rfl (b8_eql ((gx (List.replicate 128 (0 : UInt8)) (((sS ((onesL (1 : UInt8)) ++ ((onesL (2 : UInt8)) ++ ((onesL (3 : UInt8)) ++ (onesL (4 : UInt8))))) 4 (List.replicate 32 (0 : UInt8)) 10 (pcB 0 (0 : UInt64)) 0 ([] : Lg) ((128 + 31) / 32)).2.2).take 128)).getD 32 0) 2 (r := true) (by decide +kernel))) ?_
  refine WL.q (Wn.no rfl) rfl rfl (R.pickT (v := (.bool true)) rfl rfl) ?_
  refine WL.q (Wn.no rfl) rfl rfl (R.move (v := (.bool true)) rfl) ?_
  refine WL.want rfl rfl ?_
  refine WL.q (Wn.no rfl) rfl rfl (R.indexA (b := b_34) (off := 0) (off' := 64) (i := 64) rfl rfl rfl (by decide) Try.underlying42 Try.sizeOf5 rfl) ?_
  refine WL.want rfl rfl ?_
  refine WL.q (Wn.no rfl) rfl rfl (R.loadE (b := b_34) (off := 64) (i := 64) (v := (vu8 ((gx (List.replicate 128 (0 : UInt8)) (((sS ((onesL (1 : UInt8)) ++ ((onesL (2 : UInt8)) ++ ((onesL (3 : UInt8)) ++ (onesL (4 : UInt8))))) 4 (List.replicate 32 (0 : UInt8)) 10 (pcB 0 (0 : UInt64)) 0 ([] : Lg) ((128 + 31) / 32)).2.2).take 128)).getD 64 0))) rfl Try.isAgg5 (h_57.ok _ (.tail _ (.tail _ (.head _)))) Sg.h rfl (get_u8 (lt_len (K := 128) (gx_len (List.length_replicate ..) (by rw [List.length_take, sS_len (by simp only [List.length_append, onesL_len]) h32_w_32] <;> rfl)) (by decide)))) ?_
  refine WL.want rfl rfl ?_
  refine WL.q (Wn.no rfl) rfl rfl (R.bin (v := (.bool true)) rfl rfl (b8_eql ((gx (List.replicate 128 (0 : UInt8)) (((sS ((onesL (1 : UInt8)) ++ ((onesL (2 : UInt8)) ++ ((onesL (3 : UInt8)) ++ (onesL (4 : UInt8))))) 4 (List.replicate 32 (0 : UInt8)) 10 (pcB 0 (0 : UInt64)) 0 ([] : Lg) ((128 + 31) / 32)).2.2).take 128)).getD 64 0) 3 (r := true) (by decide +kernel))) ?_
  refine WL.q (Wn.no rfl) rfl rfl (R.pickT (v := (.bool true)) rfl rfl) ?_
  refine WL.q (Wn.no rfl) rfl rfl (R.move (v := (.bool true)) rfl) ?_
  refine WL.want rfl rfl ?_
  refine WL.q (Wn.no rfl) rfl rfl (R.indexA (b := b_34) (off := 0) (off' := 127) (i := 127) rfl rfl rfl (by decide) Try.underlying42 Try.sizeOf5 rfl) ?_
  refine WL.want rfl rfl ?_
  refine WL.q (Wn.no rfl) rfl rfl (R.loadE (b := b_34) (off := 127) (i := 127) (v := (vu8 ((gx (List.replicate 128 (0 : UInt8)) (((sS ((onesL (1 : UInt8)) ++ ((onesL (2 : UInt8)) ++ ((onesL (3 : UInt8)) ++ (onesL (4 : UInt8))))) 4 (List.replicate 32 (0 : UInt8)) 10 (pcB 0 (0 : UInt64)) 0 ([] : Lg) ((128 + 31) / 32)).2.2).take 128)).getD 127 0))) rfl Try.isAgg5 (h_57.ok _ (.tail _ (.tail _ (.head _)))) Sg.h rfl (get_u8 (lt_len (K := 128) (gx_len (List.length_replicate ..) (by rw [List.length_take, sS_len (by simp only [List.length_append, onesL_len]) h32_w_32] <;> rfl)) (by decide)))) ?_
  refine WL.want rfl rfl ?_
  refine WL.q (Wn.no rfl) rfl rfl (R.bin (v := (.bool true)) rfl rfl (b8_eql ((gx (List.replicate 128 (0 : UInt8)) (((sS ((onesL (1 : UInt8)) ++ ((onesL (2 : UInt8)) ++ ((onesL (3 : UInt8)) ++ (onesL (4 : UInt8))))) 4 (List.replicate 32 (0 : UInt8)) 10 (pcB 0 (0 : UInt64)) 0 ([] : Lg) ((128 + 31) / 32)).2.2).take 128)).getD 127 0) 4 (r := true) (by decide +kernel))) ?_
  refine WL.q (Wn.no rfl) rfl rfl (R.pickT (v := (.bool true)) rfl rfl) ?_
  refine WL.q (Wn.no rfl) rfl rfl (R.move (v := (.bool true)) rfl) ?_
  refine WL.want rfl rfl ?_
  refine WL.q (Wn.no rfl) rfl rfl (R.move (v := (vi 2)) rfl) ?_
  refine WL.want rfl rfl ?_
  refine WL.call (al := [(vi 2)]) Try.call38 rfl rfl (c_num16 2 (by omega) _ ) rfl ?_
  rintro _ w_59 ⟨rfl, hc_58⟩
  have h_60 := h_57.same hc_58
  refine WL.want rfl rfl ?_
  refine WL.q (Wn.no rfl) rfl rfl (R.bin (v := (.bool true)) rfl rfl (bi_eql (r := true) (by decide))) ?_
  refine WL.q (Wn.no rfl) rfl rfl (R.pickT (v := (.bool true)) rfl rfl) ?_
  refine WL.q (Wn.no rfl) rfl rfl (R.move (v := (.bool true)) rfl) ?_
  refine WL.want rfl rfl ?_
  refine WL.q (Wn.no rfl) rfl rfl (R.move (v := (vi 1)) rfl) ?_
  refine WL.want rfl rfl ?_
  refine WL.call (al := [(vi 1)]) Try.call38 rfl rfl (c_num16 1 (by omega) _ ) rfl ?_
  rintro _ w_62 ⟨rfl, hc_61⟩
  have h_63 := h_60.same hc_61
  refine WL.want rfl rfl ?_
  refine WL.q (Wn.no rfl) rfl rfl (R.bin (v := (.bool true)) rfl rfl (bi_eql (r := true) (by decide))) ?_
  refine WL.q (Wn.no rfl) rfl rfl (R.pickT (v := (.bool true)) rfl rfl) ?_
  refine WL.q (Wn.no rfl) rfl rfl (R.move (v := (.bool true)) rfl) ?_
  refine WL.want rfl rfl ?_
  refine WL.q (Wn.no rfl) rfl rfl (R.loadA (b := b_34) (off := 0) [] [(128, (gx (List.replicate 128 (0 : UInt8)) (((sS ((onesL (1 : UInt8)) ++ ((onesL (2 : UInt8)) ++ ((onesL (3 : UInt8)) ++ (onesL (4 : UInt8))))) 4 (List.replicate 32 (0 : UInt8)) 10 (pcB 0 (0 : UInt64)) 0 ([] : Lg) ((128 + 31) / 32)).2.2).take 128)).map vu8)] [] (cs := (gx (List.replicate 128 (0 : UInt8)) (((sS ((onesL (1 : UInt8)) ++ ((onesL (2 : UInt8)) ++ ((onesL (3 : UInt8)) ++ (onesL (4 : UInt8))))) 4 (List.replicate 32 (0 : UInt8)) 10 (pcB 0 (0 : UInt64)) 0 ([] : Lg) ((128 + 31) / 32)).2.2).take 128)).map vu8) rfl Try.isAgg42 Try.sizeOf42 (h_63.ok _ (.tail _ (.tail _ (.head _)))) rfl rfl rfl rfl) ?_
  refine WL.want rfl rfl ?_
  refine WL.q (Wn.no rfl) rfl rfl (R.loadA (b := b_34) (off := 0) [] [(128, (gx (List.replicate 128 (0 : UInt8)) (((sS ((onesL (1 : UInt8)) ++ ((onesL (2 : UInt8)) ++ ((onesL (3 : UInt8)) ++ (onesL (4 : UInt8))))) 4 (List.replicate 32 (0 : UInt8)) 10 (pcB 0 (0 : UInt64)) 0 ([] : Lg) ((128 + 31) / 32)).2.2).take 128)).map vu8)] [] (cs := (gx (List.replicate 128 (0 : UInt8)) (((sS ((onesL (1 : UInt8)) ++ ((onesL (2 : UInt8)) ++ ((onesL (3 : UInt8)) ++ (onesL (4 : UInt8))))) 4 (List.replicate 32 (0 : UInt8)) 10 (pcB 0 (0 : UInt64)) 0 ([] : Lg) ((128 + 31) / 32)).2.2).take 128)).map vu8) rfl Try.isAgg42 Try.sizeOf42 (h_63.ok _ (.tail _ (.tail _ (.head _)))) rfl rfl rfl rfl) ?_
  refine WL.want rfl rfl ?_
  refine WL.call (al := [(.agg ⟨(gx (List.replicate 128 (0 : UInt8)) (((sS ((onesL (1 : UInt8)) ++ ((onesL (2 : UInt8)) ++ ((onesL (3 : UInt8)) ++ (onesL (4 : UInt8))))) 4 (List.replicate 32 (0 : UInt8)) 10 (pcB 0 (0 : UInt64)) 0 ([] : Lg) ((128 + 31) / 32)).2.2).take 128)).map vu8⟩), (.agg ⟨(gx (List.replicate 128 (0 : UInt8)) (((sS ((onesL (1 : UInt8)) ++ ((onesL (2 : UInt8)) ++ ((onesL (3 : UInt8)) ++ (onesL (4 : UInt8))))) 4 (List.replicate 32 (0 : UInt8)) 10 (pcB 0 (0 : UInt64)) 0 ([] : Lg) ((128 + 31) / 32)).2.2).take 128)).map vu8⟩)]) Try.call29 rfl rfl (c_Mix (gx (List.replicate 128 (0 : UInt8)) (((sS ((onesL (1 : UInt8)) ++ ((onesL (2 : UInt8)) ++ ((onesL (3 : UInt8)) ++ (onesL (4 : UInt8))))) 4 (List.replicate 32 (0 : UInt8)) 10 (pcB 0 (0 : UInt64)) 0 ([] : Lg) ((128 + 31) / 32)).2.2).take 128)) (gx (List.replicate 128 (0 : UInt8)) (((sS ((onesL (1 : UInt8)) ++ ((onesL (2 : UInt8)) ++ ((onesL (3 : UInt8)) ++ (onesL (4 : UInt8))))) 4 (List.replicate 32 (0 : UInt8)) 10 (pcB 0 (0 : UInt64)) 0 ([] : Lg) ((128 + 31) / 32)).2.2).take 128)) (gx_len (List.length_replicate ..) (by rw [List.length_take, sS_len (by simp only [List.length_append, onesL_len]) h32_w_32] <;> rfl)) (gx_len (List.length_replicate ..) (by rw [List.length_take, sS_len (by simp only [List.length_append, onesL_len]) h32_w_32] <;> rfl)) _ ) rfl ?_
  rintro _ w_65 ⟨rfl, hc_64⟩
  have h_66 := h_63.same hc_64
  refine WL.want rfl rfl ?_
  refine WL.q (Wn.no rfl) rfl rfl (R.buildA (vs := []) (cs := (List.replicate 128 (0 : UInt8)).map vu8) Try.underlying42 Try.sizeOf5 (zv Try.typeInfo42 rfl) rfl rfl) ?_
  refine WL.want rfl rfl ?_
  refine WL.q (Wn.no rfl) rfl rfl (R.eqA (xs := (gx (gx (List.replicate 128 (0 : UInt8)) (((sS ((onesL (1 : UInt8)) ++ ((onesL (2 : UInt8)) ++ ((onesL (3 : UInt8)) ++ (onesL (4 : UInt8))))) 4 (List.replicate 32 (0 : UInt8)) 10 (pcB 0 (0 : UInt64)) 0 ([] : Lg) ((128 + 31) / 32)).2.2).take 128)) (gx (List.replicate 128 (0 : UInt8)) (((sS ((onesL (1 : UInt8)) ++ ((onesL (2 : UInt8)) ++ ((onesL (3 : UInt8)) ++ (onesL (4 : UInt8))))) 4 (List.replicate 32 (0 : UInt8)) 10 (pcB 0 (0 : UInt64)) 0 ([] : Lg) ((128 + 31) / 32)).2.2).take 128))).map vu8) (ys := (List.replicate 128 (0 : UInt8)).map vu8) (r := true) rfl rfl Try.eqGuardType42 kt42 (by decide) ag42 (Typ.u8s Try.underlying42 ce42 Try.underlying5 ce5 (gx_len (gx_len (List.length_replicate ..) (by rw [List.length_take, sS_len (by simp only [List.length_append, onesL_len]) h32_w_32] <;> rfl)) (gx_len (List.length_replicate ..) (by rw [List.length_take, sS_len (by simp only [List.length_append, onesL_len]) h32_w_32] <;> rfl)))) (Typ.u8s Try.underlying42 ce42 Try.underlying5 ce5 (List.length_replicate ..)) (eqT (congrArg (List.map vu8) (by decide +kernel)))) ?_
  refine WL.q (Wn.no rfl) rfl rfl (R.pickT (v := (.bool true)) rfl rfl) ?_
  refine WL.q (Wn.no rfl) rfl rfl (R.assign (v := (.bool true)) rfl) ?_
  refine WL.nil ?_
  refine thn_n ?_
  refine WP.ret ?_
  refine ret_of Try.results31 (RV.tmp (v := (.bool true)) rfl RV.nil) ?_
  exact ⟨rfl, h_66.chgS⟩
end Go.Proofs.Ytbldmljbfokobaa
