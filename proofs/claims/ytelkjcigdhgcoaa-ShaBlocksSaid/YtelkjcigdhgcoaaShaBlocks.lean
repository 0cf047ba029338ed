/- ShaBlocks holds of every input. Conditions: none. -/
import Derived.Test.YtelkjcigdhgcoaaPA
namespace Go.Proofs.Ytelkjcigdhgcoaa
open Go.Vc Go.Sh Go.RowKit
set_option linter.unusedVariables false
set_option linter.unusedSimpArgs false
set_option maxRecDepth 20000

theorem pad_pre (bs : List UInt8) {n : Nat} (h : bs.length = n) : ((padded bs).drop 0).take n = bs := by
  rw [List.drop_zero, padded, ← h]; exact List.take_left

theorem w_Blocks_b (a : Option Addr) (n cap : Nat) (bs : List UInt8) (hl : bs.length = n) (h : 300 < n) (w : World) (hv : View w a (bs.map vu8)) :
    Cs Try.prog 7 [(.slice a n cap)].toArray w (fun v w1 => v = .bool true ∧ Chg w w1 []) := by
  refine Cs.of (n := 84) (args := [(.slice a n cap)]) Try.func7 rfl rfl rfl ?_
  have h_0 := HP.init w
  have h_00 := h_0.old (View.arg hv) (fun f hf => by cases hf)
  refine WP.seq ?_
  refine WP.reg ?_
  refine WL.q (Wn.no rfl) rfl rfl (R.assign (v := (.bool false)) rfl) ?_
  refine WL.nil ?_
  refine thn_n ?_
  refine WP.seq ?_
  refine WP.seq ?_
  refine WP.reg ?_
  refine WL.q (Wn.no rfl) rfl rfl (R.move (v := (.slice a n cap)) rfl) ?_
  refine WL.q (Wn.no rfl) rfl rfl (R.lenS (a := a) (m := n) rfl rfl Try.underlying26) ?_
  refine WL.q (Wn.no rfl) rfl rfl (R.bin (v := (.bool (decide ((((n : Nat) : Int) : Int) > 300)))) rfl rfl (bi_gtr (r := decide ((((n : Nat) : Int) : Int) > 300)) rfl)) ?_
  refine WL.nil ?_
  refine thn_n ?_
  refine WP.condT (congrArg Value.bool (decide_eq_true (by omega))) ?_
  refine WP.seq ?_
  refine WP.reg ?_
  refine WL.call (al := []) Try.call18 rfl rfl (c_known2  _ ) rfl ?_
  rintro _ w_2 ⟨rfl, hc_1⟩
  have h_3 := h_00.same hc_1
  refine WL.q (Wn.no rfl) rfl rfl (R.assign (v := (.bool true)) rfl) ?_
  refine WL.nil ?_
  refine thn_n ?_
  refine WP.ret ?_
  refine thn_r ?_
  refine ret_of Try.results7 (RV.tmp (v := (.bool true)) rfl RV.nil) ?_
  exact ⟨rfl, h_3.chgS⟩

theorem w_Blocks_s (a : Option Addr) (n cap : Nat) (bs : List UInt8) (hl : bs.length = n) (h : ¬ 300 < n) (hcap : n ≤ cap) (w : World) (hv : View w a (bs.map vu8)) :
    Cs Try.prog 7 [(.slice a n cap)].toArray w (fun v w1 => v = .bool true ∧ Chg w w1 []) := by
  refine Cs.of (n := 84) (args := [(.slice a n cap)]) Try.func7 rfl rfl rfl ?_
  have h_0 := HP.init w
  have h_00 := h_0.old (View.arg hv) (fun f hf => by cases hf)
  have hpl0 := padded_len bs
  have hp20 := padded_len2 bs
  rw [hl] at hp20
  refine WP.seq ?_
  refine WP.reg ?_
  refine WL.q (Wn.no rfl) rfl rfl (R.assign (v := (.bool false)) rfl) ?_
  refine WL.nil ?_
  refine thn_n ?_
  refine WP.seq ?_
  refine WP.seq ?_
  refine WP.reg ?_
  refine WL.q (Wn.no rfl) rfl rfl (R.move (v := (.slice a n cap)) rfl) ?_
  refine WL.q (Wn.no rfl) rfl rfl (R.lenS (a := a) (m := n) rfl rfl Try.underlying26) ?_
  refine WL.q (Wn.no rfl) rfl rfl (R.bin (v := (.bool (decide ((((n : Nat) : Int) : Int) > 300)))) rfl rfl (bi_gtr (r := decide ((((n : Nat) : Int) : Int) > 300)) rfl)) ?_
  refine WL.nil ?_
  refine thn_n ?_
  refine WP.condF (congrArg Value.bool (decide_eq_false (by omega))) ?_
  refine WP.skip ?_
  refine thn_n ?_
  refine WP.seq ?_
  refine WP.reg ?_
  refine WL.q (Wn.no rfl) rfl rfl (R.move (v := (.slice a n cap)) rfl) ?_
  refine WL.call (al := [(.slice a n cap)]) Try.call22 rfl rfl (c_Pad a n cap bs hl (by omega) (by omega) _ (viewV (h_00.ok _ (.head _)))) rfl ?_
  rintro _ w_3 ⟨a_1, cap_2, rfl, hc_4, ho_5⟩
  have h_6 := h_00.gotRow hc_4 ho_5
  have hq_7 := ho_5.2.2.1
  refine WL.q (Wn.no rfl) rfl rfl (R.assign (v := (.slice a_1 ((padded bs).length) cap_2)) rfl) ?_
  refine WL.nil ?_
  refine thn_n ?_
  refine WP.seq ?_
  refine WP.seq ?_
  refine WP.drawT (SL w.heap.size [.row a_1 ((padded bs).length) cap_2 5 1 ((padded bs).map vu8), .view a (bs.map vu8)]) (.q 0 (.q 1 (.q 2 (.q 3 (.q 4 (.q 5 (.q 6 (.q 7 (.q 8 (.q 9 (.q 10 (.q 11 (.q 12 (.q 13 (.q 14 (.q 15 (.q 16 (.q 17 (.q 18 (.q 19 (.q 20 (.q 21 .nil)))))))))))))))))))))) (by kernel_rfl) (by kernel_rfl) rfl (by kernel_rfl) (fun w_8 hc_10 => (SL.cons ((h_6.same hc_10).ok _ (.head _)) (SL.cons ((h_6.same hc_10).ok _ (.tail _ (.head _))) (SL.nil _ _)))) (fun w_8 hc_10 => ?_)
  have h_9 := h_6.same hc_10
  refine WT.q rfl (Wn.no rfl) rfl rfl (fun wq hS => R.move (v := (.slice a_1 ((padded bs).length) cap_2)) rfl) ?_
  refine WT.q rfl (Wn.no rfl) rfl rfl (fun wq hS => R.lenS (a := a_1) (m := (padded bs).length) rfl rfl Try.underlying26) ?_
  refine WT.q rfl (Wn.no rfl) rfl rfl (fun wq hS => R.bin (v := (vi ((((padded bs).length) % 64 : Nat) : Int))) rfl rfl (bi_rem (c := ((((padded bs).length) % 64 : Nat) : Int)) (Int.natCast_nonneg _) (by omega) (by first | omega | rfl))) ?_
  refine WT.q rfl (Wn.no rfl) rfl rfl (fun wq hS => R.bin (v := (.bool false)) rfl rfl (bi_neq (r := false) (decide_eq_false (by omega)))) ?_
  refine WT.q rfl (Wn.no rfl) rfl rfl (fun wq hS => R.move (v := (.bool false)) rfl) ?_
  refine WT.q rfl (Wn.yes rfl rfl rfl) rfl rfl (fun wq hS => R.move (v := (.slice a_1 ((padded bs).length) cap_2)) rfl) ?_
  refine WT.q rfl (Wn.yes rfl rfl rfl) rfl rfl (fun wq hS => R.lenS (a := a_1) (m := (padded bs).length) rfl rfl Try.underlying26) ?_
  refine WT.q rfl (Wn.yes rfl rfl rfl) rfl rfl (fun wq hS => R.move (v := (.slice a n cap)) rfl) ?_
  refine WT.q rfl (Wn.yes rfl rfl rfl) rfl rfl (fun wq hS => R.lenS (a := a) (m := n) rfl rfl Try.underlying26) ?_
  refine WT.q rfl (Wn.yes rfl rfl rfl) rfl rfl (fun wq hS => R.bin (v := (vi ((n + 9 : Nat) : Int))) rfl rfl (bi_add (c := ((n + 9 : Nat) : Int)) (by omega) (by omega))) ?_
  refine WT.q rfl (Wn.yes rfl rfl rfl) rfl rfl (fun wq hS => R.bin (v := (.bool false)) rfl rfl (bi_lss (r := false) (decide_eq_false (by omega)))) ?_
  refine WT.q rfl (Wn.no rfl) rfl rfl (fun wq hS => R.pickF (v := (.bool false)) rfl rfl) ?_
  refine WT.q rfl (Wn.no rfl) rfl rfl (fun wq hS => R.move (v := (.bool false)) rfl) ?_
  refine WT.q rfl (Wn.yes rfl rfl rfl) rfl rfl (fun wq hS => R.move (v := (.slice a_1 ((padded bs).length) cap_2)) rfl) ?_
  refine WT.q rfl (Wn.yes rfl rfl rfl) rfl rfl (fun wq hS => R.move (v := (.slice a n cap)) rfl) ?_
  refine WT.q rfl (Wn.yes rfl rfl rfl) rfl rfl (fun wq hS => R.lenS (a := a) (m := n) rfl rfl Try.underlying26) ?_
  refine WT.q rfl (Wn.yes rfl rfl rfl) rfl rfl (fun wq hS => R.sliceS (a := a_1) (len := (padded bs).length) (l := 0) (h := n) rfl EvB.dflt (EvB.it (l := n) rfl rfl) (by omega) (by omega) Try.underlying26 Try.sizeOf5) ?_
  refine WT.q rfl (Wn.yes rfl rfl rfl) rfl rfl (fun wq hS => R.toStr (bs := ((padded bs).drop 0).take n) rfl Try.underlying26 Try.underlying5 Try.underlying9 (View.slM (l := 0) (m := cap_2) (k := n) (ownView (hS _ (.head _))) (by omega)) (subLen (K := (padded bs).length) (rfl : List.length (padded bs) = (padded bs).length) (by omega) : List.length (((padded bs).drop 0).take n) = n)) ?_
  refine WT.q rfl (Wn.yes rfl rfl rfl) rfl rfl (fun wq hS => R.move (v := (.slice a n cap)) rfl) ?_
  refine WT.q rfl (Wn.yes rfl rfl rfl) rfl rfl (fun wq hS => R.toStr (bs := bs) rfl Try.underlying26 Try.underlying5 Try.underlying9 (viewV (hS _ (.tail _ (.head _)))) hl) ?_
  refine WT.q rfl (Wn.yes rfl rfl rfl) rfl rfl (fun wq hS => R.neStr (a := ((padded bs).drop 0).take n) (b := bs) (r := false) rfl rfl (by rw [pad_pre bs hl]; simp)) ?_
  refine WT.q rfl (Wn.no rfl) rfl rfl (fun wq hS => R.pickF (v := (.bool false)) rfl rfl) ?_
  refine WT.nil ?_
  refine thn_n ?_
  refine WP.condF rfl ?_
  refine WP.skip ?_
  refine thn_n ?_
  refine WP.seq ?_
  refine WP.reg ?_
  refine WL.alloc (segs := [(8, (List.replicate 8 (0 : UInt32)).map vu32)]) h_9 (zv Try.typeInfo33 rfl) rfl (SsOk.cons (SOk.u32 (List.length_replicate ..)) SsOk.nil) rfl (fun b_11 w_12 h_13 => ?_)
  refine WL.nil ?_
  refine thn_n ?_
  refine WP.seq ?_
  refine WP.seq ?_
  refine WP.reg ?_
  refine WL.q (Wn.no rfl) rfl rfl (R.assign (v := (vi 0)) rfl) ?_
  refine WL.nil ?_
  refine thn_n ?_
  refine WP.block ?_
  refine WP.loopG (G := Nat) [5, 38, 39, 40, 41, 42, 43, 44, 45] (fun i => [(5, (vi ((i : Nat) : Int)))]) (fun i m w1 => HP w w1 [.blk b_11 .nw 33 [(8, (mix hL (List.replicate 8 0) i).map vu32)], .row a_1 ((padded bs).length) cap_2 5 1 ((padded bs).map vu8), .view a (bs.map vu8)] ∧ (i ≤ 8) ∧ m = 8 - i) ⟨0, _, ⟨rfl, trivial⟩, (by rw [mix_0]; exact h_13), (by omega), rfl⟩ ?_
  rintro i m_16 J_17 w_14 ⟨h_15, hi, rfl⟩
  refine WP.seq ?_
  refine WP.seq ?_
  refine WP.reg ?_
  refine WL.q (Wn.no rfl) rfl rfl (R.move (v := (vi ((i : Nat) : Int))) rfl) ?_
  refine WL.q (Wn.no rfl) rfl rfl (R.bin (v := (.bool (decide ((((i : Nat) : Int) : Int) < 8)))) rfl rfl (bi_lss (r := decide ((((i : Nat) : Int) : Int) < 8)) rfl)) ?_
  refine WL.nil ?_
  refine thn_n ?_
  refine WP.cond (b := decide ((((i : Nat) : Int) : Int) < 8)) rfl (fun c_18 => ?_) (fun c_18 => ?_)
  · have p_19 := of_decide_eq_true c_18
    refine WP.skip ?_
    refine thn_n ?_
    refine WP.seq ?_
    refine WP.block ?_
    refine WP.reg ?_
    refine WL.q (Wn.no rfl) rfl rfl (R.move (v := (vi ((i : Nat) : Int))) rfl) ?_
    refine WL.q (Wn.no rfl) rfl rfl (R.move (v := (vi ((i : Nat) : Int))) rfl) ?_
    refine WL.call (al := [(vi ((i : Nat) : Int))]) Try.call16 rfl rfl (c_Start ((i : Nat) : Int) _ ) rfl ?_
    rintro _ w_21 ⟨rfl, hc_20⟩
    have h_22 := h_15.same hc_20
    refine WL.q (Wn.no rfl) rfl rfl (R.indexA (b := b_11) (off := 0) (off' := (0 + i)) (i := i) rfl rfl rfl (by omega) Try.underlying33 Try.sizeOf22 (by rw [Nat.mul_one])) ?_
    refine WL.storeE (b := b_11) (off := (0 + i)) (i := i) (v := (vu32 (hAt ((i : Nat) : Int)))) (cs' := ((mix hL (List.replicate 8 0) i).set i (hAt ((i : Nat) : Int))).map vu32) h_22 rfl rfl Try.sizeOf22 rfl At.h (by decide) Sg.h rfl (lt_len (K := 8) (len_map (mix_len hL_len (List.length_replicate ..))) (by omega)) (set_u32 _ _ _) (fun w_23 h_24 => ?_)
    refine WL.nil ?_
    refine inb_n ?_
    refine thn_n ?_
    refine WP.reg ?_
    refine WL.q (Wn.no rfl) rfl rfl (R.move (v := (vi ((i : Nat) : Int))) rfl) ?_
    refine WL.q (Wn.no rfl) rfl rfl (R.bin (v := (vi ((i + 1 : Nat) : Int))) rfl rfl (bi_add (c := ((i + 1 : Nat) : Int)) (by omega) (by omega))) ?_
    refine WL.q (Wn.no rfl) rfl rfl (R.assign (v := (vi ((i + 1 : Nat) : Int))) rfl) ?_
    refine WL.nil ?_
    refine thn_n ?_
    have h_25 := h_24.up (Pick.t (Pick.t Pick.h))
    have h_26 := h_25.up (Pick.t (Pick.t Pick.h))
    have h_27 := h_26.up (Pick.t (Pick.t Pick.h))
    rw [h_set (by omega)] at h_27
    exact ⟨i + 1, _, (by omega), (Ag.upd rfl (Ag.upd rfl (Ag.upd rfl (Ag.upd rfl (Ag.upd rfl (Ag.upd rfl (Ag.upd rfl (Ag.upd rfl (Ag.upd rfl (Ag.updL rfl (Ag.mix _ _ _))))))))))), ⟨rfl, trivial⟩, h_27, (by omega), rfl⟩
  · have p_28 := of_decide_eq_false c_18
    refine WP.exit ?_
    refine thn_x ?_
    refine thn_x ?_
    refine inb_hit ?_
    refine thn_n ?_
    refine WP.seq ?_
    refine WP.seq ?_
    refine WP.reg ?_
    refine WL.q (Wn.no rfl) rfl rfl (R.assign (v := (vi 0)) rfl) ?_
    refine WL.nil ?_
    refine thn_n ?_
    refine WP.block ?_
    have hi8 : i = 8 := by omega
    subst hi8
    have eh : mix hL (List.replicate 8 0) 8 = hL := mix_all hL_len (List.length_replicate ..) (Nat.le_refl _)
    rw [eh] at h_15
    have hpl := padded_len bs
    have hp2 := padded_len2 bs
    rw [hl] at hp2
    refine WP.loopG (G := Nat) [6, 7, 46, 47, 48, 49, 50, 51, 52, 53, 54, 55, 56, 57, 58, 59, 60, 61] (fun k => [(6, (vi ((64 * k : Nat) : Int)))]) (fun k m w1 => HP w w1 [.blk b_11 .nw 33 [(8, (hs kL hL (padded bs) k).map vu32)], .row a_1 ((padded bs).length) cap_2 5 1 ((padded bs).map vu8), .view a (bs.map vu8)] ∧ (64 * k ≤ (padded bs).length) ∧ m = (padded bs).length - 64 * k) ⟨0, _, ⟨rfl, trivial⟩, h_15, (by omega), rfl⟩ ?_
    rintro k m_31 J_32 w_29 ⟨h_30, hk, rfl⟩
    refine WP.seq ?_
    refine WP.seq ?_
    refine WP.reg ?_
    refine WL.q (Wn.no rfl) rfl rfl (R.move (v := (vi ((64 * k : Nat) : Int))) rfl) ?_
    refine WL.q (Wn.no rfl) rfl rfl (R.move (v := (.slice a_1 ((padded bs).length) cap_2)) rfl) ?_
    refine WL.q (Wn.no rfl) rfl rfl (R.lenS (a := a_1) (m := (padded bs).length) rfl rfl Try.underlying26) ?_
    refine WL.q (Wn.no rfl) rfl rfl (R.bin (v := (.bool (decide ((((64 * k : Nat) : Int) : Int) < (((padded bs).length : Nat) : Int))))) rfl rfl (bi_lss (r := decide ((((64 * k : Nat) : Int) : Int) < (((padded bs).length : Nat) : Int))) rfl)) ?_
    refine WL.nil ?_
    refine thn_n ?_
    refine WP.cond (b := decide ((((64 * k : Nat) : Int) : Int) < (((padded bs).length : Nat) : Int))) rfl (fun c_33 => ?_) (fun c_33 => ?_)
    · have p_34 := of_decide_eq_true c_33
      refine WP.skip ?_
      refine thn_n ?_
      refine WP.seq ?_
      refine WP.block ?_
      refine WP.seq ?_
      refine WP.reg ?_
      refine WL.alloc (segs := [(64, (List.replicate 64 (0 : UInt8)).map vu8)]) h_30 (zv Try.typeInfo34 rfl) rfl (SsOk.cons (SOk.u8 (List.length_replicate ..)) SsOk.nil) rfl (fun b_35 w_36 h_37 => ?_)
      refine WL.nil ?_
      refine thn_n ?_
      refine WP.seq ?_
      refine WP.drawT (SL w.heap.size [.blk b_11 .nw 33 [(8, (hs kL hL (padded bs) k).map vu32)], .row a_1 ((padded bs).length) cap_2 5 1 ((padded bs).map vu8), .view a (bs.map vu8)]) (.q 0 (.q 1 (.q 2 (.q 3 (.q 4 (.q 5 (.s 6 .nil))))))) (by kernel_rfl) (by kernel_rfl) rfl (by kernel_rfl) (fun w_38 hc_40 => (SL.cons ((h_37.same hc_40).ok _ (.tail _ (.head _))) (SL.cons ((h_37.same hc_40).ok _ (.tail _ (.tail _ (.head _)))) (SL.cons ((h_37.same hc_40).ok _ (.tail _ (.tail _ (.tail _ (.head _))))) (SL.nil _ _))))) (fun w_38 hc_40 => ?_)
      have h_39 := h_37.same hc_40
      refine WT.q rfl (Wn.no rfl) rfl rfl (fun wq hS => R.sliceA (b := b_35) (off := 0) (off' := 0) (l := 0) (h := 64) rfl EvB.dflt EvB.dflt (by decide) (by decide) Try.underlying34 Try.sizeOf5 rfl) ?_
      refine WT.q rfl (Wn.no rfl) rfl rfl (fun wq hS => R.move (v := (.slice a_1 ((padded bs).length) cap_2)) rfl) ?_
      refine WT.q rfl (Wn.no rfl) rfl rfl (fun wq hS => R.move (v := (vi ((64 * k : Nat) : Int))) rfl) ?_
      refine WT.q rfl (Wn.no rfl) rfl rfl (fun wq hS => R.move (v := (vi ((64 * k : Nat) : Int))) rfl) ?_
      refine WT.q rfl (Wn.no rfl) rfl rfl (fun wq hS => R.bin (v := (vi ((64 * k + 64 : Nat) : Int))) rfl rfl (bi_add (c := ((64 * k + 64 : Nat) : Int)) (by omega) (by omega))) ?_
      refine WT.q rfl (Wn.no rfl) rfl rfl (fun wq hS => R.sliceS (a := a_1) (len := (padded bs).length) (l := 64 * k) (h := 64 * k + 64) rfl (EvB.it (l := 64 * k) rfl rfl) (EvB.it (l := 64 * k + 64) rfl rfl) (by omega) (by omega) Try.underlying26 Try.sizeOf5) ?_
      refine WT.s ?_
      refine Op1.one rfl (Wn.no rfl) ?_
      refine WL.copy (q := 64) (i := 0) (ys := (((padded bs).drop (64 * k)).take 64).map vu8) (cs' := (((padded bs).drop (64 * k)).take 64).map vu8) h_39 rfl (congrArg (fun n => Value.slice (slA a_1 (64 * k) cap_2 1) n (cap_2 - (64 * k))) (show 64 * k + 64 - (64 * k) = 64 from (by omega))) Try.underlying26 Try.sizeOf5 (View.slM (l := 64 * k) (m := cap_2) (k := 64) (ownView (h_39.ok _ (.tail _ (.tail _ (.head _))))) (by omega)) (len_map (subLen (K := (padded bs).length) (rfl : List.length (padded bs) = (padded bs).length) (by omega) : List.length (((padded bs).drop (64 * k)).take 64) = 64)) (one_u8 _) At.h (by decide) Sg.h rfl (by decide) (by rw [len_map (List.length_replicate ..)]; decide) (cpAll (subLen (K := (padded bs).length) (rfl : List.length (padded bs) = (padded bs).length) (by omega) : List.length (((padded bs).drop (64 * k)).take 64) = 64) (List.length_replicate ..)) rfl (fun w_41 h_42 => ?_)
      refine WL.nil ?_
      refine ⟨(SL.cons (h_42.ok _ (.tail _ (.head _))) (SL.cons (h_42.ok _ (.tail _ (.tail _ (.head _)))) (SL.cons (h_42.ok _ (.tail _ (.tail _ (.tail _ (.head _))))) (SL.nil _ _)))), ?_⟩
      refine WT.nil ?_
      refine thn_n ?_
      refine WP.reg ?_
      refine WL.q (Wn.no rfl) rfl rfl (R.loadA (b := b_11) (off := 0) [] [(8, (hs kL hL (padded bs) k).map vu32)] [] (cs := (hs kL hL (padded bs) k).map vu32) rfl Try.isAgg33 Try.sizeOf33 (h_42.ok _ (.tail _ (.head _))) rfl rfl rfl rfl) ?_
      refine WL.q (Wn.no rfl) rfl rfl (R.loadA (b := b_35) (off := 0) [] [(64, (((padded bs).drop (64 * k)).take 64).map vu8)] [] (cs := (((padded bs).drop (64 * k)).take 64).map vu8) rfl Try.isAgg34 Try.sizeOf34 (h_42.ok _ (.head _)) rfl rfl rfl rfl) ?_
      refine WL.call (al := [(.agg ⟨(hs kL hL (padded bs) k).map vu32⟩), (.agg ⟨(((padded bs).drop (64 * k)).take 64).map vu8⟩)]) Try.call24 rfl rfl (c_Press (hs kL hL (padded bs) k) (((padded bs).drop (64 * k)).take 64) (hs_len hL_len k) (subLen (K := (padded bs).length) (rfl : List.length (padded bs) = (padded bs).length) (by omega) : List.length (((padded bs).drop (64 * k)).take 64) = 64) _ ) rfl ?_
      rintro _ w_44 ⟨rfl, hc_43⟩
      have h_45 := h_42.same hc_43
      refine WL.storeA (b := b_11) (off := 0) [] [(8, (hs kL hL (padded bs) k).map vu32)] [(8, (pressL kL (hs kL hL (padded bs) k) (((padded bs).drop (64 * k)).take 64)).map vu32)] [] (ys := (pressL kL (hs kL hL (padded bs) k) (((padded bs).drop (64 * k)).take 64)).map vu32) h_45 rfl rfl Try.sizeOf33 (At.t At.h) (by decide) rfl rfl rfl rfl rfl rfl (SsOk.cons (SOk.u32 (pressL_len ..)) SsOk.nil) (fun w_46 h_47 => ?_)
      refine WL.nil ?_
      refine inb_n ?_
      refine thn_n ?_
      refine WP.reg ?_
      refine WL.q (Wn.no rfl) rfl rfl (R.move (v := (vi ((64 * k : Nat) : Int))) rfl) ?_
      refine WL.q (Wn.no rfl) rfl rfl (R.bin (v := (vi ((64 * k + 64 : Nat) : Int))) rfl rfl (bi_add (c := ((64 * k + 64 : Nat) : Int)) (by omega) (by omega))) ?_
      refine WL.q (Wn.no rfl) rfl rfl (R.assign (v := (vi ((64 * k + 64 : Nat) : Int))) rfl) ?_
      refine WL.nil ?_
      refine thn_n ?_
      have h_48 := h_47.drop rfl
      have h_49 := h_48.up (Pick.t (Pick.t Pick.h))
      have h_50 := h_49.up (Pick.t (Pick.t Pick.h))
      have h_51 := h_50.up (Pick.t (Pick.t Pick.h))
      have es : pressL kL (hs kL hL (padded bs) k) (((padded bs).drop (64 * k)).take 64) = hs kL hL (padded bs) (k + 1) := rfl
      rw [es] at h_51
      exact ⟨k + 1, _, (by omega), (Ag.upd rfl (Ag.upd rfl (Ag.upd rfl (Ag.upd rfl (Ag.upd rfl (Ag.upd rfl (Ag.upd rfl (Ag.upd rfl (Ag.upd rfl (Ag.upd rfl (Ag.upd rfl (Ag.upd rfl (Ag.upd rfl (Ag.upd rfl (Ag.upd rfl (Ag.upd rfl (Ag.upd rfl (Ag.upd rfl (Ag.updL rfl (Ag.mix _ _ _)))))))))))))))))))), ⟨congrArg vi (by omega), trivial⟩, h_51, (by omega), rfl⟩
    · have p_52 := of_decide_eq_false c_33
      refine WP.exit ?_
      refine thn_x ?_
      refine thn_x ?_
      refine inb_hit ?_
      refine thn_n ?_
      refine WP.seq ?_
      refine WP.reg ?_
      refine WL.q (Wn.no rfl) rfl rfl (R.move (v := (.slice a n cap)) rfl) ?_
      refine WL.call (al := [(.slice a n cap)]) Try.call19 rfl rfl (c_Sum a n cap bs hl (by omega) (by omega) _ (viewV (h_30.ok _ (.tail _ (.tail _ (.head _)))))) rfl ?_
      rintro _ w_54 ⟨rfl, hc_53⟩
      have h_55 := h_30.same hc_53
      refine WL.alloc (segs := [(32, (List.replicate 32 (0 : UInt8)).map vu8)]) h_55 (zv Try.typeInfo28 rfl) rfl (SsOk.cons (SOk.u8 (List.length_replicate ..)) SsOk.nil) rfl (fun b_56 w_57 h_58 => ?_)
      refine WL.storeA (b := b_56) (off := 0) [] [(32, (List.replicate 32 (0 : UInt8)).map vu8)] [(32, (sumL bs).map vu8)] [] (ys := (sumL bs).map vu8) h_58 rfl rfl Try.sizeOf28 At.h (by decide) rfl rfl rfl rfl rfl rfl (SsOk.cons (SOk.u8 (sumL_len _)) SsOk.nil) (fun w_59 h_60 => ?_)
      refine WL.nil ?_
      refine thn_n ?_
      refine WP.seq ?_
      refine WP.seq ?_
      refine WP.reg ?_
      refine WL.q (Wn.no rfl) rfl rfl (R.assign (v := (vi 0)) rfl) ?_
      refine WL.nil ?_
      refine thn_n ?_
      refine WP.block ?_
      have hk2 : k = (padded bs).length / 64 := by omega
      refine WP.loopG (G := Nat) [2, 9, 64, 65, 66, 67, 68, 69, 70, 71, 72, 73, 74, 75, 76, 77, 78, 79, 80, 81, 82] (fun j => [(9, (vi ((j : Nat) : Int)))]) (fun j m w1 => HP w w1 [.blk b_56 .nw 28 [(32, (sumL bs).map vu8)], .blk b_11 .nw 33 [(8, (hs kL hL (padded bs) k).map vu32)], .row a_1 ((padded bs).length) cap_2 5 1 ((padded bs).map vu8), .view a (bs.map vu8)] ∧ (j ≤ 32) ∧ m = 32 - j) ⟨0, _, ⟨rfl, trivial⟩, h_60, (by omega), rfl⟩ ?_
      rintro j m_63 J_64 w_61 ⟨h_62, hj, rfl⟩
      have ek : j < 32 → (UInt64.ofNat (24 - 8 * (j % 4))).toNat = 24 - 8 * (j % 4) := fun _ => nat64 (by omega)
      have eg : j < 32 → (sumL bs).getD j 0 = UInt8.ofNat (shr32 ((hs kL hL (padded bs) k).getD (j / 4) 0) (UInt64.ofNat (24 - 8 * (j % 4))).toNat).toNat := fun hj => by rw [ek hj, hk2]; exact digL_get hj
      refine WP.seq ?_
      refine WP.seq ?_
      refine WP.reg ?_
      refine WL.q (Wn.no rfl) rfl rfl (R.move (v := (vi ((j : Nat) : Int))) rfl) ?_
      refine WL.q (Wn.no rfl) rfl rfl (R.bin (v := (.bool (decide ((((j : Nat) : Int) : Int) < 32)))) rfl rfl (bi_lss (r := decide ((((j : Nat) : Int) : Int) < 32)) rfl)) ?_
      refine WL.nil ?_
      refine thn_n ?_
      refine WP.cond (b := decide ((((j : Nat) : Int) : Int) < 32)) rfl (fun c_65 => ?_) (fun c_65 => ?_)
      · have p_66 := of_decide_eq_true c_65
        refine WP.skip ?_
        refine thn_n ?_
        refine WP.seq ?_
        refine WP.block ?_
        refine WP.seq ?_
        refine WP.drawT (SL w.heap.size [.blk b_56 .nw 28 [(32, (sumL bs).map vu8)], .blk b_11 .nw 33 [(8, (hs kL hL (padded bs) k).map vu32)], .row a_1 ((padded bs).length) cap_2 5 1 ((padded bs).map vu8), .view a (bs.map vu8)]) (.q 0 (.q 1 (.q 2 (.q 3 (.q 4 (.q 5 (.q 6 (.q 7 (.q 8 (.q 9 (.q 10 (.q 11 (.q 12 (.q 13 (.q 14 .nil))))))))))))))) (by kernel_rfl) (by kernel_rfl) rfl (by kernel_rfl) (fun w_67 hc_69 => (SL.cons ((h_62.same hc_69).ok _ (.head _)) (SL.cons ((h_62.same hc_69).ok _ (.tail _ (.head _))) (SL.cons ((h_62.same hc_69).ok _ (.tail _ (.tail _ (.head _)))) (SL.cons ((h_62.same hc_69).ok _ (.tail _ (.tail _ (.tail _ (.head _))))) (SL.nil _ _)))))) (fun w_67 hc_69 => ?_)
        have h_68 := h_62.same hc_69
        refine WT.q rfl (Wn.no rfl) rfl rfl (fun wq hS => R.move (v := (vi ((j : Nat) : Int))) rfl) ?_
        refine WT.q rfl (Wn.no rfl) rfl rfl (fun wq hS => R.indexA (b := b_56) (off := 0) (off' := (0 + j)) (i := j) rfl rfl rfl (by omega) Try.underlying28 Try.sizeOf5 (by rw [Nat.mul_one])) ?_
        refine WT.q rfl (Wn.no rfl) rfl rfl (fun wq hS => R.loadE (b := b_56) (off := (0 + j)) (i := j) (v := (vu8 ((sumL bs).getD j 0))) rfl Try.isAgg5 (hS _ (.head _)) Sg.h rfl (get_u8 (lt_len (K := 32) (sumL_len _) (by omega)))) ?_
        refine WT.q rfl (Wn.no rfl) rfl rfl (fun wq hS => R.move (v := (vi ((j : Nat) : Int))) rfl) ?_
        refine WT.q rfl (Wn.no rfl) rfl rfl (fun wq hS => R.bin (v := (vi ((j / 4 : Nat) : Int))) rfl rfl (bi_quo (c := ((j / 4 : Nat) : Int)) (by first | omega | exact ⟨Int.natCast_nonneg _, by omega⟩) (by omega) (by first | omega | rfl))) ?_
        refine WT.q rfl (Wn.no rfl) rfl rfl (fun wq hS => R.indexA (b := b_11) (off := 0) (off' := (0 + (j / 4))) (i := j / 4) rfl rfl rfl (by omega) Try.underlying33 Try.sizeOf22 (by rw [Nat.mul_one])) ?_
        refine WT.q rfl (Wn.no rfl) rfl rfl (fun wq hS => R.loadE (b := b_11) (off := (0 + (j / 4))) (i := j / 4) (v := (vu32 ((hs kL hL (padded bs) k).getD (j / 4) 0))) rfl Try.isAgg22 (hS _ (.tail _ (.head _))) Sg.h rfl (get_u32 (lt_len (K := 8) (hs_len hL_len k) (by omega)))) ?_
        refine WT.q rfl (Wn.no rfl) rfl rfl (fun wq hS => R.move (v := (vi ((j : Nat) : Int))) rfl) ?_
        refine WT.q rfl (Wn.no rfl) rfl rfl (fun wq hS => R.bin (v := (vi ((j % 4 : Nat) : Int))) rfl rfl (bi_rem (c := ((j % 4 : Nat) : Int)) (Int.natCast_nonneg _) (by omega) (by first | omega | rfl))) ?_
        refine WT.q rfl (Wn.no rfl) rfl rfl (fun wq hS => R.bin (v := (vi ((8 * (j % 4) : Nat) : Int))) rfl rfl (bi_mul (c := ((8 * (j % 4) : Nat) : Int)) (by omega) (by omega))) ?_
        refine WT.q rfl (Wn.no rfl) rfl rfl (fun wq hS => R.bin (v := (vi ((24 - (8 * (j % 4)) : Nat) : Int))) rfl rfl (bi_sub (c := ((24 - (8 * (j % 4)) : Nat) : Int)) (by omega) (by omega))) ?_
        refine WT.q rfl (Wn.no rfl) rfl rfl (fun wq hS => R.conv (b := ((UInt64.ofNat (24 - (8 * (j % 4)))) : UInt64).toNat) rfl Try.underlying3 Try.underlying51 (w64_nat (24 - (8 * (j % 4))))) ?_
        refine WT.q rfl (Wn.no rfl) rfl rfl (fun wq hS => R.binR (v := vu32 (shr32 ((hs kL hL (padded bs) k).getD (j / 4) 0) ((UInt64.ofNat (24 - (8 * (j % 4)))).toNat))) rfl rfl (run_shr32 _ _ _ ((hs kL hL (padded bs) k).getD (j / 4) 0) _ ((UInt64.ofNat (24 - (8 * (j % 4)))).toNat))) ?_
        refine WT.q rfl (Wn.no rfl) rfl rfl (fun wq hS => R.conv (b := ((UInt8.ofNat ((shr32 ((hs kL hL (padded bs) k).getD (j / 4) 0) ((UInt64.ofNat (24 - (8 * (j % 4)))).toNat)).toNat)) : UInt8).toNat) rfl Try.underlying22 Try.underlying5 (w8_nat ((shr32 ((hs kL hL (padded bs) k).getD (j / 4) 0) ((UInt64.ofNat (24 - (8 * (j % 4)))).toNat)).toNat))) ?_
        refine WT.q rfl (Wn.no rfl) rfl rfl (fun wq hS => R.bin (v := (.bool false)) rfl rfl (b8_neq ((sumL bs).getD j 0) (UInt8.ofNat ((shr32 ((hs kL hL (padded bs) k).getD (j / 4) 0) ((UInt64.ofNat (24 - (8 * (j % 4)))).toNat)).toNat)) (r := false) (decide_eq_false (fun h => h (eg (by omega)))))) ?_
        refine WT.nil ?_
        refine thn_n ?_
        refine WP.condF rfl ?_
        refine WP.skip ?_
        refine inb_n ?_
        refine thn_n ?_
        refine WP.reg ?_
        refine WL.q (Wn.no rfl) rfl rfl (R.move (v := (vi ((j : Nat) : Int))) rfl) ?_
        refine WL.q (Wn.no rfl) rfl rfl (R.bin (v := (vi ((j + 1 : Nat) : Int))) rfl rfl (bi_add (c := ((j + 1 : Nat) : Int)) (by omega) (by omega))) ?_
        refine WL.q (Wn.no rfl) rfl rfl (R.assign (v := (vi ((j + 1 : Nat) : Int))) rfl) ?_
        refine WL.nil ?_
        refine thn_n ?_
        have h_70 := h_68.up (Pick.t (Pick.t (Pick.t Pick.h)))
        have h_71 := h_70.up (Pick.t (Pick.t (Pick.t Pick.h)))
        have h_72 := h_71.up (Pick.t (Pick.t (Pick.t Pick.h)))
        have h_73 := h_72.up (Pick.t (Pick.t (Pick.t Pick.h)))
        exact ⟨j + 1, _, (by omega), (Ag.upd rfl (Ag.upd rfl (Ag.upd rfl (Ag.upd rfl (Ag.upd rfl (Ag.upd rfl (Ag.upd rfl (Ag.upd rfl (Ag.upd rfl (Ag.upd rfl (Ag.upd rfl (Ag.upd rfl (Ag.upd rfl (Ag.upd rfl (Ag.upd rfl (Ag.upd rfl (Ag.upd rfl (Ag.upd rfl (Ag.upd rfl (Ag.upd rfl (Ag.updL rfl (Ag.mix _ _ _)))))))))))))))))))))), ⟨rfl, trivial⟩, h_73, (by omega), rfl⟩
      · have p_74 := of_decide_eq_false c_65
        refine WP.exit ?_
        refine thn_x ?_
        refine thn_x ?_
        refine inb_hit ?_
        refine thn_n ?_
        refine WP.seq ?_
        refine WP.reg ?_
        refine WL.call (al := []) Try.call18 rfl rfl (c_known2  _ ) rfl ?_
        rintro _ w_76 ⟨rfl, hc_75⟩
        have h_77 := h_62.same hc_75
        refine WL.q (Wn.no rfl) rfl rfl (R.assign (v := (.bool true)) rfl) ?_
        refine WL.nil ?_
        refine thn_n ?_
        refine WP.ret ?_
        refine ret_of Try.results7 (RV.tmp (v := (.bool true)) rfl RV.nil) ?_
        exact ⟨rfl, h_77.chgS⟩

theorem w_ShaBlocks (a : Option Addr) (n cap : Nat) (bs : List UInt8) (hl : bs.length = n) (hcap : n ≤ cap) (w : World) (hv : View w a (bs.map vu8)) : Cs Try.prog 7 [.slice a n cap].toArray w (fun v w1 => v = .bool true ∧ Chg w w1 []) := by
  by_cases h : 300 < n
  · exact w_Blocks_b a n cap bs hl h w hv
  · exact w_Blocks_s a n cap bs hl h hcap w hv
namespace shaBlocksDone
open Go.ChangeShapes Go.WideShapes Go.ChangeAt
theorem own : ownKnob Try.prog.godebug = none := by kernel_rfl
theorem laidOut : laidOutB Try.prog = true := by kernel_rfl
set_option maxRecDepth 100000 in
theorem lifted (os : Os) (started : os.Started) (H : Type) (enc : TypeId × Value → H) :
    ReturnsInHanded {} Try.checked os 7 .any (Rows.shaBlocksSpec.pre6 enc Try.prog Try.f7 Rows.shaBlocksRow.domain false) (Rows.shaBlocksSpec.post enc Try.prog Try.f7 false true false false) := by
  refine returnsInHanded_of_change (C := Try.checked) own started (by kernel_rfl) Try.func7
    (ChangeSpec.witness6 (enc := enc) (C := Try.checked) false ⟨#[], #[.slice none 0 0], []⟩ 8 (by kernel_rfl) (by kernel_rfl) (by kernel_rfl) (by kernel_rfl)) ?_
  intro W base args ds gs before hval0 hW hcnd _
  have hval : ∀ (j : Nat) t v, Try.f7.params[j]? = some t → args[j]? = some v → Value.okWide Try.prog W .any base t v := hval0
  have hW' := hW
  obtain ⟨p, q, hA0, hV, rfl, hfz, hnd⟩ := hW
  have hA : DataW.TrodAll enc Try.prog W 0 (fun _ => true) true Try.f7.params.toList args.toList ds p := hA0
  rw [Try.params7] at hA hval
  obtain ⟨v0, vs0, d0, ds0, p0, q0, hargs, rfl, rfl, h0, r0⟩ := trodAll_cons hA
  obtain ⟨rfl, rfl, rfl⟩ := trodAll_nil r0
  obtain rfl : args = #[v0] := by cases args; simp_all
  obtain ⟨rfl, rfl⟩ := trodVars_none hV
  have lt0 : ∀ x ∈ p0, x.block < W.heap.size := by obtain ⟨m, hm⟩ := h0; exact DataW.trod_lt m _ _ _ hm
  obtain ⟨a0, n0, c0, rfl⟩ := okWide_slice Try.underlying26 (hval 0 26 v0 rfl rfl)
  obtain ⟨a0, n0, c0, x0, e0, l_x0, hc0, hm0, hv0, hn0⟩ := Tr.sl8 Try.underlying26 ce5 Try.underlying5 (Tr.of h0 rfl)
  cases e0
  clear hA0 hval0
  have hw : Cs Try.prog 7 [(.slice a0 n0 c0)].toArray W (fun v w1 => v = .bool true ∧ Chg W w1 []) := w_ShaBlocks a0 n0 c0 x0 l_x0 hc0 W hv0.1
  have ea : ([(.slice a0 n0 c0)] : List Value).toArray = (#[(.slice a0 n0 c0)] : Array Value) := by simp [flat]
  rw [ea] at hw
  refine Calls.mono (Cs.below hw) fun e W' ⟨he, bel⟩ => ?_
  subst he
  exact ⟨_, rfl, _, _, _, [], _, [], hW', trodAll_mk1 (shut_bool Try.underlying4 _), (trodAll_cons_mk (Below.trod laidOut (by kernel_rfl) (of_decide_eq_true (by kernel_rfl)) h0 bel lt0) trodAll_mk0), rfl, bel.frame _, fun h => by cases h⟩
theorem over : Rows.shaBlocksRow.holds Try.pinned (OpenSpec.ofChange Rows.shaBlocksSpec) :=
  OpenClaim.holds_of_wide 7 Try.f7 rfl rfl rfl rfl rfl rfl rfl ⟨rfl, rfl, rfl, rfl, rfl⟩ rfl rfl rfl rfl rfl (by kernel_rfl) Try.func7 (by kernel_rfl)
    (of_decide_eq_true (by kernel_rfl)) (by unfold Func.isWrapper; first | (rw [if_pos (by decide +kernel)]; kernel_rfl) | (rw [if_neg (by decide +kernel)]; exact ⟨rfl, rfl⟩))
    (fun os started H enc _ => lifted os started H enc)
theorem proved : Rows.ShaBlocksSaid := over
end shaBlocksDone
end Go.Proofs.Ytelkjcigdhgcoaa
