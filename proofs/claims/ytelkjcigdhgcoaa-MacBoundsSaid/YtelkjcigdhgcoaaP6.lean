/- The digest of the document: contracts. Conditions: those that each theorem states. -/
import Derived.Test.YtelkjcigdhgcoaaP5
namespace Go.Proofs.Ytelkjcigdhgcoaa
open Go.Vc Go.Sh Go.RowKit
set_option linter.unusedVariables false
set_option linter.unusedSimpArgs false
set_option maxRecDepth 20000

theorem c_SumR (a : Option Addr) (n cap : Nat) (bs : List UInt8) (hl : bs.length = n) (hn : n ≤ 1000000000000) (w : World) (hv : View w a (bs.map vu8)) :
    Cs Try.prog 20 [(.slice a n cap)].toArray w (fun v w1 => v = (.agg ⟨(sumL bs).map vu8⟩) ∧ Chg w w1 []) := by
  refine Cs.of (n := 57) (args := [(.slice a n cap)]) Try.func20 rfl rfl rfl ?_
  have h_0 := HP.init w
  have h_00 := h_0.old (View.arg hv) (fun f hf => by cases hf)
  refine WP.seq ?_
  refine WP.reg ?_
  refine WL.alloc (segs := [(32, (List.replicate 32 (0 : UInt8)).map vu8)]) h_00 (zv Try.typeInfo28 rfl) rfl (SsOk.cons (SOk.u8 (List.length_replicate ..)) SsOk.nil) rfl (fun b_1 w_2 h_3 => ?_)
  refine WL.nil ?_
  refine thn_n ?_
  refine WP.seq ?_
  refine WP.reg ?_
  refine WL.alloc (segs := [(8, (List.replicate 8 (0 : UInt32)).map vu32)]) h_3 (zv Try.typeInfo33 rfl) rfl (SsOk.cons (SOk.u32 (List.length_replicate ..)) SsOk.nil) rfl (fun b_4 w_5 h_6 => ?_)
  refine WL.nil ?_
  refine thn_n ?_
  refine WP.seq ?_
  refine WP.seq ?_
  refine WP.reg ?_
  refine WL.q (Wn.no rfl) rfl rfl (R.assign (v := (vi 0)) rfl) ?_
  refine WL.nil ?_
  refine thn_n ?_
  refine WP.block ?_
  refine WP.loopG (G := Nat) [4, 11, 12, 13, 14, 15, 16, 17, 18] (fun i => [(4, (vi ((i : Nat) : Int)))]) (fun i m w1 => HP w w1 [.blk b_4 .nw 33 [(8, (mix hL (List.replicate 8 0) i).map vu32)], .blk b_1 .nw 28 [(32, (List.replicate 32 (0 : UInt8)).map vu8)], .view a (bs.map vu8)] ∧ (i ≤ 8) ∧ m = 8 - i) ⟨0, _, ⟨rfl, trivial⟩, (by rw [mix_0]; exact h_6), (by omega), rfl⟩ ?_
  rintro i m_9 J_10 w_7 ⟨h_8, hi, rfl⟩
  refine WP.seq ?_
  refine WP.seq ?_
  refine WP.reg ?_
  refine WL.q (Wn.no rfl) rfl rfl (R.move (v := (vi ((i : Nat) : Int))) rfl) ?_
  refine WL.q (Wn.no rfl) rfl rfl (R.bin (v := (.bool (decide ((((i : Nat) : Int) : Int) < 8)))) rfl rfl (bi_lss (r := decide ((((i : Nat) : Int) : Int) < 8)) rfl)) ?_
  refine WL.nil ?_
  refine thn_n ?_
  refine WP.cond (b := decide ((((i : Nat) : Int) : Int) < 8)) rfl (fun c_11 => ?_) (fun c_11 => ?_)
  · have p_12 := of_decide_eq_true c_11
    refine WP.skip ?_
    refine thn_n ?_
    refine WP.seq ?_
    refine WP.block ?_
    refine WP.reg ?_
    refine WL.q (Wn.no rfl) rfl rfl (R.move (v := (vi ((i : Nat) : Int))) rfl) ?_
    refine WL.q (Wn.no rfl) rfl rfl (R.move (v := (vi ((i : Nat) : Int))) rfl) ?_
    refine WL.call (al := [(vi ((i : Nat) : Int))]) Try.call17 rfl rfl (c_StartR ((i : Nat) : Int) _ ) rfl ?_
    rintro _ w_14 ⟨rfl, hc_13⟩
    have h_15 := h_8.same hc_13
    refine WL.q (Wn.no rfl) rfl rfl (R.indexA (b := b_4) (off := 0) (off' := (0 + i)) (i := i) rfl rfl rfl (by omega) Try.underlying33 Try.sizeOf22 (by rw [Nat.mul_one])) ?_
    refine WL.storeE (b := b_4) (off := (0 + i)) (i := i) (v := (vu32 (hAt ((i : Nat) : Int)))) (cs' := ((mix hL (List.replicate 8 0) i).set i (hAt ((i : Nat) : Int))).map vu32) h_15 rfl rfl Try.sizeOf22 rfl At.h (by decide) Sg.h rfl (lt_len (K := 8) (len_map (mix_len hL_len (List.length_replicate ..))) (by omega)) (set_u32 _ _ _) (fun w_16 h_17 => ?_)
    refine WL.nil ?_
    refine inb_n ?_
    refine thn_n ?_
    refine WP.reg ?_
    refine WL.q (Wn.no rfl) rfl rfl (R.move (v := (vi ((i : Nat) : Int))) rfl) ?_
    refine WL.q (Wn.no rfl) rfl rfl (R.bin (v := (vi ((i + 1 : Nat) : Int))) rfl rfl (bi_add (c := ((i + 1 : Nat) : Int)) (by omega) (by omega))) ?_
    refine WL.q (Wn.no rfl) rfl rfl (R.assign (v := (vi ((i + 1 : Nat) : Int))) rfl) ?_
    refine WL.nil ?_
    refine thn_n ?_
    have h_18 := h_17.up (Pick.t (Pick.t Pick.h))
    have h_19 := h_18.up (Pick.t (Pick.t Pick.h))
    have h_20 := h_19.up (Pick.t (Pick.t Pick.h))
    rw [h_set (by omega)] at h_20
    exact ⟨i + 1, _, (by omega), (Ag.upd rfl (Ag.upd rfl (Ag.upd rfl (Ag.upd rfl (Ag.upd rfl (Ag.upd rfl (Ag.upd rfl (Ag.upd rfl (Ag.upd rfl (Ag.updL rfl (Ag.mix _ _ _))))))))))), ⟨rfl, trivial⟩, h_20, (by omega), rfl⟩
  · have p_21 := of_decide_eq_false c_11
    refine WP.exit ?_
    refine thn_x ?_
    refine thn_x ?_
    refine inb_hit ?_
    refine thn_n ?_
    refine WP.seq ?_
    refine WP.reg ?_
    refine WL.call (al := []) Try.call26 rfl rfl (c_ConstantsR _) rfl ?_
    rintro _ w_24 ⟨a_22, cap_23, rfl, hc_25, ho_26⟩
    have h_27 := h_8.gotRow hc_25 ho_26
    refine WL.q (Wn.no rfl) rfl rfl (R.assign (v := (.slice a_22 64 cap_23)) rfl) ?_
    refine WL.nil ?_
    refine thn_n ?_
    refine WP.seq ?_
    refine WP.reg ?_
    refine WL.q (Wn.no rfl) rfl rfl (R.move (v := (.slice a n cap)) rfl) ?_
    refine WL.call (al := [(.slice a n cap)]) Try.call23 rfl rfl (c_PadR a n cap bs hl (by omega) _ (viewV (h_27.ok _ (.tail _ (.tail _ (.tail _ (.head _))))))) rfl ?_
    rintro _ w_30 ⟨a_28, cap_29, rfl, hc_31, ho_32⟩
    have h_33 := h_27.gotRow hc_31 ho_32
    have hq_34 := ho_32.2.2.1
    refine WL.q (Wn.no rfl) rfl rfl (R.assign (v := (.slice a_28 ((padded bs).length) cap_29)) rfl) ?_
    refine WL.nil ?_
    refine thn_n ?_
    refine WP.seq ?_
    refine WP.seq ?_
    refine WP.reg ?_
    refine WL.q (Wn.no rfl) rfl rfl (R.assign (v := (vi 0)) rfl) ?_
    refine WL.nil ?_
    refine thn_n ?_
    refine WP.block ?_
    have hi8 : i = 8 := by omega
    subst hi8
    have eh : mix hL (List.replicate 8 0) 8 = hL := mix_all hL_len (List.length_replicate ..) (Nat.le_refl _)
    rw [eh] at h_33
    have hpl := padded_len bs
    have hp2 := padded_len2 bs
    rw [hl] at hp2
    refine WP.loopG (G := Nat) [7, 8, 22, 23, 24, 25, 26, 27, 28, 29, 30, 31, 32, 33, 34, 35, 36, 37, 38] (fun k => [(7, (vi ((64 * k : Nat) : Int)))]) (fun k m w1 => HP w w1 [.row a_28 ((padded bs).length) cap_29 5 1 ((padded bs).map vu8), .row a_22 64 cap_23 22 1 (kL.map vu32), .blk b_4 .nw 33 [(8, (hs kL hL (padded bs) k).map vu32)], .blk b_1 .nw 28 [(32, (List.replicate 32 (0 : UInt8)).map vu8)], .view a (bs.map vu8)] ∧ (64 * k ≤ (padded bs).length) ∧ m = (padded bs).length - 64 * k) ⟨0, _, ⟨rfl, trivial⟩, h_33, (by omega), rfl⟩ ?_
    rintro k m_37 J_38 w_35 ⟨h_36, hk, rfl⟩
    refine WP.seq ?_
    refine WP.seq ?_
    refine WP.reg ?_
    refine WL.q (Wn.no rfl) rfl rfl (R.move (v := (vi ((64 * k : Nat) : Int))) rfl) ?_
    refine WL.q (Wn.no rfl) rfl rfl (R.move (v := (.slice a_28 ((padded bs).length) cap_29)) rfl) ?_
    refine WL.q (Wn.no rfl) rfl rfl (R.lenS (a := a_28) (m := (padded bs).length) rfl rfl Try.underlying26) ?_
    refine WL.q (Wn.no rfl) rfl rfl (R.bin (v := (.bool (decide ((((64 * k : Nat) : Int) : Int) < (((padded bs).length : Nat) : Int))))) rfl rfl (bi_lss (r := decide ((((64 * k : Nat) : Int) : Int) < (((padded bs).length : Nat) : Int))) rfl)) ?_
    refine WL.nil ?_
    refine thn_n ?_
    refine WP.cond (b := decide ((((64 * k : Nat) : Int) : Int) < (((padded bs).length : Nat) : Int))) rfl (fun c_39 => ?_) (fun c_39 => ?_)
    · have p_40 := of_decide_eq_true c_39
      refine WP.skip ?_
      refine thn_n ?_
      refine WP.seq ?_
      refine WP.block ?_
      refine WP.seq ?_
      refine WP.reg ?_
      refine WL.alloc (segs := [(64, (List.replicate 64 (0 : UInt8)).map vu8)]) h_36 (zv Try.typeInfo34 rfl) rfl (SsOk.cons (SOk.u8 (List.length_replicate ..)) SsOk.nil) rfl (fun b_41 w_42 h_43 => ?_)
      refine WL.nil ?_
      refine thn_n ?_
      refine WP.seq ?_
      refine WP.drawT (SL w.heap.size [.row a_28 ((padded bs).length) cap_29 5 1 ((padded bs).map vu8), .row a_22 64 cap_23 22 1 (kL.map vu32), .blk b_4 .nw 33 [(8, (hs kL hL (padded bs) k).map vu32)], .blk b_1 .nw 28 [(32, (List.replicate 32 (0 : UInt8)).map vu8)], .view a (bs.map vu8)]) (.q 0 (.q 1 (.q 2 (.q 3 (.q 4 (.q 5 (.s 6 .nil))))))) (by kernel_rfl) (by kernel_rfl) rfl (by kernel_rfl) (fun w_44 hc_46 => (SL.cons ((h_43.same hc_46).ok _ (.tail _ (.head _))) (SL.cons ((h_43.same hc_46).ok _ (.tail _ (.tail _ (.head _)))) (SL.cons ((h_43.same hc_46).ok _ (.tail _ (.tail _ (.tail _ (.head _))))) (SL.cons ((h_43.same hc_46).ok _ (.tail _ (.tail _ (.tail _ (.tail _ (.head _)))))) (SL.cons ((h_43.same hc_46).ok _ (.tail _ (.tail _ (.tail _ (.tail _ (.tail _ (.head _))))))) (SL.nil _ _))))))) (fun w_44 hc_46 => ?_)
      have h_45 := h_43.same hc_46
      refine WT.q rfl (Wn.no rfl) rfl rfl (fun wq hS => R.sliceA (b := b_41) (off := 0) (off' := 0) (l := 0) (h := 64) rfl EvB.dflt EvB.dflt (by decide) (by decide) Try.underlying34 Try.sizeOf5 rfl) ?_
      refine WT.q rfl (Wn.no rfl) rfl rfl (fun wq hS => R.move (v := (.slice a_28 ((padded bs).length) cap_29)) rfl) ?_
      refine WT.q rfl (Wn.no rfl) rfl rfl (fun wq hS => R.move (v := (vi ((64 * k : Nat) : Int))) rfl) ?_
      refine WT.q rfl (Wn.no rfl) rfl rfl (fun wq hS => R.move (v := (vi ((64 * k : Nat) : Int))) rfl) ?_
      refine WT.q rfl (Wn.no rfl) rfl rfl (fun wq hS => R.bin (v := (vi ((64 * k + 64 : Nat) : Int))) rfl rfl (bi_add (c := ((64 * k + 64 : Nat) : Int)) (by omega) (by omega))) ?_
      refine WT.q rfl (Wn.no rfl) rfl rfl (fun wq hS => R.sliceS (a := a_28) (len := (padded bs).length) (l := 64 * k) (h := 64 * k + 64) rfl (EvB.it (l := 64 * k) rfl rfl) (EvB.it (l := 64 * k + 64) rfl rfl) (by omega) (by omega) Try.underlying26 Try.sizeOf5) ?_
      refine WT.s ?_
      refine Op1.one rfl (Wn.no rfl) ?_
      refine WL.copy (q := 64) (i := 0) (ys := (((padded bs).drop (64 * k)).take 64).map vu8) (cs' := (((padded bs).drop (64 * k)).take 64).map vu8) h_45 rfl (congrArg (fun n => Value.slice (slA a_28 (64 * k) cap_29 1) n (cap_29 - (64 * k))) (show 64 * k + 64 - (64 * k) = 64 from (by omega))) Try.underlying26 Try.sizeOf5 (View.slM (l := 64 * k) (m := cap_29) (k := 64) (ownView (h_45.ok _ (.tail _ (.head _)))) (by omega)) (len_map (subLen (K := (padded bs).length) (rfl : List.length (padded bs) = (padded bs).length) (by omega) : List.length (((padded bs).drop (64 * k)).take 64) = 64)) (one_u8 _) At.h (by decide) Sg.h rfl (by decide) (by rw [len_map (List.length_replicate ..)]; decide) (cpAll (subLen (K := (padded bs).length) (rfl : List.length (padded bs) = (padded bs).length) (by omega) : List.length (((padded bs).drop (64 * k)).take 64) = 64) (List.length_replicate ..)) rfl (fun w_47 h_48 => ?_)
      refine WL.nil ?_
      refine ⟨(SL.cons (h_48.ok _ (.tail _ (.head _))) (SL.cons (h_48.ok _ (.tail _ (.tail _ (.head _)))) (SL.cons (h_48.ok _ (.tail _ (.tail _ (.tail _ (.head _))))) (SL.cons (h_48.ok _ (.tail _ (.tail _ (.tail _ (.tail _ (.head _)))))) (SL.cons (h_48.ok _ (.tail _ (.tail _ (.tail _ (.tail _ (.tail _ (.head _))))))) (SL.nil _ _)))))), ?_⟩
      refine WT.nil ?_
      refine thn_n ?_
      refine WP.reg ?_
      refine WL.q (Wn.no rfl) rfl rfl (R.loadA (b := b_4) (off := 0) [] [(8, (hs kL hL (padded bs) k).map vu32)] [] (cs := (hs kL hL (padded bs) k).map vu32) rfl Try.isAgg33 Try.sizeOf33 (h_48.ok _ (.tail _ (.tail _ (.tail _ (.head _))))) rfl rfl rfl rfl) ?_
      refine WL.q (Wn.no rfl) rfl rfl (R.loadA (b := b_41) (off := 0) [] [(64, (((padded bs).drop (64 * k)).take 64).map vu8)] [] (cs := (((padded bs).drop (64 * k)).take 64).map vu8) rfl Try.isAgg34 Try.sizeOf34 (h_48.ok _ (.head _)) rfl rfl rfl rfl) ?_
      refine WL.q (Wn.no rfl) rfl rfl (R.move (v := (.slice a_22 64 cap_23)) rfl) ?_
      refine WL.call (al := [(.agg ⟨(hs kL hL (padded bs) k).map vu32⟩), (.agg ⟨(((padded bs).drop (64 * k)).take 64).map vu8⟩), (.slice a_22 64 cap_23)]) Try.call25 rfl rfl (c_PressR (hs kL hL (padded bs) k) kL (hs_len hL_len k) kL_len (((padded bs).drop (64 * k)).take 64) (subLen (K := (padded bs).length) (rfl : List.length (padded bs) = (padded bs).length) (by omega) : List.length (((padded bs).drop (64 * k)).take 64) = 64) a_22 cap_23 _ (ownView (h_48.ok _ (.tail _ (.tail _ (.head _)))))) rfl ?_
      rintro _ w_50 ⟨rfl, hc_49⟩
      have h_51 := h_48.same hc_49
      refine WL.storeA (b := b_4) (off := 0) [] [(8, (hs kL hL (padded bs) k).map vu32)] [(8, (pressL kL (hs kL hL (padded bs) k) (((padded bs).drop (64 * k)).take 64)).map vu32)] [] (ys := (pressL kL (hs kL hL (padded bs) k) (((padded bs).drop (64 * k)).take 64)).map vu32) h_51 rfl rfl Try.sizeOf33 (At.t (At.t (At.t At.h))) (by decide) rfl rfl rfl rfl rfl rfl (SsOk.cons (SOk.u32 (pressL_len ..)) SsOk.nil) (fun w_52 h_53 => ?_)
      refine WL.nil ?_
      refine inb_n ?_
      refine thn_n ?_
      refine WP.reg ?_
      refine WL.q (Wn.no rfl) rfl rfl (R.move (v := (vi ((64 * k : Nat) : Int))) rfl) ?_
      refine WL.q (Wn.no rfl) rfl rfl (R.bin (v := (vi ((64 * k + 64 : Nat) : Int))) rfl rfl (bi_add (c := ((64 * k + 64 : Nat) : Int)) (by omega) (by omega))) ?_
      refine WL.q (Wn.no rfl) rfl rfl (R.assign (v := (vi ((64 * k + 64 : Nat) : Int))) rfl) ?_
      refine WL.nil ?_
      refine thn_n ?_
      have h_54 := h_53.drop rfl
      have h_55 := h_54.up (Pick.t (Pick.t (Pick.t (Pick.t Pick.h))))
      have h_56 := h_55.up (Pick.t (Pick.t (Pick.t (Pick.t Pick.h))))
      have h_57 := h_56.up (Pick.t (Pick.t (Pick.t (Pick.t Pick.h))))
      have h_58 := h_57.up (Pick.t (Pick.t (Pick.t (Pick.t Pick.h))))
      have h_59 := h_58.up (Pick.t (Pick.t (Pick.t (Pick.t Pick.h))))
      have es : pressL kL (hs kL hL (padded bs) k) (((padded bs).drop (64 * k)).take 64) = hs kL hL (padded bs) (k + 1) := rfl
      rw [es] at h_59
      exact ⟨k + 1, _, (by omega), (Ag.upd rfl (Ag.upd rfl (Ag.upd rfl (Ag.upd rfl (Ag.upd rfl (Ag.upd rfl (Ag.upd rfl (Ag.upd rfl (Ag.upd rfl (Ag.upd rfl (Ag.upd rfl (Ag.upd rfl (Ag.upd rfl (Ag.upd rfl (Ag.upd rfl (Ag.upd rfl (Ag.upd rfl (Ag.upd rfl (Ag.upd rfl (Ag.updL rfl (Ag.mix _ _ _))))))))))))))))))))), ⟨congrArg vi (by omega), trivial⟩, h_59, (by omega), rfl⟩
    · have p_60 := of_decide_eq_false c_39
      refine WP.exit ?_
      refine thn_x ?_
      refine thn_x ?_
      refine inb_hit ?_
      refine thn_n ?_
      refine WP.seq ?_
      refine WP.reg ?_
      refine WL.alloc (segs := [(32, (List.replicate 32 (0 : UInt8)).map vu8)]) h_36 (zv Try.typeInfo28 rfl) rfl (SsOk.cons (SOk.u8 (List.length_replicate ..)) SsOk.nil) rfl (fun b_61 w_62 h_63 => ?_)
      refine WL.nil ?_
      refine thn_n ?_
      refine WP.seq ?_
      refine WP.seq ?_
      refine WP.reg ?_
      refine WL.q (Wn.no rfl) rfl rfl (R.assign (v := (vi 0)) rfl) ?_
      refine WL.nil ?_
      refine thn_n ?_
      refine WP.block ?_
      have hk2 : k = (padded bs).length / 64 := by omega
      refine WP.loopG (G := Nat) [10, 39, 40, 41, 42, 43, 44, 45, 46, 47, 48, 49, 50, 51, 52, 53, 54, 55] (fun j => [(10, (vi ((j : Nat) : Int)))]) (fun j m w1 => HP w w1 [.blk b_61 .nw 28 [(32, (mix (digL (hs kL hL (padded bs) k)) (List.replicate 32 0) j).map vu8)], .row a_28 ((padded bs).length) cap_29 5 1 ((padded bs).map vu8), .row a_22 64 cap_23 22 1 (kL.map vu32), .blk b_4 .nw 33 [(8, (hs kL hL (padded bs) k).map vu32)], .blk b_1 .nw 28 [(32, (List.replicate 32 (0 : UInt8)).map vu8)], .view a (bs.map vu8)] ∧ (j ≤ 32) ∧ m = 32 - j) ⟨0, _, ⟨rfl, trivial⟩, (by rw [mix_0]; exact h_63), (by omega), rfl⟩ ?_
      rintro j m_66 J_67 w_64 ⟨h_65, hj, rfl⟩
      have ek : j < 32 → (UInt64.ofNat (24 - 8 * (j % 4))).toNat = 24 - 8 * (j % 4) := fun _ => nat64 (by omega)
      refine WP.seq ?_
      refine WP.seq ?_
      refine WP.reg ?_
      refine WL.q (Wn.no rfl) rfl rfl (R.move (v := (vi ((j : Nat) : Int))) rfl) ?_
      refine WL.q (Wn.no rfl) rfl rfl (R.bin (v := (.bool (decide ((((j : Nat) : Int) : Int) < 32)))) rfl rfl (bi_lss (r := decide ((((j : Nat) : Int) : Int) < 32)) rfl)) ?_
      refine WL.nil ?_
      refine thn_n ?_
      refine WP.cond (b := decide ((((j : Nat) : Int) : Int) < 32)) rfl (fun c_68 => ?_) (fun c_68 => ?_)
      · have p_69 := of_decide_eq_true c_68
        refine WP.skip ?_
        refine thn_n ?_
        refine WP.seq ?_
        refine WP.block ?_
        refine WP.reg ?_
        refine WL.q (Wn.no rfl) rfl rfl (R.move (v := (vi ((j : Nat) : Int))) rfl) ?_
        refine WL.q (Wn.no rfl) rfl rfl (R.move (v := (vi ((j : Nat) : Int))) rfl) ?_
        refine WL.q (Wn.no rfl) rfl rfl (R.bin (v := (vi ((j / 4 : Nat) : Int))) rfl rfl (bi_quo (c := ((j / 4 : Nat) : Int)) (by first | omega | exact ⟨Int.natCast_nonneg _, by omega⟩) (by omega) (by first | omega | rfl))) ?_
        refine WL.q (Wn.no rfl) rfl rfl (R.indexA (b := b_4) (off := 0) (off' := (0 + (j / 4))) (i := j / 4) rfl rfl rfl (by omega) Try.underlying33 Try.sizeOf22 (by rw [Nat.mul_one])) ?_
        refine WL.q (Wn.no rfl) rfl rfl (R.loadE (b := b_4) (off := (0 + (j / 4))) (i := j / 4) (v := (vu32 ((hs kL hL (padded bs) k).getD (j / 4) 0))) rfl Try.isAgg22 (h_65.ok _ (.tail _ (.tail _ (.tail _ (.head _))))) Sg.h rfl (get_u32 (lt_len (K := 8) (hs_len hL_len k) (by omega)))) ?_
        refine WL.q (Wn.no rfl) rfl rfl (R.move (v := (vi ((j : Nat) : Int))) rfl) ?_
        refine WL.q (Wn.no rfl) rfl rfl (R.bin (v := (vi ((j % 4 : Nat) : Int))) rfl rfl (bi_rem (c := ((j % 4 : Nat) : Int)) (Int.natCast_nonneg _) (by omega) (by first | omega | rfl))) ?_
        refine WL.q (Wn.no rfl) rfl rfl (R.bin (v := (vi ((8 * (j % 4) : Nat) : Int))) rfl rfl (bi_mul (c := ((8 * (j % 4) : Nat) : Int)) (by omega) (by omega))) ?_
        refine WL.q (Wn.no rfl) rfl rfl (R.bin (v := (vi ((24 - (8 * (j % 4)) : Nat) : Int))) rfl rfl (bi_sub (c := ((24 - (8 * (j % 4)) : Nat) : Int)) (by omega) (by omega))) ?_
        refine WL.q (Wn.no rfl) rfl rfl (R.conv (b := ((UInt64.ofNat (24 - (8 * (j % 4)))) : UInt64).toNat) rfl Try.underlying3 Try.underlying51 (w64_nat (24 - (8 * (j % 4))))) ?_
        refine WL.q (Wn.no rfl) rfl rfl (R.binR (v := vu32 (shr32 ((hs kL hL (padded bs) k).getD (j / 4) 0) ((UInt64.ofNat (24 - (8 * (j % 4)))).toNat))) rfl rfl (run_shr32 _ _ _ ((hs kL hL (padded bs) k).getD (j / 4) 0) _ ((UInt64.ofNat (24 - (8 * (j % 4)))).toNat))) ?_
        refine WL.q (Wn.no rfl) rfl rfl (R.conv (b := ((UInt8.ofNat ((shr32 ((hs kL hL (padded bs) k).getD (j / 4) 0) ((UInt64.ofNat (24 - (8 * (j % 4)))).toNat)).toNat)) : UInt8).toNat) rfl Try.underlying22 Try.underlying5 (w8_nat ((shr32 ((hs kL hL (padded bs) k).getD (j / 4) 0) ((UInt64.ofNat (24 - (8 * (j % 4)))).toNat)).toNat))) ?_
        refine WL.q (Wn.no rfl) rfl rfl (R.indexA (b := b_61) (off := 0) (off' := (0 + j)) (i := j) rfl rfl rfl (by omega) Try.underlying28 Try.sizeOf5 (by rw [Nat.mul_one])) ?_
        refine WL.storeE (b := b_61) (off := (0 + j)) (i := j) (v := (vu8 (UInt8.ofNat ((shr32 ((hs kL hL (padded bs) k).getD (j / 4) 0) ((UInt64.ofNat (24 - (8 * (j % 4)))).toNat)).toNat)))) (cs' := ((mix (digL (hs kL hL (padded bs) k)) (List.replicate 32 0) j).set j (UInt8.ofNat ((shr32 ((hs kL hL (padded bs) k).getD (j / 4) 0) ((UInt64.ofNat (24 - (8 * (j % 4)))).toNat)).toNat))).map vu8) h_65 rfl rfl Try.sizeOf5 rfl At.h (by decide) Sg.h rfl (lt_len (K := 32) (len_map (mix_len (digL_len _) (List.length_replicate ..))) (by omega)) (set_u8 _ _ _) (fun w_70 h_71 => ?_)
        refine WL.nil ?_
        refine inb_n ?_
        refine thn_n ?_
        refine WP.reg ?_
        refine WL.q (Wn.no rfl) rfl rfl (R.move (v := (vi ((j : Nat) : Int))) rfl) ?_
        refine WL.q (Wn.no rfl) rfl rfl (R.bin (v := (vi ((j + 1 : Nat) : Int))) rfl rfl (bi_add (c := ((j + 1 : Nat) : Int)) (by omega) (by omega))) ?_
        refine WL.q (Wn.no rfl) rfl rfl (R.assign (v := (vi ((j + 1 : Nat) : Int))) rfl) ?_
        refine WL.nil ?_
        refine thn_n ?_
        have h_72 := h_71.up (Pick.t (Pick.t (Pick.t (Pick.t (Pick.t Pick.h)))))
        have h_73 := h_72.up (Pick.t (Pick.t (Pick.t (Pick.t (Pick.t Pick.h)))))
        have h_74 := h_73.up (Pick.t (Pick.t (Pick.t (Pick.t (Pick.t Pick.h)))))
        have h_75 := h_74.up (Pick.t (Pick.t (Pick.t (Pick.t (Pick.t Pick.h)))))
        have h_76 := h_75.up (Pick.t (Pick.t (Pick.t (Pick.t (Pick.t Pick.h)))))
        have h_77 := h_76.up (Pick.t (Pick.t (Pick.t (Pick.t (Pick.t Pick.h)))))
        rw [ek (by omega), dig_set (by omega)] at h_77
        exact ⟨j + 1, _, (by omega), (Ag.upd rfl (Ag.upd rfl (Ag.upd rfl (Ag.upd rfl (Ag.upd rfl (Ag.upd rfl (Ag.upd rfl (Ag.upd rfl (Ag.upd rfl (Ag.upd rfl (Ag.upd rfl (Ag.upd rfl (Ag.upd rfl (Ag.upd rfl (Ag.upd rfl (Ag.upd rfl (Ag.upd rfl (Ag.upd rfl (Ag.updL rfl (Ag.mix _ _ _)))))))))))))))))))), ⟨rfl, trivial⟩, h_77, (by omega), rfl⟩
      · have p_78 := of_decide_eq_false c_68
        refine WP.exit ?_
        refine thn_x ?_
        refine thn_x ?_
        refine inb_hit ?_
        refine thn_n ?_
        refine WP.seq ?_
        refine WP.reg ?_
        refine WL.q (Wn.no rfl) rfl rfl (R.loadA (b := b_61) (off := 0) [] [(32, (mix (digL (hs kL hL (padded bs) k)) (List.replicate 32 0) j).map vu8)] [] (cs := (mix (digL (hs kL hL (padded bs) k)) (List.replicate 32 0) j).map vu8) rfl Try.isAgg28 Try.sizeOf28 (h_65.ok _ (.head _)) rfl rfl rfl rfl) ?_
        refine WL.storeA (b := b_1) (off := 0) [] [(32, (List.replicate 32 (0 : UInt8)).map vu8)] [(32, (mix (digL (hs kL hL (padded bs) k)) (List.replicate 32 0) j).map vu8)] [] (ys := (mix (digL (hs kL hL (padded bs) k)) (List.replicate 32 0) j).map vu8) h_65 rfl rfl Try.sizeOf28 (At.t (At.t (At.t (At.t At.h)))) (by decide) rfl rfl rfl rfl rfl rfl (SsOk.cons (SOk.u8 (mix_len (digL_len _) (List.length_replicate ..))) SsOk.nil) (fun w_79 h_80 => ?_)
        refine WL.nil ?_
        refine thn_n ?_
        refine WP.ret ?_
        refine ret_of Try.results20 (RV.cell rfl (h_80.loadA (cs := (mix (digL (hs kL hL (padded bs) k)) (List.replicate 32 0) j).map vu8) Try.isAgg28 Try.sizeOf28 (.tail _ (.tail _ (.tail _ (.tail _ (.head _))))) rfl rfl) RV.nil) ?_
        have hj32 : j = 32 := by omega
        subst hj32
        exact ⟨by rw [dig_all, hk2]; rfl, h_80.chgS⟩
end Go.Proofs.Ytelkjcigdhgcoaa
