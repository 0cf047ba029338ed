/- Lists that are cut: contracts. Conditions: those that each theorem states. -/
import Derived.Test.YtnhppjimimhlkaaQ4
import Derived.Test.YtnhppjimimhlkaaO6
namespace Go.Proofs.Ytnhppjimimhlkaa
open Go.Vc Go.Orc Go.RowKit
set_option linter.unusedVariables false
set_option linter.unusedSimpArgs false
set_option maxRecDepth 20000

theorem ns_all (ns : List Nat) : (ns.map Int.ofNat).all nonneg = true := by
  rw [List.all_eq_true]
  intro x hx
  obtain ⟨y, _, rfl⟩ := List.mem_map.1 hx
  simp [nonneg]
theorem zs_none {zs : List Int} (h : zs.all nonneg = false) : ¬ ∀ k, k < zs.length → 0 ≤ zs.getD k 0 := fun h2 => by rw [zall_of h2] at h; cases h
theorem c_Cut_t (a : Option Addr) (n cap : Nat) (bs : List UInt8) (hl : bs.length = n) (hn : n ≤ 1099511627776) (a2 : Option Addr) (n2 cap2 : Nat) (ns : List Nat) (hl2 : ns.length = n2) (hn2 : n2 ≤ 1099511627776) (lr : List (List UInt8)) (hx : Go.Wr.cutL ns bs = some lr) (w : World) (hv : View w a (bs.map vu8)) (hv2 : View w a2 ((ns.map Int.ofNat).map vi64)) :
    Cs Try.prog 84 [(.slice a n cap), (.slice a2 n2 cap2)].toArray w (fun v w1 => ∃ a cap xs, v = .tuple [.slice a lr.length cap, vi 0].toArray ∧ Chg w w1 [] ∧ View w1 a xs ∧ Sls w1 xs lr ∧ ∀ b ∈ (Ent.view a xs).blocks ++ sblks xs, w.heap.size ≤ b) := by
  refine Cs.of (n := 39) (args := [(.slice a n cap), (.slice a2 n2 cap2)]) Try.func84 rfl rfl rfl ?_
  have h_0 := HP.init w
  have h_01 := h_0.oldV (View.arg hv) rfl (by simp [Ent.mut])
  have h_00 := h_01.oldV (View.arg hv2) rfl (by simp [Ent.mut])
  refine WP.seq ?_
  refine WP.reg ?_
  refine WL.q (Wn.no rfl) rfl rfl (R.assign (v := (.slice none 0 0)) rfl) ?_
  refine WL.q (Wn.no rfl) rfl rfl (R.assign (v := (vi 0)) rfl) ?_
  refine WL.nil ?_
  refine thn_n ?_
  refine WP.seq ?_
  refine WP.seq ?_
  refine WP.reg ?_
  refine WL.q (Wn.no rfl) rfl rfl (R.move (v := (.slice a2 n2 cap2)) rfl) ?_
  refine WL.call (al := [(.slice a2 n2 cap2), (Value.func (Fn.func 103) [].toArray [].toArray)]) Try.call102 rfl rfl (c_CfZ_t a2 n2 cap2 (ns.map Int.ofNat) ((List.length_map ..).trans hl2) (by omega) (ns_all ns) _ (viewV (h_00.ok _ (.head _)))) rfl ?_
  rintro _ w_2 ⟨rfl, hc_1⟩
  have h_3 := h_00.same hc_1
  refine WL.nil ?_
  refine thn_n ?_
  refine WP.condF rfl ?_
  refine WP.skip ?_
  refine thn_n ?_
  refine WP.seq ?_
  refine WP.reg ?_
  refine WL.q (Wn.no rfl) rfl rfl (R.assign (v := (.slice none 0 0)) rfl) ?_
  refine WL.nil ?_
  refine thn_n ?_
  refine WP.seq ?_
  refine WP.reg ?_
  refine WL.q (Wn.no rfl) rfl rfl (R.move (v := (.slice a n cap)) rfl) ?_
  refine WL.call (al := [(.slice a n cap)]) Try.call58 rfl rfl (c_Clone a n cap bs hl (by omega) _ (viewV (h_3.ok _ (.tail _ (.head _))))) rfl ?_
  rintro _ w_6 ⟨a_4, cap_5, rfl, hc_7, ho_8⟩
  have h_9 := h_3.gotRow hc_7 ho_8
  have hq_10 := ho_8.2.2.1
  refine WL.q (Wn.no rfl) rfl rfl (R.assign (v := (.slice a_4 n cap_5)) rfl) ?_
  refine WL.nil ?_
  refine thn_n ?_
  refine WP.seq ?_
  refine WP.seq ?_
  refine WP.reg ?_
  refine WL.q (Wn.no rfl) rfl rfl (R.move (v := (.slice a2 n2 cap2)) rfl) ?_
  refine WL.q (Wn.no rfl) rfl rfl (R.lenS (a := a2) (m := n2) rfl rfl Try.underlying70) ?_
  refine WL.q (Wn.no rfl) rfl rfl (R.move (v := (vi 0)) rfl) ?_
  refine WL.nil ?_
  refine thn_n ?_
  refine WP.block ?_
  have hf_11 := Own.blk (h_9.own (.head _))
  have h_12 := h_9.rowView
  have h_13 := h_12.slsNil
  have h_14 := h_13.rowNil 37 1
  refine WP.loopG (G := Nat × Option Addr × Nat × List Value × List (List UInt8) × Option Addr × Nat × Nat × List UInt8) [4, 5, 6, 7, 9, 16, 17, 18, 19, 20, 21, 22, 23, 24, 25, 26, 27, 28, 29, 30, 31, 32, 33, 34] (fun (k, oa, oc, xs, ls, ra, rc, z, r) => [(6, (.slice oa k oc)), (7, (.slice ra z rc)), (16, (vi ((k : Nat) : Int)))]) (fun (k, oa, oc, xs, ls, ra, rc, z, r) m w1 => HP w w1 [.row oa k oc 37 1 xs, .pin (sblks xs) (fun w => Sls w xs ls), .view ra (r.map vu8), .view a2 ((ns.map Int.ofNat).map vi64), .view a (bs.map vu8)] ∧ (k ≤ n2) ∧ (r.length = z) ∧ (z ≤ rc) ∧ (z ≤ n) ∧ (ls.length = k) ∧ (∀ b ∈ sblks xs, w.heap.size ≤ b) ∧ (∀ b ∈ (Ent.view ra (r.map vu8)).blocks, w.heap.size ≤ b) ∧ (Go.Wr.cutL ns bs = (Go.Wr.cutL (ns.drop k) r).map (ls ++ ·)) ∧ m = n2 - k) ⟨(0, none, 0, [], [], a_4, cap_5, n, bs), _, ⟨rfl, rfl, rfl, trivial⟩, h_14, (by omega), hl, (by omega), Nat.le_refl n, rfl, (fun b hb => by cases hb), hf_11, (by rw [List.drop_zero]; cases Go.Wr.cutL ns bs <;> simp), rfl⟩ ?_
  rintro ⟨k, oa, oc, xs, ls, ra, rc, z, r⟩ m_17 J_18 w_15 ⟨h_16, hk, hz, hrc, hrn, hkl, hf1, hf2, hsp, rfl⟩
  refine WP.seq ?_
  refine WP.reg ?_
  refine WL.q (Wn.no rfl) rfl rfl (R.bin (v := (.bool (decide ((((k : Nat) : Int) : Int) < ((n2 : Nat) : Int))))) rfl rfl (bi_lss (r := decide ((((k : Nat) : Int) : Int) < ((n2 : Nat) : Int))) rfl)) ?_
  refine WL.nil ?_
  refine thn_n ?_
  refine WP.seq ?_
  refine WP.cond (b := decide ((((k : Nat) : Int) : Int) < ((n2 : Nat) : Int))) rfl (fun c_19 => ?_) (fun c_19 => ?_)
  · have p_20 := of_decide_eq_true c_19
    refine WP.skip ?_
    refine thn_n ?_
    refine WP.seq ?_
    refine WP.block ?_
    refine WP.seq ?_
    refine WP.reg ?_
    refine WL.q (Wn.no rfl) rfl rfl (R.indexS (a := a2) (i := k) (off := k) (xs := (ns.map Int.ofNat).map vi64) rfl rfl rfl (by omega) (viewV (h_16.ok _ (.tail _ (.tail _ (.tail _ (.head _)))))) (lt_len (K := n2) (len_map ((List.length_map ..).trans hl2)) (by omega)) Try.underlying70 Try.sizeOf3 (Nat.mul_one _).symm) ?_
    refine WL.q (Wn.no rfl) rfl rfl (R.loadG (a := a2) (i := k) (xs := (ns.map Int.ofNat).map vi64) (v := (vi ((ns.getD k 0 : Nat) : Int))) rfl (viewV (h_16.ok _ (.tail _ (.tail _ (.tail _ (.head _)))))) Try.isAgg3 (Go.Wr.ints_get (by omega))) ?_
    refine WL.q (Wn.no rfl) rfl rfl (R.assign (v := (vi ((ns.getD k 0 : Nat) : Int))) rfl) ?_
    refine WL.nil ?_
    refine thn_n ?_
    refine WP.seq ?_
    refine WP.seq ?_
    refine WP.reg ?_
    refine WL.q (Wn.no rfl) rfl rfl (R.move (v := (vi ((ns.getD k 0 : Nat) : Int))) rfl) ?_
    refine WL.q (Wn.no rfl) rfl rfl (R.move (v := (.slice ra z rc)) rfl) ?_
    refine WL.q (Wn.no rfl) rfl rfl (R.lenS (a := ra) (m := z) rfl rfl Try.underlying37) ?_
    refine WL.q (Wn.no rfl) rfl rfl (R.bin (v := (.bool (decide ((((ns.getD k 0 : Nat) : Int) : Int) > ((z : Nat) : Int))))) rfl rfl (bi_gtr (r := decide ((((ns.getD k 0 : Nat) : Int) : Int) > ((z : Nat) : Int))) rfl)) ?_
    refine WL.nil ?_
    refine thn_n ?_
    refine WP.cond (b := decide ((((ns.getD k 0 : Nat) : Int) : Int) > ((z : Nat) : Int))) rfl (fun c_21 => ?_) (fun c_21 => ?_)
    · have p_22 := of_decide_eq_true c_21
      refine WP.seq ?_
      refine WP.reg ?_
      refine WL.q (Wn.no rfl) rfl rfl (R.assign (v := (.slice none 0 0)) rfl) ?_
      refine WL.q (Wn.no rfl) rfl rfl (R.assign (v := (vi 4)) rfl) ?_
      refine WL.nil ?_
      refine thn_n ?_
      refine WP.ret ?_
      refine thn_r ?_
      refine inb_r ?_
      refine thn_r ?_
      refine thn_r ?_
      refine inb_r ?_
      refine thn_r ?_
      refine ret_of Try.results84 (RV.tmp (v := (.slice none 0 0)) rfl (RV.tmp (v := (vi 4)) rfl RV.nil)) ?_
      have hp_23 := p_20
      have hp_24 := p_22
      have hb := (Go.Wr.opt_none hsp (Go.Wr.cut_big (by omega) rfl (by omega)))
      rw [hx] at hb; cases hb
    · have p_25 := of_decide_eq_false c_21
      refine WP.skip ?_
      refine thn_n ?_
      refine WP.drawT (SL w.heap.size [.pin (sblks xs) (fun w => Sls w xs ls), .view ra (r.map vu8), .view a2 ((ns.map Int.ofNat).map vi64), .view a (bs.map vu8)]) (.q 0 (.q 1 (.q 2 (.q 3 (.q 4 (.q 7 (.q 8 (.q 9 (.s 5 (.s 6 (.q 10 (.q 11 .nil)))))))))))) (by kernel_rfl) (by kernel_rfl) rfl (by kernel_rfl) (fun w_26 hc_28 => (SL.cons ((h_16.same hc_28).ok _ (.tail _ (.head _))) (SL.cons ((h_16.same hc_28).ok _ (.tail _ (.tail _ (.head _)))) (SL.cons ((h_16.same hc_28).ok _ (.tail _ (.tail _ (.tail _ (.head _))))) (SL.cons ((h_16.same hc_28).ok _ (.tail _ (.tail _ (.tail _ (.tail _ (.head _)))))) (SL.nil _ _)))))) (fun w_26 hc_28 => ?_)
      have h_27 := h_16.same hc_28
      refine WT.q rfl (Wn.no rfl) rfl rfl (fun wq hS => R.move (v := (.slice oa k oc)) rfl) ?_
      refine WT.q rfl (Wn.no rfl) rfl rfl (fun wq hS => R.move (v := (.slice ra z rc)) rfl) ?_
      refine WT.q rfl (Wn.no rfl) rfl rfl (fun wq hS => R.move (v := (vi ((ns.getD k 0 : Nat) : Int))) rfl) ?_
      refine WT.q rfl (Wn.no rfl) rfl rfl (fun wq hS => R.move (v := (vi ((ns.getD k 0 : Nat) : Int))) rfl) ?_
      refine WT.q rfl (Wn.no rfl) rfl rfl (fun wq hS => R.sliceS3 (a := ra) (len := z) (l := 0) (h := ns.getD k 0) (m := ns.getD k 0) rfl EvB.dflt rfl rfl rfl rfl (by omega) (by omega) (by omega) Try.underlying37 Try.sizeOf5) ?_
      refine WT.q rfl (Wn.no rfl) rfl rfl (fun wq hS => R.move (v := (.slice ra z rc)) rfl) ?_
      refine WT.q rfl (Wn.no rfl) rfl rfl (fun wq hS => R.move (v := (vi ((ns.getD k 0 : Nat) : Int))) rfl) ?_
      refine WT.q rfl (Wn.no rfl) rfl rfl (fun wq hS => R.sliceS (a := ra) (len := z) (l := ns.getD k 0) (h := z) rfl (EvB.it (l := ns.getD k 0) rfl rfl) EvB.dflt (by omega) (by omega) Try.underlying37 Try.sizeOf5) ?_
      refine WT.s ?_
      refine Op1.one rfl (Wn.no rfl) ?_
      refine WL.buildSl (vs := [(0, (.slice (slA ra 0 (ns.getD k 0) 1) (ns.getD k 0) (ns.getD k 0)))]) (cs := [(.slice (slA ra 0 (ns.getD k 0) 1) (ns.getD k 0) (ns.getD k 0))]) h_27 Try.underlying36 Try.sizeOf37 (zv Try.typeInfo37 rfl) rfl rfl (by kernel_rfl) rfl (by simp [Value.oneCell']) rfl rfl (fun b_29 w_30 h_31 => ?_)
      refine WL.nil ?_
      refine ⟨(SL.cons (h_31.ok _ (.tail _ (.tail _ (.head _)))) (SL.cons (h_31.ok _ (.tail _ (.tail _ (.tail _ (.head _))))) (SL.cons (h_31.ok _ (.tail _ (.tail _ (.tail _ (.tail _ (.head _)))))) (SL.cons (h_31.ok _ (.tail _ (.tail _ (.tail _ (.tail _ (.tail _ (.head _))))))) (SL.nil _ _))))), ?_⟩
      refine WT.s ?_
      refine Op1.one rfl (Wn.no rfl) ?_
      refine WL.append (km := k + 1) (xs := xs) (ys := [(.slice (slA ra 0 (ns.getD k 0) 1) (ns.getD k 0) (ns.getD k 0))]) (zs := xs ++ [(.slice (slA ra 0 (ns.getD k 0) 1) (ns.getD k 0) (ns.getD k 0))]) h_31 rfl rfl el36 (viewB (h_31.ok _ (.head _)) Sg.h) rfl (by simp [Value.oneCell']) rfl (by omega) (by omega) (by omega) (fun _ _ => (At.t At.h)) rfl (fun a_32 c_33 w_34 h_35 => ?_)
      refine WL.nil ?_
      refine ⟨(SL.cons (h_35.ok _ (.tail _ (.tail _ (.head _)))) (SL.cons (h_35.ok _ (.tail _ (.tail _ (.tail _ (.head _))))) (SL.cons (h_35.ok _ (.tail _ (.tail _ (.tail _ (.tail _ (.head _)))))) (SL.cons (h_35.ok _ (.tail _ (.tail _ (.tail _ (.tail _ (.tail _ (.head _))))))) (SL.nil _ _))))), ?_⟩
      refine WT.q rfl (Wn.no rfl) rfl rfl (fun wq hS => R.assign (v := (.slice a_32 (k + 1) c_33)) rfl) ?_
      refine WT.q rfl (Wn.no rfl) rfl rfl (fun wq hS => R.assign (v := (.slice (slA ra (ns.getD k 0) rc 1) (z - (ns.getD k 0)) (rc - (ns.getD k 0)))) rfl) ?_
      refine WT.nil ?_
      refine inb_n ?_
      refine thn_n ?_
      refine WP.reg ?_
      refine WL.q (Wn.no rfl) rfl rfl (R.bin (v := (vi ((k + 1 : Nat) : Int))) rfl rfl (bi_add (c := ((k + 1 : Nat) : Int)) (by omega) (by omega))) ?_
      refine WL.q (Wn.no rfl) rfl rfl (R.move (v := (vi ((k + 1 : Nat) : Int))) rfl) ?_
      refine WL.nil ?_
      refine thn_n ?_
      obtain ⟨h_36, hg1, hg2⟩ := HP.cutPush (n := ns.getD k 0) (q := rc) (m := z) h_35 (.tail _ (.tail _ (.head _))) (.tail _ (.tail _ (.tail _ (.head _)))) hz (by omega) (by omega) hf1 hf2
      have h_37 := h_36.up (Pick.t (Pick.t Pick.h))
      have h_38 := h_37.drop rfl
      have h_39 := h_38.up (Pick.t (Pick.t (Pick.t Pick.h)))
      have h_40 := h_39.drop rfl
      have h_41 := h_40.up (Pick.t (Pick.t (Pick.t Pick.h)))
      have h_42 := h_41.drop rfl
      have h_43 := h_42.up (Pick.t (Pick.t (Pick.t (Pick.t Pick.h))))
      have h_44 := h_43.up (Pick.t (Pick.t (Pick.t (Pick.t Pick.h))))
      have h_45 := h_44.up (Pick.t (Pick.t Pick.h))
      have h_46 := h_45.up (Pick.t (Pick.t (Pick.t Pick.h)))
      have h_47 := h_46.up (Pick.t (Pick.t (Pick.t (Pick.t Pick.h))))
      exact ⟨(k + 1, a_32, c_33, _, _, slA ra (ns.getD k 0) rc 1, rc - (ns.getD k 0), z - (ns.getD k 0), _), _, (by omega), (Ag.upd rfl (Ag.upd rfl (Ag.upd rfl (Ag.upd rfl (Ag.upd rfl (Ag.upd rfl (Ag.upd rfl (Ag.upd rfl (Ag.upd rfl (Ag.upd rfl (Ag.upd rfl (Ag.upd rfl (Ag.upd rfl (Ag.upd rfl (Ag.upd rfl (Ag.upd rfl (Ag.upd rfl (Ag.upd rfl (Ag.upd rfl (Ag.upd rfl (Ag.upd rfl (Ag.upd rfl (Ag.updL rfl (Ag.mix _ _ _)))))))))))))))))))))))), ⟨rfl, rfl, rfl, trivial⟩, h_47, (by omega), (by rw [List.length_drop, hz]), (by omega), (by omega), (by rw [List.length_append, hkl]; rfl), hg1, hg2, (Go.Wr.cut_next hsp (by omega) rfl (by omega)), rfl⟩
  · have p_48 := of_decide_eq_false c_19
    refine WP.exit ?_
    refine thn_x ?_
    refine thn_x ?_
    refine inb_hit ?_
    refine thn_n ?_
    refine WP.seq ?_
    refine WP.seq ?_
    refine WP.reg ?_
    refine WL.q (Wn.no rfl) rfl rfl (R.move (v := (.slice ra z rc)) rfl) ?_
    refine WL.q (Wn.no rfl) rfl rfl (R.lenS (a := ra) (m := z) rfl rfl Try.underlying37) ?_
    refine WL.q (Wn.no rfl) rfl rfl (R.bin (v := (.bool (decide ((((z : Nat) : Int) : Int) > 0)))) rfl rfl (bi_gtr (r := decide ((((z : Nat) : Int) : Int) > 0)) rfl)) ?_
    refine WL.nil ?_
    refine thn_n ?_
    refine WP.cond (b := decide ((((z : Nat) : Int) : Int) > 0)) rfl (fun c_49 => ?_) (fun c_49 => ?_)
    · have p_50 := of_decide_eq_true c_49
      refine WP.seq ?_
      refine WP.reg ?_
      refine WL.q (Wn.no rfl) rfl rfl (R.assign (v := (.slice none 0 0)) rfl) ?_
      refine WL.q (Wn.no rfl) rfl rfl (R.assign (v := (vi 4)) rfl) ?_
      refine WL.nil ?_
      refine thn_n ?_
      refine WP.ret ?_
      refine thn_r ?_
      refine ret_of Try.results84 (RV.tmp (v := (.slice none 0 0)) rfl (RV.tmp (v := (vi 4)) rfl RV.nil)) ?_
      have hp_51 := p_48
      have hp_52 := p_50
      have hb := ((Go.Wr.cut_end hsp (by omega)).trans (if_neg (by rintro rfl; simp at hz; omega)))
      rw [hx] at hb; cases hb
    · have p_53 := of_decide_eq_false c_49
      refine WP.skip ?_
      refine thn_n ?_
      refine WP.seq ?_
      refine WP.reg ?_
      refine WL.q (Wn.no rfl) rfl rfl (R.move (v := (.slice oa k oc)) rfl) ?_
      refine WL.q (Wn.no rfl) rfl rfl (R.assign (v := (.slice oa k oc)) rfl) ?_
      refine WL.q (Wn.no rfl) rfl rfl (R.assign (v := (vi 0)) rfl) ?_
      refine WL.nil ?_
      refine thn_n ?_
      refine WP.ret ?_
      refine ret_of Try.results84 (RV.tmp (v := (.slice oa k oc)) rfl (RV.tmp (v := (vi 0)) rfl RV.nil)) ?_
      have hd := (Go.Wr.cut_end hsp (by omega)).trans (if_pos (List.length_eq_zero_iff.1 (by omega)))
      rw [hd] at hx; obtain rfl := Option.some.inj hx
      refine ⟨oa, oc, xs, by rw [hkl]; rfl, h_16.chgS, (ownView (h_16.ok _ (.head _))), (h_16.ok _ (.tail _ (.head _))).1, fun b hb => ?_⟩
      rcases List.mem_append.1 hb with hb | hb
      · exact Own.blk (h_16.own (.head _)) b hb
      · exact hf1 b hb

theorem c_Cut_f (a : Option Addr) (n cap : Nat) (bs : List UInt8) (hl : bs.length = n) (hn : n ≤ 1099511627776) (a2 : Option Addr) (n2 cap2 : Nat) (ns : List Nat) (hl2 : ns.length = n2) (hn2 : n2 ≤ 1099511627776) (hx : Go.Wr.cutL ns bs = none) (w : World) (hv : View w a (bs.map vu8)) (hv2 : View w a2 ((ns.map Int.ofNat).map vi64)) :
    Cs Try.prog 84 [(.slice a n cap), (.slice a2 n2 cap2)].toArray w (fun v w1 => v = (.tuple [(.slice none 0 0), (vi 4)].toArray) ∧ Chg w w1 []) := by
  refine Cs.of (n := 39) (args := [(.slice a n cap), (.slice a2 n2 cap2)]) Try.func84 rfl rfl rfl ?_
  have h_0 := HP.init w
  have h_01 := h_0.oldV (View.arg hv) rfl (by simp [Ent.mut])
  have h_00 := h_01.oldV (View.arg hv2) rfl (by simp [Ent.mut])
  refine WP.seq ?_
  refine WP.reg ?_
  refine WL.q (Wn.no rfl) rfl rfl (R.assign (v := (.slice none 0 0)) rfl) ?_
  refine WL.q (Wn.no rfl) rfl rfl (R.assign (v := (vi 0)) rfl) ?_
  refine WL.nil ?_
  refine thn_n ?_
  refine WP.seq ?_
  refine WP.seq ?_
  refine WP.reg ?_
  refine WL.q (Wn.no rfl) rfl rfl (R.move (v := (.slice a2 n2 cap2)) rfl) ?_
  refine WL.call (al := [(.slice a2 n2 cap2), (Value.func (Fn.func 103) [].toArray [].toArray)]) Try.call102 rfl rfl (c_CfZ_t a2 n2 cap2 (ns.map Int.ofNat) ((List.length_map ..).trans hl2) (by omega) (ns_all ns) _ (viewV (h_00.ok _ (.head _)))) rfl ?_
  rintro _ w_2 ⟨rfl, hc_1⟩
  have h_3 := h_00.same hc_1
  refine WL.nil ?_
  refine thn_n ?_
  refine WP.condF rfl ?_
  refine WP.skip ?_
  refine thn_n ?_
  refine WP.seq ?_
  refine WP.reg ?_
  refine WL.q (Wn.no rfl) rfl rfl (R.assign (v := (.slice none 0 0)) rfl) ?_
  refine WL.nil ?_
  refine thn_n ?_
  refine WP.seq ?_
  refine WP.reg ?_
  refine WL.q (Wn.no rfl) rfl rfl (R.move (v := (.slice a n cap)) rfl) ?_
  refine WL.call (al := [(.slice a n cap)]) Try.call58 rfl rfl (c_Clone a n cap bs hl (by omega) _ (viewV (h_3.ok _ (.tail _ (.head _))))) rfl ?_
  rintro _ w_6 ⟨a_4, cap_5, rfl, hc_7, ho_8⟩
  have h_9 := h_3.gotRow hc_7 ho_8
  have hq_10 := ho_8.2.2.1
  refine WL.q (Wn.no rfl) rfl rfl (R.assign (v := (.slice a_4 n cap_5)) rfl) ?_
  refine WL.nil ?_
  refine thn_n ?_
  refine WP.seq ?_
  refine WP.seq ?_
  refine WP.reg ?_
  refine WL.q (Wn.no rfl) rfl rfl (R.move (v := (.slice a2 n2 cap2)) rfl) ?_
  refine WL.q (Wn.no rfl) rfl rfl (R.lenS (a := a2) (m := n2) rfl rfl Try.underlying70) ?_
  refine WL.q (Wn.no rfl) rfl rfl (R.move (v := (vi 0)) rfl) ?_
  refine WL.nil ?_
  refine thn_n ?_
  refine WP.block ?_
  have hf_11 := Own.blk (h_9.own (.head _))
  have h_12 := h_9.rowView
  have h_13 := h_12.slsNil
  have h_14 := h_13.rowNil 37 1
  refine WP.loopG (G := Nat × Option Addr × Nat × List Value × List (List UInt8) × Option Addr × Nat × Nat × List UInt8) [4, 5, 6, 7, 9, 16, 17, 18, 19, 20, 21, 22, 23, 24, 25, 26, 27, 28, 29, 30, 31, 32, 33, 34] (fun (k, oa, oc, xs, ls, ra, rc, z, r) => [(6, (.slice oa k oc)), (7, (.slice ra z rc)), (16, (vi ((k : Nat) : Int)))]) (fun (k, oa, oc, xs, ls, ra, rc, z, r) m w1 => HP w w1 [.row oa k oc 37 1 xs, .pin (sblks xs) (fun w => Sls w xs ls), .view ra (r.map vu8), .view a2 ((ns.map Int.ofNat).map vi64), .view a (bs.map vu8)] ∧ (k ≤ n2) ∧ (r.length = z) ∧ (z ≤ rc) ∧ (z ≤ n) ∧ (ls.length = k) ∧ (∀ b ∈ sblks xs, w.heap.size ≤ b) ∧ (∀ b ∈ (Ent.view ra (r.map vu8)).blocks, w.heap.size ≤ b) ∧ (Go.Wr.cutL ns bs = (Go.Wr.cutL (ns.drop k) r).map (ls ++ ·)) ∧ m = n2 - k) ⟨(0, none, 0, [], [], a_4, cap_5, n, bs), _, ⟨rfl, rfl, rfl, trivial⟩, h_14, (by omega), hl, (by omega), Nat.le_refl n, rfl, (fun b hb => by cases hb), hf_11, (by rw [List.drop_zero]; cases Go.Wr.cutL ns bs <;> simp), rfl⟩ ?_
  rintro ⟨k, oa, oc, xs, ls, ra, rc, z, r⟩ m_17 J_18 w_15 ⟨h_16, hk, hz, hrc, hrn, hkl, hf1, hf2, hsp, rfl⟩
  refine WP.seq ?_
  refine WP.reg ?_
  refine WL.q (Wn.no rfl) rfl rfl (R.bin (v := (.bool (decide ((((k : Nat) : Int) : Int) < ((n2 : Nat) : Int))))) rfl rfl (bi_lss (r := decide ((((k : Nat) : Int) : Int) < ((n2 : Nat) : Int))) rfl)) ?_
  refine WL.nil ?_
  refine thn_n ?_
  refine WP.seq ?_
  refine WP.cond (b := decide ((((k : Nat) : Int) : Int) < ((n2 : Nat) : Int))) rfl (fun c_19 => ?_) (fun c_19 => ?_)
  · have p_20 := of_decide_eq_true c_19
    refine WP.skip ?_
    refine thn_n ?_
    refine WP.seq ?_
    refine WP.block ?_
    refine WP.seq ?_
    refine WP.reg ?_
    refine WL.q (Wn.no rfl) rfl rfl (R.indexS (a := a2) (i := k) (off := k) (xs := (ns.map Int.ofNat).map vi64) rfl rfl rfl (by omega) (viewV (h_16.ok _ (.tail _ (.tail _ (.tail _ (.head _)))))) (lt_len (K := n2) (len_map ((List.length_map ..).trans hl2)) (by omega)) Try.underlying70 Try.sizeOf3 (Nat.mul_one _).symm) ?_
    refine WL.q (Wn.no rfl) rfl rfl (R.loadG (a := a2) (i := k) (xs := (ns.map Int.ofNat).map vi64) (v := (vi ((ns.getD k 0 : Nat) : Int))) rfl (viewV (h_16.ok _ (.tail _ (.tail _ (.tail _ (.head _)))))) Try.isAgg3 (Go.Wr.ints_get (by omega))) ?_
    refine WL.q (Wn.no rfl) rfl rfl (R.assign (v := (vi ((ns.getD k 0 : Nat) : Int))) rfl) ?_
    refine WL.nil ?_
    refine thn_n ?_
    refine WP.seq ?_
    refine WP.seq ?_
    refine WP.reg ?_
    refine WL.q (Wn.no rfl) rfl rfl (R.move (v := (vi ((ns.getD k 0 : Nat) : Int))) rfl) ?_
    refine WL.q (Wn.no rfl) rfl rfl (R.move (v := (.slice ra z rc)) rfl) ?_
    refine WL.q (Wn.no rfl) rfl rfl (R.lenS (a := ra) (m := z) rfl rfl Try.underlying37) ?_
    refine WL.q (Wn.no rfl) rfl rfl (R.bin (v := (.bool (decide ((((ns.getD k 0 : Nat) : Int) : Int) > ((z : Nat) : Int))))) rfl rfl (bi_gtr (r := decide ((((ns.getD k 0 : Nat) : Int) : Int) > ((z : Nat) : Int))) rfl)) ?_
    refine WL.nil ?_
    refine thn_n ?_
    refine WP.cond (b := decide ((((ns.getD k 0 : Nat) : Int) : Int) > ((z : Nat) : Int))) rfl (fun c_21 => ?_) (fun c_21 => ?_)
    · have p_22 := of_decide_eq_true c_21
      refine WP.seq ?_
      refine WP.reg ?_
      refine WL.q (Wn.no rfl) rfl rfl (R.assign (v := (.slice none 0 0)) rfl) ?_
      refine WL.q (Wn.no rfl) rfl rfl (R.assign (v := (vi 4)) rfl) ?_
      refine WL.nil ?_
      refine thn_n ?_
      refine WP.ret ?_
      refine thn_r ?_
      refine inb_r ?_
      refine thn_r ?_
      refine thn_r ?_
      refine inb_r ?_
      refine thn_r ?_
      refine ret_of Try.results84 (RV.tmp (v := (.slice none 0 0)) rfl (RV.tmp (v := (vi 4)) rfl RV.nil)) ?_
      exact ⟨rfl, h_16.chgS⟩
    · have p_23 := of_decide_eq_false c_21
      refine WP.skip ?_
      refine thn_n ?_
      refine WP.drawT (SL w.heap.size [.pin (sblks xs) (fun w => Sls w xs ls), .view ra (r.map vu8), .view a2 ((ns.map Int.ofNat).map vi64), .view a (bs.map vu8)]) (.q 0 (.q 1 (.q 2 (.q 3 (.q 4 (.q 7 (.q 8 (.q 9 (.s 5 (.s 6 (.q 10 (.q 11 .nil)))))))))))) (by kernel_rfl) (by kernel_rfl) rfl (by kernel_rfl) (fun w_24 hc_26 => (SL.cons ((h_16.same hc_26).ok _ (.tail _ (.head _))) (SL.cons ((h_16.same hc_26).ok _ (.tail _ (.tail _ (.head _)))) (SL.cons ((h_16.same hc_26).ok _ (.tail _ (.tail _ (.tail _ (.head _))))) (SL.cons ((h_16.same hc_26).ok _ (.tail _ (.tail _ (.tail _ (.tail _ (.head _)))))) (SL.nil _ _)))))) (fun w_24 hc_26 => ?_)
      have h_25 := h_16.same hc_26
      refine WT.q rfl (Wn.no rfl) rfl rfl (fun wq hS => R.move (v := (.slice oa k oc)) rfl) ?_
      refine WT.q rfl (Wn.no rfl) rfl rfl (fun wq hS => R.move (v := (.slice ra z rc)) rfl) ?_
      refine WT.q rfl (Wn.no rfl) rfl rfl (fun wq hS => R.move (v := (vi ((ns.getD k 0 : Nat) : Int))) rfl) ?_
      refine WT.q rfl (Wn.no rfl) rfl rfl (fun wq hS => R.move (v := (vi ((ns.getD k 0 : Nat) : Int))) rfl) ?_
      refine WT.q rfl (Wn.no rfl) rfl rfl (fun wq hS => R.sliceS3 (a := ra) (len := z) (l := 0) (h := ns.getD k 0) (m := ns.getD k 0) rfl EvB.dflt rfl rfl rfl rfl (by omega) (by omega) (by omega) Try.underlying37 Try.sizeOf5) ?_
      refine WT.q rfl (Wn.no rfl) rfl rfl (fun wq hS => R.move (v := (.slice ra z rc)) rfl) ?_
      refine WT.q rfl (Wn.no rfl) rfl rfl (fun wq hS => R.move (v := (vi ((ns.getD k 0 : Nat) : Int))) rfl) ?_
      refine WT.q rfl (Wn.no rfl) rfl rfl (fun wq hS => R.sliceS (a := ra) (len := z) (l := ns.getD k 0) (h := z) rfl (EvB.it (l := ns.getD k 0) rfl rfl) EvB.dflt (by omega) (by omega) Try.underlying37 Try.sizeOf5) ?_
      refine WT.s ?_
      refine Op1.one rfl (Wn.no rfl) ?_
      refine WL.buildSl (vs := [(0, (.slice (slA ra 0 (ns.getD k 0) 1) (ns.getD k 0) (ns.getD k 0)))]) (cs := [(.slice (slA ra 0 (ns.getD k 0) 1) (ns.getD k 0) (ns.getD k 0))]) h_25 Try.underlying36 Try.sizeOf37 (zv Try.typeInfo37 rfl) rfl rfl (by kernel_rfl) rfl (by simp [Value.oneCell']) rfl rfl (fun b_27 w_28 h_29 => ?_)
      refine WL.nil ?_
      refine ⟨(SL.cons (h_29.ok _ (.tail _ (.tail _ (.head _)))) (SL.cons (h_29.ok _ (.tail _ (.tail _ (.tail _ (.head _))))) (SL.cons (h_29.ok _ (.tail _ (.tail _ (.tail _ (.tail _ (.head _)))))) (SL.cons (h_29.ok _ (.tail _ (.tail _ (.tail _ (.tail _ (.tail _ (.head _))))))) (SL.nil _ _))))), ?_⟩
      refine WT.s ?_
      refine Op1.one rfl (Wn.no rfl) ?_
      refine WL.append (km := k + 1) (xs := xs) (ys := [(.slice (slA ra 0 (ns.getD k 0) 1) (ns.getD k 0) (ns.getD k 0))]) (zs := xs ++ [(.slice (slA ra 0 (ns.getD k 0) 1) (ns.getD k 0) (ns.getD k 0))]) h_29 rfl rfl el36 (viewB (h_29.ok _ (.head _)) Sg.h) rfl (by simp [Value.oneCell']) rfl (by omega) (by omega) (by omega) (fun _ _ => (At.t At.h)) rfl (fun a_30 c_31 w_32 h_33 => ?_)
      refine WL.nil ?_
      refine ⟨(SL.cons (h_33.ok _ (.tail _ (.tail _ (.head _)))) (SL.cons (h_33.ok _ (.tail _ (.tail _ (.tail _ (.head _))))) (SL.cons (h_33.ok _ (.tail _ (.tail _ (.tail _ (.tail _ (.head _)))))) (SL.cons (h_33.ok _ (.tail _ (.tail _ (.tail _ (.tail _ (.tail _ (.head _))))))) (SL.nil _ _))))), ?_⟩
      refine WT.q rfl (Wn.no rfl) rfl rfl (fun wq hS => R.assign (v := (.slice a_30 (k + 1) c_31)) rfl) ?_
      refine WT.q rfl (Wn.no rfl) rfl rfl (fun wq hS => R.assign (v := (.slice (slA ra (ns.getD k 0) rc 1) (z - (ns.getD k 0)) (rc - (ns.getD k 0)))) rfl) ?_
      refine WT.nil ?_
      refine inb_n ?_
      refine thn_n ?_
      refine WP.reg ?_
      refine WL.q (Wn.no rfl) rfl rfl (R.bin (v := (vi ((k + 1 : Nat) : Int))) rfl rfl (bi_add (c := ((k + 1 : Nat) : Int)) (by omega) (by omega))) ?_
      refine WL.q (Wn.no rfl) rfl rfl (R.move (v := (vi ((k + 1 : Nat) : Int))) rfl) ?_
      refine WL.nil ?_
      refine thn_n ?_
      obtain ⟨h_34, hg1, hg2⟩ := HP.cutPush (n := ns.getD k 0) (q := rc) (m := z) h_33 (.tail _ (.tail _ (.head _))) (.tail _ (.tail _ (.tail _ (.head _)))) hz (by omega) (by omega) hf1 hf2
      have h_35 := h_34.up (Pick.t (Pick.t Pick.h))
      have h_36 := h_35.drop rfl
      have h_37 := h_36.up (Pick.t (Pick.t (Pick.t Pick.h)))
      have h_38 := h_37.drop rfl
      have h_39 := h_38.up (Pick.t (Pick.t (Pick.t Pick.h)))
      have h_40 := h_39.drop rfl
      have h_41 := h_40.up (Pick.t (Pick.t (Pick.t (Pick.t Pick.h))))
      have h_42 := h_41.up (Pick.t (Pick.t (Pick.t (Pick.t Pick.h))))
      have h_43 := h_42.up (Pick.t (Pick.t Pick.h))
      have h_44 := h_43.up (Pick.t (Pick.t (Pick.t Pick.h)))
      have h_45 := h_44.up (Pick.t (Pick.t (Pick.t (Pick.t Pick.h))))
      exact ⟨(k + 1, a_30, c_31, _, _, slA ra (ns.getD k 0) rc 1, rc - (ns.getD k 0), z - (ns.getD k 0), _), _, (by omega), (Ag.upd rfl (Ag.upd rfl (Ag.upd rfl (Ag.upd rfl (Ag.upd rfl (Ag.upd rfl (Ag.upd rfl (Ag.upd rfl (Ag.upd rfl (Ag.upd rfl (Ag.upd rfl (Ag.upd rfl (Ag.upd rfl (Ag.upd rfl (Ag.upd rfl (Ag.upd rfl (Ag.upd rfl (Ag.upd rfl (Ag.upd rfl (Ag.upd rfl (Ag.upd rfl (Ag.upd rfl (Ag.updL rfl (Ag.mix _ _ _)))))))))))))))))))))))), ⟨rfl, rfl, rfl, trivial⟩, h_45, (by omega), (by rw [List.length_drop, hz]), (by omega), (by omega), (by rw [List.length_append, hkl]; rfl), hg1, hg2, (Go.Wr.cut_next hsp (by omega) rfl (by omega)), rfl⟩
  · have p_46 := of_decide_eq_false c_19
    refine WP.exit ?_
    refine thn_x ?_
    refine thn_x ?_
    refine inb_hit ?_
    refine thn_n ?_
    refine WP.seq ?_
    refine WP.seq ?_
    refine WP.reg ?_
    refine WL.q (Wn.no rfl) rfl rfl (R.move (v := (.slice ra z rc)) rfl) ?_
    refine WL.q (Wn.no rfl) rfl rfl (R.lenS (a := ra) (m := z) rfl rfl Try.underlying37) ?_
    refine WL.q (Wn.no rfl) rfl rfl (R.bin (v := (.bool (decide ((((z : Nat) : Int) : Int) > 0)))) rfl rfl (bi_gtr (r := decide ((((z : Nat) : Int) : Int) > 0)) rfl)) ?_
    refine WL.nil ?_
    refine thn_n ?_
    refine WP.cond (b := decide ((((z : Nat) : Int) : Int) > 0)) rfl (fun c_47 => ?_) (fun c_47 => ?_)
    · have p_48 := of_decide_eq_true c_47
      refine WP.seq ?_
      refine WP.reg ?_
      refine WL.q (Wn.no rfl) rfl rfl (R.assign (v := (.slice none 0 0)) rfl) ?_
      refine WL.q (Wn.no rfl) rfl rfl (R.assign (v := (vi 4)) rfl) ?_
      refine WL.nil ?_
      refine thn_n ?_
      refine WP.ret ?_
      refine thn_r ?_
      refine ret_of Try.results84 (RV.tmp (v := (.slice none 0 0)) rfl (RV.tmp (v := (vi 4)) rfl RV.nil)) ?_
      exact ⟨rfl, h_16.chgS⟩
    · have p_49 := of_decide_eq_false c_47
      refine WP.skip ?_
      refine thn_n ?_
      refine WP.seq ?_
      refine WP.reg ?_
      refine WL.q (Wn.no rfl) rfl rfl (R.move (v := (.slice oa k oc)) rfl) ?_
      refine WL.q (Wn.no rfl) rfl rfl (R.assign (v := (.slice oa k oc)) rfl) ?_
      refine WL.q (Wn.no rfl) rfl rfl (R.assign (v := (vi 0)) rfl) ?_
      refine WL.nil ?_
      refine thn_n ?_
      refine WP.ret ?_
      refine ret_of Try.results84 (RV.tmp (v := (.slice oa k oc)) rfl (RV.tmp (v := (vi 0)) rfl RV.nil)) ?_
      have hd := (Go.Wr.cut_end hsp (by omega)).trans (if_pos (List.length_eq_zero_iff.1 (by omega)))
      rw [hd] at hx; cases hx

theorem c_Cut_n (a : Option Addr) (n cap : Nat) (bs : List UInt8) (hl : bs.length = n) (hn : n ≤ 1099511627776) (a2 : Option Addr) (n2 cap2 : Nat) (zs : List Int) (hl2 : zs.length = n2) (hn2 : n2 ≤ 1099511627776) (hx : zs.all nonneg = false) (w : World) (hv : View w a (bs.map vu8)) (hv2 : View w a2 (zs.map vi64)) :
    Cs Try.prog 84 [(.slice a n cap), (.slice a2 n2 cap2)].toArray w (fun v w1 => v = (.tuple [(.slice none 0 0), (vi 2)].toArray) ∧ Chg w w1 []) := by
  refine Cs.of (n := 39) (args := [(.slice a n cap), (.slice a2 n2 cap2)]) Try.func84 rfl rfl rfl ?_
  have h_0 := HP.init w
  have h_01 := h_0.oldV (View.arg hv) rfl (by simp [Ent.mut])
  have h_00 := h_01.oldV (View.arg hv2) rfl (by simp [Ent.mut])
  refine WP.seq ?_
  refine WP.reg ?_
  refine WL.q (Wn.no rfl) rfl rfl (R.assign (v := (.slice none 0 0)) rfl) ?_
  refine WL.q (Wn.no rfl) rfl rfl (R.assign (v := (vi 0)) rfl) ?_
  refine WL.nil ?_
  refine thn_n ?_
  refine WP.seq ?_
  refine WP.seq ?_
  refine WP.reg ?_
  refine WL.q (Wn.no rfl) rfl rfl (R.move (v := (.slice a2 n2 cap2)) rfl) ?_
  refine WL.call (al := [(.slice a2 n2 cap2), (Value.func (Fn.func 103) [].toArray [].toArray)]) Try.call102 rfl rfl (c_CfZ_f a2 n2 cap2 zs hl2 (by omega) hx _ (viewV (h_00.ok _ (.head _)))) rfl ?_
  rintro _ w_2 ⟨rfl, hc_1⟩
  have h_3 := h_00.same hc_1
  refine WL.nil ?_
  refine thn_n ?_
  refine WP.condT rfl ?_
  refine WP.seq ?_
  refine WP.reg ?_
  refine WL.q (Wn.no rfl) rfl rfl (R.assign (v := (.slice none 0 0)) rfl) ?_
  refine WL.q (Wn.no rfl) rfl rfl (R.assign (v := (vi 2)) rfl) ?_
  refine WL.nil ?_
  refine thn_n ?_
  refine WP.ret ?_
  refine thn_r ?_
  refine ret_of Try.results84 (RV.tmp (v := (.slice none 0 0)) rfl (RV.tmp (v := (vi 2)) rfl RV.nil)) ?_
  exact ⟨rfl, h_3.chgS⟩
end Go.Proofs.Ytnhppjimimhlkaa
