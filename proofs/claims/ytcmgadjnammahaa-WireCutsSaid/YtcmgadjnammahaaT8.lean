/- Lists that are unpacked and cut: contracts. Conditions: those that each theorem states. -/
import Derived.Test.YtcmgadjnammahaaT7
namespace Go.Proofs.Ytcmgadjnammahaa
open Go.Vc Go.RowKit
set_option linter.unusedVariables false
set_option linter.unusedSimpArgs false
set_option maxRecDepth 20000

theorem ns_all (ns : List Nat) : (ns.map Int.ofNat).all nonneg = true := by
  rw [List.all_eq_true]
  intro x hx
  obtain ⟨y, _, rfl⟩ := List.mem_map.1 hx
  simp [nonneg]
theorem zs_none {zs : List Int} (h : zs.all nonneg = false) : ¬ ∀ k, k < zs.length → 0 ≤ zs.getD k 0 := fun h2 => by rw [zall_of h2] at h; cases h
theorem c_Unpack_t (a : Option Addr) (n cap : Nat) (bs : List UInt8) (hl : bs.length = n) (hn : n ≤ 1099511627776) (lr : List (List UInt8)) (hx : Go.Wr.unpk 64 bs = some lr) (w : World) (hv : View w a (bs.map vu8)) :
    Cs Try.prog 30 [(.slice a n cap)].toArray w (fun v w1 => ∃ a cap xs, v = .tuple [.slice a lr.length cap, vi 0].toArray ∧ Chg w w1 [] ∧ View w1 a xs ∧ Sls w1 xs lr ∧ ∀ b ∈ (Ent.view a xs).blocks ++ sblks xs, w.heap.size ≤ b) := by
  refine Cs.of (n := 45) (args := [(.slice a n cap)]) Try.func30 rfl rfl rfl ?_
  have h_0 := HP.init w
  have h_00 := h_0.old (View.arg hv) (fun f hf => by cases hf)
  refine WP.seq ?_
  refine WP.reg ?_
  refine WL.q (Wn.no rfl) rfl rfl (R.assign (v := (.slice none 0 0)) rfl) ?_
  refine WL.q (Wn.no rfl) rfl rfl (R.assign (v := (vi 0)) rfl) ?_
  refine WL.nil ?_
  refine thn_n ?_
  refine WP.seq ?_
  refine WP.reg ?_
  refine WL.q (Wn.no rfl) rfl rfl (R.assign (v := (.slice none 0 0)) rfl) ?_
  refine WL.nil ?_
  refine thn_n ?_
  refine WP.seq ?_
  refine WP.reg ?_
  refine WL.q (Wn.no rfl) rfl rfl (R.move (v := (.slice a n cap)) rfl) ?_
  refine WL.call (al := [(.slice a n cap)]) Try.call69 rfl rfl (c_Clone a n cap bs hl (by omega) _ (viewV (h_00.ok _ (.head _)))) rfl ?_
  rintro _ w_3 ⟨a_1, cap_2, rfl, hc_4, ho_5⟩
  have h_6 := h_00.gotRow hc_4 ho_5
  have hq_7 := ho_5.2.2.1
  refine WL.q (Wn.no rfl) rfl rfl (R.assign (v := (.slice a_1 n cap_2)) rfl) ?_
  refine WL.nil ?_
  refine thn_n ?_
  refine WP.seq ?_
  refine WP.block ?_
  have hf_8 := Own.blk (h_6.own (.head _))
  have h_9 := h_6.rowView
  have h_10 := h_9.slsNil
  have h_11 := h_10.rowNil 23 1
  refine WP.loopG (G := Nat × Option Addr × Nat × List Value × List (List UInt8) × Option Addr × Nat × Nat × List UInt8) [2, 3, 4, 5, 6, 9, 10, 11, 12, 13, 14, 15, 16, 17, 18, 19, 20, 21, 22, 23, 24, 25, 26, 27, 28, 29, 30, 31, 32, 33, 34, 35, 36, 37, 38, 39, 40, 41, 42, 43] (fun (k, oa, oc, xs, ls, ra, rc, z, r) => [(4, (.slice oa k oc)), (5, (.slice ra z rc))]) (fun (k, oa, oc, xs, ls, ra, rc, z, r) m w1 => HP w w1 [.row oa k oc 23 1 xs, .pin (sblks xs) (fun w => Sls w xs ls), .view ra (r.map vu8), .view a (bs.map vu8)] ∧ (k ≤ 64) ∧ (r.length = z) ∧ (z ≤ rc) ∧ (z ≤ n) ∧ (ls.length = k) ∧ (∀ b ∈ sblks xs, w.heap.size ≤ b) ∧ (∀ b ∈ (Ent.view ra (r.map vu8)).blocks, w.heap.size ≤ b) ∧ (Go.Wr.unpk 64 bs = (Go.Wr.unpk (64 - k) r).map (ls ++ ·)) ∧ m = z + 1) ⟨(0, none, 0, [], [], a_1, cap_2, n, bs), _, ⟨rfl, rfl, trivial⟩, h_11, (by omega), hl, (by omega), Nat.le_refl n, rfl, (fun b hb => by cases hb), hf_8, (by rw [Nat.sub_zero]; cases Go.Wr.unpk 64 bs <;> simp), rfl⟩ ?_
  rintro ⟨k, oa, oc, xs, ls, ra, rc, z, r⟩ m_14 J_15 w_12 ⟨h_13, hk, hz, hrc, hrn, hkl, hf1, hf2, hsp, rfl⟩
  refine WP.seq ?_
  refine WP.seq ?_
  refine WP.reg ?_
  refine WL.q (Wn.no rfl) rfl rfl (R.move (v := (.slice ra z rc)) rfl) ?_
  refine WL.q (Wn.no rfl) rfl rfl (R.lenS (a := ra) (m := z) rfl rfl Try.underlying23) ?_
  refine WL.q (Wn.no rfl) rfl rfl (R.bin (v := (.bool (decide ((((z : Nat) : Int) : Int) > 0)))) rfl rfl (bi_gtr (r := decide ((((z : Nat) : Int) : Int) > 0)) rfl)) ?_
  refine WL.nil ?_
  refine thn_n ?_
  refine WP.cond (b := decide ((((z : Nat) : Int) : Int) > 0)) rfl (fun c_16 => ?_) (fun c_16 => ?_)
  · have p_17 := of_decide_eq_true c_16
    refine WP.skip ?_
    refine thn_n ?_
    refine WP.block ?_
    refine WP.seq ?_
    refine WP.seq ?_
    refine WP.reg ?_
    refine WL.q (Wn.no rfl) rfl rfl (R.move (v := (.slice ra z rc)) rfl) ?_
    refine WL.q (Wn.no rfl) rfl rfl (R.lenS (a := ra) (m := z) rfl rfl Try.underlying23) ?_
    refine WL.q (Wn.no rfl) rfl rfl (R.bin (v := (.bool (decide ((((z : Nat) : Int) : Int) < 4)))) rfl rfl (bi_lss (r := decide ((((z : Nat) : Int) : Int) < 4)) rfl)) ?_
    refine WL.q (Wn.no rfl) rfl rfl (R.move (v := (.bool (decide ((((z : Nat) : Int) : Int) < 4)))) rfl) ?_
    rcases Bool.eq_false_or_eq_true (decide ((((z : Nat) : Int) : Int) < 4)) with c_18 | c_18
    · have p_19 := of_decide_eq_true c_18
      refine WL.skip rfl (congrArg Value.bool c_18) rfl ?_
      refine WL.skip rfl (congrArg Value.bool c_18) rfl ?_
      refine WL.skip rfl (congrArg Value.bool c_18) rfl ?_
      refine WL.q (Wn.no rfl) rfl rfl (R.pickT (v := (.bool true)) (congrArg Value.bool c_18) rfl) ?_
      refine WL.nil ?_
      refine thn_n ?_
      refine WP.condT rfl ?_
      refine WP.seq ?_
      refine WP.reg ?_
      refine WL.q (Wn.no rfl) rfl rfl (R.assign (v := (.slice none 0 0)) rfl) ?_
      refine WL.q (Wn.no rfl) rfl rfl (R.assign (v := (vi 4)) rfl) ?_
      refine WL.nil ?_
      refine thn_n ?_
      refine WP.ret ?_
      refine thn_r ?_
      refine inb_r ?_
      refine thn_r ?_
      refine inb_r ?_
      refine thn_r ?_
      refine ret_of Try.results30 (RV.tmp (v := (.slice none 0 0)) rfl (RV.tmp (v := (vi 4)) rfl RV.nil)) ?_
      have hp_20 := p_17
      have hp_21 := p_19
      have hb := Go.Wr.unpk_none hsp (Go.Wr.unpk_bad (by omega) (by omega))
      rw [hx] at hb; cases hb
    · have p_22 := of_decide_eq_false c_18
      refine WL.want rfl (congrArg Value.bool c_18) ?_
      refine WL.q (Wn.no rfl) rfl rfl (R.move (v := (.slice oa k oc)) rfl) ?_
      refine WL.want rfl (congrArg Value.bool c_18) ?_
      refine WL.q (Wn.no rfl) rfl rfl (R.lenS (a := oa) (m := k) rfl rfl Try.underlying40) ?_
      refine WL.want rfl (congrArg Value.bool c_18) ?_
      refine WL.q (Wn.no rfl) rfl rfl (R.bin (v := (.bool (decide ((((k : Nat) : Int) : Int) = 64)))) rfl rfl (bi_eql (r := decide ((((k : Nat) : Int) : Int) = 64)) rfl)) ?_
      refine WL.q (Wn.no rfl) rfl rfl (R.pickF (v := (.bool (decide ((((k : Nat) : Int) : Int) = 64)))) (congrArg Value.bool c_18) rfl) ?_
      refine WL.nil ?_
      refine thn_n ?_
      refine WP.cond (b := decide ((((k : Nat) : Int) : Int) = 64)) rfl (fun c_23 => ?_) (fun c_23 => ?_)
      · have p_24 := of_decide_eq_true c_23
        refine WP.seq ?_
        refine WP.reg ?_
        refine WL.q (Wn.no rfl) rfl rfl (R.assign (v := (.slice none 0 0)) rfl) ?_
        refine WL.q (Wn.no rfl) rfl rfl (R.assign (v := (vi 4)) rfl) ?_
        refine WL.nil ?_
        refine thn_n ?_
        refine WP.ret ?_
        refine thn_r ?_
        refine inb_r ?_
        refine thn_r ?_
        refine inb_r ?_
        refine thn_r ?_
        refine ret_of Try.results30 (RV.tmp (v := (.slice none 0 0)) rfl (RV.tmp (v := (vi 4)) rfl RV.nil)) ?_
        have hp_25 := p_17
        have hp_26 := p_22
        have hp_27 := p_24
        have hb := Go.Wr.unpk_none hsp (Go.Wr.unpk_bad (by omega) (by omega))
        rw [hx] at hb; cases hb
      · have p_28 := of_decide_eq_false c_23
        refine WP.skip ?_
        refine thn_n ?_
        refine WP.seq ?_
        refine WP.reg ?_
        refine WL.q (Wn.no rfl) rfl rfl (R.move (v := (.slice ra z rc)) rfl) ?_
        refine WL.q (Wn.no rfl) rfl rfl (R.sliceS (a := ra) (len := z) (l := 0) (h := 4) rfl EvB.dflt (EvB.it (l := 4) rfl rfl) (by decide) (by omega) Try.underlying23 Try.sizeOf5) ?_
        refine WL.call (al := [(.slice (slA ra 0 rc 1) 4 rc)]) Try.call64 rfl rfl (c_get (slA ra 0 rc 1) 4 rc ((r.drop 0).take 4) (subLen (K := z) hz (by omega) : List.length ((r.drop 0).take 4) = 4) (by omega) _ (View.slM (l := 0) (m := rc) (k := 4) (viewV (h_13.ok _ (.tail _ (.tail _ (.head _))))) (by omega))) rfl ?_
        rintro _ w_30 ⟨rfl, hc_29⟩
        have h_31 := h_13.same hc_29
        have hn4 := Go.Wr.take4_lt r
        refine WL.q (Wn.no rfl) rfl rfl (R.conv (b := ((natLE (r.take 4) : Nat) : Int)) rfl Try.underlying22 Try.underlying3 ((wi64_u _).trans (Go.Wr.take4_int r))) ?_
        refine WL.q (Wn.no rfl) rfl rfl (R.assign (v := (vi ((natLE (r.take 4) : Nat) : Int))) rfl) ?_
        refine WL.nil ?_
        refine thn_n ?_
        refine WP.seq ?_
        refine WP.reg ?_
        refine WL.q (Wn.no rfl) rfl rfl (R.move (v := (.slice ra z rc)) rfl) ?_
        refine WL.q (Wn.no rfl) rfl rfl (R.sliceS (a := ra) (len := z) (l := 4) (h := z) rfl (EvB.it (l := 4) rfl rfl) EvB.dflt (by omega) (by omega) Try.underlying23 Try.sizeOf5) ?_
        have h_32 := HP.viewDrop (m := 4) (q := rc) h_31 (.tail _ (.tail _ (.head _))) (by omega)
        refine WL.q (Wn.no rfl) rfl rfl (R.assign (v := (.slice (slA ra 4 rc 1) (z - 4) (rc - 4))) rfl) ?_
        refine WL.nil ?_
        refine thn_n ?_
        refine WP.seq ?_
        refine WP.seq ?_
        refine WP.reg ?_
        refine WL.q (Wn.no rfl) rfl rfl (R.move (v := (vi ((natLE (r.take 4) : Nat) : Int))) rfl) ?_
        refine WL.q (Wn.no rfl) rfl rfl (R.bin (v := (.bool (decide ((((natLE (r.take 4) : Nat) : Int) : Int) > 65536)))) rfl rfl (bi_gtr (r := decide ((((natLE (r.take 4) : Nat) : Int) : Int) > 65536)) rfl)) ?_
        refine WL.q (Wn.no rfl) rfl rfl (R.move (v := (.bool (decide ((((natLE (r.take 4) : Nat) : Int) : Int) > 65536)))) rfl) ?_
        rcases Bool.eq_false_or_eq_true (decide ((((natLE (r.take 4) : Nat) : Int) : Int) > 65536)) with c_33 | c_33
        · have p_34 := of_decide_eq_true c_33
          refine WL.skip rfl (congrArg Value.bool c_33) rfl ?_
          refine WL.skip rfl (congrArg Value.bool c_33) rfl ?_
          refine WL.skip rfl (congrArg Value.bool c_33) rfl ?_
          refine WL.skip rfl (congrArg Value.bool c_33) rfl ?_
          refine WL.q (Wn.no rfl) rfl rfl (R.pickT (v := (.bool true)) (congrArg Value.bool c_33) rfl) ?_
          refine WL.nil ?_
          refine thn_n ?_
          refine WP.condT rfl ?_
          refine WP.seq ?_
          refine WP.reg ?_
          refine WL.q (Wn.no rfl) rfl rfl (R.assign (v := (.slice none 0 0)) rfl) ?_
          refine WL.q (Wn.no rfl) rfl rfl (R.assign (v := (vi 4)) rfl) ?_
          refine WL.nil ?_
          refine thn_n ?_
          refine WP.ret ?_
          refine thn_r ?_
          refine inb_r ?_
          refine thn_r ?_
          refine inb_r ?_
          refine thn_r ?_
          refine ret_of Try.results30 (RV.tmp (v := (.slice none 0 0)) rfl (RV.tmp (v := (vi 4)) rfl RV.nil)) ?_
          have hp_35 := p_17
          have hp_36 := p_22
          have hp_37 := p_28
          have hp_38 := p_34
          have hb := Go.Wr.unpk_none hsp (Go.Wr.unpk_big (by omega) (by omega))
          rw [hx] at hb; cases hb
        · have p_39 := of_decide_eq_false c_33
          refine WL.want rfl (congrArg Value.bool c_33) ?_
          refine WL.q (Wn.no rfl) rfl rfl (R.move (v := (vi ((natLE (r.take 4) : Nat) : Int))) rfl) ?_
          refine WL.want rfl (congrArg Value.bool c_33) ?_
          refine WL.q (Wn.no rfl) rfl rfl (R.move (v := (.slice (slA ra 4 rc 1) (z - 4) (rc - 4))) rfl) ?_
          refine WL.want rfl (congrArg Value.bool c_33) ?_
          refine WL.q (Wn.no rfl) rfl rfl (R.lenS (a := slA ra 4 rc 1) (m := z - 4) rfl rfl Try.underlying23) ?_
          refine WL.want rfl (congrArg Value.bool c_33) ?_
          refine WL.q (Wn.no rfl) rfl rfl (R.bin (v := (.bool (decide ((((natLE (r.take 4) : Nat) : Int) : Int) > ((z - 4 : Nat) : Int))))) rfl rfl (bi_gtr (r := decide ((((natLE (r.take 4) : Nat) : Int) : Int) > ((z - 4 : Nat) : Int))) rfl)) ?_
          refine WL.q (Wn.no rfl) rfl rfl (R.pickF (v := (.bool (decide ((((natLE (r.take 4) : Nat) : Int) : Int) > ((z - 4 : Nat) : Int))))) (congrArg Value.bool c_33) rfl) ?_
          refine WL.nil ?_
          refine thn_n ?_
          refine WP.cond (b := decide ((((natLE (r.take 4) : Nat) : Int) : Int) > ((z - 4 : Nat) : Int))) rfl (fun c_40 => ?_) (fun c_40 => ?_)
          · have p_41 := of_decide_eq_true c_40
            refine WP.seq ?_
            refine WP.reg ?_
            refine WL.q (Wn.no rfl) rfl rfl (R.assign (v := (.slice none 0 0)) rfl) ?_
            refine WL.q (Wn.no rfl) rfl rfl (R.assign (v := (vi 4)) rfl) ?_
            refine WL.nil ?_
            refine thn_n ?_
            refine WP.ret ?_
            refine thn_r ?_
            refine inb_r ?_
            refine thn_r ?_
            refine inb_r ?_
            refine thn_r ?_
            refine ret_of Try.results30 (RV.tmp (v := (.slice none 0 0)) rfl (RV.tmp (v := (vi 4)) rfl RV.nil)) ?_
            have hp_42 := p_17
            have hp_43 := p_22
            have hp_44 := p_28
            have hp_45 := p_39
            have hp_46 := p_41
            have hb := Go.Wr.unpk_none hsp (Go.Wr.unpk_big (by omega) (by omega))
            rw [hx] at hb; cases hb
          · have p_47 := of_decide_eq_false c_40
            refine WP.skip ?_
            refine thn_n ?_
            refine WP.drawT (SL w.heap.size [.view (slA ra 4 rc 1) ((r.drop 4).map vu8), .pin (sblks xs) (fun w => Sls w xs ls), .view ra (r.map vu8), .view a (bs.map vu8)]) (.q 0 (.q 1 (.q 2 (.q 3 (.q 4 (.q 7 (.q 8 (.q 9 (.s 5 (.s 6 (.q 10 (.q 11 .nil)))))))))))) (by kernel_rfl) (by kernel_rfl) rfl (by kernel_rfl) (fun w_48 hc_50 => (SL.cons ((h_32.same hc_50).ok _ (.head _)) (SL.cons ((h_32.same hc_50).ok _ (.tail _ (.tail _ (.head _)))) (SL.cons ((h_32.same hc_50).ok _ (.tail _ (.tail _ (.tail _ (.head _))))) (SL.cons ((h_32.same hc_50).ok _ (.tail _ (.tail _ (.tail _ (.tail _ (.head _)))))) (SL.nil _ _)))))) (fun w_48 hc_50 => ?_)
            have h_49 := h_32.same hc_50
            refine WT.q rfl (Wn.no rfl) rfl rfl (fun wq hS => R.move (v := (.slice oa k oc)) rfl) ?_
            refine WT.q rfl (Wn.no rfl) rfl rfl (fun wq hS => R.move (v := (.slice (slA ra 4 rc 1) (z - 4) (rc - 4))) rfl) ?_
            refine WT.q rfl (Wn.no rfl) rfl rfl (fun wq hS => R.move (v := (vi ((natLE (r.take 4) : Nat) : Int))) rfl) ?_
            refine WT.q rfl (Wn.no rfl) rfl rfl (fun wq hS => R.move (v := (vi ((natLE (r.take 4) : Nat) : Int))) rfl) ?_
            refine WT.q rfl (Wn.no rfl) rfl rfl (fun wq hS => R.sliceS3 (a := slA ra 4 rc 1) (len := z - 4) (l := 0) (h := natLE (r.take 4)) (m := natLE (r.take 4)) rfl EvB.dflt rfl rfl rfl rfl (by omega) (by omega) (by omega) Try.underlying23 Try.sizeOf5) ?_
            refine WT.q rfl (Wn.no rfl) rfl rfl (fun wq hS => R.move (v := (.slice (slA ra 4 rc 1) (z - 4) (rc - 4))) rfl) ?_
            refine WT.q rfl (Wn.no rfl) rfl rfl (fun wq hS => R.move (v := (vi ((natLE (r.take 4) : Nat) : Int))) rfl) ?_
            refine WT.q rfl (Wn.no rfl) rfl rfl (fun wq hS => R.sliceS (a := slA ra 4 rc 1) (len := z - 4) (l := natLE (r.take 4)) (h := z - 4) rfl (EvB.it (l := natLE (r.take 4)) rfl rfl) EvB.dflt (by omega) (by omega) Try.underlying23 Try.sizeOf5) ?_
            refine WT.s ?_
            refine Op1.one rfl (Wn.no rfl) ?_
            refine WL.buildSl (vs := [(0, (.slice (slA (slA ra 4 rc 1) 0 (natLE (r.take 4)) 1) (natLE (r.take 4)) (natLE (r.take 4))))]) (cs := [(.slice (slA (slA ra 4 rc 1) 0 (natLE (r.take 4)) 1) (natLE (r.take 4)) (natLE (r.take 4)))]) h_49 Try.underlying40 Try.sizeOf23 (zv Try.typeInfo23 rfl) rfl rfl (by kernel_rfl) rfl (by simp [Value.oneCell']) rfl rfl (fun b_51 w_52 h_53 => ?_)
            refine WL.nil ?_
            refine ⟨(SL.cons (h_53.ok _ (.tail _ (.head _))) (SL.cons (h_53.ok _ (.tail _ (.tail _ (.tail _ (.head _))))) (SL.cons (h_53.ok _ (.tail _ (.tail _ (.tail _ (.tail _ (.head _)))))) (SL.cons (h_53.ok _ (.tail _ (.tail _ (.tail _ (.tail _ (.tail _ (.head _))))))) (SL.nil _ _))))), ?_⟩
            refine WT.s ?_
            refine Op1.one rfl (Wn.no rfl) ?_
            refine WL.append (km := k + 1) (xs := xs) (ys := [(.slice (slA (slA ra 4 rc 1) 0 (natLE (r.take 4)) 1) (natLE (r.take 4)) (natLE (r.take 4)))]) (zs := xs ++ [(.slice (slA (slA ra 4 rc 1) 0 (natLE (r.take 4)) 1) (natLE (r.take 4)) (natLE (r.take 4)))]) h_53 rfl rfl el40 (viewB (h_53.ok _ (.head _)) Sg.h) rfl (by simp [Value.oneCell']) rfl (by omega) (by omega) (by omega) (fun _ _ => (At.t (At.t At.h))) rfl (fun a_54 c_55 w_56 h_57 => ?_)
            refine WL.nil ?_
            refine ⟨(SL.cons (h_57.ok _ (.tail _ (.head _))) (SL.cons (h_57.ok _ (.tail _ (.tail _ (.tail _ (.head _))))) (SL.cons (h_57.ok _ (.tail _ (.tail _ (.tail _ (.tail _ (.head _)))))) (SL.cons (h_57.ok _ (.tail _ (.tail _ (.tail _ (.tail _ (.tail _ (.head _))))))) (SL.nil _ _))))), ?_⟩
            refine WT.q rfl (Wn.no rfl) rfl rfl (fun wq hS => R.assign (v := (.slice a_54 (k + 1) c_55)) rfl) ?_
            refine WT.q rfl (Wn.no rfl) rfl rfl (fun wq hS => R.assign (v := (.slice (slA (slA ra 4 rc 1) (natLE (r.take 4)) (rc - 4) 1) (z - 4 - (natLE (r.take 4))) (rc - 4 - (natLE (r.take 4))))) rfl) ?_
            refine WT.nil ?_
            refine inb_n ?_
            refine thn_n ?_
            have hf4 : ∀ b ∈ (Ent.view (slA ra 4 rc 1) ((r.drop 4).map vu8)).blocks, w.heap.size ≤ b := fun b hb => hf2 b (view_sl_blocks (l := r) (l' := r.drop 4) (fun h2 => by rintro rfl; exact h2 (by simp)) b hb)
            obtain ⟨h_59, hg1, hg2⟩ := HP.cutPush (n := natLE (r.take 4)) (q := rc - 4) (m := z - 4) h_57 (.tail _ (.tail _ (.tail _ (.head _)))) (.tail _ (.head _)) ((List.length_drop ..).trans (by omega)) (by omega) (by omega) hf1 hf4
            have h_60 := h_59.up (Pick.t (Pick.t Pick.h))
            have h_61 := h_60.drop rfl
            have h_62 := h_61.up (Pick.t (Pick.t Pick.h))
            have h_63 := h_62.drop rfl
            have h_64 := h_63.up (Pick.t (Pick.t (Pick.t Pick.h)))
            have h_65 := h_64.drop rfl
            have h_66 := h_65.up (Pick.t (Pick.t (Pick.t Pick.h)))
            have h_67 := h_66.drop rfl
            have h_68 := h_67.up (Pick.t (Pick.t (Pick.t Pick.h)))
            have h_69 := h_68.up (Pick.t Pick.h)
            have h_70 := h_69.up (Pick.t (Pick.t Pick.h))
            have h_71 := h_70.up (Pick.t (Pick.t (Pick.t Pick.h)))
            exact ⟨(k + 1, a_54, c_55, _, _, slA (slA ra 4 rc 1) (natLE (r.take 4)) (rc - 4) 1, rc - 4 - (natLE (r.take 4)), z - 4 - (natLE (r.take 4)), _), _, (by omega), (Ag.upd rfl (Ag.upd rfl (Ag.upd rfl (Ag.upd rfl (Ag.upd rfl (Ag.upd rfl (Ag.upd rfl (Ag.upd rfl (Ag.upd rfl (Ag.upd rfl (Ag.upd rfl (Ag.upd rfl (Ag.upd rfl (Ag.upd rfl (Ag.upd rfl (Ag.upd rfl (Ag.upd rfl (Ag.upd rfl (Ag.upd rfl (Ag.upd rfl (Ag.upd rfl (Ag.upd rfl (Ag.upd rfl (Ag.upd rfl (Ag.upd rfl (Ag.upd rfl (Ag.upd rfl (Ag.upd rfl (Ag.upd rfl (Ag.upd rfl (Ag.upd rfl (Ag.upd rfl (Ag.upd rfl (Ag.upd rfl (Ag.upd rfl (Ag.upd rfl (Ag.upd rfl (Ag.upd rfl (Ag.upd rfl (Ag.updL rfl (Ag.mix _ _ _))))))))))))))))))))))))))))))))))))))))), ⟨rfl, rfl, trivial⟩, h_71, (by omega), (by rw [List.length_drop, List.length_drop]; omega), (by omega), (by omega), (by rw [List.length_append, hkl]; rfl), hg1, hg2, (Go.Wr.unpk_next (c := 64 - k) hsp (by omega) (by omega) rfl (by omega) (by omega)), rfl⟩
  · have p_72 := of_decide_eq_false c_16
    refine WP.exit ?_
    refine thn_x ?_
    refine thn_x ?_
    refine inb_hit ?_
    refine thn_n ?_
    refine WP.seq ?_
    refine WP.reg ?_
    refine WL.q (Wn.no rfl) rfl rfl (R.move (v := (.slice oa k oc)) rfl) ?_
    refine WL.q (Wn.no rfl) rfl rfl (R.assign (v := (.slice oa k oc)) rfl) ?_
    refine WL.q (Wn.no rfl) rfl rfl (R.assign (v := (vi 0)) rfl) ?_
    refine WL.nil ?_
    refine thn_n ?_
    refine WP.ret ?_
    refine ret_of Try.results30 (RV.tmp (v := (.slice oa k oc)) rfl (RV.tmp (v := (vi 0)) rfl RV.nil)) ?_
    have hd := (Go.Wr.unpk_done hsp (by omega))
    rw [hd] at hx; obtain rfl := Option.some.inj hx
    refine ⟨oa, oc, xs, by rw [hkl]; rfl, h_13.chgS, (ownView (h_13.ok _ (.head _))), (h_13.ok _ (.tail _ (.head _))).1, fun b hb => ?_⟩
    rcases List.mem_append.1 hb with hb | hb
    · exact Own.blk (h_13.own (.head _)) b hb
    · exact hf1 b hb

theorem c_Unpack_f (a : Option Addr) (n cap : Nat) (bs : List UInt8) (hl : bs.length = n) (hn : n ≤ 1099511627776) (hx : Go.Wr.unpk 64 bs = none) (w : World) (hv : View w a (bs.map vu8)) :
    Cs Try.prog 30 [(.slice a n cap)].toArray w (fun v w1 => v = (.tuple [(.slice none 0 0), (vi 4)].toArray) ∧ Chg w w1 []) := by
  refine Cs.of (n := 45) (args := [(.slice a n cap)]) Try.func30 rfl rfl rfl ?_
  have h_0 := HP.init w
  have h_00 := h_0.old (View.arg hv) (fun f hf => by cases hf)
  refine WP.seq ?_
  refine WP.reg ?_
  refine WL.q (Wn.no rfl) rfl rfl (R.assign (v := (.slice none 0 0)) rfl) ?_
  refine WL.q (Wn.no rfl) rfl rfl (R.assign (v := (vi 0)) rfl) ?_
  refine WL.nil ?_
  refine thn_n ?_
  refine WP.seq ?_
  refine WP.reg ?_
  refine WL.q (Wn.no rfl) rfl rfl (R.assign (v := (.slice none 0 0)) rfl) ?_
  refine WL.nil ?_
  refine thn_n ?_
  refine WP.seq ?_
  refine WP.reg ?_
  refine WL.q (Wn.no rfl) rfl rfl (R.move (v := (.slice a n cap)) rfl) ?_
  refine WL.call (al := [(.slice a n cap)]) Try.call69 rfl rfl (c_Clone a n cap bs hl (by omega) _ (viewV (h_00.ok _ (.head _)))) rfl ?_
  rintro _ w_3 ⟨a_1, cap_2, rfl, hc_4, ho_5⟩
  have h_6 := h_00.gotRow hc_4 ho_5
  have hq_7 := ho_5.2.2.1
  refine WL.q (Wn.no rfl) rfl rfl (R.assign (v := (.slice a_1 n cap_2)) rfl) ?_
  refine WL.nil ?_
  refine thn_n ?_
  refine WP.seq ?_
  refine WP.block ?_
  have hf_8 := Own.blk (h_6.own (.head _))
  have h_9 := h_6.rowView
  have h_10 := h_9.slsNil
  have h_11 := h_10.rowNil 23 1
  refine WP.loopG (G := Nat × Option Addr × Nat × List Value × List (List UInt8) × Option Addr × Nat × Nat × List UInt8) [2, 3, 4, 5, 6, 9, 10, 11, 12, 13, 14, 15, 16, 17, 18, 19, 20, 21, 22, 23, 24, 25, 26, 27, 28, 29, 30, 31, 32, 33, 34, 35, 36, 37, 38, 39, 40, 41, 42, 43] (fun (k, oa, oc, xs, ls, ra, rc, z, r) => [(4, (.slice oa k oc)), (5, (.slice ra z rc))]) (fun (k, oa, oc, xs, ls, ra, rc, z, r) m w1 => HP w w1 [.row oa k oc 23 1 xs, .pin (sblks xs) (fun w => Sls w xs ls), .view ra (r.map vu8), .view a (bs.map vu8)] ∧ (k ≤ 64) ∧ (r.length = z) ∧ (z ≤ rc) ∧ (z ≤ n) ∧ (ls.length = k) ∧ (∀ b ∈ sblks xs, w.heap.size ≤ b) ∧ (∀ b ∈ (Ent.view ra (r.map vu8)).blocks, w.heap.size ≤ b) ∧ (Go.Wr.unpk 64 bs = (Go.Wr.unpk (64 - k) r).map (ls ++ ·)) ∧ m = z + 1) ⟨(0, none, 0, [], [], a_1, cap_2, n, bs), _, ⟨rfl, rfl, trivial⟩, h_11, (by omega), hl, (by omega), Nat.le_refl n, rfl, (fun b hb => by cases hb), hf_8, (by rw [Nat.sub_zero]; cases Go.Wr.unpk 64 bs <;> simp), rfl⟩ ?_
  rintro ⟨k, oa, oc, xs, ls, ra, rc, z, r⟩ m_14 J_15 w_12 ⟨h_13, hk, hz, hrc, hrn, hkl, hf1, hf2, hsp, rfl⟩
  refine WP.seq ?_
  refine WP.seq ?_
  refine WP.reg ?_
  refine WL.q (Wn.no rfl) rfl rfl (R.move (v := (.slice ra z rc)) rfl) ?_
  refine WL.q (Wn.no rfl) rfl rfl (R.lenS (a := ra) (m := z) rfl rfl Try.underlying23) ?_
  refine WL.q (Wn.no rfl) rfl rfl (R.bin (v := (.bool (decide ((((z : Nat) : Int) : Int) > 0)))) rfl rfl (bi_gtr (r := decide ((((z : Nat) : Int) : Int) > 0)) rfl)) ?_
  refine WL.nil ?_
  refine thn_n ?_
  refine WP.cond (b := decide ((((z : Nat) : Int) : Int) > 0)) rfl (fun c_16 => ?_) (fun c_16 => ?_)
  · have p_17 := of_decide_eq_true c_16
    refine WP.skip ?_
    refine thn_n ?_
    refine WP.block ?_
    refine WP.seq ?_
    refine WP.seq ?_
    refine WP.reg ?_
    refine WL.q (Wn.no rfl) rfl rfl (R.move (v := (.slice ra z rc)) rfl) ?_
    refine WL.q (Wn.no rfl) rfl rfl (R.lenS (a := ra) (m := z) rfl rfl Try.underlying23) ?_
    refine WL.q (Wn.no rfl) rfl rfl (R.bin (v := (.bool (decide ((((z : Nat) : Int) : Int) < 4)))) rfl rfl (bi_lss (r := decide ((((z : Nat) : Int) : Int) < 4)) rfl)) ?_
    refine WL.q (Wn.no rfl) rfl rfl (R.move (v := (.bool (decide ((((z : Nat) : Int) : Int) < 4)))) rfl) ?_
    rcases Bool.eq_false_or_eq_true (decide ((((z : Nat) : Int) : Int) < 4)) with c_18 | c_18
    · have p_19 := of_decide_eq_true c_18
      refine WL.skip rfl (congrArg Value.bool c_18) rfl ?_
      refine WL.skip rfl (congrArg Value.bool c_18) rfl ?_
      refine WL.skip rfl (congrArg Value.bool c_18) rfl ?_
      refine WL.q (Wn.no rfl) rfl rfl (R.pickT (v := (.bool true)) (congrArg Value.bool c_18) rfl) ?_
      refine WL.nil ?_
      refine thn_n ?_
      refine WP.condT rfl ?_
      refine WP.seq ?_
      refine WP.reg ?_
      refine WL.q (Wn.no rfl) rfl rfl (R.assign (v := (.slice none 0 0)) rfl) ?_
      refine WL.q (Wn.no rfl) rfl rfl (R.assign (v := (vi 4)) rfl) ?_
      refine WL.nil ?_
      refine thn_n ?_
      refine WP.ret ?_
      refine thn_r ?_
      refine inb_r ?_
      refine thn_r ?_
      refine inb_r ?_
      refine thn_r ?_
      refine ret_of Try.results30 (RV.tmp (v := (.slice none 0 0)) rfl (RV.tmp (v := (vi 4)) rfl RV.nil)) ?_
      exact ⟨rfl, h_13.chgS⟩
    · have p_20 := of_decide_eq_false c_18
      refine WL.want rfl (congrArg Value.bool c_18) ?_
      refine WL.q (Wn.no rfl) rfl rfl (R.move (v := (.slice oa k oc)) rfl) ?_
      refine WL.want rfl (congrArg Value.bool c_18) ?_
      refine WL.q (Wn.no rfl) rfl rfl (R.lenS (a := oa) (m := k) rfl rfl Try.underlying40) ?_
      refine WL.want rfl (congrArg Value.bool c_18) ?_
      refine WL.q (Wn.no rfl) rfl rfl (R.bin (v := (.bool (decide ((((k : Nat) : Int) : Int) = 64)))) rfl rfl (bi_eql (r := decide ((((k : Nat) : Int) : Int) = 64)) rfl)) ?_
      refine WL.q (Wn.no rfl) rfl rfl (R.pickF (v := (.bool (decide ((((k : Nat) : Int) : Int) = 64)))) (congrArg Value.bool c_18) rfl) ?_
      refine WL.nil ?_
      refine thn_n ?_
      refine WP.cond (b := decide ((((k : Nat) : Int) : Int) = 64)) rfl (fun c_21 => ?_) (fun c_21 => ?_)
      · have p_22 := of_decide_eq_true c_21
        refine WP.seq ?_
        refine WP.reg ?_
        refine WL.q (Wn.no rfl) rfl rfl (R.assign (v := (.slice none 0 0)) rfl) ?_
        refine WL.q (Wn.no rfl) rfl rfl (R.assign (v := (vi 4)) rfl) ?_
        refine WL.nil ?_
        refine thn_n ?_
        refine WP.ret ?_
        refine thn_r ?_
        refine inb_r ?_
        refine thn_r ?_
        refine inb_r ?_
        refine thn_r ?_
        refine ret_of Try.results30 (RV.tmp (v := (.slice none 0 0)) rfl (RV.tmp (v := (vi 4)) rfl RV.nil)) ?_
        exact ⟨rfl, h_13.chgS⟩
      · have p_23 := of_decide_eq_false c_21
        refine WP.skip ?_
        refine thn_n ?_
        refine WP.seq ?_
        refine WP.reg ?_
        refine WL.q (Wn.no rfl) rfl rfl (R.move (v := (.slice ra z rc)) rfl) ?_
        refine WL.q (Wn.no rfl) rfl rfl (R.sliceS (a := ra) (len := z) (l := 0) (h := 4) rfl EvB.dflt (EvB.it (l := 4) rfl rfl) (by decide) (by omega) Try.underlying23 Try.sizeOf5) ?_
        refine WL.call (al := [(.slice (slA ra 0 rc 1) 4 rc)]) Try.call64 rfl rfl (c_get (slA ra 0 rc 1) 4 rc ((r.drop 0).take 4) (subLen (K := z) hz (by omega) : List.length ((r.drop 0).take 4) = 4) (by omega) _ (View.slM (l := 0) (m := rc) (k := 4) (viewV (h_13.ok _ (.tail _ (.tail _ (.head _))))) (by omega))) rfl ?_
        rintro _ w_25 ⟨rfl, hc_24⟩
        have h_26 := h_13.same hc_24
        have hn4 := Go.Wr.take4_lt r
        refine WL.q (Wn.no rfl) rfl rfl (R.conv (b := ((natLE (r.take 4) : Nat) : Int)) rfl Try.underlying22 Try.underlying3 ((wi64_u _).trans (Go.Wr.take4_int r))) ?_
        refine WL.q (Wn.no rfl) rfl rfl (R.assign (v := (vi ((natLE (r.take 4) : Nat) : Int))) rfl) ?_
        refine WL.nil ?_
        refine thn_n ?_
        refine WP.seq ?_
        refine WP.reg ?_
        refine WL.q (Wn.no rfl) rfl rfl (R.move (v := (.slice ra z rc)) rfl) ?_
        refine WL.q (Wn.no rfl) rfl rfl (R.sliceS (a := ra) (len := z) (l := 4) (h := z) rfl (EvB.it (l := 4) rfl rfl) EvB.dflt (by omega) (by omega) Try.underlying23 Try.sizeOf5) ?_
        have h_27 := HP.viewDrop (m := 4) (q := rc) h_26 (.tail _ (.tail _ (.head _))) (by omega)
        refine WL.q (Wn.no rfl) rfl rfl (R.assign (v := (.slice (slA ra 4 rc 1) (z - 4) (rc - 4))) rfl) ?_
        refine WL.nil ?_
        refine thn_n ?_
        refine WP.seq ?_
        refine WP.seq ?_
        refine WP.reg ?_
        refine WL.q (Wn.no rfl) rfl rfl (R.move (v := (vi ((natLE (r.take 4) : Nat) : Int))) rfl) ?_
        refine WL.q (Wn.no rfl) rfl rfl (R.bin (v := (.bool (decide ((((natLE (r.take 4) : Nat) : Int) : Int) > 65536)))) rfl rfl (bi_gtr (r := decide ((((natLE (r.take 4) : Nat) : Int) : Int) > 65536)) rfl)) ?_
        refine WL.q (Wn.no rfl) rfl rfl (R.move (v := (.bool (decide ((((natLE (r.take 4) : Nat) : Int) : Int) > 65536)))) rfl) ?_
        rcases Bool.eq_false_or_eq_true (decide ((((natLE (r.take 4) : Nat) : Int) : Int) > 65536)) with c_28 | c_28
        · have p_29 := of_decide_eq_true c_28
          refine WL.skip rfl (congrArg Value.bool c_28) rfl ?_
          refine WL.skip rfl (congrArg Value.bool c_28) rfl ?_
          refine WL.skip rfl (congrArg Value.bool c_28) rfl ?_
          refine WL.skip rfl (congrArg Value.bool c_28) rfl ?_
          refine WL.q (Wn.no rfl) rfl rfl (R.pickT (v := (.bool true)) (congrArg Value.bool c_28) rfl) ?_
          refine WL.nil ?_
          refine thn_n ?_
          refine WP.condT rfl ?_
          refine WP.seq ?_
          refine WP.reg ?_
          refine WL.q (Wn.no rfl) rfl rfl (R.assign (v := (.slice none 0 0)) rfl) ?_
          refine WL.q (Wn.no rfl) rfl rfl (R.assign (v := (vi 4)) rfl) ?_
          refine WL.nil ?_
          refine thn_n ?_
          refine WP.ret ?_
          refine thn_r ?_
          refine inb_r ?_
          refine thn_r ?_
          refine inb_r ?_
          refine thn_r ?_
          refine ret_of Try.results30 (RV.tmp (v := (.slice none 0 0)) rfl (RV.tmp (v := (vi 4)) rfl RV.nil)) ?_
          exact ⟨rfl, h_27.chgS⟩
        · have p_30 := of_decide_eq_false c_28
          refine WL.want rfl (congrArg Value.bool c_28) ?_
          refine WL.q (Wn.no rfl) rfl rfl (R.move (v := (vi ((natLE (r.take 4) : Nat) : Int))) rfl) ?_
          refine WL.want rfl (congrArg Value.bool c_28) ?_
          refine WL.q (Wn.no rfl) rfl rfl (R.move (v := (.slice (slA ra 4 rc 1) (z - 4) (rc - 4))) rfl) ?_
          refine WL.want rfl (congrArg Value.bool c_28) ?_
          refine WL.q (Wn.no rfl) rfl rfl (R.lenS (a := slA ra 4 rc 1) (m := z - 4) rfl rfl Try.underlying23) ?_
          refine WL.want rfl (congrArg Value.bool c_28) ?_
          refine WL.q (Wn.no rfl) rfl rfl (R.bin (v := (.bool (decide ((((natLE (r.take 4) : Nat) : Int) : Int) > ((z - 4 : Nat) : Int))))) rfl rfl (bi_gtr (r := decide ((((natLE (r.take 4) : Nat) : Int) : Int) > ((z - 4 : Nat) : Int))) rfl)) ?_
          refine WL.q (Wn.no rfl) rfl rfl (R.pickF (v := (.bool (decide ((((natLE (r.take 4) : Nat) : Int) : Int) > ((z - 4 : Nat) : Int))))) (congrArg Value.bool c_28) rfl) ?_
          refine WL.nil ?_
          refine thn_n ?_
          refine WP.cond (b := decide ((((natLE (r.take 4) : Nat) : Int) : Int) > ((z - 4 : Nat) : Int))) rfl (fun c_31 => ?_) (fun c_31 => ?_)
          · have p_32 := of_decide_eq_true c_31
            refine WP.seq ?_
            refine WP.reg ?_
            refine WL.q (Wn.no rfl) rfl rfl (R.assign (v := (.slice none 0 0)) rfl) ?_
            refine WL.q (Wn.no rfl) rfl rfl (R.assign (v := (vi 4)) rfl) ?_
            refine WL.nil ?_
            refine thn_n ?_
            refine WP.ret ?_
            refine thn_r ?_
            refine inb_r ?_
            refine thn_r ?_
            refine inb_r ?_
            refine thn_r ?_
            refine ret_of Try.results30 (RV.tmp (v := (.slice none 0 0)) rfl (RV.tmp (v := (vi 4)) rfl RV.nil)) ?_
            exact ⟨rfl, h_27.chgS⟩
          · have p_33 := of_decide_eq_false c_31
            refine WP.skip ?_
            refine thn_n ?_
            refine WP.drawT (SL w.heap.size [.view (slA ra 4 rc 1) ((r.drop 4).map vu8), .pin (sblks xs) (fun w => Sls w xs ls), .view ra (r.map vu8), .view a (bs.map vu8)]) (.q 0 (.q 1 (.q 2 (.q 3 (.q 4 (.q 7 (.q 8 (.q 9 (.s 5 (.s 6 (.q 10 (.q 11 .nil)))))))))))) (by kernel_rfl) (by kernel_rfl) rfl (by kernel_rfl) (fun w_34 hc_36 => (SL.cons ((h_27.same hc_36).ok _ (.head _)) (SL.cons ((h_27.same hc_36).ok _ (.tail _ (.tail _ (.head _)))) (SL.cons ((h_27.same hc_36).ok _ (.tail _ (.tail _ (.tail _ (.head _))))) (SL.cons ((h_27.same hc_36).ok _ (.tail _ (.tail _ (.tail _ (.tail _ (.head _)))))) (SL.nil _ _)))))) (fun w_34 hc_36 => ?_)
            have h_35 := h_27.same hc_36
            refine WT.q rfl (Wn.no rfl) rfl rfl (fun wq hS => R.move (v := (.slice oa k oc)) rfl) ?_
            refine WT.q rfl (Wn.no rfl) rfl rfl (fun wq hS => R.move (v := (.slice (slA ra 4 rc 1) (z - 4) (rc - 4))) rfl) ?_
            refine WT.q rfl (Wn.no rfl) rfl rfl (fun wq hS => R.move (v := (vi ((natLE (r.take 4) : Nat) : Int))) rfl) ?_
            refine WT.q rfl (Wn.no rfl) rfl rfl (fun wq hS => R.move (v := (vi ((natLE (r.take 4) : Nat) : Int))) rfl) ?_
            refine WT.q rfl (Wn.no rfl) rfl rfl (fun wq hS => R.sliceS3 (a := slA ra 4 rc 1) (len := z - 4) (l := 0) (h := natLE (r.take 4)) (m := natLE (r.take 4)) rfl EvB.dflt rfl rfl rfl rfl (by omega) (by omega) (by omega) Try.underlying23 Try.sizeOf5) ?_
            refine WT.q rfl (Wn.no rfl) rfl rfl (fun wq hS => R.move (v := (.slice (slA ra 4 rc 1) (z - 4) (rc - 4))) rfl) ?_
            refine WT.q rfl (Wn.no rfl) rfl rfl (fun wq hS => R.move (v := (vi ((natLE (r.take 4) : Nat) : Int))) rfl) ?_
            refine WT.q rfl (Wn.no rfl) rfl rfl (fun wq hS => R.sliceS (a := slA ra 4 rc 1) (len := z - 4) (l := natLE (r.take 4)) (h := z - 4) rfl (EvB.it (l := natLE (r.take 4)) rfl rfl) EvB.dflt (by omega) (by omega) Try.underlying23 Try.sizeOf5) ?_
            refine WT.s ?_
            refine Op1.one rfl (Wn.no rfl) ?_
            refine WL.buildSl (vs := [(0, (.slice (slA (slA ra 4 rc 1) 0 (natLE (r.take 4)) 1) (natLE (r.take 4)) (natLE (r.take 4))))]) (cs := [(.slice (slA (slA ra 4 rc 1) 0 (natLE (r.take 4)) 1) (natLE (r.take 4)) (natLE (r.take 4)))]) h_35 Try.underlying40 Try.sizeOf23 (zv Try.typeInfo23 rfl) rfl rfl (by kernel_rfl) rfl (by simp [Value.oneCell']) rfl rfl (fun b_37 w_38 h_39 => ?_)
            refine WL.nil ?_
            refine ⟨(SL.cons (h_39.ok _ (.tail _ (.head _))) (SL.cons (h_39.ok _ (.tail _ (.tail _ (.tail _ (.head _))))) (SL.cons (h_39.ok _ (.tail _ (.tail _ (.tail _ (.tail _ (.head _)))))) (SL.cons (h_39.ok _ (.tail _ (.tail _ (.tail _ (.tail _ (.tail _ (.head _))))))) (SL.nil _ _))))), ?_⟩
            refine WT.s ?_
            refine Op1.one rfl (Wn.no rfl) ?_
            refine WL.append (km := k + 1) (xs := xs) (ys := [(.slice (slA (slA ra 4 rc 1) 0 (natLE (r.take 4)) 1) (natLE (r.take 4)) (natLE (r.take 4)))]) (zs := xs ++ [(.slice (slA (slA ra 4 rc 1) 0 (natLE (r.take 4)) 1) (natLE (r.take 4)) (natLE (r.take 4)))]) h_39 rfl rfl el40 (viewB (h_39.ok _ (.head _)) Sg.h) rfl (by simp [Value.oneCell']) rfl (by omega) (by omega) (by omega) (fun _ _ => (At.t (At.t At.h))) rfl (fun a_40 c_41 w_42 h_43 => ?_)
            refine WL.nil ?_
            refine ⟨(SL.cons (h_43.ok _ (.tail _ (.head _))) (SL.cons (h_43.ok _ (.tail _ (.tail _ (.tail _ (.head _))))) (SL.cons (h_43.ok _ (.tail _ (.tail _ (.tail _ (.tail _ (.head _)))))) (SL.cons (h_43.ok _ (.tail _ (.tail _ (.tail _ (.tail _ (.tail _ (.head _))))))) (SL.nil _ _))))), ?_⟩
            refine WT.q rfl (Wn.no rfl) rfl rfl (fun wq hS => R.assign (v := (.slice a_40 (k + 1) c_41)) rfl) ?_
            refine WT.q rfl (Wn.no rfl) rfl rfl (fun wq hS => R.assign (v := (.slice (slA (slA ra 4 rc 1) (natLE (r.take 4)) (rc - 4) 1) (z - 4 - (natLE (r.take 4))) (rc - 4 - (natLE (r.take 4))))) rfl) ?_
            refine WT.nil ?_
            refine inb_n ?_
            refine thn_n ?_
            have hf4 : ∀ b ∈ (Ent.view (slA ra 4 rc 1) ((r.drop 4).map vu8)).blocks, w.heap.size ≤ b := fun b hb => hf2 b (view_sl_blocks (l := r) (l' := r.drop 4) (fun h2 => by rintro rfl; exact h2 (by simp)) b hb)
            obtain ⟨h_45, hg1, hg2⟩ := HP.cutPush (n := natLE (r.take 4)) (q := rc - 4) (m := z - 4) h_43 (.tail _ (.tail _ (.tail _ (.head _)))) (.tail _ (.head _)) ((List.length_drop ..).trans (by omega)) (by omega) (by omega) hf1 hf4
            have h_46 := h_45.up (Pick.t (Pick.t Pick.h))
            have h_47 := h_46.drop rfl
            have h_48 := h_47.up (Pick.t (Pick.t Pick.h))
            have h_49 := h_48.drop rfl
            have h_50 := h_49.up (Pick.t (Pick.t (Pick.t Pick.h)))
            have h_51 := h_50.drop rfl
            have h_52 := h_51.up (Pick.t (Pick.t (Pick.t Pick.h)))
            have h_53 := h_52.drop rfl
            have h_54 := h_53.up (Pick.t (Pick.t (Pick.t Pick.h)))
            have h_55 := h_54.up (Pick.t Pick.h)
            have h_56 := h_55.up (Pick.t (Pick.t Pick.h))
            have h_57 := h_56.up (Pick.t (Pick.t (Pick.t Pick.h)))
            exact ⟨(k + 1, a_40, c_41, _, _, slA (slA ra 4 rc 1) (natLE (r.take 4)) (rc - 4) 1, rc - 4 - (natLE (r.take 4)), z - 4 - (natLE (r.take 4)), _), _, (by omega), (Ag.upd rfl (Ag.upd rfl (Ag.upd rfl (Ag.upd rfl (Ag.upd rfl (Ag.upd rfl (Ag.upd rfl (Ag.upd rfl (Ag.upd rfl (Ag.upd rfl (Ag.upd rfl (Ag.upd rfl (Ag.upd rfl (Ag.upd rfl (Ag.upd rfl (Ag.upd rfl (Ag.upd rfl (Ag.upd rfl (Ag.upd rfl (Ag.upd rfl (Ag.upd rfl (Ag.upd rfl (Ag.upd rfl (Ag.upd rfl (Ag.upd rfl (Ag.upd rfl (Ag.upd rfl (Ag.upd rfl (Ag.upd rfl (Ag.upd rfl (Ag.upd rfl (Ag.upd rfl (Ag.upd rfl (Ag.upd rfl (Ag.upd rfl (Ag.upd rfl (Ag.upd rfl (Ag.upd rfl (Ag.upd rfl (Ag.updL rfl (Ag.mix _ _ _))))))))))))))))))))))))))))))))))))))))), ⟨rfl, rfl, trivial⟩, h_57, (by omega), (by rw [List.length_drop, List.length_drop]; omega), (by omega), (by omega), (by rw [List.length_append, hkl]; rfl), hg1, hg2, (Go.Wr.unpk_next (c := 64 - k) hsp (by omega) (by omega) rfl (by omega) (by omega)), rfl⟩
  · have p_58 := of_decide_eq_false c_16
    refine WP.exit ?_
    refine thn_x ?_
    refine thn_x ?_
    refine inb_hit ?_
    refine thn_n ?_
    refine WP.seq ?_
    refine WP.reg ?_
    refine WL.q (Wn.no rfl) rfl rfl (R.move (v := (.slice oa k oc)) rfl) ?_
    refine WL.q (Wn.no rfl) rfl rfl (R.assign (v := (.slice oa k oc)) rfl) ?_
    refine WL.q (Wn.no rfl) rfl rfl (R.assign (v := (vi 0)) rfl) ?_
    refine WL.nil ?_
    refine thn_n ?_
    refine WP.ret ?_
    refine ret_of Try.results30 (RV.tmp (v := (.slice oa k oc)) rfl (RV.tmp (v := (vi 0)) rfl RV.nil)) ?_
    have hd := (Go.Wr.unpk_done hsp (by omega))
    rw [hd] at hx; cases hx

theorem c_UnpackR_t (a : Option Addr) (n cap : Nat) (bs : List UInt8) (hl : bs.length = n) (hn : n ≤ 1099511627776) (hcap : n ≤ cap) (lr : List (List UInt8)) (hx : Go.Wr.unpk 64 bs = some lr) (w : World) (hv : View w a (bs.map vu8)) :
    Cs Try.prog 31 [(.slice a n cap)].toArray w (fun v w1 => ∃ a1 c1 xs, v = .tuple [.slice a1 lr.length c1, .bool true].toArray ∧ Chg w w1 [] ∧ View w1 a1 xs ∧ Sls w1 xs lr ∧ (∀ b ∈ (Ent.view a1 xs).blocks, w.heap.size ≤ b) ∧ ∀ b ∈ sblks xs, b ∈ (Ent.view a (bs.map vu8)).blocks) := by
  refine Cs.of (n := 53) (args := [(.slice a n cap)]) Try.func31 rfl rfl rfl ?_
  have h_0 := HP.init w
  have h_00 := h_0.old (View.arg hv) (fun f hf => by cases hf)
  refine WP.seq ?_
  refine WP.reg ?_
  refine WL.q (Wn.no rfl) rfl rfl (R.assign (v := (.slice none 0 0)) rfl) ?_
  refine WL.q (Wn.no rfl) rfl rfl (R.assign (v := (.bool false)) rfl) ?_
  refine WL.nil ?_
  refine thn_n ?_
  refine WP.seq ?_
  refine WP.reg ?_
  refine WL.q (Wn.no rfl) rfl rfl (R.assign (v := (.slice none 0 0)) rfl) ?_
  refine WL.nil ?_
  refine thn_n ?_
  refine WP.seq ?_
  refine WP.seq ?_
  refine WP.reg ?_
  refine WL.q (Wn.no rfl) rfl rfl (R.assign (v := (vi 0)) rfl) ?_
  refine WL.nil ?_
  refine thn_n ?_
  refine WP.block ?_
  have h_1 := h_00.slsNil
  have h_2 := h_1.rowNil 23 1
  refine WP.loopG (G := Nat × Option Addr × Nat × List Value × List (List UInt8) × Nat) [2, 3, 4, 5, 6, 7, 8, 9, 10, 11, 12, 13, 14, 15, 16, 17, 18, 19, 20, 21, 22, 23, 24, 25, 26, 27, 28, 29, 30, 31, 32, 33, 34, 35, 36, 37, 38, 39, 40, 41, 42, 43, 44, 45, 46, 47, 48, 49, 50, 51] (fun (k, oa, oc, xs, ls, p) => [(4, (.slice oa k oc)), (5, (vi ((p : Nat) : Int)))]) (fun (k, oa, oc, xs, ls, p) m w1 => HP w w1 [.row oa k oc 23 1 xs, .pin (sblks xs) (fun w => Sls w xs ls), .view a (bs.map vu8)] ∧ (k ≤ 64) ∧ (p ≤ n) ∧ (ls.length = k) ∧ (∀ b ∈ sblks xs, b ∈ (Ent.view a (bs.map vu8)).blocks) ∧ (Go.Wr.unpk 64 bs = (Go.Wr.unpk (64 - k) (bs.drop p)).map (ls ++ ·)) ∧ m = n - p) ⟨(0, none, 0, [], [], 0), _, ⟨rfl, rfl, trivial⟩, h_2, (by omega), (by omega), rfl, (fun b hb => by cases hb), (by rw [Nat.sub_zero, List.drop_zero]; cases Go.Wr.unpk 64 bs <;> simp), rfl⟩ ?_
  rintro ⟨k, oa, oc, xs, ls, p⟩ m_5 J_6 w_3 ⟨h_4, hk, hp, hkl, hf1, hsp, rfl⟩
  have hld : (bs.drop p).length = n - p := by rw [List.length_drop, hl]
  refine WP.seq ?_
  refine WP.seq ?_
  refine WP.reg ?_
  refine WL.q (Wn.no rfl) rfl rfl (R.move (v := (vi ((p : Nat) : Int))) rfl) ?_
  refine WL.q (Wn.no rfl) rfl rfl (R.move (v := (.slice a n cap)) rfl) ?_
  refine WL.q (Wn.no rfl) rfl rfl (R.lenS (a := a) (m := n) rfl rfl Try.underlying23) ?_
  refine WL.q (Wn.no rfl) rfl rfl (R.bin (v := (.bool (decide ((((p : Nat) : Int) : Int) < ((n : Nat) : Int))))) rfl rfl (bi_lss (r := decide ((((p : Nat) : Int) : Int) < ((n : Nat) : Int))) rfl)) ?_
  refine WL.nil ?_
  refine thn_n ?_
  refine WP.cond (b := decide ((((p : Nat) : Int) : Int) < ((n : Nat) : Int))) rfl (fun c_7 => ?_) (fun c_7 => ?_)
  · have p_8 := of_decide_eq_true c_7
    refine WP.skip ?_
    refine thn_n ?_
    refine WP.block ?_
    refine WP.seq ?_
    refine WP.seq ?_
    refine WP.reg ?_
    refine WL.q (Wn.no rfl) rfl rfl (R.move (v := (.slice a n cap)) rfl) ?_
    refine WL.q (Wn.no rfl) rfl rfl (R.lenS (a := a) (m := n) rfl rfl Try.underlying23) ?_
    refine WL.q (Wn.no rfl) rfl rfl (R.move (v := (vi ((p : Nat) : Int))) rfl) ?_
    refine WL.q (Wn.no rfl) rfl rfl (R.bin (v := (vi ((n - p : Nat) : Int))) rfl rfl (bi_sub (c := ((n - p : Nat) : Int)) (by omega) (by omega))) ?_
    refine WL.q (Wn.no rfl) rfl rfl (R.bin (v := (.bool (decide ((((n - p : Nat) : Int) : Int) < 4)))) rfl rfl (bi_lss (r := decide ((((n - p : Nat) : Int) : Int) < 4)) rfl)) ?_
    refine WL.q (Wn.no rfl) rfl rfl (R.move (v := (.bool (decide ((((n - p : Nat) : Int) : Int) < 4)))) rfl) ?_
    rcases Bool.eq_false_or_eq_true (decide ((((n - p : Nat) : Int) : Int) < 4)) with c_9 | c_9
    · have p_10 := of_decide_eq_true c_9
      refine WL.skip rfl (congrArg Value.bool c_9) rfl ?_
      refine WL.skip rfl (congrArg Value.bool c_9) rfl ?_
      refine WL.skip rfl (congrArg Value.bool c_9) rfl ?_
      refine WL.q (Wn.no rfl) rfl rfl (R.pickT (v := (.bool true)) (congrArg Value.bool c_9) rfl) ?_
      refine WL.nil ?_
      refine thn_n ?_
      refine WP.condT rfl ?_
      refine WP.seq ?_
      refine WP.reg ?_
      refine WL.q (Wn.no rfl) rfl rfl (R.assign (v := (.slice none 0 0)) rfl) ?_
      refine WL.q (Wn.no rfl) rfl rfl (R.assign (v := (.bool false)) rfl) ?_
      refine WL.nil ?_
      refine thn_n ?_
      refine WP.ret ?_
      refine thn_r ?_
      refine inb_r ?_
      refine thn_r ?_
      refine inb_r ?_
      refine thn_r ?_
      refine ret_of Try.results31 (RV.tmp (v := (.slice none 0 0)) rfl (RV.tmp (v := (.bool false)) rfl RV.nil)) ?_
      have hp_11 := p_8
      have hp_12 := p_10
      have hb := Go.Wr.unpk_none hsp (Go.Wr.unpk_bad (by omega) (by omega))
      rw [hx] at hb; cases hb
    · have p_13 := of_decide_eq_false c_9
      refine WL.want rfl (congrArg Value.bool c_9) ?_
      refine WL.q (Wn.no rfl) rfl rfl (R.move (v := (.slice oa k oc)) rfl) ?_
      refine WL.want rfl (congrArg Value.bool c_9) ?_
      refine WL.q (Wn.no rfl) rfl rfl (R.lenS (a := oa) (m := k) rfl rfl Try.underlying40) ?_
      refine WL.want rfl (congrArg Value.bool c_9) ?_
      refine WL.q (Wn.no rfl) rfl rfl (R.bin (v := (.bool (decide ((((k : Nat) : Int) : Int) = 64)))) rfl rfl (bi_eql (r := decide ((((k : Nat) : Int) : Int) = 64)) rfl)) ?_
      refine WL.q (Wn.no rfl) rfl rfl (R.pickF (v := (.bool (decide ((((k : Nat) : Int) : Int) = 64)))) (congrArg Value.bool c_9) rfl) ?_
      refine WL.nil ?_
      refine thn_n ?_
      refine WP.cond (b := decide ((((k : Nat) : Int) : Int) = 64)) rfl (fun c_14 => ?_) (fun c_14 => ?_)
      · have p_15 := of_decide_eq_true c_14
        refine WP.seq ?_
        refine WP.reg ?_
        refine WL.q (Wn.no rfl) rfl rfl (R.assign (v := (.slice none 0 0)) rfl) ?_
        refine WL.q (Wn.no rfl) rfl rfl (R.assign (v := (.bool false)) rfl) ?_
        refine WL.nil ?_
        refine thn_n ?_
        refine WP.ret ?_
        refine thn_r ?_
        refine inb_r ?_
        refine thn_r ?_
        refine inb_r ?_
        refine thn_r ?_
        refine ret_of Try.results31 (RV.tmp (v := (.slice none 0 0)) rfl (RV.tmp (v := (.bool false)) rfl RV.nil)) ?_
        have hp_16 := p_8
        have hp_17 := p_13
        have hp_18 := p_15
        have hb := Go.Wr.unpk_none hsp (Go.Wr.unpk_bad (by omega) (by omega))
        rw [hx] at hb; cases hb
      · have p_19 := of_decide_eq_false c_14
        refine WP.skip ?_
        refine thn_n ?_
        refine WP.seq ?_
        refine WP.reg ?_
        refine WL.q (Wn.no rfl) rfl rfl (R.move (v := (.slice a n cap)) rfl) ?_
        refine WL.q (Wn.no rfl) rfl rfl (R.move (v := (vi ((p : Nat) : Int))) rfl) ?_
        refine WL.q (Wn.no rfl) rfl rfl (R.move (v := (vi ((p : Nat) : Int))) rfl) ?_
        refine WL.q (Wn.no rfl) rfl rfl (R.bin (v := (vi ((p + 4 : Nat) : Int))) rfl rfl (bi_add (c := ((p + 4 : Nat) : Int)) (by omega) (by omega))) ?_
        refine WL.q (Wn.no rfl) rfl rfl (R.sliceS (a := a) (len := n) (l := p) (h := p + 4) rfl (EvB.it (l := p) rfl rfl) (EvB.it (l := p + 4) rfl rfl) (by omega) (by omega) Try.underlying23 Try.sizeOf5) ?_
        refine WL.call (al := [(.slice (slA a p cap 1) (p + 4 - p) (cap - p))]) Try.call23 rfl rfl (c_GetR (slA a p cap 1) (p + 4 - p) (cap - p) ((bs.drop p).take (p + 4 - p)) (subLen (K := n) hl (by omega) : List.length ((bs.drop p).take (p + 4 - p)) = p + 4 - p) (by omega) _ (View.slM (l := p) (m := cap) (k := p + 4 - p) (viewV (h_4.ok _ (.tail _ (.tail _ (.head _))))) (by omega))) rfl ?_
        rintro _ w_21 ⟨rfl, hc_20⟩
        have h_22 := h_4.same hc_20
        have hn4 := Go.Wr.take4_lt (bs.drop p)
        refine WL.q (Wn.no rfl) rfl rfl (R.conv (b := ((natLE ((bs.drop p).take 4) : Nat) : Int)) rfl Try.underlying22 Try.underlying3 ((wi64_u _).trans (Go.Wr.take4_int' (bs.drop p) (by omega)))) ?_
        refine WL.q (Wn.no rfl) rfl rfl (R.assign (v := (vi ((natLE ((bs.drop p).take 4) : Nat) : Int))) rfl) ?_
        refine WL.nil ?_
        refine thn_n ?_
        refine WP.seq ?_
        refine WP.reg ?_
        refine WL.q (Wn.no rfl) rfl rfl (R.move (v := (vi ((p : Nat) : Int))) rfl) ?_
        refine WL.q (Wn.no rfl) rfl rfl (R.bin (v := (vi ((p + 4 : Nat) : Int))) rfl rfl (bi_add (c := ((p + 4 : Nat) : Int)) (by omega) (by omega))) ?_
        refine WL.q (Wn.no rfl) rfl rfl (R.assign (v := (vi ((p + 4 : Nat) : Int))) rfl) ?_
        refine WL.nil ?_
        refine thn_n ?_
        refine WP.seq ?_
        refine WP.seq ?_
        refine WP.reg ?_
        refine WL.q (Wn.no rfl) rfl rfl (R.move (v := (vi ((natLE ((bs.drop p).take 4) : Nat) : Int))) rfl) ?_
        refine WL.q (Wn.no rfl) rfl rfl (R.bin (v := (.bool (decide ((((natLE ((bs.drop p).take 4) : Nat) : Int) : Int) > 65536)))) rfl rfl (bi_gtr (r := decide ((((natLE ((bs.drop p).take 4) : Nat) : Int) : Int) > 65536)) rfl)) ?_
        refine WL.q (Wn.no rfl) rfl rfl (R.move (v := (.bool (decide ((((natLE ((bs.drop p).take 4) : Nat) : Int) : Int) > 65536)))) rfl) ?_
        rcases Bool.eq_false_or_eq_true (decide ((((natLE ((bs.drop p).take 4) : Nat) : Int) : Int) > 65536)) with c_23 | c_23
        · have p_24 := of_decide_eq_true c_23
          refine WL.skip rfl (congrArg Value.bool c_23) rfl ?_
          refine WL.skip rfl (congrArg Value.bool c_23) rfl ?_
          refine WL.skip rfl (congrArg Value.bool c_23) rfl ?_
          refine WL.skip rfl (congrArg Value.bool c_23) rfl ?_
          refine WL.skip rfl (congrArg Value.bool c_23) rfl ?_
          refine WL.skip rfl (congrArg Value.bool c_23) rfl ?_
          refine WL.q (Wn.no rfl) rfl rfl (R.pickT (v := (.bool true)) (congrArg Value.bool c_23) rfl) ?_
          refine WL.nil ?_
          refine thn_n ?_
          refine WP.condT rfl ?_
          refine WP.seq ?_
          refine WP.reg ?_
          refine WL.q (Wn.no rfl) rfl rfl (R.assign (v := (.slice none 0 0)) rfl) ?_
          refine WL.q (Wn.no rfl) rfl rfl (R.assign (v := (.bool false)) rfl) ?_
          refine WL.nil ?_
          refine thn_n ?_
          refine WP.ret ?_
          refine thn_r ?_
          refine inb_r ?_
          refine thn_r ?_
          refine inb_r ?_
          refine thn_r ?_
          refine ret_of Try.results31 (RV.tmp (v := (.slice none 0 0)) rfl (RV.tmp (v := (.bool false)) rfl RV.nil)) ?_
          have hp_25 := p_8
          have hp_26 := p_13
          have hp_27 := p_19
          have hp_28 := p_24
          have hb := Go.Wr.unpk_none hsp (Go.Wr.unpk_big (by omega) (by omega))
          rw [hx] at hb; cases hb
        · have p_29 := of_decide_eq_false c_23
          refine WL.want rfl (congrArg Value.bool c_23) ?_
          refine WL.q (Wn.no rfl) rfl rfl (R.move (v := (vi ((natLE ((bs.drop p).take 4) : Nat) : Int))) rfl) ?_
          refine WL.want rfl (congrArg Value.bool c_23) ?_
          refine WL.q (Wn.no rfl) rfl rfl (R.move (v := (.slice a n cap)) rfl) ?_
          refine WL.want rfl (congrArg Value.bool c_23) ?_
          refine WL.q (Wn.no rfl) rfl rfl (R.lenS (a := a) (m := n) rfl rfl Try.underlying23) ?_
          refine WL.want rfl (congrArg Value.bool c_23) ?_
          refine WL.q (Wn.no rfl) rfl rfl (R.move (v := (vi ((p + 4 : Nat) : Int))) rfl) ?_
          refine WL.want rfl (congrArg Value.bool c_23) ?_
          refine WL.q (Wn.no rfl) rfl rfl (R.bin (v := (vi ((n - (p + 4) : Nat) : Int))) rfl rfl (bi_sub (c := ((n - (p + 4) : Nat) : Int)) (by omega) (by omega))) ?_
          refine WL.want rfl (congrArg Value.bool c_23) ?_
          refine WL.q (Wn.no rfl) rfl rfl (R.bin (v := (.bool (decide ((((natLE ((bs.drop p).take 4) : Nat) : Int) : Int) > ((n - (p + 4) : Nat) : Int))))) rfl rfl (bi_gtr (r := decide ((((natLE ((bs.drop p).take 4) : Nat) : Int) : Int) > ((n - (p + 4) : Nat) : Int))) rfl)) ?_
          refine WL.q (Wn.no rfl) rfl rfl (R.pickF (v := (.bool (decide ((((natLE ((bs.drop p).take 4) : Nat) : Int) : Int) > ((n - (p + 4) : Nat) : Int))))) (congrArg Value.bool c_23) rfl) ?_
          refine WL.nil ?_
          refine thn_n ?_
          refine WP.cond (b := decide ((((natLE ((bs.drop p).take 4) : Nat) : Int) : Int) > ((n - (p + 4) : Nat) : Int))) rfl (fun c_30 => ?_) (fun c_30 => ?_)
          · have p_31 := of_decide_eq_true c_30
            refine WP.seq ?_
            refine WP.reg ?_
            refine WL.q (Wn.no rfl) rfl rfl (R.assign (v := (.slice none 0 0)) rfl) ?_
            refine WL.q (Wn.no rfl) rfl rfl (R.assign (v := (.bool false)) rfl) ?_
            refine WL.nil ?_
            refine thn_n ?_
            refine WP.ret ?_
            refine thn_r ?_
            refine inb_r ?_
            refine thn_r ?_
            refine inb_r ?_
            refine thn_r ?_
            refine ret_of Try.results31 (RV.tmp (v := (.slice none 0 0)) rfl (RV.tmp (v := (.bool false)) rfl RV.nil)) ?_
            have hp_32 := p_8
            have hp_33 := p_13
            have hp_34 := p_19
            have hp_35 := p_29
            have hp_36 := p_31
            have hb := Go.Wr.unpk_none hsp (Go.Wr.unpk_big (by omega) (by omega))
            rw [hx] at hb; cases hb
          · have p_37 := of_decide_eq_false c_30
            refine WP.skip ?_
            refine thn_n ?_
            refine WP.seq ?_
            refine WP.reg ?_
            refine WL.q (Wn.no rfl) rfl rfl (R.move (v := (.slice oa k oc)) rfl) ?_
            refine WL.q (Wn.no rfl) rfl rfl (R.move (v := (.slice a n cap)) rfl) ?_
            refine WL.q (Wn.no rfl) rfl rfl (R.move (v := (vi ((p + 4 : Nat) : Int))) rfl) ?_
            refine WL.q (Wn.no rfl) rfl rfl (R.move (v := (vi ((p + 4 : Nat) : Int))) rfl) ?_
            refine WL.q (Wn.no rfl) rfl rfl (R.move (v := (vi ((natLE ((bs.drop p).take 4) : Nat) : Int))) rfl) ?_
            refine WL.q (Wn.no rfl) rfl rfl (R.bin (v := (vi ((p + 4 + (natLE ((bs.drop p).take 4)) : Nat) : Int))) rfl rfl (bi_add (c := ((p + 4 + (natLE ((bs.drop p).take 4)) : Nat) : Int)) (by omega) (by omega))) ?_
            refine WL.q (Wn.no rfl) rfl rfl (R.sliceS (a := a) (len := n) (l := p + 4) (h := p + 4 + (natLE ((bs.drop p).take 4))) rfl (EvB.it (l := p + 4) rfl rfl) (EvB.it (l := p + 4 + (natLE ((bs.drop p).take 4))) rfl rfl) (by omega) (by omega) Try.underlying23 Try.sizeOf5) ?_
            refine WL.buildSl (vs := [(0, (.slice (slA a (p + 4) cap 1) (p + 4 + (natLE ((bs.drop p).take 4)) - (p + 4)) (cap - (p + 4))))]) (cs := [(.slice (slA a (p + 4) cap 1) (p + 4 + (natLE ((bs.drop p).take 4)) - (p + 4)) (cap - (p + 4)))]) h_22 Try.underlying40 Try.sizeOf23 (zv Try.typeInfo23 rfl) rfl rfl (by kernel_rfl) rfl (by simp [Value.oneCell']) rfl rfl (fun b_38 w_39 h_40 => ?_)
            refine WL.append (km := k + 1) (xs := xs) (ys := [(.slice (slA a (p + 4) cap 1) (p + 4 + (natLE ((bs.drop p).take 4)) - (p + 4)) (cap - (p + 4)))]) (zs := xs ++ [(.slice (slA a (p + 4) cap 1) (p + 4 + (natLE ((bs.drop p).take 4)) - (p + 4)) (cap - (p + 4)))]) h_40 rfl rfl el40 (viewB (h_40.ok _ (.head _)) Sg.h) rfl (by simp [Value.oneCell']) rfl (by omega) (by omega) (by omega) (fun _ _ => (At.t At.h)) rfl (fun a_41 c_42 w_43 h_44 => ?_)
            refine WL.q (Wn.no rfl) rfl rfl (R.assign (v := (.slice a_41 (k + 1) c_42)) rfl) ?_
            refine WL.nil ?_
            refine thn_n ?_
            refine WP.reg ?_
            refine WL.q (Wn.no rfl) rfl rfl (R.move (v := (vi ((p + 4 : Nat) : Int))) rfl) ?_
            refine WL.q (Wn.no rfl) rfl rfl (R.move (v := (vi ((natLE ((bs.drop p).take 4) : Nat) : Int))) rfl) ?_
            refine WL.q (Wn.no rfl) rfl rfl (R.bin (v := (vi ((p + 4 + (natLE ((bs.drop p).take 4)) : Nat) : Int))) rfl rfl (bi_add (c := ((p + 4 + (natLE ((bs.drop p).take 4)) : Nat) : Int)) (by omega) (by omega))) ?_
            refine WL.q (Wn.no rfl) rfl rfl (R.assign (v := (vi ((p + 4 + (natLE ((bs.drop p).take 4)) : Nat) : Int))) rfl) ?_
            refine WL.nil ?_
            refine inb_n ?_
            refine thn_n ?_
            obtain ⟨h_45, hg1⟩ := HP.partPush (i := p + 4) (q := cap) (k := p + 4 + (natLE ((bs.drop p).take 4)) - (p + 4)) (c := cap - (p + 4)) h_44 (.tail _ (.tail _ (.head _))) (.tail _ (.tail _ (.tail _ (.head _)))) hl (by omega) (by omega) (by omega) hf1
            have h_46 := h_45.up (Pick.t Pick.h)
            have h_47 := h_46.drop rfl
            have h_48 := h_47.up (Pick.t (Pick.t Pick.h))
            have h_49 := h_48.drop rfl
            have h_50 := h_49.up (Pick.t (Pick.t Pick.h))
            have h_51 := h_50.up (Pick.t Pick.h)
            have h_52 := h_51.up (Pick.t (Pick.t Pick.h))
            exact ⟨(k + 1, a_41, c_42, _, _, p + 4 + (natLE ((bs.drop p).take 4))), _, (by omega), (Ag.upd rfl (Ag.upd rfl (Ag.upd rfl (Ag.upd rfl (Ag.upd rfl (Ag.upd rfl (Ag.upd rfl (Ag.upd rfl (Ag.upd rfl (Ag.upd rfl (Ag.upd rfl (Ag.upd rfl (Ag.upd rfl (Ag.upd rfl (Ag.upd rfl (Ag.upd rfl (Ag.upd rfl (Ag.upd rfl (Ag.upd rfl (Ag.upd rfl (Ag.upd rfl (Ag.upd rfl (Ag.upd rfl (Ag.upd rfl (Ag.upd rfl (Ag.upd rfl (Ag.upd rfl (Ag.upd rfl (Ag.upd rfl (Ag.upd rfl (Ag.upd rfl (Ag.upd rfl (Ag.upd rfl (Ag.upd rfl (Ag.upd rfl (Ag.upd rfl (Ag.upd rfl (Ag.upd rfl (Ag.upd rfl (Ag.upd rfl (Ag.upd rfl (Ag.upd rfl (Ag.upd rfl (Ag.upd rfl (Ag.upd rfl (Ag.upd rfl (Ag.upd rfl (Ag.upd rfl (Ag.upd rfl (Ag.updL rfl (Ag.mix _ _ _))))))))))))))))))))))))))))))))))))))))))))))))))), ⟨rfl, rfl, trivial⟩, h_52, (by omega), (by omega), (by rw [List.length_append, hkl]; rfl), hg1, (Go.Wr.unpk_nextR (c := 64 - k) hsp (by omega) (by omega) rfl (by omega) (by omega) (by omega)), rfl⟩
  · have p_53 := of_decide_eq_false c_7
    refine WP.exit ?_
    refine thn_x ?_
    refine thn_x ?_
    refine inb_hit ?_
    refine thn_n ?_
    refine WP.seq ?_
    refine WP.reg ?_
    refine WL.q (Wn.no rfl) rfl rfl (R.move (v := (.slice oa k oc)) rfl) ?_
    refine WL.q (Wn.no rfl) rfl rfl (R.assign (v := (.slice oa k oc)) rfl) ?_
    refine WL.q (Wn.no rfl) rfl rfl (R.assign (v := (.bool true)) rfl) ?_
    refine WL.nil ?_
    refine thn_n ?_
    refine WP.ret ?_
    refine ret_of Try.results31 (RV.tmp (v := (.slice oa k oc)) rfl (RV.tmp (v := (.bool true)) rfl RV.nil)) ?_
    have hd := (Go.Wr.unpk_done hsp (by omega))
    rw [hd] at hx; obtain rfl := Option.some.inj hx
    refine ⟨oa, oc, xs, by rw [hkl]; rfl, h_4.chgS, (ownView (h_4.ok _ (.head _))), (h_4.ok _ (.tail _ (.head _))).1, (Own.blk (h_4.own (.head _))), hf1⟩

theorem c_UnpackR_f (a : Option Addr) (n cap : Nat) (bs : List UInt8) (hl : bs.length = n) (hn : n ≤ 1099511627776) (hcap : n ≤ cap) (hx : Go.Wr.unpk 64 bs = none) (w : World) (hv : View w a (bs.map vu8)) :
    Cs Try.prog 31 [(.slice a n cap)].toArray w (fun v w1 => v = (.tuple [(.slice none 0 0), (.bool false)].toArray) ∧ Chg w w1 []) := by
  refine Cs.of (n := 53) (args := [(.slice a n cap)]) Try.func31 rfl rfl rfl ?_
  have h_0 := HP.init w
  have h_00 := h_0.old (View.arg hv) (fun f hf => by cases hf)
  refine WP.seq ?_
  refine WP.reg ?_
  refine WL.q (Wn.no rfl) rfl rfl (R.assign (v := (.slice none 0 0)) rfl) ?_
  refine WL.q (Wn.no rfl) rfl rfl (R.assign (v := (.bool false)) rfl) ?_
  refine WL.nil ?_
  refine thn_n ?_
  refine WP.seq ?_
  refine WP.reg ?_
  refine WL.q (Wn.no rfl) rfl rfl (R.assign (v := (.slice none 0 0)) rfl) ?_
  refine WL.nil ?_
  refine thn_n ?_
  refine WP.seq ?_
  refine WP.seq ?_
  refine WP.reg ?_
  refine WL.q (Wn.no rfl) rfl rfl (R.assign (v := (vi 0)) rfl) ?_
  refine WL.nil ?_
  refine thn_n ?_
  refine WP.block ?_
  have h_1 := h_00.slsNil
  have h_2 := h_1.rowNil 23 1
  refine WP.loopG (G := Nat × Option Addr × Nat × List Value × List (List UInt8) × Nat) [2, 3, 4, 5, 6, 7, 8, 9, 10, 11, 12, 13, 14, 15, 16, 17, 18, 19, 20, 21, 22, 23, 24, 25, 26, 27, 28, 29, 30, 31, 32, 33, 34, 35, 36, 37, 38, 39, 40, 41, 42, 43, 44, 45, 46, 47, 48, 49, 50, 51] (fun (k, oa, oc, xs, ls, p) => [(4, (.slice oa k oc)), (5, (vi ((p : Nat) : Int)))]) (fun (k, oa, oc, xs, ls, p) m w1 => HP w w1 [.row oa k oc 23 1 xs, .pin (sblks xs) (fun w => Sls w xs ls), .view a (bs.map vu8)] ∧ (k ≤ 64) ∧ (p ≤ n) ∧ (ls.length = k) ∧ (∀ b ∈ sblks xs, b ∈ (Ent.view a (bs.map vu8)).blocks) ∧ (Go.Wr.unpk 64 bs = (Go.Wr.unpk (64 - k) (bs.drop p)).map (ls ++ ·)) ∧ m = n - p) ⟨(0, none, 0, [], [], 0), _, ⟨rfl, rfl, trivial⟩, h_2, (by omega), (by omega), rfl, (fun b hb => by cases hb), (by rw [Nat.sub_zero, List.drop_zero]; cases Go.Wr.unpk 64 bs <;> simp), rfl⟩ ?_
  rintro ⟨k, oa, oc, xs, ls, p⟩ m_5 J_6 w_3 ⟨h_4, hk, hp, hkl, hf1, hsp, rfl⟩
  have hld : (bs.drop p).length = n - p := by rw [List.length_drop, hl]
  refine WP.seq ?_
  refine WP.seq ?_
  refine WP.reg ?_
  refine WL.q (Wn.no rfl) rfl rfl (R.move (v := (vi ((p : Nat) : Int))) rfl) ?_
  refine WL.q (Wn.no rfl) rfl rfl (R.move (v := (.slice a n cap)) rfl) ?_
  refine WL.q (Wn.no rfl) rfl rfl (R.lenS (a := a) (m := n) rfl rfl Try.underlying23) ?_
  refine WL.q (Wn.no rfl) rfl rfl (R.bin (v := (.bool (decide ((((p : Nat) : Int) : Int) < ((n : Nat) : Int))))) rfl rfl (bi_lss (r := decide ((((p : Nat) : Int) : Int) < ((n : Nat) : Int))) rfl)) ?_
  refine WL.nil ?_
  refine thn_n ?_
  refine WP.cond (b := decide ((((p : Nat) : Int) : Int) < ((n : Nat) : Int))) rfl (fun c_7 => ?_) (fun c_7 => ?_)
  · have p_8 := of_decide_eq_true c_7
    refine WP.skip ?_
    refine thn_n ?_
    refine WP.block ?_
    refine WP.seq ?_
    refine WP.seq ?_
    refine WP.reg ?_
    refine WL.q (Wn.no rfl) rfl rfl (R.move (v := (.slice a n cap)) rfl) ?_
    refine WL.q (Wn.no rfl) rfl rfl (R.lenS (a := a) (m := n) rfl rfl Try.underlying23) ?_
    refine WL.q (Wn.no rfl) rfl rfl (R.move (v := (vi ((p : Nat) : Int))) rfl) ?_
    refine WL.q (Wn.no rfl) rfl rfl (R.bin (v := (vi ((n - p : Nat) : Int))) rfl rfl (bi_sub (c := ((n - p : Nat) : Int)) (by omega) (by omega))) ?_
    refine WL.q (Wn.no rfl) rfl rfl (R.bin (v := (.bool (decide ((((n - p : Nat) : Int) : Int) < 4)))) rfl rfl (bi_lss (r := decide ((((n - p : Nat) : Int) : Int) < 4)) rfl)) ?_
    refine WL.q (Wn.no rfl) rfl rfl (R.move (v := (.bool (decide ((((n - p : Nat) : Int) : Int) < 4)))) rfl) ?_
    rcases Bool.eq_false_or_eq_true (decide ((((n - p : Nat) : Int) : Int) < 4)) with c_9 | c_9
    · have p_10 := of_decide_eq_true c_9
      refine WL.skip rfl (congrArg Value.bool c_9) rfl ?_
      refine WL.skip rfl (congrArg Value.bool c_9) rfl ?_
      refine WL.skip rfl (congrArg Value.bool c_9) rfl ?_
      refine WL.q (Wn.no rfl) rfl rfl (R.pickT (v := (.bool true)) (congrArg Value.bool c_9) rfl) ?_
      refine WL.nil ?_
      refine thn_n ?_
      refine WP.condT rfl ?_
      refine WP.seq ?_
      refine WP.reg ?_
      refine WL.q (Wn.no rfl) rfl rfl (R.assign (v := (.slice none 0 0)) rfl) ?_
      refine WL.q (Wn.no rfl) rfl rfl (R.assign (v := (.bool false)) rfl) ?_
      refine WL.nil ?_
      refine thn_n ?_
      refine WP.ret ?_
      refine thn_r ?_
      refine inb_r ?_
      refine thn_r ?_
      refine inb_r ?_
      refine thn_r ?_
      refine ret_of Try.results31 (RV.tmp (v := (.slice none 0 0)) rfl (RV.tmp (v := (.bool false)) rfl RV.nil)) ?_
      exact ⟨rfl, h_4.chgS⟩
    · have p_11 := of_decide_eq_false c_9
      refine WL.want rfl (congrArg Value.bool c_9) ?_
      refine WL.q (Wn.no rfl) rfl rfl (R.move (v := (.slice oa k oc)) rfl) ?_
      refine WL.want rfl (congrArg Value.bool c_9) ?_
      refine WL.q (Wn.no rfl) rfl rfl (R.lenS (a := oa) (m := k) rfl rfl Try.underlying40) ?_
      refine WL.want rfl (congrArg Value.bool c_9) ?_
      refine WL.q (Wn.no rfl) rfl rfl (R.bin (v := (.bool (decide ((((k : Nat) : Int) : Int) = 64)))) rfl rfl (bi_eql (r := decide ((((k : Nat) : Int) : Int) = 64)) rfl)) ?_
      refine WL.q (Wn.no rfl) rfl rfl (R.pickF (v := (.bool (decide ((((k : Nat) : Int) : Int) = 64)))) (congrArg Value.bool c_9) rfl) ?_
      refine WL.nil ?_
      refine thn_n ?_
      refine WP.cond (b := decide ((((k : Nat) : Int) : Int) = 64)) rfl (fun c_12 => ?_) (fun c_12 => ?_)
      · have p_13 := of_decide_eq_true c_12
        refine WP.seq ?_
        refine WP.reg ?_
        refine WL.q (Wn.no rfl) rfl rfl (R.assign (v := (.slice none 0 0)) rfl) ?_
        refine WL.q (Wn.no rfl) rfl rfl (R.assign (v := (.bool false)) rfl) ?_
        refine WL.nil ?_
        refine thn_n ?_
        refine WP.ret ?_
        refine thn_r ?_
        refine inb_r ?_
        refine thn_r ?_
        refine inb_r ?_
        refine thn_r ?_
        refine ret_of Try.results31 (RV.tmp (v := (.slice none 0 0)) rfl (RV.tmp (v := (.bool false)) rfl RV.nil)) ?_
        exact ⟨rfl, h_4.chgS⟩
      · have p_14 := of_decide_eq_false c_12
        refine WP.skip ?_
        refine thn_n ?_
        refine WP.seq ?_
        refine WP.reg ?_
        refine WL.q (Wn.no rfl) rfl rfl (R.move (v := (.slice a n cap)) rfl) ?_
        refine WL.q (Wn.no rfl) rfl rfl (R.move (v := (vi ((p : Nat) : Int))) rfl) ?_
        refine WL.q (Wn.no rfl) rfl rfl (R.move (v := (vi ((p : Nat) : Int))) rfl) ?_
        refine WL.q (Wn.no rfl) rfl rfl (R.bin (v := (vi ((p + 4 : Nat) : Int))) rfl rfl (bi_add (c := ((p + 4 : Nat) : Int)) (by omega) (by omega))) ?_
        refine WL.q (Wn.no rfl) rfl rfl (R.sliceS (a := a) (len := n) (l := p) (h := p + 4) rfl (EvB.it (l := p) rfl rfl) (EvB.it (l := p + 4) rfl rfl) (by omega) (by omega) Try.underlying23 Try.sizeOf5) ?_
        refine WL.call (al := [(.slice (slA a p cap 1) (p + 4 - p) (cap - p))]) Try.call23 rfl rfl (c_GetR (slA a p cap 1) (p + 4 - p) (cap - p) ((bs.drop p).take (p + 4 - p)) (subLen (K := n) hl (by omega) : List.length ((bs.drop p).take (p + 4 - p)) = p + 4 - p) (by omega) _ (View.slM (l := p) (m := cap) (k := p + 4 - p) (viewV (h_4.ok _ (.tail _ (.tail _ (.head _))))) (by omega))) rfl ?_
        rintro _ w_16 ⟨rfl, hc_15⟩
        have h_17 := h_4.same hc_15
        have hn4 := Go.Wr.take4_lt (bs.drop p)
        refine WL.q (Wn.no rfl) rfl rfl (R.conv (b := ((natLE ((bs.drop p).take 4) : Nat) : Int)) rfl Try.underlying22 Try.underlying3 ((wi64_u _).trans (Go.Wr.take4_int' (bs.drop p) (by omega)))) ?_
        refine WL.q (Wn.no rfl) rfl rfl (R.assign (v := (vi ((natLE ((bs.drop p).take 4) : Nat) : Int))) rfl) ?_
        refine WL.nil ?_
        refine thn_n ?_
        refine WP.seq ?_
        refine WP.reg ?_
        refine WL.q (Wn.no rfl) rfl rfl (R.move (v := (vi ((p : Nat) : Int))) rfl) ?_
        refine WL.q (Wn.no rfl) rfl rfl (R.bin (v := (vi ((p + 4 : Nat) : Int))) rfl rfl (bi_add (c := ((p + 4 : Nat) : Int)) (by omega) (by omega))) ?_
        refine WL.q (Wn.no rfl) rfl rfl (R.assign (v := (vi ((p + 4 : Nat) : Int))) rfl) ?_
        refine WL.nil ?_
        refine thn_n ?_
        refine WP.seq ?_
        refine WP.seq ?_
        refine WP.reg ?_
        refine WL.q (Wn.no rfl) rfl rfl (R.move (v := (vi ((natLE ((bs.drop p).take 4) : Nat) : Int))) rfl) ?_
        refine WL.q (Wn.no rfl) rfl rfl (R.bin (v := (.bool (decide ((((natLE ((bs.drop p).take 4) : Nat) : Int) : Int) > 65536)))) rfl rfl (bi_gtr (r := decide ((((natLE ((bs.drop p).take 4) : Nat) : Int) : Int) > 65536)) rfl)) ?_
        refine WL.q (Wn.no rfl) rfl rfl (R.move (v := (.bool (decide ((((natLE ((bs.drop p).take 4) : Nat) : Int) : Int) > 65536)))) rfl) ?_
        rcases Bool.eq_false_or_eq_true (decide ((((natLE ((bs.drop p).take 4) : Nat) : Int) : Int) > 65536)) with c_18 | c_18
        · have p_19 := of_decide_eq_true c_18
          refine WL.skip rfl (congrArg Value.bool c_18) rfl ?_
          refine WL.skip rfl (congrArg Value.bool c_18) rfl ?_
          refine WL.skip rfl (congrArg Value.bool c_18) rfl ?_
          refine WL.skip rfl (congrArg Value.bool c_18) rfl ?_
          refine WL.skip rfl (congrArg Value.bool c_18) rfl ?_
          refine WL.skip rfl (congrArg Value.bool c_18) rfl ?_
          refine WL.q (Wn.no rfl) rfl rfl (R.pickT (v := (.bool true)) (congrArg Value.bool c_18) rfl) ?_
          refine WL.nil ?_
          refine thn_n ?_
          refine WP.condT rfl ?_
          refine WP.seq ?_
          refine WP.reg ?_
          refine WL.q (Wn.no rfl) rfl rfl (R.assign (v := (.slice none 0 0)) rfl) ?_
          refine WL.q (Wn.no rfl) rfl rfl (R.assign (v := (.bool false)) rfl) ?_
          refine WL.nil ?_
          refine thn_n ?_
          refine WP.ret ?_
          refine thn_r ?_
          refine inb_r ?_
          refine thn_r ?_
          refine inb_r ?_
          refine thn_r ?_
          refine ret_of Try.results31 (RV.tmp (v := (.slice none 0 0)) rfl (RV.tmp (v := (.bool false)) rfl RV.nil)) ?_
          exact ⟨rfl, h_17.chgS⟩
        · have p_20 := of_decide_eq_false c_18
          refine WL.want rfl (congrArg Value.bool c_18) ?_
          refine WL.q (Wn.no rfl) rfl rfl (R.move (v := (vi ((natLE ((bs.drop p).take 4) : Nat) : Int))) rfl) ?_
          refine WL.want rfl (congrArg Value.bool c_18) ?_
          refine WL.q (Wn.no rfl) rfl rfl (R.move (v := (.slice a n cap)) rfl) ?_
          refine WL.want rfl (congrArg Value.bool c_18) ?_
          refine WL.q (Wn.no rfl) rfl rfl (R.lenS (a := a) (m := n) rfl rfl Try.underlying23) ?_
          refine WL.want rfl (congrArg Value.bool c_18) ?_
          refine WL.q (Wn.no rfl) rfl rfl (R.move (v := (vi ((p + 4 : Nat) : Int))) rfl) ?_
          refine WL.want rfl (congrArg Value.bool c_18) ?_
          refine WL.q (Wn.no rfl) rfl rfl (R.bin (v := (vi ((n - (p + 4) : Nat) : Int))) rfl rfl (bi_sub (c := ((n - (p + 4) : Nat) : Int)) (by omega) (by omega))) ?_
          refine WL.want rfl (congrArg Value.bool c_18) ?_
          refine WL.q (Wn.no rfl) rfl rfl (R.bin (v := (.bool (decide ((((natLE ((bs.drop p).take 4) : Nat) : Int) : Int) > ((n - (p + 4) : Nat) : Int))))) rfl rfl (bi_gtr (r := decide ((((natLE ((bs.drop p).take 4) : Nat) : Int) : Int) > ((n - (p + 4) : Nat) : Int))) rfl)) ?_
          refine WL.q (Wn.no rfl) rfl rfl (R.pickF (v := (.bool (decide ((((natLE ((bs.drop p).take 4) : Nat) : Int) : Int) > ((n - (p + 4) : Nat) : Int))))) (congrArg Value.bool c_18) rfl) ?_
          refine WL.nil ?_
          refine thn_n ?_
          refine WP.cond (b := decide ((((natLE ((bs.drop p).take 4) : Nat) : Int) : Int) > ((n - (p + 4) : Nat) : Int))) rfl (fun c_21 => ?_) (fun c_21 => ?_)
          · have p_22 := of_decide_eq_true c_21
            refine WP.seq ?_
            refine WP.reg ?_
            refine WL.q (Wn.no rfl) rfl rfl (R.assign (v := (.slice none 0 0)) rfl) ?_
            refine WL.q (Wn.no rfl) rfl rfl (R.assign (v := (.bool false)) rfl) ?_
            refine WL.nil ?_
            refine thn_n ?_
            refine WP.ret ?_
            refine thn_r ?_
            refine inb_r ?_
            refine thn_r ?_
            refine inb_r ?_
            refine thn_r ?_
            refine ret_of Try.results31 (RV.tmp (v := (.slice none 0 0)) rfl (RV.tmp (v := (.bool false)) rfl RV.nil)) ?_
            exact ⟨rfl, h_17.chgS⟩
          · have p_23 := of_decide_eq_false c_21
            refine WP.skip ?_
            refine thn_n ?_
            refine WP.seq ?_
            refine WP.reg ?_
            refine WL.q (Wn.no rfl) rfl rfl (R.move (v := (.slice oa k oc)) rfl) ?_
            refine WL.q (Wn.no rfl) rfl rfl (R.move (v := (.slice a n cap)) rfl) ?_
            refine WL.q (Wn.no rfl) rfl rfl (R.move (v := (vi ((p + 4 : Nat) : Int))) rfl) ?_
            refine WL.q (Wn.no rfl) rfl rfl (R.move (v := (vi ((p + 4 : Nat) : Int))) rfl) ?_
            refine WL.q (Wn.no rfl) rfl rfl (R.move (v := (vi ((natLE ((bs.drop p).take 4) : Nat) : Int))) rfl) ?_
            refine WL.q (Wn.no rfl) rfl rfl (R.bin (v := (vi ((p + 4 + (natLE ((bs.drop p).take 4)) : Nat) : Int))) rfl rfl (bi_add (c := ((p + 4 + (natLE ((bs.drop p).take 4)) : Nat) : Int)) (by omega) (by omega))) ?_
            refine WL.q (Wn.no rfl) rfl rfl (R.sliceS (a := a) (len := n) (l := p + 4) (h := p + 4 + (natLE ((bs.drop p).take 4))) rfl (EvB.it (l := p + 4) rfl rfl) (EvB.it (l := p + 4 + (natLE ((bs.drop p).take 4))) rfl rfl) (by omega) (by omega) Try.underlying23 Try.sizeOf5) ?_
            refine WL.buildSl (vs := [(0, (.slice (slA a (p + 4) cap 1) (p + 4 + (natLE ((bs.drop p).take 4)) - (p + 4)) (cap - (p + 4))))]) (cs := [(.slice (slA a (p + 4) cap 1) (p + 4 + (natLE ((bs.drop p).take 4)) - (p + 4)) (cap - (p + 4)))]) h_17 Try.underlying40 Try.sizeOf23 (zv Try.typeInfo23 rfl) rfl rfl (by kernel_rfl) rfl (by simp [Value.oneCell']) rfl rfl (fun b_24 w_25 h_26 => ?_)
            refine WL.append (km := k + 1) (xs := xs) (ys := [(.slice (slA a (p + 4) cap 1) (p + 4 + (natLE ((bs.drop p).take 4)) - (p + 4)) (cap - (p + 4)))]) (zs := xs ++ [(.slice (slA a (p + 4) cap 1) (p + 4 + (natLE ((bs.drop p).take 4)) - (p + 4)) (cap - (p + 4)))]) h_26 rfl rfl el40 (viewB (h_26.ok _ (.head _)) Sg.h) rfl (by simp [Value.oneCell']) rfl (by omega) (by omega) (by omega) (fun _ _ => (At.t At.h)) rfl (fun a_27 c_28 w_29 h_30 => ?_)
            refine WL.q (Wn.no rfl) rfl rfl (R.assign (v := (.slice a_27 (k + 1) c_28)) rfl) ?_
            refine WL.nil ?_
            refine thn_n ?_
            refine WP.reg ?_
            refine WL.q (Wn.no rfl) rfl rfl (R.move (v := (vi ((p + 4 : Nat) : Int))) rfl) ?_
            refine WL.q (Wn.no rfl) rfl rfl (R.move (v := (vi ((natLE ((bs.drop p).take 4) : Nat) : Int))) rfl) ?_
            refine WL.q (Wn.no rfl) rfl rfl (R.bin (v := (vi ((p + 4 + (natLE ((bs.drop p).take 4)) : Nat) : Int))) rfl rfl (bi_add (c := ((p + 4 + (natLE ((bs.drop p).take 4)) : Nat) : Int)) (by omega) (by omega))) ?_
            refine WL.q (Wn.no rfl) rfl rfl (R.assign (v := (vi ((p + 4 + (natLE ((bs.drop p).take 4)) : Nat) : Int))) rfl) ?_
            refine WL.nil ?_
            refine inb_n ?_
            refine thn_n ?_
            obtain ⟨h_31, hg1⟩ := HP.partPush (i := p + 4) (q := cap) (k := p + 4 + (natLE ((bs.drop p).take 4)) - (p + 4)) (c := cap - (p + 4)) h_30 (.tail _ (.tail _ (.head _))) (.tail _ (.tail _ (.tail _ (.head _)))) hl (by omega) (by omega) (by omega) hf1
            have h_32 := h_31.up (Pick.t Pick.h)
            have h_33 := h_32.drop rfl
            have h_34 := h_33.up (Pick.t (Pick.t Pick.h))
            have h_35 := h_34.drop rfl
            have h_36 := h_35.up (Pick.t (Pick.t Pick.h))
            have h_37 := h_36.up (Pick.t Pick.h)
            have h_38 := h_37.up (Pick.t (Pick.t Pick.h))
            exact ⟨(k + 1, a_27, c_28, _, _, p + 4 + (natLE ((bs.drop p).take 4))), _, (by omega), (Ag.upd rfl (Ag.upd rfl (Ag.upd rfl (Ag.upd rfl (Ag.upd rfl (Ag.upd rfl (Ag.upd rfl (Ag.upd rfl (Ag.upd rfl (Ag.upd rfl (Ag.upd rfl (Ag.upd rfl (Ag.upd rfl (Ag.upd rfl (Ag.upd rfl (Ag.upd rfl (Ag.upd rfl (Ag.upd rfl (Ag.upd rfl (Ag.upd rfl (Ag.upd rfl (Ag.upd rfl (Ag.upd rfl (Ag.upd rfl (Ag.upd rfl (Ag.upd rfl (Ag.upd rfl (Ag.upd rfl (Ag.upd rfl (Ag.upd rfl (Ag.upd rfl (Ag.upd rfl (Ag.upd rfl (Ag.upd rfl (Ag.upd rfl (Ag.upd rfl (Ag.upd rfl (Ag.upd rfl (Ag.upd rfl (Ag.upd rfl (Ag.upd rfl (Ag.upd rfl (Ag.upd rfl (Ag.upd rfl (Ag.upd rfl (Ag.upd rfl (Ag.upd rfl (Ag.upd rfl (Ag.upd rfl (Ag.updL rfl (Ag.mix _ _ _))))))))))))))))))))))))))))))))))))))))))))))))))), ⟨rfl, rfl, trivial⟩, h_38, (by omega), (by omega), (by rw [List.length_append, hkl]; rfl), hg1, (Go.Wr.unpk_nextR (c := 64 - k) hsp (by omega) (by omega) rfl (by omega) (by omega) (by omega)), rfl⟩
  · have p_39 := of_decide_eq_false c_7
    refine WP.exit ?_
    refine thn_x ?_
    refine thn_x ?_
    refine inb_hit ?_
    refine thn_n ?_
    refine WP.seq ?_
    refine WP.reg ?_
    refine WL.q (Wn.no rfl) rfl rfl (R.move (v := (.slice oa k oc)) rfl) ?_
    refine WL.q (Wn.no rfl) rfl rfl (R.assign (v := (.slice oa k oc)) rfl) ?_
    refine WL.q (Wn.no rfl) rfl rfl (R.assign (v := (.bool true)) rfl) ?_
    refine WL.nil ?_
    refine thn_n ?_
    refine WP.ret ?_
    refine ret_of Try.results31 (RV.tmp (v := (.slice oa k oc)) rfl (RV.tmp (v := (.bool true)) rfl RV.nil)) ?_
    have hd := (Go.Wr.unpk_done hsp (by omega))
    rw [hd] at hx; cases hx

theorem c_Cut_t (a : Option Addr) (n cap : Nat) (bs : List UInt8) (hl : bs.length = n) (hn : n ≤ 1099511627776) (a2 : Option Addr) (n2 cap2 : Nat) (ns : List Nat) (hl2 : ns.length = n2) (hn2 : n2 ≤ 1099511627776) (lr : List (List UInt8)) (hx : Go.Wr.cutL ns bs = some lr) (w : World) (hv : View w a (bs.map vu8)) (hv2 : View w a2 ((ns.map Int.ofNat).map vi64)) :
    Cs Try.prog 50 [(.slice a n cap), (.slice a2 n2 cap2)].toArray w (fun v w1 => ∃ a cap xs, v = .tuple [.slice a lr.length cap, vi 0].toArray ∧ Chg w w1 [] ∧ View w1 a xs ∧ Sls w1 xs lr ∧ ∀ b ∈ (Ent.view a xs).blocks ++ sblks xs, w.heap.size ≤ b) := by
  refine Cs.of (n := 39) (args := [(.slice a n cap), (.slice a2 n2 cap2)]) Try.func50 rfl rfl rfl ?_
  have h_0 := HP.init w
  have h_01 := h_0.oldV (View.arg hv) rfl (by simp [Ent.mut])
  have h_00 := h_01.oldV (View.arg hv2) rfl (by simp [Ent.mut])
  refine WP.seq ?_
  refine WP.reg ?_
  refine WL.q (Wn.no rfl) rfl rfl (R.assign (v := (.slice none 0 0)) rfl) ?_
  refine WL.q (Wn.no rfl) rfl rfl (R.assign (v := (vi 0)) rfl) ?_
  refine WL.nil ?_
  refine thn_n ?_
  refine WP.seq ?_
  refine WP.seq ?_
  refine WP.reg ?_
  refine WL.q (Wn.no rfl) rfl rfl (R.move (v := (.slice a2 n2 cap2)) rfl) ?_
  refine WL.call (al := [(.slice a2 n2 cap2), (.func (.func 79) [].toArray [].toArray)]) Try.call78 rfl rfl (c_CfZ_t a2 n2 cap2 (ns.map Int.ofNat) ((List.length_map ..).trans hl2) (by omega) (ns_all ns) _ (viewV (h_00.ok _ (.head _)))) rfl ?_
  rintro _ w_2 ⟨rfl, hc_1⟩
  have h_3 := h_00.same hc_1
  refine WL.nil ?_
  refine thn_n ?_
  refine WP.condF rfl ?_
  refine WP.skip ?_
  refine thn_n ?_
  refine WP.seq ?_
  refine WP.reg ?_
  refine WL.q (Wn.no rfl) rfl rfl (R.assign (v := (.slice none 0 0)) rfl) ?_
  refine WL.nil ?_
  refine thn_n ?_
  refine WP.seq ?_
  refine WP.reg ?_
  refine WL.q (Wn.no rfl) rfl rfl (R.move (v := (.slice a n cap)) rfl) ?_
  refine WL.call (al := [(.slice a n cap)]) Try.call69 rfl rfl (c_Clone a n cap bs hl (by omega) _ (viewV (h_3.ok _ (.tail _ (.head _))))) rfl ?_
  rintro _ w_6 ⟨a_4, cap_5, rfl, hc_7, ho_8⟩
  have h_9 := h_3.gotRow hc_7 ho_8
  have hq_10 := ho_8.2.2.1
  refine WL.q (Wn.no rfl) rfl rfl (R.assign (v := (.slice a_4 n cap_5)) rfl) ?_
  refine WL.nil ?_
  refine thn_n ?_
  refine WP.seq ?_
  refine WP.seq ?_
  refine WP.reg ?_
  refine WL.q (Wn.no rfl) rfl rfl (R.move (v := (.slice a2 n2 cap2)) rfl) ?_
  refine WL.q (Wn.no rfl) rfl rfl (R.lenS (a := a2) (m := n2) rfl rfl Try.underlying60) ?_
  refine WL.q (Wn.no rfl) rfl rfl (R.move (v := (vi 0)) rfl) ?_
  refine WL.nil ?_
  refine thn_n ?_
  refine WP.block ?_
  have hf_11 := Own.blk (h_9.own (.head _))
  have h_12 := h_9.rowView
  have h_13 := h_12.slsNil
  have h_14 := h_13.rowNil 23 1
  refine WP.loopG (G := Nat × Option Addr × Nat × List Value × List (List UInt8) × Option Addr × Nat × Nat × List UInt8) [4, 5, 6, 7, 9, 16, 17, 18, 19, 20, 21, 22, 23, 24, 25, 26, 27, 28, 29, 30, 31, 32, 33, 34] (fun (k, oa, oc, xs, ls, ra, rc, z, r) => [(6, (.slice oa k oc)), (7, (.slice ra z rc)), (16, (vi ((k : Nat) : Int)))]) (fun (k, oa, oc, xs, ls, ra, rc, z, r) m w1 => HP w w1 [.row oa k oc 23 1 xs, .pin (sblks xs) (fun w => Sls w xs ls), .view ra (r.map vu8), .view a2 ((ns.map Int.ofNat).map vi64), .view a (bs.map vu8)] ∧ (k ≤ n2) ∧ (r.length = z) ∧ (z ≤ rc) ∧ (z ≤ n) ∧ (ls.length = k) ∧ (∀ b ∈ sblks xs, w.heap.size ≤ b) ∧ (∀ b ∈ (Ent.view ra (r.map vu8)).blocks, w.heap.size ≤ b) ∧ (Go.Wr.cutL ns bs = (Go.Wr.cutL (ns.drop k) r).map (ls ++ ·)) ∧ m = n2 - k) ⟨(0, none, 0, [], [], a_4, cap_5, n, bs), _, ⟨rfl, rfl, rfl, trivial⟩, h_14, (by omega), hl, (by omega), Nat.le_refl n, rfl, (fun b hb => by cases hb), hf_11, (by rw [List.drop_zero]; cases Go.Wr.cutL ns bs <;> simp), rfl⟩ ?_
  rintro ⟨k, oa, oc, xs, ls, ra, rc, z, r⟩ m_17 J_18 w_15 ⟨h_16, hk, hz, hrc, hrn, hkl, hf1, hf2, hsp, rfl⟩
  refine WP.seq ?_
  refine WP.reg ?_
  refine WL.q (Wn.no rfl) rfl rfl (R.bin (v := (.bool (decide ((((k : Nat) : Int) : Int) < ((n2 : Nat) : Int))))) rfl rfl (bi_lss (r := decide ((((k : Nat) : Int) : Int) < ((n2 : Nat) : Int))) rfl)) ?_
  refine WL.nil ?_
  refine thn_n ?_
  refine WP.seq ?_
  refine WP.cond (b := decide ((((k : Nat) : Int) : Int) < ((n2 : Nat) : Int))) rfl (fun c_19 => ?_) (fun c_19 => ?_)
  · have p_20 := of_decide_eq_true c_19
    refine WP.skip ?_
    refine thn_n ?_
    refine WP.seq ?_
    refine WP.block ?_
    refine WP.seq ?_
    refine WP.reg ?_
    refine WL.q (Wn.no rfl) rfl rfl (R.indexS (a := a2) (i := k) (off := k) (xs := (ns.map Int.ofNat).map vi64) rfl rfl rfl (by omega) (viewV (h_16.ok _ (.tail _ (.tail _ (.tail _ (.head _)))))) (lt_len (K := n2) (len_map ((List.length_map ..).trans hl2)) (by omega)) Try.underlying60 Try.sizeOf3 (Nat.mul_one _).symm) ?_
    refine WL.q (Wn.no rfl) rfl rfl (R.loadG (a := a2) (i := k) (xs := (ns.map Int.ofNat).map vi64) (v := (vi ((ns.getD k 0 : Nat) : Int))) rfl (viewV (h_16.ok _ (.tail _ (.tail _ (.tail _ (.head _)))))) Try.isAgg3 (Go.Wr.ints_get (by omega))) ?_
    refine WL.q (Wn.no rfl) rfl rfl (R.assign (v := (vi ((ns.getD k 0 : Nat) : Int))) rfl) ?_
    refine WL.nil ?_
    refine thn_n ?_
    refine WP.seq ?_
    refine WP.seq ?_
    refine WP.reg ?_
    refine WL.q (Wn.no rfl) rfl rfl (R.move (v := (vi ((ns.getD k 0 : Nat) : Int))) rfl) ?_
    refine WL.q (Wn.no rfl) rfl rfl (R.move (v := (.slice ra z rc)) rfl) ?_
    refine WL.q (Wn.no rfl) rfl rfl (R.lenS (a := ra) (m := z) rfl rfl Try.underlying23) ?_
    refine WL.q (Wn.no rfl) rfl rfl (R.bin (v := (.bool (decide ((((ns.getD k 0 : Nat) : Int) : Int) > ((z : Nat) : Int))))) rfl rfl (bi_gtr (r := decide ((((ns.getD k 0 : Nat) : Int) : Int) > ((z : Nat) : Int))) rfl)) ?_
    refine WL.nil ?_
    refine thn_n ?_
    refine WP.cond (b := decide ((((ns.getD k 0 : Nat) : Int) : Int) > ((z : Nat) : Int))) rfl (fun c_21 => ?_) (fun c_21 => ?_)
    · have p_22 := of_decide_eq_true c_21
      refine WP.seq ?_
      refine WP.reg ?_
      refine WL.q (Wn.no rfl) rfl rfl (R.assign (v := (.slice none 0 0)) rfl) ?_
      refine WL.q (Wn.no rfl) rfl rfl (R.assign (v := (vi 4)) rfl) ?_
      refine WL.nil ?_
      refine thn_n ?_
      refine WP.ret ?_
      refine thn_r ?_
      refine inb_r ?_
      refine thn_r ?_
      refine thn_r ?_
      refine inb_r ?_
      refine thn_r ?_
      refine ret_of Try.results50 (RV.tmp (v := (.slice none 0 0)) rfl (RV.tmp (v := (vi 4)) rfl RV.nil)) ?_
      have hp_23 := p_20
      have hp_24 := p_22
      have hb := (Go.Wr.opt_none hsp (Go.Wr.cut_big (by omega) rfl (by omega)))
      rw [hx] at hb; cases hb
    · have p_25 := of_decide_eq_false c_21
      refine WP.skip ?_
      refine thn_n ?_
      refine WP.drawT (SL w.heap.size [.pin (sblks xs) (fun w => Sls w xs ls), .view ra (r.map vu8), .view a2 ((ns.map Int.ofNat).map vi64), .view a (bs.map vu8)]) (.q 0 (.q 1 (.q 2 (.q 3 (.q 4 (.q 7 (.q 8 (.q 9 (.s 5 (.s 6 (.q 10 (.q 11 .nil)))))))))))) (by kernel_rfl) (by kernel_rfl) rfl (by kernel_rfl) (fun w_26 hc_28 => (SL.cons ((h_16.same hc_28).ok _ (.tail _ (.head _))) (SL.cons ((h_16.same hc_28).ok _ (.tail _ (.tail _ (.head _)))) (SL.cons ((h_16.same hc_28).ok _ (.tail _ (.tail _ (.tail _ (.head _))))) (SL.cons ((h_16.same hc_28).ok _ (.tail _ (.tail _ (.tail _ (.tail _ (.head _)))))) (SL.nil _ _)))))) (fun w_26 hc_28 => ?_)
      have h_27 := h_16.same hc_28
      refine WT.q rfl (Wn.no rfl) rfl rfl (fun wq hS => R.move (v := (.slice oa k oc)) rfl) ?_
      refine WT.q rfl (Wn.no rfl) rfl rfl (fun wq hS => R.move (v := (.slice ra z rc)) rfl) ?_
      refine WT.q rfl (Wn.no rfl) rfl rfl (fun wq hS => R.move (v := (vi ((ns.getD k 0 : Nat) : Int))) rfl) ?_
      refine WT.q rfl (Wn.no rfl) rfl rfl (fun wq hS => R.move (v := (vi ((ns.getD k 0 : Nat) : Int))) rfl) ?_
      refine WT.q rfl (Wn.no rfl) rfl rfl (fun wq hS => R.sliceS3 (a := ra) (len := z) (l := 0) (h := ns.getD k 0) (m := ns.getD k 0) rfl EvB.dflt rfl rfl rfl rfl (by omega) (by omega) (by omega) Try.underlying23 Try.sizeOf5) ?_
      refine WT.q rfl (Wn.no rfl) rfl rfl (fun wq hS => R.move (v := (.slice ra z rc)) rfl) ?_
      refine WT.q rfl (Wn.no rfl) rfl rfl (fun wq hS => R.move (v := (vi ((ns.getD k 0 : Nat) : Int))) rfl) ?_
      refine WT.q rfl (Wn.no rfl) rfl rfl (fun wq hS => R.sliceS (a := ra) (len := z) (l := ns.getD k 0) (h := z) rfl (EvB.it (l := ns.getD k 0) rfl rfl) EvB.dflt (by omega) (by omega) Try.underlying23 Try.sizeOf5) ?_
      refine WT.s ?_
      refine Op1.one rfl (Wn.no rfl) ?_
      refine WL.buildSl (vs := [(0, (.slice (slA ra 0 (ns.getD k 0) 1) (ns.getD k 0) (ns.getD k 0)))]) (cs := [(.slice (slA ra 0 (ns.getD k 0) 1) (ns.getD k 0) (ns.getD k 0))]) h_27 Try.underlying40 Try.sizeOf23 (zv Try.typeInfo23 rfl) rfl rfl (by kernel_rfl) rfl (by simp [Value.oneCell']) rfl rfl (fun b_29 w_30 h_31 => ?_)
      refine WL.nil ?_
      refine ⟨(SL.cons (h_31.ok _ (.tail _ (.tail _ (.head _)))) (SL.cons (h_31.ok _ (.tail _ (.tail _ (.tail _ (.head _))))) (SL.cons (h_31.ok _ (.tail _ (.tail _ (.tail _ (.tail _ (.head _)))))) (SL.cons (h_31.ok _ (.tail _ (.tail _ (.tail _ (.tail _ (.tail _ (.head _))))))) (SL.nil _ _))))), ?_⟩
      refine WT.s ?_
      refine Op1.one rfl (Wn.no rfl) ?_
      refine WL.append (km := k + 1) (xs := xs) (ys := [(.slice (slA ra 0 (ns.getD k 0) 1) (ns.getD k 0) (ns.getD k 0))]) (zs := xs ++ [(.slice (slA ra 0 (ns.getD k 0) 1) (ns.getD k 0) (ns.getD k 0))]) h_31 rfl rfl el40 (viewB (h_31.ok _ (.head _)) Sg.h) rfl (by simp [Value.oneCell']) rfl (by omega) (by omega) (by omega) (fun _ _ => (At.t At.h)) rfl (fun a_32 c_33 w_34 h_35 => ?_)
      refine WL.nil ?_
      refine ⟨(SL.cons (h_35.ok _ (.tail _ (.tail _ (.head _)))) (SL.cons (h_35.ok _ (.tail _ (.tail _ (.tail _ (.head _))))) (SL.cons (h_35.ok _ (.tail _ (.tail _ (.tail _ (.tail _ (.head _)))))) (SL.cons (h_35.ok _ (.tail _ (.tail _ (.tail _ (.tail _ (.tail _ (.head _))))))) (SL.nil _ _))))), ?_⟩
      refine WT.q rfl (Wn.no rfl) rfl rfl (fun wq hS => R.assign (v := (.slice a_32 (k + 1) c_33)) rfl) ?_
      refine WT.q rfl (Wn.no rfl) rfl rfl (fun wq hS => R.assign (v := (.slice (slA ra (ns.getD k 0) rc 1) (z - (ns.getD k 0)) (rc - (ns.getD k 0)))) rfl) ?_
      refine WT.nil ?_
      refine inb_n ?_
      refine thn_n ?_
      refine WP.reg ?_
      refine WL.q (Wn.no rfl) rfl rfl (R.bin (v := (vi ((k + 1 : Nat) : Int))) rfl rfl (bi_add (c := ((k + 1 : Nat) : Int)) (by omega) (by omega))) ?_
      refine WL.q (Wn.no rfl) rfl rfl (R.move (v := (vi ((k + 1 : Nat) : Int))) rfl) ?_
      refine WL.nil ?_
      refine thn_n ?_
      obtain ⟨h_36, hg1, hg2⟩ := HP.cutPush (n := ns.getD k 0) (q := rc) (m := z) h_35 (.tail _ (.tail _ (.head _))) (.tail _ (.tail _ (.tail _ (.head _)))) hz (by omega) (by omega) hf1 hf2
      have h_37 := h_36.up (Pick.t (Pick.t Pick.h))
      have h_38 := h_37.drop rfl
      have h_39 := h_38.up (Pick.t (Pick.t (Pick.t Pick.h)))
      have h_40 := h_39.drop rfl
      have h_41 := h_40.up (Pick.t (Pick.t (Pick.t Pick.h)))
      have h_42 := h_41.drop rfl
      have h_43 := h_42.up (Pick.t (Pick.t (Pick.t (Pick.t Pick.h))))
      have h_44 := h_43.up (Pick.t (Pick.t (Pick.t (Pick.t Pick.h))))
      have h_45 := h_44.up (Pick.t (Pick.t Pick.h))
      have h_46 := h_45.up (Pick.t (Pick.t (Pick.t Pick.h)))
      have h_47 := h_46.up (Pick.t (Pick.t (Pick.t (Pick.t Pick.h))))
      exact ⟨(k + 1, a_32, c_33, _, _, slA ra (ns.getD k 0) rc 1, rc - (ns.getD k 0), z - (ns.getD k 0), _), _, (by omega), (Ag.upd rfl (Ag.upd rfl (Ag.upd rfl (Ag.upd rfl (Ag.upd rfl (Ag.upd rfl (Ag.upd rfl (Ag.upd rfl (Ag.upd rfl (Ag.upd rfl (Ag.upd rfl (Ag.upd rfl (Ag.upd rfl (Ag.upd rfl (Ag.upd rfl (Ag.upd rfl (Ag.upd rfl (Ag.upd rfl (Ag.upd rfl (Ag.upd rfl (Ag.upd rfl (Ag.upd rfl (Ag.updL rfl (Ag.mix _ _ _)))))))))))))))))))))))), ⟨rfl, rfl, rfl, trivial⟩, h_47, (by omega), (by rw [List.length_drop, hz]), (by omega), (by omega), (by rw [List.length_append, hkl]; rfl), hg1, hg2, (Go.Wr.cut_next hsp (by omega) rfl (by omega)), rfl⟩
  · have p_48 := of_decide_eq_false c_19
    refine WP.exit ?_
    refine thn_x ?_
    refine thn_x ?_
    refine inb_hit ?_
    refine thn_n ?_
    refine WP.seq ?_
    refine WP.seq ?_
    refine WP.reg ?_
    refine WL.q (Wn.no rfl) rfl rfl (R.move (v := (.slice ra z rc)) rfl) ?_
    refine WL.q (Wn.no rfl) rfl rfl (R.lenS (a := ra) (m := z) rfl rfl Try.underlying23) ?_
    refine WL.q (Wn.no rfl) rfl rfl (R.bin (v := (.bool (decide ((((z : Nat) : Int) : Int) > 0)))) rfl rfl (bi_gtr (r := decide ((((z : Nat) : Int) : Int) > 0)) rfl)) ?_
    refine WL.nil ?_
    refine thn_n ?_
    refine WP.cond (b := decide ((((z : Nat) : Int) : Int) > 0)) rfl (fun c_49 => ?_) (fun c_49 => ?_)
    · have p_50 := of_decide_eq_true c_49
      refine WP.seq ?_
      refine WP.reg ?_
      refine WL.q (Wn.no rfl) rfl rfl (R.assign (v := (.slice none 0 0)) rfl) ?_
      refine WL.q (Wn.no rfl) rfl rfl (R.assign (v := (vi 4)) rfl) ?_
      refine WL.nil ?_
      refine thn_n ?_
      refine WP.ret ?_
      refine thn_r ?_
      refine ret_of Try.results50 (RV.tmp (v := (.slice none 0 0)) rfl (RV.tmp (v := (vi 4)) rfl RV.nil)) ?_
      have hp_51 := p_48
      have hp_52 := p_50
      have hb := ((Go.Wr.cut_end hsp (by omega)).trans (if_neg (by rintro rfl; simp at hz; omega)))
      rw [hx] at hb; cases hb
    · have p_53 := of_decide_eq_false c_49
      refine WP.skip ?_
      refine thn_n ?_
      refine WP.seq ?_
      refine WP.reg ?_
      refine WL.q (Wn.no rfl) rfl rfl (R.move (v := (.slice oa k oc)) rfl) ?_
      refine WL.q (Wn.no rfl) rfl rfl (R.assign (v := (.slice oa k oc)) rfl) ?_
      refine WL.q (Wn.no rfl) rfl rfl (R.assign (v := (vi 0)) rfl) ?_
      refine WL.nil ?_
      refine thn_n ?_
      refine WP.ret ?_
      refine ret_of Try.results50 (RV.tmp (v := (.slice oa k oc)) rfl (RV.tmp (v := (vi 0)) rfl RV.nil)) ?_
      have hd := (Go.Wr.cut_end hsp (by omega)).trans (if_pos (List.length_eq_zero_iff.1 (by omega)))
      rw [hd] at hx; obtain rfl := Option.some.inj hx
      refine ⟨oa, oc, xs, by rw [hkl]; rfl, h_16.chgS, (ownView (h_16.ok _ (.head _))), (h_16.ok _ (.tail _ (.head _))).1, fun b hb => ?_⟩
      rcases List.mem_append.1 hb with hb | hb
      · exact Own.blk (h_16.own (.head _)) b hb
      · exact hf1 b hb

theorem c_Cut_f (a : Option Addr) (n cap : Nat) (bs : List UInt8) (hl : bs.length = n) (hn : n ≤ 1099511627776) (a2 : Option Addr) (n2 cap2 : Nat) (ns : List Nat) (hl2 : ns.length = n2) (hn2 : n2 ≤ 1099511627776) (hx : Go.Wr.cutL ns bs = none) (w : World) (hv : View w a (bs.map vu8)) (hv2 : View w a2 ((ns.map Int.ofNat).map vi64)) :
    Cs Try.prog 50 [(.slice a n cap), (.slice a2 n2 cap2)].toArray w (fun v w1 => v = (.tuple [(.slice none 0 0), (vi 4)].toArray) ∧ Chg w w1 []) := by
  refine Cs.of (n := 39) (args := [(.slice a n cap), (.slice a2 n2 cap2)]) Try.func50 rfl rfl rfl ?_
  have h_0 := HP.init w
  have h_01 := h_0.oldV (View.arg hv) rfl (by simp [Ent.mut])
  have h_00 := h_01.oldV (View.arg hv2) rfl (by simp [Ent.mut])
  refine WP.seq ?_
  refine WP.reg ?_
  refine WL.q (Wn.no rfl) rfl rfl (R.assign (v := (.slice none 0 0)) rfl) ?_
  refine WL.q (Wn.no rfl) rfl rfl (R.assign (v := (vi 0)) rfl) ?_
  refine WL.nil ?_
  refine thn_n ?_
  refine WP.seq ?_
  refine WP.seq ?_
  refine WP.reg ?_
  refine WL.q (Wn.no rfl) rfl rfl (R.move (v := (.slice a2 n2 cap2)) rfl) ?_
  refine WL.call (al := [(.slice a2 n2 cap2), (.func (.func 79) [].toArray [].toArray)]) Try.call78 rfl rfl (c_CfZ_t a2 n2 cap2 (ns.map Int.ofNat) ((List.length_map ..).trans hl2) (by omega) (ns_all ns) _ (viewV (h_00.ok _ (.head _)))) rfl ?_
  rintro _ w_2 ⟨rfl, hc_1⟩
  have h_3 := h_00.same hc_1
  refine WL.nil ?_
  refine thn_n ?_
  refine WP.condF rfl ?_
  refine WP.skip ?_
  refine thn_n ?_
  refine WP.seq ?_
  refine WP.reg ?_
  refine WL.q (Wn.no rfl) rfl rfl (R.assign (v := (.slice none 0 0)) rfl) ?_
  refine WL.nil ?_
  refine thn_n ?_
  refine WP.seq ?_
  refine WP.reg ?_
  refine WL.q (Wn.no rfl) rfl rfl (R.move (v := (.slice a n cap)) rfl) ?_
  refine WL.call (al := [(.slice a n cap)]) Try.call69 rfl rfl (c_Clone a n cap bs hl (by omega) _ (viewV (h_3.ok _ (.tail _ (.head _))))) rfl ?_
  rintro _ w_6 ⟨a_4, cap_5, rfl, hc_7, ho_8⟩
  have h_9 := h_3.gotRow hc_7 ho_8
  have hq_10 := ho_8.2.2.1
  refine WL.q (Wn.no rfl) rfl rfl (R.assign (v := (.slice a_4 n cap_5)) rfl) ?_
  refine WL.nil ?_
  refine thn_n ?_
  refine WP.seq ?_
  refine WP.seq ?_
  refine WP.reg ?_
  refine WL.q (Wn.no rfl) rfl rfl (R.move (v := (.slice a2 n2 cap2)) rfl) ?_
  refine WL.q (Wn.no rfl) rfl rfl (R.lenS (a := a2) (m := n2) rfl rfl Try.underlying60) ?_
  refine WL.q (Wn.no rfl) rfl rfl (R.move (v := (vi 0)) rfl) ?_
  refine WL.nil ?_
  refine thn_n ?_
  refine WP.block ?_
  have hf_11 := Own.blk (h_9.own (.head _))
  have h_12 := h_9.rowView
  have h_13 := h_12.slsNil
  have h_14 := h_13.rowNil 23 1
  refine WP.loopG (G := Nat × Option Addr × Nat × List Value × List (List UInt8) × Option Addr × Nat × Nat × List UInt8) [4, 5, 6, 7, 9, 16, 17, 18, 19, 20, 21, 22, 23, 24, 25, 26, 27, 28, 29, 30, 31, 32, 33, 34] (fun (k, oa, oc, xs, ls, ra, rc, z, r) => [(6, (.slice oa k oc)), (7, (.slice ra z rc)), (16, (vi ((k : Nat) : Int)))]) (fun (k, oa, oc, xs, ls, ra, rc, z, r) m w1 => HP w w1 [.row oa k oc 23 1 xs, .pin (sblks xs) (fun w => Sls w xs ls), .view ra (r.map vu8), .view a2 ((ns.map Int.ofNat).map vi64), .view a (bs.map vu8)] ∧ (k ≤ n2) ∧ (r.length = z) ∧ (z ≤ rc) ∧ (z ≤ n) ∧ (ls.length = k) ∧ (∀ b ∈ sblks xs, w.heap.size ≤ b) ∧ (∀ b ∈ (Ent.view ra (r.map vu8)).blocks, w.heap.size ≤ b) ∧ (Go.Wr.cutL ns bs = (Go.Wr.cutL (ns.drop k) r).map (ls ++ ·)) ∧ m = n2 - k) ⟨(0, none, 0, [], [], a_4, cap_5, n, bs), _, ⟨rfl, rfl, rfl, trivial⟩, h_14, (by omega), hl, (by omega), Nat.le_refl n, rfl, (fun b hb => by cases hb), hf_11, (by rw [List.drop_zero]; cases Go.Wr.cutL ns bs <;> simp), rfl⟩ ?_
  rintro ⟨k, oa, oc, xs, ls, ra, rc, z, r⟩ m_17 J_18 w_15 ⟨h_16, hk, hz, hrc, hrn, hkl, hf1, hf2, hsp, rfl⟩
  refine WP.seq ?_
  refine WP.reg ?_
  refine WL.q (Wn.no rfl) rfl rfl (R.bin (v := (.bool (decide ((((k : Nat) : Int) : Int) < ((n2 : Nat) : Int))))) rfl rfl (bi_lss (r := decide ((((k : Nat) : Int) : Int) < ((n2 : Nat) : Int))) rfl)) ?_
  refine WL.nil ?_
  refine thn_n ?_
  refine WP.seq ?_
  refine WP.cond (b := decide ((((k : Nat) : Int) : Int) < ((n2 : Nat) : Int))) rfl (fun c_19 => ?_) (fun c_19 => ?_)
  · have p_20 := of_decide_eq_true c_19
    refine WP.skip ?_
    refine thn_n ?_
    refine WP.seq ?_
    refine WP.block ?_
    refine WP.seq ?_
    refine WP.reg ?_
    refine WL.q (Wn.no rfl) rfl rfl (R.indexS (a := a2) (i := k) (off := k) (xs := (ns.map Int.ofNat).map vi64) rfl rfl rfl (by omega) (viewV (h_16.ok _ (.tail _ (.tail _ (.tail _ (.head _)))))) (lt_len (K := n2) (len_map ((List.length_map ..).trans hl2)) (by omega)) Try.underlying60 Try.sizeOf3 (Nat.mul_one _).symm) ?_
    refine WL.q (Wn.no rfl) rfl rfl (R.loadG (a := a2) (i := k) (xs := (ns.map Int.ofNat).map vi64) (v := (vi ((ns.getD k 0 : Nat) : Int))) rfl (viewV (h_16.ok _ (.tail _ (.tail _ (.tail _ (.head _)))))) Try.isAgg3 (Go.Wr.ints_get (by omega))) ?_
    refine WL.q (Wn.no rfl) rfl rfl (R.assign (v := (vi ((ns.getD k 0 : Nat) : Int))) rfl) ?_
    refine WL.nil ?_
    refine thn_n ?_
    refine WP.seq ?_
    refine WP.seq ?_
    refine WP.reg ?_
    refine WL.q (Wn.no rfl) rfl rfl (R.move (v := (vi ((ns.getD k 0 : Nat) : Int))) rfl) ?_
    refine WL.q (Wn.no rfl) rfl rfl (R.move (v := (.slice ra z rc)) rfl) ?_
    refine WL.q (Wn.no rfl) rfl rfl (R.lenS (a := ra) (m := z) rfl rfl Try.underlying23) ?_
    refine WL.q (Wn.no rfl) rfl rfl (R.bin (v := (.bool (decide ((((ns.getD k 0 : Nat) : Int) : Int) > ((z : Nat) : Int))))) rfl rfl (bi_gtr (r := decide ((((ns.getD k 0 : Nat) : Int) : Int) > ((z : Nat) : Int))) rfl)) ?_
    refine WL.nil ?_
    refine thn_n ?_
    refine WP.cond (b := decide ((((ns.getD k 0 : Nat) : Int) : Int) > ((z : Nat) : Int))) rfl (fun c_21 => ?_) (fun c_21 => ?_)
    · have p_22 := of_decide_eq_true c_21
      refine WP.seq ?_
      refine WP.reg ?_
      refine WL.q (Wn.no rfl) rfl rfl (R.assign (v := (.slice none 0 0)) rfl) ?_
      refine WL.q (Wn.no rfl) rfl rfl (R.assign (v := (vi 4)) rfl) ?_
      refine WL.nil ?_
      refine thn_n ?_
      refine WP.ret ?_
      refine thn_r ?_
      refine inb_r ?_
      refine thn_r ?_
      refine thn_r ?_
      refine inb_r ?_
      refine thn_r ?_
      refine ret_of Try.results50 (RV.tmp (v := (.slice none 0 0)) rfl (RV.tmp (v := (vi 4)) rfl RV.nil)) ?_
      exact ⟨rfl, h_16.chgS⟩
    · have p_23 := of_decide_eq_false c_21
      refine WP.skip ?_
      refine thn_n ?_
      refine WP.drawT (SL w.heap.size [.pin (sblks xs) (fun w => Sls w xs ls), .view ra (r.map vu8), .view a2 ((ns.map Int.ofNat).map vi64), .view a (bs.map vu8)]) (.q 0 (.q 1 (.q 2 (.q 3 (.q 4 (.q 7 (.q 8 (.q 9 (.s 5 (.s 6 (.q 10 (.q 11 .nil)))))))))))) (by kernel_rfl) (by kernel_rfl) rfl (by kernel_rfl) (fun w_24 hc_26 => (SL.cons ((h_16.same hc_26).ok _ (.tail _ (.head _))) (SL.cons ((h_16.same hc_26).ok _ (.tail _ (.tail _ (.head _)))) (SL.cons ((h_16.same hc_26).ok _ (.tail _ (.tail _ (.tail _ (.head _))))) (SL.cons ((h_16.same hc_26).ok _ (.tail _ (.tail _ (.tail _ (.tail _ (.head _)))))) (SL.nil _ _)))))) (fun w_24 hc_26 => ?_)
      have h_25 := h_16.same hc_26
      refine WT.q rfl (Wn.no rfl) rfl rfl (fun wq hS => R.move (v := (.slice oa k oc)) rfl) ?_
      refine WT.q rfl (Wn.no rfl) rfl rfl (fun wq hS => R.move (v := (.slice ra z rc)) rfl) ?_
      refine WT.q rfl (Wn.no rfl) rfl rfl (fun wq hS => R.move (v := (vi ((ns.getD k 0 : Nat) : Int))) rfl) ?_
      refine WT.q rfl (Wn.no rfl) rfl rfl (fun wq hS => R.move (v := (vi ((ns.getD k 0 : Nat) : Int))) rfl) ?_
      refine WT.q rfl (Wn.no rfl) rfl rfl (fun wq hS => R.sliceS3 (a := ra) (len := z) (l := 0) (h := ns.getD k 0) (m := ns.getD k 0) rfl EvB.dflt rfl rfl rfl rfl (by omega) (by omega) (by omega) Try.underlying23 Try.sizeOf5) ?_
      refine WT.q rfl (Wn.no rfl) rfl rfl (fun wq hS => R.move (v := (.slice ra z rc)) rfl) ?_
      refine WT.q rfl (Wn.no rfl) rfl rfl (fun wq hS => R.move (v := (vi ((ns.getD k 0 : Nat) : Int))) rfl) ?_
      refine WT.q rfl (Wn.no rfl) rfl rfl (fun wq hS => R.sliceS (a := ra) (len := z) (l := ns.getD k 0) (h := z) rfl (EvB.it (l := ns.getD k 0) rfl rfl) EvB.dflt (by omega) (by omega) Try.underlying23 Try.sizeOf5) ?_
      refine WT.s ?_
      refine Op1.one rfl (Wn.no rfl) ?_
      refine WL.buildSl (vs := [(0, (.slice (slA ra 0 (ns.getD k 0) 1) (ns.getD k 0) (ns.getD k 0)))]) (cs := [(.slice (slA ra 0 (ns.getD k 0) 1) (ns.getD k 0) (ns.getD k 0))]) h_25 Try.underlying40 Try.sizeOf23 (zv Try.typeInfo23 rfl) rfl rfl (by kernel_rfl) rfl (by simp [Value.oneCell']) rfl rfl (fun b_27 w_28 h_29 => ?_)
      refine WL.nil ?_
      refine ⟨(SL.cons (h_29.ok _ (.tail _ (.tail _ (.head _)))) (SL.cons (h_29.ok _ (.tail _ (.tail _ (.tail _ (.head _))))) (SL.cons (h_29.ok _ (.tail _ (.tail _ (.tail _ (.tail _ (.head _)))))) (SL.cons (h_29.ok _ (.tail _ (.tail _ (.tail _ (.tail _ (.tail _ (.head _))))))) (SL.nil _ _))))), ?_⟩
      refine WT.s ?_
      refine Op1.one rfl (Wn.no rfl) ?_
      refine WL.append (km := k + 1) (xs := xs) (ys := [(.slice (slA ra 0 (ns.getD k 0) 1) (ns.getD k 0) (ns.getD k 0))]) (zs := xs ++ [(.slice (slA ra 0 (ns.getD k 0) 1) (ns.getD k 0) (ns.getD k 0))]) h_29 rfl rfl el40 (viewB (h_29.ok _ (.head _)) Sg.h) rfl (by simp [Value.oneCell']) rfl (by omega) (by omega) (by omega) (fun _ _ => (At.t At.h)) rfl (fun a_30 c_31 w_32 h_33 => ?_)
      refine WL.nil ?_
      refine ⟨(SL.cons (h_33.ok _ (.tail _ (.tail _ (.head _)))) (SL.cons (h_33.ok _ (.tail _ (.tail _ (.tail _ (.head _))))) (SL.cons (h_33.ok _ (.tail _ (.tail _ (.tail _ (.tail _ (.head _)))))) (SL.cons (h_33.ok _ (.tail _ (.tail _ (.tail _ (.tail _ (.tail _ (.head _))))))) (SL.nil _ _))))), ?_⟩
      refine WT.q rfl (Wn.no rfl) rfl rfl (fun wq hS => R.assign (v := (.slice a_30 (k + 1) c_31)) rfl) ?_
      refine WT.q rfl (Wn.no rfl) rfl rfl (fun wq hS => R.assign (v := (.slice (slA ra (ns.getD k 0) rc 1) (z - (ns.getD k 0)) (rc - (ns.getD k 0)))) rfl) ?_
      refine WT.nil ?_
      refine inb_n ?_
      refine thn_n ?_
      refine WP.reg ?_
      refine WL.q (Wn.no rfl) rfl rfl (R.bin (v := (vi ((k + 1 : Nat) : Int))) rfl rfl (bi_add (c := ((k + 1 : Nat) : Int)) (by omega) (by omega))) ?_
      refine WL.q (Wn.no rfl) rfl rfl (R.move (v := (vi ((k + 1 : Nat) : Int))) rfl) ?_
      refine WL.nil ?_
      refine thn_n ?_
      obtain ⟨h_34, hg1, hg2⟩ := HP.cutPush (n := ns.getD k 0) (q := rc) (m := z) h_33 (.tail _ (.tail _ (.head _))) (.tail _ (.tail _ (.tail _ (.head _)))) hz (by omega) (by omega) hf1 hf2
      have h_35 := h_34.up (Pick.t (Pick.t Pick.h))
      have h_36 := h_35.drop rfl
      have h_37 := h_36.up (Pick.t (Pick.t (Pick.t Pick.h)))
      have h_38 := h_37.drop rfl
      have h_39 := h_38.up (Pick.t (Pick.t (Pick.t Pick.h)))
      have h_40 := h_39.drop rfl
      have h_41 := h_40.up (Pick.t (Pick.t (Pick.t (Pick.t Pick.h))))
      have h_42 := h_41.up (Pick.t (Pick.t (Pick.t (Pick.t Pick.h))))
      have h_43 := h_42.up (Pick.t (Pick.t Pick.h))
      have h_44 := h_43.up (Pick.t (Pick.t (Pick.t Pick.h)))
      have h_45 := h_44.up (Pick.t (Pick.t (Pick.t (Pick.t Pick.h))))
      exact ⟨(k + 1, a_30, c_31, _, _, slA ra (ns.getD k 0) rc 1, rc - (ns.getD k 0), z - (ns.getD k 0), _), _, (by omega), (Ag.upd rfl (Ag.upd rfl (Ag.upd rfl (Ag.upd rfl (Ag.upd rfl (Ag.upd rfl (Ag.upd rfl (Ag.upd rfl (Ag.upd rfl (Ag.upd rfl (Ag.upd rfl (Ag.upd rfl (Ag.upd rfl (Ag.upd rfl (Ag.upd rfl (Ag.upd rfl (Ag.upd rfl (Ag.upd rfl (Ag.upd rfl (Ag.upd rfl (Ag.upd rfl (Ag.upd rfl (Ag.updL rfl (Ag.mix _ _ _)))))))))))))))))))))))), ⟨rfl, rfl, rfl, trivial⟩, h_45, (by omega), (by rw [List.length_drop, hz]), (by omega), (by omega), (by rw [List.length_append, hkl]; rfl), hg1, hg2, (Go.Wr.cut_next hsp (by omega) rfl (by omega)), rfl⟩
  · have p_46 := of_decide_eq_false c_19
    refine WP.exit ?_
    refine thn_x ?_
    refine thn_x ?_
    refine inb_hit ?_
    refine thn_n ?_
    refine WP.seq ?_
    refine WP.seq ?_
    refine WP.reg ?_
    refine WL.q (Wn.no rfl) rfl rfl (R.move (v := (.slice ra z rc)) rfl) ?_
    refine WL.q (Wn.no rfl) rfl rfl (R.lenS (a := ra) (m := z) rfl rfl Try.underlying23) ?_
    refine WL.q (Wn.no rfl) rfl rfl (R.bin (v := (.bool (decide ((((z : Nat) : Int) : Int) > 0)))) rfl rfl (bi_gtr (r := decide ((((z : Nat) : Int) : Int) > 0)) rfl)) ?_
    refine WL.nil ?_
    refine thn_n ?_
    refine WP.cond (b := decide ((((z : Nat) : Int) : Int) > 0)) rfl (fun c_47 => ?_) (fun c_47 => ?_)
    · have p_48 := of_decide_eq_true c_47
      refine WP.seq ?_
      refine WP.reg ?_
      refine WL.q (Wn.no rfl) rfl rfl (R.assign (v := (.slice none 0 0)) rfl) ?_
      refine WL.q (Wn.no rfl) rfl rfl (R.assign (v := (vi 4)) rfl) ?_
      refine WL.nil ?_
      refine thn_n ?_
      refine WP.ret ?_
      refine thn_r ?_
      refine ret_of Try.results50 (RV.tmp (v := (.slice none 0 0)) rfl (RV.tmp (v := (vi 4)) rfl RV.nil)) ?_
      exact ⟨rfl, h_16.chgS⟩
    · have p_49 := of_decide_eq_false c_47
      refine WP.skip ?_
      refine thn_n ?_
      refine WP.seq ?_
      refine WP.reg ?_
      refine WL.q (Wn.no rfl) rfl rfl (R.move (v := (.slice oa k oc)) rfl) ?_
      refine WL.q (Wn.no rfl) rfl rfl (R.assign (v := (.slice oa k oc)) rfl) ?_
      refine WL.q (Wn.no rfl) rfl rfl (R.assign (v := (vi 0)) rfl) ?_
      refine WL.nil ?_
      refine thn_n ?_
      refine WP.ret ?_
      refine ret_of Try.results50 (RV.tmp (v := (.slice oa k oc)) rfl (RV.tmp (v := (vi 0)) rfl RV.nil)) ?_
      have hd := (Go.Wr.cut_end hsp (by omega)).trans (if_pos (List.length_eq_zero_iff.1 (by omega)))
      rw [hd] at hx; cases hx

theorem c_Cut_n (a : Option Addr) (n cap : Nat) (bs : List UInt8) (hl : bs.length = n) (hn : n ≤ 1099511627776) (a2 : Option Addr) (n2 cap2 : Nat) (zs : List Int) (hl2 : zs.length = n2) (hn2 : n2 ≤ 1099511627776) (hx : zs.all nonneg = false) (w : World) (hv : View w a (bs.map vu8)) (hv2 : View w a2 (zs.map vi64)) :
    Cs Try.prog 50 [(.slice a n cap), (.slice a2 n2 cap2)].toArray w (fun v w1 => v = (.tuple [(.slice none 0 0), (vi 2)].toArray) ∧ Chg w w1 []) := by
  refine Cs.of (n := 39) (args := [(.slice a n cap), (.slice a2 n2 cap2)]) Try.func50 rfl rfl rfl ?_
  have h_0 := HP.init w
  have h_01 := h_0.oldV (View.arg hv) rfl (by simp [Ent.mut])
  have h_00 := h_01.oldV (View.arg hv2) rfl (by simp [Ent.mut])
  refine WP.seq ?_
  refine WP.reg ?_
  refine WL.q (Wn.no rfl) rfl rfl (R.assign (v := (.slice none 0 0)) rfl) ?_
  refine WL.q (Wn.no rfl) rfl rfl (R.assign (v := (vi 0)) rfl) ?_
  refine WL.nil ?_
  refine thn_n ?_
  refine WP.seq ?_
  refine WP.seq ?_
  refine WP.reg ?_
  refine WL.q (Wn.no rfl) rfl rfl (R.move (v := (.slice a2 n2 cap2)) rfl) ?_
  refine WL.call (al := [(.slice a2 n2 cap2), (.func (.func 79) [].toArray [].toArray)]) Try.call78 rfl rfl (c_CfZ_f a2 n2 cap2 zs hl2 (by omega) hx _ (viewV (h_00.ok _ (.head _)))) rfl ?_
  rintro _ w_2 ⟨rfl, hc_1⟩
  have h_3 := h_00.same hc_1
  refine WL.nil ?_
  refine thn_n ?_
  refine WP.condT rfl ?_
  refine WP.seq ?_
  refine WP.reg ?_
  refine WL.q (Wn.no rfl) rfl rfl (R.assign (v := (.slice none 0 0)) rfl) ?_
  refine WL.q (Wn.no rfl) rfl rfl (R.assign (v := (vi 2)) rfl) ?_
  refine WL.nil ?_
  refine thn_n ?_
  refine WP.ret ?_
  refine thn_r ?_
  refine ret_of Try.results50 (RV.tmp (v := (.slice none 0 0)) rfl (RV.tmp (v := (vi 2)) rfl RV.nil)) ?_
  exact ⟨rfl, h_3.chgS⟩

theorem c_CutR_t (a : Option Addr) (n cap : Nat) (bs : List UInt8) (hl : bs.length = n) (hn : n ≤ 1099511627776) (a2 : Option Addr) (n2 cap2 : Nat) (ns : List Nat) (hl2 : ns.length = n2) (hn2 : n2 ≤ 1099511627776) (hcap : n ≤ cap) (lr : List (List UInt8)) (hx : Go.Wr.cutL ns bs = some lr) (w : World) (hv : View w a (bs.map vu8)) (hv2 : View w a2 ((ns.map Int.ofNat).map vi64)) :
    Cs Try.prog 51 [(.slice a n cap), (.slice a2 n2 cap2)].toArray w (fun v w1 => ∃ a1 c1 xs, v = .tuple [.slice a1 lr.length c1, vi 0].toArray ∧ Chg w w1 [] ∧ View w1 a1 xs ∧ Sls w1 xs lr ∧ (∀ b ∈ (Ent.view a1 xs).blocks, w.heap.size ≤ b) ∧ ∀ b ∈ sblks xs, b ∈ (Ent.view a (bs.map vu8)).blocks) := by
  refine Cs.of (n := 59) (args := [(.slice a n cap), (.slice a2 n2 cap2)]) Try.func51 rfl rfl rfl ?_
  have h_0 := HP.init w
  have h_01 := h_0.oldV (View.arg hv) rfl (by simp [Ent.mut])
  have h_00 := h_01.oldV (View.arg hv2) rfl (by simp [Ent.mut])
  refine WP.seq ?_
  refine WP.reg ?_
  refine WL.q (Wn.no rfl) rfl rfl (R.assign (v := (.slice none 0 0)) rfl) ?_
  refine WL.q (Wn.no rfl) rfl rfl (R.assign (v := (vi 0)) rfl) ?_
  refine WL.nil ?_
  refine thn_n ?_
  refine WP.seq ?_
  refine WP.seq ?_
  refine WP.reg ?_
  refine WL.q (Wn.no rfl) rfl rfl (R.assign (v := (vi 0)) rfl) ?_
  refine WL.nil ?_
  refine thn_n ?_
  refine WP.block ?_
  refine WP.loopG (G := Nat) [4, 5, 6, 10, 11, 12, 13, 14, 15, 16, 17, 18, 19, 20] (fun i => [(6, (vi ((i : Nat) : Int)))]) (fun i m w1 => HP w w1 [.view a2 ((ns.map Int.ofNat).map vi64), .view a (bs.map vu8)] ∧ (i ≤ n2) ∧ m = n2 - i) ⟨0, _, ⟨rfl, trivial⟩, h_00, (by omega), rfl⟩ ?_
  rintro i m_3 J_4 w_1 ⟨h_2, hi, rfl⟩
  refine WP.seq ?_
  refine WP.seq ?_
  refine WP.reg ?_
  refine WL.q (Wn.no rfl) rfl rfl (R.move (v := (vi ((i : Nat) : Int))) rfl) ?_
  refine WL.q (Wn.no rfl) rfl rfl (R.move (v := (.slice a2 n2 cap2)) rfl) ?_
  refine WL.q (Wn.no rfl) rfl rfl (R.lenS (a := a2) (m := n2) rfl rfl Try.underlying60) ?_
  refine WL.q (Wn.no rfl) rfl rfl (R.bin (v := (.bool (decide ((((i : Nat) : Int) : Int) < ((n2 : Nat) : Int))))) rfl rfl (bi_lss (r := decide ((((i : Nat) : Int) : Int) < ((n2 : Nat) : Int))) rfl)) ?_
  refine WL.nil ?_
  refine thn_n ?_
  refine WP.cond (b := decide ((((i : Nat) : Int) : Int) < ((n2 : Nat) : Int))) rfl (fun c_5 => ?_) (fun c_5 => ?_)
  · have p_6 := of_decide_eq_true c_5
    refine WP.skip ?_
    refine thn_n ?_
    refine WP.seq ?_
    refine WP.block ?_
    refine WP.seq ?_
    refine WP.reg ?_
    refine WL.q (Wn.no rfl) rfl rfl (R.move (v := (.slice a2 n2 cap2)) rfl) ?_
    refine WL.q (Wn.no rfl) rfl rfl (R.move (v := (vi ((i : Nat) : Int))) rfl) ?_
    refine WL.q (Wn.no rfl) rfl rfl (R.indexS (a := a2) (i := i) (off := i) (xs := (ns.map Int.ofNat).map vi64) rfl rfl rfl (by omega) (viewV (h_2.ok _ (.head _))) (lt_len (K := n2) (len_map ((List.length_map ..).trans hl2)) (by omega)) Try.underlying60 Try.sizeOf3 (Nat.mul_one _).symm) ?_
    refine WL.q (Wn.no rfl) rfl rfl (R.loadG (a := a2) (i := i) (xs := (ns.map Int.ofNat).map vi64) (v := (vi ((ns.getD i 0 : Nat) : Int))) rfl (viewV (h_2.ok _ (.head _))) Try.isAgg3 (Go.Wr.ints_get (by omega))) ?_
    refine WL.q (Wn.no rfl) rfl rfl (R.bin (v := (.bool (decide ((((ns.getD i 0 : Nat) : Int) : Int) < 0)))) rfl rfl (bi_lss (r := decide ((((ns.getD i 0 : Nat) : Int) : Int) < 0)) rfl)) ?_
    refine WL.nil ?_
    refine thn_n ?_
    refine WP.condF (congrArg Value.bool (decide_eq_false (by omega))) ?_
    refine WP.skip ?_
    refine inb_n ?_
    refine thn_n ?_
    refine WP.reg ?_
    refine WL.q (Wn.no rfl) rfl rfl (R.move (v := (vi ((i : Nat) : Int))) rfl) ?_
    refine WL.q (Wn.no rfl) rfl rfl (R.bin (v := (vi ((i + 1 : Nat) : Int))) rfl rfl (bi_add (c := ((i + 1 : Nat) : Int)) (by omega) (by omega))) ?_
    refine WL.q (Wn.no rfl) rfl rfl (R.assign (v := (vi ((i + 1 : Nat) : Int))) rfl) ?_
    refine WL.nil ?_
    refine thn_n ?_
    exact ⟨i + 1, _, (by omega), (Ag.upd rfl (Ag.upd rfl (Ag.upd rfl (Ag.upd rfl (Ag.upd rfl (Ag.upd rfl (Ag.upd rfl (Ag.upd rfl (Ag.upd rfl (Ag.upd rfl (Ag.upd rfl (Ag.upd rfl (Ag.updL rfl (Ag.mix _ _ _)))))))))))))), ⟨rfl, trivial⟩, h_2, (by omega), rfl⟩
  · have p_7 := of_decide_eq_false c_5
    refine WP.exit ?_
    refine thn_x ?_
    refine thn_x ?_
    refine inb_hit ?_
    refine thn_n ?_
    refine WP.seq ?_
    refine WP.reg ?_
    refine WL.q (Wn.no rfl) rfl rfl (R.assign (v := (.slice none 0 0)) rfl) ?_
    refine WL.nil ?_
    refine thn_n ?_
    refine WP.seq ?_
    refine WP.reg ?_
    refine WL.q (Wn.no rfl) rfl rfl (R.assign (v := (vi 0)) rfl) ?_
    refine WL.nil ?_
    refine thn_n ?_
    refine WP.seq ?_
    refine WP.seq ?_
    refine WP.reg ?_
    refine WL.q (Wn.no rfl) rfl rfl (R.assign (v := (vi 0)) rfl) ?_
    refine WL.nil ?_
    refine thn_n ?_
    refine WP.block ?_
    have h_8 := h_2.slsNil
    have h_9 := h_8.rowNil 23 1
    refine WP.loopG (G := Nat × Option Addr × Nat × List Value × List (List UInt8) × Nat) [4, 5, 7, 8, 9, 21, 22, 23, 24, 25, 26, 27, 28, 29, 30, 31, 32, 33, 34, 35, 36, 37, 38, 39, 40, 41, 42, 43, 44, 45, 46, 47, 48, 49, 50, 51, 52, 53] (fun (k, oa, oc, xs, ls, p) => [(7, (.slice oa k oc)), (8, (vi ((p : Nat) : Int))), (9, (vi ((k : Nat) : Int)))]) (fun (k, oa, oc, xs, ls, p) m w1 => HP w w1 [.row oa k oc 23 1 xs, .pin (sblks xs) (fun w => Sls w xs ls), .view a2 ((ns.map Int.ofNat).map vi64), .view a (bs.map vu8)] ∧ (k ≤ n2) ∧ (p ≤ n) ∧ (ls.length = k) ∧ (∀ b ∈ sblks xs, b ∈ (Ent.view a (bs.map vu8)).blocks) ∧ (Go.Wr.cutL ns bs = (Go.Wr.cutL (ns.drop k) (bs.drop p)).map (ls ++ ·)) ∧ m = n2 - k) ⟨(0, none, 0, [], [], 0), _, ⟨rfl, rfl, rfl, trivial⟩, h_9, (by omega), (by omega), rfl, (fun b hb => by cases hb), (by rw [List.drop_zero, List.drop_zero]; cases Go.Wr.cutL ns bs <;> simp), rfl⟩ ?_
    rintro ⟨k, oa, oc, xs, ls, p⟩ m_12 J_13 w_10 ⟨h_11, hk, hp, hkl, hf1, hsp, rfl⟩
    refine WP.seq ?_
    refine WP.seq ?_
    refine WP.reg ?_
    refine WL.q (Wn.no rfl) rfl rfl (R.move (v := (vi ((k : Nat) : Int))) rfl) ?_
    refine WL.q (Wn.no rfl) rfl rfl (R.move (v := (.slice a2 n2 cap2)) rfl) ?_
    refine WL.q (Wn.no rfl) rfl rfl (R.lenS (a := a2) (m := n2) rfl rfl Try.underlying60) ?_
    refine WL.q (Wn.no rfl) rfl rfl (R.bin (v := (.bool (decide ((((k : Nat) : Int) : Int) < ((n2 : Nat) : Int))))) rfl rfl (bi_lss (r := decide ((((k : Nat) : Int) : Int) < ((n2 : Nat) : Int))) rfl)) ?_
    refine WL.nil ?_
    refine thn_n ?_
    refine WP.cond (b := decide ((((k : Nat) : Int) : Int) < ((n2 : Nat) : Int))) rfl (fun c_14 => ?_) (fun c_14 => ?_)
    · have p_15 := of_decide_eq_true c_14
      refine WP.skip ?_
      refine thn_n ?_
      refine WP.seq ?_
      refine WP.block ?_
      refine WP.seq ?_
      refine WP.seq ?_
      refine WP.reg ?_
      refine WL.q (Wn.no rfl) rfl rfl (R.move (v := (.slice a2 n2 cap2)) rfl) ?_
      refine WL.q (Wn.no rfl) rfl rfl (R.move (v := (vi ((k : Nat) : Int))) rfl) ?_
      refine WL.q (Wn.no rfl) rfl rfl (R.indexS (a := a2) (i := k) (off := k) (xs := (ns.map Int.ofNat).map vi64) rfl rfl rfl (by omega) (viewV (h_11.ok _ (.tail _ (.tail _ (.head _))))) (lt_len (K := n2) (len_map ((List.length_map ..).trans hl2)) (by omega)) Try.underlying60 Try.sizeOf3 (Nat.mul_one _).symm) ?_
      refine WL.q (Wn.no rfl) rfl rfl (R.loadG (a := a2) (i := k) (xs := (ns.map Int.ofNat).map vi64) (v := (vi ((ns.getD k 0 : Nat) : Int))) rfl (viewV (h_11.ok _ (.tail _ (.tail _ (.head _))))) Try.isAgg3 (Go.Wr.ints_get (by omega))) ?_
      refine WL.q (Wn.no rfl) rfl rfl (R.move (v := (.slice a n cap)) rfl) ?_
      refine WL.q (Wn.no rfl) rfl rfl (R.lenS (a := a) (m := n) rfl rfl Try.underlying23) ?_
      refine WL.q (Wn.no rfl) rfl rfl (R.move (v := (vi ((p : Nat) : Int))) rfl) ?_
      refine WL.q (Wn.no rfl) rfl rfl (R.bin (v := (vi ((n - p : Nat) : Int))) rfl rfl (bi_sub (c := ((n - p : Nat) : Int)) (by omega) (by omega))) ?_
      refine WL.q (Wn.no rfl) rfl rfl (R.bin (v := (.bool (decide ((((ns.getD k 0 : Nat) : Int) : Int) > ((n - p : Nat) : Int))))) rfl rfl (bi_gtr (r := decide ((((ns.getD k 0 : Nat) : Int) : Int) > ((n - p : Nat) : Int))) rfl)) ?_
      refine WL.nil ?_
      refine thn_n ?_
      refine WP.cond (b := decide ((((ns.getD k 0 : Nat) : Int) : Int) > ((n - p : Nat) : Int))) rfl (fun c_16 => ?_) (fun c_16 => ?_)
      · have p_17 := of_decide_eq_true c_16
        refine WP.seq ?_
        refine WP.reg ?_
        refine WL.q (Wn.no rfl) rfl rfl (R.assign (v := (.slice none 0 0)) rfl) ?_
        refine WL.q (Wn.no rfl) rfl rfl (R.assign (v := (vi 4)) rfl) ?_
        refine WL.nil ?_
        refine thn_n ?_
        refine WP.ret ?_
        refine thn_r ?_
        refine inb_r ?_
        refine thn_r ?_
        refine thn_r ?_
        refine inb_r ?_
        refine thn_r ?_
        refine ret_of Try.results51 (RV.tmp (v := (.slice none 0 0)) rfl (RV.tmp (v := (vi 4)) rfl RV.nil)) ?_
        have hp_18 := p_7
        have hp_19 := p_15
        have hp_20 := p_17
        have hld : (bs.drop p).length = n - p := by rw [List.length_drop, hl]
        have hb := (Go.Wr.opt_none hsp (Go.Wr.cut_big (by omega) rfl (by omega)))
        rw [hx] at hb; cases hb
      · have p_21 := of_decide_eq_false c_16
        refine WP.skip ?_
        refine thn_n ?_
        refine WP.seq ?_
        refine WP.reg ?_
        refine WL.q (Wn.no rfl) rfl rfl (R.move (v := (.slice oa k oc)) rfl) ?_
        refine WL.q (Wn.no rfl) rfl rfl (R.move (v := (.slice a n cap)) rfl) ?_
        refine WL.q (Wn.no rfl) rfl rfl (R.move (v := (vi ((p : Nat) : Int))) rfl) ?_
        refine WL.q (Wn.no rfl) rfl rfl (R.move (v := (vi ((p : Nat) : Int))) rfl) ?_
        refine WL.q (Wn.no rfl) rfl rfl (R.move (v := (.slice a2 n2 cap2)) rfl) ?_
        refine WL.q (Wn.no rfl) rfl rfl (R.move (v := (vi ((k : Nat) : Int))) rfl) ?_
        refine WL.q (Wn.no rfl) rfl rfl (R.indexS (a := a2) (i := k) (off := k) (xs := (ns.map Int.ofNat).map vi64) rfl rfl rfl (by omega) (viewV (h_11.ok _ (.tail _ (.tail _ (.head _))))) (lt_len (K := n2) (len_map ((List.length_map ..).trans hl2)) (by omega)) Try.underlying60 Try.sizeOf3 (Nat.mul_one _).symm) ?_
        refine WL.q (Wn.no rfl) rfl rfl (R.loadG (a := a2) (i := k) (xs := (ns.map Int.ofNat).map vi64) (v := (vi ((ns.getD k 0 : Nat) : Int))) rfl (viewV (h_11.ok _ (.tail _ (.tail _ (.head _))))) Try.isAgg3 (Go.Wr.ints_get (by omega))) ?_
        refine WL.q (Wn.no rfl) rfl rfl (R.bin (v := (vi ((p + (ns.getD k 0) : Nat) : Int))) rfl rfl (bi_add (c := ((p + (ns.getD k 0) : Nat) : Int)) (by omega) (by omega))) ?_
        refine WL.q (Wn.no rfl) rfl rfl (R.sliceS (a := a) (len := n) (l := p) (h := p + (ns.getD k 0)) rfl (EvB.it (l := p) rfl rfl) (EvB.it (l := p + (ns.getD k 0)) rfl rfl) (by omega) (by omega) Try.underlying23 Try.sizeOf5) ?_
        refine WL.buildSl (vs := [(0, (.slice (slA a p cap 1) (p + (ns.getD k 0) - p) (cap - p)))]) (cs := [(.slice (slA a p cap 1) (p + (ns.getD k 0) - p) (cap - p))]) h_11 Try.underlying40 Try.sizeOf23 (zv Try.typeInfo23 rfl) rfl rfl (by kernel_rfl) rfl (by simp [Value.oneCell']) rfl rfl (fun b_22 w_23 h_24 => ?_)
        refine WL.append (km := k + 1) (xs := xs) (ys := [(.slice (slA a p cap 1) (p + (ns.getD k 0) - p) (cap - p))]) (zs := xs ++ [(.slice (slA a p cap 1) (p + (ns.getD k 0) - p) (cap - p))]) h_24 rfl rfl el40 (viewB (h_24.ok _ (.head _)) Sg.h) rfl (by simp [Value.oneCell']) rfl (by omega) (by omega) (by omega) (fun _ _ => (At.t At.h)) rfl (fun a_25 c_26 w_27 h_28 => ?_)
        refine WL.q (Wn.no rfl) rfl rfl (R.assign (v := (.slice a_25 (k + 1) c_26)) rfl) ?_
        refine WL.nil ?_
        refine thn_n ?_
        refine WP.reg ?_
        refine WL.q (Wn.no rfl) rfl rfl (R.move (v := (vi ((p : Nat) : Int))) rfl) ?_
        refine WL.q (Wn.no rfl) rfl rfl (R.move (v := (.slice a2 n2 cap2)) rfl) ?_
        refine WL.q (Wn.no rfl) rfl rfl (R.move (v := (vi ((k : Nat) : Int))) rfl) ?_
        refine WL.q (Wn.no rfl) rfl rfl (R.indexS (a := a2) (i := k) (off := k) (xs := (ns.map Int.ofNat).map vi64) rfl rfl rfl (by omega) (viewV (h_28.ok _ (.tail _ (.tail _ (.tail _ (.head _)))))) (lt_len (K := n2) (len_map ((List.length_map ..).trans hl2)) (by omega)) Try.underlying60 Try.sizeOf3 (Nat.mul_one _).symm) ?_
        refine WL.q (Wn.no rfl) rfl rfl (R.loadG (a := a2) (i := k) (xs := (ns.map Int.ofNat).map vi64) (v := (vi ((ns.getD k 0 : Nat) : Int))) rfl (viewV (h_28.ok _ (.tail _ (.tail _ (.tail _ (.head _)))))) Try.isAgg3 (Go.Wr.ints_get (by omega))) ?_
        refine WL.q (Wn.no rfl) rfl rfl (R.bin (v := (vi ((p + (ns.getD k 0) : Nat) : Int))) rfl rfl (bi_add (c := ((p + (ns.getD k 0) : Nat) : Int)) (by omega) (by omega))) ?_
        refine WL.q (Wn.no rfl) rfl rfl (R.assign (v := (vi ((p + (ns.getD k 0) : Nat) : Int))) rfl) ?_
        refine WL.nil ?_
        refine inb_n ?_
        refine thn_n ?_
        refine WP.reg ?_
        refine WL.q (Wn.no rfl) rfl rfl (R.move (v := (vi ((k : Nat) : Int))) rfl) ?_
        refine WL.q (Wn.no rfl) rfl rfl (R.bin (v := (vi ((k + 1 : Nat) : Int))) rfl rfl (bi_add (c := ((k + 1 : Nat) : Int)) (by omega) (by omega))) ?_
        refine WL.q (Wn.no rfl) rfl rfl (R.assign (v := (vi ((k + 1 : Nat) : Int))) rfl) ?_
        refine WL.nil ?_
        refine thn_n ?_
        obtain ⟨h_29, hg1⟩ := HP.partPush (i := p) (q := cap) (k := p + (ns.getD k 0) - p) (c := cap - p) h_28 (.tail _ (.tail _ (.head _))) (.tail _ (.tail _ (.tail _ (.tail _ (.head _))))) hl (by omega) (by omega) (by omega) hf1
        have h_30 := h_29.up (Pick.t Pick.h)
        have h_31 := h_30.drop rfl
        have h_32 := h_31.up (Pick.t (Pick.t Pick.h))
        have h_33 := h_32.drop rfl
        have h_34 := h_33.up (Pick.t (Pick.t (Pick.t Pick.h)))
        have h_35 := h_34.up (Pick.t (Pick.t (Pick.t Pick.h)))
        have h_36 := h_35.up (Pick.t (Pick.t Pick.h))
        have h_37 := h_36.up (Pick.t (Pick.t (Pick.t Pick.h)))
        exact ⟨(k + 1, a_25, c_26, _, _, p + (ns.getD k 0)), _, (by omega), (Ag.upd rfl (Ag.upd rfl (Ag.upd rfl (Ag.upd rfl (Ag.upd rfl (Ag.upd rfl (Ag.upd rfl (Ag.upd rfl (Ag.upd rfl (Ag.upd rfl (Ag.upd rfl (Ag.upd rfl (Ag.upd rfl (Ag.upd rfl (Ag.upd rfl (Ag.upd rfl (Ag.upd rfl (Ag.upd rfl (Ag.upd rfl (Ag.upd rfl (Ag.upd rfl (Ag.upd rfl (Ag.upd rfl (Ag.upd rfl (Ag.upd rfl (Ag.upd rfl (Ag.upd rfl (Ag.upd rfl (Ag.upd rfl (Ag.upd rfl (Ag.upd rfl (Ag.upd rfl (Ag.upd rfl (Ag.upd rfl (Ag.upd rfl (Ag.upd rfl (Ag.updL rfl (Ag.mix _ _ _)))))))))))))))))))))))))))))))))))))), ⟨rfl, rfl, rfl, trivial⟩, h_37, (by omega), (by omega), (by rw [List.length_append, hkl]; rfl), hg1, (Go.Wr.cut_nextR hsp (by omega) rfl (by omega) (by omega)), rfl⟩
    · have p_38 := of_decide_eq_false c_14
      refine WP.exit ?_
      refine thn_x ?_
      refine thn_x ?_
      refine inb_hit ?_
      refine thn_n ?_
      refine WP.seq ?_
      refine WP.seq ?_
      refine WP.reg ?_
      refine WL.q (Wn.no rfl) rfl rfl (R.move (v := (vi ((p : Nat) : Int))) rfl) ?_
      refine WL.q (Wn.no rfl) rfl rfl (R.move (v := (.slice a n cap)) rfl) ?_
      refine WL.q (Wn.no rfl) rfl rfl (R.lenS (a := a) (m := n) rfl rfl Try.underlying23) ?_
      refine WL.q (Wn.no rfl) rfl rfl (R.bin (v := (.bool (decide ((((p : Nat) : Int) : Int) ≠ ((n : Nat) : Int))))) rfl rfl (bi_neq (r := decide ((((p : Nat) : Int) : Int) ≠ ((n : Nat) : Int))) rfl)) ?_
      refine WL.nil ?_
      refine thn_n ?_
      refine WP.cond (b := decide ((((p : Nat) : Int) : Int) ≠ ((n : Nat) : Int))) rfl (fun c_39 => ?_) (fun c_39 => ?_)
      · have p_40 := of_decide_eq_true c_39
        refine WP.seq ?_
        refine WP.reg ?_
        refine WL.q (Wn.no rfl) rfl rfl (R.assign (v := (.slice none 0 0)) rfl) ?_
        refine WL.q (Wn.no rfl) rfl rfl (R.assign (v := (vi 4)) rfl) ?_
        refine WL.nil ?_
        refine thn_n ?_
        refine WP.ret ?_
        refine thn_r ?_
        refine ret_of Try.results51 (RV.tmp (v := (.slice none 0 0)) rfl (RV.tmp (v := (vi 4)) rfl RV.nil)) ?_
        have hp_41 := p_7
        have hp_42 := p_38
        have hp_43 := p_40
        have hld : (bs.drop p).length = n - p := by rw [List.length_drop, hl]
        have hb := ((Go.Wr.cut_end hsp (by omega)).trans (if_neg (fun e => by rw [e] at hld; simp at hld; omega)))
        rw [hx] at hb; cases hb
      · have p_44 := of_decide_eq_false c_39
        refine WP.skip ?_
        refine thn_n ?_
        refine WP.seq ?_
        refine WP.reg ?_
        refine WL.q (Wn.no rfl) rfl rfl (R.move (v := (.slice oa k oc)) rfl) ?_
        refine WL.q (Wn.no rfl) rfl rfl (R.assign (v := (.slice oa k oc)) rfl) ?_
        refine WL.q (Wn.no rfl) rfl rfl (R.assign (v := (vi 0)) rfl) ?_
        refine WL.nil ?_
        refine thn_n ?_
        refine WP.ret ?_
        refine ret_of Try.results51 (RV.tmp (v := (.slice oa k oc)) rfl (RV.tmp (v := (vi 0)) rfl RV.nil)) ?_
        have hd := (Go.Wr.cut_end hsp (by omega)).trans (if_pos (List.drop_of_length_le (by omega)))
        rw [hd] at hx; obtain rfl := Option.some.inj hx
        refine ⟨oa, oc, xs, by rw [hkl]; rfl, h_11.chgS, (ownView (h_11.ok _ (.head _))), (h_11.ok _ (.tail _ (.head _))).1, (Own.blk (h_11.own (.head _))), hf1⟩

theorem c_CutR_f (a : Option Addr) (n cap : Nat) (bs : List UInt8) (hl : bs.length = n) (hn : n ≤ 1099511627776) (a2 : Option Addr) (n2 cap2 : Nat) (ns : List Nat) (hl2 : ns.length = n2) (hn2 : n2 ≤ 1099511627776) (hcap : n ≤ cap) (hx : Go.Wr.cutL ns bs = none) (w : World) (hv : View w a (bs.map vu8)) (hv2 : View w a2 ((ns.map Int.ofNat).map vi64)) :
    Cs Try.prog 51 [(.slice a n cap), (.slice a2 n2 cap2)].toArray w (fun v w1 => v = (.tuple [(.slice none 0 0), (vi 4)].toArray) ∧ Chg w w1 []) := by
  refine Cs.of (n := 59) (args := [(.slice a n cap), (.slice a2 n2 cap2)]) Try.func51 rfl rfl rfl ?_
  have h_0 := HP.init w
  have h_01 := h_0.oldV (View.arg hv) rfl (by simp [Ent.mut])
  have h_00 := h_01.oldV (View.arg hv2) rfl (by simp [Ent.mut])
  refine WP.seq ?_
  refine WP.reg ?_
  refine WL.q (Wn.no rfl) rfl rfl (R.assign (v := (.slice none 0 0)) rfl) ?_
  refine WL.q (Wn.no rfl) rfl rfl (R.assign (v := (vi 0)) rfl) ?_
  refine WL.nil ?_
  refine thn_n ?_
  refine WP.seq ?_
  refine WP.seq ?_
  refine WP.reg ?_
  refine WL.q (Wn.no rfl) rfl rfl (R.assign (v := (vi 0)) rfl) ?_
  refine WL.nil ?_
  refine thn_n ?_
  refine WP.block ?_
  refine WP.loopG (G := Nat) [4, 5, 6, 10, 11, 12, 13, 14, 15, 16, 17, 18, 19, 20] (fun i => [(6, (vi ((i : Nat) : Int)))]) (fun i m w1 => HP w w1 [.view a2 ((ns.map Int.ofNat).map vi64), .view a (bs.map vu8)] ∧ (i ≤ n2) ∧ m = n2 - i) ⟨0, _, ⟨rfl, trivial⟩, h_00, (by omega), rfl⟩ ?_
  rintro i m_3 J_4 w_1 ⟨h_2, hi, rfl⟩
  refine WP.seq ?_
  refine WP.seq ?_
  refine WP.reg ?_
  refine WL.q (Wn.no rfl) rfl rfl (R.move (v := (vi ((i : Nat) : Int))) rfl) ?_
  refine WL.q (Wn.no rfl) rfl rfl (R.move (v := (.slice a2 n2 cap2)) rfl) ?_
  refine WL.q (Wn.no rfl) rfl rfl (R.lenS (a := a2) (m := n2) rfl rfl Try.underlying60) ?_
  refine WL.q (Wn.no rfl) rfl rfl (R.bin (v := (.bool (decide ((((i : Nat) : Int) : Int) < ((n2 : Nat) : Int))))) rfl rfl (bi_lss (r := decide ((((i : Nat) : Int) : Int) < ((n2 : Nat) : Int))) rfl)) ?_
  refine WL.nil ?_
  refine thn_n ?_
  refine WP.cond (b := decide ((((i : Nat) : Int) : Int) < ((n2 : Nat) : Int))) rfl (fun c_5 => ?_) (fun c_5 => ?_)
  · have p_6 := of_decide_eq_true c_5
    refine WP.skip ?_
    refine thn_n ?_
    refine WP.seq ?_
    refine WP.block ?_
    refine WP.seq ?_
    refine WP.reg ?_
    refine WL.q (Wn.no rfl) rfl rfl (R.move (v := (.slice a2 n2 cap2)) rfl) ?_
    refine WL.q (Wn.no rfl) rfl rfl (R.move (v := (vi ((i : Nat) : Int))) rfl) ?_
    refine WL.q (Wn.no rfl) rfl rfl (R.indexS (a := a2) (i := i) (off := i) (xs := (ns.map Int.ofNat).map vi64) rfl rfl rfl (by omega) (viewV (h_2.ok _ (.head _))) (lt_len (K := n2) (len_map ((List.length_map ..).trans hl2)) (by omega)) Try.underlying60 Try.sizeOf3 (Nat.mul_one _).symm) ?_
    refine WL.q (Wn.no rfl) rfl rfl (R.loadG (a := a2) (i := i) (xs := (ns.map Int.ofNat).map vi64) (v := (vi ((ns.getD i 0 : Nat) : Int))) rfl (viewV (h_2.ok _ (.head _))) Try.isAgg3 (Go.Wr.ints_get (by omega))) ?_
    refine WL.q (Wn.no rfl) rfl rfl (R.bin (v := (.bool (decide ((((ns.getD i 0 : Nat) : Int) : Int) < 0)))) rfl rfl (bi_lss (r := decide ((((ns.getD i 0 : Nat) : Int) : Int) < 0)) rfl)) ?_
    refine WL.nil ?_
    refine thn_n ?_
    refine WP.condF (congrArg Value.bool (decide_eq_false (by omega))) ?_
    refine WP.skip ?_
    refine inb_n ?_
    refine thn_n ?_
    refine WP.reg ?_
    refine WL.q (Wn.no rfl) rfl rfl (R.move (v := (vi ((i : Nat) : Int))) rfl) ?_
    refine WL.q (Wn.no rfl) rfl rfl (R.bin (v := (vi ((i + 1 : Nat) : Int))) rfl rfl (bi_add (c := ((i + 1 : Nat) : Int)) (by omega) (by omega))) ?_
    refine WL.q (Wn.no rfl) rfl rfl (R.assign (v := (vi ((i + 1 : Nat) : Int))) rfl) ?_
    refine WL.nil ?_
    refine thn_n ?_
    exact ⟨i + 1, _, (by omega), (Ag.upd rfl (Ag.upd rfl (Ag.upd rfl (Ag.upd rfl (Ag.upd rfl (Ag.upd rfl (Ag.upd rfl (Ag.upd rfl (Ag.upd rfl (Ag.upd rfl (Ag.upd rfl (Ag.upd rfl (Ag.updL rfl (Ag.mix _ _ _)))))))))))))), ⟨rfl, trivial⟩, h_2, (by omega), rfl⟩
  · have p_7 := of_decide_eq_false c_5
    refine WP.exit ?_
    refine thn_x ?_
    refine thn_x ?_
    refine inb_hit ?_
    refine thn_n ?_
    refine WP.seq ?_
    refine WP.reg ?_
    refine WL.q (Wn.no rfl) rfl rfl (R.assign (v := (.slice none 0 0)) rfl) ?_
    refine WL.nil ?_
    refine thn_n ?_
    refine WP.seq ?_
    refine WP.reg ?_
    refine WL.q (Wn.no rfl) rfl rfl (R.assign (v := (vi 0)) rfl) ?_
    refine WL.nil ?_
    refine thn_n ?_
    refine WP.seq ?_
    refine WP.seq ?_
    refine WP.reg ?_
    refine WL.q (Wn.no rfl) rfl rfl (R.assign (v := (vi 0)) rfl) ?_
    refine WL.nil ?_
    refine thn_n ?_
    refine WP.block ?_
    have h_8 := h_2.slsNil
    have h_9 := h_8.rowNil 23 1
    refine WP.loopG (G := Nat × Option Addr × Nat × List Value × List (List UInt8) × Nat) [4, 5, 7, 8, 9, 21, 22, 23, 24, 25, 26, 27, 28, 29, 30, 31, 32, 33, 34, 35, 36, 37, 38, 39, 40, 41, 42, 43, 44, 45, 46, 47, 48, 49, 50, 51, 52, 53] (fun (k, oa, oc, xs, ls, p) => [(7, (.slice oa k oc)), (8, (vi ((p : Nat) : Int))), (9, (vi ((k : Nat) : Int)))]) (fun (k, oa, oc, xs, ls, p) m w1 => HP w w1 [.row oa k oc 23 1 xs, .pin (sblks xs) (fun w => Sls w xs ls), .view a2 ((ns.map Int.ofNat).map vi64), .view a (bs.map vu8)] ∧ (k ≤ n2) ∧ (p ≤ n) ∧ (ls.length = k) ∧ (∀ b ∈ sblks xs, b ∈ (Ent.view a (bs.map vu8)).blocks) ∧ (Go.Wr.cutL ns bs = (Go.Wr.cutL (ns.drop k) (bs.drop p)).map (ls ++ ·)) ∧ m = n2 - k) ⟨(0, none, 0, [], [], 0), _, ⟨rfl, rfl, rfl, trivial⟩, h_9, (by omega), (by omega), rfl, (fun b hb => by cases hb), (by rw [List.drop_zero, List.drop_zero]; cases Go.Wr.cutL ns bs <;> simp), rfl⟩ ?_
    rintro ⟨k, oa, oc, xs, ls, p⟩ m_12 J_13 w_10 ⟨h_11, hk, hp, hkl, hf1, hsp, rfl⟩
    refine WP.seq ?_
    refine WP.seq ?_
    refine WP.reg ?_
    refine WL.q (Wn.no rfl) rfl rfl (R.move (v := (vi ((k : Nat) : Int))) rfl) ?_
    refine WL.q (Wn.no rfl) rfl rfl (R.move (v := (.slice a2 n2 cap2)) rfl) ?_
    refine WL.q (Wn.no rfl) rfl rfl (R.lenS (a := a2) (m := n2) rfl rfl Try.underlying60) ?_
    refine WL.q (Wn.no rfl) rfl rfl (R.bin (v := (.bool (decide ((((k : Nat) : Int) : Int) < ((n2 : Nat) : Int))))) rfl rfl (bi_lss (r := decide ((((k : Nat) : Int) : Int) < ((n2 : Nat) : Int))) rfl)) ?_
    refine WL.nil ?_
    refine thn_n ?_
    refine WP.cond (b := decide ((((k : Nat) : Int) : Int) < ((n2 : Nat) : Int))) rfl (fun c_14 => ?_) (fun c_14 => ?_)
    · have p_15 := of_decide_eq_true c_14
      refine WP.skip ?_
      refine thn_n ?_
      refine WP.seq ?_
      refine WP.block ?_
      refine WP.seq ?_
      refine WP.seq ?_
      refine WP.reg ?_
      refine WL.q (Wn.no rfl) rfl rfl (R.move (v := (.slice a2 n2 cap2)) rfl) ?_
      refine WL.q (Wn.no rfl) rfl rfl (R.move (v := (vi ((k : Nat) : Int))) rfl) ?_
      refine WL.q (Wn.no rfl) rfl rfl (R.indexS (a := a2) (i := k) (off := k) (xs := (ns.map Int.ofNat).map vi64) rfl rfl rfl (by omega) (viewV (h_11.ok _ (.tail _ (.tail _ (.head _))))) (lt_len (K := n2) (len_map ((List.length_map ..).trans hl2)) (by omega)) Try.underlying60 Try.sizeOf3 (Nat.mul_one _).symm) ?_
      refine WL.q (Wn.no rfl) rfl rfl (R.loadG (a := a2) (i := k) (xs := (ns.map Int.ofNat).map vi64) (v := (vi ((ns.getD k 0 : Nat) : Int))) rfl (viewV (h_11.ok _ (.tail _ (.tail _ (.head _))))) Try.isAgg3 (Go.Wr.ints_get (by omega))) ?_
      refine WL.q (Wn.no rfl) rfl rfl (R.move (v := (.slice a n cap)) rfl) ?_
      refine WL.q (Wn.no rfl) rfl rfl (R.lenS (a := a) (m := n) rfl rfl Try.underlying23) ?_
      refine WL.q (Wn.no rfl) rfl rfl (R.move (v := (vi ((p : Nat) : Int))) rfl) ?_
      refine WL.q (Wn.no rfl) rfl rfl (R.bin (v := (vi ((n - p : Nat) : Int))) rfl rfl (bi_sub (c := ((n - p : Nat) : Int)) (by omega) (by omega))) ?_
      refine WL.q (Wn.no rfl) rfl rfl (R.bin (v := (.bool (decide ((((ns.getD k 0 : Nat) : Int) : Int) > ((n - p : Nat) : Int))))) rfl rfl (bi_gtr (r := decide ((((ns.getD k 0 : Nat) : Int) : Int) > ((n - p : Nat) : Int))) rfl)) ?_
      refine WL.nil ?_
      refine thn_n ?_
      refine WP.cond (b := decide ((((ns.getD k 0 : Nat) : Int) : Int) > ((n - p : Nat) : Int))) rfl (fun c_16 => ?_) (fun c_16 => ?_)
      · have p_17 := of_decide_eq_true c_16
        refine WP.seq ?_
        refine WP.reg ?_
        refine WL.q (Wn.no rfl) rfl rfl (R.assign (v := (.slice none 0 0)) rfl) ?_
        refine WL.q (Wn.no rfl) rfl rfl (R.assign (v := (vi 4)) rfl) ?_
        refine WL.nil ?_
        refine thn_n ?_
        refine WP.ret ?_
        refine thn_r ?_
        refine inb_r ?_
        refine thn_r ?_
        refine thn_r ?_
        refine inb_r ?_
        refine thn_r ?_
        refine ret_of Try.results51 (RV.tmp (v := (.slice none 0 0)) rfl (RV.tmp (v := (vi 4)) rfl RV.nil)) ?_
        exact ⟨rfl, h_11.chgS⟩
      · have p_18 := of_decide_eq_false c_16
        refine WP.skip ?_
        refine thn_n ?_
        refine WP.seq ?_
        refine WP.reg ?_
        refine WL.q (Wn.no rfl) rfl rfl (R.move (v := (.slice oa k oc)) rfl) ?_
        refine WL.q (Wn.no rfl) rfl rfl (R.move (v := (.slice a n cap)) rfl) ?_
        refine WL.q (Wn.no rfl) rfl rfl (R.move (v := (vi ((p : Nat) : Int))) rfl) ?_
        refine WL.q (Wn.no rfl) rfl rfl (R.move (v := (vi ((p : Nat) : Int))) rfl) ?_
        refine WL.q (Wn.no rfl) rfl rfl (R.move (v := (.slice a2 n2 cap2)) rfl) ?_
        refine WL.q (Wn.no rfl) rfl rfl (R.move (v := (vi ((k : Nat) : Int))) rfl) ?_
        refine WL.q (Wn.no rfl) rfl rfl (R.indexS (a := a2) (i := k) (off := k) (xs := (ns.map Int.ofNat).map vi64) rfl rfl rfl (by omega) (viewV (h_11.ok _ (.tail _ (.tail _ (.head _))))) (lt_len (K := n2) (len_map ((List.length_map ..).trans hl2)) (by omega)) Try.underlying60 Try.sizeOf3 (Nat.mul_one _).symm) ?_
        refine WL.q (Wn.no rfl) rfl rfl (R.loadG (a := a2) (i := k) (xs := (ns.map Int.ofNat).map vi64) (v := (vi ((ns.getD k 0 : Nat) : Int))) rfl (viewV (h_11.ok _ (.tail _ (.tail _ (.head _))))) Try.isAgg3 (Go.Wr.ints_get (by omega))) ?_
        refine WL.q (Wn.no rfl) rfl rfl (R.bin (v := (vi ((p + (ns.getD k 0) : Nat) : Int))) rfl rfl (bi_add (c := ((p + (ns.getD k 0) : Nat) : Int)) (by omega) (by omega))) ?_
        refine WL.q (Wn.no rfl) rfl rfl (R.sliceS (a := a) (len := n) (l := p) (h := p + (ns.getD k 0)) rfl (EvB.it (l := p) rfl rfl) (EvB.it (l := p + (ns.getD k 0)) rfl rfl) (by omega) (by omega) Try.underlying23 Try.sizeOf5) ?_
        refine WL.buildSl (vs := [(0, (.slice (slA a p cap 1) (p + (ns.getD k 0) - p) (cap - p)))]) (cs := [(.slice (slA a p cap 1) (p + (ns.getD k 0) - p) (cap - p))]) h_11 Try.underlying40 Try.sizeOf23 (zv Try.typeInfo23 rfl) rfl rfl (by kernel_rfl) rfl (by simp [Value.oneCell']) rfl rfl (fun b_19 w_20 h_21 => ?_)
        refine WL.append (km := k + 1) (xs := xs) (ys := [(.slice (slA a p cap 1) (p + (ns.getD k 0) - p) (cap - p))]) (zs := xs ++ [(.slice (slA a p cap 1) (p + (ns.getD k 0) - p) (cap - p))]) h_21 rfl rfl el40 (viewB (h_21.ok _ (.head _)) Sg.h) rfl (by simp [Value.oneCell']) rfl (by omega) (by omega) (by omega) (fun _ _ => (At.t At.h)) rfl (fun a_22 c_23 w_24 h_25 => ?_)
        refine WL.q (Wn.no rfl) rfl rfl (R.assign (v := (.slice a_22 (k + 1) c_23)) rfl) ?_
        refine WL.nil ?_
        refine thn_n ?_
        refine WP.reg ?_
        refine WL.q (Wn.no rfl) rfl rfl (R.move (v := (vi ((p : Nat) : Int))) rfl) ?_
        refine WL.q (Wn.no rfl) rfl rfl (R.move (v := (.slice a2 n2 cap2)) rfl) ?_
        refine WL.q (Wn.no rfl) rfl rfl (R.move (v := (vi ((k : Nat) : Int))) rfl) ?_
        refine WL.q (Wn.no rfl) rfl rfl (R.indexS (a := a2) (i := k) (off := k) (xs := (ns.map Int.ofNat).map vi64) rfl rfl rfl (by omega) (viewV (h_25.ok _ (.tail _ (.tail _ (.tail _ (.head _)))))) (lt_len (K := n2) (len_map ((List.length_map ..).trans hl2)) (by omega)) Try.underlying60 Try.sizeOf3 (Nat.mul_one _).symm) ?_
        refine WL.q (Wn.no rfl) rfl rfl (R.loadG (a := a2) (i := k) (xs := (ns.map Int.ofNat).map vi64) (v := (vi ((ns.getD k 0 : Nat) : Int))) rfl (viewV (h_25.ok _ (.tail _ (.tail _ (.tail _ (.head _)))))) Try.isAgg3 (Go.Wr.ints_get (by omega))) ?_
        refine WL.q (Wn.no rfl) rfl rfl (R.bin (v := (vi ((p + (ns.getD k 0) : Nat) : Int))) rfl rfl (bi_add (c := ((p + (ns.getD k 0) : Nat) : Int)) (by omega) (by omega))) ?_
        refine WL.q (Wn.no rfl) rfl rfl (R.assign (v := (vi ((p + (ns.getD k 0) : Nat) : Int))) rfl) ?_
        refine WL.nil ?_
        refine inb_n ?_
        refine thn_n ?_
        refine WP.reg ?_
        refine WL.q (Wn.no rfl) rfl rfl (R.move (v := (vi ((k : Nat) : Int))) rfl) ?_
        refine WL.q (Wn.no rfl) rfl rfl (R.bin (v := (vi ((k + 1 : Nat) : Int))) rfl rfl (bi_add (c := ((k + 1 : Nat) : Int)) (by omega) (by omega))) ?_
        refine WL.q (Wn.no rfl) rfl rfl (R.assign (v := (vi ((k + 1 : Nat) : Int))) rfl) ?_
        refine WL.nil ?_
        refine thn_n ?_
        obtain ⟨h_26, hg1⟩ := HP.partPush (i := p) (q := cap) (k := p + (ns.getD k 0) - p) (c := cap - p) h_25 (.tail _ (.tail _ (.head _))) (.tail _ (.tail _ (.tail _ (.tail _ (.head _))))) hl (by omega) (by omega) (by omega) hf1
        have h_27 := h_26.up (Pick.t Pick.h)
        have h_28 := h_27.drop rfl
        have h_29 := h_28.up (Pick.t (Pick.t Pick.h))
        have h_30 := h_29.drop rfl
        have h_31 := h_30.up (Pick.t (Pick.t (Pick.t Pick.h)))
        have h_32 := h_31.up (Pick.t (Pick.t (Pick.t Pick.h)))
        have h_33 := h_32.up (Pick.t (Pick.t Pick.h))
        have h_34 := h_33.up (Pick.t (Pick.t (Pick.t Pick.h)))
        exact ⟨(k + 1, a_22, c_23, _, _, p + (ns.getD k 0)), _, (by omega), (Ag.upd rfl (Ag.upd rfl (Ag.upd rfl (Ag.upd rfl (Ag.upd rfl (Ag.upd rfl (Ag.upd rfl (Ag.upd rfl (Ag.upd rfl (Ag.upd rfl (Ag.upd rfl (Ag.upd rfl (Ag.upd rfl (Ag.upd rfl (Ag.upd rfl (Ag.upd rfl (Ag.upd rfl (Ag.upd rfl (Ag.upd rfl (Ag.upd rfl (Ag.upd rfl (Ag.upd rfl (Ag.upd rfl (Ag.upd rfl (Ag.upd rfl (Ag.upd rfl (Ag.upd rfl (Ag.upd rfl (Ag.upd rfl (Ag.upd rfl (Ag.upd rfl (Ag.upd rfl (Ag.upd rfl (Ag.upd rfl (Ag.upd rfl (Ag.upd rfl (Ag.updL rfl (Ag.mix _ _ _)))))))))))))))))))))))))))))))))))))), ⟨rfl, rfl, rfl, trivial⟩, h_34, (by omega), (by omega), (by rw [List.length_append, hkl]; rfl), hg1, (Go.Wr.cut_nextR hsp (by omega) rfl (by omega) (by omega)), rfl⟩
    · have p_35 := of_decide_eq_false c_14
      refine WP.exit ?_
      refine thn_x ?_
      refine thn_x ?_
      refine inb_hit ?_
      refine thn_n ?_
      refine WP.seq ?_
      refine WP.seq ?_
      refine WP.reg ?_
      refine WL.q (Wn.no rfl) rfl rfl (R.move (v := (vi ((p : Nat) : Int))) rfl) ?_
      refine WL.q (Wn.no rfl) rfl rfl (R.move (v := (.slice a n cap)) rfl) ?_
      refine WL.q (Wn.no rfl) rfl rfl (R.lenS (a := a) (m := n) rfl rfl Try.underlying23) ?_
      refine WL.q (Wn.no rfl) rfl rfl (R.bin (v := (.bool (decide ((((p : Nat) : Int) : Int) ≠ ((n : Nat) : Int))))) rfl rfl (bi_neq (r := decide ((((p : Nat) : Int) : Int) ≠ ((n : Nat) : Int))) rfl)) ?_
      refine WL.nil ?_
      refine thn_n ?_
      refine WP.cond (b := decide ((((p : Nat) : Int) : Int) ≠ ((n : Nat) : Int))) rfl (fun c_36 => ?_) (fun c_36 => ?_)
      · have p_37 := of_decide_eq_true c_36
        refine WP.seq ?_
        refine WP.reg ?_
        refine WL.q (Wn.no rfl) rfl rfl (R.assign (v := (.slice none 0 0)) rfl) ?_
        refine WL.q (Wn.no rfl) rfl rfl (R.assign (v := (vi 4)) rfl) ?_
        refine WL.nil ?_
        refine thn_n ?_
        refine WP.ret ?_
        refine thn_r ?_
        refine ret_of Try.results51 (RV.tmp (v := (.slice none 0 0)) rfl (RV.tmp (v := (vi 4)) rfl RV.nil)) ?_
        exact ⟨rfl, h_11.chgS⟩
      · have p_38 := of_decide_eq_false c_36
        refine WP.skip ?_
        refine thn_n ?_
        refine WP.seq ?_
        refine WP.reg ?_
        refine WL.q (Wn.no rfl) rfl rfl (R.move (v := (.slice oa k oc)) rfl) ?_
        refine WL.q (Wn.no rfl) rfl rfl (R.assign (v := (.slice oa k oc)) rfl) ?_
        refine WL.q (Wn.no rfl) rfl rfl (R.assign (v := (vi 0)) rfl) ?_
        refine WL.nil ?_
        refine thn_n ?_
        refine WP.ret ?_
        refine ret_of Try.results51 (RV.tmp (v := (.slice oa k oc)) rfl (RV.tmp (v := (vi 0)) rfl RV.nil)) ?_
        have hd := (Go.Wr.cut_end hsp (by omega)).trans (if_pos (List.drop_of_length_le (by omega)))
        rw [hd] at hx; cases hx

theorem c_CutR_n (a : Option Addr) (n cap : Nat) (bs : List UInt8) (hl : bs.length = n) (hn : n ≤ 1099511627776) (a2 : Option Addr) (n2 cap2 : Nat) (zs : List Int) (hl2 : zs.length = n2) (hn2 : n2 ≤ 1099511627776) (hx : zs.all nonneg = false) (w : World) (hv : View w a (bs.map vu8)) (hv2 : View w a2 (zs.map vi64)) :
    Cs Try.prog 51 [(.slice a n cap), (.slice a2 n2 cap2)].toArray w (fun v w1 => v = (.tuple [(.slice none 0 0), (vi 2)].toArray) ∧ Chg w w1 []) := by
  refine Cs.of (n := 59) (args := [(.slice a n cap), (.slice a2 n2 cap2)]) Try.func51 rfl rfl rfl ?_
  have h_0 := HP.init w
  have h_01 := h_0.oldV (View.arg hv) rfl (by simp [Ent.mut])
  have h_00 := h_01.oldV (View.arg hv2) rfl (by simp [Ent.mut])
  refine WP.seq ?_
  refine WP.reg ?_
  refine WL.q (Wn.no rfl) rfl rfl (R.assign (v := (.slice none 0 0)) rfl) ?_
  refine WL.q (Wn.no rfl) rfl rfl (R.assign (v := (vi 0)) rfl) ?_
  refine WL.nil ?_
  refine thn_n ?_
  refine WP.seq ?_
  refine WP.seq ?_
  refine WP.reg ?_
  refine WL.q (Wn.no rfl) rfl rfl (R.assign (v := (vi 0)) rfl) ?_
  refine WL.nil ?_
  refine thn_n ?_
  refine WP.block ?_
  refine WP.loopG (G := Nat) [4, 5, 6, 10, 11, 12, 13, 14, 15, 16, 17, 18, 19, 20] (fun i => [(6, (vi ((i : Nat) : Int)))]) (fun i m w1 => HP w w1 [.view a2 (zs.map vi64), .view a (bs.map vu8)] ∧ (i ≤ n2) ∧ (∀ j : Nat, j < i → 0 ≤ zs.getD j 0) ∧ m = n2 - i) ⟨0, _, ⟨rfl, trivial⟩, h_00, (by omega), (fun j h => by omega), rfl⟩ ?_
  rintro i m_3 J_4 w_1 ⟨h_2, hi, hg, rfl⟩
  refine WP.seq ?_
  refine WP.seq ?_
  refine WP.reg ?_
  refine WL.q (Wn.no rfl) rfl rfl (R.move (v := (vi ((i : Nat) : Int))) rfl) ?_
  refine WL.q (Wn.no rfl) rfl rfl (R.move (v := (.slice a2 n2 cap2)) rfl) ?_
  refine WL.q (Wn.no rfl) rfl rfl (R.lenS (a := a2) (m := n2) rfl rfl Try.underlying60) ?_
  refine WL.q (Wn.no rfl) rfl rfl (R.bin (v := (.bool (decide ((((i : Nat) : Int) : Int) < ((n2 : Nat) : Int))))) rfl rfl (bi_lss (r := decide ((((i : Nat) : Int) : Int) < ((n2 : Nat) : Int))) rfl)) ?_
  refine WL.nil ?_
  refine thn_n ?_
  refine WP.cond (b := decide ((((i : Nat) : Int) : Int) < ((n2 : Nat) : Int))) rfl (fun c_5 => ?_) (fun c_5 => ?_)
  · have p_6 := of_decide_eq_true c_5
    refine WP.skip ?_
    refine thn_n ?_
    refine WP.seq ?_
    refine WP.block ?_
    refine WP.seq ?_
    refine WP.reg ?_
    refine WL.q (Wn.no rfl) rfl rfl (R.move (v := (.slice a2 n2 cap2)) rfl) ?_
    refine WL.q (Wn.no rfl) rfl rfl (R.move (v := (vi ((i : Nat) : Int))) rfl) ?_
    refine WL.q (Wn.no rfl) rfl rfl (R.indexS (a := a2) (i := i) (off := i) (xs := zs.map vi64) rfl rfl rfl (by omega) (viewV (h_2.ok _ (.head _))) (lt_len (K := n2) (len_map hl2) (by omega)) Try.underlying60 Try.sizeOf3 (Nat.mul_one _).symm) ?_
    refine WL.q (Wn.no rfl) rfl rfl (R.loadG (a := a2) (i := i) (xs := zs.map vi64) (v := (vi (zs.getD i 0))) rfl (viewV (h_2.ok _ (.head _))) Try.isAgg3 (get_i64 (lt_len (K := n2) hl2 (by omega)))) ?_
    refine WL.q (Wn.no rfl) rfl rfl (R.bin (v := (.bool (decide ((zs.getD i 0 : Int) < 0)))) rfl rfl (bi_lss (r := decide ((zs.getD i 0 : Int) < 0)) rfl)) ?_
    refine WL.nil ?_
    refine thn_n ?_
    refine WP.cond (b := decide ((zs.getD i 0 : Int) < 0)) rfl (fun c_7 => ?_) (fun c_7 => ?_)
    · have p_8 := of_decide_eq_true c_7
      refine WP.seq ?_
      refine WP.reg ?_
      refine WL.q (Wn.no rfl) rfl rfl (R.assign (v := (.slice none 0 0)) rfl) ?_
      refine WL.q (Wn.no rfl) rfl rfl (R.assign (v := (vi 2)) rfl) ?_
      refine WL.nil ?_
      refine thn_n ?_
      refine WP.ret ?_
      refine inb_r ?_
      refine thn_r ?_
      refine thn_r ?_
      refine inb_r ?_
      refine thn_r ?_
      refine ret_of Try.results51 (RV.tmp (v := (.slice none 0 0)) rfl (RV.tmp (v := (vi 2)) rfl RV.nil)) ?_
      exact ⟨rfl, h_2.chgS⟩
    · have p_9 := of_decide_eq_false c_7
      refine WP.skip ?_
      refine inb_n ?_
      refine thn_n ?_
      refine WP.reg ?_
      refine WL.q (Wn.no rfl) rfl rfl (R.move (v := (vi ((i : Nat) : Int))) rfl) ?_
      refine WL.q (Wn.no rfl) rfl rfl (R.bin (v := (vi ((i + 1 : Nat) : Int))) rfl rfl (bi_add (c := ((i + 1 : Nat) : Int)) (by omega) (by omega))) ?_
      refine WL.q (Wn.no rfl) rfl rfl (R.assign (v := (vi ((i + 1 : Nat) : Int))) rfl) ?_
      refine WL.nil ?_
      refine thn_n ?_
      refine ⟨i + 1, _, (by omega), (Ag.upd rfl (Ag.upd rfl (Ag.upd rfl (Ag.upd rfl (Ag.upd rfl (Ag.upd rfl (Ag.upd rfl (Ag.upd rfl (Ag.upd rfl (Ag.upd rfl (Ag.upd rfl (Ag.upd rfl (Ag.updL rfl (Ag.mix _ _ _)))))))))))))), ⟨rfl, trivial⟩, h_2, (by omega), (fun j hj => ?_), rfl⟩
      rcases Nat.lt_or_eq_of_le (Nat.le_of_lt_succ hj) with hj | rfl
      · exact hg j hj
      · have hp := p_9; omega
  · have p_10 := of_decide_eq_false c_5
    refine WP.exit ?_
    refine thn_x ?_
    refine thn_x ?_
    refine inb_hit ?_
    refine thn_n ?_
    refine WP.seq ?_
    exact absurd (fun j hj => hg j (by omega)) (zs_none hx)
end Go.Proofs.Ytcmgadjnammahaa
