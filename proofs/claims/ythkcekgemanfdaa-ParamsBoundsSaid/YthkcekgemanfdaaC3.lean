/- What is read back is what was written; the rows that are known. Conditions: those that each theorem states. -/
import Derived.Test.YthkcekgemanfdaaC2
namespace Go.Proofs.Ythkcekgemanfdaa
open Go.Vc Go.RowKit
set_option linter.unusedVariables false
set_option linter.unusedSimpArgs false
set_option maxRecDepth 20000
theorem eight {α : Type} {l : List α} (h : l.length = 8) (d : α) : [l.getD 0 d, l.getD 1 d, l.getD 2 d, l.getD 3 d, l.getD 4 d, l.getD 5 d, l.getD 6 d, l.getD 7 d] = l := by
  match l, h with
  | [_, _, _, _, _, _, _, _], _ => rfl
theorem wordB_skip {A B : List UInt8} {i : Nat} (h : A.length = 8) : wordB (A ++ B) (i + 1) = wordB B i := by
  rw [wordB, wordB, show 8 * (i + 1) = A.length + 8 * i by omega, ← List.drop_drop, List.drop_left]
theorem wordB_here {x : UInt64} {B : List UInt8} : wordB (leN 8 x.toNat ++ B) 0 = x := by
  rw [wordB, Nat.mul_zero, List.drop_zero, List.take_left' (leN_len ..), word_back]
theorem realm_cat {vl : List UInt8} {nd : UInt64} (h : vl.length = 32) : realmB vl nd = (([114, 101, 97, 108, 109] : List UInt8) ++ List.replicate (8 - 5) (0 : UInt8)) ++ (vl ++ (leN 8 nd.toNat ++ List.replicate 80 (0 : UInt8))) := by
  rw [realmB, gr_B (by rw [realmB_fl h]; decide), realmB_fl h]; simp
theorem rec_cat (pc : UInt64) (rg : List UInt64) (run : Bool) : recB pc rg run = (([114, 101, 99] : List UInt8) ++ List.replicate (8 - 3) (0 : UInt8)) ++ (leN 8 pc.toNat ++ (leN 8 (rg.getD 0 0).toNat ++ (leN 8 (rg.getD 1 0).toNat ++ (leN 8 (rg.getD 2 0).toNat ++ (leN 8 (rg.getD 3 0).toNat ++ (leN 8 (rg.getD 4 0).toNat ++ (leN 8 (rg.getD 5 0).toNat ++ (leN 8 (rg.getD 6 0).toNat ++ (leN 8 (rg.getD 7 0).toNat ++ ([bif run then 1 else 0] ++ List.replicate 47 (0 : UInt8))))))))))) := by
  rw [recB, gr_B (by rw [recB_fl]; decide), recB_fl]; simp [regsB]
theorem realm_vl {vl : List UInt8} {nd : UInt64} (h : vl.length = 32) : rlV (realmB vl nd) = vl := by
  rw [realm_cat h, rlV, List.drop_left' (i := 8) rfl, List.take_left' h]
theorem realm_nd {vl : List UInt8} {nd : UInt64} (h : vl.length = 32) : wordB (realmB vl nd) 5 = nd := by
  rw [realm_cat h, wordB_skip rfl, wordB, show 8 * 4 = vl.length by omega, List.drop_left, List.take_left' (leN_len ..), word_back]
theorem rec_pc (pc : UInt64) (rg : List UInt64) (run : Bool) : wordB (recB pc rg run) 1 = pc := by
  rw [rec_cat, wordB_skip rfl, wordB_here]
theorem rec_rg {pc : UInt64} {rg : List UInt64} {run : Bool} (h : rg.length = 8) : rcR (recB pc rg run) = rg := by
  have L : ∀ x : UInt64, (leN 8 x.toNat).length = 8 := fun _ => leN_len ..
  have h0 : ((([114, 101, 99] : List UInt8) ++ List.replicate (8 - 3) (0 : UInt8)) : List UInt8).length = 8 := rfl
  have e : rcR (recB pc rg run) = [rg.getD 0 0, rg.getD 1 0, rg.getD 2 0, rg.getD 3 0, rg.getD 4 0, rg.getD 5 0, rg.getD 6 0, rg.getD 7 0] := by
    unfold rcR
    rw [rec_cat]
    simp only [wordB_skip h0, wordB_skip (L _), wordB_here]
  rw [e, eight h]
theorem rec_run (pc : UInt64) (rg : List UInt64) (run : Bool) : decide ((recB pc rg run).getD 80 0 = 1) = run := by
  rw [rec_80]; cases run <;> rfl
theorem realm_ok {vl : List UInt8} {nd : UInt64} (h : vl.length = 32) (hm : mayRealm nd = true) : okRealm (realmB vl nd) = true := by
  rw [okRealm, realm_vl h, realm_nd h, hm]; simp
theorem rec_ok {pc : UInt64} {rg : List UInt64} {run : Bool} (h : rg.length = 8) (hm : mayRec pc = true) : okRec (recB pc rg run) = true := by
  rw [okRec, rec_pc, rec_rg h, rec_run, hm]; simp
theorem realm_2 {vl : List UInt8} {nd : UInt64} (h : vl.length = 32) : (realmB vl nd).getD 2 0 = 97 := by
  rw [realm_cat h]; rfl
theorem rec_2 (pc : UInt64) (rg : List UInt64) (run : Bool) : (recB pc rg run).getD 2 0 = 99 := by
  rw [rec_cat]; rfl
theorem realm_no {vl : List UInt8} {nd : UInt64} (h : vl.length = 32) : okRec (realmB vl nd) = false := by
  have : ¬ recB (wordB (realmB vl nd) 1) (rcR (realmB vl nd)) (decide ((realmB vl nd).getD 80 0 = 1)) = realmB vl nd := by
    intro e
    have h1 := congrArg (fun l => l.getD 2 0) e
    simp only [realm_2 h, rec_2] at h1
    exact absurd h1 (by decide)
  rw [okRec, decide_eq_false this, Bool.and_false]
theorem rlV_len {g : List UInt8} (h : g.length = 128) : (rlV g).length = 32 := by simp only [rlV, List.length_take, List.length_drop, h]; decide
theorem rec_no (pc : UInt64) (rg : List UInt64) (run : Bool) : okRealm (recB pc rg run) = false := by
  have : ¬ realmB (rlV (recB pc rg run)) (wordB (recB pc rg run) 5) = recB pc rg run := by
    intro e
    have h1 := congrArg (fun l => l.getD 2 0) e
    simp only [realm_2 (rlV_len (recB_len pc rg run)), rec_2] at h1
    exact absurd h1 (by decide)
  rw [okRealm, decide_eq_false this, Bool.and_false]
theorem c_known  (w : World) :
    Cs Try.prog 22 [].toArray w (fun v w1 => v = .bool true ∧ Chg w w1 []) := by
  refine Cs.of (n := 50) (args := []) Try.func22 rfl rfl rfl ?_
  have h_0 := HP.init w
  refine WP.seq ?_
  refine WP.reg ?_
  refine WL.q (Wn.no rfl) rfl rfl (R.assign (v := (.bool false)) rfl) ?_
  refine WL.nil ?_
  refine thn_n ?_
  refine WP.seq ?_
  refine WP.reg ?_
  refine WL.q (Wn.no rfl) rfl rfl (R.buildS (pl := [(0, 1), (1, 8), (9, 1)]) (zs := [(1, [(vu64 0)]), (8, (List.replicate 8 (0 : UInt64)).map vu64), (1, [(.bool false)])]) (vs := [(0, (vu64 8)), (2, (.bool true))]) (out := [(1, [(vu64 8)]), (8, (List.replicate 8 (0 : UInt64)).map vu64), (1, [(.bool true)])]) (cs := flat [(1, [(vu64 8)]), (8, (List.replicate 8 (0 : UInt64)).map vu64), (1, [(.bool true)])]) Try.underlying45 (zv Try.typeInfo45 rfl) rfl (SsOk.cons (SOk.v rfl) (SsOk.cons (SOk.u64 (List.length_replicate ..)) (SsOk.cons (SOk.v rfl) SsOk.nil))) (pl45 _ Try.underlying45) rfl (FillR.cons [] [(1, [(vu64 0)])] [(1, [(vu64 8)])] [(8, (List.replicate 8 (0 : UInt64)).map vu64), (1, [(.bool false)])] rfl rfl rfl rfl (SsOk.cons (SOk.v rfl) SsOk.nil) rfl rfl rfl (FillR.cons [(1, [(vu64 8)]), (8, (List.replicate 8 (0 : UInt64)).map vu64)] [(1, [(.bool false)])] [(1, [(.bool true)])] [] rfl rfl rfl rfl (SsOk.cons (SOk.v rfl) SsOk.nil) rfl rfl rfl FillR.nil)) rfl) ?_
  refine WL.call (al := [(.agg ⟨flat [(1, [(vu64 8)]), (8, (List.replicate 8 (0 : UInt64)).map vu64), (1, [(.bool true)])]⟩)]) Try.call24 rfl rfl (c_RecBytes_t (8 : UInt64) (List.replicate 8 (0 : UInt64)) (List.length_replicate ..) true (by decide +kernel) _ ) rfl ?_
  rintro _ w_3 ⟨rfl, hc_2⟩
  have h_4 := h_0.same hc_2
  refine WL.q (Wn.no rfl) rfl rfl (R.move (v := (.tuple [(.agg ⟨(recB (8 : UInt64) (List.replicate 8 (0 : UInt64)) true).map vu8⟩), (vi 0)].toArray)) rfl) ?_
  refine WL.q (Wn.no rfl) rfl rfl (R.extract (l := [(.agg ⟨(recB (8 : UInt64) (List.replicate 8 (0 : UInt64)) true).map vu8⟩), (vi 0)]) (v := (.agg ⟨(recB (8 : UInt64) (List.replicate 8 (0 : UInt64)) true).map vu8⟩)) rfl rfl) ?_
  refine WL.q (Wn.no rfl) rfl rfl (R.extract (l := [(.agg ⟨(recB (8 : UInt64) (List.replicate 8 (0 : UInt64)) true).map vu8⟩), (vi 0)]) (v := (vi 0)) rfl rfl) ?_
  refine WL.alloc (segs := [(128, (List.replicate 128 (0 : UInt8)).map vu8)]) h_4 (zv Try.typeInfo53 rfl) rfl (SsOk.cons (SOk.u8 (List.length_replicate ..)) SsOk.nil) rfl (fun b_5 w_6 h_7 => ?_)
  refine WL.storeA (b := b_5) (off := 0) [] [(128, (List.replicate 128 (0 : UInt8)).map vu8)] [(128, (recB (8 : UInt64) (List.replicate 8 (0 : UInt64)) true).map vu8)] [] (ys := (recB (8 : UInt64) (List.replicate 8 (0 : UInt64)) true).map vu8) h_7 rfl rfl Try.sizeOf53 At.h (by decide) rfl rfl rfl rfl rfl rfl (SsOk.cons (SOk.u8 (recB_len ..)) SsOk.nil) (fun w_8 h_9 => ?_)
  refine WL.q (Wn.no rfl) rfl rfl (R.assign (v := (vi 0)) rfl) ?_
  refine WL.nil ?_
  refine thn_n ?_
  refine WP.seq ?_
  refine WP.reg ?_
  refine WL.q (Wn.no rfl) rfl rfl (R.buildS (pl := [(0, 32), (32, 1)]) (zs := [(32, (List.replicate 32 (0 : UInt8)).map vu8), (1, [(vu64 0)])]) (vs := [(1, (vu64 100))]) (out := [(32, (List.replicate 32 (0 : UInt8)).map vu8), (1, [(vu64 100)])]) (cs := flat [(32, (List.replicate 32 (0 : UInt8)).map vu8), (1, [(vu64 100)])]) Try.underlying51 (zv Try.typeInfo51 rfl) rfl (SsOk.cons (SOk.u8 (List.length_replicate ..)) (SsOk.cons (SOk.v rfl) SsOk.nil)) (pl51 _ Try.underlying51) rfl (FillR.cons [(32, (List.replicate 32 (0 : UInt8)).map vu8)] [(1, [(vu64 0)])] [(1, [(vu64 100)])] [] rfl rfl rfl rfl (SsOk.cons (SOk.v rfl) SsOk.nil) rfl rfl rfl FillR.nil) rfl) ?_
  refine WL.call (al := [(.agg ⟨flat [(32, (List.replicate 32 (0 : UInt8)).map vu8), (1, [(vu64 100)])]⟩)]) Try.call18 rfl rfl (c_RealmBytes_f (List.replicate 32 (0 : UInt8)) (List.length_replicate ..) (100 : UInt64) (by decide +kernel) _ ) rfl ?_
  rintro _ w_12 ⟨rfl, hc_11⟩
  have h_13 := h_9.same hc_11
  refine WL.q (Wn.no rfl) rfl rfl (R.move (v := (.tuple [(.agg ⟨(List.replicate 128 (0 : UInt8)).map vu8⟩), (vi 2)].toArray)) rfl) ?_
  refine WL.q (Wn.no rfl) rfl rfl (R.extract (l := [(.agg ⟨(List.replicate 128 (0 : UInt8)).map vu8⟩), (vi 2)]) (v := (.agg ⟨(List.replicate 128 (0 : UInt8)).map vu8⟩)) rfl rfl) ?_
  refine WL.q (Wn.no rfl) rfl rfl (R.extract (l := [(.agg ⟨(List.replicate 128 (0 : UInt8)).map vu8⟩), (vi 2)]) (v := (vi 2)) rfl rfl) ?_
  refine WL.alloc (segs := [(128, (List.replicate 128 (0 : UInt8)).map vu8)]) h_13 (zv Try.typeInfo53 rfl) rfl (SsOk.cons (SOk.u8 (List.length_replicate ..)) SsOk.nil) rfl (fun b_14 w_15 h_16 => ?_)
  refine WL.storeA (b := b_14) (off := 0) [] [(128, (List.replicate 128 (0 : UInt8)).map vu8)] [(128, (List.replicate 128 (0 : UInt8)).map vu8)] [] (ys := (List.replicate 128 (0 : UInt8)).map vu8) h_16 rfl rfl Try.sizeOf53 At.h (by decide) rfl rfl rfl rfl rfl rfl (SsOk.cons (SOk.u8 (List.length_replicate ..)) SsOk.nil) (fun w_17 h_18 => ?_)
  refine WL.q (Wn.no rfl) rfl rfl (R.assign (v := (vi 2)) rfl) ?_
  refine WL.nil ?_
  refine thn_n ?_
  refine WP.seq ?_
  refine WP.reg ?_
  refine WL.q (Wn.no rfl) rfl rfl (R.buildA (vs := []) (cs := (List.replicate 128 (0 : UInt8)).map vu8) Try.underlying53 Try.sizeOf5 (zv Try.typeInfo53 rfl) rfl rfl) ?_
  refine WL.call (al := [(.agg ⟨(List.replicate 128 (0 : UInt8)).map vu8⟩)]) Try.call28 rfl rfl (c_Rec_f (List.replicate 128 (0 : UInt8)) (List.length_replicate ..) (by decide +kernel) _ ) rfl ?_
  rintro _ w_20 ⟨rfl, hc_19⟩
  have h_21 := h_18.same hc_19
  refine WL.q (Wn.no rfl) rfl rfl (R.move (v := (.tuple [(.agg ⟨flat [(1, [(vu64 0)]), (8, (List.replicate 8 (0 : UInt64)).map vu64), (1, [(.bool false)])]⟩), (vi 4)].toArray)) rfl) ?_
  refine WL.q (Wn.no rfl) rfl rfl (R.extract (l := [(.agg ⟨flat [(1, [(vu64 0)]), (8, (List.replicate 8 (0 : UInt64)).map vu64), (1, [(.bool false)])]⟩), (vi 4)]) (v := (.agg ⟨flat [(1, [(vu64 0)]), (8, (List.replicate 8 (0 : UInt64)).map vu64), (1, [(.bool false)])]⟩)) rfl rfl) ?_
  refine WL.q (Wn.no rfl) rfl rfl (R.extract (l := [(.agg ⟨flat [(1, [(vu64 0)]), (8, (List.replicate 8 (0 : UInt64)).map vu64), (1, [(.bool false)])]⟩), (vi 4)]) (v := (vi 4)) rfl rfl) ?_
  refine WL.alloc (segs := [(1, [(vu64 0)]), (8, (List.replicate 8 (0 : UInt64)).map vu64), (1, [(.bool false)])]) h_21 (zv Try.typeInfo45 rfl) rfl (SsOk.cons (SOk.v rfl) (SsOk.cons (SOk.u64 (List.length_replicate ..)) (SsOk.cons (SOk.v rfl) SsOk.nil))) rfl (fun b_22 w_23 h_24 => ?_)
  refine WL.storeA (b := b_22) (off := 0) [] [(1, [(vu64 0)]), (8, (List.replicate 8 (0 : UInt64)).map vu64), (1, [(.bool false)])] [(1, [(vu64 0)]), (8, (List.replicate 8 (0 : UInt64)).map vu64), (1, [(.bool false)])] [] (ys := flat [(1, [(vu64 0)]), (8, (List.replicate 8 (0 : UInt64)).map vu64), (1, [(.bool false)])]) h_24 rfl rfl Try.sizeOf45 At.h (by decide) rfl rfl rfl rfl rfl rfl (SsOk.cons (SOk.v rfl) (SsOk.cons (SOk.u64 (List.length_replicate ..)) (SsOk.cons (SOk.v rfl) SsOk.nil))) (fun w_25 h_26 => ?_)
  refine WL.q (Wn.no rfl) rfl rfl (R.assign (v := (vi 4)) rfl) ?_
  refine WL.nil ?_
  refine thn_n ?_
  refine WP.seq ?_
  refine WP.reg ?_
  refine WL.q (Wn.no rfl) rfl rfl (R.move (v := (vi 0)) rfl) ?_
  refine WL.call (al := [(vi 0)]) Try.call21 rfl rfl (c_num10 0 (by omega) _ ) rfl ?_
  rintro _ w_28 ⟨rfl, hc_27⟩
  have h_29 := h_26.same hc_27
  refine WL.q (Wn.no rfl) rfl rfl (R.bin (v := (.bool true)) rfl rfl (bi_eql (r := true) (by decide))) ?_
  refine WL.q (Wn.no rfl) rfl rfl (R.move (v := (.bool true)) rfl) ?_
  refine WL.want rfl rfl ?_
  refine WL.q (Wn.no rfl) rfl rfl (R.sliceA (b := b_5) (off := 0) (off' := 0) (l := 0) (h := 3) rfl EvB.dflt (EvB.it (l := 3) rfl rfl) (by decide) (by decide) Try.underlying53 Try.sizeOf5 rfl) ?_
  refine WL.want rfl rfl ?_
  refine WL.q (Wn.no rfl) rfl rfl (R.toStr (bs := ((recB (8 : UInt64) (List.replicate 8 (0 : UInt64)) true).drop 0).take 3) rfl Try.underlying90 Try.underlying5 Try.underlying9 (viewPart 0 3 (h_29.ok _ (.tail _ (.tail _ (.head _)))) Sg.h) (by simp only [List.length_take, List.length_drop, (recB_len ..)]; first | decide | omega)) ?_
  refine WL.want rfl rfl ?_
  refine WL.q (Wn.no rfl) rfl rfl (R.eqStr (a := ((recB (8 : UInt64) (List.replicate 8 (0 : UInt64)) true).drop 0).take 3) (b := ([114, 101, 99] : List UInt8)) (r := true) rfl rfl (by decide +kernel)) ?_
  refine WL.q (Wn.no rfl) rfl rfl (R.pickT (v := (.bool true)) rfl rfl) ?_
  refine WL.q (Wn.no rfl) rfl rfl (R.move (v := (.bool true)) rfl) ?_
  refine WL.want rfl rfl ?_
  refine WL.q (Wn.no rfl) rfl rfl (R.indexA (b := b_5) (off := 0) (off' := 8) (i := 8) rfl rfl rfl (by decide) Try.underlying53 Try.sizeOf5 rfl) ?_
  refine WL.want rfl rfl ?_
  refine WL.q (Wn.no rfl) rfl rfl (R.loadE (b := b_5) (off := 8) (i := 8) (v := (vu8 ((recB (8 : UInt64) (List.replicate 8 (0 : UInt64)) true).getD 8 0))) rfl Try.isAgg5 (h_29.ok _ (.tail _ (.tail _ (.head _)))) Sg.h rfl (get_u8 (lt_len (K := 128) (recB_len ..) (by decide)))) ?_
  refine WL.want rfl rfl ?_
  refine WL.q (Wn.no rfl) rfl rfl (R.bin (v := (.bool true)) rfl rfl (b8_eql ((recB (8 : UInt64) (List.replicate 8 (0 : UInt64)) true).getD 8 0) 8 (r := true) (by decide +kernel))) ?_
  refine WL.q (Wn.no rfl) rfl rfl (R.pickT (v := (.bool true)) rfl rfl) ?_
  refine WL.q (Wn.no rfl) rfl rfl (R.move (v := (.bool true)) rfl) ?_
  refine WL.want rfl rfl ?_
  refine WL.q (Wn.no rfl) rfl rfl (R.indexA (b := b_5) (off := 0) (off' := 80) (i := 80) rfl rfl rfl (by decide) Try.underlying53 Try.sizeOf5 rfl) ?_
  refine WL.want rfl rfl ?_
  refine WL.q (Wn.no rfl) rfl rfl (R.loadE (b := b_5) (off := 80) (i := 80) (v := (vu8 ((recB (8 : UInt64) (List.replicate 8 (0 : UInt64)) true).getD 80 0))) rfl Try.isAgg5 (h_29.ok _ (.tail _ (.tail _ (.head _)))) Sg.h rfl (get_u8 (lt_len (K := 128) (recB_len ..) (by decide)))) ?_
  refine WL.want rfl rfl ?_
  refine WL.q (Wn.no rfl) rfl rfl (R.bin (v := (.bool true)) rfl rfl (b8_eql ((recB (8 : UInt64) (List.replicate 8 (0 : UInt64)) true).getD 80 0) 1 (r := true) (by decide +kernel))) ?_
  refine WL.q (Wn.no rfl) rfl rfl (R.pickT (v := (.bool true)) rfl rfl) ?_
  refine WL.q (Wn.no rfl) rfl rfl (R.move (v := (.bool true)) rfl) ?_
  refine WL.want rfl rfl ?_
  refine WL.q (Wn.no rfl) rfl rfl (R.move (v := (vi 2)) rfl) ?_
  refine WL.want rfl rfl ?_
  refine WL.call (al := [(vi 2)]) Try.call21 rfl rfl (c_num10 2 (by omega) _ ) rfl ?_
  rintro _ w_31 ⟨rfl, hc_30⟩
  have h_32 := h_29.same hc_30
  refine WL.want rfl rfl ?_
  refine WL.q (Wn.no rfl) rfl rfl (R.bin (v := (.bool true)) rfl rfl (bi_eql (r := true) (by decide))) ?_
  refine WL.q (Wn.no rfl) rfl rfl (R.pickT (v := (.bool true)) rfl rfl) ?_
  refine WL.q (Wn.no rfl) rfl rfl (R.move (v := (.bool true)) rfl) ?_
  refine WL.want rfl rfl ?_
  refine WL.q (Wn.no rfl) rfl rfl (R.move (v := (vi 4)) rfl) ?_
  refine WL.want rfl rfl ?_
  refine WL.call (al := [(vi 4)]) Try.call21 rfl rfl (c_num10 4 (by omega) _ ) rfl ?_
  rintro _ w_34 ⟨rfl, hc_33⟩
  have h_35 := h_32.same hc_33
  refine WL.want rfl rfl ?_
  refine WL.q (Wn.no rfl) rfl rfl (R.bin (v := (.bool true)) rfl rfl (bi_eql (r := true) (by decide))) ?_
  refine WL.q (Wn.no rfl) rfl rfl (R.pickT (v := (.bool true)) rfl rfl) ?_
  refine WL.q (Wn.no rfl) rfl rfl (R.assign (v := (.bool true)) rfl) ?_
  refine WL.nil ?_
  refine thn_n ?_
  refine WP.ret ?_
  refine ret_of Try.results22 (RV.tmp (v := (.bool true)) rfl RV.nil) ?_
  exact ⟨rfl, h_35.chgS⟩
end Go.Proofs.Ythkcekgemanfdaa
