/- Bytes read back: what each call returns. Conditions: those that each theorem states. -/
import Derived.Test.YthkcekgemanfdaaC1
namespace Go.Proofs.Ythkcekgemanfdaa
open Go.Vc Go.RowKit
set_option linter.unusedVariables false
set_option linter.unusedSimpArgs false
set_option maxRecDepth 20000
def rlV (g : List UInt8) : List UInt8 := (g.drop 8).take 32
def rcR (g : List UInt8) : List UInt64 := [wordB g 2, wordB g 3, wordB g 4, wordB g 5, wordB g 6, wordB g 7, wordB g 8, wordB g 9]
def okRealm (g : List UInt8) : Bool := mayRealm (wordB g 5) && decide (realmB (rlV g) (wordB g 5) = g)
def okRec (g : List UInt8) : Bool := mayRec (wordB g 1) && decide (recB (wordB g 1) (rcR g) (decide (g.getD 80 0 = 1)) = g)
theorem mayRec_ok {g : List UInt8} (h : okRec g = true) : mayRec (wordB g 1) = true := by
  rw [okRec, Bool.and_eq_true] at h; exact h.1
theorem rec_80 (pc : UInt64) (rg : List UInt64) (run : Bool) : (recB pc rg run).getD 80 0 = bif run then 1 else 0 := by
  have h1 : ((([114, 101, 99] : List UInt8) ++ List.replicate (8 - 3) (0 : UInt8)) : List UInt8).length = 8 := rfl
  have h2 : ([(([114, 101, 99] : List UInt8) ++ List.replicate (8 - 3) (0 : UInt8)), leN 8 pc.toNat, regsB rg].flatten).length = 80 := by simp [leN_len, regsB_len]
  have e : recB pc rg run = [(([114, 101, 99] : List UInt8) ++ List.replicate (8 - 3) (0 : UInt8)), leN 8 pc.toNat, regsB rg].flatten ++ ([bif run then 1 else 0] ++ List.replicate 47 (0 : UInt8)) := by
    rw [recB, gr_B (by rw [recB_fl]; decide), recB_fl]; simp
  rw [e, List.getD_eq_getElem?_getD, List.getElem?_append_right (by omega), h2]
  cases run <;> rfl
theorem okRec_run {g : List UInt8} {r : Bool} (h : recB (wordB g 1) (rcR g) r = g) : r = decide (g.getD 80 0 = 1) ∧ r = decide (g.getD 80 0 ≠ 0) := by
  have e := rec_80 (wordB g 1) (rcR g) r
  rw [h] at e
  cases r <;> simp_all
theorem okRec_ne {g : List UInt8} (h : okRec g = false) (hm : mayRec (wordB g 1) = true) (e : recB (wordB g 1) (rcR g) (decide (g.getD 80 0 ≠ 0)) = g) : False := by
  have h1 := okRec_run e
  rw [← h1.2, h1.1] at e
  simp [okRec, hm] at h
  exact h (by simpa using e)
theorem okRec_ne2 {g : List UInt8} (h : okRec g = false) (hm : mayRec (wordB g 1) = true) (e : recB (wordB g 1) (rcR g) (decide (g.getD 80 0 = 1)) = g) : False := by
  simp [okRec, hm] at h
  exact h (by simpa using e)
theorem okRec_eq {g : List UInt8} (h : okRec g = true) : recB (wordB g 1) (rcR g) (decide (g.getD 80 0 = 1)) = g := by
  rw [okRec, Bool.and_eq_true] at h; exact of_decide_eq_true h.2
theorem okRec_eq2 {g : List UInt8} (h : okRec g = true) : decide (g.getD 80 0 ≠ 0) = decide (g.getD 80 0 = 1) := by
  have := okRec_run (okRec_eq h); rw [← this.2]
theorem c_RealmBytes_t (vl : List UInt8) (hvl : vl.length = 32) (nd : UInt64) (h : mayRealm nd = true) (w : World) :
    Cs Try.prog 18 [(.agg ⟨flat [(32, vl.map vu8), (1, [(vu64 nd)])]⟩)].toArray w (fun v w1 => v = (.tuple [(.agg ⟨(realmB vl nd).map vu8⟩), (vi 0)].toArray) ∧ Chg w w1 []) := by
  refine Cs.of (n := 10) (args := [(.agg ⟨flat [(32, vl.map vu8), (1, [(vu64 nd)])]⟩)]) Try.func18 rfl rfl rfl ?_
  have h_0 := HP.init w
  refine WP.seq ?_
  refine WP.reg ?_
  refine WL.box (v := (.agg ⟨flat [(32, vl.map vu8), (1, [(vu64 nd)])]⟩)) (segs := [(32, vl.map vu8), (1, [(vu64 nd)])]) h_0 rfl rfl (SsOk.cons (SOk.u8 hvl) (SsOk.cons (SOk.v rfl) SsOk.nil)) rfl (fun b_1 w_2 h_3 => ?_)
  refine WL.alloc (segs := [(128, (List.replicate 128 (0 : UInt8)).map vu8)]) h_3 (zv Try.typeInfo53 rfl) rfl (SsOk.cons (SOk.u8 (List.length_replicate ..)) SsOk.nil) rfl (fun b_4 w_5 h_6 => ?_)
  refine WL.q (Wn.no rfl) rfl rfl (R.assign (v := (vi 0)) rfl) ?_
  refine WL.nil ?_
  refine thn_n ?_
  refine WP.seq ?_
  refine WP.seq ?_
  refine WP.reg ?_
  refine WL.q (Wn.no rfl) rfl rfl (R.loadA (b := b_1) (off := 0) [] [(32, vl.map vu8), (1, [(vu64 nd)])] [] (cs := flat [(32, vl.map vu8), (1, [(vu64 nd)])]) rfl Try.isAgg51 Try.sizeOf51 (h_6.ok _ (.tail _ (.head _))) rfl rfl rfl rfl) ?_
  refine WL.call (al := [(.agg ⟨flat [(32, vl.map vu8), (1, [(vu64 nd)])]⟩)]) Try.call19 rfl rfl (c_MayRealm vl hvl nd _ ) rfl ?_
  rintro _ w_8 ⟨rfl, hc_7⟩
  have h_9 := h_6.same hc_7
  refine WL.q (Wn.no rfl) rfl rfl (R.not (b := true) (congrArg Value.bool h)) ?_
  refine WL.nil ?_
  refine thn_n ?_
  refine WP.condF rfl ?_
  refine WP.skip ?_
  refine thn_n ?_
  refine WP.seq ?_
  refine WP.reg ?_
  refine WL.q (Wn.no rfl) rfl rfl (R.loadA (b := b_1) (off := 0) [] [(32, vl.map vu8), (1, [(vu64 nd)])] [] (cs := flat [(32, vl.map vu8), (1, [(vu64 nd)])]) rfl Try.isAgg51 Try.sizeOf51 (h_9.ok _ (.tail _ (.head _))) rfl rfl rfl rfl) ?_
  refine WL.call (al := [(.agg ⟨flat [(32, vl.map vu8), (1, [(vu64 nd)])]⟩)]) Try.call43 rfl rfl (c_realm vl hvl nd _ ) rfl ?_
  rintro _ w_11 ⟨rfl, hc_10⟩
  have h_12 := h_9.same hc_10
  refine WL.storeA (b := b_4) (off := 0) [] [(128, (List.replicate 128 (0 : UInt8)).map vu8)] [(128, (realmB vl nd).map vu8)] [] (ys := (realmB vl nd).map vu8) h_12 rfl rfl Try.sizeOf53 At.h (by decide) rfl rfl rfl rfl rfl rfl (SsOk.cons (SOk.u8 (realmB_len hvl)) SsOk.nil) (fun w_13 h_14 => ?_)
  refine WL.q (Wn.no rfl) rfl rfl (R.assign (v := (vi 0)) rfl) ?_
  refine WL.nil ?_
  refine thn_n ?_
  refine WP.ret ?_
  refine ret_of Try.results18 (RV.cell rfl (h_14.loadA (cs := (realmB vl nd).map vu8) Try.isAgg53 Try.sizeOf53 (.head _) rfl rfl) (RV.tmp (v := (vi 0)) rfl RV.nil)) ?_
  exact ⟨rfl, h_14.chgS⟩

theorem c_RealmBytes_f (vl : List UInt8) (hvl : vl.length = 32) (nd : UInt64) (h : mayRealm nd = false) (w : World) :
    Cs Try.prog 18 [(.agg ⟨flat [(32, vl.map vu8), (1, [(vu64 nd)])]⟩)].toArray w (fun v w1 => v = (.tuple [(.agg ⟨(List.replicate 128 (0 : UInt8)).map vu8⟩), (vi 2)].toArray) ∧ Chg w w1 []) := by
  refine Cs.of (n := 10) (args := [(.agg ⟨flat [(32, vl.map vu8), (1, [(vu64 nd)])]⟩)]) Try.func18 rfl rfl rfl ?_
  have h_0 := HP.init w
  refine WP.seq ?_
  refine WP.reg ?_
  refine WL.box (v := (.agg ⟨flat [(32, vl.map vu8), (1, [(vu64 nd)])]⟩)) (segs := [(32, vl.map vu8), (1, [(vu64 nd)])]) h_0 rfl rfl (SsOk.cons (SOk.u8 hvl) (SsOk.cons (SOk.v rfl) SsOk.nil)) rfl (fun b_1 w_2 h_3 => ?_)
  refine WL.alloc (segs := [(128, (List.replicate 128 (0 : UInt8)).map vu8)]) h_3 (zv Try.typeInfo53 rfl) rfl (SsOk.cons (SOk.u8 (List.length_replicate ..)) SsOk.nil) rfl (fun b_4 w_5 h_6 => ?_)
  refine WL.q (Wn.no rfl) rfl rfl (R.assign (v := (vi 0)) rfl) ?_
  refine WL.nil ?_
  refine thn_n ?_
  refine WP.seq ?_
  refine WP.seq ?_
  refine WP.reg ?_
  refine WL.q (Wn.no rfl) rfl rfl (R.loadA (b := b_1) (off := 0) [] [(32, vl.map vu8), (1, [(vu64 nd)])] [] (cs := flat [(32, vl.map vu8), (1, [(vu64 nd)])]) rfl Try.isAgg51 Try.sizeOf51 (h_6.ok _ (.tail _ (.head _))) rfl rfl rfl rfl) ?_
  refine WL.call (al := [(.agg ⟨flat [(32, vl.map vu8), (1, [(vu64 nd)])]⟩)]) Try.call19 rfl rfl (c_MayRealm vl hvl nd _ ) rfl ?_
  rintro _ w_8 ⟨rfl, hc_7⟩
  have h_9 := h_6.same hc_7
  refine WL.q (Wn.no rfl) rfl rfl (R.not (b := false) (congrArg Value.bool h)) ?_
  refine WL.nil ?_
  refine thn_n ?_
  refine WP.condT rfl ?_
  refine WP.seq ?_
  refine WP.reg ?_
  refine WL.q (Wn.no rfl) rfl rfl (R.buildA (vs := []) (cs := (List.replicate 128 (0 : UInt8)).map vu8) Try.underlying53 Try.sizeOf5 (zv Try.typeInfo53 rfl) rfl rfl) ?_
  refine WL.storeA (b := b_4) (off := 0) [] [(128, (List.replicate 128 (0 : UInt8)).map vu8)] [(128, (List.replicate 128 (0 : UInt8)).map vu8)] [] (ys := (List.replicate 128 (0 : UInt8)).map vu8) h_9 rfl rfl Try.sizeOf53 At.h (by decide) rfl rfl rfl rfl rfl rfl (SsOk.cons (SOk.u8 (List.length_replicate ..)) SsOk.nil) (fun w_10 h_11 => ?_)
  refine WL.q (Wn.no rfl) rfl rfl (R.assign (v := (vi 2)) rfl) ?_
  refine WL.nil ?_
  refine thn_n ?_
  refine WP.ret ?_
  refine thn_r ?_
  refine ret_of Try.results18 (RV.cell rfl (h_11.loadA (cs := (List.replicate 128 (0 : UInt8)).map vu8) Try.isAgg53 Try.sizeOf53 (.head _) rfl rfl) (RV.tmp (v := (vi 2)) rfl RV.nil)) ?_
  exact ⟨rfl, h_11.chgS⟩

theorem c_RecBytes_t (pc : UInt64) (rg : List UInt64) (hrg : rg.length = 8) (run : Bool) (h : mayRec pc = true) (w : World) :
    Cs Try.prog 24 [(.agg ⟨flat [(1, [(vu64 pc)]), (8, rg.map vu64), (1, [(.bool run)])]⟩)].toArray w (fun v w1 => v = (.tuple [(.agg ⟨(recB pc rg run).map vu8⟩), (vi 0)].toArray) ∧ Chg w w1 []) := by
  refine Cs.of (n := 10) (args := [(.agg ⟨flat [(1, [(vu64 pc)]), (8, rg.map vu64), (1, [(.bool run)])]⟩)]) Try.func24 rfl rfl rfl ?_
  have h_0 := HP.init w
  refine WP.seq ?_
  refine WP.reg ?_
  refine WL.box (v := (.agg ⟨flat [(1, [(vu64 pc)]), (8, rg.map vu64), (1, [(.bool run)])]⟩)) (segs := [(1, [(vu64 pc)]), (8, rg.map vu64), (1, [(.bool run)])]) h_0 rfl rfl (SsOk.cons (SOk.v rfl) (SsOk.cons (SOk.u64 hrg) (SsOk.cons (SOk.v rfl) SsOk.nil))) rfl (fun b_1 w_2 h_3 => ?_)
  refine WL.alloc (segs := [(128, (List.replicate 128 (0 : UInt8)).map vu8)]) h_3 (zv Try.typeInfo53 rfl) rfl (SsOk.cons (SOk.u8 (List.length_replicate ..)) SsOk.nil) rfl (fun b_4 w_5 h_6 => ?_)
  refine WL.q (Wn.no rfl) rfl rfl (R.assign (v := (vi 0)) rfl) ?_
  refine WL.nil ?_
  refine thn_n ?_
  refine WP.seq ?_
  refine WP.seq ?_
  refine WP.reg ?_
  refine WL.q (Wn.no rfl) rfl rfl (R.loadA (b := b_1) (off := 0) [] [(1, [(vu64 pc)]), (8, rg.map vu64), (1, [(.bool run)])] [] (cs := flat [(1, [(vu64 pc)]), (8, rg.map vu64), (1, [(.bool run)])]) rfl Try.isAgg45 Try.sizeOf45 (h_6.ok _ (.tail _ (.head _))) rfl rfl rfl rfl) ?_
  refine WL.call (al := [(.agg ⟨flat [(1, [(vu64 pc)]), (8, rg.map vu64), (1, [(.bool run)])]⟩)]) Try.call25 rfl rfl (c_MayRec pc rg hrg run _ ) rfl ?_
  rintro _ w_8 ⟨rfl, hc_7⟩
  have h_9 := h_6.same hc_7
  refine WL.q (Wn.no rfl) rfl rfl (R.not (b := true) (congrArg Value.bool h)) ?_
  refine WL.nil ?_
  refine thn_n ?_
  refine WP.condF rfl ?_
  refine WP.skip ?_
  refine thn_n ?_
  refine WP.seq ?_
  refine WP.reg ?_
  refine WL.q (Wn.no rfl) rfl rfl (R.loadA (b := b_1) (off := 0) [] [(1, [(vu64 pc)]), (8, rg.map vu64), (1, [(.bool run)])] [] (cs := flat [(1, [(vu64 pc)]), (8, rg.map vu64), (1, [(.bool run)])]) rfl Try.isAgg45 Try.sizeOf45 (h_9.ok _ (.tail _ (.head _))) rfl rfl rfl rfl) ?_
  refine WL.call (al := [(.agg ⟨flat [(1, [(vu64 pc)]), (8, rg.map vu64), (1, [(.bool run)])]⟩)]) Try.call47 rfl rfl (c_rec pc rg hrg run _ ) rfl ?_
  rintro _ w_11 ⟨rfl, hc_10⟩
  have h_12 := h_9.same hc_10
  refine WL.storeA (b := b_4) (off := 0) [] [(128, (List.replicate 128 (0 : UInt8)).map vu8)] [(128, (recB pc rg run).map vu8)] [] (ys := (recB pc rg run).map vu8) h_12 rfl rfl Try.sizeOf53 At.h (by decide) rfl rfl rfl rfl rfl rfl (SsOk.cons (SOk.u8 (recB_len ..)) SsOk.nil) (fun w_13 h_14 => ?_)
  refine WL.q (Wn.no rfl) rfl rfl (R.assign (v := (vi 0)) rfl) ?_
  refine WL.nil ?_
  refine thn_n ?_
  refine WP.ret ?_
  refine ret_of Try.results24 (RV.cell rfl (h_14.loadA (cs := (recB pc rg run).map vu8) Try.isAgg53 Try.sizeOf53 (.head _) rfl rfl) (RV.tmp (v := (vi 0)) rfl RV.nil)) ?_
  exact ⟨rfl, h_14.chgS⟩

theorem c_RecBytes_f (pc : UInt64) (rg : List UInt64) (hrg : rg.length = 8) (run : Bool) (h : mayRec pc = false) (w : World) :
    Cs Try.prog 24 [(.agg ⟨flat [(1, [(vu64 pc)]), (8, rg.map vu64), (1, [(.bool run)])]⟩)].toArray w (fun v w1 => v = (.tuple [(.agg ⟨(List.replicate 128 (0 : UInt8)).map vu8⟩), (vi 2)].toArray) ∧ Chg w w1 []) := by
  refine Cs.of (n := 10) (args := [(.agg ⟨flat [(1, [(vu64 pc)]), (8, rg.map vu64), (1, [(.bool run)])]⟩)]) Try.func24 rfl rfl rfl ?_
  have h_0 := HP.init w
  refine WP.seq ?_
  refine WP.reg ?_
  refine WL.box (v := (.agg ⟨flat [(1, [(vu64 pc)]), (8, rg.map vu64), (1, [(.bool run)])]⟩)) (segs := [(1, [(vu64 pc)]), (8, rg.map vu64), (1, [(.bool run)])]) h_0 rfl rfl (SsOk.cons (SOk.v rfl) (SsOk.cons (SOk.u64 hrg) (SsOk.cons (SOk.v rfl) SsOk.nil))) rfl (fun b_1 w_2 h_3 => ?_)
  refine WL.alloc (segs := [(128, (List.replicate 128 (0 : UInt8)).map vu8)]) h_3 (zv Try.typeInfo53 rfl) rfl (SsOk.cons (SOk.u8 (List.length_replicate ..)) SsOk.nil) rfl (fun b_4 w_5 h_6 => ?_)
  refine WL.q (Wn.no rfl) rfl rfl (R.assign (v := (vi 0)) rfl) ?_
  refine WL.nil ?_
  refine thn_n ?_
  refine WP.seq ?_
  refine WP.seq ?_
  refine WP.reg ?_
  refine WL.q (Wn.no rfl) rfl rfl (R.loadA (b := b_1) (off := 0) [] [(1, [(vu64 pc)]), (8, rg.map vu64), (1, [(.bool run)])] [] (cs := flat [(1, [(vu64 pc)]), (8, rg.map vu64), (1, [(.bool run)])]) rfl Try.isAgg45 Try.sizeOf45 (h_6.ok _ (.tail _ (.head _))) rfl rfl rfl rfl) ?_
  refine WL.call (al := [(.agg ⟨flat [(1, [(vu64 pc)]), (8, rg.map vu64), (1, [(.bool run)])]⟩)]) Try.call25 rfl rfl (c_MayRec pc rg hrg run _ ) rfl ?_
  rintro _ w_8 ⟨rfl, hc_7⟩
  have h_9 := h_6.same hc_7
  refine WL.q (Wn.no rfl) rfl rfl (R.not (b := false) (congrArg Value.bool h)) ?_
  refine WL.nil ?_
  refine thn_n ?_
  refine WP.condT rfl ?_
  refine WP.seq ?_
  refine WP.reg ?_
  refine WL.q (Wn.no rfl) rfl rfl (R.buildA (vs := []) (cs := (List.replicate 128 (0 : UInt8)).map vu8) Try.underlying53 Try.sizeOf5 (zv Try.typeInfo53 rfl) rfl rfl) ?_
  refine WL.storeA (b := b_4) (off := 0) [] [(128, (List.replicate 128 (0 : UInt8)).map vu8)] [(128, (List.replicate 128 (0 : UInt8)).map vu8)] [] (ys := (List.replicate 128 (0 : UInt8)).map vu8) h_9 rfl rfl Try.sizeOf53 At.h (by decide) rfl rfl rfl rfl rfl rfl (SsOk.cons (SOk.u8 (List.length_replicate ..)) SsOk.nil) (fun w_10 h_11 => ?_)
  refine WL.q (Wn.no rfl) rfl rfl (R.assign (v := (vi 2)) rfl) ?_
  refine WL.nil ?_
  refine thn_n ?_
  refine WP.ret ?_
  refine thn_r ?_
  refine ret_of Try.results24 (RV.cell rfl (h_11.loadA (cs := (List.replicate 128 (0 : UInt8)).map vu8) Try.isAgg53 Try.sizeOf53 (.head _) rfl rfl) (RV.tmp (v := (vi 2)) rfl RV.nil)) ?_
  exact ⟨rfl, h_11.chgS⟩

theorem c_Realm_t (g : List UInt8) (hg : g.length = 128) (h : okRealm g = true) (w : World) :
    Cs Try.prog 32 [(.agg ⟨g.map vu8⟩)].toArray w (fun v w1 => v = (.tuple [(.agg ⟨flat [(32, (rlV g).map vu8), (1, [(vu64 (wordB g 5))])]⟩), (vi 0)].toArray) ∧ Chg w w1 []) := by
  refine Cs.of (n := 22) (args := [(.agg ⟨g.map vu8⟩)]) Try.func32 rfl rfl rfl ?_
  have h_0 := HP.init w
  refine WP.seq ?_
  refine WP.reg ?_
  refine WL.box (v := (.agg ⟨g.map vu8⟩)) (segs := [(128, g.map vu8)]) h_0 rfl rfl (SsOk.cons (SOk.u8 hg) SsOk.nil) rfl (fun b_1 w_2 h_3 => ?_)
  refine WL.alloc (segs := [(32, (List.replicate 32 (0 : UInt8)).map vu8), (1, [(vu64 0)])]) h_3 (zv Try.typeInfo51 rfl) rfl (SsOk.cons (SOk.u8 (List.length_replicate ..)) (SsOk.cons (SOk.v rfl) SsOk.nil)) rfl (fun b_4 w_5 h_6 => ?_)
  refine WL.q (Wn.no rfl) rfl rfl (R.assign (v := (vi 0)) rfl) ?_
  refine WL.nil ?_
  refine thn_n ?_
  refine WP.seq ?_
  refine WP.cutG (G := Nat) [4, 5, 6, 7, 8, 9, 10] (fun bY1Y6Y0Y0 => [(5, (.slice (some ⟨b_1, 8, none⟩) 32 120)), (6, (.pointer (some ⟨b_1, 8, none⟩))), (7, (.agg ⟨((g.drop 8).take 32).map vu8⟩)), (8, (.slice (some ⟨b_1, 0, none⟩) 128 128)), (9, (vu64 (wordB g 5))), (10, (.agg ⟨flat [(32, ((g.drop 8).take 32).map vu8), (1, [(vu64 (wordB g 5))])]⟩)), (4, (.pointer (some ⟨bY1Y6Y0Y0, 0, none⟩)))]) (fun bY1Y6Y0Y0 w1 => HP w w1 [.blk bY1Y6Y0Y0 .nw 51 [(32, ((g.drop 8).take 32).map vu8), (1, [(vu64 (wordB g 5))])], .blk b_4 .nw 51 [(32, (List.replicate 32 (0 : UInt8)).map vu8), (1, [(vu64 0)])], .blk b_1 .nw 53 [(128, g.map vu8)]]) ?_ ?_
  · refine WP.drawT (SL w.heap.size [.blk b_4 .nw 51 [(32, (List.replicate 32 (0 : UInt8)).map vu8), (1, [(vu64 0)])], .blk b_1 .nw 53 [(128, g.map vu8)]]) (.q 0 (.q 1 (.q 2 (.q 3 (.s2 4 6 (.q 5 (.s 6 (.s 7 .nil))) (.s 4 (.q 5 (.s 7 .nil)))))))) (by kernel_rfl) (by kernel_rfl) rfl (by kernel_rfl) (fun w_7 hc_9 => (SL.cons ((h_6.same hc_9).ok _ (.head _)) (SL.cons ((h_6.same hc_9).ok _ (.tail _ (.head _))) (SL.nil _ _)))) (fun w_7 hc_9 => ?_)
    have h_8 := h_6.same hc_9
    refine WT.q rfl (Wn.no rfl) rfl rfl (fun wq hS => R.sliceA (b := b_1) (off := 0) (off' := 8) (l := 8) (h := 40) rfl (EvB.it (l := 8) rfl rfl) (EvB.it (l := 40) rfl rfl) (by decide) (by decide) Try.underlying53 Try.sizeOf5 rfl) ?_
    refine WT.q rfl (Wn.no rfl) rfl rfl (fun wq hS => R.s2ap (a := some ⟨b_1, 8, none⟩) (k := 32) rfl Try.underlying49 (by decide)) ?_
    refine WT.q rfl (Wn.no rfl) rfl rfl (fun wq hS => R.loadEA (b := b_1) (off := 8) (i := 8) (xs := ((g.drop 8).take 32).map vu8) rfl Try.isAgg49 Try.sizeOf49 (hS _ (.tail _ (.head _))) Sg.h rfl (by rw [List.map_take, List.map_drop]) (len_map (by simp only [List.length_take, List.length_drop, hg]; first | decide | omega))) ?_
    refine WT.q rfl (Wn.no rfl) rfl rfl (fun wq hS => R.sliceA (b := b_1) (off := 0) (off' := 0) (l := 0) (h := 128) rfl EvB.dflt EvB.dflt (by decide) (by decide) Try.underlying53 Try.sizeOf5 rfl) ?_
    refine WT.s2 ?_ ?_
    · refine Op1.one rfl (Wn.no rfl) ?_
      refine WL.call (al := [(.slice (some ⟨b_1, 0, none⟩) 128 128), (vi 5)]) Try.call48 rfl rfl (c_Word (some ⟨b_1, 0, none⟩) 128 128 g hg 5 (by omega) _ (viewB (h_8.ok _ (.tail _ (.head _))) Sg.h) (by omega)) rfl ?_
      rintro _ w_11 ⟨rfl, hc_10⟩
      have h_12 := h_8.same hc_10
      refine WL.nil ?_
      refine ⟨(SL.cons (h_12.ok _ (.head _)) (SL.cons (h_12.ok _ (.tail _ (.head _))) (SL.nil _ _))), ?_⟩
      refine WT.q rfl (Wn.no rfl) rfl rfl (fun wq hS => R.buildS (pl := [(0, 32), (32, 1)]) (zs := [(32, (List.replicate 32 (0 : UInt8)).map vu8), (1, [(vu64 0)])]) (vs := [(0, (.agg ⟨((g.drop 8).take 32).map vu8⟩)), (1, (vu64 (wordB g 5)))]) (out := [(32, ((g.drop 8).take 32).map vu8), (1, [(vu64 (wordB g 5))])]) (cs := flat [(32, ((g.drop 8).take 32).map vu8), (1, [(vu64 (wordB g 5))])]) Try.underlying51 (zv Try.typeInfo51 rfl) rfl (SsOk.cons (SOk.u8 (List.length_replicate ..)) (SsOk.cons (SOk.v rfl) SsOk.nil)) (pl51 _ Try.underlying51) rfl (FillR.cons [] [(32, (List.replicate 32 (0 : UInt8)).map vu8)] [(32, ((g.drop 8).take 32).map vu8)] [(1, [(vu64 0)])] rfl rfl rfl rfl (SsOk.cons (SOk.u8 (by simp only [List.length_take, List.length_drop, hg]; first | decide | omega)) SsOk.nil) rfl rfl rfl (FillR.cons [(32, ((g.drop 8).take 32).map vu8)] [(1, [(vu64 0)])] [(1, [(vu64 (wordB g 5))])] [] rfl rfl rfl rfl (SsOk.cons (SOk.v rfl) SsOk.nil) rfl rfl rfl FillR.nil)) rfl) ?_
      refine WT.s ?_
      refine Op1.one rfl (Wn.no rfl) ?_
      refine WL.alloc (segs := [(32, (List.replicate 32 (0 : UInt8)).map vu8), (1, [(vu64 0)])]) h_12 (zv Try.typeInfo51 rfl) rfl (SsOk.cons (SOk.u8 (List.length_replicate ..)) (SsOk.cons (SOk.v rfl) SsOk.nil)) rfl (fun b_14 w_15 h_16 => ?_)
      refine WL.nil ?_
      refine ⟨(SL.cons (h_16.ok _ (.tail _ (.head _))) (SL.cons (h_16.ok _ (.tail _ (.tail _ (.head _)))) (SL.nil _ _))), ?_⟩
      refine WT.s ?_
      refine Op1.one rfl (Wn.no rfl) ?_
      refine WL.storeA (b := b_14) (off := 0) [] [(32, (List.replicate 32 (0 : UInt8)).map vu8), (1, [(vu64 0)])] [(32, ((g.drop 8).take 32).map vu8), (1, [(vu64 (wordB g 5))])] [] (ys := flat [(32, ((g.drop 8).take 32).map vu8), (1, [(vu64 (wordB g 5))])]) h_16 rfl rfl Try.sizeOf51 At.h (by decide) rfl rfl rfl rfl rfl rfl (SsOk.cons (SOk.u8 (by simp only [List.length_take, List.length_drop, hg]; first | decide | omega)) (SsOk.cons (SOk.v rfl) SsOk.nil)) (fun w_17 h_18 => ?_)
      refine WL.nil ?_
      refine ⟨(SL.cons (h_18.ok _ (.tail _ (.head _))) (SL.cons (h_18.ok _ (.tail _ (.tail _ (.head _)))) (SL.nil _ _))), ?_⟩
      refine WT.nil ?_
      refine thn_n ?_
      exact ⟨b_14, (Ag.upd rfl (Ag.upd rfl (Ag.upd rfl (Ag.upd rfl (Ag.upd rfl (Ag.upd rfl (Ag.upd rfl (Ag.refl _ _)))))))), ⟨rfl, rfl, rfl, rfl, rfl, rfl, rfl, trivial⟩, h_18⟩
    · refine Op1.one rfl (Wn.no rfl) ?_
      refine WL.alloc (segs := [(32, (List.replicate 32 (0 : UInt8)).map vu8), (1, [(vu64 0)])]) h_8 (zv Try.typeInfo51 rfl) rfl (SsOk.cons (SOk.u8 (List.length_replicate ..)) (SsOk.cons (SOk.v rfl) SsOk.nil)) rfl (fun b_19 w_20 h_21 => ?_)
      refine WL.nil ?_
      refine ⟨(SL.cons (h_21.ok _ (.tail _ (.head _))) (SL.cons (h_21.ok _ (.tail _ (.tail _ (.head _)))) (SL.nil _ _))), ?_⟩
      refine WT.s ?_
      refine Op1.one rfl (Wn.no rfl) ?_
      refine WL.call (al := [(.slice (some ⟨b_1, 0, none⟩) 128 128), (vi 5)]) Try.call48 rfl rfl (c_Word (some ⟨b_1, 0, none⟩) 128 128 g hg 5 (by omega) _ (viewB (h_21.ok _ (.tail _ (.tail _ (.head _)))) Sg.h) (by omega)) rfl ?_
      rintro _ w_23 ⟨rfl, hc_22⟩
      have h_24 := h_21.same hc_22
      refine WL.nil ?_
      refine ⟨(SL.cons (h_24.ok _ (.tail _ (.head _))) (SL.cons (h_24.ok _ (.tail _ (.tail _ (.head _)))) (SL.nil _ _))), ?_⟩
      refine WT.q rfl (Wn.no rfl) rfl rfl (fun wq hS => R.buildS (pl := [(0, 32), (32, 1)]) (zs := [(32, (List.replicate 32 (0 : UInt8)).map vu8), (1, [(vu64 0)])]) (vs := [(0, (.agg ⟨((g.drop 8).take 32).map vu8⟩)), (1, (vu64 (wordB g 5)))]) (out := [(32, ((g.drop 8).take 32).map vu8), (1, [(vu64 (wordB g 5))])]) (cs := flat [(32, ((g.drop 8).take 32).map vu8), (1, [(vu64 (wordB g 5))])]) Try.underlying51 (zv Try.typeInfo51 rfl) rfl (SsOk.cons (SOk.u8 (List.length_replicate ..)) (SsOk.cons (SOk.v rfl) SsOk.nil)) (pl51 _ Try.underlying51) rfl (FillR.cons [] [(32, (List.replicate 32 (0 : UInt8)).map vu8)] [(32, ((g.drop 8).take 32).map vu8)] [(1, [(vu64 0)])] rfl rfl rfl rfl (SsOk.cons (SOk.u8 (by simp only [List.length_take, List.length_drop, hg]; first | decide | omega)) SsOk.nil) rfl rfl rfl (FillR.cons [(32, ((g.drop 8).take 32).map vu8)] [(1, [(vu64 0)])] [(1, [(vu64 (wordB g 5))])] [] rfl rfl rfl rfl (SsOk.cons (SOk.v rfl) SsOk.nil) rfl rfl rfl FillR.nil)) rfl) ?_
      refine WT.s ?_
      refine Op1.one rfl (Wn.no rfl) ?_
      refine WL.storeA (b := b_19) (off := 0) [] [(32, (List.replicate 32 (0 : UInt8)).map vu8), (1, [(vu64 0)])] [(32, ((g.drop 8).take 32).map vu8), (1, [(vu64 (wordB g 5))])] [] (ys := flat [(32, ((g.drop 8).take 32).map vu8), (1, [(vu64 (wordB g 5))])]) h_24 rfl rfl Try.sizeOf51 At.h (by decide) rfl rfl rfl rfl rfl rfl (SsOk.cons (SOk.u8 (by simp only [List.length_take, List.length_drop, hg]; first | decide | omega)) (SsOk.cons (SOk.v rfl) SsOk.nil)) (fun w_26 h_27 => ?_)
      refine WL.nil ?_
      refine ⟨(SL.cons (h_27.ok _ (.tail _ (.head _))) (SL.cons (h_27.ok _ (.tail _ (.tail _ (.head _)))) (SL.nil _ _))), ?_⟩
      refine WT.nil ?_
      refine thn_n ?_
      exact ⟨b_19, (Ag.upd rfl (Ag.upd rfl (Ag.upd rfl (Ag.upd rfl (Ag.upd rfl (Ag.upd rfl (Ag.upd rfl (Ag.refl _ _)))))))), ⟨rfl, rfl, rfl, rfl, rfl, rfl, rfl, trivial⟩, h_27⟩
  · rintro b_31 J_28 w_29 h_30
    refine thn_n ?_
    refine WP.seq ?_
    refine WP.seq ?_
    refine WP.drawT (SL w.heap.size [.blk b_31 .nw 51 [(32, ((g.drop 8).take 32).map vu8), (1, [(vu64 (wordB g 5))])], .blk b_4 .nw 51 [(32, (List.replicate 32 (0 : UInt8)).map vu8), (1, [(vu64 0)])], .blk b_1 .nw 53 [(128, g.map vu8)]]) (.q 0 (.s 1 (.q 2 (.q 3 (.q 4 (.q 6 (.s 5 (.q 7 (.q 8 .nil))))))))) (by kernel_rfl) (by kernel_rfl) rfl (by kernel_rfl) (fun w_32 hc_34 => (SL.cons ((h_30.same hc_34).ok _ (.head _)) (SL.cons ((h_30.same hc_34).ok _ (.tail _ (.head _))) (SL.cons ((h_30.same hc_34).ok _ (.tail _ (.tail _ (.head _)))) (SL.nil _ _))))) (fun w_32 hc_34 => ?_)
    have h_33 := h_30.same hc_34
    refine WT.q rfl (Wn.no rfl) rfl rfl (fun wq hS => R.loadA (b := b_31) (off := 0) [] [(32, ((g.drop 8).take 32).map vu8), (1, [(vu64 (wordB g 5))])] [] (cs := flat [(32, ((g.drop 8).take 32).map vu8), (1, [(vu64 (wordB g 5))])]) rfl Try.isAgg51 Try.sizeOf51 (hS _ (.head _)) rfl rfl rfl rfl) ?_
    refine WT.s ?_
    refine Op1.one rfl (Wn.no rfl) ?_
    refine WL.call (al := [(.agg ⟨flat [(32, ((g.drop 8).take 32).map vu8), (1, [(vu64 (wordB g 5))])]⟩)]) Try.call19 rfl rfl (c_MayRealm ((g.drop 8).take 32) (by simp only [List.length_take, List.length_drop, hg]; first | decide | omega) (wordB g 5) _ ) rfl ?_
    rintro _ w_36 ⟨rfl, hc_35⟩
    have h_37 := h_33.same hc_35
    refine WL.nil ?_
    refine ⟨(SL.cons (h_37.ok _ (.head _)) (SL.cons (h_37.ok _ (.tail _ (.head _))) (SL.cons (h_37.ok _ (.tail _ (.tail _ (.head _)))) (SL.nil _ _)))), ?_⟩
    refine WT.q rfl (Wn.no rfl) rfl rfl (fun wq hS => R.not (b := mayRealm (wordB g 5)) rfl) ?_
    refine WT.q rfl (Wn.no rfl) rfl rfl (fun wq hS => R.move (v := (.bool (!(mayRealm (wordB g 5))))) rfl) ?_
    rcases Bool.eq_false_or_eq_true (!(mayRealm (wordB g 5))) with c_38 | c_38
    · refine WT.skipQ rfl rfl rfl (boolNe (v := .bool true) (congrArg Value.bool c_38) (by decide)) rfl rfl ?_
      refine WT.skipQ rfl rfl rfl (boolNe (v := .bool true) (congrArg Value.bool c_38) (by decide)) rfl rfl ?_
      refine WT.s ?_
      refine Op1.skip rfl rfl rfl (boolNe (v := .bool true) (congrArg Value.bool c_38) (by decide)) rfl rfl ?_
      refine WT.skipQ rfl rfl rfl (boolNe (v := .bool true) (congrArg Value.bool c_38) (by decide)) rfl rfl ?_
      refine WT.q rfl (Wn.no rfl) rfl rfl (fun wq hS => R.pickT (v := (.bool true)) (congrArg Value.bool c_38) rfl) ?_
      refine WT.nil ?_
      refine thn_n ?_
      refine WP.condT rfl ?_
      refine WP.seq ?_
      refine WP.reg ?_
      refine WL.q (Wn.no rfl) rfl rfl (R.buildS (pl := [(0, 32), (32, 1)]) (zs := [(32, (List.replicate 32 (0 : UInt8)).map vu8), (1, [(vu64 0)])]) (vs := []) (out := [(32, (List.replicate 32 (0 : UInt8)).map vu8), (1, [(vu64 0)])]) (cs := flat [(32, (List.replicate 32 (0 : UInt8)).map vu8), (1, [(vu64 0)])]) Try.underlying51 (zv Try.typeInfo51 rfl) rfl (SsOk.cons (SOk.u8 (List.length_replicate ..)) (SsOk.cons (SOk.v rfl) SsOk.nil)) (pl51 _ Try.underlying51) rfl FillR.nil rfl) ?_
      refine WL.storeA (b := b_4) (off := 0) [] [(32, (List.replicate 32 (0 : UInt8)).map vu8), (1, [(vu64 0)])] [(32, (List.replicate 32 (0 : UInt8)).map vu8), (1, [(vu64 0)])] [] (ys := flat [(32, (List.replicate 32 (0 : UInt8)).map vu8), (1, [(vu64 0)])]) h_37 rfl rfl Try.sizeOf51 (At.t At.h) (by decide) rfl rfl rfl rfl rfl rfl (SsOk.cons (SOk.u8 (List.length_replicate ..)) (SsOk.cons (SOk.v rfl) SsOk.nil)) (fun w_40 h_41 => ?_)
      refine WL.q (Wn.no rfl) rfl rfl (R.assign (v := (vi 4)) rfl) ?_
      refine WL.nil ?_
      refine thn_n ?_
      refine WP.ret ?_
      refine thn_r ?_
      refine ret_of Try.results32 (RV.cell rfl (h_41.loadA (cs := flat [(32, (List.replicate 32 (0 : UInt8)).map vu8), (1, [(vu64 0)])]) Try.isAgg51 Try.sizeOf51 (.tail _ (.head _)) rfl rfl) (RV.tmp (v := (vi 4)) rfl RV.nil)) ?_
      exfalso
      simp_all [okRealm, rlV]
    · refine WT.q rfl (Wn.yes rfl rfl (congrArg Value.bool c_38)) rfl rfl (fun wq hS => R.loadA (b := b_31) (off := 0) [] [(32, ((g.drop 8).take 32).map vu8), (1, [(vu64 (wordB g 5))])] [] (cs := flat [(32, ((g.drop 8).take 32).map vu8), (1, [(vu64 (wordB g 5))])]) rfl Try.isAgg51 Try.sizeOf51 (hS _ (.head _)) rfl rfl rfl rfl) ?_
      refine WT.q rfl (Wn.yes rfl rfl (congrArg Value.bool c_38)) rfl rfl (fun wq hS => R.loadA (b := b_1) (off := 0) [] [(128, g.map vu8)] [] (cs := g.map vu8) rfl Try.isAgg53 Try.sizeOf53 (hS _ (.tail _ (.tail _ (.head _)))) rfl rfl rfl rfl) ?_
      refine WT.s ?_
      refine Op1.one rfl (Wn.yes rfl rfl (congrArg Value.bool c_38)) ?_
      refine WL.call (al := [(.agg ⟨flat [(32, ((g.drop 8).take 32).map vu8), (1, [(vu64 (wordB g 5))])]⟩)]) Try.call43 rfl rfl (c_realm ((g.drop 8).take 32) (by simp only [List.length_take, List.length_drop, hg]; first | decide | omega) (wordB g 5) _ ) rfl ?_
      rintro _ w_43 ⟨rfl, hc_42⟩
      have h_44 := h_37.same hc_42
      refine WL.nil ?_
      refine ⟨(SL.cons (h_44.ok _ (.head _)) (SL.cons (h_44.ok _ (.tail _ (.head _))) (SL.cons (h_44.ok _ (.tail _ (.tail _ (.head _)))) (SL.nil _ _)))), ?_⟩
      refine WT.q rfl (Wn.yes rfl rfl (congrArg Value.bool c_38)) rfl rfl (fun wq hS => R.neA (xs := (realmB ((g.drop 8).take 32) (wordB g 5)).map vu8) (ys := g.map vu8) (r := !decide (realmB ((g.drop 8).take 32) (wordB g 5) = g)) rfl rfl Try.eqGuardType53 kt53 (by decide) ag53 (Typ.u8s Try.underlying53 ce53 Try.underlying5 ce5 (realmB_len (by simp only [List.length_take, List.length_drop, hg]; first | decide | omega))) (Typ.u8s Try.underlying53 ce53 Try.underlying5 ce5 hg) (map_inj_u8.trans (decN _))) ?_
      refine WT.q rfl (Wn.no rfl) rfl rfl (fun wq hS => R.pickF (v := (.bool (!decide (realmB ((g.drop 8).take 32) (wordB g 5) = g)))) (congrArg Value.bool c_38) rfl) ?_
      refine WT.nil ?_
      refine thn_n ?_
      refine WP.cond (b := !decide (realmB ((g.drop 8).take 32) (wordB g 5) = g)) rfl (fun c_45 => ?_) (fun c_45 => ?_)
      · refine WP.seq ?_
        refine WP.reg ?_
        refine WL.q (Wn.no rfl) rfl rfl (R.buildS (pl := [(0, 32), (32, 1)]) (zs := [(32, (List.replicate 32 (0 : UInt8)).map vu8), (1, [(vu64 0)])]) (vs := []) (out := [(32, (List.replicate 32 (0 : UInt8)).map vu8), (1, [(vu64 0)])]) (cs := flat [(32, (List.replicate 32 (0 : UInt8)).map vu8), (1, [(vu64 0)])]) Try.underlying51 (zv Try.typeInfo51 rfl) rfl (SsOk.cons (SOk.u8 (List.length_replicate ..)) (SsOk.cons (SOk.v rfl) SsOk.nil)) (pl51 _ Try.underlying51) rfl FillR.nil rfl) ?_
        refine WL.storeA (b := b_4) (off := 0) [] [(32, (List.replicate 32 (0 : UInt8)).map vu8), (1, [(vu64 0)])] [(32, (List.replicate 32 (0 : UInt8)).map vu8), (1, [(vu64 0)])] [] (ys := flat [(32, (List.replicate 32 (0 : UInt8)).map vu8), (1, [(vu64 0)])]) h_44 rfl rfl Try.sizeOf51 (At.t At.h) (by decide) rfl rfl rfl rfl rfl rfl (SsOk.cons (SOk.u8 (List.length_replicate ..)) (SsOk.cons (SOk.v rfl) SsOk.nil)) (fun w_47 h_48 => ?_)
        refine WL.q (Wn.no rfl) rfl rfl (R.assign (v := (vi 4)) rfl) ?_
        refine WL.nil ?_
        refine thn_n ?_
        refine WP.ret ?_
        refine thn_r ?_
        refine ret_of Try.results32 (RV.cell rfl (h_48.loadA (cs := flat [(32, (List.replicate 32 (0 : UInt8)).map vu8), (1, [(vu64 0)])]) Try.isAgg51 Try.sizeOf51 (.tail _ (.head _)) rfl rfl) (RV.tmp (v := (vi 4)) rfl RV.nil)) ?_
        exfalso
        simp_all [okRealm, rlV]
      · refine WP.skip ?_
        refine thn_n ?_
        refine WP.seq ?_
        refine WP.reg ?_
        refine WL.q (Wn.no rfl) rfl rfl (R.loadA (b := b_31) (off := 0) [] [(32, ((g.drop 8).take 32).map vu8), (1, [(vu64 (wordB g 5))])] [] (cs := flat [(32, ((g.drop 8).take 32).map vu8), (1, [(vu64 (wordB g 5))])]) rfl Try.isAgg51 Try.sizeOf51 (h_44.ok _ (.head _)) rfl rfl rfl rfl) ?_
        refine WL.storeA (b := b_4) (off := 0) [] [(32, (List.replicate 32 (0 : UInt8)).map vu8), (1, [(vu64 0)])] [(32, ((g.drop 8).take 32).map vu8), (1, [(vu64 (wordB g 5))])] [] (ys := flat [(32, ((g.drop 8).take 32).map vu8), (1, [(vu64 (wordB g 5))])]) h_44 rfl rfl Try.sizeOf51 (At.t At.h) (by decide) rfl rfl rfl rfl rfl rfl (SsOk.cons (SOk.u8 (by simp only [List.length_take, List.length_drop, hg]; first | decide | omega)) (SsOk.cons (SOk.v rfl) SsOk.nil)) (fun w_49 h_50 => ?_)
        refine WL.q (Wn.no rfl) rfl rfl (R.assign (v := (vi 0)) rfl) ?_
        refine WL.nil ?_
        refine thn_n ?_
        refine WP.ret ?_
        refine ret_of Try.results32 (RV.cell rfl (h_50.loadA (cs := flat [(32, ((g.drop 8).take 32).map vu8), (1, [(vu64 (wordB g 5))])]) Try.isAgg51 Try.sizeOf51 (.tail _ (.head _)) rfl rfl) (RV.tmp (v := (vi 0)) rfl RV.nil)) ?_
        exact ⟨rfl, h_50.chgS⟩

theorem c_Realm_f (g : List UInt8) (hg : g.length = 128) (h : okRealm g = false) (w : World) :
    Cs Try.prog 32 [(.agg ⟨g.map vu8⟩)].toArray w (fun v w1 => v = (.tuple [(.agg ⟨flat [(32, (List.replicate 32 (0 : UInt8)).map vu8), (1, [(vu64 0)])]⟩), (vi 4)].toArray) ∧ Chg w w1 []) := by
  refine Cs.of (n := 22) (args := [(.agg ⟨g.map vu8⟩)]) Try.func32 rfl rfl rfl ?_
  have h_0 := HP.init w
  refine WP.seq ?_
  refine WP.reg ?_
  refine WL.box (v := (.agg ⟨g.map vu8⟩)) (segs := [(128, g.map vu8)]) h_0 rfl rfl (SsOk.cons (SOk.u8 hg) SsOk.nil) rfl (fun b_1 w_2 h_3 => ?_)
  refine WL.alloc (segs := [(32, (List.replicate 32 (0 : UInt8)).map vu8), (1, [(vu64 0)])]) h_3 (zv Try.typeInfo51 rfl) rfl (SsOk.cons (SOk.u8 (List.length_replicate ..)) (SsOk.cons (SOk.v rfl) SsOk.nil)) rfl (fun b_4 w_5 h_6 => ?_)
  refine WL.q (Wn.no rfl) rfl rfl (R.assign (v := (vi 0)) rfl) ?_
  refine WL.nil ?_
  refine thn_n ?_
  refine WP.seq ?_
  refine WP.cutG (G := Nat) [4, 5, 6, 7, 8, 9, 10] (fun bY1Y6Y0Y0 => [(5, (.slice (some ⟨b_1, 8, none⟩) 32 120)), (6, (.pointer (some ⟨b_1, 8, none⟩))), (7, (.agg ⟨((g.drop 8).take 32).map vu8⟩)), (8, (.slice (some ⟨b_1, 0, none⟩) 128 128)), (9, (vu64 (wordB g 5))), (10, (.agg ⟨flat [(32, ((g.drop 8).take 32).map vu8), (1, [(vu64 (wordB g 5))])]⟩)), (4, (.pointer (some ⟨bY1Y6Y0Y0, 0, none⟩)))]) (fun bY1Y6Y0Y0 w1 => HP w w1 [.blk bY1Y6Y0Y0 .nw 51 [(32, ((g.drop 8).take 32).map vu8), (1, [(vu64 (wordB g 5))])], .blk b_4 .nw 51 [(32, (List.replicate 32 (0 : UInt8)).map vu8), (1, [(vu64 0)])], .blk b_1 .nw 53 [(128, g.map vu8)]]) ?_ ?_
  · refine WP.drawT (SL w.heap.size [.blk b_4 .nw 51 [(32, (List.replicate 32 (0 : UInt8)).map vu8), (1, [(vu64 0)])], .blk b_1 .nw 53 [(128, g.map vu8)]]) (.q 0 (.q 1 (.q 2 (.q 3 (.s2 4 6 (.q 5 (.s 6 (.s 7 .nil))) (.s 4 (.q 5 (.s 7 .nil)))))))) (by kernel_rfl) (by kernel_rfl) rfl (by kernel_rfl) (fun w_7 hc_9 => (SL.cons ((h_6.same hc_9).ok _ (.head _)) (SL.cons ((h_6.same hc_9).ok _ (.tail _ (.head _))) (SL.nil _ _)))) (fun w_7 hc_9 => ?_)
    have h_8 := h_6.same hc_9
    refine WT.q rfl (Wn.no rfl) rfl rfl (fun wq hS => R.sliceA (b := b_1) (off := 0) (off' := 8) (l := 8) (h := 40) rfl (EvB.it (l := 8) rfl rfl) (EvB.it (l := 40) rfl rfl) (by decide) (by decide) Try.underlying53 Try.sizeOf5 rfl) ?_
    refine WT.q rfl (Wn.no rfl) rfl rfl (fun wq hS => R.s2ap (a := some ⟨b_1, 8, none⟩) (k := 32) rfl Try.underlying49 (by decide)) ?_
    refine WT.q rfl (Wn.no rfl) rfl rfl (fun wq hS => R.loadEA (b := b_1) (off := 8) (i := 8) (xs := ((g.drop 8).take 32).map vu8) rfl Try.isAgg49 Try.sizeOf49 (hS _ (.tail _ (.head _))) Sg.h rfl (by rw [List.map_take, List.map_drop]) (len_map (by simp only [List.length_take, List.length_drop, hg]; first | decide | omega))) ?_
    refine WT.q rfl (Wn.no rfl) rfl rfl (fun wq hS => R.sliceA (b := b_1) (off := 0) (off' := 0) (l := 0) (h := 128) rfl EvB.dflt EvB.dflt (by decide) (by decide) Try.underlying53 Try.sizeOf5 rfl) ?_
    refine WT.s2 ?_ ?_
    · refine Op1.one rfl (Wn.no rfl) ?_
      refine WL.call (al := [(.slice (some ⟨b_1, 0, none⟩) 128 128), (vi 5)]) Try.call48 rfl rfl (c_Word (some ⟨b_1, 0, none⟩) 128 128 g hg 5 (by omega) _ (viewB (h_8.ok _ (.tail _ (.head _))) Sg.h) (by omega)) rfl ?_
      rintro _ w_11 ⟨rfl, hc_10⟩
      have h_12 := h_8.same hc_10
      refine WL.nil ?_
      refine ⟨(SL.cons (h_12.ok _ (.head _)) (SL.cons (h_12.ok _ (.tail _ (.head _))) (SL.nil _ _))), ?_⟩
      refine WT.q rfl (Wn.no rfl) rfl rfl (fun wq hS => R.buildS (pl := [(0, 32), (32, 1)]) (zs := [(32, (List.replicate 32 (0 : UInt8)).map vu8), (1, [(vu64 0)])]) (vs := [(0, (.agg ⟨((g.drop 8).take 32).map vu8⟩)), (1, (vu64 (wordB g 5)))]) (out := [(32, ((g.drop 8).take 32).map vu8), (1, [(vu64 (wordB g 5))])]) (cs := flat [(32, ((g.drop 8).take 32).map vu8), (1, [(vu64 (wordB g 5))])]) Try.underlying51 (zv Try.typeInfo51 rfl) rfl (SsOk.cons (SOk.u8 (List.length_replicate ..)) (SsOk.cons (SOk.v rfl) SsOk.nil)) (pl51 _ Try.underlying51) rfl (FillR.cons [] [(32, (List.replicate 32 (0 : UInt8)).map vu8)] [(32, ((g.drop 8).take 32).map vu8)] [(1, [(vu64 0)])] rfl rfl rfl rfl (SsOk.cons (SOk.u8 (by simp only [List.length_take, List.length_drop, hg]; first | decide | omega)) SsOk.nil) rfl rfl rfl (FillR.cons [(32, ((g.drop 8).take 32).map vu8)] [(1, [(vu64 0)])] [(1, [(vu64 (wordB g 5))])] [] rfl rfl rfl rfl (SsOk.cons (SOk.v rfl) SsOk.nil) rfl rfl rfl FillR.nil)) rfl) ?_
      refine WT.s ?_
      refine Op1.one rfl (Wn.no rfl) ?_
      refine WL.alloc (segs := [(32, (List.replicate 32 (0 : UInt8)).map vu8), (1, [(vu64 0)])]) h_12 (zv Try.typeInfo51 rfl) rfl (SsOk.cons (SOk.u8 (List.length_replicate ..)) (SsOk.cons (SOk.v rfl) SsOk.nil)) rfl (fun b_14 w_15 h_16 => ?_)
      refine WL.nil ?_
      refine ⟨(SL.cons (h_16.ok _ (.tail _ (.head _))) (SL.cons (h_16.ok _ (.tail _ (.tail _ (.head _)))) (SL.nil _ _))), ?_⟩
      refine WT.s ?_
      refine Op1.one rfl (Wn.no rfl) ?_
      refine WL.storeA (b := b_14) (off := 0) [] [(32, (List.replicate 32 (0 : UInt8)).map vu8), (1, [(vu64 0)])] [(32, ((g.drop 8).take 32).map vu8), (1, [(vu64 (wordB g 5))])] [] (ys := flat [(32, ((g.drop 8).take 32).map vu8), (1, [(vu64 (wordB g 5))])]) h_16 rfl rfl Try.sizeOf51 At.h (by decide) rfl rfl rfl rfl rfl rfl (SsOk.cons (SOk.u8 (by simp only [List.length_take, List.length_drop, hg]; first | decide | omega)) (SsOk.cons (SOk.v rfl) SsOk.nil)) (fun w_17 h_18 => ?_)
      refine WL.nil ?_
      refine ⟨(SL.cons (h_18.ok _ (.tail _ (.head _))) (SL.cons (h_18.ok _ (.tail _ (.tail _ (.head _)))) (SL.nil _ _))), ?_⟩
      refine WT.nil ?_
      refine thn_n ?_
      exact ⟨b_14, (Ag.upd rfl (Ag.upd rfl (Ag.upd rfl (Ag.upd rfl (Ag.upd rfl (Ag.upd rfl (Ag.upd rfl (Ag.refl _ _)))))))), ⟨rfl, rfl, rfl, rfl, rfl, rfl, rfl, trivial⟩, h_18⟩
    · refine Op1.one rfl (Wn.no rfl) ?_
      refine WL.alloc (segs := [(32, (List.replicate 32 (0 : UInt8)).map vu8), (1, [(vu64 0)])]) h_8 (zv Try.typeInfo51 rfl) rfl (SsOk.cons (SOk.u8 (List.length_replicate ..)) (SsOk.cons (SOk.v rfl) SsOk.nil)) rfl (fun b_19 w_20 h_21 => ?_)
      refine WL.nil ?_
      refine ⟨(SL.cons (h_21.ok _ (.tail _ (.head _))) (SL.cons (h_21.ok _ (.tail _ (.tail _ (.head _)))) (SL.nil _ _))), ?_⟩
      refine WT.s ?_
      refine Op1.one rfl (Wn.no rfl) ?_
      refine WL.call (al := [(.slice (some ⟨b_1, 0, none⟩) 128 128), (vi 5)]) Try.call48 rfl rfl (c_Word (some ⟨b_1, 0, none⟩) 128 128 g hg 5 (by omega) _ (viewB (h_21.ok _ (.tail _ (.tail _ (.head _)))) Sg.h) (by omega)) rfl ?_
      rintro _ w_23 ⟨rfl, hc_22⟩
      have h_24 := h_21.same hc_22
      refine WL.nil ?_
      refine ⟨(SL.cons (h_24.ok _ (.tail _ (.head _))) (SL.cons (h_24.ok _ (.tail _ (.tail _ (.head _)))) (SL.nil _ _))), ?_⟩
      refine WT.q rfl (Wn.no rfl) rfl rfl (fun wq hS => R.buildS (pl := [(0, 32), (32, 1)]) (zs := [(32, (List.replicate 32 (0 : UInt8)).map vu8), (1, [(vu64 0)])]) (vs := [(0, (.agg ⟨((g.drop 8).take 32).map vu8⟩)), (1, (vu64 (wordB g 5)))]) (out := [(32, ((g.drop 8).take 32).map vu8), (1, [(vu64 (wordB g 5))])]) (cs := flat [(32, ((g.drop 8).take 32).map vu8), (1, [(vu64 (wordB g 5))])]) Try.underlying51 (zv Try.typeInfo51 rfl) rfl (SsOk.cons (SOk.u8 (List.length_replicate ..)) (SsOk.cons (SOk.v rfl) SsOk.nil)) (pl51 _ Try.underlying51) rfl (FillR.cons [] [(32, (List.replicate 32 (0 : UInt8)).map vu8)] [(32, ((g.drop 8).take 32).map vu8)] [(1, [(vu64 0)])] rfl rfl rfl rfl (SsOk.cons (SOk.u8 (by simp only [List.length_take, List.length_drop, hg]; first | decide | omega)) SsOk.nil) rfl rfl rfl (FillR.cons [(32, ((g.drop 8).take 32).map vu8)] [(1, [(vu64 0)])] [(1, [(vu64 (wordB g 5))])] [] rfl rfl rfl rfl (SsOk.cons (SOk.v rfl) SsOk.nil) rfl rfl rfl FillR.nil)) rfl) ?_
      refine WT.s ?_
      refine Op1.one rfl (Wn.no rfl) ?_
      refine WL.storeA (b := b_19) (off := 0) [] [(32, (List.replicate 32 (0 : UInt8)).map vu8), (1, [(vu64 0)])] [(32, ((g.drop 8).take 32).map vu8), (1, [(vu64 (wordB g 5))])] [] (ys := flat [(32, ((g.drop 8).take 32).map vu8), (1, [(vu64 (wordB g 5))])]) h_24 rfl rfl Try.sizeOf51 At.h (by decide) rfl rfl rfl rfl rfl rfl (SsOk.cons (SOk.u8 (by simp only [List.length_take, List.length_drop, hg]; first | decide | omega)) (SsOk.cons (SOk.v rfl) SsOk.nil)) (fun w_26 h_27 => ?_)
      refine WL.nil ?_
      refine ⟨(SL.cons (h_27.ok _ (.tail _ (.head _))) (SL.cons (h_27.ok _ (.tail _ (.tail _ (.head _)))) (SL.nil _ _))), ?_⟩
      refine WT.nil ?_
      refine thn_n ?_
      exact ⟨b_19, (Ag.upd rfl (Ag.upd rfl (Ag.upd rfl (Ag.upd rfl (Ag.upd rfl (Ag.upd rfl (Ag.upd rfl (Ag.refl _ _)))))))), ⟨rfl, rfl, rfl, rfl, rfl, rfl, rfl, trivial⟩, h_27⟩
  · rintro b_31 J_28 w_29 h_30
    refine thn_n ?_
    refine WP.seq ?_
    refine WP.seq ?_
    refine WP.drawT (SL w.heap.size [.blk b_31 .nw 51 [(32, ((g.drop 8).take 32).map vu8), (1, [(vu64 (wordB g 5))])], .blk b_4 .nw 51 [(32, (List.replicate 32 (0 : UInt8)).map vu8), (1, [(vu64 0)])], .blk b_1 .nw 53 [(128, g.map vu8)]]) (.q 0 (.s 1 (.q 2 (.q 3 (.q 4 (.q 6 (.s 5 (.q 7 (.q 8 .nil))))))))) (by kernel_rfl) (by kernel_rfl) rfl (by kernel_rfl) (fun w_32 hc_34 => (SL.cons ((h_30.same hc_34).ok _ (.head _)) (SL.cons ((h_30.same hc_34).ok _ (.tail _ (.head _))) (SL.cons ((h_30.same hc_34).ok _ (.tail _ (.tail _ (.head _)))) (SL.nil _ _))))) (fun w_32 hc_34 => ?_)
    have h_33 := h_30.same hc_34
    refine WT.q rfl (Wn.no rfl) rfl rfl (fun wq hS => R.loadA (b := b_31) (off := 0) [] [(32, ((g.drop 8).take 32).map vu8), (1, [(vu64 (wordB g 5))])] [] (cs := flat [(32, ((g.drop 8).take 32).map vu8), (1, [(vu64 (wordB g 5))])]) rfl Try.isAgg51 Try.sizeOf51 (hS _ (.head _)) rfl rfl rfl rfl) ?_
    refine WT.s ?_
    refine Op1.one rfl (Wn.no rfl) ?_
    refine WL.call (al := [(.agg ⟨flat [(32, ((g.drop 8).take 32).map vu8), (1, [(vu64 (wordB g 5))])]⟩)]) Try.call19 rfl rfl (c_MayRealm ((g.drop 8).take 32) (by simp only [List.length_take, List.length_drop, hg]; first | decide | omega) (wordB g 5) _ ) rfl ?_
    rintro _ w_36 ⟨rfl, hc_35⟩
    have h_37 := h_33.same hc_35
    refine WL.nil ?_
    refine ⟨(SL.cons (h_37.ok _ (.head _)) (SL.cons (h_37.ok _ (.tail _ (.head _))) (SL.cons (h_37.ok _ (.tail _ (.tail _ (.head _)))) (SL.nil _ _)))), ?_⟩
    refine WT.q rfl (Wn.no rfl) rfl rfl (fun wq hS => R.not (b := mayRealm (wordB g 5)) rfl) ?_
    refine WT.q rfl (Wn.no rfl) rfl rfl (fun wq hS => R.move (v := (.bool (!(mayRealm (wordB g 5))))) rfl) ?_
    rcases Bool.eq_false_or_eq_true (!(mayRealm (wordB g 5))) with c_38 | c_38
    · refine WT.skipQ rfl rfl rfl (boolNe (v := .bool true) (congrArg Value.bool c_38) (by decide)) rfl rfl ?_
      refine WT.skipQ rfl rfl rfl (boolNe (v := .bool true) (congrArg Value.bool c_38) (by decide)) rfl rfl ?_
      refine WT.s ?_
      refine Op1.skip rfl rfl rfl (boolNe (v := .bool true) (congrArg Value.bool c_38) (by decide)) rfl rfl ?_
      refine WT.skipQ rfl rfl rfl (boolNe (v := .bool true) (congrArg Value.bool c_38) (by decide)) rfl rfl ?_
      refine WT.q rfl (Wn.no rfl) rfl rfl (fun wq hS => R.pickT (v := (.bool true)) (congrArg Value.bool c_38) rfl) ?_
      refine WT.nil ?_
      refine thn_n ?_
      refine WP.condT rfl ?_
      refine WP.seq ?_
      refine WP.reg ?_
      refine WL.q (Wn.no rfl) rfl rfl (R.buildS (pl := [(0, 32), (32, 1)]) (zs := [(32, (List.replicate 32 (0 : UInt8)).map vu8), (1, [(vu64 0)])]) (vs := []) (out := [(32, (List.replicate 32 (0 : UInt8)).map vu8), (1, [(vu64 0)])]) (cs := flat [(32, (List.replicate 32 (0 : UInt8)).map vu8), (1, [(vu64 0)])]) Try.underlying51 (zv Try.typeInfo51 rfl) rfl (SsOk.cons (SOk.u8 (List.length_replicate ..)) (SsOk.cons (SOk.v rfl) SsOk.nil)) (pl51 _ Try.underlying51) rfl FillR.nil rfl) ?_
      refine WL.storeA (b := b_4) (off := 0) [] [(32, (List.replicate 32 (0 : UInt8)).map vu8), (1, [(vu64 0)])] [(32, (List.replicate 32 (0 : UInt8)).map vu8), (1, [(vu64 0)])] [] (ys := flat [(32, (List.replicate 32 (0 : UInt8)).map vu8), (1, [(vu64 0)])]) h_37 rfl rfl Try.sizeOf51 (At.t At.h) (by decide) rfl rfl rfl rfl rfl rfl (SsOk.cons (SOk.u8 (List.length_replicate ..)) (SsOk.cons (SOk.v rfl) SsOk.nil)) (fun w_40 h_41 => ?_)
      refine WL.q (Wn.no rfl) rfl rfl (R.assign (v := (vi 4)) rfl) ?_
      refine WL.nil ?_
      refine thn_n ?_
      refine WP.ret ?_
      refine thn_r ?_
      refine ret_of Try.results32 (RV.cell rfl (h_41.loadA (cs := flat [(32, (List.replicate 32 (0 : UInt8)).map vu8), (1, [(vu64 0)])]) Try.isAgg51 Try.sizeOf51 (.tail _ (.head _)) rfl rfl) (RV.tmp (v := (vi 4)) rfl RV.nil)) ?_
      exact ⟨rfl, h_41.chgS⟩
    · refine WT.q rfl (Wn.yes rfl rfl (congrArg Value.bool c_38)) rfl rfl (fun wq hS => R.loadA (b := b_31) (off := 0) [] [(32, ((g.drop 8).take 32).map vu8), (1, [(vu64 (wordB g 5))])] [] (cs := flat [(32, ((g.drop 8).take 32).map vu8), (1, [(vu64 (wordB g 5))])]) rfl Try.isAgg51 Try.sizeOf51 (hS _ (.head _)) rfl rfl rfl rfl) ?_
      refine WT.q rfl (Wn.yes rfl rfl (congrArg Value.bool c_38)) rfl rfl (fun wq hS => R.loadA (b := b_1) (off := 0) [] [(128, g.map vu8)] [] (cs := g.map vu8) rfl Try.isAgg53 Try.sizeOf53 (hS _ (.tail _ (.tail _ (.head _)))) rfl rfl rfl rfl) ?_
      refine WT.s ?_
      refine Op1.one rfl (Wn.yes rfl rfl (congrArg Value.bool c_38)) ?_
      refine WL.call (al := [(.agg ⟨flat [(32, ((g.drop 8).take 32).map vu8), (1, [(vu64 (wordB g 5))])]⟩)]) Try.call43 rfl rfl (c_realm ((g.drop 8).take 32) (by simp only [List.length_take, List.length_drop, hg]; first | decide | omega) (wordB g 5) _ ) rfl ?_
      rintro _ w_43 ⟨rfl, hc_42⟩
      have h_44 := h_37.same hc_42
      refine WL.nil ?_
      refine ⟨(SL.cons (h_44.ok _ (.head _)) (SL.cons (h_44.ok _ (.tail _ (.head _))) (SL.cons (h_44.ok _ (.tail _ (.tail _ (.head _)))) (SL.nil _ _)))), ?_⟩
      refine WT.q rfl (Wn.yes rfl rfl (congrArg Value.bool c_38)) rfl rfl (fun wq hS => R.neA (xs := (realmB ((g.drop 8).take 32) (wordB g 5)).map vu8) (ys := g.map vu8) (r := !decide (realmB ((g.drop 8).take 32) (wordB g 5) = g)) rfl rfl Try.eqGuardType53 kt53 (by decide) ag53 (Typ.u8s Try.underlying53 ce53 Try.underlying5 ce5 (realmB_len (by simp only [List.length_take, List.length_drop, hg]; first | decide | omega))) (Typ.u8s Try.underlying53 ce53 Try.underlying5 ce5 hg) (map_inj_u8.trans (decN _))) ?_
      refine WT.q rfl (Wn.no rfl) rfl rfl (fun wq hS => R.pickF (v := (.bool (!decide (realmB ((g.drop 8).take 32) (wordB g 5) = g)))) (congrArg Value.bool c_38) rfl) ?_
      refine WT.nil ?_
      refine thn_n ?_
      refine WP.cond (b := !decide (realmB ((g.drop 8).take 32) (wordB g 5) = g)) rfl (fun c_45 => ?_) (fun c_45 => ?_)
      · refine WP.seq ?_
        refine WP.reg ?_
        refine WL.q (Wn.no rfl) rfl rfl (R.buildS (pl := [(0, 32), (32, 1)]) (zs := [(32, (List.replicate 32 (0 : UInt8)).map vu8), (1, [(vu64 0)])]) (vs := []) (out := [(32, (List.replicate 32 (0 : UInt8)).map vu8), (1, [(vu64 0)])]) (cs := flat [(32, (List.replicate 32 (0 : UInt8)).map vu8), (1, [(vu64 0)])]) Try.underlying51 (zv Try.typeInfo51 rfl) rfl (SsOk.cons (SOk.u8 (List.length_replicate ..)) (SsOk.cons (SOk.v rfl) SsOk.nil)) (pl51 _ Try.underlying51) rfl FillR.nil rfl) ?_
        refine WL.storeA (b := b_4) (off := 0) [] [(32, (List.replicate 32 (0 : UInt8)).map vu8), (1, [(vu64 0)])] [(32, (List.replicate 32 (0 : UInt8)).map vu8), (1, [(vu64 0)])] [] (ys := flat [(32, (List.replicate 32 (0 : UInt8)).map vu8), (1, [(vu64 0)])]) h_44 rfl rfl Try.sizeOf51 (At.t At.h) (by decide) rfl rfl rfl rfl rfl rfl (SsOk.cons (SOk.u8 (List.length_replicate ..)) (SsOk.cons (SOk.v rfl) SsOk.nil)) (fun w_47 h_48 => ?_)
        refine WL.q (Wn.no rfl) rfl rfl (R.assign (v := (vi 4)) rfl) ?_
        refine WL.nil ?_
        refine thn_n ?_
        refine WP.ret ?_
        refine thn_r ?_
        refine ret_of Try.results32 (RV.cell rfl (h_48.loadA (cs := flat [(32, (List.replicate 32 (0 : UInt8)).map vu8), (1, [(vu64 0)])]) Try.isAgg51 Try.sizeOf51 (.tail _ (.head _)) rfl rfl) (RV.tmp (v := (vi 4)) rfl RV.nil)) ?_
        exact ⟨rfl, h_48.chgS⟩
      · refine WP.skip ?_
        refine thn_n ?_
        refine WP.seq ?_
        refine WP.reg ?_
        refine WL.q (Wn.no rfl) rfl rfl (R.loadA (b := b_31) (off := 0) [] [(32, ((g.drop 8).take 32).map vu8), (1, [(vu64 (wordB g 5))])] [] (cs := flat [(32, ((g.drop 8).take 32).map vu8), (1, [(vu64 (wordB g 5))])]) rfl Try.isAgg51 Try.sizeOf51 (h_44.ok _ (.head _)) rfl rfl rfl rfl) ?_
        refine WL.storeA (b := b_4) (off := 0) [] [(32, (List.replicate 32 (0 : UInt8)).map vu8), (1, [(vu64 0)])] [(32, ((g.drop 8).take 32).map vu8), (1, [(vu64 (wordB g 5))])] [] (ys := flat [(32, ((g.drop 8).take 32).map vu8), (1, [(vu64 (wordB g 5))])]) h_44 rfl rfl Try.sizeOf51 (At.t At.h) (by decide) rfl rfl rfl rfl rfl rfl (SsOk.cons (SOk.u8 (by simp only [List.length_take, List.length_drop, hg]; first | decide | omega)) (SsOk.cons (SOk.v rfl) SsOk.nil)) (fun w_49 h_50 => ?_)
        refine WL.q (Wn.no rfl) rfl rfl (R.assign (v := (vi 0)) rfl) ?_
        refine WL.nil ?_
        refine thn_n ?_
        refine WP.ret ?_
        refine ret_of Try.results32 (RV.cell rfl (h_50.loadA (cs := flat [(32, ((g.drop 8).take 32).map vu8), (1, [(vu64 (wordB g 5))])]) Try.isAgg51 Try.sizeOf51 (.tail _ (.head _)) rfl rfl) (RV.tmp (v := (vi 0)) rfl RV.nil)) ?_
        exfalso
        simp_all [okRealm, rlV]

theorem c_Rec_t (g : List UInt8) (hg : g.length = 128) (h : okRec g = true) (w : World) :
    Cs Try.prog 28 [(.agg ⟨g.map vu8⟩)].toArray w (fun v w1 => v = (.tuple [(.agg ⟨flat [(1, [(vu64 (wordB g 1))]), (8, (rcR g).map vu64), (1, [(.bool (decide (g.getD 80 0 = 1)))])]⟩), (vi 0)].toArray) ∧ Chg w w1 []) := by
  refine Cs.of (n := 34) (args := [(.agg ⟨g.map vu8⟩)]) Try.func28 rfl rfl rfl ?_
  have h_0 := HP.init w
  refine WP.seq ?_
  refine WP.reg ?_
  refine WL.box (v := (.agg ⟨g.map vu8⟩)) (segs := [(128, g.map vu8)]) h_0 rfl rfl (SsOk.cons (SOk.u8 hg) SsOk.nil) rfl (fun b_1 w_2 h_3 => ?_)
  refine WL.alloc (segs := [(1, [(vu64 0)]), (8, (List.replicate 8 (0 : UInt64)).map vu64), (1, [(.bool false)])]) h_3 (zv Try.typeInfo45 rfl) rfl (SsOk.cons (SOk.v rfl) (SsOk.cons (SOk.u64 (List.length_replicate ..)) (SsOk.cons (SOk.v rfl) SsOk.nil))) rfl (fun b_4 w_5 h_6 => ?_)
  refine WL.q (Wn.no rfl) rfl rfl (R.assign (v := (vi 0)) rfl) ?_
  refine WL.nil ?_
  refine thn_n ?_
  refine WP.seq ?_
  refine WP.cutG (G := Nat) [4, 6, 7, 8, 9, 10, 11] (fun bY1Y6Y0Y0 => [(6, (.slice (some ⟨b_1, 0, none⟩) 128 128)), (8, (.pointer (some ⟨b_1, 80, none⟩))), (9, (vu8 (g.getD 80 0))), (10, (.bool (decide ((g.getD 80 0 : UInt8) ≠ 0)))), (7, (vu64 (wordB g 1))), (11, (.agg ⟨flat [(1, [(vu64 (wordB g 1))]), (8, (List.replicate 8 (0 : UInt64)).map vu64), (1, [(.bool (decide ((g.getD 80 0 : UInt8) ≠ 0)))])]⟩)), (4, (.pointer (some ⟨bY1Y6Y0Y0, 0, none⟩)))]) (fun bY1Y6Y0Y0 w1 => HP w w1 [.blk bY1Y6Y0Y0 .nw 45 [(1, [(vu64 (wordB g 1))]), (8, (List.replicate 8 (0 : UInt64)).map vu64), (1, [(.bool (decide ((g.getD 80 0 : UInt8) ≠ 0)))])], .blk b_4 .nw 45 [(1, [(vu64 0)]), (8, (List.replicate 8 (0 : UInt64)).map vu64), (1, [(.bool false)])], .blk b_1 .nw 53 [(128, g.map vu8)]]) ?_ ?_
  · refine WP.drawT (SL w.heap.size [.blk b_4 .nw 45 [(1, [(vu64 0)]), (8, (List.replicate 8 (0 : UInt64)).map vu64), (1, [(.bool false)])], .blk b_1 .nw 53 [(128, g.map vu8)]]) (.q 0 (.q 2 (.q 3 (.q 4 (.s2 1 6 (.q 5 (.s 6 (.s 7 .nil))) (.s 1 (.q 5 (.s 7 .nil)))))))) (by kernel_rfl) (by kernel_rfl) rfl (by kernel_rfl) (fun w_7 hc_9 => (SL.cons ((h_6.same hc_9).ok _ (.head _)) (SL.cons ((h_6.same hc_9).ok _ (.tail _ (.head _))) (SL.nil _ _)))) (fun w_7 hc_9 => ?_)
    have h_8 := h_6.same hc_9
    refine WT.q rfl (Wn.no rfl) rfl rfl (fun wq hS => R.sliceA (b := b_1) (off := 0) (off' := 0) (l := 0) (h := 128) rfl EvB.dflt EvB.dflt (by decide) (by decide) Try.underlying53 Try.sizeOf5 rfl) ?_
    refine WT.q rfl (Wn.no rfl) rfl rfl (fun wq hS => R.indexA (b := b_1) (off := 0) (off' := 80) (i := 80) rfl rfl rfl (by decide) Try.underlying53 Try.sizeOf5 rfl) ?_
    refine WT.q rfl (Wn.no rfl) rfl rfl (fun wq hS => R.loadE (b := b_1) (off := 80) (i := 80) (v := (vu8 (g.getD 80 0))) rfl Try.isAgg5 (hS _ (.tail _ (.head _))) Sg.h rfl (get_u8 (lt_len (K := 128) hg (by decide)))) ?_
    refine WT.q rfl (Wn.no rfl) rfl rfl (fun wq hS => R.bin (v := (.bool (decide ((g.getD 80 0 : UInt8) ≠ 0)))) rfl rfl (b8_neq (g.getD 80 0) 0 (r := decide ((g.getD 80 0 : UInt8) ≠ 0)) rfl)) ?_
    refine WT.s2 ?_ ?_
    · refine Op1.one rfl (Wn.no rfl) ?_
      refine WL.call (al := [(.slice (some ⟨b_1, 0, none⟩) 128 128), (vi 1)]) Try.call48 rfl rfl (c_Word (some ⟨b_1, 0, none⟩) 128 128 g hg 1 (by omega) _ (viewB (h_8.ok _ (.tail _ (.head _))) Sg.h) (by omega)) rfl ?_
      rintro _ w_11 ⟨rfl, hc_10⟩
      have h_12 := h_8.same hc_10
      refine WL.nil ?_
      refine ⟨(SL.cons (h_12.ok _ (.head _)) (SL.cons (h_12.ok _ (.tail _ (.head _))) (SL.nil _ _))), ?_⟩
      refine WT.q rfl (Wn.no rfl) rfl rfl (fun wq hS => R.buildS (pl := [(0, 1), (1, 8), (9, 1)]) (zs := [(1, [(vu64 0)]), (8, (List.replicate 8 (0 : UInt64)).map vu64), (1, [(.bool false)])]) (vs := [(0, (vu64 (wordB g 1))), (2, (.bool (decide ((g.getD 80 0 : UInt8) ≠ 0))))]) (out := [(1, [(vu64 (wordB g 1))]), (8, (List.replicate 8 (0 : UInt64)).map vu64), (1, [(.bool (decide ((g.getD 80 0 : UInt8) ≠ 0)))])]) (cs := flat [(1, [(vu64 (wordB g 1))]), (8, (List.replicate 8 (0 : UInt64)).map vu64), (1, [(.bool (decide ((g.getD 80 0 : UInt8) ≠ 0)))])]) Try.underlying45 (zv Try.typeInfo45 rfl) rfl (SsOk.cons (SOk.v rfl) (SsOk.cons (SOk.u64 (List.length_replicate ..)) (SsOk.cons (SOk.v rfl) SsOk.nil))) (pl45 _ Try.underlying45) rfl (FillR.cons [] [(1, [(vu64 0)])] [(1, [(vu64 (wordB g 1))])] [(8, (List.replicate 8 (0 : UInt64)).map vu64), (1, [(.bool false)])] rfl rfl rfl rfl (SsOk.cons (SOk.v rfl) SsOk.nil) rfl rfl rfl (FillR.cons [(1, [(vu64 (wordB g 1))]), (8, (List.replicate 8 (0 : UInt64)).map vu64)] [(1, [(.bool false)])] [(1, [(.bool (decide ((g.getD 80 0 : UInt8) ≠ 0)))])] [] rfl rfl rfl rfl (SsOk.cons (SOk.v rfl) SsOk.nil) rfl rfl rfl FillR.nil)) rfl) ?_
      refine WT.s ?_
      refine Op1.one rfl (Wn.no rfl) ?_
      refine WL.alloc (segs := [(1, [(vu64 0)]), (8, (List.replicate 8 (0 : UInt64)).map vu64), (1, [(.bool false)])]) h_12 (zv Try.typeInfo45 rfl) rfl (SsOk.cons (SOk.v rfl) (SsOk.cons (SOk.u64 (List.length_replicate ..)) (SsOk.cons (SOk.v rfl) SsOk.nil))) rfl (fun b_14 w_15 h_16 => ?_)
      refine WL.nil ?_
      refine ⟨(SL.cons (h_16.ok _ (.tail _ (.head _))) (SL.cons (h_16.ok _ (.tail _ (.tail _ (.head _)))) (SL.nil _ _))), ?_⟩
      refine WT.s ?_
      refine Op1.one rfl (Wn.no rfl) ?_
      refine WL.storeA (b := b_14) (off := 0) [] [(1, [(vu64 0)]), (8, (List.replicate 8 (0 : UInt64)).map vu64), (1, [(.bool false)])] [(1, [(vu64 (wordB g 1))]), (8, (List.replicate 8 (0 : UInt64)).map vu64), (1, [(.bool (decide ((g.getD 80 0 : UInt8) ≠ 0)))])] [] (ys := flat [(1, [(vu64 (wordB g 1))]), (8, (List.replicate 8 (0 : UInt64)).map vu64), (1, [(.bool (decide ((g.getD 80 0 : UInt8) ≠ 0)))])]) h_16 rfl rfl Try.sizeOf45 At.h (by decide) rfl rfl rfl rfl rfl rfl (SsOk.cons (SOk.v rfl) (SsOk.cons (SOk.u64 (List.length_replicate ..)) (SsOk.cons (SOk.v rfl) SsOk.nil))) (fun w_17 h_18 => ?_)
      refine WL.nil ?_
      refine ⟨(SL.cons (h_18.ok _ (.tail _ (.head _))) (SL.cons (h_18.ok _ (.tail _ (.tail _ (.head _)))) (SL.nil _ _))), ?_⟩
      refine WT.nil ?_
      refine thn_n ?_
      exact ⟨b_14, (Ag.upd rfl (Ag.upd rfl (Ag.upd rfl (Ag.upd rfl (Ag.upd rfl (Ag.upd rfl (Ag.upd rfl (Ag.refl _ _)))))))), ⟨rfl, rfl, rfl, rfl, rfl, rfl, rfl, trivial⟩, h_18⟩
    · refine Op1.one rfl (Wn.no rfl) ?_
      refine WL.alloc (segs := [(1, [(vu64 0)]), (8, (List.replicate 8 (0 : UInt64)).map vu64), (1, [(.bool false)])]) h_8 (zv Try.typeInfo45 rfl) rfl (SsOk.cons (SOk.v rfl) (SsOk.cons (SOk.u64 (List.length_replicate ..)) (SsOk.cons (SOk.v rfl) SsOk.nil))) rfl (fun b_19 w_20 h_21 => ?_)
      refine WL.nil ?_
      refine ⟨(SL.cons (h_21.ok _ (.tail _ (.head _))) (SL.cons (h_21.ok _ (.tail _ (.tail _ (.head _)))) (SL.nil _ _))), ?_⟩
      refine WT.s ?_
      refine Op1.one rfl (Wn.no rfl) ?_
      refine WL.call (al := [(.slice (some ⟨b_1, 0, none⟩) 128 128), (vi 1)]) Try.call48 rfl rfl (c_Word (some ⟨b_1, 0, none⟩) 128 128 g hg 1 (by omega) _ (viewB (h_21.ok _ (.tail _ (.tail _ (.head _)))) Sg.h) (by omega)) rfl ?_
      rintro _ w_23 ⟨rfl, hc_22⟩
      have h_24 := h_21.same hc_22
      refine WL.nil ?_
      refine ⟨(SL.cons (h_24.ok _ (.tail _ (.head _))) (SL.cons (h_24.ok _ (.tail _ (.tail _ (.head _)))) (SL.nil _ _))), ?_⟩
      refine WT.q rfl (Wn.no rfl) rfl rfl (fun wq hS => R.buildS (pl := [(0, 1), (1, 8), (9, 1)]) (zs := [(1, [(vu64 0)]), (8, (List.replicate 8 (0 : UInt64)).map vu64), (1, [(.bool false)])]) (vs := [(0, (vu64 (wordB g 1))), (2, (.bool (decide ((g.getD 80 0 : UInt8) ≠ 0))))]) (out := [(1, [(vu64 (wordB g 1))]), (8, (List.replicate 8 (0 : UInt64)).map vu64), (1, [(.bool (decide ((g.getD 80 0 : UInt8) ≠ 0)))])]) (cs := flat [(1, [(vu64 (wordB g 1))]), (8, (List.replicate 8 (0 : UInt64)).map vu64), (1, [(.bool (decide ((g.getD 80 0 : UInt8) ≠ 0)))])]) Try.underlying45 (zv Try.typeInfo45 rfl) rfl (SsOk.cons (SOk.v rfl) (SsOk.cons (SOk.u64 (List.length_replicate ..)) (SsOk.cons (SOk.v rfl) SsOk.nil))) (pl45 _ Try.underlying45) rfl (FillR.cons [] [(1, [(vu64 0)])] [(1, [(vu64 (wordB g 1))])] [(8, (List.replicate 8 (0 : UInt64)).map vu64), (1, [(.bool false)])] rfl rfl rfl rfl (SsOk.cons (SOk.v rfl) SsOk.nil) rfl rfl rfl (FillR.cons [(1, [(vu64 (wordB g 1))]), (8, (List.replicate 8 (0 : UInt64)).map vu64)] [(1, [(.bool false)])] [(1, [(.bool (decide ((g.getD 80 0 : UInt8) ≠ 0)))])] [] rfl rfl rfl rfl (SsOk.cons (SOk.v rfl) SsOk.nil) rfl rfl rfl FillR.nil)) rfl) ?_
      refine WT.s ?_
      refine Op1.one rfl (Wn.no rfl) ?_
      refine WL.storeA (b := b_19) (off := 0) [] [(1, [(vu64 0)]), (8, (List.replicate 8 (0 : UInt64)).map vu64), (1, [(.bool false)])] [(1, [(vu64 (wordB g 1))]), (8, (List.replicate 8 (0 : UInt64)).map vu64), (1, [(.bool (decide ((g.getD 80 0 : UInt8) ≠ 0)))])] [] (ys := flat [(1, [(vu64 (wordB g 1))]), (8, (List.replicate 8 (0 : UInt64)).map vu64), (1, [(.bool (decide ((g.getD 80 0 : UInt8) ≠ 0)))])]) h_24 rfl rfl Try.sizeOf45 At.h (by decide) rfl rfl rfl rfl rfl rfl (SsOk.cons (SOk.v rfl) (SsOk.cons (SOk.u64 (List.length_replicate ..)) (SsOk.cons (SOk.v rfl) SsOk.nil))) (fun w_26 h_27 => ?_)
      refine WL.nil ?_
      refine ⟨(SL.cons (h_27.ok _ (.tail _ (.head _))) (SL.cons (h_27.ok _ (.tail _ (.tail _ (.head _)))) (SL.nil _ _))), ?_⟩
      refine WT.nil ?_
      refine thn_n ?_
      exact ⟨b_19, (Ag.upd rfl (Ag.upd rfl (Ag.upd rfl (Ag.upd rfl (Ag.upd rfl (Ag.upd rfl (Ag.upd rfl (Ag.refl _ _)))))))), ⟨rfl, rfl, rfl, rfl, rfl, rfl, rfl, trivial⟩, h_27⟩
  · rintro b_31 J_28 w_29 h_30
    refine thn_n ?_
    refine WP.seq ?_
    refine WP.seq ?_
    refine WP.reg ?_
    refine WL.q (Wn.no rfl) rfl rfl (R.move (v := (vi 0)) rfl) ?_
    refine WL.nil ?_
    refine thn_n ?_
    refine WP.block ?_
    refine WP.loopU (WI.round ?_)
    refine WP.seq ?_
    refine WP.reg ?_
    refine WL.q (Wn.no rfl) rfl rfl (R.bin (v := (.bool true)) rfl rfl (bi_lss (r := true) (by decide))) ?_
    refine WL.nil ?_
    refine thn_n ?_
    refine WP.seq ?_
    refine WP.condT rfl ?_
    refine WP.skip ?_
    refine thn_n ?_
    refine WP.seq ?_
    refine WP.block ?_
    refine WP.seq ?_
    refine WP.reg ?_
    refine WL.q (Wn.no rfl) rfl rfl (R.move (v := (vi 0)) rfl) ?_
    refine WL.q (Wn.no rfl) rfl rfl (R.assign (v := (vi 0)) rfl) ?_
    refine WL.nil ?_
    refine thn_n ?_
    refine WP.reg ?_
    refine WL.q (Wn.no rfl) rfl rfl (R.move (v := (vi 0)) rfl) ?_
    refine WL.q (Wn.no rfl) rfl rfl (R.sliceA (b := b_1) (off := 0) (off' := 0) (l := 0) (h := 128) rfl EvB.dflt EvB.dflt (by decide) (by decide) Try.underlying53 Try.sizeOf5 rfl) ?_
    refine WL.q (Wn.no rfl) rfl rfl (R.move (v := (vi 0)) rfl) ?_
    refine WL.q (Wn.no rfl) rfl rfl (R.bin (v := (vi 2)) rfl rfl (bi_add (c := 2) (by omega) (by omega))) ?_
    refine WL.call (al := [(.slice (some ⟨b_1, 0, none⟩) 128 128), (vi 2)]) Try.call48 rfl rfl (c_Word (some ⟨b_1, 0, none⟩) 128 128 g hg 2 (by omega) _ (viewB (h_30.ok _ (.tail _ (.tail _ (.head _)))) Sg.h) (by omega)) rfl ?_
    rintro _ w_33 ⟨rfl, hc_32⟩
    have h_34 := h_30.same hc_32
    refine WL.q (Wn.no rfl) rfl rfl (R.fieldAddr (b := b_31) (off := 0) (off' := 1) rfl Try.underlying45 rfl Try.sizeOf23 rfl rfl) ?_
    refine WL.q (Wn.no rfl) rfl rfl (R.indexA (b := b_31) (off := 1) (off' := 1) (i := 0) rfl rfl rfl (by decide) Try.underlying23 Try.sizeOf22 rfl) ?_
    refine WL.storeE (b := b_31) (off := 1) (i := 0) (v := (vu64 (wordB g 2))) (cs' := ([wordB g 2, 0, 0, 0, 0, 0, 0, 0] : List UInt64).map vu64) h_34 rfl rfl Try.sizeOf22 rfl At.h (by decide) (Sg.t rfl Sg.h) rfl (lt_len (K := 8) (len_map (List.length_replicate ..)) (by decide)) ((set_u64 _ _ _).trans rfl) (fun w_35 h_36 => ?_)
    refine WL.nil ?_
    refine inb_n ?_
    refine thn_n ?_
    refine WP.reg ?_
    refine WL.q (Wn.no rfl) rfl rfl (R.bin (v := (vi 1)) rfl rfl (bi_add (c := 1) (by omega) (by omega))) ?_
    refine WL.q (Wn.no rfl) rfl rfl (R.move (v := (vi 1)) rfl) ?_
    refine WL.nil ?_
    refine thn_n ?_
    refine WI.round ?_
    refine WP.seq ?_
    refine WP.reg ?_
    refine WL.q (Wn.no rfl) rfl rfl (R.bin (v := (.bool true)) rfl rfl (bi_lss (r := true) (by decide))) ?_
    refine WL.nil ?_
    refine thn_n ?_
    refine WP.seq ?_
    refine WP.condT rfl ?_
    refine WP.skip ?_
    refine thn_n ?_
    refine WP.seq ?_
    refine WP.block ?_
    refine WP.seq ?_
    refine WP.reg ?_
    refine WL.q (Wn.no rfl) rfl rfl (R.move (v := (vi 1)) rfl) ?_
    refine WL.q (Wn.no rfl) rfl rfl (R.assign (v := (vi 1)) rfl) ?_
    refine WL.nil ?_
    refine thn_n ?_
    refine WP.reg ?_
    refine WL.q (Wn.no rfl) rfl rfl (R.move (v := (vi 1)) rfl) ?_
    refine WL.q (Wn.no rfl) rfl rfl (R.sliceA (b := b_1) (off := 0) (off' := 0) (l := 0) (h := 128) rfl EvB.dflt EvB.dflt (by decide) (by decide) Try.underlying53 Try.sizeOf5 rfl) ?_
    refine WL.q (Wn.no rfl) rfl rfl (R.move (v := (vi 1)) rfl) ?_
    refine WL.q (Wn.no rfl) rfl rfl (R.bin (v := (vi 3)) rfl rfl (bi_add (c := 3) (by omega) (by omega))) ?_
    refine WL.call (al := [(.slice (some ⟨b_1, 0, none⟩) 128 128), (vi 3)]) Try.call48 rfl rfl (c_Word (some ⟨b_1, 0, none⟩) 128 128 g hg 3 (by omega) _ (viewB (h_36.ok _ (.tail _ (.tail _ (.head _)))) Sg.h) (by omega)) rfl ?_
    rintro _ w_38 ⟨rfl, hc_37⟩
    have h_39 := h_36.same hc_37
    refine WL.q (Wn.no rfl) rfl rfl (R.fieldAddr (b := b_31) (off := 0) (off' := 1) rfl Try.underlying45 rfl Try.sizeOf23 rfl rfl) ?_
    refine WL.q (Wn.no rfl) rfl rfl (R.indexA (b := b_31) (off := 1) (off' := 2) (i := 1) rfl rfl rfl (by decide) Try.underlying23 Try.sizeOf22 rfl) ?_
    refine WL.storeE (b := b_31) (off := 2) (i := 1) (v := (vu64 (wordB g 3))) (cs' := ([wordB g 2, wordB g 3, 0, 0, 0, 0, 0, 0] : List UInt64).map vu64) h_39 rfl rfl Try.sizeOf22 rfl At.h (by decide) (Sg.t rfl Sg.h) rfl (lt_len (K := 8) (len_map (rfl : List.length ([wordB g 2, 0, 0, 0, 0, 0, 0, 0] : List UInt64) = 8)) (by decide)) ((set_u64 _ _ _).trans rfl) (fun w_40 h_41 => ?_)
    refine WL.nil ?_
    refine inb_n ?_
    refine thn_n ?_
    refine WP.reg ?_
    refine WL.q (Wn.no rfl) rfl rfl (R.bin (v := (vi 2)) rfl rfl (bi_add (c := 2) (by omega) (by omega))) ?_
    refine WL.q (Wn.no rfl) rfl rfl (R.move (v := (vi 2)) rfl) ?_
    refine WL.nil ?_
    refine thn_n ?_
    refine WI.round ?_
    refine WP.seq ?_
    refine WP.reg ?_
    refine WL.q (Wn.no rfl) rfl rfl (R.bin (v := (.bool true)) rfl rfl (bi_lss (r := true) (by decide))) ?_
    refine WL.nil ?_
    refine thn_n ?_
    refine WP.seq ?_
    refine WP.condT rfl ?_
    refine WP.skip ?_
    refine thn_n ?_
    refine WP.seq ?_
    refine WP.block ?_
    refine WP.seq ?_
    refine WP.reg ?_
    refine WL.q (Wn.no rfl) rfl rfl (R.move (v := (vi 2)) rfl) ?_
    refine WL.q (Wn.no rfl) rfl rfl (R.assign (v := (vi 2)) rfl) ?_
    refine WL.nil ?_
    refine thn_n ?_
    refine WP.reg ?_
    refine WL.q (Wn.no rfl) rfl rfl (R.move (v := (vi 2)) rfl) ?_
    refine WL.q (Wn.no rfl) rfl rfl (R.sliceA (b := b_1) (off := 0) (off' := 0) (l := 0) (h := 128) rfl EvB.dflt EvB.dflt (by decide) (by decide) Try.underlying53 Try.sizeOf5 rfl) ?_
    refine WL.q (Wn.no rfl) rfl rfl (R.move (v := (vi 2)) rfl) ?_
    refine WL.q (Wn.no rfl) rfl rfl (R.bin (v := (vi 4)) rfl rfl (bi_add (c := 4) (by omega) (by omega))) ?_
    refine WL.call (al := [(.slice (some ⟨b_1, 0, none⟩) 128 128), (vi 4)]) Try.call48 rfl rfl (c_Word (some ⟨b_1, 0, none⟩) 128 128 g hg 4 (by omega) _ (viewB (h_41.ok _ (.tail _ (.tail _ (.head _)))) Sg.h) (by omega)) rfl ?_
    rintro _ w_43 ⟨rfl, hc_42⟩
    have h_44 := h_41.same hc_42
    refine WL.q (Wn.no rfl) rfl rfl (R.fieldAddr (b := b_31) (off := 0) (off' := 1) rfl Try.underlying45 rfl Try.sizeOf23 rfl rfl) ?_
    refine WL.q (Wn.no rfl) rfl rfl (R.indexA (b := b_31) (off := 1) (off' := 3) (i := 2) rfl rfl rfl (by decide) Try.underlying23 Try.sizeOf22 rfl) ?_
    refine WL.storeE (b := b_31) (off := 3) (i := 2) (v := (vu64 (wordB g 4))) (cs' := ([wordB g 2, wordB g 3, wordB g 4, 0, 0, 0, 0, 0] : List UInt64).map vu64) h_44 rfl rfl Try.sizeOf22 rfl At.h (by decide) (Sg.t rfl Sg.h) rfl (lt_len (K := 8) (len_map (rfl : List.length ([wordB g 2, wordB g 3, 0, 0, 0, 0, 0, 0] : List UInt64) = 8)) (by decide)) ((set_u64 _ _ _).trans rfl) (fun w_45 h_46 => ?_)
    refine WL.nil ?_
    refine inb_n ?_
    refine thn_n ?_
    refine WP.reg ?_
    refine WL.q (Wn.no rfl) rfl rfl (R.bin (v := (vi 3)) rfl rfl (bi_add (c := 3) (by omega) (by omega))) ?_
    refine WL.q (Wn.no rfl) rfl rfl (R.move (v := (vi 3)) rfl) ?_
    refine WL.nil ?_
    refine thn_n ?_
    refine WI.round ?_
    refine WP.seq ?_
    refine WP.reg ?_
    refine WL.q (Wn.no rfl) rfl rfl (R.bin (v := (.bool true)) rfl rfl (bi_lss (r := true) (by decide))) ?_
    refine WL.nil ?_
    refine thn_n ?_
    refine WP.seq ?_
    refine WP.condT rfl ?_
    refine WP.skip ?_
    refine thn_n ?_
    refine WP.seq ?_
    refine WP.block ?_
    refine WP.seq ?_
    refine WP.reg ?_
    refine WL.q (Wn.no rfl) rfl rfl (R.move (v := (vi 3)) rfl) ?_
    refine WL.q (Wn.no rfl) rfl rfl (R.assign (v := (vi 3)) rfl) ?_
    refine WL.nil ?_
    refine thn_n ?_
    refine WP.reg ?_
    refine WL.q (Wn.no rfl) rfl rfl (R.move (v := (vi 3)) rfl) ?_
    refine WL.q (Wn.no rfl) rfl rfl (R.sliceA (b := b_1) (off := 0) (off' := 0) (l := 0) (h := 128) rfl EvB.dflt EvB.dflt (by decide) (by decide) Try.underlying53 Try.sizeOf5 rfl) ?_
    refine WL.q (Wn.no rfl) rfl rfl (R.move (v := (vi 3)) rfl) ?_
    refine WL.q (Wn.no rfl) rfl rfl (R.bin (v := (vi 5)) rfl rfl (bi_add (c := 5) (by omega) (by omega))) ?_
    refine WL.call (al := [(.slice (some ⟨b_1, 0, none⟩) 128 128), (vi 5)]) Try.call48 rfl rfl (c_Word (some ⟨b_1, 0, none⟩) 128 128 g hg 5 (by omega) _ (viewB (h_46.ok _ (.tail _ (.tail _ (.head _)))) Sg.h) (by omega)) rfl ?_
    rintro _ w_48 ⟨rfl, hc_47⟩
    have h_49 := h_46.same hc_47
    refine WL.q (Wn.no rfl) rfl rfl (R.fieldAddr (b := b_31) (off := 0) (off' := 1) rfl Try.underlying45 rfl Try.sizeOf23 rfl rfl) ?_
    refine WL.q (Wn.no rfl) rfl rfl (R.indexA (b := b_31) (off := 1) (off' := 4) (i := 3) rfl rfl rfl (by decide) Try.underlying23 Try.sizeOf22 rfl) ?_
    refine WL.storeE (b := b_31) (off := 4) (i := 3) (v := (vu64 (wordB g 5))) (cs' := ([wordB g 2, wordB g 3, wordB g 4, wordB g 5, 0, 0, 0, 0] : List UInt64).map vu64) h_49 rfl rfl Try.sizeOf22 rfl At.h (by decide) (Sg.t rfl Sg.h) rfl (lt_len (K := 8) (len_map (rfl : List.length ([wordB g 2, wordB g 3, wordB g 4, 0, 0, 0, 0, 0] : List UInt64) = 8)) (by decide)) ((set_u64 _ _ _).trans rfl) (fun w_50 h_51 => ?_)
    refine WL.nil ?_
    refine inb_n ?_
    refine thn_n ?_
    refine WP.reg ?_
    refine WL.q (Wn.no rfl) rfl rfl (R.bin (v := (vi 4)) rfl rfl (bi_add (c := 4) (by omega) (by omega))) ?_
    refine WL.q (Wn.no rfl) rfl rfl (R.move (v := (vi 4)) rfl) ?_
    refine WL.nil ?_
    refine thn_n ?_
    refine WI.round ?_
    refine WP.seq ?_
    refine WP.reg ?_
    refine WL.q (Wn.no rfl) rfl rfl (R.bin (v := (.bool true)) rfl rfl (bi_lss (r := true) (by decide))) ?_
    refine WL.nil ?_
    refine thn_n ?_
    refine WP.seq ?_
    refine WP.condT rfl ?_
    refine WP.skip ?_
    refine thn_n ?_
    refine WP.seq ?_
    refine WP.block ?_
    refine WP.seq ?_
    refine WP.reg ?_
    refine WL.q (Wn.no rfl) rfl rfl (R.move (v := (vi 4)) rfl) ?_
    refine WL.q (Wn.no rfl) rfl rfl (R.assign (v := (vi 4)) rfl) ?_
    refine WL.nil ?_
    refine thn_n ?_
    refine WP.reg ?_
    refine WL.q (Wn.no rfl) rfl rfl (R.move (v := (vi 4)) rfl) ?_
    refine WL.q (Wn.no rfl) rfl rfl (R.sliceA (b := b_1) (off := 0) (off' := 0) (l := 0) (h := 128) rfl EvB.dflt EvB.dflt (by decide) (by decide) Try.underlying53 Try.sizeOf5 rfl) ?_
    refine WL.q (Wn.no rfl) rfl rfl (R.move (v := (vi 4)) rfl) ?_
    refine WL.q (Wn.no rfl) rfl rfl (R.bin (v := (vi 6)) rfl rfl (bi_add (c := 6) (by omega) (by omega))) ?_
    refine WL.call (al := [(.slice (some ⟨b_1, 0, none⟩) 128 128), (vi 6)]) Try.call48 rfl rfl (c_Word (some ⟨b_1, 0, none⟩) 128 128 g hg 6 (by omega) _ (viewB (h_51.ok _ (.tail _ (.tail _ (.head _)))) Sg.h) (by omega)) rfl ?_
    rintro _ w_53 ⟨rfl, hc_52⟩
    have h_54 := h_51.same hc_52
    refine WL.q (Wn.no rfl) rfl rfl (R.fieldAddr (b := b_31) (off := 0) (off' := 1) rfl Try.underlying45 rfl Try.sizeOf23 rfl rfl) ?_
    refine WL.q (Wn.no rfl) rfl rfl (R.indexA (b := b_31) (off := 1) (off' := 5) (i := 4) rfl rfl rfl (by decide) Try.underlying23 Try.sizeOf22 rfl) ?_
    refine WL.storeE (b := b_31) (off := 5) (i := 4) (v := (vu64 (wordB g 6))) (cs' := ([wordB g 2, wordB g 3, wordB g 4, wordB g 5, wordB g 6, 0, 0, 0] : List UInt64).map vu64) h_54 rfl rfl Try.sizeOf22 rfl At.h (by decide) (Sg.t rfl Sg.h) rfl (lt_len (K := 8) (len_map (rfl : List.length ([wordB g 2, wordB g 3, wordB g 4, wordB g 5, 0, 0, 0, 0] : List UInt64) = 8)) (by decide)) ((set_u64 _ _ _).trans rfl) (fun w_55 h_56 => ?_)
    refine WL.nil ?_
    refine inb_n ?_
    refine thn_n ?_
    refine WP.reg ?_
    refine WL.q (Wn.no rfl) rfl rfl (R.bin (v := (vi 5)) rfl rfl (bi_add (c := 5) (by omega) (by omega))) ?_
    refine WL.q (Wn.no rfl) rfl rfl (R.move (v := (vi 5)) rfl) ?_
    refine WL.nil ?_
    refine thn_n ?_
    refine WI.round ?_
    refine WP.seq ?_
    refine WP.reg ?_
    refine WL.q (Wn.no rfl) rfl rfl (R.bin (v := (.bool true)) rfl rfl (bi_lss (r := true) (by decide))) ?_
    refine WL.nil ?_
    refine thn_n ?_
    refine WP.seq ?_
    refine WP.condT rfl ?_
    refine WP.skip ?_
    refine thn_n ?_
    refine WP.seq ?_
    refine WP.block ?_
    refine WP.seq ?_
    refine WP.reg ?_
    refine WL.q (Wn.no rfl) rfl rfl (R.move (v := (vi 5)) rfl) ?_
    refine WL.q (Wn.no rfl) rfl rfl (R.assign (v := (vi 5)) rfl) ?_
    refine WL.nil ?_
    refine thn_n ?_
    refine WP.reg ?_
    refine WL.q (Wn.no rfl) rfl rfl (R.move (v := (vi 5)) rfl) ?_
    refine WL.q (Wn.no rfl) rfl rfl (R.sliceA (b := b_1) (off := 0) (off' := 0) (l := 0) (h := 128) rfl EvB.dflt EvB.dflt (by decide) (by decide) Try.underlying53 Try.sizeOf5 rfl) ?_
    refine WL.q (Wn.no rfl) rfl rfl (R.move (v := (vi 5)) rfl) ?_
    refine WL.q (Wn.no rfl) rfl rfl (R.bin (v := (vi 7)) rfl rfl (bi_add (c := 7) (by omega) (by omega))) ?_
    refine WL.call (al := [(.slice (some ⟨b_1, 0, none⟩) 128 128), (vi 7)]) Try.call48 rfl rfl (c_Word (some ⟨b_1, 0, none⟩) 128 128 g hg 7 (by omega) _ (viewB (h_56.ok _ (.tail _ (.tail _ (.head _)))) Sg.h) (by omega)) rfl ?_
    rintro _ w_58 ⟨rfl, hc_57⟩
    have h_59 := h_56.same hc_57
    refine WL.q (Wn.no rfl) rfl rfl (R.fieldAddr (b := b_31) (off := 0) (off' := 1) rfl Try.underlying45 rfl Try.sizeOf23 rfl rfl) ?_
    refine WL.q (Wn.no rfl) rfl rfl (R.indexA (b := b_31) (off := 1) (off' := 6) (i := 5) rfl rfl rfl (by decide) Try.underlying23 Try.sizeOf22 rfl) ?_
    refine WL.storeE (b := b_31) (off := 6) (i := 5) (v := (vu64 (wordB g 7))) (cs' := ([wordB g 2, wordB g 3, wordB g 4, wordB g 5, wordB g 6, wordB g 7, 0, 0] : List UInt64).map vu64) h_59 rfl rfl Try.sizeOf22 rfl At.h (by decide) (Sg.t rfl Sg.h) rfl (lt_len (K := 8) (len_map (rfl : List.length ([wordB g 2, wordB g 3, wordB g 4, wordB g 5, wordB g 6, 0, 0, 0] : List UInt64) = 8)) (by decide)) ((set_u64 _ _ _).trans rfl) (fun w_60 h_61 => ?_)
    refine WL.nil ?_
    refine inb_n ?_
    refine thn_n ?_
    refine WP.reg ?_
    refine WL.q (Wn.no rfl) rfl rfl (R.bin (v := (vi 6)) rfl rfl (bi_add (c := 6) (by omega) (by omega))) ?_
    refine WL.q (Wn.no rfl) rfl rfl (R.move (v := (vi 6)) rfl) ?_
    refine WL.nil ?_
    refine thn_n ?_
    refine WI.round ?_
    refine WP.seq ?_
    refine WP.reg ?_
    refine WL.q (Wn.no rfl) rfl rfl (R.bin (v := (.bool true)) rfl rfl (bi_lss (r := true) (by decide))) ?_
    refine WL.nil ?_
    refine thn_n ?_
    refine WP.seq ?_
    refine WP.condT rfl ?_
    refine WP.skip ?_
    refine thn_n ?_
    refine WP.seq ?_
    refine WP.block ?_
    refine WP.seq ?_
    refine WP.reg ?_
    refine WL.q (Wn.no rfl) rfl rfl (R.move (v := (vi 6)) rfl) ?_
    refine WL.q (Wn.no rfl) rfl rfl (R.assign (v := (vi 6)) rfl) ?_
    refine WL.nil ?_
    refine thn_n ?_
    refine WP.reg ?_
    refine WL.q (Wn.no rfl) rfl rfl (R.move (v := (vi 6)) rfl) ?_
    refine WL.q (Wn.no rfl) rfl rfl (R.sliceA (b := b_1) (off := 0) (off' := 0) (l := 0) (h := 128) rfl EvB.dflt EvB.dflt (by decide) (by decide) Try.underlying53 Try.sizeOf5 rfl) ?_
    refine WL.q (Wn.no rfl) rfl rfl (R.move (v := (vi 6)) rfl) ?_
    refine WL.q (Wn.no rfl) rfl rfl (R.bin (v := (vi 8)) rfl rfl (bi_add (c := 8) (by omega) (by omega))) ?_
    refine WL.call (al := [(.slice (some ⟨b_1, 0, none⟩) 128 128), (vi 8)]) Try.call48 rfl rfl (c_Word (some ⟨b_1, 0, none⟩) 128 128 g hg 8 (by omega) _ (viewB (h_61.ok _ (.tail _ (.tail _ (.head _)))) Sg.h) (by omega)) rfl ?_
    rintro _ w_63 ⟨rfl, hc_62⟩
    have h_64 := h_61.same hc_62
    refine WL.q (Wn.no rfl) rfl rfl (R.fieldAddr (b := b_31) (off := 0) (off' := 1) rfl Try.underlying45 rfl Try.sizeOf23 rfl rfl) ?_
    refine WL.q (Wn.no rfl) rfl rfl (R.indexA (b := b_31) (off := 1) (off' := 7) (i := 6) rfl rfl rfl (by decide) Try.underlying23 Try.sizeOf22 rfl) ?_
    refine WL.storeE (b := b_31) (off := 7) (i := 6) (v := (vu64 (wordB g 8))) (cs' := ([wordB g 2, wordB g 3, wordB g 4, wordB g 5, wordB g 6, wordB g 7, wordB g 8, 0] : List UInt64).map vu64) h_64 rfl rfl Try.sizeOf22 rfl At.h (by decide) (Sg.t rfl Sg.h) rfl (lt_len (K := 8) (len_map (rfl : List.length ([wordB g 2, wordB g 3, wordB g 4, wordB g 5, wordB g 6, wordB g 7, 0, 0] : List UInt64) = 8)) (by decide)) ((set_u64 _ _ _).trans rfl) (fun w_65 h_66 => ?_)
    refine WL.nil ?_
    refine inb_n ?_
    refine thn_n ?_
    refine WP.reg ?_
    refine WL.q (Wn.no rfl) rfl rfl (R.bin (v := (vi 7)) rfl rfl (bi_add (c := 7) (by omega) (by omega))) ?_
    refine WL.q (Wn.no rfl) rfl rfl (R.move (v := (vi 7)) rfl) ?_
    refine WL.nil ?_
    refine thn_n ?_
    refine WI.round ?_
    refine WP.seq ?_
    refine WP.reg ?_
    refine WL.q (Wn.no rfl) rfl rfl (R.bin (v := (.bool true)) rfl rfl (bi_lss (r := true) (by decide))) ?_
    refine WL.nil ?_
    refine thn_n ?_
    refine WP.seq ?_
    refine WP.condT rfl ?_
    refine WP.skip ?_
    refine thn_n ?_
    refine WP.seq ?_
    refine WP.block ?_
    refine WP.seq ?_
    refine WP.reg ?_
    refine WL.q (Wn.no rfl) rfl rfl (R.move (v := (vi 7)) rfl) ?_
    refine WL.q (Wn.no rfl) rfl rfl (R.assign (v := (vi 7)) rfl) ?_
    refine WL.nil ?_
    refine thn_n ?_
    refine WP.reg ?_
    refine WL.q (Wn.no rfl) rfl rfl (R.move (v := (vi 7)) rfl) ?_
    refine WL.q (Wn.no rfl) rfl rfl (R.sliceA (b := b_1) (off := 0) (off' := 0) (l := 0) (h := 128) rfl EvB.dflt EvB.dflt (by decide) (by decide) Try.underlying53 Try.sizeOf5 rfl) ?_
    refine WL.q (Wn.no rfl) rfl rfl (R.move (v := (vi 7)) rfl) ?_
    refine WL.q (Wn.no rfl) rfl rfl (R.bin (v := (vi 9)) rfl rfl (bi_add (c := 9) (by omega) (by omega))) ?_
    refine WL.call (al := [(.slice (some ⟨b_1, 0, none⟩) 128 128), (vi 9)]) Try.call48 rfl rfl (c_Word (some ⟨b_1, 0, none⟩) 128 128 g hg 9 (by omega) _ (viewB (h_66.ok _ (.tail _ (.tail _ (.head _)))) Sg.h) (by omega)) rfl ?_
    rintro _ w_68 ⟨rfl, hc_67⟩
    have h_69 := h_66.same hc_67
    refine WL.q (Wn.no rfl) rfl rfl (R.fieldAddr (b := b_31) (off := 0) (off' := 1) rfl Try.underlying45 rfl Try.sizeOf23 rfl rfl) ?_
    refine WL.q (Wn.no rfl) rfl rfl (R.indexA (b := b_31) (off := 1) (off' := 8) (i := 7) rfl rfl rfl (by decide) Try.underlying23 Try.sizeOf22 rfl) ?_
    refine WL.storeE (b := b_31) (off := 8) (i := 7) (v := (vu64 (wordB g 9))) (cs' := ([wordB g 2, wordB g 3, wordB g 4, wordB g 5, wordB g 6, wordB g 7, wordB g 8, wordB g 9] : List UInt64).map vu64) h_69 rfl rfl Try.sizeOf22 rfl At.h (by decide) (Sg.t rfl Sg.h) rfl (lt_len (K := 8) (len_map (rfl : List.length ([wordB g 2, wordB g 3, wordB g 4, wordB g 5, wordB g 6, wordB g 7, wordB g 8, 0] : List UInt64) = 8)) (by decide)) ((set_u64 _ _ _).trans rfl) (fun w_70 h_71 => ?_)
    refine WL.nil ?_
    refine inb_n ?_
    refine thn_n ?_
    refine WP.reg ?_
    refine WL.q (Wn.no rfl) rfl rfl (R.bin (v := (vi 8)) rfl rfl (bi_add (c := 8) (by omega) (by omega))) ?_
    refine WL.q (Wn.no rfl) rfl rfl (R.move (v := (vi 8)) rfl) ?_
    refine WL.nil ?_
    refine thn_n ?_
    refine WI.round ?_
    refine WP.seq ?_
    refine WP.reg ?_
    refine WL.q (Wn.no rfl) rfl rfl (R.bin (v := (.bool false)) rfl rfl (bi_lss (r := false) (by decide))) ?_
    refine WL.nil ?_
    refine thn_n ?_
    refine WP.seq ?_
    refine WP.condF rfl ?_
    refine WP.exit ?_
    refine thn_x ?_
    refine thn_x ?_
    refine inb_hit ?_
    refine thn_n ?_
    refine WP.seq ?_
    refine WP.seq ?_
    refine WP.drawT (SL w.heap.size [.blk b_31 .nw 45 [(1, [(vu64 (wordB g 1))]), (8, ([wordB g 2, wordB g 3, wordB g 4, wordB g 5, wordB g 6, wordB g 7, wordB g 8, wordB g 9] : List UInt64).map vu64), (1, [(.bool (decide ((g.getD 80 0 : UInt8) ≠ 0)))])], .blk b_4 .nw 45 [(1, [(vu64 0)]), (8, (List.replicate 8 (0 : UInt64)).map vu64), (1, [(.bool false)])], .blk b_1 .nw 53 [(128, g.map vu8)]]) (.q 0 (.s 1 (.q 2 (.q 3 (.q 4 (.q 6 (.s 5 (.q 7 (.q 8 .nil))))))))) (by kernel_rfl) (by kernel_rfl) rfl (by kernel_rfl) (fun w_72 hc_74 => (SL.cons ((h_71.same hc_74).ok _ (.head _)) (SL.cons ((h_71.same hc_74).ok _ (.tail _ (.head _))) (SL.cons ((h_71.same hc_74).ok _ (.tail _ (.tail _ (.head _)))) (SL.nil _ _))))) (fun w_72 hc_74 => ?_)
    have h_73 := h_71.same hc_74
    refine WT.q rfl (Wn.no rfl) rfl rfl (fun wq hS => R.loadA (b := b_31) (off := 0) [] [(1, [(vu64 (wordB g 1))]), (8, ([wordB g 2, wordB g 3, wordB g 4, wordB g 5, wordB g 6, wordB g 7, wordB g 8, wordB g 9] : List UInt64).map vu64), (1, [(.bool (decide ((g.getD 80 0 : UInt8) ≠ 0)))])] [] (cs := flat [(1, [(vu64 (wordB g 1))]), (8, ([wordB g 2, wordB g 3, wordB g 4, wordB g 5, wordB g 6, wordB g 7, wordB g 8, wordB g 9] : List UInt64).map vu64), (1, [(.bool (decide ((g.getD 80 0 : UInt8) ≠ 0)))])]) rfl Try.isAgg45 Try.sizeOf45 (hS _ (.head _)) rfl rfl rfl rfl) ?_
    refine WT.s ?_
    refine Op1.one rfl (Wn.no rfl) ?_
    refine WL.call (al := [(.agg ⟨flat [(1, [(vu64 (wordB g 1))]), (8, ([wordB g 2, wordB g 3, wordB g 4, wordB g 5, wordB g 6, wordB g 7, wordB g 8, wordB g 9] : List UInt64).map vu64), (1, [(.bool (decide ((g.getD 80 0 : UInt8) ≠ 0)))])]⟩)]) Try.call25 rfl rfl (c_MayRec (wordB g 1) ([wordB g 2, wordB g 3, wordB g 4, wordB g 5, wordB g 6, wordB g 7, wordB g 8, wordB g 9] : List UInt64) (rfl : List.length ([wordB g 2, wordB g 3, wordB g 4, wordB g 5, wordB g 6, wordB g 7, wordB g 8, wordB g 9] : List UInt64) = 8) (decide ((g.getD 80 0 : UInt8) ≠ 0)) _ ) rfl ?_
    rintro _ w_76 ⟨rfl, hc_75⟩
    have h_77 := h_73.same hc_75
    refine WL.nil ?_
    refine ⟨(SL.cons (h_77.ok _ (.head _)) (SL.cons (h_77.ok _ (.tail _ (.head _))) (SL.cons (h_77.ok _ (.tail _ (.tail _ (.head _)))) (SL.nil _ _)))), ?_⟩
    refine WT.q rfl (Wn.no rfl) rfl rfl (fun wq hS => R.not (b := mayRec (wordB g 1)) rfl) ?_
    refine WT.q rfl (Wn.no rfl) rfl rfl (fun wq hS => R.move (v := (.bool (!(mayRec (wordB g 1))))) rfl) ?_
    rcases Bool.eq_false_or_eq_true (!(mayRec (wordB g 1))) with c_78 | c_78
    · refine WT.skipQ rfl rfl rfl (boolNe (v := .bool true) (congrArg Value.bool c_78) (by decide)) rfl rfl ?_
      refine WT.skipQ rfl rfl rfl (boolNe (v := .bool true) (congrArg Value.bool c_78) (by decide)) rfl rfl ?_
      refine WT.s ?_
      refine Op1.skip rfl rfl rfl (boolNe (v := .bool true) (congrArg Value.bool c_78) (by decide)) rfl rfl ?_
      refine WT.skipQ rfl rfl rfl (boolNe (v := .bool true) (congrArg Value.bool c_78) (by decide)) rfl rfl ?_
      refine WT.q rfl (Wn.no rfl) rfl rfl (fun wq hS => R.pickT (v := (.bool true)) (congrArg Value.bool c_78) rfl) ?_
      refine WT.nil ?_
      refine thn_n ?_
      refine WP.condT rfl ?_
      refine WP.seq ?_
      refine WP.reg ?_
      refine WL.q (Wn.no rfl) rfl rfl (R.buildS (pl := [(0, 1), (1, 8), (9, 1)]) (zs := [(1, [(vu64 0)]), (8, (List.replicate 8 (0 : UInt64)).map vu64), (1, [(.bool false)])]) (vs := []) (out := [(1, [(vu64 0)]), (8, (List.replicate 8 (0 : UInt64)).map vu64), (1, [(.bool false)])]) (cs := flat [(1, [(vu64 0)]), (8, (List.replicate 8 (0 : UInt64)).map vu64), (1, [(.bool false)])]) Try.underlying45 (zv Try.typeInfo45 rfl) rfl (SsOk.cons (SOk.v rfl) (SsOk.cons (SOk.u64 (List.length_replicate ..)) (SsOk.cons (SOk.v rfl) SsOk.nil))) (pl45 _ Try.underlying45) rfl FillR.nil rfl) ?_
      refine WL.storeA (b := b_4) (off := 0) [] [(1, [(vu64 0)]), (8, (List.replicate 8 (0 : UInt64)).map vu64), (1, [(.bool false)])] [(1, [(vu64 0)]), (8, (List.replicate 8 (0 : UInt64)).map vu64), (1, [(.bool false)])] [] (ys := flat [(1, [(vu64 0)]), (8, (List.replicate 8 (0 : UInt64)).map vu64), (1, [(.bool false)])]) h_77 rfl rfl Try.sizeOf45 (At.t At.h) (by decide) rfl rfl rfl rfl rfl rfl (SsOk.cons (SOk.v rfl) (SsOk.cons (SOk.u64 (List.length_replicate ..)) (SsOk.cons (SOk.v rfl) SsOk.nil))) (fun w_80 h_81 => ?_)
      refine WL.q (Wn.no rfl) rfl rfl (R.assign (v := (vi 4)) rfl) ?_
      refine WL.nil ?_
      refine thn_n ?_
      refine WP.ret ?_
      refine thn_r ?_
      refine ret_of Try.results28 (RV.cell rfl (h_81.loadA (cs := flat [(1, [(vu64 0)]), (8, (List.replicate 8 (0 : UInt64)).map vu64), (1, [(.bool false)])]) Try.isAgg45 Try.sizeOf45 (.tail _ (.head _)) rfl rfl) (RV.tmp (v := (vi 4)) rfl RV.nil)) ?_
      have h1 := okRec_eq h
      have h2 := okRec_eq2 h
      have h3 := mayRec_ok h
      simp only [rcR] at h1
      exfalso
      clear h
      simp_all
    · refine WT.q rfl (Wn.yes rfl rfl (congrArg Value.bool c_78)) rfl rfl (fun wq hS => R.loadA (b := b_31) (off := 0) [] [(1, [(vu64 (wordB g 1))]), (8, ([wordB g 2, wordB g 3, wordB g 4, wordB g 5, wordB g 6, wordB g 7, wordB g 8, wordB g 9] : List UInt64).map vu64), (1, [(.bool (decide ((g.getD 80 0 : UInt8) ≠ 0)))])] [] (cs := flat [(1, [(vu64 (wordB g 1))]), (8, ([wordB g 2, wordB g 3, wordB g 4, wordB g 5, wordB g 6, wordB g 7, wordB g 8, wordB g 9] : List UInt64).map vu64), (1, [(.bool (decide ((g.getD 80 0 : UInt8) ≠ 0)))])]) rfl Try.isAgg45 Try.sizeOf45 (hS _ (.head _)) rfl rfl rfl rfl) ?_
      refine WT.q rfl (Wn.yes rfl rfl (congrArg Value.bool c_78)) rfl rfl (fun wq hS => R.loadA (b := b_1) (off := 0) [] [(128, g.map vu8)] [] (cs := g.map vu8) rfl Try.isAgg53 Try.sizeOf53 (hS _ (.tail _ (.tail _ (.head _)))) rfl rfl rfl rfl) ?_
      refine WT.s ?_
      refine Op1.one rfl (Wn.yes rfl rfl (congrArg Value.bool c_78)) ?_
      refine WL.call (al := [(.agg ⟨flat [(1, [(vu64 (wordB g 1))]), (8, ([wordB g 2, wordB g 3, wordB g 4, wordB g 5, wordB g 6, wordB g 7, wordB g 8, wordB g 9] : List UInt64).map vu64), (1, [(.bool (decide ((g.getD 80 0 : UInt8) ≠ 0)))])]⟩)]) Try.call47 rfl rfl (c_rec (wordB g 1) ([wordB g 2, wordB g 3, wordB g 4, wordB g 5, wordB g 6, wordB g 7, wordB g 8, wordB g 9] : List UInt64) (rfl : List.length ([wordB g 2, wordB g 3, wordB g 4, wordB g 5, wordB g 6, wordB g 7, wordB g 8, wordB g 9] : List UInt64) = 8) (decide ((g.getD 80 0 : UInt8) ≠ 0)) _ ) rfl ?_
      rintro _ w_83 ⟨rfl, hc_82⟩
      have h_84 := h_77.same hc_82
      refine WL.nil ?_
      refine ⟨(SL.cons (h_84.ok _ (.head _)) (SL.cons (h_84.ok _ (.tail _ (.head _))) (SL.cons (h_84.ok _ (.tail _ (.tail _ (.head _)))) (SL.nil _ _)))), ?_⟩
      refine WT.q rfl (Wn.yes rfl rfl (congrArg Value.bool c_78)) rfl rfl (fun wq hS => R.neA (xs := (recB (wordB g 1) ([wordB g 2, wordB g 3, wordB g 4, wordB g 5, wordB g 6, wordB g 7, wordB g 8, wordB g 9] : List UInt64) (decide ((g.getD 80 0 : UInt8) ≠ 0))).map vu8) (ys := g.map vu8) (r := !decide (recB (wordB g 1) ([wordB g 2, wordB g 3, wordB g 4, wordB g 5, wordB g 6, wordB g 7, wordB g 8, wordB g 9] : List UInt64) (decide ((g.getD 80 0 : UInt8) ≠ 0)) = g)) rfl rfl Try.eqGuardType53 kt53 (by decide) ag53 (Typ.u8s Try.underlying53 ce53 Try.underlying5 ce5 (recB_len ..)) (Typ.u8s Try.underlying53 ce53 Try.underlying5 ce5 hg) (map_inj_u8.trans (decN _))) ?_
      refine WT.q rfl (Wn.no rfl) rfl rfl (fun wq hS => R.pickF (v := (.bool (!decide (recB (wordB g 1) ([wordB g 2, wordB g 3, wordB g 4, wordB g 5, wordB g 6, wordB g 7, wordB g 8, wordB g 9] : List UInt64) (decide ((g.getD 80 0 : UInt8) ≠ 0)) = g)))) (congrArg Value.bool c_78) rfl) ?_
      refine WT.nil ?_
      refine thn_n ?_
      refine WP.cond (b := !decide (recB (wordB g 1) ([wordB g 2, wordB g 3, wordB g 4, wordB g 5, wordB g 6, wordB g 7, wordB g 8, wordB g 9] : List UInt64) (decide ((g.getD 80 0 : UInt8) ≠ 0)) = g)) rfl (fun c_85 => ?_) (fun c_85 => ?_)
      · refine WP.seq ?_
        refine WP.reg ?_
        refine WL.q (Wn.no rfl) rfl rfl (R.buildS (pl := [(0, 1), (1, 8), (9, 1)]) (zs := [(1, [(vu64 0)]), (8, (List.replicate 8 (0 : UInt64)).map vu64), (1, [(.bool false)])]) (vs := []) (out := [(1, [(vu64 0)]), (8, (List.replicate 8 (0 : UInt64)).map vu64), (1, [(.bool false)])]) (cs := flat [(1, [(vu64 0)]), (8, (List.replicate 8 (0 : UInt64)).map vu64), (1, [(.bool false)])]) Try.underlying45 (zv Try.typeInfo45 rfl) rfl (SsOk.cons (SOk.v rfl) (SsOk.cons (SOk.u64 (List.length_replicate ..)) (SsOk.cons (SOk.v rfl) SsOk.nil))) (pl45 _ Try.underlying45) rfl FillR.nil rfl) ?_
        refine WL.storeA (b := b_4) (off := 0) [] [(1, [(vu64 0)]), (8, (List.replicate 8 (0 : UInt64)).map vu64), (1, [(.bool false)])] [(1, [(vu64 0)]), (8, (List.replicate 8 (0 : UInt64)).map vu64), (1, [(.bool false)])] [] (ys := flat [(1, [(vu64 0)]), (8, (List.replicate 8 (0 : UInt64)).map vu64), (1, [(.bool false)])]) h_84 rfl rfl Try.sizeOf45 (At.t At.h) (by decide) rfl rfl rfl rfl rfl rfl (SsOk.cons (SOk.v rfl) (SsOk.cons (SOk.u64 (List.length_replicate ..)) (SsOk.cons (SOk.v rfl) SsOk.nil))) (fun w_87 h_88 => ?_)
        refine WL.q (Wn.no rfl) rfl rfl (R.assign (v := (vi 4)) rfl) ?_
        refine WL.nil ?_
        refine thn_n ?_
        refine WP.ret ?_
        refine thn_r ?_
        refine ret_of Try.results28 (RV.cell rfl (h_88.loadA (cs := flat [(1, [(vu64 0)]), (8, (List.replicate 8 (0 : UInt64)).map vu64), (1, [(.bool false)])]) Try.isAgg45 Try.sizeOf45 (.tail _ (.head _)) rfl rfl) (RV.tmp (v := (vi 4)) rfl RV.nil)) ?_
        have h1 := okRec_eq h
        have h2 := okRec_eq2 h
        have h3 := mayRec_ok h
        simp only [rcR] at h1
        exfalso
        clear h
        simp_all
      · refine WP.skip ?_
        refine thn_n ?_
        refine WP.seq ?_
        refine WP.reg ?_
        refine WL.q (Wn.no rfl) rfl rfl (R.loadA (b := b_31) (off := 0) [] [(1, [(vu64 (wordB g 1))]), (8, ([wordB g 2, wordB g 3, wordB g 4, wordB g 5, wordB g 6, wordB g 7, wordB g 8, wordB g 9] : List UInt64).map vu64), (1, [(.bool (decide ((g.getD 80 0 : UInt8) ≠ 0)))])] [] (cs := flat [(1, [(vu64 (wordB g 1))]), (8, ([wordB g 2, wordB g 3, wordB g 4, wordB g 5, wordB g 6, wordB g 7, wordB g 8, wordB g 9] : List UInt64).map vu64), (1, [(.bool (decide ((g.getD 80 0 : UInt8) ≠ 0)))])]) rfl Try.isAgg45 Try.sizeOf45 (h_84.ok _ (.head _)) rfl rfl rfl rfl) ?_
        refine WL.storeA (b := b_4) (off := 0) [] [(1, [(vu64 0)]), (8, (List.replicate 8 (0 : UInt64)).map vu64), (1, [(.bool false)])] [(1, [(vu64 (wordB g 1))]), (8, ([wordB g 2, wordB g 3, wordB g 4, wordB g 5, wordB g 6, wordB g 7, wordB g 8, wordB g 9] : List UInt64).map vu64), (1, [(.bool (decide ((g.getD 80 0 : UInt8) ≠ 0)))])] [] (ys := flat [(1, [(vu64 (wordB g 1))]), (8, ([wordB g 2, wordB g 3, wordB g 4, wordB g 5, wordB g 6, wordB g 7, wordB g 8, wordB g 9] : List UInt64).map vu64), (1, [(.bool (decide ((g.getD 80 0 : UInt8) ≠ 0)))])]) h_84 rfl rfl Try.sizeOf45 (At.t At.h) (by decide) rfl rfl rfl rfl rfl rfl (SsOk.cons (SOk.v rfl) (SsOk.cons (SOk.u64 (rfl : List.length ([wordB g 2, wordB g 3, wordB g 4, wordB g 5, wordB g 6, wordB g 7, wordB g 8, wordB g 9] : List UInt64) = 8)) (SsOk.cons (SOk.v rfl) SsOk.nil))) (fun w_89 h_90 => ?_)
        refine WL.q (Wn.no rfl) rfl rfl (R.assign (v := (vi 0)) rfl) ?_
        refine WL.nil ?_
        refine thn_n ?_
        refine WP.ret ?_
        refine ret_of Try.results28 (RV.cell rfl (h_90.loadA (cs := flat [(1, [(vu64 (wordB g 1))]), (8, ([wordB g 2, wordB g 3, wordB g 4, wordB g 5, wordB g 6, wordB g 7, wordB g 8, wordB g 9] : List UInt64).map vu64), (1, [(.bool (decide ((g.getD 80 0 : UInt8) ≠ 0)))])]) Try.isAgg45 Try.sizeOf45 (.tail _ (.head _)) rfl rfl) (RV.tmp (v := (vi 0)) rfl RV.nil)) ?_
        exact ⟨by rw [okRec_eq2 h]; rfl, h_90.chgS⟩

theorem c_Rec_f (g : List UInt8) (hg : g.length = 128) (h : okRec g = false) (w : World) :
    Cs Try.prog 28 [(.agg ⟨g.map vu8⟩)].toArray w (fun v w1 => v = (.tuple [(.agg ⟨flat [(1, [(vu64 0)]), (8, (List.replicate 8 (0 : UInt64)).map vu64), (1, [(.bool false)])]⟩), (vi 4)].toArray) ∧ Chg w w1 []) := by
  refine Cs.of (n := 34) (args := [(.agg ⟨g.map vu8⟩)]) Try.func28 rfl rfl rfl ?_
  have h_0 := HP.init w
  refine WP.seq ?_
  refine WP.reg ?_
  refine WL.box (v := (.agg ⟨g.map vu8⟩)) (segs := [(128, g.map vu8)]) h_0 rfl rfl (SsOk.cons (SOk.u8 hg) SsOk.nil) rfl (fun b_1 w_2 h_3 => ?_)
  refine WL.alloc (segs := [(1, [(vu64 0)]), (8, (List.replicate 8 (0 : UInt64)).map vu64), (1, [(.bool false)])]) h_3 (zv Try.typeInfo45 rfl) rfl (SsOk.cons (SOk.v rfl) (SsOk.cons (SOk.u64 (List.length_replicate ..)) (SsOk.cons (SOk.v rfl) SsOk.nil))) rfl (fun b_4 w_5 h_6 => ?_)
  refine WL.q (Wn.no rfl) rfl rfl (R.assign (v := (vi 0)) rfl) ?_
  refine WL.nil ?_
  refine thn_n ?_
  refine WP.seq ?_
  refine WP.cutG (G := Nat) [4, 6, 7, 8, 9, 10, 11] (fun bY1Y6Y0Y0 => [(6, (.slice (some ⟨b_1, 0, none⟩) 128 128)), (8, (.pointer (some ⟨b_1, 80, none⟩))), (9, (vu8 (g.getD 80 0))), (10, (.bool (decide ((g.getD 80 0 : UInt8) ≠ 0)))), (7, (vu64 (wordB g 1))), (11, (.agg ⟨flat [(1, [(vu64 (wordB g 1))]), (8, (List.replicate 8 (0 : UInt64)).map vu64), (1, [(.bool (decide ((g.getD 80 0 : UInt8) ≠ 0)))])]⟩)), (4, (.pointer (some ⟨bY1Y6Y0Y0, 0, none⟩)))]) (fun bY1Y6Y0Y0 w1 => HP w w1 [.blk bY1Y6Y0Y0 .nw 45 [(1, [(vu64 (wordB g 1))]), (8, (List.replicate 8 (0 : UInt64)).map vu64), (1, [(.bool (decide ((g.getD 80 0 : UInt8) ≠ 0)))])], .blk b_4 .nw 45 [(1, [(vu64 0)]), (8, (List.replicate 8 (0 : UInt64)).map vu64), (1, [(.bool false)])], .blk b_1 .nw 53 [(128, g.map vu8)]]) ?_ ?_
  · refine WP.drawT (SL w.heap.size [.blk b_4 .nw 45 [(1, [(vu64 0)]), (8, (List.replicate 8 (0 : UInt64)).map vu64), (1, [(.bool false)])], .blk b_1 .nw 53 [(128, g.map vu8)]]) (.q 0 (.q 2 (.q 3 (.q 4 (.s2 1 6 (.q 5 (.s 6 (.s 7 .nil))) (.s 1 (.q 5 (.s 7 .nil)))))))) (by kernel_rfl) (by kernel_rfl) rfl (by kernel_rfl) (fun w_7 hc_9 => (SL.cons ((h_6.same hc_9).ok _ (.head _)) (SL.cons ((h_6.same hc_9).ok _ (.tail _ (.head _))) (SL.nil _ _)))) (fun w_7 hc_9 => ?_)
    have h_8 := h_6.same hc_9
    refine WT.q rfl (Wn.no rfl) rfl rfl (fun wq hS => R.sliceA (b := b_1) (off := 0) (off' := 0) (l := 0) (h := 128) rfl EvB.dflt EvB.dflt (by decide) (by decide) Try.underlying53 Try.sizeOf5 rfl) ?_
    refine WT.q rfl (Wn.no rfl) rfl rfl (fun wq hS => R.indexA (b := b_1) (off := 0) (off' := 80) (i := 80) rfl rfl rfl (by decide) Try.underlying53 Try.sizeOf5 rfl) ?_
    refine WT.q rfl (Wn.no rfl) rfl rfl (fun wq hS => R.loadE (b := b_1) (off := 80) (i := 80) (v := (vu8 (g.getD 80 0))) rfl Try.isAgg5 (hS _ (.tail _ (.head _))) Sg.h rfl (get_u8 (lt_len (K := 128) hg (by decide)))) ?_
    refine WT.q rfl (Wn.no rfl) rfl rfl (fun wq hS => R.bin (v := (.bool (decide ((g.getD 80 0 : UInt8) ≠ 0)))) rfl rfl (b8_neq (g.getD 80 0) 0 (r := decide ((g.getD 80 0 : UInt8) ≠ 0)) rfl)) ?_
    refine WT.s2 ?_ ?_
    · refine Op1.one rfl (Wn.no rfl) ?_
      refine WL.call (al := [(.slice (some ⟨b_1, 0, none⟩) 128 128), (vi 1)]) Try.call48 rfl rfl (c_Word (some ⟨b_1, 0, none⟩) 128 128 g hg 1 (by omega) _ (viewB (h_8.ok _ (.tail _ (.head _))) Sg.h) (by omega)) rfl ?_
      rintro _ w_11 ⟨rfl, hc_10⟩
      have h_12 := h_8.same hc_10
      refine WL.nil ?_
      refine ⟨(SL.cons (h_12.ok _ (.head _)) (SL.cons (h_12.ok _ (.tail _ (.head _))) (SL.nil _ _))), ?_⟩
      refine WT.q rfl (Wn.no rfl) rfl rfl (fun wq hS => R.buildS (pl := [(0, 1), (1, 8), (9, 1)]) (zs := [(1, [(vu64 0)]), (8, (List.replicate 8 (0 : UInt64)).map vu64), (1, [(.bool false)])]) (vs := [(0, (vu64 (wordB g 1))), (2, (.bool (decide ((g.getD 80 0 : UInt8) ≠ 0))))]) (out := [(1, [(vu64 (wordB g 1))]), (8, (List.replicate 8 (0 : UInt64)).map vu64), (1, [(.bool (decide ((g.getD 80 0 : UInt8) ≠ 0)))])]) (cs := flat [(1, [(vu64 (wordB g 1))]), (8, (List.replicate 8 (0 : UInt64)).map vu64), (1, [(.bool (decide ((g.getD 80 0 : UInt8) ≠ 0)))])]) Try.underlying45 (zv Try.typeInfo45 rfl) rfl (SsOk.cons (SOk.v rfl) (SsOk.cons (SOk.u64 (List.length_replicate ..)) (SsOk.cons (SOk.v rfl) SsOk.nil))) (pl45 _ Try.underlying45) rfl (FillR.cons [] [(1, [(vu64 0)])] [(1, [(vu64 (wordB g 1))])] [(8, (List.replicate 8 (0 : UInt64)).map vu64), (1, [(.bool false)])] rfl rfl rfl rfl (SsOk.cons (SOk.v rfl) SsOk.nil) rfl rfl rfl (FillR.cons [(1, [(vu64 (wordB g 1))]), (8, (List.replicate 8 (0 : UInt64)).map vu64)] [(1, [(.bool false)])] [(1, [(.bool (decide ((g.getD 80 0 : UInt8) ≠ 0)))])] [] rfl rfl rfl rfl (SsOk.cons (SOk.v rfl) SsOk.nil) rfl rfl rfl FillR.nil)) rfl) ?_
      refine WT.s ?_
      refine Op1.one rfl (Wn.no rfl) ?_
      refine WL.alloc (segs := [(1, [(vu64 0)]), (8, (List.replicate 8 (0 : UInt64)).map vu64), (1, [(.bool false)])]) h_12 (zv Try.typeInfo45 rfl) rfl (SsOk.cons (SOk.v rfl) (SsOk.cons (SOk.u64 (List.length_replicate ..)) (SsOk.cons (SOk.v rfl) SsOk.nil))) rfl (fun b_14 w_15 h_16 => ?_)
      refine WL.nil ?_
      refine ⟨(SL.cons (h_16.ok _ (.tail _ (.head _))) (SL.cons (h_16.ok _ (.tail _ (.tail _ (.head _)))) (SL.nil _ _))), ?_⟩
      refine WT.s ?_
      refine Op1.one rfl (Wn.no rfl) ?_
      refine WL.storeA (b := b_14) (off := 0) [] [(1, [(vu64 0)]), (8, (List.replicate 8 (0 : UInt64)).map vu64), (1, [(.bool false)])] [(1, [(vu64 (wordB g 1))]), (8, (List.replicate 8 (0 : UInt64)).map vu64), (1, [(.bool (decide ((g.getD 80 0 : UInt8) ≠ 0)))])] [] (ys := flat [(1, [(vu64 (wordB g 1))]), (8, (List.replicate 8 (0 : UInt64)).map vu64), (1, [(.bool (decide ((g.getD 80 0 : UInt8) ≠ 0)))])]) h_16 rfl rfl Try.sizeOf45 At.h (by decide) rfl rfl rfl rfl rfl rfl (SsOk.cons (SOk.v rfl) (SsOk.cons (SOk.u64 (List.length_replicate ..)) (SsOk.cons (SOk.v rfl) SsOk.nil))) (fun w_17 h_18 => ?_)
      refine WL.nil ?_
      refine ⟨(SL.cons (h_18.ok _ (.tail _ (.head _))) (SL.cons (h_18.ok _ (.tail _ (.tail _ (.head _)))) (SL.nil _ _))), ?_⟩
      refine WT.nil ?_
      refine thn_n ?_
      exact ⟨b_14, (Ag.upd rfl (Ag.upd rfl (Ag.upd rfl (Ag.upd rfl (Ag.upd rfl (Ag.upd rfl (Ag.upd rfl (Ag.refl _ _)))))))), ⟨rfl, rfl, rfl, rfl, rfl, rfl, rfl, trivial⟩, h_18⟩
    · refine Op1.one rfl (Wn.no rfl) ?_
      refine WL.alloc (segs := [(1, [(vu64 0)]), (8, (List.replicate 8 (0 : UInt64)).map vu64), (1, [(.bool false)])]) h_8 (zv Try.typeInfo45 rfl) rfl (SsOk.cons (SOk.v rfl) (SsOk.cons (SOk.u64 (List.length_replicate ..)) (SsOk.cons (SOk.v rfl) SsOk.nil))) rfl (fun b_19 w_20 h_21 => ?_)
      refine WL.nil ?_
      refine ⟨(SL.cons (h_21.ok _ (.tail _ (.head _))) (SL.cons (h_21.ok _ (.tail _ (.tail _ (.head _)))) (SL.nil _ _))), ?_⟩
      refine WT.s ?_
      refine Op1.one rfl (Wn.no rfl) ?_
      refine WL.call (al := [(.slice (some ⟨b_1, 0, none⟩) 128 128), (vi 1)]) Try.call48 rfl rfl (c_Word (some ⟨b_1, 0, none⟩) 128 128 g hg 1 (by omega) _ (viewB (h_21.ok _ (.tail _ (.tail _ (.head _)))) Sg.h) (by omega)) rfl ?_
      rintro _ w_23 ⟨rfl, hc_22⟩
      have h_24 := h_21.same hc_22
      refine WL.nil ?_
      refine ⟨(SL.cons (h_24.ok _ (.tail _ (.head _))) (SL.cons (h_24.ok _ (.tail _ (.tail _ (.head _)))) (SL.nil _ _))), ?_⟩
      refine WT.q rfl (Wn.no rfl) rfl rfl (fun wq hS => R.buildS (pl := [(0, 1), (1, 8), (9, 1)]) (zs := [(1, [(vu64 0)]), (8, (List.replicate 8 (0 : UInt64)).map vu64), (1, [(.bool false)])]) (vs := [(0, (vu64 (wordB g 1))), (2, (.bool (decide ((g.getD 80 0 : UInt8) ≠ 0))))]) (out := [(1, [(vu64 (wordB g 1))]), (8, (List.replicate 8 (0 : UInt64)).map vu64), (1, [(.bool (decide ((g.getD 80 0 : UInt8) ≠ 0)))])]) (cs := flat [(1, [(vu64 (wordB g 1))]), (8, (List.replicate 8 (0 : UInt64)).map vu64), (1, [(.bool (decide ((g.getD 80 0 : UInt8) ≠ 0)))])]) Try.underlying45 (zv Try.typeInfo45 rfl) rfl (SsOk.cons (SOk.v rfl) (SsOk.cons (SOk.u64 (List.length_replicate ..)) (SsOk.cons (SOk.v rfl) SsOk.nil))) (pl45 _ Try.underlying45) rfl (FillR.cons [] [(1, [(vu64 0)])] [(1, [(vu64 (wordB g 1))])] [(8, (List.replicate 8 (0 : UInt64)).map vu64), (1, [(.bool false)])] rfl rfl rfl rfl (SsOk.cons (SOk.v rfl) SsOk.nil) rfl rfl rfl (FillR.cons [(1, [(vu64 (wordB g 1))]), (8, (List.replicate 8 (0 : UInt64)).map vu64)] [(1, [(.bool false)])] [(1, [(.bool (decide ((g.getD 80 0 : UInt8) ≠ 0)))])] [] rfl rfl rfl rfl (SsOk.cons (SOk.v rfl) SsOk.nil) rfl rfl rfl FillR.nil)) rfl) ?_
      refine WT.s ?_
      refine Op1.one rfl (Wn.no rfl) ?_
      refine WL.storeA (b := b_19) (off := 0) [] [(1, [(vu64 0)]), (8, (List.replicate 8 (0 : UInt64)).map vu64), (1, [(.bool false)])] [(1, [(vu64 (wordB g 1))]), (8, (List.replicate 8 (0 : UInt64)).map vu64), (1, [(.bool (decide ((g.getD 80 0 : UInt8) ≠ 0)))])] [] (ys := flat [(1, [(vu64 (wordB g 1))]), (8, (List.replicate 8 (0 : UInt64)).map vu64), (1, [(.bool (decide ((g.getD 80 0 : UInt8) ≠ 0)))])]) h_24 rfl rfl Try.sizeOf45 At.h (by decide) rfl rfl rfl rfl rfl rfl (SsOk.cons (SOk.v rfl) (SsOk.cons (SOk.u64 (List.length_replicate ..)) (SsOk.cons (SOk.v rfl) SsOk.nil))) (fun w_26 h_27 => ?_)
      refine WL.nil ?_
      refine ⟨(SL.cons (h_27.ok _ (.tail _ (.head _))) (SL.cons (h_27.ok _ (.tail _ (.tail _ (.head _)))) (SL.nil _ _))), ?_⟩
      refine WT.nil ?_
      refine thn_n ?_
      exact ⟨b_19, (Ag.upd rfl (Ag.upd rfl (Ag.upd rfl (Ag.upd rfl (Ag.upd rfl (Ag.upd rfl (Ag.upd rfl (Ag.refl _ _)))))))), ⟨rfl, rfl, rfl, rfl, rfl, rfl, rfl, trivial⟩, h_27⟩
  · rintro b_31 J_28 w_29 h_30
    refine thn_n ?_
    refine WP.seq ?_
    refine WP.seq ?_
    refine WP.reg ?_
    refine WL.q (Wn.no rfl) rfl rfl (R.move (v := (vi 0)) rfl) ?_
    refine WL.nil ?_
    refine thn_n ?_
    refine WP.block ?_
    refine WP.loopU (WI.round ?_)
    refine WP.seq ?_
    refine WP.reg ?_
    refine WL.q (Wn.no rfl) rfl rfl (R.bin (v := (.bool true)) rfl rfl (bi_lss (r := true) (by decide))) ?_
    refine WL.nil ?_
    refine thn_n ?_
    refine WP.seq ?_
    refine WP.condT rfl ?_
    refine WP.skip ?_
    refine thn_n ?_
    refine WP.seq ?_
    refine WP.block ?_
    refine WP.seq ?_
    refine WP.reg ?_
    refine WL.q (Wn.no rfl) rfl rfl (R.move (v := (vi 0)) rfl) ?_
    refine WL.q (Wn.no rfl) rfl rfl (R.assign (v := (vi 0)) rfl) ?_
    refine WL.nil ?_
    refine thn_n ?_
    refine WP.reg ?_
    refine WL.q (Wn.no rfl) rfl rfl (R.move (v := (vi 0)) rfl) ?_
    refine WL.q (Wn.no rfl) rfl rfl (R.sliceA (b := b_1) (off := 0) (off' := 0) (l := 0) (h := 128) rfl EvB.dflt EvB.dflt (by decide) (by decide) Try.underlying53 Try.sizeOf5 rfl) ?_
    refine WL.q (Wn.no rfl) rfl rfl (R.move (v := (vi 0)) rfl) ?_
    refine WL.q (Wn.no rfl) rfl rfl (R.bin (v := (vi 2)) rfl rfl (bi_add (c := 2) (by omega) (by omega))) ?_
    refine WL.call (al := [(.slice (some ⟨b_1, 0, none⟩) 128 128), (vi 2)]) Try.call48 rfl rfl (c_Word (some ⟨b_1, 0, none⟩) 128 128 g hg 2 (by omega) _ (viewB (h_30.ok _ (.tail _ (.tail _ (.head _)))) Sg.h) (by omega)) rfl ?_
    rintro _ w_33 ⟨rfl, hc_32⟩
    have h_34 := h_30.same hc_32
    refine WL.q (Wn.no rfl) rfl rfl (R.fieldAddr (b := b_31) (off := 0) (off' := 1) rfl Try.underlying45 rfl Try.sizeOf23 rfl rfl) ?_
    refine WL.q (Wn.no rfl) rfl rfl (R.indexA (b := b_31) (off := 1) (off' := 1) (i := 0) rfl rfl rfl (by decide) Try.underlying23 Try.sizeOf22 rfl) ?_
    refine WL.storeE (b := b_31) (off := 1) (i := 0) (v := (vu64 (wordB g 2))) (cs' := ([wordB g 2, 0, 0, 0, 0, 0, 0, 0] : List UInt64).map vu64) h_34 rfl rfl Try.sizeOf22 rfl At.h (by decide) (Sg.t rfl Sg.h) rfl (lt_len (K := 8) (len_map (List.length_replicate ..)) (by decide)) ((set_u64 _ _ _).trans rfl) (fun w_35 h_36 => ?_)
    refine WL.nil ?_
    refine inb_n ?_
    refine thn_n ?_
    refine WP.reg ?_
    refine WL.q (Wn.no rfl) rfl rfl (R.bin (v := (vi 1)) rfl rfl (bi_add (c := 1) (by omega) (by omega))) ?_
    refine WL.q (Wn.no rfl) rfl rfl (R.move (v := (vi 1)) rfl) ?_
    refine WL.nil ?_
    refine thn_n ?_
    refine WI.round ?_
    refine WP.seq ?_
    refine WP.reg ?_
    refine WL.q (Wn.no rfl) rfl rfl (R.bin (v := (.bool true)) rfl rfl (bi_lss (r := true) (by decide))) ?_
    refine WL.nil ?_
    refine thn_n ?_
    refine WP.seq ?_
    refine WP.condT rfl ?_
    refine WP.skip ?_
    refine thn_n ?_
    refine WP.seq ?_
    refine WP.block ?_
    refine WP.seq ?_
    refine WP.reg ?_
    refine WL.q (Wn.no rfl) rfl rfl (R.move (v := (vi 1)) rfl) ?_
    refine WL.q (Wn.no rfl) rfl rfl (R.assign (v := (vi 1)) rfl) ?_
    refine WL.nil ?_
    refine thn_n ?_
    refine WP.reg ?_
    refine WL.q (Wn.no rfl) rfl rfl (R.move (v := (vi 1)) rfl) ?_
    refine WL.q (Wn.no rfl) rfl rfl (R.sliceA (b := b_1) (off := 0) (off' := 0) (l := 0) (h := 128) rfl EvB.dflt EvB.dflt (by decide) (by decide) Try.underlying53 Try.sizeOf5 rfl) ?_
    refine WL.q (Wn.no rfl) rfl rfl (R.move (v := (vi 1)) rfl) ?_
    refine WL.q (Wn.no rfl) rfl rfl (R.bin (v := (vi 3)) rfl rfl (bi_add (c := 3) (by omega) (by omega))) ?_
    refine WL.call (al := [(.slice (some ⟨b_1, 0, none⟩) 128 128), (vi 3)]) Try.call48 rfl rfl (c_Word (some ⟨b_1, 0, none⟩) 128 128 g hg 3 (by omega) _ (viewB (h_36.ok _ (.tail _ (.tail _ (.head _)))) Sg.h) (by omega)) rfl ?_
    rintro _ w_38 ⟨rfl, hc_37⟩
    have h_39 := h_36.same hc_37
    refine WL.q (Wn.no rfl) rfl rfl (R.fieldAddr (b := b_31) (off := 0) (off' := 1) rfl Try.underlying45 rfl Try.sizeOf23 rfl rfl) ?_
    refine WL.q (Wn.no rfl) rfl rfl (R.indexA (b := b_31) (off := 1) (off' := 2) (i := 1) rfl rfl rfl (by decide) Try.underlying23 Try.sizeOf22 rfl) ?_
    refine WL.storeE (b := b_31) (off := 2) (i := 1) (v := (vu64 (wordB g 3))) (cs' := ([wordB g 2, wordB g 3, 0, 0, 0, 0, 0, 0] : List UInt64).map vu64) h_39 rfl rfl Try.sizeOf22 rfl At.h (by decide) (Sg.t rfl Sg.h) rfl (lt_len (K := 8) (len_map (rfl : List.length ([wordB g 2, 0, 0, 0, 0, 0, 0, 0] : List UInt64) = 8)) (by decide)) ((set_u64 _ _ _).trans rfl) (fun w_40 h_41 => ?_)
    refine WL.nil ?_
    refine inb_n ?_
    refine thn_n ?_
    refine WP.reg ?_
    refine WL.q (Wn.no rfl) rfl rfl (R.bin (v := (vi 2)) rfl rfl (bi_add (c := 2) (by omega) (by omega))) ?_
    refine WL.q (Wn.no rfl) rfl rfl (R.move (v := (vi 2)) rfl) ?_
    refine WL.nil ?_
    refine thn_n ?_
    refine WI.round ?_
    refine WP.seq ?_
    refine WP.reg ?_
    refine WL.q (Wn.no rfl) rfl rfl (R.bin (v := (.bool true)) rfl rfl (bi_lss (r := true) (by decide))) ?_
    refine WL.nil ?_
    refine thn_n ?_
    refine WP.seq ?_
    refine WP.condT rfl ?_
    refine WP.skip ?_
    refine thn_n ?_
    refine WP.seq ?_
    refine WP.block ?_
    refine WP.seq ?_
    refine WP.reg ?_
    refine WL.q (Wn.no rfl) rfl rfl (R.move (v := (vi 2)) rfl) ?_
    refine WL.q (Wn.no rfl) rfl rfl (R.assign (v := (vi 2)) rfl) ?_
    refine WL.nil ?_
    refine thn_n ?_
    refine WP.reg ?_
    refine WL.q (Wn.no rfl) rfl rfl (R.move (v := (vi 2)) rfl) ?_
    refine WL.q (Wn.no rfl) rfl rfl (R.sliceA (b := b_1) (off := 0) (off' := 0) (l := 0) (h := 128) rfl EvB.dflt EvB.dflt (by decide) (by decide) Try.underlying53 Try.sizeOf5 rfl) ?_
    refine WL.q (Wn.no rfl) rfl rfl (R.move (v := (vi 2)) rfl) ?_
    refine WL.q (Wn.no rfl) rfl rfl (R.bin (v := (vi 4)) rfl rfl (bi_add (c := 4) (by omega) (by omega))) ?_
    refine WL.call (al := [(.slice (some ⟨b_1, 0, none⟩) 128 128), (vi 4)]) Try.call48 rfl rfl (c_Word (some ⟨b_1, 0, none⟩) 128 128 g hg 4 (by omega) _ (viewB (h_41.ok _ (.tail _ (.tail _ (.head _)))) Sg.h) (by omega)) rfl ?_
    rintro _ w_43 ⟨rfl, hc_42⟩
    have h_44 := h_41.same hc_42
    refine WL.q (Wn.no rfl) rfl rfl (R.fieldAddr (b := b_31) (off := 0) (off' := 1) rfl Try.underlying45 rfl Try.sizeOf23 rfl rfl) ?_
    refine WL.q (Wn.no rfl) rfl rfl (R.indexA (b := b_31) (off := 1) (off' := 3) (i := 2) rfl rfl rfl (by decide) Try.underlying23 Try.sizeOf22 rfl) ?_
    refine WL.storeE (b := b_31) (off := 3) (i := 2) (v := (vu64 (wordB g 4))) (cs' := ([wordB g 2, wordB g 3, wordB g 4, 0, 0, 0, 0, 0] : List UInt64).map vu64) h_44 rfl rfl Try.sizeOf22 rfl At.h (by decide) (Sg.t rfl Sg.h) rfl (lt_len (K := 8) (len_map (rfl : List.length ([wordB g 2, wordB g 3, 0, 0, 0, 0, 0, 0] : List UInt64) = 8)) (by decide)) ((set_u64 _ _ _).trans rfl) (fun w_45 h_46 => ?_)
    refine WL.nil ?_
    refine inb_n ?_
    refine thn_n ?_
    refine WP.reg ?_
    refine WL.q (Wn.no rfl) rfl rfl (R.bin (v := (vi 3)) rfl rfl (bi_add (c := 3) (by omega) (by omega))) ?_
    refine WL.q (Wn.no rfl) rfl rfl (R.move (v := (vi 3)) rfl) ?_
    refine WL.nil ?_
    refine thn_n ?_
    refine WI.round ?_
    refine WP.seq ?_
    refine WP.reg ?_
    refine WL.q (Wn.no rfl) rfl rfl (R.bin (v := (.bool true)) rfl rfl (bi_lss (r := true) (by decide))) ?_
    refine WL.nil ?_
    refine thn_n ?_
    refine WP.seq ?_
    refine WP.condT rfl ?_
    refine WP.skip ?_
    refine thn_n ?_
    refine WP.seq ?_
    refine WP.block ?_
    refine WP.seq ?_
    refine WP.reg ?_
    refine WL.q (Wn.no rfl) rfl rfl (R.move (v := (vi 3)) rfl) ?_
    refine WL.q (Wn.no rfl) rfl rfl (R.assign (v := (vi 3)) rfl) ?_
    refine WL.nil ?_
    refine thn_n ?_
    refine WP.reg ?_
    refine WL.q (Wn.no rfl) rfl rfl (R.move (v := (vi 3)) rfl) ?_
    refine WL.q (Wn.no rfl) rfl rfl (R.sliceA (b := b_1) (off := 0) (off' := 0) (l := 0) (h := 128) rfl EvB.dflt EvB.dflt (by decide) (by decide) Try.underlying53 Try.sizeOf5 rfl) ?_
    refine WL.q (Wn.no rfl) rfl rfl (R.move (v := (vi 3)) rfl) ?_
    refine WL.q (Wn.no rfl) rfl rfl (R.bin (v := (vi 5)) rfl rfl (bi_add (c := 5) (by omega) (by omega))) ?_
    refine WL.call (al := [(.slice (some ⟨b_1, 0, none⟩) 128 128), (vi 5)]) Try.call48 rfl rfl (c_Word (some ⟨b_1, 0, none⟩) 128 128 g hg 5 (by omega) _ (viewB (h_46.ok _ (.tail _ (.tail _ (.head _)))) Sg.h) (by omega)) rfl ?_
    rintro _ w_48 ⟨rfl, hc_47⟩
    have h_49 := h_46.same hc_47
    refine WL.q (Wn.no rfl) rfl rfl (R.fieldAddr (b := b_31) (off := 0) (off' := 1) rfl Try.underlying45 rfl Try.sizeOf23 rfl rfl) ?_
    refine WL.q (Wn.no rfl) rfl rfl (R.indexA (b := b_31) (off := 1) (off' := 4) (i := 3) rfl rfl rfl (by decide) Try.underlying23 Try.sizeOf22 rfl) ?_
    refine WL.storeE (b := b_31) (off := 4) (i := 3) (v := (vu64 (wordB g 5))) (cs' := ([wordB g 2, wordB g 3, wordB g 4, wordB g 5, 0, 0, 0, 0] : List UInt64).map vu64) h_49 rfl rfl Try.sizeOf22 rfl At.h (by decide) (Sg.t rfl Sg.h) rfl (lt_len (K := 8) (len_map (rfl : List.length ([wordB g 2, wordB g 3, wordB g 4, 0, 0, 0, 0, 0] : List UInt64) = 8)) (by decide)) ((set_u64 _ _ _).trans rfl) (fun w_50 h_51 => ?_)
    refine WL.nil ?_
    refine inb_n ?_
    refine thn_n ?_
    refine WP.reg ?_
    refine WL.q (Wn.no rfl) rfl rfl (R.bin (v := (vi 4)) rfl rfl (bi_add (c := 4) (by omega) (by omega))) ?_
    refine WL.q (Wn.no rfl) rfl rfl (R.move (v := (vi 4)) rfl) ?_
    refine WL.nil ?_
    refine thn_n ?_
    refine WI.round ?_
    refine WP.seq ?_
    refine WP.reg ?_
    refine WL.q (Wn.no rfl) rfl rfl (R.bin (v := (.bool true)) rfl rfl (bi_lss (r := true) (by decide))) ?_
    refine WL.nil ?_
    refine thn_n ?_
    refine WP.seq ?_
    refine WP.condT rfl ?_
    refine WP.skip ?_
    refine thn_n ?_
    refine WP.seq ?_
    refine WP.block ?_
    refine WP.seq ?_
    refine WP.reg ?_
    refine WL.q (Wn.no rfl) rfl rfl (R.move (v := (vi 4)) rfl) ?_
    refine WL.q (Wn.no rfl) rfl rfl (R.assign (v := (vi 4)) rfl) ?_
    refine WL.nil ?_
    refine thn_n ?_
    refine WP.reg ?_
    refine WL.q (Wn.no rfl) rfl rfl (R.move (v := (vi 4)) rfl) ?_
    refine WL.q (Wn.no rfl) rfl rfl (R.sliceA (b := b_1) (off := 0) (off' := 0) (l := 0) (h := 128) rfl EvB.dflt EvB.dflt (by decide) (by decide) Try.underlying53 Try.sizeOf5 rfl) ?_
    refine WL.q (Wn.no rfl) rfl rfl (R.move (v := (vi 4)) rfl) ?_
    refine WL.q (Wn.no rfl) rfl rfl (R.bin (v := (vi 6)) rfl rfl (bi_add (c := 6) (by omega) (by omega))) ?_
    refine WL.call (al := [(.slice (some ⟨b_1, 0, none⟩) 128 128), (vi 6)]) Try.call48 rfl rfl (c_Word (some ⟨b_1, 0, none⟩) 128 128 g hg 6 (by omega) _ (viewB (h_51.ok _ (.tail _ (.tail _ (.head _)))) Sg.h) (by omega)) rfl ?_
    rintro _ w_53 ⟨rfl, hc_52⟩
    have h_54 := h_51.same hc_52
    refine WL.q (Wn.no rfl) rfl rfl (R.fieldAddr (b := b_31) (off := 0) (off' := 1) rfl Try.underlying45 rfl Try.sizeOf23 rfl rfl) ?_
    refine WL.q (Wn.no rfl) rfl rfl (R.indexA (b := b_31) (off := 1) (off' := 5) (i := 4) rfl rfl rfl (by decide) Try.underlying23 Try.sizeOf22 rfl) ?_
    refine WL.storeE (b := b_31) (off := 5) (i := 4) (v := (vu64 (wordB g 6))) (cs' := ([wordB g 2, wordB g 3, wordB g 4, wordB g 5, wordB g 6, 0, 0, 0] : List UInt64).map vu64) h_54 rfl rfl Try.sizeOf22 rfl At.h (by decide) (Sg.t rfl Sg.h) rfl (lt_len (K := 8) (len_map (rfl : List.length ([wordB g 2, wordB g 3, wordB g 4, wordB g 5, 0, 0, 0, 0] : List UInt64) = 8)) (by decide)) ((set_u64 _ _ _).trans rfl) (fun w_55 h_56 => ?_)
    refine WL.nil ?_
    refine inb_n ?_
    refine thn_n ?_
    refine WP.reg ?_
    refine WL.q (Wn.no rfl) rfl rfl (R.bin (v := (vi 5)) rfl rfl (bi_add (c := 5) (by omega) (by omega))) ?_
    refine WL.q (Wn.no rfl) rfl rfl (R.move (v := (vi 5)) rfl) ?_
    refine WL.nil ?_
    refine thn_n ?_
    refine WI.round ?_
    refine WP.seq ?_
    refine WP.reg ?_
    refine WL.q (Wn.no rfl) rfl rfl (R.bin (v := (.bool true)) rfl rfl (bi_lss (r := true) (by decide))) ?_
    refine WL.nil ?_
    refine thn_n ?_
    refine WP.seq ?_
    refine WP.condT rfl ?_
    refine WP.skip ?_
    refine thn_n ?_
    refine WP.seq ?_
    refine WP.block ?_
    refine WP.seq ?_
    refine WP.reg ?_
    refine WL.q (Wn.no rfl) rfl rfl (R.move (v := (vi 5)) rfl) ?_
    refine WL.q (Wn.no rfl) rfl rfl (R.assign (v := (vi 5)) rfl) ?_
    refine WL.nil ?_
    refine thn_n ?_
    refine WP.reg ?_
    refine WL.q (Wn.no rfl) rfl rfl (R.move (v := (vi 5)) rfl) ?_
    refine WL.q (Wn.no rfl) rfl rfl (R.sliceA (b := b_1) (off := 0) (off' := 0) (l := 0) (h := 128) rfl EvB.dflt EvB.dflt (by decide) (by decide) Try.underlying53 Try.sizeOf5 rfl) ?_
    refine WL.q (Wn.no rfl) rfl rfl (R.move (v := (vi 5)) rfl) ?_
    refine WL.q (Wn.no rfl) rfl rfl (R.bin (v := (vi 7)) rfl rfl (bi_add (c := 7) (by omega) (by omega))) ?_
    refine WL.call (al := [(.slice (some ⟨b_1, 0, none⟩) 128 128), (vi 7)]) Try.call48 rfl rfl (c_Word (some ⟨b_1, 0, none⟩) 128 128 g hg 7 (by omega) _ (viewB (h_56.ok _ (.tail _ (.tail _ (.head _)))) Sg.h) (by omega)) rfl ?_
    rintro _ w_58 ⟨rfl, hc_57⟩
    have h_59 := h_56.same hc_57
    refine WL.q (Wn.no rfl) rfl rfl (R.fieldAddr (b := b_31) (off := 0) (off' := 1) rfl Try.underlying45 rfl Try.sizeOf23 rfl rfl) ?_
    refine WL.q (Wn.no rfl) rfl rfl (R.indexA (b := b_31) (off := 1) (off' := 6) (i := 5) rfl rfl rfl (by decide) Try.underlying23 Try.sizeOf22 rfl) ?_
    refine WL.storeE (b := b_31) (off := 6) (i := 5) (v := (vu64 (wordB g 7))) (cs' := ([wordB g 2, wordB g 3, wordB g 4, wordB g 5, wordB g 6, wordB g 7, 0, 0] : List UInt64).map vu64) h_59 rfl rfl Try.sizeOf22 rfl At.h (by decide) (Sg.t rfl Sg.h) rfl (lt_len (K := 8) (len_map (rfl : List.length ([wordB g 2, wordB g 3, wordB g 4, wordB g 5, wordB g 6, 0, 0, 0] : List UInt64) = 8)) (by decide)) ((set_u64 _ _ _).trans rfl) (fun w_60 h_61 => ?_)
    refine WL.nil ?_
    refine inb_n ?_
    refine thn_n ?_
    refine WP.reg ?_
    refine WL.q (Wn.no rfl) rfl rfl (R.bin (v := (vi 6)) rfl rfl (bi_add (c := 6) (by omega) (by omega))) ?_
    refine WL.q (Wn.no rfl) rfl rfl (R.move (v := (vi 6)) rfl) ?_
    refine WL.nil ?_
    refine thn_n ?_
    refine WI.round ?_
    refine WP.seq ?_
    refine WP.reg ?_
    refine WL.q (Wn.no rfl) rfl rfl (R.bin (v := (.bool true)) rfl rfl (bi_lss (r := true) (by decide))) ?_
    refine WL.nil ?_
    refine thn_n ?_
    refine WP.seq ?_
    refine WP.condT rfl ?_
    refine WP.skip ?_
    refine thn_n ?_
    refine WP.seq ?_
    refine WP.block ?_
    refine WP.seq ?_
    refine WP.reg ?_
    refine WL.q (Wn.no rfl) rfl rfl (R.move (v := (vi 6)) rfl) ?_
    refine WL.q (Wn.no rfl) rfl rfl (R.assign (v := (vi 6)) rfl) ?_
    refine WL.nil ?_
    refine thn_n ?_
    refine WP.reg ?_
    refine WL.q (Wn.no rfl) rfl rfl (R.move (v := (vi 6)) rfl) ?_
    refine WL.q (Wn.no rfl) rfl rfl (R.sliceA (b := b_1) (off := 0) (off' := 0) (l := 0) (h := 128) rfl EvB.dflt EvB.dflt (by decide) (by decide) Try.underlying53 Try.sizeOf5 rfl) ?_
    refine WL.q (Wn.no rfl) rfl rfl (R.move (v := (vi 6)) rfl) ?_
    refine WL.q (Wn.no rfl) rfl rfl (R.bin (v := (vi 8)) rfl rfl (bi_add (c := 8) (by omega) (by omega))) ?_
    refine WL.call (al := [(.slice (some ⟨b_1, 0, none⟩) 128 128), (vi 8)]) Try.call48 rfl rfl (c_Word (some ⟨b_1, 0, none⟩) 128 128 g hg 8 (by omega) _ (viewB (h_61.ok _ (.tail _ (.tail _ (.head _)))) Sg.h) (by omega)) rfl ?_
    rintro _ w_63 ⟨rfl, hc_62⟩
    have h_64 := h_61.same hc_62
    refine WL.q (Wn.no rfl) rfl rfl (R.fieldAddr (b := b_31) (off := 0) (off' := 1) rfl Try.underlying45 rfl Try.sizeOf23 rfl rfl) ?_
    refine WL.q (Wn.no rfl) rfl rfl (R.indexA (b := b_31) (off := 1) (off' := 7) (i := 6) rfl rfl rfl (by decide) Try.underlying23 Try.sizeOf22 rfl) ?_
    refine WL.storeE (b := b_31) (off := 7) (i := 6) (v := (vu64 (wordB g 8))) (cs' := ([wordB g 2, wordB g 3, wordB g 4, wordB g 5, wordB g 6, wordB g 7, wordB g 8, 0] : List UInt64).map vu64) h_64 rfl rfl Try.sizeOf22 rfl At.h (by decide) (Sg.t rfl Sg.h) rfl (lt_len (K := 8) (len_map (rfl : List.length ([wordB g 2, wordB g 3, wordB g 4, wordB g 5, wordB g 6, wordB g 7, 0, 0] : List UInt64) = 8)) (by decide)) ((set_u64 _ _ _).trans rfl) (fun w_65 h_66 => ?_)
    refine WL.nil ?_
    refine inb_n ?_
    refine thn_n ?_
    refine WP.reg ?_
    refine WL.q (Wn.no rfl) rfl rfl (R.bin (v := (vi 7)) rfl rfl (bi_add (c := 7) (by omega) (by omega))) ?_
    refine WL.q (Wn.no rfl) rfl rfl (R.move (v := (vi 7)) rfl) ?_
    refine WL.nil ?_
    refine thn_n ?_
    refine WI.round ?_
    refine WP.seq ?_
    refine WP.reg ?_
    refine WL.q (Wn.no rfl) rfl rfl (R.bin (v := (.bool true)) rfl rfl (bi_lss (r := true) (by decide))) ?_
    refine WL.nil ?_
    refine thn_n ?_
    refine WP.seq ?_
    refine WP.condT rfl ?_
    refine WP.skip ?_
    refine thn_n ?_
    refine WP.seq ?_
    refine WP.block ?_
    refine WP.seq ?_
    refine WP.reg ?_
    refine WL.q (Wn.no rfl) rfl rfl (R.move (v := (vi 7)) rfl) ?_
    refine WL.q (Wn.no rfl) rfl rfl (R.assign (v := (vi 7)) rfl) ?_
    refine WL.nil ?_
    refine thn_n ?_
    refine WP.reg ?_
    refine WL.q (Wn.no rfl) rfl rfl (R.move (v := (vi 7)) rfl) ?_
    refine WL.q (Wn.no rfl) rfl rfl (R.sliceA (b := b_1) (off := 0) (off' := 0) (l := 0) (h := 128) rfl EvB.dflt EvB.dflt (by decide) (by decide) Try.underlying53 Try.sizeOf5 rfl) ?_
    refine WL.q (Wn.no rfl) rfl rfl (R.move (v := (vi 7)) rfl) ?_
    refine WL.q (Wn.no rfl) rfl rfl (R.bin (v := (vi 9)) rfl rfl (bi_add (c := 9) (by omega) (by omega))) ?_
    refine WL.call (al := [(.slice (some ⟨b_1, 0, none⟩) 128 128), (vi 9)]) Try.call48 rfl rfl (c_Word (some ⟨b_1, 0, none⟩) 128 128 g hg 9 (by omega) _ (viewB (h_66.ok _ (.tail _ (.tail _ (.head _)))) Sg.h) (by omega)) rfl ?_
    rintro _ w_68 ⟨rfl, hc_67⟩
    have h_69 := h_66.same hc_67
    refine WL.q (Wn.no rfl) rfl rfl (R.fieldAddr (b := b_31) (off := 0) (off' := 1) rfl Try.underlying45 rfl Try.sizeOf23 rfl rfl) ?_
    refine WL.q (Wn.no rfl) rfl rfl (R.indexA (b := b_31) (off := 1) (off' := 8) (i := 7) rfl rfl rfl (by decide) Try.underlying23 Try.sizeOf22 rfl) ?_
    refine WL.storeE (b := b_31) (off := 8) (i := 7) (v := (vu64 (wordB g 9))) (cs' := ([wordB g 2, wordB g 3, wordB g 4, wordB g 5, wordB g 6, wordB g 7, wordB g 8, wordB g 9] : List UInt64).map vu64) h_69 rfl rfl Try.sizeOf22 rfl At.h (by decide) (Sg.t rfl Sg.h) rfl (lt_len (K := 8) (len_map (rfl : List.length ([wordB g 2, wordB g 3, wordB g 4, wordB g 5, wordB g 6, wordB g 7, wordB g 8, 0] : List UInt64) = 8)) (by decide)) ((set_u64 _ _ _).trans rfl) (fun w_70 h_71 => ?_)
    refine WL.nil ?_
    refine inb_n ?_
    refine thn_n ?_
    refine WP.reg ?_
    refine WL.q (Wn.no rfl) rfl rfl (R.bin (v := (vi 8)) rfl rfl (bi_add (c := 8) (by omega) (by omega))) ?_
    refine WL.q (Wn.no rfl) rfl rfl (R.move (v := (vi 8)) rfl) ?_
    refine WL.nil ?_
    refine thn_n ?_
    refine WI.round ?_
    refine WP.seq ?_
    refine WP.reg ?_
    refine WL.q (Wn.no rfl) rfl rfl (R.bin (v := (.bool false)) rfl rfl (bi_lss (r := false) (by decide))) ?_
    refine WL.nil ?_
    refine thn_n ?_
    refine WP.seq ?_
    refine WP.condF rfl ?_
    refine WP.exit ?_
    refine thn_x ?_
    refine thn_x ?_
    refine inb_hit ?_
    refine thn_n ?_
    refine WP.seq ?_
    refine WP.seq ?_
    refine WP.drawT (SL w.heap.size [.blk b_31 .nw 45 [(1, [(vu64 (wordB g 1))]), (8, ([wordB g 2, wordB g 3, wordB g 4, wordB g 5, wordB g 6, wordB g 7, wordB g 8, wordB g 9] : List UInt64).map vu64), (1, [(.bool (decide ((g.getD 80 0 : UInt8) ≠ 0)))])], .blk b_4 .nw 45 [(1, [(vu64 0)]), (8, (List.replicate 8 (0 : UInt64)).map vu64), (1, [(.bool false)])], .blk b_1 .nw 53 [(128, g.map vu8)]]) (.q 0 (.s 1 (.q 2 (.q 3 (.q 4 (.q 6 (.s 5 (.q 7 (.q 8 .nil))))))))) (by kernel_rfl) (by kernel_rfl) rfl (by kernel_rfl) (fun w_72 hc_74 => (SL.cons ((h_71.same hc_74).ok _ (.head _)) (SL.cons ((h_71.same hc_74).ok _ (.tail _ (.head _))) (SL.cons ((h_71.same hc_74).ok _ (.tail _ (.tail _ (.head _)))) (SL.nil _ _))))) (fun w_72 hc_74 => ?_)
    have h_73 := h_71.same hc_74
    refine WT.q rfl (Wn.no rfl) rfl rfl (fun wq hS => R.loadA (b := b_31) (off := 0) [] [(1, [(vu64 (wordB g 1))]), (8, ([wordB g 2, wordB g 3, wordB g 4, wordB g 5, wordB g 6, wordB g 7, wordB g 8, wordB g 9] : List UInt64).map vu64), (1, [(.bool (decide ((g.getD 80 0 : UInt8) ≠ 0)))])] [] (cs := flat [(1, [(vu64 (wordB g 1))]), (8, ([wordB g 2, wordB g 3, wordB g 4, wordB g 5, wordB g 6, wordB g 7, wordB g 8, wordB g 9] : List UInt64).map vu64), (1, [(.bool (decide ((g.getD 80 0 : UInt8) ≠ 0)))])]) rfl Try.isAgg45 Try.sizeOf45 (hS _ (.head _)) rfl rfl rfl rfl) ?_
    refine WT.s ?_
    refine Op1.one rfl (Wn.no rfl) ?_
    refine WL.call (al := [(.agg ⟨flat [(1, [(vu64 (wordB g 1))]), (8, ([wordB g 2, wordB g 3, wordB g 4, wordB g 5, wordB g 6, wordB g 7, wordB g 8, wordB g 9] : List UInt64).map vu64), (1, [(.bool (decide ((g.getD 80 0 : UInt8) ≠ 0)))])]⟩)]) Try.call25 rfl rfl (c_MayRec (wordB g 1) ([wordB g 2, wordB g 3, wordB g 4, wordB g 5, wordB g 6, wordB g 7, wordB g 8, wordB g 9] : List UInt64) (rfl : List.length ([wordB g 2, wordB g 3, wordB g 4, wordB g 5, wordB g 6, wordB g 7, wordB g 8, wordB g 9] : List UInt64) = 8) (decide ((g.getD 80 0 : UInt8) ≠ 0)) _ ) rfl ?_
    rintro _ w_76 ⟨rfl, hc_75⟩
    have h_77 := h_73.same hc_75
    refine WL.nil ?_
    refine ⟨(SL.cons (h_77.ok _ (.head _)) (SL.cons (h_77.ok _ (.tail _ (.head _))) (SL.cons (h_77.ok _ (.tail _ (.tail _ (.head _)))) (SL.nil _ _)))), ?_⟩
    refine WT.q rfl (Wn.no rfl) rfl rfl (fun wq hS => R.not (b := mayRec (wordB g 1)) rfl) ?_
    refine WT.q rfl (Wn.no rfl) rfl rfl (fun wq hS => R.move (v := (.bool (!(mayRec (wordB g 1))))) rfl) ?_
    rcases Bool.eq_false_or_eq_true (!(mayRec (wordB g 1))) with c_78 | c_78
    · refine WT.skipQ rfl rfl rfl (boolNe (v := .bool true) (congrArg Value.bool c_78) (by decide)) rfl rfl ?_
      refine WT.skipQ rfl rfl rfl (boolNe (v := .bool true) (congrArg Value.bool c_78) (by decide)) rfl rfl ?_
      refine WT.s ?_
      refine Op1.skip rfl rfl rfl (boolNe (v := .bool true) (congrArg Value.bool c_78) (by decide)) rfl rfl ?_
      refine WT.skipQ rfl rfl rfl (boolNe (v := .bool true) (congrArg Value.bool c_78) (by decide)) rfl rfl ?_
      refine WT.q rfl (Wn.no rfl) rfl rfl (fun wq hS => R.pickT (v := (.bool true)) (congrArg Value.bool c_78) rfl) ?_
      refine WT.nil ?_
      refine thn_n ?_
      refine WP.condT rfl ?_
      refine WP.seq ?_
      refine WP.reg ?_
      refine WL.q (Wn.no rfl) rfl rfl (R.buildS (pl := [(0, 1), (1, 8), (9, 1)]) (zs := [(1, [(vu64 0)]), (8, (List.replicate 8 (0 : UInt64)).map vu64), (1, [(.bool false)])]) (vs := []) (out := [(1, [(vu64 0)]), (8, (List.replicate 8 (0 : UInt64)).map vu64), (1, [(.bool false)])]) (cs := flat [(1, [(vu64 0)]), (8, (List.replicate 8 (0 : UInt64)).map vu64), (1, [(.bool false)])]) Try.underlying45 (zv Try.typeInfo45 rfl) rfl (SsOk.cons (SOk.v rfl) (SsOk.cons (SOk.u64 (List.length_replicate ..)) (SsOk.cons (SOk.v rfl) SsOk.nil))) (pl45 _ Try.underlying45) rfl FillR.nil rfl) ?_
      refine WL.storeA (b := b_4) (off := 0) [] [(1, [(vu64 0)]), (8, (List.replicate 8 (0 : UInt64)).map vu64), (1, [(.bool false)])] [(1, [(vu64 0)]), (8, (List.replicate 8 (0 : UInt64)).map vu64), (1, [(.bool false)])] [] (ys := flat [(1, [(vu64 0)]), (8, (List.replicate 8 (0 : UInt64)).map vu64), (1, [(.bool false)])]) h_77 rfl rfl Try.sizeOf45 (At.t At.h) (by decide) rfl rfl rfl rfl rfl rfl (SsOk.cons (SOk.v rfl) (SsOk.cons (SOk.u64 (List.length_replicate ..)) (SsOk.cons (SOk.v rfl) SsOk.nil))) (fun w_80 h_81 => ?_)
      refine WL.q (Wn.no rfl) rfl rfl (R.assign (v := (vi 4)) rfl) ?_
      refine WL.nil ?_
      refine thn_n ?_
      refine WP.ret ?_
      refine thn_r ?_
      refine ret_of Try.results28 (RV.cell rfl (h_81.loadA (cs := flat [(1, [(vu64 0)]), (8, (List.replicate 8 (0 : UInt64)).map vu64), (1, [(.bool false)])]) Try.isAgg45 Try.sizeOf45 (.tail _ (.head _)) rfl rfl) (RV.tmp (v := (vi 4)) rfl RV.nil)) ?_
      exact ⟨rfl, h_81.chgS⟩
    · refine WT.q rfl (Wn.yes rfl rfl (congrArg Value.bool c_78)) rfl rfl (fun wq hS => R.loadA (b := b_31) (off := 0) [] [(1, [(vu64 (wordB g 1))]), (8, ([wordB g 2, wordB g 3, wordB g 4, wordB g 5, wordB g 6, wordB g 7, wordB g 8, wordB g 9] : List UInt64).map vu64), (1, [(.bool (decide ((g.getD 80 0 : UInt8) ≠ 0)))])] [] (cs := flat [(1, [(vu64 (wordB g 1))]), (8, ([wordB g 2, wordB g 3, wordB g 4, wordB g 5, wordB g 6, wordB g 7, wordB g 8, wordB g 9] : List UInt64).map vu64), (1, [(.bool (decide ((g.getD 80 0 : UInt8) ≠ 0)))])]) rfl Try.isAgg45 Try.sizeOf45 (hS _ (.head _)) rfl rfl rfl rfl) ?_
      refine WT.q rfl (Wn.yes rfl rfl (congrArg Value.bool c_78)) rfl rfl (fun wq hS => R.loadA (b := b_1) (off := 0) [] [(128, g.map vu8)] [] (cs := g.map vu8) rfl Try.isAgg53 Try.sizeOf53 (hS _ (.tail _ (.tail _ (.head _)))) rfl rfl rfl rfl) ?_
      refine WT.s ?_
      refine Op1.one rfl (Wn.yes rfl rfl (congrArg Value.bool c_78)) ?_
      refine WL.call (al := [(.agg ⟨flat [(1, [(vu64 (wordB g 1))]), (8, ([wordB g 2, wordB g 3, wordB g 4, wordB g 5, wordB g 6, wordB g 7, wordB g 8, wordB g 9] : List UInt64).map vu64), (1, [(.bool (decide ((g.getD 80 0 : UInt8) ≠ 0)))])]⟩)]) Try.call47 rfl rfl (c_rec (wordB g 1) ([wordB g 2, wordB g 3, wordB g 4, wordB g 5, wordB g 6, wordB g 7, wordB g 8, wordB g 9] : List UInt64) (rfl : List.length ([wordB g 2, wordB g 3, wordB g 4, wordB g 5, wordB g 6, wordB g 7, wordB g 8, wordB g 9] : List UInt64) = 8) (decide ((g.getD 80 0 : UInt8) ≠ 0)) _ ) rfl ?_
      rintro _ w_83 ⟨rfl, hc_82⟩
      have h_84 := h_77.same hc_82
      refine WL.nil ?_
      refine ⟨(SL.cons (h_84.ok _ (.head _)) (SL.cons (h_84.ok _ (.tail _ (.head _))) (SL.cons (h_84.ok _ (.tail _ (.tail _ (.head _)))) (SL.nil _ _)))), ?_⟩
      refine WT.q rfl (Wn.yes rfl rfl (congrArg Value.bool c_78)) rfl rfl (fun wq hS => R.neA (xs := (recB (wordB g 1) ([wordB g 2, wordB g 3, wordB g 4, wordB g 5, wordB g 6, wordB g 7, wordB g 8, wordB g 9] : List UInt64) (decide ((g.getD 80 0 : UInt8) ≠ 0))).map vu8) (ys := g.map vu8) (r := !decide (recB (wordB g 1) ([wordB g 2, wordB g 3, wordB g 4, wordB g 5, wordB g 6, wordB g 7, wordB g 8, wordB g 9] : List UInt64) (decide ((g.getD 80 0 : UInt8) ≠ 0)) = g)) rfl rfl Try.eqGuardType53 kt53 (by decide) ag53 (Typ.u8s Try.underlying53 ce53 Try.underlying5 ce5 (recB_len ..)) (Typ.u8s Try.underlying53 ce53 Try.underlying5 ce5 hg) (map_inj_u8.trans (decN _))) ?_
      refine WT.q rfl (Wn.no rfl) rfl rfl (fun wq hS => R.pickF (v := (.bool (!decide (recB (wordB g 1) ([wordB g 2, wordB g 3, wordB g 4, wordB g 5, wordB g 6, wordB g 7, wordB g 8, wordB g 9] : List UInt64) (decide ((g.getD 80 0 : UInt8) ≠ 0)) = g)))) (congrArg Value.bool c_78) rfl) ?_
      refine WT.nil ?_
      refine thn_n ?_
      refine WP.cond (b := !decide (recB (wordB g 1) ([wordB g 2, wordB g 3, wordB g 4, wordB g 5, wordB g 6, wordB g 7, wordB g 8, wordB g 9] : List UInt64) (decide ((g.getD 80 0 : UInt8) ≠ 0)) = g)) rfl (fun c_85 => ?_) (fun c_85 => ?_)
      · refine WP.seq ?_
        refine WP.reg ?_
        refine WL.q (Wn.no rfl) rfl rfl (R.buildS (pl := [(0, 1), (1, 8), (9, 1)]) (zs := [(1, [(vu64 0)]), (8, (List.replicate 8 (0 : UInt64)).map vu64), (1, [(.bool false)])]) (vs := []) (out := [(1, [(vu64 0)]), (8, (List.replicate 8 (0 : UInt64)).map vu64), (1, [(.bool false)])]) (cs := flat [(1, [(vu64 0)]), (8, (List.replicate 8 (0 : UInt64)).map vu64), (1, [(.bool false)])]) Try.underlying45 (zv Try.typeInfo45 rfl) rfl (SsOk.cons (SOk.v rfl) (SsOk.cons (SOk.u64 (List.length_replicate ..)) (SsOk.cons (SOk.v rfl) SsOk.nil))) (pl45 _ Try.underlying45) rfl FillR.nil rfl) ?_
        refine WL.storeA (b := b_4) (off := 0) [] [(1, [(vu64 0)]), (8, (List.replicate 8 (0 : UInt64)).map vu64), (1, [(.bool false)])] [(1, [(vu64 0)]), (8, (List.replicate 8 (0 : UInt64)).map vu64), (1, [(.bool false)])] [] (ys := flat [(1, [(vu64 0)]), (8, (List.replicate 8 (0 : UInt64)).map vu64), (1, [(.bool false)])]) h_84 rfl rfl Try.sizeOf45 (At.t At.h) (by decide) rfl rfl rfl rfl rfl rfl (SsOk.cons (SOk.v rfl) (SsOk.cons (SOk.u64 (List.length_replicate ..)) (SsOk.cons (SOk.v rfl) SsOk.nil))) (fun w_87 h_88 => ?_)
        refine WL.q (Wn.no rfl) rfl rfl (R.assign (v := (vi 4)) rfl) ?_
        refine WL.nil ?_
        refine thn_n ?_
        refine WP.ret ?_
        refine thn_r ?_
        refine ret_of Try.results28 (RV.cell rfl (h_88.loadA (cs := flat [(1, [(vu64 0)]), (8, (List.replicate 8 (0 : UInt64)).map vu64), (1, [(.bool false)])]) Try.isAgg45 Try.sizeOf45 (.tail _ (.head _)) rfl rfl) (RV.tmp (v := (vi 4)) rfl RV.nil)) ?_
        exact ⟨rfl, h_88.chgS⟩
      · refine WP.skip ?_
        refine thn_n ?_
        refine WP.seq ?_
        refine WP.reg ?_
        refine WL.q (Wn.no rfl) rfl rfl (R.loadA (b := b_31) (off := 0) [] [(1, [(vu64 (wordB g 1))]), (8, ([wordB g 2, wordB g 3, wordB g 4, wordB g 5, wordB g 6, wordB g 7, wordB g 8, wordB g 9] : List UInt64).map vu64), (1, [(.bool (decide ((g.getD 80 0 : UInt8) ≠ 0)))])] [] (cs := flat [(1, [(vu64 (wordB g 1))]), (8, ([wordB g 2, wordB g 3, wordB g 4, wordB g 5, wordB g 6, wordB g 7, wordB g 8, wordB g 9] : List UInt64).map vu64), (1, [(.bool (decide ((g.getD 80 0 : UInt8) ≠ 0)))])]) rfl Try.isAgg45 Try.sizeOf45 (h_84.ok _ (.head _)) rfl rfl rfl rfl) ?_
        refine WL.storeA (b := b_4) (off := 0) [] [(1, [(vu64 0)]), (8, (List.replicate 8 (0 : UInt64)).map vu64), (1, [(.bool false)])] [(1, [(vu64 (wordB g 1))]), (8, ([wordB g 2, wordB g 3, wordB g 4, wordB g 5, wordB g 6, wordB g 7, wordB g 8, wordB g 9] : List UInt64).map vu64), (1, [(.bool (decide ((g.getD 80 0 : UInt8) ≠ 0)))])] [] (ys := flat [(1, [(vu64 (wordB g 1))]), (8, ([wordB g 2, wordB g 3, wordB g 4, wordB g 5, wordB g 6, wordB g 7, wordB g 8, wordB g 9] : List UInt64).map vu64), (1, [(.bool (decide ((g.getD 80 0 : UInt8) ≠ 0)))])]) h_84 rfl rfl Try.sizeOf45 (At.t At.h) (by decide) rfl rfl rfl rfl rfl rfl (SsOk.cons (SOk.v rfl) (SsOk.cons (SOk.u64 (rfl : List.length ([wordB g 2, wordB g 3, wordB g 4, wordB g 5, wordB g 6, wordB g 7, wordB g 8, wordB g 9] : List UInt64) = 8)) (SsOk.cons (SOk.v rfl) SsOk.nil))) (fun w_89 h_90 => ?_)
        refine WL.q (Wn.no rfl) rfl rfl (R.assign (v := (vi 0)) rfl) ?_
        refine WL.nil ?_
        refine thn_n ?_
        refine WP.ret ?_
        refine ret_of Try.results28 (RV.cell rfl (h_90.loadA (cs := flat [(1, [(vu64 (wordB g 1))]), (8, ([wordB g 2, wordB g 3, wordB g 4, wordB g 5, wordB g 6, wordB g 7, wordB g 8, wordB g 9] : List UInt64).map vu64), (1, [(.bool (decide ((g.getD 80 0 : UInt8) ≠ 0)))])]) Try.isAgg45 Try.sizeOf45 (.tail _ (.head _)) rfl rfl) (RV.tmp (v := (vi 0)) rfl RV.nil)) ?_
        have h1 := okRec_ne h
        simp only [rcR] at h1
        exfalso
        clear h
        simp_all

theorem c_RealmR_t (g : List UInt8) (hg : g.length = 128) (h : okRealm g = true) (w : World) :
    Cs Try.prog 33 [(.agg ⟨g.map vu8⟩)].toArray w (fun v w1 => v = (.tuple [(.agg ⟨flat [(32, (rlV g).map vu8), (1, [(vu64 (wordB g 5))])]⟩), (.bool true)].toArray) ∧ Chg w w1 []) := by
  refine Cs.of (n := 23) (args := [(.agg ⟨g.map vu8⟩)]) Try.func33 rfl rfl rfl ?_
  have h_0 := HP.init w
  refine WP.seq ?_
  refine WP.reg ?_
  refine WL.box (v := (.agg ⟨g.map vu8⟩)) (segs := [(128, g.map vu8)]) h_0 rfl rfl (SsOk.cons (SOk.u8 hg) SsOk.nil) rfl (fun b_1 w_2 h_3 => ?_)
  refine WL.alloc (segs := [(32, (List.replicate 32 (0 : UInt8)).map vu8), (1, [(vu64 0)])]) h_3 (zv Try.typeInfo51 rfl) rfl (SsOk.cons (SOk.u8 (List.length_replicate ..)) (SsOk.cons (SOk.v rfl) SsOk.nil)) rfl (fun b_4 w_5 h_6 => ?_)
  refine WL.q (Wn.no rfl) rfl rfl (R.assign (v := (.bool false)) rfl) ?_
  refine WL.nil ?_
  refine thn_n ?_
  refine WP.seq ?_
  refine WP.reg ?_
  refine WL.q (Wn.no rfl) rfl rfl (R.sliceA (b := b_1) (off := 0) (off' := 0) (l := 0) (h := 128) rfl EvB.dflt EvB.dflt (by decide) (by decide) Try.underlying53 Try.sizeOf5 rfl) ?_
  refine WL.call (al := [(.slice (some ⟨b_1, 0, none⟩) 128 128), (vi 5)]) Try.call51 rfl rfl (c_WordR (some ⟨b_1, 0, none⟩) 128 128 g hg 5 (by omega) _ (viewB (h_6.ok _ (.tail _ (.head _))) Sg.h)) rfl ?_
  rintro _ w_8 ⟨rfl, hc_7⟩
  have h_9 := h_6.same hc_7
  refine WL.q (Wn.no rfl) rfl rfl (R.buildS (pl := [(0, 32), (32, 1)]) (zs := [(32, (List.replicate 32 (0 : UInt8)).map vu8), (1, [(vu64 0)])]) (vs := [(1, (vu64 (wordB g 5)))]) (out := [(32, (List.replicate 32 (0 : UInt8)).map vu8), (1, [(vu64 (wordB g 5))])]) (cs := flat [(32, (List.replicate 32 (0 : UInt8)).map vu8), (1, [(vu64 (wordB g 5))])]) Try.underlying51 (zv Try.typeInfo51 rfl) rfl (SsOk.cons (SOk.u8 (List.length_replicate ..)) (SsOk.cons (SOk.v rfl) SsOk.nil)) (pl51 _ Try.underlying51) rfl (FillR.cons [(32, (List.replicate 32 (0 : UInt8)).map vu8)] [(1, [(vu64 0)])] [(1, [(vu64 (wordB g 5))])] [] rfl rfl rfl rfl (SsOk.cons (SOk.v rfl) SsOk.nil) rfl rfl rfl FillR.nil) rfl) ?_
  refine WL.alloc (segs := [(32, (List.replicate 32 (0 : UInt8)).map vu8), (1, [(vu64 0)])]) h_9 (zv Try.typeInfo51 rfl) rfl (SsOk.cons (SOk.u8 (List.length_replicate ..)) (SsOk.cons (SOk.v rfl) SsOk.nil)) rfl (fun b_11 w_12 h_13 => ?_)
  refine WL.storeA (b := b_11) (off := 0) [] [(32, (List.replicate 32 (0 : UInt8)).map vu8), (1, [(vu64 0)])] [(32, (List.replicate 32 (0 : UInt8)).map vu8), (1, [(vu64 (wordB g 5))])] [] (ys := flat [(32, (List.replicate 32 (0 : UInt8)).map vu8), (1, [(vu64 (wordB g 5))])]) h_13 rfl rfl Try.sizeOf51 At.h (by decide) rfl rfl rfl rfl rfl rfl (SsOk.cons (SOk.u8 (List.length_replicate ..)) (SsOk.cons (SOk.v rfl) SsOk.nil)) (fun w_14 h_15 => ?_)
  refine WL.nil ?_
  refine thn_n ?_
  refine WP.seq ?_
  refine WP.drawT (SL w.heap.size [.blk b_4 .nw 51 [(32, (List.replicate 32 (0 : UInt8)).map vu8), (1, [(vu64 0)])], .blk b_1 .nw 53 [(128, g.map vu8)]]) (.q 0 (.q 1 (.q 2 (.s 3 .nil)))) (by kernel_rfl) (by kernel_rfl) rfl (by kernel_rfl) (fun w_16 hc_18 => (SL.cons ((h_15.same hc_18).ok _ (.tail _ (.head _))) (SL.cons ((h_15.same hc_18).ok _ (.tail _ (.tail _ (.head _)))) (SL.nil _ _)))) (fun w_16 hc_18 => ?_)
  have h_17 := h_15.same hc_18
  refine WT.q rfl (Wn.no rfl) rfl rfl (fun wq hS => R.fieldAddr (b := b_11) (off := 0) (off' := 0) rfl Try.underlying51 rfl Try.sizeOf49 rfl rfl) ?_
  refine WT.q rfl (Wn.no rfl) rfl rfl (fun wq hS => R.sliceA (b := b_11) (off := 0) (off' := 0) (l := 0) (h := 32) rfl EvB.dflt EvB.dflt (by decide) (by decide) Try.underlying49 Try.sizeOf5 rfl) ?_
  refine WT.q rfl (Wn.no rfl) rfl rfl (fun wq hS => R.sliceA (b := b_1) (off := 0) (off' := 8) (l := 8) (h := 40) rfl (EvB.it (l := 8) rfl rfl) (EvB.it (l := 40) rfl rfl) (by decide) (by decide) Try.underlying53 Try.sizeOf5 rfl) ?_
  refine WT.s ?_
  refine Op1.one rfl (Wn.no rfl) ?_
  refine WL.copy (q := 32) (i := 0) (ys := ((g.drop 8).take 32).map vu8) (cs' := ((g.drop 8).take 32).map vu8) h_17 rfl rfl Try.underlying90 Try.sizeOf5 (viewPart 8 32 (h_17.ok _ (.tail _ (.tail _ (.head _)))) Sg.h) (len_map (by simp only [List.length_take, List.length_drop, hg]; first | decide | omega)) (one_u8 _) At.h (by decide) Sg.h rfl (by decide) (by rw [len_map (List.length_replicate ..)]; decide) (cpAll (by simp only [List.length_take, List.length_drop, hg]; first | decide | omega) (List.length_replicate ..)) rfl (fun w_19 h_20 => ?_)
  refine WL.nil ?_
  refine ⟨(SL.cons (h_20.ok _ (.tail _ (.head _))) (SL.cons (h_20.ok _ (.tail _ (.tail _ (.head _)))) (SL.nil _ _))), ?_⟩
  refine WT.nil ?_
  refine thn_n ?_
  refine WP.seq ?_
  refine WP.seq ?_
  refine WP.drawT (SL w.heap.size [.blk b_11 .nw 51 [(32, ((g.drop 8).take 32).map vu8), (1, [(vu64 (wordB g 5))])], .blk b_4 .nw 51 [(32, (List.replicate 32 (0 : UInt8)).map vu8), (1, [(vu64 0)])], .blk b_1 .nw 53 [(128, g.map vu8)]]) (.q 0 (.s 1 (.q 2 (.q 3 (.q 4 (.q 6 (.s 5 (.q 7 (.q 8 .nil))))))))) (by kernel_rfl) (by kernel_rfl) rfl (by kernel_rfl) (fun w_21 hc_23 => (SL.cons ((h_20.same hc_23).ok _ (.head _)) (SL.cons ((h_20.same hc_23).ok _ (.tail _ (.head _))) (SL.cons ((h_20.same hc_23).ok _ (.tail _ (.tail _ (.head _)))) (SL.nil _ _))))) (fun w_21 hc_23 => ?_)
  have h_22 := h_20.same hc_23
  refine WT.q rfl (Wn.no rfl) rfl rfl (fun wq hS => R.loadA (b := b_11) (off := 0) [] [(32, ((g.drop 8).take 32).map vu8), (1, [(vu64 (wordB g 5))])] [] (cs := flat [(32, ((g.drop 8).take 32).map vu8), (1, [(vu64 (wordB g 5))])]) rfl Try.isAgg51 Try.sizeOf51 (hS _ (.head _)) rfl rfl rfl rfl) ?_
  refine WT.s ?_
  refine Op1.one rfl (Wn.no rfl) ?_
  refine WL.call (al := [(.agg ⟨flat [(32, ((g.drop 8).take 32).map vu8), (1, [(vu64 (wordB g 5))])]⟩)]) Try.call20 rfl rfl (c_MayRealmR ((g.drop 8).take 32) (by simp only [List.length_take, List.length_drop, hg]; first | decide | omega) (wordB g 5) _ ) rfl ?_
  rintro _ w_25 ⟨rfl, hc_24⟩
  have h_26 := h_22.same hc_24
  refine WL.nil ?_
  refine ⟨(SL.cons (h_26.ok _ (.head _)) (SL.cons (h_26.ok _ (.tail _ (.head _))) (SL.cons (h_26.ok _ (.tail _ (.tail _ (.head _)))) (SL.nil _ _)))), ?_⟩
  refine WT.q rfl (Wn.no rfl) rfl rfl (fun wq hS => R.not (b := mayRealm (wordB g 5)) rfl) ?_
  refine WT.q rfl (Wn.no rfl) rfl rfl (fun wq hS => R.move (v := (.bool (!(mayRealm (wordB g 5))))) rfl) ?_
  rcases Bool.eq_false_or_eq_true (!(mayRealm (wordB g 5))) with c_27 | c_27
  · refine WT.skipQ rfl rfl rfl (boolNe (v := .bool true) (congrArg Value.bool c_27) (by decide)) rfl rfl ?_
    refine WT.skipQ rfl rfl rfl (boolNe (v := .bool true) (congrArg Value.bool c_27) (by decide)) rfl rfl ?_
    refine WT.s ?_
    refine Op1.skip rfl rfl rfl (boolNe (v := .bool true) (congrArg Value.bool c_27) (by decide)) rfl rfl ?_
    refine WT.skipQ rfl rfl rfl (boolNe (v := .bool true) (congrArg Value.bool c_27) (by decide)) rfl rfl ?_
    refine WT.q rfl (Wn.no rfl) rfl rfl (fun wq hS => R.pickT (v := (.bool true)) (congrArg Value.bool c_27) rfl) ?_
    refine WT.nil ?_
    refine thn_n ?_
    refine WP.condT rfl ?_
    refine WP.seq ?_
    refine WP.reg ?_
    refine WL.q (Wn.no rfl) rfl rfl (R.buildS (pl := [(0, 32), (32, 1)]) (zs := [(32, (List.replicate 32 (0 : UInt8)).map vu8), (1, [(vu64 0)])]) (vs := []) (out := [(32, (List.replicate 32 (0 : UInt8)).map vu8), (1, [(vu64 0)])]) (cs := flat [(32, (List.replicate 32 (0 : UInt8)).map vu8), (1, [(vu64 0)])]) Try.underlying51 (zv Try.typeInfo51 rfl) rfl (SsOk.cons (SOk.u8 (List.length_replicate ..)) (SsOk.cons (SOk.v rfl) SsOk.nil)) (pl51 _ Try.underlying51) rfl FillR.nil rfl) ?_
    refine WL.storeA (b := b_4) (off := 0) [] [(32, (List.replicate 32 (0 : UInt8)).map vu8), (1, [(vu64 0)])] [(32, (List.replicate 32 (0 : UInt8)).map vu8), (1, [(vu64 0)])] [] (ys := flat [(32, (List.replicate 32 (0 : UInt8)).map vu8), (1, [(vu64 0)])]) h_26 rfl rfl Try.sizeOf51 (At.t At.h) (by decide) rfl rfl rfl rfl rfl rfl (SsOk.cons (SOk.u8 (List.length_replicate ..)) (SsOk.cons (SOk.v rfl) SsOk.nil)) (fun w_29 h_30 => ?_)
    refine WL.q (Wn.no rfl) rfl rfl (R.assign (v := (.bool false)) rfl) ?_
    refine WL.nil ?_
    refine thn_n ?_
    refine WP.ret ?_
    refine thn_r ?_
    refine ret_of Try.results33 (RV.cell rfl (h_30.loadA (cs := flat [(32, (List.replicate 32 (0 : UInt8)).map vu8), (1, [(vu64 0)])]) Try.isAgg51 Try.sizeOf51 (.tail _ (.head _)) rfl rfl) (RV.tmp (v := (.bool false)) rfl RV.nil)) ?_
    exfalso
    simp_all [okRealm, rlV]
  · refine WT.q rfl (Wn.yes rfl rfl (congrArg Value.bool c_27)) rfl rfl (fun wq hS => R.loadA (b := b_11) (off := 0) [] [(32, ((g.drop 8).take 32).map vu8), (1, [(vu64 (wordB g 5))])] [] (cs := flat [(32, ((g.drop 8).take 32).map vu8), (1, [(vu64 (wordB g 5))])]) rfl Try.isAgg51 Try.sizeOf51 (hS _ (.head _)) rfl rfl rfl rfl) ?_
    refine WT.q rfl (Wn.yes rfl rfl (congrArg Value.bool c_27)) rfl rfl (fun wq hS => R.loadA (b := b_1) (off := 0) [] [(128, g.map vu8)] [] (cs := g.map vu8) rfl Try.isAgg53 Try.sizeOf53 (hS _ (.tail _ (.tail _ (.head _)))) rfl rfl rfl rfl) ?_
    refine WT.s ?_
    refine Op1.one rfl (Wn.yes rfl rfl (congrArg Value.bool c_27)) ?_
    refine WL.call (al := [(.agg ⟨flat [(32, ((g.drop 8).take 32).map vu8), (1, [(vu64 (wordB g 5))])]⟩)]) Try.call23 rfl rfl (c_RealmBytesR ((g.drop 8).take 32) (by simp only [List.length_take, List.length_drop, hg]; first | decide | omega) (wordB g 5) _ ) rfl ?_
    rintro _ w_32 ⟨rfl, hc_31⟩
    have h_33 := h_26.same hc_31
    refine WL.nil ?_
    refine ⟨(SL.cons (h_33.ok _ (.head _)) (SL.cons (h_33.ok _ (.tail _ (.head _))) (SL.cons (h_33.ok _ (.tail _ (.tail _ (.head _)))) (SL.nil _ _)))), ?_⟩
    refine WT.q rfl (Wn.yes rfl rfl (congrArg Value.bool c_27)) rfl rfl (fun wq hS => R.neA (xs := (realmB ((g.drop 8).take 32) (wordB g 5)).map vu8) (ys := g.map vu8) (r := !decide (realmB ((g.drop 8).take 32) (wordB g 5) = g)) rfl rfl Try.eqGuardType53 kt53 (by decide) ag53 (Typ.u8s Try.underlying53 ce53 Try.underlying5 ce5 (realmB_len (by simp only [List.length_take, List.length_drop, hg]; first | decide | omega))) (Typ.u8s Try.underlying53 ce53 Try.underlying5 ce5 hg) (map_inj_u8.trans (decN _))) ?_
    refine WT.q rfl (Wn.no rfl) rfl rfl (fun wq hS => R.pickF (v := (.bool (!decide (realmB ((g.drop 8).take 32) (wordB g 5) = g)))) (congrArg Value.bool c_27) rfl) ?_
    refine WT.nil ?_
    refine thn_n ?_
    refine WP.cond (b := !decide (realmB ((g.drop 8).take 32) (wordB g 5) = g)) rfl (fun c_34 => ?_) (fun c_34 => ?_)
    · refine WP.seq ?_
      refine WP.reg ?_
      refine WL.q (Wn.no rfl) rfl rfl (R.buildS (pl := [(0, 32), (32, 1)]) (zs := [(32, (List.replicate 32 (0 : UInt8)).map vu8), (1, [(vu64 0)])]) (vs := []) (out := [(32, (List.replicate 32 (0 : UInt8)).map vu8), (1, [(vu64 0)])]) (cs := flat [(32, (List.replicate 32 (0 : UInt8)).map vu8), (1, [(vu64 0)])]) Try.underlying51 (zv Try.typeInfo51 rfl) rfl (SsOk.cons (SOk.u8 (List.length_replicate ..)) (SsOk.cons (SOk.v rfl) SsOk.nil)) (pl51 _ Try.underlying51) rfl FillR.nil rfl) ?_
      refine WL.storeA (b := b_4) (off := 0) [] [(32, (List.replicate 32 (0 : UInt8)).map vu8), (1, [(vu64 0)])] [(32, (List.replicate 32 (0 : UInt8)).map vu8), (1, [(vu64 0)])] [] (ys := flat [(32, (List.replicate 32 (0 : UInt8)).map vu8), (1, [(vu64 0)])]) h_33 rfl rfl Try.sizeOf51 (At.t At.h) (by decide) rfl rfl rfl rfl rfl rfl (SsOk.cons (SOk.u8 (List.length_replicate ..)) (SsOk.cons (SOk.v rfl) SsOk.nil)) (fun w_36 h_37 => ?_)
      refine WL.q (Wn.no rfl) rfl rfl (R.assign (v := (.bool false)) rfl) ?_
      refine WL.nil ?_
      refine thn_n ?_
      refine WP.ret ?_
      refine thn_r ?_
      refine ret_of Try.results33 (RV.cell rfl (h_37.loadA (cs := flat [(32, (List.replicate 32 (0 : UInt8)).map vu8), (1, [(vu64 0)])]) Try.isAgg51 Try.sizeOf51 (.tail _ (.head _)) rfl rfl) (RV.tmp (v := (.bool false)) rfl RV.nil)) ?_
      exfalso
      simp_all [okRealm, rlV]
    · refine WP.skip ?_
      refine thn_n ?_
      refine WP.seq ?_
      refine WP.reg ?_
      refine WL.q (Wn.no rfl) rfl rfl (R.loadA (b := b_11) (off := 0) [] [(32, ((g.drop 8).take 32).map vu8), (1, [(vu64 (wordB g 5))])] [] (cs := flat [(32, ((g.drop 8).take 32).map vu8), (1, [(vu64 (wordB g 5))])]) rfl Try.isAgg51 Try.sizeOf51 (h_33.ok _ (.head _)) rfl rfl rfl rfl) ?_
      refine WL.storeA (b := b_4) (off := 0) [] [(32, (List.replicate 32 (0 : UInt8)).map vu8), (1, [(vu64 0)])] [(32, ((g.drop 8).take 32).map vu8), (1, [(vu64 (wordB g 5))])] [] (ys := flat [(32, ((g.drop 8).take 32).map vu8), (1, [(vu64 (wordB g 5))])]) h_33 rfl rfl Try.sizeOf51 (At.t At.h) (by decide) rfl rfl rfl rfl rfl rfl (SsOk.cons (SOk.u8 (by simp only [List.length_take, List.length_drop, hg]; first | decide | omega)) (SsOk.cons (SOk.v rfl) SsOk.nil)) (fun w_38 h_39 => ?_)
      refine WL.q (Wn.no rfl) rfl rfl (R.assign (v := (.bool true)) rfl) ?_
      refine WL.nil ?_
      refine thn_n ?_
      refine WP.ret ?_
      refine ret_of Try.results33 (RV.cell rfl (h_39.loadA (cs := flat [(32, ((g.drop 8).take 32).map vu8), (1, [(vu64 (wordB g 5))])]) Try.isAgg51 Try.sizeOf51 (.tail _ (.head _)) rfl rfl) (RV.tmp (v := (.bool true)) rfl RV.nil)) ?_
      exact ⟨rfl, h_39.chgS⟩

theorem c_RealmR_f (g : List UInt8) (hg : g.length = 128) (h : okRealm g = false) (w : World) :
    Cs Try.prog 33 [(.agg ⟨g.map vu8⟩)].toArray w (fun v w1 => v = (.tuple [(.agg ⟨flat [(32, (List.replicate 32 (0 : UInt8)).map vu8), (1, [(vu64 0)])]⟩), (.bool false)].toArray) ∧ Chg w w1 []) := by
  refine Cs.of (n := 23) (args := [(.agg ⟨g.map vu8⟩)]) Try.func33 rfl rfl rfl ?_
  have h_0 := HP.init w
  refine WP.seq ?_
  refine WP.reg ?_
  refine WL.box (v := (.agg ⟨g.map vu8⟩)) (segs := [(128, g.map vu8)]) h_0 rfl rfl (SsOk.cons (SOk.u8 hg) SsOk.nil) rfl (fun b_1 w_2 h_3 => ?_)
  refine WL.alloc (segs := [(32, (List.replicate 32 (0 : UInt8)).map vu8), (1, [(vu64 0)])]) h_3 (zv Try.typeInfo51 rfl) rfl (SsOk.cons (SOk.u8 (List.length_replicate ..)) (SsOk.cons (SOk.v rfl) SsOk.nil)) rfl (fun b_4 w_5 h_6 => ?_)
  refine WL.q (Wn.no rfl) rfl rfl (R.assign (v := (.bool false)) rfl) ?_
  refine WL.nil ?_
  refine thn_n ?_
  refine WP.seq ?_
  refine WP.reg ?_
  refine WL.q (Wn.no rfl) rfl rfl (R.sliceA (b := b_1) (off := 0) (off' := 0) (l := 0) (h := 128) rfl EvB.dflt EvB.dflt (by decide) (by decide) Try.underlying53 Try.sizeOf5 rfl) ?_
  refine WL.call (al := [(.slice (some ⟨b_1, 0, none⟩) 128 128), (vi 5)]) Try.call51 rfl rfl (c_WordR (some ⟨b_1, 0, none⟩) 128 128 g hg 5 (by omega) _ (viewB (h_6.ok _ (.tail _ (.head _))) Sg.h)) rfl ?_
  rintro _ w_8 ⟨rfl, hc_7⟩
  have h_9 := h_6.same hc_7
  refine WL.q (Wn.no rfl) rfl rfl (R.buildS (pl := [(0, 32), (32, 1)]) (zs := [(32, (List.replicate 32 (0 : UInt8)).map vu8), (1, [(vu64 0)])]) (vs := [(1, (vu64 (wordB g 5)))]) (out := [(32, (List.replicate 32 (0 : UInt8)).map vu8), (1, [(vu64 (wordB g 5))])]) (cs := flat [(32, (List.replicate 32 (0 : UInt8)).map vu8), (1, [(vu64 (wordB g 5))])]) Try.underlying51 (zv Try.typeInfo51 rfl) rfl (SsOk.cons (SOk.u8 (List.length_replicate ..)) (SsOk.cons (SOk.v rfl) SsOk.nil)) (pl51 _ Try.underlying51) rfl (FillR.cons [(32, (List.replicate 32 (0 : UInt8)).map vu8)] [(1, [(vu64 0)])] [(1, [(vu64 (wordB g 5))])] [] rfl rfl rfl rfl (SsOk.cons (SOk.v rfl) SsOk.nil) rfl rfl rfl FillR.nil) rfl) ?_
  refine WL.alloc (segs := [(32, (List.replicate 32 (0 : UInt8)).map vu8), (1, [(vu64 0)])]) h_9 (zv Try.typeInfo51 rfl) rfl (SsOk.cons (SOk.u8 (List.length_replicate ..)) (SsOk.cons (SOk.v rfl) SsOk.nil)) rfl (fun b_11 w_12 h_13 => ?_)
  refine WL.storeA (b := b_11) (off := 0) [] [(32, (List.replicate 32 (0 : UInt8)).map vu8), (1, [(vu64 0)])] [(32, (List.replicate 32 (0 : UInt8)).map vu8), (1, [(vu64 (wordB g 5))])] [] (ys := flat [(32, (List.replicate 32 (0 : UInt8)).map vu8), (1, [(vu64 (wordB g 5))])]) h_13 rfl rfl Try.sizeOf51 At.h (by decide) rfl rfl rfl rfl rfl rfl (SsOk.cons (SOk.u8 (List.length_replicate ..)) (SsOk.cons (SOk.v rfl) SsOk.nil)) (fun w_14 h_15 => ?_)
  refine WL.nil ?_
  refine thn_n ?_
  refine WP.seq ?_
  refine WP.drawT (SL w.heap.size [.blk b_4 .nw 51 [(32, (List.replicate 32 (0 : UInt8)).map vu8), (1, [(vu64 0)])], .blk b_1 .nw 53 [(128, g.map vu8)]]) (.q 0 (.q 1 (.q 2 (.s 3 .nil)))) (by kernel_rfl) (by kernel_rfl) rfl (by kernel_rfl) (fun w_16 hc_18 => (SL.cons ((h_15.same hc_18).ok _ (.tail _ (.head _))) (SL.cons ((h_15.same hc_18).ok _ (.tail _ (.tail _ (.head _)))) (SL.nil _ _)))) (fun w_16 hc_18 => ?_)
  have h_17 := h_15.same hc_18
  refine WT.q rfl (Wn.no rfl) rfl rfl (fun wq hS => R.fieldAddr (b := b_11) (off := 0) (off' := 0) rfl Try.underlying51 rfl Try.sizeOf49 rfl rfl) ?_
  refine WT.q rfl (Wn.no rfl) rfl rfl (fun wq hS => R.sliceA (b := b_11) (off := 0) (off' := 0) (l := 0) (h := 32) rfl EvB.dflt EvB.dflt (by decide) (by decide) Try.underlying49 Try.sizeOf5 rfl) ?_
  refine WT.q rfl (Wn.no rfl) rfl rfl (fun wq hS => R.sliceA (b := b_1) (off := 0) (off' := 8) (l := 8) (h := 40) rfl (EvB.it (l := 8) rfl rfl) (EvB.it (l := 40) rfl rfl) (by decide) (by decide) Try.underlying53 Try.sizeOf5 rfl) ?_
  refine WT.s ?_
  refine Op1.one rfl (Wn.no rfl) ?_
  refine WL.copy (q := 32) (i := 0) (ys := ((g.drop 8).take 32).map vu8) (cs' := ((g.drop 8).take 32).map vu8) h_17 rfl rfl Try.underlying90 Try.sizeOf5 (viewPart 8 32 (h_17.ok _ (.tail _ (.tail _ (.head _)))) Sg.h) (len_map (by simp only [List.length_take, List.length_drop, hg]; first | decide | omega)) (one_u8 _) At.h (by decide) Sg.h rfl (by decide) (by rw [len_map (List.length_replicate ..)]; decide) (cpAll (by simp only [List.length_take, List.length_drop, hg]; first | decide | omega) (List.length_replicate ..)) rfl (fun w_19 h_20 => ?_)
  refine WL.nil ?_
  refine ⟨(SL.cons (h_20.ok _ (.tail _ (.head _))) (SL.cons (h_20.ok _ (.tail _ (.tail _ (.head _)))) (SL.nil _ _))), ?_⟩
  refine WT.nil ?_
  refine thn_n ?_
  refine WP.seq ?_
  refine WP.seq ?_
  refine WP.drawT (SL w.heap.size [.blk b_11 .nw 51 [(32, ((g.drop 8).take 32).map vu8), (1, [(vu64 (wordB g 5))])], .blk b_4 .nw 51 [(32, (List.replicate 32 (0 : UInt8)).map vu8), (1, [(vu64 0)])], .blk b_1 .nw 53 [(128, g.map vu8)]]) (.q 0 (.s 1 (.q 2 (.q 3 (.q 4 (.q 6 (.s 5 (.q 7 (.q 8 .nil))))))))) (by kernel_rfl) (by kernel_rfl) rfl (by kernel_rfl) (fun w_21 hc_23 => (SL.cons ((h_20.same hc_23).ok _ (.head _)) (SL.cons ((h_20.same hc_23).ok _ (.tail _ (.head _))) (SL.cons ((h_20.same hc_23).ok _ (.tail _ (.tail _ (.head _)))) (SL.nil _ _))))) (fun w_21 hc_23 => ?_)
  have h_22 := h_20.same hc_23
  refine WT.q rfl (Wn.no rfl) rfl rfl (fun wq hS => R.loadA (b := b_11) (off := 0) [] [(32, ((g.drop 8).take 32).map vu8), (1, [(vu64 (wordB g 5))])] [] (cs := flat [(32, ((g.drop 8).take 32).map vu8), (1, [(vu64 (wordB g 5))])]) rfl Try.isAgg51 Try.sizeOf51 (hS _ (.head _)) rfl rfl rfl rfl) ?_
  refine WT.s ?_
  refine Op1.one rfl (Wn.no rfl) ?_
  refine WL.call (al := [(.agg ⟨flat [(32, ((g.drop 8).take 32).map vu8), (1, [(vu64 (wordB g 5))])]⟩)]) Try.call20 rfl rfl (c_MayRealmR ((g.drop 8).take 32) (by simp only [List.length_take, List.length_drop, hg]; first | decide | omega) (wordB g 5) _ ) rfl ?_
  rintro _ w_25 ⟨rfl, hc_24⟩
  have h_26 := h_22.same hc_24
  refine WL.nil ?_
  refine ⟨(SL.cons (h_26.ok _ (.head _)) (SL.cons (h_26.ok _ (.tail _ (.head _))) (SL.cons (h_26.ok _ (.tail _ (.tail _ (.head _)))) (SL.nil _ _)))), ?_⟩
  refine WT.q rfl (Wn.no rfl) rfl rfl (fun wq hS => R.not (b := mayRealm (wordB g 5)) rfl) ?_
  refine WT.q rfl (Wn.no rfl) rfl rfl (fun wq hS => R.move (v := (.bool (!(mayRealm (wordB g 5))))) rfl) ?_
  rcases Bool.eq_false_or_eq_true (!(mayRealm (wordB g 5))) with c_27 | c_27
  · refine WT.skipQ rfl rfl rfl (boolNe (v := .bool true) (congrArg Value.bool c_27) (by decide)) rfl rfl ?_
    refine WT.skipQ rfl rfl rfl (boolNe (v := .bool true) (congrArg Value.bool c_27) (by decide)) rfl rfl ?_
    refine WT.s ?_
    refine Op1.skip rfl rfl rfl (boolNe (v := .bool true) (congrArg Value.bool c_27) (by decide)) rfl rfl ?_
    refine WT.skipQ rfl rfl rfl (boolNe (v := .bool true) (congrArg Value.bool c_27) (by decide)) rfl rfl ?_
    refine WT.q rfl (Wn.no rfl) rfl rfl (fun wq hS => R.pickT (v := (.bool true)) (congrArg Value.bool c_27) rfl) ?_
    refine WT.nil ?_
    refine thn_n ?_
    refine WP.condT rfl ?_
    refine WP.seq ?_
    refine WP.reg ?_
    refine WL.q (Wn.no rfl) rfl rfl (R.buildS (pl := [(0, 32), (32, 1)]) (zs := [(32, (List.replicate 32 (0 : UInt8)).map vu8), (1, [(vu64 0)])]) (vs := []) (out := [(32, (List.replicate 32 (0 : UInt8)).map vu8), (1, [(vu64 0)])]) (cs := flat [(32, (List.replicate 32 (0 : UInt8)).map vu8), (1, [(vu64 0)])]) Try.underlying51 (zv Try.typeInfo51 rfl) rfl (SsOk.cons (SOk.u8 (List.length_replicate ..)) (SsOk.cons (SOk.v rfl) SsOk.nil)) (pl51 _ Try.underlying51) rfl FillR.nil rfl) ?_
    refine WL.storeA (b := b_4) (off := 0) [] [(32, (List.replicate 32 (0 : UInt8)).map vu8), (1, [(vu64 0)])] [(32, (List.replicate 32 (0 : UInt8)).map vu8), (1, [(vu64 0)])] [] (ys := flat [(32, (List.replicate 32 (0 : UInt8)).map vu8), (1, [(vu64 0)])]) h_26 rfl rfl Try.sizeOf51 (At.t At.h) (by decide) rfl rfl rfl rfl rfl rfl (SsOk.cons (SOk.u8 (List.length_replicate ..)) (SsOk.cons (SOk.v rfl) SsOk.nil)) (fun w_29 h_30 => ?_)
    refine WL.q (Wn.no rfl) rfl rfl (R.assign (v := (.bool false)) rfl) ?_
    refine WL.nil ?_
    refine thn_n ?_
    refine WP.ret ?_
    refine thn_r ?_
    refine ret_of Try.results33 (RV.cell rfl (h_30.loadA (cs := flat [(32, (List.replicate 32 (0 : UInt8)).map vu8), (1, [(vu64 0)])]) Try.isAgg51 Try.sizeOf51 (.tail _ (.head _)) rfl rfl) (RV.tmp (v := (.bool false)) rfl RV.nil)) ?_
    exact ⟨rfl, h_30.chgS⟩
  · refine WT.q rfl (Wn.yes rfl rfl (congrArg Value.bool c_27)) rfl rfl (fun wq hS => R.loadA (b := b_11) (off := 0) [] [(32, ((g.drop 8).take 32).map vu8), (1, [(vu64 (wordB g 5))])] [] (cs := flat [(32, ((g.drop 8).take 32).map vu8), (1, [(vu64 (wordB g 5))])]) rfl Try.isAgg51 Try.sizeOf51 (hS _ (.head _)) rfl rfl rfl rfl) ?_
    refine WT.q rfl (Wn.yes rfl rfl (congrArg Value.bool c_27)) rfl rfl (fun wq hS => R.loadA (b := b_1) (off := 0) [] [(128, g.map vu8)] [] (cs := g.map vu8) rfl Try.isAgg53 Try.sizeOf53 (hS _ (.tail _ (.tail _ (.head _)))) rfl rfl rfl rfl) ?_
    refine WT.s ?_
    refine Op1.one rfl (Wn.yes rfl rfl (congrArg Value.bool c_27)) ?_
    refine WL.call (al := [(.agg ⟨flat [(32, ((g.drop 8).take 32).map vu8), (1, [(vu64 (wordB g 5))])]⟩)]) Try.call23 rfl rfl (c_RealmBytesR ((g.drop 8).take 32) (by simp only [List.length_take, List.length_drop, hg]; first | decide | omega) (wordB g 5) _ ) rfl ?_
    rintro _ w_32 ⟨rfl, hc_31⟩
    have h_33 := h_26.same hc_31
    refine WL.nil ?_
    refine ⟨(SL.cons (h_33.ok _ (.head _)) (SL.cons (h_33.ok _ (.tail _ (.head _))) (SL.cons (h_33.ok _ (.tail _ (.tail _ (.head _)))) (SL.nil _ _)))), ?_⟩
    refine WT.q rfl (Wn.yes rfl rfl (congrArg Value.bool c_27)) rfl rfl (fun wq hS => R.neA (xs := (realmB ((g.drop 8).take 32) (wordB g 5)).map vu8) (ys := g.map vu8) (r := !decide (realmB ((g.drop 8).take 32) (wordB g 5) = g)) rfl rfl Try.eqGuardType53 kt53 (by decide) ag53 (Typ.u8s Try.underlying53 ce53 Try.underlying5 ce5 (realmB_len (by simp only [List.length_take, List.length_drop, hg]; first | decide | omega))) (Typ.u8s Try.underlying53 ce53 Try.underlying5 ce5 hg) (map_inj_u8.trans (decN _))) ?_
    refine WT.q rfl (Wn.no rfl) rfl rfl (fun wq hS => R.pickF (v := (.bool (!decide (realmB ((g.drop 8).take 32) (wordB g 5) = g)))) (congrArg Value.bool c_27) rfl) ?_
    refine WT.nil ?_
    refine thn_n ?_
    refine WP.cond (b := !decide (realmB ((g.drop 8).take 32) (wordB g 5) = g)) rfl (fun c_34 => ?_) (fun c_34 => ?_)
    · refine WP.seq ?_
      refine WP.reg ?_
      refine WL.q (Wn.no rfl) rfl rfl (R.buildS (pl := [(0, 32), (32, 1)]) (zs := [(32, (List.replicate 32 (0 : UInt8)).map vu8), (1, [(vu64 0)])]) (vs := []) (out := [(32, (List.replicate 32 (0 : UInt8)).map vu8), (1, [(vu64 0)])]) (cs := flat [(32, (List.replicate 32 (0 : UInt8)).map vu8), (1, [(vu64 0)])]) Try.underlying51 (zv Try.typeInfo51 rfl) rfl (SsOk.cons (SOk.u8 (List.length_replicate ..)) (SsOk.cons (SOk.v rfl) SsOk.nil)) (pl51 _ Try.underlying51) rfl FillR.nil rfl) ?_
      refine WL.storeA (b := b_4) (off := 0) [] [(32, (List.replicate 32 (0 : UInt8)).map vu8), (1, [(vu64 0)])] [(32, (List.replicate 32 (0 : UInt8)).map vu8), (1, [(vu64 0)])] [] (ys := flat [(32, (List.replicate 32 (0 : UInt8)).map vu8), (1, [(vu64 0)])]) h_33 rfl rfl Try.sizeOf51 (At.t At.h) (by decide) rfl rfl rfl rfl rfl rfl (SsOk.cons (SOk.u8 (List.length_replicate ..)) (SsOk.cons (SOk.v rfl) SsOk.nil)) (fun w_36 h_37 => ?_)
      refine WL.q (Wn.no rfl) rfl rfl (R.assign (v := (.bool false)) rfl) ?_
      refine WL.nil ?_
      refine thn_n ?_
      refine WP.ret ?_
      refine thn_r ?_
      refine ret_of Try.results33 (RV.cell rfl (h_37.loadA (cs := flat [(32, (List.replicate 32 (0 : UInt8)).map vu8), (1, [(vu64 0)])]) Try.isAgg51 Try.sizeOf51 (.tail _ (.head _)) rfl rfl) (RV.tmp (v := (.bool false)) rfl RV.nil)) ?_
      exact ⟨rfl, h_37.chgS⟩
    · refine WP.skip ?_
      refine thn_n ?_
      refine WP.seq ?_
      refine WP.reg ?_
      refine WL.q (Wn.no rfl) rfl rfl (R.loadA (b := b_11) (off := 0) [] [(32, ((g.drop 8).take 32).map vu8), (1, [(vu64 (wordB g 5))])] [] (cs := flat [(32, ((g.drop 8).take 32).map vu8), (1, [(vu64 (wordB g 5))])]) rfl Try.isAgg51 Try.sizeOf51 (h_33.ok _ (.head _)) rfl rfl rfl rfl) ?_
      refine WL.storeA (b := b_4) (off := 0) [] [(32, (List.replicate 32 (0 : UInt8)).map vu8), (1, [(vu64 0)])] [(32, ((g.drop 8).take 32).map vu8), (1, [(vu64 (wordB g 5))])] [] (ys := flat [(32, ((g.drop 8).take 32).map vu8), (1, [(vu64 (wordB g 5))])]) h_33 rfl rfl Try.sizeOf51 (At.t At.h) (by decide) rfl rfl rfl rfl rfl rfl (SsOk.cons (SOk.u8 (by simp only [List.length_take, List.length_drop, hg]; first | decide | omega)) (SsOk.cons (SOk.v rfl) SsOk.nil)) (fun w_38 h_39 => ?_)
      refine WL.q (Wn.no rfl) rfl rfl (R.assign (v := (.bool true)) rfl) ?_
      refine WL.nil ?_
      refine thn_n ?_
      refine WP.ret ?_
      refine ret_of Try.results33 (RV.cell rfl (h_39.loadA (cs := flat [(32, ((g.drop 8).take 32).map vu8), (1, [(vu64 (wordB g 5))])]) Try.isAgg51 Try.sizeOf51 (.tail _ (.head _)) rfl rfl) (RV.tmp (v := (.bool true)) rfl RV.nil)) ?_
      exfalso
      simp_all [okRealm, rlV]

theorem c_RecR_t (g : List UInt8) (hg : g.length = 128) (h : okRec g = true) (w : World) :
    Cs Try.prog 34 [(.agg ⟨g.map vu8⟩)].toArray w (fun v w1 => v = (.tuple [(.agg ⟨flat [(1, [(vu64 (wordB g 1))]), (8, (rcR g).map vu64), (1, [(.bool (decide (g.getD 80 0 = 1)))])]⟩), (.bool true)].toArray) ∧ Chg w w1 []) := by
  refine Cs.of (n := 34) (args := [(.agg ⟨g.map vu8⟩)]) Try.func34 rfl rfl rfl ?_
  have h_0 := HP.init w
  refine WP.seq ?_
  refine WP.reg ?_
  refine WL.box (v := (.agg ⟨g.map vu8⟩)) (segs := [(128, g.map vu8)]) h_0 rfl rfl (SsOk.cons (SOk.u8 hg) SsOk.nil) rfl (fun b_1 w_2 h_3 => ?_)
  refine WL.alloc (segs := [(1, [(vu64 0)]), (8, (List.replicate 8 (0 : UInt64)).map vu64), (1, [(.bool false)])]) h_3 (zv Try.typeInfo45 rfl) rfl (SsOk.cons (SOk.v rfl) (SsOk.cons (SOk.u64 (List.length_replicate ..)) (SsOk.cons (SOk.v rfl) SsOk.nil))) rfl (fun b_4 w_5 h_6 => ?_)
  refine WL.q (Wn.no rfl) rfl rfl (R.assign (v := (.bool false)) rfl) ?_
  refine WL.nil ?_
  refine thn_n ?_
  refine WP.seq ?_
  refine WP.cutG (G := Nat) [4, 6, 7, 8, 9, 10, 11] (fun bY1Y6Y0Y0 => [(6, (.slice (some ⟨b_1, 0, none⟩) 128 128)), (8, (.pointer (some ⟨b_1, 80, none⟩))), (9, (vu8 (g.getD 80 0))), (10, (.bool (decide ((g.getD 80 0 : UInt8) = 1)))), (7, (vu64 (wordB g 1))), (11, (.agg ⟨flat [(1, [(vu64 (wordB g 1))]), (8, (List.replicate 8 (0 : UInt64)).map vu64), (1, [(.bool (decide ((g.getD 80 0 : UInt8) = 1)))])]⟩)), (4, (.pointer (some ⟨bY1Y6Y0Y0, 0, none⟩)))]) (fun bY1Y6Y0Y0 w1 => HP w w1 [.blk bY1Y6Y0Y0 .nw 45 [(1, [(vu64 (wordB g 1))]), (8, (List.replicate 8 (0 : UInt64)).map vu64), (1, [(.bool (decide ((g.getD 80 0 : UInt8) = 1)))])], .blk b_4 .nw 45 [(1, [(vu64 0)]), (8, (List.replicate 8 (0 : UInt64)).map vu64), (1, [(.bool false)])], .blk b_1 .nw 53 [(128, g.map vu8)]]) ?_ ?_
  · refine WP.drawT (SL w.heap.size [.blk b_4 .nw 45 [(1, [(vu64 0)]), (8, (List.replicate 8 (0 : UInt64)).map vu64), (1, [(.bool false)])], .blk b_1 .nw 53 [(128, g.map vu8)]]) (.q 0 (.q 2 (.q 3 (.q 4 (.s2 1 6 (.q 5 (.s 6 (.s 7 .nil))) (.s 1 (.q 5 (.s 7 .nil)))))))) (by kernel_rfl) (by kernel_rfl) rfl (by kernel_rfl) (fun w_7 hc_9 => (SL.cons ((h_6.same hc_9).ok _ (.head _)) (SL.cons ((h_6.same hc_9).ok _ (.tail _ (.head _))) (SL.nil _ _)))) (fun w_7 hc_9 => ?_)
    have h_8 := h_6.same hc_9
    refine WT.q rfl (Wn.no rfl) rfl rfl (fun wq hS => R.sliceA (b := b_1) (off := 0) (off' := 0) (l := 0) (h := 128) rfl EvB.dflt EvB.dflt (by decide) (by decide) Try.underlying53 Try.sizeOf5 rfl) ?_
    refine WT.q rfl (Wn.no rfl) rfl rfl (fun wq hS => R.indexA (b := b_1) (off := 0) (off' := 80) (i := 80) rfl rfl rfl (by decide) Try.underlying53 Try.sizeOf5 rfl) ?_
    refine WT.q rfl (Wn.no rfl) rfl rfl (fun wq hS => R.loadE (b := b_1) (off := 80) (i := 80) (v := (vu8 (g.getD 80 0))) rfl Try.isAgg5 (hS _ (.tail _ (.head _))) Sg.h rfl (get_u8 (lt_len (K := 128) hg (by decide)))) ?_
    refine WT.q rfl (Wn.no rfl) rfl rfl (fun wq hS => R.bin (v := (.bool (decide ((g.getD 80 0 : UInt8) = 1)))) rfl rfl (b8_eql (g.getD 80 0) 1 (r := decide ((g.getD 80 0 : UInt8) = 1)) rfl)) ?_
    refine WT.s2 ?_ ?_
    · refine Op1.one rfl (Wn.no rfl) ?_
      refine WL.call (al := [(.slice (some ⟨b_1, 0, none⟩) 128 128), (vi 1)]) Try.call51 rfl rfl (c_WordR (some ⟨b_1, 0, none⟩) 128 128 g hg 1 (by omega) _ (viewB (h_8.ok _ (.tail _ (.head _))) Sg.h)) rfl ?_
      rintro _ w_11 ⟨rfl, hc_10⟩
      have h_12 := h_8.same hc_10
      refine WL.nil ?_
      refine ⟨(SL.cons (h_12.ok _ (.head _)) (SL.cons (h_12.ok _ (.tail _ (.head _))) (SL.nil _ _))), ?_⟩
      refine WT.q rfl (Wn.no rfl) rfl rfl (fun wq hS => R.buildS (pl := [(0, 1), (1, 8), (9, 1)]) (zs := [(1, [(vu64 0)]), (8, (List.replicate 8 (0 : UInt64)).map vu64), (1, [(.bool false)])]) (vs := [(0, (vu64 (wordB g 1))), (2, (.bool (decide ((g.getD 80 0 : UInt8) = 1))))]) (out := [(1, [(vu64 (wordB g 1))]), (8, (List.replicate 8 (0 : UInt64)).map vu64), (1, [(.bool (decide ((g.getD 80 0 : UInt8) = 1)))])]) (cs := flat [(1, [(vu64 (wordB g 1))]), (8, (List.replicate 8 (0 : UInt64)).map vu64), (1, [(.bool (decide ((g.getD 80 0 : UInt8) = 1)))])]) Try.underlying45 (zv Try.typeInfo45 rfl) rfl (SsOk.cons (SOk.v rfl) (SsOk.cons (SOk.u64 (List.length_replicate ..)) (SsOk.cons (SOk.v rfl) SsOk.nil))) (pl45 _ Try.underlying45) rfl (FillR.cons [] [(1, [(vu64 0)])] [(1, [(vu64 (wordB g 1))])] [(8, (List.replicate 8 (0 : UInt64)).map vu64), (1, [(.bool false)])] rfl rfl rfl rfl (SsOk.cons (SOk.v rfl) SsOk.nil) rfl rfl rfl (FillR.cons [(1, [(vu64 (wordB g 1))]), (8, (List.replicate 8 (0 : UInt64)).map vu64)] [(1, [(.bool false)])] [(1, [(.bool (decide ((g.getD 80 0 : UInt8) = 1)))])] [] rfl rfl rfl rfl (SsOk.cons (SOk.v rfl) SsOk.nil) rfl rfl rfl FillR.nil)) rfl) ?_
      refine WT.s ?_
      refine Op1.one rfl (Wn.no rfl) ?_
      refine WL.alloc (segs := [(1, [(vu64 0)]), (8, (List.replicate 8 (0 : UInt64)).map vu64), (1, [(.bool false)])]) h_12 (zv Try.typeInfo45 rfl) rfl (SsOk.cons (SOk.v rfl) (SsOk.cons (SOk.u64 (List.length_replicate ..)) (SsOk.cons (SOk.v rfl) SsOk.nil))) rfl (fun b_14 w_15 h_16 => ?_)
      refine WL.nil ?_
      refine ⟨(SL.cons (h_16.ok _ (.tail _ (.head _))) (SL.cons (h_16.ok _ (.tail _ (.tail _ (.head _)))) (SL.nil _ _))), ?_⟩
      refine WT.s ?_
      refine Op1.one rfl (Wn.no rfl) ?_
      refine WL.storeA (b := b_14) (off := 0) [] [(1, [(vu64 0)]), (8, (List.replicate 8 (0 : UInt64)).map vu64), (1, [(.bool false)])] [(1, [(vu64 (wordB g 1))]), (8, (List.replicate 8 (0 : UInt64)).map vu64), (1, [(.bool (decide ((g.getD 80 0 : UInt8) = 1)))])] [] (ys := flat [(1, [(vu64 (wordB g 1))]), (8, (List.replicate 8 (0 : UInt64)).map vu64), (1, [(.bool (decide ((g.getD 80 0 : UInt8) = 1)))])]) h_16 rfl rfl Try.sizeOf45 At.h (by decide) rfl rfl rfl rfl rfl rfl (SsOk.cons (SOk.v rfl) (SsOk.cons (SOk.u64 (List.length_replicate ..)) (SsOk.cons (SOk.v rfl) SsOk.nil))) (fun w_17 h_18 => ?_)
      refine WL.nil ?_
      refine ⟨(SL.cons (h_18.ok _ (.tail _ (.head _))) (SL.cons (h_18.ok _ (.tail _ (.tail _ (.head _)))) (SL.nil _ _))), ?_⟩
      refine WT.nil ?_
      refine thn_n ?_
      exact ⟨b_14, (Ag.upd rfl (Ag.upd rfl (Ag.upd rfl (Ag.upd rfl (Ag.upd rfl (Ag.upd rfl (Ag.upd rfl (Ag.refl _ _)))))))), ⟨rfl, rfl, rfl, rfl, rfl, rfl, rfl, trivial⟩, h_18⟩
    · refine Op1.one rfl (Wn.no rfl) ?_
      refine WL.alloc (segs := [(1, [(vu64 0)]), (8, (List.replicate 8 (0 : UInt64)).map vu64), (1, [(.bool false)])]) h_8 (zv Try.typeInfo45 rfl) rfl (SsOk.cons (SOk.v rfl) (SsOk.cons (SOk.u64 (List.length_replicate ..)) (SsOk.cons (SOk.v rfl) SsOk.nil))) rfl (fun b_19 w_20 h_21 => ?_)
      refine WL.nil ?_
      refine ⟨(SL.cons (h_21.ok _ (.tail _ (.head _))) (SL.cons (h_21.ok _ (.tail _ (.tail _ (.head _)))) (SL.nil _ _))), ?_⟩
      refine WT.s ?_
      refine Op1.one rfl (Wn.no rfl) ?_
      refine WL.call (al := [(.slice (some ⟨b_1, 0, none⟩) 128 128), (vi 1)]) Try.call51 rfl rfl (c_WordR (some ⟨b_1, 0, none⟩) 128 128 g hg 1 (by omega) _ (viewB (h_21.ok _ (.tail _ (.tail _ (.head _)))) Sg.h)) rfl ?_
      rintro _ w_23 ⟨rfl, hc_22⟩
      have h_24 := h_21.same hc_22
      refine WL.nil ?_
      refine ⟨(SL.cons (h_24.ok _ (.tail _ (.head _))) (SL.cons (h_24.ok _ (.tail _ (.tail _ (.head _)))) (SL.nil _ _))), ?_⟩
      refine WT.q rfl (Wn.no rfl) rfl rfl (fun wq hS => R.buildS (pl := [(0, 1), (1, 8), (9, 1)]) (zs := [(1, [(vu64 0)]), (8, (List.replicate 8 (0 : UInt64)).map vu64), (1, [(.bool false)])]) (vs := [(0, (vu64 (wordB g 1))), (2, (.bool (decide ((g.getD 80 0 : UInt8) = 1))))]) (out := [(1, [(vu64 (wordB g 1))]), (8, (List.replicate 8 (0 : UInt64)).map vu64), (1, [(.bool (decide ((g.getD 80 0 : UInt8) = 1)))])]) (cs := flat [(1, [(vu64 (wordB g 1))]), (8, (List.replicate 8 (0 : UInt64)).map vu64), (1, [(.bool (decide ((g.getD 80 0 : UInt8) = 1)))])]) Try.underlying45 (zv Try.typeInfo45 rfl) rfl (SsOk.cons (SOk.v rfl) (SsOk.cons (SOk.u64 (List.length_replicate ..)) (SsOk.cons (SOk.v rfl) SsOk.nil))) (pl45 _ Try.underlying45) rfl (FillR.cons [] [(1, [(vu64 0)])] [(1, [(vu64 (wordB g 1))])] [(8, (List.replicate 8 (0 : UInt64)).map vu64), (1, [(.bool false)])] rfl rfl rfl rfl (SsOk.cons (SOk.v rfl) SsOk.nil) rfl rfl rfl (FillR.cons [(1, [(vu64 (wordB g 1))]), (8, (List.replicate 8 (0 : UInt64)).map vu64)] [(1, [(.bool false)])] [(1, [(.bool (decide ((g.getD 80 0 : UInt8) = 1)))])] [] rfl rfl rfl rfl (SsOk.cons (SOk.v rfl) SsOk.nil) rfl rfl rfl FillR.nil)) rfl) ?_
      refine WT.s ?_
      refine Op1.one rfl (Wn.no rfl) ?_
      refine WL.storeA (b := b_19) (off := 0) [] [(1, [(vu64 0)]), (8, (List.replicate 8 (0 : UInt64)).map vu64), (1, [(.bool false)])] [(1, [(vu64 (wordB g 1))]), (8, (List.replicate 8 (0 : UInt64)).map vu64), (1, [(.bool (decide ((g.getD 80 0 : UInt8) = 1)))])] [] (ys := flat [(1, [(vu64 (wordB g 1))]), (8, (List.replicate 8 (0 : UInt64)).map vu64), (1, [(.bool (decide ((g.getD 80 0 : UInt8) = 1)))])]) h_24 rfl rfl Try.sizeOf45 At.h (by decide) rfl rfl rfl rfl rfl rfl (SsOk.cons (SOk.v rfl) (SsOk.cons (SOk.u64 (List.length_replicate ..)) (SsOk.cons (SOk.v rfl) SsOk.nil))) (fun w_26 h_27 => ?_)
      refine WL.nil ?_
      refine ⟨(SL.cons (h_27.ok _ (.tail _ (.head _))) (SL.cons (h_27.ok _ (.tail _ (.tail _ (.head _)))) (SL.nil _ _))), ?_⟩
      refine WT.nil ?_
      refine thn_n ?_
      exact ⟨b_19, (Ag.upd rfl (Ag.upd rfl (Ag.upd rfl (Ag.upd rfl (Ag.upd rfl (Ag.upd rfl (Ag.upd rfl (Ag.refl _ _)))))))), ⟨rfl, rfl, rfl, rfl, rfl, rfl, rfl, trivial⟩, h_27⟩
  · rintro b_31 J_28 w_29 h_30
    refine thn_n ?_
    refine WP.seq ?_
    refine WP.seq ?_
    refine WP.reg ?_
    refine WL.q (Wn.no rfl) rfl rfl (R.assign (v := (vi 0)) rfl) ?_
    refine WL.nil ?_
    refine thn_n ?_
    refine WP.block ?_
    refine WP.loopU (WI.round ?_)
    refine WP.seq ?_
    refine WP.seq ?_
    refine WP.reg ?_
    refine WL.q (Wn.no rfl) rfl rfl (R.move (v := (vi 0)) rfl) ?_
    refine WL.q (Wn.no rfl) rfl rfl (R.bin (v := (.bool true)) rfl rfl (bi_lss (r := true) (by decide))) ?_
    refine WL.nil ?_
    refine thn_n ?_
    refine WP.condT rfl ?_
    refine WP.skip ?_
    refine thn_n ?_
    refine WP.seq ?_
    refine WP.block ?_
    refine WP.reg ?_
    refine WL.q (Wn.no rfl) rfl rfl (R.move (v := (vi 0)) rfl) ?_
    refine WL.q (Wn.no rfl) rfl rfl (R.sliceA (b := b_1) (off := 0) (off' := 0) (l := 0) (h := 128) rfl EvB.dflt EvB.dflt (by decide) (by decide) Try.underlying53 Try.sizeOf5 rfl) ?_
    refine WL.q (Wn.no rfl) rfl rfl (R.move (v := (vi 0)) rfl) ?_
    refine WL.q (Wn.no rfl) rfl rfl (R.bin (v := (vi 2)) rfl rfl (bi_add (c := 2) (by omega) (by omega))) ?_
    refine WL.call (al := [(.slice (some ⟨b_1, 0, none⟩) 128 128), (vi 2)]) Try.call51 rfl rfl (c_WordR (some ⟨b_1, 0, none⟩) 128 128 g hg 2 (by omega) _ (viewB (h_30.ok _ (.tail _ (.tail _ (.head _)))) Sg.h)) rfl ?_
    rintro _ w_33 ⟨rfl, hc_32⟩
    have h_34 := h_30.same hc_32
    refine WL.q (Wn.no rfl) rfl rfl (R.fieldAddr (b := b_31) (off := 0) (off' := 1) rfl Try.underlying45 rfl Try.sizeOf23 rfl rfl) ?_
    refine WL.q (Wn.no rfl) rfl rfl (R.indexA (b := b_31) (off := 1) (off' := 1) (i := 0) rfl rfl rfl (by decide) Try.underlying23 Try.sizeOf22 rfl) ?_
    refine WL.storeE (b := b_31) (off := 1) (i := 0) (v := (vu64 (wordB g 2))) (cs' := ([wordB g 2, 0, 0, 0, 0, 0, 0, 0] : List UInt64).map vu64) h_34 rfl rfl Try.sizeOf22 rfl At.h (by decide) (Sg.t rfl Sg.h) rfl (lt_len (K := 8) (len_map (List.length_replicate ..)) (by decide)) ((set_u64 _ _ _).trans rfl) (fun w_35 h_36 => ?_)
    refine WL.nil ?_
    refine inb_n ?_
    refine thn_n ?_
    refine WP.reg ?_
    refine WL.q (Wn.no rfl) rfl rfl (R.move (v := (vi 0)) rfl) ?_
    refine WL.q (Wn.no rfl) rfl rfl (R.bin (v := (vi 1)) rfl rfl (bi_add (c := 1) (by omega) (by omega))) ?_
    refine WL.q (Wn.no rfl) rfl rfl (R.assign (v := (vi 1)) rfl) ?_
    refine WL.nil ?_
    refine thn_n ?_
    refine WI.round ?_
    refine WP.seq ?_
    refine WP.seq ?_
    refine WP.reg ?_
    refine WL.q (Wn.no rfl) rfl rfl (R.move (v := (vi 1)) rfl) ?_
    refine WL.q (Wn.no rfl) rfl rfl (R.bin (v := (.bool true)) rfl rfl (bi_lss (r := true) (by decide))) ?_
    refine WL.nil ?_
    refine thn_n ?_
    refine WP.condT rfl ?_
    refine WP.skip ?_
    refine thn_n ?_
    refine WP.seq ?_
    refine WP.block ?_
    refine WP.reg ?_
    refine WL.q (Wn.no rfl) rfl rfl (R.move (v := (vi 1)) rfl) ?_
    refine WL.q (Wn.no rfl) rfl rfl (R.sliceA (b := b_1) (off := 0) (off' := 0) (l := 0) (h := 128) rfl EvB.dflt EvB.dflt (by decide) (by decide) Try.underlying53 Try.sizeOf5 rfl) ?_
    refine WL.q (Wn.no rfl) rfl rfl (R.move (v := (vi 1)) rfl) ?_
    refine WL.q (Wn.no rfl) rfl rfl (R.bin (v := (vi 3)) rfl rfl (bi_add (c := 3) (by omega) (by omega))) ?_
    refine WL.call (al := [(.slice (some ⟨b_1, 0, none⟩) 128 128), (vi 3)]) Try.call51 rfl rfl (c_WordR (some ⟨b_1, 0, none⟩) 128 128 g hg 3 (by omega) _ (viewB (h_36.ok _ (.tail _ (.tail _ (.head _)))) Sg.h)) rfl ?_
    rintro _ w_38 ⟨rfl, hc_37⟩
    have h_39 := h_36.same hc_37
    refine WL.q (Wn.no rfl) rfl rfl (R.fieldAddr (b := b_31) (off := 0) (off' := 1) rfl Try.underlying45 rfl Try.sizeOf23 rfl rfl) ?_
    refine WL.q (Wn.no rfl) rfl rfl (R.indexA (b := b_31) (off := 1) (off' := 2) (i := 1) rfl rfl rfl (by decide) Try.underlying23 Try.sizeOf22 rfl) ?_
    refine WL.storeE (b := b_31) (off := 2) (i := 1) (v := (vu64 (wordB g 3))) (cs' := ([wordB g 2, wordB g 3, 0, 0, 0, 0, 0, 0] : List UInt64).map vu64) h_39 rfl rfl Try.sizeOf22 rfl At.h (by decide) (Sg.t rfl Sg.h) rfl (lt_len (K := 8) (len_map (rfl : List.length ([wordB g 2, 0, 0, 0, 0, 0, 0, 0] : List UInt64) = 8)) (by decide)) ((set_u64 _ _ _).trans rfl) (fun w_40 h_41 => ?_)
    refine WL.nil ?_
    refine inb_n ?_
    refine thn_n ?_
    refine WP.reg ?_
    refine WL.q (Wn.no rfl) rfl rfl (R.move (v := (vi 1)) rfl) ?_
    refine WL.q (Wn.no rfl) rfl rfl (R.bin (v := (vi 2)) rfl rfl (bi_add (c := 2) (by omega) (by omega))) ?_
    refine WL.q (Wn.no rfl) rfl rfl (R.assign (v := (vi 2)) rfl) ?_
    refine WL.nil ?_
    refine thn_n ?_
    refine WI.round ?_
    refine WP.seq ?_
    refine WP.seq ?_
    refine WP.reg ?_
    refine WL.q (Wn.no rfl) rfl rfl (R.move (v := (vi 2)) rfl) ?_
    refine WL.q (Wn.no rfl) rfl rfl (R.bin (v := (.bool true)) rfl rfl (bi_lss (r := true) (by decide))) ?_
    refine WL.nil ?_
    refine thn_n ?_
    refine WP.condT rfl ?_
    refine WP.skip ?_
    refine thn_n ?_
    refine WP.seq ?_
    refine WP.block ?_
    refine WP.reg ?_
    refine WL.q (Wn.no rfl) rfl rfl (R.move (v := (vi 2)) rfl) ?_
    refine WL.q (Wn.no rfl) rfl rfl (R.sliceA (b := b_1) (off := 0) (off' := 0) (l := 0) (h := 128) rfl EvB.dflt EvB.dflt (by decide) (by decide) Try.underlying53 Try.sizeOf5 rfl) ?_
    refine WL.q (Wn.no rfl) rfl rfl (R.move (v := (vi 2)) rfl) ?_
    refine WL.q (Wn.no rfl) rfl rfl (R.bin (v := (vi 4)) rfl rfl (bi_add (c := 4) (by omega) (by omega))) ?_
    refine WL.call (al := [(.slice (some ⟨b_1, 0, none⟩) 128 128), (vi 4)]) Try.call51 rfl rfl (c_WordR (some ⟨b_1, 0, none⟩) 128 128 g hg 4 (by omega) _ (viewB (h_41.ok _ (.tail _ (.tail _ (.head _)))) Sg.h)) rfl ?_
    rintro _ w_43 ⟨rfl, hc_42⟩
    have h_44 := h_41.same hc_42
    refine WL.q (Wn.no rfl) rfl rfl (R.fieldAddr (b := b_31) (off := 0) (off' := 1) rfl Try.underlying45 rfl Try.sizeOf23 rfl rfl) ?_
    refine WL.q (Wn.no rfl) rfl rfl (R.indexA (b := b_31) (off := 1) (off' := 3) (i := 2) rfl rfl rfl (by decide) Try.underlying23 Try.sizeOf22 rfl) ?_
    refine WL.storeE (b := b_31) (off := 3) (i := 2) (v := (vu64 (wordB g 4))) (cs' := ([wordB g 2, wordB g 3, wordB g 4, 0, 0, 0, 0, 0] : List UInt64).map vu64) h_44 rfl rfl Try.sizeOf22 rfl At.h (by decide) (Sg.t rfl Sg.h) rfl (lt_len (K := 8) (len_map (rfl : List.length ([wordB g 2, wordB g 3, 0, 0, 0, 0, 0, 0] : List UInt64) = 8)) (by decide)) ((set_u64 _ _ _).trans rfl) (fun w_45 h_46 => ?_)
    refine WL.nil ?_
    refine inb_n ?_
    refine thn_n ?_
    refine WP.reg ?_
    refine WL.q (Wn.no rfl) rfl rfl (R.move (v := (vi 2)) rfl) ?_
    refine WL.q (Wn.no rfl) rfl rfl (R.bin (v := (vi 3)) rfl rfl (bi_add (c := 3) (by omega) (by omega))) ?_
    refine WL.q (Wn.no rfl) rfl rfl (R.assign (v := (vi 3)) rfl) ?_
    refine WL.nil ?_
    refine thn_n ?_
    refine WI.round ?_
    refine WP.seq ?_
    refine WP.seq ?_
    refine WP.reg ?_
    refine WL.q (Wn.no rfl) rfl rfl (R.move (v := (vi 3)) rfl) ?_
    refine WL.q (Wn.no rfl) rfl rfl (R.bin (v := (.bool true)) rfl rfl (bi_lss (r := true) (by decide))) ?_
    refine WL.nil ?_
    refine thn_n ?_
    refine WP.condT rfl ?_
    refine WP.skip ?_
    refine thn_n ?_
    refine WP.seq ?_
    refine WP.block ?_
    refine WP.reg ?_
    refine WL.q (Wn.no rfl) rfl rfl (R.move (v := (vi 3)) rfl) ?_
    refine WL.q (Wn.no rfl) rfl rfl (R.sliceA (b := b_1) (off := 0) (off' := 0) (l := 0) (h := 128) rfl EvB.dflt EvB.dflt (by decide) (by decide) Try.underlying53 Try.sizeOf5 rfl) ?_
    refine WL.q (Wn.no rfl) rfl rfl (R.move (v := (vi 3)) rfl) ?_
    refine WL.q (Wn.no rfl) rfl rfl (R.bin (v := (vi 5)) rfl rfl (bi_add (c := 5) (by omega) (by omega))) ?_
    refine WL.call (al := [(.slice (some ⟨b_1, 0, none⟩) 128 128), (vi 5)]) Try.call51 rfl rfl (c_WordR (some ⟨b_1, 0, none⟩) 128 128 g hg 5 (by omega) _ (viewB (h_46.ok _ (.tail _ (.tail _ (.head _)))) Sg.h)) rfl ?_
    rintro _ w_48 ⟨rfl, hc_47⟩
    have h_49 := h_46.same hc_47
    refine WL.q (Wn.no rfl) rfl rfl (R.fieldAddr (b := b_31) (off := 0) (off' := 1) rfl Try.underlying45 rfl Try.sizeOf23 rfl rfl) ?_
    refine WL.q (Wn.no rfl) rfl rfl (R.indexA (b := b_31) (off := 1) (off' := 4) (i := 3) rfl rfl rfl (by decide) Try.underlying23 Try.sizeOf22 rfl) ?_
    refine WL.storeE (b := b_31) (off := 4) (i := 3) (v := (vu64 (wordB g 5))) (cs' := ([wordB g 2, wordB g 3, wordB g 4, wordB g 5, 0, 0, 0, 0] : List UInt64).map vu64) h_49 rfl rfl Try.sizeOf22 rfl At.h (by decide) (Sg.t rfl Sg.h) rfl (lt_len (K := 8) (len_map (rfl : List.length ([wordB g 2, wordB g 3, wordB g 4, 0, 0, 0, 0, 0] : List UInt64) = 8)) (by decide)) ((set_u64 _ _ _).trans rfl) (fun w_50 h_51 => ?_)
    refine WL.nil ?_
    refine inb_n ?_
    refine thn_n ?_
    refine WP.reg ?_
    refine WL.q (Wn.no rfl) rfl rfl (R.move (v := (vi 3)) rfl) ?_
    refine WL.q (Wn.no rfl) rfl rfl (R.bin (v := (vi 4)) rfl rfl (bi_add (c := 4) (by omega) (by omega))) ?_
    refine WL.q (Wn.no rfl) rfl rfl (R.assign (v := (vi 4)) rfl) ?_
    refine WL.nil ?_
    refine thn_n ?_
    refine WI.round ?_
    refine WP.seq ?_
    refine WP.seq ?_
    refine WP.reg ?_
    refine WL.q (Wn.no rfl) rfl rfl (R.move (v := (vi 4)) rfl) ?_
    refine WL.q (Wn.no rfl) rfl rfl (R.bin (v := (.bool true)) rfl rfl (bi_lss (r := true) (by decide))) ?_
    refine WL.nil ?_
    refine thn_n ?_
    refine WP.condT rfl ?_
    refine WP.skip ?_
    refine thn_n ?_
    refine WP.seq ?_
    refine WP.block ?_
    refine WP.reg ?_
    refine WL.q (Wn.no rfl) rfl rfl (R.move (v := (vi 4)) rfl) ?_
    refine WL.q (Wn.no rfl) rfl rfl (R.sliceA (b := b_1) (off := 0) (off' := 0) (l := 0) (h := 128) rfl EvB.dflt EvB.dflt (by decide) (by decide) Try.underlying53 Try.sizeOf5 rfl) ?_
    refine WL.q (Wn.no rfl) rfl rfl (R.move (v := (vi 4)) rfl) ?_
    refine WL.q (Wn.no rfl) rfl rfl (R.bin (v := (vi 6)) rfl rfl (bi_add (c := 6) (by omega) (by omega))) ?_
    refine WL.call (al := [(.slice (some ⟨b_1, 0, none⟩) 128 128), (vi 6)]) Try.call51 rfl rfl (c_WordR (some ⟨b_1, 0, none⟩) 128 128 g hg 6 (by omega) _ (viewB (h_51.ok _ (.tail _ (.tail _ (.head _)))) Sg.h)) rfl ?_
    rintro _ w_53 ⟨rfl, hc_52⟩
    have h_54 := h_51.same hc_52
    refine WL.q (Wn.no rfl) rfl rfl (R.fieldAddr (b := b_31) (off := 0) (off' := 1) rfl Try.underlying45 rfl Try.sizeOf23 rfl rfl) ?_
    refine WL.q (Wn.no rfl) rfl rfl (R.indexA (b := b_31) (off := 1) (off' := 5) (i := 4) rfl rfl rfl (by decide) Try.underlying23 Try.sizeOf22 rfl) ?_
    refine WL.storeE (b := b_31) (off := 5) (i := 4) (v := (vu64 (wordB g 6))) (cs' := ([wordB g 2, wordB g 3, wordB g 4, wordB g 5, wordB g 6, 0, 0, 0] : List UInt64).map vu64) h_54 rfl rfl Try.sizeOf22 rfl At.h (by decide) (Sg.t rfl Sg.h) rfl (lt_len (K := 8) (len_map (rfl : List.length ([wordB g 2, wordB g 3, wordB g 4, wordB g 5, 0, 0, 0, 0] : List UInt64) = 8)) (by decide)) ((set_u64 _ _ _).trans rfl) (fun w_55 h_56 => ?_)
    refine WL.nil ?_
    refine inb_n ?_
    refine thn_n ?_
    refine WP.reg ?_
    refine WL.q (Wn.no rfl) rfl rfl (R.move (v := (vi 4)) rfl) ?_
    refine WL.q (Wn.no rfl) rfl rfl (R.bin (v := (vi 5)) rfl rfl (bi_add (c := 5) (by omega) (by omega))) ?_
    refine WL.q (Wn.no rfl) rfl rfl (R.assign (v := (vi 5)) rfl) ?_
    refine WL.nil ?_
    refine thn_n ?_
    refine WI.round ?_
    refine WP.seq ?_
    refine WP.seq ?_
    refine WP.reg ?_
    refine WL.q (Wn.no rfl) rfl rfl (R.move (v := (vi 5)) rfl) ?_
    refine WL.q (Wn.no rfl) rfl rfl (R.bin (v := (.bool true)) rfl rfl (bi_lss (r := true) (by decide))) ?_
    refine WL.nil ?_
    refine thn_n ?_
    refine WP.condT rfl ?_
    refine WP.skip ?_
    refine thn_n ?_
    refine WP.seq ?_
    refine WP.block ?_
    refine WP.reg ?_
    refine WL.q (Wn.no rfl) rfl rfl (R.move (v := (vi 5)) rfl) ?_
    refine WL.q (Wn.no rfl) rfl rfl (R.sliceA (b := b_1) (off := 0) (off' := 0) (l := 0) (h := 128) rfl EvB.dflt EvB.dflt (by decide) (by decide) Try.underlying53 Try.sizeOf5 rfl) ?_
    refine WL.q (Wn.no rfl) rfl rfl (R.move (v := (vi 5)) rfl) ?_
    refine WL.q (Wn.no rfl) rfl rfl (R.bin (v := (vi 7)) rfl rfl (bi_add (c := 7) (by omega) (by omega))) ?_
    refine WL.call (al := [(.slice (some ⟨b_1, 0, none⟩) 128 128), (vi 7)]) Try.call51 rfl rfl (c_WordR (some ⟨b_1, 0, none⟩) 128 128 g hg 7 (by omega) _ (viewB (h_56.ok _ (.tail _ (.tail _ (.head _)))) Sg.h)) rfl ?_
    rintro _ w_58 ⟨rfl, hc_57⟩
    have h_59 := h_56.same hc_57
    refine WL.q (Wn.no rfl) rfl rfl (R.fieldAddr (b := b_31) (off := 0) (off' := 1) rfl Try.underlying45 rfl Try.sizeOf23 rfl rfl) ?_
    refine WL.q (Wn.no rfl) rfl rfl (R.indexA (b := b_31) (off := 1) (off' := 6) (i := 5) rfl rfl rfl (by decide) Try.underlying23 Try.sizeOf22 rfl) ?_
    refine WL.storeE (b := b_31) (off := 6) (i := 5) (v := (vu64 (wordB g 7))) (cs' := ([wordB g 2, wordB g 3, wordB g 4, wordB g 5, wordB g 6, wordB g 7, 0, 0] : List UInt64).map vu64) h_59 rfl rfl Try.sizeOf22 rfl At.h (by decide) (Sg.t rfl Sg.h) rfl (lt_len (K := 8) (len_map (rfl : List.length ([wordB g 2, wordB g 3, wordB g 4, wordB g 5, wordB g 6, 0, 0, 0] : List UInt64) = 8)) (by decide)) ((set_u64 _ _ _).trans rfl) (fun w_60 h_61 => ?_)
    refine WL.nil ?_
    refine inb_n ?_
    refine thn_n ?_
    refine WP.reg ?_
    refine WL.q (Wn.no rfl) rfl rfl (R.move (v := (vi 5)) rfl) ?_
    refine WL.q (Wn.no rfl) rfl rfl (R.bin (v := (vi 6)) rfl rfl (bi_add (c := 6) (by omega) (by omega))) ?_
    refine WL.q (Wn.no rfl) rfl rfl (R.assign (v := (vi 6)) rfl) ?_
    refine WL.nil ?_
    refine thn_n ?_
    refine WI.round ?_
    refine WP.seq ?_
    refine WP.seq ?_
    refine WP.reg ?_
    refine WL.q (Wn.no rfl) rfl rfl (R.move (v := (vi 6)) rfl) ?_
    refine WL.q (Wn.no rfl) rfl rfl (R.bin (v := (.bool true)) rfl rfl (bi_lss (r := true) (by decide))) ?_
    refine WL.nil ?_
    refine thn_n ?_
    refine WP.condT rfl ?_
    refine WP.skip ?_
    refine thn_n ?_
    refine WP.seq ?_
    refine WP.block ?_
    refine WP.reg ?_
    refine WL.q (Wn.no rfl) rfl rfl (R.move (v := (vi 6)) rfl) ?_
    refine WL.q (Wn.no rfl) rfl rfl (R.sliceA (b := b_1) (off := 0) (off' := 0) (l := 0) (h := 128) rfl EvB.dflt EvB.dflt (by decide) (by decide) Try.underlying53 Try.sizeOf5 rfl) ?_
    refine WL.q (Wn.no rfl) rfl rfl (R.move (v := (vi 6)) rfl) ?_
    refine WL.q (Wn.no rfl) rfl rfl (R.bin (v := (vi 8)) rfl rfl (bi_add (c := 8) (by omega) (by omega))) ?_
    refine WL.call (al := [(.slice (some ⟨b_1, 0, none⟩) 128 128), (vi 8)]) Try.call51 rfl rfl (c_WordR (some ⟨b_1, 0, none⟩) 128 128 g hg 8 (by omega) _ (viewB (h_61.ok _ (.tail _ (.tail _ (.head _)))) Sg.h)) rfl ?_
    rintro _ w_63 ⟨rfl, hc_62⟩
    have h_64 := h_61.same hc_62
    refine WL.q (Wn.no rfl) rfl rfl (R.fieldAddr (b := b_31) (off := 0) (off' := 1) rfl Try.underlying45 rfl Try.sizeOf23 rfl rfl) ?_
    refine WL.q (Wn.no rfl) rfl rfl (R.indexA (b := b_31) (off := 1) (off' := 7) (i := 6) rfl rfl rfl (by decide) Try.underlying23 Try.sizeOf22 rfl) ?_
    refine WL.storeE (b := b_31) (off := 7) (i := 6) (v := (vu64 (wordB g 8))) (cs' := ([wordB g 2, wordB g 3, wordB g 4, wordB g 5, wordB g 6, wordB g 7, wordB g 8, 0] : List UInt64).map vu64) h_64 rfl rfl Try.sizeOf22 rfl At.h (by decide) (Sg.t rfl Sg.h) rfl (lt_len (K := 8) (len_map (rfl : List.length ([wordB g 2, wordB g 3, wordB g 4, wordB g 5, wordB g 6, wordB g 7, 0, 0] : List UInt64) = 8)) (by decide)) ((set_u64 _ _ _).trans rfl) (fun w_65 h_66 => ?_)
    refine WL.nil ?_
    refine inb_n ?_
    refine thn_n ?_
    refine WP.reg ?_
    refine WL.q (Wn.no rfl) rfl rfl (R.move (v := (vi 6)) rfl) ?_
    refine WL.q (Wn.no rfl) rfl rfl (R.bin (v := (vi 7)) rfl rfl (bi_add (c := 7) (by omega) (by omega))) ?_
    refine WL.q (Wn.no rfl) rfl rfl (R.assign (v := (vi 7)) rfl) ?_
    refine WL.nil ?_
    refine thn_n ?_
    refine WI.round ?_
    refine WP.seq ?_
    refine WP.seq ?_
    refine WP.reg ?_
    refine WL.q (Wn.no rfl) rfl rfl (R.move (v := (vi 7)) rfl) ?_
    refine WL.q (Wn.no rfl) rfl rfl (R.bin (v := (.bool true)) rfl rfl (bi_lss (r := true) (by decide))) ?_
    refine WL.nil ?_
    refine thn_n ?_
    refine WP.condT rfl ?_
    refine WP.skip ?_
    refine thn_n ?_
    refine WP.seq ?_
    refine WP.block ?_
    refine WP.reg ?_
    refine WL.q (Wn.no rfl) rfl rfl (R.move (v := (vi 7)) rfl) ?_
    refine WL.q (Wn.no rfl) rfl rfl (R.sliceA (b := b_1) (off := 0) (off' := 0) (l := 0) (h := 128) rfl EvB.dflt EvB.dflt (by decide) (by decide) Try.underlying53 Try.sizeOf5 rfl) ?_
    refine WL.q (Wn.no rfl) rfl rfl (R.move (v := (vi 7)) rfl) ?_
    refine WL.q (Wn.no rfl) rfl rfl (R.bin (v := (vi 9)) rfl rfl (bi_add (c := 9) (by omega) (by omega))) ?_
    refine WL.call (al := [(.slice (some ⟨b_1, 0, none⟩) 128 128), (vi 9)]) Try.call51 rfl rfl (c_WordR (some ⟨b_1, 0, none⟩) 128 128 g hg 9 (by omega) _ (viewB (h_66.ok _ (.tail _ (.tail _ (.head _)))) Sg.h)) rfl ?_
    rintro _ w_68 ⟨rfl, hc_67⟩
    have h_69 := h_66.same hc_67
    refine WL.q (Wn.no rfl) rfl rfl (R.fieldAddr (b := b_31) (off := 0) (off' := 1) rfl Try.underlying45 rfl Try.sizeOf23 rfl rfl) ?_
    refine WL.q (Wn.no rfl) rfl rfl (R.indexA (b := b_31) (off := 1) (off' := 8) (i := 7) rfl rfl rfl (by decide) Try.underlying23 Try.sizeOf22 rfl) ?_
    refine WL.storeE (b := b_31) (off := 8) (i := 7) (v := (vu64 (wordB g 9))) (cs' := ([wordB g 2, wordB g 3, wordB g 4, wordB g 5, wordB g 6, wordB g 7, wordB g 8, wordB g 9] : List UInt64).map vu64) h_69 rfl rfl Try.sizeOf22 rfl At.h (by decide) (Sg.t rfl Sg.h) rfl (lt_len (K := 8) (len_map (rfl : List.length ([wordB g 2, wordB g 3, wordB g 4, wordB g 5, wordB g 6, wordB g 7, wordB g 8, 0] : List UInt64) = 8)) (by decide)) ((set_u64 _ _ _).trans rfl) (fun w_70 h_71 => ?_)
    refine WL.nil ?_
    refine inb_n ?_
    refine thn_n ?_
    refine WP.reg ?_
    refine WL.q (Wn.no rfl) rfl rfl (R.move (v := (vi 7)) rfl) ?_
    refine WL.q (Wn.no rfl) rfl rfl (R.bin (v := (vi 8)) rfl rfl (bi_add (c := 8) (by omega) (by omega))) ?_
    refine WL.q (Wn.no rfl) rfl rfl (R.assign (v := (vi 8)) rfl) ?_
    refine WL.nil ?_
    refine thn_n ?_
    refine WI.round ?_
    refine WP.seq ?_
    refine WP.seq ?_
    refine WP.reg ?_
    refine WL.q (Wn.no rfl) rfl rfl (R.move (v := (vi 8)) rfl) ?_
    refine WL.q (Wn.no rfl) rfl rfl (R.bin (v := (.bool false)) rfl rfl (bi_lss (r := false) (by decide))) ?_
    refine WL.nil ?_
    refine thn_n ?_
    refine WP.condF rfl ?_
    refine WP.exit ?_
    refine thn_x ?_
    refine thn_x ?_
    refine inb_hit ?_
    refine thn_n ?_
    refine WP.seq ?_
    refine WP.seq ?_
    refine WP.drawT (SL w.heap.size [.blk b_31 .nw 45 [(1, [(vu64 (wordB g 1))]), (8, ([wordB g 2, wordB g 3, wordB g 4, wordB g 5, wordB g 6, wordB g 7, wordB g 8, wordB g 9] : List UInt64).map vu64), (1, [(.bool (decide ((g.getD 80 0 : UInt8) = 1)))])], .blk b_4 .nw 45 [(1, [(vu64 0)]), (8, (List.replicate 8 (0 : UInt64)).map vu64), (1, [(.bool false)])], .blk b_1 .nw 53 [(128, g.map vu8)]]) (.q 0 (.s 1 (.q 2 (.q 3 (.q 4 (.q 6 (.s 5 (.q 7 (.q 8 .nil))))))))) (by kernel_rfl) (by kernel_rfl) rfl (by kernel_rfl) (fun w_72 hc_74 => (SL.cons ((h_71.same hc_74).ok _ (.head _)) (SL.cons ((h_71.same hc_74).ok _ (.tail _ (.head _))) (SL.cons ((h_71.same hc_74).ok _ (.tail _ (.tail _ (.head _)))) (SL.nil _ _))))) (fun w_72 hc_74 => ?_)
    have h_73 := h_71.same hc_74
    refine WT.q rfl (Wn.no rfl) rfl rfl (fun wq hS => R.loadA (b := b_31) (off := 0) [] [(1, [(vu64 (wordB g 1))]), (8, ([wordB g 2, wordB g 3, wordB g 4, wordB g 5, wordB g 6, wordB g 7, wordB g 8, wordB g 9] : List UInt64).map vu64), (1, [(.bool (decide ((g.getD 80 0 : UInt8) = 1)))])] [] (cs := flat [(1, [(vu64 (wordB g 1))]), (8, ([wordB g 2, wordB g 3, wordB g 4, wordB g 5, wordB g 6, wordB g 7, wordB g 8, wordB g 9] : List UInt64).map vu64), (1, [(.bool (decide ((g.getD 80 0 : UInt8) = 1)))])]) rfl Try.isAgg45 Try.sizeOf45 (hS _ (.head _)) rfl rfl rfl rfl) ?_
    refine WT.s ?_
    refine Op1.one rfl (Wn.no rfl) ?_
    refine WL.call (al := [(.agg ⟨flat [(1, [(vu64 (wordB g 1))]), (8, ([wordB g 2, wordB g 3, wordB g 4, wordB g 5, wordB g 6, wordB g 7, wordB g 8, wordB g 9] : List UInt64).map vu64), (1, [(.bool (decide ((g.getD 80 0 : UInt8) = 1)))])]⟩)]) Try.call26 rfl rfl (c_MayRecR (wordB g 1) ([wordB g 2, wordB g 3, wordB g 4, wordB g 5, wordB g 6, wordB g 7, wordB g 8, wordB g 9] : List UInt64) (rfl : List.length ([wordB g 2, wordB g 3, wordB g 4, wordB g 5, wordB g 6, wordB g 7, wordB g 8, wordB g 9] : List UInt64) = 8) (decide ((g.getD 80 0 : UInt8) = 1)) _ ) rfl ?_
    rintro _ w_76 ⟨rfl, hc_75⟩
    have h_77 := h_73.same hc_75
    refine WL.nil ?_
    refine ⟨(SL.cons (h_77.ok _ (.head _)) (SL.cons (h_77.ok _ (.tail _ (.head _))) (SL.cons (h_77.ok _ (.tail _ (.tail _ (.head _)))) (SL.nil _ _)))), ?_⟩
    refine WT.q rfl (Wn.no rfl) rfl rfl (fun wq hS => R.not (b := mayRec (wordB g 1)) rfl) ?_
    refine WT.q rfl (Wn.no rfl) rfl rfl (fun wq hS => R.move (v := (.bool (!(mayRec (wordB g 1))))) rfl) ?_
    rcases Bool.eq_false_or_eq_true (!(mayRec (wordB g 1))) with c_78 | c_78
    · refine WT.skipQ rfl rfl rfl (boolNe (v := .bool true) (congrArg Value.bool c_78) (by decide)) rfl rfl ?_
      refine WT.skipQ rfl rfl rfl (boolNe (v := .bool true) (congrArg Value.bool c_78) (by decide)) rfl rfl ?_
      refine WT.s ?_
      refine Op1.skip rfl rfl rfl (boolNe (v := .bool true) (congrArg Value.bool c_78) (by decide)) rfl rfl ?_
      refine WT.skipQ rfl rfl rfl (boolNe (v := .bool true) (congrArg Value.bool c_78) (by decide)) rfl rfl ?_
      refine WT.q rfl (Wn.no rfl) rfl rfl (fun wq hS => R.pickT (v := (.bool true)) (congrArg Value.bool c_78) rfl) ?_
      refine WT.nil ?_
      refine thn_n ?_
      refine WP.condT rfl ?_
      refine WP.seq ?_
      refine WP.reg ?_
      refine WL.q (Wn.no rfl) rfl rfl (R.buildS (pl := [(0, 1), (1, 8), (9, 1)]) (zs := [(1, [(vu64 0)]), (8, (List.replicate 8 (0 : UInt64)).map vu64), (1, [(.bool false)])]) (vs := []) (out := [(1, [(vu64 0)]), (8, (List.replicate 8 (0 : UInt64)).map vu64), (1, [(.bool false)])]) (cs := flat [(1, [(vu64 0)]), (8, (List.replicate 8 (0 : UInt64)).map vu64), (1, [(.bool false)])]) Try.underlying45 (zv Try.typeInfo45 rfl) rfl (SsOk.cons (SOk.v rfl) (SsOk.cons (SOk.u64 (List.length_replicate ..)) (SsOk.cons (SOk.v rfl) SsOk.nil))) (pl45 _ Try.underlying45) rfl FillR.nil rfl) ?_
      refine WL.storeA (b := b_4) (off := 0) [] [(1, [(vu64 0)]), (8, (List.replicate 8 (0 : UInt64)).map vu64), (1, [(.bool false)])] [(1, [(vu64 0)]), (8, (List.replicate 8 (0 : UInt64)).map vu64), (1, [(.bool false)])] [] (ys := flat [(1, [(vu64 0)]), (8, (List.replicate 8 (0 : UInt64)).map vu64), (1, [(.bool false)])]) h_77 rfl rfl Try.sizeOf45 (At.t At.h) (by decide) rfl rfl rfl rfl rfl rfl (SsOk.cons (SOk.v rfl) (SsOk.cons (SOk.u64 (List.length_replicate ..)) (SsOk.cons (SOk.v rfl) SsOk.nil))) (fun w_80 h_81 => ?_)
      refine WL.q (Wn.no rfl) rfl rfl (R.assign (v := (.bool false)) rfl) ?_
      refine WL.nil ?_
      refine thn_n ?_
      refine WP.ret ?_
      refine thn_r ?_
      refine ret_of Try.results34 (RV.cell rfl (h_81.loadA (cs := flat [(1, [(vu64 0)]), (8, (List.replicate 8 (0 : UInt64)).map vu64), (1, [(.bool false)])]) Try.isAgg45 Try.sizeOf45 (.tail _ (.head _)) rfl rfl) (RV.tmp (v := (.bool false)) rfl RV.nil)) ?_
      have h1 := okRec_eq h
      have h2 := okRec_eq2 h
      have h3 := mayRec_ok h
      simp only [rcR] at h1
      exfalso
      clear h
      simp_all
    · refine WT.q rfl (Wn.yes rfl rfl (congrArg Value.bool c_78)) rfl rfl (fun wq hS => R.loadA (b := b_31) (off := 0) [] [(1, [(vu64 (wordB g 1))]), (8, ([wordB g 2, wordB g 3, wordB g 4, wordB g 5, wordB g 6, wordB g 7, wordB g 8, wordB g 9] : List UInt64).map vu64), (1, [(.bool (decide ((g.getD 80 0 : UInt8) = 1)))])] [] (cs := flat [(1, [(vu64 (wordB g 1))]), (8, ([wordB g 2, wordB g 3, wordB g 4, wordB g 5, wordB g 6, wordB g 7, wordB g 8, wordB g 9] : List UInt64).map vu64), (1, [(.bool (decide ((g.getD 80 0 : UInt8) = 1)))])]) rfl Try.isAgg45 Try.sizeOf45 (hS _ (.head _)) rfl rfl rfl rfl) ?_
      refine WT.q rfl (Wn.yes rfl rfl (congrArg Value.bool c_78)) rfl rfl (fun wq hS => R.loadA (b := b_1) (off := 0) [] [(128, g.map vu8)] [] (cs := g.map vu8) rfl Try.isAgg53 Try.sizeOf53 (hS _ (.tail _ (.tail _ (.head _)))) rfl rfl rfl rfl) ?_
      refine WT.s ?_
      refine Op1.one rfl (Wn.yes rfl rfl (congrArg Value.bool c_78)) ?_
      refine WL.call (al := [(.agg ⟨flat [(1, [(vu64 (wordB g 1))]), (8, ([wordB g 2, wordB g 3, wordB g 4, wordB g 5, wordB g 6, wordB g 7, wordB g 8, wordB g 9] : List UInt64).map vu64), (1, [(.bool (decide ((g.getD 80 0 : UInt8) = 1)))])]⟩)]) Try.call27 rfl rfl (c_RecBytesR (wordB g 1) ([wordB g 2, wordB g 3, wordB g 4, wordB g 5, wordB g 6, wordB g 7, wordB g 8, wordB g 9] : List UInt64) (rfl : List.length ([wordB g 2, wordB g 3, wordB g 4, wordB g 5, wordB g 6, wordB g 7, wordB g 8, wordB g 9] : List UInt64) = 8) (decide ((g.getD 80 0 : UInt8) = 1)) _ ) rfl ?_
      rintro _ w_83 ⟨rfl, hc_82⟩
      have h_84 := h_77.same hc_82
      refine WL.nil ?_
      refine ⟨(SL.cons (h_84.ok _ (.head _)) (SL.cons (h_84.ok _ (.tail _ (.head _))) (SL.cons (h_84.ok _ (.tail _ (.tail _ (.head _)))) (SL.nil _ _)))), ?_⟩
      refine WT.q rfl (Wn.yes rfl rfl (congrArg Value.bool c_78)) rfl rfl (fun wq hS => R.neA (xs := (recB (wordB g 1) ([wordB g 2, wordB g 3, wordB g 4, wordB g 5, wordB g 6, wordB g 7, wordB g 8, wordB g 9] : List UInt64) (decide ((g.getD 80 0 : UInt8) = 1))).map vu8) (ys := g.map vu8) (r := !decide (recB (wordB g 1) ([wordB g 2, wordB g 3, wordB g 4, wordB g 5, wordB g 6, wordB g 7, wordB g 8, wordB g 9] : List UInt64) (decide ((g.getD 80 0 : UInt8) = 1)) = g)) rfl rfl Try.eqGuardType53 kt53 (by decide) ag53 (Typ.u8s Try.underlying53 ce53 Try.underlying5 ce5 (recB_len ..)) (Typ.u8s Try.underlying53 ce53 Try.underlying5 ce5 hg) (map_inj_u8.trans (decN _))) ?_
      refine WT.q rfl (Wn.no rfl) rfl rfl (fun wq hS => R.pickF (v := (.bool (!decide (recB (wordB g 1) ([wordB g 2, wordB g 3, wordB g 4, wordB g 5, wordB g 6, wordB g 7, wordB g 8, wordB g 9] : List UInt64) (decide ((g.getD 80 0 : UInt8) = 1)) = g)))) (congrArg Value.bool c_78) rfl) ?_
      refine WT.nil ?_
      refine thn_n ?_
      refine WP.cond (b := !decide (recB (wordB g 1) ([wordB g 2, wordB g 3, wordB g 4, wordB g 5, wordB g 6, wordB g 7, wordB g 8, wordB g 9] : List UInt64) (decide ((g.getD 80 0 : UInt8) = 1)) = g)) rfl (fun c_85 => ?_) (fun c_85 => ?_)
      · refine WP.seq ?_
        refine WP.reg ?_
        refine WL.q (Wn.no rfl) rfl rfl (R.buildS (pl := [(0, 1), (1, 8), (9, 1)]) (zs := [(1, [(vu64 0)]), (8, (List.replicate 8 (0 : UInt64)).map vu64), (1, [(.bool false)])]) (vs := []) (out := [(1, [(vu64 0)]), (8, (List.replicate 8 (0 : UInt64)).map vu64), (1, [(.bool false)])]) (cs := flat [(1, [(vu64 0)]), (8, (List.replicate 8 (0 : UInt64)).map vu64), (1, [(.bool false)])]) Try.underlying45 (zv Try.typeInfo45 rfl) rfl (SsOk.cons (SOk.v rfl) (SsOk.cons (SOk.u64 (List.length_replicate ..)) (SsOk.cons (SOk.v rfl) SsOk.nil))) (pl45 _ Try.underlying45) rfl FillR.nil rfl) ?_
        refine WL.storeA (b := b_4) (off := 0) [] [(1, [(vu64 0)]), (8, (List.replicate 8 (0 : UInt64)).map vu64), (1, [(.bool false)])] [(1, [(vu64 0)]), (8, (List.replicate 8 (0 : UInt64)).map vu64), (1, [(.bool false)])] [] (ys := flat [(1, [(vu64 0)]), (8, (List.replicate 8 (0 : UInt64)).map vu64), (1, [(.bool false)])]) h_84 rfl rfl Try.sizeOf45 (At.t At.h) (by decide) rfl rfl rfl rfl rfl rfl (SsOk.cons (SOk.v rfl) (SsOk.cons (SOk.u64 (List.length_replicate ..)) (SsOk.cons (SOk.v rfl) SsOk.nil))) (fun w_87 h_88 => ?_)
        refine WL.q (Wn.no rfl) rfl rfl (R.assign (v := (.bool false)) rfl) ?_
        refine WL.nil ?_
        refine thn_n ?_
        refine WP.ret ?_
        refine thn_r ?_
        refine ret_of Try.results34 (RV.cell rfl (h_88.loadA (cs := flat [(1, [(vu64 0)]), (8, (List.replicate 8 (0 : UInt64)).map vu64), (1, [(.bool false)])]) Try.isAgg45 Try.sizeOf45 (.tail _ (.head _)) rfl rfl) (RV.tmp (v := (.bool false)) rfl RV.nil)) ?_
        have h1 := okRec_eq h
        have h2 := okRec_eq2 h
        have h3 := mayRec_ok h
        simp only [rcR] at h1
        exfalso
        clear h
        simp_all
      · refine WP.skip ?_
        refine thn_n ?_
        refine WP.seq ?_
        refine WP.reg ?_
        refine WL.q (Wn.no rfl) rfl rfl (R.loadA (b := b_31) (off := 0) [] [(1, [(vu64 (wordB g 1))]), (8, ([wordB g 2, wordB g 3, wordB g 4, wordB g 5, wordB g 6, wordB g 7, wordB g 8, wordB g 9] : List UInt64).map vu64), (1, [(.bool (decide ((g.getD 80 0 : UInt8) = 1)))])] [] (cs := flat [(1, [(vu64 (wordB g 1))]), (8, ([wordB g 2, wordB g 3, wordB g 4, wordB g 5, wordB g 6, wordB g 7, wordB g 8, wordB g 9] : List UInt64).map vu64), (1, [(.bool (decide ((g.getD 80 0 : UInt8) = 1)))])]) rfl Try.isAgg45 Try.sizeOf45 (h_84.ok _ (.head _)) rfl rfl rfl rfl) ?_
        refine WL.storeA (b := b_4) (off := 0) [] [(1, [(vu64 0)]), (8, (List.replicate 8 (0 : UInt64)).map vu64), (1, [(.bool false)])] [(1, [(vu64 (wordB g 1))]), (8, ([wordB g 2, wordB g 3, wordB g 4, wordB g 5, wordB g 6, wordB g 7, wordB g 8, wordB g 9] : List UInt64).map vu64), (1, [(.bool (decide ((g.getD 80 0 : UInt8) = 1)))])] [] (ys := flat [(1, [(vu64 (wordB g 1))]), (8, ([wordB g 2, wordB g 3, wordB g 4, wordB g 5, wordB g 6, wordB g 7, wordB g 8, wordB g 9] : List UInt64).map vu64), (1, [(.bool (decide ((g.getD 80 0 : UInt8) = 1)))])]) h_84 rfl rfl Try.sizeOf45 (At.t At.h) (by decide) rfl rfl rfl rfl rfl rfl (SsOk.cons (SOk.v rfl) (SsOk.cons (SOk.u64 (rfl : List.length ([wordB g 2, wordB g 3, wordB g 4, wordB g 5, wordB g 6, wordB g 7, wordB g 8, wordB g 9] : List UInt64) = 8)) (SsOk.cons (SOk.v rfl) SsOk.nil))) (fun w_89 h_90 => ?_)
        refine WL.q (Wn.no rfl) rfl rfl (R.assign (v := (.bool true)) rfl) ?_
        refine WL.nil ?_
        refine thn_n ?_
        refine WP.ret ?_
        refine ret_of Try.results34 (RV.cell rfl (h_90.loadA (cs := flat [(1, [(vu64 (wordB g 1))]), (8, ([wordB g 2, wordB g 3, wordB g 4, wordB g 5, wordB g 6, wordB g 7, wordB g 8, wordB g 9] : List UInt64).map vu64), (1, [(.bool (decide ((g.getD 80 0 : UInt8) = 1)))])]) Try.isAgg45 Try.sizeOf45 (.tail _ (.head _)) rfl rfl) (RV.tmp (v := (.bool true)) rfl RV.nil)) ?_
        exact ⟨rfl, h_90.chgS⟩

theorem c_RecR_f (g : List UInt8) (hg : g.length = 128) (h : okRec g = false) (w : World) :
    Cs Try.prog 34 [(.agg ⟨g.map vu8⟩)].toArray w (fun v w1 => v = (.tuple [(.agg ⟨flat [(1, [(vu64 0)]), (8, (List.replicate 8 (0 : UInt64)).map vu64), (1, [(.bool false)])]⟩), (.bool false)].toArray) ∧ Chg w w1 []) := by
  refine Cs.of (n := 34) (args := [(.agg ⟨g.map vu8⟩)]) Try.func34 rfl rfl rfl ?_
  have h_0 := HP.init w
  refine WP.seq ?_
  refine WP.reg ?_
  refine WL.box (v := (.agg ⟨g.map vu8⟩)) (segs := [(128, g.map vu8)]) h_0 rfl rfl (SsOk.cons (SOk.u8 hg) SsOk.nil) rfl (fun b_1 w_2 h_3 => ?_)
  refine WL.alloc (segs := [(1, [(vu64 0)]), (8, (List.replicate 8 (0 : UInt64)).map vu64), (1, [(.bool false)])]) h_3 (zv Try.typeInfo45 rfl) rfl (SsOk.cons (SOk.v rfl) (SsOk.cons (SOk.u64 (List.length_replicate ..)) (SsOk.cons (SOk.v rfl) SsOk.nil))) rfl (fun b_4 w_5 h_6 => ?_)
  refine WL.q (Wn.no rfl) rfl rfl (R.assign (v := (.bool false)) rfl) ?_
  refine WL.nil ?_
  refine thn_n ?_
  refine WP.seq ?_
  refine WP.cutG (G := Nat) [4, 6, 7, 8, 9, 10, 11] (fun bY1Y6Y0Y0 => [(6, (.slice (some ⟨b_1, 0, none⟩) 128 128)), (8, (.pointer (some ⟨b_1, 80, none⟩))), (9, (vu8 (g.getD 80 0))), (10, (.bool (decide ((g.getD 80 0 : UInt8) = 1)))), (7, (vu64 (wordB g 1))), (11, (.agg ⟨flat [(1, [(vu64 (wordB g 1))]), (8, (List.replicate 8 (0 : UInt64)).map vu64), (1, [(.bool (decide ((g.getD 80 0 : UInt8) = 1)))])]⟩)), (4, (.pointer (some ⟨bY1Y6Y0Y0, 0, none⟩)))]) (fun bY1Y6Y0Y0 w1 => HP w w1 [.blk bY1Y6Y0Y0 .nw 45 [(1, [(vu64 (wordB g 1))]), (8, (List.replicate 8 (0 : UInt64)).map vu64), (1, [(.bool (decide ((g.getD 80 0 : UInt8) = 1)))])], .blk b_4 .nw 45 [(1, [(vu64 0)]), (8, (List.replicate 8 (0 : UInt64)).map vu64), (1, [(.bool false)])], .blk b_1 .nw 53 [(128, g.map vu8)]]) ?_ ?_
  · refine WP.drawT (SL w.heap.size [.blk b_4 .nw 45 [(1, [(vu64 0)]), (8, (List.replicate 8 (0 : UInt64)).map vu64), (1, [(.bool false)])], .blk b_1 .nw 53 [(128, g.map vu8)]]) (.q 0 (.q 2 (.q 3 (.q 4 (.s2 1 6 (.q 5 (.s 6 (.s 7 .nil))) (.s 1 (.q 5 (.s 7 .nil)))))))) (by kernel_rfl) (by kernel_rfl) rfl (by kernel_rfl) (fun w_7 hc_9 => (SL.cons ((h_6.same hc_9).ok _ (.head _)) (SL.cons ((h_6.same hc_9).ok _ (.tail _ (.head _))) (SL.nil _ _)))) (fun w_7 hc_9 => ?_)
    have h_8 := h_6.same hc_9
    refine WT.q rfl (Wn.no rfl) rfl rfl (fun wq hS => R.sliceA (b := b_1) (off := 0) (off' := 0) (l := 0) (h := 128) rfl EvB.dflt EvB.dflt (by decide) (by decide) Try.underlying53 Try.sizeOf5 rfl) ?_
    refine WT.q rfl (Wn.no rfl) rfl rfl (fun wq hS => R.indexA (b := b_1) (off := 0) (off' := 80) (i := 80) rfl rfl rfl (by decide) Try.underlying53 Try.sizeOf5 rfl) ?_
    refine WT.q rfl (Wn.no rfl) rfl rfl (fun wq hS => R.loadE (b := b_1) (off := 80) (i := 80) (v := (vu8 (g.getD 80 0))) rfl Try.isAgg5 (hS _ (.tail _ (.head _))) Sg.h rfl (get_u8 (lt_len (K := 128) hg (by decide)))) ?_
    refine WT.q rfl (Wn.no rfl) rfl rfl (fun wq hS => R.bin (v := (.bool (decide ((g.getD 80 0 : UInt8) = 1)))) rfl rfl (b8_eql (g.getD 80 0) 1 (r := decide ((g.getD 80 0 : UInt8) = 1)) rfl)) ?_
    refine WT.s2 ?_ ?_
    · refine Op1.one rfl (Wn.no rfl) ?_
      refine WL.call (al := [(.slice (some ⟨b_1, 0, none⟩) 128 128), (vi 1)]) Try.call51 rfl rfl (c_WordR (some ⟨b_1, 0, none⟩) 128 128 g hg 1 (by omega) _ (viewB (h_8.ok _ (.tail _ (.head _))) Sg.h)) rfl ?_
      rintro _ w_11 ⟨rfl, hc_10⟩
      have h_12 := h_8.same hc_10
      refine WL.nil ?_
      refine ⟨(SL.cons (h_12.ok _ (.head _)) (SL.cons (h_12.ok _ (.tail _ (.head _))) (SL.nil _ _))), ?_⟩
      refine WT.q rfl (Wn.no rfl) rfl rfl (fun wq hS => R.buildS (pl := [(0, 1), (1, 8), (9, 1)]) (zs := [(1, [(vu64 0)]), (8, (List.replicate 8 (0 : UInt64)).map vu64), (1, [(.bool false)])]) (vs := [(0, (vu64 (wordB g 1))), (2, (.bool (decide ((g.getD 80 0 : UInt8) = 1))))]) (out := [(1, [(vu64 (wordB g 1))]), (8, (List.replicate 8 (0 : UInt64)).map vu64), (1, [(.bool (decide ((g.getD 80 0 : UInt8) = 1)))])]) (cs := flat [(1, [(vu64 (wordB g 1))]), (8, (List.replicate 8 (0 : UInt64)).map vu64), (1, [(.bool (decide ((g.getD 80 0 : UInt8) = 1)))])]) Try.underlying45 (zv Try.typeInfo45 rfl) rfl (SsOk.cons (SOk.v rfl) (SsOk.cons (SOk.u64 (List.length_replicate ..)) (SsOk.cons (SOk.v rfl) SsOk.nil))) (pl45 _ Try.underlying45) rfl (FillR.cons [] [(1, [(vu64 0)])] [(1, [(vu64 (wordB g 1))])] [(8, (List.replicate 8 (0 : UInt64)).map vu64), (1, [(.bool false)])] rfl rfl rfl rfl (SsOk.cons (SOk.v rfl) SsOk.nil) rfl rfl rfl (FillR.cons [(1, [(vu64 (wordB g 1))]), (8, (List.replicate 8 (0 : UInt64)).map vu64)] [(1, [(.bool false)])] [(1, [(.bool (decide ((g.getD 80 0 : UInt8) = 1)))])] [] rfl rfl rfl rfl (SsOk.cons (SOk.v rfl) SsOk.nil) rfl rfl rfl FillR.nil)) rfl) ?_
      refine WT.s ?_
      refine Op1.one rfl (Wn.no rfl) ?_
      refine WL.alloc (segs := [(1, [(vu64 0)]), (8, (List.replicate 8 (0 : UInt64)).map vu64), (1, [(.bool false)])]) h_12 (zv Try.typeInfo45 rfl) rfl (SsOk.cons (SOk.v rfl) (SsOk.cons (SOk.u64 (List.length_replicate ..)) (SsOk.cons (SOk.v rfl) SsOk.nil))) rfl (fun b_14 w_15 h_16 => ?_)
      refine WL.nil ?_
      refine ⟨(SL.cons (h_16.ok _ (.tail _ (.head _))) (SL.cons (h_16.ok _ (.tail _ (.tail _ (.head _)))) (SL.nil _ _))), ?_⟩
      refine WT.s ?_
      refine Op1.one rfl (Wn.no rfl) ?_
      refine WL.storeA (b := b_14) (off := 0) [] [(1, [(vu64 0)]), (8, (List.replicate 8 (0 : UInt64)).map vu64), (1, [(.bool false)])] [(1, [(vu64 (wordB g 1))]), (8, (List.replicate 8 (0 : UInt64)).map vu64), (1, [(.bool (decide ((g.getD 80 0 : UInt8) = 1)))])] [] (ys := flat [(1, [(vu64 (wordB g 1))]), (8, (List.replicate 8 (0 : UInt64)).map vu64), (1, [(.bool (decide ((g.getD 80 0 : UInt8) = 1)))])]) h_16 rfl rfl Try.sizeOf45 At.h (by decide) rfl rfl rfl rfl rfl rfl (SsOk.cons (SOk.v rfl) (SsOk.cons (SOk.u64 (List.length_replicate ..)) (SsOk.cons (SOk.v rfl) SsOk.nil))) (fun w_17 h_18 => ?_)
      refine WL.nil ?_
      refine ⟨(SL.cons (h_18.ok _ (.tail _ (.head _))) (SL.cons (h_18.ok _ (.tail _ (.tail _ (.head _)))) (SL.nil _ _))), ?_⟩
      refine WT.nil ?_
      refine thn_n ?_
      exact ⟨b_14, (Ag.upd rfl (Ag.upd rfl (Ag.upd rfl (Ag.upd rfl (Ag.upd rfl (Ag.upd rfl (Ag.upd rfl (Ag.refl _ _)))))))), ⟨rfl, rfl, rfl, rfl, rfl, rfl, rfl, trivial⟩, h_18⟩
    · refine Op1.one rfl (Wn.no rfl) ?_
      refine WL.alloc (segs := [(1, [(vu64 0)]), (8, (List.replicate 8 (0 : UInt64)).map vu64), (1, [(.bool false)])]) h_8 (zv Try.typeInfo45 rfl) rfl (SsOk.cons (SOk.v rfl) (SsOk.cons (SOk.u64 (List.length_replicate ..)) (SsOk.cons (SOk.v rfl) SsOk.nil))) rfl (fun b_19 w_20 h_21 => ?_)
      refine WL.nil ?_
      refine ⟨(SL.cons (h_21.ok _ (.tail _ (.head _))) (SL.cons (h_21.ok _ (.tail _ (.tail _ (.head _)))) (SL.nil _ _))), ?_⟩
      refine WT.s ?_
      refine Op1.one rfl (Wn.no rfl) ?_
      refine WL.call (al := [(.slice (some ⟨b_1, 0, none⟩) 128 128), (vi 1)]) Try.call51 rfl rfl (c_WordR (some ⟨b_1, 0, none⟩) 128 128 g hg 1 (by omega) _ (viewB (h_21.ok _ (.tail _ (.tail _ (.head _)))) Sg.h)) rfl ?_
      rintro _ w_23 ⟨rfl, hc_22⟩
      have h_24 := h_21.same hc_22
      refine WL.nil ?_
      refine ⟨(SL.cons (h_24.ok _ (.tail _ (.head _))) (SL.cons (h_24.ok _ (.tail _ (.tail _ (.head _)))) (SL.nil _ _))), ?_⟩
      refine WT.q rfl (Wn.no rfl) rfl rfl (fun wq hS => R.buildS (pl := [(0, 1), (1, 8), (9, 1)]) (zs := [(1, [(vu64 0)]), (8, (List.replicate 8 (0 : UInt64)).map vu64), (1, [(.bool false)])]) (vs := [(0, (vu64 (wordB g 1))), (2, (.bool (decide ((g.getD 80 0 : UInt8) = 1))))]) (out := [(1, [(vu64 (wordB g 1))]), (8, (List.replicate 8 (0 : UInt64)).map vu64), (1, [(.bool (decide ((g.getD 80 0 : UInt8) = 1)))])]) (cs := flat [(1, [(vu64 (wordB g 1))]), (8, (List.replicate 8 (0 : UInt64)).map vu64), (1, [(.bool (decide ((g.getD 80 0 : UInt8) = 1)))])]) Try.underlying45 (zv Try.typeInfo45 rfl) rfl (SsOk.cons (SOk.v rfl) (SsOk.cons (SOk.u64 (List.length_replicate ..)) (SsOk.cons (SOk.v rfl) SsOk.nil))) (pl45 _ Try.underlying45) rfl (FillR.cons [] [(1, [(vu64 0)])] [(1, [(vu64 (wordB g 1))])] [(8, (List.replicate 8 (0 : UInt64)).map vu64), (1, [(.bool false)])] rfl rfl rfl rfl (SsOk.cons (SOk.v rfl) SsOk.nil) rfl rfl rfl (FillR.cons [(1, [(vu64 (wordB g 1))]), (8, (List.replicate 8 (0 : UInt64)).map vu64)] [(1, [(.bool false)])] [(1, [(.bool (decide ((g.getD 80 0 : UInt8) = 1)))])] [] rfl rfl rfl rfl (SsOk.cons (SOk.v rfl) SsOk.nil) rfl rfl rfl FillR.nil)) rfl) ?_
      refine WT.s ?_
      refine Op1.one rfl (Wn.no rfl) ?_
      refine WL.storeA (b := b_19) (off := 0) [] [(1, [(vu64 0)]), (8, (List.replicate 8 (0 : UInt64)).map vu64), (1, [(.bool false)])] [(1, [(vu64 (wordB g 1))]), (8, (List.replicate 8 (0 : UInt64)).map vu64), (1, [(.bool (decide ((g.getD 80 0 : UInt8) = 1)))])] [] (ys := flat [(1, [(vu64 (wordB g 1))]), (8, (List.replicate 8 (0 : UInt64)).map vu64), (1, [(.bool (decide ((g.getD 80 0 : UInt8) = 1)))])]) h_24 rfl rfl Try.sizeOf45 At.h (by decide) rfl rfl rfl rfl rfl rfl (SsOk.cons (SOk.v rfl) (SsOk.cons (SOk.u64 (List.length_replicate ..)) (SsOk.cons (SOk.v rfl) SsOk.nil))) (fun w_26 h_27 => ?_)
      refine WL.nil ?_
      refine ⟨(SL.cons (h_27.ok _ (.tail _ (.head _))) (SL.cons (h_27.ok _ (.tail _ (.tail _ (.head _)))) (SL.nil _ _))), ?_⟩
      refine WT.nil ?_
      refine thn_n ?_
      exact ⟨b_19, (Ag.upd rfl (Ag.upd rfl (Ag.upd rfl (Ag.upd rfl (Ag.upd rfl (Ag.upd rfl (Ag.upd rfl (Ag.refl _ _)))))))), ⟨rfl, rfl, rfl, rfl, rfl, rfl, rfl, trivial⟩, h_27⟩
  · rintro b_31 J_28 w_29 h_30
    refine thn_n ?_
    refine WP.seq ?_
    refine WP.seq ?_
    refine WP.reg ?_
    refine WL.q (Wn.no rfl) rfl rfl (R.assign (v := (vi 0)) rfl) ?_
    refine WL.nil ?_
    refine thn_n ?_
    refine WP.block ?_
    refine WP.loopU (WI.round ?_)
    refine WP.seq ?_
    refine WP.seq ?_
    refine WP.reg ?_
    refine WL.q (Wn.no rfl) rfl rfl (R.move (v := (vi 0)) rfl) ?_
    refine WL.q (Wn.no rfl) rfl rfl (R.bin (v := (.bool true)) rfl rfl (bi_lss (r := true) (by decide))) ?_
    refine WL.nil ?_
    refine thn_n ?_
    refine WP.condT rfl ?_
    refine WP.skip ?_
    refine thn_n ?_
    refine WP.seq ?_
    refine WP.block ?_
    refine WP.reg ?_
    refine WL.q (Wn.no rfl) rfl rfl (R.move (v := (vi 0)) rfl) ?_
    refine WL.q (Wn.no rfl) rfl rfl (R.sliceA (b := b_1) (off := 0) (off' := 0) (l := 0) (h := 128) rfl EvB.dflt EvB.dflt (by decide) (by decide) Try.underlying53 Try.sizeOf5 rfl) ?_
    refine WL.q (Wn.no rfl) rfl rfl (R.move (v := (vi 0)) rfl) ?_
    refine WL.q (Wn.no rfl) rfl rfl (R.bin (v := (vi 2)) rfl rfl (bi_add (c := 2) (by omega) (by omega))) ?_
    refine WL.call (al := [(.slice (some ⟨b_1, 0, none⟩) 128 128), (vi 2)]) Try.call51 rfl rfl (c_WordR (some ⟨b_1, 0, none⟩) 128 128 g hg 2 (by omega) _ (viewB (h_30.ok _ (.tail _ (.tail _ (.head _)))) Sg.h)) rfl ?_
    rintro _ w_33 ⟨rfl, hc_32⟩
    have h_34 := h_30.same hc_32
    refine WL.q (Wn.no rfl) rfl rfl (R.fieldAddr (b := b_31) (off := 0) (off' := 1) rfl Try.underlying45 rfl Try.sizeOf23 rfl rfl) ?_
    refine WL.q (Wn.no rfl) rfl rfl (R.indexA (b := b_31) (off := 1) (off' := 1) (i := 0) rfl rfl rfl (by decide) Try.underlying23 Try.sizeOf22 rfl) ?_
    refine WL.storeE (b := b_31) (off := 1) (i := 0) (v := (vu64 (wordB g 2))) (cs' := ([wordB g 2, 0, 0, 0, 0, 0, 0, 0] : List UInt64).map vu64) h_34 rfl rfl Try.sizeOf22 rfl At.h (by decide) (Sg.t rfl Sg.h) rfl (lt_len (K := 8) (len_map (List.length_replicate ..)) (by decide)) ((set_u64 _ _ _).trans rfl) (fun w_35 h_36 => ?_)
    refine WL.nil ?_
    refine inb_n ?_
    refine thn_n ?_
    refine WP.reg ?_
    refine WL.q (Wn.no rfl) rfl rfl (R.move (v := (vi 0)) rfl) ?_
    refine WL.q (Wn.no rfl) rfl rfl (R.bin (v := (vi 1)) rfl rfl (bi_add (c := 1) (by omega) (by omega))) ?_
    refine WL.q (Wn.no rfl) rfl rfl (R.assign (v := (vi 1)) rfl) ?_
    refine WL.nil ?_
    refine thn_n ?_
    refine WI.round ?_
    refine WP.seq ?_
    refine WP.seq ?_
    refine WP.reg ?_
    refine WL.q (Wn.no rfl) rfl rfl (R.move (v := (vi 1)) rfl) ?_
    refine WL.q (Wn.no rfl) rfl rfl (R.bin (v := (.bool true)) rfl rfl (bi_lss (r := true) (by decide))) ?_
    refine WL.nil ?_
    refine thn_n ?_
    refine WP.condT rfl ?_
    refine WP.skip ?_
    refine thn_n ?_
    refine WP.seq ?_
    refine WP.block ?_
    refine WP.reg ?_
    refine WL.q (Wn.no rfl) rfl rfl (R.move (v := (vi 1)) rfl) ?_
    refine WL.q (Wn.no rfl) rfl rfl (R.sliceA (b := b_1) (off := 0) (off' := 0) (l := 0) (h := 128) rfl EvB.dflt EvB.dflt (by decide) (by decide) Try.underlying53 Try.sizeOf5 rfl) ?_
    refine WL.q (Wn.no rfl) rfl rfl (R.move (v := (vi 1)) rfl) ?_
    refine WL.q (Wn.no rfl) rfl rfl (R.bin (v := (vi 3)) rfl rfl (bi_add (c := 3) (by omega) (by omega))) ?_
    refine WL.call (al := [(.slice (some ⟨b_1, 0, none⟩) 128 128), (vi 3)]) Try.call51 rfl rfl (c_WordR (some ⟨b_1, 0, none⟩) 128 128 g hg 3 (by omega) _ (viewB (h_36.ok _ (.tail _ (.tail _ (.head _)))) Sg.h)) rfl ?_
    rintro _ w_38 ⟨rfl, hc_37⟩
    have h_39 := h_36.same hc_37
    refine WL.q (Wn.no rfl) rfl rfl (R.fieldAddr (b := b_31) (off := 0) (off' := 1) rfl Try.underlying45 rfl Try.sizeOf23 rfl rfl) ?_
    refine WL.q (Wn.no rfl) rfl rfl (R.indexA (b := b_31) (off := 1) (off' := 2) (i := 1) rfl rfl rfl (by decide) Try.underlying23 Try.sizeOf22 rfl) ?_
    refine WL.storeE (b := b_31) (off := 2) (i := 1) (v := (vu64 (wordB g 3))) (cs' := ([wordB g 2, wordB g 3, 0, 0, 0, 0, 0, 0] : List UInt64).map vu64) h_39 rfl rfl Try.sizeOf22 rfl At.h (by decide) (Sg.t rfl Sg.h) rfl (lt_len (K := 8) (len_map (rfl : List.length ([wordB g 2, 0, 0, 0, 0, 0, 0, 0] : List UInt64) = 8)) (by decide)) ((set_u64 _ _ _).trans rfl) (fun w_40 h_41 => ?_)
    refine WL.nil ?_
    refine inb_n ?_
    refine thn_n ?_
    refine WP.reg ?_
    refine WL.q (Wn.no rfl) rfl rfl (R.move (v := (vi 1)) rfl) ?_
    refine WL.q (Wn.no rfl) rfl rfl (R.bin (v := (vi 2)) rfl rfl (bi_add (c := 2) (by omega) (by omega))) ?_
    refine WL.q (Wn.no rfl) rfl rfl (R.assign (v := (vi 2)) rfl) ?_
    refine WL.nil ?_
    refine thn_n ?_
    refine WI.round ?_
    refine WP.seq ?_
    refine WP.seq ?_
    refine WP.reg ?_
    refine WL.q (Wn.no rfl) rfl rfl (R.move (v := (vi 2)) rfl) ?_
    refine WL.q (Wn.no rfl) rfl rfl (R.bin (v := (.bool true)) rfl rfl (bi_lss (r := true) (by decide))) ?_
    refine WL.nil ?_
    refine thn_n ?_
    refine WP.condT rfl ?_
    refine WP.skip ?_
    refine thn_n ?_
    refine WP.seq ?_
    refine WP.block ?_
    refine WP.reg ?_
    refine WL.q (Wn.no rfl) rfl rfl (R.move (v := (vi 2)) rfl) ?_
    refine WL.q (Wn.no rfl) rfl rfl (R.sliceA (b := b_1) (off := 0) (off' := 0) (l := 0) (h := 128) rfl EvB.dflt EvB.dflt (by decide) (by decide) Try.underlying53 Try.sizeOf5 rfl) ?_
    refine WL.q (Wn.no rfl) rfl rfl (R.move (v := (vi 2)) rfl) ?_
    refine WL.q (Wn.no rfl) rfl rfl (R.bin (v := (vi 4)) rfl rfl (bi_add (c := 4) (by omega) (by omega))) ?_
    refine WL.call (al := [(.slice (some ⟨b_1, 0, none⟩) 128 128), (vi 4)]) Try.call51 rfl rfl (c_WordR (some ⟨b_1, 0, none⟩) 128 128 g hg 4 (by omega) _ (viewB (h_41.ok _ (.tail _ (.tail _ (.head _)))) Sg.h)) rfl ?_
    rintro _ w_43 ⟨rfl, hc_42⟩
    have h_44 := h_41.same hc_42
    refine WL.q (Wn.no rfl) rfl rfl (R.fieldAddr (b := b_31) (off := 0) (off' := 1) rfl Try.underlying45 rfl Try.sizeOf23 rfl rfl) ?_
    refine WL.q (Wn.no rfl) rfl rfl (R.indexA (b := b_31) (off := 1) (off' := 3) (i := 2) rfl rfl rfl (by decide) Try.underlying23 Try.sizeOf22 rfl) ?_
    refine WL.storeE (b := b_31) (off := 3) (i := 2) (v := (vu64 (wordB g 4))) (cs' := ([wordB g 2, wordB g 3, wordB g 4, 0, 0, 0, 0, 0] : List UInt64).map vu64) h_44 rfl rfl Try.sizeOf22 rfl At.h (by decide) (Sg.t rfl Sg.h) rfl (lt_len (K := 8) (len_map (rfl : List.length ([wordB g 2, wordB g 3, 0, 0, 0, 0, 0, 0] : List UInt64) = 8)) (by decide)) ((set_u64 _ _ _).trans rfl) (fun w_45 h_46 => ?_)
    refine WL.nil ?_
    refine inb_n ?_
    refine thn_n ?_
    refine WP.reg ?_
    refine WL.q (Wn.no rfl) rfl rfl (R.move (v := (vi 2)) rfl) ?_
    refine WL.q (Wn.no rfl) rfl rfl (R.bin (v := (vi 3)) rfl rfl (bi_add (c := 3) (by omega) (by omega))) ?_
    refine WL.q (Wn.no rfl) rfl rfl (R.assign (v := (vi 3)) rfl) ?_
    refine WL.nil ?_
    refine thn_n ?_
    refine WI.round ?_
    refine WP.seq ?_
    refine WP.seq ?_
    refine WP.reg ?_
    refine WL.q (Wn.no rfl) rfl rfl (R.move (v := (vi 3)) rfl) ?_
    refine WL.q (Wn.no rfl) rfl rfl (R.bin (v := (.bool true)) rfl rfl (bi_lss (r := true) (by decide))) ?_
    refine WL.nil ?_
    refine thn_n ?_
    refine WP.condT rfl ?_
    refine WP.skip ?_
    refine thn_n ?_
    refine WP.seq ?_
    refine WP.block ?_
    refine WP.reg ?_
    refine WL.q (Wn.no rfl) rfl rfl (R.move (v := (vi 3)) rfl) ?_
    refine WL.q (Wn.no rfl) rfl rfl (R.sliceA (b := b_1) (off := 0) (off' := 0) (l := 0) (h := 128) rfl EvB.dflt EvB.dflt (by decide) (by decide) Try.underlying53 Try.sizeOf5 rfl) ?_
    refine WL.q (Wn.no rfl) rfl rfl (R.move (v := (vi 3)) rfl) ?_
    refine WL.q (Wn.no rfl) rfl rfl (R.bin (v := (vi 5)) rfl rfl (bi_add (c := 5) (by omega) (by omega))) ?_
    refine WL.call (al := [(.slice (some ⟨b_1, 0, none⟩) 128 128), (vi 5)]) Try.call51 rfl rfl (c_WordR (some ⟨b_1, 0, none⟩) 128 128 g hg 5 (by omega) _ (viewB (h_46.ok _ (.tail _ (.tail _ (.head _)))) Sg.h)) rfl ?_
    rintro _ w_48 ⟨rfl, hc_47⟩
    have h_49 := h_46.same hc_47
    refine WL.q (Wn.no rfl) rfl rfl (R.fieldAddr (b := b_31) (off := 0) (off' := 1) rfl Try.underlying45 rfl Try.sizeOf23 rfl rfl) ?_
    refine WL.q (Wn.no rfl) rfl rfl (R.indexA (b := b_31) (off := 1) (off' := 4) (i := 3) rfl rfl rfl (by decide) Try.underlying23 Try.sizeOf22 rfl) ?_
    refine WL.storeE (b := b_31) (off := 4) (i := 3) (v := (vu64 (wordB g 5))) (cs' := ([wordB g 2, wordB g 3, wordB g 4, wordB g 5, 0, 0, 0, 0] : List UInt64).map vu64) h_49 rfl rfl Try.sizeOf22 rfl At.h (by decide) (Sg.t rfl Sg.h) rfl (lt_len (K := 8) (len_map (rfl : List.length ([wordB g 2, wordB g 3, wordB g 4, 0, 0, 0, 0, 0] : List UInt64) = 8)) (by decide)) ((set_u64 _ _ _).trans rfl) (fun w_50 h_51 => ?_)
    refine WL.nil ?_
    refine inb_n ?_
    refine thn_n ?_
    refine WP.reg ?_
    refine WL.q (Wn.no rfl) rfl rfl (R.move (v := (vi 3)) rfl) ?_
    refine WL.q (Wn.no rfl) rfl rfl (R.bin (v := (vi 4)) rfl rfl (bi_add (c := 4) (by omega) (by omega))) ?_
    refine WL.q (Wn.no rfl) rfl rfl (R.assign (v := (vi 4)) rfl) ?_
    refine WL.nil ?_
    refine thn_n ?_
    refine WI.round ?_
    refine WP.seq ?_
    refine WP.seq ?_
    refine WP.reg ?_
    refine WL.q (Wn.no rfl) rfl rfl (R.move (v := (vi 4)) rfl) ?_
    refine WL.q (Wn.no rfl) rfl rfl (R.bin (v := (.bool true)) rfl rfl (bi_lss (r := true) (by decide))) ?_
    refine WL.nil ?_
    refine thn_n ?_
    refine WP.condT rfl ?_
    refine WP.skip ?_
    refine thn_n ?_
    refine WP.seq ?_
    refine WP.block ?_
    refine WP.reg ?_
    refine WL.q (Wn.no rfl) rfl rfl (R.move (v := (vi 4)) rfl) ?_
    refine WL.q (Wn.no rfl) rfl rfl (R.sliceA (b := b_1) (off := 0) (off' := 0) (l := 0) (h := 128) rfl EvB.dflt EvB.dflt (by decide) (by decide) Try.underlying53 Try.sizeOf5 rfl) ?_
    refine WL.q (Wn.no rfl) rfl rfl (R.move (v := (vi 4)) rfl) ?_
    refine WL.q (Wn.no rfl) rfl rfl (R.bin (v := (vi 6)) rfl rfl (bi_add (c := 6) (by omega) (by omega))) ?_
    refine WL.call (al := [(.slice (some ⟨b_1, 0, none⟩) 128 128), (vi 6)]) Try.call51 rfl rfl (c_WordR (some ⟨b_1, 0, none⟩) 128 128 g hg 6 (by omega) _ (viewB (h_51.ok _ (.tail _ (.tail _ (.head _)))) Sg.h)) rfl ?_
    rintro _ w_53 ⟨rfl, hc_52⟩
    have h_54 := h_51.same hc_52
    refine WL.q (Wn.no rfl) rfl rfl (R.fieldAddr (b := b_31) (off := 0) (off' := 1) rfl Try.underlying45 rfl Try.sizeOf23 rfl rfl) ?_
    refine WL.q (Wn.no rfl) rfl rfl (R.indexA (b := b_31) (off := 1) (off' := 5) (i := 4) rfl rfl rfl (by decide) Try.underlying23 Try.sizeOf22 rfl) ?_
    refine WL.storeE (b := b_31) (off := 5) (i := 4) (v := (vu64 (wordB g 6))) (cs' := ([wordB g 2, wordB g 3, wordB g 4, wordB g 5, wordB g 6, 0, 0, 0] : List UInt64).map vu64) h_54 rfl rfl Try.sizeOf22 rfl At.h (by decide) (Sg.t rfl Sg.h) rfl (lt_len (K := 8) (len_map (rfl : List.length ([wordB g 2, wordB g 3, wordB g 4, wordB g 5, 0, 0, 0, 0] : List UInt64) = 8)) (by decide)) ((set_u64 _ _ _).trans rfl) (fun w_55 h_56 => ?_)
    refine WL.nil ?_
    refine inb_n ?_
    refine thn_n ?_
    refine WP.reg ?_
    refine WL.q (Wn.no rfl) rfl rfl (R.move (v := (vi 4)) rfl) ?_
    refine WL.q (Wn.no rfl) rfl rfl (R.bin (v := (vi 5)) rfl rfl (bi_add (c := 5) (by omega) (by omega))) ?_
    refine WL.q (Wn.no rfl) rfl rfl (R.assign (v := (vi 5)) rfl) ?_
    refine WL.nil ?_
    refine thn_n ?_
    refine WI.round ?_
    refine WP.seq ?_
    refine WP.seq ?_
    refine WP.reg ?_
    refine WL.q (Wn.no rfl) rfl rfl (R.move (v := (vi 5)) rfl) ?_
    refine WL.q (Wn.no rfl) rfl rfl (R.bin (v := (.bool true)) rfl rfl (bi_lss (r := true) (by decide))) ?_
    refine WL.nil ?_
    refine thn_n ?_
    refine WP.condT rfl ?_
    refine WP.skip ?_
    refine thn_n ?_
    refine WP.seq ?_
    refine WP.block ?_
    refine WP.reg ?_
    refine WL.q (Wn.no rfl) rfl rfl (R.move (v := (vi 5)) rfl) ?_
    refine WL.q (Wn.no rfl) rfl rfl (R.sliceA (b := b_1) (off := 0) (off' := 0) (l := 0) (h := 128) rfl EvB.dflt EvB.dflt (by decide) (by decide) Try.underlying53 Try.sizeOf5 rfl) ?_
    refine WL.q (Wn.no rfl) rfl rfl (R.move (v := (vi 5)) rfl) ?_
    refine WL.q (Wn.no rfl) rfl rfl (R.bin (v := (vi 7)) rfl rfl (bi_add (c := 7) (by omega) (by omega))) ?_
    refine WL.call (al := [(.slice (some ⟨b_1, 0, none⟩) 128 128), (vi 7)]) Try.call51 rfl rfl (c_WordR (some ⟨b_1, 0, none⟩) 128 128 g hg 7 (by omega) _ (viewB (h_56.ok _ (.tail _ (.tail _ (.head _)))) Sg.h)) rfl ?_
    rintro _ w_58 ⟨rfl, hc_57⟩
    have h_59 := h_56.same hc_57
    refine WL.q (Wn.no rfl) rfl rfl (R.fieldAddr (b := b_31) (off := 0) (off' := 1) rfl Try.underlying45 rfl Try.sizeOf23 rfl rfl) ?_
    refine WL.q (Wn.no rfl) rfl rfl (R.indexA (b := b_31) (off := 1) (off' := 6) (i := 5) rfl rfl rfl (by decide) Try.underlying23 Try.sizeOf22 rfl) ?_
    refine WL.storeE (b := b_31) (off := 6) (i := 5) (v := (vu64 (wordB g 7))) (cs' := ([wordB g 2, wordB g 3, wordB g 4, wordB g 5, wordB g 6, wordB g 7, 0, 0] : List UInt64).map vu64) h_59 rfl rfl Try.sizeOf22 rfl At.h (by decide) (Sg.t rfl Sg.h) rfl (lt_len (K := 8) (len_map (rfl : List.length ([wordB g 2, wordB g 3, wordB g 4, wordB g 5, wordB g 6, 0, 0, 0] : List UInt64) = 8)) (by decide)) ((set_u64 _ _ _).trans rfl) (fun w_60 h_61 => ?_)
    refine WL.nil ?_
    refine inb_n ?_
    refine thn_n ?_
    refine WP.reg ?_
    refine WL.q (Wn.no rfl) rfl rfl (R.move (v := (vi 5)) rfl) ?_
    refine WL.q (Wn.no rfl) rfl rfl (R.bin (v := (vi 6)) rfl rfl (bi_add (c := 6) (by omega) (by omega))) ?_
    refine WL.q (Wn.no rfl) rfl rfl (R.assign (v := (vi 6)) rfl) ?_
    refine WL.nil ?_
    refine thn_n ?_
    refine WI.round ?_
    refine WP.seq ?_
    refine WP.seq ?_
    refine WP.reg ?_
    refine WL.q (Wn.no rfl) rfl rfl (R.move (v := (vi 6)) rfl) ?_
    refine WL.q (Wn.no rfl) rfl rfl (R.bin (v := (.bool true)) rfl rfl (bi_lss (r := true) (by decide))) ?_
    refine WL.nil ?_
    refine thn_n ?_
    refine WP.condT rfl ?_
    refine WP.skip ?_
    refine thn_n ?_
    refine WP.seq ?_
    refine WP.block ?_
    refine WP.reg ?_
    refine WL.q (Wn.no rfl) rfl rfl (R.move (v := (vi 6)) rfl) ?_
    refine WL.q (Wn.no rfl) rfl rfl (R.sliceA (b := b_1) (off := 0) (off' := 0) (l := 0) (h := 128) rfl EvB.dflt EvB.dflt (by decide) (by decide) Try.underlying53 Try.sizeOf5 rfl) ?_
    refine WL.q (Wn.no rfl) rfl rfl (R.move (v := (vi 6)) rfl) ?_
    refine WL.q (Wn.no rfl) rfl rfl (R.bin (v := (vi 8)) rfl rfl (bi_add (c := 8) (by omega) (by omega))) ?_
    refine WL.call (al := [(.slice (some ⟨b_1, 0, none⟩) 128 128), (vi 8)]) Try.call51 rfl rfl (c_WordR (some ⟨b_1, 0, none⟩) 128 128 g hg 8 (by omega) _ (viewB (h_61.ok _ (.tail _ (.tail _ (.head _)))) Sg.h)) rfl ?_
    rintro _ w_63 ⟨rfl, hc_62⟩
    have h_64 := h_61.same hc_62
    refine WL.q (Wn.no rfl) rfl rfl (R.fieldAddr (b := b_31) (off := 0) (off' := 1) rfl Try.underlying45 rfl Try.sizeOf23 rfl rfl) ?_
    refine WL.q (Wn.no rfl) rfl rfl (R.indexA (b := b_31) (off := 1) (off' := 7) (i := 6) rfl rfl rfl (by decide) Try.underlying23 Try.sizeOf22 rfl) ?_
    refine WL.storeE (b := b_31) (off := 7) (i := 6) (v := (vu64 (wordB g 8))) (cs' := ([wordB g 2, wordB g 3, wordB g 4, wordB g 5, wordB g 6, wordB g 7, wordB g 8, 0] : List UInt64).map vu64) h_64 rfl rfl Try.sizeOf22 rfl At.h (by decide) (Sg.t rfl Sg.h) rfl (lt_len (K := 8) (len_map (rfl : List.length ([wordB g 2, wordB g 3, wordB g 4, wordB g 5, wordB g 6, wordB g 7, 0, 0] : List UInt64) = 8)) (by decide)) ((set_u64 _ _ _).trans rfl) (fun w_65 h_66 => ?_)
    refine WL.nil ?_
    refine inb_n ?_
    refine thn_n ?_
    refine WP.reg ?_
    refine WL.q (Wn.no rfl) rfl rfl (R.move (v := (vi 6)) rfl) ?_
    refine WL.q (Wn.no rfl) rfl rfl (R.bin (v := (vi 7)) rfl rfl (bi_add (c := 7) (by omega) (by omega))) ?_
    refine WL.q (Wn.no rfl) rfl rfl (R.assign (v := (vi 7)) rfl) ?_
    refine WL.nil ?_
    refine thn_n ?_
    refine WI.round ?_
    refine WP.seq ?_
    refine WP.seq ?_
    refine WP.reg ?_
    refine WL.q (Wn.no rfl) rfl rfl (R.move (v := (vi 7)) rfl) ?_
    refine WL.q (Wn.no rfl) rfl rfl (R.bin (v := (.bool true)) rfl rfl (bi_lss (r := true) (by decide))) ?_
    refine WL.nil ?_
    refine thn_n ?_
    refine WP.condT rfl ?_
    refine WP.skip ?_
    refine thn_n ?_
    refine WP.seq ?_
    refine WP.block ?_
    refine WP.reg ?_
    refine WL.q (Wn.no rfl) rfl rfl (R.move (v := (vi 7)) rfl) ?_
    refine WL.q (Wn.no rfl) rfl rfl (R.sliceA (b := b_1) (off := 0) (off' := 0) (l := 0) (h := 128) rfl EvB.dflt EvB.dflt (by decide) (by decide) Try.underlying53 Try.sizeOf5 rfl) ?_
    refine WL.q (Wn.no rfl) rfl rfl (R.move (v := (vi 7)) rfl) ?_
    refine WL.q (Wn.no rfl) rfl rfl (R.bin (v := (vi 9)) rfl rfl (bi_add (c := 9) (by omega) (by omega))) ?_
    refine WL.call (al := [(.slice (some ⟨b_1, 0, none⟩) 128 128), (vi 9)]) Try.call51 rfl rfl (c_WordR (some ⟨b_1, 0, none⟩) 128 128 g hg 9 (by omega) _ (viewB (h_66.ok _ (.tail _ (.tail _ (.head _)))) Sg.h)) rfl ?_
    rintro _ w_68 ⟨rfl, hc_67⟩
    have h_69 := h_66.same hc_67
    refine WL.q (Wn.no rfl) rfl rfl (R.fieldAddr (b := b_31) (off := 0) (off' := 1) rfl Try.underlying45 rfl Try.sizeOf23 rfl rfl) ?_
    refine WL.q (Wn.no rfl) rfl rfl (R.indexA (b := b_31) (off := 1) (off' := 8) (i := 7) rfl rfl rfl (by decide) Try.underlying23 Try.sizeOf22 rfl) ?_
    refine WL.storeE (b := b_31) (off := 8) (i := 7) (v := (vu64 (wordB g 9))) (cs' := ([wordB g 2, wordB g 3, wordB g 4, wordB g 5, wordB g 6, wordB g 7, wordB g 8, wordB g 9] : List UInt64).map vu64) h_69 rfl rfl Try.sizeOf22 rfl At.h (by decide) (Sg.t rfl Sg.h) rfl (lt_len (K := 8) (len_map (rfl : List.length ([wordB g 2, wordB g 3, wordB g 4, wordB g 5, wordB g 6, wordB g 7, wordB g 8, 0] : List UInt64) = 8)) (by decide)) ((set_u64 _ _ _).trans rfl) (fun w_70 h_71 => ?_)
    refine WL.nil ?_
    refine inb_n ?_
    refine thn_n ?_
    refine WP.reg ?_
    refine WL.q (Wn.no rfl) rfl rfl (R.move (v := (vi 7)) rfl) ?_
    refine WL.q (Wn.no rfl) rfl rfl (R.bin (v := (vi 8)) rfl rfl (bi_add (c := 8) (by omega) (by omega))) ?_
    refine WL.q (Wn.no rfl) rfl rfl (R.assign (v := (vi 8)) rfl) ?_
    refine WL.nil ?_
    refine thn_n ?_
    refine WI.round ?_
    refine WP.seq ?_
    refine WP.seq ?_
    refine WP.reg ?_
    refine WL.q (Wn.no rfl) rfl rfl (R.move (v := (vi 8)) rfl) ?_
    refine WL.q (Wn.no rfl) rfl rfl (R.bin (v := (.bool false)) rfl rfl (bi_lss (r := false) (by decide))) ?_
    refine WL.nil ?_
    refine thn_n ?_
    refine WP.condF rfl ?_
    refine WP.exit ?_
    refine thn_x ?_
    refine thn_x ?_
    refine inb_hit ?_
    refine thn_n ?_
    refine WP.seq ?_
    refine WP.seq ?_
    refine WP.drawT (SL w.heap.size [.blk b_31 .nw 45 [(1, [(vu64 (wordB g 1))]), (8, ([wordB g 2, wordB g 3, wordB g 4, wordB g 5, wordB g 6, wordB g 7, wordB g 8, wordB g 9] : List UInt64).map vu64), (1, [(.bool (decide ((g.getD 80 0 : UInt8) = 1)))])], .blk b_4 .nw 45 [(1, [(vu64 0)]), (8, (List.replicate 8 (0 : UInt64)).map vu64), (1, [(.bool false)])], .blk b_1 .nw 53 [(128, g.map vu8)]]) (.q 0 (.s 1 (.q 2 (.q 3 (.q 4 (.q 6 (.s 5 (.q 7 (.q 8 .nil))))))))) (by kernel_rfl) (by kernel_rfl) rfl (by kernel_rfl) (fun w_72 hc_74 => (SL.cons ((h_71.same hc_74).ok _ (.head _)) (SL.cons ((h_71.same hc_74).ok _ (.tail _ (.head _))) (SL.cons ((h_71.same hc_74).ok _ (.tail _ (.tail _ (.head _)))) (SL.nil _ _))))) (fun w_72 hc_74 => ?_)
    have h_73 := h_71.same hc_74
    refine WT.q rfl (Wn.no rfl) rfl rfl (fun wq hS => R.loadA (b := b_31) (off := 0) [] [(1, [(vu64 (wordB g 1))]), (8, ([wordB g 2, wordB g 3, wordB g 4, wordB g 5, wordB g 6, wordB g 7, wordB g 8, wordB g 9] : List UInt64).map vu64), (1, [(.bool (decide ((g.getD 80 0 : UInt8) = 1)))])] [] (cs := flat [(1, [(vu64 (wordB g 1))]), (8, ([wordB g 2, wordB g 3, wordB g 4, wordB g 5, wordB g 6, wordB g 7, wordB g 8, wordB g 9] : List UInt64).map vu64), (1, [(.bool (decide ((g.getD 80 0 : UInt8) = 1)))])]) rfl Try.isAgg45 Try.sizeOf45 (hS _ (.head _)) rfl rfl rfl rfl) ?_
    refine WT.s ?_
    refine Op1.one rfl (Wn.no rfl) ?_
    refine WL.call (al := [(.agg ⟨flat [(1, [(vu64 (wordB g 1))]), (8, ([wordB g 2, wordB g 3, wordB g 4, wordB g 5, wordB g 6, wordB g 7, wordB g 8, wordB g 9] : List UInt64).map vu64), (1, [(.bool (decide ((g.getD 80 0 : UInt8) = 1)))])]⟩)]) Try.call26 rfl rfl (c_MayRecR (wordB g 1) ([wordB g 2, wordB g 3, wordB g 4, wordB g 5, wordB g 6, wordB g 7, wordB g 8, wordB g 9] : List UInt64) (rfl : List.length ([wordB g 2, wordB g 3, wordB g 4, wordB g 5, wordB g 6, wordB g 7, wordB g 8, wordB g 9] : List UInt64) = 8) (decide ((g.getD 80 0 : UInt8) = 1)) _ ) rfl ?_
    rintro _ w_76 ⟨rfl, hc_75⟩
    have h_77 := h_73.same hc_75
    refine WL.nil ?_
    refine ⟨(SL.cons (h_77.ok _ (.head _)) (SL.cons (h_77.ok _ (.tail _ (.head _))) (SL.cons (h_77.ok _ (.tail _ (.tail _ (.head _)))) (SL.nil _ _)))), ?_⟩
    refine WT.q rfl (Wn.no rfl) rfl rfl (fun wq hS => R.not (b := mayRec (wordB g 1)) rfl) ?_
    refine WT.q rfl (Wn.no rfl) rfl rfl (fun wq hS => R.move (v := (.bool (!(mayRec (wordB g 1))))) rfl) ?_
    rcases Bool.eq_false_or_eq_true (!(mayRec (wordB g 1))) with c_78 | c_78
    · refine WT.skipQ rfl rfl rfl (boolNe (v := .bool true) (congrArg Value.bool c_78) (by decide)) rfl rfl ?_
      refine WT.skipQ rfl rfl rfl (boolNe (v := .bool true) (congrArg Value.bool c_78) (by decide)) rfl rfl ?_
      refine WT.s ?_
      refine Op1.skip rfl rfl rfl (boolNe (v := .bool true) (congrArg Value.bool c_78) (by decide)) rfl rfl ?_
      refine WT.skipQ rfl rfl rfl (boolNe (v := .bool true) (congrArg Value.bool c_78) (by decide)) rfl rfl ?_
      refine WT.q rfl (Wn.no rfl) rfl rfl (fun wq hS => R.pickT (v := (.bool true)) (congrArg Value.bool c_78) rfl) ?_
      refine WT.nil ?_
      refine thn_n ?_
      refine WP.condT rfl ?_
      refine WP.seq ?_
      refine WP.reg ?_
      refine WL.q (Wn.no rfl) rfl rfl (R.buildS (pl := [(0, 1), (1, 8), (9, 1)]) (zs := [(1, [(vu64 0)]), (8, (List.replicate 8 (0 : UInt64)).map vu64), (1, [(.bool false)])]) (vs := []) (out := [(1, [(vu64 0)]), (8, (List.replicate 8 (0 : UInt64)).map vu64), (1, [(.bool false)])]) (cs := flat [(1, [(vu64 0)]), (8, (List.replicate 8 (0 : UInt64)).map vu64), (1, [(.bool false)])]) Try.underlying45 (zv Try.typeInfo45 rfl) rfl (SsOk.cons (SOk.v rfl) (SsOk.cons (SOk.u64 (List.length_replicate ..)) (SsOk.cons (SOk.v rfl) SsOk.nil))) (pl45 _ Try.underlying45) rfl FillR.nil rfl) ?_
      refine WL.storeA (b := b_4) (off := 0) [] [(1, [(vu64 0)]), (8, (List.replicate 8 (0 : UInt64)).map vu64), (1, [(.bool false)])] [(1, [(vu64 0)]), (8, (List.replicate 8 (0 : UInt64)).map vu64), (1, [(.bool false)])] [] (ys := flat [(1, [(vu64 0)]), (8, (List.replicate 8 (0 : UInt64)).map vu64), (1, [(.bool false)])]) h_77 rfl rfl Try.sizeOf45 (At.t At.h) (by decide) rfl rfl rfl rfl rfl rfl (SsOk.cons (SOk.v rfl) (SsOk.cons (SOk.u64 (List.length_replicate ..)) (SsOk.cons (SOk.v rfl) SsOk.nil))) (fun w_80 h_81 => ?_)
      refine WL.q (Wn.no rfl) rfl rfl (R.assign (v := (.bool false)) rfl) ?_
      refine WL.nil ?_
      refine thn_n ?_
      refine WP.ret ?_
      refine thn_r ?_
      refine ret_of Try.results34 (RV.cell rfl (h_81.loadA (cs := flat [(1, [(vu64 0)]), (8, (List.replicate 8 (0 : UInt64)).map vu64), (1, [(.bool false)])]) Try.isAgg45 Try.sizeOf45 (.tail _ (.head _)) rfl rfl) (RV.tmp (v := (.bool false)) rfl RV.nil)) ?_
      exact ⟨rfl, h_81.chgS⟩
    · refine WT.q rfl (Wn.yes rfl rfl (congrArg Value.bool c_78)) rfl rfl (fun wq hS => R.loadA (b := b_31) (off := 0) [] [(1, [(vu64 (wordB g 1))]), (8, ([wordB g 2, wordB g 3, wordB g 4, wordB g 5, wordB g 6, wordB g 7, wordB g 8, wordB g 9] : List UInt64).map vu64), (1, [(.bool (decide ((g.getD 80 0 : UInt8) = 1)))])] [] (cs := flat [(1, [(vu64 (wordB g 1))]), (8, ([wordB g 2, wordB g 3, wordB g 4, wordB g 5, wordB g 6, wordB g 7, wordB g 8, wordB g 9] : List UInt64).map vu64), (1, [(.bool (decide ((g.getD 80 0 : UInt8) = 1)))])]) rfl Try.isAgg45 Try.sizeOf45 (hS _ (.head _)) rfl rfl rfl rfl) ?_
      refine WT.q rfl (Wn.yes rfl rfl (congrArg Value.bool c_78)) rfl rfl (fun wq hS => R.loadA (b := b_1) (off := 0) [] [(128, g.map vu8)] [] (cs := g.map vu8) rfl Try.isAgg53 Try.sizeOf53 (hS _ (.tail _ (.tail _ (.head _)))) rfl rfl rfl rfl) ?_
      refine WT.s ?_
      refine Op1.one rfl (Wn.yes rfl rfl (congrArg Value.bool c_78)) ?_
      refine WL.call (al := [(.agg ⟨flat [(1, [(vu64 (wordB g 1))]), (8, ([wordB g 2, wordB g 3, wordB g 4, wordB g 5, wordB g 6, wordB g 7, wordB g 8, wordB g 9] : List UInt64).map vu64), (1, [(.bool (decide ((g.getD 80 0 : UInt8) = 1)))])]⟩)]) Try.call27 rfl rfl (c_RecBytesR (wordB g 1) ([wordB g 2, wordB g 3, wordB g 4, wordB g 5, wordB g 6, wordB g 7, wordB g 8, wordB g 9] : List UInt64) (rfl : List.length ([wordB g 2, wordB g 3, wordB g 4, wordB g 5, wordB g 6, wordB g 7, wordB g 8, wordB g 9] : List UInt64) = 8) (decide ((g.getD 80 0 : UInt8) = 1)) _ ) rfl ?_
      rintro _ w_83 ⟨rfl, hc_82⟩
      have h_84 := h_77.same hc_82
      refine WL.nil ?_
      refine ⟨(SL.cons (h_84.ok _ (.head _)) (SL.cons (h_84.ok _ (.tail _ (.head _))) (SL.cons (h_84.ok _ (.tail _ (.tail _ (.head _)))) (SL.nil _ _)))), ?_⟩
      refine WT.q rfl (Wn.yes rfl rfl (congrArg Value.bool c_78)) rfl rfl (fun wq hS => R.neA (xs := (recB (wordB g 1) ([wordB g 2, wordB g 3, wordB g 4, wordB g 5, wordB g 6, wordB g 7, wordB g 8, wordB g 9] : List UInt64) (decide ((g.getD 80 0 : UInt8) = 1))).map vu8) (ys := g.map vu8) (r := !decide (recB (wordB g 1) ([wordB g 2, wordB g 3, wordB g 4, wordB g 5, wordB g 6, wordB g 7, wordB g 8, wordB g 9] : List UInt64) (decide ((g.getD 80 0 : UInt8) = 1)) = g)) rfl rfl Try.eqGuardType53 kt53 (by decide) ag53 (Typ.u8s Try.underlying53 ce53 Try.underlying5 ce5 (recB_len ..)) (Typ.u8s Try.underlying53 ce53 Try.underlying5 ce5 hg) (map_inj_u8.trans (decN _))) ?_
      refine WT.q rfl (Wn.no rfl) rfl rfl (fun wq hS => R.pickF (v := (.bool (!decide (recB (wordB g 1) ([wordB g 2, wordB g 3, wordB g 4, wordB g 5, wordB g 6, wordB g 7, wordB g 8, wordB g 9] : List UInt64) (decide ((g.getD 80 0 : UInt8) = 1)) = g)))) (congrArg Value.bool c_78) rfl) ?_
      refine WT.nil ?_
      refine thn_n ?_
      refine WP.cond (b := !decide (recB (wordB g 1) ([wordB g 2, wordB g 3, wordB g 4, wordB g 5, wordB g 6, wordB g 7, wordB g 8, wordB g 9] : List UInt64) (decide ((g.getD 80 0 : UInt8) = 1)) = g)) rfl (fun c_85 => ?_) (fun c_85 => ?_)
      · refine WP.seq ?_
        refine WP.reg ?_
        refine WL.q (Wn.no rfl) rfl rfl (R.buildS (pl := [(0, 1), (1, 8), (9, 1)]) (zs := [(1, [(vu64 0)]), (8, (List.replicate 8 (0 : UInt64)).map vu64), (1, [(.bool false)])]) (vs := []) (out := [(1, [(vu64 0)]), (8, (List.replicate 8 (0 : UInt64)).map vu64), (1, [(.bool false)])]) (cs := flat [(1, [(vu64 0)]), (8, (List.replicate 8 (0 : UInt64)).map vu64), (1, [(.bool false)])]) Try.underlying45 (zv Try.typeInfo45 rfl) rfl (SsOk.cons (SOk.v rfl) (SsOk.cons (SOk.u64 (List.length_replicate ..)) (SsOk.cons (SOk.v rfl) SsOk.nil))) (pl45 _ Try.underlying45) rfl FillR.nil rfl) ?_
        refine WL.storeA (b := b_4) (off := 0) [] [(1, [(vu64 0)]), (8, (List.replicate 8 (0 : UInt64)).map vu64), (1, [(.bool false)])] [(1, [(vu64 0)]), (8, (List.replicate 8 (0 : UInt64)).map vu64), (1, [(.bool false)])] [] (ys := flat [(1, [(vu64 0)]), (8, (List.replicate 8 (0 : UInt64)).map vu64), (1, [(.bool false)])]) h_84 rfl rfl Try.sizeOf45 (At.t At.h) (by decide) rfl rfl rfl rfl rfl rfl (SsOk.cons (SOk.v rfl) (SsOk.cons (SOk.u64 (List.length_replicate ..)) (SsOk.cons (SOk.v rfl) SsOk.nil))) (fun w_87 h_88 => ?_)
        refine WL.q (Wn.no rfl) rfl rfl (R.assign (v := (.bool false)) rfl) ?_
        refine WL.nil ?_
        refine thn_n ?_
        refine WP.ret ?_
        refine thn_r ?_
        refine ret_of Try.results34 (RV.cell rfl (h_88.loadA (cs := flat [(1, [(vu64 0)]), (8, (List.replicate 8 (0 : UInt64)).map vu64), (1, [(.bool false)])]) Try.isAgg45 Try.sizeOf45 (.tail _ (.head _)) rfl rfl) (RV.tmp (v := (.bool false)) rfl RV.nil)) ?_
        exact ⟨rfl, h_88.chgS⟩
      · refine WP.skip ?_
        refine thn_n ?_
        refine WP.seq ?_
        refine WP.reg ?_
        refine WL.q (Wn.no rfl) rfl rfl (R.loadA (b := b_31) (off := 0) [] [(1, [(vu64 (wordB g 1))]), (8, ([wordB g 2, wordB g 3, wordB g 4, wordB g 5, wordB g 6, wordB g 7, wordB g 8, wordB g 9] : List UInt64).map vu64), (1, [(.bool (decide ((g.getD 80 0 : UInt8) = 1)))])] [] (cs := flat [(1, [(vu64 (wordB g 1))]), (8, ([wordB g 2, wordB g 3, wordB g 4, wordB g 5, wordB g 6, wordB g 7, wordB g 8, wordB g 9] : List UInt64).map vu64), (1, [(.bool (decide ((g.getD 80 0 : UInt8) = 1)))])]) rfl Try.isAgg45 Try.sizeOf45 (h_84.ok _ (.head _)) rfl rfl rfl rfl) ?_
        refine WL.storeA (b := b_4) (off := 0) [] [(1, [(vu64 0)]), (8, (List.replicate 8 (0 : UInt64)).map vu64), (1, [(.bool false)])] [(1, [(vu64 (wordB g 1))]), (8, ([wordB g 2, wordB g 3, wordB g 4, wordB g 5, wordB g 6, wordB g 7, wordB g 8, wordB g 9] : List UInt64).map vu64), (1, [(.bool (decide ((g.getD 80 0 : UInt8) = 1)))])] [] (ys := flat [(1, [(vu64 (wordB g 1))]), (8, ([wordB g 2, wordB g 3, wordB g 4, wordB g 5, wordB g 6, wordB g 7, wordB g 8, wordB g 9] : List UInt64).map vu64), (1, [(.bool (decide ((g.getD 80 0 : UInt8) = 1)))])]) h_84 rfl rfl Try.sizeOf45 (At.t At.h) (by decide) rfl rfl rfl rfl rfl rfl (SsOk.cons (SOk.v rfl) (SsOk.cons (SOk.u64 (rfl : List.length ([wordB g 2, wordB g 3, wordB g 4, wordB g 5, wordB g 6, wordB g 7, wordB g 8, wordB g 9] : List UInt64) = 8)) (SsOk.cons (SOk.v rfl) SsOk.nil))) (fun w_89 h_90 => ?_)
        refine WL.q (Wn.no rfl) rfl rfl (R.assign (v := (.bool true)) rfl) ?_
        refine WL.nil ?_
        refine thn_n ?_
        refine WP.ret ?_
        refine ret_of Try.results34 (RV.cell rfl (h_90.loadA (cs := flat [(1, [(vu64 (wordB g 1))]), (8, ([wordB g 2, wordB g 3, wordB g 4, wordB g 5, wordB g 6, wordB g 7, wordB g 8, wordB g 9] : List UInt64).map vu64), (1, [(.bool (decide ((g.getD 80 0 : UInt8) = 1)))])]) Try.isAgg45 Try.sizeOf45 (.tail _ (.head _)) rfl rfl) (RV.tmp (v := (.bool true)) rfl RV.nil)) ?_
        have h1 := okRec_ne2 h
        simp only [rcR] at h1
        exfalso
        clear h
        simp_all

theorem c_Kind_r (g : List UInt8) (hg : g.length = 128) (h : okRealm g = true) (w : World) :
    Cs Try.prog 35 [(.agg ⟨g.map vu8⟩)].toArray w (fun v w1 => v = .string (bstr ([114, 101, 97, 108, 109] : List UInt8)) ∧ Chg w w1 []) := by
  refine Cs.of (n := 21) (args := [(.agg ⟨g.map vu8⟩)]) Try.func35 rfl rfl rfl ?_
  have h_0 := HP.init w
  refine WP.seq ?_
  refine WP.reg ?_
  refine WL.box (v := (.agg ⟨g.map vu8⟩)) (segs := [(128, g.map vu8)]) h_0 rfl rfl (SsOk.cons (SOk.u8 hg) SsOk.nil) rfl (fun b_1 w_2 h_3 => ?_)
  refine WL.q (Wn.no rfl) rfl rfl (R.assign (v := (.string (bstr ([] : List UInt8)))) rfl) ?_
  refine WL.nil ?_
  refine thn_n ?_
  refine WP.seq ?_
  refine WP.seq ?_
  refine WP.reg ?_
  refine WL.q (Wn.no rfl) rfl rfl (R.loadA (b := b_1) (off := 0) [] [(128, g.map vu8)] [] (cs := g.map vu8) rfl Try.isAgg53 Try.sizeOf53 (h_3.ok _ (.head _)) rfl rfl rfl rfl) ?_
  refine WL.call (al := [(.agg ⟨g.map vu8⟩)]) Try.call32 rfl rfl (c_Realm_t g hg h _ ) rfl ?_
  rintro _ w_5 ⟨rfl, hc_4⟩
  have h_6 := h_3.same hc_4
  refine WL.q (Wn.no rfl) rfl rfl (R.move (v := (.tuple [(.agg ⟨flat [(32, (rlV g).map vu8), (1, [(vu64 (wordB g 5))])]⟩), (vi 0)].toArray)) rfl) ?_
  refine WL.q (Wn.no rfl) rfl rfl (R.extract (l := [(.agg ⟨flat [(32, (rlV g).map vu8), (1, [(vu64 (wordB g 5))])]⟩), (vi 0)]) (v := (.agg ⟨flat [(32, (rlV g).map vu8), (1, [(vu64 (wordB g 5))])]⟩)) rfl rfl) ?_
  refine WL.q (Wn.no rfl) rfl rfl (R.extract (l := [(.agg ⟨flat [(32, (rlV g).map vu8), (1, [(vu64 (wordB g 5))])]⟩), (vi 0)]) (v := (vi 0)) rfl rfl) ?_
  refine WL.alloc (segs := [(32, (List.replicate 32 (0 : UInt8)).map vu8), (1, [(vu64 0)])]) h_6 (zv Try.typeInfo51 rfl) rfl (SsOk.cons (SOk.u8 (List.length_replicate ..)) (SsOk.cons (SOk.v rfl) SsOk.nil)) rfl (fun b_7 w_8 h_9 => ?_)
  refine WL.storeA (b := b_7) (off := 0) [] [(32, (List.replicate 32 (0 : UInt8)).map vu8), (1, [(vu64 0)])] [(32, (rlV g).map vu8), (1, [(vu64 (wordB g 5))])] [] (ys := flat [(32, (rlV g).map vu8), (1, [(vu64 (wordB g 5))])]) h_9 rfl rfl Try.sizeOf51 At.h (by decide) rfl rfl rfl rfl rfl rfl (SsOk.cons (SOk.u8 (by simp only [rlV, List.length_take, List.length_drop, hg]; decide)) (SsOk.cons (SOk.v rfl) SsOk.nil)) (fun w_10 h_11 => ?_)
  refine WL.q (Wn.no rfl) rfl rfl (R.assign (v := (vi 0)) rfl) ?_
  refine WL.nil ?_
  refine thn_n ?_
  refine WP.seq ?_
  refine WP.reg ?_
  refine WL.q (Wn.no rfl) rfl rfl (R.move (v := (vi 0)) rfl) ?_
  refine WL.q (Wn.no rfl) rfl rfl (R.bin (v := (.bool true)) rfl rfl (bi_eql (r := true) (by decide))) ?_
  refine WL.nil ?_
  refine thn_n ?_
  refine WP.condT rfl ?_
  refine WP.seq ?_
  refine WP.reg ?_
  refine WL.q (Wn.no rfl) rfl rfl (R.assign (v := (.string (bstr ([114, 101, 97, 108, 109] : List UInt8)))) rfl) ?_
  refine WL.nil ?_
  refine thn_n ?_
  refine WP.ret ?_
  refine thn_r ?_
  refine ret_of Try.results35 (RV.tmp (v := (.string (bstr ([114, 101, 97, 108, 109] : List UInt8)))) rfl RV.nil) ?_
  exact ⟨rfl, h_11.chgS⟩

theorem c_Kind_c (g : List UInt8) (hg : g.length = 128) (h0 : okRealm g = false) (h : okRec g = true) (w : World) :
    Cs Try.prog 35 [(.agg ⟨g.map vu8⟩)].toArray w (fun v w1 => v = .string (bstr ([114, 101, 99] : List UInt8)) ∧ Chg w w1 []) := by
  refine Cs.of (n := 21) (args := [(.agg ⟨g.map vu8⟩)]) Try.func35 rfl rfl rfl ?_
  have h_0 := HP.init w
  refine WP.seq ?_
  refine WP.reg ?_
  refine WL.box (v := (.agg ⟨g.map vu8⟩)) (segs := [(128, g.map vu8)]) h_0 rfl rfl (SsOk.cons (SOk.u8 hg) SsOk.nil) rfl (fun b_1 w_2 h_3 => ?_)
  refine WL.q (Wn.no rfl) rfl rfl (R.assign (v := (.string (bstr ([] : List UInt8)))) rfl) ?_
  refine WL.nil ?_
  refine thn_n ?_
  refine WP.seq ?_
  refine WP.seq ?_
  refine WP.reg ?_
  refine WL.q (Wn.no rfl) rfl rfl (R.loadA (b := b_1) (off := 0) [] [(128, g.map vu8)] [] (cs := g.map vu8) rfl Try.isAgg53 Try.sizeOf53 (h_3.ok _ (.head _)) rfl rfl rfl rfl) ?_
  refine WL.call (al := [(.agg ⟨g.map vu8⟩)]) Try.call32 rfl rfl (c_Realm_f g hg h0 _ ) rfl ?_
  rintro _ w_5 ⟨rfl, hc_4⟩
  have h_6 := h_3.same hc_4
  refine WL.q (Wn.no rfl) rfl rfl (R.move (v := (.tuple [(.agg ⟨flat [(32, (List.replicate 32 (0 : UInt8)).map vu8), (1, [(vu64 0)])]⟩), (vi 4)].toArray)) rfl) ?_
  refine WL.q (Wn.no rfl) rfl rfl (R.extract (l := [(.agg ⟨flat [(32, (List.replicate 32 (0 : UInt8)).map vu8), (1, [(vu64 0)])]⟩), (vi 4)]) (v := (.agg ⟨flat [(32, (List.replicate 32 (0 : UInt8)).map vu8), (1, [(vu64 0)])]⟩)) rfl rfl) ?_
  refine WL.q (Wn.no rfl) rfl rfl (R.extract (l := [(.agg ⟨flat [(32, (List.replicate 32 (0 : UInt8)).map vu8), (1, [(vu64 0)])]⟩), (vi 4)]) (v := (vi 4)) rfl rfl) ?_
  refine WL.alloc (segs := [(32, (List.replicate 32 (0 : UInt8)).map vu8), (1, [(vu64 0)])]) h_6 (zv Try.typeInfo51 rfl) rfl (SsOk.cons (SOk.u8 (List.length_replicate ..)) (SsOk.cons (SOk.v rfl) SsOk.nil)) rfl (fun b_7 w_8 h_9 => ?_)
  refine WL.storeA (b := b_7) (off := 0) [] [(32, (List.replicate 32 (0 : UInt8)).map vu8), (1, [(vu64 0)])] [(32, (List.replicate 32 (0 : UInt8)).map vu8), (1, [(vu64 0)])] [] (ys := flat [(32, (List.replicate 32 (0 : UInt8)).map vu8), (1, [(vu64 0)])]) h_9 rfl rfl Try.sizeOf51 At.h (by decide) rfl rfl rfl rfl rfl rfl (SsOk.cons (SOk.u8 (List.length_replicate ..)) (SsOk.cons (SOk.v rfl) SsOk.nil)) (fun w_10 h_11 => ?_)
  refine WL.q (Wn.no rfl) rfl rfl (R.assign (v := (vi 4)) rfl) ?_
  refine WL.nil ?_
  refine thn_n ?_
  refine WP.seq ?_
  refine WP.reg ?_
  refine WL.q (Wn.no rfl) rfl rfl (R.move (v := (vi 4)) rfl) ?_
  refine WL.q (Wn.no rfl) rfl rfl (R.bin (v := (.bool false)) rfl rfl (bi_eql (r := false) (by decide))) ?_
  refine WL.nil ?_
  refine thn_n ?_
  refine WP.condF rfl ?_
  refine WP.skip ?_
  refine thn_n ?_
  refine WP.seq ?_
  refine WP.seq ?_
  refine WP.reg ?_
  refine WL.q (Wn.no rfl) rfl rfl (R.loadA (b := b_1) (off := 0) [] [(128, g.map vu8)] [] (cs := g.map vu8) rfl Try.isAgg53 Try.sizeOf53 (h_11.ok _ (.tail _ (.head _))) rfl rfl rfl rfl) ?_
  refine WL.call (al := [(.agg ⟨g.map vu8⟩)]) Try.call28 rfl rfl (c_Rec_t g hg h _ ) rfl ?_
  rintro _ w_13 ⟨rfl, hc_12⟩
  have h_14 := h_11.same hc_12
  refine WL.q (Wn.no rfl) rfl rfl (R.move (v := (.tuple [(.agg ⟨flat [(1, [(vu64 (wordB g 1))]), (8, (rcR g).map vu64), (1, [(.bool (decide (g.getD 80 0 = 1)))])]⟩), (vi 0)].toArray)) rfl) ?_
  refine WL.q (Wn.no rfl) rfl rfl (R.extract (l := [(.agg ⟨flat [(1, [(vu64 (wordB g 1))]), (8, (rcR g).map vu64), (1, [(.bool (decide (g.getD 80 0 = 1)))])]⟩), (vi 0)]) (v := (.agg ⟨flat [(1, [(vu64 (wordB g 1))]), (8, (rcR g).map vu64), (1, [(.bool (decide (g.getD 80 0 = 1)))])]⟩)) rfl rfl) ?_
  refine WL.q (Wn.no rfl) rfl rfl (R.extract (l := [(.agg ⟨flat [(1, [(vu64 (wordB g 1))]), (8, (rcR g).map vu64), (1, [(.bool (decide (g.getD 80 0 = 1)))])]⟩), (vi 0)]) (v := (vi 0)) rfl rfl) ?_
  refine WL.alloc (segs := [(1, [(vu64 0)]), (8, (List.replicate 8 (0 : UInt64)).map vu64), (1, [(.bool false)])]) h_14 (zv Try.typeInfo45 rfl) rfl (SsOk.cons (SOk.v rfl) (SsOk.cons (SOk.u64 (List.length_replicate ..)) (SsOk.cons (SOk.v rfl) SsOk.nil))) rfl (fun b_15 w_16 h_17 => ?_)
  refine WL.storeA (b := b_15) (off := 0) [] [(1, [(vu64 0)]), (8, (List.replicate 8 (0 : UInt64)).map vu64), (1, [(.bool false)])] [(1, [(vu64 (wordB g 1))]), (8, (rcR g).map vu64), (1, [(.bool (decide (g.getD 80 0 = 1)))])] [] (ys := flat [(1, [(vu64 (wordB g 1))]), (8, (rcR g).map vu64), (1, [(.bool (decide (g.getD 80 0 = 1)))])]) h_17 rfl rfl Try.sizeOf45 At.h (by decide) rfl rfl rfl rfl rfl rfl (SsOk.cons (SOk.v rfl) (SsOk.cons (SOk.u64 (rfl : List.length (rcR g) = 8)) (SsOk.cons (SOk.v rfl) SsOk.nil))) (fun w_18 h_19 => ?_)
  refine WL.q (Wn.no rfl) rfl rfl (R.assign (v := (vi 0)) rfl) ?_
  refine WL.nil ?_
  refine thn_n ?_
  refine WP.seq ?_
  refine WP.reg ?_
  refine WL.q (Wn.no rfl) rfl rfl (R.move (v := (vi 0)) rfl) ?_
  refine WL.q (Wn.no rfl) rfl rfl (R.bin (v := (.bool true)) rfl rfl (bi_eql (r := true) (by decide))) ?_
  refine WL.nil ?_
  refine thn_n ?_
  refine WP.condT rfl ?_
  refine WP.seq ?_
  refine WP.reg ?_
  refine WL.q (Wn.no rfl) rfl rfl (R.assign (v := (.string (bstr ([114, 101, 99] : List UInt8)))) rfl) ?_
  refine WL.nil ?_
  refine thn_n ?_
  refine WP.ret ?_
  refine thn_r ?_
  refine ret_of Try.results35 (RV.tmp (v := (.string (bstr ([114, 101, 99] : List UInt8)))) rfl RV.nil) ?_
  exact ⟨rfl, h_19.chgS⟩

theorem c_Kind_n (g : List UInt8) (hg : g.length = 128) (h0 : okRealm g = false) (h : okRec g = false) (w : World) :
    Cs Try.prog 35 [(.agg ⟨g.map vu8⟩)].toArray w (fun v w1 => v = .string (bstr ([] : List UInt8)) ∧ Chg w w1 []) := by
  refine Cs.of (n := 21) (args := [(.agg ⟨g.map vu8⟩)]) Try.func35 rfl rfl rfl ?_
  have h_0 := HP.init w
  refine WP.seq ?_
  refine WP.reg ?_
  refine WL.box (v := (.agg ⟨g.map vu8⟩)) (segs := [(128, g.map vu8)]) h_0 rfl rfl (SsOk.cons (SOk.u8 hg) SsOk.nil) rfl (fun b_1 w_2 h_3 => ?_)
  refine WL.q (Wn.no rfl) rfl rfl (R.assign (v := (.string (bstr ([] : List UInt8)))) rfl) ?_
  refine WL.nil ?_
  refine thn_n ?_
  refine WP.seq ?_
  refine WP.seq ?_
  refine WP.reg ?_
  refine WL.q (Wn.no rfl) rfl rfl (R.loadA (b := b_1) (off := 0) [] [(128, g.map vu8)] [] (cs := g.map vu8) rfl Try.isAgg53 Try.sizeOf53 (h_3.ok _ (.head _)) rfl rfl rfl rfl) ?_
  refine WL.call (al := [(.agg ⟨g.map vu8⟩)]) Try.call32 rfl rfl (c_Realm_f g hg h0 _ ) rfl ?_
  rintro _ w_5 ⟨rfl, hc_4⟩
  have h_6 := h_3.same hc_4
  refine WL.q (Wn.no rfl) rfl rfl (R.move (v := (.tuple [(.agg ⟨flat [(32, (List.replicate 32 (0 : UInt8)).map vu8), (1, [(vu64 0)])]⟩), (vi 4)].toArray)) rfl) ?_
  refine WL.q (Wn.no rfl) rfl rfl (R.extract (l := [(.agg ⟨flat [(32, (List.replicate 32 (0 : UInt8)).map vu8), (1, [(vu64 0)])]⟩), (vi 4)]) (v := (.agg ⟨flat [(32, (List.replicate 32 (0 : UInt8)).map vu8), (1, [(vu64 0)])]⟩)) rfl rfl) ?_
  refine WL.q (Wn.no rfl) rfl rfl (R.extract (l := [(.agg ⟨flat [(32, (List.replicate 32 (0 : UInt8)).map vu8), (1, [(vu64 0)])]⟩), (vi 4)]) (v := (vi 4)) rfl rfl) ?_
  refine WL.alloc (segs := [(32, (List.replicate 32 (0 : UInt8)).map vu8), (1, [(vu64 0)])]) h_6 (zv Try.typeInfo51 rfl) rfl (SsOk.cons (SOk.u8 (List.length_replicate ..)) (SsOk.cons (SOk.v rfl) SsOk.nil)) rfl (fun b_7 w_8 h_9 => ?_)
  refine WL.storeA (b := b_7) (off := 0) [] [(32, (List.replicate 32 (0 : UInt8)).map vu8), (1, [(vu64 0)])] [(32, (List.replicate 32 (0 : UInt8)).map vu8), (1, [(vu64 0)])] [] (ys := flat [(32, (List.replicate 32 (0 : UInt8)).map vu8), (1, [(vu64 0)])]) h_9 rfl rfl Try.sizeOf51 At.h (by decide) rfl rfl rfl rfl rfl rfl (SsOk.cons (SOk.u8 (List.length_replicate ..)) (SsOk.cons (SOk.v rfl) SsOk.nil)) (fun w_10 h_11 => ?_)
  refine WL.q (Wn.no rfl) rfl rfl (R.assign (v := (vi 4)) rfl) ?_
  refine WL.nil ?_
  refine thn_n ?_
  refine WP.seq ?_
  refine WP.reg ?_
  refine WL.q (Wn.no rfl) rfl rfl (R.move (v := (vi 4)) rfl) ?_
  refine WL.q (Wn.no rfl) rfl rfl (R.bin (v := (.bool false)) rfl rfl (bi_eql (r := false) (by decide))) ?_
  refine WL.nil ?_
  refine thn_n ?_
  refine WP.condF rfl ?_
  refine WP.skip ?_
  refine thn_n ?_
  refine WP.seq ?_
  refine WP.seq ?_
  refine WP.reg ?_
  refine WL.q (Wn.no rfl) rfl rfl (R.loadA (b := b_1) (off := 0) [] [(128, g.map vu8)] [] (cs := g.map vu8) rfl Try.isAgg53 Try.sizeOf53 (h_11.ok _ (.tail _ (.head _))) rfl rfl rfl rfl) ?_
  refine WL.call (al := [(.agg ⟨g.map vu8⟩)]) Try.call28 rfl rfl (c_Rec_f g hg h _ ) rfl ?_
  rintro _ w_13 ⟨rfl, hc_12⟩
  have h_14 := h_11.same hc_12
  refine WL.q (Wn.no rfl) rfl rfl (R.move (v := (.tuple [(.agg ⟨flat [(1, [(vu64 0)]), (8, (List.replicate 8 (0 : UInt64)).map vu64), (1, [(.bool false)])]⟩), (vi 4)].toArray)) rfl) ?_
  refine WL.q (Wn.no rfl) rfl rfl (R.extract (l := [(.agg ⟨flat [(1, [(vu64 0)]), (8, (List.replicate 8 (0 : UInt64)).map vu64), (1, [(.bool false)])]⟩), (vi 4)]) (v := (.agg ⟨flat [(1, [(vu64 0)]), (8, (List.replicate 8 (0 : UInt64)).map vu64), (1, [(.bool false)])]⟩)) rfl rfl) ?_
  refine WL.q (Wn.no rfl) rfl rfl (R.extract (l := [(.agg ⟨flat [(1, [(vu64 0)]), (8, (List.replicate 8 (0 : UInt64)).map vu64), (1, [(.bool false)])]⟩), (vi 4)]) (v := (vi 4)) rfl rfl) ?_
  refine WL.alloc (segs := [(1, [(vu64 0)]), (8, (List.replicate 8 (0 : UInt64)).map vu64), (1, [(.bool false)])]) h_14 (zv Try.typeInfo45 rfl) rfl (SsOk.cons (SOk.v rfl) (SsOk.cons (SOk.u64 (List.length_replicate ..)) (SsOk.cons (SOk.v rfl) SsOk.nil))) rfl (fun b_15 w_16 h_17 => ?_)
  refine WL.storeA (b := b_15) (off := 0) [] [(1, [(vu64 0)]), (8, (List.replicate 8 (0 : UInt64)).map vu64), (1, [(.bool false)])] [(1, [(vu64 0)]), (8, (List.replicate 8 (0 : UInt64)).map vu64), (1, [(.bool false)])] [] (ys := flat [(1, [(vu64 0)]), (8, (List.replicate 8 (0 : UInt64)).map vu64), (1, [(.bool false)])]) h_17 rfl rfl Try.sizeOf45 At.h (by decide) rfl rfl rfl rfl rfl rfl (SsOk.cons (SOk.v rfl) (SsOk.cons (SOk.u64 (List.length_replicate ..)) (SsOk.cons (SOk.v rfl) SsOk.nil))) (fun w_18 h_19 => ?_)
  refine WL.q (Wn.no rfl) rfl rfl (R.assign (v := (vi 4)) rfl) ?_
  refine WL.nil ?_
  refine thn_n ?_
  refine WP.seq ?_
  refine WP.reg ?_
  refine WL.q (Wn.no rfl) rfl rfl (R.move (v := (vi 4)) rfl) ?_
  refine WL.q (Wn.no rfl) rfl rfl (R.bin (v := (.bool false)) rfl rfl (bi_eql (r := false) (by decide))) ?_
  refine WL.nil ?_
  refine thn_n ?_
  refine WP.condF rfl ?_
  refine WP.skip ?_
  refine thn_n ?_
  refine WP.seq ?_
  refine WP.reg ?_
  refine WL.q (Wn.no rfl) rfl rfl (R.assign (v := (.string (bstr ([] : List UInt8)))) rfl) ?_
  refine WL.nil ?_
  refine thn_n ?_
  refine WP.ret ?_
  refine ret_of Try.results35 (RV.tmp (v := (.string (bstr ([] : List UInt8)))) rfl RV.nil) ?_
  exact ⟨rfl, h_19.chgS⟩

theorem c_KindR_r (g : List UInt8) (hg : g.length = 128) (h : okRealm g = true) (w : World) :
    Cs Try.prog 36 [(.agg ⟨g.map vu8⟩)].toArray w (fun v w1 => v = .string (bstr ([114, 101, 97, 108, 109] : List UInt8)) ∧ Chg w w1 []) := by
  refine Cs.of (n := 19) (args := [(.agg ⟨g.map vu8⟩)]) Try.func36 rfl rfl rfl ?_
  have h_0 := HP.init w
  refine WP.seq ?_
  refine WP.reg ?_
  refine WL.box (v := (.agg ⟨g.map vu8⟩)) (segs := [(128, g.map vu8)]) h_0 rfl rfl (SsOk.cons (SOk.u8 hg) SsOk.nil) rfl (fun b_1 w_2 h_3 => ?_)
  refine WL.q (Wn.no rfl) rfl rfl (R.assign (v := (.string (bstr ([] : List UInt8)))) rfl) ?_
  refine WL.nil ?_
  refine thn_n ?_
  refine WP.seq ?_
  refine WP.seq ?_
  refine WP.reg ?_
  refine WL.q (Wn.no rfl) rfl rfl (R.loadA (b := b_1) (off := 0) [] [(128, g.map vu8)] [] (cs := g.map vu8) rfl Try.isAgg53 Try.sizeOf53 (h_3.ok _ (.head _)) rfl rfl rfl rfl) ?_
  refine WL.call (al := [(.agg ⟨g.map vu8⟩)]) Try.call33 rfl rfl (c_RealmR_t g hg h _ ) rfl ?_
  rintro _ w_5 ⟨rfl, hc_4⟩
  have h_6 := h_3.same hc_4
  refine WL.q (Wn.no rfl) rfl rfl (R.move (v := (.tuple [(.agg ⟨flat [(32, (rlV g).map vu8), (1, [(vu64 (wordB g 5))])]⟩), (.bool true)].toArray)) rfl) ?_
  refine WL.q (Wn.no rfl) rfl rfl (R.extract (l := [(.agg ⟨flat [(32, (rlV g).map vu8), (1, [(vu64 (wordB g 5))])]⟩), (.bool true)]) (v := (.agg ⟨flat [(32, (rlV g).map vu8), (1, [(vu64 (wordB g 5))])]⟩)) rfl rfl) ?_
  refine WL.q (Wn.no rfl) rfl rfl (R.extract (l := [(.agg ⟨flat [(32, (rlV g).map vu8), (1, [(vu64 (wordB g 5))])]⟩), (.bool true)]) (v := (.bool true)) rfl rfl) ?_
  refine WL.alloc (segs := [(32, (List.replicate 32 (0 : UInt8)).map vu8), (1, [(vu64 0)])]) h_6 (zv Try.typeInfo51 rfl) rfl (SsOk.cons (SOk.u8 (List.length_replicate ..)) (SsOk.cons (SOk.v rfl) SsOk.nil)) rfl (fun b_7 w_8 h_9 => ?_)
  refine WL.storeA (b := b_7) (off := 0) [] [(32, (List.replicate 32 (0 : UInt8)).map vu8), (1, [(vu64 0)])] [(32, (rlV g).map vu8), (1, [(vu64 (wordB g 5))])] [] (ys := flat [(32, (rlV g).map vu8), (1, [(vu64 (wordB g 5))])]) h_9 rfl rfl Try.sizeOf51 At.h (by decide) rfl rfl rfl rfl rfl rfl (SsOk.cons (SOk.u8 (by simp only [rlV, List.length_take, List.length_drop, hg]; decide)) (SsOk.cons (SOk.v rfl) SsOk.nil)) (fun w_10 h_11 => ?_)
  refine WL.q (Wn.no rfl) rfl rfl (R.assign (v := (.bool true)) rfl) ?_
  refine WL.nil ?_
  refine thn_n ?_
  refine WP.seq ?_
  refine WP.reg ?_
  refine WL.q (Wn.no rfl) rfl rfl (R.move (v := (.bool true)) rfl) ?_
  refine WL.nil ?_
  refine thn_n ?_
  refine WP.condT rfl ?_
  refine WP.seq ?_
  refine WP.reg ?_
  refine WL.q (Wn.no rfl) rfl rfl (R.assign (v := (.string (bstr ([114, 101, 97, 108, 109] : List UInt8)))) rfl) ?_
  refine WL.nil ?_
  refine thn_n ?_
  refine WP.ret ?_
  refine thn_r ?_
  refine ret_of Try.results36 (RV.tmp (v := (.string (bstr ([114, 101, 97, 108, 109] : List UInt8)))) rfl RV.nil) ?_
  exact ⟨rfl, h_11.chgS⟩

theorem c_KindR_c (g : List UInt8) (hg : g.length = 128) (h0 : okRealm g = false) (h : okRec g = true) (w : World) :
    Cs Try.prog 36 [(.agg ⟨g.map vu8⟩)].toArray w (fun v w1 => v = .string (bstr ([114, 101, 99] : List UInt8)) ∧ Chg w w1 []) := by
  refine Cs.of (n := 19) (args := [(.agg ⟨g.map vu8⟩)]) Try.func36 rfl rfl rfl ?_
  have h_0 := HP.init w
  refine WP.seq ?_
  refine WP.reg ?_
  refine WL.box (v := (.agg ⟨g.map vu8⟩)) (segs := [(128, g.map vu8)]) h_0 rfl rfl (SsOk.cons (SOk.u8 hg) SsOk.nil) rfl (fun b_1 w_2 h_3 => ?_)
  refine WL.q (Wn.no rfl) rfl rfl (R.assign (v := (.string (bstr ([] : List UInt8)))) rfl) ?_
  refine WL.nil ?_
  refine thn_n ?_
  refine WP.seq ?_
  refine WP.seq ?_
  refine WP.reg ?_
  refine WL.q (Wn.no rfl) rfl rfl (R.loadA (b := b_1) (off := 0) [] [(128, g.map vu8)] [] (cs := g.map vu8) rfl Try.isAgg53 Try.sizeOf53 (h_3.ok _ (.head _)) rfl rfl rfl rfl) ?_
  refine WL.call (al := [(.agg ⟨g.map vu8⟩)]) Try.call33 rfl rfl (c_RealmR_f g hg h0 _ ) rfl ?_
  rintro _ w_5 ⟨rfl, hc_4⟩
  have h_6 := h_3.same hc_4
  refine WL.q (Wn.no rfl) rfl rfl (R.move (v := (.tuple [(.agg ⟨flat [(32, (List.replicate 32 (0 : UInt8)).map vu8), (1, [(vu64 0)])]⟩), (.bool false)].toArray)) rfl) ?_
  refine WL.q (Wn.no rfl) rfl rfl (R.extract (l := [(.agg ⟨flat [(32, (List.replicate 32 (0 : UInt8)).map vu8), (1, [(vu64 0)])]⟩), (.bool false)]) (v := (.agg ⟨flat [(32, (List.replicate 32 (0 : UInt8)).map vu8), (1, [(vu64 0)])]⟩)) rfl rfl) ?_
  refine WL.q (Wn.no rfl) rfl rfl (R.extract (l := [(.agg ⟨flat [(32, (List.replicate 32 (0 : UInt8)).map vu8), (1, [(vu64 0)])]⟩), (.bool false)]) (v := (.bool false)) rfl rfl) ?_
  refine WL.alloc (segs := [(32, (List.replicate 32 (0 : UInt8)).map vu8), (1, [(vu64 0)])]) h_6 (zv Try.typeInfo51 rfl) rfl (SsOk.cons (SOk.u8 (List.length_replicate ..)) (SsOk.cons (SOk.v rfl) SsOk.nil)) rfl (fun b_7 w_8 h_9 => ?_)
  refine WL.storeA (b := b_7) (off := 0) [] [(32, (List.replicate 32 (0 : UInt8)).map vu8), (1, [(vu64 0)])] [(32, (List.replicate 32 (0 : UInt8)).map vu8), (1, [(vu64 0)])] [] (ys := flat [(32, (List.replicate 32 (0 : UInt8)).map vu8), (1, [(vu64 0)])]) h_9 rfl rfl Try.sizeOf51 At.h (by decide) rfl rfl rfl rfl rfl rfl (SsOk.cons (SOk.u8 (List.length_replicate ..)) (SsOk.cons (SOk.v rfl) SsOk.nil)) (fun w_10 h_11 => ?_)
  refine WL.q (Wn.no rfl) rfl rfl (R.assign (v := (.bool false)) rfl) ?_
  refine WL.nil ?_
  refine thn_n ?_
  refine WP.seq ?_
  refine WP.reg ?_
  refine WL.q (Wn.no rfl) rfl rfl (R.move (v := (.bool false)) rfl) ?_
  refine WL.nil ?_
  refine thn_n ?_
  refine WP.condF rfl ?_
  refine WP.skip ?_
  refine thn_n ?_
  refine WP.seq ?_
  refine WP.seq ?_
  refine WP.reg ?_
  refine WL.q (Wn.no rfl) rfl rfl (R.loadA (b := b_1) (off := 0) [] [(128, g.map vu8)] [] (cs := g.map vu8) rfl Try.isAgg53 Try.sizeOf53 (h_11.ok _ (.tail _ (.head _))) rfl rfl rfl rfl) ?_
  refine WL.call (al := [(.agg ⟨g.map vu8⟩)]) Try.call34 rfl rfl (c_RecR_t g hg h _ ) rfl ?_
  rintro _ w_13 ⟨rfl, hc_12⟩
  have h_14 := h_11.same hc_12
  refine WL.q (Wn.no rfl) rfl rfl (R.move (v := (.tuple [(.agg ⟨flat [(1, [(vu64 (wordB g 1))]), (8, (rcR g).map vu64), (1, [(.bool (decide (g.getD 80 0 = 1)))])]⟩), (.bool true)].toArray)) rfl) ?_
  refine WL.q (Wn.no rfl) rfl rfl (R.extract (l := [(.agg ⟨flat [(1, [(vu64 (wordB g 1))]), (8, (rcR g).map vu64), (1, [(.bool (decide (g.getD 80 0 = 1)))])]⟩), (.bool true)]) (v := (.agg ⟨flat [(1, [(vu64 (wordB g 1))]), (8, (rcR g).map vu64), (1, [(.bool (decide (g.getD 80 0 = 1)))])]⟩)) rfl rfl) ?_
  refine WL.q (Wn.no rfl) rfl rfl (R.extract (l := [(.agg ⟨flat [(1, [(vu64 (wordB g 1))]), (8, (rcR g).map vu64), (1, [(.bool (decide (g.getD 80 0 = 1)))])]⟩), (.bool true)]) (v := (.bool true)) rfl rfl) ?_
  refine WL.alloc (segs := [(1, [(vu64 0)]), (8, (List.replicate 8 (0 : UInt64)).map vu64), (1, [(.bool false)])]) h_14 (zv Try.typeInfo45 rfl) rfl (SsOk.cons (SOk.v rfl) (SsOk.cons (SOk.u64 (List.length_replicate ..)) (SsOk.cons (SOk.v rfl) SsOk.nil))) rfl (fun b_15 w_16 h_17 => ?_)
  refine WL.storeA (b := b_15) (off := 0) [] [(1, [(vu64 0)]), (8, (List.replicate 8 (0 : UInt64)).map vu64), (1, [(.bool false)])] [(1, [(vu64 (wordB g 1))]), (8, (rcR g).map vu64), (1, [(.bool (decide (g.getD 80 0 = 1)))])] [] (ys := flat [(1, [(vu64 (wordB g 1))]), (8, (rcR g).map vu64), (1, [(.bool (decide (g.getD 80 0 = 1)))])]) h_17 rfl rfl Try.sizeOf45 At.h (by decide) rfl rfl rfl rfl rfl rfl (SsOk.cons (SOk.v rfl) (SsOk.cons (SOk.u64 (rfl : List.length (rcR g) = 8)) (SsOk.cons (SOk.v rfl) SsOk.nil))) (fun w_18 h_19 => ?_)
  refine WL.q (Wn.no rfl) rfl rfl (R.assign (v := (.bool true)) rfl) ?_
  refine WL.nil ?_
  refine thn_n ?_
  refine WP.seq ?_
  refine WP.reg ?_
  refine WL.q (Wn.no rfl) rfl rfl (R.move (v := (.bool true)) rfl) ?_
  refine WL.nil ?_
  refine thn_n ?_
  refine WP.condT rfl ?_
  refine WP.seq ?_
  refine WP.reg ?_
  refine WL.q (Wn.no rfl) rfl rfl (R.assign (v := (.string (bstr ([114, 101, 99] : List UInt8)))) rfl) ?_
  refine WL.nil ?_
  refine thn_n ?_
  refine WP.ret ?_
  refine thn_r ?_
  refine ret_of Try.results36 (RV.tmp (v := (.string (bstr ([114, 101, 99] : List UInt8)))) rfl RV.nil) ?_
  exact ⟨rfl, h_19.chgS⟩

theorem c_KindR_n (g : List UInt8) (hg : g.length = 128) (h0 : okRealm g = false) (h : okRec g = false) (w : World) :
    Cs Try.prog 36 [(.agg ⟨g.map vu8⟩)].toArray w (fun v w1 => v = .string (bstr ([] : List UInt8)) ∧ Chg w w1 []) := by
  refine Cs.of (n := 19) (args := [(.agg ⟨g.map vu8⟩)]) Try.func36 rfl rfl rfl ?_
  have h_0 := HP.init w
  refine WP.seq ?_
  refine WP.reg ?_
  refine WL.box (v := (.agg ⟨g.map vu8⟩)) (segs := [(128, g.map vu8)]) h_0 rfl rfl (SsOk.cons (SOk.u8 hg) SsOk.nil) rfl (fun b_1 w_2 h_3 => ?_)
  refine WL.q (Wn.no rfl) rfl rfl (R.assign (v := (.string (bstr ([] : List UInt8)))) rfl) ?_
  refine WL.nil ?_
  refine thn_n ?_
  refine WP.seq ?_
  refine WP.seq ?_
  refine WP.reg ?_
  refine WL.q (Wn.no rfl) rfl rfl (R.loadA (b := b_1) (off := 0) [] [(128, g.map vu8)] [] (cs := g.map vu8) rfl Try.isAgg53 Try.sizeOf53 (h_3.ok _ (.head _)) rfl rfl rfl rfl) ?_
  refine WL.call (al := [(.agg ⟨g.map vu8⟩)]) Try.call33 rfl rfl (c_RealmR_f g hg h0 _ ) rfl ?_
  rintro _ w_5 ⟨rfl, hc_4⟩
  have h_6 := h_3.same hc_4
  refine WL.q (Wn.no rfl) rfl rfl (R.move (v := (.tuple [(.agg ⟨flat [(32, (List.replicate 32 (0 : UInt8)).map vu8), (1, [(vu64 0)])]⟩), (.bool false)].toArray)) rfl) ?_
  refine WL.q (Wn.no rfl) rfl rfl (R.extract (l := [(.agg ⟨flat [(32, (List.replicate 32 (0 : UInt8)).map vu8), (1, [(vu64 0)])]⟩), (.bool false)]) (v := (.agg ⟨flat [(32, (List.replicate 32 (0 : UInt8)).map vu8), (1, [(vu64 0)])]⟩)) rfl rfl) ?_
  refine WL.q (Wn.no rfl) rfl rfl (R.extract (l := [(.agg ⟨flat [(32, (List.replicate 32 (0 : UInt8)).map vu8), (1, [(vu64 0)])]⟩), (.bool false)]) (v := (.bool false)) rfl rfl) ?_
  refine WL.alloc (segs := [(32, (List.replicate 32 (0 : UInt8)).map vu8), (1, [(vu64 0)])]) h_6 (zv Try.typeInfo51 rfl) rfl (SsOk.cons (SOk.u8 (List.length_replicate ..)) (SsOk.cons (SOk.v rfl) SsOk.nil)) rfl (fun b_7 w_8 h_9 => ?_)
  refine WL.storeA (b := b_7) (off := 0) [] [(32, (List.replicate 32 (0 : UInt8)).map vu8), (1, [(vu64 0)])] [(32, (List.replicate 32 (0 : UInt8)).map vu8), (1, [(vu64 0)])] [] (ys := flat [(32, (List.replicate 32 (0 : UInt8)).map vu8), (1, [(vu64 0)])]) h_9 rfl rfl Try.sizeOf51 At.h (by decide) rfl rfl rfl rfl rfl rfl (SsOk.cons (SOk.u8 (List.length_replicate ..)) (SsOk.cons (SOk.v rfl) SsOk.nil)) (fun w_10 h_11 => ?_)
  refine WL.q (Wn.no rfl) rfl rfl (R.assign (v := (.bool false)) rfl) ?_
  refine WL.nil ?_
  refine thn_n ?_
  refine WP.seq ?_
  refine WP.reg ?_
  refine WL.q (Wn.no rfl) rfl rfl (R.move (v := (.bool false)) rfl) ?_
  refine WL.nil ?_
  refine thn_n ?_
  refine WP.condF rfl ?_
  refine WP.skip ?_
  refine thn_n ?_
  refine WP.seq ?_
  refine WP.seq ?_
  refine WP.reg ?_
  refine WL.q (Wn.no rfl) rfl rfl (R.loadA (b := b_1) (off := 0) [] [(128, g.map vu8)] [] (cs := g.map vu8) rfl Try.isAgg53 Try.sizeOf53 (h_11.ok _ (.tail _ (.head _))) rfl rfl rfl rfl) ?_
  refine WL.call (al := [(.agg ⟨g.map vu8⟩)]) Try.call34 rfl rfl (c_RecR_f g hg h _ ) rfl ?_
  rintro _ w_13 ⟨rfl, hc_12⟩
  have h_14 := h_11.same hc_12
  refine WL.q (Wn.no rfl) rfl rfl (R.move (v := (.tuple [(.agg ⟨flat [(1, [(vu64 0)]), (8, (List.replicate 8 (0 : UInt64)).map vu64), (1, [(.bool false)])]⟩), (.bool false)].toArray)) rfl) ?_
  refine WL.q (Wn.no rfl) rfl rfl (R.extract (l := [(.agg ⟨flat [(1, [(vu64 0)]), (8, (List.replicate 8 (0 : UInt64)).map vu64), (1, [(.bool false)])]⟩), (.bool false)]) (v := (.agg ⟨flat [(1, [(vu64 0)]), (8, (List.replicate 8 (0 : UInt64)).map vu64), (1, [(.bool false)])]⟩)) rfl rfl) ?_
  refine WL.q (Wn.no rfl) rfl rfl (R.extract (l := [(.agg ⟨flat [(1, [(vu64 0)]), (8, (List.replicate 8 (0 : UInt64)).map vu64), (1, [(.bool false)])]⟩), (.bool false)]) (v := (.bool false)) rfl rfl) ?_
  refine WL.alloc (segs := [(1, [(vu64 0)]), (8, (List.replicate 8 (0 : UInt64)).map vu64), (1, [(.bool false)])]) h_14 (zv Try.typeInfo45 rfl) rfl (SsOk.cons (SOk.v rfl) (SsOk.cons (SOk.u64 (List.length_replicate ..)) (SsOk.cons (SOk.v rfl) SsOk.nil))) rfl (fun b_15 w_16 h_17 => ?_)
  refine WL.storeA (b := b_15) (off := 0) [] [(1, [(vu64 0)]), (8, (List.replicate 8 (0 : UInt64)).map vu64), (1, [(.bool false)])] [(1, [(vu64 0)]), (8, (List.replicate 8 (0 : UInt64)).map vu64), (1, [(.bool false)])] [] (ys := flat [(1, [(vu64 0)]), (8, (List.replicate 8 (0 : UInt64)).map vu64), (1, [(.bool false)])]) h_17 rfl rfl Try.sizeOf45 At.h (by decide) rfl rfl rfl rfl rfl rfl (SsOk.cons (SOk.v rfl) (SsOk.cons (SOk.u64 (List.length_replicate ..)) (SsOk.cons (SOk.v rfl) SsOk.nil))) (fun w_18 h_19 => ?_)
  refine WL.q (Wn.no rfl) rfl rfl (R.assign (v := (.bool false)) rfl) ?_
  refine WL.nil ?_
  refine thn_n ?_
  refine WP.seq ?_
  refine WP.reg ?_
  refine WL.q (Wn.no rfl) rfl rfl (R.move (v := (.bool false)) rfl) ?_
  refine WL.nil ?_
  refine thn_n ?_
  refine WP.condF rfl ?_
  refine WP.skip ?_
  refine thn_n ?_
  refine WP.seq ?_
  refine WP.reg ?_
  refine WL.q (Wn.no rfl) rfl rfl (R.assign (v := (.string (bstr ([] : List UInt8)))) rfl) ?_
  refine WL.nil ?_
  refine thn_n ?_
  refine WP.ret ?_
  refine ret_of Try.results36 (RV.tmp (v := (.string (bstr ([] : List UInt8)))) rfl RV.nil) ?_
  exact ⟨rfl, h_19.chgS⟩
end Go.Proofs.Ythkcekgemanfdaa
