/- Rules for walks and contracts of the functions that the law reaches, one behind the other. Conditions: none beyond what each theorem states. -/
import Derived.Test.YteclkcpdclimnaaZ3MeasureApart
set_option linter.unusedVariables false
set_option linter.unusedSimpArgs false
set_option linter.unusedSectionVars false
namespace Go.Proofs.Yteclkcpdclimnaa
open Go.Proofs.Try
open Go.Vc Go.Orc Go.Sh Go.RowKit
set_option maxRecDepth 20000

def mayZ (kd : Int) (val : List UInt8) (pg : Int) (gr : List UInt8) (pc : UInt64) (rg : List UInt64) (run : Bool) : Prop :=
 (kd = 1 ∧ pg = 0 ∧ gr = List.replicate 128 (0 : UInt8) ∧ (pc = 0 ∧ rg = List.replicate 8 (0 : UInt64) ∧ run = false)) ∨ (kd = 2 ∧ val = List.replicate 32 (0 : UInt8) ∧ (0 ≤ pg ∧ pg < 128) ∧ (pc = 0 ∧ rg = List.replicate 8 (0 : UInt64) ∧ run = false)) ∨ (kd = 3 ∧ val = List.replicate 32 (0 : UInt8) ∧ pg = 0 ∧ gr = List.replicate 128 (0 : UInt8) ∧ decide (pc % 8 = 0) = true)
instance (kd : Int) (val : List UInt8) (pg : Int) (gr : List UInt8) (pc : UInt64) (rg : List UInt64) (run : Bool) : Decidable (mayZ kd val pg gr pc rg run) := by unfold mayZ; infer_instance
def mayB (kd : Int) (val : List UInt8) (pg : Int) (gr : List UInt8) (pc : UInt64) (rg : List UInt64) (run : Bool) : Bool := decide (mayZ kd val pg gr pc rg run)
theorem vi_inj {a b : Int} (h : vi a = vi b) : a = b := by injection h
theorem vu64_inj {a b : UInt64} (h : vu64 a = vu64 b) : a = b := by
 have h2 : ((a.toNat : Nat) : Int) = b.toNat := by simpa [vu64] using h
 exact UInt64.toNat_inj.1 (by omega)
theorem map_inj64 {a b : List UInt64} (h : a.map vu64 = b.map vu64) : a = b := List.map_inj_right (f := vu64) (fun x y h => vu64_inj h) |>.1 h
theorem rec3_inj {pc pc' : UInt64} {rg rg' : List UInt64} {b b' : Bool} (hl : rg.length = 8) (hl' : rg'.length = 8) (h : flat [(1, [vu64 pc]), (8, rg.map vu64), (1, [.bool b])] = flat [(1, [vu64 pc']), (8, rg'.map vu64), (1, [.bool b'])]) : pc = pc' ∧ rg = rg' ∧ b = b' := by
 simp only [flat, List.cons_append, List.nil_append, List.append_nil, List.cons.injEq] at h
 obtain ⟨h1, h2⟩ := h
 obtain ⟨h3, h4⟩ := List.append_inj h2 (by rw [List.length_map, List.length_map, hl, hl'])
 refine ⟨vu64_inj h1, map_inj64 h3, ?_⟩
 simpa using h4
theorem rec7_inj {kd kd' pg pg' : Int} {val val' gr gr' : List UInt8} {pc pc' : UInt64} {rg rg' : List UInt64} {b b' : Bool} (v1 : val.length = 32) (v2 : val'.length = 32) (g1 : gr.length = 128) (g2 : gr'.length = 128) (hl : rg.length = 8) (hl' : rg'.length = 8)
  (h : flat [(1, [vi kd]), (32, val.map vu8), (1, [vi pg]), (128, gr.map vu8), (1, [vu64 pc]), (8, rg.map vu64), (1, [.bool b])] = flat [(1, [vi kd']), (32, val'.map vu8), (1, [vi pg']), (128, gr'.map vu8), (1, [vu64 pc']), (8, rg'.map vu64), (1, [.bool b'])]) : kd = kd' ∧ val = val' ∧ pg = pg' ∧ gr = gr' ∧ (pc = pc' ∧ rg = rg' ∧ b = b') := by
 simp only [flat, List.cons_append, List.nil_append, List.cons.injEq] at h
 obtain ⟨h1, h2⟩ := h
 obtain ⟨h3, h4⟩ := List.append_inj h2 (by rw [List.length_map, List.length_map, v1, v2])
 simp only [List.cons.injEq] at h4
 obtain ⟨h5, h6⟩ := h4
 obtain ⟨h7, h8⟩ := List.append_inj h6 (by rw [List.length_map, List.length_map, g1, g2])
 exact ⟨vi_inj h1, map_inj_u8 ▸ h3, vi_inj h5, map_inj_u8 ▸ h7, rec3_inj hl hl' (by simp only [flat, List.cons_append, List.nil_append]; exact h8)⟩

theorem c_bareG_1 (val : List UInt8) (hvl : val.length = 32) (pg : Int) (hbp : -9223372036854775808 ≤ pg ∧ pg < 9223372036854775808) (gr : List UInt8) (hgr : gr.length = 128) (pc : UInt64) (rg : List UInt64) (hrg : rg.length = 8) (run : Bool) (w : World) :
  Cs Try.prog 73 [(.agg ⟨flat [(1, [(vi 1)]), (32, val.map vu8), (1, [(vi pg)]), (128, gr.map vu8), (1, [(vu64 pc)]), (8, rg.map vu64), (1, [(.bool run)])]⟩)].toArray w (fun v w1 => v = (.agg ⟨flat [(1, [(vi 1)]), (32, val.map vu8), (1, [(vi 0)]), (128, (List.replicate 128 (0 : UInt8)).map vu8), (1, [(vu64 0)]), (8, (List.replicate 8 (0 : UInt64)).map vu64), (1, [(.bool false)])]⟩) ∧ Chg w w1 []) := by
 refine Cs.of (n := 28) (args := [(.agg ⟨flat [(1, [(vi 1)]), (32, val.map vu8), (1, [(vi pg)]), (128, gr.map vu8), (1, [(vu64 pc)]), (8, rg.map vu64), (1, [(.bool run)])]⟩)]) Try.func73 rfl rfl rfl ?_
 have h_0 := HP.init w
 refine WP.seq (WP.reg ?_)
 refine WL.box (segs := [(1, [(vi 1)]), (32, val.map vu8), (1, [(vi pg)]), (128, gr.map vu8), (1, [(vu64 pc)]), (8, rg.map vu64), (1, [(.bool run)])]) h_0 rfl rfl (sC sV (sC (s8 hvl) (sC sV (sC (s8 hgr) (sC sV (sC (SOk.u64 hrg) (sC sV sN))))))) rfl (fun b_1 w_2 h_3 => ?_)
 refine WL.alloc (segs := [(1, [(vi 0)]), (32, (zB 32).map vu8), (1, [(vi 0)]), (128, (zB 128).map vu8), (1, [(vu64 0)]), (8, (zW 8).map vu64), (1, [(.bool false)])]) h_3 (zv typeInfo86 rfl) rfl (sC sV (sC (s8 lr) (sC sV (sC (s8 lr) (sC sV (sC (SOk.u64 lr) (sC sV sN))))))) rfl (fun b_4 w_5 h_6 => ?_)
 refine WL.nil (thn_n (WP.seq (WP.reg ?_)))
 refine qV rfl (R.fieldAddr (off' := 0) rfl underlying86 rfl sizeOf81 rfl rfl) (qV rfl (R.load1 rfl isAgg81 (h_6.ok _ M1) Sg.h) (qV rfl (R.buildS (pl := [(0, 1), (1, 32), (33, 1), (34, 128), (162, 10)]) (zs := [(1, [(vi 0)]), (32, (zB 32).map vu8), (1, [(vi 0)]), (128, (zB 128).map vu8), (1, [(vu64 0)]), (8, (zW 8).map vu64), (1, [(.bool false)])]) (vs := [(0, (vi 1))]) (out := [(1, [(vi 1)]), (32, (zB 32).map vu8), (1, [(vi 0)]), (128, (zB 128).map vu8), (1, [(vu64 0)]), (8, (zW 8).map vu64), (1, [(.bool false)])]) underlying86 (zv typeInfo86 rfl) rfl (sC sV (sC (s8 lr) (sC sV (sC (s8 lr) (sC sV (sC (SOk.u64 lr) (sC sV sN))))))) (pl86 _ underlying86) rfl (FillR.cons [] [(1, [(vi 0)])] [(1, [(vi 1)])] [(32, (zB 32).map vu8), (1, [(vi 0)]), (128, (zB 128).map vu8), (1, [(vu64 0)]), (8, (zW 8).map vu64), (1, [(.bool false)])] rfl rfl rfl rfl (sC sV sN) rfl rfl rfl FillR.nil) rfl) ?_))
 refine WL.alloc (segs := [(1, [(vi 0)]), (32, (zB 32).map vu8), (1, [(vi 0)]), (128, (zB 128).map vu8), (1, [(vu64 0)]), (8, (zW 8).map vu64), (1, [(.bool false)])]) h_6 (zv typeInfo86 rfl) rfl (sC sV (sC (s8 lr) (sC sV (sC (s8 lr) (sC sV (sC (SOk.u64 lr) (sC sV sN))))))) rfl (fun b_8 w_9 h_10 => ?_)
 refine WL.storeA [] [(1, [(vi 0)]), (32, (zB 32).map vu8), (1, [(vi 0)]), (128, (zB 128).map vu8), (1, [(vu64 0)]), (8, (zW 8).map vu64), (1, [(.bool false)])] [(1, [(vi 1)]), (32, (zB 32).map vu8), (1, [(vi 0)]), (128, (zB 128).map vu8), (1, [(vu64 0)]), (8, (zW 8).map vu64), (1, [(.bool false)])] [] h_10 rfl rfl sizeOf86 At.h (by decide) rfl rfl rfl rfl rfl rfl (sC sV (sC (s8 lr) (sC sV (sC (s8 lr) (sC sV (sC (SOk.u64 lr) (sC sV sN))))))) (fun w_11 h_12 => ?_)
 refine WL.nil (thn_n (WP.seq (WP.seq (WP.reg ?_))))
 refine qV rfl (R.fieldAddr (off' := 0) rfl underlying86 rfl sizeOf81 rfl rfl) (qV rfl (R.load1 rfl isAgg81 (h_12.ok _ M2) Sg.h) ?_)
 refine WL.nil (thn_n (WP.block (WP.seq (WP.reg ?_))))
 refine qV rfl (R.bin rfl rfl (bi_eql (r := true) (by decide))) (qA (.bool true) rfl rfl ?_)
 refine WL.nil (thn_n ?_)
 refine WP.condT rfl ?_
 refine WP.reg ?_
 refine qV rfl (R.fieldAddr (off' := 1) rfl underlying86 rfl sizeOf23 rfl rfl) (qV rfl (R.loadA [(1, [(vi 1)])] [(32, val.map vu8)] [(1, [(vi pg)]), (128, gr.map vu8), (1, [(vu64 pc)]), (8, rg.map vu64), (1, [(.bool run)])] (cs := val.map vu8) rfl isAgg23 sizeOf23 (h_12.ok _ M2) rfl rfl rfl rfl) (qV rfl (R.fieldAddr (off' := 1) rfl underlying86 rfl sizeOf23 rfl rfl) ?_))
 refine WL.storeA [(1, [(vi 1)])] [(32, (zB 32).map vu8)] [(32, val.map vu8)] [(1, [(vi 0)]), (128, (zB 128).map vu8), (1, [(vu64 0)]), (8, (zW 8).map vu64), (1, [(.bool false)])] h_12 rfl rfl sizeOf23 At.h (by decide) rfl rfl rfl rfl rfl rfl (sC (s8 hvl) sN) (fun w_13 h_14 => ?_)
 refine WL.nil (inb_n (thn_n (WP.seq (WP.reg ?_))))
 refine qV rfl (R.loadA [] [(1, [(vi 1)]), (32, val.map vu8), (1, [(vi 0)]), (128, (zB 128).map vu8), (1, [(vu64 0)]), (8, (zW 8).map vu64), (1, [(.bool false)])] [] rfl isAgg86 sizeOf86 (h_14.ok _ M0) rfl rfl rfl rfl) ?_
 refine WL.storeA [] [(1, [(vi 0)]), (32, (zB 32).map vu8), (1, [(vi 0)]), (128, (zB 128).map vu8), (1, [(vu64 0)]), (8, (zW 8).map vu64), (1, [(.bool false)])] [(1, [(vi 1)]), (32, val.map vu8), (1, [(vi 0)]), (128, (zB 128).map vu8), (1, [(vu64 0)]), (8, (zW 8).map vu64), (1, [(.bool false)])] [] h_14 rfl rfl sizeOf86 Y1 (by decide) rfl rfl rfl rfl rfl rfl (sC sV (sC (s8 hvl) (sC sV (sC (s8 lr) (sC sV (sC (SOk.u64 lr) (sC sV sN))))))) (fun w_15 h_16 => ?_)
 refine WL.nil (thn_n (WP.ret ?_))
 refine ret_of results73 (RV.cell rfl (h_16.loadA (cs := flat [(1, [(vi 1)]), (32, val.map vu8), (1, [(vi 0)]), (128, (zB 128).map vu8), (1, [(vu64 0)]), (8, (zW 8).map vu64), (1, [(.bool false)])]) isAgg86 sizeOf86 M1 rfl rfl) RV.nil) ?_
 exact ⟨rfl, h_16.chgS⟩

theorem c_bareG_2 (val : List UInt8) (hvl : val.length = 32) (pg : Int) (hbp : -9223372036854775808 ≤ pg ∧ pg < 9223372036854775808) (gr : List UInt8) (hgr : gr.length = 128) (pc : UInt64) (rg : List UInt64) (hrg : rg.length = 8) (run : Bool) (w : World) :
  Cs Try.prog 73 [(.agg ⟨flat [(1, [(vi 2)]), (32, val.map vu8), (1, [(vi pg)]), (128, gr.map vu8), (1, [(vu64 pc)]), (8, rg.map vu64), (1, [(.bool run)])]⟩)].toArray w (fun v w1 => v = (.agg ⟨flat [(1, [(vi 2)]), (32, (List.replicate 32 (0 : UInt8)).map vu8), (1, [(vi pg)]), (128, gr.map vu8), (1, [(vu64 0)]), (8, (List.replicate 8 (0 : UInt64)).map vu64), (1, [(.bool false)])]⟩) ∧ Chg w w1 []) := by
 refine Cs.of (n := 28) (args := [(.agg ⟨flat [(1, [(vi 2)]), (32, val.map vu8), (1, [(vi pg)]), (128, gr.map vu8), (1, [(vu64 pc)]), (8, rg.map vu64), (1, [(.bool run)])]⟩)]) Try.func73 rfl rfl rfl ?_
 have h_0 := HP.init w
 refine WP.seq (WP.reg ?_)
 refine WL.box (segs := [(1, [(vi 2)]), (32, val.map vu8), (1, [(vi pg)]), (128, gr.map vu8), (1, [(vu64 pc)]), (8, rg.map vu64), (1, [(.bool run)])]) h_0 rfl rfl (sC sV (sC (s8 hvl) (sC sV (sC (s8 hgr) (sC sV (sC (SOk.u64 hrg) (sC sV sN))))))) rfl (fun b_1 w_2 h_3 => ?_)
 refine WL.alloc (segs := [(1, [(vi 0)]), (32, (zB 32).map vu8), (1, [(vi 0)]), (128, (zB 128).map vu8), (1, [(vu64 0)]), (8, (zW 8).map vu64), (1, [(.bool false)])]) h_3 (zv typeInfo86 rfl) rfl (sC sV (sC (s8 lr) (sC sV (sC (s8 lr) (sC sV (sC (SOk.u64 lr) (sC sV sN))))))) rfl (fun b_4 w_5 h_6 => ?_)
 refine WL.nil (thn_n (WP.seq (WP.reg ?_)))
 refine qV rfl (R.fieldAddr (off' := 0) rfl underlying86 rfl sizeOf81 rfl rfl) (qV rfl (R.load1 rfl isAgg81 (h_6.ok _ M1) Sg.h) (qV rfl (R.buildS (pl := [(0, 1), (1, 32), (33, 1), (34, 128), (162, 10)]) (zs := [(1, [(vi 0)]), (32, (zB 32).map vu8), (1, [(vi 0)]), (128, (zB 128).map vu8), (1, [(vu64 0)]), (8, (zW 8).map vu64), (1, [(.bool false)])]) (vs := [(0, (vi 2))]) (out := [(1, [(vi 2)]), (32, (zB 32).map vu8), (1, [(vi 0)]), (128, (zB 128).map vu8), (1, [(vu64 0)]), (8, (zW 8).map vu64), (1, [(.bool false)])]) underlying86 (zv typeInfo86 rfl) rfl (sC sV (sC (s8 lr) (sC sV (sC (s8 lr) (sC sV (sC (SOk.u64 lr) (sC sV sN))))))) (pl86 _ underlying86) rfl (FillR.cons [] [(1, [(vi 0)])] [(1, [(vi 2)])] [(32, (zB 32).map vu8), (1, [(vi 0)]), (128, (zB 128).map vu8), (1, [(vu64 0)]), (8, (zW 8).map vu64), (1, [(.bool false)])] rfl rfl rfl rfl (sC sV sN) rfl rfl rfl FillR.nil) rfl) ?_))
 refine WL.alloc (segs := [(1, [(vi 0)]), (32, (zB 32).map vu8), (1, [(vi 0)]), (128, (zB 128).map vu8), (1, [(vu64 0)]), (8, (zW 8).map vu64), (1, [(.bool false)])]) h_6 (zv typeInfo86 rfl) rfl (sC sV (sC (s8 lr) (sC sV (sC (s8 lr) (sC sV (sC (SOk.u64 lr) (sC sV sN))))))) rfl (fun b_8 w_9 h_10 => ?_)
 refine WL.storeA [] [(1, [(vi 0)]), (32, (zB 32).map vu8), (1, [(vi 0)]), (128, (zB 128).map vu8), (1, [(vu64 0)]), (8, (zW 8).map vu64), (1, [(.bool false)])] [(1, [(vi 2)]), (32, (zB 32).map vu8), (1, [(vi 0)]), (128, (zB 128).map vu8), (1, [(vu64 0)]), (8, (zW 8).map vu64), (1, [(.bool false)])] [] h_10 rfl rfl sizeOf86 At.h (by decide) rfl rfl rfl rfl rfl rfl (sC sV (sC (s8 lr) (sC sV (sC (s8 lr) (sC sV (sC (SOk.u64 lr) (sC sV sN))))))) (fun w_11 h_12 => ?_)
 refine WL.nil (thn_n (WP.seq (WP.seq (WP.reg ?_))))
 refine qV rfl (R.fieldAddr (off' := 0) rfl underlying86 rfl sizeOf81 rfl rfl) (qV rfl (R.load1 rfl isAgg81 (h_12.ok _ M2) Sg.h) ?_)
 refine WL.nil (thn_n (WP.block (WP.seq (WP.reg ?_))))
 refine qV rfl (R.bin rfl rfl (bi_eql (r := false) (by decide))) (qA (.bool false) rfl rfl ?_)
 refine WL.nil (thn_n ?_)
 refine WP.condF rfl ?_
 refine WP.seq (WP.reg ?_)
 refine qV rfl (R.bin rfl rfl (bi_eql (r := true) (by decide))) (qA (.bool true) rfl rfl ?_)
 refine WL.nil (thn_n ?_)
 refine WP.condT rfl ?_
 refine WP.drawT (SL w.heap.size [.blk b_4 .nw 86 [(1, [(vi 0)]), (32, (zB 32).map vu8), (1, [(vi 0)]), (128, (zB 128).map vu8), (1, [(vu64 0)]), (8, (zW 8).map vu64), (1, [(.bool false)])], .blk b_1 .nw 86 [(1, [(vi 2)]), (32, val.map vu8), (1, [(vi pg)]), (128, gr.map vu8), (1, [(vu64 pc)]), (8, rg.map vu64), (1, [(.bool run)])]]) (.q 0 (.q 1 (.q 2 (.q 3 (.q 4 (.s 5 (.q 6 (.s 7 .nil)))))))) (by kernel_rfl) (by kernel_rfl) rfl (by kernel_rfl) (fun w_13 hc_15 => (SL.cons ((h_12.same hc_15).ok _ M1) (SL.cons ((h_12.same hc_15).ok _ M2) (SL.nil _ _)))) (fun w_13 hc_15 => ?_)
 have h_14 := h_12.same hc_15
 refine qT rfl rfl (fun wq hS => R.fieldAddr (off' := 33) rfl underlying86 rfl sizeOf3 rfl rfl) ?_
 refine qT rfl rfl (fun wq hS => R.load1 rfl isAgg3 (hS _ M1) (Sg.t rfl (Sg.t rfl Sg.h))) ?_
 refine qT rfl rfl (fun wq hS => R.fieldAddr (off' := 34) rfl underlying86 rfl sizeOf29 rfl rfl) ?_
 refine qT rfl rfl (fun wq hS => R.loadA [(1, [(vi 2)]), (32, val.map vu8), (1, [(vi pg)])] [(128, gr.map vu8)] [(1, [(vu64 pc)]), (8, rg.map vu64), (1, [(.bool run)])] (cs := gr.map vu8) rfl isAgg29 sizeOf29 (hS _ M1) rfl rfl rfl rfl) ?_
 refine qT rfl rfl (fun wq hS => R.fieldAddr (off' := 33) rfl underlying86 rfl sizeOf3 rfl rfl) ?_
 refine WT.s (oN rfl ?_)
 refine WL.store1 h_14 rfl rfl sizeOf3 rfl At.h (by decide) (Sg.t rfl (Sg.t rfl Sg.h)) (fun w_16 h_17 => ?_)
 refine WL.nil ?_
 refine ⟨(N1_2 h_17.ok), ?_⟩
 refine qT rfl rfl (fun wq hS => R.fieldAddr (off' := 34) rfl underlying86 rfl sizeOf29 rfl rfl) ?_
 refine WT.s (oN rfl ?_)
 refine WL.storeA [(1, [(vi 2)]), (32, (zB 32).map vu8), (1, [(vi pg)])] [(128, (zB 128).map vu8)] [(128, gr.map vu8)] [(1, [(vu64 0)]), (8, (zW 8).map vu64), (1, [(.bool false)])] h_17 rfl rfl sizeOf29 At.h (by decide) rfl rfl rfl rfl rfl rfl (sC (s8 hgr) sN) (fun w_18 h_19 => ?_)
 refine WL.nil ?_
 refine ⟨(N1_2 h_19.ok), ?_⟩
 refine WT.nil (inb_n (thn_n (WP.seq (WP.reg ?_))))
 refine qV rfl (R.loadA [] [(1, [(vi 2)]), (32, (zB 32).map vu8), (1, [(vi pg)]), (128, gr.map vu8), (1, [(vu64 0)]), (8, (zW 8).map vu64), (1, [(.bool false)])] [] rfl isAgg86 sizeOf86 (h_19.ok _ M0) rfl rfl rfl rfl) ?_
 refine WL.storeA [] [(1, [(vi 0)]), (32, (zB 32).map vu8), (1, [(vi 0)]), (128, (zB 128).map vu8), (1, [(vu64 0)]), (8, (zW 8).map vu64), (1, [(.bool false)])] [(1, [(vi 2)]), (32, (zB 32).map vu8), (1, [(vi pg)]), (128, gr.map vu8), (1, [(vu64 0)]), (8, (zW 8).map vu64), (1, [(.bool false)])] [] h_19 rfl rfl sizeOf86 Y1 (by decide) rfl rfl rfl rfl rfl rfl (sC sV (sC (s8 lr) (sC sV (sC (s8 hgr) (sC sV (sC (SOk.u64 lr) (sC sV sN))))))) (fun w_20 h_21 => ?_)
 refine WL.nil (thn_n (WP.ret ?_))
 refine ret_of results73 (RV.cell rfl (h_21.loadA (cs := flat [(1, [(vi 2)]), (32, (zB 32).map vu8), (1, [(vi pg)]), (128, gr.map vu8), (1, [(vu64 0)]), (8, (zW 8).map vu64), (1, [(.bool false)])]) isAgg86 sizeOf86 M1 rfl rfl) RV.nil) ?_
 exact ⟨rfl, h_21.chgS⟩

theorem c_bareG_3 (val : List UInt8) (hvl : val.length = 32) (pg : Int) (hbp : -9223372036854775808 ≤ pg ∧ pg < 9223372036854775808) (gr : List UInt8) (hgr : gr.length = 128) (pc : UInt64) (rg : List UInt64) (hrg : rg.length = 8) (run : Bool) (w : World) :
  Cs Try.prog 73 [(.agg ⟨flat [(1, [(vi 3)]), (32, val.map vu8), (1, [(vi pg)]), (128, gr.map vu8), (1, [(vu64 pc)]), (8, rg.map vu64), (1, [(.bool run)])]⟩)].toArray w (fun v w1 => v = (.agg ⟨flat [(1, [(vi 3)]), (32, (List.replicate 32 (0 : UInt8)).map vu8), (1, [(vi 0)]), (128, (List.replicate 128 (0 : UInt8)).map vu8), (1, [(vu64 pc)]), (8, rg.map vu64), (1, [(.bool run)])]⟩) ∧ Chg w w1 []) := by
 refine Cs.of (n := 28) (args := [(.agg ⟨flat [(1, [(vi 3)]), (32, val.map vu8), (1, [(vi pg)]), (128, gr.map vu8), (1, [(vu64 pc)]), (8, rg.map vu64), (1, [(.bool run)])]⟩)]) Try.func73 rfl rfl rfl ?_
 have h_0 := HP.init w
 refine WP.seq (WP.reg ?_)
 refine WL.box (segs := [(1, [(vi 3)]), (32, val.map vu8), (1, [(vi pg)]), (128, gr.map vu8), (1, [(vu64 pc)]), (8, rg.map vu64), (1, [(.bool run)])]) h_0 rfl rfl (sC sV (sC (s8 hvl) (sC sV (sC (s8 hgr) (sC sV (sC (SOk.u64 hrg) (sC sV sN))))))) rfl (fun b_1 w_2 h_3 => ?_)
 refine WL.alloc (segs := [(1, [(vi 0)]), (32, (zB 32).map vu8), (1, [(vi 0)]), (128, (zB 128).map vu8), (1, [(vu64 0)]), (8, (zW 8).map vu64), (1, [(.bool false)])]) h_3 (zv typeInfo86 rfl) rfl (sC sV (sC (s8 lr) (sC sV (sC (s8 lr) (sC sV (sC (SOk.u64 lr) (sC sV sN))))))) rfl (fun b_4 w_5 h_6 => ?_)
 refine WL.nil (thn_n (WP.seq (WP.reg ?_)))
 refine qV rfl (R.fieldAddr (off' := 0) rfl underlying86 rfl sizeOf81 rfl rfl) (qV rfl (R.load1 rfl isAgg81 (h_6.ok _ M1) Sg.h) (qV rfl (R.buildS (pl := [(0, 1), (1, 32), (33, 1), (34, 128), (162, 10)]) (zs := [(1, [(vi 0)]), (32, (zB 32).map vu8), (1, [(vi 0)]), (128, (zB 128).map vu8), (1, [(vu64 0)]), (8, (zW 8).map vu64), (1, [(.bool false)])]) (vs := [(0, (vi 3))]) (out := [(1, [(vi 3)]), (32, (zB 32).map vu8), (1, [(vi 0)]), (128, (zB 128).map vu8), (1, [(vu64 0)]), (8, (zW 8).map vu64), (1, [(.bool false)])]) underlying86 (zv typeInfo86 rfl) rfl (sC sV (sC (s8 lr) (sC sV (sC (s8 lr) (sC sV (sC (SOk.u64 lr) (sC sV sN))))))) (pl86 _ underlying86) rfl (FillR.cons [] [(1, [(vi 0)])] [(1, [(vi 3)])] [(32, (zB 32).map vu8), (1, [(vi 0)]), (128, (zB 128).map vu8), (1, [(vu64 0)]), (8, (zW 8).map vu64), (1, [(.bool false)])] rfl rfl rfl rfl (sC sV sN) rfl rfl rfl FillR.nil) rfl) ?_))
 refine WL.alloc (segs := [(1, [(vi 0)]), (32, (zB 32).map vu8), (1, [(vi 0)]), (128, (zB 128).map vu8), (1, [(vu64 0)]), (8, (zW 8).map vu64), (1, [(.bool false)])]) h_6 (zv typeInfo86 rfl) rfl (sC sV (sC (s8 lr) (sC sV (sC (s8 lr) (sC sV (sC (SOk.u64 lr) (sC sV sN))))))) rfl (fun b_8 w_9 h_10 => ?_)
 refine WL.storeA [] [(1, [(vi 0)]), (32, (zB 32).map vu8), (1, [(vi 0)]), (128, (zB 128).map vu8), (1, [(vu64 0)]), (8, (zW 8).map vu64), (1, [(.bool false)])] [(1, [(vi 3)]), (32, (zB 32).map vu8), (1, [(vi 0)]), (128, (zB 128).map vu8), (1, [(vu64 0)]), (8, (zW 8).map vu64), (1, [(.bool false)])] [] h_10 rfl rfl sizeOf86 At.h (by decide) rfl rfl rfl rfl rfl rfl (sC sV (sC (s8 lr) (sC sV (sC (s8 lr) (sC sV (sC (SOk.u64 lr) (sC sV sN))))))) (fun w_11 h_12 => ?_)
 refine WL.nil (thn_n (WP.seq (WP.seq (WP.reg ?_))))
 refine qV rfl (R.fieldAddr (off' := 0) rfl underlying86 rfl sizeOf81 rfl rfl) (qV rfl (R.load1 rfl isAgg81 (h_12.ok _ M2) Sg.h) ?_)
 refine WL.nil (thn_n (WP.block (WP.seq (WP.reg ?_))))
 refine qV rfl (R.bin rfl rfl (bi_eql (r := false) (by decide))) (qA (.bool false) rfl rfl ?_)
 refine WL.nil (thn_n ?_)
 refine WP.condF rfl ?_
 refine WP.seq (WP.reg ?_)
 refine qV rfl (R.bin rfl rfl (bi_eql (r := false) (by decide))) (qA (.bool false) rfl rfl ?_)
 refine WL.nil (thn_n ?_)
 refine WP.condF rfl ?_
 refine WP.seq (WP.reg ?_)
 refine qV rfl (R.bin rfl rfl (bi_eql (r := true) (by decide))) (qA (.bool true) rfl rfl ?_)
 refine WL.nil (thn_n ?_)
 refine WP.condT rfl ?_
 refine WP.reg ?_
 refine qV rfl (R.fieldAddr (off' := 162) rfl underlying86 rfl sizeOf84 rfl rfl) (qV rfl (R.loadA [(1, [(vi 3)]), (32, val.map vu8), (1, [(vi pg)]), (128, gr.map vu8)] [(1, [(vu64 pc)]), (8, rg.map vu64), (1, [(.bool run)])] [] rfl isAgg84 sizeOf84 (h_12.ok _ M2) rfl rfl rfl rfl) (qV rfl (R.fieldAddr (off' := 162) rfl underlying86 rfl sizeOf84 rfl rfl) ?_))
 refine WL.storeA [(1, [(vi 3)]), (32, (zB 32).map vu8), (1, [(vi 0)]), (128, (zB 128).map vu8)] [(1, [(vu64 0)]), (8, (zW 8).map vu64), (1, [(.bool false)])] [(1, [(vu64 pc)]), (8, rg.map vu64), (1, [(.bool run)])] [] h_12 rfl rfl sizeOf84 At.h (by decide) rfl rfl rfl rfl rfl rfl (sC sV (sC (SOk.u64 hrg) (sC sV sN))) (fun w_13 h_14 => ?_)
 refine WL.nil (inb_n (thn_n (WP.seq (WP.reg ?_))))
 refine qV rfl (R.loadA [] [(1, [(vi 3)]), (32, (zB 32).map vu8), (1, [(vi 0)]), (128, (zB 128).map vu8), (1, [(vu64 pc)]), (8, rg.map vu64), (1, [(.bool run)])] [] rfl isAgg86 sizeOf86 (h_14.ok _ M0) rfl rfl rfl rfl) ?_
 refine WL.storeA [] [(1, [(vi 0)]), (32, (zB 32).map vu8), (1, [(vi 0)]), (128, (zB 128).map vu8), (1, [(vu64 0)]), (8, (zW 8).map vu64), (1, [(.bool false)])] [(1, [(vi 3)]), (32, (zB 32).map vu8), (1, [(vi 0)]), (128, (zB 128).map vu8), (1, [(vu64 pc)]), (8, rg.map vu64), (1, [(.bool run)])] [] h_14 rfl rfl sizeOf86 Y1 (by decide) rfl rfl rfl rfl rfl rfl (sC sV (sC (s8 lr) (sC sV (sC (s8 lr) (sC sV (sC (SOk.u64 hrg) (sC sV sN))))))) (fun w_15 h_16 => ?_)
 refine WL.nil (thn_n (WP.ret ?_))
 refine ret_of results73 (RV.cell rfl (h_16.loadA (cs := flat [(1, [(vi 3)]), (32, (zB 32).map vu8), (1, [(vi 0)]), (128, (zB 128).map vu8), (1, [(vu64 pc)]), (8, rg.map vu64), (1, [(.bool run)])]) isAgg86 sizeOf86 M1 rfl rfl) RV.nil) ?_
 exact ⟨rfl, h_16.chgS⟩

theorem typR (kd : Int) (hbk : -9223372036854775808 ≤ kd ∧ kd < 9223372036854775808) (val : List UInt8) (hvl : val.length = 32) (pg : Int) (hbp : -9223372036854775808 ≤ pg ∧ pg < 9223372036854775808) (gr : List UInt8) (hgr : gr.length = 128) (pc : UInt64) (rg : List UInt64) (hrg : rg.length = 8) (run : Bool) : Typ Try.prog 4 86 (flat [(1, [(vi kd)]), (32, val.map vu8), (1, [(vi pg)]), (128, gr.map vu8), (1, [(vu64 pc)]), (8, rg.map vu64), (1, [(.bool run)])]) := (Typ.struct (h := 3) (r := [(1, [(vi kd)]), (32, val.map vu8), (1, [(vi pg)]), (128, gr.map vu8), (10, flat [(1, [(vu64 pc)]), (8, rg.map vu64), (1, [(.bool run)])])]) (cs := flat [(1, [(vi kd)]), (32, val.map vu8), (1, [(vi pg)]), (128, gr.map vu8), (1, [(vu64 pc)]), (8, rg.map vu64), (1, [(.bool run)])]) underlying86 (TypF.cons (k := 1) rfl rfl (by decide) rfl (Typ.int underlying81 ce81 (WalkArith.wf_i64 (by omega))) (TypF.cons (k := 32) rfl rfl (by decide) (len_map hvl) (Typ.u8s underlying23 ce23 underlying5 ce5 hvl) (TypF.cons (k := 1) rfl rfl (by decide) rfl (Typ.int underlying3 ce3 (WalkArith.wf_i64 (by omega))) (TypF.cons (k := 128) rfl rfl (by decide) (len_map hgr) (Typ.u8s underlying29 ce29 underlying5 ce5 hgr) (TypF.cons (k := 10) rfl rfl (by decide) ((sC sV (sC (SOk.u64 hrg) (sC sV sN)))).len (Typ.struct (h := 2) (r := [(1, [(vu64 pc)]), (8, rg.map vu64), (1, [(.bool run)])]) (cs := flat [(1, [(vu64 pc)]), (8, rg.map vu64), (1, [(.bool run)])]) underlying84 (TypF.cons (k := 1) rfl rfl (by decide) rfl (Typ.int underlying27 ce27 (wfu64 pc)) (TypF.cons (k := 8) rfl rfl (by decide) (len_map hrg) (Typ.u64s underlying82 ce82 underlying27 ce27 hrg) (TypF.cons (k := 1) rfl rfl (by decide) rfl (Typ.bool underlying4 ce4) TypF.nil))) rfl (((sC sV (sC (SOk.u64 hrg) (sC sV sN)))).len.trans ce84.symm)) TypF.nil))))) (by simp [flat]) (((sC sV (sC (s8 hvl) (sC sV (sC (s8 hgr) (sC sV (sC (SOk.u64 hrg) (sC sV sN)))))))).len.trans ce86.symm))

theorem recEq1 {pg : Int} {val gr : List UInt8} {pc : UInt64} {rg : List UInt64} {run : Bool} (hvl : val.length = 32) (hgr : gr.length = 128) (hrg : rg.length = 8) : (flat [(1, [(vi 1)]), (32, val.map vu8), (1, [(vi pg)]), (128, gr.map vu8), (1, [(vu64 pc)]), (8, rg.map vu64), (1, [(.bool run)])] = flat [(1, [(vi 1)]), (32, val.map vu8), (1, [(vi 0)]), (128, (List.replicate 128 (0 : UInt8)).map vu8), (1, [(vu64 0)]), (8, (List.replicate 8 (0 : UInt64)).map vu64), (1, [(.bool false)])]) = (pg = 0 ∧ gr = List.replicate 128 (0 : UInt8) ∧ (pc = 0 ∧ rg = List.replicate 8 (0 : UInt64) ∧ run = false)) := by
 refine propext ⟨fun e => ?_, fun e => ?_⟩
 ·have i := rec7_inj hvl hvl hgr lr hrg lr e
  exact ⟨i.2.2.1, i.2.2.2.1, i.2.2.2.2⟩
 ·obtain ⟨e1, e2, e3, e4, e5⟩ := e
  simp only [e1, e2, e3, e4, e5]

theorem recEq2 {pg : Int} {val gr : List UInt8} {pc : UInt64} {rg : List UInt64} {run : Bool} (hvl : val.length = 32) (hgr : gr.length = 128) (hrg : rg.length = 8) : (flat [(1, [(vi 2)]), (32, val.map vu8), (1, [(vi pg)]), (128, gr.map vu8), (1, [(vu64 pc)]), (8, rg.map vu64), (1, [(.bool run)])] = flat [(1, [(vi 2)]), (32, (List.replicate 32 (0 : UInt8)).map vu8), (1, [(vi pg)]), (128, gr.map vu8), (1, [(vu64 0)]), (8, (List.replicate 8 (0 : UInt64)).map vu64), (1, [(.bool false)])]) = (val = List.replicate 32 (0 : UInt8) ∧ (pc = 0 ∧ rg = List.replicate 8 (0 : UInt64) ∧ run = false)) := by
 refine propext ⟨fun e => ?_, fun e => ?_⟩
 ·have i := rec7_inj hvl lr hgr hgr hrg lr e
  exact ⟨i.2.1, i.2.2.2.2⟩
 ·obtain ⟨e1, e3, e4, e5⟩ := e
  simp only [e1, e3, e4, e5]

theorem recEq3 {pg : Int} {val gr : List UInt8} {pc : UInt64} {rg : List UInt64} {run : Bool} (hvl : val.length = 32) (hgr : gr.length = 128) (hrg : rg.length = 8) : (flat [(1, [(vi 3)]), (32, val.map vu8), (1, [(vi pg)]), (128, gr.map vu8), (1, [(vu64 pc)]), (8, rg.map vu64), (1, [(.bool run)])] = flat [(1, [(vi 3)]), (32, (List.replicate 32 (0 : UInt8)).map vu8), (1, [(vi 0)]), (128, (List.replicate 128 (0 : UInt8)).map vu8), (1, [(vu64 pc)]), (8, rg.map vu64), (1, [(.bool run)])]) = (val = List.replicate 32 (0 : UInt8) ∧ pg = 0 ∧ gr = List.replicate 128 (0 : UInt8)) := by
 refine propext ⟨fun e => ?_, fun e => ?_⟩
 ·have i := rec7_inj hvl lr hgr lr hrg hrg e
  exact ⟨i.2.1, i.2.2.1, i.2.2.2.1⟩
 ·obtain ⟨e1, e2, e3⟩ := e
  simp only [e1, e2, e3]

theorem c_MayG_1 (val : List UInt8) (hvl : val.length = 32) (pg : Int) (hbp : -9223372036854775808 ≤ pg ∧ pg < 9223372036854775808) (gr : List UInt8) (hgr : gr.length = 128) (pc : UInt64) (rg : List UInt64) (hrg : rg.length = 8) (run : Bool) (w : World) :
  Cs Try.prog 62 [(.agg ⟨flat [(1, [(vi 1)]), (32, val.map vu8), (1, [(vi pg)]), (128, gr.map vu8), (1, [(vu64 pc)]), (8, rg.map vu64), (1, [(.bool run)])]⟩)].toArray w (fun v w1 => v = .bool (mayB 1 val pg gr pc rg run) ∧ Chg w w1 []) := by
 refine Cs.of (n := 34) (args := [(.agg ⟨flat [(1, [(vi 1)]), (32, val.map vu8), (1, [(vi pg)]), (128, gr.map vu8), (1, [(vu64 pc)]), (8, rg.map vu64), (1, [(.bool run)])]⟩)]) Try.func62 rfl rfl rfl ?_
 have h_0 := HP.init w
 refine WP.seq (WP.reg ?_)
 refine WL.box (segs := [(1, [(vi 1)]), (32, val.map vu8), (1, [(vi pg)]), (128, gr.map vu8), (1, [(vu64 pc)]), (8, rg.map vu64), (1, [(.bool run)])]) h_0 rfl rfl (sC sV (sC (s8 hvl) (sC sV (sC (s8 hgr) (sC sV (sC (SOk.u64 hrg) (sC sV sN))))))) rfl (fun b_1 w_2 h_3 => ?_)
 refine qA (.bool false) rfl rfl ?_
 refine WL.nil (thn_n (WP.seq (WP.reg ?_)))
 refine qV rfl (R.fieldAddr (off' := 0) rfl underlying86 rfl sizeOf81 rfl rfl) (qV rfl (R.load1 rfl isAgg81 (h_3.ok _ M0) Sg.h) (qV rfl (R.bin rfl rfl (bi_geq (r := true) (by decide))) (qM (.bool true) rfl rfl ?_)))
 refine WL.want rfl rfl ?_
 refine qV rfl (R.fieldAddr (off' := 0) rfl underlying86 rfl sizeOf81 rfl rfl) ?_
 refine WL.want rfl rfl ?_
 refine qV rfl (R.load1 rfl isAgg81 (h_3.ok _ M0) Sg.h) ?_
 refine WL.want rfl rfl ?_
 refine qV rfl (R.bin rfl rfl (bi_leq (r := true) (by decide))) (qV rfl (R.pickT (v := (.bool true)) rfl rfl) (qA (.bool true) rfl rfl ?_))
 refine WL.nil (thn_n (WP.seq ?_))
 refine WP.drawT (SL w.heap.size [.blk b_1 .nw 86 [(1, [(vi 1)]), (32, val.map vu8), (1, [(vi pg)]), (128, gr.map vu8), (1, [(vu64 pc)]), (8, rg.map vu64), (1, [(.bool run)])]]) (.q 0 (.q 1 (.q 2 (.q 3 (.s 4 (.q 5 (.q 6 (.q 7 (.q 8 (.q 9 (.q 10 (.q 11 (.q 12 (.q 13 (.q 14 (.q 15 (.q 16 (.q 17 (.q 18 (.q 19 (.s 20 (.q 21 (.q 22 .nil))))))))))))))))))))))) (by kernel_rfl) (by kernel_rfl) rfl (by kernel_rfl) (fun w_4 hc_6 => (SL.cons ((h_3.same hc_6).ok _ M0) (SL.nil _ _))) (fun w_4 hc_6 => ?_)
 have h_5 := h_3.same hc_6
 refine qT rfl rfl (fun wq hS => R.move (v := (.bool true)) rfl) ?_
 refine qT rfl rfl (fun wq hS => R.move (v := (.bool true)) rfl) ?_
 refine WT.q rfl (Wn.yes rfl rfl rfl) rfl rfl (fun wq hS => R.loadA [] [(1, [(vi 1)]), (32, val.map vu8), (1, [(vi pg)]), (128, gr.map vu8), (1, [(vu64 pc)]), (8, rg.map vu64), (1, [(.bool run)])] [] rfl isAgg86 sizeOf86 (hS _ M0) rfl rfl rfl rfl) ?_
 refine WT.q rfl (Wn.yes rfl rfl rfl) rfl rfl (fun wq hS => R.loadA [] [(1, [(vi 1)]), (32, val.map vu8), (1, [(vi pg)]), (128, gr.map vu8), (1, [(vu64 pc)]), (8, rg.map vu64), (1, [(.bool run)])] [] rfl isAgg86 sizeOf86 (hS _ M0) rfl rfl rfl rfl) ?_
 refine WT.s ?_
 refine Op1.one rfl (Wn.yes rfl rfl rfl) ?_
 refine WL.call Try.call73 rfl rfl (c_bareG_1 val hvl pg (by omega) gr hgr pc rg hrg run _ ) rfl ?_
 rintro _ w_8 ⟨rfl, hc_7⟩
 have h_9 := h_5.same hc_7
 refine WL.nil ?_
 refine ⟨(N0 h_9.ok), ?_⟩
 refine WT.q rfl (Wn.yes rfl rfl rfl) rfl rfl (fun wq hS => R.eqA (xs := flat [(1, [(vi 1)]), (32, val.map vu8), (1, [(vi pg)]), (128, gr.map vu8), (1, [(vu64 pc)]), (8, rg.map vu64), (1, [(.bool run)])]) (ys := flat [(1, [(vi 1)]), (32, val.map vu8), (1, [(vi 0)]), (128, (zB 128).map vu8), (1, [(vu64 0)]), (8, (zW 8).map vu64), (1, [(.bool false)])]) (r := decide (pg = 0 ∧ gr = List.replicate 128 (0 : UInt8) ∧ (pc = 0 ∧ rg = List.replicate 8 (0 : UInt64) ∧ run = false))) rfl rfl eqGuardType86 kt86 (by decide) ag86 (typR 1 (by decide) val hvl pg (by omega) gr hgr pc rg hrg run) (typR 1 (by decide) val hvl 0 (by decide) (zB 128) lr (0 : UInt64) (zW 8) lr false) ((recEq1 hvl hgr hrg).trans (decT _))) ?_
 refine qT rfl rfl (fun wq hS => R.pickT (v := (.bool (decide (pg = 0 ∧ gr = List.replicate 128 (0 : UInt8) ∧ (pc = 0 ∧ rg = List.replicate 8 (0 : UInt64) ∧ run = false))))) rfl rfl) ?_
 refine qT rfl rfl (fun wq hS => R.move (v := (.bool (decide (pg = 0 ∧ gr = List.replicate 128 (0 : UInt8) ∧ (pc = 0 ∧ rg = List.replicate 8 (0 : UInt64) ∧ run = false))))) rfl) ?_
 rcases Bool.eq_false_or_eq_true (decide (pg = 0 ∧ gr = List.replicate 128 (0 : UInt8) ∧ (pc = 0 ∧ rg = List.replicate 8 (0 : UInt64) ∧ run = false))) with c_10 | c_10
 ·have p_11 := of_decide_eq_true c_10
  refine WT.q rfl (Wn.yes rfl rfl (congrArg Value.bool c_10)) rfl rfl (fun wq hS => R.fieldAddr (off' := 33) rfl underlying86 rfl sizeOf3 rfl rfl) ?_
  refine WT.q rfl (Wn.yes rfl rfl (congrArg Value.bool c_10)) rfl rfl (fun wq hS => R.load1 rfl isAgg3 (hS _ M0) (Sg.t rfl (Sg.t rfl Sg.h))) ?_
  refine WT.q rfl (Wn.yes rfl rfl (congrArg Value.bool c_10)) rfl rfl (fun wq hS => R.bin rfl rfl (bi_geq (r := decide ((pg : Int) ≥ 0)) rfl)) ?_
  refine qT rfl rfl (fun wq hS => R.pickT (v := (.bool (decide ((pg : Int) ≥ 0)))) (congrArg Value.bool c_10) rfl) ?_
  refine qT rfl rfl (fun wq hS => R.move (v := (.bool (decide ((pg : Int) ≥ 0)))) rfl) ?_
  rcases Bool.eq_false_or_eq_true (decide ((pg : Int) ≥ 0)) with c_12 | c_12
  ·have p_13 := of_decide_eq_true c_12
   refine WT.q rfl (Wn.yes rfl rfl (congrArg Value.bool c_12)) rfl rfl (fun wq hS => R.fieldAddr (off' := 33) rfl underlying86 rfl sizeOf3 rfl rfl) ?_
   refine WT.q rfl (Wn.yes rfl rfl (congrArg Value.bool c_12)) rfl rfl (fun wq hS => R.load1 rfl isAgg3 (hS _ M0) (Sg.t rfl (Sg.t rfl Sg.h))) ?_
   refine WT.q rfl (Wn.yes rfl rfl (congrArg Value.bool c_12)) rfl rfl (fun wq hS => R.bin rfl rfl (bi_lss (r := decide ((pg : Int) < 128)) rfl)) ?_
   refine qT rfl rfl (fun wq hS => R.pickT (v := (.bool (decide ((pg : Int) < 128)))) (congrArg Value.bool c_12) rfl) ?_
   refine qT rfl rfl (fun wq hS => R.move (v := (.bool (decide ((pg : Int) < 128)))) rfl) ?_
   rcases Bool.eq_false_or_eq_true (decide ((pg : Int) < 128)) with c_14 | c_14
   ·have p_15 := of_decide_eq_true c_14
    refine WT.q rfl (Wn.yes rfl rfl (congrArg Value.bool c_14)) rfl rfl (fun wq hS => R.fieldAddr (off' := 162) rfl underlying86 rfl sizeOf84 rfl rfl) ?_
    refine WT.q rfl (Wn.yes rfl rfl (congrArg Value.bool c_14)) rfl rfl (fun wq hS => R.loadA [(1, [(vi 1)]), (32, val.map vu8), (1, [(vi pg)]), (128, gr.map vu8)] [(1, [(vu64 pc)]), (8, rg.map vu64), (1, [(.bool run)])] [] rfl isAgg84 sizeOf84 (hS _ M0) rfl rfl rfl rfl) ?_
    refine WT.s ?_
    refine Op1.one rfl (Wn.yes rfl rfl (congrArg Value.bool c_14)) ?_
    refine WL.call Try.call74 rfl rfl (c_MayRec pc rg hrg run _ ) rfl ?_
    rintro _ w_17 ⟨rfl, hc_16⟩
    have h_18 := h_9.same hc_16
    refine WL.nil ?_
    refine ⟨(N0 h_18.ok), ?_⟩
    refine qT rfl rfl (fun wq hS => R.pickT (v := (.bool (decide (pc % 8 = 0)))) (congrArg Value.bool c_14) rfl) ?_
    refine qT rfl rfl (fun wq hS => R.assign (v := (.bool (decide (pc % 8 = 0)))) rfl) ?_
    refine WT.nil (thn_n (WP.ret ?_))
    refine ret_of results62 (RV.tmp (v := (.bool (decide (pc % 8 = 0)))) rfl RV.nil) ?_
    obtain ⟨e1, e2, e3, e4, e5⟩ := p_11
    exact ⟨congrArg Value.bool ((decide_eq_true (by rw [e3]; decide)).trans (decide_eq_true (Or.inl ⟨rfl, e1, e2, e3, e4, e5⟩)).symm), h_18.chgS⟩
   ·have p_19 := of_decide_eq_false c_14
    refine WT.skipQ rfl rfl rfl (boolNe (v := .bool false) (congrArg Value.bool c_14) (by decide)) rfl rfl ?_
    refine WT.skipQ rfl rfl rfl (boolNe (v := .bool false) (congrArg Value.bool c_14) (by decide)) rfl rfl ?_
    refine WT.s ?_
    refine Op1.skip rfl rfl rfl (boolNe (v := .bool false) (congrArg Value.bool c_14) (by decide)) rfl rfl ?_
    refine qT rfl rfl (fun wq hS => R.pickF (v := (.bool false)) (congrArg Value.bool c_14) rfl) ?_
    refine qT rfl rfl (fun wq hS => R.assign (v := (.bool false)) rfl) ?_
    refine WT.nil (thn_n (WP.ret ?_))
    refine ret_of results62 (RV.tmp (v := (.bool false)) rfl RV.nil) ?_
    exact absurd p_11.1 (by omega)
  ·have p_20 := of_decide_eq_false c_12
   refine WT.skipQ rfl rfl rfl (boolNe (v := .bool false) (congrArg Value.bool c_12) (by decide)) rfl rfl ?_
   refine WT.skipQ rfl rfl rfl (boolNe (v := .bool false) (congrArg Value.bool c_12) (by decide)) rfl rfl ?_
   refine WT.skipQ rfl rfl rfl (boolNe (v := .bool false) (congrArg Value.bool c_12) (by decide)) rfl rfl ?_
   refine qT rfl rfl (fun wq hS => R.pickF (v := (.bool false)) (congrArg Value.bool c_12) rfl) ?_
   refine qT rfl rfl (fun wq hS => R.move (v := (.bool false)) rfl) ?_
   refine WT.skipQ rfl rfl rfl (boolNe (v := .bool false) rfl (by decide)) rfl rfl ?_
   refine WT.skipQ rfl rfl rfl (boolNe (v := .bool false) rfl (by decide)) rfl rfl ?_
   refine WT.s ?_
   refine Op1.skip rfl rfl rfl (boolNe (v := .bool false) rfl (by decide)) rfl rfl ?_
   refine qT rfl rfl (fun wq hS => R.pickF (v := (.bool false)) rfl rfl) ?_
   refine qT rfl rfl (fun wq hS => R.assign (v := (.bool false)) rfl) ?_
   refine WT.nil (thn_n (WP.ret ?_))
   refine ret_of results62 (RV.tmp (v := (.bool false)) rfl RV.nil) ?_
   exact absurd p_11.1 (by omega)
 ·have p_21 := of_decide_eq_false c_10
  refine WT.skipQ rfl rfl rfl (boolNe (v := .bool false) (congrArg Value.bool c_10) (by decide)) rfl rfl ?_
  refine WT.skipQ rfl rfl rfl (boolNe (v := .bool false) (congrArg Value.bool c_10) (by decide)) rfl rfl ?_
  refine WT.skipQ rfl rfl rfl (boolNe (v := .bool false) (congrArg Value.bool c_10) (by decide)) rfl rfl ?_
  refine qT rfl rfl (fun wq hS => R.pickF (v := (.bool false)) (congrArg Value.bool c_10) rfl) ?_
  refine qT rfl rfl (fun wq hS => R.move (v := (.bool false)) rfl) ?_
  refine WT.skipQ rfl rfl rfl (boolNe (v := .bool false) rfl (by decide)) rfl rfl ?_
  refine WT.skipQ rfl rfl rfl (boolNe (v := .bool false) rfl (by decide)) rfl rfl ?_
  refine WT.skipQ rfl rfl rfl (boolNe (v := .bool false) rfl (by decide)) rfl rfl ?_
  refine qT rfl rfl (fun wq hS => R.pickF (v := (.bool false)) rfl rfl) ?_
  refine qT rfl rfl (fun wq hS => R.move (v := (.bool false)) rfl) ?_
  refine WT.skipQ rfl rfl rfl (boolNe (v := .bool false) rfl (by decide)) rfl rfl ?_
  refine WT.skipQ rfl rfl rfl (boolNe (v := .bool false) rfl (by decide)) rfl rfl ?_
  refine WT.s ?_
  refine Op1.skip rfl rfl rfl (boolNe (v := .bool false) rfl (by decide)) rfl rfl ?_
  refine qT rfl rfl (fun wq hS => R.pickF (v := (.bool false)) rfl rfl) ?_
  refine qT rfl rfl (fun wq hS => R.assign (v := (.bool false)) rfl) ?_
  refine WT.nil (thn_n (WP.ret ?_))
  refine ret_of results62 (RV.tmp (v := (.bool false)) rfl RV.nil) ?_
  have hf : false = mayB 1 val pg gr pc rg run := (decide_eq_false (p := mayZ 1 val pg gr pc rg run) (fun hm => (show _ ∨ _ ∨ _ from hm).elim (fun hm => p_21 hm.2) (fun hm => hm.elim (fun hm => absurd hm.1 (by decide)) (fun hm => absurd hm.1 (by decide))))).symm
  exact ⟨congrArg Value.bool hf, h_9.chgS⟩

theorem c_MayG_2 (val : List UInt8) (hvl : val.length = 32) (pg : Int) (hbp : -9223372036854775808 ≤ pg ∧ pg < 9223372036854775808) (gr : List UInt8) (hgr : gr.length = 128) (pc : UInt64) (rg : List UInt64) (hrg : rg.length = 8) (run : Bool) (w : World) :
  Cs Try.prog 62 [(.agg ⟨flat [(1, [(vi 2)]), (32, val.map vu8), (1, [(vi pg)]), (128, gr.map vu8), (1, [(vu64 pc)]), (8, rg.map vu64), (1, [(.bool run)])]⟩)].toArray w (fun v w1 => v = .bool (mayB 2 val pg gr pc rg run) ∧ Chg w w1 []) := by
 refine Cs.of (n := 34) (args := [(.agg ⟨flat [(1, [(vi 2)]), (32, val.map vu8), (1, [(vi pg)]), (128, gr.map vu8), (1, [(vu64 pc)]), (8, rg.map vu64), (1, [(.bool run)])]⟩)]) Try.func62 rfl rfl rfl ?_
 have h_0 := HP.init w
 refine WP.seq (WP.reg ?_)
 refine WL.box (segs := [(1, [(vi 2)]), (32, val.map vu8), (1, [(vi pg)]), (128, gr.map vu8), (1, [(vu64 pc)]), (8, rg.map vu64), (1, [(.bool run)])]) h_0 rfl rfl (sC sV (sC (s8 hvl) (sC sV (sC (s8 hgr) (sC sV (sC (SOk.u64 hrg) (sC sV sN))))))) rfl (fun b_1 w_2 h_3 => ?_)
 refine qA (.bool false) rfl rfl ?_
 refine WL.nil (thn_n (WP.seq (WP.reg ?_)))
 refine qV rfl (R.fieldAddr (off' := 0) rfl underlying86 rfl sizeOf81 rfl rfl) (qV rfl (R.load1 rfl isAgg81 (h_3.ok _ M0) Sg.h) (qV rfl (R.bin rfl rfl (bi_geq (r := true) (by decide))) (qM (.bool true) rfl rfl ?_)))
 refine WL.want rfl rfl ?_
 refine qV rfl (R.fieldAddr (off' := 0) rfl underlying86 rfl sizeOf81 rfl rfl) ?_
 refine WL.want rfl rfl ?_
 refine qV rfl (R.load1 rfl isAgg81 (h_3.ok _ M0) Sg.h) ?_
 refine WL.want rfl rfl ?_
 refine qV rfl (R.bin rfl rfl (bi_leq (r := true) (by decide))) (qV rfl (R.pickT (v := (.bool true)) rfl rfl) (qA (.bool true) rfl rfl ?_))
 refine WL.nil (thn_n (WP.seq ?_))
 refine WP.drawT (SL w.heap.size [.blk b_1 .nw 86 [(1, [(vi 2)]), (32, val.map vu8), (1, [(vi pg)]), (128, gr.map vu8), (1, [(vu64 pc)]), (8, rg.map vu64), (1, [(.bool run)])]]) (.q 0 (.q 1 (.q 2 (.q 3 (.s 4 (.q 5 (.q 6 (.q 7 (.q 8 (.q 9 (.q 10 (.q 11 (.q 12 (.q 13 (.q 14 (.q 15 (.q 16 (.q 17 (.q 18 (.q 19 (.s 20 (.q 21 (.q 22 .nil))))))))))))))))))))))) (by kernel_rfl) (by kernel_rfl) rfl (by kernel_rfl) (fun w_4 hc_6 => (SL.cons ((h_3.same hc_6).ok _ M0) (SL.nil _ _))) (fun w_4 hc_6 => ?_)
 have h_5 := h_3.same hc_6
 refine qT rfl rfl (fun wq hS => R.move (v := (.bool true)) rfl) ?_
 refine qT rfl rfl (fun wq hS => R.move (v := (.bool true)) rfl) ?_
 refine WT.q rfl (Wn.yes rfl rfl rfl) rfl rfl (fun wq hS => R.loadA [] [(1, [(vi 2)]), (32, val.map vu8), (1, [(vi pg)]), (128, gr.map vu8), (1, [(vu64 pc)]), (8, rg.map vu64), (1, [(.bool run)])] [] rfl isAgg86 sizeOf86 (hS _ M0) rfl rfl rfl rfl) ?_
 refine WT.q rfl (Wn.yes rfl rfl rfl) rfl rfl (fun wq hS => R.loadA [] [(1, [(vi 2)]), (32, val.map vu8), (1, [(vi pg)]), (128, gr.map vu8), (1, [(vu64 pc)]), (8, rg.map vu64), (1, [(.bool run)])] [] rfl isAgg86 sizeOf86 (hS _ M0) rfl rfl rfl rfl) ?_
 refine WT.s ?_
 refine Op1.one rfl (Wn.yes rfl rfl rfl) ?_
 refine WL.call Try.call73 rfl rfl (c_bareG_2 val hvl pg (by omega) gr hgr pc rg hrg run _ ) rfl ?_
 rintro _ w_8 ⟨rfl, hc_7⟩
 have h_9 := h_5.same hc_7
 refine WL.nil ?_
 refine ⟨(N0 h_9.ok), ?_⟩
 refine WT.q rfl (Wn.yes rfl rfl rfl) rfl rfl (fun wq hS => R.eqA (xs := flat [(1, [(vi 2)]), (32, val.map vu8), (1, [(vi pg)]), (128, gr.map vu8), (1, [(vu64 pc)]), (8, rg.map vu64), (1, [(.bool run)])]) (ys := flat [(1, [(vi 2)]), (32, (zB 32).map vu8), (1, [(vi pg)]), (128, gr.map vu8), (1, [(vu64 0)]), (8, (zW 8).map vu64), (1, [(.bool false)])]) (r := decide (val = List.replicate 32 (0 : UInt8) ∧ (pc = 0 ∧ rg = List.replicate 8 (0 : UInt64) ∧ run = false))) rfl rfl eqGuardType86 kt86 (by decide) ag86 (typR 2 (by decide) val hvl pg (by omega) gr hgr pc rg hrg run) (typR 2 (by decide) (zB 32) lr pg (by omega) gr hgr (0 : UInt64) (zW 8) lr false) ((recEq2 hvl hgr hrg).trans (decT _))) ?_
 refine qT rfl rfl (fun wq hS => R.pickT (v := (.bool (decide (val = List.replicate 32 (0 : UInt8) ∧ (pc = 0 ∧ rg = List.replicate 8 (0 : UInt64) ∧ run = false))))) rfl rfl) ?_
 refine qT rfl rfl (fun wq hS => R.move (v := (.bool (decide (val = List.replicate 32 (0 : UInt8) ∧ (pc = 0 ∧ rg = List.replicate 8 (0 : UInt64) ∧ run = false))))) rfl) ?_
 rcases Bool.eq_false_or_eq_true (decide (val = List.replicate 32 (0 : UInt8) ∧ (pc = 0 ∧ rg = List.replicate 8 (0 : UInt64) ∧ run = false))) with c_10 | c_10
 ·have p_11 := of_decide_eq_true c_10
  refine WT.q rfl (Wn.yes rfl rfl (congrArg Value.bool c_10)) rfl rfl (fun wq hS => R.fieldAddr (off' := 33) rfl underlying86 rfl sizeOf3 rfl rfl) ?_
  refine WT.q rfl (Wn.yes rfl rfl (congrArg Value.bool c_10)) rfl rfl (fun wq hS => R.load1 rfl isAgg3 (hS _ M0) (Sg.t rfl (Sg.t rfl Sg.h))) ?_
  refine WT.q rfl (Wn.yes rfl rfl (congrArg Value.bool c_10)) rfl rfl (fun wq hS => R.bin rfl rfl (bi_geq (r := decide ((pg : Int) ≥ 0)) rfl)) ?_
  refine qT rfl rfl (fun wq hS => R.pickT (v := (.bool (decide ((pg : Int) ≥ 0)))) (congrArg Value.bool c_10) rfl) ?_
  refine qT rfl rfl (fun wq hS => R.move (v := (.bool (decide ((pg : Int) ≥ 0)))) rfl) ?_
  rcases Bool.eq_false_or_eq_true (decide ((pg : Int) ≥ 0)) with c_12 | c_12
  ·have p_13 := of_decide_eq_true c_12
   refine WT.q rfl (Wn.yes rfl rfl (congrArg Value.bool c_12)) rfl rfl (fun wq hS => R.fieldAddr (off' := 33) rfl underlying86 rfl sizeOf3 rfl rfl) ?_
   refine WT.q rfl (Wn.yes rfl rfl (congrArg Value.bool c_12)) rfl rfl (fun wq hS => R.load1 rfl isAgg3 (hS _ M0) (Sg.t rfl (Sg.t rfl Sg.h))) ?_
   refine WT.q rfl (Wn.yes rfl rfl (congrArg Value.bool c_12)) rfl rfl (fun wq hS => R.bin rfl rfl (bi_lss (r := decide ((pg : Int) < 128)) rfl)) ?_
   refine qT rfl rfl (fun wq hS => R.pickT (v := (.bool (decide ((pg : Int) < 128)))) (congrArg Value.bool c_12) rfl) ?_
   refine qT rfl rfl (fun wq hS => R.move (v := (.bool (decide ((pg : Int) < 128)))) rfl) ?_
   rcases Bool.eq_false_or_eq_true (decide ((pg : Int) < 128)) with c_14 | c_14
   ·have p_15 := of_decide_eq_true c_14
    refine WT.q rfl (Wn.yes rfl rfl (congrArg Value.bool c_14)) rfl rfl (fun wq hS => R.fieldAddr (off' := 162) rfl underlying86 rfl sizeOf84 rfl rfl) ?_
    refine WT.q rfl (Wn.yes rfl rfl (congrArg Value.bool c_14)) rfl rfl (fun wq hS => R.loadA [(1, [(vi 2)]), (32, val.map vu8), (1, [(vi pg)]), (128, gr.map vu8)] [(1, [(vu64 pc)]), (8, rg.map vu64), (1, [(.bool run)])] [] rfl isAgg84 sizeOf84 (hS _ M0) rfl rfl rfl rfl) ?_
    refine WT.s ?_
    refine Op1.one rfl (Wn.yes rfl rfl (congrArg Value.bool c_14)) ?_
    refine WL.call Try.call74 rfl rfl (c_MayRec pc rg hrg run _ ) rfl ?_
    rintro _ w_17 ⟨rfl, hc_16⟩
    have h_18 := h_9.same hc_16
    refine WL.nil ?_
    refine ⟨(N0 h_18.ok), ?_⟩
    refine qT rfl rfl (fun wq hS => R.pickT (v := (.bool (decide (pc % 8 = 0)))) (congrArg Value.bool c_14) rfl) ?_
    refine qT rfl rfl (fun wq hS => R.assign (v := (.bool (decide (pc % 8 = 0)))) rfl) ?_
    refine WT.nil (thn_n (WP.ret ?_))
    refine ret_of results62 (RV.tmp (v := (.bool (decide (pc % 8 = 0)))) rfl RV.nil) ?_
    obtain ⟨e1, e3, e4, e5⟩ := p_11
    exact ⟨congrArg Value.bool ((decide_eq_true (by rw [e3]; decide)).trans (decide_eq_true (Or.inr (Or.inl ⟨rfl, e1, ⟨by omega, by omega⟩, e3, e4, e5⟩))).symm), h_18.chgS⟩
   ·have p_19 := of_decide_eq_false c_14
    refine WT.skipQ rfl rfl rfl (boolNe (v := .bool false) (congrArg Value.bool c_14) (by decide)) rfl rfl ?_
    refine WT.skipQ rfl rfl rfl (boolNe (v := .bool false) (congrArg Value.bool c_14) (by decide)) rfl rfl ?_
    refine WT.s ?_
    refine Op1.skip rfl rfl rfl (boolNe (v := .bool false) (congrArg Value.bool c_14) (by decide)) rfl rfl ?_
    refine qT rfl rfl (fun wq hS => R.pickF (v := (.bool false)) (congrArg Value.bool c_14) rfl) ?_
    refine qT rfl rfl (fun wq hS => R.assign (v := (.bool false)) rfl) ?_
    refine WT.nil (thn_n (WP.ret ?_))
    refine ret_of results62 (RV.tmp (v := (.bool false)) rfl RV.nil) ?_
    have hf : false = mayB 2 val pg gr pc rg run := (decide_eq_false (p := mayZ 2 val pg gr pc rg run) (fun hm => (show _ ∨ _ ∨ _ from hm).elim (fun hm => absurd hm.1 (by decide)) (fun hm => hm.elim (fun hm => (by have := hm.2.2.1; omega)) (fun hm => absurd hm.1 (by decide))))).symm
    exact ⟨congrArg Value.bool hf, h_9.chgS⟩
  ·have p_20 := of_decide_eq_false c_12
   refine WT.skipQ rfl rfl rfl (boolNe (v := .bool false) (congrArg Value.bool c_12) (by decide)) rfl rfl ?_
   refine WT.skipQ rfl rfl rfl (boolNe (v := .bool false) (congrArg Value.bool c_12) (by decide)) rfl rfl ?_
   refine WT.skipQ rfl rfl rfl (boolNe (v := .bool false) (congrArg Value.bool c_12) (by decide)) rfl rfl ?_
   refine qT rfl rfl (fun wq hS => R.pickF (v := (.bool false)) (congrArg Value.bool c_12) rfl) ?_
   refine qT rfl rfl (fun wq hS => R.move (v := (.bool false)) rfl) ?_
   refine WT.skipQ rfl rfl rfl (boolNe (v := .bool false) rfl (by decide)) rfl rfl ?_
   refine WT.skipQ rfl rfl rfl (boolNe (v := .bool false) rfl (by decide)) rfl rfl ?_
   refine WT.s ?_
   refine Op1.skip rfl rfl rfl (boolNe (v := .bool false) rfl (by decide)) rfl rfl ?_
   refine qT rfl rfl (fun wq hS => R.pickF (v := (.bool false)) rfl rfl) ?_
   refine qT rfl rfl (fun wq hS => R.assign (v := (.bool false)) rfl) ?_
   refine WT.nil (thn_n (WP.ret ?_))
   refine ret_of results62 (RV.tmp (v := (.bool false)) rfl RV.nil) ?_
   have hf : false = mayB 2 val pg gr pc rg run := (decide_eq_false (p := mayZ 2 val pg gr pc rg run) (fun hm => (show _ ∨ _ ∨ _ from hm).elim (fun hm => absurd hm.1 (by decide)) (fun hm => hm.elim (fun hm => (by have := hm.2.2.1; omega)) (fun hm => absurd hm.1 (by decide))))).symm
   exact ⟨congrArg Value.bool hf, h_9.chgS⟩
 ·have p_21 := of_decide_eq_false c_10
  refine WT.skipQ rfl rfl rfl (boolNe (v := .bool false) (congrArg Value.bool c_10) (by decide)) rfl rfl ?_
  refine WT.skipQ rfl rfl rfl (boolNe (v := .bool false) (congrArg Value.bool c_10) (by decide)) rfl rfl ?_
  refine WT.skipQ rfl rfl rfl (boolNe (v := .bool false) (congrArg Value.bool c_10) (by decide)) rfl rfl ?_
  refine qT rfl rfl (fun wq hS => R.pickF (v := (.bool false)) (congrArg Value.bool c_10) rfl) ?_
  refine qT rfl rfl (fun wq hS => R.move (v := (.bool false)) rfl) ?_
  refine WT.skipQ rfl rfl rfl (boolNe (v := .bool false) rfl (by decide)) rfl rfl ?_
  refine WT.skipQ rfl rfl rfl (boolNe (v := .bool false) rfl (by decide)) rfl rfl ?_
  refine WT.skipQ rfl rfl rfl (boolNe (v := .bool false) rfl (by decide)) rfl rfl ?_
  refine qT rfl rfl (fun wq hS => R.pickF (v := (.bool false)) rfl rfl) ?_
  refine qT rfl rfl (fun wq hS => R.move (v := (.bool false)) rfl) ?_
  refine WT.skipQ rfl rfl rfl (boolNe (v := .bool false) rfl (by decide)) rfl rfl ?_
  refine WT.skipQ rfl rfl rfl (boolNe (v := .bool false) rfl (by decide)) rfl rfl ?_
  refine WT.s ?_
  refine Op1.skip rfl rfl rfl (boolNe (v := .bool false) rfl (by decide)) rfl rfl ?_
  refine qT rfl rfl (fun wq hS => R.pickF (v := (.bool false)) rfl rfl) ?_
  refine qT rfl rfl (fun wq hS => R.assign (v := (.bool false)) rfl) ?_
  refine WT.nil (thn_n (WP.ret ?_))
  refine ret_of results62 (RV.tmp (v := (.bool false)) rfl RV.nil) ?_
  have hf : false = mayB 2 val pg gr pc rg run := (decide_eq_false (p := mayZ 2 val pg gr pc rg run) (fun hm => (show _ ∨ _ ∨ _ from hm).elim (fun hm => absurd hm.1 (by decide)) (fun hm => hm.elim (fun hm => p_21 ⟨hm.2.1, hm.2.2.2⟩) (fun hm => absurd hm.1 (by decide))))).symm
  exact ⟨congrArg Value.bool hf, h_9.chgS⟩

theorem c_MayG_3 (val : List UInt8) (hvl : val.length = 32) (pg : Int) (hbp : -9223372036854775808 ≤ pg ∧ pg < 9223372036854775808) (gr : List UInt8) (hgr : gr.length = 128) (pc : UInt64) (rg : List UInt64) (hrg : rg.length = 8) (run : Bool) (w : World) :
  Cs Try.prog 62 [(.agg ⟨flat [(1, [(vi 3)]), (32, val.map vu8), (1, [(vi pg)]), (128, gr.map vu8), (1, [(vu64 pc)]), (8, rg.map vu64), (1, [(.bool run)])]⟩)].toArray w (fun v w1 => v = .bool (mayB 3 val pg gr pc rg run) ∧ Chg w w1 []) := by
 refine Cs.of (n := 34) (args := [(.agg ⟨flat [(1, [(vi 3)]), (32, val.map vu8), (1, [(vi pg)]), (128, gr.map vu8), (1, [(vu64 pc)]), (8, rg.map vu64), (1, [(.bool run)])]⟩)]) Try.func62 rfl rfl rfl ?_
 have h_0 := HP.init w
 refine WP.seq (WP.reg ?_)
 refine WL.box (segs := [(1, [(vi 3)]), (32, val.map vu8), (1, [(vi pg)]), (128, gr.map vu8), (1, [(vu64 pc)]), (8, rg.map vu64), (1, [(.bool run)])]) h_0 rfl rfl (sC sV (sC (s8 hvl) (sC sV (sC (s8 hgr) (sC sV (sC (SOk.u64 hrg) (sC sV sN))))))) rfl (fun b_1 w_2 h_3 => ?_)
 refine qA (.bool false) rfl rfl ?_
 refine WL.nil (thn_n (WP.seq (WP.reg ?_)))
 refine qV rfl (R.fieldAddr (off' := 0) rfl underlying86 rfl sizeOf81 rfl rfl) (qV rfl (R.load1 rfl isAgg81 (h_3.ok _ M0) Sg.h) (qV rfl (R.bin rfl rfl (bi_geq (r := true) (by decide))) (qM (.bool true) rfl rfl ?_)))
 refine WL.want rfl rfl ?_
 refine qV rfl (R.fieldAddr (off' := 0) rfl underlying86 rfl sizeOf81 rfl rfl) ?_
 refine WL.want rfl rfl ?_
 refine qV rfl (R.load1 rfl isAgg81 (h_3.ok _ M0) Sg.h) ?_
 refine WL.want rfl rfl ?_
 refine qV rfl (R.bin rfl rfl (bi_leq (r := true) (by decide))) (qV rfl (R.pickT (v := (.bool true)) rfl rfl) (qA (.bool true) rfl rfl ?_))
 refine WL.nil (thn_n (WP.seq ?_))
 refine WP.drawT (SL w.heap.size [.blk b_1 .nw 86 [(1, [(vi 3)]), (32, val.map vu8), (1, [(vi pg)]), (128, gr.map vu8), (1, [(vu64 pc)]), (8, rg.map vu64), (1, [(.bool run)])]]) (.q 0 (.q 1 (.q 2 (.q 3 (.s 4 (.q 5 (.q 6 (.q 7 (.q 8 (.q 9 (.q 10 (.q 11 (.q 12 (.q 13 (.q 14 (.q 15 (.q 16 (.q 17 (.q 18 (.q 19 (.s 20 (.q 21 (.q 22 .nil))))))))))))))))))))))) (by kernel_rfl) (by kernel_rfl) rfl (by kernel_rfl) (fun w_4 hc_6 => (SL.cons ((h_3.same hc_6).ok _ M0) (SL.nil _ _))) (fun w_4 hc_6 => ?_)
 have h_5 := h_3.same hc_6
 refine qT rfl rfl (fun wq hS => R.move (v := (.bool true)) rfl) ?_
 refine qT rfl rfl (fun wq hS => R.move (v := (.bool true)) rfl) ?_
 refine WT.q rfl (Wn.yes rfl rfl rfl) rfl rfl (fun wq hS => R.loadA [] [(1, [(vi 3)]), (32, val.map vu8), (1, [(vi pg)]), (128, gr.map vu8), (1, [(vu64 pc)]), (8, rg.map vu64), (1, [(.bool run)])] [] rfl isAgg86 sizeOf86 (hS _ M0) rfl rfl rfl rfl) ?_
 refine WT.q rfl (Wn.yes rfl rfl rfl) rfl rfl (fun wq hS => R.loadA [] [(1, [(vi 3)]), (32, val.map vu8), (1, [(vi pg)]), (128, gr.map vu8), (1, [(vu64 pc)]), (8, rg.map vu64), (1, [(.bool run)])] [] rfl isAgg86 sizeOf86 (hS _ M0) rfl rfl rfl rfl) ?_
 refine WT.s ?_
 refine Op1.one rfl (Wn.yes rfl rfl rfl) ?_
 refine WL.call Try.call73 rfl rfl (c_bareG_3 val hvl pg (by omega) gr hgr pc rg hrg run _ ) rfl ?_
 rintro _ w_8 ⟨rfl, hc_7⟩
 have h_9 := h_5.same hc_7
 refine WL.nil ?_
 refine ⟨(N0 h_9.ok), ?_⟩
 refine WT.q rfl (Wn.yes rfl rfl rfl) rfl rfl (fun wq hS => R.eqA (xs := flat [(1, [(vi 3)]), (32, val.map vu8), (1, [(vi pg)]), (128, gr.map vu8), (1, [(vu64 pc)]), (8, rg.map vu64), (1, [(.bool run)])]) (ys := flat [(1, [(vi 3)]), (32, (zB 32).map vu8), (1, [(vi 0)]), (128, (zB 128).map vu8), (1, [(vu64 pc)]), (8, rg.map vu64), (1, [(.bool run)])]) (r := decide (val = List.replicate 32 (0 : UInt8) ∧ pg = 0 ∧ gr = List.replicate 128 (0 : UInt8))) rfl rfl eqGuardType86 kt86 (by decide) ag86 (typR 3 (by decide) val hvl pg (by omega) gr hgr pc rg hrg run) (typR 3 (by decide) (zB 32) lr 0 (by decide) (zB 128) lr pc rg hrg run) ((recEq3 hvl hgr hrg).trans (decT _))) ?_
 refine qT rfl rfl (fun wq hS => R.pickT (v := (.bool (decide (val = List.replicate 32 (0 : UInt8) ∧ pg = 0 ∧ gr = List.replicate 128 (0 : UInt8))))) rfl rfl) ?_
 refine qT rfl rfl (fun wq hS => R.move (v := (.bool (decide (val = List.replicate 32 (0 : UInt8) ∧ pg = 0 ∧ gr = List.replicate 128 (0 : UInt8))))) rfl) ?_
 rcases Bool.eq_false_or_eq_true (decide (val = List.replicate 32 (0 : UInt8) ∧ pg = 0 ∧ gr = List.replicate 128 (0 : UInt8))) with c_10 | c_10
 ·have p_11 := of_decide_eq_true c_10
  refine WT.q rfl (Wn.yes rfl rfl (congrArg Value.bool c_10)) rfl rfl (fun wq hS => R.fieldAddr (off' := 33) rfl underlying86 rfl sizeOf3 rfl rfl) ?_
  refine WT.q rfl (Wn.yes rfl rfl (congrArg Value.bool c_10)) rfl rfl (fun wq hS => R.load1 rfl isAgg3 (hS _ M0) (Sg.t rfl (Sg.t rfl Sg.h))) ?_
  refine WT.q rfl (Wn.yes rfl rfl (congrArg Value.bool c_10)) rfl rfl (fun wq hS => R.bin rfl rfl (bi_geq (r := decide ((pg : Int) ≥ 0)) rfl)) ?_
  refine qT rfl rfl (fun wq hS => R.pickT (v := (.bool (decide ((pg : Int) ≥ 0)))) (congrArg Value.bool c_10) rfl) ?_
  refine qT rfl rfl (fun wq hS => R.move (v := (.bool (decide ((pg : Int) ≥ 0)))) rfl) ?_
  rcases Bool.eq_false_or_eq_true (decide ((pg : Int) ≥ 0)) with c_12 | c_12
  ·have p_13 := of_decide_eq_true c_12
   refine WT.q rfl (Wn.yes rfl rfl (congrArg Value.bool c_12)) rfl rfl (fun wq hS => R.fieldAddr (off' := 33) rfl underlying86 rfl sizeOf3 rfl rfl) ?_
   refine WT.q rfl (Wn.yes rfl rfl (congrArg Value.bool c_12)) rfl rfl (fun wq hS => R.load1 rfl isAgg3 (hS _ M0) (Sg.t rfl (Sg.t rfl Sg.h))) ?_
   refine WT.q rfl (Wn.yes rfl rfl (congrArg Value.bool c_12)) rfl rfl (fun wq hS => R.bin rfl rfl (bi_lss (r := decide ((pg : Int) < 128)) rfl)) ?_
   refine qT rfl rfl (fun wq hS => R.pickT (v := (.bool (decide ((pg : Int) < 128)))) (congrArg Value.bool c_12) rfl) ?_
   refine qT rfl rfl (fun wq hS => R.move (v := (.bool (decide ((pg : Int) < 128)))) rfl) ?_
   rcases Bool.eq_false_or_eq_true (decide ((pg : Int) < 128)) with c_14 | c_14
   ·have p_15 := of_decide_eq_true c_14
    refine WT.q rfl (Wn.yes rfl rfl (congrArg Value.bool c_14)) rfl rfl (fun wq hS => R.fieldAddr (off' := 162) rfl underlying86 rfl sizeOf84 rfl rfl) ?_
    refine WT.q rfl (Wn.yes rfl rfl (congrArg Value.bool c_14)) rfl rfl (fun wq hS => R.loadA [(1, [(vi 3)]), (32, val.map vu8), (1, [(vi pg)]), (128, gr.map vu8)] [(1, [(vu64 pc)]), (8, rg.map vu64), (1, [(.bool run)])] [] rfl isAgg84 sizeOf84 (hS _ M0) rfl rfl rfl rfl) ?_
    refine WT.s ?_
    refine Op1.one rfl (Wn.yes rfl rfl (congrArg Value.bool c_14)) ?_
    refine WL.call Try.call74 rfl rfl (c_MayRec pc rg hrg run _ ) rfl ?_
    rintro _ w_17 ⟨rfl, hc_16⟩
    have h_18 := h_9.same hc_16
    refine WL.nil ?_
    refine ⟨(N0 h_18.ok), ?_⟩
    refine qT rfl rfl (fun wq hS => R.pickT (v := (.bool (decide (pc % 8 = 0)))) (congrArg Value.bool c_14) rfl) ?_
    refine qT rfl rfl (fun wq hS => R.assign (v := (.bool (decide (pc % 8 = 0)))) rfl) ?_
    refine WT.nil (thn_n (WP.ret ?_))
    refine ret_of results62 (RV.tmp (v := (.bool (decide (pc % 8 = 0)))) rfl RV.nil) ?_
    obtain ⟨e1, e2, e3⟩ := p_11
    have hf : decide (pc % 8 = 0) = mayB 3 val pg gr pc rg run := decide_eq_decide.2 ⟨fun h8 => Or.inr (Or.inr ⟨rfl, e1, e2, e3, decide_eq_true h8⟩), fun hm => (show _ ∨ _ ∨ _ from hm).elim (fun hm => absurd hm.1 (by decide)) (fun hm => hm.elim (fun hm => absurd hm.1 (by decide)) (fun hm => of_decide_eq_true hm.2.2.2.2))⟩
    exact ⟨congrArg Value.bool hf, h_18.chgS⟩
   ·have p_19 := of_decide_eq_false c_14
    refine WT.skipQ rfl rfl rfl (boolNe (v := .bool false) (congrArg Value.bool c_14) (by decide)) rfl rfl ?_
    refine WT.skipQ rfl rfl rfl (boolNe (v := .bool false) (congrArg Value.bool c_14) (by decide)) rfl rfl ?_
    refine WT.s ?_
    refine Op1.skip rfl rfl rfl (boolNe (v := .bool false) (congrArg Value.bool c_14) (by decide)) rfl rfl ?_
    refine qT rfl rfl (fun wq hS => R.pickF (v := (.bool false)) (congrArg Value.bool c_14) rfl) ?_
    refine qT rfl rfl (fun wq hS => R.assign (v := (.bool false)) rfl) ?_
    refine WT.nil (thn_n (WP.ret ?_))
    refine ret_of results62 (RV.tmp (v := (.bool false)) rfl RV.nil) ?_
    exact absurd p_11.2.1 (by omega)
  ·have p_20 := of_decide_eq_false c_12
   refine WT.skipQ rfl rfl rfl (boolNe (v := .bool false) (congrArg Value.bool c_12) (by decide)) rfl rfl ?_
   refine WT.skipQ rfl rfl rfl (boolNe (v := .bool false) (congrArg Value.bool c_12) (by decide)) rfl rfl ?_
   refine WT.skipQ rfl rfl rfl (boolNe (v := .bool false) (congrArg Value.bool c_12) (by decide)) rfl rfl ?_
   refine qT rfl rfl (fun wq hS => R.pickF (v := (.bool false)) (congrArg Value.bool c_12) rfl) ?_
   refine qT rfl rfl (fun wq hS => R.move (v := (.bool false)) rfl) ?_
   refine WT.skipQ rfl rfl rfl (boolNe (v := .bool false) rfl (by decide)) rfl rfl ?_
   refine WT.skipQ rfl rfl rfl (boolNe (v := .bool false) rfl (by decide)) rfl rfl ?_
   refine WT.s ?_
   refine Op1.skip rfl rfl rfl (boolNe (v := .bool false) rfl (by decide)) rfl rfl ?_
   refine qT rfl rfl (fun wq hS => R.pickF (v := (.bool false)) rfl rfl) ?_
   refine qT rfl rfl (fun wq hS => R.assign (v := (.bool false)) rfl) ?_
   refine WT.nil (thn_n (WP.ret ?_))
   refine ret_of results62 (RV.tmp (v := (.bool false)) rfl RV.nil) ?_
   exact absurd p_11.2.1 (by omega)
 ·have p_21 := of_decide_eq_false c_10
  refine WT.skipQ rfl rfl rfl (boolNe (v := .bool false) (congrArg Value.bool c_10) (by decide)) rfl rfl ?_
  refine WT.skipQ rfl rfl rfl (boolNe (v := .bool false) (congrArg Value.bool c_10) (by decide)) rfl rfl ?_
  refine WT.skipQ rfl rfl rfl (boolNe (v := .bool false) (congrArg Value.bool c_10) (by decide)) rfl rfl ?_
  refine qT rfl rfl (fun wq hS => R.pickF (v := (.bool false)) (congrArg Value.bool c_10) rfl) ?_
  refine qT rfl rfl (fun wq hS => R.move (v := (.bool false)) rfl) ?_
  refine WT.skipQ rfl rfl rfl (boolNe (v := .bool false) rfl (by decide)) rfl rfl ?_
  refine WT.skipQ rfl rfl rfl (boolNe (v := .bool false) rfl (by decide)) rfl rfl ?_
  refine WT.skipQ rfl rfl rfl (boolNe (v := .bool false) rfl (by decide)) rfl rfl ?_
  refine qT rfl rfl (fun wq hS => R.pickF (v := (.bool false)) rfl rfl) ?_
  refine qT rfl rfl (fun wq hS => R.move (v := (.bool false)) rfl) ?_
  refine WT.skipQ rfl rfl rfl (boolNe (v := .bool false) rfl (by decide)) rfl rfl ?_
  refine WT.skipQ rfl rfl rfl (boolNe (v := .bool false) rfl (by decide)) rfl rfl ?_
  refine WT.s ?_
  refine Op1.skip rfl rfl rfl (boolNe (v := .bool false) rfl (by decide)) rfl rfl ?_
  refine qT rfl rfl (fun wq hS => R.pickF (v := (.bool false)) rfl rfl) ?_
  refine qT rfl rfl (fun wq hS => R.assign (v := (.bool false)) rfl) ?_
  refine WT.nil (thn_n (WP.ret ?_))
  refine ret_of results62 (RV.tmp (v := (.bool false)) rfl RV.nil) ?_
  have hf : false = mayB 3 val pg gr pc rg run := (decide_eq_false (p := mayZ 3 val pg gr pc rg run) (fun hm => (show _ ∨ _ ∨ _ from hm).elim (fun hm => absurd hm.1 (by decide)) (fun hm => hm.elim (fun hm => absurd hm.1 (by decide)) (fun hm => p_21 ⟨hm.2.1, hm.2.2.1, hm.2.2.2.1⟩)))).symm
  exact ⟨congrArg Value.bool hf, h_9.chgS⟩

theorem c_MayG_lo (kd : Int) (hbk : -9223372036854775808 ≤ kd ∧ kd < 9223372036854775808) (val : List UInt8) (hvl : val.length = 32) (pg : Int) (hbp : -9223372036854775808 ≤ pg ∧ pg < 9223372036854775808) (gr : List UInt8) (hgr : gr.length = 128) (pc : UInt64) (rg : List UInt64) (hrg : rg.length = 8) (run : Bool) (h : kd < 1) (w : World) :
  Cs Try.prog 62 [(.agg ⟨flat [(1, [(vi kd)]), (32, val.map vu8), (1, [(vi pg)]), (128, gr.map vu8), (1, [(vu64 pc)]), (8, rg.map vu64), (1, [(.bool run)])]⟩)].toArray w (fun v w1 => v = (.bool false) ∧ Chg w w1 []) := by
 refine Cs.of (n := 34) (args := [(.agg ⟨flat [(1, [(vi kd)]), (32, val.map vu8), (1, [(vi pg)]), (128, gr.map vu8), (1, [(vu64 pc)]), (8, rg.map vu64), (1, [(.bool run)])]⟩)]) Try.func62 rfl rfl rfl ?_
 have h_0 := HP.init w
 refine WP.seq (WP.reg ?_)
 refine WL.box (segs := [(1, [(vi kd)]), (32, val.map vu8), (1, [(vi pg)]), (128, gr.map vu8), (1, [(vu64 pc)]), (8, rg.map vu64), (1, [(.bool run)])]) h_0 rfl rfl (sC sV (sC (s8 hvl) (sC sV (sC (s8 hgr) (sC sV (sC (SOk.u64 hrg) (sC sV sN))))))) rfl (fun b_1 w_2 h_3 => ?_)
 refine qA (.bool false) rfl rfl ?_
 refine WL.nil (thn_n (WP.seq (WP.reg ?_)))
 refine qV rfl (R.fieldAddr (off' := 0) rfl underlying86 rfl sizeOf81 rfl rfl) (qV rfl (R.load1 rfl isAgg81 (h_3.ok _ M0) Sg.h) (qV rfl (R.bin rfl rfl (bi_geq (r := decide ((kd : Int) ≥ 1)) rfl)) (qM (.bool (decide ((kd : Int) ≥ 1))) rfl rfl ?_)))
 refine WL.skip rfl (congrArg Value.bool (decide_eq_false (by omega))) rfl ?_
 refine WL.skip rfl (congrArg Value.bool (decide_eq_false (by omega))) rfl ?_
 refine WL.skip rfl (congrArg Value.bool (decide_eq_false (by omega))) rfl ?_
 refine qV rfl (R.pickF (v := (.bool false)) (congrArg Value.bool (decide_eq_false (by omega))) rfl) (qA (.bool false) rfl rfl ?_)
 refine WL.nil (thn_n (WP.seq ?_))
 refine WP.drawT (SL w.heap.size [.blk b_1 .nw 86 [(1, [(vi kd)]), (32, val.map vu8), (1, [(vi pg)]), (128, gr.map vu8), (1, [(vu64 pc)]), (8, rg.map vu64), (1, [(.bool run)])]]) (.q 0 (.q 1 (.q 2 (.q 3 (.s 4 (.q 5 (.q 6 (.q 7 (.q 8 (.q 9 (.q 10 (.q 11 (.q 12 (.q 13 (.q 14 (.q 15 (.q 16 (.q 17 (.q 18 (.q 19 (.s 20 (.q 21 (.q 22 .nil))))))))))))))))))))))) (by kernel_rfl) (by kernel_rfl) rfl (by kernel_rfl) (fun w_4 hc_6 => (SL.cons ((h_3.same hc_6).ok _ M0) (SL.nil _ _))) (fun w_4 hc_6 => ?_)
 have h_5 := h_3.same hc_6
 refine qT rfl rfl (fun wq hS => R.move (v := (.bool false)) rfl) ?_
 refine qT rfl rfl (fun wq hS => R.move (v := (.bool false)) rfl) ?_
 refine WT.skipQ rfl rfl rfl (boolNe (v := .bool false) rfl (by decide)) rfl rfl ?_
 refine WT.skipQ rfl rfl rfl (boolNe (v := .bool false) rfl (by decide)) rfl rfl ?_
 refine WT.s ?_
 refine Op1.skip rfl rfl rfl (boolNe (v := .bool false) rfl (by decide)) rfl rfl ?_
 refine WT.skipQ rfl rfl rfl (boolNe (v := .bool false) rfl (by decide)) rfl rfl ?_
 refine qT rfl rfl (fun wq hS => R.pickF (v := (.bool false)) rfl rfl) ?_
 refine qT rfl rfl (fun wq hS => R.move (v := (.bool false)) rfl) ?_
 refine WT.skipQ rfl rfl rfl (boolNe (v := .bool false) rfl (by decide)) rfl rfl ?_
 refine WT.skipQ rfl rfl rfl (boolNe (v := .bool false) rfl (by decide)) rfl rfl ?_
 refine WT.skipQ rfl rfl rfl (boolNe (v := .bool false) rfl (by decide)) rfl rfl ?_
 refine qT rfl rfl (fun wq hS => R.pickF (v := (.bool false)) rfl rfl) ?_
 refine qT rfl rfl (fun wq hS => R.move (v := (.bool false)) rfl) ?_
 refine WT.skipQ rfl rfl rfl (boolNe (v := .bool false) rfl (by decide)) rfl rfl ?_
 refine WT.skipQ rfl rfl rfl (boolNe (v := .bool false) rfl (by decide)) rfl rfl ?_
 refine WT.skipQ rfl rfl rfl (boolNe (v := .bool false) rfl (by decide)) rfl rfl ?_
 refine qT rfl rfl (fun wq hS => R.pickF (v := (.bool false)) rfl rfl) ?_
 refine qT rfl rfl (fun wq hS => R.move (v := (.bool false)) rfl) ?_
 refine WT.skipQ rfl rfl rfl (boolNe (v := .bool false) rfl (by decide)) rfl rfl ?_
 refine WT.skipQ rfl rfl rfl (boolNe (v := .bool false) rfl (by decide)) rfl rfl ?_
 refine WT.s ?_
 refine Op1.skip rfl rfl rfl (boolNe (v := .bool false) rfl (by decide)) rfl rfl ?_
 refine qT rfl rfl (fun wq hS => R.pickF (v := (.bool false)) rfl rfl) ?_
 refine qT rfl rfl (fun wq hS => R.assign (v := (.bool false)) rfl) ?_
 refine WT.nil (thn_n (WP.ret ?_))
 refine ret_of results62 (RV.tmp (v := (.bool false)) rfl RV.nil) ?_
 exact ⟨rfl, h_5.chgS⟩

theorem c_MayG_hi (kd : Int) (hbk : -9223372036854775808 ≤ kd ∧ kd < 9223372036854775808) (val : List UInt8) (hvl : val.length = 32) (pg : Int) (hbp : -9223372036854775808 ≤ pg ∧ pg < 9223372036854775808) (gr : List UInt8) (hgr : gr.length = 128) (pc : UInt64) (rg : List UInt64) (hrg : rg.length = 8) (run : Bool) (h : 3 < kd) (w : World) :
  Cs Try.prog 62 [(.agg ⟨flat [(1, [(vi kd)]), (32, val.map vu8), (1, [(vi pg)]), (128, gr.map vu8), (1, [(vu64 pc)]), (8, rg.map vu64), (1, [(.bool run)])]⟩)].toArray w (fun v w1 => v = (.bool false) ∧ Chg w w1 []) := by
 refine Cs.of (n := 34) (args := [(.agg ⟨flat [(1, [(vi kd)]), (32, val.map vu8), (1, [(vi pg)]), (128, gr.map vu8), (1, [(vu64 pc)]), (8, rg.map vu64), (1, [(.bool run)])]⟩)]) Try.func62 rfl rfl rfl ?_
 have h_0 := HP.init w
 refine WP.seq (WP.reg ?_)
 refine WL.box (segs := [(1, [(vi kd)]), (32, val.map vu8), (1, [(vi pg)]), (128, gr.map vu8), (1, [(vu64 pc)]), (8, rg.map vu64), (1, [(.bool run)])]) h_0 rfl rfl (sC sV (sC (s8 hvl) (sC sV (sC (s8 hgr) (sC sV (sC (SOk.u64 hrg) (sC sV sN))))))) rfl (fun b_1 w_2 h_3 => ?_)
 refine qA (.bool false) rfl rfl ?_
 refine WL.nil (thn_n (WP.seq (WP.reg ?_)))
 refine qV rfl (R.fieldAddr (off' := 0) rfl underlying86 rfl sizeOf81 rfl rfl) (qV rfl (R.load1 rfl isAgg81 (h_3.ok _ M0) Sg.h) (qV rfl (R.bin rfl rfl (bi_geq (r := decide ((kd : Int) ≥ 1)) rfl)) (qM (.bool (decide ((kd : Int) ≥ 1))) rfl rfl ?_)))
 refine WL.want rfl (congrArg Value.bool (decide_eq_true (by omega))) ?_
 refine qV rfl (R.fieldAddr (off' := 0) rfl underlying86 rfl sizeOf81 rfl rfl) ?_
 refine WL.want rfl (congrArg Value.bool (decide_eq_true (by omega))) ?_
 refine qV rfl (R.load1 rfl isAgg81 (h_3.ok _ M0) Sg.h) ?_
 refine WL.want rfl (congrArg Value.bool (decide_eq_true (by omega))) ?_
 refine qV rfl (R.bin rfl rfl (bi_leq (r := decide ((kd : Int) ≤ 3)) rfl)) (qV rfl (R.pickT (v := (.bool (decide ((kd : Int) ≤ 3)))) (congrArg Value.bool (decide_eq_true (by omega))) rfl) (qA (.bool (decide ((kd : Int) ≤ 3))) rfl rfl ?_))
 refine WL.nil (thn_n (WP.seq ?_))
 refine WP.drawT (SL w.heap.size [.blk b_1 .nw 86 [(1, [(vi kd)]), (32, val.map vu8), (1, [(vi pg)]), (128, gr.map vu8), (1, [(vu64 pc)]), (8, rg.map vu64), (1, [(.bool run)])]]) (.q 0 (.q 1 (.q 2 (.q 3 (.s 4 (.q 5 (.q 6 (.q 7 (.q 8 (.q 9 (.q 10 (.q 11 (.q 12 (.q 13 (.q 14 (.q 15 (.q 16 (.q 17 (.q 18 (.q 19 (.s 20 (.q 21 (.q 22 .nil))))))))))))))))))))))) (by kernel_rfl) (by kernel_rfl) rfl (by kernel_rfl) (fun w_4 hc_6 => (SL.cons ((h_3.same hc_6).ok _ M0) (SL.nil _ _))) (fun w_4 hc_6 => ?_)
 have h_5 := h_3.same hc_6
 refine qT rfl rfl (fun wq hS => R.move (v := (.bool (decide ((kd : Int) ≤ 3)))) rfl) ?_
 refine qT rfl rfl (fun wq hS => R.move (v := (.bool (decide ((kd : Int) ≤ 3)))) rfl) ?_
 refine WT.skipQ rfl rfl rfl (boolNe (v := .bool false) (congrArg Value.bool (decide_eq_false (by omega))) (by decide)) rfl rfl ?_
 refine WT.skipQ rfl rfl rfl (boolNe (v := .bool false) (congrArg Value.bool (decide_eq_false (by omega))) (by decide)) rfl rfl ?_
 refine WT.s ?_
 refine Op1.skip rfl rfl rfl (boolNe (v := .bool false) (congrArg Value.bool (decide_eq_false (by omega))) (by decide)) rfl rfl ?_
 refine WT.skipQ rfl rfl rfl (boolNe (v := .bool false) (congrArg Value.bool (decide_eq_false (by omega))) (by decide)) rfl rfl ?_
 refine qT rfl rfl (fun wq hS => R.pickF (v := (.bool false)) (congrArg Value.bool (decide_eq_false (by omega))) rfl) ?_
 refine qT rfl rfl (fun wq hS => R.move (v := (.bool false)) rfl) ?_
 refine WT.skipQ rfl rfl rfl (boolNe (v := .bool false) rfl (by decide)) rfl rfl ?_
 refine WT.skipQ rfl rfl rfl (boolNe (v := .bool false) rfl (by decide)) rfl rfl ?_
 refine WT.skipQ rfl rfl rfl (boolNe (v := .bool false) rfl (by decide)) rfl rfl ?_
 refine qT rfl rfl (fun wq hS => R.pickF (v := (.bool false)) rfl rfl) ?_
 refine qT rfl rfl (fun wq hS => R.move (v := (.bool false)) rfl) ?_
 refine WT.skipQ rfl rfl rfl (boolNe (v := .bool false) rfl (by decide)) rfl rfl ?_
 refine WT.skipQ rfl rfl rfl (boolNe (v := .bool false) rfl (by decide)) rfl rfl ?_
 refine WT.skipQ rfl rfl rfl (boolNe (v := .bool false) rfl (by decide)) rfl rfl ?_
 refine qT rfl rfl (fun wq hS => R.pickF (v := (.bool false)) rfl rfl) ?_
 refine qT rfl rfl (fun wq hS => R.move (v := (.bool false)) rfl) ?_
 refine WT.skipQ rfl rfl rfl (boolNe (v := .bool false) rfl (by decide)) rfl rfl ?_
 refine WT.skipQ rfl rfl rfl (boolNe (v := .bool false) rfl (by decide)) rfl rfl ?_
 refine WT.s ?_
 refine Op1.skip rfl rfl rfl (boolNe (v := .bool false) rfl (by decide)) rfl rfl ?_
 refine qT rfl rfl (fun wq hS => R.pickF (v := (.bool false)) rfl rfl) ?_
 refine qT rfl rfl (fun wq hS => R.assign (v := (.bool false)) rfl) ?_
 refine WT.nil (thn_n (WP.ret ?_))
 refine ret_of results62 (RV.tmp (v := (.bool false)) rfl RV.nil) ?_
 exact ⟨rfl, h_5.chgS⟩

theorem c_MayA (kd : Int) (hbk : -9223372036854775808 ≤ kd ∧ kd < 9223372036854775808) (val : List UInt8) (hvl : val.length = 32) (pg : Int) (hbp : -9223372036854775808 ≤ pg ∧ pg < 9223372036854775808) (gr : List UInt8) (hgr : gr.length = 128) (pc : UInt64) (rg : List UInt64) (hrg : rg.length = 8) (run : Bool) (w : World) : Cs Try.prog 62 [(.agg ⟨flat [(1, [(vi kd)]), (32, val.map vu8), (1, [(vi pg)]), (128, gr.map vu8), (1, [(vu64 pc)]), (8, rg.map vu64), (1, [(.bool run)])]⟩)].toArray w (fun v w1 => v = .bool (mayB kd val pg gr pc rg run) ∧ Chg w w1 []) := by
 by_cases k1 : kd = 1
 ·subst k1; exact c_MayG_1 val hvl pg hbp gr hgr pc rg hrg run w
 by_cases k2 : kd = 2
 ·subst k2; exact c_MayG_2 val hvl pg hbp gr hgr pc rg hrg run w
 by_cases k3 : kd = 3
 ·subst k3; exact c_MayG_3 val hvl pg hbp gr hgr pc rg hrg run w
 have hf : mayB kd val pg gr pc rg run = false := decide_eq_false (by
  unfold mayZ; rintro (hm | hm | hm)
  ·exact k1 hm.1
  ·exact k2 hm.1
  ·exact k3 hm.1)
 rw [hf]
 by_cases hn : kd < 1
 ·exact c_MayG_lo kd hbk val hvl pg hbp gr hgr pc rg hrg run hn w
 ·exact c_MayG_hi kd hbk val hvl pg hbp gr hgr pc rg hrg run (by omega) w
end Go.Proofs.Yteclkcpdclimnaa

namespace Go.Vc
open Go.RowKit
def Taken (P : Program) : List Nat → World → World → Prop
  | [], w, w' => w' = w
  | D :: ds, w, w' => ∃ w1, (Instr.takeDeferred D).run P w = .ok [] w1 ∧ Taken P ds w1 w'
def retM (P : Program) (fn : Func) (R : Value → World → Prop) : Exit → Fr → World → Prop
  | .normal, F, w | .ret, F, w => ∃ w', Taken P F.ds w w' ∧ ∃ v, (∀ tmps : Array Value, (∀ t, tmps.getD t undef = F t) → (results fn tmps).run P w' = .ok v w') ∧ R v w'
  | _, _, _ => False
section
variable {P : Program} {n : Nat} {Q : Exit → Fr → World → Prop} {F : Fr} {w w0 : World} {L : List Ent}
end
end Go.Vc
namespace Go.Vc
open Go.RowKit
section
variable {P : Program} {F : Fr} {w : World} {ty : TypeId} {pos : String} {after : Array Edge} {dst : Option Tmp} {g : Option (Nat × Bool)}
theorem eq_nilF {T : TypeId} {ps rs : Array TypeId} {v : Bool} {f : Fn} {fi ca : Array Value} (hT : P.underlying T = some (.func ps rs v)) (d : Nat) : (Op.equalIn (d + 1) T (.func f fi ca) .nilFunc).run P w = .ok false w := by
  unfold Op.equalIn
  rw [Sem.run_bind, run_underlying hT]
  rfl
theorem R.eqNilF {T T' : TypeId} {x y : Operand} {ps rs : Array TypeId} {v : Bool} {f : Fn} {fi ca : Array Value} (hx : evO F x = .func f fi ca) (hy : evO F y = .nilFunc) (hT : P.underlying T = some (.func ps rs v)) :
    (execOp (evO F) ⟨dst, .binOp .eql T x y T', ty, pos, after, g⟩).run P w = .ok (.value (.bool false)) w := R.eqOf hx hy rfl (eq_nilF hT) rfl
end
end Go.Vc

namespace Go.Vc
open Go.RowKit Go.ChangeShapes Go.WideShapes Go.ChangeAt
section
variable {P : Program} {w : World} {t : TypeId} {cs : List Value}
theorem Tr.slG {e : TypeId} {s : Nat} (hu : P.underlying t = some (.slice e)) (hce : P.cellsOf e = s) (hs : 1 ≤ s) (h : Tr P w t cs) :
    ∃ a n cap, ∃ els : List (List Value), cs = [.slice a n cap] ∧ els.length = n ∧ n ≤ cap ∧ cap ≤ maxLen ∧ (∀ y ∈ els, y.length = s ∧ Tr P w e y) ∧ (Ent.view a els.flatten).ok w.heap.size w := by
  rcases Tr.nilOrSlice hu h with rfl | ⟨a, len, cap, rfl, h1, h2, h3⟩
  · exact ⟨none, 0, 0, [], rfl, rfl, Nat.le_refl _, by simp [maxLen], (by intro y hy; cases hy), ⟨View.nil _ _, fun ad h => by cases h⟩⟩
  · have key : ∀ k, k ≤ len → ∃ els : List (List Value), els.length = k ∧ els.flatten.length = s * k ∧ (∀ y ∈ els, y.length = s ∧ Tr P w e y) ∧ View w (some a) els.flatten := by
      intro k
      induction k with
      | zero => intro _; exact ⟨[], rfl, rfl, (by intro y hy; cases hy), View.nil _ _⟩
      | succ k ih =>
        intro hk
        obtain ⟨els, hl, hf, he, hv⟩ := ih (by omega)
        obtain ⟨ys, hys, ht⟩ := h3 k (by omega)
        rw [hce] at hys
        obtain ⟨hyl, hyc⟩ := cells?_all hys
        refine ⟨els ++ [ys], by simp [hl], by simp [hf, hyl, Nat.mul_succ], fun y hy => ?_, fun i v hv' => ?_⟩
        · rcases List.mem_append.1 hy with hy | hy
          · exact he y hy
          · rw [List.mem_singleton] at hy; subst hy; exact ⟨hyl, ht⟩
        · rw [List.flatten_append] at hv'
          by_cases hi : i < els.flatten.length
          · refine hv i v ?_
            rw [List.getElem?_append_left hi] at hv'
            exact hv'
          · rw [List.getElem?_append_right (by omega)] at hv'
            have h4 := hyc (i - els.flatten.length) v (by rw [List.flatten_cons, List.flatten_nil, List.append_nil] at hv'; exact hv')
            rw [add_add, hf, Nat.mul_comm k, show s * k + (i - s * k) = i by omega] at h4
            exact ⟨a, rfl, h4⟩
    obtain ⟨els, hl, hf, he, hv⟩ := key len (Nat.le_refl _)
    refine ⟨some a, len, cap, els, rfl, hl, h1, h2, he, ⟨hv, fun ad ha hne => ?_⟩⟩
    cases ha
    cases hx : els.flatten with
    | nil => rw [hx] at hne; simp at hne
    | cons x l =>
      obtain ⟨ad', e, hc⟩ := hv 0 x (by rw [hx]; rfl)
      cases e
      have := block_lt_of_cell hc
      rwa [Addr.add_block] at this
end
theorem els_of {α : Type} {f : α → List Value} {p : α → Prop} : ∀ {els : List (List Value)}, (∀ y ∈ els, ∃ r, y = f r ∧ p r) → ∃ rs : List α, els = rs.map f ∧ ∀ r ∈ rs, p r
  | [], _ => ⟨[], rfl, fun r h => by cases h⟩
  | y :: els, h => by
    obtain ⟨r, hr, hp⟩ := h y (List.mem_cons_self ..)
    obtain ⟨rs, hrs, hps⟩ := els_of (els := els) fun z hz => h z (List.mem_cons_of_mem _ hz)
    refine ⟨r :: rs, by rw [hr, hrs]; rfl, fun q hq => ?_⟩
    rcases List.mem_cons.1 hq with rfl | hq
    · exact hp
    · exact hps q hq
theorem flat_len {α : Type} {f : α → List Value} {s : Nat} : ∀ {rs : List α}, (∀ r ∈ rs, (f r).length = s) → (rs.map f).flatten.length = rs.length * s
  | [], _ => by simp
  | r :: rs, h => by
    rw [List.map_cons, List.flatten_cons, List.length_append, flat_len fun q hq => h q (List.mem_cons_of_mem _ hq), h r (List.mem_cons_self ..), List.length_cons, Nat.succ_mul]; omega
theorem flat_at {α : Type} {f : α → List Value} {s : Nat} {z : α} : ∀ {rs : List α} {k : Nat}, (∀ r ∈ rs, (f r).length = s) → k < rs.length → ((rs.map f).flatten.drop (k * s)).take s = f (rs.getD k z)
  | r :: rs, 0, h, _ => by
    have := h r (List.mem_cons_self ..)
    rw [Nat.zero_mul, List.drop_zero, List.map_cons, List.flatten_cons, List.take_append_of_le_length (by omega), List.take_of_length_le (by omega)]; rfl
  | r :: rs, k + 1, h, hk => by
    have h1 := h r (List.mem_cons_self ..)
    have h2 := flat_at (z := z) (rs := rs) (k := k) (fun q hq => h q (List.mem_cons_of_mem _ hq)) (by simpa using hk)
    rw [List.map_cons, List.flatten_cons, show (k + 1) * s = (f r).length + k * s by rw [h1, Nat.succ_mul]; omega, ← List.drop_drop, List.drop_left]
    simpa using h2
theorem getD_mem {α : Type} {z : α} {rs : List α} {k : Nat} (h : k < rs.length) : rs.getD k z ∈ rs := by
  have e : rs.getD k z = rs[k] := by simp [h]
  rw [e]; exact List.getElem_mem h
end Go.Vc

namespace Go.Orc
open Go.Vc Go.RowKit
def dr (df : List UInt8) (i : Nat) : List UInt8 := (df.drop (i * 32)).take 32
def Unl (df : List UInt8) (n : Nat) (d : List UInt8) : Prop := (∀ i, i < n → (∀ k, k < i → dr df k ≠ dr df i) ∧ df.getD (i * 32 + 31) 0 ≠ 1 ∧ dr df i ≠ d) ∧ d.getD 31 0 ≠ 1
def Apt (df : List UInt8) (n : Nat) : Prop := ∀ i, i < n → (∀ k, k < i → dr df k ≠ dr df i) ∧ df.getD (i * 32 + 31) 0 ≠ 1
section
variable {df : List UInt8} {n : Nat} {d : List UInt8}
theorem drawF_lt {i : Nat} (h : i < n) : drawF df n i = dr df i := by rw [drawF, if_pos h]; rfl
theorem dr_31 {i : Nat} : (dr df i).getD 31 0 = df.getD (i * 32 + 31) 0 := by
  simp [dr, List.getD_eq_getElem?_getD, List.getElem?_take, List.getElem?_drop]
theorem drawF_ge {i : Nat} (h : ¬ i < n) : drawF df n i = leN 8 i ++ (List.replicate 23 0 ++ [1]) := by rw [drawF, if_neg h]
theorem drawF_31 {i : Nat} (h : ¬ i < n) : (drawF df n i).getD 31 0 = 1 := by
  have e := leN_len 8 i
  rw [drawF_ge h, List.getD_eq_getElem?_getD, List.getElem?_append_right (by omega), e]; rfl
theorem draw_inj (ha : Apt df n) {i j : Nat} (hi : i < 18446744073709551616) (hj : j < 18446744073709551616) (hne : i ≠ j) : drawF df n i ≠ drawF df n j := by
  intro h
  by_cases h1 : i < n
  · by_cases h2 : j < n
    · rw [drawF_lt h1, drawF_lt h2] at h
      rcases Nat.lt_or_gt_of_ne hne with hl | hl
      · exact (ha j h2).1 i hl h
      · exact (ha i h1).1 j hl h.symm
    · have := drawF_31 (df := df) h2
      rw [← h, drawF_lt h1, dr_31] at this
      exact (ha i h1).2 this
  · by_cases h2 : j < n
    · have := drawF_31 (df := df) h1
      rw [h, drawF_lt h2, dr_31] at this
      exact (ha j h2).2 this
    · rw [drawF_ge h1, drawF_ge h2] at h
      have h3 := congrArg natLE (List.append_inj_left h (by rw [leN_len, leN_len]))
      rw [natLE_leN, natLE_leN] at h3
      omega
def DL (df : List UInt8) (n u : Nat) (l : Lg) : Prop := u = l.length ∧ ∀ i, i < l.length → (l.getD i ((0, [], 0, []), [])).2 = drawF df n i
theorem DL.nil : DL df n 0 [] := ⟨rfl, fun i h => by simp at h⟩
theorem DL.an {u : Nat} {l : Lg} {q : Qn} (h : DL df n u l) : DL df n (anU true u l q) (anL true df n u l q) := by
  cases hf : fdq q l 0 with
  | some i => rw [anU_hit hf, anL_hit hf]; exact h
  | none =>
    rw [anU_miss hf, anL_miss hf]
    refine ⟨by rw [snoc_len]; exact congrArg (· + 1) h.1, fun i hi => ?_⟩
    rw [snoc_len] at hi
    by_cases e : i < l.length
    · have := h.2 i e
      simpa [List.getD_eq_getElem?_getD, List.getElem?_append_left, e] using this
    · have e2 : i = l.length := by omega
      subst e2
      have : (l ++ [(q, mF true df n u q)]).getD l.length ((0, [], 0, []), []) = (q, mF true df n u q) := by simp
      rw [this, h.1]; rfl
theorem fdq_get {q : Qn} {z : Qn × List UInt8} : ∀ {l : Lg} {s j : Nat}, fdq q l s = some j → s ≤ j ∧ j < s + l.length ∧ (l.getD (j - s) z).1 = q
  | p :: r, s, j, h => by
    rw [fdq] at h
    split at h
    · rename_i e
      cases h
      exact ⟨Nat.le_refl _, by rw [List.length_cons]; omega, by rw [Nat.sub_self]; simpa using e⟩
    · obtain ⟨h1, h2, h3⟩ := fdq_get (z := z) h
      refine ⟨by omega, by rw [List.length_cons]; omega, ?_⟩
      have e : j - s = (j - (s + 1)) + 1 := by omega
      rw [e]; simpa using h3
theorem lk_draw {u : Nat} {l : Lg} {q : Qn} {a : List UInt8} (h : DL df n u l) (hk : lk q l = some a) : ∃ i, i < l.length ∧ (l.getD i ((0, [], 0, []), [])).1 = q ∧ a = drawF df n i := by
  unfold lk at hk
  cases hf : fdq q l 0 with
  | none => rw [hf] at hk; cases hk
  | some i =>
    rw [hf] at hk
    obtain ⟨h1, h2, h3⟩ := fdq_get (z := ((0, [], 0, []), [])) hf
    have hi : i < l.length := by omega
    refine ⟨i, hi, by simpa using h3, ?_⟩
    have h4 := h.2 i hi
    have e : l.getD i (q, []) = l.getD i ((0, [], 0, []), []) := by simp [hi]
    simp only [Option.map_some, Option.some.injEq] at hk
    rw [← hk, e, h4]
theorem lk_ne {u : Nat} {l : Lg} {q q' : Qn} {a a' : List UInt8} (ha : Apt df n) (h : DL df n u l) (hl : l.length < 18446744073709551616) (h1 : lk q l = some a) (h2 : lk q' l = some a') (hne : q ≠ q') : a ≠ a' := by
  obtain ⟨i, hi, e1, e2⟩ := lk_draw h h1
  obtain ⟨j, hj, e3, e4⟩ := lk_draw h h2
  subst e2 e4
  refine draw_inj ha (by omega) (by omega) fun e => hne ?_
  subst e
  rw [← e1, ← e3]
end
end Go.Orc
namespace Go.Vc
open Go.RowKit
section
variable {P : Program} {F : Fr} {w : World} {ty : TypeId} {pos : String} {after : Array Edge} {dst : Option Tmp} {g : Option (Nat × Bool)}
theorem R.indexG {i j off' len s : Nat} {a : Option Addr} {T E : TypeId} {x y : Operand} {kd : IntKind} {iv : Int} (hx : evO F x = .pointer (some (gA a j))) (hy : evO F y = .int kd iv) (hi : iv = (i : Int)) (hlt : i < len)
    (hT : P.underlying T = some (.array len E)) (hs : ∀ w, (sizeOf E).run P w = .ok s w) (hoff : off' = j + i * s) : (execOp (evO F) ⟨dst, .indexAddr T x y, ty, pos, after, g⟩).run P w = .ok (.value (.pointer (some (gA a off')))) w := by
  subst hi
  have hlt' : (i : Int) < (len : Int) := by omega
  have h0 : (0 : Int) ≤ i := by omega
  simp only [execOp, hx, hy, Instr.indexAt, asIntOf, Sem.run_bind, Sem.run_pure, Result.andThen_ok, run_underlying hT, Instr.sureAddr, h0, hlt', and_self, if_true, hs, Int.toNat_natCast, gA_add, hoff]
end
end Go.Vc
namespace Go.Vc
open Go.RowKit
section
variable {P : Program} {F : Fr} {w : World} {ty : TypeId} {pos : String} {after : Array Edge} {dst : Option Tmp} {g : Option (Nat × Bool)}
end
end Go.Vc

namespace Go.Proofs.Yteclkcpdclimnaa
open Go.Proofs.Try
open Go.Vc Go.Orc Go.Sh Go.RowKit
set_option maxRecDepth 20000

def qN (md : List UInt8) (kd pg : Int) (gr : List UInt8) (pc : UInt64) (rg : List UInt64) (run : Bool) : Qn := if kd = 2 then (1, (List.replicate 32 (0 : UInt8)), 2, [md, leN 8 (UInt64.ofNat pg.toNat).toNat, gr].flatten) else (1, (List.replicate 32 (0 : UInt8)), 3, [md, recB pc rg run].flatten)
theorem mayB_to {kd pg : Int} {val gr : List UInt8} {pc : UInt64} {rg : List UInt64} {run : Bool} (h : mayB kd val pg gr pc rg run = true) : mayZ kd val pg gr pc rg run := of_decide_eq_true h

theorem c_add1 {w00 : World} {L : List Ent} (id : Bool) (ob mp : Nat) (ms df : List UInt8) (hms : ms.length = 32) (da : Option Addr) (dn dc u : Nat) (hdf : df.length = 32 * dn) (la : Option Addr) (lc : Nat) (lx : List Value) (lg : Lg) (hu : u ≤ 1000000) (hlg : lg.length ≤ 1000000) (md : List UInt8) (hmd : md.length = 32) (pg : Nat) (h : pg < 128) (gr : List UInt8) (hgr : gr.length = 128) (w : World) (h_0 : HP w00 w (Ent.blk ob .nw 90 [(1, [(.bool id)]), (32, ms.map vu8), (1, [(.slice da dn dc)]), (1, [(vi ((u : Nat) : Int))]), (1, [(.map (some mp))]), (1, [(.slice la lg.length lc)])] :: Ent.row la lg.length lc 64 67 lx :: Ent.obj mp .nw (.map (mArr lg) lg.length) :: Ent.pin (sblks lx) (fun w => Lgs w lx lg) :: Ent.view da (df.map vu8) :: L)) :
  Cs Try.prog 75 [(.pointer (some ⟨ob, 0, none⟩)), (.agg ⟨md.map vu8⟩), (.agg ⟨flat [(1, [(vi 2)]), (32, (List.replicate 32 (0 : UInt8)).map vu8), (1, [(vi ((pg : Nat) : Int))]), (128, gr.map vu8), (1, [(vu64 0)]), (8, (List.replicate 8 (0 : UInt64)).map vu64), (1, [(.bool false)])]⟩)].toArray w (fun v w1 => ∃ la' lc' lx', v = (.tuple [(.agg ⟨(anD id df dn u lg (1, (List.replicate 32 (0 : UInt8)), 2, [md, leN 8 (UInt64.ofNat pg).toNat, gr].flatten)).map vu8⟩), (vi 0)].toArray) ∧ HP w00 w1 (Ent.blk ob .nw 90 [(1, [(.bool id)]), (32, ms.map vu8), (1, [(.slice da dn dc)]), (1, [(vi (((anU id u lg (1, (List.replicate 32 (0 : UInt8)), 2, [md, leN 8 (UInt64.ofNat pg).toNat, gr].flatten)) : Nat) : Int))]), (1, [(.map (some mp))]), (1, [(.slice la' ((anL id df dn u lg (1, (List.replicate 32 (0 : UInt8)), 2, [md, leN 8 (UInt64.ofNat pg).toNat, gr].flatten)).length) lc')])] :: Ent.row la' ((anL id df dn u lg (1, (List.replicate 32 (0 : UInt8)), 2, [md, leN 8 (UInt64.ofNat pg).toNat, gr].flatten)).length) lc' 64 67 lx' :: Ent.obj mp .nw (.map (mArr (anL id df dn u lg (1, (List.replicate 32 (0 : UInt8)), 2, [md, leN 8 (UInt64.ofNat pg).toNat, gr].flatten))) ((anL id df dn u lg (1, (List.replicate 32 (0 : UInt8)), 2, [md, leN 8 (UInt64.ofNat pg).toNat, gr].flatten)).length)) :: Ent.pin (sblks lx') (fun w => Lgs w lx' (anL id df dn u lg (1, (List.replicate 32 (0 : UInt8)), 2, [md, leN 8 (UInt64.ofNat pg).toNat, gr].flatten))) :: Ent.view da (df.map vu8) :: L)) := by
 refine Cs.of (n := 17) (args := [(pO ob 0), (.agg ⟨md.map vu8⟩), (.agg ⟨flat [(1, [(vi 2)]), (32, (zB 32).map vu8), (1, [(vn pg)]), (128, gr.map vu8), (1, [(vu64 0)]), (8, (zW 8).map vu64), (1, [(.bool false)])]⟩)]) Try.func75 rfl rfl rfl ?_
 refine WP.seq (WP.reg ?_)
 refine WL.box (segs := [(32, md.map vu8)]) h_0 rfl rfl (sC (s8 hmd) sN) rfl (fun b_1 w_2 h_3 => ?_)
 refine WL.box (segs := [(1, [(vi 2)]), (32, (zB 32).map vu8), (1, [(vn pg)]), (128, gr.map vu8), (1, [(vu64 0)]), (8, (zW 8).map vu64), (1, [(.bool false)])]) h_3 rfl rfl (sC sV (sC (s8 lr) (sC sV (sC (s8 hgr) (sC sV (sC (SOk.u64 lr) (sC sV sN))))))) rfl (fun b_4 w_5 h_6 => ?_)
 refine WL.alloc (segs := [(32, (zB 32).map vu8)]) h_6 (zv typeInfo23 rfl) rfl (sC (s8 lr) sN) rfl (fun b_7 w_8 h_9 => ?_)
 refine qA (vi 0) rfl rfl ?_
 refine WL.nil (thn_n (WP.seq (WP.reg ?_)))
 refine qM (pO ob 0) rfl rfl (qV rfl (R.loadA [] [(32, md.map vu8)] [] (cs := md.map vu8) rfl isAgg23 sizeOf23 (h_9.ok _ M2) rfl rfl rfl rfl) (qV rfl (R.fieldAddr (off' := 33) rfl underlying86 rfl sizeOf3 rfl rfl) (qV rfl (R.load1 rfl isAgg3 (h_9.ok _ M1) (Sg.t rfl (Sg.t rfl Sg.h))) (qV rfl (R.fieldAddr (off' := 34) rfl underlying86 rfl sizeOf29 rfl rfl) (qV rfl (R.loadA [(1, [(vi 2)]), (32, (zB 32).map vu8), (1, [(vn pg)])] [(128, gr.map vu8)] [(1, [(vu64 0)]), (8, (zW 8).map vu64), (1, [(.bool false)])] (cs := gr.map vu8) rfl isAgg29 sizeOf29 (h_9.ok _ M1) rfl rfl rfl rfl) ?_)))))
 have h_14 := ((((h_9.up J7).up J7).up J7).up J7).up J7
 have h32_w_18 := Lgs.ok32 (h_14.ok _ M3).1
 refine WL.call Try.call38 rfl rfl (c_Data id ob mp ms df hms da dn dc u hdf la lc lx lg hu hlg md gr hmd hgr pg (by omega) _ h_14) rfl ?_
 rintro _ w_18 ⟨la_15, lc_16, lx_17, rfl, h_19⟩
 refine qV rfl (R.extract rfl rfl) (qV rfl (R.extract rfl rfl) ?_)
 refine WL.storeA [] [(32, (zB 32).map vu8)] [(32, (anD id df dn u lg (1, (zB 32), 2, [md, leN 8 (UInt64.ofNat pg).toNat, gr].flatten)).map vu8)] [] h_19 rfl rfl sizeOf23 Y5 (by decide) rfl rfl rfl rfl rfl rfl (sC (s8 (anD_len hdf h32_w_18)) sN) (fun w_20 h_21 => ?_)
 refine qA (vi 0) rfl rfl ?_
 refine WL.nil (thn_n (WP.ret ?_))
 refine ret_of results75 (RV.cell rfl (h_21.loadA (cs := (anD id df dn u lg (1, (zB 32), 2, [md, leN 8 (UInt64.ofNat pg).toNat, gr].flatten)).map vu8) isAgg23 sizeOf23 M5 rfl rfl) (RV.tmp (v := (vi 0)) rfl RV.nil)) ?_
 have h_32 := ((((((((((h_21.up J5).drop rfl).up J5).drop rfl).up J5).drop rfl).up J4).up J4).up J4).up J4).up J4
 exact ⟨_, _, _, rfl, h_32⟩

theorem c_add2 {w00 : World} {L : List Ent} (id : Bool) (ob mp : Nat) (ms df : List UInt8) (hms : ms.length = 32) (da : Option Addr) (dn dc u : Nat) (hdf : df.length = 32 * dn) (la : Option Addr) (lc : Nat) (lx : List Value) (lg : Lg) (hu : u ≤ 1000000) (hlg : lg.length ≤ 1000000) (md : List UInt8) (hmd : md.length = 32) (pc : UInt64) (rg : List UInt64) (hrg : rg.length = 8) (run : Bool) (h : decide (pc % 8 = 0) = true) (w : World) (h_0 : HP w00 w (Ent.blk ob .nw 90 [(1, [(.bool id)]), (32, ms.map vu8), (1, [(.slice da dn dc)]), (1, [(vi ((u : Nat) : Int))]), (1, [(.map (some mp))]), (1, [(.slice la lg.length lc)])] :: Ent.row la lg.length lc 64 67 lx :: Ent.obj mp .nw (.map (mArr lg) lg.length) :: Ent.pin (sblks lx) (fun w => Lgs w lx lg) :: Ent.view da (df.map vu8) :: L)) :
  Cs Try.prog 76 [(.pointer (some ⟨ob, 0, none⟩)), (.agg ⟨md.map vu8⟩), (.agg ⟨flat [(1, [(vi 3)]), (32, (List.replicate 32 (0 : UInt8)).map vu8), (1, [(vi 0)]), (128, (List.replicate 128 (0 : UInt8)).map vu8), (1, [(vu64 pc)]), (8, rg.map vu64), (1, [(.bool run)])]⟩)].toArray w (fun v w1 => ∃ la' lc' lx', v = (.tuple [(.agg ⟨(anD id df dn u lg (1, (List.replicate 32 (0 : UInt8)), 3, [md, recB pc rg run].flatten)).map vu8⟩), (vi 0)].toArray) ∧ HP w00 w1 (Ent.blk ob .nw 90 [(1, [(.bool id)]), (32, ms.map vu8), (1, [(.slice da dn dc)]), (1, [(vi (((anU id u lg (1, (List.replicate 32 (0 : UInt8)), 3, [md, recB pc rg run].flatten)) : Nat) : Int))]), (1, [(.map (some mp))]), (1, [(.slice la' ((anL id df dn u lg (1, (List.replicate 32 (0 : UInt8)), 3, [md, recB pc rg run].flatten)).length) lc')])] :: Ent.row la' ((anL id df dn u lg (1, (List.replicate 32 (0 : UInt8)), 3, [md, recB pc rg run].flatten)).length) lc' 64 67 lx' :: Ent.obj mp .nw (.map (mArr (anL id df dn u lg (1, (List.replicate 32 (0 : UInt8)), 3, [md, recB pc rg run].flatten))) ((anL id df dn u lg (1, (List.replicate 32 (0 : UInt8)), 3, [md, recB pc rg run].flatten)).length)) :: Ent.pin (sblks lx') (fun w => Lgs w lx' (anL id df dn u lg (1, (List.replicate 32 (0 : UInt8)), 3, [md, recB pc rg run].flatten))) :: Ent.view da (df.map vu8) :: L)) := by
 refine Cs.of (n := 15) (args := [(pO ob 0), (.agg ⟨md.map vu8⟩), (.agg ⟨flat [(1, [(vi 3)]), (32, (zB 32).map vu8), (1, [(vi 0)]), (128, (zB 128).map vu8), (1, [(vu64 pc)]), (8, rg.map vu64), (1, [(.bool run)])]⟩)]) Try.func76 rfl rfl rfl ?_
 refine WP.seq (WP.reg ?_)
 refine WL.box (segs := [(32, md.map vu8)]) h_0 rfl rfl (sC (s8 hmd) sN) rfl (fun b_1 w_2 h_3 => ?_)
 refine WL.box (segs := [(1, [(vi 3)]), (32, (zB 32).map vu8), (1, [(vi 0)]), (128, (zB 128).map vu8), (1, [(vu64 pc)]), (8, rg.map vu64), (1, [(.bool run)])]) h_3 rfl rfl (sC sV (sC (s8 lr) (sC sV (sC (s8 lr) (sC sV (sC (SOk.u64 hrg) (sC sV sN))))))) rfl (fun b_4 w_5 h_6 => ?_)
 refine WL.alloc (segs := [(32, (zB 32).map vu8)]) h_6 (zv typeInfo23 rfl) rfl (sC (s8 lr) sN) rfl (fun b_7 w_8 h_9 => ?_)
 refine qA (vi 0) rfl rfl ?_
 refine WL.nil (thn_n (WP.seq (WP.reg ?_)))
 refine qM (pO ob 0) rfl rfl (qV rfl (R.loadA [] [(32, md.map vu8)] [] (cs := md.map vu8) rfl isAgg23 sizeOf23 (h_9.ok _ M2) rfl rfl rfl rfl) (qV rfl (R.fieldAddr (off' := 162) rfl underlying86 rfl sizeOf84 rfl rfl) (qV rfl (R.loadA [(1, [(vi 3)]), (32, (zB 32).map vu8), (1, [(vi 0)]), (128, (zB 128).map vu8)] [(1, [(vu64 pc)]), (8, rg.map vu64), (1, [(.bool run)])] [] rfl isAgg84 sizeOf84 (h_9.ok _ M1) rfl rfl rfl rfl) ?_)))
 have h_14 := ((((h_9.up J7).up J7).up J7).up J7).up J7
 have h32_w_18 := Lgs.ok32 (h_14.ok _ M3).1
 refine WL.call Try.call77 rfl rfl (c_Rec id ob mp ms df hms da dn dc u hdf la lc lx lg hu hlg md hmd pc rg hrg run h _ h_14) rfl ?_
 rintro _ w_18 ⟨la_15, lc_16, lx_17, rfl, h_19⟩
 refine qV rfl (R.extract rfl rfl) (qV rfl (R.extract rfl rfl) ?_)
 refine WL.storeA [] [(32, (zB 32).map vu8)] [(32, (anD id df dn u lg (1, (zB 32), 3, [md, recB pc rg run].flatten)).map vu8)] [] h_19 rfl rfl sizeOf23 Y5 (by decide) rfl rfl rfl rfl rfl rfl (sC (s8 (anD_len hdf h32_w_18)) sN) (fun w_20 h_21 => ?_)
 refine qA (vi 0) rfl rfl ?_
 refine WL.nil (thn_n (WP.ret ?_))
 refine ret_of results76 (RV.cell rfl (h_21.loadA (cs := (anD id df dn u lg (1, (zB 32), 3, [md, recB pc rg run].flatten)).map vu8) isAgg23 sizeOf23 M5 rfl rfl) (RV.tmp (v := (vi 0)) rfl RV.nil)) ?_
 have h_32 := ((((((((((h_21.up J5).drop rfl).up J5).drop rfl).up J5).drop rfl).up J4).up J4).up J4).up J4).up J4
 exact ⟨_, _, _, rfl, h_32⟩

theorem c_Next_2 {w00 : World} {L : List Ent} (id : Bool) (ob mp : Nat) (ms df : List UInt8) (hms : ms.length = 32) (da : Option Addr) (dn dc u : Nat) (hdf : df.length = 32 * dn) (la : Option Addr) (lc : Nat) (lx : List Value) (lg : Lg) (hu : u ≤ 1000000) (hlg : lg.length ≤ 1000000) (md : List UInt8) (hmd : md.length = 32) (pg : Nat) (h : pg < 128) (gr : List UInt8) (hgr : gr.length = 128) (w : World) (h_0 : HP w00 w (Ent.blk ob .nw 90 [(1, [(.bool id)]), (32, ms.map vu8), (1, [(.slice da dn dc)]), (1, [(vi ((u : Nat) : Int))]), (1, [(.map (some mp))]), (1, [(.slice la lg.length lc)])] :: Ent.row la lg.length lc 64 67 lx :: Ent.obj mp .nw (.map (mArr lg) lg.length) :: Ent.pin (sblks lx) (fun w => Lgs w lx lg) :: Ent.view da (df.map vu8) :: L)) :
  Cs Try.prog 42 [(.pointer (some ⟨ob, 0, none⟩)), (.agg ⟨md.map vu8⟩), (.agg ⟨flat [(1, [(vi 2)]), (32, (List.replicate 32 (0 : UInt8)).map vu8), (1, [(vi ((pg : Nat) : Int))]), (128, gr.map vu8), (1, [(vu64 0)]), (8, (List.replicate 8 (0 : UInt64)).map vu64), (1, [(.bool false)])]⟩)].toArray w (fun v w1 => ∃ la' lc' lx', v = (.tuple [(.agg ⟨(anD id df dn u lg (1, (List.replicate 32 (0 : UInt8)), 2, [md, leN 8 (UInt64.ofNat pg).toNat, gr].flatten)).map vu8⟩), (vi 0)].toArray) ∧ HP w00 w1 (Ent.blk ob .nw 90 [(1, [(.bool id)]), (32, ms.map vu8), (1, [(.slice da dn dc)]), (1, [(vi (((anU id u lg (1, (List.replicate 32 (0 : UInt8)), 2, [md, leN 8 (UInt64.ofNat pg).toNat, gr].flatten)) : Nat) : Int))]), (1, [(.map (some mp))]), (1, [(.slice la' ((anL id df dn u lg (1, (List.replicate 32 (0 : UInt8)), 2, [md, leN 8 (UInt64.ofNat pg).toNat, gr].flatten)).length) lc')])] :: Ent.row la' ((anL id df dn u lg (1, (List.replicate 32 (0 : UInt8)), 2, [md, leN 8 (UInt64.ofNat pg).toNat, gr].flatten)).length) lc' 64 67 lx' :: Ent.obj mp .nw (.map (mArr (anL id df dn u lg (1, (List.replicate 32 (0 : UInt8)), 2, [md, leN 8 (UInt64.ofNat pg).toNat, gr].flatten))) ((anL id df dn u lg (1, (List.replicate 32 (0 : UInt8)), 2, [md, leN 8 (UInt64.ofNat pg).toNat, gr].flatten)).length)) :: Ent.pin (sblks lx') (fun w => Lgs w lx' (anL id df dn u lg (1, (List.replicate 32 (0 : UInt8)), 2, [md, leN 8 (UInt64.ofNat pg).toNat, gr].flatten))) :: Ent.view da (df.map vu8) :: L)) := by
 refine Cs.of (n := 34) (args := [(pO ob 0), (.agg ⟨md.map vu8⟩), (.agg ⟨flat [(1, [(vi 2)]), (32, (zB 32).map vu8), (1, [(vn pg)]), (128, gr.map vu8), (1, [(vu64 0)]), (8, (zW 8).map vu64), (1, [(.bool false)])]⟩)]) Try.func42 rfl rfl rfl ?_
 refine WP.seq (WP.reg ?_)
 refine WL.box (segs := [(32, md.map vu8)]) h_0 rfl rfl (sC (s8 hmd) sN) rfl (fun b_1 w_2 h_3 => ?_)
 refine WL.box (segs := [(1, [(vi 2)]), (32, (zB 32).map vu8), (1, [(vn pg)]), (128, gr.map vu8), (1, [(vu64 0)]), (8, (zW 8).map vu64), (1, [(.bool false)])]) h_3 rfl rfl (sC sV (sC (s8 lr) (sC sV (sC (s8 hgr) (sC sV (sC (SOk.u64 lr) (sC sV sN))))))) rfl (fun b_4 w_5 h_6 => ?_)
 refine WL.alloc (segs := [(32, (zB 32).map vu8)]) h_6 (zv typeInfo23 rfl) rfl (sC (s8 lr) sN) rfl (fun b_7 w_8 h_9 => ?_)
 refine qA (vi 0) rfl rfl ?_
 refine WL.nil (thn_n (WP.seq ?_))
 refine WP.drawT (SL w00.heap.size [.blk b_7 .nw 23 [(32, (zB 32).map vu8)], .blk b_4 .nw 86 [(1, [(vi 2)]), (32, (zB 32).map vu8), (1, [(vn pg)]), (128, gr.map vu8), (1, [(vu64 0)]), (8, (zW 8).map vu64), (1, [(.bool false)])], .blk b_1 .nw 23 [(32, md.map vu8)], .blk ob .nw 90 [(1, [(.bool id)]), (32, ms.map vu8), (1, [(.slice da dn dc)]), (1, [(vn u)]), (1, [(.map (some mp))]), (1, [(.slice la lg.length lc)])], .row la lg.length lc 64 67 lx, .obj mp .nw (.map (mArr lg) lg.length), .pin (sblks lx) (fun w => Lgs w lx lg), .view da (df.map vu8)]) (.q 1 (.q 2 (.s 0 (.s 3 (.q 4 .nil))))) (by kernel_rfl) (by kernel_rfl) rfl (by kernel_rfl) (fun w_10 hc_12 => (SL.cons ((h_9.same hc_12).ok _ M0) (SL.cons ((h_9.same hc_12).ok _ M1) (SL.cons ((h_9.same hc_12).ok _ M2) (SL.cons ((h_9.same hc_12).ok _ M3) (SL.cons ((h_9.same hc_12).ok _ M4) (SL.cons ((h_9.same hc_12).ok _ M5) (SL.cons ((h_9.same hc_12).ok _ M6) (SL.cons ((h_9.same hc_12).ok _ M7) (SL.nil _ _)))))))))) (fun w_10 hc_12 => ?_)
 have h_11 := h_9.same hc_12
 refine qT rfl rfl (fun wq hS => R.fieldAddr (off' := 0) rfl underlying86 rfl sizeOf81 rfl rfl) ?_
 refine qT rfl rfl (fun wq hS => R.load1 rfl isAgg81 (hS _ M1) Sg.h) ?_
 refine WT.s (oN rfl ?_)
 refine WL.call Try.call63 rfl rfl (c_addings _) rfl ?_
 rintro _ w_14 ⟨b_13, rfl, hc_15, hm_16, hb_17⟩
 have h_18 := h_11.pushObj hc_15 hm_16 hb_17
 refine WL.nil ?_
 refine ⟨(N1_2_3_4_5_6_7_8 h_18.ok), ?_⟩
 refine WT.s (oN rfl ?_)
 refine qV rfl (R.lookup1 (r := (some (0, (Value.func (Fn.func 75) [].toArray [].toArray)))) (z := .nilFunc) (v := (Value.func (Fn.func 75) [].toArray [].toArray)) rfl rfl underlying115 (h_18.ok _ M0) (Ck.int underlying81) (Fk.int underlying81 rfl) (zv typeInfo114 rfl) rfl) ?_
 refine WL.nil ?_
 refine ⟨(N1_2_3_4_5_6_7_8 h_18.ok), ?_⟩
 refine qT rfl rfl (fun wq hS => R.assign (v := (Value.func (Fn.func 75) [].toArray [].toArray)) rfl) ?_
 refine WT.nil (thn_n (WP.seq (WP.block (WP.seq (WP.reg ?_)))))
 refine qM (pO ob 0) rfl rfl ?_
 refine WL.call Try.call40 rfl rfl (c_mth id ob mp ms hms da dn dc u la lg.length lc _ (h_18.argR M4)) rfl ?_
 rintro _ w_20 ⟨rfl, hc_19⟩
 have h_21 := h_18.same hc_19
 refine qV rfl (R.not (b := true) rfl) (qA (.bool false) rfl rfl ?_)
 refine WL.nil (thn_n ?_)
 refine WP.condF rfl ?_
 refine WP.seq (WP.reg ?_)
 refine qM (Value.func (Fn.func 75) [].toArray [].toArray) rfl rfl (qV rfl (R.eqNilF rfl rfl underlying114) (qM (.bool false) rfl rfl ?_))
 refine WL.want rfl rfl ?_
 refine qV rfl (R.loadA [] [(1, [(vi 2)]), (32, (zB 32).map vu8), (1, [(vn pg)]), (128, gr.map vu8), (1, [(vu64 0)]), (8, (zW 8).map vu64), (1, [(.bool false)])] [] rfl isAgg86 sizeOf86 (h_21.ok _ M2) rfl rfl rfl rfl) ?_
 refine WL.want rfl rfl ?_
 refine WL.call Try.call62 rfl rfl (c_MayA 2 (by decide) (zB 32) lr ((pg : Nat) : Int) (by omega) gr hgr (0 : UInt64) (zW 8) lr false _ ) rfl ?_
 rintro _ w_23 ⟨rfl, hc_22⟩
 have h_24 := h_21.same hc_22
 refine WL.want rfl rfl ?_
 refine qV rfl (R.not (b := true) (congrArg Value.bool (decide_eq_true (Or.inr (Or.inl ⟨rfl, rfl, ⟨by omega, by omega⟩, rfl, rfl, rfl⟩))))) (qV rfl (R.pickF (v := (.bool false)) rfl rfl) (qA (.bool false) rfl rfl ?_))
 refine WL.nil (thn_n ?_)
 refine WP.condF rfl ?_
 refine WP.skip (inb_n (thn_n (WP.seq (WP.reg ?_))))
 refine qM (Value.func (Fn.func 75) [].toArray [].toArray) rfl rfl (qM (pO ob 0) rfl rfl (qV rfl (R.loadA [] [(32, md.map vu8)] [] (cs := md.map vu8) rfl isAgg23 sizeOf23 (h_24.ok _ M3) rfl rfl rfl rfl) (qV rfl (R.loadA [] [(1, [(vi 2)]), (32, (zB 32).map vu8), (1, [(vn pg)]), (128, gr.map vu8), (1, [(vu64 0)]), (8, (zW 8).map vu64), (1, [(.bool false)])] [] rfl isAgg86 sizeOf86 (h_24.ok _ M2) rfl rfl rfl rfl) ?_)))
 have h_29 := ((((h_24.up J8).up J8).up J8).up J8).up J8
 have h32_w_33 := Lgs.ok32 (h_29.ok _ M3).1
 refine WL.call Try.call75 rfl rfl (c_add1 id ob mp ms df hms da dn dc u hdf la lc lx lg hu hlg md hmd pg (by omega) gr hgr _ h_29) rfl ?_
 rintro _ w_33 ⟨la_30, lc_31, lx_32, rfl, h_34⟩
 refine qV rfl (R.extract rfl rfl) (qV rfl (R.extract rfl rfl) ?_)
 refine WL.storeA [] [(32, (zB 32).map vu8)] [(32, (anD id df dn u lg (1, (zB 32), 2, [md, leN 8 (UInt64.ofNat pg).toNat, gr].flatten)).map vu8)] [] h_34 rfl rfl sizeOf23 Y6 (by decide) rfl rfl rfl rfl rfl rfl (sC (s8 (anD_len hdf h32_w_33)) sN) (fun w_35 h_36 => ?_)
 refine qA (vi 0) rfl rfl ?_
 refine WL.nil (thn_n (WP.ret ?_))
 refine ret_of results42 (RV.cell rfl (h_36.loadA (cs := (anD id df dn u lg (1, (zB 32), 2, [md, leN 8 (UInt64.ofNat pg).toNat, gr].flatten)).map vu8) isAgg23 sizeOf23 M6 rfl rfl) (RV.tmp (v := (vi 0)) rfl RV.nil)) ?_
 have h_49 := ((((((((((((h_36.up J5).drop rfl).up J5).drop rfl).up J5).drop rfl).up J5).drop rfl).up J4).up J4).up J4).up J4).up J4
 exact ⟨_, _, _, rfl, h_49⟩

theorem c_Next_3 {w00 : World} {L : List Ent} (id : Bool) (ob mp : Nat) (ms df : List UInt8) (hms : ms.length = 32) (da : Option Addr) (dn dc u : Nat) (hdf : df.length = 32 * dn) (la : Option Addr) (lc : Nat) (lx : List Value) (lg : Lg) (hu : u ≤ 1000000) (hlg : lg.length ≤ 1000000) (md : List UInt8) (hmd : md.length = 32) (pc : UInt64) (rg : List UInt64) (hrg : rg.length = 8) (run : Bool) (h : decide (pc % 8 = 0) = true) (w : World) (h_0 : HP w00 w (Ent.blk ob .nw 90 [(1, [(.bool id)]), (32, ms.map vu8), (1, [(.slice da dn dc)]), (1, [(vi ((u : Nat) : Int))]), (1, [(.map (some mp))]), (1, [(.slice la lg.length lc)])] :: Ent.row la lg.length lc 64 67 lx :: Ent.obj mp .nw (.map (mArr lg) lg.length) :: Ent.pin (sblks lx) (fun w => Lgs w lx lg) :: Ent.view da (df.map vu8) :: L)) :
  Cs Try.prog 42 [(.pointer (some ⟨ob, 0, none⟩)), (.agg ⟨md.map vu8⟩), (.agg ⟨flat [(1, [(vi 3)]), (32, (List.replicate 32 (0 : UInt8)).map vu8), (1, [(vi 0)]), (128, (List.replicate 128 (0 : UInt8)).map vu8), (1, [(vu64 pc)]), (8, rg.map vu64), (1, [(.bool run)])]⟩)].toArray w (fun v w1 => ∃ la' lc' lx', v = (.tuple [(.agg ⟨(anD id df dn u lg (1, (List.replicate 32 (0 : UInt8)), 3, [md, recB pc rg run].flatten)).map vu8⟩), (vi 0)].toArray) ∧ HP w00 w1 (Ent.blk ob .nw 90 [(1, [(.bool id)]), (32, ms.map vu8), (1, [(.slice da dn dc)]), (1, [(vi (((anU id u lg (1, (List.replicate 32 (0 : UInt8)), 3, [md, recB pc rg run].flatten)) : Nat) : Int))]), (1, [(.map (some mp))]), (1, [(.slice la' ((anL id df dn u lg (1, (List.replicate 32 (0 : UInt8)), 3, [md, recB pc rg run].flatten)).length) lc')])] :: Ent.row la' ((anL id df dn u lg (1, (List.replicate 32 (0 : UInt8)), 3, [md, recB pc rg run].flatten)).length) lc' 64 67 lx' :: Ent.obj mp .nw (.map (mArr (anL id df dn u lg (1, (List.replicate 32 (0 : UInt8)), 3, [md, recB pc rg run].flatten))) ((anL id df dn u lg (1, (List.replicate 32 (0 : UInt8)), 3, [md, recB pc rg run].flatten)).length)) :: Ent.pin (sblks lx') (fun w => Lgs w lx' (anL id df dn u lg (1, (List.replicate 32 (0 : UInt8)), 3, [md, recB pc rg run].flatten))) :: Ent.view da (df.map vu8) :: L)) := by
 refine Cs.of (n := 34) (args := [(pO ob 0), (.agg ⟨md.map vu8⟩), (.agg ⟨flat [(1, [(vi 3)]), (32, (zB 32).map vu8), (1, [(vi 0)]), (128, (zB 128).map vu8), (1, [(vu64 pc)]), (8, rg.map vu64), (1, [(.bool run)])]⟩)]) Try.func42 rfl rfl rfl ?_
 refine WP.seq (WP.reg ?_)
 refine WL.box (segs := [(32, md.map vu8)]) h_0 rfl rfl (sC (s8 hmd) sN) rfl (fun b_1 w_2 h_3 => ?_)
 refine WL.box (segs := [(1, [(vi 3)]), (32, (zB 32).map vu8), (1, [(vi 0)]), (128, (zB 128).map vu8), (1, [(vu64 pc)]), (8, rg.map vu64), (1, [(.bool run)])]) h_3 rfl rfl (sC sV (sC (s8 lr) (sC sV (sC (s8 lr) (sC sV (sC (SOk.u64 hrg) (sC sV sN))))))) rfl (fun b_4 w_5 h_6 => ?_)
 refine WL.alloc (segs := [(32, (zB 32).map vu8)]) h_6 (zv typeInfo23 rfl) rfl (sC (s8 lr) sN) rfl (fun b_7 w_8 h_9 => ?_)
 refine qA (vi 0) rfl rfl ?_
 refine WL.nil (thn_n (WP.seq ?_))
 refine WP.drawT (SL w00.heap.size [.blk b_7 .nw 23 [(32, (zB 32).map vu8)], .blk b_4 .nw 86 [(1, [(vi 3)]), (32, (zB 32).map vu8), (1, [(vi 0)]), (128, (zB 128).map vu8), (1, [(vu64 pc)]), (8, rg.map vu64), (1, [(.bool run)])], .blk b_1 .nw 23 [(32, md.map vu8)], .blk ob .nw 90 [(1, [(.bool id)]), (32, ms.map vu8), (1, [(.slice da dn dc)]), (1, [(vn u)]), (1, [(.map (some mp))]), (1, [(.slice la lg.length lc)])], .row la lg.length lc 64 67 lx, .obj mp .nw (.map (mArr lg) lg.length), .pin (sblks lx) (fun w => Lgs w lx lg), .view da (df.map vu8)]) (.q 1 (.q 2 (.s 0 (.s 3 (.q 4 .nil))))) (by kernel_rfl) (by kernel_rfl) rfl (by kernel_rfl) (fun w_10 hc_12 => (SL.cons ((h_9.same hc_12).ok _ M0) (SL.cons ((h_9.same hc_12).ok _ M1) (SL.cons ((h_9.same hc_12).ok _ M2) (SL.cons ((h_9.same hc_12).ok _ M3) (SL.cons ((h_9.same hc_12).ok _ M4) (SL.cons ((h_9.same hc_12).ok _ M5) (SL.cons ((h_9.same hc_12).ok _ M6) (SL.cons ((h_9.same hc_12).ok _ M7) (SL.nil _ _)))))))))) (fun w_10 hc_12 => ?_)
 have h_11 := h_9.same hc_12
 refine qT rfl rfl (fun wq hS => R.fieldAddr (off' := 0) rfl underlying86 rfl sizeOf81 rfl rfl) ?_
 refine qT rfl rfl (fun wq hS => R.load1 rfl isAgg81 (hS _ M1) Sg.h) ?_
 refine WT.s (oN rfl ?_)
 refine WL.call Try.call63 rfl rfl (c_addings _) rfl ?_
 rintro _ w_14 ⟨b_13, rfl, hc_15, hm_16, hb_17⟩
 have h_18 := h_11.pushObj hc_15 hm_16 hb_17
 refine WL.nil ?_
 refine ⟨(N1_2_3_4_5_6_7_8 h_18.ok), ?_⟩
 refine WT.s (oN rfl ?_)
 refine qV rfl (R.lookup1 (r := (some (1, (Value.func (Fn.func 76) [].toArray [].toArray)))) (z := .nilFunc) (v := (Value.func (Fn.func 76) [].toArray [].toArray)) rfl rfl underlying115 (h_18.ok _ M0) (Ck.int underlying81) (Fk.int underlying81 rfl) (zv typeInfo114 rfl) rfl) ?_
 refine WL.nil ?_
 refine ⟨(N1_2_3_4_5_6_7_8 h_18.ok), ?_⟩
 refine qT rfl rfl (fun wq hS => R.assign (v := (Value.func (Fn.func 76) [].toArray [].toArray)) rfl) ?_
 refine WT.nil (thn_n (WP.seq (WP.block (WP.seq (WP.reg ?_)))))
 refine qM (pO ob 0) rfl rfl ?_
 refine WL.call Try.call40 rfl rfl (c_mth id ob mp ms hms da dn dc u la lg.length lc _ (h_18.argR M4)) rfl ?_
 rintro _ w_20 ⟨rfl, hc_19⟩
 have h_21 := h_18.same hc_19
 refine qV rfl (R.not (b := true) rfl) (qA (.bool false) rfl rfl ?_)
 refine WL.nil (thn_n ?_)
 refine WP.condF rfl ?_
 refine WP.seq (WP.reg ?_)
 refine qM (Value.func (Fn.func 76) [].toArray [].toArray) rfl rfl (qV rfl (R.eqNilF rfl rfl underlying114) (qM (.bool false) rfl rfl ?_))
 refine WL.want rfl rfl ?_
 refine qV rfl (R.loadA [] [(1, [(vi 3)]), (32, (zB 32).map vu8), (1, [(vi 0)]), (128, (zB 128).map vu8), (1, [(vu64 pc)]), (8, rg.map vu64), (1, [(.bool run)])] [] rfl isAgg86 sizeOf86 (h_21.ok _ M2) rfl rfl rfl rfl) ?_
 refine WL.want rfl rfl ?_
 refine WL.call Try.call62 rfl rfl (c_MayA 3 (by decide) (zB 32) lr 0 (by decide) (zB 128) lr pc rg hrg run _ ) rfl ?_
 rintro _ w_23 ⟨rfl, hc_22⟩
 have h_24 := h_21.same hc_22
 refine WL.want rfl rfl ?_
 refine qV rfl (R.not (b := true) (congrArg Value.bool (decide_eq_true (Or.inr (Or.inr ⟨rfl, rfl, rfl, rfl, h⟩))))) (qV rfl (R.pickF (v := (.bool false)) rfl rfl) (qA (.bool false) rfl rfl ?_))
 refine WL.nil (thn_n ?_)
 refine WP.condF rfl ?_
 refine WP.skip (inb_n (thn_n (WP.seq (WP.reg ?_))))
 refine qM (Value.func (Fn.func 76) [].toArray [].toArray) rfl rfl (qM (pO ob 0) rfl rfl (qV rfl (R.loadA [] [(32, md.map vu8)] [] (cs := md.map vu8) rfl isAgg23 sizeOf23 (h_24.ok _ M3) rfl rfl rfl rfl) (qV rfl (R.loadA [] [(1, [(vi 3)]), (32, (zB 32).map vu8), (1, [(vi 0)]), (128, (zB 128).map vu8), (1, [(vu64 pc)]), (8, rg.map vu64), (1, [(.bool run)])] [] rfl isAgg86 sizeOf86 (h_24.ok _ M2) rfl rfl rfl rfl) ?_)))
 have h_29 := ((((h_24.up J8).up J8).up J8).up J8).up J8
 have h32_w_33 := Lgs.ok32 (h_29.ok _ M3).1
 refine WL.call Try.call76 rfl rfl (c_add2 id ob mp ms df hms da dn dc u hdf la lc lx lg hu hlg md hmd pc rg hrg run h _ h_29) rfl ?_
 rintro _ w_33 ⟨la_30, lc_31, lx_32, rfl, h_34⟩
 refine qV rfl (R.extract rfl rfl) (qV rfl (R.extract rfl rfl) ?_)
 refine WL.storeA [] [(32, (zB 32).map vu8)] [(32, (anD id df dn u lg (1, (zB 32), 3, [md, recB pc rg run].flatten)).map vu8)] [] h_34 rfl rfl sizeOf23 Y6 (by decide) rfl rfl rfl rfl rfl rfl (sC (s8 (anD_len hdf h32_w_33)) sN) (fun w_35 h_36 => ?_)
 refine qA (vi 0) rfl rfl ?_
 refine WL.nil (thn_n (WP.ret ?_))
 refine ret_of results42 (RV.cell rfl (h_36.loadA (cs := (anD id df dn u lg (1, (zB 32), 3, [md, recB pc rg run].flatten)).map vu8) isAgg23 sizeOf23 M6 rfl rfl) (RV.tmp (v := (vi 0)) rfl RV.nil)) ?_
 have h_49 := ((((((((((((h_36.up J5).drop rfl).up J5).drop rfl).up J5).drop rfl).up J5).drop rfl).up J4).up J4).up J4).up J4).up J4
 exact ⟨_, _, _, rfl, h_49⟩

theorem c_NextA {w00 : World} {L : List Ent} (id : Bool) (ob mp : Nat) (ms df : List UInt8) (hms : ms.length = 32) (da : Option Addr) (dn dc u : Nat) (hdf : df.length = 32 * dn) (la : Option Addr) (lc : Nat) (lx : List Value) (lg : Lg) (hu : u ≤ 1000000) (hlg : lg.length ≤ 1000000) (md : List UInt8) (hmd : md.length = 32) (kd : Int) (hbk : -9223372036854775808 ≤ kd ∧ kd < 9223372036854775808) (val : List UInt8) (hvl : val.length = 32) (pg : Int) (hbp : -9223372036854775808 ≤ pg ∧ pg < 9223372036854775808) (gr : List UInt8) (hgr : gr.length = 128) (pc : UInt64) (rg : List UInt64) (hrg : rg.length = 8) (run : Bool) (hm : mayB kd val pg gr pc rg run = true) (hk : kd ≠ 1) (w : World) (h_0 : HP w00 w (Ent.blk ob .nw 90 [(1, [(.bool id)]), (32, ms.map vu8), (1, [(.slice da dn dc)]), (1, [(vi ((u : Nat) : Int))]), (1, [(.map (some mp))]), (1, [(.slice la lg.length lc)])] :: Ent.row la lg.length lc 64 67 lx :: Ent.obj mp .nw (.map (mArr lg) lg.length) :: Ent.pin (sblks lx) (fun w => Lgs w lx lg) :: Ent.view da (df.map vu8) :: L)) :
  Cs Try.prog 42 [(.pointer (some ⟨ob, 0, none⟩)), (.agg ⟨md.map vu8⟩), (.agg ⟨flat [(1, [(vi kd)]), (32, val.map vu8), (1, [(vi pg)]), (128, gr.map vu8), (1, [(vu64 pc)]), (8, rg.map vu64), (1, [(.bool run)])]⟩)].toArray w (fun v w1 => ∃ la' lc' lx', v = (.tuple [(.agg ⟨(anD id df dn u lg (qN md kd pg gr pc rg run)).map vu8⟩), (vi 0)].toArray) ∧ HP w00 w1 (Ent.blk ob .nw 90 [(1, [(.bool id)]), (32, ms.map vu8), (1, [(.slice da dn dc)]), (1, [(vi (((anU id u lg (qN md kd pg gr pc rg run)) : Nat) : Int))]), (1, [(.map (some mp))]), (1, [(.slice la' ((anL id df dn u lg (qN md kd pg gr pc rg run)).length) lc')])] :: Ent.row la' ((anL id df dn u lg (qN md kd pg gr pc rg run)).length) lc' 64 67 lx' :: Ent.obj mp .nw (.map (mArr (anL id df dn u lg (qN md kd pg gr pc rg run))) ((anL id df dn u lg (qN md kd pg gr pc rg run)).length)) :: Ent.pin (sblks lx') (fun w => Lgs w lx' (anL id df dn u lg (qN md kd pg gr pc rg run))) :: Ent.view da (df.map vu8) :: L)) := by
 rcases mayB_to hm with h | h | h
 ·exact absurd h.1 hk
 ·obtain ⟨rfl, rfl, hp, rfl, rfl, rfl⟩ := h
  obtain ⟨p, rfl⟩ := Int.eq_ofNat_of_zero_le hp.1
  rw [show qN md 2 (p : Int) gr 0 (List.replicate 8 (0 : UInt64)) false = (1, (List.replicate 32 (0 : UInt8)), 2, [md, leN 8 (UInt64.ofNat p).toNat, gr].flatten) from if_pos rfl]
  exact c_Next_2 id ob mp ms df hms da dn dc u hdf la lc lx lg hu hlg md hmd p (by omega) gr hgr w h_0
 ·obtain ⟨rfl, rfl, rfl, rfl, h⟩ := h
  rw [show qN md 3 0 (List.replicate 128 (0 : UInt8)) pc rg run = (1, (List.replicate 32 (0 : UInt8)), 3, [md, recB pc rg run].flatten) from if_neg (by decide)]
  exact c_Next_3 id ob mp ms df hms da dn dc u hdf la lc lx lg hu hlg md hmd pc rg hrg run h w h_0

theorem c_MayAll_2g (bc : Nat) (w : World) (hcr : (Ent.blk bc .ro 86 [(1, [(vi 2)]), (32, (List.replicate 32 (0 : UInt8)).map vu8), (1, [(vi 0)]), (128, (List.replicate 128 (0 : UInt8)).map vu8), (1, [(vu64 0)]), (8, (List.replicate 8 (0 : UInt64)).map vu64), (1, [(.bool false)])]).ok w.heap.size w) :
  Cs Try.prog 41 [(.slice (some ⟨bc, 0, none⟩) 1 1)].toArray w (fun v w1 => v = (.bool false) ∧ Chg w w1 []) := by
 refine Cs.of (n := 30) (args := [(.slice (some ⟨bc, 0, none⟩) 1 1)]) Try.func41 rfl rfl rfl ?_
 have h_0 := HP.init w
 have h_00 := h_0.old hcr (fun f hf => by cases hf)
 refine WP.seq (WP.reg ?_)
 refine qA (.bool false) rfl rfl ?_
 refine WL.nil (thn_n (WP.scope (WP.seq (WP.reg ?_))))
 refine qM (.slice (some ⟨bc, 0, none⟩) 1 1) rfl rfl (qV rfl (R.lenS (a := some ⟨bc, 0, none⟩) (m := 1) rfl rfl underlying45) (qV rfl (R.bin rfl rfl (bi_gtr (r := true) (by decide))) (qA (.bool true) rfl rfl ?_)))
 refine WL.nil (thn_n (WP.seq (WP.label (thn_n (WP.seq (WP.seq (WP.reg ?_)))))))
 refine qM (.slice (some ⟨bc, 0, none⟩) 1 1) rfl rfl (qV rfl (R.lenS (a := some ⟨bc, 0, none⟩) (m := 1) rfl rfl underlying45) (qM (vi 0) rfl rfl ?_))
 refine WL.nil (thn_n (WP.block ?_))
 refine WP.loopU (WI.round ?_)
 refine WP.seq (WP.reg ?_)
 refine qV rfl (R.bin rfl rfl (bi_lss (r := true) (by decide))) ?_
 refine WL.nil (thn_n (WP.seq ?_))
 refine WP.condT rfl ?_
 refine WP.skip (thn_n (WP.seq (WP.block (WP.seq (WP.reg ?_)))))
 refine qM (vi 0) rfl rfl (qV rfl (R.indexP (b := bc) (off := 0) (off' := 0) (i := 0) rfl rfl rfl (by decide) underlying45 sizeOf86 rfl) (qV rfl (R.loadA [] [(1, [(vi 2)]), (32, (zB 32).map vu8), (1, [(vi 0)]), (128, (zB 128).map vu8), (1, [(vu64 0)]), (8, (zW 8).map vu64), (1, [(.bool false)])] [] rfl isAgg86 sizeOf86 (h_00.ok _ M0) rfl rfl rfl rfl) ?_))
 refine WL.alloc (segs := [(1, [(vi 0)]), (32, (zB 32).map vu8), (1, [(vi 0)]), (128, (zB 128).map vu8), (1, [(vu64 0)]), (8, (zW 8).map vu64), (1, [(.bool false)])]) h_00 (zv typeInfo86 rfl) rfl (sC sV (sC (s8 lr) (sC sV (sC (s8 lr) (sC sV (sC (SOk.u64 lr) (sC sV sN))))))) rfl (fun b_1 w_2 h_3 => ?_)
 refine qA (vi 0) rfl rfl ?_
 refine WL.storeA [] [(1, [(vi 0)]), (32, (zB 32).map vu8), (1, [(vi 0)]), (128, (zB 128).map vu8), (1, [(vu64 0)]), (8, (zW 8).map vu64), (1, [(.bool false)])] [(1, [(vi 2)]), (32, (zB 32).map vu8), (1, [(vi 0)]), (128, (zB 128).map vu8), (1, [(vu64 0)]), (8, (zW 8).map vu64), (1, [(.bool false)])] [] h_3 rfl rfl sizeOf86 At.h (by decide) rfl rfl rfl rfl rfl rfl (sC sV (sC (s8 lr) (sC sV (sC (s8 lr) (sC sV (sC (SOk.u64 lr) (sC sV sN))))))) (fun w_4 h_5 => ?_)
 refine WL.nil (thn_n (WP.seq (WP.reg ?_)))
 refine qV rfl (R.loadA [] [(1, [(vi 2)]), (32, (zB 32).map vu8), (1, [(vi 0)]), (128, (zB 128).map vu8), (1, [(vu64 0)]), (8, (zW 8).map vu64), (1, [(.bool false)])] [] rfl isAgg86 sizeOf86 (h_5.ok _ M0) rfl rfl rfl rfl) ?_
 refine WL.call Try.call62 rfl rfl (c_MayA 2 (by decide) (zB 32) lr 0 (by decide) (zB 128) lr (0 : UInt64) (zW 8) lr false _ ) rfl ?_
 rintro _ w_7 ⟨rfl, hc_6⟩
 have h_8 := h_5.same hc_6
 refine qM (.bool (mayB 2 (zB 32) 0 (zB 128) (0 : UInt64) (zW 8) false)) rfl rfl ?_
 refine WL.want rfl (congrArg Value.bool (by decide +kernel)) ?_
 refine qV rfl (R.fieldAddr (off' := 0) rfl underlying86 rfl sizeOf81 rfl rfl) ?_
 refine WL.want rfl (congrArg Value.bool (by decide +kernel)) ?_
 refine qV rfl (R.load1 rfl isAgg81 (h_8.ok _ M0) Sg.h) ?_
 refine WL.want rfl (congrArg Value.bool (by decide +kernel)) ?_
 refine qV rfl (R.bin rfl rfl (bi_eql (r := false) (by decide))) ?_
 refine WL.want rfl (congrArg Value.bool (by decide +kernel)) ?_
 refine qM (vi 0) rfl rfl ?_
 refine WL.want rfl (congrArg Value.bool (by decide +kernel)) ?_
 refine qV rfl (R.bin rfl rfl (bi_eql (r := true) (by decide))) ?_
 refine WL.want rfl (congrArg Value.bool (by decide +kernel)) ?_
 refine qV rfl (R.eqB (a := false) (b := true) (c := false) rfl rfl underlying4 rfl) (qV rfl (R.pickT (v := (.bool false)) (congrArg Value.bool (by decide +kernel)) rfl) (qA (.bool false) rfl rfl ?_))
 refine WL.nil (thn_n (WP.seq (WP.reg ?_)))
 refine qM (.bool false) rfl rfl (qV rfl (R.not (b := false) rfl) ?_)
 refine WL.nil (thn_n ?_)
 refine WP.condT rfl ?_
 refine WP.exit (inb_miss rfl (thn_x (thn_x (inb_hit (thn_n (WP.seq (WP.reg ?_)))))))
 refine qM (.bool false) rfl rfl (qA (.bool false) rfl rfl ?_)
 refine WL.nil (thn_n (WP.ret (ng_r ?_)))
 refine ret_of results41 (RV.tmp (v := (.bool false)) rfl RV.nil) ?_
 exact ⟨rfl, h_8.chgS⟩

theorem c_Replay_2g (id : Bool) (ob mp : Nat) (ms : List UInt8) (hms : ms.length = 32) (da : Option Addr) (dn dc u : Nat) (la : Option Addr) (ln lc : Nat) (bc : Nat) (w : World) (hcb : (Ent.blk ob .ro 90 [(1, [(.bool id)]), (32, ms.map vu8), (1, [(.slice da dn dc)]), (1, [(vi ((u : Nat) : Int))]), (1, [(.map (some mp))]), (1, [(.slice la ln lc)])]).ok w.heap.size w) (hcr : (Ent.blk bc .ro 86 [(1, [(vi 2)]), (32, (List.replicate 32 (0 : UInt8)).map vu8), (1, [(vi 0)]), (128, (List.replicate 128 (0 : UInt8)).map vu8), (1, [(vu64 0)]), (8, (List.replicate 8 (0 : UInt64)).map vu64), (1, [(.bool false)])]).ok w.heap.size w) :
  Cs Try.prog 18 [(.pointer (some ⟨ob, 0, none⟩)), (.slice (some ⟨bc, 0, none⟩) 1 1)].toArray w (fun v w1 => v = (.tuple [(.agg ⟨(List.replicate 32 (0 : UInt8)).map vu8⟩), (vi 2)].toArray) ∧ Chg w w1 []) := by
 refine Cs.of (n := 51) (args := [(pO ob 0), (.slice (some ⟨bc, 0, none⟩) 1 1)]) Try.func18 rfl rfl rfl ?_
 have h_0 := HP.init w
 have h_01 := h_0.oldV hcb rfl (by simp [Ent.mut])
 have h_00 := h_01.oldV hcr rfl (by simp [Ent.mut])
 refine WP.seq (WP.reg ?_)
 refine WL.alloc (segs := [(32, (zB 32).map vu8)]) h_00 (zv typeInfo23 rfl) rfl (sC (s8 lr) sN) rfl (fun b_1 w_2 h_3 => ?_)
 refine qA (vi 0) rfl rfl ?_
 refine WL.nil (thn_n (WP.seq (WP.block (WP.seq (WP.reg ?_)))))
 refine qM (pO ob 0) rfl rfl ?_
 refine WL.call Try.call40 rfl rfl (c_mth id ob mp ms hms da dn dc u la ln lc _ (h_3.argR M2)) rfl ?_
 rintro _ w_5 ⟨rfl, hc_4⟩
 have h_6 := h_3.same hc_4
 refine qV rfl (R.not (b := true) rfl) (qA (.bool false) rfl rfl ?_)
 refine WL.nil (thn_n ?_)
 refine WP.condF rfl ?_
 refine WP.seq (WP.reg ?_)
 refine qM (.slice (some ⟨bc, 0, none⟩) 1 1) rfl rfl ?_
 refine WL.call Try.call41 rfl rfl (c_MayAll_2g bc _ (h_6.argR M1)) rfl ?_
 rintro _ w_8 ⟨rfl, hc_7⟩
 have h_9 := h_6.same hc_7
 refine qV rfl (R.not (b := false) rfl) (qA (.bool true) rfl rfl ?_)
 refine WL.nil (thn_n ?_)
 refine WP.condT rfl ?_
 refine WP.seq (WP.reg ?_)
 refine qV rfl (R.buildA (vs := []) (cs := (zB 32).map vu8) underlying23 sizeOf5 (zv typeInfo23 rfl) rfl rfl) ?_
 refine WL.storeA [] [(32, (zB 32).map vu8)] [(32, (zB 32).map vu8)] [] h_9 rfl rfl sizeOf23 At.h (by decide) rfl rfl rfl rfl rfl rfl (sC (s8 lr) sN) (fun w_10 h_11 => ?_)
 refine qA (vi 2) rfl rfl ?_
 refine WL.nil (thn_n (WP.ret (inb_r (thn_r ?_))))
 refine ret_of results18 (RV.cell rfl (h_11.loadA (cs := (zB 32).map vu8) isAgg23 sizeOf23 M0 rfl rfl) (RV.tmp (v := (vi 2)) rfl RV.nil)) ?_
 exact ⟨rfl, h_11.chgS⟩

theorem c_known12g  (w : World) :
  Cs Try.prog 15 [].toArray w (fun v w1 => v = (.bool true) ∧ Chg w w1 []) := by
 refine Cs.of (n := 80) (args := []) Try.func15 rfl rfl rfl ?_
 have h_0 := HP.init w
 refine WP.seq (WP.reg ?_)
 refine qA (.bool false) rfl rfl ?_
 refine WL.nil (thn_n (WP.seq (WP.reg ?_)))
 refine qV rfl (R.buildA (vs := []) (cs := (zB 32).map vu8) underlying23 sizeOf5 (zv typeInfo23 rfl) rfl rfl) ?_
 refine WL.call Try.call36 rfl rfl (c_dr1  _ ) rfl ?_
 rintro _ w_2 ⟨rfl, hc_1⟩
 have h_3 := h_0.same hc_1
 refine WL.call Try.call36 rfl rfl (c_dr2  _ ) rfl ?_
 rintro _ w_5 ⟨rfl, hc_4⟩
 have h_6 := h_3.same hc_4
 refine WL.buildSl (vs := [(0, (.agg ⟨([1, 0, 0, 0, 0, 0, 0, 0, 0, 0, 0, 0, 0, 0, 0, 0, 0, 0, 0, 0, 0, 0, 0, 0, 0, 0, 0, 0, 0, 0, 0, 2] : List UInt8).map vu8⟩)), (1, (.agg ⟨([2, 0, 0, 0, 0, 0, 0, 0, 0, 0, 0, 0, 0, 0, 0, 0, 0, 0, 0, 0, 0, 0, 0, 0, 0, 0, 0, 0, 0, 0, 0, 2] : List UInt8).map vu8⟩))]) (cs := (([1, 0, 0, 0, 0, 0, 0, 0, 0, 0, 0, 0, 0, 0, 0, 0, 0, 0, 0, 0, 0, 0, 0, 0, 0, 0, 0, 0, 0, 0, 0, 2] : List UInt8) ++ ([2, 0, 0, 0, 0, 0, 0, 0, 0, 0, 0, 0, 0, 0, 0, 0, 0, 0, 0, 0, 0, 0, 0, 0, 0, 0, 0, 0, 0, 0, 0, 2] : List UInt8)).map vu8) h_6 underlying24 sizeOf23 (zv typeInfo23 rfl) rfl rfl (fill_2 (by kernel_rfl) (rfl : List.length ([1, 0, 0, 0, 0, 0, 0, 0, 0, 0, 0, 0, 0, 0, 0, 0, 0, 0, 0, 0, 0, 0, 0, 0, 0, 0, 0, 0, 0, 0, 0, 2] : List UInt8) = 32) (rfl : List.length ([2, 0, 0, 0, 0, 0, 0, 0, 0, 0, 0, 0, 0, 0, 0, 0, 0, 0, 0, 0, 0, 0, 0, 0, 0, 0, 0, 0, 0, 0, 0, 2] : List UInt8) = 32)) (len_map (show List.length (([1, 0, 0, 0, 0, 0, 0, 0, 0, 0, 0, 0, 0, 0, 0, 0, 0, 0, 0, 0, 0, 0, 0, 0, 0, 0, 0, 0, 0, 0, 0, 2] : List UInt8) ++ ([2, 0, 0, 0, 0, 0, 0, 0, 0, 0, 0, 0, 0, 0, 0, 0, 0, 0, 0, 0, 0, 0, 0, 0, 0, 0, 0, 0, 0, 0, 0, 2] : List UInt8)) = 2 * 32 from rfl)) (one_u8 _) rfl rfl (fun b_7 w_8 h_9 => ?_)
 have h_10 := HP.blkRow (m := 2) (s := 32) h_9 At.h rfl (by simp only [maxLen]; decide)
 have h_11 := h_10.rowView
 refine WL.call Try.call17 rfl rfl (c_ONew true (zB 32) (([1, 0, 0, 0, 0, 0, 0, 0, 0, 0, 0, 0, 0, 0, 0, 0, 0, 0, 0, 0, 0, 0, 0, 0, 0, 0, 0, 0, 0, 0, 0, 2] : List UInt8) ++ ([2, 0, 0, 0, 0, 0, 0, 0, 0, 0, 0, 0, 0, 0, 0, 0, 0, 0, 0, 0, 0, 0, 0, 0, 0, 0, 0, 0, 0, 0, 0, 2] : List UInt8)) lr (some ⟨b_7, 0, none⟩) 2 2 (rfl : List.length (([1, 0, 0, 0, 0, 0, 0, 0, 0, 0, 0, 0, 0, 0, 0, 0, 0, 0, 0, 0, 0, 0, 0, 0, 0, 0, 0, 0, 0, 0, 0, 2] : List UInt8) ++ ([2, 0, 0, 0, 0, 0, 0, 0, 0, 0, 0, 0, 0, 0, 0, 0, 0, 0, 0, 0, 0, 0, 0, 0, 0, 0, 0, 0, 0, 0, 0, 2] : List UInt8)) = 64) (by decide) _ h_11) rfl ?_
 rintro _ w_16 ⟨b_12, b_13, a_14, c_15, rfl, h_17⟩
 refine qA (pO b_12 0) rfl rfl ?_
 refine WL.nil (thn_n (WP.seq (WP.reg ?_)))
 refine qM (pO b_12 0) rfl rfl (qV rfl (R.buildS (pl := [(0, 32), (32, 1)]) (zs := [(32, (zB 32).map vu8), (1, [(vu64 0)])]) (vs := []) (out := [(32, (zB 32).map vu8), (1, [(vu64 0)])]) underlying79 (zv typeInfo79 rfl) rfl (sC (s8 lr) (sC sV sN)) (pl79 _ underlying79) rfl FillR.nil rfl) ?_)
 have h_23 := ((((h_17.up J4).up J4).up J4).up J4).up J4
 have h32_w_27 := Lgs.ok32 (h_23.ok _ M3).1
 refine WL.call Try.call37 rfl rfl (c_Begin true b_12 b_13 (zB 32) (([1, 0, 0, 0, 0, 0, 0, 0, 0, 0, 0, 0, 0, 0, 0, 0, 0, 0, 0, 0, 0, 0, 0, 0, 0, 0, 0, 0, 0, 0, 0, 2] : List UInt8) ++ ([2, 0, 0, 0, 0, 0, 0, 0, 0, 0, 0, 0, 0, 0, 0, 0, 0, 0, 0, 0, 0, 0, 0, 0, 0, 0, 0, 0, 0, 0, 0, 2] : List UInt8)) lr a_14 2 c_15 0 (rfl : List.length (([1, 0, 0, 0, 0, 0, 0, 0, 0, 0, 0, 0, 0, 0, 0, 0, 0, 0, 0, 0, 0, 0, 0, 0, 0, 0, 0, 0, 0, 0, 0, 2] : List UInt8) ++ ([2, 0, 0, 0, 0, 0, 0, 0, 0, 0, 0, 0, 0, 0, 0, 0, 0, 0, 0, 0, 0, 0, 0, 0, 0, 0, 0, 0, 0, 0, 0, 2] : List UInt8)) = 64) none 0 [] ([] : Lg) (by decide) (by decide) (zB 32) lr (0 : UInt64) _ h_23) rfl ?_
 rintro _ w_27 ⟨la_24, lc_25, lx_26, rfl, h_28⟩
 refine qM (.tuple [(.agg ⟨(anD true (([1, 0, 0, 0, 0, 0, 0, 0, 0, 0, 0, 0, 0, 0, 0, 0, 0, 0, 0, 0, 0, 0, 0, 0, 0, 0, 0, 0, 0, 0, 0, 2] : List UInt8) ++ ([2, 0, 0, 0, 0, 0, 0, 0, 0, 0, 0, 0, 0, 0, 0, 0, 0, 0, 0, 0, 0, 0, 0, 0, 0, 0, 0, 0, 0, 0, 0, 2] : List UInt8)) 2 0 ([] : Lg) (1, (zB 32), 1, [List.replicate 32 (0 : UInt8)].flatten)).map vu8⟩), (vi 0)].toArray) rfl rfl (qV rfl (R.extract rfl rfl) (qV rfl (R.extract rfl rfl) ?_))
 refine WL.alloc (segs := [(32, (zB 32).map vu8)]) h_28 (zv typeInfo23 rfl) rfl (sC (s8 lr) sN) rfl (fun b_29 w_30 h_31 => ?_)
 refine WL.storeA [] [(32, (zB 32).map vu8)] [(32, (anD true (([1, 0, 0, 0, 0, 0, 0, 0, 0, 0, 0, 0, 0, 0, 0, 0, 0, 0, 0, 0, 0, 0, 0, 0, 0, 0, 0, 0, 0, 0, 0, 2] : List UInt8) ++ ([2, 0, 0, 0, 0, 0, 0, 0, 0, 0, 0, 0, 0, 0, 0, 0, 0, 0, 0, 0, 0, 0, 0, 0, 0, 0, 0, 0, 0, 0, 0, 2] : List UInt8)) 2 0 ([] : Lg) (1, (zB 32), 1, [List.replicate 32 (0 : UInt8)].flatten)).map vu8)] [] h_31 rfl rfl sizeOf23 At.h (by decide) rfl rfl rfl rfl rfl rfl (sC (s8 (anD_len (rfl : List.length (([1, 0, 0, 0, 0, 0, 0, 0, 0, 0, 0, 0, 0, 0, 0, 0, 0, 0, 0, 0, 0, 0, 0, 0, 0, 0, 0, 0, 0, 0, 0, 2] : List UInt8) ++ ([2, 0, 0, 0, 0, 0, 0, 0, 0, 0, 0, 0, 0, 0, 0, 0, 0, 0, 0, 0, 0, 0, 0, 0, 0, 0, 0, 0, 0, 0, 0, 2] : List UInt8)) = 64) h32_w_27)) sN) (fun w_32 h_33 => ?_)
 refine qA (vi 0) rfl rfl ?_
 refine WL.nil (thn_n (WP.seq (WP.reg ?_)))
 refine qM (pO b_12 0) rfl rfl (qV rfl (R.loadA [] [(32, (anD true (([1, 0, 0, 0, 0, 0, 0, 0, 0, 0, 0, 0, 0, 0, 0, 0, 0, 0, 0, 0, 0, 0, 0, 0, 0, 0, 0, 0, 0, 0, 0, 2] : List UInt8) ++ ([2, 0, 0, 0, 0, 0, 0, 0, 0, 0, 0, 0, 0, 0, 0, 0, 0, 0, 0, 0, 0, 0, 0, 0, 0, 0, 0, 0, 0, 0, 0, 2] : List UInt8)) 2 0 ([] : Lg) (1, (zB 32), 1, [List.replicate 32 (0 : UInt8)].flatten)).map vu8)] [] (cs := (anD true (([1, 0, 0, 0, 0, 0, 0, 0, 0, 0, 0, 0, 0, 0, 0, 0, 0, 0, 0, 0, 0, 0, 0, 0, 0, 0, 0, 0, 0, 0, 0, 2] : List UInt8) ++ ([2, 0, 0, 0, 0, 0, 0, 0, 0, 0, 0, 0, 0, 0, 0, 0, 0, 0, 0, 0, 0, 0, 0, 0, 0, 0, 0, 0, 0, 0, 0, 2] : List UInt8)) 2 0 ([] : Lg) (1, (zB 32), 1, [List.replicate 32 (0 : UInt8)].flatten)).map vu8) rfl isAgg23 sizeOf23 (h_33.ok _ M0) rfl rfl rfl rfl) (qV rfl (R.buildA (vs := []) (cs := (zB 128).map vu8) underlying29 sizeOf5 (zv typeInfo29 rfl) rfl rfl) ?_))
 have h_38 := ((((h_33.up J5).up J5).up J5).up J5).up J5
 have h32_w_42 := Lgs.ok32 (h_38.ok _ M3).1
 refine WL.call Try.call38 rfl rfl (c_Data true b_12 b_13 (zB 32) (([1, 0, 0, 0, 0, 0, 0, 0, 0, 0, 0, 0, 0, 0, 0, 0, 0, 0, 0, 0, 0, 0, 0, 0, 0, 0, 0, 0, 0, 0, 0, 2] : List UInt8) ++ ([2, 0, 0, 0, 0, 0, 0, 0, 0, 0, 0, 0, 0, 0, 0, 0, 0, 0, 0, 0, 0, 0, 0, 0, 0, 0, 0, 0, 0, 0, 0, 2] : List UInt8)) lr a_14 2 c_15 (anU true 0 ([] : Lg) (1, (zB 32), 1, [List.replicate 32 (0 : UInt8)].flatten)) (rfl : List.length (([1, 0, 0, 0, 0, 0, 0, 0, 0, 0, 0, 0, 0, 0, 0, 0, 0, 0, 0, 0, 0, 0, 0, 0, 0, 0, 0, 0, 0, 0, 0, 2] : List UInt8) ++ ([2, 0, 0, 0, 0, 0, 0, 0, 0, 0, 0, 0, 0, 0, 0, 0, 0, 0, 0, 0, 0, 0, 0, 0, 0, 0, 0, 0, 0, 0, 0, 2] : List UInt8)) = 64) la_24 lc_25 lx_26 (anL true (([1, 0, 0, 0, 0, 0, 0, 0, 0, 0, 0, 0, 0, 0, 0, 0, 0, 0, 0, 0, 0, 0, 0, 0, 0, 0, 0, 0, 0, 0, 0, 2] : List UInt8) ++ ([2, 0, 0, 0, 0, 0, 0, 0, 0, 0, 0, 0, 0, 0, 0, 0, 0, 0, 0, 0, 0, 0, 0, 0, 0, 0, 0, 0, 0, 0, 0, 2] : List UInt8)) 2 0 ([] : Lg) (1, (zB 32), 1, [List.replicate 32 (0 : UInt8)].flatten)) (by decide) (by decide) (anD true (([1, 0, 0, 0, 0, 0, 0, 0, 0, 0, 0, 0, 0, 0, 0, 0, 0, 0, 0, 0, 0, 0, 0, 0, 0, 0, 0, 0, 0, 0, 0, 2] : List UInt8) ++ ([2, 0, 0, 0, 0, 0, 0, 0, 0, 0, 0, 0, 0, 0, 0, 0, 0, 0, 0, 0, 0, 0, 0, 0, 0, 0, 0, 0, 0, 0, 0, 2] : List UInt8)) 2 0 ([] : Lg) (1, (zB 32), 1, [List.replicate 32 (0 : UInt8)].flatten)) (zB 128) (anD_len (rfl : List.length (([1, 0, 0, 0, 0, 0, 0, 0, 0, 0, 0, 0, 0, 0, 0, 0, 0, 0, 0, 0, 0, 0, 0, 0, 0, 0, 0, 0, 0, 0, 0, 2] : List UInt8) ++ ([2, 0, 0, 0, 0, 0, 0, 0, 0, 0, 0, 0, 0, 0, 0, 0, 0, 0, 0, 0, 0, 0, 0, 0, 0, 0, 0, 0, 0, 0, 0, 2] : List UInt8)) = 64) h32_w_27) lr 3 (by omega) _ h_38) rfl ?_
 rintro _ w_42 ⟨la_39, lc_40, lx_41, rfl, h_43⟩
 refine qM (.tuple [(.agg ⟨(anD true (([1, 0, 0, 0, 0, 0, 0, 0, 0, 0, 0, 0, 0, 0, 0, 0, 0, 0, 0, 0, 0, 0, 0, 0, 0, 0, 0, 0, 0, 0, 0, 2] : List UInt8) ++ ([2, 0, 0, 0, 0, 0, 0, 0, 0, 0, 0, 0, 0, 0, 0, 0, 0, 0, 0, 0, 0, 0, 0, 0, 0, 0, 0, 0, 0, 0, 0, 2] : List UInt8)) 2 (anU true 0 ([] : Lg) (1, (zB 32), 1, [List.replicate 32 (0 : UInt8)].flatten)) (anL true (([1, 0, 0, 0, 0, 0, 0, 0, 0, 0, 0, 0, 0, 0, 0, 0, 0, 0, 0, 0, 0, 0, 0, 0, 0, 0, 0, 0, 0, 0, 0, 2] : List UInt8) ++ ([2, 0, 0, 0, 0, 0, 0, 0, 0, 0, 0, 0, 0, 0, 0, 0, 0, 0, 0, 0, 0, 0, 0, 0, 0, 0, 0, 0, 0, 0, 0, 2] : List UInt8)) 2 0 ([] : Lg) (1, (zB 32), 1, [List.replicate 32 (0 : UInt8)].flatten)) (1, (zB 32), 2, [anD true (([1, 0, 0, 0, 0, 0, 0, 0, 0, 0, 0, 0, 0, 0, 0, 0, 0, 0, 0, 0, 0, 0, 0, 0, 0, 0, 0, 0, 0, 0, 0, 2] : List UInt8) ++ ([2, 0, 0, 0, 0, 0, 0, 0, 0, 0, 0, 0, 0, 0, 0, 0, 0, 0, 0, 0, 0, 0, 0, 0, 0, 0, 0, 0, 0, 0, 0, 2] : List UInt8)) 2 0 ([] : Lg) (1, (zB 32), 1, [List.replicate 32 (0 : UInt8)].flatten), leN 8 (UInt64.ofNat 3).toNat, List.replicate 128 (0 : UInt8)].flatten)).map vu8⟩), (vi 0)].toArray) rfl rfl (qV rfl (R.extract rfl rfl) (qV rfl (R.extract rfl rfl) ?_))
 refine WL.alloc (segs := [(32, (zB 32).map vu8)]) h_43 (zv typeInfo23 rfl) rfl (sC (s8 lr) sN) rfl (fun b_44 w_45 h_46 => ?_)
 refine WL.storeA [] [(32, (zB 32).map vu8)] [(32, (anD true (([1, 0, 0, 0, 0, 0, 0, 0, 0, 0, 0, 0, 0, 0, 0, 0, 0, 0, 0, 0, 0, 0, 0, 0, 0, 0, 0, 0, 0, 0, 0, 2] : List UInt8) ++ ([2, 0, 0, 0, 0, 0, 0, 0, 0, 0, 0, 0, 0, 0, 0, 0, 0, 0, 0, 0, 0, 0, 0, 0, 0, 0, 0, 0, 0, 0, 0, 2] : List UInt8)) 2 (anU true 0 ([] : Lg) (1, (zB 32), 1, [List.replicate 32 (0 : UInt8)].flatten)) (anL true (([1, 0, 0, 0, 0, 0, 0, 0, 0, 0, 0, 0, 0, 0, 0, 0, 0, 0, 0, 0, 0, 0, 0, 0, 0, 0, 0, 0, 0, 0, 0, 2] : List UInt8) ++ ([2, 0, 0, 0, 0, 0, 0, 0, 0, 0, 0, 0, 0, 0, 0, 0, 0, 0, 0, 0, 0, 0, 0, 0, 0, 0, 0, 0, 0, 0, 0, 2] : List UInt8)) 2 0 ([] : Lg) (1, (zB 32), 1, [List.replicate 32 (0 : UInt8)].flatten)) (1, (zB 32), 2, [anD true (([1, 0, 0, 0, 0, 0, 0, 0, 0, 0, 0, 0, 0, 0, 0, 0, 0, 0, 0, 0, 0, 0, 0, 0, 0, 0, 0, 0, 0, 0, 0, 2] : List UInt8) ++ ([2, 0, 0, 0, 0, 0, 0, 0, 0, 0, 0, 0, 0, 0, 0, 0, 0, 0, 0, 0, 0, 0, 0, 0, 0, 0, 0, 0, 0, 0, 0, 2] : List UInt8)) 2 0 ([] : Lg) (1, (zB 32), 1, [List.replicate 32 (0 : UInt8)].flatten), leN 8 (UInt64.ofNat 3).toNat, List.replicate 128 (0 : UInt8)].flatten)).map vu8)] [] h_46 rfl rfl sizeOf23 At.h (by decide) rfl rfl rfl rfl rfl rfl (sC (s8 (anD_len (rfl : List.length (([1, 0, 0, 0, 0, 0, 0, 0, 0, 0, 0, 0, 0, 0, 0, 0, 0, 0, 0, 0, 0, 0, 0, 0, 0, 0, 0, 0, 0, 0, 0, 2] : List UInt8) ++ ([2, 0, 0, 0, 0, 0, 0, 0, 0, 0, 0, 0, 0, 0, 0, 0, 0, 0, 0, 0, 0, 0, 0, 0, 0, 0, 0, 0, 0, 0, 0, 2] : List UInt8)) = 64) h32_w_42)) sN) (fun w_47 h_48 => ?_)
 refine qA (vi 0) rfl rfl ?_
 refine WL.nil (thn_n (WP.seq (WP.reg ?_)))
 refine qM (pO b_12 0) rfl rfl (qV rfl (R.loadA [] [(32, (anD true (([1, 0, 0, 0, 0, 0, 0, 0, 0, 0, 0, 0, 0, 0, 0, 0, 0, 0, 0, 0, 0, 0, 0, 0, 0, 0, 0, 0, 0, 0, 0, 2] : List UInt8) ++ ([2, 0, 0, 0, 0, 0, 0, 0, 0, 0, 0, 0, 0, 0, 0, 0, 0, 0, 0, 0, 0, 0, 0, 0, 0, 0, 0, 0, 0, 0, 0, 2] : List UInt8)) 2 0 ([] : Lg) (1, (zB 32), 1, [List.replicate 32 (0 : UInt8)].flatten)).map vu8)] [] (cs := (anD true (([1, 0, 0, 0, 0, 0, 0, 0, 0, 0, 0, 0, 0, 0, 0, 0, 0, 0, 0, 0, 0, 0, 0, 0, 0, 0, 0, 0, 0, 0, 0, 2] : List UInt8) ++ ([2, 0, 0, 0, 0, 0, 0, 0, 0, 0, 0, 0, 0, 0, 0, 0, 0, 0, 0, 0, 0, 0, 0, 0, 0, 0, 0, 0, 0, 0, 0, 2] : List UInt8)) 2 0 ([] : Lg) (1, (zB 32), 1, [List.replicate 32 (0 : UInt8)].flatten)).map vu8) rfl isAgg23 sizeOf23 (h_48.ok _ M6) rfl rfl rfl rfl) (qV rfl (R.buildA (vs := []) (cs := (zB 128).map vu8) underlying29 sizeOf5 (zv typeInfo29 rfl) rfl rfl) ?_))
 refine WL.call Try.call38 rfl rfl (c_Data_big true b_12 b_13 (zB 32) lr a_14 2 c_15 (anU true (anU true 0 ([] : Lg) (1, (zB 32), 1, [List.replicate 32 (0 : UInt8)].flatten)) (anL true (([1, 0, 0, 0, 0, 0, 0, 0, 0, 0, 0, 0, 0, 0, 0, 0, 0, 0, 0, 0, 0, 0, 0, 0, 0, 0, 0, 0, 0, 0, 0, 2] : List UInt8) ++ ([2, 0, 0, 0, 0, 0, 0, 0, 0, 0, 0, 0, 0, 0, 0, 0, 0, 0, 0, 0, 0, 0, 0, 0, 0, 0, 0, 0, 0, 0, 0, 2] : List UInt8)) 2 0 ([] : Lg) (1, (zB 32), 1, [List.replicate 32 (0 : UInt8)].flatten)) (1, (zB 32), 2, [anD true (([1, 0, 0, 0, 0, 0, 0, 0, 0, 0, 0, 0, 0, 0, 0, 0, 0, 0, 0, 0, 0, 0, 0, 0, 0, 0, 0, 0, 0, 0, 0, 2] : List UInt8) ++ ([2, 0, 0, 0, 0, 0, 0, 0, 0, 0, 0, 0, 0, 0, 0, 0, 0, 0, 0, 0, 0, 0, 0, 0, 0, 0, 0, 0, 0, 0, 0, 2] : List UInt8)) 2 0 ([] : Lg) (1, (zB 32), 1, [List.replicate 32 (0 : UInt8)].flatten), leN 8 (UInt64.ofNat 3).toNat, List.replicate 128 (0 : UInt8)].flatten)) la_39 ((anL true (([1, 0, 0, 0, 0, 0, 0, 0, 0, 0, 0, 0, 0, 0, 0, 0, 0, 0, 0, 0, 0, 0, 0, 0, 0, 0, 0, 0, 0, 0, 0, 2] : List UInt8) ++ ([2, 0, 0, 0, 0, 0, 0, 0, 0, 0, 0, 0, 0, 0, 0, 0, 0, 0, 0, 0, 0, 0, 0, 0, 0, 0, 0, 0, 0, 0, 0, 2] : List UInt8)) 2 (anU true 0 ([] : Lg) (1, (zB 32), 1, [List.replicate 32 (0 : UInt8)].flatten)) (anL true (([1, 0, 0, 0, 0, 0, 0, 0, 0, 0, 0, 0, 0, 0, 0, 0, 0, 0, 0, 0, 0, 0, 0, 0, 0, 0, 0, 0, 0, 0, 0, 2] : List UInt8) ++ ([2, 0, 0, 0, 0, 0, 0, 0, 0, 0, 0, 0, 0, 0, 0, 0, 0, 0, 0, 0, 0, 0, 0, 0, 0, 0, 0, 0, 0, 0, 0, 2] : List UInt8)) 2 0 ([] : Lg) (1, (zB 32), 1, [List.replicate 32 (0 : UInt8)].flatten)) (1, (zB 32), 2, [anD true (([1, 0, 0, 0, 0, 0, 0, 0, 0, 0, 0, 0, 0, 0, 0, 0, 0, 0, 0, 0, 0, 0, 0, 0, 0, 0, 0, 0, 0, 0, 0, 2] : List UInt8) ++ ([2, 0, 0, 0, 0, 0, 0, 0, 0, 0, 0, 0, 0, 0, 0, 0, 0, 0, 0, 0, 0, 0, 0, 0, 0, 0, 0, 0, 0, 0, 0, 2] : List UInt8)) 2 0 ([] : Lg) (1, (zB 32), 1, [List.replicate 32 (0 : UInt8)].flatten), leN 8 (UInt64.ofNat 3).toNat, List.replicate 128 (0 : UInt8)].flatten)).length) lc_40 (anD true (([1, 0, 0, 0, 0, 0, 0, 0, 0, 0, 0, 0, 0, 0, 0, 0, 0, 0, 0, 0, 0, 0, 0, 0, 0, 0, 0, 0, 0, 0, 0, 2] : List UInt8) ++ ([2, 0, 0, 0, 0, 0, 0, 0, 0, 0, 0, 0, 0, 0, 0, 0, 0, 0, 0, 0, 0, 0, 0, 0, 0, 0, 0, 0, 0, 0, 0, 2] : List UInt8)) 2 0 ([] : Lg) (1, (zB 32), 1, [List.replicate 32 (0 : UInt8)].flatten)) (zB 128) (anD_len (rfl : List.length (([1, 0, 0, 0, 0, 0, 0, 0, 0, 0, 0, 0, 0, 0, 0, 0, 0, 0, 0, 0, 0, 0, 0, 0, 0, 0, 0, 0, 0, 0, 0, 2] : List UInt8) ++ ([2, 0, 0, 0, 0, 0, 0, 0, 0, 0, 0, 0, 0, 0, 0, 0, 0, 0, 0, 0, 0, 0, 0, 0, 0, 0, 0, 0, 0, 0, 0, 2] : List UInt8)) = 64) h32_w_27) lr 128 (by omega) _ (h_48.argR M1)) rfl ?_
 rintro _ w_50 ⟨rfl, hc_49⟩
 have h_51 := h_48.same hc_49
 refine qM (.tuple [(.agg ⟨(zB 32).map vu8⟩), (vi 2)].toArray) rfl rfl (qV rfl (R.extract rfl rfl) (qV rfl (R.extract rfl rfl) ?_))
 refine WL.alloc (segs := [(32, (zB 32).map vu8)]) h_51 (zv typeInfo23 rfl) rfl (sC (s8 lr) sN) rfl (fun b_52 w_53 h_54 => ?_)
 refine WL.storeA [] [(32, (zB 32).map vu8)] [(32, (zB 32).map vu8)] [] h_54 rfl rfl sizeOf23 At.h (by decide) rfl rfl rfl rfl rfl rfl (sC (s8 lr) sN) (fun w_55 h_56 => ?_)
 refine qA (vi 2) rfl rfl ?_
 refine WL.nil (thn_n (WP.seq (WP.reg ?_)))
 refine qM (pO b_12 0) rfl rfl ?_
 refine WL.call Try.call18 rfl rfl (c_Replay_0 true b_12 b_13 (zB 32) lr a_14 2 c_15 (anU true (anU true 0 ([] : Lg) (1, (zB 32), 1, [List.replicate 32 (0 : UInt8)].flatten)) (anL true (([1, 0, 0, 0, 0, 0, 0, 0, 0, 0, 0, 0, 0, 0, 0, 0, 0, 0, 0, 0, 0, 0, 0, 0, 0, 0, 0, 0, 0, 0, 0, 2] : List UInt8) ++ ([2, 0, 0, 0, 0, 0, 0, 0, 0, 0, 0, 0, 0, 0, 0, 0, 0, 0, 0, 0, 0, 0, 0, 0, 0, 0, 0, 0, 0, 0, 0, 2] : List UInt8)) 2 0 ([] : Lg) (1, (zB 32), 1, [List.replicate 32 (0 : UInt8)].flatten)) (1, (zB 32), 2, [anD true (([1, 0, 0, 0, 0, 0, 0, 0, 0, 0, 0, 0, 0, 0, 0, 0, 0, 0, 0, 0, 0, 0, 0, 0, 0, 0, 0, 0, 0, 0, 0, 2] : List UInt8) ++ ([2, 0, 0, 0, 0, 0, 0, 0, 0, 0, 0, 0, 0, 0, 0, 0, 0, 0, 0, 0, 0, 0, 0, 0, 0, 0, 0, 0, 0, 0, 0, 2] : List UInt8)) 2 0 ([] : Lg) (1, (zB 32), 1, [List.replicate 32 (0 : UInt8)].flatten), leN 8 (UInt64.ofNat 3).toNat, List.replicate 128 (0 : UInt8)].flatten)) la_39 ((anL true (([1, 0, 0, 0, 0, 0, 0, 0, 0, 0, 0, 0, 0, 0, 0, 0, 0, 0, 0, 0, 0, 0, 0, 0, 0, 0, 0, 0, 0, 0, 0, 2] : List UInt8) ++ ([2, 0, 0, 0, 0, 0, 0, 0, 0, 0, 0, 0, 0, 0, 0, 0, 0, 0, 0, 0, 0, 0, 0, 0, 0, 0, 0, 0, 0, 0, 0, 2] : List UInt8)) 2 (anU true 0 ([] : Lg) (1, (zB 32), 1, [List.replicate 32 (0 : UInt8)].flatten)) (anL true (([1, 0, 0, 0, 0, 0, 0, 0, 0, 0, 0, 0, 0, 0, 0, 0, 0, 0, 0, 0, 0, 0, 0, 0, 0, 0, 0, 0, 0, 0, 0, 2] : List UInt8) ++ ([2, 0, 0, 0, 0, 0, 0, 0, 0, 0, 0, 0, 0, 0, 0, 0, 0, 0, 0, 0, 0, 0, 0, 0, 0, 0, 0, 0, 0, 0, 0, 2] : List UInt8)) 2 0 ([] : Lg) (1, (zB 32), 1, [List.replicate 32 (0 : UInt8)].flatten)) (1, (zB 32), 2, [anD true (([1, 0, 0, 0, 0, 0, 0, 0, 0, 0, 0, 0, 0, 0, 0, 0, 0, 0, 0, 0, 0, 0, 0, 0, 0, 0, 0, 0, 0, 0, 0, 2] : List UInt8) ++ ([2, 0, 0, 0, 0, 0, 0, 0, 0, 0, 0, 0, 0, 0, 0, 0, 0, 0, 0, 0, 0, 0, 0, 0, 0, 0, 0, 0, 0, 0, 0, 2] : List UInt8)) 2 0 ([] : Lg) (1, (zB 32), 1, [List.replicate 32 (0 : UInt8)].flatten), leN 8 (UInt64.ofNat 3).toNat, List.replicate 128 (0 : UInt8)].flatten)).length) lc_40 _ (h_56.argR M2)) rfl ?_
 rintro _ w_58 ⟨rfl, hc_57⟩
 have h_59 := h_56.same hc_57
 refine qM (.tuple [(.agg ⟨(zB 32).map vu8⟩), (vi 2)].toArray) rfl rfl (qV rfl (R.extract rfl rfl) (qV rfl (R.extract rfl rfl) ?_))
 refine WL.alloc (segs := [(32, (zB 32).map vu8)]) h_59 (zv typeInfo23 rfl) rfl (sC (s8 lr) sN) rfl (fun b_60 w_61 h_62 => ?_)
 refine WL.storeA [] [(32, (zB 32).map vu8)] [(32, (zB 32).map vu8)] [] h_62 rfl rfl sizeOf23 At.h (by decide) rfl rfl rfl rfl rfl rfl (sC (s8 lr) sN) (fun w_63 h_64 => ?_)
 refine qA (vi 2) rfl rfl ?_
 refine WL.nil (thn_n (WP.seq (WP.reg ?_)))
 refine qM (pO b_12 0) rfl rfl (qV rfl (R.buildS (pl := [(0, 1), (1, 32), (33, 1), (34, 128), (162, 10)]) (zs := [(1, [(vi 0)]), (32, (zB 32).map vu8), (1, [(vi 0)]), (128, (zB 128).map vu8), (1, [(vu64 0)]), (8, (zW 8).map vu64), (1, [(.bool false)])]) (vs := [(0, (vi 2))]) (out := [(1, [(vi 2)]), (32, (zB 32).map vu8), (1, [(vi 0)]), (128, (zB 128).map vu8), (1, [(vu64 0)]), (8, (zW 8).map vu64), (1, [(.bool false)])]) underlying86 (zv typeInfo86 rfl) rfl (sC sV (sC (s8 lr) (sC sV (sC (s8 lr) (sC sV (sC (SOk.u64 lr) (sC sV sN))))))) (pl86 _ underlying86) rfl (FillR.cons [] [(1, [(vi 0)])] [(1, [(vi 2)])] [(32, (zB 32).map vu8), (1, [(vi 0)]), (128, (zB 128).map vu8), (1, [(vu64 0)]), (8, (zW 8).map vu64), (1, [(.bool false)])] rfl rfl rfl rfl (sC sV sN) rfl rfl rfl FillR.nil) rfl) ?_)
 refine WL.buildSl (vs := [(0, (.agg ⟨flat [(1, [(vi 2)]), (32, (zB 32).map vu8), (1, [(vi 0)]), (128, (zB 128).map vu8), (1, [(vu64 0)]), (8, (zW 8).map vu64), (1, [(.bool false)])]⟩))]) (cs := flat [(1, [(vi 2)]), (32, (zB 32).map vu8), (1, [(vi 0)]), (128, (zB 128).map vu8), (1, [(vu64 0)]), (8, (zW 8).map vu64), (1, [(.bool false)])]) h_64 underlying45 sizeOf86 (zv typeInfo86 rfl) rfl rfl (fill_1 (zc := flat [(1, [(vi 0)]), (32, (zB 32).map vu8), (1, [(vi 0)]), (128, (zB 128).map vu8), (1, [(vu64 0)]), (8, (zW 8).map vu64), (1, [(.bool false)])]) (by kernel_rfl) (show SsOk [(172, flat [(1, [(vi 0)]), (32, (zB 32).map vu8), (1, [(vi 0)]), (128, (zB 128).map vu8), (1, [(vu64 0)]), (8, (zW 8).map vu64), (1, [(.bool false)])])] from SsOk.cons ⟨((sC sV (sC (s8 lr) (sC sV (sC (s8 lr) (sC sV (sC (SOk.u64 lr) (sC sV sN)))))))).len, ((sC sV (sC (s8 lr) (sC sV (sC (s8 lr) (sC sV (sC (SOk.u64 lr) (sC sV sN)))))))).one⟩ sN) (show SsOk [(172, flat [(1, [(vi 2)]), (32, (zB 32).map vu8), (1, [(vi 0)]), (128, (zB 128).map vu8), (1, [(vu64 0)]), (8, (zW 8).map vu64), (1, [(.bool false)])])] from SsOk.cons ⟨((sC sV (sC (s8 lr) (sC sV (sC (s8 lr) (sC sV (sC (SOk.u64 lr) (sC sV sN)))))))).len, ((sC sV (sC (s8 lr) (sC sV (sC (s8 lr) (sC sV (sC (SOk.u64 lr) (sC sV sN)))))))).one⟩ sN)) ((show SsOk [(172, flat [(1, [(vi 2)]), (32, (zB 32).map vu8), (1, [(vi 0)]), (128, (zB 128).map vu8), (1, [(vu64 0)]), (8, (zW 8).map vu64), (1, [(.bool false)])])] from SsOk.cons ⟨((sC sV (sC (s8 lr) (sC sV (sC (s8 lr) (sC sV (sC (SOk.u64 lr) (sC sV sN)))))))).len, ((sC sV (sC (s8 lr) (sC sV (sC (s8 lr) (sC sV (sC (SOk.u64 lr) (sC sV sN)))))))).one⟩ sN)).head.len ((show SsOk [(172, flat [(1, [(vi 2)]), (32, (zB 32).map vu8), (1, [(vi 0)]), (128, (zB 128).map vu8), (1, [(vu64 0)]), (8, (zW 8).map vu64), (1, [(.bool false)])])] from SsOk.cons ⟨((sC sV (sC (s8 lr) (sC sV (sC (s8 lr) (sC sV (sC (SOk.u64 lr) (sC sV sN)))))))).len, ((sC sV (sC (s8 lr) (sC sV (sC (s8 lr) (sC sV (sC (SOk.u64 lr) (sC sV sN)))))))).one⟩ sN)).head.one rfl rfl (fun b_66 w_67 h_68 => ?_)
 have h_69 := HP_reseg (segs' := [(1, [(vi 2)]), (32, (List.replicate 32 (0 : UInt8)).map vu8), (1, [(vi 0)]), (128, (List.replicate 128 (0 : UInt8)).map vu8), (1, [(vu64 0)]), (8, (List.replicate 8 (0 : UInt64)).map vu64), (1, [(.bool false)])]) h_68 .h (by decide) rfl (sC sV (sC (s8 lr) (sC sV (sC (s8 lr) (sC sV (sC (SOk.u64 lr) (sC sV sN)))))))
 refine WL.call Try.call18 rfl rfl (c_Replay_2g true b_12 b_13 (zB 32) lr a_14 2 c_15 (anU true (anU true 0 ([] : Lg) (1, (zB 32), 1, [List.replicate 32 (0 : UInt8)].flatten)) (anL true (([1, 0, 0, 0, 0, 0, 0, 0, 0, 0, 0, 0, 0, 0, 0, 0, 0, 0, 0, 0, 0, 0, 0, 0, 0, 0, 0, 0, 0, 0, 0, 2] : List UInt8) ++ ([2, 0, 0, 0, 0, 0, 0, 0, 0, 0, 0, 0, 0, 0, 0, 0, 0, 0, 0, 0, 0, 0, 0, 0, 0, 0, 0, 0, 0, 0, 0, 2] : List UInt8)) 2 0 ([] : Lg) (1, (zB 32), 1, [List.replicate 32 (0 : UInt8)].flatten)) (1, (zB 32), 2, [anD true (([1, 0, 0, 0, 0, 0, 0, 0, 0, 0, 0, 0, 0, 0, 0, 0, 0, 0, 0, 0, 0, 0, 0, 0, 0, 0, 0, 0, 0, 0, 0, 2] : List UInt8) ++ ([2, 0, 0, 0, 0, 0, 0, 0, 0, 0, 0, 0, 0, 0, 0, 0, 0, 0, 0, 0, 0, 0, 0, 0, 0, 0, 0, 0, 0, 0, 0, 2] : List UInt8)) 2 0 ([] : Lg) (1, (zB 32), 1, [List.replicate 32 (0 : UInt8)].flatten), leN 8 (UInt64.ofNat 3).toNat, List.replicate 128 (0 : UInt8)].flatten)) la_39 ((anL true (([1, 0, 0, 0, 0, 0, 0, 0, 0, 0, 0, 0, 0, 0, 0, 0, 0, 0, 0, 0, 0, 0, 0, 0, 0, 0, 0, 0, 0, 0, 0, 2] : List UInt8) ++ ([2, 0, 0, 0, 0, 0, 0, 0, 0, 0, 0, 0, 0, 0, 0, 0, 0, 0, 0, 0, 0, 0, 0, 0, 0, 0, 0, 0, 0, 0, 0, 2] : List UInt8)) 2 (anU true 0 ([] : Lg) (1, (zB 32), 1, [List.replicate 32 (0 : UInt8)].flatten)) (anL true (([1, 0, 0, 0, 0, 0, 0, 0, 0, 0, 0, 0, 0, 0, 0, 0, 0, 0, 0, 0, 0, 0, 0, 0, 0, 0, 0, 0, 0, 0, 0, 2] : List UInt8) ++ ([2, 0, 0, 0, 0, 0, 0, 0, 0, 0, 0, 0, 0, 0, 0, 0, 0, 0, 0, 0, 0, 0, 0, 0, 0, 0, 0, 0, 0, 0, 0, 2] : List UInt8)) 2 0 ([] : Lg) (1, (zB 32), 1, [List.replicate 32 (0 : UInt8)].flatten)) (1, (zB 32), 2, [anD true (([1, 0, 0, 0, 0, 0, 0, 0, 0, 0, 0, 0, 0, 0, 0, 0, 0, 0, 0, 0, 0, 0, 0, 0, 0, 0, 0, 0, 0, 0, 0, 2] : List UInt8) ++ ([2, 0, 0, 0, 0, 0, 0, 0, 0, 0, 0, 0, 0, 0, 0, 0, 0, 0, 0, 0, 0, 0, 0, 0, 0, 0, 0, 0, 0, 0, 0, 2] : List UInt8)) 2 0 ([] : Lg) (1, (zB 32), 1, [List.replicate 32 (0 : UInt8)].flatten), leN 8 (UInt64.ofNat 3).toNat, List.replicate 128 (0 : UInt8)].flatten)).length) lc_40 b_66 _ (h_69.argR M4) (h_69.argR M0)) rfl ?_
 rintro _ w_71 ⟨rfl, hc_70⟩
 have h_72 := h_69.same hc_70
 refine qM (.tuple [(.agg ⟨(zB 32).map vu8⟩), (vi 2)].toArray) rfl rfl (qV rfl (R.extract rfl rfl) (qV rfl (R.extract rfl rfl) ?_))
 refine WL.alloc (segs := [(32, (zB 32).map vu8)]) h_72 (zv typeInfo23 rfl) rfl (sC (s8 lr) sN) rfl (fun b_73 w_74 h_75 => ?_)
 refine WL.storeA [] [(32, (zB 32).map vu8)] [(32, (zB 32).map vu8)] [] h_75 rfl rfl sizeOf23 At.h (by decide) rfl rfl rfl rfl rfl rfl (sC (s8 lr) sN) (fun w_76 h_77 => ?_)
 refine qA (vi 2) rfl rfl ?_
 refine WL.nil (thn_n (WP.seq ?_))
 refine WP.drawT (SL w.heap.size [.blk b_73 .nw 23 [(32, (zB 32).map vu8)], .blk b_66 .nw 86 [(1, [(vi 2)]), (32, (zB 32).map vu8), (1, [(vi 0)]), (128, (zB 128).map vu8), (1, [(vu64 0)]), (8, (zW 8).map vu64), (1, [(.bool false)])], .blk b_60 .nw 23 [(32, (zB 32).map vu8)], .blk b_52 .nw 23 [(32, (zB 32).map vu8)], .blk b_44 .nw 23 [(32, (anD true (([1, 0, 0, 0, 0, 0, 0, 0, 0, 0, 0, 0, 0, 0, 0, 0, 0, 0, 0, 0, 0, 0, 0, 0, 0, 0, 0, 0, 0, 0, 0, 2] : List UInt8) ++ ([2, 0, 0, 0, 0, 0, 0, 0, 0, 0, 0, 0, 0, 0, 0, 0, 0, 0, 0, 0, 0, 0, 0, 0, 0, 0, 0, 0, 0, 0, 0, 2] : List UInt8)) 2 (anU true 0 ([] : Lg) (1, (zB 32), 1, [List.replicate 32 (0 : UInt8)].flatten)) (anL true (([1, 0, 0, 0, 0, 0, 0, 0, 0, 0, 0, 0, 0, 0, 0, 0, 0, 0, 0, 0, 0, 0, 0, 0, 0, 0, 0, 0, 0, 0, 0, 2] : List UInt8) ++ ([2, 0, 0, 0, 0, 0, 0, 0, 0, 0, 0, 0, 0, 0, 0, 0, 0, 0, 0, 0, 0, 0, 0, 0, 0, 0, 0, 0, 0, 0, 0, 2] : List UInt8)) 2 0 ([] : Lg) (1, (zB 32), 1, [List.replicate 32 (0 : UInt8)].flatten)) (1, (zB 32), 2, [anD true (([1, 0, 0, 0, 0, 0, 0, 0, 0, 0, 0, 0, 0, 0, 0, 0, 0, 0, 0, 0, 0, 0, 0, 0, 0, 0, 0, 0, 0, 0, 0, 2] : List UInt8) ++ ([2, 0, 0, 0, 0, 0, 0, 0, 0, 0, 0, 0, 0, 0, 0, 0, 0, 0, 0, 0, 0, 0, 0, 0, 0, 0, 0, 0, 0, 0, 0, 2] : List UInt8)) 2 0 ([] : Lg) (1, (zB 32), 1, [List.replicate 32 (0 : UInt8)].flatten), leN 8 (UInt64.ofNat 3).toNat, List.replicate 128 (0 : UInt8)].flatten)).map vu8)], .blk b_12 .nw 90 [(1, [(.bool true)]), (32, (zB 32).map vu8), (1, [(.slice a_14 2 c_15)]), (1, [(vn (anU true (anU true 0 ([] : Lg) (1, (zB 32), 1, [List.replicate 32 (0 : UInt8)].flatten)) (anL true (([1, 0, 0, 0, 0, 0, 0, 0, 0, 0, 0, 0, 0, 0, 0, 0, 0, 0, 0, 0, 0, 0, 0, 0, 0, 0, 0, 0, 0, 0, 0, 2] : List UInt8) ++ ([2, 0, 0, 0, 0, 0, 0, 0, 0, 0, 0, 0, 0, 0, 0, 0, 0, 0, 0, 0, 0, 0, 0, 0, 0, 0, 0, 0, 0, 0, 0, 2] : List UInt8)) 2 0 ([] : Lg) (1, (zB 32), 1, [List.replicate 32 (0 : UInt8)].flatten)) (1, (zB 32), 2, [anD true (([1, 0, 0, 0, 0, 0, 0, 0, 0, 0, 0, 0, 0, 0, 0, 0, 0, 0, 0, 0, 0, 0, 0, 0, 0, 0, 0, 0, 0, 0, 0, 2] : List UInt8) ++ ([2, 0, 0, 0, 0, 0, 0, 0, 0, 0, 0, 0, 0, 0, 0, 0, 0, 0, 0, 0, 0, 0, 0, 0, 0, 0, 0, 0, 0, 0, 0, 2] : List UInt8)) 2 0 ([] : Lg) (1, (zB 32), 1, [List.replicate 32 (0 : UInt8)].flatten), leN 8 (UInt64.ofNat 3).toNat, List.replicate 128 (0 : UInt8)].flatten)))]), (1, [(.map (some b_13))]), (1, [(.slice la_39 ((anL true (([1, 0, 0, 0, 0, 0, 0, 0, 0, 0, 0, 0, 0, 0, 0, 0, 0, 0, 0, 0, 0, 0, 0, 0, 0, 0, 0, 0, 0, 0, 0, 2] : List UInt8) ++ ([2, 0, 0, 0, 0, 0, 0, 0, 0, 0, 0, 0, 0, 0, 0, 0, 0, 0, 0, 0, 0, 0, 0, 0, 0, 0, 0, 0, 0, 0, 0, 2] : List UInt8)) 2 (anU true 0 ([] : Lg) (1, (zB 32), 1, [List.replicate 32 (0 : UInt8)].flatten)) (anL true (([1, 0, 0, 0, 0, 0, 0, 0, 0, 0, 0, 0, 0, 0, 0, 0, 0, 0, 0, 0, 0, 0, 0, 0, 0, 0, 0, 0, 0, 0, 0, 2] : List UInt8) ++ ([2, 0, 0, 0, 0, 0, 0, 0, 0, 0, 0, 0, 0, 0, 0, 0, 0, 0, 0, 0, 0, 0, 0, 0, 0, 0, 0, 0, 0, 0, 0, 2] : List UInt8)) 2 0 ([] : Lg) (1, (zB 32), 1, [List.replicate 32 (0 : UInt8)].flatten)) (1, (zB 32), 2, [anD true (([1, 0, 0, 0, 0, 0, 0, 0, 0, 0, 0, 0, 0, 0, 0, 0, 0, 0, 0, 0, 0, 0, 0, 0, 0, 0, 0, 0, 0, 0, 0, 2] : List UInt8) ++ ([2, 0, 0, 0, 0, 0, 0, 0, 0, 0, 0, 0, 0, 0, 0, 0, 0, 0, 0, 0, 0, 0, 0, 0, 0, 0, 0, 0, 0, 0, 0, 2] : List UInt8)) 2 0 ([] : Lg) (1, (zB 32), 1, [List.replicate 32 (0 : UInt8)].flatten), leN 8 (UInt64.ofNat 3).toNat, List.replicate 128 (0 : UInt8)].flatten)).length) lc_40)])], .row la_39 ((anL true (([1, 0, 0, 0, 0, 0, 0, 0, 0, 0, 0, 0, 0, 0, 0, 0, 0, 0, 0, 0, 0, 0, 0, 0, 0, 0, 0, 0, 0, 0, 0, 2] : List UInt8) ++ ([2, 0, 0, 0, 0, 0, 0, 0, 0, 0, 0, 0, 0, 0, 0, 0, 0, 0, 0, 0, 0, 0, 0, 0, 0, 0, 0, 0, 0, 0, 0, 2] : List UInt8)) 2 (anU true 0 ([] : Lg) (1, (zB 32), 1, [List.replicate 32 (0 : UInt8)].flatten)) (anL true (([1, 0, 0, 0, 0, 0, 0, 0, 0, 0, 0, 0, 0, 0, 0, 0, 0, 0, 0, 0, 0, 0, 0, 0, 0, 0, 0, 0, 0, 0, 0, 2] : List UInt8) ++ ([2, 0, 0, 0, 0, 0, 0, 0, 0, 0, 0, 0, 0, 0, 0, 0, 0, 0, 0, 0, 0, 0, 0, 0, 0, 0, 0, 0, 0, 0, 0, 2] : List UInt8)) 2 0 ([] : Lg) (1, (zB 32), 1, [List.replicate 32 (0 : UInt8)].flatten)) (1, (zB 32), 2, [anD true (([1, 0, 0, 0, 0, 0, 0, 0, 0, 0, 0, 0, 0, 0, 0, 0, 0, 0, 0, 0, 0, 0, 0, 0, 0, 0, 0, 0, 0, 0, 0, 2] : List UInt8) ++ ([2, 0, 0, 0, 0, 0, 0, 0, 0, 0, 0, 0, 0, 0, 0, 0, 0, 0, 0, 0, 0, 0, 0, 0, 0, 0, 0, 0, 0, 0, 0, 2] : List UInt8)) 2 0 ([] : Lg) (1, (zB 32), 1, [List.replicate 32 (0 : UInt8)].flatten), leN 8 (UInt64.ofNat 3).toNat, List.replicate 128 (0 : UInt8)].flatten)).length) lc_40 64 67 lx_41, .obj b_13 .nw (.map (mArr (anL true (([1, 0, 0, 0, 0, 0, 0, 0, 0, 0, 0, 0, 0, 0, 0, 0, 0, 0, 0, 0, 0, 0, 0, 0, 0, 0, 0, 0, 0, 0, 0, 2] : List UInt8) ++ ([2, 0, 0, 0, 0, 0, 0, 0, 0, 0, 0, 0, 0, 0, 0, 0, 0, 0, 0, 0, 0, 0, 0, 0, 0, 0, 0, 0, 0, 0, 0, 2] : List UInt8)) 2 (anU true 0 ([] : Lg) (1, (zB 32), 1, [List.replicate 32 (0 : UInt8)].flatten)) (anL true (([1, 0, 0, 0, 0, 0, 0, 0, 0, 0, 0, 0, 0, 0, 0, 0, 0, 0, 0, 0, 0, 0, 0, 0, 0, 0, 0, 0, 0, 0, 0, 2] : List UInt8) ++ ([2, 0, 0, 0, 0, 0, 0, 0, 0, 0, 0, 0, 0, 0, 0, 0, 0, 0, 0, 0, 0, 0, 0, 0, 0, 0, 0, 0, 0, 0, 0, 2] : List UInt8)) 2 0 ([] : Lg) (1, (zB 32), 1, [List.replicate 32 (0 : UInt8)].flatten)) (1, (zB 32), 2, [anD true (([1, 0, 0, 0, 0, 0, 0, 0, 0, 0, 0, 0, 0, 0, 0, 0, 0, 0, 0, 0, 0, 0, 0, 0, 0, 0, 0, 0, 0, 0, 0, 2] : List UInt8) ++ ([2, 0, 0, 0, 0, 0, 0, 0, 0, 0, 0, 0, 0, 0, 0, 0, 0, 0, 0, 0, 0, 0, 0, 0, 0, 0, 0, 0, 0, 0, 0, 2] : List UInt8)) 2 0 ([] : Lg) (1, (zB 32), 1, [List.replicate 32 (0 : UInt8)].flatten), leN 8 (UInt64.ofNat 3).toNat, List.replicate 128 (0 : UInt8)].flatten))) ((anL true (([1, 0, 0, 0, 0, 0, 0, 0, 0, 0, 0, 0, 0, 0, 0, 0, 0, 0, 0, 0, 0, 0, 0, 0, 0, 0, 0, 0, 0, 0, 0, 2] : List UInt8) ++ ([2, 0, 0, 0, 0, 0, 0, 0, 0, 0, 0, 0, 0, 0, 0, 0, 0, 0, 0, 0, 0, 0, 0, 0, 0, 0, 0, 0, 0, 0, 0, 2] : List UInt8)) 2 (anU true 0 ([] : Lg) (1, (zB 32), 1, [List.replicate 32 (0 : UInt8)].flatten)) (anL true (([1, 0, 0, 0, 0, 0, 0, 0, 0, 0, 0, 0, 0, 0, 0, 0, 0, 0, 0, 0, 0, 0, 0, 0, 0, 0, 0, 0, 0, 0, 0, 2] : List UInt8) ++ ([2, 0, 0, 0, 0, 0, 0, 0, 0, 0, 0, 0, 0, 0, 0, 0, 0, 0, 0, 0, 0, 0, 0, 0, 0, 0, 0, 0, 0, 0, 0, 2] : List UInt8)) 2 0 ([] : Lg) (1, (zB 32), 1, [List.replicate 32 (0 : UInt8)].flatten)) (1, (zB 32), 2, [anD true (([1, 0, 0, 0, 0, 0, 0, 0, 0, 0, 0, 0, 0, 0, 0, 0, 0, 0, 0, 0, 0, 0, 0, 0, 0, 0, 0, 0, 0, 0, 0, 2] : List UInt8) ++ ([2, 0, 0, 0, 0, 0, 0, 0, 0, 0, 0, 0, 0, 0, 0, 0, 0, 0, 0, 0, 0, 0, 0, 0, 0, 0, 0, 0, 0, 0, 0, 2] : List UInt8)) 2 0 ([] : Lg) (1, (zB 32), 1, [List.replicate 32 (0 : UInt8)].flatten), leN 8 (UInt64.ofNat 3).toNat, List.replicate 128 (0 : UInt8)].flatten)).length)), .pin (sblks lx_41) (fun w => Lgs w lx_41 (anL true (([1, 0, 0, 0, 0, 0, 0, 0, 0, 0, 0, 0, 0, 0, 0, 0, 0, 0, 0, 0, 0, 0, 0, 0, 0, 0, 0, 0, 0, 0, 0, 2] : List UInt8) ++ ([2, 0, 0, 0, 0, 0, 0, 0, 0, 0, 0, 0, 0, 0, 0, 0, 0, 0, 0, 0, 0, 0, 0, 0, 0, 0, 0, 0, 0, 0, 0, 2] : List UInt8)) 2 (anU true 0 ([] : Lg) (1, (zB 32), 1, [List.replicate 32 (0 : UInt8)].flatten)) (anL true (([1, 0, 0, 0, 0, 0, 0, 0, 0, 0, 0, 0, 0, 0, 0, 0, 0, 0, 0, 0, 0, 0, 0, 0, 0, 0, 0, 0, 0, 0, 0, 2] : List UInt8) ++ ([2, 0, 0, 0, 0, 0, 0, 0, 0, 0, 0, 0, 0, 0, 0, 0, 0, 0, 0, 0, 0, 0, 0, 0, 0, 0, 0, 0, 0, 0, 0, 2] : List UInt8)) 2 0 ([] : Lg) (1, (zB 32), 1, [List.replicate 32 (0 : UInt8)].flatten)) (1, (zB 32), 2, [anD true (([1, 0, 0, 0, 0, 0, 0, 0, 0, 0, 0, 0, 0, 0, 0, 0, 0, 0, 0, 0, 0, 0, 0, 0, 0, 0, 0, 0, 0, 0, 0, 2] : List UInt8) ++ ([2, 0, 0, 0, 0, 0, 0, 0, 0, 0, 0, 0, 0, 0, 0, 0, 0, 0, 0, 0, 0, 0, 0, 0, 0, 0, 0, 0, 0, 0, 0, 2] : List UInt8)) 2 0 ([] : Lg) (1, (zB 32), 1, [List.replicate 32 (0 : UInt8)].flatten), leN 8 (UInt64.ofNat 3).toNat, List.replicate 128 (0 : UInt8)].flatten))), .view a_14 ((([1, 0, 0, 0, 0, 0, 0, 0, 0, 0, 0, 0, 0, 0, 0, 0, 0, 0, 0, 0, 0, 0, 0, 0, 0, 0, 0, 0, 0, 0, 0, 2] : List UInt8) ++ ([2, 0, 0, 0, 0, 0, 0, 0, 0, 0, 0, 0, 0, 0, 0, 0, 0, 0, 0, 0, 0, 0, 0, 0, 0, 0, 0, 0, 0, 0, 0, 2] : List UInt8)).map vu8), .blk b_29 .nw 23 [(32, (anD true (([1, 0, 0, 0, 0, 0, 0, 0, 0, 0, 0, 0, 0, 0, 0, 0, 0, 0, 0, 0, 0, 0, 0, 0, 0, 0, 0, 0, 0, 0, 0, 2] : List UInt8) ++ ([2, 0, 0, 0, 0, 0, 0, 0, 0, 0, 0, 0, 0, 0, 0, 0, 0, 0, 0, 0, 0, 0, 0, 0, 0, 0, 0, 0, 0, 0, 0, 2] : List UInt8)) 2 0 ([] : Lg) (1, (zB 32), 1, [List.replicate 32 (0 : UInt8)].flatten)).map vu8)], .view (some ⟨b_7, 0, none⟩) ((([1, 0, 0, 0, 0, 0, 0, 0, 0, 0, 0, 0, 0, 0, 0, 0, 0, 0, 0, 0, 0, 0, 0, 0, 0, 0, 0, 0, 0, 0, 0, 2] : List UInt8) ++ ([2, 0, 0, 0, 0, 0, 0, 0, 0, 0, 0, 0, 0, 0, 0, 0, 0, 0, 0, 0, 0, 0, 0, 0, 0, 0, 0, 0, 0, 0, 0, 2] : List UInt8)).map vu8)]) (.q 0 (.s 1 (.q 2 (.q 3 (.q 4 (.s 5 (.q 6 (.q 7 (.q 8 (.q 9 (.q 11 (.s 10 (.s 12 (.q 13 (.q 14 (.q 15 (.q 16 (.q 17 (.s 18 (.q 19 (.q 20 (.q 21 (.q 22 (.s 23 (.q 24 (.q 25 (.q 26 (.q 27 (.s 28 (.q 29 (.q 30 (.q 31 .nil)))))))))))))))))))))))))))))))) (by kernel_rfl) (by kernel_rfl) rfl (by kernel_rfl) (fun w_78 hc_80 => (SL.cons ((h_77.same hc_80).ok _ M0) (SL.cons ((h_77.same hc_80).ok _ M1) (SL.cons ((h_77.same hc_80).ok _ M2) (SL.cons ((h_77.same hc_80).ok _ M3) (SL.cons ((h_77.same hc_80).ok _ M4) (SL.cons ((h_77.same hc_80).ok _ M5) (SL.cons ((h_77.same hc_80).ok _ M6) (SL.cons ((h_77.same hc_80).ok _ M7) (SL.cons ((h_77.same hc_80).ok _ M8) (SL.cons ((h_77.same hc_80).ok _ M9) (SL.cons ((h_77.same hc_80).ok _ M10) (SL.cons ((h_77.same hc_80).ok _ M11) (SL.nil _ _)))))))))))))) (fun w_78 hc_80 => ?_)
 have h_79 := h_77.same hc_80
 refine qT rfl rfl (fun wq hS => R.loadA [] [(32, (anD true (([1, 0, 0, 0, 0, 0, 0, 0, 0, 0, 0, 0, 0, 0, 0, 0, 0, 0, 0, 0, 0, 0, 0, 0, 0, 0, 0, 0, 0, 0, 0, 2] : List UInt8) ++ ([2, 0, 0, 0, 0, 0, 0, 0, 0, 0, 0, 0, 0, 0, 0, 0, 0, 0, 0, 0, 0, 0, 0, 0, 0, 0, 0, 0, 0, 0, 0, 2] : List UInt8)) 2 0 ([] : Lg) (1, (zB 32), 1, [List.replicate 32 (0 : UInt8)].flatten)).map vu8)] [] (cs := (anD true (([1, 0, 0, 0, 0, 0, 0, 0, 0, 0, 0, 0, 0, 0, 0, 0, 0, 0, 0, 0, 0, 0, 0, 0, 0, 0, 0, 0, 0, 0, 0, 2] : List UInt8) ++ ([2, 0, 0, 0, 0, 0, 0, 0, 0, 0, 0, 0, 0, 0, 0, 0, 0, 0, 0, 0, 0, 0, 0, 0, 0, 0, 0, 0, 0, 0, 0, 2] : List UInt8)) 2 0 ([] : Lg) (1, (zB 32), 1, [List.replicate 32 (0 : UInt8)].flatten)).map vu8) rfl isAgg23 sizeOf23 (hS _ M10) rfl rfl rfl rfl) ?_
 refine WT.s (oN rfl ?_)
 refine WL.call Try.call36 rfl rfl (c_dr1  _ ) rfl ?_
 rintro _ w_82 ⟨rfl, hc_81⟩
 have h_83 := h_79.same hc_81
 refine WL.nil ?_
 refine ⟨(N0_1_2_3_4_5_6_7_8_9_10_11 h_83.ok), ?_⟩
 refine qT rfl rfl (fun wq hS => R.eqA (xs := (anD true (([1, 0, 0, 0, 0, 0, 0, 0, 0, 0, 0, 0, 0, 0, 0, 0, 0, 0, 0, 0, 0, 0, 0, 0, 0, 0, 0, 0, 0, 0, 0, 2] : List UInt8) ++ ([2, 0, 0, 0, 0, 0, 0, 0, 0, 0, 0, 0, 0, 0, 0, 0, 0, 0, 0, 0, 0, 0, 0, 0, 0, 0, 0, 0, 0, 0, 0, 2] : List UInt8)) 2 0 ([] : Lg) (1, (zB 32), 1, [List.replicate 32 (0 : UInt8)].flatten)).map vu8) (ys := ([1, 0, 0, 0, 0, 0, 0, 0, 0, 0, 0, 0, 0, 0, 0, 0, 0, 0, 0, 0, 0, 0, 0, 0, 0, 0, 0, 0, 0, 0, 0, 2] : List UInt8).map vu8) (r := true) rfl rfl eqGuardType23 kt23 (by decide) ag23 (Typ.u8s underlying23 ce23 underlying5 ce5 (anD_len (rfl : List.length (([1, 0, 0, 0, 0, 0, 0, 0, 0, 0, 0, 0, 0, 0, 0, 0, 0, 0, 0, 0, 0, 0, 0, 0, 0, 0, 0, 0, 0, 0, 0, 2] : List UInt8) ++ ([2, 0, 0, 0, 0, 0, 0, 0, 0, 0, 0, 0, 0, 0, 0, 0, 0, 0, 0, 0, 0, 0, 0, 0, 0, 0, 0, 0, 0, 0, 0, 2] : List UInt8)) = 64) h32_w_27)) (Typ.u8s underlying23 ce23 underlying5 ce5 (rfl : List.length ([1, 0, 0, 0, 0, 0, 0, 0, 0, 0, 0, 0, 0, 0, 0, 0, 0, 0, 0, 0, 0, 0, 0, 0, 0, 0, 0, 0, 0, 0, 0, 2] : List UInt8) = 32)) (eqT (congrArg (List.map vu8) (by decide +kernel)))) ?_
 refine qT rfl rfl (fun wq hS => R.move (v := (.bool true)) rfl) ?_
 refine WT.q rfl (Wn.yes rfl rfl rfl) rfl rfl (fun wq hS => R.loadA [] [(32, (anD true (([1, 0, 0, 0, 0, 0, 0, 0, 0, 0, 0, 0, 0, 0, 0, 0, 0, 0, 0, 0, 0, 0, 0, 0, 0, 0, 0, 0, 0, 0, 0, 2] : List UInt8) ++ ([2, 0, 0, 0, 0, 0, 0, 0, 0, 0, 0, 0, 0, 0, 0, 0, 0, 0, 0, 0, 0, 0, 0, 0, 0, 0, 0, 0, 0, 0, 0, 2] : List UInt8)) 2 (anU true 0 ([] : Lg) (1, (zB 32), 1, [List.replicate 32 (0 : UInt8)].flatten)) (anL true (([1, 0, 0, 0, 0, 0, 0, 0, 0, 0, 0, 0, 0, 0, 0, 0, 0, 0, 0, 0, 0, 0, 0, 0, 0, 0, 0, 0, 0, 0, 0, 2] : List UInt8) ++ ([2, 0, 0, 0, 0, 0, 0, 0, 0, 0, 0, 0, 0, 0, 0, 0, 0, 0, 0, 0, 0, 0, 0, 0, 0, 0, 0, 0, 0, 0, 0, 2] : List UInt8)) 2 0 ([] : Lg) (1, (zB 32), 1, [List.replicate 32 (0 : UInt8)].flatten)) (1, (zB 32), 2, [anD true (([1, 0, 0, 0, 0, 0, 0, 0, 0, 0, 0, 0, 0, 0, 0, 0, 0, 0, 0, 0, 0, 0, 0, 0, 0, 0, 0, 0, 0, 0, 0, 2] : List UInt8) ++ ([2, 0, 0, 0, 0, 0, 0, 0, 0, 0, 0, 0, 0, 0, 0, 0, 0, 0, 0, 0, 0, 0, 0, 0, 0, 0, 0, 0, 0, 0, 0, 2] : List UInt8)) 2 0 ([] : Lg) (1, (zB 32), 1, [List.replicate 32 (0 : UInt8)].flatten), leN 8 (UInt64.ofNat 3).toNat, List.replicate 128 (0 : UInt8)].flatten)).map vu8)] [] (cs := (anD true (([1, 0, 0, 0, 0, 0, 0, 0, 0, 0, 0, 0, 0, 0, 0, 0, 0, 0, 0, 0, 0, 0, 0, 0, 0, 0, 0, 0, 0, 0, 0, 2] : List UInt8) ++ ([2, 0, 0, 0, 0, 0, 0, 0, 0, 0, 0, 0, 0, 0, 0, 0, 0, 0, 0, 0, 0, 0, 0, 0, 0, 0, 0, 0, 0, 0, 0, 2] : List UInt8)) 2 (anU true 0 ([] : Lg) (1, (zB 32), 1, [List.replicate 32 (0 : UInt8)].flatten)) (anL true (([1, 0, 0, 0, 0, 0, 0, 0, 0, 0, 0, 0, 0, 0, 0, 0, 0, 0, 0, 0, 0, 0, 0, 0, 0, 0, 0, 0, 0, 0, 0, 2] : List UInt8) ++ ([2, 0, 0, 0, 0, 0, 0, 0, 0, 0, 0, 0, 0, 0, 0, 0, 0, 0, 0, 0, 0, 0, 0, 0, 0, 0, 0, 0, 0, 0, 0, 2] : List UInt8)) 2 0 ([] : Lg) (1, (zB 32), 1, [List.replicate 32 (0 : UInt8)].flatten)) (1, (zB 32), 2, [anD true (([1, 0, 0, 0, 0, 0, 0, 0, 0, 0, 0, 0, 0, 0, 0, 0, 0, 0, 0, 0, 0, 0, 0, 0, 0, 0, 0, 0, 0, 0, 0, 2] : List UInt8) ++ ([2, 0, 0, 0, 0, 0, 0, 0, 0, 0, 0, 0, 0, 0, 0, 0, 0, 0, 0, 0, 0, 0, 0, 0, 0, 0, 0, 0, 0, 0, 0, 2] : List UInt8)) 2 0 ([] : Lg) (1, (zB 32), 1, [List.replicate 32 (0 : UInt8)].flatten), leN 8 (UInt64.ofNat 3).toNat, List.replicate 128 (0 : UInt8)].flatten)).map vu8) rfl isAgg23 sizeOf23 (hS _ M4) rfl rfl rfl rfl) ?_
 refine WT.s ?_
 refine Op1.one rfl (Wn.yes rfl rfl rfl) ?_
 refine WL.call Try.call36 rfl rfl (c_dr2  _ ) rfl ?_
 rintro _ w_85 ⟨rfl, hc_84⟩
 have h_86 := h_83.same hc_84
 refine WL.nil ?_
 refine ⟨(N0_1_2_3_4_5_6_7_8_9_10_11 h_86.ok), ?_⟩
 refine WT.q rfl (Wn.yes rfl rfl rfl) rfl rfl (fun wq hS => R.eqA (xs := (anD true (([1, 0, 0, 0, 0, 0, 0, 0, 0, 0, 0, 0, 0, 0, 0, 0, 0, 0, 0, 0, 0, 0, 0, 0, 0, 0, 0, 0, 0, 0, 0, 2] : List UInt8) ++ ([2, 0, 0, 0, 0, 0, 0, 0, 0, 0, 0, 0, 0, 0, 0, 0, 0, 0, 0, 0, 0, 0, 0, 0, 0, 0, 0, 0, 0, 0, 0, 2] : List UInt8)) 2 (anU true 0 ([] : Lg) (1, (zB 32), 1, [List.replicate 32 (0 : UInt8)].flatten)) (anL true (([1, 0, 0, 0, 0, 0, 0, 0, 0, 0, 0, 0, 0, 0, 0, 0, 0, 0, 0, 0, 0, 0, 0, 0, 0, 0, 0, 0, 0, 0, 0, 2] : List UInt8) ++ ([2, 0, 0, 0, 0, 0, 0, 0, 0, 0, 0, 0, 0, 0, 0, 0, 0, 0, 0, 0, 0, 0, 0, 0, 0, 0, 0, 0, 0, 0, 0, 2] : List UInt8)) 2 0 ([] : Lg) (1, (zB 32), 1, [List.replicate 32 (0 : UInt8)].flatten)) (1, (zB 32), 2, [anD true (([1, 0, 0, 0, 0, 0, 0, 0, 0, 0, 0, 0, 0, 0, 0, 0, 0, 0, 0, 0, 0, 0, 0, 0, 0, 0, 0, 0, 0, 0, 0, 2] : List UInt8) ++ ([2, 0, 0, 0, 0, 0, 0, 0, 0, 0, 0, 0, 0, 0, 0, 0, 0, 0, 0, 0, 0, 0, 0, 0, 0, 0, 0, 0, 0, 0, 0, 2] : List UInt8)) 2 0 ([] : Lg) (1, (zB 32), 1, [List.replicate 32 (0 : UInt8)].flatten), leN 8 (UInt64.ofNat 3).toNat, List.replicate 128 (0 : UInt8)].flatten)).map vu8) (ys := ([2, 0, 0, 0, 0, 0, 0, 0, 0, 0, 0, 0, 0, 0, 0, 0, 0, 0, 0, 0, 0, 0, 0, 0, 0, 0, 0, 0, 0, 0, 0, 2] : List UInt8).map vu8) (r := true) rfl rfl eqGuardType23 kt23 (by decide) ag23 (Typ.u8s underlying23 ce23 underlying5 ce5 (anD_len (rfl : List.length (([1, 0, 0, 0, 0, 0, 0, 0, 0, 0, 0, 0, 0, 0, 0, 0, 0, 0, 0, 0, 0, 0, 0, 0, 0, 0, 0, 0, 0, 0, 0, 2] : List UInt8) ++ ([2, 0, 0, 0, 0, 0, 0, 0, 0, 0, 0, 0, 0, 0, 0, 0, 0, 0, 0, 0, 0, 0, 0, 0, 0, 0, 0, 0, 0, 0, 0, 2] : List UInt8)) = 64) h32_w_42)) (Typ.u8s underlying23 ce23 underlying5 ce5 (rfl : List.length ([2, 0, 0, 0, 0, 0, 0, 0, 0, 0, 0, 0, 0, 0, 0, 0, 0, 0, 0, 0, 0, 0, 0, 0, 0, 0, 0, 0, 0, 0, 0, 2] : List UInt8) = 32)) (eqT (congrArg (List.map vu8) (by decide +kernel)))) ?_
 refine qT rfl rfl (fun wq hS => R.pickT (v := (.bool true)) rfl rfl) ?_
 refine qT rfl rfl (fun wq hS => R.move (v := (.bool true)) rfl) ?_
 refine WT.q rfl (Wn.yes rfl rfl rfl) rfl rfl (fun wq hS => R.move (v := (vi 0)) rfl) ?_
 refine WT.q rfl (Wn.yes rfl rfl rfl) rfl rfl (fun wq hS => R.move (v := (vi 0)) rfl) ?_
 refine WT.s ?_
 refine Op1.one rfl (Wn.yes rfl rfl rfl) ?_
 refine WL.call Try.call19 rfl rfl (c_num12 0 (by omega) _ ) rfl ?_
 rintro _ w_88 ⟨rfl, hc_87⟩
 have h_89 := h_86.same hc_87
 refine WL.nil ?_
 refine ⟨(N0_1_2_3_4_5_6_7_8_9_10_11 h_89.ok), ?_⟩
 refine WT.s ?_
 refine Op1.one rfl (Wn.yes rfl rfl rfl) ?_
 refine WL.call Try.call19 rfl rfl (c_num12 0 (by omega) _ ) rfl ?_
 rintro _ w_91 ⟨rfl, hc_90⟩
 have h_92 := h_89.same hc_90
 refine WL.nil ?_
 refine ⟨(N0_1_2_3_4_5_6_7_8_9_10_11 h_92.ok), ?_⟩
 refine WT.q rfl (Wn.yes rfl rfl rfl) rfl rfl (fun wq hS => R.bin rfl rfl (bi_add (c := 0) (by omega) (by omega))) ?_
 refine WT.q rfl (Wn.yes rfl rfl rfl) rfl rfl (fun wq hS => R.bin rfl rfl (bi_eql (r := true) (by decide))) ?_
 refine qT rfl rfl (fun wq hS => R.pickT (v := (.bool true)) rfl rfl) ?_
 refine qT rfl rfl (fun wq hS => R.move (v := (.bool true)) rfl) ?_
 refine WT.q rfl (Wn.yes rfl rfl rfl) rfl rfl (fun wq hS => R.move (v := (vi 2)) rfl) ?_
 refine WT.s ?_
 refine Op1.one rfl (Wn.yes rfl rfl rfl) ?_
 refine WL.call Try.call19 rfl rfl (c_num12 2 (by omega) _ ) rfl ?_
 rintro _ w_94 ⟨rfl, hc_93⟩
 have h_95 := h_92.same hc_93
 refine WL.nil ?_
 refine ⟨(N0_1_2_3_4_5_6_7_8_9_10_11 h_95.ok), ?_⟩
 refine WT.q rfl (Wn.yes rfl rfl rfl) rfl rfl (fun wq hS => R.bin rfl rfl (bi_eql (r := true) (by decide))) ?_
 refine qT rfl rfl (fun wq hS => R.pickT (v := (.bool true)) rfl rfl) ?_
 refine qT rfl rfl (fun wq hS => R.move (v := (.bool true)) rfl) ?_
 refine WT.q rfl (Wn.yes rfl rfl rfl) rfl rfl (fun wq hS => R.move (v := (vi 2)) rfl) ?_
 refine WT.s ?_
 refine Op1.one rfl (Wn.yes rfl rfl rfl) ?_
 refine WL.call Try.call19 rfl rfl (c_num12 2 (by omega) _ ) rfl ?_
 rintro _ w_97 ⟨rfl, hc_96⟩
 have h_98 := h_95.same hc_96
 refine WL.nil ?_
 refine ⟨(N0_1_2_3_4_5_6_7_8_9_10_11 h_98.ok), ?_⟩
 refine WT.q rfl (Wn.yes rfl rfl rfl) rfl rfl (fun wq hS => R.bin rfl rfl (bi_eql (r := true) (by decide))) ?_
 refine qT rfl rfl (fun wq hS => R.pickT (v := (.bool true)) rfl rfl) ?_
 refine qT rfl rfl (fun wq hS => R.move (v := (.bool true)) rfl) ?_
 refine WT.q rfl (Wn.yes rfl rfl rfl) rfl rfl (fun wq hS => R.move (v := (vi 2)) rfl) ?_
 refine WT.s ?_
 refine Op1.one rfl (Wn.yes rfl rfl rfl) ?_
 refine WL.call Try.call19 rfl rfl (c_num12 2 (by omega) _ ) rfl ?_
 rintro _ w_100 ⟨rfl, hc_99⟩
 have h_101 := h_98.same hc_99
 refine WL.nil ?_
 refine ⟨(N0_1_2_3_4_5_6_7_8_9_10_11 h_101.ok), ?_⟩
 refine WT.q rfl (Wn.yes rfl rfl rfl) rfl rfl (fun wq hS => R.bin rfl rfl (bi_eql (r := true) (by decide))) ?_
 refine qT rfl rfl (fun wq hS => R.pickT (v := (.bool true)) rfl rfl) ?_
 refine qT rfl rfl (fun wq hS => R.assign (v := (.bool true)) rfl) ?_
 refine WT.nil (thn_n (WP.ret ?_))
 refine ret_of results15 (RV.tmp (v := (.bool true)) rfl RV.nil) ?_
 exact ⟨rfl, h_101.chgS⟩
end Go.Proofs.Yteclkcpdclimnaa

namespace Go.Proofs.Yteclkcpdclimnaa
open Go.Proofs.Try
open Go.Vc Go.Orc Go.Sh Go.RowKit
set_option maxRecDepth 20000

abbrev Rc := Int × List UInt8 × Int × List UInt8 × UInt64 × List UInt64 × Bool
instance dq3 : DecidableEq (UInt64 × List UInt64 × Bool) := inferInstance
instance dq4 : DecidableEq (List UInt8 × UInt64 × List UInt64 × Bool) := inferInstance
instance dq5 : DecidableEq (Int × List UInt8 × UInt64 × List UInt64 × Bool) := inferInstance
instance dq6 : DecidableEq (List UInt8 × Int × List UInt8 × UInt64 × List UInt64 × Bool) := inferInstance
instance dq7 : DecidableEq Rc := inferInstanceAs (DecidableEq (Int × (List UInt8 × Int × List UInt8 × UInt64 × List UInt64 × Bool)))
def rcC (r : Rc) : List Value := flat [(1, [(vi r.1)]), (32, r.2.1.map vu8), (1, [(vi r.2.2.1)]), (128, r.2.2.2.1.map vu8), (1, [(vu64 r.2.2.2.2.1)]), (8, r.2.2.2.2.2.1.map vu64), (1, [(.bool r.2.2.2.2.2.2)])]
def okRc (r : Rc) : Prop := r.2.1.length = 32 ∧ r.2.2.2.1.length = 128 ∧ r.2.2.2.2.2.1.length = 8 ∧ (-9223372036854775808 ≤ r.1 ∧ r.1 < 9223372036854775808) ∧ (-9223372036854775808 ≤ r.2.2.1 ∧ r.2.2.1 < 9223372036854775808)
def rcsC (rs : List Rc) : List Value := (rs.map rcC).flatten
def zRc : Rc := (0, [], 0, [], 0, [], false)
def mB (r : Rc) : Bool := mayB r.1 r.2.1 r.2.2.1 r.2.2.2.1 r.2.2.2.2.1 r.2.2.2.2.2.1 r.2.2.2.2.2.2
def allP (rs : List Rc) : Nat → Bool
 | 0 => true
 | k + 1 => allP rs k && (mB (rs.getD k zRc) && (decide ((rs.getD k zRc).1 = 1) == decide (((k : Nat) : Int) = 0)))
def mayAllB (rs : List Rc) : Bool := decide (0 < rs.length) && allP rs rs.length
theorem rcC_len {r : Rc} (h : okRc r) : (rcC r).length = 172 := by simp [rcC, flat, h.1, h.2.1, h.2.2.1]
theorem rcsC_len {rs : List Rc} (h : ∀ r ∈ rs, okRc r) : (rcsC rs).length = rs.length * 172 := flat_len fun r hr => rcC_len (h r hr)
theorem rcsC_at {rs : List Rc} {k : Nat} (h : ∀ r ∈ rs, okRc r) (hk : k < rs.length) : ((rcsC rs).drop (k * 172)).take 172 = rcC (rs.getD k zRc) := flat_at (fun r hr => rcC_len (h r hr)) hk
theorem rcC_inj {r s : Rc} (h1 : okRc r) (h2 : okRc s) : (rcC r = rcC s) = (r = s) := by
 refine propext ⟨fun h => ?_, fun h => by rw [h]⟩
 obtain ⟨a, b, c, d, e, f, g⟩ := r
 obtain ⟨a', b', c', d', e', f', g'⟩ := s
 obtain ⟨i1, i2, i3, i4, i5, i6, i7⟩ := rec7_inj h1.1 h2.1 h1.2.1 h2.2.1 h1.2.2.1 h2.2.2.1 h
 simp only at i1 i2 i3 i4 i5 i6 i7
 rw [i1, i2, i3, i4, i5, i6, i7]
theorem trRc (W : World) {cs : List Value} (h : Tr Try.prog W 45 cs) : ∃ a n cap, ∃ rs : List Rc, cs = [.slice a n cap] ∧ rs.length = n ∧ n ≤ cap ∧ cap ≤ maxLen ∧ (∀ r ∈ rs, okRc r) ∧ (Ent.view a (rcsC rs)).ok W.heap.size W := by
 obtain ⟨a, n, cap, els, e1, e2, e3, e4, e5, e6⟩ := Tr.slG underlying45 ce86 (by decide) h
 obtain ⟨rs, hrs, hok⟩ := els_of (f := rcC) (p := okRc) (els := els) (fun y hy => by
  have tr := (e5 y hy).2
  have tl_z := Tr.struct (l := [(1, 81), (32, 23), (1, 3), (128, 29), (10, 84)]) underlying86 ce86 (by kernel_rfl) tr
  obtain ⟨a_z0, r_z0, rfl, n_z0, t_z0, tl_z0⟩ := tl_z
  obtain ⟨z0, rfl, b_z0⟩ := Tr.i64 underlying81 t_z0
  obtain ⟨a_z1, r_z1, rfl, n_z1, t_z1, tl_z1⟩ := tl_z0
  obtain ⟨z1, rfl, l_z1⟩ := Tr.arr8 underlying23 ce23 ce5 underlying5 t_z1
  obtain ⟨a_z2, r_z2, rfl, n_z2, t_z2, tl_z2⟩ := tl_z1
  obtain ⟨z2, rfl, b_z2⟩ := Tr.i64 underlying3 t_z2
  obtain ⟨a_z3, r_z3, rfl, n_z3, t_z3, tl_z3⟩ := tl_z2
  obtain ⟨z3, rfl, l_z3⟩ := Tr.arr8 underlying29 ce29 ce5 underlying5 t_z3
  obtain ⟨a_z4, r_z4, rfl, n_z4, t_z4, tl_z4⟩ := tl_z3
  have tl_z4 := Tr.struct (l := [(1, 27), (8, 82), (1, 4)]) underlying84 ce84 (by kernel_rfl) t_z4
  obtain ⟨a_z40, r_z40, rfl, n_z40, t_z40, tl_z40⟩ := tl_z4
  obtain ⟨z40, rfl⟩ := Tr.u64 underlying27 t_z40
  obtain ⟨a_z41, r_z41, rfl, n_z41, t_z41, tl_z41⟩ := tl_z40
  obtain ⟨z41, rfl, l_z41⟩ := Tr.arr64 underlying82 ce82 ce27 underlying27 t_z41
  obtain ⟨a_z42, r_z42, rfl, n_z42, t_z42, tl_z42⟩ := tl_z41
  obtain ⟨z42, rfl⟩ := Tr.bool underlying4 t_z42
  obtain rfl := tl_z42
  obtain rfl := tl_z4
  exact ⟨(z0, z1, z2, z3, z40, z41, z42), by simp [rcC, flat], l_z1, l_z3, l_z41, b_z0, b_z2⟩)
 subst hrs
 exact ⟨a, n, cap, rs, e1, by rw [← e2, List.length_map], e3, e4, hok, e6⟩
theorem allP_f {rs : List Rc} {k : Nat} (h : allP rs k = false) : ∀ {n}, k ≤ n → allP rs n = false
 | 0, hn => by
  have : k = 0 := by omega
  rw [this] at h; exact h
 | n + 1, hn => by
  by_cases e : k = n + 1
  ·rw [← e]; exact h
  ·rw [allP, allP_f h (n := n) (by omega)]; rfl
theorem mayAll_no {rs : List Rc} {k : Nat} (h : allP rs k = false) (hk : k ≤ rs.length) : mayAllB rs = false := by
 rw [mayAllB, allP_f h hk, Bool.and_false]
theorem mayAll_ok {rs : List Rc} (h : allP rs rs.length = true) : mayAllB rs = decide (0 < rs.length) := by rw [mayAllB, h, Bool.and_true]
theorem allP_t {rs : List Rc} : ∀ {n}, allP rs n = true → ∀ k, k < n → mB (rs.getD k zRc) = true ∧ ((rs.getD k zRc).1 = 1 ↔ k = 0)
 | n + 1, h, k, hk => by
  rw [allP, Bool.and_eq_true, Bool.and_eq_true] at h
  by_cases e : k = n
  ·subst e
   refine ⟨h.2.1, ?_⟩
   have h2 := h.2.2
   rw [beq_iff_eq] at h2
   have h3 := decide_eq_decide.1 h2
   omega
  ·exact allP_t h.1 k (by omega)

theorem c_MayAllA (ar : Option Addr) (nr cr : Nat) (rs : List Rc) (hrl : rs.length = nr) (hrs : ∀ r ∈ rs, okRc r) (hnr : nr ≤ 1000000) (w : World) (hvr : View w ar (rcsC rs)) :
  Cs Try.prog 41 [(.slice ar nr cr)].toArray w (fun v w1 => v = .bool (mayAllB rs) ∧ Chg w w1 []) := by
 refine Cs.of (n := 30) (args := [(.slice ar nr cr)]) Try.func41 rfl rfl rfl ?_
 have h_0 := HP.init w
 have h_00 := h_0.old (View.arg hvr) (fun f hf => by cases hf)
 refine WP.seq (WP.reg ?_)
 refine qA (.bool false) rfl rfl ?_
 refine WL.nil (thn_n (WP.scope (WP.seq (WP.reg ?_))))
 refine qM (.slice ar nr cr) rfl rfl (qV rfl (R.lenS (a := ar) (m := nr) rfl rfl underlying45) (qV rfl (R.bin rfl rfl (bi_gtr (r := decide ((((nr : Nat) : Int) : Int) > 0)) rfl)) (qA (.bool (decide ((((nr : Nat) : Int) : Int) > 0))) rfl rfl ?_)))
 refine WL.nil (thn_n (WP.seq (WP.label (thn_n (WP.seq (WP.seq (WP.reg ?_)))))))
 refine qM (.slice ar nr cr) rfl rfl (qV rfl (R.lenS (a := ar) (m := nr) rfl rfl underlying45) (qM (vi 0) rfl rfl ?_))
 refine WL.nil (thn_n (WP.block ?_))
 refine WP.loopG (G := Nat) [3, 4, 5, 11, 12, 13, 14, 15, 16, 17, 18, 19, 20, 21, 22, 23, 24, 25, 26, 27, 28] (fun k => [(3, (.bool (decide (0 < nr)))), (11, (vn k))]) (fun k m w1 => HP w w1 [.view ar (rcsC rs)] ∧ (k ≤ nr) ∧ (allP rs k = true) ∧ m = nr + 1 - k) ⟨0, _, ⟨congrArg Value.bool (decide_eq_decide.2 (by omega)), rfl, trivial⟩, h_00, Nat.zero_le _, rfl, rfl⟩ ?_
 rintro k m_3 J_4 w_1 ⟨h_2, hkn, hall, rfl⟩
 refine WP.seq (WP.reg ?_)
 refine qV rfl (R.bin rfl rfl (bi_lss (r := decide ((((k : Nat) : Int) : Int) < ((nr : Nat) : Int))) rfl)) ?_
 refine WL.nil (thn_n (WP.seq ?_))
 refine WP.cond (b := decide ((((k : Nat) : Int) : Int) < ((nr : Nat) : Int))) rfl (fun c_5 => ?_) (fun c_5 => ?_)
 ·have p_6 := of_decide_eq_true c_5
  refine WP.skip (thn_n (WP.seq (WP.block (WP.seq ?_))))
  have hlk : k < rs.length := by omega
  have hrk : okRc (rs.getD k zRc) := hrs _ (getD_mem hlk)
  obtain ⟨_, _, _, hbkk, hbpk⟩ := hrk
  have hrk : okRc (rs.getD k zRc) := hrs _ (getD_mem hlk)
  refine WP.reg ?_
  refine qM (vn k) rfl rfl (qV rfl (R.indexS (a := ar) (i := k) (off := k * 172) (xs := rcsC rs) rfl rfl rfl (by omega) (viewV (h_2.ok _ M0)) (by rw [rcsC_len hrs]; omega) underlying45 sizeOf86 rfl) (qV rfl (R.loadGA (a := ar) (i := k * 172) (xs := rcsC rs) (cs := flat [(1, [(vi ((rs.getD k zRc).1))]), (32, ((rs.getD k zRc).2.1).map vu8), (1, [(vi ((rs.getD k zRc).2.2.1))]), (128, ((rs.getD k zRc).2.2.2.1).map vu8), (1, [(vu64 ((rs.getD k zRc).2.2.2.2.1))]), (8, ((rs.getD k zRc).2.2.2.2.2.1).map vu64), (1, [(.bool ((rs.getD k zRc).2.2.2.2.2.2))])]) rfl (viewV (h_2.ok _ M0)) isAgg86 sizeOf86 (rcsC_at hrs hlk) (rcC_len hrk) (by decide)) ?_))
  refine WL.alloc (segs := [(1, [(vi 0)]), (32, (zB 32).map vu8), (1, [(vi 0)]), (128, (zB 128).map vu8), (1, [(vu64 0)]), (8, (zW 8).map vu64), (1, [(.bool false)])]) h_2 (zv typeInfo86 rfl) rfl (sC sV (sC (s8 lr) (sC sV (sC (s8 lr) (sC sV (sC (SOk.u64 lr) (sC sV sN))))))) rfl (fun b_7 w_8 h_9 => ?_)
  refine qA (vn k) rfl rfl ?_
  refine WL.storeA [] [(1, [(vi 0)]), (32, (zB 32).map vu8), (1, [(vi 0)]), (128, (zB 128).map vu8), (1, [(vu64 0)]), (8, (zW 8).map vu64), (1, [(.bool false)])] [(1, [(vi ((rs.getD k zRc).1))]), (32, ((rs.getD k zRc).2.1).map vu8), (1, [(vi ((rs.getD k zRc).2.2.1))]), (128, ((rs.getD k zRc).2.2.2.1).map vu8), (1, [(vu64 ((rs.getD k zRc).2.2.2.2.1))]), (8, ((rs.getD k zRc).2.2.2.2.2.1).map vu64), (1, [(.bool ((rs.getD k zRc).2.2.2.2.2.2))])] [] h_9 rfl rfl sizeOf86 At.h (by decide) rfl rfl rfl rfl rfl rfl (sC sV (sC (s8 hrk.1) (sC sV (sC (s8 hrk.2.1) (sC sV (sC (SOk.u64 hrk.2.2.1) (sC sV sN))))))) (fun w_10 h_11 => ?_)
  refine WL.nil (thn_n (WP.seq (WP.reg ?_)))
  refine qV rfl (R.loadA [] [(1, [(vi ((rs.getD k zRc).1))]), (32, ((rs.getD k zRc).2.1).map vu8), (1, [(vi ((rs.getD k zRc).2.2.1))]), (128, ((rs.getD k zRc).2.2.2.1).map vu8), (1, [(vu64 ((rs.getD k zRc).2.2.2.2.1))]), (8, ((rs.getD k zRc).2.2.2.2.2.1).map vu64), (1, [(.bool ((rs.getD k zRc).2.2.2.2.2.2))])] [] rfl isAgg86 sizeOf86 (h_11.ok _ M0) rfl rfl rfl rfl) ?_
  refine WL.call Try.call62 rfl rfl (c_MayA ((rs.getD k zRc).1) hbkk ((rs.getD k zRc).2.1) hrk.1 ((rs.getD k zRc).2.2.1) hbpk ((rs.getD k zRc).2.2.2.1) hrk.2.1 ((rs.getD k zRc).2.2.2.2.1) ((rs.getD k zRc).2.2.2.2.2.1) hrk.2.2.1 ((rs.getD k zRc).2.2.2.2.2.2) _ ) rfl ?_
  rintro _ w_13 ⟨rfl, hc_12⟩
  have h_14 := h_11.same hc_12
  refine qM (.bool (mayB ((rs.getD k zRc).1) ((rs.getD k zRc).2.1) ((rs.getD k zRc).2.2.1) ((rs.getD k zRc).2.2.2.1) ((rs.getD k zRc).2.2.2.2.1) ((rs.getD k zRc).2.2.2.2.2.1) ((rs.getD k zRc).2.2.2.2.2.2))) rfl rfl ?_
  rcases Bool.eq_false_or_eq_true (mayB ((rs.getD k zRc).1) ((rs.getD k zRc).2.1) ((rs.getD k zRc).2.2.1) ((rs.getD k zRc).2.2.2.1) ((rs.getD k zRc).2.2.2.2.1) ((rs.getD k zRc).2.2.2.2.2.1) ((rs.getD k zRc).2.2.2.2.2.2)) with c_15 | c_15
  ·refine WL.want rfl (congrArg Value.bool c_15) ?_
   refine qV rfl (R.fieldAddr (off' := 0) rfl underlying86 rfl sizeOf81 rfl rfl) ?_
   refine WL.want rfl (congrArg Value.bool c_15) ?_
   refine qV rfl (R.load1 rfl isAgg81 (h_14.ok _ M0) Sg.h) ?_
   refine WL.want rfl (congrArg Value.bool c_15) ?_
   refine qV rfl (R.bin rfl rfl (bi_eql (r := decide (((rs.getD k zRc).1 : Int) = 1)) rfl)) ?_
   refine WL.want rfl (congrArg Value.bool c_15) ?_
   refine qM (vn k) rfl rfl ?_
   refine WL.want rfl (congrArg Value.bool c_15) ?_
   refine qV rfl (R.bin rfl rfl (bi_eql (r := decide ((((k : Nat) : Int) : Int) = 0)) rfl)) ?_
   refine WL.want rfl (congrArg Value.bool c_15) ?_
   refine qV rfl (R.eqB (a := decide (((rs.getD k zRc).1 : Int) = 1)) (b := decide ((((k : Nat) : Int) : Int) = 0)) (c := (decide (((rs.getD k zRc).1 : Int) = 1)) == (decide ((((k : Nat) : Int) : Int) = 0))) rfl rfl underlying4 rfl) (qV rfl (R.pickT (v := (.bool ((decide (((rs.getD k zRc).1 : Int) = 1)) == (decide ((((k : Nat) : Int) : Int) = 0))))) (congrArg Value.bool c_15) rfl) (qA (.bool ((decide (((rs.getD k zRc).1 : Int) = 1)) == (decide ((((k : Nat) : Int) : Int) = 0)))) rfl rfl ?_))
   refine WL.nil (thn_n (WP.seq (WP.reg ?_)))
   refine qM (.bool ((decide (((rs.getD k zRc).1 : Int) = 1)) == (decide ((((k : Nat) : Int) : Int) = 0)))) rfl rfl (qV rfl (R.not (b := (decide (((rs.getD k zRc).1 : Int) = 1)) == (decide ((((k : Nat) : Int) : Int) = 0))) rfl) ?_)
   refine WL.nil (thn_n ?_)
   refine WP.cond (b := !((decide (((rs.getD k zRc).1 : Int) = 1)) == (decide ((((k : Nat) : Int) : Int) = 0)))) rfl (fun c_16 => ?_) (fun c_16 => ?_)
   ·refine WP.exit (inb_miss rfl (thn_x (thn_x (inb_hit (thn_n (WP.seq (WP.reg ?_)))))))
    refine qV rfl (R.move (v := (.bool false)) (congrArg Value.bool (notT c_16))) (qA (.bool false) rfl rfl ?_)
    refine WL.nil (thn_n (WP.ret (ng_r ?_)))
    refine ret_of results41 (RV.tmp (v := (.bool false)) rfl RV.nil) ?_
    have hno := mayAll_no (show allP rs (k + 1) = false from by rw [allP, hall]; unfold mB; simp_all) (by omega)
    exact ⟨congrArg Value.bool hno.symm, h_14.chgS⟩
   ·refine WP.skip (inb_n (thn_n (WP.reg ?_)))
    refine qV rfl (R.bin rfl rfl (bi_add (c := ((k + 1 : Nat) : Int)) (by omega) (by omega))) (qM (vn (k + 1)) rfl rfl ?_)
    refine WL.nil (thn_n ?_)
    have h_17 := h_14.drop rfl
    have hall2 : allP rs (k + 1) = true := by rw [allP, hall]; unfold mB; simp_all
    exact ⟨k + 1, _, (by omega), (Ag.upd rfl (U4 rfl rfl rfl rfl (U4 rfl rfl rfl rfl (U4 rfl rfl rfl rfl (U4 rfl rfl rfl rfl (U4 rfl rfl rfl rfl (Ag.updL rfl (Ag.mix _ _ _)))))))), ⟨Eq.trans (congrArg Value.bool (notF c_16)) (congrArg Value.bool (decide_eq_true (show 0 < nr by omega)).symm), rfl, trivial⟩, h_17, (by omega), hall2, rfl⟩
  ·refine WL.skip rfl (congrArg Value.bool c_15) rfl ?_
   refine WL.skip rfl (congrArg Value.bool c_15) rfl ?_
   refine WL.skip rfl (congrArg Value.bool c_15) rfl ?_
   refine WL.skip rfl (congrArg Value.bool c_15) rfl ?_
   refine WL.skip rfl (congrArg Value.bool c_15) rfl ?_
   refine WL.skip rfl (congrArg Value.bool c_15) rfl ?_
   refine qV rfl (R.pickF (v := (.bool false)) (congrArg Value.bool c_15) rfl) (qA (.bool false) rfl rfl ?_)
   refine WL.nil (thn_n (WP.seq (WP.reg ?_)))
   refine qM (.bool false) rfl rfl (qV rfl (R.not (b := false) rfl) ?_)
   refine WL.nil (thn_n ?_)
   refine WP.condT rfl ?_
   refine WP.exit (inb_miss rfl (thn_x (thn_x (inb_hit (thn_n (WP.seq (WP.reg ?_)))))))
   refine qM (.bool false) rfl rfl (qA (.bool false) rfl rfl ?_)
   refine WL.nil (thn_n (WP.ret (ng_r ?_)))
   refine ret_of results41 (RV.tmp (v := (.bool false)) rfl RV.nil) ?_
   have hno := mayAll_no (show allP rs (k + 1) = false from by rw [allP, hall]; unfold mB; simp_all) (by omega)
   exact ⟨congrArg Value.bool hno.symm, h_14.chgS⟩
 ·have p_18 := of_decide_eq_false c_5
  refine WP.exit (thn_x (thn_x (inb_hit (thn_n (WP.seq (WP.reg ?_))))))
  refine qM (.bool (decide (0 < nr))) rfl rfl (qA (.bool (decide (0 < nr))) rfl rfl ?_)
  refine WL.nil (thn_n (WP.ret (ng_r ?_)))
  refine ret_of results41 (RV.tmp (v := (.bool (decide (0 < nr)))) rfl RV.nil) ?_
  have hkk : k = rs.length := by omega
  subst hkk
  exact ⟨congrArg Value.bool (by rw [mayAll_ok hall]; exact decide_eq_decide.2 (by omega)), h_2.chgS⟩

theorem lists_eq {α : Type} {z : α} {rs ks : List α} (hl : rs.length = ks.length) (h : ∀ j, j < rs.length → rs.getD j z = ks.getD j z) : rs = ks :=
 List.ext_getElem hl fun j h1 h2 => by have := h j h1; simpa [h1, h2] using this

theorem c_SameRR (ar : Option Addr) (nr cr : Nat) (rs : List Rc) (hrl : rs.length = nr) (hrs : ∀ r ∈ rs, okRc r) (hnr : nr ≤ 1000000) (ar2 : Option Addr) (nr2 cr2 : Nat) (ks : List Rc) (hkl : ks.length = nr2) (hks : ∀ r ∈ ks, okRc r) (hnr2 : nr2 ≤ 1000000) (w : World) (hvr : View w ar (rcsC rs)) (hvk : View w ar2 (rcsC ks)) :
  Cs Try.prog 20 [(.slice ar nr cr), (.slice ar2 nr2 cr2)].toArray w (fun v w1 => v = .bool (decide (rs = ks)) ∧ Chg w w1 []) := by
 refine Cs.of (n := 26) (args := [(.slice ar nr cr), (.slice ar2 nr2 cr2)]) Try.func20 rfl rfl rfl ?_
 have h_0 := HP.init w
 have h_01 := h_0.oldV (View.arg hvr) rfl (by simp [Ent.mut])
 have h_00 := h_01.oldV (View.arg hvk) rfl (by simp [Ent.mut])
 refine WP.seq (WP.reg ?_)
 refine qA (.bool false) rfl rfl ?_
 refine WL.nil (thn_n (WP.seq (WP.seq (WP.reg ?_))))
 refine qM (.slice ar nr cr) rfl rfl (qV rfl (R.lenS (a := ar) (m := nr) rfl rfl underlying45) (qM (.slice ar2 nr2 cr2) rfl rfl (qV rfl (R.lenS (a := ar2) (m := nr2) rfl rfl underlying45) (qV rfl (R.bin rfl rfl (bi_neq (r := decide ((((nr : Nat) : Int) : Int) ≠ ((nr2 : Nat) : Int))) rfl)) ?_))))
 refine WL.nil (thn_n ?_)
 refine WP.cond (b := decide ((((nr : Nat) : Int) : Int) ≠ ((nr2 : Nat) : Int))) rfl (fun c_1 => ?_) (fun c_1 => ?_)
 ·have p_2 := of_decide_eq_true c_1
  refine WP.seq (WP.reg ?_)
  refine qA (.bool false) rfl rfl ?_
  refine WL.nil (thn_n (WP.ret (thn_r ?_)))
  refine ret_of results20 (RV.tmp (v := (.bool false)) rfl RV.nil) ?_
  exact ⟨congrArg Value.bool (decide_eq_false (fun e => by rw [e] at hrl; omega)).symm, h_00.chgS⟩
 ·have p_3 := of_decide_eq_false c_1
  refine WP.skip (thn_n (WP.seq (WP.seq (WP.reg ?_))))
  refine qA (vi 0) rfl rfl ?_
  refine WL.nil (thn_n (WP.block ?_))
  refine WP.loopG (G := Nat) [4, 5, 11, 12, 13, 14, 15, 16, 17, 18, 19, 20, 21, 22, 23, 24, 25] (fun k => [(5, (vn k))]) (fun k m w1 => HP w w1 [.view ar2 (rcsC ks), .view ar (rcsC rs)] ∧ (k ≤ nr) ∧ (∀ j, j < k → rs.getD j zRc = ks.getD j zRc) ∧ m = nr + 1 - k) ⟨0, _, ⟨rfl, trivial⟩, h_00, Nat.zero_le _, (fun j hj => by omega), rfl⟩ ?_
  rintro k m_6 J_7 w_4 ⟨h_5, hkn, heq, rfl⟩
  refine WP.seq (WP.seq (WP.reg ?_))
  refine qM (vn k) rfl rfl (qM (.slice ar nr cr) rfl rfl (qV rfl (R.lenS (a := ar) (m := nr) rfl rfl underlying45) (qV rfl (R.bin rfl rfl (bi_lss (r := decide ((((k : Nat) : Int) : Int) < ((nr : Nat) : Int))) rfl)) ?_)))
  refine WL.nil (thn_n ?_)
  refine WP.cond (b := decide ((((k : Nat) : Int) : Int) < ((nr : Nat) : Int))) rfl (fun c_8 => ?_) (fun c_8 => ?_)
  ·have p_9 := of_decide_eq_true c_8
   refine WP.skip (thn_n (WP.seq (WP.block (WP.seq ?_))))
   have hlk : k < rs.length := by omega
   have hrk : okRc (rs.getD k zRc) := hrs _ (getD_mem hlk)
   obtain ⟨_, _, _, hbkk, hbpk⟩ := hrk
   have hrk : okRc (rs.getD k zRc) := hrs _ (getD_mem hlk)
   have hlqk : k < ks.length := by omega
   have hrqk : okRc (ks.getD k zRc) := hks _ (getD_mem hlqk)
   obtain ⟨_, _, _, hbkqk, hbpqk⟩ := hrqk
   have hrqk : okRc (ks.getD k zRc) := hks _ (getD_mem hlqk)
   refine WP.drawT (SL w.heap.size [.view ar2 (rcsC ks), .view ar (rcsC rs)]) (.q 0 (.q 1 (.q 2 (.q 3 (.q 4 (.q 5 (.q 6 (.q 7 (.q 8 .nil))))))))) (by kernel_rfl) (by kernel_rfl) rfl (by kernel_rfl) (fun w_10 hc_12 => (SL.cons ((h_5.same hc_12).ok _ M0) (SL.cons ((h_5.same hc_12).ok _ M1) (SL.nil _ _)))) (fun w_10 hc_12 => ?_)
   have h_11 := h_5.same hc_12
   refine qT rfl rfl (fun wq hS => R.move (v := (.slice ar nr cr)) rfl) ?_
   refine qT rfl rfl (fun wq hS => R.move (v := (vn k)) rfl) ?_
   refine qT rfl rfl (fun wq hS => R.indexS (a := ar) (i := k) (off := k * 172) (xs := rcsC rs) rfl rfl rfl (by omega) (viewV (hS _ M1)) (by rw [rcsC_len hrs]; omega) underlying45 sizeOf86 rfl) ?_
   refine qT rfl rfl (fun wq hS => R.loadGA (a := ar) (i := k * 172) (xs := rcsC rs) (cs := flat [(1, [(vi ((rs.getD k zRc).1))]), (32, ((rs.getD k zRc).2.1).map vu8), (1, [(vi ((rs.getD k zRc).2.2.1))]), (128, ((rs.getD k zRc).2.2.2.1).map vu8), (1, [(vu64 ((rs.getD k zRc).2.2.2.2.1))]), (8, ((rs.getD k zRc).2.2.2.2.2.1).map vu64), (1, [(.bool ((rs.getD k zRc).2.2.2.2.2.2))])]) rfl (viewV (hS _ M1)) isAgg86 sizeOf86 (rcsC_at hrs hlk) (rcC_len hrk) (by decide)) ?_
   refine qT rfl rfl (fun wq hS => R.move (v := (.slice ar2 nr2 cr2)) rfl) ?_
   refine qT rfl rfl (fun wq hS => R.move (v := (vn k)) rfl) ?_
   refine qT rfl rfl (fun wq hS => R.indexS (a := ar2) (i := k) (off := k * 172) (xs := rcsC ks) rfl rfl rfl (by omega) (viewV (hS _ M0)) (by rw [rcsC_len hks]; omega) underlying45 sizeOf86 rfl) ?_
   refine qT rfl rfl (fun wq hS => R.loadGA (a := ar2) (i := k * 172) (xs := rcsC ks) (cs := flat [(1, [(vi ((ks.getD k zRc).1))]), (32, ((ks.getD k zRc).2.1).map vu8), (1, [(vi ((ks.getD k zRc).2.2.1))]), (128, ((ks.getD k zRc).2.2.2.1).map vu8), (1, [(vu64 ((ks.getD k zRc).2.2.2.2.1))]), (8, ((ks.getD k zRc).2.2.2.2.2.1).map vu64), (1, [(.bool ((ks.getD k zRc).2.2.2.2.2.2))])]) rfl (viewV (hS _ M0)) isAgg86 sizeOf86 (rcsC_at hks hlqk) (rcC_len hrqk) (by decide)) ?_
   refine qT rfl rfl (fun wq hS => R.neA (xs := flat [(1, [(vi ((rs.getD k zRc).1))]), (32, ((rs.getD k zRc).2.1).map vu8), (1, [(vi ((rs.getD k zRc).2.2.1))]), (128, ((rs.getD k zRc).2.2.2.1).map vu8), (1, [(vu64 ((rs.getD k zRc).2.2.2.2.1))]), (8, ((rs.getD k zRc).2.2.2.2.2.1).map vu64), (1, [(.bool ((rs.getD k zRc).2.2.2.2.2.2))])]) (ys := flat [(1, [(vi ((ks.getD k zRc).1))]), (32, ((ks.getD k zRc).2.1).map vu8), (1, [(vi ((ks.getD k zRc).2.2.1))]), (128, ((ks.getD k zRc).2.2.2.1).map vu8), (1, [(vu64 ((ks.getD k zRc).2.2.2.2.1))]), (8, ((ks.getD k zRc).2.2.2.2.2.1).map vu64), (1, [(.bool ((ks.getD k zRc).2.2.2.2.2.2))])]) (r := !decide (rs.getD k zRc = ks.getD k zRc)) rfl rfl eqGuardType86 kt86 (by decide) ag86 (typR ((rs.getD k zRc).1) (by omega) ((rs.getD k zRc).2.1) hrk.1 ((rs.getD k zRc).2.2.1) (by omega) ((rs.getD k zRc).2.2.2.1) hrk.2.1 ((rs.getD k zRc).2.2.2.2.1) ((rs.getD k zRc).2.2.2.2.2.1) hrk.2.2.1 ((rs.getD k zRc).2.2.2.2.2.2)) (typR ((ks.getD k zRc).1) (by omega) ((ks.getD k zRc).2.1) hrqk.1 ((ks.getD k zRc).2.2.1) (by omega) ((ks.getD k zRc).2.2.2.1) hrqk.2.1 ((ks.getD k zRc).2.2.2.2.1) ((ks.getD k zRc).2.2.2.2.2.1) hrqk.2.2.1 ((ks.getD k zRc).2.2.2.2.2.2)) ((rcC_inj hrk hrqk).trans (decN _))) ?_
   refine WT.nil (thn_n ?_)
   refine WP.cond (b := !decide (rs.getD k zRc = ks.getD k zRc)) rfl (fun c_13 => ?_) (fun c_13 => ?_)
   ·have p_14 := of_decide_eq_false (notT c_13)
    refine WP.seq (WP.reg ?_)
    refine qA (.bool false) rfl rfl ?_
    refine WL.nil (thn_n (WP.ret (inb_r (thn_r (thn_r (inb_r (thn_r ?_)))))))
    refine ret_of results20 (RV.tmp (v := (.bool false)) rfl RV.nil) ?_
    exact ⟨congrArg Value.bool (decide_eq_false (fun e => p_14 (by rw [e]))).symm, h_11.chgS⟩
   ·have p_15 := of_decide_eq_true (notF c_13)
    refine WP.skip (inb_n (thn_n (WP.reg ?_)))
    refine qM (vn k) rfl rfl (qV rfl (R.bin rfl rfl (bi_add (c := ((k + 1 : Nat) : Int)) (by omega) (by omega))) (qA (vn (k + 1)) rfl rfl ?_))
    refine WL.nil (thn_n ?_)
    have h_17 := (h_11.up J1).up J1
    exact ⟨k + 1, _, (by omega), (U4 rfl rfl rfl rfl (U4 rfl rfl rfl rfl (U4 rfl rfl rfl rfl (U4 rfl rfl rfl rfl (Ag.updL rfl (Ag.mix _ _ _)))))), ⟨rfl, trivial⟩, h_17, (by omega), (fun j hj => (Nat.lt_or_eq_of_le (Nat.le_of_lt_succ hj)).elim (fun e => heq j e) (fun e => by rw [e]; exact p_15)), rfl⟩
  ·have p_18 := of_decide_eq_false c_8
   refine WP.exit (thn_x (thn_x (inb_hit (thn_n (WP.seq (WP.reg ?_))))))
   refine qA (.bool true) rfl rfl ?_
   refine WL.nil (thn_n (WP.ret ?_))
   refine ret_of results20 (RV.tmp (v := (.bool true)) rfl RV.nil) ?_
   have hrk2 : rs = ks := lists_eq (z := zRc) (by omega) (fun j hj => heq j (by omega))
   exact ⟨congrArg Value.bool (decide_eq_true hrk2).symm, h_5.chgS⟩
end Go.Proofs.Yteclkcpdclimnaa

namespace Go.Proofs.Yteclkcpdclimnaa
open Go.Proofs.Try
open Go.Vc Go.Orc Go.Sh Go.RowKit
set_option maxRecDepth 20000

def rpS (id : Bool) (df : List UInt8) (dn u : Nat) (lg : Lg) (rs : List Rc) : Nat → Nat × Lg × List UInt8
 | 0 => (anU id u lg (1, (List.replicate 32 (0 : UInt8)), 1, [(rs.getD 0 zRc).2.1].flatten), anL id df dn u lg (1, (List.replicate 32 (0 : UInt8)), 1, [(rs.getD 0 zRc).2.1].flatten), anD id df dn u lg (1, (List.replicate 32 (0 : UInt8)), 1, [(rs.getD 0 zRc).2.1].flatten))
 | k + 1 => (anU id (rpS id df dn u lg rs k).1 (rpS id df dn u lg rs k).2.1 (qN (rpS id df dn u lg rs k).2.2 (rs.getD (k + 1) zRc).1 (rs.getD (k + 1) zRc).2.2.1 (rs.getD (k + 1) zRc).2.2.2.1 (rs.getD (k + 1) zRc).2.2.2.2.1 (rs.getD (k + 1) zRc).2.2.2.2.2.1 (rs.getD (k + 1) zRc).2.2.2.2.2.2), anL id df dn (rpS id df dn u lg rs k).1 (rpS id df dn u lg rs k).2.1 (qN (rpS id df dn u lg rs k).2.2 (rs.getD (k + 1) zRc).1 (rs.getD (k + 1) zRc).2.2.1 (rs.getD (k + 1) zRc).2.2.2.1 (rs.getD (k + 1) zRc).2.2.2.2.1 (rs.getD (k + 1) zRc).2.2.2.2.2.1 (rs.getD (k + 1) zRc).2.2.2.2.2.2), anD id df dn (rpS id df dn u lg rs k).1 (rpS id df dn u lg rs k).2.1 (qN (rpS id df dn u lg rs k).2.2 (rs.getD (k + 1) zRc).1 (rs.getD (k + 1) zRc).2.2.1 (rs.getD (k + 1) zRc).2.2.2.1 (rs.getD (k + 1) zRc).2.2.2.2.1 (rs.getD (k + 1) zRc).2.2.2.2.2.1 (rs.getD (k + 1) zRc).2.2.2.2.2.2))
section
variable {id : Bool} {df : List UInt8} {dn u : Nat} {lg : Lg} {rs : List Rc}
theorem rpS_u : ∀ k, (rpS id df dn u lg rs k).1 ≤ u + k + 1
 | 0 => anU_le ..
 | k + 1 => by
  have h1 := rpS_u k
  have h2 := anU_le id (rpS id df dn u lg rs k).1 (rpS id df dn u lg rs k).2.1 (qN (rpS id df dn u lg rs k).2.2 (rs.getD (k + 1) zRc).1 (rs.getD (k + 1) zRc).2.2.1 (rs.getD (k + 1) zRc).2.2.2.1 (rs.getD (k + 1) zRc).2.2.2.2.1 (rs.getD (k + 1) zRc).2.2.2.2.2.1 (rs.getD (k + 1) zRc).2.2.2.2.2.2)
  show anU _ _ _ _ ≤ _
  omega
theorem rpS_l : ∀ k, (rpS id df dn u lg rs k).2.1.length ≤ lg.length + k + 1
 | 0 => anL_le ..
 | k + 1 => by
  have h1 := rpS_l k
  have h2 := anL_le id df dn (rpS id df dn u lg rs k).1 (rpS id df dn u lg rs k).2.1 (qN (rpS id df dn u lg rs k).2.2 (rs.getD (k + 1) zRc).1 (rs.getD (k + 1) zRc).2.2.1 (rs.getD (k + 1) zRc).2.2.2.1 (rs.getD (k + 1) zRc).2.2.2.2.1 (rs.getD (k + 1) zRc).2.2.2.2.2.1 (rs.getD (k + 1) zRc).2.2.2.2.2.2)
  show (anL _ _ _ _ _ _).length ≤ _
  omega
theorem rpS_32 (h : df.length = 32 * dn) (hl : ok32 lg) : ∀ k, ok32 (rpS id df dn u lg rs k).2.1
 | 0 => anL_32 h hl
 | k + 1 => anL_32 h (rpS_32 h hl k)
theorem rpS_len (h : df.length = 32 * dn) (hl : ok32 lg) : ∀ k, (rpS id df dn u lg rs k).2.2.length = 32
 | 0 => anD_len h hl
 | k + 1 => anD_len h (rpS_32 h hl k)
end
theorem mayAll_P {rs : List Rc} (h : mayAllB rs = true) : 0 < rs.length ∧ allP rs rs.length = true := by
 rw [mayAllB, Bool.and_eq_true] at h
 exact ⟨of_decide_eq_true h.1, h.2⟩
theorem rcsC_at1 {rs : List Rc} {k : Nat} (h : ∀ r ∈ rs, okRc r) (hk : k + 1 < rs.length) : ((rcsC (rs.drop 1)).drop (k * 172)).take 172 = rcC (rs.getD (k + 1) zRc) := by
 have e := rcsC_at (rs := rs.drop 1) (k := k) (fun r hr => h r (List.mem_of_mem_drop hr)) (by rw [List.length_drop]; omega)
 rw [e]
 congr 1
 simp [List.getD_eq_getElem?_getD, List.getElem?_drop, Nat.add_comm]
theorem rc_val {rs : List Rc} (h : ∀ r ∈ rs, okRc r) (hk : 0 < rs.length) : ((rcsC rs).drop (0 + 1)).take 32 = (rs.getD 0 zRc).2.1.map vu8 := by
 have e := congrArg (fun l => (l.drop 1).take 32) (rcsC_at h hk)
 simp only [Nat.zero_mul, List.drop_zero, List.drop_take, List.take_take] at e
 have hr := (h _ (getD_mem (z := zRc) hk)).1
 rw [Nat.zero_add]
 refine (Eq.trans ?_ e).trans ?_
 ·congr 1
 ·show ((flat _).drop 1).take 32 = _
  simp only [flat, List.cons_append, List.nil_append, List.drop_succ_cons, List.drop_zero]
  rw [List.take_append_of_le_length (by rw [List.length_map, hr]; exact Nat.le_refl _), List.take_of_length_le (by rw [List.length_map, hr]; exact Nat.le_refl _)]
theorem rcsC_part {rs : List Rc} {l k : Nat} (h : ∀ r ∈ rs, okRc r) (hk : l + k ≤ rs.length) : ((rcsC rs).drop (l * 172)).take (k * 172) = rcsC ((rs.drop l).take k) := by
 have e : rs = rs.take l ++ ((rs.drop l).take k ++ (rs.drop l).drop k) := by rw [List.take_append_drop, List.take_append_drop]
 have h1 : (rcsC (rs.take l)).length = l * 172 := by rw [rcsC_len fun r hr => h r (List.mem_of_mem_take hr), List.length_take, Nat.min_eq_left (by omega)]
 have h2 : (rcsC ((rs.drop l).take k)).length = k * 172 := by rw [rcsC_len fun r hr => h r (List.mem_of_mem_drop (List.mem_of_mem_take hr)), List.length_take, List.length_drop, Nat.min_eq_left (by omega)]
 have h3 : rcsC rs = rcsC (rs.take l) ++ (rcsC ((rs.drop l).take k) ++ rcsC ((rs.drop l).drop k)) := by
  conv => lhs; rw [e]
  simp only [rcsC, List.map_append, List.flatten_append]
 rw [h3, ← h1, List.drop_left, ← h2, List.take_left]
theorem sub_blkS {a : Option Addr} {l m s : Nat} {xs ys : List Value} (h : 0 < xs.length) : ∀ b ∈ (Ent.view (slA a l m s) ys).blocks, b ∈ (Ent.view a xs).blocks := by
 intro b hb
 cases a with
 | none => simp [slA, Ent.blocks] at hb
 | some ad =>
  cases xs with
  | nil => simp at h
  | cons x r =>
   have e : slA (some ad) l m s = some ad ∨ slA (some ad) l m s = some (ad.add (l * s)) := by
    unfold slA; split
    ·exact .inl rfl
    ·exact .inr rfl
   rcases e with e | e <;> rw [e] at hb <;> cases ys <;> simp [Ent.blocks, Addr.add_block] at hb ⊢ <;> exact hb

theorem c_ReplayA {w00 : World} {L : List Ent} (id : Bool) (ob mp : Nat) (ms df : List UInt8) (hms : ms.length = 32) (da : Option Addr) (dn dc u : Nat) (hdf : df.length = 32 * dn) (la : Option Addr) (lc : Nat) (lx : List Value) (lg : Lg) (hu : u ≤ 500000) (hlg : lg.length ≤ 500000) (ar : Option Addr) (nr cr : Nat) (rs : List Rc) (hrl : rs.length = nr) (hrs : ∀ r ∈ rs, okRc r) (hnr : nr ≤ 1000) (hcr : nr ≤ cr) (hm : mayAllB rs = true) (w : World) (h_0 : HP w00 w (Ent.blk ob .nw 90 [(1, [(.bool id)]), (32, ms.map vu8), (1, [(.slice da dn dc)]), (1, [(vi ((u : Nat) : Int))]), (1, [(.map (some mp))]), (1, [(.slice la lg.length lc)])] :: Ent.row la lg.length lc 64 67 lx :: Ent.obj mp .nw (.map (mArr lg) lg.length) :: Ent.pin (sblks lx) (fun w => Lgs w lx lg) :: Ent.view da (df.map vu8) :: Ent.view ar (rcsC rs) :: L)) :
  Cs Try.prog 18 [(.pointer (some ⟨ob, 0, none⟩)), (.slice ar nr cr)].toArray w (fun v w1 => ∃ la' lc' lx', v = (.tuple [(.agg ⟨((rpS id df dn u lg rs (nr - 1)).2.2).map vu8⟩), (vi 0)].toArray) ∧ HP w00 w1 (Ent.blk ob .nw 90 [(1, [(.bool id)]), (32, ms.map vu8), (1, [(.slice da dn dc)]), (1, [(vi (((rpS id df dn u lg rs (nr - 1)).1 : Nat) : Int))]), (1, [(.map (some mp))]), (1, [(.slice la' ((rpS id df dn u lg rs (nr - 1)).2.1.length) lc')])] :: Ent.row la' ((rpS id df dn u lg rs (nr - 1)).2.1.length) lc' 64 67 lx' :: Ent.obj mp .nw (.map (mArr ((rpS id df dn u lg rs (nr - 1)).2.1)) ((rpS id df dn u lg rs (nr - 1)).2.1.length)) :: Ent.pin (sblks lx') (fun w => Lgs w lx' ((rpS id df dn u lg rs (nr - 1)).2.1)) :: Ent.view da (df.map vu8) :: Ent.view ar (rcsC rs) :: L)) := by
 have h32 : ok32 lg := Lgs.ok32 (h_0.ok _ M3).1
 obtain ⟨hl0, hall⟩ := mayAll_P hm
 have hr0 := hrs _ (getD_mem (z := zRc) hl0)
 refine Cs.of (n := 51) (args := [(pO ob 0), (.slice ar nr cr)]) Try.func18 rfl rfl rfl ?_
 refine WP.seq (WP.reg ?_)
 refine WL.alloc (segs := [(32, (zB 32).map vu8)]) h_0 (zv typeInfo23 rfl) rfl (sC (s8 lr) sN) rfl (fun b_1 w_2 h_3 => ?_)
 refine qA (vi 0) rfl rfl ?_
 refine WL.nil (thn_n (WP.seq (WP.block (WP.seq (WP.reg ?_)))))
 refine qM (pO ob 0) rfl rfl ?_
 refine WL.call Try.call40 rfl rfl (c_mth id ob mp ms hms da dn dc u la lg.length lc _ (h_3.argR M1)) rfl ?_
 rintro _ w_5 ⟨rfl, hc_4⟩
 have h_6 := h_3.same hc_4
 refine qV rfl (R.not (b := true) rfl) (qA (.bool false) rfl rfl ?_)
 refine WL.nil (thn_n ?_)
 refine WP.condF rfl ?_
 refine WP.seq (WP.reg ?_)
 refine qM (.slice ar nr cr) rfl rfl ?_
 refine WL.call Try.call41 rfl rfl (c_MayAllA ar nr cr rs hrl hrs (by omega) _ (viewV (h_6.ok _ M6))) rfl ?_
 rintro _ w_8 ⟨rfl, hc_7⟩
 have h_9 := h_6.same hc_7
 refine qV rfl (R.not (b := true) (congrArg Value.bool hm)) (qA (.bool false) rfl rfl ?_)
 refine WL.nil (thn_n ?_)
 refine WP.condF rfl ?_
 refine WP.skip (inb_n (thn_n (WP.seq (WP.reg ?_))))
 refine qM (pO ob 0) rfl rfl (qM (.slice ar nr cr) rfl rfl (qV rfl (R.indexS (a := ar) (i := 0) (off := 0) (xs := rcsC rs) rfl rfl rfl (by omega) (viewV (h_9.ok _ M6)) (by rw [rcsC_len hrs]; omega) underlying45 sizeOf86 rfl) (qV rfl (R.fieldG (a := ar) (i := 0) (off' := 0 + 1) rfl underlying86 rfl sizeOf23 rfl rfl) (qV rfl (R.loadGA (a := ar) (i := 0 + 1) (xs := rcsC rs) (cs := ((rs.getD 0 zRc).2.1).map vu8) rfl (viewV (h_9.ok _ M6)) isAgg23 sizeOf23 (rc_val hrs hl0) (len_map hr0.1) (by decide)) (qV rfl (R.buildS (pl := [(0, 32), (32, 1)]) (zs := [(32, (zB 32).map vu8), (1, [(vu64 0)])]) (vs := [(0, (.agg ⟨((rs.getD 0 zRc).2.1).map vu8⟩))]) (out := [(32, ((rs.getD 0 zRc).2.1).map vu8), (1, [(vu64 0)])]) underlying79 (zv typeInfo79 rfl) rfl (sC (s8 lr) (sC sV sN)) (pl79 _ underlying79) rfl (FillR.cons [] [(32, (zB 32).map vu8)] [(32, ((rs.getD 0 zRc).2.1).map vu8)] [(1, [(vu64 0)])] rfl rfl rfl rfl (sC (s8 hr0.1) sN) rfl rfl rfl FillR.nil) rfl) ?_)))))
 have h_15 := ((((h_9.up J5).up J5).up J5).up J5).up J5
 have h32_w_19 := Lgs.ok32 (h_15.ok _ M3).1
 refine WL.call Try.call37 rfl rfl (c_Begin id ob mp ms df hms da dn dc u hdf la lc lx lg (by omega) (by omega) ((rs.getD 0 zRc).2.1) hr0.1 (0 : UInt64) _ h_15) rfl ?_
 rintro _ w_19 ⟨la_16, lc_17, lx_18, rfl, h_20⟩
 refine qM (.tuple [(.agg ⟨(anD id df dn u lg (1, (zB 32), 1, [(rs.getD 0 zRc).2.1].flatten)).map vu8⟩), (vi 0)].toArray) rfl rfl (qV rfl (R.extract rfl rfl) (qV rfl (R.extract rfl rfl) ?_))
 refine WL.alloc (segs := [(32, (zB 32).map vu8)]) h_20 (zv typeInfo23 rfl) rfl (sC (s8 lr) sN) rfl (fun b_21 w_22 h_23 => ?_)
 refine WL.storeA [] [(32, (zB 32).map vu8)] [(32, (anD id df dn u lg (1, (zB 32), 1, [(rs.getD 0 zRc).2.1].flatten)).map vu8)] [] h_23 rfl rfl sizeOf23 At.h (by decide) rfl rfl rfl rfl rfl rfl (sC (s8 (anD_len hdf h32_w_19)) sN) (fun w_24 h_25 => ?_)
 refine qA (vi 0) rfl rfl ?_
 refine WL.nil (thn_n (WP.seq (WP.seq (WP.reg ?_))))
 refine qM (.slice ar nr cr) rfl rfl (qV rfl (R.sliceS (a := ar) (len := nr) (l := 1) (h := nr) rfl (EvB.it (l := 1) rfl rfl) EvB.dflt (by omega) (by omega) underlying45 sizeOf86) ?_)
 have hv_27 := (viewV (h_25.ok _ M7)).sl 1 cr (nr - 1) 172 (by omega)
 rw [show ((rcsC rs).drop (1 * 172)).take ((nr - 1) * 172) = rcsC (rs.drop 1) from (rcsC_part hrs (by omega)).trans (congrArg rcsC (by first | rfl | (rw [List.drop_zero]; done) | (rw [List.take_of_length_le (by rw [List.length_drop]; omega)])))] at hv_27
 have h_26 := h_25.within (e' := .view (slA ar 1 cr 172) (rcsC (rs.drop 1))) M7 rfl (View.arg hv_27) rfl rfl (sub_blkS (by rw [rcsC_len hrs]; omega))
 refine qV rfl (R.lenS (a := slA ar 1 cr 172) (m := nr - 1) rfl rfl underlying45) (qM (vi 0) rfl rfl ?_)
 refine WL.nil (thn_n (WP.block ?_))
 have h_36 := ((((((((h_26.up J7).up J1).up J8).up J3).up J8).up J8).up J8).up J8).up J8
 refine WP.loopG (G := Nat × Option Addr × Nat × List Value) [5, 7, 9, 33, 34, 35, 36, 37, 38, 39, 40, 41, 42, 43, 44, 45, 46, 47, 48] (fun (k, la2, lc2, lx2) => [(7, (vi 0)), (33, (vn k))]) (fun (k, la2, lc2, lx2) m w1 => HP w00 w1 (Ent.blk ob .nw 90 [(1, [(.bool id)]), (32, ms.map vu8), (1, [(.slice da dn dc)]), (1, [(vn ((rpS id df dn u lg rs k).1))]), (1, [(.map (some mp))]), (1, [(.slice la2 ((rpS id df dn u lg rs k).2.1.length) lc2)])] :: Ent.row la2 ((rpS id df dn u lg rs k).2.1.length) lc2 64 67 lx2 :: Ent.obj mp .nw (.map (mArr ((rpS id df dn u lg rs k).2.1)) ((rpS id df dn u lg rs k).2.1.length)) :: Ent.pin (sblks lx2) (fun w => Lgs w lx2 ((rpS id df dn u lg rs k).2.1)) :: Ent.view da (df.map vu8) :: Ent.blk b_21 .nw 23 [(32, ((rpS id df dn u lg rs k).2.2).map vu8)] :: Ent.view ar (rcsC rs) :: Ent.view (slA ar 1 cr 172) (rcsC (rs.drop 1)) :: Ent.blk b_1 .nw 23 [(32, (zB 32).map vu8)] :: L) ∧ (k + 1 ≤ nr) ∧ m = nr + 1 - k) ⟨(0, la_16, lc_17, lx_18), _, ⟨rfl, rfl, trivial⟩, h_36, (by omega), rfl⟩ ?_
 rintro ⟨k, la2, lc2, lx2⟩ m_39 J_40 w_37 ⟨h_38, hkn, rfl⟩
 have hsu := rpS_u (id := id) (df := df) (dn := dn) (u := u) (lg := lg) (rs := rs) k
 have hsl := rpS_l (id := id) (df := df) (dn := dn) (u := u) (lg := lg) (rs := rs) k
 have hs32 := rpS_32 (id := id) (u := u) (rs := rs) hdf h32 k
 refine WP.seq (WP.reg ?_)
 refine qV rfl (R.bin rfl rfl (bi_lss (r := decide ((((k : Nat) : Int) : Int) < ((nr - 1 : Nat) : Int))) rfl)) ?_
 refine WL.nil (thn_n (WP.seq ?_))
 refine WP.cond (b := decide ((((k : Nat) : Int) : Int) < ((nr - 1 : Nat) : Int))) rfl (fun c_41 => ?_) (fun c_41 => ?_)
 ·have p_42 := of_decide_eq_true c_41
  refine WP.skip (thn_n (WP.seq (WP.block (WP.seq ?_))))
  have hl1 : k + 1 < rs.length := by omega
  have hr1 : okRc (rs.getD (k + 1) zRc) := hrs _ (getD_mem hl1)
  obtain ⟨_, _, _, hbk1, hbp1⟩ := hr1
  have hr1 : okRc (rs.getD (k + 1) zRc) := hrs _ (getD_mem hl1)
  have hm1 := allP_t hall (k + 1) hl1
  have hk1 : ¬ (rs.getD (k + 1) zRc).1 = 1 := fun e => absurd (hm1.2.1 e) (by omega)
  refine WP.reg ?_
  refine qV rfl (R.indexS (a := slA ar 1 cr 172) (i := k) (off := k * 172) (xs := rcsC (rs.drop 1)) rfl rfl rfl (by omega) (viewV (h_38.ok _ M7)) (by rw [rcsC_len fun r hr => hrs r (List.mem_of_mem_drop hr), List.length_drop]; omega) underlying45 sizeOf86 rfl) (qV rfl (R.loadGA (a := slA ar 1 cr 172) (i := k * 172) (xs := rcsC (rs.drop 1)) (cs := flat [(1, [(vi ((rs.getD (k + 1) zRc).1))]), (32, ((rs.getD (k + 1) zRc).2.1).map vu8), (1, [(vi ((rs.getD (k + 1) zRc).2.2.1))]), (128, ((rs.getD (k + 1) zRc).2.2.2.1).map vu8), (1, [(vu64 ((rs.getD (k + 1) zRc).2.2.2.2.1))]), (8, ((rs.getD (k + 1) zRc).2.2.2.2.2.1).map vu64), (1, [(.bool ((rs.getD (k + 1) zRc).2.2.2.2.2.2))])]) rfl (viewV (h_38.ok _ M7)) isAgg86 sizeOf86 (rcsC_at1 hrs hl1) (rcC_len hr1) (by decide)) ?_)
  refine WL.alloc (segs := [(1, [(vi 0)]), (32, (zB 32).map vu8), (1, [(vi 0)]), (128, (zB 128).map vu8), (1, [(vu64 0)]), (8, (zW 8).map vu64), (1, [(.bool false)])]) h_38 (zv typeInfo86 rfl) rfl (sC sV (sC (s8 lr) (sC sV (sC (s8 lr) (sC sV (sC (SOk.u64 lr) (sC sV sN))))))) rfl (fun b_43 w_44 h_45 => ?_)
  refine WL.storeA [] [(1, [(vi 0)]), (32, (zB 32).map vu8), (1, [(vi 0)]), (128, (zB 128).map vu8), (1, [(vu64 0)]), (8, (zW 8).map vu64), (1, [(.bool false)])] [(1, [(vi ((rs.getD (k + 1) zRc).1))]), (32, ((rs.getD (k + 1) zRc).2.1).map vu8), (1, [(vi ((rs.getD (k + 1) zRc).2.2.1))]), (128, ((rs.getD (k + 1) zRc).2.2.2.1).map vu8), (1, [(vu64 ((rs.getD (k + 1) zRc).2.2.2.2.1))]), (8, ((rs.getD (k + 1) zRc).2.2.2.2.2.1).map vu64), (1, [(.bool ((rs.getD (k + 1) zRc).2.2.2.2.2.2))])] [] h_45 rfl rfl sizeOf86 At.h (by decide) rfl rfl rfl rfl rfl rfl (sC sV (sC (s8 hr1.1) (sC sV (sC (s8 hr1.2.1) (sC sV (sC (SOk.u64 hr1.2.2.1) (sC sV sN))))))) (fun w_46 h_47 => ?_)
  refine WL.nil (thn_n (WP.seq (WP.seq (WP.reg ?_))))
  refine qM (vi 0) rfl rfl (qV rfl (R.bin rfl rfl (bi_neq (r := false) (by decide))) ?_)
  refine WL.nil (thn_n ?_)
  refine WP.condF rfl ?_
  refine WP.skip (thn_n (WP.reg ?_))
  refine qM (pO ob 0) rfl rfl (qV rfl (R.loadA [] [(32, ((rpS id df dn u lg rs k).2.2).map vu8)] [] (cs := ((rpS id df dn u lg rs k).2.2).map vu8) rfl isAgg23 sizeOf23 (h_47.ok _ M6) rfl rfl rfl rfl) (qV rfl (R.loadA [] [(1, [(vi ((rs.getD (k + 1) zRc).1))]), (32, ((rs.getD (k + 1) zRc).2.1).map vu8), (1, [(vi ((rs.getD (k + 1) zRc).2.2.1))]), (128, ((rs.getD (k + 1) zRc).2.2.2.1).map vu8), (1, [(vu64 ((rs.getD (k + 1) zRc).2.2.2.2.1))]), (8, ((rs.getD (k + 1) zRc).2.2.2.2.2.1).map vu64), (1, [(.bool ((rs.getD (k + 1) zRc).2.2.2.2.2.2))])] [] rfl isAgg86 sizeOf86 (h_47.ok _ M0) rfl rfl rfl rfl) ?_))
  have h_52 := ((((h_47.up J5).up J5).up J5).up J5).up J5
  refine WL.call Try.call42 rfl rfl (c_NextA id ob mp ms df hms da dn dc ((rpS id df dn u lg rs k).1) hdf la2 lc2 lx2 ((rpS id df dn u lg rs k).2.1) (by omega) (by omega) ((rpS id df dn u lg rs k).2.2) (rpS_len hdf h32 k) ((rs.getD (k + 1) zRc).1) hbk1 ((rs.getD (k + 1) zRc).2.1) hr1.1 ((rs.getD (k + 1) zRc).2.2.1) hbp1 ((rs.getD (k + 1) zRc).2.2.2.1) hr1.2.1 ((rs.getD (k + 1) zRc).2.2.2.2.1) ((rs.getD (k + 1) zRc).2.2.2.2.2.1) hr1.2.2.1 ((rs.getD (k + 1) zRc).2.2.2.2.2.2) hm1.1 hk1 _ h_52) rfl ?_
  rintro _ w_56 ⟨la_53, lc_54, lx_55, rfl, h_57⟩
  refine qM (.tuple [(.agg ⟨(anD id df dn ((rpS id df dn u lg rs k).1) ((rpS id df dn u lg rs k).2.1) (qN ((rpS id df dn u lg rs k).2.2) ((rs.getD (k + 1) zRc).1) ((rs.getD (k + 1) zRc).2.2.1) ((rs.getD (k + 1) zRc).2.2.2.1) ((rs.getD (k + 1) zRc).2.2.2.2.1) ((rs.getD (k + 1) zRc).2.2.2.2.2.1) ((rs.getD (k + 1) zRc).2.2.2.2.2.2))).map vu8⟩), (vi 0)].toArray) rfl rfl (qV rfl (R.extract rfl rfl) (qV rfl (R.extract rfl rfl) ?_))
  refine WL.storeA [] [(32, ((rpS id df dn u lg rs k).2.2).map vu8)] [(32, (anD id df dn ((rpS id df dn u lg rs k).1) ((rpS id df dn u lg rs k).2.1) (qN ((rpS id df dn u lg rs k).2.2) ((rs.getD (k + 1) zRc).1) ((rs.getD (k + 1) zRc).2.2.1) ((rs.getD (k + 1) zRc).2.2.2.1) ((rs.getD (k + 1) zRc).2.2.2.2.1) ((rs.getD (k + 1) zRc).2.2.2.2.2.1) ((rs.getD (k + 1) zRc).2.2.2.2.2.2))).map vu8)] [] h_57 rfl rfl sizeOf23 Y6 (by decide) rfl rfl rfl rfl rfl rfl (sC (s8 (anD_len hdf hs32)) sN) (fun w_58 h_59 => ?_)
  refine qA (vi 0) rfl rfl ?_
  refine WL.nil (inb_n (thn_n (WP.reg ?_)))
  refine qV rfl (R.bin rfl rfl (bi_add (c := ((k + 1 : Nat) : Int)) (by omega) (by omega))) (qM (vn (k + 1)) rfl rfl ?_)
  refine WL.nil (thn_n ?_)
  have h_70 := ((((((((((h_59.up J5).drop rfl).up J8).up J8).up J8).up J8).up J8).up J8).up J8).up J8).up J8
  exact ⟨(k + 1, la_53, lc_54, lx_55), _, (by omega), (U4 rfl rfl rfl rfl (U4 rfl rfl rfl rfl (U4 rfl rfl rfl rfl (U4 rfl rfl rfl rfl (Ag.updL rfl (Ag.mix _ _ _)))))), ⟨rfl, rfl, trivial⟩, h_70, (by omega), rfl⟩
 ·have p_71 := of_decide_eq_false c_41
  refine WP.exit (thn_x (thn_x (inb_hit (thn_n (WP.seq (WP.reg ?_))))))
  refine qV rfl (R.loadA [] [(32, ((rpS id df dn u lg rs k).2.2).map vu8)] [] (cs := ((rpS id df dn u lg rs k).2.2).map vu8) rfl isAgg23 sizeOf23 (h_38.ok _ M5) rfl rfl rfl rfl) (qM (vi 0) rfl rfl ?_)
  refine WL.storeA [] [(32, (zB 32).map vu8)] [(32, ((rpS id df dn u lg rs k).2.2).map vu8)] [] h_38 rfl rfl sizeOf23 Y8 (by decide) rfl rfl rfl rfl rfl rfl (sC (s8 (rpS_len hdf h32 k)) sN) (fun w_72 h_73 => ?_)
  refine qA (vi 0) rfl rfl ?_
  refine WL.nil (thn_n (WP.ret ?_))
  refine ret_of results18 (RV.cell rfl (h_73.loadA (cs := ((rpS id df dn u lg rs k).2.2).map vu8) isAgg23 sizeOf23 M8 rfl rfl) (RV.tmp (v := (vi 0)) rfl RV.nil)) ?_
  have h_85 := (((((((((((h_73.up J5).drop rfl).up J6).drop rfl).up J6).drop rfl).up J5).up J5).up J5).up J5).up J5).up J5
  have hke : k = nr - 1 := by omega
  subst hke
  exact ⟨_, _, _, rfl, h_85⟩
end Go.Proofs.Yteclkcpdclimnaa

namespace Go.Proofs.Yteclkcpdclimnaa
open Go.Proofs.Try
open Go.Vc Go.Orc Go.Sh Go.RowKit
set_option maxRecDepth 20000

section
variable {id : Bool} {df : List UInt8} {dn u : Nat} {lg : Lg} {rs : List Rc}
theorem rpS_mono {q : Qn} {d : List UInt8} {j : Nat} (h : lk q (rpS id df dn u lg rs j).2.1 = some d) : ∀ {m}, j ≤ m → lk q (rpS id df dn u lg rs m).2.1 = some d
 | 0, hm => by
  have e : j = 0 := by omega
  subst e; exact h
 | m + 1, hm => by
  by_cases e : j = m + 1
  ·subst e; exact h
  ·exact lk_anL (rpS_mono h (m := m) (by omega))
theorem rpS_again {m : Nat} : ∀ {k}, k ≤ m → rpS id df dn (rpS id df dn u lg rs m).1 (rpS id df dn u lg rs m).2.1 rs k = ((rpS id df dn u lg rs m).1, (rpS id df dn u lg rs m).2.1, (rpS id df dn u lg rs k).2.2)
 | 0, hk => by
  have h : lk (1, (List.replicate 32 (0 : UInt8)), 1, [(rs.getD 0 zRc).2.1].flatten) (rpS id df dn u lg rs m).2.1 = some (rpS id df dn u lg rs 0).2.2 := rpS_mono (j := 0) lk_self (by omega)
  rw [rpS, anU_lk h, anL_lk h, anD_lk h]
 | k + 1, hk => by
  have ih := rpS_again (m := m) (k := k) (by omega)
  have h : lk (qN (rpS id df dn u lg rs k).2.2 (rs.getD (k + 1) zRc).1 (rs.getD (k + 1) zRc).2.2.1 (rs.getD (k + 1) zRc).2.2.2.1 (rs.getD (k + 1) zRc).2.2.2.2.1 (rs.getD (k + 1) zRc).2.2.2.2.2.1 (rs.getD (k + 1) zRc).2.2.2.2.2.2) (rpS id df dn u lg rs m).2.1 = some (rpS id df dn u lg rs (k + 1)).2.2 := rpS_mono (j := k + 1) lk_self hk
  rw [rpS, ih]
  simp only
  rw [anU_lk h, anL_lk h, anD_lk h]
end
theorem c_ReplayNo (id : Bool) (ob mp : Nat) (ms : List UInt8) (hms : ms.length = 32) (da : Option Addr) (dn dc u : Nat) (la : Option Addr) (ln lc : Nat) (ar : Option Addr) (nr cr : Nat) (rs : List Rc) (hrl : rs.length = nr) (hrs : ∀ r ∈ rs, okRc r) (hnr : nr ≤ 1000000) (hm : mayAllB rs = false) (w : World) (hcb : (Ent.blk ob .ro 90 [(1, [(.bool id)]), (32, ms.map vu8), (1, [(.slice da dn dc)]), (1, [(vi ((u : Nat) : Int))]), (1, [(.map (some mp))]), (1, [(.slice la ln lc)])]).ok w.heap.size w) (hvr : View w ar (rcsC rs)) :
  Cs Try.prog 18 [(.pointer (some ⟨ob, 0, none⟩)), (.slice ar nr cr)].toArray w (fun v w1 => v = (.tuple [(.agg ⟨(List.replicate 32 (0 : UInt8)).map vu8⟩), (vi 2)].toArray) ∧ Chg w w1 []) := by
 refine Cs.of (n := 51) (args := [(pO ob 0), (.slice ar nr cr)]) Try.func18 rfl rfl rfl ?_
 have h_0 := HP.init w
 have h_01 := h_0.oldV hcb rfl (by simp [Ent.mut])
 have h_00 := h_01.oldV (View.arg hvr) rfl (by simp [Ent.mut])
 refine WP.seq (WP.reg ?_)
 refine WL.alloc (segs := [(32, (zB 32).map vu8)]) h_00 (zv typeInfo23 rfl) rfl (sC (s8 lr) sN) rfl (fun b_1 w_2 h_3 => ?_)
 refine qA (vi 0) rfl rfl ?_
 refine WL.nil (thn_n (WP.seq (WP.block (WP.seq (WP.reg ?_)))))
 refine qM (pO ob 0) rfl rfl ?_
 refine WL.call Try.call40 rfl rfl (c_mth id ob mp ms hms da dn dc u la ln lc _ (h_3.argR M2)) rfl ?_
 rintro _ w_5 ⟨rfl, hc_4⟩
 have h_6 := h_3.same hc_4
 refine qV rfl (R.not (b := true) rfl) (qA (.bool false) rfl rfl ?_)
 refine WL.nil (thn_n ?_)
 refine WP.condF rfl ?_
 refine WP.seq (WP.reg ?_)
 refine qM (.slice ar nr cr) rfl rfl ?_
 refine WL.call Try.call41 rfl rfl (c_MayAllA ar nr cr rs hrl hrs (by omega) _ (viewV (h_6.ok _ M1))) rfl ?_
 rintro _ w_8 ⟨rfl, hc_7⟩
 have h_9 := h_6.same hc_7
 refine qV rfl (R.not (b := false) (congrArg Value.bool hm)) (qA (.bool true) rfl rfl ?_)
 refine WL.nil (thn_n ?_)
 refine WP.condT rfl ?_
 refine WP.seq (WP.reg ?_)
 refine qV rfl (R.buildA (vs := []) (cs := (zB 32).map vu8) underlying23 sizeOf5 (zv typeInfo23 rfl) rfl rfl) ?_
 refine WL.storeA [] [(32, (zB 32).map vu8)] [(32, (zB 32).map vu8)] [] h_9 rfl rfl sizeOf23 At.h (by decide) rfl rfl rfl rfl rfl rfl (sC (s8 lr) sN) (fun w_10 h_11 => ?_)
 refine qA (vi 2) rfl rfl ?_
 refine WL.nil (thn_n (WP.ret (inb_r (thn_r ?_))))
 refine ret_of results18 (RV.cell rfl (h_11.loadA (cs := (zB 32).map vu8) isAgg23 sizeOf23 M0 rfl rfl) (RV.tmp (v := (vi 2)) rfl RV.nil)) ?_
 exact ⟨rfl, h_11.chgS⟩
end Go.Proofs.Yteclkcpdclimnaa

namespace Go.Proofs.Yteclkcpdclimnaa
open Go.Proofs.Try
open Go.Vc Go.Orc Go.Sh Go.RowKit
set_option maxRecDepth 20000

theorem leN8_inj {a b : Nat} (ha : a < 18446744073709551616) (hb : b < 18446744073709551616) (h : leN 8 a = leN 8 b) : a = b := by
 have := congrArg natLE h
 rw [natLE_leN, natLE_leN] at this
 omega
theorem u64_inj8 {a b : UInt64} (h : leN 8 a.toNat = leN 8 b.toNat) : a = b := UInt64.toNat_inj.1 (leN8_inj a.toNat_lt b.toNat_lt h)
theorem regs_inj {f g : List UInt64} (hf : f.length = 8) (hg : g.length = 8) (h : regsB f = regsB g) : f = g := by
 unfold regsB at h
 obtain ⟨h, e7⟩ := List.append_inj' h (by rw [leN_len, leN_len])
 obtain ⟨h, e6⟩ := List.append_inj' h (by rw [leN_len, leN_len])
 obtain ⟨h, e5⟩ := List.append_inj' h (by rw [leN_len, leN_len])
 obtain ⟨h, e4⟩ := List.append_inj' h (by rw [leN_len, leN_len])
 obtain ⟨h, e3⟩ := List.append_inj' h (by rw [leN_len, leN_len])
 obtain ⟨h, e2⟩ := List.append_inj' h (by rw [leN_len, leN_len])
 obtain ⟨h, e1⟩ := List.append_inj' h (by rw [leN_len, leN_len])
 obtain ⟨h, e0⟩ := List.append_inj' h (by rw [leN_len, leN_len])
 refine lists_eq (z := (0 : UInt64)) (by omega) fun j hj => ?_
 have hj8 : j < 8 := by omega
 match j, hj8 with
 | 0, _ => exact u64_inj8 e0
 | 1, _ => exact u64_inj8 e1
 | 2, _ => exact u64_inj8 e2
 | 3, _ => exact u64_inj8 e3
 | 4, _ => exact u64_inj8 e4
 | 5, _ => exact u64_inj8 e5
 | 6, _ => exact u64_inj8 e6
 | 7, _ => exact u64_inj8 e7
theorem recB_inj {pc pc' : UInt64} {rg rg' : List UInt64} {b b' : Bool} (hl : rg.length = 8) (hl' : rg'.length = 8) (h : recB pc rg b = recB pc' rg' b') : pc = pc' ∧ rg = rg' ∧ b = b' := by
 have f1 := recB_fl pc rg b
 have f2 := recB_fl pc' rg' b'
 unfold recB at h
 rw [gr_B (by rw [f1]; decide), gr_B (by rw [f2]; decide)] at h
 have h2 := (List.append_inj h (by rw [f1, f2])).1
 simp only [List.flatten_cons, List.flatten_nil, List.append_nil] at h2
 have h3 := List.append_cancel_left h2
 obtain ⟨e1, h4⟩ := List.append_inj h3 (by rw [leN_len, leN_len])
 obtain ⟨e2, e3⟩ := List.append_inj h4 (by rw [regsB_len, regsB_len])
 refine ⟨u64_inj8 e1, regs_inj hl hl' e2, ?_⟩
 cases b <;> cases b' <;> simp_all
theorem qN_inj {md md' : List UInt8} {r s : Rc} (h1 : md.length = 32) (h2 : md'.length = 32) (o1 : okRc r) (o2 : okRc s) (m1 : mB r = true) (m2 : mB s = true) (k1 : r.1 ≠ 1) (k2 : s.1 ≠ 1) (h : qN md r.1 r.2.2.1 r.2.2.2.1 r.2.2.2.2.1 r.2.2.2.2.2.1 r.2.2.2.2.2.2 = qN md' s.1 s.2.2.1 s.2.2.2.1 s.2.2.2.2.1 s.2.2.2.2.2.1 s.2.2.2.2.2.2) : md = md' ∧ r = s := by
 obtain ⟨kd, val, pg, gr, pc, rg, run⟩ := r
 obtain ⟨kd', val', pg', gr', pc', rg', run'⟩ := s
 rcases mayB_to m1 with c | c | c
 ·exact absurd c.1 k1
 ·simp only at c
  obtain ⟨rfl, rfl, hp, rfl, rfl, rfl⟩ := c
  rcases mayB_to m2 with c | c | c
  ·exact absurd c.1 k2
  ·simp only at c
   obtain ⟨rfl, rfl, hp', rfl, rfl, rfl⟩ := c
   have e := congrArg (fun q : Qn => q.2.2.2) h
   simp only [qN, if_pos, List.flatten_cons, List.flatten_nil, List.append_nil] at e
   obtain ⟨e1, e⟩ := List.append_inj e (by rw [h1, h2])
   obtain ⟨e2, e3⟩ := List.append_inj e (by rw [leN_len, leN_len])
   have e4 := leN8_inj (UInt64.toNat_lt _) (UInt64.toNat_lt _) e2
   have e5 : pg.toNat = pg'.toNat := by
    have a1 : (UInt64.ofNat pg.toNat).toNat = pg.toNat := by simp; omega
    have a2 : (UInt64.ofNat pg'.toNat).toNat = pg'.toNat := by simp; omega
    rw [a1, a2] at e4; exact e4
   have e6 : pg = pg' := by omega
   subst e6; subst e3
   exact ⟨e1, rfl⟩
  ·simp only at c
   have e := congrArg (fun q : Qn => q.2.2.1) h
   rw [c.1] at e
   simp [qN] at e
 ·simp only at c
  obtain ⟨rfl, rfl, rfl, rfl, hc⟩ := c
  rcases mayB_to m2 with c | c | c
  ·exact absurd c.1 k2
  ·simp only at c
   have e := congrArg (fun q : Qn => q.2.2.1) h
   rw [c.1] at e
   simp [qN] at e
  ·simp only at c
   obtain ⟨rfl, rfl, rfl, rfl, hc'⟩ := c
   have e := congrArg (fun q : Qn => q.2.2.2) h
   simp only [qN, show ¬ ((3 : Int) = 2) by decide, if_false, List.flatten_cons, List.flatten_nil, List.append_nil] at e
   obtain ⟨e1, e2⟩ := List.append_inj e (by rw [h1, h2])
   obtain ⟨e3, e4, e5⟩ := recB_inj o1.2.2.1 o2.2.2.1 e2
   subst e3; subst e4; subst e5
   exact ⟨e1, rfl⟩
theorem r0_eq {r s : Rc} (m1 : mB r = true) (m2 : mB s = true) (k1 : r.1 = 1) (k2 : s.1 = 1) (h : r.2.1 = s.2.1) : r = s := by
 obtain ⟨kd, val, pg, gr, pc, rg, run⟩ := r
 obtain ⟨kd', val', pg', gr', pc', rg', run'⟩ := s
 simp only at k1 k2 h
 subst k1; subst k2; subst h
 rcases mayB_to m1 with c | c | c
 ·rcases mayB_to m2 with d | d | d
  ·simp only at c d
   obtain ⟨_, rfl, rfl, rfl, rfl, rfl⟩ := c
   obtain ⟨_, rfl, rfl, rfl, rfl, rfl⟩ := d
   rfl
  ·exact absurd (show (1 : Int) = 2 from d.1) (by decide)
  ·exact absurd (show (1 : Int) = 3 from d.1) (by decide)
 ·exact absurd (show (1 : Int) = 2 from c.1) (by decide)
 ·exact absurd (show (1 : Int) = 3 from c.1) (by decide)
def Qs (rs : List Rc) (A : Nat → List UInt8) : Nat → Qn
 | 0 => (1, (List.replicate 32 (0 : UInt8)), 1, [(rs.getD 0 zRc).2.1].flatten)
 | k + 1 => qN (A k) (rs.getD (k + 1) zRc).1 (rs.getD (k + 1) zRc).2.2.1 (rs.getD (k + 1) zRc).2.2.2.1 (rs.getD (k + 1) zRc).2.2.2.2.1 (rs.getD (k + 1) zRc).2.2.2.2.2.1 (rs.getD (k + 1) zRc).2.2.2.2.2.2
def Good (rs : List Rc) (m : Nat) : Prop := ∀ k, k ≤ m → okRc (rs.getD k zRc) ∧ mB (rs.getD k zRc) = true ∧ ((rs.getD k zRc).1 = 1 ↔ k = 0)
theorem seq_inj {df : List UInt8} {dn u : Nat} {L : Lg} {rs ks : List Rc} {A B : Nat → List UInt8} {m m2 : Nat} (ha : Apt df dn) (hD : DL df dn u L) (hL : L.length < 18446744073709551616) (gR : Good rs m) (gK : Good ks m2) (lA : ∀ k, (A k).length = 32) (lB : ∀ k, (B k).length = 32)
  (hA : ∀ k, k ≤ m → lk (Qs rs A k) L = some (A k)) (hB : ∀ k, k ≤ m2 → lk (Qs ks B k) L = some (B k)) : ∀ i, i ≤ m → ∀ j, j ≤ m2 → A i = B j → i = j ∧ ∀ t, t ≤ i → rs.getD t zRc = ks.getD t zRc := by
 have hq : ∀ i, i ≤ m → ∀ j, j ≤ m2 → A i = B j → Qs rs A i = Qs ks B j := fun i hi j hj e => Classical.byContradiction fun hn => lk_ne ha hD hL (hA i hi) (hB j hj) hn e
 intro i
 induction i with
 | zero =>
  intro hi j hj e
  have h := hq 0 hi j hj e
  cases j with
  | zero =>
   refine ⟨rfl, fun t ht => ?_⟩
   have ht0 : t = 0 := by omega
   subst ht0
   have e2 := congrArg (fun q : Qn => q.2.2.2) h
   simp only [Qs, List.flatten_cons, List.flatten_nil, List.append_nil] at e2
   exact r0_eq (gR 0 hi).2.1 (gK 0 hj).2.1 ((gR 0 hi).2.2.2 rfl) ((gK 0 hj).2.2.2 rfl) e2
  | succ j =>
   have e2 := congrArg (fun q : Qn => q.2.2.1) h
   simp only [Qs, qN] at e2
   split at e2 <;> cases e2
 | succ i ih =>
  intro hi j hj e
  have h := hq (i + 1) hi j hj e
  cases j with
  | zero =>
   have e2 := congrArg (fun q : Qn => q.2.2.1) h
   simp only [Qs, qN] at e2
   split at e2 <;> cases e2
  | succ j =>
   have g1 := gR (i + 1) hi
   have g2 := gK (j + 1) hj
   obtain ⟨e1, e2⟩ := qN_inj (lA i) (lB j) g1.1 g2.1 g1.2.1 g2.2.1 (fun c => absurd (g1.2.2.1 c) (by omega)) (fun c => absurd (g2.2.2.1 c) (by omega)) h
   obtain ⟨e3, e4⟩ := ih (by omega) j (by omega) e1
   subst e3
   refine ⟨rfl, fun t ht => ?_⟩
   by_cases c : t = i + 1
   ·rw [c]; exact e2
   ·exact e4 t (by omega)
theorem rpS_lk {id : Bool} {df : List UInt8} {dn u : Nat} {lg : Lg} {rs : List Rc} {m k : Nat} (h : k ≤ m) : lk (Qs rs (fun j => (rpS id df dn u lg rs j).2.2) k) (rpS id df dn u lg rs m).2.1 = some (rpS id df dn u lg rs k).2.2 := by
 cases k with
 | zero => exact rpS_mono (j := 0) lk_self h
 | succ k => exact rpS_mono (j := k + 1) lk_self h
theorem rpS_keep {id : Bool} {df : List UInt8} {dn u : Nat} {lg : Lg} {rs : List Rc} {q : Qn} {d : List UInt8} (h : lk q lg = some d) : ∀ k, lk q (rpS id df dn u lg rs k).2.1 = some d
 | 0 => lk_anL h
 | k + 1 => lk_anL (rpS_keep h k)
theorem rpS_DL {df : List UInt8} {dn u : Nat} {lg : Lg} {rs : List Rc} (h : DL df dn u lg) : ∀ k, DL df dn (rpS true df dn u lg rs k).1 (rpS true df dn u lg rs k).2.1
 | 0 => DL.an h
 | k + 1 => DL.an (rpS_DL h k)
theorem good_of {rs : List Rc} (hs : ∀ r ∈ rs, okRc r) (h : mayAllB rs = true) : Good rs (rs.length - 1) := fun k hk => by
 obtain ⟨h0, h1⟩ := mayAll_P h
 exact ⟨hs _ (getD_mem (by omega)), allP_t h1 k (by omega)⟩
theorem apart {df : List UInt8} {dn : Nat} {rs ks : List Rc} {n n2 : Nat} (hl : df.length = 32 * dn) (ha : Apt df dn) (hs : ∀ r ∈ rs, okRc r) (hk : ∀ r ∈ ks, okRc r) (hr : rs.length = n) (hr2 : ks.length = n2) (h1 : mayAllB rs = true) (h2 : mayAllB ks = true) (hn : n ≤ 1000) (hn2 : n2 ≤ 1000) :
  (rpS true df dn 0 ([] : Lg) rs (n - 1)).2.2 = (rpS true df dn (rpS true df dn 0 ([] : Lg) rs (n - 1)).1 (rpS true df dn 0 ([] : Lg) rs (n - 1)).2.1 ks (n2 - 1)).2.2 ↔ rs = ks := by
 subst hr; subst hr2
 constructor
 ·intro e
  have hD : DL df dn _ (rpS true df dn 0 ([] : Lg) rs (rs.length - 1)).2.1 := rpS_DL DL.nil _
  have b1 := rpS_l (id := true) (df := df) (dn := dn) (u := 0) (lg := ([] : Lg)) (rs := rs) (rs.length - 1)
  have b2 := rpS_l (id := true) (df := df) (dn := dn) (u := (rpS true df dn 0 ([] : Lg) rs (rs.length - 1)).1) (lg := (rpS true df dn 0 ([] : Lg) rs (rs.length - 1)).2.1) (rs := ks) (ks.length - 1)
  simp only [List.length_nil] at b1
  have h32 := rpS_32 (id := true) (u := 0) (rs := rs) hl okN (rs.length - 1)
  obtain ⟨e1, e2⟩ := seq_inj ha (rpS_DL hD (rs := ks) (ks.length - 1)) (by omega) (good_of hs h1) (good_of hk h2) (fun k => rpS_len hl okN k) (fun k => rpS_len hl h32 k) (fun k hk => rpS_keep (rpS_lk hk) _) (fun k hk => rpS_lk hk) _ (Nat.le_refl _) _ (Nat.le_refl _) e
  have p1 := (mayAll_P h1).1
  have p2 := (mayAll_P h2).1
  exact lists_eq (z := zRc) (by omega) fun j hj => e2 j (by omega)
 ·intro e
  subst e
  rw [rpS_again (Nat.le_refl _)]

theorem c_distinct12 (a : Option Addr) (n cap : Nat) (df : List UInt8) (hl : df.length = 32 * n) (hn : n ≤ 1000000) (w : World) (hv : View w a (df.map vu8)) :
  Cs Try.prog 16 [(.slice a n cap)].toArray w (fun v w1 => ∃ b, v = .bool b ∧ (b = true → Apt df n) ∧ Chg w w1 []) := by
 refine Cs.of (n := 31) (args := [(.slice a n cap)]) Try.func16 rfl rfl rfl ?_
 have h_0 := HP.init w
 have h_00 := h_0.old (View.arg hv) (fun f hf => by cases hf)
 refine WP.seq (WP.reg ?_)
 refine qA (.bool false) rfl rfl ?_
 refine WL.nil (thn_n (WP.seq (WP.seq (WP.reg ?_))))
 refine qA (vi 0) rfl rfl ?_
 refine WL.nil (thn_n (WP.block ?_))
 refine WP.loopG (G := Nat) [2, 3, 4, 5, 6, 7, 8, 9, 10, 11, 12, 13, 14, 15, 16, 17, 18, 19, 20, 21, 22, 23, 24, 25, 26, 27, 28, 29, 30] (fun i => [(3, (vn i))]) (fun i m w1 => HP w w1 [.view a (df.map vu8)] ∧ (i ≤ n) ∧ (∀ j, j < i → (∀ k, k < j → dr df k ≠ dr df j) ∧ df.getD (j * 32 + 31) 0 ≠ 1) ∧ m = n + 1 - i) ⟨0, _, ⟨rfl, trivial⟩, h_00, Nat.zero_le _, (fun j hj => by omega), rfl⟩ ?_
 rintro i m_3 J_4 w_1 ⟨h_2, hin, hA, rfl⟩
 refine WP.seq (WP.seq (WP.reg ?_))
 refine qM (vn i) rfl rfl (qM (.slice a n cap) rfl rfl (qV rfl (R.lenS (a := a) (m := n) rfl rfl underlying24) (qV rfl (R.bin rfl rfl (bi_lss (r := decide ((((i : Nat) : Int) : Int) < ((n : Nat) : Int))) rfl)) ?_)))
 refine WL.nil (thn_n ?_)
 refine WP.cond (b := decide ((((i : Nat) : Int) : Int) < ((n : Nat) : Int))) rfl (fun c_5 => ?_) (fun c_5 => ?_)
 ·have p_6 := of_decide_eq_true c_5
  refine WP.skip (thn_n (WP.seq (WP.block (WP.seq (WP.seq (WP.reg ?_))))))
  refine qA (vi 0) rfl rfl ?_
  refine WL.nil (thn_n (WP.block ?_))
  refine WP.loopG (G := Nat) [2, 4, 11, 12, 13, 14, 15, 16, 17, 18, 19, 20, 21, 22, 23, 24] (fun q => [(4, (vn q))]) (fun q m w1 => HP w w1 [.view a (df.map vu8)] ∧ (q ≤ i) ∧ (∀ k, k < q → dr df k ≠ dr df i) ∧ m = i + 1 - q) ⟨0, _, ⟨rfl, trivial⟩, h_2, Nat.zero_le _, (fun j hj => by omega), rfl⟩ ?_
  rintro q m_9 J_10 w_7 ⟨h_8, hqi, hB, rfl⟩
  refine WP.seq (WP.seq (WP.reg ?_))
  refine qM (vn q) rfl rfl (qM (vn i) rfl rfl (qV rfl (R.bin rfl rfl (bi_lss (r := decide ((((q : Nat) : Int) : Int) < ((i : Nat) : Int))) rfl)) ?_))
  refine WL.nil (thn_n ?_)
  refine WP.cond (b := decide ((((q : Nat) : Int) : Int) < ((i : Nat) : Int))) rfl (fun c_11 => ?_) (fun c_11 => ?_)
  ·have p_12 := of_decide_eq_true c_11
   refine WP.skip (thn_n (WP.seq (WP.block (WP.seq ?_))))
   refine WP.drawT (SL w.heap.size [.view a (df.map vu8)]) (.q 0 (.q 1 (.q 2 (.q 3 (.q 4 (.q 5 (.q 6 (.q 7 (.q 8 .nil))))))))) (by kernel_rfl) (by kernel_rfl) rfl (by kernel_rfl) (fun w_13 hc_15 => (SL.cons ((h_8.same hc_15).ok _ M0) (SL.nil _ _))) (fun w_13 hc_15 => ?_)
   have h_14 := h_8.same hc_15
   refine qT rfl rfl (fun wq hS => R.move (v := (.slice a n cap)) rfl) ?_
   refine qT rfl rfl (fun wq hS => R.move (v := (vn q)) rfl) ?_
   refine qT rfl rfl (fun wq hS => R.indexS (a := a) (i := q) (off := q * 32) (xs := df.map vu8) rfl rfl rfl (by omega) (viewV (hS _ M0)) (lt_len (K := 32 * n) (len_map hl) (by omega)) underlying24 sizeOf23 rfl) ?_
   refine qT rfl rfl (fun wq hS => R.loadGA (a := a) (i := q * 32) (xs := df.map vu8) (cs := (((df).drop (q * 32)).take 32).map vu8) rfl (viewV (hS _ M0)) isAgg23 sizeOf23 (by rw [List.map_take, List.map_drop]) (len_map (subLen (K := 32 * n) hl (by omega) : List.length (((df).drop (q * 32)).take 32) = 32)) (by decide)) ?_
   refine qT rfl rfl (fun wq hS => R.move (v := (.slice a n cap)) rfl) ?_
   refine qT rfl rfl (fun wq hS => R.move (v := (vn i)) rfl) ?_
   refine qT rfl rfl (fun wq hS => R.indexS (a := a) (i := i) (off := i * 32) (xs := df.map vu8) rfl rfl rfl (by omega) (viewV (hS _ M0)) (lt_len (K := 32 * n) (len_map hl) (by omega)) underlying24 sizeOf23 rfl) ?_
   refine qT rfl rfl (fun wq hS => R.loadGA (a := a) (i := i * 32) (xs := df.map vu8) (cs := (((df).drop (i * 32)).take 32).map vu8) rfl (viewV (hS _ M0)) isAgg23 sizeOf23 (by rw [List.map_take, List.map_drop]) (len_map (subLen (K := 32 * n) hl (by omega) : List.length (((df).drop (i * 32)).take 32) = 32)) (by decide)) ?_
   refine qT rfl rfl (fun wq hS => R.eqA (xs := (((df).drop (q * 32)).take 32).map vu8) (ys := (((df).drop (i * 32)).take 32).map vu8) (r := decide (((df).drop (q * 32)).take 32 = ((df).drop (i * 32)).take 32)) rfl rfl eqGuardType23 kt23 (by decide) ag23 (Typ.u8s underlying23 ce23 underlying5 ce5 (subLen (K := 32 * n) hl (by omega) : List.length (((df).drop (q * 32)).take 32) = 32)) (Typ.u8s underlying23 ce23 underlying5 ce5 (subLen (K := 32 * n) hl (by omega) : List.length (((df).drop (i * 32)).take 32) = 32)) (map_inj_u8.trans (decT _))) ?_
   refine WT.nil (thn_n ?_)
   refine WP.cond (b := decide (((df).drop (q * 32)).take 32 = ((df).drop (i * 32)).take 32)) rfl (fun c_16 => ?_) (fun c_16 => ?_)
   ·have p_17 := of_decide_eq_true c_16
    refine WP.seq (WP.reg ?_)
    refine qA (.bool false) rfl rfl ?_
    refine WL.nil (thn_n (WP.ret (inb_r (thn_r (thn_r (inb_r (thn_r (inb_r (thn_r (thn_r (inb_r (thn_r ?_))))))))))))
    refine ret_of results16 (RV.tmp (v := (.bool false)) rfl RV.nil) ?_
    exact ⟨false, rfl, (fun h => by cases h), h_14.chgS⟩
   ·have p_18 := of_decide_eq_false c_16
    refine WP.skip (inb_n (thn_n (WP.reg ?_)))
    refine qM (vn q) rfl rfl (qV rfl (R.bin rfl rfl (bi_add (c := ((q + 1 : Nat) : Int)) (by omega) (by omega))) (qA (vn (q + 1)) rfl rfl ?_))
    refine WL.nil (thn_n ?_)
    exact ⟨q + 1, _, (by omega), (Ag.upd rfl (U2 rfl rfl (U4 rfl rfl rfl rfl (U4 rfl rfl rfl rfl (U4 rfl rfl rfl rfl (Ag.updL rfl (Ag.mix _ _ _))))))), ⟨rfl, trivial⟩, h_14, (by omega), (fun j hj => (Nat.lt_or_eq_of_le (Nat.le_of_lt_succ hj)).elim (fun e => hB j e) (fun e => by rw [e]; exact p_18)), rfl⟩
  ·have p_19 := of_decide_eq_false c_11
   refine WP.exit (thn_x (thn_x (inb_hit (thn_n (WP.seq (WP.reg ?_))))))
   refine qM (.slice a n cap) rfl rfl (qM (vn i) rfl rfl (qV rfl (R.indexS (a := a) (i := i) (off := i * 32) (xs := df.map vu8) rfl rfl rfl (by omega) (viewV (h_8.ok _ M0)) (lt_len (K := 32 * n) (len_map hl) (by omega)) underlying24 sizeOf23 rfl) (qV rfl (R.indexG (a := a) (j := i * 32) (i := 31) (off' := i * 32 + 31) rfl rfl rfl (by decide) underlying23 sizeOf5 rfl) (qV rfl (R.loadG rfl (viewV (h_8.ok _ M0)) isAgg5 (get_u8 (lt_len (K := 32 * n) hl (by omega)))) (qV rfl (R.bin (v := (.bool (decide ((df.getD (i * 32 + 31) 0 : UInt8) = 1)))) rfl rfl (b8_eql (df.getD (i * 32 + 31) 0) 1 (r := decide ((df.getD (i * 32 + 31) 0 : UInt8) = 1)) rfl)) ?_)))))
   refine WL.nil (thn_n ?_)
   refine WP.cond (b := decide ((df.getD (i * 32 + 31) 0 : UInt8) = 1)) rfl (fun c_20 => ?_) (fun c_20 => ?_)
   ·have p_21 := of_decide_eq_true c_20
    refine WP.seq (WP.reg ?_)
    refine qA (.bool false) rfl rfl ?_
    refine WL.nil (thn_n (WP.ret (inb_r (thn_r (thn_r (inb_r (thn_r ?_)))))))
    refine ret_of results16 (RV.tmp (v := (.bool false)) rfl RV.nil) ?_
    exact ⟨false, rfl, (fun h => by cases h), h_8.chgS⟩
   ·have p_22 := of_decide_eq_false c_20
    refine WP.skip (inb_n (thn_n (WP.reg ?_)))
    refine qM (vn i) rfl rfl (qV rfl (R.bin rfl rfl (bi_add (c := ((i + 1 : Nat) : Int)) (by omega) (by omega))) (qA (vn (i + 1)) rfl rfl ?_))
    refine WL.nil (thn_n ?_)
    exact ⟨i + 1, _, (by omega), (U4 rfl rfl rfl rfl (U4 rfl rfl rfl rfl (U4 rfl rfl rfl rfl (Ag.updL rfl (Ag.trans (Ag.sub rfl (Ag.mix _ _ _)) (Ag.upd rfl (Ag.upd rfl (Ag.upd rfl (Ag.upd rfl (Ag.upd rfl (Ag.updL rfl (Ag.mix _ _ _)))))))))))), ⟨rfl, trivial⟩, h_8, (by omega), (fun j hj => (Nat.lt_or_eq_of_le (Nat.le_of_lt_succ hj)).elim (fun e => hA j e) (fun e => by rw [e]; exact ⟨fun q hq => hB q (by omega), p_22⟩)), rfl⟩
 ·have p_23 := of_decide_eq_false c_5
  refine WP.exit (thn_x (thn_x (inb_hit (thn_n (WP.seq (WP.reg ?_))))))
  refine qA (.bool true) rfl rfl ?_
  refine WL.nil (thn_n (WP.ret ?_))
  refine ret_of results16 (RV.tmp (v := (.bool true)) rfl RV.nil) ?_
  exact ⟨_, rfl, (fun h j hj => hA j (by omega)), h_2.chgS⟩

theorem nidm {b : Bool} (h : (!b) = false) : b = true := by simpa using h
end Go.Proofs.Yteclkcpdclimnaa
