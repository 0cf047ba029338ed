/- The functions of package rec and the rows that are known: what each call returns. Conditions: those that each theorem states. -/
import Derived.Test.YthkcekgemanfdaaRows
import Derived.Test.YthkcekgemanfdaaVcT
namespace Go.Proofs.Ythkcekgemanfdaa
open Go.Vc Go.RowKit
set_option linter.unusedVariables false
set_option linter.unusedSimpArgs false
set_option maxRecDepth 20000
theorem aggT25 : aggB Try.prog 25 = true := by unfold aggB; rw [Try.underlying25]
theorem aggT28 : aggB Try.prog 28 = true := by unfold aggB; rw [Try.underlying28]
theorem aggT31 : aggB Try.prog 31 = true := by unfold aggB; rw [Try.underlying31]
theorem aggT40 : aggB Try.prog 40 = true := by unfold aggB; rw [Try.underlying40]
theorem aggT45 : aggB Try.prog 45 = true := by unfold aggB; rw [Try.underlying45]
theorem aggT53 : aggB Try.prog 53 = true := by unfold aggB; rw [Try.underlying53]
theorem ce3 : Try.prog.cellsOf 3 = 1 := by kernel_rfl
theorem ce4 : Try.prog.cellsOf 4 = 1 := by kernel_rfl
theorem ce5 : Try.prog.cellsOf 5 = 1 := by kernel_rfl
theorem ce22 : Try.prog.cellsOf 22 = 1 := by kernel_rfl
theorem ce23 : Try.prog.cellsOf 23 = 8 := by kernel_rfl
theorem ce25 : Try.prog.cellsOf 25 = 9 := by kernel_rfl
theorem ce26 : Try.prog.cellsOf 26 = 1 := by kernel_rfl
theorem ce28 : Try.prog.cellsOf 28 = 13 := by kernel_rfl
theorem ce29 : Try.prog.cellsOf 29 = 4 := by kernel_rfl
theorem ce31 : Try.prog.cellsOf 31 = 4 := by kernel_rfl
theorem ce38 : Try.prog.cellsOf 38 = 1 := by kernel_rfl
theorem ce40 : Try.prog.cellsOf 40 = 8 := by kernel_rfl
theorem ce45 : Try.prog.cellsOf 45 = 10 := by kernel_rfl
theorem ce53 : Try.prog.cellsOf 53 = 128 := by kernel_rfl
theorem el90 : ElT Try.prog 90 5 1 1 := ElT.mk' Try.underlying90 (i := Try.t5) rfl rfl rfl rfl rfl rfl
theorem kt23 : Try.prog.keyTypeAt 2 23 = true := by kernel_rfl
theorem ag23 : aggB Try.prog 23 = true := by unfold aggB; rw [Try.underlying23]
theorem kt28 : Try.prog.keyTypeAt 4 28 = true := by kernel_rfl
theorem ag28 : aggB Try.prog 28 = true := by unfold aggB; rw [Try.underlying28]
theorem kt29 : Try.prog.keyTypeAt 2 29 = true := by kernel_rfl
theorem ag29 : aggB Try.prog 29 = true := by unfold aggB; rw [Try.underlying29]
theorem kt31 : Try.prog.keyTypeAt 3 31 = true := by kernel_rfl
theorem ag31 : aggB Try.prog 31 = true := by unfold aggB; rw [Try.underlying31]
theorem kt40 : Try.prog.keyTypeAt 3 40 = true := by kernel_rfl
theorem ag40 : aggB Try.prog 40 = true := by unfold aggB; rw [Try.underlying40]
theorem kt53 : Try.prog.keyTypeAt 2 53 = true := by kernel_rfl
theorem ag53 : aggB Try.prog 53 = true := by unfold aggB; rw [Try.underlying53]
theorem pl25 : ∀ fs, Try.prog.underlying 25 = some (.struct fs) → Places Try.prog fs [(0, 8), (8, 1)] := by
  intro fs h w; rw [Try.underlying25] at h; cases h; simp
theorem pl28 : ∀ fs, Try.prog.underlying 28 = some (.struct fs) → Places Try.prog fs [(0, 1), (1, 1), (2, 9), (11, 1), (12, 1)] := by
  intro fs h w; rw [Try.underlying28] at h; cases h; simp
theorem pl31 : ∀ fs, Try.prog.underlying 31 = some (.struct fs) → Places Try.prog fs [(0, 4)] := by
  intro fs h w; rw [Try.underlying31] at h; cases h; simp
theorem pl40 : ∀ fs, Try.prog.underlying 40 = some (.struct fs) → Places Try.prog fs [(0, 1), (1, 4), (5, 1), (6, 1), (7, 1)] := by
  intro fs h w; rw [Try.underlying40] at h; cases h; simp
theorem pl45 : ∀ fs, Try.prog.underlying 45 = some (.struct fs) → Places Try.prog fs [(0, 1), (1, 8), (9, 1)] := by
  intro fs h w; rw [Try.underlying45] at h; cases h; simp
def mayE (run : Bool) (wt : Int) : Int := if run && decide (wt ≠ 3) then 0 else 7
def entRegs (wt : Int) (ain regs : List UInt64) : List UInt64 := if wt = 1 then ain ++ regs.drop 4 else regs
theorem entRegs_len {wt : Int} {ain regs : List UInt64} (ha : ain.length = 4) (hr : regs.length = 8) : (entRegs wt ain regs).length = 8 := by
  unfold entRegs; split <;> simp [ha, hr]
def waitOf (r : Int) : Int := if r = 2 then 1 else if r = 3 then 2 else if r = 5 then 3 else 0
def waitMap : Array MapEntry := #[{ key := (vi 1), val := (vi 0), born := 0 }, { key := (vi 2), val := (vi 1), born := 1 }, { key := (vi 3), val := (vi 2), born := 2 }, { key := (vi 4), val := (vi 0), born := 3 }, { key := (vi 5), val := (vi 3), born := 4 }]
theorem wait_hit {r : Int} (h1 : 1 ≤ r) (h5 : r ≤ 5) : Instr.findNow (.int .i64) (.int .i64 r) waitMap.toList 0 = some (some ((r - 1).toNat, vi (waitOf r))) := by
  have : r = 1 ∨ r = 2 ∨ r = 3 ∨ r = 4 ∨ r = 5 := by omega
  rcases this with rfl | rfl | rfl | rfl | rfl <;> rfl
theorem wait_miss {r : Int} (h : r < 1 ∨ 5 < r) : Instr.findNow (.int .i64) (.int .i64 r) waitMap.toList 0 = some none := by
  have h1 : (r == 1) = false := by simp; omega
  have h2 : (r == 2) = false := by simp; omega
  have h3 : (r == 3) = false := by simp; omega
  have h4 : (r == 4) = false := by simp; omega
  have h5 : (r == 5) = false := by simp; omega
  simp [waitMap, Instr.findNow, Instr.sameNow, h1, h2, h3, h4, h5]
theorem set4 {ain regs : List UInt64} (ha : ain.length = 4) (hr : regs.length = 8) : (((regs.set 0 (ain.getD 0 0)).set 1 (ain.getD 1 0)).set 2 (ain.getD 2 0)).set 3 (ain.getD 3 0) = entRegs 1 ain regs := by
  match ain, ha, regs, hr with
  | [a, b, c, d], _, [r0, r1, r2, r3, r4, r5, r6, r7], _ => rfl
theorem c_May (rd : Int) (ins : UInt64) (regs : List UInt64) (hr : regs.length = 8) (pc : UInt64) (run : Bool) (wt : Int) (e : Int) (he : mayE run wt = e) (w : World) :
    Cs Try.prog 14 [(.agg ⟨flat [(1, [(vi rd)]), (1, [(vu64 ins)]), (8, regs.map vu64), (1, [(vu64 pc)]), (1, [(.bool run)]), (1, [(vi wt)])]⟩)].toArray w (fun v w1 => v = vi e ∧ Chg w w1 []) := by
  refine Cs.of (n := 11) (args := [(.agg ⟨flat [(1, [(vi rd)]), (1, [(vu64 ins)]), (8, regs.map vu64), (1, [(vu64 pc)]), (1, [(.bool run)]), (1, [(vi wt)])]⟩)]) Try.func14 rfl rfl rfl ?_
  have h_0 := HP.init w
  refine WP.seq ?_
  refine WP.reg ?_
  refine WL.box (v := (.agg ⟨flat [(1, [(vi rd)]), (1, [(vu64 ins)]), (8, regs.map vu64), (1, [(vu64 pc)]), (1, [(.bool run)]), (1, [(vi wt)])]⟩)) (segs := [(1, [(vi rd)]), (1, [(vu64 ins)]), (8, regs.map vu64), (1, [(vu64 pc)]), (1, [(.bool run)]), (1, [(vi wt)])]) h_0 rfl rfl (SsOk.cons (SOk.v rfl) (SsOk.cons (SOk.v rfl) (SsOk.cons (SOk.u64 hr) (SsOk.cons (SOk.v rfl) (SsOk.cons (SOk.v rfl) (SsOk.cons (SOk.v rfl) SsOk.nil)))))) rfl (fun b_1 w_2 h_3 => ?_)
  refine WL.q (Wn.no rfl) rfl rfl (R.assign (v := (vi 0)) rfl) ?_
  refine WL.nil ?_
  refine thn_n ?_
  refine WP.seq ?_
  refine WP.seq ?_
  refine WP.reg ?_
  refine WL.q (Wn.no rfl) rfl rfl (R.fieldAddr (b := b_1) (off := 0) (off' := 11) rfl Try.underlying28 rfl Try.sizeOf4 rfl rfl) ?_
  refine WL.q (Wn.no rfl) rfl rfl (R.load1 (b := b_1) (off := 11) (v := (.bool run)) rfl Try.isAgg4 (h_3.ok _ (.head _)) (Sg.t rfl (Sg.t rfl (Sg.t rfl (Sg.t rfl Sg.h))))) ?_
  refine WL.q (Wn.no rfl) rfl rfl (R.not (b := run) rfl) ?_
  refine WL.q (Wn.no rfl) rfl rfl (R.move (v := (.bool (!run))) rfl) ?_
  rcases Bool.eq_false_or_eq_true (!run) with c_4 | c_4
  · refine WL.skip rfl (congrArg Value.bool c_4) rfl ?_
    refine WL.skip rfl (congrArg Value.bool c_4) rfl ?_
    refine WL.skip rfl (congrArg Value.bool c_4) rfl ?_
    refine WL.q (Wn.no rfl) rfl rfl (R.pickT (v := (.bool true)) (congrArg Value.bool c_4) rfl) ?_
    refine WL.nil ?_
    refine thn_n ?_
    refine WP.condT rfl ?_
    refine WP.seq ?_
    refine WP.reg ?_
    refine WL.q (Wn.no rfl) rfl rfl (R.assign (v := (vi 7)) rfl) ?_
    refine WL.nil ?_
    refine thn_n ?_
    refine WP.ret ?_
    refine thn_r ?_
    refine ret_of Try.results14 (RV.tmp (v := (vi 7)) rfl RV.nil) ?_
    exact ⟨by simp_all [packed, mayE], h_3.chgS⟩
  · refine WL.want rfl (congrArg Value.bool c_4) ?_
    refine WL.q (Wn.no rfl) rfl rfl (R.fieldAddr (b := b_1) (off := 0) (off' := 12) rfl Try.underlying28 rfl Try.sizeOf26 rfl rfl) ?_
    refine WL.want rfl (congrArg Value.bool c_4) ?_
    refine WL.q (Wn.no rfl) rfl rfl (R.load1 (b := b_1) (off := 12) (v := (vi wt)) rfl Try.isAgg26 (h_3.ok _ (.head _)) (Sg.t rfl (Sg.t rfl (Sg.t rfl (Sg.t rfl (Sg.t rfl Sg.h)))))) ?_
    refine WL.want rfl (congrArg Value.bool c_4) ?_
    refine WL.q (Wn.no rfl) rfl rfl (R.bin (v := (.bool (decide ((wt : Int) = 3)))) rfl rfl (bi_eql (r := decide ((wt : Int) = 3)) rfl)) ?_
    refine WL.q (Wn.no rfl) rfl rfl (R.pickF (v := (.bool (decide ((wt : Int) = 3)))) (congrArg Value.bool c_4) rfl) ?_
    refine WL.nil ?_
    refine thn_n ?_
    refine WP.cond (b := decide ((wt : Int) = 3)) rfl (fun c_5 => ?_) (fun c_5 => ?_)
    · have p_6 := of_decide_eq_true c_5
      refine WP.seq ?_
      refine WP.reg ?_
      refine WL.q (Wn.no rfl) rfl rfl (R.assign (v := (vi 7)) rfl) ?_
      refine WL.nil ?_
      refine thn_n ?_
      refine WP.ret ?_
      refine thn_r ?_
      refine ret_of Try.results14 (RV.tmp (v := (vi 7)) rfl RV.nil) ?_
      exact ⟨by simp_all [packed, mayE], h_3.chgS⟩
    · have p_7 := of_decide_eq_false c_5
      refine WP.skip ?_
      refine thn_n ?_
      refine WP.seq ?_
      refine WP.reg ?_
      refine WL.q (Wn.no rfl) rfl rfl (R.assign (v := (vi 0)) rfl) ?_
      refine WL.nil ?_
      refine thn_n ?_
      refine WP.ret ?_
      refine ret_of Try.results14 (RV.tmp (v := (vi 0)) rfl RV.nil) ?_
      exact ⟨by simp_all [packed, mayE], h_3.chgS⟩

theorem c_New (rd : Int) (ins : UInt64) (pc : UInt64) (regs : List UInt64) (hr : regs.length = 8) (run : Bool) (w : World) :
    Cs Try.prog 17 [(vi rd), (vu64 ins), (.agg ⟨flat [(1, [(vu64 pc)]), (8, regs.map vu64), (1, [(.bool run)])]⟩)].toArray w (fun v w1 => v = (.agg ⟨flat [(1, [(vi rd)]), (1, [(vu64 ins)]), (8, regs.map vu64), (1, [(vu64 pc)]), (1, [(.bool run)]), (1, [(vi 0)])]⟩) ∧ Chg w w1 []) := by
  refine Cs.of (n := 17) (args := [(vi rd), (vu64 ins), (.agg ⟨flat [(1, [(vu64 pc)]), (8, regs.map vu64), (1, [(.bool run)])]⟩)]) Try.func17 rfl rfl rfl ?_
  have h_0 := HP.init w
  refine WP.seq ?_
  refine WP.reg ?_
  refine WL.box (v := (.agg ⟨flat [(1, [(vu64 pc)]), (8, regs.map vu64), (1, [(.bool run)])]⟩)) (segs := [(1, [(vu64 pc)]), (8, regs.map vu64), (1, [(.bool run)])]) h_0 rfl rfl (SsOk.cons (SOk.v rfl) (SsOk.cons (SOk.u64 hr) (SsOk.cons (SOk.v rfl) SsOk.nil))) rfl (fun b_1 w_2 h_3 => ?_)
  refine WL.alloc (segs := [(1, [(vi 0)]), (1, [(vu64 0)]), (8, (List.replicate 8 (0 : UInt64)).map vu64), (1, [(vu64 0)]), (1, [(.bool false)]), (1, [(vi 0)])]) h_3 (zv Try.typeInfo28 rfl) rfl (SsOk.cons (SOk.v rfl) (SsOk.cons (SOk.v rfl) (SsOk.cons (SOk.u64 (List.length_replicate ..)) (SsOk.cons (SOk.v rfl) (SsOk.cons (SOk.v rfl) (SsOk.cons (SOk.v rfl) SsOk.nil)))))) rfl (fun b_4 w_5 h_6 => ?_)
  refine WL.nil ?_
  refine thn_n ?_
  refine WP.seq ?_
  refine WP.reg ?_
  refine WL.q (Wn.no rfl) rfl rfl (R.move (v := (vi rd)) rfl) ?_
  refine WL.q (Wn.no rfl) rfl rfl (R.move (v := (vu64 ins)) rfl) ?_
  refine WL.q (Wn.no rfl) rfl rfl (R.fieldAddr (b := b_1) (off := 0) (off' := 1) rfl Try.underlying45 rfl Try.sizeOf23 rfl rfl) ?_
  refine WL.q (Wn.no rfl) rfl rfl (R.loadA (b := b_1) (off := 1) [(1, [(vu64 pc)])] [(8, regs.map vu64)] [(1, [(.bool run)])] (cs := regs.map vu64) rfl Try.isAgg23 Try.sizeOf23 (h_6.ok _ (.tail _ (.head _))) rfl rfl rfl rfl) ?_
  refine WL.q (Wn.no rfl) rfl rfl (R.fieldAddr (b := b_1) (off := 0) (off' := 0) rfl Try.underlying45 rfl Try.sizeOf22 rfl rfl) ?_
  refine WL.q (Wn.no rfl) rfl rfl (R.load1 (b := b_1) (off := 0) (v := (vu64 pc)) rfl Try.isAgg22 (h_6.ok _ (.tail _ (.head _))) Sg.h) ?_
  refine WL.q (Wn.no rfl) rfl rfl (R.buildS (pl := [(0, 8), (8, 1)]) (zs := [(8, (List.replicate 8 (0 : UInt64)).map vu64), (1, [(vu64 0)])]) (vs := [(0, (.agg ⟨regs.map vu64⟩)), (1, (vu64 pc))]) (out := [(8, regs.map vu64), (1, [(vu64 pc)])]) (cs := flat [(8, regs.map vu64), (1, [(vu64 pc)])]) Try.underlying25 (zv Try.typeInfo25 rfl) rfl (SsOk.cons (SOk.u64 (List.length_replicate ..)) (SsOk.cons (SOk.v rfl) SsOk.nil)) (pl25 _ Try.underlying25) rfl (FillR.cons [] [(8, (List.replicate 8 (0 : UInt64)).map vu64)] [(8, regs.map vu64)] [(1, [(vu64 0)])] rfl rfl rfl rfl (SsOk.cons (SOk.u64 hr) SsOk.nil) rfl rfl rfl (FillR.cons [(8, regs.map vu64)] [(1, [(vu64 0)])] [(1, [(vu64 pc)])] [] rfl rfl rfl rfl (SsOk.cons (SOk.v rfl) SsOk.nil) rfl rfl rfl FillR.nil)) rfl) ?_
  refine WL.q (Wn.no rfl) rfl rfl (R.fieldAddr (b := b_1) (off := 0) (off' := 9) rfl Try.underlying45 rfl Try.sizeOf4 rfl rfl) ?_
  refine WL.q (Wn.no rfl) rfl rfl (R.load1 (b := b_1) (off := 9) (v := (.bool run)) rfl Try.isAgg4 (h_6.ok _ (.tail _ (.head _))) (Sg.t rfl (Sg.t rfl Sg.h))) ?_
  refine WL.q (Wn.no rfl) rfl rfl (R.buildS (pl := [(0, 1), (1, 1), (2, 9), (11, 1), (12, 1)]) (zs := [(1, [(vi 0)]), (1, [(vu64 0)]), (8, (List.replicate 8 (0 : UInt64)).map vu64), (1, [(vu64 0)]), (1, [(.bool false)]), (1, [(vi 0)])]) (vs := [(0, (vi rd)), (1, (vu64 ins)), (2, (.agg ⟨flat [(8, regs.map vu64), (1, [(vu64 pc)])]⟩)), (3, (.bool run))]) (out := [(1, [(vi rd)]), (1, [(vu64 ins)]), (8, regs.map vu64), (1, [(vu64 pc)]), (1, [(.bool run)]), (1, [(vi 0)])]) (cs := flat [(1, [(vi rd)]), (1, [(vu64 ins)]), (8, regs.map vu64), (1, [(vu64 pc)]), (1, [(.bool run)]), (1, [(vi 0)])]) Try.underlying28 (zv Try.typeInfo28 rfl) rfl (SsOk.cons (SOk.v rfl) (SsOk.cons (SOk.v rfl) (SsOk.cons (SOk.u64 (List.length_replicate ..)) (SsOk.cons (SOk.v rfl) (SsOk.cons (SOk.v rfl) (SsOk.cons (SOk.v rfl) SsOk.nil)))))) (pl28 _ Try.underlying28) rfl (FillR.cons [] [(1, [(vi 0)])] [(1, [(vi rd)])] [(1, [(vu64 0)]), (8, (List.replicate 8 (0 : UInt64)).map vu64), (1, [(vu64 0)]), (1, [(.bool false)]), (1, [(vi 0)])] rfl rfl rfl rfl (SsOk.cons (SOk.v rfl) SsOk.nil) rfl rfl rfl (FillR.cons [(1, [(vi rd)])] [(1, [(vu64 0)])] [(1, [(vu64 ins)])] [(8, (List.replicate 8 (0 : UInt64)).map vu64), (1, [(vu64 0)]), (1, [(.bool false)]), (1, [(vi 0)])] rfl rfl rfl rfl (SsOk.cons (SOk.v rfl) SsOk.nil) rfl rfl rfl (FillR.cons [(1, [(vi rd)]), (1, [(vu64 ins)])] [(8, (List.replicate 8 (0 : UInt64)).map vu64), (1, [(vu64 0)])] [(8, regs.map vu64), (1, [(vu64 pc)])] [(1, [(.bool false)]), (1, [(vi 0)])] rfl rfl rfl rfl (SsOk.cons (SOk.u64 hr) (SsOk.cons (SOk.v rfl) SsOk.nil)) rfl rfl rfl (FillR.cons [(1, [(vi rd)]), (1, [(vu64 ins)]), (8, regs.map vu64), (1, [(vu64 pc)])] [(1, [(.bool false)])] [(1, [(.bool run)])] [(1, [(vi 0)])] rfl rfl rfl rfl (SsOk.cons (SOk.v rfl) SsOk.nil) rfl rfl rfl FillR.nil)))) rfl) ?_
  refine WL.storeA (b := b_4) (off := 0) [] [(1, [(vi 0)]), (1, [(vu64 0)]), (8, (List.replicate 8 (0 : UInt64)).map vu64), (1, [(vu64 0)]), (1, [(.bool false)]), (1, [(vi 0)])] [(1, [(vi rd)]), (1, [(vu64 ins)]), (8, regs.map vu64), (1, [(vu64 pc)]), (1, [(.bool run)]), (1, [(vi 0)])] [] (ys := flat [(1, [(vi rd)]), (1, [(vu64 ins)]), (8, regs.map vu64), (1, [(vu64 pc)]), (1, [(.bool run)]), (1, [(vi 0)])]) h_6 rfl rfl Try.sizeOf28 At.h (by decide) rfl rfl rfl rfl rfl rfl (SsOk.cons (SOk.v rfl) (SsOk.cons (SOk.v rfl) (SsOk.cons (SOk.u64 hr) (SsOk.cons (SOk.v rfl) (SsOk.cons (SOk.v rfl) (SsOk.cons (SOk.v rfl) SsOk.nil)))))) (fun w_9 h_10 => ?_)
  refine WL.nil ?_
  refine thn_n ?_
  refine WP.ret ?_
  refine ret_of Try.results17 (RV.cell rfl (h_10.loadA (cs := flat [(1, [(vi rd)]), (1, [(vu64 ins)]), (8, regs.map vu64), (1, [(vu64 pc)]), (1, [(.bool run)]), (1, [(vi 0)])]) Try.isAgg28 Try.sizeOf28 (.head _) rfl rfl) RV.nil) ?_
  exact ⟨rfl, h_10.chgS⟩

theorem c_Enter_no (rd : Int) (ins : UInt64) (regs : List UInt64) (hr : regs.length = 8) (pc : UInt64) (run : Bool) (wt : Int) (ain : List UInt64) (ha : ain.length = 4) (hm : mayE run wt = 7) (w : World) :
    Cs Try.prog 13 [(.agg ⟨flat [(1, [(vi rd)]), (1, [(vu64 ins)]), (8, regs.map vu64), (1, [(vu64 pc)]), (1, [(.bool run)]), (1, [(vi wt)])]⟩), (.agg ⟨ain.map vu64⟩)].toArray w (fun v w1 => v = (.tuple [(.agg ⟨flat [(1, [(vi 0)]), (1, [(vu64 0)]), (8, (List.replicate 8 (0 : UInt64)).map vu64), (1, [(vu64 0)]), (1, [(.bool false)]), (1, [(vi 0)])]⟩), (vi 7)].toArray) ∧ Chg w w1 []) := by
  refine Cs.of (n := 24) (args := [(.agg ⟨flat [(1, [(vi rd)]), (1, [(vu64 ins)]), (8, regs.map vu64), (1, [(vu64 pc)]), (1, [(.bool run)]), (1, [(vi wt)])]⟩), (.agg ⟨ain.map vu64⟩)]) Try.func13 rfl rfl rfl ?_
  have h_0 := HP.init w
  refine WP.seq ?_
  refine WP.reg ?_
  refine WL.box (v := (.agg ⟨flat [(1, [(vi rd)]), (1, [(vu64 ins)]), (8, regs.map vu64), (1, [(vu64 pc)]), (1, [(.bool run)]), (1, [(vi wt)])]⟩)) (segs := [(1, [(vi rd)]), (1, [(vu64 ins)]), (8, regs.map vu64), (1, [(vu64 pc)]), (1, [(.bool run)]), (1, [(vi wt)])]) h_0 rfl rfl (SsOk.cons (SOk.v rfl) (SsOk.cons (SOk.v rfl) (SsOk.cons (SOk.u64 hr) (SsOk.cons (SOk.v rfl) (SsOk.cons (SOk.v rfl) (SsOk.cons (SOk.v rfl) SsOk.nil)))))) rfl (fun b_1 w_2 h_3 => ?_)
  refine WL.box (v := (.agg ⟨ain.map vu64⟩)) (segs := [(4, ain.map vu64)]) h_3 rfl rfl (SsOk.cons (SOk.u64 ha) SsOk.nil) rfl (fun b_4 w_5 h_6 => ?_)
  refine WL.alloc (segs := [(1, [(vi 0)]), (1, [(vu64 0)]), (8, (List.replicate 8 (0 : UInt64)).map vu64), (1, [(vu64 0)]), (1, [(.bool false)]), (1, [(vi 0)])]) h_6 (zv Try.typeInfo28 rfl) rfl (SsOk.cons (SOk.v rfl) (SsOk.cons (SOk.v rfl) (SsOk.cons (SOk.u64 (List.length_replicate ..)) (SsOk.cons (SOk.v rfl) (SsOk.cons (SOk.v rfl) (SsOk.cons (SOk.v rfl) SsOk.nil)))))) rfl (fun b_7 w_8 h_9 => ?_)
  refine WL.q (Wn.no rfl) rfl rfl (R.assign (v := (vi 0)) rfl) ?_
  refine WL.nil ?_
  refine thn_n ?_
  refine WP.seq ?_
  refine WP.seq ?_
  refine WP.reg ?_
  refine WL.q (Wn.no rfl) rfl rfl (R.loadA (b := b_1) (off := 0) [] [(1, [(vi rd)]), (1, [(vu64 ins)]), (8, regs.map vu64), (1, [(vu64 pc)]), (1, [(.bool run)]), (1, [(vi wt)])] [] (cs := flat [(1, [(vi rd)]), (1, [(vu64 ins)]), (8, regs.map vu64), (1, [(vu64 pc)]), (1, [(.bool run)]), (1, [(vi wt)])]) rfl Try.isAgg28 Try.sizeOf28 (h_9.ok _ (.tail _ (.tail _ (.head _)))) rfl rfl rfl rfl) ?_
  refine WL.call (al := [(.agg ⟨flat [(1, [(vi rd)]), (1, [(vu64 ins)]), (8, regs.map vu64), (1, [(vu64 pc)]), (1, [(.bool run)]), (1, [(vi wt)])]⟩)]) Try.call14 rfl rfl (c_May rd ins regs hr pc run wt 7 hm _) rfl ?_
  rintro _ w_11 ⟨rfl, hc_10⟩
  have h_12 := h_9.same hc_10
  refine WL.q (Wn.no rfl) rfl rfl (R.assign (v := (vi 7)) rfl) ?_
  refine WL.nil ?_
  refine thn_n ?_
  refine WP.seq ?_
  refine WP.reg ?_
  refine WL.q (Wn.no rfl) rfl rfl (R.move (v := (vi 7)) rfl) ?_
  refine WL.q (Wn.no rfl) rfl rfl (R.bin (v := (.bool true)) rfl rfl (bi_neq (r := true) (by decide))) ?_
  refine WL.nil ?_
  refine thn_n ?_
  refine WP.condT rfl ?_
  refine WP.seq ?_
  refine WP.reg ?_
  refine WL.q (Wn.no rfl) rfl rfl (R.buildS (pl := [(0, 1), (1, 1), (2, 9), (11, 1), (12, 1)]) (zs := [(1, [(vi 0)]), (1, [(vu64 0)]), (8, (List.replicate 8 (0 : UInt64)).map vu64), (1, [(vu64 0)]), (1, [(.bool false)]), (1, [(vi 0)])]) (vs := []) (out := [(1, [(vi 0)]), (1, [(vu64 0)]), (8, (List.replicate 8 (0 : UInt64)).map vu64), (1, [(vu64 0)]), (1, [(.bool false)]), (1, [(vi 0)])]) (cs := flat [(1, [(vi 0)]), (1, [(vu64 0)]), (8, (List.replicate 8 (0 : UInt64)).map vu64), (1, [(vu64 0)]), (1, [(.bool false)]), (1, [(vi 0)])]) Try.underlying28 (zv Try.typeInfo28 rfl) rfl (SsOk.cons (SOk.v rfl) (SsOk.cons (SOk.v rfl) (SsOk.cons (SOk.u64 (List.length_replicate ..)) (SsOk.cons (SOk.v rfl) (SsOk.cons (SOk.v rfl) (SsOk.cons (SOk.v rfl) SsOk.nil)))))) (pl28 _ Try.underlying28) rfl FillR.nil rfl) ?_
  refine WL.q (Wn.no rfl) rfl rfl (R.move (v := (vi 7)) rfl) ?_
  refine WL.storeA (b := b_7) (off := 0) [] [(1, [(vi 0)]), (1, [(vu64 0)]), (8, (List.replicate 8 (0 : UInt64)).map vu64), (1, [(vu64 0)]), (1, [(.bool false)]), (1, [(vi 0)])] [(1, [(vi 0)]), (1, [(vu64 0)]), (8, (List.replicate 8 (0 : UInt64)).map vu64), (1, [(vu64 0)]), (1, [(.bool false)]), (1, [(vi 0)])] [] (ys := flat [(1, [(vi 0)]), (1, [(vu64 0)]), (8, (List.replicate 8 (0 : UInt64)).map vu64), (1, [(vu64 0)]), (1, [(.bool false)]), (1, [(vi 0)])]) h_12 rfl rfl Try.sizeOf28 At.h (by decide) rfl rfl rfl rfl rfl rfl (SsOk.cons (SOk.v rfl) (SsOk.cons (SOk.v rfl) (SsOk.cons (SOk.u64 (List.length_replicate ..)) (SsOk.cons (SOk.v rfl) (SsOk.cons (SOk.v rfl) (SsOk.cons (SOk.v rfl) SsOk.nil)))))) (fun w_14 h_15 => ?_)
  refine WL.q (Wn.no rfl) rfl rfl (R.assign (v := (vi 7)) rfl) ?_
  refine WL.nil ?_
  refine thn_n ?_
  refine WP.ret ?_
  refine thn_r ?_
  refine ret_of Try.results13 (RV.cell rfl (h_15.loadA (cs := flat [(1, [(vi 0)]), (1, [(vu64 0)]), (8, (List.replicate 8 (0 : UInt64)).map vu64), (1, [(vu64 0)]), (1, [(.bool false)]), (1, [(vi 0)])]) Try.isAgg28 Try.sizeOf28 (.head _) rfl rfl) (RV.tmp (v := (vi 7)) rfl RV.nil)) ?_
  exact ⟨rfl, h_15.chgS⟩

theorem c_Enter (rd : Int) (ins : UInt64) (regs : List UInt64) (hr : regs.length = 8) (pc : UInt64) (run : Bool) (wt : Int) (ain : List UInt64) (ha : ain.length = 4) (hm : mayE run wt = 0) (w : World) :
    Cs Try.prog 13 [(.agg ⟨flat [(1, [(vi rd)]), (1, [(vu64 ins)]), (8, regs.map vu64), (1, [(vu64 pc)]), (1, [(.bool run)]), (1, [(vi wt)])]⟩), (.agg ⟨ain.map vu64⟩)].toArray w (fun v w1 => v = (.tuple [(.agg ⟨flat [(1, [(vi rd)]), (1, [(vu64 ins)]), (8, (entRegs wt ain regs).map vu64), (1, [(vu64 pc)]), (1, [(.bool run)]), (1, [(vi 0)])]⟩), (vi 0)].toArray) ∧ Chg w w1 []) := by
  refine Cs.of (n := 24) (args := [(.agg ⟨flat [(1, [(vi rd)]), (1, [(vu64 ins)]), (8, regs.map vu64), (1, [(vu64 pc)]), (1, [(.bool run)]), (1, [(vi wt)])]⟩), (.agg ⟨ain.map vu64⟩)]) Try.func13 rfl rfl rfl ?_
  have h_0 := HP.init w
  refine WP.seq ?_
  refine WP.reg ?_
  refine WL.box (v := (.agg ⟨flat [(1, [(vi rd)]), (1, [(vu64 ins)]), (8, regs.map vu64), (1, [(vu64 pc)]), (1, [(.bool run)]), (1, [(vi wt)])]⟩)) (segs := [(1, [(vi rd)]), (1, [(vu64 ins)]), (8, regs.map vu64), (1, [(vu64 pc)]), (1, [(.bool run)]), (1, [(vi wt)])]) h_0 rfl rfl (SsOk.cons (SOk.v rfl) (SsOk.cons (SOk.v rfl) (SsOk.cons (SOk.u64 hr) (SsOk.cons (SOk.v rfl) (SsOk.cons (SOk.v rfl) (SsOk.cons (SOk.v rfl) SsOk.nil)))))) rfl (fun b_1 w_2 h_3 => ?_)
  refine WL.box (v := (.agg ⟨ain.map vu64⟩)) (segs := [(4, ain.map vu64)]) h_3 rfl rfl (SsOk.cons (SOk.u64 ha) SsOk.nil) rfl (fun b_4 w_5 h_6 => ?_)
  refine WL.alloc (segs := [(1, [(vi 0)]), (1, [(vu64 0)]), (8, (List.replicate 8 (0 : UInt64)).map vu64), (1, [(vu64 0)]), (1, [(.bool false)]), (1, [(vi 0)])]) h_6 (zv Try.typeInfo28 rfl) rfl (SsOk.cons (SOk.v rfl) (SsOk.cons (SOk.v rfl) (SsOk.cons (SOk.u64 (List.length_replicate ..)) (SsOk.cons (SOk.v rfl) (SsOk.cons (SOk.v rfl) (SsOk.cons (SOk.v rfl) SsOk.nil)))))) rfl (fun b_7 w_8 h_9 => ?_)
  refine WL.q (Wn.no rfl) rfl rfl (R.assign (v := (vi 0)) rfl) ?_
  refine WL.nil ?_
  refine thn_n ?_
  refine WP.seq ?_
  refine WP.seq ?_
  refine WP.reg ?_
  refine WL.q (Wn.no rfl) rfl rfl (R.loadA (b := b_1) (off := 0) [] [(1, [(vi rd)]), (1, [(vu64 ins)]), (8, regs.map vu64), (1, [(vu64 pc)]), (1, [(.bool run)]), (1, [(vi wt)])] [] (cs := flat [(1, [(vi rd)]), (1, [(vu64 ins)]), (8, regs.map vu64), (1, [(vu64 pc)]), (1, [(.bool run)]), (1, [(vi wt)])]) rfl Try.isAgg28 Try.sizeOf28 (h_9.ok _ (.tail _ (.tail _ (.head _)))) rfl rfl rfl rfl) ?_
  refine WL.call (al := [(.agg ⟨flat [(1, [(vi rd)]), (1, [(vu64 ins)]), (8, regs.map vu64), (1, [(vu64 pc)]), (1, [(.bool run)]), (1, [(vi wt)])]⟩)]) Try.call14 rfl rfl (c_May rd ins regs hr pc run wt 0 hm _) rfl ?_
  rintro _ w_11 ⟨rfl, hc_10⟩
  have h_12 := h_9.same hc_10
  refine WL.q (Wn.no rfl) rfl rfl (R.assign (v := (vi 0)) rfl) ?_
  refine WL.nil ?_
  refine thn_n ?_
  refine WP.seq ?_
  refine WP.reg ?_
  refine WL.q (Wn.no rfl) rfl rfl (R.move (v := (vi 0)) rfl) ?_
  refine WL.q (Wn.no rfl) rfl rfl (R.bin (v := (.bool false)) rfl rfl (bi_neq (r := false) (by decide))) ?_
  refine WL.nil ?_
  refine thn_n ?_
  refine WP.condF rfl ?_
  refine WP.skip ?_
  refine thn_n ?_
  refine WP.seq ?_
  refine WP.seq ?_
  refine WP.reg ?_
  refine WL.q (Wn.no rfl) rfl rfl (R.fieldAddr (b := b_1) (off := 0) (off' := 12) rfl Try.underlying28 rfl Try.sizeOf26 rfl rfl) ?_
  refine WL.q (Wn.no rfl) rfl rfl (R.load1 (b := b_1) (off := 12) (v := (vi wt)) rfl Try.isAgg26 (h_12.ok _ (.tail _ (.tail _ (.head _)))) (Sg.t rfl (Sg.t rfl (Sg.t rfl (Sg.t rfl (Sg.t rfl Sg.h)))))) ?_
  refine WL.q (Wn.no rfl) rfl rfl (R.bin (v := (.bool (decide ((wt : Int) = 1)))) rfl rfl (bi_eql (r := decide ((wt : Int) = 1)) rfl)) ?_
  refine WL.nil ?_
  refine thn_n ?_
  refine WP.cond (b := decide ((wt : Int) = 1)) rfl (fun c_13 => ?_) (fun c_13 => ?_)
  · have p_14 := of_decide_eq_true c_13
    refine WP.drawT (SL w.heap.size [.blk b_7 .nw 28 [(1, [(vi 0)]), (1, [(vu64 0)]), (8, (List.replicate 8 (0 : UInt64)).map vu64), (1, [(vu64 0)]), (1, [(.bool false)]), (1, [(vi 0)])], .blk b_4 .nw 31 [(4, ain.map vu64)]]) (.q 0 (.q 1 (.q 2 (.q 3 (.q 4 (.s 5 .nil)))))) (by kernel_rfl) (by kernel_rfl) rfl (by kernel_rfl) (fun w_15 hc_17 => (SL.cons ((h_12.same hc_17).ok _ (.head _)) (SL.cons ((h_12.same hc_17).ok _ (.tail _ (.head _))) (SL.nil _ _)))) (fun w_15 hc_17 => ?_)
    have h_16 := h_12.same hc_17
    refine WT.q rfl (Wn.no rfl) rfl rfl (fun wq hS => R.fieldAddr (b := b_1) (off := 0) (off' := 2) rfl Try.underlying28 rfl Try.sizeOf25 rfl rfl) ?_
    refine WT.q rfl (Wn.no rfl) rfl rfl (fun wq hS => R.fieldAddr (b := b_1) (off := 2) (off' := 2) rfl Try.underlying25 rfl Try.sizeOf23 rfl rfl) ?_
    refine WT.q rfl (Wn.no rfl) rfl rfl (fun wq hS => R.sliceA (b := b_1) (off := 2) (off' := 2) (l := 0) (h := 8) rfl EvB.dflt EvB.dflt (by decide) (by decide) Try.underlying23 Try.sizeOf22 rfl) ?_
    refine WT.q rfl (Wn.no rfl) rfl rfl (fun wq hS => R.fieldAddr (b := b_4) (off := 0) (off' := 0) rfl Try.underlying31 rfl Try.sizeOf29 rfl rfl) ?_
    refine WT.q rfl (Wn.no rfl) rfl rfl (fun wq hS => R.sliceA (b := b_4) (off := 0) (off' := 0) (l := 0) (h := 4) rfl EvB.dflt EvB.dflt (by decide) (by decide) Try.underlying29 Try.sizeOf22 rfl) ?_
    refine WT.s ?_
    refine Op1.one rfl (Wn.no rfl) ?_
    refine WL.copy (q := 4) (i := 0) (ys := ain.map vu64) (cs' := (ain ++ regs.drop 4).map vu64) h_16 rfl rfl Try.underlying86 Try.sizeOf22 (viewB (h_16.ok _ (.tail _ (.head _))) Sg.h) (len_map ha) (one_u64 _) (At.t (At.t At.h)) (by decide) (Sg.t rfl (Sg.t rfl Sg.h)) rfl (by decide) (by rw [len_map hr]; decide) (cpPre ha) rfl (fun w_18 h_19 => ?_)
    refine WL.nil ?_
    refine ⟨(SL.cons (h_19.ok _ (.head _)) (SL.cons (h_19.ok _ (.tail _ (.head _))) (SL.nil _ _))), ?_⟩
    refine WT.nil ?_
    refine thn_n ?_
    refine WP.seq ?_
    refine WP.reg ?_
    refine WL.q (Wn.no rfl) rfl rfl (R.fieldAddr (b := b_1) (off := 0) (off' := 12) rfl Try.underlying28 rfl Try.sizeOf26 rfl rfl) ?_
    refine WL.store1 (b := b_1) (off := 12) (v := (vi 0)) h_19 rfl rfl Try.sizeOf26 rfl (At.t (At.t At.h)) (by decide) (Sg.t rfl (Sg.t rfl (Sg.t rfl (Sg.t rfl (Sg.t rfl Sg.h))))) (fun w_20 h_21 => ?_)
    refine WL.nil ?_
    refine thn_n ?_
    refine WP.seq ?_
    refine WP.reg ?_
    refine WL.q (Wn.no rfl) rfl rfl (R.loadA (b := b_1) (off := 0) [] [(1, [(vi rd)]), (1, [(vu64 ins)]), (8, (ain ++ regs.drop 4).map vu64), (1, [(vu64 pc)]), (1, [(.bool run)]), (1, [(vi 0)])] [] (cs := flat [(1, [(vi rd)]), (1, [(vu64 ins)]), (8, (ain ++ regs.drop 4).map vu64), (1, [(vu64 pc)]), (1, [(.bool run)]), (1, [(vi 0)])]) rfl Try.isAgg28 Try.sizeOf28 (h_21.ok _ (.tail _ (.tail _ (.head _)))) rfl rfl rfl rfl) ?_
    refine WL.storeA (b := b_7) (off := 0) [] [(1, [(vi 0)]), (1, [(vu64 0)]), (8, (List.replicate 8 (0 : UInt64)).map vu64), (1, [(vu64 0)]), (1, [(.bool false)]), (1, [(vi 0)])] [(1, [(vi rd)]), (1, [(vu64 ins)]), (8, (ain ++ regs.drop 4).map vu64), (1, [(vu64 pc)]), (1, [(.bool run)]), (1, [(vi 0)])] [] (ys := flat [(1, [(vi rd)]), (1, [(vu64 ins)]), (8, (ain ++ regs.drop 4).map vu64), (1, [(vu64 pc)]), (1, [(.bool run)]), (1, [(vi 0)])]) h_21 rfl rfl Try.sizeOf28 At.h (by decide) rfl rfl rfl rfl rfl rfl (SsOk.cons (SOk.v rfl) (SsOk.cons (SOk.v rfl) (SsOk.cons (SOk.u64 (cpLen ha hr (by decide))) (SsOk.cons (SOk.v rfl) (SsOk.cons (SOk.v rfl) (SsOk.cons (SOk.v rfl) SsOk.nil)))))) (fun w_22 h_23 => ?_)
    refine WL.q (Wn.no rfl) rfl rfl (R.assign (v := (vi 0)) rfl) ?_
    refine WL.nil ?_
    refine thn_n ?_
    refine WP.ret ?_
    refine ret_of Try.results13 (RV.cell rfl (h_23.loadA (cs := flat [(1, [(vi rd)]), (1, [(vu64 ins)]), (8, (ain ++ regs.drop 4).map vu64), (1, [(vu64 pc)]), (1, [(.bool run)]), (1, [(vi 0)])]) Try.isAgg28 Try.sizeOf28 (.head _) rfl rfl) (RV.tmp (v := (vi 0)) rfl RV.nil)) ?_
    exact ⟨by rw [entRegs, if_pos p_14]; rfl, h_23.chgS⟩
  · have p_24 := of_decide_eq_false c_13
    refine WP.skip ?_
    refine thn_n ?_
    refine WP.seq ?_
    refine WP.reg ?_
    refine WL.q (Wn.no rfl) rfl rfl (R.fieldAddr (b := b_1) (off := 0) (off' := 12) rfl Try.underlying28 rfl Try.sizeOf26 rfl rfl) ?_
    refine WL.store1 (b := b_1) (off := 12) (v := (vi 0)) h_12 rfl rfl Try.sizeOf26 rfl (At.t (At.t At.h)) (by decide) (Sg.t rfl (Sg.t rfl (Sg.t rfl (Sg.t rfl (Sg.t rfl Sg.h))))) (fun w_25 h_26 => ?_)
    refine WL.nil ?_
    refine thn_n ?_
    refine WP.seq ?_
    refine WP.reg ?_
    refine WL.q (Wn.no rfl) rfl rfl (R.loadA (b := b_1) (off := 0) [] [(1, [(vi rd)]), (1, [(vu64 ins)]), (8, regs.map vu64), (1, [(vu64 pc)]), (1, [(.bool run)]), (1, [(vi 0)])] [] (cs := flat [(1, [(vi rd)]), (1, [(vu64 ins)]), (8, regs.map vu64), (1, [(vu64 pc)]), (1, [(.bool run)]), (1, [(vi 0)])]) rfl Try.isAgg28 Try.sizeOf28 (h_26.ok _ (.tail _ (.tail _ (.head _)))) rfl rfl rfl rfl) ?_
    refine WL.storeA (b := b_7) (off := 0) [] [(1, [(vi 0)]), (1, [(vu64 0)]), (8, (List.replicate 8 (0 : UInt64)).map vu64), (1, [(vu64 0)]), (1, [(.bool false)]), (1, [(vi 0)])] [(1, [(vi rd)]), (1, [(vu64 ins)]), (8, regs.map vu64), (1, [(vu64 pc)]), (1, [(.bool run)]), (1, [(vi 0)])] [] (ys := flat [(1, [(vi rd)]), (1, [(vu64 ins)]), (8, regs.map vu64), (1, [(vu64 pc)]), (1, [(.bool run)]), (1, [(vi 0)])]) h_26 rfl rfl Try.sizeOf28 At.h (by decide) rfl rfl rfl rfl rfl rfl (SsOk.cons (SOk.v rfl) (SsOk.cons (SOk.v rfl) (SsOk.cons (SOk.u64 hr) (SsOk.cons (SOk.v rfl) (SsOk.cons (SOk.v rfl) (SsOk.cons (SOk.v rfl) SsOk.nil)))))) (fun w_27 h_28 => ?_)
    refine WL.q (Wn.no rfl) rfl rfl (R.assign (v := (vi 0)) rfl) ?_
    refine WL.nil ?_
    refine thn_n ?_
    refine WP.ret ?_
    refine ret_of Try.results13 (RV.cell rfl (h_28.loadA (cs := flat [(1, [(vi rd)]), (1, [(vu64 ins)]), (8, regs.map vu64), (1, [(vu64 pc)]), (1, [(.bool run)]), (1, [(vi 0)])]) Try.isAgg28 Try.sizeOf28 (.head _) rfl rfl) (RV.tmp (v := (vi 0)) rfl RV.nil)) ?_
    exact ⟨by rw [entRegs, if_neg p_24]; rfl, h_28.chgS⟩

theorem c_waits  (w : World) :
    Cs Try.prog 42 [].toArray w (fun v w1 => ∃ b, v = .map (some b) ∧ Chg w w1 [] ∧ w.heap.size ≤ b ∧ w1.heap[b]? = some (.map #[{ key := (vi 1), val := (vi 0), born := 0 }, { key := (vi 2), val := (vi 1), born := 1 }, { key := (vi 3), val := (vi 2), born := 2 }, { key := (vi 4), val := (vi 0), born := 3 }, { key := (vi 5), val := (vi 3), born := 4 }] 5)) := by
  refine Cs.of (n := 3) (args := []) Try.func42 rfl rfl rfl ?_
  have h_0 := HP.init w
  refine WP.seq ?_
  refine WP.reg ?_
  refine WL.q (Wn.no rfl) rfl rfl (R.assign (v := (.map none)) rfl) ?_
  refine WL.nil ?_
  refine thn_n ?_
  refine WP.seq ?_
  refine WP.reg ?_
  refine WL.makeMap h_0 rfl (fun b_1 w_2 h_3 => ?_)
  refine WL.insert (k := (vi 1)) (v := (vi 0)) h_3 rfl rfl rfl Try.underlying88 At.h (by decide) (Ck.int Try.underlying38) (Fk.int Try.underlying38 rfl) (fun w_4 h_5 => ?_)
  refine WL.insert (k := (vi 2)) (v := (vi 1)) h_5 rfl rfl rfl Try.underlying88 At.h (by decide) (Ck.int Try.underlying38) (Fk.int Try.underlying38 rfl) (fun w_6 h_7 => ?_)
  refine WL.insert (k := (vi 3)) (v := (vi 2)) h_7 rfl rfl rfl Try.underlying88 At.h (by decide) (Ck.int Try.underlying38) (Fk.int Try.underlying38 rfl) (fun w_8 h_9 => ?_)
  refine WL.insert (k := (vi 4)) (v := (vi 0)) h_9 rfl rfl rfl Try.underlying88 At.h (by decide) (Ck.int Try.underlying38) (Fk.int Try.underlying38 rfl) (fun w_10 h_11 => ?_)
  refine WL.insert (k := (vi 5)) (v := (vi 3)) h_11 rfl rfl rfl Try.underlying88 At.h (by decide) (Ck.int Try.underlying38) (Fk.int Try.underlying38 rfl) (fun w_12 h_13 => ?_)
  refine WL.q (Wn.no rfl) rfl rfl (R.move (v := (.map (some b_1))) rfl) ?_
  refine WL.q (Wn.no rfl) rfl rfl (R.assign (v := (.map (some b_1))) rfl) ?_
  refine WL.nil ?_
  refine thn_n ?_
  refine WP.ret ?_
  refine ret_of Try.results42 (RV.tmp (v := (.map (some b_1))) rfl RV.nil) ?_
  exact ⟨_, rfl, h_13.chgS, (h_13.ok _ (.head _)).2, (h_13.ok _ (.head _)).1⟩

theorem c_Leave (rd : Int) (ins : UInt64) (regs : List UInt64) (hr : regs.length = 8) (pc : UInt64) (run : Bool) (wt : Int) (cr : List UInt64) (hcr : cr.length = 8) (cpc : UInt64) (rs : Int) (ors : List UInt64) (hor : ors.length = 4) (adr : UInt64) (wr : Bool) (ran : Int) (h1 : 1 ≤ rs) (h5 : rs ≤ 5) (h0 : 0 ≤ ran) (w : World) :
    Cs Try.prog 16 [(.agg ⟨flat [(1, [(vi rd)]), (1, [(vu64 ins)]), (8, regs.map vu64), (1, [(vu64 pc)]), (1, [(.bool run)]), (1, [(vi wt)])]⟩), (.agg ⟨flat [(8, cr.map vu64), (1, [(vu64 cpc)])]⟩), (.agg ⟨flat [(1, [(vi rs)]), (4, ors.map vu64), (1, [(vu64 adr)]), (1, [(.bool wr)]), (1, [(vi ran)])]⟩)].toArray w (fun v w1 => v = (.tuple [(.agg ⟨flat [(1, [(vi rd)]), (1, [(vu64 ins)]), (8, cr.map vu64), (1, [(vu64 cpc)]), (1, [(.bool run)]), (1, [(vi (waitOf rs))])]⟩), (vi 0)].toArray) ∧ Chg w w1 []) := by
  refine Cs.of (n := 30) (args := [(.agg ⟨flat [(1, [(vi rd)]), (1, [(vu64 ins)]), (8, regs.map vu64), (1, [(vu64 pc)]), (1, [(.bool run)]), (1, [(vi wt)])]⟩), (.agg ⟨flat [(8, cr.map vu64), (1, [(vu64 cpc)])]⟩), (.agg ⟨flat [(1, [(vi rs)]), (4, ors.map vu64), (1, [(vu64 adr)]), (1, [(.bool wr)]), (1, [(vi ran)])]⟩)]) Try.func16 rfl rfl rfl ?_
  have h_0 := HP.init w
  refine WP.seq ?_
  refine WP.reg ?_
  refine WL.box (v := (.agg ⟨flat [(1, [(vi rd)]), (1, [(vu64 ins)]), (8, regs.map vu64), (1, [(vu64 pc)]), (1, [(.bool run)]), (1, [(vi wt)])]⟩)) (segs := [(1, [(vi rd)]), (1, [(vu64 ins)]), (8, regs.map vu64), (1, [(vu64 pc)]), (1, [(.bool run)]), (1, [(vi wt)])]) h_0 rfl rfl (SsOk.cons (SOk.v rfl) (SsOk.cons (SOk.v rfl) (SsOk.cons (SOk.u64 hr) (SsOk.cons (SOk.v rfl) (SsOk.cons (SOk.v rfl) (SsOk.cons (SOk.v rfl) SsOk.nil)))))) rfl (fun b_1 w_2 h_3 => ?_)
  refine WL.box (v := (.agg ⟨flat [(8, cr.map vu64), (1, [(vu64 cpc)])]⟩)) (segs := [(8, cr.map vu64), (1, [(vu64 cpc)])]) h_3 rfl rfl (SsOk.cons (SOk.u64 hcr) (SsOk.cons (SOk.v rfl) SsOk.nil)) rfl (fun b_4 w_5 h_6 => ?_)
  refine WL.box (v := (.agg ⟨flat [(1, [(vi rs)]), (4, ors.map vu64), (1, [(vu64 adr)]), (1, [(.bool wr)]), (1, [(vi ran)])]⟩)) (segs := [(1, [(vi rs)]), (4, ors.map vu64), (1, [(vu64 adr)]), (1, [(.bool wr)]), (1, [(vi ran)])]) h_6 rfl rfl (SsOk.cons (SOk.v rfl) (SsOk.cons (SOk.u64 hor) (SsOk.cons (SOk.v rfl) (SsOk.cons (SOk.v rfl) (SsOk.cons (SOk.v rfl) SsOk.nil))))) rfl (fun b_7 w_8 h_9 => ?_)
  refine WL.alloc (segs := [(1, [(vi 0)]), (1, [(vu64 0)]), (8, (List.replicate 8 (0 : UInt64)).map vu64), (1, [(vu64 0)]), (1, [(.bool false)]), (1, [(vi 0)])]) h_9 (zv Try.typeInfo28 rfl) rfl (SsOk.cons (SOk.v rfl) (SsOk.cons (SOk.v rfl) (SsOk.cons (SOk.u64 (List.length_replicate ..)) (SsOk.cons (SOk.v rfl) (SsOk.cons (SOk.v rfl) (SsOk.cons (SOk.v rfl) SsOk.nil)))))) rfl (fun b_10 w_11 h_12 => ?_)
  refine WL.q (Wn.no rfl) rfl rfl (R.assign (v := (vi 0)) rfl) ?_
  refine WL.nil ?_
  refine thn_n ?_
  refine WP.seq ?_
  refine WP.drawT (SL w.heap.size [.blk b_10 .nw 28 [(1, [(vi 0)]), (1, [(vu64 0)]), (8, (List.replicate 8 (0 : UInt64)).map vu64), (1, [(vu64 0)]), (1, [(.bool false)]), (1, [(vi 0)])], .blk b_7 .nw 40 [(1, [(vi rs)]), (4, ors.map vu64), (1, [(vu64 adr)]), (1, [(.bool wr)]), (1, [(vi ran)])], .blk b_4 .nw 25 [(8, cr.map vu64), (1, [(vu64 cpc)])], .blk b_1 .nw 28 [(1, [(vi rd)]), (1, [(vu64 ins)]), (8, regs.map vu64), (1, [(vu64 pc)]), (1, [(.bool run)]), (1, [(vi wt)])]]) (.q 1 (.q 2 (.s 0 (.s 3 (.q 4 (.q 5 (.q 6 (.q 7 (.q 8 .nil))))))))) (by kernel_rfl) (by kernel_rfl) rfl (by kernel_rfl) (fun w_13 hc_15 => (SL.cons ((h_12.same hc_15).ok _ (.head _)) (SL.cons ((h_12.same hc_15).ok _ (.tail _ (.head _))) (SL.cons ((h_12.same hc_15).ok _ (.tail _ (.tail _ (.head _)))) (SL.cons ((h_12.same hc_15).ok _ (.tail _ (.tail _ (.tail _ (.head _))))) (SL.nil _ _)))))) (fun w_13 hc_15 => ?_)
  have h_14 := h_12.same hc_15
  refine WT.q rfl (Wn.no rfl) rfl rfl (fun wq hS => R.fieldAddr (b := b_7) (off := 0) (off' := 0) rfl Try.underlying40 rfl Try.sizeOf38 rfl rfl) ?_
  refine WT.q rfl (Wn.no rfl) rfl rfl (fun wq hS => R.load1 (b := b_7) (off := 0) (v := (vi rs)) rfl Try.isAgg38 (hS _ (.tail _ (.head _))) Sg.h) ?_
  refine WT.s ?_
  refine Op1.one rfl (Wn.no rfl) ?_
  refine WL.call (al := []) Try.call42 rfl rfl (c_waits _) rfl ?_
  rintro _ w_17 ⟨b_16, rfl, hc_18, hg_20, hb_19⟩
  have h_21 := h_14.pushObj hc_18 hb_19 hg_20
  refine WL.nil ?_
  refine ⟨(SL.cons (h_21.ok _ (.tail _ (.head _))) (SL.cons (h_21.ok _ (.tail _ (.tail _ (.head _)))) (SL.cons (h_21.ok _ (.tail _ (.tail _ (.tail _ (.head _))))) (SL.cons (h_21.ok _ (.tail _ (.tail _ (.tail _ (.tail _ (.head _)))))) (SL.nil _ _))))), ?_⟩
  refine WT.s ?_
  refine Op1.one rfl (Wn.no rfl) ?_
  refine WL.q (Wn.no rfl) rfl rfl (R.lookup (r := (some ((rs - 1).toNat, vi (waitOf rs)))) (z := (vi 0)) (v := (vi (waitOf rs))) (ok := true) rfl rfl Try.underlying88 (h_21.ok _ (.head _)) (Ck.int Try.underlying38) (Fk.int Try.underlying38 (wait_hit h1 h5)) (zv Try.typeInfo26 rfl) rfl rfl) ?_
  refine WL.nil ?_
  refine ⟨(SL.cons (h_21.ok _ (.tail _ (.head _))) (SL.cons (h_21.ok _ (.tail _ (.tail _ (.head _)))) (SL.cons (h_21.ok _ (.tail _ (.tail _ (.tail _ (.head _))))) (SL.cons (h_21.ok _ (.tail _ (.tail _ (.tail _ (.tail _ (.head _)))))) (SL.nil _ _))))), ?_⟩
  refine WT.q rfl (Wn.no rfl) rfl rfl (fun wq hS => R.move (v := (.tuple [(vi (waitOf rs)), (.bool true)].toArray)) rfl) ?_
  refine WT.q rfl (Wn.no rfl) rfl rfl (fun wq hS => R.extract (l := [(vi (waitOf rs)), (.bool true)]) (v := (vi (waitOf rs))) rfl rfl) ?_
  refine WT.q rfl (Wn.no rfl) rfl rfl (fun wq hS => R.extract (l := [(vi (waitOf rs)), (.bool true)]) (v := (.bool true)) rfl rfl) ?_
  refine WT.q rfl (Wn.no rfl) rfl rfl (fun wq hS => R.assign (v := (vi (waitOf rs))) rfl) ?_
  refine WT.q rfl (Wn.no rfl) rfl rfl (fun wq hS => R.assign (v := (.bool true)) rfl) ?_
  refine WT.nil ?_
  refine thn_n ?_
  refine WP.seq ?_
  refine WP.seq ?_
  refine WP.reg ?_
  refine WL.q (Wn.no rfl) rfl rfl (R.move (v := (.bool true)) rfl) ?_
  refine WL.q (Wn.no rfl) rfl rfl (R.not (b := true) rfl) ?_
  refine WL.q (Wn.no rfl) rfl rfl (R.move (v := (.bool false)) rfl) ?_
  refine WL.want rfl rfl ?_
  refine WL.q (Wn.no rfl) rfl rfl (R.fieldAddr (b := b_7) (off := 0) (off' := 7) rfl Try.underlying40 rfl Try.sizeOf3 rfl rfl) ?_
  refine WL.want rfl rfl ?_
  refine WL.q (Wn.no rfl) rfl rfl (R.load1 (b := b_7) (off := 7) (v := (vi ran)) rfl Try.isAgg3 (h_21.ok _ (.tail _ (.tail _ (.head _)))) (Sg.t rfl (Sg.t rfl (Sg.t rfl (Sg.t rfl Sg.h))))) ?_
  refine WL.want rfl rfl ?_
  refine WL.q (Wn.no rfl) rfl rfl (R.bin (v := (.bool (decide ((ran : Int) < 0)))) rfl rfl (bi_lss (r := decide ((ran : Int) < 0)) rfl)) ?_
  refine WL.q (Wn.no rfl) rfl rfl (R.pickF (v := (.bool (decide ((ran : Int) < 0)))) rfl rfl) ?_
  refine WL.nil ?_
  refine thn_n ?_
  refine WP.condF (congrArg Value.bool (decide_eq_false (by omega))) ?_
  refine WP.skip ?_
  refine thn_n ?_
  refine WP.seq ?_
  refine WP.reg ?_
  refine WL.q (Wn.no rfl) rfl rfl (R.loadA (b := b_4) (off := 0) [] [(8, cr.map vu64), (1, [(vu64 cpc)])] [] (cs := flat [(8, cr.map vu64), (1, [(vu64 cpc)])]) rfl Try.isAgg25 Try.sizeOf25 (h_21.ok _ (.tail _ (.tail _ (.tail _ (.head _))))) rfl rfl rfl rfl) ?_
  refine WL.q (Wn.no rfl) rfl rfl (R.move (v := (vi (waitOf rs))) rfl) ?_
  refine WL.q (Wn.no rfl) rfl rfl (R.fieldAddr (b := b_1) (off := 0) (off' := 2) rfl Try.underlying28 rfl Try.sizeOf25 rfl rfl) ?_
  refine WL.storeA (b := b_1) (off := 2) [(1, [(vi rd)]), (1, [(vu64 ins)])] [(8, regs.map vu64), (1, [(vu64 pc)])] [(8, cr.map vu64), (1, [(vu64 cpc)])] [(1, [(.bool run)]), (1, [(vi wt)])] (ys := flat [(8, cr.map vu64), (1, [(vu64 cpc)])]) h_21 rfl rfl Try.sizeOf25 (At.t (At.t (At.t (At.t At.h)))) (by decide) rfl rfl rfl rfl rfl rfl (SsOk.cons (SOk.u64 hcr) (SsOk.cons (SOk.v rfl) SsOk.nil)) (fun w_22 h_23 => ?_)
  refine WL.q (Wn.no rfl) rfl rfl (R.fieldAddr (b := b_1) (off := 0) (off' := 12) rfl Try.underlying28 rfl Try.sizeOf26 rfl rfl) ?_
  refine WL.store1 (b := b_1) (off := 12) (v := (vi (waitOf rs))) h_23 rfl rfl Try.sizeOf26 rfl (At.t (At.t (At.t (At.t At.h)))) (by decide) (Sg.t rfl (Sg.t rfl (Sg.t rfl (Sg.t rfl (Sg.t rfl Sg.h))))) (fun w_24 h_25 => ?_)
  refine WL.nil ?_
  refine thn_n ?_
  refine WP.seq ?_
  refine WP.reg ?_
  refine WL.q (Wn.no rfl) rfl rfl (R.loadA (b := b_1) (off := 0) [] [(1, [(vi rd)]), (1, [(vu64 ins)]), (8, cr.map vu64), (1, [(vu64 cpc)]), (1, [(.bool run)]), (1, [(vi (waitOf rs))])] [] (cs := flat [(1, [(vi rd)]), (1, [(vu64 ins)]), (8, cr.map vu64), (1, [(vu64 cpc)]), (1, [(.bool run)]), (1, [(vi (waitOf rs))])]) rfl Try.isAgg28 Try.sizeOf28 (h_25.ok _ (.tail _ (.tail _ (.tail _ (.tail _ (.head _)))))) rfl rfl rfl rfl) ?_
  refine WL.storeA (b := b_10) (off := 0) [] [(1, [(vi 0)]), (1, [(vu64 0)]), (8, (List.replicate 8 (0 : UInt64)).map vu64), (1, [(vu64 0)]), (1, [(.bool false)]), (1, [(vi 0)])] [(1, [(vi rd)]), (1, [(vu64 ins)]), (8, cr.map vu64), (1, [(vu64 cpc)]), (1, [(.bool run)]), (1, [(vi (waitOf rs))])] [] (ys := flat [(1, [(vi rd)]), (1, [(vu64 ins)]), (8, cr.map vu64), (1, [(vu64 cpc)]), (1, [(.bool run)]), (1, [(vi (waitOf rs))])]) h_25 rfl rfl Try.sizeOf28 (At.t At.h) (by decide) rfl rfl rfl rfl rfl rfl (SsOk.cons (SOk.v rfl) (SsOk.cons (SOk.v rfl) (SsOk.cons (SOk.u64 hcr) (SsOk.cons (SOk.v rfl) (SsOk.cons (SOk.v rfl) (SsOk.cons (SOk.v rfl) SsOk.nil)))))) (fun w_26 h_27 => ?_)
  refine WL.q (Wn.no rfl) rfl rfl (R.assign (v := (vi 0)) rfl) ?_
  refine WL.nil ?_
  refine thn_n ?_
  refine WP.ret ?_
  refine ret_of Try.results16 (RV.cell rfl (h_27.loadA (cs := flat [(1, [(vi rd)]), (1, [(vu64 ins)]), (8, cr.map vu64), (1, [(vu64 cpc)]), (1, [(.bool run)]), (1, [(vi (waitOf rs))])]) Try.isAgg28 Try.sizeOf28 (.tail _ (.head _)) rfl rfl) (RV.tmp (v := (vi 0)) rfl RV.nil)) ?_
  exact ⟨rfl, h_27.chgS⟩

theorem c_Leave_n1 (rd : Int) (ins : UInt64) (regs : List UInt64) (hr : regs.length = 8) (pc : UInt64) (run : Bool) (wt : Int) (cr : List UInt64) (hcr : cr.length = 8) (cpc : UInt64) (rs : Int) (ors : List UInt64) (hor : ors.length = 4) (adr : UInt64) (wr : Bool) (ran : Int) (hn : rs < 1 ∨ 5 < rs) (w : World) :
    Cs Try.prog 16 [(.agg ⟨flat [(1, [(vi rd)]), (1, [(vu64 ins)]), (8, regs.map vu64), (1, [(vu64 pc)]), (1, [(.bool run)]), (1, [(vi wt)])]⟩), (.agg ⟨flat [(8, cr.map vu64), (1, [(vu64 cpc)])]⟩), (.agg ⟨flat [(1, [(vi rs)]), (4, ors.map vu64), (1, [(vu64 adr)]), (1, [(.bool wr)]), (1, [(vi ran)])]⟩)].toArray w (fun v w1 => v = (.tuple [(.agg ⟨flat [(1, [(vi 0)]), (1, [(vu64 0)]), (8, (List.replicate 8 (0 : UInt64)).map vu64), (1, [(vu64 0)]), (1, [(.bool false)]), (1, [(vi 0)])]⟩), (vi 2)].toArray) ∧ Chg w w1 []) := by
  refine Cs.of (n := 30) (args := [(.agg ⟨flat [(1, [(vi rd)]), (1, [(vu64 ins)]), (8, regs.map vu64), (1, [(vu64 pc)]), (1, [(.bool run)]), (1, [(vi wt)])]⟩), (.agg ⟨flat [(8, cr.map vu64), (1, [(vu64 cpc)])]⟩), (.agg ⟨flat [(1, [(vi rs)]), (4, ors.map vu64), (1, [(vu64 adr)]), (1, [(.bool wr)]), (1, [(vi ran)])]⟩)]) Try.func16 rfl rfl rfl ?_
  have h_0 := HP.init w
  refine WP.seq ?_
  refine WP.reg ?_
  refine WL.box (v := (.agg ⟨flat [(1, [(vi rd)]), (1, [(vu64 ins)]), (8, regs.map vu64), (1, [(vu64 pc)]), (1, [(.bool run)]), (1, [(vi wt)])]⟩)) (segs := [(1, [(vi rd)]), (1, [(vu64 ins)]), (8, regs.map vu64), (1, [(vu64 pc)]), (1, [(.bool run)]), (1, [(vi wt)])]) h_0 rfl rfl (SsOk.cons (SOk.v rfl) (SsOk.cons (SOk.v rfl) (SsOk.cons (SOk.u64 hr) (SsOk.cons (SOk.v rfl) (SsOk.cons (SOk.v rfl) (SsOk.cons (SOk.v rfl) SsOk.nil)))))) rfl (fun b_1 w_2 h_3 => ?_)
  refine WL.box (v := (.agg ⟨flat [(8, cr.map vu64), (1, [(vu64 cpc)])]⟩)) (segs := [(8, cr.map vu64), (1, [(vu64 cpc)])]) h_3 rfl rfl (SsOk.cons (SOk.u64 hcr) (SsOk.cons (SOk.v rfl) SsOk.nil)) rfl (fun b_4 w_5 h_6 => ?_)
  refine WL.box (v := (.agg ⟨flat [(1, [(vi rs)]), (4, ors.map vu64), (1, [(vu64 adr)]), (1, [(.bool wr)]), (1, [(vi ran)])]⟩)) (segs := [(1, [(vi rs)]), (4, ors.map vu64), (1, [(vu64 adr)]), (1, [(.bool wr)]), (1, [(vi ran)])]) h_6 rfl rfl (SsOk.cons (SOk.v rfl) (SsOk.cons (SOk.u64 hor) (SsOk.cons (SOk.v rfl) (SsOk.cons (SOk.v rfl) (SsOk.cons (SOk.v rfl) SsOk.nil))))) rfl (fun b_7 w_8 h_9 => ?_)
  refine WL.alloc (segs := [(1, [(vi 0)]), (1, [(vu64 0)]), (8, (List.replicate 8 (0 : UInt64)).map vu64), (1, [(vu64 0)]), (1, [(.bool false)]), (1, [(vi 0)])]) h_9 (zv Try.typeInfo28 rfl) rfl (SsOk.cons (SOk.v rfl) (SsOk.cons (SOk.v rfl) (SsOk.cons (SOk.u64 (List.length_replicate ..)) (SsOk.cons (SOk.v rfl) (SsOk.cons (SOk.v rfl) (SsOk.cons (SOk.v rfl) SsOk.nil)))))) rfl (fun b_10 w_11 h_12 => ?_)
  refine WL.q (Wn.no rfl) rfl rfl (R.assign (v := (vi 0)) rfl) ?_
  refine WL.nil ?_
  refine thn_n ?_
  refine WP.seq ?_
  refine WP.drawT (SL w.heap.size [.blk b_10 .nw 28 [(1, [(vi 0)]), (1, [(vu64 0)]), (8, (List.replicate 8 (0 : UInt64)).map vu64), (1, [(vu64 0)]), (1, [(.bool false)]), (1, [(vi 0)])], .blk b_7 .nw 40 [(1, [(vi rs)]), (4, ors.map vu64), (1, [(vu64 adr)]), (1, [(.bool wr)]), (1, [(vi ran)])], .blk b_4 .nw 25 [(8, cr.map vu64), (1, [(vu64 cpc)])], .blk b_1 .nw 28 [(1, [(vi rd)]), (1, [(vu64 ins)]), (8, regs.map vu64), (1, [(vu64 pc)]), (1, [(.bool run)]), (1, [(vi wt)])]]) (.q 1 (.q 2 (.s 0 (.s 3 (.q 4 (.q 5 (.q 6 (.q 7 (.q 8 .nil))))))))) (by kernel_rfl) (by kernel_rfl) rfl (by kernel_rfl) (fun w_13 hc_15 => (SL.cons ((h_12.same hc_15).ok _ (.head _)) (SL.cons ((h_12.same hc_15).ok _ (.tail _ (.head _))) (SL.cons ((h_12.same hc_15).ok _ (.tail _ (.tail _ (.head _)))) (SL.cons ((h_12.same hc_15).ok _ (.tail _ (.tail _ (.tail _ (.head _))))) (SL.nil _ _)))))) (fun w_13 hc_15 => ?_)
  have h_14 := h_12.same hc_15
  refine WT.q rfl (Wn.no rfl) rfl rfl (fun wq hS => R.fieldAddr (b := b_7) (off := 0) (off' := 0) rfl Try.underlying40 rfl Try.sizeOf38 rfl rfl) ?_
  refine WT.q rfl (Wn.no rfl) rfl rfl (fun wq hS => R.load1 (b := b_7) (off := 0) (v := (vi rs)) rfl Try.isAgg38 (hS _ (.tail _ (.head _))) Sg.h) ?_
  refine WT.s ?_
  refine Op1.one rfl (Wn.no rfl) ?_
  refine WL.call (al := []) Try.call42 rfl rfl (c_waits _) rfl ?_
  rintro _ w_17 ⟨b_16, rfl, hc_18, hg_20, hb_19⟩
  have h_21 := h_14.pushObj hc_18 hb_19 hg_20
  refine WL.nil ?_
  refine ⟨(SL.cons (h_21.ok _ (.tail _ (.head _))) (SL.cons (h_21.ok _ (.tail _ (.tail _ (.head _)))) (SL.cons (h_21.ok _ (.tail _ (.tail _ (.tail _ (.head _))))) (SL.cons (h_21.ok _ (.tail _ (.tail _ (.tail _ (.tail _ (.head _)))))) (SL.nil _ _))))), ?_⟩
  refine WT.s ?_
  refine Op1.one rfl (Wn.no rfl) ?_
  refine WL.q (Wn.no rfl) rfl rfl (R.lookup (r := none) (z := (vi 0)) (v := (vi 0)) (ok := false) rfl rfl Try.underlying88 (h_21.ok _ (.head _)) (Ck.int Try.underlying38) (Fk.int Try.underlying38 (wait_miss hn)) (zv Try.typeInfo26 rfl) rfl rfl) ?_
  refine WL.nil ?_
  refine ⟨(SL.cons (h_21.ok _ (.tail _ (.head _))) (SL.cons (h_21.ok _ (.tail _ (.tail _ (.head _)))) (SL.cons (h_21.ok _ (.tail _ (.tail _ (.tail _ (.head _))))) (SL.cons (h_21.ok _ (.tail _ (.tail _ (.tail _ (.tail _ (.head _)))))) (SL.nil _ _))))), ?_⟩
  refine WT.q rfl (Wn.no rfl) rfl rfl (fun wq hS => R.move (v := (.tuple [(vi 0), (.bool false)].toArray)) rfl) ?_
  refine WT.q rfl (Wn.no rfl) rfl rfl (fun wq hS => R.extract (l := [(vi 0), (.bool false)]) (v := (vi 0)) rfl rfl) ?_
  refine WT.q rfl (Wn.no rfl) rfl rfl (fun wq hS => R.extract (l := [(vi 0), (.bool false)]) (v := (.bool false)) rfl rfl) ?_
  refine WT.q rfl (Wn.no rfl) rfl rfl (fun wq hS => R.assign (v := (vi 0)) rfl) ?_
  refine WT.q rfl (Wn.no rfl) rfl rfl (fun wq hS => R.assign (v := (.bool false)) rfl) ?_
  refine WT.nil ?_
  refine thn_n ?_
  refine WP.seq ?_
  refine WP.seq ?_
  refine WP.reg ?_
  refine WL.q (Wn.no rfl) rfl rfl (R.move (v := (.bool false)) rfl) ?_
  refine WL.q (Wn.no rfl) rfl rfl (R.not (b := false) rfl) ?_
  refine WL.q (Wn.no rfl) rfl rfl (R.move (v := (.bool true)) rfl) ?_
  refine WL.skip rfl rfl rfl ?_
  refine WL.skip rfl rfl rfl ?_
  refine WL.skip rfl rfl rfl ?_
  refine WL.q (Wn.no rfl) rfl rfl (R.pickT (v := (.bool true)) rfl rfl) ?_
  refine WL.nil ?_
  refine thn_n ?_
  refine WP.condT rfl ?_
  refine WP.seq ?_
  refine WP.reg ?_
  refine WL.q (Wn.no rfl) rfl rfl (R.buildS (pl := [(0, 1), (1, 1), (2, 9), (11, 1), (12, 1)]) (zs := [(1, [(vi 0)]), (1, [(vu64 0)]), (8, (List.replicate 8 (0 : UInt64)).map vu64), (1, [(vu64 0)]), (1, [(.bool false)]), (1, [(vi 0)])]) (vs := []) (out := [(1, [(vi 0)]), (1, [(vu64 0)]), (8, (List.replicate 8 (0 : UInt64)).map vu64), (1, [(vu64 0)]), (1, [(.bool false)]), (1, [(vi 0)])]) (cs := flat [(1, [(vi 0)]), (1, [(vu64 0)]), (8, (List.replicate 8 (0 : UInt64)).map vu64), (1, [(vu64 0)]), (1, [(.bool false)]), (1, [(vi 0)])]) Try.underlying28 (zv Try.typeInfo28 rfl) rfl (SsOk.cons (SOk.v rfl) (SsOk.cons (SOk.v rfl) (SsOk.cons (SOk.u64 (List.length_replicate ..)) (SsOk.cons (SOk.v rfl) (SsOk.cons (SOk.v rfl) (SsOk.cons (SOk.v rfl) SsOk.nil)))))) (pl28 _ Try.underlying28) rfl FillR.nil rfl) ?_
  refine WL.storeA (b := b_10) (off := 0) [] [(1, [(vi 0)]), (1, [(vu64 0)]), (8, (List.replicate 8 (0 : UInt64)).map vu64), (1, [(vu64 0)]), (1, [(.bool false)]), (1, [(vi 0)])] [(1, [(vi 0)]), (1, [(vu64 0)]), (8, (List.replicate 8 (0 : UInt64)).map vu64), (1, [(vu64 0)]), (1, [(.bool false)]), (1, [(vi 0)])] [] (ys := flat [(1, [(vi 0)]), (1, [(vu64 0)]), (8, (List.replicate 8 (0 : UInt64)).map vu64), (1, [(vu64 0)]), (1, [(.bool false)]), (1, [(vi 0)])]) h_21 rfl rfl Try.sizeOf28 (At.t At.h) (by decide) rfl rfl rfl rfl rfl rfl (SsOk.cons (SOk.v rfl) (SsOk.cons (SOk.v rfl) (SsOk.cons (SOk.u64 (List.length_replicate ..)) (SsOk.cons (SOk.v rfl) (SsOk.cons (SOk.v rfl) (SsOk.cons (SOk.v rfl) SsOk.nil)))))) (fun w_23 h_24 => ?_)
  refine WL.q (Wn.no rfl) rfl rfl (R.assign (v := (vi 2)) rfl) ?_
  refine WL.nil ?_
  refine thn_n ?_
  refine WP.ret ?_
  refine thn_r ?_
  refine ret_of Try.results16 (RV.cell rfl (h_24.loadA (cs := flat [(1, [(vi 0)]), (1, [(vu64 0)]), (8, (List.replicate 8 (0 : UInt64)).map vu64), (1, [(vu64 0)]), (1, [(.bool false)]), (1, [(vi 0)])]) Try.isAgg28 Try.sizeOf28 (.tail _ (.head _)) rfl rfl) (RV.tmp (v := (vi 2)) rfl RV.nil)) ?_
  exact ⟨rfl, h_24.chgS⟩

theorem c_Leave_n2 (rd : Int) (ins : UInt64) (regs : List UInt64) (hr : regs.length = 8) (pc : UInt64) (run : Bool) (wt : Int) (cr : List UInt64) (hcr : cr.length = 8) (cpc : UInt64) (rs : Int) (ors : List UInt64) (hor : ors.length = 4) (adr : UInt64) (wr : Bool) (ran : Int) (h1 : 1 ≤ rs) (h5 : rs ≤ 5) (h0 : ran < 0) (w : World) :
    Cs Try.prog 16 [(.agg ⟨flat [(1, [(vi rd)]), (1, [(vu64 ins)]), (8, regs.map vu64), (1, [(vu64 pc)]), (1, [(.bool run)]), (1, [(vi wt)])]⟩), (.agg ⟨flat [(8, cr.map vu64), (1, [(vu64 cpc)])]⟩), (.agg ⟨flat [(1, [(vi rs)]), (4, ors.map vu64), (1, [(vu64 adr)]), (1, [(.bool wr)]), (1, [(vi ran)])]⟩)].toArray w (fun v w1 => v = (.tuple [(.agg ⟨flat [(1, [(vi 0)]), (1, [(vu64 0)]), (8, (List.replicate 8 (0 : UInt64)).map vu64), (1, [(vu64 0)]), (1, [(.bool false)]), (1, [(vi 0)])]⟩), (vi 2)].toArray) ∧ Chg w w1 []) := by
  refine Cs.of (n := 30) (args := [(.agg ⟨flat [(1, [(vi rd)]), (1, [(vu64 ins)]), (8, regs.map vu64), (1, [(vu64 pc)]), (1, [(.bool run)]), (1, [(vi wt)])]⟩), (.agg ⟨flat [(8, cr.map vu64), (1, [(vu64 cpc)])]⟩), (.agg ⟨flat [(1, [(vi rs)]), (4, ors.map vu64), (1, [(vu64 adr)]), (1, [(.bool wr)]), (1, [(vi ran)])]⟩)]) Try.func16 rfl rfl rfl ?_
  have h_0 := HP.init w
  refine WP.seq ?_
  refine WP.reg ?_
  refine WL.box (v := (.agg ⟨flat [(1, [(vi rd)]), (1, [(vu64 ins)]), (8, regs.map vu64), (1, [(vu64 pc)]), (1, [(.bool run)]), (1, [(vi wt)])]⟩)) (segs := [(1, [(vi rd)]), (1, [(vu64 ins)]), (8, regs.map vu64), (1, [(vu64 pc)]), (1, [(.bool run)]), (1, [(vi wt)])]) h_0 rfl rfl (SsOk.cons (SOk.v rfl) (SsOk.cons (SOk.v rfl) (SsOk.cons (SOk.u64 hr) (SsOk.cons (SOk.v rfl) (SsOk.cons (SOk.v rfl) (SsOk.cons (SOk.v rfl) SsOk.nil)))))) rfl (fun b_1 w_2 h_3 => ?_)
  refine WL.box (v := (.agg ⟨flat [(8, cr.map vu64), (1, [(vu64 cpc)])]⟩)) (segs := [(8, cr.map vu64), (1, [(vu64 cpc)])]) h_3 rfl rfl (SsOk.cons (SOk.u64 hcr) (SsOk.cons (SOk.v rfl) SsOk.nil)) rfl (fun b_4 w_5 h_6 => ?_)
  refine WL.box (v := (.agg ⟨flat [(1, [(vi rs)]), (4, ors.map vu64), (1, [(vu64 adr)]), (1, [(.bool wr)]), (1, [(vi ran)])]⟩)) (segs := [(1, [(vi rs)]), (4, ors.map vu64), (1, [(vu64 adr)]), (1, [(.bool wr)]), (1, [(vi ran)])]) h_6 rfl rfl (SsOk.cons (SOk.v rfl) (SsOk.cons (SOk.u64 hor) (SsOk.cons (SOk.v rfl) (SsOk.cons (SOk.v rfl) (SsOk.cons (SOk.v rfl) SsOk.nil))))) rfl (fun b_7 w_8 h_9 => ?_)
  refine WL.alloc (segs := [(1, [(vi 0)]), (1, [(vu64 0)]), (8, (List.replicate 8 (0 : UInt64)).map vu64), (1, [(vu64 0)]), (1, [(.bool false)]), (1, [(vi 0)])]) h_9 (zv Try.typeInfo28 rfl) rfl (SsOk.cons (SOk.v rfl) (SsOk.cons (SOk.v rfl) (SsOk.cons (SOk.u64 (List.length_replicate ..)) (SsOk.cons (SOk.v rfl) (SsOk.cons (SOk.v rfl) (SsOk.cons (SOk.v rfl) SsOk.nil)))))) rfl (fun b_10 w_11 h_12 => ?_)
  refine WL.q (Wn.no rfl) rfl rfl (R.assign (v := (vi 0)) rfl) ?_
  refine WL.nil ?_
  refine thn_n ?_
  refine WP.seq ?_
  refine WP.drawT (SL w.heap.size [.blk b_10 .nw 28 [(1, [(vi 0)]), (1, [(vu64 0)]), (8, (List.replicate 8 (0 : UInt64)).map vu64), (1, [(vu64 0)]), (1, [(.bool false)]), (1, [(vi 0)])], .blk b_7 .nw 40 [(1, [(vi rs)]), (4, ors.map vu64), (1, [(vu64 adr)]), (1, [(.bool wr)]), (1, [(vi ran)])], .blk b_4 .nw 25 [(8, cr.map vu64), (1, [(vu64 cpc)])], .blk b_1 .nw 28 [(1, [(vi rd)]), (1, [(vu64 ins)]), (8, regs.map vu64), (1, [(vu64 pc)]), (1, [(.bool run)]), (1, [(vi wt)])]]) (.q 1 (.q 2 (.s 0 (.s 3 (.q 4 (.q 5 (.q 6 (.q 7 (.q 8 .nil))))))))) (by kernel_rfl) (by kernel_rfl) rfl (by kernel_rfl) (fun w_13 hc_15 => (SL.cons ((h_12.same hc_15).ok _ (.head _)) (SL.cons ((h_12.same hc_15).ok _ (.tail _ (.head _))) (SL.cons ((h_12.same hc_15).ok _ (.tail _ (.tail _ (.head _)))) (SL.cons ((h_12.same hc_15).ok _ (.tail _ (.tail _ (.tail _ (.head _))))) (SL.nil _ _)))))) (fun w_13 hc_15 => ?_)
  have h_14 := h_12.same hc_15
  refine WT.q rfl (Wn.no rfl) rfl rfl (fun wq hS => R.fieldAddr (b := b_7) (off := 0) (off' := 0) rfl Try.underlying40 rfl Try.sizeOf38 rfl rfl) ?_
  refine WT.q rfl (Wn.no rfl) rfl rfl (fun wq hS => R.load1 (b := b_7) (off := 0) (v := (vi rs)) rfl Try.isAgg38 (hS _ (.tail _ (.head _))) Sg.h) ?_
  refine WT.s ?_
  refine Op1.one rfl (Wn.no rfl) ?_
  refine WL.call (al := []) Try.call42 rfl rfl (c_waits _) rfl ?_
  rintro _ w_17 ⟨b_16, rfl, hc_18, hg_20, hb_19⟩
  have h_21 := h_14.pushObj hc_18 hb_19 hg_20
  refine WL.nil ?_
  refine ⟨(SL.cons (h_21.ok _ (.tail _ (.head _))) (SL.cons (h_21.ok _ (.tail _ (.tail _ (.head _)))) (SL.cons (h_21.ok _ (.tail _ (.tail _ (.tail _ (.head _))))) (SL.cons (h_21.ok _ (.tail _ (.tail _ (.tail _ (.tail _ (.head _)))))) (SL.nil _ _))))), ?_⟩
  refine WT.s ?_
  refine Op1.one rfl (Wn.no rfl) ?_
  refine WL.q (Wn.no rfl) rfl rfl (R.lookup (r := (some ((rs - 1).toNat, vi (waitOf rs)))) (z := (vi 0)) (v := (vi (waitOf rs))) (ok := true) rfl rfl Try.underlying88 (h_21.ok _ (.head _)) (Ck.int Try.underlying38) (Fk.int Try.underlying38 (wait_hit h1 h5)) (zv Try.typeInfo26 rfl) rfl rfl) ?_
  refine WL.nil ?_
  refine ⟨(SL.cons (h_21.ok _ (.tail _ (.head _))) (SL.cons (h_21.ok _ (.tail _ (.tail _ (.head _)))) (SL.cons (h_21.ok _ (.tail _ (.tail _ (.tail _ (.head _))))) (SL.cons (h_21.ok _ (.tail _ (.tail _ (.tail _ (.tail _ (.head _)))))) (SL.nil _ _))))), ?_⟩
  refine WT.q rfl (Wn.no rfl) rfl rfl (fun wq hS => R.move (v := (.tuple [(vi (waitOf rs)), (.bool true)].toArray)) rfl) ?_
  refine WT.q rfl (Wn.no rfl) rfl rfl (fun wq hS => R.extract (l := [(vi (waitOf rs)), (.bool true)]) (v := (vi (waitOf rs))) rfl rfl) ?_
  refine WT.q rfl (Wn.no rfl) rfl rfl (fun wq hS => R.extract (l := [(vi (waitOf rs)), (.bool true)]) (v := (.bool true)) rfl rfl) ?_
  refine WT.q rfl (Wn.no rfl) rfl rfl (fun wq hS => R.assign (v := (vi (waitOf rs))) rfl) ?_
  refine WT.q rfl (Wn.no rfl) rfl rfl (fun wq hS => R.assign (v := (.bool true)) rfl) ?_
  refine WT.nil ?_
  refine thn_n ?_
  refine WP.seq ?_
  refine WP.seq ?_
  refine WP.reg ?_
  refine WL.q (Wn.no rfl) rfl rfl (R.move (v := (.bool true)) rfl) ?_
  refine WL.q (Wn.no rfl) rfl rfl (R.not (b := true) rfl) ?_
  refine WL.q (Wn.no rfl) rfl rfl (R.move (v := (.bool false)) rfl) ?_
  refine WL.want rfl rfl ?_
  refine WL.q (Wn.no rfl) rfl rfl (R.fieldAddr (b := b_7) (off := 0) (off' := 7) rfl Try.underlying40 rfl Try.sizeOf3 rfl rfl) ?_
  refine WL.want rfl rfl ?_
  refine WL.q (Wn.no rfl) rfl rfl (R.load1 (b := b_7) (off := 7) (v := (vi ran)) rfl Try.isAgg3 (h_21.ok _ (.tail _ (.tail _ (.head _)))) (Sg.t rfl (Sg.t rfl (Sg.t rfl (Sg.t rfl Sg.h))))) ?_
  refine WL.want rfl rfl ?_
  refine WL.q (Wn.no rfl) rfl rfl (R.bin (v := (.bool (decide ((ran : Int) < 0)))) rfl rfl (bi_lss (r := decide ((ran : Int) < 0)) rfl)) ?_
  refine WL.q (Wn.no rfl) rfl rfl (R.pickF (v := (.bool (decide ((ran : Int) < 0)))) rfl rfl) ?_
  refine WL.nil ?_
  refine thn_n ?_
  refine WP.condT (congrArg Value.bool (decide_eq_true (by omega))) ?_
  refine WP.seq ?_
  refine WP.reg ?_
  refine WL.q (Wn.no rfl) rfl rfl (R.buildS (pl := [(0, 1), (1, 1), (2, 9), (11, 1), (12, 1)]) (zs := [(1, [(vi 0)]), (1, [(vu64 0)]), (8, (List.replicate 8 (0 : UInt64)).map vu64), (1, [(vu64 0)]), (1, [(.bool false)]), (1, [(vi 0)])]) (vs := []) (out := [(1, [(vi 0)]), (1, [(vu64 0)]), (8, (List.replicate 8 (0 : UInt64)).map vu64), (1, [(vu64 0)]), (1, [(.bool false)]), (1, [(vi 0)])]) (cs := flat [(1, [(vi 0)]), (1, [(vu64 0)]), (8, (List.replicate 8 (0 : UInt64)).map vu64), (1, [(vu64 0)]), (1, [(.bool false)]), (1, [(vi 0)])]) Try.underlying28 (zv Try.typeInfo28 rfl) rfl (SsOk.cons (SOk.v rfl) (SsOk.cons (SOk.v rfl) (SsOk.cons (SOk.u64 (List.length_replicate ..)) (SsOk.cons (SOk.v rfl) (SsOk.cons (SOk.v rfl) (SsOk.cons (SOk.v rfl) SsOk.nil)))))) (pl28 _ Try.underlying28) rfl FillR.nil rfl) ?_
  refine WL.storeA (b := b_10) (off := 0) [] [(1, [(vi 0)]), (1, [(vu64 0)]), (8, (List.replicate 8 (0 : UInt64)).map vu64), (1, [(vu64 0)]), (1, [(.bool false)]), (1, [(vi 0)])] [(1, [(vi 0)]), (1, [(vu64 0)]), (8, (List.replicate 8 (0 : UInt64)).map vu64), (1, [(vu64 0)]), (1, [(.bool false)]), (1, [(vi 0)])] [] (ys := flat [(1, [(vi 0)]), (1, [(vu64 0)]), (8, (List.replicate 8 (0 : UInt64)).map vu64), (1, [(vu64 0)]), (1, [(.bool false)]), (1, [(vi 0)])]) h_21 rfl rfl Try.sizeOf28 (At.t At.h) (by decide) rfl rfl rfl rfl rfl rfl (SsOk.cons (SOk.v rfl) (SsOk.cons (SOk.v rfl) (SsOk.cons (SOk.u64 (List.length_replicate ..)) (SsOk.cons (SOk.v rfl) (SsOk.cons (SOk.v rfl) (SsOk.cons (SOk.v rfl) SsOk.nil)))))) (fun w_23 h_24 => ?_)
  refine WL.q (Wn.no rfl) rfl rfl (R.assign (v := (vi 2)) rfl) ?_
  refine WL.nil ?_
  refine thn_n ?_
  refine WP.ret ?_
  refine thn_r ?_
  refine ret_of Try.results16 (RV.cell rfl (h_24.loadA (cs := flat [(1, [(vi 0)]), (1, [(vu64 0)]), (8, (List.replicate 8 (0 : UInt64)).map vu64), (1, [(vu64 0)]), (1, [(.bool false)]), (1, [(vi 0)])]) Try.isAgg28 Try.sizeOf28 (.tail _ (.head _)) rfl rfl) (RV.tmp (v := (vi 2)) rfl RV.nil)) ?_
  exact ⟨rfl, h_24.chgS⟩

theorem c_known14  (w : World) :
    Cs Try.prog 15 [].toArray w (fun v w1 => v = .bool true ∧ Chg w w1 []) := by
  refine Cs.of (n := 61) (args := []) Try.func15 rfl rfl rfl ?_
  have h_0 := HP.init w
  refine WP.seq ?_
  refine WP.reg ?_
  refine WL.q (Wn.no rfl) rfl rfl (R.assign (v := (.bool false)) rfl) ?_
  refine WL.nil ?_
  refine thn_n ?_
  refine WP.seq ?_
  refine WP.reg ?_
  refine WL.q (Wn.no rfl) rfl rfl (R.buildS (pl := [(0, 1), (1, 8), (9, 1)]) (zs := [(1, [(vu64 0)]), (8, (List.replicate 8 (0 : UInt64)).map vu64), (1, [(.bool false)])]) (vs := []) (out := [(1, [(vu64 0)]), (8, (List.replicate 8 (0 : UInt64)).map vu64), (1, [(.bool false)])]) (cs := flat [(1, [(vu64 0)]), (8, (List.replicate 8 (0 : UInt64)).map vu64), (1, [(.bool false)])]) Try.underlying45 (zv Try.typeInfo45 rfl) rfl (SsOk.cons (SOk.v rfl) (SsOk.cons (SOk.u64 (List.length_replicate ..)) (SsOk.cons (SOk.v rfl) SsOk.nil))) (pl45 _ Try.underlying45) rfl FillR.nil rfl) ?_
  refine WL.call (al := [(vi 1), (vu64 1), (.agg ⟨flat [(1, [(vu64 0)]), (8, (List.replicate 8 (0 : UInt64)).map vu64), (1, [(.bool false)])]⟩)]) Try.call17 rfl rfl (c_New 1 1 0 (List.replicate 8 (0 : UInt64)) (List.length_replicate ..) false _) rfl ?_
  rintro _ w_3 ⟨rfl, hc_2⟩
  have h_4 := h_0.same hc_2
  refine WL.call (al := [(.agg ⟨flat [(1, [(vi 1)]), (1, [(vu64 1)]), (8, (List.replicate 8 (0 : UInt64)).map vu64), (1, [(vu64 0)]), (1, [(.bool false)]), (1, [(vi 0)])]⟩)]) Try.call14 rfl rfl (c_May 1 1 (List.replicate 8 (0 : UInt64)) (List.length_replicate ..) 0 false 0 7 rfl _) rfl ?_
  rintro _ w_6 ⟨rfl, hc_5⟩
  have h_7 := h_4.same hc_5
  refine WL.q (Wn.no rfl) rfl rfl (R.assign (v := (vi 7)) rfl) ?_
  refine WL.nil ?_
  refine thn_n ?_
  refine WP.seq ?_
  refine WP.reg ?_
  refine WL.q (Wn.no rfl) rfl rfl (R.buildS (pl := [(0, 1), (1, 8), (9, 1)]) (zs := [(1, [(vu64 0)]), (8, (List.replicate 8 (0 : UInt64)).map vu64), (1, [(.bool false)])]) (vs := [(2, (.bool true))]) (out := [(1, [(vu64 0)]), (8, (List.replicate 8 (0 : UInt64)).map vu64), (1, [(.bool true)])]) (cs := flat [(1, [(vu64 0)]), (8, (List.replicate 8 (0 : UInt64)).map vu64), (1, [(.bool true)])]) Try.underlying45 (zv Try.typeInfo45 rfl) rfl (SsOk.cons (SOk.v rfl) (SsOk.cons (SOk.u64 (List.length_replicate ..)) (SsOk.cons (SOk.v rfl) SsOk.nil))) (pl45 _ Try.underlying45) rfl (FillR.cons [(1, [(vu64 0)]), (8, (List.replicate 8 (0 : UInt64)).map vu64)] [(1, [(.bool false)])] [(1, [(.bool true)])] [] rfl rfl rfl rfl (SsOk.cons (SOk.v rfl) SsOk.nil) rfl rfl rfl FillR.nil) rfl) ?_
  refine WL.call (al := [(vi 1), (vu64 1), (.agg ⟨flat [(1, [(vu64 0)]), (8, (List.replicate 8 (0 : UInt64)).map vu64), (1, [(.bool true)])]⟩)]) Try.call17 rfl rfl (c_New 1 1 0 (List.replicate 8 (0 : UInt64)) (List.length_replicate ..) true _) rfl ?_
  rintro _ w_10 ⟨rfl, hc_9⟩
  have h_11 := h_7.same hc_9
  refine WL.alloc (segs := [(1, [(vi 0)]), (1, [(vu64 0)]), (8, (List.replicate 8 (0 : UInt64)).map vu64), (1, [(vu64 0)]), (1, [(.bool false)]), (1, [(vi 0)])]) h_11 (zv Try.typeInfo28 rfl) rfl (SsOk.cons (SOk.v rfl) (SsOk.cons (SOk.v rfl) (SsOk.cons (SOk.u64 (List.length_replicate ..)) (SsOk.cons (SOk.v rfl) (SsOk.cons (SOk.v rfl) (SsOk.cons (SOk.v rfl) SsOk.nil)))))) rfl (fun b_12 w_13 h_14 => ?_)
  refine WL.storeA (b := b_12) (off := 0) [] [(1, [(vi 0)]), (1, [(vu64 0)]), (8, (List.replicate 8 (0 : UInt64)).map vu64), (1, [(vu64 0)]), (1, [(.bool false)]), (1, [(vi 0)])] [(1, [(vi 1)]), (1, [(vu64 1)]), (8, (List.replicate 8 (0 : UInt64)).map vu64), (1, [(vu64 0)]), (1, [(.bool true)]), (1, [(vi 0)])] [] (ys := flat [(1, [(vi 1)]), (1, [(vu64 1)]), (8, (List.replicate 8 (0 : UInt64)).map vu64), (1, [(vu64 0)]), (1, [(.bool true)]), (1, [(vi 0)])]) h_14 rfl rfl Try.sizeOf28 At.h (by decide) rfl rfl rfl rfl rfl rfl (SsOk.cons (SOk.v rfl) (SsOk.cons (SOk.v rfl) (SsOk.cons (SOk.u64 (List.length_replicate ..)) (SsOk.cons (SOk.v rfl) (SsOk.cons (SOk.v rfl) (SsOk.cons (SOk.v rfl) SsOk.nil)))))) (fun w_15 h_16 => ?_)
  refine WL.nil ?_
  refine thn_n ?_
  refine WP.seq ?_
  refine WP.reg ?_
  refine WL.q (Wn.no rfl) rfl rfl (R.loadA (b := b_12) (off := 0) [] [(1, [(vi 1)]), (1, [(vu64 1)]), (8, (List.replicate 8 (0 : UInt64)).map vu64), (1, [(vu64 0)]), (1, [(.bool true)]), (1, [(vi 0)])] [] (cs := flat [(1, [(vi 1)]), (1, [(vu64 1)]), (8, (List.replicate 8 (0 : UInt64)).map vu64), (1, [(vu64 0)]), (1, [(.bool true)]), (1, [(vi 0)])]) rfl Try.isAgg28 Try.sizeOf28 (h_16.ok _ (.head _)) rfl rfl rfl rfl) ?_
  refine WL.call (al := [(.agg ⟨flat [(1, [(vi 1)]), (1, [(vu64 1)]), (8, (List.replicate 8 (0 : UInt64)).map vu64), (1, [(vu64 0)]), (1, [(.bool true)]), (1, [(vi 0)])]⟩)]) Try.call14 rfl rfl (c_May 1 1 (List.replicate 8 (0 : UInt64)) (List.length_replicate ..) 0 true 0 0 rfl _) rfl ?_
  rintro _ w_18 ⟨rfl, hc_17⟩
  have h_19 := h_16.same hc_17
  refine WL.q (Wn.no rfl) rfl rfl (R.assign (v := (vi 0)) rfl) ?_
  refine WL.nil ?_
  refine thn_n ?_
  refine WP.seq ?_
  refine WP.reg ?_
  refine WL.q (Wn.no rfl) rfl rfl (R.loadA (b := b_12) (off := 0) [] [(1, [(vi 1)]), (1, [(vu64 1)]), (8, (List.replicate 8 (0 : UInt64)).map vu64), (1, [(vu64 0)]), (1, [(.bool true)]), (1, [(vi 0)])] [] (cs := flat [(1, [(vi 1)]), (1, [(vu64 1)]), (8, (List.replicate 8 (0 : UInt64)).map vu64), (1, [(vu64 0)]), (1, [(.bool true)]), (1, [(vi 0)])]) rfl Try.isAgg28 Try.sizeOf28 (h_19.ok _ (.head _)) rfl rfl rfl rfl) ?_
  refine WL.q (Wn.no rfl) rfl rfl (R.buildS (pl := [(0, 8), (8, 1)]) (zs := [(8, (List.replicate 8 (0 : UInt64)).map vu64), (1, [(vu64 0)])]) (vs := []) (out := [(8, (List.replicate 8 (0 : UInt64)).map vu64), (1, [(vu64 0)])]) (cs := flat [(8, (List.replicate 8 (0 : UInt64)).map vu64), (1, [(vu64 0)])]) Try.underlying25 (zv Try.typeInfo25 rfl) rfl (SsOk.cons (SOk.u64 (List.length_replicate ..)) (SsOk.cons (SOk.v rfl) SsOk.nil)) (pl25 _ Try.underlying25) rfl FillR.nil rfl) ?_
  refine WL.q (Wn.no rfl) rfl rfl (R.buildA (vs := [(0, (vu64 7))]) (cs := ([7, 0, 0, 0] : List UInt64).map vu64) Try.underlying29 Try.sizeOf22 (zv Try.typeInfo29 rfl) rfl rfl) ?_
  refine WL.q (Wn.no rfl) rfl rfl (R.buildS (pl := [(0, 1), (1, 4), (5, 1), (6, 1), (7, 1)]) (zs := [(1, [(vi 0)]), (4, (List.replicate 4 (0 : UInt64)).map vu64), (1, [(vu64 0)]), (1, [(.bool false)]), (1, [(vi 0)])]) (vs := [(0, (vi 2)), (1, (.agg ⟨([7, 0, 0, 0] : List UInt64).map vu64⟩))]) (out := [(1, [(vi 2)]), (4, ([7, 0, 0, 0] : List UInt64).map vu64), (1, [(vu64 0)]), (1, [(.bool false)]), (1, [(vi 0)])]) (cs := flat [(1, [(vi 2)]), (4, ([7, 0, 0, 0] : List UInt64).map vu64), (1, [(vu64 0)]), (1, [(.bool false)]), (1, [(vi 0)])]) Try.underlying40 (zv Try.typeInfo40 rfl) rfl (SsOk.cons (SOk.v rfl) (SsOk.cons (SOk.u64 (List.length_replicate ..)) (SsOk.cons (SOk.v rfl) (SsOk.cons (SOk.v rfl) (SsOk.cons (SOk.v rfl) SsOk.nil))))) (pl40 _ Try.underlying40) rfl (FillR.cons [] [(1, [(vi 0)])] [(1, [(vi 2)])] [(4, (List.replicate 4 (0 : UInt64)).map vu64), (1, [(vu64 0)]), (1, [(.bool false)]), (1, [(vi 0)])] rfl rfl rfl rfl (SsOk.cons (SOk.v rfl) SsOk.nil) rfl rfl rfl (FillR.cons [(1, [(vi 2)])] [(4, (List.replicate 4 (0 : UInt64)).map vu64)] [(4, ([7, 0, 0, 0] : List UInt64).map vu64)] [(1, [(vu64 0)]), (1, [(.bool false)]), (1, [(vi 0)])] rfl rfl rfl rfl (SsOk.cons (SOk.u64 (rfl : List.length ([7, 0, 0, 0] : List UInt64) = 4)) SsOk.nil) rfl rfl rfl FillR.nil)) rfl) ?_
  refine WL.call (al := [(.agg ⟨flat [(1, [(vi 1)]), (1, [(vu64 1)]), (8, (List.replicate 8 (0 : UInt64)).map vu64), (1, [(vu64 0)]), (1, [(.bool true)]), (1, [(vi 0)])]⟩), (.agg ⟨flat [(8, (List.replicate 8 (0 : UInt64)).map vu64), (1, [(vu64 0)])]⟩), (.agg ⟨flat [(1, [(vi 2)]), (4, ([7, 0, 0, 0] : List UInt64).map vu64), (1, [(vu64 0)]), (1, [(.bool false)]), (1, [(vi 0)])]⟩)]) Try.call16 rfl rfl (c_Leave 1 1 (List.replicate 8 (0 : UInt64)) (List.length_replicate ..) 0 true 0 (List.replicate 8 (0 : UInt64)) (List.length_replicate ..) 0 2 ([7, 0, 0, 0] : List UInt64) (rfl : List.length ([7, 0, 0, 0] : List UInt64) = 4) 0 false 0 (by decide) (by decide) (by decide) _) rfl ?_
  rintro _ w_23 ⟨rfl, hc_22⟩
  have h_24 := h_19.same hc_22
  refine WL.q (Wn.no rfl) rfl rfl (R.move (v := (.tuple [(.agg ⟨flat [(1, [(vi 1)]), (1, [(vu64 1)]), (8, (List.replicate 8 (0 : UInt64)).map vu64), (1, [(vu64 0)]), (1, [(.bool true)]), (1, [(vi 1)])]⟩), (vi 0)].toArray)) rfl) ?_
  refine WL.q (Wn.no rfl) rfl rfl (R.extract (l := [(.agg ⟨flat [(1, [(vi 1)]), (1, [(vu64 1)]), (8, (List.replicate 8 (0 : UInt64)).map vu64), (1, [(vu64 0)]), (1, [(.bool true)]), (1, [(vi 1)])]⟩), (vi 0)]) (v := (.agg ⟨flat [(1, [(vi 1)]), (1, [(vu64 1)]), (8, (List.replicate 8 (0 : UInt64)).map vu64), (1, [(vu64 0)]), (1, [(.bool true)]), (1, [(vi 1)])]⟩)) rfl rfl) ?_
  refine WL.q (Wn.no rfl) rfl rfl (R.extract (l := [(.agg ⟨flat [(1, [(vi 1)]), (1, [(vu64 1)]), (8, (List.replicate 8 (0 : UInt64)).map vu64), (1, [(vu64 0)]), (1, [(.bool true)]), (1, [(vi 1)])]⟩), (vi 0)]) (v := (vi 0)) rfl rfl) ?_
  refine WL.alloc (segs := [(1, [(vi 0)]), (1, [(vu64 0)]), (8, (List.replicate 8 (0 : UInt64)).map vu64), (1, [(vu64 0)]), (1, [(.bool false)]), (1, [(vi 0)])]) h_24 (zv Try.typeInfo28 rfl) rfl (SsOk.cons (SOk.v rfl) (SsOk.cons (SOk.v rfl) (SsOk.cons (SOk.u64 (List.length_replicate ..)) (SsOk.cons (SOk.v rfl) (SsOk.cons (SOk.v rfl) (SsOk.cons (SOk.v rfl) SsOk.nil)))))) rfl (fun b_25 w_26 h_27 => ?_)
  refine WL.storeA (b := b_25) (off := 0) [] [(1, [(vi 0)]), (1, [(vu64 0)]), (8, (List.replicate 8 (0 : UInt64)).map vu64), (1, [(vu64 0)]), (1, [(.bool false)]), (1, [(vi 0)])] [(1, [(vi 1)]), (1, [(vu64 1)]), (8, (List.replicate 8 (0 : UInt64)).map vu64), (1, [(vu64 0)]), (1, [(.bool true)]), (1, [(vi 1)])] [] (ys := flat [(1, [(vi 1)]), (1, [(vu64 1)]), (8, (List.replicate 8 (0 : UInt64)).map vu64), (1, [(vu64 0)]), (1, [(.bool true)]), (1, [(vi 1)])]) h_27 rfl rfl Try.sizeOf28 At.h (by decide) rfl rfl rfl rfl rfl rfl (SsOk.cons (SOk.v rfl) (SsOk.cons (SOk.v rfl) (SsOk.cons (SOk.u64 (List.length_replicate ..)) (SsOk.cons (SOk.v rfl) (SsOk.cons (SOk.v rfl) (SsOk.cons (SOk.v rfl) SsOk.nil)))))) (fun w_28 h_29 => ?_)
  refine WL.q (Wn.no rfl) rfl rfl (R.assign (v := (vi 0)) rfl) ?_
  refine WL.nil ?_
  refine thn_n ?_
  refine WP.seq ?_
  refine WP.reg ?_
  refine WL.q (Wn.no rfl) rfl rfl (R.loadA (b := b_25) (off := 0) [] [(1, [(vi 1)]), (1, [(vu64 1)]), (8, (List.replicate 8 (0 : UInt64)).map vu64), (1, [(vu64 0)]), (1, [(.bool true)]), (1, [(vi 1)])] [] (cs := flat [(1, [(vi 1)]), (1, [(vu64 1)]), (8, (List.replicate 8 (0 : UInt64)).map vu64), (1, [(vu64 0)]), (1, [(.bool true)]), (1, [(vi 1)])]) rfl Try.isAgg28 Try.sizeOf28 (h_29.ok _ (.head _)) rfl rfl rfl rfl) ?_
  refine WL.q (Wn.no rfl) rfl rfl (R.buildA (vs := [(0, (vu64 1)), (1, (vu64 2)), (2, (vu64 3)), (3, (vu64 4))]) (cs := ([1, 2, 3, 4] : List UInt64).map vu64) Try.underlying29 Try.sizeOf22 (zv Try.typeInfo29 rfl) rfl rfl) ?_
  refine WL.q (Wn.no rfl) rfl rfl (R.buildS (pl := [(0, 4)]) (zs := [(4, (List.replicate 4 (0 : UInt64)).map vu64)]) (vs := [(0, (.agg ⟨([1, 2, 3, 4] : List UInt64).map vu64⟩))]) (out := [(4, ([1, 2, 3, 4] : List UInt64).map vu64)]) (cs := ([1, 2, 3, 4] : List UInt64).map vu64) Try.underlying31 (zv Try.typeInfo31 rfl) rfl (SsOk.cons (SOk.u64 (List.length_replicate ..)) SsOk.nil) (pl31 _ Try.underlying31) rfl (FillR.cons [] [(4, (List.replicate 4 (0 : UInt64)).map vu64)] [(4, ([1, 2, 3, 4] : List UInt64).map vu64)] [] rfl rfl rfl rfl (SsOk.cons (SOk.u64 (rfl : List.length ([1, 2, 3, 4] : List UInt64) = 4)) SsOk.nil) rfl rfl rfl FillR.nil) rfl) ?_
  refine WL.call (al := [(.agg ⟨flat [(1, [(vi 1)]), (1, [(vu64 1)]), (8, (List.replicate 8 (0 : UInt64)).map vu64), (1, [(vu64 0)]), (1, [(.bool true)]), (1, [(vi 1)])]⟩), (.agg ⟨([1, 2, 3, 4] : List UInt64).map vu64⟩)]) Try.call13 rfl rfl (c_Enter 1 1 (List.replicate 8 (0 : UInt64)) (List.length_replicate ..) 0 true 1 ([1, 2, 3, 4] : List UInt64) (rfl : List.length ([1, 2, 3, 4] : List UInt64) = 4) rfl _) rfl ?_
  rintro _ w_32 ⟨rfl, hc_31⟩
  have h_33 := h_29.same hc_31
  refine WL.q (Wn.no rfl) rfl rfl (R.move (v := (.tuple [(.agg ⟨flat [(1, [(vi 1)]), (1, [(vu64 1)]), (8, (entRegs 1 ([1, 2, 3, 4] : List UInt64) (List.replicate 8 (0 : UInt64))).map vu64), (1, [(vu64 0)]), (1, [(.bool true)]), (1, [(vi 0)])]⟩), (vi 0)].toArray)) rfl) ?_
  refine WL.q (Wn.no rfl) rfl rfl (R.extract (l := [(.agg ⟨flat [(1, [(vi 1)]), (1, [(vu64 1)]), (8, (entRegs 1 ([1, 2, 3, 4] : List UInt64) (List.replicate 8 (0 : UInt64))).map vu64), (1, [(vu64 0)]), (1, [(.bool true)]), (1, [(vi 0)])]⟩), (vi 0)]) (v := (.agg ⟨flat [(1, [(vi 1)]), (1, [(vu64 1)]), (8, (entRegs 1 ([1, 2, 3, 4] : List UInt64) (List.replicate 8 (0 : UInt64))).map vu64), (1, [(vu64 0)]), (1, [(.bool true)]), (1, [(vi 0)])]⟩)) rfl rfl) ?_
  refine WL.q (Wn.no rfl) rfl rfl (R.extract (l := [(.agg ⟨flat [(1, [(vi 1)]), (1, [(vu64 1)]), (8, (entRegs 1 ([1, 2, 3, 4] : List UInt64) (List.replicate 8 (0 : UInt64))).map vu64), (1, [(vu64 0)]), (1, [(.bool true)]), (1, [(vi 0)])]⟩), (vi 0)]) (v := (vi 0)) rfl rfl) ?_
  refine WL.alloc (segs := [(1, [(vi 0)]), (1, [(vu64 0)]), (8, (List.replicate 8 (0 : UInt64)).map vu64), (1, [(vu64 0)]), (1, [(.bool false)]), (1, [(vi 0)])]) h_33 (zv Try.typeInfo28 rfl) rfl (SsOk.cons (SOk.v rfl) (SsOk.cons (SOk.v rfl) (SsOk.cons (SOk.u64 (List.length_replicate ..)) (SsOk.cons (SOk.v rfl) (SsOk.cons (SOk.v rfl) (SsOk.cons (SOk.v rfl) SsOk.nil)))))) rfl (fun b_34 w_35 h_36 => ?_)
  refine WL.storeA (b := b_34) (off := 0) [] [(1, [(vi 0)]), (1, [(vu64 0)]), (8, (List.replicate 8 (0 : UInt64)).map vu64), (1, [(vu64 0)]), (1, [(.bool false)]), (1, [(vi 0)])] [(1, [(vi 1)]), (1, [(vu64 1)]), (8, (entRegs 1 ([1, 2, 3, 4] : List UInt64) (List.replicate 8 (0 : UInt64))).map vu64), (1, [(vu64 0)]), (1, [(.bool true)]), (1, [(vi 0)])] [] (ys := flat [(1, [(vi 1)]), (1, [(vu64 1)]), (8, (entRegs 1 ([1, 2, 3, 4] : List UInt64) (List.replicate 8 (0 : UInt64))).map vu64), (1, [(vu64 0)]), (1, [(.bool true)]), (1, [(vi 0)])]) h_36 rfl rfl Try.sizeOf28 At.h (by decide) rfl rfl rfl rfl rfl rfl (SsOk.cons (SOk.v rfl) (SsOk.cons (SOk.v rfl) (SsOk.cons (SOk.u64 (entRegs_len (rfl : List.length ([1, 2, 3, 4] : List UInt64) = 4) (List.length_replicate ..))) (SsOk.cons (SOk.v rfl) (SsOk.cons (SOk.v rfl) (SsOk.cons (SOk.v rfl) SsOk.nil)))))) (fun w_37 h_38 => ?_)
  refine WL.q (Wn.no rfl) rfl rfl (R.assign (v := (vi 0)) rfl) ?_
  refine WL.nil ?_
  refine thn_n ?_
  refine WP.seq ?_
  refine WP.reg ?_
  refine WL.q (Wn.no rfl) rfl rfl (R.move (v := (vi 7)) rfl) ?_
  refine WL.q (Wn.no rfl) rfl rfl (R.bin (v := (.bool true)) rfl rfl (bi_eql (r := true) (by decide))) ?_
  refine WL.q (Wn.no rfl) rfl rfl (R.move (v := (.bool true)) rfl) ?_
  refine WL.want rfl rfl ?_
  refine WL.q (Wn.no rfl) rfl rfl (R.move (v := (vi 0)) rfl) ?_
  refine WL.want rfl rfl ?_
  refine WL.q (Wn.no rfl) rfl rfl (R.bin (v := (.bool true)) rfl rfl (bi_eql (r := true) (by decide))) ?_
  refine WL.q (Wn.no rfl) rfl rfl (R.pickT (v := (.bool true)) rfl rfl) ?_
  refine WL.q (Wn.no rfl) rfl rfl (R.move (v := (.bool true)) rfl) ?_
  refine WL.want rfl rfl ?_
  refine WL.q (Wn.no rfl) rfl rfl (R.move (v := (vi 0)) rfl) ?_
  refine WL.want rfl rfl ?_
  refine WL.q (Wn.no rfl) rfl rfl (R.bin (v := (.bool true)) rfl rfl (bi_eql (r := true) (by decide))) ?_
  refine WL.q (Wn.no rfl) rfl rfl (R.pickT (v := (.bool true)) rfl rfl) ?_
  refine WL.q (Wn.no rfl) rfl rfl (R.move (v := (.bool true)) rfl) ?_
  refine WL.want rfl rfl ?_
  refine WL.q (Wn.no rfl) rfl rfl (R.move (v := (vi 0)) rfl) ?_
  refine WL.want rfl rfl ?_
  refine WL.q (Wn.no rfl) rfl rfl (R.bin (v := (.bool true)) rfl rfl (bi_eql (r := true) (by decide))) ?_
  refine WL.q (Wn.no rfl) rfl rfl (R.pickT (v := (.bool true)) rfl rfl) ?_
  refine WL.q (Wn.no rfl) rfl rfl (R.move (v := (.bool true)) rfl) ?_
  refine WL.want rfl rfl ?_
  refine WL.q (Wn.no rfl) rfl rfl (R.fieldAddr (b := b_25) (off := 0) (off' := 12) rfl Try.underlying28 rfl Try.sizeOf26 rfl rfl) ?_
  refine WL.want rfl rfl ?_
  refine WL.q (Wn.no rfl) rfl rfl (R.load1 (b := b_25) (off := 12) (v := (vi 1)) rfl Try.isAgg26 (h_38.ok _ (.tail _ (.head _))) (Sg.t rfl (Sg.t rfl (Sg.t rfl (Sg.t rfl (Sg.t rfl Sg.h)))))) ?_
  refine WL.want rfl rfl ?_
  refine WL.q (Wn.no rfl) rfl rfl (R.bin (v := (.bool true)) rfl rfl (bi_eql (r := true) (by decide))) ?_
  refine WL.q (Wn.no rfl) rfl rfl (R.pickT (v := (.bool true)) rfl rfl) ?_
  refine WL.q (Wn.no rfl) rfl rfl (R.move (v := (.bool true)) rfl) ?_
  refine WL.want rfl rfl ?_
  refine WL.q (Wn.no rfl) rfl rfl (R.fieldAddr (b := b_34) (off := 0) (off' := 2) rfl Try.underlying28 rfl Try.sizeOf25 rfl rfl) ?_
  refine WL.want rfl rfl ?_
  refine WL.q (Wn.no rfl) rfl rfl (R.fieldAddr (b := b_34) (off := 2) (off' := 2) rfl Try.underlying25 rfl Try.sizeOf23 rfl rfl) ?_
  refine WL.want rfl rfl ?_
  refine WL.q (Wn.no rfl) rfl rfl (R.loadA (b := b_34) (off := 2) [(1, [(vi 1)]), (1, [(vu64 1)])] [(8, (entRegs 1 ([1, 2, 3, 4] : List UInt64) (List.replicate 8 (0 : UInt64))).map vu64)] [(1, [(vu64 0)]), (1, [(.bool true)]), (1, [(vi 0)])] (cs := (entRegs 1 ([1, 2, 3, 4] : List UInt64) (List.replicate 8 (0 : UInt64))).map vu64) rfl Try.isAgg23 Try.sizeOf23 (h_38.ok _ (.head _)) rfl rfl rfl rfl) ?_
  refine WL.want rfl rfl ?_
  refine WL.q (Wn.no rfl) rfl rfl (R.buildA (vs := [(0, (vu64 1)), (1, (vu64 2)), (2, (vu64 3)), (3, (vu64 4))]) (cs := ([1, 2, 3, 4, 0, 0, 0, 0] : List UInt64).map vu64) Try.underlying23 Try.sizeOf22 (zv Try.typeInfo23 rfl) rfl rfl) ?_
  refine WL.want rfl rfl ?_
  refine WL.q (Wn.no rfl) rfl rfl (R.eqA (xs := (entRegs 1 ([1, 2, 3, 4] : List UInt64) (List.replicate 8 (0 : UInt64))).map vu64) (ys := ([1, 2, 3, 4, 0, 0, 0, 0] : List UInt64).map vu64) (r := true) rfl rfl Try.eqGuardType23 kt23 (by decide) ag23 (Typ.u64s Try.underlying23 ce23 Try.underlying22 ce22 (entRegs_len (rfl : List.length ([1, 2, 3, 4] : List UInt64) = 4) (List.length_replicate ..))) (Typ.u64s Try.underlying23 ce23 Try.underlying22 ce22 (rfl : List.length ([1, 2, 3, 4, 0, 0, 0, 0] : List UInt64) = 8)) (eqT (congrArg (List.map vu64) (by decide)))) ?_
  refine WL.q (Wn.no rfl) rfl rfl (R.pickT (v := (.bool true)) rfl rfl) ?_
  refine WL.q (Wn.no rfl) rfl rfl (R.move (v := (.bool true)) rfl) ?_
  refine WL.want rfl rfl ?_
  refine WL.q (Wn.no rfl) rfl rfl (R.fieldAddr (b := b_34) (off := 0) (off' := 12) rfl Try.underlying28 rfl Try.sizeOf26 rfl rfl) ?_
  refine WL.want rfl rfl ?_
  refine WL.q (Wn.no rfl) rfl rfl (R.load1 (b := b_34) (off := 12) (v := (vi 0)) rfl Try.isAgg26 (h_38.ok _ (.head _)) (Sg.t rfl (Sg.t rfl (Sg.t rfl (Sg.t rfl (Sg.t rfl Sg.h)))))) ?_
  refine WL.want rfl rfl ?_
  refine WL.q (Wn.no rfl) rfl rfl (R.bin (v := (.bool true)) rfl rfl (bi_eql (r := true) (by decide))) ?_
  refine WL.q (Wn.no rfl) rfl rfl (R.pickT (v := (.bool true)) rfl rfl) ?_
  refine WL.q (Wn.no rfl) rfl rfl (R.assign (v := (.bool true)) rfl) ?_
  refine WL.nil ?_
  refine thn_n ?_
  refine WP.ret ?_
  refine ret_of Try.results15 (RV.tmp (v := (.bool true)) rfl RV.nil) ?_
  exact ⟨rfl, h_38.chgS⟩
end Go.Proofs.Ythkcekgemanfdaa
