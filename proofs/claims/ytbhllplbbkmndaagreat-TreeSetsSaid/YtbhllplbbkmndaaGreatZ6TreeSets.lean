/- Rules for walks and contracts of the functions that the law reaches, one behind the other. Conditions: none beyond what each theorem states. -/
import Derived.Test.YtbhllplbbkmndaaGreatZ5TreeSets
set_option linter.unusedVariables false
set_option linter.unusedSimpArgs false
set_option linter.unusedSectionVars false
namespace Go.Proofs.YtbhllplbbkmndaaGreat
open Go.Vc Go.Orc Go.Sh Go.RowKit
set_option maxRecDepth 20000
theorem pl61 : ∀ fs, Tryz.prog.underlying 61 = some (.struct fs) → Places Tryz.prog fs [(0, 1), (1, 32), (33, 1), (34, 1), (35, 1)] := by
  intro fs h w; rw [Tryz.underlying61] at h; cases h; simp
theorem c_small_t (id : Bool) (ms df : List UInt8) (hms : ms.length = 32) (da0 : Option Addr) (n cap0 : Nat) (hl : df.length = 32 * n) (fa : Option Addr) (fn fc : Nat) (fd : List UInt8) (hfl : fd.length = 128 * fn) (nd : UInt64) (gn : Nat) (hs : n ≤ 700 ∧ 1 ≤ gn ∧ gn ≤ 80 ∧ fn ≤ 80) (w : World) :
    Cs Tryz.prog 6 [(.agg ⟨flat [(1, [(.bool id)]), (32, ms.map vu8), (1, [(.slice da0 n cap0)]), (1, [(vi ((gn : Nat) : Int))]), (1, [(.slice fa fn fc)]), (1, [(vu64 nd)])]⟩)].toArray w (fun v w1 => v = (.bool true) ∧ Chg w w1 []) := by
  refine Cs.of (n := 23) (args := [(.agg ⟨flat [(1, [(.bool id)]), (32, ms.map vu8), (1, [(.slice da0 n cap0)]), (1, [(vi ((gn : Nat) : Int))]), (1, [(.slice fa fn fc)]), (1, [(vu64 nd)])]⟩)]) Tryz.func6 rfl rfl rfl ?_
  have h_0 := HP.init w
  refine WP.seq ?_
  refine WP.reg ?_
  refine WL.box (v := (.agg ⟨flat [(1, [(.bool id)]), (32, ms.map vu8), (1, [(.slice da0 n cap0)]), (1, [(vi ((gn : Nat) : Int))]), (1, [(.slice fa fn fc)]), (1, [(vu64 nd)])]⟩)) (segs := [(1, [(.bool id)]), (32, ms.map vu8), (1, [(.slice da0 n cap0)]), (1, [(vi ((gn : Nat) : Int))]), (1, [(.slice fa fn fc)]), (1, [(vu64 nd)])]) h_0 rfl rfl (SsOk.cons (SOk.v rfl) (SsOk.cons (SOk.u8 hms) (SsOk.cons (SOk.v rfl) (SsOk.cons (SOk.v rfl) (SsOk.cons (SOk.v rfl) (SsOk.cons (SOk.v rfl) SsOk.nil)))))) rfl (fun b_1 w_2 h_3 => ?_)
  refine WL.q (Wn.no rfl) rfl rfl (R.assign (v := (.bool false)) rfl) ?_
  refine WL.nil ?_
  refine thn_n ?_
  refine WP.seq ?_
  refine WP.reg ?_
  refine WL.q (Wn.no rfl) rfl rfl (R.fieldAddr (b := b_1) (off := 0) (off' := 33) rfl Tryz.underlying28 rfl Tryz.sizeOf24 rfl rfl) ?_
  refine WL.q (Wn.no rfl) rfl rfl (R.load1 (b := b_1) (off := 33) (v := (.slice da0 n cap0)) rfl Tryz.isAgg24 (h_3.ok _ (.head _)) (Sg.t rfl (Sg.t rfl Sg.h))) ?_
  refine WL.q (Wn.no rfl) rfl rfl (R.lenS (a := da0) (m := n) rfl rfl Tryz.underlying24) ?_
  refine WL.q (Wn.no rfl) rfl rfl (R.bin (v := (.bool (decide ((((n : Nat) : Int) : Int) ≤ 700)))) rfl rfl (bi_leq (r := decide ((((n : Nat) : Int) : Int) ≤ 700)) rfl)) ?_
  refine WL.q (Wn.no rfl) rfl rfl (R.move (v := (.bool (decide ((((n : Nat) : Int) : Int) ≤ 700)))) rfl) ?_
  refine WL.want rfl (congrArg Value.bool (decide_eq_true (by omega))) ?_
  refine WL.q (Wn.no rfl) rfl rfl (R.fieldAddr (b := b_1) (off := 0) (off' := 34) rfl Tryz.underlying28 rfl Tryz.sizeOf3 rfl rfl) ?_
  refine WL.want rfl (congrArg Value.bool (decide_eq_true (by omega))) ?_
  refine WL.q (Wn.no rfl) rfl rfl (R.load1 (b := b_1) (off := 34) (v := (vi ((gn : Nat) : Int))) rfl Tryz.isAgg3 (h_3.ok _ (.head _)) (Sg.t rfl (Sg.t rfl (Sg.t rfl Sg.h)))) ?_
  refine WL.want rfl (congrArg Value.bool (decide_eq_true (by omega))) ?_
  refine WL.q (Wn.no rfl) rfl rfl (R.bin (v := (.bool (decide ((((gn : Nat) : Int) : Int) ≥ 1)))) rfl rfl (bi_geq (r := decide ((((gn : Nat) : Int) : Int) ≥ 1)) rfl)) ?_
  refine WL.q (Wn.no rfl) rfl rfl (R.pickT (v := (.bool (decide ((((gn : Nat) : Int) : Int) ≥ 1)))) (congrArg Value.bool (decide_eq_true (by omega))) rfl) ?_
  refine WL.q (Wn.no rfl) rfl rfl (R.move (v := (.bool (decide ((((gn : Nat) : Int) : Int) ≥ 1)))) rfl) ?_
  refine WL.want rfl (congrArg Value.bool (decide_eq_true (by omega))) ?_
  refine WL.q (Wn.no rfl) rfl rfl (R.fieldAddr (b := b_1) (off := 0) (off' := 34) rfl Tryz.underlying28 rfl Tryz.sizeOf3 rfl rfl) ?_
  refine WL.want rfl (congrArg Value.bool (decide_eq_true (by omega))) ?_
  refine WL.q (Wn.no rfl) rfl rfl (R.load1 (b := b_1) (off := 34) (v := (vi ((gn : Nat) : Int))) rfl Tryz.isAgg3 (h_3.ok _ (.head _)) (Sg.t rfl (Sg.t rfl (Sg.t rfl Sg.h)))) ?_
  refine WL.want rfl (congrArg Value.bool (decide_eq_true (by omega))) ?_
  refine WL.q (Wn.no rfl) rfl rfl (R.bin (v := (.bool (decide ((((gn : Nat) : Int) : Int) ≤ 80)))) rfl rfl (bi_leq (r := decide ((((gn : Nat) : Int) : Int) ≤ 80)) rfl)) ?_
  refine WL.q (Wn.no rfl) rfl rfl (R.pickT (v := (.bool (decide ((((gn : Nat) : Int) : Int) ≤ 80)))) (congrArg Value.bool (decide_eq_true (by omega))) rfl) ?_
  refine WL.q (Wn.no rfl) rfl rfl (R.move (v := (.bool (decide ((((gn : Nat) : Int) : Int) ≤ 80)))) rfl) ?_
  refine WL.want rfl (congrArg Value.bool (decide_eq_true (by omega))) ?_
  refine WL.q (Wn.no rfl) rfl rfl (R.fieldAddr (b := b_1) (off := 0) (off' := 35) rfl Tryz.underlying28 rfl Tryz.sizeOf25 rfl rfl) ?_
  refine WL.want rfl (congrArg Value.bool (decide_eq_true (by omega))) ?_
  refine WL.q (Wn.no rfl) rfl rfl (R.load1 (b := b_1) (off := 35) (v := (.slice fa fn fc)) rfl Tryz.isAgg25 (h_3.ok _ (.head _)) (Sg.t rfl (Sg.t rfl (Sg.t rfl (Sg.t rfl Sg.h))))) ?_
  refine WL.want rfl (congrArg Value.bool (decide_eq_true (by omega))) ?_
  refine WL.q (Wn.no rfl) rfl rfl (R.lenS (a := fa) (m := fn) rfl rfl Tryz.underlying25) ?_
  refine WL.want rfl (congrArg Value.bool (decide_eq_true (by omega))) ?_
  refine WL.q (Wn.no rfl) rfl rfl (R.bin (v := (.bool (decide ((((fn : Nat) : Int) : Int) ≤ 80)))) rfl rfl (bi_leq (r := decide ((((fn : Nat) : Int) : Int) ≤ 80)) rfl)) ?_
  refine WL.q (Wn.no rfl) rfl rfl (R.pickT (v := (.bool (decide ((((fn : Nat) : Int) : Int) ≤ 80)))) (congrArg Value.bool (decide_eq_true (by omega))) rfl) ?_
  refine WL.q (Wn.no rfl) rfl rfl (R.assign (v := (.bool (decide ((((fn : Nat) : Int) : Int) ≤ 80)))) rfl) ?_
  refine WL.nil ?_
  refine thn_n ?_
  refine WP.ret ?_
  refine ret_of Tryz.results6 (RV.tmp (v := (.bool (decide ((((fn : Nat) : Int) : Int) ≤ 80)))) rfl RV.nil) ?_
  exact ⟨congrArg Value.bool (by simp; omega), h_3.chgS⟩

theorem c_small_f (id : Bool) (ms df : List UInt8) (hms : ms.length = 32) (da0 : Option Addr) (n cap0 : Nat) (hl : df.length = 32 * n) (fa : Option Addr) (fn fc : Nat) (fd : List UInt8) (hfl : fd.length = 128 * fn) (nd : UInt64) (gn : Int) (hs : ¬ (n ≤ 700 ∧ 1 ≤ gn ∧ gn ≤ 80 ∧ fn ≤ 80)) (w : World) :
    Cs Tryz.prog 6 [(.agg ⟨flat [(1, [(.bool id)]), (32, ms.map vu8), (1, [(.slice da0 n cap0)]), (1, [(vi gn)]), (1, [(.slice fa fn fc)]), (1, [(vu64 nd)])]⟩)].toArray w (fun v w1 => v = (.bool false) ∧ Chg w w1 []) := by
  refine Cs.of (n := 23) (args := [(.agg ⟨flat [(1, [(.bool id)]), (32, ms.map vu8), (1, [(.slice da0 n cap0)]), (1, [(vi gn)]), (1, [(.slice fa fn fc)]), (1, [(vu64 nd)])]⟩)]) Tryz.func6 rfl rfl rfl ?_
  have h_0 := HP.init w
  refine WP.seq ?_
  refine WP.reg ?_
  refine WL.box (v := (.agg ⟨flat [(1, [(.bool id)]), (32, ms.map vu8), (1, [(.slice da0 n cap0)]), (1, [(vi gn)]), (1, [(.slice fa fn fc)]), (1, [(vu64 nd)])]⟩)) (segs := [(1, [(.bool id)]), (32, ms.map vu8), (1, [(.slice da0 n cap0)]), (1, [(vi gn)]), (1, [(.slice fa fn fc)]), (1, [(vu64 nd)])]) h_0 rfl rfl (SsOk.cons (SOk.v rfl) (SsOk.cons (SOk.u8 hms) (SsOk.cons (SOk.v rfl) (SsOk.cons (SOk.v rfl) (SsOk.cons (SOk.v rfl) (SsOk.cons (SOk.v rfl) SsOk.nil)))))) rfl (fun b_1 w_2 h_3 => ?_)
  refine WL.q (Wn.no rfl) rfl rfl (R.assign (v := (.bool false)) rfl) ?_
  refine WL.nil ?_
  refine thn_n ?_
  refine WP.seq ?_
  refine WP.reg ?_
  refine WL.q (Wn.no rfl) rfl rfl (R.fieldAddr (b := b_1) (off := 0) (off' := 33) rfl Tryz.underlying28 rfl Tryz.sizeOf24 rfl rfl) ?_
  refine WL.q (Wn.no rfl) rfl rfl (R.load1 (b := b_1) (off := 33) (v := (.slice da0 n cap0)) rfl Tryz.isAgg24 (h_3.ok _ (.head _)) (Sg.t rfl (Sg.t rfl Sg.h))) ?_
  refine WL.q (Wn.no rfl) rfl rfl (R.lenS (a := da0) (m := n) rfl rfl Tryz.underlying24) ?_
  refine WL.q (Wn.no rfl) rfl rfl (R.bin (v := (.bool (decide ((((n : Nat) : Int) : Int) ≤ 700)))) rfl rfl (bi_leq (r := decide ((((n : Nat) : Int) : Int) ≤ 700)) rfl)) ?_
  refine WL.q (Wn.no rfl) rfl rfl (R.move (v := (.bool (decide ((((n : Nat) : Int) : Int) ≤ 700)))) rfl) ?_
  rcases Bool.eq_false_or_eq_true (decide ((((n : Nat) : Int) : Int) ≤ 700)) with c_4 | c_4
  · have p_5 := of_decide_eq_true c_4
    refine WL.want rfl (congrArg Value.bool c_4) ?_
    refine WL.q (Wn.no rfl) rfl rfl (R.fieldAddr (b := b_1) (off := 0) (off' := 34) rfl Tryz.underlying28 rfl Tryz.sizeOf3 rfl rfl) ?_
    refine WL.want rfl (congrArg Value.bool c_4) ?_
    refine WL.q (Wn.no rfl) rfl rfl (R.load1 (b := b_1) (off := 34) (v := (vi gn)) rfl Tryz.isAgg3 (h_3.ok _ (.head _)) (Sg.t rfl (Sg.t rfl (Sg.t rfl Sg.h)))) ?_
    refine WL.want rfl (congrArg Value.bool c_4) ?_
    refine WL.q (Wn.no rfl) rfl rfl (R.bin (v := (.bool (decide ((gn : Int) ≥ 1)))) rfl rfl (bi_geq (r := decide ((gn : Int) ≥ 1)) rfl)) ?_
    refine WL.q (Wn.no rfl) rfl rfl (R.pickT (v := (.bool (decide ((gn : Int) ≥ 1)))) (congrArg Value.bool c_4) rfl) ?_
    refine WL.q (Wn.no rfl) rfl rfl (R.move (v := (.bool (decide ((gn : Int) ≥ 1)))) rfl) ?_
    rcases Bool.eq_false_or_eq_true (decide ((gn : Int) ≥ 1)) with c_6 | c_6
    · have p_7 := of_decide_eq_true c_6
      refine WL.want rfl (congrArg Value.bool c_6) ?_
      refine WL.q (Wn.no rfl) rfl rfl (R.fieldAddr (b := b_1) (off := 0) (off' := 34) rfl Tryz.underlying28 rfl Tryz.sizeOf3 rfl rfl) ?_
      refine WL.want rfl (congrArg Value.bool c_6) ?_
      refine WL.q (Wn.no rfl) rfl rfl (R.load1 (b := b_1) (off := 34) (v := (vi gn)) rfl Tryz.isAgg3 (h_3.ok _ (.head _)) (Sg.t rfl (Sg.t rfl (Sg.t rfl Sg.h)))) ?_
      refine WL.want rfl (congrArg Value.bool c_6) ?_
      refine WL.q (Wn.no rfl) rfl rfl (R.bin (v := (.bool (decide ((gn : Int) ≤ 80)))) rfl rfl (bi_leq (r := decide ((gn : Int) ≤ 80)) rfl)) ?_
      refine WL.q (Wn.no rfl) rfl rfl (R.pickT (v := (.bool (decide ((gn : Int) ≤ 80)))) (congrArg Value.bool c_6) rfl) ?_
      refine WL.q (Wn.no rfl) rfl rfl (R.move (v := (.bool (decide ((gn : Int) ≤ 80)))) rfl) ?_
      rcases Bool.eq_false_or_eq_true (decide ((gn : Int) ≤ 80)) with c_8 | c_8
      · have p_9 := of_decide_eq_true c_8
        refine WL.want rfl (congrArg Value.bool c_8) ?_
        refine WL.q (Wn.no rfl) rfl rfl (R.fieldAddr (b := b_1) (off := 0) (off' := 35) rfl Tryz.underlying28 rfl Tryz.sizeOf25 rfl rfl) ?_
        refine WL.want rfl (congrArg Value.bool c_8) ?_
        refine WL.q (Wn.no rfl) rfl rfl (R.load1 (b := b_1) (off := 35) (v := (.slice fa fn fc)) rfl Tryz.isAgg25 (h_3.ok _ (.head _)) (Sg.t rfl (Sg.t rfl (Sg.t rfl (Sg.t rfl Sg.h))))) ?_
        refine WL.want rfl (congrArg Value.bool c_8) ?_
        refine WL.q (Wn.no rfl) rfl rfl (R.lenS (a := fa) (m := fn) rfl rfl Tryz.underlying25) ?_
        refine WL.want rfl (congrArg Value.bool c_8) ?_
        refine WL.q (Wn.no rfl) rfl rfl (R.bin (v := (.bool (decide ((((fn : Nat) : Int) : Int) ≤ 80)))) rfl rfl (bi_leq (r := decide ((((fn : Nat) : Int) : Int) ≤ 80)) rfl)) ?_
        refine WL.q (Wn.no rfl) rfl rfl (R.pickT (v := (.bool (decide ((((fn : Nat) : Int) : Int) ≤ 80)))) (congrArg Value.bool c_8) rfl) ?_
        refine WL.q (Wn.no rfl) rfl rfl (R.assign (v := (.bool (decide ((((fn : Nat) : Int) : Int) ≤ 80)))) rfl) ?_
        refine WL.nil ?_
        refine thn_n ?_
        refine WP.ret ?_
        refine ret_of Tryz.results6 (RV.tmp (v := (.bool (decide ((((fn : Nat) : Int) : Int) ≤ 80)))) rfl RV.nil) ?_
        exact ⟨congrArg Value.bool (decide_eq_false (by omega)), h_3.chgS⟩
      · have p_10 := of_decide_eq_false c_8
        refine WL.skip rfl (congrArg Value.bool c_8) rfl ?_
        refine WL.skip rfl (congrArg Value.bool c_8) rfl ?_
        refine WL.skip rfl (congrArg Value.bool c_8) rfl ?_
        refine WL.skip rfl (congrArg Value.bool c_8) rfl ?_
        refine WL.q (Wn.no rfl) rfl rfl (R.pickF (v := (.bool false)) (congrArg Value.bool c_8) rfl) ?_
        refine WL.q (Wn.no rfl) rfl rfl (R.assign (v := (.bool false)) rfl) ?_
        refine WL.nil ?_
        refine thn_n ?_
        refine WP.ret ?_
        refine ret_of Tryz.results6 (RV.tmp (v := (.bool false)) rfl RV.nil) ?_
        exact ⟨rfl, h_3.chgS⟩
    · have p_11 := of_decide_eq_false c_6
      refine WL.skip rfl (congrArg Value.bool c_6) rfl ?_
      refine WL.skip rfl (congrArg Value.bool c_6) rfl ?_
      refine WL.skip rfl (congrArg Value.bool c_6) rfl ?_
      refine WL.q (Wn.no rfl) rfl rfl (R.pickF (v := (.bool false)) (congrArg Value.bool c_6) rfl) ?_
      refine WL.q (Wn.no rfl) rfl rfl (R.move (v := (.bool false)) rfl) ?_
      refine WL.skip rfl rfl rfl ?_
      refine WL.skip rfl rfl rfl ?_
      refine WL.skip rfl rfl rfl ?_
      refine WL.skip rfl rfl rfl ?_
      refine WL.q (Wn.no rfl) rfl rfl (R.pickF (v := (.bool false)) rfl rfl) ?_
      refine WL.q (Wn.no rfl) rfl rfl (R.assign (v := (.bool false)) rfl) ?_
      refine WL.nil ?_
      refine thn_n ?_
      refine WP.ret ?_
      refine ret_of Tryz.results6 (RV.tmp (v := (.bool false)) rfl RV.nil) ?_
      exact ⟨rfl, h_3.chgS⟩
  · have p_12 := of_decide_eq_false c_4
    refine WL.skip rfl (congrArg Value.bool c_4) rfl ?_
    refine WL.skip rfl (congrArg Value.bool c_4) rfl ?_
    refine WL.skip rfl (congrArg Value.bool c_4) rfl ?_
    refine WL.q (Wn.no rfl) rfl rfl (R.pickF (v := (.bool false)) (congrArg Value.bool c_4) rfl) ?_
    refine WL.q (Wn.no rfl) rfl rfl (R.move (v := (.bool false)) rfl) ?_
    refine WL.skip rfl rfl rfl ?_
    refine WL.skip rfl rfl rfl ?_
    refine WL.skip rfl rfl rfl ?_
    refine WL.q (Wn.no rfl) rfl rfl (R.pickF (v := (.bool false)) rfl rfl) ?_
    refine WL.q (Wn.no rfl) rfl rfl (R.move (v := (.bool false)) rfl) ?_
    refine WL.skip rfl rfl rfl ?_
    refine WL.skip rfl rfl rfl ?_
    refine WL.skip rfl rfl rfl ?_
    refine WL.skip rfl rfl rfl ?_
    refine WL.q (Wn.no rfl) rfl rfl (R.pickF (v := (.bool false)) rfl rfl) ?_
    refine WL.q (Wn.no rfl) rfl rfl (R.assign (v := (.bool false)) rfl) ?_
    refine WL.nil ?_
    refine thn_n ?_
    refine WP.ret ?_
    refine ret_of Tryz.results6 (RV.tmp (v := (.bool false)) rfl RV.nil) ?_
    exact ⟨rfl, h_3.chgS⟩

theorem c_two {w00 : World} {L : List Ent} (id : Bool) (ms df : List UInt8) (hms : ms.length = 32) (da0 : Option Addr) (n cap0 : Nat) (hl : df.length = 32 * n) (fa : Option Addr) (fn fc : Nat) (fd : List UInt8) (hfl : fd.length = 128 * fn) (nd : UInt64) (gn : Nat) (hs : n ≤ 700 ∧ 1 ≤ gn ∧ gn ≤ 80 ∧ fn ≤ 80) (w : World) (h_0 : HP w00 w (Ent.view da0 (df.map vu8) :: Ent.view fa (fd.map vu8) :: L)) :
    Cs Tryz.prog 8 [(.agg ⟨flat [(1, [(.bool id)]), (32, ms.map vu8), (1, [(.slice da0 n cap0)]), (1, [(vi ((gn : Nat) : Int))]), (1, [(.slice fa fn fc)]), (1, [(vu64 nd)])]⟩)].toArray w (fun v w1 => ∃ ob mp da dc rb bm ma bk ka, v = .tuple [.pointer (some ⟨ob, 0, none⟩), .pointer (some ⟨bm, 0, none⟩), .pointer (some ⟨rb, 0, none⟩), .pointer (some ⟨bk, 0, none⟩), .bool true].toArray ∧ HP w00 w1 (Ent.blk ob .nw 106 [(1, [(.bool id)]), (32, ms.map vu8), (1, [(.slice da n dc)]), (1, [(vi 0)]), (1, [(.map (some mp))]), (1, [(.slice none 0 0)])] :: Ent.row none 0 0 102 67 [] :: Ent.obj mp .nw (.map (mArr ([] : Lg)) 0) :: Ent.pin (sblks []) (fun w => Lgs w [] ([] : Lg)) :: Ent.view da (df.map vu8) :: Ent.blk rb .nw 61 [(1, [(.bool id)]), (32, ms.map vu8), (1, [(.slice da0 n cap0)]), (1, [(vi 0)]), (1, [(.slice none 0 0)])] :: Ent.blk bm .nw 112 [(1, [(.slice ma gn gn)])] :: Ent.row ma gn gn 76 128 ((fillL fd gn (min fn gn)).map vu8) :: Ent.blk bk .nw 95 [(1, [(.slice ka (128 * gn) (128 * gn))])] :: Ent.row ka (128 * gn) (128 * gn) 5 1 ((fillL fd gn (min fn gn)).map vu8) :: Ent.view da0 (df.map vu8) :: Ent.view fa (fd.map vu8) :: L)) := by
  refine Cs.of (n := 83) (args := [(.agg ⟨flat [(1, [(.bool id)]), (32, ms.map vu8), (1, [(.slice da0 n cap0)]), (1, [(vi ((gn : Nat) : Int))]), (1, [(.slice fa fn fc)]), (1, [(vu64 nd)])]⟩)]) Tryz.func8 rfl rfl rfl ?_
  refine WP.seq ?_
  refine WP.reg ?_
  refine WL.box (v := (.agg ⟨flat [(1, [(.bool id)]), (32, ms.map vu8), (1, [(.slice da0 n cap0)]), (1, [(vi ((gn : Nat) : Int))]), (1, [(.slice fa fn fc)]), (1, [(vu64 nd)])]⟩)) (segs := [(1, [(.bool id)]), (32, ms.map vu8), (1, [(.slice da0 n cap0)]), (1, [(vi ((gn : Nat) : Int))]), (1, [(.slice fa fn fc)]), (1, [(vu64 nd)])]) h_0 rfl rfl (SsOk.cons (SOk.v rfl) (SsOk.cons (SOk.u8 hms) (SsOk.cons (SOk.v rfl) (SsOk.cons (SOk.v rfl) (SsOk.cons (SOk.v rfl) (SsOk.cons (SOk.v rfl) SsOk.nil)))))) rfl (fun b_1 w_2 h_3 => ?_)
  refine WL.q (Wn.no rfl) rfl rfl (R.assign (v := (.pointer none)) rfl) ?_
  refine WL.q (Wn.no rfl) rfl rfl (R.assign (v := (.pointer none)) rfl) ?_
  refine WL.q (Wn.no rfl) rfl rfl (R.assign (v := (.pointer none)) rfl) ?_
  refine WL.q (Wn.no rfl) rfl rfl (R.assign (v := (.pointer none)) rfl) ?_
  refine WL.q (Wn.no rfl) rfl rfl (R.assign (v := (.bool false)) rfl) ?_
  refine WL.nil ?_
  refine thn_n ?_
  refine WP.seq ?_
  refine WP.reg ?_
  refine WL.q (Wn.no rfl) rfl rfl (R.fieldAddr (b := b_1) (off := 0) (off' := 0) rfl Tryz.underlying28 rfl Tryz.sizeOf4 rfl rfl) ?_
  refine WL.q (Wn.no rfl) rfl rfl (R.load1 (b := b_1) (off := 0) (v := (.bool id)) rfl Tryz.isAgg4 (h_3.ok _ (.head _)) Sg.h) ?_
  refine WL.q (Wn.no rfl) rfl rfl (R.fieldAddr (b := b_1) (off := 0) (off' := 1) rfl Tryz.underlying28 rfl Tryz.sizeOf23 rfl rfl) ?_
  refine WL.q (Wn.no rfl) rfl rfl (R.loadA (b := b_1) (off := 1) [(1, [(.bool id)])] [(32, ms.map vu8)] [(1, [(.slice da0 n cap0)]), (1, [(vi ((gn : Nat) : Int))]), (1, [(.slice fa fn fc)]), (1, [(vu64 nd)])] (cs := ms.map vu8) rfl Tryz.isAgg23 Tryz.sizeOf23 (h_3.ok _ (.head _)) rfl rfl rfl rfl) ?_
  refine WL.q (Wn.no rfl) rfl rfl (R.fieldAddr (b := b_1) (off := 0) (off' := 33) rfl Tryz.underlying28 rfl Tryz.sizeOf24 rfl rfl) ?_
  refine WL.q (Wn.no rfl) rfl rfl (R.load1 (b := b_1) (off := 33) (v := (.slice da0 n cap0)) rfl Tryz.isAgg24 (h_3.ok _ (.head _)) (Sg.t rfl (Sg.t rfl Sg.h))) ?_
  have h_4 := h_3.up (Pick.t Pick.h)
  refine WL.call (al := [(.bool id), (.agg ⟨ms.map vu8⟩), (.slice da0 n cap0)]) Tryz.call34 rfl rfl (c_ONew id ms df hms da0 n cap0 hl (by omega) _ h_4) rfl ?_
  rintro _ w_9 ⟨b_5, b_6, a_7, c_8, rfl, h_10⟩
  refine WL.q (Wn.no rfl) rfl rfl (R.assign (v := (.pointer (some ⟨b_5, 0, none⟩))) rfl) ?_
  refine WL.nil ?_
  refine thn_n ?_
  refine WP.seq ?_
  refine WP.reg ?_
  refine WL.q (Wn.no rfl) rfl rfl (R.fieldAddr (b := b_1) (off := 0) (off' := 34) rfl Tryz.underlying28 rfl Tryz.sizeOf3 rfl rfl) ?_
  refine WL.q (Wn.no rfl) rfl rfl (R.load1 (b := b_1) (off := 34) (v := (vi ((gn : Nat) : Int))) rfl Tryz.isAgg3 (h_10.ok _ (.tail _ (.tail _ (.tail _ (.tail _ (.tail _ (.tail _ (.head _)))))))) (Sg.t rfl (Sg.t rfl (Sg.t rfl Sg.h)))) ?_
  refine WL.call (al := [(vi ((gn : Nat) : Int))]) Tryz.call35 rfl rfl (c_MNewG gn (by omega) (by omega) _ h_10) rfl ?_
  rintro _ w_13 ⟨b_11, a_12, rfl, h_14⟩
  refine WL.q (Wn.no rfl) rfl rfl (R.move (v := (.tuple [(.pointer (some ⟨b_11, 0, none⟩)), (vi 0)].toArray)) rfl) ?_
  refine WL.q (Wn.no rfl) rfl rfl (R.extract (l := [(.pointer (some ⟨b_11, 0, none⟩)), (vi 0)]) (v := (.pointer (some ⟨b_11, 0, none⟩))) rfl rfl) ?_
  refine WL.q (Wn.no rfl) rfl rfl (R.extract (l := [(.pointer (some ⟨b_11, 0, none⟩)), (vi 0)]) (v := (vi 0)) rfl rfl) ?_
  refine WL.q (Wn.no rfl) rfl rfl (R.assign (v := (.pointer (some ⟨b_11, 0, none⟩))) rfl) ?_
  refine WL.q (Wn.no rfl) rfl rfl (R.assign (v := (vi 0)) rfl) ?_
  refine WL.nil ?_
  refine thn_n ?_
  refine WP.seq ?_
  refine WP.reg ?_
  refine WL.q (Wn.no rfl) rfl rfl (R.fieldAddr (b := b_1) (off := 0) (off' := 0) rfl Tryz.underlying28 rfl Tryz.sizeOf4 rfl rfl) ?_
  refine WL.q (Wn.no rfl) rfl rfl (R.load1 (b := b_1) (off := 0) (v := (.bool id)) rfl Tryz.isAgg4 (h_14.ok _ (.tail _ (.tail _ (.tail _ (.tail _ (.tail _ (.tail _ (.tail _ (.tail _ (.head _)))))))))) Sg.h) ?_
  refine WL.q (Wn.no rfl) rfl rfl (R.fieldAddr (b := b_1) (off := 0) (off' := 1) rfl Tryz.underlying28 rfl Tryz.sizeOf23 rfl rfl) ?_
  refine WL.q (Wn.no rfl) rfl rfl (R.loadA (b := b_1) (off := 1) [(1, [(.bool id)])] [(32, ms.map vu8)] [(1, [(.slice da0 n cap0)]), (1, [(vi ((gn : Nat) : Int))]), (1, [(.slice fa fn fc)]), (1, [(vu64 nd)])] (cs := ms.map vu8) rfl Tryz.isAgg23 Tryz.sizeOf23 (h_14.ok _ (.tail _ (.tail _ (.tail _ (.tail _ (.tail _ (.tail _ (.tail _ (.tail _ (.head _)))))))))) rfl rfl rfl rfl) ?_
  refine WL.q (Wn.no rfl) rfl rfl (R.fieldAddr (b := b_1) (off := 0) (off' := 33) rfl Tryz.underlying28 rfl Tryz.sizeOf24 rfl rfl) ?_
  refine WL.q (Wn.no rfl) rfl rfl (R.load1 (b := b_1) (off := 33) (v := (.slice da0 n cap0)) rfl Tryz.isAgg24 (h_14.ok _ (.tail _ (.tail _ (.tail _ (.tail _ (.tail _ (.tail _ (.tail _ (.tail _ (.head _)))))))))) (Sg.t rfl (Sg.t rfl Sg.h))) ?_
  refine WL.q (Wn.no rfl) rfl rfl (R.buildS (pl := [(0, 1), (1, 32), (33, 1), (34, 1), (35, 1)]) (zs := [(1, [(.bool false)]), (32, (List.replicate 32 (0 : UInt8)).map vu8), (1, [(.slice none 0 0)]), (1, [(vi 0)]), (1, [(.slice none 0 0)])]) (vs := [(0, (.bool id)), (1, (.agg ⟨ms.map vu8⟩)), (2, (.slice da0 n cap0))]) (out := [(1, [(.bool id)]), (32, ms.map vu8), (1, [(.slice da0 n cap0)]), (1, [(vi 0)]), (1, [(.slice none 0 0)])]) (cs := flat [(1, [(.bool id)]), (32, ms.map vu8), (1, [(.slice da0 n cap0)]), (1, [(vi 0)]), (1, [(.slice none 0 0)])]) Tryz.underlying61 (zv Tryz.typeInfo61 rfl) rfl (SsOk.cons (SOk.v rfl) (SsOk.cons (SOk.u8 (List.length_replicate ..)) (SsOk.cons (SOk.v rfl) (SsOk.cons (SOk.v rfl) (SsOk.cons (SOk.v rfl) SsOk.nil))))) (pl61 _ Tryz.underlying61) rfl (FillR.cons [] [(1, [(.bool false)])] [(1, [(.bool id)])] [(32, (List.replicate 32 (0 : UInt8)).map vu8), (1, [(.slice none 0 0)]), (1, [(vi 0)]), (1, [(.slice none 0 0)])] rfl rfl rfl rfl (SsOk.cons (SOk.v rfl) SsOk.nil) rfl rfl rfl (FillR.cons [(1, [(.bool id)])] [(32, (List.replicate 32 (0 : UInt8)).map vu8)] [(32, ms.map vu8)] [(1, [(.slice none 0 0)]), (1, [(vi 0)]), (1, [(.slice none 0 0)])] rfl rfl rfl rfl (SsOk.cons (SOk.u8 hms) SsOk.nil) rfl rfl rfl (FillR.cons [(1, [(.bool id)]), (32, ms.map vu8)] [(1, [(.slice none 0 0)])] [(1, [(.slice da0 n cap0)])] [(1, [(vi 0)]), (1, [(.slice none 0 0)])] rfl rfl rfl rfl (SsOk.cons (SOk.v rfl) SsOk.nil) rfl rfl rfl FillR.nil))) rfl) ?_
  refine WL.box (v := (.agg ⟨flat [(1, [(.bool id)]), (32, ms.map vu8), (1, [(.slice da0 n cap0)]), (1, [(vi 0)]), (1, [(.slice none 0 0)])]⟩)) (segs := [(1, [(.bool id)]), (32, ms.map vu8), (1, [(.slice da0 n cap0)]), (1, [(vi 0)]), (1, [(.slice none 0 0)])]) h_14 rfl rfl (SsOk.cons (SOk.v rfl) (SsOk.cons (SOk.u8 hms) (SsOk.cons (SOk.v rfl) (SsOk.cons (SOk.v rfl) (SsOk.cons (SOk.v rfl) SsOk.nil))))) rfl (fun b_16 w_17 h_18 => ?_)
  refine WL.q (Wn.no rfl) rfl rfl (R.assign (v := (.pointer (some ⟨b_16, 0, none⟩))) rfl) ?_
  refine WL.nil ?_
  refine thn_n ?_
  refine WP.seq ?_
  refine WP.reg ?_
  refine WL.q (Wn.no rfl) rfl rfl (R.fieldAddr (b := b_1) (off := 0) (off' := 34) rfl Tryz.underlying28 rfl Tryz.sizeOf3 rfl rfl) ?_
  refine WL.q (Wn.no rfl) rfl rfl (R.load1 (b := b_1) (off := 34) (v := (vi ((gn : Nat) : Int))) rfl Tryz.isAgg3 (h_18.ok _ (.tail _ (.tail _ (.tail _ (.tail _ (.tail _ (.tail _ (.tail _ (.tail _ (.tail _ (.head _))))))))))) (Sg.t rfl (Sg.t rfl (Sg.t rfl Sg.h)))) ?_
  refine WL.call (al := [(vi ((gn : Nat) : Int))]) Tryz.call36 rfl rfl (c_KNew gn (by omega) (by omega) _ h_18) rfl ?_
  rintro _ w_21 ⟨b_19, a_20, rfl, h_22⟩
  refine WL.q (Wn.no rfl) rfl rfl (R.assign (v := (.pointer (some ⟨b_19, 0, none⟩))) rfl) ?_
  refine WL.nil ?_
  refine thn_n ?_
  refine WP.seq ?_
  refine WP.seq ?_
  refine WP.reg ?_
  refine WL.q (Wn.no rfl) rfl rfl (R.assign (v := (vi 0)) rfl) ?_
  refine WL.nil ?_
  refine thn_n ?_
  refine WP.block ?_
  refine WP.loopG (G := Nat) [2, 3, 4, 5, 6, 12, 37, 38, 39, 40, 41, 42, 43, 44, 45, 46, 47, 48, 49, 50, 51, 52, 53, 54, 55, 56, 57, 58, 59, 60, 61, 62, 63, 64, 65, 66, 67] (fun g => [(12, (vi ((g : Nat) : Int)))]) (fun g m w1 => HP w00 w1 (Ent.blk b_19 .nw 95 [(1, [(.slice a_20 (128 * gn) (128 * gn))])] :: Ent.row a_20 (128 * gn) (128 * gn) 5 1 ((fillL fd gn g).map vu8) :: Ent.blk b_16 .nw 61 [(1, [(.bool id)]), (32, ms.map vu8), (1, [(.slice da0 n cap0)]), (1, [(vi 0)]), (1, [(.slice none 0 0)])] :: Ent.blk b_11 .nw 112 [(1, [(.slice a_12 gn gn)])] :: Ent.row a_12 gn gn 76 128 ((fillL fd gn g).map vu8) :: Ent.blk b_5 .nw 106 [(1, [(.bool id)]), (32, ms.map vu8), (1, [(.slice a_7 n c_8)]), (1, [(vi 0)]), (1, [(.map (some b_6))]), (1, [(.slice none 0 0)])] :: Ent.row none 0 0 102 67 [] :: Ent.obj b_6 .nw (.map (mArr ([] : Lg)) 0) :: Ent.pin (sblks []) (fun w => Lgs w [] ([] : Lg)) :: Ent.view a_7 (df.map vu8) :: Ent.view da0 (df.map vu8) :: Ent.blk b_1 .nw 28 [(1, [(.bool id)]), (32, ms.map vu8), (1, [(.slice da0 n cap0)]), (1, [(vi ((gn : Nat) : Int))]), (1, [(.slice fa fn fc)]), (1, [(vu64 nd)])] :: Ent.view fa (fd.map vu8) :: L) ∧ (g ≤ fn) ∧ (g ≤ gn) ∧ m = gn - g) ⟨0, _, ⟨rfl, trivial⟩, h_22, Nat.zero_le _, Nat.zero_le _, rfl⟩ ?_
  rintro g m_25 J_26 w_23 ⟨h_24, hgf, hgg, rfl⟩
  refine WP.seq ?_
  refine WP.seq ?_
  refine WP.reg ?_
  refine WL.q (Wn.no rfl) rfl rfl (R.move (v := (vi ((g : Nat) : Int))) rfl) ?_
  refine WL.q (Wn.no rfl) rfl rfl (R.fieldAddr (b := b_1) (off := 0) (off' := 35) rfl Tryz.underlying28 rfl Tryz.sizeOf25 rfl rfl) ?_
  refine WL.q (Wn.no rfl) rfl rfl (R.load1 (b := b_1) (off := 35) (v := (.slice fa fn fc)) rfl Tryz.isAgg25 (h_24.ok _ (.tail _ (.tail _ (.tail _ (.tail _ (.tail _ (.tail _ (.tail _ (.tail _ (.tail _ (.tail _ (.tail _ (.head _))))))))))))) (Sg.t rfl (Sg.t rfl (Sg.t rfl (Sg.t rfl Sg.h))))) ?_
  refine WL.q (Wn.no rfl) rfl rfl (R.lenS (a := fa) (m := fn) rfl rfl Tryz.underlying25) ?_
  refine WL.q (Wn.no rfl) rfl rfl (R.bin (v := (.bool (decide ((((g : Nat) : Int) : Int) < ((fn : Nat) : Int))))) rfl rfl (bi_lss (r := decide ((((g : Nat) : Int) : Int) < ((fn : Nat) : Int))) rfl)) ?_
  refine WL.q (Wn.no rfl) rfl rfl (R.move (v := (.bool (decide ((((g : Nat) : Int) : Int) < ((fn : Nat) : Int))))) rfl) ?_
  rcases Bool.eq_false_or_eq_true (decide ((((g : Nat) : Int) : Int) < ((fn : Nat) : Int))) with c_27 | c_27
  · have p_28 := of_decide_eq_true c_27
    refine WL.want rfl (congrArg Value.bool c_27) ?_
    refine WL.q (Wn.no rfl) rfl rfl (R.move (v := (vi ((g : Nat) : Int))) rfl) ?_
    refine WL.want rfl (congrArg Value.bool c_27) ?_
    refine WL.q (Wn.no rfl) rfl rfl (R.fieldAddr (b := b_1) (off := 0) (off' := 34) rfl Tryz.underlying28 rfl Tryz.sizeOf3 rfl rfl) ?_
    refine WL.want rfl (congrArg Value.bool c_27) ?_
    refine WL.q (Wn.no rfl) rfl rfl (R.load1 (b := b_1) (off := 34) (v := (vi ((gn : Nat) : Int))) rfl Tryz.isAgg3 (h_24.ok _ (.tail _ (.tail _ (.tail _ (.tail _ (.tail _ (.tail _ (.tail _ (.tail _ (.tail _ (.tail _ (.tail _ (.head _))))))))))))) (Sg.t rfl (Sg.t rfl (Sg.t rfl Sg.h)))) ?_
    refine WL.want rfl (congrArg Value.bool c_27) ?_
    refine WL.q (Wn.no rfl) rfl rfl (R.bin (v := (.bool (decide ((((g : Nat) : Int) : Int) < ((gn : Nat) : Int))))) rfl rfl (bi_lss (r := decide ((((g : Nat) : Int) : Int) < ((gn : Nat) : Int))) rfl)) ?_
    refine WL.q (Wn.no rfl) rfl rfl (R.pickT (v := (.bool (decide ((((g : Nat) : Int) : Int) < ((gn : Nat) : Int))))) (congrArg Value.bool c_27) rfl) ?_
    refine WL.nil ?_
    refine thn_n ?_
    refine WP.cond (b := decide ((((g : Nat) : Int) : Int) < ((gn : Nat) : Int))) rfl (fun c_29 => ?_) (fun c_29 => ?_)
    · have p_30 := of_decide_eq_true c_29
      refine WP.skip ?_
      refine thn_n ?_
      refine WP.seq ?_
      refine WP.block ?_
      refine WP.seq ?_
      refine WP.seq ?_
      refine WP.reg ?_
      refine WL.q (Wn.no rfl) rfl rfl (R.move (v := (.pointer (some ⟨b_11, 0, none⟩))) rfl) ?_
      refine WL.q (Wn.no rfl) rfl rfl (R.move (v := (vi ((g : Nat) : Int))) rfl) ?_
      refine WL.q (Wn.no rfl) rfl rfl (R.fieldAddr (b := b_1) (off := 0) (off' := 35) rfl Tryz.underlying28 rfl Tryz.sizeOf25 rfl rfl) ?_
      refine WL.q (Wn.no rfl) rfl rfl (R.load1 (b := b_1) (off := 35) (v := (.slice fa fn fc)) rfl Tryz.isAgg25 (h_24.ok _ (.tail _ (.tail _ (.tail _ (.tail _ (.tail _ (.tail _ (.tail _ (.tail _ (.tail _ (.tail _ (.tail _ (.head _))))))))))))) (Sg.t rfl (Sg.t rfl (Sg.t rfl (Sg.t rfl Sg.h))))) ?_
      refine WL.q (Wn.no rfl) rfl rfl (R.move (v := (vi ((g : Nat) : Int))) rfl) ?_
      refine WL.q (Wn.no rfl) rfl rfl (R.indexS (a := fa) (i := g) (off := g * 128) (xs := fd.map vu8) rfl rfl rfl (by omega) (viewV (h_24.ok _ (.tail _ (.tail _ (.tail _ (.tail _ (.tail _ (.tail _ (.tail _ (.tail _ (.tail _ (.tail _ (.tail _ (.tail _ (.head _))))))))))))))) (lt_len (K := 128 * fn) (len_map hfl) (by omega)) Tryz.underlying25 Tryz.sizeOf76 rfl) ?_
      refine WL.q (Wn.no rfl) rfl rfl (R.loadGA (a := fa) (i := g * 128) (xs := fd.map vu8) (cs := (((fd).drop (g * 128)).take 128).map vu8) rfl (viewV (h_24.ok _ (.tail _ (.tail _ (.tail _ (.tail _ (.tail _ (.tail _ (.tail _ (.tail _ (.tail _ (.tail _ (.tail _ (.tail _ (.head _))))))))))))))) Tryz.isAgg76 Tryz.sizeOf76 (by rw [List.map_take, List.map_drop]) (len_map (subLen (K := 128 * fn) hfl (by omega) : List.length (((fd).drop (g * 128)).take 128) = 128)) (by decide)) ?_
      have h_31 := h_24.up (Pick.t (Pick.t (Pick.t (Pick.t Pick.h))))
      have h_32 := h_31.up (Pick.t (Pick.t (Pick.t (Pick.t Pick.h))))
      refine WL.call (al := [(.pointer (some ⟨b_11, 0, none⟩)), (vi ((g : Nat) : Int)), (.agg ⟨(((fd).drop (g * 128)).take 128).map vu8⟩)]) Tryz.call37 rfl rfl (c_MPut b_11 a_12 gn g (by omega) (by omega) (fillL fd gn g) (((fd).drop (g * 128)).take 128) (fillL_len hfl hgg hgf) (subLen (K := 128 * fn) hfl (by omega) : List.length (((fd).drop (g * 128)).take 128) = 128) _ h_32) rfl ?_
      rintro _ w_33 ⟨rfl, h_34⟩
      refine WL.call (al := [(vi 0)]) Tryz.call17 rfl rfl (c_num15 0 (by omega) _ ) rfl ?_
      rintro _ w_36 ⟨rfl, hc_35⟩
      have h_37 := h_34.same hc_35
      refine WL.q (Wn.no rfl) rfl rfl (R.bin (v := (.bool false)) rfl rfl (bi_neq (r := false) (by decide))) ?_
      refine WL.nil ?_
      refine thn_n ?_
      refine WP.condF rfl ?_
      refine WP.skip ?_
      refine thn_n ?_
      refine WP.reg ?_
      refine WL.q (Wn.no rfl) rfl rfl (R.move (v := (.pointer (some ⟨b_19, 0, none⟩))) rfl) ?_
      refine WL.q (Wn.no rfl) rfl rfl (R.move (v := (vi ((g : Nat) : Int))) rfl) ?_
      refine WL.q (Wn.no rfl) rfl rfl (R.fieldAddr (b := b_1) (off := 0) (off' := 35) rfl Tryz.underlying28 rfl Tryz.sizeOf25 rfl rfl) ?_
      refine WL.q (Wn.no rfl) rfl rfl (R.load1 (b := b_1) (off := 35) (v := (.slice fa fn fc)) rfl Tryz.isAgg25 (h_37.ok _ (.tail _ (.tail _ (.tail _ (.tail _ (.tail _ (.tail _ (.tail _ (.tail _ (.tail _ (.tail _ (.tail _ (.head _))))))))))))) (Sg.t rfl (Sg.t rfl (Sg.t rfl (Sg.t rfl Sg.h))))) ?_
      refine WL.q (Wn.no rfl) rfl rfl (R.move (v := (vi ((g : Nat) : Int))) rfl) ?_
      refine WL.q (Wn.no rfl) rfl rfl (R.indexS (a := fa) (i := g) (off := g * 128) (xs := fd.map vu8) rfl rfl rfl (by omega) (viewV (h_37.ok _ (.tail _ (.tail _ (.tail _ (.tail _ (.tail _ (.tail _ (.tail _ (.tail _ (.tail _ (.tail _ (.tail _ (.tail _ (.head _))))))))))))))) (lt_len (K := 128 * fn) (len_map hfl) (by omega)) Tryz.underlying25 Tryz.sizeOf76 rfl) ?_
      refine WL.q (Wn.no rfl) rfl rfl (R.loadGA (a := fa) (i := g * 128) (xs := fd.map vu8) (cs := (((fd).drop (g * 128)).take 128).map vu8) rfl (viewV (h_37.ok _ (.tail _ (.tail _ (.tail _ (.tail _ (.tail _ (.tail _ (.tail _ (.tail _ (.tail _ (.tail _ (.tail _ (.tail _ (.head _))))))))))))))) Tryz.isAgg76 Tryz.sizeOf76 (by rw [List.map_take, List.map_drop]) (len_map (subLen (K := 128 * fn) hfl (by omega) : List.length (((fd).drop (g * 128)).take 128) = 128)) (by decide)) ?_
      have h_38 := h_37.up (Pick.t (Pick.t (Pick.t Pick.h)))
      have h_39 := h_38.up (Pick.t (Pick.t (Pick.t Pick.h)))
      refine WL.call (al := [(.pointer (some ⟨b_19, 0, none⟩)), (vi ((g : Nat) : Int)), (.agg ⟨(((fd).drop (g * 128)).take 128).map vu8⟩)]) Tryz.call38 rfl rfl (c_KPut b_19 a_20 gn g (by omega) (by omega) (fillL fd gn g) (((fd).drop (g * 128)).take 128) (fillL_len hfl hgg hgf) (subLen (K := 128 * fn) hfl (by omega) : List.length (((fd).drop (g * 128)).take 128) = 128) _ h_39) rfl ?_
      rintro _ w_40 ⟨rfl, h_41⟩
      refine WL.nil ?_
      refine inb_n ?_
      refine thn_n ?_
      refine WP.reg ?_
      refine WL.q (Wn.no rfl) rfl rfl (R.move (v := (vi ((g : Nat) : Int))) rfl) ?_
      refine WL.q (Wn.no rfl) rfl rfl (R.bin (v := (vi ((g + 1 : Nat) : Int))) rfl rfl (bi_add (c := ((g + 1 : Nat) : Int)) (by omega) (by omega))) ?_
      refine WL.q (Wn.no rfl) rfl rfl (R.assign (v := (vi ((g + 1 : Nat) : Int))) rfl) ?_
      refine WL.nil ?_
      refine thn_n ?_
      have h_42 := h_41.up (Pick.t (Pick.t (Pick.t (Pick.t (Pick.t (Pick.t (Pick.t (Pick.t (Pick.t (Pick.t (Pick.t (Pick.t Pick.h))))))))))))
      have h_43 := h_42.up (Pick.t (Pick.t (Pick.t (Pick.t (Pick.t (Pick.t (Pick.t (Pick.t (Pick.t (Pick.t (Pick.t (Pick.t Pick.h))))))))))))
      have h_44 := h_43.up (Pick.t (Pick.t (Pick.t (Pick.t (Pick.t (Pick.t (Pick.t (Pick.t (Pick.t (Pick.t (Pick.t (Pick.t Pick.h))))))))))))
      have h_45 := h_44.up (Pick.t (Pick.t (Pick.t (Pick.t (Pick.t (Pick.t (Pick.t (Pick.t (Pick.t (Pick.t (Pick.t (Pick.t Pick.h))))))))))))
      have h_46 := h_45.up (Pick.t (Pick.t (Pick.t (Pick.t (Pick.t (Pick.t (Pick.t (Pick.t (Pick.t (Pick.t (Pick.t (Pick.t Pick.h))))))))))))
      have h_47 := h_46.up (Pick.t (Pick.t (Pick.t (Pick.t (Pick.t (Pick.t (Pick.t (Pick.t (Pick.t (Pick.t (Pick.t (Pick.t Pick.h))))))))))))
      have h_48 := h_47.up (Pick.t (Pick.t (Pick.t (Pick.t (Pick.t (Pick.t (Pick.t (Pick.t (Pick.t (Pick.t (Pick.t (Pick.t Pick.h))))))))))))
      have h_49 := h_48.up (Pick.t (Pick.t (Pick.t (Pick.t (Pick.t (Pick.t (Pick.t (Pick.t (Pick.t (Pick.t (Pick.t (Pick.t Pick.h))))))))))))
      have h_50 := h_49.up (Pick.t (Pick.t (Pick.t (Pick.t (Pick.t (Pick.t (Pick.t (Pick.t (Pick.t (Pick.t (Pick.t Pick.h)))))))))))
      have h_51 := h_50.up (Pick.t (Pick.t (Pick.t (Pick.t (Pick.t (Pick.t (Pick.t (Pick.t (Pick.t (Pick.t (Pick.t Pick.h)))))))))))
      have h_52 := h_51.up (Pick.t (Pick.t (Pick.t (Pick.t (Pick.t (Pick.t (Pick.t (Pick.t (Pick.t (Pick.t (Pick.t (Pick.t Pick.h))))))))))))
      have h_53 := h_52.up (Pick.t (Pick.t (Pick.t (Pick.t (Pick.t (Pick.t (Pick.t (Pick.t (Pick.t (Pick.t (Pick.t (Pick.t Pick.h))))))))))))
      have h_54 := h_53.up (Pick.t (Pick.t (Pick.t (Pick.t (Pick.t (Pick.t (Pick.t (Pick.t (Pick.t (Pick.t (Pick.t (Pick.t Pick.h))))))))))))
      exact ⟨g + 1, _, (by omega), (Ag.upd rfl (Ag.upd rfl (Ag.upd rfl (Ag.upd rfl (Ag.upd rfl (Ag.upd rfl (Ag.upd rfl (Ag.upd rfl (Ag.upd rfl (Ag.upd rfl (Ag.upd rfl (Ag.upd rfl (Ag.upd rfl (Ag.upd rfl (Ag.upd rfl (Ag.upd rfl (Ag.upd rfl (Ag.upd rfl (Ag.upd rfl (Ag.upd rfl (Ag.upd rfl (Ag.upd rfl (Ag.upd rfl (Ag.upd rfl (Ag.upd rfl (Ag.upd rfl (Ag.upd rfl (Ag.upd rfl (Ag.upd rfl (Ag.upd rfl (Ag.upd rfl (Ag.upd rfl (Ag.updL rfl (Ag.mix _ _ _)))))))))))))))))))))))))))))))))), ⟨rfl, trivial⟩, h_54, (by omega), (by omega), rfl⟩
    · have p_55 := of_decide_eq_false c_29
      refine WP.exit ?_
      refine thn_x ?_
      refine thn_x ?_
      refine inb_hit ?_
      refine thn_n ?_
      refine WP.seq ?_
      refine WP.reg ?_
      refine WL.q (Wn.no rfl) rfl rfl (R.move (v := (.pointer (some ⟨b_5, 0, none⟩))) rfl) ?_
      refine WL.q (Wn.no rfl) rfl rfl (R.move (v := (.pointer (some ⟨b_11, 0, none⟩))) rfl) ?_
      refine WL.q (Wn.no rfl) rfl rfl (R.move (v := (.pointer (some ⟨b_16, 0, none⟩))) rfl) ?_
      refine WL.q (Wn.no rfl) rfl rfl (R.move (v := (.pointer (some ⟨b_19, 0, none⟩))) rfl) ?_
      refine WL.q (Wn.no rfl) rfl rfl (R.move (v := (vi 0)) rfl) ?_
      refine WL.call (al := [(vi 0)]) Tryz.call17 rfl rfl (c_num15 0 (by omega) _ ) rfl ?_
      rintro _ w_57 ⟨rfl, hc_56⟩
      have h_58 := h_24.same hc_56
      refine WL.q (Wn.no rfl) rfl rfl (R.bin (v := (.bool true)) rfl rfl (bi_eql (r := true) (by decide))) ?_
      refine WL.q (Wn.no rfl) rfl rfl (R.move (v := (.bool true)) rfl) ?_
      refine WL.want rfl rfl ?_
      refine WL.q (Wn.no rfl) rfl rfl (R.move (v := (.pointer (some ⟨b_5, 0, none⟩))) rfl) ?_
      refine WL.want rfl rfl ?_
      refine WL.q (Wn.no rfl) rfl rfl (R.neNilP rfl rfl Tryz.underlying31) ?_
      refine WL.q (Wn.no rfl) rfl rfl (R.pickT (v := (.bool true)) rfl rfl) ?_
      refine WL.q (Wn.no rfl) rfl rfl (R.move (v := (.bool true)) rfl) ?_
      refine WL.want rfl rfl ?_
      refine WL.q (Wn.no rfl) rfl rfl (R.move (v := (.pointer (some ⟨b_11, 0, none⟩))) rfl) ?_
      refine WL.want rfl rfl ?_
      refine WL.q (Wn.no rfl) rfl rfl (R.neNilP rfl rfl Tryz.underlying32) ?_
      refine WL.q (Wn.no rfl) rfl rfl (R.pickT (v := (.bool true)) rfl rfl) ?_
      refine WL.q (Wn.no rfl) rfl rfl (R.assign (v := (.pointer (some ⟨b_5, 0, none⟩))) rfl) ?_
      refine WL.q (Wn.no rfl) rfl rfl (R.assign (v := (.pointer (some ⟨b_11, 0, none⟩))) rfl) ?_
      refine WL.q (Wn.no rfl) rfl rfl (R.assign (v := (.pointer (some ⟨b_16, 0, none⟩))) rfl) ?_
      refine WL.q (Wn.no rfl) rfl rfl (R.assign (v := (.pointer (some ⟨b_19, 0, none⟩))) rfl) ?_
      refine WL.q (Wn.no rfl) rfl rfl (R.assign (v := (.bool true)) rfl) ?_
      refine WL.nil ?_
      refine thn_n ?_
      refine WP.ret ?_
      refine ret_of Tryz.results8 (RV.tmp (v := (.pointer (some ⟨b_5, 0, none⟩))) rfl (RV.tmp (v := (.pointer (some ⟨b_11, 0, none⟩))) rfl (RV.tmp (v := (.pointer (some ⟨b_16, 0, none⟩))) rfl (RV.tmp (v := (.pointer (some ⟨b_19, 0, none⟩))) rfl (RV.tmp (v := (.bool true)) rfl RV.nil))))) ?_
      have h_59 := h_58.up (Pick.t (Pick.t (Pick.t (Pick.t (Pick.t (Pick.t (Pick.t (Pick.t (Pick.t (Pick.t (Pick.t Pick.h)))))))))))
      have h_60 := h_59.drop rfl
      have h_61 := h_60.up (Pick.t (Pick.t (Pick.t (Pick.t (Pick.t (Pick.t (Pick.t (Pick.t (Pick.t (Pick.t (Pick.t Pick.h)))))))))))
      have h_62 := h_61.up (Pick.t (Pick.t (Pick.t (Pick.t (Pick.t (Pick.t (Pick.t (Pick.t (Pick.t (Pick.t (Pick.t Pick.h)))))))))))
      have h_63 := h_62.up (Pick.t (Pick.t (Pick.t Pick.h)))
      have h_64 := h_63.up (Pick.t (Pick.t (Pick.t Pick.h)))
      have h_65 := h_64.up (Pick.t (Pick.t (Pick.t (Pick.t (Pick.t (Pick.t Pick.h))))))
      have h_66 := h_65.up (Pick.t (Pick.t (Pick.t (Pick.t (Pick.t (Pick.t Pick.h))))))
      have h_67 := h_66.up (Pick.t (Pick.t (Pick.t (Pick.t (Pick.t (Pick.t Pick.h))))))
      have h_68 := h_67.up (Pick.t (Pick.t (Pick.t (Pick.t (Pick.t (Pick.t (Pick.t (Pick.t (Pick.t (Pick.t (Pick.t Pick.h)))))))))))
      have h_69 := h_68.up (Pick.t (Pick.t (Pick.t (Pick.t (Pick.t (Pick.t (Pick.t (Pick.t (Pick.t (Pick.t (Pick.t Pick.h)))))))))))
      have h_70 := h_69.up (Pick.t (Pick.t (Pick.t (Pick.t (Pick.t (Pick.t (Pick.t (Pick.t (Pick.t (Pick.t (Pick.t Pick.h)))))))))))
      have h_71 := h_70.up (Pick.t (Pick.t (Pick.t (Pick.t (Pick.t (Pick.t (Pick.t (Pick.t (Pick.t (Pick.t (Pick.t Pick.h)))))))))))
      have h_72 := h_71.up (Pick.t (Pick.t (Pick.t (Pick.t (Pick.t (Pick.t (Pick.t (Pick.t (Pick.t (Pick.t (Pick.t Pick.h)))))))))))
      have hgm : g = min fn gn := by omega
      subst hgm
      exact ⟨_, _, _, _, _, _, _, _, _, rfl, h_72⟩
  · have p_73 := of_decide_eq_false c_27
    refine WL.skip rfl (congrArg Value.bool c_27) rfl ?_
    refine WL.skip rfl (congrArg Value.bool c_27) rfl ?_
    refine WL.skip rfl (congrArg Value.bool c_27) rfl ?_
    refine WL.skip rfl (congrArg Value.bool c_27) rfl ?_
    refine WL.q (Wn.no rfl) rfl rfl (R.pickF (v := (.bool false)) (congrArg Value.bool c_27) rfl) ?_
    refine WL.nil ?_
    refine thn_n ?_
    refine WP.condF rfl ?_
    refine WP.exit ?_
    refine thn_x ?_
    refine thn_x ?_
    refine inb_hit ?_
    refine thn_n ?_
    refine WP.seq ?_
    refine WP.reg ?_
    refine WL.q (Wn.no rfl) rfl rfl (R.move (v := (.pointer (some ⟨b_5, 0, none⟩))) rfl) ?_
    refine WL.q (Wn.no rfl) rfl rfl (R.move (v := (.pointer (some ⟨b_11, 0, none⟩))) rfl) ?_
    refine WL.q (Wn.no rfl) rfl rfl (R.move (v := (.pointer (some ⟨b_16, 0, none⟩))) rfl) ?_
    refine WL.q (Wn.no rfl) rfl rfl (R.move (v := (.pointer (some ⟨b_19, 0, none⟩))) rfl) ?_
    refine WL.q (Wn.no rfl) rfl rfl (R.move (v := (vi 0)) rfl) ?_
    refine WL.call (al := [(vi 0)]) Tryz.call17 rfl rfl (c_num15 0 (by omega) _ ) rfl ?_
    rintro _ w_75 ⟨rfl, hc_74⟩
    have h_76 := h_24.same hc_74
    refine WL.q (Wn.no rfl) rfl rfl (R.bin (v := (.bool true)) rfl rfl (bi_eql (r := true) (by decide))) ?_
    refine WL.q (Wn.no rfl) rfl rfl (R.move (v := (.bool true)) rfl) ?_
    refine WL.want rfl rfl ?_
    refine WL.q (Wn.no rfl) rfl rfl (R.move (v := (.pointer (some ⟨b_5, 0, none⟩))) rfl) ?_
    refine WL.want rfl rfl ?_
    refine WL.q (Wn.no rfl) rfl rfl (R.neNilP rfl rfl Tryz.underlying31) ?_
    refine WL.q (Wn.no rfl) rfl rfl (R.pickT (v := (.bool true)) rfl rfl) ?_
    refine WL.q (Wn.no rfl) rfl rfl (R.move (v := (.bool true)) rfl) ?_
    refine WL.want rfl rfl ?_
    refine WL.q (Wn.no rfl) rfl rfl (R.move (v := (.pointer (some ⟨b_11, 0, none⟩))) rfl) ?_
    refine WL.want rfl rfl ?_
    refine WL.q (Wn.no rfl) rfl rfl (R.neNilP rfl rfl Tryz.underlying32) ?_
    refine WL.q (Wn.no rfl) rfl rfl (R.pickT (v := (.bool true)) rfl rfl) ?_
    refine WL.q (Wn.no rfl) rfl rfl (R.assign (v := (.pointer (some ⟨b_5, 0, none⟩))) rfl) ?_
    refine WL.q (Wn.no rfl) rfl rfl (R.assign (v := (.pointer (some ⟨b_11, 0, none⟩))) rfl) ?_
    refine WL.q (Wn.no rfl) rfl rfl (R.assign (v := (.pointer (some ⟨b_16, 0, none⟩))) rfl) ?_
    refine WL.q (Wn.no rfl) rfl rfl (R.assign (v := (.pointer (some ⟨b_19, 0, none⟩))) rfl) ?_
    refine WL.q (Wn.no rfl) rfl rfl (R.assign (v := (.bool true)) rfl) ?_
    refine WL.nil ?_
    refine thn_n ?_
    refine WP.ret ?_
    refine ret_of Tryz.results8 (RV.tmp (v := (.pointer (some ⟨b_5, 0, none⟩))) rfl (RV.tmp (v := (.pointer (some ⟨b_11, 0, none⟩))) rfl (RV.tmp (v := (.pointer (some ⟨b_16, 0, none⟩))) rfl (RV.tmp (v := (.pointer (some ⟨b_19, 0, none⟩))) rfl (RV.tmp (v := (.bool true)) rfl RV.nil))))) ?_
    have h_77 := h_76.up (Pick.t (Pick.t (Pick.t (Pick.t (Pick.t (Pick.t (Pick.t (Pick.t (Pick.t (Pick.t (Pick.t Pick.h)))))))))))
    have h_78 := h_77.drop rfl
    have h_79 := h_78.up (Pick.t (Pick.t (Pick.t (Pick.t (Pick.t (Pick.t (Pick.t (Pick.t (Pick.t (Pick.t (Pick.t Pick.h)))))))))))
    have h_80 := h_79.up (Pick.t (Pick.t (Pick.t (Pick.t (Pick.t (Pick.t (Pick.t (Pick.t (Pick.t (Pick.t (Pick.t Pick.h)))))))))))
    have h_81 := h_80.up (Pick.t (Pick.t (Pick.t Pick.h)))
    have h_82 := h_81.up (Pick.t (Pick.t (Pick.t Pick.h)))
    have h_83 := h_82.up (Pick.t (Pick.t (Pick.t (Pick.t (Pick.t (Pick.t Pick.h))))))
    have h_84 := h_83.up (Pick.t (Pick.t (Pick.t (Pick.t (Pick.t (Pick.t Pick.h))))))
    have h_85 := h_84.up (Pick.t (Pick.t (Pick.t (Pick.t (Pick.t (Pick.t Pick.h))))))
    have h_86 := h_85.up (Pick.t (Pick.t (Pick.t (Pick.t (Pick.t (Pick.t (Pick.t (Pick.t (Pick.t (Pick.t (Pick.t Pick.h)))))))))))
    have h_87 := h_86.up (Pick.t (Pick.t (Pick.t (Pick.t (Pick.t (Pick.t (Pick.t (Pick.t (Pick.t (Pick.t (Pick.t Pick.h)))))))))))
    have h_88 := h_87.up (Pick.t (Pick.t (Pick.t (Pick.t (Pick.t (Pick.t (Pick.t (Pick.t (Pick.t (Pick.t (Pick.t Pick.h)))))))))))
    have h_89 := h_88.up (Pick.t (Pick.t (Pick.t (Pick.t (Pick.t (Pick.t (Pick.t (Pick.t (Pick.t (Pick.t (Pick.t Pick.h)))))))))))
    have h_90 := h_89.up (Pick.t (Pick.t (Pick.t (Pick.t (Pick.t (Pick.t (Pick.t (Pick.t (Pick.t (Pick.t (Pick.t Pick.h)))))))))))
    have hgm : g = min fn gn := by omega
    subst hgm
    exact ⟨_, _, _, _, _, _, _, _, _, rfl, h_90⟩
end Go.Proofs.YtbhllplbbkmndaaGreat

namespace Go.Proofs.YtbhllplbbkmndaaGreat
open Go.Proofs.Tryz
open Go.Vc Go.Orc Go.Sh Go.RowKit
set_option maxRecDepth 20000

theorem c_UpT {w00 : World} {L : List Ent} (id : Bool) (ob mp : Nat) (ms df : List UInt8) (hms : ms.length = 32) (da : Option Addr) (dn dc u : Nat) (hdf : df.length = 32 * dn) (la : Option Addr) (lc : Nat) (lx : List Value) (lg : Lg) (hu : u ≤ 500000) (hlg : lg.length ≤ 500000) (bm : Nat) (ma : Option Addr) (mn : Nat) (hm : mn ≤ 100) (hm1 : 1 ≤ mn) (p : Nat) (hw : p + 8192 ≤ 128 * mn) (hp : p % 128 = 0) (l : List UInt8) (hl : l.length = 128 * mn) (pg : Nat) (h : pg < 128) (lf : List UInt8) (hlf : lf.length = 32) (hwn : wnB mn (UInt64.ofNat p) = true) (w : World) (h_0 : HP w00 w (Ent.blk ob .nw 106 [(1, [(.bool id)]), (32, ms.map vu8), (1, [(.slice da dn dc)]), (1, [(vi ((u : Nat) : Int))]), (1, [(.map (some mp))]), (1, [(.slice la lg.length lc)])] :: Ent.row la lg.length lc 102 67 lx :: Ent.obj mp .nw (.map (mArr lg) lg.length) :: Ent.pin (sblks lx) (fun w => Lgs w lx lg) :: Ent.view da (df.map vu8) :: Ent.blk bm .nw 112 [(1, [(.slice ma mn mn)])] :: Ent.row ma mn mn 76 128 (l.map vu8) :: L)) :
  Cs Tryz.prog 29 [(.pointer (some ⟨ob, 0, none⟩)), (.pointer (some ⟨bm, 0, none⟩)), (vu64 (UInt64.ofNat p)), (vi ((pg : Nat) : Int)), (.agg ⟨lf.map vu8⟩)].toArray w (fun v w1 => ∃ la' lc' lx', v = (.tuple [(.agg ⟨((upS id df dn l p pg u lg lf 7).2.2).map vu8⟩), (vi 0)].toArray) ∧ HP w00 w1 (Ent.blk ob .nw 106 [(1, [(.bool id)]), (32, ms.map vu8), (1, [(.slice da dn dc)]), (1, [(vi (((upS id df dn l p pg u lg lf 7).1 : Nat) : Int))]), (1, [(.map (some mp))]), (1, [(.slice la' ((upS id df dn l p pg u lg lf 7).2.1.length) lc')])] :: Ent.row la' ((upS id df dn l p pg u lg lf 7).2.1.length) lc' 102 67 lx' :: Ent.obj mp .nw (.map (mArr ((upS id df dn l p pg u lg lf 7).2.1)) ((upS id df dn l p pg u lg lf 7).2.1.length)) :: Ent.pin (sblks lx') (fun w => Lgs w lx' ((upS id df dn l p pg u lg lf 7).2.1)) :: Ent.view da (df.map vu8) :: Ent.blk bm .nw 112 [(1, [(.slice ma mn mn)])] :: Ent.row ma mn mn 76 128 (l.map vu8) :: L)) := by
 refine Cs.of (n := 28) (args := [(pO ob 0), (pO bm 0), (vu64 (UInt64.ofNat p)), (vn pg), (.agg ⟨lf.map vu8⟩)]) Tryz.func29 rfl rfl rfl ?_
 refine WP.seq (WP.reg ?_)
 refine WL.box (segs := [(32, lf.map vu8)]) h_0 rfl rfl (sC (s8 hlf) sN) rfl (fun b_1 w_2 h_3 => ?_)
 refine WL.alloc (segs := [(32, (zB 32).map vu8)]) h_3 (zv typeInfo23 rfl) rfl (sC (s8 lr) sN) rfl (fun b_4 w_5 h_6 => ?_)
 refine qA (vi 0) rfl rfl ?_
 refine WL.nil (thn_n (WP.seq (WP.seq (WP.reg ?_))))
 refine qM (pO ob 0) rfl rfl (qM (pO bm 0) rfl rfl (qM (vu64 (UInt64.ofNat p)) rfl rfl (qM (vn pg) rfl rfl ?_)))
 refine WL.call Tryz.call46 rfl rfl (c_askG_t id ob mp ms hms da dn dc u la lg.length lc bm ma mn (by omega) (by omega) pg (by omega) (UInt64.ofNat p) hwn _ (h_6.argR M2) (h_6.argR M7)) rfl ?_
 rintro _ w_8 ⟨rfl, hc_7⟩
 have h_9 := h_6.same hc_7
 refine qA (vi 0) rfl rfl ?_
 refine WL.nil (thn_n (WP.seq (WP.reg ?_)))
 refine qM (vi 0) rfl rfl (qV rfl (R.bin rfl rfl (bi_neq (r := false) (by decide))) ?_)
 refine WL.nil (thn_n ?_)
 refine WP.condF rfl ?_
 refine WP.skip (thn_n (WP.seq (WP.reg ?_)))
 refine qM (pO ob 0) rfl rfl (qM (pO bm 0) rfl rfl (qM (vu64 (UInt64.ofNat p)) rfl rfl (qM (vn pg) rfl rfl (qV rfl (R.loadA [] [(32, lf.map vu8)] [] (cs := lf.map vu8) rfl isAgg23 sizeOf23 (h_9.ok _ M1) rfl rfl rfl rfl) ?_))))
 have h_21 := (((((((((((h_9.up J6).up J6).up J6).up J6).up J6).up J8).up J8).up J6).up J6).up J6).up J6).up J6
 have h32_w_25 := Lgs.ok32 (h_21.ok _ M3).1
 refine WL.call Tryz.call57 rfl rfl (c_up0 id ob mp ms df hms da dn dc u hdf la lc lx lg hu hlg bm ma mn (by omega) (by omega) p (by omega) (by omega) l hl pg (by omega) lf hlf _ h_21) rfl ?_
 rintro _ w_25 ⟨la_22, lc_23, lx_24, rfl, h_26⟩
 refine WL.storeA [] [(32, (zB 32).map vu8)] [(32, ((upS id df dn l p pg u lg lf 7).2.2).map vu8)] [] h_26 rfl rfl sizeOf23 Y7 (by decide) rfl rfl rfl rfl rfl rfl (sC (s8 (upS_len hdf h32_w_25 hlf 7)) sN) (fun w_27 h_28 => ?_)
 refine qA (vi 0) rfl rfl ?_
 refine WL.nil (thn_n (WP.ret ?_))
 refine ret_of results29 (RV.cell rfl (h_28.loadA (cs := ((upS id df dn l p pg u lg lf 7).2.2).map vu8) isAgg23 sizeOf23 M7 rfl rfl) (RV.tmp (v := (vi 0)) rfl RV.nil)) ?_
 have h_39 := ((((((((((h_28.up J7).drop rfl).up J7).drop rfl).up J6).up J6).up J6).up J6).up J6).up J6).up J6
 exact ⟨_, _, _, rfl, h_39⟩

theorem c_SetT {w00 : World} {L : List Ent} (id : Bool) (ob mp : Nat) (ms df : List UInt8) (hms : ms.length = 32) (da : Option Addr) (dn dc u : Nat) (hdf : df.length = 32 * dn) (la : Option Addr) (lc : Nat) (lx : List Value) (lg : Lg) (hu : u ≤ 500000) (hlg : lg.length ≤ 500000) (bm : Nat) (ma : Option Addr) (mn : Nat) (hm : mn ≤ 100) (hm1 : 1 ≤ mn) (p : Nat) (hw : p + 8192 ≤ 128 * mn) (hp : p % 128 = 0) (l : List UInt8) (hl : l.length = 128 * mn) (pg : Nat) (h : pg < 128) (lf : List UInt8) (hlf : lf.length = 32) (hwn : wnB mn (UInt64.ofNat p) = true) (w : World) (h_0 : HP w00 w (Ent.blk ob .nw 106 [(1, [(.bool id)]), (32, ms.map vu8), (1, [(.slice da dn dc)]), (1, [(vi ((u : Nat) : Int))]), (1, [(.map (some mp))]), (1, [(.slice la lg.length lc)])] :: Ent.row la lg.length lc 102 67 lx :: Ent.obj mp .nw (.map (mArr lg) lg.length) :: Ent.pin (sblks lx) (fun w => Lgs w lx lg) :: Ent.view da (df.map vu8) :: Ent.blk bm .nw 112 [(1, [(.slice ma mn mn)])] :: Ent.row ma mn mn 76 128 (l.map vu8) :: L)) :
  Cs Tryz.prog 31 [(.pointer (some ⟨ob, 0, none⟩)), (.pointer (some ⟨bm, 0, none⟩)), (vu64 (UInt64.ofNat p)), (vi ((pg : Nat) : Int)), (.agg ⟨lf.map vu8⟩)].toArray w (fun v w1 => ∃ la' lc' lx', v = (.tuple [(.agg ⟨((upS id df dn l p pg u lg lf 7).2.2).map vu8⟩), (vi 0)].toArray) ∧ HP w00 w1 (Ent.blk ob .nw 106 [(1, [(.bool id)]), (32, ms.map vu8), (1, [(.slice da dn dc)]), (1, [(vi (((upS id df dn l p pg u lg lf 7).1 : Nat) : Int))]), (1, [(.map (some mp))]), (1, [(.slice la' ((upS id df dn l p pg u lg lf 7).2.1.length) lc')])] :: Ent.row la' ((upS id df dn l p pg u lg lf 7).2.1.length) lc' 102 67 lx' :: Ent.obj mp .nw (.map (mArr ((upS id df dn l p pg u lg lf 7).2.1)) ((upS id df dn l p pg u lg lf 7).2.1.length)) :: Ent.pin (sblks lx') (fun w => Lgs w lx' ((upS id df dn l p pg u lg lf 7).2.1)) :: Ent.view da (df.map vu8) :: Ent.blk bm .nw 112 [(1, [(.slice ma mn mn)])] :: Ent.row ma mn mn 76 128 ((upM l p pg (upD id df dn l p pg u lg lf) 7).map vu8) :: L)) := by
 refine Cs.of (n := 31) (args := [(pO ob 0), (pO bm 0), (vu64 (UInt64.ofNat p)), (vn pg), (.agg ⟨lf.map vu8⟩)]) Tryz.func31 rfl rfl rfl ?_
 refine WP.seq (WP.reg ?_)
 refine WL.box (segs := [(1, [(pO bm 0)])]) h_0 rfl rfl (sC sV sN) rfl (fun b_1 w_2 h_3 => ?_)
 refine WL.box (segs := [(1, [(vu64 (UInt64.ofNat p))])]) h_3 rfl rfl (sC sV sN) rfl (fun b_4 w_5 h_6 => ?_)
 refine WL.box (segs := [(32, lf.map vu8)]) h_6 rfl rfl (sC (s8 hlf) sN) rfl (fun b_7 w_8 h_9 => ?_)
 refine WL.alloc (segs := [(32, (zB 32).map vu8)]) h_9 (zv typeInfo23 rfl) rfl (sC (s8 lr) sN) rfl (fun b_10 w_11 h_12 => ?_)
 refine qA (vi 0) rfl rfl ?_
 refine WL.nil (thn_n (WP.seq (WP.seq (WP.reg ?_))))
 refine qM (pO ob 0) rfl rfl (qV rfl (R.load1 rfl isAgg32 (h_12.ok _ M3) Sg.h) (qV rfl (R.load1 rfl isAgg26 (h_12.ok _ M2) Sg.h) (qM (vn pg) rfl rfl ?_)))
 refine WL.call Tryz.call46 rfl rfl (c_askG_t id ob mp ms hms da dn dc u la lg.length lc bm ma mn (by omega) (by omega) pg (by omega) (UInt64.ofNat p) hwn _ (h_12.argR M4) (h_12.argR M9)) rfl ?_
 rintro _ w_14 ⟨rfl, hc_13⟩
 have h_15 := h_12.same hc_13
 refine qA (vi 0) rfl rfl ?_
 refine WL.nil (thn_n (WP.seq (WP.reg ?_)))
 refine qM (vi 0) rfl rfl (qV rfl (R.bin rfl rfl (bi_neq (r := false) (by decide))) ?_)
 refine WL.nil (thn_n ?_)
 refine WP.condF rfl ?_
 refine WP.skip (thn_n (WP.seq (WP.reg ?_)))
 refine qV rfl (R.makeFuncL (fi := []) (ca := [(pO b_1 0), (pO b_4 0)]) rfl rfl) (qA (Value.func (Fn.func 59) [].toArray [(Value.pointer (some ⟨b_1, 0, none⟩)), (Value.pointer (some ⟨b_4, 0, none⟩))].toArray) rfl rfl ?_)
 refine WL.nil (thn_n (WP.seq (WP.reg ?_)))
 refine qM (pO ob 0) rfl rfl (qV rfl (R.load1 rfl isAgg32 (h_15.ok _ M3) Sg.h) (qV rfl (R.load1 rfl isAgg26 (h_15.ok _ M2) Sg.h) (qM (vn pg) rfl rfl (qV rfl (R.loadA [] [(32, lf.map vu8)] [] (cs := lf.map vu8) rfl isAgg23 sizeOf23 (h_15.ok _ M1) rfl rfl rfl rfl) (qM (Value.func (Fn.func 59) [].toArray [(Value.pointer (some ⟨b_1, 0, none⟩)), (Value.pointer (some ⟨b_4, 0, none⟩))].toArray) rfl rfl ?_)))))
 have h_29 := (((((((((((((h_15.up J8).up J8).up J8).up J8).up J8).up J7).up J8).up J10).up J10).up J8).up J8).up J8).up J8).up J8
 have h32_w_33 := Lgs.ok32 (h_29.ok _ M3).1
 refine WL.call Tryz.call57 rfl rfl (c_upw id ob mp ms df hms da dn dc u hdf la lc lx lg hu hlg bm ma mn (by omega) (by omega) p (by omega) (by omega) l hl pg (by omega) lf hlf b_1 b_4 _ h_29) rfl ?_
 rintro _ w_33 ⟨la_30, lc_31, lx_32, rfl, h_34⟩
 refine WL.storeA [] [(32, (zB 32).map vu8)] [(32, ((upS id df dn l p pg u lg lf 7).2.2).map vu8)] [] h_34 rfl rfl sizeOf23 Y9 (by decide) rfl rfl rfl rfl rfl rfl (sC (s8 (upS_len hdf h32_w_33 hlf 7)) sN) (fun w_35 h_36 => ?_)
 refine qA (vi 0) rfl rfl ?_
 refine WL.nil (thn_n (WP.ret ?_))
 refine ret_of results31 (RV.cell rfl (h_36.loadA (cs := ((upS id df dn l p pg u lg lf 7).2.2).map vu8) isAgg23 sizeOf23 M9 rfl rfl) (RV.tmp (v := (vi 0)) rfl RV.nil)) ?_
 have h_51 := ((((((((((((((h_36.up J7).drop rfl).up J7).drop rfl).up J7).drop rfl).up J7).drop rfl).up J6).up J6).up J6).up J6).up J6).up J6).up J6
 exact ⟨_, _, _, rfl, h_51⟩

theorem c_ChkT {w00 : World} {L : List Ent} (id : Bool) (ob mp : Nat) (ms df : List UInt8) (hms : ms.length = 32) (da : Option Addr) (dn dc u : Nat) (hdf : df.length = 32 * dn) (la : Option Addr) (lc : Nat) (lx : List Value) (lg : Lg) (hu : u ≤ 500000) (hlg : lg.length ≤ 500000) (bm : Nat) (ma : Option Addr) (mn : Nat) (hm : mn ≤ 100) (hm1 : 1 ≤ mn) (p : Nat) (hw : p + 8192 ≤ 128 * mn) (hp : p % 128 = 0) (l : List UInt8) (hl : l.length = 128 * mn) (pg : Nat) (h : pg < 128) (lf : List UInt8) (hlf : lf.length = 32) (hwn : wnB mn (UInt64.ofNat p) = true) (rt : List UInt8) (hrt : rt.length = 32) (w : World) (h_0 : HP w00 w (Ent.blk ob .nw 106 [(1, [(.bool id)]), (32, ms.map vu8), (1, [(.slice da dn dc)]), (1, [(vi ((u : Nat) : Int))]), (1, [(.map (some mp))]), (1, [(.slice la lg.length lc)])] :: Ent.row la lg.length lc 102 67 lx :: Ent.obj mp .nw (.map (mArr lg) lg.length) :: Ent.pin (sblks lx) (fun w => Lgs w lx lg) :: Ent.view da (df.map vu8) :: Ent.blk bm .nw 112 [(1, [(.slice ma mn mn)])] :: Ent.row ma mn mn 76 128 (l.map vu8) :: L)) :
  Cs Tryz.prog 30 [(.pointer (some ⟨ob, 0, none⟩)), (.pointer (some ⟨bm, 0, none⟩)), (vu64 (UInt64.ofNat p)), (.agg ⟨rt.map vu8⟩), (vi ((pg : Nat) : Int)), (.agg ⟨lf.map vu8⟩)].toArray w (fun v w1 => ∃ la' lc' lx', v = (.tuple [(.bool (decide ((upS id df dn l p pg u lg lf 7).2.2 = rt))), (vi 0)].toArray) ∧ HP w00 w1 (Ent.blk ob .nw 106 [(1, [(.bool id)]), (32, ms.map vu8), (1, [(.slice da dn dc)]), (1, [(vi (((upS id df dn l p pg u lg lf 7).1 : Nat) : Int))]), (1, [(.map (some mp))]), (1, [(.slice la' ((upS id df dn l p pg u lg lf 7).2.1.length) lc')])] :: Ent.row la' ((upS id df dn l p pg u lg lf 7).2.1.length) lc' 102 67 lx' :: Ent.obj mp .nw (.map (mArr ((upS id df dn l p pg u lg lf 7).2.1)) ((upS id df dn l p pg u lg lf 7).2.1.length)) :: Ent.pin (sblks lx') (fun w => Lgs w lx' ((upS id df dn l p pg u lg lf 7).2.1)) :: Ent.view da (df.map vu8) :: Ent.blk bm .nw 112 [(1, [(.slice ma mn mn)])] :: Ent.row ma mn mn 76 128 (l.map vu8) :: L)) := by
 refine Cs.of (n := 33) (args := [(pO ob 0), (pO bm 0), (vu64 (UInt64.ofNat p)), (.agg ⟨rt.map vu8⟩), (vn pg), (.agg ⟨lf.map vu8⟩)]) Tryz.func30 rfl rfl rfl ?_
 refine WP.seq (WP.reg ?_)
 refine WL.box (segs := [(32, rt.map vu8)]) h_0 rfl rfl (sC (s8 hrt) sN) rfl (fun b_1 w_2 h_3 => ?_)
 refine WL.box (segs := [(32, lf.map vu8)]) h_3 rfl rfl (sC (s8 hlf) sN) rfl (fun b_4 w_5 h_6 => ?_)
 refine qA (.bool false) rfl rfl (qA (vi 0) rfl rfl ?_)
 refine WL.nil (thn_n (WP.seq (WP.reg ?_)))
 refine qM (pO ob 0) rfl rfl (qM (pO bm 0) rfl rfl (qM (vu64 (UInt64.ofNat p)) rfl rfl (qM (vn pg) rfl rfl (qV rfl (R.loadA [] [(32, lf.map vu8)] [] (cs := lf.map vu8) rfl isAgg23 sizeOf23 (h_6.ok _ M0) rfl rfl rfl rfl) ?_))))
 have h_18 := (((((((((((h_6.up J6).up J6).up J6).up J6).up J6).up J8).up J8).up J6).up J6).up J6).up J6).up J6
 have h32_xw_19 := Lgs.ok32 (h_18.ok _ M3).1
 refine WL.call Tryz.call29 rfl rfl (c_UpT id ob mp ms df hms da dn dc u hdf la lc lx lg hu hlg bm ma mn (by omega) (by omega) p (by omega) (by omega) l hl pg (by omega) lf hlf hwn _ h_18) rfl ?_
 rintro _ w_23 ⟨la_20, lc_21, lx_22, rfl, h_24⟩
 refine qM (.tuple [(.agg ⟨((upS id df dn l p pg u lg lf 7).2.2).map vu8⟩), (vi 0)].toArray) rfl rfl (qV rfl (R.extract rfl rfl) (qV rfl (R.extract rfl rfl) ?_))
 refine WL.alloc (segs := [(32, (zB 32).map vu8)]) h_24 (zv typeInfo23 rfl) rfl (sC (s8 lr) sN) rfl (fun b_25 w_26 h_27 => ?_)
 refine WL.storeA [] [(32, (zB 32).map vu8)] [(32, ((upS id df dn l p pg u lg lf 7).2.2).map vu8)] [] h_27 rfl rfl sizeOf23 At.h (by decide) rfl rfl rfl rfl rfl rfl (sC (s8 (upS_len hdf h32_xw_19 hlf 7)) sN) (fun w_28 h_29 => ?_)
 refine qA (vi 0) rfl rfl ?_
 refine WL.nil (thn_n (WP.seq (WP.reg ?_)))
 refine qM (vi 0) rfl rfl (qV rfl (R.bin rfl rfl (bi_eql (r := true) (by decide))) (qM (.bool true) rfl rfl ?_))
 refine WL.want rfl rfl ?_
 refine qV rfl (R.loadA [] [(32, ((upS id df dn l p pg u lg lf 7).2.2).map vu8)] [] (cs := ((upS id df dn l p pg u lg lf 7).2.2).map vu8) rfl isAgg23 sizeOf23 (h_29.ok _ M0) rfl rfl rfl rfl) ?_
 refine WL.want rfl rfl ?_
 refine qV rfl (R.loadA [] [(32, rt.map vu8)] [] (cs := rt.map vu8) rfl isAgg23 sizeOf23 (h_29.ok _ M9) rfl rfl rfl rfl) ?_
 refine WL.want rfl rfl ?_
 refine qV rfl (R.eqA (xs := ((upS id df dn l p pg u lg lf 7).2.2).map vu8) (ys := rt.map vu8) (r := decide ((upS id df dn l p pg u lg lf 7).2.2 = rt)) rfl rfl eqGuardType23 kt23 (by decide) ag23 (Typ.u8s underlying23 ce23 underlying5 ce5 (upS_len hdf h32_xw_19 hlf 7)) (Typ.u8s underlying23 ce23 underlying5 ce5 hrt) (map_inj_u8.trans (decT _))) (qV rfl (R.pickT (v := (.bool (decide ((upS id df dn l p pg u lg lf 7).2.2 = rt)))) rfl rfl) (qM (vi 0) rfl rfl (qA (.bool (decide ((upS id df dn l p pg u lg lf 7).2.2 = rt))) rfl rfl (qA (vi 0) rfl rfl ?_))))
 refine WL.nil (thn_n (WP.ret ?_))
 refine ret_of results30 (RV.tmp (v := (.bool (decide ((upS id df dn l p pg u lg lf 7).2.2 = rt)))) rfl (RV.tmp (v := (vi 0)) rfl RV.nil)) ?_
 have h_41 := (((((((((((h_29.drop rfl).up J7).drop rfl).up J7).drop rfl).up J6).up J6).up J6).up J6).up J6).up J6).up J6
 exact ⟨_, _, _, rfl, h_41⟩

theorem c_SetTA {w00 : World} {L : List Ent} (id : Bool) (ob mp : Nat) (ms df : List UInt8) (hms : ms.length = 32) (da : Option Addr) (dn dc u : Nat) (hdf : df.length = 32 * dn) (la : Option Addr) (lc : Nat) (lx : List Value) (lg : Lg) (hu : u ≤ 400000) (hlg : lg.length ≤ 400000) (bm : Nat) (ma : Option Addr) (mn : Nat) (hm : mn ≤ 100) (hm1 : 1 ≤ mn) (p : Nat) (hw : p + 8192 ≤ 128 * mn) (hp : p % 128 = 0) (l : List UInt8) (hl : l.length = 128 * mn) (pg : Nat) (h : pg < 128) (lf : List UInt8) (hlf : lf.length = 32) (hwn : wnB mn (UInt64.ofNat p) = true) (w : World) (h_0 : HP w00 w (Ent.blk ob .nw 106 [(1, [(.bool id)]), (32, ms.map vu8), (1, [(.slice da dn dc)]), (1, [(vi (((upS id df dn l p pg u lg lf 7).1 : Nat) : Int))]), (1, [(.map (some mp))]), (1, [(.slice la ((upS id df dn l p pg u lg lf 7).2.1.length) lc)])] :: Ent.row la ((upS id df dn l p pg u lg lf 7).2.1.length) lc 102 67 lx :: Ent.obj mp .nw (.map (mArr ((upS id df dn l p pg u lg lf 7).2.1)) ((upS id df dn l p pg u lg lf 7).2.1.length)) :: Ent.pin (sblks lx) (fun w => Lgs w lx ((upS id df dn l p pg u lg lf 7).2.1)) :: Ent.view da (df.map vu8) :: Ent.blk bm .nw 112 [(1, [(.slice ma mn mn)])] :: Ent.row ma mn mn 76 128 (l.map vu8) :: L)) : Cs Tryz.prog 31 [(.pointer (some ⟨ob, 0, none⟩)), (.pointer (some ⟨bm, 0, none⟩)), (vu64 (UInt64.ofNat p)), (vi ((pg : Nat) : Int)), (.agg ⟨lf.map vu8⟩)].toArray w (fun v w1 => ∃ la' lc' lx', v = (.tuple [(.agg ⟨((upS id df dn l p pg u lg lf 7).2.2).map vu8⟩), (vi 0)].toArray) ∧ HP w00 w1 (Ent.blk ob .nw 106 [(1, [(.bool id)]), (32, ms.map vu8), (1, [(.slice da dn dc)]), (1, [(vi (((upS id df dn l p pg u lg lf 7).1 : Nat) : Int))]), (1, [(.map (some mp))]), (1, [(.slice la' ((upS id df dn l p pg u lg lf 7).2.1.length) lc')])] :: Ent.row la' ((upS id df dn l p pg u lg lf 7).2.1.length) lc' 102 67 lx' :: Ent.obj mp .nw (.map (mArr ((upS id df dn l p pg u lg lf 7).2.1)) ((upS id df dn l p pg u lg lf 7).2.1.length)) :: Ent.pin (sblks lx') (fun w => Lgs w lx' ((upS id df dn l p pg u lg lf 7).2.1)) :: Ent.view da (df.map vu8) :: Ent.blk bm .nw 112 [(1, [(.slice ma mn mn)])] :: Ent.row ma mn mn 76 128 ((upM l p pg (upD id df dn l p pg u lg lf) 7).map vu8) :: L)) := by
 have b1 := upS_u (id := id) (df := df) (dn := dn) (l := l) (p := p) (pg := pg) (u := u) (lg := lg) (lf := lf) 7
 have b2 := upS_l (id := id) (df := df) (dn := dn) (l := l) (p := p) (pg := pg) (u := u) (lg := lg) (lf := lf) 7
 refine (c_SetT id ob mp ms df hms da dn dc _ hdf la lc lx _ (by omega) (by omega) bm ma mn hm hm1 p hw hp l hl pg h lf hlf hwn  w h_0).mono fun v w1 hh => ?_
 obtain ⟨la', lc', lx', rfl, hh⟩ := hh
 have e7 := upS_again (id := id) (df := df) (dn := dn) (l := l) (p := p) (pg := pg) (u := u) (lg := lg) (lf := lf) (Nat.le_refl 7)
 rw [e7] at hh
 refine ⟨la', lc', lx', by rw [e7], ?_⟩
 rw [show upM l p pg (upD id df dn l p pg u lg lf) 7 = upM l p pg (upD id df dn l p pg (upS id df dn l p pg u lg lf 7).1 (upS id df dn l p pg u lg lf 7).2.1 lf) 7 from (upM_ext fun j hj => by unfold upD; rw [upS_again (by omega : j ≤ 7)]).symm]; exact hh

theorem c_ChkTA {w00 : World} {L : List Ent} (id : Bool) (ob mp : Nat) (ms df : List UInt8) (hms : ms.length = 32) (da : Option Addr) (dn dc u : Nat) (hdf : df.length = 32 * dn) (la : Option Addr) (lc : Nat) (lx : List Value) (lg : Lg) (hu : u ≤ 400000) (hlg : lg.length ≤ 400000) (bm : Nat) (ma : Option Addr) (mn : Nat) (hm : mn ≤ 100) (hm1 : 1 ≤ mn) (p : Nat) (hw : p + 8192 ≤ 128 * mn) (hp : p % 128 = 0) (l : List UInt8) (hl : l.length = 128 * mn) (pg : Nat) (h : pg < 128) (lf : List UInt8) (hlf : lf.length = 32) (hwn : wnB mn (UInt64.ofNat p) = true) (rt : List UInt8) (hrt : rt.length = 32) (w : World) (h_0 : HP w00 w (Ent.blk ob .nw 106 [(1, [(.bool id)]), (32, ms.map vu8), (1, [(.slice da dn dc)]), (1, [(vi (((upS id df dn l p pg u lg lf 7).1 : Nat) : Int))]), (1, [(.map (some mp))]), (1, [(.slice la ((upS id df dn l p pg u lg lf 7).2.1.length) lc)])] :: Ent.row la ((upS id df dn l p pg u lg lf 7).2.1.length) lc 102 67 lx :: Ent.obj mp .nw (.map (mArr ((upS id df dn l p pg u lg lf 7).2.1)) ((upS id df dn l p pg u lg lf 7).2.1.length)) :: Ent.pin (sblks lx) (fun w => Lgs w lx ((upS id df dn l p pg u lg lf 7).2.1)) :: Ent.view da (df.map vu8) :: Ent.blk bm .nw 112 [(1, [(.slice ma mn mn)])] :: Ent.row ma mn mn 76 128 (l.map vu8) :: L)) : Cs Tryz.prog 30 [(.pointer (some ⟨ob, 0, none⟩)), (.pointer (some ⟨bm, 0, none⟩)), (vu64 (UInt64.ofNat p)), (.agg ⟨rt.map vu8⟩), (vi ((pg : Nat) : Int)), (.agg ⟨lf.map vu8⟩)].toArray w (fun v w1 => ∃ la' lc' lx', v = (.tuple [(.bool (decide ((upS id df dn l p pg u lg lf 7).2.2 = rt))), (vi 0)].toArray) ∧ HP w00 w1 (Ent.blk ob .nw 106 [(1, [(.bool id)]), (32, ms.map vu8), (1, [(.slice da dn dc)]), (1, [(vi (((upS id df dn l p pg u lg lf 7).1 : Nat) : Int))]), (1, [(.map (some mp))]), (1, [(.slice la' ((upS id df dn l p pg u lg lf 7).2.1.length) lc')])] :: Ent.row la' ((upS id df dn l p pg u lg lf 7).2.1.length) lc' 102 67 lx' :: Ent.obj mp .nw (.map (mArr ((upS id df dn l p pg u lg lf 7).2.1)) ((upS id df dn l p pg u lg lf 7).2.1.length)) :: Ent.pin (sblks lx') (fun w => Lgs w lx' ((upS id df dn l p pg u lg lf 7).2.1)) :: Ent.view da (df.map vu8) :: Ent.blk bm .nw 112 [(1, [(.slice ma mn mn)])] :: Ent.row ma mn mn 76 128 (l.map vu8) :: L)) := by
 have b1 := upS_u (id := id) (df := df) (dn := dn) (l := l) (p := p) (pg := pg) (u := u) (lg := lg) (lf := lf) 7
 have b2 := upS_l (id := id) (df := df) (dn := dn) (l := l) (p := p) (pg := pg) (u := u) (lg := lg) (lf := lf) 7
 refine (c_ChkT id ob mp ms df hms da dn dc _ hdf la lc lx _ (by omega) (by omega) bm ma mn hm hm1 p hw hp l hl pg h lf hlf hwn rt hrt w h_0).mono fun v w1 hh => ?_
 obtain ⟨la', lc', lx', rfl, hh⟩ := hh
 have e7 := upS_again (id := id) (df := df) (dn := dn) (l := l) (p := p) (pg := pg) (u := u) (lg := lg) (lf := lf) (Nat.le_refl 7)
 rw [e7] at hh
 refine ⟨la', lc', lx', by rw [e7], ?_⟩
 exact hh

theorem c_UpW (id : Bool) (ob mp : Nat) (ms : List UInt8) (hms : ms.length = 32) (da : Option Addr) (dn dc u : Nat) (la : Option Addr) (ln lc : Nat) (bm : Nat) (ma : Option Addr) (mn : Nat) (hm : mn ≤ 100) (hm1 : 1 ≤ mn) (pg : Nat) (h : pg < 128) (nd : UInt64) (hwn : wnB mn nd = false) (lf : List UInt8) (hlf : lf.length = 32) (w : World) (hcb : (Ent.blk ob .ro 106 [(1, [(.bool id)]), (32, ms.map vu8), (1, [(.slice da dn dc)]), (1, [(vi ((u : Nat) : Int))]), (1, [(.map (some mp))]), (1, [(.slice la ln lc)])]).ok w.heap.size w) (hcm : (Ent.blk bm .ro 112 [(1, [(.slice ma mn mn)])]).ok w.heap.size w) :
  Cs Tryz.prog 29 [(.pointer (some ⟨ob, 0, none⟩)), (.pointer (some ⟨bm, 0, none⟩)), (vu64 nd), (vi ((pg : Nat) : Int)), (.agg ⟨lf.map vu8⟩)].toArray w (fun v w1 => v = (.tuple [(.agg ⟨(List.replicate 32 (0 : UInt8)).map vu8⟩), (vi 2)].toArray) ∧ Chg w w1 []) := by
 refine Cs.of (n := 28) (args := [(pO ob 0), (pO bm 0), (vu64 nd), (vn pg), (.agg ⟨lf.map vu8⟩)]) Tryz.func29 rfl rfl rfl ?_
 have h_0 := HP.init w
 have h_01 := h_0.oldV hcb rfl (by simp [Ent.mut])
 have h_00 := h_01.oldV hcm rfl (by simp [Ent.mut])
 refine WP.seq (WP.reg ?_)
 refine WL.box (segs := [(32, lf.map vu8)]) h_00 rfl rfl (sC (s8 hlf) sN) rfl (fun b_1 w_2 h_3 => ?_)
 refine WL.alloc (segs := [(32, (zB 32).map vu8)]) h_3 (zv typeInfo23 rfl) rfl (sC (s8 lr) sN) rfl (fun b_4 w_5 h_6 => ?_)
 refine qA (vi 0) rfl rfl ?_
 refine WL.nil (thn_n (WP.seq (WP.seq (WP.reg ?_))))
 refine qM (pO ob 0) rfl rfl (qM (pO bm 0) rfl rfl (qM (vu64 nd) rfl rfl (qM (vn pg) rfl rfl ?_)))
 refine WL.call Tryz.call46 rfl rfl (c_askG_w id ob mp ms hms da dn dc u la ln lc bm ma mn (by omega) (by omega) pg (by omega) nd hwn _ (h_6.argR M3) (h_6.argR M2)) rfl ?_
 rintro _ w_8 ⟨rfl, hc_7⟩
 have h_9 := h_6.same hc_7
 refine qA (vi 2) rfl rfl ?_
 refine WL.nil (thn_n (WP.seq (WP.reg ?_)))
 refine qM (vi 2) rfl rfl (qV rfl (R.bin rfl rfl (bi_neq (r := true) (by decide))) ?_)
 refine WL.nil (thn_n ?_)
 refine WP.condT rfl ?_
 refine WP.seq (WP.reg ?_)
 refine qV rfl (R.buildA (vs := []) (cs := (zB 32).map vu8) underlying23 sizeOf5 (zv typeInfo23 rfl) rfl rfl) (qM (vi 2) rfl rfl ?_)
 refine WL.storeA [] [(32, (zB 32).map vu8)] [(32, (zB 32).map vu8)] [] h_9 rfl rfl sizeOf23 At.h (by decide) rfl rfl rfl rfl rfl rfl (sC (s8 lr) sN) (fun w_10 h_11 => ?_)
 refine qA (vi 2) rfl rfl ?_
 refine WL.nil (thn_n (WP.ret (thn_r ?_)))
 refine ret_of results29 (RV.cell rfl (h_11.loadA (cs := (zB 32).map vu8) isAgg23 sizeOf23 M0 rfl rfl) (RV.tmp (v := (vi 2)) rfl RV.nil)) ?_
 exact ⟨rfl, h_11.chgS⟩

theorem c_SetW (id : Bool) (ob mp : Nat) (ms : List UInt8) (hms : ms.length = 32) (da : Option Addr) (dn dc u : Nat) (la : Option Addr) (ln lc : Nat) (bm : Nat) (ma : Option Addr) (mn : Nat) (hm : mn ≤ 100) (hm1 : 1 ≤ mn) (pg : Nat) (h : pg < 128) (nd : UInt64) (hwn : wnB mn nd = false) (lf : List UInt8) (hlf : lf.length = 32) (w : World) (hcb : (Ent.blk ob .ro 106 [(1, [(.bool id)]), (32, ms.map vu8), (1, [(.slice da dn dc)]), (1, [(vi ((u : Nat) : Int))]), (1, [(.map (some mp))]), (1, [(.slice la ln lc)])]).ok w.heap.size w) (hcm : (Ent.blk bm .ro 112 [(1, [(.slice ma mn mn)])]).ok w.heap.size w) :
  Cs Tryz.prog 31 [(.pointer (some ⟨ob, 0, none⟩)), (.pointer (some ⟨bm, 0, none⟩)), (vu64 nd), (vi ((pg : Nat) : Int)), (.agg ⟨lf.map vu8⟩)].toArray w (fun v w1 => v = (.tuple [(.agg ⟨(List.replicate 32 (0 : UInt8)).map vu8⟩), (vi 2)].toArray) ∧ Chg w w1 []) := by
 refine Cs.of (n := 31) (args := [(pO ob 0), (pO bm 0), (vu64 nd), (vn pg), (.agg ⟨lf.map vu8⟩)]) Tryz.func31 rfl rfl rfl ?_
 have h_0 := HP.init w
 have h_01 := h_0.oldV hcb rfl (by simp [Ent.mut])
 have h_00 := h_01.oldV hcm rfl (by simp [Ent.mut])
 refine WP.seq (WP.reg ?_)
 refine WL.box (segs := [(1, [(pO bm 0)])]) h_00 rfl rfl (sC sV sN) rfl (fun b_1 w_2 h_3 => ?_)
 refine WL.box (segs := [(1, [(vu64 nd)])]) h_3 rfl rfl (sC sV sN) rfl (fun b_4 w_5 h_6 => ?_)
 refine WL.box (segs := [(32, lf.map vu8)]) h_6 rfl rfl (sC (s8 hlf) sN) rfl (fun b_7 w_8 h_9 => ?_)
 refine WL.alloc (segs := [(32, (zB 32).map vu8)]) h_9 (zv typeInfo23 rfl) rfl (sC (s8 lr) sN) rfl (fun b_10 w_11 h_12 => ?_)
 refine qA (vi 0) rfl rfl ?_
 refine WL.nil (thn_n (WP.seq (WP.seq (WP.reg ?_))))
 refine qM (pO ob 0) rfl rfl (qV rfl (R.load1 rfl isAgg32 (h_12.ok _ M3) Sg.h) (qV rfl (R.load1 rfl isAgg26 (h_12.ok _ M2) Sg.h) (qM (vn pg) rfl rfl ?_)))
 refine WL.call Tryz.call46 rfl rfl (c_askG_w id ob mp ms hms da dn dc u la ln lc bm ma mn (by omega) (by omega) pg (by omega) nd hwn _ (h_12.argR M5) (h_12.argR M4)) rfl ?_
 rintro _ w_14 ⟨rfl, hc_13⟩
 have h_15 := h_12.same hc_13
 refine qA (vi 2) rfl rfl ?_
 refine WL.nil (thn_n (WP.seq (WP.reg ?_)))
 refine qM (vi 2) rfl rfl (qV rfl (R.bin rfl rfl (bi_neq (r := true) (by decide))) ?_)
 refine WL.nil (thn_n ?_)
 refine WP.condT rfl ?_
 refine WP.seq (WP.reg ?_)
 refine qV rfl (R.buildA (vs := []) (cs := (zB 32).map vu8) underlying23 sizeOf5 (zv typeInfo23 rfl) rfl rfl) (qM (vi 2) rfl rfl ?_)
 refine WL.storeA [] [(32, (zB 32).map vu8)] [(32, (zB 32).map vu8)] [] h_15 rfl rfl sizeOf23 At.h (by decide) rfl rfl rfl rfl rfl rfl (sC (s8 lr) sN) (fun w_16 h_17 => ?_)
 refine qA (vi 2) rfl rfl ?_
 refine WL.nil (thn_n (WP.ret (thn_r ?_)))
 refine ret_of results31 (RV.cell rfl (h_17.loadA (cs := (zB 32).map vu8) isAgg23 sizeOf23 M0 rfl rfl) (RV.tmp (v := (vi 2)) rfl RV.nil)) ?_
 exact ⟨rfl, h_17.chgS⟩

theorem c_ChkW (id : Bool) (ob mp : Nat) (ms : List UInt8) (hms : ms.length = 32) (da : Option Addr) (dn dc u : Nat) (la : Option Addr) (ln lc : Nat) (bm : Nat) (ma : Option Addr) (mn : Nat) (hm : mn ≤ 100) (hm1 : 1 ≤ mn) (pg : Nat) (h : pg < 128) (nd : UInt64) (hwn : wnB mn nd = false) (lf : List UInt8) (hlf : lf.length = 32) (rt : List UInt8) (hrt : rt.length = 32) (w : World) (hcb : (Ent.blk ob .ro 106 [(1, [(.bool id)]), (32, ms.map vu8), (1, [(.slice da dn dc)]), (1, [(vi ((u : Nat) : Int))]), (1, [(.map (some mp))]), (1, [(.slice la ln lc)])]).ok w.heap.size w) (hcm : (Ent.blk bm .ro 112 [(1, [(.slice ma mn mn)])]).ok w.heap.size w) :
  Cs Tryz.prog 30 [(.pointer (some ⟨ob, 0, none⟩)), (.pointer (some ⟨bm, 0, none⟩)), (vu64 nd), (.agg ⟨rt.map vu8⟩), (vi ((pg : Nat) : Int)), (.agg ⟨lf.map vu8⟩)].toArray w (fun v w1 => v = (.tuple [(.bool false), (vi 2)].toArray) ∧ Chg w w1 []) := by
 refine Cs.of (n := 33) (args := [(pO ob 0), (pO bm 0), (vu64 nd), (.agg ⟨rt.map vu8⟩), (vn pg), (.agg ⟨lf.map vu8⟩)]) Tryz.func30 rfl rfl rfl ?_
 have h_0 := HP.init w
 have h_01 := h_0.oldV hcb rfl (by simp [Ent.mut])
 have h_00 := h_01.oldV hcm rfl (by simp [Ent.mut])
 refine WP.seq (WP.reg ?_)
 refine WL.box (segs := [(32, rt.map vu8)]) h_00 rfl rfl (sC (s8 hrt) sN) rfl (fun b_1 w_2 h_3 => ?_)
 refine WL.box (segs := [(32, lf.map vu8)]) h_3 rfl rfl (sC (s8 hlf) sN) rfl (fun b_4 w_5 h_6 => ?_)
 refine qA (.bool false) rfl rfl (qA (vi 0) rfl rfl ?_)
 refine WL.nil (thn_n (WP.seq (WP.reg ?_)))
 refine qM (pO ob 0) rfl rfl (qM (pO bm 0) rfl rfl (qM (vu64 nd) rfl rfl (qM (vn pg) rfl rfl (qV rfl (R.loadA [] [(32, lf.map vu8)] [] (cs := lf.map vu8) rfl isAgg23 sizeOf23 (h_6.ok _ M0) rfl rfl rfl rfl) ?_))))
 refine WL.call Tryz.call29 rfl rfl (c_UpW id ob mp ms hms da dn dc u la ln lc bm ma mn (by omega) (by omega) pg (by omega) nd hwn lf hlf _ (h_6.argR M3) (h_6.argR M2)) rfl ?_
 rintro _ w_8 ⟨rfl, hc_7⟩
 have h_9 := h_6.same hc_7
 refine qM (.tuple [(.agg ⟨(zB 32).map vu8⟩), (vi 2)].toArray) rfl rfl (qV rfl (R.extract rfl rfl) (qV rfl (R.extract rfl rfl) ?_))
 refine WL.alloc (segs := [(32, (zB 32).map vu8)]) h_9 (zv typeInfo23 rfl) rfl (sC (s8 lr) sN) rfl (fun b_10 w_11 h_12 => ?_)
 refine WL.storeA [] [(32, (zB 32).map vu8)] [(32, (zB 32).map vu8)] [] h_12 rfl rfl sizeOf23 At.h (by decide) rfl rfl rfl rfl rfl rfl (sC (s8 lr) sN) (fun w_13 h_14 => ?_)
 refine qA (vi 2) rfl rfl ?_
 refine WL.nil (thn_n (WP.seq (WP.reg ?_)))
 refine qM (vi 2) rfl rfl (qV rfl (R.bin rfl rfl (bi_eql (r := false) (by decide))) (qM (.bool false) rfl rfl ?_))
 refine WL.skip rfl rfl rfl ?_
 refine WL.skip rfl rfl rfl ?_
 refine WL.skip rfl rfl rfl ?_
 refine qV rfl (R.pickF (v := (.bool false)) rfl rfl) (qM (vi 2) rfl rfl (qA (.bool false) rfl rfl (qA (vi 2) rfl rfl ?_)))
 refine WL.nil (thn_n (WP.ret ?_))
 refine ret_of results30 (RV.tmp (v := (.bool false)) rfl (RV.tmp (v := (vi 2)) rfl RV.nil)) ?_
 exact ⟨rfl, h_14.chgS⟩

theorem c_UpP (id : Bool) (ob mp : Nat) (ms : List UInt8) (hms : ms.length = 32) (da : Option Addr) (dn dc u : Nat) (la : Option Addr) (ln lc : Nat) (bm : Nat) (ma : Option Addr) (mn : Nat) (hm : mn ≤ 100) (hm1 : 1 ≤ mn) (pg : Int) (h : ¬ (0 ≤ pg ∧ pg < 128)) (nd : UInt64) (lf : List UInt8) (hlf : lf.length = 32) (w : World) (hcb : (Ent.blk ob .ro 106 [(1, [(.bool id)]), (32, ms.map vu8), (1, [(.slice da dn dc)]), (1, [(vi ((u : Nat) : Int))]), (1, [(.map (some mp))]), (1, [(.slice la ln lc)])]).ok w.heap.size w) (hcm : (Ent.blk bm .ro 112 [(1, [(.slice ma mn mn)])]).ok w.heap.size w) :
  Cs Tryz.prog 29 [(.pointer (some ⟨ob, 0, none⟩)), (.pointer (some ⟨bm, 0, none⟩)), (vu64 nd), (vi pg), (.agg ⟨lf.map vu8⟩)].toArray w (fun v w1 => v = (.tuple [(.agg ⟨(List.replicate 32 (0 : UInt8)).map vu8⟩), (vi 2)].toArray) ∧ Chg w w1 []) := by
 refine Cs.of (n := 28) (args := [(pO ob 0), (pO bm 0), (vu64 nd), (vi pg), (.agg ⟨lf.map vu8⟩)]) Tryz.func29 rfl rfl rfl ?_
 have h_0 := HP.init w
 have h_01 := h_0.oldV hcb rfl (by simp [Ent.mut])
 have h_00 := h_01.oldV hcm rfl (by simp [Ent.mut])
 refine WP.seq (WP.reg ?_)
 refine WL.box (segs := [(32, lf.map vu8)]) h_00 rfl rfl (sC (s8 hlf) sN) rfl (fun b_1 w_2 h_3 => ?_)
 refine WL.alloc (segs := [(32, (zB 32).map vu8)]) h_3 (zv typeInfo23 rfl) rfl (sC (s8 lr) sN) rfl (fun b_4 w_5 h_6 => ?_)
 refine qA (vi 0) rfl rfl ?_
 refine WL.nil (thn_n (WP.seq (WP.seq (WP.reg ?_))))
 refine qM (pO ob 0) rfl rfl (qM (pO bm 0) rfl rfl (qM (vu64 nd) rfl rfl (qM (vi pg) rfl rfl ?_)))
 refine WL.call Tryz.call46 rfl rfl (c_askG_p id ob mp ms hms da dn dc u la ln lc bm ma mn (by omega) (by omega) pg h nd _ (h_6.argR M3) (h_6.argR M2)) rfl ?_
 rintro _ w_8 ⟨rfl, hc_7⟩
 have h_9 := h_6.same hc_7
 refine qA (vi 2) rfl rfl ?_
 refine WL.nil (thn_n (WP.seq (WP.reg ?_)))
 refine qM (vi 2) rfl rfl (qV rfl (R.bin rfl rfl (bi_neq (r := true) (by decide))) ?_)
 refine WL.nil (thn_n ?_)
 refine WP.condT rfl ?_
 refine WP.seq (WP.reg ?_)
 refine qV rfl (R.buildA (vs := []) (cs := (zB 32).map vu8) underlying23 sizeOf5 (zv typeInfo23 rfl) rfl rfl) (qM (vi 2) rfl rfl ?_)
 refine WL.storeA [] [(32, (zB 32).map vu8)] [(32, (zB 32).map vu8)] [] h_9 rfl rfl sizeOf23 At.h (by decide) rfl rfl rfl rfl rfl rfl (sC (s8 lr) sN) (fun w_10 h_11 => ?_)
 refine qA (vi 2) rfl rfl ?_
 refine WL.nil (thn_n (WP.ret (thn_r ?_)))
 refine ret_of results29 (RV.cell rfl (h_11.loadA (cs := (zB 32).map vu8) isAgg23 sizeOf23 M0 rfl rfl) (RV.tmp (v := (vi 2)) rfl RV.nil)) ?_
 exact ⟨rfl, h_11.chgS⟩

theorem c_SetP (id : Bool) (ob mp : Nat) (ms : List UInt8) (hms : ms.length = 32) (da : Option Addr) (dn dc u : Nat) (la : Option Addr) (ln lc : Nat) (bm : Nat) (ma : Option Addr) (mn : Nat) (hm : mn ≤ 100) (hm1 : 1 ≤ mn) (pg : Int) (h : ¬ (0 ≤ pg ∧ pg < 128)) (nd : UInt64) (lf : List UInt8) (hlf : lf.length = 32) (w : World) (hcb : (Ent.blk ob .ro 106 [(1, [(.bool id)]), (32, ms.map vu8), (1, [(.slice da dn dc)]), (1, [(vi ((u : Nat) : Int))]), (1, [(.map (some mp))]), (1, [(.slice la ln lc)])]).ok w.heap.size w) (hcm : (Ent.blk bm .ro 112 [(1, [(.slice ma mn mn)])]).ok w.heap.size w) :
  Cs Tryz.prog 31 [(.pointer (some ⟨ob, 0, none⟩)), (.pointer (some ⟨bm, 0, none⟩)), (vu64 nd), (vi pg), (.agg ⟨lf.map vu8⟩)].toArray w (fun v w1 => v = (.tuple [(.agg ⟨(List.replicate 32 (0 : UInt8)).map vu8⟩), (vi 2)].toArray) ∧ Chg w w1 []) := by
 refine Cs.of (n := 31) (args := [(pO ob 0), (pO bm 0), (vu64 nd), (vi pg), (.agg ⟨lf.map vu8⟩)]) Tryz.func31 rfl rfl rfl ?_
 have h_0 := HP.init w
 have h_01 := h_0.oldV hcb rfl (by simp [Ent.mut])
 have h_00 := h_01.oldV hcm rfl (by simp [Ent.mut])
 refine WP.seq (WP.reg ?_)
 refine WL.box (segs := [(1, [(pO bm 0)])]) h_00 rfl rfl (sC sV sN) rfl (fun b_1 w_2 h_3 => ?_)
 refine WL.box (segs := [(1, [(vu64 nd)])]) h_3 rfl rfl (sC sV sN) rfl (fun b_4 w_5 h_6 => ?_)
 refine WL.box (segs := [(32, lf.map vu8)]) h_6 rfl rfl (sC (s8 hlf) sN) rfl (fun b_7 w_8 h_9 => ?_)
 refine WL.alloc (segs := [(32, (zB 32).map vu8)]) h_9 (zv typeInfo23 rfl) rfl (sC (s8 lr) sN) rfl (fun b_10 w_11 h_12 => ?_)
 refine qA (vi 0) rfl rfl ?_
 refine WL.nil (thn_n (WP.seq (WP.seq (WP.reg ?_))))
 refine qM (pO ob 0) rfl rfl (qV rfl (R.load1 rfl isAgg32 (h_12.ok _ M3) Sg.h) (qV rfl (R.load1 rfl isAgg26 (h_12.ok _ M2) Sg.h) (qM (vi pg) rfl rfl ?_)))
 refine WL.call Tryz.call46 rfl rfl (c_askG_p id ob mp ms hms da dn dc u la ln lc bm ma mn (by omega) (by omega) pg h nd _ (h_12.argR M5) (h_12.argR M4)) rfl ?_
 rintro _ w_14 ⟨rfl, hc_13⟩
 have h_15 := h_12.same hc_13
 refine qA (vi 2) rfl rfl ?_
 refine WL.nil (thn_n (WP.seq (WP.reg ?_)))
 refine qM (vi 2) rfl rfl (qV rfl (R.bin rfl rfl (bi_neq (r := true) (by decide))) ?_)
 refine WL.nil (thn_n ?_)
 refine WP.condT rfl ?_
 refine WP.seq (WP.reg ?_)
 refine qV rfl (R.buildA (vs := []) (cs := (zB 32).map vu8) underlying23 sizeOf5 (zv typeInfo23 rfl) rfl rfl) (qM (vi 2) rfl rfl ?_)
 refine WL.storeA [] [(32, (zB 32).map vu8)] [(32, (zB 32).map vu8)] [] h_15 rfl rfl sizeOf23 At.h (by decide) rfl rfl rfl rfl rfl rfl (sC (s8 lr) sN) (fun w_16 h_17 => ?_)
 refine qA (vi 2) rfl rfl ?_
 refine WL.nil (thn_n (WP.ret (thn_r ?_)))
 refine ret_of results31 (RV.cell rfl (h_17.loadA (cs := (zB 32).map vu8) isAgg23 sizeOf23 M0 rfl rfl) (RV.tmp (v := (vi 2)) rfl RV.nil)) ?_
 exact ⟨rfl, h_17.chgS⟩

theorem c_ChkP (id : Bool) (ob mp : Nat) (ms : List UInt8) (hms : ms.length = 32) (da : Option Addr) (dn dc u : Nat) (la : Option Addr) (ln lc : Nat) (bm : Nat) (ma : Option Addr) (mn : Nat) (hm : mn ≤ 100) (hm1 : 1 ≤ mn) (pg : Int) (h : ¬ (0 ≤ pg ∧ pg < 128)) (nd : UInt64) (lf : List UInt8) (hlf : lf.length = 32) (rt : List UInt8) (hrt : rt.length = 32) (w : World) (hcb : (Ent.blk ob .ro 106 [(1, [(.bool id)]), (32, ms.map vu8), (1, [(.slice da dn dc)]), (1, [(vi ((u : Nat) : Int))]), (1, [(.map (some mp))]), (1, [(.slice la ln lc)])]).ok w.heap.size w) (hcm : (Ent.blk bm .ro 112 [(1, [(.slice ma mn mn)])]).ok w.heap.size w) :
  Cs Tryz.prog 30 [(.pointer (some ⟨ob, 0, none⟩)), (.pointer (some ⟨bm, 0, none⟩)), (vu64 nd), (.agg ⟨rt.map vu8⟩), (vi pg), (.agg ⟨lf.map vu8⟩)].toArray w (fun v w1 => v = (.tuple [(.bool false), (vi 2)].toArray) ∧ Chg w w1 []) := by
 refine Cs.of (n := 33) (args := [(pO ob 0), (pO bm 0), (vu64 nd), (.agg ⟨rt.map vu8⟩), (vi pg), (.agg ⟨lf.map vu8⟩)]) Tryz.func30 rfl rfl rfl ?_
 have h_0 := HP.init w
 have h_01 := h_0.oldV hcb rfl (by simp [Ent.mut])
 have h_00 := h_01.oldV hcm rfl (by simp [Ent.mut])
 refine WP.seq (WP.reg ?_)
 refine WL.box (segs := [(32, rt.map vu8)]) h_00 rfl rfl (sC (s8 hrt) sN) rfl (fun b_1 w_2 h_3 => ?_)
 refine WL.box (segs := [(32, lf.map vu8)]) h_3 rfl rfl (sC (s8 hlf) sN) rfl (fun b_4 w_5 h_6 => ?_)
 refine qA (.bool false) rfl rfl (qA (vi 0) rfl rfl ?_)
 refine WL.nil (thn_n (WP.seq (WP.reg ?_)))
 refine qM (pO ob 0) rfl rfl (qM (pO bm 0) rfl rfl (qM (vu64 nd) rfl rfl (qM (vi pg) rfl rfl (qV rfl (R.loadA [] [(32, lf.map vu8)] [] (cs := lf.map vu8) rfl isAgg23 sizeOf23 (h_6.ok _ M0) rfl rfl rfl rfl) ?_))))
 refine WL.call Tryz.call29 rfl rfl (c_UpP id ob mp ms hms da dn dc u la ln lc bm ma mn (by omega) (by omega) pg h nd lf hlf _ (h_6.argR M3) (h_6.argR M2)) rfl ?_
 rintro _ w_8 ⟨rfl, hc_7⟩
 have h_9 := h_6.same hc_7
 refine qM (.tuple [(.agg ⟨(zB 32).map vu8⟩), (vi 2)].toArray) rfl rfl (qV rfl (R.extract rfl rfl) (qV rfl (R.extract rfl rfl) ?_))
 refine WL.alloc (segs := [(32, (zB 32).map vu8)]) h_9 (zv typeInfo23 rfl) rfl (sC (s8 lr) sN) rfl (fun b_10 w_11 h_12 => ?_)
 refine WL.storeA [] [(32, (zB 32).map vu8)] [(32, (zB 32).map vu8)] [] h_12 rfl rfl sizeOf23 At.h (by decide) rfl rfl rfl rfl rfl rfl (sC (s8 lr) sN) (fun w_13 h_14 => ?_)
 refine qA (vi 2) rfl rfl ?_
 refine WL.nil (thn_n (WP.seq (WP.reg ?_)))
 refine qM (vi 2) rfl rfl (qV rfl (R.bin rfl rfl (bi_eql (r := false) (by decide))) (qM (.bool false) rfl rfl ?_))
 refine WL.skip rfl rfl rfl ?_
 refine WL.skip rfl rfl rfl ?_
 refine WL.skip rfl rfl rfl ?_
 refine qV rfl (R.pickF (v := (.bool false)) rfl rfl) (qM (vi 2) rfl rfl (qA (.bool false) rfl rfl (qA (vi 2) rfl rfl ?_)))
 refine WL.nil (thn_n (WP.ret ?_))
 refine ret_of results30 (RV.tmp (v := (.bool false)) rfl (RV.tmp (v := (vi 2)) rfl RV.nil)) ?_
 exact ⟨rfl, h_14.chgS⟩
end Go.Proofs.YtbhllplbbkmndaaGreat

namespace Go.Proofs.YtbhllplbbkmndaaGreat
open Go.Proofs.Tryz
open Go.Vc Go.Orc Go.Sh Go.RowKit
set_option maxRecDepth 20000

theorem bsL_at {pg k : Nat} (h : k < 7) : ((bsL pg).map vi64)[k]? = some (vi (((128 + pg) / 2 ^ k ^^^ 1 : Nat) : Int)) := by
 match k, h with
 | 0, _ | 1, _ | 2, _ | 3, _ | 4, _ | 5, _ | 6, _ => rfl
theorem wayL_at {pg k : Nat} (h : k < 8) : ((wayL pg).map vi64)[k]? = some (vi (((128 + pg) / 2 ^ k : Nat) : Int)) := by
 match k, h with
 | 0, _ | 1, _ | 2, _ | 3, _ | 4, _ | 5, _ | 6, _ | 7, _ => rfl

theorem c_rUp {w00 : World} {L : List Ent} (id : Bool) (ob : Nat) (ms df : List UInt8) (hms : ms.length = 32) (da : Option Addr) (dn dc u : Nat) (hdf : df.length = 32 * dn) (la : Option Addr) (lc : Nat) (lx : List Value) (lg : Lg) (hu : u ≤ 500000) (hlg : lg.length ≤ 500000) (bk : Nat) (ka : Option Addr) (mn : Nat) (hm : mn ≤ 100) (hm1 : 1 ≤ mn) (p : Nat) (hw : p + 8192 ≤ 128 * mn) (l : List UInt8) (hl : l.length = 128 * mn) (pg : Nat) (h : pg < 128) (lf : List UInt8) (hlf : lf.length = 32) (w : World) (h_0 : HP w00 w (Ent.blk ob .nw 61 [(1, [(.bool id)]), (32, ms.map vu8), (1, [(.slice da dn dc)]), (1, [(vi ((u : Nat) : Int))]), (1, [(.slice la lg.length lc)])] :: Ent.row la lg.length lc 102 67 lx :: Ent.pin (sblks lx) (fun w => Lgs w lx lg) :: Ent.view da (df.map vu8) :: Ent.blk bk .nw 95 [(1, [(.slice ka (128 * mn) (128 * mn))])] :: Ent.row ka (128 * mn) (128 * mn) 5 1 (l.map vu8) :: L)) :
  Cs Tryz.prog 32 [(.pointer (some ⟨ob, 0, none⟩)), (.pointer (some ⟨bk, 0, none⟩)), (vu64 (UInt64.ofNat p)), (vi ((pg : Nat) : Int)), (.agg ⟨lf.map vu8⟩)].toArray w (fun v w1 => ∃ a c la' lc' lx', v = .slice a 8 c ∧ HP w00 w1 (Ent.row a 8 c 23 32 ((upF (upD id df dn l p pg u lg lf) 7).map vu8) :: Ent.blk ob .nw 61 [(1, [(.bool id)]), (32, ms.map vu8), (1, [(.slice da dn dc)]), (1, [(vi (((upS id df dn l p pg u lg lf 7).1 : Nat) : Int))]), (1, [(.slice la' ((upS id df dn l p pg u lg lf 7).2.1.length) lc')])] :: Ent.row la' ((upS id df dn l p pg u lg lf 7).2.1.length) lc' 102 67 lx' :: Ent.pin (sblks lx') (fun w => Lgs w lx' ((upS id df dn l p pg u lg lf 7).2.1)) :: Ent.view da (df.map vu8) :: Ent.blk bk .nw 95 [(1, [(.slice ka (128 * mn) (128 * mn))])] :: Ent.row ka (128 * mn) (128 * mn) 5 1 (l.map vu8) :: L)) := by
 have h32 : ok32 lg := Lgs.ok32 (h_0.ok _ M2).1
 have hDl := upD_len (id := id) (dn := dn) (l := l) (p := p) (pg := pg) (u := u) (lg := lg) (lf := lf) hdf h32 hlf
 refine Cs.of (n := 64) (args := [(pO ob 0), (pO bk 0), (vu64 (UInt64.ofNat p)), (vn pg), (.agg ⟨lf.map vu8⟩)]) Tryz.func32 rfl rfl rfl ?_
 refine WP.seq (WP.reg ?_)
 refine WL.box (segs := [(32, lf.map vu8)]) h_0 rfl rfl (sC (s8 hlf) sN) rfl (fun b_1 w_2 h_3 => ?_)
 refine qA (.slice none 0 0) rfl rfl ?_
 refine WL.nil (thn_n (WP.seq (WP.reg ?_)))
 refine qV rfl (R.loadA [] [(32, lf.map vu8)] [] (cs := lf.map vu8) rfl isAgg23 sizeOf23 (h_3.ok _ M0) rfl rfl rfl rfl) ?_
 refine WL.buildSl (vs := [(0, (.agg ⟨lf.map vu8⟩))]) (cs := lf.map vu8) h_3 underlying24 sizeOf23 (zv typeInfo23 rfl) rfl rfl (fill_d (by kernel_rfl) hlf) (len_map hlf) (one_u8 _) rfl rfl (fun b_4 w_5 h_6 => ?_)
 refine qA (.slice (some ⟨b_4, 0, none⟩) 1 1) rfl rfl ?_
 refine WL.nil (thn_n (WP.seq (WP.reg ?_)))
 refine qM (vn pg) rfl rfl ?_
 refine WL.call Tryz.call16 rfl rfl (c_rBes pg (by omega) _) rfl ?_
 rintro _ w_9 ⟨a_7, cap_8, rfl, hc_10, ho_11⟩
 have h_12 := h_6.gotRow hc_10 ho_11
 refine qA (.slice a_7 7 cap_8) rfl rfl ?_
 refine WL.nil (thn_n (WP.seq (WP.reg ?_)))
 refine qM (vn pg) rfl rfl (qV rfl (R.bin rfl rfl (bi_add (c := ((128 + pg : Nat) : Int)) (by omega) (by omega))) (qA (vn (128 + pg)) rfl rfl ?_))
 refine WL.nil (thn_n (WP.seq (WP.seq (WP.reg ?_))))
 refine qA (vi 0) rfl rfl ?_
 refine WL.nil (thn_n (WP.block ?_))
 have h_13 := HP.blkRow (m := 1) (s := 32) h_12 Y1 rfl (by simp only [maxLen]; decide)
 have h_22 := ((((((((h_13.up J1).up J2).up J2).up J8).up J8).up J8).up J8).up J8).up J8
 refine WP.loopG (G := Nat × Option Addr × Nat × Option Addr × Nat × List Value) [11, 13, 14, 15, 16, 23, 24, 25, 26, 27, 28, 29, 30, 31, 32, 33, 34, 35, 36, 37, 38, 39, 40, 41, 42, 43, 44, 45, 46, 47, 48, 49, 50, 51, 52, 53, 54, 55, 56, 57, 58, 59, 60, 61, 62] (fun (k, ra, rc, la2, lc2, lx2) => [(11, (.slice ra (k + 1) rc)), (13, (vn (((128 + pg) / 2 ^ k)))), (14, (vn k))]) (fun (k, ra, rc, la2, lc2, lx2) m w1 => HP w00 w1 (Ent.blk ob .nw 61 [(1, [(.bool id)]), (32, ms.map vu8), (1, [(.slice da dn dc)]), (1, [(vn ((upS id df dn l p pg u lg lf k).1))]), (1, [(.slice la2 ((upS id df dn l p pg u lg lf k).2.1.length) lc2)])] :: Ent.row la2 ((upS id df dn l p pg u lg lf k).2.1.length) lc2 102 67 lx2 :: Ent.pin (sblks lx2) (fun w => Lgs w lx2 ((upS id df dn l p pg u lg lf k).2.1)) :: Ent.view da (df.map vu8) :: Ent.blk bk .nw 95 [(1, [(.slice ka (128 * mn) (128 * mn))])] :: Ent.row ka (128 * mn) (128 * mn) 5 1 (l.map vu8) :: Ent.row a_7 7 cap_8 3 1 ((bsL pg).map vi64) :: Ent.blk b_1 .nw 23 [(32, lf.map vu8)] :: Ent.row ra (k + 1) rc 23 32 ((upF (upD id df dn l p pg u lg lf) k).map vu8) :: L) ∧ (k ≤ 7) ∧ m = 7 - k) ⟨(0, (some ⟨b_4, 0, none⟩), 1, la, lc, lx), _, ⟨rfl, congrArg vi (by rw [Nat.pow_zero, Nat.div_one]), rfl, trivial⟩, h_22, Nat.zero_le _, rfl⟩ ?_
 rintro ⟨k, ra, rc, la2, lc2, lx2⟩ m_25 J_26 w_23 ⟨h_24, hk, rfl⟩
 have hsu := upS_u (id := id) (df := df) (dn := dn) (l := l) (p := p) (pg := pg) (u := u) (lg := lg) (lf := lf) k
 have hsl := upS_l (id := id) (df := df) (dn := dn) (l := l) (p := p) (pg := pg) (u := u) (lg := lg) (lf := lf) k
 have hs32 := upS_32 (l := l) (p := p) (pg := pg) (u := u) (lf := lf) (id := id) hdf h32 k
 have hle := half_le (128 + pg) k
 have hx : (128 + pg) / 2 ^ k ^^^ 1 ≤ 255 := xor_lt (by omega)
 refine WP.seq (WP.seq (WP.reg ?_))
 refine qM (vn k) rfl rfl (qM (.slice a_7 7 cap_8) rfl rfl (qV rfl (R.lenS (a := a_7) (m := 7) rfl rfl underlying40) (qV rfl (R.bin rfl rfl (bi_lss (r := decide ((((k : Nat) : Int) : Int) < 7)) rfl)) ?_)))
 refine WL.nil (thn_n ?_)
 refine WP.cond (b := decide ((((k : Nat) : Int) : Int) < 7)) rfl (fun c_27 => ?_) (fun c_27 => ?_)
 ·have p_28 := of_decide_eq_true c_27
  refine WP.skip (thn_n (WP.seq (WP.block (WP.seq ?_))))
  have hk7 : k < 7 := by omega
  refine WP.reg ?_
  refine qM (pO bk 0) rfl rfl (qM (vu64 (UInt64.ofNat p)) rfl rfl (qM (.slice a_7 7 cap_8) rfl rfl (qM (vn k) rfl rfl (qV rfl (R.indexS (a := a_7) (i := k) (off := k) (xs := (bsL pg).map vi64) rfl rfl rfl (by omega) (ownView (h_24.ok _ M6)) (lt_len (K := 7) (len_map (rfl : List.length (bsL pg) = 7)) (by omega)) underlying40 sizeOf3 (Nat.mul_one _).symm) (qV rfl (R.loadG rfl (ownView (h_24.ok _ M6)) isAgg3 (bsL_at (by omega))) ?_)))))
  refine WL.call Tryz.call28 rfl rfl (c_rAt bk ka mn p (((128 + pg) / 2 ^ k) ^^^ 1) hw (by omega) hm l hl _ (h_24.argR M4) (ownView (h_24.ok _ M5))) rfl ?_
  rintro _ w_30 ⟨rfl, hc_29⟩
  have h_31 := h_24.same hc_29
  refine WL.alloc (segs := [(32, (zB 32).map vu8)]) h_31 (zv typeInfo23 rfl) rfl (sC (s8 lr) sN) rfl (fun b_32 w_33 h_34 => ?_)
  refine WL.storeA [] [(32, (zB 32).map vu8)] [(32, (sbL l p ((128 + pg) / 2 ^ k)).map vu8)] [] h_34 rfl rfl sizeOf23 At.h (by decide) rfl rfl rfl rfl rfl rfl (sC (s8 (show (sbL l p ((128 + pg) / 2 ^ k)).length = 32 from subLen (K := 128 * mn) hl (by omega))) sN) (fun w_35 h_36 => ?_)
  refine WL.nil (thn_n (WP.seq (WP.reg ?_)))
  refine qM (.slice ra (k + 1) rc) rfl rfl (qM (vn k) rfl rfl (qV rfl (R.indexS (a := ra) (i := k) (off := k * 32) (xs := (upF (upD id df dn l p pg u lg lf) k).map vu8) rfl rfl rfl (by omega) (ownView (h_36.ok _ M9)) (lt_len (K := 32 * (k + 1)) (len_map (upF_len hDl k)) (by omega)) underlying24 sizeOf23 rfl) (qV rfl (R.loadGA (a := ra) (i := k * 32) (xs := (upF (upD id df dn l p pg u lg lf) k).map vu8) (cs := ((upS id df dn l p pg u lg lf k).2.2).map vu8) rfl (ownView (h_36.ok _ M9)) isAgg23 sizeOf23 (by rw [← List.map_drop, ← List.map_take, upF_at hDl (by omega)]; rfl) (len_map (upS_len hdf h32 hlf k)) (by decide)) ?_)))
  refine WL.alloc (segs := [(32, (zB 32).map vu8)]) h_36 (zv typeInfo23 rfl) rfl (sC (s8 lr) sN) rfl (fun b_37 w_38 h_39 => ?_)
  refine WL.storeA [] [(32, (zB 32).map vu8)] [(32, ((upS id df dn l p pg u lg lf k).2.2).map vu8)] [] h_39 rfl rfl sizeOf23 At.h (by decide) rfl rfl rfl rfl rfl rfl (sC (s8 (upS_len hdf h32 hlf k)) sN) (fun w_40 h_41 => ?_)
  refine WL.nil (thn_n (WP.seq (WP.seq (WP.reg ?_))))
  refine qM (vn (((128 + pg) / 2 ^ k))) rfl rfl (qV rfl (R.bin rfl rfl (bi_rem (c := ((((128 + pg) / 2 ^ k) % 2 : Nat) : Int)) (Int.natCast_nonneg _) (by omega) (by first | omega | rfl))) (qV rfl (R.bin rfl rfl (bi_eql (r := decide ((((((128 + pg) / 2 ^ k) % 2 : Nat) : Int) : Int) = 0)) rfl)) ?_))
  refine WL.nil (thn_n ?_)
  refine WP.cond (b := decide ((((((128 + pg) / 2 ^ k) % 2 : Nat) : Int) : Int) = 0)) rfl (fun c_42 => ?_) (fun c_42 => ?_)
  ·have p_43 := of_decide_eq_true c_42
   refine WP.reg ?_
   refine qM (.slice ra (k + 1) rc) rfl rfl (qM (pO ob 0) rfl rfl (qM (vn (((128 + pg) / 2 ^ k))) rfl rfl (qV rfl (R.bin rfl rfl (bi_quo (c := ((((128 + pg) / 2 ^ k) / 2 : Nat) : Int)) (by first | omega | exact ⟨Int.natCast_nonneg _, by omega⟩) (by omega) (by first | omega | rfl))) (qV rfl (R.loadA [] [(32, ((upS id df dn l p pg u lg lf k).2.2).map vu8)] [] (cs := ((upS id df dn l p pg u lg lf k).2.2).map vu8) rfl isAgg23 sizeOf23 (h_41.ok _ M0) rfl rfl rfl rfl) (qV rfl (R.loadA [] [(32, (sbL l p ((128 + pg) / 2 ^ k)).map vu8)] [] (cs := (sbL l p ((128 + pg) / 2 ^ k)).map vu8) rfl isAgg23 sizeOf23 (h_41.ok _ M1) rfl rfl rfl rfl) ?_)))))
   have h_47 := (((h_41.up J5).up J5).up J5).up J5
   refine WL.call Tryz.call19 rfl rfl (c_rTNode id ob ms df hms da dn dc ((upS id df dn l p pg u lg lf k).1) hdf la2 lc2 lx2 ((upS id df dn l p pg u lg lf k).2.1) (by omega) (by omega) (((128 + pg) / 2 ^ k) / 2) ((upS id df dn l p pg u lg lf k).2.2) (sbL l p ((128 + pg) / 2 ^ k)) (upS_len hdf h32 hlf k) (show (sbL l p ((128 + pg) / 2 ^ k)).length = 32 from subLen (K := 128 * mn) hl (by omega)) _ h_47) rfl ?_
   rintro _ w_51 ⟨la_48, lc_49, lx_50, rfl, h_52⟩
   refine WL.buildSl (vs := [(0, (.agg ⟨(anD id df dn ((upS id df dn l p pg u lg lf k).1) ((upS id df dn l p pg u lg lf k).2.1) (1, (zB 32), 5, [leN 8 (UInt64.ofNat (((128 + pg) / 2 ^ k) / 2)).toNat, (upS id df dn l p pg u lg lf k).2.2, sbL l p ((128 + pg) / 2 ^ k)].flatten)).map vu8⟩))]) (cs := (anD id df dn ((upS id df dn l p pg u lg lf k).1) ((upS id df dn l p pg u lg lf k).2.1) (1, (zB 32), 5, [leN 8 (UInt64.ofNat (((128 + pg) / 2 ^ k) / 2)).toNat, (upS id df dn l p pg u lg lf k).2.2, sbL l p ((128 + pg) / 2 ^ k)].flatten)).map vu8) h_52 underlying24 sizeOf23 (zv typeInfo23 rfl) rfl rfl (fill_d (by kernel_rfl) (anD_len hdf hs32)) (len_map (anD_len hdf hs32)) (one_u8 _) rfl rfl (fun b_53 w_54 h_55 => ?_)
   refine WL.append (km := (k + 1) + 1) (xs := (upF (upD id df dn l p pg u lg lf) k).map vu8) (ys := (anD id df dn ((upS id df dn l p pg u lg lf k).1) ((upS id df dn l p pg u lg lf k).2.1) (1, (zB 32), 5, [leN 8 (UInt64.ofNat (((128 + pg) / 2 ^ k) / 2)).toNat, (upS id df dn l p pg u lg lf k).2.2, sbL l p ((128 + pg) / 2 ^ k)].flatten)).map vu8) (zs := ((upF (upD id df dn l p pg u lg lf) k) ++ (anD id df dn ((upS id df dn l p pg u lg lf k).1) ((upS id df dn l p pg u lg lf k).2.1) (1, (zB 32), 5, [leN 8 (UInt64.ofNat (((128 + pg) / 2 ^ k) / 2)).toNat, (upS id df dn l p pg u lg lf k).2.2, sbL l p ((128 + pg) / 2 ^ k)].flatten))).map vu8) h_55 rfl rfl el24 (viewB (h_55.ok _ M0) Sg.h) (len_map (anD_len hdf hs32)) (one_u8 _) (List.map_append ..).symm (by omega) (by omega) (by omega) (fun _ _ => Y11) rfl (fun a_56 c_57 w_58 h_59 => ?_)
   refine qA (.slice a_56 ((k + 1) + 1) c_57) rfl rfl ?_
   refine WL.nil (thn_n (WP.reg ?_))
   refine qM (vn (((128 + pg) / 2 ^ k))) rfl rfl (qV rfl (R.bin rfl rfl (bi_quo (c := ((((128 + pg) / 2 ^ k) / 2 : Nat) : Int)) (by first | omega | exact ⟨Int.natCast_nonneg _, by omega⟩) (by omega) (by first | omega | rfl))) (qA (vn (((128 + pg) / 2 ^ k) / 2)) rfl rfl ?_))
   refine WL.nil (inb_n (thn_n (WP.reg ?_)))
   refine qM (vn k) rfl rfl (qV rfl (R.bin rfl rfl (bi_add (c := ((k + 1 : Nat) : Int)) (by omega) (by omega))) (qA (vn (k + 1)) rfl rfl ?_))
   refine WL.nil (thn_n ?_)
   have h_73 := (((((((((((((h_59.drop rfl).up J4).drop rfl).up J4).drop rfl).up J8).up J8).up J8).up J8).up J8).up J8).up J8).up J8).up J8
   exact ⟨(k + 1, a_56, c_57, la_48, lc_49, lx_50), _, (by omega), (U4 rfl rfl rfl rfl (U4 rfl rfl rfl rfl (U4 rfl rfl rfl rfl (U4 rfl rfl rfl rfl (U4 rfl rfl rfl rfl (U4 rfl rfl rfl rfl (U4 rfl rfl rfl rfl (U4 rfl rfl rfl rfl (U4 rfl rfl rfl rfl (Ag.updL rfl (Ag.mix _ _ _))))))))))), ⟨rfl, congrArg vi (by rw [half_s]), rfl, trivial⟩, (by rw [upF, upD, upS_e (by omega)]; exact h_73), (by omega), rfl⟩
  ·have p_74 := of_decide_eq_false c_42
   refine WP.reg ?_
   refine qM (.slice ra (k + 1) rc) rfl rfl (qM (pO ob 0) rfl rfl (qM (vn (((128 + pg) / 2 ^ k))) rfl rfl (qV rfl (R.bin rfl rfl (bi_quo (c := ((((128 + pg) / 2 ^ k) / 2 : Nat) : Int)) (by first | omega | exact ⟨Int.natCast_nonneg _, by omega⟩) (by omega) (by first | omega | rfl))) (qV rfl (R.loadA [] [(32, (sbL l p ((128 + pg) / 2 ^ k)).map vu8)] [] (cs := (sbL l p ((128 + pg) / 2 ^ k)).map vu8) rfl isAgg23 sizeOf23 (h_41.ok _ M1) rfl rfl rfl rfl) (qV rfl (R.loadA [] [(32, ((upS id df dn l p pg u lg lf k).2.2).map vu8)] [] (cs := ((upS id df dn l p pg u lg lf k).2.2).map vu8) rfl isAgg23 sizeOf23 (h_41.ok _ M0) rfl rfl rfl rfl) ?_)))))
   have h_78 := (((h_41.up J5).up J5).up J5).up J5
   refine WL.call Tryz.call19 rfl rfl (c_rTNode id ob ms df hms da dn dc ((upS id df dn l p pg u lg lf k).1) hdf la2 lc2 lx2 ((upS id df dn l p pg u lg lf k).2.1) (by omega) (by omega) (((128 + pg) / 2 ^ k) / 2) (sbL l p ((128 + pg) / 2 ^ k)) ((upS id df dn l p pg u lg lf k).2.2) (show (sbL l p ((128 + pg) / 2 ^ k)).length = 32 from subLen (K := 128 * mn) hl (by omega)) (upS_len hdf h32 hlf k) _ h_78) rfl ?_
   rintro _ w_82 ⟨la_79, lc_80, lx_81, rfl, h_83⟩
   refine WL.buildSl (vs := [(0, (.agg ⟨(anD id df dn ((upS id df dn l p pg u lg lf k).1) ((upS id df dn l p pg u lg lf k).2.1) (1, (zB 32), 5, [leN 8 (UInt64.ofNat (((128 + pg) / 2 ^ k) / 2)).toNat, sbL l p ((128 + pg) / 2 ^ k), (upS id df dn l p pg u lg lf k).2.2].flatten)).map vu8⟩))]) (cs := (anD id df dn ((upS id df dn l p pg u lg lf k).1) ((upS id df dn l p pg u lg lf k).2.1) (1, (zB 32), 5, [leN 8 (UInt64.ofNat (((128 + pg) / 2 ^ k) / 2)).toNat, sbL l p ((128 + pg) / 2 ^ k), (upS id df dn l p pg u lg lf k).2.2].flatten)).map vu8) h_83 underlying24 sizeOf23 (zv typeInfo23 rfl) rfl rfl (fill_d (by kernel_rfl) (anD_len hdf hs32)) (len_map (anD_len hdf hs32)) (one_u8 _) rfl rfl (fun b_84 w_85 h_86 => ?_)
   refine WL.append (km := (k + 1) + 1) (xs := (upF (upD id df dn l p pg u lg lf) k).map vu8) (ys := (anD id df dn ((upS id df dn l p pg u lg lf k).1) ((upS id df dn l p pg u lg lf k).2.1) (1, (zB 32), 5, [leN 8 (UInt64.ofNat (((128 + pg) / 2 ^ k) / 2)).toNat, sbL l p ((128 + pg) / 2 ^ k), (upS id df dn l p pg u lg lf k).2.2].flatten)).map vu8) (zs := ((upF (upD id df dn l p pg u lg lf) k) ++ (anD id df dn ((upS id df dn l p pg u lg lf k).1) ((upS id df dn l p pg u lg lf k).2.1) (1, (zB 32), 5, [leN 8 (UInt64.ofNat (((128 + pg) / 2 ^ k) / 2)).toNat, sbL l p ((128 + pg) / 2 ^ k), (upS id df dn l p pg u lg lf k).2.2].flatten))).map vu8) h_86 rfl rfl el24 (viewB (h_86.ok _ M0) Sg.h) (len_map (anD_len hdf hs32)) (one_u8 _) (List.map_append ..).symm (by omega) (by omega) (by omega) (fun _ _ => Y11) rfl (fun a_87 c_88 w_89 h_90 => ?_)
   refine qA (.slice a_87 ((k + 1) + 1) c_88) rfl rfl ?_
   refine WL.nil (thn_n (WP.reg ?_))
   refine qM (vn (((128 + pg) / 2 ^ k))) rfl rfl (qV rfl (R.bin rfl rfl (bi_quo (c := ((((128 + pg) / 2 ^ k) / 2 : Nat) : Int)) (by first | omega | exact ⟨Int.natCast_nonneg _, by omega⟩) (by omega) (by first | omega | rfl))) (qA (vn (((128 + pg) / 2 ^ k) / 2)) rfl rfl ?_))
   refine WL.nil (inb_n (thn_n (WP.reg ?_)))
   refine qM (vn k) rfl rfl (qV rfl (R.bin rfl rfl (bi_add (c := ((k + 1 : Nat) : Int)) (by omega) (by omega))) (qA (vn (k + 1)) rfl rfl ?_))
   refine WL.nil (thn_n ?_)
   have h_104 := (((((((((((((h_90.drop rfl).up J4).drop rfl).up J4).drop rfl).up J8).up J8).up J8).up J8).up J8).up J8).up J8).up J8).up J8
   exact ⟨(k + 1, a_87, c_88, la_79, lc_80, lx_81), _, (by omega), (U4 rfl rfl rfl rfl (U4 rfl rfl rfl rfl (U4 rfl rfl rfl rfl (U4 rfl rfl rfl rfl (U4 rfl rfl rfl rfl (U4 rfl rfl rfl rfl (U4 rfl rfl rfl rfl (U4 rfl rfl rfl rfl (U4 rfl rfl rfl rfl (Ag.updL rfl (Ag.mix _ _ _))))))))))), ⟨rfl, congrArg vi (by rw [half_s]), rfl, trivial⟩, (by rw [upF, upD, upS_o (by omega)]; exact h_104), (by omega), rfl⟩
 ·have p_105 := of_decide_eq_false c_27
  refine WP.exit (thn_x (thn_x (inb_hit (thn_n (WP.seq (WP.reg ?_))))))
  refine qM (.slice ra (k + 1) rc) rfl rfl (qA (.slice ra (k + 1) rc) rfl rfl ?_)
  refine WL.nil (thn_n (WP.ret ?_))
  refine ret_of results32 (RV.tmp (v := (.slice ra (k + 1) rc)) rfl RV.nil) ?_
  have hk7 : k = 7 := by omega
  subst hk7
  have h_116 := ((((((((((h_24.up J6).drop rfl).up J6).drop rfl).up J5).up J5).up J5).up J5).up J5).up J5).up J6
  exact ⟨_, _, _, _, _, rfl, h_116⟩

theorem c_rSet {w00 : World} {L : List Ent} (id : Bool) (ob : Nat) (ms df : List UInt8) (hms : ms.length = 32) (da : Option Addr) (dn dc u : Nat) (hdf : df.length = 32 * dn) (la : Option Addr) (lc : Nat) (lx : List Value) (lg : Lg) (hu : u ≤ 500000) (hlg : lg.length ≤ 500000) (bk : Nat) (ka : Option Addr) (mn : Nat) (hm : mn ≤ 100) (hm1 : 1 ≤ mn) (p : Nat) (hw : p + 8192 ≤ 128 * mn) (l : List UInt8) (hl : l.length = 128 * mn) (pg : Nat) (h : pg < 128) (lf : List UInt8) (hlf : lf.length = 32) (w : World) (h_0 : HP w00 w (Ent.blk ob .nw 61 [(1, [(.bool id)]), (32, ms.map vu8), (1, [(.slice da dn dc)]), (1, [(vi ((u : Nat) : Int))]), (1, [(.slice la lg.length lc)])] :: Ent.row la lg.length lc 102 67 lx :: Ent.pin (sblks lx) (fun w => Lgs w lx lg) :: Ent.view da (df.map vu8) :: Ent.blk bk .nw 95 [(1, [(.slice ka (128 * mn) (128 * mn))])] :: Ent.row ka (128 * mn) (128 * mn) 5 1 (l.map vu8) :: L)) :
  Cs Tryz.prog 33 [(.pointer (some ⟨ob, 0, none⟩)), (.pointer (some ⟨bk, 0, none⟩)), (vu64 (UInt64.ofNat p)), (vi ((pg : Nat) : Int)), (.agg ⟨lf.map vu8⟩)].toArray w (fun v w1 => ∃ la' lc' lx', v = (.agg ⟨((upS id df dn l p pg u lg lf 7).2.2).map vu8⟩) ∧ HP w00 w1 (Ent.blk ob .nw 61 [(1, [(.bool id)]), (32, ms.map vu8), (1, [(.slice da dn dc)]), (1, [(vi (((upS id df dn l p pg u lg lf 7).1 : Nat) : Int))]), (1, [(.slice la' ((upS id df dn l p pg u lg lf 7).2.1.length) lc')])] :: Ent.row la' ((upS id df dn l p pg u lg lf 7).2.1.length) lc' 102 67 lx' :: Ent.pin (sblks lx') (fun w => Lgs w lx' ((upS id df dn l p pg u lg lf 7).2.1)) :: Ent.view da (df.map vu8) :: Ent.blk bk .nw 95 [(1, [(.slice ka (128 * mn) (128 * mn))])] :: Ent.row ka (128 * mn) (128 * mn) 5 1 ((upM l p pg (upD id df dn l p pg u lg lf) 7).map vu8) :: L)) := by
 have h32 : ok32 lg := Lgs.ok32 (h_0.ok _ M2).1
 have hDl := upD_len (id := id) (dn := dn) (l := l) (p := p) (pg := pg) (u := u) (lg := lg) (lf := lf) hdf h32 hlf
 refine Cs.of (n := 46) (args := [(pO ob 0), (pO bk 0), (vu64 (UInt64.ofNat p)), (vn pg), (.agg ⟨lf.map vu8⟩)]) Tryz.func33 rfl rfl rfl ?_
 refine WP.seq (WP.reg ?_)
 refine WL.box (segs := [(32, lf.map vu8)]) h_0 rfl rfl (sC (s8 hlf) sN) rfl (fun b_1 w_2 h_3 => ?_)
 refine WL.alloc (segs := [(32, (zB 32).map vu8)]) h_3 (zv typeInfo23 rfl) rfl (sC (s8 lr) sN) rfl (fun b_4 w_5 h_6 => ?_)
 refine WL.nil (thn_n (WP.seq (WP.reg ?_)))
 refine qM (pO ob 0) rfl rfl (qM (pO bk 0) rfl rfl (qM (vu64 (UInt64.ofNat p)) rfl rfl (qM (vn pg) rfl rfl (qV rfl (R.loadA [] [(32, lf.map vu8)] [] (cs := lf.map vu8) rfl isAgg23 sizeOf23 (h_6.ok _ M1) rfl rfl rfl rfl) ?_))))
 have h_12 := (((((h_6.up J7).up J7).up J7).up J7).up J7).up J7
 have h32_w_18 := (Lgs.ok32 (h_12.ok _ M2).1)
 refine WL.call Tryz.call32 rfl rfl (c_rUp id ob ms df hms da dn dc u hdf la lc lx lg (by omega) (by omega) bk ka mn (by omega) (by omega) p (by omega) l hl pg (by omega) lf hlf _ h_12) rfl ?_
 rintro _ w_18 ⟨a_16, c_17, la_13, lc_14, lx_15, rfl, h_19⟩
 refine qA (.slice a_16 8 c_17) rfl rfl ?_
 refine WL.nil (thn_n (WP.seq (WP.reg ?_)))
 refine qM (vn pg) rfl rfl ?_
 refine WL.call Tryz.call15 rfl rfl (c_rWay pg (by omega) _) rfl ?_
 rintro _ w_22 ⟨a_20, cap_21, rfl, hc_23, ho_24⟩
 have h_25 := h_19.gotRow hc_23 ho_24
 refine qA (.slice a_20 8 cap_21) rfl rfl ?_
 refine WL.nil (thn_n (WP.seq (WP.seq (WP.reg ?_))))
 refine qA (vi 0) rfl rfl ?_
 refine WL.nil (thn_n (WP.block ?_))
 have h_36 := ((((((((((h_25.up J9).drop rfl).up J8).up J2).up J2).up J8).up J8).up J8).up J8).up J8).up J8
 refine WP.loopG (G := Nat) [13, 22, 23, 24, 25, 26, 27, 28, 29, 30, 31, 32, 33, 34, 35, 36, 37, 38, 39] (fun k => [(13, (vn k))]) (fun k m w1 => HP w00 w1 (Ent.blk ob .nw 61 [(1, [(.bool id)]), (32, ms.map vu8), (1, [(.slice da dn dc)]), (1, [(vn ((upS id df dn l p pg u lg lf 7).1))]), (1, [(.slice la_13 ((upS id df dn l p pg u lg lf 7).2.1.length) lc_14)])] :: Ent.row la_13 ((upS id df dn l p pg u lg lf 7).2.1.length) lc_14 102 67 lx_15 :: Ent.pin (sblks lx_15) (fun w => Lgs w lx_15 ((upS id df dn l p pg u lg lf 7).2.1)) :: Ent.view da (df.map vu8) :: Ent.blk bk .nw 95 [(1, [(.slice ka (128 * mn) (128 * mn))])] :: Ent.row ka (128 * mn) (128 * mn) 5 1 ((upM l p pg (upD id df dn l p pg u lg lf) k).map vu8) :: Ent.row a_20 8 cap_21 3 1 ((wayL pg).map vi64) :: Ent.row a_16 8 c_17 23 32 ((upF (upD id df dn l p pg u lg lf) 7).map vu8) :: Ent.blk b_4 .nw 23 [(32, (zB 32).map vu8)] :: L) ∧ (k ≤ 7) ∧ m = 7 - k) ⟨0, _, ⟨rfl, trivial⟩, h_36, Nat.zero_le _, rfl⟩ ?_
 rintro k m_39 J_40 w_37 ⟨h_38, hk, rfl⟩
 have hle := half_le (128 + pg) k
 refine WP.seq (WP.seq (WP.reg ?_))
 refine qM (vn k) rfl rfl (qV rfl (R.bin rfl rfl (bi_add (c := ((k + 1 : Nat) : Int)) (by omega) (by omega))) (qM (.slice a_20 8 cap_21) rfl rfl (qV rfl (R.lenS (a := a_20) (m := 8) rfl rfl underlying40) (qV rfl (R.bin rfl rfl (bi_lss (r := decide ((((k + 1 : Nat) : Int) : Int) < 8)) rfl)) ?_))))
 refine WL.nil (thn_n ?_)
 refine WP.cond (b := decide ((((k + 1 : Nat) : Int) : Int) < 8)) rfl (fun c_41 => ?_) (fun c_41 => ?_)
 ·have p_42 := of_decide_eq_true c_41
  refine WP.skip (thn_n (WP.seq (WP.block ?_)))
  have hk7 : k < 7 := by omega
  refine WP.drawT (SL w00.heap.size [.blk ob .nw 61 [(1, [(.bool id)]), (32, ms.map vu8), (1, [(.slice da dn dc)]), (1, [(vn ((upS id df dn l p pg u lg lf 7).1))]), (1, [(.slice la_13 ((upS id df dn l p pg u lg lf 7).2.1.length) lc_14)])], .row la_13 ((upS id df dn l p pg u lg lf 7).2.1.length) lc_14 102 67 lx_15, .pin (sblks lx_15) (fun w => Lgs w lx_15 ((upS id df dn l p pg u lg lf 7).2.1)), .view da (df.map vu8), .blk bk .nw 95 [(1, [(.slice ka (128 * mn) (128 * mn))])], .row a_20 8 cap_21 3 1 ((wayL pg).map vi64), .row a_16 8 c_17 23 32 ((upF (upD id df dn l p pg u lg lf) 7).map vu8), .blk b_4 .nw 23 [(32, (zB 32).map vu8)]]) (.q 0 (.q 1 (.q 2 (.q 3 (.q 4 (.q 5 (.q 6 (.q 7 (.q 8 (.q 9 (.s 10 .nil))))))))))) (by kernel_rfl) (by kernel_rfl) rfl (by kernel_rfl) (fun w_43 hc_45 => (SL.cons ((h_38.same hc_45).ok _ M0) (SL.cons ((h_38.same hc_45).ok _ M1) (SL.cons ((h_38.same hc_45).ok _ M2) (SL.cons ((h_38.same hc_45).ok _ M3) (SL.cons ((h_38.same hc_45).ok _ M4) (SL.cons ((h_38.same hc_45).ok _ M6) (SL.cons ((h_38.same hc_45).ok _ M7) (SL.cons ((h_38.same hc_45).ok _ M8) (SL.nil _ _)))))))))) (fun w_43 hc_45 => ?_)
  have h_44 := h_38.same hc_45
  refine qT rfl rfl (fun wq hS => R.move (v := (pO bk 0)) rfl) ?_
  refine qT rfl rfl (fun wq hS => R.move (v := (vu64 (UInt64.ofNat p))) rfl) ?_
  refine qT rfl rfl (fun wq hS => R.move (v := (.slice a_20 8 cap_21)) rfl) ?_
  refine qT rfl rfl (fun wq hS => R.move (v := (vn k)) rfl) ?_
  refine qT rfl rfl (fun wq hS => R.indexS (a := a_20) (i := k) (off := k) (xs := (wayL pg).map vi64) rfl rfl rfl (by omega) (ownView (hS _ M5)) (lt_len (K := 8) (len_map (rfl : List.length (wayL pg) = 8)) (by omega)) underlying40 sizeOf3 (Nat.mul_one _).symm) ?_
  refine qT rfl rfl (fun wq hS => R.loadG rfl (ownView (hS _ M5)) isAgg3 (wayL_at (by omega))) ?_
  refine qT rfl rfl (fun wq hS => R.move (v := (.slice a_16 8 c_17)) rfl) ?_
  refine qT rfl rfl (fun wq hS => R.move (v := (vn k)) rfl) ?_
  refine qT rfl rfl (fun wq hS => R.indexS (a := a_16) (i := k) (off := k * 32) (xs := (upF (upD id df dn l p pg u lg lf) 7).map vu8) rfl rfl rfl (by omega) (ownView (hS _ M6)) (lt_len (K := 32 * 8) (len_map (upF_len (upD_len (id := id) (dn := dn) (l := l) (p := p) (pg := pg) (u := u) hdf h32_w_18 hlf) 7)) (by omega)) underlying24 sizeOf23 rfl) ?_
  refine qT rfl rfl (fun wq hS => R.loadGA (a := a_16) (i := k * 32) (xs := (upF (upD id df dn l p pg u lg lf) 7).map vu8) (cs := ((upS id df dn l p pg u lg lf k).2.2).map vu8) rfl (ownView (hS _ M6)) isAgg23 sizeOf23 (by rw [← List.map_drop, ← List.map_take, upF_at (j := k) (upD_len (id := id) (dn := dn) (l := l) (p := p) (pg := pg) (u := u) hdf h32_w_18 hlf) (by omega)]; rfl) (len_map (upS_len hdf h32_w_18 hlf k)) (by decide)) ?_
  refine WT.s (oN rfl ?_)
  have h_47 := (h_44.up J5).up J5
  refine WL.call Tryz.call52 rfl rfl (c_rput bk ka mn p ((128 + pg) / 2 ^ k) (by omega) (by omega) (by omega) (upM l p pg (upD id df dn l p pg u lg lf) k) (upM_len hl hw h hDl k) ((upS id df dn l p pg u lg lf k).2.2) (upS_len hdf h32_w_18 hlf k) _ h_47) rfl ?_
  rintro _ w_48 ⟨rfl, h_49⟩
  refine WL.nil ?_
  refine ⟨(SL.cons (h_49.ok _ M2) (SL.cons (h_49.ok _ M3) (SL.cons (h_49.ok _ M4) (SL.cons (h_49.ok _ M5) (SL.cons (h_49.ok _ M0) (SL.cons (h_49.ok _ M6) (SL.cons (h_49.ok _ M7) (SL.cons (h_49.ok _ M8) (SL.nil _ _))))))))), ?_⟩
  refine WT.nil (inb_n (thn_n (WP.reg ?_)))
  refine qM (vn k) rfl rfl (qV rfl (R.bin rfl rfl (bi_add (c := ((k + 1 : Nat) : Int)) (by omega) (by omega))) (qA (vn (k + 1)) rfl rfl ?_))
  refine WL.nil (thn_n ?_)
  have h_58 := ((((((((h_49.up J8).up J8).up J8).up J4).up J4).up J8).up J8).up J8).up J8
  exact ⟨k + 1, _, (by omega), (Ag.upd rfl (U2 rfl rfl (U4 rfl rfl rfl rfl (U4 rfl rfl rfl rfl (U4 rfl rfl rfl rfl (U4 rfl rfl rfl rfl (Ag.updL rfl (Ag.mix _ _ _)))))))), ⟨rfl, trivial⟩, h_58, (by omega), rfl⟩
 ·have p_59 := of_decide_eq_false c_41
  refine WP.exit (thn_x (thn_x (inb_hit (thn_n (WP.seq (WP.reg ?_))))))
  refine qM (.slice a_16 8 c_17) rfl rfl (qM (.slice a_16 8 c_17) rfl rfl (qV rfl (R.lenS (a := a_16) (m := 8) rfl rfl underlying24) (qV rfl (R.bin rfl rfl (bi_sub (c := 7) (by omega) (by omega))) (qV rfl (R.indexS (a := a_16) (i := 7) (off := 224) (xs := (upF (upD id df dn l p pg u lg lf) 7).map vu8) rfl rfl rfl (by decide) (ownView (h_38.ok _ M7)) (lt_len (K := 32 * 8) (len_map (upF_len (upD_len (id := id) (dn := dn) (l := l) (p := p) (pg := pg) (u := u) hdf h32_w_18 hlf) 7)) (by omega)) underlying24 sizeOf23 rfl) (qV rfl (R.loadGA (a := a_16) (i := 224) (xs := (upF (upD id df dn l p pg u lg lf) 7).map vu8) (cs := ((upS id df dn l p pg u lg lf 7).2.2).map vu8) rfl (ownView (h_38.ok _ M7)) isAgg23 sizeOf23 (by rw [← List.map_drop, ← List.map_take, upF_at (j := 7) (upD_len (id := id) (dn := dn) (l := l) (p := p) (pg := pg) (u := u) hdf h32_w_18 hlf) (by omega)]; rfl) (len_map (upS_len hdf h32_w_18 hlf 7)) (by decide)) ?_)))))
  refine WL.storeA [] [(32, (zB 32).map vu8)] [(32, ((upS id df dn l p pg u lg lf 7).2.2).map vu8)] [] h_38 rfl rfl sizeOf23 Y8 (by decide) rfl rfl rfl rfl rfl rfl (sC (s8 (upS_len hdf h32_w_18 hlf 7)) sN) (fun w_60 h_61 => ?_)
  refine WL.nil (thn_n (WP.ret ?_))
  refine ret_of results33 (RV.cell rfl (h_61.loadA (cs := ((upS id df dn l p pg u lg lf 7).2.2).map vu8) isAgg23 sizeOf23 M8 rfl rfl) RV.nil) ?_
  have hk7 : k = 7 := by omega
  subst hk7
  have h_73 := (((((((((((h_61.up J6).drop rfl).up J6).drop rfl).up J6).drop rfl).up J5).up J5).up J5).up J5).up J5).up J5
  exact ⟨_, _, _, rfl, h_73⟩

theorem c_rSetA {w00 : World} {L : List Ent} (id : Bool) (ob : Nat) (ms df : List UInt8) (hms : ms.length = 32) (da : Option Addr) (dn dc u : Nat) (hdf : df.length = 32 * dn) (la : Option Addr) (lc : Nat) (lx : List Value) (lg : Lg) (hu : u ≤ 400000) (hlg : lg.length ≤ 400000) (bk : Nat) (ka : Option Addr) (mn : Nat) (hm : mn ≤ 100) (hm1 : 1 ≤ mn) (p : Nat) (hw : p + 8192 ≤ 128 * mn) (l : List UInt8) (hl : l.length = 128 * mn) (pg : Nat) (h : pg < 128) (lf : List UInt8) (hlf : lf.length = 32) (h32 : ok32 lg) (w : World) (h_0 : HP w00 w (Ent.blk ob .nw 61 [(1, [(.bool id)]), (32, ms.map vu8), (1, [(.slice da dn dc)]), (1, [(vi (((upS id df dn l p pg u lg lf 7).1 : Nat) : Int))]), (1, [(.slice la ((upS id df dn l p pg u lg lf 7).2.1.length) lc)])] :: Ent.row la ((upS id df dn l p pg u lg lf 7).2.1.length) lc 102 67 lx :: Ent.pin (sblks lx) (fun w => Lgs w lx ((upS id df dn l p pg u lg lf 7).2.1)) :: Ent.view da (df.map vu8) :: Ent.blk bk .nw 95 [(1, [(.slice ka (128 * mn) (128 * mn))])] :: Ent.row ka (128 * mn) (128 * mn) 5 1 (l.map vu8) :: L)) : Cs Tryz.prog 33 [(.pointer (some ⟨ob, 0, none⟩)), (.pointer (some ⟨bk, 0, none⟩)), (vu64 (UInt64.ofNat p)), (vi ((pg : Nat) : Int)), (.agg ⟨lf.map vu8⟩)].toArray w (fun v w1 => ∃ la' lc' lx', v = (.agg ⟨((upS id df dn l p pg u lg lf 7).2.2).map vu8⟩) ∧ HP w00 w1 (Ent.blk ob .nw 61 [(1, [(.bool id)]), (32, ms.map vu8), (1, [(.slice da dn dc)]), (1, [(vi (((upS id df dn l p pg u lg lf 7).1 : Nat) : Int))]), (1, [(.slice la' ((upS id df dn l p pg u lg lf 7).2.1.length) lc')])] :: Ent.row la' ((upS id df dn l p pg u lg lf 7).2.1.length) lc' 102 67 lx' :: Ent.pin (sblks lx') (fun w => Lgs w lx' ((upS id df dn l p pg u lg lf 7).2.1)) :: Ent.view da (df.map vu8) :: Ent.blk bk .nw 95 [(1, [(.slice ka (128 * mn) (128 * mn))])] :: Ent.row ka (128 * mn) (128 * mn) 5 1 ((upM l p pg (upD id df dn l p pg u lg lf) 7).map vu8) :: L)) := by
 have b1 := upS_u (id := id) (df := df) (dn := dn) (l := l) (p := p) (pg := pg) (u := u) (lg := lg) (lf := lf) 7
 have b2 := upS_l (id := id) (df := df) (dn := dn) (l := l) (p := p) (pg := pg) (u := u) (lg := lg) (lf := lf) 7
 refine (c_rSet id ob ms df hms da dn dc _ hdf la lc lx _ (by omega) (by omega) bk ka mn hm hm1 p hw l hl pg h lf hlf w h_0).mono fun v w1 hh => ?_
 obtain ⟨la', lc', lx', rfl, hh⟩ := hh
 have e7 := upS_again (id := id) (df := df) (dn := dn) (l := l) (p := p) (pg := pg) (u := u) (lg := lg) (lf := lf) (Nat.le_refl 7)
 rw [e7] at hh
 refine ⟨la', lc', lx', by rw [e7], ?_⟩
 rw [show upM l p pg (upD id df dn l p pg u lg lf) 7 = upM l p pg (upD id df dn l p pg (upS id df dn l p pg u lg lf 7).1 (upS id df dn l p pg u lg lf 7).2.1 lf) 7 from (upM_ext fun j hj => by unfold upD; rw [upS_again (by omega : j ≤ 7)]).symm]; exact hh

theorem c_sameM (bm bk : Nat) (ma ka : Option Addr) (mn : Nat) (hm : mn ≤ 100) (hm1 : 1 ≤ mn) (l : List UInt8) (hl : l.length = 128 * mn) (w : World) (hcm : (Ent.blk bm .ro 112 [(1, [(.slice ma mn mn)])]).ok w.heap.size w) (hv : View w ma (l.map vu8)) (hck : (Ent.blk bk .ro 95 [(1, [(.slice ka (128 * mn) (128 * mn))])]).ok w.heap.size w) (hv2 : View w ka (l.map vu8)) :
  Cs Tryz.prog 24 [(.pointer (some ⟨bm, 0, none⟩)), (.pointer (some ⟨bk, 0, none⟩))].toArray w (fun v w1 => v = (.bool true) ∧ Chg w w1 []) := by
 refine Cs.of (n := 30) (args := [(pO bm 0), (pO bk 0)]) Tryz.func24 rfl rfl rfl ?_
 have h_0 := HP.init w
 have h_01 := h_0.oldV (View.arg hv) rfl (by simp [Ent.mut])
 have h_02 := h_01.oldV hcm rfl (by simp [Ent.mut])
 have h_03 := h_02.oldV (View.arg hv2) rfl (by simp [Ent.mut])
 have h_00 := h_03.oldV hck rfl (by simp [Ent.mut])
 refine WP.seq (WP.reg ?_)
 refine qA (.bool false) rfl rfl ?_
 refine WL.nil (thn_n (WP.seq (WP.reg ?_)))
 refine qM (pO bm 0) rfl rfl (qM (pO bk 0) rfl rfl (qV rfl (R.nilCheck rfl) (qV rfl (R.fieldAddr (off' := 0) rfl underlying95 rfl sizeOf81 rfl rfl) (qV rfl (R.load1 rfl isAgg81 (h_00.ok _ M0) Sg.h) (qV rfl (R.lenS (a := ka) (m := (128 * mn)) rfl rfl underlying81) ?_)))))
 refine WL.call Tryz.call51 rfl rfl (c_Read bm ma mn 0 (128 * mn) (by omega) (by omega) (by omega) l hl _ (h_00.argR M2) (viewV (h_00.ok _ M3))) rfl ?_
 rintro _ w_3 ⟨a_1, cap_2, rfl, hc_4, ho_5⟩
 have h_6 := h_00.gotRow hc_4 ho_5
 refine qM (.tuple [(.slice a_1 (128 * mn) cap_2), (vi 0)].toArray) rfl rfl (qV rfl (R.extract rfl rfl) (qV rfl (R.extract rfl rfl) (qA (.slice a_1 (128 * mn) cap_2) rfl rfl (qA (vi 0) rfl rfl ?_))))
 refine WL.nil (thn_n (WP.seq ?_))
 refine WP.drawT (SL w.heap.size [.row a_1 (128 * mn) cap_2 5 1 (((l.drop 0).take (128 * mn)).map vu8), .blk bk .ro 95 [(1, [(.slice ka (128 * mn) (128 * mn))])], .view ka (l.map vu8), .blk bm .ro 112 [(1, [(.slice ma mn mn)])], .view ma (l.map vu8)]) (.q 0 (.s 1 (.q 2 (.q 3 (.q 4 (.q 5 (.q 6 (.q 7 (.q 8 (.q 9 (.q 10 (.q 11 (.q 12 (.q 13 .nil)))))))))))))) (by kernel_rfl) (by kernel_rfl) rfl (by kernel_rfl) (fun w_7 hc_9 => (SL.cons ((h_6.same hc_9).ok _ M0) (SL.cons ((h_6.same hc_9).ok _ M1) (SL.cons ((h_6.same hc_9).ok _ M2) (SL.cons ((h_6.same hc_9).ok _ M3) (SL.cons ((h_6.same hc_9).ok _ M4) (SL.nil _ _))))))) (fun w_7 hc_9 => ?_)
 have h_8 := h_6.same hc_9
 refine qT rfl rfl (fun wq hS => R.move (v := (vi 0)) rfl) ?_
 refine WT.s (oN rfl ?_)
 refine WL.call Tryz.call17 rfl rfl (c_num15 0 (by omega) _ ) rfl ?_
 rintro _ w_11 ⟨rfl, hc_10⟩
 have h_12 := h_8.same hc_10
 refine WL.nil ?_
 refine ⟨(SL.cons (h_12.ok _ M0) (SL.cons (h_12.ok _ M1) (SL.cons (h_12.ok _ M2) (SL.cons (h_12.ok _ M3) (SL.cons (h_12.ok _ M4) (SL.nil _ _)))))), ?_⟩
 refine qT rfl rfl (fun wq hS => R.bin rfl rfl (bi_eql (r := true) (by decide))) ?_
 refine qT rfl rfl (fun wq hS => R.move (v := (.bool true)) rfl) ?_
 refine WT.q rfl (Wn.yes rfl rfl rfl) rfl rfl (fun wq hS => R.move (v := (.slice a_1 (128 * mn) cap_2)) rfl) ?_
 refine WT.q rfl (Wn.yes rfl rfl rfl) rfl rfl (fun wq hS => R.toStr (bs := (l.drop 0).take (128 * mn)) rfl underlying81 underlying5 underlying9 (ownView (hS _ M0)) (subLen (K := 128 * mn) hl (by omega) : List.length ((l.drop 0).take (128 * mn)) = (128 * mn))) ?_
 refine WT.q rfl (Wn.yes rfl rfl rfl) rfl rfl (fun wq hS => R.move (v := (pO bk 0)) rfl) ?_
 refine WT.q rfl (Wn.yes rfl rfl rfl) rfl rfl (fun wq hS => R.nilCheck rfl) ?_
 refine WT.q rfl (Wn.yes rfl rfl rfl) rfl rfl (fun wq hS => R.fieldAddr (off' := 0) rfl underlying95 rfl sizeOf81 rfl rfl) ?_
 refine WT.q rfl (Wn.yes rfl rfl rfl) rfl rfl (fun wq hS => R.load1 rfl isAgg81 (hS _ M1) Sg.h) ?_
 refine WT.q rfl (Wn.yes rfl rfl rfl) rfl rfl (fun wq hS => R.toStr (bs := l) rfl underlying81 underlying5 underlying9 (viewV (hS _ M2)) hl) ?_
 refine WT.q rfl (Wn.yes rfl rfl rfl) rfl rfl (fun wq hS => R.eqStr (a := (l.drop 0).take (128 * mn)) (b := l) (r := true) rfl rfl (by simp [List.take_of_length_le (Nat.le_of_eq hl)])) ?_
 refine qT rfl rfl (fun wq hS => R.pickT (v := (.bool true)) rfl rfl) ?_
 refine qT rfl rfl (fun wq hS => R.assign (v := (.bool true)) rfl) ?_
 refine WT.nil (thn_n (WP.ret ?_))
 refine ret_of results24 (RV.tmp (v := (.bool true)) rfl RV.nil) ?_
 exact ⟨rfl, h_12.chgS⟩
end Go.Proofs.YtbhllplbbkmndaaGreat
