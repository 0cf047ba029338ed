/- Rules for walks and contracts of the functions that the law reaches, one behind the other. Conditions: none beyond what each theorem states. -/
import Derived.Test.YtbhllplbbkmndaaZ3TreeMeans
set_option linter.unusedVariables false
set_option linter.unusedSimpArgs false
set_option linter.unusedSectionVars false
namespace Go.Proofs.Ytbhllplbbkmndaa
open Go.Vc Go.Orc Go.Sh Go.RowKit
set_option maxRecDepth 20000
theorem pl86 : ∀ fs, Try.prog.underlying 86 = some (.struct fs) → Places Try.prog fs [(0, 1)] := by
  intro fs h w; rw [Try.underlying86] at h; cases h; simp
theorem c_MNewG {w00 : World} {L : List Ent} (n : Nat) (h1 : 1 ≤ n) (h2 : n ≤ 100) (w : World) (h_0 : HP w00 w (L)) :
    Cs Try.prog 18 [(vi ((n : Nat) : Int))].toArray w (fun v w1 => ∃ bm ma, v = .tuple [.pointer (some ⟨bm, 0, none⟩), vi 0].toArray ∧ HP w00 w1 (Ent.blk bm .nw 84 [(1, [(.slice ma n n)])] :: Ent.row ma n n 65 128 ((List.replicate (128 * n) (0 : UInt8)).map vu8) :: L)) := by
  refine Cs.of (n := 14) (args := [(vi ((n : Nat) : Int))]) Try.func18 rfl rfl rfl ?_
  refine WP.seq ?_
  refine WP.reg ?_
  refine WL.q (Wn.no rfl) rfl rfl (R.assign (v := (.pointer none)) rfl) ?_
  refine WL.q (Wn.no rfl) rfl rfl (R.assign (v := (vi 0)) rfl) ?_
  refine WL.nil ?_
  refine thn_n ?_
  refine WP.seq ?_
  refine WP.seq ?_
  refine WP.reg ?_
  refine WL.q (Wn.no rfl) rfl rfl (R.move (v := (vi ((n : Nat) : Int))) rfl) ?_
  refine WL.q (Wn.no rfl) rfl rfl (R.bin (v := (.bool (decide ((((n : Nat) : Int) : Int) < 1)))) rfl rfl (bi_lss (r := decide ((((n : Nat) : Int) : Int) < 1)) rfl)) ?_
  refine WL.q (Wn.no rfl) rfl rfl (R.move (v := (.bool (decide ((((n : Nat) : Int) : Int) < 1)))) rfl) ?_
  refine WL.want rfl (congrArg Value.bool (decide_eq_false (by omega))) ?_
  refine WL.q (Wn.no rfl) rfl rfl (R.move (v := (vi ((n : Nat) : Int))) rfl) ?_
  refine WL.want rfl (congrArg Value.bool (decide_eq_false (by omega))) ?_
  refine WL.q (Wn.no rfl) rfl rfl (R.bin (v := (.bool (decide ((((n : Nat) : Int) : Int) > 4096)))) rfl rfl (bi_gtr (r := decide ((((n : Nat) : Int) : Int) > 4096)) rfl)) ?_
  refine WL.q (Wn.no rfl) rfl rfl (R.pickF (v := (.bool (decide ((((n : Nat) : Int) : Int) > 4096)))) (congrArg Value.bool (decide_eq_false (by omega))) rfl) ?_
  refine WL.nil ?_
  refine thn_n ?_
  refine WP.condF (congrArg Value.bool (decide_eq_false (by omega))) ?_
  refine WP.skip ?_
  refine thn_n ?_
  refine WP.seq ?_
  refine WP.reg ?_
  refine WL.q (Wn.no rfl) rfl rfl (R.move (v := (vi ((n : Nat) : Int))) rfl) ?_
  refine WL_makeSlA (m := n) (s := 128) (i := Try.t65) (z := vu8 0) h_0 rfl rfl Try.underlying25 rfl rfl rfl (by decide) rfl (by show 128 * _ ≤ _; omega) (by omega) rfl (fun b_1 w_2 h_3 => ?_)
  rw [zeros_mul] at h_3
  refine WL.q (Wn.no rfl) rfl rfl (R.buildS (pl := [(0, 1)]) (zs := [(1, [(.slice none 0 0)])]) (vs := [(0, (.slice (some ⟨b_1, 0, none⟩) n n))]) (out := [(1, [(.slice (some ⟨b_1, 0, none⟩) n n)])]) (cs := [(.slice (some ⟨b_1, 0, none⟩) n n)]) Try.underlying84 (zv Try.typeInfo84 rfl) rfl (SsOk.cons (SOk.v rfl) SsOk.nil) (pl84 _ Try.underlying84) rfl (FillR.cons [] [(1, [(.slice none 0 0)])] [(1, [(.slice (some ⟨b_1, 0, none⟩) n n)])] [] rfl rfl rfl rfl (SsOk.cons (SOk.v rfl) SsOk.nil) rfl rfl rfl FillR.nil) rfl) ?_
  refine WL.box (v := (.agg ⟨[(.slice (some ⟨b_1, 0, none⟩) n n)]⟩)) (segs := [(1, [(.slice (some ⟨b_1, 0, none⟩) n n)])]) h_3 rfl rfl (SsOk.cons (SOk.v rfl) SsOk.nil) rfl (fun b_5 w_6 h_7 => ?_)
  refine WL.q (Wn.no rfl) rfl rfl (R.assign (v := (.pointer (some ⟨b_5, 0, none⟩))) rfl) ?_
  refine WL.q (Wn.no rfl) rfl rfl (R.assign (v := (vi 0)) rfl) ?_
  refine WL.nil ?_
  refine thn_n ?_
  refine WP.ret ?_
  refine ret_of Try.results18 (RV.tmp (v := (.pointer (some ⟨b_5, 0, none⟩))) rfl (RV.tmp (v := (vi 0)) rfl RV.nil)) ?_
  have h_8 := h_7.up (Pick.t Pick.h)
  have h_9 := h_8.up (Pick.t Pick.h)
  exact ⟨_, _, rfl, h_9⟩

theorem c_KNew {w00 : World} {L : List Ent} (n : Nat) (h1 : 1 ≤ n) (h2 : n ≤ 100) (w : World) (h_0 : HP w00 w (L)) :
    Cs Try.prog 21 [(vi ((n : Nat) : Int))].toArray w (fun v w1 => ∃ bk ka, v = .pointer (some ⟨bk, 0, none⟩) ∧ HP w00 w1 (Ent.blk bk .nw 86 [(1, [(.slice ka (128 * n) (128 * n))])] :: Ent.row ka (128 * n) (128 * n) 5 1 ((List.replicate (128 * n) (0 : UInt8)).map vu8) :: L)) := by
  refine Cs.of (n := 8) (args := [(vi ((n : Nat) : Int))]) Try.func21 rfl rfl rfl ?_
  refine WP.seq ?_
  refine WP.reg ?_
  refine WL.q (Wn.no rfl) rfl rfl (R.assign (v := (.pointer none)) rfl) ?_
  refine WL.nil ?_
  refine thn_n ?_
  refine WP.seq ?_
  refine WP.reg ?_
  refine WL.q (Wn.no rfl) rfl rfl (R.move (v := (vi ((n : Nat) : Int))) rfl) ?_
  refine WL.q (Wn.no rfl) rfl rfl (R.bin (v := (vi ((128 * n : Nat) : Int))) rfl rfl (bi_mul (c := ((128 * n : Nat) : Int)) (by omega) (by omega))) ?_
  refine WL.makeSl (m := 128 * n) (i := Try.t5) (z := vu8 0) h_0 rfl rfl Try.underlying72 rfl rfl rfl rfl (by show 1 * _ ≤ _; omega) (by omega) rfl (fun b_1 w_2 h_3 => ?_)
  rw [show List.replicate (128 * n) (vu8 0) = (List.replicate (128 * n) (0 : UInt8)).map vu8 from (List.map_replicate ..).symm] at h_3
  refine WL.q (Wn.no rfl) rfl rfl (R.buildS (pl := [(0, 1)]) (zs := [(1, [(.slice none 0 0)])]) (vs := [(0, (.slice (some ⟨b_1, 0, none⟩) (128 * n) (128 * n)))]) (out := [(1, [(.slice (some ⟨b_1, 0, none⟩) (128 * n) (128 * n))])]) (cs := [(.slice (some ⟨b_1, 0, none⟩) (128 * n) (128 * n))]) Try.underlying86 (zv Try.typeInfo86 rfl) rfl (SsOk.cons (SOk.v rfl) SsOk.nil) (pl86 _ Try.underlying86) rfl (FillR.cons [] [(1, [(.slice none 0 0)])] [(1, [(.slice (some ⟨b_1, 0, none⟩) (128 * n) (128 * n))])] [] rfl rfl rfl rfl (SsOk.cons (SOk.v rfl) SsOk.nil) rfl rfl rfl FillR.nil) rfl) ?_
  refine WL.box (v := (.agg ⟨[(.slice (some ⟨b_1, 0, none⟩) (128 * n) (128 * n))]⟩)) (segs := [(1, [(.slice (some ⟨b_1, 0, none⟩) (128 * n) (128 * n))])]) h_3 rfl rfl (SsOk.cons (SOk.v rfl) SsOk.nil) rfl (fun b_6 w_7 h_8 => ?_)
  refine WL.q (Wn.no rfl) rfl rfl (R.assign (v := (.pointer (some ⟨b_6, 0, none⟩))) rfl) ?_
  refine WL.nil ?_
  refine thn_n ?_
  refine WP.ret ?_
  refine ret_of Try.results21 (RV.tmp (v := (.pointer (some ⟨b_6, 0, none⟩))) rfl RV.nil) ?_
  have h_9 := h_8.up (Pick.t Pick.h)
  have h_10 := h_9.up (Pick.t Pick.h)
  exact ⟨_, _, rfl, h_10⟩

theorem c_wrong (bm : Nat) (ma : Option Addr) (mn k : Nat) (hk : k < mn) (w : World) (hcm : (Ent.blk bm .ro 84 [(1, [(.slice ma mn mn)])]).ok w.heap.size w) :
    Cs Try.prog 36 [(.pointer (some ⟨bm, 0, none⟩)), (vi ((k : Nat) : Int))].toArray w (fun v w1 => v = (vi 0) ∧ Chg w w1 []) := by
  refine Cs.of (n := 21) (args := [(.pointer (some ⟨bm, 0, none⟩)), (vi ((k : Nat) : Int))]) Try.func36 rfl rfl rfl ?_
  have h_0 := HP.init w
  have h_00 := h_0.old hcm (fun f hf => by cases hf)
  refine WP.seq ?_
  refine WP.reg ?_
  refine WL.q (Wn.no rfl) rfl rfl (R.assign (v := (vi 0)) rfl) ?_
  refine WL.nil ?_
  refine thn_n ?_
  refine WP.seq ?_
  refine WP.block ?_
  refine WP.seq ?_
  refine WP.reg ?_
  refine WL.q (Wn.no rfl) rfl rfl (R.move (v := (.pointer (some ⟨bm, 0, none⟩))) rfl) ?_
  refine WL.call (al := [(.pointer (some ⟨bm, 0, none⟩))]) Try.call37 rfl rfl (c_gran bm ma mn _ (h_00.argR (.head _))) rfl ?_
  rintro _ w_2 ⟨rfl, hc_1⟩
  have h_3 := h_00.same hc_1
  refine WL.q (Wn.no rfl) rfl rfl (R.bin (v := (.bool (decide ((((mn : Nat) : Int) : Int) = 0)))) rfl rfl (bi_eql (r := decide ((((mn : Nat) : Int) : Int) = 0)) rfl)) ?_
  refine WL.q (Wn.no rfl) rfl rfl (R.assign (v := (.bool (decide ((((mn : Nat) : Int) : Int) = 0)))) rfl) ?_
  refine WL.nil ?_
  refine thn_n ?_
  refine WP.condF (congrArg Value.bool (decide_eq_false (by omega))) ?_
  refine WP.seq ?_
  refine WP.reg ?_
  refine WL.q (Wn.no rfl) rfl rfl (R.move (v := (vi ((k : Nat) : Int))) rfl) ?_
  refine WL.q (Wn.no rfl) rfl rfl (R.bin (v := (.bool (decide ((((k : Nat) : Int) : Int) < 0)))) rfl rfl (bi_lss (r := decide ((((k : Nat) : Int) : Int) < 0)) rfl)) ?_
  refine WL.q (Wn.no rfl) rfl rfl (R.move (v := (.bool (decide ((((k : Nat) : Int) : Int) < 0)))) rfl) ?_
  refine WL.want rfl (congrArg Value.bool (decide_eq_false (by omega))) ?_
  refine WL.q (Wn.no rfl) rfl rfl (R.move (v := (vi ((k : Nat) : Int))) rfl) ?_
  refine WL.want rfl (congrArg Value.bool (decide_eq_false (by omega))) ?_
  refine WL.q (Wn.no rfl) rfl rfl (R.move (v := (.pointer (some ⟨bm, 0, none⟩))) rfl) ?_
  refine WL.want rfl (congrArg Value.bool (decide_eq_false (by omega))) ?_
  refine WL.q (Wn.no rfl) rfl rfl (R.nilCheck rfl) ?_
  refine WL.want rfl (congrArg Value.bool (decide_eq_false (by omega))) ?_
  refine WL.q (Wn.no rfl) rfl rfl (R.fieldAddr (b := bm) (off := 0) (off' := 0) rfl Try.underlying84 rfl Try.sizeOf25 rfl rfl) ?_
  refine WL.want rfl (congrArg Value.bool (decide_eq_false (by omega))) ?_
  refine WL.q (Wn.no rfl) rfl rfl (R.load1 (b := bm) (off := 0) (v := (.slice ma mn mn)) rfl Try.isAgg25 (h_3.ok _ (.head _)) Sg.h) ?_
  refine WL.want rfl (congrArg Value.bool (decide_eq_false (by omega))) ?_
  refine WL.q (Wn.no rfl) rfl rfl (R.lenS (a := ma) (m := mn) rfl rfl Try.underlying25) ?_
  refine WL.want rfl (congrArg Value.bool (decide_eq_false (by omega))) ?_
  refine WL.q (Wn.no rfl) rfl rfl (R.bin (v := (.bool (decide ((((k : Nat) : Int) : Int) ≥ ((mn : Nat) : Int))))) rfl rfl (bi_geq (r := decide ((((k : Nat) : Int) : Int) ≥ ((mn : Nat) : Int))) rfl)) ?_
  refine WL.q (Wn.no rfl) rfl rfl (R.pickF (v := (.bool (decide ((((k : Nat) : Int) : Int) ≥ ((mn : Nat) : Int))))) (congrArg Value.bool (decide_eq_false (by omega))) rfl) ?_
  refine WL.q (Wn.no rfl) rfl rfl (R.assign (v := (.bool (decide ((((k : Nat) : Int) : Int) ≥ ((mn : Nat) : Int))))) rfl) ?_
  refine WL.nil ?_
  refine thn_n ?_
  refine WP.condF (congrArg Value.bool (decide_eq_false (by omega))) ?_
  refine WP.skip ?_
  refine inb_n ?_
  refine thn_n ?_
  refine WP.seq ?_
  refine WP.reg ?_
  refine WL.q (Wn.no rfl) rfl rfl (R.assign (v := (vi 0)) rfl) ?_
  refine WL.nil ?_
  refine thn_n ?_
  refine WP.ret ?_
  refine ret_of Try.results36 (RV.tmp (v := (vi 0)) rfl RV.nil) ?_
  exact ⟨rfl, h_3.chgS⟩

theorem c_MPut {w00 : World} {L : List Ent} (bm : Nat) (ma : Option Addr) (n g : Nat) (hg : g < n) (hn : n ≤ 100) (l c : List UInt8) (hl : l.length = 128 * n) (hc : c.length = 128) (w : World) (h_0 : HP w00 w (Ent.blk bm .nw 84 [(1, [(.slice ma n n)])] :: Ent.row ma n n 65 128 (l.map vu8) :: L)) :
    Cs Try.prog 22 [(.pointer (some ⟨bm, 0, none⟩)), (vi ((g : Nat) : Int)), (.agg ⟨c.map vu8⟩)].toArray w (fun v w1 => v = vi 0 ∧ HP w00 w1 (Ent.blk bm .nw 84 [(1, [(.slice ma n n)])] :: Ent.row ma n n 65 128 ((ovr l (g * 128) c).map vu8) :: L)) := by
  refine Cs.of (n := 21) (args := [(.pointer (some ⟨bm, 0, none⟩)), (vi ((g : Nat) : Int)), (.agg ⟨c.map vu8⟩)]) Try.func22 rfl rfl rfl ?_
  refine WP.seq ?_
  refine WP.reg ?_
  refine WL.box (v := (.agg ⟨c.map vu8⟩)) (segs := [(128, c.map vu8)]) h_0 rfl rfl (SsOk.cons (SOk.u8 hc) SsOk.nil) rfl (fun b_1 w_2 h_3 => ?_)
  refine WL.q (Wn.no rfl) rfl rfl (R.assign (v := (vi 0)) rfl) ?_
  refine WL.nil ?_
  refine thn_n ?_
  refine WP.seq ?_
  refine WP.seq ?_
  refine WP.reg ?_
  refine WL.q (Wn.no rfl) rfl rfl (R.move (v := (.pointer (some ⟨bm, 0, none⟩))) rfl) ?_
  refine WL.q (Wn.no rfl) rfl rfl (R.move (v := (vi ((g : Nat) : Int))) rfl) ?_
  refine WL.call (al := [(.pointer (some ⟨bm, 0, none⟩)), (vi ((g : Nat) : Int))]) Try.call36 rfl rfl (c_wrong bm ma n g (by omega) _ (h_3.argR (.tail _ (.head _)))) rfl ?_
  rintro _ w_5 ⟨rfl, hc_4⟩
  have h_6 := h_3.same hc_4
  refine WL.q (Wn.no rfl) rfl rfl (R.assign (v := (vi 0)) rfl) ?_
  refine WL.nil ?_
  refine thn_n ?_
  refine WP.seq ?_
  refine WP.reg ?_
  refine WL.q (Wn.no rfl) rfl rfl (R.move (v := (vi 0)) rfl) ?_
  refine WL.q (Wn.no rfl) rfl rfl (R.bin (v := (.bool false)) rfl rfl (bi_neq (r := false) (by decide))) ?_
  refine WL.nil ?_
  refine thn_n ?_
  refine WP.condF rfl ?_
  refine WP.skip ?_
  refine thn_n ?_
  refine WP.seq ?_
  refine WP.drawZ 7 (SL w00.heap.size [.blk b_1 .nw 65 [(128, c.map vu8)], .blk bm .nw 84 [(1, [(.slice ma n n)])], .row ma n n 65 128 (l.map vu8)]) (.q 0 (.q 1 (.q 2 (.q 3 (.q 4 (.q 5 (.q 6 (.s 7 .nil)))))))) (by kernel_rfl) (by kernel_rfl) rfl (by kernel_rfl) (fun w_7 hc_9 => (SL.cons ((h_6.same hc_9).ok _ (.head _)) (SL.cons ((h_6.same hc_9).ok _ (.tail _ (.head _))) (SL.cons ((h_6.same hc_9).ok _ (.tail _ (.tail _ (.head _)))) (SL.nil _ _))))) (fun w_7 hc_9 => ?_)
  have h_8 := h_6.same hc_9
  refine ZT.q rfl (Wn.no rfl) rfl rfl (fun wq hS => R.move (v := (.pointer (some ⟨bm, 0, none⟩))) rfl) ?_
  refine ZT.q rfl (Wn.no rfl) rfl rfl (fun wq hS => R.nilCheck rfl) ?_
  refine ZT.q rfl (Wn.no rfl) rfl rfl (fun wq hS => R.fieldAddr (b := bm) (off := 0) (off' := 0) rfl Try.underlying84 rfl Try.sizeOf25 rfl rfl) ?_
  refine ZT.q rfl (Wn.no rfl) rfl rfl (fun wq hS => R.load1 (b := bm) (off := 0) (v := (.slice ma n n)) rfl Try.isAgg25 (hS _ (.tail _ (.head _))) Sg.h) ?_
  refine ZT.q rfl (Wn.no rfl) rfl rfl (fun wq hS => R.move (v := (vi ((g : Nat) : Int))) rfl) ?_
  refine ZT.q rfl (Wn.no rfl) rfl rfl (fun wq hS => R.loadA (b := b_1) (off := 0) [] [(128, c.map vu8)] [] (cs := c.map vu8) rfl Try.isAgg65 Try.sizeOf65 (hS _ (.head _)) rfl rfl rfl rfl) ?_
  refine ZT.q rfl (Wn.no rfl) rfl rfl (fun wq hS => R.indexS (a := ma) (i := g) (off := g * 128) (xs := l.map vu8) rfl rfl rfl (by omega) (ownView (hS _ (.tail _ (.tail _ (.head _))))) (lt_len (K := 128 * n) (len_map hl) (by omega)) Try.underlying25 Try.sizeOf65 rfl) ?_
  refine ZT.s ?_
  refine OpZ.last rfl (Wn.no rfl) ?_
  refine WL.storeRA (a := ma) (i := g * 128) (ys := c.map vu8) (xs' := (ovr l (g * 128) c).map vu8) h_8 rfl rfl Try.sizeOf65 (len_map hc) (by decide) (one_u8 _) (At.t (At.t At.h)) (by rw [len_map hl]; omega) (ovr_map hc) (fun w_10 h_11 => ?_)
  refine WL.nil ?_
  refine ZT.nil ?_
  refine thn_n ?_
  refine WP.seq ?_
  refine WP.reg ?_
  refine WL.q (Wn.no rfl) rfl rfl (R.assign (v := (vi 0)) rfl) ?_
  refine WL.nil ?_
  refine thn_n ?_
  refine WP.ret ?_
  refine ret_of Try.results22 (RV.tmp (v := (vi 0)) rfl RV.nil) ?_
  have h_12 := h_11.drop rfl
  have h_13 := h_12.up (Pick.t Pick.h)
  have h_14 := h_13.up (Pick.t Pick.h)
  exact ⟨rfl, h_14⟩

theorem c_KPut {w00 : World} {L : List Ent} (bk : Nat) (ka : Option Addr) (n g : Nat) (hg : g < n) (hn : n ≤ 100) (l c : List UInt8) (hl : l.length = 128 * n) (hc : c.length = 128) (w : World) (h_0 : HP w00 w (Ent.blk bk .nw 86 [(1, [(.slice ka (128 * n) (128 * n))])] :: Ent.row ka (128 * n) (128 * n) 5 1 (l.map vu8) :: L)) :
    Cs Try.prog 23 [(.pointer (some ⟨bk, 0, none⟩)), (vi ((g : Nat) : Int)), (.agg ⟨c.map vu8⟩)].toArray w (fun v w1 => v = .tuple [].toArray ∧ HP w00 w1 (Ent.blk bk .nw 86 [(1, [(.slice ka (128 * n) (128 * n))])] :: Ent.row ka (128 * n) (128 * n) 5 1 ((ovr l (g * 128) c).map vu8) :: L)) := by
  refine Cs.of (n := 15) (args := [(.pointer (some ⟨bk, 0, none⟩)), (vi ((g : Nat) : Int)), (.agg ⟨c.map vu8⟩)]) Try.func23 rfl rfl rfl ?_
  refine WP.seq ?_
  refine WP.reg ?_
  refine WL.box (v := (.agg ⟨c.map vu8⟩)) (segs := [(128, c.map vu8)]) h_0 rfl rfl (SsOk.cons (SOk.u8 hc) SsOk.nil) rfl (fun b_1 w_2 h_3 => ?_)
  refine WL.nil ?_
  refine thn_n ?_
  refine WP.drawT (SL w00.heap.size [.blk b_1 .nw 65 [(128, c.map vu8)], .blk bk .nw 86 [(1, [(.slice ka (128 * n) (128 * n))])]]) (.q 0 (.q 1 (.q 2 (.q 3 (.q 4 (.q 5 (.q 6 (.q 7 (.s 8 .nil))))))))) (by kernel_rfl) (by kernel_rfl) rfl (by kernel_rfl) (fun w_4 hc_6 => (SL.cons ((h_3.same hc_6).ok _ (.head _)) (SL.cons ((h_3.same hc_6).ok _ (.tail _ (.head _))) (SL.nil _ _)))) (fun w_4 hc_6 => ?_)
  have h_5 := h_3.same hc_6
  refine WT.q rfl (Wn.no rfl) rfl rfl (fun wq hS => R.move (v := (.pointer (some ⟨bk, 0, none⟩))) rfl) ?_
  refine WT.q rfl (Wn.no rfl) rfl rfl (fun wq hS => R.nilCheck rfl) ?_
  refine WT.q rfl (Wn.no rfl) rfl rfl (fun wq hS => R.fieldAddr (b := bk) (off := 0) (off' := 0) rfl Try.underlying86 rfl Try.sizeOf72 rfl rfl) ?_
  refine WT.q rfl (Wn.no rfl) rfl rfl (fun wq hS => R.load1 (b := bk) (off := 0) (v := (.slice ka (128 * n) (128 * n))) rfl Try.isAgg72 (hS _ (.tail _ (.head _))) Sg.h) ?_
  refine WT.q rfl (Wn.no rfl) rfl rfl (fun wq hS => R.move (v := (vi ((g : Nat) : Int))) rfl) ?_
  refine WT.q rfl (Wn.no rfl) rfl rfl (fun wq hS => R.bin (v := (vi ((128 * g : Nat) : Int))) rfl rfl (bi_mul (c := ((128 * g : Nat) : Int)) (by omega) (by omega))) ?_
  refine WT.q rfl (Wn.no rfl) rfl rfl (fun wq hS => R.sliceS (a := ka) (len := (128 * n)) (l := 128 * g) (h := (128 * n)) rfl (EvB.it (l := 128 * g) rfl rfl) EvB.dflt (by omega) (by omega) Try.underlying72 Try.sizeOf5) ?_
  refine WT.q rfl (Wn.no rfl) rfl rfl (fun wq hS => R.sliceA (b := b_1) (off := 0) (off' := 0) (l := 0) (h := 128) rfl EvB.dflt EvB.dflt (by decide) (by decide) Try.underlying65 Try.sizeOf5 rfl) ?_
  refine WT.s ?_
  refine Op1.one rfl (Wn.no rfl) ?_
  refine WL.copyR (q := 128) (i := 128 * g) (ys := c.map vu8) (xs' := (ovr l (128 * g) c).map vu8) h_5 rfl rfl Try.underlying72 Try.sizeOf5 (viewB (h_5.ok _ (.head _)) Sg.h) (len_map hc) (one_u8 _) (At.t (At.t At.h)) (slA_at (by omega)) (Nat.min_eq_left (by omega)) (by omega) (by rw [len_map hl]; omega) (ovr_mapQ hc) rfl (fun w_7 h_8 => ?_)
  refine WL.nil ?_
  refine ⟨(SL.cons (h_8.ok _ (.head _)) (SL.cons (h_8.ok _ (.tail _ (.head _))) (SL.nil _ _))), ?_⟩
  refine WT.nil ?_
  refine ret_n ?_
  refine ret_of Try.results23 RV.nil ?_
  have h_9 := h_8.drop rfl
  have h_10 := h_9.up (Pick.t Pick.h)
  have h_11 := h_10.up (Pick.t Pick.h)
  rw [Nat.mul_comm 128 g] at h_11
  exact ⟨rfl, h_11⟩
end Go.Proofs.Ytbhllplbbkmndaa

namespace Go.Proofs.Ytbhllplbbkmndaa
open Go.Proofs.Try
open Go.Vc Go.Orc Go.Sh Go.RowKit
set_option maxRecDepth 20000

theorem c_Of (a : Nat) (ha : a < 1099511627776) (w : World) :
  Cs Try.prog 40 [(vu64 (UInt64.ofNat a))].toArray w (fun v w1 => v = (.tuple [(vi ((a / 128 : Nat) : Int)), (vi ((a % 128 : Nat) : Int))].toArray) ∧ Chg w w1 []) := by
 refine Cs.of (n := 10) (args := [(vu64 (UInt64.ofNat a))]) Try.func40 rfl rfl rfl ?_
 have h_0 := HP.init w
 refine WP.seq (WP.reg ?_)
 refine qA (vi 0) rfl rfl (qA (vi 0) rfl rfl ?_)
 refine WL.nil (thn_n (WP.seq (WP.reg ?_)))
 refine qM (vu64 (UInt64.ofNat a)) rfl rfl (qV rfl (R.binR (v := vu64 (shr64 (UInt64.ofNat a) 7)) rfl rfl (run_shr64 _ _ _ (UInt64.ofNat a) _ 7)) (qV rfl (R.conv (b := u2i (shr64 (UInt64.ofNat a) 7)) rfl underlying26 underlying3 (wi64_u (shr64 (UInt64.ofNat a) 7))) (qM (vu64 (UInt64.ofNat a)) rfl rfl (qV rfl (R.bin rfl rfl (b64_and (UInt64.ofNat a) 127)) (qV rfl (R.conv (b := u2i ((UInt64.ofNat a) &&& 127)) rfl underlying26 underlying3 (wi64_u ((UInt64.ofNat a) &&& 127))) (qA (vi (u2i (shr64 (UInt64.ofNat a) 7))) rfl rfl (qA (vi (u2i ((UInt64.ofNat a) &&& 127))) rfl rfl ?_)))))))
 refine WL.nil (thn_n (WP.ret ?_))
 refine ret_of results40 (RV.tmp (v := (vi (u2i (shr64 (UInt64.ofNat a) 7)))) rfl (RV.tmp (v := (vi (u2i ((UInt64.ofNat a) &&& 127)))) rfl RV.nil)) ?_
 exact ⟨by rw [of_gi ha, of_ai ha]; rfl, h_0.chgS⟩

theorem c_place (p i : Nat) (w : World) :
  Cs Try.prog 27 [(vu64 (UInt64.ofNat p)), (vi ((i : Nat) : Int))].toArray w (fun v w1 => v = (vu64 (UInt64.ofNat (p + 32 * i))) ∧ Chg w w1 []) := by
 refine Cs.of (n := 10) (args := [(vu64 (UInt64.ofNat p)), (vn i)]) Try.func27 rfl rfl rfl ?_
 have h_0 := HP.init w
 refine WP.seq (WP.reg ?_)
 refine qA (vu64 0) rfl rfl ?_
 refine WL.nil (thn_n (WP.seq (WP.reg ?_)))
 refine qM (vu64 (UInt64.ofNat p)) rfl rfl (qM (vn i) rfl rfl (qV rfl (R.conv (b := ((UInt64.ofNat i) : UInt64).toNat) rfl underlying3 underlying26 (w64_nat i)) (qV rfl (R.bin rfl rfl (b64_mul 32 (UInt64.ofNat i))) (qV rfl (R.bin rfl rfl (b64_add (UInt64.ofNat p) ((32 : UInt64) * (UInt64.ofNat i)))) (qA (vu64 ((UInt64.ofNat p) + ((32 : UInt64) * (UInt64.ofNat i)))) rfl rfl ?_)))))
 refine WL.nil (thn_n (WP.ret ?_))
 refine ret_of results27 (RV.tmp (v := (vu64 ((UInt64.ofNat p) + ((32 : UInt64) * (UInt64.ofNat i))))) rfl RV.nil) ?_
 exact ⟨congrArg vu64 place_of, h_0.chgS⟩

theorem c_mwin (bm : Nat) (ma : Option Addr) (mn : Nat) (a k : Nat) (h : a + k ≤ 128 * mn) (hm : mn ≤ 100) (w : World) (hcm : (Ent.blk bm .ro 84 [(1, [(.slice ma mn mn)])]).ok w.heap.size w) :
  Cs Try.prog 39 [(.pointer (some ⟨bm, 0, none⟩)), (vu64 (UInt64.ofNat a)), (vi ((k : Nat) : Int))].toArray w (fun v w1 => v = (.bool true) ∧ Chg w w1 []) := by
 refine Cs.of (n := 28) (args := [(pO bm 0), (vu64 (UInt64.ofNat a)), (vn k)]) Try.func39 rfl rfl rfl ?_
 have h_0 := HP.init w
 have h_00 := h_0.old hcm (fun f hf => by cases hf)
 refine WP.seq (WP.reg ?_)
 refine qA (.bool false) rfl rfl ?_
 refine WL.nil (thn_n (WP.seq (WP.reg ?_)))
 refine qM (pO bm 0) rfl rfl ?_
 refine WL.call Try.call37 rfl rfl (c_gran bm ma mn _ (h_00.argR M0)) rfl ?_
 rintro _ w_2 ⟨rfl, hc_1⟩
 have h_3 := h_00.same hc_1
 refine qV rfl (R.conv (b := ((UInt64.ofNat mn) : UInt64).toNat) rfl underlying3 underlying26 (w64_nat mn)) (qV rfl (R.bin rfl rfl (b64_mul (UInt64.ofNat mn) 128)) (qA (vu64 ((UInt64.ofNat mn) * 128)) rfl rfl ?_))
 refine WL.nil (thn_n (WP.seq (WP.reg ?_)))
 refine qM (vn k) rfl rfl (qV rfl (R.bin rfl rfl (bi_eql (r := decide ((((k : Nat) : Int) : Int) = 0)) rfl)) (qM (.bool (decide ((((k : Nat) : Int) : Int) = 0))) rfl rfl ?_))
 rcases Bool.eq_false_or_eq_true (decide ((((k : Nat) : Int) : Int) = 0)) with c_4 | c_4
 ·have p_5 := of_decide_eq_true c_4
  refine WL.skip rfl (congrArg Value.bool c_4) rfl ?_
  refine WL.skip rfl (congrArg Value.bool c_4) rfl ?_
  refine WL.skip rfl (congrArg Value.bool c_4) rfl ?_
  refine WL.skip rfl (congrArg Value.bool c_4) rfl ?_
  refine WL.skip rfl (congrArg Value.bool c_4) rfl ?_
  refine WL.skipU rfl rfl rfl ?_
  refine WL.skipU rfl rfl rfl ?_
  refine WL.skipU rfl rfl rfl ?_
  refine WL.skipU rfl rfl rfl ?_
  refine WL.skipU rfl rfl rfl ?_
  refine WL.skipU rfl rfl rfl ?_
  refine WL.skip rfl (congrArg Value.bool c_4) rfl ?_
  refine qV rfl (R.pickT (v := (.bool true)) (congrArg Value.bool c_4) rfl) (qA (.bool true) rfl rfl ?_)
  refine WL.nil (thn_n (WP.ret ?_))
  refine ret_of results39 (RV.tmp (v := (.bool true)) rfl RV.nil) ?_
  exact ⟨rfl, h_3.chgS⟩
 ·have p_6 := of_decide_eq_false c_4
  refine WL.want rfl (congrArg Value.bool c_4) ?_
  refine qM (vn k) rfl rfl ?_
  refine WL.want rfl (congrArg Value.bool c_4) ?_
  refine qV rfl (R.conv (b := ((UInt64.ofNat k) : UInt64).toNat) rfl underlying3 underlying26 (w64_nat k)) ?_
  refine WL.want rfl (congrArg Value.bool c_4) ?_
  refine qM (vu64 ((UInt64.ofNat mn) * 128)) rfl rfl ?_
  refine WL.want rfl (congrArg Value.bool c_4) ?_
  refine qV rfl (R.bin (v := (.bool (decide ((UInt64.ofNat k : UInt64) ≤ ((UInt64.ofNat mn) * 128))))) rfl rfl (b64_leq (UInt64.ofNat k) ((UInt64.ofNat mn) * 128) (r := decide ((UInt64.ofNat k : UInt64) ≤ ((UInt64.ofNat mn) * 128))) rfl)) ?_
  refine WL.want rfl (congrArg Value.bool c_4) ?_
  refine qM (.bool (decide ((UInt64.ofNat k : UInt64) ≤ ((UInt64.ofNat mn) * 128)))) rfl rfl ?_
  refine WL.want rfl (congrArg Value.bool (decide_eq_true (wi_1 h hm))) ?_
  refine qM (vu64 (UInt64.ofNat a)) rfl rfl ?_
  refine WL.want rfl (congrArg Value.bool (decide_eq_true (wi_1 h hm))) ?_
  refine qM (vu64 ((UInt64.ofNat mn) * 128)) rfl rfl ?_
  refine WL.want rfl (congrArg Value.bool (decide_eq_true (wi_1 h hm))) ?_
  refine qM (vn k) rfl rfl ?_
  refine WL.want rfl (congrArg Value.bool (decide_eq_true (wi_1 h hm))) ?_
  refine qV rfl (R.conv (b := ((UInt64.ofNat k) : UInt64).toNat) rfl underlying3 underlying26 (w64_nat k)) ?_
  refine WL.want rfl (congrArg Value.bool (decide_eq_true (wi_1 h hm))) ?_
  refine qV rfl (R.bin rfl rfl (b64_sub ((UInt64.ofNat mn) * 128) (UInt64.ofNat k))) ?_
  refine WL.want rfl (congrArg Value.bool (decide_eq_true (wi_1 h hm))) ?_
  refine qV rfl (R.bin (v := (.bool (decide ((UInt64.ofNat a : UInt64) ≤ (((UInt64.ofNat mn) * 128) - (UInt64.ofNat k)))))) rfl rfl (b64_leq (UInt64.ofNat a) (((UInt64.ofNat mn) * 128) - (UInt64.ofNat k)) (r := decide ((UInt64.ofNat a : UInt64) ≤ (((UInt64.ofNat mn) * 128) - (UInt64.ofNat k)))) rfl)) ?_
  refine WL.want rfl (congrArg Value.bool c_4) ?_
  refine qV rfl (R.pickT (v := (.bool (decide ((UInt64.ofNat a : UInt64) ≤ (((UInt64.ofNat mn) * 128) - (UInt64.ofNat k)))))) (congrArg Value.bool (decide_eq_true (wi_1 h hm))) rfl) (qV rfl (R.pickF (v := (.bool (decide ((UInt64.ofNat a : UInt64) ≤ (((UInt64.ofNat mn) * 128) - (UInt64.ofNat k)))))) (congrArg Value.bool c_4) rfl) (qA (.bool (decide ((UInt64.ofNat a : UInt64) ≤ (((UInt64.ofNat mn) * 128) - (UInt64.ofNat k))))) rfl rfl ?_))
  refine WL.nil (thn_n (WP.ret ?_))
  refine ret_of results39 (RV.tmp (v := (.bool (decide ((UInt64.ofNat a : UInt64) ≤ (((UInt64.ofNat mn) * 128) - (UInt64.ofNat k)))))) rfl RV.nil) ?_
  exact ⟨congrArg Value.bool (decide_eq_true (wi_2 h hm)), h_3.chgS⟩

theorem c_Read (bm : Nat) (ma : Option Addr) (mn : Nat) (a k : Nat) (h : a + k ≤ 128 * mn) (hm : mn ≤ 100) (hm1 : 1 ≤ mn) (l : List UInt8) (hl : l.length = 128 * mn) (w : World) (hcm : (Ent.blk bm .ro 84 [(1, [(.slice ma mn mn)])]).ok w.heap.size w) (hv : View w ma (l.map vu8)) :
  Cs Try.prog 53 [(.pointer (some ⟨bm, 0, none⟩)), (vu64 (UInt64.ofNat a)), (vi ((k : Nat) : Int))].toArray w (fun v w1 => ∃ a2 cap, v = .tuple [.slice a2 k cap, vi 0].toArray ∧ Chg w w1 [] ∧ Own w.heap.size w1 5 1 a2 k cap (((l.drop a).take k).map vu8)) := by
 refine Cs.of (n := 55) (args := [(pO bm 0), (vu64 (UInt64.ofNat a)), (vn k)]) Try.func53 rfl rfl rfl ?_
 have h_0 := HP.init w
 have h_01 := h_0.oldV (View.arg hv) rfl (by simp [Ent.mut])
 have h_00 := h_01.oldV hcm rfl (by simp [Ent.mut])
 refine WP.seq (WP.reg ?_)
 refine qA (.slice none 0 0) rfl rfl (qA (vi 0) rfl rfl ?_)
 refine WL.nil (thn_n (WP.seq (WP.block (WP.seq (WP.reg ?_)))))
 refine qM (pO bm 0) rfl rfl ?_
 refine WL.call Try.call37 rfl rfl (c_gran bm ma mn _ (h_00.argR M0)) rfl ?_
 rintro _ w_2 ⟨rfl, hc_1⟩
 have h_3 := h_00.same hc_1
 refine qV rfl (R.bin rfl rfl (bi_eql (r := decide ((((mn : Nat) : Int) : Int) = 0)) rfl)) (qA (.bool (decide ((((mn : Nat) : Int) : Int) = 0))) rfl rfl ?_)
 refine WL.nil (thn_n ?_)
 refine WP.condF (congrArg Value.bool (decide_eq_false (by omega))) ?_
 refine WP.seq (WP.reg ?_)
 refine qM (vn k) rfl rfl (qV rfl (R.bin rfl rfl (bi_lss (r := decide ((((k : Nat) : Int) : Int) < 0)) rfl)) (qA (.bool (decide ((((k : Nat) : Int) : Int) < 0))) rfl rfl ?_))
 refine WL.nil (thn_n ?_)
 refine WP.condF (congrArg Value.bool (decide_eq_false (by omega))) ?_
 refine WP.seq (WP.reg ?_)
 refine qM (pO bm 0) rfl rfl (qM (vu64 (UInt64.ofNat a)) rfl rfl (qM (vn k) rfl rfl ?_))
 refine WL.call Try.call39 rfl rfl (c_mwin bm ma mn a k (by omega) (by omega) _ (h_3.argR M0)) rfl ?_
 rintro _ w_5 ⟨rfl, hc_4⟩
 have h_6 := h_3.same hc_4
 refine qV rfl (R.not (b := true) rfl) (qA (.bool false) rfl rfl ?_)
 refine WL.nil (thn_n ?_)
 refine WP.condF rfl ?_
 refine WP.skip (inb_n (thn_n (WP.seq (WP.reg ?_))))
 refine qA (.slice none 0 0) rfl rfl ?_
 refine WL.nil (thn_n (WP.seq (WP.block ?_)))
 have h_7 := h_6.rowNil 5 1
 refine WP.loopG (G := Nat × Option Addr × Nat) [8, 9, 10, 24, 25, 26, 27, 28, 29, 30, 31, 32, 33, 34, 35, 36, 37, 38, 39, 40, 41, 42, 43, 44, 45, 46, 47, 48, 49, 50, 51, 52, 53] (fun (j, ra, rc) => [(8, (.slice ra j rc))]) (fun (j, ra, rc) m w1 => HP w w1 [.row ra j rc 5 1 (((l.drop a).take j).map vu8), .blk bm .ro 84 [(1, [(.slice ma mn mn)])], .view ma (l.map vu8)] ∧ (j ≤ k) ∧ m = k - j) ⟨(0, none, 0), _, ⟨rfl, trivial⟩, h_7, Nat.zero_le _, rfl⟩ ?_
 rintro ⟨j, ra, rc⟩ m_10 J_11 w_8 ⟨h_9, hj, rfl⟩
 refine WP.seq (WP.seq (WP.reg ?_))
 refine qM (.slice ra j rc) rfl rfl (qV rfl (R.lenS (a := ra) (m := j) rfl rfl underlying72) (qM (vn k) rfl rfl (qV rfl (R.bin rfl rfl (bi_lss (r := decide ((((j : Nat) : Int) : Int) < ((k : Nat) : Int))) rfl)) ?_)))
 refine WL.nil (thn_n ?_)
 refine WP.cond (b := decide ((((j : Nat) : Int) : Int) < ((k : Nat) : Int))) rfl (fun c_12 => ?_) (fun c_12 => ?_)
 ·have p_13 := of_decide_eq_true c_12
  refine WP.skip (thn_n (WP.block (WP.seq (WP.reg ?_))))
  refine qM (vu64 (UInt64.ofNat a)) rfl rfl (qM (.slice ra j rc) rfl rfl (qV rfl (R.lenS (a := ra) (m := j) rfl rfl underlying72) (qV rfl (R.conv (b := ((UInt64.ofNat j) : UInt64).toNat) rfl underlying3 underlying26 (w64_nat j)) (qV rfl (R.bin rfl rfl (b64_add (UInt64.ofNat a) (UInt64.ofNat j))) ?_))))
  refine WL.call Try.call40 rfl rfl ((show ∀ w, Cs Try.prog 40 [vu64 ((UInt64.ofNat a) + (UInt64.ofNat j))].toArray w _ from fun w => by rw [add_of]; exact c_Of (a + j) (by omega) w)  _ ) rfl ?_
  rintro _ w_15 ⟨rfl, hc_14⟩
  have h_16 := h_9.same hc_14
  refine qM (.tuple [(vn ((a + j) / 128)), (vn ((a + j) % 128))].toArray) rfl rfl (qV rfl (R.extract rfl rfl) (qV rfl (R.extract rfl rfl) (qA (vn ((a + j) / 128)) rfl rfl (qA (vn ((a + j) % 128)) rfl rfl ?_))))
  refine WL.nil (thn_n (WP.reg ?_))
  refine qM (.slice ra j rc) rfl rfl (qM (pO bm 0) rfl rfl (qV rfl (R.nilCheck rfl) (qV rfl (R.fieldAddr (off' := 0) rfl underlying84 rfl sizeOf25 rfl rfl) (qV rfl (R.load1 rfl isAgg25 (h_16.ok _ M1) Sg.h) (qM (vn ((a + j) / 128)) rfl rfl (qV rfl (R.indexS (a := ma) (i := (a + j) / 128) (off := ((a + j) / 128) * 128) (xs := l.map vu8) rfl rfl rfl (by omega) (viewV (h_16.ok _ M2)) (lt_len (K := 128 * mn) (len_map hl) (by omega)) underlying25 sizeOf65 rfl) (qM (vn ((a + j) % 128)) rfl rfl (qM (vn ((a + j) % 128)) rfl rfl (qM (vn k) rfl rfl (qV rfl (R.bin rfl rfl (bi_add (c := (((a + j) % 128 + k : Nat) : Int)) (by omega) (by omega))) (qM (.slice ra j rc) rfl rfl ?_)))))))))))
  refine qV rfl (R.lenS (a := ra) (m := j) rfl rfl underlying72) (qV rfl (R.bin rfl rfl (bi_sub (c := (((a + j) % 128 + k - j : Nat) : Int)) (by omega) (by omega))) (qV rfl (R.minI (c := ((min 128 ((a + j) % 128 + k - j) : Nat) : Int)) rfl rfl (by split <;> omega)) (qV rfl (R.sliceG (l := (a + j) % 128) (h := min 128 ((a + j) % 128 + k - j)) rfl (EvB.it (l := (a + j) % 128) rfl rfl) (EvB.it (l := min 128 ((a + j) % 128 + k - j)) rfl rfl) (by omega) (by omega) (by omega) underlying65 sizeOf5) ?_)))
  refine WL.append (km := j + (min 128 ((a + j) % 128 + k - j) - ((a + j) % 128))) (xs := ((l.drop a).take j).map vu8) (ys := ((l.drop (((a + j) / 128) * 128 + (a + j) % 128)).take (min 128 ((a + j) % 128 + k - j) - ((a + j) % 128))).map vu8) (zs := (((l.drop a).take j) ++ ((l.drop (((a + j) / 128) * 128 + (a + j) % 128)).take (min 128 ((a + j) % 128 + k - j) - ((a + j) % 128)))).map vu8) h_16 rfl rfl el72 (show View _ (some ((gA ma (((a + j) / 128) * 128)).add ((a + j) % 128))) (((l.drop (((a + j) / 128) * 128 + (a + j) % 128)).take (min 128 ((a + j) % 128 + k - j) - ((a + j) % 128))).map vu8) from by rw [gA_add, List.map_take, List.map_drop]; exact View.gA (viewV (h_16.ok _ M2)) _ _) ((len_map (subLen (K := 128 * mn) hl (by omega) : List.length ((l.drop (((a + j) / 128) * 128 + (a + j) % 128)).take (min 128 ((a + j) % 128 + k - j) - ((a + j) % 128))) = (min 128 ((a + j) % 128 + k - j) - ((a + j) % 128)))).trans (Nat.mul_one _).symm) (one_u8 _) (by simp only [List.map_append, List.map_nil]) (by omega) (by omega) (by omega) (fun _ _ => At.h) rfl (fun a_17 c_18 w_19 h_20 => ?_)
  refine qA (.slice a_17 (j + (min 128 ((a + j) % 128 + k - j) - ((a + j) % 128))) c_18) rfl rfl ?_
  refine WL.nil (inb_n (thn_n ?_))
  have h_23 := ((h_20.up J2).up J2).up J2
  rw [rd_step (by omega)] at h_23
  exact ⟨(j + (min 128 ((a + j) % 128 + k - j) - ((a + j) % 128)), a_17, c_18), _, (by omega), (Ag.upd rfl (U4 rfl rfl rfl rfl (U4 rfl rfl rfl rfl (U4 rfl rfl rfl rfl (U4 rfl rfl rfl rfl (U4 rfl rfl rfl rfl (U4 rfl rfl rfl rfl (U4 rfl rfl rfl rfl (U4 rfl rfl rfl rfl (Ag.updL rfl (Ag.mix _ _ _))))))))))), ⟨rfl, trivial⟩, h_23, (by omega), rfl⟩
 ·have p_24 := of_decide_eq_false c_12
  refine WP.exit (thn_x (thn_x (inb_hit (thn_n (WP.seq (WP.reg ?_))))))
  refine qM (.slice ra j rc) rfl rfl (qA (.slice ra j rc) rfl rfl (qA (vi 0) rfl rfl ?_))
  refine WL.nil (thn_n (WP.ret ?_))
  refine ret_of results53 (RV.tmp (v := (.slice ra j rc)) rfl (RV.tmp (v := (vi 0)) rfl RV.nil)) ?_
  have hjk : j = k := by omega
  subst hjk
  exact ⟨_, _, rfl, h_9.chgS, h_9.ok _ M0⟩

theorem c_MWrite {w00 : World} {L : List Ent} (bm : Nat) (ma : Option Addr) (mn : Nat) (a : Nat) (h : a + 32 ≤ 128 * mn) (ha : a % 32 = 0) (hm : mn ≤ 100) (hm1 : 1 ≤ mn) (l c : List UInt8) (hl : l.length = 128 * mn) (hc : c.length = 32) (qa : Option Addr) (qc : Nat) (hqc : 32 ≤ qc) (w : World) (h_0 : HP w00 w (Ent.blk bm .nw 84 [(1, [(.slice ma mn mn)])] :: Ent.row ma mn mn 65 128 (l.map vu8) :: Ent.view qa (c.map vu8) :: L)) :
  Cs Try.prog 26 [(.pointer (some ⟨bm, 0, none⟩)), (vu64 (UInt64.ofNat a)), (.slice qa 32 qc)].toArray w (fun v w1 => v = vi 0 ∧ HP w00 w1 (Ent.blk bm .nw 84 [(1, [(.slice ma mn mn)])] :: Ent.row ma mn mn 65 128 ((ovr l a c).map vu8) :: Ent.view qa (c.map vu8) :: L)) := by
 refine Cs.of (n := 47) (args := [(pO bm 0), (vu64 (UInt64.ofNat a)), (.slice qa 32 qc)]) Try.func26 rfl rfl rfl ?_
 refine WP.seq (WP.reg ?_)
 refine qA (vi 0) rfl rfl ?_
 refine WL.nil (thn_n (WP.seq (WP.block (WP.seq (WP.reg ?_)))))
 refine qM (pO bm 0) rfl rfl ?_
 refine WL.call Try.call37 rfl rfl (c_gran bm ma mn _ (h_0.argR M0)) rfl ?_
 rintro _ w_2 ⟨rfl, hc_1⟩
 have h_3 := h_0.same hc_1
 refine qV rfl (R.bin rfl rfl (bi_eql (r := decide ((((mn : Nat) : Int) : Int) = 0)) rfl)) (qA (.bool (decide ((((mn : Nat) : Int) : Int) = 0))) rfl rfl ?_)
 refine WL.nil (thn_n ?_)
 refine WP.condF (congrArg Value.bool (decide_eq_false (by omega))) ?_
 refine WP.seq (WP.reg ?_)
 refine qM (pO bm 0) rfl rfl (qM (vu64 (UInt64.ofNat a)) rfl rfl (qM (.slice qa 32 qc) rfl rfl (qV rfl (R.lenS (a := qa) (m := 32) rfl rfl underlying72) ?_)))
 refine WL.call Try.call39 rfl rfl (c_mwin bm ma mn a 32 (by omega) (by omega) _ (h_3.argR M0)) rfl ?_
 rintro _ w_5 ⟨rfl, hc_4⟩
 have h_6 := h_3.same hc_4
 refine qV rfl (R.not (b := true) rfl) (qA (.bool false) rfl rfl ?_)
 refine WL.nil (thn_n ?_)
 refine WP.condF rfl ?_
 refine WP.skip (inb_n (thn_n (WP.seq (WP.seq (WP.reg ?_)))))
 refine qA (vi 0) rfl rfl ?_
 refine WL.nil (thn_n (WP.block ?_))
 refine WP.loopU (WI.round ?_)
 refine WP.seq (WP.seq (WP.reg ?_))
 refine qM (vi 0) rfl rfl (qM (.slice qa 32 qc) rfl rfl (qV rfl (R.lenS (a := qa) (m := 32) rfl rfl underlying72) (qV rfl (R.bin rfl rfl (bi_lss (r := true) (by decide))) ?_)))
 refine WL.nil (thn_n ?_)
 refine WP.condT rfl ?_
 refine WP.skip (thn_n (WP.block (WP.seq (WP.reg ?_))))
 refine qM (vu64 (UInt64.ofNat a)) rfl rfl (qM (vi 0) rfl rfl (qV rfl (R.conv (b := (0 : UInt64).toNat) rfl underlying3 underlying26 (by decide)) (qV rfl (R.bin rfl rfl (b64_add (UInt64.ofNat a) 0)) ?_)))
 refine WL.call Try.call40 rfl rfl ((show ∀ w, Cs Try.prog 40 [vu64 ((UInt64.ofNat a) + 0)].toArray w _ from fun w => by rw [UInt64.add_zero]; exact c_Of a (by omega) w)  _ ) rfl ?_
 rintro _ w_8 ⟨rfl, hc_7⟩
 have h_9 := h_6.same hc_7
 refine qM (.tuple [(vn (a / 128)), (vn (a % 128))].toArray) rfl rfl (qV rfl (R.extract rfl rfl) (qV rfl (R.extract rfl rfl) (qA (vn (a / 128)) rfl rfl (qA (vn (a % 128)) rfl rfl ?_))))
 refine WL.nil (thn_n ?_)
 refine WP.drawT (SL w00.heap.size [.blk bm .nw 84 [(1, [(.slice ma mn mn)])], .view qa (c.map vu8)]) (.q 0 (.q 1 (.q 2 (.q 3 (.q 4 (.q 5 (.q 7 (.q 9 (.q 10 (.q 11 (.s 6 (.s 8 (.s 12 (.q 13 (.q 14 .nil))))))))))))))) (by kernel_rfl) (by kernel_rfl) rfl (by kernel_rfl) (fun w_10 hc_12 => (SL.cons ((h_9.same hc_12).ok _ M0) (SL.cons ((h_9.same hc_12).ok _ M2) (SL.nil _ _)))) (fun w_10 hc_12 => ?_)
 have h_11 := h_9.same hc_12
 refine qT rfl rfl (fun wq hS => R.move (v := (vi 0)) rfl) ?_
 refine qT rfl rfl (fun wq hS => R.move (v := (pO bm 0)) rfl) ?_
 refine qT rfl rfl (fun wq hS => R.nilCheck rfl) ?_
 refine qT rfl rfl (fun wq hS => R.fieldAddr (off' := 0) rfl underlying84 rfl sizeOf25 rfl rfl) ?_
 refine qT rfl rfl (fun wq hS => R.load1 rfl isAgg25 (hS _ M0) Sg.h) ?_
 refine qT rfl rfl (fun wq hS => R.move (v := (vn (a / 128))) rfl) ?_
 refine qT rfl rfl (fun wq hS => R.move (v := (vn (a % 128))) rfl) ?_
 refine qT rfl rfl (fun wq hS => R.move (v := (.slice qa 32 qc)) rfl) ?_
 refine qT rfl rfl (fun wq hS => R.move (v := (vi 0)) rfl) ?_
 refine qT rfl rfl (fun wq hS => R.sliceS (a := qa) (len := 32) (l := 0) (h := 32) rfl (EvB.it (l := 0) rfl rfl) EvB.dflt (by decide) (by omega) underlying72 sizeOf5) ?_
 refine WT.s (oN rfl ?_)
 refine qV rfl (R.indexS (a := ma) (i := a / 128) (off := (a / 128) * 128) (xs := l.map vu8) rfl rfl rfl (by omega) (ownView (h_11.ok _ M1)) (lt_len (K := 128 * mn) (len_map hl) (by omega)) underlying25 sizeOf65 rfl) ?_
 refine WL.nil ?_
 refine ⟨(N0_2 h_11.ok), ?_⟩
 refine WT.s (oN rfl ?_)
 refine qV rfl (R.sliceG (l := a % 128) (h := 128) rfl (EvB.it (l := a % 128) rfl rfl) EvB.dflt (by omega) (by omega) (by omega) underlying65 sizeOf5) ?_
 refine WL.nil ?_
 refine ⟨(N0_2 h_11.ok), ?_⟩
 refine WT.s (oN rfl ?_)
 refine WL.copyR (q := 32) (i := ((a / 128) * 128 + a % 128)) (ys := ((c.drop 0).take 32).map vu8) (xs' := (ovr l ((a / 128) * 128 + a % 128) ((c.drop 0).take 32)).map vu8) h_11 rfl rfl underlying72 sizeOf5 (View.slM (l := 0) (m := qc) (k := 32) (viewV (h_11.ok _ M2)) (by omega)) (len_map (subLen (K := 32) hc (by omega) : List.length ((c.drop 0).take 32) = 32)) (one_u8 _) Y1 gA_at2 (Nat.min_eq_left (by omega)) (by omega) (by rw [len_map hl]; omega) (ovr_mapQ (subLen (K := 32) hc (by omega) : List.length ((c.drop 0).take 32) = 32)) rfl (fun w_13 h_14 => ?_)
 refine WL.nil ?_
 refine ⟨(N0_2 h_14.ok), ?_⟩
 refine qT rfl rfl (fun wq hS => R.bin rfl rfl (bi_add (c := 32) (by omega) (by omega))) ?_
 refine qT rfl rfl (fun wq hS => R.assign (v := (vi 32)) rfl) ?_
 refine WT.nil (inb_n (thn_n ?_))
 refine WI.round ?_
 refine WP.seq (WP.seq (WP.reg ?_))
 refine qM (vi 32) rfl rfl (qM (.slice qa 32 qc) rfl rfl (qV rfl (R.lenS (a := qa) (m := 32) rfl rfl underlying72) (qV rfl (R.bin rfl rfl (bi_lss (r := false) (by decide))) ?_)))
 refine WL.nil (thn_n ?_)
 refine WP.condF rfl ?_
 refine WP.exit (thn_x (thn_x (inb_hit (thn_n (WP.seq (WP.reg ?_))))))
 refine qA (vi 0) rfl rfl ?_
 refine WL.nil (thn_n (WP.ret ?_))
 refine ret_of results26 (RV.tmp (v := (vi 0)) rfl RV.nil) ?_
 have h_17 := ((h_14.up J2).up J2).up J2
 rw [show a / 128 * 128 + a % 128 = a by omega] at h_17
 simp only [List.drop_zero, List.take_of_length_le (Nat.le_of_eq hc)] at h_17
 exact ⟨rfl, h_17⟩
end Go.Proofs.Ytbhllplbbkmndaa

namespace Go.Proofs.Ytbhllplbbkmndaa
open Go.Vc Go.Orc Go.Sh Go.RowKit
set_option maxRecDepth 20000

theorem c_tword (i : Nat) (w : World) :
    Cs Try.prog 31 [(vi ((i : Nat) : Int))].toArray w (fun v w1 => ∃ a cap, v = .slice a 8 cap ∧ Chg w w1 [] ∧ Own w.heap.size w1 5 1 a 8 cap ((leN 8 (UInt64.ofNat i).toNat).map vu8)) := by
  refine Cs.of (n := 12) (args := [(vi ((i : Nat) : Int))]) Try.func31 rfl rfl rfl ?_
  have h_0 := HP.init w
  refine WP.seq ?_
  refine WP.reg ?_
  refine WL.q (Wn.no rfl) rfl rfl (R.assign (v := (.slice none 0 0)) rfl) ?_
  refine WL.nil ?_
  refine thn_n ?_
  refine WP.seq ?_
  refine WP.reg ?_
  refine WL.q (Wn.no rfl) rfl rfl (R.move (v := (vi ((i : Nat) : Int))) rfl) ?_
  refine WL.q (Wn.no rfl) rfl rfl (R.conv (b := ((UInt64.ofNat i) : UInt64).toNat) rfl Try.underlying3 Try.underlying26 (w64_nat i)) ?_
  refine WL.call (al := [(vu64 (UInt64.ofNat i)), (vi 8)]) Try.call43 rfl rfl (c_Put_b (UInt64.ofNat i) 8 rfl _) rfl ?_
  rintro _ w_3 ⟨a_1, cap_2, rfl, hc_4, ho_5⟩
  have h_6 := h_0.gotRow hc_4 ho_5
  refine WL.q (Wn.no rfl) rfl rfl (R.move (v := (.tuple [(.slice a_1 8 cap_2), (vi 0)].toArray)) rfl) ?_
  refine WL.q (Wn.no rfl) rfl rfl (R.extract (l := [(.slice a_1 8 cap_2), (vi 0)]) (v := (.slice a_1 8 cap_2)) rfl rfl) ?_
  refine WL.q (Wn.no rfl) rfl rfl (R.extract (l := [(.slice a_1 8 cap_2), (vi 0)]) (v := (vi 0)) rfl rfl) ?_
  refine WL.q (Wn.no rfl) rfl rfl (R.assign (v := (.slice a_1 8 cap_2)) rfl) ?_
  refine WL.q (Wn.no rfl) rfl rfl (R.assign (v := (vi 0)) rfl) ?_
  refine WL.nil ?_
  refine thn_n ?_
  refine WP.seq ?_
  refine WP.reg ?_
  refine WL.q (Wn.no rfl) rfl rfl (R.move (v := (.slice a_1 8 cap_2)) rfl) ?_
  refine WL.q (Wn.no rfl) rfl rfl (R.assign (v := (.slice a_1 8 cap_2)) rfl) ?_
  refine WL.nil ?_
  refine thn_n ?_
  refine WP.ret ?_
  refine ret_of Try.results31 (RV.tmp (v := (.slice a_1 8 cap_2)) rfl RV.nil) ?_
  exact ⟨_, _, rfl, h_6.chgS, h_6.ok _ (.head _)⟩

theorem c_TNone_t {w00 : World} {L : List Ent} (id : Bool) (ob mp : Nat) (ms df : List UInt8) (hms : ms.length = 32) (da : Option Addr) (dn dc u : Nat) (hdf : df.length = 32 * dn) (la : Option Addr) (lc : Nat) (lx : List Value) (lg : Lg) (hu : u ≤ 1000000) (hlg : lg.length ≤ 1000000) (pg : Nat) (h : pg < 128) (w : World) (h_0 : HP w00 w (Ent.blk ob .nw 82 [(1, [(.bool id)]), (32, ms.map vu8), (1, [(.slice da dn dc)]), (1, [(vi ((u : Nat) : Int))]), (1, [(.map (some mp))]), (1, [(.slice la lg.length lc)])] :: Ent.row la lg.length lc 114 67 lx :: Ent.obj mp .nw (.map (mArr lg) lg.length) :: Ent.pin (sblks lx) (fun w => Lgs w lx lg) :: Ent.view da (df.map vu8) :: L)) :
    Cs Try.prog 10 [(.pointer (some ⟨ob, 0, none⟩)), (vi ((pg : Nat) : Int))].toArray w (fun v w1 => ∃ la' lc' lx', v = (.tuple [(.agg ⟨(anD id df dn u lg (1, (List.replicate 32 (0 : UInt8)), 6, leN 8 (UInt64.ofNat pg).toNat)).map vu8⟩), (vi 0)].toArray) ∧ HP w00 w1 (Ent.blk ob .nw 82 [(1, [(.bool id)]), (32, ms.map vu8), (1, [(.slice da dn dc)]), (1, [(vi (((anU id u lg (1, (List.replicate 32 (0 : UInt8)), 6, leN 8 (UInt64.ofNat pg).toNat)) : Nat) : Int))]), (1, [(.map (some mp))]), (1, [(.slice la' ((anL id df dn u lg (1, (List.replicate 32 (0 : UInt8)), 6, leN 8 (UInt64.ofNat pg).toNat)).length) lc')])] :: Ent.row la' ((anL id df dn u lg (1, (List.replicate 32 (0 : UInt8)), 6, leN 8 (UInt64.ofNat pg).toNat)).length) lc' 114 67 lx' :: Ent.obj mp .nw (.map (mArr (anL id df dn u lg (1, (List.replicate 32 (0 : UInt8)), 6, leN 8 (UInt64.ofNat pg).toNat))) ((anL id df dn u lg (1, (List.replicate 32 (0 : UInt8)), 6, leN 8 (UInt64.ofNat pg).toNat)).length)) :: Ent.pin (sblks lx') (fun w => Lgs w lx' (anL id df dn u lg (1, (List.replicate 32 (0 : UInt8)), 6, leN 8 (UInt64.ofNat pg).toNat))) :: Ent.view da (df.map vu8) :: L)) := by
  refine Cs.of (n := 23) (args := [(.pointer (some ⟨ob, 0, none⟩)), (vi ((pg : Nat) : Int))]) Try.func10 rfl rfl rfl ?_
  refine WP.seq ?_
  refine WP.reg ?_
  refine WL.alloc (segs := [(32, (List.replicate 32 (0 : UInt8)).map vu8)]) h_0 (zv Try.typeInfo23 rfl) rfl (SsOk.cons (SOk.u8 (List.length_replicate ..)) SsOk.nil) rfl (fun b_1 w_2 h_3 => ?_)
  refine WL.q (Wn.no rfl) rfl rfl (R.assign (v := (vi 0)) rfl) ?_
  refine WL.nil ?_
  refine thn_n ?_
  refine WP.seq ?_
  refine WP.block ?_
  refine WP.seq ?_
  refine WP.reg ?_
  refine WL.q (Wn.no rfl) rfl rfl (R.move (v := (.pointer (some ⟨ob, 0, none⟩))) rfl) ?_
  refine WL.call (al := [(.pointer (some ⟨ob, 0, none⟩))]) Try.call28 rfl rfl (c_tth id ob mp ms hms da dn dc u la lg.length lc _ (h_3.argR (.tail _ (.head _)))) rfl ?_
  rintro _ w_5 ⟨rfl, hc_4⟩
  have h_6 := h_3.same hc_4
  refine WL.q (Wn.no rfl) rfl rfl (R.not (b := true) rfl) ?_
  refine WL.q (Wn.no rfl) rfl rfl (R.assign (v := (.bool false)) rfl) ?_
  refine WL.nil ?_
  refine thn_n ?_
  refine WP.condF rfl ?_
  refine WP.seq ?_
  refine WP.reg ?_
  refine WL.q (Wn.no rfl) rfl rfl (R.move (v := (vi ((pg : Nat) : Int))) rfl) ?_
  refine WL.call (al := [(vi ((pg : Nat) : Int))]) Try.call29 rfl rfl (c_prot_t pg (by omega) _ ) rfl ?_
  rintro _ w_8 ⟨rfl, hc_7⟩
  have h_9 := h_6.same hc_7
  refine WL.q (Wn.no rfl) rfl rfl (R.not (b := true) rfl) ?_
  refine WL.q (Wn.no rfl) rfl rfl (R.assign (v := (.bool false)) rfl) ?_
  refine WL.nil ?_
  refine thn_n ?_
  refine WP.condF rfl ?_
  refine WP.skip ?_
  refine inb_n ?_
  refine thn_n ?_
  refine WP.seq ?_
  refine WP.reg ?_
  refine WL.q (Wn.no rfl) rfl rfl (R.move (v := (.pointer (some ⟨ob, 0, none⟩))) rfl) ?_
  refine WL.q (Wn.no rfl) rfl rfl (R.move (v := (vi ((pg : Nat) : Int))) rfl) ?_
  refine WL.call (al := [(vi ((pg : Nat) : Int))]) Try.call31 rfl rfl (c_tword pg _) rfl ?_
  rintro _ w_12 ⟨a_10, cap_11, rfl, hc_13, ho_14⟩
  have h_15 := h_9.gotRow hc_13 ho_14
  refine WL.buildSl (vs := [(0, (.slice a_10 8 cap_11))]) (cs := [(.slice a_10 8 cap_11)]) h_15 Try.underlying97 Try.sizeOf72 (zv Try.typeInfo72 rfl) rfl rfl (by kernel_rfl) rfl (by simp [Value.oneCell']) rfl rfl (fun b_16 w_17 h_18 => ?_)
  have hcp_19 := (h_18.own (.tail _ (.head _))).2.2.1
  have h_20 := h_18.up (Pick.t Pick.h)
  have h_21 := h_20.rowView
  have h_22 := h_21.up (Pick.t Pick.h)
  have h_23 := HP_blkView h_22
  have hbl_24 : ∀ b ∈ sblks [(.slice a_10 8 cap_11)], ∃ e ∈ ((Ent.view (some ⟨b_16, 0, none⟩) [(.slice a_10 8 cap_11)] :: Ent.view a_10 ((leN 8 (UInt64.ofNat pg).toNat).map vu8) :: Ent.blk b_1 .nw 23 [(32, (List.replicate 32 (0 : UInt8)).map vu8)] :: Ent.blk ob .nw 82 [(1, [(.bool id)]), (32, ms.map vu8), (1, [(.slice da dn dc)]), (1, [(vi ((u : Nat) : Int))]), (1, [(.map (some mp))]), (1, [(.slice la lg.length lc)])] :: Ent.row la lg.length lc 114 67 lx :: Ent.obj mp .nw (.map (mArr lg) lg.length) :: Ent.pin (sblks lx) (fun w => Lgs w lx lg) :: Ent.view da (df.map vu8) :: L) : List Ent), e.mut = false ∧ b ∈ e.blocks := by
    intro b hb
    rcases List.mem_append.1 hb with hb | hb
    · exact ⟨_, (.tail _ (.head _)), rfl, sblk_in_view (leN_len ..) b hb⟩
    cases hb
  have h_25 := HP_within (e' := .pin (sblks [(.slice a_10 8 cap_11)]) (fun w => Sls w [(.slice a_10 8 cap_11)] [leN 8 (UInt64.ofNat pg).toNat])) h_23 (Sls.pin (Sls.cons (leN_len ..) hcp_19 (viewV (h_23.ok _ (.tail _ (.head _)))) Sls.nil)) rfl rfl hbl_24
  have h_26 := h_25.up (Pick.t Pick.h)
  have h_27 := h_26.up (Pick.t Pick.h)
  have h_28 := h_27.up (Pick.t (Pick.t (Pick.t (Pick.t (Pick.t (Pick.t (Pick.t (Pick.t Pick.h))))))))
  have h_29 := h_28.up (Pick.t (Pick.t (Pick.t (Pick.t (Pick.t (Pick.t (Pick.t (Pick.t Pick.h))))))))
  have h_30 := h_29.up (Pick.t (Pick.t (Pick.t (Pick.t (Pick.t (Pick.t (Pick.t (Pick.t Pick.h))))))))
  have h_31 := h_30.up (Pick.t (Pick.t (Pick.t (Pick.t (Pick.t (Pick.t (Pick.t (Pick.t Pick.h))))))))
  have h_32 := h_31.up (Pick.t (Pick.t (Pick.t (Pick.t (Pick.t (Pick.t (Pick.t (Pick.t Pick.h))))))))
  have h32_w_36 := Lgs.ok32 (h_32.ok _ (.tail _ (.tail _ (.tail _ (.head _))))).1
  refine WL.call (al := [(.pointer (some ⟨ob, 0, none⟩)), (vi 6), (.slice (some ⟨b_16, 0, none⟩) 1 1)]) Try.call30 rfl rfl (c_oDigest id ob mp ms df hms da dn dc u hdf la lc lx lg hu hlg (some ⟨b_16, 0, none⟩) 1 1 [(.slice a_10 8 cap_11)] [leN 8 (UInt64.ofNat pg).toNat] rfl 6 (by omega) (by simp only [List.flatten_cons, List.flatten_nil, List.length_append, List.length_nil, leN_len]; omega) (by omega) _ h_32) rfl ?_
  rintro _ w_36 ⟨la_33, lc_34, lx_35, rfl, h_37⟩
  refine WL.q (Wn.no rfl) rfl rfl (R.extract (l := [(.agg ⟨(anD id df dn u lg (1, (List.replicate 32 (0 : UInt8)), 6, [leN 8 (UInt64.ofNat pg).toNat].flatten)).map vu8⟩), (vi 0)]) (v := (.agg ⟨(anD id df dn u lg (1, (List.replicate 32 (0 : UInt8)), 6, [leN 8 (UInt64.ofNat pg).toNat].flatten)).map vu8⟩)) rfl rfl) ?_
  refine WL.q (Wn.no rfl) rfl rfl (R.extract (l := [(.agg ⟨(anD id df dn u lg (1, (List.replicate 32 (0 : UInt8)), 6, [leN 8 (UInt64.ofNat pg).toNat].flatten)).map vu8⟩), (vi 0)]) (v := (vi 0)) rfl rfl) ?_
  refine WL.storeA (b := b_1) (off := 0) [] [(32, (List.replicate 32 (0 : UInt8)).map vu8)] [(32, (anD id df dn u lg (1, (List.replicate 32 (0 : UInt8)), 6, [leN 8 (UInt64.ofNat pg).toNat].flatten)).map vu8)] [] (ys := (anD id df dn u lg (1, (List.replicate 32 (0 : UInt8)), 6, [leN 8 (UInt64.ofNat pg).toNat].flatten)).map vu8) h_37 rfl rfl Try.sizeOf23 (At.t (At.t (At.t (At.t (At.t (At.t (At.t (At.t At.h)))))))) (by decide) rfl rfl rfl rfl rfl rfl (SsOk.cons (SOk.u8 (anD_len hdf h32_w_36)) SsOk.nil) (fun w_38 h_39 => ?_)
  refine WL.q (Wn.no rfl) rfl rfl (R.assign (v := (vi 0)) rfl) ?_
  refine WL.nil ?_
  refine thn_n ?_
  refine WP.ret ?_
  refine ret_of Try.results10 (RV.cell rfl (h_39.loadA (cs := (anD id df dn u lg (1, (List.replicate 32 (0 : UInt8)), 6, [leN 8 (UInt64.ofNat pg).toNat].flatten)).map vu8) Try.isAgg23 Try.sizeOf23 (.tail _ (.tail _ (.tail _ (.tail _ (.tail _ (.tail _ (.tail _ (.tail _ (.head _))))))))) rfl rfl) (RV.tmp (v := (vi 0)) rfl RV.nil)) ?_
  have h_40 := h_39.up (Pick.t (Pick.t (Pick.t (Pick.t (Pick.t Pick.h)))))
  have h_41 := h_40.drop rfl
  have h_42 := h_41.up (Pick.t (Pick.t (Pick.t (Pick.t (Pick.t Pick.h)))))
  have h_43 := h_42.drop rfl
  have h_44 := h_43.up (Pick.t (Pick.t (Pick.t (Pick.t (Pick.t Pick.h)))))
  have h_45 := h_44.drop rfl
  have h_46 := h_45.up (Pick.t (Pick.t (Pick.t (Pick.t (Pick.t Pick.h)))))
  have h_47 := h_46.drop rfl
  have h_48 := h_47.up (Pick.t (Pick.t (Pick.t (Pick.t Pick.h))))
  have h_49 := h_48.up (Pick.t (Pick.t (Pick.t (Pick.t Pick.h))))
  have h_50 := h_49.up (Pick.t (Pick.t (Pick.t (Pick.t Pick.h))))
  have h_51 := h_50.up (Pick.t (Pick.t (Pick.t (Pick.t Pick.h))))
  have h_52 := h_51.up (Pick.t (Pick.t (Pick.t (Pick.t Pick.h))))
  have e2 : ((1, (List.replicate 32 (0 : UInt8)), 6, leN 8 (UInt64.ofNat pg).toNat) : Qn) = (1, (List.replicate 32 (0 : UInt8)), 6, [leN 8 (UInt64.ofNat pg).toNat].flatten) := by simp
  exact ⟨_, _, _, by rw [e2]; rfl, by rw [e2]; exact h_52⟩

theorem c_TNode_t {w00 : World} {L : List Ent} (id : Bool) (ob mp : Nat) (ms df : List UInt8) (hms : ms.length = 32) (da : Option Addr) (dn dc u : Nat) (hdf : df.length = 32 * dn) (la : Option Addr) (lc : Nat) (lx : List Value) (lg : Lg) (hu : u ≤ 1000000) (hlg : lg.length ≤ 1000000) (i : Nat) (hi : 1 ≤ i ∧ i ≤ 127) (xa xb : List UInt8) (hxa : xa.length = 32) (hxb : xb.length = 32) (w : World) (h_0 : HP w00 w (Ent.blk ob .nw 82 [(1, [(.bool id)]), (32, ms.map vu8), (1, [(.slice da dn dc)]), (1, [(vi ((u : Nat) : Int))]), (1, [(.map (some mp))]), (1, [(.slice la lg.length lc)])] :: Ent.row la lg.length lc 114 67 lx :: Ent.obj mp .nw (.map (mArr lg) lg.length) :: Ent.pin (sblks lx) (fun w => Lgs w lx lg) :: Ent.view da (df.map vu8) :: L)) :
    Cs Try.prog 25 [(.pointer (some ⟨ob, 0, none⟩)), (vi ((i : Nat) : Int)), (.agg ⟨xa.map vu8⟩), (.agg ⟨xb.map vu8⟩)].toArray w (fun v w1 => ∃ la' lc' lx', v = (.tuple [(.agg ⟨(anD id df dn u lg (1, (List.replicate 32 (0 : UInt8)), 5, [leN 8 (UInt64.ofNat i).toNat, xa, xb].flatten)).map vu8⟩), (vi 0)].toArray) ∧ HP w00 w1 (Ent.blk ob .nw 82 [(1, [(.bool id)]), (32, ms.map vu8), (1, [(.slice da dn dc)]), (1, [(vi (((anU id u lg (1, (List.replicate 32 (0 : UInt8)), 5, [leN 8 (UInt64.ofNat i).toNat, xa, xb].flatten)) : Nat) : Int))]), (1, [(.map (some mp))]), (1, [(.slice la' ((anL id df dn u lg (1, (List.replicate 32 (0 : UInt8)), 5, [leN 8 (UInt64.ofNat i).toNat, xa, xb].flatten)).length) lc')])] :: Ent.row la' ((anL id df dn u lg (1, (List.replicate 32 (0 : UInt8)), 5, [leN 8 (UInt64.ofNat i).toNat, xa, xb].flatten)).length) lc' 114 67 lx' :: Ent.obj mp .nw (.map (mArr (anL id df dn u lg (1, (List.replicate 32 (0 : UInt8)), 5, [leN 8 (UInt64.ofNat i).toNat, xa, xb].flatten))) ((anL id df dn u lg (1, (List.replicate 32 (0 : UInt8)), 5, [leN 8 (UInt64.ofNat i).toNat, xa, xb].flatten)).length)) :: Ent.pin (sblks lx') (fun w => Lgs w lx' (anL id df dn u lg (1, (List.replicate 32 (0 : UInt8)), 5, [leN 8 (UInt64.ofNat i).toNat, xa, xb].flatten))) :: Ent.view da (df.map vu8) :: L)) := by
  refine Cs.of (n := 32) (args := [(.pointer (some ⟨ob, 0, none⟩)), (vi ((i : Nat) : Int)), (.agg ⟨xa.map vu8⟩), (.agg ⟨xb.map vu8⟩)]) Try.func25 rfl rfl rfl ?_
  refine WP.seq ?_
  refine WP.reg ?_
  refine WL.box (v := (.agg ⟨xa.map vu8⟩)) (segs := [(32, xa.map vu8)]) h_0 rfl rfl (SsOk.cons (SOk.u8 hxa) SsOk.nil) rfl (fun b_1 w_2 h_3 => ?_)
  refine WL.box (v := (.agg ⟨xb.map vu8⟩)) (segs := [(32, xb.map vu8)]) h_3 rfl rfl (SsOk.cons (SOk.u8 hxb) SsOk.nil) rfl (fun b_4 w_5 h_6 => ?_)
  refine WL.alloc (segs := [(32, (List.replicate 32 (0 : UInt8)).map vu8)]) h_6 (zv Try.typeInfo23 rfl) rfl (SsOk.cons (SOk.u8 (List.length_replicate ..)) SsOk.nil) rfl (fun b_7 w_8 h_9 => ?_)
  refine WL.q (Wn.no rfl) rfl rfl (R.assign (v := (vi 0)) rfl) ?_
  refine WL.nil ?_
  refine thn_n ?_
  refine WP.seq ?_
  refine WP.block ?_
  refine WP.seq ?_
  refine WP.reg ?_
  refine WL.q (Wn.no rfl) rfl rfl (R.move (v := (.pointer (some ⟨ob, 0, none⟩))) rfl) ?_
  refine WL.call (al := [(.pointer (some ⟨ob, 0, none⟩))]) Try.call28 rfl rfl (c_tth id ob mp ms hms da dn dc u la lg.length lc _ (h_9.argR (.tail _ (.tail _ (.tail _ (.head _)))))) rfl ?_
  rintro _ w_11 ⟨rfl, hc_10⟩
  have h_12 := h_9.same hc_10
  refine WL.q (Wn.no rfl) rfl rfl (R.not (b := true) rfl) ?_
  refine WL.q (Wn.no rfl) rfl rfl (R.assign (v := (.bool false)) rfl) ?_
  refine WL.nil ?_
  refine thn_n ?_
  refine WP.condF rfl ?_
  refine WP.seq ?_
  refine WP.reg ?_
  refine WL.q (Wn.no rfl) rfl rfl (R.move (v := (vi ((i : Nat) : Int))) rfl) ?_
  refine WL.q (Wn.no rfl) rfl rfl (R.bin (v := (.bool (decide ((((i : Nat) : Int) : Int) < 1)))) rfl rfl (bi_lss (r := decide ((((i : Nat) : Int) : Int) < 1)) rfl)) ?_
  refine WL.q (Wn.no rfl) rfl rfl (R.move (v := (.bool (decide ((((i : Nat) : Int) : Int) < 1)))) rfl) ?_
  refine WL.want rfl (congrArg Value.bool (decide_eq_false (by omega))) ?_
  refine WL.q (Wn.no rfl) rfl rfl (R.move (v := (vi ((i : Nat) : Int))) rfl) ?_
  refine WL.want rfl (congrArg Value.bool (decide_eq_false (by omega))) ?_
  refine WL.q (Wn.no rfl) rfl rfl (R.bin (v := (.bool (decide ((((i : Nat) : Int) : Int) ≥ 128)))) rfl rfl (bi_geq (r := decide ((((i : Nat) : Int) : Int) ≥ 128)) rfl)) ?_
  refine WL.q (Wn.no rfl) rfl rfl (R.pickF (v := (.bool (decide ((((i : Nat) : Int) : Int) ≥ 128)))) (congrArg Value.bool (decide_eq_false (by omega))) rfl) ?_
  refine WL.q (Wn.no rfl) rfl rfl (R.assign (v := (.bool (decide ((((i : Nat) : Int) : Int) ≥ 128)))) rfl) ?_
  refine WL.nil ?_
  refine thn_n ?_
  refine WP.condF (congrArg Value.bool (decide_eq_false (by omega))) ?_
  refine WP.skip ?_
  refine inb_n ?_
  refine thn_n ?_
  refine WP.seq ?_
  refine WP.drawT (SL w00.heap.size []) (.q 0 (.q 1 (.q 3 (.q 4 (.s 2 (.s 5 (.s 6 (.q 7 (.q 8 (.s 9 (.q 10 .nil))))))))))) (by kernel_rfl) (by kernel_rfl) rfl (by kernel_rfl) (fun w_13 hc_15 => (SL.nil _ _)) (fun w_13 hc_15 => ?_)
  have h_14 := h_12.same hc_15
  refine WT.q rfl (Wn.no rfl) rfl rfl (fun wq hS => R.move (v := (.pointer (some ⟨ob, 0, none⟩))) rfl) ?_
  refine WT.q rfl (Wn.no rfl) rfl rfl (fun wq hS => R.move (v := (vi ((i : Nat) : Int))) rfl) ?_
  refine WT.q rfl (Wn.no rfl) rfl rfl (fun wq hS => R.sliceA (b := b_1) (off := 0) (off' := 0) (l := 0) (h := 32) rfl EvB.dflt EvB.dflt (by decide) (by decide) Try.underlying23 Try.sizeOf5 rfl) ?_
  refine WT.q rfl (Wn.no rfl) rfl rfl (fun wq hS => R.sliceA (b := b_4) (off := 0) (off' := 0) (l := 0) (h := 32) rfl EvB.dflt EvB.dflt (by decide) (by decide) Try.underlying23 Try.sizeOf5 rfl) ?_
  refine WT.s ?_
  refine Op1.one rfl (Wn.no rfl) ?_
  refine WL.call (al := [(vi ((i : Nat) : Int))]) Try.call31 rfl rfl (c_tword i _) rfl ?_
  rintro _ w_18 ⟨a_16, cap_17, rfl, hc_19, ho_20⟩
  have h_21 := h_14.gotRow hc_19 ho_20
  refine WL.nil ?_
  refine ⟨(SL.nil _ _), ?_⟩
  refine WT.s ?_
  refine Op1.one rfl (Wn.no rfl) ?_
  refine WL.buildSl (vs := [(0, (.slice a_16 8 cap_17)), (1, (.slice (some ⟨b_1, 0, none⟩) 32 32)), (2, (.slice (some ⟨b_4, 0, none⟩) 32 32))]) (cs := [(.slice a_16 8 cap_17), (.slice (some ⟨b_1, 0, none⟩) 32 32), (.slice (some ⟨b_4, 0, none⟩) 32 32)]) h_21 Try.underlying97 Try.sizeOf72 (zv Try.typeInfo72 rfl) rfl rfl (by kernel_rfl) rfl (by simp [Value.oneCell']) rfl rfl (fun b_22 w_23 h_24 => ?_)
  refine WL.nil ?_
  refine ⟨(SL.nil _ _), ?_⟩
  refine WT.s ?_
  refine Op1.one rfl (Wn.no rfl) ?_
  have hcp_25 := (h_24.own (.tail _ (.head _))).2.2.1
  have h_26 := h_24.up (Pick.t Pick.h)
  have h_27 := h_26.rowView
  have h_28 := h_27.up (Pick.t (Pick.t (Pick.t (Pick.t Pick.h))))
  have h_29 := HP_blkView h_28
  have h_30 := h_29.up (Pick.t (Pick.t (Pick.t (Pick.t Pick.h))))
  have h_31 := HP_blkView h_30
  have h_32 := h_31.up (Pick.t (Pick.t (Pick.t Pick.h)))
  have h_33 := HP_blkView h_32
  have hbl_34 : ∀ b ∈ sblks [(.slice a_16 8 cap_17), (.slice (some ⟨b_1, 0, none⟩) 32 32), (.slice (some ⟨b_4, 0, none⟩) 32 32)], ∃ e ∈ ((Ent.view (some ⟨b_22, 0, none⟩) [(.slice a_16 8 cap_17), (.slice (some ⟨b_1, 0, none⟩) 32 32), (.slice (some ⟨b_4, 0, none⟩) 32 32)] :: Ent.view (some ⟨b_4, 0, none⟩) (xb.map vu8) :: Ent.view (some ⟨b_1, 0, none⟩) (xa.map vu8) :: Ent.view a_16 ((leN 8 (UInt64.ofNat i).toNat).map vu8) :: Ent.blk b_7 .nw 23 [(32, (List.replicate 32 (0 : UInt8)).map vu8)] :: Ent.blk ob .nw 82 [(1, [(.bool id)]), (32, ms.map vu8), (1, [(.slice da dn dc)]), (1, [(vi ((u : Nat) : Int))]), (1, [(.map (some mp))]), (1, [(.slice la lg.length lc)])] :: Ent.row la lg.length lc 114 67 lx :: Ent.obj mp .nw (.map (mArr lg) lg.length) :: Ent.pin (sblks lx) (fun w => Lgs w lx lg) :: Ent.view da (df.map vu8) :: L) : List Ent), e.mut = false ∧ b ∈ e.blocks := by
    intro b hb
    rcases List.mem_append.1 hb with hb | hb
    · exact ⟨_, (.tail _ (.tail _ (.tail _ (.head _)))), rfl, sblk_in_view (leN_len ..) b hb⟩
    rcases List.mem_append.1 hb with hb | hb
    · exact ⟨_, (.tail _ (.tail _ (.head _))), rfl, sblk_in_view hxa b hb⟩
    rcases List.mem_append.1 hb with hb | hb
    · exact ⟨_, (.tail _ (.head _)), rfl, sblk_in_view hxb b hb⟩
    cases hb
  have h_35 := HP_within (e' := .pin (sblks [(.slice a_16 8 cap_17), (.slice (some ⟨b_1, 0, none⟩) 32 32), (.slice (some ⟨b_4, 0, none⟩) 32 32)]) (fun w => Sls w [(.slice a_16 8 cap_17), (.slice (some ⟨b_1, 0, none⟩) 32 32), (.slice (some ⟨b_4, 0, none⟩) 32 32)] [leN 8 (UInt64.ofNat i).toNat, xa, xb])) h_33 (Sls.pin (Sls.cons (leN_len ..) hcp_25 (viewV (h_33.ok _ (.tail _ (.tail _ (.tail _ (.head _)))))) (Sls.cons hxa (by decide) (viewV (h_33.ok _ (.tail _ (.tail _ (.head _))))) (Sls.cons hxb (by decide) (viewV (h_33.ok _ (.tail _ (.head _)))) Sls.nil)))) rfl rfl hbl_34
  have h_36 := h_35.up (Pick.t Pick.h)
  have h_37 := h_36.up (Pick.t Pick.h)
  have h_38 := h_37.up (Pick.t (Pick.t (Pick.t (Pick.t (Pick.t (Pick.t (Pick.t (Pick.t (Pick.t (Pick.t Pick.h))))))))))
  have h_39 := h_38.up (Pick.t (Pick.t (Pick.t (Pick.t (Pick.t (Pick.t (Pick.t (Pick.t (Pick.t (Pick.t Pick.h))))))))))
  have h_40 := h_39.up (Pick.t (Pick.t (Pick.t (Pick.t (Pick.t (Pick.t (Pick.t (Pick.t (Pick.t (Pick.t Pick.h))))))))))
  have h_41 := h_40.up (Pick.t (Pick.t (Pick.t (Pick.t (Pick.t (Pick.t (Pick.t (Pick.t (Pick.t (Pick.t Pick.h))))))))))
  have h_42 := h_41.up (Pick.t (Pick.t (Pick.t (Pick.t (Pick.t (Pick.t (Pick.t (Pick.t (Pick.t (Pick.t Pick.h))))))))))
  have h32_w_46 := Lgs.ok32 (h_42.ok _ (.tail _ (.tail _ (.tail _ (.head _))))).1
  refine WL.call (al := [(.pointer (some ⟨ob, 0, none⟩)), (vi 5), (.slice (some ⟨b_22, 0, none⟩) 3 3)]) Try.call30 rfl rfl (c_oDigest id ob mp ms df hms da dn dc u hdf la lc lx lg hu hlg (some ⟨b_22, 0, none⟩) 3 3 [(.slice a_16 8 cap_17), (.slice (some ⟨b_1, 0, none⟩) 32 32), (.slice (some ⟨b_4, 0, none⟩) 32 32)] [leN 8 (UInt64.ofNat i).toNat, xa, xb] rfl 5 (by omega) (by simp only [List.flatten_cons, List.flatten_nil, List.length_append, List.length_nil, leN_len]; omega) (by omega) _ h_42) rfl ?_
  rintro _ w_46 ⟨la_43, lc_44, lx_45, rfl, h_47⟩
  refine WL.nil ?_
  refine ⟨(SL.nil _ _), ?_⟩
  refine WT.q rfl (Wn.no rfl) rfl rfl (fun wq hS => R.extract (l := [(.agg ⟨(anD id df dn u lg (1, (List.replicate 32 (0 : UInt8)), 5, [leN 8 (UInt64.ofNat i).toNat, xa, xb].flatten)).map vu8⟩), (vi 0)]) (v := (.agg ⟨(anD id df dn u lg (1, (List.replicate 32 (0 : UInt8)), 5, [leN 8 (UInt64.ofNat i).toNat, xa, xb].flatten)).map vu8⟩)) rfl rfl) ?_
  refine WT.q rfl (Wn.no rfl) rfl rfl (fun wq hS => R.extract (l := [(.agg ⟨(anD id df dn u lg (1, (List.replicate 32 (0 : UInt8)), 5, [leN 8 (UInt64.ofNat i).toNat, xa, xb].flatten)).map vu8⟩), (vi 0)]) (v := (vi 0)) rfl rfl) ?_
  refine WT.s ?_
  refine Op1.one rfl (Wn.no rfl) ?_
  refine WL.storeA (b := b_7) (off := 0) [] [(32, (List.replicate 32 (0 : UInt8)).map vu8)] [(32, (anD id df dn u lg (1, (List.replicate 32 (0 : UInt8)), 5, [leN 8 (UInt64.ofNat i).toNat, xa, xb].flatten)).map vu8)] [] (ys := (anD id df dn u lg (1, (List.replicate 32 (0 : UInt8)), 5, [leN 8 (UInt64.ofNat i).toNat, xa, xb].flatten)).map vu8) h_47 rfl rfl Try.sizeOf23 (At.t (At.t (At.t (At.t (At.t (At.t (At.t (At.t (At.t (At.t At.h)))))))))) (by decide) rfl rfl rfl rfl rfl rfl (SsOk.cons (SOk.u8 (anD_len hdf h32_w_46)) SsOk.nil) (fun w_48 h_49 => ?_)
  refine WL.nil ?_
  refine ⟨(SL.nil _ _), ?_⟩
  refine WT.q rfl (Wn.no rfl) rfl rfl (fun wq hS => R.assign (v := (vi 0)) rfl) ?_
  refine WT.nil ?_
  refine thn_n ?_
  refine WP.ret ?_
  refine ret_of Try.results25 (RV.cell rfl (h_49.loadA (cs := (anD id df dn u lg (1, (List.replicate 32 (0 : UInt8)), 5, [leN 8 (UInt64.ofNat i).toNat, xa, xb].flatten)).map vu8) Try.isAgg23 Try.sizeOf23 (.tail _ (.tail _ (.tail _ (.tail _ (.tail _ (.tail _ (.tail _ (.tail _ (.tail _ (.tail _ (.head _))))))))))) rfl rfl) (RV.tmp (v := (vi 0)) rfl RV.nil)) ?_
  have h_50 := h_49.up (Pick.t (Pick.t (Pick.t (Pick.t (Pick.t Pick.h)))))
  have h_51 := h_50.drop rfl
  have h_52 := h_51.up (Pick.t (Pick.t (Pick.t (Pick.t (Pick.t Pick.h)))))
  have h_53 := h_52.drop rfl
  have h_54 := h_53.up (Pick.t (Pick.t (Pick.t (Pick.t (Pick.t Pick.h)))))
  have h_55 := h_54.drop rfl
  have h_56 := h_55.up (Pick.t (Pick.t (Pick.t (Pick.t (Pick.t Pick.h)))))
  have h_57 := h_56.drop rfl
  have h_58 := h_57.up (Pick.t (Pick.t (Pick.t (Pick.t (Pick.t Pick.h)))))
  have h_59 := h_58.drop rfl
  have h_60 := h_59.up (Pick.t (Pick.t (Pick.t (Pick.t (Pick.t Pick.h)))))
  have h_61 := h_60.drop rfl
  have h_62 := h_61.up (Pick.t (Pick.t (Pick.t (Pick.t Pick.h))))
  have h_63 := h_62.up (Pick.t (Pick.t (Pick.t (Pick.t Pick.h))))
  have h_64 := h_63.up (Pick.t (Pick.t (Pick.t (Pick.t Pick.h))))
  have h_65 := h_64.up (Pick.t (Pick.t (Pick.t (Pick.t Pick.h))))
  have h_66 := h_65.up (Pick.t (Pick.t (Pick.t (Pick.t Pick.h))))
  exact ⟨_, _, _, rfl, h_66⟩

end Go.Proofs.Ytbhllplbbkmndaa

namespace Go.Vc
open Go.RowKit Go.ChangeShapes Go.WideShapes Go.ChangeAt
section
variable {P : Program} {w : World} {t : TypeId} {cs : List Value}
theorem Tr.slG {e : TypeId} {s : Nat} (hu : P.underlying t = some (.slice e)) (hce : P.cellsOf e = s) (hs : 1 ≤ s) (h : Tr P w t cs) :
    ∃ a n cap, ∃ els : List (List Value), cs = [.slice a n cap] ∧ els.length = n ∧ n ≤ cap ∧ cap ≤ maxLen ∧ (∀ y ∈ els, y.length = s ∧ Tr P w e y) ∧ (Ent.view a els.flatten).ok w.heap.size w := by
  rcases Tr.nilOrSlice hu h with rfl | ⟨a, len, cap, rfl, h1, h2, h3⟩
  · exact ⟨none, 0, 0, [], rfl, rfl, Nat.le_refl _, by simp [maxLen], (by intro y hy; cases hy), ⟨View.nil _ _, fun ad h => by cases h⟩⟩
  · have key : ∀ k, k ≤ len → ∃ els : List (List Value), els.length = k ∧ els.flatten.length = s * k ∧ (∀ y ∈ els, y.length = s ∧ Tr P w e y) ∧ View w (some a) els.flatten := by
      intro k
      induction k with
      | zero => intro _; exact ⟨[], rfl, rfl, (by intro y hy; cases hy), View.nil _ _⟩
      | succ k ih =>
        intro hk
        obtain ⟨els, hl, hf, he, hv⟩ := ih (by omega)
        obtain ⟨ys, hys, ht⟩ := h3 k (by omega)
        rw [hce] at hys
        obtain ⟨hyl, hyc⟩ := cells?_all hys
        refine ⟨els ++ [ys], by simp [hl], by simp [hf, hyl, Nat.mul_succ], fun y hy => ?_, fun i v hv' => ?_⟩
        · rcases List.mem_append.1 hy with hy | hy
          · exact he y hy
          · rw [List.mem_singleton] at hy; subst hy; exact ⟨hyl, ht⟩
        · rw [List.flatten_append] at hv'
          by_cases hi : i < els.flatten.length
          · refine hv i v ?_
            rw [List.getElem?_append_left hi] at hv'
            exact hv'
          · rw [List.getElem?_append_right (by omega)] at hv'
            have h4 := hyc (i - els.flatten.length) v (by rw [List.flatten_cons, List.flatten_nil, List.append_nil] at hv'; exact hv')
            rw [add_add, hf, Nat.mul_comm k, show s * k + (i - s * k) = i by omega] at h4
            exact ⟨a, rfl, h4⟩
    obtain ⟨els, hl, hf, he, hv⟩ := key len (Nat.le_refl _)
    refine ⟨some a, len, cap, els, rfl, hl, h1, h2, he, ⟨hv, fun ad ha hne => ?_⟩⟩
    cases ha
    cases hx : els.flatten with
    | nil => rw [hx] at hne; simp at hne
    | cons x l =>
      obtain ⟨ad', e, hc⟩ := hv 0 x (by rw [hx]; rfl)
      cases e
      have := block_lt_of_cell hc
      rwa [Addr.add_block] at this
end
theorem els_of {α : Type} {f : α → List Value} {p : α → Prop} : ∀ {els : List (List Value)}, (∀ y ∈ els, ∃ r, y = f r ∧ p r) → ∃ rs : List α, els = rs.map f ∧ ∀ r ∈ rs, p r
  | [], _ => ⟨[], rfl, fun r h => by cases h⟩
  | y :: els, h => by
    obtain ⟨r, hr, hp⟩ := h y (List.mem_cons_self ..)
    obtain ⟨rs, hrs, hps⟩ := els_of (els := els) fun z hz => h z (List.mem_cons_of_mem _ hz)
    refine ⟨r :: rs, by rw [hr, hrs]; rfl, fun q hq => ?_⟩
    rcases List.mem_cons.1 hq with rfl | hq
    · exact hp
    · exact hps q hq
theorem flat_len {α : Type} {f : α → List Value} {s : Nat} : ∀ {rs : List α}, (∀ r ∈ rs, (f r).length = s) → (rs.map f).flatten.length = rs.length * s
  | [], _ => by simp
  | r :: rs, h => by
    rw [List.map_cons, List.flatten_cons, List.length_append, flat_len fun q hq => h q (List.mem_cons_of_mem _ hq), h r (List.mem_cons_self ..), List.length_cons, Nat.succ_mul]; omega
theorem flat_at {α : Type} {f : α → List Value} {s : Nat} {z : α} : ∀ {rs : List α} {k : Nat}, (∀ r ∈ rs, (f r).length = s) → k < rs.length → ((rs.map f).flatten.drop (k * s)).take s = f (rs.getD k z)
  | r :: rs, 0, h, _ => by
    have := h r (List.mem_cons_self ..)
    rw [Nat.zero_mul, List.drop_zero, List.map_cons, List.flatten_cons, List.take_append_of_le_length (by omega), List.take_of_length_le (by omega)]; rfl
  | r :: rs, k + 1, h, hk => by
    have h1 := h r (List.mem_cons_self ..)
    have h2 := flat_at (z := z) (rs := rs) (k := k) (fun q hq => h q (List.mem_cons_of_mem _ hq)) (by simpa using hk)
    rw [List.map_cons, List.flatten_cons, show (k + 1) * s = (f r).length + k * s by rw [h1, Nat.succ_mul]; omega, ← List.drop_drop, List.drop_left]
    simpa using h2
theorem getD_mem {α : Type} {z : α} {rs : List α} {k : Nat} (h : k < rs.length) : rs.getD k z ∈ rs := by
  have e : rs.getD k z = rs[k] := by simp [h]
  rw [e]; exact List.getElem_mem h
end Go.Vc

namespace Go.Orc
open Go.Vc Go.RowKit
def dr (df : List UInt8) (i : Nat) : List UInt8 := (df.drop (i * 32)).take 32
def Unl (df : List UInt8) (n : Nat) (d : List UInt8) : Prop := (∀ i, i < n → (∀ k, k < i → dr df k ≠ dr df i) ∧ df.getD (i * 32 + 31) 0 ≠ 1 ∧ dr df i ≠ d) ∧ d.getD 31 0 ≠ 1
def Apt (df : List UInt8) (n : Nat) : Prop := ∀ i, i < n → (∀ k, k < i → dr df k ≠ dr df i) ∧ df.getD (i * 32 + 31) 0 ≠ 1
section
variable {df : List UInt8} {n : Nat} {d : List UInt8}
theorem drawF_lt {i : Nat} (h : i < n) : drawF df n i = dr df i := by rw [drawF, if_pos h]; rfl
theorem dr_31 {i : Nat} : (dr df i).getD 31 0 = df.getD (i * 32 + 31) 0 := by
  simp [dr, List.getD_eq_getElem?_getD, List.getElem?_take, List.getElem?_drop]
theorem drawF_ge {i : Nat} (h : ¬ i < n) : drawF df n i = leN 8 i ++ (List.replicate 23 0 ++ [1]) := by rw [drawF, if_neg h]
theorem drawF_31 {i : Nat} (h : ¬ i < n) : (drawF df n i).getD 31 0 = 1 := by
  have e := leN_len 8 i
  rw [drawF_ge h, List.getD_eq_getElem?_getD, List.getElem?_append_right (by omega), e]; rfl
theorem draw_inj (ha : Apt df n) {i j : Nat} (hi : i < 18446744073709551616) (hj : j < 18446744073709551616) (hne : i ≠ j) : drawF df n i ≠ drawF df n j := by
  intro h
  by_cases h1 : i < n
  · by_cases h2 : j < n
    · rw [drawF_lt h1, drawF_lt h2] at h
      rcases Nat.lt_or_gt_of_ne hne with hl | hl
      · exact (ha j h2).1 i hl h
      · exact (ha i h1).1 j hl h.symm
    · have := drawF_31 (df := df) h2
      rw [← h, drawF_lt h1, dr_31] at this
      exact (ha i h1).2 this
  · by_cases h2 : j < n
    · have := drawF_31 (df := df) h1
      rw [h, drawF_lt h2, dr_31] at this
      exact (ha j h2).2 this
    · rw [drawF_ge h1, drawF_ge h2] at h
      have h3 := congrArg natLE (List.append_inj_left h (by rw [leN_len, leN_len]))
      rw [natLE_leN, natLE_leN] at h3
      omega
def DL (df : List UInt8) (n u : Nat) (l : Lg) : Prop := u = l.length ∧ ∀ i, i < l.length → (l.getD i ((0, [], 0, []), [])).2 = drawF df n i
theorem DL.nil : DL df n 0 [] := ⟨rfl, fun i h => by simp at h⟩
theorem DL.an {u : Nat} {l : Lg} {q : Qn} (h : DL df n u l) : DL df n (anU true u l q) (anL true df n u l q) := by
  cases hf : fdq q l 0 with
  | some i => rw [anU_hit hf, anL_hit hf]; exact h
  | none =>
    rw [anU_miss hf, anL_miss hf]
    refine ⟨by rw [snoc_len]; exact congrArg (· + 1) h.1, fun i hi => ?_⟩
    rw [snoc_len] at hi
    by_cases e : i < l.length
    · have := h.2 i e
      simpa [List.getD_eq_getElem?_getD, List.getElem?_append_left, e] using this
    · have e2 : i = l.length := by omega
      subst e2
      have : (l ++ [(q, mF true df n u q)]).getD l.length ((0, [], 0, []), []) = (q, mF true df n u q) := by simp
      rw [this, h.1]; rfl
theorem fdq_get {q : Qn} {z : Qn × List UInt8} : ∀ {l : Lg} {s j : Nat}, fdq q l s = some j → s ≤ j ∧ j < s + l.length ∧ (l.getD (j - s) z).1 = q
  | p :: r, s, j, h => by
    rw [fdq] at h
    split at h
    · rename_i e
      cases h
      exact ⟨Nat.le_refl _, by rw [List.length_cons]; omega, by rw [Nat.sub_self]; simpa using e⟩
    · obtain ⟨h1, h2, h3⟩ := fdq_get (z := z) h
      refine ⟨by omega, by rw [List.length_cons]; omega, ?_⟩
      have e : j - s = (j - (s + 1)) + 1 := by omega
      rw [e]; simpa using h3
theorem lk_draw {u : Nat} {l : Lg} {q : Qn} {a : List UInt8} (h : DL df n u l) (hk : lk q l = some a) : ∃ i, i < l.length ∧ (l.getD i ((0, [], 0, []), [])).1 = q ∧ a = drawF df n i := by
  unfold lk at hk
  cases hf : fdq q l 0 with
  | none => rw [hf] at hk; cases hk
  | some i =>
    rw [hf] at hk
    obtain ⟨h1, h2, h3⟩ := fdq_get (z := ((0, [], 0, []), [])) hf
    have hi : i < l.length := by omega
    refine ⟨i, hi, by simpa using h3, ?_⟩
    have h4 := h.2 i hi
    have e : l.getD i (q, []) = l.getD i ((0, [], 0, []), []) := by simp [hi]
    simp only [Option.map_some, Option.some.injEq] at hk
    rw [← hk, e, h4]
theorem lk_ne {u : Nat} {l : Lg} {q q' : Qn} {a a' : List UInt8} (ha : Apt df n) (h : DL df n u l) (hl : l.length < 18446744073709551616) (h1 : lk q l = some a) (h2 : lk q' l = some a') (hne : q ≠ q') : a ≠ a' := by
  obtain ⟨i, hi, e1, e2⟩ := lk_draw h h1
  obtain ⟨j, hj, e3, e4⟩ := lk_draw h h2
  subst e2 e4
  refine draw_inj ha (by omega) (by omega) fun e => hne ?_
  subst e
  rw [← e1, ← e3]
end
end Go.Orc
namespace Go.Vc
open Go.RowKit
section
variable {P : Program} {F : Fr} {w : World} {ty : TypeId} {pos : String} {after : Array Edge} {dst : Option Tmp} {g : Option (Nat × Bool)}
theorem R.indexG {i j off' len s : Nat} {a : Option Addr} {T E : TypeId} {x y : Operand} {kd : IntKind} {iv : Int} (hx : evO F x = .pointer (some (gA a j))) (hy : evO F y = .int kd iv) (hi : iv = (i : Int)) (hlt : i < len)
    (hT : P.underlying T = some (.array len E)) (hs : ∀ w, (sizeOf E).run P w = .ok s w) (hoff : off' = j + i * s) : (execOp (evO F) ⟨dst, .indexAddr T x y, ty, pos, after, g⟩).run P w = .ok (.value (.pointer (some (gA a off')))) w := by
  subst hi
  have hlt' : (i : Int) < (len : Int) := by omega
  have h0 : (0 : Int) ≤ i := by omega
  simp only [execOp, hx, hy, Instr.indexAt, asIntOf, Sem.run_bind, Sem.run_pure, Result.andThen_ok, run_underlying hT, Instr.sureAddr, h0, hlt', and_self, if_true, hs, Int.toNat_natCast, gA_add, hoff]
end
end Go.Vc
namespace Go.Vc
open Go.RowKit
section
variable {P : Program} {F : Fr} {w : World} {ty : TypeId} {pos : String} {after : Array Edge} {dst : Option Tmp} {g : Option (Nat × Bool)}
end
end Go.Vc

namespace Go.Orc
open Go.Vc Go.RowKit
def wnB (mn : Nat) (nd : UInt64) : Bool := decide (64 ≤ mn ∧ nd.toNat % 128 = 0 ∧ nd.toNat / 128 ≤ mn - 64)
theorem nd_mod {nd : UInt64} : nd % 128 = 0 ↔ nd.toNat % 128 = 0 := by
  rw [← UInt64.toNat_inj, UInt64.toNat_mod]; rfl
theorem nd_div {nd : UInt64} {k : Nat} (h : k < 1000) : nd / 128 ≤ UInt64.ofNat k ↔ nd.toNat / 128 ≤ k := by
  have e : (UInt64.ofNat k).toNat = k := by simp; omega
  rw [UInt64.le_iff_toNat_le, UInt64.toNat_div, e]; rfl
theorem wnB_at {mn : Nat} {nd : UInt64} (h : wnB mn nd = true) (hm : mn ≤ 100) : ∃ p, nd = UInt64.ofNat p ∧ p % 128 = 0 ∧ p + 8192 ≤ 128 * mn := by
  have h2 := of_decide_eq_true h
  exact ⟨nd.toNat, by simp, h2.2.1, by omega⟩
def sbL (l : List UInt8) (p w : Nat) : List UInt8 := (l.drop (p + 32 * (w ^^^ 1))).take 32
def upQ (w : Nat) (d s : List UInt8) : Qn := if w % 2 = 1 then (1, List.replicate 32 0, 5, [leN 8 (UInt64.ofNat (w / 2)).toNat, s, d].flatten) else (1, List.replicate 32 0, 5, [leN 8 (UInt64.ofNat (w / 2)).toNat, d, s].flatten)
def upS (id : Bool) (df : List UInt8) (dn : Nat) (l : List UInt8) (p pg u : Nat) (lg : Lg) (lf : List UInt8) : Nat → Nat × Lg × List UInt8
  | 0 => (u, lg, lf)
  | k + 1 => (anU id (upS id df dn l p pg u lg lf k).1 (upS id df dn l p pg u lg lf k).2.1 (upQ ((128 + pg) / 2 ^ k) (upS id df dn l p pg u lg lf k).2.2 (sbL l p ((128 + pg) / 2 ^ k))), anL id df dn (upS id df dn l p pg u lg lf k).1 (upS id df dn l p pg u lg lf k).2.1 (upQ ((128 + pg) / 2 ^ k) (upS id df dn l p pg u lg lf k).2.2 (sbL l p ((128 + pg) / 2 ^ k))), anD id df dn (upS id df dn l p pg u lg lf k).1 (upS id df dn l p pg u lg lf k).2.1 (upQ ((128 + pg) / 2 ^ k) (upS id df dn l p pg u lg lf k).2.2 (sbL l p ((128 + pg) / 2 ^ k))))
section
variable {id : Bool} {df : List UInt8} {dn : Nat} {l : List UInt8} {p pg u : Nat} {lg : Lg} {lf : List UInt8} {k : Nat}
theorem upS_o (h : (128 + pg) / 2 ^ k % 2 = 1) : upS id df dn l p pg u lg lf (k + 1) = (anU id (upS id df dn l p pg u lg lf k).1 (upS id df dn l p pg u lg lf k).2.1 (1, List.replicate 32 0, 5, [leN 8 (UInt64.ofNat ((128 + pg) / 2 ^ k / 2)).toNat, sbL l p ((128 + pg) / 2 ^ k), (upS id df dn l p pg u lg lf k).2.2].flatten), anL id df dn (upS id df dn l p pg u lg lf k).1 (upS id df dn l p pg u lg lf k).2.1 (1, List.replicate 32 0, 5, [leN 8 (UInt64.ofNat ((128 + pg) / 2 ^ k / 2)).toNat, sbL l p ((128 + pg) / 2 ^ k), (upS id df dn l p pg u lg lf k).2.2].flatten), anD id df dn (upS id df dn l p pg u lg lf k).1 (upS id df dn l p pg u lg lf k).2.1 (1, List.replicate 32 0, 5, [leN 8 (UInt64.ofNat ((128 + pg) / 2 ^ k / 2)).toNat, sbL l p ((128 + pg) / 2 ^ k), (upS id df dn l p pg u lg lf k).2.2].flatten)) := by
  rw [upS, upQ, if_pos h]
theorem upS_e (h : (128 + pg) / 2 ^ k % 2 ≠ 1) : upS id df dn l p pg u lg lf (k + 1) = (anU id (upS id df dn l p pg u lg lf k).1 (upS id df dn l p pg u lg lf k).2.1 (1, List.replicate 32 0, 5, [leN 8 (UInt64.ofNat ((128 + pg) / 2 ^ k / 2)).toNat, (upS id df dn l p pg u lg lf k).2.2, sbL l p ((128 + pg) / 2 ^ k)].flatten), anL id df dn (upS id df dn l p pg u lg lf k).1 (upS id df dn l p pg u lg lf k).2.1 (1, List.replicate 32 0, 5, [leN 8 (UInt64.ofNat ((128 + pg) / 2 ^ k / 2)).toNat, (upS id df dn l p pg u lg lf k).2.2, sbL l p ((128 + pg) / 2 ^ k)].flatten), anD id df dn (upS id df dn l p pg u lg lf k).1 (upS id df dn l p pg u lg lf k).2.1 (1, List.replicate 32 0, 5, [leN 8 (UInt64.ofNat ((128 + pg) / 2 ^ k / 2)).toNat, (upS id df dn l p pg u lg lf k).2.2, sbL l p ((128 + pg) / 2 ^ k)].flatten)) := by
  rw [upS, upQ, if_neg h]
theorem upS_32 (h : df.length = 32 * dn) (hl : ok32 lg) : ∀ k, ok32 (upS id df dn l p pg u lg lf k).2.1
  | 0 => hl
  | k + 1 => anL_32 h (upS_32 h hl k)
theorem upS_len (h : df.length = 32 * dn) (hl : ok32 lg) (hf : lf.length = 32) : ∀ k, (upS id df dn l p pg u lg lf k).2.2.length = 32
  | 0 => hf
  | k + 1 => anD_len h (upS_32 h hl k)
theorem upS_u : ∀ k, (upS id df dn l p pg u lg lf k).1 ≤ u + k
  | 0 => Nat.le_refl _
  | k + 1 => Nat.le_trans (anU_le ..) (Nat.succ_le_succ (upS_u k))
theorem upS_l : ∀ k, (upS id df dn l p pg u lg lf k).2.1.length ≤ lg.length + k
  | 0 => Nat.le_refl _
  | k + 1 => Nat.le_trans (anL_le ..) (Nat.succ_le_succ (upS_l k))
theorem upS_lk {q : Qn} {d : List UInt8} {k : Nat} (h : lk q (upS id df dn l p pg u lg lf k).2.1 = some d) : ∀ {m}, k ≤ m → lk q (upS id df dn l p pg u lg lf m).2.1 = some d
  | 0, hm => by
    have e : k = 0 := by omega
    subst e; exact h
  | m + 1, hm => by
    by_cases e : k = m + 1
    · subst e; exact h
    · have hk : k ≤ m := by omega
      exact lk_anL (upS_lk h hk)
end
def upM (l : List UInt8) (p pg : Nat) (D : Nat → List UInt8) : Nat → List UInt8
  | 0 => l
  | k + 1 => ovr (upM l p pg D k) (p + 32 * ((128 + pg) / 2 ^ k)) (D k)
section
variable {l : List UInt8} {p pg mn : Nat} {D : Nat → List UInt8}
theorem upM_len (hl : l.length = 128 * mn) (hw : p + 8192 ≤ 128 * mn) (hp : pg < 128) (hD : ∀ k, (D k).length = 32) : ∀ k, (upM l p pg D k).length = 128 * mn
  | 0 => hl
  | k + 1 => by
    have h1 := half_le (128 + pg) k
    exact ovr_len (upM_len hl hw hp hD k) (by rw [hD]; omega)
theorem way_mul {x : Nat} : ∀ {i k : Nat}, i < k → 2 * (x / 2 ^ k) ≤ x / 2 ^ i
  | i, k + 1, h => by
    rw [half_s]
    rcases Nat.lt_or_eq_of_le (Nat.le_of_lt_succ h) with h2 | h2
    · have := way_mul (x := x) h2
      omega
    · subst h2; omega
theorem xor_le (w : Nat) : w ^^^ 1 ≤ w + 1 ∧ w ≤ (w ^^^ 1) + 1 ∧ w ^^^ 1 ≠ w := by
  rw [xor_1]; omega
theorem xor_lt {w : Nat} (h : w ≤ 255) : w ^^^ 1 ≤ 255 := by
  rw [xor_1]; omega
theorem upM_sb (hl : l.length = 128 * mn) (hw : p + 8192 ≤ 128 * mn) (hp : pg < 128) (hD : ∀ k, (D k).length = 32) {m : Nat} (hm : m ≤ 6) : ∀ k, k ≤ m + 1 → sbL (upM l p pg D k) p ((128 + pg) / 2 ^ m) = sbL l p ((128 + pg) / 2 ^ m)
  | 0, _ => rfl
  | k + 1, hk => by
    rw [← upM_sb hl hw hp hD hm k (by omega)]
    have h1 := half_le (128 + pg) k
    have h2 := half_le (128 + pg) m
    have h3 := half_two (pg := pg) hm
    have hL := upM_len hl hw hp hD k
    obtain ⟨x1, x2, x3⟩ := xor_le ((128 + pg) / 2 ^ m)
    unfold sbL
    rw [upM]
    by_cases e : k = m
    · subst e
      by_cases e2 : (128 + pg) / 2 ^ k ^^^ 1 < (128 + pg) / 2 ^ k
      · exact ovr_win_lt (by omega) (by rw [hD, hL]; omega)
      · exact ovr_win_gt (by rw [hD]; omega) (by rw [hD, hL]; omega)
    · have h4 := way_mul (x := 128 + pg) (i := k) (k := m) (by omega)
      exact ovr_win_lt (by omega) (by rw [hD, hL]; omega)
end
def upF (D : Nat → List UInt8) : Nat → List UInt8
  | 0 => D 0
  | k + 1 => upF D k ++ D (k + 1)
end Go.Orc
namespace Go.Orc
open Go.Vc Go.RowKit
def upD (id : Bool) (df : List UInt8) (dn : Nat) (l : List UInt8) (p pg u : Nat) (lg : Lg) (lf : List UInt8) (k : Nat) : List UInt8 := (upS id df dn l p pg u lg lf k).2.2
theorem upD_len {id : Bool} {df : List UInt8} {dn : Nat} {l : List UInt8} {p pg u : Nat} {lg : Lg} {lf : List UInt8} (h : df.length = 32 * dn) (hl : ok32 lg) (hf : lf.length = 32) : ∀ k, (upD id df dn l p pg u lg lf k).length = 32 := upS_len h hl hf
end Go.Orc
namespace Go.Orc
open Go.Vc Go.RowKit
end Go.Orc

namespace Go.Proofs.Ytbhllplbbkmndaa
open Go.Proofs.Try
open Go.Vc Go.Orc Go.Sh Go.RowKit
set_option maxRecDepth 20000

theorem c_at (bm : Nat) (ma : Option Addr) (mn : Nat) (p i : Nat) (hw : p + 8192 ≤ 128 * mn) (hi : i < 256) (hm : mn ≤ 100) (l : List UInt8) (hl : l.length = 128 * mn) (w : World) (hcm : (Ent.blk bm .ro 84 [(1, [(.slice ma mn mn)])]).ok w.heap.size w) (hv : View w ma (l.map vu8)) :
  Cs Try.prog 44 [(.pointer (some ⟨bm, 0, none⟩)), (vu64 (UInt64.ofNat p)), (vi ((i : Nat) : Int))].toArray w (fun v w1 => v = (.agg ⟨((l.drop (p + 32 * i)).take 32).map vu8⟩) ∧ Chg w w1 []) := by
 refine Cs.of (n := 23) (args := [(pO bm 0), (vu64 (UInt64.ofNat p)), (vn i)]) Try.func44 rfl rfl rfl ?_
 have h_0 := HP.init w
 have h_01 := h_0.oldV (View.arg hv) rfl (by simp [Ent.mut])
 have h_00 := h_01.oldV hcm rfl (by simp [Ent.mut])
 refine WP.seq (WP.reg ?_)
 refine WL.alloc (segs := [(32, (zB 32).map vu8)]) h_00 (zv typeInfo23 rfl) rfl (sC (s8 lr) sN) rfl (fun b_1 w_2 h_3 => ?_)
 refine WL.nil (thn_n (WP.seq (WP.reg ?_)))
 refine qM (pO bm 0) rfl rfl (qM (vu64 (UInt64.ofNat p)) rfl rfl (qM (vn i) rfl rfl ?_))
 refine WL.call Try.call27 rfl rfl (c_place p i _ ) rfl ?_
 rintro _ w_5 ⟨rfl, hc_4⟩
 have h_6 := h_3.same hc_4
 refine WL.call Try.call53 rfl rfl (c_Read bm ma mn (p + 32 * i) 32 (by omega) (by omega) (by omega) l hl _ (h_6.argR M1) (viewV (h_6.ok _ M2))) rfl ?_
 rintro _ w_9 ⟨a_7, cap_8, rfl, hc_10, ho_11⟩
 have h_12 := h_6.gotRow hc_10 ho_11
 refine qM (.tuple [(.slice a_7 32 cap_8), (vi 0)].toArray) rfl rfl (qV rfl (R.extract rfl rfl) (qV rfl (R.extract rfl rfl) (qA (.slice a_7 32 cap_8) rfl rfl (qA (vi 0) rfl rfl ?_))))
 refine WL.nil (thn_n (WP.seq (WP.seq (WP.reg ?_))))
 refine qM (vi 0) rfl rfl (qV rfl (R.bin rfl rfl (bi_neq (r := false) (by decide))) ?_)
 refine WL.nil (thn_n ?_)
 refine WP.condF rfl ?_
 refine WP.skip (thn_n (WP.seq (WP.reg ?_)))
 refine qM (.slice a_7 32 cap_8) rfl rfl ?_
 obtain ⟨b_13, rr_14, ha_15, hb_16, hc_17⟩ := Own.open (h_12.own M0) (by decide)
 subst ha_15
 refine qV rfl (R.s2ap (a := (some ⟨b_13, 0, none⟩)) (k := 32) rfl underlying23 (by decide)) (qV rfl (R.loadGA (a := (some ⟨b_13, 0, none⟩)) (i := 0) (xs := ((l.drop (p + 32 * i)).take 32).map vu8) (cs := ((l.drop (p + 32 * i)).take 32).map vu8) rfl (ownView (h_12.ok _ M0)) isAgg23 sizeOf23 (by rw [List.drop_zero, List.take_of_length_le (by rw [len_map (subLen (K := 128 * mn) hl (by omega) : List.length ((l.drop (p + 32 * i)).take 32) = 32)]; exact Nat.le_refl _)]) (len_map (subLen (K := 128 * mn) hl (by omega) : List.length ((l.drop (p + 32 * i)).take 32) = 32)) (by decide)) ?_)
 refine WL.storeA [] [(32, (zB 32).map vu8)] [(32, ((l.drop (p + 32 * i)).take 32).map vu8)] [] h_12 rfl rfl sizeOf23 Y1 (by decide) rfl rfl rfl rfl rfl rfl (sC (s8 (subLen (K := 128 * mn) hl (by omega) : List.length ((l.drop (p + 32 * i)).take 32) = 32)) sN) (fun w_18 h_19 => ?_)
 refine WL.nil (thn_n (WP.ret ?_))
 refine ret_of results44 (RV.cell rfl (h_19.loadA (cs := ((l.drop (p + 32 * i)).take 32).map vu8) isAgg23 sizeOf23 M1 rfl rfl) RV.nil) ?_
 exact ⟨rfl, h_19.chgS⟩

theorem c_WithinB (bm : Nat) (ma : Option Addr) (mn : Nat) (nd : UInt64) (hm : mn ≤ 100) (w : World) (hcm : (Ent.blk bm .ro 84 [(1, [(.slice ma mn mn)])]).ok w.heap.size w) :
  Cs Try.prog 38 [(.pointer (some ⟨bm, 0, none⟩)), (vu64 nd)].toArray w (fun v w1 => v = (.bool (wnB mn nd)) ∧ Chg w w1 []) := by
 refine Cs.of (n := 23) (args := [(pO bm 0), (vu64 nd)]) Try.func38 rfl rfl rfl ?_
 have h_0 := HP.init w
 have h_00 := h_0.old hcm (fun f hf => by cases hf)
 refine WP.seq (WP.reg ?_)
 refine qA (.bool false) rfl rfl ?_
 refine WL.nil (thn_n (WP.seq (WP.reg ?_)))
 refine qM (pO bm 0) rfl rfl ?_
 refine WL.call Try.call37 rfl rfl (c_gran bm ma mn _ (h_00.argR M0)) rfl ?_
 rintro _ w_2 ⟨rfl, hc_1⟩
 have h_3 := h_00.same hc_1
 refine qA (vn mn) rfl rfl ?_
 refine WL.nil (thn_n (WP.seq (WP.reg ?_)))
 refine qM (vn mn) rfl rfl (qV rfl (R.bin rfl rfl (bi_geq (r := decide ((((mn : Nat) : Int) : Int) ≥ 64)) rfl)) (qM (.bool (decide ((((mn : Nat) : Int) : Int) ≥ 64))) rfl rfl ?_))
 rcases Bool.eq_false_or_eq_true (decide ((((mn : Nat) : Int) : Int) ≥ 64)) with c_4 | c_4
 ·have p_5 := of_decide_eq_true c_4
  refine WL.want rfl (congrArg Value.bool c_4) ?_
  refine qM (vu64 nd) rfl rfl ?_
  refine WL.want rfl (congrArg Value.bool c_4) ?_
  refine qV rfl (R.bin (v := (vu64 (nd % 128))) rfl rfl (b64_rem nd 128 (by decide))) ?_
  refine WL.want rfl (congrArg Value.bool c_4) ?_
  refine qV rfl (R.bin (v := (.bool (decide ((nd % 128 : UInt64) = 0)))) rfl rfl (b64_eql (nd % 128) 0 (r := decide ((nd % 128 : UInt64) = 0)) rfl)) (qV rfl (R.pickT (v := (.bool (decide ((nd % 128 : UInt64) = 0)))) (congrArg Value.bool c_4) rfl) (qM (.bool (decide ((nd % 128 : UInt64) = 0))) rfl rfl ?_))
  rcases Bool.eq_false_or_eq_true (decide ((nd % 128 : UInt64) = 0)) with c_6 | c_6
  ·have p_7 := of_decide_eq_true c_6
   refine WL.want rfl (congrArg Value.bool c_6) ?_
   refine qM (vu64 nd) rfl rfl ?_
   refine WL.want rfl (congrArg Value.bool c_6) ?_
   refine qV rfl (R.bin (v := (vu64 (nd / 128))) rfl rfl (b64_quo nd 128 (by decide))) ?_
   refine WL.want rfl (congrArg Value.bool c_6) ?_
   refine qM (vn mn) rfl rfl ?_
   refine WL.want rfl (congrArg Value.bool c_6) ?_
   refine qV rfl (R.bin rfl rfl (bi_sub (c := ((mn - 64 : Nat) : Int)) (by omega) (by omega))) ?_
   refine WL.want rfl (congrArg Value.bool c_6) ?_
   refine qV rfl (R.conv (b := ((UInt64.ofNat (mn - 64)) : UInt64).toNat) rfl underlying3 underlying26 (w64_nat (mn - 64))) ?_
   refine WL.want rfl (congrArg Value.bool c_6) ?_
   refine qV rfl (R.bin (v := (.bool (decide ((nd / 128 : UInt64) ≤ (UInt64.ofNat (mn - 64)))))) rfl rfl (b64_leq (nd / 128) (UInt64.ofNat (mn - 64)) (r := decide ((nd / 128 : UInt64) ≤ (UInt64.ofNat (mn - 64)))) rfl)) (qV rfl (R.pickT (v := (.bool (decide ((nd / 128 : UInt64) ≤ (UInt64.ofNat (mn - 64)))))) (congrArg Value.bool c_6) rfl) (qA (.bool (decide ((nd / 128 : UInt64) ≤ (UInt64.ofNat (mn - 64))))) rfl rfl ?_))
   refine WL.nil (thn_n (WP.ret ?_))
   refine ret_of results38 (RV.tmp (v := (.bool (decide ((nd / 128 : UInt64) ≤ (UInt64.ofNat (mn - 64)))))) rfl RV.nil) ?_
   exact ⟨congrArg Value.bool (by unfold wnB; exact decide_eq_decide.2 ⟨fun x => ⟨by omega, nd_mod.1 p_7, (nd_div (by omega)).1 x⟩, fun x => (nd_div (by omega)).2 x.2.2⟩), h_3.chgS⟩
  ·have p_8 := of_decide_eq_false c_6
   refine WL.skip rfl (congrArg Value.bool c_6) rfl ?_
   refine WL.skip rfl (congrArg Value.bool c_6) rfl ?_
   refine WL.skip rfl (congrArg Value.bool c_6) rfl ?_
   refine WL.skip rfl (congrArg Value.bool c_6) rfl ?_
   refine WL.skip rfl (congrArg Value.bool c_6) rfl ?_
   refine WL.skip rfl (congrArg Value.bool c_6) rfl ?_
   refine qV rfl (R.pickF (v := (.bool false)) (congrArg Value.bool c_6) rfl) (qA (.bool false) rfl rfl ?_)
   refine WL.nil (thn_n (WP.ret ?_))
   refine ret_of results38 (RV.tmp (v := (.bool false)) rfl RV.nil) ?_
   exact ⟨congrArg Value.bool (by unfold wnB; exact (decide_eq_false fun x => p_8 (nd_mod.2 x.2.1)).symm), h_3.chgS⟩
 ·have p_9 := of_decide_eq_false c_4
  refine WL.skip rfl (congrArg Value.bool c_4) rfl ?_
  refine WL.skip rfl (congrArg Value.bool c_4) rfl ?_
  refine WL.skip rfl (congrArg Value.bool c_4) rfl ?_
  refine qV rfl (R.pickF (v := (.bool false)) (congrArg Value.bool c_4) rfl) (qM (.bool false) rfl rfl ?_)
  refine WL.skip rfl rfl rfl ?_
  refine WL.skip rfl rfl rfl ?_
  refine WL.skip rfl rfl rfl ?_
  refine WL.skip rfl rfl rfl ?_
  refine WL.skip rfl rfl rfl ?_
  refine WL.skip rfl rfl rfl ?_
  refine qV rfl (R.pickF (v := (.bool false)) rfl rfl) (qA (.bool false) rfl rfl ?_)
  refine WL.nil (thn_n (WP.ret ?_))
  refine ret_of results38 (RV.tmp (v := (.bool false)) rfl RV.nil) ?_
  exact ⟨congrArg Value.bool (by unfold wnB; exact (decide_eq_false fun x => by have := x.1; omega).symm), h_3.chgS⟩

theorem c_rWithin (mn : Nat) (nd : UInt64) (hm : mn ≤ 100) (w : World) :
  Cs Try.prog 7 [(vi ((mn : Nat) : Int)), (vu64 nd)].toArray w (fun v w1 => v = (.bool (wnB mn nd)) ∧ Chg w w1 []) := by
 refine Cs.of (n := 20) (args := [(vn mn), (vu64 nd)]) Try.func7 rfl rfl rfl ?_
 have h_0 := HP.init w
 refine WP.seq (WP.reg ?_)
 refine qA (.bool false) rfl rfl ?_
 refine WL.nil (thn_n (WP.seq (WP.reg ?_)))
 refine qM (vu64 nd) rfl rfl (qV rfl (R.bin (v := (vu64 (nd % 128))) rfl rfl (b64_rem nd 128 (by decide))) (qV rfl (R.bin (v := (.bool (decide ((nd % 128 : UInt64) = 0)))) rfl rfl (b64_eql (nd % 128) 0 (r := decide ((nd % 128 : UInt64) = 0)) rfl)) (qM (.bool (decide ((nd % 128 : UInt64) = 0))) rfl rfl ?_)))
 rcases Bool.eq_false_or_eq_true (decide ((nd % 128 : UInt64) = 0)) with c_1 | c_1
 ·have p_2 := of_decide_eq_true c_1
  refine WL.want rfl (congrArg Value.bool c_1) ?_
  refine qM (vn mn) rfl rfl ?_
  refine WL.want rfl (congrArg Value.bool c_1) ?_
  refine qV rfl (R.bin rfl rfl (bi_geq (r := decide ((((mn : Nat) : Int) : Int) ≥ 64)) rfl)) (qV rfl (R.pickT (v := (.bool (decide ((((mn : Nat) : Int) : Int) ≥ 64)))) (congrArg Value.bool c_1) rfl) (qM (.bool (decide ((((mn : Nat) : Int) : Int) ≥ 64))) rfl rfl ?_))
  rcases Bool.eq_false_or_eq_true (decide ((((mn : Nat) : Int) : Int) ≥ 64)) with c_3 | c_3
  ·have p_4 := of_decide_eq_true c_3
   refine WL.want rfl (congrArg Value.bool c_3) ?_
   refine qM (vu64 nd) rfl rfl ?_
   refine WL.want rfl (congrArg Value.bool c_3) ?_
   refine qV rfl (R.bin (v := (vu64 (nd / 128))) rfl rfl (b64_quo nd 128 (by decide))) ?_
   refine WL.want rfl (congrArg Value.bool c_3) ?_
   refine qM (vn mn) rfl rfl ?_
   refine WL.want rfl (congrArg Value.bool c_3) ?_
   refine qV rfl (R.bin rfl rfl (bi_sub (c := ((mn - 64 : Nat) : Int)) (by omega) (by omega))) ?_
   refine WL.want rfl (congrArg Value.bool c_3) ?_
   refine qV rfl (R.conv (b := ((UInt64.ofNat (mn - 64)) : UInt64).toNat) rfl underlying3 underlying26 (w64_nat (mn - 64))) ?_
   refine WL.want rfl (congrArg Value.bool c_3) ?_
   refine qV rfl (R.bin (v := (.bool (decide ((nd / 128 : UInt64) ≤ (UInt64.ofNat (mn - 64)))))) rfl rfl (b64_leq (nd / 128) (UInt64.ofNat (mn - 64)) (r := decide ((nd / 128 : UInt64) ≤ (UInt64.ofNat (mn - 64)))) rfl)) (qV rfl (R.pickT (v := (.bool (decide ((nd / 128 : UInt64) ≤ (UInt64.ofNat (mn - 64)))))) (congrArg Value.bool c_3) rfl) (qA (.bool (decide ((nd / 128 : UInt64) ≤ (UInt64.ofNat (mn - 64))))) rfl rfl ?_))
   refine WL.nil (thn_n (WP.ret ?_))
   refine ret_of results7 (RV.tmp (v := (.bool (decide ((nd / 128 : UInt64) ≤ (UInt64.ofNat (mn - 64)))))) rfl RV.nil) ?_
   exact ⟨congrArg Value.bool (by unfold wnB; exact decide_eq_decide.2 ⟨fun x => ⟨by omega, nd_mod.1 p_2, (nd_div (by omega)).1 x⟩, fun x => (nd_div (by omega)).2 x.2.2⟩), h_0.chgS⟩
  ·have p_5 := of_decide_eq_false c_3
   refine WL.skip rfl (congrArg Value.bool c_3) rfl ?_
   refine WL.skip rfl (congrArg Value.bool c_3) rfl ?_
   refine WL.skip rfl (congrArg Value.bool c_3) rfl ?_
   refine WL.skip rfl (congrArg Value.bool c_3) rfl ?_
   refine WL.skip rfl (congrArg Value.bool c_3) rfl ?_
   refine WL.skip rfl (congrArg Value.bool c_3) rfl ?_
   refine qV rfl (R.pickF (v := (.bool false)) (congrArg Value.bool c_3) rfl) (qA (.bool false) rfl rfl ?_)
   refine WL.nil (thn_n (WP.ret ?_))
   refine ret_of results7 (RV.tmp (v := (.bool false)) rfl RV.nil) ?_
   exact ⟨congrArg Value.bool (by unfold wnB; exact (decide_eq_false fun x => by have := x.1; omega).symm), h_0.chgS⟩
 ·have p_6 := of_decide_eq_false c_1
  refine WL.skip rfl (congrArg Value.bool c_1) rfl ?_
  refine WL.skip rfl (congrArg Value.bool c_1) rfl ?_
  refine qV rfl (R.pickF (v := (.bool false)) (congrArg Value.bool c_1) rfl) (qM (.bool false) rfl rfl ?_)
  refine WL.skip rfl rfl rfl ?_
  refine WL.skip rfl rfl rfl ?_
  refine WL.skip rfl rfl rfl ?_
  refine WL.skip rfl rfl rfl ?_
  refine WL.skip rfl rfl rfl ?_
  refine WL.skip rfl rfl rfl ?_
  refine qV rfl (R.pickF (v := (.bool false)) rfl rfl) (qA (.bool false) rfl rfl ?_)
  refine WL.nil (thn_n (WP.ret ?_))
  refine ret_of results7 (RV.tmp (v := (.bool false)) rfl RV.nil) ?_
  exact ⟨congrArg Value.bool (by unfold wnB; exact (decide_eq_false fun x => p_6 (nd_mod.2 x.2.1)).symm), h_0.chgS⟩

theorem c_askG_t (id : Bool) (ob mp : Nat) (ms : List UInt8) (hms : ms.length = 32) (da : Option Addr) (dn dc u : Nat) (la : Option Addr) (ln lc : Nat) (bm : Nat) (ma : Option Addr) (mn : Nat) (hm : mn ≤ 100) (hm1 : 1 ≤ mn) (pg : Nat) (h : pg < 128) (nd : UInt64) (hwn : wnB mn nd = true) (w : World) (hcb : (Ent.blk ob .ro 82 [(1, [(.bool id)]), (32, ms.map vu8), (1, [(.slice da dn dc)]), (1, [(vi ((u : Nat) : Int))]), (1, [(.map (some mp))]), (1, [(.slice la ln lc)])]).ok w.heap.size w) (hcm : (Ent.blk bm .ro 84 [(1, [(.slice ma mn mn)])]).ok w.heap.size w) :
  Cs Try.prog 24 [(.pointer (some ⟨ob, 0, none⟩)), (.pointer (some ⟨bm, 0, none⟩)), (vu64 nd), (vi ((pg : Nat) : Int))].toArray w (fun v w1 => v = (vi 0) ∧ Chg w w1 []) := by
 refine Cs.of (n := 28) (args := [(pO ob 0), (pO bm 0), (vu64 nd), (vn pg)]) Try.func24 rfl rfl rfl ?_
 have h_0 := HP.init w
 have h_01 := h_0.oldV hcb rfl (by simp [Ent.mut])
 have h_00 := h_01.oldV hcm rfl (by simp [Ent.mut])
 refine WP.seq (WP.reg ?_)
 refine qA (vi 0) rfl rfl ?_
 refine WL.nil (thn_n (WP.seq (WP.block (WP.seq (WP.reg ?_)))))
 refine qM (pO ob 0) rfl rfl ?_
 refine WL.call Try.call28 rfl rfl (c_tth id ob mp ms hms da dn dc u la ln lc _ (h_00.argR M1)) rfl ?_
 rintro _ w_2 ⟨rfl, hc_1⟩
 have h_3 := h_00.same hc_1
 refine qV rfl (R.not (b := true) rfl) (qM (.bool false) rfl rfl ?_)
 refine WL.want rfl rfl ?_
 refine qM (pO bm 0) rfl rfl ?_
 refine WL.want rfl rfl ?_
 refine WL.call Try.call37 rfl rfl (c_gran bm ma mn _ (h_3.argR M0)) rfl ?_
 rintro _ w_5 ⟨rfl, hc_4⟩
 have h_6 := h_3.same hc_4
 refine WL.want rfl rfl ?_
 refine qV rfl (R.bin rfl rfl (bi_eql (r := decide ((((mn : Nat) : Int) : Int) = 0)) rfl)) (qV rfl (R.pickF (v := (.bool (decide ((((mn : Nat) : Int) : Int) = 0)))) rfl rfl) (qA (.bool (decide ((((mn : Nat) : Int) : Int) = 0))) rfl rfl ?_))
 refine WL.nil (thn_n ?_)
 refine WP.condF (congrArg Value.bool (decide_eq_false (by omega))) ?_
 refine WP.seq (WP.reg ?_)
 refine qM (vn pg) rfl rfl ?_
 refine WL.call Try.call29 rfl rfl (c_prot_t pg (by omega) _ ) rfl ?_
 rintro _ w_8 ⟨rfl, hc_7⟩
 have h_9 := h_6.same hc_7
 refine qV rfl (R.not (b := true) rfl) (qM (.bool false) rfl rfl ?_)
 refine WL.want rfl rfl ?_
 refine qM (pO bm 0) rfl rfl ?_
 refine WL.want rfl rfl ?_
 refine qM (vu64 nd) rfl rfl ?_
 refine WL.want rfl rfl ?_
 refine WL.call Try.call38 rfl rfl (c_WithinB bm ma mn nd (by omega) _ (h_9.argR M0)) rfl ?_
 rintro _ w_11 ⟨rfl, hc_10⟩
 have h_12 := h_9.same hc_10
 refine WL.want rfl rfl ?_
 refine qV rfl (R.not (b := true) (congrArg Value.bool hwn)) (qV rfl (R.pickF (v := (.bool false)) rfl rfl) (qA (.bool false) rfl rfl ?_))
 refine WL.nil (thn_n ?_)
 refine WP.condF rfl ?_
 refine WP.skip (inb_n (thn_n (WP.seq (WP.reg ?_))))
 refine qA (vi 0) rfl rfl ?_
 refine WL.nil (thn_n (WP.ret ?_))
 refine ret_of results24 (RV.tmp (v := (vi 0)) rfl RV.nil) ?_
 exact ⟨rfl, h_12.chgS⟩

theorem c_Up1 (i : Int) (d : List UInt8) (hd : d.length = 32) (w : World) :
  Cs Try.prog 35 [(vi i), (.agg ⟨d.map vu8⟩)].toArray w (fun v w1 => v = (.tuple [].toArray) ∧ Chg w w1 []) := by
 refine Cs.of (n := 4) (args := [(vi i), (.agg ⟨d.map vu8⟩)]) Try.func35 rfl rfl rfl ?_
 have h_0 := HP.init w
 refine WP.reg ?_
 refine WL.box (segs := [(32, d.map vu8)]) h_0 rfl rfl (sC (s8 hd) sN) rfl (fun b_1 w_2 h_3 => ?_)
 refine WL.nil (ret_n ?_)
 refine ret_of results35 RV.nil ?_
 exact ⟨rfl, h_3.chgS⟩

theorem c_Set1 {w00 : World} {L : List Ent} (b6 b7 : Nat) (bm : Nat) (ma : Option Addr) (mn : Nat) (p i : Nat) (hw : p + 8192 ≤ 128 * mn) (hi : i < 256) (hm1 : 1 ≤ mn) (hp : p % 128 = 0) (hm : mn ≤ 100) (l : List UInt8) (hl : l.length = 128 * mn) (d : List UInt8) (hd : d.length = 32) (w : World) (h_0 : HP w00 w (Ent.blk bm .nw 84 [(1, [(.slice ma mn mn)])] :: Ent.row ma mn mn 65 128 (l.map vu8) :: Ent.blk b6 .nw 35 [(1, [(.pointer (some ⟨bm, 0, none⟩))])] :: Ent.blk b7 .nw 26 [(1, [(vu64 (UInt64.ofNat p))])] :: L)) :
  Cs Try.prog 32 [(vi ((i : Nat) : Int)), (.agg ⟨d.map vu8⟩), (.pointer (some ⟨b6, 0, none⟩)), (.pointer (some ⟨b7, 0, none⟩))].toArray w (fun v w1 => v = .tuple [].toArray ∧ HP w00 w1 (Ent.blk bm .nw 84 [(1, [(.slice ma mn mn)])] :: Ent.row ma mn mn 65 128 ((ovr l (p + 32 * i) d).map vu8) :: Ent.blk b6 .nw 35 [(1, [(.pointer (some ⟨bm, 0, none⟩))])] :: Ent.blk b7 .nw 26 [(1, [(vu64 (UInt64.ofNat p))])] :: L)) := by
 refine Cs.of (n := 12) (args := [(vn i), (.agg ⟨d.map vu8⟩), (pO b6 0), (pO b7 0)]) Try.func32 rfl rfl rfl ?_
 refine WP.seq (WP.reg ?_)
 refine WL.box (segs := [(32, d.map vu8)]) h_0 rfl rfl (sC (s8 hd) sN) rfl (fun b_1 w_2 h_3 => ?_)
 refine WL.nil (thn_n ?_)
 refine WP.drawT (SL w00.heap.size [.blk bm .nw 84 [(1, [(.slice ma mn mn)])], .blk b6 .nw 35 [(1, [(pO bm 0)])], .blk b7 .nw 26 [(1, [(vu64 (UInt64.ofNat p))])]]) (.q 0 (.q 1 (.q 2 (.q 4 (.s 3 (.s 5 .nil)))))) (by kernel_rfl) (by kernel_rfl) rfl (by kernel_rfl) (fun w_4 hc_6 => (SL.cons ((h_3.same hc_6).ok _ M1) (SL.cons ((h_3.same hc_6).ok _ M3) (SL.cons ((h_3.same hc_6).ok _ M4) (SL.nil _ _))))) (fun w_4 hc_6 => ?_)
 have h_5 := h_3.same hc_6
 refine qT rfl rfl (fun wq hS => R.load1 rfl isAgg35 (hS _ M1) Sg.h) ?_
 refine qT rfl rfl (fun wq hS => R.load1 rfl isAgg26 (hS _ M2) Sg.h) ?_
 refine qT rfl rfl (fun wq hS => R.move (v := (vn i)) rfl) ?_
 refine qT rfl rfl (fun wq hS => R.sliceA (b := b_1) (off := 0) (off' := 0) (l := 0) (h := 32) rfl EvB.dflt EvB.dflt (by decide) (by decide) underlying23 sizeOf5 rfl) ?_
 refine WT.s (oN rfl ?_)
 refine WL.call Try.call27 rfl rfl (c_place p i _ ) rfl ?_
 rintro _ w_8 ⟨rfl, hc_7⟩
 have h_9 := h_5.same hc_7
 refine WL.nil ?_
 refine ⟨(SL.cons (h_9.ok _ M1) (SL.cons (h_9.ok _ M3) (SL.cons (h_9.ok _ M4) (SL.nil _ _)))), ?_⟩
 refine WT.s (oN rfl ?_)
 have h_10 := HP_blkView h_9
 have h_12 := (h_10.up J2).up J2
 refine WL.call Try.call26 rfl rfl (c_MWrite bm ma mn (p + 32 * i) (by omega) (by omega) (by omega) (by omega) l d hl hd (some ⟨b_1, 0, none⟩) 32 (by decide) _ h_12) rfl ?_
 rintro _ w_13 ⟨rfl, h_14⟩
 refine WL.nil ?_
 refine ⟨(SL.cons (h_14.ok _ M0) (SL.cons (h_14.ok _ M3) (SL.cons (h_14.ok _ M4) (SL.nil _ _)))), ?_⟩
 refine WT.nil (ret_n ?_)
 refine ret_of results32 RV.nil ?_
 have h_20 := (((((h_14.up J2).drop rfl).up J3).up J3).up J3).up J3
 exact ⟨rfl, h_20⟩

theorem c_atW (bm : Nat) (ma : Option Addr) (mn : Nat) (p : Nat) (hw : p + 8192 ≤ 128 * mn) (hm : mn ≤ 100) (l : List UInt8) (hl : l.length = 128 * mn) (pg k : Nat) (h : pg < 128) (hk : k ≤ 6) (D : Nat → List UInt8) (hD : ∀ k, (D k).length = 32) (w : World) (hcm : (Ent.blk bm .ro 84 [(1, [(.slice ma mn mn)])]).ok w.heap.size w) (hv : View w ma ((upM l p pg D (k + 1)).map vu8)) : Cs Try.prog 44 [(.pointer (some ⟨bm, 0, none⟩)), (vu64 (UInt64.ofNat p)), (vi ((((128 + pg) / 2 ^ k) ^^^ 1 : Nat) : Int))].toArray w (fun v w1 => v = (.agg ⟨(sbL l p ((128 + pg) / 2 ^ k)).map vu8⟩) ∧ Chg w w1 []) := by
 have hle := half_le (128 + pg) k
 have hx : ((128 + pg) / 2 ^ k) ^^^ 1 ≤ 255 := xor_lt (by omega)
 have h2 := c_at bm ma mn p (((128 + pg) / 2 ^ k) ^^^ 1) hw (by omega) hm _ (upM_len hl hw h hD (k + 1)) w hcm hv
 rw [show ((upM l p pg D (k + 1)).drop (p + 32 * (((128 + pg) / 2 ^ k) ^^^ 1))).take 32 = sbL l p ((128 + pg) / 2 ^ k) from upM_sb hl hw h hD hk (k + 1) (Nat.le_refl _)] at h2
 exact h2

theorem c_up0 {w00 : World} {L : List Ent} (id : Bool) (ob mp : Nat) (ms df : List UInt8) (hms : ms.length = 32) (da : Option Addr) (dn dc u : Nat) (hdf : df.length = 32 * dn) (la : Option Addr) (lc : Nat) (lx : List Value) (lg : Lg) (hu : u ≤ 500000) (hlg : lg.length ≤ 500000) (bm : Nat) (ma : Option Addr) (mn : Nat) (hm : mn ≤ 100) (hm1 : 1 ≤ mn) (p : Nat) (hw : p + 8192 ≤ 128 * mn) (hp : p % 128 = 0) (l : List UInt8) (hl : l.length = 128 * mn) (pg : Nat) (h : pg < 128) (lf : List UInt8) (hlf : lf.length = 32) (w : World) (h_0 : HP w00 w (Ent.blk ob .nw 82 [(1, [(.bool id)]), (32, ms.map vu8), (1, [(.slice da dn dc)]), (1, [(vi ((u : Nat) : Int))]), (1, [(.map (some mp))]), (1, [(.slice la lg.length lc)])] :: Ent.row la lg.length lc 114 67 lx :: Ent.obj mp .nw (.map (mArr lg) lg.length) :: Ent.pin (sblks lx) (fun w => Lgs w lx lg) :: Ent.view da (df.map vu8) :: Ent.blk bm .nw 84 [(1, [(.slice ma mn mn)])] :: Ent.row ma mn mn 65 128 (l.map vu8) :: L)) :
  Cs Try.prog 33 [(.pointer (some ⟨ob, 0, none⟩)), (.pointer (some ⟨bm, 0, none⟩)), (vu64 (UInt64.ofNat p)), (vi ((pg : Nat) : Int)), (.agg ⟨lf.map vu8⟩), (Value.func (Fn.func 35) [].toArray [].toArray)].toArray w (fun v w1 => ∃ la' lc' lx', v = (.agg ⟨((upS id df dn l p pg u lg lf 7).2.2).map vu8⟩) ∧ HP w00 w1 (Ent.blk ob .nw 82 [(1, [(.bool id)]), (32, ms.map vu8), (1, [(.slice da dn dc)]), (1, [(vi (((upS id df dn l p pg u lg lf 7).1 : Nat) : Int))]), (1, [(.map (some mp))]), (1, [(.slice la' ((upS id df dn l p pg u lg lf 7).2.1.length) lc')])] :: Ent.row la' ((upS id df dn l p pg u lg lf 7).2.1.length) lc' 114 67 lx' :: Ent.obj mp .nw (.map (mArr ((upS id df dn l p pg u lg lf 7).2.1)) ((upS id df dn l p pg u lg lf 7).2.1.length)) :: Ent.pin (sblks lx') (fun w => Lgs w lx' ((upS id df dn l p pg u lg lf 7).2.1)) :: Ent.view da (df.map vu8) :: Ent.blk bm .nw 84 [(1, [(.slice ma mn mn)])] :: Ent.row ma mn mn 65 128 (l.map vu8) :: L)) := by
 have h32 : ok32 lg := Lgs.ok32 (h_0.ok _ M3).1
 refine Cs.of (n := 49) (args := [(pO ob 0), (pO bm 0), (vu64 (UInt64.ofNat p)), (vn pg), (.agg ⟨lf.map vu8⟩), (Value.func (Fn.func 35) [].toArray [].toArray)]) Try.func33 rfl rfl rfl ?_
 refine WP.seq (WP.reg ?_)
 refine WL.box (segs := [(32, lf.map vu8)]) h_0 rfl rfl (sC (s8 hlf) sN) rfl (fun b_1 w_2 h_3 => ?_)
 refine WL.alloc (segs := [(32, (zB 32).map vu8)]) h_3 (zv typeInfo23 rfl) rfl (sC (s8 lr) sN) rfl (fun b_4 w_5 h_6 => ?_)
 refine WL.nil (thn_n (WP.seq (WP.reg ?_)))
 refine qV rfl (R.loadA [] [(32, lf.map vu8)] [] (cs := lf.map vu8) rfl isAgg23 sizeOf23 (h_6.ok _ M1) rfl rfl rfl rfl) ?_
 refine WL.alloc (segs := [(32, (zB 32).map vu8)]) h_6 (zv typeInfo23 rfl) rfl (sC (s8 lr) sN) rfl (fun b_7 w_8 h_9 => ?_)
 refine WL.storeA [] [(32, (zB 32).map vu8)] [(32, lf.map vu8)] [] h_9 rfl rfl sizeOf23 At.h (by decide) rfl rfl rfl rfl rfl rfl (sC (s8 hlf) sN) (fun w_10 h_11 => ?_)
 refine WL.nil (thn_n (WP.seq (WP.seq (WP.reg ?_))))
 refine qM (vn pg) rfl rfl (qV rfl (R.bin rfl rfl (bi_add (c := ((128 + pg : Nat) : Int)) (by omega) (by omega))) (qA (vn (128 + pg)) rfl rfl ?_))
 refine WL.nil (thn_n (WP.block ?_))
 have h_20 := ((((((((h_11.up J1).up J2).up J9).up J9).up J9).up J9).up J9).up J9).up J9
 refine WP.loopG (G := Nat × Option Addr × Nat × List Value) [14, 15, 16, 20, 21, 22, 23, 24, 25, 26, 27, 28, 29, 30, 31, 32, 33, 34, 35, 36, 37, 38, 39, 40, 41, 42, 43, 44, 45, 46, 47] (fun (k, la2, lc2, lx2) => [(14, (vn (((128 + pg) / 2 ^ k))))]) (fun (k, la2, lc2, lx2) m w1 => HP w00 w1 (Ent.blk ob .nw 82 [(1, [(.bool id)]), (32, ms.map vu8), (1, [(.slice da dn dc)]), (1, [(vn ((upS id df dn l p pg u lg lf k).1))]), (1, [(.map (some mp))]), (1, [(.slice la2 ((upS id df dn l p pg u lg lf k).2.1.length) lc2)])] :: Ent.row la2 ((upS id df dn l p pg u lg lf k).2.1.length) lc2 114 67 lx2 :: Ent.obj mp .nw (.map (mArr ((upS id df dn l p pg u lg lf k).2.1)) ((upS id df dn l p pg u lg lf k).2.1.length)) :: Ent.pin (sblks lx2) (fun w => Lgs w lx2 ((upS id df dn l p pg u lg lf k).2.1)) :: Ent.view da (df.map vu8) :: Ent.blk bm .nw 84 [(1, [(.slice ma mn mn)])] :: Ent.row ma mn mn 65 128 (l.map vu8) :: Ent.blk b_1 .nw 23 [(32, lf.map vu8)] :: Ent.blk b_4 .nw 23 [(32, (zB 32).map vu8)] :: Ent.blk b_7 .nw 23 [(32, ((upS id df dn l p pg u lg lf k).2.2).map vu8)] :: L) ∧ (k ≤ 7) ∧ m = 7 - k) ⟨(0, la, lc, lx), _, ⟨congrArg vi (by rw [Nat.pow_zero, Nat.div_one]), trivial⟩, h_20, Nat.zero_le _, rfl⟩ ?_
 rintro ⟨k, la2, lc2, lx2⟩ m_23 J_24 w_21 ⟨h_22, hk, rfl⟩
 have hsu := upS_u (id := id) (df := df) (dn := dn) (l := l) (p := p) (pg := pg) (u := u) (lg := lg) (lf := lf) k
 have hsl := upS_l (id := id) (df := df) (dn := dn) (l := l) (p := p) (pg := pg) (u := u) (lg := lg) (lf := lf) k
 have hs32 := upS_32 (l := l) (p := p) (pg := pg) (u := u) (lf := lf) (id := id) hdf h32 k
 have hle := half_le (128 + pg) k
 have hx : (128 + pg) / 2 ^ k ^^^ 1 ≤ 255 := xor_lt (by omega)
 refine WP.seq (WP.seq (WP.reg ?_))
 refine qM (vn (((128 + pg) / 2 ^ k))) rfl rfl (qV rfl (R.bin rfl rfl (bi_gtr (r := decide ((((((128 + pg) / 2 ^ k) : Nat) : Int) : Int) > 1)) rfl)) ?_)
 refine WL.nil (thn_n ?_)
 refine WP.cond (b := decide ((((((128 + pg) / 2 ^ k) : Nat) : Int) : Int) > 1)) rfl (fun c_25 => ?_) (fun c_25 => ?_)
 ·have p_26 := of_decide_eq_true c_25
  refine WP.skip (thn_n (WP.seq (WP.block (WP.seq ?_))))
  have hk6 : k ≤ 6 := by
   rcases Nat.lt_or_eq_of_le hk with h8 | h8
   ·omega
   ·have h9 := half_7 h
    subst h8
    omega
  refine WP.reg ?_
  refine qM (Value.func (Fn.func 35) [].toArray [].toArray) rfl rfl (qM (vn (((128 + pg) / 2 ^ k))) rfl rfl (qV rfl (R.loadA [] [(32, ((upS id df dn l p pg u lg lf k).2.2).map vu8)] [] (cs := ((upS id df dn l p pg u lg lf k).2.2).map vu8) rfl isAgg23 sizeOf23 (h_22.ok _ M9) rfl rfl rfl rfl) ?_))
  refine WL.call Try.call35 rfl rfl (c_Up1 ((((128 + pg) / 2 ^ k) : Nat) : Int) ((upS id df dn l p pg u lg lf k).2.2) (upS_len hdf h32 hlf k) _ ) rfl ?_
  rintro _ w_28 ⟨rfl, hc_27⟩
  have h_29 := h_22.same hc_27
  refine WL.nil (thn_n (WP.seq ?_))
  refine WP.cutG (G := Nat × Nat) [15, 16, 28, 29, 30, 31, 32, 33] (fun (bY6Y6Y0Y0, bY6Y7Y0Y0) => [(28, (.agg ⟨((upS id df dn l p pg u lg lf k).2.2).map vu8⟩)), (29, (pO bm 0)), (30, (vu64 (UInt64.ofNat p))), (31, (vn (((128 + pg) / 2 ^ k)))), (32, (vn (((128 + pg) / 2 ^ k) ^^^ 1))), (33, (.agg ⟨(sbL l p ((128 + pg) / 2 ^ k)).map vu8⟩)), (15, (pO bY6Y6Y0Y0 0)), (16, (pO bY6Y7Y0Y0 0))]) (fun (bY6Y6Y0Y0, bY6Y7Y0Y0) w1 => HP w00 w1 (Ent.blk bY6Y7Y0Y0 .nw 23 [(32, (sbL l p ((128 + pg) / 2 ^ k)).map vu8)] :: Ent.blk bY6Y6Y0Y0 .nw 23 [(32, ((upS id df dn l p pg u lg lf k).2.2).map vu8)] :: Ent.blk ob .nw 82 [(1, [(.bool id)]), (32, ms.map vu8), (1, [(.slice da dn dc)]), (1, [(vn ((upS id df dn l p pg u lg lf k).1))]), (1, [(.map (some mp))]), (1, [(.slice la2 ((upS id df dn l p pg u lg lf k).2.1.length) lc2)])] :: Ent.row la2 ((upS id df dn l p pg u lg lf k).2.1.length) lc2 114 67 lx2 :: Ent.obj mp .nw (.map (mArr ((upS id df dn l p pg u lg lf k).2.1)) ((upS id df dn l p pg u lg lf k).2.1.length)) :: Ent.pin (sblks lx2) (fun w => Lgs w lx2 ((upS id df dn l p pg u lg lf k).2.1)) :: Ent.view da (df.map vu8) :: Ent.blk bm .nw 84 [(1, [(.slice ma mn mn)])] :: Ent.row ma mn mn 65 128 (l.map vu8) :: Ent.blk b_1 .nw 23 [(32, lf.map vu8)] :: Ent.blk b_4 .nw 23 [(32, (zB 32).map vu8)] :: Ent.blk b_7 .nw 23 [(32, ((upS id df dn l p pg u lg lf k).2.2).map vu8)] :: L)) ?_ ?_
  ·refine WP.drawZ 9 (SL w00.heap.size [.blk ob .nw 82 [(1, [(.bool id)]), (32, ms.map vu8), (1, [(.slice da dn dc)]), (1, [(vn ((upS id df dn l p pg u lg lf k).1))]), (1, [(.map (some mp))]), (1, [(.slice la2 ((upS id df dn l p pg u lg lf k).2.1.length) lc2)])], .row la2 ((upS id df dn l p pg u lg lf k).2.1.length) lc2 114 67 lx2, .obj mp .nw (.map (mArr ((upS id df dn l p pg u lg lf k).2.1)) ((upS id df dn l p pg u lg lf k).2.1.length)), .pin (sblks lx2) (fun w => Lgs w lx2 ((upS id df dn l p pg u lg lf k).2.1)), .view da (df.map vu8), .blk bm .nw 84 [(1, [(.slice ma mn mn)])], .row ma mn mn 65 128 (l.map vu8), .blk b_1 .nw 23 [(32, lf.map vu8)], .blk b_4 .nw 23 [(32, (zB 32).map vu8)], .blk b_7 .nw 23 [(32, ((upS id df dn l p pg u lg lf k).2.2).map vu8)]]) (.q 0 (.q 1 (.q 2 (.q 3 (.q 4 (.s3 5 6 7 (.s2 6 7 (.s 7 (.s 8 (.s 9 .nil))) (.s 6 (.s 8 (.s 9 .nil)))) (.s2 5 7 (.s 7 (.s 8 (.s 9 .nil))) (.s 5 (.s 8 (.s 9 .nil)))) (.s2 5 6 (.s 6 (.s 8 (.s 9 .nil))) (.s 5 (.s 8 (.s 9 .nil)))))))))) (by kernel_rfl) (by kernel_rfl) rfl (by kernel_rfl) (fun w_30 hc_32 => (SL.cons ((h_29.same hc_32).ok _ M0) (SL.cons ((h_29.same hc_32).ok _ M1) (SL.cons ((h_29.same hc_32).ok _ M2) (SL.cons ((h_29.same hc_32).ok _ M3) (SL.cons ((h_29.same hc_32).ok _ M4) (SL.cons ((h_29.same hc_32).ok _ M5) (SL.cons ((h_29.same hc_32).ok _ M6) (SL.cons ((h_29.same hc_32).ok _ M7) (SL.cons ((h_29.same hc_32).ok _ M8) (SL.cons ((h_29.same hc_32).ok _ M9) (SL.nil _ _)))))))))))) (fun w_30 hc_32 => ?_)
   have h_31 := h_29.same hc_32
   refine ZT.q rfl (Wn.no rfl) rfl rfl (fun wq hS => R.loadA [] [(32, ((upS id df dn l p pg u lg lf k).2.2).map vu8)] [] (cs := ((upS id df dn l p pg u lg lf k).2.2).map vu8) rfl isAgg23 sizeOf23 (hS _ M9) rfl rfl rfl rfl) ?_
   refine ZT.q rfl (Wn.no rfl) rfl rfl (fun wq hS => R.move (v := (pO bm 0)) rfl) ?_
   refine ZT.q rfl (Wn.no rfl) rfl rfl (fun wq hS => R.move (v := (vu64 (UInt64.ofNat p))) rfl) ?_
   refine ZT.q rfl (Wn.no rfl) rfl rfl (fun wq hS => R.move (v := (vn (((128 + pg) / 2 ^ k)))) rfl) ?_
   refine ZT.q rfl (Wn.no rfl) rfl rfl (fun wq hS => R.bin (v := (vn (((128 + pg) / 2 ^ k) ^^^ 1))) rfl rfl (bi_xorN (m := ((128 + pg) / 2 ^ k)) (n := 1) (by omega) (by omega))) ?_
   refine ZT.s3 ?_ ?_ ?_
   ·refine OpZ.one rfl (Wn.no rfl) ?_
    refine WL.call Try.call44 rfl rfl (c_at bm ma mn p (((128 + pg) / 2 ^ k) ^^^ 1) hw (by omega) hm l hl _ (h_31.argR M5) (ownView (h_31.ok _ M6))) rfl ?_
    rintro _ w_34 ⟨rfl, hc_33⟩
    have h_35 := h_31.same hc_33
    refine WL.nil ?_
    refine ⟨(N0_1_2_3_4_5_6_7_8_9 h_35.ok), ?_⟩
    refine ZT.s2 ?_ ?_
    ·refine OpZ.one rfl (Wn.no rfl) ?_
     refine WL.alloc (segs := [(32, (zB 32).map vu8)]) h_35 (zv typeInfo23 rfl) rfl (sC (s8 lr) sN) rfl (fun b_36 w_37 h_38 => ?_)
     refine WL.nil ?_
     refine ⟨(N1_2_3_4_5_6_7_8_9_10 h_38.ok), ?_⟩
     refine ZT.s ?_
     refine OpZ.one rfl (Wn.no rfl) ?_
     refine WL.alloc (segs := [(32, (zB 32).map vu8)]) h_38 (zv typeInfo23 rfl) rfl (sC (s8 lr) sN) rfl (fun b_39 w_40 h_41 => ?_)
     refine WL.nil ?_
     refine ⟨(N2_3_4_5_6_7_8_9_10_11 h_41.ok), ?_⟩
     refine ZT.s ?_
     refine OpZ.one rfl (Wn.no rfl) ?_
     refine WL.storeA [] [(32, (zB 32).map vu8)] [(32, ((upS id df dn l p pg u lg lf k).2.2).map vu8)] [] h_41 rfl rfl sizeOf23 Y1 (by decide) rfl rfl rfl rfl rfl rfl (sC (s8 (upS_len hdf h32 hlf k)) sN) (fun w_42 h_43 => ?_)
     refine WL.nil ?_
     refine ⟨(N2_3_4_5_6_7_8_9_10_11 h_43.ok), ?_⟩
     refine ZT.s ?_
     refine OpZ.last rfl (Wn.no rfl) ?_
     refine WL.storeA [] [(32, (zB 32).map vu8)] [(32, (sbL l p ((128 + pg) / 2 ^ k)).map vu8)] [] h_43 rfl rfl sizeOf23 At.h (by decide) rfl rfl rfl rfl rfl rfl (sC (s8 (show (sbL l p ((128 + pg) / 2 ^ k)).length = 32 from subLen (K := 128 * mn) hl (by omega))) sN) (fun w_44 h_45 => ?_)
     refine WL.nil (ZT.nil (thn_n ?_))
     exact ⟨(b_36, b_39), (U4 rfl rfl rfl rfl (U4 rfl rfl rfl rfl (Ag.refl _ _))), ⟨rfl, rfl, rfl, rfl, rfl, rfl, rfl, rfl, trivial⟩, h_45⟩
    ·refine OpZ.one rfl (Wn.no rfl) ?_
     refine WL.alloc (segs := [(32, (zB 32).map vu8)]) h_35 (zv typeInfo23 rfl) rfl (sC (s8 lr) sN) rfl (fun b_46 w_47 h_48 => ?_)
     refine WL.nil ?_
     refine ⟨(N1_2_3_4_5_6_7_8_9_10 h_48.ok), ?_⟩
     refine ZT.s ?_
     refine OpZ.one rfl (Wn.no rfl) ?_
     refine WL.alloc (segs := [(32, (zB 32).map vu8)]) h_48 (zv typeInfo23 rfl) rfl (sC (s8 lr) sN) rfl (fun b_49 w_50 h_51 => ?_)
     refine WL.nil ?_
     refine ⟨(N2_3_4_5_6_7_8_9_10_11 h_51.ok), ?_⟩
     refine ZT.s ?_
     refine OpZ.one rfl (Wn.no rfl) ?_
     refine WL.storeA [] [(32, (zB 32).map vu8)] [(32, ((upS id df dn l p pg u lg lf k).2.2).map vu8)] [] h_51 rfl rfl sizeOf23 At.h (by decide) rfl rfl rfl rfl rfl rfl (sC (s8 (upS_len hdf h32 hlf k)) sN) (fun w_52 h_53 => ?_)
     refine WL.nil ?_
     refine ⟨(N2_3_4_5_6_7_8_9_10_11 h_53.ok), ?_⟩
     refine ZT.s ?_
     refine OpZ.last rfl (Wn.no rfl) ?_
     refine WL.storeA [] [(32, (zB 32).map vu8)] [(32, (sbL l p ((128 + pg) / 2 ^ k)).map vu8)] [] h_53 rfl rfl sizeOf23 Y1 (by decide) rfl rfl rfl rfl rfl rfl (sC (s8 (show (sbL l p ((128 + pg) / 2 ^ k)).length = 32 from subLen (K := 128 * mn) hl (by omega))) sN) (fun w_54 h_55 => ?_)
     refine WL.nil (ZT.nil (thn_n ?_))
     have h_67 := (((((((((((h_55.up J11).up J11).up J11).up J11).up J11).up J11).up J11).up J11).up J11).up J11).up J10).up J11
     exact ⟨(b_49, b_46), (U4 rfl rfl rfl rfl (U4 rfl rfl rfl rfl (Ag.refl _ _))), ⟨rfl, rfl, rfl, rfl, rfl, rfl, rfl, rfl, trivial⟩, h_67⟩
   ·refine OpZ.one rfl (Wn.no rfl) ?_
    refine WL.alloc (segs := [(32, (zB 32).map vu8)]) h_31 (zv typeInfo23 rfl) rfl (sC (s8 lr) sN) rfl (fun b_68 w_69 h_70 => ?_)
    refine WL.nil ?_
    refine ⟨(N1_2_3_4_5_6_7_8_9_10 h_70.ok), ?_⟩
    refine ZT.s2 ?_ ?_
    ·refine OpZ.one rfl (Wn.no rfl) ?_
     refine WL.call Try.call44 rfl rfl (c_at bm ma mn p (((128 + pg) / 2 ^ k) ^^^ 1) hw (by omega) hm l hl _ (h_70.argR M6) (ownView (h_70.ok _ M7))) rfl ?_
     rintro _ w_72 ⟨rfl, hc_71⟩
     have h_73 := h_70.same hc_71
     refine WL.nil ?_
     refine ⟨(N1_2_3_4_5_6_7_8_9_10 h_73.ok), ?_⟩
     refine ZT.s ?_
     refine OpZ.one rfl (Wn.no rfl) ?_
     refine WL.alloc (segs := [(32, (zB 32).map vu8)]) h_73 (zv typeInfo23 rfl) rfl (sC (s8 lr) sN) rfl (fun b_74 w_75 h_76 => ?_)
     refine WL.nil ?_
     refine ⟨(N2_3_4_5_6_7_8_9_10_11 h_76.ok), ?_⟩
     refine ZT.s ?_
     refine OpZ.one rfl (Wn.no rfl) ?_
     refine WL.storeA [] [(32, (zB 32).map vu8)] [(32, ((upS id df dn l p pg u lg lf k).2.2).map vu8)] [] h_76 rfl rfl sizeOf23 Y1 (by decide) rfl rfl rfl rfl rfl rfl (sC (s8 (upS_len hdf h32 hlf k)) sN) (fun w_77 h_78 => ?_)
     refine WL.nil ?_
     refine ⟨(N2_3_4_5_6_7_8_9_10_11 h_78.ok), ?_⟩
     refine ZT.s ?_
     refine OpZ.last rfl (Wn.no rfl) ?_
     refine WL.storeA [] [(32, (zB 32).map vu8)] [(32, (sbL l p ((128 + pg) / 2 ^ k)).map vu8)] [] h_78 rfl rfl sizeOf23 At.h (by decide) rfl rfl rfl rfl rfl rfl (sC (s8 (show (sbL l p ((128 + pg) / 2 ^ k)).length = 32 from subLen (K := 128 * mn) hl (by omega))) sN) (fun w_79 h_80 => ?_)
     refine WL.nil (ZT.nil (thn_n ?_))
     exact ⟨(b_68, b_74), (U4 rfl rfl rfl rfl (U4 rfl rfl rfl rfl (Ag.refl _ _))), ⟨rfl, rfl, rfl, rfl, rfl, rfl, rfl, rfl, trivial⟩, h_80⟩
    ·refine OpZ.one rfl (Wn.no rfl) ?_
     refine WL.alloc (segs := [(32, (zB 32).map vu8)]) h_70 (zv typeInfo23 rfl) rfl (sC (s8 lr) sN) rfl (fun b_81 w_82 h_83 => ?_)
     refine WL.nil ?_
     refine ⟨(N2_3_4_5_6_7_8_9_10_11 h_83.ok), ?_⟩
     refine ZT.s ?_
     refine OpZ.one rfl (Wn.no rfl) ?_
     refine WL.call Try.call44 rfl rfl (c_at bm ma mn p (((128 + pg) / 2 ^ k) ^^^ 1) hw (by omega) hm l hl _ (h_83.argR M7) (ownView (h_83.ok _ M8))) rfl ?_
     rintro _ w_85 ⟨rfl, hc_84⟩
     have h_86 := h_83.same hc_84
     refine WL.nil ?_
     refine ⟨(N2_3_4_5_6_7_8_9_10_11 h_86.ok), ?_⟩
     refine ZT.s ?_
     refine OpZ.one rfl (Wn.no rfl) ?_
     refine WL.storeA [] [(32, (zB 32).map vu8)] [(32, ((upS id df dn l p pg u lg lf k).2.2).map vu8)] [] h_86 rfl rfl sizeOf23 Y1 (by decide) rfl rfl rfl rfl rfl rfl (sC (s8 (upS_len hdf h32 hlf k)) sN) (fun w_87 h_88 => ?_)
     refine WL.nil ?_
     refine ⟨(N2_3_4_5_6_7_8_9_10_11 h_88.ok), ?_⟩
     refine ZT.s ?_
     refine OpZ.last rfl (Wn.no rfl) ?_
     refine WL.storeA [] [(32, (zB 32).map vu8)] [(32, (sbL l p ((128 + pg) / 2 ^ k)).map vu8)] [] h_88 rfl rfl sizeOf23 At.h (by decide) rfl rfl rfl rfl rfl rfl (sC (s8 (show (sbL l p ((128 + pg) / 2 ^ k)).length = 32 from subLen (K := 128 * mn) hl (by omega))) sN) (fun w_89 h_90 => ?_)
     refine WL.nil (ZT.nil (thn_n ?_))
     exact ⟨(b_68, b_81), (U4 rfl rfl rfl rfl (U4 rfl rfl rfl rfl (Ag.refl _ _))), ⟨rfl, rfl, rfl, rfl, rfl, rfl, rfl, rfl, trivial⟩, h_90⟩
   ·refine OpZ.one rfl (Wn.no rfl) ?_
    refine WL.alloc (segs := [(32, (zB 32).map vu8)]) h_31 (zv typeInfo23 rfl) rfl (sC (s8 lr) sN) rfl (fun b_91 w_92 h_93 => ?_)
    refine WL.nil ?_
    refine ⟨(N1_2_3_4_5_6_7_8_9_10 h_93.ok), ?_⟩
    refine ZT.s2 ?_ ?_
    ·refine OpZ.one rfl (Wn.no rfl) ?_
     refine WL.call Try.call44 rfl rfl (c_at bm ma mn p (((128 + pg) / 2 ^ k) ^^^ 1) hw (by omega) hm l hl _ (h_93.argR M6) (ownView (h_93.ok _ M7))) rfl ?_
     rintro _ w_95 ⟨rfl, hc_94⟩
     have h_96 := h_93.same hc_94
     refine WL.nil ?_
     refine ⟨(N1_2_3_4_5_6_7_8_9_10 h_96.ok), ?_⟩
     refine ZT.s ?_
     refine OpZ.one rfl (Wn.no rfl) ?_
     refine WL.alloc (segs := [(32, (zB 32).map vu8)]) h_96 (zv typeInfo23 rfl) rfl (sC (s8 lr) sN) rfl (fun b_97 w_98 h_99 => ?_)
     refine WL.nil ?_
     refine ⟨(N2_3_4_5_6_7_8_9_10_11 h_99.ok), ?_⟩
     refine ZT.s ?_
     refine OpZ.one rfl (Wn.no rfl) ?_
     refine WL.storeA [] [(32, (zB 32).map vu8)] [(32, ((upS id df dn l p pg u lg lf k).2.2).map vu8)] [] h_99 rfl rfl sizeOf23 At.h (by decide) rfl rfl rfl rfl rfl rfl (sC (s8 (upS_len hdf h32 hlf k)) sN) (fun w_100 h_101 => ?_)
     refine WL.nil ?_
     refine ⟨(N2_3_4_5_6_7_8_9_10_11 h_101.ok), ?_⟩
     refine ZT.s ?_
     refine OpZ.last rfl (Wn.no rfl) ?_
     refine WL.storeA [] [(32, (zB 32).map vu8)] [(32, (sbL l p ((128 + pg) / 2 ^ k)).map vu8)] [] h_101 rfl rfl sizeOf23 Y1 (by decide) rfl rfl rfl rfl rfl rfl (sC (s8 (show (sbL l p ((128 + pg) / 2 ^ k)).length = 32 from subLen (K := 128 * mn) hl (by omega))) sN) (fun w_102 h_103 => ?_)
     refine WL.nil (ZT.nil (thn_n ?_))
     have h_115 := (((((((((((h_103.up J11).up J11).up J11).up J11).up J11).up J11).up J11).up J11).up J11).up J11).up J10).up J11
     exact ⟨(b_97, b_91), (U4 rfl rfl rfl rfl (U4 rfl rfl rfl rfl (Ag.refl _ _))), ⟨rfl, rfl, rfl, rfl, rfl, rfl, rfl, rfl, trivial⟩, h_115⟩
    ·refine OpZ.one rfl (Wn.no rfl) ?_
     refine WL.alloc (segs := [(32, (zB 32).map vu8)]) h_93 (zv typeInfo23 rfl) rfl (sC (s8 lr) sN) rfl (fun b_116 w_117 h_118 => ?_)
     refine WL.nil ?_
     refine ⟨(N2_3_4_5_6_7_8_9_10_11 h_118.ok), ?_⟩
     refine ZT.s ?_
     refine OpZ.one rfl (Wn.no rfl) ?_
     refine WL.call Try.call44 rfl rfl (c_at bm ma mn p (((128 + pg) / 2 ^ k) ^^^ 1) hw (by omega) hm l hl _ (h_118.argR M7) (ownView (h_118.ok _ M8))) rfl ?_
     rintro _ w_120 ⟨rfl, hc_119⟩
     have h_121 := h_118.same hc_119
     refine WL.nil ?_
     refine ⟨(N2_3_4_5_6_7_8_9_10_11 h_121.ok), ?_⟩
     refine ZT.s ?_
     refine OpZ.one rfl (Wn.no rfl) ?_
     refine WL.storeA [] [(32, (zB 32).map vu8)] [(32, ((upS id df dn l p pg u lg lf k).2.2).map vu8)] [] h_121 rfl rfl sizeOf23 At.h (by decide) rfl rfl rfl rfl rfl rfl (sC (s8 (upS_len hdf h32 hlf k)) sN) (fun w_122 h_123 => ?_)
     refine WL.nil ?_
     refine ⟨(N2_3_4_5_6_7_8_9_10_11 h_123.ok), ?_⟩
     refine ZT.s ?_
     refine OpZ.last rfl (Wn.no rfl) ?_
     refine WL.storeA [] [(32, (zB 32).map vu8)] [(32, (sbL l p ((128 + pg) / 2 ^ k)).map vu8)] [] h_123 rfl rfl sizeOf23 Y1 (by decide) rfl rfl rfl rfl rfl rfl (sC (s8 (show (sbL l p ((128 + pg) / 2 ^ k)).length = 32 from subLen (K := 128 * mn) hl (by omega))) sN) (fun w_124 h_125 => ?_)
     refine WL.nil (ZT.nil (thn_n ?_))
     have h_137 := (((((((((((h_125.up J11).up J11).up J11).up J11).up J11).up J11).up J11).up J11).up J11).up J11).up J10).up J11
     exact ⟨(b_116, b_91), (U4 rfl rfl rfl rfl (U4 rfl rfl rfl rfl (Ag.refl _ _))), ⟨rfl, rfl, rfl, rfl, rfl, rfl, rfl, rfl, trivial⟩, h_137⟩
  ·rintro ⟨b_141, b_142⟩ J_138 w_139 h_140
   refine thn_n (WP.seq (WP.seq (WP.reg ?_)))
   refine qM (vn (((128 + pg) / 2 ^ k))) rfl rfl (qV rfl (R.bin rfl rfl (bi_rem (c := ((((128 + pg) / 2 ^ k) % 2 : Nat) : Int)) (Int.natCast_nonneg _) (by omega) (by first | omega | rfl))) (qV rfl (R.bin rfl rfl (bi_eql (r := decide ((((((128 + pg) / 2 ^ k) % 2 : Nat) : Int) : Int) = 1)) rfl)) ?_))
   refine WL.nil (thn_n ?_)
   refine WP.cond (b := decide ((((((128 + pg) / 2 ^ k) % 2 : Nat) : Int) : Int) = 1)) rfl (fun c_143 => ?_) (fun c_143 => ?_)
   ·have p_144 := of_decide_eq_true c_143
    refine WP.reg ?_
    refine qV rfl (R.loadA [] [(32, (sbL l p ((128 + pg) / 2 ^ k)).map vu8)] [] (cs := (sbL l p ((128 + pg) / 2 ^ k)).map vu8) rfl isAgg23 sizeOf23 (h_140.ok _ M0) rfl rfl rfl rfl) (qV rfl (R.loadA [] [(32, ((upS id df dn l p pg u lg lf k).2.2).map vu8)] [] (cs := ((upS id df dn l p pg u lg lf k).2.2).map vu8) rfl isAgg23 sizeOf23 (h_140.ok _ M1) rfl rfl rfl rfl) ?_)
    refine WL.storeA [] [(32, ((upS id df dn l p pg u lg lf k).2.2).map vu8)] [(32, (sbL l p ((128 + pg) / 2 ^ k)).map vu8)] [] h_140 rfl rfl sizeOf23 Y1 (by decide) rfl rfl rfl rfl rfl rfl (sC (s8 (show (sbL l p ((128 + pg) / 2 ^ k)).length = 32 from subLen (K := 128 * mn) hl (by omega))) sN) (fun w_145 h_146 => ?_)
    refine WL.storeA [] [(32, (sbL l p ((128 + pg) / 2 ^ k)).map vu8)] [(32, ((upS id df dn l p pg u lg lf k).2.2).map vu8)] [] h_146 rfl rfl sizeOf23 At.h (by decide) rfl rfl rfl rfl rfl rfl (sC (s8 (upS_len hdf h32 hlf k)) sN) (fun w_147 h_148 => ?_)
    refine WL.nil (thn_n (WP.reg ?_))
    refine qM (pO ob 0) rfl rfl (qM (vn (((128 + pg) / 2 ^ k))) rfl rfl (qV rfl (R.bin rfl rfl (bi_quo (c := ((((128 + pg) / 2 ^ k) / 2 : Nat) : Int)) (by first | omega | exact ⟨Int.natCast_nonneg _, by omega⟩) (by omega) (by first | omega | rfl))) (qV rfl (R.loadA [] [(32, (sbL l p ((128 + pg) / 2 ^ k)).map vu8)] [] (cs := (sbL l p ((128 + pg) / 2 ^ k)).map vu8) rfl isAgg23 sizeOf23 (h_148.ok _ M1) rfl rfl rfl rfl) (qV rfl (R.loadA [] [(32, ((upS id df dn l p pg u lg lf k).2.2).map vu8)] [] (cs := ((upS id df dn l p pg u lg lf k).2.2).map vu8) rfl isAgg23 sizeOf23 (h_148.ok _ M0) rfl rfl rfl rfl) ?_))))
    have h_153 := ((((h_148.up J6).up J6).up J6).up J6).up J6
    refine WL.call Try.call25 rfl rfl (c_TNode_t id ob mp ms df hms da dn dc ((upS id df dn l p pg u lg lf k).1) hdf la2 lc2 lx2 ((upS id df dn l p pg u lg lf k).2.1) (by omega) (by omega) (((128 + pg) / 2 ^ k) / 2) (by omega) (sbL l p ((128 + pg) / 2 ^ k)) ((upS id df dn l p pg u lg lf k).2.2) (show (sbL l p ((128 + pg) / 2 ^ k)).length = 32 from subLen (K := 128 * mn) hl (by omega)) (upS_len hdf h32 hlf k) _ h_153) rfl ?_
    rintro _ w_157 ⟨la_154, lc_155, lx_156, rfl, h_158⟩
    refine qM (.tuple [(.agg ⟨(anD id df dn ((upS id df dn l p pg u lg lf k).1) ((upS id df dn l p pg u lg lf k).2.1) (1, (zB 32), 5, [leN 8 (UInt64.ofNat (((128 + pg) / 2 ^ k) / 2)).toNat, sbL l p ((128 + pg) / 2 ^ k), (upS id df dn l p pg u lg lf k).2.2].flatten)).map vu8⟩), (vi 0)].toArray) rfl rfl (qV rfl (R.extract rfl rfl) (qV rfl (R.extract rfl rfl) ?_))
    refine WL.storeA [] [(32, ((upS id df dn l p pg u lg lf k).2.2).map vu8)] [(32, (anD id df dn ((upS id df dn l p pg u lg lf k).1) ((upS id df dn l p pg u lg lf k).2.1) (1, (zB 32), 5, [leN 8 (UInt64.ofNat (((128 + pg) / 2 ^ k) / 2)).toNat, sbL l p ((128 + pg) / 2 ^ k), (upS id df dn l p pg u lg lf k).2.2].flatten)).map vu8)] [] h_158 rfl rfl sizeOf23 Y11 (by decide) rfl rfl rfl rfl rfl rfl (sC (s8 (anD_len hdf hs32)) sN) (fun w_159 h_160 => ?_)
    refine WL.nil (inb_n (thn_n (WP.reg ?_)))
    refine qM (vn (((128 + pg) / 2 ^ k))) rfl rfl (qV rfl (R.bin rfl rfl (bi_quo (c := ((((128 + pg) / 2 ^ k) / 2 : Nat) : Int)) (by first | omega | exact ⟨Int.natCast_nonneg _, by omega⟩) (by omega) (by first | omega | rfl))) (qA (vn (((128 + pg) / 2 ^ k) / 2)) rfl rfl ?_))
    refine WL.nil (thn_n ?_)
    have h_174 := (((((((((((((h_160.up J5).drop rfl).up J5).drop rfl).up J9).up J9).up J9).up J9).up J9).up J9).up J9).up J9).up J9).up J9
    exact ⟨(k + 1, la_154, lc_155, lx_156), _, (by omega), (Ag.upd rfl (U4 rfl rfl rfl rfl (U4 rfl rfl rfl rfl (U4 rfl rfl rfl rfl (U4 rfl rfl rfl rfl (Ag.updL rfl (Ag.trans (Ag.sub rfl (Ag.mix _ _ _)) (Ag.upd rfl (Ag.upd rfl (Ag.upd rfl (Ag.upd rfl (Ag.upd rfl (Ag.upd rfl (Ag.updL rfl (Ag.mix _ _ _))))))))))))))), ⟨congrArg vi (by rw [half_s]), trivial⟩, (by rw [upS_o (by omega)]; exact h_174), (by omega), rfl⟩
   ·have p_175 := of_decide_eq_false c_143
    refine WP.skip (thn_n (WP.reg ?_))
    refine qM (pO ob 0) rfl rfl (qM (vn (((128 + pg) / 2 ^ k))) rfl rfl (qV rfl (R.bin rfl rfl (bi_quo (c := ((((128 + pg) / 2 ^ k) / 2 : Nat) : Int)) (by first | omega | exact ⟨Int.natCast_nonneg _, by omega⟩) (by omega) (by first | omega | rfl))) (qV rfl (R.loadA [] [(32, ((upS id df dn l p pg u lg lf k).2.2).map vu8)] [] (cs := ((upS id df dn l p pg u lg lf k).2.2).map vu8) rfl isAgg23 sizeOf23 (h_140.ok _ M1) rfl rfl rfl rfl) (qV rfl (R.loadA [] [(32, (sbL l p ((128 + pg) / 2 ^ k)).map vu8)] [] (cs := (sbL l p ((128 + pg) / 2 ^ k)).map vu8) rfl isAgg23 sizeOf23 (h_140.ok _ M0) rfl rfl rfl rfl) ?_))))
    have h_180 := ((((h_140.up J6).up J6).up J6).up J6).up J6
    refine WL.call Try.call25 rfl rfl (c_TNode_t id ob mp ms df hms da dn dc ((upS id df dn l p pg u lg lf k).1) hdf la2 lc2 lx2 ((upS id df dn l p pg u lg lf k).2.1) (by omega) (by omega) (((128 + pg) / 2 ^ k) / 2) (by omega) ((upS id df dn l p pg u lg lf k).2.2) (sbL l p ((128 + pg) / 2 ^ k)) (upS_len hdf h32 hlf k) (show (sbL l p ((128 + pg) / 2 ^ k)).length = 32 from subLen (K := 128 * mn) hl (by omega)) _ h_180) rfl ?_
    rintro _ w_184 ⟨la_181, lc_182, lx_183, rfl, h_185⟩
    refine qM (.tuple [(.agg ⟨(anD id df dn ((upS id df dn l p pg u lg lf k).1) ((upS id df dn l p pg u lg lf k).2.1) (1, (zB 32), 5, [leN 8 (UInt64.ofNat (((128 + pg) / 2 ^ k) / 2)).toNat, (upS id df dn l p pg u lg lf k).2.2, sbL l p ((128 + pg) / 2 ^ k)].flatten)).map vu8⟩), (vi 0)].toArray) rfl rfl (qV rfl (R.extract rfl rfl) (qV rfl (R.extract rfl rfl) ?_))
    refine WL.storeA [] [(32, ((upS id df dn l p pg u lg lf k).2.2).map vu8)] [(32, (anD id df dn ((upS id df dn l p pg u lg lf k).1) ((upS id df dn l p pg u lg lf k).2.1) (1, (zB 32), 5, [leN 8 (UInt64.ofNat (((128 + pg) / 2 ^ k) / 2)).toNat, (upS id df dn l p pg u lg lf k).2.2, sbL l p ((128 + pg) / 2 ^ k)].flatten)).map vu8)] [] h_185 rfl rfl sizeOf23 Y11 (by decide) rfl rfl rfl rfl rfl rfl (sC (s8 (anD_len hdf hs32)) sN) (fun w_186 h_187 => ?_)
    refine WL.nil (inb_n (thn_n (WP.reg ?_)))
    refine qM (vn (((128 + pg) / 2 ^ k))) rfl rfl (qV rfl (R.bin rfl rfl (bi_quo (c := ((((128 + pg) / 2 ^ k) / 2 : Nat) : Int)) (by first | omega | exact ⟨Int.natCast_nonneg _, by omega⟩) (by omega) (by first | omega | rfl))) (qA (vn (((128 + pg) / 2 ^ k) / 2)) rfl rfl ?_))
    refine WL.nil (thn_n ?_)
    have h_201 := (((((((((((((h_187.up J5).drop rfl).up J5).drop rfl).up J9).up J9).up J9).up J9).up J9).up J9).up J9).up J9).up J9).up J9
    exact ⟨(k + 1, la_181, lc_182, lx_183), _, (by omega), (Ag.upd rfl (U2 rfl rfl (U4 rfl rfl rfl rfl (U4 rfl rfl rfl rfl (U4 rfl rfl rfl rfl (Ag.updL rfl (Ag.trans (Ag.sub rfl (Ag.mix _ _ _)) (Ag.upd rfl (Ag.upd rfl (Ag.upd rfl (Ag.upd rfl (Ag.upd rfl (Ag.upd rfl (Ag.updL rfl (Ag.mix _ _ _))))))))))))))), ⟨congrArg vi (by rw [half_s]), trivial⟩, (by rw [upS_e (by omega)]; exact h_201), (by omega), rfl⟩
 ·have p_202 := of_decide_eq_false c_25
  refine WP.exit (thn_x (thn_x (inb_hit (thn_n (WP.seq (WP.reg ?_))))))
  refine qV rfl (R.loadA [] [(32, ((upS id df dn l p pg u lg lf k).2.2).map vu8)] [] (cs := ((upS id df dn l p pg u lg lf k).2.2).map vu8) rfl isAgg23 sizeOf23 (h_22.ok _ M9) rfl rfl rfl rfl) ?_
  refine WL.storeA [] [(32, (zB 32).map vu8)] [(32, ((upS id df dn l p pg u lg lf k).2.2).map vu8)] [] h_22 rfl rfl sizeOf23 Y8 (by decide) rfl rfl rfl rfl rfl rfl (sC (s8 (upS_len hdf h32 hlf k)) sN) (fun w_203 h_204 => ?_)
  refine WL.nil (thn_n (WP.ret ?_))
  refine ret_of results33 (RV.cell rfl (h_204.loadA (cs := ((upS id df dn l p pg u lg lf k).2.2).map vu8) isAgg23 sizeOf23 M8 rfl rfl) RV.nil) ?_
  have h_217 := ((((((((((((h_204.up J7).drop rfl).up J7).drop rfl).up J7).drop rfl).up J6).up J6).up J6).up J6).up J6).up J6).up J6
  have hk7 : k = 7 := by
   rcases Nat.lt_or_eq_of_le hk with h8 | h8
   ·have h9 := half_two (pg := pg) (k := k) (by omega)
    omega
   ·exact h8
  subst hk7
  exact ⟨_, _, _, rfl, h_217⟩

theorem c_upw {w00 : World} {L : List Ent} (id : Bool) (ob mp : Nat) (ms df : List UInt8) (hms : ms.length = 32) (da : Option Addr) (dn dc u : Nat) (hdf : df.length = 32 * dn) (la : Option Addr) (lc : Nat) (lx : List Value) (lg : Lg) (hu : u ≤ 500000) (hlg : lg.length ≤ 500000) (bm : Nat) (ma : Option Addr) (mn : Nat) (hm : mn ≤ 100) (hm1 : 1 ≤ mn) (p : Nat) (hw : p + 8192 ≤ 128 * mn) (hp : p % 128 = 0) (l : List UInt8) (hl : l.length = 128 * mn) (pg : Nat) (h : pg < 128) (lf : List UInt8) (hlf : lf.length = 32) (b6 b7 : Nat) (w : World) (h_0 : HP w00 w (Ent.blk ob .nw 82 [(1, [(.bool id)]), (32, ms.map vu8), (1, [(.slice da dn dc)]), (1, [(vi ((u : Nat) : Int))]), (1, [(.map (some mp))]), (1, [(.slice la lg.length lc)])] :: Ent.row la lg.length lc 114 67 lx :: Ent.obj mp .nw (.map (mArr lg) lg.length) :: Ent.pin (sblks lx) (fun w => Lgs w lx lg) :: Ent.view da (df.map vu8) :: Ent.blk bm .nw 84 [(1, [(.slice ma mn mn)])] :: Ent.row ma mn mn 65 128 (l.map vu8) :: Ent.blk b6 .nw 35 [(1, [(.pointer (some ⟨bm, 0, none⟩))])] :: Ent.blk b7 .nw 26 [(1, [(vu64 (UInt64.ofNat p))])] :: L)) :
  Cs Try.prog 33 [(.pointer (some ⟨ob, 0, none⟩)), (.pointer (some ⟨bm, 0, none⟩)), (vu64 (UInt64.ofNat p)), (vi ((pg : Nat) : Int)), (.agg ⟨lf.map vu8⟩), (Value.func (Fn.func 32) [].toArray [(Value.pointer (some ⟨b6, 0, none⟩)), (Value.pointer (some ⟨b7, 0, none⟩))].toArray)].toArray w (fun v w1 => ∃ la' lc' lx', v = (.agg ⟨((upS id df dn l p pg u lg lf 7).2.2).map vu8⟩) ∧ HP w00 w1 (Ent.blk ob .nw 82 [(1, [(.bool id)]), (32, ms.map vu8), (1, [(.slice da dn dc)]), (1, [(vi (((upS id df dn l p pg u lg lf 7).1 : Nat) : Int))]), (1, [(.map (some mp))]), (1, [(.slice la' ((upS id df dn l p pg u lg lf 7).2.1.length) lc')])] :: Ent.row la' ((upS id df dn l p pg u lg lf 7).2.1.length) lc' 114 67 lx' :: Ent.obj mp .nw (.map (mArr ((upS id df dn l p pg u lg lf 7).2.1)) ((upS id df dn l p pg u lg lf 7).2.1.length)) :: Ent.pin (sblks lx') (fun w => Lgs w lx' ((upS id df dn l p pg u lg lf 7).2.1)) :: Ent.view da (df.map vu8) :: Ent.blk bm .nw 84 [(1, [(.slice ma mn mn)])] :: Ent.row ma mn mn 65 128 ((upM l p pg (upD id df dn l p pg u lg lf) 7).map vu8) :: Ent.blk b6 .nw 35 [(1, [(.pointer (some ⟨bm, 0, none⟩))])] :: Ent.blk b7 .nw 26 [(1, [(vu64 (UInt64.ofNat p))])] :: L)) := by
 have h32 : ok32 lg := Lgs.ok32 (h_0.ok _ M3).1
 have hDl := upD_len (id := id) (dn := dn) (l := l) (p := p) (pg := pg) (u := u) (lg := lg) (lf := lf) hdf h32 hlf
 refine Cs.of (n := 49) (args := [(pO ob 0), (pO bm 0), (vu64 (UInt64.ofNat p)), (vn pg), (.agg ⟨lf.map vu8⟩), (Value.func (Fn.func 32) [].toArray [(Value.pointer (some ⟨b6, 0, none⟩)), (Value.pointer (some ⟨b7, 0, none⟩))].toArray)]) Try.func33 rfl rfl rfl ?_
 refine WP.seq (WP.reg ?_)
 refine WL.box (segs := [(32, lf.map vu8)]) h_0 rfl rfl (sC (s8 hlf) sN) rfl (fun b_1 w_2 h_3 => ?_)
 refine WL.alloc (segs := [(32, (zB 32).map vu8)]) h_3 (zv typeInfo23 rfl) rfl (sC (s8 lr) sN) rfl (fun b_4 w_5 h_6 => ?_)
 refine WL.nil (thn_n (WP.seq (WP.reg ?_)))
 refine qV rfl (R.loadA [] [(32, lf.map vu8)] [] (cs := lf.map vu8) rfl isAgg23 sizeOf23 (h_6.ok _ M1) rfl rfl rfl rfl) ?_
 refine WL.alloc (segs := [(32, (zB 32).map vu8)]) h_6 (zv typeInfo23 rfl) rfl (sC (s8 lr) sN) rfl (fun b_7 w_8 h_9 => ?_)
 refine WL.storeA [] [(32, (zB 32).map vu8)] [(32, lf.map vu8)] [] h_9 rfl rfl sizeOf23 At.h (by decide) rfl rfl rfl rfl rfl rfl (sC (s8 hlf) sN) (fun w_10 h_11 => ?_)
 refine WL.nil (thn_n (WP.seq (WP.seq (WP.reg ?_))))
 refine qM (vn pg) rfl rfl (qV rfl (R.bin rfl rfl (bi_add (c := ((128 + pg : Nat) : Int)) (by omega) (by omega))) (qA (vn (128 + pg)) rfl rfl ?_))
 refine WL.nil (thn_n (WP.block ?_))
 have h_22 := ((((((((((h_11.up J1).up J2).up J11).up J11).up J11).up J11).up J11).up J11).up J11).up J11).up J11
 refine WP.loopG (G := Nat × Option Addr × Nat × List Value) [14, 15, 16, 20, 21, 22, 23, 24, 25, 26, 27, 28, 29, 30, 31, 32, 33, 34, 35, 36, 37, 38, 39, 40, 41, 42, 43, 44, 45, 46, 47] (fun (k, la2, lc2, lx2) => [(14, (vn (((128 + pg) / 2 ^ k))))]) (fun (k, la2, lc2, lx2) m w1 => HP w00 w1 (Ent.blk ob .nw 82 [(1, [(.bool id)]), (32, ms.map vu8), (1, [(.slice da dn dc)]), (1, [(vn ((upS id df dn l p pg u lg lf k).1))]), (1, [(.map (some mp))]), (1, [(.slice la2 ((upS id df dn l p pg u lg lf k).2.1.length) lc2)])] :: Ent.row la2 ((upS id df dn l p pg u lg lf k).2.1.length) lc2 114 67 lx2 :: Ent.obj mp .nw (.map (mArr ((upS id df dn l p pg u lg lf k).2.1)) ((upS id df dn l p pg u lg lf k).2.1.length)) :: Ent.pin (sblks lx2) (fun w => Lgs w lx2 ((upS id df dn l p pg u lg lf k).2.1)) :: Ent.view da (df.map vu8) :: Ent.blk bm .nw 84 [(1, [(.slice ma mn mn)])] :: Ent.row ma mn mn 65 128 ((upM l p pg (upD id df dn l p pg u lg lf) k).map vu8) :: Ent.blk b6 .nw 35 [(1, [(pO bm 0)])] :: Ent.blk b7 .nw 26 [(1, [(vu64 (UInt64.ofNat p))])] :: Ent.blk b_1 .nw 23 [(32, lf.map vu8)] :: Ent.blk b_4 .nw 23 [(32, (zB 32).map vu8)] :: Ent.blk b_7 .nw 23 [(32, ((upS id df dn l p pg u lg lf k).2.2).map vu8)] :: L) ∧ (k ≤ 7) ∧ m = 7 - k) ⟨(0, la, lc, lx), _, ⟨congrArg vi (by rw [Nat.pow_zero, Nat.div_one]), trivial⟩, h_22, Nat.zero_le _, rfl⟩ ?_
 rintro ⟨k, la2, lc2, lx2⟩ m_25 J_26 w_23 ⟨h_24, hk, rfl⟩
 have hsu := upS_u (id := id) (df := df) (dn := dn) (l := l) (p := p) (pg := pg) (u := u) (lg := lg) (lf := lf) k
 have hsl := upS_l (id := id) (df := df) (dn := dn) (l := l) (p := p) (pg := pg) (u := u) (lg := lg) (lf := lf) k
 have hs32 := upS_32 (l := l) (p := p) (pg := pg) (u := u) (lf := lf) (id := id) hdf h32 k
 have hle := half_le (128 + pg) k
 have hx : (128 + pg) / 2 ^ k ^^^ 1 ≤ 255 := xor_lt (by omega)
 refine WP.seq (WP.seq (WP.reg ?_))
 refine qM (vn (((128 + pg) / 2 ^ k))) rfl rfl (qV rfl (R.bin rfl rfl (bi_gtr (r := decide ((((((128 + pg) / 2 ^ k) : Nat) : Int) : Int) > 1)) rfl)) ?_)
 refine WL.nil (thn_n ?_)
 refine WP.cond (b := decide ((((((128 + pg) / 2 ^ k) : Nat) : Int) : Int) > 1)) rfl (fun c_27 => ?_) (fun c_27 => ?_)
 ·have p_28 := of_decide_eq_true c_27
  refine WP.skip (thn_n (WP.seq (WP.block (WP.seq ?_))))
  have hk6 : k ≤ 6 := by
   rcases Nat.lt_or_eq_of_le hk with h8 | h8
   ·omega
   ·have h9 := half_7 h
    subst h8
    omega
  refine WP.reg ?_
  refine qM (Value.func (Fn.func 32) [].toArray [(Value.pointer (some ⟨b6, 0, none⟩)), (Value.pointer (some ⟨b7, 0, none⟩))].toArray) rfl rfl (qM (vn (((128 + pg) / 2 ^ k))) rfl rfl (qV rfl (R.loadA [] [(32, ((upS id df dn l p pg u lg lf k).2.2).map vu8)] [] (cs := ((upS id df dn l p pg u lg lf k).2.2).map vu8) rfl isAgg23 sizeOf23 (h_24.ok _ M11) rfl rfl rfl rfl) ?_))
  have h_32 := (((h_24.up J8).up J8).up J8).up J8
  refine WL.call Try.call32 rfl rfl (c_Set1 b6 b7 bm ma mn p ((128 + pg) / 2 ^ k) (by omega) (by omega) (by omega) (by omega) (by omega) (upM l p pg (upD id df dn l p pg u lg lf) k) (upM_len hl hw h hDl k) ((upS id df dn l p pg u lg lf k).2.2) (upS_len hdf h32 hlf k) _ h_32) rfl ?_
  rintro _ w_33 ⟨rfl, h_34⟩
  refine WL.nil (thn_n (WP.seq ?_))
  refine WP.cutG (G := Nat × Nat) [15, 16, 28, 29, 30, 31, 32, 33] (fun (bY6Y6Y0Y0, bY6Y7Y0Y0) => [(28, (.agg ⟨((upS id df dn l p pg u lg lf k).2.2).map vu8⟩)), (29, (pO bm 0)), (30, (vu64 (UInt64.ofNat p))), (31, (vn (((128 + pg) / 2 ^ k)))), (32, (vn (((128 + pg) / 2 ^ k) ^^^ 1))), (33, (.agg ⟨(sbL l p ((128 + pg) / 2 ^ k)).map vu8⟩)), (15, (pO bY6Y6Y0Y0 0)), (16, (pO bY6Y7Y0Y0 0))]) (fun (bY6Y6Y0Y0, bY6Y7Y0Y0) w1 => HP w00 w1 (Ent.blk bY6Y7Y0Y0 .nw 23 [(32, (sbL l p ((128 + pg) / 2 ^ k)).map vu8)] :: Ent.blk bY6Y6Y0Y0 .nw 23 [(32, ((upS id df dn l p pg u lg lf k).2.2).map vu8)] :: Ent.blk bm .nw 84 [(1, [(.slice ma mn mn)])] :: Ent.row ma mn mn 65 128 ((ovr (upM l p pg (upD id df dn l p pg u lg lf) k) (p + 32 * ((128 + pg) / 2 ^ k)) ((upS id df dn l p pg u lg lf k).2.2)).map vu8) :: Ent.blk b6 .nw 35 [(1, [(pO bm 0)])] :: Ent.blk b7 .nw 26 [(1, [(vu64 (UInt64.ofNat p))])] :: Ent.blk ob .nw 82 [(1, [(.bool id)]), (32, ms.map vu8), (1, [(.slice da dn dc)]), (1, [(vn ((upS id df dn l p pg u lg lf k).1))]), (1, [(.map (some mp))]), (1, [(.slice la2 ((upS id df dn l p pg u lg lf k).2.1.length) lc2)])] :: Ent.row la2 ((upS id df dn l p pg u lg lf k).2.1.length) lc2 114 67 lx2 :: Ent.obj mp .nw (.map (mArr ((upS id df dn l p pg u lg lf k).2.1)) ((upS id df dn l p pg u lg lf k).2.1.length)) :: Ent.pin (sblks lx2) (fun w => Lgs w lx2 ((upS id df dn l p pg u lg lf k).2.1)) :: Ent.view da (df.map vu8) :: Ent.blk b_1 .nw 23 [(32, lf.map vu8)] :: Ent.blk b_4 .nw 23 [(32, (zB 32).map vu8)] :: Ent.blk b_7 .nw 23 [(32, ((upS id df dn l p pg u lg lf k).2.2).map vu8)] :: L)) ?_ ?_
  ·refine WP.drawZ 9 (SL w00.heap.size [.blk bm .nw 84 [(1, [(.slice ma mn mn)])], .row ma mn mn 65 128 ((ovr (upM l p pg (upD id df dn l p pg u lg lf) k) (p + 32 * ((128 + pg) / 2 ^ k)) ((upS id df dn l p pg u lg lf k).2.2)).map vu8), .blk b6 .nw 35 [(1, [(pO bm 0)])], .blk b7 .nw 26 [(1, [(vu64 (UInt64.ofNat p))])], .blk ob .nw 82 [(1, [(.bool id)]), (32, ms.map vu8), (1, [(.slice da dn dc)]), (1, [(vn ((upS id df dn l p pg u lg lf k).1))]), (1, [(.map (some mp))]), (1, [(.slice la2 ((upS id df dn l p pg u lg lf k).2.1.length) lc2)])], .row la2 ((upS id df dn l p pg u lg lf k).2.1.length) lc2 114 67 lx2, .obj mp .nw (.map (mArr ((upS id df dn l p pg u lg lf k).2.1)) ((upS id df dn l p pg u lg lf k).2.1.length)), .pin (sblks lx2) (fun w => Lgs w lx2 ((upS id df dn l p pg u lg lf k).2.1)), .view da (df.map vu8), .blk b_1 .nw 23 [(32, lf.map vu8)], .blk b_4 .nw 23 [(32, (zB 32).map vu8)], .blk b_7 .nw 23 [(32, ((upS id df dn l p pg u lg lf k).2.2).map vu8)]]) (.q 0 (.q 1 (.q 2 (.q 3 (.q 4 (.s3 5 6 7 (.s2 6 7 (.s 7 (.s 8 (.s 9 .nil))) (.s 6 (.s 8 (.s 9 .nil)))) (.s2 5 7 (.s 7 (.s 8 (.s 9 .nil))) (.s 5 (.s 8 (.s 9 .nil)))) (.s2 5 6 (.s 6 (.s 8 (.s 9 .nil))) (.s 5 (.s 8 (.s 9 .nil)))))))))) (by kernel_rfl) (by kernel_rfl) rfl (by kernel_rfl) (fun w_35 hc_37 => (SL.cons ((h_34.same hc_37).ok _ M0) (SL.cons ((h_34.same hc_37).ok _ M1) (SL.cons ((h_34.same hc_37).ok _ M2) (SL.cons ((h_34.same hc_37).ok _ M3) (SL.cons ((h_34.same hc_37).ok _ M4) (SL.cons ((h_34.same hc_37).ok _ M5) (SL.cons ((h_34.same hc_37).ok _ M6) (SL.cons ((h_34.same hc_37).ok _ M7) (SL.cons ((h_34.same hc_37).ok _ M8) (SL.cons ((h_34.same hc_37).ok _ M9) (SL.cons ((h_34.same hc_37).ok _ M10) (SL.cons ((h_34.same hc_37).ok _ M11) (SL.nil _ _)))))))))))))) (fun w_35 hc_37 => ?_)
   have h_36 := h_34.same hc_37
   refine ZT.q rfl (Wn.no rfl) rfl rfl (fun wq hS => R.loadA [] [(32, ((upS id df dn l p pg u lg lf k).2.2).map vu8)] [] (cs := ((upS id df dn l p pg u lg lf k).2.2).map vu8) rfl isAgg23 sizeOf23 (hS _ M11) rfl rfl rfl rfl) ?_
   refine ZT.q rfl (Wn.no rfl) rfl rfl (fun wq hS => R.move (v := (pO bm 0)) rfl) ?_
   refine ZT.q rfl (Wn.no rfl) rfl rfl (fun wq hS => R.move (v := (vu64 (UInt64.ofNat p))) rfl) ?_
   refine ZT.q rfl (Wn.no rfl) rfl rfl (fun wq hS => R.move (v := (vn (((128 + pg) / 2 ^ k)))) rfl) ?_
   refine ZT.q rfl (Wn.no rfl) rfl rfl (fun wq hS => R.bin (v := (vn (((128 + pg) / 2 ^ k) ^^^ 1))) rfl rfl (bi_xorN (m := ((128 + pg) / 2 ^ k)) (n := 1) (by omega) (by omega))) ?_
   refine ZT.s3 ?_ ?_ ?_
   ·refine OpZ.one rfl (Wn.no rfl) ?_
    refine WL.call Try.call44 rfl rfl (c_atW bm ma mn p hw hm l hl pg k h (by omega) _ hDl _ (h_36.argR M0) (ownView (h_36.ok _ M1))) rfl ?_
    rintro _ w_39 ⟨rfl, hc_38⟩
    have h_40 := h_36.same hc_38
    refine WL.nil ?_
    refine ⟨(SL.cons (h_40.ok _ M0) (SL.cons (h_40.ok _ M1) (SL.cons (h_40.ok _ M2) (SL.cons (h_40.ok _ M3) (SL.cons (h_40.ok _ M4) (SL.cons (h_40.ok _ M5) (SL.cons (h_40.ok _ M6) (SL.cons (h_40.ok _ M7) (SL.cons (h_40.ok _ M8) (SL.cons (h_40.ok _ M9) (SL.cons (h_40.ok _ M10) (SL.cons (h_40.ok _ M11) (SL.nil _ _))))))))))))), ?_⟩
    refine ZT.s2 ?_ ?_
    ·refine OpZ.one rfl (Wn.no rfl) ?_
     refine WL.alloc (segs := [(32, (zB 32).map vu8)]) h_40 (zv typeInfo23 rfl) rfl (sC (s8 lr) sN) rfl (fun b_41 w_42 h_43 => ?_)
     refine WL.nil ?_
     refine ⟨(N1_2_3_4_5_6_7_8_9_10_11_12 h_43.ok), ?_⟩
     refine ZT.s ?_
     refine OpZ.one rfl (Wn.no rfl) ?_
     refine WL.alloc (segs := [(32, (zB 32).map vu8)]) h_43 (zv typeInfo23 rfl) rfl (sC (s8 lr) sN) rfl (fun b_44 w_45 h_46 => ?_)
     refine WL.nil ?_
     refine ⟨(N2_3_4_5_6_7_8_9_10_11_12_13 h_46.ok), ?_⟩
     refine ZT.s ?_
     refine OpZ.one rfl (Wn.no rfl) ?_
     refine WL.storeA [] [(32, (zB 32).map vu8)] [(32, ((upS id df dn l p pg u lg lf k).2.2).map vu8)] [] h_46 rfl rfl sizeOf23 Y1 (by decide) rfl rfl rfl rfl rfl rfl (sC (s8 (upS_len hdf h32 hlf k)) sN) (fun w_47 h_48 => ?_)
     refine WL.nil ?_
     refine ⟨(N2_3_4_5_6_7_8_9_10_11_12_13 h_48.ok), ?_⟩
     refine ZT.s ?_
     refine OpZ.last rfl (Wn.no rfl) ?_
     refine WL.storeA [] [(32, (zB 32).map vu8)] [(32, (sbL l p ((128 + pg) / 2 ^ k)).map vu8)] [] h_48 rfl rfl sizeOf23 At.h (by decide) rfl rfl rfl rfl rfl rfl (sC (s8 (show (sbL l p ((128 + pg) / 2 ^ k)).length = 32 from subLen (K := 128 * mn) hl (by omega))) sN) (fun w_49 h_50 => ?_)
     refine WL.nil (ZT.nil (thn_n ?_))
     exact ⟨(b_41, b_44), (U4 rfl rfl rfl rfl (U4 rfl rfl rfl rfl (Ag.refl _ _))), ⟨rfl, rfl, rfl, rfl, rfl, rfl, rfl, rfl, trivial⟩, h_50⟩
    ·refine OpZ.one rfl (Wn.no rfl) ?_
     refine WL.alloc (segs := [(32, (zB 32).map vu8)]) h_40 (zv typeInfo23 rfl) rfl (sC (s8 lr) sN) rfl (fun b_51 w_52 h_53 => ?_)
     refine WL.nil ?_
     refine ⟨(N1_2_3_4_5_6_7_8_9_10_11_12 h_53.ok), ?_⟩
     refine ZT.s ?_
     refine OpZ.one rfl (Wn.no rfl) ?_
     refine WL.alloc (segs := [(32, (zB 32).map vu8)]) h_53 (zv typeInfo23 rfl) rfl (sC (s8 lr) sN) rfl (fun b_54 w_55 h_56 => ?_)
     refine WL.nil ?_
     refine ⟨(N2_3_4_5_6_7_8_9_10_11_12_13 h_56.ok), ?_⟩
     refine ZT.s ?_
     refine OpZ.one rfl (Wn.no rfl) ?_
     refine WL.storeA [] [(32, (zB 32).map vu8)] [(32, ((upS id df dn l p pg u lg lf k).2.2).map vu8)] [] h_56 rfl rfl sizeOf23 At.h (by decide) rfl rfl rfl rfl rfl rfl (sC (s8 (upS_len hdf h32 hlf k)) sN) (fun w_57 h_58 => ?_)
     refine WL.nil ?_
     refine ⟨(N2_3_4_5_6_7_8_9_10_11_12_13 h_58.ok), ?_⟩
     refine ZT.s ?_
     refine OpZ.last rfl (Wn.no rfl) ?_
     refine WL.storeA [] [(32, (zB 32).map vu8)] [(32, (sbL l p ((128 + pg) / 2 ^ k)).map vu8)] [] h_58 rfl rfl sizeOf23 Y1 (by decide) rfl rfl rfl rfl rfl rfl (sC (s8 (show (sbL l p ((128 + pg) / 2 ^ k)).length = 32 from subLen (K := 128 * mn) hl (by omega))) sN) (fun w_59 h_60 => ?_)
     refine WL.nil (ZT.nil (thn_n ?_))
     have h_74 := (((((((((((((h_60.up J13).up J13).up J13).up J13).up J13).up J13).up J13).up J13).up J13).up J13).up J13).up J13).up J12).up J13
     exact ⟨(b_54, b_51), (U4 rfl rfl rfl rfl (U4 rfl rfl rfl rfl (Ag.refl _ _))), ⟨rfl, rfl, rfl, rfl, rfl, rfl, rfl, rfl, trivial⟩, h_74⟩
   ·refine OpZ.one rfl (Wn.no rfl) ?_
    refine WL.alloc (segs := [(32, (zB 32).map vu8)]) h_36 (zv typeInfo23 rfl) rfl (sC (s8 lr) sN) rfl (fun b_75 w_76 h_77 => ?_)
    refine WL.nil ?_
    refine ⟨(N1_2_3_4_5_6_7_8_9_10_11_12 h_77.ok), ?_⟩
    refine ZT.s2 ?_ ?_
    ·refine OpZ.one rfl (Wn.no rfl) ?_
     refine WL.call Try.call44 rfl rfl (c_atW bm ma mn p hw hm l hl pg k h (by omega) _ hDl _ (h_77.argR M1) (ownView (h_77.ok _ M2))) rfl ?_
     rintro _ w_79 ⟨rfl, hc_78⟩
     have h_80 := h_77.same hc_78
     refine WL.nil ?_
     refine ⟨(N1_2_3_4_5_6_7_8_9_10_11_12 h_80.ok), ?_⟩
     refine ZT.s ?_
     refine OpZ.one rfl (Wn.no rfl) ?_
     refine WL.alloc (segs := [(32, (zB 32).map vu8)]) h_80 (zv typeInfo23 rfl) rfl (sC (s8 lr) sN) rfl (fun b_81 w_82 h_83 => ?_)
     refine WL.nil ?_
     refine ⟨(N2_3_4_5_6_7_8_9_10_11_12_13 h_83.ok), ?_⟩
     refine ZT.s ?_
     refine OpZ.one rfl (Wn.no rfl) ?_
     refine WL.storeA [] [(32, (zB 32).map vu8)] [(32, ((upS id df dn l p pg u lg lf k).2.2).map vu8)] [] h_83 rfl rfl sizeOf23 Y1 (by decide) rfl rfl rfl rfl rfl rfl (sC (s8 (upS_len hdf h32 hlf k)) sN) (fun w_84 h_85 => ?_)
     refine WL.nil ?_
     refine ⟨(N2_3_4_5_6_7_8_9_10_11_12_13 h_85.ok), ?_⟩
     refine ZT.s ?_
     refine OpZ.last rfl (Wn.no rfl) ?_
     refine WL.storeA [] [(32, (zB 32).map vu8)] [(32, (sbL l p ((128 + pg) / 2 ^ k)).map vu8)] [] h_85 rfl rfl sizeOf23 At.h (by decide) rfl rfl rfl rfl rfl rfl (sC (s8 (show (sbL l p ((128 + pg) / 2 ^ k)).length = 32 from subLen (K := 128 * mn) hl (by omega))) sN) (fun w_86 h_87 => ?_)
     refine WL.nil (ZT.nil (thn_n ?_))
     exact ⟨(b_75, b_81), (U4 rfl rfl rfl rfl (U4 rfl rfl rfl rfl (Ag.refl _ _))), ⟨rfl, rfl, rfl, rfl, rfl, rfl, rfl, rfl, trivial⟩, h_87⟩
    ·refine OpZ.one rfl (Wn.no rfl) ?_
     refine WL.alloc (segs := [(32, (zB 32).map vu8)]) h_77 (zv typeInfo23 rfl) rfl (sC (s8 lr) sN) rfl (fun b_88 w_89 h_90 => ?_)
     refine WL.nil ?_
     refine ⟨(N2_3_4_5_6_7_8_9_10_11_12_13 h_90.ok), ?_⟩
     refine ZT.s ?_
     refine OpZ.one rfl (Wn.no rfl) ?_
     refine WL.call Try.call44 rfl rfl (c_atW bm ma mn p hw hm l hl pg k h (by omega) _ hDl _ (h_90.argR M2) (ownView (h_90.ok _ M3))) rfl ?_
     rintro _ w_92 ⟨rfl, hc_91⟩
     have h_93 := h_90.same hc_91
     refine WL.nil ?_
     refine ⟨(N2_3_4_5_6_7_8_9_10_11_12_13 h_93.ok), ?_⟩
     refine ZT.s ?_
     refine OpZ.one rfl (Wn.no rfl) ?_
     refine WL.storeA [] [(32, (zB 32).map vu8)] [(32, ((upS id df dn l p pg u lg lf k).2.2).map vu8)] [] h_93 rfl rfl sizeOf23 Y1 (by decide) rfl rfl rfl rfl rfl rfl (sC (s8 (upS_len hdf h32 hlf k)) sN) (fun w_94 h_95 => ?_)
     refine WL.nil ?_
     refine ⟨(N2_3_4_5_6_7_8_9_10_11_12_13 h_95.ok), ?_⟩
     refine ZT.s ?_
     refine OpZ.last rfl (Wn.no rfl) ?_
     refine WL.storeA [] [(32, (zB 32).map vu8)] [(32, (sbL l p ((128 + pg) / 2 ^ k)).map vu8)] [] h_95 rfl rfl sizeOf23 At.h (by decide) rfl rfl rfl rfl rfl rfl (sC (s8 (show (sbL l p ((128 + pg) / 2 ^ k)).length = 32 from subLen (K := 128 * mn) hl (by omega))) sN) (fun w_96 h_97 => ?_)
     refine WL.nil (ZT.nil (thn_n ?_))
     exact ⟨(b_75, b_88), (U4 rfl rfl rfl rfl (U4 rfl rfl rfl rfl (Ag.refl _ _))), ⟨rfl, rfl, rfl, rfl, rfl, rfl, rfl, rfl, trivial⟩, h_97⟩
   ·refine OpZ.one rfl (Wn.no rfl) ?_
    refine WL.alloc (segs := [(32, (zB 32).map vu8)]) h_36 (zv typeInfo23 rfl) rfl (sC (s8 lr) sN) rfl (fun b_98 w_99 h_100 => ?_)
    refine WL.nil ?_
    refine ⟨(N1_2_3_4_5_6_7_8_9_10_11_12 h_100.ok), ?_⟩
    refine ZT.s2 ?_ ?_
    ·refine OpZ.one rfl (Wn.no rfl) ?_
     refine WL.call Try.call44 rfl rfl (c_atW bm ma mn p hw hm l hl pg k h (by omega) _ hDl _ (h_100.argR M1) (ownView (h_100.ok _ M2))) rfl ?_
     rintro _ w_102 ⟨rfl, hc_101⟩
     have h_103 := h_100.same hc_101
     refine WL.nil ?_
     refine ⟨(N1_2_3_4_5_6_7_8_9_10_11_12 h_103.ok), ?_⟩
     refine ZT.s ?_
     refine OpZ.one rfl (Wn.no rfl) ?_
     refine WL.alloc (segs := [(32, (zB 32).map vu8)]) h_103 (zv typeInfo23 rfl) rfl (sC (s8 lr) sN) rfl (fun b_104 w_105 h_106 => ?_)
     refine WL.nil ?_
     refine ⟨(N2_3_4_5_6_7_8_9_10_11_12_13 h_106.ok), ?_⟩
     refine ZT.s ?_
     refine OpZ.one rfl (Wn.no rfl) ?_
     refine WL.storeA [] [(32, (zB 32).map vu8)] [(32, ((upS id df dn l p pg u lg lf k).2.2).map vu8)] [] h_106 rfl rfl sizeOf23 At.h (by decide) rfl rfl rfl rfl rfl rfl (sC (s8 (upS_len hdf h32 hlf k)) sN) (fun w_107 h_108 => ?_)
     refine WL.nil ?_
     refine ⟨(N2_3_4_5_6_7_8_9_10_11_12_13 h_108.ok), ?_⟩
     refine ZT.s ?_
     refine OpZ.last rfl (Wn.no rfl) ?_
     refine WL.storeA [] [(32, (zB 32).map vu8)] [(32, (sbL l p ((128 + pg) / 2 ^ k)).map vu8)] [] h_108 rfl rfl sizeOf23 Y1 (by decide) rfl rfl rfl rfl rfl rfl (sC (s8 (show (sbL l p ((128 + pg) / 2 ^ k)).length = 32 from subLen (K := 128 * mn) hl (by omega))) sN) (fun w_109 h_110 => ?_)
     refine WL.nil (ZT.nil (thn_n ?_))
     have h_124 := (((((((((((((h_110.up J13).up J13).up J13).up J13).up J13).up J13).up J13).up J13).up J13).up J13).up J13).up J13).up J12).up J13
     exact ⟨(b_104, b_98), (U4 rfl rfl rfl rfl (U4 rfl rfl rfl rfl (Ag.refl _ _))), ⟨rfl, rfl, rfl, rfl, rfl, rfl, rfl, rfl, trivial⟩, h_124⟩
    ·refine OpZ.one rfl (Wn.no rfl) ?_
     refine WL.alloc (segs := [(32, (zB 32).map vu8)]) h_100 (zv typeInfo23 rfl) rfl (sC (s8 lr) sN) rfl (fun b_125 w_126 h_127 => ?_)
     refine WL.nil ?_
     refine ⟨(N2_3_4_5_6_7_8_9_10_11_12_13 h_127.ok), ?_⟩
     refine ZT.s ?_
     refine OpZ.one rfl (Wn.no rfl) ?_
     refine WL.call Try.call44 rfl rfl (c_atW bm ma mn p hw hm l hl pg k h (by omega) _ hDl _ (h_127.argR M2) (ownView (h_127.ok _ M3))) rfl ?_
     rintro _ w_129 ⟨rfl, hc_128⟩
     have h_130 := h_127.same hc_128
     refine WL.nil ?_
     refine ⟨(N2_3_4_5_6_7_8_9_10_11_12_13 h_130.ok), ?_⟩
     refine ZT.s ?_
     refine OpZ.one rfl (Wn.no rfl) ?_
     refine WL.storeA [] [(32, (zB 32).map vu8)] [(32, ((upS id df dn l p pg u lg lf k).2.2).map vu8)] [] h_130 rfl rfl sizeOf23 At.h (by decide) rfl rfl rfl rfl rfl rfl (sC (s8 (upS_len hdf h32 hlf k)) sN) (fun w_131 h_132 => ?_)
     refine WL.nil ?_
     refine ⟨(N2_3_4_5_6_7_8_9_10_11_12_13 h_132.ok), ?_⟩
     refine ZT.s ?_
     refine OpZ.last rfl (Wn.no rfl) ?_
     refine WL.storeA [] [(32, (zB 32).map vu8)] [(32, (sbL l p ((128 + pg) / 2 ^ k)).map vu8)] [] h_132 rfl rfl sizeOf23 Y1 (by decide) rfl rfl rfl rfl rfl rfl (sC (s8 (show (sbL l p ((128 + pg) / 2 ^ k)).length = 32 from subLen (K := 128 * mn) hl (by omega))) sN) (fun w_133 h_134 => ?_)
     refine WL.nil (ZT.nil (thn_n ?_))
     have h_148 := (((((((((((((h_134.up J13).up J13).up J13).up J13).up J13).up J13).up J13).up J13).up J13).up J13).up J13).up J13).up J12).up J13
     exact ⟨(b_125, b_98), (U4 rfl rfl rfl rfl (U4 rfl rfl rfl rfl (Ag.refl _ _))), ⟨rfl, rfl, rfl, rfl, rfl, rfl, rfl, rfl, trivial⟩, h_148⟩
  ·rintro ⟨b_152, b_153⟩ J_149 w_150 h_151
   refine thn_n (WP.seq (WP.seq (WP.reg ?_)))
   refine qM (vn (((128 + pg) / 2 ^ k))) rfl rfl (qV rfl (R.bin rfl rfl (bi_rem (c := ((((128 + pg) / 2 ^ k) % 2 : Nat) : Int)) (Int.natCast_nonneg _) (by omega) (by first | omega | rfl))) (qV rfl (R.bin rfl rfl (bi_eql (r := decide ((((((128 + pg) / 2 ^ k) % 2 : Nat) : Int) : Int) = 1)) rfl)) ?_))
   refine WL.nil (thn_n ?_)
   refine WP.cond (b := decide ((((((128 + pg) / 2 ^ k) % 2 : Nat) : Int) : Int) = 1)) rfl (fun c_154 => ?_) (fun c_154 => ?_)
   ·have p_155 := of_decide_eq_true c_154
    refine WP.reg ?_
    refine qV rfl (R.loadA [] [(32, (sbL l p ((128 + pg) / 2 ^ k)).map vu8)] [] (cs := (sbL l p ((128 + pg) / 2 ^ k)).map vu8) rfl isAgg23 sizeOf23 (h_151.ok _ M0) rfl rfl rfl rfl) (qV rfl (R.loadA [] [(32, ((upS id df dn l p pg u lg lf k).2.2).map vu8)] [] (cs := ((upS id df dn l p pg u lg lf k).2.2).map vu8) rfl isAgg23 sizeOf23 (h_151.ok _ M1) rfl rfl rfl rfl) ?_)
    refine WL.storeA [] [(32, ((upS id df dn l p pg u lg lf k).2.2).map vu8)] [(32, (sbL l p ((128 + pg) / 2 ^ k)).map vu8)] [] h_151 rfl rfl sizeOf23 Y1 (by decide) rfl rfl rfl rfl rfl rfl (sC (s8 (show (sbL l p ((128 + pg) / 2 ^ k)).length = 32 from subLen (K := 128 * mn) hl (by omega))) sN) (fun w_156 h_157 => ?_)
    refine WL.storeA [] [(32, (sbL l p ((128 + pg) / 2 ^ k)).map vu8)] [(32, ((upS id df dn l p pg u lg lf k).2.2).map vu8)] [] h_157 rfl rfl sizeOf23 At.h (by decide) rfl rfl rfl rfl rfl rfl (sC (s8 (upS_len hdf h32 hlf k)) sN) (fun w_158 h_159 => ?_)
    refine WL.nil (thn_n (WP.reg ?_))
    refine qM (pO ob 0) rfl rfl (qM (vn (((128 + pg) / 2 ^ k))) rfl rfl (qV rfl (R.bin rfl rfl (bi_quo (c := ((((128 + pg) / 2 ^ k) / 2 : Nat) : Int)) (by first | omega | exact ⟨Int.natCast_nonneg _, by omega⟩) (by omega) (by first | omega | rfl))) (qV rfl (R.loadA [] [(32, (sbL l p ((128 + pg) / 2 ^ k)).map vu8)] [] (cs := (sbL l p ((128 + pg) / 2 ^ k)).map vu8) rfl isAgg23 sizeOf23 (h_159.ok _ M1) rfl rfl rfl rfl) (qV rfl (R.loadA [] [(32, ((upS id df dn l p pg u lg lf k).2.2).map vu8)] [] (cs := ((upS id df dn l p pg u lg lf k).2.2).map vu8) rfl isAgg23 sizeOf23 (h_159.ok _ M0) rfl rfl rfl rfl) ?_))))
    have h_164 := ((((h_159.up J10).up J10).up J10).up J10).up J10
    refine WL.call Try.call25 rfl rfl (c_TNode_t id ob mp ms df hms da dn dc ((upS id df dn l p pg u lg lf k).1) hdf la2 lc2 lx2 ((upS id df dn l p pg u lg lf k).2.1) (by omega) (by omega) (((128 + pg) / 2 ^ k) / 2) (by omega) (sbL l p ((128 + pg) / 2 ^ k)) ((upS id df dn l p pg u lg lf k).2.2) (show (sbL l p ((128 + pg) / 2 ^ k)).length = 32 from subLen (K := 128 * mn) hl (by omega)) (upS_len hdf h32 hlf k) _ h_164) rfl ?_
    rintro _ w_168 ⟨la_165, lc_166, lx_167, rfl, h_169⟩
    refine qM (.tuple [(.agg ⟨(anD id df dn ((upS id df dn l p pg u lg lf k).1) ((upS id df dn l p pg u lg lf k).2.1) (1, (zB 32), 5, [leN 8 (UInt64.ofNat (((128 + pg) / 2 ^ k) / 2)).toNat, sbL l p ((128 + pg) / 2 ^ k), (upS id df dn l p pg u lg lf k).2.2].flatten)).map vu8⟩), (vi 0)].toArray) rfl rfl (qV rfl (R.extract rfl rfl) (qV rfl (R.extract rfl rfl) ?_))
    refine WL.storeA [] [(32, ((upS id df dn l p pg u lg lf k).2.2).map vu8)] [(32, (anD id df dn ((upS id df dn l p pg u lg lf k).1) ((upS id df dn l p pg u lg lf k).2.1) (1, (zB 32), 5, [leN 8 (UInt64.ofNat (((128 + pg) / 2 ^ k) / 2)).toNat, sbL l p ((128 + pg) / 2 ^ k), (upS id df dn l p pg u lg lf k).2.2].flatten)).map vu8)] [] h_169 rfl rfl sizeOf23 Y13 (by decide) rfl rfl rfl rfl rfl rfl (sC (s8 (anD_len hdf hs32)) sN) (fun w_170 h_171 => ?_)
    refine WL.nil (inb_n (thn_n (WP.reg ?_)))
    refine qM (vn (((128 + pg) / 2 ^ k))) rfl rfl (qV rfl (R.bin rfl rfl (bi_quo (c := ((((128 + pg) / 2 ^ k) / 2 : Nat) : Int)) (by first | omega | exact ⟨Int.natCast_nonneg _, by omega⟩) (by omega) (by first | omega | rfl))) (qA (vn (((128 + pg) / 2 ^ k) / 2)) rfl rfl ?_))
    refine WL.nil (thn_n ?_)
    have h_187 := (((((((((((((((h_171.up J5).drop rfl).up J5).drop rfl).up J11).up J11).up J11).up J11).up J11).up J11).up J11).up J11).up J11).up J11).up J11).up J11
    exact ⟨(k + 1, la_165, lc_166, lx_167), _, (by omega), (Ag.upd rfl (U4 rfl rfl rfl rfl (U4 rfl rfl rfl rfl (U4 rfl rfl rfl rfl (U4 rfl rfl rfl rfl (Ag.updL rfl (Ag.trans (Ag.sub rfl (Ag.mix _ _ _)) (Ag.upd rfl (Ag.upd rfl (Ag.upd rfl (Ag.upd rfl (Ag.upd rfl (Ag.upd rfl (Ag.updL rfl (Ag.mix _ _ _))))))))))))))), ⟨congrArg vi (by rw [half_s]), trivial⟩, (by rw [upS_o (by omega)]; exact h_187), (by omega), rfl⟩
   ·have p_188 := of_decide_eq_false c_154
    refine WP.skip (thn_n (WP.reg ?_))
    refine qM (pO ob 0) rfl rfl (qM (vn (((128 + pg) / 2 ^ k))) rfl rfl (qV rfl (R.bin rfl rfl (bi_quo (c := ((((128 + pg) / 2 ^ k) / 2 : Nat) : Int)) (by first | omega | exact ⟨Int.natCast_nonneg _, by omega⟩) (by omega) (by first | omega | rfl))) (qV rfl (R.loadA [] [(32, ((upS id df dn l p pg u lg lf k).2.2).map vu8)] [] (cs := ((upS id df dn l p pg u lg lf k).2.2).map vu8) rfl isAgg23 sizeOf23 (h_151.ok _ M1) rfl rfl rfl rfl) (qV rfl (R.loadA [] [(32, (sbL l p ((128 + pg) / 2 ^ k)).map vu8)] [] (cs := (sbL l p ((128 + pg) / 2 ^ k)).map vu8) rfl isAgg23 sizeOf23 (h_151.ok _ M0) rfl rfl rfl rfl) ?_))))
    have h_193 := ((((h_151.up J10).up J10).up J10).up J10).up J10
    refine WL.call Try.call25 rfl rfl (c_TNode_t id ob mp ms df hms da dn dc ((upS id df dn l p pg u lg lf k).1) hdf la2 lc2 lx2 ((upS id df dn l p pg u lg lf k).2.1) (by omega) (by omega) (((128 + pg) / 2 ^ k) / 2) (by omega) ((upS id df dn l p pg u lg lf k).2.2) (sbL l p ((128 + pg) / 2 ^ k)) (upS_len hdf h32 hlf k) (show (sbL l p ((128 + pg) / 2 ^ k)).length = 32 from subLen (K := 128 * mn) hl (by omega)) _ h_193) rfl ?_
    rintro _ w_197 ⟨la_194, lc_195, lx_196, rfl, h_198⟩
    refine qM (.tuple [(.agg ⟨(anD id df dn ((upS id df dn l p pg u lg lf k).1) ((upS id df dn l p pg u lg lf k).2.1) (1, (zB 32), 5, [leN 8 (UInt64.ofNat (((128 + pg) / 2 ^ k) / 2)).toNat, (upS id df dn l p pg u lg lf k).2.2, sbL l p ((128 + pg) / 2 ^ k)].flatten)).map vu8⟩), (vi 0)].toArray) rfl rfl (qV rfl (R.extract rfl rfl) (qV rfl (R.extract rfl rfl) ?_))
    refine WL.storeA [] [(32, ((upS id df dn l p pg u lg lf k).2.2).map vu8)] [(32, (anD id df dn ((upS id df dn l p pg u lg lf k).1) ((upS id df dn l p pg u lg lf k).2.1) (1, (zB 32), 5, [leN 8 (UInt64.ofNat (((128 + pg) / 2 ^ k) / 2)).toNat, (upS id df dn l p pg u lg lf k).2.2, sbL l p ((128 + pg) / 2 ^ k)].flatten)).map vu8)] [] h_198 rfl rfl sizeOf23 Y13 (by decide) rfl rfl rfl rfl rfl rfl (sC (s8 (anD_len hdf hs32)) sN) (fun w_199 h_200 => ?_)
    refine WL.nil (inb_n (thn_n (WP.reg ?_)))
    refine qM (vn (((128 + pg) / 2 ^ k))) rfl rfl (qV rfl (R.bin rfl rfl (bi_quo (c := ((((128 + pg) / 2 ^ k) / 2 : Nat) : Int)) (by first | omega | exact ⟨Int.natCast_nonneg _, by omega⟩) (by omega) (by first | omega | rfl))) (qA (vn (((128 + pg) / 2 ^ k) / 2)) rfl rfl ?_))
    refine WL.nil (thn_n ?_)
    have h_216 := (((((((((((((((h_200.up J5).drop rfl).up J5).drop rfl).up J11).up J11).up J11).up J11).up J11).up J11).up J11).up J11).up J11).up J11).up J11).up J11
    exact ⟨(k + 1, la_194, lc_195, lx_196), _, (by omega), (Ag.upd rfl (U2 rfl rfl (U4 rfl rfl rfl rfl (U4 rfl rfl rfl rfl (U4 rfl rfl rfl rfl (Ag.updL rfl (Ag.trans (Ag.sub rfl (Ag.mix _ _ _)) (Ag.upd rfl (Ag.upd rfl (Ag.upd rfl (Ag.upd rfl (Ag.upd rfl (Ag.upd rfl (Ag.updL rfl (Ag.mix _ _ _))))))))))))))), ⟨congrArg vi (by rw [half_s]), trivial⟩, (by rw [upS_e (by omega)]; exact h_216), (by omega), rfl⟩
 ·have p_217 := of_decide_eq_false c_27
  refine WP.exit (thn_x (thn_x (inb_hit (thn_n (WP.seq (WP.reg ?_))))))
  refine qV rfl (R.loadA [] [(32, ((upS id df dn l p pg u lg lf k).2.2).map vu8)] [] (cs := ((upS id df dn l p pg u lg lf k).2.2).map vu8) rfl isAgg23 sizeOf23 (h_24.ok _ M11) rfl rfl rfl rfl) ?_
  refine WL.storeA [] [(32, (zB 32).map vu8)] [(32, ((upS id df dn l p pg u lg lf k).2.2).map vu8)] [] h_24 rfl rfl sizeOf23 Y10 (by decide) rfl rfl rfl rfl rfl rfl (sC (s8 (upS_len hdf h32 hlf k)) sN) (fun w_218 h_219 => ?_)
  refine WL.nil (thn_n (WP.ret ?_))
  refine ret_of results33 (RV.cell rfl (h_219.loadA (cs := ((upS id df dn l p pg u lg lf k).2.2).map vu8) isAgg23 sizeOf23 M10 rfl rfl) RV.nil) ?_
  have h_234 := ((((((((((((((h_219.up J9).drop rfl).up J9).drop rfl).up J9).drop rfl).up J8).up J8).up J8).up J8).up J8).up J8).up J8).up J8).up J8
  have hk7 : k = 7 := by
   rcases Nat.lt_or_eq_of_le hk with h8 | h8
   ·have h9 := half_two (pg := pg) (k := k) (by omega)
    omega
   ·exact h8
  subst hk7
  exact ⟨_, _, _, rfl, h_234⟩
end Go.Proofs.Ytbhllplbbkmndaa

namespace Go.Proofs.Ytbhllplbbkmndaa
open Go.Proofs.Try
open Go.Vc Go.Orc Go.Sh Go.RowKit
set_option maxRecDepth 20000

theorem c_known15  (w : World) :
  Cs Try.prog 4 [].toArray w (fun v w1 => v = (.bool true) ∧ Chg w w1 []) := by
 refine Cs.of (n := 81) (args := []) Try.func4 rfl rfl rfl ?_
 have h_0 := HP.init w
 refine WP.seq (WP.reg ?_)
 refine qA (.bool false) rfl rfl ?_
 refine WL.nil (thn_n (WP.seq (WP.reg ?_)))
 refine WL.call Try.call15 rfl rfl (c_Way_t 0 (by omega) _) rfl ?_
 rintro _ w_3 ⟨a_1, cap_2, rfl, hc_4, ho_5⟩
 have h_6 := h_0.gotRow hc_4 ho_5
 refine qM (.tuple [(.slice a_1 8 cap_2), (vi 0)].toArray) rfl rfl (qV rfl (R.extract rfl rfl) (qV rfl (R.extract rfl rfl) (qA (.slice a_1 8 cap_2) rfl rfl (qA (vi 0) rfl rfl ?_))))
 refine WL.nil (thn_n (WP.seq (WP.reg ?_)))
 refine WL.call Try.call16 rfl rfl (c_Bes_t 5 (by omega) _) rfl ?_
 rintro _ w_9 ⟨a_7, cap_8, rfl, hc_10, ho_11⟩
 have h_12 := h_6.gotRow hc_10 ho_11
 refine qM (.tuple [(.slice a_7 7 cap_8), (vi 0)].toArray) rfl rfl (qV rfl (R.extract rfl rfl) (qV rfl (R.extract rfl rfl) (qA (.slice a_7 7 cap_8) rfl rfl (qA (vi 0) rfl rfl ?_))))
 refine WL.nil (thn_n (WP.seq (WP.reg ?_)))
 refine qV rfl (R.buildA (vs := []) (cs := (zB 32).map vu8) underlying23 sizeOf5 (zv typeInfo23 rfl) rfl rfl) ?_
 have h_13 := HP_viewNil h_12
 refine WL.call Try.call17 rfl rfl (c_ONew true (zB 32) ([] : List UInt8) lr none 0 0 (rfl : List.length ([] : List UInt8) = 32 * 0) (by decide) _ h_13) rfl ?_
 rintro _ w_18 ⟨b_14, b_15, a_16, c_17, rfl, h_19⟩
 refine qA (pO b_14 0) rfl rfl ?_
 refine WL.nil (thn_n (WP.seq (WP.reg ?_)))
 refine WL.call Try.call18 rfl rfl (c_MNew_70 _ h_19) rfl ?_
 rintro _ w_22 ⟨b_20, a_21, rfl, h_23⟩
 refine qM (.tuple [(pO b_20 0), (vi 0)].toArray) rfl rfl (qV rfl (R.extract rfl rfl) (qV rfl (R.extract rfl rfl) (qA (pO b_20 0) rfl rfl (qA (vi 0) rfl rfl ?_))))
 refine WL.nil (thn_n (WP.seq (WP.reg ?_)))
 refine qM (pO b_14 0) rfl rfl (qM (pO b_20 0) rfl rfl ?_)
 refine WL.call Try.call9 rfl rfl (c_Lay_70_64 true b_14 b_15 (zB 32) lr a_16 0 c_17 0 none 0 0 b_20 a_21  _ (h_23.argR M2) (h_23.argR M0)) rfl ?_
 rintro _ w_25 ⟨rfl, hc_24⟩
 have h_26 := h_23.same hc_24
 refine qM (.tuple [(.agg ⟨(zB 32).map vu8⟩), (vi 2)].toArray) rfl rfl (qV rfl (R.extract rfl rfl) (qV rfl (R.extract rfl rfl) ?_))
 refine WL.alloc (segs := [(32, (zB 32).map vu8)]) h_26 (zv typeInfo23 rfl) rfl (sC (s8 lr) sN) rfl (fun b_27 w_28 h_29 => ?_)
 refine WL.storeA [] [(32, (zB 32).map vu8)] [(32, (zB 32).map vu8)] [] h_29 rfl rfl sizeOf23 At.h (by decide) rfl rfl rfl rfl rfl rfl (sC (s8 lr) sN) (fun w_30 h_31 => ?_)
 refine qA (vi 2) rfl rfl ?_
 refine WL.nil (thn_n (WP.seq (WP.reg ?_)))
 refine qM (pO b_14 0) rfl rfl (qM (pO b_20 0) rfl rfl ?_)
 refine WL.call Try.call9 rfl rfl (c_Lay_70_8832 true b_14 b_15 (zB 32) lr a_16 0 c_17 0 none 0 0 b_20 a_21  _ (h_31.argR M3) (h_31.argR M1)) rfl ?_
 rintro _ w_33 ⟨rfl, hc_32⟩
 have h_34 := h_31.same hc_32
 refine qM (.tuple [(.agg ⟨(zB 32).map vu8⟩), (vi 2)].toArray) rfl rfl (qV rfl (R.extract rfl rfl) (qV rfl (R.extract rfl rfl) ?_))
 refine WL.alloc (segs := [(32, (zB 32).map vu8)]) h_34 (zv typeInfo23 rfl) rfl (sC (s8 lr) sN) rfl (fun b_35 w_36 h_37 => ?_)
 refine WL.storeA [] [(32, (zB 32).map vu8)] [(32, (zB 32).map vu8)] [] h_37 rfl rfl sizeOf23 At.h (by decide) rfl rfl rfl rfl rfl rfl (sC (s8 lr) sN) (fun w_38 h_39 => ?_)
 refine qA (vi 2) rfl rfl ?_
 refine WL.nil (thn_n (WP.seq (WP.reg ?_)))
 refine qM (pO b_14 0) rfl rfl (qM (pO b_20 0) rfl rfl (qV rfl (R.buildA (vs := []) (cs := (zB 32).map vu8) underlying23 sizeOf5 (zv typeInfo23 rfl) rfl rfl) ?_))
 refine WL.call Try.call19 rfl rfl (c_Up_70_0_128 true b_14 b_15 (zB 32) lr a_16 0 c_17 0 none 0 0 b_20 a_21 (zB 32) lr _ (h_39.argR M4) (h_39.argR M2)) rfl ?_
 rintro _ w_41 ⟨rfl, hc_40⟩
 have h_42 := h_39.same hc_40
 refine qM (.tuple [(.agg ⟨(zB 32).map vu8⟩), (vi 2)].toArray) rfl rfl (qV rfl (R.extract rfl rfl) (qV rfl (R.extract rfl rfl) ?_))
 refine WL.alloc (segs := [(32, (zB 32).map vu8)]) h_42 (zv typeInfo23 rfl) rfl (sC (s8 lr) sN) rfl (fun b_43 w_44 h_45 => ?_)
 refine WL.storeA [] [(32, (zB 32).map vu8)] [(32, (zB 32).map vu8)] [] h_45 rfl rfl sizeOf23 At.h (by decide) rfl rfl rfl rfl rfl rfl (sC (s8 lr) sN) (fun w_46 h_47 => ?_)
 refine qA (vi 2) rfl rfl ?_
 refine WL.nil (thn_n (WP.seq (WP.reg ?_)))
 refine qM (.slice a_1 8 cap_2) rfl rfl ?_
 refine WL.buildSl (vs := [(0, (vi 128)), (1, (vi 64)), (2, (vi 32)), (3, (vi 16)), (4, (vi 8)), (5, (vi 4)), (6, (vi 2)), (7, (vi 1))]) (cs := ([128, 64, 32, 16, 8, 4, 2, 1] : List Int).map vi64) h_47 underlying52 sizeOf3 (zv typeInfo3 rfl) rfl rfl (by kernel_rfl) rfl (one_i64 _) rfl rfl (fun b_48 w_49 h_50 => ?_)
 refine WL.call Try.call20 rfl rfl (c_same15 a_1 (some ⟨b_48, 0, none⟩) 8 8 cap_2 8 (wayL 0) ([128, 64, 32, 16, 8, 4, 2, 1] : List Int) (rfl : List.length (wayL 0) = 8) (rfl : List.length ([128, 64, 32, 16, 8, 4, 2, 1] : List Int) = 8) (by omega) (by omega) _ (ownView (h_50.ok _ M13)) (viewB (h_50.ok _ M0) Sg.h)) rfl ?_
 rintro _ w_52 ⟨rfl, hc_51⟩
 have h_53 := h_50.same hc_51
 refine qV rfl (R.move (v := (.bool true)) (congrArg Value.bool (decide_eq_true (by decide)))) ?_
 refine WL.want rfl rfl ?_
 refine qM (.slice a_7 7 cap_8) rfl rfl ?_
 refine WL.want rfl rfl ?_
 refine WL.buildSl (vs := [(0, (vi 132)), (1, (vi 67)), (2, (vi 32)), (3, (vi 17)), (4, (vi 9)), (5, (vi 5)), (6, (vi 3))]) (cs := ([132, 67, 32, 17, 9, 5, 3] : List Int).map vi64) h_53 underlying52 sizeOf3 (zv typeInfo3 rfl) rfl rfl (by kernel_rfl) rfl (one_i64 _) rfl rfl (fun b_54 w_55 h_56 => ?_)
 refine WL.want rfl rfl ?_
 refine WL.call Try.call20 rfl rfl (c_same15 a_7 (some ⟨b_54, 0, none⟩) 7 7 cap_8 7 (bsL 5) ([132, 67, 32, 17, 9, 5, 3] : List Int) (rfl : List.length (bsL 5) = 7) (rfl : List.length ([132, 67, 32, 17, 9, 5, 3] : List Int) = 7) (by omega) (by omega) _ (ownView (h_56.ok _ M13)) (viewB (h_56.ok _ M0) Sg.h)) rfl ?_
 rintro _ w_58 ⟨rfl, hc_57⟩
 have h_59 := h_56.same hc_57
 refine qV rfl (R.pickT (v := (.bool true)) rfl (congrArg Value.bool (decide_eq_true (by decide)))) (qM (.bool true) rfl rfl ?_)
 refine WL.want rfl rfl ?_
 refine qM (vi 0) rfl rfl ?_
 refine WL.want rfl rfl ?_
 refine WL.call Try.call11 rfl rfl (c_num15 0 (by omega) _ ) rfl ?_
 rintro _ w_61 ⟨rfl, hc_60⟩
 have h_62 := h_59.same hc_60
 refine WL.want rfl rfl ?_
 refine qM (vi 0) rfl rfl ?_
 refine WL.want rfl rfl ?_
 refine WL.call Try.call11 rfl rfl (c_num15 0 (by omega) _ ) rfl ?_
 rintro _ w_64 ⟨rfl, hc_63⟩
 have h_65 := h_62.same hc_63
 refine WL.want rfl rfl ?_
 refine qV rfl (R.bin rfl rfl (bi_add (c := 0) (by omega) (by omega))) ?_
 refine WL.want rfl rfl ?_
 refine qM (vi 0) rfl rfl ?_
 refine WL.want rfl rfl ?_
 refine WL.call Try.call11 rfl rfl (c_num15 0 (by omega) _ ) rfl ?_
 rintro _ w_67 ⟨rfl, hc_66⟩
 have h_68 := h_65.same hc_66
 refine WL.want rfl rfl ?_
 refine qV rfl (R.bin rfl rfl (bi_add (c := 0) (by omega) (by omega))) ?_
 refine WL.want rfl rfl ?_
 refine qV rfl (R.bin rfl rfl (bi_eql (r := true) (by decide))) (qV rfl (R.pickT (v := (.bool true)) rfl rfl) (qM (.bool true) rfl rfl ?_))
 refine WL.want rfl rfl ?_
 refine qM (vi 2) rfl rfl ?_
 refine WL.want rfl rfl ?_
 refine WL.call Try.call11 rfl rfl (c_num15 2 (by omega) _ ) rfl ?_
 rintro _ w_70 ⟨rfl, hc_69⟩
 have h_71 := h_68.same hc_69
 refine WL.want rfl rfl ?_
 refine qV rfl (R.bin rfl rfl (bi_eql (r := true) (by decide))) (qV rfl (R.pickT (v := (.bool true)) rfl rfl) (qM (.bool true) rfl rfl ?_))
 refine WL.want rfl rfl ?_
 refine qM (vi 2) rfl rfl ?_
 refine WL.want rfl rfl ?_
 refine WL.call Try.call11 rfl rfl (c_num15 2 (by omega) _ ) rfl ?_
 rintro _ w_73 ⟨rfl, hc_72⟩
 have h_74 := h_71.same hc_72
 refine WL.want rfl rfl ?_
 refine qV rfl (R.bin rfl rfl (bi_eql (r := true) (by decide))) (qV rfl (R.pickT (v := (.bool true)) rfl rfl) (qM (.bool true) rfl rfl ?_))
 refine WL.want rfl rfl ?_
 refine qM (vi 2) rfl rfl ?_
 refine WL.want rfl rfl ?_
 refine WL.call Try.call11 rfl rfl (c_num15 2 (by omega) _ ) rfl ?_
 rintro _ w_76 ⟨rfl, hc_75⟩
 have h_77 := h_74.same hc_75
 refine WL.want rfl rfl ?_
 refine qV rfl (R.bin rfl rfl (bi_eql (r := true) (by decide))) (qV rfl (R.pickT (v := (.bool true)) rfl rfl) (qA (.bool true) rfl rfl ?_))
 refine WL.nil (thn_n (WP.ret ?_))
 refine ret_of results4 (RV.tmp (v := (.bool true)) rfl RV.nil) ?_
 exact ⟨rfl, h_77.chgS⟩
end Go.Proofs.Ytbhllplbbkmndaa

namespace Go.Proofs.Ytbhllplbbkmndaa
open Go.Vc Go.Orc Go.Sh Go.RowKit
set_option maxRecDepth 20000
theorem pl61 : ∀ fs, Try.prog.underlying 61 = some (.struct fs) → Places Try.prog fs [(0, 1), (1, 32), (33, 1), (34, 1), (35, 1)] := by
  intro fs h w; rw [Try.underlying61] at h; cases h; simp
theorem c_small_t (id : Bool) (ms df : List UInt8) (hms : ms.length = 32) (da0 : Option Addr) (n cap0 : Nat) (hl : df.length = 32 * n) (fa : Option Addr) (fn fc : Nat) (fd : List UInt8) (hfl : fd.length = 128 * fn) (nd : UInt64) (gn : Nat) (hs : n ≤ 700 ∧ 1 ≤ gn ∧ gn ≤ 80 ∧ fn ≤ 80) (w : World) :
    Cs Try.prog 5 [(.agg ⟨flat [(1, [(.bool id)]), (32, ms.map vu8), (1, [(.slice da0 n cap0)]), (1, [(vi ((gn : Nat) : Int))]), (1, [(.slice fa fn fc)]), (1, [(vu64 nd)])]⟩)].toArray w (fun v w1 => v = (.bool true) ∧ Chg w w1 []) := by
  refine Cs.of (n := 23) (args := [(.agg ⟨flat [(1, [(.bool id)]), (32, ms.map vu8), (1, [(.slice da0 n cap0)]), (1, [(vi ((gn : Nat) : Int))]), (1, [(.slice fa fn fc)]), (1, [(vu64 nd)])]⟩)]) Try.func5 rfl rfl rfl ?_
  have h_0 := HP.init w
  refine WP.seq ?_
  refine WP.reg ?_
  refine WL.box (v := (.agg ⟨flat [(1, [(.bool id)]), (32, ms.map vu8), (1, [(.slice da0 n cap0)]), (1, [(vi ((gn : Nat) : Int))]), (1, [(.slice fa fn fc)]), (1, [(vu64 nd)])]⟩)) (segs := [(1, [(.bool id)]), (32, ms.map vu8), (1, [(.slice da0 n cap0)]), (1, [(vi ((gn : Nat) : Int))]), (1, [(.slice fa fn fc)]), (1, [(vu64 nd)])]) h_0 rfl rfl (SsOk.cons (SOk.v rfl) (SsOk.cons (SOk.u8 hms) (SsOk.cons (SOk.v rfl) (SsOk.cons (SOk.v rfl) (SsOk.cons (SOk.v rfl) (SsOk.cons (SOk.v rfl) SsOk.nil)))))) rfl (fun b_1 w_2 h_3 => ?_)
  refine WL.q (Wn.no rfl) rfl rfl (R.assign (v := (.bool false)) rfl) ?_
  refine WL.nil ?_
  refine thn_n ?_
  refine WP.seq ?_
  refine WP.reg ?_
  refine WL.q (Wn.no rfl) rfl rfl (R.fieldAddr (b := b_1) (off := 0) (off' := 33) rfl Try.underlying28 rfl Try.sizeOf24 rfl rfl) ?_
  refine WL.q (Wn.no rfl) rfl rfl (R.load1 (b := b_1) (off := 33) (v := (.slice da0 n cap0)) rfl Try.isAgg24 (h_3.ok _ (.head _)) (Sg.t rfl (Sg.t rfl Sg.h))) ?_
  refine WL.q (Wn.no rfl) rfl rfl (R.lenS (a := da0) (m := n) rfl rfl Try.underlying24) ?_
  refine WL.q (Wn.no rfl) rfl rfl (R.bin (v := (.bool (decide ((((n : Nat) : Int) : Int) ≤ 700)))) rfl rfl (bi_leq (r := decide ((((n : Nat) : Int) : Int) ≤ 700)) rfl)) ?_
  refine WL.q (Wn.no rfl) rfl rfl (R.move (v := (.bool (decide ((((n : Nat) : Int) : Int) ≤ 700)))) rfl) ?_
  refine WL.want rfl (congrArg Value.bool (decide_eq_true (by omega))) ?_
  refine WL.q (Wn.no rfl) rfl rfl (R.fieldAddr (b := b_1) (off := 0) (off' := 34) rfl Try.underlying28 rfl Try.sizeOf3 rfl rfl) ?_
  refine WL.want rfl (congrArg Value.bool (decide_eq_true (by omega))) ?_
  refine WL.q (Wn.no rfl) rfl rfl (R.load1 (b := b_1) (off := 34) (v := (vi ((gn : Nat) : Int))) rfl Try.isAgg3 (h_3.ok _ (.head _)) (Sg.t rfl (Sg.t rfl (Sg.t rfl Sg.h)))) ?_
  refine WL.want rfl (congrArg Value.bool (decide_eq_true (by omega))) ?_
  refine WL.q (Wn.no rfl) rfl rfl (R.bin (v := (.bool (decide ((((gn : Nat) : Int) : Int) ≥ 1)))) rfl rfl (bi_geq (r := decide ((((gn : Nat) : Int) : Int) ≥ 1)) rfl)) ?_
  refine WL.q (Wn.no rfl) rfl rfl (R.pickT (v := (.bool (decide ((((gn : Nat) : Int) : Int) ≥ 1)))) (congrArg Value.bool (decide_eq_true (by omega))) rfl) ?_
  refine WL.q (Wn.no rfl) rfl rfl (R.move (v := (.bool (decide ((((gn : Nat) : Int) : Int) ≥ 1)))) rfl) ?_
  refine WL.want rfl (congrArg Value.bool (decide_eq_true (by omega))) ?_
  refine WL.q (Wn.no rfl) rfl rfl (R.fieldAddr (b := b_1) (off := 0) (off' := 34) rfl Try.underlying28 rfl Try.sizeOf3 rfl rfl) ?_
  refine WL.want rfl (congrArg Value.bool (decide_eq_true (by omega))) ?_
  refine WL.q (Wn.no rfl) rfl rfl (R.load1 (b := b_1) (off := 34) (v := (vi ((gn : Nat) : Int))) rfl Try.isAgg3 (h_3.ok _ (.head _)) (Sg.t rfl (Sg.t rfl (Sg.t rfl Sg.h)))) ?_
  refine WL.want rfl (congrArg Value.bool (decide_eq_true (by omega))) ?_
  refine WL.q (Wn.no rfl) rfl rfl (R.bin (v := (.bool (decide ((((gn : Nat) : Int) : Int) ≤ 80)))) rfl rfl (bi_leq (r := decide ((((gn : Nat) : Int) : Int) ≤ 80)) rfl)) ?_
  refine WL.q (Wn.no rfl) rfl rfl (R.pickT (v := (.bool (decide ((((gn : Nat) : Int) : Int) ≤ 80)))) (congrArg Value.bool (decide_eq_true (by omega))) rfl) ?_
  refine WL.q (Wn.no rfl) rfl rfl (R.move (v := (.bool (decide ((((gn : Nat) : Int) : Int) ≤ 80)))) rfl) ?_
  refine WL.want rfl (congrArg Value.bool (decide_eq_true (by omega))) ?_
  refine WL.q (Wn.no rfl) rfl rfl (R.fieldAddr (b := b_1) (off := 0) (off' := 35) rfl Try.underlying28 rfl Try.sizeOf25 rfl rfl) ?_
  refine WL.want rfl (congrArg Value.bool (decide_eq_true (by omega))) ?_
  refine WL.q (Wn.no rfl) rfl rfl (R.load1 (b := b_1) (off := 35) (v := (.slice fa fn fc)) rfl Try.isAgg25 (h_3.ok _ (.head _)) (Sg.t rfl (Sg.t rfl (Sg.t rfl (Sg.t rfl Sg.h))))) ?_
  refine WL.want rfl (congrArg Value.bool (decide_eq_true (by omega))) ?_
  refine WL.q (Wn.no rfl) rfl rfl (R.lenS (a := fa) (m := fn) rfl rfl Try.underlying25) ?_
  refine WL.want rfl (congrArg Value.bool (decide_eq_true (by omega))) ?_
  refine WL.q (Wn.no rfl) rfl rfl (R.bin (v := (.bool (decide ((((fn : Nat) : Int) : Int) ≤ 80)))) rfl rfl (bi_leq (r := decide ((((fn : Nat) : Int) : Int) ≤ 80)) rfl)) ?_
  refine WL.q (Wn.no rfl) rfl rfl (R.pickT (v := (.bool (decide ((((fn : Nat) : Int) : Int) ≤ 80)))) (congrArg Value.bool (decide_eq_true (by omega))) rfl) ?_
  refine WL.q (Wn.no rfl) rfl rfl (R.assign (v := (.bool (decide ((((fn : Nat) : Int) : Int) ≤ 80)))) rfl) ?_
  refine WL.nil ?_
  refine thn_n ?_
  refine WP.ret ?_
  refine ret_of Try.results5 (RV.tmp (v := (.bool (decide ((((fn : Nat) : Int) : Int) ≤ 80)))) rfl RV.nil) ?_
  exact ⟨congrArg Value.bool (by simp; omega), h_3.chgS⟩

theorem c_small_f (id : Bool) (ms df : List UInt8) (hms : ms.length = 32) (da0 : Option Addr) (n cap0 : Nat) (hl : df.length = 32 * n) (fa : Option Addr) (fn fc : Nat) (fd : List UInt8) (hfl : fd.length = 128 * fn) (nd : UInt64) (gn : Int) (hs : ¬ (n ≤ 700 ∧ 1 ≤ gn ∧ gn ≤ 80 ∧ fn ≤ 80)) (w : World) :
    Cs Try.prog 5 [(.agg ⟨flat [(1, [(.bool id)]), (32, ms.map vu8), (1, [(.slice da0 n cap0)]), (1, [(vi gn)]), (1, [(.slice fa fn fc)]), (1, [(vu64 nd)])]⟩)].toArray w (fun v w1 => v = (.bool false) ∧ Chg w w1 []) := by
  refine Cs.of (n := 23) (args := [(.agg ⟨flat [(1, [(.bool id)]), (32, ms.map vu8), (1, [(.slice da0 n cap0)]), (1, [(vi gn)]), (1, [(.slice fa fn fc)]), (1, [(vu64 nd)])]⟩)]) Try.func5 rfl rfl rfl ?_
  have h_0 := HP.init w
  refine WP.seq ?_
  refine WP.reg ?_
  refine WL.box (v := (.agg ⟨flat [(1, [(.bool id)]), (32, ms.map vu8), (1, [(.slice da0 n cap0)]), (1, [(vi gn)]), (1, [(.slice fa fn fc)]), (1, [(vu64 nd)])]⟩)) (segs := [(1, [(.bool id)]), (32, ms.map vu8), (1, [(.slice da0 n cap0)]), (1, [(vi gn)]), (1, [(.slice fa fn fc)]), (1, [(vu64 nd)])]) h_0 rfl rfl (SsOk.cons (SOk.v rfl) (SsOk.cons (SOk.u8 hms) (SsOk.cons (SOk.v rfl) (SsOk.cons (SOk.v rfl) (SsOk.cons (SOk.v rfl) (SsOk.cons (SOk.v rfl) SsOk.nil)))))) rfl (fun b_1 w_2 h_3 => ?_)
  refine WL.q (Wn.no rfl) rfl rfl (R.assign (v := (.bool false)) rfl) ?_
  refine WL.nil ?_
  refine thn_n ?_
  refine WP.seq ?_
  refine WP.reg ?_
  refine WL.q (Wn.no rfl) rfl rfl (R.fieldAddr (b := b_1) (off := 0) (off' := 33) rfl Try.underlying28 rfl Try.sizeOf24 rfl rfl) ?_
  refine WL.q (Wn.no rfl) rfl rfl (R.load1 (b := b_1) (off := 33) (v := (.slice da0 n cap0)) rfl Try.isAgg24 (h_3.ok _ (.head _)) (Sg.t rfl (Sg.t rfl Sg.h))) ?_
  refine WL.q (Wn.no rfl) rfl rfl (R.lenS (a := da0) (m := n) rfl rfl Try.underlying24) ?_
  refine WL.q (Wn.no rfl) rfl rfl (R.bin (v := (.bool (decide ((((n : Nat) : Int) : Int) ≤ 700)))) rfl rfl (bi_leq (r := decide ((((n : Nat) : Int) : Int) ≤ 700)) rfl)) ?_
  refine WL.q (Wn.no rfl) rfl rfl (R.move (v := (.bool (decide ((((n : Nat) : Int) : Int) ≤ 700)))) rfl) ?_
  rcases Bool.eq_false_or_eq_true (decide ((((n : Nat) : Int) : Int) ≤ 700)) with c_4 | c_4
  · have p_5 := of_decide_eq_true c_4
    refine WL.want rfl (congrArg Value.bool c_4) ?_
    refine WL.q (Wn.no rfl) rfl rfl (R.fieldAddr (b := b_1) (off := 0) (off' := 34) rfl Try.underlying28 rfl Try.sizeOf3 rfl rfl) ?_
    refine WL.want rfl (congrArg Value.bool c_4) ?_
    refine WL.q (Wn.no rfl) rfl rfl (R.load1 (b := b_1) (off := 34) (v := (vi gn)) rfl Try.isAgg3 (h_3.ok _ (.head _)) (Sg.t rfl (Sg.t rfl (Sg.t rfl Sg.h)))) ?_
    refine WL.want rfl (congrArg Value.bool c_4) ?_
    refine WL.q (Wn.no rfl) rfl rfl (R.bin (v := (.bool (decide ((gn : Int) ≥ 1)))) rfl rfl (bi_geq (r := decide ((gn : Int) ≥ 1)) rfl)) ?_
    refine WL.q (Wn.no rfl) rfl rfl (R.pickT (v := (.bool (decide ((gn : Int) ≥ 1)))) (congrArg Value.bool c_4) rfl) ?_
    refine WL.q (Wn.no rfl) rfl rfl (R.move (v := (.bool (decide ((gn : Int) ≥ 1)))) rfl) ?_
    rcases Bool.eq_false_or_eq_true (decide ((gn : Int) ≥ 1)) with c_6 | c_6
    · have p_7 := of_decide_eq_true c_6
      refine WL.want rfl (congrArg Value.bool c_6) ?_
      refine WL.q (Wn.no rfl) rfl rfl (R.fieldAddr (b := b_1) (off := 0) (off' := 34) rfl Try.underlying28 rfl Try.sizeOf3 rfl rfl) ?_
      refine WL.want rfl (congrArg Value.bool c_6) ?_
      refine WL.q (Wn.no rfl) rfl rfl (R.load1 (b := b_1) (off := 34) (v := (vi gn)) rfl Try.isAgg3 (h_3.ok _ (.head _)) (Sg.t rfl (Sg.t rfl (Sg.t rfl Sg.h)))) ?_
      refine WL.want rfl (congrArg Value.bool c_6) ?_
      refine WL.q (Wn.no rfl) rfl rfl (R.bin (v := (.bool (decide ((gn : Int) ≤ 80)))) rfl rfl (bi_leq (r := decide ((gn : Int) ≤ 80)) rfl)) ?_
      refine WL.q (Wn.no rfl) rfl rfl (R.pickT (v := (.bool (decide ((gn : Int) ≤ 80)))) (congrArg Value.bool c_6) rfl) ?_
      refine WL.q (Wn.no rfl) rfl rfl (R.move (v := (.bool (decide ((gn : Int) ≤ 80)))) rfl) ?_
      rcases Bool.eq_false_or_eq_true (decide ((gn : Int) ≤ 80)) with c_8 | c_8
      · have p_9 := of_decide_eq_true c_8
        refine WL.want rfl (congrArg Value.bool c_8) ?_
        refine WL.q (Wn.no rfl) rfl rfl (R.fieldAddr (b := b_1) (off := 0) (off' := 35) rfl Try.underlying28 rfl Try.sizeOf25 rfl rfl) ?_
        refine WL.want rfl (congrArg Value.bool c_8) ?_
        refine WL.q (Wn.no rfl) rfl rfl (R.load1 (b := b_1) (off := 35) (v := (.slice fa fn fc)) rfl Try.isAgg25 (h_3.ok _ (.head _)) (Sg.t rfl (Sg.t rfl (Sg.t rfl (Sg.t rfl Sg.h))))) ?_
        refine WL.want rfl (congrArg Value.bool c_8) ?_
        refine WL.q (Wn.no rfl) rfl rfl (R.lenS (a := fa) (m := fn) rfl rfl Try.underlying25) ?_
        refine WL.want rfl (congrArg Value.bool c_8) ?_
        refine WL.q (Wn.no rfl) rfl rfl (R.bin (v := (.bool (decide ((((fn : Nat) : Int) : Int) ≤ 80)))) rfl rfl (bi_leq (r := decide ((((fn : Nat) : Int) : Int) ≤ 80)) rfl)) ?_
        refine WL.q (Wn.no rfl) rfl rfl (R.pickT (v := (.bool (decide ((((fn : Nat) : Int) : Int) ≤ 80)))) (congrArg Value.bool c_8) rfl) ?_
        refine WL.q (Wn.no rfl) rfl rfl (R.assign (v := (.bool (decide ((((fn : Nat) : Int) : Int) ≤ 80)))) rfl) ?_
        refine WL.nil ?_
        refine thn_n ?_
        refine WP.ret ?_
        refine ret_of Try.results5 (RV.tmp (v := (.bool (decide ((((fn : Nat) : Int) : Int) ≤ 80)))) rfl RV.nil) ?_
        exact ⟨congrArg Value.bool (decide_eq_false (by omega)), h_3.chgS⟩
      · have p_10 := of_decide_eq_false c_8
        refine WL.skip rfl (congrArg Value.bool c_8) rfl ?_
        refine WL.skip rfl (congrArg Value.bool c_8) rfl ?_
        refine WL.skip rfl (congrArg Value.bool c_8) rfl ?_
        refine WL.skip rfl (congrArg Value.bool c_8) rfl ?_
        refine WL.q (Wn.no rfl) rfl rfl (R.pickF (v := (.bool false)) (congrArg Value.bool c_8) rfl) ?_
        refine WL.q (Wn.no rfl) rfl rfl (R.assign (v := (.bool false)) rfl) ?_
        refine WL.nil ?_
        refine thn_n ?_
        refine WP.ret ?_
        refine ret_of Try.results5 (RV.tmp (v := (.bool false)) rfl RV.nil) ?_
        exact ⟨rfl, h_3.chgS⟩
    · have p_11 := of_decide_eq_false c_6
      refine WL.skip rfl (congrArg Value.bool c_6) rfl ?_
      refine WL.skip rfl (congrArg Value.bool c_6) rfl ?_
      refine WL.skip rfl (congrArg Value.bool c_6) rfl ?_
      refine WL.q (Wn.no rfl) rfl rfl (R.pickF (v := (.bool false)) (congrArg Value.bool c_6) rfl) ?_
      refine WL.q (Wn.no rfl) rfl rfl (R.move (v := (.bool false)) rfl) ?_
      refine WL.skip rfl rfl rfl ?_
      refine WL.skip rfl rfl rfl ?_
      refine WL.skip rfl rfl rfl ?_
      refine WL.skip rfl rfl rfl ?_
      refine WL.q (Wn.no rfl) rfl rfl (R.pickF (v := (.bool false)) rfl rfl) ?_
      refine WL.q (Wn.no rfl) rfl rfl (R.assign (v := (.bool false)) rfl) ?_
      refine WL.nil ?_
      refine thn_n ?_
      refine WP.ret ?_
      refine ret_of Try.results5 (RV.tmp (v := (.bool false)) rfl RV.nil) ?_
      exact ⟨rfl, h_3.chgS⟩
  · have p_12 := of_decide_eq_false c_4
    refine WL.skip rfl (congrArg Value.bool c_4) rfl ?_
    refine WL.skip rfl (congrArg Value.bool c_4) rfl ?_
    refine WL.skip rfl (congrArg Value.bool c_4) rfl ?_
    refine WL.q (Wn.no rfl) rfl rfl (R.pickF (v := (.bool false)) (congrArg Value.bool c_4) rfl) ?_
    refine WL.q (Wn.no rfl) rfl rfl (R.move (v := (.bool false)) rfl) ?_
    refine WL.skip rfl rfl rfl ?_
    refine WL.skip rfl rfl rfl ?_
    refine WL.skip rfl rfl rfl ?_
    refine WL.q (Wn.no rfl) rfl rfl (R.pickF (v := (.bool false)) rfl rfl) ?_
    refine WL.q (Wn.no rfl) rfl rfl (R.move (v := (.bool false)) rfl) ?_
    refine WL.skip rfl rfl rfl ?_
    refine WL.skip rfl rfl rfl ?_
    refine WL.skip rfl rfl rfl ?_
    refine WL.skip rfl rfl rfl ?_
    refine WL.q (Wn.no rfl) rfl rfl (R.pickF (v := (.bool false)) rfl rfl) ?_
    refine WL.q (Wn.no rfl) rfl rfl (R.assign (v := (.bool false)) rfl) ?_
    refine WL.nil ?_
    refine thn_n ?_
    refine WP.ret ?_
    refine ret_of Try.results5 (RV.tmp (v := (.bool false)) rfl RV.nil) ?_
    exact ⟨rfl, h_3.chgS⟩

theorem c_two {w00 : World} {L : List Ent} (id : Bool) (ms df : List UInt8) (hms : ms.length = 32) (da0 : Option Addr) (n cap0 : Nat) (hl : df.length = 32 * n) (fa : Option Addr) (fn fc : Nat) (fd : List UInt8) (hfl : fd.length = 128 * fn) (nd : UInt64) (gn : Nat) (hs : n ≤ 700 ∧ 1 ≤ gn ∧ gn ≤ 80 ∧ fn ≤ 80) (w : World) (h_0 : HP w00 w (Ent.view da0 (df.map vu8) :: Ent.view fa (fd.map vu8) :: L)) :
    Cs Try.prog 8 [(.agg ⟨flat [(1, [(.bool id)]), (32, ms.map vu8), (1, [(.slice da0 n cap0)]), (1, [(vi ((gn : Nat) : Int))]), (1, [(.slice fa fn fc)]), (1, [(vu64 nd)])]⟩)].toArray w (fun v w1 => ∃ ob mp da dc rb bm ma bk ka, v = .tuple [.pointer (some ⟨ob, 0, none⟩), .pointer (some ⟨bm, 0, none⟩), .pointer (some ⟨rb, 0, none⟩), .pointer (some ⟨bk, 0, none⟩), .bool true].toArray ∧ HP w00 w1 (Ent.blk ob .nw 82 [(1, [(.bool id)]), (32, ms.map vu8), (1, [(.slice da n dc)]), (1, [(vi 0)]), (1, [(.map (some mp))]), (1, [(.slice none 0 0)])] :: Ent.row none 0 0 114 67 [] :: Ent.obj mp .nw (.map (mArr ([] : Lg)) 0) :: Ent.pin (sblks []) (fun w => Lgs w [] ([] : Lg)) :: Ent.view da (df.map vu8) :: Ent.blk rb .nw 61 [(1, [(.bool id)]), (32, ms.map vu8), (1, [(.slice da0 n cap0)]), (1, [(vi 0)]), (1, [(.slice none 0 0)])] :: Ent.blk bm .nw 84 [(1, [(.slice ma gn gn)])] :: Ent.row ma gn gn 65 128 ((fillL fd gn (min fn gn)).map vu8) :: Ent.blk bk .nw 86 [(1, [(.slice ka (128 * gn) (128 * gn))])] :: Ent.row ka (128 * gn) (128 * gn) 5 1 ((fillL fd gn (min fn gn)).map vu8) :: Ent.view da0 (df.map vu8) :: Ent.view fa (fd.map vu8) :: L)) := by
  refine Cs.of (n := 83) (args := [(.agg ⟨flat [(1, [(.bool id)]), (32, ms.map vu8), (1, [(.slice da0 n cap0)]), (1, [(vi ((gn : Nat) : Int))]), (1, [(.slice fa fn fc)]), (1, [(vu64 nd)])]⟩)]) Try.func8 rfl rfl rfl ?_
  refine WP.seq ?_
  refine WP.reg ?_
  refine WL.box (v := (.agg ⟨flat [(1, [(.bool id)]), (32, ms.map vu8), (1, [(.slice da0 n cap0)]), (1, [(vi ((gn : Nat) : Int))]), (1, [(.slice fa fn fc)]), (1, [(vu64 nd)])]⟩)) (segs := [(1, [(.bool id)]), (32, ms.map vu8), (1, [(.slice da0 n cap0)]), (1, [(vi ((gn : Nat) : Int))]), (1, [(.slice fa fn fc)]), (1, [(vu64 nd)])]) h_0 rfl rfl (SsOk.cons (SOk.v rfl) (SsOk.cons (SOk.u8 hms) (SsOk.cons (SOk.v rfl) (SsOk.cons (SOk.v rfl) (SsOk.cons (SOk.v rfl) (SsOk.cons (SOk.v rfl) SsOk.nil)))))) rfl (fun b_1 w_2 h_3 => ?_)
  refine WL.q (Wn.no rfl) rfl rfl (R.assign (v := (.pointer none)) rfl) ?_
  refine WL.q (Wn.no rfl) rfl rfl (R.assign (v := (.pointer none)) rfl) ?_
  refine WL.q (Wn.no rfl) rfl rfl (R.assign (v := (.pointer none)) rfl) ?_
  refine WL.q (Wn.no rfl) rfl rfl (R.assign (v := (.pointer none)) rfl) ?_
  refine WL.q (Wn.no rfl) rfl rfl (R.assign (v := (.bool false)) rfl) ?_
  refine WL.nil ?_
  refine thn_n ?_
  refine WP.seq ?_
  refine WP.reg ?_
  refine WL.q (Wn.no rfl) rfl rfl (R.fieldAddr (b := b_1) (off := 0) (off' := 0) rfl Try.underlying28 rfl Try.sizeOf4 rfl rfl) ?_
  refine WL.q (Wn.no rfl) rfl rfl (R.load1 (b := b_1) (off := 0) (v := (.bool id)) rfl Try.isAgg4 (h_3.ok _ (.head _)) Sg.h) ?_
  refine WL.q (Wn.no rfl) rfl rfl (R.fieldAddr (b := b_1) (off := 0) (off' := 1) rfl Try.underlying28 rfl Try.sizeOf23 rfl rfl) ?_
  refine WL.q (Wn.no rfl) rfl rfl (R.loadA (b := b_1) (off := 1) [(1, [(.bool id)])] [(32, ms.map vu8)] [(1, [(.slice da0 n cap0)]), (1, [(vi ((gn : Nat) : Int))]), (1, [(.slice fa fn fc)]), (1, [(vu64 nd)])] (cs := ms.map vu8) rfl Try.isAgg23 Try.sizeOf23 (h_3.ok _ (.head _)) rfl rfl rfl rfl) ?_
  refine WL.q (Wn.no rfl) rfl rfl (R.fieldAddr (b := b_1) (off := 0) (off' := 33) rfl Try.underlying28 rfl Try.sizeOf24 rfl rfl) ?_
  refine WL.q (Wn.no rfl) rfl rfl (R.load1 (b := b_1) (off := 33) (v := (.slice da0 n cap0)) rfl Try.isAgg24 (h_3.ok _ (.head _)) (Sg.t rfl (Sg.t rfl Sg.h))) ?_
  have h_4 := h_3.up (Pick.t Pick.h)
  refine WL.call (al := [(.bool id), (.agg ⟨ms.map vu8⟩), (.slice da0 n cap0)]) Try.call17 rfl rfl (c_ONew id ms df hms da0 n cap0 hl (by omega) _ h_4) rfl ?_
  rintro _ w_9 ⟨b_5, b_6, a_7, c_8, rfl, h_10⟩
  refine WL.q (Wn.no rfl) rfl rfl (R.assign (v := (.pointer (some ⟨b_5, 0, none⟩))) rfl) ?_
  refine WL.nil ?_
  refine thn_n ?_
  refine WP.seq ?_
  refine WP.reg ?_
  refine WL.q (Wn.no rfl) rfl rfl (R.fieldAddr (b := b_1) (off := 0) (off' := 34) rfl Try.underlying28 rfl Try.sizeOf3 rfl rfl) ?_
  refine WL.q (Wn.no rfl) rfl rfl (R.load1 (b := b_1) (off := 34) (v := (vi ((gn : Nat) : Int))) rfl Try.isAgg3 (h_10.ok _ (.tail _ (.tail _ (.tail _ (.tail _ (.tail _ (.tail _ (.head _)))))))) (Sg.t rfl (Sg.t rfl (Sg.t rfl Sg.h)))) ?_
  refine WL.call (al := [(vi ((gn : Nat) : Int))]) Try.call18 rfl rfl (c_MNewG gn (by omega) (by omega) _ h_10) rfl ?_
  rintro _ w_13 ⟨b_11, a_12, rfl, h_14⟩
  refine WL.q (Wn.no rfl) rfl rfl (R.move (v := (.tuple [(.pointer (some ⟨b_11, 0, none⟩)), (vi 0)].toArray)) rfl) ?_
  refine WL.q (Wn.no rfl) rfl rfl (R.extract (l := [(.pointer (some ⟨b_11, 0, none⟩)), (vi 0)]) (v := (.pointer (some ⟨b_11, 0, none⟩))) rfl rfl) ?_
  refine WL.q (Wn.no rfl) rfl rfl (R.extract (l := [(.pointer (some ⟨b_11, 0, none⟩)), (vi 0)]) (v := (vi 0)) rfl rfl) ?_
  refine WL.q (Wn.no rfl) rfl rfl (R.assign (v := (.pointer (some ⟨b_11, 0, none⟩))) rfl) ?_
  refine WL.q (Wn.no rfl) rfl rfl (R.assign (v := (vi 0)) rfl) ?_
  refine WL.nil ?_
  refine thn_n ?_
  refine WP.seq ?_
  refine WP.reg ?_
  refine WL.q (Wn.no rfl) rfl rfl (R.fieldAddr (b := b_1) (off := 0) (off' := 0) rfl Try.underlying28 rfl Try.sizeOf4 rfl rfl) ?_
  refine WL.q (Wn.no rfl) rfl rfl (R.load1 (b := b_1) (off := 0) (v := (.bool id)) rfl Try.isAgg4 (h_14.ok _ (.tail _ (.tail _ (.tail _ (.tail _ (.tail _ (.tail _ (.tail _ (.tail _ (.head _)))))))))) Sg.h) ?_
  refine WL.q (Wn.no rfl) rfl rfl (R.fieldAddr (b := b_1) (off := 0) (off' := 1) rfl Try.underlying28 rfl Try.sizeOf23 rfl rfl) ?_
  refine WL.q (Wn.no rfl) rfl rfl (R.loadA (b := b_1) (off := 1) [(1, [(.bool id)])] [(32, ms.map vu8)] [(1, [(.slice da0 n cap0)]), (1, [(vi ((gn : Nat) : Int))]), (1, [(.slice fa fn fc)]), (1, [(vu64 nd)])] (cs := ms.map vu8) rfl Try.isAgg23 Try.sizeOf23 (h_14.ok _ (.tail _ (.tail _ (.tail _ (.tail _ (.tail _ (.tail _ (.tail _ (.tail _ (.head _)))))))))) rfl rfl rfl rfl) ?_
  refine WL.q (Wn.no rfl) rfl rfl (R.fieldAddr (b := b_1) (off := 0) (off' := 33) rfl Try.underlying28 rfl Try.sizeOf24 rfl rfl) ?_
  refine WL.q (Wn.no rfl) rfl rfl (R.load1 (b := b_1) (off := 33) (v := (.slice da0 n cap0)) rfl Try.isAgg24 (h_14.ok _ (.tail _ (.tail _ (.tail _ (.tail _ (.tail _ (.tail _ (.tail _ (.tail _ (.head _)))))))))) (Sg.t rfl (Sg.t rfl Sg.h))) ?_
  refine WL.q (Wn.no rfl) rfl rfl (R.buildS (pl := [(0, 1), (1, 32), (33, 1), (34, 1), (35, 1)]) (zs := [(1, [(.bool false)]), (32, (List.replicate 32 (0 : UInt8)).map vu8), (1, [(.slice none 0 0)]), (1, [(vi 0)]), (1, [(.slice none 0 0)])]) (vs := [(0, (.bool id)), (1, (.agg ⟨ms.map vu8⟩)), (2, (.slice da0 n cap0))]) (out := [(1, [(.bool id)]), (32, ms.map vu8), (1, [(.slice da0 n cap0)]), (1, [(vi 0)]), (1, [(.slice none 0 0)])]) (cs := flat [(1, [(.bool id)]), (32, ms.map vu8), (1, [(.slice da0 n cap0)]), (1, [(vi 0)]), (1, [(.slice none 0 0)])]) Try.underlying61 (zv Try.typeInfo61 rfl) rfl (SsOk.cons (SOk.v rfl) (SsOk.cons (SOk.u8 (List.length_replicate ..)) (SsOk.cons (SOk.v rfl) (SsOk.cons (SOk.v rfl) (SsOk.cons (SOk.v rfl) SsOk.nil))))) (pl61 _ Try.underlying61) rfl (FillR.cons [] [(1, [(.bool false)])] [(1, [(.bool id)])] [(32, (List.replicate 32 (0 : UInt8)).map vu8), (1, [(.slice none 0 0)]), (1, [(vi 0)]), (1, [(.slice none 0 0)])] rfl rfl rfl rfl (SsOk.cons (SOk.v rfl) SsOk.nil) rfl rfl rfl (FillR.cons [(1, [(.bool id)])] [(32, (List.replicate 32 (0 : UInt8)).map vu8)] [(32, ms.map vu8)] [(1, [(.slice none 0 0)]), (1, [(vi 0)]), (1, [(.slice none 0 0)])] rfl rfl rfl rfl (SsOk.cons (SOk.u8 hms) SsOk.nil) rfl rfl rfl (FillR.cons [(1, [(.bool id)]), (32, ms.map vu8)] [(1, [(.slice none 0 0)])] [(1, [(.slice da0 n cap0)])] [(1, [(vi 0)]), (1, [(.slice none 0 0)])] rfl rfl rfl rfl (SsOk.cons (SOk.v rfl) SsOk.nil) rfl rfl rfl FillR.nil))) rfl) ?_
  refine WL.box (v := (.agg ⟨flat [(1, [(.bool id)]), (32, ms.map vu8), (1, [(.slice da0 n cap0)]), (1, [(vi 0)]), (1, [(.slice none 0 0)])]⟩)) (segs := [(1, [(.bool id)]), (32, ms.map vu8), (1, [(.slice da0 n cap0)]), (1, [(vi 0)]), (1, [(.slice none 0 0)])]) h_14 rfl rfl (SsOk.cons (SOk.v rfl) (SsOk.cons (SOk.u8 hms) (SsOk.cons (SOk.v rfl) (SsOk.cons (SOk.v rfl) (SsOk.cons (SOk.v rfl) SsOk.nil))))) rfl (fun b_16 w_17 h_18 => ?_)
  refine WL.q (Wn.no rfl) rfl rfl (R.assign (v := (.pointer (some ⟨b_16, 0, none⟩))) rfl) ?_
  refine WL.nil ?_
  refine thn_n ?_
  refine WP.seq ?_
  refine WP.reg ?_
  refine WL.q (Wn.no rfl) rfl rfl (R.fieldAddr (b := b_1) (off := 0) (off' := 34) rfl Try.underlying28 rfl Try.sizeOf3 rfl rfl) ?_
  refine WL.q (Wn.no rfl) rfl rfl (R.load1 (b := b_1) (off := 34) (v := (vi ((gn : Nat) : Int))) rfl Try.isAgg3 (h_18.ok _ (.tail _ (.tail _ (.tail _ (.tail _ (.tail _ (.tail _ (.tail _ (.tail _ (.tail _ (.head _))))))))))) (Sg.t rfl (Sg.t rfl (Sg.t rfl Sg.h)))) ?_
  refine WL.call (al := [(vi ((gn : Nat) : Int))]) Try.call21 rfl rfl (c_KNew gn (by omega) (by omega) _ h_18) rfl ?_
  rintro _ w_21 ⟨b_19, a_20, rfl, h_22⟩
  refine WL.q (Wn.no rfl) rfl rfl (R.assign (v := (.pointer (some ⟨b_19, 0, none⟩))) rfl) ?_
  refine WL.nil ?_
  refine thn_n ?_
  refine WP.seq ?_
  refine WP.seq ?_
  refine WP.reg ?_
  refine WL.q (Wn.no rfl) rfl rfl (R.assign (v := (vi 0)) rfl) ?_
  refine WL.nil ?_
  refine thn_n ?_
  refine WP.block ?_
  refine WP.loopG (G := Nat) [2, 3, 4, 5, 6, 12, 37, 38, 39, 40, 41, 42, 43, 44, 45, 46, 47, 48, 49, 50, 51, 52, 53, 54, 55, 56, 57, 58, 59, 60, 61, 62, 63, 64, 65, 66, 67] (fun g => [(12, (vi ((g : Nat) : Int)))]) (fun g m w1 => HP w00 w1 (Ent.blk b_19 .nw 86 [(1, [(.slice a_20 (128 * gn) (128 * gn))])] :: Ent.row a_20 (128 * gn) (128 * gn) 5 1 ((fillL fd gn g).map vu8) :: Ent.blk b_16 .nw 61 [(1, [(.bool id)]), (32, ms.map vu8), (1, [(.slice da0 n cap0)]), (1, [(vi 0)]), (1, [(.slice none 0 0)])] :: Ent.blk b_11 .nw 84 [(1, [(.slice a_12 gn gn)])] :: Ent.row a_12 gn gn 65 128 ((fillL fd gn g).map vu8) :: Ent.blk b_5 .nw 82 [(1, [(.bool id)]), (32, ms.map vu8), (1, [(.slice a_7 n c_8)]), (1, [(vi 0)]), (1, [(.map (some b_6))]), (1, [(.slice none 0 0)])] :: Ent.row none 0 0 114 67 [] :: Ent.obj b_6 .nw (.map (mArr ([] : Lg)) 0) :: Ent.pin (sblks []) (fun w => Lgs w [] ([] : Lg)) :: Ent.view a_7 (df.map vu8) :: Ent.view da0 (df.map vu8) :: Ent.blk b_1 .nw 28 [(1, [(.bool id)]), (32, ms.map vu8), (1, [(.slice da0 n cap0)]), (1, [(vi ((gn : Nat) : Int))]), (1, [(.slice fa fn fc)]), (1, [(vu64 nd)])] :: Ent.view fa (fd.map vu8) :: L) ∧ (g ≤ fn) ∧ (g ≤ gn) ∧ m = gn - g) ⟨0, _, ⟨rfl, trivial⟩, h_22, Nat.zero_le _, Nat.zero_le _, rfl⟩ ?_
  rintro g m_25 J_26 w_23 ⟨h_24, hgf, hgg, rfl⟩
  refine WP.seq ?_
  refine WP.seq ?_
  refine WP.reg ?_
  refine WL.q (Wn.no rfl) rfl rfl (R.move (v := (vi ((g : Nat) : Int))) rfl) ?_
  refine WL.q (Wn.no rfl) rfl rfl (R.fieldAddr (b := b_1) (off := 0) (off' := 35) rfl Try.underlying28 rfl Try.sizeOf25 rfl rfl) ?_
  refine WL.q (Wn.no rfl) rfl rfl (R.load1 (b := b_1) (off := 35) (v := (.slice fa fn fc)) rfl Try.isAgg25 (h_24.ok _ (.tail _ (.tail _ (.tail _ (.tail _ (.tail _ (.tail _ (.tail _ (.tail _ (.tail _ (.tail _ (.tail _ (.head _))))))))))))) (Sg.t rfl (Sg.t rfl (Sg.t rfl (Sg.t rfl Sg.h))))) ?_
  refine WL.q (Wn.no rfl) rfl rfl (R.lenS (a := fa) (m := fn) rfl rfl Try.underlying25) ?_
  refine WL.q (Wn.no rfl) rfl rfl (R.bin (v := (.bool (decide ((((g : Nat) : Int) : Int) < ((fn : Nat) : Int))))) rfl rfl (bi_lss (r := decide ((((g : Nat) : Int) : Int) < ((fn : Nat) : Int))) rfl)) ?_
  refine WL.q (Wn.no rfl) rfl rfl (R.move (v := (.bool (decide ((((g : Nat) : Int) : Int) < ((fn : Nat) : Int))))) rfl) ?_
  rcases Bool.eq_false_or_eq_true (decide ((((g : Nat) : Int) : Int) < ((fn : Nat) : Int))) with c_27 | c_27
  · have p_28 := of_decide_eq_true c_27
    refine WL.want rfl (congrArg Value.bool c_27) ?_
    refine WL.q (Wn.no rfl) rfl rfl (R.move (v := (vi ((g : Nat) : Int))) rfl) ?_
    refine WL.want rfl (congrArg Value.bool c_27) ?_
    refine WL.q (Wn.no rfl) rfl rfl (R.fieldAddr (b := b_1) (off := 0) (off' := 34) rfl Try.underlying28 rfl Try.sizeOf3 rfl rfl) ?_
    refine WL.want rfl (congrArg Value.bool c_27) ?_
    refine WL.q (Wn.no rfl) rfl rfl (R.load1 (b := b_1) (off := 34) (v := (vi ((gn : Nat) : Int))) rfl Try.isAgg3 (h_24.ok _ (.tail _ (.tail _ (.tail _ (.tail _ (.tail _ (.tail _ (.tail _ (.tail _ (.tail _ (.tail _ (.tail _ (.head _))))))))))))) (Sg.t rfl (Sg.t rfl (Sg.t rfl Sg.h)))) ?_
    refine WL.want rfl (congrArg Value.bool c_27) ?_
    refine WL.q (Wn.no rfl) rfl rfl (R.bin (v := (.bool (decide ((((g : Nat) : Int) : Int) < ((gn : Nat) : Int))))) rfl rfl (bi_lss (r := decide ((((g : Nat) : Int) : Int) < ((gn : Nat) : Int))) rfl)) ?_
    refine WL.q (Wn.no rfl) rfl rfl (R.pickT (v := (.bool (decide ((((g : Nat) : Int) : Int) < ((gn : Nat) : Int))))) (congrArg Value.bool c_27) rfl) ?_
    refine WL.nil ?_
    refine thn_n ?_
    refine WP.cond (b := decide ((((g : Nat) : Int) : Int) < ((gn : Nat) : Int))) rfl (fun c_29 => ?_) (fun c_29 => ?_)
    · have p_30 := of_decide_eq_true c_29
      refine WP.skip ?_
      refine thn_n ?_
      refine WP.seq ?_
      refine WP.block ?_
      refine WP.seq ?_
      refine WP.seq ?_
      refine WP.reg ?_
      refine WL.q (Wn.no rfl) rfl rfl (R.move (v := (.pointer (some ⟨b_11, 0, none⟩))) rfl) ?_
      refine WL.q (Wn.no rfl) rfl rfl (R.move (v := (vi ((g : Nat) : Int))) rfl) ?_
      refine WL.q (Wn.no rfl) rfl rfl (R.fieldAddr (b := b_1) (off := 0) (off' := 35) rfl Try.underlying28 rfl Try.sizeOf25 rfl rfl) ?_
      refine WL.q (Wn.no rfl) rfl rfl (R.load1 (b := b_1) (off := 35) (v := (.slice fa fn fc)) rfl Try.isAgg25 (h_24.ok _ (.tail _ (.tail _ (.tail _ (.tail _ (.tail _ (.tail _ (.tail _ (.tail _ (.tail _ (.tail _ (.tail _ (.head _))))))))))))) (Sg.t rfl (Sg.t rfl (Sg.t rfl (Sg.t rfl Sg.h))))) ?_
      refine WL.q (Wn.no rfl) rfl rfl (R.move (v := (vi ((g : Nat) : Int))) rfl) ?_
      refine WL.q (Wn.no rfl) rfl rfl (R.indexS (a := fa) (i := g) (off := g * 128) (xs := fd.map vu8) rfl rfl rfl (by omega) (viewV (h_24.ok _ (.tail _ (.tail _ (.tail _ (.tail _ (.tail _ (.tail _ (.tail _ (.tail _ (.tail _ (.tail _ (.tail _ (.tail _ (.head _))))))))))))))) (lt_len (K := 128 * fn) (len_map hfl) (by omega)) Try.underlying25 Try.sizeOf65 rfl) ?_
      refine WL.q (Wn.no rfl) rfl rfl (R.loadGA (a := fa) (i := g * 128) (xs := fd.map vu8) (cs := (((fd).drop (g * 128)).take 128).map vu8) rfl (viewV (h_24.ok _ (.tail _ (.tail _ (.tail _ (.tail _ (.tail _ (.tail _ (.tail _ (.tail _ (.tail _ (.tail _ (.tail _ (.tail _ (.head _))))))))))))))) Try.isAgg65 Try.sizeOf65 (by rw [List.map_take, List.map_drop]) (len_map (subLen (K := 128 * fn) hfl (by omega) : List.length (((fd).drop (g * 128)).take 128) = 128)) (by decide)) ?_
      have h_31 := h_24.up (Pick.t (Pick.t (Pick.t (Pick.t Pick.h))))
      have h_32 := h_31.up (Pick.t (Pick.t (Pick.t (Pick.t Pick.h))))
      refine WL.call (al := [(.pointer (some ⟨b_11, 0, none⟩)), (vi ((g : Nat) : Int)), (.agg ⟨(((fd).drop (g * 128)).take 128).map vu8⟩)]) Try.call22 rfl rfl (c_MPut b_11 a_12 gn g (by omega) (by omega) (fillL fd gn g) (((fd).drop (g * 128)).take 128) (fillL_len hfl hgg hgf) (subLen (K := 128 * fn) hfl (by omega) : List.length (((fd).drop (g * 128)).take 128) = 128) _ h_32) rfl ?_
      rintro _ w_33 ⟨rfl, h_34⟩
      refine WL.call (al := [(vi 0)]) Try.call11 rfl rfl (c_num15 0 (by omega) _ ) rfl ?_
      rintro _ w_36 ⟨rfl, hc_35⟩
      have h_37 := h_34.same hc_35
      refine WL.q (Wn.no rfl) rfl rfl (R.bin (v := (.bool false)) rfl rfl (bi_neq (r := false) (by decide))) ?_
      refine WL.nil ?_
      refine thn_n ?_
      refine WP.condF rfl ?_
      refine WP.skip ?_
      refine thn_n ?_
      refine WP.reg ?_
      refine WL.q (Wn.no rfl) rfl rfl (R.move (v := (.pointer (some ⟨b_19, 0, none⟩))) rfl) ?_
      refine WL.q (Wn.no rfl) rfl rfl (R.move (v := (vi ((g : Nat) : Int))) rfl) ?_
      refine WL.q (Wn.no rfl) rfl rfl (R.fieldAddr (b := b_1) (off := 0) (off' := 35) rfl Try.underlying28 rfl Try.sizeOf25 rfl rfl) ?_
      refine WL.q (Wn.no rfl) rfl rfl (R.load1 (b := b_1) (off := 35) (v := (.slice fa fn fc)) rfl Try.isAgg25 (h_37.ok _ (.tail _ (.tail _ (.tail _ (.tail _ (.tail _ (.tail _ (.tail _ (.tail _ (.tail _ (.tail _ (.tail _ (.head _))))))))))))) (Sg.t rfl (Sg.t rfl (Sg.t rfl (Sg.t rfl Sg.h))))) ?_
      refine WL.q (Wn.no rfl) rfl rfl (R.move (v := (vi ((g : Nat) : Int))) rfl) ?_
      refine WL.q (Wn.no rfl) rfl rfl (R.indexS (a := fa) (i := g) (off := g * 128) (xs := fd.map vu8) rfl rfl rfl (by omega) (viewV (h_37.ok _ (.tail _ (.tail _ (.tail _ (.tail _ (.tail _ (.tail _ (.tail _ (.tail _ (.tail _ (.tail _ (.tail _ (.tail _ (.head _))))))))))))))) (lt_len (K := 128 * fn) (len_map hfl) (by omega)) Try.underlying25 Try.sizeOf65 rfl) ?_
      refine WL.q (Wn.no rfl) rfl rfl (R.loadGA (a := fa) (i := g * 128) (xs := fd.map vu8) (cs := (((fd).drop (g * 128)).take 128).map vu8) rfl (viewV (h_37.ok _ (.tail _ (.tail _ (.tail _ (.tail _ (.tail _ (.tail _ (.tail _ (.tail _ (.tail _ (.tail _ (.tail _ (.tail _ (.head _))))))))))))))) Try.isAgg65 Try.sizeOf65 (by rw [List.map_take, List.map_drop]) (len_map (subLen (K := 128 * fn) hfl (by omega) : List.length (((fd).drop (g * 128)).take 128) = 128)) (by decide)) ?_
      have h_38 := h_37.up (Pick.t (Pick.t (Pick.t Pick.h)))
      have h_39 := h_38.up (Pick.t (Pick.t (Pick.t Pick.h)))
      refine WL.call (al := [(.pointer (some ⟨b_19, 0, none⟩)), (vi ((g : Nat) : Int)), (.agg ⟨(((fd).drop (g * 128)).take 128).map vu8⟩)]) Try.call23 rfl rfl (c_KPut b_19 a_20 gn g (by omega) (by omega) (fillL fd gn g) (((fd).drop (g * 128)).take 128) (fillL_len hfl hgg hgf) (subLen (K := 128 * fn) hfl (by omega) : List.length (((fd).drop (g * 128)).take 128) = 128) _ h_39) rfl ?_
      rintro _ w_40 ⟨rfl, h_41⟩
      refine WL.nil ?_
      refine inb_n ?_
      refine thn_n ?_
      refine WP.reg ?_
      refine WL.q (Wn.no rfl) rfl rfl (R.move (v := (vi ((g : Nat) : Int))) rfl) ?_
      refine WL.q (Wn.no rfl) rfl rfl (R.bin (v := (vi ((g + 1 : Nat) : Int))) rfl rfl (bi_add (c := ((g + 1 : Nat) : Int)) (by omega) (by omega))) ?_
      refine WL.q (Wn.no rfl) rfl rfl (R.assign (v := (vi ((g + 1 : Nat) : Int))) rfl) ?_
      refine WL.nil ?_
      refine thn_n ?_
      have h_42 := h_41.up (Pick.t (Pick.t (Pick.t (Pick.t (Pick.t (Pick.t (Pick.t (Pick.t (Pick.t (Pick.t (Pick.t (Pick.t Pick.h))))))))))))
      have h_43 := h_42.up (Pick.t (Pick.t (Pick.t (Pick.t (Pick.t (Pick.t (Pick.t (Pick.t (Pick.t (Pick.t (Pick.t (Pick.t Pick.h))))))))))))
      have h_44 := h_43.up (Pick.t (Pick.t (Pick.t (Pick.t (Pick.t (Pick.t (Pick.t (Pick.t (Pick.t (Pick.t (Pick.t (Pick.t Pick.h))))))))))))
      have h_45 := h_44.up (Pick.t (Pick.t (Pick.t (Pick.t (Pick.t (Pick.t (Pick.t (Pick.t (Pick.t (Pick.t (Pick.t (Pick.t Pick.h))))))))))))
      have h_46 := h_45.up (Pick.t (Pick.t (Pick.t (Pick.t (Pick.t (Pick.t (Pick.t (Pick.t (Pick.t (Pick.t (Pick.t (Pick.t Pick.h))))))))))))
      have h_47 := h_46.up (Pick.t (Pick.t (Pick.t (Pick.t (Pick.t (Pick.t (Pick.t (Pick.t (Pick.t (Pick.t (Pick.t (Pick.t Pick.h))))))))))))
      have h_48 := h_47.up (Pick.t (Pick.t (Pick.t (Pick.t (Pick.t (Pick.t (Pick.t (Pick.t (Pick.t (Pick.t (Pick.t (Pick.t Pick.h))))))))))))
      have h_49 := h_48.up (Pick.t (Pick.t (Pick.t (Pick.t (Pick.t (Pick.t (Pick.t (Pick.t (Pick.t (Pick.t (Pick.t (Pick.t Pick.h))))))))))))
      have h_50 := h_49.up (Pick.t (Pick.t (Pick.t (Pick.t (Pick.t (Pick.t (Pick.t (Pick.t (Pick.t (Pick.t (Pick.t Pick.h)))))))))))
      have h_51 := h_50.up (Pick.t (Pick.t (Pick.t (Pick.t (Pick.t (Pick.t (Pick.t (Pick.t (Pick.t (Pick.t (Pick.t Pick.h)))))))))))
      have h_52 := h_51.up (Pick.t (Pick.t (Pick.t (Pick.t (Pick.t (Pick.t (Pick.t (Pick.t (Pick.t (Pick.t (Pick.t (Pick.t Pick.h))))))))))))
      have h_53 := h_52.up (Pick.t (Pick.t (Pick.t (Pick.t (Pick.t (Pick.t (Pick.t (Pick.t (Pick.t (Pick.t (Pick.t (Pick.t Pick.h))))))))))))
      have h_54 := h_53.up (Pick.t (Pick.t (Pick.t (Pick.t (Pick.t (Pick.t (Pick.t (Pick.t (Pick.t (Pick.t (Pick.t (Pick.t Pick.h))))))))))))
      exact ⟨g + 1, _, (by omega), (Ag.upd rfl (Ag.upd rfl (Ag.upd rfl (Ag.upd rfl (Ag.upd rfl (Ag.upd rfl (Ag.upd rfl (Ag.upd rfl (Ag.upd rfl (Ag.upd rfl (Ag.upd rfl (Ag.upd rfl (Ag.upd rfl (Ag.upd rfl (Ag.upd rfl (Ag.upd rfl (Ag.upd rfl (Ag.upd rfl (Ag.upd rfl (Ag.upd rfl (Ag.upd rfl (Ag.upd rfl (Ag.upd rfl (Ag.upd rfl (Ag.upd rfl (Ag.upd rfl (Ag.upd rfl (Ag.upd rfl (Ag.upd rfl (Ag.upd rfl (Ag.upd rfl (Ag.upd rfl (Ag.updL rfl (Ag.mix _ _ _)))))))))))))))))))))))))))))))))), ⟨rfl, trivial⟩, h_54, (by omega), (by omega), rfl⟩
    · have p_55 := of_decide_eq_false c_29
      refine WP.exit ?_
      refine thn_x ?_
      refine thn_x ?_
      refine inb_hit ?_
      refine thn_n ?_
      refine WP.seq ?_
      refine WP.reg ?_
      refine WL.q (Wn.no rfl) rfl rfl (R.move (v := (.pointer (some ⟨b_5, 0, none⟩))) rfl) ?_
      refine WL.q (Wn.no rfl) rfl rfl (R.move (v := (.pointer (some ⟨b_11, 0, none⟩))) rfl) ?_
      refine WL.q (Wn.no rfl) rfl rfl (R.move (v := (.pointer (some ⟨b_16, 0, none⟩))) rfl) ?_
      refine WL.q (Wn.no rfl) rfl rfl (R.move (v := (.pointer (some ⟨b_19, 0, none⟩))) rfl) ?_
      refine WL.q (Wn.no rfl) rfl rfl (R.move (v := (vi 0)) rfl) ?_
      refine WL.call (al := [(vi 0)]) Try.call11 rfl rfl (c_num15 0 (by omega) _ ) rfl ?_
      rintro _ w_57 ⟨rfl, hc_56⟩
      have h_58 := h_24.same hc_56
      refine WL.q (Wn.no rfl) rfl rfl (R.bin (v := (.bool true)) rfl rfl (bi_eql (r := true) (by decide))) ?_
      refine WL.q (Wn.no rfl) rfl rfl (R.move (v := (.bool true)) rfl) ?_
      refine WL.want rfl rfl ?_
      refine WL.q (Wn.no rfl) rfl rfl (R.move (v := (.pointer (some ⟨b_5, 0, none⟩))) rfl) ?_
      refine WL.want rfl rfl ?_
      refine WL.q (Wn.no rfl) rfl rfl (R.neNilP rfl rfl Try.underlying34) ?_
      refine WL.q (Wn.no rfl) rfl rfl (R.pickT (v := (.bool true)) rfl rfl) ?_
      refine WL.q (Wn.no rfl) rfl rfl (R.move (v := (.bool true)) rfl) ?_
      refine WL.want rfl rfl ?_
      refine WL.q (Wn.no rfl) rfl rfl (R.move (v := (.pointer (some ⟨b_11, 0, none⟩))) rfl) ?_
      refine WL.want rfl rfl ?_
      refine WL.q (Wn.no rfl) rfl rfl (R.neNilP rfl rfl Try.underlying35) ?_
      refine WL.q (Wn.no rfl) rfl rfl (R.pickT (v := (.bool true)) rfl rfl) ?_
      refine WL.q (Wn.no rfl) rfl rfl (R.assign (v := (.pointer (some ⟨b_5, 0, none⟩))) rfl) ?_
      refine WL.q (Wn.no rfl) rfl rfl (R.assign (v := (.pointer (some ⟨b_11, 0, none⟩))) rfl) ?_
      refine WL.q (Wn.no rfl) rfl rfl (R.assign (v := (.pointer (some ⟨b_16, 0, none⟩))) rfl) ?_
      refine WL.q (Wn.no rfl) rfl rfl (R.assign (v := (.pointer (some ⟨b_19, 0, none⟩))) rfl) ?_
      refine WL.q (Wn.no rfl) rfl rfl (R.assign (v := (.bool true)) rfl) ?_
      refine WL.nil ?_
      refine thn_n ?_
      refine WP.ret ?_
      refine ret_of Try.results8 (RV.tmp (v := (.pointer (some ⟨b_5, 0, none⟩))) rfl (RV.tmp (v := (.pointer (some ⟨b_11, 0, none⟩))) rfl (RV.tmp (v := (.pointer (some ⟨b_16, 0, none⟩))) rfl (RV.tmp (v := (.pointer (some ⟨b_19, 0, none⟩))) rfl (RV.tmp (v := (.bool true)) rfl RV.nil))))) ?_
      have h_59 := h_58.up (Pick.t (Pick.t (Pick.t (Pick.t (Pick.t (Pick.t (Pick.t (Pick.t (Pick.t (Pick.t (Pick.t Pick.h)))))))))))
      have h_60 := h_59.drop rfl
      have h_61 := h_60.up (Pick.t (Pick.t (Pick.t (Pick.t (Pick.t (Pick.t (Pick.t (Pick.t (Pick.t (Pick.t (Pick.t Pick.h)))))))))))
      have h_62 := h_61.up (Pick.t (Pick.t (Pick.t (Pick.t (Pick.t (Pick.t (Pick.t (Pick.t (Pick.t (Pick.t (Pick.t Pick.h)))))))))))
      have h_63 := h_62.up (Pick.t (Pick.t (Pick.t Pick.h)))
      have h_64 := h_63.up (Pick.t (Pick.t (Pick.t Pick.h)))
      have h_65 := h_64.up (Pick.t (Pick.t (Pick.t (Pick.t (Pick.t (Pick.t Pick.h))))))
      have h_66 := h_65.up (Pick.t (Pick.t (Pick.t (Pick.t (Pick.t (Pick.t Pick.h))))))
      have h_67 := h_66.up (Pick.t (Pick.t (Pick.t (Pick.t (Pick.t (Pick.t Pick.h))))))
      have h_68 := h_67.up (Pick.t (Pick.t (Pick.t (Pick.t (Pick.t (Pick.t (Pick.t (Pick.t (Pick.t (Pick.t (Pick.t Pick.h)))))))))))
      have h_69 := h_68.up (Pick.t (Pick.t (Pick.t (Pick.t (Pick.t (Pick.t (Pick.t (Pick.t (Pick.t (Pick.t (Pick.t Pick.h)))))))))))
      have h_70 := h_69.up (Pick.t (Pick.t (Pick.t (Pick.t (Pick.t (Pick.t (Pick.t (Pick.t (Pick.t (Pick.t (Pick.t Pick.h)))))))))))
      have h_71 := h_70.up (Pick.t (Pick.t (Pick.t (Pick.t (Pick.t (Pick.t (Pick.t (Pick.t (Pick.t (Pick.t (Pick.t Pick.h)))))))))))
      have h_72 := h_71.up (Pick.t (Pick.t (Pick.t (Pick.t (Pick.t (Pick.t (Pick.t (Pick.t (Pick.t (Pick.t (Pick.t Pick.h)))))))))))
      have hgm : g = min fn gn := by omega
      subst hgm
      exact ⟨_, _, _, _, _, _, _, _, _, rfl, h_72⟩
  · have p_73 := of_decide_eq_false c_27
    refine WL.skip rfl (congrArg Value.bool c_27) rfl ?_
    refine WL.skip rfl (congrArg Value.bool c_27) rfl ?_
    refine WL.skip rfl (congrArg Value.bool c_27) rfl ?_
    refine WL.skip rfl (congrArg Value.bool c_27) rfl ?_
    refine WL.q (Wn.no rfl) rfl rfl (R.pickF (v := (.bool false)) (congrArg Value.bool c_27) rfl) ?_
    refine WL.nil ?_
    refine thn_n ?_
    refine WP.condF rfl ?_
    refine WP.exit ?_
    refine thn_x ?_
    refine thn_x ?_
    refine inb_hit ?_
    refine thn_n ?_
    refine WP.seq ?_
    refine WP.reg ?_
    refine WL.q (Wn.no rfl) rfl rfl (R.move (v := (.pointer (some ⟨b_5, 0, none⟩))) rfl) ?_
    refine WL.q (Wn.no rfl) rfl rfl (R.move (v := (.pointer (some ⟨b_11, 0, none⟩))) rfl) ?_
    refine WL.q (Wn.no rfl) rfl rfl (R.move (v := (.pointer (some ⟨b_16, 0, none⟩))) rfl) ?_
    refine WL.q (Wn.no rfl) rfl rfl (R.move (v := (.pointer (some ⟨b_19, 0, none⟩))) rfl) ?_
    refine WL.q (Wn.no rfl) rfl rfl (R.move (v := (vi 0)) rfl) ?_
    refine WL.call (al := [(vi 0)]) Try.call11 rfl rfl (c_num15 0 (by omega) _ ) rfl ?_
    rintro _ w_75 ⟨rfl, hc_74⟩
    have h_76 := h_24.same hc_74
    refine WL.q (Wn.no rfl) rfl rfl (R.bin (v := (.bool true)) rfl rfl (bi_eql (r := true) (by decide))) ?_
    refine WL.q (Wn.no rfl) rfl rfl (R.move (v := (.bool true)) rfl) ?_
    refine WL.want rfl rfl ?_
    refine WL.q (Wn.no rfl) rfl rfl (R.move (v := (.pointer (some ⟨b_5, 0, none⟩))) rfl) ?_
    refine WL.want rfl rfl ?_
    refine WL.q (Wn.no rfl) rfl rfl (R.neNilP rfl rfl Try.underlying34) ?_
    refine WL.q (Wn.no rfl) rfl rfl (R.pickT (v := (.bool true)) rfl rfl) ?_
    refine WL.q (Wn.no rfl) rfl rfl (R.move (v := (.bool true)) rfl) ?_
    refine WL.want rfl rfl ?_
    refine WL.q (Wn.no rfl) rfl rfl (R.move (v := (.pointer (some ⟨b_11, 0, none⟩))) rfl) ?_
    refine WL.want rfl rfl ?_
    refine WL.q (Wn.no rfl) rfl rfl (R.neNilP rfl rfl Try.underlying35) ?_
    refine WL.q (Wn.no rfl) rfl rfl (R.pickT (v := (.bool true)) rfl rfl) ?_
    refine WL.q (Wn.no rfl) rfl rfl (R.assign (v := (.pointer (some ⟨b_5, 0, none⟩))) rfl) ?_
    refine WL.q (Wn.no rfl) rfl rfl (R.assign (v := (.pointer (some ⟨b_11, 0, none⟩))) rfl) ?_
    refine WL.q (Wn.no rfl) rfl rfl (R.assign (v := (.pointer (some ⟨b_16, 0, none⟩))) rfl) ?_
    refine WL.q (Wn.no rfl) rfl rfl (R.assign (v := (.pointer (some ⟨b_19, 0, none⟩))) rfl) ?_
    refine WL.q (Wn.no rfl) rfl rfl (R.assign (v := (.bool true)) rfl) ?_
    refine WL.nil ?_
    refine thn_n ?_
    refine WP.ret ?_
    refine ret_of Try.results8 (RV.tmp (v := (.pointer (some ⟨b_5, 0, none⟩))) rfl (RV.tmp (v := (.pointer (some ⟨b_11, 0, none⟩))) rfl (RV.tmp (v := (.pointer (some ⟨b_16, 0, none⟩))) rfl (RV.tmp (v := (.pointer (some ⟨b_19, 0, none⟩))) rfl (RV.tmp (v := (.bool true)) rfl RV.nil))))) ?_
    have h_77 := h_76.up (Pick.t (Pick.t (Pick.t (Pick.t (Pick.t (Pick.t (Pick.t (Pick.t (Pick.t (Pick.t (Pick.t Pick.h)))))))))))
    have h_78 := h_77.drop rfl
    have h_79 := h_78.up (Pick.t (Pick.t (Pick.t (Pick.t (Pick.t (Pick.t (Pick.t (Pick.t (Pick.t (Pick.t (Pick.t Pick.h)))))))))))
    have h_80 := h_79.up (Pick.t (Pick.t (Pick.t (Pick.t (Pick.t (Pick.t (Pick.t (Pick.t (Pick.t (Pick.t (Pick.t Pick.h)))))))))))
    have h_81 := h_80.up (Pick.t (Pick.t (Pick.t Pick.h)))
    have h_82 := h_81.up (Pick.t (Pick.t (Pick.t Pick.h)))
    have h_83 := h_82.up (Pick.t (Pick.t (Pick.t (Pick.t (Pick.t (Pick.t Pick.h))))))
    have h_84 := h_83.up (Pick.t (Pick.t (Pick.t (Pick.t (Pick.t (Pick.t Pick.h))))))
    have h_85 := h_84.up (Pick.t (Pick.t (Pick.t (Pick.t (Pick.t (Pick.t Pick.h))))))
    have h_86 := h_85.up (Pick.t (Pick.t (Pick.t (Pick.t (Pick.t (Pick.t (Pick.t (Pick.t (Pick.t (Pick.t (Pick.t Pick.h)))))))))))
    have h_87 := h_86.up (Pick.t (Pick.t (Pick.t (Pick.t (Pick.t (Pick.t (Pick.t (Pick.t (Pick.t (Pick.t (Pick.t Pick.h)))))))))))
    have h_88 := h_87.up (Pick.t (Pick.t (Pick.t (Pick.t (Pick.t (Pick.t (Pick.t (Pick.t (Pick.t (Pick.t (Pick.t Pick.h)))))))))))
    have h_89 := h_88.up (Pick.t (Pick.t (Pick.t (Pick.t (Pick.t (Pick.t (Pick.t (Pick.t (Pick.t (Pick.t (Pick.t Pick.h)))))))))))
    have h_90 := h_89.up (Pick.t (Pick.t (Pick.t (Pick.t (Pick.t (Pick.t (Pick.t (Pick.t (Pick.t (Pick.t (Pick.t Pick.h)))))))))))
    have hgm : g = min fn gn := by omega
    subst hgm
    exact ⟨_, _, _, _, _, _, _, _, _, rfl, h_90⟩
end Go.Proofs.Ytbhllplbbkmndaa

namespace Go.Proofs.Ytbhllplbbkmndaa
open Go.Proofs.Try
open Go.Vc Go.Orc Go.Sh Go.RowKit
set_option maxRecDepth 20000

theorem c_UpT {w00 : World} {L : List Ent} (id : Bool) (ob mp : Nat) (ms df : List UInt8) (hms : ms.length = 32) (da : Option Addr) (dn dc u : Nat) (hdf : df.length = 32 * dn) (la : Option Addr) (lc : Nat) (lx : List Value) (lg : Lg) (hu : u ≤ 500000) (hlg : lg.length ≤ 500000) (bm : Nat) (ma : Option Addr) (mn : Nat) (hm : mn ≤ 100) (hm1 : 1 ≤ mn) (p : Nat) (hw : p + 8192 ≤ 128 * mn) (hp : p % 128 = 0) (l : List UInt8) (hl : l.length = 128 * mn) (pg : Nat) (h : pg < 128) (lf : List UInt8) (hlf : lf.length = 32) (hwn : wnB mn (UInt64.ofNat p) = true) (w : World) (h_0 : HP w00 w (Ent.blk ob .nw 82 [(1, [(.bool id)]), (32, ms.map vu8), (1, [(.slice da dn dc)]), (1, [(vi ((u : Nat) : Int))]), (1, [(.map (some mp))]), (1, [(.slice la lg.length lc)])] :: Ent.row la lg.length lc 114 67 lx :: Ent.obj mp .nw (.map (mArr lg) lg.length) :: Ent.pin (sblks lx) (fun w => Lgs w lx lg) :: Ent.view da (df.map vu8) :: Ent.blk bm .nw 84 [(1, [(.slice ma mn mn)])] :: Ent.row ma mn mn 65 128 (l.map vu8) :: L)) :
  Cs Try.prog 19 [(.pointer (some ⟨ob, 0, none⟩)), (.pointer (some ⟨bm, 0, none⟩)), (vu64 (UInt64.ofNat p)), (vi ((pg : Nat) : Int)), (.agg ⟨lf.map vu8⟩)].toArray w (fun v w1 => ∃ la' lc' lx', v = (.tuple [(.agg ⟨((upS id df dn l p pg u lg lf 7).2.2).map vu8⟩), (vi 0)].toArray) ∧ HP w00 w1 (Ent.blk ob .nw 82 [(1, [(.bool id)]), (32, ms.map vu8), (1, [(.slice da dn dc)]), (1, [(vi (((upS id df dn l p pg u lg lf 7).1 : Nat) : Int))]), (1, [(.map (some mp))]), (1, [(.slice la' ((upS id df dn l p pg u lg lf 7).2.1.length) lc')])] :: Ent.row la' ((upS id df dn l p pg u lg lf 7).2.1.length) lc' 114 67 lx' :: Ent.obj mp .nw (.map (mArr ((upS id df dn l p pg u lg lf 7).2.1)) ((upS id df dn l p pg u lg lf 7).2.1.length)) :: Ent.pin (sblks lx') (fun w => Lgs w lx' ((upS id df dn l p pg u lg lf 7).2.1)) :: Ent.view da (df.map vu8) :: Ent.blk bm .nw 84 [(1, [(.slice ma mn mn)])] :: Ent.row ma mn mn 65 128 (l.map vu8) :: L)) := by
 refine Cs.of (n := 28) (args := [(pO ob 0), (pO bm 0), (vu64 (UInt64.ofNat p)), (vn pg), (.agg ⟨lf.map vu8⟩)]) Try.func19 rfl rfl rfl ?_
 refine WP.seq (WP.reg ?_)
 refine WL.box (segs := [(32, lf.map vu8)]) h_0 rfl rfl (sC (s8 hlf) sN) rfl (fun b_1 w_2 h_3 => ?_)
 refine WL.alloc (segs := [(32, (zB 32).map vu8)]) h_3 (zv typeInfo23 rfl) rfl (sC (s8 lr) sN) rfl (fun b_4 w_5 h_6 => ?_)
 refine qA (vi 0) rfl rfl ?_
 refine WL.nil (thn_n (WP.seq (WP.seq (WP.reg ?_))))
 refine qM (pO ob 0) rfl rfl (qM (pO bm 0) rfl rfl (qM (vu64 (UInt64.ofNat p)) rfl rfl (qM (vn pg) rfl rfl ?_)))
 refine WL.call Try.call24 rfl rfl (c_askG_t id ob mp ms hms da dn dc u la lg.length lc bm ma mn (by omega) (by omega) pg (by omega) (UInt64.ofNat p) hwn _ (h_6.argR M2) (h_6.argR M7)) rfl ?_
 rintro _ w_8 ⟨rfl, hc_7⟩
 have h_9 := h_6.same hc_7
 refine qA (vi 0) rfl rfl ?_
 refine WL.nil (thn_n (WP.seq (WP.reg ?_)))
 refine qM (vi 0) rfl rfl (qV rfl (R.bin rfl rfl (bi_neq (r := false) (by decide))) ?_)
 refine WL.nil (thn_n ?_)
 refine WP.condF rfl ?_
 refine WP.skip (thn_n (WP.seq (WP.reg ?_)))
 refine qM (pO ob 0) rfl rfl (qM (pO bm 0) rfl rfl (qM (vu64 (UInt64.ofNat p)) rfl rfl (qM (vn pg) rfl rfl (qV rfl (R.loadA [] [(32, lf.map vu8)] [] (cs := lf.map vu8) rfl isAgg23 sizeOf23 (h_9.ok _ M1) rfl rfl rfl rfl) ?_))))
 have h_21 := (((((((((((h_9.up J6).up J6).up J6).up J6).up J6).up J8).up J8).up J6).up J6).up J6).up J6).up J6
 have h32_w_25 := Lgs.ok32 (h_21.ok _ M3).1
 refine WL.call Try.call33 rfl rfl (c_up0 id ob mp ms df hms da dn dc u hdf la lc lx lg hu hlg bm ma mn (by omega) (by omega) p (by omega) (by omega) l hl pg (by omega) lf hlf _ h_21) rfl ?_
 rintro _ w_25 ⟨la_22, lc_23, lx_24, rfl, h_26⟩
 refine WL.storeA [] [(32, (zB 32).map vu8)] [(32, ((upS id df dn l p pg u lg lf 7).2.2).map vu8)] [] h_26 rfl rfl sizeOf23 Y7 (by decide) rfl rfl rfl rfl rfl rfl (sC (s8 (upS_len hdf h32_w_25 hlf 7)) sN) (fun w_27 h_28 => ?_)
 refine qA (vi 0) rfl rfl ?_
 refine WL.nil (thn_n (WP.ret ?_))
 refine ret_of results19 (RV.cell rfl (h_28.loadA (cs := ((upS id df dn l p pg u lg lf 7).2.2).map vu8) isAgg23 sizeOf23 M7 rfl rfl) (RV.tmp (v := (vi 0)) rfl RV.nil)) ?_
 have h_39 := ((((((((((h_28.up J7).drop rfl).up J7).drop rfl).up J6).up J6).up J6).up J6).up J6).up J6).up J6
 exact ⟨_, _, _, rfl, h_39⟩

theorem c_SetT {w00 : World} {L : List Ent} (id : Bool) (ob mp : Nat) (ms df : List UInt8) (hms : ms.length = 32) (da : Option Addr) (dn dc u : Nat) (hdf : df.length = 32 * dn) (la : Option Addr) (lc : Nat) (lx : List Value) (lg : Lg) (hu : u ≤ 500000) (hlg : lg.length ≤ 500000) (bm : Nat) (ma : Option Addr) (mn : Nat) (hm : mn ≤ 100) (hm1 : 1 ≤ mn) (p : Nat) (hw : p + 8192 ≤ 128 * mn) (hp : p % 128 = 0) (l : List UInt8) (hl : l.length = 128 * mn) (pg : Nat) (h : pg < 128) (lf : List UInt8) (hlf : lf.length = 32) (hwn : wnB mn (UInt64.ofNat p) = true) (w : World) (h_0 : HP w00 w (Ent.blk ob .nw 82 [(1, [(.bool id)]), (32, ms.map vu8), (1, [(.slice da dn dc)]), (1, [(vi ((u : Nat) : Int))]), (1, [(.map (some mp))]), (1, [(.slice la lg.length lc)])] :: Ent.row la lg.length lc 114 67 lx :: Ent.obj mp .nw (.map (mArr lg) lg.length) :: Ent.pin (sblks lx) (fun w => Lgs w lx lg) :: Ent.view da (df.map vu8) :: Ent.blk bm .nw 84 [(1, [(.slice ma mn mn)])] :: Ent.row ma mn mn 65 128 (l.map vu8) :: L)) :
  Cs Try.prog 12 [(.pointer (some ⟨ob, 0, none⟩)), (.pointer (some ⟨bm, 0, none⟩)), (vu64 (UInt64.ofNat p)), (vi ((pg : Nat) : Int)), (.agg ⟨lf.map vu8⟩)].toArray w (fun v w1 => ∃ la' lc' lx', v = (.tuple [(.agg ⟨((upS id df dn l p pg u lg lf 7).2.2).map vu8⟩), (vi 0)].toArray) ∧ HP w00 w1 (Ent.blk ob .nw 82 [(1, [(.bool id)]), (32, ms.map vu8), (1, [(.slice da dn dc)]), (1, [(vi (((upS id df dn l p pg u lg lf 7).1 : Nat) : Int))]), (1, [(.map (some mp))]), (1, [(.slice la' ((upS id df dn l p pg u lg lf 7).2.1.length) lc')])] :: Ent.row la' ((upS id df dn l p pg u lg lf 7).2.1.length) lc' 114 67 lx' :: Ent.obj mp .nw (.map (mArr ((upS id df dn l p pg u lg lf 7).2.1)) ((upS id df dn l p pg u lg lf 7).2.1.length)) :: Ent.pin (sblks lx') (fun w => Lgs w lx' ((upS id df dn l p pg u lg lf 7).2.1)) :: Ent.view da (df.map vu8) :: Ent.blk bm .nw 84 [(1, [(.slice ma mn mn)])] :: Ent.row ma mn mn 65 128 ((upM l p pg (upD id df dn l p pg u lg lf) 7).map vu8) :: L)) := by
 refine Cs.of (n := 31) (args := [(pO ob 0), (pO bm 0), (vu64 (UInt64.ofNat p)), (vn pg), (.agg ⟨lf.map vu8⟩)]) Try.func12 rfl rfl rfl ?_
 refine WP.seq (WP.reg ?_)
 refine WL.box (segs := [(1, [(pO bm 0)])]) h_0 rfl rfl (sC sV sN) rfl (fun b_1 w_2 h_3 => ?_)
 refine WL.box (segs := [(1, [(vu64 (UInt64.ofNat p))])]) h_3 rfl rfl (sC sV sN) rfl (fun b_4 w_5 h_6 => ?_)
 refine WL.box (segs := [(32, lf.map vu8)]) h_6 rfl rfl (sC (s8 hlf) sN) rfl (fun b_7 w_8 h_9 => ?_)
 refine WL.alloc (segs := [(32, (zB 32).map vu8)]) h_9 (zv typeInfo23 rfl) rfl (sC (s8 lr) sN) rfl (fun b_10 w_11 h_12 => ?_)
 refine qA (vi 0) rfl rfl ?_
 refine WL.nil (thn_n (WP.seq (WP.seq (WP.reg ?_))))
 refine qM (pO ob 0) rfl rfl (qV rfl (R.load1 rfl isAgg35 (h_12.ok _ M3) Sg.h) (qV rfl (R.load1 rfl isAgg26 (h_12.ok _ M2) Sg.h) (qM (vn pg) rfl rfl ?_)))
 refine WL.call Try.call24 rfl rfl (c_askG_t id ob mp ms hms da dn dc u la lg.length lc bm ma mn (by omega) (by omega) pg (by omega) (UInt64.ofNat p) hwn _ (h_12.argR M4) (h_12.argR M9)) rfl ?_
 rintro _ w_14 ⟨rfl, hc_13⟩
 have h_15 := h_12.same hc_13
 refine qA (vi 0) rfl rfl ?_
 refine WL.nil (thn_n (WP.seq (WP.reg ?_)))
 refine qM (vi 0) rfl rfl (qV rfl (R.bin rfl rfl (bi_neq (r := false) (by decide))) ?_)
 refine WL.nil (thn_n ?_)
 refine WP.condF rfl ?_
 refine WP.skip (thn_n (WP.seq (WP.reg ?_)))
 refine qV rfl (R.makeFuncL (fi := []) (ca := [(pO b_1 0), (pO b_4 0)]) rfl rfl) (qA (Value.func (Fn.func 32) [].toArray [(Value.pointer (some ⟨b_1, 0, none⟩)), (Value.pointer (some ⟨b_4, 0, none⟩))].toArray) rfl rfl ?_)
 refine WL.nil (thn_n (WP.seq (WP.reg ?_)))
 refine qM (pO ob 0) rfl rfl (qV rfl (R.load1 rfl isAgg35 (h_15.ok _ M3) Sg.h) (qV rfl (R.load1 rfl isAgg26 (h_15.ok _ M2) Sg.h) (qM (vn pg) rfl rfl (qV rfl (R.loadA [] [(32, lf.map vu8)] [] (cs := lf.map vu8) rfl isAgg23 sizeOf23 (h_15.ok _ M1) rfl rfl rfl rfl) (qM (Value.func (Fn.func 32) [].toArray [(Value.pointer (some ⟨b_1, 0, none⟩)), (Value.pointer (some ⟨b_4, 0, none⟩))].toArray) rfl rfl ?_)))))
 have h_29 := (((((((((((((h_15.up J8).up J8).up J8).up J8).up J8).up J7).up J8).up J10).up J10).up J8).up J8).up J8).up J8).up J8
 have h32_w_33 := Lgs.ok32 (h_29.ok _ M3).1
 refine WL.call Try.call33 rfl rfl (c_upw id ob mp ms df hms da dn dc u hdf la lc lx lg hu hlg bm ma mn (by omega) (by omega) p (by omega) (by omega) l hl pg (by omega) lf hlf b_1 b_4 _ h_29) rfl ?_
 rintro _ w_33 ⟨la_30, lc_31, lx_32, rfl, h_34⟩
 refine WL.storeA [] [(32, (zB 32).map vu8)] [(32, ((upS id df dn l p pg u lg lf 7).2.2).map vu8)] [] h_34 rfl rfl sizeOf23 Y9 (by decide) rfl rfl rfl rfl rfl rfl (sC (s8 (upS_len hdf h32_w_33 hlf 7)) sN) (fun w_35 h_36 => ?_)
 refine qA (vi 0) rfl rfl ?_
 refine WL.nil (thn_n (WP.ret ?_))
 refine ret_of results12 (RV.cell rfl (h_36.loadA (cs := ((upS id df dn l p pg u lg lf 7).2.2).map vu8) isAgg23 sizeOf23 M9 rfl rfl) (RV.tmp (v := (vi 0)) rfl RV.nil)) ?_
 have h_51 := ((((((((((((((h_36.up J7).drop rfl).up J7).drop rfl).up J7).drop rfl).up J7).drop rfl).up J6).up J6).up J6).up J6).up J6).up J6).up J6
 exact ⟨_, _, _, rfl, h_51⟩

theorem c_ChkT {w00 : World} {L : List Ent} (id : Bool) (ob mp : Nat) (ms df : List UInt8) (hms : ms.length = 32) (da : Option Addr) (dn dc u : Nat) (hdf : df.length = 32 * dn) (la : Option Addr) (lc : Nat) (lx : List Value) (lg : Lg) (hu : u ≤ 500000) (hlg : lg.length ≤ 500000) (bm : Nat) (ma : Option Addr) (mn : Nat) (hm : mn ≤ 100) (hm1 : 1 ≤ mn) (p : Nat) (hw : p + 8192 ≤ 128 * mn) (hp : p % 128 = 0) (l : List UInt8) (hl : l.length = 128 * mn) (pg : Nat) (h : pg < 128) (lf : List UInt8) (hlf : lf.length = 32) (hwn : wnB mn (UInt64.ofNat p) = true) (rt : List UInt8) (hrt : rt.length = 32) (w : World) (h_0 : HP w00 w (Ent.blk ob .nw 82 [(1, [(.bool id)]), (32, ms.map vu8), (1, [(.slice da dn dc)]), (1, [(vi ((u : Nat) : Int))]), (1, [(.map (some mp))]), (1, [(.slice la lg.length lc)])] :: Ent.row la lg.length lc 114 67 lx :: Ent.obj mp .nw (.map (mArr lg) lg.length) :: Ent.pin (sblks lx) (fun w => Lgs w lx lg) :: Ent.view da (df.map vu8) :: Ent.blk bm .nw 84 [(1, [(.slice ma mn mn)])] :: Ent.row ma mn mn 65 128 (l.map vu8) :: L)) :
  Cs Try.prog 13 [(.pointer (some ⟨ob, 0, none⟩)), (.pointer (some ⟨bm, 0, none⟩)), (vu64 (UInt64.ofNat p)), (.agg ⟨rt.map vu8⟩), (vi ((pg : Nat) : Int)), (.agg ⟨lf.map vu8⟩)].toArray w (fun v w1 => ∃ la' lc' lx', v = (.tuple [(.bool (decide ((upS id df dn l p pg u lg lf 7).2.2 = rt))), (vi 0)].toArray) ∧ HP w00 w1 (Ent.blk ob .nw 82 [(1, [(.bool id)]), (32, ms.map vu8), (1, [(.slice da dn dc)]), (1, [(vi (((upS id df dn l p pg u lg lf 7).1 : Nat) : Int))]), (1, [(.map (some mp))]), (1, [(.slice la' ((upS id df dn l p pg u lg lf 7).2.1.length) lc')])] :: Ent.row la' ((upS id df dn l p pg u lg lf 7).2.1.length) lc' 114 67 lx' :: Ent.obj mp .nw (.map (mArr ((upS id df dn l p pg u lg lf 7).2.1)) ((upS id df dn l p pg u lg lf 7).2.1.length)) :: Ent.pin (sblks lx') (fun w => Lgs w lx' ((upS id df dn l p pg u lg lf 7).2.1)) :: Ent.view da (df.map vu8) :: Ent.blk bm .nw 84 [(1, [(.slice ma mn mn)])] :: Ent.row ma mn mn 65 128 (l.map vu8) :: L)) := by
 refine Cs.of (n := 33) (args := [(pO ob 0), (pO bm 0), (vu64 (UInt64.ofNat p)), (.agg ⟨rt.map vu8⟩), (vn pg), (.agg ⟨lf.map vu8⟩)]) Try.func13 rfl rfl rfl ?_
 refine WP.seq (WP.reg ?_)
 refine WL.box (segs := [(32, rt.map vu8)]) h_0 rfl rfl (sC (s8 hrt) sN) rfl (fun b_1 w_2 h_3 => ?_)
 refine WL.box (segs := [(32, lf.map vu8)]) h_3 rfl rfl (sC (s8 hlf) sN) rfl (fun b_4 w_5 h_6 => ?_)
 refine qA (.bool false) rfl rfl (qA (vi 0) rfl rfl ?_)
 refine WL.nil (thn_n (WP.seq (WP.reg ?_)))
 refine qM (pO ob 0) rfl rfl (qM (pO bm 0) rfl rfl (qM (vu64 (UInt64.ofNat p)) rfl rfl (qM (vn pg) rfl rfl (qV rfl (R.loadA [] [(32, lf.map vu8)] [] (cs := lf.map vu8) rfl isAgg23 sizeOf23 (h_6.ok _ M0) rfl rfl rfl rfl) ?_))))
 have h_18 := (((((((((((h_6.up J6).up J6).up J6).up J6).up J6).up J8).up J8).up J6).up J6).up J6).up J6).up J6
 have h32_xw_19 := Lgs.ok32 (h_18.ok _ M3).1
 refine WL.call Try.call19 rfl rfl (c_UpT id ob mp ms df hms da dn dc u hdf la lc lx lg hu hlg bm ma mn (by omega) (by omega) p (by omega) (by omega) l hl pg (by omega) lf hlf hwn _ h_18) rfl ?_
 rintro _ w_23 ⟨la_20, lc_21, lx_22, rfl, h_24⟩
 refine qM (.tuple [(.agg ⟨((upS id df dn l p pg u lg lf 7).2.2).map vu8⟩), (vi 0)].toArray) rfl rfl (qV rfl (R.extract rfl rfl) (qV rfl (R.extract rfl rfl) ?_))
 refine WL.alloc (segs := [(32, (zB 32).map vu8)]) h_24 (zv typeInfo23 rfl) rfl (sC (s8 lr) sN) rfl (fun b_25 w_26 h_27 => ?_)
 refine WL.storeA [] [(32, (zB 32).map vu8)] [(32, ((upS id df dn l p pg u lg lf 7).2.2).map vu8)] [] h_27 rfl rfl sizeOf23 At.h (by decide) rfl rfl rfl rfl rfl rfl (sC (s8 (upS_len hdf h32_xw_19 hlf 7)) sN) (fun w_28 h_29 => ?_)
 refine qA (vi 0) rfl rfl ?_
 refine WL.nil (thn_n (WP.seq (WP.reg ?_)))
 refine qM (vi 0) rfl rfl (qV rfl (R.bin rfl rfl (bi_eql (r := true) (by decide))) (qM (.bool true) rfl rfl ?_))
 refine WL.want rfl rfl ?_
 refine qV rfl (R.loadA [] [(32, ((upS id df dn l p pg u lg lf 7).2.2).map vu8)] [] (cs := ((upS id df dn l p pg u lg lf 7).2.2).map vu8) rfl isAgg23 sizeOf23 (h_29.ok _ M0) rfl rfl rfl rfl) ?_
 refine WL.want rfl rfl ?_
 refine qV rfl (R.loadA [] [(32, rt.map vu8)] [] (cs := rt.map vu8) rfl isAgg23 sizeOf23 (h_29.ok _ M9) rfl rfl rfl rfl) ?_
 refine WL.want rfl rfl ?_
 refine qV rfl (R.eqA (xs := ((upS id df dn l p pg u lg lf 7).2.2).map vu8) (ys := rt.map vu8) (r := decide ((upS id df dn l p pg u lg lf 7).2.2 = rt)) rfl rfl eqGuardType23 kt23 (by decide) ag23 (Typ.u8s underlying23 ce23 underlying5 ce5 (upS_len hdf h32_xw_19 hlf 7)) (Typ.u8s underlying23 ce23 underlying5 ce5 hrt) (map_inj_u8.trans (decT _))) (qV rfl (R.pickT (v := (.bool (decide ((upS id df dn l p pg u lg lf 7).2.2 = rt)))) rfl rfl) (qM (vi 0) rfl rfl (qA (.bool (decide ((upS id df dn l p pg u lg lf 7).2.2 = rt))) rfl rfl (qA (vi 0) rfl rfl ?_))))
 refine WL.nil (thn_n (WP.ret ?_))
 refine ret_of results13 (RV.tmp (v := (.bool (decide ((upS id df dn l p pg u lg lf 7).2.2 = rt)))) rfl (RV.tmp (v := (vi 0)) rfl RV.nil)) ?_
 have h_41 := (((((((((((h_29.drop rfl).up J7).drop rfl).up J7).drop rfl).up J6).up J6).up J6).up J6).up J6).up J6).up J6
 exact ⟨_, _, _, rfl, h_41⟩

end Go.Proofs.Ytbhllplbbkmndaa

namespace Go.Orc
open Go.Vc Go.RowKit
def mid (l : List UInt8) (a c : Nat) (C : List UInt8) : List UInt8 := l.take a ++ (C ++ l.drop c)
section
variable {l C d : List UInt8} {a c x N : Nat}
theorem mid_len (hl : l.length = N) (h : a + C.length = c) (hc : c ≤ N) : (mid l a c C).length = N := by
  simp only [mid, List.length_append, List.length_take, List.length_drop, hl]; omega
theorem mid_nil : mid l a a [] = l := by simp [mid]
theorem mid_app {c' : Nat} (hl : l.length = N) (h : a + C.length = c) (hx : x = c) (hc : c + d.length = c') (hN : c' ≤ N) : ovr (mid l a c C) x d = mid l a c' (C ++ d) := by
  subst hx hc
  have e1 : (l.take a ++ C).length = x := by rw [List.length_append, List.length_take, hl]; omega
  have e2 : mid l a x C = (l.take a ++ C) ++ l.drop x := by rw [mid, List.append_assoc]
  rw [ovr, e2, List.take_append_of_le_length (by omega), List.take_of_length_le (by omega), List.drop_append, List.drop_of_length_le (by omega), List.nil_append, e1, List.drop_drop, mid]
  simp only [List.append_assoc]
  congr 4
  omega
theorem mid_pre {x' : Nat} (hl : l.length = N) (h : a + C.length = c) (hc : c ≤ N) (hx : x + d.length = a) (hx' : x = x') : ovr (mid l a c C) x d = mid l x' c (d ++ C) := by
  subst hx'
  have e1 : (l.take a).length = a := by rw [List.length_take, hl]; omega
  rw [ovr, mid, List.take_append_of_le_length (by omega), List.take_take, Nat.min_eq_left (by omega), hx, List.drop_append_of_le_length (by omega), List.drop_of_length_le (by omega), List.nil_append, mid]
  simp only [List.append_assoc]
theorem mid_get {n y : Nat} (hl : l.length = N) (h : a + C.length = c) (hc : c ≤ N) (hy : y = a + x) (hx : x + n ≤ C.length) : ((mid l a c C).drop y).take n = (C.drop x).take n := by
  subst hy
  have e1 : (l.take a).length = a := by rw [List.length_take, hl]; omega
  rw [mid, List.drop_append, List.drop_of_length_le (by omega), List.nil_append, e1, Nat.add_sub_cancel_left, List.drop_append_of_le_length (by omega), List.take_append_of_le_length (by rw [List.length_drop]; omega)]
end
def laB (id : Bool) (df : List UInt8) (dn u : Nat) (lg : Lg) : Nat → Nat × Lg × List UInt8
  | 0 => (u, lg, [])
  | k + 1 => (anU id (laB id df dn u lg k).1 (laB id df dn u lg k).2.1 (1, List.replicate 32 0, 6, leN 8 (UInt64.ofNat k).toNat), anL id df dn (laB id df dn u lg k).1 (laB id df dn u lg k).2.1 (1, List.replicate 32 0, 6, leN 8 (UInt64.ofNat k).toNat), (laB id df dn u lg k).2.2 ++ anD id df dn (laB id df dn u lg k).1 (laB id df dn u lg k).2.1 (1, List.replicate 32 0, 6, leN 8 (UInt64.ofNat k).toNat))
def laQ (t : Nat) (C : List UInt8) : Qn := (1, List.replicate 32 0, 5, [leN 8 (UInt64.ofNat (127 - t)).toNat, (C.drop (32 * (126 - t))).take 32, (C.drop (32 * (127 - t))).take 32].flatten)
def laC (id : Bool) (df : List UInt8) (dn u : Nat) (lg : Lg) : Nat → Nat × Lg × List UInt8
  | 0 => laB id df dn u lg 128
  | t + 1 => (anU id (laC id df dn u lg t).1 (laC id df dn u lg t).2.1 (laQ t (laC id df dn u lg t).2.2), anL id df dn (laC id df dn u lg t).1 (laC id df dn u lg t).2.1 (laQ t (laC id df dn u lg t).2.2), anD id df dn (laC id df dn u lg t).1 (laC id df dn u lg t).2.1 (laQ t (laC id df dn u lg t).2.2) ++ (laC id df dn u lg t).2.2)
section
variable {id : Bool} {df : List UInt8} {dn u : Nat} {lg : Lg}
theorem laB_32 (h : df.length = 32 * dn) (hl : ok32 lg) : ∀ k, ok32 (laB id df dn u lg k).2.1
  | 0 => hl
  | k + 1 => anL_32 h (laB_32 h hl k)
theorem laB_u : ∀ k, (laB id df dn u lg k).1 ≤ u + k
  | 0 => Nat.le_refl _
  | k + 1 => Nat.le_trans (anU_le ..) (Nat.succ_le_succ (laB_u k))
theorem laB_l : ∀ k, (laB id df dn u lg k).2.1.length ≤ lg.length + k
  | 0 => Nat.le_refl _
  | k + 1 => Nat.le_trans (anL_le ..) (Nat.succ_le_succ (laB_l k))
theorem laB_len (h : df.length = 32 * dn) (hl : ok32 lg) : ∀ k, (laB id df dn u lg k).2.2.length = 32 * k
  | 0 => rfl
  | k + 1 => by rw [laB, List.length_append, laB_len h hl k, anD_len h (laB_32 h hl k)]; omega
theorem laC_32 (h : df.length = 32 * dn) (hl : ok32 lg) : ∀ k, ok32 (laC id df dn u lg k).2.1
  | 0 => laB_32 h hl 128
  | k + 1 => anL_32 h (laC_32 h hl k)
theorem laC_u : ∀ k, (laC id df dn u lg k).1 ≤ u + 128 + k
  | 0 => laB_u 128
  | k + 1 => Nat.le_trans (anU_le ..) (Nat.succ_le_succ (laC_u k))
theorem laC_l : ∀ k, (laC id df dn u lg k).2.1.length ≤ lg.length + 128 + k
  | 0 => laB_l 128
  | k + 1 => Nat.le_trans (anL_le ..) (Nat.succ_le_succ (laC_l k))
theorem laC_len (h : df.length = 32 * dn) (hl : ok32 lg) : ∀ k, (laC id df dn u lg k).2.2.length = 32 * (128 + k)
  | 0 => laB_len h hl 128
  | k + 1 => by rw [laC, List.length_append, laC_len h hl k, anD_len h (laC_32 h hl k)]; omega
theorem laC_root (h : df.length = 32 * dn) (hl : ok32 lg) {t : Nat} : (laC id df dn u lg (t + 1)).2.2.take 32 = anD id df dn (laC id df dn u lg t).1 (laC id df dn u lg t).2.1 (laQ t (laC id df dn u lg t).2.2) := by
  have e := anD_len (id := id) (u := (laC id df dn u lg t).1) (q := laQ t (laC id df dn u lg t).2.2) h (laC_32 (id := id) (dn := dn) (u := u) h hl t)
  rw [laC, List.take_append_of_le_length (by omega), List.take_of_length_le (by omega)]
theorem laC_rest (h : df.length = 32 * dn) (hl : ok32 lg) {t : Nat} : (laC id df dn u lg (t + 1)).2.2.drop 32 = (laC id df dn u lg t).2.2 := by
  have e := anD_len (id := id) (u := (laC id df dn u lg t).1) (q := laQ t (laC id df dn u lg t).2.2) h (laC_32 (id := id) (dn := dn) (u := u) h hl t)
  rw [laC, List.drop_append_of_le_length (by omega), List.drop_of_length_le (by omega), List.nil_append]
theorem laC_win (h : df.length = 32 * dn) (hl : ok32 lg) {t x n : Nat} : ((laC id df dn u lg (t + 1)).2.2.drop (32 + x)).take n = ((laC id df dn u lg t).2.2.drop x).take n := by
  rw [← List.drop_drop, laC_rest h hl]
theorem lay_w {z : List UInt8} {i s : Nat} (hs : s = 126) (h : df.length = 32 * dn) (hl : ok32 lg) (hz : z.length = 8192) (h2 : 2 ≤ i) (hi : i < 256) : ((mid z 32 8192 (laC id df dn u lg (s + 1)).2.2).drop (i * 32)).take 32 = ((laC id df dn u lg s).2.2.drop (32 * (i - 2))).take 32 := by
  have e := laC_len (id := id) (u := u) h hl (s + 1)
  rw [mid_get (x := 32 + 32 * (i - 2)) hz (by omega) (Nat.le_refl _) (by omega) (by omega)]
  exact laC_win h hl
theorem lay_s {l C : List UInt8} {p i N : Nat} (hl : l.length = N) (hC : C.length = 8128) (hp : p + 8192 ≤ N) (h2 : 2 ≤ i) (hi : i < 256) : ovr (mid l (p + 64) (p + 32 * i) (C.take (32 * (i - 2)))) (p + 32 * i) ((C.drop (32 * (i - 2))).take 32) = mid l (p + 64) (p + 32 * (i + 1)) (C.take (32 * (i + 1 - 2))) := by
  have e1 : (C.take (32 * (i - 2))).length = 32 * (i - 2) := by rw [List.length_take]; omega
  have e2 : ((C.drop (32 * (i - 2))).take 32).length = 32 := by rw [List.length_take, List.length_drop]; omega
  rw [mid_app (c' := p + 32 * (i + 1)) hl (by omega) rfl (by omega) (by omega), ← List.take_add]
  congr 2
  omega
theorem lay_len {l C : List UInt8} {p i N : Nat} (hl : l.length = N) (hC : C.length = 8128) (hp : p + 8192 ≤ N) (h2 : 2 ≤ i) (hi : i ≤ 256) : (mid l (p + 64) (p + 32 * i) (C.take (32 * (i - 2)))).length = N := by
  have e1 : (C.take (32 * (i - 2))).length = 32 * (i - 2) := by rw [List.length_take]; omega
  exact mid_len hl (by omega) (by omega)
theorem lay_0 {l C : List UInt8} {p : Nat} : l = mid l (p + 64) (p + 32 * 2) (C.take (32 * (2 - 2))) := mid_nil.symm
theorem lay_end {l C : List UInt8} {p : Nat} (hC : C.length = 8128) : mid l (p + 64) (p + 32 * 256) (C.take (32 * (256 - 2))) = mid l (p + 64) (p + 8192) C := by
  rw [List.take_of_length_le (by omega)]
def laM (id : Bool) (df : List UInt8) (dn u : Nat) (lg : Lg) (l : List UInt8) (p t : Nat) : List UInt8 := mid l (p + 32 * (128 - min t 126)) (p + 8192) (laC id df dn u lg (min t 126)).2.2
def laR (id : Bool) (df : List UInt8) (dn u : Nat) (lg : Lg) (t : Nat) : List UInt8 := if t = 127 then (laC id df dn u lg t).2.2.take 32 else List.replicate 32 0
end
end Go.Orc
namespace Go.Vc
open Go.RowKit
theorem viewCut {w : World} {b : Nat} {l : List UInt8} (h : View w (some ⟨b, 0, none⟩) (l.map vu8)) (i k : Nat) : View w (some ⟨b, 0 + i, none⟩) (((l.drop i).take k).map vu8) := by
  have h2 := (h.drop i).take k
  rw [Option.map_some, addr_add] at h2; rw [List.map_take, List.map_drop]; exact h2
theorem cut_blk {b o : Nat} {xs ys : List Value} (h : 0 < xs.length) : ∀ x ∈ (Ent.view (some ⟨b, o, none⟩) ys).blocks, x ∈ (Ent.view (some ⟨b, 0, none⟩) xs).blocks := by
  intro x hx
  cases xs with
  | nil => simp at h
  | cons y r =>
    cases ys with
    | nil => cases hx
    | cons z q => exact hx
end Go.Vc

namespace Go.Proofs.Ytbhllplbbkmndaa
open Go.Proofs.Try
open Go.Vc Go.Orc Go.Sh Go.RowKit
set_option maxRecDepth 20000

theorem c_LayT {w00 : World} {L : List Ent} (id : Bool) (ob mp : Nat) (ms df : List UInt8) (hms : ms.length = 32) (da : Option Addr) (dn dc u : Nat) (hdf : df.length = 32 * dn) (la : Option Addr) (lc : Nat) (lx : List Value) (lg : Lg) (hu : u ≤ 500000) (hlg : lg.length ≤ 500000) (bm : Nat) (ma : Option Addr) (mn : Nat) (hm : mn ≤ 100) (hm1 : 1 ≤ mn) (p : Nat) (hw : p + 8192 ≤ 128 * mn) (hp : p % 128 = 0) (l : List UInt8) (hl : l.length = 128 * mn) (hwn : wnB mn (UInt64.ofNat p) = true) (s6 : Nat) (hs6 : s6 = 126) (w : World) (h_0 : HP w00 w (Ent.blk ob .nw 82 [(1, [(.bool id)]), (32, ms.map vu8), (1, [(.slice da dn dc)]), (1, [(vi ((u : Nat) : Int))]), (1, [(.map (some mp))]), (1, [(.slice la lg.length lc)])] :: Ent.row la lg.length lc 114 67 lx :: Ent.obj mp .nw (.map (mArr lg) lg.length) :: Ent.pin (sblks lx) (fun w => Lgs w lx lg) :: Ent.view da (df.map vu8) :: Ent.blk bm .nw 84 [(1, [(.slice ma mn mn)])] :: Ent.row ma mn mn 65 128 (l.map vu8) :: L)) :
  Cs Try.prog 9 [(.pointer (some ⟨ob, 0, none⟩)), (.pointer (some ⟨bm, 0, none⟩)), (vu64 (UInt64.ofNat p))].toArray w (fun v w1 => ∃ la' lc' lx', v = (.tuple [(.agg ⟨((laC id df dn u lg (s6 + 1)).2.2.take 32).map vu8⟩), (vi 0)].toArray) ∧ HP w00 w1 (Ent.blk ob .nw 82 [(1, [(.bool id)]), (32, ms.map vu8), (1, [(.slice da dn dc)]), (1, [(vi (((laC id df dn u lg (s6 + 1)).1 : Nat) : Int))]), (1, [(.map (some mp))]), (1, [(.slice la' ((laC id df dn u lg (s6 + 1)).2.1.length) lc')])] :: Ent.row la' ((laC id df dn u lg (s6 + 1)).2.1.length) lc' 114 67 lx' :: Ent.obj mp .nw (.map (mArr ((laC id df dn u lg (s6 + 1)).2.1)) ((laC id df dn u lg (s6 + 1)).2.1.length)) :: Ent.pin (sblks lx') (fun w => Lgs w lx' ((laC id df dn u lg (s6 + 1)).2.1)) :: Ent.view da (df.map vu8) :: Ent.blk bm .nw 84 [(1, [(.slice ma mn mn)])] :: Ent.row ma mn mn 65 128 ((mid l (p + 64) (p + 8192) (laC id df dn u lg s6).2.2).map vu8) :: L)) := by
 have h32 : ok32 lg := Lgs.ok32 (h_0.ok _ M3).1
 refine Cs.of (n := 69) (args := [(pO ob 0), (pO bm 0), (vu64 (UInt64.ofNat p))]) Try.func9 rfl rfl rfl ?_
 refine WP.seq (WP.reg ?_)
 refine WL.alloc (segs := [(32, (zB 32).map vu8)]) h_0 (zv typeInfo23 rfl) rfl (sC (s8 lr) sN) rfl (fun b_1 w_2 h_3 => ?_)
 refine qA (vi 0) rfl rfl ?_
 refine WL.nil (thn_n (WP.seq (WP.seq (WP.reg ?_))))
 refine qM (pO ob 0) rfl rfl (qM (pO bm 0) rfl rfl (qM (vu64 (UInt64.ofNat p)) rfl rfl ?_))
 refine WL.call Try.call24 rfl rfl (c_askG_t id ob mp ms hms da dn dc u la lg.length lc bm ma mn (by omega) (by omega) 0 (by omega) (UInt64.ofNat p) hwn _ (h_3.argR M1) (h_3.argR M6)) rfl ?_
 rintro _ w_5 ⟨rfl, hc_4⟩
 have h_6 := h_3.same hc_4
 refine qA (vi 0) rfl rfl ?_
 refine WL.nil (thn_n (WP.seq (WP.reg ?_)))
 refine qM (vi 0) rfl rfl (qV rfl (R.bin rfl rfl (bi_neq (r := false) (by decide))) ?_)
 refine WL.nil (thn_n ?_)
 refine WP.condF rfl ?_
 refine WP.skip (thn_n (WP.seq (WP.reg ?_)))
 refine WL.alloc (segs := [(8192, (zB 8192).map vu8)]) h_6 (zv typeInfo68 rfl) rfl (sC (s8 lr) sN) rfl (fun b_7 w_8 h_9 => ?_)
 refine WL.nil (thn_n (WP.seq (WP.seq ?_)))
 obtain ⟨z0, hz0, hzl⟩ : ∃ z : List UInt8, zB 8192 = z ∧ z.length = 8192 := ⟨_, rfl, List.length_replicate ..⟩
 rw [hz0] at h_9
 refine WP.reg ?_
 refine qM (vi 0) rfl rfl ?_
 refine WL.nil (thn_n (WP.block ?_))
 have h_18 := (((((((h_9.up J1).up J8).up J8).up J8).up J8).up J8).up J8).up J8
 rw [show z0 = mid z0 4096 (4096 + 32 * 0) (laB id df dn u lg 0).2.2 from mid_nil.symm] at h_18
 refine WP.loopG (G := Nat × Option Addr × Nat × List Value) [10, 21, 22, 23, 24, 25, 26, 27, 28, 29, 30, 31, 32, 33] (fun (k, la2, lc2, lx2) => [(21, (vn k))]) (fun (k, la2, lc2, lx2) m w1 => HP w00 w1 (Ent.blk ob .nw 82 [(1, [(.bool id)]), (32, ms.map vu8), (1, [(.slice da dn dc)]), (1, [(vn ((laB id df dn u lg k).1))]), (1, [(.map (some mp))]), (1, [(.slice la2 ((laB id df dn u lg k).2.1.length) lc2)])] :: Ent.row la2 ((laB id df dn u lg k).2.1.length) lc2 114 67 lx2 :: Ent.obj mp .nw (.map (mArr ((laB id df dn u lg k).2.1)) ((laB id df dn u lg k).2.1.length)) :: Ent.pin (sblks lx2) (fun w => Lgs w lx2 ((laB id df dn u lg k).2.1)) :: Ent.view da (df.map vu8) :: Ent.blk bm .nw 84 [(1, [(.slice ma mn mn)])] :: Ent.row ma mn mn 65 128 (l.map vu8) :: Ent.blk b_1 .nw 23 [(32, (zB 32).map vu8)] :: Ent.blk b_7 .nw 68 [(8192, (mid z0 4096 (4096 + 32 * k) (laB id df dn u lg k).2.2).map vu8)] :: L) ∧ (k ≤ 128) ∧ m = 128 - k) ⟨(0, la, lc, lx), _, ⟨rfl, trivial⟩, h_18, Nat.zero_le _, rfl⟩ ?_
 rintro ⟨k, la2, lc2, lx2⟩ m_21 J_22 w_19 ⟨h_20, hk, rfl⟩
 have hsu := laB_u (id := id) (df := df) (dn := dn) (u := u) (lg := lg) k
 have hsl := laB_l (id := id) (df := df) (dn := dn) (u := u) (lg := lg) k
 have hs32 := laB_32 (id := id) (u := u) hdf h32 k
 have hBl := laB_len (id := id) (u := u) hdf h32 k
 refine WP.seq (WP.reg ?_)
 refine qV rfl (R.bin rfl rfl (bi_lss (r := decide ((((k : Nat) : Int) : Int) < 128)) rfl)) ?_
 refine WL.nil (thn_n (WP.seq ?_))
 refine WP.cond (b := decide ((((k : Nat) : Int) : Int) < 128)) rfl (fun c_23 => ?_) (fun c_23 => ?_)
 ·have p_24 := of_decide_eq_true c_23
  refine WP.skip (thn_n (WP.seq (WP.block (WP.seq (WP.reg ?_)))))
  refine qM (vn k) rfl rfl (qA (vn k) rfl rfl ?_)
  refine WL.nil (thn_n (WP.reg ?_))
  refine qM (vn k) rfl rfl (qV rfl (R.bin rfl rfl (bi_add (c := ((128 + k : Nat) : Int)) (by omega) (by omega))) (qM (pO ob 0) rfl rfl (qM (vn k) rfl rfl ?_)))
  have h_29 := ((((h_20.up J4).up J4).up J4).up J4).up J4
  refine WL.call Try.call10 rfl rfl (c_TNone_t id ob mp ms df hms da dn dc ((laB id df dn u lg k).1) hdf la2 lc2 lx2 ((laB id df dn u lg k).2.1) (by omega) (by omega) k (by omega) _ h_29) rfl ?_
  rintro _ w_33 ⟨la_30, lc_31, lx_32, rfl, h_34⟩
  refine qM (.tuple [(.agg ⟨(anD id df dn ((laB id df dn u lg k).1) ((laB id df dn u lg k).2.1) (1, (zB 32), 6, leN 8 (UInt64.ofNat k).toNat)).map vu8⟩), (vi 0)].toArray) rfl rfl (qV rfl (R.extract rfl rfl) (qV rfl (R.extract rfl rfl) (qV rfl (R.indexA (b := b_7) (off := 0) (off' := (0 + ((128 + k) * 32))) (i := 128 + k) rfl rfl rfl (by omega) underlying68 sizeOf23 rfl) ?_)))
  refine WL.storeEA (b := b_7) (off := (0 + ((128 + k) * 32))) (i := (128 + k) * 32) (ys := (anD id df dn ((laB id df dn u lg k).1) ((laB id df dn u lg k).2.1) (1, (zB 32), 6, leN 8 (UInt64.ofNat k).toNat)).map vu8) (cs' := (ovr (mid z0 4096 (4096 + 32 * k) (laB id df dn u lg k).2.2) ((128 + k) * 32) (anD id df dn ((laB id df dn u lg k).1) ((laB id df dn u lg k).2.1) (1, (zB 32), 6, leN 8 (UInt64.ofNat k).toNat))).map vu8) h_34 rfl rfl sizeOf23 Y8 (by decide) Sg.h rfl (len_map (anD_len hdf hs32)) (by rw [len_map (mid_len hzl (by rw [hBl]) (by omega))]; omega) (one_u8 _) (cpOvrA (anD_len hdf hs32)) (fun w_35 h_36 => ?_)
  refine WL.nil (inb_n (thn_n (WP.reg ?_)))
  refine qV rfl (R.bin rfl rfl (bi_add (c := ((k + 1 : Nat) : Int)) (by omega) (by omega))) (qM (vn (k + 1)) rfl rfl ?_)
  refine WL.nil (thn_n ?_)
  have h_45 := ((((((((h_36.up J8).up J8).up J8).up J8).up J8).up J8).up J8).up J8).up J8
  rw [mid_app (c' := 4096 + 32 * (k + 1)) hzl (by rw [hBl]) (by omega) (by rw [anD_len hdf hs32]; omega) (by omega)] at h_45
  exact ⟨(k + 1, la_30, lc_31, lx_32), _, (by omega), (U2 rfl rfl (U4 rfl rfl rfl rfl (U4 rfl rfl rfl rfl (U4 rfl rfl rfl rfl (Ag.updL rfl (Ag.mix _ _ _)))))), ⟨rfl, trivial⟩, h_45, (by omega), rfl⟩
 ·have p_46 := of_decide_eq_false c_23
  refine WP.exit (thn_x (thn_x (inb_hit (thn_n (WP.seq (WP.seq ?_))))))
  have hk8 : k = 128 := by omega
  subst hk8
  refine WP.reg ?_
  refine qA (vi 127) rfl rfl ?_
  refine WL.nil (thn_n (WP.block ?_))
  refine WP.loopG (G := Nat × Option Addr × Nat × List Value) [11, 34, 35, 36, 37, 38, 39, 40, 41, 42, 43, 44, 45, 46, 47, 48, 49, 50, 51, 52, 53, 54] (fun (t, la3, lc3, lx3) => [(11, (vn (127 - t)))]) (fun (t, la3, lc3, lx3) m w1 => HP w00 w1 (Ent.blk ob .nw 82 [(1, [(.bool id)]), (32, ms.map vu8), (1, [(.slice da dn dc)]), (1, [(vn ((laC id df dn u lg t).1))]), (1, [(.map (some mp))]), (1, [(.slice la3 ((laC id df dn u lg t).2.1.length) lc3)])] :: Ent.row la3 ((laC id df dn u lg t).2.1.length) lc3 114 67 lx3 :: Ent.obj mp .nw (.map (mArr ((laC id df dn u lg t).2.1)) ((laC id df dn u lg t).2.1.length)) :: Ent.pin (sblks lx3) (fun w => Lgs w lx3 ((laC id df dn u lg t).2.1)) :: Ent.view da (df.map vu8) :: Ent.blk bm .nw 84 [(1, [(.slice ma mn mn)])] :: Ent.row ma mn mn 65 128 (l.map vu8) :: Ent.blk b_1 .nw 23 [(32, (zB 32).map vu8)] :: Ent.blk b_7 .nw 68 [(8192, (mid z0 (32 * (128 - t)) 8192 (laC id df dn u lg t).2.2).map vu8)] :: L) ∧ (t ≤ 127) ∧ m = 127 - t) ⟨(0, la2, lc2, lx2), _, ⟨rfl, trivial⟩, h_20, Nat.zero_le _, rfl⟩ ?_
  rintro ⟨t, la3, lc3, lx3⟩ m_49 J_50 w_47 ⟨h_48, ht, rfl⟩
  have hsu := laC_u (id := id) (df := df) (dn := dn) (u := u) (lg := lg) t
  have hsl := laC_l (id := id) (df := df) (dn := dn) (u := u) (lg := lg) t
  have hs32 := laC_32 (id := id) (u := u) hdf h32 t
  have hCl := laC_len (id := id) (u := u) hdf h32 t
  refine WP.seq (WP.seq (WP.reg ?_))
  refine qM (vn (127 - t)) rfl rfl (qV rfl (R.bin rfl rfl (bi_gtr (r := decide ((((127 - t : Nat) : Int) : Int) > 0)) rfl)) ?_)
  refine WL.nil (thn_n ?_)
  refine WP.cond (b := decide ((((127 - t : Nat) : Int) : Int) > 0)) rfl (fun c_51 => ?_) (fun c_51 => ?_)
  ·have p_52 := of_decide_eq_true c_51
   refine WP.skip (thn_n (WP.seq (WP.block ?_)))
   refine WP.cutG (G := Option Addr × Nat × List Value) [38, 39, 40, 41, 42, 43, 44, 45, 46, 47, 48, 49, 50, 51, 52, 53, 54] (fun (laY13Y12Y0Y0, lcY13Y12Y0Y0, lxY13Y12Y0Y0) => [(39, (vn (127 - t))), (40, (pO ob 0)), (41, (vn (127 - t))), (42, (vn (127 - t))), (43, (vn (2 * (127 - t)))), (44, (.pointer (some ⟨b_7, (0 + ((2 * (127 - t)) * 32)), none⟩))), (46, (vn (127 - t))), (47, (vn (2 * (127 - t)))), (48, (vn ((2 * (127 - t)) + 1))), (49, (.pointer (some ⟨b_7, (0 + (((2 * (127 - t)) + 1) * 32)), none⟩))), (45, (.agg ⟨(((laC id df dn u lg t).2.2.drop (32 * (126 - t))).take 32).map vu8⟩)), (50, (.agg ⟨(((laC id df dn u lg t).2.2.drop (32 * (127 - t))).take 32).map vu8⟩)), (51, (.tuple [(.agg ⟨(anD id df dn ((laC id df dn u lg t).1) ((laC id df dn u lg t).2.1) (1, (zB 32), 5, [leN 8 (UInt64.ofNat (127 - t)).toNat, ((laC id df dn u lg t).2.2.drop (32 * (126 - t))).take 32, ((laC id df dn u lg t).2.2.drop (32 * (127 - t))).take 32].flatten)).map vu8⟩), (vi 0)].toArray)), (38, (.tuple [(.agg ⟨(anD id df dn ((laC id df dn u lg t).1) ((laC id df dn u lg t).2.1) (1, (zB 32), 5, [leN 8 (UInt64.ofNat (127 - t)).toNat, ((laC id df dn u lg t).2.2.drop (32 * (126 - t))).take 32, ((laC id df dn u lg t).2.2.drop (32 * (127 - t))).take 32].flatten)).map vu8⟩), (vi 0)].toArray)), (52, (.agg ⟨(anD id df dn ((laC id df dn u lg t).1) ((laC id df dn u lg t).2.1) (1, (zB 32), 5, [leN 8 (UInt64.ofNat (127 - t)).toNat, ((laC id df dn u lg t).2.2.drop (32 * (126 - t))).take 32, ((laC id df dn u lg t).2.2.drop (32 * (127 - t))).take 32].flatten)).map vu8⟩)), (53, (vi 0)), (54, (.pointer (some ⟨b_7, (0 + ((127 - t) * 32)), none⟩)))]) (fun (laY13Y12Y0Y0, lcY13Y12Y0Y0, lxY13Y12Y0Y0) w1 => HP w00 w1 (Ent.blk ob .nw 82 [(1, [(.bool id)]), (32, ms.map vu8), (1, [(.slice da dn dc)]), (1, [(vn (anU id ((laC id df dn u lg t).1) ((laC id df dn u lg t).2.1) (1, (zB 32), 5, [leN 8 (UInt64.ofNat (127 - t)).toNat, ((laC id df dn u lg t).2.2.drop (32 * (126 - t))).take 32, ((laC id df dn u lg t).2.2.drop (32 * (127 - t))).take 32].flatten)))]), (1, [(.map (some mp))]), (1, [(.slice laY13Y12Y0Y0 ((anL id df dn ((laC id df dn u lg t).1) ((laC id df dn u lg t).2.1) (1, (zB 32), 5, [leN 8 (UInt64.ofNat (127 - t)).toNat, ((laC id df dn u lg t).2.2.drop (32 * (126 - t))).take 32, ((laC id df dn u lg t).2.2.drop (32 * (127 - t))).take 32].flatten)).length) lcY13Y12Y0Y0)])] :: Ent.row laY13Y12Y0Y0 ((anL id df dn ((laC id df dn u lg t).1) ((laC id df dn u lg t).2.1) (1, (zB 32), 5, [leN 8 (UInt64.ofNat (127 - t)).toNat, ((laC id df dn u lg t).2.2.drop (32 * (126 - t))).take 32, ((laC id df dn u lg t).2.2.drop (32 * (127 - t))).take 32].flatten)).length) lcY13Y12Y0Y0 114 67 lxY13Y12Y0Y0 :: Ent.obj mp .nw (.map (mArr (anL id df dn ((laC id df dn u lg t).1) ((laC id df dn u lg t).2.1) (1, (zB 32), 5, [leN 8 (UInt64.ofNat (127 - t)).toNat, ((laC id df dn u lg t).2.2.drop (32 * (126 - t))).take 32, ((laC id df dn u lg t).2.2.drop (32 * (127 - t))).take 32].flatten))) ((anL id df dn ((laC id df dn u lg t).1) ((laC id df dn u lg t).2.1) (1, (zB 32), 5, [leN 8 (UInt64.ofNat (127 - t)).toNat, ((laC id df dn u lg t).2.2.drop (32 * (126 - t))).take 32, ((laC id df dn u lg t).2.2.drop (32 * (127 - t))).take 32].flatten)).length)) :: Ent.pin (sblks lxY13Y12Y0Y0) (fun w => Lgs w lxY13Y12Y0Y0 (anL id df dn ((laC id df dn u lg t).1) ((laC id df dn u lg t).2.1) (1, (zB 32), 5, [leN 8 (UInt64.ofNat (127 - t)).toNat, ((laC id df dn u lg t).2.2.drop (32 * (126 - t))).take 32, ((laC id df dn u lg t).2.2.drop (32 * (127 - t))).take 32].flatten))) :: Ent.view da (df.map vu8) :: Ent.blk bm .nw 84 [(1, [(.slice ma mn mn)])] :: Ent.row ma mn mn 65 128 (l.map vu8) :: Ent.blk b_1 .nw 23 [(32, (zB 32).map vu8)] :: Ent.blk b_7 .nw 68 [(8192, (ovr (mid z0 (32 * (128 - t)) 8192 (laC id df dn u lg t).2.2) ((127 - t) * 32) (anD id df dn ((laC id df dn u lg t).1) ((laC id df dn u lg t).2.1) (1, (zB 32), 5, [leN 8 (UInt64.ofNat (127 - t)).toNat, ((laC id df dn u lg t).2.2.drop (32 * (126 - t))).take 32, ((laC id df dn u lg t).2.2.drop (32 * (127 - t))).take 32].flatten))).map vu8)] :: L)) ?_ ?_
   ·refine WP.drawT (SL w00.heap.size [.blk bm .nw 84 [(1, [(.slice ma mn mn)])], .row ma mn mn 65 128 (l.map vu8), .blk b_1 .nw 23 [(32, (zB 32).map vu8)]]) (.q 0 (.q 1 (.q 2 (.q 3 (.q 4 (.q 5 (.q 7 (.q 8 (.q 9 (.q 10 (.s2 6 11 (.s 11 (.s 12 (.q 13 (.q 14 (.q 15 (.q 16 (.s 17 .nil))))))) (.s 6 (.s 12 (.q 13 (.q 14 (.q 15 (.q 16 (.s 17 .nil)))))))))))))))))) (by kernel_rfl) (by kernel_rfl) rfl (by kernel_rfl) (fun w_53 hc_55 => (SL.cons ((h_48.same hc_55).ok _ M5) (SL.cons ((h_48.same hc_55).ok _ M6) (SL.cons ((h_48.same hc_55).ok _ M7) (SL.nil _ _))))) (fun w_53 hc_55 => ?_)
    have h_54 := h_48.same hc_55
    refine qT rfl rfl (fun wq hS => R.move (v := (vn (127 - t))) rfl) ?_
    refine qT rfl rfl (fun wq hS => R.move (v := (pO ob 0)) rfl) ?_
    refine qT rfl rfl (fun wq hS => R.move (v := (vn (127 - t))) rfl) ?_
    refine qT rfl rfl (fun wq hS => R.move (v := (vn (127 - t))) rfl) ?_
    refine qT rfl rfl (fun wq hS => R.bin rfl rfl (bi_mul (c := ((2 * (127 - t) : Nat) : Int)) (by omega) (by omega))) ?_
    refine qT rfl rfl (fun wq hS => R.indexA (b := b_7) (off := 0) (off' := (0 + ((2 * (127 - t)) * 32))) (i := 2 * (127 - t)) rfl rfl rfl (by omega) underlying68 sizeOf23 rfl) ?_
    refine qT rfl rfl (fun wq hS => R.move (v := (vn (127 - t))) rfl) ?_
    refine qT rfl rfl (fun wq hS => R.bin rfl rfl (bi_mul (c := ((2 * (127 - t) : Nat) : Int)) (by omega) (by omega))) ?_
    refine qT rfl rfl (fun wq hS => R.bin rfl rfl (bi_add (c := (((2 * (127 - t)) + 1 : Nat) : Int)) (by omega) (by omega))) ?_
    refine qT rfl rfl (fun wq hS => R.indexA (b := b_7) (off := 0) (off' := (0 + (((2 * (127 - t)) + 1) * 32))) (i := (2 * (127 - t)) + 1) rfl rfl rfl (by omega) underlying68 sizeOf23 rfl) ?_
    refine WT.s2 ?_ ?_
    ·refine oN rfl ?_
     refine qV rfl (R.loadEA (b := b_7) (off := (0 + ((2 * (127 - t)) * 32))) (i := (2 * (127 - t)) * 32) (xs := (((laC id df dn u lg t).2.2.drop (32 * (126 - t))).take 32).map vu8) rfl isAgg23 sizeOf23 (h_54.ok _ M8) Sg.h rfl (by rw [← List.map_drop, ← List.map_take, mid_get (x := 32 * (126 - t)) hzl (by omega) (Nat.le_refl _) (by omega) (by omega)]) (len_map (subLen (K := 32 * (128 + t)) hCl (by omega)))) ?_
     refine WL.nil ?_
     refine ⟨(N5_6_7 h_54.ok), ?_⟩
     refine WT.s (oN rfl ?_)
     refine qV rfl (R.loadEA (b := b_7) (off := (0 + (((2 * (127 - t)) + 1) * 32))) (i := ((2 * (127 - t)) + 1) * 32) (xs := (((laC id df dn u lg t).2.2.drop (32 * (127 - t))).take 32).map vu8) rfl isAgg23 sizeOf23 (h_54.ok _ M8) Sg.h rfl (by rw [← List.map_drop, ← List.map_take, mid_get (x := 32 * (127 - t)) hzl (by omega) (Nat.le_refl _) (by omega) (by omega)]) (len_map (subLen (K := 32 * (128 + t)) hCl (by omega)))) ?_
     refine WL.nil ?_
     refine ⟨(N5_6_7 h_54.ok), ?_⟩
     refine WT.s (oN rfl ?_)
     have h_60 := ((((h_54.up J4).up J4).up J4).up J4).up J4
     refine WL.call Try.call25 rfl rfl (c_TNode_t id ob mp ms df hms da dn dc ((laC id df dn u lg t).1) hdf la3 lc3 lx3 ((laC id df dn u lg t).2.1) (by omega) (by omega) (127 - t) (by omega) (((laC id df dn u lg t).2.2.drop (32 * (126 - t))).take 32) (((laC id df dn u lg t).2.2.drop (32 * (127 - t))).take 32) (subLen (K := 32 * (128 + t)) hCl (by omega)) (subLen (K := 32 * (128 + t)) hCl (by omega)) _ h_60) rfl ?_
     rintro _ w_64 ⟨la_61, lc_62, lx_63, rfl, h_65⟩
     refine WL.nil ?_
     refine ⟨(N5_6_7 h_65.ok), ?_⟩
     refine qT rfl rfl (fun wq hS => R.move (v := (.tuple [(.agg ⟨(anD id df dn ((laC id df dn u lg t).1) ((laC id df dn u lg t).2.1) (1, (zB 32), 5, [leN 8 (UInt64.ofNat (127 - t)).toNat, ((laC id df dn u lg t).2.2.drop (32 * (126 - t))).take 32, ((laC id df dn u lg t).2.2.drop (32 * (127 - t))).take 32].flatten)).map vu8⟩), (vi 0)].toArray)) rfl) ?_
     refine qT rfl rfl (fun wq hS => R.extract rfl rfl) ?_
     refine qT rfl rfl (fun wq hS => R.extract rfl rfl) ?_
     refine qT rfl rfl (fun wq hS => R.indexA (b := b_7) (off := 0) (off' := (0 + ((127 - t) * 32))) (i := 127 - t) rfl rfl rfl (by omega) underlying68 sizeOf23 rfl) ?_
     refine WT.s (oN rfl ?_)
     refine WL.storeEA (b := b_7) (off := (0 + ((127 - t) * 32))) (i := (127 - t) * 32) (ys := (anD id df dn ((laC id df dn u lg t).1) ((laC id df dn u lg t).2.1) (1, (zB 32), 5, [leN 8 (UInt64.ofNat (127 - t)).toNat, ((laC id df dn u lg t).2.2.drop (32 * (126 - t))).take 32, ((laC id df dn u lg t).2.2.drop (32 * (127 - t))).take 32].flatten)).map vu8) (cs' := (ovr (mid z0 (32 * (128 - t)) 8192 (laC id df dn u lg t).2.2) ((127 - t) * 32) (anD id df dn ((laC id df dn u lg t).1) ((laC id df dn u lg t).2.1) (1, (zB 32), 5, [leN 8 (UInt64.ofNat (127 - t)).toNat, ((laC id df dn u lg t).2.2.drop (32 * (126 - t))).take 32, ((laC id df dn u lg t).2.2.drop (32 * (127 - t))).take 32].flatten))).map vu8) h_65 rfl rfl sizeOf23 Y8 (by decide) Sg.h rfl (len_map (anD_len hdf hs32)) (by rw [len_map (mid_len hzl (by omega) (by omega))]; omega) (one_u8 _) (cpOvrA (anD_len hdf hs32)) (fun w_66 h_67 => ?_)
     refine WL.nil ?_
     refine ⟨(N5_6_7 h_67.ok), ?_⟩
     refine WT.nil (thn_n ?_)
     exact ⟨(la_61, lc_62, lx_63), (Ag.upd rfl (U4 rfl rfl rfl rfl (U4 rfl rfl rfl rfl (U4 rfl rfl rfl rfl (U4 rfl rfl rfl rfl (Ag.refl _ _)))))), ⟨rfl, rfl, rfl, rfl, rfl, rfl, rfl, rfl, rfl, rfl, rfl, rfl, rfl, rfl, rfl, rfl, rfl, trivial⟩, h_67⟩
    ·refine oN rfl ?_
     refine qV rfl (R.loadEA (b := b_7) (off := (0 + (((2 * (127 - t)) + 1) * 32))) (i := ((2 * (127 - t)) + 1) * 32) (xs := (((laC id df dn u lg t).2.2.drop (32 * (127 - t))).take 32).map vu8) rfl isAgg23 sizeOf23 (h_54.ok _ M8) Sg.h rfl (by rw [← List.map_drop, ← List.map_take, mid_get (x := 32 * (127 - t)) hzl (by omega) (Nat.le_refl _) (by omega) (by omega)]) (len_map (subLen (K := 32 * (128 + t)) hCl (by omega)))) ?_
     refine WL.nil ?_
     refine ⟨(N5_6_7 h_54.ok), ?_⟩
     refine WT.s (oN rfl ?_)
     refine qV rfl (R.loadEA (b := b_7) (off := (0 + ((2 * (127 - t)) * 32))) (i := (2 * (127 - t)) * 32) (xs := (((laC id df dn u lg t).2.2.drop (32 * (126 - t))).take 32).map vu8) rfl isAgg23 sizeOf23 (h_54.ok _ M8) Sg.h rfl (by rw [← List.map_drop, ← List.map_take, mid_get (x := 32 * (126 - t)) hzl (by omega) (Nat.le_refl _) (by omega) (by omega)]) (len_map (subLen (K := 32 * (128 + t)) hCl (by omega)))) ?_
     refine WL.nil ?_
     refine ⟨(N5_6_7 h_54.ok), ?_⟩
     refine WT.s (oN rfl ?_)
     have h_72 := ((((h_54.up J4).up J4).up J4).up J4).up J4
     refine WL.call Try.call25 rfl rfl (c_TNode_t id ob mp ms df hms da dn dc ((laC id df dn u lg t).1) hdf la3 lc3 lx3 ((laC id df dn u lg t).2.1) (by omega) (by omega) (127 - t) (by omega) (((laC id df dn u lg t).2.2.drop (32 * (126 - t))).take 32) (((laC id df dn u lg t).2.2.drop (32 * (127 - t))).take 32) (subLen (K := 32 * (128 + t)) hCl (by omega)) (subLen (K := 32 * (128 + t)) hCl (by omega)) _ h_72) rfl ?_
     rintro _ w_76 ⟨la_73, lc_74, lx_75, rfl, h_77⟩
     refine WL.nil ?_
     refine ⟨(N5_6_7 h_77.ok), ?_⟩
     refine qT rfl rfl (fun wq hS => R.move (v := (.tuple [(.agg ⟨(anD id df dn ((laC id df dn u lg t).1) ((laC id df dn u lg t).2.1) (1, (zB 32), 5, [leN 8 (UInt64.ofNat (127 - t)).toNat, ((laC id df dn u lg t).2.2.drop (32 * (126 - t))).take 32, ((laC id df dn u lg t).2.2.drop (32 * (127 - t))).take 32].flatten)).map vu8⟩), (vi 0)].toArray)) rfl) ?_
     refine qT rfl rfl (fun wq hS => R.extract rfl rfl) ?_
     refine qT rfl rfl (fun wq hS => R.extract rfl rfl) ?_
     refine qT rfl rfl (fun wq hS => R.indexA (b := b_7) (off := 0) (off' := (0 + ((127 - t) * 32))) (i := 127 - t) rfl rfl rfl (by omega) underlying68 sizeOf23 rfl) ?_
     refine WT.s (oN rfl ?_)
     refine WL.storeEA (b := b_7) (off := (0 + ((127 - t) * 32))) (i := (127 - t) * 32) (ys := (anD id df dn ((laC id df dn u lg t).1) ((laC id df dn u lg t).2.1) (1, (zB 32), 5, [leN 8 (UInt64.ofNat (127 - t)).toNat, ((laC id df dn u lg t).2.2.drop (32 * (126 - t))).take 32, ((laC id df dn u lg t).2.2.drop (32 * (127 - t))).take 32].flatten)).map vu8) (cs' := (ovr (mid z0 (32 * (128 - t)) 8192 (laC id df dn u lg t).2.2) ((127 - t) * 32) (anD id df dn ((laC id df dn u lg t).1) ((laC id df dn u lg t).2.1) (1, (zB 32), 5, [leN 8 (UInt64.ofNat (127 - t)).toNat, ((laC id df dn u lg t).2.2.drop (32 * (126 - t))).take 32, ((laC id df dn u lg t).2.2.drop (32 * (127 - t))).take 32].flatten))).map vu8) h_77 rfl rfl sizeOf23 Y8 (by decide) Sg.h rfl (len_map (anD_len hdf hs32)) (by rw [len_map (mid_len hzl (by omega) (by omega))]; omega) (one_u8 _) (cpOvrA (anD_len hdf hs32)) (fun w_78 h_79 => ?_)
     refine WL.nil ?_
     refine ⟨(N5_6_7 h_79.ok), ?_⟩
     refine WT.nil (thn_n ?_)
     exact ⟨(la_73, lc_74, lx_75), (Ag.upd rfl (U4 rfl rfl rfl rfl (U4 rfl rfl rfl rfl (U4 rfl rfl rfl rfl (U4 rfl rfl rfl rfl (Ag.refl _ _)))))), ⟨rfl, rfl, rfl, rfl, rfl, rfl, rfl, rfl, rfl, rfl, rfl, rfl, rfl, rfl, rfl, rfl, rfl, trivial⟩, h_79⟩
   ·rintro ⟨la_83, lc_84, lx_85⟩ J_80 w_81 h_82
    refine inb_n (thn_n (WP.reg ?_))
    refine qM (vn (127 - t)) rfl rfl (qV rfl (R.bin rfl rfl (bi_sub (c := ((127 - t - 1 : Nat) : Int)) (by omega) (by omega))) (qA (vn (127 - t - 1)) rfl rfl ?_))
    refine WL.nil (thn_n ?_)
    have h_94 := ((((((((h_82.up J8).up J8).up J8).up J8).up J8).up J8).up J8).up J8).up J8
    rw [mid_pre (x' := 32 * (128 - (t + 1))) hzl (by omega) (by omega) (by rw [anD_len hdf hs32]; omega) (by omega)] at h_94
    exact ⟨(t + 1, la_83, lc_84, lx_85), _, (by omega), (Ag.upd rfl (U2 rfl rfl (Ag.updL rfl (Ag.trans (Ag.sub rfl (Ag.mix _ _ _)) (Ag.upd rfl (Ag.upd rfl (Ag.updL rfl (Ag.mix _ _ _)))))))), ⟨congrArg (fun n : Nat => vi (n : Int)) (by omega), trivial⟩, h_94, (by omega), rfl⟩
  ·have p_95 := of_decide_eq_false c_51
   refine WP.exit (thn_x (thn_x (inb_hit (thn_n (WP.seq (WP.seq ?_))))))
   obtain rfl : t = s6 + 1 := by omega
   have hC6 : (laC id df dn u lg s6).2.2.length = 8128 := by rw [laC_len (id := id) (u := u) hdf h32 s6]; omega
   rw [show 32 * (128 - (s6 + 1)) = 32 by omega] at h_48
   have h_96 := h_48.up J8
   have h_97 := HP_blkView h_96
   have hAl : (mid z0 32 8192 (laC id df dn u lg (s6 + 1)).2.2).length = 8192 := mid_len hzl (by omega) (Nat.le_refl _)
   rw [lay_0 (l := l) (p := p) (C := (laC id df dn u lg s6).2.2)] at h_97
   refine WP.reg ?_
   refine qA (vi 2) rfl rfl ?_
   refine WL.nil (thn_n (WP.block ?_))
   have h_105 := (((((((h_97.up J8).up J8).up J8).up J8).up J8).up J8).up J8).up J8
   refine WP.loopG (G := Nat) [12, 55, 56, 57, 58, 59, 60, 61, 62, 63, 64, 65, 66] (fun i => [(12, (vn i))]) (fun i m w1 => HP w00 w1 (Ent.blk ob .nw 82 [(1, [(.bool id)]), (32, ms.map vu8), (1, [(.slice da dn dc)]), (1, [(vn ((laC id df dn u lg (s6 + 1)).1))]), (1, [(.map (some mp))]), (1, [(.slice la3 ((laC id df dn u lg (s6 + 1)).2.1.length) lc3)])] :: Ent.row la3 ((laC id df dn u lg (s6 + 1)).2.1.length) lc3 114 67 lx3 :: Ent.obj mp .nw (.map (mArr ((laC id df dn u lg (s6 + 1)).2.1)) ((laC id df dn u lg (s6 + 1)).2.1.length)) :: Ent.pin (sblks lx3) (fun w => Lgs w lx3 ((laC id df dn u lg (s6 + 1)).2.1)) :: Ent.view da (df.map vu8) :: Ent.blk bm .nw 84 [(1, [(.slice ma mn mn)])] :: Ent.row ma mn mn 65 128 ((mid l (p + 64) (p + 32 * i) (((laC id df dn u lg s6).2.2).take (32 * (i - 2)))).map vu8) :: Ent.blk b_1 .nw 23 [(32, (zB 32).map vu8)] :: Ent.view (some ⟨b_7, 0, none⟩) ((mid z0 32 8192 (laC id df dn u lg (s6 + 1)).2.2).map vu8) :: L) ∧ (2 ≤ i) ∧ (i ≤ 256) ∧ m = 256 - i) ⟨2, _, ⟨rfl, trivial⟩, h_105, (by omega), (by omega), rfl⟩ ?_
   rintro i m_108 J_109 w_106 ⟨h_107, hi2, hi6, rfl⟩
   refine WP.seq (WP.seq (WP.reg ?_))
   refine qM (vn i) rfl rfl (qV rfl (R.bin rfl rfl (bi_lss (r := decide ((((i : Nat) : Int) : Int) < 256)) rfl)) ?_)
   refine WL.nil (thn_n ?_)
   refine WP.cond (b := decide ((((i : Nat) : Int) : Int) < 256)) rfl (fun c_110 => ?_) (fun c_110 => ?_)
   ·have p_111 := of_decide_eq_true c_110
    refine WP.skip (thn_n (WP.seq (WP.block ?_)))
    have h_112 := h_107.within (e' := .view (some ⟨b_7, (0 + (i * 32)), none⟩) ((((mid z0 32 8192 (laC id df dn u lg (s6 + 1)).2.2).drop (i * 32)).take 32).map vu8)) M8 rfl (View.arg (viewCut (h_107.ok _ M8).1 (i * 32) 32)) rfl rfl (cut_blk (by rw [len_map hAl]; decide))
    refine WP.drawT (SL w00.heap.size [.view (some ⟨b_7, (0 + (i * 32)), none⟩) ((((mid z0 32 8192 (laC id df dn u lg (s6 + 1)).2.2).drop (i * 32)).take 32).map vu8), .blk ob .nw 82 [(1, [(.bool id)]), (32, ms.map vu8), (1, [(.slice da dn dc)]), (1, [(vn ((laC id df dn u lg (s6 + 1)).1))]), (1, [(.map (some mp))]), (1, [(.slice la3 ((laC id df dn u lg (s6 + 1)).2.1.length) lc3)])], .row la3 ((laC id df dn u lg (s6 + 1)).2.1.length) lc3 114 67 lx3, .obj mp .nw (.map (mArr ((laC id df dn u lg (s6 + 1)).2.1)) ((laC id df dn u lg (s6 + 1)).2.1.length)), .pin (sblks lx3) (fun w => Lgs w lx3 ((laC id df dn u lg (s6 + 1)).2.1)), .view da (df.map vu8), .blk bm .nw 84 [(1, [(.slice ma mn mn)])], .blk b_1 .nw 23 [(32, (zB 32).map vu8)], .view (some ⟨b_7, 0, none⟩) ((mid z0 32 8192 (laC id df dn u lg (s6 + 1)).2.2).map vu8)]) (.q 0 (.q 1 (.q 2 (.q 4 (.q 5 (.q 6 (.s 3 (.s 7 .nil)))))))) (by kernel_rfl) (by kernel_rfl) rfl (by kernel_rfl) (fun w_113 hc_115 => (SL.cons ((h_112.same hc_115).ok _ M0) (SL.cons ((h_112.same hc_115).ok _ M1) (SL.cons ((h_112.same hc_115).ok _ M2) (SL.cons ((h_112.same hc_115).ok _ M3) (SL.cons ((h_112.same hc_115).ok _ M4) (SL.cons ((h_112.same hc_115).ok _ M5) (SL.cons ((h_112.same hc_115).ok _ M6) (SL.cons ((h_112.same hc_115).ok _ M8) (SL.cons ((h_112.same hc_115).ok _ M9) (SL.nil _ _))))))))))) (fun w_113 hc_115 => ?_)
    have h_114 := h_112.same hc_115
    refine qT rfl rfl (fun wq hS => R.move (v := (pO bm 0)) rfl) ?_
    refine qT rfl rfl (fun wq hS => R.move (v := (vu64 (UInt64.ofNat p))) rfl) ?_
    refine qT rfl rfl (fun wq hS => R.move (v := (vn i)) rfl) ?_
    refine qT rfl rfl (fun wq hS => R.move (v := (vn i)) rfl) ?_
    refine qT rfl rfl (fun wq hS => R.indexA (b := b_7) (off := 0) (off' := (0 + (i * 32))) (i := i) rfl rfl rfl (by omega) underlying68 sizeOf23 rfl) ?_
    refine qT rfl rfl (fun wq hS => R.sliceA (b := b_7) (off := (0 + (i * 32))) (off' := (0 + (i * 32))) (l := 0) (h := 32) rfl EvB.dflt EvB.dflt (by decide) (by decide) underlying23 sizeOf5 rfl) ?_
    refine WT.s (oN rfl ?_)
    refine WL.call Try.call27 rfl rfl (c_place p i _ ) rfl ?_
    rintro _ w_117 ⟨rfl, hc_116⟩
    have h_118 := h_114.same hc_116
    refine WL.nil ?_
    refine ⟨(SL.cons (h_118.ok _ M0) (SL.cons (h_118.ok _ M1) (SL.cons (h_118.ok _ M2) (SL.cons (h_118.ok _ M3) (SL.cons (h_118.ok _ M4) (SL.cons (h_118.ok _ M5) (SL.cons (h_118.ok _ M6) (SL.cons (h_118.ok _ M8) (SL.cons (h_118.ok _ M9) (SL.nil _ _)))))))))), ?_⟩
    refine WT.s (oN rfl ?_)
    have h_120 := (h_118.up J7).up J7
    refine WL.call Try.call26 rfl rfl (c_MWrite bm ma mn (p + 32 * i) (by omega) (by omega) (by omega) (by omega) (mid l (p + 64) (p + 32 * i) (((laC id df dn u lg s6).2.2).take (32 * (i - 2)))) (((mid z0 32 8192 (laC id df dn u lg (s6 + 1)).2.2).drop (i * 32)).take 32) (lay_len hl hC6 hw hi2 hi6) (subLen (K := 8192) hAl (by omega) : List.length (((mid z0 32 8192 (laC id df dn u lg (s6 + 1)).2.2).drop (i * 32)).take 32) = 32) (some ⟨b_7, (0 + (i * 32)), none⟩) 32 (by decide) _ h_120) rfl ?_
    rintro _ w_121 ⟨rfl, h_122⟩
    refine WL.nil ?_
    refine ⟨(SL.cons (h_122.ok _ M2) (SL.cons (h_122.ok _ M3) (SL.cons (h_122.ok _ M4) (SL.cons (h_122.ok _ M5) (SL.cons (h_122.ok _ M6) (SL.cons (h_122.ok _ M7) (SL.cons (h_122.ok _ M0) (SL.cons (h_122.ok _ M8) (SL.cons (h_122.ok _ M9) (SL.nil _ _)))))))))), ?_⟩
    refine WT.nil (inb_n (thn_n (WP.reg ?_)))
    refine qM (vn i) rfl rfl (qV rfl (R.bin rfl rfl (bi_add (c := ((i + 1 : Nat) : Int)) (by omega) (by omega))) (qA (vn (i + 1)) rfl rfl ?_))
    refine WL.nil (thn_n ?_)
    have h_133 := ((((((((((h_122.up J2).drop rfl).up J8).up J8).up J3).up J3).up J8).up J8).up J8).up J8).up J8
    rw [lay_w hs6 hdf h32 hzl hi2 (by omega), lay_s hl hC6 hw hi2 (by omega)] at h_133
    exact ⟨i + 1, _, (by omega), (Ag.upd rfl (U4 rfl rfl rfl rfl (U4 rfl rfl rfl rfl (U4 rfl rfl rfl rfl (Ag.updL rfl (Ag.mix _ _ _)))))), ⟨rfl, trivial⟩, h_133, (by omega), (by omega), rfl⟩
   ·have p_134 := of_decide_eq_false c_110
    refine WP.exit (thn_x (thn_x (inb_hit (thn_n (WP.seq ?_)))))
    have hi7 : i = 256 := by omega
    subst hi7
    rw [lay_end hC6] at h_107
    refine WP.reg ?_
    refine qV rfl (R.indexA (b := b_7) (off := 0) (off' := 32) (i := 1) rfl rfl rfl (by decide) underlying68 sizeOf23 rfl) (qV rfl (R.loadGA (a := some ⟨b_7, 0, none⟩) (i := 32) (xs := (mid z0 32 8192 (laC id df dn u lg (s6 + 1)).2.2).map vu8) (cs := ((laC id df dn u lg (s6 + 1)).2.2.take 32).map vu8) rfl (viewV (h_107.ok _ M8)) isAgg23 sizeOf23 (by rw [← List.map_drop, ← List.map_take, mid_get (x := 0) hzl (by rw [laC_len hdf h32]; omega) (Nat.le_refl _) rfl (by rw [laC_len hdf h32]; omega), List.drop_zero]) (len_map (show List.length ((laC id df dn u lg (s6 + 1)).2.2.take 32) = 32 from by rw [List.length_take, laC_len hdf h32]; omega)) (by decide)) ?_)
    refine WL.storeA [] [(32, (zB 32).map vu8)] [(32, ((laC id df dn u lg (s6 + 1)).2.2.take 32).map vu8)] [] h_107 rfl rfl sizeOf23 Y7 (by decide) rfl rfl rfl rfl rfl rfl (sC (s8 (show List.length ((laC id df dn u lg (s6 + 1)).2.2.take 32) = 32 from by rw [List.length_take, laC_len hdf h32]; omega)) sN) (fun w_135 h_136 => ?_)
    refine qA (vi 0) rfl rfl ?_
    refine WL.nil (thn_n (WP.ret ?_))
    refine ret_of results9 (RV.cell rfl (h_136.loadA (cs := ((laC id df dn u lg (s6 + 1)).2.2.take 32).map vu8) isAgg23 sizeOf23 M7 rfl rfl) (RV.tmp (v := (vi 0)) rfl RV.nil)) ?_
    have h_147 := ((((((((((h_136.up J7).drop rfl).up J7).drop rfl).up J6).up J6).up J6).up J6).up J6).up J6).up J6
    exact ⟨_, _, _, rfl, h_147⟩
end Go.Proofs.Ytbhllplbbkmndaa
