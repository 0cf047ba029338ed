/- A digest on its way: contracts. Conditions: those that each theorem states. -/
import Derived.Test.YtelkjcigdhgcoaaP6
namespace Go.Proofs.Ytelkjcigdhgcoaa
open Go.Vc Go.Sh Go.RowKit
set_option linter.unusedVariables false
set_option linter.unusedSimpArgs false
set_option maxRecDepth 20000
theorem pl55 : ∀ fs, Try.prog.underlying 55 = some (.struct fs) → Places Try.prog fs [(0, 64), (64, 8), (72, 1), (73, 1), (74, 1)] := by
  intro fs h w; rw [Try.underlying55] at h; cases h; simp
theorem c_New  (w : World) :
    Cs Try.prog 28 [].toArray w (fun v w1 => ∃ b, v = .pointer (some ⟨b, 0, none⟩) ∧ Chg w w1 [] ∧ w.heap.size ≤ b ∧ HashAt w.heap.size w1 b 55 []) := by
  refine Cs.of (n := 11) (args := []) Try.func28 rfl rfl rfl ?_
  have h_0 := HP.init w
  refine WP.seq ?_
  refine WP.reg ?_
  refine WL.q (Wn.no rfl) rfl rfl (R.assign (v := (.pointer none)) rfl) ?_
  refine WL.nil ?_
  refine thn_n ?_
  refine WP.seq ?_
  refine WP.reg ?_
  refine WL.call (al := []) Try.call55 rfl rfl (c_tables  _ ) rfl ?_
  rintro _ w_2 ⟨rfl, hc_1⟩
  have h_3 := h_0.same hc_1
  refine WL.q (Wn.no rfl) rfl rfl (R.move (v := (.tuple [(.agg ⟨kL.map vu32⟩), (.agg ⟨hL.map vu32⟩)].toArray)) rfl) ?_
  refine WL.q (Wn.no rfl) rfl rfl (R.extract (l := [(.agg ⟨kL.map vu32⟩), (.agg ⟨hL.map vu32⟩)]) (v := (.agg ⟨kL.map vu32⟩)) rfl rfl) ?_
  refine WL.q (Wn.no rfl) rfl rfl (R.extract (l := [(.agg ⟨kL.map vu32⟩), (.agg ⟨hL.map vu32⟩)]) (v := (.agg ⟨hL.map vu32⟩)) rfl rfl) ?_
  refine WL.alloc (segs := [(64, (List.replicate 64 (0 : UInt32)).map vu32)]) h_3 (zv Try.typeInfo53 rfl) rfl (SsOk.cons (SOk.u32 (List.length_replicate ..)) SsOk.nil) rfl (fun b_4 w_5 h_6 => ?_)
  refine WL.alloc (segs := [(8, (List.replicate 8 (0 : UInt32)).map vu32)]) h_6 (zv Try.typeInfo33 rfl) rfl (SsOk.cons (SOk.u32 (List.length_replicate ..)) SsOk.nil) rfl (fun b_7 w_8 h_9 => ?_)
  refine WL.storeA (b := b_4) (off := 0) [] [(64, (List.replicate 64 (0 : UInt32)).map vu32)] [(64, kL.map vu32)] [] (ys := kL.map vu32) h_9 rfl rfl Try.sizeOf53 (At.t At.h) (by decide) rfl rfl rfl rfl rfl rfl (SsOk.cons (SOk.u32 kL_len) SsOk.nil) (fun w_10 h_11 => ?_)
  refine WL.storeA (b := b_7) (off := 0) [] [(8, (List.replicate 8 (0 : UInt32)).map vu32)] [(8, hL.map vu32)] [] (ys := hL.map vu32) h_11 rfl rfl Try.sizeOf33 At.h (by decide) rfl rfl rfl rfl rfl rfl (SsOk.cons (SOk.u32 hL_len) SsOk.nil) (fun w_12 h_13 => ?_)
  refine WL.nil ?_
  refine thn_n ?_
  refine WP.seq ?_
  refine WP.reg ?_
  refine WL.q (Wn.no rfl) rfl rfl (R.loadA (b := b_4) (off := 0) [] [(64, kL.map vu32)] [] (cs := kL.map vu32) rfl Try.isAgg53 Try.sizeOf53 (h_13.ok _ (.tail _ (.head _))) rfl rfl rfl rfl) ?_
  refine WL.q (Wn.no rfl) rfl rfl (R.loadA (b := b_7) (off := 0) [] [(8, hL.map vu32)] [] (cs := hL.map vu32) rfl Try.isAgg33 Try.sizeOf33 (h_13.ok _ (.head _)) rfl rfl rfl rfl) ?_
  refine WL.q (Wn.no rfl) rfl rfl (R.buildS (pl := [(0, 64), (64, 8), (72, 1), (73, 1), (74, 1)]) (zs := [(64, (List.replicate 64 (0 : UInt32)).map vu32), (8, (List.replicate 8 (0 : UInt32)).map vu32), (1, [(.slice none 0 0)]), (1, [(vi 0)]), (1, [(.bool false)])]) (vs := [(0, (.agg ⟨kL.map vu32⟩)), (1, (.agg ⟨hL.map vu32⟩)), (4, (.bool true))]) (out := [(64, kL.map vu32), (8, hL.map vu32), (1, [(.slice none 0 0)]), (1, [(vi 0)]), (1, [(.bool true)])]) (cs := flat [(64, kL.map vu32), (8, hL.map vu32), (1, [(.slice none 0 0)]), (1, [(vi 0)]), (1, [(.bool true)])]) Try.underlying55 (zv Try.typeInfo55 rfl) rfl (SsOk.cons (SOk.u32 (List.length_replicate ..)) (SsOk.cons (SOk.u32 (List.length_replicate ..)) (SsOk.cons (SOk.v rfl) (SsOk.cons (SOk.v rfl) (SsOk.cons (SOk.v rfl) SsOk.nil))))) (pl55 _ Try.underlying55) rfl (FillR.cons [] [(64, (List.replicate 64 (0 : UInt32)).map vu32)] [(64, kL.map vu32)] [(8, (List.replicate 8 (0 : UInt32)).map vu32), (1, [(.slice none 0 0)]), (1, [(vi 0)]), (1, [(.bool false)])] rfl rfl rfl rfl (SsOk.cons (SOk.u32 kL_len) SsOk.nil) rfl rfl rfl (FillR.cons [(64, kL.map vu32)] [(8, (List.replicate 8 (0 : UInt32)).map vu32)] [(8, hL.map vu32)] [(1, [(.slice none 0 0)]), (1, [(vi 0)]), (1, [(.bool false)])] rfl rfl rfl rfl (SsOk.cons (SOk.u32 hL_len) SsOk.nil) rfl rfl rfl (FillR.cons [(64, kL.map vu32), (8, hL.map vu32), (1, [(.slice none 0 0)]), (1, [(vi 0)])] [(1, [(.bool false)])] [(1, [(.bool true)])] [] rfl rfl rfl rfl (SsOk.cons (SOk.v rfl) SsOk.nil) rfl rfl rfl FillR.nil))) rfl) ?_
  refine WL.box (v := (.agg ⟨flat [(64, kL.map vu32), (8, hL.map vu32), (1, [(.slice none 0 0)]), (1, [(vi 0)]), (1, [(.bool true)])]⟩)) (segs := [(64, kL.map vu32), (8, hL.map vu32), (1, [(.slice none 0 0)]), (1, [(vi 0)]), (1, [(.bool true)])]) h_13 rfl rfl (SsOk.cons (SOk.u32 kL_len) (SsOk.cons (SOk.u32 hL_len) (SsOk.cons (SOk.v rfl) (SsOk.cons (SOk.v rfl) (SsOk.cons (SOk.v rfl) SsOk.nil))))) rfl (fun b_15 w_16 h_17 => ?_)
  refine WL.q (Wn.no rfl) rfl rfl (R.assign (v := (.pointer (some ⟨b_15, 0, none⟩))) rfl) ?_
  refine WL.nil ?_
  refine thn_n ?_
  refine WP.ret ?_
  refine ret_of Try.results28 (RV.tmp (v := (.pointer (some ⟨b_15, 0, none⟩))) rfl RV.nil) ?_
  exact ⟨_, rfl, h_17.chgS, h_17.newB (.head _), none, 0, 0, h_17.cells (.head _), View.nil _ _, rfl, Nat.le_refl _, fun x hx => by cases hx⟩

theorem c_there_nil  (w : World) :
    Cs Try.prog 58 [(.pointer none)].toArray w (fun v w1 => v = (.bool false) ∧ Chg w w1 []) := by
  refine Cs.of (n := 11) (args := [(.pointer none)]) Try.func58 rfl rfl rfl ?_
  have h_0 := HP.init w
  refine WP.seq ?_
  refine WP.reg ?_
  refine WL.q (Wn.no rfl) rfl rfl (R.assign (v := (.bool false)) rfl) ?_
  refine WL.nil ?_
  refine thn_n ?_
  refine WP.seq ?_
  refine WP.reg ?_
  refine WL.q (Wn.no rfl) rfl rfl (R.move (v := (.pointer none)) rfl) ?_
  refine WL.q (Wn.no rfl) rfl rfl (R.neNilP rfl rfl Try.underlying42) ?_
  refine WL.q (Wn.no rfl) rfl rfl (R.move (v := (.bool false)) rfl) ?_
  refine WL.skip rfl rfl rfl ?_
  refine WL.skip rfl rfl rfl ?_
  refine WL.skip rfl rfl rfl ?_
  refine WL.skip rfl rfl rfl ?_
  refine WL.q (Wn.no rfl) rfl rfl (R.pickF (v := (.bool false)) rfl rfl) ?_
  refine WL.q (Wn.no rfl) rfl rfl (R.assign (v := (.bool false)) rfl) ?_
  refine WL.nil ?_
  refine thn_n ?_
  refine WP.ret ?_
  refine ret_of Try.results58 (RV.tmp (v := (.bool false)) rfl RV.nil) ?_
  exact ⟨rfl, h_0.chgS⟩

theorem c_there_true (kk hh : List UInt32) (hkk : kk.length = 64) (hhl : hh.length = 8) (ra : Option Addr) (rn rc nn : Nat) (bc : Nat) (w : World) (hcb : (Ent.blk bc .ro 55 [(64, kk.map vu32), (8, hh.map vu32), (1, [(.slice ra rn rc)]), (1, [(vi ((nn : Nat) : Int))]), (1, [(.bool true)])]).ok w.heap.size w) :
    Cs Try.prog 58 [(.pointer (some ⟨bc, 0, none⟩))].toArray w (fun v w1 => v = (.bool true) ∧ Chg w w1 []) := by
  refine Cs.of (n := 11) (args := [(.pointer (some ⟨bc, 0, none⟩))]) Try.func58 rfl rfl rfl ?_
  have h_0 := HP.init w
  have h_00 := h_0.old hcb (fun f hf => by cases hf)
  refine WP.seq ?_
  refine WP.reg ?_
  refine WL.q (Wn.no rfl) rfl rfl (R.assign (v := (.bool false)) rfl) ?_
  refine WL.nil ?_
  refine thn_n ?_
  refine WP.seq ?_
  refine WP.reg ?_
  refine WL.q (Wn.no rfl) rfl rfl (R.move (v := (.pointer (some ⟨bc, 0, none⟩))) rfl) ?_
  refine WL.q (Wn.no rfl) rfl rfl (R.neNilP rfl rfl Try.underlying42) ?_
  refine WL.q (Wn.no rfl) rfl rfl (R.move (v := (.bool true)) rfl) ?_
  refine WL.want rfl rfl ?_
  refine WL.q (Wn.no rfl) rfl rfl (R.move (v := (.pointer (some ⟨bc, 0, none⟩))) rfl) ?_
  refine WL.want rfl rfl ?_
  refine WL.q (Wn.no rfl) rfl rfl (R.nilCheck rfl) ?_
  refine WL.want rfl rfl ?_
  refine WL.q (Wn.no rfl) rfl rfl (R.fieldAddr (b := bc) (off := 0) (off' := 74) rfl Try.underlying55 rfl Try.sizeOf4 rfl rfl) ?_
  refine WL.want rfl rfl ?_
  refine WL.q (Wn.no rfl) rfl rfl (R.load1 (b := bc) (off := 74) (v := (.bool true)) rfl Try.isAgg4 (h_00.ok _ (.head _)) (Sg.t rfl (Sg.t rfl (Sg.t rfl (Sg.t rfl Sg.h))))) ?_
  refine WL.q (Wn.no rfl) rfl rfl (R.pickT (v := (.bool true)) rfl rfl) ?_
  refine WL.q (Wn.no rfl) rfl rfl (R.assign (v := (.bool true)) rfl) ?_
  refine WL.nil ?_
  refine thn_n ?_
  refine WP.ret ?_
  refine ret_of Try.results58 (RV.tmp (v := (.bool true)) rfl RV.nil) ?_
  exact ⟨rfl, h_00.chgS⟩

theorem c_there_false (kk hh : List UInt32) (hkk : kk.length = 64) (hhl : hh.length = 8) (ra : Option Addr) (rn rc nn : Nat) (bc : Nat) (w : World) (hcb : (Ent.blk bc .ro 55 [(64, kk.map vu32), (8, hh.map vu32), (1, [(.slice ra rn rc)]), (1, [(vi ((nn : Nat) : Int))]), (1, [(.bool false)])]).ok w.heap.size w) :
    Cs Try.prog 58 [(.pointer (some ⟨bc, 0, none⟩))].toArray w (fun v w1 => v = (.bool false) ∧ Chg w w1 []) := by
  refine Cs.of (n := 11) (args := [(.pointer (some ⟨bc, 0, none⟩))]) Try.func58 rfl rfl rfl ?_
  have h_0 := HP.init w
  have h_00 := h_0.old hcb (fun f hf => by cases hf)
  refine WP.seq ?_
  refine WP.reg ?_
  refine WL.q (Wn.no rfl) rfl rfl (R.assign (v := (.bool false)) rfl) ?_
  refine WL.nil ?_
  refine thn_n ?_
  refine WP.seq ?_
  refine WP.reg ?_
  refine WL.q (Wn.no rfl) rfl rfl (R.move (v := (.pointer (some ⟨bc, 0, none⟩))) rfl) ?_
  refine WL.q (Wn.no rfl) rfl rfl (R.neNilP rfl rfl Try.underlying42) ?_
  refine WL.q (Wn.no rfl) rfl rfl (R.move (v := (.bool true)) rfl) ?_
  refine WL.want rfl rfl ?_
  refine WL.q (Wn.no rfl) rfl rfl (R.move (v := (.pointer (some ⟨bc, 0, none⟩))) rfl) ?_
  refine WL.want rfl rfl ?_
  refine WL.q (Wn.no rfl) rfl rfl (R.nilCheck rfl) ?_
  refine WL.want rfl rfl ?_
  refine WL.q (Wn.no rfl) rfl rfl (R.fieldAddr (b := bc) (off := 0) (off' := 74) rfl Try.underlying55 rfl Try.sizeOf4 rfl rfl) ?_
  refine WL.want rfl rfl ?_
  refine WL.q (Wn.no rfl) rfl rfl (R.load1 (b := bc) (off := 74) (v := (.bool false)) rfl Try.isAgg4 (h_00.ok _ (.head _)) (Sg.t rfl (Sg.t rfl (Sg.t rfl (Sg.t rfl Sg.h))))) ?_
  refine WL.q (Wn.no rfl) rfl rfl (R.pickT (v := (.bool false)) rfl rfl) ?_
  refine WL.q (Wn.no rfl) rfl rfl (R.assign (v := (.bool false)) rfl) ?_
  refine WL.nil ?_
  refine thn_n ?_
  refine WP.ret ?_
  refine ret_of Try.results58 (RV.tmp (v := (.bool false)) rfl RV.nil) ?_
  exact ⟨rfl, h_00.chgS⟩

theorem c_Len_nil  (w : World) :
    Cs Try.prog 32 [(.pointer none)].toArray w (fun v w1 => v = (vi 0) ∧ Chg w w1 []) := by
  refine Cs.of (n := 10) (args := [(.pointer none)]) Try.func32 rfl rfl rfl ?_
  have h_0 := HP.init w
  refine WP.seq ?_
  refine WP.reg ?_
  refine WL.q (Wn.no rfl) rfl rfl (R.assign (v := (vi 0)) rfl) ?_
  refine WL.nil ?_
  refine thn_n ?_
  refine WP.seq ?_
  refine WP.seq ?_
  refine WP.reg ?_
  refine WL.q (Wn.no rfl) rfl rfl (R.move (v := (.pointer none)) rfl) ?_
  refine WL.call (al := [(.pointer none)]) Try.call58 rfl rfl (c_there_nil  _ ) rfl ?_
  rintro _ w_2 ⟨rfl, hc_1⟩
  have h_3 := h_0.same hc_1
  refine WL.q (Wn.no rfl) rfl rfl (R.not (b := false) rfl) ?_
  refine WL.nil ?_
  refine thn_n ?_
  refine WP.condT rfl ?_
  refine WP.seq ?_
  refine WP.reg ?_
  refine WL.q (Wn.no rfl) rfl rfl (R.assign (v := (vi 0)) rfl) ?_
  refine WL.nil ?_
  refine thn_n ?_
  refine WP.ret ?_
  refine thn_r ?_
  refine ret_of Try.results32 (RV.tmp (v := (vi 0)) rfl RV.nil) ?_
  exact ⟨rfl, h_3.chgS⟩

theorem c_Len_true (kk hh : List UInt32) (hkk : kk.length = 64) (hhl : hh.length = 8) (ra : Option Addr) (rn rc nn : Nat) (bc : Nat) (w : World) (hcb : (Ent.blk bc .ro 55 [(64, kk.map vu32), (8, hh.map vu32), (1, [(.slice ra rn rc)]), (1, [(vi ((nn : Nat) : Int))]), (1, [(.bool true)])]).ok w.heap.size w) :
    Cs Try.prog 32 [(.pointer (some ⟨bc, 0, none⟩))].toArray w (fun v w1 => v = (vi ((nn : Nat) : Int)) ∧ Chg w w1 []) := by
  refine Cs.of (n := 10) (args := [(.pointer (some ⟨bc, 0, none⟩))]) Try.func32 rfl rfl rfl ?_
  have h_0 := HP.init w
  have h_00 := h_0.old hcb (fun f hf => by cases hf)
  refine WP.seq ?_
  refine WP.reg ?_
  refine WL.q (Wn.no rfl) rfl rfl (R.assign (v := (vi 0)) rfl) ?_
  refine WL.nil ?_
  refine thn_n ?_
  refine WP.seq ?_
  refine WP.seq ?_
  refine WP.reg ?_
  refine WL.q (Wn.no rfl) rfl rfl (R.move (v := (.pointer (some ⟨bc, 0, none⟩))) rfl) ?_
  refine WL.call (al := [(.pointer (some ⟨bc, 0, none⟩))]) Try.call58 rfl rfl (c_there_true kk hh hkk hhl ra rn rc nn bc _ (h_00.argR (.head _))) rfl ?_
  rintro _ w_2 ⟨rfl, hc_1⟩
  have h_3 := h_00.same hc_1
  refine WL.q (Wn.no rfl) rfl rfl (R.not (b := true) rfl) ?_
  refine WL.nil ?_
  refine thn_n ?_
  refine WP.condF rfl ?_
  refine WP.skip ?_
  refine thn_n ?_
  refine WP.seq ?_
  refine WP.reg ?_
  refine WL.q (Wn.no rfl) rfl rfl (R.move (v := (.pointer (some ⟨bc, 0, none⟩))) rfl) ?_
  refine WL.q (Wn.no rfl) rfl rfl (R.nilCheck rfl) ?_
  refine WL.q (Wn.no rfl) rfl rfl (R.fieldAddr (b := bc) (off := 0) (off' := 73) rfl Try.underlying55 rfl Try.sizeOf3 rfl rfl) ?_
  refine WL.q (Wn.no rfl) rfl rfl (R.load1 (b := bc) (off := 73) (v := (vi ((nn : Nat) : Int))) rfl Try.isAgg3 (h_3.ok _ (.head _)) (Sg.t rfl (Sg.t rfl (Sg.t rfl Sg.h)))) ?_
  refine WL.q (Wn.no rfl) rfl rfl (R.assign (v := (vi ((nn : Nat) : Int))) rfl) ?_
  refine WL.nil ?_
  refine thn_n ?_
  refine WP.ret ?_
  refine ret_of Try.results32 (RV.tmp (v := (vi ((nn : Nat) : Int))) rfl RV.nil) ?_
  exact ⟨rfl, h_3.chgS⟩

theorem c_Len_false (kk hh : List UInt32) (hkk : kk.length = 64) (hhl : hh.length = 8) (ra : Option Addr) (rn rc nn : Nat) (bc : Nat) (w : World) (hcb : (Ent.blk bc .ro 55 [(64, kk.map vu32), (8, hh.map vu32), (1, [(.slice ra rn rc)]), (1, [(vi ((nn : Nat) : Int))]), (1, [(.bool false)])]).ok w.heap.size w) :
    Cs Try.prog 32 [(.pointer (some ⟨bc, 0, none⟩))].toArray w (fun v w1 => v = (vi 0) ∧ Chg w w1 []) := by
  refine Cs.of (n := 10) (args := [(.pointer (some ⟨bc, 0, none⟩))]) Try.func32 rfl rfl rfl ?_
  have h_0 := HP.init w
  have h_00 := h_0.old hcb (fun f hf => by cases hf)
  refine WP.seq ?_
  refine WP.reg ?_
  refine WL.q (Wn.no rfl) rfl rfl (R.assign (v := (vi 0)) rfl) ?_
  refine WL.nil ?_
  refine thn_n ?_
  refine WP.seq ?_
  refine WP.seq ?_
  refine WP.reg ?_
  refine WL.q (Wn.no rfl) rfl rfl (R.move (v := (.pointer (some ⟨bc, 0, none⟩))) rfl) ?_
  refine WL.call (al := [(.pointer (some ⟨bc, 0, none⟩))]) Try.call58 rfl rfl (c_there_false kk hh hkk hhl ra rn rc nn bc _ (h_00.argR (.head _))) rfl ?_
  rintro _ w_2 ⟨rfl, hc_1⟩
  have h_3 := h_00.same hc_1
  refine WL.q (Wn.no rfl) rfl rfl (R.not (b := false) rfl) ?_
  refine WL.nil ?_
  refine thn_n ?_
  refine WP.condT rfl ?_
  refine WP.seq ?_
  refine WP.reg ?_
  refine WL.q (Wn.no rfl) rfl rfl (R.assign (v := (vi 0)) rfl) ?_
  refine WL.nil ?_
  refine thn_n ?_
  refine WP.ret ?_
  refine thn_r ?_
  refine ret_of Try.results32 (RV.tmp (v := (vi 0)) rfl RV.nil) ?_
  exact ⟨rfl, h_3.chgS⟩

theorem c_Copy_nil  (w : World) :
    Cs Try.prog 33 [(.pointer none)].toArray w (fun v w1 => v = (.pointer none) ∧ Chg w w1 []) := by
  refine Cs.of (n := 16) (args := [(.pointer none)]) Try.func33 rfl rfl rfl ?_
  have h_0 := HP.init w
  refine WP.seq ?_
  refine WP.reg ?_
  refine WL.q (Wn.no rfl) rfl rfl (R.assign (v := (.pointer none)) rfl) ?_
  refine WL.nil ?_
  refine thn_n ?_
  refine WP.seq ?_
  refine WP.seq ?_
  refine WP.reg ?_
  refine WL.q (Wn.no rfl) rfl rfl (R.move (v := (.pointer none)) rfl) ?_
  refine WL.call (al := [(.pointer none)]) Try.call58 rfl rfl (c_there_nil  _ ) rfl ?_
  rintro _ w_2 ⟨rfl, hc_1⟩
  have h_3 := h_0.same hc_1
  refine WL.q (Wn.no rfl) rfl rfl (R.not (b := false) rfl) ?_
  refine WL.nil ?_
  refine thn_n ?_
  refine WP.condT rfl ?_
  refine WP.seq ?_
  refine WP.reg ?_
  refine WL.q (Wn.no rfl) rfl rfl (R.assign (v := (.pointer none)) rfl) ?_
  refine WL.nil ?_
  refine thn_n ?_
  refine WP.ret ?_
  refine thn_r ?_
  refine ret_of Try.results33 (RV.tmp (v := (.pointer none)) rfl RV.nil) ?_
  exact ⟨rfl, h_3.chgS⟩

theorem c_Copy_false (kk hh : List UInt32) (hkk : kk.length = 64) (hhl : hh.length = 8) (ra : Option Addr) (rn rc nn : Nat) (bc : Nat) (w : World) (hcb : (Ent.blk bc .ro 55 [(64, kk.map vu32), (8, hh.map vu32), (1, [(.slice ra rn rc)]), (1, [(vi ((nn : Nat) : Int))]), (1, [(.bool false)])]).ok w.heap.size w) :
    Cs Try.prog 33 [(.pointer (some ⟨bc, 0, none⟩))].toArray w (fun v w1 => v = (.pointer none) ∧ Chg w w1 []) := by
  refine Cs.of (n := 16) (args := [(.pointer (some ⟨bc, 0, none⟩))]) Try.func33 rfl rfl rfl ?_
  have h_0 := HP.init w
  have h_00 := h_0.old hcb (fun f hf => by cases hf)
  refine WP.seq ?_
  refine WP.reg ?_
  refine WL.q (Wn.no rfl) rfl rfl (R.assign (v := (.pointer none)) rfl) ?_
  refine WL.nil ?_
  refine thn_n ?_
  refine WP.seq ?_
  refine WP.seq ?_
  refine WP.reg ?_
  refine WL.q (Wn.no rfl) rfl rfl (R.move (v := (.pointer (some ⟨bc, 0, none⟩))) rfl) ?_
  refine WL.call (al := [(.pointer (some ⟨bc, 0, none⟩))]) Try.call58 rfl rfl (c_there_false kk hh hkk hhl ra rn rc nn bc _ (h_00.argR (.head _))) rfl ?_
  rintro _ w_2 ⟨rfl, hc_1⟩
  have h_3 := h_00.same hc_1
  refine WL.q (Wn.no rfl) rfl rfl (R.not (b := false) rfl) ?_
  refine WL.nil ?_
  refine thn_n ?_
  refine WP.condT rfl ?_
  refine WP.seq ?_
  refine WP.reg ?_
  refine WL.q (Wn.no rfl) rfl rfl (R.assign (v := (.pointer none)) rfl) ?_
  refine WL.nil ?_
  refine thn_n ?_
  refine WP.ret ?_
  refine thn_r ?_
  refine ret_of Try.results33 (RV.tmp (v := (.pointer none)) rfl RV.nil) ?_
  exact ⟨rfl, h_3.chgS⟩

theorem c_Copy (mg : List UInt8) (ra : Option Addr) (rn rc : Nat) (hrn : (rsL mg).length = rn) (hrc : rn ≤ rc) (bc : Nat) (hm : mg.length ≤ 1000000000000) (w : World) (hvr : View w ra ((rsL mg).map vu8)) (hcb : (Ent.blk bc .ro 55 [(64, kL.map vu32), (8, (stH mg).map vu32), (1, [(.slice ra rn rc)]), (1, [(vi ((mg.length : Nat) : Int))]), (1, [(.bool true)])]).ok w.heap.size w) :
    Cs Try.prog 33 [(.pointer (some ⟨bc, 0, none⟩))].toArray w (fun v w1 => ∃ b, v = .pointer (some ⟨b, 0, none⟩) ∧ Chg w w1 [] ∧ w.heap.size ≤ b ∧ HashAt w.heap.size w1 b 55 mg) := by
  refine Cs.of (n := 16) (args := [(.pointer (some ⟨bc, 0, none⟩))]) Try.func33 rfl rfl rfl ?_
  have h_0 := HP.init w
  have h_01 := h_0.oldV (View.arg hvr) rfl (by simp [Ent.mut])
  have h_00 := h_01.oldV hcb rfl (by simp [Ent.mut])
  have hrl := rsL_len mg
  refine WP.seq ?_
  refine WP.reg ?_
  refine WL.q (Wn.no rfl) rfl rfl (R.assign (v := (.pointer none)) rfl) ?_
  refine WL.nil ?_
  refine thn_n ?_
  refine WP.seq ?_
  refine WP.seq ?_
  refine WP.reg ?_
  refine WL.q (Wn.no rfl) rfl rfl (R.move (v := (.pointer (some ⟨bc, 0, none⟩))) rfl) ?_
  refine WL.call (al := [(.pointer (some ⟨bc, 0, none⟩))]) Try.call58 rfl rfl (c_there_true kL (stH mg) kL_len (stH_len mg) ra rn rc mg.length bc _ (h_00.argR (.head _))) rfl ?_
  rintro _ w_2 ⟨rfl, hc_1⟩
  have h_3 := h_00.same hc_1
  refine WL.q (Wn.no rfl) rfl rfl (R.not (b := true) rfl) ?_
  refine WL.nil ?_
  refine thn_n ?_
  refine WP.condF rfl ?_
  refine WP.skip ?_
  refine thn_n ?_
  refine WP.seq ?_
  refine WP.reg ?_
  refine WL.q (Wn.no rfl) rfl rfl (R.move (v := (.pointer (some ⟨bc, 0, none⟩))) rfl) ?_
  refine WL.q (Wn.no rfl) rfl rfl (R.nilCheck rfl) ?_
  refine WL.q (Wn.no rfl) rfl rfl (R.loadA (b := bc) (off := 0) [] [(64, kL.map vu32), (8, (stH mg).map vu32), (1, [(.slice ra rn rc)]), (1, [(vi ((mg.length : Nat) : Int))]), (1, [(.bool true)])] [] (cs := flat [(64, kL.map vu32), (8, (stH mg).map vu32), (1, [(.slice ra rn rc)]), (1, [(vi ((mg.length : Nat) : Int))]), (1, [(.bool true)])]) rfl Try.isAgg55 Try.sizeOf55 (h_3.ok _ (.head _)) rfl rfl rfl rfl) ?_
  refine WL.alloc (segs := [(64, (List.replicate 64 (0 : UInt32)).map vu32), (8, (List.replicate 8 (0 : UInt32)).map vu32), (1, [(.slice none 0 0)]), (1, [(vi 0)]), (1, [(.bool false)])]) h_3 (zv Try.typeInfo55 rfl) rfl (SsOk.cons (SOk.u32 (List.length_replicate ..)) (SsOk.cons (SOk.u32 (List.length_replicate ..)) (SsOk.cons (SOk.v rfl) (SsOk.cons (SOk.v rfl) (SsOk.cons (SOk.v rfl) SsOk.nil))))) rfl (fun b_4 w_5 h_6 => ?_)
  refine WL.storeA (b := b_4) (off := 0) [] [(64, (List.replicate 64 (0 : UInt32)).map vu32), (8, (List.replicate 8 (0 : UInt32)).map vu32), (1, [(.slice none 0 0)]), (1, [(vi 0)]), (1, [(.bool false)])] [(64, kL.map vu32), (8, (stH mg).map vu32), (1, [(.slice ra rn rc)]), (1, [(vi ((mg.length : Nat) : Int))]), (1, [(.bool true)])] [] (ys := flat [(64, kL.map vu32), (8, (stH mg).map vu32), (1, [(.slice ra rn rc)]), (1, [(vi ((mg.length : Nat) : Int))]), (1, [(.bool true)])]) h_6 rfl rfl Try.sizeOf55 At.h (by decide) rfl rfl rfl rfl rfl rfl (SsOk.cons (SOk.u32 kL_len) (SsOk.cons (SOk.u32 (stH_len mg)) (SsOk.cons (SOk.v rfl) (SsOk.cons (SOk.v rfl) (SsOk.cons (SOk.v rfl) SsOk.nil))))) (fun w_7 h_8 => ?_)
  refine WL.nil ?_
  refine thn_n ?_
  refine WP.seq ?_
  refine WP.reg ?_
  refine WL.q (Wn.no rfl) rfl rfl (R.move (v := (.pointer (some ⟨bc, 0, none⟩))) rfl) ?_
  refine WL.q (Wn.no rfl) rfl rfl (R.nilCheck rfl) ?_
  refine WL.q (Wn.no rfl) rfl rfl (R.fieldAddr (b := bc) (off := 0) (off' := 72) rfl Try.underlying55 rfl Try.sizeOf26 rfl rfl) ?_
  refine WL.q (Wn.no rfl) rfl rfl (R.load1 (b := bc) (off := 72) (v := (.slice ra rn rc)) rfl Try.isAgg26 (h_8.ok _ (.tail _ (.head _))) (Sg.t rfl (Sg.t rfl Sg.h))) ?_
  refine WL.call (al := [(.slice ra rn rc)]) Try.call62 rfl rfl (c_Clone ra rn rc (rsL mg) hrn (by omega) _ (viewV (h_8.ok _ (.tail _ (.tail _ (.head _)))))) rfl ?_
  rintro _ w_11 ⟨a_9, cap_10, rfl, hc_12, ho_13⟩
  have h_14 := h_8.gotRow hc_12 ho_13
  refine WL.q (Wn.no rfl) rfl rfl (R.fieldAddr (b := b_4) (off := 0) (off' := 72) rfl Try.underlying55 rfl Try.sizeOf26 rfl rfl) ?_
  refine WL.store1 (b := b_4) (off := 72) (v := (.slice a_9 rn cap_10)) h_14 rfl rfl Try.sizeOf26 rfl (At.t At.h) (by decide) (Sg.t rfl (Sg.t rfl Sg.h)) (fun w_15 h_16 => ?_)
  refine WL.nil ?_
  refine thn_n ?_
  refine WP.seq ?_
  refine WP.reg ?_
  refine WL.q (Wn.no rfl) rfl rfl (R.assign (v := (.pointer (some ⟨b_4, 0, none⟩))) rfl) ?_
  refine WL.nil ?_
  refine thn_n ?_
  refine WP.ret ?_
  refine ret_of Try.results33 (RV.tmp (v := (.pointer (some ⟨b_4, 0, none⟩))) rfl RV.nil) ?_
  exact ⟨_, rfl, h_16.chgS, h_16.newB (.tail _ (.head _)), _, _, _, h_16.cells (.tail _ (.head _)), Own.view (h_16.own (.head _)), hrn, (h_16.own (.head _)).2.2.1, fun x hx => ⟨Own.blk (h_16.own (.head _)) x hx, Sep_offRow (h_16.ne (i := 0) (j := 1) rfl rfl rfl) x hx⟩⟩

theorem c_Write_nil (a : Option Addr) (n cap : Nat) (w : World) :
    Cs Try.prog 30 [(.pointer none), (.slice a n cap)].toArray w (fun v w1 => v = (vi 1) ∧ Chg w w1 []) := by
  refine Cs.of (n := 58) (args := [(.pointer none), (.slice a n cap)]) Try.func30 rfl rfl rfl ?_
  have h_0 := HP.init w
  refine WP.seq ?_
  refine WP.reg ?_
  refine WL.q (Wn.no rfl) rfl rfl (R.assign (v := (vi 0)) rfl) ?_
  refine WL.nil ?_
  refine thn_n ?_
  refine WP.seq ?_
  refine WP.seq ?_
  refine WP.reg ?_
  refine WL.q (Wn.no rfl) rfl rfl (R.move (v := (.pointer none)) rfl) ?_
  refine WL.call (al := [(.pointer none)]) Try.call58 rfl rfl (c_there_nil  _ ) rfl ?_
  rintro _ w_2 ⟨rfl, hc_1⟩
  have h_3 := h_0.same hc_1
  refine WL.q (Wn.no rfl) rfl rfl (R.not (b := false) rfl) ?_
  refine WL.nil ?_
  refine thn_n ?_
  refine WP.condT rfl ?_
  refine WP.seq ?_
  refine WP.reg ?_
  refine WL.q (Wn.no rfl) rfl rfl (R.assign (v := (vi 1)) rfl) ?_
  refine WL.nil ?_
  refine thn_n ?_
  refine WP.ret ?_
  refine thn_r ?_
  refine ret_of Try.results30 (RV.tmp (v := (vi 1)) rfl RV.nil) ?_
  exact ⟨rfl, h_3.chgS⟩

theorem c_Write_false (kk hh : List UInt32) (hkk : kk.length = 64) (hhl : hh.length = 8) (ra : Option Addr) (rn rc nn : Nat) (bc : Nat) (a : Option Addr) (n cap : Nat) (w : World) (hcb : (Ent.blk bc .ro 55 [(64, kk.map vu32), (8, hh.map vu32), (1, [(.slice ra rn rc)]), (1, [(vi ((nn : Nat) : Int))]), (1, [(.bool false)])]).ok w.heap.size w) :
    Cs Try.prog 30 [(.pointer (some ⟨bc, 0, none⟩)), (.slice a n cap)].toArray w (fun v w1 => v = (vi 1) ∧ Chg w w1 []) := by
  refine Cs.of (n := 58) (args := [(.pointer (some ⟨bc, 0, none⟩)), (.slice a n cap)]) Try.func30 rfl rfl rfl ?_
  have h_0 := HP.init w
  have h_00 := h_0.old hcb (fun f hf => by cases hf)
  refine WP.seq ?_
  refine WP.reg ?_
  refine WL.q (Wn.no rfl) rfl rfl (R.assign (v := (vi 0)) rfl) ?_
  refine WL.nil ?_
  refine thn_n ?_
  refine WP.seq ?_
  refine WP.seq ?_
  refine WP.reg ?_
  refine WL.q (Wn.no rfl) rfl rfl (R.move (v := (.pointer (some ⟨bc, 0, none⟩))) rfl) ?_
  refine WL.call (al := [(.pointer (some ⟨bc, 0, none⟩))]) Try.call58 rfl rfl (c_there_false kk hh hkk hhl ra rn rc nn bc _ (h_00.argR (.head _))) rfl ?_
  rintro _ w_2 ⟨rfl, hc_1⟩
  have h_3 := h_00.same hc_1
  refine WL.q (Wn.no rfl) rfl rfl (R.not (b := false) rfl) ?_
  refine WL.nil ?_
  refine thn_n ?_
  refine WP.condT rfl ?_
  refine WP.seq ?_
  refine WP.reg ?_
  refine WL.q (Wn.no rfl) rfl rfl (R.assign (v := (vi 1)) rfl) ?_
  refine WL.nil ?_
  refine thn_n ?_
  refine WP.ret ?_
  refine thn_r ?_
  refine ret_of Try.results30 (RV.tmp (v := (vi 1)) rfl RV.nil) ?_
  exact ⟨rfl, h_3.chgS⟩

theorem c_Write (mg : List UInt8) (ra : Option Addr) (rn rc : Nat) (hrn : (rsL mg).length = rn) (hrc : rn ≤ rc) (bc : Nat) (hm : mg.length ≤ 1000000000000) (a : Option Addr) (n cap : Nat) (bs : List UInt8) (hl : bs.length = n) (hn : n ≤ 1000000000000) (hcap : n ≤ cap) (w : World) (hvr : View w ra ((rsL mg).map vu8)) (hv : View w a (bs.map vu8)) (hcb : (Ent.blk bc .ar 55 [(64, kL.map vu32), (8, (stH mg).map vu32), (1, [(.slice ra rn rc)]), (1, [(vi ((mg.length : Nat) : Int))]), (1, [(.bool true)])]).ok w.heap.size w) (ho1 : ∀ x ∈ (Ent.view ra ((rsL mg).map vu8)).blocks, x ≠ bc) (ho2 : ∀ x ∈ (Ent.view a (bs.map vu8)).blocks, x ≠ bc) :
    Cs Try.prog 30 [(.pointer (some ⟨bc, 0, none⟩)), (.slice a n cap)].toArray w (fun v w1 => v = vi 0 ∧ Chg w w1 [bc] ∧ HashAt w.heap.size w1 bc 55 (mg ++ bs)) := by
  refine Cs.of (n := 58) (args := [(.pointer (some ⟨bc, 0, none⟩)), (.slice a n cap)]) Try.func30 rfl rfl rfl ?_
  have h_0 := HP.init w
  have h_00 := HP_three hcb hvr hv ho1 ho2
  have hrl := rsL_len mg
  refine WP.seq ?_
  refine WP.reg ?_
  refine WL.q (Wn.no rfl) rfl rfl (R.assign (v := (vi 0)) rfl) ?_
  refine WL.nil ?_
  refine thn_n ?_
  refine WP.seq ?_
  refine WP.seq ?_
  refine WP.reg ?_
  refine WL.q (Wn.no rfl) rfl rfl (R.move (v := (.pointer (some ⟨bc, 0, none⟩))) rfl) ?_
  refine WL.call (al := [(.pointer (some ⟨bc, 0, none⟩))]) Try.call58 rfl rfl (c_there_true kL (stH mg) kL_len (stH_len mg) ra rn rc mg.length bc _ (h_00.argR (.head _))) rfl ?_
  rintro _ w_2 ⟨rfl, hc_1⟩
  have h_3 := h_00.same hc_1
  refine WL.q (Wn.no rfl) rfl rfl (R.not (b := true) rfl) ?_
  refine WL.nil ?_
  refine thn_n ?_
  refine WP.condF rfl ?_
  refine WP.skip ?_
  refine thn_n ?_
  refine WP.seq ?_
  refine WP.reg ?_
  refine WL.q (Wn.no rfl) rfl rfl (R.move (v := (.pointer (some ⟨bc, 0, none⟩))) rfl) ?_
  refine WL.q (Wn.no rfl) rfl rfl (R.nilCheck rfl) ?_
  refine WL.q (Wn.no rfl) rfl rfl (R.fieldAddr (b := bc) (off := 0) (off' := 73) rfl Try.underlying55 rfl Try.sizeOf3 rfl rfl) ?_
  refine WL.q (Wn.no rfl) rfl rfl (R.load1 (b := bc) (off := 73) (v := (vi ((mg.length : Nat) : Int))) rfl Try.isAgg3 (h_3.ok _ (.head _)) (Sg.t rfl (Sg.t rfl (Sg.t rfl Sg.h)))) ?_
  refine WL.q (Wn.no rfl) rfl rfl (R.move (v := (.slice a n cap)) rfl) ?_
  refine WL.q (Wn.no rfl) rfl rfl (R.lenS (a := a) (m := n) rfl rfl Try.underlying26) ?_
  refine WL.q (Wn.no rfl) rfl rfl (R.bin (v := (vi ((mg.length + n : Nat) : Int))) rfl rfl (bi_add (c := ((mg.length + n : Nat) : Int)) (by omega) (by omega))) ?_
  refine WL.q (Wn.no rfl) rfl rfl (R.nilCheck rfl) ?_
  refine WL.q (Wn.no rfl) rfl rfl (R.fieldAddr (b := bc) (off := 0) (off' := 73) rfl Try.underlying55 rfl Try.sizeOf3 rfl rfl) ?_
  refine WL.store1 (b := bc) (off := 73) (v := (vi ((mg.length + n : Nat) : Int))) h_3 rfl rfl Try.sizeOf3 rfl At.h (by decide) (Sg.t rfl (Sg.t rfl (Sg.t rfl Sg.h))) (fun w_4 h_5 => ?_)
  refine WL.nil ?_
  refine thn_n ?_
  refine WP.seq ?_
  refine WP.reg ?_
  refine WL.q (Wn.no rfl) rfl rfl (R.move (v := (.pointer (some ⟨bc, 0, none⟩))) rfl) ?_
  refine WL.q (Wn.no rfl) rfl rfl (R.move (v := (.pointer (some ⟨bc, 0, none⟩))) rfl) ?_
  refine WL.q (Wn.no rfl) rfl rfl (R.nilCheck rfl) ?_
  refine WL.q (Wn.no rfl) rfl rfl (R.fieldAddr (b := bc) (off := 0) (off' := 72) rfl Try.underlying55 rfl Try.sizeOf26 rfl rfl) ?_
  refine WL.q (Wn.no rfl) rfl rfl (R.load1 (b := bc) (off := 72) (v := (.slice ra rn rc)) rfl Try.isAgg26 (h_5.ok _ (.head _)) (Sg.t rfl (Sg.t rfl Sg.h))) ?_
  refine WL.q (Wn.no rfl) rfl rfl (R.move (v := (.slice a n cap)) rfl) ?_
  refine WL.buildSl (vs := [(0, (.slice ra rn rc)), (1, (.slice a n cap))]) (cs := [(.slice ra rn rc), (.slice a n cap)]) h_5 Try.underlying40 Try.sizeOf26 (zv Try.typeInfo26 rfl) rfl rfl (by kernel_rfl) rfl (by simp [Value.oneCell']) rfl rfl (fun b_6 w_7 h_8 => ?_)
  refine WL.call (al := [(.slice (some ⟨b_6, 0, none⟩) 2 2)]) Try.call59 rfl rfl (c_Concat (some ⟨b_6, 0, none⟩) 2 2 [(.slice ra rn rc), (.slice a n cap)] [rsL mg, bs] rfl (by rw [wr_r, List.length_drop, List.length_append]; omega) (by omega) _ (viewB (h_8.ok _ (.head _)) Sg.h) (Sls.cons hrn (by omega) (viewV (h_8.ok _ (.tail _ (.tail _ (.head _))))) (Sls.cons hl (by omega) (viewV (h_8.ok _ (.tail _ (.tail _ (.tail _ (.head _)))))) Sls.nil))) rfl ?_
  rintro _ w_11 ⟨a_9, cap_10, rfl, hc_12, ho_13⟩
  have h_14 := h_8.gotRow hc_12 ho_13
  refine WL.q (Wn.no rfl) rfl rfl (R.nilCheck rfl) ?_
  refine WL.q (Wn.no rfl) rfl rfl (R.fieldAddr (b := bc) (off := 0) (off' := 72) rfl Try.underlying55 rfl Try.sizeOf26 rfl rfl) ?_
  refine WL.store1 (b := bc) (off := 72) (v := (.slice a_9 ([rsL mg, bs].flatten.length) cap_10)) h_14 rfl rfl Try.sizeOf26 rfl (At.t (At.t At.h)) (by decide) (Sg.t rfl (Sg.t rfl Sg.h)) (fun w_15 h_16 => ?_)
  refine WL.nil ?_
  refine thn_n ?_
  refine WP.seq ?_
  refine WP.block ?_
  have hf_18 := Own.blk (h_16.own (.head _))
  have hq_19 := (h_16.own (.head _)).2.2.1
  have h_17 := h_16.rowView
  have h_20 := h_17.up (Pick.t Pick.h)
  have h_21 := h_20.drop rfl
  have h_22 := h_21.up (Pick.t (Pick.t Pick.h))
  have h_23 := h_22.drop rfl
  have h_24 := h_23.up (Pick.t (Pick.t Pick.h))
  have h_25 := h_24.up (Pick.t Pick.h)
  have h_26 := h_25.up (Pick.t (Pick.t Pick.h))
  have hbl : (mg ++ bs).length = mg.length + n := by rw [List.length_append, hl]
  rw [wr_0 mg bs, wr_r mg bs] at h_26
  rw [wr_r mg bs] at hf_18 hq_19
  refine WP.loopG (G := Nat × Option Addr × Nat × Nat) [27, 28, 29, 30, 31, 32, 33, 34, 35, 36, 37, 38, 39, 40, 41, 42, 43, 44, 45, 46, 47, 48, 49, 50, 51, 52, 53, 54, 55, 56, 57] (fun (k, xa, xn, xc) => []) (fun (k, xa, xn, xc) m w1 => HP w w1 [.blk bc .ar 55 [(64, kL.map vu32), (8, (hs kL hL (mg ++ bs) k).map vu32), (1, [(.slice xa xn xc)]), (1, [(vi ((mg.length + n : Nat) : Int))]), (1, [(.bool true)])], .view xa (((mg ++ bs).drop (64 * k)).map vu8), .view a (bs.map vu8)] ∧ (((mg ++ bs).drop (64 * k)).length = xn) ∧ (xn ≤ xc) ∧ (64 * k ≤ mg.length + n) ∧ (∀ b ∈ (Ent.view xa (((mg ++ bs).drop (64 * k)).map vu8)).blocks, w.heap.size ≤ b) ∧ m = mg.length + n - 64 * k) ⟨(mg.length / 64, a_9, _, _), _, trivial, h_26, rfl, hq_19, (by omega), hf_18, rfl⟩ ?_
  rintro ⟨k, xa, xn, xc⟩ m_29 J_30 w_27 ⟨h_28, hxn, hxc, hk, hxf, rfl⟩
  have hdl : xn = mg.length + n - 64 * k := by rw [← hxn, List.length_drop, hbl]
  refine WP.seq ?_
  refine WP.seq ?_
  refine WP.reg ?_
  refine WL.q (Wn.no rfl) rfl rfl (R.move (v := (.pointer (some ⟨bc, 0, none⟩))) rfl) ?_
  refine WL.q (Wn.no rfl) rfl rfl (R.nilCheck rfl) ?_
  refine WL.q (Wn.no rfl) rfl rfl (R.fieldAddr (b := bc) (off := 0) (off' := 72) rfl Try.underlying55 rfl Try.sizeOf26 rfl rfl) ?_
  refine WL.q (Wn.no rfl) rfl rfl (R.load1 (b := bc) (off := 72) (v := (.slice xa xn xc)) rfl Try.isAgg26 (h_28.ok _ (.head _)) (Sg.t rfl (Sg.t rfl Sg.h))) ?_
  refine WL.q (Wn.no rfl) rfl rfl (R.lenS (a := xa) (m := xn) rfl rfl Try.underlying26) ?_
  refine WL.q (Wn.no rfl) rfl rfl (R.bin (v := (.bool (decide ((((xn : Nat) : Int) : Int) ≥ 64)))) rfl rfl (bi_geq (r := decide ((((xn : Nat) : Int) : Int) ≥ 64)) rfl)) ?_
  refine WL.nil ?_
  refine thn_n ?_
  refine WP.cond (b := decide ((((xn : Nat) : Int) : Int) ≥ 64)) rfl (fun c_31 => ?_) (fun c_31 => ?_)
  · have p_32 := of_decide_eq_true c_31
    refine WP.skip ?_
    refine thn_n ?_
    refine WP.block ?_
    refine WP.seq ?_
    refine WP.cutG (G := Unit) [33, 34, 35, 36, 37, 38, 39, 40, 41, 42, 43, 44, 45, 46, 47, 48, 49] (fun _ => [(33, (.pointer (some ⟨bc, 0, none⟩))), (34, (.pointer (some ⟨bc, 0, none⟩))), (35, (.pointer (some ⟨bc, 0, none⟩))), (36, (.pointer (some ⟨bc, 64, none⟩))), (38, (.pointer (some ⟨bc, 0, none⟩))), (39, (.pointer (some ⟨bc, 0, none⟩))), (40, (.pointer (some ⟨bc, 72, none⟩))), (43, (.pointer (some ⟨bc, 0, none⟩))), (44, (.pointer (some ⟨bc, 0, none⟩))), (45, (.pointer (some ⟨bc, 0, none⟩))), (37, (.agg ⟨(hs kL hL (mg ++ bs) k).map vu32⟩)), (41, (.slice xa xn xc)), (42, (.slice (slA xa 0 xc 1) 64 xc)), (46, (.agg ⟨kL.map vu32⟩)), (47, (.agg ⟨(pressL kL (hs kL hL (mg ++ bs) k) ((((mg ++ bs).drop (64 * k)).drop 0).take 64)).map vu32⟩)), (48, (.pointer (some ⟨bc, 0, none⟩))), (49, (.pointer (some ⟨bc, 64, none⟩)))]) (fun _ w1 => HP w w1 [.blk bc .ar 55 [(64, kL.map vu32), (8, (pressL kL (hs kL hL (mg ++ bs) k) ((((mg ++ bs).drop (64 * k)).drop 0).take 64)).map vu32), (1, [(.slice xa xn xc)]), (1, [(vi ((mg.length + n : Nat) : Int))]), (1, [(.bool true)])], .view xa (((mg ++ bs).drop (64 * k)).map vu8), .view a (bs.map vu8)]) ?_ ?_
    · refine WP.drawT (SL w.heap.size [.view xa (((mg ++ bs).drop (64 * k)).map vu8), .view a (bs.map vu8)]) (.q 0 (.q 1 (.q 2 (.q 3 (.q 5 (.q 6 (.q 7 (.q 10 (.q 11 (.q 12 (.s3 4 8 13 (.s2 8 13 (.q 9 (.s 13 (.s 14 (.q 15 (.q 16 (.s 17 .nil)))))) (.s 8 (.q 9 (.s 14 (.q 15 (.q 16 (.s 17 .nil))))))) (.q 9 (.s2 4 13 (.s 13 (.s 14 (.q 15 (.q 16 (.s 17 .nil))))) (.s 4 (.s 14 (.q 15 (.q 16 (.s 17 .nil))))))) (.s2 4 8 (.s 8 (.q 9 (.s 14 (.q 15 (.q 16 (.s 17 .nil)))))) (.q 9 (.s 4 (.s 14 (.q 15 (.q 16 (.s 17 .nil)))))))))))))))))) (by kernel_rfl) (by kernel_rfl) rfl (by kernel_rfl) (fun w_33 hc_35 => (SL.cons ((h_28.same hc_35).ok _ (.tail _ (.head _))) (SL.cons ((h_28.same hc_35).ok _ (.tail _ (.tail _ (.head _)))) (SL.nil _ _)))) (fun w_33 hc_35 => ?_)
      have h_34 := h_28.same hc_35
      refine WT.q rfl (Wn.no rfl) rfl rfl (fun wq hS => R.move (v := (.pointer (some ⟨bc, 0, none⟩))) rfl) ?_
      refine WT.q rfl (Wn.no rfl) rfl rfl (fun wq hS => R.move (v := (.pointer (some ⟨bc, 0, none⟩))) rfl) ?_
      refine WT.q rfl (Wn.no rfl) rfl rfl (fun wq hS => R.nilCheck rfl) ?_
      refine WT.q rfl (Wn.no rfl) rfl rfl (fun wq hS => R.fieldAddr (b := bc) (off := 0) (off' := 64) rfl Try.underlying55 rfl Try.sizeOf33 rfl rfl) ?_
      refine WT.q rfl (Wn.no rfl) rfl rfl (fun wq hS => R.move (v := (.pointer (some ⟨bc, 0, none⟩))) rfl) ?_
      refine WT.q rfl (Wn.no rfl) rfl rfl (fun wq hS => R.nilCheck rfl) ?_
      refine WT.q rfl (Wn.no rfl) rfl rfl (fun wq hS => R.fieldAddr (b := bc) (off := 0) (off' := 72) rfl Try.underlying55 rfl Try.sizeOf26 rfl rfl) ?_
      refine WT.q rfl (Wn.no rfl) rfl rfl (fun wq hS => R.move (v := (.pointer (some ⟨bc, 0, none⟩))) rfl) ?_
      refine WT.q rfl (Wn.no rfl) rfl rfl (fun wq hS => R.nilCheck rfl) ?_
      refine WT.q rfl (Wn.no rfl) rfl rfl (fun wq hS => R.fieldAddr (b := bc) (off := 0) (off' := 0) rfl Try.underlying55 rfl Try.sizeOf53 rfl rfl) ?_
      refine WT.s3 ?_ ?_ ?_
      · refine Op1.one rfl (Wn.no rfl) ?_
        refine WL.q (Wn.no rfl) rfl rfl (R.loadA (b := bc) (off := 64) [(64, kL.map vu32)] [(8, (hs kL hL (mg ++ bs) k).map vu32)] [(1, [(.slice xa xn xc)]), (1, [(vi ((mg.length + n : Nat) : Int))]), (1, [(.bool true)])] (cs := (hs kL hL (mg ++ bs) k).map vu32) rfl Try.isAgg33 Try.sizeOf33 (h_34.ok _ (.head _)) rfl rfl rfl rfl) ?_
        refine WL.nil ?_
        refine ⟨(SL.cons (h_34.ok _ (.tail _ (.head _))) (SL.cons (h_34.ok _ (.tail _ (.tail _ (.head _)))) (SL.nil _ _))), ?_⟩
        refine WT.s2 ?_ ?_
        · refine Op1.one rfl (Wn.no rfl) ?_
          refine WL.q (Wn.no rfl) rfl rfl (R.load1 (b := bc) (off := 72) (v := (.slice xa xn xc)) rfl Try.isAgg26 (h_34.ok _ (.head _)) (Sg.t rfl (Sg.t rfl Sg.h))) ?_
          refine WL.nil ?_
          refine ⟨(SL.cons (h_34.ok _ (.tail _ (.head _))) (SL.cons (h_34.ok _ (.tail _ (.tail _ (.head _)))) (SL.nil _ _))), ?_⟩
          refine WT.q rfl (Wn.no rfl) rfl rfl (fun wq hS => R.sliceS (a := xa) (len := xn) (l := 0) (h := 64) rfl EvB.dflt (EvB.it (l := 64) rfl rfl) (by decide) (by omega) Try.underlying26 Try.sizeOf5) ?_
          refine WT.s ?_
          refine Op1.one rfl (Wn.no rfl) ?_
          refine WL.q (Wn.no rfl) rfl rfl (R.loadA (b := bc) (off := 0) [] [(64, kL.map vu32)] [(8, (hs kL hL (mg ++ bs) k).map vu32), (1, [(.slice xa xn xc)]), (1, [(vi ((mg.length + n : Nat) : Int))]), (1, [(.bool true)])] (cs := kL.map vu32) rfl Try.isAgg53 Try.sizeOf53 (h_34.ok _ (.head _)) rfl rfl rfl rfl) ?_
          refine WL.nil ?_
          refine ⟨(SL.cons (h_34.ok _ (.tail _ (.head _))) (SL.cons (h_34.ok _ (.tail _ (.tail _ (.head _)))) (SL.nil _ _))), ?_⟩
          refine WT.s ?_
          refine Op1.one rfl (Wn.no rfl) ?_
          refine WL.call (al := [(.agg ⟨(hs kL hL (mg ++ bs) k).map vu32⟩), (.slice (slA xa 0 xc 1) 64 xc), (.agg ⟨kL.map vu32⟩)]) Try.call56 rfl rfl (c_press (hs kL hL (mg ++ bs) k) kL (hs_len hL_len k) kL_len (slA xa 0 xc 1) xc ((((mg ++ bs).drop (64 * k)).drop 0).take 64) (subLen (K := xn) hxn (by omega) : List.length ((((mg ++ bs).drop (64 * k)).drop 0).take 64) = 64) (by omega) _ (View.slM (l := 0) (m := xc) (k := 64) (viewV (h_34.ok _ (.tail _ (.head _)))) (by omega))) rfl ?_
          rintro _ w_37 ⟨rfl, hc_36⟩
          have h_38 := h_34.same hc_36
          refine WL.nil ?_
          refine ⟨(SL.cons (h_38.ok _ (.tail _ (.head _))) (SL.cons (h_38.ok _ (.tail _ (.tail _ (.head _)))) (SL.nil _ _))), ?_⟩
          refine WT.q rfl (Wn.no rfl) rfl rfl (fun wq hS => R.nilCheck rfl) ?_
          refine WT.q rfl (Wn.no rfl) rfl rfl (fun wq hS => R.fieldAddr (b := bc) (off := 0) (off' := 64) rfl Try.underlying55 rfl Try.sizeOf33 rfl rfl) ?_
          refine WT.s ?_
          refine Op1.one rfl (Wn.no rfl) ?_
          refine WL.storeA (b := bc) (off := 64) [(64, kL.map vu32)] [(8, (hs kL hL (mg ++ bs) k).map vu32)] [(8, (pressL kL (hs kL hL (mg ++ bs) k) ((((mg ++ bs).drop (64 * k)).drop 0).take 64)).map vu32)] [(1, [(.slice xa xn xc)]), (1, [(vi ((mg.length + n : Nat) : Int))]), (1, [(.bool true)])] (ys := (pressL kL (hs kL hL (mg ++ bs) k) ((((mg ++ bs).drop (64 * k)).drop 0).take 64)).map vu32) h_38 rfl rfl Try.sizeOf33 At.h (by decide) rfl rfl rfl rfl rfl rfl (SsOk.cons (SOk.u32 (pressL_len ..)) SsOk.nil) (fun w_39 h_40 => ?_)
          refine WL.nil ?_
          refine ⟨(SL.cons (h_40.ok _ (.tail _ (.head _))) (SL.cons (h_40.ok _ (.tail _ (.tail _ (.head _)))) (SL.nil _ _))), ?_⟩
          refine WT.nil ?_
          refine thn_n ?_
          exact ⟨(), (Ag.upd rfl (Ag.upd rfl (Ag.upd rfl (Ag.upd rfl (Ag.upd rfl (Ag.upd rfl (Ag.upd rfl (Ag.upd rfl (Ag.upd rfl (Ag.upd rfl (Ag.upd rfl (Ag.upd rfl (Ag.upd rfl (Ag.upd rfl (Ag.upd rfl (Ag.upd rfl (Ag.upd rfl (Ag.refl _ _)))))))))))))))))), ⟨rfl, rfl, rfl, rfl, rfl, rfl, rfl, rfl, rfl, rfl, rfl, rfl, rfl, rfl, rfl, rfl, rfl, trivial⟩, h_40⟩
        · refine Op1.one rfl (Wn.no rfl) ?_
          refine WL.q (Wn.no rfl) rfl rfl (R.loadA (b := bc) (off := 0) [] [(64, kL.map vu32)] [(8, (hs kL hL (mg ++ bs) k).map vu32), (1, [(.slice xa xn xc)]), (1, [(vi ((mg.length + n : Nat) : Int))]), (1, [(.bool true)])] (cs := kL.map vu32) rfl Try.isAgg53 Try.sizeOf53 (h_34.ok _ (.head _)) rfl rfl rfl rfl) ?_
          refine WL.nil ?_
          refine ⟨(SL.cons (h_34.ok _ (.tail _ (.head _))) (SL.cons (h_34.ok _ (.tail _ (.tail _ (.head _)))) (SL.nil _ _))), ?_⟩
          refine WT.s ?_
          refine Op1.one rfl (Wn.no rfl) ?_
          refine WL.q (Wn.no rfl) rfl rfl (R.load1 (b := bc) (off := 72) (v := (.slice xa xn xc)) rfl Try.isAgg26 (h_34.ok _ (.head _)) (Sg.t rfl (Sg.t rfl Sg.h))) ?_
          refine WL.nil ?_
          refine ⟨(SL.cons (h_34.ok _ (.tail _ (.head _))) (SL.cons (h_34.ok _ (.tail _ (.tail _ (.head _)))) (SL.nil _ _))), ?_⟩
          refine WT.q rfl (Wn.no rfl) rfl rfl (fun wq hS => R.sliceS (a := xa) (len := xn) (l := 0) (h := 64) rfl EvB.dflt (EvB.it (l := 64) rfl rfl) (by decide) (by omega) Try.underlying26 Try.sizeOf5) ?_
          refine WT.s ?_
          refine Op1.one rfl (Wn.no rfl) ?_
          refine WL.call (al := [(.agg ⟨(hs kL hL (mg ++ bs) k).map vu32⟩), (.slice (slA xa 0 xc 1) 64 xc), (.agg ⟨kL.map vu32⟩)]) Try.call56 rfl rfl (c_press (hs kL hL (mg ++ bs) k) kL (hs_len hL_len k) kL_len (slA xa 0 xc 1) xc ((((mg ++ bs).drop (64 * k)).drop 0).take 64) (subLen (K := xn) hxn (by omega) : List.length ((((mg ++ bs).drop (64 * k)).drop 0).take 64) = 64) (by omega) _ (View.slM (l := 0) (m := xc) (k := 64) (viewV (h_34.ok _ (.tail _ (.head _)))) (by omega))) rfl ?_
          rintro _ w_42 ⟨rfl, hc_41⟩
          have h_43 := h_34.same hc_41
          refine WL.nil ?_
          refine ⟨(SL.cons (h_43.ok _ (.tail _ (.head _))) (SL.cons (h_43.ok _ (.tail _ (.tail _ (.head _)))) (SL.nil _ _))), ?_⟩
          refine WT.q rfl (Wn.no rfl) rfl rfl (fun wq hS => R.nilCheck rfl) ?_
          refine WT.q rfl (Wn.no rfl) rfl rfl (fun wq hS => R.fieldAddr (b := bc) (off := 0) (off' := 64) rfl Try.underlying55 rfl Try.sizeOf33 rfl rfl) ?_
          refine WT.s ?_
          refine Op1.one rfl (Wn.no rfl) ?_
          refine WL.storeA (b := bc) (off := 64) [(64, kL.map vu32)] [(8, (hs kL hL (mg ++ bs) k).map vu32)] [(8, (pressL kL (hs kL hL (mg ++ bs) k) ((((mg ++ bs).drop (64 * k)).drop 0).take 64)).map vu32)] [(1, [(.slice xa xn xc)]), (1, [(vi ((mg.length + n : Nat) : Int))]), (1, [(.bool true)])] (ys := (pressL kL (hs kL hL (mg ++ bs) k) ((((mg ++ bs).drop (64 * k)).drop 0).take 64)).map vu32) h_43 rfl rfl Try.sizeOf33 At.h (by decide) rfl rfl rfl rfl rfl rfl (SsOk.cons (SOk.u32 (pressL_len ..)) SsOk.nil) (fun w_44 h_45 => ?_)
          refine WL.nil ?_
          refine ⟨(SL.cons (h_45.ok _ (.tail _ (.head _))) (SL.cons (h_45.ok _ (.tail _ (.tail _ (.head _)))) (SL.nil _ _))), ?_⟩
          refine WT.nil ?_
          refine thn_n ?_
          exact ⟨(), (Ag.upd rfl (Ag.upd rfl (Ag.upd rfl (Ag.upd rfl (Ag.upd rfl (Ag.upd rfl (Ag.upd rfl (Ag.upd rfl (Ag.upd rfl (Ag.upd rfl (Ag.upd rfl (Ag.upd rfl (Ag.upd rfl (Ag.upd rfl (Ag.upd rfl (Ag.upd rfl (Ag.upd rfl (Ag.refl _ _)))))))))))))))))), ⟨rfl, rfl, rfl, rfl, rfl, rfl, rfl, rfl, rfl, rfl, rfl, rfl, rfl, rfl, rfl, rfl, rfl, trivial⟩, h_45⟩
      · refine Op1.one rfl (Wn.no rfl) ?_
        refine WL.q (Wn.no rfl) rfl rfl (R.load1 (b := bc) (off := 72) (v := (.slice xa xn xc)) rfl Try.isAgg26 (h_34.ok _ (.head _)) (Sg.t rfl (Sg.t rfl Sg.h))) ?_
        refine WL.nil ?_
        refine ⟨(SL.cons (h_34.ok _ (.tail _ (.head _))) (SL.cons (h_34.ok _ (.tail _ (.tail _ (.head _)))) (SL.nil _ _))), ?_⟩
        refine WT.q rfl (Wn.no rfl) rfl rfl (fun wq hS => R.sliceS (a := xa) (len := xn) (l := 0) (h := 64) rfl EvB.dflt (EvB.it (l := 64) rfl rfl) (by decide) (by omega) Try.underlying26 Try.sizeOf5) ?_
        refine WT.s2 ?_ ?_
        · refine Op1.one rfl (Wn.no rfl) ?_
          refine WL.q (Wn.no rfl) rfl rfl (R.loadA (b := bc) (off := 64) [(64, kL.map vu32)] [(8, (hs kL hL (mg ++ bs) k).map vu32)] [(1, [(.slice xa xn xc)]), (1, [(vi ((mg.length + n : Nat) : Int))]), (1, [(.bool true)])] (cs := (hs kL hL (mg ++ bs) k).map vu32) rfl Try.isAgg33 Try.sizeOf33 (h_34.ok _ (.head _)) rfl rfl rfl rfl) ?_
          refine WL.nil ?_
          refine ⟨(SL.cons (h_34.ok _ (.tail _ (.head _))) (SL.cons (h_34.ok _ (.tail _ (.tail _ (.head _)))) (SL.nil _ _))), ?_⟩
          refine WT.s ?_
          refine Op1.one rfl (Wn.no rfl) ?_
          refine WL.q (Wn.no rfl) rfl rfl (R.loadA (b := bc) (off := 0) [] [(64, kL.map vu32)] [(8, (hs kL hL (mg ++ bs) k).map vu32), (1, [(.slice xa xn xc)]), (1, [(vi ((mg.length + n : Nat) : Int))]), (1, [(.bool true)])] (cs := kL.map vu32) rfl Try.isAgg53 Try.sizeOf53 (h_34.ok _ (.head _)) rfl rfl rfl rfl) ?_
          refine WL.nil ?_
          refine ⟨(SL.cons (h_34.ok _ (.tail _ (.head _))) (SL.cons (h_34.ok _ (.tail _ (.tail _ (.head _)))) (SL.nil _ _))), ?_⟩
          refine WT.s ?_
          refine Op1.one rfl (Wn.no rfl) ?_
          refine WL.call (al := [(.agg ⟨(hs kL hL (mg ++ bs) k).map vu32⟩), (.slice (slA xa 0 xc 1) 64 xc), (.agg ⟨kL.map vu32⟩)]) Try.call56 rfl rfl (c_press (hs kL hL (mg ++ bs) k) kL (hs_len hL_len k) kL_len (slA xa 0 xc 1) xc ((((mg ++ bs).drop (64 * k)).drop 0).take 64) (subLen (K := xn) hxn (by omega) : List.length ((((mg ++ bs).drop (64 * k)).drop 0).take 64) = 64) (by omega) _ (View.slM (l := 0) (m := xc) (k := 64) (viewV (h_34.ok _ (.tail _ (.head _)))) (by omega))) rfl ?_
          rintro _ w_47 ⟨rfl, hc_46⟩
          have h_48 := h_34.same hc_46
          refine WL.nil ?_
          refine ⟨(SL.cons (h_48.ok _ (.tail _ (.head _))) (SL.cons (h_48.ok _ (.tail _ (.tail _ (.head _)))) (SL.nil _ _))), ?_⟩
          refine WT.q rfl (Wn.no rfl) rfl rfl (fun wq hS => R.nilCheck rfl) ?_
          refine WT.q rfl (Wn.no rfl) rfl rfl (fun wq hS => R.fieldAddr (b := bc) (off := 0) (off' := 64) rfl Try.underlying55 rfl Try.sizeOf33 rfl rfl) ?_
          refine WT.s ?_
          refine Op1.one rfl (Wn.no rfl) ?_
          refine WL.storeA (b := bc) (off := 64) [(64, kL.map vu32)] [(8, (hs kL hL (mg ++ bs) k).map vu32)] [(8, (pressL kL (hs kL hL (mg ++ bs) k) ((((mg ++ bs).drop (64 * k)).drop 0).take 64)).map vu32)] [(1, [(.slice xa xn xc)]), (1, [(vi ((mg.length + n : Nat) : Int))]), (1, [(.bool true)])] (ys := (pressL kL (hs kL hL (mg ++ bs) k) ((((mg ++ bs).drop (64 * k)).drop 0).take 64)).map vu32) h_48 rfl rfl Try.sizeOf33 At.h (by decide) rfl rfl rfl rfl rfl rfl (SsOk.cons (SOk.u32 (pressL_len ..)) SsOk.nil) (fun w_49 h_50 => ?_)
          refine WL.nil ?_
          refine ⟨(SL.cons (h_50.ok _ (.tail _ (.head _))) (SL.cons (h_50.ok _ (.tail _ (.tail _ (.head _)))) (SL.nil _ _))), ?_⟩
          refine WT.nil ?_
          refine thn_n ?_
          exact ⟨(), (Ag.upd rfl (Ag.upd rfl (Ag.upd rfl (Ag.upd rfl (Ag.upd rfl (Ag.upd rfl (Ag.upd rfl (Ag.upd rfl (Ag.upd rfl (Ag.upd rfl (Ag.upd rfl (Ag.upd rfl (Ag.upd rfl (Ag.upd rfl (Ag.upd rfl (Ag.upd rfl (Ag.upd rfl (Ag.refl _ _)))))))))))))))))), ⟨rfl, rfl, rfl, rfl, rfl, rfl, rfl, rfl, rfl, rfl, rfl, rfl, rfl, rfl, rfl, rfl, rfl, trivial⟩, h_50⟩
        · refine Op1.one rfl (Wn.no rfl) ?_
          refine WL.q (Wn.no rfl) rfl rfl (R.loadA (b := bc) (off := 0) [] [(64, kL.map vu32)] [(8, (hs kL hL (mg ++ bs) k).map vu32), (1, [(.slice xa xn xc)]), (1, [(vi ((mg.length + n : Nat) : Int))]), (1, [(.bool true)])] (cs := kL.map vu32) rfl Try.isAgg53 Try.sizeOf53 (h_34.ok _ (.head _)) rfl rfl rfl rfl) ?_
          refine WL.nil ?_
          refine ⟨(SL.cons (h_34.ok _ (.tail _ (.head _))) (SL.cons (h_34.ok _ (.tail _ (.tail _ (.head _)))) (SL.nil _ _))), ?_⟩
          refine WT.s ?_
          refine Op1.one rfl (Wn.no rfl) ?_
          refine WL.q (Wn.no rfl) rfl rfl (R.loadA (b := bc) (off := 64) [(64, kL.map vu32)] [(8, (hs kL hL (mg ++ bs) k).map vu32)] [(1, [(.slice xa xn xc)]), (1, [(vi ((mg.length + n : Nat) : Int))]), (1, [(.bool true)])] (cs := (hs kL hL (mg ++ bs) k).map vu32) rfl Try.isAgg33 Try.sizeOf33 (h_34.ok _ (.head _)) rfl rfl rfl rfl) ?_
          refine WL.nil ?_
          refine ⟨(SL.cons (h_34.ok _ (.tail _ (.head _))) (SL.cons (h_34.ok _ (.tail _ (.tail _ (.head _)))) (SL.nil _ _))), ?_⟩
          refine WT.s ?_
          refine Op1.one rfl (Wn.no rfl) ?_
          refine WL.call (al := [(.agg ⟨(hs kL hL (mg ++ bs) k).map vu32⟩), (.slice (slA xa 0 xc 1) 64 xc), (.agg ⟨kL.map vu32⟩)]) Try.call56 rfl rfl (c_press (hs kL hL (mg ++ bs) k) kL (hs_len hL_len k) kL_len (slA xa 0 xc 1) xc ((((mg ++ bs).drop (64 * k)).drop 0).take 64) (subLen (K := xn) hxn (by omega) : List.length ((((mg ++ bs).drop (64 * k)).drop 0).take 64) = 64) (by omega) _ (View.slM (l := 0) (m := xc) (k := 64) (viewV (h_34.ok _ (.tail _ (.head _)))) (by omega))) rfl ?_
          rintro _ w_52 ⟨rfl, hc_51⟩
          have h_53 := h_34.same hc_51
          refine WL.nil ?_
          refine ⟨(SL.cons (h_53.ok _ (.tail _ (.head _))) (SL.cons (h_53.ok _ (.tail _ (.tail _ (.head _)))) (SL.nil _ _))), ?_⟩
          refine WT.q rfl (Wn.no rfl) rfl rfl (fun wq hS => R.nilCheck rfl) ?_
          refine WT.q rfl (Wn.no rfl) rfl rfl (fun wq hS => R.fieldAddr (b := bc) (off := 0) (off' := 64) rfl Try.underlying55 rfl Try.sizeOf33 rfl rfl) ?_
          refine WT.s ?_
          refine Op1.one rfl (Wn.no rfl) ?_
          refine WL.storeA (b := bc) (off := 64) [(64, kL.map vu32)] [(8, (hs kL hL (mg ++ bs) k).map vu32)] [(8, (pressL kL (hs kL hL (mg ++ bs) k) ((((mg ++ bs).drop (64 * k)).drop 0).take 64)).map vu32)] [(1, [(.slice xa xn xc)]), (1, [(vi ((mg.length + n : Nat) : Int))]), (1, [(.bool true)])] (ys := (pressL kL (hs kL hL (mg ++ bs) k) ((((mg ++ bs).drop (64 * k)).drop 0).take 64)).map vu32) h_53 rfl rfl Try.sizeOf33 At.h (by decide) rfl rfl rfl rfl rfl rfl (SsOk.cons (SOk.u32 (pressL_len ..)) SsOk.nil) (fun w_54 h_55 => ?_)
          refine WL.nil ?_
          refine ⟨(SL.cons (h_55.ok _ (.tail _ (.head _))) (SL.cons (h_55.ok _ (.tail _ (.tail _ (.head _)))) (SL.nil _ _))), ?_⟩
          refine WT.nil ?_
          refine thn_n ?_
          exact ⟨(), (Ag.upd rfl (Ag.upd rfl (Ag.upd rfl (Ag.upd rfl (Ag.upd rfl (Ag.upd rfl (Ag.upd rfl (Ag.upd rfl (Ag.upd rfl (Ag.upd rfl (Ag.upd rfl (Ag.upd rfl (Ag.upd rfl (Ag.upd rfl (Ag.upd rfl (Ag.upd rfl (Ag.upd rfl (Ag.refl _ _)))))))))))))))))), ⟨rfl, rfl, rfl, rfl, rfl, rfl, rfl, rfl, rfl, rfl, rfl, rfl, rfl, rfl, rfl, rfl, rfl, trivial⟩, h_55⟩
      · refine Op1.one rfl (Wn.no rfl) ?_
        refine WL.q (Wn.no rfl) rfl rfl (R.loadA (b := bc) (off := 0) [] [(64, kL.map vu32)] [(8, (hs kL hL (mg ++ bs) k).map vu32), (1, [(.slice xa xn xc)]), (1, [(vi ((mg.length + n : Nat) : Int))]), (1, [(.bool true)])] (cs := kL.map vu32) rfl Try.isAgg53 Try.sizeOf53 (h_34.ok _ (.head _)) rfl rfl rfl rfl) ?_
        refine WL.nil ?_
        refine ⟨(SL.cons (h_34.ok _ (.tail _ (.head _))) (SL.cons (h_34.ok _ (.tail _ (.tail _ (.head _)))) (SL.nil _ _))), ?_⟩
        refine WT.s2 ?_ ?_
        · refine Op1.one rfl (Wn.no rfl) ?_
          refine WL.q (Wn.no rfl) rfl rfl (R.loadA (b := bc) (off := 64) [(64, kL.map vu32)] [(8, (hs kL hL (mg ++ bs) k).map vu32)] [(1, [(.slice xa xn xc)]), (1, [(vi ((mg.length + n : Nat) : Int))]), (1, [(.bool true)])] (cs := (hs kL hL (mg ++ bs) k).map vu32) rfl Try.isAgg33 Try.sizeOf33 (h_34.ok _ (.head _)) rfl rfl rfl rfl) ?_
          refine WL.nil ?_
          refine ⟨(SL.cons (h_34.ok _ (.tail _ (.head _))) (SL.cons (h_34.ok _ (.tail _ (.tail _ (.head _)))) (SL.nil _ _))), ?_⟩
          refine WT.s ?_
          refine Op1.one rfl (Wn.no rfl) ?_
          refine WL.q (Wn.no rfl) rfl rfl (R.load1 (b := bc) (off := 72) (v := (.slice xa xn xc)) rfl Try.isAgg26 (h_34.ok _ (.head _)) (Sg.t rfl (Sg.t rfl Sg.h))) ?_
          refine WL.nil ?_
          refine ⟨(SL.cons (h_34.ok _ (.tail _ (.head _))) (SL.cons (h_34.ok _ (.tail _ (.tail _ (.head _)))) (SL.nil _ _))), ?_⟩
          refine WT.q rfl (Wn.no rfl) rfl rfl (fun wq hS => R.sliceS (a := xa) (len := xn) (l := 0) (h := 64) rfl EvB.dflt (EvB.it (l := 64) rfl rfl) (by decide) (by omega) Try.underlying26 Try.sizeOf5) ?_
          refine WT.s ?_
          refine Op1.one rfl (Wn.no rfl) ?_
          refine WL.call (al := [(.agg ⟨(hs kL hL (mg ++ bs) k).map vu32⟩), (.slice (slA xa 0 xc 1) 64 xc), (.agg ⟨kL.map vu32⟩)]) Try.call56 rfl rfl (c_press (hs kL hL (mg ++ bs) k) kL (hs_len hL_len k) kL_len (slA xa 0 xc 1) xc ((((mg ++ bs).drop (64 * k)).drop 0).take 64) (subLen (K := xn) hxn (by omega) : List.length ((((mg ++ bs).drop (64 * k)).drop 0).take 64) = 64) (by omega) _ (View.slM (l := 0) (m := xc) (k := 64) (viewV (h_34.ok _ (.tail _ (.head _)))) (by omega))) rfl ?_
          rintro _ w_57 ⟨rfl, hc_56⟩
          have h_58 := h_34.same hc_56
          refine WL.nil ?_
          refine ⟨(SL.cons (h_58.ok _ (.tail _ (.head _))) (SL.cons (h_58.ok _ (.tail _ (.tail _ (.head _)))) (SL.nil _ _))), ?_⟩
          refine WT.q rfl (Wn.no rfl) rfl rfl (fun wq hS => R.nilCheck rfl) ?_
          refine WT.q rfl (Wn.no rfl) rfl rfl (fun wq hS => R.fieldAddr (b := bc) (off := 0) (off' := 64) rfl Try.underlying55 rfl Try.sizeOf33 rfl rfl) ?_
          refine WT.s ?_
          refine Op1.one rfl (Wn.no rfl) ?_
          refine WL.storeA (b := bc) (off := 64) [(64, kL.map vu32)] [(8, (hs kL hL (mg ++ bs) k).map vu32)] [(8, (pressL kL (hs kL hL (mg ++ bs) k) ((((mg ++ bs).drop (64 * k)).drop 0).take 64)).map vu32)] [(1, [(.slice xa xn xc)]), (1, [(vi ((mg.length + n : Nat) : Int))]), (1, [(.bool true)])] (ys := (pressL kL (hs kL hL (mg ++ bs) k) ((((mg ++ bs).drop (64 * k)).drop 0).take 64)).map vu32) h_58 rfl rfl Try.sizeOf33 At.h (by decide) rfl rfl rfl rfl rfl rfl (SsOk.cons (SOk.u32 (pressL_len ..)) SsOk.nil) (fun w_59 h_60 => ?_)
          refine WL.nil ?_
          refine ⟨(SL.cons (h_60.ok _ (.tail _ (.head _))) (SL.cons (h_60.ok _ (.tail _ (.tail _ (.head _)))) (SL.nil _ _))), ?_⟩
          refine WT.nil ?_
          refine thn_n ?_
          exact ⟨(), (Ag.upd rfl (Ag.upd rfl (Ag.upd rfl (Ag.upd rfl (Ag.upd rfl (Ag.upd rfl (Ag.upd rfl (Ag.upd rfl (Ag.upd rfl (Ag.upd rfl (Ag.upd rfl (Ag.upd rfl (Ag.upd rfl (Ag.upd rfl (Ag.upd rfl (Ag.upd rfl (Ag.upd rfl (Ag.refl _ _)))))))))))))))))), ⟨rfl, rfl, rfl, rfl, rfl, rfl, rfl, rfl, rfl, rfl, rfl, rfl, rfl, rfl, rfl, rfl, rfl, trivial⟩, h_60⟩
        · refine Op1.one rfl (Wn.no rfl) ?_
          refine WL.q (Wn.no rfl) rfl rfl (R.load1 (b := bc) (off := 72) (v := (.slice xa xn xc)) rfl Try.isAgg26 (h_34.ok _ (.head _)) (Sg.t rfl (Sg.t rfl Sg.h))) ?_
          refine WL.nil ?_
          refine ⟨(SL.cons (h_34.ok _ (.tail _ (.head _))) (SL.cons (h_34.ok _ (.tail _ (.tail _ (.head _)))) (SL.nil _ _))), ?_⟩
          refine WT.q rfl (Wn.no rfl) rfl rfl (fun wq hS => R.sliceS (a := xa) (len := xn) (l := 0) (h := 64) rfl EvB.dflt (EvB.it (l := 64) rfl rfl) (by decide) (by omega) Try.underlying26 Try.sizeOf5) ?_
          refine WT.s ?_
          refine Op1.one rfl (Wn.no rfl) ?_
          refine WL.q (Wn.no rfl) rfl rfl (R.loadA (b := bc) (off := 64) [(64, kL.map vu32)] [(8, (hs kL hL (mg ++ bs) k).map vu32)] [(1, [(.slice xa xn xc)]), (1, [(vi ((mg.length + n : Nat) : Int))]), (1, [(.bool true)])] (cs := (hs kL hL (mg ++ bs) k).map vu32) rfl Try.isAgg33 Try.sizeOf33 (h_34.ok _ (.head _)) rfl rfl rfl rfl) ?_
          refine WL.nil ?_
          refine ⟨(SL.cons (h_34.ok _ (.tail _ (.head _))) (SL.cons (h_34.ok _ (.tail _ (.tail _ (.head _)))) (SL.nil _ _))), ?_⟩
          refine WT.s ?_
          refine Op1.one rfl (Wn.no rfl) ?_
          refine WL.call (al := [(.agg ⟨(hs kL hL (mg ++ bs) k).map vu32⟩), (.slice (slA xa 0 xc 1) 64 xc), (.agg ⟨kL.map vu32⟩)]) Try.call56 rfl rfl (c_press (hs kL hL (mg ++ bs) k) kL (hs_len hL_len k) kL_len (slA xa 0 xc 1) xc ((((mg ++ bs).drop (64 * k)).drop 0).take 64) (subLen (K := xn) hxn (by omega) : List.length ((((mg ++ bs).drop (64 * k)).drop 0).take 64) = 64) (by omega) _ (View.slM (l := 0) (m := xc) (k := 64) (viewV (h_34.ok _ (.tail _ (.head _)))) (by omega))) rfl ?_
          rintro _ w_62 ⟨rfl, hc_61⟩
          have h_63 := h_34.same hc_61
          refine WL.nil ?_
          refine ⟨(SL.cons (h_63.ok _ (.tail _ (.head _))) (SL.cons (h_63.ok _ (.tail _ (.tail _ (.head _)))) (SL.nil _ _))), ?_⟩
          refine WT.q rfl (Wn.no rfl) rfl rfl (fun wq hS => R.nilCheck rfl) ?_
          refine WT.q rfl (Wn.no rfl) rfl rfl (fun wq hS => R.fieldAddr (b := bc) (off := 0) (off' := 64) rfl Try.underlying55 rfl Try.sizeOf33 rfl rfl) ?_
          refine WT.s ?_
          refine Op1.one rfl (Wn.no rfl) ?_
          refine WL.storeA (b := bc) (off := 64) [(64, kL.map vu32)] [(8, (hs kL hL (mg ++ bs) k).map vu32)] [(8, (pressL kL (hs kL hL (mg ++ bs) k) ((((mg ++ bs).drop (64 * k)).drop 0).take 64)).map vu32)] [(1, [(.slice xa xn xc)]), (1, [(vi ((mg.length + n : Nat) : Int))]), (1, [(.bool true)])] (ys := (pressL kL (hs kL hL (mg ++ bs) k) ((((mg ++ bs).drop (64 * k)).drop 0).take 64)).map vu32) h_63 rfl rfl Try.sizeOf33 At.h (by decide) rfl rfl rfl rfl rfl rfl (SsOk.cons (SOk.u32 (pressL_len ..)) SsOk.nil) (fun w_64 h_65 => ?_)
          refine WL.nil ?_
          refine ⟨(SL.cons (h_65.ok _ (.tail _ (.head _))) (SL.cons (h_65.ok _ (.tail _ (.tail _ (.head _)))) (SL.nil _ _))), ?_⟩
          refine WT.nil ?_
          refine thn_n ?_
          exact ⟨(), (Ag.upd rfl (Ag.upd rfl (Ag.upd rfl (Ag.upd rfl (Ag.upd rfl (Ag.upd rfl (Ag.upd rfl (Ag.upd rfl (Ag.upd rfl (Ag.upd rfl (Ag.upd rfl (Ag.upd rfl (Ag.upd rfl (Ag.upd rfl (Ag.upd rfl (Ag.upd rfl (Ag.upd rfl (Ag.refl _ _)))))))))))))))))), ⟨rfl, rfl, rfl, rfl, rfl, rfl, rfl, rfl, rfl, rfl, rfl, rfl, rfl, rfl, rfl, rfl, rfl, trivial⟩, h_65⟩
    · rintro _ J_66 w_67 h_68
      refine thn_n ?_
      refine WP.reg ?_
      refine WL.q (Wn.no rfl) rfl rfl (R.move (v := (.pointer (some ⟨bc, 0, none⟩))) rfl) ?_
      refine WL.q (Wn.no rfl) rfl rfl (R.move (v := (.pointer (some ⟨bc, 0, none⟩))) rfl) ?_
      refine WL.q (Wn.no rfl) rfl rfl (R.nilCheck rfl) ?_
      refine WL.q (Wn.no rfl) rfl rfl (R.fieldAddr (b := bc) (off := 0) (off' := 72) rfl Try.underlying55 rfl Try.sizeOf26 rfl rfl) ?_
      refine WL.q (Wn.no rfl) rfl rfl (R.load1 (b := bc) (off := 72) (v := (.slice xa xn xc)) rfl Try.isAgg26 (h_68.ok _ (.head _)) (Sg.t rfl (Sg.t rfl Sg.h))) ?_
      refine WL.q (Wn.no rfl) rfl rfl (R.sliceS (a := xa) (len := xn) (l := 64) (h := xn) rfl (EvB.it (l := 64) rfl rfl) EvB.dflt (by omega) (by omega) Try.underlying26 Try.sizeOf5) ?_
      have h_69 := HP.viewDrop (m := 64) (q := xc) h_68 (.tail _ (.head _)) (by omega)
      refine WL.q (Wn.no rfl) rfl rfl (R.nilCheck rfl) ?_
      refine WL.q (Wn.no rfl) rfl rfl (R.fieldAddr (b := bc) (off := 0) (off' := 72) rfl Try.underlying55 rfl Try.sizeOf26 rfl rfl) ?_
      refine WL.store1 (b := bc) (off := 72) (v := (.slice (slA xa 64 xc 1) (xn - 64) (xc - 64))) h_69 rfl rfl Try.sizeOf26 rfl (At.t At.h) (by decide) (Sg.t rfl (Sg.t rfl Sg.h)) (fun w_70 h_71 => ?_)
      refine WL.nil ?_
      refine inb_n ?_
      refine thn_n ?_
      have h_72 := h_71.up (Pick.t (Pick.t Pick.h))
      have h_73 := h_72.drop rfl
      have h_74 := h_73.up (Pick.t (Pick.t Pick.h))
      have h_75 := h_74.up (Pick.t Pick.h)
      have h_76 := h_75.up (Pick.t (Pick.t Pick.h))
      have es : pressL kL (hs kL hL (mg ++ bs) k) ((((mg ++ bs).drop (64 * k)).drop 0).take 64) = hs kL hL (mg ++ bs) (k + 1) := wr_step rfl
      have ed := wr_drop (mg ++ bs) k
      rw [es, ed] at h_76
      have hxf2 : ∀ b ∈ (Ent.view (slA xa 64 xc 1) (((mg ++ bs).drop (64 * (k + 1))).map vu8)).blocks, w.heap.size ≤ b := fun b hb => hxf b (view_sl_blocks (l := (mg ++ bs).drop (64 * k)) (l' := (mg ++ bs).drop (64 * (k + 1))) (fun h2 e => h2 (by rw [← ed, e]; rfl)) b hb)
      exact ⟨(k + 1, slA xa 64 xc 1, xn - 64, xc - 64), _, (by omega), (Ag.upd rfl (Ag.upd rfl (Ag.upd rfl (Ag.upd rfl (Ag.upd rfl (Ag.upd rfl (Ag.upd rfl (Ag.upd rfl (Ag.updL rfl (Ag.trans (Ag.sub rfl (Ag.mix _ _ _)) (Ag.upd rfl (Ag.upd rfl (Ag.upd rfl (Ag.upd rfl (Ag.upd rfl (Ag.upd rfl (Ag.updL rfl (Ag.mix _ _ _)))))))))))))))))), trivial, h_76, (by rw [List.length_drop, hbl]; omega), (by omega), (by omega), hxf2, rfl⟩
  · have p_77 := of_decide_eq_false c_31
    refine WP.exit ?_
    refine thn_x ?_
    refine thn_x ?_
    refine inb_hit ?_
    refine thn_n ?_
    refine WP.seq ?_
    refine WP.reg ?_
    refine WL.q (Wn.no rfl) rfl rfl (R.assign (v := (vi 0)) rfl) ?_
    refine WL.nil ?_
    refine thn_n ?_
    refine WP.ret ?_
    refine ret_of Try.results30 (RV.tmp (v := (vi 0)) rfl RV.nil) ?_
    have hdl2 : xn = mg.length + n - 64 * k := by rw [← hxn, List.length_drop, hbl]
    have hk2 : k = (mg ++ bs).length / 64 := by omega
    have hcl := h_28.cells (.head _)
    have hvw := viewV (h_28.ok _ (.tail _ (.head _)))
    rw [hk2] at hxn hxf hvw hcl
    rw [← hbl] at hcl
    exact ⟨rfl, h_28.chgS, xa, xn, xc, hcl, hvw, hxn, hxc, fun x hx => ⟨hxf x hx, fun e => by have h1 := hxf x hx; have h2 := hcb.2.2; rw [e] at h1; exact absurd h1 (Nat.not_le.2 h2)⟩⟩
end Go.Proofs.Ytelkjcigdhgcoaa
