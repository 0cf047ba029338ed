/- Leaves of blobs: contracts. Conditions: those that each theorem states. -/
import Derived.Test.YtbldmljbfokobaaQ7
namespace Go.Proofs.Ytbldmljbfokobaa
open Go.Vc Go.Orc Go.RowKit
set_option linter.unusedVariables false
set_option linter.unusedSimpArgs false
set_option maxRecDepth 20000

theorem c_bask_z (bc : Nat) (pg : Int) (ct : UInt64) (w : World) (hcb : (Ent.blk bc .ro 47 [(1, [(.bool false)]), (32, (List.replicate 32 (0 : UInt8)).map vu8), (1, [(.slice none 0 0)]), (1, [(vi 0)]), (1, [(.map none)]), (1, [(.slice none 0 0)])]).ok w.heap.size w) :
    Cs Try.prog 84 [(.pointer (some ⟨bc, 0, none⟩)), (vi pg), (vu64 ct)].toArray w (fun v w1 => v = (vi 1) ∧ Chg w w1 []) := by
  refine Cs.of (n := 29) (args := [(.pointer (some ⟨bc, 0, none⟩)), (vi pg), (vu64 ct)]) Try.func84 rfl rfl rfl ?_
  have h_0 := HP.init w
  have h_00 := h_0.old hcb (fun f hf => by cases hf)
  refine WP.seq ?_
  refine WP.reg ?_
  refine WL.q (Wn.no rfl) rfl rfl (R.assign (v := (vi 0)) rfl) ?_
  refine WL.nil ?_
  refine thn_n ?_
  refine WP.seq ?_
  refine WP.seq ?_
  refine WP.reg ?_
  refine WL.q (Wn.no rfl) rfl rfl (R.move (v := (.pointer (some ⟨bc, 0, none⟩))) rfl) ?_
  refine WL.q (Wn.no rfl) rfl rfl (R.buildS (pl := [(0, 1), (1, 32), (33, 1), (34, 1)]) (zs := [(1, [(vi 0)]), (32, (List.replicate 32 (0 : UInt8)).map vu8), (1, [(vi 0)]), (1, [(.slice none 0 0)])]) (vs := []) (out := [(1, [(vi 0)]), (32, (List.replicate 32 (0 : UInt8)).map vu8), (1, [(vi 0)]), (1, [(.slice none 0 0)])]) (cs := flat [(1, [(vi 0)]), (32, (List.replicate 32 (0 : UInt8)).map vu8), (1, [(vi 0)]), (1, [(.slice none 0 0)])]) Try.underlying64 (zv Try.typeInfo64 rfl) rfl (SsOk.cons (SOk.v rfl) (SsOk.cons (SOk.u8 (List.length_replicate ..)) (SsOk.cons (SOk.v rfl) (SsOk.cons (SOk.v rfl) SsOk.nil)))) (pl64 _ Try.underlying64) rfl FillR.nil rfl) ?_
  refine WL.call (al := [(.pointer (some ⟨bc, 0, none⟩)), (.agg ⟨flat [(1, [(vi 0)]), (32, (List.replicate 32 (0 : UInt8)).map vu8), (1, [(vi 0)]), (1, [(.slice none 0 0)])]⟩)]) Try.call25 rfl rfl (c_oAsk_z bc 0 0 (List.replicate 32 (0 : UInt8)) none 0 0 (List.length_replicate ..) _ (h_00.argR (.head _))) rfl ?_
  rintro _ w_3 ⟨rfl, hc_2⟩
  have h_4 := h_00.same hc_2
  refine WL.q (Wn.no rfl) rfl rfl (R.move (v := (.tuple [(.agg ⟨(List.replicate 32 (0 : UInt8)).map vu8⟩), (vi 1)].toArray)) rfl) ?_
  refine WL.q (Wn.no rfl) rfl rfl (R.extract (l := [(.agg ⟨(List.replicate 32 (0 : UInt8)).map vu8⟩), (vi 1)]) (v := (.agg ⟨(List.replicate 32 (0 : UInt8)).map vu8⟩)) rfl rfl) ?_
  refine WL.q (Wn.no rfl) rfl rfl (R.extract (l := [(.agg ⟨(List.replicate 32 (0 : UInt8)).map vu8⟩), (vi 1)]) (v := (vi 1)) rfl rfl) ?_
  refine WL.alloc (segs := [(32, (List.replicate 32 (0 : UInt8)).map vu8)]) h_4 (zv Try.typeInfo29 rfl) rfl (SsOk.cons (SOk.u8 (List.length_replicate ..)) SsOk.nil) rfl (fun b_5 w_6 h_7 => ?_)
  refine WL.storeA (b := b_5) (off := 0) [] [(32, (List.replicate 32 (0 : UInt8)).map vu8)] [(32, (List.replicate 32 (0 : UInt8)).map vu8)] [] (ys := (List.replicate 32 (0 : UInt8)).map vu8) h_7 rfl rfl Try.sizeOf29 At.h (by decide) rfl rfl rfl rfl rfl rfl (SsOk.cons (SOk.u8 (List.length_replicate ..)) SsOk.nil) (fun w_8 h_9 => ?_)
  refine WL.q (Wn.no rfl) rfl rfl (R.assign (v := (vi 1)) rfl) ?_
  refine WL.nil ?_
  refine thn_n ?_
  refine WP.block ?_
  refine WP.seq ?_
  refine WP.reg ?_
  refine WL.q (Wn.no rfl) rfl rfl (R.move (v := (vi 1)) rfl) ?_
  refine WL.q (Wn.no rfl) rfl rfl (R.bin (v := (.bool true)) rfl rfl (bi_eql (r := true) (by decide))) ?_
  refine WL.q (Wn.no rfl) rfl rfl (R.assign (v := (.bool true)) rfl) ?_
  refine WL.nil ?_
  refine thn_n ?_
  refine WP.condT rfl ?_
  refine WP.seq ?_
  refine WP.reg ?_
  refine WL.q (Wn.no rfl) rfl rfl (R.assign (v := (vi 1)) rfl) ?_
  refine WL.nil ?_
  refine thn_n ?_
  refine WP.ret ?_
  refine inb_r ?_
  refine thn_r ?_
  refine ret_of Try.results84 (RV.tmp (v := (vi 1)) rfl RV.nil) ?_
  exact ⟨rfl, h_9.chgS⟩

theorem c_bask_ct (ob mp : Nat) (ms : List UInt8) (hms : ms.length = 32) (da : Option Addr) (dn dc u : Nat) (la : Option Addr) (ln lc : Nat) (pg : Nat) (ct : UInt64) (h : pg < 128) (hct : ct > 4294967296) (w : World) (hcb : (Ent.blk ob .ro 47 [(1, [(.bool true)]), (32, ms.map vu8), (1, [(.slice da dn dc)]), (1, [(vi ((u : Nat) : Int))]), (1, [(.map (some mp))]), (1, [(.slice la ln lc)])]).ok w.heap.size w) :
    Cs Try.prog 84 [(.pointer (some ⟨ob, 0, none⟩)), (vi ((pg : Nat) : Int)), (vu64 ct)].toArray w (fun v w1 => v = (vi 2) ∧ Chg w w1 []) := by
  refine Cs.of (n := 29) (args := [(.pointer (some ⟨ob, 0, none⟩)), (vi ((pg : Nat) : Int)), (vu64 ct)]) Try.func84 rfl rfl rfl ?_
  have h_0 := HP.init w
  have h_00 := h_0.old hcb (fun f hf => by cases hf)
  refine WP.seq ?_
  refine WP.reg ?_
  refine WL.q (Wn.no rfl) rfl rfl (R.assign (v := (vi 0)) rfl) ?_
  refine WL.nil ?_
  refine thn_n ?_
  refine WP.seq ?_
  refine WP.seq ?_
  refine WP.reg ?_
  refine WL.q (Wn.no rfl) rfl rfl (R.move (v := (.pointer (some ⟨ob, 0, none⟩))) rfl) ?_
  refine WL.q (Wn.no rfl) rfl rfl (R.buildS (pl := [(0, 1), (1, 32), (33, 1), (34, 1)]) (zs := [(1, [(vi 0)]), (32, (List.replicate 32 (0 : UInt8)).map vu8), (1, [(vi 0)]), (1, [(.slice none 0 0)])]) (vs := []) (out := [(1, [(vi 0)]), (32, (List.replicate 32 (0 : UInt8)).map vu8), (1, [(vi 0)]), (1, [(.slice none 0 0)])]) (cs := flat [(1, [(vi 0)]), (32, (List.replicate 32 (0 : UInt8)).map vu8), (1, [(vi 0)]), (1, [(.slice none 0 0)])]) Try.underlying64 (zv Try.typeInfo64 rfl) rfl (SsOk.cons (SOk.v rfl) (SsOk.cons (SOk.u8 (List.length_replicate ..)) (SsOk.cons (SOk.v rfl) (SsOk.cons (SOk.v rfl) SsOk.nil)))) (pl64 _ Try.underlying64) rfl FillR.nil rfl) ?_
  refine WL.call (al := [(.pointer (some ⟨ob, 0, none⟩)), (.agg ⟨flat [(1, [(vi 0)]), (32, (List.replicate 32 (0 : UInt8)).map vu8), (1, [(vi 0)]), (1, [(.slice none 0 0)])]⟩)]) Try.call25 rfl rfl (c_oAsk_0 ob mp ms hms da dn dc u la ln lc 0 (List.replicate 32 (0 : UInt8)) none 0 0 (List.length_replicate ..) _ (h_00.argR (.head _))) rfl ?_
  rintro _ w_3 ⟨rfl, hc_2⟩
  have h_4 := h_00.same hc_2
  refine WL.q (Wn.no rfl) rfl rfl (R.move (v := (.tuple [(.agg ⟨(List.replicate 32 (0 : UInt8)).map vu8⟩), (vi 2)].toArray)) rfl) ?_
  refine WL.q (Wn.no rfl) rfl rfl (R.extract (l := [(.agg ⟨(List.replicate 32 (0 : UInt8)).map vu8⟩), (vi 2)]) (v := (.agg ⟨(List.replicate 32 (0 : UInt8)).map vu8⟩)) rfl rfl) ?_
  refine WL.q (Wn.no rfl) rfl rfl (R.extract (l := [(.agg ⟨(List.replicate 32 (0 : UInt8)).map vu8⟩), (vi 2)]) (v := (vi 2)) rfl rfl) ?_
  refine WL.alloc (segs := [(32, (List.replicate 32 (0 : UInt8)).map vu8)]) h_4 (zv Try.typeInfo29 rfl) rfl (SsOk.cons (SOk.u8 (List.length_replicate ..)) SsOk.nil) rfl (fun b_5 w_6 h_7 => ?_)
  refine WL.storeA (b := b_5) (off := 0) [] [(32, (List.replicate 32 (0 : UInt8)).map vu8)] [(32, (List.replicate 32 (0 : UInt8)).map vu8)] [] (ys := (List.replicate 32 (0 : UInt8)).map vu8) h_7 rfl rfl Try.sizeOf29 At.h (by decide) rfl rfl rfl rfl rfl rfl (SsOk.cons (SOk.u8 (List.length_replicate ..)) SsOk.nil) (fun w_8 h_9 => ?_)
  refine WL.q (Wn.no rfl) rfl rfl (R.assign (v := (vi 2)) rfl) ?_
  refine WL.nil ?_
  refine thn_n ?_
  refine WP.block ?_
  refine WP.seq ?_
  refine WP.reg ?_
  refine WL.q (Wn.no rfl) rfl rfl (R.move (v := (vi 2)) rfl) ?_
  refine WL.q (Wn.no rfl) rfl rfl (R.bin (v := (.bool false)) rfl rfl (bi_eql (r := false) (by decide))) ?_
  refine WL.q (Wn.no rfl) rfl rfl (R.assign (v := (.bool false)) rfl) ?_
  refine WL.nil ?_
  refine thn_n ?_
  refine WP.condF rfl ?_
  refine WP.seq ?_
  refine WP.reg ?_
  refine WL.q (Wn.no rfl) rfl rfl (R.move (v := (vi ((pg : Nat) : Int))) rfl) ?_
  refine WL.q (Wn.no rfl) rfl rfl (R.bin (v := (.bool (decide ((((pg : Nat) : Int) : Int) < 0)))) rfl rfl (bi_lss (r := decide ((((pg : Nat) : Int) : Int) < 0)) rfl)) ?_
  refine WL.q (Wn.no rfl) rfl rfl (R.move (v := (.bool (decide ((((pg : Nat) : Int) : Int) < 0)))) rfl) ?_
  refine WL.want rfl (congrArg Value.bool (decide_eq_false (by omega))) ?_
  refine WL.q (Wn.no rfl) rfl rfl (R.move (v := (vi ((pg : Nat) : Int))) rfl) ?_
  refine WL.want rfl (congrArg Value.bool (decide_eq_false (by omega))) ?_
  refine WL.q (Wn.no rfl) rfl rfl (R.bin (v := (.bool (decide ((((pg : Nat) : Int) : Int) ≥ 128)))) rfl rfl (bi_geq (r := decide ((((pg : Nat) : Int) : Int) ≥ 128)) rfl)) ?_
  refine WL.q (Wn.no rfl) rfl rfl (R.pickF (v := (.bool (decide ((((pg : Nat) : Int) : Int) ≥ 128)))) (congrArg Value.bool (decide_eq_false (by omega))) rfl) ?_
  refine WL.q (Wn.no rfl) rfl rfl (R.move (v := (.bool (decide ((((pg : Nat) : Int) : Int) ≥ 128)))) rfl) ?_
  refine WL.want rfl (congrArg Value.bool (decide_eq_false (by omega))) ?_
  refine WL.q (Wn.no rfl) rfl rfl (R.move (v := (vu64 ct)) rfl) ?_
  refine WL.want rfl (congrArg Value.bool (decide_eq_false (by omega))) ?_
  refine WL.q (Wn.no rfl) rfl rfl (R.bin (v := (.bool (decide ((ct : UInt64) > 4294967296)))) rfl rfl (b64_gtr ct 4294967296 (r := decide ((ct : UInt64) > 4294967296)) rfl)) ?_
  refine WL.q (Wn.no rfl) rfl rfl (R.pickF (v := (.bool (decide ((ct : UInt64) > 4294967296)))) (congrArg Value.bool (decide_eq_false (by omega))) rfl) ?_
  refine WL.q (Wn.no rfl) rfl rfl (R.assign (v := (.bool (decide ((ct : UInt64) > 4294967296)))) rfl) ?_
  refine WL.nil ?_
  refine thn_n ?_
  refine WP.condT (congrArg Value.bool (decide_eq_true hct)) ?_
  refine WP.seq ?_
  refine WP.reg ?_
  refine WL.q (Wn.no rfl) rfl rfl (R.assign (v := (vi 2)) rfl) ?_
  refine WL.nil ?_
  refine thn_n ?_
  refine WP.ret ?_
  refine inb_r ?_
  refine thn_r ?_
  refine ret_of Try.results84 (RV.tmp (v := (vi 2)) rfl RV.nil) ?_
  exact ⟨rfl, h_9.chgS⟩

theorem c_withD_nil (pg : Int) (ct : UInt64) (fv : Value) (w : World) :
    Cs Try.prog 67 [(.pointer none), (vi pg), (vu64 ct), fv].toArray w (fun v w1 => v = (.tuple [(.agg ⟨(List.replicate 32 (0 : UInt8)).map vu8⟩), (vi 1)].toArray) ∧ Chg w w1 []) := by
  refine Cs.of (n := 30) (args := [(.pointer none), (vi pg), (vu64 ct), fv]) Try.func67 rfl rfl rfl ?_
  have h_0 := HP.init w
  refine WP.seq ?_
  refine WP.reg ?_
  refine WL.alloc (segs := [(32, (List.replicate 32 (0 : UInt8)).map vu8)]) h_0 (zv Try.typeInfo29 rfl) rfl (SsOk.cons (SOk.u8 (List.length_replicate ..)) SsOk.nil) rfl (fun b_1 w_2 h_3 => ?_)
  refine WL.q (Wn.no rfl) rfl rfl (R.assign (v := (vi 0)) rfl) ?_
  refine WL.nil ?_
  refine thn_n ?_
  refine WP.seq ?_
  refine WP.seq ?_
  refine WP.reg ?_
  refine WL.q (Wn.no rfl) rfl rfl (R.move (v := (.pointer none)) rfl) ?_
  refine WL.q (Wn.no rfl) rfl rfl (R.move (v := (vi pg)) rfl) ?_
  refine WL.q (Wn.no rfl) rfl rfl (R.move (v := (vu64 ct)) rfl) ?_
  refine WL.call (al := [(.pointer none), (vi pg), (vu64 ct)]) Try.call84 rfl rfl (c_bask_nil pg ct _ ) rfl ?_
  rintro _ w_5 ⟨rfl, hc_4⟩
  have h_6 := h_3.same hc_4
  refine WL.q (Wn.no rfl) rfl rfl (R.assign (v := (vi 1)) rfl) ?_
  refine WL.nil ?_
  refine thn_n ?_
  refine WP.seq ?_
  refine WP.reg ?_
  refine WL.q (Wn.no rfl) rfl rfl (R.move (v := (vi 1)) rfl) ?_
  refine WL.q (Wn.no rfl) rfl rfl (R.bin (v := (.bool true)) rfl rfl (bi_neq (r := true) (by decide))) ?_
  refine WL.nil ?_
  refine thn_n ?_
  refine WP.condT rfl ?_
  refine WP.seq ?_
  refine WP.reg ?_
  refine WL.q (Wn.no rfl) rfl rfl (R.loadA (b := b_1) (off := 0) [] [(32, (List.replicate 32 (0 : UInt8)).map vu8)] [] (cs := (List.replicate 32 (0 : UInt8)).map vu8) rfl Try.isAgg29 Try.sizeOf29 (h_6.ok _ (.head _)) rfl rfl rfl rfl) ?_
  refine WL.q (Wn.no rfl) rfl rfl (R.move (v := (vi 1)) rfl) ?_
  refine WL.storeA (b := b_1) (off := 0) [] [(32, (List.replicate 32 (0 : UInt8)).map vu8)] [(32, (List.replicate 32 (0 : UInt8)).map vu8)] [] (ys := (List.replicate 32 (0 : UInt8)).map vu8) h_6 rfl rfl Try.sizeOf29 At.h (by decide) rfl rfl rfl rfl rfl rfl (SsOk.cons (SOk.u8 (List.length_replicate ..)) SsOk.nil) (fun w_7 h_8 => ?_)
  refine WL.q (Wn.no rfl) rfl rfl (R.assign (v := (vi 1)) rfl) ?_
  refine WL.nil ?_
  refine thn_n ?_
  refine WP.ret ?_
  refine thn_r ?_
  refine ret_of Try.results67 (RV.cell rfl (h_8.loadA (cs := (List.replicate 32 (0 : UInt8)).map vu8) Try.isAgg29 Try.sizeOf29 (.head _) rfl rfl) (RV.tmp (v := (vi 1)) rfl RV.nil)) ?_
  exact ⟨rfl, h_8.chgS⟩

theorem c_withD_z (bc : Nat) (pg : Int) (ct : UInt64) (fv : Value) (w : World) (hcb : (Ent.blk bc .ro 47 [(1, [(.bool false)]), (32, (List.replicate 32 (0 : UInt8)).map vu8), (1, [(.slice none 0 0)]), (1, [(vi 0)]), (1, [(.map none)]), (1, [(.slice none 0 0)])]).ok w.heap.size w) :
    Cs Try.prog 67 [(.pointer (some ⟨bc, 0, none⟩)), (vi pg), (vu64 ct), fv].toArray w (fun v w1 => v = (.tuple [(.agg ⟨(List.replicate 32 (0 : UInt8)).map vu8⟩), (vi 1)].toArray) ∧ Chg w w1 []) := by
  refine Cs.of (n := 30) (args := [(.pointer (some ⟨bc, 0, none⟩)), (vi pg), (vu64 ct), fv]) Try.func67 rfl rfl rfl ?_
  have h_0 := HP.init w
  have h_00 := h_0.old hcb (fun f hf => by cases hf)
  refine WP.seq ?_
  refine WP.reg ?_
  refine WL.alloc (segs := [(32, (List.replicate 32 (0 : UInt8)).map vu8)]) h_00 (zv Try.typeInfo29 rfl) rfl (SsOk.cons (SOk.u8 (List.length_replicate ..)) SsOk.nil) rfl (fun b_1 w_2 h_3 => ?_)
  refine WL.q (Wn.no rfl) rfl rfl (R.assign (v := (vi 0)) rfl) ?_
  refine WL.nil ?_
  refine thn_n ?_
  refine WP.seq ?_
  refine WP.seq ?_
  refine WP.reg ?_
  refine WL.q (Wn.no rfl) rfl rfl (R.move (v := (.pointer (some ⟨bc, 0, none⟩))) rfl) ?_
  refine WL.q (Wn.no rfl) rfl rfl (R.move (v := (vi pg)) rfl) ?_
  refine WL.q (Wn.no rfl) rfl rfl (R.move (v := (vu64 ct)) rfl) ?_
  refine WL.call (al := [(.pointer (some ⟨bc, 0, none⟩)), (vi pg), (vu64 ct)]) Try.call84 rfl rfl (c_bask_z bc pg ct _ (h_3.argR (.tail _ (.head _)))) rfl ?_
  rintro _ w_5 ⟨rfl, hc_4⟩
  have h_6 := h_3.same hc_4
  refine WL.q (Wn.no rfl) rfl rfl (R.assign (v := (vi 1)) rfl) ?_
  refine WL.nil ?_
  refine thn_n ?_
  refine WP.seq ?_
  refine WP.reg ?_
  refine WL.q (Wn.no rfl) rfl rfl (R.move (v := (vi 1)) rfl) ?_
  refine WL.q (Wn.no rfl) rfl rfl (R.bin (v := (.bool true)) rfl rfl (bi_neq (r := true) (by decide))) ?_
  refine WL.nil ?_
  refine thn_n ?_
  refine WP.condT rfl ?_
  refine WP.seq ?_
  refine WP.reg ?_
  refine WL.q (Wn.no rfl) rfl rfl (R.loadA (b := b_1) (off := 0) [] [(32, (List.replicate 32 (0 : UInt8)).map vu8)] [] (cs := (List.replicate 32 (0 : UInt8)).map vu8) rfl Try.isAgg29 Try.sizeOf29 (h_6.ok _ (.head _)) rfl rfl rfl rfl) ?_
  refine WL.q (Wn.no rfl) rfl rfl (R.move (v := (vi 1)) rfl) ?_
  refine WL.storeA (b := b_1) (off := 0) [] [(32, (List.replicate 32 (0 : UInt8)).map vu8)] [(32, (List.replicate 32 (0 : UInt8)).map vu8)] [] (ys := (List.replicate 32 (0 : UInt8)).map vu8) h_6 rfl rfl Try.sizeOf29 At.h (by decide) rfl rfl rfl rfl rfl rfl (SsOk.cons (SOk.u8 (List.length_replicate ..)) SsOk.nil) (fun w_7 h_8 => ?_)
  refine WL.q (Wn.no rfl) rfl rfl (R.assign (v := (vi 1)) rfl) ?_
  refine WL.nil ?_
  refine thn_n ?_
  refine WP.ret ?_
  refine thn_r ?_
  refine ret_of Try.results67 (RV.cell rfl (h_8.loadA (cs := (List.replicate 32 (0 : UInt8)).map vu8) Try.isAgg29 Try.sizeOf29 (.head _) rfl rfl) (RV.tmp (v := (vi 1)) rfl RV.nil)) ?_
  exact ⟨rfl, h_8.chgS⟩

theorem c_withD_ct (ob mp : Nat) (ms : List UInt8) (hms : ms.length = 32) (da : Option Addr) (dn dc u : Nat) (la : Option Addr) (ln lc : Nat) (pg : Nat) (ct : UInt64) (fv : Value) (h : pg < 128) (hct : ct > 4294967296) (w : World) (hcb : (Ent.blk ob .ro 47 [(1, [(.bool true)]), (32, ms.map vu8), (1, [(.slice da dn dc)]), (1, [(vi ((u : Nat) : Int))]), (1, [(.map (some mp))]), (1, [(.slice la ln lc)])]).ok w.heap.size w) :
    Cs Try.prog 67 [(.pointer (some ⟨ob, 0, none⟩)), (vi ((pg : Nat) : Int)), (vu64 ct), fv].toArray w (fun v w1 => v = (.tuple [(.agg ⟨(List.replicate 32 (0 : UInt8)).map vu8⟩), (vi 2)].toArray) ∧ Chg w w1 []) := by
  refine Cs.of (n := 30) (args := [(.pointer (some ⟨ob, 0, none⟩)), (vi ((pg : Nat) : Int)), (vu64 ct), fv]) Try.func67 rfl rfl rfl ?_
  have h_0 := HP.init w
  have h_00 := h_0.old hcb (fun f hf => by cases hf)
  refine WP.seq ?_
  refine WP.reg ?_
  refine WL.alloc (segs := [(32, (List.replicate 32 (0 : UInt8)).map vu8)]) h_00 (zv Try.typeInfo29 rfl) rfl (SsOk.cons (SOk.u8 (List.length_replicate ..)) SsOk.nil) rfl (fun b_1 w_2 h_3 => ?_)
  refine WL.q (Wn.no rfl) rfl rfl (R.assign (v := (vi 0)) rfl) ?_
  refine WL.nil ?_
  refine thn_n ?_
  refine WP.seq ?_
  refine WP.seq ?_
  refine WP.reg ?_
  refine WL.q (Wn.no rfl) rfl rfl (R.move (v := (.pointer (some ⟨ob, 0, none⟩))) rfl) ?_
  refine WL.q (Wn.no rfl) rfl rfl (R.move (v := (vi ((pg : Nat) : Int))) rfl) ?_
  refine WL.q (Wn.no rfl) rfl rfl (R.move (v := (vu64 ct)) rfl) ?_
  refine WL.call (al := [(.pointer (some ⟨ob, 0, none⟩)), (vi ((pg : Nat) : Int)), (vu64 ct)]) Try.call84 rfl rfl (c_bask_ct ob mp ms hms da dn dc u la ln lc pg ct (by omega) hct _ (h_3.argR (.tail _ (.head _)))) rfl ?_
  rintro _ w_5 ⟨rfl, hc_4⟩
  have h_6 := h_3.same hc_4
  refine WL.q (Wn.no rfl) rfl rfl (R.assign (v := (vi 2)) rfl) ?_
  refine WL.nil ?_
  refine thn_n ?_
  refine WP.seq ?_
  refine WP.reg ?_
  refine WL.q (Wn.no rfl) rfl rfl (R.move (v := (vi 2)) rfl) ?_
  refine WL.q (Wn.no rfl) rfl rfl (R.bin (v := (.bool true)) rfl rfl (bi_neq (r := true) (by decide))) ?_
  refine WL.nil ?_
  refine thn_n ?_
  refine WP.condT rfl ?_
  refine WP.seq ?_
  refine WP.reg ?_
  refine WL.q (Wn.no rfl) rfl rfl (R.loadA (b := b_1) (off := 0) [] [(32, (List.replicate 32 (0 : UInt8)).map vu8)] [] (cs := (List.replicate 32 (0 : UInt8)).map vu8) rfl Try.isAgg29 Try.sizeOf29 (h_6.ok _ (.head _)) rfl rfl rfl rfl) ?_
  refine WL.q (Wn.no rfl) rfl rfl (R.move (v := (vi 2)) rfl) ?_
  refine WL.storeA (b := b_1) (off := 0) [] [(32, (List.replicate 32 (0 : UInt8)).map vu8)] [(32, (List.replicate 32 (0 : UInt8)).map vu8)] [] (ys := (List.replicate 32 (0 : UInt8)).map vu8) h_6 rfl rfl Try.sizeOf29 At.h (by decide) rfl rfl rfl rfl rfl rfl (SsOk.cons (SOk.u8 (List.length_replicate ..)) SsOk.nil) (fun w_7 h_8 => ?_)
  refine WL.q (Wn.no rfl) rfl rfl (R.assign (v := (vi 2)) rfl) ?_
  refine WL.nil ?_
  refine thn_n ?_
  refine WP.ret ?_
  refine thn_r ?_
  refine ret_of Try.results67 (RV.cell rfl (h_8.loadA (cs := (List.replicate 32 (0 : UInt8)).map vu8) Try.isAgg29 Try.sizeOf29 (.head _) rfl rfl) (RV.tmp (v := (vi 2)) rfl RV.nil)) ?_
  exact ⟨rfl, h_8.chgS⟩

theorem c_Leaf1 {w00 : World} {L : List Ent} (ob mp : Nat) (ms df : List UInt8) (hms : ms.length = 32) (da : Option Addr) (dn dc u : Nat) (hdf : df.length = 32 * dn) (la : Option Addr) (lc : Nat) (lx : List Value) (lg : Lg) (hu : u ≤ 1000000) (hlg : lg.length ≤ 1000000) (data : List UInt8) (qa : Option Addr) (qn qc : Nat) (hdl : data.length = qn) (hqn : qn ≤ 100000) (hqc : qn ≤ qc) (pl : List UInt8) (hpl : pl.length = 128) (b1 b2 : Nat) (w : World) (h_0 : HP w00 w (Ent.blk ob .nw 47 [(1, [(.bool true)]), (32, ms.map vu8), (1, [(.slice da dn dc)]), (1, [(vi ((u : Nat) : Int))]), (1, [(.map (some mp))]), (1, [(.slice la lg.length lc)])] :: Ent.row la lg.length lc 71 67 lx :: Ent.obj mp .nw (.map (mArr lg) lg.length) :: Ent.pin (sblks lx) (fun w => Lgs w lx lg) :: Ent.view da (df.map vu8) :: Ent.view qa (data.map vu8) :: Ent.blk b1 .nw 26 [(1, [(.pointer (some ⟨ob, 0, none⟩))])] :: Ent.blk b2 .nw 42 [(128, pl.map vu8)] :: L)) :
    Cs Try.prog 68 [(.slice qa qn qc), (.pointer (some ⟨b1, 0, none⟩)), (.pointer (some ⟨b2, 0, none⟩))].toArray w (fun v w1 => ∃ la' lc' lx', v = (.tuple [(.agg ⟨(ansD df dn u lg (1, (List.replicate 32 (0 : UInt8)), 4, [data, pl].flatten)).map vu8⟩), (vi 0)].toArray) ∧ HP w00 w1 (Ent.blk ob .nw 47 [(1, [(.bool true)]), (32, ms.map vu8), (1, [(.slice da dn dc)]), (1, [(vi (((ansU u lg (1, (List.replicate 32 (0 : UInt8)), 4, [data, pl].flatten)) : Nat) : Int))]), (1, [(.map (some mp))]), (1, [(.slice la' ((ansL df dn u lg (1, (List.replicate 32 (0 : UInt8)), 4, [data, pl].flatten)).length) lc')])] :: Ent.row la' ((ansL df dn u lg (1, (List.replicate 32 (0 : UInt8)), 4, [data, pl].flatten)).length) lc' 71 67 lx' :: Ent.obj mp .nw (.map (mArr (ansL df dn u lg (1, (List.replicate 32 (0 : UInt8)), 4, [data, pl].flatten))) ((ansL df dn u lg (1, (List.replicate 32 (0 : UInt8)), 4, [data, pl].flatten)).length)) :: Ent.pin (sblks lx') (fun w => Lgs w lx' (ansL df dn u lg (1, (List.replicate 32 (0 : UInt8)), 4, [data, pl].flatten))) :: Ent.view da (df.map vu8) :: Ent.blk b1 .nw 26 [(1, [(.pointer (some ⟨ob, 0, none⟩))])] :: Ent.view (some ⟨b2, 0, none⟩) (pl.map vu8) :: L)) := by
  refine Cs.of (n := 13) (args := [(.slice qa qn qc), (.pointer (some ⟨b1, 0, none⟩)), (.pointer (some ⟨b2, 0, none⟩))]) Try.func68 rfl rfl rfl ?_
  refine WP.seq ?_
  refine WP.reg ?_
  refine WL.alloc (segs := [(32, (List.replicate 32 (0 : UInt8)).map vu8)]) h_0 (zv Try.typeInfo29 rfl) rfl (SsOk.cons (SOk.u8 (List.length_replicate ..)) SsOk.nil) rfl (fun b_1 w_2 h_3 => ?_)
  refine WL.q (Wn.no rfl) rfl rfl (R.assign (v := (vi 0)) rfl) ?_
  refine WL.nil ?_
  refine thn_n ?_
  refine WP.seq ?_
  refine WP.drawT (SL w00.heap.size [.view qa (data.map vu8), .blk b1 .nw 26 [(1, [(.pointer (some ⟨ob, 0, none⟩))])]]) (.q 0 (.q 1 (.q 2 (.s 3 (.s 4 (.q 5 (.q 6 (.s 7 (.q 8 .nil))))))))) (by kernel_rfl) (by kernel_rfl) rfl (by kernel_rfl) (fun w_4 hc_6 => (SL.cons ((h_3.same hc_6).ok _ (.tail _ (.tail _ (.tail _ (.tail _ (.tail _ (.tail _ (.head _)))))))) (SL.cons ((h_3.same hc_6).ok _ (.tail _ (.tail _ (.tail _ (.tail _ (.tail _ (.tail _ (.tail _ (.head _))))))))) (SL.nil _ _)))) (fun w_4 hc_6 => ?_)
  have h_5 := h_3.same hc_6
  refine WT.q rfl (Wn.no rfl) rfl rfl (fun wq hS => R.load1 (b := b1) (off := 0) (v := (.pointer (some ⟨ob, 0, none⟩))) rfl Try.isAgg26 (hS _ (.tail _ (.head _))) Sg.h) ?_
  refine WT.q rfl (Wn.no rfl) rfl rfl (fun wq hS => R.move (v := (.slice qa qn qc)) rfl) ?_
  refine WT.q rfl (Wn.no rfl) rfl rfl (fun wq hS => R.sliceA (b := b2) (off := 0) (off' := 0) (l := 0) (h := 128) rfl EvB.dflt EvB.dflt (by decide) (by decide) Try.underlying42 Try.sizeOf5 rfl) ?_
  refine WT.s ?_
  refine Op1.one rfl (Wn.no rfl) ?_
  refine WL.buildSl (vs := [(0, (.slice qa qn qc)), (1, (.slice (some ⟨b2, 0, none⟩) 128 128))]) (cs := [(.slice qa qn qc), (.slice (some ⟨b2, 0, none⟩) 128 128)]) h_5 Try.underlying110 Try.sizeOf62 (zv Try.typeInfo62 rfl) rfl rfl (by kernel_rfl) rfl (by simp [Value.oneCell']) rfl rfl (fun b_7 w_8 h_9 => ?_)
  refine WL.nil ?_
  refine ⟨(SL.cons (h_9.ok _ (.tail _ (.tail _ (.tail _ (.tail _ (.tail _ (.tail _ (.tail _ (.head _))))))))) (SL.cons (h_9.ok _ (.tail _ (.tail _ (.tail _ (.tail _ (.tail _ (.tail _ (.tail _ (.tail _ (.head _)))))))))) (SL.nil _ _))), ?_⟩
  refine WT.s ?_
  refine Op1.one rfl (Wn.no rfl) ?_
  have h_10 := h_9.up (Pick.t (Pick.t (Pick.t (Pick.t (Pick.t (Pick.t (Pick.t (Pick.t (Pick.t Pick.h)))))))))
  have h_11 := HP_blkView h_10
  have h_12 := h_11.up (Pick.t Pick.h)
  have h_13 := HP_blkView h_12
  have hbl_14 : ∀ b ∈ sblks [(.slice qa qn qc), (.slice (some ⟨b2, 0, none⟩) 128 128)], ∃ e ∈ (Ent.view (some ⟨b_7, 0, none⟩) [(.slice qa qn qc), (.slice (some ⟨b2, 0, none⟩) 128 128)] :: Ent.view (some ⟨b2, 0, none⟩) (pl.map vu8) :: Ent.blk b_1 .nw 29 [(32, (List.replicate 32 (0 : UInt8)).map vu8)] :: Ent.blk ob .nw 47 [(1, [(.bool true)]), (32, ms.map vu8), (1, [(.slice da dn dc)]), (1, [(vi ((u : Nat) : Int))]), (1, [(.map (some mp))]), (1, [(.slice la lg.length lc)])] :: Ent.row la lg.length lc 71 67 lx :: Ent.obj mp .nw (.map (mArr lg) lg.length) :: Ent.pin (sblks lx) (fun w => Lgs w lx lg) :: Ent.view da (df.map vu8) :: Ent.view qa (data.map vu8) :: Ent.blk b1 .nw 26 [(1, [(.pointer (some ⟨ob, 0, none⟩))])] :: L), e.mut = false ∧ b ∈ e.blocks := by
    intro b hb
    rcases List.mem_append.1 hb with hb | hb
    · exact ⟨_, (.tail _ (.tail _ (.tail _ (.tail _ (.tail _ (.tail _ (.tail _ (.tail _ (.head _))))))))), rfl, sblk_in_view hdl b hb⟩
    rcases List.mem_append.1 hb with hb | hb
    · exact ⟨_, (.tail _ (.head _)), rfl, sblk_in_view hpl b hb⟩
    cases hb
  have h_15 := HP_within (e' := .pin (sblks [(.slice qa qn qc), (.slice (some ⟨b2, 0, none⟩) 128 128)]) (fun w => Sls w [(.slice qa qn qc), (.slice (some ⟨b2, 0, none⟩) 128 128)] [data, pl])) h_13 (Sls.pin (Sls.cons hdl (by omega) (viewV (h_13.ok _ (.tail _ (.tail _ (.tail _ (.tail _ (.tail _ (.tail _ (.tail _ (.tail _ (.head _))))))))))) (Sls.cons hpl (by decide) (viewV (h_13.ok _ (.tail _ (.head _)))) Sls.nil))) rfl rfl hbl_14
  have h_16 := h_15.up (Pick.t Pick.h)
  have h_17 := h_16.up (Pick.t Pick.h)
  have h_18 := h_17.up (Pick.t (Pick.t (Pick.t (Pick.t (Pick.t (Pick.t (Pick.t (Pick.t Pick.h))))))))
  have h_19 := h_18.up (Pick.t (Pick.t (Pick.t (Pick.t (Pick.t (Pick.t (Pick.t (Pick.t Pick.h))))))))
  have h_20 := h_19.up (Pick.t (Pick.t (Pick.t (Pick.t (Pick.t (Pick.t (Pick.t (Pick.t Pick.h))))))))
  have h_21 := h_20.up (Pick.t (Pick.t (Pick.t (Pick.t (Pick.t (Pick.t (Pick.t (Pick.t Pick.h))))))))
  have h_22 := h_21.up (Pick.t (Pick.t (Pick.t (Pick.t (Pick.t (Pick.t (Pick.t (Pick.t Pick.h))))))))
  have h32_w_26 := Lgs.ok32 (h_22.ok _ (.tail _ (.tail _ (.tail _ (.head _))))).1
  refine WL.call (al := [(.pointer (some ⟨ob, 0, none⟩)), (vi 4), (.slice (some ⟨b_7, 0, none⟩) 2 2)]) Try.call41 rfl rfl (c_oDigest ob mp ms df hms da dn dc u hdf la lc lx lg hu hlg (some ⟨b_7, 0, none⟩) 2 2 [(.slice qa qn qc), (.slice (some ⟨b2, 0, none⟩) 128 128)] [data, pl] rfl 4 (by omega) (by simp only [List.flatten_cons, List.flatten_nil, List.length_append, List.length_nil]; omega) (by omega) _ h_22) rfl ?_
  rintro _ w_26 ⟨la_23, lc_24, lx_25, rfl, h_27⟩
  refine WL.nil ?_
  refine ⟨(SL.cons (h_27.ok _ (.tail _ (.tail _ (.tail _ (.tail _ (.tail _ (.tail _ (.tail _ (.tail _ (.tail _ (.head _))))))))))) (SL.cons (h_27.ok _ (.tail _ (.tail _ (.tail _ (.tail _ (.tail _ (.tail _ (.tail _ (.tail _ (.tail _ (.tail _ (.head _)))))))))))) (SL.nil _ _))), ?_⟩
  refine WT.q rfl (Wn.no rfl) rfl rfl (fun wq hS => R.extract (l := [(.agg ⟨(ansD df dn u lg (1, (List.replicate 32 (0 : UInt8)), 4, [data, pl].flatten)).map vu8⟩), (vi 0)]) (v := (.agg ⟨(ansD df dn u lg (1, (List.replicate 32 (0 : UInt8)), 4, [data, pl].flatten)).map vu8⟩)) rfl rfl) ?_
  refine WT.q rfl (Wn.no rfl) rfl rfl (fun wq hS => R.extract (l := [(.agg ⟨(ansD df dn u lg (1, (List.replicate 32 (0 : UInt8)), 4, [data, pl].flatten)).map vu8⟩), (vi 0)]) (v := (vi 0)) rfl rfl) ?_
  refine WT.s ?_
  refine Op1.one rfl (Wn.no rfl) ?_
  refine WL.storeA (b := b_1) (off := 0) [] [(32, (List.replicate 32 (0 : UInt8)).map vu8)] [(32, (ansD df dn u lg (1, (List.replicate 32 (0 : UInt8)), 4, [data, pl].flatten)).map vu8)] [] (ys := (ansD df dn u lg (1, (List.replicate 32 (0 : UInt8)), 4, [data, pl].flatten)).map vu8) h_27 rfl rfl Try.sizeOf29 (At.t (At.t (At.t (At.t (At.t (At.t (At.t (At.t At.h)))))))) (by decide) rfl rfl rfl rfl rfl rfl (SsOk.cons (SOk.u8 (ansD_len hdf h32_w_26)) SsOk.nil) (fun w_28 h_29 => ?_)
  refine WL.nil ?_
  refine ⟨(SL.cons (h_29.ok _ (.tail _ (.tail _ (.tail _ (.tail _ (.tail _ (.tail _ (.tail _ (.tail _ (.tail _ (.head _))))))))))) (SL.cons (h_29.ok _ (.tail _ (.tail _ (.tail _ (.tail _ (.tail _ (.tail _ (.tail _ (.tail _ (.tail _ (.tail _ (.head _)))))))))))) (SL.nil _ _))), ?_⟩
  refine WT.q rfl (Wn.no rfl) rfl rfl (fun wq hS => R.assign (v := (vi 0)) rfl) ?_
  refine WT.nil ?_
  refine thn_n ?_
  refine WP.ret ?_
  refine ret_of Try.results68 (RV.cell rfl (h_29.loadA (cs := (ansD df dn u lg (1, (List.replicate 32 (0 : UInt8)), 4, [data, pl].flatten)).map vu8) Try.isAgg29 Try.sizeOf29 (.tail _ (.tail _ (.tail _ (.tail _ (.tail _ (.tail _ (.tail _ (.tail _ (.head _))))))))) rfl rfl) (RV.tmp (v := (vi 0)) rfl RV.nil)) ?_
  have h_30 := h_29.up (Pick.t (Pick.t (Pick.t (Pick.t (Pick.t Pick.h)))))
  have h_31 := h_30.drop rfl
  have h_32 := h_31.up (Pick.t (Pick.t (Pick.t (Pick.t (Pick.t Pick.h)))))
  have h_33 := h_32.drop rfl
  have h_34 := h_33.up (Pick.t (Pick.t (Pick.t (Pick.t (Pick.t (Pick.t Pick.h))))))
  have h_35 := h_34.drop rfl
  have h_36 := h_35.up (Pick.t (Pick.t (Pick.t (Pick.t (Pick.t (Pick.t Pick.h))))))
  have h_37 := h_36.drop rfl
  have h_38 := h_37.up (Pick.t (Pick.t (Pick.t (Pick.t (Pick.t Pick.h)))))
  have h_39 := h_38.up (Pick.t (Pick.t (Pick.t (Pick.t (Pick.t (Pick.t Pick.h))))))
  have h_40 := h_39.up (Pick.t (Pick.t (Pick.t (Pick.t (Pick.t (Pick.t Pick.h))))))
  have h_41 := h_40.up (Pick.t (Pick.t (Pick.t (Pick.t (Pick.t (Pick.t Pick.h))))))
  have h_42 := h_41.up (Pick.t (Pick.t (Pick.t (Pick.t (Pick.t (Pick.t Pick.h))))))
  have h_43 := h_42.up (Pick.t (Pick.t (Pick.t (Pick.t (Pick.t (Pick.t Pick.h))))))
  have h_44 := h_43.up (Pick.t (Pick.t (Pick.t (Pick.t (Pick.t (Pick.t Pick.h))))))
  exact ⟨_, _, _, rfl, h_44⟩

theorem c_withL {w00 : World} {L : List Ent} (ob mp : Nat) (ms df : List UInt8) (hms : ms.length = 32) (da : Option Addr) (dn dc u : Nat) (hdf : df.length = 32 * dn) (la : Option Addr) (lc : Nat) (lx : List Value) (lg : Lg) (hu : u ≤ 1000000) (hlg : lg.length ≤ 1000000) (pl : List UInt8) (hpl : pl.length = 128) (b1 b2 : Nat) (pg : Nat) (ct : UInt64) (h : pg < 128) (hct : ¬ ct > 4294967296) (w : World) (h_0 : HP w00 w (Ent.blk ob .nw 47 [(1, [(.bool true)]), (32, ms.map vu8), (1, [(.slice da dn dc)]), (1, [(vi ((u : Nat) : Int))]), (1, [(.map (some mp))]), (1, [(.slice la lg.length lc)])] :: Ent.row la lg.length lc 71 67 lx :: Ent.obj mp .nw (.map (mArr lg) lg.length) :: Ent.pin (sblks lx) (fun w => Lgs w lx lg) :: Ent.view da (df.map vu8) :: Ent.blk b1 .nw 26 [(1, [(.pointer (some ⟨ob, 0, none⟩))])] :: Ent.blk b2 .nw 42 [(128, pl.map vu8)] :: L)) :
    Cs Try.prog 67 [(.pointer (some ⟨ob, 0, none⟩)), (vi ((pg : Nat) : Int)), (vu64 ct), (Value.func (Fn.func 68) [].toArray [(Value.pointer (some ⟨b1, 0, none⟩)), (Value.pointer (some ⟨b2, 0, none⟩))].toArray)].toArray w (fun v w1 => ∃ la' lc' lx', v = (.tuple [(.agg ⟨(ansD df dn u lg (1, (List.replicate 32 (0 : UInt8)), 4, [pcB pg ct, pl].flatten)).map vu8⟩), (vi 0)].toArray) ∧ HP w00 w1 (Ent.blk ob .nw 47 [(1, [(.bool true)]), (32, ms.map vu8), (1, [(.slice da dn dc)]), (1, [(vi (((ansU u lg (1, (List.replicate 32 (0 : UInt8)), 4, [pcB pg ct, pl].flatten)) : Nat) : Int))]), (1, [(.map (some mp))]), (1, [(.slice la' ((ansL df dn u lg (1, (List.replicate 32 (0 : UInt8)), 4, [pcB pg ct, pl].flatten)).length) lc')])] :: Ent.row la' ((ansL df dn u lg (1, (List.replicate 32 (0 : UInt8)), 4, [pcB pg ct, pl].flatten)).length) lc' 71 67 lx' :: Ent.obj mp .nw (.map (mArr (ansL df dn u lg (1, (List.replicate 32 (0 : UInt8)), 4, [pcB pg ct, pl].flatten))) ((ansL df dn u lg (1, (List.replicate 32 (0 : UInt8)), 4, [pcB pg ct, pl].flatten)).length)) :: Ent.pin (sblks lx') (fun w => Lgs w lx' (ansL df dn u lg (1, (List.replicate 32 (0 : UInt8)), 4, [pcB pg ct, pl].flatten))) :: Ent.view da (df.map vu8) :: Ent.blk b1 .nw 26 [(1, [(.pointer (some ⟨ob, 0, none⟩))])] :: Ent.view (some ⟨b2, 0, none⟩) (pl.map vu8) :: L)) := by
  refine Cs.of (n := 30) (args := [(.pointer (some ⟨ob, 0, none⟩)), (vi ((pg : Nat) : Int)), (vu64 ct), (Value.func (Fn.func 68) [].toArray [(Value.pointer (some ⟨b1, 0, none⟩)), (Value.pointer (some ⟨b2, 0, none⟩))].toArray)]) Try.func67 rfl rfl rfl ?_
  refine WP.seq ?_
  refine WP.reg ?_
  refine WL.alloc (segs := [(32, (List.replicate 32 (0 : UInt8)).map vu8)]) h_0 (zv Try.typeInfo29 rfl) rfl (SsOk.cons (SOk.u8 (List.length_replicate ..)) SsOk.nil) rfl (fun b_1 w_2 h_3 => ?_)
  refine WL.q (Wn.no rfl) rfl rfl (R.assign (v := (vi 0)) rfl) ?_
  refine WL.nil ?_
  refine thn_n ?_
  refine WP.seq ?_
  refine WP.seq ?_
  refine WP.reg ?_
  refine WL.q (Wn.no rfl) rfl rfl (R.move (v := (.pointer (some ⟨ob, 0, none⟩))) rfl) ?_
  refine WL.q (Wn.no rfl) rfl rfl (R.move (v := (vi ((pg : Nat) : Int))) rfl) ?_
  refine WL.q (Wn.no rfl) rfl rfl (R.move (v := (vu64 ct)) rfl) ?_
  refine WL.call (al := [(.pointer (some ⟨ob, 0, none⟩)), (vi ((pg : Nat) : Int)), (vu64 ct)]) Try.call84 rfl rfl (c_bask_ok ob mp ms hms da dn dc u la lg.length lc pg ct (by omega) hct _ (h_3.argR (.tail _ (.head _)))) rfl ?_
  rintro _ w_5 ⟨rfl, hc_4⟩
  have h_6 := h_3.same hc_4
  refine WL.q (Wn.no rfl) rfl rfl (R.assign (v := (vi 0)) rfl) ?_
  refine WL.nil ?_
  refine thn_n ?_
  refine WP.seq ?_
  refine WP.reg ?_
  refine WL.q (Wn.no rfl) rfl rfl (R.move (v := (vi 0)) rfl) ?_
  refine WL.q (Wn.no rfl) rfl rfl (R.bin (v := (.bool false)) rfl rfl (bi_neq (r := false) (by decide))) ?_
  refine WL.nil ?_
  refine thn_n ?_
  refine WP.condF rfl ?_
  refine WP.skip ?_
  refine thn_n ?_
  refine WP.seq ?_
  refine WP.reg ?_
  refine WL.q (Wn.no rfl) rfl rfl (R.move (v := (Value.func (Fn.func 68) [].toArray [(Value.pointer (some ⟨b1, 0, none⟩)), (Value.pointer (some ⟨b2, 0, none⟩))].toArray)) rfl) ?_
  refine WL.q (Wn.no rfl) rfl rfl (R.move (v := (vi ((pg : Nat) : Int))) rfl) ?_
  refine WL.q (Wn.no rfl) rfl rfl (R.conv (b := ((UInt64.ofNat pg) : UInt64).toNat) rfl Try.underlying3 Try.underlying37 (w64_nat pg)) ?_
  refine WL.call (al := [(vu64 (UInt64.ofNat pg))]) Try.call85 rfl rfl (c_bword (UInt64.ofNat pg) _) rfl ?_
  rintro _ w_9 ⟨a_7, cap_8, rfl, hc_10, ho_11⟩
  have h_12 := h_6.gotRow hc_10 ho_11
  refine WL.q (Wn.no rfl) rfl rfl (R.move (v := (vu64 ct)) rfl) ?_
  refine WL.call (al := [(vu64 ct)]) Try.call85 rfl rfl (c_bword ct _) rfl ?_
  rintro _ w_15 ⟨a_13, cap_14, rfl, hc_16, ho_17⟩
  have h_18 := h_12.gotRow hc_16 ho_17
  refine WL.buildSl (vs := [(0, (.slice a_7 8 cap_8)), (1, (.slice a_13 8 cap_14))]) (cs := [(.slice a_7 8 cap_8), (.slice a_13 8 cap_14)]) h_18 Try.underlying110 Try.sizeOf62 (zv Try.typeInfo62 rfl) rfl rfl (by kernel_rfl) rfl (by simp [Value.oneCell']) rfl rfl (fun b_19 w_20 h_21 => ?_)
  refine WL.call (al := [(.slice (some ⟨b_19, 0, none⟩) 2 2)]) Try.call82 rfl rfl (c_wJoin (some ⟨b_19, 0, none⟩) 2 2 [(.slice a_7 8 cap_8), (.slice a_13 8 cap_14)] [leN 8 (UInt64.ofNat pg).toNat, leN 8 ct.toNat] rfl (by have := pcB_len pg ct; simp only [pcB] at this; omega) (by omega) _ (viewB (h_21.ok _ (.head _)) Sg.h) (Sls.cons (leN_len ..) (h_21.own (.tail _ (.tail _ (.head _)))).2.2.1 (ownView (h_21.ok _ (.tail _ (.tail _ (.head _))))) (Sls.cons (leN_len ..) (h_21.own (.tail _ (.head _))).2.2.1 (ownView (h_21.ok _ (.tail _ (.head _)))) Sls.nil))) rfl ?_
  rintro _ w_24 ⟨a_22, cap_23, rfl, hc_25, ho_26⟩
  have h_27 := h_21.gotRow hc_25 ho_26
  have hcp_28 := (h_27.own (.head _)).2.2.1
  have h_29 := h_27.rowView
  have h_30 := h_29.up (Pick.t (Pick.t (Pick.t (Pick.t (Pick.t (Pick.t (Pick.t (Pick.t (Pick.t (Pick.t (Pick.t Pick.h)))))))))))
  have h_31 := h_30.up (Pick.t (Pick.t (Pick.t (Pick.t (Pick.t (Pick.t (Pick.t (Pick.t (Pick.t (Pick.t (Pick.t Pick.h)))))))))))
  have h_32 := h_31.up (Pick.t (Pick.t Pick.h))
  have h_33 := h_32.up (Pick.t (Pick.t (Pick.t (Pick.t (Pick.t (Pick.t (Pick.t (Pick.t (Pick.t (Pick.t (Pick.t Pick.h)))))))))))
  have h_34 := h_33.up (Pick.t (Pick.t (Pick.t (Pick.t (Pick.t (Pick.t (Pick.t (Pick.t (Pick.t (Pick.t (Pick.t Pick.h)))))))))))
  have h_35 := h_34.up (Pick.t (Pick.t (Pick.t (Pick.t (Pick.t (Pick.t (Pick.t (Pick.t (Pick.t (Pick.t (Pick.t Pick.h)))))))))))
  have h_36 := h_35.up (Pick.t (Pick.t (Pick.t (Pick.t (Pick.t (Pick.t (Pick.t (Pick.t (Pick.t (Pick.t (Pick.t Pick.h)))))))))))
  have h_37 := h_36.up (Pick.t (Pick.t (Pick.t (Pick.t (Pick.t (Pick.t (Pick.t (Pick.t (Pick.t (Pick.t (Pick.t Pick.h)))))))))))
  have h32_w_41 := Lgs.ok32 (h_37.ok _ (.tail _ (.tail _ (.tail _ (.head _))))).1
  refine WL.call (al := [(.slice a_22 ([leN 8 (UInt64.ofNat pg).toNat, leN 8 ct.toNat].flatten.length) cap_23), (.pointer (some ⟨b1, 0, none⟩)), (.pointer (some ⟨b2, 0, none⟩))]) Try.call68 rfl rfl (c_Leaf1 ob mp ms df hms da dn dc u hdf la lc lx lg hu hlg ([leN 8 (UInt64.ofNat pg).toNat, leN 8 ct.toNat].flatten) a_22 ([leN 8 (UInt64.ofNat pg).toNat, leN 8 ct.toNat].flatten.length) cap_23 (rfl : List.length ([leN 8 (UInt64.ofNat pg).toNat, leN 8 ct.toNat].flatten) = [leN 8 (UInt64.ofNat pg).toNat, leN 8 ct.toNat].flatten.length) (by have := pcB_len pg ct; simp only [pcB] at this; omega) hcp_28 pl hpl b1 b2 _ h_37) rfl ?_
  rintro _ w_41 ⟨la_38, lc_39, lx_40, rfl, h_42⟩
  refine WL.q (Wn.no rfl) rfl rfl (R.extract (l := [(.agg ⟨(ansD df dn u lg (1, (List.replicate 32 (0 : UInt8)), 4, [[leN 8 (UInt64.ofNat pg).toNat, leN 8 ct.toNat].flatten, pl].flatten)).map vu8⟩), (vi 0)]) (v := (.agg ⟨(ansD df dn u lg (1, (List.replicate 32 (0 : UInt8)), 4, [[leN 8 (UInt64.ofNat pg).toNat, leN 8 ct.toNat].flatten, pl].flatten)).map vu8⟩)) rfl rfl) ?_
  refine WL.q (Wn.no rfl) rfl rfl (R.extract (l := [(.agg ⟨(ansD df dn u lg (1, (List.replicate 32 (0 : UInt8)), 4, [[leN 8 (UInt64.ofNat pg).toNat, leN 8 ct.toNat].flatten, pl].flatten)).map vu8⟩), (vi 0)]) (v := (vi 0)) rfl rfl) ?_
  refine WL.storeA (b := b_1) (off := 0) [] [(32, (List.replicate 32 (0 : UInt8)).map vu8)] [(32, (ansD df dn u lg (1, (List.replicate 32 (0 : UInt8)), 4, [[leN 8 (UInt64.ofNat pg).toNat, leN 8 ct.toNat].flatten, pl].flatten)).map vu8)] [] (ys := (ansD df dn u lg (1, (List.replicate 32 (0 : UInt8)), 4, [[leN 8 (UInt64.ofNat pg).toNat, leN 8 ct.toNat].flatten, pl].flatten)).map vu8) h_42 rfl rfl Try.sizeOf29 (At.t (At.t (At.t (At.t (At.t (At.t (At.t (At.t (At.t (At.t At.h)))))))))) (by decide) rfl rfl rfl rfl rfl rfl (SsOk.cons (SOk.u8 (ansD_len hdf h32_w_41)) SsOk.nil) (fun w_43 h_44 => ?_)
  refine WL.q (Wn.no rfl) rfl rfl (R.assign (v := (vi 0)) rfl) ?_
  refine WL.nil ?_
  refine thn_n ?_
  refine WP.ret ?_
  refine ret_of Try.results67 (RV.cell rfl (h_44.loadA (cs := (ansD df dn u lg (1, (List.replicate 32 (0 : UInt8)), 4, [[leN 8 (UInt64.ofNat pg).toNat, leN 8 ct.toNat].flatten, pl].flatten)).map vu8) Try.isAgg29 Try.sizeOf29 (.tail _ (.tail _ (.tail _ (.tail _ (.tail _ (.tail _ (.tail _ (.tail _ (.tail _ (.tail _ (.head _))))))))))) rfl rfl) (RV.tmp (v := (vi 0)) rfl RV.nil)) ?_
  have h_45 := h_44.up (Pick.t (Pick.t (Pick.t (Pick.t (Pick.t (Pick.t (Pick.t Pick.h)))))))
  have h_46 := h_45.drop rfl
  have h_47 := h_46.up (Pick.t (Pick.t (Pick.t (Pick.t (Pick.t (Pick.t (Pick.t Pick.h)))))))
  have h_48 := h_47.drop rfl
  have h_49 := h_48.up (Pick.t (Pick.t (Pick.t (Pick.t (Pick.t (Pick.t (Pick.t Pick.h)))))))
  have h_50 := h_49.drop rfl
  have h_51 := h_50.up (Pick.t (Pick.t (Pick.t (Pick.t (Pick.t (Pick.t (Pick.t Pick.h)))))))
  have h_52 := h_51.drop rfl
  have h_53 := h_52.up (Pick.t (Pick.t (Pick.t (Pick.t (Pick.t (Pick.t Pick.h))))))
  have h_54 := h_53.up (Pick.t (Pick.t (Pick.t (Pick.t (Pick.t (Pick.t Pick.h))))))
  have h_55 := h_54.up (Pick.t (Pick.t (Pick.t (Pick.t (Pick.t (Pick.t Pick.h))))))
  have h_56 := h_55.up (Pick.t (Pick.t (Pick.t (Pick.t (Pick.t (Pick.t Pick.h))))))
  have h_57 := h_56.up (Pick.t (Pick.t (Pick.t (Pick.t (Pick.t (Pick.t Pick.h))))))
  have h_58 := h_57.up (Pick.t (Pick.t (Pick.t (Pick.t (Pick.t (Pick.t Pick.h))))))
  have h_59 := h_58.up (Pick.t (Pick.t (Pick.t (Pick.t (Pick.t (Pick.t Pick.h))))))
  exact ⟨_, _, _, rfl, h_59⟩

theorem c_Leaf_z (bc : Nat) (pl : List UInt8) (hpl : pl.length = 128) (pg : Int) (ct : UInt64) (w : World) (hcb : (Ent.blk bc .ro 47 [(1, [(.bool false)]), (32, (List.replicate 32 (0 : UInt8)).map vu8), (1, [(.slice none 0 0)]), (1, [(vi 0)]), (1, [(.map none)]), (1, [(.slice none 0 0)])]).ok w.heap.size w) :
    Cs Try.prog 36 [(.pointer (some ⟨bc, 0, none⟩)), (vi pg), (vu64 ct), (.agg ⟨pl.map vu8⟩)].toArray w (fun v w1 => v = (.tuple [(.agg ⟨(List.replicate 32 (0 : UInt8)).map vu8⟩), (vi 1)].toArray) ∧ Chg w w1 []) := by
  refine Cs.of (n := 17) (args := [(.pointer (some ⟨bc, 0, none⟩)), (vi pg), (vu64 ct), (.agg ⟨pl.map vu8⟩)]) Try.func36 rfl rfl rfl ?_
  have h_0 := HP.init w
  have h_00 := h_0.old hcb (fun f hf => by cases hf)
  refine WP.seq ?_
  refine WP.reg ?_
  refine WL.box (v := (.pointer (some ⟨bc, 0, none⟩))) (segs := [(1, [(.pointer (some ⟨bc, 0, none⟩))])]) h_00 rfl rfl (SsOk.cons (SOk.v rfl) SsOk.nil) rfl (fun b_1 w_2 h_3 => ?_)
  refine WL.box (v := (.agg ⟨pl.map vu8⟩)) (segs := [(128, pl.map vu8)]) h_3 rfl rfl (SsOk.cons (SOk.u8 hpl) SsOk.nil) rfl (fun b_4 w_5 h_6 => ?_)
  refine WL.alloc (segs := [(32, (List.replicate 32 (0 : UInt8)).map vu8)]) h_6 (zv Try.typeInfo29 rfl) rfl (SsOk.cons (SOk.u8 (List.length_replicate ..)) SsOk.nil) rfl (fun b_7 w_8 h_9 => ?_)
  refine WL.q (Wn.no rfl) rfl rfl (R.assign (v := (vi 0)) rfl) ?_
  refine WL.nil ?_
  refine thn_n ?_
  refine WP.seq ?_
  refine WP.reg ?_
  refine WL.q (Wn.no rfl) rfl rfl (R.load1 (b := b_1) (off := 0) (v := (.pointer (some ⟨bc, 0, none⟩))) rfl Try.isAgg26 (h_9.ok _ (.tail _ (.tail _ (.head _)))) Sg.h) ?_
  refine WL.q (Wn.no rfl) rfl rfl (R.move (v := (vi pg)) rfl) ?_
  refine WL.q (Wn.no rfl) rfl rfl (R.move (v := (vu64 ct)) rfl) ?_
  refine WL.q (Wn.no rfl) rfl rfl (R.makeFuncL (fi := []) (ca := [(.pointer (some ⟨b_1, 0, none⟩)), (.pointer (some ⟨b_4, 0, none⟩))]) rfl rfl) ?_
  refine WL.call (al := [(.pointer (some ⟨bc, 0, none⟩)), (vi pg), (vu64 ct), (Value.func (Fn.func 68) [].toArray [(Value.pointer (some ⟨b_1, 0, none⟩)), (Value.pointer (some ⟨b_4, 0, none⟩))].toArray)]) Try.call67 rfl rfl (c_withD_z bc pg ct (Value.func (Fn.func 68) [].toArray [(Value.pointer (some ⟨b_1, 0, none⟩)), (Value.pointer (some ⟨b_4, 0, none⟩))].toArray) _ (h_9.argR (.tail _ (.tail _ (.tail _ (.head _)))))) rfl ?_
  rintro _ w_11 ⟨rfl, hc_10⟩
  have h_12 := h_9.same hc_10
  refine WL.q (Wn.no rfl) rfl rfl (R.extract (l := [(.agg ⟨(List.replicate 32 (0 : UInt8)).map vu8⟩), (vi 1)]) (v := (.agg ⟨(List.replicate 32 (0 : UInt8)).map vu8⟩)) rfl rfl) ?_
  refine WL.q (Wn.no rfl) rfl rfl (R.extract (l := [(.agg ⟨(List.replicate 32 (0 : UInt8)).map vu8⟩), (vi 1)]) (v := (vi 1)) rfl rfl) ?_
  refine WL.storeA (b := b_7) (off := 0) [] [(32, (List.replicate 32 (0 : UInt8)).map vu8)] [(32, (List.replicate 32 (0 : UInt8)).map vu8)] [] (ys := (List.replicate 32 (0 : UInt8)).map vu8) h_12 rfl rfl Try.sizeOf29 At.h (by decide) rfl rfl rfl rfl rfl rfl (SsOk.cons (SOk.u8 (List.length_replicate ..)) SsOk.nil) (fun w_13 h_14 => ?_)
  refine WL.q (Wn.no rfl) rfl rfl (R.assign (v := (vi 1)) rfl) ?_
  refine WL.nil ?_
  refine thn_n ?_
  refine WP.ret ?_
  refine ret_of Try.results36 (RV.cell rfl (h_14.loadA (cs := (List.replicate 32 (0 : UInt8)).map vu8) Try.isAgg29 Try.sizeOf29 (.head _) rfl rfl) (RV.tmp (v := (vi 1)) rfl RV.nil)) ?_
  exact ⟨rfl, h_14.chgS⟩

theorem c_Leaf_ct (ob mp : Nat) (ms : List UInt8) (hms : ms.length = 32) (da : Option Addr) (dn dc u : Nat) (la : Option Addr) (ln lc : Nat) (pl : List UInt8) (hpl : pl.length = 128) (pg : Nat) (ct : UInt64) (h : pg < 128) (hct : ct > 4294967296) (w : World) (hcb : (Ent.blk ob .ro 47 [(1, [(.bool true)]), (32, ms.map vu8), (1, [(.slice da dn dc)]), (1, [(vi ((u : Nat) : Int))]), (1, [(.map (some mp))]), (1, [(.slice la ln lc)])]).ok w.heap.size w) :
    Cs Try.prog 36 [(.pointer (some ⟨ob, 0, none⟩)), (vi ((pg : Nat) : Int)), (vu64 ct), (.agg ⟨pl.map vu8⟩)].toArray w (fun v w1 => v = (.tuple [(.agg ⟨(List.replicate 32 (0 : UInt8)).map vu8⟩), (vi 2)].toArray) ∧ Chg w w1 []) := by
  refine Cs.of (n := 17) (args := [(.pointer (some ⟨ob, 0, none⟩)), (vi ((pg : Nat) : Int)), (vu64 ct), (.agg ⟨pl.map vu8⟩)]) Try.func36 rfl rfl rfl ?_
  have h_0 := HP.init w
  have h_00 := h_0.old hcb (fun f hf => by cases hf)
  refine WP.seq ?_
  refine WP.reg ?_
  refine WL.box (v := (.pointer (some ⟨ob, 0, none⟩))) (segs := [(1, [(.pointer (some ⟨ob, 0, none⟩))])]) h_00 rfl rfl (SsOk.cons (SOk.v rfl) SsOk.nil) rfl (fun b_1 w_2 h_3 => ?_)
  refine WL.box (v := (.agg ⟨pl.map vu8⟩)) (segs := [(128, pl.map vu8)]) h_3 rfl rfl (SsOk.cons (SOk.u8 hpl) SsOk.nil) rfl (fun b_4 w_5 h_6 => ?_)
  refine WL.alloc (segs := [(32, (List.replicate 32 (0 : UInt8)).map vu8)]) h_6 (zv Try.typeInfo29 rfl) rfl (SsOk.cons (SOk.u8 (List.length_replicate ..)) SsOk.nil) rfl (fun b_7 w_8 h_9 => ?_)
  refine WL.q (Wn.no rfl) rfl rfl (R.assign (v := (vi 0)) rfl) ?_
  refine WL.nil ?_
  refine thn_n ?_
  refine WP.seq ?_
  refine WP.reg ?_
  refine WL.q (Wn.no rfl) rfl rfl (R.load1 (b := b_1) (off := 0) (v := (.pointer (some ⟨ob, 0, none⟩))) rfl Try.isAgg26 (h_9.ok _ (.tail _ (.tail _ (.head _)))) Sg.h) ?_
  refine WL.q (Wn.no rfl) rfl rfl (R.move (v := (vi ((pg : Nat) : Int))) rfl) ?_
  refine WL.q (Wn.no rfl) rfl rfl (R.move (v := (vu64 ct)) rfl) ?_
  refine WL.q (Wn.no rfl) rfl rfl (R.makeFuncL (fi := []) (ca := [(.pointer (some ⟨b_1, 0, none⟩)), (.pointer (some ⟨b_4, 0, none⟩))]) rfl rfl) ?_
  refine WL.call (al := [(.pointer (some ⟨ob, 0, none⟩)), (vi ((pg : Nat) : Int)), (vu64 ct), (Value.func (Fn.func 68) [].toArray [(Value.pointer (some ⟨b_1, 0, none⟩)), (Value.pointer (some ⟨b_4, 0, none⟩))].toArray)]) Try.call67 rfl rfl (c_withD_ct ob mp ms hms da dn dc u la ln lc pg ct (Value.func (Fn.func 68) [].toArray [(Value.pointer (some ⟨b_1, 0, none⟩)), (Value.pointer (some ⟨b_4, 0, none⟩))].toArray) (by omega) hct _ (h_9.argR (.tail _ (.tail _ (.tail _ (.head _)))))) rfl ?_
  rintro _ w_11 ⟨rfl, hc_10⟩
  have h_12 := h_9.same hc_10
  refine WL.q (Wn.no rfl) rfl rfl (R.extract (l := [(.agg ⟨(List.replicate 32 (0 : UInt8)).map vu8⟩), (vi 2)]) (v := (.agg ⟨(List.replicate 32 (0 : UInt8)).map vu8⟩)) rfl rfl) ?_
  refine WL.q (Wn.no rfl) rfl rfl (R.extract (l := [(.agg ⟨(List.replicate 32 (0 : UInt8)).map vu8⟩), (vi 2)]) (v := (vi 2)) rfl rfl) ?_
  refine WL.storeA (b := b_7) (off := 0) [] [(32, (List.replicate 32 (0 : UInt8)).map vu8)] [(32, (List.replicate 32 (0 : UInt8)).map vu8)] [] (ys := (List.replicate 32 (0 : UInt8)).map vu8) h_12 rfl rfl Try.sizeOf29 At.h (by decide) rfl rfl rfl rfl rfl rfl (SsOk.cons (SOk.u8 (List.length_replicate ..)) SsOk.nil) (fun w_13 h_14 => ?_)
  refine WL.q (Wn.no rfl) rfl rfl (R.assign (v := (vi 2)) rfl) ?_
  refine WL.nil ?_
  refine thn_n ?_
  refine WP.ret ?_
  refine ret_of Try.results36 (RV.cell rfl (h_14.loadA (cs := (List.replicate 32 (0 : UInt8)).map vu8) Try.isAgg29 Try.sizeOf29 (.head _) rfl rfl) (RV.tmp (v := (vi 2)) rfl RV.nil)) ?_
  exact ⟨rfl, h_14.chgS⟩

theorem c_Leaf {w00 : World} {L : List Ent} (ob mp : Nat) (ms df : List UInt8) (hms : ms.length = 32) (da : Option Addr) (dn dc u : Nat) (hdf : df.length = 32 * dn) (la : Option Addr) (lc : Nat) (lx : List Value) (lg : Lg) (hu : u ≤ 1000000) (hlg : lg.length ≤ 1000000) (pl : List UInt8) (hpl : pl.length = 128) (pg : Nat) (ct : UInt64) (h : pg < 128) (hct : ¬ ct > 4294967296) (w : World) (h_0 : HP w00 w (Ent.blk ob .nw 47 [(1, [(.bool true)]), (32, ms.map vu8), (1, [(.slice da dn dc)]), (1, [(vi ((u : Nat) : Int))]), (1, [(.map (some mp))]), (1, [(.slice la lg.length lc)])] :: Ent.row la lg.length lc 71 67 lx :: Ent.obj mp .nw (.map (mArr lg) lg.length) :: Ent.pin (sblks lx) (fun w => Lgs w lx lg) :: Ent.view da (df.map vu8) :: L)) :
    Cs Try.prog 36 [(.pointer (some ⟨ob, 0, none⟩)), (vi ((pg : Nat) : Int)), (vu64 ct), (.agg ⟨pl.map vu8⟩)].toArray w (fun v w1 => ∃ la' lc' lx', v = (.tuple [(.agg ⟨(ansD df dn u lg (1, (List.replicate 32 (0 : UInt8)), 4, [pcB pg ct, pl].flatten)).map vu8⟩), (vi 0)].toArray) ∧ HP w00 w1 (Ent.blk ob .nw 47 [(1, [(.bool true)]), (32, ms.map vu8), (1, [(.slice da dn dc)]), (1, [(vi (((ansU u lg (1, (List.replicate 32 (0 : UInt8)), 4, [pcB pg ct, pl].flatten)) : Nat) : Int))]), (1, [(.map (some mp))]), (1, [(.slice la' ((ansL df dn u lg (1, (List.replicate 32 (0 : UInt8)), 4, [pcB pg ct, pl].flatten)).length) lc')])] :: Ent.row la' ((ansL df dn u lg (1, (List.replicate 32 (0 : UInt8)), 4, [pcB pg ct, pl].flatten)).length) lc' 71 67 lx' :: Ent.obj mp .nw (.map (mArr (ansL df dn u lg (1, (List.replicate 32 (0 : UInt8)), 4, [pcB pg ct, pl].flatten))) ((ansL df dn u lg (1, (List.replicate 32 (0 : UInt8)), 4, [pcB pg ct, pl].flatten)).length)) :: Ent.pin (sblks lx') (fun w => Lgs w lx' (ansL df dn u lg (1, (List.replicate 32 (0 : UInt8)), 4, [pcB pg ct, pl].flatten))) :: Ent.view da (df.map vu8) :: L)) := by
  refine Cs.of (n := 17) (args := [(.pointer (some ⟨ob, 0, none⟩)), (vi ((pg : Nat) : Int)), (vu64 ct), (.agg ⟨pl.map vu8⟩)]) Try.func36 rfl rfl rfl ?_
  refine WP.seq ?_
  refine WP.reg ?_
  refine WL.box (v := (.pointer (some ⟨ob, 0, none⟩))) (segs := [(1, [(.pointer (some ⟨ob, 0, none⟩))])]) h_0 rfl rfl (SsOk.cons (SOk.v rfl) SsOk.nil) rfl (fun b_1 w_2 h_3 => ?_)
  refine WL.box (v := (.agg ⟨pl.map vu8⟩)) (segs := [(128, pl.map vu8)]) h_3 rfl rfl (SsOk.cons (SOk.u8 hpl) SsOk.nil) rfl (fun b_4 w_5 h_6 => ?_)
  refine WL.alloc (segs := [(32, (List.replicate 32 (0 : UInt8)).map vu8)]) h_6 (zv Try.typeInfo29 rfl) rfl (SsOk.cons (SOk.u8 (List.length_replicate ..)) SsOk.nil) rfl (fun b_7 w_8 h_9 => ?_)
  refine WL.q (Wn.no rfl) rfl rfl (R.assign (v := (vi 0)) rfl) ?_
  refine WL.nil ?_
  refine thn_n ?_
  refine WP.seq ?_
  refine WP.reg ?_
  refine WL.q (Wn.no rfl) rfl rfl (R.load1 (b := b_1) (off := 0) (v := (.pointer (some ⟨ob, 0, none⟩))) rfl Try.isAgg26 (h_9.ok _ (.tail _ (.tail _ (.head _)))) Sg.h) ?_
  refine WL.q (Wn.no rfl) rfl rfl (R.move (v := (vi ((pg : Nat) : Int))) rfl) ?_
  refine WL.q (Wn.no rfl) rfl rfl (R.move (v := (vu64 ct)) rfl) ?_
  refine WL.q (Wn.no rfl) rfl rfl (R.makeFuncL (fi := []) (ca := [(.pointer (some ⟨b_1, 0, none⟩)), (.pointer (some ⟨b_4, 0, none⟩))]) rfl rfl) ?_
  have h_10 := h_9.up (Pick.t Pick.h)
  have h_11 := h_10.up (Pick.t (Pick.t Pick.h))
  have h_12 := h_11.up (Pick.t (Pick.t (Pick.t (Pick.t (Pick.t (Pick.t (Pick.t Pick.h)))))))
  have h_13 := h_12.up (Pick.t (Pick.t (Pick.t (Pick.t (Pick.t (Pick.t (Pick.t Pick.h)))))))
  have h_14 := h_13.up (Pick.t (Pick.t (Pick.t (Pick.t (Pick.t (Pick.t (Pick.t Pick.h)))))))
  have h_15 := h_14.up (Pick.t (Pick.t (Pick.t (Pick.t (Pick.t (Pick.t (Pick.t Pick.h)))))))
  have h_16 := h_15.up (Pick.t (Pick.t (Pick.t (Pick.t (Pick.t (Pick.t (Pick.t Pick.h)))))))
  have h32_w_20 := Lgs.ok32 (h_16.ok _ (.tail _ (.tail _ (.tail _ (.head _))))).1
  refine WL.call (al := [(.pointer (some ⟨ob, 0, none⟩)), (vi ((pg : Nat) : Int)), (vu64 ct), (Value.func (Fn.func 68) [].toArray [(Value.pointer (some ⟨b_1, 0, none⟩)), (Value.pointer (some ⟨b_4, 0, none⟩))].toArray)]) Try.call67 rfl rfl (c_withL ob mp ms df hms da dn dc u hdf la lc lx lg hu hlg pl hpl b_1 b_4 pg ct (by omega) hct _ h_16) rfl ?_
  rintro _ w_20 ⟨la_17, lc_18, lx_19, rfl, h_21⟩
  refine WL.q (Wn.no rfl) rfl rfl (R.extract (l := [(.agg ⟨(ansD df dn u lg (1, (List.replicate 32 (0 : UInt8)), 4, [pcB pg ct, pl].flatten)).map vu8⟩), (vi 0)]) (v := (.agg ⟨(ansD df dn u lg (1, (List.replicate 32 (0 : UInt8)), 4, [pcB pg ct, pl].flatten)).map vu8⟩)) rfl rfl) ?_
  refine WL.q (Wn.no rfl) rfl rfl (R.extract (l := [(.agg ⟨(ansD df dn u lg (1, (List.replicate 32 (0 : UInt8)), 4, [pcB pg ct, pl].flatten)).map vu8⟩), (vi 0)]) (v := (vi 0)) rfl rfl) ?_
  refine WL.storeA (b := b_7) (off := 0) [] [(32, (List.replicate 32 (0 : UInt8)).map vu8)] [(32, (ansD df dn u lg (1, (List.replicate 32 (0 : UInt8)), 4, [pcB pg ct, pl].flatten)).map vu8)] [] (ys := (ansD df dn u lg (1, (List.replicate 32 (0 : UInt8)), 4, [pcB pg ct, pl].flatten)).map vu8) h_21 rfl rfl Try.sizeOf29 (At.t (At.t (At.t (At.t (At.t (At.t (At.t At.h))))))) (by decide) rfl rfl rfl rfl rfl rfl (SsOk.cons (SOk.u8 (ansD_len hdf h32_w_20)) SsOk.nil) (fun w_22 h_23 => ?_)
  refine WL.q (Wn.no rfl) rfl rfl (R.assign (v := (vi 0)) rfl) ?_
  refine WL.nil ?_
  refine thn_n ?_
  refine WP.ret ?_
  refine ret_of Try.results36 (RV.cell rfl (h_23.loadA (cs := (ansD df dn u lg (1, (List.replicate 32 (0 : UInt8)), 4, [pcB pg ct, pl].flatten)).map vu8) Try.isAgg29 Try.sizeOf29 (.tail _ (.tail _ (.tail _ (.tail _ (.tail _ (.tail _ (.tail _ (.head _)))))))) rfl rfl) (RV.tmp (v := (vi 0)) rfl RV.nil)) ?_
  have h_24 := h_23.up (Pick.t (Pick.t (Pick.t (Pick.t (Pick.t Pick.h)))))
  have h_25 := h_24.drop rfl
  have h_26 := h_25.up (Pick.t (Pick.t (Pick.t (Pick.t (Pick.t Pick.h)))))
  have h_27 := h_26.drop rfl
  have h_28 := h_27.up (Pick.t (Pick.t (Pick.t (Pick.t (Pick.t Pick.h)))))
  have h_29 := h_28.drop rfl
  have h_30 := h_29.up (Pick.t (Pick.t (Pick.t (Pick.t Pick.h))))
  have h_31 := h_30.up (Pick.t (Pick.t (Pick.t (Pick.t Pick.h))))
  have h_32 := h_31.up (Pick.t (Pick.t (Pick.t (Pick.t Pick.h))))
  have h_33 := h_32.up (Pick.t (Pick.t (Pick.t (Pick.t Pick.h))))
  have h_34 := h_33.up (Pick.t (Pick.t (Pick.t (Pick.t Pick.h))))
  exact ⟨_, _, _, rfl, h_34⟩

theorem c_None_nil (pg : Int) (w : World) :
    Cs Try.prog 37 [(.pointer none), (vi pg)].toArray w (fun v w1 => v = (.tuple [(.agg ⟨(List.replicate 32 (0 : UInt8)).map vu8⟩), (vi 1)].toArray) ∧ Chg w w1 []) := by
  refine Cs.of (n := 12) (args := [(.pointer none), (vi pg)]) Try.func37 rfl rfl rfl ?_
  have h_0 := HP.init w
  refine WP.seq ?_
  refine WP.reg ?_
  refine WL.box (v := (.pointer none)) (segs := [(1, [(.pointer none)])]) h_0 rfl rfl (SsOk.cons (SOk.v rfl) SsOk.nil) rfl (fun b_1 w_2 h_3 => ?_)
  refine WL.alloc (segs := [(32, (List.replicate 32 (0 : UInt8)).map vu8)]) h_3 (zv Try.typeInfo29 rfl) rfl (SsOk.cons (SOk.u8 (List.length_replicate ..)) SsOk.nil) rfl (fun b_4 w_5 h_6 => ?_)
  refine WL.q (Wn.no rfl) rfl rfl (R.assign (v := (vi 0)) rfl) ?_
  refine WL.nil ?_
  refine thn_n ?_
  refine WP.seq ?_
  refine WP.reg ?_
  refine WL.q (Wn.no rfl) rfl rfl (R.load1 (b := b_1) (off := 0) (v := (.pointer none)) rfl Try.isAgg26 (h_6.ok _ (.tail _ (.head _))) Sg.h) ?_
  refine WL.q (Wn.no rfl) rfl rfl (R.move (v := (vi pg)) rfl) ?_
  refine WL.q (Wn.no rfl) rfl rfl (R.makeFuncL (fi := []) (ca := [(.pointer (some ⟨b_1, 0, none⟩))]) rfl rfl) ?_
  refine WL.call (al := [(.pointer none), (vi pg), (vu64 0), (Value.func (Fn.func 69) [].toArray [(Value.pointer (some ⟨b_1, 0, none⟩))].toArray)]) Try.call67 rfl rfl (c_withD_nil pg (0 : UInt64) (Value.func (Fn.func 69) [].toArray [(Value.pointer (some ⟨b_1, 0, none⟩))].toArray) _ ) rfl ?_
  rintro _ w_8 ⟨rfl, hc_7⟩
  have h_9 := h_6.same hc_7
  refine WL.q (Wn.no rfl) rfl rfl (R.extract (l := [(.agg ⟨(List.replicate 32 (0 : UInt8)).map vu8⟩), (vi 1)]) (v := (.agg ⟨(List.replicate 32 (0 : UInt8)).map vu8⟩)) rfl rfl) ?_
  refine WL.q (Wn.no rfl) rfl rfl (R.extract (l := [(.agg ⟨(List.replicate 32 (0 : UInt8)).map vu8⟩), (vi 1)]) (v := (vi 1)) rfl rfl) ?_
  refine WL.storeA (b := b_4) (off := 0) [] [(32, (List.replicate 32 (0 : UInt8)).map vu8)] [(32, (List.replicate 32 (0 : UInt8)).map vu8)] [] (ys := (List.replicate 32 (0 : UInt8)).map vu8) h_9 rfl rfl Try.sizeOf29 At.h (by decide) rfl rfl rfl rfl rfl rfl (SsOk.cons (SOk.u8 (List.length_replicate ..)) SsOk.nil) (fun w_10 h_11 => ?_)
  refine WL.q (Wn.no rfl) rfl rfl (R.assign (v := (vi 1)) rfl) ?_
  refine WL.nil ?_
  refine thn_n ?_
  refine WP.ret ?_
  refine ret_of Try.results37 (RV.cell rfl (h_11.loadA (cs := (List.replicate 32 (0 : UInt8)).map vu8) Try.isAgg29 Try.sizeOf29 (.head _) rfl rfl) (RV.tmp (v := (vi 1)) rfl RV.nil)) ?_
  exact ⟨rfl, h_11.chgS⟩

theorem c_Open_nil (key pl : List UInt8) (hk : key.length = 32) (hpl : pl.length = 128) (pg : Int) (ct : UInt64) (w : World) :
    Cs Try.prog 35 [(.pointer none), (.agg ⟨key.map vu8⟩), (vi pg), (vu64 ct), (.agg ⟨pl.map vu8⟩)].toArray w (fun v w1 => v = (.tuple [(.agg ⟨(List.replicate 128 (0 : UInt8)).map vu8⟩), (vi 1)].toArray) ∧ Chg w w1 []) := by
  refine Cs.of (n := 20) (args := [(.pointer none), (.agg ⟨key.map vu8⟩), (vi pg), (vu64 ct), (.agg ⟨pl.map vu8⟩)]) Try.func35 rfl rfl rfl ?_
  have h_0 := HP.init w
  refine WP.seq ?_
  refine WP.reg ?_
  refine WL.box (v := (.agg ⟨key.map vu8⟩)) (segs := [(32, key.map vu8)]) h_0 rfl rfl (SsOk.cons (SOk.u8 hk) SsOk.nil) rfl (fun b_1 w_2 h_3 => ?_)
  refine WL.box (v := (.agg ⟨pl.map vu8⟩)) (segs := [(128, pl.map vu8)]) h_3 rfl rfl (SsOk.cons (SOk.u8 hpl) SsOk.nil) rfl (fun b_4 w_5 h_6 => ?_)
  refine WL.alloc (segs := [(128, (List.replicate 128 (0 : UInt8)).map vu8)]) h_6 (zv Try.typeInfo42 rfl) rfl (SsOk.cons (SOk.u8 (List.length_replicate ..)) SsOk.nil) rfl (fun b_7 w_8 h_9 => ?_)
  refine WL.q (Wn.no rfl) rfl rfl (R.assign (v := (vi 0)) rfl) ?_
  refine WL.nil ?_
  refine thn_n ?_
  refine WP.seq ?_
  refine WP.reg ?_
  refine WL.q (Wn.no rfl) rfl rfl (R.move (v := (.pointer none)) rfl) ?_
  refine WL.q (Wn.no rfl) rfl rfl (R.loadA (b := b_1) (off := 0) [] [(32, key.map vu8)] [] (cs := key.map vu8) rfl Try.isAgg29 Try.sizeOf29 (h_9.ok _ (.tail _ (.tail _ (.head _)))) rfl rfl rfl rfl) ?_
  refine WL.q (Wn.no rfl) rfl rfl (R.move (v := (vi pg)) rfl) ?_
  refine WL.q (Wn.no rfl) rfl rfl (R.move (v := (vu64 ct)) rfl) ?_
  refine WL.q (Wn.no rfl) rfl rfl (R.loadA (b := b_4) (off := 0) [] [(128, pl.map vu8)] [] (cs := pl.map vu8) rfl Try.isAgg42 Try.sizeOf42 (h_9.ok _ (.tail _ (.head _))) rfl rfl rfl rfl) ?_
  refine WL.call (al := [(.pointer none), (.agg ⟨key.map vu8⟩), (vi pg), (vu64 ct), (.agg ⟨pl.map vu8⟩)]) Try.call34 rfl rfl (c_Seal_nil key pl hk hpl pg ct _ ) rfl ?_
  rintro _ w_11 ⟨rfl, hc_10⟩
  have h_12 := h_9.same hc_10
  refine WL.q (Wn.no rfl) rfl rfl (R.extract (l := [(.agg ⟨(List.replicate 128 (0 : UInt8)).map vu8⟩), (vi 1)]) (v := (.agg ⟨(List.replicate 128 (0 : UInt8)).map vu8⟩)) rfl rfl) ?_
  refine WL.q (Wn.no rfl) rfl rfl (R.extract (l := [(.agg ⟨(List.replicate 128 (0 : UInt8)).map vu8⟩), (vi 1)]) (v := (vi 1)) rfl rfl) ?_
  refine WL.storeA (b := b_7) (off := 0) [] [(128, (List.replicate 128 (0 : UInt8)).map vu8)] [(128, (List.replicate 128 (0 : UInt8)).map vu8)] [] (ys := (List.replicate 128 (0 : UInt8)).map vu8) h_12 rfl rfl Try.sizeOf42 At.h (by decide) rfl rfl rfl rfl rfl rfl (SsOk.cons (SOk.u8 (List.length_replicate ..)) SsOk.nil) (fun w_13 h_14 => ?_)
  refine WL.q (Wn.no rfl) rfl rfl (R.assign (v := (vi 1)) rfl) ?_
  refine WL.nil ?_
  refine thn_n ?_
  refine WP.ret ?_
  refine ret_of Try.results35 (RV.cell rfl (h_14.loadA (cs := (List.replicate 128 (0 : UInt8)).map vu8) Try.isAgg42 Try.sizeOf42 (.head _) rfl rfl) (RV.tmp (v := (vi 1)) rfl RV.nil)) ?_
  exact ⟨rfl, h_14.chgS⟩
end Go.Proofs.Ytbldmljbfokobaa
