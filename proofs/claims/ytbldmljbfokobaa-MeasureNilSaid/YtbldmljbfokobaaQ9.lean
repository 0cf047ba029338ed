/- Package measure, in ideal mode: contracts. Conditions: those that each theorem states. -/
import Derived.Test.YtbldmljbfokobaaQ8
import Derived.Test.YtbldmljbfokobaaO5
namespace Go.Proofs.Ytbldmljbfokobaa
open Go.Vc Go.Orc Go.RowKit
set_option linter.unusedVariables false
set_option linter.unusedSimpArgs false
set_option maxRecDepth 20000
theorem ce3 : Try.prog.cellsOf 3 = 1 := by kernel_rfl
theorem ce4 : Try.prog.cellsOf 4 = 1 := by kernel_rfl
theorem ce37 : Try.prog.cellsOf 37 = 1 := by kernel_rfl
theorem ce48 : Try.prog.cellsOf 48 = 8 := by kernel_rfl
theorem ce50 : Try.prog.cellsOf 50 = 10 := by kernel_rfl
theorem ce52 : Try.prog.cellsOf 52 = 1 := by kernel_rfl
theorem ce54 : Try.prog.cellsOf 54 = 172 := by kernel_rfl
theorem kt54 : Try.prog.keyTypeAt 4 54 = true := by kernel_rfl
theorem ag54 : aggB Try.prog 54 = true := by unfold aggB; rw [Try.underlying54]
theorem pl39 : ∀ fs, Try.prog.underlying 39 = some (.struct fs) → Places Try.prog fs [(0, 32), (32, 1)] := by
  intro fs h w; rw [Try.underlying39] at h; cases h; simp
theorem pl54 : ∀ fs, Try.prog.underlying 54 = some (.struct fs) → Places Try.prog fs [(0, 1), (1, 32), (33, 1), (34, 128), (162, 10)] := by
  intro fs h w; rw [Try.underlying54] at h; cases h; simp
theorem c_MayRec (pc : UInt64) (rg : List UInt64) (hrg : rg.length = 8) (b : Bool) (w : World) :
    Cs Try.prog 52 [(.agg ⟨flat [(1, [(vu64 pc)]), (8, rg.map vu64), (1, [(.bool b)])]⟩)].toArray w (fun v w1 => v = (.bool (decide (pc % 8 = 0))) ∧ Chg w w1 []) := by
  refine Cs.of (n := 7) (args := [(.agg ⟨flat [(1, [(vu64 pc)]), (8, rg.map vu64), (1, [(.bool b)])]⟩)]) Try.func52 rfl rfl rfl ?_
  have h_0 := HP.init w
  refine WP.seq ?_
  refine WP.reg ?_
  refine WL.box (v := (.agg ⟨flat [(1, [(vu64 pc)]), (8, rg.map vu64), (1, [(.bool b)])]⟩)) (segs := [(1, [(vu64 pc)]), (8, rg.map vu64), (1, [(.bool b)])]) h_0 rfl rfl (SsOk.cons (SOk.v rfl) (SsOk.cons (SOk.u64 hrg) (SsOk.cons (SOk.v rfl) SsOk.nil))) rfl (fun b_1 w_2 h_3 => ?_)
  refine WL.q (Wn.no rfl) rfl rfl (R.assign (v := (.bool false)) rfl) ?_
  refine WL.nil ?_
  refine thn_n ?_
  refine WP.seq ?_
  refine WP.reg ?_
  refine WL.q (Wn.no rfl) rfl rfl (R.fieldAddr (b := b_1) (off := 0) (off' := 0) rfl Try.underlying50 rfl Try.sizeOf37 rfl rfl) ?_
  refine WL.q (Wn.no rfl) rfl rfl (R.load1 (b := b_1) (off := 0) (v := (vu64 pc)) rfl Try.isAgg37 (h_3.ok _ (.head _)) Sg.h) ?_
  refine WL.q (Wn.no rfl) rfl rfl (R.bin (v := (vu64 (pc % 8))) rfl rfl (b64_rem pc 8 (by decide))) ?_
  refine WL.q (Wn.no rfl) rfl rfl (R.bin (v := (.bool (decide ((pc % 8 : UInt64) = 0)))) rfl rfl (b64_eql (pc % 8) 0 (r := decide ((pc % 8 : UInt64) = 0)) rfl)) ?_
  refine WL.q (Wn.no rfl) rfl rfl (R.assign (v := (.bool (decide ((pc % 8 : UInt64) = 0)))) rfl) ?_
  refine WL.nil ?_
  refine thn_n ?_
  refine WP.ret ?_
  refine ret_of Try.results52 (RV.tmp (v := (.bool (decide ((pc % 8 : UInt64) = 0)))) rfl RV.nil) ?_
  exact ⟨rfl, h_3.chgS⟩

theorem c_mth_nil  (w : World) :
    Cs Try.prog 47 [(.pointer none)].toArray w (fun v w1 => v = (.bool false) ∧ Chg w w1 []) := by
  refine Cs.of (n := 13) (args := [(.pointer none)]) Try.func47 rfl rfl rfl ?_
  have h_0 := HP.init w
  refine WP.seq ?_
  refine WP.reg ?_
  refine WL.q (Wn.no rfl) rfl rfl (R.assign (v := (.bool false)) rfl) ?_
  refine WL.nil ?_
  refine thn_n ?_
  refine WP.seq ?_
  refine WP.reg ?_
  refine WL.q (Wn.no rfl) rfl rfl (R.move (v := (.pointer none)) rfl) ?_
  refine WL.q (Wn.no rfl) rfl rfl (R.buildS (pl := [(0, 1), (1, 32), (33, 1), (34, 1)]) (zs := [(1, [(vi 0)]), (32, (List.replicate 32 (0 : UInt8)).map vu8), (1, [(vi 0)]), (1, [(.slice none 0 0)])]) (vs := []) (out := [(1, [(vi 0)]), (32, (List.replicate 32 (0 : UInt8)).map vu8), (1, [(vi 0)]), (1, [(.slice none 0 0)])]) (cs := flat [(1, [(vi 0)]), (32, (List.replicate 32 (0 : UInt8)).map vu8), (1, [(vi 0)]), (1, [(.slice none 0 0)])]) Try.underlying64 (zv Try.typeInfo64 rfl) rfl (SsOk.cons (SOk.v rfl) (SsOk.cons (SOk.u8 (List.length_replicate ..)) (SsOk.cons (SOk.v rfl) (SsOk.cons (SOk.v rfl) SsOk.nil)))) (pl64 _ Try.underlying64) rfl FillR.nil rfl) ?_
  refine WL.call (al := [(.pointer none), (.agg ⟨flat [(1, [(vi 0)]), (32, (List.replicate 32 (0 : UInt8)).map vu8), (1, [(vi 0)]), (1, [(.slice none 0 0)])]⟩)]) Try.call25 rfl rfl (c_oAsk_nil 0 0 (List.replicate 32 (0 : UInt8)) none 0 0 (List.length_replicate ..) _ ) rfl ?_
  rintro _ w_3 ⟨rfl, hc_2⟩
  have h_4 := h_0.same hc_2
  refine WL.q (Wn.no rfl) rfl rfl (R.move (v := (.tuple [(.agg ⟨(List.replicate 32 (0 : UInt8)).map vu8⟩), (vi 1)].toArray)) rfl) ?_
  refine WL.q (Wn.no rfl) rfl rfl (R.extract (l := [(.agg ⟨(List.replicate 32 (0 : UInt8)).map vu8⟩), (vi 1)]) (v := (.agg ⟨(List.replicate 32 (0 : UInt8)).map vu8⟩)) rfl rfl) ?_
  refine WL.q (Wn.no rfl) rfl rfl (R.extract (l := [(.agg ⟨(List.replicate 32 (0 : UInt8)).map vu8⟩), (vi 1)]) (v := (vi 1)) rfl rfl) ?_
  refine WL.alloc (segs := [(32, (List.replicate 32 (0 : UInt8)).map vu8)]) h_4 (zv Try.typeInfo29 rfl) rfl (SsOk.cons (SOk.u8 (List.length_replicate ..)) SsOk.nil) rfl (fun b_5 w_6 h_7 => ?_)
  refine WL.storeA (b := b_5) (off := 0) [] [(32, (List.replicate 32 (0 : UInt8)).map vu8)] [(32, (List.replicate 32 (0 : UInt8)).map vu8)] [] (ys := (List.replicate 32 (0 : UInt8)).map vu8) h_7 rfl rfl Try.sizeOf29 At.h (by decide) rfl rfl rfl rfl rfl rfl (SsOk.cons (SOk.u8 (List.length_replicate ..)) SsOk.nil) (fun w_8 h_9 => ?_)
  refine WL.q (Wn.no rfl) rfl rfl (R.assign (v := (vi 1)) rfl) ?_
  refine WL.nil ?_
  refine thn_n ?_
  refine WP.seq ?_
  refine WP.reg ?_
  refine WL.q (Wn.no rfl) rfl rfl (R.move (v := (vi 1)) rfl) ?_
  refine WL.q (Wn.no rfl) rfl rfl (R.bin (v := (.bool false)) rfl rfl (bi_neq (r := false) (by decide))) ?_
  refine WL.q (Wn.no rfl) rfl rfl (R.assign (v := (.bool false)) rfl) ?_
  refine WL.nil ?_
  refine thn_n ?_
  refine WP.ret ?_
  refine ret_of Try.results47 (RV.tmp (v := (.bool false)) rfl RV.nil) ?_
  exact ⟨rfl, h_9.chgS⟩

theorem c_mth_z (bc : Nat) (w : World) (hcb : (Ent.blk bc .ro 47 [(1, [(.bool false)]), (32, (List.replicate 32 (0 : UInt8)).map vu8), (1, [(.slice none 0 0)]), (1, [(vi 0)]), (1, [(.map none)]), (1, [(.slice none 0 0)])]).ok w.heap.size w) :
    Cs Try.prog 47 [(.pointer (some ⟨bc, 0, none⟩))].toArray w (fun v w1 => v = (.bool false) ∧ Chg w w1 []) := by
  refine Cs.of (n := 13) (args := [(.pointer (some ⟨bc, 0, none⟩))]) Try.func47 rfl rfl rfl ?_
  have h_0 := HP.init w
  have h_00 := h_0.old hcb (fun f hf => by cases hf)
  refine WP.seq ?_
  refine WP.reg ?_
  refine WL.q (Wn.no rfl) rfl rfl (R.assign (v := (.bool false)) rfl) ?_
  refine WL.nil ?_
  refine thn_n ?_
  refine WP.seq ?_
  refine WP.reg ?_
  refine WL.q (Wn.no rfl) rfl rfl (R.move (v := (.pointer (some ⟨bc, 0, none⟩))) rfl) ?_
  refine WL.q (Wn.no rfl) rfl rfl (R.buildS (pl := [(0, 1), (1, 32), (33, 1), (34, 1)]) (zs := [(1, [(vi 0)]), (32, (List.replicate 32 (0 : UInt8)).map vu8), (1, [(vi 0)]), (1, [(.slice none 0 0)])]) (vs := []) (out := [(1, [(vi 0)]), (32, (List.replicate 32 (0 : UInt8)).map vu8), (1, [(vi 0)]), (1, [(.slice none 0 0)])]) (cs := flat [(1, [(vi 0)]), (32, (List.replicate 32 (0 : UInt8)).map vu8), (1, [(vi 0)]), (1, [(.slice none 0 0)])]) Try.underlying64 (zv Try.typeInfo64 rfl) rfl (SsOk.cons (SOk.v rfl) (SsOk.cons (SOk.u8 (List.length_replicate ..)) (SsOk.cons (SOk.v rfl) (SsOk.cons (SOk.v rfl) SsOk.nil)))) (pl64 _ Try.underlying64) rfl FillR.nil rfl) ?_
  refine WL.call (al := [(.pointer (some ⟨bc, 0, none⟩)), (.agg ⟨flat [(1, [(vi 0)]), (32, (List.replicate 32 (0 : UInt8)).map vu8), (1, [(vi 0)]), (1, [(.slice none 0 0)])]⟩)]) Try.call25 rfl rfl (c_oAsk_z bc 0 0 (List.replicate 32 (0 : UInt8)) none 0 0 (List.length_replicate ..) _ (h_00.argR (.head _))) rfl ?_
  rintro _ w_3 ⟨rfl, hc_2⟩
  have h_4 := h_00.same hc_2
  refine WL.q (Wn.no rfl) rfl rfl (R.move (v := (.tuple [(.agg ⟨(List.replicate 32 (0 : UInt8)).map vu8⟩), (vi 1)].toArray)) rfl) ?_
  refine WL.q (Wn.no rfl) rfl rfl (R.extract (l := [(.agg ⟨(List.replicate 32 (0 : UInt8)).map vu8⟩), (vi 1)]) (v := (.agg ⟨(List.replicate 32 (0 : UInt8)).map vu8⟩)) rfl rfl) ?_
  refine WL.q (Wn.no rfl) rfl rfl (R.extract (l := [(.agg ⟨(List.replicate 32 (0 : UInt8)).map vu8⟩), (vi 1)]) (v := (vi 1)) rfl rfl) ?_
  refine WL.alloc (segs := [(32, (List.replicate 32 (0 : UInt8)).map vu8)]) h_4 (zv Try.typeInfo29 rfl) rfl (SsOk.cons (SOk.u8 (List.length_replicate ..)) SsOk.nil) rfl (fun b_5 w_6 h_7 => ?_)
  refine WL.storeA (b := b_5) (off := 0) [] [(32, (List.replicate 32 (0 : UInt8)).map vu8)] [(32, (List.replicate 32 (0 : UInt8)).map vu8)] [] (ys := (List.replicate 32 (0 : UInt8)).map vu8) h_7 rfl rfl Try.sizeOf29 At.h (by decide) rfl rfl rfl rfl rfl rfl (SsOk.cons (SOk.u8 (List.length_replicate ..)) SsOk.nil) (fun w_8 h_9 => ?_)
  refine WL.q (Wn.no rfl) rfl rfl (R.assign (v := (vi 1)) rfl) ?_
  refine WL.nil ?_
  refine thn_n ?_
  refine WP.seq ?_
  refine WP.reg ?_
  refine WL.q (Wn.no rfl) rfl rfl (R.move (v := (vi 1)) rfl) ?_
  refine WL.q (Wn.no rfl) rfl rfl (R.bin (v := (.bool false)) rfl rfl (bi_neq (r := false) (by decide))) ?_
  refine WL.q (Wn.no rfl) rfl rfl (R.assign (v := (.bool false)) rfl) ?_
  refine WL.nil ?_
  refine thn_n ?_
  refine WP.ret ?_
  refine ret_of Try.results47 (RV.tmp (v := (.bool false)) rfl RV.nil) ?_
  exact ⟨rfl, h_9.chgS⟩

theorem c_mth (ob mp : Nat) (ms : List UInt8) (hms : ms.length = 32) (da : Option Addr) (dn dc u : Nat) (la : Option Addr) (ln lc : Nat) (w : World) (hcb : (Ent.blk ob .ro 47 [(1, [(.bool true)]), (32, ms.map vu8), (1, [(.slice da dn dc)]), (1, [(vi ((u : Nat) : Int))]), (1, [(.map (some mp))]), (1, [(.slice la ln lc)])]).ok w.heap.size w) :
    Cs Try.prog 47 [(.pointer (some ⟨ob, 0, none⟩))].toArray w (fun v w1 => v = (.bool true) ∧ Chg w w1 []) := by
  refine Cs.of (n := 13) (args := [(.pointer (some ⟨ob, 0, none⟩))]) Try.func47 rfl rfl rfl ?_
  have h_0 := HP.init w
  have h_00 := h_0.old hcb (fun f hf => by cases hf)
  refine WP.seq ?_
  refine WP.reg ?_
  refine WL.q (Wn.no rfl) rfl rfl (R.assign (v := (.bool false)) rfl) ?_
  refine WL.nil ?_
  refine thn_n ?_
  refine WP.seq ?_
  refine WP.reg ?_
  refine WL.q (Wn.no rfl) rfl rfl (R.move (v := (.pointer (some ⟨ob, 0, none⟩))) rfl) ?_
  refine WL.q (Wn.no rfl) rfl rfl (R.buildS (pl := [(0, 1), (1, 32), (33, 1), (34, 1)]) (zs := [(1, [(vi 0)]), (32, (List.replicate 32 (0 : UInt8)).map vu8), (1, [(vi 0)]), (1, [(.slice none 0 0)])]) (vs := []) (out := [(1, [(vi 0)]), (32, (List.replicate 32 (0 : UInt8)).map vu8), (1, [(vi 0)]), (1, [(.slice none 0 0)])]) (cs := flat [(1, [(vi 0)]), (32, (List.replicate 32 (0 : UInt8)).map vu8), (1, [(vi 0)]), (1, [(.slice none 0 0)])]) Try.underlying64 (zv Try.typeInfo64 rfl) rfl (SsOk.cons (SOk.v rfl) (SsOk.cons (SOk.u8 (List.length_replicate ..)) (SsOk.cons (SOk.v rfl) (SsOk.cons (SOk.v rfl) SsOk.nil)))) (pl64 _ Try.underlying64) rfl FillR.nil rfl) ?_
  refine WL.call (al := [(.pointer (some ⟨ob, 0, none⟩)), (.agg ⟨flat [(1, [(vi 0)]), (32, (List.replicate 32 (0 : UInt8)).map vu8), (1, [(vi 0)]), (1, [(.slice none 0 0)])]⟩)]) Try.call25 rfl rfl (c_oAsk_0 ob mp ms hms da dn dc u la ln lc 0 (List.replicate 32 (0 : UInt8)) none 0 0 (List.length_replicate ..) _ (h_00.argR (.head _))) rfl ?_
  rintro _ w_3 ⟨rfl, hc_2⟩
  have h_4 := h_00.same hc_2
  refine WL.q (Wn.no rfl) rfl rfl (R.move (v := (.tuple [(.agg ⟨(List.replicate 32 (0 : UInt8)).map vu8⟩), (vi 2)].toArray)) rfl) ?_
  refine WL.q (Wn.no rfl) rfl rfl (R.extract (l := [(.agg ⟨(List.replicate 32 (0 : UInt8)).map vu8⟩), (vi 2)]) (v := (.agg ⟨(List.replicate 32 (0 : UInt8)).map vu8⟩)) rfl rfl) ?_
  refine WL.q (Wn.no rfl) rfl rfl (R.extract (l := [(.agg ⟨(List.replicate 32 (0 : UInt8)).map vu8⟩), (vi 2)]) (v := (vi 2)) rfl rfl) ?_
  refine WL.alloc (segs := [(32, (List.replicate 32 (0 : UInt8)).map vu8)]) h_4 (zv Try.typeInfo29 rfl) rfl (SsOk.cons (SOk.u8 (List.length_replicate ..)) SsOk.nil) rfl (fun b_5 w_6 h_7 => ?_)
  refine WL.storeA (b := b_5) (off := 0) [] [(32, (List.replicate 32 (0 : UInt8)).map vu8)] [(32, (List.replicate 32 (0 : UInt8)).map vu8)] [] (ys := (List.replicate 32 (0 : UInt8)).map vu8) h_7 rfl rfl Try.sizeOf29 At.h (by decide) rfl rfl rfl rfl rfl rfl (SsOk.cons (SOk.u8 (List.length_replicate ..)) SsOk.nil) (fun w_8 h_9 => ?_)
  refine WL.q (Wn.no rfl) rfl rfl (R.assign (v := (vi 2)) rfl) ?_
  refine WL.nil ?_
  refine thn_n ?_
  refine WP.seq ?_
  refine WP.reg ?_
  refine WL.q (Wn.no rfl) rfl rfl (R.move (v := (vi 2)) rfl) ?_
  refine WL.q (Wn.no rfl) rfl rfl (R.bin (v := (.bool true)) rfl rfl (bi_neq (r := true) (by decide))) ?_
  refine WL.q (Wn.no rfl) rfl rfl (R.assign (v := (.bool true)) rfl) ?_
  refine WL.nil ?_
  refine thn_n ?_
  refine WP.ret ?_
  refine ret_of Try.results47 (RV.tmp (v := (.bool true)) rfl RV.nil) ?_
  exact ⟨rfl, h_9.chgS⟩

theorem c_Begin_nil (val : List UInt8) (hvl : val.length = 32) (sz : UInt64) (w : World) :
    Cs Try.prog 16 [(.pointer none), (.agg ⟨flat [(32, val.map vu8), (1, [(vu64 sz)])]⟩)].toArray w (fun v w1 => v = (.tuple [(.agg ⟨(List.replicate 32 (0 : UInt8)).map vu8⟩), (vi 1)].toArray) ∧ Chg w w1 []) := by
  refine Cs.of (n := 17) (args := [(.pointer none), (.agg ⟨flat [(32, val.map vu8), (1, [(vu64 sz)])]⟩)]) Try.func16 rfl rfl rfl ?_
  have h_0 := HP.init w
  refine WP.seq ?_
  refine WP.reg ?_
  refine WL.box (v := (.agg ⟨flat [(32, val.map vu8), (1, [(vu64 sz)])]⟩)) (segs := [(32, val.map vu8), (1, [(vu64 sz)])]) h_0 rfl rfl (SsOk.cons (SOk.u8 hvl) (SsOk.cons (SOk.v rfl) SsOk.nil)) rfl (fun b_1 w_2 h_3 => ?_)
  refine WL.alloc (segs := [(32, (List.replicate 32 (0 : UInt8)).map vu8)]) h_3 (zv Try.typeInfo29 rfl) rfl (SsOk.cons (SOk.u8 (List.length_replicate ..)) SsOk.nil) rfl (fun b_4 w_5 h_6 => ?_)
  refine WL.q (Wn.no rfl) rfl rfl (R.assign (v := (vi 0)) rfl) ?_
  refine WL.nil ?_
  refine thn_n ?_
  refine WP.seq ?_
  refine WP.seq ?_
  refine WP.reg ?_
  refine WL.q (Wn.no rfl) rfl rfl (R.move (v := (.pointer none)) rfl) ?_
  refine WL.call (al := [(.pointer none)]) Try.call47 rfl rfl (c_mth_nil  _ ) rfl ?_
  rintro _ w_8 ⟨rfl, hc_7⟩
  have h_9 := h_6.same hc_7
  refine WL.q (Wn.no rfl) rfl rfl (R.not (b := false) rfl) ?_
  refine WL.nil ?_
  refine thn_n ?_
  refine WP.condT rfl ?_
  refine WP.seq ?_
  refine WP.reg ?_
  refine WL.q (Wn.no rfl) rfl rfl (R.buildA (vs := []) (cs := (List.replicate 32 (0 : UInt8)).map vu8) Try.underlying29 Try.sizeOf5 (zv Try.typeInfo29 rfl) rfl rfl) ?_
  refine WL.storeA (b := b_4) (off := 0) [] [(32, (List.replicate 32 (0 : UInt8)).map vu8)] [(32, (List.replicate 32 (0 : UInt8)).map vu8)] [] (ys := (List.replicate 32 (0 : UInt8)).map vu8) h_9 rfl rfl Try.sizeOf29 At.h (by decide) rfl rfl rfl rfl rfl rfl (SsOk.cons (SOk.u8 (List.length_replicate ..)) SsOk.nil) (fun w_10 h_11 => ?_)
  refine WL.q (Wn.no rfl) rfl rfl (R.assign (v := (vi 1)) rfl) ?_
  refine WL.nil ?_
  refine thn_n ?_
  refine WP.ret ?_
  refine thn_r ?_
  refine ret_of Try.results16 (RV.cell rfl (h_11.loadA (cs := (List.replicate 32 (0 : UInt8)).map vu8) Try.isAgg29 Try.sizeOf29 (.head _) rfl rfl) (RV.tmp (v := (vi 1)) rfl RV.nil)) ?_
  exact ⟨rfl, h_11.chgS⟩

theorem c_Begin {w00 : World} {L : List Ent} (ob mp : Nat) (ms df : List UInt8) (hms : ms.length = 32) (da : Option Addr) (dn dc u : Nat) (hdf : df.length = 32 * dn) (la : Option Addr) (lc : Nat) (lx : List Value) (lg : Lg) (hu : u ≤ 1000000) (hlg : lg.length ≤ 1000000) (val : List UInt8) (hvl : val.length = 32) (sz : UInt64) (w : World) (h_0 : HP w00 w (Ent.blk ob .nw 47 [(1, [(.bool true)]), (32, ms.map vu8), (1, [(.slice da dn dc)]), (1, [(vi ((u : Nat) : Int))]), (1, [(.map (some mp))]), (1, [(.slice la lg.length lc)])] :: Ent.row la lg.length lc 71 67 lx :: Ent.obj mp .nw (.map (mArr lg) lg.length) :: Ent.pin (sblks lx) (fun w => Lgs w lx lg) :: Ent.view da (df.map vu8) :: L)) :
    Cs Try.prog 16 [(.pointer (some ⟨ob, 0, none⟩)), (.agg ⟨flat [(32, val.map vu8), (1, [(vu64 sz)])]⟩)].toArray w (fun v w1 => ∃ la' lc' lx', v = (.tuple [(.agg ⟨(ansD df dn u lg (1, (List.replicate 32 (0 : UInt8)), 1, [val].flatten)).map vu8⟩), (vi 0)].toArray) ∧ HP w00 w1 (Ent.blk ob .nw 47 [(1, [(.bool true)]), (32, ms.map vu8), (1, [(.slice da dn dc)]), (1, [(vi (((ansU u lg (1, (List.replicate 32 (0 : UInt8)), 1, [val].flatten)) : Nat) : Int))]), (1, [(.map (some mp))]), (1, [(.slice la' ((ansL df dn u lg (1, (List.replicate 32 (0 : UInt8)), 1, [val].flatten)).length) lc')])] :: Ent.row la' ((ansL df dn u lg (1, (List.replicate 32 (0 : UInt8)), 1, [val].flatten)).length) lc' 71 67 lx' :: Ent.obj mp .nw (.map (mArr (ansL df dn u lg (1, (List.replicate 32 (0 : UInt8)), 1, [val].flatten))) ((ansL df dn u lg (1, (List.replicate 32 (0 : UInt8)), 1, [val].flatten)).length)) :: Ent.pin (sblks lx') (fun w => Lgs w lx' (ansL df dn u lg (1, (List.replicate 32 (0 : UInt8)), 1, [val].flatten))) :: Ent.view da (df.map vu8) :: L)) := by
  refine Cs.of (n := 17) (args := [(.pointer (some ⟨ob, 0, none⟩)), (.agg ⟨flat [(32, val.map vu8), (1, [(vu64 sz)])]⟩)]) Try.func16 rfl rfl rfl ?_
  refine WP.seq ?_
  refine WP.reg ?_
  refine WL.box (v := (.agg ⟨flat [(32, val.map vu8), (1, [(vu64 sz)])]⟩)) (segs := [(32, val.map vu8), (1, [(vu64 sz)])]) h_0 rfl rfl (SsOk.cons (SOk.u8 hvl) (SsOk.cons (SOk.v rfl) SsOk.nil)) rfl (fun b_1 w_2 h_3 => ?_)
  refine WL.alloc (segs := [(32, (List.replicate 32 (0 : UInt8)).map vu8)]) h_3 (zv Try.typeInfo29 rfl) rfl (SsOk.cons (SOk.u8 (List.length_replicate ..)) SsOk.nil) rfl (fun b_4 w_5 h_6 => ?_)
  refine WL.q (Wn.no rfl) rfl rfl (R.assign (v := (vi 0)) rfl) ?_
  refine WL.nil ?_
  refine thn_n ?_
  refine WP.seq ?_
  refine WP.seq ?_
  refine WP.reg ?_
  refine WL.q (Wn.no rfl) rfl rfl (R.move (v := (.pointer (some ⟨ob, 0, none⟩))) rfl) ?_
  refine WL.call (al := [(.pointer (some ⟨ob, 0, none⟩))]) Try.call47 rfl rfl (c_mth ob mp ms hms da dn dc u la lg.length lc _ (h_6.argR (.tail _ (.tail _ (.head _))))) rfl ?_
  rintro _ w_8 ⟨rfl, hc_7⟩
  have h_9 := h_6.same hc_7
  refine WL.q (Wn.no rfl) rfl rfl (R.not (b := true) rfl) ?_
  refine WL.nil ?_
  refine thn_n ?_
  refine WP.condF rfl ?_
  refine WP.skip ?_
  refine thn_n ?_
  refine WP.seq ?_
  refine WP.reg ?_
  refine WL.q (Wn.no rfl) rfl rfl (R.move (v := (.pointer (some ⟨ob, 0, none⟩))) rfl) ?_
  refine WL.q (Wn.no rfl) rfl rfl (R.fieldAddr (b := b_1) (off := 0) (off' := 0) rfl Try.underlying39 rfl Try.sizeOf29 rfl rfl) ?_
  refine WL.q (Wn.no rfl) rfl rfl (R.sliceA (b := b_1) (off := 0) (off' := 0) (l := 0) (h := 32) rfl EvB.dflt EvB.dflt (by decide) (by decide) Try.underlying29 Try.sizeOf5 rfl) ?_
  refine WL.buildSl (vs := [(0, (.slice (some ⟨b_1, 0, none⟩) 32 32))]) (cs := [(.slice (some ⟨b_1, 0, none⟩) 32 32)]) h_9 Try.underlying110 Try.sizeOf62 (zv Try.typeInfo62 rfl) rfl rfl (by kernel_rfl) rfl (by simp [Value.oneCell']) rfl rfl (fun b_10 w_11 h_12 => ?_)
  have h_13 := h_12.up (Pick.t (Pick.t Pick.h))
  have h_14 := HP_blkView1 h_13
  have h_15 := h_14.up (Pick.t Pick.h)
  have h_16 := HP_blkView h_15
  have hbl_17 : ∀ b ∈ sblks [(.slice (some ⟨b_1, 0, none⟩) 32 32)], ∃ e ∈ (Ent.view (some ⟨b_10, 0, none⟩) [(.slice (some ⟨b_1, 0, none⟩) 32 32)] :: Ent.view (some ⟨b_1, 0, none⟩) (val.map vu8) :: Ent.blk b_4 .nw 29 [(32, (List.replicate 32 (0 : UInt8)).map vu8)] :: Ent.blk ob .nw 47 [(1, [(.bool true)]), (32, ms.map vu8), (1, [(.slice da dn dc)]), (1, [(vi ((u : Nat) : Int))]), (1, [(.map (some mp))]), (1, [(.slice la lg.length lc)])] :: Ent.row la lg.length lc 71 67 lx :: Ent.obj mp .nw (.map (mArr lg) lg.length) :: Ent.pin (sblks lx) (fun w => Lgs w lx lg) :: Ent.view da (df.map vu8) :: L), e.mut = false ∧ b ∈ e.blocks := by
    intro b hb
    rcases List.mem_append.1 hb with hb | hb
    · exact ⟨_, (.tail _ (.head _)), rfl, sblk_in_view hvl b hb⟩
    cases hb
  have h_18 := HP_within (e' := .pin (sblks [(.slice (some ⟨b_1, 0, none⟩) 32 32)]) (fun w => Sls w [(.slice (some ⟨b_1, 0, none⟩) 32 32)] [val])) h_16 (Sls.pin (Sls.cons hvl (by decide) (viewV (h_16.ok _ (.tail _ (.head _)))) Sls.nil)) rfl rfl hbl_17
  have h_19 := h_18.up (Pick.t Pick.h)
  have h_20 := h_19.up (Pick.t Pick.h)
  have h_21 := h_20.up (Pick.t (Pick.t (Pick.t (Pick.t (Pick.t (Pick.t (Pick.t (Pick.t Pick.h))))))))
  have h_22 := h_21.up (Pick.t (Pick.t (Pick.t (Pick.t (Pick.t (Pick.t (Pick.t (Pick.t Pick.h))))))))
  have h_23 := h_22.up (Pick.t (Pick.t (Pick.t (Pick.t (Pick.t (Pick.t (Pick.t (Pick.t Pick.h))))))))
  have h_24 := h_23.up (Pick.t (Pick.t (Pick.t (Pick.t (Pick.t (Pick.t (Pick.t (Pick.t Pick.h))))))))
  have h_25 := h_24.up (Pick.t (Pick.t (Pick.t (Pick.t (Pick.t (Pick.t (Pick.t (Pick.t Pick.h))))))))
  have h32_w_29 := Lgs.ok32 (h_25.ok _ (.tail _ (.tail _ (.tail _ (.head _))))).1
  refine WL.call (al := [(.pointer (some ⟨ob, 0, none⟩)), (vi 1), (.slice (some ⟨b_10, 0, none⟩) 1 1)]) Try.call41 rfl rfl (c_oDigest ob mp ms df hms da dn dc u hdf la lc lx lg hu hlg (some ⟨b_10, 0, none⟩) 1 1 [(.slice (some ⟨b_1, 0, none⟩) 32 32)] [val] rfl 1 (by omega) (by simp only [List.flatten_cons, List.flatten_nil, List.length_append, List.length_nil]; omega) (by omega) _ h_25) rfl ?_
  rintro _ w_29 ⟨la_26, lc_27, lx_28, rfl, h_30⟩
  refine WL.q (Wn.no rfl) rfl rfl (R.extract (l := [(.agg ⟨(ansD df dn u lg (1, (List.replicate 32 (0 : UInt8)), 1, [val].flatten)).map vu8⟩), (vi 0)]) (v := (.agg ⟨(ansD df dn u lg (1, (List.replicate 32 (0 : UInt8)), 1, [val].flatten)).map vu8⟩)) rfl rfl) ?_
  refine WL.q (Wn.no rfl) rfl rfl (R.extract (l := [(.agg ⟨(ansD df dn u lg (1, (List.replicate 32 (0 : UInt8)), 1, [val].flatten)).map vu8⟩), (vi 0)]) (v := (vi 0)) rfl rfl) ?_
  refine WL.storeA (b := b_4) (off := 0) [] [(32, (List.replicate 32 (0 : UInt8)).map vu8)] [(32, (ansD df dn u lg (1, (List.replicate 32 (0 : UInt8)), 1, [val].flatten)).map vu8)] [] (ys := (ansD df dn u lg (1, (List.replicate 32 (0 : UInt8)), 1, [val].flatten)).map vu8) h_30 rfl rfl Try.sizeOf29 (At.t (At.t (At.t (At.t (At.t (At.t (At.t (At.t At.h)))))))) (by decide) rfl rfl rfl rfl rfl rfl (SsOk.cons (SOk.u8 (ansD_len hdf h32_w_29)) SsOk.nil) (fun w_31 h_32 => ?_)
  refine WL.q (Wn.no rfl) rfl rfl (R.assign (v := (vi 0)) rfl) ?_
  refine WL.nil ?_
  refine thn_n ?_
  refine WP.ret ?_
  refine ret_of Try.results16 (RV.cell rfl (h_32.loadA (cs := (ansD df dn u lg (1, (List.replicate 32 (0 : UInt8)), 1, [val].flatten)).map vu8) Try.isAgg29 Try.sizeOf29 (.tail _ (.tail _ (.tail _ (.tail _ (.tail _ (.tail _ (.tail _ (.tail _ (.head _))))))))) rfl rfl) (RV.tmp (v := (vi 0)) rfl RV.nil)) ?_
  have h_33 := h_32.up (Pick.t (Pick.t (Pick.t (Pick.t (Pick.t Pick.h)))))
  have h_34 := h_33.drop rfl
  have h_35 := h_34.up (Pick.t (Pick.t (Pick.t (Pick.t (Pick.t Pick.h)))))
  have h_36 := h_35.drop rfl
  have h_37 := h_36.up (Pick.t (Pick.t (Pick.t (Pick.t (Pick.t Pick.h)))))
  have h_38 := h_37.drop rfl
  have h_39 := h_38.up (Pick.t (Pick.t (Pick.t (Pick.t (Pick.t Pick.h)))))
  have h_40 := h_39.drop rfl
  have h_41 := h_40.up (Pick.t (Pick.t (Pick.t (Pick.t Pick.h))))
  have h_42 := h_41.up (Pick.t (Pick.t (Pick.t (Pick.t Pick.h))))
  have h_43 := h_42.up (Pick.t (Pick.t (Pick.t (Pick.t Pick.h))))
  have h_44 := h_43.up (Pick.t (Pick.t (Pick.t (Pick.t Pick.h))))
  have h_45 := h_44.up (Pick.t (Pick.t (Pick.t (Pick.t Pick.h))))
  exact ⟨_, _, _, rfl, h_45⟩

theorem c_Data_nil (md gr : List UInt8) (hmd : md.length = 32) (hgr : gr.length = 128) (pg : Int) (w : World) :
    Cs Try.prog 17 [(.pointer none), (.agg ⟨md.map vu8⟩), (vi pg), (.agg ⟨gr.map vu8⟩)].toArray w (fun v w1 => v = (.tuple [(.agg ⟨(List.replicate 32 (0 : UInt8)).map vu8⟩), (vi 1)].toArray) ∧ Chg w w1 []) := by
  refine Cs.of (n := 39) (args := [(.pointer none), (.agg ⟨md.map vu8⟩), (vi pg), (.agg ⟨gr.map vu8⟩)]) Try.func17 rfl rfl rfl ?_
  have h_0 := HP.init w
  refine WP.seq ?_
  refine WP.reg ?_
  refine WL.box (v := (.agg ⟨md.map vu8⟩)) (segs := [(32, md.map vu8)]) h_0 rfl rfl (SsOk.cons (SOk.u8 hmd) SsOk.nil) rfl (fun b_1 w_2 h_3 => ?_)
  refine WL.box (v := (.agg ⟨gr.map vu8⟩)) (segs := [(128, gr.map vu8)]) h_3 rfl rfl (SsOk.cons (SOk.u8 hgr) SsOk.nil) rfl (fun b_4 w_5 h_6 => ?_)
  refine WL.alloc (segs := [(32, (List.replicate 32 (0 : UInt8)).map vu8)]) h_6 (zv Try.typeInfo29 rfl) rfl (SsOk.cons (SOk.u8 (List.length_replicate ..)) SsOk.nil) rfl (fun b_7 w_8 h_9 => ?_)
  refine WL.q (Wn.no rfl) rfl rfl (R.assign (v := (vi 0)) rfl) ?_
  refine WL.nil ?_
  refine thn_n ?_
  refine WP.seq ?_
  refine WP.block ?_
  refine WP.seq ?_
  refine WP.reg ?_
  refine WL.q (Wn.no rfl) rfl rfl (R.move (v := (.pointer none)) rfl) ?_
  refine WL.call (al := [(.pointer none)]) Try.call47 rfl rfl (c_mth_nil  _ ) rfl ?_
  rintro _ w_11 ⟨rfl, hc_10⟩
  have h_12 := h_9.same hc_10
  refine WL.q (Wn.no rfl) rfl rfl (R.not (b := false) rfl) ?_
  refine WL.q (Wn.no rfl) rfl rfl (R.assign (v := (.bool true)) rfl) ?_
  refine WL.nil ?_
  refine thn_n ?_
  refine WP.condT rfl ?_
  refine WP.seq ?_
  refine WP.reg ?_
  refine WL.q (Wn.no rfl) rfl rfl (R.buildA (vs := []) (cs := (List.replicate 32 (0 : UInt8)).map vu8) Try.underlying29 Try.sizeOf5 (zv Try.typeInfo29 rfl) rfl rfl) ?_
  refine WL.storeA (b := b_7) (off := 0) [] [(32, (List.replicate 32 (0 : UInt8)).map vu8)] [(32, (List.replicate 32 (0 : UInt8)).map vu8)] [] (ys := (List.replicate 32 (0 : UInt8)).map vu8) h_12 rfl rfl Try.sizeOf29 At.h (by decide) rfl rfl rfl rfl rfl rfl (SsOk.cons (SOk.u8 (List.length_replicate ..)) SsOk.nil) (fun w_13 h_14 => ?_)
  refine WL.q (Wn.no rfl) rfl rfl (R.assign (v := (vi 1)) rfl) ?_
  refine WL.nil ?_
  refine thn_n ?_
  refine WP.ret ?_
  refine inb_r ?_
  refine thn_r ?_
  refine ret_of Try.results17 (RV.cell rfl (h_14.loadA (cs := (List.replicate 32 (0 : UInt8)).map vu8) Try.isAgg29 Try.sizeOf29 (.head _) rfl rfl) (RV.tmp (v := (vi 1)) rfl RV.nil)) ?_
  exact ⟨rfl, h_14.chgS⟩

theorem c_Data_big (ob mp : Nat) (ms : List UInt8) (hms : ms.length = 32) (da : Option Addr) (dn dc u : Nat) (la : Option Addr) (ln lc : Nat) (md gr : List UInt8) (hmd : md.length = 32) (hgr : gr.length = 128) (pg : Int) (h : 128 ≤ pg) (w : World) (hcb : (Ent.blk ob .ro 47 [(1, [(.bool true)]), (32, ms.map vu8), (1, [(.slice da dn dc)]), (1, [(vi ((u : Nat) : Int))]), (1, [(.map (some mp))]), (1, [(.slice la ln lc)])]).ok w.heap.size w) :
    Cs Try.prog 17 [(.pointer (some ⟨ob, 0, none⟩)), (.agg ⟨md.map vu8⟩), (vi pg), (.agg ⟨gr.map vu8⟩)].toArray w (fun v w1 => v = (.tuple [(.agg ⟨(List.replicate 32 (0 : UInt8)).map vu8⟩), (vi 2)].toArray) ∧ Chg w w1 []) := by
  refine Cs.of (n := 39) (args := [(.pointer (some ⟨ob, 0, none⟩)), (.agg ⟨md.map vu8⟩), (vi pg), (.agg ⟨gr.map vu8⟩)]) Try.func17 rfl rfl rfl ?_
  have h_0 := HP.init w
  have h_00 := h_0.old hcb (fun f hf => by cases hf)
  refine WP.seq ?_
  refine WP.reg ?_
  refine WL.box (v := (.agg ⟨md.map vu8⟩)) (segs := [(32, md.map vu8)]) h_00 rfl rfl (SsOk.cons (SOk.u8 hmd) SsOk.nil) rfl (fun b_1 w_2 h_3 => ?_)
  refine WL.box (v := (.agg ⟨gr.map vu8⟩)) (segs := [(128, gr.map vu8)]) h_3 rfl rfl (SsOk.cons (SOk.u8 hgr) SsOk.nil) rfl (fun b_4 w_5 h_6 => ?_)
  refine WL.alloc (segs := [(32, (List.replicate 32 (0 : UInt8)).map vu8)]) h_6 (zv Try.typeInfo29 rfl) rfl (SsOk.cons (SOk.u8 (List.length_replicate ..)) SsOk.nil) rfl (fun b_7 w_8 h_9 => ?_)
  refine WL.q (Wn.no rfl) rfl rfl (R.assign (v := (vi 0)) rfl) ?_
  refine WL.nil ?_
  refine thn_n ?_
  refine WP.seq ?_
  refine WP.block ?_
  refine WP.seq ?_
  refine WP.reg ?_
  refine WL.q (Wn.no rfl) rfl rfl (R.move (v := (.pointer (some ⟨ob, 0, none⟩))) rfl) ?_
  refine WL.call (al := [(.pointer (some ⟨ob, 0, none⟩))]) Try.call47 rfl rfl (c_mth ob mp ms hms da dn dc u la ln lc _ (h_9.argR (.tail _ (.tail _ (.tail _ (.head _)))))) rfl ?_
  rintro _ w_11 ⟨rfl, hc_10⟩
  have h_12 := h_9.same hc_10
  refine WL.q (Wn.no rfl) rfl rfl (R.not (b := true) rfl) ?_
  refine WL.q (Wn.no rfl) rfl rfl (R.assign (v := (.bool false)) rfl) ?_
  refine WL.nil ?_
  refine thn_n ?_
  refine WP.condF rfl ?_
  refine WP.seq ?_
  refine WP.reg ?_
  refine WL.q (Wn.no rfl) rfl rfl (R.move (v := (vi pg)) rfl) ?_
  refine WL.q (Wn.no rfl) rfl rfl (R.bin (v := (.bool (decide ((pg : Int) < 0)))) rfl rfl (bi_lss (r := decide ((pg : Int) < 0)) rfl)) ?_
  refine WL.q (Wn.no rfl) rfl rfl (R.move (v := (.bool (decide ((pg : Int) < 0)))) rfl) ?_
  refine WL.want rfl (congrArg Value.bool (decide_eq_false (by omega))) ?_
  refine WL.q (Wn.no rfl) rfl rfl (R.move (v := (vi pg)) rfl) ?_
  refine WL.want rfl (congrArg Value.bool (decide_eq_false (by omega))) ?_
  refine WL.q (Wn.no rfl) rfl rfl (R.bin (v := (.bool (decide ((pg : Int) ≥ 128)))) rfl rfl (bi_geq (r := decide ((pg : Int) ≥ 128)) rfl)) ?_
  refine WL.q (Wn.no rfl) rfl rfl (R.pickF (v := (.bool (decide ((pg : Int) ≥ 128)))) (congrArg Value.bool (decide_eq_false (by omega))) rfl) ?_
  refine WL.q (Wn.no rfl) rfl rfl (R.assign (v := (.bool (decide ((pg : Int) ≥ 128)))) rfl) ?_
  refine WL.nil ?_
  refine thn_n ?_
  refine WP.condT (congrArg Value.bool (decide_eq_true (by omega))) ?_
  refine WP.seq ?_
  refine WP.reg ?_
  refine WL.q (Wn.no rfl) rfl rfl (R.buildA (vs := []) (cs := (List.replicate 32 (0 : UInt8)).map vu8) Try.underlying29 Try.sizeOf5 (zv Try.typeInfo29 rfl) rfl rfl) ?_
  refine WL.storeA (b := b_7) (off := 0) [] [(32, (List.replicate 32 (0 : UInt8)).map vu8)] [(32, (List.replicate 32 (0 : UInt8)).map vu8)] [] (ys := (List.replicate 32 (0 : UInt8)).map vu8) h_12 rfl rfl Try.sizeOf29 At.h (by decide) rfl rfl rfl rfl rfl rfl (SsOk.cons (SOk.u8 (List.length_replicate ..)) SsOk.nil) (fun w_13 h_14 => ?_)
  refine WL.q (Wn.no rfl) rfl rfl (R.assign (v := (vi 2)) rfl) ?_
  refine WL.nil ?_
  refine thn_n ?_
  refine WP.ret ?_
  refine inb_r ?_
  refine thn_r ?_
  refine ret_of Try.results17 (RV.cell rfl (h_14.loadA (cs := (List.replicate 32 (0 : UInt8)).map vu8) Try.isAgg29 Try.sizeOf29 (.head _) rfl rfl) (RV.tmp (v := (vi 2)) rfl RV.nil)) ?_
  exact ⟨rfl, h_14.chgS⟩

theorem c_Data {w00 : World} {L : List Ent} (ob mp : Nat) (ms df : List UInt8) (hms : ms.length = 32) (da : Option Addr) (dn dc u : Nat) (hdf : df.length = 32 * dn) (la : Option Addr) (lc : Nat) (lx : List Value) (lg : Lg) (hu : u ≤ 1000000) (hlg : lg.length ≤ 1000000) (md gr : List UInt8) (hmd : md.length = 32) (hgr : gr.length = 128) (pg : Nat) (h : pg < 128) (w : World) (h_0 : HP w00 w (Ent.blk ob .nw 47 [(1, [(.bool true)]), (32, ms.map vu8), (1, [(.slice da dn dc)]), (1, [(vi ((u : Nat) : Int))]), (1, [(.map (some mp))]), (1, [(.slice la lg.length lc)])] :: Ent.row la lg.length lc 71 67 lx :: Ent.obj mp .nw (.map (mArr lg) lg.length) :: Ent.pin (sblks lx) (fun w => Lgs w lx lg) :: Ent.view da (df.map vu8) :: L)) :
    Cs Try.prog 17 [(.pointer (some ⟨ob, 0, none⟩)), (.agg ⟨md.map vu8⟩), (vi ((pg : Nat) : Int)), (.agg ⟨gr.map vu8⟩)].toArray w (fun v w1 => ∃ la' lc' lx', v = (.tuple [(.agg ⟨(ansD df dn u lg (1, (List.replicate 32 (0 : UInt8)), 2, [md, leN 8 (UInt64.ofNat pg).toNat, gr].flatten)).map vu8⟩), (vi 0)].toArray) ∧ HP w00 w1 (Ent.blk ob .nw 47 [(1, [(.bool true)]), (32, ms.map vu8), (1, [(.slice da dn dc)]), (1, [(vi (((ansU u lg (1, (List.replicate 32 (0 : UInt8)), 2, [md, leN 8 (UInt64.ofNat pg).toNat, gr].flatten)) : Nat) : Int))]), (1, [(.map (some mp))]), (1, [(.slice la' ((ansL df dn u lg (1, (List.replicate 32 (0 : UInt8)), 2, [md, leN 8 (UInt64.ofNat pg).toNat, gr].flatten)).length) lc')])] :: Ent.row la' ((ansL df dn u lg (1, (List.replicate 32 (0 : UInt8)), 2, [md, leN 8 (UInt64.ofNat pg).toNat, gr].flatten)).length) lc' 71 67 lx' :: Ent.obj mp .nw (.map (mArr (ansL df dn u lg (1, (List.replicate 32 (0 : UInt8)), 2, [md, leN 8 (UInt64.ofNat pg).toNat, gr].flatten))) ((ansL df dn u lg (1, (List.replicate 32 (0 : UInt8)), 2, [md, leN 8 (UInt64.ofNat pg).toNat, gr].flatten)).length)) :: Ent.pin (sblks lx') (fun w => Lgs w lx' (ansL df dn u lg (1, (List.replicate 32 (0 : UInt8)), 2, [md, leN 8 (UInt64.ofNat pg).toNat, gr].flatten))) :: Ent.view da (df.map vu8) :: L)) := by
  refine Cs.of (n := 39) (args := [(.pointer (some ⟨ob, 0, none⟩)), (.agg ⟨md.map vu8⟩), (vi ((pg : Nat) : Int)), (.agg ⟨gr.map vu8⟩)]) Try.func17 rfl rfl rfl ?_
  refine WP.seq ?_
  refine WP.reg ?_
  refine WL.box (v := (.agg ⟨md.map vu8⟩)) (segs := [(32, md.map vu8)]) h_0 rfl rfl (SsOk.cons (SOk.u8 hmd) SsOk.nil) rfl (fun b_1 w_2 h_3 => ?_)
  refine WL.box (v := (.agg ⟨gr.map vu8⟩)) (segs := [(128, gr.map vu8)]) h_3 rfl rfl (SsOk.cons (SOk.u8 hgr) SsOk.nil) rfl (fun b_4 w_5 h_6 => ?_)
  refine WL.alloc (segs := [(32, (List.replicate 32 (0 : UInt8)).map vu8)]) h_6 (zv Try.typeInfo29 rfl) rfl (SsOk.cons (SOk.u8 (List.length_replicate ..)) SsOk.nil) rfl (fun b_7 w_8 h_9 => ?_)
  refine WL.q (Wn.no rfl) rfl rfl (R.assign (v := (vi 0)) rfl) ?_
  refine WL.nil ?_
  refine thn_n ?_
  refine WP.seq ?_
  refine WP.block ?_
  refine WP.seq ?_
  refine WP.reg ?_
  refine WL.q (Wn.no rfl) rfl rfl (R.move (v := (.pointer (some ⟨ob, 0, none⟩))) rfl) ?_
  refine WL.call (al := [(.pointer (some ⟨ob, 0, none⟩))]) Try.call47 rfl rfl (c_mth ob mp ms hms da dn dc u la lg.length lc _ (h_9.argR (.tail _ (.tail _ (.tail _ (.head _)))))) rfl ?_
  rintro _ w_11 ⟨rfl, hc_10⟩
  have h_12 := h_9.same hc_10
  refine WL.q (Wn.no rfl) rfl rfl (R.not (b := true) rfl) ?_
  refine WL.q (Wn.no rfl) rfl rfl (R.assign (v := (.bool false)) rfl) ?_
  refine WL.nil ?_
  refine thn_n ?_
  refine WP.condF rfl ?_
  refine WP.seq ?_
  refine WP.reg ?_
  refine WL.q (Wn.no rfl) rfl rfl (R.move (v := (vi ((pg : Nat) : Int))) rfl) ?_
  refine WL.q (Wn.no rfl) rfl rfl (R.bin (v := (.bool (decide ((((pg : Nat) : Int) : Int) < 0)))) rfl rfl (bi_lss (r := decide ((((pg : Nat) : Int) : Int) < 0)) rfl)) ?_
  refine WL.q (Wn.no rfl) rfl rfl (R.move (v := (.bool (decide ((((pg : Nat) : Int) : Int) < 0)))) rfl) ?_
  refine WL.want rfl (congrArg Value.bool (decide_eq_false (by omega))) ?_
  refine WL.q (Wn.no rfl) rfl rfl (R.move (v := (vi ((pg : Nat) : Int))) rfl) ?_
  refine WL.want rfl (congrArg Value.bool (decide_eq_false (by omega))) ?_
  refine WL.q (Wn.no rfl) rfl rfl (R.bin (v := (.bool (decide ((((pg : Nat) : Int) : Int) ≥ 128)))) rfl rfl (bi_geq (r := decide ((((pg : Nat) : Int) : Int) ≥ 128)) rfl)) ?_
  refine WL.q (Wn.no rfl) rfl rfl (R.pickF (v := (.bool (decide ((((pg : Nat) : Int) : Int) ≥ 128)))) (congrArg Value.bool (decide_eq_false (by omega))) rfl) ?_
  refine WL.q (Wn.no rfl) rfl rfl (R.assign (v := (.bool (decide ((((pg : Nat) : Int) : Int) ≥ 128)))) rfl) ?_
  refine WL.nil ?_
  refine thn_n ?_
  refine WP.condF (congrArg Value.bool (decide_eq_false (by omega))) ?_
  refine WP.skip ?_
  refine inb_n ?_
  refine thn_n ?_
  refine WP.seq ?_
  refine WP.reg ?_
  refine WL.q (Wn.no rfl) rfl rfl (R.move (v := (vi ((pg : Nat) : Int))) rfl) ?_
  refine WL.q (Wn.no rfl) rfl rfl (R.conv (b := ((UInt64.ofNat pg) : UInt64).toNat) rfl Try.underlying3 Try.underlying37 (w64_nat pg)) ?_
  refine WL.call (al := [(vu64 (UInt64.ofNat pg)), (vi 8)]) Try.call48 rfl rfl (c_Put_b (UInt64.ofNat pg) 8 rfl _) rfl ?_
  rintro _ w_15 ⟨a_13, cap_14, rfl, hc_16, ho_17⟩
  have h_18 := h_12.gotRow hc_16 ho_17
  refine WL.q (Wn.no rfl) rfl rfl (R.move (v := (.tuple [(.slice a_13 8 cap_14), (vi 0)].toArray)) rfl) ?_
  refine WL.q (Wn.no rfl) rfl rfl (R.extract (l := [(.slice a_13 8 cap_14), (vi 0)]) (v := (.slice a_13 8 cap_14)) rfl rfl) ?_
  refine WL.q (Wn.no rfl) rfl rfl (R.extract (l := [(.slice a_13 8 cap_14), (vi 0)]) (v := (vi 0)) rfl rfl) ?_
  refine WL.q (Wn.no rfl) rfl rfl (R.assign (v := (.slice a_13 8 cap_14)) rfl) ?_
  refine WL.q (Wn.no rfl) rfl rfl (R.assign (v := (vi 0)) rfl) ?_
  refine WL.nil ?_
  refine thn_n ?_
  refine WP.seq ?_
  refine WP.drawT (SL w00.heap.size []) (.q 0 (.q 1 (.q 2 (.q 3 (.s 4 (.s 5 (.q 6 (.q 7 (.s 8 (.q 9 .nil)))))))))) (by kernel_rfl) (by kernel_rfl) rfl (by kernel_rfl) (fun w_19 hc_21 => (SL.nil _ _)) (fun w_19 hc_21 => ?_)
  have h_20 := h_18.same hc_21
  refine WT.q rfl (Wn.no rfl) rfl rfl (fun wq hS => R.move (v := (.pointer (some ⟨ob, 0, none⟩))) rfl) ?_
  refine WT.q rfl (Wn.no rfl) rfl rfl (fun wq hS => R.sliceA (b := b_1) (off := 0) (off' := 0) (l := 0) (h := 32) rfl EvB.dflt EvB.dflt (by decide) (by decide) Try.underlying29 Try.sizeOf5 rfl) ?_
  refine WT.q rfl (Wn.no rfl) rfl rfl (fun wq hS => R.move (v := (.slice a_13 8 cap_14)) rfl) ?_
  refine WT.q rfl (Wn.no rfl) rfl rfl (fun wq hS => R.sliceA (b := b_4) (off := 0) (off' := 0) (l := 0) (h := 128) rfl EvB.dflt EvB.dflt (by decide) (by decide) Try.underlying42 Try.sizeOf5 rfl) ?_
  refine WT.s ?_
  refine Op1.one rfl (Wn.no rfl) ?_
  refine WL.buildSl (vs := [(0, (.slice (some ⟨b_1, 0, none⟩) 32 32)), (1, (.slice a_13 8 cap_14)), (2, (.slice (some ⟨b_4, 0, none⟩) 128 128))]) (cs := [(.slice (some ⟨b_1, 0, none⟩) 32 32), (.slice a_13 8 cap_14), (.slice (some ⟨b_4, 0, none⟩) 128 128)]) h_20 Try.underlying110 Try.sizeOf62 (zv Try.typeInfo62 rfl) rfl rfl (by kernel_rfl) rfl (by simp [Value.oneCell']) rfl rfl (fun b_22 w_23 h_24 => ?_)
  refine WL.nil ?_
  refine ⟨(SL.nil _ _), ?_⟩
  refine WT.s ?_
  refine Op1.one rfl (Wn.no rfl) ?_
  have hcp_25 := (h_24.own (.tail _ (.head _))).2.2.1
  have h_26 := h_24.up (Pick.t (Pick.t (Pick.t (Pick.t Pick.h))))
  have h_27 := HP_blkView h_26
  have h_28 := h_27.up (Pick.t (Pick.t Pick.h))
  have h_29 := h_28.rowView
  have h_30 := h_29.up (Pick.t (Pick.t (Pick.t (Pick.t Pick.h))))
  have h_31 := HP_blkView h_30
  have h_32 := h_31.up (Pick.t (Pick.t (Pick.t Pick.h)))
  have h_33 := HP_blkView h_32
  have hbl_34 : ∀ b ∈ sblks [(.slice (some ⟨b_1, 0, none⟩) 32 32), (.slice a_13 8 cap_14), (.slice (some ⟨b_4, 0, none⟩) 128 128)], ∃ e ∈ (Ent.view (some ⟨b_22, 0, none⟩) [(.slice (some ⟨b_1, 0, none⟩) 32 32), (.slice a_13 8 cap_14), (.slice (some ⟨b_4, 0, none⟩) 128 128)] :: Ent.view (some ⟨b_4, 0, none⟩) (gr.map vu8) :: Ent.view a_13 ((leN 8 (UInt64.ofNat pg).toNat).map vu8) :: Ent.view (some ⟨b_1, 0, none⟩) (md.map vu8) :: Ent.blk b_7 .nw 29 [(32, (List.replicate 32 (0 : UInt8)).map vu8)] :: Ent.blk ob .nw 47 [(1, [(.bool true)]), (32, ms.map vu8), (1, [(.slice da dn dc)]), (1, [(vi ((u : Nat) : Int))]), (1, [(.map (some mp))]), (1, [(.slice la lg.length lc)])] :: Ent.row la lg.length lc 71 67 lx :: Ent.obj mp .nw (.map (mArr lg) lg.length) :: Ent.pin (sblks lx) (fun w => Lgs w lx lg) :: Ent.view da (df.map vu8) :: L), e.mut = false ∧ b ∈ e.blocks := by
    intro b hb
    rcases List.mem_append.1 hb with hb | hb
    · exact ⟨_, (.tail _ (.tail _ (.tail _ (.head _)))), rfl, sblk_in_view hmd b hb⟩
    rcases List.mem_append.1 hb with hb | hb
    · exact ⟨_, (.tail _ (.tail _ (.head _))), rfl, sblk_in_view (leN_len ..) b hb⟩
    rcases List.mem_append.1 hb with hb | hb
    · exact ⟨_, (.tail _ (.head _)), rfl, sblk_in_view hgr b hb⟩
    cases hb
  have h_35 := HP_within (e' := .pin (sblks [(.slice (some ⟨b_1, 0, none⟩) 32 32), (.slice a_13 8 cap_14), (.slice (some ⟨b_4, 0, none⟩) 128 128)]) (fun w => Sls w [(.slice (some ⟨b_1, 0, none⟩) 32 32), (.slice a_13 8 cap_14), (.slice (some ⟨b_4, 0, none⟩) 128 128)] [md, leN 8 (UInt64.ofNat pg).toNat, gr])) h_33 (Sls.pin (Sls.cons hmd (by decide) (viewV (h_33.ok _ (.tail _ (.tail _ (.tail _ (.head _)))))) (Sls.cons (leN_len ..) hcp_25 (viewV (h_33.ok _ (.tail _ (.tail _ (.head _))))) (Sls.cons hgr (by decide) (viewV (h_33.ok _ (.tail _ (.head _)))) Sls.nil)))) rfl rfl hbl_34
  have h_36 := h_35.up (Pick.t Pick.h)
  have h_37 := h_36.up (Pick.t Pick.h)
  have h_38 := h_37.up (Pick.t (Pick.t (Pick.t (Pick.t (Pick.t (Pick.t (Pick.t (Pick.t (Pick.t (Pick.t Pick.h))))))))))
  have h_39 := h_38.up (Pick.t (Pick.t (Pick.t (Pick.t (Pick.t (Pick.t (Pick.t (Pick.t (Pick.t (Pick.t Pick.h))))))))))
  have h_40 := h_39.up (Pick.t (Pick.t (Pick.t (Pick.t (Pick.t (Pick.t (Pick.t (Pick.t (Pick.t (Pick.t Pick.h))))))))))
  have h_41 := h_40.up (Pick.t (Pick.t (Pick.t (Pick.t (Pick.t (Pick.t (Pick.t (Pick.t (Pick.t (Pick.t Pick.h))))))))))
  have h_42 := h_41.up (Pick.t (Pick.t (Pick.t (Pick.t (Pick.t (Pick.t (Pick.t (Pick.t (Pick.t (Pick.t Pick.h))))))))))
  have h32_w_46 := Lgs.ok32 (h_42.ok _ (.tail _ (.tail _ (.tail _ (.head _))))).1
  refine WL.call (al := [(.pointer (some ⟨ob, 0, none⟩)), (vi 2), (.slice (some ⟨b_22, 0, none⟩) 3 3)]) Try.call41 rfl rfl (c_oDigest ob mp ms df hms da dn dc u hdf la lc lx lg hu hlg (some ⟨b_22, 0, none⟩) 3 3 [(.slice (some ⟨b_1, 0, none⟩) 32 32), (.slice a_13 8 cap_14), (.slice (some ⟨b_4, 0, none⟩) 128 128)] [md, leN 8 (UInt64.ofNat pg).toNat, gr] rfl 2 (by omega) (by simp only [List.flatten_cons, List.flatten_nil, List.length_append, List.length_nil, leN_len]; omega) (by omega) _ h_42) rfl ?_
  rintro _ w_46 ⟨la_43, lc_44, lx_45, rfl, h_47⟩
  refine WL.nil ?_
  refine ⟨(SL.nil _ _), ?_⟩
  refine WT.q rfl (Wn.no rfl) rfl rfl (fun wq hS => R.extract (l := [(.agg ⟨(ansD df dn u lg (1, (List.replicate 32 (0 : UInt8)), 2, [md, leN 8 (UInt64.ofNat pg).toNat, gr].flatten)).map vu8⟩), (vi 0)]) (v := (.agg ⟨(ansD df dn u lg (1, (List.replicate 32 (0 : UInt8)), 2, [md, leN 8 (UInt64.ofNat pg).toNat, gr].flatten)).map vu8⟩)) rfl rfl) ?_
  refine WT.q rfl (Wn.no rfl) rfl rfl (fun wq hS => R.extract (l := [(.agg ⟨(ansD df dn u lg (1, (List.replicate 32 (0 : UInt8)), 2, [md, leN 8 (UInt64.ofNat pg).toNat, gr].flatten)).map vu8⟩), (vi 0)]) (v := (vi 0)) rfl rfl) ?_
  refine WT.s ?_
  refine Op1.one rfl (Wn.no rfl) ?_
  refine WL.storeA (b := b_7) (off := 0) [] [(32, (List.replicate 32 (0 : UInt8)).map vu8)] [(32, (ansD df dn u lg (1, (List.replicate 32 (0 : UInt8)), 2, [md, leN 8 (UInt64.ofNat pg).toNat, gr].flatten)).map vu8)] [] (ys := (ansD df dn u lg (1, (List.replicate 32 (0 : UInt8)), 2, [md, leN 8 (UInt64.ofNat pg).toNat, gr].flatten)).map vu8) h_47 rfl rfl Try.sizeOf29 (At.t (At.t (At.t (At.t (At.t (At.t (At.t (At.t (At.t (At.t At.h)))))))))) (by decide) rfl rfl rfl rfl rfl rfl (SsOk.cons (SOk.u8 (ansD_len hdf h32_w_46)) SsOk.nil) (fun w_48 h_49 => ?_)
  refine WL.nil ?_
  refine ⟨(SL.nil _ _), ?_⟩
  refine WT.q rfl (Wn.no rfl) rfl rfl (fun wq hS => R.assign (v := (vi 0)) rfl) ?_
  refine WT.nil ?_
  refine thn_n ?_
  refine WP.ret ?_
  refine ret_of Try.results17 (RV.cell rfl (h_49.loadA (cs := (ansD df dn u lg (1, (List.replicate 32 (0 : UInt8)), 2, [md, leN 8 (UInt64.ofNat pg).toNat, gr].flatten)).map vu8) Try.isAgg29 Try.sizeOf29 (.tail _ (.tail _ (.tail _ (.tail _ (.tail _ (.tail _ (.tail _ (.tail _ (.tail _ (.tail _ (.head _))))))))))) rfl rfl) (RV.tmp (v := (vi 0)) rfl RV.nil)) ?_
  have h_50 := h_49.up (Pick.t (Pick.t (Pick.t (Pick.t (Pick.t Pick.h)))))
  have h_51 := h_50.drop rfl
  have h_52 := h_51.up (Pick.t (Pick.t (Pick.t (Pick.t (Pick.t Pick.h)))))
  have h_53 := h_52.drop rfl
  have h_54 := h_53.up (Pick.t (Pick.t (Pick.t (Pick.t (Pick.t Pick.h)))))
  have h_55 := h_54.drop rfl
  have h_56 := h_55.up (Pick.t (Pick.t (Pick.t (Pick.t (Pick.t Pick.h)))))
  have h_57 := h_56.drop rfl
  have h_58 := h_57.up (Pick.t (Pick.t (Pick.t (Pick.t (Pick.t Pick.h)))))
  have h_59 := h_58.drop rfl
  have h_60 := h_59.up (Pick.t (Pick.t (Pick.t (Pick.t (Pick.t Pick.h)))))
  have h_61 := h_60.drop rfl
  have h_62 := h_61.up (Pick.t (Pick.t (Pick.t (Pick.t Pick.h))))
  have h_63 := h_62.up (Pick.t (Pick.t (Pick.t (Pick.t Pick.h))))
  have h_64 := h_63.up (Pick.t (Pick.t (Pick.t (Pick.t Pick.h))))
  have h_65 := h_64.up (Pick.t (Pick.t (Pick.t (Pick.t Pick.h))))
  have h_66 := h_65.up (Pick.t (Pick.t (Pick.t (Pick.t Pick.h))))
  exact ⟨_, _, _, rfl, h_66⟩

theorem c_Rec_z (bc : Nat) (md : List UInt8) (hmd : md.length = 32) (pc : UInt64) (rg : List UInt64) (hrg : rg.length = 8) (b : Bool) (w : World) (hcb : (Ent.blk bc .ro 47 [(1, [(.bool false)]), (32, (List.replicate 32 (0 : UInt8)).map vu8), (1, [(.slice none 0 0)]), (1, [(vi 0)]), (1, [(.map none)]), (1, [(.slice none 0 0)])]).ok w.heap.size w) :
    Cs Try.prog 18 [(.pointer (some ⟨bc, 0, none⟩)), (.agg ⟨md.map vu8⟩), (.agg ⟨flat [(1, [(vu64 pc)]), (8, rg.map vu64), (1, [(.bool b)])]⟩)].toArray w (fun v w1 => v = (.tuple [(.agg ⟨(List.replicate 32 (0 : UInt8)).map vu8⟩), (vi 1)].toArray) ∧ Chg w w1 []) := by
  refine Cs.of (n := 30) (args := [(.pointer (some ⟨bc, 0, none⟩)), (.agg ⟨md.map vu8⟩), (.agg ⟨flat [(1, [(vu64 pc)]), (8, rg.map vu64), (1, [(.bool b)])]⟩)]) Try.func18 rfl rfl rfl ?_
  have h_0 := HP.init w
  have h_00 := h_0.old hcb (fun f hf => by cases hf)
  refine WP.seq ?_
  refine WP.reg ?_
  refine WL.box (v := (.agg ⟨md.map vu8⟩)) (segs := [(32, md.map vu8)]) h_00 rfl rfl (SsOk.cons (SOk.u8 hmd) SsOk.nil) rfl (fun b_1 w_2 h_3 => ?_)
  refine WL.box (v := (.agg ⟨flat [(1, [(vu64 pc)]), (8, rg.map vu64), (1, [(.bool b)])]⟩)) (segs := [(1, [(vu64 pc)]), (8, rg.map vu64), (1, [(.bool b)])]) h_3 rfl rfl (SsOk.cons (SOk.v rfl) (SsOk.cons (SOk.u64 hrg) (SsOk.cons (SOk.v rfl) SsOk.nil))) rfl (fun b_4 w_5 h_6 => ?_)
  refine WL.alloc (segs := [(32, (List.replicate 32 (0 : UInt8)).map vu8)]) h_6 (zv Try.typeInfo29 rfl) rfl (SsOk.cons (SOk.u8 (List.length_replicate ..)) SsOk.nil) rfl (fun b_7 w_8 h_9 => ?_)
  refine WL.q (Wn.no rfl) rfl rfl (R.assign (v := (vi 0)) rfl) ?_
  refine WL.nil ?_
  refine thn_n ?_
  refine WP.seq ?_
  refine WP.seq ?_
  refine WP.reg ?_
  refine WL.q (Wn.no rfl) rfl rfl (R.move (v := (.pointer (some ⟨bc, 0, none⟩))) rfl) ?_
  refine WL.call (al := [(.pointer (some ⟨bc, 0, none⟩))]) Try.call47 rfl rfl (c_mth_z bc _ (h_9.argR (.tail _ (.tail _ (.tail _ (.head _)))))) rfl ?_
  rintro _ w_11 ⟨rfl, hc_10⟩
  have h_12 := h_9.same hc_10
  refine WL.q (Wn.no rfl) rfl rfl (R.not (b := false) rfl) ?_
  refine WL.nil ?_
  refine thn_n ?_
  refine WP.condT rfl ?_
  refine WP.seq ?_
  refine WP.reg ?_
  refine WL.q (Wn.no rfl) rfl rfl (R.buildA (vs := []) (cs := (List.replicate 32 (0 : UInt8)).map vu8) Try.underlying29 Try.sizeOf5 (zv Try.typeInfo29 rfl) rfl rfl) ?_
  refine WL.storeA (b := b_7) (off := 0) [] [(32, (List.replicate 32 (0 : UInt8)).map vu8)] [(32, (List.replicate 32 (0 : UInt8)).map vu8)] [] (ys := (List.replicate 32 (0 : UInt8)).map vu8) h_12 rfl rfl Try.sizeOf29 At.h (by decide) rfl rfl rfl rfl rfl rfl (SsOk.cons (SOk.u8 (List.length_replicate ..)) SsOk.nil) (fun w_13 h_14 => ?_)
  refine WL.q (Wn.no rfl) rfl rfl (R.assign (v := (vi 1)) rfl) ?_
  refine WL.nil ?_
  refine thn_n ?_
  refine WP.ret ?_
  refine thn_r ?_
  refine ret_of Try.results18 (RV.cell rfl (h_14.loadA (cs := (List.replicate 32 (0 : UInt8)).map vu8) Try.isAgg29 Try.sizeOf29 (.head _) rfl rfl) (RV.tmp (v := (vi 1)) rfl RV.nil)) ?_
  exact ⟨rfl, h_14.chgS⟩

theorem c_bare_r1p  (w : World) :
    Cs Try.prog 51 [(.agg ⟨flat [(1, [(vi 1)]), (32, (List.replicate 32 (0 : UInt8)).map vu8), (1, [(vi 1)]), (128, (List.replicate 128 (0 : UInt8)).map vu8), (1, [(vu64 0)]), (8, (List.replicate 8 (0 : UInt64)).map vu64), (1, [(.bool false)])]⟩)].toArray w (fun v w1 => v = (.agg ⟨flat [(1, [(vi 1)]), (32, (List.replicate 32 (0 : UInt8)).map vu8), (1, [(vi 0)]), (128, (List.replicate 128 (0 : UInt8)).map vu8), (1, [(vu64 0)]), (8, (List.replicate 8 (0 : UInt64)).map vu64), (1, [(.bool false)])]⟩) ∧ Chg w w1 []) := by
  refine Cs.of (n := 28) (args := [(.agg ⟨flat [(1, [(vi 1)]), (32, (List.replicate 32 (0 : UInt8)).map vu8), (1, [(vi 1)]), (128, (List.replicate 128 (0 : UInt8)).map vu8), (1, [(vu64 0)]), (8, (List.replicate 8 (0 : UInt64)).map vu64), (1, [(.bool false)])]⟩)]) Try.func51 rfl rfl rfl ?_
  have h_0 := HP.init w
  refine WP.seq ?_
  refine WP.reg ?_
  refine WL.box (v := (.agg ⟨flat [(1, [(vi 1)]), (32, (List.replicate 32 (0 : UInt8)).map vu8), (1, [(vi 1)]), (128, (List.replicate 128 (0 : UInt8)).map vu8), (1, [(vu64 0)]), (8, (List.replicate 8 (0 : UInt64)).map vu64), (1, [(.bool false)])]⟩)) (segs := [(1, [(vi 1)]), (32, (List.replicate 32 (0 : UInt8)).map vu8), (1, [(vi 1)]), (128, (List.replicate 128 (0 : UInt8)).map vu8), (1, [(vu64 0)]), (8, (List.replicate 8 (0 : UInt64)).map vu64), (1, [(.bool false)])]) h_0 rfl rfl (SsOk.cons (SOk.v rfl) (SsOk.cons (SOk.u8 (List.length_replicate ..)) (SsOk.cons (SOk.v rfl) (SsOk.cons (SOk.u8 (List.length_replicate ..)) (SsOk.cons (SOk.v rfl) (SsOk.cons (SOk.u64 (List.length_replicate ..)) (SsOk.cons (SOk.v rfl) SsOk.nil))))))) rfl (fun b_1 w_2 h_3 => ?_)
  refine WL.alloc (segs := [(1, [(vi 0)]), (32, (List.replicate 32 (0 : UInt8)).map vu8), (1, [(vi 0)]), (128, (List.replicate 128 (0 : UInt8)).map vu8), (1, [(vu64 0)]), (8, (List.replicate 8 (0 : UInt64)).map vu64), (1, [(.bool false)])]) h_3 (zv Try.typeInfo54 rfl) rfl (SsOk.cons (SOk.v rfl) (SsOk.cons (SOk.u8 (List.length_replicate ..)) (SsOk.cons (SOk.v rfl) (SsOk.cons (SOk.u8 (List.length_replicate ..)) (SsOk.cons (SOk.v rfl) (SsOk.cons (SOk.u64 (List.length_replicate ..)) (SsOk.cons (SOk.v rfl) SsOk.nil))))))) rfl (fun b_4 w_5 h_6 => ?_)
  refine WL.nil ?_
  refine thn_n ?_
  refine WP.seq ?_
  refine WP.reg ?_
  refine WL.q (Wn.no rfl) rfl rfl (R.fieldAddr (b := b_1) (off := 0) (off' := 0) rfl Try.underlying54 rfl Try.sizeOf52 rfl rfl) ?_
  refine WL.q (Wn.no rfl) rfl rfl (R.load1 (b := b_1) (off := 0) (v := (vi 1)) rfl Try.isAgg52 (h_6.ok _ (.tail _ (.head _))) Sg.h) ?_
  refine WL.q (Wn.no rfl) rfl rfl (R.buildS (pl := [(0, 1), (1, 32), (33, 1), (34, 128), (162, 10)]) (zs := [(1, [(vi 0)]), (32, (List.replicate 32 (0 : UInt8)).map vu8), (1, [(vi 0)]), (128, (List.replicate 128 (0 : UInt8)).map vu8), (1, [(vu64 0)]), (8, (List.replicate 8 (0 : UInt64)).map vu64), (1, [(.bool false)])]) (vs := [(0, (vi 1))]) (out := [(1, [(vi 1)]), (32, (List.replicate 32 (0 : UInt8)).map vu8), (1, [(vi 0)]), (128, (List.replicate 128 (0 : UInt8)).map vu8), (1, [(vu64 0)]), (8, (List.replicate 8 (0 : UInt64)).map vu64), (1, [(.bool false)])]) (cs := flat [(1, [(vi 1)]), (32, (List.replicate 32 (0 : UInt8)).map vu8), (1, [(vi 0)]), (128, (List.replicate 128 (0 : UInt8)).map vu8), (1, [(vu64 0)]), (8, (List.replicate 8 (0 : UInt64)).map vu64), (1, [(.bool false)])]) Try.underlying54 (zv Try.typeInfo54 rfl) rfl (SsOk.cons (SOk.v rfl) (SsOk.cons (SOk.u8 (List.length_replicate ..)) (SsOk.cons (SOk.v rfl) (SsOk.cons (SOk.u8 (List.length_replicate ..)) (SsOk.cons (SOk.v rfl) (SsOk.cons (SOk.u64 (List.length_replicate ..)) (SsOk.cons (SOk.v rfl) SsOk.nil))))))) (pl54 _ Try.underlying54) rfl (FillR.cons [] [(1, [(vi 0)])] [(1, [(vi 1)])] [(32, (List.replicate 32 (0 : UInt8)).map vu8), (1, [(vi 0)]), (128, (List.replicate 128 (0 : UInt8)).map vu8), (1, [(vu64 0)]), (8, (List.replicate 8 (0 : UInt64)).map vu64), (1, [(.bool false)])] rfl rfl rfl rfl (SsOk.cons (SOk.v rfl) SsOk.nil) rfl rfl rfl FillR.nil) rfl) ?_
  refine WL.alloc (segs := [(1, [(vi 0)]), (32, (List.replicate 32 (0 : UInt8)).map vu8), (1, [(vi 0)]), (128, (List.replicate 128 (0 : UInt8)).map vu8), (1, [(vu64 0)]), (8, (List.replicate 8 (0 : UInt64)).map vu64), (1, [(.bool false)])]) h_6 (zv Try.typeInfo54 rfl) rfl (SsOk.cons (SOk.v rfl) (SsOk.cons (SOk.u8 (List.length_replicate ..)) (SsOk.cons (SOk.v rfl) (SsOk.cons (SOk.u8 (List.length_replicate ..)) (SsOk.cons (SOk.v rfl) (SsOk.cons (SOk.u64 (List.length_replicate ..)) (SsOk.cons (SOk.v rfl) SsOk.nil))))))) rfl (fun b_8 w_9 h_10 => ?_)
  refine WL.storeA (b := b_8) (off := 0) [] [(1, [(vi 0)]), (32, (List.replicate 32 (0 : UInt8)).map vu8), (1, [(vi 0)]), (128, (List.replicate 128 (0 : UInt8)).map vu8), (1, [(vu64 0)]), (8, (List.replicate 8 (0 : UInt64)).map vu64), (1, [(.bool false)])] [(1, [(vi 1)]), (32, (List.replicate 32 (0 : UInt8)).map vu8), (1, [(vi 0)]), (128, (List.replicate 128 (0 : UInt8)).map vu8), (1, [(vu64 0)]), (8, (List.replicate 8 (0 : UInt64)).map vu64), (1, [(.bool false)])] [] (ys := flat [(1, [(vi 1)]), (32, (List.replicate 32 (0 : UInt8)).map vu8), (1, [(vi 0)]), (128, (List.replicate 128 (0 : UInt8)).map vu8), (1, [(vu64 0)]), (8, (List.replicate 8 (0 : UInt64)).map vu64), (1, [(.bool false)])]) h_10 rfl rfl Try.sizeOf54 At.h (by decide) rfl rfl rfl rfl rfl rfl (SsOk.cons (SOk.v rfl) (SsOk.cons (SOk.u8 (List.length_replicate ..)) (SsOk.cons (SOk.v rfl) (SsOk.cons (SOk.u8 (List.length_replicate ..)) (SsOk.cons (SOk.v rfl) (SsOk.cons (SOk.u64 (List.length_replicate ..)) (SsOk.cons (SOk.v rfl) SsOk.nil))))))) (fun w_11 h_12 => ?_)
  refine WL.nil ?_
  refine thn_n ?_
  refine WP.seq ?_
  refine WP.seq ?_
  refine WP.reg ?_
  refine WL.q (Wn.no rfl) rfl rfl (R.fieldAddr (b := b_1) (off := 0) (off' := 0) rfl Try.underlying54 rfl Try.sizeOf52 rfl rfl) ?_
  refine WL.q (Wn.no rfl) rfl rfl (R.load1 (b := b_1) (off := 0) (v := (vi 1)) rfl Try.isAgg52 (h_12.ok _ (.tail _ (.tail _ (.head _)))) Sg.h) ?_
  refine WL.nil ?_
  refine thn_n ?_
  refine WP.block ?_
  refine WP.seq ?_
  refine WP.reg ?_
  refine WL.q (Wn.no rfl) rfl rfl (R.bin (v := (.bool true)) rfl rfl (bi_eql (r := true) (by decide))) ?_
  refine WL.q (Wn.no rfl) rfl rfl (R.assign (v := (.bool true)) rfl) ?_
  refine WL.nil ?_
  refine thn_n ?_
  refine WP.condT rfl ?_
  refine WP.reg ?_
  refine WL.q (Wn.no rfl) rfl rfl (R.fieldAddr (b := b_1) (off := 0) (off' := 1) rfl Try.underlying54 rfl Try.sizeOf29 rfl rfl) ?_
  refine WL.q (Wn.no rfl) rfl rfl (R.loadA (b := b_1) (off := 1) [(1, [(vi 1)])] [(32, (List.replicate 32 (0 : UInt8)).map vu8)] [(1, [(vi 1)]), (128, (List.replicate 128 (0 : UInt8)).map vu8), (1, [(vu64 0)]), (8, (List.replicate 8 (0 : UInt64)).map vu64), (1, [(.bool false)])] (cs := (List.replicate 32 (0 : UInt8)).map vu8) rfl Try.isAgg29 Try.sizeOf29 (h_12.ok _ (.tail _ (.tail _ (.head _)))) rfl rfl rfl rfl) ?_
  refine WL.q (Wn.no rfl) rfl rfl (R.fieldAddr (b := b_8) (off := 0) (off' := 1) rfl Try.underlying54 rfl Try.sizeOf29 rfl rfl) ?_
  refine WL.storeA (b := b_8) (off := 1) [(1, [(vi 1)])] [(32, (List.replicate 32 (0 : UInt8)).map vu8)] [(32, (List.replicate 32 (0 : UInt8)).map vu8)] [(1, [(vi 0)]), (128, (List.replicate 128 (0 : UInt8)).map vu8), (1, [(vu64 0)]), (8, (List.replicate 8 (0 : UInt64)).map vu64), (1, [(.bool false)])] (ys := (List.replicate 32 (0 : UInt8)).map vu8) h_12 rfl rfl Try.sizeOf29 At.h (by decide) rfl rfl rfl rfl rfl rfl (SsOk.cons (SOk.u8 (List.length_replicate ..)) SsOk.nil) (fun w_13 h_14 => ?_)
  refine WL.nil ?_
  refine inb_n ?_
  refine thn_n ?_
  refine WP.seq ?_
  refine WP.reg ?_
  refine WL.q (Wn.no rfl) rfl rfl (R.loadA (b := b_8) (off := 0) [] [(1, [(vi 1)]), (32, (List.replicate 32 (0 : UInt8)).map vu8), (1, [(vi 0)]), (128, (List.replicate 128 (0 : UInt8)).map vu8), (1, [(vu64 0)]), (8, (List.replicate 8 (0 : UInt64)).map vu64), (1, [(.bool false)])] [] (cs := flat [(1, [(vi 1)]), (32, (List.replicate 32 (0 : UInt8)).map vu8), (1, [(vi 0)]), (128, (List.replicate 128 (0 : UInt8)).map vu8), (1, [(vu64 0)]), (8, (List.replicate 8 (0 : UInt64)).map vu64), (1, [(.bool false)])]) rfl Try.isAgg54 Try.sizeOf54 (h_14.ok _ (.head _)) rfl rfl rfl rfl) ?_
  refine WL.storeA (b := b_4) (off := 0) [] [(1, [(vi 0)]), (32, (List.replicate 32 (0 : UInt8)).map vu8), (1, [(vi 0)]), (128, (List.replicate 128 (0 : UInt8)).map vu8), (1, [(vu64 0)]), (8, (List.replicate 8 (0 : UInt64)).map vu64), (1, [(.bool false)])] [(1, [(vi 1)]), (32, (List.replicate 32 (0 : UInt8)).map vu8), (1, [(vi 0)]), (128, (List.replicate 128 (0 : UInt8)).map vu8), (1, [(vu64 0)]), (8, (List.replicate 8 (0 : UInt64)).map vu64), (1, [(.bool false)])] [] (ys := flat [(1, [(vi 1)]), (32, (List.replicate 32 (0 : UInt8)).map vu8), (1, [(vi 0)]), (128, (List.replicate 128 (0 : UInt8)).map vu8), (1, [(vu64 0)]), (8, (List.replicate 8 (0 : UInt64)).map vu64), (1, [(.bool false)])]) h_14 rfl rfl Try.sizeOf54 (At.t At.h) (by decide) rfl rfl rfl rfl rfl rfl (SsOk.cons (SOk.v rfl) (SsOk.cons (SOk.u8 (List.length_replicate ..)) (SsOk.cons (SOk.v rfl) (SsOk.cons (SOk.u8 (List.length_replicate ..)) (SsOk.cons (SOk.v rfl) (SsOk.cons (SOk.u64 (List.length_replicate ..)) (SsOk.cons (SOk.v rfl) SsOk.nil))))))) (fun w_15 h_16 => ?_)
  refine WL.nil ?_
  refine thn_n ?_
  refine WP.ret ?_
  refine ret_of Try.results51 (RV.cell rfl (h_16.loadA (cs := flat [(1, [(vi 1)]), (32, (List.replicate 32 (0 : UInt8)).map vu8), (1, [(vi 0)]), (128, (List.replicate 128 (0 : UInt8)).map vu8), (1, [(vu64 0)]), (8, (List.replicate 8 (0 : UInt64)).map vu64), (1, [(.bool false)])]) Try.isAgg54 Try.sizeOf54 (.tail _ (.head _)) rfl rfl) RV.nil) ?_
  exact ⟨rfl, h_16.chgS⟩

theorem c_bare_r2v  (w : World) :
    Cs Try.prog 51 [(.agg ⟨flat [(1, [(vi 2)]), (32, ([1, 0, 0, 0, 0, 0, 0, 0, 0, 0, 0, 0, 0, 0, 0, 0, 0, 0, 0, 0, 0, 0, 0, 0, 0, 0, 0, 0, 0, 0, 0, 2] : List UInt8).map vu8), (1, [(vi 0)]), (128, (List.replicate 128 (0 : UInt8)).map vu8), (1, [(vu64 0)]), (8, (List.replicate 8 (0 : UInt64)).map vu64), (1, [(.bool false)])]⟩)].toArray w (fun v w1 => v = (.agg ⟨flat [(1, [(vi 2)]), (32, (List.replicate 32 (0 : UInt8)).map vu8), (1, [(vi 0)]), (128, (List.replicate 128 (0 : UInt8)).map vu8), (1, [(vu64 0)]), (8, (List.replicate 8 (0 : UInt64)).map vu64), (1, [(.bool false)])]⟩) ∧ Chg w w1 []) := by
  refine Cs.of (n := 28) (args := [(.agg ⟨flat [(1, [(vi 2)]), (32, ([1, 0, 0, 0, 0, 0, 0, 0, 0, 0, 0, 0, 0, 0, 0, 0, 0, 0, 0, 0, 0, 0, 0, 0, 0, 0, 0, 0, 0, 0, 0, 2] : List UInt8).map vu8), (1, [(vi 0)]), (128, (List.replicate 128 (0 : UInt8)).map vu8), (1, [(vu64 0)]), (8, (List.replicate 8 (0 : UInt64)).map vu64), (1, [(.bool false)])]⟩)]) Try.func51 rfl rfl rfl ?_
  have h_0 := HP.init w
  refine WP.seq ?_
  refine WP.reg ?_
  refine WL.box (v := (.agg ⟨flat [(1, [(vi 2)]), (32, ([1, 0, 0, 0, 0, 0, 0, 0, 0, 0, 0, 0, 0, 0, 0, 0, 0, 0, 0, 0, 0, 0, 0, 0, 0, 0, 0, 0, 0, 0, 0, 2] : List UInt8).map vu8), (1, [(vi 0)]), (128, (List.replicate 128 (0 : UInt8)).map vu8), (1, [(vu64 0)]), (8, (List.replicate 8 (0 : UInt64)).map vu64), (1, [(.bool false)])]⟩)) (segs := [(1, [(vi 2)]), (32, ([1, 0, 0, 0, 0, 0, 0, 0, 0, 0, 0, 0, 0, 0, 0, 0, 0, 0, 0, 0, 0, 0, 0, 0, 0, 0, 0, 0, 0, 0, 0, 2] : List UInt8).map vu8), (1, [(vi 0)]), (128, (List.replicate 128 (0 : UInt8)).map vu8), (1, [(vu64 0)]), (8, (List.replicate 8 (0 : UInt64)).map vu64), (1, [(.bool false)])]) h_0 rfl rfl (SsOk.cons (SOk.v rfl) (SsOk.cons (SOk.u8 (rfl : List.length ([1, 0, 0, 0, 0, 0, 0, 0, 0, 0, 0, 0, 0, 0, 0, 0, 0, 0, 0, 0, 0, 0, 0, 0, 0, 0, 0, 0, 0, 0, 0, 2] : List UInt8) = 32)) (SsOk.cons (SOk.v rfl) (SsOk.cons (SOk.u8 (List.length_replicate ..)) (SsOk.cons (SOk.v rfl) (SsOk.cons (SOk.u64 (List.length_replicate ..)) (SsOk.cons (SOk.v rfl) SsOk.nil))))))) rfl (fun b_1 w_2 h_3 => ?_)
  refine WL.alloc (segs := [(1, [(vi 0)]), (32, (List.replicate 32 (0 : UInt8)).map vu8), (1, [(vi 0)]), (128, (List.replicate 128 (0 : UInt8)).map vu8), (1, [(vu64 0)]), (8, (List.replicate 8 (0 : UInt64)).map vu64), (1, [(.bool false)])]) h_3 (zv Try.typeInfo54 rfl) rfl (SsOk.cons (SOk.v rfl) (SsOk.cons (SOk.u8 (List.length_replicate ..)) (SsOk.cons (SOk.v rfl) (SsOk.cons (SOk.u8 (List.length_replicate ..)) (SsOk.cons (SOk.v rfl) (SsOk.cons (SOk.u64 (List.length_replicate ..)) (SsOk.cons (SOk.v rfl) SsOk.nil))))))) rfl (fun b_4 w_5 h_6 => ?_)
  refine WL.nil ?_
  refine thn_n ?_
  refine WP.seq ?_
  refine WP.reg ?_
  refine WL.q (Wn.no rfl) rfl rfl (R.fieldAddr (b := b_1) (off := 0) (off' := 0) rfl Try.underlying54 rfl Try.sizeOf52 rfl rfl) ?_
  refine WL.q (Wn.no rfl) rfl rfl (R.load1 (b := b_1) (off := 0) (v := (vi 2)) rfl Try.isAgg52 (h_6.ok _ (.tail _ (.head _))) Sg.h) ?_
  refine WL.q (Wn.no rfl) rfl rfl (R.buildS (pl := [(0, 1), (1, 32), (33, 1), (34, 128), (162, 10)]) (zs := [(1, [(vi 0)]), (32, (List.replicate 32 (0 : UInt8)).map vu8), (1, [(vi 0)]), (128, (List.replicate 128 (0 : UInt8)).map vu8), (1, [(vu64 0)]), (8, (List.replicate 8 (0 : UInt64)).map vu64), (1, [(.bool false)])]) (vs := [(0, (vi 2))]) (out := [(1, [(vi 2)]), (32, (List.replicate 32 (0 : UInt8)).map vu8), (1, [(vi 0)]), (128, (List.replicate 128 (0 : UInt8)).map vu8), (1, [(vu64 0)]), (8, (List.replicate 8 (0 : UInt64)).map vu64), (1, [(.bool false)])]) (cs := flat [(1, [(vi 2)]), (32, (List.replicate 32 (0 : UInt8)).map vu8), (1, [(vi 0)]), (128, (List.replicate 128 (0 : UInt8)).map vu8), (1, [(vu64 0)]), (8, (List.replicate 8 (0 : UInt64)).map vu64), (1, [(.bool false)])]) Try.underlying54 (zv Try.typeInfo54 rfl) rfl (SsOk.cons (SOk.v rfl) (SsOk.cons (SOk.u8 (List.length_replicate ..)) (SsOk.cons (SOk.v rfl) (SsOk.cons (SOk.u8 (List.length_replicate ..)) (SsOk.cons (SOk.v rfl) (SsOk.cons (SOk.u64 (List.length_replicate ..)) (SsOk.cons (SOk.v rfl) SsOk.nil))))))) (pl54 _ Try.underlying54) rfl (FillR.cons [] [(1, [(vi 0)])] [(1, [(vi 2)])] [(32, (List.replicate 32 (0 : UInt8)).map vu8), (1, [(vi 0)]), (128, (List.replicate 128 (0 : UInt8)).map vu8), (1, [(vu64 0)]), (8, (List.replicate 8 (0 : UInt64)).map vu64), (1, [(.bool false)])] rfl rfl rfl rfl (SsOk.cons (SOk.v rfl) SsOk.nil) rfl rfl rfl FillR.nil) rfl) ?_
  refine WL.alloc (segs := [(1, [(vi 0)]), (32, (List.replicate 32 (0 : UInt8)).map vu8), (1, [(vi 0)]), (128, (List.replicate 128 (0 : UInt8)).map vu8), (1, [(vu64 0)]), (8, (List.replicate 8 (0 : UInt64)).map vu64), (1, [(.bool false)])]) h_6 (zv Try.typeInfo54 rfl) rfl (SsOk.cons (SOk.v rfl) (SsOk.cons (SOk.u8 (List.length_replicate ..)) (SsOk.cons (SOk.v rfl) (SsOk.cons (SOk.u8 (List.length_replicate ..)) (SsOk.cons (SOk.v rfl) (SsOk.cons (SOk.u64 (List.length_replicate ..)) (SsOk.cons (SOk.v rfl) SsOk.nil))))))) rfl (fun b_8 w_9 h_10 => ?_)
  refine WL.storeA (b := b_8) (off := 0) [] [(1, [(vi 0)]), (32, (List.replicate 32 (0 : UInt8)).map vu8), (1, [(vi 0)]), (128, (List.replicate 128 (0 : UInt8)).map vu8), (1, [(vu64 0)]), (8, (List.replicate 8 (0 : UInt64)).map vu64), (1, [(.bool false)])] [(1, [(vi 2)]), (32, (List.replicate 32 (0 : UInt8)).map vu8), (1, [(vi 0)]), (128, (List.replicate 128 (0 : UInt8)).map vu8), (1, [(vu64 0)]), (8, (List.replicate 8 (0 : UInt64)).map vu64), (1, [(.bool false)])] [] (ys := flat [(1, [(vi 2)]), (32, (List.replicate 32 (0 : UInt8)).map vu8), (1, [(vi 0)]), (128, (List.replicate 128 (0 : UInt8)).map vu8), (1, [(vu64 0)]), (8, (List.replicate 8 (0 : UInt64)).map vu64), (1, [(.bool false)])]) h_10 rfl rfl Try.sizeOf54 At.h (by decide) rfl rfl rfl rfl rfl rfl (SsOk.cons (SOk.v rfl) (SsOk.cons (SOk.u8 (List.length_replicate ..)) (SsOk.cons (SOk.v rfl) (SsOk.cons (SOk.u8 (List.length_replicate ..)) (SsOk.cons (SOk.v rfl) (SsOk.cons (SOk.u64 (List.length_replicate ..)) (SsOk.cons (SOk.v rfl) SsOk.nil))))))) (fun w_11 h_12 => ?_)
  refine WL.nil ?_
  refine thn_n ?_
  refine WP.seq ?_
  refine WP.seq ?_
  refine WP.reg ?_
  refine WL.q (Wn.no rfl) rfl rfl (R.fieldAddr (b := b_1) (off := 0) (off' := 0) rfl Try.underlying54 rfl Try.sizeOf52 rfl rfl) ?_
  refine WL.q (Wn.no rfl) rfl rfl (R.load1 (b := b_1) (off := 0) (v := (vi 2)) rfl Try.isAgg52 (h_12.ok _ (.tail _ (.tail _ (.head _)))) Sg.h) ?_
  refine WL.nil ?_
  refine thn_n ?_
  refine WP.block ?_
  refine WP.seq ?_
  refine WP.reg ?_
  refine WL.q (Wn.no rfl) rfl rfl (R.bin (v := (.bool false)) rfl rfl (bi_eql (r := false) (by decide))) ?_
  refine WL.q (Wn.no rfl) rfl rfl (R.assign (v := (.bool false)) rfl) ?_
  refine WL.nil ?_
  refine thn_n ?_
  refine WP.condF rfl ?_
  refine WP.seq ?_
  refine WP.reg ?_
  refine WL.q (Wn.no rfl) rfl rfl (R.bin (v := (.bool true)) rfl rfl (bi_eql (r := true) (by decide))) ?_
  refine WL.q (Wn.no rfl) rfl rfl (R.assign (v := (.bool true)) rfl) ?_
  refine WL.nil ?_
  refine thn_n ?_
  refine WP.condT rfl ?_
  refine WP.drawT (SL w.heap.size [.blk b_4 .nw 54 [(1, [(vi 0)]), (32, (List.replicate 32 (0 : UInt8)).map vu8), (1, [(vi 0)]), (128, (List.replicate 128 (0 : UInt8)).map vu8), (1, [(vu64 0)]), (8, (List.replicate 8 (0 : UInt64)).map vu64), (1, [(.bool false)])], .blk b_1 .nw 54 [(1, [(vi 2)]), (32, ([1, 0, 0, 0, 0, 0, 0, 0, 0, 0, 0, 0, 0, 0, 0, 0, 0, 0, 0, 0, 0, 0, 0, 0, 0, 0, 0, 0, 0, 0, 0, 2] : List UInt8).map vu8), (1, [(vi 0)]), (128, (List.replicate 128 (0 : UInt8)).map vu8), (1, [(vu64 0)]), (8, (List.replicate 8 (0 : UInt64)).map vu64), (1, [(.bool false)])]]) (.q 0 (.q 1 (.q 2 (.q 3 (.q 4 (.s 5 (.q 6 (.s 7 .nil)))))))) (by kernel_rfl) (by kernel_rfl) rfl (by kernel_rfl) (fun w_13 hc_15 => (SL.cons ((h_12.same hc_15).ok _ (.tail _ (.head _))) (SL.cons ((h_12.same hc_15).ok _ (.tail _ (.tail _ (.head _)))) (SL.nil _ _)))) (fun w_13 hc_15 => ?_)
  have h_14 := h_12.same hc_15
  refine WT.q rfl (Wn.no rfl) rfl rfl (fun wq hS => R.fieldAddr (b := b_1) (off := 0) (off' := 33) rfl Try.underlying54 rfl Try.sizeOf3 rfl rfl) ?_
  refine WT.q rfl (Wn.no rfl) rfl rfl (fun wq hS => R.load1 (b := b_1) (off := 33) (v := (vi 0)) rfl Try.isAgg3 (hS _ (.tail _ (.head _))) (Sg.t rfl (Sg.t rfl Sg.h))) ?_
  refine WT.q rfl (Wn.no rfl) rfl rfl (fun wq hS => R.fieldAddr (b := b_1) (off := 0) (off' := 34) rfl Try.underlying54 rfl Try.sizeOf42 rfl rfl) ?_
  refine WT.q rfl (Wn.no rfl) rfl rfl (fun wq hS => R.loadA (b := b_1) (off := 34) [(1, [(vi 2)]), (32, ([1, 0, 0, 0, 0, 0, 0, 0, 0, 0, 0, 0, 0, 0, 0, 0, 0, 0, 0, 0, 0, 0, 0, 0, 0, 0, 0, 0, 0, 0, 0, 2] : List UInt8).map vu8), (1, [(vi 0)])] [(128, (List.replicate 128 (0 : UInt8)).map vu8)] [(1, [(vu64 0)]), (8, (List.replicate 8 (0 : UInt64)).map vu64), (1, [(.bool false)])] (cs := (List.replicate 128 (0 : UInt8)).map vu8) rfl Try.isAgg42 Try.sizeOf42 (hS _ (.tail _ (.head _))) rfl rfl rfl rfl) ?_
  refine WT.q rfl (Wn.no rfl) rfl rfl (fun wq hS => R.fieldAddr (b := b_8) (off := 0) (off' := 33) rfl Try.underlying54 rfl Try.sizeOf3 rfl rfl) ?_
  refine WT.s ?_
  refine Op1.one rfl (Wn.no rfl) ?_
  refine WL.store1 (b := b_8) (off := 33) (v := (vi 0)) h_14 rfl rfl Try.sizeOf3 rfl At.h (by decide) (Sg.t rfl (Sg.t rfl Sg.h)) (fun w_16 h_17 => ?_)
  refine WL.nil ?_
  refine ⟨(SL.cons (h_17.ok _ (.tail _ (.head _))) (SL.cons (h_17.ok _ (.tail _ (.tail _ (.head _)))) (SL.nil _ _))), ?_⟩
  refine WT.q rfl (Wn.no rfl) rfl rfl (fun wq hS => R.fieldAddr (b := b_8) (off := 0) (off' := 34) rfl Try.underlying54 rfl Try.sizeOf42 rfl rfl) ?_
  refine WT.s ?_
  refine Op1.one rfl (Wn.no rfl) ?_
  refine WL.storeA (b := b_8) (off := 34) [(1, [(vi 2)]), (32, (List.replicate 32 (0 : UInt8)).map vu8), (1, [(vi 0)])] [(128, (List.replicate 128 (0 : UInt8)).map vu8)] [(128, (List.replicate 128 (0 : UInt8)).map vu8)] [(1, [(vu64 0)]), (8, (List.replicate 8 (0 : UInt64)).map vu64), (1, [(.bool false)])] (ys := (List.replicate 128 (0 : UInt8)).map vu8) h_17 rfl rfl Try.sizeOf42 At.h (by decide) rfl rfl rfl rfl rfl rfl (SsOk.cons (SOk.u8 (List.length_replicate ..)) SsOk.nil) (fun w_18 h_19 => ?_)
  refine WL.nil ?_
  refine ⟨(SL.cons (h_19.ok _ (.tail _ (.head _))) (SL.cons (h_19.ok _ (.tail _ (.tail _ (.head _)))) (SL.nil _ _))), ?_⟩
  refine WT.nil ?_
  refine inb_n ?_
  refine thn_n ?_
  refine WP.seq ?_
  refine WP.reg ?_
  refine WL.q (Wn.no rfl) rfl rfl (R.loadA (b := b_8) (off := 0) [] [(1, [(vi 2)]), (32, (List.replicate 32 (0 : UInt8)).map vu8), (1, [(vi 0)]), (128, (List.replicate 128 (0 : UInt8)).map vu8), (1, [(vu64 0)]), (8, (List.replicate 8 (0 : UInt64)).map vu64), (1, [(.bool false)])] [] (cs := flat [(1, [(vi 2)]), (32, (List.replicate 32 (0 : UInt8)).map vu8), (1, [(vi 0)]), (128, (List.replicate 128 (0 : UInt8)).map vu8), (1, [(vu64 0)]), (8, (List.replicate 8 (0 : UInt64)).map vu64), (1, [(.bool false)])]) rfl Try.isAgg54 Try.sizeOf54 (h_19.ok _ (.head _)) rfl rfl rfl rfl) ?_
  refine WL.storeA (b := b_4) (off := 0) [] [(1, [(vi 0)]), (32, (List.replicate 32 (0 : UInt8)).map vu8), (1, [(vi 0)]), (128, (List.replicate 128 (0 : UInt8)).map vu8), (1, [(vu64 0)]), (8, (List.replicate 8 (0 : UInt64)).map vu64), (1, [(.bool false)])] [(1, [(vi 2)]), (32, (List.replicate 32 (0 : UInt8)).map vu8), (1, [(vi 0)]), (128, (List.replicate 128 (0 : UInt8)).map vu8), (1, [(vu64 0)]), (8, (List.replicate 8 (0 : UInt64)).map vu64), (1, [(.bool false)])] [] (ys := flat [(1, [(vi 2)]), (32, (List.replicate 32 (0 : UInt8)).map vu8), (1, [(vi 0)]), (128, (List.replicate 128 (0 : UInt8)).map vu8), (1, [(vu64 0)]), (8, (List.replicate 8 (0 : UInt64)).map vu64), (1, [(.bool false)])]) h_19 rfl rfl Try.sizeOf54 (At.t At.h) (by decide) rfl rfl rfl rfl rfl rfl (SsOk.cons (SOk.v rfl) (SsOk.cons (SOk.u8 (List.length_replicate ..)) (SsOk.cons (SOk.v rfl) (SsOk.cons (SOk.u8 (List.length_replicate ..)) (SsOk.cons (SOk.v rfl) (SsOk.cons (SOk.u64 (List.length_replicate ..)) (SsOk.cons (SOk.v rfl) SsOk.nil))))))) (fun w_20 h_21 => ?_)
  refine WL.nil ?_
  refine thn_n ?_
  refine WP.ret ?_
  refine ret_of Try.results51 (RV.cell rfl (h_21.loadA (cs := flat [(1, [(vi 2)]), (32, (List.replicate 32 (0 : UInt8)).map vu8), (1, [(vi 0)]), (128, (List.replicate 128 (0 : UInt8)).map vu8), (1, [(vu64 0)]), (8, (List.replicate 8 (0 : UInt64)).map vu64), (1, [(.bool false)])]) Try.isAgg54 Try.sizeOf54 (.tail _ (.head _)) rfl rfl) RV.nil) ?_
  exact ⟨rfl, h_21.chgS⟩

theorem c_bare_r2p  (w : World) :
    Cs Try.prog 51 [(.agg ⟨flat [(1, [(vi 2)]), (32, (List.replicate 32 (0 : UInt8)).map vu8), (1, [(vi 128)]), (128, (List.replicate 128 (0 : UInt8)).map vu8), (1, [(vu64 0)]), (8, (List.replicate 8 (0 : UInt64)).map vu64), (1, [(.bool false)])]⟩)].toArray w (fun v w1 => v = (.agg ⟨flat [(1, [(vi 2)]), (32, (List.replicate 32 (0 : UInt8)).map vu8), (1, [(vi 128)]), (128, (List.replicate 128 (0 : UInt8)).map vu8), (1, [(vu64 0)]), (8, (List.replicate 8 (0 : UInt64)).map vu64), (1, [(.bool false)])]⟩) ∧ Chg w w1 []) := by
  refine Cs.of (n := 28) (args := [(.agg ⟨flat [(1, [(vi 2)]), (32, (List.replicate 32 (0 : UInt8)).map vu8), (1, [(vi 128)]), (128, (List.replicate 128 (0 : UInt8)).map vu8), (1, [(vu64 0)]), (8, (List.replicate 8 (0 : UInt64)).map vu64), (1, [(.bool false)])]⟩)]) Try.func51 rfl rfl rfl ?_
  have h_0 := HP.init w
  refine WP.seq ?_
  refine WP.reg ?_
  refine WL.box (v := (.agg ⟨flat [(1, [(vi 2)]), (32, (List.replicate 32 (0 : UInt8)).map vu8), (1, [(vi 128)]), (128, (List.replicate 128 (0 : UInt8)).map vu8), (1, [(vu64 0)]), (8, (List.replicate 8 (0 : UInt64)).map vu64), (1, [(.bool false)])]⟩)) (segs := [(1, [(vi 2)]), (32, (List.replicate 32 (0 : UInt8)).map vu8), (1, [(vi 128)]), (128, (List.replicate 128 (0 : UInt8)).map vu8), (1, [(vu64 0)]), (8, (List.replicate 8 (0 : UInt64)).map vu64), (1, [(.bool false)])]) h_0 rfl rfl (SsOk.cons (SOk.v rfl) (SsOk.cons (SOk.u8 (List.length_replicate ..)) (SsOk.cons (SOk.v rfl) (SsOk.cons (SOk.u8 (List.length_replicate ..)) (SsOk.cons (SOk.v rfl) (SsOk.cons (SOk.u64 (List.length_replicate ..)) (SsOk.cons (SOk.v rfl) SsOk.nil))))))) rfl (fun b_1 w_2 h_3 => ?_)
  refine WL.alloc (segs := [(1, [(vi 0)]), (32, (List.replicate 32 (0 : UInt8)).map vu8), (1, [(vi 0)]), (128, (List.replicate 128 (0 : UInt8)).map vu8), (1, [(vu64 0)]), (8, (List.replicate 8 (0 : UInt64)).map vu64), (1, [(.bool false)])]) h_3 (zv Try.typeInfo54 rfl) rfl (SsOk.cons (SOk.v rfl) (SsOk.cons (SOk.u8 (List.length_replicate ..)) (SsOk.cons (SOk.v rfl) (SsOk.cons (SOk.u8 (List.length_replicate ..)) (SsOk.cons (SOk.v rfl) (SsOk.cons (SOk.u64 (List.length_replicate ..)) (SsOk.cons (SOk.v rfl) SsOk.nil))))))) rfl (fun b_4 w_5 h_6 => ?_)
  refine WL.nil ?_
  refine thn_n ?_
  refine WP.seq ?_
  refine WP.reg ?_
  refine WL.q (Wn.no rfl) rfl rfl (R.fieldAddr (b := b_1) (off := 0) (off' := 0) rfl Try.underlying54 rfl Try.sizeOf52 rfl rfl) ?_
  refine WL.q (Wn.no rfl) rfl rfl (R.load1 (b := b_1) (off := 0) (v := (vi 2)) rfl Try.isAgg52 (h_6.ok _ (.tail _ (.head _))) Sg.h) ?_
  refine WL.q (Wn.no rfl) rfl rfl (R.buildS (pl := [(0, 1), (1, 32), (33, 1), (34, 128), (162, 10)]) (zs := [(1, [(vi 0)]), (32, (List.replicate 32 (0 : UInt8)).map vu8), (1, [(vi 0)]), (128, (List.replicate 128 (0 : UInt8)).map vu8), (1, [(vu64 0)]), (8, (List.replicate 8 (0 : UInt64)).map vu64), (1, [(.bool false)])]) (vs := [(0, (vi 2))]) (out := [(1, [(vi 2)]), (32, (List.replicate 32 (0 : UInt8)).map vu8), (1, [(vi 0)]), (128, (List.replicate 128 (0 : UInt8)).map vu8), (1, [(vu64 0)]), (8, (List.replicate 8 (0 : UInt64)).map vu64), (1, [(.bool false)])]) (cs := flat [(1, [(vi 2)]), (32, (List.replicate 32 (0 : UInt8)).map vu8), (1, [(vi 0)]), (128, (List.replicate 128 (0 : UInt8)).map vu8), (1, [(vu64 0)]), (8, (List.replicate 8 (0 : UInt64)).map vu64), (1, [(.bool false)])]) Try.underlying54 (zv Try.typeInfo54 rfl) rfl (SsOk.cons (SOk.v rfl) (SsOk.cons (SOk.u8 (List.length_replicate ..)) (SsOk.cons (SOk.v rfl) (SsOk.cons (SOk.u8 (List.length_replicate ..)) (SsOk.cons (SOk.v rfl) (SsOk.cons (SOk.u64 (List.length_replicate ..)) (SsOk.cons (SOk.v rfl) SsOk.nil))))))) (pl54 _ Try.underlying54) rfl (FillR.cons [] [(1, [(vi 0)])] [(1, [(vi 2)])] [(32, (List.replicate 32 (0 : UInt8)).map vu8), (1, [(vi 0)]), (128, (List.replicate 128 (0 : UInt8)).map vu8), (1, [(vu64 0)]), (8, (List.replicate 8 (0 : UInt64)).map vu64), (1, [(.bool false)])] rfl rfl rfl rfl (SsOk.cons (SOk.v rfl) SsOk.nil) rfl rfl rfl FillR.nil) rfl) ?_
  refine WL.alloc (segs := [(1, [(vi 0)]), (32, (List.replicate 32 (0 : UInt8)).map vu8), (1, [(vi 0)]), (128, (List.replicate 128 (0 : UInt8)).map vu8), (1, [(vu64 0)]), (8, (List.replicate 8 (0 : UInt64)).map vu64), (1, [(.bool false)])]) h_6 (zv Try.typeInfo54 rfl) rfl (SsOk.cons (SOk.v rfl) (SsOk.cons (SOk.u8 (List.length_replicate ..)) (SsOk.cons (SOk.v rfl) (SsOk.cons (SOk.u8 (List.length_replicate ..)) (SsOk.cons (SOk.v rfl) (SsOk.cons (SOk.u64 (List.length_replicate ..)) (SsOk.cons (SOk.v rfl) SsOk.nil))))))) rfl (fun b_8 w_9 h_10 => ?_)
  refine WL.storeA (b := b_8) (off := 0) [] [(1, [(vi 0)]), (32, (List.replicate 32 (0 : UInt8)).map vu8), (1, [(vi 0)]), (128, (List.replicate 128 (0 : UInt8)).map vu8), (1, [(vu64 0)]), (8, (List.replicate 8 (0 : UInt64)).map vu64), (1, [(.bool false)])] [(1, [(vi 2)]), (32, (List.replicate 32 (0 : UInt8)).map vu8), (1, [(vi 0)]), (128, (List.replicate 128 (0 : UInt8)).map vu8), (1, [(vu64 0)]), (8, (List.replicate 8 (0 : UInt64)).map vu64), (1, [(.bool false)])] [] (ys := flat [(1, [(vi 2)]), (32, (List.replicate 32 (0 : UInt8)).map vu8), (1, [(vi 0)]), (128, (List.replicate 128 (0 : UInt8)).map vu8), (1, [(vu64 0)]), (8, (List.replicate 8 (0 : UInt64)).map vu64), (1, [(.bool false)])]) h_10 rfl rfl Try.sizeOf54 At.h (by decide) rfl rfl rfl rfl rfl rfl (SsOk.cons (SOk.v rfl) (SsOk.cons (SOk.u8 (List.length_replicate ..)) (SsOk.cons (SOk.v rfl) (SsOk.cons (SOk.u8 (List.length_replicate ..)) (SsOk.cons (SOk.v rfl) (SsOk.cons (SOk.u64 (List.length_replicate ..)) (SsOk.cons (SOk.v rfl) SsOk.nil))))))) (fun w_11 h_12 => ?_)
  refine WL.nil ?_
  refine thn_n ?_
  refine WP.seq ?_
  refine WP.seq ?_
  refine WP.reg ?_
  refine WL.q (Wn.no rfl) rfl rfl (R.fieldAddr (b := b_1) (off := 0) (off' := 0) rfl Try.underlying54 rfl Try.sizeOf52 rfl rfl) ?_
  refine WL.q (Wn.no rfl) rfl rfl (R.load1 (b := b_1) (off := 0) (v := (vi 2)) rfl Try.isAgg52 (h_12.ok _ (.tail _ (.tail _ (.head _)))) Sg.h) ?_
  refine WL.nil ?_
  refine thn_n ?_
  refine WP.block ?_
  refine WP.seq ?_
  refine WP.reg ?_
  refine WL.q (Wn.no rfl) rfl rfl (R.bin (v := (.bool false)) rfl rfl (bi_eql (r := false) (by decide))) ?_
  refine WL.q (Wn.no rfl) rfl rfl (R.assign (v := (.bool false)) rfl) ?_
  refine WL.nil ?_
  refine thn_n ?_
  refine WP.condF rfl ?_
  refine WP.seq ?_
  refine WP.reg ?_
  refine WL.q (Wn.no rfl) rfl rfl (R.bin (v := (.bool true)) rfl rfl (bi_eql (r := true) (by decide))) ?_
  refine WL.q (Wn.no rfl) rfl rfl (R.assign (v := (.bool true)) rfl) ?_
  refine WL.nil ?_
  refine thn_n ?_
  refine WP.condT rfl ?_
  refine WP.drawT (SL w.heap.size [.blk b_4 .nw 54 [(1, [(vi 0)]), (32, (List.replicate 32 (0 : UInt8)).map vu8), (1, [(vi 0)]), (128, (List.replicate 128 (0 : UInt8)).map vu8), (1, [(vu64 0)]), (8, (List.replicate 8 (0 : UInt64)).map vu64), (1, [(.bool false)])], .blk b_1 .nw 54 [(1, [(vi 2)]), (32, (List.replicate 32 (0 : UInt8)).map vu8), (1, [(vi 128)]), (128, (List.replicate 128 (0 : UInt8)).map vu8), (1, [(vu64 0)]), (8, (List.replicate 8 (0 : UInt64)).map vu64), (1, [(.bool false)])]]) (.q 0 (.q 1 (.q 2 (.q 3 (.q 4 (.s 5 (.q 6 (.s 7 .nil)))))))) (by kernel_rfl) (by kernel_rfl) rfl (by kernel_rfl) (fun w_13 hc_15 => (SL.cons ((h_12.same hc_15).ok _ (.tail _ (.head _))) (SL.cons ((h_12.same hc_15).ok _ (.tail _ (.tail _ (.head _)))) (SL.nil _ _)))) (fun w_13 hc_15 => ?_)
  have h_14 := h_12.same hc_15
  refine WT.q rfl (Wn.no rfl) rfl rfl (fun wq hS => R.fieldAddr (b := b_1) (off := 0) (off' := 33) rfl Try.underlying54 rfl Try.sizeOf3 rfl rfl) ?_
  refine WT.q rfl (Wn.no rfl) rfl rfl (fun wq hS => R.load1 (b := b_1) (off := 33) (v := (vi 128)) rfl Try.isAgg3 (hS _ (.tail _ (.head _))) (Sg.t rfl (Sg.t rfl Sg.h))) ?_
  refine WT.q rfl (Wn.no rfl) rfl rfl (fun wq hS => R.fieldAddr (b := b_1) (off := 0) (off' := 34) rfl Try.underlying54 rfl Try.sizeOf42 rfl rfl) ?_
  refine WT.q rfl (Wn.no rfl) rfl rfl (fun wq hS => R.loadA (b := b_1) (off := 34) [(1, [(vi 2)]), (32, (List.replicate 32 (0 : UInt8)).map vu8), (1, [(vi 128)])] [(128, (List.replicate 128 (0 : UInt8)).map vu8)] [(1, [(vu64 0)]), (8, (List.replicate 8 (0 : UInt64)).map vu64), (1, [(.bool false)])] (cs := (List.replicate 128 (0 : UInt8)).map vu8) rfl Try.isAgg42 Try.sizeOf42 (hS _ (.tail _ (.head _))) rfl rfl rfl rfl) ?_
  refine WT.q rfl (Wn.no rfl) rfl rfl (fun wq hS => R.fieldAddr (b := b_8) (off := 0) (off' := 33) rfl Try.underlying54 rfl Try.sizeOf3 rfl rfl) ?_
  refine WT.s ?_
  refine Op1.one rfl (Wn.no rfl) ?_
  refine WL.store1 (b := b_8) (off := 33) (v := (vi 128)) h_14 rfl rfl Try.sizeOf3 rfl At.h (by decide) (Sg.t rfl (Sg.t rfl Sg.h)) (fun w_16 h_17 => ?_)
  refine WL.nil ?_
  refine ⟨(SL.cons (h_17.ok _ (.tail _ (.head _))) (SL.cons (h_17.ok _ (.tail _ (.tail _ (.head _)))) (SL.nil _ _))), ?_⟩
  refine WT.q rfl (Wn.no rfl) rfl rfl (fun wq hS => R.fieldAddr (b := b_8) (off := 0) (off' := 34) rfl Try.underlying54 rfl Try.sizeOf42 rfl rfl) ?_
  refine WT.s ?_
  refine Op1.one rfl (Wn.no rfl) ?_
  refine WL.storeA (b := b_8) (off := 34) [(1, [(vi 2)]), (32, (List.replicate 32 (0 : UInt8)).map vu8), (1, [(vi 128)])] [(128, (List.replicate 128 (0 : UInt8)).map vu8)] [(128, (List.replicate 128 (0 : UInt8)).map vu8)] [(1, [(vu64 0)]), (8, (List.replicate 8 (0 : UInt64)).map vu64), (1, [(.bool false)])] (ys := (List.replicate 128 (0 : UInt8)).map vu8) h_17 rfl rfl Try.sizeOf42 At.h (by decide) rfl rfl rfl rfl rfl rfl (SsOk.cons (SOk.u8 (List.length_replicate ..)) SsOk.nil) (fun w_18 h_19 => ?_)
  refine WL.nil ?_
  refine ⟨(SL.cons (h_19.ok _ (.tail _ (.head _))) (SL.cons (h_19.ok _ (.tail _ (.tail _ (.head _)))) (SL.nil _ _))), ?_⟩
  refine WT.nil ?_
  refine inb_n ?_
  refine thn_n ?_
  refine WP.seq ?_
  refine WP.reg ?_
  refine WL.q (Wn.no rfl) rfl rfl (R.loadA (b := b_8) (off := 0) [] [(1, [(vi 2)]), (32, (List.replicate 32 (0 : UInt8)).map vu8), (1, [(vi 128)]), (128, (List.replicate 128 (0 : UInt8)).map vu8), (1, [(vu64 0)]), (8, (List.replicate 8 (0 : UInt64)).map vu64), (1, [(.bool false)])] [] (cs := flat [(1, [(vi 2)]), (32, (List.replicate 32 (0 : UInt8)).map vu8), (1, [(vi 128)]), (128, (List.replicate 128 (0 : UInt8)).map vu8), (1, [(vu64 0)]), (8, (List.replicate 8 (0 : UInt64)).map vu64), (1, [(.bool false)])]) rfl Try.isAgg54 Try.sizeOf54 (h_19.ok _ (.head _)) rfl rfl rfl rfl) ?_
  refine WL.storeA (b := b_4) (off := 0) [] [(1, [(vi 0)]), (32, (List.replicate 32 (0 : UInt8)).map vu8), (1, [(vi 0)]), (128, (List.replicate 128 (0 : UInt8)).map vu8), (1, [(vu64 0)]), (8, (List.replicate 8 (0 : UInt64)).map vu64), (1, [(.bool false)])] [(1, [(vi 2)]), (32, (List.replicate 32 (0 : UInt8)).map vu8), (1, [(vi 128)]), (128, (List.replicate 128 (0 : UInt8)).map vu8), (1, [(vu64 0)]), (8, (List.replicate 8 (0 : UInt64)).map vu64), (1, [(.bool false)])] [] (ys := flat [(1, [(vi 2)]), (32, (List.replicate 32 (0 : UInt8)).map vu8), (1, [(vi 128)]), (128, (List.replicate 128 (0 : UInt8)).map vu8), (1, [(vu64 0)]), (8, (List.replicate 8 (0 : UInt64)).map vu64), (1, [(.bool false)])]) h_19 rfl rfl Try.sizeOf54 (At.t At.h) (by decide) rfl rfl rfl rfl rfl rfl (SsOk.cons (SOk.v rfl) (SsOk.cons (SOk.u8 (List.length_replicate ..)) (SsOk.cons (SOk.v rfl) (SsOk.cons (SOk.u8 (List.length_replicate ..)) (SsOk.cons (SOk.v rfl) (SsOk.cons (SOk.u64 (List.length_replicate ..)) (SsOk.cons (SOk.v rfl) SsOk.nil))))))) (fun w_20 h_21 => ?_)
  refine WL.nil ?_
  refine thn_n ?_
  refine WP.ret ?_
  refine ret_of Try.results51 (RV.cell rfl (h_21.loadA (cs := flat [(1, [(vi 2)]), (32, (List.replicate 32 (0 : UInt8)).map vu8), (1, [(vi 128)]), (128, (List.replicate 128 (0 : UInt8)).map vu8), (1, [(vu64 0)]), (8, (List.replicate 8 (0 : UInt64)).map vu64), (1, [(.bool false)])]) Try.isAgg54 Try.sizeOf54 (.tail _ (.head _)) rfl rfl) RV.nil) ?_
  exact ⟨rfl, h_21.chgS⟩

theorem c_bare_r3  (w : World) :
    Cs Try.prog 51 [(.agg ⟨flat [(1, [(vi 3)]), (32, (List.replicate 32 (0 : UInt8)).map vu8), (1, [(vi 0)]), (128, (List.replicate 128 (0 : UInt8)).map vu8), (1, [(vu64 4)]), (8, (List.replicate 8 (0 : UInt64)).map vu64), (1, [(.bool false)])]⟩)].toArray w (fun v w1 => v = (.agg ⟨flat [(1, [(vi 3)]), (32, (List.replicate 32 (0 : UInt8)).map vu8), (1, [(vi 0)]), (128, (List.replicate 128 (0 : UInt8)).map vu8), (1, [(vu64 4)]), (8, (List.replicate 8 (0 : UInt64)).map vu64), (1, [(.bool false)])]⟩) ∧ Chg w w1 []) := by
  refine Cs.of (n := 28) (args := [(.agg ⟨flat [(1, [(vi 3)]), (32, (List.replicate 32 (0 : UInt8)).map vu8), (1, [(vi 0)]), (128, (List.replicate 128 (0 : UInt8)).map vu8), (1, [(vu64 4)]), (8, (List.replicate 8 (0 : UInt64)).map vu64), (1, [(.bool false)])]⟩)]) Try.func51 rfl rfl rfl ?_
  have h_0 := HP.init w
  refine WP.seq ?_
  refine WP.reg ?_
  refine WL.box (v := (.agg ⟨flat [(1, [(vi 3)]), (32, (List.replicate 32 (0 : UInt8)).map vu8), (1, [(vi 0)]), (128, (List.replicate 128 (0 : UInt8)).map vu8), (1, [(vu64 4)]), (8, (List.replicate 8 (0 : UInt64)).map vu64), (1, [(.bool false)])]⟩)) (segs := [(1, [(vi 3)]), (32, (List.replicate 32 (0 : UInt8)).map vu8), (1, [(vi 0)]), (128, (List.replicate 128 (0 : UInt8)).map vu8), (1, [(vu64 4)]), (8, (List.replicate 8 (0 : UInt64)).map vu64), (1, [(.bool false)])]) h_0 rfl rfl (SsOk.cons (SOk.v rfl) (SsOk.cons (SOk.u8 (List.length_replicate ..)) (SsOk.cons (SOk.v rfl) (SsOk.cons (SOk.u8 (List.length_replicate ..)) (SsOk.cons (SOk.v rfl) (SsOk.cons (SOk.u64 (List.length_replicate ..)) (SsOk.cons (SOk.v rfl) SsOk.nil))))))) rfl (fun b_1 w_2 h_3 => ?_)
  refine WL.alloc (segs := [(1, [(vi 0)]), (32, (List.replicate 32 (0 : UInt8)).map vu8), (1, [(vi 0)]), (128, (List.replicate 128 (0 : UInt8)).map vu8), (1, [(vu64 0)]), (8, (List.replicate 8 (0 : UInt64)).map vu64), (1, [(.bool false)])]) h_3 (zv Try.typeInfo54 rfl) rfl (SsOk.cons (SOk.v rfl) (SsOk.cons (SOk.u8 (List.length_replicate ..)) (SsOk.cons (SOk.v rfl) (SsOk.cons (SOk.u8 (List.length_replicate ..)) (SsOk.cons (SOk.v rfl) (SsOk.cons (SOk.u64 (List.length_replicate ..)) (SsOk.cons (SOk.v rfl) SsOk.nil))))))) rfl (fun b_4 w_5 h_6 => ?_)
  refine WL.nil ?_
  refine thn_n ?_
  refine WP.seq ?_
  refine WP.reg ?_
  refine WL.q (Wn.no rfl) rfl rfl (R.fieldAddr (b := b_1) (off := 0) (off' := 0) rfl Try.underlying54 rfl Try.sizeOf52 rfl rfl) ?_
  refine WL.q (Wn.no rfl) rfl rfl (R.load1 (b := b_1) (off := 0) (v := (vi 3)) rfl Try.isAgg52 (h_6.ok _ (.tail _ (.head _))) Sg.h) ?_
  refine WL.q (Wn.no rfl) rfl rfl (R.buildS (pl := [(0, 1), (1, 32), (33, 1), (34, 128), (162, 10)]) (zs := [(1, [(vi 0)]), (32, (List.replicate 32 (0 : UInt8)).map vu8), (1, [(vi 0)]), (128, (List.replicate 128 (0 : UInt8)).map vu8), (1, [(vu64 0)]), (8, (List.replicate 8 (0 : UInt64)).map vu64), (1, [(.bool false)])]) (vs := [(0, (vi 3))]) (out := [(1, [(vi 3)]), (32, (List.replicate 32 (0 : UInt8)).map vu8), (1, [(vi 0)]), (128, (List.replicate 128 (0 : UInt8)).map vu8), (1, [(vu64 0)]), (8, (List.replicate 8 (0 : UInt64)).map vu64), (1, [(.bool false)])]) (cs := flat [(1, [(vi 3)]), (32, (List.replicate 32 (0 : UInt8)).map vu8), (1, [(vi 0)]), (128, (List.replicate 128 (0 : UInt8)).map vu8), (1, [(vu64 0)]), (8, (List.replicate 8 (0 : UInt64)).map vu64), (1, [(.bool false)])]) Try.underlying54 (zv Try.typeInfo54 rfl) rfl (SsOk.cons (SOk.v rfl) (SsOk.cons (SOk.u8 (List.length_replicate ..)) (SsOk.cons (SOk.v rfl) (SsOk.cons (SOk.u8 (List.length_replicate ..)) (SsOk.cons (SOk.v rfl) (SsOk.cons (SOk.u64 (List.length_replicate ..)) (SsOk.cons (SOk.v rfl) SsOk.nil))))))) (pl54 _ Try.underlying54) rfl (FillR.cons [] [(1, [(vi 0)])] [(1, [(vi 3)])] [(32, (List.replicate 32 (0 : UInt8)).map vu8), (1, [(vi 0)]), (128, (List.replicate 128 (0 : UInt8)).map vu8), (1, [(vu64 0)]), (8, (List.replicate 8 (0 : UInt64)).map vu64), (1, [(.bool false)])] rfl rfl rfl rfl (SsOk.cons (SOk.v rfl) SsOk.nil) rfl rfl rfl FillR.nil) rfl) ?_
  refine WL.alloc (segs := [(1, [(vi 0)]), (32, (List.replicate 32 (0 : UInt8)).map vu8), (1, [(vi 0)]), (128, (List.replicate 128 (0 : UInt8)).map vu8), (1, [(vu64 0)]), (8, (List.replicate 8 (0 : UInt64)).map vu64), (1, [(.bool false)])]) h_6 (zv Try.typeInfo54 rfl) rfl (SsOk.cons (SOk.v rfl) (SsOk.cons (SOk.u8 (List.length_replicate ..)) (SsOk.cons (SOk.v rfl) (SsOk.cons (SOk.u8 (List.length_replicate ..)) (SsOk.cons (SOk.v rfl) (SsOk.cons (SOk.u64 (List.length_replicate ..)) (SsOk.cons (SOk.v rfl) SsOk.nil))))))) rfl (fun b_8 w_9 h_10 => ?_)
  refine WL.storeA (b := b_8) (off := 0) [] [(1, [(vi 0)]), (32, (List.replicate 32 (0 : UInt8)).map vu8), (1, [(vi 0)]), (128, (List.replicate 128 (0 : UInt8)).map vu8), (1, [(vu64 0)]), (8, (List.replicate 8 (0 : UInt64)).map vu64), (1, [(.bool false)])] [(1, [(vi 3)]), (32, (List.replicate 32 (0 : UInt8)).map vu8), (1, [(vi 0)]), (128, (List.replicate 128 (0 : UInt8)).map vu8), (1, [(vu64 0)]), (8, (List.replicate 8 (0 : UInt64)).map vu64), (1, [(.bool false)])] [] (ys := flat [(1, [(vi 3)]), (32, (List.replicate 32 (0 : UInt8)).map vu8), (1, [(vi 0)]), (128, (List.replicate 128 (0 : UInt8)).map vu8), (1, [(vu64 0)]), (8, (List.replicate 8 (0 : UInt64)).map vu64), (1, [(.bool false)])]) h_10 rfl rfl Try.sizeOf54 At.h (by decide) rfl rfl rfl rfl rfl rfl (SsOk.cons (SOk.v rfl) (SsOk.cons (SOk.u8 (List.length_replicate ..)) (SsOk.cons (SOk.v rfl) (SsOk.cons (SOk.u8 (List.length_replicate ..)) (SsOk.cons (SOk.v rfl) (SsOk.cons (SOk.u64 (List.length_replicate ..)) (SsOk.cons (SOk.v rfl) SsOk.nil))))))) (fun w_11 h_12 => ?_)
  refine WL.nil ?_
  refine thn_n ?_
  refine WP.seq ?_
  refine WP.seq ?_
  refine WP.reg ?_
  refine WL.q (Wn.no rfl) rfl rfl (R.fieldAddr (b := b_1) (off := 0) (off' := 0) rfl Try.underlying54 rfl Try.sizeOf52 rfl rfl) ?_
  refine WL.q (Wn.no rfl) rfl rfl (R.load1 (b := b_1) (off := 0) (v := (vi 3)) rfl Try.isAgg52 (h_12.ok _ (.tail _ (.tail _ (.head _)))) Sg.h) ?_
  refine WL.nil ?_
  refine thn_n ?_
  refine WP.block ?_
  refine WP.seq ?_
  refine WP.reg ?_
  refine WL.q (Wn.no rfl) rfl rfl (R.bin (v := (.bool false)) rfl rfl (bi_eql (r := false) (by decide))) ?_
  refine WL.q (Wn.no rfl) rfl rfl (R.assign (v := (.bool false)) rfl) ?_
  refine WL.nil ?_
  refine thn_n ?_
  refine WP.condF rfl ?_
  refine WP.seq ?_
  refine WP.reg ?_
  refine WL.q (Wn.no rfl) rfl rfl (R.bin (v := (.bool false)) rfl rfl (bi_eql (r := false) (by decide))) ?_
  refine WL.q (Wn.no rfl) rfl rfl (R.assign (v := (.bool false)) rfl) ?_
  refine WL.nil ?_
  refine thn_n ?_
  refine WP.condF rfl ?_
  refine WP.seq ?_
  refine WP.reg ?_
  refine WL.q (Wn.no rfl) rfl rfl (R.bin (v := (.bool true)) rfl rfl (bi_eql (r := true) (by decide))) ?_
  refine WL.q (Wn.no rfl) rfl rfl (R.assign (v := (.bool true)) rfl) ?_
  refine WL.nil ?_
  refine thn_n ?_
  refine WP.condT rfl ?_
  refine WP.reg ?_
  refine WL.q (Wn.no rfl) rfl rfl (R.fieldAddr (b := b_1) (off := 0) (off' := 162) rfl Try.underlying54 rfl Try.sizeOf50 rfl rfl) ?_
  refine WL.q (Wn.no rfl) rfl rfl (R.loadA (b := b_1) (off := 162) [(1, [(vi 3)]), (32, (List.replicate 32 (0 : UInt8)).map vu8), (1, [(vi 0)]), (128, (List.replicate 128 (0 : UInt8)).map vu8)] [(1, [(vu64 4)]), (8, (List.replicate 8 (0 : UInt64)).map vu64), (1, [(.bool false)])] [] (cs := flat [(1, [(vu64 4)]), (8, (List.replicate 8 (0 : UInt64)).map vu64), (1, [(.bool false)])]) rfl Try.isAgg50 Try.sizeOf50 (h_12.ok _ (.tail _ (.tail _ (.head _)))) rfl rfl rfl rfl) ?_
  refine WL.q (Wn.no rfl) rfl rfl (R.fieldAddr (b := b_8) (off := 0) (off' := 162) rfl Try.underlying54 rfl Try.sizeOf50 rfl rfl) ?_
  refine WL.storeA (b := b_8) (off := 162) [(1, [(vi 3)]), (32, (List.replicate 32 (0 : UInt8)).map vu8), (1, [(vi 0)]), (128, (List.replicate 128 (0 : UInt8)).map vu8)] [(1, [(vu64 0)]), (8, (List.replicate 8 (0 : UInt64)).map vu64), (1, [(.bool false)])] [(1, [(vu64 4)]), (8, (List.replicate 8 (0 : UInt64)).map vu64), (1, [(.bool false)])] [] (ys := flat [(1, [(vu64 4)]), (8, (List.replicate 8 (0 : UInt64)).map vu64), (1, [(.bool false)])]) h_12 rfl rfl Try.sizeOf50 At.h (by decide) rfl rfl rfl rfl rfl rfl (SsOk.cons (SOk.v rfl) (SsOk.cons (SOk.u64 (List.length_replicate ..)) (SsOk.cons (SOk.v rfl) SsOk.nil))) (fun w_13 h_14 => ?_)
  refine WL.nil ?_
  refine inb_n ?_
  refine thn_n ?_
  refine WP.seq ?_
  refine WP.reg ?_
  refine WL.q (Wn.no rfl) rfl rfl (R.loadA (b := b_8) (off := 0) [] [(1, [(vi 3)]), (32, (List.replicate 32 (0 : UInt8)).map vu8), (1, [(vi 0)]), (128, (List.replicate 128 (0 : UInt8)).map vu8), (1, [(vu64 4)]), (8, (List.replicate 8 (0 : UInt64)).map vu64), (1, [(.bool false)])] [] (cs := flat [(1, [(vi 3)]), (32, (List.replicate 32 (0 : UInt8)).map vu8), (1, [(vi 0)]), (128, (List.replicate 128 (0 : UInt8)).map vu8), (1, [(vu64 4)]), (8, (List.replicate 8 (0 : UInt64)).map vu64), (1, [(.bool false)])]) rfl Try.isAgg54 Try.sizeOf54 (h_14.ok _ (.head _)) rfl rfl rfl rfl) ?_
  refine WL.storeA (b := b_4) (off := 0) [] [(1, [(vi 0)]), (32, (List.replicate 32 (0 : UInt8)).map vu8), (1, [(vi 0)]), (128, (List.replicate 128 (0 : UInt8)).map vu8), (1, [(vu64 0)]), (8, (List.replicate 8 (0 : UInt64)).map vu64), (1, [(.bool false)])] [(1, [(vi 3)]), (32, (List.replicate 32 (0 : UInt8)).map vu8), (1, [(vi 0)]), (128, (List.replicate 128 (0 : UInt8)).map vu8), (1, [(vu64 4)]), (8, (List.replicate 8 (0 : UInt64)).map vu64), (1, [(.bool false)])] [] (ys := flat [(1, [(vi 3)]), (32, (List.replicate 32 (0 : UInt8)).map vu8), (1, [(vi 0)]), (128, (List.replicate 128 (0 : UInt8)).map vu8), (1, [(vu64 4)]), (8, (List.replicate 8 (0 : UInt64)).map vu64), (1, [(.bool false)])]) h_14 rfl rfl Try.sizeOf54 (At.t At.h) (by decide) rfl rfl rfl rfl rfl rfl (SsOk.cons (SOk.v rfl) (SsOk.cons (SOk.u8 (List.length_replicate ..)) (SsOk.cons (SOk.v rfl) (SsOk.cons (SOk.u8 (List.length_replicate ..)) (SsOk.cons (SOk.v rfl) (SsOk.cons (SOk.u64 (List.length_replicate ..)) (SsOk.cons (SOk.v rfl) SsOk.nil))))))) (fun w_15 h_16 => ?_)
  refine WL.nil ?_
  refine thn_n ?_
  refine WP.ret ?_
  refine ret_of Try.results51 (RV.cell rfl (h_16.loadA (cs := flat [(1, [(vi 3)]), (32, (List.replicate 32 (0 : UInt8)).map vu8), (1, [(vi 0)]), (128, (List.replicate 128 (0 : UInt8)).map vu8), (1, [(vu64 4)]), (8, (List.replicate 8 (0 : UInt64)).map vu64), (1, [(.bool false)])]) Try.isAgg54 Try.sizeOf54 (.tail _ (.head _)) rfl rfl) RV.nil) ?_
  exact ⟨rfl, h_16.chgS⟩

theorem c_bare_r2  (w : World) :
    Cs Try.prog 51 [(.agg ⟨flat [(1, [(vi 2)]), (32, (List.replicate 32 (0 : UInt8)).map vu8), (1, [(vi 0)]), (128, (List.replicate 128 (0 : UInt8)).map vu8), (1, [(vu64 0)]), (8, (List.replicate 8 (0 : UInt64)).map vu64), (1, [(.bool false)])]⟩)].toArray w (fun v w1 => v = (.agg ⟨flat [(1, [(vi 2)]), (32, (List.replicate 32 (0 : UInt8)).map vu8), (1, [(vi 0)]), (128, (List.replicate 128 (0 : UInt8)).map vu8), (1, [(vu64 0)]), (8, (List.replicate 8 (0 : UInt64)).map vu64), (1, [(.bool false)])]⟩) ∧ Chg w w1 []) := by
  refine Cs.of (n := 28) (args := [(.agg ⟨flat [(1, [(vi 2)]), (32, (List.replicate 32 (0 : UInt8)).map vu8), (1, [(vi 0)]), (128, (List.replicate 128 (0 : UInt8)).map vu8), (1, [(vu64 0)]), (8, (List.replicate 8 (0 : UInt64)).map vu64), (1, [(.bool false)])]⟩)]) Try.func51 rfl rfl rfl ?_
  have h_0 := HP.init w
  refine WP.seq ?_
  refine WP.reg ?_
  refine WL.box (v := (.agg ⟨flat [(1, [(vi 2)]), (32, (List.replicate 32 (0 : UInt8)).map vu8), (1, [(vi 0)]), (128, (List.replicate 128 (0 : UInt8)).map vu8), (1, [(vu64 0)]), (8, (List.replicate 8 (0 : UInt64)).map vu64), (1, [(.bool false)])]⟩)) (segs := [(1, [(vi 2)]), (32, (List.replicate 32 (0 : UInt8)).map vu8), (1, [(vi 0)]), (128, (List.replicate 128 (0 : UInt8)).map vu8), (1, [(vu64 0)]), (8, (List.replicate 8 (0 : UInt64)).map vu64), (1, [(.bool false)])]) h_0 rfl rfl (SsOk.cons (SOk.v rfl) (SsOk.cons (SOk.u8 (List.length_replicate ..)) (SsOk.cons (SOk.v rfl) (SsOk.cons (SOk.u8 (List.length_replicate ..)) (SsOk.cons (SOk.v rfl) (SsOk.cons (SOk.u64 (List.length_replicate ..)) (SsOk.cons (SOk.v rfl) SsOk.nil))))))) rfl (fun b_1 w_2 h_3 => ?_)
  refine WL.alloc (segs := [(1, [(vi 0)]), (32, (List.replicate 32 (0 : UInt8)).map vu8), (1, [(vi 0)]), (128, (List.replicate 128 (0 : UInt8)).map vu8), (1, [(vu64 0)]), (8, (List.replicate 8 (0 : UInt64)).map vu64), (1, [(.bool false)])]) h_3 (zv Try.typeInfo54 rfl) rfl (SsOk.cons (SOk.v rfl) (SsOk.cons (SOk.u8 (List.length_replicate ..)) (SsOk.cons (SOk.v rfl) (SsOk.cons (SOk.u8 (List.length_replicate ..)) (SsOk.cons (SOk.v rfl) (SsOk.cons (SOk.u64 (List.length_replicate ..)) (SsOk.cons (SOk.v rfl) SsOk.nil))))))) rfl (fun b_4 w_5 h_6 => ?_)
  refine WL.nil ?_
  refine thn_n ?_
  refine WP.seq ?_
  refine WP.reg ?_
  refine WL.q (Wn.no rfl) rfl rfl (R.fieldAddr (b := b_1) (off := 0) (off' := 0) rfl Try.underlying54 rfl Try.sizeOf52 rfl rfl) ?_
  refine WL.q (Wn.no rfl) rfl rfl (R.load1 (b := b_1) (off := 0) (v := (vi 2)) rfl Try.isAgg52 (h_6.ok _ (.tail _ (.head _))) Sg.h) ?_
  refine WL.q (Wn.no rfl) rfl rfl (R.buildS (pl := [(0, 1), (1, 32), (33, 1), (34, 128), (162, 10)]) (zs := [(1, [(vi 0)]), (32, (List.replicate 32 (0 : UInt8)).map vu8), (1, [(vi 0)]), (128, (List.replicate 128 (0 : UInt8)).map vu8), (1, [(vu64 0)]), (8, (List.replicate 8 (0 : UInt64)).map vu64), (1, [(.bool false)])]) (vs := [(0, (vi 2))]) (out := [(1, [(vi 2)]), (32, (List.replicate 32 (0 : UInt8)).map vu8), (1, [(vi 0)]), (128, (List.replicate 128 (0 : UInt8)).map vu8), (1, [(vu64 0)]), (8, (List.replicate 8 (0 : UInt64)).map vu64), (1, [(.bool false)])]) (cs := flat [(1, [(vi 2)]), (32, (List.replicate 32 (0 : UInt8)).map vu8), (1, [(vi 0)]), (128, (List.replicate 128 (0 : UInt8)).map vu8), (1, [(vu64 0)]), (8, (List.replicate 8 (0 : UInt64)).map vu64), (1, [(.bool false)])]) Try.underlying54 (zv Try.typeInfo54 rfl) rfl (SsOk.cons (SOk.v rfl) (SsOk.cons (SOk.u8 (List.length_replicate ..)) (SsOk.cons (SOk.v rfl) (SsOk.cons (SOk.u8 (List.length_replicate ..)) (SsOk.cons (SOk.v rfl) (SsOk.cons (SOk.u64 (List.length_replicate ..)) (SsOk.cons (SOk.v rfl) SsOk.nil))))))) (pl54 _ Try.underlying54) rfl (FillR.cons [] [(1, [(vi 0)])] [(1, [(vi 2)])] [(32, (List.replicate 32 (0 : UInt8)).map vu8), (1, [(vi 0)]), (128, (List.replicate 128 (0 : UInt8)).map vu8), (1, [(vu64 0)]), (8, (List.replicate 8 (0 : UInt64)).map vu64), (1, [(.bool false)])] rfl rfl rfl rfl (SsOk.cons (SOk.v rfl) SsOk.nil) rfl rfl rfl FillR.nil) rfl) ?_
  refine WL.alloc (segs := [(1, [(vi 0)]), (32, (List.replicate 32 (0 : UInt8)).map vu8), (1, [(vi 0)]), (128, (List.replicate 128 (0 : UInt8)).map vu8), (1, [(vu64 0)]), (8, (List.replicate 8 (0 : UInt64)).map vu64), (1, [(.bool false)])]) h_6 (zv Try.typeInfo54 rfl) rfl (SsOk.cons (SOk.v rfl) (SsOk.cons (SOk.u8 (List.length_replicate ..)) (SsOk.cons (SOk.v rfl) (SsOk.cons (SOk.u8 (List.length_replicate ..)) (SsOk.cons (SOk.v rfl) (SsOk.cons (SOk.u64 (List.length_replicate ..)) (SsOk.cons (SOk.v rfl) SsOk.nil))))))) rfl (fun b_8 w_9 h_10 => ?_)
  refine WL.storeA (b := b_8) (off := 0) [] [(1, [(vi 0)]), (32, (List.replicate 32 (0 : UInt8)).map vu8), (1, [(vi 0)]), (128, (List.replicate 128 (0 : UInt8)).map vu8), (1, [(vu64 0)]), (8, (List.replicate 8 (0 : UInt64)).map vu64), (1, [(.bool false)])] [(1, [(vi 2)]), (32, (List.replicate 32 (0 : UInt8)).map vu8), (1, [(vi 0)]), (128, (List.replicate 128 (0 : UInt8)).map vu8), (1, [(vu64 0)]), (8, (List.replicate 8 (0 : UInt64)).map vu64), (1, [(.bool false)])] [] (ys := flat [(1, [(vi 2)]), (32, (List.replicate 32 (0 : UInt8)).map vu8), (1, [(vi 0)]), (128, (List.replicate 128 (0 : UInt8)).map vu8), (1, [(vu64 0)]), (8, (List.replicate 8 (0 : UInt64)).map vu64), (1, [(.bool false)])]) h_10 rfl rfl Try.sizeOf54 At.h (by decide) rfl rfl rfl rfl rfl rfl (SsOk.cons (SOk.v rfl) (SsOk.cons (SOk.u8 (List.length_replicate ..)) (SsOk.cons (SOk.v rfl) (SsOk.cons (SOk.u8 (List.length_replicate ..)) (SsOk.cons (SOk.v rfl) (SsOk.cons (SOk.u64 (List.length_replicate ..)) (SsOk.cons (SOk.v rfl) SsOk.nil))))))) (fun w_11 h_12 => ?_)
  refine WL.nil ?_
  refine thn_n ?_
  refine WP.seq ?_
  refine WP.seq ?_
  refine WP.reg ?_
  refine WL.q (Wn.no rfl) rfl rfl (R.fieldAddr (b := b_1) (off := 0) (off' := 0) rfl Try.underlying54 rfl Try.sizeOf52 rfl rfl) ?_
  refine WL.q (Wn.no rfl) rfl rfl (R.load1 (b := b_1) (off := 0) (v := (vi 2)) rfl Try.isAgg52 (h_12.ok _ (.tail _ (.tail _ (.head _)))) Sg.h) ?_
  refine WL.nil ?_
  refine thn_n ?_
  refine WP.block ?_
  refine WP.seq ?_
  refine WP.reg ?_
  refine WL.q (Wn.no rfl) rfl rfl (R.bin (v := (.bool false)) rfl rfl (bi_eql (r := false) (by decide))) ?_
  refine WL.q (Wn.no rfl) rfl rfl (R.assign (v := (.bool false)) rfl) ?_
  refine WL.nil ?_
  refine thn_n ?_
  refine WP.condF rfl ?_
  refine WP.seq ?_
  refine WP.reg ?_
  refine WL.q (Wn.no rfl) rfl rfl (R.bin (v := (.bool true)) rfl rfl (bi_eql (r := true) (by decide))) ?_
  refine WL.q (Wn.no rfl) rfl rfl (R.assign (v := (.bool true)) rfl) ?_
  refine WL.nil ?_
  refine thn_n ?_
  refine WP.condT rfl ?_
  refine WP.drawT (SL w.heap.size [.blk b_4 .nw 54 [(1, [(vi 0)]), (32, (List.replicate 32 (0 : UInt8)).map vu8), (1, [(vi 0)]), (128, (List.replicate 128 (0 : UInt8)).map vu8), (1, [(vu64 0)]), (8, (List.replicate 8 (0 : UInt64)).map vu64), (1, [(.bool false)])], .blk b_1 .nw 54 [(1, [(vi 2)]), (32, (List.replicate 32 (0 : UInt8)).map vu8), (1, [(vi 0)]), (128, (List.replicate 128 (0 : UInt8)).map vu8), (1, [(vu64 0)]), (8, (List.replicate 8 (0 : UInt64)).map vu64), (1, [(.bool false)])]]) (.q 0 (.q 1 (.q 2 (.q 3 (.q 4 (.s 5 (.q 6 (.s 7 .nil)))))))) (by kernel_rfl) (by kernel_rfl) rfl (by kernel_rfl) (fun w_13 hc_15 => (SL.cons ((h_12.same hc_15).ok _ (.tail _ (.head _))) (SL.cons ((h_12.same hc_15).ok _ (.tail _ (.tail _ (.head _)))) (SL.nil _ _)))) (fun w_13 hc_15 => ?_)
  have h_14 := h_12.same hc_15
  refine WT.q rfl (Wn.no rfl) rfl rfl (fun wq hS => R.fieldAddr (b := b_1) (off := 0) (off' := 33) rfl Try.underlying54 rfl Try.sizeOf3 rfl rfl) ?_
  refine WT.q rfl (Wn.no rfl) rfl rfl (fun wq hS => R.load1 (b := b_1) (off := 33) (v := (vi 0)) rfl Try.isAgg3 (hS _ (.tail _ (.head _))) (Sg.t rfl (Sg.t rfl Sg.h))) ?_
  refine WT.q rfl (Wn.no rfl) rfl rfl (fun wq hS => R.fieldAddr (b := b_1) (off := 0) (off' := 34) rfl Try.underlying54 rfl Try.sizeOf42 rfl rfl) ?_
  refine WT.q rfl (Wn.no rfl) rfl rfl (fun wq hS => R.loadA (b := b_1) (off := 34) [(1, [(vi 2)]), (32, (List.replicate 32 (0 : UInt8)).map vu8), (1, [(vi 0)])] [(128, (List.replicate 128 (0 : UInt8)).map vu8)] [(1, [(vu64 0)]), (8, (List.replicate 8 (0 : UInt64)).map vu64), (1, [(.bool false)])] (cs := (List.replicate 128 (0 : UInt8)).map vu8) rfl Try.isAgg42 Try.sizeOf42 (hS _ (.tail _ (.head _))) rfl rfl rfl rfl) ?_
  refine WT.q rfl (Wn.no rfl) rfl rfl (fun wq hS => R.fieldAddr (b := b_8) (off := 0) (off' := 33) rfl Try.underlying54 rfl Try.sizeOf3 rfl rfl) ?_
  refine WT.s ?_
  refine Op1.one rfl (Wn.no rfl) ?_
  refine WL.store1 (b := b_8) (off := 33) (v := (vi 0)) h_14 rfl rfl Try.sizeOf3 rfl At.h (by decide) (Sg.t rfl (Sg.t rfl Sg.h)) (fun w_16 h_17 => ?_)
  refine WL.nil ?_
  refine ⟨(SL.cons (h_17.ok _ (.tail _ (.head _))) (SL.cons (h_17.ok _ (.tail _ (.tail _ (.head _)))) (SL.nil _ _))), ?_⟩
  refine WT.q rfl (Wn.no rfl) rfl rfl (fun wq hS => R.fieldAddr (b := b_8) (off := 0) (off' := 34) rfl Try.underlying54 rfl Try.sizeOf42 rfl rfl) ?_
  refine WT.s ?_
  refine Op1.one rfl (Wn.no rfl) ?_
  refine WL.storeA (b := b_8) (off := 34) [(1, [(vi 2)]), (32, (List.replicate 32 (0 : UInt8)).map vu8), (1, [(vi 0)])] [(128, (List.replicate 128 (0 : UInt8)).map vu8)] [(128, (List.replicate 128 (0 : UInt8)).map vu8)] [(1, [(vu64 0)]), (8, (List.replicate 8 (0 : UInt64)).map vu64), (1, [(.bool false)])] (ys := (List.replicate 128 (0 : UInt8)).map vu8) h_17 rfl rfl Try.sizeOf42 At.h (by decide) rfl rfl rfl rfl rfl rfl (SsOk.cons (SOk.u8 (List.length_replicate ..)) SsOk.nil) (fun w_18 h_19 => ?_)
  refine WL.nil ?_
  refine ⟨(SL.cons (h_19.ok _ (.tail _ (.head _))) (SL.cons (h_19.ok _ (.tail _ (.tail _ (.head _)))) (SL.nil _ _))), ?_⟩
  refine WT.nil ?_
  refine inb_n ?_
  refine thn_n ?_
  refine WP.seq ?_
  refine WP.reg ?_
  refine WL.q (Wn.no rfl) rfl rfl (R.loadA (b := b_8) (off := 0) [] [(1, [(vi 2)]), (32, (List.replicate 32 (0 : UInt8)).map vu8), (1, [(vi 0)]), (128, (List.replicate 128 (0 : UInt8)).map vu8), (1, [(vu64 0)]), (8, (List.replicate 8 (0 : UInt64)).map vu64), (1, [(.bool false)])] [] (cs := flat [(1, [(vi 2)]), (32, (List.replicate 32 (0 : UInt8)).map vu8), (1, [(vi 0)]), (128, (List.replicate 128 (0 : UInt8)).map vu8), (1, [(vu64 0)]), (8, (List.replicate 8 (0 : UInt64)).map vu64), (1, [(.bool false)])]) rfl Try.isAgg54 Try.sizeOf54 (h_19.ok _ (.head _)) rfl rfl rfl rfl) ?_
  refine WL.storeA (b := b_4) (off := 0) [] [(1, [(vi 0)]), (32, (List.replicate 32 (0 : UInt8)).map vu8), (1, [(vi 0)]), (128, (List.replicate 128 (0 : UInt8)).map vu8), (1, [(vu64 0)]), (8, (List.replicate 8 (0 : UInt64)).map vu64), (1, [(.bool false)])] [(1, [(vi 2)]), (32, (List.replicate 32 (0 : UInt8)).map vu8), (1, [(vi 0)]), (128, (List.replicate 128 (0 : UInt8)).map vu8), (1, [(vu64 0)]), (8, (List.replicate 8 (0 : UInt64)).map vu64), (1, [(.bool false)])] [] (ys := flat [(1, [(vi 2)]), (32, (List.replicate 32 (0 : UInt8)).map vu8), (1, [(vi 0)]), (128, (List.replicate 128 (0 : UInt8)).map vu8), (1, [(vu64 0)]), (8, (List.replicate 8 (0 : UInt64)).map vu64), (1, [(.bool false)])]) h_19 rfl rfl Try.sizeOf54 (At.t At.h) (by decide) rfl rfl rfl rfl rfl rfl (SsOk.cons (SOk.v rfl) (SsOk.cons (SOk.u8 (List.length_replicate ..)) (SsOk.cons (SOk.v rfl) (SsOk.cons (SOk.u8 (List.length_replicate ..)) (SsOk.cons (SOk.v rfl) (SsOk.cons (SOk.u64 (List.length_replicate ..)) (SsOk.cons (SOk.v rfl) SsOk.nil))))))) (fun w_20 h_21 => ?_)
  refine WL.nil ?_
  refine thn_n ?_
  refine WP.ret ?_
  refine ret_of Try.results51 (RV.cell rfl (h_21.loadA (cs := flat [(1, [(vi 2)]), (32, (List.replicate 32 (0 : UInt8)).map vu8), (1, [(vi 0)]), (128, (List.replicate 128 (0 : UInt8)).map vu8), (1, [(vu64 0)]), (8, (List.replicate 8 (0 : UInt64)).map vu64), (1, [(.bool false)])]) Try.isAgg54 Try.sizeOf54 (.tail _ (.head _)) rfl rfl) RV.nil) ?_
  exact ⟨rfl, h_21.chgS⟩

theorem c_May_r1p  (w : World) :
    Cs Try.prog 20 [(.agg ⟨flat [(1, [(vi 1)]), (32, (List.replicate 32 (0 : UInt8)).map vu8), (1, [(vi 1)]), (128, (List.replicate 128 (0 : UInt8)).map vu8), (1, [(vu64 0)]), (8, (List.replicate 8 (0 : UInt64)).map vu64), (1, [(.bool false)])]⟩)].toArray w (fun v w1 => v = (.bool false) ∧ Chg w w1 []) := by
  refine Cs.of (n := 34) (args := [(.agg ⟨flat [(1, [(vi 1)]), (32, (List.replicate 32 (0 : UInt8)).map vu8), (1, [(vi 1)]), (128, (List.replicate 128 (0 : UInt8)).map vu8), (1, [(vu64 0)]), (8, (List.replicate 8 (0 : UInt64)).map vu64), (1, [(.bool false)])]⟩)]) Try.func20 rfl rfl rfl ?_
  have h_0 := HP.init w
  refine WP.seq ?_
  refine WP.reg ?_
  refine WL.box (v := (.agg ⟨flat [(1, [(vi 1)]), (32, (List.replicate 32 (0 : UInt8)).map vu8), (1, [(vi 1)]), (128, (List.replicate 128 (0 : UInt8)).map vu8), (1, [(vu64 0)]), (8, (List.replicate 8 (0 : UInt64)).map vu64), (1, [(.bool false)])]⟩)) (segs := [(1, [(vi 1)]), (32, (List.replicate 32 (0 : UInt8)).map vu8), (1, [(vi 1)]), (128, (List.replicate 128 (0 : UInt8)).map vu8), (1, [(vu64 0)]), (8, (List.replicate 8 (0 : UInt64)).map vu64), (1, [(.bool false)])]) h_0 rfl rfl (SsOk.cons (SOk.v rfl) (SsOk.cons (SOk.u8 (List.length_replicate ..)) (SsOk.cons (SOk.v rfl) (SsOk.cons (SOk.u8 (List.length_replicate ..)) (SsOk.cons (SOk.v rfl) (SsOk.cons (SOk.u64 (List.length_replicate ..)) (SsOk.cons (SOk.v rfl) SsOk.nil))))))) rfl (fun b_1 w_2 h_3 => ?_)
  refine WL.q (Wn.no rfl) rfl rfl (R.assign (v := (.bool false)) rfl) ?_
  refine WL.nil ?_
  refine thn_n ?_
  refine WP.seq ?_
  refine WP.reg ?_
  refine WL.q (Wn.no rfl) rfl rfl (R.fieldAddr (b := b_1) (off := 0) (off' := 0) rfl Try.underlying54 rfl Try.sizeOf52 rfl rfl) ?_
  refine WL.q (Wn.no rfl) rfl rfl (R.load1 (b := b_1) (off := 0) (v := (vi 1)) rfl Try.isAgg52 (h_3.ok _ (.head _)) Sg.h) ?_
  refine WL.q (Wn.no rfl) rfl rfl (R.bin (v := (.bool true)) rfl rfl (bi_geq (r := true) (by decide))) ?_
  refine WL.q (Wn.no rfl) rfl rfl (R.move (v := (.bool true)) rfl) ?_
  refine WL.want rfl rfl ?_
  refine WL.q (Wn.no rfl) rfl rfl (R.fieldAddr (b := b_1) (off := 0) (off' := 0) rfl Try.underlying54 rfl Try.sizeOf52 rfl rfl) ?_
  refine WL.want rfl rfl ?_
  refine WL.q (Wn.no rfl) rfl rfl (R.load1 (b := b_1) (off := 0) (v := (vi 1)) rfl Try.isAgg52 (h_3.ok _ (.head _)) Sg.h) ?_
  refine WL.want rfl rfl ?_
  refine WL.q (Wn.no rfl) rfl rfl (R.bin (v := (.bool true)) rfl rfl (bi_leq (r := true) (by decide))) ?_
  refine WL.q (Wn.no rfl) rfl rfl (R.pickT (v := (.bool true)) rfl rfl) ?_
  refine WL.q (Wn.no rfl) rfl rfl (R.assign (v := (.bool true)) rfl) ?_
  refine WL.nil ?_
  refine thn_n ?_
  refine WP.seq ?_
  refine WP.drawT (SL w.heap.size [.blk b_1 .nw 54 [(1, [(vi 1)]), (32, (List.replicate 32 (0 : UInt8)).map vu8), (1, [(vi 1)]), (128, (List.replicate 128 (0 : UInt8)).map vu8), (1, [(vu64 0)]), (8, (List.replicate 8 (0 : UInt64)).map vu64), (1, [(.bool false)])]]) (.q 0 (.q 1 (.q 2 (.q 3 (.s 4 (.q 5 (.q 6 (.q 7 (.q 8 (.q 9 (.q 10 (.q 11 (.q 12 (.q 13 (.q 14 (.q 15 (.q 16 (.q 17 (.q 18 (.q 19 (.s 20 (.q 21 (.q 22 .nil))))))))))))))))))))))) (by kernel_rfl) (by kernel_rfl) rfl (by kernel_rfl) (fun w_4 hc_6 => (SL.cons ((h_3.same hc_6).ok _ (.head _)) (SL.nil _ _))) (fun w_4 hc_6 => ?_)
  have h_5 := h_3.same hc_6
  refine WT.q rfl (Wn.no rfl) rfl rfl (fun wq hS => R.move (v := (.bool true)) rfl) ?_
  refine WT.q rfl (Wn.no rfl) rfl rfl (fun wq hS => R.move (v := (.bool true)) rfl) ?_
  refine WT.q rfl (Wn.yes rfl rfl rfl) rfl rfl (fun wq hS => R.loadA (b := b_1) (off := 0) [] [(1, [(vi 1)]), (32, (List.replicate 32 (0 : UInt8)).map vu8), (1, [(vi 1)]), (128, (List.replicate 128 (0 : UInt8)).map vu8), (1, [(vu64 0)]), (8, (List.replicate 8 (0 : UInt64)).map vu64), (1, [(.bool false)])] [] (cs := flat [(1, [(vi 1)]), (32, (List.replicate 32 (0 : UInt8)).map vu8), (1, [(vi 1)]), (128, (List.replicate 128 (0 : UInt8)).map vu8), (1, [(vu64 0)]), (8, (List.replicate 8 (0 : UInt64)).map vu64), (1, [(.bool false)])]) rfl Try.isAgg54 Try.sizeOf54 (hS _ (.head _)) rfl rfl rfl rfl) ?_
  refine WT.q rfl (Wn.yes rfl rfl rfl) rfl rfl (fun wq hS => R.loadA (b := b_1) (off := 0) [] [(1, [(vi 1)]), (32, (List.replicate 32 (0 : UInt8)).map vu8), (1, [(vi 1)]), (128, (List.replicate 128 (0 : UInt8)).map vu8), (1, [(vu64 0)]), (8, (List.replicate 8 (0 : UInt64)).map vu64), (1, [(.bool false)])] [] (cs := flat [(1, [(vi 1)]), (32, (List.replicate 32 (0 : UInt8)).map vu8), (1, [(vi 1)]), (128, (List.replicate 128 (0 : UInt8)).map vu8), (1, [(vu64 0)]), (8, (List.replicate 8 (0 : UInt64)).map vu64), (1, [(.bool false)])]) rfl Try.isAgg54 Try.sizeOf54 (hS _ (.head _)) rfl rfl rfl rfl) ?_
  refine WT.s ?_
  refine Op1.one rfl (Wn.yes rfl rfl rfl) ?_
  refine WL.call (al := [(.agg ⟨flat [(1, [(vi 1)]), (32, (List.replicate 32 (0 : UInt8)).map vu8), (1, [(vi 1)]), (128, (List.replicate 128 (0 : UInt8)).map vu8), (1, [(vu64 0)]), (8, (List.replicate 8 (0 : UInt64)).map vu64), (1, [(.bool false)])]⟩)]) Try.call51 rfl rfl (c_bare_r1p  _ ) rfl ?_
  rintro _ w_8 ⟨rfl, hc_7⟩
  have h_9 := h_5.same hc_7
  refine WL.nil ?_
  refine ⟨(SL.cons (h_9.ok _ (.head _)) (SL.nil _ _)), ?_⟩
  refine WT.q rfl (Wn.yes rfl rfl rfl) rfl rfl (fun wq hS => R.eqA (xs := flat [(1, [(vi 1)]), (32, (List.replicate 32 (0 : UInt8)).map vu8), (1, [(vi 1)]), (128, (List.replicate 128 (0 : UInt8)).map vu8), (1, [(vu64 0)]), (8, (List.replicate 8 (0 : UInt64)).map vu64), (1, [(.bool false)])]) (ys := flat [(1, [(vi 1)]), (32, (List.replicate 32 (0 : UInt8)).map vu8), (1, [(vi 0)]), (128, (List.replicate 128 (0 : UInt8)).map vu8), (1, [(vu64 0)]), (8, (List.replicate 8 (0 : UInt64)).map vu64), (1, [(.bool false)])]) (r := false) rfl rfl Try.eqGuardType54 kt54 (by decide) ag54 (Typ.struct (h := 3) (r := [(1, [(vi 1)]), (32, (List.replicate 32 (0 : UInt8)).map vu8), (1, [(vi 1)]), (128, (List.replicate 128 (0 : UInt8)).map vu8), (10, flat [(1, [(vu64 0)]), (8, (List.replicate 8 (0 : UInt64)).map vu64), (1, [(.bool false)])])]) (cs := flat [(1, [(vi 1)]), (32, (List.replicate 32 (0 : UInt8)).map vu8), (1, [(vi 1)]), (128, (List.replicate 128 (0 : UInt8)).map vu8), (1, [(vu64 0)]), (8, (List.replicate 8 (0 : UInt64)).map vu64), (1, [(.bool false)])]) Try.underlying54 (TypF.cons (k := 1) rfl rfl (by decide) rfl (Typ.int Try.underlying52 ce52 (by decide)) (TypF.cons (k := 32) rfl rfl (by decide) (len_map (List.length_replicate ..)) (Typ.u8s Try.underlying29 ce29 Try.underlying5 ce5 (List.length_replicate ..)) (TypF.cons (k := 1) rfl rfl (by decide) rfl (Typ.int Try.underlying3 ce3 (by decide)) (TypF.cons (k := 128) rfl rfl (by decide) (len_map (List.length_replicate ..)) (Typ.u8s Try.underlying42 ce42 Try.underlying5 ce5 (List.length_replicate ..)) (TypF.cons (k := 10) rfl rfl (by decide) ((SsOk.cons (SOk.v rfl) (SsOk.cons (SOk.u64 (List.length_replicate ..)) (SsOk.cons (SOk.v rfl) SsOk.nil)))).len (Typ.struct (h := 2) (r := [(1, [(vu64 0)]), (8, (List.replicate 8 (0 : UInt64)).map vu64), (1, [(.bool false)])]) (cs := flat [(1, [(vu64 0)]), (8, (List.replicate 8 (0 : UInt64)).map vu64), (1, [(.bool false)])]) Try.underlying50 (TypF.cons (k := 1) rfl rfl (by decide) rfl (Typ.int Try.underlying37 ce37 (wfu64 0)) (TypF.cons (k := 8) rfl rfl (by decide) (len_map (List.length_replicate ..)) (Typ.u64s Try.underlying48 ce48 Try.underlying37 ce37 (List.length_replicate ..)) (TypF.cons (k := 1) rfl rfl (by decide) rfl (Typ.bool Try.underlying4 ce4) TypF.nil))) rfl (((SsOk.cons (SOk.v rfl) (SsOk.cons (SOk.u64 (List.length_replicate ..)) (SsOk.cons (SOk.v rfl) SsOk.nil)))).len.trans ce50.symm)) TypF.nil))))) (by simp [flat]) (((SsOk.cons (SOk.v rfl) (SsOk.cons (SOk.u8 (List.length_replicate ..)) (SsOk.cons (SOk.v rfl) (SsOk.cons (SOk.u8 (List.length_replicate ..)) (SsOk.cons (SOk.v rfl) (SsOk.cons (SOk.u64 (List.length_replicate ..)) (SsOk.cons (SOk.v rfl) SsOk.nil)))))))).len.trans ce54.symm)) (Typ.struct (h := 3) (r := [(1, [(vi 1)]), (32, (List.replicate 32 (0 : UInt8)).map vu8), (1, [(vi 0)]), (128, (List.replicate 128 (0 : UInt8)).map vu8), (10, flat [(1, [(vu64 0)]), (8, (List.replicate 8 (0 : UInt64)).map vu64), (1, [(.bool false)])])]) (cs := flat [(1, [(vi 1)]), (32, (List.replicate 32 (0 : UInt8)).map vu8), (1, [(vi 0)]), (128, (List.replicate 128 (0 : UInt8)).map vu8), (1, [(vu64 0)]), (8, (List.replicate 8 (0 : UInt64)).map vu64), (1, [(.bool false)])]) Try.underlying54 (TypF.cons (k := 1) rfl rfl (by decide) rfl (Typ.int Try.underlying52 ce52 (by decide)) (TypF.cons (k := 32) rfl rfl (by decide) (len_map (List.length_replicate ..)) (Typ.u8s Try.underlying29 ce29 Try.underlying5 ce5 (List.length_replicate ..)) (TypF.cons (k := 1) rfl rfl (by decide) rfl (Typ.int Try.underlying3 ce3 (by decide)) (TypF.cons (k := 128) rfl rfl (by decide) (len_map (List.length_replicate ..)) (Typ.u8s Try.underlying42 ce42 Try.underlying5 ce5 (List.length_replicate ..)) (TypF.cons (k := 10) rfl rfl (by decide) ((SsOk.cons (SOk.v rfl) (SsOk.cons (SOk.u64 (List.length_replicate ..)) (SsOk.cons (SOk.v rfl) SsOk.nil)))).len (Typ.struct (h := 2) (r := [(1, [(vu64 0)]), (8, (List.replicate 8 (0 : UInt64)).map vu64), (1, [(.bool false)])]) (cs := flat [(1, [(vu64 0)]), (8, (List.replicate 8 (0 : UInt64)).map vu64), (1, [(.bool false)])]) Try.underlying50 (TypF.cons (k := 1) rfl rfl (by decide) rfl (Typ.int Try.underlying37 ce37 (wfu64 0)) (TypF.cons (k := 8) rfl rfl (by decide) (len_map (List.length_replicate ..)) (Typ.u64s Try.underlying48 ce48 Try.underlying37 ce37 (List.length_replicate ..)) (TypF.cons (k := 1) rfl rfl (by decide) rfl (Typ.bool Try.underlying4 ce4) TypF.nil))) rfl (((SsOk.cons (SOk.v rfl) (SsOk.cons (SOk.u64 (List.length_replicate ..)) (SsOk.cons (SOk.v rfl) SsOk.nil)))).len.trans ce50.symm)) TypF.nil))))) (by simp [flat]) (((SsOk.cons (SOk.v rfl) (SsOk.cons (SOk.u8 (List.length_replicate ..)) (SsOk.cons (SOk.v rfl) (SsOk.cons (SOk.u8 (List.length_replicate ..)) (SsOk.cons (SOk.v rfl) (SsOk.cons (SOk.u64 (List.length_replicate ..)) (SsOk.cons (SOk.v rfl) SsOk.nil)))))))).len.trans ce54.symm)) (cells_ne (k := .i64) (i := 33) (a := 1) (b := 0) rfl rfl (by decide))) ?_
  refine WT.q rfl (Wn.no rfl) rfl rfl (fun wq hS => R.pickT (v := (.bool false)) rfl rfl) ?_
  refine WT.q rfl (Wn.no rfl) rfl rfl (fun wq hS => R.move (v := (.bool false)) rfl) ?_
  refine WT.skipQ rfl rfl rfl (boolNe (v := .bool false) rfl (by decide)) rfl rfl ?_
  refine WT.skipQ rfl rfl rfl (boolNe (v := .bool false) rfl (by decide)) rfl rfl ?_
  refine WT.skipQ rfl rfl rfl (boolNe (v := .bool false) rfl (by decide)) rfl rfl ?_
  refine WT.q rfl (Wn.no rfl) rfl rfl (fun wq hS => R.pickF (v := (.bool false)) rfl rfl) ?_
  refine WT.q rfl (Wn.no rfl) rfl rfl (fun wq hS => R.move (v := (.bool false)) rfl) ?_
  refine WT.skipQ rfl rfl rfl (boolNe (v := .bool false) rfl (by decide)) rfl rfl ?_
  refine WT.skipQ rfl rfl rfl (boolNe (v := .bool false) rfl (by decide)) rfl rfl ?_
  refine WT.skipQ rfl rfl rfl (boolNe (v := .bool false) rfl (by decide)) rfl rfl ?_
  refine WT.q rfl (Wn.no rfl) rfl rfl (fun wq hS => R.pickF (v := (.bool false)) rfl rfl) ?_
  refine WT.q rfl (Wn.no rfl) rfl rfl (fun wq hS => R.move (v := (.bool false)) rfl) ?_
  refine WT.skipQ rfl rfl rfl (boolNe (v := .bool false) rfl (by decide)) rfl rfl ?_
  refine WT.skipQ rfl rfl rfl (boolNe (v := .bool false) rfl (by decide)) rfl rfl ?_
  refine WT.s ?_
  refine Op1.skip rfl rfl rfl (boolNe (v := .bool false) rfl (by decide)) rfl rfl ?_
  refine WT.q rfl (Wn.no rfl) rfl rfl (fun wq hS => R.pickF (v := (.bool false)) rfl rfl) ?_
  refine WT.q rfl (Wn.no rfl) rfl rfl (fun wq hS => R.assign (v := (.bool false)) rfl) ?_
  refine WT.nil ?_
  refine thn_n ?_
  refine WP.ret ?_
  refine ret_of Try.results20 (RV.tmp (v := (.bool false)) rfl RV.nil) ?_
  exact ⟨rfl, h_9.chgS⟩

theorem c_May_r2v  (w : World) :
    Cs Try.prog 20 [(.agg ⟨flat [(1, [(vi 2)]), (32, ([1, 0, 0, 0, 0, 0, 0, 0, 0, 0, 0, 0, 0, 0, 0, 0, 0, 0, 0, 0, 0, 0, 0, 0, 0, 0, 0, 0, 0, 0, 0, 2] : List UInt8).map vu8), (1, [(vi 0)]), (128, (List.replicate 128 (0 : UInt8)).map vu8), (1, [(vu64 0)]), (8, (List.replicate 8 (0 : UInt64)).map vu64), (1, [(.bool false)])]⟩)].toArray w (fun v w1 => v = (.bool false) ∧ Chg w w1 []) := by
  refine Cs.of (n := 34) (args := [(.agg ⟨flat [(1, [(vi 2)]), (32, ([1, 0, 0, 0, 0, 0, 0, 0, 0, 0, 0, 0, 0, 0, 0, 0, 0, 0, 0, 0, 0, 0, 0, 0, 0, 0, 0, 0, 0, 0, 0, 2] : List UInt8).map vu8), (1, [(vi 0)]), (128, (List.replicate 128 (0 : UInt8)).map vu8), (1, [(vu64 0)]), (8, (List.replicate 8 (0 : UInt64)).map vu64), (1, [(.bool false)])]⟩)]) Try.func20 rfl rfl rfl ?_
  have h_0 := HP.init w
  refine WP.seq ?_
  refine WP.reg ?_
  refine WL.box (v := (.agg ⟨flat [(1, [(vi 2)]), (32, ([1, 0, 0, 0, 0, 0, 0, 0, 0, 0, 0, 0, 0, 0, 0, 0, 0, 0, 0, 0, 0, 0, 0, 0, 0, 0, 0, 0, 0, 0, 0, 2] : List UInt8).map vu8), (1, [(vi 0)]), (128, (List.replicate 128 (0 : UInt8)).map vu8), (1, [(vu64 0)]), (8, (List.replicate 8 (0 : UInt64)).map vu64), (1, [(.bool false)])]⟩)) (segs := [(1, [(vi 2)]), (32, ([1, 0, 0, 0, 0, 0, 0, 0, 0, 0, 0, 0, 0, 0, 0, 0, 0, 0, 0, 0, 0, 0, 0, 0, 0, 0, 0, 0, 0, 0, 0, 2] : List UInt8).map vu8), (1, [(vi 0)]), (128, (List.replicate 128 (0 : UInt8)).map vu8), (1, [(vu64 0)]), (8, (List.replicate 8 (0 : UInt64)).map vu64), (1, [(.bool false)])]) h_0 rfl rfl (SsOk.cons (SOk.v rfl) (SsOk.cons (SOk.u8 (rfl : List.length ([1, 0, 0, 0, 0, 0, 0, 0, 0, 0, 0, 0, 0, 0, 0, 0, 0, 0, 0, 0, 0, 0, 0, 0, 0, 0, 0, 0, 0, 0, 0, 2] : List UInt8) = 32)) (SsOk.cons (SOk.v rfl) (SsOk.cons (SOk.u8 (List.length_replicate ..)) (SsOk.cons (SOk.v rfl) (SsOk.cons (SOk.u64 (List.length_replicate ..)) (SsOk.cons (SOk.v rfl) SsOk.nil))))))) rfl (fun b_1 w_2 h_3 => ?_)
  refine WL.q (Wn.no rfl) rfl rfl (R.assign (v := (.bool false)) rfl) ?_
  refine WL.nil ?_
  refine thn_n ?_
  refine WP.seq ?_
  refine WP.reg ?_
  refine WL.q (Wn.no rfl) rfl rfl (R.fieldAddr (b := b_1) (off := 0) (off' := 0) rfl Try.underlying54 rfl Try.sizeOf52 rfl rfl) ?_
  refine WL.q (Wn.no rfl) rfl rfl (R.load1 (b := b_1) (off := 0) (v := (vi 2)) rfl Try.isAgg52 (h_3.ok _ (.head _)) Sg.h) ?_
  refine WL.q (Wn.no rfl) rfl rfl (R.bin (v := (.bool true)) rfl rfl (bi_geq (r := true) (by decide))) ?_
  refine WL.q (Wn.no rfl) rfl rfl (R.move (v := (.bool true)) rfl) ?_
  refine WL.want rfl rfl ?_
  refine WL.q (Wn.no rfl) rfl rfl (R.fieldAddr (b := b_1) (off := 0) (off' := 0) rfl Try.underlying54 rfl Try.sizeOf52 rfl rfl) ?_
  refine WL.want rfl rfl ?_
  refine WL.q (Wn.no rfl) rfl rfl (R.load1 (b := b_1) (off := 0) (v := (vi 2)) rfl Try.isAgg52 (h_3.ok _ (.head _)) Sg.h) ?_
  refine WL.want rfl rfl ?_
  refine WL.q (Wn.no rfl) rfl rfl (R.bin (v := (.bool true)) rfl rfl (bi_leq (r := true) (by decide))) ?_
  refine WL.q (Wn.no rfl) rfl rfl (R.pickT (v := (.bool true)) rfl rfl) ?_
  refine WL.q (Wn.no rfl) rfl rfl (R.assign (v := (.bool true)) rfl) ?_
  refine WL.nil ?_
  refine thn_n ?_
  refine WP.seq ?_
  refine WP.drawT (SL w.heap.size [.blk b_1 .nw 54 [(1, [(vi 2)]), (32, ([1, 0, 0, 0, 0, 0, 0, 0, 0, 0, 0, 0, 0, 0, 0, 0, 0, 0, 0, 0, 0, 0, 0, 0, 0, 0, 0, 0, 0, 0, 0, 2] : List UInt8).map vu8), (1, [(vi 0)]), (128, (List.replicate 128 (0 : UInt8)).map vu8), (1, [(vu64 0)]), (8, (List.replicate 8 (0 : UInt64)).map vu64), (1, [(.bool false)])]]) (.q 0 (.q 1 (.q 2 (.q 3 (.s 4 (.q 5 (.q 6 (.q 7 (.q 8 (.q 9 (.q 10 (.q 11 (.q 12 (.q 13 (.q 14 (.q 15 (.q 16 (.q 17 (.q 18 (.q 19 (.s 20 (.q 21 (.q 22 .nil))))))))))))))))))))))) (by kernel_rfl) (by kernel_rfl) rfl (by kernel_rfl) (fun w_4 hc_6 => (SL.cons ((h_3.same hc_6).ok _ (.head _)) (SL.nil _ _))) (fun w_4 hc_6 => ?_)
  have h_5 := h_3.same hc_6
  refine WT.q rfl (Wn.no rfl) rfl rfl (fun wq hS => R.move (v := (.bool true)) rfl) ?_
  refine WT.q rfl (Wn.no rfl) rfl rfl (fun wq hS => R.move (v := (.bool true)) rfl) ?_
  refine WT.q rfl (Wn.yes rfl rfl rfl) rfl rfl (fun wq hS => R.loadA (b := b_1) (off := 0) [] [(1, [(vi 2)]), (32, ([1, 0, 0, 0, 0, 0, 0, 0, 0, 0, 0, 0, 0, 0, 0, 0, 0, 0, 0, 0, 0, 0, 0, 0, 0, 0, 0, 0, 0, 0, 0, 2] : List UInt8).map vu8), (1, [(vi 0)]), (128, (List.replicate 128 (0 : UInt8)).map vu8), (1, [(vu64 0)]), (8, (List.replicate 8 (0 : UInt64)).map vu64), (1, [(.bool false)])] [] (cs := flat [(1, [(vi 2)]), (32, ([1, 0, 0, 0, 0, 0, 0, 0, 0, 0, 0, 0, 0, 0, 0, 0, 0, 0, 0, 0, 0, 0, 0, 0, 0, 0, 0, 0, 0, 0, 0, 2] : List UInt8).map vu8), (1, [(vi 0)]), (128, (List.replicate 128 (0 : UInt8)).map vu8), (1, [(vu64 0)]), (8, (List.replicate 8 (0 : UInt64)).map vu64), (1, [(.bool false)])]) rfl Try.isAgg54 Try.sizeOf54 (hS _ (.head _)) rfl rfl rfl rfl) ?_
  refine WT.q rfl (Wn.yes rfl rfl rfl) rfl rfl (fun wq hS => R.loadA (b := b_1) (off := 0) [] [(1, [(vi 2)]), (32, ([1, 0, 0, 0, 0, 0, 0, 0, 0, 0, 0, 0, 0, 0, 0, 0, 0, 0, 0, 0, 0, 0, 0, 0, 0, 0, 0, 0, 0, 0, 0, 2] : List UInt8).map vu8), (1, [(vi 0)]), (128, (List.replicate 128 (0 : UInt8)).map vu8), (1, [(vu64 0)]), (8, (List.replicate 8 (0 : UInt64)).map vu64), (1, [(.bool false)])] [] (cs := flat [(1, [(vi 2)]), (32, ([1, 0, 0, 0, 0, 0, 0, 0, 0, 0, 0, 0, 0, 0, 0, 0, 0, 0, 0, 0, 0, 0, 0, 0, 0, 0, 0, 0, 0, 0, 0, 2] : List UInt8).map vu8), (1, [(vi 0)]), (128, (List.replicate 128 (0 : UInt8)).map vu8), (1, [(vu64 0)]), (8, (List.replicate 8 (0 : UInt64)).map vu64), (1, [(.bool false)])]) rfl Try.isAgg54 Try.sizeOf54 (hS _ (.head _)) rfl rfl rfl rfl) ?_
  refine WT.s ?_
  refine Op1.one rfl (Wn.yes rfl rfl rfl) ?_
  refine WL.call (al := [(.agg ⟨flat [(1, [(vi 2)]), (32, ([1, 0, 0, 0, 0, 0, 0, 0, 0, 0, 0, 0, 0, 0, 0, 0, 0, 0, 0, 0, 0, 0, 0, 0, 0, 0, 0, 0, 0, 0, 0, 2] : List UInt8).map vu8), (1, [(vi 0)]), (128, (List.replicate 128 (0 : UInt8)).map vu8), (1, [(vu64 0)]), (8, (List.replicate 8 (0 : UInt64)).map vu64), (1, [(.bool false)])]⟩)]) Try.call51 rfl rfl (c_bare_r2v  _ ) rfl ?_
  rintro _ w_8 ⟨rfl, hc_7⟩
  have h_9 := h_5.same hc_7
  refine WL.nil ?_
  refine ⟨(SL.cons (h_9.ok _ (.head _)) (SL.nil _ _)), ?_⟩
  refine WT.q rfl (Wn.yes rfl rfl rfl) rfl rfl (fun wq hS => R.eqA (xs := flat [(1, [(vi 2)]), (32, ([1, 0, 0, 0, 0, 0, 0, 0, 0, 0, 0, 0, 0, 0, 0, 0, 0, 0, 0, 0, 0, 0, 0, 0, 0, 0, 0, 0, 0, 0, 0, 2] : List UInt8).map vu8), (1, [(vi 0)]), (128, (List.replicate 128 (0 : UInt8)).map vu8), (1, [(vu64 0)]), (8, (List.replicate 8 (0 : UInt64)).map vu64), (1, [(.bool false)])]) (ys := flat [(1, [(vi 2)]), (32, (List.replicate 32 (0 : UInt8)).map vu8), (1, [(vi 0)]), (128, (List.replicate 128 (0 : UInt8)).map vu8), (1, [(vu64 0)]), (8, (List.replicate 8 (0 : UInt64)).map vu64), (1, [(.bool false)])]) (r := false) rfl rfl Try.eqGuardType54 kt54 (by decide) ag54 (Typ.struct (h := 3) (r := [(1, [(vi 2)]), (32, ([1, 0, 0, 0, 0, 0, 0, 0, 0, 0, 0, 0, 0, 0, 0, 0, 0, 0, 0, 0, 0, 0, 0, 0, 0, 0, 0, 0, 0, 0, 0, 2] : List UInt8).map vu8), (1, [(vi 0)]), (128, (List.replicate 128 (0 : UInt8)).map vu8), (10, flat [(1, [(vu64 0)]), (8, (List.replicate 8 (0 : UInt64)).map vu64), (1, [(.bool false)])])]) (cs := flat [(1, [(vi 2)]), (32, ([1, 0, 0, 0, 0, 0, 0, 0, 0, 0, 0, 0, 0, 0, 0, 0, 0, 0, 0, 0, 0, 0, 0, 0, 0, 0, 0, 0, 0, 0, 0, 2] : List UInt8).map vu8), (1, [(vi 0)]), (128, (List.replicate 128 (0 : UInt8)).map vu8), (1, [(vu64 0)]), (8, (List.replicate 8 (0 : UInt64)).map vu64), (1, [(.bool false)])]) Try.underlying54 (TypF.cons (k := 1) rfl rfl (by decide) rfl (Typ.int Try.underlying52 ce52 (by decide)) (TypF.cons (k := 32) rfl rfl (by decide) (len_map (rfl : List.length ([1, 0, 0, 0, 0, 0, 0, 0, 0, 0, 0, 0, 0, 0, 0, 0, 0, 0, 0, 0, 0, 0, 0, 0, 0, 0, 0, 0, 0, 0, 0, 2] : List UInt8) = 32)) (Typ.u8s Try.underlying29 ce29 Try.underlying5 ce5 (rfl : List.length ([1, 0, 0, 0, 0, 0, 0, 0, 0, 0, 0, 0, 0, 0, 0, 0, 0, 0, 0, 0, 0, 0, 0, 0, 0, 0, 0, 0, 0, 0, 0, 2] : List UInt8) = 32)) (TypF.cons (k := 1) rfl rfl (by decide) rfl (Typ.int Try.underlying3 ce3 (by decide)) (TypF.cons (k := 128) rfl rfl (by decide) (len_map (List.length_replicate ..)) (Typ.u8s Try.underlying42 ce42 Try.underlying5 ce5 (List.length_replicate ..)) (TypF.cons (k := 10) rfl rfl (by decide) ((SsOk.cons (SOk.v rfl) (SsOk.cons (SOk.u64 (List.length_replicate ..)) (SsOk.cons (SOk.v rfl) SsOk.nil)))).len (Typ.struct (h := 2) (r := [(1, [(vu64 0)]), (8, (List.replicate 8 (0 : UInt64)).map vu64), (1, [(.bool false)])]) (cs := flat [(1, [(vu64 0)]), (8, (List.replicate 8 (0 : UInt64)).map vu64), (1, [(.bool false)])]) Try.underlying50 (TypF.cons (k := 1) rfl rfl (by decide) rfl (Typ.int Try.underlying37 ce37 (wfu64 0)) (TypF.cons (k := 8) rfl rfl (by decide) (len_map (List.length_replicate ..)) (Typ.u64s Try.underlying48 ce48 Try.underlying37 ce37 (List.length_replicate ..)) (TypF.cons (k := 1) rfl rfl (by decide) rfl (Typ.bool Try.underlying4 ce4) TypF.nil))) rfl (((SsOk.cons (SOk.v rfl) (SsOk.cons (SOk.u64 (List.length_replicate ..)) (SsOk.cons (SOk.v rfl) SsOk.nil)))).len.trans ce50.symm)) TypF.nil))))) (by simp [flat]) (((SsOk.cons (SOk.v rfl) (SsOk.cons (SOk.u8 (rfl : List.length ([1, 0, 0, 0, 0, 0, 0, 0, 0, 0, 0, 0, 0, 0, 0, 0, 0, 0, 0, 0, 0, 0, 0, 0, 0, 0, 0, 0, 0, 0, 0, 2] : List UInt8) = 32)) (SsOk.cons (SOk.v rfl) (SsOk.cons (SOk.u8 (List.length_replicate ..)) (SsOk.cons (SOk.v rfl) (SsOk.cons (SOk.u64 (List.length_replicate ..)) (SsOk.cons (SOk.v rfl) SsOk.nil)))))))).len.trans ce54.symm)) (Typ.struct (h := 3) (r := [(1, [(vi 2)]), (32, (List.replicate 32 (0 : UInt8)).map vu8), (1, [(vi 0)]), (128, (List.replicate 128 (0 : UInt8)).map vu8), (10, flat [(1, [(vu64 0)]), (8, (List.replicate 8 (0 : UInt64)).map vu64), (1, [(.bool false)])])]) (cs := flat [(1, [(vi 2)]), (32, (List.replicate 32 (0 : UInt8)).map vu8), (1, [(vi 0)]), (128, (List.replicate 128 (0 : UInt8)).map vu8), (1, [(vu64 0)]), (8, (List.replicate 8 (0 : UInt64)).map vu64), (1, [(.bool false)])]) Try.underlying54 (TypF.cons (k := 1) rfl rfl (by decide) rfl (Typ.int Try.underlying52 ce52 (by decide)) (TypF.cons (k := 32) rfl rfl (by decide) (len_map (List.length_replicate ..)) (Typ.u8s Try.underlying29 ce29 Try.underlying5 ce5 (List.length_replicate ..)) (TypF.cons (k := 1) rfl rfl (by decide) rfl (Typ.int Try.underlying3 ce3 (by decide)) (TypF.cons (k := 128) rfl rfl (by decide) (len_map (List.length_replicate ..)) (Typ.u8s Try.underlying42 ce42 Try.underlying5 ce5 (List.length_replicate ..)) (TypF.cons (k := 10) rfl rfl (by decide) ((SsOk.cons (SOk.v rfl) (SsOk.cons (SOk.u64 (List.length_replicate ..)) (SsOk.cons (SOk.v rfl) SsOk.nil)))).len (Typ.struct (h := 2) (r := [(1, [(vu64 0)]), (8, (List.replicate 8 (0 : UInt64)).map vu64), (1, [(.bool false)])]) (cs := flat [(1, [(vu64 0)]), (8, (List.replicate 8 (0 : UInt64)).map vu64), (1, [(.bool false)])]) Try.underlying50 (TypF.cons (k := 1) rfl rfl (by decide) rfl (Typ.int Try.underlying37 ce37 (wfu64 0)) (TypF.cons (k := 8) rfl rfl (by decide) (len_map (List.length_replicate ..)) (Typ.u64s Try.underlying48 ce48 Try.underlying37 ce37 (List.length_replicate ..)) (TypF.cons (k := 1) rfl rfl (by decide) rfl (Typ.bool Try.underlying4 ce4) TypF.nil))) rfl (((SsOk.cons (SOk.v rfl) (SsOk.cons (SOk.u64 (List.length_replicate ..)) (SsOk.cons (SOk.v rfl) SsOk.nil)))).len.trans ce50.symm)) TypF.nil))))) (by simp [flat]) (((SsOk.cons (SOk.v rfl) (SsOk.cons (SOk.u8 (List.length_replicate ..)) (SsOk.cons (SOk.v rfl) (SsOk.cons (SOk.u8 (List.length_replicate ..)) (SsOk.cons (SOk.v rfl) (SsOk.cons (SOk.u64 (List.length_replicate ..)) (SsOk.cons (SOk.v rfl) SsOk.nil)))))))).len.trans ce54.symm)) (cells_ne (k := .u8) (i := 1) (a := 1) (b := 0) rfl rfl (by decide))) ?_
  refine WT.q rfl (Wn.no rfl) rfl rfl (fun wq hS => R.pickT (v := (.bool false)) rfl rfl) ?_
  refine WT.q rfl (Wn.no rfl) rfl rfl (fun wq hS => R.move (v := (.bool false)) rfl) ?_
  refine WT.skipQ rfl rfl rfl (boolNe (v := .bool false) rfl (by decide)) rfl rfl ?_
  refine WT.skipQ rfl rfl rfl (boolNe (v := .bool false) rfl (by decide)) rfl rfl ?_
  refine WT.skipQ rfl rfl rfl (boolNe (v := .bool false) rfl (by decide)) rfl rfl ?_
  refine WT.q rfl (Wn.no rfl) rfl rfl (fun wq hS => R.pickF (v := (.bool false)) rfl rfl) ?_
  refine WT.q rfl (Wn.no rfl) rfl rfl (fun wq hS => R.move (v := (.bool false)) rfl) ?_
  refine WT.skipQ rfl rfl rfl (boolNe (v := .bool false) rfl (by decide)) rfl rfl ?_
  refine WT.skipQ rfl rfl rfl (boolNe (v := .bool false) rfl (by decide)) rfl rfl ?_
  refine WT.skipQ rfl rfl rfl (boolNe (v := .bool false) rfl (by decide)) rfl rfl ?_
  refine WT.q rfl (Wn.no rfl) rfl rfl (fun wq hS => R.pickF (v := (.bool false)) rfl rfl) ?_
  refine WT.q rfl (Wn.no rfl) rfl rfl (fun wq hS => R.move (v := (.bool false)) rfl) ?_
  refine WT.skipQ rfl rfl rfl (boolNe (v := .bool false) rfl (by decide)) rfl rfl ?_
  refine WT.skipQ rfl rfl rfl (boolNe (v := .bool false) rfl (by decide)) rfl rfl ?_
  refine WT.s ?_
  refine Op1.skip rfl rfl rfl (boolNe (v := .bool false) rfl (by decide)) rfl rfl ?_
  refine WT.q rfl (Wn.no rfl) rfl rfl (fun wq hS => R.pickF (v := (.bool false)) rfl rfl) ?_
  refine WT.q rfl (Wn.no rfl) rfl rfl (fun wq hS => R.assign (v := (.bool false)) rfl) ?_
  refine WT.nil ?_
  refine thn_n ?_
  refine WP.ret ?_
  refine ret_of Try.results20 (RV.tmp (v := (.bool false)) rfl RV.nil) ?_
  exact ⟨rfl, h_9.chgS⟩

theorem c_May_r2p  (w : World) :
    Cs Try.prog 20 [(.agg ⟨flat [(1, [(vi 2)]), (32, (List.replicate 32 (0 : UInt8)).map vu8), (1, [(vi 128)]), (128, (List.replicate 128 (0 : UInt8)).map vu8), (1, [(vu64 0)]), (8, (List.replicate 8 (0 : UInt64)).map vu64), (1, [(.bool false)])]⟩)].toArray w (fun v w1 => v = (.bool false) ∧ Chg w w1 []) := by
  refine Cs.of (n := 34) (args := [(.agg ⟨flat [(1, [(vi 2)]), (32, (List.replicate 32 (0 : UInt8)).map vu8), (1, [(vi 128)]), (128, (List.replicate 128 (0 : UInt8)).map vu8), (1, [(vu64 0)]), (8, (List.replicate 8 (0 : UInt64)).map vu64), (1, [(.bool false)])]⟩)]) Try.func20 rfl rfl rfl ?_
  have h_0 := HP.init w
  refine WP.seq ?_
  refine WP.reg ?_
  refine WL.box (v := (.agg ⟨flat [(1, [(vi 2)]), (32, (List.replicate 32 (0 : UInt8)).map vu8), (1, [(vi 128)]), (128, (List.replicate 128 (0 : UInt8)).map vu8), (1, [(vu64 0)]), (8, (List.replicate 8 (0 : UInt64)).map vu64), (1, [(.bool false)])]⟩)) (segs := [(1, [(vi 2)]), (32, (List.replicate 32 (0 : UInt8)).map vu8), (1, [(vi 128)]), (128, (List.replicate 128 (0 : UInt8)).map vu8), (1, [(vu64 0)]), (8, (List.replicate 8 (0 : UInt64)).map vu64), (1, [(.bool false)])]) h_0 rfl rfl (SsOk.cons (SOk.v rfl) (SsOk.cons (SOk.u8 (List.length_replicate ..)) (SsOk.cons (SOk.v rfl) (SsOk.cons (SOk.u8 (List.length_replicate ..)) (SsOk.cons (SOk.v rfl) (SsOk.cons (SOk.u64 (List.length_replicate ..)) (SsOk.cons (SOk.v rfl) SsOk.nil))))))) rfl (fun b_1 w_2 h_3 => ?_)
  refine WL.q (Wn.no rfl) rfl rfl (R.assign (v := (.bool false)) rfl) ?_
  refine WL.nil ?_
  refine thn_n ?_
  refine WP.seq ?_
  refine WP.reg ?_
  refine WL.q (Wn.no rfl) rfl rfl (R.fieldAddr (b := b_1) (off := 0) (off' := 0) rfl Try.underlying54 rfl Try.sizeOf52 rfl rfl) ?_
  refine WL.q (Wn.no rfl) rfl rfl (R.load1 (b := b_1) (off := 0) (v := (vi 2)) rfl Try.isAgg52 (h_3.ok _ (.head _)) Sg.h) ?_
  refine WL.q (Wn.no rfl) rfl rfl (R.bin (v := (.bool true)) rfl rfl (bi_geq (r := true) (by decide))) ?_
  refine WL.q (Wn.no rfl) rfl rfl (R.move (v := (.bool true)) rfl) ?_
  refine WL.want rfl rfl ?_
  refine WL.q (Wn.no rfl) rfl rfl (R.fieldAddr (b := b_1) (off := 0) (off' := 0) rfl Try.underlying54 rfl Try.sizeOf52 rfl rfl) ?_
  refine WL.want rfl rfl ?_
  refine WL.q (Wn.no rfl) rfl rfl (R.load1 (b := b_1) (off := 0) (v := (vi 2)) rfl Try.isAgg52 (h_3.ok _ (.head _)) Sg.h) ?_
  refine WL.want rfl rfl ?_
  refine WL.q (Wn.no rfl) rfl rfl (R.bin (v := (.bool true)) rfl rfl (bi_leq (r := true) (by decide))) ?_
  refine WL.q (Wn.no rfl) rfl rfl (R.pickT (v := (.bool true)) rfl rfl) ?_
  refine WL.q (Wn.no rfl) rfl rfl (R.assign (v := (.bool true)) rfl) ?_
  refine WL.nil ?_
  refine thn_n ?_
  refine WP.seq ?_
  refine WP.drawT (SL w.heap.size [.blk b_1 .nw 54 [(1, [(vi 2)]), (32, (List.replicate 32 (0 : UInt8)).map vu8), (1, [(vi 128)]), (128, (List.replicate 128 (0 : UInt8)).map vu8), (1, [(vu64 0)]), (8, (List.replicate 8 (0 : UInt64)).map vu64), (1, [(.bool false)])]]) (.q 0 (.q 1 (.q 2 (.q 3 (.s 4 (.q 5 (.q 6 (.q 7 (.q 8 (.q 9 (.q 10 (.q 11 (.q 12 (.q 13 (.q 14 (.q 15 (.q 16 (.q 17 (.q 18 (.q 19 (.s 20 (.q 21 (.q 22 .nil))))))))))))))))))))))) (by kernel_rfl) (by kernel_rfl) rfl (by kernel_rfl) (fun w_4 hc_6 => (SL.cons ((h_3.same hc_6).ok _ (.head _)) (SL.nil _ _))) (fun w_4 hc_6 => ?_)
  have h_5 := h_3.same hc_6
  refine WT.q rfl (Wn.no rfl) rfl rfl (fun wq hS => R.move (v := (.bool true)) rfl) ?_
  refine WT.q rfl (Wn.no rfl) rfl rfl (fun wq hS => R.move (v := (.bool true)) rfl) ?_
  refine WT.q rfl (Wn.yes rfl rfl rfl) rfl rfl (fun wq hS => R.loadA (b := b_1) (off := 0) [] [(1, [(vi 2)]), (32, (List.replicate 32 (0 : UInt8)).map vu8), (1, [(vi 128)]), (128, (List.replicate 128 (0 : UInt8)).map vu8), (1, [(vu64 0)]), (8, (List.replicate 8 (0 : UInt64)).map vu64), (1, [(.bool false)])] [] (cs := flat [(1, [(vi 2)]), (32, (List.replicate 32 (0 : UInt8)).map vu8), (1, [(vi 128)]), (128, (List.replicate 128 (0 : UInt8)).map vu8), (1, [(vu64 0)]), (8, (List.replicate 8 (0 : UInt64)).map vu64), (1, [(.bool false)])]) rfl Try.isAgg54 Try.sizeOf54 (hS _ (.head _)) rfl rfl rfl rfl) ?_
  refine WT.q rfl (Wn.yes rfl rfl rfl) rfl rfl (fun wq hS => R.loadA (b := b_1) (off := 0) [] [(1, [(vi 2)]), (32, (List.replicate 32 (0 : UInt8)).map vu8), (1, [(vi 128)]), (128, (List.replicate 128 (0 : UInt8)).map vu8), (1, [(vu64 0)]), (8, (List.replicate 8 (0 : UInt64)).map vu64), (1, [(.bool false)])] [] (cs := flat [(1, [(vi 2)]), (32, (List.replicate 32 (0 : UInt8)).map vu8), (1, [(vi 128)]), (128, (List.replicate 128 (0 : UInt8)).map vu8), (1, [(vu64 0)]), (8, (List.replicate 8 (0 : UInt64)).map vu64), (1, [(.bool false)])]) rfl Try.isAgg54 Try.sizeOf54 (hS _ (.head _)) rfl rfl rfl rfl) ?_
  refine WT.s ?_
  refine Op1.one rfl (Wn.yes rfl rfl rfl) ?_
  refine WL.call (al := [(.agg ⟨flat [(1, [(vi 2)]), (32, (List.replicate 32 (0 : UInt8)).map vu8), (1, [(vi 128)]), (128, (List.replicate 128 (0 : UInt8)).map vu8), (1, [(vu64 0)]), (8, (List.replicate 8 (0 : UInt64)).map vu64), (1, [(.bool false)])]⟩)]) Try.call51 rfl rfl (c_bare_r2p  _ ) rfl ?_
  rintro _ w_8 ⟨rfl, hc_7⟩
  have h_9 := h_5.same hc_7
  refine WL.nil ?_
  refine ⟨(SL.cons (h_9.ok _ (.head _)) (SL.nil _ _)), ?_⟩
  refine WT.q rfl (Wn.yes rfl rfl rfl) rfl rfl (fun wq hS => R.eqA (xs := flat [(1, [(vi 2)]), (32, (List.replicate 32 (0 : UInt8)).map vu8), (1, [(vi 128)]), (128, (List.replicate 128 (0 : UInt8)).map vu8), (1, [(vu64 0)]), (8, (List.replicate 8 (0 : UInt64)).map vu64), (1, [(.bool false)])]) (ys := flat [(1, [(vi 2)]), (32, (List.replicate 32 (0 : UInt8)).map vu8), (1, [(vi 128)]), (128, (List.replicate 128 (0 : UInt8)).map vu8), (1, [(vu64 0)]), (8, (List.replicate 8 (0 : UInt64)).map vu64), (1, [(.bool false)])]) (r := true) rfl rfl Try.eqGuardType54 kt54 (by decide) ag54 (Typ.struct (h := 3) (r := [(1, [(vi 2)]), (32, (List.replicate 32 (0 : UInt8)).map vu8), (1, [(vi 128)]), (128, (List.replicate 128 (0 : UInt8)).map vu8), (10, flat [(1, [(vu64 0)]), (8, (List.replicate 8 (0 : UInt64)).map vu64), (1, [(.bool false)])])]) (cs := flat [(1, [(vi 2)]), (32, (List.replicate 32 (0 : UInt8)).map vu8), (1, [(vi 128)]), (128, (List.replicate 128 (0 : UInt8)).map vu8), (1, [(vu64 0)]), (8, (List.replicate 8 (0 : UInt64)).map vu64), (1, [(.bool false)])]) Try.underlying54 (TypF.cons (k := 1) rfl rfl (by decide) rfl (Typ.int Try.underlying52 ce52 (by decide)) (TypF.cons (k := 32) rfl rfl (by decide) (len_map (List.length_replicate ..)) (Typ.u8s Try.underlying29 ce29 Try.underlying5 ce5 (List.length_replicate ..)) (TypF.cons (k := 1) rfl rfl (by decide) rfl (Typ.int Try.underlying3 ce3 (by decide)) (TypF.cons (k := 128) rfl rfl (by decide) (len_map (List.length_replicate ..)) (Typ.u8s Try.underlying42 ce42 Try.underlying5 ce5 (List.length_replicate ..)) (TypF.cons (k := 10) rfl rfl (by decide) ((SsOk.cons (SOk.v rfl) (SsOk.cons (SOk.u64 (List.length_replicate ..)) (SsOk.cons (SOk.v rfl) SsOk.nil)))).len (Typ.struct (h := 2) (r := [(1, [(vu64 0)]), (8, (List.replicate 8 (0 : UInt64)).map vu64), (1, [(.bool false)])]) (cs := flat [(1, [(vu64 0)]), (8, (List.replicate 8 (0 : UInt64)).map vu64), (1, [(.bool false)])]) Try.underlying50 (TypF.cons (k := 1) rfl rfl (by decide) rfl (Typ.int Try.underlying37 ce37 (wfu64 0)) (TypF.cons (k := 8) rfl rfl (by decide) (len_map (List.length_replicate ..)) (Typ.u64s Try.underlying48 ce48 Try.underlying37 ce37 (List.length_replicate ..)) (TypF.cons (k := 1) rfl rfl (by decide) rfl (Typ.bool Try.underlying4 ce4) TypF.nil))) rfl (((SsOk.cons (SOk.v rfl) (SsOk.cons (SOk.u64 (List.length_replicate ..)) (SsOk.cons (SOk.v rfl) SsOk.nil)))).len.trans ce50.symm)) TypF.nil))))) (by simp [flat]) (((SsOk.cons (SOk.v rfl) (SsOk.cons (SOk.u8 (List.length_replicate ..)) (SsOk.cons (SOk.v rfl) (SsOk.cons (SOk.u8 (List.length_replicate ..)) (SsOk.cons (SOk.v rfl) (SsOk.cons (SOk.u64 (List.length_replicate ..)) (SsOk.cons (SOk.v rfl) SsOk.nil)))))))).len.trans ce54.symm)) (Typ.struct (h := 3) (r := [(1, [(vi 2)]), (32, (List.replicate 32 (0 : UInt8)).map vu8), (1, [(vi 128)]), (128, (List.replicate 128 (0 : UInt8)).map vu8), (10, flat [(1, [(vu64 0)]), (8, (List.replicate 8 (0 : UInt64)).map vu64), (1, [(.bool false)])])]) (cs := flat [(1, [(vi 2)]), (32, (List.replicate 32 (0 : UInt8)).map vu8), (1, [(vi 128)]), (128, (List.replicate 128 (0 : UInt8)).map vu8), (1, [(vu64 0)]), (8, (List.replicate 8 (0 : UInt64)).map vu64), (1, [(.bool false)])]) Try.underlying54 (TypF.cons (k := 1) rfl rfl (by decide) rfl (Typ.int Try.underlying52 ce52 (by decide)) (TypF.cons (k := 32) rfl rfl (by decide) (len_map (List.length_replicate ..)) (Typ.u8s Try.underlying29 ce29 Try.underlying5 ce5 (List.length_replicate ..)) (TypF.cons (k := 1) rfl rfl (by decide) rfl (Typ.int Try.underlying3 ce3 (by decide)) (TypF.cons (k := 128) rfl rfl (by decide) (len_map (List.length_replicate ..)) (Typ.u8s Try.underlying42 ce42 Try.underlying5 ce5 (List.length_replicate ..)) (TypF.cons (k := 10) rfl rfl (by decide) ((SsOk.cons (SOk.v rfl) (SsOk.cons (SOk.u64 (List.length_replicate ..)) (SsOk.cons (SOk.v rfl) SsOk.nil)))).len (Typ.struct (h := 2) (r := [(1, [(vu64 0)]), (8, (List.replicate 8 (0 : UInt64)).map vu64), (1, [(.bool false)])]) (cs := flat [(1, [(vu64 0)]), (8, (List.replicate 8 (0 : UInt64)).map vu64), (1, [(.bool false)])]) Try.underlying50 (TypF.cons (k := 1) rfl rfl (by decide) rfl (Typ.int Try.underlying37 ce37 (wfu64 0)) (TypF.cons (k := 8) rfl rfl (by decide) (len_map (List.length_replicate ..)) (Typ.u64s Try.underlying48 ce48 Try.underlying37 ce37 (List.length_replicate ..)) (TypF.cons (k := 1) rfl rfl (by decide) rfl (Typ.bool Try.underlying4 ce4) TypF.nil))) rfl (((SsOk.cons (SOk.v rfl) (SsOk.cons (SOk.u64 (List.length_replicate ..)) (SsOk.cons (SOk.v rfl) SsOk.nil)))).len.trans ce50.symm)) TypF.nil))))) (by simp [flat]) (((SsOk.cons (SOk.v rfl) (SsOk.cons (SOk.u8 (List.length_replicate ..)) (SsOk.cons (SOk.v rfl) (SsOk.cons (SOk.u8 (List.length_replicate ..)) (SsOk.cons (SOk.v rfl) (SsOk.cons (SOk.u64 (List.length_replicate ..)) (SsOk.cons (SOk.v rfl) SsOk.nil)))))))).len.trans ce54.symm)) (eqT rfl)) ?_
  refine WT.q rfl (Wn.no rfl) rfl rfl (fun wq hS => R.pickT (v := (.bool true)) rfl rfl) ?_
  refine WT.q rfl (Wn.no rfl) rfl rfl (fun wq hS => R.move (v := (.bool true)) rfl) ?_
  refine WT.q rfl (Wn.yes rfl rfl rfl) rfl rfl (fun wq hS => R.fieldAddr (b := b_1) (off := 0) (off' := 33) rfl Try.underlying54 rfl Try.sizeOf3 rfl rfl) ?_
  refine WT.q rfl (Wn.yes rfl rfl rfl) rfl rfl (fun wq hS => R.load1 (b := b_1) (off := 33) (v := (vi 128)) rfl Try.isAgg3 (hS _ (.head _)) (Sg.t rfl (Sg.t rfl Sg.h))) ?_
  refine WT.q rfl (Wn.yes rfl rfl rfl) rfl rfl (fun wq hS => R.bin (v := (.bool true)) rfl rfl (bi_geq (r := true) (by decide))) ?_
  refine WT.q rfl (Wn.no rfl) rfl rfl (fun wq hS => R.pickT (v := (.bool true)) rfl rfl) ?_
  refine WT.q rfl (Wn.no rfl) rfl rfl (fun wq hS => R.move (v := (.bool true)) rfl) ?_
  refine WT.q rfl (Wn.yes rfl rfl rfl) rfl rfl (fun wq hS => R.fieldAddr (b := b_1) (off := 0) (off' := 33) rfl Try.underlying54 rfl Try.sizeOf3 rfl rfl) ?_
  refine WT.q rfl (Wn.yes rfl rfl rfl) rfl rfl (fun wq hS => R.load1 (b := b_1) (off := 33) (v := (vi 128)) rfl Try.isAgg3 (hS _ (.head _)) (Sg.t rfl (Sg.t rfl Sg.h))) ?_
  refine WT.q rfl (Wn.yes rfl rfl rfl) rfl rfl (fun wq hS => R.bin (v := (.bool false)) rfl rfl (bi_lss (r := false) (by decide))) ?_
  refine WT.q rfl (Wn.no rfl) rfl rfl (fun wq hS => R.pickT (v := (.bool false)) rfl rfl) ?_
  refine WT.q rfl (Wn.no rfl) rfl rfl (fun wq hS => R.move (v := (.bool false)) rfl) ?_
  refine WT.skipQ rfl rfl rfl (boolNe (v := .bool false) rfl (by decide)) rfl rfl ?_
  refine WT.skipQ rfl rfl rfl (boolNe (v := .bool false) rfl (by decide)) rfl rfl ?_
  refine WT.s ?_
  refine Op1.skip rfl rfl rfl (boolNe (v := .bool false) rfl (by decide)) rfl rfl ?_
  refine WT.q rfl (Wn.no rfl) rfl rfl (fun wq hS => R.pickF (v := (.bool false)) rfl rfl) ?_
  refine WT.q rfl (Wn.no rfl) rfl rfl (fun wq hS => R.assign (v := (.bool false)) rfl) ?_
  refine WT.nil ?_
  refine thn_n ?_
  refine WP.ret ?_
  refine ret_of Try.results20 (RV.tmp (v := (.bool false)) rfl RV.nil) ?_
  exact ⟨rfl, h_9.chgS⟩

theorem c_May_r3  (w : World) :
    Cs Try.prog 20 [(.agg ⟨flat [(1, [(vi 3)]), (32, (List.replicate 32 (0 : UInt8)).map vu8), (1, [(vi 0)]), (128, (List.replicate 128 (0 : UInt8)).map vu8), (1, [(vu64 4)]), (8, (List.replicate 8 (0 : UInt64)).map vu64), (1, [(.bool false)])]⟩)].toArray w (fun v w1 => v = (.bool false) ∧ Chg w w1 []) := by
  refine Cs.of (n := 34) (args := [(.agg ⟨flat [(1, [(vi 3)]), (32, (List.replicate 32 (0 : UInt8)).map vu8), (1, [(vi 0)]), (128, (List.replicate 128 (0 : UInt8)).map vu8), (1, [(vu64 4)]), (8, (List.replicate 8 (0 : UInt64)).map vu64), (1, [(.bool false)])]⟩)]) Try.func20 rfl rfl rfl ?_
  have h_0 := HP.init w
  refine WP.seq ?_
  refine WP.reg ?_
  refine WL.box (v := (.agg ⟨flat [(1, [(vi 3)]), (32, (List.replicate 32 (0 : UInt8)).map vu8), (1, [(vi 0)]), (128, (List.replicate 128 (0 : UInt8)).map vu8), (1, [(vu64 4)]), (8, (List.replicate 8 (0 : UInt64)).map vu64), (1, [(.bool false)])]⟩)) (segs := [(1, [(vi 3)]), (32, (List.replicate 32 (0 : UInt8)).map vu8), (1, [(vi 0)]), (128, (List.replicate 128 (0 : UInt8)).map vu8), (1, [(vu64 4)]), (8, (List.replicate 8 (0 : UInt64)).map vu64), (1, [(.bool false)])]) h_0 rfl rfl (SsOk.cons (SOk.v rfl) (SsOk.cons (SOk.u8 (List.length_replicate ..)) (SsOk.cons (SOk.v rfl) (SsOk.cons (SOk.u8 (List.length_replicate ..)) (SsOk.cons (SOk.v rfl) (SsOk.cons (SOk.u64 (List.length_replicate ..)) (SsOk.cons (SOk.v rfl) SsOk.nil))))))) rfl (fun b_1 w_2 h_3 => ?_)
  refine WL.q (Wn.no rfl) rfl rfl (R.assign (v := (.bool false)) rfl) ?_
  refine WL.nil ?_
  refine thn_n ?_
  refine WP.seq ?_
  refine WP.reg ?_
  refine WL.q (Wn.no rfl) rfl rfl (R.fieldAddr (b := b_1) (off := 0) (off' := 0) rfl Try.underlying54 rfl Try.sizeOf52 rfl rfl) ?_
  refine WL.q (Wn.no rfl) rfl rfl (R.load1 (b := b_1) (off := 0) (v := (vi 3)) rfl Try.isAgg52 (h_3.ok _ (.head _)) Sg.h) ?_
  refine WL.q (Wn.no rfl) rfl rfl (R.bin (v := (.bool true)) rfl rfl (bi_geq (r := true) (by decide))) ?_
  refine WL.q (Wn.no rfl) rfl rfl (R.move (v := (.bool true)) rfl) ?_
  refine WL.want rfl rfl ?_
  refine WL.q (Wn.no rfl) rfl rfl (R.fieldAddr (b := b_1) (off := 0) (off' := 0) rfl Try.underlying54 rfl Try.sizeOf52 rfl rfl) ?_
  refine WL.want rfl rfl ?_
  refine WL.q (Wn.no rfl) rfl rfl (R.load1 (b := b_1) (off := 0) (v := (vi 3)) rfl Try.isAgg52 (h_3.ok _ (.head _)) Sg.h) ?_
  refine WL.want rfl rfl ?_
  refine WL.q (Wn.no rfl) rfl rfl (R.bin (v := (.bool true)) rfl rfl (bi_leq (r := true) (by decide))) ?_
  refine WL.q (Wn.no rfl) rfl rfl (R.pickT (v := (.bool true)) rfl rfl) ?_
  refine WL.q (Wn.no rfl) rfl rfl (R.assign (v := (.bool true)) rfl) ?_
  refine WL.nil ?_
  refine thn_n ?_
  refine WP.seq ?_
  refine WP.drawT (SL w.heap.size [.blk b_1 .nw 54 [(1, [(vi 3)]), (32, (List.replicate 32 (0 : UInt8)).map vu8), (1, [(vi 0)]), (128, (List.replicate 128 (0 : UInt8)).map vu8), (1, [(vu64 4)]), (8, (List.replicate 8 (0 : UInt64)).map vu64), (1, [(.bool false)])]]) (.q 0 (.q 1 (.q 2 (.q 3 (.s 4 (.q 5 (.q 6 (.q 7 (.q 8 (.q 9 (.q 10 (.q 11 (.q 12 (.q 13 (.q 14 (.q 15 (.q 16 (.q 17 (.q 18 (.q 19 (.s 20 (.q 21 (.q 22 .nil))))))))))))))))))))))) (by kernel_rfl) (by kernel_rfl) rfl (by kernel_rfl) (fun w_4 hc_6 => (SL.cons ((h_3.same hc_6).ok _ (.head _)) (SL.nil _ _))) (fun w_4 hc_6 => ?_)
  have h_5 := h_3.same hc_6
  refine WT.q rfl (Wn.no rfl) rfl rfl (fun wq hS => R.move (v := (.bool true)) rfl) ?_
  refine WT.q rfl (Wn.no rfl) rfl rfl (fun wq hS => R.move (v := (.bool true)) rfl) ?_
  refine WT.q rfl (Wn.yes rfl rfl rfl) rfl rfl (fun wq hS => R.loadA (b := b_1) (off := 0) [] [(1, [(vi 3)]), (32, (List.replicate 32 (0 : UInt8)).map vu8), (1, [(vi 0)]), (128, (List.replicate 128 (0 : UInt8)).map vu8), (1, [(vu64 4)]), (8, (List.replicate 8 (0 : UInt64)).map vu64), (1, [(.bool false)])] [] (cs := flat [(1, [(vi 3)]), (32, (List.replicate 32 (0 : UInt8)).map vu8), (1, [(vi 0)]), (128, (List.replicate 128 (0 : UInt8)).map vu8), (1, [(vu64 4)]), (8, (List.replicate 8 (0 : UInt64)).map vu64), (1, [(.bool false)])]) rfl Try.isAgg54 Try.sizeOf54 (hS _ (.head _)) rfl rfl rfl rfl) ?_
  refine WT.q rfl (Wn.yes rfl rfl rfl) rfl rfl (fun wq hS => R.loadA (b := b_1) (off := 0) [] [(1, [(vi 3)]), (32, (List.replicate 32 (0 : UInt8)).map vu8), (1, [(vi 0)]), (128, (List.replicate 128 (0 : UInt8)).map vu8), (1, [(vu64 4)]), (8, (List.replicate 8 (0 : UInt64)).map vu64), (1, [(.bool false)])] [] (cs := flat [(1, [(vi 3)]), (32, (List.replicate 32 (0 : UInt8)).map vu8), (1, [(vi 0)]), (128, (List.replicate 128 (0 : UInt8)).map vu8), (1, [(vu64 4)]), (8, (List.replicate 8 (0 : UInt64)).map vu64), (1, [(.bool false)])]) rfl Try.isAgg54 Try.sizeOf54 (hS _ (.head _)) rfl rfl rfl rfl) ?_
  refine WT.s ?_
  refine Op1.one rfl (Wn.yes rfl rfl rfl) ?_
  refine WL.call (al := [(.agg ⟨flat [(1, [(vi 3)]), (32, (List.replicate 32 (0 : UInt8)).map vu8), (1, [(vi 0)]), (128, (List.replicate 128 (0 : UInt8)).map vu8), (1, [(vu64 4)]), (8, (List.replicate 8 (0 : UInt64)).map vu64), (1, [(.bool false)])]⟩)]) Try.call51 rfl rfl (c_bare_r3  _ ) rfl ?_
  rintro _ w_8 ⟨rfl, hc_7⟩
  have h_9 := h_5.same hc_7
  refine WL.nil ?_
  refine ⟨(SL.cons (h_9.ok _ (.head _)) (SL.nil _ _)), ?_⟩
  refine WT.q rfl (Wn.yes rfl rfl rfl) rfl rfl (fun wq hS => R.eqA (xs := flat [(1, [(vi 3)]), (32, (List.replicate 32 (0 : UInt8)).map vu8), (1, [(vi 0)]), (128, (List.replicate 128 (0 : UInt8)).map vu8), (1, [(vu64 4)]), (8, (List.replicate 8 (0 : UInt64)).map vu64), (1, [(.bool false)])]) (ys := flat [(1, [(vi 3)]), (32, (List.replicate 32 (0 : UInt8)).map vu8), (1, [(vi 0)]), (128, (List.replicate 128 (0 : UInt8)).map vu8), (1, [(vu64 4)]), (8, (List.replicate 8 (0 : UInt64)).map vu64), (1, [(.bool false)])]) (r := true) rfl rfl Try.eqGuardType54 kt54 (by decide) ag54 (Typ.struct (h := 3) (r := [(1, [(vi 3)]), (32, (List.replicate 32 (0 : UInt8)).map vu8), (1, [(vi 0)]), (128, (List.replicate 128 (0 : UInt8)).map vu8), (10, flat [(1, [(vu64 4)]), (8, (List.replicate 8 (0 : UInt64)).map vu64), (1, [(.bool false)])])]) (cs := flat [(1, [(vi 3)]), (32, (List.replicate 32 (0 : UInt8)).map vu8), (1, [(vi 0)]), (128, (List.replicate 128 (0 : UInt8)).map vu8), (1, [(vu64 4)]), (8, (List.replicate 8 (0 : UInt64)).map vu64), (1, [(.bool false)])]) Try.underlying54 (TypF.cons (k := 1) rfl rfl (by decide) rfl (Typ.int Try.underlying52 ce52 (by decide)) (TypF.cons (k := 32) rfl rfl (by decide) (len_map (List.length_replicate ..)) (Typ.u8s Try.underlying29 ce29 Try.underlying5 ce5 (List.length_replicate ..)) (TypF.cons (k := 1) rfl rfl (by decide) rfl (Typ.int Try.underlying3 ce3 (by decide)) (TypF.cons (k := 128) rfl rfl (by decide) (len_map (List.length_replicate ..)) (Typ.u8s Try.underlying42 ce42 Try.underlying5 ce5 (List.length_replicate ..)) (TypF.cons (k := 10) rfl rfl (by decide) ((SsOk.cons (SOk.v rfl) (SsOk.cons (SOk.u64 (List.length_replicate ..)) (SsOk.cons (SOk.v rfl) SsOk.nil)))).len (Typ.struct (h := 2) (r := [(1, [(vu64 4)]), (8, (List.replicate 8 (0 : UInt64)).map vu64), (1, [(.bool false)])]) (cs := flat [(1, [(vu64 4)]), (8, (List.replicate 8 (0 : UInt64)).map vu64), (1, [(.bool false)])]) Try.underlying50 (TypF.cons (k := 1) rfl rfl (by decide) rfl (Typ.int Try.underlying37 ce37 (wfu64 4)) (TypF.cons (k := 8) rfl rfl (by decide) (len_map (List.length_replicate ..)) (Typ.u64s Try.underlying48 ce48 Try.underlying37 ce37 (List.length_replicate ..)) (TypF.cons (k := 1) rfl rfl (by decide) rfl (Typ.bool Try.underlying4 ce4) TypF.nil))) rfl (((SsOk.cons (SOk.v rfl) (SsOk.cons (SOk.u64 (List.length_replicate ..)) (SsOk.cons (SOk.v rfl) SsOk.nil)))).len.trans ce50.symm)) TypF.nil))))) (by simp [flat]) (((SsOk.cons (SOk.v rfl) (SsOk.cons (SOk.u8 (List.length_replicate ..)) (SsOk.cons (SOk.v rfl) (SsOk.cons (SOk.u8 (List.length_replicate ..)) (SsOk.cons (SOk.v rfl) (SsOk.cons (SOk.u64 (List.length_replicate ..)) (SsOk.cons (SOk.v rfl) SsOk.nil)))))))).len.trans ce54.symm)) (Typ.struct (h := 3) (r := [(1, [(vi 3)]), (32, (List.replicate 32 (0 : UInt8)).map vu8), (1, [(vi 0)]), (128, (List.replicate 128 (0 : UInt8)).map vu8), (10, flat [(1, [(vu64 4)]), (8, (List.replicate 8 (0 : UInt64)).map vu64), (1, [(.bool false)])])]) (cs := flat [(1, [(vi 3)]), (32, (List.replicate 32 (0 : UInt8)).map vu8), (1, [(vi 0)]), (128, (List.replicate 128 (0 : UInt8)).map vu8), (1, [(vu64 4)]), (8, (List.replicate 8 (0 : UInt64)).map vu64), (1, [(.bool false)])]) Try.underlying54 (TypF.cons (k := 1) rfl rfl (by decide) rfl (Typ.int Try.underlying52 ce52 (by decide)) (TypF.cons (k := 32) rfl rfl (by decide) (len_map (List.length_replicate ..)) (Typ.u8s Try.underlying29 ce29 Try.underlying5 ce5 (List.length_replicate ..)) (TypF.cons (k := 1) rfl rfl (by decide) rfl (Typ.int Try.underlying3 ce3 (by decide)) (TypF.cons (k := 128) rfl rfl (by decide) (len_map (List.length_replicate ..)) (Typ.u8s Try.underlying42 ce42 Try.underlying5 ce5 (List.length_replicate ..)) (TypF.cons (k := 10) rfl rfl (by decide) ((SsOk.cons (SOk.v rfl) (SsOk.cons (SOk.u64 (List.length_replicate ..)) (SsOk.cons (SOk.v rfl) SsOk.nil)))).len (Typ.struct (h := 2) (r := [(1, [(vu64 4)]), (8, (List.replicate 8 (0 : UInt64)).map vu64), (1, [(.bool false)])]) (cs := flat [(1, [(vu64 4)]), (8, (List.replicate 8 (0 : UInt64)).map vu64), (1, [(.bool false)])]) Try.underlying50 (TypF.cons (k := 1) rfl rfl (by decide) rfl (Typ.int Try.underlying37 ce37 (wfu64 4)) (TypF.cons (k := 8) rfl rfl (by decide) (len_map (List.length_replicate ..)) (Typ.u64s Try.underlying48 ce48 Try.underlying37 ce37 (List.length_replicate ..)) (TypF.cons (k := 1) rfl rfl (by decide) rfl (Typ.bool Try.underlying4 ce4) TypF.nil))) rfl (((SsOk.cons (SOk.v rfl) (SsOk.cons (SOk.u64 (List.length_replicate ..)) (SsOk.cons (SOk.v rfl) SsOk.nil)))).len.trans ce50.symm)) TypF.nil))))) (by simp [flat]) (((SsOk.cons (SOk.v rfl) (SsOk.cons (SOk.u8 (List.length_replicate ..)) (SsOk.cons (SOk.v rfl) (SsOk.cons (SOk.u8 (List.length_replicate ..)) (SsOk.cons (SOk.v rfl) (SsOk.cons (SOk.u64 (List.length_replicate ..)) (SsOk.cons (SOk.v rfl) SsOk.nil)))))))).len.trans ce54.symm)) (eqT rfl)) ?_
  refine WT.q rfl (Wn.no rfl) rfl rfl (fun wq hS => R.pickT (v := (.bool true)) rfl rfl) ?_
  refine WT.q rfl (Wn.no rfl) rfl rfl (fun wq hS => R.move (v := (.bool true)) rfl) ?_
  refine WT.q rfl (Wn.yes rfl rfl rfl) rfl rfl (fun wq hS => R.fieldAddr (b := b_1) (off := 0) (off' := 33) rfl Try.underlying54 rfl Try.sizeOf3 rfl rfl) ?_
  refine WT.q rfl (Wn.yes rfl rfl rfl) rfl rfl (fun wq hS => R.load1 (b := b_1) (off := 33) (v := (vi 0)) rfl Try.isAgg3 (hS _ (.head _)) (Sg.t rfl (Sg.t rfl Sg.h))) ?_
  refine WT.q rfl (Wn.yes rfl rfl rfl) rfl rfl (fun wq hS => R.bin (v := (.bool true)) rfl rfl (bi_geq (r := true) (by decide))) ?_
  refine WT.q rfl (Wn.no rfl) rfl rfl (fun wq hS => R.pickT (v := (.bool true)) rfl rfl) ?_
  refine WT.q rfl (Wn.no rfl) rfl rfl (fun wq hS => R.move (v := (.bool true)) rfl) ?_
  refine WT.q rfl (Wn.yes rfl rfl rfl) rfl rfl (fun wq hS => R.fieldAddr (b := b_1) (off := 0) (off' := 33) rfl Try.underlying54 rfl Try.sizeOf3 rfl rfl) ?_
  refine WT.q rfl (Wn.yes rfl rfl rfl) rfl rfl (fun wq hS => R.load1 (b := b_1) (off := 33) (v := (vi 0)) rfl Try.isAgg3 (hS _ (.head _)) (Sg.t rfl (Sg.t rfl Sg.h))) ?_
  refine WT.q rfl (Wn.yes rfl rfl rfl) rfl rfl (fun wq hS => R.bin (v := (.bool true)) rfl rfl (bi_lss (r := true) (by decide))) ?_
  refine WT.q rfl (Wn.no rfl) rfl rfl (fun wq hS => R.pickT (v := (.bool true)) rfl rfl) ?_
  refine WT.q rfl (Wn.no rfl) rfl rfl (fun wq hS => R.move (v := (.bool true)) rfl) ?_
  refine WT.q rfl (Wn.yes rfl rfl rfl) rfl rfl (fun wq hS => R.fieldAddr (b := b_1) (off := 0) (off' := 162) rfl Try.underlying54 rfl Try.sizeOf50 rfl rfl) ?_
  refine WT.q rfl (Wn.yes rfl rfl rfl) rfl rfl (fun wq hS => R.loadA (b := b_1) (off := 162) [(1, [(vi 3)]), (32, (List.replicate 32 (0 : UInt8)).map vu8), (1, [(vi 0)]), (128, (List.replicate 128 (0 : UInt8)).map vu8)] [(1, [(vu64 4)]), (8, (List.replicate 8 (0 : UInt64)).map vu64), (1, [(.bool false)])] [] (cs := flat [(1, [(vu64 4)]), (8, (List.replicate 8 (0 : UInt64)).map vu64), (1, [(.bool false)])]) rfl Try.isAgg50 Try.sizeOf50 (hS _ (.head _)) rfl rfl rfl rfl) ?_
  refine WT.s ?_
  refine Op1.one rfl (Wn.yes rfl rfl rfl) ?_
  refine WL.call (al := [(.agg ⟨flat [(1, [(vu64 4)]), (8, (List.replicate 8 (0 : UInt64)).map vu64), (1, [(.bool false)])]⟩)]) Try.call52 rfl rfl (c_MayRec (4 : UInt64) (List.replicate 8 (0 : UInt64)) (List.length_replicate ..) false _ ) rfl ?_
  rintro _ w_11 ⟨rfl, hc_10⟩
  have h_12 := h_9.same hc_10
  refine WL.nil ?_
  refine ⟨(SL.cons (h_12.ok _ (.head _)) (SL.nil _ _)), ?_⟩
  refine WT.q rfl (Wn.no rfl) rfl rfl (fun wq hS => R.pickT (v := (.bool false)) rfl (congrArg Value.bool (show decide ((4 : UInt64) % 8 = 0) = false from by decide))) ?_
  refine WT.q rfl (Wn.no rfl) rfl rfl (fun wq hS => R.assign (v := (.bool false)) rfl) ?_
  refine WT.nil ?_
  refine thn_n ?_
  refine WP.ret ?_
  refine ret_of Try.results20 (RV.tmp (v := (.bool false)) rfl RV.nil) ?_
  exact ⟨rfl, h_12.chgS⟩

theorem c_May_r2  (w : World) :
    Cs Try.prog 20 [(.agg ⟨flat [(1, [(vi 2)]), (32, (List.replicate 32 (0 : UInt8)).map vu8), (1, [(vi 0)]), (128, (List.replicate 128 (0 : UInt8)).map vu8), (1, [(vu64 0)]), (8, (List.replicate 8 (0 : UInt64)).map vu64), (1, [(.bool false)])]⟩)].toArray w (fun v w1 => v = (.bool true) ∧ Chg w w1 []) := by
  refine Cs.of (n := 34) (args := [(.agg ⟨flat [(1, [(vi 2)]), (32, (List.replicate 32 (0 : UInt8)).map vu8), (1, [(vi 0)]), (128, (List.replicate 128 (0 : UInt8)).map vu8), (1, [(vu64 0)]), (8, (List.replicate 8 (0 : UInt64)).map vu64), (1, [(.bool false)])]⟩)]) Try.func20 rfl rfl rfl ?_
  have h_0 := HP.init w
  refine WP.seq ?_
  refine WP.reg ?_
  refine WL.box (v := (.agg ⟨flat [(1, [(vi 2)]), (32, (List.replicate 32 (0 : UInt8)).map vu8), (1, [(vi 0)]), (128, (List.replicate 128 (0 : UInt8)).map vu8), (1, [(vu64 0)]), (8, (List.replicate 8 (0 : UInt64)).map vu64), (1, [(.bool false)])]⟩)) (segs := [(1, [(vi 2)]), (32, (List.replicate 32 (0 : UInt8)).map vu8), (1, [(vi 0)]), (128, (List.replicate 128 (0 : UInt8)).map vu8), (1, [(vu64 0)]), (8, (List.replicate 8 (0 : UInt64)).map vu64), (1, [(.bool false)])]) h_0 rfl rfl (SsOk.cons (SOk.v rfl) (SsOk.cons (SOk.u8 (List.length_replicate ..)) (SsOk.cons (SOk.v rfl) (SsOk.cons (SOk.u8 (List.length_replicate ..)) (SsOk.cons (SOk.v rfl) (SsOk.cons (SOk.u64 (List.length_replicate ..)) (SsOk.cons (SOk.v rfl) SsOk.nil))))))) rfl (fun b_1 w_2 h_3 => ?_)
  refine WL.q (Wn.no rfl) rfl rfl (R.assign (v := (.bool false)) rfl) ?_
  refine WL.nil ?_
  refine thn_n ?_
  refine WP.seq ?_
  refine WP.reg ?_
  refine WL.q (Wn.no rfl) rfl rfl (R.fieldAddr (b := b_1) (off := 0) (off' := 0) rfl Try.underlying54 rfl Try.sizeOf52 rfl rfl) ?_
  refine WL.q (Wn.no rfl) rfl rfl (R.load1 (b := b_1) (off := 0) (v := (vi 2)) rfl Try.isAgg52 (h_3.ok _ (.head _)) Sg.h) ?_
  refine WL.q (Wn.no rfl) rfl rfl (R.bin (v := (.bool true)) rfl rfl (bi_geq (r := true) (by decide))) ?_
  refine WL.q (Wn.no rfl) rfl rfl (R.move (v := (.bool true)) rfl) ?_
  refine WL.want rfl rfl ?_
  refine WL.q (Wn.no rfl) rfl rfl (R.fieldAddr (b := b_1) (off := 0) (off' := 0) rfl Try.underlying54 rfl Try.sizeOf52 rfl rfl) ?_
  refine WL.want rfl rfl ?_
  refine WL.q (Wn.no rfl) rfl rfl (R.load1 (b := b_1) (off := 0) (v := (vi 2)) rfl Try.isAgg52 (h_3.ok _ (.head _)) Sg.h) ?_
  refine WL.want rfl rfl ?_
  refine WL.q (Wn.no rfl) rfl rfl (R.bin (v := (.bool true)) rfl rfl (bi_leq (r := true) (by decide))) ?_
  refine WL.q (Wn.no rfl) rfl rfl (R.pickT (v := (.bool true)) rfl rfl) ?_
  refine WL.q (Wn.no rfl) rfl rfl (R.assign (v := (.bool true)) rfl) ?_
  refine WL.nil ?_
  refine thn_n ?_
  refine WP.seq ?_
  refine WP.drawT (SL w.heap.size [.blk b_1 .nw 54 [(1, [(vi 2)]), (32, (List.replicate 32 (0 : UInt8)).map vu8), (1, [(vi 0)]), (128, (List.replicate 128 (0 : UInt8)).map vu8), (1, [(vu64 0)]), (8, (List.replicate 8 (0 : UInt64)).map vu64), (1, [(.bool false)])]]) (.q 0 (.q 1 (.q 2 (.q 3 (.s 4 (.q 5 (.q 6 (.q 7 (.q 8 (.q 9 (.q 10 (.q 11 (.q 12 (.q 13 (.q 14 (.q 15 (.q 16 (.q 17 (.q 18 (.q 19 (.s 20 (.q 21 (.q 22 .nil))))))))))))))))))))))) (by kernel_rfl) (by kernel_rfl) rfl (by kernel_rfl) (fun w_4 hc_6 => (SL.cons ((h_3.same hc_6).ok _ (.head _)) (SL.nil _ _))) (fun w_4 hc_6 => ?_)
  have h_5 := h_3.same hc_6
  refine WT.q rfl (Wn.no rfl) rfl rfl (fun wq hS => R.move (v := (.bool true)) rfl) ?_
  refine WT.q rfl (Wn.no rfl) rfl rfl (fun wq hS => R.move (v := (.bool true)) rfl) ?_
  refine WT.q rfl (Wn.yes rfl rfl rfl) rfl rfl (fun wq hS => R.loadA (b := b_1) (off := 0) [] [(1, [(vi 2)]), (32, (List.replicate 32 (0 : UInt8)).map vu8), (1, [(vi 0)]), (128, (List.replicate 128 (0 : UInt8)).map vu8), (1, [(vu64 0)]), (8, (List.replicate 8 (0 : UInt64)).map vu64), (1, [(.bool false)])] [] (cs := flat [(1, [(vi 2)]), (32, (List.replicate 32 (0 : UInt8)).map vu8), (1, [(vi 0)]), (128, (List.replicate 128 (0 : UInt8)).map vu8), (1, [(vu64 0)]), (8, (List.replicate 8 (0 : UInt64)).map vu64), (1, [(.bool false)])]) rfl Try.isAgg54 Try.sizeOf54 (hS _ (.head _)) rfl rfl rfl rfl) ?_
  refine WT.q rfl (Wn.yes rfl rfl rfl) rfl rfl (fun wq hS => R.loadA (b := b_1) (off := 0) [] [(1, [(vi 2)]), (32, (List.replicate 32 (0 : UInt8)).map vu8), (1, [(vi 0)]), (128, (List.replicate 128 (0 : UInt8)).map vu8), (1, [(vu64 0)]), (8, (List.replicate 8 (0 : UInt64)).map vu64), (1, [(.bool false)])] [] (cs := flat [(1, [(vi 2)]), (32, (List.replicate 32 (0 : UInt8)).map vu8), (1, [(vi 0)]), (128, (List.replicate 128 (0 : UInt8)).map vu8), (1, [(vu64 0)]), (8, (List.replicate 8 (0 : UInt64)).map vu64), (1, [(.bool false)])]) rfl Try.isAgg54 Try.sizeOf54 (hS _ (.head _)) rfl rfl rfl rfl) ?_
  refine WT.s ?_
  refine Op1.one rfl (Wn.yes rfl rfl rfl) ?_
  refine WL.call (al := [(.agg ⟨flat [(1, [(vi 2)]), (32, (List.replicate 32 (0 : UInt8)).map vu8), (1, [(vi 0)]), (128, (List.replicate 128 (0 : UInt8)).map vu8), (1, [(vu64 0)]), (8, (List.replicate 8 (0 : UInt64)).map vu64), (1, [(.bool false)])]⟩)]) Try.call51 rfl rfl (c_bare_r2  _ ) rfl ?_
  rintro _ w_8 ⟨rfl, hc_7⟩
  have h_9 := h_5.same hc_7
  refine WL.nil ?_
  refine ⟨(SL.cons (h_9.ok _ (.head _)) (SL.nil _ _)), ?_⟩
  refine WT.q rfl (Wn.yes rfl rfl rfl) rfl rfl (fun wq hS => R.eqA (xs := flat [(1, [(vi 2)]), (32, (List.replicate 32 (0 : UInt8)).map vu8), (1, [(vi 0)]), (128, (List.replicate 128 (0 : UInt8)).map vu8), (1, [(vu64 0)]), (8, (List.replicate 8 (0 : UInt64)).map vu64), (1, [(.bool false)])]) (ys := flat [(1, [(vi 2)]), (32, (List.replicate 32 (0 : UInt8)).map vu8), (1, [(vi 0)]), (128, (List.replicate 128 (0 : UInt8)).map vu8), (1, [(vu64 0)]), (8, (List.replicate 8 (0 : UInt64)).map vu64), (1, [(.bool false)])]) (r := true) rfl rfl Try.eqGuardType54 kt54 (by decide) ag54 (Typ.struct (h := 3) (r := [(1, [(vi 2)]), (32, (List.replicate 32 (0 : UInt8)).map vu8), (1, [(vi 0)]), (128, (List.replicate 128 (0 : UInt8)).map vu8), (10, flat [(1, [(vu64 0)]), (8, (List.replicate 8 (0 : UInt64)).map vu64), (1, [(.bool false)])])]) (cs := flat [(1, [(vi 2)]), (32, (List.replicate 32 (0 : UInt8)).map vu8), (1, [(vi 0)]), (128, (List.replicate 128 (0 : UInt8)).map vu8), (1, [(vu64 0)]), (8, (List.replicate 8 (0 : UInt64)).map vu64), (1, [(.bool false)])]) Try.underlying54 (TypF.cons (k := 1) rfl rfl (by decide) rfl (Typ.int Try.underlying52 ce52 (by decide)) (TypF.cons (k := 32) rfl rfl (by decide) (len_map (List.length_replicate ..)) (Typ.u8s Try.underlying29 ce29 Try.underlying5 ce5 (List.length_replicate ..)) (TypF.cons (k := 1) rfl rfl (by decide) rfl (Typ.int Try.underlying3 ce3 (by decide)) (TypF.cons (k := 128) rfl rfl (by decide) (len_map (List.length_replicate ..)) (Typ.u8s Try.underlying42 ce42 Try.underlying5 ce5 (List.length_replicate ..)) (TypF.cons (k := 10) rfl rfl (by decide) ((SsOk.cons (SOk.v rfl) (SsOk.cons (SOk.u64 (List.length_replicate ..)) (SsOk.cons (SOk.v rfl) SsOk.nil)))).len (Typ.struct (h := 2) (r := [(1, [(vu64 0)]), (8, (List.replicate 8 (0 : UInt64)).map vu64), (1, [(.bool false)])]) (cs := flat [(1, [(vu64 0)]), (8, (List.replicate 8 (0 : UInt64)).map vu64), (1, [(.bool false)])]) Try.underlying50 (TypF.cons (k := 1) rfl rfl (by decide) rfl (Typ.int Try.underlying37 ce37 (wfu64 0)) (TypF.cons (k := 8) rfl rfl (by decide) (len_map (List.length_replicate ..)) (Typ.u64s Try.underlying48 ce48 Try.underlying37 ce37 (List.length_replicate ..)) (TypF.cons (k := 1) rfl rfl (by decide) rfl (Typ.bool Try.underlying4 ce4) TypF.nil))) rfl (((SsOk.cons (SOk.v rfl) (SsOk.cons (SOk.u64 (List.length_replicate ..)) (SsOk.cons (SOk.v rfl) SsOk.nil)))).len.trans ce50.symm)) TypF.nil))))) (by simp [flat]) (((SsOk.cons (SOk.v rfl) (SsOk.cons (SOk.u8 (List.length_replicate ..)) (SsOk.cons (SOk.v rfl) (SsOk.cons (SOk.u8 (List.length_replicate ..)) (SsOk.cons (SOk.v rfl) (SsOk.cons (SOk.u64 (List.length_replicate ..)) (SsOk.cons (SOk.v rfl) SsOk.nil)))))))).len.trans ce54.symm)) (Typ.struct (h := 3) (r := [(1, [(vi 2)]), (32, (List.replicate 32 (0 : UInt8)).map vu8), (1, [(vi 0)]), (128, (List.replicate 128 (0 : UInt8)).map vu8), (10, flat [(1, [(vu64 0)]), (8, (List.replicate 8 (0 : UInt64)).map vu64), (1, [(.bool false)])])]) (cs := flat [(1, [(vi 2)]), (32, (List.replicate 32 (0 : UInt8)).map vu8), (1, [(vi 0)]), (128, (List.replicate 128 (0 : UInt8)).map vu8), (1, [(vu64 0)]), (8, (List.replicate 8 (0 : UInt64)).map vu64), (1, [(.bool false)])]) Try.underlying54 (TypF.cons (k := 1) rfl rfl (by decide) rfl (Typ.int Try.underlying52 ce52 (by decide)) (TypF.cons (k := 32) rfl rfl (by decide) (len_map (List.length_replicate ..)) (Typ.u8s Try.underlying29 ce29 Try.underlying5 ce5 (List.length_replicate ..)) (TypF.cons (k := 1) rfl rfl (by decide) rfl (Typ.int Try.underlying3 ce3 (by decide)) (TypF.cons (k := 128) rfl rfl (by decide) (len_map (List.length_replicate ..)) (Typ.u8s Try.underlying42 ce42 Try.underlying5 ce5 (List.length_replicate ..)) (TypF.cons (k := 10) rfl rfl (by decide) ((SsOk.cons (SOk.v rfl) (SsOk.cons (SOk.u64 (List.length_replicate ..)) (SsOk.cons (SOk.v rfl) SsOk.nil)))).len (Typ.struct (h := 2) (r := [(1, [(vu64 0)]), (8, (List.replicate 8 (0 : UInt64)).map vu64), (1, [(.bool false)])]) (cs := flat [(1, [(vu64 0)]), (8, (List.replicate 8 (0 : UInt64)).map vu64), (1, [(.bool false)])]) Try.underlying50 (TypF.cons (k := 1) rfl rfl (by decide) rfl (Typ.int Try.underlying37 ce37 (wfu64 0)) (TypF.cons (k := 8) rfl rfl (by decide) (len_map (List.length_replicate ..)) (Typ.u64s Try.underlying48 ce48 Try.underlying37 ce37 (List.length_replicate ..)) (TypF.cons (k := 1) rfl rfl (by decide) rfl (Typ.bool Try.underlying4 ce4) TypF.nil))) rfl (((SsOk.cons (SOk.v rfl) (SsOk.cons (SOk.u64 (List.length_replicate ..)) (SsOk.cons (SOk.v rfl) SsOk.nil)))).len.trans ce50.symm)) TypF.nil))))) (by simp [flat]) (((SsOk.cons (SOk.v rfl) (SsOk.cons (SOk.u8 (List.length_replicate ..)) (SsOk.cons (SOk.v rfl) (SsOk.cons (SOk.u8 (List.length_replicate ..)) (SsOk.cons (SOk.v rfl) (SsOk.cons (SOk.u64 (List.length_replicate ..)) (SsOk.cons (SOk.v rfl) SsOk.nil)))))))).len.trans ce54.symm)) (eqT rfl)) ?_
  refine WT.q rfl (Wn.no rfl) rfl rfl (fun wq hS => R.pickT (v := (.bool true)) rfl rfl) ?_
  refine WT.q rfl (Wn.no rfl) rfl rfl (fun wq hS => R.move (v := (.bool true)) rfl) ?_
  refine WT.q rfl (Wn.yes rfl rfl rfl) rfl rfl (fun wq hS => R.fieldAddr (b := b_1) (off := 0) (off' := 33) rfl Try.underlying54 rfl Try.sizeOf3 rfl rfl) ?_
  refine WT.q rfl (Wn.yes rfl rfl rfl) rfl rfl (fun wq hS => R.load1 (b := b_1) (off := 33) (v := (vi 0)) rfl Try.isAgg3 (hS _ (.head _)) (Sg.t rfl (Sg.t rfl Sg.h))) ?_
  refine WT.q rfl (Wn.yes rfl rfl rfl) rfl rfl (fun wq hS => R.bin (v := (.bool true)) rfl rfl (bi_geq (r := true) (by decide))) ?_
  refine WT.q rfl (Wn.no rfl) rfl rfl (fun wq hS => R.pickT (v := (.bool true)) rfl rfl) ?_
  refine WT.q rfl (Wn.no rfl) rfl rfl (fun wq hS => R.move (v := (.bool true)) rfl) ?_
  refine WT.q rfl (Wn.yes rfl rfl rfl) rfl rfl (fun wq hS => R.fieldAddr (b := b_1) (off := 0) (off' := 33) rfl Try.underlying54 rfl Try.sizeOf3 rfl rfl) ?_
  refine WT.q rfl (Wn.yes rfl rfl rfl) rfl rfl (fun wq hS => R.load1 (b := b_1) (off := 33) (v := (vi 0)) rfl Try.isAgg3 (hS _ (.head _)) (Sg.t rfl (Sg.t rfl Sg.h))) ?_
  refine WT.q rfl (Wn.yes rfl rfl rfl) rfl rfl (fun wq hS => R.bin (v := (.bool true)) rfl rfl (bi_lss (r := true) (by decide))) ?_
  refine WT.q rfl (Wn.no rfl) rfl rfl (fun wq hS => R.pickT (v := (.bool true)) rfl rfl) ?_
  refine WT.q rfl (Wn.no rfl) rfl rfl (fun wq hS => R.move (v := (.bool true)) rfl) ?_
  refine WT.q rfl (Wn.yes rfl rfl rfl) rfl rfl (fun wq hS => R.fieldAddr (b := b_1) (off := 0) (off' := 162) rfl Try.underlying54 rfl Try.sizeOf50 rfl rfl) ?_
  refine WT.q rfl (Wn.yes rfl rfl rfl) rfl rfl (fun wq hS => R.loadA (b := b_1) (off := 162) [(1, [(vi 2)]), (32, (List.replicate 32 (0 : UInt8)).map vu8), (1, [(vi 0)]), (128, (List.replicate 128 (0 : UInt8)).map vu8)] [(1, [(vu64 0)]), (8, (List.replicate 8 (0 : UInt64)).map vu64), (1, [(.bool false)])] [] (cs := flat [(1, [(vu64 0)]), (8, (List.replicate 8 (0 : UInt64)).map vu64), (1, [(.bool false)])]) rfl Try.isAgg50 Try.sizeOf50 (hS _ (.head _)) rfl rfl rfl rfl) ?_
  refine WT.s ?_
  refine Op1.one rfl (Wn.yes rfl rfl rfl) ?_
  refine WL.call (al := [(.agg ⟨flat [(1, [(vu64 0)]), (8, (List.replicate 8 (0 : UInt64)).map vu64), (1, [(.bool false)])]⟩)]) Try.call52 rfl rfl (c_MayRec (0 : UInt64) (List.replicate 8 (0 : UInt64)) (List.length_replicate ..) false _ ) rfl ?_
  rintro _ w_11 ⟨rfl, hc_10⟩
  have h_12 := h_9.same hc_10
  refine WL.nil ?_
  refine ⟨(SL.cons (h_12.ok _ (.head _)) (SL.nil _ _)), ?_⟩
  refine WT.q rfl (Wn.no rfl) rfl rfl (fun wq hS => R.pickT (v := (.bool true)) rfl (congrArg Value.bool (show decide ((0 : UInt64) % 8 = 0) = true from by decide))) ?_
  refine WT.q rfl (Wn.no rfl) rfl rfl (fun wq hS => R.assign (v := (.bool true)) rfl) ?_
  refine WT.nil ?_
  refine thn_n ?_
  refine WP.ret ?_
  refine ret_of Try.results20 (RV.tmp (v := (.bool true)) rfl RV.nil) ?_
  exact ⟨rfl, h_12.chgS⟩

theorem c_May_r0  (w : World) :
    Cs Try.prog 20 [(.agg ⟨flat [(1, [(vi 0)]), (32, (List.replicate 32 (0 : UInt8)).map vu8), (1, [(vi 0)]), (128, (List.replicate 128 (0 : UInt8)).map vu8), (1, [(vu64 0)]), (8, (List.replicate 8 (0 : UInt64)).map vu64), (1, [(.bool false)])]⟩)].toArray w (fun v w1 => v = (.bool false) ∧ Chg w w1 []) := by
  refine Cs.of (n := 34) (args := [(.agg ⟨flat [(1, [(vi 0)]), (32, (List.replicate 32 (0 : UInt8)).map vu8), (1, [(vi 0)]), (128, (List.replicate 128 (0 : UInt8)).map vu8), (1, [(vu64 0)]), (8, (List.replicate 8 (0 : UInt64)).map vu64), (1, [(.bool false)])]⟩)]) Try.func20 rfl rfl rfl ?_
  have h_0 := HP.init w
  refine WP.seq ?_
  refine WP.reg ?_
  refine WL.box (v := (.agg ⟨flat [(1, [(vi 0)]), (32, (List.replicate 32 (0 : UInt8)).map vu8), (1, [(vi 0)]), (128, (List.replicate 128 (0 : UInt8)).map vu8), (1, [(vu64 0)]), (8, (List.replicate 8 (0 : UInt64)).map vu64), (1, [(.bool false)])]⟩)) (segs := [(1, [(vi 0)]), (32, (List.replicate 32 (0 : UInt8)).map vu8), (1, [(vi 0)]), (128, (List.replicate 128 (0 : UInt8)).map vu8), (1, [(vu64 0)]), (8, (List.replicate 8 (0 : UInt64)).map vu64), (1, [(.bool false)])]) h_0 rfl rfl (SsOk.cons (SOk.v rfl) (SsOk.cons (SOk.u8 (List.length_replicate ..)) (SsOk.cons (SOk.v rfl) (SsOk.cons (SOk.u8 (List.length_replicate ..)) (SsOk.cons (SOk.v rfl) (SsOk.cons (SOk.u64 (List.length_replicate ..)) (SsOk.cons (SOk.v rfl) SsOk.nil))))))) rfl (fun b_1 w_2 h_3 => ?_)
  refine WL.q (Wn.no rfl) rfl rfl (R.assign (v := (.bool false)) rfl) ?_
  refine WL.nil ?_
  refine thn_n ?_
  refine WP.seq ?_
  refine WP.reg ?_
  refine WL.q (Wn.no rfl) rfl rfl (R.fieldAddr (b := b_1) (off := 0) (off' := 0) rfl Try.underlying54 rfl Try.sizeOf52 rfl rfl) ?_
  refine WL.q (Wn.no rfl) rfl rfl (R.load1 (b := b_1) (off := 0) (v := (vi 0)) rfl Try.isAgg52 (h_3.ok _ (.head _)) Sg.h) ?_
  refine WL.q (Wn.no rfl) rfl rfl (R.bin (v := (.bool false)) rfl rfl (bi_geq (r := false) (by decide))) ?_
  refine WL.q (Wn.no rfl) rfl rfl (R.move (v := (.bool false)) rfl) ?_
  refine WL.skip rfl rfl rfl ?_
  refine WL.skip rfl rfl rfl ?_
  refine WL.skip rfl rfl rfl ?_
  refine WL.q (Wn.no rfl) rfl rfl (R.pickF (v := (.bool false)) rfl rfl) ?_
  refine WL.q (Wn.no rfl) rfl rfl (R.assign (v := (.bool false)) rfl) ?_
  refine WL.nil ?_
  refine thn_n ?_
  refine WP.seq ?_
  refine WP.drawT (SL w.heap.size [.blk b_1 .nw 54 [(1, [(vi 0)]), (32, (List.replicate 32 (0 : UInt8)).map vu8), (1, [(vi 0)]), (128, (List.replicate 128 (0 : UInt8)).map vu8), (1, [(vu64 0)]), (8, (List.replicate 8 (0 : UInt64)).map vu64), (1, [(.bool false)])]]) (.q 0 (.q 1 (.q 2 (.q 3 (.s 4 (.q 5 (.q 6 (.q 7 (.q 8 (.q 9 (.q 10 (.q 11 (.q 12 (.q 13 (.q 14 (.q 15 (.q 16 (.q 17 (.q 18 (.q 19 (.s 20 (.q 21 (.q 22 .nil))))))))))))))))))))))) (by kernel_rfl) (by kernel_rfl) rfl (by kernel_rfl) (fun w_4 hc_6 => (SL.cons ((h_3.same hc_6).ok _ (.head _)) (SL.nil _ _))) (fun w_4 hc_6 => ?_)
  have h_5 := h_3.same hc_6
  refine WT.q rfl (Wn.no rfl) rfl rfl (fun wq hS => R.move (v := (.bool false)) rfl) ?_
  refine WT.q rfl (Wn.no rfl) rfl rfl (fun wq hS => R.move (v := (.bool false)) rfl) ?_
  refine WT.skipQ rfl rfl rfl (boolNe (v := .bool false) rfl (by decide)) rfl rfl ?_
  refine WT.skipQ rfl rfl rfl (boolNe (v := .bool false) rfl (by decide)) rfl rfl ?_
  refine WT.s ?_
  refine Op1.skip rfl rfl rfl (boolNe (v := .bool false) rfl (by decide)) rfl rfl ?_
  refine WT.skipQ rfl rfl rfl (boolNe (v := .bool false) rfl (by decide)) rfl rfl ?_
  refine WT.q rfl (Wn.no rfl) rfl rfl (fun wq hS => R.pickF (v := (.bool false)) rfl rfl) ?_
  refine WT.q rfl (Wn.no rfl) rfl rfl (fun wq hS => R.move (v := (.bool false)) rfl) ?_
  refine WT.skipQ rfl rfl rfl (boolNe (v := .bool false) rfl (by decide)) rfl rfl ?_
  refine WT.skipQ rfl rfl rfl (boolNe (v := .bool false) rfl (by decide)) rfl rfl ?_
  refine WT.skipQ rfl rfl rfl (boolNe (v := .bool false) rfl (by decide)) rfl rfl ?_
  refine WT.q rfl (Wn.no rfl) rfl rfl (fun wq hS => R.pickF (v := (.bool false)) rfl rfl) ?_
  refine WT.q rfl (Wn.no rfl) rfl rfl (fun wq hS => R.move (v := (.bool false)) rfl) ?_
  refine WT.skipQ rfl rfl rfl (boolNe (v := .bool false) rfl (by decide)) rfl rfl ?_
  refine WT.skipQ rfl rfl rfl (boolNe (v := .bool false) rfl (by decide)) rfl rfl ?_
  refine WT.skipQ rfl rfl rfl (boolNe (v := .bool false) rfl (by decide)) rfl rfl ?_
  refine WT.q rfl (Wn.no rfl) rfl rfl (fun wq hS => R.pickF (v := (.bool false)) rfl rfl) ?_
  refine WT.q rfl (Wn.no rfl) rfl rfl (fun wq hS => R.move (v := (.bool false)) rfl) ?_
  refine WT.skipQ rfl rfl rfl (boolNe (v := .bool false) rfl (by decide)) rfl rfl ?_
  refine WT.skipQ rfl rfl rfl (boolNe (v := .bool false) rfl (by decide)) rfl rfl ?_
  refine WT.s ?_
  refine Op1.skip rfl rfl rfl (boolNe (v := .bool false) rfl (by decide)) rfl rfl ?_
  refine WT.q rfl (Wn.no rfl) rfl rfl (fun wq hS => R.pickF (v := (.bool false)) rfl rfl) ?_
  refine WT.q rfl (Wn.no rfl) rfl rfl (fun wq hS => R.assign (v := (.bool false)) rfl) ?_
  refine WT.nil ?_
  refine thn_n ?_
  refine WP.ret ?_
  refine ret_of Try.results20 (RV.tmp (v := (.bool false)) rfl RV.nil) ?_
  exact ⟨rfl, h_5.chgS⟩

theorem c_May_r4  (w : World) :
    Cs Try.prog 20 [(.agg ⟨flat [(1, [(vi 4)]), (32, (List.replicate 32 (0 : UInt8)).map vu8), (1, [(vi 0)]), (128, (List.replicate 128 (0 : UInt8)).map vu8), (1, [(vu64 0)]), (8, (List.replicate 8 (0 : UInt64)).map vu64), (1, [(.bool false)])]⟩)].toArray w (fun v w1 => v = (.bool false) ∧ Chg w w1 []) := by
  refine Cs.of (n := 34) (args := [(.agg ⟨flat [(1, [(vi 4)]), (32, (List.replicate 32 (0 : UInt8)).map vu8), (1, [(vi 0)]), (128, (List.replicate 128 (0 : UInt8)).map vu8), (1, [(vu64 0)]), (8, (List.replicate 8 (0 : UInt64)).map vu64), (1, [(.bool false)])]⟩)]) Try.func20 rfl rfl rfl ?_
  have h_0 := HP.init w
  refine WP.seq ?_
  refine WP.reg ?_
  refine WL.box (v := (.agg ⟨flat [(1, [(vi 4)]), (32, (List.replicate 32 (0 : UInt8)).map vu8), (1, [(vi 0)]), (128, (List.replicate 128 (0 : UInt8)).map vu8), (1, [(vu64 0)]), (8, (List.replicate 8 (0 : UInt64)).map vu64), (1, [(.bool false)])]⟩)) (segs := [(1, [(vi 4)]), (32, (List.replicate 32 (0 : UInt8)).map vu8), (1, [(vi 0)]), (128, (List.replicate 128 (0 : UInt8)).map vu8), (1, [(vu64 0)]), (8, (List.replicate 8 (0 : UInt64)).map vu64), (1, [(.bool false)])]) h_0 rfl rfl (SsOk.cons (SOk.v rfl) (SsOk.cons (SOk.u8 (List.length_replicate ..)) (SsOk.cons (SOk.v rfl) (SsOk.cons (SOk.u8 (List.length_replicate ..)) (SsOk.cons (SOk.v rfl) (SsOk.cons (SOk.u64 (List.length_replicate ..)) (SsOk.cons (SOk.v rfl) SsOk.nil))))))) rfl (fun b_1 w_2 h_3 => ?_)
  refine WL.q (Wn.no rfl) rfl rfl (R.assign (v := (.bool false)) rfl) ?_
  refine WL.nil ?_
  refine thn_n ?_
  refine WP.seq ?_
  refine WP.reg ?_
  refine WL.q (Wn.no rfl) rfl rfl (R.fieldAddr (b := b_1) (off := 0) (off' := 0) rfl Try.underlying54 rfl Try.sizeOf52 rfl rfl) ?_
  refine WL.q (Wn.no rfl) rfl rfl (R.load1 (b := b_1) (off := 0) (v := (vi 4)) rfl Try.isAgg52 (h_3.ok _ (.head _)) Sg.h) ?_
  refine WL.q (Wn.no rfl) rfl rfl (R.bin (v := (.bool true)) rfl rfl (bi_geq (r := true) (by decide))) ?_
  refine WL.q (Wn.no rfl) rfl rfl (R.move (v := (.bool true)) rfl) ?_
  refine WL.want rfl rfl ?_
  refine WL.q (Wn.no rfl) rfl rfl (R.fieldAddr (b := b_1) (off := 0) (off' := 0) rfl Try.underlying54 rfl Try.sizeOf52 rfl rfl) ?_
  refine WL.want rfl rfl ?_
  refine WL.q (Wn.no rfl) rfl rfl (R.load1 (b := b_1) (off := 0) (v := (vi 4)) rfl Try.isAgg52 (h_3.ok _ (.head _)) Sg.h) ?_
  refine WL.want rfl rfl ?_
  refine WL.q (Wn.no rfl) rfl rfl (R.bin (v := (.bool false)) rfl rfl (bi_leq (r := false) (by decide))) ?_
  refine WL.q (Wn.no rfl) rfl rfl (R.pickT (v := (.bool false)) rfl rfl) ?_
  refine WL.q (Wn.no rfl) rfl rfl (R.assign (v := (.bool false)) rfl) ?_
  refine WL.nil ?_
  refine thn_n ?_
  refine WP.seq ?_
  refine WP.drawT (SL w.heap.size [.blk b_1 .nw 54 [(1, [(vi 4)]), (32, (List.replicate 32 (0 : UInt8)).map vu8), (1, [(vi 0)]), (128, (List.replicate 128 (0 : UInt8)).map vu8), (1, [(vu64 0)]), (8, (List.replicate 8 (0 : UInt64)).map vu64), (1, [(.bool false)])]]) (.q 0 (.q 1 (.q 2 (.q 3 (.s 4 (.q 5 (.q 6 (.q 7 (.q 8 (.q 9 (.q 10 (.q 11 (.q 12 (.q 13 (.q 14 (.q 15 (.q 16 (.q 17 (.q 18 (.q 19 (.s 20 (.q 21 (.q 22 .nil))))))))))))))))))))))) (by kernel_rfl) (by kernel_rfl) rfl (by kernel_rfl) (fun w_4 hc_6 => (SL.cons ((h_3.same hc_6).ok _ (.head _)) (SL.nil _ _))) (fun w_4 hc_6 => ?_)
  have h_5 := h_3.same hc_6
  refine WT.q rfl (Wn.no rfl) rfl rfl (fun wq hS => R.move (v := (.bool false)) rfl) ?_
  refine WT.q rfl (Wn.no rfl) rfl rfl (fun wq hS => R.move (v := (.bool false)) rfl) ?_
  refine WT.skipQ rfl rfl rfl (boolNe (v := .bool false) rfl (by decide)) rfl rfl ?_
  refine WT.skipQ rfl rfl rfl (boolNe (v := .bool false) rfl (by decide)) rfl rfl ?_
  refine WT.s ?_
  refine Op1.skip rfl rfl rfl (boolNe (v := .bool false) rfl (by decide)) rfl rfl ?_
  refine WT.skipQ rfl rfl rfl (boolNe (v := .bool false) rfl (by decide)) rfl rfl ?_
  refine WT.q rfl (Wn.no rfl) rfl rfl (fun wq hS => R.pickF (v := (.bool false)) rfl rfl) ?_
  refine WT.q rfl (Wn.no rfl) rfl rfl (fun wq hS => R.move (v := (.bool false)) rfl) ?_
  refine WT.skipQ rfl rfl rfl (boolNe (v := .bool false) rfl (by decide)) rfl rfl ?_
  refine WT.skipQ rfl rfl rfl (boolNe (v := .bool false) rfl (by decide)) rfl rfl ?_
  refine WT.skipQ rfl rfl rfl (boolNe (v := .bool false) rfl (by decide)) rfl rfl ?_
  refine WT.q rfl (Wn.no rfl) rfl rfl (fun wq hS => R.pickF (v := (.bool false)) rfl rfl) ?_
  refine WT.q rfl (Wn.no rfl) rfl rfl (fun wq hS => R.move (v := (.bool false)) rfl) ?_
  refine WT.skipQ rfl rfl rfl (boolNe (v := .bool false) rfl (by decide)) rfl rfl ?_
  refine WT.skipQ rfl rfl rfl (boolNe (v := .bool false) rfl (by decide)) rfl rfl ?_
  refine WT.skipQ rfl rfl rfl (boolNe (v := .bool false) rfl (by decide)) rfl rfl ?_
  refine WT.q rfl (Wn.no rfl) rfl rfl (fun wq hS => R.pickF (v := (.bool false)) rfl rfl) ?_
  refine WT.q rfl (Wn.no rfl) rfl rfl (fun wq hS => R.move (v := (.bool false)) rfl) ?_
  refine WT.skipQ rfl rfl rfl (boolNe (v := .bool false) rfl (by decide)) rfl rfl ?_
  refine WT.skipQ rfl rfl rfl (boolNe (v := .bool false) rfl (by decide)) rfl rfl ?_
  refine WT.s ?_
  refine Op1.skip rfl rfl rfl (boolNe (v := .bool false) rfl (by decide)) rfl rfl ?_
  refine WT.q rfl (Wn.no rfl) rfl rfl (fun wq hS => R.pickF (v := (.bool false)) rfl rfl) ?_
  refine WT.q rfl (Wn.no rfl) rfl rfl (fun wq hS => R.assign (v := (.bool false)) rfl) ?_
  refine WT.nil ?_
  refine thn_n ?_
  refine WP.ret ?_
  refine ret_of Try.results20 (RV.tmp (v := (.bool false)) rfl RV.nil) ?_
  exact ⟨rfl, h_5.chgS⟩

theorem c_MayAll_0  (w : World) :
    Cs Try.prog 22 [(.slice none 0 0)].toArray w (fun v w1 => v = (.bool false) ∧ Chg w w1 []) := by
  refine Cs.of (n := 30) (args := [(.slice none 0 0)]) Try.func22 rfl rfl rfl ?_
  have h_0 := HP.init w
  refine WP.seq ?_
  refine WP.reg ?_
  refine WL.q (Wn.no rfl) rfl rfl (R.assign (v := (.bool false)) rfl) ?_
  refine WL.nil ?_
  refine thn_n ?_
  refine WP.scope ?_
  refine WP.seq ?_
  refine WP.reg ?_
  refine WL.q (Wn.no rfl) rfl rfl (R.move (v := (.slice none 0 0)) rfl) ?_
  refine WL.q (Wn.no rfl) rfl rfl (R.lenS (a := none) (m := 0) rfl rfl Try.underlying23) ?_
  refine WL.q (Wn.no rfl) rfl rfl (R.bin (v := (.bool false)) rfl rfl (bi_gtr (r := false) (by decide))) ?_
  refine WL.q (Wn.no rfl) rfl rfl (R.assign (v := (.bool false)) rfl) ?_
  refine WL.nil ?_
  refine thn_n ?_
  refine WP.seq ?_
  refine WP.label ?_
  refine thn_n ?_
  refine WP.seq ?_
  refine WP.seq ?_
  refine WP.reg ?_
  refine WL.q (Wn.no rfl) rfl rfl (R.move (v := (.slice none 0 0)) rfl) ?_
  refine WL.q (Wn.no rfl) rfl rfl (R.lenS (a := none) (m := 0) rfl rfl Try.underlying23) ?_
  refine WL.q (Wn.no rfl) rfl rfl (R.move (v := (vi 0)) rfl) ?_
  refine WL.nil ?_
  refine thn_n ?_
  refine WP.block ?_
  refine WP.loopU (WI.round ?_)
  refine WP.seq ?_
  refine WP.reg ?_
  refine WL.q (Wn.no rfl) rfl rfl (R.bin (v := (.bool false)) rfl rfl (bi_lss (r := false) (by decide))) ?_
  refine WL.nil ?_
  refine thn_n ?_
  refine WP.seq ?_
  refine WP.condF rfl ?_
  refine WP.exit ?_
  refine thn_x ?_
  refine thn_x ?_
  refine inb_hit ?_
  refine thn_n ?_
  refine WP.seq ?_
  refine WP.reg ?_
  refine WL.q (Wn.no rfl) rfl rfl (R.move (v := (.bool false)) rfl) ?_
  refine WL.q (Wn.no rfl) rfl rfl (R.assign (v := (.bool false)) rfl) ?_
  refine WL.nil ?_
  refine thn_n ?_
  refine WP.ret ?_
  refine ng_r ?_
  refine ret_of Try.results22 (RV.tmp (v := (.bool false)) rfl RV.nil) ?_
  exact ⟨rfl, h_0.chgS⟩

theorem c_MayAll_2 (bc : Nat) (w : World) (hcr : (Ent.blk bc .ro 54 [(1, [(vi 2)]), (32, (List.replicate 32 (0 : UInt8)).map vu8), (1, [(vi 0)]), (128, (List.replicate 128 (0 : UInt8)).map vu8), (1, [(vu64 0)]), (8, (List.replicate 8 (0 : UInt64)).map vu64), (1, [(.bool false)])]).ok w.heap.size w) :
    Cs Try.prog 22 [(.slice (some ⟨bc, 0, none⟩) 1 1)].toArray w (fun v w1 => v = (.bool false) ∧ Chg w w1 []) := by
  refine Cs.of (n := 30) (args := [(.slice (some ⟨bc, 0, none⟩) 1 1)]) Try.func22 rfl rfl rfl ?_
  have h_0 := HP.init w
  have h_00 := h_0.old hcr (fun f hf => by cases hf)
  refine WP.seq ?_
  refine WP.reg ?_
  refine WL.q (Wn.no rfl) rfl rfl (R.assign (v := (.bool false)) rfl) ?_
  refine WL.nil ?_
  refine thn_n ?_
  refine WP.scope ?_
  refine WP.seq ?_
  refine WP.reg ?_
  refine WL.q (Wn.no rfl) rfl rfl (R.move (v := (.slice (some ⟨bc, 0, none⟩) 1 1)) rfl) ?_
  refine WL.q (Wn.no rfl) rfl rfl (R.lenS (a := some ⟨bc, 0, none⟩) (m := 1) rfl rfl Try.underlying23) ?_
  refine WL.q (Wn.no rfl) rfl rfl (R.bin (v := (.bool true)) rfl rfl (bi_gtr (r := true) (by decide))) ?_
  refine WL.q (Wn.no rfl) rfl rfl (R.assign (v := (.bool true)) rfl) ?_
  refine WL.nil ?_
  refine thn_n ?_
  refine WP.seq ?_
  refine WP.label ?_
  refine thn_n ?_
  refine WP.seq ?_
  refine WP.seq ?_
  refine WP.reg ?_
  refine WL.q (Wn.no rfl) rfl rfl (R.move (v := (.slice (some ⟨bc, 0, none⟩) 1 1)) rfl) ?_
  refine WL.q (Wn.no rfl) rfl rfl (R.lenS (a := some ⟨bc, 0, none⟩) (m := 1) rfl rfl Try.underlying23) ?_
  refine WL.q (Wn.no rfl) rfl rfl (R.move (v := (vi 0)) rfl) ?_
  refine WL.nil ?_
  refine thn_n ?_
  refine WP.block ?_
  refine WP.loopU (WI.round ?_)
  refine WP.seq ?_
  refine WP.reg ?_
  refine WL.q (Wn.no rfl) rfl rfl (R.bin (v := (.bool true)) rfl rfl (bi_lss (r := true) (by decide))) ?_
  refine WL.nil ?_
  refine thn_n ?_
  refine WP.seq ?_
  refine WP.condT rfl ?_
  refine WP.skip ?_
  refine thn_n ?_
  refine WP.seq ?_
  refine WP.block ?_
  refine WP.seq ?_
  refine WP.reg ?_
  refine WL.q (Wn.no rfl) rfl rfl (R.move (v := (vi 0)) rfl) ?_
  refine WL.q (Wn.no rfl) rfl rfl (R.indexP (b := bc) (off := 0) (off' := 0) (i := 0) rfl rfl rfl (by decide) Try.underlying23 Try.sizeOf54 rfl) ?_
  refine WL.q (Wn.no rfl) rfl rfl (R.loadA (b := bc) (off := 0) [] [(1, [(vi 2)]), (32, (List.replicate 32 (0 : UInt8)).map vu8), (1, [(vi 0)]), (128, (List.replicate 128 (0 : UInt8)).map vu8), (1, [(vu64 0)]), (8, (List.replicate 8 (0 : UInt64)).map vu64), (1, [(.bool false)])] [] (cs := flat [(1, [(vi 2)]), (32, (List.replicate 32 (0 : UInt8)).map vu8), (1, [(vi 0)]), (128, (List.replicate 128 (0 : UInt8)).map vu8), (1, [(vu64 0)]), (8, (List.replicate 8 (0 : UInt64)).map vu64), (1, [(.bool false)])]) rfl Try.isAgg54 Try.sizeOf54 (h_00.ok _ (.head _)) rfl rfl rfl rfl) ?_
  refine WL.alloc (segs := [(1, [(vi 0)]), (32, (List.replicate 32 (0 : UInt8)).map vu8), (1, [(vi 0)]), (128, (List.replicate 128 (0 : UInt8)).map vu8), (1, [(vu64 0)]), (8, (List.replicate 8 (0 : UInt64)).map vu64), (1, [(.bool false)])]) h_00 (zv Try.typeInfo54 rfl) rfl (SsOk.cons (SOk.v rfl) (SsOk.cons (SOk.u8 (List.length_replicate ..)) (SsOk.cons (SOk.v rfl) (SsOk.cons (SOk.u8 (List.length_replicate ..)) (SsOk.cons (SOk.v rfl) (SsOk.cons (SOk.u64 (List.length_replicate ..)) (SsOk.cons (SOk.v rfl) SsOk.nil))))))) rfl (fun b_1 w_2 h_3 => ?_)
  refine WL.q (Wn.no rfl) rfl rfl (R.assign (v := (vi 0)) rfl) ?_
  refine WL.storeA (b := b_1) (off := 0) [] [(1, [(vi 0)]), (32, (List.replicate 32 (0 : UInt8)).map vu8), (1, [(vi 0)]), (128, (List.replicate 128 (0 : UInt8)).map vu8), (1, [(vu64 0)]), (8, (List.replicate 8 (0 : UInt64)).map vu64), (1, [(.bool false)])] [(1, [(vi 2)]), (32, (List.replicate 32 (0 : UInt8)).map vu8), (1, [(vi 0)]), (128, (List.replicate 128 (0 : UInt8)).map vu8), (1, [(vu64 0)]), (8, (List.replicate 8 (0 : UInt64)).map vu64), (1, [(.bool false)])] [] (ys := flat [(1, [(vi 2)]), (32, (List.replicate 32 (0 : UInt8)).map vu8), (1, [(vi 0)]), (128, (List.replicate 128 (0 : UInt8)).map vu8), (1, [(vu64 0)]), (8, (List.replicate 8 (0 : UInt64)).map vu64), (1, [(.bool false)])]) h_3 rfl rfl Try.sizeOf54 At.h (by decide) rfl rfl rfl rfl rfl rfl (SsOk.cons (SOk.v rfl) (SsOk.cons (SOk.u8 (List.length_replicate ..)) (SsOk.cons (SOk.v rfl) (SsOk.cons (SOk.u8 (List.length_replicate ..)) (SsOk.cons (SOk.v rfl) (SsOk.cons (SOk.u64 (List.length_replicate ..)) (SsOk.cons (SOk.v rfl) SsOk.nil))))))) (fun w_4 h_5 => ?_)
  refine WL.nil ?_
  refine thn_n ?_
  refine WP.seq ?_
  refine WP.reg ?_
  refine WL.q (Wn.no rfl) rfl rfl (R.loadA (b := b_1) (off := 0) [] [(1, [(vi 2)]), (32, (List.replicate 32 (0 : UInt8)).map vu8), (1, [(vi 0)]), (128, (List.replicate 128 (0 : UInt8)).map vu8), (1, [(vu64 0)]), (8, (List.replicate 8 (0 : UInt64)).map vu64), (1, [(.bool false)])] [] (cs := flat [(1, [(vi 2)]), (32, (List.replicate 32 (0 : UInt8)).map vu8), (1, [(vi 0)]), (128, (List.replicate 128 (0 : UInt8)).map vu8), (1, [(vu64 0)]), (8, (List.replicate 8 (0 : UInt64)).map vu64), (1, [(.bool false)])]) rfl Try.isAgg54 Try.sizeOf54 (h_5.ok _ (.head _)) rfl rfl rfl rfl) ?_
  refine WL.call (al := [(.agg ⟨flat [(1, [(vi 2)]), (32, (List.replicate 32 (0 : UInt8)).map vu8), (1, [(vi 0)]), (128, (List.replicate 128 (0 : UInt8)).map vu8), (1, [(vu64 0)]), (8, (List.replicate 8 (0 : UInt64)).map vu64), (1, [(.bool false)])]⟩)]) Try.call20 rfl rfl (c_May_r2  _ ) rfl ?_
  rintro _ w_7 ⟨rfl, hc_6⟩
  have h_8 := h_5.same hc_6
  refine WL.q (Wn.no rfl) rfl rfl (R.move (v := (.bool true)) rfl) ?_
  refine WL.want rfl rfl ?_
  refine WL.q (Wn.no rfl) rfl rfl (R.fieldAddr (b := b_1) (off := 0) (off' := 0) rfl Try.underlying54 rfl Try.sizeOf52 rfl rfl) ?_
  refine WL.want rfl rfl ?_
  refine WL.q (Wn.no rfl) rfl rfl (R.load1 (b := b_1) (off := 0) (v := (vi 2)) rfl Try.isAgg52 (h_8.ok _ (.head _)) Sg.h) ?_
  refine WL.want rfl rfl ?_
  refine WL.q (Wn.no rfl) rfl rfl (R.bin (v := (.bool false)) rfl rfl (bi_eql (r := false) (by decide))) ?_
  refine WL.want rfl rfl ?_
  refine WL.q (Wn.no rfl) rfl rfl (R.move (v := (vi 0)) rfl) ?_
  refine WL.want rfl rfl ?_
  refine WL.q (Wn.no rfl) rfl rfl (R.bin (v := (.bool true)) rfl rfl (bi_eql (r := true) (by decide))) ?_
  refine WL.want rfl rfl ?_
  refine WL.q (Wn.no rfl) rfl rfl (R.eqB (a := false) (b := true) (c := false) rfl rfl Try.underlying4 rfl) ?_
  refine WL.q (Wn.no rfl) rfl rfl (R.pickT (v := (.bool false)) rfl rfl) ?_
  refine WL.q (Wn.no rfl) rfl rfl (R.assign (v := (.bool false)) rfl) ?_
  refine WL.nil ?_
  refine thn_n ?_
  refine WP.seq ?_
  refine WP.reg ?_
  refine WL.q (Wn.no rfl) rfl rfl (R.move (v := (.bool false)) rfl) ?_
  refine WL.q (Wn.no rfl) rfl rfl (R.not (b := false) rfl) ?_
  refine WL.nil ?_
  refine thn_n ?_
  refine WP.condT rfl ?_
  refine WP.exit ?_
  refine inb_miss rfl ?_
  refine thn_x ?_
  refine thn_x ?_
  refine inb_hit ?_
  refine thn_n ?_
  refine WP.seq ?_
  refine WP.reg ?_
  refine WL.q (Wn.no rfl) rfl rfl (R.move (v := (.bool false)) rfl) ?_
  refine WL.q (Wn.no rfl) rfl rfl (R.assign (v := (.bool false)) rfl) ?_
  refine WL.nil ?_
  refine thn_n ?_
  refine WP.ret ?_
  refine ng_r ?_
  refine ret_of Try.results22 (RV.tmp (v := (.bool false)) rfl RV.nil) ?_
  exact ⟨rfl, h_8.chgS⟩

theorem c_Replay_nil  (w : World) :
    Cs Try.prog 13 [(.pointer none), (.slice none 0 0)].toArray w (fun v w1 => v = (.tuple [(.agg ⟨(List.replicate 32 (0 : UInt8)).map vu8⟩), (vi 1)].toArray) ∧ Chg w w1 []) := by
  refine Cs.of (n := 51) (args := [(.pointer none), (.slice none 0 0)]) Try.func13 rfl rfl rfl ?_
  have h_0 := HP.init w
  refine WP.seq ?_
  refine WP.reg ?_
  refine WL.alloc (segs := [(32, (List.replicate 32 (0 : UInt8)).map vu8)]) h_0 (zv Try.typeInfo29 rfl) rfl (SsOk.cons (SOk.u8 (List.length_replicate ..)) SsOk.nil) rfl (fun b_1 w_2 h_3 => ?_)
  refine WL.q (Wn.no rfl) rfl rfl (R.assign (v := (vi 0)) rfl) ?_
  refine WL.nil ?_
  refine thn_n ?_
  refine WP.seq ?_
  refine WP.block ?_
  refine WP.seq ?_
  refine WP.reg ?_
  refine WL.q (Wn.no rfl) rfl rfl (R.move (v := (.pointer none)) rfl) ?_
  refine WL.call (al := [(.pointer none)]) Try.call47 rfl rfl (c_mth_nil  _ ) rfl ?_
  rintro _ w_5 ⟨rfl, hc_4⟩
  have h_6 := h_3.same hc_4
  refine WL.q (Wn.no rfl) rfl rfl (R.not (b := false) rfl) ?_
  refine WL.q (Wn.no rfl) rfl rfl (R.assign (v := (.bool true)) rfl) ?_
  refine WL.nil ?_
  refine thn_n ?_
  refine WP.condT rfl ?_
  refine WP.seq ?_
  refine WP.reg ?_
  refine WL.q (Wn.no rfl) rfl rfl (R.buildA (vs := []) (cs := (List.replicate 32 (0 : UInt8)).map vu8) Try.underlying29 Try.sizeOf5 (zv Try.typeInfo29 rfl) rfl rfl) ?_
  refine WL.storeA (b := b_1) (off := 0) [] [(32, (List.replicate 32 (0 : UInt8)).map vu8)] [(32, (List.replicate 32 (0 : UInt8)).map vu8)] [] (ys := (List.replicate 32 (0 : UInt8)).map vu8) h_6 rfl rfl Try.sizeOf29 At.h (by decide) rfl rfl rfl rfl rfl rfl (SsOk.cons (SOk.u8 (List.length_replicate ..)) SsOk.nil) (fun w_7 h_8 => ?_)
  refine WL.q (Wn.no rfl) rfl rfl (R.assign (v := (vi 1)) rfl) ?_
  refine WL.nil ?_
  refine thn_n ?_
  refine WP.ret ?_
  refine inb_r ?_
  refine thn_r ?_
  refine ret_of Try.results13 (RV.cell rfl (h_8.loadA (cs := (List.replicate 32 (0 : UInt8)).map vu8) Try.isAgg29 Try.sizeOf29 (.head _) rfl rfl) (RV.tmp (v := (vi 1)) rfl RV.nil)) ?_
  exact ⟨rfl, h_8.chgS⟩

theorem c_Replay_0 (ob mp : Nat) (ms : List UInt8) (hms : ms.length = 32) (da : Option Addr) (dn dc u : Nat) (la : Option Addr) (ln lc : Nat) (w : World) (hcb : (Ent.blk ob .ro 47 [(1, [(.bool true)]), (32, ms.map vu8), (1, [(.slice da dn dc)]), (1, [(vi ((u : Nat) : Int))]), (1, [(.map (some mp))]), (1, [(.slice la ln lc)])]).ok w.heap.size w) :
    Cs Try.prog 13 [(.pointer (some ⟨ob, 0, none⟩)), (.slice none 0 0)].toArray w (fun v w1 => v = (.tuple [(.agg ⟨(List.replicate 32 (0 : UInt8)).map vu8⟩), (vi 2)].toArray) ∧ Chg w w1 []) := by
  refine Cs.of (n := 51) (args := [(.pointer (some ⟨ob, 0, none⟩)), (.slice none 0 0)]) Try.func13 rfl rfl rfl ?_
  have h_0 := HP.init w
  have h_00 := h_0.old hcb (fun f hf => by cases hf)
  refine WP.seq ?_
  refine WP.reg ?_
  refine WL.alloc (segs := [(32, (List.replicate 32 (0 : UInt8)).map vu8)]) h_00 (zv Try.typeInfo29 rfl) rfl (SsOk.cons (SOk.u8 (List.length_replicate ..)) SsOk.nil) rfl (fun b_1 w_2 h_3 => ?_)
  refine WL.q (Wn.no rfl) rfl rfl (R.assign (v := (vi 0)) rfl) ?_
  refine WL.nil ?_
  refine thn_n ?_
  refine WP.seq ?_
  refine WP.block ?_
  refine WP.seq ?_
  refine WP.reg ?_
  refine WL.q (Wn.no rfl) rfl rfl (R.move (v := (.pointer (some ⟨ob, 0, none⟩))) rfl) ?_
  refine WL.call (al := [(.pointer (some ⟨ob, 0, none⟩))]) Try.call47 rfl rfl (c_mth ob mp ms hms da dn dc u la ln lc _ (h_3.argR (.tail _ (.head _)))) rfl ?_
  rintro _ w_5 ⟨rfl, hc_4⟩
  have h_6 := h_3.same hc_4
  refine WL.q (Wn.no rfl) rfl rfl (R.not (b := true) rfl) ?_
  refine WL.q (Wn.no rfl) rfl rfl (R.assign (v := (.bool false)) rfl) ?_
  refine WL.nil ?_
  refine thn_n ?_
  refine WP.condF rfl ?_
  refine WP.seq ?_
  refine WP.reg ?_
  refine WL.q (Wn.no rfl) rfl rfl (R.move (v := (.slice none 0 0)) rfl) ?_
  refine WL.call (al := [(.slice none 0 0)]) Try.call22 rfl rfl (c_MayAll_0  _ ) rfl ?_
  rintro _ w_8 ⟨rfl, hc_7⟩
  have h_9 := h_6.same hc_7
  refine WL.q (Wn.no rfl) rfl rfl (R.not (b := false) rfl) ?_
  refine WL.q (Wn.no rfl) rfl rfl (R.assign (v := (.bool true)) rfl) ?_
  refine WL.nil ?_
  refine thn_n ?_
  refine WP.condT rfl ?_
  refine WP.seq ?_
  refine WP.reg ?_
  refine WL.q (Wn.no rfl) rfl rfl (R.buildA (vs := []) (cs := (List.replicate 32 (0 : UInt8)).map vu8) Try.underlying29 Try.sizeOf5 (zv Try.typeInfo29 rfl) rfl rfl) ?_
  refine WL.storeA (b := b_1) (off := 0) [] [(32, (List.replicate 32 (0 : UInt8)).map vu8)] [(32, (List.replicate 32 (0 : UInt8)).map vu8)] [] (ys := (List.replicate 32 (0 : UInt8)).map vu8) h_9 rfl rfl Try.sizeOf29 At.h (by decide) rfl rfl rfl rfl rfl rfl (SsOk.cons (SOk.u8 (List.length_replicate ..)) SsOk.nil) (fun w_10 h_11 => ?_)
  refine WL.q (Wn.no rfl) rfl rfl (R.assign (v := (vi 2)) rfl) ?_
  refine WL.nil ?_
  refine thn_n ?_
  refine WP.ret ?_
  refine inb_r ?_
  refine thn_r ?_
  refine ret_of Try.results13 (RV.cell rfl (h_11.loadA (cs := (List.replicate 32 (0 : UInt8)).map vu8) Try.isAgg29 Try.sizeOf29 (.head _) rfl rfl) (RV.tmp (v := (vi 2)) rfl RV.nil)) ?_
  exact ⟨rfl, h_11.chgS⟩

theorem c_Replay_2 (ob mp : Nat) (ms : List UInt8) (hms : ms.length = 32) (da : Option Addr) (dn dc u : Nat) (la : Option Addr) (ln lc : Nat) (bc : Nat) (w : World) (hcb : (Ent.blk ob .ro 47 [(1, [(.bool true)]), (32, ms.map vu8), (1, [(.slice da dn dc)]), (1, [(vi ((u : Nat) : Int))]), (1, [(.map (some mp))]), (1, [(.slice la ln lc)])]).ok w.heap.size w) (hcr : (Ent.blk bc .ro 54 [(1, [(vi 2)]), (32, (List.replicate 32 (0 : UInt8)).map vu8), (1, [(vi 0)]), (128, (List.replicate 128 (0 : UInt8)).map vu8), (1, [(vu64 0)]), (8, (List.replicate 8 (0 : UInt64)).map vu64), (1, [(.bool false)])]).ok w.heap.size w) :
    Cs Try.prog 13 [(.pointer (some ⟨ob, 0, none⟩)), (.slice (some ⟨bc, 0, none⟩) 1 1)].toArray w (fun v w1 => v = (.tuple [(.agg ⟨(List.replicate 32 (0 : UInt8)).map vu8⟩), (vi 2)].toArray) ∧ Chg w w1 []) := by
  refine Cs.of (n := 51) (args := [(.pointer (some ⟨ob, 0, none⟩)), (.slice (some ⟨bc, 0, none⟩) 1 1)]) Try.func13 rfl rfl rfl ?_
  have h_0 := HP.init w
  have h_01 := h_0.oldV hcb rfl (by simp [Ent.mut])
  have h_00 := h_01.oldV hcr rfl (by simp [Ent.mut])
  refine WP.seq ?_
  refine WP.reg ?_
  refine WL.alloc (segs := [(32, (List.replicate 32 (0 : UInt8)).map vu8)]) h_00 (zv Try.typeInfo29 rfl) rfl (SsOk.cons (SOk.u8 (List.length_replicate ..)) SsOk.nil) rfl (fun b_1 w_2 h_3 => ?_)
  refine WL.q (Wn.no rfl) rfl rfl (R.assign (v := (vi 0)) rfl) ?_
  refine WL.nil ?_
  refine thn_n ?_
  refine WP.seq ?_
  refine WP.block ?_
  refine WP.seq ?_
  refine WP.reg ?_
  refine WL.q (Wn.no rfl) rfl rfl (R.move (v := (.pointer (some ⟨ob, 0, none⟩))) rfl) ?_
  refine WL.call (al := [(.pointer (some ⟨ob, 0, none⟩))]) Try.call47 rfl rfl (c_mth ob mp ms hms da dn dc u la ln lc _ (h_3.argR (.tail _ (.tail _ (.head _))))) rfl ?_
  rintro _ w_5 ⟨rfl, hc_4⟩
  have h_6 := h_3.same hc_4
  refine WL.q (Wn.no rfl) rfl rfl (R.not (b := true) rfl) ?_
  refine WL.q (Wn.no rfl) rfl rfl (R.assign (v := (.bool false)) rfl) ?_
  refine WL.nil ?_
  refine thn_n ?_
  refine WP.condF rfl ?_
  refine WP.seq ?_
  refine WP.reg ?_
  refine WL.q (Wn.no rfl) rfl rfl (R.move (v := (.slice (some ⟨bc, 0, none⟩) 1 1)) rfl) ?_
  refine WL.call (al := [(.slice (some ⟨bc, 0, none⟩) 1 1)]) Try.call22 rfl rfl (c_MayAll_2 bc _ (h_6.argR (.tail _ (.head _)))) rfl ?_
  rintro _ w_8 ⟨rfl, hc_7⟩
  have h_9 := h_6.same hc_7
  refine WL.q (Wn.no rfl) rfl rfl (R.not (b := false) rfl) ?_
  refine WL.q (Wn.no rfl) rfl rfl (R.assign (v := (.bool true)) rfl) ?_
  refine WL.nil ?_
  refine thn_n ?_
  refine WP.condT rfl ?_
  refine WP.seq ?_
  refine WP.reg ?_
  refine WL.q (Wn.no rfl) rfl rfl (R.buildA (vs := []) (cs := (List.replicate 32 (0 : UInt8)).map vu8) Try.underlying29 Try.sizeOf5 (zv Try.typeInfo29 rfl) rfl rfl) ?_
  refine WL.storeA (b := b_1) (off := 0) [] [(32, (List.replicate 32 (0 : UInt8)).map vu8)] [(32, (List.replicate 32 (0 : UInt8)).map vu8)] [] (ys := (List.replicate 32 (0 : UInt8)).map vu8) h_9 rfl rfl Try.sizeOf29 At.h (by decide) rfl rfl rfl rfl rfl rfl (SsOk.cons (SOk.u8 (List.length_replicate ..)) SsOk.nil) (fun w_10 h_11 => ?_)
  refine WL.q (Wn.no rfl) rfl rfl (R.assign (v := (vi 2)) rfl) ?_
  refine WL.nil ?_
  refine thn_n ?_
  refine WP.ret ?_
  refine inb_r ?_
  refine thn_r ?_
  refine ret_of Try.results13 (RV.cell rfl (h_11.loadA (cs := (List.replicate 32 (0 : UInt8)).map vu8) Try.isAgg29 Try.sizeOf29 (.head _) rfl rfl) (RV.tmp (v := (vi 2)) rfl RV.nil)) ?_
  exact ⟨rfl, h_11.chgS⟩

theorem c_addings  (w : World) :
    Cs Try.prog 50 [].toArray w (fun v w1 => ∃ b, v = .map (some b) ∧ Chg w w1 [] ∧ w1.heap[b]? = some (.map (#[{ key := (vi 2), val := (Value.func (Fn.func 75) [].toArray [].toArray), born := 0 }, { key := (vi 3), val := (Value.func (Fn.func 76) [].toArray [].toArray), born := 1 }]) 2) ∧ w.heap.size ≤ b) := by
  refine Cs.of (n := 3) (args := []) Try.func50 rfl rfl rfl ?_
  have h_0 := HP.init w
  refine WP.seq ?_
  refine WP.reg ?_
  refine WL.q (Wn.no rfl) rfl rfl (R.assign (v := (.map none)) rfl) ?_
  refine WL.nil ?_
  refine thn_n ?_
  refine WP.seq ?_
  refine WP.reg ?_
  refine WL.makeMap h_0 rfl (fun b_1 w_2 h_3 => ?_)
  refine WL.insert (k := (vi 2)) (v := (Value.func (Fn.func 75) [].toArray [].toArray)) h_3 rfl rfl rfl Try.underlying100 At.h (by decide) (Ck.int Try.underlying52) (Fk.int Try.underlying52 rfl) (fun w_4 h_5 => ?_)
  refine WL.insert (k := (vi 3)) (v := (Value.func (Fn.func 76) [].toArray [].toArray)) h_5 rfl rfl rfl Try.underlying100 At.h (by decide) (Ck.int Try.underlying52) (Fk.int Try.underlying52 rfl) (fun w_6 h_7 => ?_)
  refine WL.q (Wn.no rfl) rfl rfl (R.move (v := (.map (some b_1))) rfl) ?_
  refine WL.q (Wn.no rfl) rfl rfl (R.assign (v := (.map (some b_1))) rfl) ?_
  refine WL.nil ?_
  refine thn_n ?_
  refine WP.ret ?_
  refine ret_of Try.results50 (RV.tmp (v := (.map (some b_1))) rfl RV.nil) ?_
  exact ⟨_, rfl, h_7.chgS, (h_7.ok _ (.head _)).1, (h_7.ok _ (.head _)).2⟩

theorem c_Next_nil (md : List UInt8) (hmd : md.length = 32) (w : World) :
    Cs Try.prog 19 [(.pointer none), (.agg ⟨md.map vu8⟩), (.agg ⟨flat [(1, [(vi 0)]), (32, (List.replicate 32 (0 : UInt8)).map vu8), (1, [(vi 0)]), (128, (List.replicate 128 (0 : UInt8)).map vu8), (1, [(vu64 0)]), (8, (List.replicate 8 (0 : UInt64)).map vu64), (1, [(.bool false)])]⟩)].toArray w (fun v w1 => v = (.tuple [(.agg ⟨(List.replicate 32 (0 : UInt8)).map vu8⟩), (vi 1)].toArray) ∧ Chg w w1 []) := by
  refine Cs.of (n := 34) (args := [(.pointer none), (.agg ⟨md.map vu8⟩), (.agg ⟨flat [(1, [(vi 0)]), (32, (List.replicate 32 (0 : UInt8)).map vu8), (1, [(vi 0)]), (128, (List.replicate 128 (0 : UInt8)).map vu8), (1, [(vu64 0)]), (8, (List.replicate 8 (0 : UInt64)).map vu64), (1, [(.bool false)])]⟩)]) Try.func19 rfl rfl rfl ?_
  have h_0 := HP.init w
  refine WP.seq ?_
  refine WP.reg ?_
  refine WL.box (v := (.agg ⟨md.map vu8⟩)) (segs := [(32, md.map vu8)]) h_0 rfl rfl (SsOk.cons (SOk.u8 hmd) SsOk.nil) rfl (fun b_1 w_2 h_3 => ?_)
  refine WL.box (v := (.agg ⟨flat [(1, [(vi 0)]), (32, (List.replicate 32 (0 : UInt8)).map vu8), (1, [(vi 0)]), (128, (List.replicate 128 (0 : UInt8)).map vu8), (1, [(vu64 0)]), (8, (List.replicate 8 (0 : UInt64)).map vu64), (1, [(.bool false)])]⟩)) (segs := [(1, [(vi 0)]), (32, (List.replicate 32 (0 : UInt8)).map vu8), (1, [(vi 0)]), (128, (List.replicate 128 (0 : UInt8)).map vu8), (1, [(vu64 0)]), (8, (List.replicate 8 (0 : UInt64)).map vu64), (1, [(.bool false)])]) h_3 rfl rfl (SsOk.cons (SOk.v rfl) (SsOk.cons (SOk.u8 (List.length_replicate ..)) (SsOk.cons (SOk.v rfl) (SsOk.cons (SOk.u8 (List.length_replicate ..)) (SsOk.cons (SOk.v rfl) (SsOk.cons (SOk.u64 (List.length_replicate ..)) (SsOk.cons (SOk.v rfl) SsOk.nil))))))) rfl (fun b_4 w_5 h_6 => ?_)
  refine WL.alloc (segs := [(32, (List.replicate 32 (0 : UInt8)).map vu8)]) h_6 (zv Try.typeInfo29 rfl) rfl (SsOk.cons (SOk.u8 (List.length_replicate ..)) SsOk.nil) rfl (fun b_7 w_8 h_9 => ?_)
  refine WL.q (Wn.no rfl) rfl rfl (R.assign (v := (vi 0)) rfl) ?_
  refine WL.nil ?_
  refine thn_n ?_
  refine WP.seq ?_
  refine WP.drawT (SL w.heap.size [.blk b_7 .nw 29 [(32, (List.replicate 32 (0 : UInt8)).map vu8)], .blk b_4 .nw 54 [(1, [(vi 0)]), (32, (List.replicate 32 (0 : UInt8)).map vu8), (1, [(vi 0)]), (128, (List.replicate 128 (0 : UInt8)).map vu8), (1, [(vu64 0)]), (8, (List.replicate 8 (0 : UInt64)).map vu64), (1, [(.bool false)])], .blk b_1 .nw 29 [(32, md.map vu8)]]) (.q 1 (.q 2 (.s 0 (.s 3 (.q 4 .nil))))) (by kernel_rfl) (by kernel_rfl) rfl (by kernel_rfl) (fun w_10 hc_12 => (SL.cons ((h_9.same hc_12).ok _ (.head _)) (SL.cons ((h_9.same hc_12).ok _ (.tail _ (.head _))) (SL.cons ((h_9.same hc_12).ok _ (.tail _ (.tail _ (.head _)))) (SL.nil _ _))))) (fun w_10 hc_12 => ?_)
  have h_11 := h_9.same hc_12
  refine WT.q rfl (Wn.no rfl) rfl rfl (fun wq hS => R.fieldAddr (b := b_4) (off := 0) (off' := 0) rfl Try.underlying54 rfl Try.sizeOf52 rfl rfl) ?_
  refine WT.q rfl (Wn.no rfl) rfl rfl (fun wq hS => R.load1 (b := b_4) (off := 0) (v := (vi 0)) rfl Try.isAgg52 (hS _ (.tail _ (.head _))) Sg.h) ?_
  refine WT.s ?_
  refine Op1.one rfl (Wn.no rfl) ?_
  refine WL.call (al := []) Try.call50 rfl rfl (c_addings _) rfl ?_
  rintro _ w_14 ⟨b_13, rfl, hc_15, hm_16, hb_17⟩
  have h_18 := h_11.pushObj hc_15 hm_16 hb_17
  refine WL.nil ?_
  refine ⟨(SL.cons (h_18.ok _ (.tail _ (.head _))) (SL.cons (h_18.ok _ (.tail _ (.tail _ (.head _)))) (SL.cons (h_18.ok _ (.tail _ (.tail _ (.tail _ (.head _))))) (SL.nil _ _)))), ?_⟩
  refine WT.s ?_
  refine Op1.one rfl (Wn.no rfl) ?_
  refine WL.q (Wn.no rfl) rfl rfl (R.lookup1 (r := none) (z := .nilFunc) (v := .nilFunc) rfl rfl Try.underlying100 (h_18.ok _ (.head _)) (Ck.int Try.underlying52) (Fk.int Try.underlying52 rfl) (zv Try.typeInfo99 rfl) rfl) ?_
  refine WL.nil ?_
  refine ⟨(SL.cons (h_18.ok _ (.tail _ (.head _))) (SL.cons (h_18.ok _ (.tail _ (.tail _ (.head _)))) (SL.cons (h_18.ok _ (.tail _ (.tail _ (.tail _ (.head _))))) (SL.nil _ _)))), ?_⟩
  refine WT.q rfl (Wn.no rfl) rfl rfl (fun wq hS => R.assign (v := .nilFunc) rfl) ?_
  refine WT.nil ?_
  refine thn_n ?_
  refine WP.seq ?_
  refine WP.block ?_
  refine WP.seq ?_
  refine WP.reg ?_
  refine WL.q (Wn.no rfl) rfl rfl (R.move (v := (.pointer none)) rfl) ?_
  refine WL.call (al := [(.pointer none)]) Try.call47 rfl rfl (c_mth_nil  _ ) rfl ?_
  rintro _ w_20 ⟨rfl, hc_19⟩
  have h_21 := h_18.same hc_19
  refine WL.q (Wn.no rfl) rfl rfl (R.not (b := false) rfl) ?_
  refine WL.q (Wn.no rfl) rfl rfl (R.assign (v := (.bool true)) rfl) ?_
  refine WL.nil ?_
  refine thn_n ?_
  refine WP.condT rfl ?_
  refine WP.seq ?_
  refine WP.reg ?_
  refine WL.q (Wn.no rfl) rfl rfl (R.buildA (vs := []) (cs := (List.replicate 32 (0 : UInt8)).map vu8) Try.underlying29 Try.sizeOf5 (zv Try.typeInfo29 rfl) rfl rfl) ?_
  refine WL.storeA (b := b_7) (off := 0) [] [(32, (List.replicate 32 (0 : UInt8)).map vu8)] [(32, (List.replicate 32 (0 : UInt8)).map vu8)] [] (ys := (List.replicate 32 (0 : UInt8)).map vu8) h_21 rfl rfl Try.sizeOf29 (At.t At.h) (by decide) rfl rfl rfl rfl rfl rfl (SsOk.cons (SOk.u8 (List.length_replicate ..)) SsOk.nil) (fun w_22 h_23 => ?_)
  refine WL.q (Wn.no rfl) rfl rfl (R.assign (v := (vi 1)) rfl) ?_
  refine WL.nil ?_
  refine thn_n ?_
  refine WP.ret ?_
  refine inb_r ?_
  refine thn_r ?_
  refine ret_of Try.results19 (RV.cell rfl (h_23.loadA (cs := (List.replicate 32 (0 : UInt8)).map vu8) Try.isAgg29 Try.sizeOf29 (.tail _ (.head _)) rfl rfl) (RV.tmp (v := (vi 1)) rfl RV.nil)) ?_
  exact ⟨rfl, h_23.chgS⟩

theorem c_num12 (e : Int) (be : -9223372036854775808 ≤ e ∧ e < 9223372036854775808) (w : World) :
    Cs Try.prog 14 [(vi e)].toArray w (fun v w1 => v = vi e ∧ Chg w w1 []) := by
  refine Cs.of (n := 4) (args := [(vi e)]) Try.func14 rfl rfl rfl ?_
  have h_0 := HP.init w
  refine WP.seq ?_
  refine WP.reg ?_
  refine WL.q (Wn.no rfl) rfl rfl (R.assign (v := (vi 0)) rfl) ?_
  refine WL.nil ?_
  refine thn_n ?_
  refine WP.seq ?_
  refine WP.reg ?_
  refine WL.q (Wn.no rfl) rfl rfl (R.move (v := (vi e)) rfl) ?_
  refine WL.q (Wn.no rfl) rfl rfl (R.assign (v := (vi e)) rfl) ?_
  refine WL.nil ?_
  refine thn_n ?_
  refine WP.ret ?_
  refine ret_of Try.results14 (RV.tmp (v := (vi e)) rfl RV.nil) ?_
  exact ⟨rfl, h_0.chgS⟩

theorem c_dr1  (w : World) :
    Cs Try.prog 21 [(vu8 1)].toArray w (fun v w1 => v = (.agg ⟨([1, 0, 0, 0, 0, 0, 0, 0, 0, 0, 0, 0, 0, 0, 0, 0, 0, 0, 0, 0, 0, 0, 0, 0, 0, 0, 0, 0, 0, 0, 0, 2] : List UInt8).map vu8⟩) ∧ Chg w w1 []) := by
  refine Cs.of (n := 5) (args := [(vu8 1)]) Try.func21 rfl rfl rfl ?_
  have h_0 := HP.init w
  refine WP.seq ?_
  refine WP.reg ?_
  refine WL.alloc (segs := [(32, (List.replicate 32 (0 : UInt8)).map vu8)]) h_0 (zv Try.typeInfo29 rfl) rfl (SsOk.cons (SOk.u8 (List.length_replicate ..)) SsOk.nil) rfl (fun b_1 w_2 h_3 => ?_)
  refine WL.nil ?_
  refine thn_n ?_
  refine WP.seq ?_
  refine WP.reg ?_
  refine WL.q (Wn.no rfl) rfl rfl (R.move (v := (vu8 1)) rfl) ?_
  refine WL.q (Wn.no rfl) rfl rfl (R.buildA (vs := [(0, (vu8 1)), (31, (vu8 2))]) (cs := ([1, 0, 0, 0, 0, 0, 0, 0, 0, 0, 0, 0, 0, 0, 0, 0, 0, 0, 0, 0, 0, 0, 0, 0, 0, 0, 0, 0, 0, 0, 0, 2] : List UInt8).map vu8) Try.underlying29 Try.sizeOf5 (zv Try.typeInfo29 rfl) rfl rfl) ?_
  refine WL.storeA (b := b_1) (off := 0) [] [(32, (List.replicate 32 (0 : UInt8)).map vu8)] [(32, ([1, 0, 0, 0, 0, 0, 0, 0, 0, 0, 0, 0, 0, 0, 0, 0, 0, 0, 0, 0, 0, 0, 0, 0, 0, 0, 0, 0, 0, 0, 0, 2] : List UInt8).map vu8)] [] (ys := ([1, 0, 0, 0, 0, 0, 0, 0, 0, 0, 0, 0, 0, 0, 0, 0, 0, 0, 0, 0, 0, 0, 0, 0, 0, 0, 0, 0, 0, 0, 0, 2] : List UInt8).map vu8) h_3 rfl rfl Try.sizeOf29 At.h (by decide) rfl rfl rfl rfl rfl rfl (SsOk.cons (SOk.u8 (rfl : List.length ([1, 0, 0, 0, 0, 0, 0, 0, 0, 0, 0, 0, 0, 0, 0, 0, 0, 0, 0, 0, 0, 0, 0, 0, 0, 0, 0, 0, 0, 0, 0, 2] : List UInt8) = 32)) SsOk.nil) (fun w_4 h_5 => ?_)
  refine WL.nil ?_
  refine thn_n ?_
  refine WP.ret ?_
  refine ret_of Try.results21 (RV.cell rfl (h_5.loadA (cs := ([1, 0, 0, 0, 0, 0, 0, 0, 0, 0, 0, 0, 0, 0, 0, 0, 0, 0, 0, 0, 0, 0, 0, 0, 0, 0, 0, 0, 0, 0, 0, 2] : List UInt8).map vu8) Try.isAgg29 Try.sizeOf29 (.head _) rfl rfl) RV.nil) ?_
  exact ⟨rfl, h_5.chgS⟩

theorem c_dr2  (w : World) :
    Cs Try.prog 21 [(vu8 2)].toArray w (fun v w1 => v = (.agg ⟨([2, 0, 0, 0, 0, 0, 0, 0, 0, 0, 0, 0, 0, 0, 0, 0, 0, 0, 0, 0, 0, 0, 0, 0, 0, 0, 0, 0, 0, 0, 0, 2] : List UInt8).map vu8⟩) ∧ Chg w w1 []) := by
  refine Cs.of (n := 5) (args := [(vu8 2)]) Try.func21 rfl rfl rfl ?_
  have h_0 := HP.init w
  refine WP.seq ?_
  refine WP.reg ?_
  refine WL.alloc (segs := [(32, (List.replicate 32 (0 : UInt8)).map vu8)]) h_0 (zv Try.typeInfo29 rfl) rfl (SsOk.cons (SOk.u8 (List.length_replicate ..)) SsOk.nil) rfl (fun b_1 w_2 h_3 => ?_)
  refine WL.nil ?_
  refine thn_n ?_
  refine WP.seq ?_
  refine WP.reg ?_
  refine WL.q (Wn.no rfl) rfl rfl (R.move (v := (vu8 2)) rfl) ?_
  refine WL.q (Wn.no rfl) rfl rfl (R.buildA (vs := [(0, (vu8 2)), (31, (vu8 2))]) (cs := ([2, 0, 0, 0, 0, 0, 0, 0, 0, 0, 0, 0, 0, 0, 0, 0, 0, 0, 0, 0, 0, 0, 0, 0, 0, 0, 0, 0, 0, 0, 0, 2] : List UInt8).map vu8) Try.underlying29 Try.sizeOf5 (zv Try.typeInfo29 rfl) rfl rfl) ?_
  refine WL.storeA (b := b_1) (off := 0) [] [(32, (List.replicate 32 (0 : UInt8)).map vu8)] [(32, ([2, 0, 0, 0, 0, 0, 0, 0, 0, 0, 0, 0, 0, 0, 0, 0, 0, 0, 0, 0, 0, 0, 0, 0, 0, 0, 0, 0, 0, 0, 0, 2] : List UInt8).map vu8)] [] (ys := ([2, 0, 0, 0, 0, 0, 0, 0, 0, 0, 0, 0, 0, 0, 0, 0, 0, 0, 0, 0, 0, 0, 0, 0, 0, 0, 0, 0, 0, 0, 0, 2] : List UInt8).map vu8) h_3 rfl rfl Try.sizeOf29 At.h (by decide) rfl rfl rfl rfl rfl rfl (SsOk.cons (SOk.u8 (rfl : List.length ([2, 0, 0, 0, 0, 0, 0, 0, 0, 0, 0, 0, 0, 0, 0, 0, 0, 0, 0, 0, 0, 0, 0, 0, 0, 0, 0, 0, 0, 0, 0, 2] : List UInt8) = 32)) SsOk.nil) (fun w_4 h_5 => ?_)
  refine WL.nil ?_
  refine thn_n ?_
  refine WP.ret ?_
  refine ret_of Try.results21 (RV.cell rfl (h_5.loadA (cs := ([2, 0, 0, 0, 0, 0, 0, 0, 0, 0, 0, 0, 0, 0, 0, 0, 0, 0, 0, 0, 0, 0, 0, 0, 0, 0, 0, 0, 0, 0, 0, 2] : List UInt8).map vu8) Try.isAgg29 Try.sizeOf29 (.head _) rfl rfl) RV.nil) ?_
  exact ⟨rfl, h_5.chgS⟩

theorem c_known12  (w : World) :
    Cs Try.prog 10 [].toArray w (fun v w1 => v = .bool true ∧ Chg w w1 []) := by
  refine Cs.of (n := 80) (args := []) Try.func10 rfl rfl rfl ?_
  have h_0 := HP.init w
  refine WP.seq ?_
  refine WP.reg ?_
  refine WL.q (Wn.no rfl) rfl rfl (R.assign (v := (.bool false)) rfl) ?_
  refine WL.nil ?_
  refine thn_n ?_
  refine WP.seq ?_
  refine WP.reg ?_
  refine WL.q (Wn.no rfl) rfl rfl (R.buildA (vs := []) (cs := (List.replicate 32 (0 : UInt8)).map vu8) Try.underlying29 Try.sizeOf5 (zv Try.typeInfo29 rfl) rfl rfl) ?_
  refine WL.call (al := [(vu8 1)]) Try.call21 rfl rfl (c_dr1  _ ) rfl ?_
  rintro _ w_2 ⟨rfl, hc_1⟩
  have h_3 := h_0.same hc_1
  refine WL.call (al := [(vu8 2)]) Try.call21 rfl rfl (c_dr2  _ ) rfl ?_
  rintro _ w_5 ⟨rfl, hc_4⟩
  have h_6 := h_3.same hc_4
  refine WL.buildSl (vs := [(0, (.agg ⟨([1, 0, 0, 0, 0, 0, 0, 0, 0, 0, 0, 0, 0, 0, 0, 0, 0, 0, 0, 0, 0, 0, 0, 0, 0, 0, 0, 0, 0, 0, 0, 2] : List UInt8).map vu8⟩)), (1, (.agg ⟨([2, 0, 0, 0, 0, 0, 0, 0, 0, 0, 0, 0, 0, 0, 0, 0, 0, 0, 0, 0, 0, 0, 0, 0, 0, 0, 0, 0, 0, 0, 0, 2] : List UInt8).map vu8⟩))]) (cs := (([1, 0, 0, 0, 0, 0, 0, 0, 0, 0, 0, 0, 0, 0, 0, 0, 0, 0, 0, 0, 0, 0, 0, 0, 0, 0, 0, 0, 0, 0, 0, 2] : List UInt8) ++ ([2, 0, 0, 0, 0, 0, 0, 0, 0, 0, 0, 0, 0, 0, 0, 0, 0, 0, 0, 0, 0, 0, 0, 0, 0, 0, 0, 0, 0, 0, 0, 2] : List UInt8)).map vu8) h_6 Try.underlying22 Try.sizeOf29 (zv Try.typeInfo29 rfl) rfl rfl (fill_2 (by kernel_rfl) (rfl : List.length ([1, 0, 0, 0, 0, 0, 0, 0, 0, 0, 0, 0, 0, 0, 0, 0, 0, 0, 0, 0, 0, 0, 0, 0, 0, 0, 0, 0, 0, 0, 0, 2] : List UInt8) = 32) (rfl : List.length ([2, 0, 0, 0, 0, 0, 0, 0, 0, 0, 0, 0, 0, 0, 0, 0, 0, 0, 0, 0, 0, 0, 0, 0, 0, 0, 0, 0, 0, 0, 0, 2] : List UInt8) = 32)) (len_map (show List.length (([1, 0, 0, 0, 0, 0, 0, 0, 0, 0, 0, 0, 0, 0, 0, 0, 0, 0, 0, 0, 0, 0, 0, 0, 0, 0, 0, 0, 0, 0, 0, 2] : List UInt8) ++ ([2, 0, 0, 0, 0, 0, 0, 0, 0, 0, 0, 0, 0, 0, 0, 0, 0, 0, 0, 0, 0, 0, 0, 0, 0, 0, 0, 0, 0, 0, 0, 2] : List UInt8)) = 2 * 32 from rfl)) (one_u8 _) rfl rfl (fun b_7 w_8 h_9 => ?_)
  have h_10 := HP.blkRow (m := 2) (s := 32) h_9 At.h rfl (by simp only [maxLen]; decide)
  have h_11 := h_10.rowView
  refine WL.call (al := [(.bool true), (.agg ⟨(List.replicate 32 (0 : UInt8)).map vu8⟩), (.slice (some ⟨b_7, 0, none⟩) 2 2)]) Try.call12 rfl rfl (c_ONew (List.replicate 32 (0 : UInt8)) (([1, 0, 0, 0, 0, 0, 0, 0, 0, 0, 0, 0, 0, 0, 0, 0, 0, 0, 0, 0, 0, 0, 0, 0, 0, 0, 0, 0, 0, 0, 0, 2] : List UInt8) ++ ([2, 0, 0, 0, 0, 0, 0, 0, 0, 0, 0, 0, 0, 0, 0, 0, 0, 0, 0, 0, 0, 0, 0, 0, 0, 0, 0, 0, 0, 0, 0, 2] : List UInt8)) (List.length_replicate ..) (some ⟨b_7, 0, none⟩) 2 2 (rfl : List.length (([1, 0, 0, 0, 0, 0, 0, 0, 0, 0, 0, 0, 0, 0, 0, 0, 0, 0, 0, 0, 0, 0, 0, 0, 0, 0, 0, 0, 0, 0, 0, 2] : List UInt8) ++ ([2, 0, 0, 0, 0, 0, 0, 0, 0, 0, 0, 0, 0, 0, 0, 0, 0, 0, 0, 0, 0, 0, 0, 0, 0, 0, 0, 0, 0, 0, 0, 2] : List UInt8)) = 64) (by decide) _ h_11) rfl ?_
  rintro _ w_16 ⟨b_12, b_13, a_14, c_15, rfl, h_17⟩
  refine WL.q (Wn.no rfl) rfl rfl (R.assign (v := (.pointer (some ⟨b_12, 0, none⟩))) rfl) ?_
  refine WL.nil ?_
  refine thn_n ?_
  refine WP.seq ?_
  refine WP.reg ?_
  refine WL.q (Wn.no rfl) rfl rfl (R.move (v := (.pointer (some ⟨b_12, 0, none⟩))) rfl) ?_
  refine WL.q (Wn.no rfl) rfl rfl (R.buildS (pl := [(0, 32), (32, 1)]) (zs := [(32, (List.replicate 32 (0 : UInt8)).map vu8), (1, [(vu64 0)])]) (vs := []) (out := [(32, (List.replicate 32 (0 : UInt8)).map vu8), (1, [(vu64 0)])]) (cs := flat [(32, (List.replicate 32 (0 : UInt8)).map vu8), (1, [(vu64 0)])]) Try.underlying39 (zv Try.typeInfo39 rfl) rfl (SsOk.cons (SOk.u8 (List.length_replicate ..)) (SsOk.cons (SOk.v rfl) SsOk.nil)) (pl39 _ Try.underlying39) rfl FillR.nil rfl) ?_
  have h_19 := h_17.up (Pick.t (Pick.t (Pick.t (Pick.t Pick.h))))
  have h_20 := h_19.up (Pick.t (Pick.t (Pick.t (Pick.t Pick.h))))
  have h_21 := h_20.up (Pick.t (Pick.t (Pick.t (Pick.t Pick.h))))
  have h_22 := h_21.up (Pick.t (Pick.t (Pick.t (Pick.t Pick.h))))
  have h_23 := h_22.up (Pick.t (Pick.t (Pick.t (Pick.t Pick.h))))
  have h32_w_27 := Lgs.ok32 (h_23.ok _ (.tail _ (.tail _ (.tail _ (.head _))))).1
  refine WL.call (al := [(.pointer (some ⟨b_12, 0, none⟩)), (.agg ⟨flat [(32, (List.replicate 32 (0 : UInt8)).map vu8), (1, [(vu64 0)])]⟩)]) Try.call16 rfl rfl (c_Begin b_12 b_13 (List.replicate 32 (0 : UInt8)) (([1, 0, 0, 0, 0, 0, 0, 0, 0, 0, 0, 0, 0, 0, 0, 0, 0, 0, 0, 0, 0, 0, 0, 0, 0, 0, 0, 0, 0, 0, 0, 2] : List UInt8) ++ ([2, 0, 0, 0, 0, 0, 0, 0, 0, 0, 0, 0, 0, 0, 0, 0, 0, 0, 0, 0, 0, 0, 0, 0, 0, 0, 0, 0, 0, 0, 0, 2] : List UInt8)) (List.length_replicate ..) a_14 2 c_15 0 (rfl : List.length (([1, 0, 0, 0, 0, 0, 0, 0, 0, 0, 0, 0, 0, 0, 0, 0, 0, 0, 0, 0, 0, 0, 0, 0, 0, 0, 0, 0, 0, 0, 0, 2] : List UInt8) ++ ([2, 0, 0, 0, 0, 0, 0, 0, 0, 0, 0, 0, 0, 0, 0, 0, 0, 0, 0, 0, 0, 0, 0, 0, 0, 0, 0, 0, 0, 0, 0, 2] : List UInt8)) = 64) none 0 [] ([] : Lg) (by decide) (by decide) (List.replicate 32 (0 : UInt8)) (List.length_replicate ..) (0 : UInt64) _ h_23) rfl ?_
  rintro _ w_27 ⟨la_24, lc_25, lx_26, rfl, h_28⟩
  refine WL.q (Wn.no rfl) rfl rfl (R.move (v := (.tuple [(.agg ⟨(ansD (([1, 0, 0, 0, 0, 0, 0, 0, 0, 0, 0, 0, 0, 0, 0, 0, 0, 0, 0, 0, 0, 0, 0, 0, 0, 0, 0, 0, 0, 0, 0, 2] : List UInt8) ++ ([2, 0, 0, 0, 0, 0, 0, 0, 0, 0, 0, 0, 0, 0, 0, 0, 0, 0, 0, 0, 0, 0, 0, 0, 0, 0, 0, 0, 0, 0, 0, 2] : List UInt8)) 2 0 ([] : Lg) (1, (List.replicate 32 (0 : UInt8)), 1, [List.replicate 32 (0 : UInt8)].flatten)).map vu8⟩), (vi 0)].toArray)) rfl) ?_
  refine WL.q (Wn.no rfl) rfl rfl (R.extract (l := [(.agg ⟨(ansD (([1, 0, 0, 0, 0, 0, 0, 0, 0, 0, 0, 0, 0, 0, 0, 0, 0, 0, 0, 0, 0, 0, 0, 0, 0, 0, 0, 0, 0, 0, 0, 2] : List UInt8) ++ ([2, 0, 0, 0, 0, 0, 0, 0, 0, 0, 0, 0, 0, 0, 0, 0, 0, 0, 0, 0, 0, 0, 0, 0, 0, 0, 0, 0, 0, 0, 0, 2] : List UInt8)) 2 0 ([] : Lg) (1, (List.replicate 32 (0 : UInt8)), 1, [List.replicate 32 (0 : UInt8)].flatten)).map vu8⟩), (vi 0)]) (v := (.agg ⟨(ansD (([1, 0, 0, 0, 0, 0, 0, 0, 0, 0, 0, 0, 0, 0, 0, 0, 0, 0, 0, 0, 0, 0, 0, 0, 0, 0, 0, 0, 0, 0, 0, 2] : List UInt8) ++ ([2, 0, 0, 0, 0, 0, 0, 0, 0, 0, 0, 0, 0, 0, 0, 0, 0, 0, 0, 0, 0, 0, 0, 0, 0, 0, 0, 0, 0, 0, 0, 2] : List UInt8)) 2 0 ([] : Lg) (1, (List.replicate 32 (0 : UInt8)), 1, [List.replicate 32 (0 : UInt8)].flatten)).map vu8⟩)) rfl rfl) ?_
  refine WL.q (Wn.no rfl) rfl rfl (R.extract (l := [(.agg ⟨(ansD (([1, 0, 0, 0, 0, 0, 0, 0, 0, 0, 0, 0, 0, 0, 0, 0, 0, 0, 0, 0, 0, 0, 0, 0, 0, 0, 0, 0, 0, 0, 0, 2] : List UInt8) ++ ([2, 0, 0, 0, 0, 0, 0, 0, 0, 0, 0, 0, 0, 0, 0, 0, 0, 0, 0, 0, 0, 0, 0, 0, 0, 0, 0, 0, 0, 0, 0, 2] : List UInt8)) 2 0 ([] : Lg) (1, (List.replicate 32 (0 : UInt8)), 1, [List.replicate 32 (0 : UInt8)].flatten)).map vu8⟩), (vi 0)]) (v := (vi 0)) rfl rfl) ?_
  refine WL.alloc (segs := [(32, (List.replicate 32 (0 : UInt8)).map vu8)]) h_28 (zv Try.typeInfo29 rfl) rfl (SsOk.cons (SOk.u8 (List.length_replicate ..)) SsOk.nil) rfl (fun b_29 w_30 h_31 => ?_)
  refine WL.storeA (b := b_29) (off := 0) [] [(32, (List.replicate 32 (0 : UInt8)).map vu8)] [(32, (ansD (([1, 0, 0, 0, 0, 0, 0, 0, 0, 0, 0, 0, 0, 0, 0, 0, 0, 0, 0, 0, 0, 0, 0, 0, 0, 0, 0, 0, 0, 0, 0, 2] : List UInt8) ++ ([2, 0, 0, 0, 0, 0, 0, 0, 0, 0, 0, 0, 0, 0, 0, 0, 0, 0, 0, 0, 0, 0, 0, 0, 0, 0, 0, 0, 0, 0, 0, 2] : List UInt8)) 2 0 ([] : Lg) (1, (List.replicate 32 (0 : UInt8)), 1, [List.replicate 32 (0 : UInt8)].flatten)).map vu8)] [] (ys := (ansD (([1, 0, 0, 0, 0, 0, 0, 0, 0, 0, 0, 0, 0, 0, 0, 0, 0, 0, 0, 0, 0, 0, 0, 0, 0, 0, 0, 0, 0, 0, 0, 2] : List UInt8) ++ ([2, 0, 0, 0, 0, 0, 0, 0, 0, 0, 0, 0, 0, 0, 0, 0, 0, 0, 0, 0, 0, 0, 0, 0, 0, 0, 0, 0, 0, 0, 0, 2] : List UInt8)) 2 0 ([] : Lg) (1, (List.replicate 32 (0 : UInt8)), 1, [List.replicate 32 (0 : UInt8)].flatten)).map vu8) h_31 rfl rfl Try.sizeOf29 At.h (by decide) rfl rfl rfl rfl rfl rfl (SsOk.cons (SOk.u8 (ansD_len (rfl : List.length (([1, 0, 0, 0, 0, 0, 0, 0, 0, 0, 0, 0, 0, 0, 0, 0, 0, 0, 0, 0, 0, 0, 0, 0, 0, 0, 0, 0, 0, 0, 0, 2] : List UInt8) ++ ([2, 0, 0, 0, 0, 0, 0, 0, 0, 0, 0, 0, 0, 0, 0, 0, 0, 0, 0, 0, 0, 0, 0, 0, 0, 0, 0, 0, 0, 0, 0, 2] : List UInt8)) = 64) h32_w_27)) SsOk.nil) (fun w_32 h_33 => ?_)
  refine WL.q (Wn.no rfl) rfl rfl (R.assign (v := (vi 0)) rfl) ?_
  refine WL.nil ?_
  refine thn_n ?_
  refine WP.seq ?_
  refine WP.reg ?_
  refine WL.q (Wn.no rfl) rfl rfl (R.move (v := (.pointer (some ⟨b_12, 0, none⟩))) rfl) ?_
  refine WL.q (Wn.no rfl) rfl rfl (R.loadA (b := b_29) (off := 0) [] [(32, (ansD (([1, 0, 0, 0, 0, 0, 0, 0, 0, 0, 0, 0, 0, 0, 0, 0, 0, 0, 0, 0, 0, 0, 0, 0, 0, 0, 0, 0, 0, 0, 0, 2] : List UInt8) ++ ([2, 0, 0, 0, 0, 0, 0, 0, 0, 0, 0, 0, 0, 0, 0, 0, 0, 0, 0, 0, 0, 0, 0, 0, 0, 0, 0, 0, 0, 0, 0, 2] : List UInt8)) 2 0 ([] : Lg) (1, (List.replicate 32 (0 : UInt8)), 1, [List.replicate 32 (0 : UInt8)].flatten)).map vu8)] [] (cs := (ansD (([1, 0, 0, 0, 0, 0, 0, 0, 0, 0, 0, 0, 0, 0, 0, 0, 0, 0, 0, 0, 0, 0, 0, 0, 0, 0, 0, 0, 0, 0, 0, 2] : List UInt8) ++ ([2, 0, 0, 0, 0, 0, 0, 0, 0, 0, 0, 0, 0, 0, 0, 0, 0, 0, 0, 0, 0, 0, 0, 0, 0, 0, 0, 0, 0, 0, 0, 2] : List UInt8)) 2 0 ([] : Lg) (1, (List.replicate 32 (0 : UInt8)), 1, [List.replicate 32 (0 : UInt8)].flatten)).map vu8) rfl Try.isAgg29 Try.sizeOf29 (h_33.ok _ (.head _)) rfl rfl rfl rfl) ?_
  refine WL.q (Wn.no rfl) rfl rfl (R.buildA (vs := []) (cs := (List.replicate 128 (0 : UInt8)).map vu8) Try.underlying42 Try.sizeOf5 (zv Try.typeInfo42 rfl) rfl rfl) ?_
  have h_34 := h_33.up (Pick.t (Pick.t (Pick.t (Pick.t (Pick.t Pick.h)))))
  have h_35 := h_34.up (Pick.t (Pick.t (Pick.t (Pick.t (Pick.t Pick.h)))))
  have h_36 := h_35.up (Pick.t (Pick.t (Pick.t (Pick.t (Pick.t Pick.h)))))
  have h_37 := h_36.up (Pick.t (Pick.t (Pick.t (Pick.t (Pick.t Pick.h)))))
  have h_38 := h_37.up (Pick.t (Pick.t (Pick.t (Pick.t (Pick.t Pick.h)))))
  have h32_w_42 := Lgs.ok32 (h_38.ok _ (.tail _ (.tail _ (.tail _ (.head _))))).1
  refine WL.call (al := [(.pointer (some ⟨b_12, 0, none⟩)), (.agg ⟨(ansD (([1, 0, 0, 0, 0, 0, 0, 0, 0, 0, 0, 0, 0, 0, 0, 0, 0, 0, 0, 0, 0, 0, 0, 0, 0, 0, 0, 0, 0, 0, 0, 2] : List UInt8) ++ ([2, 0, 0, 0, 0, 0, 0, 0, 0, 0, 0, 0, 0, 0, 0, 0, 0, 0, 0, 0, 0, 0, 0, 0, 0, 0, 0, 0, 0, 0, 0, 2] : List UInt8)) 2 0 ([] : Lg) (1, (List.replicate 32 (0 : UInt8)), 1, [List.replicate 32 (0 : UInt8)].flatten)).map vu8⟩), (vi 3), (.agg ⟨(List.replicate 128 (0 : UInt8)).map vu8⟩)]) Try.call17 rfl rfl (c_Data b_12 b_13 (List.replicate 32 (0 : UInt8)) (([1, 0, 0, 0, 0, 0, 0, 0, 0, 0, 0, 0, 0, 0, 0, 0, 0, 0, 0, 0, 0, 0, 0, 0, 0, 0, 0, 0, 0, 0, 0, 2] : List UInt8) ++ ([2, 0, 0, 0, 0, 0, 0, 0, 0, 0, 0, 0, 0, 0, 0, 0, 0, 0, 0, 0, 0, 0, 0, 0, 0, 0, 0, 0, 0, 0, 0, 2] : List UInt8)) (List.length_replicate ..) a_14 2 c_15 (ansU 0 ([] : Lg) (1, (List.replicate 32 (0 : UInt8)), 1, [List.replicate 32 (0 : UInt8)].flatten)) (rfl : List.length (([1, 0, 0, 0, 0, 0, 0, 0, 0, 0, 0, 0, 0, 0, 0, 0, 0, 0, 0, 0, 0, 0, 0, 0, 0, 0, 0, 0, 0, 0, 0, 2] : List UInt8) ++ ([2, 0, 0, 0, 0, 0, 0, 0, 0, 0, 0, 0, 0, 0, 0, 0, 0, 0, 0, 0, 0, 0, 0, 0, 0, 0, 0, 0, 0, 0, 0, 2] : List UInt8)) = 64) la_24 lc_25 lx_26 (ansL (([1, 0, 0, 0, 0, 0, 0, 0, 0, 0, 0, 0, 0, 0, 0, 0, 0, 0, 0, 0, 0, 0, 0, 0, 0, 0, 0, 0, 0, 0, 0, 2] : List UInt8) ++ ([2, 0, 0, 0, 0, 0, 0, 0, 0, 0, 0, 0, 0, 0, 0, 0, 0, 0, 0, 0, 0, 0, 0, 0, 0, 0, 0, 0, 0, 0, 0, 2] : List UInt8)) 2 0 ([] : Lg) (1, (List.replicate 32 (0 : UInt8)), 1, [List.replicate 32 (0 : UInt8)].flatten)) (by decide) (by decide) (ansD (([1, 0, 0, 0, 0, 0, 0, 0, 0, 0, 0, 0, 0, 0, 0, 0, 0, 0, 0, 0, 0, 0, 0, 0, 0, 0, 0, 0, 0, 0, 0, 2] : List UInt8) ++ ([2, 0, 0, 0, 0, 0, 0, 0, 0, 0, 0, 0, 0, 0, 0, 0, 0, 0, 0, 0, 0, 0, 0, 0, 0, 0, 0, 0, 0, 0, 0, 2] : List UInt8)) 2 0 ([] : Lg) (1, (List.replicate 32 (0 : UInt8)), 1, [List.replicate 32 (0 : UInt8)].flatten)) (List.replicate 128 (0 : UInt8)) (ansD_len (rfl : List.length (([1, 0, 0, 0, 0, 0, 0, 0, 0, 0, 0, 0, 0, 0, 0, 0, 0, 0, 0, 0, 0, 0, 0, 0, 0, 0, 0, 0, 0, 0, 0, 2] : List UInt8) ++ ([2, 0, 0, 0, 0, 0, 0, 0, 0, 0, 0, 0, 0, 0, 0, 0, 0, 0, 0, 0, 0, 0, 0, 0, 0, 0, 0, 0, 0, 0, 0, 2] : List UInt8)) = 64) h32_w_27) (List.length_replicate ..) 3 (by omega) _ h_38) rfl ?_
  rintro _ w_42 ⟨la_39, lc_40, lx_41, rfl, h_43⟩
  refine WL.q (Wn.no rfl) rfl rfl (R.move (v := (.tuple [(.agg ⟨(ansD (([1, 0, 0, 0, 0, 0, 0, 0, 0, 0, 0, 0, 0, 0, 0, 0, 0, 0, 0, 0, 0, 0, 0, 0, 0, 0, 0, 0, 0, 0, 0, 2] : List UInt8) ++ ([2, 0, 0, 0, 0, 0, 0, 0, 0, 0, 0, 0, 0, 0, 0, 0, 0, 0, 0, 0, 0, 0, 0, 0, 0, 0, 0, 0, 0, 0, 0, 2] : List UInt8)) 2 (ansU 0 ([] : Lg) (1, (List.replicate 32 (0 : UInt8)), 1, [List.replicate 32 (0 : UInt8)].flatten)) (ansL (([1, 0, 0, 0, 0, 0, 0, 0, 0, 0, 0, 0, 0, 0, 0, 0, 0, 0, 0, 0, 0, 0, 0, 0, 0, 0, 0, 0, 0, 0, 0, 2] : List UInt8) ++ ([2, 0, 0, 0, 0, 0, 0, 0, 0, 0, 0, 0, 0, 0, 0, 0, 0, 0, 0, 0, 0, 0, 0, 0, 0, 0, 0, 0, 0, 0, 0, 2] : List UInt8)) 2 0 ([] : Lg) (1, (List.replicate 32 (0 : UInt8)), 1, [List.replicate 32 (0 : UInt8)].flatten)) (1, (List.replicate 32 (0 : UInt8)), 2, [ansD (([1, 0, 0, 0, 0, 0, 0, 0, 0, 0, 0, 0, 0, 0, 0, 0, 0, 0, 0, 0, 0, 0, 0, 0, 0, 0, 0, 0, 0, 0, 0, 2] : List UInt8) ++ ([2, 0, 0, 0, 0, 0, 0, 0, 0, 0, 0, 0, 0, 0, 0, 0, 0, 0, 0, 0, 0, 0, 0, 0, 0, 0, 0, 0, 0, 0, 0, 2] : List UInt8)) 2 0 ([] : Lg) (1, (List.replicate 32 (0 : UInt8)), 1, [List.replicate 32 (0 : UInt8)].flatten), leN 8 (UInt64.ofNat 3).toNat, List.replicate 128 (0 : UInt8)].flatten)).map vu8⟩), (vi 0)].toArray)) rfl) ?_
  refine WL.q (Wn.no rfl) rfl rfl (R.extract (l := [(.agg ⟨(ansD (([1, 0, 0, 0, 0, 0, 0, 0, 0, 0, 0, 0, 0, 0, 0, 0, 0, 0, 0, 0, 0, 0, 0, 0, 0, 0, 0, 0, 0, 0, 0, 2] : List UInt8) ++ ([2, 0, 0, 0, 0, 0, 0, 0, 0, 0, 0, 0, 0, 0, 0, 0, 0, 0, 0, 0, 0, 0, 0, 0, 0, 0, 0, 0, 0, 0, 0, 2] : List UInt8)) 2 (ansU 0 ([] : Lg) (1, (List.replicate 32 (0 : UInt8)), 1, [List.replicate 32 (0 : UInt8)].flatten)) (ansL (([1, 0, 0, 0, 0, 0, 0, 0, 0, 0, 0, 0, 0, 0, 0, 0, 0, 0, 0, 0, 0, 0, 0, 0, 0, 0, 0, 0, 0, 0, 0, 2] : List UInt8) ++ ([2, 0, 0, 0, 0, 0, 0, 0, 0, 0, 0, 0, 0, 0, 0, 0, 0, 0, 0, 0, 0, 0, 0, 0, 0, 0, 0, 0, 0, 0, 0, 2] : List UInt8)) 2 0 ([] : Lg) (1, (List.replicate 32 (0 : UInt8)), 1, [List.replicate 32 (0 : UInt8)].flatten)) (1, (List.replicate 32 (0 : UInt8)), 2, [ansD (([1, 0, 0, 0, 0, 0, 0, 0, 0, 0, 0, 0, 0, 0, 0, 0, 0, 0, 0, 0, 0, 0, 0, 0, 0, 0, 0, 0, 0, 0, 0, 2] : List UInt8) ++ ([2, 0, 0, 0, 0, 0, 0, 0, 0, 0, 0, 0, 0, 0, 0, 0, 0, 0, 0, 0, 0, 0, 0, 0, 0, 0, 0, 0, 0, 0, 0, 2] : List UInt8)) 2 0 ([] : Lg) (1, (List.replicate 32 (0 : UInt8)), 1, [List.replicate 32 (0 : UInt8)].flatten), leN 8 (UInt64.ofNat 3).toNat, List.replicate 128 (0 : UInt8)].flatten)).map vu8⟩), (vi 0)]) (v := (.agg ⟨(ansD (([1, 0, 0, 0, 0, 0, 0, 0, 0, 0, 0, 0, 0, 0, 0, 0, 0, 0, 0, 0, 0, 0, 0, 0, 0, 0, 0, 0, 0, 0, 0, 2] : List UInt8) ++ ([2, 0, 0, 0, 0, 0, 0, 0, 0, 0, 0, 0, 0, 0, 0, 0, 0, 0, 0, 0, 0, 0, 0, 0, 0, 0, 0, 0, 0, 0, 0, 2] : List UInt8)) 2 (ansU 0 ([] : Lg) (1, (List.replicate 32 (0 : UInt8)), 1, [List.replicate 32 (0 : UInt8)].flatten)) (ansL (([1, 0, 0, 0, 0, 0, 0, 0, 0, 0, 0, 0, 0, 0, 0, 0, 0, 0, 0, 0, 0, 0, 0, 0, 0, 0, 0, 0, 0, 0, 0, 2] : List UInt8) ++ ([2, 0, 0, 0, 0, 0, 0, 0, 0, 0, 0, 0, 0, 0, 0, 0, 0, 0, 0, 0, 0, 0, 0, 0, 0, 0, 0, 0, 0, 0, 0, 2] : List UInt8)) 2 0 ([] : Lg) (1, (List.replicate 32 (0 : UInt8)), 1, [List.replicate 32 (0 : UInt8)].flatten)) (1, (List.replicate 32 (0 : UInt8)), 2, [ansD (([1, 0, 0, 0, 0, 0, 0, 0, 0, 0, 0, 0, 0, 0, 0, 0, 0, 0, 0, 0, 0, 0, 0, 0, 0, 0, 0, 0, 0, 0, 0, 2] : List UInt8) ++ ([2, 0, 0, 0, 0, 0, 0, 0, 0, 0, 0, 0, 0, 0, 0, 0, 0, 0, 0, 0, 0, 0, 0, 0, 0, 0, 0, 0, 0, 0, 0, 2] : List UInt8)) 2 0 ([] : Lg) (1, (List.replicate 32 (0 : UInt8)), 1, [List.replicate 32 (0 : UInt8)].flatten), leN 8 (UInt64.ofNat 3).toNat, List.replicate 128 (0 : UInt8)].flatten)).map vu8⟩)) rfl rfl) ?_
  refine WL.q (Wn.no rfl) rfl rfl (R.extract (l := [(.agg ⟨(ansD (([1, 0, 0, 0, 0, 0, 0, 0, 0, 0, 0, 0, 0, 0, 0, 0, 0, 0, 0, 0, 0, 0, 0, 0, 0, 0, 0, 0, 0, 0, 0, 2] : List UInt8) ++ ([2, 0, 0, 0, 0, 0, 0, 0, 0, 0, 0, 0, 0, 0, 0, 0, 0, 0, 0, 0, 0, 0, 0, 0, 0, 0, 0, 0, 0, 0, 0, 2] : List UInt8)) 2 (ansU 0 ([] : Lg) (1, (List.replicate 32 (0 : UInt8)), 1, [List.replicate 32 (0 : UInt8)].flatten)) (ansL (([1, 0, 0, 0, 0, 0, 0, 0, 0, 0, 0, 0, 0, 0, 0, 0, 0, 0, 0, 0, 0, 0, 0, 0, 0, 0, 0, 0, 0, 0, 0, 2] : List UInt8) ++ ([2, 0, 0, 0, 0, 0, 0, 0, 0, 0, 0, 0, 0, 0, 0, 0, 0, 0, 0, 0, 0, 0, 0, 0, 0, 0, 0, 0, 0, 0, 0, 2] : List UInt8)) 2 0 ([] : Lg) (1, (List.replicate 32 (0 : UInt8)), 1, [List.replicate 32 (0 : UInt8)].flatten)) (1, (List.replicate 32 (0 : UInt8)), 2, [ansD (([1, 0, 0, 0, 0, 0, 0, 0, 0, 0, 0, 0, 0, 0, 0, 0, 0, 0, 0, 0, 0, 0, 0, 0, 0, 0, 0, 0, 0, 0, 0, 2] : List UInt8) ++ ([2, 0, 0, 0, 0, 0, 0, 0, 0, 0, 0, 0, 0, 0, 0, 0, 0, 0, 0, 0, 0, 0, 0, 0, 0, 0, 0, 0, 0, 0, 0, 2] : List UInt8)) 2 0 ([] : Lg) (1, (List.replicate 32 (0 : UInt8)), 1, [List.replicate 32 (0 : UInt8)].flatten), leN 8 (UInt64.ofNat 3).toNat, List.replicate 128 (0 : UInt8)].flatten)).map vu8⟩), (vi 0)]) (v := (vi 0)) rfl rfl) ?_
  refine WL.alloc (segs := [(32, (List.replicate 32 (0 : UInt8)).map vu8)]) h_43 (zv Try.typeInfo29 rfl) rfl (SsOk.cons (SOk.u8 (List.length_replicate ..)) SsOk.nil) rfl (fun b_44 w_45 h_46 => ?_)
  refine WL.storeA (b := b_44) (off := 0) [] [(32, (List.replicate 32 (0 : UInt8)).map vu8)] [(32, (ansD (([1, 0, 0, 0, 0, 0, 0, 0, 0, 0, 0, 0, 0, 0, 0, 0, 0, 0, 0, 0, 0, 0, 0, 0, 0, 0, 0, 0, 0, 0, 0, 2] : List UInt8) ++ ([2, 0, 0, 0, 0, 0, 0, 0, 0, 0, 0, 0, 0, 0, 0, 0, 0, 0, 0, 0, 0, 0, 0, 0, 0, 0, 0, 0, 0, 0, 0, 2] : List UInt8)) 2 (ansU 0 ([] : Lg) (1, (List.replicate 32 (0 : UInt8)), 1, [List.replicate 32 (0 : UInt8)].flatten)) (ansL (([1, 0, 0, 0, 0, 0, 0, 0, 0, 0, 0, 0, 0, 0, 0, 0, 0, 0, 0, 0, 0, 0, 0, 0, 0, 0, 0, 0, 0, 0, 0, 2] : List UInt8) ++ ([2, 0, 0, 0, 0, 0, 0, 0, 0, 0, 0, 0, 0, 0, 0, 0, 0, 0, 0, 0, 0, 0, 0, 0, 0, 0, 0, 0, 0, 0, 0, 2] : List UInt8)) 2 0 ([] : Lg) (1, (List.replicate 32 (0 : UInt8)), 1, [List.replicate 32 (0 : UInt8)].flatten)) (1, (List.replicate 32 (0 : UInt8)), 2, [ansD (([1, 0, 0, 0, 0, 0, 0, 0, 0, 0, 0, 0, 0, 0, 0, 0, 0, 0, 0, 0, 0, 0, 0, 0, 0, 0, 0, 0, 0, 0, 0, 2] : List UInt8) ++ ([2, 0, 0, 0, 0, 0, 0, 0, 0, 0, 0, 0, 0, 0, 0, 0, 0, 0, 0, 0, 0, 0, 0, 0, 0, 0, 0, 0, 0, 0, 0, 2] : List UInt8)) 2 0 ([] : Lg) (1, (List.replicate 32 (0 : UInt8)), 1, [List.replicate 32 (0 : UInt8)].flatten), leN 8 (UInt64.ofNat 3).toNat, List.replicate 128 (0 : UInt8)].flatten)).map vu8)] [] (ys := (ansD (([1, 0, 0, 0, 0, 0, 0, 0, 0, 0, 0, 0, 0, 0, 0, 0, 0, 0, 0, 0, 0, 0, 0, 0, 0, 0, 0, 0, 0, 0, 0, 2] : List UInt8) ++ ([2, 0, 0, 0, 0, 0, 0, 0, 0, 0, 0, 0, 0, 0, 0, 0, 0, 0, 0, 0, 0, 0, 0, 0, 0, 0, 0, 0, 0, 0, 0, 2] : List UInt8)) 2 (ansU 0 ([] : Lg) (1, (List.replicate 32 (0 : UInt8)), 1, [List.replicate 32 (0 : UInt8)].flatten)) (ansL (([1, 0, 0, 0, 0, 0, 0, 0, 0, 0, 0, 0, 0, 0, 0, 0, 0, 0, 0, 0, 0, 0, 0, 0, 0, 0, 0, 0, 0, 0, 0, 2] : List UInt8) ++ ([2, 0, 0, 0, 0, 0, 0, 0, 0, 0, 0, 0, 0, 0, 0, 0, 0, 0, 0, 0, 0, 0, 0, 0, 0, 0, 0, 0, 0, 0, 0, 2] : List UInt8)) 2 0 ([] : Lg) (1, (List.replicate 32 (0 : UInt8)), 1, [List.replicate 32 (0 : UInt8)].flatten)) (1, (List.replicate 32 (0 : UInt8)), 2, [ansD (([1, 0, 0, 0, 0, 0, 0, 0, 0, 0, 0, 0, 0, 0, 0, 0, 0, 0, 0, 0, 0, 0, 0, 0, 0, 0, 0, 0, 0, 0, 0, 2] : List UInt8) ++ ([2, 0, 0, 0, 0, 0, 0, 0, 0, 0, 0, 0, 0, 0, 0, 0, 0, 0, 0, 0, 0, 0, 0, 0, 0, 0, 0, 0, 0, 0, 0, 2] : List UInt8)) 2 0 ([] : Lg) (1, (List.replicate 32 (0 : UInt8)), 1, [List.replicate 32 (0 : UInt8)].flatten), leN 8 (UInt64.ofNat 3).toNat, List.replicate 128 (0 : UInt8)].flatten)).map vu8) h_46 rfl rfl Try.sizeOf29 At.h (by decide) rfl rfl rfl rfl rfl rfl (SsOk.cons (SOk.u8 (ansD_len (rfl : List.length (([1, 0, 0, 0, 0, 0, 0, 0, 0, 0, 0, 0, 0, 0, 0, 0, 0, 0, 0, 0, 0, 0, 0, 0, 0, 0, 0, 0, 0, 0, 0, 2] : List UInt8) ++ ([2, 0, 0, 0, 0, 0, 0, 0, 0, 0, 0, 0, 0, 0, 0, 0, 0, 0, 0, 0, 0, 0, 0, 0, 0, 0, 0, 0, 0, 0, 0, 2] : List UInt8)) = 64) h32_w_42)) SsOk.nil) (fun w_47 h_48 => ?_)
  refine WL.q (Wn.no rfl) rfl rfl (R.assign (v := (vi 0)) rfl) ?_
  refine WL.nil ?_
  refine thn_n ?_
  refine WP.seq ?_
  refine WP.reg ?_
  refine WL.q (Wn.no rfl) rfl rfl (R.move (v := (.pointer (some ⟨b_12, 0, none⟩))) rfl) ?_
  refine WL.q (Wn.no rfl) rfl rfl (R.loadA (b := b_29) (off := 0) [] [(32, (ansD (([1, 0, 0, 0, 0, 0, 0, 0, 0, 0, 0, 0, 0, 0, 0, 0, 0, 0, 0, 0, 0, 0, 0, 0, 0, 0, 0, 0, 0, 0, 0, 2] : List UInt8) ++ ([2, 0, 0, 0, 0, 0, 0, 0, 0, 0, 0, 0, 0, 0, 0, 0, 0, 0, 0, 0, 0, 0, 0, 0, 0, 0, 0, 0, 0, 0, 0, 2] : List UInt8)) 2 0 ([] : Lg) (1, (List.replicate 32 (0 : UInt8)), 1, [List.replicate 32 (0 : UInt8)].flatten)).map vu8)] [] (cs := (ansD (([1, 0, 0, 0, 0, 0, 0, 0, 0, 0, 0, 0, 0, 0, 0, 0, 0, 0, 0, 0, 0, 0, 0, 0, 0, 0, 0, 0, 0, 0, 0, 2] : List UInt8) ++ ([2, 0, 0, 0, 0, 0, 0, 0, 0, 0, 0, 0, 0, 0, 0, 0, 0, 0, 0, 0, 0, 0, 0, 0, 0, 0, 0, 0, 0, 0, 0, 2] : List UInt8)) 2 0 ([] : Lg) (1, (List.replicate 32 (0 : UInt8)), 1, [List.replicate 32 (0 : UInt8)].flatten)).map vu8) rfl Try.isAgg29 Try.sizeOf29 (h_48.ok _ (.tail _ (.tail _ (.tail _ (.tail _ (.tail _ (.tail _ (.head _)))))))) rfl rfl rfl rfl) ?_
  refine WL.q (Wn.no rfl) rfl rfl (R.buildA (vs := []) (cs := (List.replicate 128 (0 : UInt8)).map vu8) Try.underlying42 Try.sizeOf5 (zv Try.typeInfo42 rfl) rfl rfl) ?_
  refine WL.call (al := [(.pointer (some ⟨b_12, 0, none⟩)), (.agg ⟨(ansD (([1, 0, 0, 0, 0, 0, 0, 0, 0, 0, 0, 0, 0, 0, 0, 0, 0, 0, 0, 0, 0, 0, 0, 0, 0, 0, 0, 0, 0, 0, 0, 2] : List UInt8) ++ ([2, 0, 0, 0, 0, 0, 0, 0, 0, 0, 0, 0, 0, 0, 0, 0, 0, 0, 0, 0, 0, 0, 0, 0, 0, 0, 0, 0, 0, 0, 0, 2] : List UInt8)) 2 0 ([] : Lg) (1, (List.replicate 32 (0 : UInt8)), 1, [List.replicate 32 (0 : UInt8)].flatten)).map vu8⟩), (vi 128), (.agg ⟨(List.replicate 128 (0 : UInt8)).map vu8⟩)]) Try.call17 rfl rfl (c_Data_big b_12 b_13 (List.replicate 32 (0 : UInt8)) (List.length_replicate ..) a_14 2 c_15 (ansU (ansU 0 ([] : Lg) (1, (List.replicate 32 (0 : UInt8)), 1, [List.replicate 32 (0 : UInt8)].flatten)) (ansL (([1, 0, 0, 0, 0, 0, 0, 0, 0, 0, 0, 0, 0, 0, 0, 0, 0, 0, 0, 0, 0, 0, 0, 0, 0, 0, 0, 0, 0, 0, 0, 2] : List UInt8) ++ ([2, 0, 0, 0, 0, 0, 0, 0, 0, 0, 0, 0, 0, 0, 0, 0, 0, 0, 0, 0, 0, 0, 0, 0, 0, 0, 0, 0, 0, 0, 0, 2] : List UInt8)) 2 0 ([] : Lg) (1, (List.replicate 32 (0 : UInt8)), 1, [List.replicate 32 (0 : UInt8)].flatten)) (1, (List.replicate 32 (0 : UInt8)), 2, [ansD (([1, 0, 0, 0, 0, 0, 0, 0, 0, 0, 0, 0, 0, 0, 0, 0, 0, 0, 0, 0, 0, 0, 0, 0, 0, 0, 0, 0, 0, 0, 0, 2] : List UInt8) ++ ([2, 0, 0, 0, 0, 0, 0, 0, 0, 0, 0, 0, 0, 0, 0, 0, 0, 0, 0, 0, 0, 0, 0, 0, 0, 0, 0, 0, 0, 0, 0, 2] : List UInt8)) 2 0 ([] : Lg) (1, (List.replicate 32 (0 : UInt8)), 1, [List.replicate 32 (0 : UInt8)].flatten), leN 8 (UInt64.ofNat 3).toNat, List.replicate 128 (0 : UInt8)].flatten)) la_39 ((ansL (([1, 0, 0, 0, 0, 0, 0, 0, 0, 0, 0, 0, 0, 0, 0, 0, 0, 0, 0, 0, 0, 0, 0, 0, 0, 0, 0, 0, 0, 0, 0, 2] : List UInt8) ++ ([2, 0, 0, 0, 0, 0, 0, 0, 0, 0, 0, 0, 0, 0, 0, 0, 0, 0, 0, 0, 0, 0, 0, 0, 0, 0, 0, 0, 0, 0, 0, 2] : List UInt8)) 2 (ansU 0 ([] : Lg) (1, (List.replicate 32 (0 : UInt8)), 1, [List.replicate 32 (0 : UInt8)].flatten)) (ansL (([1, 0, 0, 0, 0, 0, 0, 0, 0, 0, 0, 0, 0, 0, 0, 0, 0, 0, 0, 0, 0, 0, 0, 0, 0, 0, 0, 0, 0, 0, 0, 2] : List UInt8) ++ ([2, 0, 0, 0, 0, 0, 0, 0, 0, 0, 0, 0, 0, 0, 0, 0, 0, 0, 0, 0, 0, 0, 0, 0, 0, 0, 0, 0, 0, 0, 0, 2] : List UInt8)) 2 0 ([] : Lg) (1, (List.replicate 32 (0 : UInt8)), 1, [List.replicate 32 (0 : UInt8)].flatten)) (1, (List.replicate 32 (0 : UInt8)), 2, [ansD (([1, 0, 0, 0, 0, 0, 0, 0, 0, 0, 0, 0, 0, 0, 0, 0, 0, 0, 0, 0, 0, 0, 0, 0, 0, 0, 0, 0, 0, 0, 0, 2] : List UInt8) ++ ([2, 0, 0, 0, 0, 0, 0, 0, 0, 0, 0, 0, 0, 0, 0, 0, 0, 0, 0, 0, 0, 0, 0, 0, 0, 0, 0, 0, 0, 0, 0, 2] : List UInt8)) 2 0 ([] : Lg) (1, (List.replicate 32 (0 : UInt8)), 1, [List.replicate 32 (0 : UInt8)].flatten), leN 8 (UInt64.ofNat 3).toNat, List.replicate 128 (0 : UInt8)].flatten)).length) lc_40 (ansD (([1, 0, 0, 0, 0, 0, 0, 0, 0, 0, 0, 0, 0, 0, 0, 0, 0, 0, 0, 0, 0, 0, 0, 0, 0, 0, 0, 0, 0, 0, 0, 2] : List UInt8) ++ ([2, 0, 0, 0, 0, 0, 0, 0, 0, 0, 0, 0, 0, 0, 0, 0, 0, 0, 0, 0, 0, 0, 0, 0, 0, 0, 0, 0, 0, 0, 0, 2] : List UInt8)) 2 0 ([] : Lg) (1, (List.replicate 32 (0 : UInt8)), 1, [List.replicate 32 (0 : UInt8)].flatten)) (List.replicate 128 (0 : UInt8)) (ansD_len (rfl : List.length (([1, 0, 0, 0, 0, 0, 0, 0, 0, 0, 0, 0, 0, 0, 0, 0, 0, 0, 0, 0, 0, 0, 0, 0, 0, 0, 0, 0, 0, 0, 0, 2] : List UInt8) ++ ([2, 0, 0, 0, 0, 0, 0, 0, 0, 0, 0, 0, 0, 0, 0, 0, 0, 0, 0, 0, 0, 0, 0, 0, 0, 0, 0, 0, 0, 0, 0, 2] : List UInt8)) = 64) h32_w_27) (List.length_replicate ..) 128 (by omega) _ (h_48.argR (.tail _ (.head _)))) rfl ?_
  rintro _ w_50 ⟨rfl, hc_49⟩
  have h_51 := h_48.same hc_49
  refine WL.q (Wn.no rfl) rfl rfl (R.move (v := (.tuple [(.agg ⟨(List.replicate 32 (0 : UInt8)).map vu8⟩), (vi 2)].toArray)) rfl) ?_
  refine WL.q (Wn.no rfl) rfl rfl (R.extract (l := [(.agg ⟨(List.replicate 32 (0 : UInt8)).map vu8⟩), (vi 2)]) (v := (.agg ⟨(List.replicate 32 (0 : UInt8)).map vu8⟩)) rfl rfl) ?_
  refine WL.q (Wn.no rfl) rfl rfl (R.extract (l := [(.agg ⟨(List.replicate 32 (0 : UInt8)).map vu8⟩), (vi 2)]) (v := (vi 2)) rfl rfl) ?_
  refine WL.alloc (segs := [(32, (List.replicate 32 (0 : UInt8)).map vu8)]) h_51 (zv Try.typeInfo29 rfl) rfl (SsOk.cons (SOk.u8 (List.length_replicate ..)) SsOk.nil) rfl (fun b_52 w_53 h_54 => ?_)
  refine WL.storeA (b := b_52) (off := 0) [] [(32, (List.replicate 32 (0 : UInt8)).map vu8)] [(32, (List.replicate 32 (0 : UInt8)).map vu8)] [] (ys := (List.replicate 32 (0 : UInt8)).map vu8) h_54 rfl rfl Try.sizeOf29 At.h (by decide) rfl rfl rfl rfl rfl rfl (SsOk.cons (SOk.u8 (List.length_replicate ..)) SsOk.nil) (fun w_55 h_56 => ?_)
  refine WL.q (Wn.no rfl) rfl rfl (R.assign (v := (vi 2)) rfl) ?_
  refine WL.nil ?_
  refine thn_n ?_
  refine WP.seq ?_
  refine WP.reg ?_
  refine WL.q (Wn.no rfl) rfl rfl (R.move (v := (.pointer (some ⟨b_12, 0, none⟩))) rfl) ?_
  refine WL.call (al := [(.pointer (some ⟨b_12, 0, none⟩)), (.slice none 0 0)]) Try.call13 rfl rfl (c_Replay_0 b_12 b_13 (List.replicate 32 (0 : UInt8)) (List.length_replicate ..) a_14 2 c_15 (ansU (ansU 0 ([] : Lg) (1, (List.replicate 32 (0 : UInt8)), 1, [List.replicate 32 (0 : UInt8)].flatten)) (ansL (([1, 0, 0, 0, 0, 0, 0, 0, 0, 0, 0, 0, 0, 0, 0, 0, 0, 0, 0, 0, 0, 0, 0, 0, 0, 0, 0, 0, 0, 0, 0, 2] : List UInt8) ++ ([2, 0, 0, 0, 0, 0, 0, 0, 0, 0, 0, 0, 0, 0, 0, 0, 0, 0, 0, 0, 0, 0, 0, 0, 0, 0, 0, 0, 0, 0, 0, 2] : List UInt8)) 2 0 ([] : Lg) (1, (List.replicate 32 (0 : UInt8)), 1, [List.replicate 32 (0 : UInt8)].flatten)) (1, (List.replicate 32 (0 : UInt8)), 2, [ansD (([1, 0, 0, 0, 0, 0, 0, 0, 0, 0, 0, 0, 0, 0, 0, 0, 0, 0, 0, 0, 0, 0, 0, 0, 0, 0, 0, 0, 0, 0, 0, 2] : List UInt8) ++ ([2, 0, 0, 0, 0, 0, 0, 0, 0, 0, 0, 0, 0, 0, 0, 0, 0, 0, 0, 0, 0, 0, 0, 0, 0, 0, 0, 0, 0, 0, 0, 2] : List UInt8)) 2 0 ([] : Lg) (1, (List.replicate 32 (0 : UInt8)), 1, [List.replicate 32 (0 : UInt8)].flatten), leN 8 (UInt64.ofNat 3).toNat, List.replicate 128 (0 : UInt8)].flatten)) la_39 ((ansL (([1, 0, 0, 0, 0, 0, 0, 0, 0, 0, 0, 0, 0, 0, 0, 0, 0, 0, 0, 0, 0, 0, 0, 0, 0, 0, 0, 0, 0, 0, 0, 2] : List UInt8) ++ ([2, 0, 0, 0, 0, 0, 0, 0, 0, 0, 0, 0, 0, 0, 0, 0, 0, 0, 0, 0, 0, 0, 0, 0, 0, 0, 0, 0, 0, 0, 0, 2] : List UInt8)) 2 (ansU 0 ([] : Lg) (1, (List.replicate 32 (0 : UInt8)), 1, [List.replicate 32 (0 : UInt8)].flatten)) (ansL (([1, 0, 0, 0, 0, 0, 0, 0, 0, 0, 0, 0, 0, 0, 0, 0, 0, 0, 0, 0, 0, 0, 0, 0, 0, 0, 0, 0, 0, 0, 0, 2] : List UInt8) ++ ([2, 0, 0, 0, 0, 0, 0, 0, 0, 0, 0, 0, 0, 0, 0, 0, 0, 0, 0, 0, 0, 0, 0, 0, 0, 0, 0, 0, 0, 0, 0, 2] : List UInt8)) 2 0 ([] : Lg) (1, (List.replicate 32 (0 : UInt8)), 1, [List.replicate 32 (0 : UInt8)].flatten)) (1, (List.replicate 32 (0 : UInt8)), 2, [ansD (([1, 0, 0, 0, 0, 0, 0, 0, 0, 0, 0, 0, 0, 0, 0, 0, 0, 0, 0, 0, 0, 0, 0, 0, 0, 0, 0, 0, 0, 0, 0, 2] : List UInt8) ++ ([2, 0, 0, 0, 0, 0, 0, 0, 0, 0, 0, 0, 0, 0, 0, 0, 0, 0, 0, 0, 0, 0, 0, 0, 0, 0, 0, 0, 0, 0, 0, 2] : List UInt8)) 2 0 ([] : Lg) (1, (List.replicate 32 (0 : UInt8)), 1, [List.replicate 32 (0 : UInt8)].flatten), leN 8 (UInt64.ofNat 3).toNat, List.replicate 128 (0 : UInt8)].flatten)).length) lc_40 _ (h_56.argR (.tail _ (.tail _ (.head _))))) rfl ?_
  rintro _ w_58 ⟨rfl, hc_57⟩
  have h_59 := h_56.same hc_57
  refine WL.q (Wn.no rfl) rfl rfl (R.move (v := (.tuple [(.agg ⟨(List.replicate 32 (0 : UInt8)).map vu8⟩), (vi 2)].toArray)) rfl) ?_
  refine WL.q (Wn.no rfl) rfl rfl (R.extract (l := [(.agg ⟨(List.replicate 32 (0 : UInt8)).map vu8⟩), (vi 2)]) (v := (.agg ⟨(List.replicate 32 (0 : UInt8)).map vu8⟩)) rfl rfl) ?_
  refine WL.q (Wn.no rfl) rfl rfl (R.extract (l := [(.agg ⟨(List.replicate 32 (0 : UInt8)).map vu8⟩), (vi 2)]) (v := (vi 2)) rfl rfl) ?_
  refine WL.alloc (segs := [(32, (List.replicate 32 (0 : UInt8)).map vu8)]) h_59 (zv Try.typeInfo29 rfl) rfl (SsOk.cons (SOk.u8 (List.length_replicate ..)) SsOk.nil) rfl (fun b_60 w_61 h_62 => ?_)
  refine WL.storeA (b := b_60) (off := 0) [] [(32, (List.replicate 32 (0 : UInt8)).map vu8)] [(32, (List.replicate 32 (0 : UInt8)).map vu8)] [] (ys := (List.replicate 32 (0 : UInt8)).map vu8) h_62 rfl rfl Try.sizeOf29 At.h (by decide) rfl rfl rfl rfl rfl rfl (SsOk.cons (SOk.u8 (List.length_replicate ..)) SsOk.nil) (fun w_63 h_64 => ?_)
  refine WL.q (Wn.no rfl) rfl rfl (R.assign (v := (vi 2)) rfl) ?_
  refine WL.nil ?_
  refine thn_n ?_
  refine WP.seq ?_
  refine WP.reg ?_
  refine WL.q (Wn.no rfl) rfl rfl (R.move (v := (.pointer (some ⟨b_12, 0, none⟩))) rfl) ?_
  refine WL.q (Wn.no rfl) rfl rfl (R.buildS (pl := [(0, 1), (1, 32), (33, 1), (34, 128), (162, 10)]) (zs := [(1, [(vi 0)]), (32, (List.replicate 32 (0 : UInt8)).map vu8), (1, [(vi 0)]), (128, (List.replicate 128 (0 : UInt8)).map vu8), (1, [(vu64 0)]), (8, (List.replicate 8 (0 : UInt64)).map vu64), (1, [(.bool false)])]) (vs := [(0, (vi 2))]) (out := [(1, [(vi 2)]), (32, (List.replicate 32 (0 : UInt8)).map vu8), (1, [(vi 0)]), (128, (List.replicate 128 (0 : UInt8)).map vu8), (1, [(vu64 0)]), (8, (List.replicate 8 (0 : UInt64)).map vu64), (1, [(.bool false)])]) (cs := flat [(1, [(vi 2)]), (32, (List.replicate 32 (0 : UInt8)).map vu8), (1, [(vi 0)]), (128, (List.replicate 128 (0 : UInt8)).map vu8), (1, [(vu64 0)]), (8, (List.replicate 8 (0 : UInt64)).map vu64), (1, [(.bool false)])]) Try.underlying54 (zv Try.typeInfo54 rfl) rfl (SsOk.cons (SOk.v rfl) (SsOk.cons (SOk.u8 (List.length_replicate ..)) (SsOk.cons (SOk.v rfl) (SsOk.cons (SOk.u8 (List.length_replicate ..)) (SsOk.cons (SOk.v rfl) (SsOk.cons (SOk.u64 (List.length_replicate ..)) (SsOk.cons (SOk.v rfl) SsOk.nil))))))) (pl54 _ Try.underlying54) rfl (FillR.cons [] [(1, [(vi 0)])] [(1, [(vi 2)])] [(32, (List.replicate 32 (0 : UInt8)).map vu8), (1, [(vi 0)]), (128, (List.replicate 128 (0 : UInt8)).map vu8), (1, [(vu64 0)]), (8, (List.replicate 8 (0 : UInt64)).map vu64), (1, [(.bool false)])] rfl rfl rfl rfl (SsOk.cons (SOk.v rfl) SsOk.nil) rfl rfl rfl FillR.nil) rfl) ?_
  refine WL.buildSl (vs := [(0, (.agg ⟨flat [(1, [(vi 2)]), (32, (List.replicate 32 (0 : UInt8)).map vu8), (1, [(vi 0)]), (128, (List.replicate 128 (0 : UInt8)).map vu8), (1, [(vu64 0)]), (8, (List.replicate 8 (0 : UInt64)).map vu64), (1, [(.bool false)])]⟩))]) (cs := flat [(1, [(vi 2)]), (32, (List.replicate 32 (0 : UInt8)).map vu8), (1, [(vi 0)]), (128, (List.replicate 128 (0 : UInt8)).map vu8), (1, [(vu64 0)]), (8, (List.replicate 8 (0 : UInt64)).map vu64), (1, [(.bool false)])]) h_64 Try.underlying23 Try.sizeOf54 (zv Try.typeInfo54 rfl) rfl rfl (fill_1 (zc := flat [(1, [(vi 0)]), (32, (List.replicate 32 (0 : UInt8)).map vu8), (1, [(vi 0)]), (128, (List.replicate 128 (0 : UInt8)).map vu8), (1, [(vu64 0)]), (8, (List.replicate 8 (0 : UInt64)).map vu64), (1, [(.bool false)])]) (by kernel_rfl) (show SsOk [(172, flat [(1, [(vi 0)]), (32, (List.replicate 32 (0 : UInt8)).map vu8), (1, [(vi 0)]), (128, (List.replicate 128 (0 : UInt8)).map vu8), (1, [(vu64 0)]), (8, (List.replicate 8 (0 : UInt64)).map vu64), (1, [(.bool false)])])] from SsOk.cons ⟨((SsOk.cons (SOk.v rfl) (SsOk.cons (SOk.u8 (List.length_replicate ..)) (SsOk.cons (SOk.v rfl) (SsOk.cons (SOk.u8 (List.length_replicate ..)) (SsOk.cons (SOk.v rfl) (SsOk.cons (SOk.u64 (List.length_replicate ..)) (SsOk.cons (SOk.v rfl) SsOk.nil)))))))).len, ((SsOk.cons (SOk.v rfl) (SsOk.cons (SOk.u8 (List.length_replicate ..)) (SsOk.cons (SOk.v rfl) (SsOk.cons (SOk.u8 (List.length_replicate ..)) (SsOk.cons (SOk.v rfl) (SsOk.cons (SOk.u64 (List.length_replicate ..)) (SsOk.cons (SOk.v rfl) SsOk.nil)))))))).one⟩ SsOk.nil) (show SsOk [(172, flat [(1, [(vi 2)]), (32, (List.replicate 32 (0 : UInt8)).map vu8), (1, [(vi 0)]), (128, (List.replicate 128 (0 : UInt8)).map vu8), (1, [(vu64 0)]), (8, (List.replicate 8 (0 : UInt64)).map vu64), (1, [(.bool false)])])] from SsOk.cons ⟨((SsOk.cons (SOk.v rfl) (SsOk.cons (SOk.u8 (List.length_replicate ..)) (SsOk.cons (SOk.v rfl) (SsOk.cons (SOk.u8 (List.length_replicate ..)) (SsOk.cons (SOk.v rfl) (SsOk.cons (SOk.u64 (List.length_replicate ..)) (SsOk.cons (SOk.v rfl) SsOk.nil)))))))).len, ((SsOk.cons (SOk.v rfl) (SsOk.cons (SOk.u8 (List.length_replicate ..)) (SsOk.cons (SOk.v rfl) (SsOk.cons (SOk.u8 (List.length_replicate ..)) (SsOk.cons (SOk.v rfl) (SsOk.cons (SOk.u64 (List.length_replicate ..)) (SsOk.cons (SOk.v rfl) SsOk.nil)))))))).one⟩ SsOk.nil)) ((show SsOk [(172, flat [(1, [(vi 2)]), (32, (List.replicate 32 (0 : UInt8)).map vu8), (1, [(vi 0)]), (128, (List.replicate 128 (0 : UInt8)).map vu8), (1, [(vu64 0)]), (8, (List.replicate 8 (0 : UInt64)).map vu64), (1, [(.bool false)])])] from SsOk.cons ⟨((SsOk.cons (SOk.v rfl) (SsOk.cons (SOk.u8 (List.length_replicate ..)) (SsOk.cons (SOk.v rfl) (SsOk.cons (SOk.u8 (List.length_replicate ..)) (SsOk.cons (SOk.v rfl) (SsOk.cons (SOk.u64 (List.length_replicate ..)) (SsOk.cons (SOk.v rfl) SsOk.nil)))))))).len, ((SsOk.cons (SOk.v rfl) (SsOk.cons (SOk.u8 (List.length_replicate ..)) (SsOk.cons (SOk.v rfl) (SsOk.cons (SOk.u8 (List.length_replicate ..)) (SsOk.cons (SOk.v rfl) (SsOk.cons (SOk.u64 (List.length_replicate ..)) (SsOk.cons (SOk.v rfl) SsOk.nil)))))))).one⟩ SsOk.nil)).head.len ((show SsOk [(172, flat [(1, [(vi 2)]), (32, (List.replicate 32 (0 : UInt8)).map vu8), (1, [(vi 0)]), (128, (List.replicate 128 (0 : UInt8)).map vu8), (1, [(vu64 0)]), (8, (List.replicate 8 (0 : UInt64)).map vu64), (1, [(.bool false)])])] from SsOk.cons ⟨((SsOk.cons (SOk.v rfl) (SsOk.cons (SOk.u8 (List.length_replicate ..)) (SsOk.cons (SOk.v rfl) (SsOk.cons (SOk.u8 (List.length_replicate ..)) (SsOk.cons (SOk.v rfl) (SsOk.cons (SOk.u64 (List.length_replicate ..)) (SsOk.cons (SOk.v rfl) SsOk.nil)))))))).len, ((SsOk.cons (SOk.v rfl) (SsOk.cons (SOk.u8 (List.length_replicate ..)) (SsOk.cons (SOk.v rfl) (SsOk.cons (SOk.u8 (List.length_replicate ..)) (SsOk.cons (SOk.v rfl) (SsOk.cons (SOk.u64 (List.length_replicate ..)) (SsOk.cons (SOk.v rfl) SsOk.nil)))))))).one⟩ SsOk.nil)).head.one rfl rfl (fun b_66 w_67 h_68 => ?_)
  have h_69 := HP_reseg (segs' := [(1, [(vi 2)]), (32, (List.replicate 32 (0 : UInt8)).map vu8), (1, [(vi 0)]), (128, (List.replicate 128 (0 : UInt8)).map vu8), (1, [(vu64 0)]), (8, (List.replicate 8 (0 : UInt64)).map vu64), (1, [(.bool false)])]) h_68 .h (by decide) rfl (SsOk.cons (SOk.v rfl) (SsOk.cons (SOk.u8 (List.length_replicate ..)) (SsOk.cons (SOk.v rfl) (SsOk.cons (SOk.u8 (List.length_replicate ..)) (SsOk.cons (SOk.v rfl) (SsOk.cons (SOk.u64 (List.length_replicate ..)) (SsOk.cons (SOk.v rfl) SsOk.nil)))))))
  refine WL.call (al := [(.pointer (some ⟨b_12, 0, none⟩)), (.slice (some ⟨b_66, 0, none⟩) 1 1)]) Try.call13 rfl rfl (c_Replay_2 b_12 b_13 (List.replicate 32 (0 : UInt8)) (List.length_replicate ..) a_14 2 c_15 (ansU (ansU 0 ([] : Lg) (1, (List.replicate 32 (0 : UInt8)), 1, [List.replicate 32 (0 : UInt8)].flatten)) (ansL (([1, 0, 0, 0, 0, 0, 0, 0, 0, 0, 0, 0, 0, 0, 0, 0, 0, 0, 0, 0, 0, 0, 0, 0, 0, 0, 0, 0, 0, 0, 0, 2] : List UInt8) ++ ([2, 0, 0, 0, 0, 0, 0, 0, 0, 0, 0, 0, 0, 0, 0, 0, 0, 0, 0, 0, 0, 0, 0, 0, 0, 0, 0, 0, 0, 0, 0, 2] : List UInt8)) 2 0 ([] : Lg) (1, (List.replicate 32 (0 : UInt8)), 1, [List.replicate 32 (0 : UInt8)].flatten)) (1, (List.replicate 32 (0 : UInt8)), 2, [ansD (([1, 0, 0, 0, 0, 0, 0, 0, 0, 0, 0, 0, 0, 0, 0, 0, 0, 0, 0, 0, 0, 0, 0, 0, 0, 0, 0, 0, 0, 0, 0, 2] : List UInt8) ++ ([2, 0, 0, 0, 0, 0, 0, 0, 0, 0, 0, 0, 0, 0, 0, 0, 0, 0, 0, 0, 0, 0, 0, 0, 0, 0, 0, 0, 0, 0, 0, 2] : List UInt8)) 2 0 ([] : Lg) (1, (List.replicate 32 (0 : UInt8)), 1, [List.replicate 32 (0 : UInt8)].flatten), leN 8 (UInt64.ofNat 3).toNat, List.replicate 128 (0 : UInt8)].flatten)) la_39 ((ansL (([1, 0, 0, 0, 0, 0, 0, 0, 0, 0, 0, 0, 0, 0, 0, 0, 0, 0, 0, 0, 0, 0, 0, 0, 0, 0, 0, 0, 0, 0, 0, 2] : List UInt8) ++ ([2, 0, 0, 0, 0, 0, 0, 0, 0, 0, 0, 0, 0, 0, 0, 0, 0, 0, 0, 0, 0, 0, 0, 0, 0, 0, 0, 0, 0, 0, 0, 2] : List UInt8)) 2 (ansU 0 ([] : Lg) (1, (List.replicate 32 (0 : UInt8)), 1, [List.replicate 32 (0 : UInt8)].flatten)) (ansL (([1, 0, 0, 0, 0, 0, 0, 0, 0, 0, 0, 0, 0, 0, 0, 0, 0, 0, 0, 0, 0, 0, 0, 0, 0, 0, 0, 0, 0, 0, 0, 2] : List UInt8) ++ ([2, 0, 0, 0, 0, 0, 0, 0, 0, 0, 0, 0, 0, 0, 0, 0, 0, 0, 0, 0, 0, 0, 0, 0, 0, 0, 0, 0, 0, 0, 0, 2] : List UInt8)) 2 0 ([] : Lg) (1, (List.replicate 32 (0 : UInt8)), 1, [List.replicate 32 (0 : UInt8)].flatten)) (1, (List.replicate 32 (0 : UInt8)), 2, [ansD (([1, 0, 0, 0, 0, 0, 0, 0, 0, 0, 0, 0, 0, 0, 0, 0, 0, 0, 0, 0, 0, 0, 0, 0, 0, 0, 0, 0, 0, 0, 0, 2] : List UInt8) ++ ([2, 0, 0, 0, 0, 0, 0, 0, 0, 0, 0, 0, 0, 0, 0, 0, 0, 0, 0, 0, 0, 0, 0, 0, 0, 0, 0, 0, 0, 0, 0, 2] : List UInt8)) 2 0 ([] : Lg) (1, (List.replicate 32 (0 : UInt8)), 1, [List.replicate 32 (0 : UInt8)].flatten), leN 8 (UInt64.ofNat 3).toNat, List.replicate 128 (0 : UInt8)].flatten)).length) lc_40 b_66 _ (h_69.argR (.tail _ (.tail _ (.tail _ (.tail _ (.head _)))))) (h_69.argR (.head _))) rfl ?_
  rintro _ w_71 ⟨rfl, hc_70⟩
  have h_72 := h_69.same hc_70
  refine WL.q (Wn.no rfl) rfl rfl (R.move (v := (.tuple [(.agg ⟨(List.replicate 32 (0 : UInt8)).map vu8⟩), (vi 2)].toArray)) rfl) ?_
  refine WL.q (Wn.no rfl) rfl rfl (R.extract (l := [(.agg ⟨(List.replicate 32 (0 : UInt8)).map vu8⟩), (vi 2)]) (v := (.agg ⟨(List.replicate 32 (0 : UInt8)).map vu8⟩)) rfl rfl) ?_
  refine WL.q (Wn.no rfl) rfl rfl (R.extract (l := [(.agg ⟨(List.replicate 32 (0 : UInt8)).map vu8⟩), (vi 2)]) (v := (vi 2)) rfl rfl) ?_
  refine WL.alloc (segs := [(32, (List.replicate 32 (0 : UInt8)).map vu8)]) h_72 (zv Try.typeInfo29 rfl) rfl (SsOk.cons (SOk.u8 (List.length_replicate ..)) SsOk.nil) rfl (fun b_73 w_74 h_75 => ?_)
  refine WL.storeA (b := b_73) (off := 0) [] [(32, (List.replicate 32 (0 : UInt8)).map vu8)] [(32, (List.replicate 32 (0 : UInt8)).map vu8)] [] (ys := (List.replicate 32 (0 : UInt8)).map vu8) h_75 rfl rfl Try.sizeOf29 At.h (by decide) rfl rfl rfl rfl rfl rfl (SsOk.cons (SOk.u8 (List.length_replicate ..)) SsOk.nil) (fun w_76 h_77 => ?_)
  refine WL.q (Wn.no rfl) rfl rfl (R.assign (v := (vi 2)) rfl) ?_
  refine WL.nil ?_
  refine thn_n ?_
  refine WP.seq ?_
  refine WP.drawT (SL w.heap.size [.blk b_73 .nw 29 [(32, (List.replicate 32 (0 : UInt8)).map vu8)], .blk b_66 .nw 54 [(1, [(vi 2)]), (32, (List.replicate 32 (0 : UInt8)).map vu8), (1, [(vi 0)]), (128, (List.replicate 128 (0 : UInt8)).map vu8), (1, [(vu64 0)]), (8, (List.replicate 8 (0 : UInt64)).map vu64), (1, [(.bool false)])], .blk b_60 .nw 29 [(32, (List.replicate 32 (0 : UInt8)).map vu8)], .blk b_52 .nw 29 [(32, (List.replicate 32 (0 : UInt8)).map vu8)], .blk b_44 .nw 29 [(32, (ansD (([1, 0, 0, 0, 0, 0, 0, 0, 0, 0, 0, 0, 0, 0, 0, 0, 0, 0, 0, 0, 0, 0, 0, 0, 0, 0, 0, 0, 0, 0, 0, 2] : List UInt8) ++ ([2, 0, 0, 0, 0, 0, 0, 0, 0, 0, 0, 0, 0, 0, 0, 0, 0, 0, 0, 0, 0, 0, 0, 0, 0, 0, 0, 0, 0, 0, 0, 2] : List UInt8)) 2 (ansU 0 ([] : Lg) (1, (List.replicate 32 (0 : UInt8)), 1, [List.replicate 32 (0 : UInt8)].flatten)) (ansL (([1, 0, 0, 0, 0, 0, 0, 0, 0, 0, 0, 0, 0, 0, 0, 0, 0, 0, 0, 0, 0, 0, 0, 0, 0, 0, 0, 0, 0, 0, 0, 2] : List UInt8) ++ ([2, 0, 0, 0, 0, 0, 0, 0, 0, 0, 0, 0, 0, 0, 0, 0, 0, 0, 0, 0, 0, 0, 0, 0, 0, 0, 0, 0, 0, 0, 0, 2] : List UInt8)) 2 0 ([] : Lg) (1, (List.replicate 32 (0 : UInt8)), 1, [List.replicate 32 (0 : UInt8)].flatten)) (1, (List.replicate 32 (0 : UInt8)), 2, [ansD (([1, 0, 0, 0, 0, 0, 0, 0, 0, 0, 0, 0, 0, 0, 0, 0, 0, 0, 0, 0, 0, 0, 0, 0, 0, 0, 0, 0, 0, 0, 0, 2] : List UInt8) ++ ([2, 0, 0, 0, 0, 0, 0, 0, 0, 0, 0, 0, 0, 0, 0, 0, 0, 0, 0, 0, 0, 0, 0, 0, 0, 0, 0, 0, 0, 0, 0, 2] : List UInt8)) 2 0 ([] : Lg) (1, (List.replicate 32 (0 : UInt8)), 1, [List.replicate 32 (0 : UInt8)].flatten), leN 8 (UInt64.ofNat 3).toNat, List.replicate 128 (0 : UInt8)].flatten)).map vu8)], .blk b_12 .nw 47 [(1, [(.bool true)]), (32, (List.replicate 32 (0 : UInt8)).map vu8), (1, [(.slice a_14 2 c_15)]), (1, [(vi ((ansU (ansU 0 ([] : Lg) (1, (List.replicate 32 (0 : UInt8)), 1, [List.replicate 32 (0 : UInt8)].flatten)) (ansL (([1, 0, 0, 0, 0, 0, 0, 0, 0, 0, 0, 0, 0, 0, 0, 0, 0, 0, 0, 0, 0, 0, 0, 0, 0, 0, 0, 0, 0, 0, 0, 2] : List UInt8) ++ ([2, 0, 0, 0, 0, 0, 0, 0, 0, 0, 0, 0, 0, 0, 0, 0, 0, 0, 0, 0, 0, 0, 0, 0, 0, 0, 0, 0, 0, 0, 0, 2] : List UInt8)) 2 0 ([] : Lg) (1, (List.replicate 32 (0 : UInt8)), 1, [List.replicate 32 (0 : UInt8)].flatten)) (1, (List.replicate 32 (0 : UInt8)), 2, [ansD (([1, 0, 0, 0, 0, 0, 0, 0, 0, 0, 0, 0, 0, 0, 0, 0, 0, 0, 0, 0, 0, 0, 0, 0, 0, 0, 0, 0, 0, 0, 0, 2] : List UInt8) ++ ([2, 0, 0, 0, 0, 0, 0, 0, 0, 0, 0, 0, 0, 0, 0, 0, 0, 0, 0, 0, 0, 0, 0, 0, 0, 0, 0, 0, 0, 0, 0, 2] : List UInt8)) 2 0 ([] : Lg) (1, (List.replicate 32 (0 : UInt8)), 1, [List.replicate 32 (0 : UInt8)].flatten), leN 8 (UInt64.ofNat 3).toNat, List.replicate 128 (0 : UInt8)].flatten) : Nat) : Int))]), (1, [(.map (some b_13))]), (1, [(.slice la_39 ((ansL (([1, 0, 0, 0, 0, 0, 0, 0, 0, 0, 0, 0, 0, 0, 0, 0, 0, 0, 0, 0, 0, 0, 0, 0, 0, 0, 0, 0, 0, 0, 0, 2] : List UInt8) ++ ([2, 0, 0, 0, 0, 0, 0, 0, 0, 0, 0, 0, 0, 0, 0, 0, 0, 0, 0, 0, 0, 0, 0, 0, 0, 0, 0, 0, 0, 0, 0, 2] : List UInt8)) 2 (ansU 0 ([] : Lg) (1, (List.replicate 32 (0 : UInt8)), 1, [List.replicate 32 (0 : UInt8)].flatten)) (ansL (([1, 0, 0, 0, 0, 0, 0, 0, 0, 0, 0, 0, 0, 0, 0, 0, 0, 0, 0, 0, 0, 0, 0, 0, 0, 0, 0, 0, 0, 0, 0, 2] : List UInt8) ++ ([2, 0, 0, 0, 0, 0, 0, 0, 0, 0, 0, 0, 0, 0, 0, 0, 0, 0, 0, 0, 0, 0, 0, 0, 0, 0, 0, 0, 0, 0, 0, 2] : List UInt8)) 2 0 ([] : Lg) (1, (List.replicate 32 (0 : UInt8)), 1, [List.replicate 32 (0 : UInt8)].flatten)) (1, (List.replicate 32 (0 : UInt8)), 2, [ansD (([1, 0, 0, 0, 0, 0, 0, 0, 0, 0, 0, 0, 0, 0, 0, 0, 0, 0, 0, 0, 0, 0, 0, 0, 0, 0, 0, 0, 0, 0, 0, 2] : List UInt8) ++ ([2, 0, 0, 0, 0, 0, 0, 0, 0, 0, 0, 0, 0, 0, 0, 0, 0, 0, 0, 0, 0, 0, 0, 0, 0, 0, 0, 0, 0, 0, 0, 2] : List UInt8)) 2 0 ([] : Lg) (1, (List.replicate 32 (0 : UInt8)), 1, [List.replicate 32 (0 : UInt8)].flatten), leN 8 (UInt64.ofNat 3).toNat, List.replicate 128 (0 : UInt8)].flatten)).length) lc_40)])], .row la_39 ((ansL (([1, 0, 0, 0, 0, 0, 0, 0, 0, 0, 0, 0, 0, 0, 0, 0, 0, 0, 0, 0, 0, 0, 0, 0, 0, 0, 0, 0, 0, 0, 0, 2] : List UInt8) ++ ([2, 0, 0, 0, 0, 0, 0, 0, 0, 0, 0, 0, 0, 0, 0, 0, 0, 0, 0, 0, 0, 0, 0, 0, 0, 0, 0, 0, 0, 0, 0, 2] : List UInt8)) 2 (ansU 0 ([] : Lg) (1, (List.replicate 32 (0 : UInt8)), 1, [List.replicate 32 (0 : UInt8)].flatten)) (ansL (([1, 0, 0, 0, 0, 0, 0, 0, 0, 0, 0, 0, 0, 0, 0, 0, 0, 0, 0, 0, 0, 0, 0, 0, 0, 0, 0, 0, 0, 0, 0, 2] : List UInt8) ++ ([2, 0, 0, 0, 0, 0, 0, 0, 0, 0, 0, 0, 0, 0, 0, 0, 0, 0, 0, 0, 0, 0, 0, 0, 0, 0, 0, 0, 0, 0, 0, 2] : List UInt8)) 2 0 ([] : Lg) (1, (List.replicate 32 (0 : UInt8)), 1, [List.replicate 32 (0 : UInt8)].flatten)) (1, (List.replicate 32 (0 : UInt8)), 2, [ansD (([1, 0, 0, 0, 0, 0, 0, 0, 0, 0, 0, 0, 0, 0, 0, 0, 0, 0, 0, 0, 0, 0, 0, 0, 0, 0, 0, 0, 0, 0, 0, 2] : List UInt8) ++ ([2, 0, 0, 0, 0, 0, 0, 0, 0, 0, 0, 0, 0, 0, 0, 0, 0, 0, 0, 0, 0, 0, 0, 0, 0, 0, 0, 0, 0, 0, 0, 2] : List UInt8)) 2 0 ([] : Lg) (1, (List.replicate 32 (0 : UInt8)), 1, [List.replicate 32 (0 : UInt8)].flatten), leN 8 (UInt64.ofNat 3).toNat, List.replicate 128 (0 : UInt8)].flatten)).length) lc_40 71 67 lx_41, .obj b_13 .nw (.map (mArr (ansL (([1, 0, 0, 0, 0, 0, 0, 0, 0, 0, 0, 0, 0, 0, 0, 0, 0, 0, 0, 0, 0, 0, 0, 0, 0, 0, 0, 0, 0, 0, 0, 2] : List UInt8) ++ ([2, 0, 0, 0, 0, 0, 0, 0, 0, 0, 0, 0, 0, 0, 0, 0, 0, 0, 0, 0, 0, 0, 0, 0, 0, 0, 0, 0, 0, 0, 0, 2] : List UInt8)) 2 (ansU 0 ([] : Lg) (1, (List.replicate 32 (0 : UInt8)), 1, [List.replicate 32 (0 : UInt8)].flatten)) (ansL (([1, 0, 0, 0, 0, 0, 0, 0, 0, 0, 0, 0, 0, 0, 0, 0, 0, 0, 0, 0, 0, 0, 0, 0, 0, 0, 0, 0, 0, 0, 0, 2] : List UInt8) ++ ([2, 0, 0, 0, 0, 0, 0, 0, 0, 0, 0, 0, 0, 0, 0, 0, 0, 0, 0, 0, 0, 0, 0, 0, 0, 0, 0, 0, 0, 0, 0, 2] : List UInt8)) 2 0 ([] : Lg) (1, (List.replicate 32 (0 : UInt8)), 1, [List.replicate 32 (0 : UInt8)].flatten)) (1, (List.replicate 32 (0 : UInt8)), 2, [ansD (([1, 0, 0, 0, 0, 0, 0, 0, 0, 0, 0, 0, 0, 0, 0, 0, 0, 0, 0, 0, 0, 0, 0, 0, 0, 0, 0, 0, 0, 0, 0, 2] : List UInt8) ++ ([2, 0, 0, 0, 0, 0, 0, 0, 0, 0, 0, 0, 0, 0, 0, 0, 0, 0, 0, 0, 0, 0, 0, 0, 0, 0, 0, 0, 0, 0, 0, 2] : List UInt8)) 2 0 ([] : Lg) (1, (List.replicate 32 (0 : UInt8)), 1, [List.replicate 32 (0 : UInt8)].flatten), leN 8 (UInt64.ofNat 3).toNat, List.replicate 128 (0 : UInt8)].flatten))) ((ansL (([1, 0, 0, 0, 0, 0, 0, 0, 0, 0, 0, 0, 0, 0, 0, 0, 0, 0, 0, 0, 0, 0, 0, 0, 0, 0, 0, 0, 0, 0, 0, 2] : List UInt8) ++ ([2, 0, 0, 0, 0, 0, 0, 0, 0, 0, 0, 0, 0, 0, 0, 0, 0, 0, 0, 0, 0, 0, 0, 0, 0, 0, 0, 0, 0, 0, 0, 2] : List UInt8)) 2 (ansU 0 ([] : Lg) (1, (List.replicate 32 (0 : UInt8)), 1, [List.replicate 32 (0 : UInt8)].flatten)) (ansL (([1, 0, 0, 0, 0, 0, 0, 0, 0, 0, 0, 0, 0, 0, 0, 0, 0, 0, 0, 0, 0, 0, 0, 0, 0, 0, 0, 0, 0, 0, 0, 2] : List UInt8) ++ ([2, 0, 0, 0, 0, 0, 0, 0, 0, 0, 0, 0, 0, 0, 0, 0, 0, 0, 0, 0, 0, 0, 0, 0, 0, 0, 0, 0, 0, 0, 0, 2] : List UInt8)) 2 0 ([] : Lg) (1, (List.replicate 32 (0 : UInt8)), 1, [List.replicate 32 (0 : UInt8)].flatten)) (1, (List.replicate 32 (0 : UInt8)), 2, [ansD (([1, 0, 0, 0, 0, 0, 0, 0, 0, 0, 0, 0, 0, 0, 0, 0, 0, 0, 0, 0, 0, 0, 0, 0, 0, 0, 0, 0, 0, 0, 0, 2] : List UInt8) ++ ([2, 0, 0, 0, 0, 0, 0, 0, 0, 0, 0, 0, 0, 0, 0, 0, 0, 0, 0, 0, 0, 0, 0, 0, 0, 0, 0, 0, 0, 0, 0, 2] : List UInt8)) 2 0 ([] : Lg) (1, (List.replicate 32 (0 : UInt8)), 1, [List.replicate 32 (0 : UInt8)].flatten), leN 8 (UInt64.ofNat 3).toNat, List.replicate 128 (0 : UInt8)].flatten)).length)), .pin (sblks lx_41) (fun w => Lgs w lx_41 (ansL (([1, 0, 0, 0, 0, 0, 0, 0, 0, 0, 0, 0, 0, 0, 0, 0, 0, 0, 0, 0, 0, 0, 0, 0, 0, 0, 0, 0, 0, 0, 0, 2] : List UInt8) ++ ([2, 0, 0, 0, 0, 0, 0, 0, 0, 0, 0, 0, 0, 0, 0, 0, 0, 0, 0, 0, 0, 0, 0, 0, 0, 0, 0, 0, 0, 0, 0, 2] : List UInt8)) 2 (ansU 0 ([] : Lg) (1, (List.replicate 32 (0 : UInt8)), 1, [List.replicate 32 (0 : UInt8)].flatten)) (ansL (([1, 0, 0, 0, 0, 0, 0, 0, 0, 0, 0, 0, 0, 0, 0, 0, 0, 0, 0, 0, 0, 0, 0, 0, 0, 0, 0, 0, 0, 0, 0, 2] : List UInt8) ++ ([2, 0, 0, 0, 0, 0, 0, 0, 0, 0, 0, 0, 0, 0, 0, 0, 0, 0, 0, 0, 0, 0, 0, 0, 0, 0, 0, 0, 0, 0, 0, 2] : List UInt8)) 2 0 ([] : Lg) (1, (List.replicate 32 (0 : UInt8)), 1, [List.replicate 32 (0 : UInt8)].flatten)) (1, (List.replicate 32 (0 : UInt8)), 2, [ansD (([1, 0, 0, 0, 0, 0, 0, 0, 0, 0, 0, 0, 0, 0, 0, 0, 0, 0, 0, 0, 0, 0, 0, 0, 0, 0, 0, 0, 0, 0, 0, 2] : List UInt8) ++ ([2, 0, 0, 0, 0, 0, 0, 0, 0, 0, 0, 0, 0, 0, 0, 0, 0, 0, 0, 0, 0, 0, 0, 0, 0, 0, 0, 0, 0, 0, 0, 2] : List UInt8)) 2 0 ([] : Lg) (1, (List.replicate 32 (0 : UInt8)), 1, [List.replicate 32 (0 : UInt8)].flatten), leN 8 (UInt64.ofNat 3).toNat, List.replicate 128 (0 : UInt8)].flatten))), .view a_14 ((([1, 0, 0, 0, 0, 0, 0, 0, 0, 0, 0, 0, 0, 0, 0, 0, 0, 0, 0, 0, 0, 0, 0, 0, 0, 0, 0, 0, 0, 0, 0, 2] : List UInt8) ++ ([2, 0, 0, 0, 0, 0, 0, 0, 0, 0, 0, 0, 0, 0, 0, 0, 0, 0, 0, 0, 0, 0, 0, 0, 0, 0, 0, 0, 0, 0, 0, 2] : List UInt8)).map vu8), .blk b_29 .nw 29 [(32, (ansD (([1, 0, 0, 0, 0, 0, 0, 0, 0, 0, 0, 0, 0, 0, 0, 0, 0, 0, 0, 0, 0, 0, 0, 0, 0, 0, 0, 0, 0, 0, 0, 2] : List UInt8) ++ ([2, 0, 0, 0, 0, 0, 0, 0, 0, 0, 0, 0, 0, 0, 0, 0, 0, 0, 0, 0, 0, 0, 0, 0, 0, 0, 0, 0, 0, 0, 0, 2] : List UInt8)) 2 0 ([] : Lg) (1, (List.replicate 32 (0 : UInt8)), 1, [List.replicate 32 (0 : UInt8)].flatten)).map vu8)], .view (some ⟨b_7, 0, none⟩) ((([1, 0, 0, 0, 0, 0, 0, 0, 0, 0, 0, 0, 0, 0, 0, 0, 0, 0, 0, 0, 0, 0, 0, 0, 0, 0, 0, 0, 0, 0, 0, 2] : List UInt8) ++ ([2, 0, 0, 0, 0, 0, 0, 0, 0, 0, 0, 0, 0, 0, 0, 0, 0, 0, 0, 0, 0, 0, 0, 0, 0, 0, 0, 0, 0, 0, 0, 2] : List UInt8)).map vu8)]) (.q 0 (.s 1 (.q 2 (.q 3 (.q 4 (.s 5 (.q 6 (.q 7 (.q 8 (.q 9 (.q 11 (.s 10 (.s 12 (.q 13 (.q 14 (.q 15 (.q 16 (.q 17 (.s 18 (.q 19 (.q 20 (.q 21 (.q 22 (.s 23 (.q 24 (.q 25 (.q 26 (.q 27 (.s 28 (.q 29 (.q 30 (.q 31 .nil)))))))))))))))))))))))))))))))) (by kernel_rfl) (by kernel_rfl) rfl (by kernel_rfl) (fun w_78 hc_80 => (SL.cons ((h_77.same hc_80).ok _ (.head _)) (SL.cons ((h_77.same hc_80).ok _ (.tail _ (.head _))) (SL.cons ((h_77.same hc_80).ok _ (.tail _ (.tail _ (.head _)))) (SL.cons ((h_77.same hc_80).ok _ (.tail _ (.tail _ (.tail _ (.head _))))) (SL.cons ((h_77.same hc_80).ok _ (.tail _ (.tail _ (.tail _ (.tail _ (.head _)))))) (SL.cons ((h_77.same hc_80).ok _ (.tail _ (.tail _ (.tail _ (.tail _ (.tail _ (.head _))))))) (SL.cons ((h_77.same hc_80).ok _ (.tail _ (.tail _ (.tail _ (.tail _ (.tail _ (.tail _ (.head _)))))))) (SL.cons ((h_77.same hc_80).ok _ (.tail _ (.tail _ (.tail _ (.tail _ (.tail _ (.tail _ (.tail _ (.head _))))))))) (SL.cons ((h_77.same hc_80).ok _ (.tail _ (.tail _ (.tail _ (.tail _ (.tail _ (.tail _ (.tail _ (.tail _ (.head _)))))))))) (SL.cons ((h_77.same hc_80).ok _ (.tail _ (.tail _ (.tail _ (.tail _ (.tail _ (.tail _ (.tail _ (.tail _ (.tail _ (.head _))))))))))) (SL.cons ((h_77.same hc_80).ok _ (.tail _ (.tail _ (.tail _ (.tail _ (.tail _ (.tail _ (.tail _ (.tail _ (.tail _ (.tail _ (.head _)))))))))))) (SL.cons ((h_77.same hc_80).ok _ (.tail _ (.tail _ (.tail _ (.tail _ (.tail _ (.tail _ (.tail _ (.tail _ (.tail _ (.tail _ (.tail _ (.head _))))))))))))) (SL.nil _ _)))))))))))))) (fun w_78 hc_80 => ?_)
  have h_79 := h_77.same hc_80
  refine WT.q rfl (Wn.no rfl) rfl rfl (fun wq hS => R.loadA (b := b_29) (off := 0) [] [(32, (ansD (([1, 0, 0, 0, 0, 0, 0, 0, 0, 0, 0, 0, 0, 0, 0, 0, 0, 0, 0, 0, 0, 0, 0, 0, 0, 0, 0, 0, 0, 0, 0, 2] : List UInt8) ++ ([2, 0, 0, 0, 0, 0, 0, 0, 0, 0, 0, 0, 0, 0, 0, 0, 0, 0, 0, 0, 0, 0, 0, 0, 0, 0, 0, 0, 0, 0, 0, 2] : List UInt8)) 2 0 ([] : Lg) (1, (List.replicate 32 (0 : UInt8)), 1, [List.replicate 32 (0 : UInt8)].flatten)).map vu8)] [] (cs := (ansD (([1, 0, 0, 0, 0, 0, 0, 0, 0, 0, 0, 0, 0, 0, 0, 0, 0, 0, 0, 0, 0, 0, 0, 0, 0, 0, 0, 0, 0, 0, 0, 2] : List UInt8) ++ ([2, 0, 0, 0, 0, 0, 0, 0, 0, 0, 0, 0, 0, 0, 0, 0, 0, 0, 0, 0, 0, 0, 0, 0, 0, 0, 0, 0, 0, 0, 0, 2] : List UInt8)) 2 0 ([] : Lg) (1, (List.replicate 32 (0 : UInt8)), 1, [List.replicate 32 (0 : UInt8)].flatten)).map vu8) rfl Try.isAgg29 Try.sizeOf29 (hS _ (.tail _ (.tail _ (.tail _ (.tail _ (.tail _ (.tail _ (.tail _ (.tail _ (.tail _ (.tail _ (.head _)))))))))))) rfl rfl rfl rfl) ?_
  refine WT.s ?_
  refine Op1.one rfl (Wn.no rfl) ?_
  refine WL.call (al := [(vu8 1)]) Try.call21 rfl rfl (c_dr1  _ ) rfl ?_
  rintro _ w_82 ⟨rfl, hc_81⟩
  have h_83 := h_79.same hc_81
  refine WL.nil ?_
  refine ⟨(SL.cons (h_83.ok _ (.head _)) (SL.cons (h_83.ok _ (.tail _ (.head _))) (SL.cons (h_83.ok _ (.tail _ (.tail _ (.head _)))) (SL.cons (h_83.ok _ (.tail _ (.tail _ (.tail _ (.head _))))) (SL.cons (h_83.ok _ (.tail _ (.tail _ (.tail _ (.tail _ (.head _)))))) (SL.cons (h_83.ok _ (.tail _ (.tail _ (.tail _ (.tail _ (.tail _ (.head _))))))) (SL.cons (h_83.ok _ (.tail _ (.tail _ (.tail _ (.tail _ (.tail _ (.tail _ (.head _)))))))) (SL.cons (h_83.ok _ (.tail _ (.tail _ (.tail _ (.tail _ (.tail _ (.tail _ (.tail _ (.head _))))))))) (SL.cons (h_83.ok _ (.tail _ (.tail _ (.tail _ (.tail _ (.tail _ (.tail _ (.tail _ (.tail _ (.head _)))))))))) (SL.cons (h_83.ok _ (.tail _ (.tail _ (.tail _ (.tail _ (.tail _ (.tail _ (.tail _ (.tail _ (.tail _ (.head _))))))))))) (SL.cons (h_83.ok _ (.tail _ (.tail _ (.tail _ (.tail _ (.tail _ (.tail _ (.tail _ (.tail _ (.tail _ (.tail _ (.head _)))))))))))) (SL.cons (h_83.ok _ (.tail _ (.tail _ (.tail _ (.tail _ (.tail _ (.tail _ (.tail _ (.tail _ (.tail _ (.tail _ (.tail _ (.head _))))))))))))) (SL.nil _ _))))))))))))), ?_⟩
  refine WT.q rfl (Wn.no rfl) rfl rfl (fun wq hS => R.eqA (xs := (ansD (([1, 0, 0, 0, 0, 0, 0, 0, 0, 0, 0, 0, 0, 0, 0, 0, 0, 0, 0, 0, 0, 0, 0, 0, 0, 0, 0, 0, 0, 0, 0, 2] : List UInt8) ++ ([2, 0, 0, 0, 0, 0, 0, 0, 0, 0, 0, 0, 0, 0, 0, 0, 0, 0, 0, 0, 0, 0, 0, 0, 0, 0, 0, 0, 0, 0, 0, 2] : List UInt8)) 2 0 ([] : Lg) (1, (List.replicate 32 (0 : UInt8)), 1, [List.replicate 32 (0 : UInt8)].flatten)).map vu8) (ys := ([1, 0, 0, 0, 0, 0, 0, 0, 0, 0, 0, 0, 0, 0, 0, 0, 0, 0, 0, 0, 0, 0, 0, 0, 0, 0, 0, 0, 0, 0, 0, 2] : List UInt8).map vu8) (r := true) rfl rfl Try.eqGuardType29 kt29 (by decide) ag29 (Typ.u8s Try.underlying29 ce29 Try.underlying5 ce5 (ansD_len (rfl : List.length (([1, 0, 0, 0, 0, 0, 0, 0, 0, 0, 0, 0, 0, 0, 0, 0, 0, 0, 0, 0, 0, 0, 0, 0, 0, 0, 0, 0, 0, 0, 0, 2] : List UInt8) ++ ([2, 0, 0, 0, 0, 0, 0, 0, 0, 0, 0, 0, 0, 0, 0, 0, 0, 0, 0, 0, 0, 0, 0, 0, 0, 0, 0, 0, 0, 0, 0, 2] : List UInt8)) = 64) h32_w_27)) (Typ.u8s Try.underlying29 ce29 Try.underlying5 ce5 (rfl : List.length ([1, 0, 0, 0, 0, 0, 0, 0, 0, 0, 0, 0, 0, 0, 0, 0, 0, 0, 0, 0, 0, 0, 0, 0, 0, 0, 0, 0, 0, 0, 0, 2] : List UInt8) = 32)) (eqT (congrArg (List.map vu8) (by decide +kernel)))) ?_
  refine WT.q rfl (Wn.no rfl) rfl rfl (fun wq hS => R.move (v := (.bool true)) rfl) ?_
  refine WT.q rfl (Wn.yes rfl rfl rfl) rfl rfl (fun wq hS => R.loadA (b := b_44) (off := 0) [] [(32, (ansD (([1, 0, 0, 0, 0, 0, 0, 0, 0, 0, 0, 0, 0, 0, 0, 0, 0, 0, 0, 0, 0, 0, 0, 0, 0, 0, 0, 0, 0, 0, 0, 2] : List UInt8) ++ ([2, 0, 0, 0, 0, 0, 0, 0, 0, 0, 0, 0, 0, 0, 0, 0, 0, 0, 0, 0, 0, 0, 0, 0, 0, 0, 0, 0, 0, 0, 0, 2] : List UInt8)) 2 (ansU 0 ([] : Lg) (1, (List.replicate 32 (0 : UInt8)), 1, [List.replicate 32 (0 : UInt8)].flatten)) (ansL (([1, 0, 0, 0, 0, 0, 0, 0, 0, 0, 0, 0, 0, 0, 0, 0, 0, 0, 0, 0, 0, 0, 0, 0, 0, 0, 0, 0, 0, 0, 0, 2] : List UInt8) ++ ([2, 0, 0, 0, 0, 0, 0, 0, 0, 0, 0, 0, 0, 0, 0, 0, 0, 0, 0, 0, 0, 0, 0, 0, 0, 0, 0, 0, 0, 0, 0, 2] : List UInt8)) 2 0 ([] : Lg) (1, (List.replicate 32 (0 : UInt8)), 1, [List.replicate 32 (0 : UInt8)].flatten)) (1, (List.replicate 32 (0 : UInt8)), 2, [ansD (([1, 0, 0, 0, 0, 0, 0, 0, 0, 0, 0, 0, 0, 0, 0, 0, 0, 0, 0, 0, 0, 0, 0, 0, 0, 0, 0, 0, 0, 0, 0, 2] : List UInt8) ++ ([2, 0, 0, 0, 0, 0, 0, 0, 0, 0, 0, 0, 0, 0, 0, 0, 0, 0, 0, 0, 0, 0, 0, 0, 0, 0, 0, 0, 0, 0, 0, 2] : List UInt8)) 2 0 ([] : Lg) (1, (List.replicate 32 (0 : UInt8)), 1, [List.replicate 32 (0 : UInt8)].flatten), leN 8 (UInt64.ofNat 3).toNat, List.replicate 128 (0 : UInt8)].flatten)).map vu8)] [] (cs := (ansD (([1, 0, 0, 0, 0, 0, 0, 0, 0, 0, 0, 0, 0, 0, 0, 0, 0, 0, 0, 0, 0, 0, 0, 0, 0, 0, 0, 0, 0, 0, 0, 2] : List UInt8) ++ ([2, 0, 0, 0, 0, 0, 0, 0, 0, 0, 0, 0, 0, 0, 0, 0, 0, 0, 0, 0, 0, 0, 0, 0, 0, 0, 0, 0, 0, 0, 0, 2] : List UInt8)) 2 (ansU 0 ([] : Lg) (1, (List.replicate 32 (0 : UInt8)), 1, [List.replicate 32 (0 : UInt8)].flatten)) (ansL (([1, 0, 0, 0, 0, 0, 0, 0, 0, 0, 0, 0, 0, 0, 0, 0, 0, 0, 0, 0, 0, 0, 0, 0, 0, 0, 0, 0, 0, 0, 0, 2] : List UInt8) ++ ([2, 0, 0, 0, 0, 0, 0, 0, 0, 0, 0, 0, 0, 0, 0, 0, 0, 0, 0, 0, 0, 0, 0, 0, 0, 0, 0, 0, 0, 0, 0, 2] : List UInt8)) 2 0 ([] : Lg) (1, (List.replicate 32 (0 : UInt8)), 1, [List.replicate 32 (0 : UInt8)].flatten)) (1, (List.replicate 32 (0 : UInt8)), 2, [ansD (([1, 0, 0, 0, 0, 0, 0, 0, 0, 0, 0, 0, 0, 0, 0, 0, 0, 0, 0, 0, 0, 0, 0, 0, 0, 0, 0, 0, 0, 0, 0, 2] : List UInt8) ++ ([2, 0, 0, 0, 0, 0, 0, 0, 0, 0, 0, 0, 0, 0, 0, 0, 0, 0, 0, 0, 0, 0, 0, 0, 0, 0, 0, 0, 0, 0, 0, 2] : List UInt8)) 2 0 ([] : Lg) (1, (List.replicate 32 (0 : UInt8)), 1, [List.replicate 32 (0 : UInt8)].flatten), leN 8 (UInt64.ofNat 3).toNat, List.replicate 128 (0 : UInt8)].flatten)).map vu8) rfl Try.isAgg29 Try.sizeOf29 (hS _ (.tail _ (.tail _ (.tail _ (.tail _ (.head _)))))) rfl rfl rfl rfl) ?_
  refine WT.s ?_
  refine Op1.one rfl (Wn.yes rfl rfl rfl) ?_
  refine WL.call (al := [(vu8 2)]) Try.call21 rfl rfl (c_dr2  _ ) rfl ?_
  rintro _ w_85 ⟨rfl, hc_84⟩
  have h_86 := h_83.same hc_84
  refine WL.nil ?_
  refine ⟨(SL.cons (h_86.ok _ (.head _)) (SL.cons (h_86.ok _ (.tail _ (.head _))) (SL.cons (h_86.ok _ (.tail _ (.tail _ (.head _)))) (SL.cons (h_86.ok _ (.tail _ (.tail _ (.tail _ (.head _))))) (SL.cons (h_86.ok _ (.tail _ (.tail _ (.tail _ (.tail _ (.head _)))))) (SL.cons (h_86.ok _ (.tail _ (.tail _ (.tail _ (.tail _ (.tail _ (.head _))))))) (SL.cons (h_86.ok _ (.tail _ (.tail _ (.tail _ (.tail _ (.tail _ (.tail _ (.head _)))))))) (SL.cons (h_86.ok _ (.tail _ (.tail _ (.tail _ (.tail _ (.tail _ (.tail _ (.tail _ (.head _))))))))) (SL.cons (h_86.ok _ (.tail _ (.tail _ (.tail _ (.tail _ (.tail _ (.tail _ (.tail _ (.tail _ (.head _)))))))))) (SL.cons (h_86.ok _ (.tail _ (.tail _ (.tail _ (.tail _ (.tail _ (.tail _ (.tail _ (.tail _ (.tail _ (.head _))))))))))) (SL.cons (h_86.ok _ (.tail _ (.tail _ (.tail _ (.tail _ (.tail _ (.tail _ (.tail _ (.tail _ (.tail _ (.tail _ (.head _)))))))))))) (SL.cons (h_86.ok _ (.tail _ (.tail _ (.tail _ (.tail _ (.tail _ (.tail _ (.tail _ (.tail _ (.tail _ (.tail _ (.tail _ (.head _))))))))))))) (SL.nil _ _))))))))))))), ?_⟩
  refine WT.q rfl (Wn.yes rfl rfl rfl) rfl rfl (fun wq hS => R.eqA (xs := (ansD (([1, 0, 0, 0, 0, 0, 0, 0, 0, 0, 0, 0, 0, 0, 0, 0, 0, 0, 0, 0, 0, 0, 0, 0, 0, 0, 0, 0, 0, 0, 0, 2] : List UInt8) ++ ([2, 0, 0, 0, 0, 0, 0, 0, 0, 0, 0, 0, 0, 0, 0, 0, 0, 0, 0, 0, 0, 0, 0, 0, 0, 0, 0, 0, 0, 0, 0, 2] : List UInt8)) 2 (ansU 0 ([] : Lg) (1, (List.replicate 32 (0 : UInt8)), 1, [List.replicate 32 (0 : UInt8)].flatten)) (ansL (([1, 0, 0, 0, 0, 0, 0, 0, 0, 0, 0, 0, 0, 0, 0, 0, 0, 0, 0, 0, 0, 0, 0, 0, 0, 0, 0, 0, 0, 0, 0, 2] : List UInt8) ++ ([2, 0, 0, 0, 0, 0, 0, 0, 0, 0, 0, 0, 0, 0, 0, 0, 0, 0, 0, 0, 0, 0, 0, 0, 0, 0, 0, 0, 0, 0, 0, 2] : List UInt8)) 2 0 ([] : Lg) (1, (List.replicate 32 (0 : UInt8)), 1, [List.replicate 32 (0 : UInt8)].flatten)) (1, (List.replicate 32 (0 : UInt8)), 2, [ansD (([1, 0, 0, 0, 0, 0, 0, 0, 0, 0, 0, 0, 0, 0, 0, 0, 0, 0, 0, 0, 0, 0, 0, 0, 0, 0, 0, 0, 0, 0, 0, 2] : List UInt8) ++ ([2, 0, 0, 0, 0, 0, 0, 0, 0, 0, 0, 0, 0, 0, 0, 0, 0, 0, 0, 0, 0, 0, 0, 0, 0, 0, 0, 0, 0, 0, 0, 2] : List UInt8)) 2 0 ([] : Lg) (1, (List.replicate 32 (0 : UInt8)), 1, [List.replicate 32 (0 : UInt8)].flatten), leN 8 (UInt64.ofNat 3).toNat, List.replicate 128 (0 : UInt8)].flatten)).map vu8) (ys := ([2, 0, 0, 0, 0, 0, 0, 0, 0, 0, 0, 0, 0, 0, 0, 0, 0, 0, 0, 0, 0, 0, 0, 0, 0, 0, 0, 0, 0, 0, 0, 2] : List UInt8).map vu8) (r := true) rfl rfl Try.eqGuardType29 kt29 (by decide) ag29 (Typ.u8s Try.underlying29 ce29 Try.underlying5 ce5 (ansD_len (rfl : List.length (([1, 0, 0, 0, 0, 0, 0, 0, 0, 0, 0, 0, 0, 0, 0, 0, 0, 0, 0, 0, 0, 0, 0, 0, 0, 0, 0, 0, 0, 0, 0, 2] : List UInt8) ++ ([2, 0, 0, 0, 0, 0, 0, 0, 0, 0, 0, 0, 0, 0, 0, 0, 0, 0, 0, 0, 0, 0, 0, 0, 0, 0, 0, 0, 0, 0, 0, 2] : List UInt8)) = 64) h32_w_42)) (Typ.u8s Try.underlying29 ce29 Try.underlying5 ce5 (rfl : List.length ([2, 0, 0, 0, 0, 0, 0, 0, 0, 0, 0, 0, 0, 0, 0, 0, 0, 0, 0, 0, 0, 0, 0, 0, 0, 0, 0, 0, 0, 0, 0, 2] : List UInt8) = 32)) (eqT (congrArg (List.map vu8) (by decide +kernel)))) ?_
  refine WT.q rfl (Wn.no rfl) rfl rfl (fun wq hS => R.pickT (v := (.bool true)) rfl rfl) ?_
  refine WT.q rfl (Wn.no rfl) rfl rfl (fun wq hS => R.move (v := (.bool true)) rfl) ?_
  refine WT.q rfl (Wn.yes rfl rfl rfl) rfl rfl (fun wq hS => R.move (v := (vi 0)) rfl) ?_
  refine WT.q rfl (Wn.yes rfl rfl rfl) rfl rfl (fun wq hS => R.move (v := (vi 0)) rfl) ?_
  refine WT.s ?_
  refine Op1.one rfl (Wn.yes rfl rfl rfl) ?_
  refine WL.call (al := [(vi 0)]) Try.call14 rfl rfl (c_num12 0 (by omega) _ ) rfl ?_
  rintro _ w_88 ⟨rfl, hc_87⟩
  have h_89 := h_86.same hc_87
  refine WL.nil ?_
  refine ⟨(SL.cons (h_89.ok _ (.head _)) (SL.cons (h_89.ok _ (.tail _ (.head _))) (SL.cons (h_89.ok _ (.tail _ (.tail _ (.head _)))) (SL.cons (h_89.ok _ (.tail _ (.tail _ (.tail _ (.head _))))) (SL.cons (h_89.ok _ (.tail _ (.tail _ (.tail _ (.tail _ (.head _)))))) (SL.cons (h_89.ok _ (.tail _ (.tail _ (.tail _ (.tail _ (.tail _ (.head _))))))) (SL.cons (h_89.ok _ (.tail _ (.tail _ (.tail _ (.tail _ (.tail _ (.tail _ (.head _)))))))) (SL.cons (h_89.ok _ (.tail _ (.tail _ (.tail _ (.tail _ (.tail _ (.tail _ (.tail _ (.head _))))))))) (SL.cons (h_89.ok _ (.tail _ (.tail _ (.tail _ (.tail _ (.tail _ (.tail _ (.tail _ (.tail _ (.head _)))))))))) (SL.cons (h_89.ok _ (.tail _ (.tail _ (.tail _ (.tail _ (.tail _ (.tail _ (.tail _ (.tail _ (.tail _ (.head _))))))))))) (SL.cons (h_89.ok _ (.tail _ (.tail _ (.tail _ (.tail _ (.tail _ (.tail _ (.tail _ (.tail _ (.tail _ (.tail _ (.head _)))))))))))) (SL.cons (h_89.ok _ (.tail _ (.tail _ (.tail _ (.tail _ (.tail _ (.tail _ (.tail _ (.tail _ (.tail _ (.tail _ (.tail _ (.head _))))))))))))) (SL.nil _ _))))))))))))), ?_⟩
  refine WT.s ?_
  refine Op1.one rfl (Wn.yes rfl rfl rfl) ?_
  refine WL.call (al := [(vi 0)]) Try.call14 rfl rfl (c_num12 0 (by omega) _ ) rfl ?_
  rintro _ w_91 ⟨rfl, hc_90⟩
  have h_92 := h_89.same hc_90
  refine WL.nil ?_
  refine ⟨(SL.cons (h_92.ok _ (.head _)) (SL.cons (h_92.ok _ (.tail _ (.head _))) (SL.cons (h_92.ok _ (.tail _ (.tail _ (.head _)))) (SL.cons (h_92.ok _ (.tail _ (.tail _ (.tail _ (.head _))))) (SL.cons (h_92.ok _ (.tail _ (.tail _ (.tail _ (.tail _ (.head _)))))) (SL.cons (h_92.ok _ (.tail _ (.tail _ (.tail _ (.tail _ (.tail _ (.head _))))))) (SL.cons (h_92.ok _ (.tail _ (.tail _ (.tail _ (.tail _ (.tail _ (.tail _ (.head _)))))))) (SL.cons (h_92.ok _ (.tail _ (.tail _ (.tail _ (.tail _ (.tail _ (.tail _ (.tail _ (.head _))))))))) (SL.cons (h_92.ok _ (.tail _ (.tail _ (.tail _ (.tail _ (.tail _ (.tail _ (.tail _ (.tail _ (.head _)))))))))) (SL.cons (h_92.ok _ (.tail _ (.tail _ (.tail _ (.tail _ (.tail _ (.tail _ (.tail _ (.tail _ (.tail _ (.head _))))))))))) (SL.cons (h_92.ok _ (.tail _ (.tail _ (.tail _ (.tail _ (.tail _ (.tail _ (.tail _ (.tail _ (.tail _ (.tail _ (.head _)))))))))))) (SL.cons (h_92.ok _ (.tail _ (.tail _ (.tail _ (.tail _ (.tail _ (.tail _ (.tail _ (.tail _ (.tail _ (.tail _ (.tail _ (.head _))))))))))))) (SL.nil _ _))))))))))))), ?_⟩
  refine WT.q rfl (Wn.yes rfl rfl rfl) rfl rfl (fun wq hS => R.bin (v := (vi 0)) rfl rfl (bi_add (c := 0) (by omega) (by omega))) ?_
  refine WT.q rfl (Wn.yes rfl rfl rfl) rfl rfl (fun wq hS => R.bin (v := (.bool true)) rfl rfl (bi_eql (r := true) (by decide))) ?_
  refine WT.q rfl (Wn.no rfl) rfl rfl (fun wq hS => R.pickT (v := (.bool true)) rfl rfl) ?_
  refine WT.q rfl (Wn.no rfl) rfl rfl (fun wq hS => R.move (v := (.bool true)) rfl) ?_
  refine WT.q rfl (Wn.yes rfl rfl rfl) rfl rfl (fun wq hS => R.move (v := (vi 2)) rfl) ?_
  refine WT.s ?_
  refine Op1.one rfl (Wn.yes rfl rfl rfl) ?_
  refine WL.call (al := [(vi 2)]) Try.call14 rfl rfl (c_num12 2 (by omega) _ ) rfl ?_
  rintro _ w_94 ⟨rfl, hc_93⟩
  have h_95 := h_92.same hc_93
  refine WL.nil ?_
  refine ⟨(SL.cons (h_95.ok _ (.head _)) (SL.cons (h_95.ok _ (.tail _ (.head _))) (SL.cons (h_95.ok _ (.tail _ (.tail _ (.head _)))) (SL.cons (h_95.ok _ (.tail _ (.tail _ (.tail _ (.head _))))) (SL.cons (h_95.ok _ (.tail _ (.tail _ (.tail _ (.tail _ (.head _)))))) (SL.cons (h_95.ok _ (.tail _ (.tail _ (.tail _ (.tail _ (.tail _ (.head _))))))) (SL.cons (h_95.ok _ (.tail _ (.tail _ (.tail _ (.tail _ (.tail _ (.tail _ (.head _)))))))) (SL.cons (h_95.ok _ (.tail _ (.tail _ (.tail _ (.tail _ (.tail _ (.tail _ (.tail _ (.head _))))))))) (SL.cons (h_95.ok _ (.tail _ (.tail _ (.tail _ (.tail _ (.tail _ (.tail _ (.tail _ (.tail _ (.head _)))))))))) (SL.cons (h_95.ok _ (.tail _ (.tail _ (.tail _ (.tail _ (.tail _ (.tail _ (.tail _ (.tail _ (.tail _ (.head _))))))))))) (SL.cons (h_95.ok _ (.tail _ (.tail _ (.tail _ (.tail _ (.tail _ (.tail _ (.tail _ (.tail _ (.tail _ (.tail _ (.head _)))))))))))) (SL.cons (h_95.ok _ (.tail _ (.tail _ (.tail _ (.tail _ (.tail _ (.tail _ (.tail _ (.tail _ (.tail _ (.tail _ (.tail _ (.head _))))))))))))) (SL.nil _ _))))))))))))), ?_⟩
  refine WT.q rfl (Wn.yes rfl rfl rfl) rfl rfl (fun wq hS => R.bin (v := (.bool true)) rfl rfl (bi_eql (r := true) (by decide))) ?_
  refine WT.q rfl (Wn.no rfl) rfl rfl (fun wq hS => R.pickT (v := (.bool true)) rfl rfl) ?_
  refine WT.q rfl (Wn.no rfl) rfl rfl (fun wq hS => R.move (v := (.bool true)) rfl) ?_
  refine WT.q rfl (Wn.yes rfl rfl rfl) rfl rfl (fun wq hS => R.move (v := (vi 2)) rfl) ?_
  refine WT.s ?_
  refine Op1.one rfl (Wn.yes rfl rfl rfl) ?_
  refine WL.call (al := [(vi 2)]) Try.call14 rfl rfl (c_num12 2 (by omega) _ ) rfl ?_
  rintro _ w_97 ⟨rfl, hc_96⟩
  have h_98 := h_95.same hc_96
  refine WL.nil ?_
  refine ⟨(SL.cons (h_98.ok _ (.head _)) (SL.cons (h_98.ok _ (.tail _ (.head _))) (SL.cons (h_98.ok _ (.tail _ (.tail _ (.head _)))) (SL.cons (h_98.ok _ (.tail _ (.tail _ (.tail _ (.head _))))) (SL.cons (h_98.ok _ (.tail _ (.tail _ (.tail _ (.tail _ (.head _)))))) (SL.cons (h_98.ok _ (.tail _ (.tail _ (.tail _ (.tail _ (.tail _ (.head _))))))) (SL.cons (h_98.ok _ (.tail _ (.tail _ (.tail _ (.tail _ (.tail _ (.tail _ (.head _)))))))) (SL.cons (h_98.ok _ (.tail _ (.tail _ (.tail _ (.tail _ (.tail _ (.tail _ (.tail _ (.head _))))))))) (SL.cons (h_98.ok _ (.tail _ (.tail _ (.tail _ (.tail _ (.tail _ (.tail _ (.tail _ (.tail _ (.head _)))))))))) (SL.cons (h_98.ok _ (.tail _ (.tail _ (.tail _ (.tail _ (.tail _ (.tail _ (.tail _ (.tail _ (.tail _ (.head _))))))))))) (SL.cons (h_98.ok _ (.tail _ (.tail _ (.tail _ (.tail _ (.tail _ (.tail _ (.tail _ (.tail _ (.tail _ (.tail _ (.head _)))))))))))) (SL.cons (h_98.ok _ (.tail _ (.tail _ (.tail _ (.tail _ (.tail _ (.tail _ (.tail _ (.tail _ (.tail _ (.tail _ (.tail _ (.head _))))))))))))) (SL.nil _ _))))))))))))), ?_⟩
  refine WT.q rfl (Wn.yes rfl rfl rfl) rfl rfl (fun wq hS => R.bin (v := (.bool true)) rfl rfl (bi_eql (r := true) (by decide))) ?_
  refine WT.q rfl (Wn.no rfl) rfl rfl (fun wq hS => R.pickT (v := (.bool true)) rfl rfl) ?_
  refine WT.q rfl (Wn.no rfl) rfl rfl (fun wq hS => R.move (v := (.bool true)) rfl) ?_
  refine WT.q rfl (Wn.yes rfl rfl rfl) rfl rfl (fun wq hS => R.move (v := (vi 2)) rfl) ?_
  refine WT.s ?_
  refine Op1.one rfl (Wn.yes rfl rfl rfl) ?_
  refine WL.call (al := [(vi 2)]) Try.call14 rfl rfl (c_num12 2 (by omega) _ ) rfl ?_
  rintro _ w_100 ⟨rfl, hc_99⟩
  have h_101 := h_98.same hc_99
  refine WL.nil ?_
  refine ⟨(SL.cons (h_101.ok _ (.head _)) (SL.cons (h_101.ok _ (.tail _ (.head _))) (SL.cons (h_101.ok _ (.tail _ (.tail _ (.head _)))) (SL.cons (h_101.ok _ (.tail _ (.tail _ (.tail _ (.head _))))) (SL.cons (h_101.ok _ (.tail _ (.tail _ (.tail _ (.tail _ (.head _)))))) (SL.cons (h_101.ok _ (.tail _ (.tail _ (.tail _ (.tail _ (.tail _ (.head _))))))) (SL.cons (h_101.ok _ (.tail _ (.tail _ (.tail _ (.tail _ (.tail _ (.tail _ (.head _)))))))) (SL.cons (h_101.ok _ (.tail _ (.tail _ (.tail _ (.tail _ (.tail _ (.tail _ (.tail _ (.head _))))))))) (SL.cons (h_101.ok _ (.tail _ (.tail _ (.tail _ (.tail _ (.tail _ (.tail _ (.tail _ (.tail _ (.head _)))))))))) (SL.cons (h_101.ok _ (.tail _ (.tail _ (.tail _ (.tail _ (.tail _ (.tail _ (.tail _ (.tail _ (.tail _ (.head _))))))))))) (SL.cons (h_101.ok _ (.tail _ (.tail _ (.tail _ (.tail _ (.tail _ (.tail _ (.tail _ (.tail _ (.tail _ (.tail _ (.head _)))))))))))) (SL.cons (h_101.ok _ (.tail _ (.tail _ (.tail _ (.tail _ (.tail _ (.tail _ (.tail _ (.tail _ (.tail _ (.tail _ (.tail _ (.head _))))))))))))) (SL.nil _ _))))))))))))), ?_⟩
  refine WT.q rfl (Wn.yes rfl rfl rfl) rfl rfl (fun wq hS => R.bin (v := (.bool true)) rfl rfl (bi_eql (r := true) (by decide))) ?_
  refine WT.q rfl (Wn.no rfl) rfl rfl (fun wq hS => R.pickT (v := (.bool true)) rfl rfl) ?_
  refine WT.q rfl (Wn.no rfl) rfl rfl (fun wq hS => R.assign (v := (.bool true)) rfl) ?_
  refine WT.nil ?_
  refine thn_n ?_
  refine WP.ret ?_
  refine ret_of Try.results10 (RV.tmp (v := (.bool true)) rfl RV.nil) ?_
  exact ⟨rfl, h_101.chgS⟩
end Go.Proofs.Ytbldmljbfokobaa
