/- Oracles: what is refused: contracts. Conditions: those that each theorem states. -/
import Derived.Test.YtbldmljbfokobaaQ7
import Derived.Test.YtbldmljbfokobaaO7
import Derived.Test.YtbldmljbfokobaaO5
namespace Go.Proofs.Ytbldmljbfokobaa
open Go.Vc Go.Orc Go.RowKit
set_option linter.unusedVariables false
set_option linter.unusedSimpArgs false
set_option maxRecDepth 20000

theorem c_may_d (key : List UInt8) (qa : Option Addr) (qn qc : Nat) (hk : key.length = 32) (w : World) :
    Cs Try.prog 54 [(.agg ⟨flat [(1, [(vi 1)]), (32, key.map vu8), (1, [(vi 0)]), (1, [(.slice qa qn qc)])]⟩)].toArray w (fun v w1 => v = (.bool false) ∧ Chg w w1 []) := by
  refine Cs.of (n := 32) (args := [(.agg ⟨flat [(1, [(vi 1)]), (32, key.map vu8), (1, [(vi 0)]), (1, [(.slice qa qn qc)])]⟩)]) Try.func54 rfl rfl rfl ?_
  have h_0 := HP.init w
  refine WP.seq ?_
  refine WP.reg ?_
  refine WL.box (v := (.agg ⟨flat [(1, [(vi 1)]), (32, key.map vu8), (1, [(vi 0)]), (1, [(.slice qa qn qc)])]⟩)) (segs := [(1, [(vi 1)]), (32, key.map vu8), (1, [(vi 0)]), (1, [(.slice qa qn qc)])]) h_0 rfl rfl (SsOk.cons (SOk.v rfl) (SsOk.cons (SOk.u8 hk) (SsOk.cons (SOk.v rfl) (SsOk.cons (SOk.v rfl) SsOk.nil)))) rfl (fun b_1 w_2 h_3 => ?_)
  refine WL.q (Wn.no rfl) rfl rfl (R.assign (v := (.bool false)) rfl) ?_
  refine WL.nil ?_
  refine thn_n ?_
  refine WP.seq ?_
  refine WP.reg ?_
  refine WL.q (Wn.no rfl) rfl rfl (R.fieldAddr (b := b_1) (off := 0) (off' := 0) rfl Try.underlying64 rfl Try.sizeOf60 rfl rfl) ?_
  refine WL.q (Wn.no rfl) rfl rfl (R.load1 (b := b_1) (off := 0) (v := (vi 1)) rfl Try.isAgg60 (h_3.ok _ (.head _)) Sg.h) ?_
  refine WL.q (Wn.no rfl) rfl rfl (R.bin (v := (.bool true)) rfl rfl (bi_geq (r := true) (by decide))) ?_
  refine WL.q (Wn.no rfl) rfl rfl (R.move (v := (.bool true)) rfl) ?_
  refine WL.want rfl rfl ?_
  refine WL.q (Wn.no rfl) rfl rfl (R.fieldAddr (b := b_1) (off := 0) (off' := 0) rfl Try.underlying64 rfl Try.sizeOf60 rfl rfl) ?_
  refine WL.want rfl rfl ?_
  refine WL.q (Wn.no rfl) rfl rfl (R.load1 (b := b_1) (off := 0) (v := (vi 1)) rfl Try.isAgg60 (h_3.ok _ (.head _)) Sg.h) ?_
  refine WL.want rfl rfl ?_
  refine WL.q (Wn.no rfl) rfl rfl (R.bin (v := (.bool true)) rfl rfl (bi_leq (r := true) (by decide))) ?_
  refine WL.q (Wn.no rfl) rfl rfl (R.pickT (v := (.bool true)) rfl rfl) ?_
  refine WL.q (Wn.no rfl) rfl rfl (R.move (v := (.bool true)) rfl) ?_
  refine WL.want rfl rfl ?_
  refine WL.q (Wn.no rfl) rfl rfl (R.fieldAddr (b := b_1) (off := 0) (off' := 33) rfl Try.underlying64 rfl Try.sizeOf61 rfl rfl) ?_
  refine WL.want rfl rfl ?_
  refine WL.q (Wn.no rfl) rfl rfl (R.load1 (b := b_1) (off := 33) (v := (vi 0)) rfl Try.isAgg61 (h_3.ok _ (.head _)) (Sg.t rfl (Sg.t rfl Sg.h))) ?_
  refine WL.want rfl rfl ?_
  refine WL.q (Wn.no rfl) rfl rfl (R.bin (v := (.bool false)) rfl rfl (bi_geq (r := false) (by decide))) ?_
  refine WL.q (Wn.no rfl) rfl rfl (R.pickT (v := (.bool false)) rfl rfl) ?_
  refine WL.q (Wn.no rfl) rfl rfl (R.move (v := (.bool false)) rfl) ?_
  refine WL.skip rfl rfl rfl ?_
  refine WL.skip rfl rfl rfl ?_
  refine WL.skip rfl rfl rfl ?_
  refine WL.q (Wn.no rfl) rfl rfl (R.pickF (v := (.bool false)) rfl rfl) ?_
  refine WL.q (Wn.no rfl) rfl rfl (R.move (v := (.bool false)) rfl) ?_
  refine WL.skip rfl rfl rfl ?_
  refine WL.skip rfl rfl rfl ?_
  refine WL.skip rfl rfl rfl ?_
  refine WL.skip rfl rfl rfl ?_
  refine WL.skipU rfl rfl rfl ?_
  refine WL.skipU rfl rfl rfl ?_
  refine WL.skipU rfl rfl rfl ?_
  refine WL.skipU rfl rfl rfl ?_
  refine WL.skip rfl rfl rfl ?_
  refine WL.q (Wn.no rfl) rfl rfl (R.pickF (v := (.bool false)) rfl rfl) ?_
  refine WL.q (Wn.no rfl) rfl rfl (R.assign (v := (.bool false)) rfl) ?_
  refine WL.nil ?_
  refine thn_n ?_
  refine WP.ret ?_
  refine ret_of Try.results54 (RV.tmp (v := (.bool false)) rfl RV.nil) ?_
  exact ⟨rfl, h_3.chgS⟩

theorem c_oAsk_d (ob mp : Nat) (ms : List UInt8) (hms : ms.length = 32) (da : Option Addr) (dn dc u : Nat) (la : Option Addr) (ln lc : Nat) (key : List UInt8) (qa : Option Addr) (qn qc : Nat) (hk : key.length = 32) (w : World) (hcb : (Ent.blk ob .ro 47 [(1, [(.bool true)]), (32, ms.map vu8), (1, [(.slice da dn dc)]), (1, [(vi ((u : Nat) : Int))]), (1, [(.map (some mp))]), (1, [(.slice la ln lc)])]).ok w.heap.size w) :
    Cs Try.prog 25 [(.pointer (some ⟨ob, 0, none⟩)), (.agg ⟨flat [(1, [(vi 1)]), (32, key.map vu8), (1, [(vi 0)]), (1, [(.slice qa qn qc)])]⟩)].toArray w (fun v w1 => v = (.tuple [(.agg ⟨(List.replicate 32 (0 : UInt8)).map vu8⟩), (vi 2)].toArray) ∧ Chg w w1 []) := by
  refine Cs.of (n := 25) (args := [(.pointer (some ⟨ob, 0, none⟩)), (.agg ⟨flat [(1, [(vi 1)]), (32, key.map vu8), (1, [(vi 0)]), (1, [(.slice qa qn qc)])]⟩)]) Try.func25 rfl rfl rfl ?_
  have h_0 := HP.init w
  have h_00 := h_0.old hcb (fun f hf => by cases hf)
  refine WP.seq ?_
  refine WP.reg ?_
  refine WL.box (v := (.agg ⟨flat [(1, [(vi 1)]), (32, key.map vu8), (1, [(vi 0)]), (1, [(.slice qa qn qc)])]⟩)) (segs := [(1, [(vi 1)]), (32, key.map vu8), (1, [(vi 0)]), (1, [(.slice qa qn qc)])]) h_00 rfl rfl (SsOk.cons (SOk.v rfl) (SsOk.cons (SOk.u8 hk) (SsOk.cons (SOk.v rfl) (SsOk.cons (SOk.v rfl) SsOk.nil)))) rfl (fun b_1 w_2 h_3 => ?_)
  refine WL.alloc (segs := [(32, (List.replicate 32 (0 : UInt8)).map vu8)]) h_3 (zv Try.typeInfo29 rfl) rfl (SsOk.cons (SOk.u8 (List.length_replicate ..)) SsOk.nil) rfl (fun b_4 w_5 h_6 => ?_)
  refine WL.q (Wn.no rfl) rfl rfl (R.assign (v := (vi 0)) rfl) ?_
  refine WL.nil ?_
  refine thn_n ?_
  refine WP.seq ?_
  refine WP.block ?_
  refine WP.seq ?_
  refine WP.reg ?_
  refine WL.q (Wn.no rfl) rfl rfl (R.move (v := (.pointer (some ⟨ob, 0, none⟩))) rfl) ?_
  refine WL.call (al := [(.pointer (some ⟨ob, 0, none⟩))]) Try.call53 rfl rfl (c_othere ob mp ms hms da dn dc u la ln lc _ (h_6.argR (.tail _ (.tail _ (.head _))))) rfl ?_
  rintro _ w_8 ⟨rfl, hc_7⟩
  have h_9 := h_6.same hc_7
  refine WL.q (Wn.no rfl) rfl rfl (R.not (b := true) rfl) ?_
  refine WL.q (Wn.no rfl) rfl rfl (R.assign (v := (.bool false)) rfl) ?_
  refine WL.nil ?_
  refine thn_n ?_
  refine WP.condF rfl ?_
  refine WP.seq ?_
  refine WP.reg ?_
  refine WL.q (Wn.no rfl) rfl rfl (R.loadA (b := b_1) (off := 0) [] [(1, [(vi 1)]), (32, key.map vu8), (1, [(vi 0)]), (1, [(.slice qa qn qc)])] [] (cs := flat [(1, [(vi 1)]), (32, key.map vu8), (1, [(vi 0)]), (1, [(.slice qa qn qc)])]) rfl Try.isAgg64 Try.sizeOf64 (h_9.ok _ (.tail _ (.head _))) rfl rfl rfl rfl) ?_
  refine WL.call (al := [(.agg ⟨flat [(1, [(vi 1)]), (32, key.map vu8), (1, [(vi 0)]), (1, [(.slice qa qn qc)])]⟩)]) Try.call54 rfl rfl (c_may_d key qa qn qc hk _ ) rfl ?_
  rintro _ w_11 ⟨rfl, hc_10⟩
  have h_12 := h_9.same hc_10
  refine WL.q (Wn.no rfl) rfl rfl (R.not (b := false) rfl) ?_
  refine WL.q (Wn.no rfl) rfl rfl (R.move (v := (.bool true)) rfl) ?_
  refine WL.skip rfl rfl rfl ?_
  refine WL.skip rfl rfl rfl ?_
  refine WL.skip rfl rfl rfl ?_
  refine WL.q (Wn.no rfl) rfl rfl (R.pickT (v := (.bool true)) rfl rfl) ?_
  refine WL.q (Wn.no rfl) rfl rfl (R.assign (v := (.bool true)) rfl) ?_
  refine WL.nil ?_
  refine thn_n ?_
  refine WP.condT rfl ?_
  refine WP.seq ?_
  refine WP.reg ?_
  refine WL.q (Wn.no rfl) rfl rfl (R.buildA (vs := []) (cs := (List.replicate 32 (0 : UInt8)).map vu8) Try.underlying29 Try.sizeOf5 (zv Try.typeInfo29 rfl) rfl rfl) ?_
  refine WL.storeA (b := b_4) (off := 0) [] [(32, (List.replicate 32 (0 : UInt8)).map vu8)] [(32, (List.replicate 32 (0 : UInt8)).map vu8)] [] (ys := (List.replicate 32 (0 : UInt8)).map vu8) h_12 rfl rfl Try.sizeOf29 At.h (by decide) rfl rfl rfl rfl rfl rfl (SsOk.cons (SOk.u8 (List.length_replicate ..)) SsOk.nil) (fun w_13 h_14 => ?_)
  refine WL.q (Wn.no rfl) rfl rfl (R.assign (v := (vi 2)) rfl) ?_
  refine WL.nil ?_
  refine thn_n ?_
  refine WP.ret ?_
  refine inb_r ?_
  refine thn_r ?_
  refine ret_of Try.results25 (RV.cell rfl (h_14.loadA (cs := (List.replicate 32 (0 : UInt8)).map vu8) Try.isAgg29 Try.sizeOf29 (.head _) rfl rfl) (RV.tmp (v := (vi 2)) rfl RV.nil)) ?_
  exact ⟨rfl, h_14.chgS⟩

theorem c_oAsk_s (ob mp : Nat) (ms : List UInt8) (hms : ms.length = 32) (da : Option Addr) (dn dc u : Nat) (la : Option Addr) (ln lc : Nat) (key : List UInt8) (qa : Option Addr) (qn qc : Nat) (hk : key.length = 32) (w : World) (hcb : (Ent.blk ob .ro 47 [(1, [(.bool true)]), (32, ms.map vu8), (1, [(.slice da dn dc)]), (1, [(vi ((u : Nat) : Int))]), (1, [(.map (some mp))]), (1, [(.slice la ln lc)])]).ok w.heap.size w) :
    Cs Try.prog 25 [(.pointer (some ⟨ob, 0, none⟩)), (.agg ⟨flat [(1, [(vi 4)]), (32, key.map vu8), (1, [(vi 1)]), (1, [(.slice qa qn qc)])]⟩)].toArray w (fun v w1 => v = (.tuple [(.agg ⟨(List.replicate 32 (0 : UInt8)).map vu8⟩), (vi 2)].toArray) ∧ Chg w w1 []) := by
  refine Cs.of (n := 25) (args := [(.pointer (some ⟨ob, 0, none⟩)), (.agg ⟨flat [(1, [(vi 4)]), (32, key.map vu8), (1, [(vi 1)]), (1, [(.slice qa qn qc)])]⟩)]) Try.func25 rfl rfl rfl ?_
  have h_0 := HP.init w
  have h_00 := h_0.old hcb (fun f hf => by cases hf)
  refine WP.seq ?_
  refine WP.reg ?_
  refine WL.box (v := (.agg ⟨flat [(1, [(vi 4)]), (32, key.map vu8), (1, [(vi 1)]), (1, [(.slice qa qn qc)])]⟩)) (segs := [(1, [(vi 4)]), (32, key.map vu8), (1, [(vi 1)]), (1, [(.slice qa qn qc)])]) h_00 rfl rfl (SsOk.cons (SOk.v rfl) (SsOk.cons (SOk.u8 hk) (SsOk.cons (SOk.v rfl) (SsOk.cons (SOk.v rfl) SsOk.nil)))) rfl (fun b_1 w_2 h_3 => ?_)
  refine WL.alloc (segs := [(32, (List.replicate 32 (0 : UInt8)).map vu8)]) h_3 (zv Try.typeInfo29 rfl) rfl (SsOk.cons (SOk.u8 (List.length_replicate ..)) SsOk.nil) rfl (fun b_4 w_5 h_6 => ?_)
  refine WL.q (Wn.no rfl) rfl rfl (R.assign (v := (vi 0)) rfl) ?_
  refine WL.nil ?_
  refine thn_n ?_
  refine WP.seq ?_
  refine WP.block ?_
  refine WP.seq ?_
  refine WP.reg ?_
  refine WL.q (Wn.no rfl) rfl rfl (R.move (v := (.pointer (some ⟨ob, 0, none⟩))) rfl) ?_
  refine WL.call (al := [(.pointer (some ⟨ob, 0, none⟩))]) Try.call53 rfl rfl (c_othere ob mp ms hms da dn dc u la ln lc _ (h_6.argR (.tail _ (.tail _ (.head _))))) rfl ?_
  rintro _ w_8 ⟨rfl, hc_7⟩
  have h_9 := h_6.same hc_7
  refine WL.q (Wn.no rfl) rfl rfl (R.not (b := true) rfl) ?_
  refine WL.q (Wn.no rfl) rfl rfl (R.assign (v := (.bool false)) rfl) ?_
  refine WL.nil ?_
  refine thn_n ?_
  refine WP.condF rfl ?_
  refine WP.seq ?_
  refine WP.reg ?_
  refine WL.q (Wn.no rfl) rfl rfl (R.loadA (b := b_1) (off := 0) [] [(1, [(vi 4)]), (32, key.map vu8), (1, [(vi 1)]), (1, [(.slice qa qn qc)])] [] (cs := flat [(1, [(vi 4)]), (32, key.map vu8), (1, [(vi 1)]), (1, [(.slice qa qn qc)])]) rfl Try.isAgg64 Try.sizeOf64 (h_9.ok _ (.tail _ (.head _))) rfl rfl rfl rfl) ?_
  refine WL.call (al := [(.agg ⟨flat [(1, [(vi 4)]), (32, key.map vu8), (1, [(vi 1)]), (1, [(.slice qa qn qc)])]⟩)]) Try.call54 rfl rfl (c_may 4 1 key qa qn qc hk (by omega) (by omega) (fun h => by omega) _ ) rfl ?_
  rintro _ w_11 ⟨rfl, hc_10⟩
  have h_12 := h_9.same hc_10
  refine WL.q (Wn.no rfl) rfl rfl (R.not (b := true) rfl) ?_
  refine WL.q (Wn.no rfl) rfl rfl (R.move (v := (.bool false)) rfl) ?_
  refine WL.want rfl rfl ?_
  refine WL.q (Wn.no rfl) rfl rfl (R.fieldAddr (b := b_1) (off := 0) (off' := 0) rfl Try.underlying64 rfl Try.sizeOf60 rfl rfl) ?_
  refine WL.want rfl rfl ?_
  refine WL.q (Wn.no rfl) rfl rfl (R.load1 (b := b_1) (off := 0) (v := (vi 4)) rfl Try.isAgg60 (h_12.ok _ (.tail _ (.head _))) Sg.h) ?_
  refine WL.want rfl rfl ?_
  refine WL.q (Wn.no rfl) rfl rfl (R.bin (v := (.bool true)) rfl rfl (bi_eql (r := true) (by decide))) ?_
  refine WL.q (Wn.no rfl) rfl rfl (R.pickF (v := (.bool true)) rfl rfl) ?_
  refine WL.q (Wn.no rfl) rfl rfl (R.assign (v := (.bool true)) rfl) ?_
  refine WL.nil ?_
  refine thn_n ?_
  refine WP.condT rfl ?_
  refine WP.seq ?_
  refine WP.reg ?_
  refine WL.q (Wn.no rfl) rfl rfl (R.buildA (vs := []) (cs := (List.replicate 32 (0 : UInt8)).map vu8) Try.underlying29 Try.sizeOf5 (zv Try.typeInfo29 rfl) rfl rfl) ?_
  refine WL.storeA (b := b_4) (off := 0) [] [(32, (List.replicate 32 (0 : UInt8)).map vu8)] [(32, (List.replicate 32 (0 : UInt8)).map vu8)] [] (ys := (List.replicate 32 (0 : UInt8)).map vu8) h_12 rfl rfl Try.sizeOf29 At.h (by decide) rfl rfl rfl rfl rfl rfl (SsOk.cons (SOk.u8 (List.length_replicate ..)) SsOk.nil) (fun w_13 h_14 => ?_)
  refine WL.q (Wn.no rfl) rfl rfl (R.assign (v := (vi 2)) rfl) ?_
  refine WL.nil ?_
  refine thn_n ?_
  refine WP.ret ?_
  refine inb_r ?_
  refine thn_r ?_
  refine ret_of Try.results25 (RV.cell rfl (h_14.loadA (cs := (List.replicate 32 (0 : UInt8)).map vu8) Try.isAgg29 Try.sizeOf29 (.head _) rfl rfl) (RV.tmp (v := (vi 2)) rfl RV.nil)) ?_
  exact ⟨rfl, h_14.chgS⟩

theorem c_oStr_nil (sn : Int) (key : List UInt8) (qa : Option Addr) (qn qc : Nat) (hk : key.length = 32) (w : World) :
    Cs Try.prog 40 [(.pointer none), (.agg ⟨flat [(1, [(vi 4)]), (32, key.map vu8), (1, [(vi 1)]), (1, [(.slice qa qn qc)])]⟩), (vi sn)].toArray w (fun v w1 => v = (.tuple [(.slice none 0 0), (vi 1)].toArray) ∧ Chg w w1 []) := by
  refine Cs.of (n := 88) (args := [(.pointer none), (.agg ⟨flat [(1, [(vi 4)]), (32, key.map vu8), (1, [(vi 1)]), (1, [(.slice qa qn qc)])]⟩), (vi sn)]) Try.func40 rfl rfl rfl ?_
  have h_0 := HP.init w
  refine WP.seq ?_
  refine WP.reg ?_
  refine WL.box (v := (.agg ⟨flat [(1, [(vi 4)]), (32, key.map vu8), (1, [(vi 1)]), (1, [(.slice qa qn qc)])]⟩)) (segs := [(1, [(vi 4)]), (32, key.map vu8), (1, [(vi 1)]), (1, [(.slice qa qn qc)])]) h_0 rfl rfl (SsOk.cons (SOk.v rfl) (SsOk.cons (SOk.u8 hk) (SsOk.cons (SOk.v rfl) (SsOk.cons (SOk.v rfl) SsOk.nil)))) rfl (fun b_1 w_2 h_3 => ?_)
  refine WL.box (v := (vi sn)) (segs := [(1, [(vi sn)])]) h_3 rfl rfl (SsOk.cons (SOk.v rfl) SsOk.nil) rfl (fun b_4 w_5 h_6 => ?_)
  refine WL.q (Wn.no rfl) rfl rfl (R.assign (v := (.slice none 0 0)) rfl) ?_
  refine WL.q (Wn.no rfl) rfl rfl (R.assign (v := (vi 0)) rfl) ?_
  refine WL.nil ?_
  refine thn_n ?_
  refine WP.seq ?_
  refine WP.block ?_
  refine WP.seq ?_
  refine WP.reg ?_
  refine WL.q (Wn.no rfl) rfl rfl (R.move (v := (.pointer none)) rfl) ?_
  refine WL.call (al := [(.pointer none)]) Try.call53 rfl rfl (c_othere_nil  _ ) rfl ?_
  rintro _ w_8 ⟨rfl, hc_7⟩
  have h_9 := h_6.same hc_7
  refine WL.q (Wn.no rfl) rfl rfl (R.not (b := false) rfl) ?_
  refine WL.q (Wn.no rfl) rfl rfl (R.assign (v := (.bool true)) rfl) ?_
  refine WL.nil ?_
  refine thn_n ?_
  refine WP.condT rfl ?_
  refine WP.seq ?_
  refine WP.reg ?_
  refine WL.q (Wn.no rfl) rfl rfl (R.assign (v := (.slice none 0 0)) rfl) ?_
  refine WL.q (Wn.no rfl) rfl rfl (R.assign (v := (vi 1)) rfl) ?_
  refine WL.nil ?_
  refine thn_n ?_
  refine WP.ret ?_
  refine inb_r ?_
  refine thn_r ?_
  refine ret_of Try.results40 (RV.tmp (v := (.slice none 0 0)) rfl (RV.tmp (v := (vi 1)) rfl RV.nil)) ?_
  exact ⟨rfl, h_9.chgS⟩

theorem c_oStr_z (bc : Nat) (sn : Int) (key : List UInt8) (qa : Option Addr) (qn qc : Nat) (hk : key.length = 32) (w : World) (hcb : (Ent.blk bc .ro 47 [(1, [(.bool false)]), (32, (List.replicate 32 (0 : UInt8)).map vu8), (1, [(.slice none 0 0)]), (1, [(vi 0)]), (1, [(.map none)]), (1, [(.slice none 0 0)])]).ok w.heap.size w) :
    Cs Try.prog 40 [(.pointer (some ⟨bc, 0, none⟩)), (.agg ⟨flat [(1, [(vi 4)]), (32, key.map vu8), (1, [(vi 1)]), (1, [(.slice qa qn qc)])]⟩), (vi sn)].toArray w (fun v w1 => v = (.tuple [(.slice none 0 0), (vi 1)].toArray) ∧ Chg w w1 []) := by
  refine Cs.of (n := 88) (args := [(.pointer (some ⟨bc, 0, none⟩)), (.agg ⟨flat [(1, [(vi 4)]), (32, key.map vu8), (1, [(vi 1)]), (1, [(.slice qa qn qc)])]⟩), (vi sn)]) Try.func40 rfl rfl rfl ?_
  have h_0 := HP.init w
  have h_00 := h_0.old hcb (fun f hf => by cases hf)
  refine WP.seq ?_
  refine WP.reg ?_
  refine WL.box (v := (.agg ⟨flat [(1, [(vi 4)]), (32, key.map vu8), (1, [(vi 1)]), (1, [(.slice qa qn qc)])]⟩)) (segs := [(1, [(vi 4)]), (32, key.map vu8), (1, [(vi 1)]), (1, [(.slice qa qn qc)])]) h_00 rfl rfl (SsOk.cons (SOk.v rfl) (SsOk.cons (SOk.u8 hk) (SsOk.cons (SOk.v rfl) (SsOk.cons (SOk.v rfl) SsOk.nil)))) rfl (fun b_1 w_2 h_3 => ?_)
  refine WL.box (v := (vi sn)) (segs := [(1, [(vi sn)])]) h_3 rfl rfl (SsOk.cons (SOk.v rfl) SsOk.nil) rfl (fun b_4 w_5 h_6 => ?_)
  refine WL.q (Wn.no rfl) rfl rfl (R.assign (v := (.slice none 0 0)) rfl) ?_
  refine WL.q (Wn.no rfl) rfl rfl (R.assign (v := (vi 0)) rfl) ?_
  refine WL.nil ?_
  refine thn_n ?_
  refine WP.seq ?_
  refine WP.block ?_
  refine WP.seq ?_
  refine WP.reg ?_
  refine WL.q (Wn.no rfl) rfl rfl (R.move (v := (.pointer (some ⟨bc, 0, none⟩))) rfl) ?_
  refine WL.call (al := [(.pointer (some ⟨bc, 0, none⟩))]) Try.call53 rfl rfl (c_othere_z bc _ (h_6.argR (.tail _ (.tail _ (.head _))))) rfl ?_
  rintro _ w_8 ⟨rfl, hc_7⟩
  have h_9 := h_6.same hc_7
  refine WL.q (Wn.no rfl) rfl rfl (R.not (b := false) rfl) ?_
  refine WL.q (Wn.no rfl) rfl rfl (R.assign (v := (.bool true)) rfl) ?_
  refine WL.nil ?_
  refine thn_n ?_
  refine WP.condT rfl ?_
  refine WP.seq ?_
  refine WP.reg ?_
  refine WL.q (Wn.no rfl) rfl rfl (R.assign (v := (.slice none 0 0)) rfl) ?_
  refine WL.q (Wn.no rfl) rfl rfl (R.assign (v := (vi 1)) rfl) ?_
  refine WL.nil ?_
  refine thn_n ?_
  refine WP.ret ?_
  refine inb_r ?_
  refine thn_r ?_
  refine ret_of Try.results40 (RV.tmp (v := (.slice none 0 0)) rfl (RV.tmp (v := (vi 1)) rfl RV.nil)) ?_
  exact ⟨rfl, h_9.chgS⟩

theorem c_oStr_big (ob mp : Nat) (ms : List UInt8) (hms : ms.length = 32) (da : Option Addr) (dn dc u : Nat) (la : Option Addr) (ln lc : Nat) (key : List UInt8) (qa : Option Addr) (qn qc : Nat) (hk : key.length = 32) (w : World) (hcb : (Ent.blk ob .ro 47 [(1, [(.bool true)]), (32, ms.map vu8), (1, [(.slice da dn dc)]), (1, [(vi ((u : Nat) : Int))]), (1, [(.map (some mp))]), (1, [(.slice la ln lc)])]).ok w.heap.size w) :
    Cs Try.prog 40 [(.pointer (some ⟨ob, 0, none⟩)), (.agg ⟨flat [(1, [(vi 4)]), (32, key.map vu8), (1, [(vi 1)]), (1, [(.slice qa qn qc)])]⟩), (vi 1025)].toArray w (fun v w1 => v = (.tuple [(.slice none 0 0), (vi 2)].toArray) ∧ Chg w w1 []) := by
  refine Cs.of (n := 88) (args := [(.pointer (some ⟨ob, 0, none⟩)), (.agg ⟨flat [(1, [(vi 4)]), (32, key.map vu8), (1, [(vi 1)]), (1, [(.slice qa qn qc)])]⟩), (vi 1025)]) Try.func40 rfl rfl rfl ?_
  have h_0 := HP.init w
  have h_00 := h_0.old hcb (fun f hf => by cases hf)
  refine WP.seq ?_
  refine WP.reg ?_
  refine WL.box (v := (.agg ⟨flat [(1, [(vi 4)]), (32, key.map vu8), (1, [(vi 1)]), (1, [(.slice qa qn qc)])]⟩)) (segs := [(1, [(vi 4)]), (32, key.map vu8), (1, [(vi 1)]), (1, [(.slice qa qn qc)])]) h_00 rfl rfl (SsOk.cons (SOk.v rfl) (SsOk.cons (SOk.u8 hk) (SsOk.cons (SOk.v rfl) (SsOk.cons (SOk.v rfl) SsOk.nil)))) rfl (fun b_1 w_2 h_3 => ?_)
  refine WL.box (v := (vi 1025)) (segs := [(1, [(vi 1025)])]) h_3 rfl rfl (SsOk.cons (SOk.v rfl) SsOk.nil) rfl (fun b_4 w_5 h_6 => ?_)
  refine WL.q (Wn.no rfl) rfl rfl (R.assign (v := (.slice none 0 0)) rfl) ?_
  refine WL.q (Wn.no rfl) rfl rfl (R.assign (v := (vi 0)) rfl) ?_
  refine WL.nil ?_
  refine thn_n ?_
  refine WP.seq ?_
  refine WP.block ?_
  refine WP.seq ?_
  refine WP.reg ?_
  refine WL.q (Wn.no rfl) rfl rfl (R.move (v := (.pointer (some ⟨ob, 0, none⟩))) rfl) ?_
  refine WL.call (al := [(.pointer (some ⟨ob, 0, none⟩))]) Try.call53 rfl rfl (c_othere ob mp ms hms da dn dc u la ln lc _ (h_6.argR (.tail _ (.tail _ (.head _))))) rfl ?_
  rintro _ w_8 ⟨rfl, hc_7⟩
  have h_9 := h_6.same hc_7
  refine WL.q (Wn.no rfl) rfl rfl (R.not (b := true) rfl) ?_
  refine WL.q (Wn.no rfl) rfl rfl (R.assign (v := (.bool false)) rfl) ?_
  refine WL.nil ?_
  refine thn_n ?_
  refine WP.condF rfl ?_
  refine WP.seq ?_
  refine WP.reg ?_
  refine WL.q (Wn.no rfl) rfl rfl (R.loadA (b := b_1) (off := 0) [] [(1, [(vi 4)]), (32, key.map vu8), (1, [(vi 1)]), (1, [(.slice qa qn qc)])] [] (cs := flat [(1, [(vi 4)]), (32, key.map vu8), (1, [(vi 1)]), (1, [(.slice qa qn qc)])]) rfl Try.isAgg64 Try.sizeOf64 (h_9.ok _ (.tail _ (.head _))) rfl rfl rfl rfl) ?_
  refine WL.call (al := [(.agg ⟨flat [(1, [(vi 4)]), (32, key.map vu8), (1, [(vi 1)]), (1, [(.slice qa qn qc)])]⟩)]) Try.call54 rfl rfl (c_may 4 1 key qa qn qc hk (by omega) (by omega) (fun h => by omega) _ ) rfl ?_
  rintro _ w_11 ⟨rfl, hc_10⟩
  have h_12 := h_9.same hc_10
  refine WL.q (Wn.no rfl) rfl rfl (R.not (b := true) rfl) ?_
  refine WL.q (Wn.no rfl) rfl rfl (R.move (v := (.bool false)) rfl) ?_
  refine WL.want rfl rfl ?_
  refine WL.q (Wn.no rfl) rfl rfl (R.fieldAddr (b := b_1) (off := 0) (off' := 0) rfl Try.underlying64 rfl Try.sizeOf60 rfl rfl) ?_
  refine WL.want rfl rfl ?_
  refine WL.q (Wn.no rfl) rfl rfl (R.load1 (b := b_1) (off := 0) (v := (vi 4)) rfl Try.isAgg60 (h_12.ok _ (.tail _ (.head _))) Sg.h) ?_
  refine WL.want rfl rfl ?_
  refine WL.q (Wn.no rfl) rfl rfl (R.bin (v := (.bool false)) rfl rfl (bi_neq (r := false) (by decide))) ?_
  refine WL.q (Wn.no rfl) rfl rfl (R.pickF (v := (.bool false)) rfl rfl) ?_
  refine WL.q (Wn.no rfl) rfl rfl (R.move (v := (.bool false)) rfl) ?_
  refine WL.want rfl rfl ?_
  refine WL.q (Wn.no rfl) rfl rfl (R.load1 (b := b_4) (off := 0) (v := (vi 1025)) rfl Try.isAgg3 (h_12.ok _ (.head _)) Sg.h) ?_
  refine WL.want rfl rfl ?_
  refine WL.q (Wn.no rfl) rfl rfl (R.bin (v := (.bool false)) rfl rfl (bi_lss (r := false) (by decide))) ?_
  refine WL.q (Wn.no rfl) rfl rfl (R.pickF (v := (.bool false)) rfl rfl) ?_
  refine WL.q (Wn.no rfl) rfl rfl (R.move (v := (.bool false)) rfl) ?_
  refine WL.want rfl rfl ?_
  refine WL.q (Wn.no rfl) rfl rfl (R.load1 (b := b_4) (off := 0) (v := (vi 1025)) rfl Try.isAgg3 (h_12.ok _ (.head _)) Sg.h) ?_
  refine WL.want rfl rfl ?_
  refine WL.q (Wn.no rfl) rfl rfl (R.bin (v := (.bool true)) rfl rfl (bi_gtr (r := true) (by decide))) ?_
  refine WL.q (Wn.no rfl) rfl rfl (R.pickF (v := (.bool true)) rfl rfl) ?_
  refine WL.q (Wn.no rfl) rfl rfl (R.assign (v := (.bool true)) rfl) ?_
  refine WL.nil ?_
  refine thn_n ?_
  refine WP.condT rfl ?_
  refine WP.seq ?_
  refine WP.reg ?_
  refine WL.q (Wn.no rfl) rfl rfl (R.assign (v := (.slice none 0 0)) rfl) ?_
  refine WL.q (Wn.no rfl) rfl rfl (R.assign (v := (vi 2)) rfl) ?_
  refine WL.nil ?_
  refine thn_n ?_
  refine WP.ret ?_
  refine inb_r ?_
  refine thn_r ?_
  refine ret_of Try.results40 (RV.tmp (v := (.slice none 0 0)) rfl (RV.tmp (v := (vi 2)) rfl RV.nil)) ?_
  exact ⟨rfl, h_12.chgS⟩

theorem c_oDig_nil (dm : Int) (w : World) :
    Cs Try.prog 41 [(.pointer none), (vi dm), (.slice none 0 0)].toArray w (fun v w1 => v = (.tuple [(.agg ⟨(List.replicate 32 (0 : UInt8)).map vu8⟩), (vi 1)].toArray) ∧ Chg w w1 []) := by
  have hfl0 : ([] : List (List UInt8)).flatten.length = 0 := rfl
  refine Cs.of (n := 16) (args := [(.pointer none), (vi dm), (.slice none 0 0)]) Try.func41 rfl rfl rfl ?_
  have h_0 := HP.init w
  refine WP.seq ?_
  refine WP.reg ?_
  refine WL.alloc (segs := [(32, (List.replicate 32 (0 : UInt8)).map vu8)]) h_0 (zv Try.typeInfo29 rfl) rfl (SsOk.cons (SOk.u8 (List.length_replicate ..)) SsOk.nil) rfl (fun b_1 w_2 h_3 => ?_)
  refine WL.q (Wn.no rfl) rfl rfl (R.assign (v := (vi 0)) rfl) ?_
  refine WL.nil ?_
  refine thn_n ?_
  refine WP.seq ?_
  refine WP.reg ?_
  refine WL.q (Wn.no rfl) rfl rfl (R.move (v := (.pointer none)) rfl) ?_
  refine WL.q (Wn.no rfl) rfl rfl (R.move (v := (vi dm)) rfl) ?_
  refine WL.q (Wn.no rfl) rfl rfl (R.move (v := (.slice none 0 0)) rfl) ?_
  refine WL.call (al := [(.slice none 0 0)]) Try.call60 rfl rfl (c_joined none 0 0 [] ([] : List (List UInt8)) rfl (by omega) (by omega) _ (View.nil _ _) Sls.nil) rfl ?_
  rintro _ w_6 ⟨a_4, cap_5, rfl, hc_7, ho_8⟩
  have h_9 := h_3.gotRow hc_7 ho_8
  refine WL.q (Wn.no rfl) rfl rfl (R.buildS (pl := [(0, 1), (1, 32), (33, 1), (34, 1)]) (zs := [(1, [(vi 0)]), (32, (List.replicate 32 (0 : UInt8)).map vu8), (1, [(vi 0)]), (1, [(.slice none 0 0)])]) (vs := [(0, (vi 1)), (2, (vi dm)), (3, (.slice a_4 (([] : List (List UInt8)).flatten.length) cap_5))]) (out := [(1, [(vi 1)]), (32, (List.replicate 32 (0 : UInt8)).map vu8), (1, [(vi dm)]), (1, [(.slice a_4 (([] : List (List UInt8)).flatten.length) cap_5)])]) (cs := flat [(1, [(vi 1)]), (32, (List.replicate 32 (0 : UInt8)).map vu8), (1, [(vi dm)]), (1, [(.slice a_4 (([] : List (List UInt8)).flatten.length) cap_5)])]) Try.underlying64 (zv Try.typeInfo64 rfl) rfl (SsOk.cons (SOk.v rfl) (SsOk.cons (SOk.u8 (List.length_replicate ..)) (SsOk.cons (SOk.v rfl) (SsOk.cons (SOk.v rfl) SsOk.nil)))) (pl64 _ Try.underlying64) rfl (FillR.cons [] [(1, [(vi 0)])] [(1, [(vi 1)])] [(32, (List.replicate 32 (0 : UInt8)).map vu8), (1, [(vi 0)]), (1, [(.slice none 0 0)])] rfl rfl rfl rfl (SsOk.cons (SOk.v rfl) SsOk.nil) rfl rfl rfl (FillR.cons [(1, [(vi 1)]), (32, (List.replicate 32 (0 : UInt8)).map vu8)] [(1, [(vi 0)])] [(1, [(vi dm)])] [(1, [(.slice none 0 0)])] rfl rfl rfl rfl (SsOk.cons (SOk.v rfl) SsOk.nil) rfl rfl rfl (FillR.cons [(1, [(vi 1)]), (32, (List.replicate 32 (0 : UInt8)).map vu8), (1, [(vi dm)])] [(1, [(.slice none 0 0)])] [(1, [(.slice a_4 (([] : List (List UInt8)).flatten.length) cap_5)])] [] rfl rfl rfl rfl (SsOk.cons (SOk.v rfl) SsOk.nil) rfl rfl rfl FillR.nil))) rfl) ?_
  refine WL.call (al := [(.pointer none), (.agg ⟨flat [(1, [(vi 1)]), (32, (List.replicate 32 (0 : UInt8)).map vu8), (1, [(vi dm)]), (1, [(.slice a_4 (([] : List (List UInt8)).flatten.length) cap_5)])]⟩)]) Try.call25 rfl rfl (c_oAsk_nil 1 dm (List.replicate 32 (0 : UInt8)) a_4 (([] : List (List UInt8)).flatten.length) cap_5 (List.length_replicate ..) _ ) rfl ?_
  rintro _ w_12 ⟨rfl, hc_11⟩
  have h_13 := h_9.same hc_11
  refine WL.q (Wn.no rfl) rfl rfl (R.extract (l := [(.agg ⟨(List.replicate 32 (0 : UInt8)).map vu8⟩), (vi 1)]) (v := (.agg ⟨(List.replicate 32 (0 : UInt8)).map vu8⟩)) rfl rfl) ?_
  refine WL.q (Wn.no rfl) rfl rfl (R.extract (l := [(.agg ⟨(List.replicate 32 (0 : UInt8)).map vu8⟩), (vi 1)]) (v := (vi 1)) rfl rfl) ?_
  refine WL.storeA (b := b_1) (off := 0) [] [(32, (List.replicate 32 (0 : UInt8)).map vu8)] [(32, (List.replicate 32 (0 : UInt8)).map vu8)] [] (ys := (List.replicate 32 (0 : UInt8)).map vu8) h_13 rfl rfl Try.sizeOf29 (At.t At.h) (by decide) rfl rfl rfl rfl rfl rfl (SsOk.cons (SOk.u8 (List.length_replicate ..)) SsOk.nil) (fun w_14 h_15 => ?_)
  refine WL.q (Wn.no rfl) rfl rfl (R.assign (v := (vi 1)) rfl) ?_
  refine WL.nil ?_
  refine thn_n ?_
  refine WP.ret ?_
  refine ret_of Try.results41 (RV.cell rfl (h_15.loadA (cs := (List.replicate 32 (0 : UInt8)).map vu8) Try.isAgg29 Try.sizeOf29 (.tail _ (.head _)) rfl rfl) (RV.tmp (v := (vi 1)) rfl RV.nil)) ?_
  exact ⟨rfl, h_15.chgS⟩

theorem c_oDig_z (bc : Nat) (dm : Int) (w : World) (hcb : (Ent.blk bc .ro 47 [(1, [(.bool false)]), (32, (List.replicate 32 (0 : UInt8)).map vu8), (1, [(.slice none 0 0)]), (1, [(vi 0)]), (1, [(.map none)]), (1, [(.slice none 0 0)])]).ok w.heap.size w) :
    Cs Try.prog 41 [(.pointer (some ⟨bc, 0, none⟩)), (vi dm), (.slice none 0 0)].toArray w (fun v w1 => v = (.tuple [(.agg ⟨(List.replicate 32 (0 : UInt8)).map vu8⟩), (vi 1)].toArray) ∧ Chg w w1 []) := by
  have hfl0 : ([] : List (List UInt8)).flatten.length = 0 := rfl
  refine Cs.of (n := 16) (args := [(.pointer (some ⟨bc, 0, none⟩)), (vi dm), (.slice none 0 0)]) Try.func41 rfl rfl rfl ?_
  have h_0 := HP.init w
  have h_00 := h_0.old hcb (fun f hf => by cases hf)
  refine WP.seq ?_
  refine WP.reg ?_
  refine WL.alloc (segs := [(32, (List.replicate 32 (0 : UInt8)).map vu8)]) h_00 (zv Try.typeInfo29 rfl) rfl (SsOk.cons (SOk.u8 (List.length_replicate ..)) SsOk.nil) rfl (fun b_1 w_2 h_3 => ?_)
  refine WL.q (Wn.no rfl) rfl rfl (R.assign (v := (vi 0)) rfl) ?_
  refine WL.nil ?_
  refine thn_n ?_
  refine WP.seq ?_
  refine WP.reg ?_
  refine WL.q (Wn.no rfl) rfl rfl (R.move (v := (.pointer (some ⟨bc, 0, none⟩))) rfl) ?_
  refine WL.q (Wn.no rfl) rfl rfl (R.move (v := (vi dm)) rfl) ?_
  refine WL.q (Wn.no rfl) rfl rfl (R.move (v := (.slice none 0 0)) rfl) ?_
  refine WL.call (al := [(.slice none 0 0)]) Try.call60 rfl rfl (c_joined none 0 0 [] ([] : List (List UInt8)) rfl (by omega) (by omega) _ (View.nil _ _) Sls.nil) rfl ?_
  rintro _ w_6 ⟨a_4, cap_5, rfl, hc_7, ho_8⟩
  have h_9 := h_3.gotRow hc_7 ho_8
  refine WL.q (Wn.no rfl) rfl rfl (R.buildS (pl := [(0, 1), (1, 32), (33, 1), (34, 1)]) (zs := [(1, [(vi 0)]), (32, (List.replicate 32 (0 : UInt8)).map vu8), (1, [(vi 0)]), (1, [(.slice none 0 0)])]) (vs := [(0, (vi 1)), (2, (vi dm)), (3, (.slice a_4 (([] : List (List UInt8)).flatten.length) cap_5))]) (out := [(1, [(vi 1)]), (32, (List.replicate 32 (0 : UInt8)).map vu8), (1, [(vi dm)]), (1, [(.slice a_4 (([] : List (List UInt8)).flatten.length) cap_5)])]) (cs := flat [(1, [(vi 1)]), (32, (List.replicate 32 (0 : UInt8)).map vu8), (1, [(vi dm)]), (1, [(.slice a_4 (([] : List (List UInt8)).flatten.length) cap_5)])]) Try.underlying64 (zv Try.typeInfo64 rfl) rfl (SsOk.cons (SOk.v rfl) (SsOk.cons (SOk.u8 (List.length_replicate ..)) (SsOk.cons (SOk.v rfl) (SsOk.cons (SOk.v rfl) SsOk.nil)))) (pl64 _ Try.underlying64) rfl (FillR.cons [] [(1, [(vi 0)])] [(1, [(vi 1)])] [(32, (List.replicate 32 (0 : UInt8)).map vu8), (1, [(vi 0)]), (1, [(.slice none 0 0)])] rfl rfl rfl rfl (SsOk.cons (SOk.v rfl) SsOk.nil) rfl rfl rfl (FillR.cons [(1, [(vi 1)]), (32, (List.replicate 32 (0 : UInt8)).map vu8)] [(1, [(vi 0)])] [(1, [(vi dm)])] [(1, [(.slice none 0 0)])] rfl rfl rfl rfl (SsOk.cons (SOk.v rfl) SsOk.nil) rfl rfl rfl (FillR.cons [(1, [(vi 1)]), (32, (List.replicate 32 (0 : UInt8)).map vu8), (1, [(vi dm)])] [(1, [(.slice none 0 0)])] [(1, [(.slice a_4 (([] : List (List UInt8)).flatten.length) cap_5)])] [] rfl rfl rfl rfl (SsOk.cons (SOk.v rfl) SsOk.nil) rfl rfl rfl FillR.nil))) rfl) ?_
  refine WL.call (al := [(.pointer (some ⟨bc, 0, none⟩)), (.agg ⟨flat [(1, [(vi 1)]), (32, (List.replicate 32 (0 : UInt8)).map vu8), (1, [(vi dm)]), (1, [(.slice a_4 (([] : List (List UInt8)).flatten.length) cap_5)])]⟩)]) Try.call25 rfl rfl (c_oAsk_z bc 1 dm (List.replicate 32 (0 : UInt8)) a_4 (([] : List (List UInt8)).flatten.length) cap_5 (List.length_replicate ..) _ (h_9.argR (.tail _ (.tail _ (.head _))))) rfl ?_
  rintro _ w_12 ⟨rfl, hc_11⟩
  have h_13 := h_9.same hc_11
  refine WL.q (Wn.no rfl) rfl rfl (R.extract (l := [(.agg ⟨(List.replicate 32 (0 : UInt8)).map vu8⟩), (vi 1)]) (v := (.agg ⟨(List.replicate 32 (0 : UInt8)).map vu8⟩)) rfl rfl) ?_
  refine WL.q (Wn.no rfl) rfl rfl (R.extract (l := [(.agg ⟨(List.replicate 32 (0 : UInt8)).map vu8⟩), (vi 1)]) (v := (vi 1)) rfl rfl) ?_
  refine WL.storeA (b := b_1) (off := 0) [] [(32, (List.replicate 32 (0 : UInt8)).map vu8)] [(32, (List.replicate 32 (0 : UInt8)).map vu8)] [] (ys := (List.replicate 32 (0 : UInt8)).map vu8) h_13 rfl rfl Try.sizeOf29 (At.t At.h) (by decide) rfl rfl rfl rfl rfl rfl (SsOk.cons (SOk.u8 (List.length_replicate ..)) SsOk.nil) (fun w_14 h_15 => ?_)
  refine WL.q (Wn.no rfl) rfl rfl (R.assign (v := (vi 1)) rfl) ?_
  refine WL.nil ?_
  refine thn_n ?_
  refine WP.ret ?_
  refine ret_of Try.results41 (RV.cell rfl (h_15.loadA (cs := (List.replicate 32 (0 : UInt8)).map vu8) Try.isAgg29 Try.sizeOf29 (.tail _ (.head _)) rfl rfl) (RV.tmp (v := (vi 1)) rfl RV.nil)) ?_
  exact ⟨rfl, h_15.chgS⟩

theorem c_oKey_nil (dm : Int) (w : World) :
    Cs Try.prog 26 [(.pointer none), (vi dm), (.slice none 0 0)].toArray w (fun v w1 => v = (.tuple [(.agg ⟨(List.replicate 32 (0 : UInt8)).map vu8⟩), (vi 1)].toArray) ∧ Chg w w1 []) := by
  refine Cs.of (n := 24) (args := [(.pointer none), (vi dm), (.slice none 0 0)]) Try.func26 rfl rfl rfl ?_
  have h_0 := HP.init w
  refine WP.seq ?_
  refine WP.reg ?_
  refine WL.alloc (segs := [(32, (List.replicate 32 (0 : UInt8)).map vu8)]) h_0 (zv Try.typeInfo29 rfl) rfl (SsOk.cons (SOk.u8 (List.length_replicate ..)) SsOk.nil) rfl (fun b_1 w_2 h_3 => ?_)
  refine WL.q (Wn.no rfl) rfl rfl (R.assign (v := (vi 0)) rfl) ?_
  refine WL.nil ?_
  refine thn_n ?_
  refine WP.seq ?_
  refine WP.seq ?_
  refine WP.reg ?_
  refine WL.q (Wn.no rfl) rfl rfl (R.move (v := (.pointer none)) rfl) ?_
  refine WL.call (al := [(.pointer none)]) Try.call53 rfl rfl (c_othere_nil  _ ) rfl ?_
  rintro _ w_5 ⟨rfl, hc_4⟩
  have h_6 := h_3.same hc_4
  refine WL.q (Wn.no rfl) rfl rfl (R.not (b := false) rfl) ?_
  refine WL.nil ?_
  refine thn_n ?_
  refine WP.condT rfl ?_
  refine WP.seq ?_
  refine WP.reg ?_
  refine WL.q (Wn.no rfl) rfl rfl (R.buildA (vs := []) (cs := (List.replicate 32 (0 : UInt8)).map vu8) Try.underlying29 Try.sizeOf5 (zv Try.typeInfo29 rfl) rfl rfl) ?_
  refine WL.storeA (b := b_1) (off := 0) [] [(32, (List.replicate 32 (0 : UInt8)).map vu8)] [(32, (List.replicate 32 (0 : UInt8)).map vu8)] [] (ys := (List.replicate 32 (0 : UInt8)).map vu8) h_6 rfl rfl Try.sizeOf29 At.h (by decide) rfl rfl rfl rfl rfl rfl (SsOk.cons (SOk.u8 (List.length_replicate ..)) SsOk.nil) (fun w_7 h_8 => ?_)
  refine WL.q (Wn.no rfl) rfl rfl (R.assign (v := (vi 1)) rfl) ?_
  refine WL.nil ?_
  refine thn_n ?_
  refine WP.ret ?_
  refine thn_r ?_
  refine ret_of Try.results26 (RV.cell rfl (h_8.loadA (cs := (List.replicate 32 (0 : UInt8)).map vu8) Try.isAgg29 Try.sizeOf29 (.head _) rfl rfl) (RV.tmp (v := (vi 1)) rfl RV.nil)) ?_
  exact ⟨rfl, h_8.chgS⟩

theorem c_oKey_z (bc : Nat) (dm : Int) (w : World) (hcb : (Ent.blk bc .ro 47 [(1, [(.bool false)]), (32, (List.replicate 32 (0 : UInt8)).map vu8), (1, [(.slice none 0 0)]), (1, [(vi 0)]), (1, [(.map none)]), (1, [(.slice none 0 0)])]).ok w.heap.size w) :
    Cs Try.prog 26 [(.pointer (some ⟨bc, 0, none⟩)), (vi dm), (.slice none 0 0)].toArray w (fun v w1 => v = (.tuple [(.agg ⟨(List.replicate 32 (0 : UInt8)).map vu8⟩), (vi 1)].toArray) ∧ Chg w w1 []) := by
  refine Cs.of (n := 24) (args := [(.pointer (some ⟨bc, 0, none⟩)), (vi dm), (.slice none 0 0)]) Try.func26 rfl rfl rfl ?_
  have h_0 := HP.init w
  have h_00 := h_0.old hcb (fun f hf => by cases hf)
  refine WP.seq ?_
  refine WP.reg ?_
  refine WL.alloc (segs := [(32, (List.replicate 32 (0 : UInt8)).map vu8)]) h_00 (zv Try.typeInfo29 rfl) rfl (SsOk.cons (SOk.u8 (List.length_replicate ..)) SsOk.nil) rfl (fun b_1 w_2 h_3 => ?_)
  refine WL.q (Wn.no rfl) rfl rfl (R.assign (v := (vi 0)) rfl) ?_
  refine WL.nil ?_
  refine thn_n ?_
  refine WP.seq ?_
  refine WP.seq ?_
  refine WP.reg ?_
  refine WL.q (Wn.no rfl) rfl rfl (R.move (v := (.pointer (some ⟨bc, 0, none⟩))) rfl) ?_
  refine WL.call (al := [(.pointer (some ⟨bc, 0, none⟩))]) Try.call53 rfl rfl (c_othere_z bc _ (h_3.argR (.tail _ (.head _)))) rfl ?_
  rintro _ w_5 ⟨rfl, hc_4⟩
  have h_6 := h_3.same hc_4
  refine WL.q (Wn.no rfl) rfl rfl (R.not (b := false) rfl) ?_
  refine WL.nil ?_
  refine thn_n ?_
  refine WP.condT rfl ?_
  refine WP.seq ?_
  refine WP.reg ?_
  refine WL.q (Wn.no rfl) rfl rfl (R.buildA (vs := []) (cs := (List.replicate 32 (0 : UInt8)).map vu8) Try.underlying29 Try.sizeOf5 (zv Try.typeInfo29 rfl) rfl rfl) ?_
  refine WL.storeA (b := b_1) (off := 0) [] [(32, (List.replicate 32 (0 : UInt8)).map vu8)] [(32, (List.replicate 32 (0 : UInt8)).map vu8)] [] (ys := (List.replicate 32 (0 : UInt8)).map vu8) h_6 rfl rfl Try.sizeOf29 At.h (by decide) rfl rfl rfl rfl rfl rfl (SsOk.cons (SOk.u8 (List.length_replicate ..)) SsOk.nil) (fun w_7 h_8 => ?_)
  refine WL.q (Wn.no rfl) rfl rfl (R.assign (v := (vi 1)) rfl) ?_
  refine WL.nil ?_
  refine thn_n ?_
  refine WP.ret ?_
  refine thn_r ?_
  refine ret_of Try.results26 (RV.cell rfl (h_8.loadA (cs := (List.replicate 32 (0 : UInt8)).map vu8) Try.isAgg29 Try.sizeOf29 (.head _) rfl rfl) (RV.tmp (v := (vi 1)) rfl RV.nil)) ?_
  exact ⟨rfl, h_8.chgS⟩

theorem c_oLog_nil  (w : World) :
    Cs Try.prog 27 [(.pointer none)].toArray w (fun v w1 => v = (.slice none 0 0) ∧ Chg w w1 []) := by
  refine Cs.of (n := 32) (args := [(.pointer none)]) Try.func27 rfl rfl rfl ?_
  have h_0 := HP.init w
  refine WP.seq ?_
  refine WP.reg ?_
  refine WL.q (Wn.no rfl) rfl rfl (R.assign (v := (.slice none 0 0)) rfl) ?_
  refine WL.nil ?_
  refine thn_n ?_
  refine WP.seq ?_
  refine WP.seq ?_
  refine WP.reg ?_
  refine WL.q (Wn.no rfl) rfl rfl (R.move (v := (.pointer none)) rfl) ?_
  refine WL.call (al := [(.pointer none)]) Try.call53 rfl rfl (c_othere_nil  _ ) rfl ?_
  rintro _ w_2 ⟨rfl, hc_1⟩
  have h_3 := h_0.same hc_1
  refine WL.q (Wn.no rfl) rfl rfl (R.not (b := false) rfl) ?_
  refine WL.nil ?_
  refine thn_n ?_
  refine WP.condT rfl ?_
  refine WP.seq ?_
  refine WP.reg ?_
  refine WL.q (Wn.no rfl) rfl rfl (R.assign (v := (.slice none 0 0)) rfl) ?_
  refine WL.nil ?_
  refine thn_n ?_
  refine WP.ret ?_
  refine thn_r ?_
  refine ret_of Try.results27 (RV.tmp (v := (.slice none 0 0)) rfl RV.nil) ?_
  exact ⟨rfl, h_3.chgS⟩

theorem c_oLog_z (bc : Nat) (w : World) (hcb : (Ent.blk bc .ro 47 [(1, [(.bool false)]), (32, (List.replicate 32 (0 : UInt8)).map vu8), (1, [(.slice none 0 0)]), (1, [(vi 0)]), (1, [(.map none)]), (1, [(.slice none 0 0)])]).ok w.heap.size w) :
    Cs Try.prog 27 [(.pointer (some ⟨bc, 0, none⟩))].toArray w (fun v w1 => v = (.slice none 0 0) ∧ Chg w w1 []) := by
  refine Cs.of (n := 32) (args := [(.pointer (some ⟨bc, 0, none⟩))]) Try.func27 rfl rfl rfl ?_
  have h_0 := HP.init w
  have h_00 := h_0.old hcb (fun f hf => by cases hf)
  refine WP.seq ?_
  refine WP.reg ?_
  refine WL.q (Wn.no rfl) rfl rfl (R.assign (v := (.slice none 0 0)) rfl) ?_
  refine WL.nil ?_
  refine thn_n ?_
  refine WP.seq ?_
  refine WP.seq ?_
  refine WP.reg ?_
  refine WL.q (Wn.no rfl) rfl rfl (R.move (v := (.pointer (some ⟨bc, 0, none⟩))) rfl) ?_
  refine WL.call (al := [(.pointer (some ⟨bc, 0, none⟩))]) Try.call53 rfl rfl (c_othere_z bc _ (h_00.argR (.head _))) rfl ?_
  rintro _ w_2 ⟨rfl, hc_1⟩
  have h_3 := h_00.same hc_1
  refine WL.q (Wn.no rfl) rfl rfl (R.not (b := false) rfl) ?_
  refine WL.nil ?_
  refine thn_n ?_
  refine WP.condT rfl ?_
  refine WP.seq ?_
  refine WP.reg ?_
  refine WL.q (Wn.no rfl) rfl rfl (R.assign (v := (.slice none 0 0)) rfl) ?_
  refine WL.nil ?_
  refine thn_n ?_
  refine WP.ret ?_
  refine thn_r ?_
  refine ret_of Try.results27 (RV.tmp (v := (.slice none 0 0)) rfl RV.nil) ?_
  exact ⟨rfl, h_3.chgS⟩

theorem c_oIde_nil  (w : World) :
    Cs Try.prog 42 [(.pointer none)].toArray w (fun v w1 => v = (.bool false) ∧ Chg w w1 []) := by
  refine Cs.of (n := 11) (args := [(.pointer none)]) Try.func42 rfl rfl rfl ?_
  have h_0 := HP.init w
  refine WP.seq ?_
  refine WP.reg ?_
  refine WL.q (Wn.no rfl) rfl rfl (R.assign (v := (.bool false)) rfl) ?_
  refine WL.nil ?_
  refine thn_n ?_
  refine WP.seq ?_
  refine WP.reg ?_
  refine WL.q (Wn.no rfl) rfl rfl (R.move (v := (.pointer none)) rfl) ?_
  refine WL.call (al := [(.pointer none)]) Try.call53 rfl rfl (c_othere_nil  _ ) rfl ?_
  rintro _ w_2 ⟨rfl, hc_1⟩
  have h_3 := h_0.same hc_1
  refine WL.q (Wn.no rfl) rfl rfl (R.move (v := (.bool false)) rfl) ?_
  refine WL.skip rfl rfl rfl ?_
  refine WL.skip rfl rfl rfl ?_
  refine WL.skip rfl rfl rfl ?_
  refine WL.skip rfl rfl rfl ?_
  refine WL.q (Wn.no rfl) rfl rfl (R.pickF (v := (.bool false)) rfl rfl) ?_
  refine WL.q (Wn.no rfl) rfl rfl (R.assign (v := (.bool false)) rfl) ?_
  refine WL.nil ?_
  refine thn_n ?_
  refine WP.ret ?_
  refine ret_of Try.results42 (RV.tmp (v := (.bool false)) rfl RV.nil) ?_
  exact ⟨rfl, h_3.chgS⟩

theorem c_oIde_z (bc : Nat) (w : World) (hcb : (Ent.blk bc .ro 47 [(1, [(.bool false)]), (32, (List.replicate 32 (0 : UInt8)).map vu8), (1, [(.slice none 0 0)]), (1, [(vi 0)]), (1, [(.map none)]), (1, [(.slice none 0 0)])]).ok w.heap.size w) :
    Cs Try.prog 42 [(.pointer (some ⟨bc, 0, none⟩))].toArray w (fun v w1 => v = (.bool false) ∧ Chg w w1 []) := by
  refine Cs.of (n := 11) (args := [(.pointer (some ⟨bc, 0, none⟩))]) Try.func42 rfl rfl rfl ?_
  have h_0 := HP.init w
  have h_00 := h_0.old hcb (fun f hf => by cases hf)
  refine WP.seq ?_
  refine WP.reg ?_
  refine WL.q (Wn.no rfl) rfl rfl (R.assign (v := (.bool false)) rfl) ?_
  refine WL.nil ?_
  refine thn_n ?_
  refine WP.seq ?_
  refine WP.reg ?_
  refine WL.q (Wn.no rfl) rfl rfl (R.move (v := (.pointer (some ⟨bc, 0, none⟩))) rfl) ?_
  refine WL.call (al := [(.pointer (some ⟨bc, 0, none⟩))]) Try.call53 rfl rfl (c_othere_z bc _ (h_00.argR (.head _))) rfl ?_
  rintro _ w_2 ⟨rfl, hc_1⟩
  have h_3 := h_00.same hc_1
  refine WL.q (Wn.no rfl) rfl rfl (R.move (v := (.bool false)) rfl) ?_
  refine WL.skip rfl rfl rfl ?_
  refine WL.skip rfl rfl rfl ?_
  refine WL.skip rfl rfl rfl ?_
  refine WL.skip rfl rfl rfl ?_
  refine WL.q (Wn.no rfl) rfl rfl (R.pickF (v := (.bool false)) rfl rfl) ?_
  refine WL.q (Wn.no rfl) rfl rfl (R.assign (v := (.bool false)) rfl) ?_
  refine WL.nil ?_
  refine thn_n ?_
  refine WP.ret ?_
  refine ret_of Try.results42 (RV.tmp (v := (.bool false)) rfl RV.nil) ?_
  exact ⟨rfl, h_3.chgS⟩

theorem c_oUsed_nil  (w : World) :
    Cs Try.prog 43 [(.pointer none)].toArray w (fun v w1 => v = (vi 0) ∧ Chg w w1 []) := by
  refine Cs.of (n := 10) (args := [(.pointer none)]) Try.func43 rfl rfl rfl ?_
  have h_0 := HP.init w
  refine WP.seq ?_
  refine WP.reg ?_
  refine WL.q (Wn.no rfl) rfl rfl (R.assign (v := (vi 0)) rfl) ?_
  refine WL.nil ?_
  refine thn_n ?_
  refine WP.seq ?_
  refine WP.seq ?_
  refine WP.reg ?_
  refine WL.q (Wn.no rfl) rfl rfl (R.move (v := (.pointer none)) rfl) ?_
  refine WL.call (al := [(.pointer none)]) Try.call53 rfl rfl (c_othere_nil  _ ) rfl ?_
  rintro _ w_2 ⟨rfl, hc_1⟩
  have h_3 := h_0.same hc_1
  refine WL.q (Wn.no rfl) rfl rfl (R.not (b := false) rfl) ?_
  refine WL.nil ?_
  refine thn_n ?_
  refine WP.condT rfl ?_
  refine WP.seq ?_
  refine WP.reg ?_
  refine WL.q (Wn.no rfl) rfl rfl (R.assign (v := (vi 0)) rfl) ?_
  refine WL.nil ?_
  refine thn_n ?_
  refine WP.ret ?_
  refine thn_r ?_
  refine ret_of Try.results43 (RV.tmp (v := (vi 0)) rfl RV.nil) ?_
  exact ⟨rfl, h_3.chgS⟩

theorem c_oUsed_z (bc : Nat) (w : World) (hcb : (Ent.blk bc .ro 47 [(1, [(.bool false)]), (32, (List.replicate 32 (0 : UInt8)).map vu8), (1, [(.slice none 0 0)]), (1, [(vi 0)]), (1, [(.map none)]), (1, [(.slice none 0 0)])]).ok w.heap.size w) :
    Cs Try.prog 43 [(.pointer (some ⟨bc, 0, none⟩))].toArray w (fun v w1 => v = (vi 0) ∧ Chg w w1 []) := by
  refine Cs.of (n := 10) (args := [(.pointer (some ⟨bc, 0, none⟩))]) Try.func43 rfl rfl rfl ?_
  have h_0 := HP.init w
  have h_00 := h_0.old hcb (fun f hf => by cases hf)
  refine WP.seq ?_
  refine WP.reg ?_
  refine WL.q (Wn.no rfl) rfl rfl (R.assign (v := (vi 0)) rfl) ?_
  refine WL.nil ?_
  refine thn_n ?_
  refine WP.seq ?_
  refine WP.seq ?_
  refine WP.reg ?_
  refine WL.q (Wn.no rfl) rfl rfl (R.move (v := (.pointer (some ⟨bc, 0, none⟩))) rfl) ?_
  refine WL.call (al := [(.pointer (some ⟨bc, 0, none⟩))]) Try.call53 rfl rfl (c_othere_z bc _ (h_00.argR (.head _))) rfl ?_
  rintro _ w_2 ⟨rfl, hc_1⟩
  have h_3 := h_00.same hc_1
  refine WL.q (Wn.no rfl) rfl rfl (R.not (b := false) rfl) ?_
  refine WL.nil ?_
  refine thn_n ?_
  refine WP.condT rfl ?_
  refine WP.seq ?_
  refine WP.reg ?_
  refine WL.q (Wn.no rfl) rfl rfl (R.assign (v := (vi 0)) rfl) ?_
  refine WL.nil ?_
  refine thn_n ?_
  refine WP.ret ?_
  refine thn_r ?_
  refine ret_of Try.results43 (RV.tmp (v := (vi 0)) rfl RV.nil) ?_
  exact ⟨rfl, h_3.chgS⟩

theorem c_oUsed (ob mp : Nat) (ms : List UInt8) (hms : ms.length = 32) (da : Option Addr) (dn dc u : Nat) (la : Option Addr) (ln lc : Nat) (w : World) (hcb : (Ent.blk ob .ro 47 [(1, [(.bool true)]), (32, ms.map vu8), (1, [(.slice da dn dc)]), (1, [(vi ((u : Nat) : Int))]), (1, [(.map (some mp))]), (1, [(.slice la ln lc)])]).ok w.heap.size w) :
    Cs Try.prog 43 [(.pointer (some ⟨ob, 0, none⟩))].toArray w (fun v w1 => v = (vi ((u : Nat) : Int)) ∧ Chg w w1 []) := by
  refine Cs.of (n := 10) (args := [(.pointer (some ⟨ob, 0, none⟩))]) Try.func43 rfl rfl rfl ?_
  have h_0 := HP.init w
  have h_00 := h_0.old hcb (fun f hf => by cases hf)
  refine WP.seq ?_
  refine WP.reg ?_
  refine WL.q (Wn.no rfl) rfl rfl (R.assign (v := (vi 0)) rfl) ?_
  refine WL.nil ?_
  refine thn_n ?_
  refine WP.seq ?_
  refine WP.seq ?_
  refine WP.reg ?_
  refine WL.q (Wn.no rfl) rfl rfl (R.move (v := (.pointer (some ⟨ob, 0, none⟩))) rfl) ?_
  refine WL.call (al := [(.pointer (some ⟨ob, 0, none⟩))]) Try.call53 rfl rfl (c_othere ob mp ms hms da dn dc u la ln lc _ (h_00.argR (.head _))) rfl ?_
  rintro _ w_2 ⟨rfl, hc_1⟩
  have h_3 := h_00.same hc_1
  refine WL.q (Wn.no rfl) rfl rfl (R.not (b := true) rfl) ?_
  refine WL.nil ?_
  refine thn_n ?_
  refine WP.condF rfl ?_
  refine WP.skip ?_
  refine thn_n ?_
  refine WP.seq ?_
  refine WP.reg ?_
  refine WL.q (Wn.no rfl) rfl rfl (R.move (v := (.pointer (some ⟨ob, 0, none⟩))) rfl) ?_
  refine WL.q (Wn.no rfl) rfl rfl (R.nilCheck rfl) ?_
  refine WL.q (Wn.no rfl) rfl rfl (R.fieldAddr (b := ob) (off := 0) (off' := 34) rfl Try.underlying47 rfl Try.sizeOf3 rfl rfl) ?_
  refine WL.q (Wn.no rfl) rfl rfl (R.load1 (b := ob) (off := 34) (v := (vi ((u : Nat) : Int))) rfl Try.isAgg3 (h_3.ok _ (.head _)) (Sg.t rfl (Sg.t rfl (Sg.t rfl Sg.h)))) ?_
  refine WL.q (Wn.no rfl) rfl rfl (R.assign (v := (vi ((u : Nat) : Int))) rfl) ?_
  refine WL.nil ?_
  refine thn_n ?_
  refine WP.ret ?_
  refine ret_of Try.results43 (RV.tmp (v := (vi ((u : Nat) : Int))) rfl RV.nil) ?_
  exact ⟨rfl, h_3.chgS⟩

theorem c_oCopy_nil  (w : World) :
    Cs Try.prog 44 [(.pointer none)].toArray w (fun v w1 => v = (.pointer none) ∧ Chg w w1 []) := by
  refine Cs.of (n := 68) (args := [(.pointer none)]) Try.func44 rfl rfl rfl ?_
  have h_0 := HP.init w
  refine WP.seq ?_
  refine WP.reg ?_
  refine WL.q (Wn.no rfl) rfl rfl (R.assign (v := (.pointer none)) rfl) ?_
  refine WL.nil ?_
  refine thn_n ?_
  refine WP.seq ?_
  refine WP.seq ?_
  refine WP.reg ?_
  refine WL.q (Wn.no rfl) rfl rfl (R.move (v := (.pointer none)) rfl) ?_
  refine WL.call (al := [(.pointer none)]) Try.call53 rfl rfl (c_othere_nil  _ ) rfl ?_
  rintro _ w_2 ⟨rfl, hc_1⟩
  have h_3 := h_0.same hc_1
  refine WL.q (Wn.no rfl) rfl rfl (R.not (b := false) rfl) ?_
  refine WL.nil ?_
  refine thn_n ?_
  refine WP.condT rfl ?_
  refine WP.seq ?_
  refine WP.reg ?_
  refine WL.q (Wn.no rfl) rfl rfl (R.assign (v := (.pointer none)) rfl) ?_
  refine WL.nil ?_
  refine thn_n ?_
  refine WP.ret ?_
  refine thn_r ?_
  refine ret_of Try.results44 (RV.tmp (v := (.pointer none)) rfl RV.nil) ?_
  exact ⟨rfl, h_3.chgS⟩

theorem c_oCopy_z (bc : Nat) (w : World) (hcb : (Ent.blk bc .ro 47 [(1, [(.bool false)]), (32, (List.replicate 32 (0 : UInt8)).map vu8), (1, [(.slice none 0 0)]), (1, [(vi 0)]), (1, [(.map none)]), (1, [(.slice none 0 0)])]).ok w.heap.size w) :
    Cs Try.prog 44 [(.pointer (some ⟨bc, 0, none⟩))].toArray w (fun v w1 => v = (.pointer none) ∧ Chg w w1 []) := by
  refine Cs.of (n := 68) (args := [(.pointer (some ⟨bc, 0, none⟩))]) Try.func44 rfl rfl rfl ?_
  have h_0 := HP.init w
  have h_00 := h_0.old hcb (fun f hf => by cases hf)
  refine WP.seq ?_
  refine WP.reg ?_
  refine WL.q (Wn.no rfl) rfl rfl (R.assign (v := (.pointer none)) rfl) ?_
  refine WL.nil ?_
  refine thn_n ?_
  refine WP.seq ?_
  refine WP.seq ?_
  refine WP.reg ?_
  refine WL.q (Wn.no rfl) rfl rfl (R.move (v := (.pointer (some ⟨bc, 0, none⟩))) rfl) ?_
  refine WL.call (al := [(.pointer (some ⟨bc, 0, none⟩))]) Try.call53 rfl rfl (c_othere_z bc _ (h_00.argR (.head _))) rfl ?_
  rintro _ w_2 ⟨rfl, hc_1⟩
  have h_3 := h_00.same hc_1
  refine WL.q (Wn.no rfl) rfl rfl (R.not (b := false) rfl) ?_
  refine WL.nil ?_
  refine thn_n ?_
  refine WP.condT rfl ?_
  refine WP.seq ?_
  refine WP.reg ?_
  refine WL.q (Wn.no rfl) rfl rfl (R.assign (v := (.pointer none)) rfl) ?_
  refine WL.nil ?_
  refine thn_n ?_
  refine WP.ret ?_
  refine thn_r ?_
  refine ret_of Try.results44 (RV.tmp (v := (.pointer none)) rfl RV.nil) ?_
  exact ⟨rfl, h_3.chgS⟩

theorem c_oBrk_nil  (w : World) :
    Cs Try.prog 45 [(.pointer none)].toArray w (fun v w1 => ∃ b, v = (Value.func (Fn.func 73) [].toArray [(Value.pointer (some ⟨b, 0, none⟩))].toArray) ∧ Chg w w1 [] ∧ CellsAt w1 b 45 (flat [(1, [.slice none 0 0])]) ∧ w.heap.size ≤ b) := by
  refine Cs.of (n := 7) (args := [(.pointer none)]) Try.func45 rfl rfl rfl ?_
  have h_0 := HP.init w
  refine WP.seq ?_
  refine WP.reg ?_
  refine WL.q (Wn.no rfl) rfl rfl (R.assign (v := .nilFunc) rfl) ?_
  refine WL.nil ?_
  refine thn_n ?_
  refine WP.seq ?_
  refine WP.reg ?_
  refine WL.q (Wn.no rfl) rfl rfl (R.move (v := (.pointer none)) rfl) ?_
  refine WL.call (al := [(.pointer none)]) Try.call27 rfl rfl (c_oLog_nil  _ ) rfl ?_
  rintro _ w_2 ⟨rfl, hc_1⟩
  have h_3 := h_0.same hc_1
  refine WL.alloc (segs := [(1, [(.slice none 0 0)])]) h_3 (zv Try.typeInfo45 rfl) rfl (SsOk.cons (SOk.v rfl) SsOk.nil) rfl (fun b_4 w_5 h_6 => ?_)
  refine WL.store1 (b := b_4) (off := 0) (v := (.slice none 0 0)) h_6 rfl rfl Try.sizeOf45 rfl At.h (by decide) Sg.h (fun w_7 h_8 => ?_)
  refine WL.nil ?_
  refine thn_n ?_
  refine WP.seq ?_
  refine WP.reg ?_
  refine WL.q (Wn.no rfl) rfl rfl (R.makeFuncL (fi := []) (ca := [(.pointer (some ⟨b_4, 0, none⟩))]) rfl rfl) ?_
  refine WL.q (Wn.no rfl) rfl rfl (R.assign (v := (Value.func (Fn.func 73) [].toArray [(Value.pointer (some ⟨b_4, 0, none⟩))].toArray)) rfl) ?_
  refine WL.nil ?_
  refine thn_n ?_
  refine WP.ret ?_
  refine ret_of Try.results45 (RV.tmp (v := (Value.func (Fn.func 73) [].toArray [(Value.pointer (some ⟨b_4, 0, none⟩))].toArray)) rfl RV.nil) ?_
  exact ⟨_, rfl, h_8.chgS, h_8.cells (.head _), h_8.newB (.head _)⟩

theorem c_oBrk_z (bc : Nat) (w : World) (hcb : (Ent.blk bc .ro 47 [(1, [(.bool false)]), (32, (List.replicate 32 (0 : UInt8)).map vu8), (1, [(.slice none 0 0)]), (1, [(vi 0)]), (1, [(.map none)]), (1, [(.slice none 0 0)])]).ok w.heap.size w) :
    Cs Try.prog 45 [(.pointer (some ⟨bc, 0, none⟩))].toArray w (fun v w1 => ∃ b, v = (Value.func (Fn.func 73) [].toArray [(Value.pointer (some ⟨b, 0, none⟩))].toArray) ∧ Chg w w1 [] ∧ CellsAt w1 b 45 (flat [(1, [.slice none 0 0])]) ∧ w.heap.size ≤ b) := by
  refine Cs.of (n := 7) (args := [(.pointer (some ⟨bc, 0, none⟩))]) Try.func45 rfl rfl rfl ?_
  have h_0 := HP.init w
  have h_00 := h_0.old hcb (fun f hf => by cases hf)
  refine WP.seq ?_
  refine WP.reg ?_
  refine WL.q (Wn.no rfl) rfl rfl (R.assign (v := .nilFunc) rfl) ?_
  refine WL.nil ?_
  refine thn_n ?_
  refine WP.seq ?_
  refine WP.reg ?_
  refine WL.q (Wn.no rfl) rfl rfl (R.move (v := (.pointer (some ⟨bc, 0, none⟩))) rfl) ?_
  refine WL.call (al := [(.pointer (some ⟨bc, 0, none⟩))]) Try.call27 rfl rfl (c_oLog_z bc  _ (h_00.argR (.head _))) rfl ?_
  rintro _ w_2 ⟨rfl, hc_1⟩
  have h_3 := h_00.same hc_1
  refine WL.alloc (segs := [(1, [(.slice none 0 0)])]) h_3 (zv Try.typeInfo45 rfl) rfl (SsOk.cons (SOk.v rfl) SsOk.nil) rfl (fun b_4 w_5 h_6 => ?_)
  refine WL.store1 (b := b_4) (off := 0) (v := (.slice none 0 0)) h_6 rfl rfl Try.sizeOf45 rfl At.h (by decide) Sg.h (fun w_7 h_8 => ?_)
  refine WL.nil ?_
  refine thn_n ?_
  refine WP.seq ?_
  refine WP.reg ?_
  refine WL.q (Wn.no rfl) rfl rfl (R.makeFuncL (fi := []) (ca := [(.pointer (some ⟨b_4, 0, none⟩))]) rfl rfl) ?_
  refine WL.q (Wn.no rfl) rfl rfl (R.assign (v := (Value.func (Fn.func 73) [].toArray [(Value.pointer (some ⟨b_4, 0, none⟩))].toArray)) rfl) ?_
  refine WL.nil ?_
  refine thn_n ?_
  refine WP.ret ?_
  refine ret_of Try.results45 (RV.tmp (v := (Value.func (Fn.func 73) [].toArray [(Value.pointer (some ⟨b_4, 0, none⟩))].toArray)) rfl RV.nil) ?_
  exact ⟨_, rfl, h_8.chgS, h_8.cells (.head _), h_8.newB (.head _)⟩

theorem c_Brk1 (yv : Value) (b : Nat) (w : World) (hcb : (Ent.blk b .ro 45 [(1, [.slice none 0 0])]).ok w.heap.size w) :
    Cs Try.prog 73 [yv, (.pointer (some ⟨b, 0, none⟩))].toArray w (fun v w1 => v = .tuple [].toArray ∧ Chg w w1 []) := by
  refine Cs.of (n := 55) (args := [yv, (.pointer (some ⟨b, 0, none⟩))]) Try.func73 rfl rfl rfl ?_
  have h_0 := HP.init w
  have h_00 := h_0.old hcb (fun f hf => by cases hf)
  refine WP.seq ?_
  refine WP.reg ?_
  refine WL.q (Wn.no rfl) rfl rfl (R.load1 (b := b) (off := 0) (v := (.slice none 0 0)) rfl Try.isAgg45 (h_00.ok _ (.head _)) Sg.h) ?_
  refine WL.q (Wn.no rfl) rfl rfl (R.lenS (a := none) (m := 0) rfl rfl Try.underlying45) ?_
  refine WL.q (Wn.no rfl) rfl rfl (R.move (v := (vi 0)) rfl) ?_
  refine WL.nil ?_
  refine thn_n ?_
  refine WP.block ?_
  refine WP.loopU (WI.round ?_)
  refine WP.seq ?_
  refine WP.reg ?_
  refine WL.q (Wn.no rfl) rfl rfl (R.bin (v := (.bool false)) rfl rfl (bi_lss (r := false) (by decide))) ?_
  refine WL.nil ?_
  refine thn_n ?_
  refine WP.seq ?_
  refine WP.condF rfl ?_
  refine WP.exit ?_
  refine thn_x ?_
  refine thn_x ?_
  refine inb_hit ?_
  refine ret_n ?_
  refine ret_of Try.results73 RV.nil ?_
  exact ⟨rfl, h_00.chgS⟩
end Go.Proofs.Ytbldmljbfokobaa
