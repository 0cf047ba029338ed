/- Package blob, in ideal mode: contracts. Conditions: those that each theorem states. -/
import Derived.Test.YtbldmljbfokobaaQ4
namespace Go.Proofs.Ytbldmljbfokobaa
open Go.Vc Go.Orc Go.RowKit
set_option linter.unusedVariables false
set_option linter.unusedSimpArgs false
set_option maxRecDepth 20000
theorem pl64 : ∀ fs, Try.prog.underlying 64 = some (.struct fs) → Places Try.prog fs [(0, 1), (1, 32), (33, 1), (34, 1)] := by
  intro fs h w; rw [Try.underlying64] at h; cases h; simp
theorem c_Mix (p q : List UInt8) (hp : p.length = 128) (hq : q.length = 128) (w : World) :
    Cs Try.prog 29 [(.agg ⟨p.map vu8⟩), (.agg ⟨q.map vu8⟩)].toArray w (fun v w1 => v = (.agg ⟨(gx p q).map vu8⟩) ∧ Chg w w1 []) := by
  refine Cs.of (n := 19) (args := [(.agg ⟨p.map vu8⟩), (.agg ⟨q.map vu8⟩)]) Try.func29 rfl rfl rfl ?_
  have h_0 := HP.init w
  refine WP.seq ?_
  refine WP.reg ?_
  refine WL.box (v := (.agg ⟨p.map vu8⟩)) (segs := [(128, p.map vu8)]) h_0 rfl rfl (SsOk.cons (SOk.u8 hp) SsOk.nil) rfl (fun b_1 w_2 h_3 => ?_)
  refine WL.box (v := (.agg ⟨q.map vu8⟩)) (segs := [(128, q.map vu8)]) h_3 rfl rfl (SsOk.cons (SOk.u8 hq) SsOk.nil) rfl (fun b_4 w_5 h_6 => ?_)
  refine WL.alloc (segs := [(128, (List.replicate 128 (0 : UInt8)).map vu8)]) h_6 (zv Try.typeInfo42 rfl) rfl (SsOk.cons (SOk.u8 (List.length_replicate ..)) SsOk.nil) rfl (fun b_7 w_8 h_9 => ?_)
  refine WL.nil ?_
  refine thn_n ?_
  refine WP.seq ?_
  refine WP.seq ?_
  refine WP.reg ?_
  refine WL.q (Wn.no rfl) rfl rfl (R.move (v := (vi 0)) rfl) ?_
  refine WL.nil ?_
  refine thn_n ?_
  refine WP.block ?_
  refine WP.loopG (G := Nat) [5, 6, 7, 8, 9, 10, 11, 12, 13, 14, 15, 16, 17] (fun i => [(6, (vi ((i : Nat) : Int)))]) (fun i m w1 => HP w w1 [.blk b_7 .nw 42 [(128, (List.replicate 128 (0 : UInt8)).map vu8)], .blk b_4 .nw 42 [(128, q.map vu8)], .blk b_1 .nw 42 [(128, (Go.Sh.mix (gx p q) p i).map vu8)]] ∧ (i ≤ 128) ∧ m = 128 - i) ⟨0, _, ⟨rfl, trivial⟩, (by rw [Go.Sh.mix_0]; exact h_9), (by omega), rfl⟩ ?_
  rintro i m_12 J_13 w_10 ⟨h_11, hi, rfl⟩
  refine WP.seq ?_
  refine WP.reg ?_
  refine WL.q (Wn.no rfl) rfl rfl (R.bin (v := (.bool (decide ((((i : Nat) : Int) : Int) < 128)))) rfl rfl (bi_lss (r := decide ((((i : Nat) : Int) : Int) < 128)) rfl)) ?_
  refine WL.nil ?_
  refine thn_n ?_
  refine WP.seq ?_
  refine WP.cond (b := decide ((((i : Nat) : Int) : Int) < 128)) rfl (fun c_14 => ?_) (fun c_14 => ?_)
  · have p_15 := of_decide_eq_true c_14
    refine WP.skip ?_
    refine thn_n ?_
    refine WP.seq ?_
    refine WP.block ?_
    refine WP.seq ?_
    refine WP.reg ?_
    refine WL.q (Wn.no rfl) rfl rfl (R.move (v := (vi ((i : Nat) : Int))) rfl) ?_
    refine WL.q (Wn.no rfl) rfl rfl (R.assign (v := (vi ((i : Nat) : Int))) rfl) ?_
    refine WL.nil ?_
    refine thn_n ?_
    refine WP.drawZ 8 (SL w.heap.size [.blk b_7 .nw 42 [(128, (List.replicate 128 (0 : UInt8)).map vu8)], .blk b_4 .nw 42 [(128, q.map vu8)], .blk b_1 .nw 42 [(128, (Go.Sh.mix (gx p q) p i).map vu8)]]) (.q 0 (.q 1 (.q 2 (.q 3 (.q 4 (.q 5 (.q 6 (.q 7 (.s 8 .nil))))))))) (by kernel_rfl) (by kernel_rfl) rfl (by kernel_rfl) (fun w_16 hc_18 => (SL.cons ((h_11.same hc_18).ok _ (.head _)) (SL.cons ((h_11.same hc_18).ok _ (.tail _ (.head _))) (SL.cons ((h_11.same hc_18).ok _ (.tail _ (.tail _ (.head _)))) (SL.nil _ _))))) (fun w_16 hc_18 => ?_)
    have h_17 := h_11.same hc_18
    refine ZT.q rfl (Wn.no rfl) rfl rfl (fun wq hS => R.move (v := (vi ((i : Nat) : Int))) rfl) ?_
    refine ZT.q rfl (Wn.no rfl) rfl rfl (fun wq hS => R.indexA (b := b_1) (off := 0) (off' := (0 + i)) (i := i) rfl rfl rfl (by omega) Try.underlying42 Try.sizeOf5 (by rw [Nat.mul_one])) ?_
    refine ZT.q rfl (Wn.no rfl) rfl rfl (fun wq hS => R.loadE (b := b_1) (off := (0 + i)) (i := i) (v := (vu8 ((Go.Sh.mix (gx p q) p i).getD i 0))) rfl Try.isAgg5 (hS _ (.tail _ (.tail _ (.head _)))) Sg.h rfl (get_u8 (lt_len (K := 128) (Go.Sh.mix_len (gx_len hp hq) hp) (by omega)))) ?_
    refine ZT.q rfl (Wn.no rfl) rfl rfl (fun wq hS => R.move (v := (vi ((i : Nat) : Int))) rfl) ?_
    refine ZT.q rfl (Wn.no rfl) rfl rfl (fun wq hS => R.indexA (b := b_4) (off := 0) (off' := (0 + i)) (i := i) rfl rfl rfl (by omega) Try.underlying42 Try.sizeOf5 (by rw [Nat.mul_one])) ?_
    refine ZT.q rfl (Wn.no rfl) rfl rfl (fun wq hS => R.loadE (b := b_4) (off := (0 + i)) (i := i) (v := (vu8 (q.getD i 0))) rfl Try.isAgg5 (hS _ (.tail _ (.head _))) Sg.h rfl (get_u8 (lt_len (K := 128) hq (by omega)))) ?_
    refine ZT.q rfl (Wn.no rfl) rfl rfl (fun wq hS => R.bin (v := (vu8 (((Go.Sh.mix (gx p q) p i).getD i 0) ^^^ (q.getD i 0)))) rfl rfl (b8_xor ((Go.Sh.mix (gx p q) p i).getD i 0) (q.getD i 0))) ?_
    refine ZT.q rfl (Wn.no rfl) rfl rfl (fun wq hS => R.indexA (b := b_1) (off := 0) (off' := (0 + i)) (i := i) rfl rfl rfl (by omega) Try.underlying42 Try.sizeOf5 (by rw [Nat.mul_one])) ?_
    refine ZT.s ?_
    refine OpZ.last rfl (Wn.no rfl) ?_
    refine WL.storeE (b := b_1) (off := (0 + i)) (i := i) (v := (vu8 (((Go.Sh.mix (gx p q) p i).getD i 0) ^^^ (q.getD i 0)))) (cs' := ((Go.Sh.mix (gx p q) p i).set i (((Go.Sh.mix (gx p q) p i).getD i 0) ^^^ (q.getD i 0))).map vu8) h_17 rfl rfl Try.sizeOf5 rfl (At.t (At.t At.h)) (by decide) Sg.h rfl (lt_len (K := 128) (len_map (Go.Sh.mix_len (gx_len hp hq) hp)) (by omega)) (set_u8 _ _ _) (fun w_19 h_20 => ?_)
    refine WL.nil ?_
    refine ZT.nil ?_
    refine inb_n ?_
    refine thn_n ?_
    refine WP.reg ?_
    refine WL.q (Wn.no rfl) rfl rfl (R.bin (v := (vi ((i + 1 : Nat) : Int))) rfl rfl (bi_add (c := ((i + 1 : Nat) : Int)) (by omega) (by omega))) ?_
    refine WL.q (Wn.no rfl) rfl rfl (R.move (v := (vi ((i + 1 : Nat) : Int))) rfl) ?_
    refine WL.nil ?_
    refine thn_n ?_
    have h_21 := h_20.up (Pick.t (Pick.t Pick.h))
    have h_22 := h_21.up (Pick.t (Pick.t Pick.h))
    have h_23 := h_22.up (Pick.t (Pick.t Pick.h))
    rw [gx_step hp hq (by omega)] at h_23
    exact ⟨i + 1, _, (by omega), (Ag.upd rfl (Ag.upd rfl (Ag.upd rfl (Ag.upd rfl (Ag.upd rfl (Ag.upd rfl (Ag.upd rfl (Ag.upd rfl (Ag.upd rfl (Ag.upd rfl (Ag.upd rfl (Ag.upd rfl (Ag.upd rfl (Ag.updL rfl (Ag.mix _ _ _))))))))))))))), ⟨rfl, trivial⟩, h_23, (by omega), rfl⟩
  · have p_24 := of_decide_eq_false c_14
    refine WP.exit ?_
    refine thn_x ?_
    refine thn_x ?_
    refine inb_hit ?_
    refine thn_n ?_
    refine WP.seq ?_
    refine WP.reg ?_
    refine WL.q (Wn.no rfl) rfl rfl (R.loadA (b := b_1) (off := 0) [] [(128, (Go.Sh.mix (gx p q) p i).map vu8)] [] (cs := (Go.Sh.mix (gx p q) p i).map vu8) rfl Try.isAgg42 Try.sizeOf42 (h_11.ok _ (.tail _ (.tail _ (.head _)))) rfl rfl rfl rfl) ?_
    refine WL.storeA (b := b_7) (off := 0) [] [(128, (List.replicate 128 (0 : UInt8)).map vu8)] [(128, (Go.Sh.mix (gx p q) p i).map vu8)] [] (ys := (Go.Sh.mix (gx p q) p i).map vu8) h_11 rfl rfl Try.sizeOf42 At.h (by decide) rfl rfl rfl rfl rfl rfl (SsOk.cons (SOk.u8 (Go.Sh.mix_len (gx_len hp hq) hp)) SsOk.nil) (fun w_25 h_26 => ?_)
    refine WL.nil ?_
    refine thn_n ?_
    refine WP.ret ?_
    refine ret_of Try.results29 (RV.cell rfl (h_26.loadA (cs := (Go.Sh.mix (gx p q) p i).map vu8) Try.isAgg42 Try.sizeOf42 (.head _) rfl rfl) RV.nil) ?_
    have hi2 : i = 128 := by omega
    subst hi2
    exact ⟨by rw [gx_all hp hq]; rfl, h_26.chgS⟩

theorem c_MixR (p q : List UInt8) (hp : p.length = 128) (hq : q.length = 128) (w : World) :
    Cs Try.prog 30 [(.agg ⟨p.map vu8⟩), (.agg ⟨q.map vu8⟩)].toArray w (fun v w1 => v = (.agg ⟨(gx p q).map vu8⟩) ∧ Chg w w1 []) := by
  refine Cs.of (n := 20) (args := [(.agg ⟨p.map vu8⟩), (.agg ⟨q.map vu8⟩)]) Try.func30 rfl rfl rfl ?_
  have h_0 := HP.init w
  refine WP.seq ?_
  refine WP.reg ?_
  refine WL.box (v := (.agg ⟨p.map vu8⟩)) (segs := [(128, p.map vu8)]) h_0 rfl rfl (SsOk.cons (SOk.u8 hp) SsOk.nil) rfl (fun b_1 w_2 h_3 => ?_)
  refine WL.box (v := (.agg ⟨q.map vu8⟩)) (segs := [(128, q.map vu8)]) h_3 rfl rfl (SsOk.cons (SOk.u8 hq) SsOk.nil) rfl (fun b_4 w_5 h_6 => ?_)
  refine WL.alloc (segs := [(128, (List.replicate 128 (0 : UInt8)).map vu8)]) h_6 (zv Try.typeInfo42 rfl) rfl (SsOk.cons (SOk.u8 (List.length_replicate ..)) SsOk.nil) rfl (fun b_7 w_8 h_9 => ?_)
  refine WL.nil ?_
  refine thn_n ?_
  refine WP.seq ?_
  refine WP.seq ?_
  refine WP.reg ?_
  refine WL.q (Wn.no rfl) rfl rfl (R.assign (v := (vi 0)) rfl) ?_
  refine WL.nil ?_
  refine thn_n ?_
  refine WP.block ?_
  refine WP.loopG (G := Nat) [5, 6, 7, 8, 9, 10, 11, 12, 13, 14, 15, 16, 17, 18] (fun i => [(5, (vi ((i : Nat) : Int)))]) (fun i m w1 => HP w w1 [.blk b_7 .nw 42 [(128, (List.replicate 128 (0 : UInt8)).map vu8)], .blk b_4 .nw 42 [(128, q.map vu8)], .blk b_1 .nw 42 [(128, (Go.Sh.mix (gx p q) p i).map vu8)]] ∧ (i ≤ 128) ∧ m = 128 - i) ⟨0, _, ⟨rfl, trivial⟩, (by rw [Go.Sh.mix_0]; exact h_9), (by omega), rfl⟩ ?_
  rintro i m_12 J_13 w_10 ⟨h_11, hi, rfl⟩
  refine WP.seq ?_
  refine WP.seq ?_
  refine WP.reg ?_
  refine WL.q (Wn.no rfl) rfl rfl (R.move (v := (vi ((i : Nat) : Int))) rfl) ?_
  refine WL.q (Wn.no rfl) rfl rfl (R.bin (v := (.bool (decide ((((i : Nat) : Int) : Int) < 128)))) rfl rfl (bi_lss (r := decide ((((i : Nat) : Int) : Int) < 128)) rfl)) ?_
  refine WL.nil ?_
  refine thn_n ?_
  refine WP.cond (b := decide ((((i : Nat) : Int) : Int) < 128)) rfl (fun c_14 => ?_) (fun c_14 => ?_)
  · have p_15 := of_decide_eq_true c_14
    refine WP.skip ?_
    refine thn_n ?_
    refine WP.seq ?_
    refine WP.block ?_
    refine WP.drawZ 9 (SL w.heap.size [.blk b_7 .nw 42 [(128, (List.replicate 128 (0 : UInt8)).map vu8)], .blk b_4 .nw 42 [(128, q.map vu8)], .blk b_1 .nw 42 [(128, (Go.Sh.mix (gx p q) p i).map vu8)]]) (.q 0 (.q 1 (.q 2 (.q 3 (.q 4 (.q 5 (.q 6 (.q 7 (.q 8 (.s 9 .nil)))))))))) (by kernel_rfl) (by kernel_rfl) rfl (by kernel_rfl) (fun w_16 hc_18 => (SL.cons ((h_11.same hc_18).ok _ (.head _)) (SL.cons ((h_11.same hc_18).ok _ (.tail _ (.head _))) (SL.cons ((h_11.same hc_18).ok _ (.tail _ (.tail _ (.head _)))) (SL.nil _ _))))) (fun w_16 hc_18 => ?_)
    have h_17 := h_11.same hc_18
    refine ZT.q rfl (Wn.no rfl) rfl rfl (fun wq hS => R.move (v := (vi ((i : Nat) : Int))) rfl) ?_
    refine ZT.q rfl (Wn.no rfl) rfl rfl (fun wq hS => R.move (v := (vi ((i : Nat) : Int))) rfl) ?_
    refine ZT.q rfl (Wn.no rfl) rfl rfl (fun wq hS => R.indexA (b := b_1) (off := 0) (off' := (0 + i)) (i := i) rfl rfl rfl (by omega) Try.underlying42 Try.sizeOf5 (by rw [Nat.mul_one])) ?_
    refine ZT.q rfl (Wn.no rfl) rfl rfl (fun wq hS => R.loadE (b := b_1) (off := (0 + i)) (i := i) (v := (vu8 ((Go.Sh.mix (gx p q) p i).getD i 0))) rfl Try.isAgg5 (hS _ (.tail _ (.tail _ (.head _)))) Sg.h rfl (get_u8 (lt_len (K := 128) (Go.Sh.mix_len (gx_len hp hq) hp) (by omega)))) ?_
    refine ZT.q rfl (Wn.no rfl) rfl rfl (fun wq hS => R.move (v := (vi ((i : Nat) : Int))) rfl) ?_
    refine ZT.q rfl (Wn.no rfl) rfl rfl (fun wq hS => R.indexA (b := b_4) (off := 0) (off' := (0 + i)) (i := i) rfl rfl rfl (by omega) Try.underlying42 Try.sizeOf5 (by rw [Nat.mul_one])) ?_
    refine ZT.q rfl (Wn.no rfl) rfl rfl (fun wq hS => R.loadE (b := b_4) (off := (0 + i)) (i := i) (v := (vu8 (q.getD i 0))) rfl Try.isAgg5 (hS _ (.tail _ (.head _))) Sg.h rfl (get_u8 (lt_len (K := 128) hq (by omega)))) ?_
    refine ZT.q rfl (Wn.no rfl) rfl rfl (fun wq hS => R.bin (v := (vu8 (((Go.Sh.mix (gx p q) p i).getD i 0) ^^^ (q.getD i 0)))) rfl rfl (b8_xor ((Go.Sh.mix (gx p q) p i).getD i 0) (q.getD i 0))) ?_
    refine ZT.q rfl (Wn.no rfl) rfl rfl (fun wq hS => R.indexA (b := b_1) (off := 0) (off' := (0 + i)) (i := i) rfl rfl rfl (by omega) Try.underlying42 Try.sizeOf5 (by rw [Nat.mul_one])) ?_
    refine ZT.s ?_
    refine OpZ.last rfl (Wn.no rfl) ?_
    refine WL.storeE (b := b_1) (off := (0 + i)) (i := i) (v := (vu8 (((Go.Sh.mix (gx p q) p i).getD i 0) ^^^ (q.getD i 0)))) (cs' := ((Go.Sh.mix (gx p q) p i).set i (((Go.Sh.mix (gx p q) p i).getD i 0) ^^^ (q.getD i 0))).map vu8) h_17 rfl rfl Try.sizeOf5 rfl (At.t (At.t At.h)) (by decide) Sg.h rfl (lt_len (K := 128) (len_map (Go.Sh.mix_len (gx_len hp hq) hp)) (by omega)) (set_u8 _ _ _) (fun w_19 h_20 => ?_)
    refine WL.nil ?_
    refine ZT.nil ?_
    refine inb_n ?_
    refine thn_n ?_
    refine WP.reg ?_
    refine WL.q (Wn.no rfl) rfl rfl (R.move (v := (vi ((i : Nat) : Int))) rfl) ?_
    refine WL.q (Wn.no rfl) rfl rfl (R.bin (v := (vi ((i + 1 : Nat) : Int))) rfl rfl (bi_add (c := ((i + 1 : Nat) : Int)) (by omega) (by omega))) ?_
    refine WL.q (Wn.no rfl) rfl rfl (R.assign (v := (vi ((i + 1 : Nat) : Int))) rfl) ?_
    refine WL.nil ?_
    refine thn_n ?_
    have h_21 := h_20.up (Pick.t (Pick.t Pick.h))
    have h_22 := h_21.up (Pick.t (Pick.t Pick.h))
    have h_23 := h_22.up (Pick.t (Pick.t Pick.h))
    rw [gx_step hp hq (by omega)] at h_23
    exact ⟨i + 1, _, (by omega), (Ag.upd rfl (Ag.upd rfl (Ag.upd rfl (Ag.upd rfl (Ag.upd rfl (Ag.upd rfl (Ag.upd rfl (Ag.upd rfl (Ag.upd rfl (Ag.upd rfl (Ag.upd rfl (Ag.upd rfl (Ag.upd rfl (Ag.upd rfl (Ag.updL rfl (Ag.mix _ _ _)))))))))))))))), ⟨rfl, trivial⟩, h_23, (by omega), rfl⟩
  · have p_24 := of_decide_eq_false c_14
    refine WP.exit ?_
    refine thn_x ?_
    refine thn_x ?_
    refine inb_hit ?_
    refine thn_n ?_
    refine WP.seq ?_
    refine WP.reg ?_
    refine WL.q (Wn.no rfl) rfl rfl (R.loadA (b := b_1) (off := 0) [] [(128, (Go.Sh.mix (gx p q) p i).map vu8)] [] (cs := (Go.Sh.mix (gx p q) p i).map vu8) rfl Try.isAgg42 Try.sizeOf42 (h_11.ok _ (.tail _ (.tail _ (.head _)))) rfl rfl rfl rfl) ?_
    refine WL.storeA (b := b_7) (off := 0) [] [(128, (List.replicate 128 (0 : UInt8)).map vu8)] [(128, (Go.Sh.mix (gx p q) p i).map vu8)] [] (ys := (Go.Sh.mix (gx p q) p i).map vu8) h_11 rfl rfl Try.sizeOf42 At.h (by decide) rfl rfl rfl rfl rfl rfl (SsOk.cons (SOk.u8 (Go.Sh.mix_len (gx_len hp hq) hp)) SsOk.nil) (fun w_25 h_26 => ?_)
    refine WL.nil ?_
    refine thn_n ?_
    refine WP.ret ?_
    refine ret_of Try.results30 (RV.cell rfl (h_26.loadA (cs := (Go.Sh.mix (gx p q) p i).map vu8) Try.isAgg42 Try.sizeOf42 (.head _) rfl rfl) RV.nil) ?_
    have hi2 : i = 128 := by omega
    subst hi2
    exact ⟨by rw [gx_all hp hq]; rfl, h_26.chgS⟩

theorem c_bword (x : UInt64) (w : World) :
    Cs Try.prog 85 [(vu64 x)].toArray w (fun v w1 => ∃ a cap, v = .slice a 8 cap ∧ Chg w w1 [] ∧ Own w.heap.size w1 5 1 a 8 cap ((leN 8 x.toNat).map vu8)) := by
  refine Cs.of (n := 11) (args := [(vu64 x)]) Try.func85 rfl rfl rfl ?_
  have h_0 := HP.init w
  refine WP.seq ?_
  refine WP.reg ?_
  refine WL.q (Wn.no rfl) rfl rfl (R.assign (v := (.slice none 0 0)) rfl) ?_
  refine WL.nil ?_
  refine thn_n ?_
  refine WP.seq ?_
  refine WP.reg ?_
  refine WL.q (Wn.no rfl) rfl rfl (R.move (v := (vu64 x)) rfl) ?_
  refine WL.call (al := [(vu64 x), (vi 8)]) Try.call48 rfl rfl (c_Put_b x 8 rfl _) rfl ?_
  rintro _ w_3 ⟨a_1, cap_2, rfl, hc_4, ho_5⟩
  have h_6 := h_0.gotRow hc_4 ho_5
  refine WL.q (Wn.no rfl) rfl rfl (R.move (v := (.tuple [(.slice a_1 8 cap_2), (vi 0)].toArray)) rfl) ?_
  refine WL.q (Wn.no rfl) rfl rfl (R.extract (l := [(.slice a_1 8 cap_2), (vi 0)]) (v := (.slice a_1 8 cap_2)) rfl rfl) ?_
  refine WL.q (Wn.no rfl) rfl rfl (R.extract (l := [(.slice a_1 8 cap_2), (vi 0)]) (v := (vi 0)) rfl rfl) ?_
  refine WL.q (Wn.no rfl) rfl rfl (R.assign (v := (.slice a_1 8 cap_2)) rfl) ?_
  refine WL.q (Wn.no rfl) rfl rfl (R.assign (v := (vi 0)) rfl) ?_
  refine WL.nil ?_
  refine thn_n ?_
  refine WP.seq ?_
  refine WP.reg ?_
  refine WL.q (Wn.no rfl) rfl rfl (R.move (v := (.slice a_1 8 cap_2)) rfl) ?_
  refine WL.q (Wn.no rfl) rfl rfl (R.assign (v := (.slice a_1 8 cap_2)) rfl) ?_
  refine WL.nil ?_
  refine thn_n ?_
  refine WP.ret ?_
  refine ret_of Try.results85 (RV.tmp (v := (.slice a_1 8 cap_2)) rfl RV.nil) ?_
  exact ⟨_, _, rfl, h_6.chgS, h_6.ok _ (.head _)⟩

theorem c_bask_nil (pg : Int) (ct : UInt64) (w : World) :
    Cs Try.prog 84 [(.pointer none), (vi pg), (vu64 ct)].toArray w (fun v w1 => v = (vi 1) ∧ Chg w w1 []) := by
  refine Cs.of (n := 29) (args := [(.pointer none), (vi pg), (vu64 ct)]) Try.func84 rfl rfl rfl ?_
  have h_0 := HP.init w
  refine WP.seq ?_
  refine WP.reg ?_
  refine WL.q (Wn.no rfl) rfl rfl (R.assign (v := (vi 0)) rfl) ?_
  refine WL.nil ?_
  refine thn_n ?_
  refine WP.seq ?_
  refine WP.seq ?_
  refine WP.reg ?_
  refine WL.q (Wn.no rfl) rfl rfl (R.move (v := (.pointer none)) rfl) ?_
  refine WL.q (Wn.no rfl) rfl rfl (R.buildS (pl := [(0, 1), (1, 32), (33, 1), (34, 1)]) (zs := [(1, [(vi 0)]), (32, (List.replicate 32 (0 : UInt8)).map vu8), (1, [(vi 0)]), (1, [(.slice none 0 0)])]) (vs := []) (out := [(1, [(vi 0)]), (32, (List.replicate 32 (0 : UInt8)).map vu8), (1, [(vi 0)]), (1, [(.slice none 0 0)])]) (cs := flat [(1, [(vi 0)]), (32, (List.replicate 32 (0 : UInt8)).map vu8), (1, [(vi 0)]), (1, [(.slice none 0 0)])]) Try.underlying64 (zv Try.typeInfo64 rfl) rfl (SsOk.cons (SOk.v rfl) (SsOk.cons (SOk.u8 (List.length_replicate ..)) (SsOk.cons (SOk.v rfl) (SsOk.cons (SOk.v rfl) SsOk.nil)))) (pl64 _ Try.underlying64) rfl FillR.nil rfl) ?_
  refine WL.call (al := [(.pointer none), (.agg ⟨flat [(1, [(vi 0)]), (32, (List.replicate 32 (0 : UInt8)).map vu8), (1, [(vi 0)]), (1, [(.slice none 0 0)])]⟩)]) Try.call25 rfl rfl (c_oAsk_nil 0 0 (List.replicate 32 (0 : UInt8)) none 0 0 (List.length_replicate ..) _ ) rfl ?_
  rintro _ w_3 ⟨rfl, hc_2⟩
  have h_4 := h_0.same hc_2
  refine WL.q (Wn.no rfl) rfl rfl (R.move (v := (.tuple [(.agg ⟨(List.replicate 32 (0 : UInt8)).map vu8⟩), (vi 1)].toArray)) rfl) ?_
  refine WL.q (Wn.no rfl) rfl rfl (R.extract (l := [(.agg ⟨(List.replicate 32 (0 : UInt8)).map vu8⟩), (vi 1)]) (v := (.agg ⟨(List.replicate 32 (0 : UInt8)).map vu8⟩)) rfl rfl) ?_
  refine WL.q (Wn.no rfl) rfl rfl (R.extract (l := [(.agg ⟨(List.replicate 32 (0 : UInt8)).map vu8⟩), (vi 1)]) (v := (vi 1)) rfl rfl) ?_
  refine WL.alloc (segs := [(32, (List.replicate 32 (0 : UInt8)).map vu8)]) h_4 (zv Try.typeInfo29 rfl) rfl (SsOk.cons (SOk.u8 (List.length_replicate ..)) SsOk.nil) rfl (fun b_5 w_6 h_7 => ?_)
  refine WL.storeA (b := b_5) (off := 0) [] [(32, (List.replicate 32 (0 : UInt8)).map vu8)] [(32, (List.replicate 32 (0 : UInt8)).map vu8)] [] (ys := (List.replicate 32 (0 : UInt8)).map vu8) h_7 rfl rfl Try.sizeOf29 At.h (by decide) rfl rfl rfl rfl rfl rfl (SsOk.cons (SOk.u8 (List.length_replicate ..)) SsOk.nil) (fun w_8 h_9 => ?_)
  refine WL.q (Wn.no rfl) rfl rfl (R.assign (v := (vi 1)) rfl) ?_
  refine WL.nil ?_
  refine thn_n ?_
  refine WP.block ?_
  refine WP.seq ?_
  refine WP.reg ?_
  refine WL.q (Wn.no rfl) rfl rfl (R.move (v := (vi 1)) rfl) ?_
  refine WL.q (Wn.no rfl) rfl rfl (R.bin (v := (.bool true)) rfl rfl (bi_eql (r := true) (by decide))) ?_
  refine WL.q (Wn.no rfl) rfl rfl (R.assign (v := (.bool true)) rfl) ?_
  refine WL.nil ?_
  refine thn_n ?_
  refine WP.condT rfl ?_
  refine WP.seq ?_
  refine WP.reg ?_
  refine WL.q (Wn.no rfl) rfl rfl (R.assign (v := (vi 1)) rfl) ?_
  refine WL.nil ?_
  refine thn_n ?_
  refine WP.ret ?_
  refine inb_r ?_
  refine thn_r ?_
  refine ret_of Try.results84 (RV.tmp (v := (vi 1)) rfl RV.nil) ?_
  exact ⟨rfl, h_9.chgS⟩

theorem c_bask_big (ob mp : Nat) (ms : List UInt8) (hms : ms.length = 32) (da : Option Addr) (dn dc u : Nat) (la : Option Addr) (ln lc : Nat) (pg : Int) (ct : UInt64) (h : 128 ≤ pg) (w : World) (hcb : (Ent.blk ob .ro 47 [(1, [(.bool true)]), (32, ms.map vu8), (1, [(.slice da dn dc)]), (1, [(vi ((u : Nat) : Int))]), (1, [(.map (some mp))]), (1, [(.slice la ln lc)])]).ok w.heap.size w) :
    Cs Try.prog 84 [(.pointer (some ⟨ob, 0, none⟩)), (vi pg), (vu64 ct)].toArray w (fun v w1 => v = (vi 2) ∧ Chg w w1 []) := by
  refine Cs.of (n := 29) (args := [(.pointer (some ⟨ob, 0, none⟩)), (vi pg), (vu64 ct)]) Try.func84 rfl rfl rfl ?_
  have h_0 := HP.init w
  have h_00 := h_0.old hcb (fun f hf => by cases hf)
  refine WP.seq ?_
  refine WP.reg ?_
  refine WL.q (Wn.no rfl) rfl rfl (R.assign (v := (vi 0)) rfl) ?_
  refine WL.nil ?_
  refine thn_n ?_
  refine WP.seq ?_
  refine WP.seq ?_
  refine WP.reg ?_
  refine WL.q (Wn.no rfl) rfl rfl (R.move (v := (.pointer (some ⟨ob, 0, none⟩))) rfl) ?_
  refine WL.q (Wn.no rfl) rfl rfl (R.buildS (pl := [(0, 1), (1, 32), (33, 1), (34, 1)]) (zs := [(1, [(vi 0)]), (32, (List.replicate 32 (0 : UInt8)).map vu8), (1, [(vi 0)]), (1, [(.slice none 0 0)])]) (vs := []) (out := [(1, [(vi 0)]), (32, (List.replicate 32 (0 : UInt8)).map vu8), (1, [(vi 0)]), (1, [(.slice none 0 0)])]) (cs := flat [(1, [(vi 0)]), (32, (List.replicate 32 (0 : UInt8)).map vu8), (1, [(vi 0)]), (1, [(.slice none 0 0)])]) Try.underlying64 (zv Try.typeInfo64 rfl) rfl (SsOk.cons (SOk.v rfl) (SsOk.cons (SOk.u8 (List.length_replicate ..)) (SsOk.cons (SOk.v rfl) (SsOk.cons (SOk.v rfl) SsOk.nil)))) (pl64 _ Try.underlying64) rfl FillR.nil rfl) ?_
  refine WL.call (al := [(.pointer (some ⟨ob, 0, none⟩)), (.agg ⟨flat [(1, [(vi 0)]), (32, (List.replicate 32 (0 : UInt8)).map vu8), (1, [(vi 0)]), (1, [(.slice none 0 0)])]⟩)]) Try.call25 rfl rfl (c_oAsk_0 ob mp ms hms da dn dc u la ln lc 0 (List.replicate 32 (0 : UInt8)) none 0 0 (List.length_replicate ..) _ (h_00.argR (.head _))) rfl ?_
  rintro _ w_3 ⟨rfl, hc_2⟩
  have h_4 := h_00.same hc_2
  refine WL.q (Wn.no rfl) rfl rfl (R.move (v := (.tuple [(.agg ⟨(List.replicate 32 (0 : UInt8)).map vu8⟩), (vi 2)].toArray)) rfl) ?_
  refine WL.q (Wn.no rfl) rfl rfl (R.extract (l := [(.agg ⟨(List.replicate 32 (0 : UInt8)).map vu8⟩), (vi 2)]) (v := (.agg ⟨(List.replicate 32 (0 : UInt8)).map vu8⟩)) rfl rfl) ?_
  refine WL.q (Wn.no rfl) rfl rfl (R.extract (l := [(.agg ⟨(List.replicate 32 (0 : UInt8)).map vu8⟩), (vi 2)]) (v := (vi 2)) rfl rfl) ?_
  refine WL.alloc (segs := [(32, (List.replicate 32 (0 : UInt8)).map vu8)]) h_4 (zv Try.typeInfo29 rfl) rfl (SsOk.cons (SOk.u8 (List.length_replicate ..)) SsOk.nil) rfl (fun b_5 w_6 h_7 => ?_)
  refine WL.storeA (b := b_5) (off := 0) [] [(32, (List.replicate 32 (0 : UInt8)).map vu8)] [(32, (List.replicate 32 (0 : UInt8)).map vu8)] [] (ys := (List.replicate 32 (0 : UInt8)).map vu8) h_7 rfl rfl Try.sizeOf29 At.h (by decide) rfl rfl rfl rfl rfl rfl (SsOk.cons (SOk.u8 (List.length_replicate ..)) SsOk.nil) (fun w_8 h_9 => ?_)
  refine WL.q (Wn.no rfl) rfl rfl (R.assign (v := (vi 2)) rfl) ?_
  refine WL.nil ?_
  refine thn_n ?_
  refine WP.block ?_
  refine WP.seq ?_
  refine WP.reg ?_
  refine WL.q (Wn.no rfl) rfl rfl (R.move (v := (vi 2)) rfl) ?_
  refine WL.q (Wn.no rfl) rfl rfl (R.bin (v := (.bool false)) rfl rfl (bi_eql (r := false) (by decide))) ?_
  refine WL.q (Wn.no rfl) rfl rfl (R.assign (v := (.bool false)) rfl) ?_
  refine WL.nil ?_
  refine thn_n ?_
  refine WP.condF rfl ?_
  refine WP.seq ?_
  refine WP.reg ?_
  refine WL.q (Wn.no rfl) rfl rfl (R.move (v := (vi pg)) rfl) ?_
  refine WL.q (Wn.no rfl) rfl rfl (R.bin (v := (.bool (decide ((pg : Int) < 0)))) rfl rfl (bi_lss (r := decide ((pg : Int) < 0)) rfl)) ?_
  refine WL.q (Wn.no rfl) rfl rfl (R.move (v := (.bool (decide ((pg : Int) < 0)))) rfl) ?_
  refine WL.want rfl (congrArg Value.bool (decide_eq_false (by omega))) ?_
  refine WL.q (Wn.no rfl) rfl rfl (R.move (v := (vi pg)) rfl) ?_
  refine WL.want rfl (congrArg Value.bool (decide_eq_false (by omega))) ?_
  refine WL.q (Wn.no rfl) rfl rfl (R.bin (v := (.bool (decide ((pg : Int) ≥ 128)))) rfl rfl (bi_geq (r := decide ((pg : Int) ≥ 128)) rfl)) ?_
  refine WL.q (Wn.no rfl) rfl rfl (R.pickF (v := (.bool (decide ((pg : Int) ≥ 128)))) (congrArg Value.bool (decide_eq_false (by omega))) rfl) ?_
  refine WL.q (Wn.no rfl) rfl rfl (R.move (v := (.bool (decide ((pg : Int) ≥ 128)))) rfl) ?_
  refine WL.skip rfl (congrArg Value.bool (decide_eq_true (by omega))) rfl ?_
  refine WL.skip rfl (congrArg Value.bool (decide_eq_true (by omega))) rfl ?_
  refine WL.q (Wn.no rfl) rfl rfl (R.pickT (v := (.bool true)) (congrArg Value.bool (decide_eq_true (by omega))) rfl) ?_
  refine WL.q (Wn.no rfl) rfl rfl (R.assign (v := (.bool true)) rfl) ?_
  refine WL.nil ?_
  refine thn_n ?_
  refine WP.condT rfl ?_
  refine WP.seq ?_
  refine WP.reg ?_
  refine WL.q (Wn.no rfl) rfl rfl (R.assign (v := (vi 2)) rfl) ?_
  refine WL.nil ?_
  refine thn_n ?_
  refine WP.ret ?_
  refine inb_r ?_
  refine thn_r ?_
  refine ret_of Try.results84 (RV.tmp (v := (vi 2)) rfl RV.nil) ?_
  exact ⟨rfl, h_9.chgS⟩

theorem c_bask_ok (ob mp : Nat) (ms : List UInt8) (hms : ms.length = 32) (da : Option Addr) (dn dc u : Nat) (la : Option Addr) (ln lc : Nat) (pg : Nat) (ct : UInt64) (h : pg < 128) (hct : ¬ ct > 4294967296) (w : World) (hcb : (Ent.blk ob .ro 47 [(1, [(.bool true)]), (32, ms.map vu8), (1, [(.slice da dn dc)]), (1, [(vi ((u : Nat) : Int))]), (1, [(.map (some mp))]), (1, [(.slice la ln lc)])]).ok w.heap.size w) :
    Cs Try.prog 84 [(.pointer (some ⟨ob, 0, none⟩)), (vi ((pg : Nat) : Int)), (vu64 ct)].toArray w (fun v w1 => v = (vi 0) ∧ Chg w w1 []) := by
  refine Cs.of (n := 29) (args := [(.pointer (some ⟨ob, 0, none⟩)), (vi ((pg : Nat) : Int)), (vu64 ct)]) Try.func84 rfl rfl rfl ?_
  have h_0 := HP.init w
  have h_00 := h_0.old hcb (fun f hf => by cases hf)
  refine WP.seq ?_
  refine WP.reg ?_
  refine WL.q (Wn.no rfl) rfl rfl (R.assign (v := (vi 0)) rfl) ?_
  refine WL.nil ?_
  refine thn_n ?_
  refine WP.seq ?_
  refine WP.seq ?_
  refine WP.reg ?_
  refine WL.q (Wn.no rfl) rfl rfl (R.move (v := (.pointer (some ⟨ob, 0, none⟩))) rfl) ?_
  refine WL.q (Wn.no rfl) rfl rfl (R.buildS (pl := [(0, 1), (1, 32), (33, 1), (34, 1)]) (zs := [(1, [(vi 0)]), (32, (List.replicate 32 (0 : UInt8)).map vu8), (1, [(vi 0)]), (1, [(.slice none 0 0)])]) (vs := []) (out := [(1, [(vi 0)]), (32, (List.replicate 32 (0 : UInt8)).map vu8), (1, [(vi 0)]), (1, [(.slice none 0 0)])]) (cs := flat [(1, [(vi 0)]), (32, (List.replicate 32 (0 : UInt8)).map vu8), (1, [(vi 0)]), (1, [(.slice none 0 0)])]) Try.underlying64 (zv Try.typeInfo64 rfl) rfl (SsOk.cons (SOk.v rfl) (SsOk.cons (SOk.u8 (List.length_replicate ..)) (SsOk.cons (SOk.v rfl) (SsOk.cons (SOk.v rfl) SsOk.nil)))) (pl64 _ Try.underlying64) rfl FillR.nil rfl) ?_
  refine WL.call (al := [(.pointer (some ⟨ob, 0, none⟩)), (.agg ⟨flat [(1, [(vi 0)]), (32, (List.replicate 32 (0 : UInt8)).map vu8), (1, [(vi 0)]), (1, [(.slice none 0 0)])]⟩)]) Try.call25 rfl rfl (c_oAsk_0 ob mp ms hms da dn dc u la ln lc 0 (List.replicate 32 (0 : UInt8)) none 0 0 (List.length_replicate ..) _ (h_00.argR (.head _))) rfl ?_
  rintro _ w_3 ⟨rfl, hc_2⟩
  have h_4 := h_00.same hc_2
  refine WL.q (Wn.no rfl) rfl rfl (R.move (v := (.tuple [(.agg ⟨(List.replicate 32 (0 : UInt8)).map vu8⟩), (vi 2)].toArray)) rfl) ?_
  refine WL.q (Wn.no rfl) rfl rfl (R.extract (l := [(.agg ⟨(List.replicate 32 (0 : UInt8)).map vu8⟩), (vi 2)]) (v := (.agg ⟨(List.replicate 32 (0 : UInt8)).map vu8⟩)) rfl rfl) ?_
  refine WL.q (Wn.no rfl) rfl rfl (R.extract (l := [(.agg ⟨(List.replicate 32 (0 : UInt8)).map vu8⟩), (vi 2)]) (v := (vi 2)) rfl rfl) ?_
  refine WL.alloc (segs := [(32, (List.replicate 32 (0 : UInt8)).map vu8)]) h_4 (zv Try.typeInfo29 rfl) rfl (SsOk.cons (SOk.u8 (List.length_replicate ..)) SsOk.nil) rfl (fun b_5 w_6 h_7 => ?_)
  refine WL.storeA (b := b_5) (off := 0) [] [(32, (List.replicate 32 (0 : UInt8)).map vu8)] [(32, (List.replicate 32 (0 : UInt8)).map vu8)] [] (ys := (List.replicate 32 (0 : UInt8)).map vu8) h_7 rfl rfl Try.sizeOf29 At.h (by decide) rfl rfl rfl rfl rfl rfl (SsOk.cons (SOk.u8 (List.length_replicate ..)) SsOk.nil) (fun w_8 h_9 => ?_)
  refine WL.q (Wn.no rfl) rfl rfl (R.assign (v := (vi 2)) rfl) ?_
  refine WL.nil ?_
  refine thn_n ?_
  refine WP.block ?_
  refine WP.seq ?_
  refine WP.reg ?_
  refine WL.q (Wn.no rfl) rfl rfl (R.move (v := (vi 2)) rfl) ?_
  refine WL.q (Wn.no rfl) rfl rfl (R.bin (v := (.bool false)) rfl rfl (bi_eql (r := false) (by decide))) ?_
  refine WL.q (Wn.no rfl) rfl rfl (R.assign (v := (.bool false)) rfl) ?_
  refine WL.nil ?_
  refine thn_n ?_
  refine WP.condF rfl ?_
  refine WP.seq ?_
  refine WP.reg ?_
  refine WL.q (Wn.no rfl) rfl rfl (R.move (v := (vi ((pg : Nat) : Int))) rfl) ?_
  refine WL.q (Wn.no rfl) rfl rfl (R.bin (v := (.bool (decide ((((pg : Nat) : Int) : Int) < 0)))) rfl rfl (bi_lss (r := decide ((((pg : Nat) : Int) : Int) < 0)) rfl)) ?_
  refine WL.q (Wn.no rfl) rfl rfl (R.move (v := (.bool (decide ((((pg : Nat) : Int) : Int) < 0)))) rfl) ?_
  refine WL.want rfl (congrArg Value.bool (decide_eq_false (by omega))) ?_
  refine WL.q (Wn.no rfl) rfl rfl (R.move (v := (vi ((pg : Nat) : Int))) rfl) ?_
  refine WL.want rfl (congrArg Value.bool (decide_eq_false (by omega))) ?_
  refine WL.q (Wn.no rfl) rfl rfl (R.bin (v := (.bool (decide ((((pg : Nat) : Int) : Int) ≥ 128)))) rfl rfl (bi_geq (r := decide ((((pg : Nat) : Int) : Int) ≥ 128)) rfl)) ?_
  refine WL.q (Wn.no rfl) rfl rfl (R.pickF (v := (.bool (decide ((((pg : Nat) : Int) : Int) ≥ 128)))) (congrArg Value.bool (decide_eq_false (by omega))) rfl) ?_
  refine WL.q (Wn.no rfl) rfl rfl (R.move (v := (.bool (decide ((((pg : Nat) : Int) : Int) ≥ 128)))) rfl) ?_
  refine WL.want rfl (congrArg Value.bool (decide_eq_false (by omega))) ?_
  refine WL.q (Wn.no rfl) rfl rfl (R.move (v := (vu64 ct)) rfl) ?_
  refine WL.want rfl (congrArg Value.bool (decide_eq_false (by omega))) ?_
  refine WL.q (Wn.no rfl) rfl rfl (R.bin (v := (.bool (decide ((ct : UInt64) > 4294967296)))) rfl rfl (b64_gtr ct 4294967296 (r := decide ((ct : UInt64) > 4294967296)) rfl)) ?_
  refine WL.q (Wn.no rfl) rfl rfl (R.pickF (v := (.bool (decide ((ct : UInt64) > 4294967296)))) (congrArg Value.bool (decide_eq_false (by omega))) rfl) ?_
  refine WL.q (Wn.no rfl) rfl rfl (R.assign (v := (.bool (decide ((ct : UInt64) > 4294967296)))) rfl) ?_
  refine WL.nil ?_
  refine thn_n ?_
  refine WP.condF (congrArg Value.bool (decide_eq_false hct)) ?_
  refine WP.skip ?_
  refine inb_n ?_
  refine thn_n ?_
  refine WP.seq ?_
  refine WP.reg ?_
  refine WL.q (Wn.no rfl) rfl rfl (R.assign (v := (vi 0)) rfl) ?_
  refine WL.nil ?_
  refine thn_n ?_
  refine WP.ret ?_
  refine ret_of Try.results84 (RV.tmp (v := (vi 0)) rfl RV.nil) ?_
  exact ⟨rfl, h_9.chgS⟩

theorem c_Seal1 {w00 : World} {L : List Ent} (ob mp : Nat) (ms df : List UInt8) (hms : ms.length = 32) (da : Option Addr) (dn dc u : Nat) (hdf : df.length = 32 * dn) (la : Option Addr) (lc : Nat) (lx : List Value) (lg : Lg) (hu : u ≤ 500000) (hlg : lg.length ≤ 500000) (data : List UInt8) (qa : Option Addr) (qn qc : Nat) (hdl : data.length = qn) (hqn : qn ≤ 100000) (key pl : List UInt8) (hk : key.length = 32) (hpl : pl.length = 128) (b1 b2 b3 : Nat) (w : World) (h_0 : HP w00 w (Ent.blk ob .nw 47 [(1, [(.bool true)]), (32, ms.map vu8), (1, [(.slice da dn dc)]), (1, [(vi ((u : Nat) : Int))]), (1, [(.map (some mp))]), (1, [(.slice la lg.length lc)])] :: Ent.row la lg.length lc 71 67 lx :: Ent.obj mp .nw (.map (mArr lg) lg.length) :: Ent.pin (sblks lx) (fun w => Lgs w lx lg) :: Ent.view da (df.map vu8) :: Ent.view qa (data.map vu8) :: Ent.blk b1 .nw 26 [(1, [(.pointer (some ⟨ob, 0, none⟩))])] :: Ent.blk b2 .nw 29 [(32, key.map vu8)] :: Ent.blk b3 .nw 42 [(128, pl.map vu8)] :: L)) :
    Cs Try.prog 66 [(.slice qa qn qc), (.pointer (some ⟨b1, 0, none⟩)), (.pointer (some ⟨b2, 0, none⟩)), (.pointer (some ⟨b3, 0, none⟩))].toArray w (fun v w1 => ∃ la' lc' lx', v = (.tuple [(.agg ⟨(gx pl (((sS df dn key 10 data u lg ((128 + 31) / 32)).2.2).take 128)).map vu8⟩), (vi 0)].toArray) ∧ HP w00 w1 (Ent.blk ob .nw 47 [(1, [(.bool true)]), (32, ms.map vu8), (1, [(.slice da dn dc)]), (1, [(vi (((sS df dn key 10 data u lg ((128 + 31) / 32)).1 : Nat) : Int))]), (1, [(.map (some mp))]), (1, [(.slice la' ((sS df dn key 10 data u lg ((128 + 31) / 32)).2.1.length) lc')])] :: Ent.row la' ((sS df dn key 10 data u lg ((128 + 31) / 32)).2.1.length) lc' 71 67 lx' :: Ent.obj mp .nw (.map (mArr ((sS df dn key 10 data u lg ((128 + 31) / 32)).2.1)) ((sS df dn key 10 data u lg ((128 + 31) / 32)).2.1.length)) :: Ent.pin (sblks lx') (fun w => Lgs w lx' ((sS df dn key 10 data u lg ((128 + 31) / 32)).2.1)) :: Ent.view da (df.map vu8) :: Ent.view qa (data.map vu8) :: Ent.blk b1 .nw 26 [(1, [(.pointer (some ⟨ob, 0, none⟩))])] :: Ent.blk b2 .nw 29 [(32, key.map vu8)] :: Ent.blk b3 .nw 42 [(128, pl.map vu8)] :: L)) := by
  refine Cs.of (n := 26) (args := [(.slice qa qn qc), (.pointer (some ⟨b1, 0, none⟩)), (.pointer (some ⟨b2, 0, none⟩)), (.pointer (some ⟨b3, 0, none⟩))]) Try.func66 rfl rfl rfl ?_
  refine WP.seq ?_
  refine WP.reg ?_
  refine WL.alloc (segs := [(128, (List.replicate 128 (0 : UInt8)).map vu8)]) h_0 (zv Try.typeInfo42 rfl) rfl (SsOk.cons (SOk.u8 (List.length_replicate ..)) SsOk.nil) rfl (fun b_1 w_2 h_3 => ?_)
  refine WL.q (Wn.no rfl) rfl rfl (R.assign (v := (vi 0)) rfl) ?_
  refine WL.nil ?_
  refine thn_n ?_
  refine WP.seq ?_
  refine WP.reg ?_
  refine WL.q (Wn.no rfl) rfl rfl (R.load1 (b := b1) (off := 0) (v := (.pointer (some ⟨ob, 0, none⟩))) rfl Try.isAgg26 (h_3.ok _ (.tail _ (.tail _ (.tail _ (.tail _ (.tail _ (.tail _ (.tail _ (.head _))))))))) Sg.h) ?_
  refine WL.q (Wn.no rfl) rfl rfl (R.loadA (b := b2) (off := 0) [] [(32, key.map vu8)] [] (cs := key.map vu8) rfl Try.isAgg29 Try.sizeOf29 (h_3.ok _ (.tail _ (.tail _ (.tail _ (.tail _ (.tail _ (.tail _ (.tail _ (.tail _ (.head _)))))))))) rfl rfl rfl rfl) ?_
  refine WL.q (Wn.no rfl) rfl rfl (R.move (v := (.slice qa qn qc)) rfl) ?_
  refine WL.q (Wn.no rfl) rfl rfl (R.buildS (pl := [(0, 1), (1, 32), (33, 1), (34, 1)]) (zs := [(1, [(vi 0)]), (32, (List.replicate 32 (0 : UInt8)).map vu8), (1, [(vi 0)]), (1, [(.slice none 0 0)])]) (vs := [(0, (vi 4)), (1, (.agg ⟨key.map vu8⟩)), (2, (vi 10)), (3, (.slice qa qn qc))]) (out := [(1, [(vi 4)]), (32, key.map vu8), (1, [(vi 10)]), (1, [(.slice qa qn qc)])]) (cs := flat [(1, [(vi 4)]), (32, key.map vu8), (1, [(vi 10)]), (1, [(.slice qa qn qc)])]) Try.underlying64 (zv Try.typeInfo64 rfl) rfl (SsOk.cons (SOk.v rfl) (SsOk.cons (SOk.u8 (List.length_replicate ..)) (SsOk.cons (SOk.v rfl) (SsOk.cons (SOk.v rfl) SsOk.nil)))) (pl64 _ Try.underlying64) rfl (FillR.cons [] [(1, [(vi 0)])] [(1, [(vi 4)])] [(32, (List.replicate 32 (0 : UInt8)).map vu8), (1, [(vi 0)]), (1, [(.slice none 0 0)])] rfl rfl rfl rfl (SsOk.cons (SOk.v rfl) SsOk.nil) rfl rfl rfl (FillR.cons [(1, [(vi 4)])] [(32, (List.replicate 32 (0 : UInt8)).map vu8)] [(32, key.map vu8)] [(1, [(vi 0)]), (1, [(.slice none 0 0)])] rfl rfl rfl rfl (SsOk.cons (SOk.u8 hk) SsOk.nil) rfl rfl rfl (FillR.cons [(1, [(vi 4)]), (32, key.map vu8)] [(1, [(vi 0)])] [(1, [(vi 10)])] [(1, [(.slice none 0 0)])] rfl rfl rfl rfl (SsOk.cons (SOk.v rfl) SsOk.nil) rfl rfl rfl (FillR.cons [(1, [(vi 4)]), (32, key.map vu8), (1, [(vi 10)])] [(1, [(.slice none 0 0)])] [(1, [(.slice qa qn qc)])] [] rfl rfl rfl rfl (SsOk.cons (SOk.v rfl) SsOk.nil) rfl rfl rfl FillR.nil)))) rfl) ?_
  have h_5 := h_3.up (Pick.t (Pick.t (Pick.t (Pick.t (Pick.t (Pick.t Pick.h))))))
  have h_6 := h_5.up (Pick.t (Pick.t (Pick.t (Pick.t (Pick.t (Pick.t Pick.h))))))
  have h_7 := h_6.up (Pick.t (Pick.t (Pick.t (Pick.t (Pick.t (Pick.t Pick.h))))))
  have h_8 := h_7.up (Pick.t (Pick.t (Pick.t (Pick.t (Pick.t (Pick.t Pick.h))))))
  have h_9 := h_8.up (Pick.t (Pick.t (Pick.t (Pick.t (Pick.t (Pick.t Pick.h))))))
  have h_10 := h_9.up (Pick.t (Pick.t (Pick.t (Pick.t (Pick.t (Pick.t Pick.h))))))
  have h32_w_15 := Lgs.ok32 (h_10.ok _ (.tail _ (.tail _ (.tail _ (.head _))))).1
  refine WL.call (al := [(.pointer (some ⟨ob, 0, none⟩)), (.agg ⟨flat [(1, [(vi 4)]), (32, key.map vu8), (1, [(vi 10)]), (1, [(.slice qa qn qc)])]⟩), (vi 128)]) Try.call40 rfl rfl (c_oStream ob mp ms df hms da dn dc u hdf la lc lx lg (by omega) (by omega) 10 key data qa qn qc hk (by omega) hdl (by omega) 128 (by decide) _ h_10) rfl ?_
  rintro _ w_15 ⟨a_11, la_12, lc_13, lx_14, rfl, h_16⟩
  refine WL.q (Wn.no rfl) rfl rfl (R.move (v := (.tuple [(.slice a_11 128 128), (vi 0)].toArray)) rfl) ?_
  refine WL.q (Wn.no rfl) rfl rfl (R.extract (l := [(.slice a_11 128 128), (vi 0)]) (v := (.slice a_11 128 128)) rfl rfl) ?_
  refine WL.q (Wn.no rfl) rfl rfl (R.extract (l := [(.slice a_11 128 128), (vi 0)]) (v := (vi 0)) rfl rfl) ?_
  refine WL.q (Wn.no rfl) rfl rfl (R.assign (v := (.slice a_11 128 128)) rfl) ?_
  refine WL.q (Wn.no rfl) rfl rfl (R.assign (v := (vi 0)) rfl) ?_
  refine WL.nil ?_
  refine thn_n ?_
  refine WP.seq ?_
  refine WP.seq ?_
  refine WP.reg ?_
  refine WL.q (Wn.no rfl) rfl rfl (R.move (v := (vi 0)) rfl) ?_
  refine WL.q (Wn.no rfl) rfl rfl (R.bin (v := (.bool false)) rfl rfl (bi_neq (r := false) (by decide))) ?_
  refine WL.nil ?_
  refine thn_n ?_
  refine WP.condF rfl ?_
  refine WP.skip ?_
  refine thn_n ?_
  refine WP.seq ?_
  refine WP.cutG (G := Nat) [6, 21, 22, 23, 24, 25] (fun bY4Y2Y0Y0 => [(6, (vi 0)), (22, (.slice (some ⟨bY4Y2Y0Y0, 0, none⟩) 128 128)), (23, (.pointer (some (gA (some ⟨bY4Y2Y0Y0, 0, none⟩) 0)))), (21, (.agg ⟨pl.map vu8⟩)), (24, (.agg ⟨(((sS df dn key 10 data u lg ((128 + 31) / 32)).2.2).take 128).map vu8⟩)), (25, (.agg ⟨(gx pl (((sS df dn key 10 data u lg ((128 + 31) / 32)).2.2).take 128)).map vu8⟩))]) (fun bY4Y2Y0Y0 w1 => HP w00 w1 (Ent.row (some ⟨bY4Y2Y0Y0, 0, none⟩) 128 128 5 1 ((((sS df dn key 10 data u lg ((128 + 31) / 32)).2.2).take 128).map vu8) :: Ent.blk ob .nw 47 [(1, [(.bool true)]), (32, ms.map vu8), (1, [(.slice da dn dc)]), (1, [(vi (((sS df dn key 10 data u lg ((128 + 31) / 32)).1 : Nat) : Int))]), (1, [(.map (some mp))]), (1, [(.slice la_12 ((sS df dn key 10 data u lg ((128 + 31) / 32)).2.1.length) lc_13)])] :: Ent.row la_12 ((sS df dn key 10 data u lg ((128 + 31) / 32)).2.1.length) lc_13 71 67 lx_14 :: Ent.obj mp .nw (.map (mArr ((sS df dn key 10 data u lg ((128 + 31) / 32)).2.1)) ((sS df dn key 10 data u lg ((128 + 31) / 32)).2.1.length)) :: Ent.pin (sblks lx_14) (fun w => Lgs w lx_14 ((sS df dn key 10 data u lg ((128 + 31) / 32)).2.1)) :: Ent.view da (df.map vu8) :: Ent.view qa (data.map vu8) :: Ent.blk b_1 .nw 42 [(128, (gx pl (((sS df dn key 10 data u lg ((128 + 31) / 32)).2.2).take 128)).map vu8)] :: Ent.blk b1 .nw 26 [(1, [(.pointer (some ⟨ob, 0, none⟩))])] :: Ent.blk b2 .nw 29 [(32, key.map vu8)] :: Ent.blk b3 .nw 42 [(128, pl.map vu8)] :: L)) ?_ ?_
  · refine WP.drawT (SL w00.heap.size []) (.q 1 (.q 2 (.s2 0 3 (.s 3 (.s 4 (.s 5 (.q 6 .nil)))) (.s 0 (.s 4 (.s 5 (.q 6 .nil))))))) (by kernel_rfl) (by kernel_rfl) rfl (by kernel_rfl) (fun w_17 hc_19 => (SL.nil _ _)) (fun w_17 hc_19 => ?_)
    have h_18 := h_16.same hc_19
    refine WT.q rfl (Wn.no rfl) rfl rfl (fun wq hS => R.move (v := (.slice a_11 128 128)) rfl) ?_
    obtain ⟨b_20, rr_21, ha_22, hb_23, hc_24⟩ := Own.open (h_18.own (.head _)) (by decide)
    subst ha_22
    refine WT.q rfl (Wn.no rfl) rfl rfl (fun wq hS => R.s2ap (a := (some ⟨b_20, 0, none⟩)) (k := 128) rfl Try.underlying42 (by decide)) ?_
    refine WT.s2 ?_ ?_
    · refine Op1.one rfl (Wn.no rfl) ?_
      refine WL.q (Wn.no rfl) rfl rfl (R.loadA (b := b3) (off := 0) [] [(128, pl.map vu8)] [] (cs := pl.map vu8) rfl Try.isAgg42 Try.sizeOf42 (h_18.ok _ (.tail _ (.tail _ (.tail _ (.tail _ (.tail _ (.tail _ (.tail _ (.tail _ (.tail _ (.tail _ (.head _)))))))))))) rfl rfl rfl rfl) ?_
      refine WL.nil ?_
      refine ⟨(SL.nil _ _), ?_⟩
      refine WT.s ?_
      refine Op1.one rfl (Wn.no rfl) ?_
      refine WL.q (Wn.no rfl) rfl rfl (R.loadGA (a := (some ⟨b_20, 0, none⟩)) (i := 0) (xs := (((sS df dn key 10 data u lg ((128 + 31) / 32)).2.2).take 128).map vu8) (cs := (((sS df dn key 10 data u lg ((128 + 31) / 32)).2.2).take 128).map vu8) rfl (ownView (h_18.ok _ (.head _))) Try.isAgg42 Try.sizeOf42 (by rw [List.drop_zero, List.take_of_length_le (by rw [len_map (by rw [List.length_take, sS_len hdf h32_w_15] <;> first | rfl | omega)]; exact Nat.le_refl _)]) (len_map (by rw [List.length_take, sS_len hdf h32_w_15] <;> first | rfl | omega)) (by decide)) ?_
      refine WL.nil ?_
      refine ⟨(SL.nil _ _), ?_⟩
      refine WT.s ?_
      refine Op1.one rfl (Wn.no rfl) ?_
      refine WL.call (al := [(.agg ⟨pl.map vu8⟩), (.agg ⟨(((sS df dn key 10 data u lg ((128 + 31) / 32)).2.2).take 128).map vu8⟩)]) Try.call29 rfl rfl (c_Mix pl (((sS df dn key 10 data u lg ((128 + 31) / 32)).2.2).take 128) hpl (by rw [List.length_take, sS_len hdf h32_w_15] <;> first | rfl | omega) _ ) rfl ?_
      rintro _ w_26 ⟨rfl, hc_25⟩
      have h_27 := h_18.same hc_25
      refine WL.nil ?_
      refine ⟨(SL.nil _ _), ?_⟩
      refine WT.s ?_
      refine Op1.one rfl (Wn.no rfl) ?_
      refine WL.storeA (b := b_1) (off := 0) [] [(128, (List.replicate 128 (0 : UInt8)).map vu8)] [(128, (gx pl (((sS df dn key 10 data u lg ((128 + 31) / 32)).2.2).take 128)).map vu8)] [] (ys := (gx pl (((sS df dn key 10 data u lg ((128 + 31) / 32)).2.2).take 128)).map vu8) h_27 rfl rfl Try.sizeOf42 (At.t (At.t (At.t (At.t (At.t (At.t (At.t At.h))))))) (by decide) rfl rfl rfl rfl rfl rfl (SsOk.cons (SOk.u8 (gx_len hpl (by rw [List.length_take, sS_len hdf h32_w_15] <;> first | rfl | omega))) SsOk.nil) (fun w_28 h_29 => ?_)
      refine WL.nil ?_
      refine ⟨(SL.nil _ _), ?_⟩
      refine WT.q rfl (Wn.no rfl) rfl rfl (fun wq hS => R.assign (v := (vi 0)) rfl) ?_
      refine WT.nil ?_
      refine thn_n ?_
      exact ⟨b_20, (Ag.upd rfl (Ag.upd rfl (Ag.upd rfl (Ag.upd rfl (Ag.upd rfl (Ag.upd rfl (Ag.refl _ _))))))), ⟨rfl, rfl, rfl, rfl, rfl, rfl, trivial⟩, h_29⟩
    · refine Op1.one rfl (Wn.no rfl) ?_
      refine WL.q (Wn.no rfl) rfl rfl (R.loadGA (a := (some ⟨b_20, 0, none⟩)) (i := 0) (xs := (((sS df dn key 10 data u lg ((128 + 31) / 32)).2.2).take 128).map vu8) (cs := (((sS df dn key 10 data u lg ((128 + 31) / 32)).2.2).take 128).map vu8) rfl (ownView (h_18.ok _ (.head _))) Try.isAgg42 Try.sizeOf42 (by rw [List.drop_zero, List.take_of_length_le (by rw [len_map (by rw [List.length_take, sS_len hdf h32_w_15] <;> first | rfl | omega)]; exact Nat.le_refl _)]) (len_map (by rw [List.length_take, sS_len hdf h32_w_15] <;> first | rfl | omega)) (by decide)) ?_
      refine WL.nil ?_
      refine ⟨(SL.nil _ _), ?_⟩
      refine WT.s ?_
      refine Op1.one rfl (Wn.no rfl) ?_
      refine WL.q (Wn.no rfl) rfl rfl (R.loadA (b := b3) (off := 0) [] [(128, pl.map vu8)] [] (cs := pl.map vu8) rfl Try.isAgg42 Try.sizeOf42 (h_18.ok _ (.tail _ (.tail _ (.tail _ (.tail _ (.tail _ (.tail _ (.tail _ (.tail _ (.tail _ (.tail _ (.head _)))))))))))) rfl rfl rfl rfl) ?_
      refine WL.nil ?_
      refine ⟨(SL.nil _ _), ?_⟩
      refine WT.s ?_
      refine Op1.one rfl (Wn.no rfl) ?_
      refine WL.call (al := [(.agg ⟨pl.map vu8⟩), (.agg ⟨(((sS df dn key 10 data u lg ((128 + 31) / 32)).2.2).take 128).map vu8⟩)]) Try.call29 rfl rfl (c_Mix pl (((sS df dn key 10 data u lg ((128 + 31) / 32)).2.2).take 128) hpl (by rw [List.length_take, sS_len hdf h32_w_15] <;> first | rfl | omega) _ ) rfl ?_
      rintro _ w_31 ⟨rfl, hc_30⟩
      have h_32 := h_18.same hc_30
      refine WL.nil ?_
      refine ⟨(SL.nil _ _), ?_⟩
      refine WT.s ?_
      refine Op1.one rfl (Wn.no rfl) ?_
      refine WL.storeA (b := b_1) (off := 0) [] [(128, (List.replicate 128 (0 : UInt8)).map vu8)] [(128, (gx pl (((sS df dn key 10 data u lg ((128 + 31) / 32)).2.2).take 128)).map vu8)] [] (ys := (gx pl (((sS df dn key 10 data u lg ((128 + 31) / 32)).2.2).take 128)).map vu8) h_32 rfl rfl Try.sizeOf42 (At.t (At.t (At.t (At.t (At.t (At.t (At.t At.h))))))) (by decide) rfl rfl rfl rfl rfl rfl (SsOk.cons (SOk.u8 (gx_len hpl (by rw [List.length_take, sS_len hdf h32_w_15] <;> first | rfl | omega))) SsOk.nil) (fun w_33 h_34 => ?_)
      refine WL.nil ?_
      refine ⟨(SL.nil _ _), ?_⟩
      refine WT.q rfl (Wn.no rfl) rfl rfl (fun wq hS => R.assign (v := (vi 0)) rfl) ?_
      refine WT.nil ?_
      refine thn_n ?_
      exact ⟨b_20, (Ag.upd rfl (Ag.upd rfl (Ag.upd rfl (Ag.upd rfl (Ag.upd rfl (Ag.upd rfl (Ag.refl _ _))))))), ⟨rfl, rfl, rfl, rfl, rfl, rfl, trivial⟩, h_34⟩
  · rintro b_38 J_35 w_36 h_37
    refine thn_n ?_
    refine WP.ret ?_
    refine ret_of Try.results66 (RV.cell rfl (h_37.loadA (cs := (gx pl (((sS df dn key 10 data u lg ((128 + 31) / 32)).2.2).take 128)).map vu8) Try.isAgg42 Try.sizeOf42 (.tail _ (.tail _ (.tail _ (.tail _ (.tail _ (.tail _ (.tail _ (.head _)))))))) rfl rfl) (RV.tmp (v := (vi 0)) rfl RV.nil)) ?_
    have h_39 := h_37.drop rfl
    have h_40 := h_39.up (Pick.t (Pick.t (Pick.t (Pick.t (Pick.t (Pick.t Pick.h))))))
    have h_41 := h_40.drop rfl
    have h_42 := h_41.up (Pick.t (Pick.t (Pick.t (Pick.t (Pick.t (Pick.t (Pick.t (Pick.t Pick.h))))))))
    have h_43 := h_42.up (Pick.t (Pick.t (Pick.t (Pick.t (Pick.t (Pick.t (Pick.t (Pick.t Pick.h))))))))
    have h_44 := h_43.up (Pick.t (Pick.t (Pick.t (Pick.t (Pick.t (Pick.t (Pick.t (Pick.t Pick.h))))))))
    have h_45 := h_44.up (Pick.t (Pick.t (Pick.t (Pick.t (Pick.t (Pick.t (Pick.t (Pick.t Pick.h))))))))
    have h_46 := h_45.up (Pick.t (Pick.t (Pick.t (Pick.t (Pick.t (Pick.t (Pick.t (Pick.t Pick.h))))))))
    have h_47 := h_46.up (Pick.t (Pick.t (Pick.t (Pick.t (Pick.t (Pick.t (Pick.t (Pick.t Pick.h))))))))
    have h_48 := h_47.up (Pick.t (Pick.t (Pick.t (Pick.t (Pick.t (Pick.t (Pick.t (Pick.t Pick.h))))))))
    have h_49 := h_48.up (Pick.t (Pick.t (Pick.t (Pick.t (Pick.t (Pick.t (Pick.t (Pick.t Pick.h))))))))
    have h_50 := h_49.up (Pick.t (Pick.t (Pick.t (Pick.t (Pick.t (Pick.t (Pick.t (Pick.t Pick.h))))))))
    exact ⟨_, _, _, rfl, h_50⟩

theorem c_withG_nil (pg : Int) (ct : UInt64) (fv : Value) (w : World) :
    Cs Try.prog 65 [(.pointer none), (vi pg), (vu64 ct), fv].toArray w (fun v w1 => v = (.tuple [(.agg ⟨(List.replicate 128 (0 : UInt8)).map vu8⟩), (vi 1)].toArray) ∧ Chg w w1 []) := by
  refine Cs.of (n := 30) (args := [(.pointer none), (vi pg), (vu64 ct), fv]) Try.func65 rfl rfl rfl ?_
  have h_0 := HP.init w
  refine WP.seq ?_
  refine WP.reg ?_
  refine WL.alloc (segs := [(128, (List.replicate 128 (0 : UInt8)).map vu8)]) h_0 (zv Try.typeInfo42 rfl) rfl (SsOk.cons (SOk.u8 (List.length_replicate ..)) SsOk.nil) rfl (fun b_1 w_2 h_3 => ?_)
  refine WL.q (Wn.no rfl) rfl rfl (R.assign (v := (vi 0)) rfl) ?_
  refine WL.nil ?_
  refine thn_n ?_
  refine WP.seq ?_
  refine WP.seq ?_
  refine WP.reg ?_
  refine WL.q (Wn.no rfl) rfl rfl (R.move (v := (.pointer none)) rfl) ?_
  refine WL.q (Wn.no rfl) rfl rfl (R.move (v := (vi pg)) rfl) ?_
  refine WL.q (Wn.no rfl) rfl rfl (R.move (v := (vu64 ct)) rfl) ?_
  refine WL.call (al := [(.pointer none), (vi pg), (vu64 ct)]) Try.call84 rfl rfl (c_bask_nil pg ct _ ) rfl ?_
  rintro _ w_5 ⟨rfl, hc_4⟩
  have h_6 := h_3.same hc_4
  refine WL.q (Wn.no rfl) rfl rfl (R.assign (v := (vi 1)) rfl) ?_
  refine WL.nil ?_
  refine thn_n ?_
  refine WP.seq ?_
  refine WP.reg ?_
  refine WL.q (Wn.no rfl) rfl rfl (R.move (v := (vi 1)) rfl) ?_
  refine WL.q (Wn.no rfl) rfl rfl (R.bin (v := (.bool true)) rfl rfl (bi_neq (r := true) (by decide))) ?_
  refine WL.nil ?_
  refine thn_n ?_
  refine WP.condT rfl ?_
  refine WP.seq ?_
  refine WP.reg ?_
  refine WL.q (Wn.no rfl) rfl rfl (R.loadA (b := b_1) (off := 0) [] [(128, (List.replicate 128 (0 : UInt8)).map vu8)] [] (cs := (List.replicate 128 (0 : UInt8)).map vu8) rfl Try.isAgg42 Try.sizeOf42 (h_6.ok _ (.head _)) rfl rfl rfl rfl) ?_
  refine WL.q (Wn.no rfl) rfl rfl (R.move (v := (vi 1)) rfl) ?_
  refine WL.storeA (b := b_1) (off := 0) [] [(128, (List.replicate 128 (0 : UInt8)).map vu8)] [(128, (List.replicate 128 (0 : UInt8)).map vu8)] [] (ys := (List.replicate 128 (0 : UInt8)).map vu8) h_6 rfl rfl Try.sizeOf42 At.h (by decide) rfl rfl rfl rfl rfl rfl (SsOk.cons (SOk.u8 (List.length_replicate ..)) SsOk.nil) (fun w_7 h_8 => ?_)
  refine WL.q (Wn.no rfl) rfl rfl (R.assign (v := (vi 1)) rfl) ?_
  refine WL.nil ?_
  refine thn_n ?_
  refine WP.ret ?_
  refine thn_r ?_
  refine ret_of Try.results65 (RV.cell rfl (h_8.loadA (cs := (List.replicate 128 (0 : UInt8)).map vu8) Try.isAgg42 Try.sizeOf42 (.head _) rfl rfl) (RV.tmp (v := (vi 1)) rfl RV.nil)) ?_
  exact ⟨rfl, h_8.chgS⟩

theorem c_withG_big (ob mp : Nat) (ms : List UInt8) (hms : ms.length = 32) (da : Option Addr) (dn dc u : Nat) (la : Option Addr) (ln lc : Nat) (pg : Int) (ct : UInt64) (fv : Value) (h : 128 ≤ pg) (w : World) (hcb : (Ent.blk ob .ro 47 [(1, [(.bool true)]), (32, ms.map vu8), (1, [(.slice da dn dc)]), (1, [(vi ((u : Nat) : Int))]), (1, [(.map (some mp))]), (1, [(.slice la ln lc)])]).ok w.heap.size w) :
    Cs Try.prog 65 [(.pointer (some ⟨ob, 0, none⟩)), (vi pg), (vu64 ct), fv].toArray w (fun v w1 => v = (.tuple [(.agg ⟨(List.replicate 128 (0 : UInt8)).map vu8⟩), (vi 2)].toArray) ∧ Chg w w1 []) := by
  refine Cs.of (n := 30) (args := [(.pointer (some ⟨ob, 0, none⟩)), (vi pg), (vu64 ct), fv]) Try.func65 rfl rfl rfl ?_
  have h_0 := HP.init w
  have h_00 := h_0.old hcb (fun f hf => by cases hf)
  refine WP.seq ?_
  refine WP.reg ?_
  refine WL.alloc (segs := [(128, (List.replicate 128 (0 : UInt8)).map vu8)]) h_00 (zv Try.typeInfo42 rfl) rfl (SsOk.cons (SOk.u8 (List.length_replicate ..)) SsOk.nil) rfl (fun b_1 w_2 h_3 => ?_)
  refine WL.q (Wn.no rfl) rfl rfl (R.assign (v := (vi 0)) rfl) ?_
  refine WL.nil ?_
  refine thn_n ?_
  refine WP.seq ?_
  refine WP.seq ?_
  refine WP.reg ?_
  refine WL.q (Wn.no rfl) rfl rfl (R.move (v := (.pointer (some ⟨ob, 0, none⟩))) rfl) ?_
  refine WL.q (Wn.no rfl) rfl rfl (R.move (v := (vi pg)) rfl) ?_
  refine WL.q (Wn.no rfl) rfl rfl (R.move (v := (vu64 ct)) rfl) ?_
  refine WL.call (al := [(.pointer (some ⟨ob, 0, none⟩)), (vi pg), (vu64 ct)]) Try.call84 rfl rfl (c_bask_big ob mp ms hms da dn dc u la ln lc pg ct (by omega) _ (h_3.argR (.tail _ (.head _)))) rfl ?_
  rintro _ w_5 ⟨rfl, hc_4⟩
  have h_6 := h_3.same hc_4
  refine WL.q (Wn.no rfl) rfl rfl (R.assign (v := (vi 2)) rfl) ?_
  refine WL.nil ?_
  refine thn_n ?_
  refine WP.seq ?_
  refine WP.reg ?_
  refine WL.q (Wn.no rfl) rfl rfl (R.move (v := (vi 2)) rfl) ?_
  refine WL.q (Wn.no rfl) rfl rfl (R.bin (v := (.bool true)) rfl rfl (bi_neq (r := true) (by decide))) ?_
  refine WL.nil ?_
  refine thn_n ?_
  refine WP.condT rfl ?_
  refine WP.seq ?_
  refine WP.reg ?_
  refine WL.q (Wn.no rfl) rfl rfl (R.loadA (b := b_1) (off := 0) [] [(128, (List.replicate 128 (0 : UInt8)).map vu8)] [] (cs := (List.replicate 128 (0 : UInt8)).map vu8) rfl Try.isAgg42 Try.sizeOf42 (h_6.ok _ (.head _)) rfl rfl rfl rfl) ?_
  refine WL.q (Wn.no rfl) rfl rfl (R.move (v := (vi 2)) rfl) ?_
  refine WL.storeA (b := b_1) (off := 0) [] [(128, (List.replicate 128 (0 : UInt8)).map vu8)] [(128, (List.replicate 128 (0 : UInt8)).map vu8)] [] (ys := (List.replicate 128 (0 : UInt8)).map vu8) h_6 rfl rfl Try.sizeOf42 At.h (by decide) rfl rfl rfl rfl rfl rfl (SsOk.cons (SOk.u8 (List.length_replicate ..)) SsOk.nil) (fun w_7 h_8 => ?_)
  refine WL.q (Wn.no rfl) rfl rfl (R.assign (v := (vi 2)) rfl) ?_
  refine WL.nil ?_
  refine thn_n ?_
  refine WP.ret ?_
  refine thn_r ?_
  refine ret_of Try.results65 (RV.cell rfl (h_8.loadA (cs := (List.replicate 128 (0 : UInt8)).map vu8) Try.isAgg42 Try.sizeOf42 (.head _) rfl rfl) (RV.tmp (v := (vi 2)) rfl RV.nil)) ?_
  exact ⟨rfl, h_8.chgS⟩

theorem c_withG {w00 : World} {L : List Ent} (ob mp : Nat) (ms df : List UInt8) (hms : ms.length = 32) (da : Option Addr) (dn dc u : Nat) (hdf : df.length = 32 * dn) (la : Option Addr) (lc : Nat) (lx : List Value) (lg : Lg) (hu : u ≤ 500000) (hlg : lg.length ≤ 500000) (key pl : List UInt8) (hk : key.length = 32) (hpl : pl.length = 128) (b1 b2 b3 : Nat) (pg : Nat) (ct : UInt64) (h : pg < 128) (hct : ¬ ct > 4294967296) (w : World) (h_0 : HP w00 w (Ent.blk ob .nw 47 [(1, [(.bool true)]), (32, ms.map vu8), (1, [(.slice da dn dc)]), (1, [(vi ((u : Nat) : Int))]), (1, [(.map (some mp))]), (1, [(.slice la lg.length lc)])] :: Ent.row la lg.length lc 71 67 lx :: Ent.obj mp .nw (.map (mArr lg) lg.length) :: Ent.pin (sblks lx) (fun w => Lgs w lx lg) :: Ent.view da (df.map vu8) :: Ent.blk b1 .nw 26 [(1, [(.pointer (some ⟨ob, 0, none⟩))])] :: Ent.blk b2 .nw 29 [(32, key.map vu8)] :: Ent.blk b3 .nw 42 [(128, pl.map vu8)] :: L)) :
    Cs Try.prog 65 [(.pointer (some ⟨ob, 0, none⟩)), (vi ((pg : Nat) : Int)), (vu64 ct), (Value.func (Fn.func 66) [].toArray [(Value.pointer (some ⟨b1, 0, none⟩)), (Value.pointer (some ⟨b2, 0, none⟩)), (Value.pointer (some ⟨b3, 0, none⟩))].toArray)].toArray w (fun v w1 => ∃ la' lc' lx', v = (.tuple [(.agg ⟨(gx pl (((sS df dn key 10 (pcB pg ct) u lg ((128 + 31) / 32)).2.2).take 128)).map vu8⟩), (vi 0)].toArray) ∧ HP w00 w1 (Ent.blk ob .nw 47 [(1, [(.bool true)]), (32, ms.map vu8), (1, [(.slice da dn dc)]), (1, [(vi (((sS df dn key 10 (pcB pg ct) u lg ((128 + 31) / 32)).1 : Nat) : Int))]), (1, [(.map (some mp))]), (1, [(.slice la' ((sS df dn key 10 (pcB pg ct) u lg ((128 + 31) / 32)).2.1.length) lc')])] :: Ent.row la' ((sS df dn key 10 (pcB pg ct) u lg ((128 + 31) / 32)).2.1.length) lc' 71 67 lx' :: Ent.obj mp .nw (.map (mArr ((sS df dn key 10 (pcB pg ct) u lg ((128 + 31) / 32)).2.1)) ((sS df dn key 10 (pcB pg ct) u lg ((128 + 31) / 32)).2.1.length)) :: Ent.pin (sblks lx') (fun w => Lgs w lx' ((sS df dn key 10 (pcB pg ct) u lg ((128 + 31) / 32)).2.1)) :: Ent.view da (df.map vu8) :: Ent.blk b1 .nw 26 [(1, [(.pointer (some ⟨ob, 0, none⟩))])] :: Ent.blk b2 .nw 29 [(32, key.map vu8)] :: Ent.blk b3 .nw 42 [(128, pl.map vu8)] :: L)) := by
  refine Cs.of (n := 30) (args := [(.pointer (some ⟨ob, 0, none⟩)), (vi ((pg : Nat) : Int)), (vu64 ct), (Value.func (Fn.func 66) [].toArray [(Value.pointer (some ⟨b1, 0, none⟩)), (Value.pointer (some ⟨b2, 0, none⟩)), (Value.pointer (some ⟨b3, 0, none⟩))].toArray)]) Try.func65 rfl rfl rfl ?_
  refine WP.seq ?_
  refine WP.reg ?_
  refine WL.alloc (segs := [(128, (List.replicate 128 (0 : UInt8)).map vu8)]) h_0 (zv Try.typeInfo42 rfl) rfl (SsOk.cons (SOk.u8 (List.length_replicate ..)) SsOk.nil) rfl (fun b_1 w_2 h_3 => ?_)
  refine WL.q (Wn.no rfl) rfl rfl (R.assign (v := (vi 0)) rfl) ?_
  refine WL.nil ?_
  refine thn_n ?_
  refine WP.seq ?_
  refine WP.seq ?_
  refine WP.reg ?_
  refine WL.q (Wn.no rfl) rfl rfl (R.move (v := (.pointer (some ⟨ob, 0, none⟩))) rfl) ?_
  refine WL.q (Wn.no rfl) rfl rfl (R.move (v := (vi ((pg : Nat) : Int))) rfl) ?_
  refine WL.q (Wn.no rfl) rfl rfl (R.move (v := (vu64 ct)) rfl) ?_
  refine WL.call (al := [(.pointer (some ⟨ob, 0, none⟩)), (vi ((pg : Nat) : Int)), (vu64 ct)]) Try.call84 rfl rfl (c_bask_ok ob mp ms hms da dn dc u la lg.length lc pg ct (by omega) hct _ (h_3.argR (.tail _ (.head _)))) rfl ?_
  rintro _ w_5 ⟨rfl, hc_4⟩
  have h_6 := h_3.same hc_4
  refine WL.q (Wn.no rfl) rfl rfl (R.assign (v := (vi 0)) rfl) ?_
  refine WL.nil ?_
  refine thn_n ?_
  refine WP.seq ?_
  refine WP.reg ?_
  refine WL.q (Wn.no rfl) rfl rfl (R.move (v := (vi 0)) rfl) ?_
  refine WL.q (Wn.no rfl) rfl rfl (R.bin (v := (.bool false)) rfl rfl (bi_neq (r := false) (by decide))) ?_
  refine WL.nil ?_
  refine thn_n ?_
  refine WP.condF rfl ?_
  refine WP.skip ?_
  refine thn_n ?_
  refine WP.seq ?_
  refine WP.reg ?_
  refine WL.q (Wn.no rfl) rfl rfl (R.move (v := (Value.func (Fn.func 66) [].toArray [(Value.pointer (some ⟨b1, 0, none⟩)), (Value.pointer (some ⟨b2, 0, none⟩)), (Value.pointer (some ⟨b3, 0, none⟩))].toArray)) rfl) ?_
  refine WL.q (Wn.no rfl) rfl rfl (R.move (v := (vi ((pg : Nat) : Int))) rfl) ?_
  refine WL.q (Wn.no rfl) rfl rfl (R.conv (b := ((UInt64.ofNat pg) : UInt64).toNat) rfl Try.underlying3 Try.underlying37 (w64_nat pg)) ?_
  refine WL.call (al := [(vu64 (UInt64.ofNat pg))]) Try.call85 rfl rfl (c_bword (UInt64.ofNat pg) _) rfl ?_
  rintro _ w_9 ⟨a_7, cap_8, rfl, hc_10, ho_11⟩
  have h_12 := h_6.gotRow hc_10 ho_11
  refine WL.q (Wn.no rfl) rfl rfl (R.move (v := (vu64 ct)) rfl) ?_
  refine WL.call (al := [(vu64 ct)]) Try.call85 rfl rfl (c_bword ct _) rfl ?_
  rintro _ w_15 ⟨a_13, cap_14, rfl, hc_16, ho_17⟩
  have h_18 := h_12.gotRow hc_16 ho_17
  refine WL.buildSl (vs := [(0, (.slice a_7 8 cap_8)), (1, (.slice a_13 8 cap_14))]) (cs := [(.slice a_7 8 cap_8), (.slice a_13 8 cap_14)]) h_18 Try.underlying110 Try.sizeOf62 (zv Try.typeInfo62 rfl) rfl rfl (by kernel_rfl) rfl (by simp [Value.oneCell']) rfl rfl (fun b_19 w_20 h_21 => ?_)
  refine WL.call (al := [(.slice (some ⟨b_19, 0, none⟩) 2 2)]) Try.call82 rfl rfl (c_wJoin (some ⟨b_19, 0, none⟩) 2 2 [(.slice a_7 8 cap_8), (.slice a_13 8 cap_14)] [leN 8 (UInt64.ofNat pg).toNat, leN 8 ct.toNat] rfl (by have := pcB_len pg ct; simp only [pcB] at this; omega) (by omega) _ (viewB (h_21.ok _ (.head _)) Sg.h) (Sls.cons (leN_len ..) (h_21.own (.tail _ (.tail _ (.head _)))).2.2.1 (ownView (h_21.ok _ (.tail _ (.tail _ (.head _))))) (Sls.cons (leN_len ..) (h_21.own (.tail _ (.head _))).2.2.1 (ownView (h_21.ok _ (.tail _ (.head _)))) Sls.nil))) rfl ?_
  rintro _ w_24 ⟨a_22, cap_23, rfl, hc_25, ho_26⟩
  have h_27 := h_21.gotRow hc_25 ho_26
  have h_28 := h_27.rowView
  have h_29 := h_28.up (Pick.t (Pick.t (Pick.t (Pick.t (Pick.t (Pick.t (Pick.t (Pick.t (Pick.t (Pick.t (Pick.t (Pick.t Pick.h))))))))))))
  have h_30 := h_29.up (Pick.t (Pick.t (Pick.t (Pick.t (Pick.t (Pick.t (Pick.t (Pick.t (Pick.t (Pick.t (Pick.t (Pick.t Pick.h))))))))))))
  have h_31 := h_30.up (Pick.t (Pick.t (Pick.t (Pick.t (Pick.t (Pick.t (Pick.t (Pick.t (Pick.t (Pick.t (Pick.t (Pick.t Pick.h))))))))))))
  have h_32 := h_31.up (Pick.t (Pick.t (Pick.t Pick.h)))
  have h_33 := h_32.up (Pick.t (Pick.t (Pick.t (Pick.t (Pick.t (Pick.t (Pick.t (Pick.t (Pick.t (Pick.t (Pick.t (Pick.t Pick.h))))))))))))
  have h_34 := h_33.up (Pick.t (Pick.t (Pick.t (Pick.t (Pick.t (Pick.t (Pick.t (Pick.t (Pick.t (Pick.t (Pick.t (Pick.t Pick.h))))))))))))
  have h_35 := h_34.up (Pick.t (Pick.t (Pick.t (Pick.t (Pick.t (Pick.t (Pick.t (Pick.t (Pick.t (Pick.t (Pick.t (Pick.t Pick.h))))))))))))
  have h_36 := h_35.up (Pick.t (Pick.t (Pick.t (Pick.t (Pick.t (Pick.t (Pick.t (Pick.t (Pick.t (Pick.t (Pick.t (Pick.t Pick.h))))))))))))
  have h_37 := h_36.up (Pick.t (Pick.t (Pick.t (Pick.t (Pick.t (Pick.t (Pick.t (Pick.t (Pick.t (Pick.t (Pick.t (Pick.t Pick.h))))))))))))
  have h32_w_41 := Lgs.ok32 (h_37.ok _ (.tail _ (.tail _ (.tail _ (.head _))))).1
  refine WL.call (al := [(.slice a_22 ([leN 8 (UInt64.ofNat pg).toNat, leN 8 ct.toNat].flatten.length) cap_23), (.pointer (some ⟨b1, 0, none⟩)), (.pointer (some ⟨b2, 0, none⟩)), (.pointer (some ⟨b3, 0, none⟩))]) Try.call66 rfl rfl (c_Seal1 ob mp ms df hms da dn dc u hdf la lc lx lg (by omega) (by omega) ([leN 8 (UInt64.ofNat pg).toNat, leN 8 ct.toNat].flatten) a_22 ([leN 8 (UInt64.ofNat pg).toNat, leN 8 ct.toNat].flatten.length) cap_23 (rfl : List.length ([leN 8 (UInt64.ofNat pg).toNat, leN 8 ct.toNat].flatten) = [leN 8 (UInt64.ofNat pg).toNat, leN 8 ct.toNat].flatten.length) (by have := pcB_len pg ct; simp only [pcB] at this; omega) key pl hk hpl b1 b2 b3 _ h_37) rfl ?_
  rintro _ w_41 ⟨la_38, lc_39, lx_40, rfl, h_42⟩
  refine WL.q (Wn.no rfl) rfl rfl (R.extract (l := [(.agg ⟨(gx pl (((sS df dn key 10 ([leN 8 (UInt64.ofNat pg).toNat, leN 8 ct.toNat].flatten) u lg ((128 + 31) / 32)).2.2).take 128)).map vu8⟩), (vi 0)]) (v := (.agg ⟨(gx pl (((sS df dn key 10 ([leN 8 (UInt64.ofNat pg).toNat, leN 8 ct.toNat].flatten) u lg ((128 + 31) / 32)).2.2).take 128)).map vu8⟩)) rfl rfl) ?_
  refine WL.q (Wn.no rfl) rfl rfl (R.extract (l := [(.agg ⟨(gx pl (((sS df dn key 10 ([leN 8 (UInt64.ofNat pg).toNat, leN 8 ct.toNat].flatten) u lg ((128 + 31) / 32)).2.2).take 128)).map vu8⟩), (vi 0)]) (v := (vi 0)) rfl rfl) ?_
  refine WL.storeA (b := b_1) (off := 0) [] [(128, (List.replicate 128 (0 : UInt8)).map vu8)] [(128, (gx pl (((sS df dn key 10 ([leN 8 (UInt64.ofNat pg).toNat, leN 8 ct.toNat].flatten) u lg ((128 + 31) / 32)).2.2).take 128)).map vu8)] [] (ys := (gx pl (((sS df dn key 10 ([leN 8 (UInt64.ofNat pg).toNat, leN 8 ct.toNat].flatten) u lg ((128 + 31) / 32)).2.2).take 128)).map vu8) h_42 rfl rfl Try.sizeOf42 (At.t (At.t (At.t (At.t (At.t (At.t (At.t (At.t (At.t (At.t (At.t (At.t At.h)))))))))))) (by decide) rfl rfl rfl rfl rfl rfl (SsOk.cons (SOk.u8 (gx_len hpl (by rw [List.length_take, sS_len hdf h32_w_41] <;> rfl))) SsOk.nil) (fun w_43 h_44 => ?_)
  refine WL.q (Wn.no rfl) rfl rfl (R.assign (v := (vi 0)) rfl) ?_
  refine WL.nil ?_
  refine thn_n ?_
  refine WP.ret ?_
  refine ret_of Try.results65 (RV.cell rfl (h_44.loadA (cs := (gx pl (((sS df dn key 10 ([leN 8 (UInt64.ofNat pg).toNat, leN 8 ct.toNat].flatten) u lg ((128 + 31) / 32)).2.2).take 128)).map vu8) Try.isAgg42 Try.sizeOf42 (.tail _ (.tail _ (.tail _ (.tail _ (.tail _ (.tail _ (.tail _ (.tail _ (.tail _ (.tail _ (.tail _ (.tail _ (.head _))))))))))))) rfl rfl) (RV.tmp (v := (vi 0)) rfl RV.nil)) ?_
  have h_45 := h_44.up (Pick.t (Pick.t (Pick.t (Pick.t (Pick.t Pick.h)))))
  have h_46 := h_45.drop rfl
  have h_47 := h_46.up (Pick.t (Pick.t (Pick.t (Pick.t (Pick.t (Pick.t (Pick.t (Pick.t Pick.h))))))))
  have h_48 := h_47.drop rfl
  have h_49 := h_48.up (Pick.t (Pick.t (Pick.t (Pick.t (Pick.t (Pick.t (Pick.t (Pick.t Pick.h))))))))
  have h_50 := h_49.drop rfl
  have h_51 := h_50.up (Pick.t (Pick.t (Pick.t (Pick.t (Pick.t (Pick.t (Pick.t (Pick.t Pick.h))))))))
  have h_52 := h_51.drop rfl
  have h_53 := h_52.up (Pick.t (Pick.t (Pick.t (Pick.t (Pick.t (Pick.t (Pick.t (Pick.t Pick.h))))))))
  have h_54 := h_53.drop rfl
  have h_55 := h_54.up (Pick.t (Pick.t (Pick.t (Pick.t (Pick.t (Pick.t (Pick.t Pick.h)))))))
  have h_56 := h_55.up (Pick.t (Pick.t (Pick.t (Pick.t (Pick.t (Pick.t (Pick.t Pick.h)))))))
  have h_57 := h_56.up (Pick.t (Pick.t (Pick.t (Pick.t (Pick.t (Pick.t (Pick.t Pick.h)))))))
  have h_58 := h_57.up (Pick.t (Pick.t (Pick.t (Pick.t (Pick.t (Pick.t (Pick.t Pick.h)))))))
  have h_59 := h_58.up (Pick.t (Pick.t (Pick.t (Pick.t (Pick.t (Pick.t (Pick.t Pick.h)))))))
  have h_60 := h_59.up (Pick.t (Pick.t (Pick.t (Pick.t (Pick.t (Pick.t (Pick.t Pick.h)))))))
  have h_61 := h_60.up (Pick.t (Pick.t (Pick.t (Pick.t (Pick.t (Pick.t (Pick.t Pick.h)))))))
  have h_62 := h_61.up (Pick.t (Pick.t (Pick.t (Pick.t (Pick.t (Pick.t (Pick.t Pick.h)))))))
  exact ⟨_, _, _, rfl, h_62⟩

theorem c_Seal_nil (key pl : List UInt8) (hk : key.length = 32) (hpl : pl.length = 128) (pg : Int) (ct : UInt64) (w : World) :
    Cs Try.prog 34 [(.pointer none), (.agg ⟨key.map vu8⟩), (vi pg), (vu64 ct), (.agg ⟨pl.map vu8⟩)].toArray w (fun v w1 => v = (.tuple [(.agg ⟨(List.replicate 128 (0 : UInt8)).map vu8⟩), (vi 1)].toArray) ∧ Chg w w1 []) := by
  refine Cs.of (n := 19) (args := [(.pointer none), (.agg ⟨key.map vu8⟩), (vi pg), (vu64 ct), (.agg ⟨pl.map vu8⟩)]) Try.func34 rfl rfl rfl ?_
  have h_0 := HP.init w
  refine WP.seq ?_
  refine WP.reg ?_
  refine WL.box (v := (.pointer none)) (segs := [(1, [(.pointer none)])]) h_0 rfl rfl (SsOk.cons (SOk.v rfl) SsOk.nil) rfl (fun b_1 w_2 h_3 => ?_)
  refine WL.box (v := (.agg ⟨key.map vu8⟩)) (segs := [(32, key.map vu8)]) h_3 rfl rfl (SsOk.cons (SOk.u8 hk) SsOk.nil) rfl (fun b_4 w_5 h_6 => ?_)
  refine WL.box (v := (.agg ⟨pl.map vu8⟩)) (segs := [(128, pl.map vu8)]) h_6 rfl rfl (SsOk.cons (SOk.u8 hpl) SsOk.nil) rfl (fun b_7 w_8 h_9 => ?_)
  refine WL.alloc (segs := [(128, (List.replicate 128 (0 : UInt8)).map vu8)]) h_9 (zv Try.typeInfo42 rfl) rfl (SsOk.cons (SOk.u8 (List.length_replicate ..)) SsOk.nil) rfl (fun b_10 w_11 h_12 => ?_)
  refine WL.q (Wn.no rfl) rfl rfl (R.assign (v := (vi 0)) rfl) ?_
  refine WL.nil ?_
  refine thn_n ?_
  refine WP.seq ?_
  refine WP.reg ?_
  refine WL.q (Wn.no rfl) rfl rfl (R.load1 (b := b_1) (off := 0) (v := (.pointer none)) rfl Try.isAgg26 (h_12.ok _ (.tail _ (.tail _ (.tail _ (.head _))))) Sg.h) ?_
  refine WL.q (Wn.no rfl) rfl rfl (R.move (v := (vi pg)) rfl) ?_
  refine WL.q (Wn.no rfl) rfl rfl (R.move (v := (vu64 ct)) rfl) ?_
  refine WL.q (Wn.no rfl) rfl rfl (R.makeFuncL (fi := []) (ca := [(.pointer (some ⟨b_1, 0, none⟩)), (.pointer (some ⟨b_4, 0, none⟩)), (.pointer (some ⟨b_7, 0, none⟩))]) rfl rfl) ?_
  refine WL.call (al := [(.pointer none), (vi pg), (vu64 ct), (Value.func (Fn.func 66) [].toArray [(Value.pointer (some ⟨b_1, 0, none⟩)), (Value.pointer (some ⟨b_4, 0, none⟩)), (Value.pointer (some ⟨b_7, 0, none⟩))].toArray)]) Try.call65 rfl rfl (c_withG_nil pg ct (Value.func (Fn.func 66) [].toArray [(Value.pointer (some ⟨b_1, 0, none⟩)), (Value.pointer (some ⟨b_4, 0, none⟩)), (Value.pointer (some ⟨b_7, 0, none⟩))].toArray) _ ) rfl ?_
  rintro _ w_14 ⟨rfl, hc_13⟩
  have h_15 := h_12.same hc_13
  refine WL.q (Wn.no rfl) rfl rfl (R.extract (l := [(.agg ⟨(List.replicate 128 (0 : UInt8)).map vu8⟩), (vi 1)]) (v := (.agg ⟨(List.replicate 128 (0 : UInt8)).map vu8⟩)) rfl rfl) ?_
  refine WL.q (Wn.no rfl) rfl rfl (R.extract (l := [(.agg ⟨(List.replicate 128 (0 : UInt8)).map vu8⟩), (vi 1)]) (v := (vi 1)) rfl rfl) ?_
  refine WL.storeA (b := b_10) (off := 0) [] [(128, (List.replicate 128 (0 : UInt8)).map vu8)] [(128, (List.replicate 128 (0 : UInt8)).map vu8)] [] (ys := (List.replicate 128 (0 : UInt8)).map vu8) h_15 rfl rfl Try.sizeOf42 At.h (by decide) rfl rfl rfl rfl rfl rfl (SsOk.cons (SOk.u8 (List.length_replicate ..)) SsOk.nil) (fun w_16 h_17 => ?_)
  refine WL.q (Wn.no rfl) rfl rfl (R.assign (v := (vi 1)) rfl) ?_
  refine WL.nil ?_
  refine thn_n ?_
  refine WP.ret ?_
  refine ret_of Try.results34 (RV.cell rfl (h_17.loadA (cs := (List.replicate 128 (0 : UInt8)).map vu8) Try.isAgg42 Try.sizeOf42 (.head _) rfl rfl) (RV.tmp (v := (vi 1)) rfl RV.nil)) ?_
  exact ⟨rfl, h_17.chgS⟩

theorem c_Seal_big (ob mp : Nat) (ms : List UInt8) (hms : ms.length = 32) (da : Option Addr) (dn dc u : Nat) (la : Option Addr) (ln lc : Nat) (key pl : List UInt8) (hk : key.length = 32) (hpl : pl.length = 128) (pg : Int) (ct : UInt64) (h : 128 ≤ pg) (w : World) (hcb : (Ent.blk ob .ro 47 [(1, [(.bool true)]), (32, ms.map vu8), (1, [(.slice da dn dc)]), (1, [(vi ((u : Nat) : Int))]), (1, [(.map (some mp))]), (1, [(.slice la ln lc)])]).ok w.heap.size w) :
    Cs Try.prog 34 [(.pointer (some ⟨ob, 0, none⟩)), (.agg ⟨key.map vu8⟩), (vi pg), (vu64 ct), (.agg ⟨pl.map vu8⟩)].toArray w (fun v w1 => v = (.tuple [(.agg ⟨(List.replicate 128 (0 : UInt8)).map vu8⟩), (vi 2)].toArray) ∧ Chg w w1 []) := by
  refine Cs.of (n := 19) (args := [(.pointer (some ⟨ob, 0, none⟩)), (.agg ⟨key.map vu8⟩), (vi pg), (vu64 ct), (.agg ⟨pl.map vu8⟩)]) Try.func34 rfl rfl rfl ?_
  have h_0 := HP.init w
  have h_00 := h_0.old hcb (fun f hf => by cases hf)
  refine WP.seq ?_
  refine WP.reg ?_
  refine WL.box (v := (.pointer (some ⟨ob, 0, none⟩))) (segs := [(1, [(.pointer (some ⟨ob, 0, none⟩))])]) h_00 rfl rfl (SsOk.cons (SOk.v rfl) SsOk.nil) rfl (fun b_1 w_2 h_3 => ?_)
  refine WL.box (v := (.agg ⟨key.map vu8⟩)) (segs := [(32, key.map vu8)]) h_3 rfl rfl (SsOk.cons (SOk.u8 hk) SsOk.nil) rfl (fun b_4 w_5 h_6 => ?_)
  refine WL.box (v := (.agg ⟨pl.map vu8⟩)) (segs := [(128, pl.map vu8)]) h_6 rfl rfl (SsOk.cons (SOk.u8 hpl) SsOk.nil) rfl (fun b_7 w_8 h_9 => ?_)
  refine WL.alloc (segs := [(128, (List.replicate 128 (0 : UInt8)).map vu8)]) h_9 (zv Try.typeInfo42 rfl) rfl (SsOk.cons (SOk.u8 (List.length_replicate ..)) SsOk.nil) rfl (fun b_10 w_11 h_12 => ?_)
  refine WL.q (Wn.no rfl) rfl rfl (R.assign (v := (vi 0)) rfl) ?_
  refine WL.nil ?_
  refine thn_n ?_
  refine WP.seq ?_
  refine WP.reg ?_
  refine WL.q (Wn.no rfl) rfl rfl (R.load1 (b := b_1) (off := 0) (v := (.pointer (some ⟨ob, 0, none⟩))) rfl Try.isAgg26 (h_12.ok _ (.tail _ (.tail _ (.tail _ (.head _))))) Sg.h) ?_
  refine WL.q (Wn.no rfl) rfl rfl (R.move (v := (vi pg)) rfl) ?_
  refine WL.q (Wn.no rfl) rfl rfl (R.move (v := (vu64 ct)) rfl) ?_
  refine WL.q (Wn.no rfl) rfl rfl (R.makeFuncL (fi := []) (ca := [(.pointer (some ⟨b_1, 0, none⟩)), (.pointer (some ⟨b_4, 0, none⟩)), (.pointer (some ⟨b_7, 0, none⟩))]) rfl rfl) ?_
  refine WL.call (al := [(.pointer (some ⟨ob, 0, none⟩)), (vi pg), (vu64 ct), (Value.func (Fn.func 66) [].toArray [(Value.pointer (some ⟨b_1, 0, none⟩)), (Value.pointer (some ⟨b_4, 0, none⟩)), (Value.pointer (some ⟨b_7, 0, none⟩))].toArray)]) Try.call65 rfl rfl (c_withG_big ob mp ms hms da dn dc u la ln lc pg ct (Value.func (Fn.func 66) [].toArray [(Value.pointer (some ⟨b_1, 0, none⟩)), (Value.pointer (some ⟨b_4, 0, none⟩)), (Value.pointer (some ⟨b_7, 0, none⟩))].toArray) (by omega) _ (h_12.argR (.tail _ (.tail _ (.tail _ (.tail _ (.head _))))))) rfl ?_
  rintro _ w_14 ⟨rfl, hc_13⟩
  have h_15 := h_12.same hc_13
  refine WL.q (Wn.no rfl) rfl rfl (R.extract (l := [(.agg ⟨(List.replicate 128 (0 : UInt8)).map vu8⟩), (vi 2)]) (v := (.agg ⟨(List.replicate 128 (0 : UInt8)).map vu8⟩)) rfl rfl) ?_
  refine WL.q (Wn.no rfl) rfl rfl (R.extract (l := [(.agg ⟨(List.replicate 128 (0 : UInt8)).map vu8⟩), (vi 2)]) (v := (vi 2)) rfl rfl) ?_
  refine WL.storeA (b := b_10) (off := 0) [] [(128, (List.replicate 128 (0 : UInt8)).map vu8)] [(128, (List.replicate 128 (0 : UInt8)).map vu8)] [] (ys := (List.replicate 128 (0 : UInt8)).map vu8) h_15 rfl rfl Try.sizeOf42 At.h (by decide) rfl rfl rfl rfl rfl rfl (SsOk.cons (SOk.u8 (List.length_replicate ..)) SsOk.nil) (fun w_16 h_17 => ?_)
  refine WL.q (Wn.no rfl) rfl rfl (R.assign (v := (vi 2)) rfl) ?_
  refine WL.nil ?_
  refine thn_n ?_
  refine WP.ret ?_
  refine ret_of Try.results34 (RV.cell rfl (h_17.loadA (cs := (List.replicate 128 (0 : UInt8)).map vu8) Try.isAgg42 Try.sizeOf42 (.head _) rfl rfl) (RV.tmp (v := (vi 2)) rfl RV.nil)) ?_
  exact ⟨rfl, h_17.chgS⟩

theorem c_Seal {w00 : World} {L : List Ent} (ob mp : Nat) (ms df : List UInt8) (hms : ms.length = 32) (da : Option Addr) (dn dc u : Nat) (hdf : df.length = 32 * dn) (la : Option Addr) (lc : Nat) (lx : List Value) (lg : Lg) (hu : u ≤ 500000) (hlg : lg.length ≤ 500000) (key pl : List UInt8) (hk : key.length = 32) (hpl : pl.length = 128) (pg : Nat) (ct : UInt64) (h : pg < 128) (hct : ¬ ct > 4294967296) (w : World) (h_0 : HP w00 w (Ent.blk ob .nw 47 [(1, [(.bool true)]), (32, ms.map vu8), (1, [(.slice da dn dc)]), (1, [(vi ((u : Nat) : Int))]), (1, [(.map (some mp))]), (1, [(.slice la lg.length lc)])] :: Ent.row la lg.length lc 71 67 lx :: Ent.obj mp .nw (.map (mArr lg) lg.length) :: Ent.pin (sblks lx) (fun w => Lgs w lx lg) :: Ent.view da (df.map vu8) :: L)) :
    Cs Try.prog 34 [(.pointer (some ⟨ob, 0, none⟩)), (.agg ⟨key.map vu8⟩), (vi ((pg : Nat) : Int)), (vu64 ct), (.agg ⟨pl.map vu8⟩)].toArray w (fun v w1 => ∃ la' lc' lx', v = (.tuple [(.agg ⟨(gx pl (((sS df dn key 10 (pcB pg ct) u lg ((128 + 31) / 32)).2.2).take 128)).map vu8⟩), (vi 0)].toArray) ∧ HP w00 w1 (Ent.blk ob .nw 47 [(1, [(.bool true)]), (32, ms.map vu8), (1, [(.slice da dn dc)]), (1, [(vi (((sS df dn key 10 (pcB pg ct) u lg ((128 + 31) / 32)).1 : Nat) : Int))]), (1, [(.map (some mp))]), (1, [(.slice la' ((sS df dn key 10 (pcB pg ct) u lg ((128 + 31) / 32)).2.1.length) lc')])] :: Ent.row la' ((sS df dn key 10 (pcB pg ct) u lg ((128 + 31) / 32)).2.1.length) lc' 71 67 lx' :: Ent.obj mp .nw (.map (mArr ((sS df dn key 10 (pcB pg ct) u lg ((128 + 31) / 32)).2.1)) ((sS df dn key 10 (pcB pg ct) u lg ((128 + 31) / 32)).2.1.length)) :: Ent.pin (sblks lx') (fun w => Lgs w lx' ((sS df dn key 10 (pcB pg ct) u lg ((128 + 31) / 32)).2.1)) :: Ent.view da (df.map vu8) :: L)) := by
  refine Cs.of (n := 19) (args := [(.pointer (some ⟨ob, 0, none⟩)), (.agg ⟨key.map vu8⟩), (vi ((pg : Nat) : Int)), (vu64 ct), (.agg ⟨pl.map vu8⟩)]) Try.func34 rfl rfl rfl ?_
  refine WP.seq ?_
  refine WP.reg ?_
  refine WL.box (v := (.pointer (some ⟨ob, 0, none⟩))) (segs := [(1, [(.pointer (some ⟨ob, 0, none⟩))])]) h_0 rfl rfl (SsOk.cons (SOk.v rfl) SsOk.nil) rfl (fun b_1 w_2 h_3 => ?_)
  refine WL.box (v := (.agg ⟨key.map vu8⟩)) (segs := [(32, key.map vu8)]) h_3 rfl rfl (SsOk.cons (SOk.u8 hk) SsOk.nil) rfl (fun b_4 w_5 h_6 => ?_)
  refine WL.box (v := (.agg ⟨pl.map vu8⟩)) (segs := [(128, pl.map vu8)]) h_6 rfl rfl (SsOk.cons (SOk.u8 hpl) SsOk.nil) rfl (fun b_7 w_8 h_9 => ?_)
  refine WL.alloc (segs := [(128, (List.replicate 128 (0 : UInt8)).map vu8)]) h_9 (zv Try.typeInfo42 rfl) rfl (SsOk.cons (SOk.u8 (List.length_replicate ..)) SsOk.nil) rfl (fun b_10 w_11 h_12 => ?_)
  refine WL.q (Wn.no rfl) rfl rfl (R.assign (v := (vi 0)) rfl) ?_
  refine WL.nil ?_
  refine thn_n ?_
  refine WP.seq ?_
  refine WP.reg ?_
  refine WL.q (Wn.no rfl) rfl rfl (R.load1 (b := b_1) (off := 0) (v := (.pointer (some ⟨ob, 0, none⟩))) rfl Try.isAgg26 (h_12.ok _ (.tail _ (.tail _ (.tail _ (.head _))))) Sg.h) ?_
  refine WL.q (Wn.no rfl) rfl rfl (R.move (v := (vi ((pg : Nat) : Int))) rfl) ?_
  refine WL.q (Wn.no rfl) rfl rfl (R.move (v := (vu64 ct)) rfl) ?_
  refine WL.q (Wn.no rfl) rfl rfl (R.makeFuncL (fi := []) (ca := [(.pointer (some ⟨b_1, 0, none⟩)), (.pointer (some ⟨b_4, 0, none⟩)), (.pointer (some ⟨b_7, 0, none⟩))]) rfl rfl) ?_
  have h_13 := h_12.up (Pick.t Pick.h)
  have h_14 := h_13.up (Pick.t (Pick.t Pick.h))
  have h_15 := h_14.up (Pick.t (Pick.t (Pick.t Pick.h)))
  have h_16 := h_15.up (Pick.t (Pick.t (Pick.t (Pick.t (Pick.t (Pick.t (Pick.t (Pick.t Pick.h))))))))
  have h_17 := h_16.up (Pick.t (Pick.t (Pick.t (Pick.t (Pick.t (Pick.t (Pick.t (Pick.t Pick.h))))))))
  have h_18 := h_17.up (Pick.t (Pick.t (Pick.t (Pick.t (Pick.t (Pick.t (Pick.t (Pick.t Pick.h))))))))
  have h_19 := h_18.up (Pick.t (Pick.t (Pick.t (Pick.t (Pick.t (Pick.t (Pick.t (Pick.t Pick.h))))))))
  have h_20 := h_19.up (Pick.t (Pick.t (Pick.t (Pick.t (Pick.t (Pick.t (Pick.t (Pick.t Pick.h))))))))
  have h32_w_24 := Lgs.ok32 (h_20.ok _ (.tail _ (.tail _ (.tail _ (.head _))))).1
  refine WL.call (al := [(.pointer (some ⟨ob, 0, none⟩)), (vi ((pg : Nat) : Int)), (vu64 ct), (Value.func (Fn.func 66) [].toArray [(Value.pointer (some ⟨b_1, 0, none⟩)), (Value.pointer (some ⟨b_4, 0, none⟩)), (Value.pointer (some ⟨b_7, 0, none⟩))].toArray)]) Try.call65 rfl rfl (c_withG ob mp ms df hms da dn dc u hdf la lc lx lg (by omega) (by omega) key pl hk hpl b_1 b_4 b_7 pg ct (by omega) hct _ h_20) rfl ?_
  rintro _ w_24 ⟨la_21, lc_22, lx_23, rfl, h_25⟩
  refine WL.q (Wn.no rfl) rfl rfl (R.extract (l := [(.agg ⟨(gx pl (((sS df dn key 10 (pcB pg ct) u lg ((128 + 31) / 32)).2.2).take 128)).map vu8⟩), (vi 0)]) (v := (.agg ⟨(gx pl (((sS df dn key 10 (pcB pg ct) u lg ((128 + 31) / 32)).2.2).take 128)).map vu8⟩)) rfl rfl) ?_
  refine WL.q (Wn.no rfl) rfl rfl (R.extract (l := [(.agg ⟨(gx pl (((sS df dn key 10 (pcB pg ct) u lg ((128 + 31) / 32)).2.2).take 128)).map vu8⟩), (vi 0)]) (v := (vi 0)) rfl rfl) ?_
  refine WL.storeA (b := b_10) (off := 0) [] [(128, (List.replicate 128 (0 : UInt8)).map vu8)] [(128, (gx pl (((sS df dn key 10 (pcB pg ct) u lg ((128 + 31) / 32)).2.2).take 128)).map vu8)] [] (ys := (gx pl (((sS df dn key 10 (pcB pg ct) u lg ((128 + 31) / 32)).2.2).take 128)).map vu8) h_25 rfl rfl Try.sizeOf42 (At.t (At.t (At.t (At.t (At.t (At.t (At.t (At.t At.h)))))))) (by decide) rfl rfl rfl rfl rfl rfl (SsOk.cons (SOk.u8 (gx_len hpl (by rw [List.length_take, sS_len hdf h32_w_24] <;> rfl))) SsOk.nil) (fun w_26 h_27 => ?_)
  refine WL.q (Wn.no rfl) rfl rfl (R.assign (v := (vi 0)) rfl) ?_
  refine WL.nil ?_
  refine thn_n ?_
  refine WP.ret ?_
  refine ret_of Try.results34 (RV.cell rfl (h_27.loadA (cs := (gx pl (((sS df dn key 10 (pcB pg ct) u lg ((128 + 31) / 32)).2.2).take 128)).map vu8) Try.isAgg42 Try.sizeOf42 (.tail _ (.tail _ (.tail _ (.tail _ (.tail _ (.tail _ (.tail _ (.tail _ (.head _))))))))) rfl rfl) (RV.tmp (v := (vi 0)) rfl RV.nil)) ?_
  have h_28 := h_27.up (Pick.t (Pick.t (Pick.t (Pick.t (Pick.t Pick.h)))))
  have h_29 := h_28.drop rfl
  have h_30 := h_29.up (Pick.t (Pick.t (Pick.t (Pick.t (Pick.t Pick.h)))))
  have h_31 := h_30.drop rfl
  have h_32 := h_31.up (Pick.t (Pick.t (Pick.t (Pick.t (Pick.t Pick.h)))))
  have h_33 := h_32.drop rfl
  have h_34 := h_33.up (Pick.t (Pick.t (Pick.t (Pick.t (Pick.t Pick.h)))))
  have h_35 := h_34.drop rfl
  have h_36 := h_35.up (Pick.t (Pick.t (Pick.t (Pick.t Pick.h))))
  have h_37 := h_36.up (Pick.t (Pick.t (Pick.t (Pick.t Pick.h))))
  have h_38 := h_37.up (Pick.t (Pick.t (Pick.t (Pick.t Pick.h))))
  have h_39 := h_38.up (Pick.t (Pick.t (Pick.t (Pick.t Pick.h))))
  have h_40 := h_39.up (Pick.t (Pick.t (Pick.t (Pick.t Pick.h))))
  exact ⟨_, _, _, rfl, h_40⟩
end Go.Proofs.Ytbldmljbfokobaa
