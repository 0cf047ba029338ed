/- Rules for walks and contracts of the functions that the law reaches, one behind the other. Conditions: none beyond what each theorem states. -/
import Derived.Test.YteclkcpdclimnaaZ4BlobMeans
set_option linter.unusedVariables false
set_option linter.unusedSimpArgs false
set_option linter.unusedSectionVars false
namespace Go.Proofs.Yteclkcpdclimnaa
open Go.Proofs.Try
open Go.Vc Go.Orc Go.Sh Go.RowKit
set_option maxRecDepth 20000

theorem c_Mix (p q : List UInt8) (hp : p.length = 128) (hq : q.length = 128) (w : World) :
  Cs Try.prog 28 [(.agg ⟨p.map vu8⟩), (.agg ⟨q.map vu8⟩)].toArray w (fun v w1 => v = (.agg ⟨(gx p q).map vu8⟩) ∧ Chg w w1 []) := by
 refine Cs.of (n := 19) (args := [(.agg ⟨p.map vu8⟩), (.agg ⟨q.map vu8⟩)]) Try.func28 rfl rfl rfl ?_
 have h_0 := HP.init w
 refine WP.seq (WP.reg ?_)
 refine WL.box (segs := [(128, p.map vu8)]) h_0 rfl rfl (sC (s8 hp) sN) rfl (fun b_1 w_2 h_3 => ?_)
 refine WL.box (segs := [(128, q.map vu8)]) h_3 rfl rfl (sC (s8 hq) sN) rfl (fun b_4 w_5 h_6 => ?_)
 refine WL.alloc (segs := [(128, (zB 128).map vu8)]) h_6 (zv typeInfo29 rfl) rfl (sC (s8 lr) sN) rfl (fun b_7 w_8 h_9 => ?_)
 refine WL.nil (thn_n (WP.seq (WP.seq (WP.reg ?_))))
 refine qM (vi 0) rfl rfl ?_
 refine WL.nil (thn_n (WP.block ?_))
 refine WP.loopG (G := Nat) [5, 6, 7, 8, 9, 10, 11, 12, 13, 14, 15, 16, 17] (fun i => [(6, (vn i))]) (fun i m w1 => HP w w1 [.blk b_7 .nw 29 [(128, (zB 128).map vu8)], .blk b_4 .nw 29 [(128, q.map vu8)], .blk b_1 .nw 29 [(128, (Go.Sh.mix (gx p q) p i).map vu8)]] ∧ (i ≤ 128) ∧ m = 128 - i) ⟨0, _, ⟨rfl, trivial⟩, (by rw [Go.Sh.mix_0]; exact h_9), (by omega), rfl⟩ ?_
 rintro i m_12 J_13 w_10 ⟨h_11, hi, rfl⟩
 refine WP.seq (WP.reg ?_)
 refine qV rfl (R.bin rfl rfl (bi_lss (r := decide ((((i : Nat) : Int) : Int) < 128)) rfl)) ?_
 refine WL.nil (thn_n (WP.seq ?_))
 refine WP.cond (b := decide ((((i : Nat) : Int) : Int) < 128)) rfl (fun c_14 => ?_) (fun c_14 => ?_)
 ·have p_15 := of_decide_eq_true c_14
  refine WP.skip (thn_n (WP.seq (WP.block (WP.seq (WP.reg ?_)))))
  refine qM (vn i) rfl rfl (qA (vn i) rfl rfl ?_)
  refine WL.nil (thn_n ?_)
  refine WP.drawZ 8 (SL w.heap.size [.blk b_7 .nw 29 [(128, (zB 128).map vu8)], .blk b_4 .nw 29 [(128, q.map vu8)], .blk b_1 .nw 29 [(128, (Go.Sh.mix (gx p q) p i).map vu8)]]) (.q 0 (.q 1 (.q 2 (.q 3 (.q 4 (.q 5 (.q 6 (.q 7 (.s 8 .nil))))))))) (by kernel_rfl) (by kernel_rfl) rfl (by kernel_rfl) (fun w_16 hc_18 => (SL.cons ((h_11.same hc_18).ok _ M0) (SL.cons ((h_11.same hc_18).ok _ M1) (SL.cons ((h_11.same hc_18).ok _ M2) (SL.nil _ _))))) (fun w_16 hc_18 => ?_)
  have h_17 := h_11.same hc_18
  refine ZT.q rfl (Wn.no rfl) rfl rfl (fun wq hS => R.move (v := (vn i)) rfl) ?_
  refine ZT.q rfl (Wn.no rfl) rfl rfl (fun wq hS => R.indexA (b := b_1) (off := 0) (off' := (0 + i)) (i := i) rfl rfl rfl (by omega) underlying29 sizeOf5 (by rw [Nat.mul_one])) ?_
  refine ZT.q rfl (Wn.no rfl) rfl rfl (fun wq hS => R.loadE (b := b_1) (off := (0 + i)) (i := i) (v := (vu8 ((Go.Sh.mix (gx p q) p i).getD i 0))) rfl isAgg5 (hS _ M2) Sg.h rfl (get_u8 (lt_len (K := 128) (Go.Sh.mix_len (gx_len hp hq) hp) (by omega)))) ?_
  refine ZT.q rfl (Wn.no rfl) rfl rfl (fun wq hS => R.move (v := (vn i)) rfl) ?_
  refine ZT.q rfl (Wn.no rfl) rfl rfl (fun wq hS => R.indexA (b := b_4) (off := 0) (off' := (0 + i)) (i := i) rfl rfl rfl (by omega) underlying29 sizeOf5 (by rw [Nat.mul_one])) ?_
  refine ZT.q rfl (Wn.no rfl) rfl rfl (fun wq hS => R.loadE (b := b_4) (off := (0 + i)) (i := i) (v := (vu8 (q.getD i 0))) rfl isAgg5 (hS _ M1) Sg.h rfl (get_u8 (lt_len (K := 128) hq (by omega)))) ?_
  refine ZT.q rfl (Wn.no rfl) rfl rfl (fun wq hS => R.bin rfl rfl (b8_xor ((Go.Sh.mix (gx p q) p i).getD i 0) (q.getD i 0))) ?_
  refine ZT.q rfl (Wn.no rfl) rfl rfl (fun wq hS => R.indexA (b := b_1) (off := 0) (off' := (0 + i)) (i := i) rfl rfl rfl (by omega) underlying29 sizeOf5 (by rw [Nat.mul_one])) ?_
  refine ZT.s ?_
  refine OpZ.last rfl (Wn.no rfl) ?_
  refine WL.storeE (b := b_1) (off := (0 + i)) (i := i) (v := (vu8 (((Go.Sh.mix (gx p q) p i).getD i 0) ^^^ (q.getD i 0)))) (cs' := ((Go.Sh.mix (gx p q) p i).set i (((Go.Sh.mix (gx p q) p i).getD i 0) ^^^ (q.getD i 0))).map vu8) h_17 rfl rfl sizeOf5 rfl Y2 (by decide) Sg.h rfl (lt_len (K := 128) (len_map (Go.Sh.mix_len (gx_len hp hq) hp)) (by omega)) (set_u8 _ _ _) (fun w_19 h_20 => ?_)
  refine WL.nil (ZT.nil (inb_n (thn_n (WP.reg ?_))))
  refine qV rfl (R.bin rfl rfl (bi_add (c := ((i + 1 : Nat) : Int)) (by omega) (by omega))) (qM (vn (i + 1)) rfl rfl ?_)
  refine WL.nil (thn_n ?_)
  have h_23 := ((h_20.up J2).up J2).up J2
  rw [gx_step hp hq (by omega)] at h_23
  exact ⟨i + 1, _, (by omega), (Ag.upd rfl (U4 rfl rfl rfl rfl (U4 rfl rfl rfl rfl (U4 rfl rfl rfl rfl (Ag.updL rfl (Ag.mix _ _ _)))))), ⟨rfl, trivial⟩, h_23, (by omega), rfl⟩
 ·have p_24 := of_decide_eq_false c_14
  refine WP.exit (thn_x (thn_x (inb_hit (thn_n (WP.seq (WP.reg ?_))))))
  refine qV rfl (R.loadA [] [(128, (Go.Sh.mix (gx p q) p i).map vu8)] [] (cs := (Go.Sh.mix (gx p q) p i).map vu8) rfl isAgg29 sizeOf29 (h_11.ok _ M2) rfl rfl rfl rfl) ?_
  refine WL.storeA [] [(128, (zB 128).map vu8)] [(128, (Go.Sh.mix (gx p q) p i).map vu8)] [] h_11 rfl rfl sizeOf29 At.h (by decide) rfl rfl rfl rfl rfl rfl (sC (s8 (Go.Sh.mix_len (gx_len hp hq) hp)) sN) (fun w_25 h_26 => ?_)
  refine WL.nil (thn_n (WP.ret ?_))
  refine ret_of results28 (RV.cell rfl (h_26.loadA (cs := (Go.Sh.mix (gx p q) p i).map vu8) isAgg29 sizeOf29 M0 rfl rfl) RV.nil) ?_
  have hi2 : i = 128 := by omega
  subst hi2
  exact ⟨by rw [gx_all hp hq]; rfl, h_26.chgS⟩

theorem c_bword (x : UInt64) (w : World) :
  Cs Try.prog 57 [(vu64 x)].toArray w (fun v w1 => ∃ a cap, v = .slice a 8 cap ∧ Chg w w1 [] ∧ Own w.heap.size w1 5 1 a 8 cap ((leN 8 x.toNat).map vu8)) := by
 refine Cs.of (n := 11) (args := [(vu64 x)]) Try.func57 rfl rfl rfl ?_
 have h_0 := HP.init w
 refine WP.seq (WP.reg ?_)
 refine qA (.slice none 0 0) rfl rfl ?_
 refine WL.nil (thn_n (WP.seq (WP.reg ?_)))
 refine qM (vu64 x) rfl rfl ?_
 refine WL.call Try.call61 rfl rfl (c_Put_b x 8 rfl _) rfl ?_
 rintro _ w_3 ⟨a_1, cap_2, rfl, hc_4, ho_5⟩
 have h_6 := h_0.gotRow hc_4 ho_5
 refine qM (.tuple [(.slice a_1 8 cap_2), (vi 0)].toArray) rfl rfl (qV rfl (R.extract rfl rfl) (qV rfl (R.extract rfl rfl) (qA (.slice a_1 8 cap_2) rfl rfl (qA (vi 0) rfl rfl ?_))))
 refine WL.nil (thn_n (WP.seq (WP.reg ?_)))
 refine qM (.slice a_1 8 cap_2) rfl rfl (qA (.slice a_1 8 cap_2) rfl rfl ?_)
 refine WL.nil (thn_n (WP.ret ?_))
 refine ret_of results57 (RV.tmp (v := (.slice a_1 8 cap_2)) rfl RV.nil) ?_
 exact ⟨_, _, rfl, h_6.chgS, h_6.ok _ M0⟩

theorem c_bask_nil (pg : Int) (ct : UInt64) (w : World) :
  Cs Try.prog 55 [(.pointer none), (vi pg), (vu64 ct)].toArray w (fun v w1 => v = (vi 1) ∧ Chg w w1 []) := by
 refine Cs.of (n := 29) (args := [(.pointer none), (vi pg), (vu64 ct)]) Try.func55 rfl rfl rfl ?_
 have h_0 := HP.init w
 refine WP.seq (WP.reg ?_)
 refine qA (vi 0) rfl rfl ?_
 refine WL.nil (thn_n (WP.seq (WP.seq (WP.reg ?_))))
 refine qM (.pointer none) rfl rfl (qV rfl (R.buildS (pl := [(0, 1), (1, 32), (33, 1), (34, 1)]) (zs := [(1, [(vi 0)]), (32, (zB 32).map vu8), (1, [(vi 0)]), (1, [(.slice none 0 0)])]) (vs := []) (out := [(1, [(vi 0)]), (32, (zB 32).map vu8), (1, [(vi 0)]), (1, [(.slice none 0 0)])]) underlying56 (zv typeInfo56 rfl) rfl (sC sV (sC (s8 lr) (sC sV (sC sV sN)))) (pl56 _ underlying56) rfl FillR.nil rfl) ?_)
 refine WL.call Try.call23 rfl rfl (c_oAsk_nil 0 0 (zB 32) none 0 0 lr _ ) rfl ?_
 rintro _ w_3 ⟨rfl, hc_2⟩
 have h_4 := h_0.same hc_2
 refine qM (.tuple [(.agg ⟨(zB 32).map vu8⟩), (vi 1)].toArray) rfl rfl (qV rfl (R.extract rfl rfl) (qV rfl (R.extract rfl rfl) ?_))
 refine WL.alloc (segs := [(32, (zB 32).map vu8)]) h_4 (zv typeInfo23 rfl) rfl (sC (s8 lr) sN) rfl (fun b_5 w_6 h_7 => ?_)
 refine WL.storeA [] [(32, (zB 32).map vu8)] [(32, (zB 32).map vu8)] [] h_7 rfl rfl sizeOf23 At.h (by decide) rfl rfl rfl rfl rfl rfl (sC (s8 lr) sN) (fun w_8 h_9 => ?_)
 refine qA (vi 1) rfl rfl ?_
 refine WL.nil (thn_n (WP.block (WP.seq (WP.reg ?_))))
 refine qM (vi 1) rfl rfl (qV rfl (R.bin rfl rfl (bi_eql (r := true) (by decide))) (qA (.bool true) rfl rfl ?_))
 refine WL.nil (thn_n ?_)
 refine WP.condT rfl ?_
 refine WP.seq (WP.reg ?_)
 refine qA (vi 1) rfl rfl ?_
 refine WL.nil (thn_n (WP.ret (inb_r (thn_r ?_))))
 refine ret_of results55 (RV.tmp (v := (vi 1)) rfl RV.nil) ?_
 exact ⟨rfl, h_9.chgS⟩

theorem c_bask_big (id : Bool) (ob mp : Nat) (ms : List UInt8) (hms : ms.length = 32) (da : Option Addr) (dn dc u : Nat) (la : Option Addr) (ln lc : Nat) (pg : Int) (ct : UInt64) (h : 128 ≤ pg) (w : World) (hcb : (Ent.blk ob .ro 90 [(1, [(.bool id)]), (32, ms.map vu8), (1, [(.slice da dn dc)]), (1, [(vi ((u : Nat) : Int))]), (1, [(.map (some mp))]), (1, [(.slice la ln lc)])]).ok w.heap.size w) :
  Cs Try.prog 55 [(.pointer (some ⟨ob, 0, none⟩)), (vi pg), (vu64 ct)].toArray w (fun v w1 => v = (vi 2) ∧ Chg w w1 []) := by
 refine Cs.of (n := 29) (args := [(pO ob 0), (vi pg), (vu64 ct)]) Try.func55 rfl rfl rfl ?_
 have h_0 := HP.init w
 have h_00 := h_0.old hcb (fun f hf => by cases hf)
 refine WP.seq (WP.reg ?_)
 refine qA (vi 0) rfl rfl ?_
 refine WL.nil (thn_n (WP.seq (WP.seq (WP.reg ?_))))
 refine qM (pO ob 0) rfl rfl (qV rfl (R.buildS (pl := [(0, 1), (1, 32), (33, 1), (34, 1)]) (zs := [(1, [(vi 0)]), (32, (zB 32).map vu8), (1, [(vi 0)]), (1, [(.slice none 0 0)])]) (vs := []) (out := [(1, [(vi 0)]), (32, (zB 32).map vu8), (1, [(vi 0)]), (1, [(.slice none 0 0)])]) underlying56 (zv typeInfo56 rfl) rfl (sC sV (sC (s8 lr) (sC sV (sC sV sN)))) (pl56 _ underlying56) rfl FillR.nil rfl) ?_)
 refine WL.call Try.call23 rfl rfl (c_oAsk_0 id ob mp ms hms da dn dc u la ln lc 0 (zB 32) none 0 0 lr _ (h_00.argR M0)) rfl ?_
 rintro _ w_3 ⟨rfl, hc_2⟩
 have h_4 := h_00.same hc_2
 refine qM (.tuple [(.agg ⟨(zB 32).map vu8⟩), (vi 2)].toArray) rfl rfl (qV rfl (R.extract rfl rfl) (qV rfl (R.extract rfl rfl) ?_))
 refine WL.alloc (segs := [(32, (zB 32).map vu8)]) h_4 (zv typeInfo23 rfl) rfl (sC (s8 lr) sN) rfl (fun b_5 w_6 h_7 => ?_)
 refine WL.storeA [] [(32, (zB 32).map vu8)] [(32, (zB 32).map vu8)] [] h_7 rfl rfl sizeOf23 At.h (by decide) rfl rfl rfl rfl rfl rfl (sC (s8 lr) sN) (fun w_8 h_9 => ?_)
 refine qA (vi 2) rfl rfl ?_
 refine WL.nil (thn_n (WP.block (WP.seq (WP.reg ?_))))
 refine qM (vi 2) rfl rfl (qV rfl (R.bin rfl rfl (bi_eql (r := false) (by decide))) (qA (.bool false) rfl rfl ?_))
 refine WL.nil (thn_n ?_)
 refine WP.condF rfl ?_
 refine WP.seq (WP.reg ?_)
 refine qM (vi pg) rfl rfl (qV rfl (R.bin rfl rfl (bi_lss (r := decide ((pg : Int) < 0)) rfl)) (qM (.bool (decide ((pg : Int) < 0))) rfl rfl ?_))
 refine WL.want rfl (congrArg Value.bool (decide_eq_false (by omega))) ?_
 refine qM (vi pg) rfl rfl ?_
 refine WL.want rfl (congrArg Value.bool (decide_eq_false (by omega))) ?_
 refine qV rfl (R.bin rfl rfl (bi_geq (r := decide ((pg : Int) ≥ 128)) rfl)) (qV rfl (R.pickF (v := (.bool (decide ((pg : Int) ≥ 128)))) (congrArg Value.bool (decide_eq_false (by omega))) rfl) (qM (.bool (decide ((pg : Int) ≥ 128))) rfl rfl ?_))
 refine WL.skip rfl (congrArg Value.bool (decide_eq_true (by omega))) rfl ?_
 refine WL.skip rfl (congrArg Value.bool (decide_eq_true (by omega))) rfl ?_
 refine qV rfl (R.pickT (v := (.bool true)) (congrArg Value.bool (decide_eq_true (by omega))) rfl) (qA (.bool true) rfl rfl ?_)
 refine WL.nil (thn_n ?_)
 refine WP.condT rfl ?_
 refine WP.seq (WP.reg ?_)
 refine qA (vi 2) rfl rfl ?_
 refine WL.nil (thn_n (WP.ret (inb_r (thn_r ?_))))
 refine ret_of results55 (RV.tmp (v := (vi 2)) rfl RV.nil) ?_
 exact ⟨rfl, h_9.chgS⟩

theorem c_bask_ok (id : Bool) (ob mp : Nat) (ms : List UInt8) (hms : ms.length = 32) (da : Option Addr) (dn dc u : Nat) (la : Option Addr) (ln lc : Nat) (pg : Nat) (ct : UInt64) (h : pg < 128) (hct : ¬ ct > 4294967296) (w : World) (hcb : (Ent.blk ob .ro 90 [(1, [(.bool id)]), (32, ms.map vu8), (1, [(.slice da dn dc)]), (1, [(vi ((u : Nat) : Int))]), (1, [(.map (some mp))]), (1, [(.slice la ln lc)])]).ok w.heap.size w) :
  Cs Try.prog 55 [(.pointer (some ⟨ob, 0, none⟩)), (vi ((pg : Nat) : Int)), (vu64 ct)].toArray w (fun v w1 => v = (vi 0) ∧ Chg w w1 []) := by
 refine Cs.of (n := 29) (args := [(pO ob 0), (vn pg), (vu64 ct)]) Try.func55 rfl rfl rfl ?_
 have h_0 := HP.init w
 have h_00 := h_0.old hcb (fun f hf => by cases hf)
 refine WP.seq (WP.reg ?_)
 refine qA (vi 0) rfl rfl ?_
 refine WL.nil (thn_n (WP.seq (WP.seq (WP.reg ?_))))
 refine qM (pO ob 0) rfl rfl (qV rfl (R.buildS (pl := [(0, 1), (1, 32), (33, 1), (34, 1)]) (zs := [(1, [(vi 0)]), (32, (zB 32).map vu8), (1, [(vi 0)]), (1, [(.slice none 0 0)])]) (vs := []) (out := [(1, [(vi 0)]), (32, (zB 32).map vu8), (1, [(vi 0)]), (1, [(.slice none 0 0)])]) underlying56 (zv typeInfo56 rfl) rfl (sC sV (sC (s8 lr) (sC sV (sC sV sN)))) (pl56 _ underlying56) rfl FillR.nil rfl) ?_)
 refine WL.call Try.call23 rfl rfl (c_oAsk_0 id ob mp ms hms da dn dc u la ln lc 0 (zB 32) none 0 0 lr _ (h_00.argR M0)) rfl ?_
 rintro _ w_3 ⟨rfl, hc_2⟩
 have h_4 := h_00.same hc_2
 refine qM (.tuple [(.agg ⟨(zB 32).map vu8⟩), (vi 2)].toArray) rfl rfl (qV rfl (R.extract rfl rfl) (qV rfl (R.extract rfl rfl) ?_))
 refine WL.alloc (segs := [(32, (zB 32).map vu8)]) h_4 (zv typeInfo23 rfl) rfl (sC (s8 lr) sN) rfl (fun b_5 w_6 h_7 => ?_)
 refine WL.storeA [] [(32, (zB 32).map vu8)] [(32, (zB 32).map vu8)] [] h_7 rfl rfl sizeOf23 At.h (by decide) rfl rfl rfl rfl rfl rfl (sC (s8 lr) sN) (fun w_8 h_9 => ?_)
 refine qA (vi 2) rfl rfl ?_
 refine WL.nil (thn_n (WP.block (WP.seq (WP.reg ?_))))
 refine qM (vi 2) rfl rfl (qV rfl (R.bin rfl rfl (bi_eql (r := false) (by decide))) (qA (.bool false) rfl rfl ?_))
 refine WL.nil (thn_n ?_)
 refine WP.condF rfl ?_
 refine WP.seq (WP.reg ?_)
 refine qM (vn pg) rfl rfl (qV rfl (R.bin rfl rfl (bi_lss (r := decide ((((pg : Nat) : Int) : Int) < 0)) rfl)) (qM (.bool (decide ((((pg : Nat) : Int) : Int) < 0))) rfl rfl ?_))
 refine WL.want rfl (congrArg Value.bool (decide_eq_false (by omega))) ?_
 refine qM (vn pg) rfl rfl ?_
 refine WL.want rfl (congrArg Value.bool (decide_eq_false (by omega))) ?_
 refine qV rfl (R.bin rfl rfl (bi_geq (r := decide ((((pg : Nat) : Int) : Int) ≥ 128)) rfl)) (qV rfl (R.pickF (v := (.bool (decide ((((pg : Nat) : Int) : Int) ≥ 128)))) (congrArg Value.bool (decide_eq_false (by omega))) rfl) (qM (.bool (decide ((((pg : Nat) : Int) : Int) ≥ 128))) rfl rfl ?_))
 refine WL.want rfl (congrArg Value.bool (decide_eq_false (by omega))) ?_
 refine qM (vu64 ct) rfl rfl ?_
 refine WL.want rfl (congrArg Value.bool (decide_eq_false (by omega))) ?_
 refine qV rfl (R.bin (v := (.bool (decide ((ct : UInt64) > 4294967296)))) rfl rfl (b64_gtr ct 4294967296 (r := decide ((ct : UInt64) > 4294967296)) rfl)) (qV rfl (R.pickF (v := (.bool (decide ((ct : UInt64) > 4294967296)))) (congrArg Value.bool (decide_eq_false (by omega))) rfl) (qA (.bool (decide ((ct : UInt64) > 4294967296))) rfl rfl ?_))
 refine WL.nil (thn_n ?_)
 refine WP.condF (congrArg Value.bool (decide_eq_false hct)) ?_
 refine WP.skip (inb_n (thn_n (WP.seq (WP.reg ?_))))
 refine qA (vi 0) rfl rfl ?_
 refine WL.nil (thn_n (WP.ret ?_))
 refine ret_of results55 (RV.tmp (v := (vi 0)) rfl RV.nil) ?_
 exact ⟨rfl, h_9.chgS⟩

theorem c_Seal1 {w00 : World} {L : List Ent} (id : Bool) (ob mp : Nat) (ms df : List UInt8) (hms : ms.length = 32) (da : Option Addr) (dn dc u : Nat) (hdf : df.length = 32 * dn) (la : Option Addr) (lc : Nat) (lx : List Value) (lg : Lg) (hu : u ≤ 500000) (hlg : lg.length ≤ 500000) (data : List UInt8) (qa : Option Addr) (qn qc : Nat) (hdl : data.length = qn) (hqn : qn ≤ 100000) (key pl : List UInt8) (hk : key.length = 32) (hpl : pl.length = 128) (b1 b2 b3 : Nat) (w : World) (h_0 : HP w00 w (Ent.blk ob .nw 90 [(1, [(.bool id)]), (32, ms.map vu8), (1, [(.slice da dn dc)]), (1, [(vi ((u : Nat) : Int))]), (1, [(.map (some mp))]), (1, [(.slice la lg.length lc)])] :: Ent.row la lg.length lc 64 67 lx :: Ent.obj mp .nw (.map (mArr lg) lg.length) :: Ent.pin (sblks lx) (fun w => Lgs w lx lg) :: Ent.view da (df.map vu8) :: Ent.view qa (data.map vu8) :: Ent.blk b1 .nw 32 [(1, [(.pointer (some ⟨ob, 0, none⟩))])] :: Ent.blk b2 .nw 23 [(32, key.map vu8)] :: Ent.blk b3 .nw 29 [(128, pl.map vu8)] :: L)) :
  Cs Try.prog 30 [(.slice qa qn qc), (.pointer (some ⟨b1, 0, none⟩)), (.pointer (some ⟨b2, 0, none⟩)), (.pointer (some ⟨b3, 0, none⟩))].toArray w (fun v w1 => ∃ la' lc' lx', v = (.tuple [(.agg ⟨(gx pl (gSt id df dn key 10 data u lg).2.2).map vu8⟩), (vi 0)].toArray) ∧ HP w00 w1 (Ent.blk ob .nw 90 [(1, [(.bool id)]), (32, ms.map vu8), (1, [(.slice da dn dc)]), (1, [(vi (((gSt id df dn key 10 data u lg).1 : Nat) : Int))]), (1, [(.map (some mp))]), (1, [(.slice la' ((gSt id df dn key 10 data u lg).2.1.length) lc')])] :: Ent.row la' ((gSt id df dn key 10 data u lg).2.1.length) lc' 64 67 lx' :: Ent.obj mp .nw (.map (mArr ((gSt id df dn key 10 data u lg).2.1)) ((gSt id df dn key 10 data u lg).2.1.length)) :: Ent.pin (sblks lx') (fun w => Lgs w lx' ((gSt id df dn key 10 data u lg).2.1)) :: Ent.view da (df.map vu8) :: Ent.view qa (data.map vu8) :: Ent.blk b1 .nw 32 [(1, [(.pointer (some ⟨ob, 0, none⟩))])] :: Ent.blk b2 .nw 23 [(32, key.map vu8)] :: Ent.blk b3 .nw 29 [(128, pl.map vu8)] :: L)) := by
 refine Cs.of (n := 26) (args := [(.slice qa qn qc), (pO b1 0), (pO b2 0), (pO b3 0)]) Try.func30 rfl rfl rfl ?_
 refine WP.seq (WP.reg ?_)
 refine WL.alloc (segs := [(128, (zB 128).map vu8)]) h_0 (zv typeInfo29 rfl) rfl (sC (s8 lr) sN) rfl (fun b_1 w_2 h_3 => ?_)
 refine qA (vi 0) rfl rfl ?_
 refine WL.nil (thn_n (WP.seq (WP.reg ?_)))
 refine qV rfl (R.load1 rfl isAgg32 (h_3.ok _ M7) Sg.h) (qV rfl (R.loadA [] [(32, key.map vu8)] [] (cs := key.map vu8) rfl isAgg23 sizeOf23 (h_3.ok _ M8) rfl rfl rfl rfl) (qM (.slice qa qn qc) rfl rfl (qV rfl (R.buildS (pl := [(0, 1), (1, 32), (33, 1), (34, 1)]) (zs := [(1, [(vi 0)]), (32, (zB 32).map vu8), (1, [(vi 0)]), (1, [(.slice none 0 0)])]) (vs := [(0, (vi 4)), (1, (.agg ⟨key.map vu8⟩)), (2, (vi 10)), (3, (.slice qa qn qc))]) (out := [(1, [(vi 4)]), (32, key.map vu8), (1, [(vi 10)]), (1, [(.slice qa qn qc)])]) underlying56 (zv typeInfo56 rfl) rfl (sC sV (sC (s8 lr) (sC sV (sC sV sN)))) (pl56 _ underlying56) rfl (FillR.cons [] [(1, [(vi 0)])] [(1, [(vi 4)])] [(32, (zB 32).map vu8), (1, [(vi 0)]), (1, [(.slice none 0 0)])] rfl rfl rfl rfl (sC sV sN) rfl rfl rfl (FillR.cons [(1, [(vi 4)])] [(32, (zB 32).map vu8)] [(32, key.map vu8)] [(1, [(vi 0)]), (1, [(.slice none 0 0)])] rfl rfl rfl rfl (sC (s8 hk) sN) rfl rfl rfl (FillR.cons [(1, [(vi 4)]), (32, key.map vu8)] [(1, [(vi 0)])] [(1, [(vi 10)])] [(1, [(.slice none 0 0)])] rfl rfl rfl rfl (sC sV sN) rfl rfl rfl (FillR.cons [(1, [(vi 4)]), (32, key.map vu8), (1, [(vi 10)])] [(1, [(.slice none 0 0)])] [(1, [(.slice qa qn qc)])] [] rfl rfl rfl rfl (sC sV sN) rfl rfl rfl FillR.nil)))) rfl) ?_)))
 have h_10 := (((((h_3.up J6).up J6).up J6).up J6).up J6).up J6
 have h32_w_15 := Lgs.ok32 (h_10.ok _ M3).1
 refine WL.call Try.call31 rfl rfl (c_gStream id ob mp ms df hms da dn dc u hdf la lc lx lg (by omega) (by omega) 10 key data qa qn qc hk (by omega) hdl (by omega) _ h_10) rfl ?_
 rintro _ w_15 ⟨a_11, la_12, lc_13, lx_14, rfl, h_16⟩
 refine qM (.tuple [(.slice a_11 128 128), (vi 0)].toArray) rfl rfl (qV rfl (R.extract rfl rfl) (qV rfl (R.extract rfl rfl) (qA (.slice a_11 128 128) rfl rfl (qA (vi 0) rfl rfl ?_))))
 refine WL.nil (thn_n (WP.seq (WP.seq (WP.reg ?_))))
 refine qM (vi 0) rfl rfl (qV rfl (R.bin rfl rfl (bi_neq (r := false) (by decide))) ?_)
 refine WL.nil (thn_n ?_)
 refine WP.condF rfl ?_
 refine WP.skip (thn_n (WP.seq ?_))
 refine WP.cutG (G := Nat) [6, 21, 22, 23, 24, 25] (fun bY4Y2Y0Y0 => [(6, (vi 0)), (22, (.slice (some ⟨bY4Y2Y0Y0, 0, none⟩) 128 128)), (23, (.pointer (some (gA (some ⟨bY4Y2Y0Y0, 0, none⟩) 0)))), (21, (.agg ⟨pl.map vu8⟩)), (24, (.agg ⟨((gSt id df dn key 10 data u lg).2.2).map vu8⟩)), (25, (.agg ⟨(gx pl ((gSt id df dn key 10 data u lg).2.2)).map vu8⟩))]) (fun bY4Y2Y0Y0 w1 => HP w00 w1 (Ent.row (some ⟨bY4Y2Y0Y0, 0, none⟩) 128 128 5 1 (((gSt id df dn key 10 data u lg).2.2).map vu8) :: Ent.blk ob .nw 90 [(1, [(.bool id)]), (32, ms.map vu8), (1, [(.slice da dn dc)]), (1, [(vn ((gSt id df dn key 10 data u lg).1))]), (1, [(.map (some mp))]), (1, [(.slice la_12 ((gSt id df dn key 10 data u lg).2.1.length) lc_13)])] :: Ent.row la_12 ((gSt id df dn key 10 data u lg).2.1.length) lc_13 64 67 lx_14 :: Ent.obj mp .nw (.map (mArr ((gSt id df dn key 10 data u lg).2.1)) ((gSt id df dn key 10 data u lg).2.1.length)) :: Ent.pin (sblks lx_14) (fun w => Lgs w lx_14 ((gSt id df dn key 10 data u lg).2.1)) :: Ent.view da (df.map vu8) :: Ent.view qa (data.map vu8) :: Ent.blk b_1 .nw 29 [(128, (gx pl ((gSt id df dn key 10 data u lg).2.2)).map vu8)] :: Ent.blk b1 .nw 32 [(1, [(pO ob 0)])] :: Ent.blk b2 .nw 23 [(32, key.map vu8)] :: Ent.blk b3 .nw 29 [(128, pl.map vu8)] :: L)) ?_ ?_
 ·refine WP.drawT (SL w00.heap.size []) (.q 1 (.q 2 (.s2 0 3 (.s 3 (.s 4 (.s 5 (.q 6 .nil)))) (.s 0 (.s 4 (.s 5 (.q 6 .nil))))))) (by kernel_rfl) (by kernel_rfl) rfl (by kernel_rfl) (fun w_17 hc_19 => (SL.nil _ _)) (fun w_17 hc_19 => ?_)
  have h_18 := h_16.same hc_19
  refine qT rfl rfl (fun wq hS => R.move (v := (.slice a_11 128 128)) rfl) ?_
  obtain ⟨b_20, rr_21, ha_22, hb_23, hc_24⟩ := Own.open (h_18.own M0) (by decide)
  subst ha_22
  refine qT rfl rfl (fun wq hS => R.s2ap (a := (some ⟨b_20, 0, none⟩)) (k := 128) rfl underlying29 (by decide)) ?_
  refine WT.s2 ?_ ?_
  ·refine oN rfl ?_
   refine qV rfl (R.loadA [] [(128, pl.map vu8)] [] (cs := pl.map vu8) rfl isAgg29 sizeOf29 (h_18.ok _ M10) rfl rfl rfl rfl) ?_
   refine WL.nil ?_
   refine ⟨(SL.nil _ _), ?_⟩
   refine WT.s (oN rfl ?_)
   refine qV rfl (R.loadGA (a := (some ⟨b_20, 0, none⟩)) (i := 0) (xs := ((gSt id df dn key 10 data u lg).2.2).map vu8) (cs := ((gSt id df dn key 10 data u lg).2.2).map vu8) rfl (ownView (h_18.ok _ M0)) isAgg29 sizeOf29 (by rw [List.drop_zero, List.take_of_length_le (by rw [len_map (gSt_len hdf h32_w_15)]; exact Nat.le_refl _)]) (len_map (gSt_len hdf h32_w_15)) (by decide)) ?_
   refine WL.nil ?_
   refine ⟨(SL.nil _ _), ?_⟩
   refine WT.s (oN rfl ?_)
   refine WL.call Try.call28 rfl rfl (c_Mix pl ((gSt id df dn key 10 data u lg).2.2) hpl (gSt_len hdf h32_w_15) _ ) rfl ?_
   rintro _ w_26 ⟨rfl, hc_25⟩
   have h_27 := h_18.same hc_25
   refine WL.nil ?_
   refine ⟨(SL.nil _ _), ?_⟩
   refine WT.s (oN rfl ?_)
   refine WL.storeA [] [(128, (zB 128).map vu8)] [(128, (gx pl ((gSt id df dn key 10 data u lg).2.2)).map vu8)] [] h_27 rfl rfl sizeOf29 Y7 (by decide) rfl rfl rfl rfl rfl rfl (sC (s8 (gx_len hpl (gSt_len hdf h32_w_15))) sN) (fun w_28 h_29 => ?_)
   refine WL.nil ?_
   refine ⟨(SL.nil _ _), ?_⟩
   refine qT rfl rfl (fun wq hS => R.assign (v := (vi 0)) rfl) ?_
   refine WT.nil (thn_n ?_)
   exact ⟨b_20, (U2 rfl rfl (U4 rfl rfl rfl rfl (Ag.refl _ _))), ⟨rfl, rfl, rfl, rfl, rfl, rfl, trivial⟩, h_29⟩
  ·refine oN rfl ?_
   refine qV rfl (R.loadGA (a := (some ⟨b_20, 0, none⟩)) (i := 0) (xs := ((gSt id df dn key 10 data u lg).2.2).map vu8) (cs := ((gSt id df dn key 10 data u lg).2.2).map vu8) rfl (ownView (h_18.ok _ M0)) isAgg29 sizeOf29 (by rw [List.drop_zero, List.take_of_length_le (by rw [len_map (gSt_len hdf h32_w_15)]; exact Nat.le_refl _)]) (len_map (gSt_len hdf h32_w_15)) (by decide)) ?_
   refine WL.nil ?_
   refine ⟨(SL.nil _ _), ?_⟩
   refine WT.s (oN rfl ?_)
   refine qV rfl (R.loadA [] [(128, pl.map vu8)] [] (cs := pl.map vu8) rfl isAgg29 sizeOf29 (h_18.ok _ M10) rfl rfl rfl rfl) ?_
   refine WL.nil ?_
   refine ⟨(SL.nil _ _), ?_⟩
   refine WT.s (oN rfl ?_)
   refine WL.call Try.call28 rfl rfl (c_Mix pl ((gSt id df dn key 10 data u lg).2.2) hpl (gSt_len hdf h32_w_15) _ ) rfl ?_
   rintro _ w_31 ⟨rfl, hc_30⟩
   have h_32 := h_18.same hc_30
   refine WL.nil ?_
   refine ⟨(SL.nil _ _), ?_⟩
   refine WT.s (oN rfl ?_)
   refine WL.storeA [] [(128, (zB 128).map vu8)] [(128, (gx pl ((gSt id df dn key 10 data u lg).2.2)).map vu8)] [] h_32 rfl rfl sizeOf29 Y7 (by decide) rfl rfl rfl rfl rfl rfl (sC (s8 (gx_len hpl (gSt_len hdf h32_w_15))) sN) (fun w_33 h_34 => ?_)
   refine WL.nil ?_
   refine ⟨(SL.nil _ _), ?_⟩
   refine qT rfl rfl (fun wq hS => R.assign (v := (vi 0)) rfl) ?_
   refine WT.nil (thn_n ?_)
   exact ⟨b_20, (U2 rfl rfl (U4 rfl rfl rfl rfl (Ag.refl _ _))), ⟨rfl, rfl, rfl, rfl, rfl, rfl, trivial⟩, h_34⟩
 ·rintro b_38 J_35 w_36 h_37
  refine thn_n (WP.ret ?_)
  refine ret_of results30 (RV.cell rfl (h_37.loadA (cs := (gx pl ((gSt id df dn key 10 data u lg).2.2)).map vu8) isAgg29 sizeOf29 M7 rfl rfl) (RV.tmp (v := (vi 0)) rfl RV.nil)) ?_
  have h_50 := (((((((((((h_37.drop rfl).up J6).drop rfl).up J8).up J8).up J8).up J8).up J8).up J8).up J8).up J8).up J8
  exact ⟨_, _, _, rfl, h_50⟩

theorem c_withG_nil (pg : Int) (ct : UInt64) (fv : Value) (w : World) :
  Cs Try.prog 29 [(.pointer none), (vi pg), (vu64 ct), fv].toArray w (fun v w1 => v = (.tuple [(.agg ⟨(List.replicate 128 (0 : UInt8)).map vu8⟩), (vi 1)].toArray) ∧ Chg w w1 []) := by
 refine Cs.of (n := 30) (args := [(.pointer none), (vi pg), (vu64 ct), fv]) Try.func29 rfl rfl rfl ?_
 have h_0 := HP.init w
 refine WP.seq (WP.reg ?_)
 refine WL.alloc (segs := [(128, (zB 128).map vu8)]) h_0 (zv typeInfo29 rfl) rfl (sC (s8 lr) sN) rfl (fun b_1 w_2 h_3 => ?_)
 refine qA (vi 0) rfl rfl ?_
 refine WL.nil (thn_n (WP.seq (WP.seq (WP.reg ?_))))
 refine qM (.pointer none) rfl rfl (qM (vi pg) rfl rfl (qM (vu64 ct) rfl rfl ?_))
 refine WL.call Try.call55 rfl rfl (c_bask_nil pg ct _ ) rfl ?_
 rintro _ w_5 ⟨rfl, hc_4⟩
 have h_6 := h_3.same hc_4
 refine qA (vi 1) rfl rfl ?_
 refine WL.nil (thn_n (WP.seq (WP.reg ?_)))
 refine qM (vi 1) rfl rfl (qV rfl (R.bin rfl rfl (bi_neq (r := true) (by decide))) ?_)
 refine WL.nil (thn_n ?_)
 refine WP.condT rfl ?_
 refine WP.seq (WP.reg ?_)
 refine qV rfl (R.loadA [] [(128, (zB 128).map vu8)] [] (cs := (zB 128).map vu8) rfl isAgg29 sizeOf29 (h_6.ok _ M0) rfl rfl rfl rfl) (qM (vi 1) rfl rfl ?_)
 refine WL.storeA [] [(128, (zB 128).map vu8)] [(128, (zB 128).map vu8)] [] h_6 rfl rfl sizeOf29 At.h (by decide) rfl rfl rfl rfl rfl rfl (sC (s8 lr) sN) (fun w_7 h_8 => ?_)
 refine qA (vi 1) rfl rfl ?_
 refine WL.nil (thn_n (WP.ret (thn_r ?_)))
 refine ret_of results29 (RV.cell rfl (h_8.loadA (cs := (zB 128).map vu8) isAgg29 sizeOf29 M0 rfl rfl) (RV.tmp (v := (vi 1)) rfl RV.nil)) ?_
 exact ⟨rfl, h_8.chgS⟩

theorem c_withG_big (id : Bool) (ob mp : Nat) (ms : List UInt8) (hms : ms.length = 32) (da : Option Addr) (dn dc u : Nat) (la : Option Addr) (ln lc : Nat) (pg : Int) (ct : UInt64) (fv : Value) (h : 128 ≤ pg) (w : World) (hcb : (Ent.blk ob .ro 90 [(1, [(.bool id)]), (32, ms.map vu8), (1, [(.slice da dn dc)]), (1, [(vi ((u : Nat) : Int))]), (1, [(.map (some mp))]), (1, [(.slice la ln lc)])]).ok w.heap.size w) :
  Cs Try.prog 29 [(.pointer (some ⟨ob, 0, none⟩)), (vi pg), (vu64 ct), fv].toArray w (fun v w1 => v = (.tuple [(.agg ⟨(List.replicate 128 (0 : UInt8)).map vu8⟩), (vi 2)].toArray) ∧ Chg w w1 []) := by
 refine Cs.of (n := 30) (args := [(pO ob 0), (vi pg), (vu64 ct), fv]) Try.func29 rfl rfl rfl ?_
 have h_0 := HP.init w
 have h_00 := h_0.old hcb (fun f hf => by cases hf)
 refine WP.seq (WP.reg ?_)
 refine WL.alloc (segs := [(128, (zB 128).map vu8)]) h_00 (zv typeInfo29 rfl) rfl (sC (s8 lr) sN) rfl (fun b_1 w_2 h_3 => ?_)
 refine qA (vi 0) rfl rfl ?_
 refine WL.nil (thn_n (WP.seq (WP.seq (WP.reg ?_))))
 refine qM (pO ob 0) rfl rfl (qM (vi pg) rfl rfl (qM (vu64 ct) rfl rfl ?_))
 refine WL.call Try.call55 rfl rfl (c_bask_big id ob mp ms hms da dn dc u la ln lc pg ct (by omega) _ (h_3.argR M1)) rfl ?_
 rintro _ w_5 ⟨rfl, hc_4⟩
 have h_6 := h_3.same hc_4
 refine qA (vi 2) rfl rfl ?_
 refine WL.nil (thn_n (WP.seq (WP.reg ?_)))
 refine qM (vi 2) rfl rfl (qV rfl (R.bin rfl rfl (bi_neq (r := true) (by decide))) ?_)
 refine WL.nil (thn_n ?_)
 refine WP.condT rfl ?_
 refine WP.seq (WP.reg ?_)
 refine qV rfl (R.loadA [] [(128, (zB 128).map vu8)] [] (cs := (zB 128).map vu8) rfl isAgg29 sizeOf29 (h_6.ok _ M0) rfl rfl rfl rfl) (qM (vi 2) rfl rfl ?_)
 refine WL.storeA [] [(128, (zB 128).map vu8)] [(128, (zB 128).map vu8)] [] h_6 rfl rfl sizeOf29 At.h (by decide) rfl rfl rfl rfl rfl rfl (sC (s8 lr) sN) (fun w_7 h_8 => ?_)
 refine qA (vi 2) rfl rfl ?_
 refine WL.nil (thn_n (WP.ret (thn_r ?_)))
 refine ret_of results29 (RV.cell rfl (h_8.loadA (cs := (zB 128).map vu8) isAgg29 sizeOf29 M0 rfl rfl) (RV.tmp (v := (vi 2)) rfl RV.nil)) ?_
 exact ⟨rfl, h_8.chgS⟩

theorem c_withG {w00 : World} {L : List Ent} (id : Bool) (ob mp : Nat) (ms df : List UInt8) (hms : ms.length = 32) (da : Option Addr) (dn dc u : Nat) (hdf : df.length = 32 * dn) (la : Option Addr) (lc : Nat) (lx : List Value) (lg : Lg) (hu : u ≤ 500000) (hlg : lg.length ≤ 500000) (key pl : List UInt8) (hk : key.length = 32) (hpl : pl.length = 128) (b1 b2 b3 : Nat) (pg : Nat) (ct : UInt64) (h : pg < 128) (hct : ¬ ct > 4294967296) (w : World) (h_0 : HP w00 w (Ent.blk ob .nw 90 [(1, [(.bool id)]), (32, ms.map vu8), (1, [(.slice da dn dc)]), (1, [(vi ((u : Nat) : Int))]), (1, [(.map (some mp))]), (1, [(.slice la lg.length lc)])] :: Ent.row la lg.length lc 64 67 lx :: Ent.obj mp .nw (.map (mArr lg) lg.length) :: Ent.pin (sblks lx) (fun w => Lgs w lx lg) :: Ent.view da (df.map vu8) :: Ent.blk b1 .nw 32 [(1, [(.pointer (some ⟨ob, 0, none⟩))])] :: Ent.blk b2 .nw 23 [(32, key.map vu8)] :: Ent.blk b3 .nw 29 [(128, pl.map vu8)] :: L)) :
  Cs Try.prog 29 [(.pointer (some ⟨ob, 0, none⟩)), (vi ((pg : Nat) : Int)), (vu64 ct), (Value.func (Fn.func 30) [].toArray [(Value.pointer (some ⟨b1, 0, none⟩)), (Value.pointer (some ⟨b2, 0, none⟩)), (Value.pointer (some ⟨b3, 0, none⟩))].toArray)].toArray w (fun v w1 => ∃ la' lc' lx', v = (.tuple [(.agg ⟨(gx pl (gSt id df dn key 10 (pcB pg ct) u lg).2.2).map vu8⟩), (vi 0)].toArray) ∧ HP w00 w1 (Ent.blk ob .nw 90 [(1, [(.bool id)]), (32, ms.map vu8), (1, [(.slice da dn dc)]), (1, [(vi (((gSt id df dn key 10 (pcB pg ct) u lg).1 : Nat) : Int))]), (1, [(.map (some mp))]), (1, [(.slice la' ((gSt id df dn key 10 (pcB pg ct) u lg).2.1.length) lc')])] :: Ent.row la' ((gSt id df dn key 10 (pcB pg ct) u lg).2.1.length) lc' 64 67 lx' :: Ent.obj mp .nw (.map (mArr ((gSt id df dn key 10 (pcB pg ct) u lg).2.1)) ((gSt id df dn key 10 (pcB pg ct) u lg).2.1.length)) :: Ent.pin (sblks lx') (fun w => Lgs w lx' ((gSt id df dn key 10 (pcB pg ct) u lg).2.1)) :: Ent.view da (df.map vu8) :: Ent.blk b1 .nw 32 [(1, [(.pointer (some ⟨ob, 0, none⟩))])] :: Ent.blk b2 .nw 23 [(32, key.map vu8)] :: Ent.blk b3 .nw 29 [(128, pl.map vu8)] :: L)) := by
 refine Cs.of (n := 30) (args := [(pO ob 0), (vn pg), (vu64 ct), (Value.func (Fn.func 30) [].toArray [(Value.pointer (some ⟨b1, 0, none⟩)), (Value.pointer (some ⟨b2, 0, none⟩)), (Value.pointer (some ⟨b3, 0, none⟩))].toArray)]) Try.func29 rfl rfl rfl ?_
 refine WP.seq (WP.reg ?_)
 refine WL.alloc (segs := [(128, (zB 128).map vu8)]) h_0 (zv typeInfo29 rfl) rfl (sC (s8 lr) sN) rfl (fun b_1 w_2 h_3 => ?_)
 refine qA (vi 0) rfl rfl ?_
 refine WL.nil (thn_n (WP.seq (WP.seq (WP.reg ?_))))
 refine qM (pO ob 0) rfl rfl (qM (vn pg) rfl rfl (qM (vu64 ct) rfl rfl ?_))
 refine WL.call Try.call55 rfl rfl (c_bask_ok id ob mp ms hms da dn dc u la lg.length lc pg ct (by omega) hct _ (h_3.argR M1)) rfl ?_
 rintro _ w_5 ⟨rfl, hc_4⟩
 have h_6 := h_3.same hc_4
 refine qA (vi 0) rfl rfl ?_
 refine WL.nil (thn_n (WP.seq (WP.reg ?_)))
 refine qM (vi 0) rfl rfl (qV rfl (R.bin rfl rfl (bi_neq (r := false) (by decide))) ?_)
 refine WL.nil (thn_n ?_)
 refine WP.condF rfl ?_
 refine WP.skip (thn_n (WP.seq (WP.reg ?_)))
 refine qM (Value.func (Fn.func 30) [].toArray [(Value.pointer (some ⟨b1, 0, none⟩)), (Value.pointer (some ⟨b2, 0, none⟩)), (Value.pointer (some ⟨b3, 0, none⟩))].toArray) rfl rfl (qM (vn pg) rfl rfl (qV rfl (R.conv (b := ((UInt64.ofNat pg) : UInt64).toNat) rfl underlying3 underlying27 (w64_nat pg)) ?_))
 refine WL.call Try.call57 rfl rfl (c_bword (UInt64.ofNat pg) _) rfl ?_
 rintro _ w_9 ⟨a_7, cap_8, rfl, hc_10, ho_11⟩
 have h_12 := h_6.gotRow hc_10 ho_11
 refine qM (vu64 ct) rfl rfl ?_
 refine WL.call Try.call57 rfl rfl (c_bword ct _) rfl ?_
 rintro _ w_15 ⟨a_13, cap_14, rfl, hc_16, ho_17⟩
 have h_18 := h_12.gotRow hc_16 ho_17
 refine WL.buildSl (vs := [(0, (.slice a_7 8 cap_8)), (1, (.slice a_13 8 cap_14))]) (cs := [(.slice a_7 8 cap_8), (.slice a_13 8 cap_14)]) h_18 underlying101 sizeOf54 (zv typeInfo54 rfl) rfl rfl (by kernel_rfl) rfl (by simp [Value.oneCell']) rfl rfl (fun b_19 w_20 h_21 => ?_)
 refine WL.call Try.call56 rfl rfl (c_wJoin (some ⟨b_19, 0, none⟩) 2 2 [(.slice a_7 8 cap_8), (.slice a_13 8 cap_14)] [leN 8 (UInt64.ofNat pg).toNat, leN 8 ct.toNat] rfl (by have := pcB_len pg ct; simp only [pcB] at this; omega) (by omega) _ (viewB (h_21.ok _ M0) Sg.h) (Sls.cons (leN_len ..) (h_21.own M2).2.2.1 (ownView (h_21.ok _ M2)) (Sls.cons (leN_len ..) (h_21.own M1).2.2.1 (ownView (h_21.ok _ M1)) Sls.nil))) rfl ?_
 rintro _ w_24 ⟨a_22, cap_23, rfl, hc_25, ho_26⟩
 have h_27 := h_21.gotRow hc_25 ho_26
 have h_28 := h_27.rowView
 have h_37 := ((((((((h_28.up J12).up J12).up J12).up J3).up J12).up J12).up J12).up J12).up J12
 have h32_w_41 := Lgs.ok32 (h_37.ok _ M3).1
 refine WL.call Try.call30 rfl rfl (c_Seal1 id ob mp ms df hms da dn dc u hdf la lc lx lg (by omega) (by omega) ([leN 8 (UInt64.ofNat pg).toNat, leN 8 ct.toNat].flatten) a_22 ([leN 8 (UInt64.ofNat pg).toNat, leN 8 ct.toNat].flatten.length) cap_23 (rfl : List.length ([leN 8 (UInt64.ofNat pg).toNat, leN 8 ct.toNat].flatten) = [leN 8 (UInt64.ofNat pg).toNat, leN 8 ct.toNat].flatten.length) (by have := pcB_len pg ct; simp only [pcB] at this; omega) key pl hk hpl b1 b2 b3 _ h_37) rfl ?_
 rintro _ w_41 ⟨la_38, lc_39, lx_40, rfl, h_42⟩
 refine qV rfl (R.extract rfl rfl) (qV rfl (R.extract rfl rfl) ?_)
 refine WL.storeA [] [(128, (zB 128).map vu8)] [(128, (gx pl (gSt id df dn key 10 ([leN 8 (UInt64.ofNat pg).toNat, leN 8 ct.toNat].flatten) u lg).2.2).map vu8)] [] h_42 rfl rfl sizeOf29 Y12 (by decide) rfl rfl rfl rfl rfl rfl (sC (s8 (gx_len hpl (gSt_len hdf h32_w_41))) sN) (fun w_43 h_44 => ?_)
 refine qA (vi 0) rfl rfl ?_
 refine WL.nil (thn_n (WP.ret ?_))
 refine ret_of results29 (RV.cell rfl (h_44.loadA (cs := (gx pl (gSt id df dn key 10 ([leN 8 (UInt64.ofNat pg).toNat, leN 8 ct.toNat].flatten) u lg).2.2).map vu8) isAgg29 sizeOf29 M12 rfl rfl) (RV.tmp (v := (vi 0)) rfl RV.nil)) ?_
 have h_62 := (((((((((((((((((h_44.up J5).drop rfl).up J8).drop rfl).up J8).drop rfl).up J8).drop rfl).up J8).drop rfl).up J7).up J7).up J7).up J7).up J7).up J7).up J7).up J7
 exact ⟨_, _, _, rfl, h_62⟩

theorem c_Seal_nil (key pl : List UInt8) (hk : key.length = 32) (hpl : pl.length = 128) (pg : Int) (ct : UInt64) (w : World) :
  Cs Try.prog 9 [(.pointer none), (.agg ⟨key.map vu8⟩), (vi pg), (vu64 ct), (.agg ⟨pl.map vu8⟩)].toArray w (fun v w1 => v = (.tuple [(.agg ⟨(List.replicate 128 (0 : UInt8)).map vu8⟩), (vi 1)].toArray) ∧ Chg w w1 []) := by
 refine Cs.of (n := 19) (args := [(.pointer none), (.agg ⟨key.map vu8⟩), (vi pg), (vu64 ct), (.agg ⟨pl.map vu8⟩)]) Try.func9 rfl rfl rfl ?_
 have h_0 := HP.init w
 refine WP.seq (WP.reg ?_)
 refine WL.box (segs := [(1, [(.pointer none)])]) h_0 rfl rfl (sC sV sN) rfl (fun b_1 w_2 h_3 => ?_)
 refine WL.box (segs := [(32, key.map vu8)]) h_3 rfl rfl (sC (s8 hk) sN) rfl (fun b_4 w_5 h_6 => ?_)
 refine WL.box (segs := [(128, pl.map vu8)]) h_6 rfl rfl (sC (s8 hpl) sN) rfl (fun b_7 w_8 h_9 => ?_)
 refine WL.alloc (segs := [(128, (zB 128).map vu8)]) h_9 (zv typeInfo29 rfl) rfl (sC (s8 lr) sN) rfl (fun b_10 w_11 h_12 => ?_)
 refine qA (vi 0) rfl rfl ?_
 refine WL.nil (thn_n (WP.seq (WP.reg ?_)))
 refine qV rfl (R.load1 rfl isAgg32 (h_12.ok _ M3) Sg.h) (qM (vi pg) rfl rfl (qM (vu64 ct) rfl rfl (qV rfl (R.makeFuncL (fi := []) (ca := [(pO b_1 0), (pO b_4 0), (pO b_7 0)]) rfl rfl) ?_)))
 refine WL.call Try.call29 rfl rfl (c_withG_nil pg ct (Value.func (Fn.func 30) [].toArray [(Value.pointer (some ⟨b_1, 0, none⟩)), (Value.pointer (some ⟨b_4, 0, none⟩)), (Value.pointer (some ⟨b_7, 0, none⟩))].toArray) _ ) rfl ?_
 rintro _ w_14 ⟨rfl, hc_13⟩
 have h_15 := h_12.same hc_13
 refine qV rfl (R.extract rfl rfl) (qV rfl (R.extract rfl rfl) ?_)
 refine WL.storeA [] [(128, (zB 128).map vu8)] [(128, (zB 128).map vu8)] [] h_15 rfl rfl sizeOf29 At.h (by decide) rfl rfl rfl rfl rfl rfl (sC (s8 lr) sN) (fun w_16 h_17 => ?_)
 refine qA (vi 1) rfl rfl ?_
 refine WL.nil (thn_n (WP.ret ?_))
 refine ret_of results9 (RV.cell rfl (h_17.loadA (cs := (zB 128).map vu8) isAgg29 sizeOf29 M0 rfl rfl) (RV.tmp (v := (vi 1)) rfl RV.nil)) ?_
 exact ⟨rfl, h_17.chgS⟩

theorem c_Seal_big (id : Bool) (ob mp : Nat) (ms : List UInt8) (hms : ms.length = 32) (da : Option Addr) (dn dc u : Nat) (la : Option Addr) (ln lc : Nat) (key pl : List UInt8) (hk : key.length = 32) (hpl : pl.length = 128) (pg : Int) (ct : UInt64) (h : 128 ≤ pg) (w : World) (hcb : (Ent.blk ob .ro 90 [(1, [(.bool id)]), (32, ms.map vu8), (1, [(.slice da dn dc)]), (1, [(vi ((u : Nat) : Int))]), (1, [(.map (some mp))]), (1, [(.slice la ln lc)])]).ok w.heap.size w) :
  Cs Try.prog 9 [(.pointer (some ⟨ob, 0, none⟩)), (.agg ⟨key.map vu8⟩), (vi pg), (vu64 ct), (.agg ⟨pl.map vu8⟩)].toArray w (fun v w1 => v = (.tuple [(.agg ⟨(List.replicate 128 (0 : UInt8)).map vu8⟩), (vi 2)].toArray) ∧ Chg w w1 []) := by
 refine Cs.of (n := 19) (args := [(pO ob 0), (.agg ⟨key.map vu8⟩), (vi pg), (vu64 ct), (.agg ⟨pl.map vu8⟩)]) Try.func9 rfl rfl rfl ?_
 have h_0 := HP.init w
 have h_00 := h_0.old hcb (fun f hf => by cases hf)
 refine WP.seq (WP.reg ?_)
 refine WL.box (segs := [(1, [(pO ob 0)])]) h_00 rfl rfl (sC sV sN) rfl (fun b_1 w_2 h_3 => ?_)
 refine WL.box (segs := [(32, key.map vu8)]) h_3 rfl rfl (sC (s8 hk) sN) rfl (fun b_4 w_5 h_6 => ?_)
 refine WL.box (segs := [(128, pl.map vu8)]) h_6 rfl rfl (sC (s8 hpl) sN) rfl (fun b_7 w_8 h_9 => ?_)
 refine WL.alloc (segs := [(128, (zB 128).map vu8)]) h_9 (zv typeInfo29 rfl) rfl (sC (s8 lr) sN) rfl (fun b_10 w_11 h_12 => ?_)
 refine qA (vi 0) rfl rfl ?_
 refine WL.nil (thn_n (WP.seq (WP.reg ?_)))
 refine qV rfl (R.load1 rfl isAgg32 (h_12.ok _ M3) Sg.h) (qM (vi pg) rfl rfl (qM (vu64 ct) rfl rfl (qV rfl (R.makeFuncL (fi := []) (ca := [(pO b_1 0), (pO b_4 0), (pO b_7 0)]) rfl rfl) ?_)))
 refine WL.call Try.call29 rfl rfl (c_withG_big id ob mp ms hms da dn dc u la ln lc pg ct (Value.func (Fn.func 30) [].toArray [(Value.pointer (some ⟨b_1, 0, none⟩)), (Value.pointer (some ⟨b_4, 0, none⟩)), (Value.pointer (some ⟨b_7, 0, none⟩))].toArray) (by omega) _ (h_12.argR M4)) rfl ?_
 rintro _ w_14 ⟨rfl, hc_13⟩
 have h_15 := h_12.same hc_13
 refine qV rfl (R.extract rfl rfl) (qV rfl (R.extract rfl rfl) ?_)
 refine WL.storeA [] [(128, (zB 128).map vu8)] [(128, (zB 128).map vu8)] [] h_15 rfl rfl sizeOf29 At.h (by decide) rfl rfl rfl rfl rfl rfl (sC (s8 lr) sN) (fun w_16 h_17 => ?_)
 refine qA (vi 2) rfl rfl ?_
 refine WL.nil (thn_n (WP.ret ?_))
 refine ret_of results9 (RV.cell rfl (h_17.loadA (cs := (zB 128).map vu8) isAgg29 sizeOf29 M0 rfl rfl) (RV.tmp (v := (vi 2)) rfl RV.nil)) ?_
 exact ⟨rfl, h_17.chgS⟩

theorem c_Seal {w00 : World} {L : List Ent} (id : Bool) (ob mp : Nat) (ms df : List UInt8) (hms : ms.length = 32) (da : Option Addr) (dn dc u : Nat) (hdf : df.length = 32 * dn) (la : Option Addr) (lc : Nat) (lx : List Value) (lg : Lg) (hu : u ≤ 500000) (hlg : lg.length ≤ 500000) (key pl : List UInt8) (hk : key.length = 32) (hpl : pl.length = 128) (pg : Nat) (ct : UInt64) (h : pg < 128) (hct : ¬ ct > 4294967296) (w : World) (h_0 : HP w00 w (Ent.blk ob .nw 90 [(1, [(.bool id)]), (32, ms.map vu8), (1, [(.slice da dn dc)]), (1, [(vi ((u : Nat) : Int))]), (1, [(.map (some mp))]), (1, [(.slice la lg.length lc)])] :: Ent.row la lg.length lc 64 67 lx :: Ent.obj mp .nw (.map (mArr lg) lg.length) :: Ent.pin (sblks lx) (fun w => Lgs w lx lg) :: Ent.view da (df.map vu8) :: L)) :
  Cs Try.prog 9 [(.pointer (some ⟨ob, 0, none⟩)), (.agg ⟨key.map vu8⟩), (vi ((pg : Nat) : Int)), (vu64 ct), (.agg ⟨pl.map vu8⟩)].toArray w (fun v w1 => ∃ la' lc' lx', v = (.tuple [(.agg ⟨(gx pl (gSt id df dn key 10 (pcB pg ct) u lg).2.2).map vu8⟩), (vi 0)].toArray) ∧ HP w00 w1 (Ent.blk ob .nw 90 [(1, [(.bool id)]), (32, ms.map vu8), (1, [(.slice da dn dc)]), (1, [(vi (((gSt id df dn key 10 (pcB pg ct) u lg).1 : Nat) : Int))]), (1, [(.map (some mp))]), (1, [(.slice la' ((gSt id df dn key 10 (pcB pg ct) u lg).2.1.length) lc')])] :: Ent.row la' ((gSt id df dn key 10 (pcB pg ct) u lg).2.1.length) lc' 64 67 lx' :: Ent.obj mp .nw (.map (mArr ((gSt id df dn key 10 (pcB pg ct) u lg).2.1)) ((gSt id df dn key 10 (pcB pg ct) u lg).2.1.length)) :: Ent.pin (sblks lx') (fun w => Lgs w lx' ((gSt id df dn key 10 (pcB pg ct) u lg).2.1)) :: Ent.view da (df.map vu8) :: L)) := by
 refine Cs.of (n := 19) (args := [(pO ob 0), (.agg ⟨key.map vu8⟩), (vn pg), (vu64 ct), (.agg ⟨pl.map vu8⟩)]) Try.func9 rfl rfl rfl ?_
 refine WP.seq (WP.reg ?_)
 refine WL.box (segs := [(1, [(pO ob 0)])]) h_0 rfl rfl (sC sV sN) rfl (fun b_1 w_2 h_3 => ?_)
 refine WL.box (segs := [(32, key.map vu8)]) h_3 rfl rfl (sC (s8 hk) sN) rfl (fun b_4 w_5 h_6 => ?_)
 refine WL.box (segs := [(128, pl.map vu8)]) h_6 rfl rfl (sC (s8 hpl) sN) rfl (fun b_7 w_8 h_9 => ?_)
 refine WL.alloc (segs := [(128, (zB 128).map vu8)]) h_9 (zv typeInfo29 rfl) rfl (sC (s8 lr) sN) rfl (fun b_10 w_11 h_12 => ?_)
 refine qA (vi 0) rfl rfl ?_
 refine WL.nil (thn_n (WP.seq (WP.reg ?_)))
 refine qV rfl (R.load1 rfl isAgg32 (h_12.ok _ M3) Sg.h) (qM (vn pg) rfl rfl (qM (vu64 ct) rfl rfl (qV rfl (R.makeFuncL (fi := []) (ca := [(pO b_1 0), (pO b_4 0), (pO b_7 0)]) rfl rfl) ?_)))
 have h_20 := (((((((h_12.up J1).up J2).up J3).up J8).up J8).up J8).up J8).up J8
 have h32_w_24 := Lgs.ok32 (h_20.ok _ M3).1
 refine WL.call Try.call29 rfl rfl (c_withG id ob mp ms df hms da dn dc u hdf la lc lx lg (by omega) (by omega) key pl hk hpl b_1 b_4 b_7 pg ct (by omega) hct _ h_20) rfl ?_
 rintro _ w_24 ⟨la_21, lc_22, lx_23, rfl, h_25⟩
 refine qV rfl (R.extract rfl rfl) (qV rfl (R.extract rfl rfl) ?_)
 refine WL.storeA [] [(128, (zB 128).map vu8)] [(128, (gx pl (gSt id df dn key 10 (pcB pg ct) u lg).2.2).map vu8)] [] h_25 rfl rfl sizeOf29 Y8 (by decide) rfl rfl rfl rfl rfl rfl (sC (s8 (gx_len hpl (gSt_len hdf h32_w_24))) sN) (fun w_26 h_27 => ?_)
 refine qA (vi 0) rfl rfl ?_
 refine WL.nil (thn_n (WP.ret ?_))
 refine ret_of results9 (RV.cell rfl (h_27.loadA (cs := (gx pl (gSt id df dn key 10 (pcB pg ct) u lg).2.2).map vu8) isAgg29 sizeOf29 M8 rfl rfl) (RV.tmp (v := (vi 0)) rfl RV.nil)) ?_
 have h_40 := ((((((((((((h_27.up J5).drop rfl).up J5).drop rfl).up J5).drop rfl).up J5).drop rfl).up J4).up J4).up J4).up J4).up J4
 exact ⟨_, _, _, rfl, h_40⟩
end Go.Proofs.Yteclkcpdclimnaa

namespace Go.Proofs.Yteclkcpdclimnaa
open Go.Proofs.Try
open Go.Vc Go.Orc Go.Sh Go.RowKit
set_option maxRecDepth 20000
theorem kt29 : Try.prog.keyTypeAt 2 29 = true := by kernel_rfl
theorem ag29 : aggB Try.prog 29 = true := by unfold aggB; rw [underlying29]
theorem c_ones (x : UInt8) (w : World) :
  Cs Try.prog 27 [(vu8 x)].toArray w (fun v w1 => v = (.agg ⟨(onesL x).map vu8⟩) ∧ Chg w w1 []) := by
 refine Cs.of (n := 13) (args := [(vu8 x)]) Try.func27 rfl rfl rfl ?_
 have h_0 := HP.init w
 refine WP.seq (WP.reg ?_)
 refine WL.alloc (segs := [(32, (zB 32).map vu8)]) h_0 (zv typeInfo23 rfl) rfl (sC (s8 lr) sN) rfl (fun b_1 w_2 h_3 => ?_)
 refine WL.nil (thn_n (WP.seq (WP.reg ?_)))
 refine WL.alloc (segs := [(32, (zB 32).map vu8)]) h_3 (zv typeInfo23 rfl) rfl (sC (s8 lr) sN) rfl (fun b_4 w_5 h_6 => ?_)
 refine WL.nil (thn_n (WP.seq (WP.seq (WP.reg ?_))))
 refine qA (vi 0) rfl rfl ?_
 refine WL.nil (thn_n (WP.block ?_))
 refine WP.loopG (G := Nat) [4, 5, 6, 7, 8, 9, 10, 11] (fun i => [(4, (vn i))]) (fun i m w1 => HP w w1 [.blk b_4 .nw 23 [(32, (Go.Sh.mix (onesL x) (List.replicate 32 0) i).map vu8)], .blk b_1 .nw 23 [(32, (zB 32).map vu8)]] ∧ (i ≤ 32) ∧ m = 32 - i) ⟨0, _, ⟨rfl, trivial⟩, (by rw [Go.Sh.mix_0]; exact h_6), (by omega), rfl⟩ ?_
 rintro i m_9 J_10 w_7 ⟨h_8, hi, rfl⟩
 refine WP.seq (WP.seq (WP.reg ?_))
 refine qM (vn i) rfl rfl (qV rfl (R.bin rfl rfl (bi_lss (r := decide ((((i : Nat) : Int) : Int) < 32)) rfl)) ?_)
 refine WL.nil (thn_n ?_)
 refine WP.cond (b := decide ((((i : Nat) : Int) : Int) < 32)) rfl (fun c_11 => ?_) (fun c_11 => ?_)
 ·have p_12 := of_decide_eq_true c_11
  refine WP.skip (thn_n (WP.seq (WP.block (WP.reg ?_))))
  refine qM (vn i) rfl rfl (qM (vu8 x) rfl rfl (qV rfl (R.indexA (b := b_4) (off := 0) (off' := (0 + i)) (i := i) rfl rfl rfl (by omega) underlying23 sizeOf5 (by rw [Nat.mul_one])) ?_))
  refine WL.storeE (b := b_4) (off := (0 + i)) (i := i) (v := (vu8 x)) (cs' := ((Go.Sh.mix (onesL x) (List.replicate 32 0) i).set i x).map vu8) h_8 rfl rfl sizeOf5 rfl At.h (by decide) Sg.h rfl (lt_len (K := 32) (len_map (Go.Sh.mix_len (onesL_len x) lr)) (by omega)) (set_u8 _ _ _) (fun w_13 h_14 => ?_)
  refine WL.nil (inb_n (thn_n (WP.reg ?_)))
  refine qM (vn i) rfl rfl (qV rfl (R.bin rfl rfl (bi_add (c := ((i + 1 : Nat) : Int)) (by omega) (by omega))) (qA (vn (i + 1)) rfl rfl ?_))
  refine WL.nil (thn_n ?_)
  have h_16 := (h_14.up J1).up J1
  rw [ones_set (by omega)] at h_16
  exact ⟨i + 1, _, (by omega), (U4 rfl rfl rfl rfl (U4 rfl rfl rfl rfl (Ag.updL rfl (Ag.mix _ _ _)))), ⟨rfl, trivial⟩, h_16, (by omega), rfl⟩
 ·have p_17 := of_decide_eq_false c_11
  refine WP.exit (thn_x (thn_x (inb_hit (thn_n (WP.seq (WP.reg ?_))))))
  refine qV rfl (R.loadA [] [(32, (Go.Sh.mix (onesL x) (List.replicate 32 0) i).map vu8)] [] (cs := (Go.Sh.mix (onesL x) (List.replicate 32 0) i).map vu8) rfl isAgg23 sizeOf23 (h_8.ok _ M0) rfl rfl rfl rfl) ?_
  refine WL.storeA [] [(32, (zB 32).map vu8)] [(32, (Go.Sh.mix (onesL x) (List.replicate 32 0) i).map vu8)] [] h_8 rfl rfl sizeOf23 Y1 (by decide) rfl rfl rfl rfl rfl rfl (sC (s8 (Go.Sh.mix_len (onesL_len x) lr)) sN) (fun w_18 h_19 => ?_)
  refine WL.nil (thn_n (WP.ret ?_))
  refine ret_of results27 (RV.cell rfl (h_19.loadA (cs := (Go.Sh.mix (onesL x) (List.replicate 32 0) i).map vu8) isAgg23 sizeOf23 M1 rfl rfl) RV.nil) ?_
  have hi2 : i = 32 := by omega
  subst hi2
  exact ⟨by rw [ones_all]; rfl, h_19.chgS⟩

theorem c_num16 (e : Int) (be : -9223372036854775808 ≤ e ∧ e < 9223372036854775808) (w : World) :
  Cs Try.prog 13 [(vi e)].toArray w (fun v w1 => v = vi e ∧ Chg w w1 []) := by
 refine Cs.of (n := 4) (args := [(vi e)]) Try.func13 rfl rfl rfl ?_
 have h_0 := HP.init w
 refine WP.seq (WP.reg ?_)
 refine qA (vi 0) rfl rfl ?_
 refine WL.nil (thn_n (WP.seq (WP.reg ?_)))
 refine qM (vi e) rfl rfl (qA (vi e) rfl rfl ?_)
 refine WL.nil (thn_n (WP.ret ?_))
 refine ret_of results13 (RV.tmp (v := (vi e)) rfl RV.nil) ?_
 exact ⟨rfl, h_0.chgS⟩

theorem c_known16  (w : World) :
  Cs Try.prog 6 [].toArray w (fun v w1 => v = .bool true ∧ Chg w w1 []) := by
 refine Cs.of (n := 75) (args := []) Try.func6 rfl rfl rfl ?_
 have h_0 := HP.init w
 refine WP.seq (WP.reg ?_)
 refine qA (.bool false) rfl rfl ?_
 refine WL.nil (thn_n (WP.seq (WP.reg ?_)))
 refine qV rfl (R.buildA (vs := []) (cs := (zB 32).map vu8) underlying23 sizeOf5 (zv typeInfo23 rfl) rfl rfl) ?_
 refine WL.call Try.call27 rfl rfl (c_ones (1 : UInt8) _ ) rfl ?_
 rintro _ w_2 ⟨rfl, hc_1⟩
 have h_3 := h_0.same hc_1
 refine WL.call Try.call27 rfl rfl (c_ones (2 : UInt8) _ ) rfl ?_
 rintro _ w_5 ⟨rfl, hc_4⟩
 have h_6 := h_3.same hc_4
 refine WL.call Try.call27 rfl rfl (c_ones (3 : UInt8) _ ) rfl ?_
 rintro _ w_8 ⟨rfl, hc_7⟩
 have h_9 := h_6.same hc_7
 refine WL.call Try.call27 rfl rfl (c_ones (4 : UInt8) _ ) rfl ?_
 rintro _ w_11 ⟨rfl, hc_10⟩
 have h_12 := h_9.same hc_10
 refine WL.buildSl (vs := [(0, (.agg ⟨(onesL (1 : UInt8)).map vu8⟩)), (1, (.agg ⟨(onesL (2 : UInt8)).map vu8⟩)), (2, (.agg ⟨(onesL (3 : UInt8)).map vu8⟩)), (3, (.agg ⟨(onesL (4 : UInt8)).map vu8⟩))]) (cs := ((onesL (1 : UInt8)) ++ ((onesL (2 : UInt8)) ++ ((onesL (3 : UInt8)) ++ (onesL (4 : UInt8))))).map vu8) h_12 underlying24 sizeOf23 (zv typeInfo23 rfl) rfl rfl (fill_4 (by kernel_rfl) (onesL_len _) (onesL_len _) (onesL_len _) (onesL_len _)) (len_map (show List.length ((onesL (1 : UInt8)) ++ ((onesL (2 : UInt8)) ++ ((onesL (3 : UInt8)) ++ (onesL (4 : UInt8))))) = 4 * 32 from by simp only [List.length_append, onesL_len])) (one_u8 _) rfl rfl (fun b_13 w_14 h_15 => ?_)
 have h_16 := HP.blkRow (m := 4) (s := 32) h_15 At.h rfl (by simp only [maxLen]; decide)
 have h_17 := h_16.rowView
 refine WL.call Try.call17 rfl rfl (c_ONew true (zB 32) ((onesL (1 : UInt8)) ++ ((onesL (2 : UInt8)) ++ ((onesL (3 : UInt8)) ++ (onesL (4 : UInt8))))) lr (some ⟨b_13, 0, none⟩) 4 4 (by simp only [List.length_append, onesL_len]) (by decide) _ h_17) rfl ?_
 rintro _ w_22 ⟨b_18, b_19, a_20, c_21, rfl, h_23⟩
 refine qA (pO b_18 0) rfl rfl ?_
 refine WL.nil (thn_n (WP.seq (WP.reg ?_)))
 refine qM (pO b_18 0) rfl rfl (qV rfl (R.buildA (vs := []) (cs := (zB 32).map vu8) underlying23 sizeOf5 (zv typeInfo23 rfl) rfl rfl) (qV rfl (R.buildA (vs := []) (cs := (zB 128).map vu8) underlying29 sizeOf5 (zv typeInfo29 rfl) rfl rfl) ?_))
 have h_28 := ((((h_23.up J4).up J4).up J4).up J4).up J4
 have h32_w_32 := Lgs.ok32 (h_28.ok _ M3).1
 refine WL.call Try.call9 rfl rfl (c_Seal true b_18 b_19 (zB 32) ((onesL (1 : UInt8)) ++ ((onesL (2 : UInt8)) ++ ((onesL (3 : UInt8)) ++ (onesL (4 : UInt8))))) lr a_20 4 c_21 0 (by simp only [List.length_append, onesL_len]) none 0 [] ([] : Lg) (by decide) (by decide) (zB 32) (zB 128) lr lr 0 (0 : UInt64) (by omega) (by decide) _ h_28) rfl ?_
 rintro _ w_32 ⟨la_29, lc_30, lx_31, rfl, h_33⟩
 refine qM (.tuple [(.agg ⟨(gx (zB 128) (gSt true ((onesL (1 : UInt8)) ++ ((onesL (2 : UInt8)) ++ ((onesL (3 : UInt8)) ++ (onesL (4 : UInt8))))) 4 (zB 32) 10 (pcB 0 (0 : UInt64)) 0 ([] : Lg)).2.2).map vu8⟩), (vi 0)].toArray) rfl rfl (qV rfl (R.extract rfl rfl) (qV rfl (R.extract rfl rfl) ?_))
 refine WL.alloc (segs := [(128, (zB 128).map vu8)]) h_33 (zv typeInfo29 rfl) rfl (sC (s8 lr) sN) rfl (fun b_34 w_35 h_36 => ?_)
 refine WL.storeA [] [(128, (zB 128).map vu8)] [(128, (gx (zB 128) (gSt true ((onesL (1 : UInt8)) ++ ((onesL (2 : UInt8)) ++ ((onesL (3 : UInt8)) ++ (onesL (4 : UInt8))))) 4 (zB 32) 10 (pcB 0 (0 : UInt64)) 0 ([] : Lg)).2.2).map vu8)] [] h_36 rfl rfl sizeOf29 At.h (by decide) rfl rfl rfl rfl rfl rfl (sC (s8 (gx_len lr (gSt_len (by simp only [List.length_append, onesL_len]) h32_w_32))) sN) (fun w_37 h_38 => ?_)
 refine qA (vi 0) rfl rfl ?_
 refine WL.nil (thn_n (WP.seq (WP.reg ?_)))
 refine qM (pO b_18 0) rfl rfl (qV rfl (R.buildA (vs := []) (cs := (zB 32).map vu8) underlying23 sizeOf5 (zv typeInfo23 rfl) rfl rfl) (qV rfl (R.buildA (vs := []) (cs := (zB 128).map vu8) underlying29 sizeOf5 (zv typeInfo29 rfl) rfl rfl) ?_))
 refine WL.call Try.call9 rfl rfl (c_Seal_big true b_18 b_19 (zB 32) lr a_20 4 c_21 ((gSt true ((onesL (1 : UInt8)) ++ ((onesL (2 : UInt8)) ++ ((onesL (3 : UInt8)) ++ (onesL (4 : UInt8))))) 4 (zB 32) 10 (pcB 0 (0 : UInt64)) 0 ([] : Lg)).1) la_29 ((gSt true ((onesL (1 : UInt8)) ++ ((onesL (2 : UInt8)) ++ ((onesL (3 : UInt8)) ++ (onesL (4 : UInt8))))) 4 (zB 32) 10 (pcB 0 (0 : UInt64)) 0 ([] : Lg)).2.1.length) lc_30 (zB 32) (zB 128) lr lr 128 (0 : UInt64) (by omega) _ (h_38.argR M1)) rfl ?_
 rintro _ w_40 ⟨rfl, hc_39⟩
 have h_41 := h_38.same hc_39
 refine qM (.tuple [(.agg ⟨(zB 128).map vu8⟩), (vi 2)].toArray) rfl rfl (qV rfl (R.extract rfl rfl) (qV rfl (R.extract rfl rfl) ?_))
 refine WL.alloc (segs := [(128, (zB 128).map vu8)]) h_41 (zv typeInfo29 rfl) rfl (sC (s8 lr) sN) rfl (fun b_42 w_43 h_44 => ?_)
 refine WL.storeA [] [(128, (zB 128).map vu8)] [(128, (zB 128).map vu8)] [] h_44 rfl rfl sizeOf29 At.h (by decide) rfl rfl rfl rfl rfl rfl (sC (s8 lr) sN) (fun w_45 h_46 => ?_)
 refine qA (vi 2) rfl rfl ?_
 refine WL.nil (thn_n (WP.seq (WP.reg ?_)))
 refine qV rfl (R.buildA (vs := []) (cs := (zB 32).map vu8) underlying23 sizeOf5 (zv typeInfo23 rfl) rfl rfl) (qV rfl (R.buildA (vs := []) (cs := (zB 128).map vu8) underlying29 sizeOf5 (zv typeInfo29 rfl) rfl rfl) ?_)
 refine WL.call Try.call9 rfl rfl (c_Seal_nil (zB 32) (zB 128) lr lr 0 (0 : UInt64) _ ) rfl ?_
 rintro _ w_48 ⟨rfl, hc_47⟩
 have h_49 := h_46.same hc_47
 refine qM (.tuple [(.agg ⟨(zB 128).map vu8⟩), (vi 1)].toArray) rfl rfl (qV rfl (R.extract rfl rfl) (qV rfl (R.extract rfl rfl) ?_))
 refine WL.alloc (segs := [(128, (zB 128).map vu8)]) h_49 (zv typeInfo29 rfl) rfl (sC (s8 lr) sN) rfl (fun b_50 w_51 h_52 => ?_)
 refine WL.storeA [] [(128, (zB 128).map vu8)] [(128, (zB 128).map vu8)] [] h_52 rfl rfl sizeOf29 At.h (by decide) rfl rfl rfl rfl rfl rfl (sC (s8 lr) sN) (fun w_53 h_54 => ?_)
 refine qA (vi 1) rfl rfl ?_
 refine WL.nil (thn_n (WP.seq (WP.reg ?_)))
 refine qM (vi 0) rfl rfl ?_
 refine WL.call Try.call13 rfl rfl (c_num16 0 (by omega) _ ) rfl ?_
 rintro _ w_56 ⟨rfl, hc_55⟩
 have h_57 := h_54.same hc_55
 refine qV rfl (R.bin rfl rfl (bi_eql (r := true) (by decide))) (qM (.bool true) rfl rfl ?_)
 refine WL.want rfl rfl ?_
 refine qV rfl (R.indexA (b := b_34) (off := 0) (off' := 0) (i := 0) rfl rfl rfl (by decide) underlying29 sizeOf5 rfl) ?_
 refine WL.want rfl rfl ?_
 refine qV rfl (R.loadE (b := b_34) (off := 0) (i := 0) (v := (vu8 ((gx (zB 128) (gSt true ((onesL (1 : UInt8)) ++ ((onesL (2 : UInt8)) ++ ((onesL (3 : UInt8)) ++ (onesL (4 : UInt8))))) 4 (zB 32) 10 (pcB 0 (0 : UInt64)) 0 ([] : Lg)).2.2).getD 0 0))) rfl isAgg5 (h_57.ok _ M2) Sg.h rfl (get_u8 (lt_len (K := 128) (gx_len lr (gSt_len (by simp only [List.length_append, onesL_len]) h32_w_32)) (by decide)))) ?_
 refine WL.want rfl rfl ?_
 refine qV rfl (R.bin (v := (.bool true)) rfl rfl (b8_eql ((gx (zB 128) (gSt true ((onesL (1 : UInt8)) ++ ((onesL (2 : UInt8)) ++ ((onesL (3 : UInt8)) ++ (onesL (4 : UInt8))))) 4 (zB 32) 10 (pcB 0 (0 : UInt64)) 0 ([] : Lg)).2.2).getD 0 0) 1 (r := true) (by decide +kernel))) (qV rfl (R.pickT (v := (.bool true)) rfl rfl) (qM (.bool true) rfl rfl ?_))
 refine WL.want rfl rfl ?_
 refine qV rfl (R.indexA (b := b_34) (off := 0) (off' := 32) (i := 32) rfl rfl rfl (by decide) underlying29 sizeOf5 rfl) ?_
 refine WL.want rfl rfl ?_
 refine qV rfl (R.loadE (b := b_34) (off := 32) (i := 32) (v := (vu8 ((gx (zB 128) (gSt true ((onesL (1 : UInt8)) ++ ((onesL (2 : UInt8)) ++ ((onesL (3 : UInt8)) ++ (onesL (4 : UInt8))))) 4 (zB 32) 10 (pcB 0 (0 : UInt64)) 0 ([] : Lg)).2.2).getD 32 0))) rfl isAgg5 (h_57.ok _ M2) Sg.h rfl (get_u8 (lt_len (K := 128) (gx_len lr (gSt_len (by simp only [List.length_append, onesL_len]) h32_w_32)) (by decide)))) ?_
 refine WL.want rfl rfl ?_
 refine qV rfl (R.bin (v := (.bool true)) rfl rfl (b8_eql ((gx (zB 128) (gSt true ((onesL (1 : UInt8)) ++ ((onesL (2 : UInt8)) ++ ((onesL (3 : UInt8)) ++ (onesL (4 : UInt8))))) 4 (zB 32) 10 (pcB 0 (0 : UInt64)) 0 ([] : Lg)).2.2).getD 32 0) 2 (r := true) (by decide +kernel))) (qV rfl (R.pickT (v := (.bool true)) rfl rfl) (qM (.bool true) rfl rfl ?_))
 refine WL.want rfl rfl ?_
 refine qV rfl (R.indexA (b := b_34) (off := 0) (off' := 64) (i := 64) rfl rfl rfl (by decide) underlying29 sizeOf5 rfl) ?_
 refine WL.want rfl rfl ?_
 refine qV rfl (R.loadE (b := b_34) (off := 64) (i := 64) (v := (vu8 ((gx (zB 128) (gSt true ((onesL (1 : UInt8)) ++ ((onesL (2 : UInt8)) ++ ((onesL (3 : UInt8)) ++ (onesL (4 : UInt8))))) 4 (zB 32) 10 (pcB 0 (0 : UInt64)) 0 ([] : Lg)).2.2).getD 64 0))) rfl isAgg5 (h_57.ok _ M2) Sg.h rfl (get_u8 (lt_len (K := 128) (gx_len lr (gSt_len (by simp only [List.length_append, onesL_len]) h32_w_32)) (by decide)))) ?_
 refine WL.want rfl rfl ?_
 refine qV rfl (R.bin (v := (.bool true)) rfl rfl (b8_eql ((gx (zB 128) (gSt true ((onesL (1 : UInt8)) ++ ((onesL (2 : UInt8)) ++ ((onesL (3 : UInt8)) ++ (onesL (4 : UInt8))))) 4 (zB 32) 10 (pcB 0 (0 : UInt64)) 0 ([] : Lg)).2.2).getD 64 0) 3 (r := true) (by decide +kernel))) (qV rfl (R.pickT (v := (.bool true)) rfl rfl) (qM (.bool true) rfl rfl ?_))
 refine WL.want rfl rfl ?_
 refine qV rfl (R.indexA (b := b_34) (off := 0) (off' := 127) (i := 127) rfl rfl rfl (by decide) underlying29 sizeOf5 rfl) ?_
 refine WL.want rfl rfl ?_
 refine qV rfl (R.loadE (b := b_34) (off := 127) (i := 127) (v := (vu8 ((gx (zB 128) (gSt true ((onesL (1 : UInt8)) ++ ((onesL (2 : UInt8)) ++ ((onesL (3 : UInt8)) ++ (onesL (4 : UInt8))))) 4 (zB 32) 10 (pcB 0 (0 : UInt64)) 0 ([] : Lg)).2.2).getD 127 0))) rfl isAgg5 (h_57.ok _ M2) Sg.h rfl (get_u8 (lt_len (K := 128) (gx_len lr (gSt_len (by simp only [List.length_append, onesL_len]) h32_w_32)) (by decide)))) ?_
 refine WL.want rfl rfl ?_
 refine qV rfl (R.bin (v := (.bool true)) rfl rfl (b8_eql ((gx (zB 128) (gSt true ((onesL (1 : UInt8)) ++ ((onesL (2 : UInt8)) ++ ((onesL (3 : UInt8)) ++ (onesL (4 : UInt8))))) 4 (zB 32) 10 (pcB 0 (0 : UInt64)) 0 ([] : Lg)).2.2).getD 127 0) 4 (r := true) (by decide +kernel))) (qV rfl (R.pickT (v := (.bool true)) rfl rfl) (qM (.bool true) rfl rfl ?_))
 refine WL.want rfl rfl ?_
 refine qM (vi 2) rfl rfl ?_
 refine WL.want rfl rfl ?_
 refine WL.call Try.call13 rfl rfl (c_num16 2 (by omega) _ ) rfl ?_
 rintro _ w_59 ⟨rfl, hc_58⟩
 have h_60 := h_57.same hc_58
 refine WL.want rfl rfl ?_
 refine qV rfl (R.bin rfl rfl (bi_eql (r := true) (by decide))) (qV rfl (R.pickT (v := (.bool true)) rfl rfl) (qM (.bool true) rfl rfl ?_))
 refine WL.want rfl rfl ?_
 refine qM (vi 1) rfl rfl ?_
 refine WL.want rfl rfl ?_
 refine WL.call Try.call13 rfl rfl (c_num16 1 (by omega) _ ) rfl ?_
 rintro _ w_62 ⟨rfl, hc_61⟩
 have h_63 := h_60.same hc_61
 refine WL.want rfl rfl ?_
 refine qV rfl (R.bin rfl rfl (bi_eql (r := true) (by decide))) (qV rfl (R.pickT (v := (.bool true)) rfl rfl) (qM (.bool true) rfl rfl ?_))
 refine WL.want rfl rfl ?_
 refine qV rfl (R.loadA [] [(128, (gx (zB 128) (gSt true ((onesL (1 : UInt8)) ++ ((onesL (2 : UInt8)) ++ ((onesL (3 : UInt8)) ++ (onesL (4 : UInt8))))) 4 (zB 32) 10 (pcB 0 (0 : UInt64)) 0 ([] : Lg)).2.2).map vu8)] [] (cs := (gx (zB 128) (gSt true ((onesL (1 : UInt8)) ++ ((onesL (2 : UInt8)) ++ ((onesL (3 : UInt8)) ++ (onesL (4 : UInt8))))) 4 (zB 32) 10 (pcB 0 (0 : UInt64)) 0 ([] : Lg)).2.2).map vu8) rfl isAgg29 sizeOf29 (h_63.ok _ M2) rfl rfl rfl rfl) ?_
 refine WL.want rfl rfl ?_
 refine qV rfl (R.loadA [] [(128, (gx (zB 128) (gSt true ((onesL (1 : UInt8)) ++ ((onesL (2 : UInt8)) ++ ((onesL (3 : UInt8)) ++ (onesL (4 : UInt8))))) 4 (zB 32) 10 (pcB 0 (0 : UInt64)) 0 ([] : Lg)).2.2).map vu8)] [] (cs := (gx (zB 128) (gSt true ((onesL (1 : UInt8)) ++ ((onesL (2 : UInt8)) ++ ((onesL (3 : UInt8)) ++ (onesL (4 : UInt8))))) 4 (zB 32) 10 (pcB 0 (0 : UInt64)) 0 ([] : Lg)).2.2).map vu8) rfl isAgg29 sizeOf29 (h_63.ok _ M2) rfl rfl rfl rfl) ?_
 refine WL.want rfl rfl ?_
 refine WL.call Try.call28 rfl rfl (c_Mix (gx (zB 128) (gSt true ((onesL (1 : UInt8)) ++ ((onesL (2 : UInt8)) ++ ((onesL (3 : UInt8)) ++ (onesL (4 : UInt8))))) 4 (zB 32) 10 (pcB 0 (0 : UInt64)) 0 ([] : Lg)).2.2) (gx (zB 128) (gSt true ((onesL (1 : UInt8)) ++ ((onesL (2 : UInt8)) ++ ((onesL (3 : UInt8)) ++ (onesL (4 : UInt8))))) 4 (zB 32) 10 (pcB 0 (0 : UInt64)) 0 ([] : Lg)).2.2) (gx_len lr (gSt_len (by simp only [List.length_append, onesL_len]) h32_w_32)) (gx_len lr (gSt_len (by simp only [List.length_append, onesL_len]) h32_w_32)) _ ) rfl ?_
 rintro _ w_65 ⟨rfl, hc_64⟩
 have h_66 := h_63.same hc_64
 refine WL.want rfl rfl ?_
 refine qV rfl (R.buildA (vs := []) (cs := (zB 128).map vu8) underlying29 sizeOf5 (zv typeInfo29 rfl) rfl rfl) ?_
 refine WL.want rfl rfl ?_
 refine qV rfl (R.eqA (xs := (gx (gx (zB 128) (gSt true ((onesL (1 : UInt8)) ++ ((onesL (2 : UInt8)) ++ ((onesL (3 : UInt8)) ++ (onesL (4 : UInt8))))) 4 (zB 32) 10 (pcB 0 (0 : UInt64)) 0 ([] : Lg)).2.2) (gx (zB 128) (gSt true ((onesL (1 : UInt8)) ++ ((onesL (2 : UInt8)) ++ ((onesL (3 : UInt8)) ++ (onesL (4 : UInt8))))) 4 (zB 32) 10 (pcB 0 (0 : UInt64)) 0 ([] : Lg)).2.2)).map vu8) (ys := (zB 128).map vu8) (r := true) rfl rfl eqGuardType29 kt29 (by decide) ag29 (Typ.u8s underlying29 ce29 underlying5 ce5 (gx_len (gx_len lr (gSt_len (by simp only [List.length_append, onesL_len]) h32_w_32)) (gx_len lr (gSt_len (by simp only [List.length_append, onesL_len]) h32_w_32)))) (Typ.u8s underlying29 ce29 underlying5 ce5 lr) (eqT (congrArg (List.map vu8) (by decide +kernel)))) (qV rfl (R.pickT (v := (.bool true)) rfl rfl) (qA (.bool true) rfl rfl ?_))
 refine WL.nil (thn_n (WP.ret ?_))
 refine ret_of results6 (RV.tmp (v := (.bool true)) rfl RV.nil) ?_
 exact ⟨rfl, h_66.chgS⟩
end Go.Proofs.Yteclkcpdclimnaa

namespace Go.Proofs.Yteclkcpdclimnaa
open Go.Proofs.Try
open Go.Vc Go.Orc Go.Sh Go.RowKit
set_option maxRecDepth 20000

theorem c_Leaf1 {w00 : World} {L : List Ent} (id : Bool) (ob mp : Nat) (ms df : List UInt8) (hms : ms.length = 32) (da : Option Addr) (dn dc u : Nat) (hdf : df.length = 32 * dn) (la : Option Addr) (lc : Nat) (lx : List Value) (lg : Lg) (hu : u ≤ 1000000) (hlg : lg.length ≤ 1000000) (data : List UInt8) (qa : Option Addr) (qn qc : Nat) (hdl : data.length = qn) (hqn : qn ≤ 100000) (hqc : qn ≤ qc) (pl : List UInt8) (hpl : pl.length = 128) (b1 b2 : Nat) (w : World) (h_0 : HP w00 w (Ent.blk ob .nw 90 [(1, [(.bool id)]), (32, ms.map vu8), (1, [(.slice da dn dc)]), (1, [(vi ((u : Nat) : Int))]), (1, [(.map (some mp))]), (1, [(.slice la lg.length lc)])] :: Ent.row la lg.length lc 64 67 lx :: Ent.obj mp .nw (.map (mArr lg) lg.length) :: Ent.pin (sblks lx) (fun w => Lgs w lx lg) :: Ent.view da (df.map vu8) :: Ent.view qa (data.map vu8) :: Ent.blk b1 .nw 32 [(1, [(.pointer (some ⟨ob, 0, none⟩))])] :: Ent.blk b2 .nw 29 [(128, pl.map vu8)] :: L)) :
  Cs Try.prog 33 [(.slice qa qn qc), (.pointer (some ⟨b1, 0, none⟩)), (.pointer (some ⟨b2, 0, none⟩))].toArray w (fun v w1 => ∃ la' lc' lx', v = (.tuple [(.agg ⟨(anD id df dn u lg (1, (List.replicate 32 (0 : UInt8)), 4, [data, pl].flatten)).map vu8⟩), (vi 0)].toArray) ∧ HP w00 w1 (Ent.blk ob .nw 90 [(1, [(.bool id)]), (32, ms.map vu8), (1, [(.slice da dn dc)]), (1, [(vi (((anU id u lg (1, (List.replicate 32 (0 : UInt8)), 4, [data, pl].flatten)) : Nat) : Int))]), (1, [(.map (some mp))]), (1, [(.slice la' ((anL id df dn u lg (1, (List.replicate 32 (0 : UInt8)), 4, [data, pl].flatten)).length) lc')])] :: Ent.row la' ((anL id df dn u lg (1, (List.replicate 32 (0 : UInt8)), 4, [data, pl].flatten)).length) lc' 64 67 lx' :: Ent.obj mp .nw (.map (mArr (anL id df dn u lg (1, (List.replicate 32 (0 : UInt8)), 4, [data, pl].flatten))) ((anL id df dn u lg (1, (List.replicate 32 (0 : UInt8)), 4, [data, pl].flatten)).length)) :: Ent.pin (sblks lx') (fun w => Lgs w lx' (anL id df dn u lg (1, (List.replicate 32 (0 : UInt8)), 4, [data, pl].flatten))) :: Ent.view da (df.map vu8) :: Ent.blk b1 .nw 32 [(1, [(.pointer (some ⟨ob, 0, none⟩))])] :: Ent.view (some ⟨b2, 0, none⟩) (pl.map vu8) :: L)) := by
 refine Cs.of (n := 13) (args := [(.slice qa qn qc), (pO b1 0), (pO b2 0)]) Try.func33 rfl rfl rfl ?_
 refine WP.seq (WP.reg ?_)
 refine WL.alloc (segs := [(32, (zB 32).map vu8)]) h_0 (zv typeInfo23 rfl) rfl (sC (s8 lr) sN) rfl (fun b_1 w_2 h_3 => ?_)
 refine qA (vi 0) rfl rfl ?_
 refine WL.nil (thn_n (WP.seq ?_))
 refine WP.drawT (SL w00.heap.size [.view qa (data.map vu8), .blk b1 .nw 32 [(1, [(pO ob 0)])]]) (.q 0 (.q 1 (.q 2 (.s 3 (.s 4 (.q 5 (.q 6 (.s 7 (.q 8 .nil))))))))) (by kernel_rfl) (by kernel_rfl) rfl (by kernel_rfl) (fun w_4 hc_6 => (SL.cons ((h_3.same hc_6).ok _ M6) (SL.cons ((h_3.same hc_6).ok _ M7) (SL.nil _ _)))) (fun w_4 hc_6 => ?_)
 have h_5 := h_3.same hc_6
 refine qT rfl rfl (fun wq hS => R.load1 rfl isAgg32 (hS _ M1) Sg.h) ?_
 refine qT rfl rfl (fun wq hS => R.move (v := (.slice qa qn qc)) rfl) ?_
 refine qT rfl rfl (fun wq hS => R.sliceA (b := b2) (off := 0) (off' := 0) (l := 0) (h := 128) rfl EvB.dflt EvB.dflt (by decide) (by decide) underlying29 sizeOf5 rfl) ?_
 refine WT.s (oN rfl ?_)
 refine WL.buildSl (vs := [(0, (.slice qa qn qc)), (1, (.slice (some ⟨b2, 0, none⟩) 128 128))]) (cs := [(.slice qa qn qc), (.slice (some ⟨b2, 0, none⟩) 128 128)]) h_5 underlying101 sizeOf54 (zv typeInfo54 rfl) rfl rfl (by kernel_rfl) rfl (by simp [Value.oneCell']) rfl rfl (fun b_7 w_8 h_9 => ?_)
 refine WL.nil ?_
 refine ⟨(N7_8 h_9.ok), ?_⟩
 refine WT.s (oN rfl ?_)
 have h_10 := h_9.up J9
 have h_11 := HP_blkView h_10
 have h_12 := h_11.up J1
 have h_13 := HP_blkView h_12
 have hbl_14 : ∀ b ∈ sblks [(.slice qa qn qc), (.slice (some ⟨b2, 0, none⟩) 128 128)], ∃ e ∈ ((Ent.view (some ⟨b_7, 0, none⟩) [(.slice qa qn qc), (.slice (some ⟨b2, 0, none⟩) 128 128)] :: Ent.view (some ⟨b2, 0, none⟩) (pl.map vu8) :: Ent.blk b_1 .nw 23 [(32, (List.replicate 32 (0 : UInt8)).map vu8)] :: Ent.blk ob .nw 90 [(1, [(.bool id)]), (32, ms.map vu8), (1, [(.slice da dn dc)]), (1, [(vi ((u : Nat) : Int))]), (1, [(.map (some mp))]), (1, [(.slice la lg.length lc)])] :: Ent.row la lg.length lc 64 67 lx :: Ent.obj mp .nw (.map (mArr lg) lg.length) :: Ent.pin (sblks lx) (fun w => Lgs w lx lg) :: Ent.view da (df.map vu8) :: Ent.view qa (data.map vu8) :: Ent.blk b1 .nw 32 [(1, [(.pointer (some ⟨ob, 0, none⟩))])] :: L) : List Ent), e.mut = false ∧ b ∈ e.blocks := by
  intro b hb
  rcases List.mem_append.1 hb with hb | hb
  ·exact ⟨_, M8, rfl, sblk_in_view hdl b hb⟩
  rcases List.mem_append.1 hb with hb | hb
  ·exact ⟨_, M1, rfl, sblk_in_view hpl b hb⟩
  cases hb
 have h_15 := HP_within (e' := .pin (sblks [(.slice qa qn qc), (.slice (some ⟨b2, 0, none⟩) 128 128)]) (fun w => Sls w [(.slice qa qn qc), (.slice (some ⟨b2, 0, none⟩) 128 128)] [data, pl])) h_13 (Sls.pin (Sls.cons hdl (by omega) (viewV (h_13.ok _ M8)) (Sls.cons hpl (by decide) (viewV (h_13.ok _ M1)) Sls.nil))) rfl rfl hbl_14
 have h_22 := ((((((h_15.up J1).up J1).up J8).up J8).up J8).up J8).up J8
 have h32_w_26 := Lgs.ok32 (h_22.ok _ M3).1
 refine WL.call Try.call34 rfl rfl (c_oDigest id ob mp ms df hms da dn dc u hdf la lc lx lg hu hlg (some ⟨b_7, 0, none⟩) 2 2 [(.slice qa qn qc), (.slice (some ⟨b2, 0, none⟩) 128 128)] [data, pl] rfl 4 (by omega) (by simp only [List.flatten_cons, List.flatten_nil, List.length_append, List.length_nil]; omega) (by omega) _ h_22) rfl ?_
 rintro _ w_26 ⟨la_23, lc_24, lx_25, rfl, h_27⟩
 refine WL.nil ?_
 refine ⟨(N9_10 h_27.ok), ?_⟩
 refine qT rfl rfl (fun wq hS => R.extract rfl rfl) ?_
 refine qT rfl rfl (fun wq hS => R.extract rfl rfl) ?_
 refine WT.s (oN rfl ?_)
 refine WL.storeA [] [(32, (zB 32).map vu8)] [(32, (anD id df dn u lg (1, (zB 32), 4, [data, pl].flatten)).map vu8)] [] h_27 rfl rfl sizeOf23 Y8 (by decide) rfl rfl rfl rfl rfl rfl (sC (s8 (anD_len hdf h32_w_26)) sN) (fun w_28 h_29 => ?_)
 refine WL.nil ?_
 refine ⟨(N9_10 h_29.ok), ?_⟩
 refine qT rfl rfl (fun wq hS => R.assign (v := (vi 0)) rfl) ?_
 refine WT.nil (thn_n (WP.ret ?_))
 refine ret_of results33 (RV.cell rfl (h_29.loadA (cs := (anD id df dn u lg (1, (zB 32), 4, [data, pl].flatten)).map vu8) isAgg23 sizeOf23 M8 rfl rfl) (RV.tmp (v := (vi 0)) rfl RV.nil)) ?_
 have h_44 := ((((((((((((((h_29.up J5).drop rfl).up J5).drop rfl).up J6).drop rfl).up J6).drop rfl).up J5).up J6).up J6).up J6).up J6).up J6).up J6
 exact ⟨_, _, _, rfl, h_44⟩

theorem c_withL {w00 : World} {L : List Ent} (id : Bool) (ob mp : Nat) (ms df : List UInt8) (hms : ms.length = 32) (da : Option Addr) (dn dc u : Nat) (hdf : df.length = 32 * dn) (la : Option Addr) (lc : Nat) (lx : List Value) (lg : Lg) (hu : u ≤ 1000000) (hlg : lg.length ≤ 1000000) (pl : List UInt8) (hpl : pl.length = 128) (b1 b2 : Nat) (pg : Nat) (ct : UInt64) (h : pg < 128) (hct : ¬ ct > 4294967296) (w : World) (h_0 : HP w00 w (Ent.blk ob .nw 90 [(1, [(.bool id)]), (32, ms.map vu8), (1, [(.slice da dn dc)]), (1, [(vi ((u : Nat) : Int))]), (1, [(.map (some mp))]), (1, [(.slice la lg.length lc)])] :: Ent.row la lg.length lc 64 67 lx :: Ent.obj mp .nw (.map (mArr lg) lg.length) :: Ent.pin (sblks lx) (fun w => Lgs w lx lg) :: Ent.view da (df.map vu8) :: Ent.blk b1 .nw 32 [(1, [(.pointer (some ⟨ob, 0, none⟩))])] :: Ent.blk b2 .nw 29 [(128, pl.map vu8)] :: L)) :
  Cs Try.prog 32 [(.pointer (some ⟨ob, 0, none⟩)), (vi ((pg : Nat) : Int)), (vu64 ct), (Value.func (Fn.func 33) [].toArray [(Value.pointer (some ⟨b1, 0, none⟩)), (Value.pointer (some ⟨b2, 0, none⟩))].toArray)].toArray w (fun v w1 => ∃ la' lc' lx', v = (.tuple [(.agg ⟨(anD id df dn u lg (1, (List.replicate 32 (0 : UInt8)), 4, [pcB pg ct, pl].flatten)).map vu8⟩), (vi 0)].toArray) ∧ HP w00 w1 (Ent.blk ob .nw 90 [(1, [(.bool id)]), (32, ms.map vu8), (1, [(.slice da dn dc)]), (1, [(vi (((anU id u lg (1, (List.replicate 32 (0 : UInt8)), 4, [pcB pg ct, pl].flatten)) : Nat) : Int))]), (1, [(.map (some mp))]), (1, [(.slice la' ((anL id df dn u lg (1, (List.replicate 32 (0 : UInt8)), 4, [pcB pg ct, pl].flatten)).length) lc')])] :: Ent.row la' ((anL id df dn u lg (1, (List.replicate 32 (0 : UInt8)), 4, [pcB pg ct, pl].flatten)).length) lc' 64 67 lx' :: Ent.obj mp .nw (.map (mArr (anL id df dn u lg (1, (List.replicate 32 (0 : UInt8)), 4, [pcB pg ct, pl].flatten))) ((anL id df dn u lg (1, (List.replicate 32 (0 : UInt8)), 4, [pcB pg ct, pl].flatten)).length)) :: Ent.pin (sblks lx') (fun w => Lgs w lx' (anL id df dn u lg (1, (List.replicate 32 (0 : UInt8)), 4, [pcB pg ct, pl].flatten))) :: Ent.view da (df.map vu8) :: Ent.blk b1 .nw 32 [(1, [(.pointer (some ⟨ob, 0, none⟩))])] :: Ent.view (some ⟨b2, 0, none⟩) (pl.map vu8) :: L)) := by
 refine Cs.of (n := 30) (args := [(pO ob 0), (vn pg), (vu64 ct), (Value.func (Fn.func 33) [].toArray [(Value.pointer (some ⟨b1, 0, none⟩)), (Value.pointer (some ⟨b2, 0, none⟩))].toArray)]) Try.func32 rfl rfl rfl ?_
 refine WP.seq (WP.reg ?_)
 refine WL.alloc (segs := [(32, (zB 32).map vu8)]) h_0 (zv typeInfo23 rfl) rfl (sC (s8 lr) sN) rfl (fun b_1 w_2 h_3 => ?_)
 refine qA (vi 0) rfl rfl ?_
 refine WL.nil (thn_n (WP.seq (WP.seq (WP.reg ?_))))
 refine qM (pO ob 0) rfl rfl (qM (vn pg) rfl rfl (qM (vu64 ct) rfl rfl ?_))
 refine WL.call Try.call55 rfl rfl (c_bask_ok id ob mp ms hms da dn dc u la lg.length lc pg ct (by omega) hct _ (h_3.argR M1)) rfl ?_
 rintro _ w_5 ⟨rfl, hc_4⟩
 have h_6 := h_3.same hc_4
 refine qA (vi 0) rfl rfl ?_
 refine WL.nil (thn_n (WP.seq (WP.reg ?_)))
 refine qM (vi 0) rfl rfl (qV rfl (R.bin rfl rfl (bi_neq (r := false) (by decide))) ?_)
 refine WL.nil (thn_n ?_)
 refine WP.condF rfl ?_
 refine WP.skip (thn_n (WP.seq (WP.reg ?_)))
 refine qM (Value.func (Fn.func 33) [].toArray [(Value.pointer (some ⟨b1, 0, none⟩)), (Value.pointer (some ⟨b2, 0, none⟩))].toArray) rfl rfl (qM (vn pg) rfl rfl (qV rfl (R.conv (b := ((UInt64.ofNat pg) : UInt64).toNat) rfl underlying3 underlying27 (w64_nat pg)) ?_))
 refine WL.call Try.call57 rfl rfl (c_bword (UInt64.ofNat pg) _) rfl ?_
 rintro _ w_9 ⟨a_7, cap_8, rfl, hc_10, ho_11⟩
 have h_12 := h_6.gotRow hc_10 ho_11
 refine qM (vu64 ct) rfl rfl ?_
 refine WL.call Try.call57 rfl rfl (c_bword ct _) rfl ?_
 rintro _ w_15 ⟨a_13, cap_14, rfl, hc_16, ho_17⟩
 have h_18 := h_12.gotRow hc_16 ho_17
 refine WL.buildSl (vs := [(0, (.slice a_7 8 cap_8)), (1, (.slice a_13 8 cap_14))]) (cs := [(.slice a_7 8 cap_8), (.slice a_13 8 cap_14)]) h_18 underlying101 sizeOf54 (zv typeInfo54 rfl) rfl rfl (by kernel_rfl) rfl (by simp [Value.oneCell']) rfl rfl (fun b_19 w_20 h_21 => ?_)
 refine WL.call Try.call56 rfl rfl (c_wJoin (some ⟨b_19, 0, none⟩) 2 2 [(.slice a_7 8 cap_8), (.slice a_13 8 cap_14)] [leN 8 (UInt64.ofNat pg).toNat, leN 8 ct.toNat] rfl (by have := pcB_len pg ct; simp only [pcB] at this; omega) (by omega) _ (viewB (h_21.ok _ M0) Sg.h) (Sls.cons (leN_len ..) (h_21.own M2).2.2.1 (ownView (h_21.ok _ M2)) (Sls.cons (leN_len ..) (h_21.own M1).2.2.1 (ownView (h_21.ok _ M1)) Sls.nil))) rfl ?_
 rintro _ w_24 ⟨a_22, cap_23, rfl, hc_25, ho_26⟩
 have h_27 := h_21.gotRow hc_25 ho_26
 have hcp_28 := (h_27.own M0).2.2.1
 have h_29 := h_27.rowView
 have h_37 := (((((((h_29.up J11).up J11).up J2).up J11).up J11).up J11).up J11).up J11
 have h32_w_41 := Lgs.ok32 (h_37.ok _ M3).1
 refine WL.call Try.call33 rfl rfl (c_Leaf1 id ob mp ms df hms da dn dc u hdf la lc lx lg hu hlg ([leN 8 (UInt64.ofNat pg).toNat, leN 8 ct.toNat].flatten) a_22 ([leN 8 (UInt64.ofNat pg).toNat, leN 8 ct.toNat].flatten.length) cap_23 (rfl : List.length ([leN 8 (UInt64.ofNat pg).toNat, leN 8 ct.toNat].flatten) = [leN 8 (UInt64.ofNat pg).toNat, leN 8 ct.toNat].flatten.length) (by have := pcB_len pg ct; simp only [pcB] at this; omega) hcp_28 pl hpl b1 b2 _ h_37) rfl ?_
 rintro _ w_41 ⟨la_38, lc_39, lx_40, rfl, h_42⟩
 refine qV rfl (R.extract rfl rfl) (qV rfl (R.extract rfl rfl) ?_)
 refine WL.storeA [] [(32, (zB 32).map vu8)] [(32, (anD id df dn u lg (1, (zB 32), 4, [[leN 8 (UInt64.ofNat pg).toNat, leN 8 ct.toNat].flatten, pl].flatten)).map vu8)] [] h_42 rfl rfl sizeOf23 Y10 (by decide) rfl rfl rfl rfl rfl rfl (sC (s8 (anD_len hdf h32_w_41)) sN) (fun w_43 h_44 => ?_)
 refine qA (vi 0) rfl rfl ?_
 refine WL.nil (thn_n (WP.ret ?_))
 refine ret_of results32 (RV.cell rfl (h_44.loadA (cs := (anD id df dn u lg (1, (zB 32), 4, [[leN 8 (UInt64.ofNat pg).toNat, leN 8 ct.toNat].flatten, pl].flatten)).map vu8) isAgg23 sizeOf23 M10 rfl rfl) (RV.tmp (v := (vi 0)) rfl RV.nil)) ?_
 have h_59 := ((((((((((((((h_44.up J7).drop rfl).up J7).drop rfl).up J7).drop rfl).up J7).drop rfl).up J6).up J6).up J6).up J6).up J6).up J6).up J6
 exact ⟨_, _, _, rfl, h_59⟩

theorem c_Leaf {w00 : World} {L : List Ent} (id : Bool) (ob mp : Nat) (ms df : List UInt8) (hms : ms.length = 32) (da : Option Addr) (dn dc u : Nat) (hdf : df.length = 32 * dn) (la : Option Addr) (lc : Nat) (lx : List Value) (lg : Lg) (hu : u ≤ 1000000) (hlg : lg.length ≤ 1000000) (pl : List UInt8) (hpl : pl.length = 128) (pg : Nat) (ct : UInt64) (h : pg < 128) (hct : ¬ ct > 4294967296) (w : World) (h_0 : HP w00 w (Ent.blk ob .nw 90 [(1, [(.bool id)]), (32, ms.map vu8), (1, [(.slice da dn dc)]), (1, [(vi ((u : Nat) : Int))]), (1, [(.map (some mp))]), (1, [(.slice la lg.length lc)])] :: Ent.row la lg.length lc 64 67 lx :: Ent.obj mp .nw (.map (mArr lg) lg.length) :: Ent.pin (sblks lx) (fun w => Lgs w lx lg) :: Ent.view da (df.map vu8) :: L)) :
  Cs Try.prog 11 [(.pointer (some ⟨ob, 0, none⟩)), (vi ((pg : Nat) : Int)), (vu64 ct), (.agg ⟨pl.map vu8⟩)].toArray w (fun v w1 => ∃ la' lc' lx', v = (.tuple [(.agg ⟨(anD id df dn u lg (1, (List.replicate 32 (0 : UInt8)), 4, [pcB pg ct, pl].flatten)).map vu8⟩), (vi 0)].toArray) ∧ HP w00 w1 (Ent.blk ob .nw 90 [(1, [(.bool id)]), (32, ms.map vu8), (1, [(.slice da dn dc)]), (1, [(vi (((anU id u lg (1, (List.replicate 32 (0 : UInt8)), 4, [pcB pg ct, pl].flatten)) : Nat) : Int))]), (1, [(.map (some mp))]), (1, [(.slice la' ((anL id df dn u lg (1, (List.replicate 32 (0 : UInt8)), 4, [pcB pg ct, pl].flatten)).length) lc')])] :: Ent.row la' ((anL id df dn u lg (1, (List.replicate 32 (0 : UInt8)), 4, [pcB pg ct, pl].flatten)).length) lc' 64 67 lx' :: Ent.obj mp .nw (.map (mArr (anL id df dn u lg (1, (List.replicate 32 (0 : UInt8)), 4, [pcB pg ct, pl].flatten))) ((anL id df dn u lg (1, (List.replicate 32 (0 : UInt8)), 4, [pcB pg ct, pl].flatten)).length)) :: Ent.pin (sblks lx') (fun w => Lgs w lx' (anL id df dn u lg (1, (List.replicate 32 (0 : UInt8)), 4, [pcB pg ct, pl].flatten))) :: Ent.view da (df.map vu8) :: L)) := by
 refine Cs.of (n := 17) (args := [(pO ob 0), (vn pg), (vu64 ct), (.agg ⟨pl.map vu8⟩)]) Try.func11 rfl rfl rfl ?_
 refine WP.seq (WP.reg ?_)
 refine WL.box (segs := [(1, [(pO ob 0)])]) h_0 rfl rfl (sC sV sN) rfl (fun b_1 w_2 h_3 => ?_)
 refine WL.box (segs := [(128, pl.map vu8)]) h_3 rfl rfl (sC (s8 hpl) sN) rfl (fun b_4 w_5 h_6 => ?_)
 refine WL.alloc (segs := [(32, (zB 32).map vu8)]) h_6 (zv typeInfo23 rfl) rfl (sC (s8 lr) sN) rfl (fun b_7 w_8 h_9 => ?_)
 refine qA (vi 0) rfl rfl ?_
 refine WL.nil (thn_n (WP.seq (WP.reg ?_)))
 refine qV rfl (R.load1 rfl isAgg32 (h_9.ok _ M2) Sg.h) (qM (vn pg) rfl rfl (qM (vu64 ct) rfl rfl (qV rfl (R.makeFuncL (fi := []) (ca := [(pO b_1 0), (pO b_4 0)]) rfl rfl) ?_)))
 have h_16 := ((((((h_9.up J1).up J2).up J7).up J7).up J7).up J7).up J7
 have h32_w_20 := Lgs.ok32 (h_16.ok _ M3).1
 refine WL.call Try.call32 rfl rfl (c_withL id ob mp ms df hms da dn dc u hdf la lc lx lg hu hlg pl hpl b_1 b_4 pg ct (by omega) hct _ h_16) rfl ?_
 rintro _ w_20 ⟨la_17, lc_18, lx_19, rfl, h_21⟩
 refine qV rfl (R.extract rfl rfl) (qV rfl (R.extract rfl rfl) ?_)
 refine WL.storeA [] [(32, (zB 32).map vu8)] [(32, (anD id df dn u lg (1, (zB 32), 4, [pcB pg ct, pl].flatten)).map vu8)] [] h_21 rfl rfl sizeOf23 Y7 (by decide) rfl rfl rfl rfl rfl rfl (sC (s8 (anD_len hdf h32_w_20)) sN) (fun w_22 h_23 => ?_)
 refine qA (vi 0) rfl rfl ?_
 refine WL.nil (thn_n (WP.ret ?_))
 refine ret_of results11 (RV.cell rfl (h_23.loadA (cs := (anD id df dn u lg (1, (zB 32), 4, [pcB pg ct, pl].flatten)).map vu8) isAgg23 sizeOf23 M7 rfl rfl) (RV.tmp (v := (vi 0)) rfl RV.nil)) ?_
 have h_34 := ((((((((((h_23.up J5).drop rfl).up J5).drop rfl).up J5).drop rfl).up J4).up J4).up J4).up J4).up J4
 exact ⟨_, _, _, rfl, h_34⟩

end Go.Proofs.Yteclkcpdclimnaa

namespace Go.Proofs.Yteclkcpdclimnaa
open Go.Proofs.Try
open Go.Vc Go.Orc Go.Sh Go.RowKit
set_option maxRecDepth 20000
theorem pl70 : ∀ fs, Try.prog.underlying 70 = some (.struct fs) → Places Try.prog fs [(0, 1), (1, 32), (33, 1), (34, 1), (35, 1)] := by
 intro fs h w; rw [underlying70] at h; cases h; simp
theorem c_None1 {w00 : World} {L : List Ent} (id : Bool) (ob mp : Nat) (ms df : List UInt8) (hms : ms.length = 32) (da : Option Addr) (dn dc u : Nat) (hdf : df.length = 32 * dn) (la : Option Addr) (lc : Nat) (lx : List Value) (lg : Lg) (hu : u ≤ 1000000) (hlg : lg.length ≤ 1000000) (data : List UInt8) (qa : Option Addr) (qn qc : Nat) (hdl : data.length = qn) (hqn : qn ≤ 100000) (hqc : qn ≤ qc) (hq8 : 8 ≤ qn) (b1 : Nat) (w : World) (h_0 : HP w00 w (Ent.blk ob .nw 90 [(1, [(.bool id)]), (32, ms.map vu8), (1, [(.slice da dn dc)]), (1, [(vi ((u : Nat) : Int))]), (1, [(.map (some mp))]), (1, [(.slice la lg.length lc)])] :: Ent.row la lg.length lc 64 67 lx :: Ent.obj mp .nw (.map (mArr lg) lg.length) :: Ent.pin (sblks lx) (fun w => Lgs w lx lg) :: Ent.view da (df.map vu8) :: Ent.view qa (data.map vu8) :: Ent.blk b1 .nw 32 [(1, [(.pointer (some ⟨ob, 0, none⟩))])] :: L)) :
  Cs Try.prog 35 [(.slice qa qn qc), (.pointer (some ⟨b1, 0, none⟩))].toArray w (fun v w1 => ∃ la' lc' lx', v = (.tuple [(.agg ⟨(anD id df dn u lg (1, (List.replicate 32 (0 : UInt8)), 6, [(data.drop 0).take 8].flatten)).map vu8⟩), (vi 0)].toArray) ∧ HP w00 w1 (Ent.blk ob .nw 90 [(1, [(.bool id)]), (32, ms.map vu8), (1, [(.slice da dn dc)]), (1, [(vi (((anU id u lg (1, (List.replicate 32 (0 : UInt8)), 6, [(data.drop 0).take 8].flatten)) : Nat) : Int))]), (1, [(.map (some mp))]), (1, [(.slice la' ((anL id df dn u lg (1, (List.replicate 32 (0 : UInt8)), 6, [(data.drop 0).take 8].flatten)).length) lc')])] :: Ent.row la' ((anL id df dn u lg (1, (List.replicate 32 (0 : UInt8)), 6, [(data.drop 0).take 8].flatten)).length) lc' 64 67 lx' :: Ent.obj mp .nw (.map (mArr (anL id df dn u lg (1, (List.replicate 32 (0 : UInt8)), 6, [(data.drop 0).take 8].flatten))) ((anL id df dn u lg (1, (List.replicate 32 (0 : UInt8)), 6, [(data.drop 0).take 8].flatten)).length)) :: Ent.pin (sblks lx') (fun w => Lgs w lx' (anL id df dn u lg (1, (List.replicate 32 (0 : UInt8)), 6, [(data.drop 0).take 8].flatten))) :: Ent.view da (df.map vu8) :: Ent.blk b1 .nw 32 [(1, [(.pointer (some ⟨ob, 0, none⟩))])] :: L)) := by
 refine Cs.of (n := 12) (args := [(.slice qa qn qc), (pO b1 0)]) Try.func35 rfl rfl rfl ?_
 refine WP.seq (WP.reg ?_)
 refine WL.alloc (segs := [(32, (zB 32).map vu8)]) h_0 (zv typeInfo23 rfl) rfl (sC (s8 lr) sN) rfl (fun b_1 w_2 h_3 => ?_)
 refine qA (vi 0) rfl rfl ?_
 refine WL.nil (thn_n (WP.seq ?_))
 refine WP.drawT (SL w00.heap.size [.view qa (data.map vu8), .blk b1 .nw 32 [(1, [(pO ob 0)])]]) (.q 0 (.q 1 (.q 2 (.s 3 (.s 4 (.q 5 (.q 6 (.s 7 (.q 8 .nil))))))))) (by kernel_rfl) (by kernel_rfl) rfl (by kernel_rfl) (fun w_4 hc_6 => (SL.cons ((h_3.same hc_6).ok _ M6) (SL.cons ((h_3.same hc_6).ok _ M7) (SL.nil _ _)))) (fun w_4 hc_6 => ?_)
 have h_5 := h_3.same hc_6
 refine qT rfl rfl (fun wq hS => R.load1 rfl isAgg32 (hS _ M1) Sg.h) ?_
 refine qT rfl rfl (fun wq hS => R.move (v := (.slice qa qn qc)) rfl) ?_
 refine qT rfl rfl (fun wq hS => R.sliceS (a := qa) (len := qn) (l := 0) (h := 8) rfl EvB.dflt (EvB.it (l := 8) rfl rfl) (by decide) (by omega) underlying54 sizeOf5) ?_
 refine WT.s (oN rfl ?_)
 refine WL.buildSl (vs := [(0, (.slice (slA qa 0 qc 1) 8 qc))]) (cs := [(.slice (slA qa 0 qc 1) 8 qc)]) h_5 underlying101 sizeOf54 (zv typeInfo54 rfl) rfl rfl (by kernel_rfl) rfl (by simp [Value.oneCell']) rfl rfl (fun b_7 w_8 h_9 => ?_)
 refine WL.nil ?_
 refine ⟨(N7_8 h_9.ok), ?_⟩
 refine WT.s (oN rfl ?_)
 have h_10 := h_9.within (e' := .view (slA qa 0 qc 1) (((data.drop 0).take 8).map vu8)) M7 rfl (View.arg (View.slM (l := 0) (m := qc) (k := 8) (viewV (h_9.ok _ M7)) (by omega))) rfl rfl (fun b hb_ => sub_blk (by rw [len_map hdl]; first | decide | omega) b hb_)
 have h_11 := h_10.up J1
 have h_12 := HP_blkView h_11
 have hbl_13 : ∀ b ∈ sblks [(.slice (slA qa 0 qc 1) 8 qc)], ∃ e ∈ ((Ent.view (some ⟨b_7, 0, none⟩) [(.slice (slA qa 0 qc 1) 8 qc)] :: Ent.view (slA qa 0 qc 1) (((data.drop 0).take 8).map vu8) :: Ent.blk b_1 .nw 23 [(32, (List.replicate 32 (0 : UInt8)).map vu8)] :: Ent.blk ob .nw 90 [(1, [(.bool id)]), (32, ms.map vu8), (1, [(.slice da dn dc)]), (1, [(vi ((u : Nat) : Int))]), (1, [(.map (some mp))]), (1, [(.slice la lg.length lc)])] :: Ent.row la lg.length lc 64 67 lx :: Ent.obj mp .nw (.map (mArr lg) lg.length) :: Ent.pin (sblks lx) (fun w => Lgs w lx lg) :: Ent.view da (df.map vu8) :: Ent.view qa (data.map vu8) :: Ent.blk b1 .nw 32 [(1, [(.pointer (some ⟨ob, 0, none⟩))])] :: L) : List Ent), e.mut = false ∧ b ∈ e.blocks := by
  intro b hb
  rcases List.mem_append.1 hb with hb | hb
  ·exact ⟨_, M1, rfl, sblk_in_view (subLen (K := qn) hdl (by omega) : List.length ((data.drop 0).take 8) = 8) b hb⟩
  cases hb
 have h_14 := HP_within (e' := .pin (sblks [(.slice (slA qa 0 qc 1) 8 qc)]) (fun w => Sls w [(.slice (slA qa 0 qc 1) 8 qc)] [(data.drop 0).take 8])) h_12 (Sls.pin (Sls.cons (subLen (K := qn) hdl (by omega) : List.length ((data.drop 0).take 8) = 8) (by omega) (viewV (h_12.ok _ M1)) Sls.nil)) rfl rfl hbl_13
 have h_21 := ((((((h_14.up J1).up J1).up J8).up J8).up J8).up J8).up J8
 have h32_w_25 := Lgs.ok32 (h_21.ok _ M3).1
 refine WL.call Try.call34 rfl rfl (c_oDigest id ob mp ms df hms da dn dc u hdf la lc lx lg hu hlg (some ⟨b_7, 0, none⟩) 1 1 [(.slice (slA qa 0 qc 1) 8 qc)] [(data.drop 0).take 8] rfl 6 (by omega) (by simp only [List.flatten_cons, List.flatten_nil, List.length_append, List.length_nil, List.length_take]; omega) (by omega) _ h_21) rfl ?_
 rintro _ w_25 ⟨la_22, lc_23, lx_24, rfl, h_26⟩
 refine WL.nil ?_
 refine ⟨(N9_10 h_26.ok), ?_⟩
 refine qT rfl rfl (fun wq hS => R.extract rfl rfl) ?_
 refine qT rfl rfl (fun wq hS => R.extract rfl rfl) ?_
 refine WT.s (oN rfl ?_)
 refine WL.storeA [] [(32, (zB 32).map vu8)] [(32, (anD id df dn u lg (1, (zB 32), 6, [(data.drop 0).take 8].flatten)).map vu8)] [] h_26 rfl rfl sizeOf23 Y8 (by decide) rfl rfl rfl rfl rfl rfl (sC (s8 (anD_len hdf h32_w_25)) sN) (fun w_27 h_28 => ?_)
 refine WL.nil ?_
 refine ⟨(N9_10 h_28.ok), ?_⟩
 refine qT rfl rfl (fun wq hS => R.assign (v := (vi 0)) rfl) ?_
 refine WT.nil (thn_n (WP.ret ?_))
 refine ret_of results35 (RV.cell rfl (h_28.loadA (cs := (anD id df dn u lg (1, (zB 32), 6, [(data.drop 0).take 8].flatten)).map vu8) isAgg23 sizeOf23 M8 rfl rfl) (RV.tmp (v := (vi 0)) rfl RV.nil)) ?_
 have h_44 := (((((((((((((((h_28.up J5).drop rfl).up J5).drop rfl).up J5).drop rfl).up J5).drop rfl).up J5).drop rfl).up J5).up J5).up J5).up J5).up J5).up J5
 exact ⟨_, _, _, rfl, h_44⟩

theorem pc_8 (pg : Nat) (ct : UInt64) : [((pcB pg ct).drop 0).take 8].flatten = leN 8 (UInt64.ofNat pg).toNat := by
 simp only [pcB, List.drop_zero, List.flatten_cons, List.flatten_nil, List.append_nil]
 exact List.take_left' (leN_len ..)

theorem c_withN {w00 : World} {L : List Ent} (id : Bool) (ob mp : Nat) (ms df : List UInt8) (hms : ms.length = 32) (da : Option Addr) (dn dc u : Nat) (hdf : df.length = 32 * dn) (la : Option Addr) (lc : Nat) (lx : List Value) (lg : Lg) (hu : u ≤ 1000000) (hlg : lg.length ≤ 1000000) (b1 : Nat) (pg : Nat) (ct : UInt64) (h : pg < 128) (hct : ¬ ct > 4294967296) (w : World) (h_0 : HP w00 w (Ent.blk ob .nw 90 [(1, [(.bool id)]), (32, ms.map vu8), (1, [(.slice da dn dc)]), (1, [(vi ((u : Nat) : Int))]), (1, [(.map (some mp))]), (1, [(.slice la lg.length lc)])] :: Ent.row la lg.length lc 64 67 lx :: Ent.obj mp .nw (.map (mArr lg) lg.length) :: Ent.pin (sblks lx) (fun w => Lgs w lx lg) :: Ent.view da (df.map vu8) :: Ent.blk b1 .nw 32 [(1, [(.pointer (some ⟨ob, 0, none⟩))])] :: L)) :
  Cs Try.prog 32 [(.pointer (some ⟨ob, 0, none⟩)), (vi ((pg : Nat) : Int)), (vu64 ct), (Value.func (Fn.func 35) [].toArray [(Value.pointer (some ⟨b1, 0, none⟩))].toArray)].toArray w (fun v w1 => ∃ la' lc' lx', v = (.tuple [(.agg ⟨(anD id df dn u lg (1, (List.replicate 32 (0 : UInt8)), 6, leN 8 (UInt64.ofNat pg).toNat)).map vu8⟩), (vi 0)].toArray) ∧ HP w00 w1 (Ent.blk ob .nw 90 [(1, [(.bool id)]), (32, ms.map vu8), (1, [(.slice da dn dc)]), (1, [(vi (((anU id u lg (1, (List.replicate 32 (0 : UInt8)), 6, leN 8 (UInt64.ofNat pg).toNat)) : Nat) : Int))]), (1, [(.map (some mp))]), (1, [(.slice la' ((anL id df dn u lg (1, (List.replicate 32 (0 : UInt8)), 6, leN 8 (UInt64.ofNat pg).toNat)).length) lc')])] :: Ent.row la' ((anL id df dn u lg (1, (List.replicate 32 (0 : UInt8)), 6, leN 8 (UInt64.ofNat pg).toNat)).length) lc' 64 67 lx' :: Ent.obj mp .nw (.map (mArr (anL id df dn u lg (1, (List.replicate 32 (0 : UInt8)), 6, leN 8 (UInt64.ofNat pg).toNat))) ((anL id df dn u lg (1, (List.replicate 32 (0 : UInt8)), 6, leN 8 (UInt64.ofNat pg).toNat)).length)) :: Ent.pin (sblks lx') (fun w => Lgs w lx' (anL id df dn u lg (1, (List.replicate 32 (0 : UInt8)), 6, leN 8 (UInt64.ofNat pg).toNat))) :: Ent.view da (df.map vu8) :: Ent.blk b1 .nw 32 [(1, [(.pointer (some ⟨ob, 0, none⟩))])] :: L)) := by
 refine Cs.of (n := 30) (args := [(pO ob 0), (vn pg), (vu64 ct), (Value.func (Fn.func 35) [].toArray [(Value.pointer (some ⟨b1, 0, none⟩))].toArray)]) Try.func32 rfl rfl rfl ?_
 refine WP.seq (WP.reg ?_)
 refine WL.alloc (segs := [(32, (zB 32).map vu8)]) h_0 (zv typeInfo23 rfl) rfl (sC (s8 lr) sN) rfl (fun b_1 w_2 h_3 => ?_)
 refine qA (vi 0) rfl rfl ?_
 refine WL.nil (thn_n (WP.seq (WP.seq (WP.reg ?_))))
 refine qM (pO ob 0) rfl rfl (qM (vn pg) rfl rfl (qM (vu64 ct) rfl rfl ?_))
 refine WL.call Try.call55 rfl rfl (c_bask_ok id ob mp ms hms da dn dc u la lg.length lc pg ct (by omega) hct _ (h_3.argR M1)) rfl ?_
 rintro _ w_5 ⟨rfl, hc_4⟩
 have h_6 := h_3.same hc_4
 refine qA (vi 0) rfl rfl ?_
 refine WL.nil (thn_n (WP.seq (WP.reg ?_)))
 refine qM (vi 0) rfl rfl (qV rfl (R.bin rfl rfl (bi_neq (r := false) (by decide))) ?_)
 refine WL.nil (thn_n ?_)
 refine WP.condF rfl ?_
 refine WP.skip (thn_n (WP.seq (WP.reg ?_)))
 refine qM (Value.func (Fn.func 35) [].toArray [(Value.pointer (some ⟨b1, 0, none⟩))].toArray) rfl rfl (qM (vn pg) rfl rfl (qV rfl (R.conv (b := ((UInt64.ofNat pg) : UInt64).toNat) rfl underlying3 underlying27 (w64_nat pg)) ?_))
 refine WL.call Try.call57 rfl rfl (c_bword (UInt64.ofNat pg) _) rfl ?_
 rintro _ w_9 ⟨a_7, cap_8, rfl, hc_10, ho_11⟩
 have h_12 := h_6.gotRow hc_10 ho_11
 refine qM (vu64 ct) rfl rfl ?_
 refine WL.call Try.call57 rfl rfl (c_bword ct _) rfl ?_
 rintro _ w_15 ⟨a_13, cap_14, rfl, hc_16, ho_17⟩
 have h_18 := h_12.gotRow hc_16 ho_17
 refine WL.buildSl (vs := [(0, (.slice a_7 8 cap_8)), (1, (.slice a_13 8 cap_14))]) (cs := [(.slice a_7 8 cap_8), (.slice a_13 8 cap_14)]) h_18 underlying101 sizeOf54 (zv typeInfo54 rfl) rfl rfl (by kernel_rfl) rfl (by simp [Value.oneCell']) rfl rfl (fun b_19 w_20 h_21 => ?_)
 refine WL.call Try.call56 rfl rfl (c_wJoin (some ⟨b_19, 0, none⟩) 2 2 [(.slice a_7 8 cap_8), (.slice a_13 8 cap_14)] [leN 8 (UInt64.ofNat pg).toNat, leN 8 ct.toNat] rfl (by have := pcB_len pg ct; simp only [pcB] at this; omega) (by omega) _ (viewB (h_21.ok _ M0) Sg.h) (Sls.cons (leN_len ..) (h_21.own M2).2.2.1 (ownView (h_21.ok _ M2)) (Sls.cons (leN_len ..) (h_21.own M1).2.2.1 (ownView (h_21.ok _ M1)) Sls.nil))) rfl ?_
 rintro _ w_24 ⟨a_22, cap_23, rfl, hc_25, ho_26⟩
 have h_27 := h_21.gotRow hc_25 ho_26
 have hcp_28 := (h_27.own M0).2.2.1
 have h_29 := h_27.rowView
 have h_36 := ((((((h_29.up J10).up J1).up J10).up J10).up J10).up J10).up J10
 have h32_w_40 := Lgs.ok32 (h_36.ok _ M3).1
 refine WL.call Try.call35 rfl rfl (c_None1 id ob mp ms df hms da dn dc u hdf la lc lx lg hu hlg ([leN 8 (UInt64.ofNat pg).toNat, leN 8 ct.toNat].flatten) a_22 ([leN 8 (UInt64.ofNat pg).toNat, leN 8 ct.toNat].flatten.length) cap_23 (rfl : List.length ([leN 8 (UInt64.ofNat pg).toNat, leN 8 ct.toNat].flatten) = [leN 8 (UInt64.ofNat pg).toNat, leN 8 ct.toNat].flatten.length) (by have := pcB_len pg ct; simp only [pcB] at this; omega) hcp_28 (by have := pcB_len pg ct; simp only [pcB] at this; omega) b1 _ h_36) rfl ?_
 rintro _ w_40 ⟨la_37, lc_38, lx_39, rfl, h_41⟩
 refine qV rfl (R.extract rfl rfl) (qV rfl (R.extract rfl rfl) ?_)
 refine WL.storeA [] [(32, (zB 32).map vu8)] [(32, (anD id df dn u lg (1, (zB 32), 6, [(([leN 8 (UInt64.ofNat pg).toNat, leN 8 ct.toNat].flatten).drop 0).take 8].flatten)).map vu8)] [] h_41 rfl rfl sizeOf23 Y9 (by decide) rfl rfl rfl rfl rfl rfl (sC (s8 (anD_len hdf h32_w_40)) sN) (fun w_42 h_43 => ?_)
 refine qA (vi 0) rfl rfl ?_
 refine WL.nil (thn_n (WP.ret ?_))
 refine ret_of results32 (RV.cell rfl (h_43.loadA (cs := (anD id df dn u lg (1, (zB 32), 6, [(([leN 8 (UInt64.ofNat pg).toNat, leN 8 ct.toNat].flatten).drop 0).take 8].flatten)).map vu8) isAgg23 sizeOf23 M9 rfl rfl) (RV.tmp (v := (vi 0)) rfl RV.nil)) ?_
 have h_57 := (((((((((((((h_43.up J6).drop rfl).up J6).drop rfl).up J6).drop rfl).up J6).drop rfl).up J5).up J5).up J5).up J5).up J5).up J5
 have e2 : ((1, (List.replicate 32 (0 : UInt8)), 6, leN 8 (UInt64.ofNat pg).toNat) : Qn) = (1, (List.replicate 32 (0 : UInt8)), 6, [((pcB pg ct).drop 0).take 8].flatten) := by rw [pc_8]
 exact ⟨_, _, _, by rw [e2]; rfl, by rw [e2]; exact h_57⟩

theorem c_None {w00 : World} {L : List Ent} (id : Bool) (ob mp : Nat) (ms df : List UInt8) (hms : ms.length = 32) (da : Option Addr) (dn dc u : Nat) (hdf : df.length = 32 * dn) (la : Option Addr) (lc : Nat) (lx : List Value) (lg : Lg) (hu : u ≤ 1000000) (hlg : lg.length ≤ 1000000) (pg : Nat) (h : pg < 128) (w : World) (h_0 : HP w00 w (Ent.blk ob .nw 90 [(1, [(.bool id)]), (32, ms.map vu8), (1, [(.slice da dn dc)]), (1, [(vi ((u : Nat) : Int))]), (1, [(.map (some mp))]), (1, [(.slice la lg.length lc)])] :: Ent.row la lg.length lc 64 67 lx :: Ent.obj mp .nw (.map (mArr lg) lg.length) :: Ent.pin (sblks lx) (fun w => Lgs w lx lg) :: Ent.view da (df.map vu8) :: L)) :
  Cs Try.prog 12 [(.pointer (some ⟨ob, 0, none⟩)), (vi ((pg : Nat) : Int))].toArray w (fun v w1 => ∃ la' lc' lx', v = (.tuple [(.agg ⟨(anD id df dn u lg (1, (List.replicate 32 (0 : UInt8)), 6, leN 8 (UInt64.ofNat pg).toNat)).map vu8⟩), (vi 0)].toArray) ∧ HP w00 w1 (Ent.blk ob .nw 90 [(1, [(.bool id)]), (32, ms.map vu8), (1, [(.slice da dn dc)]), (1, [(vi (((anU id u lg (1, (List.replicate 32 (0 : UInt8)), 6, leN 8 (UInt64.ofNat pg).toNat)) : Nat) : Int))]), (1, [(.map (some mp))]), (1, [(.slice la' ((anL id df dn u lg (1, (List.replicate 32 (0 : UInt8)), 6, leN 8 (UInt64.ofNat pg).toNat)).length) lc')])] :: Ent.row la' ((anL id df dn u lg (1, (List.replicate 32 (0 : UInt8)), 6, leN 8 (UInt64.ofNat pg).toNat)).length) lc' 64 67 lx' :: Ent.obj mp .nw (.map (mArr (anL id df dn u lg (1, (List.replicate 32 (0 : UInt8)), 6, leN 8 (UInt64.ofNat pg).toNat))) ((anL id df dn u lg (1, (List.replicate 32 (0 : UInt8)), 6, leN 8 (UInt64.ofNat pg).toNat)).length)) :: Ent.pin (sblks lx') (fun w => Lgs w lx' (anL id df dn u lg (1, (List.replicate 32 (0 : UInt8)), 6, leN 8 (UInt64.ofNat pg).toNat))) :: Ent.view da (df.map vu8) :: L)) := by
 refine Cs.of (n := 12) (args := [(pO ob 0), (vn pg)]) Try.func12 rfl rfl rfl ?_
 refine WP.seq (WP.reg ?_)
 refine WL.box (segs := [(1, [(pO ob 0)])]) h_0 rfl rfl (sC sV sN) rfl (fun b_1 w_2 h_3 => ?_)
 refine WL.alloc (segs := [(32, (zB 32).map vu8)]) h_3 (zv typeInfo23 rfl) rfl (sC (s8 lr) sN) rfl (fun b_4 w_5 h_6 => ?_)
 refine qA (vi 0) rfl rfl ?_
 refine WL.nil (thn_n (WP.seq (WP.reg ?_)))
 refine qV rfl (R.load1 rfl isAgg32 (h_6.ok _ M1) Sg.h) (qM (vn pg) rfl rfl (qV rfl (R.makeFuncL (fi := []) (ca := [(pO b_1 0)]) rfl rfl) ?_))
 have h_12 := (((((h_6.up J1).up J6).up J6).up J6).up J6).up J6
 have h32_w_16 := Lgs.ok32 (h_12.ok _ M3).1
 refine WL.call Try.call32 rfl rfl (c_withN id ob mp ms df hms da dn dc u hdf la lc lx lg hu hlg b_1 pg (0 : UInt64) (by omega) (by decide) _ h_12) rfl ?_
 rintro _ w_16 ⟨la_13, lc_14, lx_15, rfl, h_17⟩
 refine qV rfl (R.extract rfl rfl) (qV rfl (R.extract rfl rfl) ?_)
 refine WL.storeA [] [(32, (zB 32).map vu8)] [(32, (anD id df dn u lg (1, (zB 32), 6, leN 8 (UInt64.ofNat pg).toNat)).map vu8)] [] h_17 rfl rfl sizeOf23 Y6 (by decide) rfl rfl rfl rfl rfl rfl (sC (s8 (anD_len hdf h32_w_16)) sN) (fun w_18 h_19 => ?_)
 refine qA (vi 0) rfl rfl ?_
 refine WL.nil (thn_n (WP.ret ?_))
 refine ret_of results12 (RV.cell rfl (h_19.loadA (cs := (anD id df dn u lg (1, (zB 32), 6, leN 8 (UInt64.ofNat pg).toNat)).map vu8) isAgg23 sizeOf23 M6 rfl rfl) (RV.tmp (v := (vi 0)) rfl RV.nil)) ?_
 have h_28 := ((((((((h_19.up J5).drop rfl).up J5).drop rfl).up J4).up J4).up J4).up J4).up J4
 exact ⟨_, _, _, rfl, h_28⟩

theorem c_May16 (pg : Nat) (ct : UInt64) (h : pg < 128) (w : World) :
  Cs Try.prog 7 [(vi ((pg : Nat) : Int)), (vu64 ct)].toArray w (fun v w1 => v = (.bool (decide (ct ≤ 4294967296))) ∧ Chg w w1 []) := by
 refine Cs.of (n := 15) (args := [(vn pg), (vu64 ct)]) Try.func7 rfl rfl rfl ?_
 have h_0 := HP.init w
 refine WP.seq (WP.reg ?_)
 refine qA (.bool false) rfl rfl ?_
 refine WL.nil (thn_n (WP.seq (WP.reg ?_)))
 refine qM (vn pg) rfl rfl (qV rfl (R.bin rfl rfl (bi_geq (r := decide ((((pg : Nat) : Int) : Int) ≥ 0)) rfl)) (qM (.bool (decide ((((pg : Nat) : Int) : Int) ≥ 0))) rfl rfl ?_))
 refine WL.want rfl (congrArg Value.bool (decide_eq_true (by omega))) ?_
 refine qM (vn pg) rfl rfl ?_
 refine WL.want rfl (congrArg Value.bool (decide_eq_true (by omega))) ?_
 refine qV rfl (R.bin rfl rfl (bi_lss (r := decide ((((pg : Nat) : Int) : Int) < 128)) rfl)) (qV rfl (R.pickT (v := (.bool (decide ((((pg : Nat) : Int) : Int) < 128)))) (congrArg Value.bool (decide_eq_true (by omega))) rfl) (qM (.bool (decide ((((pg : Nat) : Int) : Int) < 128))) rfl rfl ?_))
 refine WL.want rfl (congrArg Value.bool (decide_eq_true (by omega))) ?_
 refine qM (vu64 ct) rfl rfl ?_
 refine WL.want rfl (congrArg Value.bool (decide_eq_true (by omega))) ?_
 refine qV rfl (R.bin (v := (.bool (decide ((ct : UInt64) ≤ 4294967296)))) rfl rfl (b64_leq ct 4294967296 (r := decide ((ct : UInt64) ≤ 4294967296)) rfl)) (qV rfl (R.pickT (v := (.bool (decide ((ct : UInt64) ≤ 4294967296)))) (congrArg Value.bool (decide_eq_true (by omega))) rfl) (qA (.bool (decide ((ct : UInt64) ≤ 4294967296))) rfl rfl ?_))
 refine WL.nil (thn_n (WP.ret ?_))
 refine ret_of results7 (RV.tmp (v := (.bool (decide ((ct : UInt64) ≤ 4294967296)))) rfl RV.nil) ?_
 exact ⟨rfl, h_0.chgS⟩

theorem c_May16_no (pg : Int) (hpg : ¬ (0 ≤ pg ∧ pg < 128)) (ct : UInt64) (w : World) :
  Cs Try.prog 7 [(vi pg), (vu64 ct)].toArray w (fun v w1 => v = (.bool false) ∧ Chg w w1 []) := by
 refine Cs.of (n := 15) (args := [(vi pg), (vu64 ct)]) Try.func7 rfl rfl rfl ?_
 have h_0 := HP.init w
 refine WP.seq (WP.reg ?_)
 refine qA (.bool false) rfl rfl ?_
 refine WL.nil (thn_n (WP.seq (WP.reg ?_)))
 refine qM (vi pg) rfl rfl (qV rfl (R.bin rfl rfl (bi_geq (r := decide ((pg : Int) ≥ 0)) rfl)) (qM (.bool (decide ((pg : Int) ≥ 0))) rfl rfl ?_))
 rcases Bool.eq_false_or_eq_true (decide ((pg : Int) ≥ 0)) with c_1 | c_1
 ·have p_2 := of_decide_eq_true c_1
  refine WL.want rfl (congrArg Value.bool c_1) ?_
  refine qM (vi pg) rfl rfl ?_
  refine WL.want rfl (congrArg Value.bool c_1) ?_
  refine qV rfl (R.bin rfl rfl (bi_lss (r := decide ((pg : Int) < 128)) rfl)) (qV rfl (R.pickT (v := (.bool (decide ((pg : Int) < 128)))) (congrArg Value.bool c_1) rfl) (qM (.bool (decide ((pg : Int) < 128))) rfl rfl ?_))
  rcases Bool.eq_false_or_eq_true (decide ((pg : Int) < 128)) with c_3 | c_3
  ·have p_4 := of_decide_eq_true c_3
   refine WL.want rfl (congrArg Value.bool c_3) ?_
   refine qM (vu64 ct) rfl rfl ?_
   refine WL.want rfl (congrArg Value.bool c_3) ?_
   refine qV rfl (R.bin (v := (.bool (decide ((ct : UInt64) ≤ 4294967296)))) rfl rfl (b64_leq ct 4294967296 (r := decide ((ct : UInt64) ≤ 4294967296)) rfl)) (qV rfl (R.pickT (v := (.bool (decide ((ct : UInt64) ≤ 4294967296)))) (congrArg Value.bool c_3) rfl) (qA (.bool (decide ((ct : UInt64) ≤ 4294967296))) rfl rfl ?_))
   refine WL.nil (thn_n (WP.ret ?_))
   refine ret_of results7 (RV.tmp (v := (.bool (decide ((ct : UInt64) ≤ 4294967296)))) rfl RV.nil) ?_
   exact absurd ⟨by omega, by omega⟩ hpg
  ·have p_5 := of_decide_eq_false c_3
   refine WL.skip rfl (congrArg Value.bool c_3) rfl ?_
   refine WL.skip rfl (congrArg Value.bool c_3) rfl ?_
   refine qV rfl (R.pickF (v := (.bool false)) (congrArg Value.bool c_3) rfl) (qA (.bool false) rfl rfl ?_)
   refine WL.nil (thn_n (WP.ret ?_))
   refine ret_of results7 (RV.tmp (v := (.bool false)) rfl RV.nil) ?_
   exact ⟨rfl, h_0.chgS⟩
 ·have p_6 := of_decide_eq_false c_1
  refine WL.skip rfl (congrArg Value.bool c_1) rfl ?_
  refine WL.skip rfl (congrArg Value.bool c_1) rfl ?_
  refine qV rfl (R.pickF (v := (.bool false)) (congrArg Value.bool c_1) rfl) (qM (.bool false) rfl rfl ?_)
  refine WL.skip rfl rfl rfl ?_
  refine WL.skip rfl rfl rfl ?_
  refine qV rfl (R.pickF (v := (.bool false)) rfl rfl) (qA (.bool false) rfl rfl ?_)
  refine WL.nil (thn_n (WP.ret ?_))
  refine ret_of results7 (RV.tmp (v := (.bool false)) rfl RV.nil) ?_
  exact ⟨rfl, h_0.chgS⟩

theorem c_both16 {w00 : World} {L : List Ent} (id : Bool) (ms df : List UInt8) (hms : ms.length = 32) (da0 : Option Addr) (n cap0 : Nat) (hl : df.length = 32 * n) (hn : n ≤ 1000000) (w : World) (h_0 : HP w00 w (Ent.view da0 (df.map vu8) :: L)) :
  Cs Try.prog 8 [(.agg ⟨flat [(1, [(.bool id)]), (32, ms.map vu8), (1, [(.slice da0 n cap0)])]⟩)].toArray w (fun v w1 => ∃ ob mp da dc rb, v = .tuple [.pointer (some ⟨ob, 0, none⟩), .pointer (some ⟨rb, 0, none⟩)].toArray ∧ HP w00 w1 (Ent.blk ob .nw 90 [(1, [(.bool id)]), (32, ms.map vu8), (1, [(.slice da n dc)]), (1, [(vi 0)]), (1, [(.map (some mp))]), (1, [(.slice none 0 0)])] :: Ent.row none 0 0 64 67 [] :: Ent.obj mp .nw (.map (mArr ([] : Lg)) 0) :: Ent.pin (sblks []) (fun w => Lgs w [] ([] : Lg)) :: Ent.view da (df.map vu8) :: Ent.blk rb .nw 70 [(1, [(.bool id)]), (32, ms.map vu8), (1, [(.slice da0 n cap0)]), (1, [(vi 0)]), (1, [(.slice none 0 0)])] :: Ent.view da0 (df.map vu8) :: L)) := by
 refine Cs.of (n := 19) (args := [(.agg ⟨flat [(1, [(.bool id)]), (32, ms.map vu8), (1, [(.slice da0 n cap0)])]⟩)]) Try.func8 rfl rfl rfl ?_
 refine WP.seq (WP.reg ?_)
 refine WL.box (segs := [(1, [(.bool id)]), (32, ms.map vu8), (1, [(.slice da0 n cap0)])]) h_0 rfl rfl (sC sV (sC (s8 hms) (sC sV sN))) rfl (fun b_1 w_2 h_3 => ?_)
 refine qA (.pointer none) rfl rfl (qA (.pointer none) rfl rfl ?_)
 refine WL.nil (thn_n (WP.seq ?_))
 refine WP.cutG (G := Nat × Nat × Option Addr × Nat × Nat) [2, 3, 4, 5, 6, 7, 8, 9, 10, 11, 12, 13, 14, 15, 16, 17, 18] (fun (bY1Y6Y0Y0, bY1Y14Y0Y0, aY1Y6Y0Y0, cY1Y6Y0Y0, bY1Y6Y0Y1) => [(2, (pO bY1Y6Y0Y0 0)), (3, (pO bY1Y14Y0Y0 0)), (4, (pO b_1 0)), (5, (.bool id)), (6, (pO b_1 1)), (7, (.agg ⟨ms.map vu8⟩)), (8, (pO b_1 33)), (9, (.slice da0 n cap0)), (11, (pO b_1 0)), (12, (.bool id)), (13, (pO b_1 1)), (14, (.agg ⟨ms.map vu8⟩)), (15, (pO b_1 33)), (16, (.slice da0 n cap0)), (17, (.agg ⟨flat [(1, [(.bool id)]), (32, ms.map vu8), (1, [(.slice da0 n cap0)]), (1, [(vi 0)]), (1, [(.slice none 0 0)])]⟩)), (10, (pO bY1Y6Y0Y0 0)), (18, (pO bY1Y14Y0Y0 0))]) (fun (bY1Y6Y0Y0, bY1Y14Y0Y0, aY1Y6Y0Y0, cY1Y6Y0Y0, bY1Y6Y0Y1) w1 => HP w00 w1 (Ent.blk bY1Y14Y0Y0 .nw 70 [(1, [(.bool id)]), (32, ms.map vu8), (1, [(.slice da0 n cap0)]), (1, [(vi 0)]), (1, [(.slice none 0 0)])] :: Ent.blk bY1Y6Y0Y0 .nw 90 [(1, [(.bool id)]), (32, ms.map vu8), (1, [(.slice aY1Y6Y0Y0 n cY1Y6Y0Y0)]), (1, [(vi 0)]), (1, [(.map (some bY1Y6Y0Y1))]), (1, [(.slice none 0 0)])] :: Ent.row none 0 0 64 67 [] :: Ent.obj bY1Y6Y0Y1 .nw (.map (mArr ([] : Lg)) 0) :: Ent.pin (sblks []) (fun w => Lgs w [] ([] : Lg)) :: Ent.view aY1Y6Y0Y0 (df.map vu8) :: Ent.view da0 (df.map vu8) :: Ent.blk b_1 .nw 26 [(1, [(.bool id)]), (32, ms.map vu8), (1, [(.slice da0 n cap0)])] :: L)) ?_ ?_
 ·refine WP.drawT (SL w00.heap.size [.blk b_1 .nw 26 [(1, [(.bool id)]), (32, ms.map vu8), (1, [(.slice da0 n cap0)])], .view da0 (df.map vu8)]) (.q 0 (.q 1 (.q 2 (.q 3 (.q 4 (.q 5 (.q 7 (.q 8 (.q 9 (.q 10 (.q 11 (.q 12 (.q 13 (.s2 6 14 (.q 15 (.s 14 (.q 16 .nil))) (.s 6 (.q 15 (.q 16 .nil))))))))))))))))) (by kernel_rfl) (by kernel_rfl) rfl (by kernel_rfl) (fun w_4 hc_6 => (SL.cons ((h_3.same hc_6).ok _ M0) (SL.cons ((h_3.same hc_6).ok _ M1) (SL.nil _ _)))) (fun w_4 hc_6 => ?_)
  have h_5 := h_3.same hc_6
  refine qT rfl rfl (fun wq hS => R.fieldAddr (off' := 0) rfl underlying26 rfl sizeOf4 rfl rfl) ?_
  refine qT rfl rfl (fun wq hS => R.load1 rfl isAgg4 (hS _ M0) Sg.h) ?_
  refine qT rfl rfl (fun wq hS => R.fieldAddr (off' := 1) rfl underlying26 rfl sizeOf23 rfl rfl) ?_
  refine qT rfl rfl (fun wq hS => R.loadA [(1, [(.bool id)])] [(32, ms.map vu8)] [(1, [(.slice da0 n cap0)])] (cs := ms.map vu8) rfl isAgg23 sizeOf23 (hS _ M0) rfl rfl rfl rfl) ?_
  refine qT rfl rfl (fun wq hS => R.fieldAddr (off' := 33) rfl underlying26 rfl sizeOf24 rfl rfl) ?_
  refine qT rfl rfl (fun wq hS => R.load1 rfl isAgg24 (hS _ M0) (Sg.t rfl (Sg.t rfl Sg.h))) ?_
  refine qT rfl rfl (fun wq hS => R.fieldAddr (off' := 0) rfl underlying26 rfl sizeOf4 rfl rfl) ?_
  refine qT rfl rfl (fun wq hS => R.load1 rfl isAgg4 (hS _ M0) Sg.h) ?_
  refine qT rfl rfl (fun wq hS => R.fieldAddr (off' := 1) rfl underlying26 rfl sizeOf23 rfl rfl) ?_
  refine qT rfl rfl (fun wq hS => R.loadA [(1, [(.bool id)])] [(32, ms.map vu8)] [(1, [(.slice da0 n cap0)])] (cs := ms.map vu8) rfl isAgg23 sizeOf23 (hS _ M0) rfl rfl rfl rfl) ?_
  refine qT rfl rfl (fun wq hS => R.fieldAddr (off' := 33) rfl underlying26 rfl sizeOf24 rfl rfl) ?_
  refine qT rfl rfl (fun wq hS => R.load1 rfl isAgg24 (hS _ M0) (Sg.t rfl (Sg.t rfl Sg.h))) ?_
  refine qT rfl rfl (fun wq hS => R.buildS (pl := [(0, 1), (1, 32), (33, 1), (34, 1), (35, 1)]) (zs := [(1, [(.bool false)]), (32, (zB 32).map vu8), (1, [(.slice none 0 0)]), (1, [(vi 0)]), (1, [(.slice none 0 0)])]) (vs := [(0, (.bool id)), (1, (.agg ⟨ms.map vu8⟩)), (2, (.slice da0 n cap0))]) (out := [(1, [(.bool id)]), (32, ms.map vu8), (1, [(.slice da0 n cap0)]), (1, [(vi 0)]), (1, [(.slice none 0 0)])]) underlying70 (zv typeInfo70 rfl) rfl (sC sV (sC (s8 lr) (sC sV (sC sV (sC sV sN))))) (pl70 _ underlying70) rfl (FillR.cons [] [(1, [(.bool false)])] [(1, [(.bool id)])] [(32, (zB 32).map vu8), (1, [(.slice none 0 0)]), (1, [(vi 0)]), (1, [(.slice none 0 0)])] rfl rfl rfl rfl (sC sV sN) rfl rfl rfl (FillR.cons [(1, [(.bool id)])] [(32, (zB 32).map vu8)] [(32, ms.map vu8)] [(1, [(.slice none 0 0)]), (1, [(vi 0)]), (1, [(.slice none 0 0)])] rfl rfl rfl rfl (sC (s8 hms) sN) rfl rfl rfl (FillR.cons [(1, [(.bool id)]), (32, ms.map vu8)] [(1, [(.slice none 0 0)])] [(1, [(.slice da0 n cap0)])] [(1, [(vi 0)]), (1, [(.slice none 0 0)])] rfl rfl rfl rfl (sC sV sN) rfl rfl rfl FillR.nil))) rfl) ?_
  refine WT.s2 ?_ ?_
  ·refine oN rfl ?_
   have h_8 := h_5.up J1
   refine WL.call Try.call17 rfl rfl (c_ONew id ms df hms da0 n cap0 hl (by omega) _ h_8) rfl ?_
   rintro _ w_13 ⟨b_9, b_10, a_11, c_12, rfl, h_14⟩
   refine WL.nil ?_
   refine ⟨(SL.cons (h_14.ok _ M6) (SL.cons (h_14.ok _ M5) (SL.nil _ _))), ?_⟩
   refine qT rfl rfl (fun wq hS => R.assign (v := (pO b_9 0)) rfl) ?_
   refine WT.s (oN rfl ?_)
   refine WL.box (segs := [(1, [(.bool id)]), (32, ms.map vu8), (1, [(.slice da0 n cap0)]), (1, [(vi 0)]), (1, [(.slice none 0 0)])]) h_14 rfl rfl (sC sV (sC (s8 hms) (sC sV (sC sV (sC sV sN))))) rfl (fun b_15 w_16 h_17 => ?_)
   refine WL.nil ?_
   refine ⟨(SL.cons (h_17.ok _ M7) (SL.cons (h_17.ok _ M6) (SL.nil _ _))), ?_⟩
   refine qT rfl rfl (fun wq hS => R.assign (v := (pO b_15 0)) rfl) ?_
   refine WT.nil (thn_n ?_)
   exact ⟨(b_9, b_15, a_11, c_12, b_10), (Ag.upd rfl (U4 rfl rfl rfl rfl (U4 rfl rfl rfl rfl (U4 rfl rfl rfl rfl (U4 rfl rfl rfl rfl (Ag.refl _ _)))))), ⟨rfl, rfl, rfl, rfl, rfl, rfl, rfl, rfl, rfl, rfl, rfl, rfl, rfl, rfl, rfl, rfl, rfl, trivial⟩, h_17⟩
  ·refine oN rfl ?_
   refine WL.box (segs := [(1, [(.bool id)]), (32, ms.map vu8), (1, [(.slice da0 n cap0)]), (1, [(vi 0)]), (1, [(.slice none 0 0)])]) h_5 rfl rfl (sC sV (sC (s8 hms) (sC sV (sC sV (sC sV sN))))) rfl (fun b_18 w_19 h_20 => ?_)
   refine WL.nil ?_
   refine ⟨(N1_2 h_20.ok), ?_⟩
   refine WT.s (oN rfl ?_)
   have h_21 := h_20.up J2
   refine WL.call Try.call17 rfl rfl (c_ONew id ms df hms da0 n cap0 hl (by omega) _ h_21) rfl ?_
   rintro _ w_26 ⟨b_22, b_23, a_24, c_25, rfl, h_27⟩
   refine WL.nil ?_
   refine ⟨(SL.cons (h_27.ok _ M7) (SL.cons (h_27.ok _ M5) (SL.nil _ _))), ?_⟩
   refine qT rfl rfl (fun wq hS => R.assign (v := (pO b_22 0)) rfl) ?_
   refine qT rfl rfl (fun wq hS => R.assign (v := (pO b_18 0)) rfl) ?_
   refine WT.nil (thn_n ?_)
   have h_35 := (((((((h_27.up J7).up J6).up J6).up J6).up J6).up J6).up J6).up J7
   exact ⟨(b_22, b_18, a_24, c_25, b_23), (Ag.upd rfl (U4 rfl rfl rfl rfl (U4 rfl rfl rfl rfl (U4 rfl rfl rfl rfl (U4 rfl rfl rfl rfl (Ag.refl _ _)))))), ⟨rfl, rfl, rfl, rfl, rfl, rfl, rfl, rfl, rfl, rfl, rfl, rfl, rfl, rfl, rfl, rfl, rfl, trivial⟩, h_35⟩
 ·rintro ⟨b_39, b_40, a_41, c_42, b_43⟩ J_36 w_37 h_38
  refine thn_n (WP.ret ?_)
  refine ret_of results8 (RV.tmp (v := (pO b_39 0)) rfl (RV.tmp (v := (pO b_40 0)) rfl RV.nil)) ?_
  have h_52 := ((((((((h_38.up J7).drop rfl).up J6).up J1).up J6).up J6).up J6).up J6).up J6
  exact ⟨_, _, _, _, _, rfl, h_52⟩
end Go.Proofs.Yteclkcpdclimnaa

namespace Go.Proofs.Yteclkcpdclimnaa
open Go.Proofs.Try
open Go.Vc Go.Orc Go.Sh Go.RowKit
set_option maxRecDepth 20000

theorem c_Open {w00 : World} {L : List Ent} (id : Bool) (ob mp : Nat) (ms df : List UInt8) (hms : ms.length = 32) (da : Option Addr) (dn dc u : Nat) (hdf : df.length = 32 * dn) (la : Option Addr) (lc : Nat) (lx : List Value) (lg : Lg) (hu : u ≤ 500000) (hlg : lg.length ≤ 500000) (key pl : List UInt8) (hk : key.length = 32) (hpl : pl.length = 128) (pg : Nat) (ct : UInt64) (h : pg < 128) (hct : ¬ ct > 4294967296) (w : World) (h_0 : HP w00 w (Ent.blk ob .nw 90 [(1, [(.bool id)]), (32, ms.map vu8), (1, [(.slice da dn dc)]), (1, [(vi ((u : Nat) : Int))]), (1, [(.map (some mp))]), (1, [(.slice la lg.length lc)])] :: Ent.row la lg.length lc 64 67 lx :: Ent.obj mp .nw (.map (mArr lg) lg.length) :: Ent.pin (sblks lx) (fun w => Lgs w lx lg) :: Ent.view da (df.map vu8) :: L)) :
  Cs Try.prog 10 [(.pointer (some ⟨ob, 0, none⟩)), (.agg ⟨key.map vu8⟩), (vi ((pg : Nat) : Int)), (vu64 ct), (.agg ⟨pl.map vu8⟩)].toArray w (fun v w1 => ∃ la' lc' lx', v = (.tuple [(.agg ⟨(gx pl (gSt id df dn key 10 (pcB pg ct) u lg).2.2).map vu8⟩), (vi 0)].toArray) ∧ HP w00 w1 (Ent.blk ob .nw 90 [(1, [(.bool id)]), (32, ms.map vu8), (1, [(.slice da dn dc)]), (1, [(vi (((gSt id df dn key 10 (pcB pg ct) u lg).1 : Nat) : Int))]), (1, [(.map (some mp))]), (1, [(.slice la' ((gSt id df dn key 10 (pcB pg ct) u lg).2.1.length) lc')])] :: Ent.row la' ((gSt id df dn key 10 (pcB pg ct) u lg).2.1.length) lc' 64 67 lx' :: Ent.obj mp .nw (.map (mArr ((gSt id df dn key 10 (pcB pg ct) u lg).2.1)) ((gSt id df dn key 10 (pcB pg ct) u lg).2.1.length)) :: Ent.pin (sblks lx') (fun w => Lgs w lx' ((gSt id df dn key 10 (pcB pg ct) u lg).2.1)) :: Ent.view da (df.map vu8) :: L)) := by
 refine Cs.of (n := 20) (args := [(pO ob 0), (.agg ⟨key.map vu8⟩), (vn pg), (vu64 ct), (.agg ⟨pl.map vu8⟩)]) Try.func10 rfl rfl rfl ?_
 refine WP.seq (WP.reg ?_)
 refine WL.box (segs := [(32, key.map vu8)]) h_0 rfl rfl (sC (s8 hk) sN) rfl (fun b_1 w_2 h_3 => ?_)
 refine WL.box (segs := [(128, pl.map vu8)]) h_3 rfl rfl (sC (s8 hpl) sN) rfl (fun b_4 w_5 h_6 => ?_)
 refine WL.alloc (segs := [(128, (zB 128).map vu8)]) h_6 (zv typeInfo29 rfl) rfl (sC (s8 lr) sN) rfl (fun b_7 w_8 h_9 => ?_)
 refine qA (vi 0) rfl rfl ?_
 refine WL.nil (thn_n (WP.seq (WP.reg ?_)))
 refine qM (pO ob 0) rfl rfl (qV rfl (R.loadA [] [(32, key.map vu8)] [] (cs := key.map vu8) rfl isAgg23 sizeOf23 (h_9.ok _ M2) rfl rfl rfl rfl) (qM (vn pg) rfl rfl (qM (vu64 ct) rfl rfl (qV rfl (R.loadA [] [(128, pl.map vu8)] [] (cs := pl.map vu8) rfl isAgg29 sizeOf29 (h_9.ok _ M1) rfl rfl rfl rfl) ?_))))
 have h_14 := ((((h_9.up J7).up J7).up J7).up J7).up J7
 have h32_w_18 := Lgs.ok32 (h_14.ok _ M3).1
 refine WL.call Try.call9 rfl rfl (c_Seal id ob mp ms df hms da dn dc u hdf la lc lx lg (by omega) (by omega) key pl hk hpl pg ct (by omega) hct _ h_14) rfl ?_
 rintro _ w_18 ⟨la_15, lc_16, lx_17, rfl, h_19⟩
 refine qV rfl (R.extract rfl rfl) (qV rfl (R.extract rfl rfl) ?_)
 refine WL.storeA [] [(128, (zB 128).map vu8)] [(128, (gx pl (gSt id df dn key 10 (pcB pg ct) u lg).2.2).map vu8)] [] h_19 rfl rfl sizeOf29 Y5 (by decide) rfl rfl rfl rfl rfl rfl (sC (s8 (gx_len hpl (gSt_len hdf h32_w_18))) sN) (fun w_20 h_21 => ?_)
 refine qA (vi 0) rfl rfl ?_
 refine WL.nil (thn_n (WP.ret ?_))
 refine ret_of results10 (RV.cell rfl (h_21.loadA (cs := (gx pl (gSt id df dn key 10 (pcB pg ct) u lg).2.2).map vu8) isAgg29 sizeOf29 M5 rfl rfl) (RV.tmp (v := (vi 0)) rfl RV.nil)) ?_
 have h_32 := ((((((((((h_21.up J5).drop rfl).up J5).drop rfl).up J5).drop rfl).up J4).up J4).up J4).up J4).up J4
 exact ⟨_, _, _, rfl, h_32⟩

theorem c_OpenA {w00 : World} {L : List Ent} (id : Bool) (ob mp : Nat) (ms df : List UInt8) (hms : ms.length = 32) (da : Option Addr) (dn dc u : Nat) (hdf : df.length = 32 * dn) (la : Option Addr) (lc : Nat) (lx : List Value) (lg : Lg) (hu : u ≤ 400000) (hlg : lg.length ≤ 400000) (key pl : List UInt8) (hk : key.length = 32) (hpl : pl.length = 128) (pg : Nat) (ct : UInt64) (h : pg < 128) (hct : ¬ ct > 4294967296) (w : World) (h_0 : HP w00 w (Ent.blk ob .nw 90 [(1, [(.bool id)]), (32, ms.map vu8), (1, [(.slice da dn dc)]), (1, [(vi (((gSt id df dn key 10 (pcB pg ct) u lg).1 : Nat) : Int))]), (1, [(.map (some mp))]), (1, [(.slice la ((gSt id df dn key 10 (pcB pg ct) u lg).2.1.length) lc)])] :: Ent.row la ((gSt id df dn key 10 (pcB pg ct) u lg).2.1.length) lc 64 67 lx :: Ent.obj mp .nw (.map (mArr ((gSt id df dn key 10 (pcB pg ct) u lg).2.1)) ((gSt id df dn key 10 (pcB pg ct) u lg).2.1.length)) :: Ent.pin (sblks lx) (fun w => Lgs w lx ((gSt id df dn key 10 (pcB pg ct) u lg).2.1)) :: Ent.view da (df.map vu8) :: L)) :
  Cs Try.prog 10 [(.pointer (some ⟨ob, 0, none⟩)), (.agg ⟨key.map vu8⟩), (vi ((pg : Nat) : Int)), (vu64 ct), (.agg ⟨pl.map vu8⟩)].toArray w (fun v w1 => ∃ la' lc' lx', v = (.tuple [(.agg ⟨(gx pl (gSt id df dn key 10 (pcB pg ct) u lg).2.2).map vu8⟩), (vi 0)].toArray) ∧ HP w00 w1 (Ent.blk ob .nw 90 [(1, [(.bool id)]), (32, ms.map vu8), (1, [(.slice da dn dc)]), (1, [(vi (((gSt id df dn key 10 (pcB pg ct) u lg).1 : Nat) : Int))]), (1, [(.map (some mp))]), (1, [(.slice la' ((gSt id df dn key 10 (pcB pg ct) u lg).2.1.length) lc')])] :: Ent.row la' ((gSt id df dn key 10 (pcB pg ct) u lg).2.1.length) lc' 64 67 lx' :: Ent.obj mp .nw (.map (mArr ((gSt id df dn key 10 (pcB pg ct) u lg).2.1)) ((gSt id df dn key 10 (pcB pg ct) u lg).2.1.length)) :: Ent.pin (sblks lx') (fun w => Lgs w lx' ((gSt id df dn key 10 (pcB pg ct) u lg).2.1)) :: Ent.view da (df.map vu8) :: L)) := by
 have b1 := gSt_u (id := id) (df := df) (dn := dn) (key := key) (dm := 10) (data := pcB pg ct) (u := u) (lg := lg)
 have b2 := gSt_l (id := id) (df := df) (dn := dn) (key := key) (dm := 10) (data := pcB pg ct) (u := u) (lg := lg)
 refine (c_Open id ob mp ms df hms da dn dc _ hdf la lc lx _ (by omega) (by omega) key pl hk hpl pg ct h hct w h_0).mono fun v w1 hh => ?_
 obtain ⟨la', lc', lx', rfl, hh⟩ := hh
 rw [gSt_again] at hh
 rw [gSt_again]
 exact ⟨la', lc', lx', rfl, hh⟩

theorem c_distinct16 (a : Option Addr) (n cap : Nat) (df : List UInt8) (hl : df.length = 32 * n) (hn : n ≤ 1000000) (w : World) (hv : View w a (df.map vu8)) :
  Cs Try.prog 14 [(.slice a n cap)].toArray w (fun v w1 => ∃ b, v = .bool b ∧ (b = true → Apt df n) ∧ Chg w w1 []) := by
 refine Cs.of (n := 31) (args := [(.slice a n cap)]) Try.func14 rfl rfl rfl ?_
 have h_0 := HP.init w
 have h_00 := h_0.old (View.arg hv) (fun f hf => by cases hf)
 refine WP.seq (WP.reg ?_)
 refine qA (.bool false) rfl rfl ?_
 refine WL.nil (thn_n (WP.seq (WP.seq (WP.reg ?_))))
 refine qA (vi 0) rfl rfl ?_
 refine WL.nil (thn_n (WP.block ?_))
 refine WP.loopG (G := Nat) [2, 3, 4, 5, 6, 7, 8, 9, 10, 11, 12, 13, 14, 15, 16, 17, 18, 19, 20, 21, 22, 23, 24, 25, 26, 27, 28, 29, 30] (fun i => [(3, (vn i))]) (fun i m w1 => HP w w1 [.view a (df.map vu8)] ∧ (i ≤ n) ∧ (∀ j, j < i → (∀ k, k < j → dr df k ≠ dr df j) ∧ df.getD (j * 32 + 31) 0 ≠ 1) ∧ m = n + 1 - i) ⟨0, _, ⟨rfl, trivial⟩, h_00, Nat.zero_le _, (fun j hj => by omega), rfl⟩ ?_
 rintro i m_3 J_4 w_1 ⟨h_2, hin, hA, rfl⟩
 refine WP.seq (WP.seq (WP.reg ?_))
 refine qM (vn i) rfl rfl (qM (.slice a n cap) rfl rfl (qV rfl (R.lenS (a := a) (m := n) rfl rfl underlying24) (qV rfl (R.bin rfl rfl (bi_lss (r := decide ((((i : Nat) : Int) : Int) < ((n : Nat) : Int))) rfl)) ?_)))
 refine WL.nil (thn_n ?_)
 refine WP.cond (b := decide ((((i : Nat) : Int) : Int) < ((n : Nat) : Int))) rfl (fun c_5 => ?_) (fun c_5 => ?_)
 ·have p_6 := of_decide_eq_true c_5
  refine WP.skip (thn_n (WP.seq (WP.block (WP.seq (WP.seq (WP.reg ?_))))))
  refine qA (vi 0) rfl rfl ?_
  refine WL.nil (thn_n (WP.block ?_))
  refine WP.loopG (G := Nat) [2, 4, 11, 12, 13, 14, 15, 16, 17, 18, 19, 20, 21, 22, 23, 24] (fun q => [(4, (vn q))]) (fun q m w1 => HP w w1 [.view a (df.map vu8)] ∧ (q ≤ i) ∧ (∀ k, k < q → dr df k ≠ dr df i) ∧ m = i + 1 - q) ⟨0, _, ⟨rfl, trivial⟩, h_2, Nat.zero_le _, (fun j hj => by omega), rfl⟩ ?_
  rintro q m_9 J_10 w_7 ⟨h_8, hqi, hB, rfl⟩
  refine WP.seq (WP.seq (WP.reg ?_))
  refine qM (vn q) rfl rfl (qM (vn i) rfl rfl (qV rfl (R.bin rfl rfl (bi_lss (r := decide ((((q : Nat) : Int) : Int) < ((i : Nat) : Int))) rfl)) ?_))
  refine WL.nil (thn_n ?_)
  refine WP.cond (b := decide ((((q : Nat) : Int) : Int) < ((i : Nat) : Int))) rfl (fun c_11 => ?_) (fun c_11 => ?_)
  ·have p_12 := of_decide_eq_true c_11
   refine WP.skip (thn_n (WP.seq (WP.block (WP.seq ?_))))
   refine WP.drawT (SL w.heap.size [.view a (df.map vu8)]) (.q 0 (.q 1 (.q 2 (.q 3 (.q 4 (.q 5 (.q 6 (.q 7 (.q 8 .nil))))))))) (by kernel_rfl) (by kernel_rfl) rfl (by kernel_rfl) (fun w_13 hc_15 => (SL.cons ((h_8.same hc_15).ok _ M0) (SL.nil _ _))) (fun w_13 hc_15 => ?_)
   have h_14 := h_8.same hc_15
   refine qT rfl rfl (fun wq hS => R.move (v := (.slice a n cap)) rfl) ?_
   refine qT rfl rfl (fun wq hS => R.move (v := (vn q)) rfl) ?_
   refine qT rfl rfl (fun wq hS => R.indexS (a := a) (i := q) (off := q * 32) (xs := df.map vu8) rfl rfl rfl (by omega) (viewV (hS _ M0)) (lt_len (K := 32 * n) (len_map hl) (by omega)) underlying24 sizeOf23 rfl) ?_
   refine qT rfl rfl (fun wq hS => R.loadGA (a := a) (i := q * 32) (xs := df.map vu8) (cs := (((df).drop (q * 32)).take 32).map vu8) rfl (viewV (hS _ M0)) isAgg23 sizeOf23 (by rw [List.map_take, List.map_drop]) (len_map (subLen (K := 32 * n) hl (by omega) : List.length (((df).drop (q * 32)).take 32) = 32)) (by decide)) ?_
   refine qT rfl rfl (fun wq hS => R.move (v := (.slice a n cap)) rfl) ?_
   refine qT rfl rfl (fun wq hS => R.move (v := (vn i)) rfl) ?_
   refine qT rfl rfl (fun wq hS => R.indexS (a := a) (i := i) (off := i * 32) (xs := df.map vu8) rfl rfl rfl (by omega) (viewV (hS _ M0)) (lt_len (K := 32 * n) (len_map hl) (by omega)) underlying24 sizeOf23 rfl) ?_
   refine qT rfl rfl (fun wq hS => R.loadGA (a := a) (i := i * 32) (xs := df.map vu8) (cs := (((df).drop (i * 32)).take 32).map vu8) rfl (viewV (hS _ M0)) isAgg23 sizeOf23 (by rw [List.map_take, List.map_drop]) (len_map (subLen (K := 32 * n) hl (by omega) : List.length (((df).drop (i * 32)).take 32) = 32)) (by decide)) ?_
   refine qT rfl rfl (fun wq hS => R.eqA (xs := (((df).drop (q * 32)).take 32).map vu8) (ys := (((df).drop (i * 32)).take 32).map vu8) (r := decide (((df).drop (q * 32)).take 32 = ((df).drop (i * 32)).take 32)) rfl rfl eqGuardType23 kt23 (by decide) ag23 (Typ.u8s underlying23 ce23 underlying5 ce5 (subLen (K := 32 * n) hl (by omega) : List.length (((df).drop (q * 32)).take 32) = 32)) (Typ.u8s underlying23 ce23 underlying5 ce5 (subLen (K := 32 * n) hl (by omega) : List.length (((df).drop (i * 32)).take 32) = 32)) (map_inj_u8.trans (decT _))) ?_
   refine WT.nil (thn_n ?_)
   refine WP.cond (b := decide (((df).drop (q * 32)).take 32 = ((df).drop (i * 32)).take 32)) rfl (fun c_16 => ?_) (fun c_16 => ?_)
   ·have p_17 := of_decide_eq_true c_16
    refine WP.seq (WP.reg ?_)
    refine qA (.bool false) rfl rfl ?_
    refine WL.nil (thn_n (WP.ret (inb_r (thn_r (thn_r (inb_r (thn_r (inb_r (thn_r (thn_r (inb_r (thn_r ?_))))))))))))
    refine ret_of results14 (RV.tmp (v := (.bool false)) rfl RV.nil) ?_
    exact ⟨false, rfl, (fun h => by cases h), h_14.chgS⟩
   ·have p_18 := of_decide_eq_false c_16
    refine WP.skip (inb_n (thn_n (WP.reg ?_)))
    refine qM (vn q) rfl rfl (qV rfl (R.bin rfl rfl (bi_add (c := ((q + 1 : Nat) : Int)) (by omega) (by omega))) (qA (vn (q + 1)) rfl rfl ?_))
    refine WL.nil (thn_n ?_)
    exact ⟨q + 1, _, (by omega), (Ag.upd rfl (U2 rfl rfl (U4 rfl rfl rfl rfl (U4 rfl rfl rfl rfl (U4 rfl rfl rfl rfl (Ag.updL rfl (Ag.mix _ _ _))))))), ⟨rfl, trivial⟩, h_14, (by omega), (fun j hj => (Nat.lt_or_eq_of_le (Nat.le_of_lt_succ hj)).elim (fun e => hB j e) (fun e => by rw [e]; exact p_18)), rfl⟩
  ·have p_19 := of_decide_eq_false c_11
   refine WP.exit (thn_x (thn_x (inb_hit (thn_n (WP.seq (WP.reg ?_))))))
   refine qM (.slice a n cap) rfl rfl (qM (vn i) rfl rfl (qV rfl (R.indexS (a := a) (i := i) (off := i * 32) (xs := df.map vu8) rfl rfl rfl (by omega) (viewV (h_8.ok _ M0)) (lt_len (K := 32 * n) (len_map hl) (by omega)) underlying24 sizeOf23 rfl) (qV rfl (R.indexG (a := a) (j := i * 32) (i := 31) (off' := i * 32 + 31) rfl rfl rfl (by decide) underlying23 sizeOf5 rfl) (qV rfl (R.loadG rfl (viewV (h_8.ok _ M0)) isAgg5 (get_u8 (lt_len (K := 32 * n) hl (by omega)))) (qV rfl (R.bin (v := (.bool (decide ((df.getD (i * 32 + 31) 0 : UInt8) = 1)))) rfl rfl (b8_eql (df.getD (i * 32 + 31) 0) 1 (r := decide ((df.getD (i * 32 + 31) 0 : UInt8) = 1)) rfl)) ?_)))))
   refine WL.nil (thn_n ?_)
   refine WP.cond (b := decide ((df.getD (i * 32 + 31) 0 : UInt8) = 1)) rfl (fun c_20 => ?_) (fun c_20 => ?_)
   ·have p_21 := of_decide_eq_true c_20
    refine WP.seq (WP.reg ?_)
    refine qA (.bool false) rfl rfl ?_
    refine WL.nil (thn_n (WP.ret (inb_r (thn_r (thn_r (inb_r (thn_r ?_)))))))
    refine ret_of results14 (RV.tmp (v := (.bool false)) rfl RV.nil) ?_
    exact ⟨false, rfl, (fun h => by cases h), h_8.chgS⟩
   ·have p_22 := of_decide_eq_false c_20
    refine WP.skip (inb_n (thn_n (WP.reg ?_)))
    refine qM (vn i) rfl rfl (qV rfl (R.bin rfl rfl (bi_add (c := ((i + 1 : Nat) : Int)) (by omega) (by omega))) (qA (vn (i + 1)) rfl rfl ?_))
    refine WL.nil (thn_n ?_)
    exact ⟨i + 1, _, (by omega), (U4 rfl rfl rfl rfl (U4 rfl rfl rfl rfl (U4 rfl rfl rfl rfl (Ag.updL rfl (Ag.trans (Ag.sub rfl (Ag.mix _ _ _)) (Ag.upd rfl (Ag.upd rfl (Ag.upd rfl (Ag.upd rfl (Ag.upd rfl (Ag.updL rfl (Ag.mix _ _ _)))))))))))), ⟨rfl, trivial⟩, h_8, (by omega), (fun j hj => (Nat.lt_or_eq_of_le (Nat.le_of_lt_succ hj)).elim (fun e => hA j e) (fun e => by rw [e]; exact ⟨fun q hq => hB q (by omega), p_22⟩)), rfl⟩
 ·have p_23 := of_decide_eq_false c_5
  refine WP.exit (thn_x (thn_x (inb_hit (thn_n (WP.seq (WP.reg ?_))))))
  refine qA (.bool true) rfl rfl ?_
  refine WL.nil (thn_n (WP.ret ?_))
  refine ret_of results14 (RV.tmp (v := (.bool true)) rfl RV.nil) ?_
  exact ⟨_, rfl, (fun h j hj => hA j (by omega)), h_2.chgS⟩
end Go.Proofs.Yteclkcpdclimnaa
