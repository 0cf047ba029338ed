/- Contracts of package aes: keys of rounds, a block enciphered. Conditions: those that each theorem states. -/
import Derived.Test.YtcmgadjnammahaaE1
namespace Go.Proofs.Ytcmgadjnammahaa
open Go.Vc Go.Ax Go.RowKit
set_option linter.unusedVariables false
set_option linter.unusedSimpArgs false
set_option maxRecDepth 20000
theorem c_expand (tb key : List UInt8) (htb : tb.length = 256) (hkey : key.length = 16) (w : World) :
    Cs Try.prog 82 [(.agg ⟨key.map vu8⟩), (.agg ⟨tb.map vu8⟩)].toArray w (fun v w1 => v = (.agg ⟨(keysL tb key).map vu8⟩) ∧ Chg w w1 []) := by
  refine Cs.of (n := 63) (args := [(.agg ⟨key.map vu8⟩), (.agg ⟨tb.map vu8⟩)]) Try.func82 rfl rfl rfl ?_
  have h_0 := HP.init w
  refine WP.seq ?_
  refine WP.reg ?_
  refine WL.box (v := (.agg ⟨key.map vu8⟩)) (segs := [(16, key.map vu8)]) h_0 rfl rfl (SsOk.cons (SOk.u8 hkey) SsOk.nil) rfl (fun b_1 w_2 h_3 => ?_)
  refine WL.box (v := (.agg ⟨tb.map vu8⟩)) (segs := [(256, tb.map vu8)]) h_3 rfl rfl (SsOk.cons (SOk.u8 htb) SsOk.nil) rfl (fun b_4 w_5 h_6 => ?_)
  refine WL.alloc (segs := [(176, (List.replicate 176 (0 : UInt8)).map vu8)]) h_6 (zv Try.typeInfo74 rfl) rfl (SsOk.cons (SOk.u8 (List.length_replicate ..)) SsOk.nil) rfl (fun b_7 w_8 h_9 => ?_)
  refine WL.nil ?_
  refine thn_n ?_
  refine WP.seq ?_
  refine WP.reg ?_
  refine WL.q (Wn.no rfl) rfl rfl (R.loadA (b := b_1) (off := 0) [] [(16, key.map vu8)] [] (cs := key.map vu8) rfl Try.isAgg66 Try.sizeOf66 (h_9.ok _ (.tail _ (.tail _ (.head _)))) rfl rfl rfl rfl) ?_
  refine WL.q (Wn.no rfl) rfl rfl (R.indexA (b := b_7) (off := 0) (off' := 0) (i := 0) rfl rfl rfl (by decide) Try.underlying74 Try.sizeOf66 rfl) ?_
  refine WL.storeEA (b := b_7) (off := 0) (i := 0) (ys := key.map vu8) (cs' := (ovr (List.replicate 176 (0 : UInt8)) 0 key).map vu8) h_9 rfl rfl Try.sizeOf66 At.h (by decide) Sg.h rfl (len_map hkey) (by rw [len_map (List.length_replicate ..)]; omega) (one_u8 _) (cpOvrA hkey) (fun w_10 h_11 => ?_)
  refine WL.nil ?_
  refine thn_n ?_
  refine WP.seq ?_
  refine WP.reg ?_
  refine WL.q (Wn.no rfl) rfl rfl (R.assign (v := (vu8 1)) rfl) ?_
  refine WL.nil ?_
  refine thn_n ?_
  refine WP.seq ?_
  refine WP.seq ?_
  refine WP.reg ?_
  refine WL.q (Wn.no rfl) rfl rfl (R.assign (v := (vi 1)) rfl) ?_
  refine WL.nil ?_
  refine thn_n ?_
  refine WP.block ?_
  rw [ovr_key (tb := tb) hkey] at h_11
  refine WP.loopG (G := Nat) [5, 6, 7, 8, 9, 12, 13, 14, 15, 16, 17, 18, 19, 20, 21, 22, 23, 24, 25, 26, 27, 28, 29, 30, 31, 32, 33, 34, 35, 36, 37, 38, 39, 40, 41, 42, 43, 44, 45, 46, 47, 48, 49, 50, 51, 52, 53, 54, 55, 56, 57, 58, 59, 60, 61] (fun r => [(5, (vu8 (pwN (r - 1)))), (6, (vi ((r : Nat) : Int)))]) (fun r m w1 => HP w w1 [.blk b_7 .nw 74 [(176, (pre 176 (K tb key) (16 * r)).map vu8)], .blk b_4 .nw 72 [(256, tb.map vu8)], .blk b_1 .nw 66 [(16, key.map vu8)]] ∧ (1 ≤ r) ∧ (r ≤ 11) ∧ m = 11 - r) ⟨1, _, ⟨rfl, rfl, trivial⟩, h_11, (by omega), (by omega), rfl⟩ ?_
  rintro r m_14 J_15 w_12 ⟨h_13, hr, hr2, rfl⟩
  refine WP.seq ?_
  refine WP.seq ?_
  refine WP.reg ?_
  refine WL.q (Wn.no rfl) rfl rfl (R.move (v := (vi ((r : Nat) : Int))) rfl) ?_
  refine WL.q (Wn.no rfl) rfl rfl (R.bin (v := (.bool (decide ((((r : Nat) : Int) : Int) < 11)))) rfl rfl (bi_lss (r := decide ((((r : Nat) : Int) : Int) < 11)) rfl)) ?_
  refine WL.nil ?_
  refine thn_n ?_
  refine WP.cond (b := decide ((((r : Nat) : Int) : Int) < 11)) rfl (fun c_16 => ?_) (fun c_16 => ?_)
  · have p_17 := of_decide_eq_true c_16
    refine WP.skip ?_
    refine thn_n ?_
    refine WP.seq ?_
    refine WP.block ?_
    refine WP.seq ?_
    refine WP.reg ?_
    refine WL.q (Wn.no rfl) rfl rfl (R.move (v := (vi ((r : Nat) : Int))) rfl) ?_
    refine WL.q (Wn.no rfl) rfl rfl (R.bin (v := (vi ((r - 1 : Nat) : Int))) rfl rfl (bi_sub (c := ((r - 1 : Nat) : Int)) (by omega) (by omega))) ?_
    refine WL.q (Wn.no rfl) rfl rfl (R.indexA (b := b_7) (off := 0) (off' := (0 + ((r - 1) * 16))) (i := r - 1) rfl rfl rfl (by omega) Try.underlying74 Try.sizeOf66 rfl) ?_
    refine WL.q (Wn.no rfl) rfl rfl (R.loadEA (b := b_7) (off := (0 + ((r - 1) * 16))) (i := (r - 1) * 16) (xs := (((pre 176 (K tb key) (16 * r)).drop ((r - 1) * 16)).take 16).map vu8) rfl Try.isAgg66 Try.sizeOf66 (h_13.ok _ (.head _)) Sg.h rfl (by rw [List.map_take, List.map_drop]) (len_map (subLen (K := 176) (pre_len (by omega)) (by omega) : List.length (((pre 176 (K tb key) (16 * r)).drop ((r - 1) * 16)).take 16) = 16))) ?_
    refine WL.alloc (segs := [(16, (List.replicate 16 (0 : UInt8)).map vu8)]) h_13 (zv Try.typeInfo66 rfl) rfl (SsOk.cons (SOk.u8 (List.length_replicate ..)) SsOk.nil) rfl (fun b_18 w_19 h_20 => ?_)
    refine WL.storeA (b := b_18) (off := 0) [] [(16, (List.replicate 16 (0 : UInt8)).map vu8)] [(16, (((pre 176 (K tb key) (16 * r)).drop ((r - 1) * 16)).take 16).map vu8)] [] (ys := (((pre 176 (K tb key) (16 * r)).drop ((r - 1) * 16)).take 16).map vu8) h_20 rfl rfl Try.sizeOf66 At.h (by decide) rfl rfl rfl rfl rfl rfl (SsOk.cons (SOk.u8 (subLen (K := 176) (pre_len (by omega)) (by omega) : List.length (((pre 176 (K tb key) (16 * r)).drop ((r - 1) * 16)).take 16) = 16)) SsOk.nil) (fun w_21 h_22 => ?_)
    refine WL.nil ?_
    refine thn_n ?_
    refine WP.seq ?_
    refine WP.drawT (SL w.heap.size [.blk b_18 .nw 66 [(16, (((pre 176 (K tb key) (16 * r)).drop ((r - 1) * 16)).take 16).map vu8)], .blk b_7 .nw 74 [(176, (pre 176 (K tb key) (16 * r)).map vu8)], .blk b_4 .nw 72 [(256, tb.map vu8)], .blk b_1 .nw 66 [(16, key.map vu8)]]) (.q 0 (.q 1 (.q 2 (.q 3 (.q 4 (.q 5 (.q 6 (.q 7 (.q 8 (.q 9 (.q 10 (.q 11 (.q 12 (.q 13 (.q 14 (.q 15 (.q 16 (.q 17 (.q 18 (.s 19 (.s 20 .nil))))))))))))))))))))) (by kernel_rfl) (by kernel_rfl) rfl (by kernel_rfl) (fun w_23 hc_25 => (SL.cons ((h_22.same hc_25).ok _ (.head _)) (SL.cons ((h_22.same hc_25).ok _ (.tail _ (.head _))) (SL.cons ((h_22.same hc_25).ok _ (.tail _ (.tail _ (.head _)))) (SL.cons ((h_22.same hc_25).ok _ (.tail _ (.tail _ (.tail _ (.head _))))) (SL.nil _ _)))))) (fun w_23 hc_25 => ?_)
    have h_24 := h_22.same hc_25
    refine WT.q rfl (Wn.no rfl) rfl rfl (fun wq hS => R.indexA (b := b_18) (off := 0) (off' := 13) (i := 13) rfl rfl rfl (by decide) Try.underlying66 Try.sizeOf5 rfl) ?_
    refine WT.q rfl (Wn.no rfl) rfl rfl (fun wq hS => R.loadE (b := b_18) (off := 13) (i := 13) (v := (vu8 ((((pre 176 (K tb key) (16 * r)).drop ((r - 1) * 16)).take 16).getD 13 0))) rfl Try.isAgg5 (hS _ (.head _)) Sg.h rfl (get_u8 (lt_len (K := 16) (subLen (K := 176) (pre_len (by omega)) (by omega) : List.length (((pre 176 (K tb key) (16 * r)).drop ((r - 1) * 16)).take 16) = 16) (by decide)))) ?_
    refine WT.q rfl (Wn.no rfl) rfl rfl (fun wq hS => R.indexA (b := b_4) (off := 0) (off' := (0 + (((((pre 176 (K tb key) (16 * r)).drop ((r - 1) * 16)).take 16).getD 13 0).toNat))) (i := ((((pre 176 (K tb key) (16 * r)).drop ((r - 1) * 16)).take 16).getD 13 0).toNat) rfl rfl rfl (UInt8.toNat_lt _) Try.underlying72 Try.sizeOf5 (by rw [Nat.mul_one])) ?_
    refine WT.q rfl (Wn.no rfl) rfl rfl (fun wq hS => R.loadE (b := b_4) (off := (0 + (((((pre 176 (K tb key) (16 * r)).drop ((r - 1) * 16)).take 16).getD 13 0).toNat))) (i := ((((pre 176 (K tb key) (16 * r)).drop ((r - 1) * 16)).take 16).getD 13 0).toNat) (v := (vu8 (tb.getD (((((pre 176 (K tb key) (16 * r)).drop ((r - 1) * 16)).take 16).getD 13 0).toNat) 0))) rfl Try.isAgg5 (hS _ (.tail _ (.tail _ (.head _)))) Sg.h rfl (get_u8 (lt_len (K := 256) htb (UInt8.toNat_lt _)))) ?_
    refine WT.q rfl (Wn.no rfl) rfl rfl (fun wq hS => R.move (v := (vu8 (pwN (r - 1)))) rfl) ?_
    refine WT.q rfl (Wn.no rfl) rfl rfl (fun wq hS => R.bin (v := (vu8 ((tb.getD (((((pre 176 (K tb key) (16 * r)).drop ((r - 1) * 16)).take 16).getD 13 0).toNat) 0) ^^^ (pwN (r - 1))))) rfl rfl (b8_xor (tb.getD (((((pre 176 (K tb key) (16 * r)).drop ((r - 1) * 16)).take 16).getD 13 0).toNat) 0) (pwN (r - 1)))) ?_
    refine WT.q rfl (Wn.no rfl) rfl rfl (fun wq hS => R.indexA (b := b_18) (off := 0) (off' := 14) (i := 14) rfl rfl rfl (by decide) Try.underlying66 Try.sizeOf5 rfl) ?_
    refine WT.q rfl (Wn.no rfl) rfl rfl (fun wq hS => R.loadE (b := b_18) (off := 14) (i := 14) (v := (vu8 ((((pre 176 (K tb key) (16 * r)).drop ((r - 1) * 16)).take 16).getD 14 0))) rfl Try.isAgg5 (hS _ (.head _)) Sg.h rfl (get_u8 (lt_len (K := 16) (subLen (K := 176) (pre_len (by omega)) (by omega) : List.length (((pre 176 (K tb key) (16 * r)).drop ((r - 1) * 16)).take 16) = 16) (by decide)))) ?_
    refine WT.q rfl (Wn.no rfl) rfl rfl (fun wq hS => R.indexA (b := b_4) (off := 0) (off' := (0 + (((((pre 176 (K tb key) (16 * r)).drop ((r - 1) * 16)).take 16).getD 14 0).toNat))) (i := ((((pre 176 (K tb key) (16 * r)).drop ((r - 1) * 16)).take 16).getD 14 0).toNat) rfl rfl rfl (UInt8.toNat_lt _) Try.underlying72 Try.sizeOf5 (by rw [Nat.mul_one])) ?_
    refine WT.q rfl (Wn.no rfl) rfl rfl (fun wq hS => R.loadE (b := b_4) (off := (0 + (((((pre 176 (K tb key) (16 * r)).drop ((r - 1) * 16)).take 16).getD 14 0).toNat))) (i := ((((pre 176 (K tb key) (16 * r)).drop ((r - 1) * 16)).take 16).getD 14 0).toNat) (v := (vu8 (tb.getD (((((pre 176 (K tb key) (16 * r)).drop ((r - 1) * 16)).take 16).getD 14 0).toNat) 0))) rfl Try.isAgg5 (hS _ (.tail _ (.tail _ (.head _)))) Sg.h rfl (get_u8 (lt_len (K := 256) htb (UInt8.toNat_lt _)))) ?_
    refine WT.q rfl (Wn.no rfl) rfl rfl (fun wq hS => R.indexA (b := b_18) (off := 0) (off' := 15) (i := 15) rfl rfl rfl (by decide) Try.underlying66 Try.sizeOf5 rfl) ?_
    refine WT.q rfl (Wn.no rfl) rfl rfl (fun wq hS => R.loadE (b := b_18) (off := 15) (i := 15) (v := (vu8 ((((pre 176 (K tb key) (16 * r)).drop ((r - 1) * 16)).take 16).getD 15 0))) rfl Try.isAgg5 (hS _ (.head _)) Sg.h rfl (get_u8 (lt_len (K := 16) (subLen (K := 176) (pre_len (by omega)) (by omega) : List.length (((pre 176 (K tb key) (16 * r)).drop ((r - 1) * 16)).take 16) = 16) (by decide)))) ?_
    refine WT.q rfl (Wn.no rfl) rfl rfl (fun wq hS => R.indexA (b := b_4) (off := 0) (off' := (0 + (((((pre 176 (K tb key) (16 * r)).drop ((r - 1) * 16)).take 16).getD 15 0).toNat))) (i := ((((pre 176 (K tb key) (16 * r)).drop ((r - 1) * 16)).take 16).getD 15 0).toNat) rfl rfl rfl (UInt8.toNat_lt _) Try.underlying72 Try.sizeOf5 (by rw [Nat.mul_one])) ?_
    refine WT.q rfl (Wn.no rfl) rfl rfl (fun wq hS => R.loadE (b := b_4) (off := (0 + (((((pre 176 (K tb key) (16 * r)).drop ((r - 1) * 16)).take 16).getD 15 0).toNat))) (i := ((((pre 176 (K tb key) (16 * r)).drop ((r - 1) * 16)).take 16).getD 15 0).toNat) (v := (vu8 (tb.getD (((((pre 176 (K tb key) (16 * r)).drop ((r - 1) * 16)).take 16).getD 15 0).toNat) 0))) rfl Try.isAgg5 (hS _ (.tail _ (.tail _ (.head _)))) Sg.h rfl (get_u8 (lt_len (K := 256) htb (UInt8.toNat_lt _)))) ?_
    refine WT.q rfl (Wn.no rfl) rfl rfl (fun wq hS => R.indexA (b := b_18) (off := 0) (off' := 12) (i := 12) rfl rfl rfl (by decide) Try.underlying66 Try.sizeOf5 rfl) ?_
    refine WT.q rfl (Wn.no rfl) rfl rfl (fun wq hS => R.loadE (b := b_18) (off := 12) (i := 12) (v := (vu8 ((((pre 176 (K tb key) (16 * r)).drop ((r - 1) * 16)).take 16).getD 12 0))) rfl Try.isAgg5 (hS _ (.head _)) Sg.h rfl (get_u8 (lt_len (K := 16) (subLen (K := 176) (pre_len (by omega)) (by omega) : List.length (((pre 176 (K tb key) (16 * r)).drop ((r - 1) * 16)).take 16) = 16) (by decide)))) ?_
    refine WT.q rfl (Wn.no rfl) rfl rfl (fun wq hS => R.indexA (b := b_4) (off := 0) (off' := (0 + (((((pre 176 (K tb key) (16 * r)).drop ((r - 1) * 16)).take 16).getD 12 0).toNat))) (i := ((((pre 176 (K tb key) (16 * r)).drop ((r - 1) * 16)).take 16).getD 12 0).toNat) rfl rfl rfl (UInt8.toNat_lt _) Try.underlying72 Try.sizeOf5 (by rw [Nat.mul_one])) ?_
    refine WT.q rfl (Wn.no rfl) rfl rfl (fun wq hS => R.loadE (b := b_4) (off := (0 + (((((pre 176 (K tb key) (16 * r)).drop ((r - 1) * 16)).take 16).getD 12 0).toNat))) (i := ((((pre 176 (K tb key) (16 * r)).drop ((r - 1) * 16)).take 16).getD 12 0).toNat) (v := (vu8 (tb.getD (((((pre 176 (K tb key) (16 * r)).drop ((r - 1) * 16)).take 16).getD 12 0).toNat) 0))) rfl Try.isAgg5 (hS _ (.tail _ (.tail _ (.head _)))) Sg.h rfl (get_u8 (lt_len (K := 256) htb (UInt8.toNat_lt _)))) ?_
    refine WT.q rfl (Wn.no rfl) rfl rfl (fun wq hS => R.buildA (vs := [(0, (vu8 ((tb.getD (((((pre 176 (K tb key) (16 * r)).drop ((r - 1) * 16)).take 16).getD 13 0).toNat) 0) ^^^ (pwN (r - 1))))), (1, (vu8 (tb.getD (((((pre 176 (K tb key) (16 * r)).drop ((r - 1) * 16)).take 16).getD 14 0).toNat) 0))), (2, (vu8 (tb.getD (((((pre 176 (K tb key) (16 * r)).drop ((r - 1) * 16)).take 16).getD 15 0).toNat) 0))), (3, (vu8 (tb.getD (((((pre 176 (K tb key) (16 * r)).drop ((r - 1) * 16)).take 16).getD 12 0).toNat) 0)))]) (cs := ([(tb.getD (((((pre 176 (K tb key) (16 * r)).drop ((r - 1) * 16)).take 16).getD 13 0).toNat) 0) ^^^ (pwN (r - 1)), tb.getD (((((pre 176 (K tb key) (16 * r)).drop ((r - 1) * 16)).take 16).getD 14 0).toNat) 0, tb.getD (((((pre 176 (K tb key) (16 * r)).drop ((r - 1) * 16)).take 16).getD 15 0).toNat) 0, tb.getD (((((pre 176 (K tb key) (16 * r)).drop ((r - 1) * 16)).take 16).getD 12 0).toNat) 0] : List UInt8).map vu8) Try.underlying100 Try.sizeOf5 (zv Try.typeInfo100 rfl) rfl rfl) ?_
    refine WT.s ?_
    refine Op1.one rfl (Wn.no rfl) ?_
    refine WL.alloc (segs := [(4, (List.replicate 4 (0 : UInt8)).map vu8)]) h_24 (zv Try.typeInfo100 rfl) rfl (SsOk.cons (SOk.u8 (List.length_replicate ..)) SsOk.nil) rfl (fun b_26 w_27 h_28 => ?_)
    refine WL.nil ?_
    refine ⟨(SL.cons (h_28.ok _ (.tail _ (.head _))) (SL.cons (h_28.ok _ (.tail _ (.tail _ (.head _)))) (SL.cons (h_28.ok _ (.tail _ (.tail _ (.tail _ (.head _))))) (SL.cons (h_28.ok _ (.tail _ (.tail _ (.tail _ (.tail _ (.head _)))))) (SL.nil _ _))))), ?_⟩
    refine WT.s ?_
    refine Op1.one rfl (Wn.no rfl) ?_
    refine WL.storeA (b := b_26) (off := 0) [] [(4, (List.replicate 4 (0 : UInt8)).map vu8)] [(4, ([(tb.getD (((((pre 176 (K tb key) (16 * r)).drop ((r - 1) * 16)).take 16).getD 13 0).toNat) 0) ^^^ (pwN (r - 1)), tb.getD (((((pre 176 (K tb key) (16 * r)).drop ((r - 1) * 16)).take 16).getD 14 0).toNat) 0, tb.getD (((((pre 176 (K tb key) (16 * r)).drop ((r - 1) * 16)).take 16).getD 15 0).toNat) 0, tb.getD (((((pre 176 (K tb key) (16 * r)).drop ((r - 1) * 16)).take 16).getD 12 0).toNat) 0] : List UInt8).map vu8)] [] (ys := ([(tb.getD (((((pre 176 (K tb key) (16 * r)).drop ((r - 1) * 16)).take 16).getD 13 0).toNat) 0) ^^^ (pwN (r - 1)), tb.getD (((((pre 176 (K tb key) (16 * r)).drop ((r - 1) * 16)).take 16).getD 14 0).toNat) 0, tb.getD (((((pre 176 (K tb key) (16 * r)).drop ((r - 1) * 16)).take 16).getD 15 0).toNat) 0, tb.getD (((((pre 176 (K tb key) (16 * r)).drop ((r - 1) * 16)).take 16).getD 12 0).toNat) 0] : List UInt8).map vu8) h_28 rfl rfl Try.sizeOf100 At.h (by decide) rfl rfl rfl rfl rfl rfl (SsOk.cons (SOk.u8 (rfl : List.length ([(tb.getD (((((pre 176 (K tb key) (16 * r)).drop ((r - 1) * 16)).take 16).getD 13 0).toNat) 0) ^^^ (pwN (r - 1)), tb.getD (((((pre 176 (K tb key) (16 * r)).drop ((r - 1) * 16)).take 16).getD 14 0).toNat) 0, tb.getD (((((pre 176 (K tb key) (16 * r)).drop ((r - 1) * 16)).take 16).getD 15 0).toNat) 0, tb.getD (((((pre 176 (K tb key) (16 * r)).drop ((r - 1) * 16)).take 16).getD 12 0).toNat) 0] : List UInt8) = 4)) SsOk.nil) (fun w_29 h_30 => ?_)
    refine WL.nil ?_
    refine ⟨(SL.cons (h_30.ok _ (.tail _ (.head _))) (SL.cons (h_30.ok _ (.tail _ (.tail _ (.head _)))) (SL.cons (h_30.ok _ (.tail _ (.tail _ (.tail _ (.head _))))) (SL.cons (h_30.ok _ (.tail _ (.tail _ (.tail _ (.tail _ (.head _)))))) (SL.nil _ _))))), ?_⟩
    refine WT.nil ?_
    refine thn_n ?_
    refine WP.seq ?_
    refine WP.reg ?_
    refine WL.q (Wn.no rfl) rfl rfl (R.move (v := (vu8 (pwN (r - 1)))) rfl) ?_
    refine WL.call (al := [(vu8 (pwN (r - 1)))]) Try.call73 rfl rfl (c_double (pwN (r - 1)) _ ) rfl ?_
    rintro _ w_32 ⟨rfl, hc_31⟩
    have h_33 := h_30.same hc_31
    refine WL.q (Wn.no rfl) rfl rfl (R.assign (v := (vu8 (dbl (pwN (r - 1))))) rfl) ?_
    refine WL.nil ?_
    refine thn_n ?_
    refine WP.seq ?_
    refine WP.reg ?_
    refine WL.q (Wn.no rfl) rfl rfl (R.move (v := (vi 0)) rfl) ?_
    refine WL.nil ?_
    refine thn_n ?_
    refine WP.block ?_
    rw [ex_t hr] at h_33
    refine WP.loopG (G := Nat) [9, 41, 42, 43, 44, 45, 46, 47, 48, 49, 50, 51, 52, 53, 54, 55, 56, 57, 58, 59, 60, 61] (fun i => [(41, (vi ((i : Nat) : Int)))]) (fun i m w1 => HP w w1 [.blk b_26 .nw 100 [(4, (tL tb (K tb key) r i).map vu8)], .blk b_18 .nw 66 [(16, (((pre 176 (K tb key) (16 * r)).drop ((r - 1) * 16)).take 16).map vu8)], .blk b_7 .nw 74 [(176, (pre 176 (K tb key) (16 * r + i)).map vu8)], .blk b_4 .nw 72 [(256, tb.map vu8)], .blk b_1 .nw 66 [(16, key.map vu8)]] ∧ (i ≤ 16) ∧ m = 16 - i) ⟨0, _, ⟨rfl, trivial⟩, h_33, (by omega), rfl⟩ ?_
    rintro i m_36 J_37 w_34 ⟨h_35, hi, rfl⟩
    refine WP.seq ?_
    refine WP.reg ?_
    refine WL.q (Wn.no rfl) rfl rfl (R.bin (v := (.bool (decide ((((i : Nat) : Int) : Int) < 16)))) rfl rfl (bi_lss (r := decide ((((i : Nat) : Int) : Int) < 16)) rfl)) ?_
    refine WL.nil ?_
    refine thn_n ?_
    refine WP.seq ?_
    refine WP.cond (b := decide ((((i : Nat) : Int) : Int) < 16)) rfl (fun c_38 => ?_) (fun c_38 => ?_)
    · have p_39 := of_decide_eq_true c_38
      refine WP.skip ?_
      refine thn_n ?_
      refine WP.seq ?_
      refine WP.block ?_
      refine WP.seq ?_
      refine WP.reg ?_
      refine WL.q (Wn.no rfl) rfl rfl (R.move (v := (vi ((i : Nat) : Int))) rfl) ?_
      refine WL.q (Wn.no rfl) rfl rfl (R.assign (v := (vi ((i : Nat) : Int))) rfl) ?_
      refine WL.nil ?_
      refine thn_n ?_
      refine WP.seq ?_
      refine WP.drawT (SL w.heap.size [.blk b_18 .nw 66 [(16, (((pre 176 (K tb key) (16 * r)).drop ((r - 1) * 16)).take 16).map vu8)], .blk b_7 .nw 74 [(176, (pre 176 (K tb key) (16 * r + i)).map vu8)], .blk b_4 .nw 72 [(256, tb.map vu8)], .blk b_1 .nw 66 [(16, key.map vu8)]]) (.q 0 (.q 1 (.q 2 (.q 4 (.q 5 (.q 6 (.s 3 (.q 7 (.q 8 (.s 9 .nil)))))))))) (by kernel_rfl) (by kernel_rfl) rfl (by kernel_rfl) (fun w_40 hc_42 => (SL.cons ((h_35.same hc_42).ok _ (.tail _ (.head _))) (SL.cons ((h_35.same hc_42).ok _ (.tail _ (.tail _ (.head _)))) (SL.cons ((h_35.same hc_42).ok _ (.tail _ (.tail _ (.tail _ (.head _))))) (SL.cons ((h_35.same hc_42).ok _ (.tail _ (.tail _ (.tail _ (.tail _ (.head _)))))) (SL.nil _ _)))))) (fun w_40 hc_42 => ?_)
      have h_41 := h_35.same hc_42
      refine WT.q rfl (Wn.no rfl) rfl rfl (fun wq hS => R.move (v := (vi ((i : Nat) : Int))) rfl) ?_
      refine WT.q rfl (Wn.no rfl) rfl rfl (fun wq hS => R.bin (v := (vi ((i % 4 : Nat) : Int))) rfl rfl (bi_rem (c := ((i % 4 : Nat) : Int)) (Int.natCast_nonneg _) (by omega) (by first | omega | rfl))) ?_
      refine WT.q rfl (Wn.no rfl) rfl rfl (fun wq hS => R.indexA (b := b_26) (off := 0) (off' := (0 + (i % 4))) (i := i % 4) rfl rfl rfl (by omega) Try.underlying100 Try.sizeOf5 (by rw [Nat.mul_one])) ?_
      refine WT.q rfl (Wn.no rfl) rfl rfl (fun wq hS => R.move (v := (vi ((i : Nat) : Int))) rfl) ?_
      refine WT.q rfl (Wn.no rfl) rfl rfl (fun wq hS => R.indexA (b := b_18) (off := 0) (off' := (0 + i)) (i := i) rfl rfl rfl (by omega) Try.underlying66 Try.sizeOf5 (by rw [Nat.mul_one])) ?_
      refine WT.q rfl (Wn.no rfl) rfl rfl (fun wq hS => R.loadE (b := b_18) (off := (0 + i)) (i := i) (v := (vu8 ((((pre 176 (K tb key) (16 * r)).drop ((r - 1) * 16)).take 16).getD i 0))) rfl Try.isAgg5 (hS _ (.head _)) Sg.h rfl (get_u8 (lt_len (K := 16) (subLen (K := 176) (pre_len (by omega)) (by omega) : List.length (((pre 176 (K tb key) (16 * r)).drop ((r - 1) * 16)).take 16) = 16) (by omega)))) ?_
      refine WT.s ?_
      refine Op1.one rfl (Wn.no rfl) ?_
      refine WL.q (Wn.no rfl) rfl rfl (R.loadE (b := b_26) (off := (0 + (i % 4))) (i := i % 4) (v := (vu8 ((tL tb (K tb key) r i).getD (i % 4) 0))) rfl Try.isAgg5 (h_41.ok _ (.head _)) Sg.h rfl (get_u8 (lt_len (K := 4) (tL_len ..) (by omega)))) ?_
      refine WL.nil ?_
      refine ⟨(SL.cons (h_41.ok _ (.tail _ (.head _))) (SL.cons (h_41.ok _ (.tail _ (.tail _ (.head _)))) (SL.cons (h_41.ok _ (.tail _ (.tail _ (.tail _ (.head _))))) (SL.cons (h_41.ok _ (.tail _ (.tail _ (.tail _ (.tail _ (.head _)))))) (SL.nil _ _))))), ?_⟩
      refine WT.q rfl (Wn.no rfl) rfl rfl (fun wq hS => R.bin (v := (vu8 (((tL tb (K tb key) r i).getD (i % 4) 0) ^^^ ((((pre 176 (K tb key) (16 * r)).drop ((r - 1) * 16)).take 16).getD i 0)))) rfl rfl (b8_xor ((tL tb (K tb key) r i).getD (i % 4) 0) ((((pre 176 (K tb key) (16 * r)).drop ((r - 1) * 16)).take 16).getD i 0))) ?_
      refine WT.q rfl (Wn.no rfl) rfl rfl (fun wq hS => R.indexA (b := b_26) (off := 0) (off' := (0 + (i % 4))) (i := i % 4) rfl rfl rfl (by omega) Try.underlying100 Try.sizeOf5 (by rw [Nat.mul_one])) ?_
      refine WT.s ?_
      refine Op1.one rfl (Wn.no rfl) ?_
      refine WL.storeE (b := b_26) (off := (0 + (i % 4))) (i := i % 4) (v := (vu8 (((tL tb (K tb key) r i).getD (i % 4) 0) ^^^ ((((pre 176 (K tb key) (16 * r)).drop ((r - 1) * 16)).take 16).getD i 0)))) (cs' := ((tL tb (K tb key) r i).set (i % 4) (((tL tb (K tb key) r i).getD (i % 4) 0) ^^^ ((((pre 176 (K tb key) (16 * r)).drop ((r - 1) * 16)).take 16).getD i 0))).map vu8) h_41 rfl rfl Try.sizeOf5 rfl At.h (by decide) Sg.h rfl (lt_len (K := 4) (len_map (tL_len ..)) (by omega)) (set_u8 _ _ _) (fun w_43 h_44 => ?_)
      refine WL.nil ?_
      refine ⟨(SL.cons (h_44.ok _ (.tail _ (.head _))) (SL.cons (h_44.ok _ (.tail _ (.tail _ (.head _)))) (SL.cons (h_44.ok _ (.tail _ (.tail _ (.tail _ (.head _))))) (SL.cons (h_44.ok _ (.tail _ (.tail _ (.tail _ (.tail _ (.head _)))))) (SL.nil _ _))))), ?_⟩
      refine WT.nil ?_
      refine thn_n ?_
      refine WP.drawT (SL w.heap.size [.blk b_26 .nw 100 [(4, ((tL tb (K tb key) r i).set (i % 4) (((tL tb (K tb key) r i).getD (i % 4) 0) ^^^ ((((pre 176 (K tb key) (16 * r)).drop ((r - 1) * 16)).take 16).getD i 0))).map vu8)], .blk b_18 .nw 66 [(16, (((pre 176 (K tb key) (16 * r)).drop ((r - 1) * 16)).take 16).map vu8)], .blk b_4 .nw 72 [(256, tb.map vu8)], .blk b_1 .nw 66 [(16, key.map vu8)]]) (.q 0 (.q 1 (.q 2 (.q 3 (.q 4 (.q 5 (.q 6 (.q 7 (.s 8 .nil))))))))) (by kernel_rfl) (by kernel_rfl) rfl (by kernel_rfl) (fun w_45 hc_47 => (SL.cons ((h_44.same hc_47).ok _ (.head _)) (SL.cons ((h_44.same hc_47).ok _ (.tail _ (.head _))) (SL.cons ((h_44.same hc_47).ok _ (.tail _ (.tail _ (.tail _ (.head _))))) (SL.cons ((h_44.same hc_47).ok _ (.tail _ (.tail _ (.tail _ (.tail _ (.head _)))))) (SL.nil _ _)))))) (fun w_45 hc_47 => ?_)
      have h_46 := h_44.same hc_47
      refine WT.q rfl (Wn.no rfl) rfl rfl (fun wq hS => R.move (v := (vi ((r : Nat) : Int))) rfl) ?_
      refine WT.q rfl (Wn.no rfl) rfl rfl (fun wq hS => R.move (v := (vi ((i : Nat) : Int))) rfl) ?_
      refine WT.q rfl (Wn.no rfl) rfl rfl (fun wq hS => R.move (v := (vi ((i : Nat) : Int))) rfl) ?_
      refine WT.q rfl (Wn.no rfl) rfl rfl (fun wq hS => R.bin (v := (vi ((i % 4 : Nat) : Int))) rfl rfl (bi_rem (c := ((i % 4 : Nat) : Int)) (Int.natCast_nonneg _) (by omega) (by first | omega | rfl))) ?_
      refine WT.q rfl (Wn.no rfl) rfl rfl (fun wq hS => R.indexA (b := b_26) (off := 0) (off' := (0 + (i % 4))) (i := i % 4) rfl rfl rfl (by omega) Try.underlying100 Try.sizeOf5 (by rw [Nat.mul_one])) ?_
      refine WT.q rfl (Wn.no rfl) rfl rfl (fun wq hS => R.loadE (b := b_26) (off := (0 + (i % 4))) (i := i % 4) (v := (vu8 (((tL tb (K tb key) r i).set (i % 4) (((tL tb (K tb key) r i).getD (i % 4) 0) ^^^ ((((pre 176 (K tb key) (16 * r)).drop ((r - 1) * 16)).take 16).getD i 0))).getD (i % 4) 0))) rfl Try.isAgg5 (hS _ (.head _)) Sg.h rfl (get_u8 (lt_len (K := 4) (len_set (tL_len ..) _ _) (by omega)))) ?_
      refine WT.q rfl (Wn.no rfl) rfl rfl (fun wq hS => R.indexA (b := b_7) (off := 0) (off' := (0 + (r * 16))) (i := r) rfl rfl rfl (by omega) Try.underlying74 Try.sizeOf66 rfl) ?_
      refine WT.q rfl (Wn.no rfl) rfl rfl (fun wq hS => R.indexA (b := b_7) (off := (0 + (r * 16))) (off' := (0 + (r * 16 + i))) (i := i) rfl rfl rfl (by omega) Try.underlying66 Try.sizeOf5 (by omega)) ?_
      refine WT.s ?_
      refine Op1.one rfl (Wn.no rfl) ?_
      refine WL.storeE (b := b_7) (off := (0 + (r * 16 + i))) (i := r * 16 + i) (v := (vu8 (((tL tb (K tb key) r i).set (i % 4) (((tL tb (K tb key) r i).getD (i % 4) 0) ^^^ ((((pre 176 (K tb key) (16 * r)).drop ((r - 1) * 16)).take 16).getD i 0))).getD (i % 4) 0))) (cs' := ((pre 176 (K tb key) (16 * r + i)).set (r * 16 + i) (((tL tb (K tb key) r i).set (i % 4) (((tL tb (K tb key) r i).getD (i % 4) 0) ^^^ ((((pre 176 (K tb key) (16 * r)).drop ((r - 1) * 16)).take 16).getD i 0))).getD (i % 4) 0)).map vu8) h_46 rfl rfl Try.sizeOf5 rfl (At.t (At.t At.h)) (by decide) Sg.h rfl (lt_len (K := 176) (len_map (pre_len (by omega))) (by omega)) (set_u8 _ _ _) (fun w_48 h_49 => ?_)
      refine WL.nil ?_
      refine ⟨(SL.cons (h_49.ok _ (.head _)) (SL.cons (h_49.ok _ (.tail _ (.head _))) (SL.cons (h_49.ok _ (.tail _ (.tail _ (.tail _ (.head _))))) (SL.cons (h_49.ok _ (.tail _ (.tail _ (.tail _ (.tail _ (.head _)))))) (SL.nil _ _))))), ?_⟩
      refine WT.nil ?_
      refine inb_n ?_
      refine thn_n ?_
      refine WP.reg ?_
      refine WL.q (Wn.no rfl) rfl rfl (R.bin (v := (vi ((i + 1 : Nat) : Int))) rfl rfl (bi_add (c := ((i + 1 : Nat) : Int)) (by omega) (by omega))) ?_
      refine WL.q (Wn.no rfl) rfl rfl (R.move (v := (vi ((i + 1 : Nat) : Int))) rfl) ?_
      refine WL.nil ?_
      refine thn_n ?_
      have ex := ex_in (tb := tb) hkey hr (by omega) (i := i) (by omega) (x := (((pre 176 (K tb key) (16 * r)).drop ((r - 1) * 16)).take 16).getD i 0) (last_get (m := 0) hr (by omega))
      rw [ex.2, ex.1] at h_49
      exact ⟨i + 1, _, (by omega), (Ag.upd rfl (Ag.upd rfl (Ag.upd rfl (Ag.upd rfl (Ag.upd rfl (Ag.upd rfl (Ag.upd rfl (Ag.upd rfl (Ag.upd rfl (Ag.upd rfl (Ag.upd rfl (Ag.upd rfl (Ag.upd rfl (Ag.upd rfl (Ag.upd rfl (Ag.upd rfl (Ag.upd rfl (Ag.upd rfl (Ag.upd rfl (Ag.upd rfl (Ag.upd rfl (Ag.upd rfl (Ag.updL rfl (Ag.mix _ _ _)))))))))))))))))))))))), ⟨rfl, trivial⟩, h_49, (by omega), rfl⟩
    · have p_50 := of_decide_eq_false c_38
      refine WP.exit ?_
      refine thn_x ?_
      refine thn_x ?_
      refine inb_hit ?_
      refine inb_n ?_
      refine thn_n ?_
      refine WP.reg ?_
      refine WL.q (Wn.no rfl) rfl rfl (R.move (v := (vi ((r : Nat) : Int))) rfl) ?_
      refine WL.q (Wn.no rfl) rfl rfl (R.bin (v := (vi ((r + 1 : Nat) : Int))) rfl rfl (bi_add (c := ((r + 1 : Nat) : Int)) (by omega) (by omega))) ?_
      refine WL.q (Wn.no rfl) rfl rfl (R.assign (v := (vi ((r + 1 : Nat) : Int))) rfl) ?_
      refine WL.nil ?_
      refine thn_n ?_
      have hi16 : i = 16 := by omega
      subst hi16
      have h_51 := h_35.drop rfl
      have h_52 := h_51.drop rfl
      rw [show 16 * r + 16 = 16 * (r + 1) by omega] at h_52
      exact ⟨r + 1, _, (by omega), (Ag.upd rfl (Ag.upd rfl (Ag.upd rfl (Ag.upd rfl (Ag.updL rfl (Ag.trans (Ag.sub rfl (Ag.mix _ _ _)) (Ag.upd rfl (Ag.upd rfl (Ag.upd rfl (Ag.upd rfl (Ag.upd rfl (Ag.upd rfl (Ag.upd rfl (Ag.upd rfl (Ag.upd rfl (Ag.upd rfl (Ag.upd rfl (Ag.upd rfl (Ag.upd rfl (Ag.upd rfl (Ag.upd rfl (Ag.upd rfl (Ag.upd rfl (Ag.upd rfl (Ag.upd rfl (Ag.upd rfl (Ag.upd rfl (Ag.upd rfl (Ag.upd rfl (Ag.upd rfl (Ag.upd rfl (Ag.upd rfl (Ag.upd rfl (Ag.upd rfl (Ag.upd rfl (Ag.upd rfl (Ag.upd rfl (Ag.updL rfl (Ag.mix _ _ _))))))))))))))))))))))))))))))))))))))), ⟨congrArg vu8 (pw_next hr), rfl, trivial⟩, h_52, (by omega), (by omega), rfl⟩
  · have p_53 := of_decide_eq_false c_16
    refine WP.exit ?_
    refine thn_x ?_
    refine thn_x ?_
    refine inb_hit ?_
    refine thn_n ?_
    refine WP.seq ?_
    refine WP.reg ?_
    refine WL.q (Wn.no rfl) rfl rfl (R.loadA (b := b_7) (off := 0) [] [(176, (pre 176 (K tb key) (16 * r)).map vu8)] [] (cs := (pre 176 (K tb key) (16 * r)).map vu8) rfl Try.isAgg74 Try.sizeOf74 (h_13.ok _ (.head _)) rfl rfl rfl rfl) ?_
    refine WL.storeA (b := b_7) (off := 0) [] [(176, (pre 176 (K tb key) (16 * r)).map vu8)] [(176, (pre 176 (K tb key) (16 * r)).map vu8)] [] (ys := (pre 176 (K tb key) (16 * r)).map vu8) h_13 rfl rfl Try.sizeOf74 At.h (by decide) rfl rfl rfl rfl rfl rfl (SsOk.cons (SOk.u8 (pre_len (by omega))) SsOk.nil) (fun w_54 h_55 => ?_)
    refine WL.nil ?_
    refine thn_n ?_
    refine WP.ret ?_
    refine ret_of Try.results82 (RV.cell rfl (h_55.loadA (cs := (pre 176 (K tb key) (16 * r)).map vu8) Try.isAgg74 Try.sizeOf74 (.head _) rfl rfl) RV.nil) ?_
    have hr11 : r = 11 := by omega
    subst hr11
    exact ⟨by rw [show 16 * 11 = 176 from rfl, pre_all]; rfl, h_55.chgS⟩

theorem c_Expand (key : List UInt8) (hkey : key.length = 16) (w : World) :
    Cs Try.prog 59 [(.agg ⟨key.map vu8⟩)].toArray w (fun v w1 => v = (.agg ⟨(keysL (tabL sub) key).map vu8⟩) ∧ Chg w w1 []) := by
  refine Cs.of (n := 6) (args := [(.agg ⟨key.map vu8⟩)]) Try.func59 rfl rfl rfl ?_
  have h_0 := HP.init w
  refine WP.seq ?_
  refine WP.reg ?_
  refine WL.box (v := (.agg ⟨key.map vu8⟩)) (segs := [(16, key.map vu8)]) h_0 rfl rfl (SsOk.cons (SOk.u8 hkey) SsOk.nil) rfl (fun b_1 w_2 h_3 => ?_)
  refine WL.alloc (segs := [(176, (List.replicate 176 (0 : UInt8)).map vu8)]) h_3 (zv Try.typeInfo74 rfl) rfl (SsOk.cons (SOk.u8 (List.length_replicate ..)) SsOk.nil) rfl (fun b_4 w_5 h_6 => ?_)
  refine WL.nil ?_
  refine thn_n ?_
  refine WP.seq ?_
  refine WP.drawT (SL w.heap.size [.blk b_1 .nw 66 [(16, key.map vu8)]]) (.q 0 (.s 1 (.s 2 (.s 3 .nil)))) (by kernel_rfl) (by kernel_rfl) rfl (by kernel_rfl) (fun w_7 hc_9 => (SL.cons ((h_6.same hc_9).ok _ (.tail _ (.head _))) (SL.nil _ _))) (fun w_7 hc_9 => ?_)
  have h_8 := h_6.same hc_9
  refine WT.q rfl (Wn.no rfl) rfl rfl (fun wq hS => R.loadA (b := b_1) (off := 0) [] [(16, key.map vu8)] [] (cs := key.map vu8) rfl Try.isAgg66 Try.sizeOf66 (hS _ (.head _)) rfl rfl rfl rfl) ?_
  refine WT.s ?_
  refine Op1.one rfl (Wn.no rfl) ?_
  refine WL.call (al := [(.func (.func 39) [].toArray [].toArray)]) Try.call83 rfl rfl (c_tableSub  _ ) rfl ?_
  rintro _ w_11 ⟨rfl, hc_10⟩
  have h_12 := h_8.same hc_10
  refine WL.nil ?_
  refine ⟨(SL.cons (h_12.ok _ (.tail _ (.head _))) (SL.nil _ _)), ?_⟩
  refine WT.s ?_
  refine Op1.one rfl (Wn.no rfl) ?_
  refine WL.call (al := [(.agg ⟨key.map vu8⟩), (.agg ⟨(tabL sub).map vu8⟩)]) Try.call82 rfl rfl (c_expand (tabL sub) key (tabL_len sub) hkey _ ) rfl ?_
  rintro _ w_14 ⟨rfl, hc_13⟩
  have h_15 := h_12.same hc_13
  refine WL.nil ?_
  refine ⟨(SL.cons (h_15.ok _ (.tail _ (.head _))) (SL.nil _ _)), ?_⟩
  refine WT.s ?_
  refine Op1.one rfl (Wn.no rfl) ?_
  refine WL.storeA (b := b_4) (off := 0) [] [(176, (List.replicate 176 (0 : UInt8)).map vu8)] [(176, (keysL (tabL sub) key).map vu8)] [] (ys := (keysL (tabL sub) key).map vu8) h_15 rfl rfl Try.sizeOf74 At.h (by decide) rfl rfl rfl rfl rfl rfl (SsOk.cons (SOk.u8 (keysL_len ..)) SsOk.nil) (fun w_16 h_17 => ?_)
  refine WL.nil ?_
  refine ⟨(SL.cons (h_17.ok _ (.tail _ (.head _))) (SL.nil _ _)), ?_⟩
  refine WT.nil ?_
  refine thn_n ?_
  refine WP.ret ?_
  refine ret_of Try.results59 (RV.cell rfl (h_17.loadA (cs := (keysL (tabL sub) key).map vu8) Try.isAgg74 Try.sizeOf74 (.head _) rfl rfl) RV.nil) ?_
  exact ⟨rfl, h_17.chgS⟩

theorem c_open (key : List UInt8) (hkey : key.length = 16) (w : World) :
    Cs Try.prog 80 [(.agg ⟨key.map vu8⟩)].toArray w (fun v w1 => ∃ b, v = .pointer (some ⟨b, 0, none⟩) ∧ Chg w w1 [] ∧ w.heap.size ≤ b ∧ CellsAt w1 b 109 (flat [(176, (keysL (tabL sub) key).map vu8), (256, (tabL sub).map vu8)])) := by
  refine Cs.of (n := 11) (args := [(.agg ⟨key.map vu8⟩)]) Try.func80 rfl rfl rfl ?_
  have h_0 := HP.init w
  refine WP.seq ?_
  refine WP.reg ?_
  refine WL.box (v := (.agg ⟨key.map vu8⟩)) (segs := [(16, key.map vu8)]) h_0 rfl rfl (SsOk.cons (SOk.u8 hkey) SsOk.nil) rfl (fun b_1 w_2 h_3 => ?_)
  refine WL.q (Wn.no rfl) rfl rfl (R.assign (v := (.pointer none)) rfl) ?_
  refine WL.nil ?_
  refine thn_n ?_
  refine WP.seq ?_
  refine WP.reg ?_
  refine WL.call (al := [(.func (.func 39) [].toArray [].toArray)]) Try.call83 rfl rfl (c_tableSub  _ ) rfl ?_
  rintro _ w_5 ⟨rfl, hc_4⟩
  have h_6 := h_3.same hc_4
  refine WL.alloc (segs := [(256, (List.replicate 256 (0 : UInt8)).map vu8)]) h_6 (zv Try.typeInfo72 rfl) rfl (SsOk.cons (SOk.u8 (List.length_replicate ..)) SsOk.nil) rfl (fun b_7 w_8 h_9 => ?_)
  refine WL.storeA (b := b_7) (off := 0) [] [(256, (List.replicate 256 (0 : UInt8)).map vu8)] [(256, (tabL sub).map vu8)] [] (ys := (tabL sub).map vu8) h_9 rfl rfl Try.sizeOf72 At.h (by decide) rfl rfl rfl rfl rfl rfl (SsOk.cons (SOk.u8 (tabL_len sub)) SsOk.nil) (fun w_10 h_11 => ?_)
  refine WL.nil ?_
  refine thn_n ?_
  refine WP.seq ?_
  refine WP.drawT (SL w.heap.size [.blk b_7 .nw 72 [(256, (tabL sub).map vu8)], .blk b_1 .nw 66 [(16, key.map vu8)]]) (.q 0 (.q 1 (.q 3 (.s 2 (.q 4 (.s 5 (.q 6 .nil))))))) (by kernel_rfl) (by kernel_rfl) rfl (by kernel_rfl) (fun w_12 hc_14 => (SL.cons ((h_11.same hc_14).ok _ (.head _)) (SL.cons ((h_11.same hc_14).ok _ (.tail _ (.head _))) (SL.nil _ _)))) (fun w_12 hc_14 => ?_)
  have h_13 := h_11.same hc_14
  refine WT.q rfl (Wn.no rfl) rfl rfl (fun wq hS => R.loadA (b := b_1) (off := 0) [] [(16, key.map vu8)] [] (cs := key.map vu8) rfl Try.isAgg66 Try.sizeOf66 (hS _ (.tail _ (.head _))) rfl rfl rfl rfl) ?_
  refine WT.q rfl (Wn.no rfl) rfl rfl (fun wq hS => R.loadA (b := b_7) (off := 0) [] [(256, (tabL sub).map vu8)] [] (cs := (tabL sub).map vu8) rfl Try.isAgg72 Try.sizeOf72 (hS _ (.head _)) rfl rfl rfl rfl) ?_
  refine WT.q rfl (Wn.no rfl) rfl rfl (fun wq hS => R.loadA (b := b_7) (off := 0) [] [(256, (tabL sub).map vu8)] [] (cs := (tabL sub).map vu8) rfl Try.isAgg72 Try.sizeOf72 (hS _ (.head _)) rfl rfl rfl rfl) ?_
  refine WT.s ?_
  refine Op1.one rfl (Wn.no rfl) ?_
  refine WL.call (al := [(.agg ⟨key.map vu8⟩), (.agg ⟨(tabL sub).map vu8⟩)]) Try.call82 rfl rfl (c_expand (tabL sub) key (tabL_len sub) hkey _ ) rfl ?_
  rintro _ w_16 ⟨rfl, hc_15⟩
  have h_17 := h_13.same hc_15
  refine WL.nil ?_
  refine ⟨(SL.cons (h_17.ok _ (.head _)) (SL.cons (h_17.ok _ (.tail _ (.head _))) (SL.nil _ _))), ?_⟩
  refine WT.q rfl (Wn.no rfl) rfl rfl (fun wq hS => R.buildS (pl := [(0, 176), (176, 256)]) (zs := [(176, (List.replicate 176 (0 : UInt8)).map vu8), (256, (List.replicate 256 (0 : UInt8)).map vu8)]) (vs := [(0, (.agg ⟨(keysL (tabL sub) key).map vu8⟩)), (1, (.agg ⟨(tabL sub).map vu8⟩))]) (out := [(176, (keysL (tabL sub) key).map vu8), (256, (tabL sub).map vu8)]) (cs := flat [(176, (keysL (tabL sub) key).map vu8), (256, (tabL sub).map vu8)]) Try.underlying109 (zv Try.typeInfo109 rfl) rfl (SsOk.cons (SOk.u8 (List.length_replicate ..)) (SsOk.cons (SOk.u8 (List.length_replicate ..)) SsOk.nil)) (pl109 _ Try.underlying109) rfl (FillR.cons [] [(176, (List.replicate 176 (0 : UInt8)).map vu8)] [(176, (keysL (tabL sub) key).map vu8)] [(256, (List.replicate 256 (0 : UInt8)).map vu8)] rfl rfl rfl rfl (SsOk.cons (SOk.u8 (keysL_len ..)) SsOk.nil) rfl rfl rfl (FillR.cons [(176, (keysL (tabL sub) key).map vu8)] [(256, (List.replicate 256 (0 : UInt8)).map vu8)] [(256, (tabL sub).map vu8)] [] rfl rfl rfl rfl (SsOk.cons (SOk.u8 (tabL_len sub)) SsOk.nil) rfl rfl rfl FillR.nil)) rfl) ?_
  refine WT.s ?_
  refine Op1.one rfl (Wn.no rfl) ?_
  refine WL.box (v := (.agg ⟨flat [(176, (keysL (tabL sub) key).map vu8), (256, (tabL sub).map vu8)]⟩)) (segs := [(176, (keysL (tabL sub) key).map vu8), (256, (tabL sub).map vu8)]) h_17 rfl rfl (SsOk.cons (SOk.u8 (keysL_len ..)) (SsOk.cons (SOk.u8 (tabL_len sub)) SsOk.nil)) rfl (fun b_19 w_20 h_21 => ?_)
  refine WL.nil ?_
  refine ⟨(SL.cons (h_21.ok _ (.tail _ (.head _))) (SL.cons (h_21.ok _ (.tail _ (.tail _ (.head _)))) (SL.nil _ _))), ?_⟩
  refine WT.q rfl (Wn.no rfl) rfl rfl (fun wq hS => R.assign (v := (.pointer (some ⟨b_19, 0, none⟩))) rfl) ?_
  refine WT.nil ?_
  refine thn_n ?_
  refine WP.ret ?_
  refine ret_of Try.results80 (RV.tmp (v := (.pointer (some ⟨b_19, 0, none⟩))) rfl RV.nil) ?_
  exact ⟨_, rfl, h_21.chgS, h_21.newB (.head _), h_21.cells (.head _)⟩

theorem c_do (keys tb blk : List UInt8) (hks : keys.length = 176) (htb : tb.length = 256) (hbl : blk.length = 16) (bc : Nat) (w : World) (hcb : (Ent.blk bc .ro 109 [(176, keys.map vu8), (256, tb.map vu8)]).ok w.heap.size w) :
    Cs Try.prog 81 [(.pointer (some ⟨bc, 0, none⟩)), (.agg ⟨blk.map vu8⟩)].toArray w (fun v w1 => v = (.agg ⟨(encN keys tb blk 10).map vu8⟩) ∧ Chg w w1 []) := by
  refine Cs.of (n := 53) (args := [(.pointer (some ⟨bc, 0, none⟩)), (.agg ⟨blk.map vu8⟩)]) Try.func81 rfl rfl rfl ?_
  have h_0 := HP.init w
  have h_00 := h_0.old hcb (fun f hf => by cases hf)
  refine WP.seq ?_
  refine WP.reg ?_
  refine WL.box (v := (.agg ⟨blk.map vu8⟩)) (segs := [(16, blk.map vu8)]) h_00 rfl rfl (SsOk.cons (SOk.u8 hbl) SsOk.nil) rfl (fun b_1 w_2 h_3 => ?_)
  refine WL.alloc (segs := [(16, (List.replicate 16 (0 : UInt8)).map vu8)]) h_3 (zv Try.typeInfo66 rfl) rfl (SsOk.cons (SOk.u8 (List.length_replicate ..)) SsOk.nil) rfl (fun b_4 w_5 h_6 => ?_)
  refine WL.nil ?_
  refine thn_n ?_
  refine WP.seq ?_
  refine WP.cutG (G := Nat) [5, 9, 10, 11, 12, 13, 14, 15] (fun bY1Y7Y0Y0 => [(9, (.agg ⟨blk.map vu8⟩)), (10, (.pointer (some ⟨bc, 0, none⟩))), (11, (.pointer (some ⟨bc, 0, none⟩))), (12, (.pointer (some ⟨bc, 0, none⟩))), (13, (.pointer (some ⟨bc, 0, none⟩))), (14, (.agg ⟨((keys.drop 0).take 16).map vu8⟩)), (15, (.agg ⟨(xorL blk ((keys.drop 0).take 16)).map vu8⟩)), (5, (.pointer (some ⟨bY1Y7Y0Y0, 0, none⟩)))]) (fun bY1Y7Y0Y0 w1 => HP w w1 [.blk bY1Y7Y0Y0 .nw 66 [(16, (xorL blk ((keys.drop 0).take 16)).map vu8)], .blk b_4 .nw 66 [(16, (List.replicate 16 (0 : UInt8)).map vu8)], .blk b_1 .nw 66 [(16, blk.map vu8)], .blk bc .ro 109 [(176, keys.map vu8), (256, tb.map vu8)]]) ?_ ?_
  · refine WP.drawT (SL w.heap.size [.blk b_4 .nw 66 [(16, (List.replicate 16 (0 : UInt8)).map vu8)], .blk b_1 .nw 66 [(16, blk.map vu8)], .blk bc .ro 109 [(176, keys.map vu8), (256, tb.map vu8)]]) (.q 0 (.q 1 (.q 2 (.q 3 (.q 4 (.q 5 (.s2 6 7 (.s 7 (.s 8 .nil)) (.s 6 (.s 8 .nil))))))))) (by kernel_rfl) (by kernel_rfl) rfl (by kernel_rfl) (fun w_7 hc_9 => (SL.cons ((h_6.same hc_9).ok _ (.head _)) (SL.cons ((h_6.same hc_9).ok _ (.tail _ (.head _))) (SL.cons ((h_6.same hc_9).ok _ (.tail _ (.tail _ (.head _)))) (SL.nil _ _))))) (fun w_7 hc_9 => ?_)
    have h_8 := h_6.same hc_9
    refine WT.q rfl (Wn.no rfl) rfl rfl (fun wq hS => R.loadA (b := b_1) (off := 0) [] [(16, blk.map vu8)] [] (cs := blk.map vu8) rfl Try.isAgg66 Try.sizeOf66 (hS _ (.tail _ (.head _))) rfl rfl rfl rfl) ?_
    refine WT.q rfl (Wn.no rfl) rfl rfl (fun wq hS => R.move (v := (.pointer (some ⟨bc, 0, none⟩))) rfl) ?_
    refine WT.q rfl (Wn.no rfl) rfl rfl (fun wq hS => R.nilCheck rfl) ?_
    refine WT.q rfl (Wn.no rfl) rfl rfl (fun wq hS => R.fieldAddr (b := bc) (off := 0) (off' := 0) rfl Try.underlying109 rfl Try.sizeOf74 rfl rfl) ?_
    refine WT.q rfl (Wn.no rfl) rfl rfl (fun wq hS => R.indexA (b := bc) (off := 0) (off' := 0) (i := 0) rfl rfl rfl (by decide) Try.underlying74 Try.sizeOf66 rfl) ?_
    refine WT.q rfl (Wn.no rfl) rfl rfl (fun wq hS => R.loadEA (b := bc) (off := 0) (i := 0) (xs := ((keys.drop 0).take 16).map vu8) rfl Try.isAgg66 Try.sizeOf66 (hS _ (.tail _ (.tail _ (.head _)))) Sg.h rfl (by rw [List.map_take, List.map_drop]) (len_map (subLen (K := 176) hks (by omega) : List.length ((keys.drop 0).take 16) = 16))) ?_
    refine WT.s2 ?_ ?_
    · refine Op1.one rfl (Wn.no rfl) ?_
      refine WL.call (al := [(.agg ⟨blk.map vu8⟩), (.agg ⟨((keys.drop 0).take 16).map vu8⟩)]) Try.call86 rfl rfl (c_with blk ((keys.drop 0).take 16) hbl (subLen (K := 176) hks (by omega) : List.length ((keys.drop 0).take 16) = 16) _ ) rfl ?_
      rintro _ w_11 ⟨rfl, hc_10⟩
      have h_12 := h_8.same hc_10
      refine WL.nil ?_
      refine ⟨(SL.cons (h_12.ok _ (.head _)) (SL.cons (h_12.ok _ (.tail _ (.head _))) (SL.cons (h_12.ok _ (.tail _ (.tail _ (.head _)))) (SL.nil _ _)))), ?_⟩
      refine WT.s ?_
      refine Op1.one rfl (Wn.no rfl) ?_
      refine WL.alloc (segs := [(16, (List.replicate 16 (0 : UInt8)).map vu8)]) h_12 (zv Try.typeInfo66 rfl) rfl (SsOk.cons (SOk.u8 (List.length_replicate ..)) SsOk.nil) rfl (fun b_13 w_14 h_15 => ?_)
      refine WL.nil ?_
      refine ⟨(SL.cons (h_15.ok _ (.tail _ (.head _))) (SL.cons (h_15.ok _ (.tail _ (.tail _ (.head _)))) (SL.cons (h_15.ok _ (.tail _ (.tail _ (.tail _ (.head _))))) (SL.nil _ _)))), ?_⟩
      refine WT.s ?_
      refine Op1.one rfl (Wn.no rfl) ?_
      refine WL.storeA (b := b_13) (off := 0) [] [(16, (List.replicate 16 (0 : UInt8)).map vu8)] [(16, (xorL blk ((keys.drop 0).take 16)).map vu8)] [] (ys := (xorL blk ((keys.drop 0).take 16)).map vu8) h_15 rfl rfl Try.sizeOf66 At.h (by decide) rfl rfl rfl rfl rfl rfl (SsOk.cons (SOk.u8 (xorL_len hbl (subLen (K := 176) hks (by omega) : List.length ((keys.drop 0).take 16) = 16))) SsOk.nil) (fun w_16 h_17 => ?_)
      refine WL.nil ?_
      refine ⟨(SL.cons (h_17.ok _ (.tail _ (.head _))) (SL.cons (h_17.ok _ (.tail _ (.tail _ (.head _)))) (SL.cons (h_17.ok _ (.tail _ (.tail _ (.tail _ (.head _))))) (SL.nil _ _)))), ?_⟩
      refine WT.nil ?_
      refine thn_n ?_
      exact ⟨b_13, (Ag.upd rfl (Ag.upd rfl (Ag.upd rfl (Ag.upd rfl (Ag.upd rfl (Ag.upd rfl (Ag.upd rfl (Ag.upd rfl (Ag.refl _ _))))))))), ⟨rfl, rfl, rfl, rfl, rfl, rfl, rfl, rfl, trivial⟩, h_17⟩
    · refine Op1.one rfl (Wn.no rfl) ?_
      refine WL.alloc (segs := [(16, (List.replicate 16 (0 : UInt8)).map vu8)]) h_8 (zv Try.typeInfo66 rfl) rfl (SsOk.cons (SOk.u8 (List.length_replicate ..)) SsOk.nil) rfl (fun b_18 w_19 h_20 => ?_)
      refine WL.nil ?_
      refine ⟨(SL.cons (h_20.ok _ (.tail _ (.head _))) (SL.cons (h_20.ok _ (.tail _ (.tail _ (.head _)))) (SL.cons (h_20.ok _ (.tail _ (.tail _ (.tail _ (.head _))))) (SL.nil _ _)))), ?_⟩
      refine WT.s ?_
      refine Op1.one rfl (Wn.no rfl) ?_
      refine WL.call (al := [(.agg ⟨blk.map vu8⟩), (.agg ⟨((keys.drop 0).take 16).map vu8⟩)]) Try.call86 rfl rfl (c_with blk ((keys.drop 0).take 16) hbl (subLen (K := 176) hks (by omega) : List.length ((keys.drop 0).take 16) = 16) _ ) rfl ?_
      rintro _ w_22 ⟨rfl, hc_21⟩
      have h_23 := h_20.same hc_21
      refine WL.nil ?_
      refine ⟨(SL.cons (h_23.ok _ (.tail _ (.head _))) (SL.cons (h_23.ok _ (.tail _ (.tail _ (.head _)))) (SL.cons (h_23.ok _ (.tail _ (.tail _ (.tail _ (.head _))))) (SL.nil _ _)))), ?_⟩
      refine WT.s ?_
      refine Op1.one rfl (Wn.no rfl) ?_
      refine WL.storeA (b := b_18) (off := 0) [] [(16, (List.replicate 16 (0 : UInt8)).map vu8)] [(16, (xorL blk ((keys.drop 0).take 16)).map vu8)] [] (ys := (xorL blk ((keys.drop 0).take 16)).map vu8) h_23 rfl rfl Try.sizeOf66 At.h (by decide) rfl rfl rfl rfl rfl rfl (SsOk.cons (SOk.u8 (xorL_len hbl (subLen (K := 176) hks (by omega) : List.length ((keys.drop 0).take 16) = 16))) SsOk.nil) (fun w_24 h_25 => ?_)
      refine WL.nil ?_
      refine ⟨(SL.cons (h_25.ok _ (.tail _ (.head _))) (SL.cons (h_25.ok _ (.tail _ (.tail _ (.head _)))) (SL.cons (h_25.ok _ (.tail _ (.tail _ (.tail _ (.head _))))) (SL.nil _ _)))), ?_⟩
      refine WT.nil ?_
      refine thn_n ?_
      exact ⟨b_18, (Ag.upd rfl (Ag.upd rfl (Ag.upd rfl (Ag.upd rfl (Ag.upd rfl (Ag.upd rfl (Ag.upd rfl (Ag.upd rfl (Ag.refl _ _))))))))), ⟨rfl, rfl, rfl, rfl, rfl, rfl, rfl, rfl, trivial⟩, h_25⟩
  · rintro b_29 J_26 w_27 h_28
    refine thn_n ?_
    refine WP.seq ?_
    refine WP.seq ?_
    refine WP.reg ?_
    refine WL.q (Wn.no rfl) rfl rfl (R.assign (v := (vi 1)) rfl) ?_
    refine WL.nil ?_
    refine thn_n ?_
    refine WP.block ?_
    refine WP.loopG (G := Nat) [6, 7, 8, 16, 17, 18, 19, 20, 21, 22, 23, 24, 25, 26, 27, 28, 29, 30, 31, 32, 33, 34, 35, 36, 37, 38, 39, 40, 41, 42, 43, 44, 45, 46, 47, 48, 49, 50, 51] (fun r => [(6, (vi ((r : Nat) : Int)))]) (fun r m w1 => HP w w1 [.blk b_29 .nw 66 [(16, (encN keys tb blk (r - 1)).map vu8)], .blk b_4 .nw 66 [(16, (List.replicate 16 (0 : UInt8)).map vu8)], .blk b_1 .nw 66 [(16, blk.map vu8)], .blk bc .ro 109 [(176, keys.map vu8), (256, tb.map vu8)]] ∧ (1 ≤ r) ∧ (r ≤ 11) ∧ m = 11 - r) ⟨1, _, ⟨rfl, trivial⟩, h_28, (by omega), (by omega), rfl⟩ ?_
    rintro r m_32 J_33 w_30 ⟨h_31, hr, hr2, rfl⟩
    refine WP.seq ?_
    refine WP.seq ?_
    refine WP.reg ?_
    refine WL.q (Wn.no rfl) rfl rfl (R.move (v := (vi ((r : Nat) : Int))) rfl) ?_
    refine WL.q (Wn.no rfl) rfl rfl (R.bin (v := (.bool (decide ((((r : Nat) : Int) : Int) < 11)))) rfl rfl (bi_lss (r := decide ((((r : Nat) : Int) : Int) < 11)) rfl)) ?_
    refine WL.nil ?_
    refine thn_n ?_
    refine WP.cond (b := decide ((((r : Nat) : Int) : Int) < 11)) rfl (fun c_34 => ?_) (fun c_34 => ?_)
    · have p_35 := of_decide_eq_true c_34
      refine WP.skip ?_
      refine thn_n ?_
      refine WP.seq ?_
      refine WP.block ?_
      refine WP.seq ?_
      refine WP.reg ?_
      refine WL.alloc (segs := [(16, (List.replicate 16 (0 : UInt8)).map vu8)]) h_31 (zv Try.typeInfo66 rfl) rfl (SsOk.cons (SOk.u8 (List.length_replicate ..)) SsOk.nil) rfl (fun b_36 w_37 h_38 => ?_)
      refine WL.nil ?_
      refine thn_n ?_
      refine WP.seq ?_
      refine WP.seq ?_
      refine WP.reg ?_
      refine WL.q (Wn.no rfl) rfl rfl (R.move (v := (vi 0)) rfl) ?_
      refine WL.nil ?_
      refine thn_n ?_
      refine WP.block ?_
      refine WP.loopG (G := Nat) [8, 20, 21, 22, 23, 24, 25, 26, 27, 28, 29, 30, 31, 32, 33, 34, 35, 36, 37, 38] (fun i => [(20, (vi ((i : Nat) : Int)))]) (fun i m w1 => HP w w1 [.blk b_36 .nw 66 [(16, (pre 16 (shb tb (encN keys tb blk (r - 1))) i).map vu8)], .blk b_29 .nw 66 [(16, (encN keys tb blk (r - 1)).map vu8)], .blk b_4 .nw 66 [(16, (List.replicate 16 (0 : UInt8)).map vu8)], .blk b_1 .nw 66 [(16, blk.map vu8)], .blk bc .ro 109 [(176, keys.map vu8), (256, tb.map vu8)]] ∧ (i ≤ 16) ∧ m = 16 - i) ⟨0, _, ⟨rfl, trivial⟩, (by rw [pre_0]; exact h_38), (by omega), rfl⟩ ?_
      rintro i m_41 J_42 w_39 ⟨h_40, hi, rfl⟩
      refine WP.seq ?_
      refine WP.reg ?_
      refine WL.q (Wn.no rfl) rfl rfl (R.bin (v := (.bool (decide ((((i : Nat) : Int) : Int) < 16)))) rfl rfl (bi_lss (r := decide ((((i : Nat) : Int) : Int) < 16)) rfl)) ?_
      refine WL.nil ?_
      refine thn_n ?_
      refine WP.seq ?_
      refine WP.cond (b := decide ((((i : Nat) : Int) : Int) < 16)) rfl (fun c_43 => ?_) (fun c_43 => ?_)
      · have p_44 := of_decide_eq_true c_43
        refine WP.skip ?_
        refine thn_n ?_
        refine WP.seq ?_
        refine WP.block ?_
        refine WP.seq ?_
        refine WP.reg ?_
        refine WL.q (Wn.no rfl) rfl rfl (R.move (v := (vi ((i : Nat) : Int))) rfl) ?_
        refine WL.q (Wn.no rfl) rfl rfl (R.assign (v := (vi ((i : Nat) : Int))) rfl) ?_
        refine WL.nil ?_
        refine thn_n ?_
        refine WP.drawT (SL w.heap.size [.blk b_29 .nw 66 [(16, (encN keys tb blk (r - 1)).map vu8)], .blk b_4 .nw 66 [(16, (List.replicate 16 (0 : UInt8)).map vu8)], .blk b_1 .nw 66 [(16, blk.map vu8)], .blk bc .ro 109 [(176, keys.map vu8), (256, tb.map vu8)]]) (.q 0 (.q 1 (.q 2 (.q 3 (.q 4 (.q 5 (.q 6 (.q 7 (.q 8 (.q 9 (.q 10 (.q 11 (.q 12 (.q 13 (.q 14 (.s 15 .nil)))))))))))))))) (by kernel_rfl) (by kernel_rfl) rfl (by kernel_rfl) (fun w_45 hc_47 => (SL.cons ((h_40.same hc_47).ok _ (.tail _ (.head _))) (SL.cons ((h_40.same hc_47).ok _ (.tail _ (.tail _ (.head _)))) (SL.cons ((h_40.same hc_47).ok _ (.tail _ (.tail _ (.tail _ (.head _))))) (SL.cons ((h_40.same hc_47).ok _ (.tail _ (.tail _ (.tail _ (.tail _ (.head _)))))) (SL.nil _ _)))))) (fun w_45 hc_47 => ?_)
        have h_46 := h_40.same hc_47
        refine WT.q rfl (Wn.no rfl) rfl rfl (fun wq hS => R.move (v := (vi ((i : Nat) : Int))) rfl) ?_
        refine WT.q rfl (Wn.no rfl) rfl rfl (fun wq hS => R.move (v := (.pointer (some ⟨bc, 0, none⟩))) rfl) ?_
        refine WT.q rfl (Wn.no rfl) rfl rfl (fun wq hS => R.move (v := (vi ((i : Nat) : Int))) rfl) ?_
        refine WT.q rfl (Wn.no rfl) rfl rfl (fun wq hS => R.move (v := (vi ((i : Nat) : Int))) rfl) ?_
        refine WT.q rfl (Wn.no rfl) rfl rfl (fun wq hS => R.bin (v := (vi ((i % 4 : Nat) : Int))) rfl rfl (bi_rem (c := ((i % 4 : Nat) : Int)) (Int.natCast_nonneg _) (by omega) (by first | omega | rfl))) ?_
        refine WT.q rfl (Wn.no rfl) rfl rfl (fun wq hS => R.bin (v := (vi (((i % 4) * 4 : Nat) : Int))) rfl rfl (bi_mul (c := (((i % 4) * 4 : Nat) : Int)) (by omega) (by omega))) ?_
        refine WT.q rfl (Wn.no rfl) rfl rfl (fun wq hS => R.bin (v := (vi ((i + ((i % 4) * 4) : Nat) : Int))) rfl rfl (bi_add (c := ((i + ((i % 4) * 4) : Nat) : Int)) (by omega) (by omega))) ?_
        refine WT.q rfl (Wn.no rfl) rfl rfl (fun wq hS => R.bin (v := (vi (((i + ((i % 4) * 4)) % 16 : Nat) : Int))) rfl rfl (bi_rem (c := (((i + ((i % 4) * 4)) % 16 : Nat) : Int)) (Int.natCast_nonneg _) (by omega) (by first | omega | rfl))) ?_
        refine WT.q rfl (Wn.no rfl) rfl rfl (fun wq hS => R.indexA (b := b_29) (off := 0) (off' := (0 + ((i + ((i % 4) * 4)) % 16))) (i := (i + ((i % 4) * 4)) % 16) rfl rfl rfl (by omega) Try.underlying66 Try.sizeOf5 (by rw [Nat.mul_one])) ?_
        refine WT.q rfl (Wn.no rfl) rfl rfl (fun wq hS => R.loadE (b := b_29) (off := (0 + ((i + ((i % 4) * 4)) % 16))) (i := (i + ((i % 4) * 4)) % 16) (v := (vu8 ((encN keys tb blk (r - 1)).getD ((i + ((i % 4) * 4)) % 16) 0))) rfl Try.isAgg5 (hS _ (.head _)) Sg.h rfl (get_u8 (lt_len (K := 16) (encN_len hks hbl (by omega)) (by omega)))) ?_
        refine WT.q rfl (Wn.no rfl) rfl rfl (fun wq hS => R.nilCheck rfl) ?_
        refine WT.q rfl (Wn.no rfl) rfl rfl (fun wq hS => R.fieldAddr (b := bc) (off := 0) (off' := 176) rfl Try.underlying109 rfl Try.sizeOf72 rfl rfl) ?_
        refine WT.q rfl (Wn.no rfl) rfl rfl (fun wq hS => R.indexA (b := bc) (off := 176) (off' := (176 + (((encN keys tb blk (r - 1)).getD ((i + ((i % 4) * 4)) % 16) 0).toNat))) (i := ((encN keys tb blk (r - 1)).getD ((i + ((i % 4) * 4)) % 16) 0).toNat) rfl rfl rfl (UInt8.toNat_lt _) Try.underlying72 Try.sizeOf5 (by rw [Nat.mul_one])) ?_
        refine WT.q rfl (Wn.no rfl) rfl rfl (fun wq hS => R.loadE (b := bc) (off := (176 + (((encN keys tb blk (r - 1)).getD ((i + ((i % 4) * 4)) % 16) 0).toNat))) (i := ((encN keys tb blk (r - 1)).getD ((i + ((i % 4) * 4)) % 16) 0).toNat) (v := (vu8 (tb.getD (((encN keys tb blk (r - 1)).getD ((i + ((i % 4) * 4)) % 16) 0).toNat) 0))) rfl Try.isAgg5 (hS _ (.tail _ (.tail _ (.tail _ (.head _))))) (Sg.t rfl Sg.h) rfl (get_u8 (lt_len (K := 256) htb (UInt8.toNat_lt _)))) ?_
        refine WT.q rfl (Wn.no rfl) rfl rfl (fun wq hS => R.indexA (b := b_36) (off := 0) (off' := (0 + i)) (i := i) rfl rfl rfl (by omega) Try.underlying66 Try.sizeOf5 (by rw [Nat.mul_one])) ?_
        refine WT.s ?_
        refine Op1.one rfl (Wn.no rfl) ?_
        refine WL.storeE (b := b_36) (off := (0 + i)) (i := i) (v := (vu8 (tb.getD (((encN keys tb blk (r - 1)).getD ((i + ((i % 4) * 4)) % 16) 0).toNat) 0))) (cs' := ((pre 16 (shb tb (encN keys tb blk (r - 1))) i).set i (tb.getD (((encN keys tb blk (r - 1)).getD ((i + ((i % 4) * 4)) % 16) 0).toNat) 0)).map vu8) h_46 rfl rfl Try.sizeOf5 rfl At.h (by decide) Sg.h rfl (lt_len (K := 16) (len_map (pre_len (by omega))) (by omega)) (set_u8 _ _ _) (fun w_48 h_49 => ?_)
        refine WL.nil ?_
        refine ⟨(SL.cons (h_49.ok _ (.tail _ (.head _))) (SL.cons (h_49.ok _ (.tail _ (.tail _ (.head _)))) (SL.cons (h_49.ok _ (.tail _ (.tail _ (.tail _ (.head _))))) (SL.cons (h_49.ok _ (.tail _ (.tail _ (.tail _ (.tail _ (.head _)))))) (SL.nil _ _))))), ?_⟩
        refine WT.nil ?_
        refine inb_n ?_
        refine thn_n ?_
        refine WP.reg ?_
        refine WL.q (Wn.no rfl) rfl rfl (R.bin (v := (vi ((i + 1 : Nat) : Int))) rfl rfl (bi_add (c := ((i + 1 : Nat) : Int)) (by omega) (by omega))) ?_
        refine WL.q (Wn.no rfl) rfl rfl (R.move (v := (vi ((i + 1 : Nat) : Int))) rfl) ?_
        refine WL.nil ?_
        refine thn_n ?_
        have es := pre_set (n := 16) (g := shb tb (encN keys tb blk (r - 1))) (i := i) (x := tb.getD ((encN keys tb blk (r - 1)).getD ((i + i % 4 * 4) % 16) 0).toNat 0) (by omega) rfl
        rw [es] at h_49
        exact ⟨i + 1, _, (by omega), (Ag.upd rfl (Ag.upd rfl (Ag.upd rfl (Ag.upd rfl (Ag.upd rfl (Ag.upd rfl (Ag.upd rfl (Ag.upd rfl (Ag.upd rfl (Ag.upd rfl (Ag.upd rfl (Ag.upd rfl (Ag.upd rfl (Ag.upd rfl (Ag.upd rfl (Ag.upd rfl (Ag.upd rfl (Ag.upd rfl (Ag.upd rfl (Ag.upd rfl (Ag.updL rfl (Ag.mix _ _ _)))))))))))))))))))))), ⟨rfl, trivial⟩, h_49, (by omega), rfl⟩
      · have p_50 := of_decide_eq_false c_43
        refine WP.exit ?_
        refine thn_x ?_
        refine thn_x ?_
        refine inb_hit ?_
        refine thn_n ?_
        refine WP.seq ?_
        refine WP.seq ?_
        refine WP.reg ?_
        refine WL.q (Wn.no rfl) rfl rfl (R.move (v := (vi ((r : Nat) : Int))) rfl) ?_
        refine WL.q (Wn.no rfl) rfl rfl (R.bin (v := (.bool (decide ((((r : Nat) : Int) : Int) < 10)))) rfl rfl (bi_lss (r := decide ((((r : Nat) : Int) : Int) < 10)) rfl)) ?_
        refine WL.nil ?_
        refine thn_n ?_
        refine WP.cond (b := decide ((((r : Nat) : Int) : Int) < 10)) rfl (fun c_51 => ?_) (fun c_51 => ?_)
        · have p_52 := of_decide_eq_true c_51
          refine WP.reg ?_
          refine WL.q (Wn.no rfl) rfl rfl (R.loadA (b := b_36) (off := 0) [] [(16, (pre 16 (shb tb (encN keys tb blk (r - 1))) i).map vu8)] [] (cs := (pre 16 (shb tb (encN keys tb blk (r - 1))) i).map vu8) rfl Try.isAgg66 Try.sizeOf66 (h_40.ok _ (.head _)) rfl rfl rfl rfl) ?_
          refine WL.q (Wn.no rfl) rfl rfl (R.buildA (vs := [(0, (vu8 2)), (1, (vu8 3)), (2, (vu8 1)), (3, (vu8 1))]) (cs := ([2, 3, 1, 1] : List UInt8).map vu8) Try.underlying100 Try.sizeOf5 (zv Try.typeInfo100 rfl) rfl rfl) ?_
          refine WL.call (al := [(.agg ⟨(pre 16 (shb tb (encN keys tb blk (r - 1))) i).map vu8⟩), (.agg ⟨([2, 3, 1, 1] : List UInt8).map vu8⟩)]) Try.call87 rfl rfl (c_mix (pre 16 (shb tb (encN keys tb blk (r - 1))) i) ([2, 3, 1, 1] : List UInt8) (pre_len (by omega)) (rfl : List.length ([2, 3, 1, 1] : List UInt8) = 4) _ ) rfl ?_
          rintro _ w_54 ⟨rfl, hc_53⟩
          have h_55 := h_40.same hc_53
          refine WL.storeA (b := b_36) (off := 0) [] [(16, (pre 16 (shb tb (encN keys tb blk (r - 1))) i).map vu8)] [(16, (mixL (pre 16 (shb tb (encN keys tb blk (r - 1))) i) ([2, 3, 1, 1] : List UInt8)).map vu8)] [] (ys := (mixL (pre 16 (shb tb (encN keys tb blk (r - 1))) i) ([2, 3, 1, 1] : List UInt8)).map vu8) h_55 rfl rfl Try.sizeOf66 At.h (by decide) rfl rfl rfl rfl rfl rfl (SsOk.cons (SOk.u8 (mixL_len ..)) SsOk.nil) (fun w_56 h_57 => ?_)
          refine WL.nil ?_
          refine thn_n ?_
          refine WP.drawT (SL w.heap.size [.blk b_36 .nw 66 [(16, (mixL (pre 16 (shb tb (encN keys tb blk (r - 1))) i) ([2, 3, 1, 1] : List UInt8)).map vu8)], .blk b_4 .nw 66 [(16, (List.replicate 16 (0 : UInt8)).map vu8)], .blk b_1 .nw 66 [(16, blk.map vu8)], .blk bc .ro 109 [(176, keys.map vu8), (256, tb.map vu8)]]) (.q 0 (.q 1 (.q 2 (.q 3 (.q 4 (.q 5 (.q 6 (.s 7 (.s 8 .nil))))))))) (by kernel_rfl) (by kernel_rfl) rfl (by kernel_rfl) (fun w_58 hc_60 => (SL.cons ((h_57.same hc_60).ok _ (.head _)) (SL.cons ((h_57.same hc_60).ok _ (.tail _ (.tail _ (.head _)))) (SL.cons ((h_57.same hc_60).ok _ (.tail _ (.tail _ (.tail _ (.head _))))) (SL.cons ((h_57.same hc_60).ok _ (.tail _ (.tail _ (.tail _ (.tail _ (.head _)))))) (SL.nil _ _)))))) (fun w_58 hc_60 => ?_)
          have h_59 := h_57.same hc_60
          refine WT.q rfl (Wn.no rfl) rfl rfl (fun wq hS => R.loadA (b := b_36) (off := 0) [] [(16, (mixL (pre 16 (shb tb (encN keys tb blk (r - 1))) i) ([2, 3, 1, 1] : List UInt8)).map vu8)] [] (cs := (mixL (pre 16 (shb tb (encN keys tb blk (r - 1))) i) ([2, 3, 1, 1] : List UInt8)).map vu8) rfl Try.isAgg66 Try.sizeOf66 (hS _ (.head _)) rfl rfl rfl rfl) ?_
          refine WT.q rfl (Wn.no rfl) rfl rfl (fun wq hS => R.move (v := (.pointer (some ⟨bc, 0, none⟩))) rfl) ?_
          refine WT.q rfl (Wn.no rfl) rfl rfl (fun wq hS => R.move (v := (vi ((r : Nat) : Int))) rfl) ?_
          refine WT.q rfl (Wn.no rfl) rfl rfl (fun wq hS => R.nilCheck rfl) ?_
          refine WT.q rfl (Wn.no rfl) rfl rfl (fun wq hS => R.fieldAddr (b := bc) (off := 0) (off' := 0) rfl Try.underlying109 rfl Try.sizeOf74 rfl rfl) ?_
          refine WT.q rfl (Wn.no rfl) rfl rfl (fun wq hS => R.indexA (b := bc) (off := 0) (off' := (0 + (r * 16))) (i := r) rfl rfl rfl (by omega) Try.underlying74 Try.sizeOf66 rfl) ?_
          refine WT.q rfl (Wn.no rfl) rfl rfl (fun wq hS => R.loadEA (b := bc) (off := (0 + (r * 16))) (i := r * 16) (xs := ((keys.drop (r * 16)).take 16).map vu8) rfl Try.isAgg66 Try.sizeOf66 (hS _ (.tail _ (.tail _ (.tail _ (.head _))))) Sg.h rfl (by rw [List.map_take, List.map_drop]) (len_map (subLen (K := 176) hks (by omega) : List.length ((keys.drop (r * 16)).take 16) = 16))) ?_
          refine WT.s ?_
          refine Op1.one rfl (Wn.no rfl) ?_
          refine WL.call (al := [(.agg ⟨(mixL (pre 16 (shb tb (encN keys tb blk (r - 1))) i) ([2, 3, 1, 1] : List UInt8)).map vu8⟩), (.agg ⟨((keys.drop (r * 16)).take 16).map vu8⟩)]) Try.call86 rfl rfl (c_with (mixL (pre 16 (shb tb (encN keys tb blk (r - 1))) i) ([2, 3, 1, 1] : List UInt8)) ((keys.drop (r * 16)).take 16) (mixL_len ..) (subLen (K := 176) hks (by omega) : List.length ((keys.drop (r * 16)).take 16) = 16) _ ) rfl ?_
          rintro _ w_62 ⟨rfl, hc_61⟩
          have h_63 := h_59.same hc_61
          refine WL.nil ?_
          refine ⟨(SL.cons (h_63.ok _ (.head _)) (SL.cons (h_63.ok _ (.tail _ (.tail _ (.head _)))) (SL.cons (h_63.ok _ (.tail _ (.tail _ (.tail _ (.head _))))) (SL.cons (h_63.ok _ (.tail _ (.tail _ (.tail _ (.tail _ (.head _)))))) (SL.nil _ _))))), ?_⟩
          refine WT.s ?_
          refine Op1.one rfl (Wn.no rfl) ?_
          refine WL.storeA (b := b_29) (off := 0) [] [(16, (encN keys tb blk (r - 1)).map vu8)] [(16, (xorL (mixL (pre 16 (shb tb (encN keys tb blk (r - 1))) i) ([2, 3, 1, 1] : List UInt8)) ((keys.drop (r * 16)).take 16)).map vu8)] [] (ys := (xorL (mixL (pre 16 (shb tb (encN keys tb blk (r - 1))) i) ([2, 3, 1, 1] : List UInt8)) ((keys.drop (r * 16)).take 16)).map vu8) h_63 rfl rfl Try.sizeOf66 (At.t At.h) (by decide) rfl rfl rfl rfl rfl rfl (SsOk.cons (SOk.u8 (xorL_len (mixL_len ..) (subLen (K := 176) hks (by omega) : List.length ((keys.drop (r * 16)).take 16) = 16))) SsOk.nil) (fun w_64 h_65 => ?_)
          refine WL.nil ?_
          refine ⟨(SL.cons (h_65.ok _ (.head _)) (SL.cons (h_65.ok _ (.tail _ (.tail _ (.head _)))) (SL.cons (h_65.ok _ (.tail _ (.tail _ (.tail _ (.head _))))) (SL.cons (h_65.ok _ (.tail _ (.tail _ (.tail _ (.tail _ (.head _)))))) (SL.nil _ _))))), ?_⟩
          refine WT.nil ?_
          refine inb_n ?_
          refine thn_n ?_
          refine WP.reg ?_
          refine WL.q (Wn.no rfl) rfl rfl (R.move (v := (vi ((r : Nat) : Int))) rfl) ?_
          refine WL.q (Wn.no rfl) rfl rfl (R.bin (v := (vi ((r + 1 : Nat) : Int))) rfl rfl (bi_add (c := ((r + 1 : Nat) : Int)) (by omega) (by omega))) ?_
          refine WL.q (Wn.no rfl) rfl rfl (R.assign (v := (vi ((r + 1 : Nat) : Int))) rfl) ?_
          refine WL.nil ?_
          refine thn_n ?_
          have hi16 : i = 16 := by omega
          subst hi16
          obtain ⟨q, rfl⟩ : ∃ q, r = q + 1 := ⟨r - 1, by omega⟩
          have h_66 := h_65.drop rfl
          have es : xorL (mixL (pre 16 (shb tb (encN keys tb blk ((q + 1) - 1))) 16) ([2, 3, 1, 1] : List UInt8)) ((keys.drop ((q + 1) * 16)).take 16) = encN keys tb blk (q + 1) := by rw [Nat.add_sub_cancel, pre_all, encN, if_pos (by omega)]; rfl
          rw [es] at h_66
          exact ⟨q + 1 + 1, _, (by omega), (Ag.upd rfl (Ag.upd rfl (Ag.upd rfl (Ag.upd rfl (Ag.upd rfl (Ag.upd rfl (Ag.upd rfl (Ag.upd rfl (Ag.upd rfl (Ag.upd rfl (Ag.upd rfl (Ag.upd rfl (Ag.upd rfl (Ag.upd rfl (Ag.upd rfl (Ag.upd rfl (Ag.upd rfl (Ag.updL rfl (Ag.trans (Ag.sub rfl (Ag.mix _ _ _)) (Ag.upd rfl (Ag.upd rfl (Ag.upd rfl (Ag.upd rfl (Ag.updL rfl (Ag.mix _ _ _))))))))))))))))))))))))), ⟨rfl, trivial⟩, h_66, (by omega), (by omega), rfl⟩
        · have p_67 := of_decide_eq_false c_51
          refine WP.skip ?_
          refine thn_n ?_
          refine WP.drawT (SL w.heap.size [.blk b_36 .nw 66 [(16, (pre 16 (shb tb (encN keys tb blk (r - 1))) i).map vu8)], .blk b_4 .nw 66 [(16, (List.replicate 16 (0 : UInt8)).map vu8)], .blk b_1 .nw 66 [(16, blk.map vu8)], .blk bc .ro 109 [(176, keys.map vu8), (256, tb.map vu8)]]) (.q 0 (.q 1 (.q 2 (.q 3 (.q 4 (.q 5 (.q 6 (.s 7 (.s 8 .nil))))))))) (by kernel_rfl) (by kernel_rfl) rfl (by kernel_rfl) (fun w_68 hc_70 => (SL.cons ((h_40.same hc_70).ok _ (.head _)) (SL.cons ((h_40.same hc_70).ok _ (.tail _ (.tail _ (.head _)))) (SL.cons ((h_40.same hc_70).ok _ (.tail _ (.tail _ (.tail _ (.head _))))) (SL.cons ((h_40.same hc_70).ok _ (.tail _ (.tail _ (.tail _ (.tail _ (.head _)))))) (SL.nil _ _)))))) (fun w_68 hc_70 => ?_)
          have h_69 := h_40.same hc_70
          refine WT.q rfl (Wn.no rfl) rfl rfl (fun wq hS => R.loadA (b := b_36) (off := 0) [] [(16, (pre 16 (shb tb (encN keys tb blk (r - 1))) i).map vu8)] [] (cs := (pre 16 (shb tb (encN keys tb blk (r - 1))) i).map vu8) rfl Try.isAgg66 Try.sizeOf66 (hS _ (.head _)) rfl rfl rfl rfl) ?_
          refine WT.q rfl (Wn.no rfl) rfl rfl (fun wq hS => R.move (v := (.pointer (some ⟨bc, 0, none⟩))) rfl) ?_
          refine WT.q rfl (Wn.no rfl) rfl rfl (fun wq hS => R.move (v := (vi ((r : Nat) : Int))) rfl) ?_
          refine WT.q rfl (Wn.no rfl) rfl rfl (fun wq hS => R.nilCheck rfl) ?_
          refine WT.q rfl (Wn.no rfl) rfl rfl (fun wq hS => R.fieldAddr (b := bc) (off := 0) (off' := 0) rfl Try.underlying109 rfl Try.sizeOf74 rfl rfl) ?_
          refine WT.q rfl (Wn.no rfl) rfl rfl (fun wq hS => R.indexA (b := bc) (off := 0) (off' := (0 + (r * 16))) (i := r) rfl rfl rfl (by omega) Try.underlying74 Try.sizeOf66 rfl) ?_
          refine WT.q rfl (Wn.no rfl) rfl rfl (fun wq hS => R.loadEA (b := bc) (off := (0 + (r * 16))) (i := r * 16) (xs := ((keys.drop (r * 16)).take 16).map vu8) rfl Try.isAgg66 Try.sizeOf66 (hS _ (.tail _ (.tail _ (.tail _ (.head _))))) Sg.h rfl (by rw [List.map_take, List.map_drop]) (len_map (subLen (K := 176) hks (by omega) : List.length ((keys.drop (r * 16)).take 16) = 16))) ?_
          refine WT.s ?_
          refine Op1.one rfl (Wn.no rfl) ?_
          refine WL.call (al := [(.agg ⟨(pre 16 (shb tb (encN keys tb blk (r - 1))) i).map vu8⟩), (.agg ⟨((keys.drop (r * 16)).take 16).map vu8⟩)]) Try.call86 rfl rfl (c_with (pre 16 (shb tb (encN keys tb blk (r - 1))) i) ((keys.drop (r * 16)).take 16) (pre_len (by omega)) (subLen (K := 176) hks (by omega) : List.length ((keys.drop (r * 16)).take 16) = 16) _ ) rfl ?_
          rintro _ w_72 ⟨rfl, hc_71⟩
          have h_73 := h_69.same hc_71
          refine WL.nil ?_
          refine ⟨(SL.cons (h_73.ok _ (.head _)) (SL.cons (h_73.ok _ (.tail _ (.tail _ (.head _)))) (SL.cons (h_73.ok _ (.tail _ (.tail _ (.tail _ (.head _))))) (SL.cons (h_73.ok _ (.tail _ (.tail _ (.tail _ (.tail _ (.head _)))))) (SL.nil _ _))))), ?_⟩
          refine WT.s ?_
          refine Op1.one rfl (Wn.no rfl) ?_
          refine WL.storeA (b := b_29) (off := 0) [] [(16, (encN keys tb blk (r - 1)).map vu8)] [(16, (xorL (pre 16 (shb tb (encN keys tb blk (r - 1))) i) ((keys.drop (r * 16)).take 16)).map vu8)] [] (ys := (xorL (pre 16 (shb tb (encN keys tb blk (r - 1))) i) ((keys.drop (r * 16)).take 16)).map vu8) h_73 rfl rfl Try.sizeOf66 (At.t At.h) (by decide) rfl rfl rfl rfl rfl rfl (SsOk.cons (SOk.u8 (xorL_len (pre_len (by omega)) (subLen (K := 176) hks (by omega) : List.length ((keys.drop (r * 16)).take 16) = 16))) SsOk.nil) (fun w_74 h_75 => ?_)
          refine WL.nil ?_
          refine ⟨(SL.cons (h_75.ok _ (.head _)) (SL.cons (h_75.ok _ (.tail _ (.tail _ (.head _)))) (SL.cons (h_75.ok _ (.tail _ (.tail _ (.tail _ (.head _))))) (SL.cons (h_75.ok _ (.tail _ (.tail _ (.tail _ (.tail _ (.head _)))))) (SL.nil _ _))))), ?_⟩
          refine WT.nil ?_
          refine inb_n ?_
          refine thn_n ?_
          refine WP.reg ?_
          refine WL.q (Wn.no rfl) rfl rfl (R.move (v := (vi ((r : Nat) : Int))) rfl) ?_
          refine WL.q (Wn.no rfl) rfl rfl (R.bin (v := (vi ((r + 1 : Nat) : Int))) rfl rfl (bi_add (c := ((r + 1 : Nat) : Int)) (by omega) (by omega))) ?_
          refine WL.q (Wn.no rfl) rfl rfl (R.assign (v := (vi ((r + 1 : Nat) : Int))) rfl) ?_
          refine WL.nil ?_
          refine thn_n ?_
          have hi16 : i = 16 := by omega
          subst hi16
          obtain ⟨q, rfl⟩ : ∃ q, r = q + 1 := ⟨r - 1, by omega⟩
          have h_76 := h_75.drop rfl
          have es : xorL (pre 16 (shb tb (encN keys tb blk ((q + 1) - 1))) 16) ((keys.drop ((q + 1) * 16)).take 16) = encN keys tb blk (q + 1) := by rw [Nat.add_sub_cancel, pre_all, encN, if_neg (by omega)]; rfl
          rw [es] at h_76
          exact ⟨q + 1 + 1, _, (by omega), (Ag.upd rfl (Ag.upd rfl (Ag.upd rfl (Ag.upd rfl (Ag.upd rfl (Ag.upd rfl (Ag.upd rfl (Ag.upd rfl (Ag.upd rfl (Ag.upd rfl (Ag.upd rfl (Ag.upd rfl (Ag.upd rfl (Ag.upd rfl (Ag.updL rfl (Ag.trans (Ag.sub rfl (Ag.mix _ _ _)) (Ag.upd rfl (Ag.upd rfl (Ag.upd rfl (Ag.upd rfl (Ag.updL rfl (Ag.mix _ _ _)))))))))))))))))))))), ⟨rfl, trivial⟩, h_76, (by omega), (by omega), rfl⟩
    · have p_77 := of_decide_eq_false c_34
      refine WP.exit ?_
      refine thn_x ?_
      refine thn_x ?_
      refine inb_hit ?_
      refine thn_n ?_
      refine WP.seq ?_
      refine WP.reg ?_
      refine WL.q (Wn.no rfl) rfl rfl (R.loadA (b := b_29) (off := 0) [] [(16, (encN keys tb blk (r - 1)).map vu8)] [] (cs := (encN keys tb blk (r - 1)).map vu8) rfl Try.isAgg66 Try.sizeOf66 (h_31.ok _ (.head _)) rfl rfl rfl rfl) ?_
      refine WL.storeA (b := b_4) (off := 0) [] [(16, (List.replicate 16 (0 : UInt8)).map vu8)] [(16, (encN keys tb blk (r - 1)).map vu8)] [] (ys := (encN keys tb blk (r - 1)).map vu8) h_31 rfl rfl Try.sizeOf66 (At.t At.h) (by decide) rfl rfl rfl rfl rfl rfl (SsOk.cons (SOk.u8 (encN_len hks hbl (by omega))) SsOk.nil) (fun w_78 h_79 => ?_)
      refine WL.nil ?_
      refine thn_n ?_
      refine WP.ret ?_
      refine ret_of Try.results81 (RV.cell rfl (h_79.loadA (cs := (encN keys tb blk (r - 1)).map vu8) Try.isAgg66 Try.sizeOf66 (.tail _ (.head _)) rfl rfl) RV.nil) ?_
      have hr11 : r = 11 := by omega
      subst hr11
      exact ⟨rfl, h_79.chgS⟩

theorem c_Encipher (key blk : List UInt8) (hkey : key.length = 16) (hbl : blk.length = 16) (w : World) :
    Cs Try.prog 60 [(.agg ⟨key.map vu8⟩), (.agg ⟨blk.map vu8⟩)].toArray w (fun v w1 => v = (.agg ⟨(enc key blk).map vu8⟩) ∧ Chg w w1 []) := by
  refine Cs.of (n := 9) (args := [(.agg ⟨key.map vu8⟩), (.agg ⟨blk.map vu8⟩)]) Try.func60 rfl rfl rfl ?_
  have h_0 := HP.init w
  refine WP.seq ?_
  refine WP.reg ?_
  refine WL.box (v := (.agg ⟨key.map vu8⟩)) (segs := [(16, key.map vu8)]) h_0 rfl rfl (SsOk.cons (SOk.u8 hkey) SsOk.nil) rfl (fun b_1 w_2 h_3 => ?_)
  refine WL.box (v := (.agg ⟨blk.map vu8⟩)) (segs := [(16, blk.map vu8)]) h_3 rfl rfl (SsOk.cons (SOk.u8 hbl) SsOk.nil) rfl (fun b_4 w_5 h_6 => ?_)
  refine WL.alloc (segs := [(16, (List.replicate 16 (0 : UInt8)).map vu8)]) h_6 (zv Try.typeInfo66 rfl) rfl (SsOk.cons (SOk.u8 (List.length_replicate ..)) SsOk.nil) rfl (fun b_7 w_8 h_9 => ?_)
  refine WL.nil ?_
  refine thn_n ?_
  refine WP.seq ?_
  refine WP.drawT (SL w.heap.size [.blk b_4 .nw 66 [(16, blk.map vu8)], .blk b_1 .nw 66 [(16, key.map vu8)]]) (.q 0 (.q 2 (.s 1 (.s 3 (.s 4 .nil))))) (by kernel_rfl) (by kernel_rfl) rfl (by kernel_rfl) (fun w_10 hc_12 => (SL.cons ((h_9.same hc_12).ok _ (.tail _ (.head _))) (SL.cons ((h_9.same hc_12).ok _ (.tail _ (.tail _ (.head _)))) (SL.nil _ _)))) (fun w_10 hc_12 => ?_)
  have h_11 := h_9.same hc_12
  refine WT.q rfl (Wn.no rfl) rfl rfl (fun wq hS => R.loadA (b := b_1) (off := 0) [] [(16, key.map vu8)] [] (cs := key.map vu8) rfl Try.isAgg66 Try.sizeOf66 (hS _ (.tail _ (.head _))) rfl rfl rfl rfl) ?_
  refine WT.q rfl (Wn.no rfl) rfl rfl (fun wq hS => R.loadA (b := b_4) (off := 0) [] [(16, blk.map vu8)] [] (cs := blk.map vu8) rfl Try.isAgg66 Try.sizeOf66 (hS _ (.head _)) rfl rfl rfl rfl) ?_
  refine WT.s ?_
  refine Op1.one rfl (Wn.no rfl) ?_
  refine WL.call (al := [(.agg ⟨key.map vu8⟩)]) Try.call80 rfl rfl (c_open key hkey _) rfl ?_
  rintro _ w_14 ⟨b_13, rfl, hc_15, hb_16, hk_17⟩
  have h_18 := HP.gotBlk (segs := [(176, (keysL (tabL sub) key).map vu8), (256, (tabL sub).map vu8)]) h_11 hc_15 hb_16 (SsOk.cons (SOk.u8 (keysL_len ..)) (SsOk.cons (SOk.u8 (tabL_len ..)) SsOk.nil)) hk_17
  refine WL.nil ?_
  refine ⟨(SL.cons (h_18.ok _ (.tail _ (.tail _ (.head _)))) (SL.cons (h_18.ok _ (.tail _ (.tail _ (.tail _ (.head _))))) (SL.nil _ _))), ?_⟩
  refine WT.s ?_
  refine Op1.one rfl (Wn.no rfl) ?_
  refine WL.call (al := [(.pointer (some ⟨b_13, 0, none⟩)), (.agg ⟨blk.map vu8⟩)]) Try.call81 rfl rfl (c_do (keysL (tabL sub) key) (tabL sub) blk (keysL_len ..) (tabL_len ..) hbl b_13 _ (h_18.argR (.head _))) rfl ?_
  rintro _ w_20 ⟨rfl, hc_19⟩
  have h_21 := h_18.same hc_19
  refine WL.nil ?_
  refine ⟨(SL.cons (h_21.ok _ (.tail _ (.tail _ (.head _)))) (SL.cons (h_21.ok _ (.tail _ (.tail _ (.tail _ (.head _))))) (SL.nil _ _))), ?_⟩
  refine WT.s ?_
  refine Op1.one rfl (Wn.no rfl) ?_
  refine WL.storeA (b := b_7) (off := 0) [] [(16, (List.replicate 16 (0 : UInt8)).map vu8)] [(16, (encN (keysL (tabL sub) key) (tabL sub) blk 10).map vu8)] [] (ys := (encN (keysL (tabL sub) key) (tabL sub) blk 10).map vu8) h_21 rfl rfl Try.sizeOf66 (At.t At.h) (by decide) rfl rfl rfl rfl rfl rfl (SsOk.cons (SOk.u8 (encN_len (keysL_len ..) hbl (by omega))) SsOk.nil) (fun w_22 h_23 => ?_)
  refine WL.nil ?_
  refine ⟨(SL.cons (h_23.ok _ (.tail _ (.tail _ (.head _)))) (SL.cons (h_23.ok _ (.tail _ (.tail _ (.tail _ (.head _))))) (SL.nil _ _))), ?_⟩
  refine WT.nil ?_
  refine thn_n ?_
  refine WP.ret ?_
  refine ret_of Try.results60 (RV.cell rfl (h_23.loadA (cs := (encN (keysL (tabL sub) key) (tabL sub) blk 10).map vu8) Try.isAgg66 Try.sizeOf66 (.tail _ (.head _)) rfl rfl) RV.nil) ?_
  exact ⟨rfl, h_23.chgS⟩
end Go.Proofs.Ytcmgadjnammahaa
